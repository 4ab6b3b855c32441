/- What the functions of the program compute (part 2). No conditions. -/
import Derived.Test.YtfengbmckcgbiaaGreatDoorD1
set_option linter.unusedVariables false
set_option linter.unusedSimpArgs false
set_option maxRecDepth 100000
set_option maxHeartbeats 4000000
set_option linter.defProp false
set_option linter.unusedSectionVars false
open And renaming intro->lN
open Bool renaming false_and->AZ,false_or->NW,and_eq_true->ah,true_and->dS,or_eq_true->iJ,and_eq_false_iff->qo,and_false->rP,and_true->rf,eq_iff_iff->tJ,or_true->yt,true_or->zX
open Go.IntKind renaming wrap->af,bits->iQ,signed->yY
open Go.Lib renaming compareBytes->jZ,itoa->wC,indexByte->xE
open Go.Op renaming bytesLess->iR
open Int renaming tdiv_eq_ediv_of_nonneg->A8,toNat_natCast->ai,tmod->lD,tdiv->mJ,ofNat_zero->rQ,toNat_sub->tV,sub_zero->uz
open List renaming getD_cons_zero->AP,drop_eq_getElem_cons->Bz,take_append_drop->Dh,foldl_append->EJ,getElem_zip->FH,zip_append->Gj,foldl_nil->Gy,zip->Hy,set_cons_zero->Jn,mem_cons->aK,drop_of_length_le->ay,mem_cons_self->bD,mem_append->bG,map_cons->bU,range'->bV,replicate->bY,length_append->bZ,all_eq_true->bf,take_of_length_le->bz,getD_eq_getElem?_getD->cZ,getElem?_map->dG,getD->dJ,drop_zero->dM,getElem_mem->dX,getElem?_cons_succ->eX,getElem?_cons_zero->eY,mem_cons_of_mem->fJ,all_cons->fZ,mem_of_mem_take->gI,eq_nil_of_length_eq_zero->gQ,length_take->iK,length_nil->iT,length_cons->iU,not_mem_nil->iV,map_nil->jP,append_assoc->jh,take_succ_eq_append_getElem->kC,flatMap_cons->kE,mem_iff_getElem->kG,nil_append->lC,mem_of_mem_drop->lu,append_nil->mM,length_drop->nD,getD_cons_succ->nO,length_singleton->nX,drop->oM,length_pos_iff->pK,length_set->qR,mem_or_eq_of_mem_set->qg,take_length->qh,mem_singleton->sN,range'_succ->su,sum_cons->tZ,take_succ_cons->uG,map_append->vk,foldl_cons->wH,map_take->xG,length->yP,take->yQ,find?_cons->yc,cons_append->zJ,all_nil->zY,map_drop->zn
open List.cons renaming injEq->x8
open Nat renaming le_mul_of_pos_right->BP,le_max_left->CV,le_max_right->FI,pow_succ->Ij,le_refl->aC,mul_le_mul_right->aY,le_trans->bM,add_sub_cancel->jI,sub_zero->oP,mod_lt->xh
open Option renaming map_eq_some_iff->dD,map_some->kL,bind_some->kz,map_none->lQ,getD_some->lW,bind->mV,isSome_iff_exists->qy,filter->ug,filter_eq_some_iff->yj
open Option.some renaming injEq->aH
open Prod.mk renaming injEq->dF
open UInt8 renaming toNat_inj->Ah,ofNat_toNat->EK,ofNat->gz
namespace Go.Ab
open Go
theorem FZ.ins {P:Program}{f gr sz cb:Nat}{z:List Cell}(h0:sz≠0)(hK:LZ P f 3 2 (C.ins sz cb gr z) [.tmp 6]=true){es:List (List Cell)}{v:List Cell}{c i:Nat}(hc:es.length<=c)(hi:i<=es.length)(hb:(es.length+1)*(cb+sz+1)<=2^46) :
 NY P f [.one (.sub 0 0 es.length (some c) sz),.one (.c (.lit (.int .i64 (i:Int)))),.one (.own 1 1 sz)] [.dat sz es,.dat sz [v]]
  (λr1 b1=>r1 = .one (.own 2 (es.length+1) sz)/\b1=[.dead,.dat sz [v],.dat sz (es.take i++v::es.drop i)]):=by
 have hb0:es.length+1<=(es.length+1)*(cb+sz+1):=BP _ aI;have hw:af .i64 ((es.length:Int)+((1:Nat):Int))=((es.length+1:Nat):Int):=by rw[G8]<;>omega
 have hw2:af .i64 ((i:Int)+((1:Nat):Int))=((i+1:Nat):Int):=by rw[G8]<;>omega
 have hw3:af .i64 (((es.length+1:Nat):Int)-i)=((es.length+1-i:Nat):Int):=by rw[G8]<;>omega
 refine VG hK (tq ?_);unfold C.ins;have h10:(((1:Nat):Int)==0)=false:=rfl;by_cases h1:i=es.length
 ·subst h1;have he:((es.length:Int)==(es.length:Int))=true:=by simp
  simp -dsimp only[egR,nR.qi,nR.f,nR.rd,Ef,Be,lvl,zB,reduceIte,Nat.reduceEqDiff,Nat.reduceAdd,Nat.reduceLeDiff,Nat.reduceBEq,reduceCtorEq,Int.reduceBNe,Int.reduceBEq,Int.reduceLT,Int.reduceLE,Int.reduceNeg,Nat.reduceLT,Ei,Int.reduceToNat,GU,Bq,NP,Ia,Ic,HY,Ib,truncS,lQ,uz,oP,tV,rQ,dM,qh,jI,h10]
  repeat refine lN (by first|(show Az _ _ _ _=true;kernel_rfl)|(show zL _ _=true;kernel_rfl)|omega|assumption) ?_
  have e:es++[v]++oM (es.length+1) es=es++v::oM es.length es:=by simp
  have e2:es++[v]=es++v::oM es.length es:=by simp
  by_cases hr:es.length+1<=c
  ·simp -dsimp only[egR,nR.qi,nR.f,nR.rd,Ef,Be,lvl,zB,reduceIte,Nat.reduceEqDiff,Nat.reduceAdd,Nat.reduceLeDiff,Nat.reduceBEq,reduceCtorEq,Int.reduceBNe,Int.reduceBEq,Int.reduceLT,Int.reduceLE,Int.reduceNeg,Nat.reduceLT,Ei,Int.reduceToNat,GU,Bq,NP,Ia,Ic,HY,Ib,truncS,lQ,uz,oP,tV,rQ,dM,qh,jI,hr]
   repeat refine lN (by first|(show Az _ _ _ _=true;kernel_rfl)|(show zL _ _=true;kernel_rfl)|omega|assumption) ?_
   rw[e];refine Tf [] [(0,0),(1,1),(2,0)] [] (by rfl) ?_ ?_ ?_<;>(simp -dsimp only[rwR,wkB,MJ,reduceIte,Nat.reduceEqDiff,reduceCtorEq,Nat.reduceAdd,Nat.reduceLeDiff]<;>first|(simp[bz];done)|((try simp only[xG,zn,vk,bU,jP])<;>(repeat' apply lN)<;>first|rfl|(simp;done)|(simp<;>omega;done)|(congr 1;exact(bz (by simp<;>omega)).symm)))
  ·simp -dsimp only[egR,nR.qi,nR.f,nR.rd,Ef,Be,lvl,zB,reduceIte,Nat.reduceEqDiff,Nat.reduceAdd,Nat.reduceLeDiff,Nat.reduceBEq,reduceCtorEq,Int.reduceBNe,Int.reduceBEq,Int.reduceLT,Int.reduceLE,Int.reduceNeg,Nat.reduceLT,Ei,Int.reduceToNat,GU,Bq,NP,Ia,Ic,HY,Ib,truncS,lQ,uz,oP,tV,rQ,dM,qh,jI,hr]
   repeat refine lN (by first|(show Az _ _ _ _=true;kernel_rfl)|(show zL _ _=true;kernel_rfl)|omega|assumption) ?_
   rw[e2];refine Tf [] [(0,0),(1,1),(2,10)] [] (by rfl) ?_ ?_ ?_<;>(simp -dsimp only[rwR,wkB,MJ,reduceIte,Nat.reduceEqDiff,reduceCtorEq,Nat.reduceAdd,Nat.reduceLeDiff]<;>first|(simp[bz];done)|((try simp only[xG,zn,vk,bU,jP])<;>(repeat' apply lN)<;>first|rfl|(simp;done)|(simp<;>omega;done)|(congr 1;exact(bz (by simp<;>omega)).symm)))
 ·have he:((i:Int)==(es.length:Int))=false:=by simp;omega
  simp -dsimp only[egR,nR.qi,nR.f,nR.rd,Ef,Be,lvl,zB,reduceIte,Nat.reduceEqDiff,Nat.reduceAdd,Nat.reduceLeDiff,Nat.reduceBEq,reduceCtorEq,Int.reduceBNe,Int.reduceBEq,Int.reduceLT,Int.reduceLE,Int.reduceNeg,Nat.reduceLT,Ei,Int.reduceToNat,GU,Bq,NP,Ia,Ic,HY,Ib,truncS,lQ,uz,oP,tV,rQ,dM,qh,jI,h10]
  repeat refine lN (by first|(show Az _ _ _ _=true;kernel_rfl)|(show zL _ _=true;kernel_rfl)|omega|assumption) ?_
  simp -dsimp only[egR,nR.qi,nR.f,nR.rd,Ef,Be,lvl,zB,reduceIte,Nat.reduceEqDiff,Nat.reduceAdd,Nat.reduceLeDiff,Nat.reduceBEq,reduceCtorEq,Int.reduceBNe,Int.reduceBEq,Int.reduceLT,Int.reduceLE,Int.reduceNeg,Nat.reduceLT,Ei,Int.reduceToNat,GU,Bq,NP,Ia,Ic,HY,Ib,truncS,lQ,uz,oP,tV,rQ,dM,qh,jI,he];by_cases hr:es.length+1<=c
  ·have hd:decide ((c:Int)<((es.length+1:Nat):Int))=false:=(by simp;omega);simp -dsimp only[egR,nR.qi,nR.f,nR.rd,Ef,Be,lvl,zB,reduceIte,Nat.reduceEqDiff,Nat.reduceAdd,Nat.reduceLeDiff,Nat.reduceBEq,reduceCtorEq,Int.reduceBNe,Int.reduceBEq,Int.reduceLT,Int.reduceLE,Int.reduceNeg,Nat.reduceLT,Ei,Int.reduceToNat,GU,Bq,NP,Ia,Ic,HY,Ib,truncS,lQ,uz,oP,tV,rQ,dM,qh,jI,hw,hd]
   repeat refine lN (by first|(show Az _ _ _ _=true;kernel_rfl)|(show zL _ _=true;kernel_rfl)|omega|assumption) ?_
   simp -dsimp only[egR,nR.qi,nR.f,nR.rd,Ef,Be,lvl,zB,reduceIte,Nat.reduceEqDiff,Nat.reduceAdd,Nat.reduceLeDiff,Nat.reduceBEq,reduceCtorEq,Int.reduceBNe,Int.reduceBEq,Int.reduceLT,Int.reduceLE,Int.reduceNeg,Nat.reduceLT,Ei,Int.reduceToNat,GU,Bq,NP,Ia,Ic,HY,Ib,truncS,lQ,uz,oP,tV,rQ,dM,qh,jI,hw2]
   repeat refine lN (by first|(show Az _ _ _ _=true;kernel_rfl)|(show zL _ _=true;kernel_rfl)|omega|assumption) ?_
   refine lN (by simp[h0];omega) ?_;have e:=ap0 es v i aI;simp only[splice]at e;rw[e];refine Tf [] [(0,0),(1,1),(2,0)] [] (by rfl) ?_ ?_ ?_<;>(simp -dsimp only[rwR,wkB,MJ,reduceIte,Nat.reduceEqDiff,reduceCtorEq,Nat.reduceAdd,Nat.reduceLeDiff]<;>first|(simp[bz];done)|((try simp only[xG,zn,vk,bU,jP])<;>(repeat' apply lN)<;>first|rfl|(simp;done)|(simp<;>omega;done)|(congr 1;exact(bz (by simp<;>omega)).symm)))
  ·have hd:decide ((c:Int)<((es.length+1:Nat):Int))=true:=(by simp;omega);have hx:c<i+(es.length+1-i):=(by omega);have e0:i+(es.length+1-i)=es.length+1:=(by omega);have hb2:(i+(es.length+1-i))*(cb+sz+1)<=2^46:=(by rw[e0];exact hb);simp -dsimp only[egR,nR.qi,nR.f,nR.rd,Ef,Be,lvl,zB,reduceIte,Nat.reduceEqDiff,Nat.reduceAdd,Nat.reduceLeDiff,Nat.reduceBEq,reduceCtorEq,Int.reduceBNe,Int.reduceBEq,Int.reduceLT,Int.reduceLE,Int.reduceNeg,Nat.reduceLT,Ei,Int.reduceToNat,GU,Bq,NP,Ia,Ic,HY,Ib,truncS,lQ,uz,oP,tV,rQ,dM,qh,jI,hw,hd,hw2,hw3]
   repeat refine lN (by first|(show Az _ _ _ _=true;kernel_rfl)|(show zL _ _=true;kernel_rfl)|omega|assumption) ?_
   refine lN (by simp[h0];omega) ?_
   repeat refine lN (by first|(show Az _ _ _ _=true;kernel_rfl)|(show zL _ _=true;kernel_rfl)|omega|assumption) ?_
   refine lN ⟨aI,by simp;omega⟩ ?_
   repeat refine lN (by first|(show Az _ _ _ _=true;kernel_rfl)|(show zL _ _=true;kernel_rfl)|omega|assumption) ?_
   have e:=ap1 es v z i _ aI rfl;simp only[splice]at e;have e0:i+(es.length+1-i)=es.length+1:=(by omega);rw[e,e0];refine Tf [] [(0,0),(1,1),(2,11)] [] (by rfl) ?_ ?_ ?_<;>(simp -dsimp only[rwR,wkB,MJ,reduceIte,Nat.reduceEqDiff,reduceCtorEq,Nat.reduceAdd,Nat.reduceLeDiff]<;>first|(simp[bz];done)|((try simp only[xG,zn,vk,bU,jP])<;>(repeat' apply lN)<;>first|rfl|(simp;done)|(simp<;>omega;done)|(congr 1;exact(bz (by simp<;>omega)).symm)))
theorem FZ.del {P:Program}{f sz cb:Nat}{z:List Cell}(h0:sz≠0)(hK:LZ P f 3 1 (C.del sz cb z) [.tmp 6]=true){es:List (List Cell)}{c i j:Nat}(hc:es.length<=c)(hi:i<j)(hj:j<=es.length)(hb:es.length*(cb+sz+1)<=2^46) :
 NY P f [.one (.sub 0 0 es.length (some c) sz),.one (.c (.lit (.int .i64 (i:Int)))),.one (.c (.lit (.int .i64 (j:Int))))] [.dat sz es]
  (λr1 b1=>r1 = .one (.sub 1 0 (i+(es.length-j)) (some c) sz)/\b1=[.dead,.dat sz (es.take i++es.drop j)]):=by
 have hb0:es.length<=es.length*(cb+sz+1):=BP _ aI;refine VG hK (tq ?_);unfold C.del;have he:((i:Int)==(j:Int))=false:=by simp;omega
 have ht:yQ (es.length-j) (oM j es)=oM j es:=bz mg;have hr:i+(es.length-j)<=c:=by omega
 simp -dsimp only[egR,nR.qi,nR.f,nR.rd,Ef,Be,lvl,zB,reduceIte,Nat.reduceEqDiff,Nat.reduceAdd,Nat.reduceLeDiff,Nat.reduceBEq,reduceCtorEq,Int.reduceBNe,Int.reduceBEq,Int.reduceLT,Int.reduceLE,Int.reduceNeg,Nat.reduceLT,Ei,Int.reduceToNat,GU,Bq,NP,Ia,Ic,HY,Ib,truncS,lQ,uz,oP,tV,rQ,dM,qh,jI,he]
 repeat refine lN (by first|(show Az _ _ _ _=true;kernel_rfl)|(show zL _ _=true;kernel_rfl)|omega|assumption) ?_
 simp -dsimp only[egR,nR.qi,nR.f,nR.rd,Ef,Be,lvl,zB,reduceIte,Nat.reduceEqDiff,Nat.reduceAdd,Nat.reduceLeDiff,Nat.reduceBEq,reduceCtorEq,Int.reduceBNe,Int.reduceBEq,Int.reduceLT,Int.reduceLE,Int.reduceNeg,Nat.reduceLT,Ei,Int.reduceToNat,GU,Bq,NP,Ia,Ic,HY,Ib,truncS,lQ,uz,oP,tV,rQ,dM,qh,jI,ht,nD,hr]
 repeat refine lN (by first|(show Az _ _ _ _=true;kernel_rfl)|(show zL _ _=true;kernel_rfl)|omega|assumption) ?_
 refine lN (by simp[h0];omega) ?_;have e4:(yQ i es).length=i:=by simp;omega
 have e:yQ (i+(es.length-j)) (yQ i es++oM j es++oM (i+(es.length-j)) es)=yQ i es++oM j es:=by
  have e5:(yQ i es++oM j es).length=i+(es.length-j):=by rw[bZ,e4,nD]
  rw[List.take_append_of_le_length aI,bz aI]
 rw[e,jh];generalize bY (es.length-(i+(es.length-j))) z++oM (i+(es.length-j)+(es.length-(i+(es.length-j)))) (yQ i es++oM j es++oM (i+(es.length-j)) es)=T;generalize yQ i es++oM j es=A;refine Tf [] [(0,0),(1,0)] [] (by rfl) ?_ ?_ ?_<;>(simp -dsimp only[rwR,wkB,MJ,reduceIte,Nat.reduceEqDiff,reduceCtorEq,Nat.reduceAdd,Nat.reduceLeDiff]<;>first|(simp[bz];done)|((try simp only[xG,zn,vk,bU,jP])<;>(repeat' apply lN)<;>first|rfl|(simp;done)|(simp<;>omega;done)|(congr 1;exact(bz (by simp<;>omega)).symm)))
theorem FG.ins {α:Type}(enc:α->List Cell){P:Program}{f gr sz cb:Nat}{z:List Cell}(h0:sz≠0)(hK:LZ P f 3 2 (C.ins sz cb gr z) [.tmp 6]=true){s v r:List α}{i:Int}
 (h:chk (0<=i/\i<=(s.length:Int)/\v.length=1/\(s.length+1)*(cb+sz+1)<=2^46) (some (s.take i.toNat++v++s.drop i.toNat))=some r) (hk:aiv P f sz=true:=by kernel_rfl) :
 pO P f [.one (.own 0 s.length sz),.one (.c (.lit (.int .i64 i))),.one (.own 1 v.length sz)] [.dat sz (List.map enc s),.dat sz (List.map enc v)]
  (λr1 b1=>r1 = .one (.own 2 r.length sz)/\b1=[.dead,.dat sz (List.map enc v),.dat sz (List.map enc r)]):=by
 obtain⟨⟨q1,q2,q3,q4⟩,h⟩:=Es.1 h;cases h;obtain⟨x,rfl⟩:=List.length_eq_one_iff.1 q3;obtain⟨k,rfl⟩:∃k:Nat,i=k:=⟨i.toNat,by omega⟩;have hf:=ak9 hk (es:=List.map enc s) (v:=enc x) (i:=k) (by rw[List.length_map];omega) (λls lv c hl hc=>by rw[List.length_map]at hl hc;have:=FZ.ins h0 hK (es:=lits ls) (v:=lv.map .lit) (c:=c) (i:=k) (by rw[Ez];omega) (by rw[Ez];omega) (by rw[Ez,hl];exact q4);rw[Ez]at this;simpa[lits]using this)
 have e1:(List.take k s++[x]++List.drop k s).length=s.length+1:=by simp;omega
 rw[Int.toNat_natCast,e1];simpa using hf
theorem FG.del {α:Type}(enc:α->List Cell){P:Program}{f sz cb:Nat}{z:List Cell}(h0:sz≠0)(hK:LZ P f 3 1 (C.del sz cb z) [.tmp 6]=true){s r:List α}{i j:Int}
 (h:chk (0<=i/\i<j/\j<=(s.length:Int)/\s.length*(cb+sz+1)<=2^46) (some (s.take i.toNat++s.drop j.toNat))=some r) (hk:ahU P f sz=true:=by kernel_rfl) :
 pO P f [.one (.own 0 s.length sz),.one (.c (.lit (.int .i64 i))),.one (.c (.lit (.int .i64 j)))] [.dat sz (List.map enc s)]
  (λr1 b1=>r1 = .one (.own 1 r.length sz)/\b1=[.dead,.dat sz (List.map enc r)]):=by
 obtain⟨⟨q1,q2,q3,q4⟩,h⟩:=Es.1 h;cases h;obtain⟨k,rfl⟩:∃k:Nat,i=k:=⟨i.toNat,by omega⟩;obtain⟨l,rfl⟩:∃l:Nat,j=l:=⟨j.toNat,by omega⟩;have hf:=ak8 hk (es:=List.map enc s) (i:=k) (j:=l) (by omega) (by rw[List.length_map];omega) (λls c hl hc=>by rw[List.length_map]at hl hc;have:=FZ.del h0 hK (es:=lits ls) (c:=c) (i:=k) (j:=l) (by rw[Ez];omega) (by omega) (by rw[Ez];omega) (by rw[Ez,hl];exact q4);rw[Ez]at this;simpa[lits]using this)
 have e1:(List.take k s++List.drop l s).length=k+(s.length-l):=by simp;omega
 rw[Int.toNat_natCast,Int.toNat_natCast,e1];simpa using hf
section
def Ev {α:Type}(g:Nat->Option α)(r:α):Prop:=∃N,∀n,N<=n->g n=some r
section
variable {α β:Type} {g g':Nat->Option α} {r s:α}
theorem bK (r:α):Ev (λ_=>some r) r:=⟨0,λ_ _=>rfl⟩
theorem aQ (h:s=r):Ev (λ_=>some s) r:=by subst h;exact bK _
theorem aN (h:Ev (λn=>g (n+1)) r):Ev g r:=by obtain⟨N,h⟩:=h;refine⟨N+1,λn hn=>?_⟩;obtain⟨m,rfl⟩:∃m,n=m+1:=⟨n-1,aI⟩;exact h m aI
theorem ak {h:Nat->Option β}{k:Nat->β->Option α}{a:β}(h1:Ev h a)(h2:Ev (λn=>k n a) r):Ev (λn=>mV (h n) (k n)) r:=by obtain⟨N,h1⟩:=h1;obtain⟨M,h2⟩:=h2;refine⟨max N M,λn hn=>?_⟩;show mV (h n) (k n)=some r;rw[h1 n aI];exact h2 n aI
theorem um {p:Prop}[Decidable p](hp:p)(h:Ev g r):Ev (λn=>Ab.chk p (g n)) r:=by obtain⟨N,h⟩:=h;exact⟨N,λn hn=>by show Ab.chk p (g n)=some r;rw[Ab.chk,aA hp];exact h n hn⟩
theorem dR {c:Bool}(hc:c=true)(h:Ev g r):Ev (λn=>cond c (g n) (g' n)) r:=by subst hc;exact h
theorem dB {c:Bool}(hc:c=false)(h:Ev g' r):Ev (λn=>cond c (g n) (g' n)) r:=by subst hc;exact h
theorem dw {p:Prop}[Decidable p](h:Ev g r)(hp:p:=by omega):Ev (λn=>Ab.chk p (g n)) r:=um hp h
theorem rW {p:Prop}[Decidable p](h:Ev g r)(hp:p:=by omega):Ev (λn=>cond (decide p) (g n) (g' n)) r:=dR (dW hp) h
theorem rX {p:Prop}[Decidable p](h:Ev g' r)(hp:¬p:=by omega):Ev (λn=>cond (decide p) (g n) (g' n)) r:=dB (bg hp) h
theorem dh {c:Bool}(h:c=true->Ev g r)(h':c=false->Ev g' r):Ev (λn=>cond c (g n) (g' n)) r:=by
 cases c
 ·exact h' rfl
 ·exact h rfl
theorem Ev.eq (h:Ev g r)(e:r=s):Ev g s:=e▸h
theorem Ev.val (h:Ev g r):∃n,g n=some r:=⟨h.choose,h.choose_spec _ (aC _)⟩
end
theorem wrapN {x:Int}{m:Nat}(h:x=(m:Int))(h1:m<9223372036854775808):af .i64 x=(m:Int):=by rw[G8 aI aI,h]
theorem tC {i:Nat}(h1:i+1<9223372036854775808):af .i64 ((i:Int)+1)=((i+1:Nat):Int):=wrapN aI h1
theorem FC (i:Nat)(h1:i+1<9223372036854775808:=by omega):IntKind.wrap .i64 ((i:Int)+1)=((i+1:Nat):Int):=tC h1
theorem iD {α:Type}{l:List α}{i:Nat}(d:α)(h:i<l.length):l.getD i d=l[i]:=by simp[dJ,h]
theorem gm {α:Type}{l:List α}{i:Nat}(d:α)(h:i<l.length):l.drop i=l.getD i d::l.drop (i+1):=by rw[iD d h,Bz h]
abbrev bl (x y:List UInt8):Bool:=iR x y
theorem acr (x:List UInt8):bl x []=false:=by cases x<;>rfl
theorem UF (a b:UInt8)(x y:List UInt8):bl (a::x) (b::y)=(decide (a<b)||(a==b&&bl x y)):=rfl
theorem RD : ∀x:List UInt8,bl x x=false
 |[]=>rfl
 |a::x=>by rw[UF,RD x];simp
theorem DX : ∀{x y z:List UInt8},bl x y=true->bl y z=true->bl x z=true
 |_,[],_,h,_=>by rw[acr]at h;cases h
 |_,_::_,[],_,h=>by rw[acr]at h;cases h
 |[],_::_,_::_,_,_=>rfl
 | a::x,b::y,c::z,h,k=>by
   rw[UF]at *;simp only[iJ,ah,aF,aZ]at *;rcases h with h|⟨rfl,h⟩<;>rcases k with k|⟨rfl,k⟩
   ·exact .inl (UInt8.lt_trans h k)
   ·exact .inl h
   ·exact .inl k
   ·exact .inr ⟨rfl,DX h k⟩
theorem Pg : ∀{x y:List UInt8},bl x y=false->bl y x=false->x=y
 |[],[],_,_=>rfl
 |[],_::_,h,_=>by cases h
 |_::_,[],_,h=>by cases h
 | a::x,b::y,h,k=>by
   rw[UF]at *;simp only[Bool.or_eq_false_iff,qo,dn]at *;obtain⟨h1,h2⟩:=h;obtain⟨k1,k2⟩:=k;have e:a=b:=by apply Ah.1;simp only[UInt8.lt_iff_toNat_lt]at h1 k1;omega
   subst e;simp only[beq_self_eq_true,Bool.true_eq_false,false_or]at h2 k2;rw[Pg h2 k2]
theorem U6 {x y:List UInt8}(h:bl x y=true):bl y x=false:=by
 cases k:bl y x with
 |false=>rfl
 |true=>have:=DX h k;rw[RD]at this;cases this
theorem Jr {x y:List UInt8}(h:bl x y=true):x≠y:=by intro e;subst e;rw[RD]at h;cases h
theorem aml : ∀(x y:List UInt8),jZ x y=if bl x y then -1 else if x=y then 0 else 1
 |[],[]=>rfl
 |[],_::_=>rfl
 |_::_,[]=>by simp[jZ,acr]
 | a::x,b::y=>by
   rw[jZ,UF];by_cases h:a<b
   ·simp[h]
   ·by_cases k:b<a
    ·have:a≠b:=λe=>(by subst e;exact h k);simp[h,k,this]
    ·have e:a=b:=by
      apply Ah.1;simp only[UInt8.lt_iff_toNat_lt]at h k;omega
     subst e;rw[au h,au h,aml x y];simp
theorem XG {x y:List UInt8} : jZ x y=0<->x=y:=by
 rw[aml];by_cases h:bl x y=true
 ·simp only[h,jY];exact⟨λe=>by omega,λe=>eF e (Jr h)⟩
 ·simp only[h];by_cases e:x=y<;>simp[e]
end
def okB (b:UInt8):Bool:=decide (32<=b.toNat)&&decide (b.toNat<=126)
def PT (s:fD):Bool:=s.all okB&&decide (s.length<=12)
def PP (p:List fD):Bool:=p.all PT&&decide (p.length<=5)
def Asc : List fD->Bool
 |[]=>true
 |[_]=>true
 |x::y::r=>iR x y&&Asc (y::r)
def big : Nat:=4611686018427387904
theorem Ko (b:UInt8):af .i64 (b.toNat:Int)=(b.toNat:Int):=by have:=b.toNat_lt;exact wrapN rfl aI
theorem T.iP (a lo hi:Int):Ev (λn=>G.iP n a lo hi) (decide (lo<=a)&&decide (a<=hi)):=by
 refine aN ?_;simp only[G.iP];refine dh (λh=>?_) (λh=>?_)
 ·exact aQ (by rw[h,dS])
 ·exact aQ (by rw[h,AZ])
theorem T.jc.L1 (s:fD)(hs:s.length<big):∀(k i:Nat),i+k=s.length->Ev (λn=>G.jc.L1 n s i) ((s.drop i).all okB&&decide (s.length<=12)):=by
 unfold big at hs;intro k
 induction k with
 | zero=>intro i hi;refine aN ?_;simp only[G.jc.L1];refine dB (by simp;omega) (aQ ?_);rw[ay aI];simp;omega
 | succ k ih=>
   intro i hi;refine aN ?_;simp only[G.jc.L1];refine dR (by simp;omega) (dw ?_);refine ak (T.iP _ _ _) ?_;rw[gm (0:UInt8) (by omega:i<s.length),fZ,ai,Ko];have e:(decide ((32:Int)<=((s.getD i 0).toNat:Int))&&decide (((s.getD i 0).toNat:Int)<=126))=okB (s.getD i 0):=(by unfold okB;congr 1<;>(apply decide_eq_decide.2;omega));rw[e];refine dh (λh=>?_) (λh=>?_)
   ·rw[tC aI,h,dS];exact ih (i+1) aI
   ·exact aQ (by rw[h];rfl)
theorem T.jc (s:fD)(hs:s.length<big):Ev (λn=>G.jc n s) (PT s):=by refine aN ?_;simp only[G.jc];exact T.jc.L1 s hs s.length 0 aI
theorem T.gK.L1 (s:fD)(hs:s.length<big):∀(k i:Nat),i+k=s.length->Ev (λn=>G.gK.L1 n s i) ((s.drop i).all okB):=by
 unfold big at hs;intro k
 induction k with
 | zero=>intro i hi;refine aN ?_;simp only[G.gK.L1];refine dB (by simp;omega) (aQ ?_);rw[ay aI];rfl
 | succ k ih=>
   intro i hi;refine aN ?_;simp only[G.gK.L1];rw[gm (0:UInt8) (by omega:i<s.length),fZ,ai];refine dR (by simp;omega) (dw ?_);refine dh (λh=>?_) (λh=>?_)
   ·refine aQ ?_;have:okB (s.getD i 0)=false:=by
     simp only[aF]at h;simp only[okB,qo,dn];omega
    rw[this];rfl
   ·refine dw ?_;refine dh (λk=>?_) (λk=>?_)
    ·refine aQ ?_;have:okB (s.getD i 0)=false:=by
      simp only[aF]at k;simp only[okB,qo,dn];omega
     rw[this];rfl
    ·have:okB (s.getD i 0)=true:=by
      simp only[dn]at h k;simp only[okB,ah,aF];omega
     rw[this,dS,tC aI];exact ih (i+1) aI
theorem T.gK (s:fD)(hs:s.length<big):Ev (λn=>G.gK n s) (PT s):=by
 refine aN ?_;simp only[G.gK];refine dh (λh=>?_) (λh=>?_)
 ·simp only[aF]at h;refine aQ ?_;have:decide (s.length<=12)=false:=by simp;omega
  rw[PT,this,rP]
 ·simp only[dn]at h;refine(T.gK.L1 s hs s.length 0 aI).eq ?_;have:decide (s.length<=12)=true:=by simp;omega
  rw[PT,this,rf,dM]
def Sm (l:List fD):Prop:=l.length<big/\∀s,s∈l->s.length<big
theorem Sm.get {l:List fD}(h:Sm l){i:Nat}(hi:i<l.length):(l.getD i default).length<big:=by rw[iD _ hi];exact h.2 _ (dX hi)
theorem T.jX.L1 (p:List fD)(hp:Sm p):∀(k i:Nat),i+k=p.length->Ev (λn=>G.jX.L1 n p i) ((p.drop i).all PT&&decide (p.length<=5)):=by
 have hl:=hp.1;unfold big at hl;intro k
 induction k with
 | zero=>intro i hi;refine aN ?_;simp only[G.jX.L1];refine dB (by simp;omega) (aQ ?_);rw[ay aI];simp;omega
 | succ k ih=>
   intro i hi;refine aN ?_;simp only[G.jX.L1];refine dR (by simp;omega) (dw ?_);rw[gm (default:fD) (by omega:i<p.length),fZ,ai];refine ak (T.jc _ (hp.get aI)) ?_;refine dh (λh=>?_) (λh=>?_)
   ·rw[tC aI,h,dS];exact ih (i+1) aI
   ·exact aQ (by rw[h];rfl)
theorem T.jX (p:List fD)(hp:Sm p):Ev (λn=>G.jX n p) (PP p):=by refine aN ?_;simp only[G.jX];exact T.jX.L1 p hp p.length 0 aI
theorem T.jq.L1 (p:List fD)(hp:Sm p):∀(k i:Nat),i+k=p.length->Ev (λn=>G.jq.L1 n p i) ((p.drop i).all PT):=by
 have hl:=hp.1;unfold big at hl;intro k
 induction k with
 | zero=>intro i hi;refine aN ?_;simp only[G.jq.L1];refine dB (by simp;omega) (aQ ?_);rw[ay aI];rfl
 | succ k ih=>
   intro i hi;refine aN ?_;simp only[G.jq.L1];refine dR (by simp;omega) (dw ?_);rw[gm (default:fD) (by omega:i<p.length),fZ,ai];refine ak (T.gK _ (hp.get aI)) ?_;refine dh (λh=>?_) (λh=>?_)
   ·rw[tC aI,h,dS];exact ih (i+1) aI
   ·exact aQ (by rw[h];rfl)
theorem T.jq (p:List fD)(hp:Sm p):Ev (λn=>G.jq n p) (PP p):=by
 refine aN ?_;simp only[G.jq];refine dh (λh=>?_) (λh=>?_)
 ·simp only[aF]at h;refine aQ ?_;have:decide (p.length<=5)=false:=by simp;omega
  rw[PP,this,rP]
 ·simp only[dn]at h;refine(T.jq.L1 p hp p.length 0 aI).eq ?_;have:decide (p.length<=5)=true:=by simp;omega
  rw[PP,this,rf,dM]
def NM (l:List fD):Bool:=l.all PT&&Asc l
theorem drop_pred {l:List fD}{i:Nat}(h0:0<i)(h:i<l.length):l.drop (i-1)=l.getD (i-1) default::l.getD i default::l.drop (i+1):=by rw[gm (default:fD) (by omega:i-1<l.length),show i-1+1=i by omega,gm (default:fD) h]
theorem T.pI.L1 (l:List fD)(hp:Sm l):∀(k i:Nat),i+k=l.length->Ev (λn=>G.pI.L1 n l i) ((l.drop i).all PT&&Asc (l.drop (i-1))):=by
 have hl:=hp.1;unfold big at hl;intro k
 induction k with
 | zero=>
   intro i hi;refine aN ?_;simp only[G.pI.L1];refine dB (by simp;omega) (aQ ?_);rw[ay aI];by_cases h0:i=0
   ·rw[ay aI];rfl
   ·rw[gm (default:fD) (by omega:i-1<l.length),ay aI];rfl
 | succ k ih=>
   intro i hi;refine aN ?_;simp only[G.pI.L1];refine dR (by simp;omega) (dw ?_);rw[gm (default:fD) (by omega:i<l.length),fZ,ai];refine ak (T.jc _ (hp.get aI)) ?_;refine dh (λh=>?_) (λh=>?_)
   ·rw[h,dS,tC aI];refine dh (λh0=>?_) (λh0=>?_)
    ·simp only[aF]at h0;have e:af .i64 ((i:Int)-1)=((i-1:Nat):Int):=wrapN aI aI;rw[e,ai];refine dw (dw ?_);rw[drop_pred aI aI,Asc];have hd:l.getD i default::l.drop (i+1)=l.drop (i+1-1):=(by rw[jI,<- gm (default:fD) (by omega:i<l.length)]);refine dh (λh1=>?_) (λh1=>?_)
     ·exact aQ (by rw[show iR (l.getD (i-1) default) (l.getD i default)=false from U6 h1];simp)
     ·refine dh (λh2=>?_) (λh2=>?_)
      ·rw[aZ]at h2;exact aQ (by rw[show iR (l.getD (i-1) default) (l.getD i default)=false by rw[h2];exact RD _];simp)
      ·have:iR (l.getD (i-1) default) (l.getD i default)=true:=by
        cases hb:iR (l.getD (i-1) default) (l.getD i default)with
        |true=>rfl
        |false=>rw[Pg h1 hb]at h2;simp at h2
       rw[this,dS,hd];exact ih (i+1) aI
    ·simp only[dn]at h0;have:i=0:=(by omega);subst this;exact ih 1 aI
   ·exact aQ (by rw[h];rfl)
theorem T.pI (l:List fD)(hp:Sm l):Ev (λn=>G.pI n l) (NM l):=by refine aN ?_;simp only[G.pI];exact T.pI.L1 l hp l.length 0 aI
theorem T.kM.L1 (l:List fD)(hp:Sm l):∀(k i:Nat),i+k=l.length->Ev (λn=>G.kM.L1 n l i) ((l.drop i).all PT&&Asc (l.drop (i-1))):=by
 have hl:=hp.1;unfold big at hl;intro k
 induction k with
 | zero=>
   intro i hi;refine aN ?_;simp only[G.kM.L1];refine dB (by simp;omega) (aQ ?_);rw[ay aI];by_cases h0:i=0
   ·rw[ay aI];rfl
   ·rw[gm (default:fD) (by omega:i-1<l.length),ay aI];rfl
 | succ k ih=>
   intro i hi;refine aN ?_;simp only[G.kM.L1];refine dR (by simp;omega) (dw ?_);rw[gm (default:fD) (by omega:i<l.length),fZ,ai];refine ak (T.gK _ (hp.get aI)) ?_;refine dh (λh=>?_) (λh=>?_)
   ·rw[h,dS,tC aI];refine dh (λh0=>?_) (λh0=>?_)
    ·simp only[aF]at h0;have e:af .i64 ((i:Int)-1)=((i-1:Nat):Int):=wrapN aI aI;rw[e,ai];refine dw ?_;rw[drop_pred aI aI,Asc];have hd:l.getD i default::l.drop (i+1)=l.drop (i+1-1):=(by rw[jI,<- gm (default:fD) (by omega:i<l.length)]);refine dh (λh1=>?_) (λh1=>?_)
     ·rw[h1,dS,hd];exact ih (i+1) aI
     ·exact aQ (by rw[h1];simp)
    ·simp only[dn]at h0;have:i=0:=(by omega);subst this;exact ih 1 aI
   ·exact aQ (by rw[h];rfl)
theorem T.kM (l:List fD)(hp:Sm l):Ev (λn=>G.kM n l) (NM l&&decide (l.length<=6)):=by
 refine aN ?_;simp only[G.kM];refine dh (λh=>?_) (λh=>?_)
 ·simp only[aF]at h;refine aQ ?_;have:decide (l.length<=6)=false:=by simp;omega
  rw[this,rP]
 ·simp only[dn]at h;refine(T.kM.L1 l hp l.length 0 aI).eq ?_;have:decide (l.length<=6)=true:=by simp;omega
  rw[NM,this,rf,dM]
def Fine (B:Nat):Nat->aj->Prop
 |0,_=>False
 |d+1,n=>n.lI.length<=B/\n.aO.length<=B/\(∀s,s∈n.aO->s.length<=B)/\n.aP.length<=B/\(n.bQ=4->n.aP.length<=n.aO.length)/\∀k,k∈n.aP->Fine B d k
def Ar (B:Nat):Nat->aj->Prop
 |0,_=>False
 |d+1,n=>n.lI.length<=B/\n.aO.length<=B/\(∀s,s∈n.aO->s.length<=B)/\n.aP.length<=B/\True/\∀k,k∈n.aP->Ar B d k
theorem Fine.fin0 {B:Nat} : ∀{d:Nat} {n:aj},Fine B d n->Ar B d n
 |0,_,h=>h
 |d+1,n,⟨h1,h2,h3,h4,_,h6⟩=>⟨h1,h2,h3,h4,trivial,λk hk=>(h6 k hk).fin0⟩
theorem Fine.mono {B C:Nat}(hB:B<=C):∀{d e:Nat} {n:aj},d<=e->Fine B d n->Fine C e n
 |0,_,_,_,h=>h.elim
 |d+1,0,_,hd,_=>by omega
 | d+1,e+1,n,hd,h=>by obtain⟨h1,h2,h3,h4,h5,h6⟩:=h;exact⟨aI,aI,λs hs=>bM (h3 s hs) hB,aI,h5,λk hk=>(h6 k hk).mono hB aI⟩
theorem Ar.mono {B C:Nat}(hB:B<=C):∀{d e:Nat} {n:aj},d<=e->Ar B d n->Ar C e n
 |0,_,_,_,h=>h.elim
 |d+1,0,_,hd,_=>by omega
 | d+1,e+1,n,hd,h=>by obtain⟨h1,h2,h3,h4,h5,h6⟩:=h;exact⟨aI,aI,λs hs=>bM (h3 s hs) hB,aI,h5,λk hk=>(h6 k hk).mono hB aI⟩
def lim : Nat:=4294967296
theorem Fine.sm {B d:Nat}{n:aj}(hB:B<=lim)(h:Fine B d n):Sm n.aO:=by
 cases d with
 |zero=>exact h.elim
 | succ d=>obtain⟨h1,h2,h3,h4,h5,h6⟩:=h;unfold lim at hB;exact⟨by unfold big;omega,λs hs=>by have:=h3 s hs;unfold big;omega⟩
theorem Ar.sm {B d:Nat}{n:aj}(hB:B<=lim)(h:Ar B d n):Sm n.aO:=by
 cases d with
 |zero=>exact h.elim
 | succ d=>obtain⟨h1,h2,h3,h4,h5,h6⟩:=h;unfold lim at hB;exact⟨by unfold big;omega,λs hs=>by have:=h3 s hs;unfold big;omega⟩
theorem Fine.text {B d:Nat}{n:aj}(hB:B<=lim)(h:Fine B d n):n.lI.length<big:=by
 cases d with
 |zero=>exact h.elim
 |succ d=>obtain⟨h1,_⟩:=h;unfold lim at hB;unfold big;omega
theorem Ar.text {B d:Nat}{n:aj}(hB:B<=lim)(h:Ar B d n):n.lI.length<big:=by
 cases d with
 |zero=>exact h.elim
 |succ d=>obtain⟨h1,_⟩:=h;unfold lim at hB;unfold big;omega
theorem Fine.kids {B d:Nat}{n:aj}(h:Fine B d n):n.aP.length<=B:=by
 cases d with
 |zero=>exact h.elim
 |succ d=>exact h.2.2.2.1
theorem Ar.kids {B d:Nat}{n:aj}(h:Ar B d n):n.aP.length<=B:=by
 cases d with
 |zero=>exact h.elim
 |succ d=>exact h.2.2.2.1
theorem Fine.names {B d:Nat}{n:aj}(h:Fine B d n):n.aO.length<=B:=by
 cases d with
 |zero=>exact h.elim
 |succ d=>exact h.2.1
theorem Ar.names {B d:Nat}{n:aj}(h:Ar B d n):n.aO.length<=B:=by
 cases d with
 |zero=>exact h.elim
 |succ d=>exact h.2.1
theorem Fine.map {B d:Nat}{n:aj}(h:Fine B d n)(hk:n.bQ=4):n.aP.length<=n.aO.length:=by
 cases d with
 |zero=>exact h.elim
 |succ d=>exact h.2.2.2.2.1 hk
theorem Fine.kid {B d:Nat}{n:aj}(h:Fine B (d+1) n){i:Nat}(hi:i<n.aP.length):Fine B d (n.aP.getD i default):=by rw[iD _ hi];exact h.2.2.2.2.2 _ (dX hi)
theorem Ar.kid {B d:Nat}{n:aj}(h:Ar B (d+1) n){i:Nat}(hi:i<n.aP.length):Ar B d (n.aP.getD i default):=by rw[iD _ hi];exact h.2.2.2.2.2 _ (dX hi)
def Parts (n:aj):Bool:=
 (n.bQ==1||n.wL==0)&&(n.bQ==2||n.lI==[])&&(n.bQ==4||n.aO.length==0) &&
 (if n.bQ=0 then n.aP.length==0 else if n.bQ=1 then(decide (-999999<=n.wL)&&decide (n.wL<=999999))&&n.aP.length==0 else if n.bQ=2 then PT n.lI&&n.aP.length==0
  else if n.bQ=3 then decide (n.aP.length<=6)else if n.bQ=4 then NM n.aO&&decide (n.aO.length<=6)&&n.aP.length==n.aO.length else false)
def Shape : Nat->aj->Bool
 |0,_=>false
 |d+1,n=>Parts n&&n.aP.all (Shape d)
theorem ilen {a b:Nat} : ((a:Int)==(b:Int))=(a==b):=by rw[tJ];simp;omega
theorem aou {a:Nat} : ((a:Int)==0)=(a==0):=by rw[tJ];simp
theorem Nq {a b:Nat} : decide ((a:Int)<=(b:Int))=decide (a<=b):=by rw[tJ];simp
def O1 (n:aj):Bool:=
 (n.bQ==4||n.aO.length==0) &&
 (if n.bQ=0 then n.aP.length==0 else if n.bQ=1 then(decide (-999999<=n.wL)&&decide (n.wL<=999999))&&n.aP.length==0 else if n.bQ=2 then PT n.lI&&n.aP.length==0
  else if n.bQ=3 then decide (n.aP.length<=6)else if n.bQ=4 then NM n.aO&&decide (n.aO.length<=6)&&n.aP.length==n.aO.length else false)
theorem ahp (n:aj):Parts n=((n.bQ==1||n.wL==0)&&(n.bQ==2||n.lI==[])&&O1 n):=by unfold Parts O1;simp only[Bool.and_assoc]
theorem T0.gV.K1 {B d:Nat}{n:aj}(hB:B<=lim)(h:Ar B d n):Ev (λf=>G.gV.K1 f n) (O1 n):=by
 refine aN ?_;simp only[G.gV.K1];have ht:=T.gK _ (h.text hB);have hn:=T.kM _ (h.sm hB);have h0:decide ((0:Int)<(n.aO.length:Int)) = !(n.aO.length==0):=by cases hq:n.aO.length<;>simp
 have h6:decide ((n.aP.length:Int)<=6)=decide (n.aP.length<=6):=by rw[tJ];simp;omega
 rw[h0];have tail:Ev (λf=>cond (n.bQ==0) (some ((n.aP.length:Int)==0)) (cond (n.bQ==1) (cond (decide ((-999999)<=n.wL)) (cond (decide (n.wL<=999999)) (some ((n.aP.length:Int)==0)) (some false)) (some false))
  (cond (n.bQ==2) (mV (G.gK f n.lI) λv3=>cond v3 (some ((n.aP.length:Int)==0)) (some false))
  (cond (n.bQ==3) (some (decide ((n.aP.length:Int)<=6))) (cond (n.bQ==4) (mV (G.kM f n.aO) λv4=>cond v4 (some ((n.aP.length:Int)==(n.aO.length:Int))) (some false)) (some false))))))
  (if n.bQ=0 then n.aP.length==0 else if n.bQ=1 then(decide (-999999<=n.wL)&&decide (n.wL<=999999))&&n.aP.length==0 else if n.bQ=2 then PT n.lI&&n.aP.length==0
   else if n.bQ=3 then decide (n.aP.length<=6)else if n.bQ=4 then NM n.aO&&decide (n.aO.length<=6)&&n.aP.length==n.aO.length else false):=by
  rw[aou,ilen,h6];refine dh (λe=>aQ ?_) (λe0=>?_)
  ·rw[aA (by simpa using e)]
  rw[au (by simpa using e0)];refine dh (λe=>?_) (λe1=>?_)
  ·rw[aA (by simpa using e)];refine dh (λk=>dh (λk2=>aQ ?_) (λk2=>aQ ?_)) (λk=>aQ ?_)
   ·rw[k,k2];simp
   ·rw[k2];simp
   ·rw[k];simp
  rw[au (by simpa using e1)];refine dh (λe=>?_) (λe2=>?_)
  ·rw[aA (by simpa using e)];refine ak ht (dh (λk=>aQ ?_) (λk=>aQ ?_))
   ·rw[k,dS]
   ·rw[k,AZ]
  rw[au (by simpa using e2)];refine dh (λe=>aQ ?_) (λe3=>?_)
  ·rw[aA (by simpa using e)]
  rw[au (by simpa using e3)];refine dh (λe=>?_) (λe4=>aQ ?_)
  ·rw[aA (by simpa using e)];refine ak hn (dh (λk=>aQ ?_) (λk=>aQ ?_))
   ·rw[k,dS]
   ·rw[k,AZ]
  ·rw[au (by simpa using e4)]
 refine dh (λe=>?_) (λe=>?_)
 ·have e':(n.bQ==4)=false:=by simpa using e
  refine dh (λk=>aQ ?_) (λk=>?_)
  ·rw[Bool.not_eq_true']at k;rw[O1,e',k];rfl
  ·rw[Bool.not_eq_false']at k;exact tail.eq (by rw[O1,k,yt,dS])
 ·have e':(n.bQ==4)=true:=by simpa using e
  exact tail.eq (by rw[O1,e',zX,dS])
theorem T0.gV {B d:Nat}{n:aj}(hB:B<=lim)(h:Ar B d n):Ev (λf=>G.gV f n) (Parts n):=by
 refine aN ?_;simp only[G.gV];have hk:=T0.gV.K1 hB h;rw[ahp];have tail:Ev (λf=>cond (n.bQ != 2) (cond (n.lI==[]) (G.gV.K1 f n) (some false)) (G.gV.K1 f n)) ((n.bQ==2||n.lI==[])&&O1 n):=by
  refine dh (λe=>?_) (λe=>?_)
  ·have e':(n.bQ==2)=false:=(by simpa using e);refine dh (λk=>?_) (λk=>aQ ?_)
   ·exact hk.eq (by rw[k,yt,dS])
   ·rw[e',k];rfl
  ·have e':(n.bQ==2)=true:=(by simpa using e);exact hk.eq (by rw[e',zX,dS])
 refine dh (λe=>?_) (λe=>?_)
 ·have e':(n.bQ==1)=false:=by simpa using e
  refine dh (λk=>aQ ?_) (λk=>?_)
  ·have:(n.wL==0)=false:=(by simpa using k);rw[e',this];rfl
  ·have:(n.wL==0)=true:=(by simpa using k);exact tail.eq (by rw[this,yt,dS])
 ·have e':(n.bQ==1)=true:=by simpa using e
  exact tail.eq (by rw[e',zX,dS])
theorem T0.uo.L1 {B D d:Nat}{n:aj}(hB:B<=lim)(h:Ar B (D+1) n)(hd:d<1000)(hs:∀k,k∈n.aP->Ev (λf=>G.jA f k d) (Shape d k)) :
 ∀(k i:Nat),i+k=n.aP.length->Ev (λf=>G.uo.L1 f n ((d+1:Nat):Int) i) ((n.aP.drop i).all (Shape d)):=by
 have hl:=h.kids;unfold lim at hB;intro k
 induction k with
 | zero=>intro i hi;refine aN ?_;simp only[G.uo.L1];refine dB (by simp;omega) (aQ ?_);rw[ay aI];rfl
 | succ k ih=>
   intro i hi;refine aN ?_;simp only[G.uo.L1];refine dR (by simp;omega) (dw ?_);rw[gm (default:aj) (by omega:i<n.aP.length),fZ,ai];have e:af .i64 (((d+1:Nat):Int)-1)=(d:Int):=wrapN aI aI;rw[e];refine ak (hs _ (by rw[iD _ (by omega:i<n.aP.length)];exact dX _)) ?_;refine dh (λh=>?_) (λh=>?_)
   ·rw[tC aI,h,dS];exact ih (i+1) aI
   ·exact aQ (by rw[h];rfl)
theorem T0.uo {B D d:Nat}{n:aj}(hB:B<=lim)(h:Ar B (D+1) n)(hd:d<1000)(hs:∀k,k∈n.aP->Ev (λf=>G.jA f k d) (Shape d k)) :
 Ev (λf=>G.uo f n ((d+1:Nat):Int)) (n.aP.all (Shape d)):=by
 refine aN ?_;simp only[G.uo];exact T0.uo.L1 hB h hd hs n.aP.length 0 aI
def ShK (d:Nat)(n:aj):Bool:=
 if n.bQ=1 then decide (-999999<=n.wL)&&decide (n.wL<=999999)else if n.bQ=2 then PT n.lI else if n.bQ=3 then n.aP.all (Shape d)
 else if n.bQ=4 then n.aO.length==n.aP.length&&NM n.aO&&n.aP.all (Shape d)else n.bQ==0
theorem T0.jA.K1 {B D d:Nat}{n:aj}(hB:B<=lim)(h:Ar B (D+1) n)(hd:d<1000)(hs:∀k,k∈n.aP->Ev (λf=>G.jA f k d) (Shape d k)) :
 Ev (λf=>G.jA.K1 f n ((d+1:Nat):Int)) (ShK d n):=by
 refine aN ?_;simp only[G.jA.K1];have hk:=T0.uo hB h hd hs;unfold ShK;refine dh (λe=>?_) (λe1=>?_)
 ·rw[aA (by simpa using e)];exact ak (T.iP _ _ _) (bK _)
 rw[au (by simpa using e1)];refine dh (λe=>?_) (λe2=>?_)
 ·rw[aA (by simpa using e)];exact ak (T.jc _ (h.text hB)) (bK _)
 rw[au (by simpa using e2)];refine dh (λe=>?_) (λe3=>?_)
 ·rw[aA (by simpa using e)];exact ak hk (bK _)
 rw[au (by simpa using e3)];refine dh (λe=>?_) (λe4=>?_)
 ·rw[aA (by simpa using e),ilen];refine dh (λk=>?_) (λk=>aQ (by rw[k];rfl));refine ak (T.pI _ (h.sm hB)) ?_;refine dh (λk2=>?_) (λk2=>aQ (by rw[k2];simp));exact ak hk (aQ (by rw[k,k2];rfl))
 ·exact aQ (by rw[au (by simpa using e4)])
theorem aov {a:Nat} : decide ((0:Int)<(a:Int)) = !(a==0):=by cases a<;>simp
theorem acN {c a:Bool}{g:Nat->Option Bool}{V:Bool}(h:Ev g V):Ev (λf=>cond c (cond a (some false) (g f)) (g f)) ((!c || !a)&&V):=by
 cases c<;>cases a
 ·exact h
 ·exact h
 ·exact h
 ·exact bK _
theorem akz {c a:Bool}{g:Nat->Option Bool}{V:Bool}(h:Ev g V):Ev (λf=>cond c (cond a (g f) (some false)) (g f)) ((!c||a)&&V):=by
 cases c<;>cases a
 ·exact h
 ·exact h
 ·exact bK _
 ·exact h
theorem PL {n:aj}(h:6<n.aP.length):Parts n=false:=by
 have e0:(n.aP.length==0)=false:=beq_eq_false_iff_ne.2 aI;have e6:decide (n.aP.length<=6)=false:=by simp;omega
 have e4:(NM n.aO&&decide (n.aO.length<=6)&&n.aP.length==n.aO.length)=false:=by
  cases h1:decide (n.aO.length<=6)with
  |false=>simp
  | true=>have:(n.aP.length==n.aO.length)=false:=(by simp at h1;simp;omega);rw[this,rP]
 unfold Parts;rw[e0,e6,e4];simp
theorem ajt {d:Nat}{n:aj}(h:n.aP.length<=6) :
 ((!(n.bQ != 1) || !(n.wL != 0))&&((!(n.bQ != 2)||n.lI==[])&&((!(n.bQ != 4) || !(!(n.aO.length==0)))&&((!(decide (n.bQ<3)) || !(!(n.aP.length==0)))&&ShK d n))))=Shape (d+1) n:=by
 have e6:decide (n.aP.length<=6)=true:=by simp;omega
 have hall:n.aP.length=0->n.aP.all (Shape d)=true:=λe=>by rw[gQ e];rfl
 have hb:∀x y:Int,(!(x != y))=(x==y):=λx y=>by simp[bne]
 rw[hb,hb,hb,hb];unfold Shape Parts ShK;simp only[Bool.not_not,Bool.and_assoc]
 congr 1
 congr 1
 congr 1
 rw[e6];by_cases k0:n.bQ=0
 ·simp only[k0];cases hz:(n.aP.length==0)<;>simp_all
 by_cases k1:n.bQ=1
 ·simp only[k1];cases hz:(n.aP.length==0)<;>simp_all
 by_cases k2:n.bQ=2
 ·simp only[k2];cases hz:(n.aP.length==0)<;>simp_all
 by_cases k3:n.bQ=3
 ·simp[k3]
 by_cases k4:n.bQ=4
 ·simp only[k4];have hc:(n.aP.length==n.aO.length)=(n.aO.length==n.aP.length):=by rw[tJ];simp;omega
  rw[hc];cases hz:(n.aO.length==n.aP.length)
  ·simp
  ·have:decide (n.aO.length<=6)=true:=(by simp at hz;simp;omega);simp[this]
 ·simp[k0,k1,k2,k3,k4]
def Cnt : Nat->aj->Nat
 |0,_=>0
 |d+1,n=>1+(n.aP.map (Cnt d)).sum
theorem rV {d:Nat}{n:aj}(h:Shape (d+1) n=true):Parts n=true:=by unfold Shape at h;simp only[ah]at h;exact h.1
theorem wu {d:Nat}{n:aj}(h:Shape (d+1) n=true):∀k,k∈n.aP->Shape d k=true:=by unfold Shape at h;simp only[ah]at h;exact bf.1 h.2
theorem Fz {d:Nat}{n:aj}(h:Shape d n=true):n.aP.length<=6:=by
 cases d with
 |zero=>cases h
 | succ d=>
   by_cases k:n.aP.length<=6
   ·exact k
   ·have:=PL (n:=n) aI;rw[rV h]at this;cases this
theorem ajB {α:Type}(f:α->Nat)(m:Nat):∀l:List α,(∀x,x∈l->f x<=m)->(l.map f).sum<=l.length*m
 |[],_=>by simp
 | x::l,h=>by have h1:=ajB f m l (λy hy=>h y (by simp[hy]));have h2:=h x mg;simp only[bU,tZ,iU,Nat.add_mul];omega
theorem cnt_le : ∀{d:Nat} {n:aj},Shape d n=true->Cnt d n<=7^d
 |0,_,h=>by cases h
 | d+1,n,h=>by have hk:=wu h;have:=ajB (Cnt d) (7^d) n.aP (λk hk'=>cnt_le (hk k hk'));have h6:=Fz h;have hm:n.aP.length*7^d<=6*7^d:=aY _ h6;have hp:1<=7^d:=Nat.one_le_pow _ _ aI;unfold Cnt;rw[Ij];omega
theorem Zq {d:Nat}(h:d<=5):7^d<=16807:=bM (Nat.pow_le_pow_right aI h) xB
theorem T0.jA {B:Nat}(hB:B<=lim):∀(d D:Nat) (n:aj),d<1000->Ar B D n->Ev (λf=>G.jA f n (d:Int)) (Shape d n):=by
 intro d
 induction d with
 | zero=>intro D n _ h;refine aN ?_;simp only[G.jA];exact dR mg (bK _)
 | succ d ih=>
   intro D n hd h;cases D with
   |zero=>exact h.elim
   |succ D=>
   have hK:=T0.jA.K1 (d:=d) hB h aI (λk hk=>ih D k aI (h.2.2.2.2.2 k hk));refine aN ?_;simp only[G.jA];rw[aov,aov];have t1:=acN (c:=decide (n.bQ<3)) (a:= !(n.aP.length==0)) hK;have t2:=acN (c:=n.bQ != 4) (a:= !(n.aO.length==0)) t1;have t3:=akz (c:=n.bQ != 2) (a:=n.lI==[]) t2;have t4:=acN (c:=n.bQ != 1) (a:=n.wL != 0) t3;refine dB (by simp;omega) ?_;refine dh (λe=>aQ ?_) (λe=>t4.eq ?_)
   ·simp only[aF]at e;rw[Shape,PL aI];rfl
   ·simp only[dn]at e;exact ajt aI
theorem T0.nY.L1 {B D d:Nat}{n:aj}(hB:B<=lim)(h:Ar B (D+1) n)(hs:∀k,k∈n.aP->Ev (λf=>G.nY f k) ((Cnt d k:Nat):Int)) :
 ∀(k i c:Nat),i+k=n.aP.length->c+((n.aP.drop i).map (Cnt d)).sum<big->Ev (λf=>G.nY.L1 f n (c:Int) i) ((c+((n.aP.drop i).map (Cnt d)).sum:Nat):Int):=by
 have hl:=h.kids;unfold lim at hB;unfold big;intro k
 induction k with
 | zero=>intro i c hi hc;refine aN ?_;simp only[G.nY.L1];refine dB (by simp;omega) (aQ ?_);rw[ay aI];rfl
 | succ k ih=>intro i c hi;rw[gm (default:aj) (by omega:i<n.aP.length),bU,tZ];intro hc;refine aN ?_;simp only[G.nY.L1];refine dR (by simp;omega) (dw ?_);rw[ai];refine ak (hs _ (by rw[iD _ (by omega:i<n.aP.length)];exact dX _)) ?_;rw[tC aI,wrapN (m:=c+Cnt d (n.aP.getD i default)) aI aI];exact(ih (i+1) (c+Cnt d (n.aP.getD i default)) aI aI).eq (by congr 1;omega)
theorem T0.nY {B:Nat}(hB:B<=lim):∀(d D:Nat) (n:aj),d<=5->Ar B D n->Shape d n=true->Ev (λf=>G.nY f n) ((Cnt d n:Nat):Int):=by
 intro d
 induction d with
 |zero=>intro D n _ _ h;cases h
 | succ d ih=>
   intro D n hd h hS;cases D with
   |zero=>exact h.elim
   |succ D=>
   have hS':=wu hS;refine aN ?_;simp only[G.nY];have:=cnt_le (d:=d+1) (n:=n) hS;have hp:=Zq hd;refine(T0.nY.L1 hB h (λk hk=>ih D k aI (h.2.2.2.2.2 k hk) (hS' k hk)) n.aP.length 0 1 aI ?_).eq rfl;rw[dM];show Cnt (d+1) n<big;unfold big;omega
def Val (n:aj):Bool:=Shape 5 n&&decide (Cnt 5 n<=40)
theorem T0.iI {B D:Nat}{n:aj}(hB:B<=lim)(h:Ar B D n):Ev (λf=>G.iI f n) (Val n):=by refine aN ?_;simp only[G.iI];refine ak (T0.jA hB 5 D n aI h) (dh (λe=>?_) (λe=>aQ (by rw[Val,e];rfl)));refine ak (T0.nY hB 5 D n aI h e) (aQ ?_);rw[Val,e,dS];apply decide_eq_decide.2;omega
theorem T.iI {B D:Nat}{n:aj}(hB:B<=lim)(h:Fine B D n):Ev (λf=>G.iI f n) (Val n):=T0.iI hB h.fin0
theorem T0.gB.L1 {B D d l:Nat}{n:aj}(hB:B<=lim)(h:Ar B (D+1) n)(hl:l<1000)
 (hs:∀k,k∈n.aP->∃c dp,Ev (λf=>G.gB f k ((l+1:Nat):Int)) (c,dp,Shape d k)/\(Shape d k=true->c=((Cnt d k:Nat):Int))) :
 ∀ (k i c:Nat) (dp:Int),i+k=n.aP.length->(n.aP.drop i).all (Shape d)=true->c+((n.aP.drop i).map (Cnt d)).sum<big ->
   ∃dp',Ev (λf=>G.gB.L1 f n (l:Int) (c:Int) dp i) (((c+((n.aP.drop i).map (Cnt d)).sum:Nat):Int),dp',true):=by
 have hk:=h.kids;unfold lim at hB;unfold big;intro k
 induction k with
 | zero=>intro i c dp hi _ hc;refine⟨dp,aN ?_⟩;simp only[G.gB.L1];refine dB (by simp;omega) (aQ ?_);rw[ay aI];rfl
 | succ k ih=>intro i c dp hi;rw[gm (default:aj) (by omega:i<n.aP.length),bU,tZ,fZ,ah];intro⟨hS,hA⟩ hc;obtain⟨c1,d1,h1,h2⟩:=hs (n.aP.getD i default) (by rw[iD _ (by omega:i<n.aP.length)];exact dX _);have e:=h2 hS;subst e;obtain⟨dp',g1⟩:=ih (i+1) (c+Cnt d (n.aP.getD i default)) (if af .i64 (d1+1)>dp then af .i64 (d1+1)else dp) aI hA aI;refine⟨dp',aN ?_⟩;simp only[G.gB.L1];refine dR (by simp;omega) (dw ?_);rw[ai,tC aI];refine ak h1 ?_;refine dR hS ?_;rw[tC aI,wrapN (m:=c+Cnt d (n.aP.getD i default)) aI aI];exact g1.eq (by rw[Nat.add_assoc])
theorem T0.gB.L1f {B D d l:Nat}{n:aj}(hB:B<=lim)(h:Ar B (D+1) n)(hl:l<1000)
 (hs:∀k,k∈n.aP->∃c dp,Ev (λf=>G.gB f k ((l+1:Nat):Int)) (c,dp,Shape d k)) :
 ∀(k i:Nat) (c dp:Int),i+k=n.aP.length->(n.aP.drop i).all (Shape d)=false->Ev (λf=>G.gB.L1 f n (l:Int) c dp i) (0,0,false):=by
 have hk:=h.kids;unfold lim at hB;intro k
 induction k with
 | zero=>intro i c dp hi hA;rw[ay aI]at hA;cases hA
 | succ k ih=>intro i c dp hi;rw[gm (default:aj) (by omega:i<n.aP.length),fZ];intro hA;obtain⟨c1,d1,h1⟩:=hs (n.aP.getD i default) (by rw[iD _ (by omega:i<n.aP.length)];exact dX _);refine aN ?_;simp only[G.gB.L1];refine dR (by simp;omega) (dw ?_);rw[ai,tC aI];refine ak h1 ?_;refine dh (λhS=>?_) (λhS=>bK _);have hS:Shape d (n.aP.getD i default)=true:=hS;rw[hS,dS]at hA;rw[tC aI];exact ih (i+1) _ _ aI hA
theorem T0.gB {B:Nat}(hB:B<=lim):∀(d l D:Nat) (n:aj),d+l=6->1<=l->Ar B D n ->
 ∃c dp,Ev (λf=>G.gB f n (l:Int)) (c,dp,Shape d n)/\(Shape d n=true->c=((Cnt d n:Nat):Int)):=by
 intro d
 induction d with
 | zero=>intro l D n hl h1 h;refine⟨0,0,aN ?_,λe=>by cases e⟩;simp only[G.gB];exact dR (by simp;omega) (bK _)
 | succ d ih=>
   intro l D n hl h1 h;cases D with
   |zero=>exact h.elim
   |succ D=>
   have hs:=λk (hk:k∈n.aP)=>ih (l+1) D k aI aI (h.2.2.2.2.2 k hk);have hp:=T0.gV hB h;cases hS:Shape (d+1) n with
   | true=>have hk:=wu hS;have hc:=cnt_le hS;have hpw:=Zq (d:=d+1) aI;obtain⟨dp',g⟩:=T0.gB.L1 hB h aI hs n.aP.length 0 1 1 aI (by rw[dM];exact bf.2 hk) (by rw[dM];unfold big;show Cnt (d+1) n<_;omega);rw[dM]at g;refine⟨((Cnt (d+1) n:Nat):Int),dp',aN ?_,λ_=>rfl⟩;simp only[G.gB];exact dB (by simp;omega) (ak hp (dR (rV hS) g))
   | false=>
     refine⟨0,0,aN ?_,λe=>by cases e⟩;simp only[G.gB];refine dB (by simp;omega) (ak hp (dh (λe=>?_) (λe=>bK _)));refine T0.gB.L1f (d:=d) hB h aI (λk hk=>?_) n.aP.length 0 1 1 aI ?_
     ·obtain⟨c,dp,g,_⟩:=hs k hk;exact⟨c,dp,g⟩
     ·rw[dM];unfold Shape at hS;rw[e,dS]at hS;exact hS
theorem T0.dm {B D:Nat}{n:aj}(hB:B<=lim)(h:Ar B D n):Ev (λf=>G.dm f n) (Val n):=by
 obtain⟨c,dp,g,hc⟩:=T0.gB hB 5 1 D n rfl aI h;refine aN ?_;simp only[G.dm];refine ak g (dh (λe=>aQ ?_) (λe=>aQ ?_))
 ·have e:Shape 5 n=true:=e;show decide (c<=40)=_;rw[hc e,Val,e,dS];apply decide_eq_decide.2;omega
 ·have e:Shape 5 n=false:=e;rw[Val,e];rfl
theorem T.dm {B D:Nat}{n:aj}(hB:B<=lim)(h:Fine B D n):Ev (λf=>G.dm f n) (Val n):=T0.dm hB h.fin0
theorem T0.cO.L1 {B D:Nat}{n:aj}(hB:B<=lim)(h:Ar B (D+1) n)(hs:∀k,k∈n.aP->Ev (λf=>G.cO f k) k) :
 ∀(k i:Nat),i+k=n.aP.length->Ev (λf=>G.cO.L1 f n i (n.aP.take i)) n:=by
 have hl:=h.kids;have hn:=h.names;unfold lim at hB;intro k
 induction k with
 | zero=>intro i hi;refine aN ?_;simp only[G.cO.L1];refine dB (by simp;omega) (dw (aQ ?_));rw[bz aI];cases n;rfl
 | succ k ih=>intro i hi;refine aN ?_;simp only[G.cO.L1];refine dR (by simp;omega) (dw ?_);rw[ai];refine ak (hs _ (by rw[iD _ (by omega:i<n.aP.length)];exact dX _)) ?_;refine um (by rw[iK];omega) ?_;have e:n.aP.take i++[n.aP.getD i default]=n.aP.take (i+1):=(by rw[iD _ (by omega:i<n.aP.length),kC aI]);rw[tC aI,e];exact ih (i+1) aI
theorem T0.cO {B:Nat}(hB:B<=lim):∀{D:Nat} {n:aj},Ar B D n->Ev (λf=>G.cO f n) n:=by
 intro D
 induction D with
 |zero=>intro n h;exact h.elim
 | succ D ih=>intro n h;refine aN ?_;simp only[G.cO];exact T0.cO.L1 hB h (λk hk=>ih (h.2.2.2.2.2 k hk)) n.aP.length 0 aI
theorem T.cO {B:Nat}(hB:B<=lim){D:Nat}{n:aj}(h:Fine B D n):Ev (λf=>G.cO f n) n:=T0.cO hB h.fin0
theorem T0.bC.L2 {B D:Nat}{n:aj}(zs:List fD)(hB:B<=lim)(h:Ar B (D+1) n)(hs:∀k,k∈n.aP->Ev (λf=>G.bC f k) k) :
 ∀(k i:Nat) (z:List aj),i+k=n.aP.length->z.length=n.aP.length->z.take i=n.aP.take i->Ev (λf=>G.bC.L2 f n zs i z) (aj.mk n.bQ n.wL n.lI zs n.aP):=by
 have hl:=h.kids;unfold lim at hB;intro k
 induction k with
 | zero=>intro i z hi hz ht;refine aN ?_;simp only[G.bC.L2];refine dB (by simp;omega) (aQ ?_);rw[bz aI,bz aI]at ht;rw[ht]
 | succ k ih=>intro i z hi hz ht;refine aN ?_;simp only[G.bC.L2];refine dR (by simp;omega) (dw ?_);rw[ai];refine ak (hs _ (by rw[iD _ (by omega:i<n.aP.length)];exact dX _)) ?_;refine dw ?_;rw[tC aI];refine ih (i+1) _ aI (by rw[qR];exact hz) ?_;rw[iD _ (by omega:i<n.aP.length),kC (by rw[qR];omega),kC (by omega:i<n.aP.length),List.getElem_set_self,List.take_set_of_le (aC i),ht]
theorem T0.bC {B:Nat}(hB:B<=lim):∀{D:Nat} {n:aj},Ar B D n->Ev (λf=>G.bC f n) n:=by
 intro D
 induction D with
 |zero=>intro n h;exact h.elim
 | succ D ih=>
   intro n h;have hl:=h.kids;have hn:=h.names;have hB':=hB;unfold lim at hB';have hK:Ev (λf=>G.bC.K1 f n n.aO) n:=by
    refine aN ?_;simp only[G.bC.K1];refine dh (λe=>?_) (λe=>aQ ?_)
    ·refine dw ?_;refine(T0.bC.L2 n.aO hB h (λk hk=>ih (h.2.2.2.2.2 k hk)) n.aP.length 0 (bY n.aP.length (aj.mk 0 0 [] [] [])) aI mg rfl).eq ?_;cases n;rfl
    ·have:n.aP=[]:=by
      apply gQ;simp only[dn]at e;omega
     cases n;simp only at this;subst this;rfl
   refine aN ?_;simp only[G.bC];refine dh (λe=>?_) (λe=>?_)
   ·exact dw hK
   ·have:n.aO=[]:=by
     apply gQ;simp only[dn]at e;omega
    rw[this]at hK;exact hK
theorem T.bC {B:Nat}(hB:B<=lim){D:Nat}{n:aj}(h:Fine B D n):Ev (λf=>G.bC f n) n:=T0.bC hB h.fin0
theorem EZ {α:Type}{l:List α}{i:Nat}(d:α)(h:i<l.length):l.getD i d∈l:=by rw[iD d h];exact dX h
theorem NI {α:Type}{l z:List α}{i:Nat}(hi:i<l.length)(hz:z.length=l.length)(ht:z.take i=l.take i):(z.set i l[i]).take (i+1)=l.take (i+1):=by rw[kC (by rw[qR];omega),kC hi,List.getElem_set_self,List.take_set_of_le (aC i),ht]
theorem T.WN {l:List fD}(hl:l.length<=lim):Ev (λf=>G.jV f l) l:=by
 unfold lim at hl;have L:∀(k i:Nat) (z:List fD),i+k=l.length->z.length=l.length->z.take i=l.take i->Ev (λf=>G.jV.L1 f l i z) l:=by
  intro k
  induction k with
  | zero=>intro i z hi hz ht;refine aN ?_;simp only[G.jV.L1];rw[bz aI,bz aI]at ht;exact rX (aQ ht)
  | succ k ih=>intro i z hi hz ht;have hil:i<l.length:=(by omega);refine aN ?_;simp only[G.jV.L1,ai,FC i];refine rW (dw (dw (ih (i+1) _ aI (by rw[qR];exact hz) ?_)));rw[iD _ hil];exact NI hil hz ht
 refine aN ?_;simp only[G.jV];exact dw (L l.length 0 _ aI mg rfl)
theorem T.alr {l:List aj}(hl:l.length<=lim)(hs:∀k,k∈l->Ev (λf=>G.sZ f k) k):Ev (λf=>G.qG f l) l:=by
 unfold lim at hl;have L:∀(k i:Nat) (z:List aj),i+k=l.length->z.length=l.length->z.take i=l.take i->Ev (λf=>G.qG.L1 f l i z) l:=by
  intro k
  induction k with
  | zero=>intro i z hi hz ht;refine aN ?_;simp only[G.qG.L1];rw[bz aI,bz aI]at ht;exact rX (aQ ht)
  | succ k ih=>intro i z hi hz ht;have hil:i<l.length:=(by omega);refine aN ?_;simp only[G.qG.L1,ai,FC i];refine rW (dw (ak (hs _ (EZ default hil)) (dw (ih (i+1) _ aI (by rw[qR];exact hz) ?_))));rw[iD _ hil];exact NI hil hz ht
 refine aN ?_;simp only[G.qG];exact dw (L l.length 0 _ aI mg rfl)
theorem T.ZL {B:Nat}(hB:B<=lim):∀{D:Nat} {n:aj},Ar B D n->Ev (λf=>G.sZ f n) n
 |0,_,h=>h.elim
 | D+1,n,h=>by have h1:=h.names;have h2:=h.kids;refine aN ?_;simp only[G.sZ];exact ak (T.WN aI) (ak (T.alr aI (λk hk=>T.ZL hB (h.2.2.2.2.2 k hk))) (aQ (by cases n;rfl)))
theorem T.Vx {l:List fD}(hl:l.length<=lim):Ev (λf=>G.jT f l l) true:=by
 unfold lim at hl;have L:∀(k i:Nat),i+k=l.length->Ev (λf=>G.jT.L1 f l l i) true:=by
  intro k
  induction k with
  | zero=>intro i hi;refine aN ?_;simp only[G.jT.L1];exact rX (bK _)
  | succ k ih=>intro i hi;refine aN ?_;simp only[G.jT.L1,FC i];exact rW (dw (dw (dR mg (ih (i+1) aI))))
 refine aN ?_;simp only[G.jT];exact dB mg (L l.length 0 aI)
theorem T.akG {l:List aj}(hl:l.length<=lim)(hs:∀k,k∈l->Ev (λf=>G.qW f k k) true):Ev (λf=>G.qC f l l) true:=by
 unfold lim at hl;have L:∀(k i:Nat),i+k=l.length->Ev (λf=>G.qC.L1 f l l i) true:=by
  intro k
  induction k with
  | zero=>intro i hi;refine aN ?_;simp only[G.qC.L1];exact rX (bK _)
  | succ k ih=>intro i hi;refine aN ?_;simp only[G.qC.L1,ai,FC i];exact rW (dw (dw (ak (hs _ (EZ default aI)) (dR rfl (ih (i+1) aI)))))
 refine aN ?_;simp only[G.qC];exact dB mg (L l.length 0 aI)
theorem T.Vw {B:Nat}(hB:B<=lim):∀{D:Nat} {n:aj},Ar B D n->Ev (λf=>G.qW f n n) true
 |0,_,h=>h.elim
 | D+1,n,h=>by have h1:=h.names;have h2:=h.kids;refine aN ?_;simp only[G.qW];exact dB mg (dB mg (dR mg (ak (T.Vx aI) (dR rfl (ak (T.akG aI (λk hk=>T.Vw hB (h.2.2.2.2.2 k hk))) (dR rfl (bK _)))))))
def mx : Nat:=9223372036854775807
mutual
def TP : aj->Nat
 |aj.mk _ _ _ ns ks=>3+ns.length+yA ks
def yA : List aj->Nat
 |[]=>0
 |n::r=>TP n+yA r
end
theorem GL (n:aj):TP n=3+n.aO.length+yA n.aP:=by cases n;rfl
theorem C9 {x:Int}(h0 : -9223372036854775808<=x)(h1:x<9223372036854775808):af .i64 x=x:=by simp only[af,iQ,yY];simp;omega
theorem T.WH {l:List fD}(h1:l.length<=mx)(h2:∀s,s∈l->s.length<=mx){left:Int}(h0:0<=left)(hl:left<=1048576) :
 ∃r,Ev (λf=>G.jy f l left) r/\r<=left/\(0<=r->(l.length:Int)<=left-r/\∀s,s∈l->(s.length:Int)<=left):=by
 unfold mx at *;have w0:af .i64 (left-(l.length:Int))=left-(l.length:Int):=C9 aI aI;by_cases c:left-(l.length:Int)<0
 ·refine⟨-1,aN ?_,aI,λh=>by omega⟩;simp only[G.jy,w0];exact dR (dW c) (bK _)
 ·have L:∀(k i:Nat) (a:Int),i+k=l.length->0<=a->a<=1048576->∃r,Ev (λf=>G.jy.L1 f l a i) r/\r<=a/\(0<=r->∀s,s∈l.drop i->(s.length:Int)<=a):=by
   intro k
   induction k with
   | zero=>
     intro i a hi ha ha2;refine⟨a,aN ?_,aI,λ_ s hs=>?_⟩
     ·simp only[G.jy.L1];exact rX (bK _)
     ·rw[ay aI]at hs;cases hs
   | succ k ih=>
     intro i a hi ha ha2;have hil:i<l.length:=(by omega);have hb:=h2 _ (EZ default hil);have w1:af .i64 (a-((l.getD i default).length:Int))=a-((l.getD i default).length:Int):=C9 aI aI;by_cases c1:a-((l.getD i default).length:Int)<0
     ·refine⟨-1,aN ?_,aI,λh=>by omega⟩;simp only[G.jy.L1,ai,w1];exact rW (dw (dR (dW c1) (bK _)))
     ·obtain⟨r,g,g1,g2⟩:=ih (i+1) (a-((l.getD i default).length:Int)) aI aI aI;refine⟨r,aN ?_,aI,λh s hs=>?_⟩
      ·simp only[G.jy.L1,ai,w1,FC i];exact rW (dw (dB (bg c1) g))
      ·rw[gm default hil]at hs;rcases aK.1 hs with e|e
       ·rw[e];omega
       ·have:=g2 h s e;omega
  obtain⟨r,g,g1,g2⟩:=L l.length 0 (left-(l.length:Int)) aI aI aI;refine⟨r,aN ?_,aI,λh=>⟨aI,λs hs=>?_⟩⟩
  ·simp only[G.jy,w0];exact dB (bg c) g
  ·have:=g2 h s (by rw[dM];exact hs);omega
theorem T.UM : ∀(D:Nat) {n:aj} {left:Int},Ar mx D n->0<=left->left<=1048576->∃r,Ev (λf=>G.qY f n left) r/\r<=left/\(0<=r->Ar 1048576 D n/\(TP n:Int)<=3*(left-r)+3)
 |0,_,_,h,_,_=>h.elim
 | D+1,n,left,h,h0,hl=>by
   obtain⟨hT,hN,hS,hK,_,hR⟩:=h;have S:∀(left:Int),0<=left->left<=1048576->∃r,Ev (λf=>G.oV f n.aP left) r/\r<=left/\(0<=r->(n.aP.length:Int)<=left-r/\(∀k,k∈n.aP->Ar 1048576 D k)/\(yA n.aP:Int)<=3*(left-r)):=by
    intro left h0 hl;have hK':n.aP.length<=9223372036854775807:=hK;have w0:af .i64 (left-(n.aP.length:Int))=left-(n.aP.length:Int):=C9 aI aI;by_cases c:left-(n.aP.length:Int)<0
    ·refine⟨-1,aN ?_,aI,λh=>by omega⟩;simp only[G.oV,w0];exact dR (dW c) (bK _)
    ·have L:∀(k i:Nat) (a:Int),i+k=n.aP.length->0<=a->a<=1048576->∃r,Ev (λf=>G.oV.L1 f n.aP a i) r/\r<=a/\(0<=r->(∀k,k∈n.aP.drop i->Ar 1048576 D k)/\(yA (n.aP.drop i):Int)<=3*(a-r)+3*((n.aP.length:Int)-i)):=by
      intro k
      induction k with
      | zero=>
        intro i a hi ha ha2;refine⟨a,aN ?_,aI,λ_=>⟨λs hs=>?_,?_⟩⟩
        ·simp only[G.oV.L1];exact rX (bK _)
        ·rw[ay aI]at hs;cases hs
        ·rw[ay aI];simp only[yA];omega
      | succ k ih=>
        intro i a hi ha ha2;have hil:i<n.aP.length:=(by omega);obtain⟨q,gq,q1,q2⟩:=T.UM D (hR _ (EZ default hil)) ha ha2;by_cases c1:q<0
        ·refine⟨-1,aN ?_,aI,λh=>by omega⟩;simp only[G.oV.L1,ai];exact rW (dw (ak gq (dR (dW c1) (bK _))))
        ·obtain⟨r,g,g1,g2⟩:=ih (i+1) q aI aI aI;refine⟨r,aN ?_,aI,λh=>⟨λs hs=>?_,?_⟩⟩
         ·simp only[G.oV.L1,ai,FC i];exact rW (dw (ak gq (dB (bg c1) g)))
         ·rw[gm default hil]at hs;rcases aK.1 hs with e|e
          ·rw[e];exact(q2 aI).1
          ·exact(g2 h).1 s e
         ·rw[gm default hil];have h3:=(q2 aI).2;have h4:=(g2 h).2;simp only[yA];omega
     obtain⟨r,g,g1,g2⟩:=L n.aP.length 0 (left-(n.aP.length:Int)) aI aI aI;refine⟨r,aN ?_,aI,λh=>⟨aI,λs hs=>(g2 h).1 s (by rw[dM];exact hs),?_⟩⟩
     rotate_left
     ·have h4:=(g2 h).2;rw[dM]at h4;omega
     simp only[G.oV,w0];exact dB (bg c) g
   have hT':n.lI.length<=9223372036854775807:=hT;have w0:af .i64 (left-(n.lI.length:Int))=left-(n.lI.length:Int):=C9 aI aI;by_cases c:left-(n.lI.length:Int)<0
   ·refine⟨-1,aN ?_,aI,λh=>by omega⟩;simp only[G.qY,w0];exact dR (dW c) (bK _)
   ·obtain⟨v1,g1,a1,b1⟩:=T.WH hN hS (left:=left-(n.lI.length:Int)) aI aI;by_cases c1:v1<0
    ·refine⟨-1,aN ?_,aI,λh=>by omega⟩;simp only[G.qY,w0];exact dB (bg c) (ak g1 (dR (dW c1) (bK _)))
    ·obtain⟨v2,g2,a2,b2⟩:=S v1 aI aI;by_cases c2:v2<0
     ·refine⟨-1,aN ?_,aI,λh=>by omega⟩;simp only[G.qY,w0];exact dB (bg c) (ak g1 (dB (bg c1) (ak g2 (dR (dW c2) (bK _)))))
     ·refine⟨v2,aN ?_,aI,λh=>?_⟩
      ·simp only[G.qY,w0];exact dB (bg c) (ak g1 (dB (bg c1) (ak g2 (dB (bg c2) (bK _)))))
      ·obtain⟨e1,e2⟩:=b1 aI;obtain⟨e3,e4,e5⟩:=b2 aI;refine⟨⟨aI,aI,λs hs=>by have:=e2 s hs;omega,aI,trivial,e4⟩,?_⟩;rw[GL];omega
structure Gp (B D:Nat)(o:uO):Prop where
 path:o.uq.length<=B/\∀s,s∈o.uq->s.length<=B
 from_:o.xJ.length<=B/\∀s,s∈o.xJ->s.length<=B
 val:Ar B D o.Value
theorem Gp.mono {B D D':Nat}{o:uO}(h:Gp B D o)(hD:D<=D'):Gp B D' o:=⟨h.path,h.from_,h.val.mono (aC _) hD⟩
theorem Gp.all {B:Nat} : ∀{l:List uO} (D:Nat),(∀o,o∈l->∃D,Gp B D o)->∃D',D<=D'/\∀o,o∈l->Gp B D' o
 |[],D,_=>⟨D,aC _,λo h=>by cases h⟩
 | o::l,D,h=>by
   obtain⟨d,hd⟩:=h o (bD ..);obtain⟨D',h1,h2⟩:=Gp.all (l:=l) (max D d) (λo ho=>h o (fJ _ ho));refine⟨D',aI,λx hx=>?_⟩;rcases aK.1 hx with e|e
   ·rw[e];exact hd.mono aI
   ·exact h2 x e
def mkO (o:uO):Nat:=o.uq.length+o.xJ.length+TP o.Value
theorem T.ao1 {D:Nat}{o:uO}{left:Int}(h:Gp mx D o)(h0:0<=left)(hl:left<=1048576):∃r,Ev (λf=>G.yN f o left) r/\r<=left/\(0<=r->Gp 1048576 D o/\(mkO o:Int)<=3*(left-r)+3):=by
 obtain⟨v1,g1,a1,b1⟩:=T.WH h.path.1 h.path.2 h0 hl;by_cases c1:v1<0
 ·refine⟨-1,aN ?_,aI,λh=>by omega⟩;simp only[G.yN];exact ak g1 (dR (dW c1) (bK _))
 obtain⟨v2,g2,a2,b2⟩:=T.WH h.from_.1 h.from_.2 (left:=v1) aI aI;by_cases c2:v2<0
 ·refine⟨-1,aN ?_,aI,λh=>by omega⟩;simp only[G.yN];exact ak g1 (dB (bg c1) (ak g2 (dR (dW c2) (bK _))))
 obtain⟨v3,g3,a3,b3⟩:=T.UM D h.val (left:=v2) aI aI;by_cases c3:v3<0
 ·refine⟨-1,aN ?_,aI,λh=>by omega⟩;simp only[G.yN];exact ak g1 (dB (bg c1) (ak g2 (dB (bg c2) (ak g3 (dR (dW c3) (bK _))))))
 refine⟨v3,aN ?_,aI,λh=>⟨⟨?_,?_,(b3 h).1⟩,?_⟩⟩
 ·simp only[G.yN];exact ak g1 (dB (bg c1) (ak g2 (dB (bg c2) (ak g3 (dB (bg c3) (bK _))))))
 ·obtain⟨e1,e2⟩:=b1 aI;exact⟨aI,λs hs=>by have:=e2 s hs;omega⟩
 ·obtain⟨e1,e2⟩:=b2 aI;exact⟨aI,λs hs=>by have:=e2 s hs;omega⟩
 ·have e1:=(b1 aI).1;have e2:=(b2 aI).1;have e3:=(b3 h).2;unfold mkO;omega
def MB : List uO->Nat
 |[]=>0
 |o::r=>mkO o+1+MB r
theorem T.ank {D:Nat}{l:List uO}{left:Int}(h1:l.length<=mx)(hO:∀o,o∈l->Gp mx D o)(h0:0<=left)(hl:left<=1048576) :
 ∃r,Ev (λf=>G.rE f l left) r/\r<=left/\(0<=r->(l.length:Int)<=left/\(∀o,o∈l->Gp 1048576 D o)/\(MB l:Int)<=4*(left-r)):=by
 unfold mx at h1;have w0:af .i64 (left-(l.length:Int))=left-(l.length:Int):=C9 aI aI;by_cases c:left-(l.length:Int)<0
 ·refine⟨-1,aN ?_,aI,λh=>by omega⟩;simp only[G.rE,w0];exact dR (dW c) (bK _)
 ·have L:∀(k i:Nat) (a:Int),i+k=l.length->0<=a->a<=1048576->∃r,Ev (λf=>G.rE.L1 f l a i) r/\r<=a/\(0<=r->(∀o,o∈l.drop i->Gp 1048576 D o)/\(MB (l.drop i):Int)<=3*(a-r)+4*k):=by
   intro k
   induction k with
   | zero=>
     intro i a hi ha ha2;refine⟨a,aN ?_,aI,λ_=>⟨λs hs=>?_,by rw[ay aI];simp[MB]⟩⟩
     ·simp only[G.rE.L1];exact rX (bK _)
     ·rw[ay aI]at hs;cases hs
   | succ k ih=>
     intro i a hi ha ha2;have hil:i<l.length:=(by omega);obtain⟨q,gq,q1,q2⟩:=T.ao1 (hO _ (EZ default hil)) ha ha2;by_cases c1:q<0
     ·refine⟨-1,aN ?_,aI,λh=>by omega⟩;simp only[G.rE.L1,ai];exact rW (dw (ak gq (dR (dW c1) (bK _))))
     ·obtain⟨r,g,g1,g2⟩:=ih (i+1) q aI aI aI;refine⟨r,aN ?_,aI,λh=>⟨λs hs=>?_,?_⟩⟩
      ·simp only[G.rE.L1,ai,FC i];exact rW (dw (ak gq (dB (bg c1) g)))
      ·rw[gm default hil]at hs;rcases aK.1 hs with e|e
       ·rw[e];exact(q2 aI).1
       ·exact(g2 h).1 s e
      ·have h1:=(q2 aI).2;have h2:=(g2 h).2;rw[gm default hil];simp only[MB];omega
  obtain⟨r,g,g1,g2⟩:=L l.length 0 (left-(l.length:Int)) aI aI aI;refine⟨r,aN ?_,aI,λh=>⟨aI,λs hs=>(g2 h).1 s (by rw[dM];exact hs),by have:=(g2 h).2;rw[dM]at this;omega⟩⟩;simp only[G.rE,w0];exact dB (bg c) g
theorem T.aqi {B D:Nat}{o:uO}(hB:B<=lim)(h:Gp B D o):Ev (λf=>G.Bh f o) o:=by refine aN ?_;simp only[G.Bh];exact ak (T.WN (bM h.path.1 hB)) (ak (T.WN (bM h.from_.1 hB)) (ak (T.ZL hB h.val) (bK _)))
theorem T.ao3 {B D:Nat}{l:List uO}(hB:B<=lim)(hl:l.length<=lim)(h:∀o,o∈l->Gp B D o):Ev (λf=>G.uk f l) l:=by
 unfold lim at hl;have L:∀(k i:Nat) (z:List uO),i+k=l.length->z.length=l.length->z.take i=l.take i->Ev (λf=>G.uk.L1 f l i z) l:=by
  intro k
  induction k with
  | zero=>intro i z hi hz ht;refine aN ?_;simp only[G.uk.L1];rw[bz aI,bz aI]at ht;exact rX (aQ ht)
  | succ k ih=>intro i z hi hz ht;have hil:i<l.length:=(by omega);refine aN ?_;simp only[G.uk.L1,ai,FC i];refine rW (dw (ak (T.aqi hB (h _ (EZ default hil))) (dw (ih (i+1) _ aI (by rw[qR];exact hz) ?_))));rw[iD _ hil];exact NI hil hz ht
 refine aN ?_;simp only[G.uk];exact dw (L l.length 0 _ aI mg rfl)
theorem T.apu {B D:Nat}{o:uO}(hB:B<=lim)(h:Gp B D o):Ev (λf=>G.Bg f o o) true:=by refine aN ?_;simp only[G.Bg];exact dB mg (ak (T.Vx (bM h.path.1 hB)) (dR rfl (ak (T.Vx (bM h.from_.1 hB)) (dR rfl (ak (T.Vw hB h.val) (dR rfl (bK _)))))))
theorem T.an5 {B D:Nat}{l:List uO}(hB:B<=lim)(hl:l.length<=lim)(h:∀o,o∈l->Gp B D o):Ev (λf=>G.uj f l l) true:=by
 unfold lim at hl;have L:∀(k i:Nat),i+k=l.length->Ev (λf=>G.uj.L1 f l l i) true:=by
  intro k
  induction k with
  | zero=>intro i hi;refine aN ?_;simp only[G.uj.L1];exact rX (bK _)
  | succ k ih=>intro i hi;refine aN ?_;simp only[G.uj.L1,ai,FC i];exact rW (dw (dw (ak (T.apu hB (h _ (EZ default aI))) (dR rfl (ih (i+1) aI)))))
 refine aN ?_;simp only[G.uj];exact dB mg (L l.length 0 aI)
def Ip (i:Nat):fD:=if i<10 then [gz (48+i)]else Ip (i/10)++[gz (48+i%10)]
 termination_by i
theorem La {i:Nat}(h:i<10):Ip i=[gz (48+i)]:=by rw[Ip,aA h]
theorem Vt {i:Nat}(h:¬i<10):Ip i=Ip (i/10)++[gz (48+i%10)]:=by rw[Ip,au h]
theorem ahS : ∀(k i:Nat),i<k->(Ip i).length<=i+1:=by
 intro k
 induction k with
 |zero=>intro i h;omega
 | succ k ih=>
   intro i h;by_cases hi:i<10
   ·rw[La hi];simp
   ·rw[Vt hi,bZ];have:=ih (i/10) aI;simp only[nX];omega
theorem wrap_u8 {m:Nat}(h:m<256):af .u8 (m:Int)=m:=by simp only[af,iQ,yY];simp;omega
theorem T.lY : ∀(k i:Nat),i<k->i<lim->Ev (λf=>G.lY f (i:Int)) (Ip i):=by
 intro k
 induction k with
 |zero=>intro i h;omega
 | succ k ih=>
   intro i h hl;unfold lim at hl;have hm:4294967296<maxLen:=(by decide);refine aN ?_;simp only[G.lY];refine dB mg ?_;refine dh (λe=>?_) (λe=>?_)
   ·simp only[aF]at e;refine dw (aQ ?_);rw[La aI,wrapN (m:=48+i) aI aI,wrap_u8 aI,ai]
   ·simp only[dn]at e;have e1:mJ (i:Int) 10=((i/10:Nat):Int):=(by rw[A8 aI];omega);have e2:lD (i:Int) 10=((i%10:Nat):Int):=(by rw[Int.tmod_eq_emod_of_nonneg aI];omega);rw[e1,e2,wrapN (m:=i/10) rfl aI,wrapN (m:=48+i%10) aI aI,wrap_u8 aI,ai];refine ak (ih (i/10) aI (by unfold lim;omega)) ?_;have:=ahS (i/10+1) (i/10) aI;refine dw (dw (aQ ?_));exact(Vt aI).symm
theorem T.decimal {i:Nat}(h:i<lim):Ev (λf=>G.lY f (i:Int)) (Ip i):=T.lY (i+1) i aI h
theorem acQ : ∀(k i:Nat),i<k->Lib.decDigits i=Ip i:=by
 intro k
 induction k with
 |zero=>intro i h;omega
 | succ k ih=>
   intro i h;by_cases h10:i<10
   ·rw[Lib.decDigits_one h10,La h10]
   ·rw[Vt h10,Lib.decDigits,dif_neg h10,ih (i/10) aI]
theorem aiA (i:Nat):wC (i:Int)=Ip i:=by unfold wC;rw[au aI,ai,acQ (i+1) i aI]
theorem T.Itoa {n:Int}(h : -900000000000000<=n/\n<=900000000000000):Ev (λf=>G.strconv_Itoa f n) (wC n):=by refine aN ?_;simp only[G.strconv_Itoa];exact um ⟨aI,bM (Lib.itoa_length_le n aI aI) xB⟩ (bK _)
theorem T.strconv_Itoa {i:Nat}(h:i<10):Ev (λf=>G.strconv_Itoa f (i:Int)) (Ip i):=by
 have:=T.Itoa (n:=(i:Int)) aI
 rwa[aiA]at this
def hit (n:aj)(s:fD)(j:Nat):Bool:=(n.bQ==4&&n.aO.getD j default==s)||(n.bQ==3&&Ip j==s)
def Gn (n:aj)(s:fD):Option Nat:=(bV 0 n.aP.length).find? (hit n s)
def KF : Option Nat->Int
 |some j=>j
 |none=> -1
theorem Ba {n:aj}{s:fD}{j:Nat}(h:Gn n s=some j):j<n.aP.length:=by have:=List.mem_of_find?_eq_some h;simp at this;exact this
theorem Ol {n:aj}{s:fD}{j:Nat}(h:Gn n s=some j):hit n s j=true:=List.find?_some h
theorem T.jL.L1 {B D:Nat}{n:aj}(s:fD)(hB:B<=lim)(h:Fine B D n) :
 ∀(k i:Nat),i+k=n.aP.length->Ev (λf=>G.jL.L1 f n s i) (KF ((bV i k).find? (hit n s))):=by
 have hl:=h.kids;have hm:=h.map;intro k
 induction k with
 | zero=>intro i hi;refine aN ?_;simp only[G.jL.L1];exact dB (by simp;omega) (bK _)
 | succ k ih=>
   intro i hi;have hih:=ih (i+1) aI;have hd:=T.decimal (i:=i) aI;unfold lim at hB;rw[su,yc];have apB:n.bQ≠4->Ev (λf=>cond (n.bQ==3) (mV (G.lY f (i:Int)) λv5=>cond (v5==s) (some (i:Int)) (G.jL.L1 f n s (af .i64 ((i:Int)+1)))) (G.jL.L1 f n s (af .i64 ((i:Int)+1))))
    (KF (match hit n s i with|true=>some i|false=>(bV (i+1) k).find? (hit n s))):=by
    intro h4;have e4:(n.bQ==4)=false:=(by simpa using h4);rw[tC aI];refine dh (λe=>?_) (λe=>?_)
    ·refine ak hd (dh (λe2=>aQ ?_) (λe2=>?_))
     ·rw[show hit n s i=true by unfold hit;rw[e,e2,e4];rfl];rfl
     ·exact hih.eq (by rw[show hit n s i=false by unfold hit;rw[e,e2,e4];rfl])
    ·exact hih.eq (by rw[show hit n s i=false by unfold hit;rw[e,e4];rfl])
   refine aN ?_;simp only[G.jL.L1];refine dR (by simp;omega) ?_;refine dh (λe=>?_) (λe=>apB (by simpa using e));have h4:n.bQ=4:=(by simpa using e);have:=hm h4;refine dw ?_;rw[ai];refine dh (λe2=>aQ ?_) (λe2=>?_)
   ·rw[show hit n s i=true by unfold hit;rw[e,e2];rfl];rfl
   ·refine dB (by rw[h4];rfl) ?_;rw[tC aI];exact hih.eq (by rw[show hit n s i=false by unfold hit;rw[e2,h4];rfl])
theorem T.jL {B D:Nat}{n:aj}(s:fD)(hB:B<=lim)(h:Fine B D n):Ev (λf=>G.jL f n s) (KF (Gn n s)):=by refine aN ?_;simp only[G.jL];exact T.jL.L1 s hB h n.aP.length 0 aI
theorem T.cmp_Less_string (x y:fD):Ev (λf=>G.cmp_Less_string f x y) (bl x y):=by
 refine aN ?_;simp only[G.cmp_Less_string];have:Ev (λf=>G.cmp_isNaN_string f x) false:=by refine aN ?_;simp only[G.cmp_isNaN_string];exact aQ mg
 exact ak this (bK _)
structure LB (l:List fD)(t:fD)(i:Nat):Prop where
 le:i<=l.length
 lo:∀j,j<i->bl (l.getD j default) t=true
 hi:∀j,i<=j->j<l.length->bl (l.getD j default) t=false
theorem half (i j:Nat)(h:i+j<9223372036854775808):af .i64 ((Int.fdiv (af .u64 (af .i64 ((i:Int)+(j:Int)))) (2^(min 1 (iQ .u64)))))=(((i+j)/2:Nat):Int):=by
 rw[wrapN (x:=(i:Int)+(j:Int)) (m:=i+j) aI h];have e:af .u64 ((i+j:Nat):Int)=((i+j:Nat):Int):=by simp only[af,iQ,yY];simp;omega
 rw[e];have e2:Int.fdiv ((i+j:Nat):Int) (2^(min 1 (iQ .u64)))=(((i+j)/2:Nat):Int):=by have:(2:Int)^(min 1 (iQ .u64))=2:=rfl;rw[this,Int.fdiv_eq_ediv_of_nonneg _ aI];omega
 rw[e2];exact wrapN rfl aI
theorem T.BinarySearch.L1 {l:List fD}(t:fD)(hl:l.length<big)(hA:∀i j,i<j->j<l.length->bl (l.getD i default) (l.getD j default)=true) :
 ∀ (k i j:Nat),j-i<=k->i<=j->j<=l.length->(∀q,q<i->bl (l.getD q default) t=true)->(∀q,j<=q->q<l.length->bl (l.getD q default) t=false) ->
   ∃p:Nat,Ev (λf=>G.slices_BinarySearch_string.L1 f l t i j) ((p:Int),decide (p<l.length)&&l.getD p default==t)/\LB l t p:=by
 unfold big at hl;intro k
 induction k with
 | zero=>
   intro i j hk hij hj hlo hhi;have:i=j:=(by omega);subst this;refine⟨i,aN ?_,hj,hlo,hhi⟩;simp only[G.slices_BinarySearch_string.L1];refine dB mg (dh (λe=>?_) (λe=>aQ ?_))
   ·have e':i<l.length:=(by simpa using e);rw[ai];have d1:decide (i<l.length)=true:=(by simpa using e');rw[d1,dS];refine dw (dh (λe2=>aQ (by rw[e2])) (λe2=>dw ?_));have:Ev (λf=>G.slices_isNaN_string f (l.getD i default)) false:=by
     refine aN ?_;simp only[G.slices_isNaN_string];exact aQ mg
    exact ak this (aQ (by rw[e2]))
   ·have d1:decide (i<l.length)=false:=(by simpa using e);rw[d1];rfl
 | succ k ih=>
   intro i j hk hij hj hlo hhi;by_cases he:i=j
   ·exact ih i j aI hij hj hlo hhi
   have h1:(i+j)/2<j:=(by omega);have h2:i<=(i+j)/2:=(by omega);cases hc:bl (l.getD ((i+j)/2) default) t with
   | true=>
     obtain⟨p,g,hp⟩:=ih ((i+j)/2+1) j aI aI hj (λq hq=>by
      by_cases hq2:q=(i+j)/2
      ·rw[hq2];exact hc
      ·exact DX (hA q ((i+j)/2) aI aI) hc) hhi
     refine⟨p,aN ?_,hp⟩;simp only[G.slices_BinarySearch_string.L1];refine dR (by simp;omega) ?_;rw[half i j aI,ai];refine dw (ak (T.cmp_Less_string _ _) (dR hc ?_));rw[tC aI];exact g
   | false=>
     obtain⟨p,g,hp⟩:=ih i ((i+j)/2) aI h2 aI hlo (λq hq hq2=>by
      by_cases hq3:q=(i+j)/2
      ·rw[hq3];exact hc
      ·cases hb:bl (l.getD q default) t with
       |false=>rfl
       |true=>rw[DX (hA ((i+j)/2) q aI hq2) hb]at hc;cases hc)
     refine⟨p,aN ?_,hp⟩;simp only[G.slices_BinarySearch_string.L1];refine dR (by simp;omega) ?_;rw[half i j aI,ai];refine dw (ak (T.cmp_Less_string _ _) (dB hc ?_));exact g
theorem IU {x:fD}{l:List fD}(h:Asc (x::l)=true):Asc l=true:=by
 cases l with
 |nil=>rfl
 |cons y r=>rw[Asc,ah]at h;exact h.2
theorem JV : ∀{l:List fD} {x:fD},Asc (x::l)=true->∀y,y∈l->bl x y=true
 |[],_,_,y,hy=>by cases hy
 | z::r,x,h,y,hy=>by
   have h1:bl x z=true:=(by rw[Asc,ah]at h;exact h.1);rcases aK.1 hy with rfl|hy
   ·exact h1
   ·exact DX h1 (JV (IU h) y hy)
theorem Ho : ∀{l:List fD},Asc l=true->∀i j,i<j->j<l.length->bl (l.getD i default) (l.getD j default)=true
 |[],_,i,j,_,hj=>by simp at hj
 | x::l,h,i,j,hij,hj=>by
   cases j with
   |zero=>omega
   | succ j=>
     rw[nO];have hj':j<l.length:=(by simpa using hj);cases i with
     |zero=>rw[AP,iD _ hj'];exact JV h _ (dX _)
     |succ i=>rw[nO];exact Ho (IU h) i j aI hj'
theorem T.slices_BinarySearch_string {l:List fD}(t:fD)(hl:l.length<big)(hA:Asc l=true) :
 ∃p:Nat,Ev (λf=>G.slices_BinarySearch_string f l t) ((p:Int),decide (p<l.length)&&l.getD p default==t)/\LB l t p:=by
 obtain⟨p,g,hp⟩:=T.BinarySearch.L1 t hl (Ho hA) l.length 0 l.length aI aI aI (λq hq=>by omega) (λq h1 h2=>by omega);refine⟨p,aN ?_,hp⟩;simp only[G.slices_BinarySearch_string];exact g
theorem aj.eta (n:aj):aj.mk n.bQ n.wL n.lI n.aO n.aP=n:=by cases n;rfl
theorem Ob {p:Nat->Bool} : ∀{k i:Nat},(bV i k).find? p=none<->∀q,i<=q->q<i+k->p q=false:=by
 intro k i;rw[List.find?_eq_none];constructor
 ·intro h q h1 h2;have:=h q (by simp;omega);simpa using this
 ·intro h q hq;simp at hq;rw[h q hq.1 hq.2];simp
theorem IE {p:Nat->Bool} : ∀{k i j:Nat},(bV i k).find? p=some j<->(i<=j/\j<i+k/\p j=true/\∀q,i<=q->q<j->p q=false):=by
 intro k
 induction k with
 |zero=>intro i j;simp;omega
 | succ k ih=>
   intro i j;rw[su,yc];cases h:p i with
   | true=>
     simp only[aH];constructor
     ·rintro rfl;exact⟨aI,aI,h,λq h1 h2=>by omega⟩
     ·rintro⟨h1,h2,h3,h4⟩;by_cases e:i=j
      ·exact e
      ·have:=h4 i aI aI;rw[h]at this;cases this
   | false=>
     simp only;rw[ih];constructor
     ·rintro⟨h1,h2,h3,h4⟩;refine⟨aI,aI,h3,λq g1 g2=>?_⟩;by_cases e:q=i
      ·rw[e];exact h
      ·exact h4 q aI g2
     ·rintro⟨h1,h2,h3,h4⟩;have:j≠i:=λe=>(by rw[e,h]at h3;cases h3);exact⟨aI,aI,h3,λq g1 g2=>h4 q aI g2⟩
theorem NG {n:aj}{s:fD}{j:Nat} : Gn n s=some j<->(j<n.aP.length/\hit n s j=true/\∀q,q<j->hit n s q=false):=by
 unfold Gn;rw[IE];constructor
 ·rintro⟨h1,h2,h3,h4⟩;exact⟨aI,h3,λq hq=>h4 q aI hq⟩
 ·rintro⟨h1,h2,h3⟩;exact⟨aI,aI,h2,λq _ hq=>h3 q hq⟩
theorem QV {n:aj}{s:fD} : Gn n s=none<->∀q,q<n.aP.length->hit n s q=false:=by
 unfold Gn;rw[Ob];constructor
 ·intro h q hq;exact h q aI aI
 ·intro h q _ hq;exact h q aI
theorem BK {n:aj}(h:Parts n=true)(hk:n.bQ=4):n.wL=0/\n.lI=[]/\NM n.aO=true/\n.aO.length<=6/\n.aP.length=n.aO.length:=by unfold Parts at h;simp[hk]at h;obtain⟨⟨h1,h2⟩,⟨h3,h4⟩,h5⟩:=h;exact⟨h1,h2,h3,h4,h5⟩
theorem GN {n:aj}(h:Parts n=true)(hk:n.bQ=3):n.wL=0/\n.lI=[]/\n.aO=[]/\n.aP.length<=6:=by unfold Parts at h;simp[hk]at h;obtain⟨⟨⟨h1,h2⟩,h3⟩,h4⟩:=h;exact⟨h1,h2,h3,h4⟩
theorem PD {n:aj}(h:Parts n=true)(h4:n.bQ≠4)(h3:n.bQ≠3):n.aO=[]/\n.aP=[]:=by
 unfold Parts at h;have e4:(n.bQ==4)=false:=by simpa using h4
 simp only[ah,e4,NW]at h;obtain⟨⟨_,h1⟩,h2⟩:=h;refine⟨gQ (by simpa using h1),gQ ?_⟩;by_cases k0:n.bQ=0
 ·rw[aA k0]at h2;simpa using h2
 rw[au k0]at h2;by_cases k1:n.bQ=1
 ·rw[aA k1]at h2;simp at h2;rw[h2.2];rfl
 rw[au k1]at h2;by_cases k2:n.bQ=2
 ·rw[aA k2]at h2;simp at h2;rw[h2.2];rfl
 rw[au k2,au h3,au h4]at h2;cases h2
theorem Px {l:List fD}(h:NM l=true):Asc l=true:=by unfold NM at h;simp only[ah]at h;exact h.2
theorem adx {l:List fD}(h:NM l=true):∀s,s∈l->PT s=true:=by unfold NM at h;simp only[ah]at h;exact bf.1 h.1
theorem SS {n:aj}(h:Parts n=true):n.aP.length<=6:=by
 by_cases k:n.aP.length<=6
 ·exact k
 ·rw[PL aI]at h;cases h
theorem G5 {n:aj}(hk:n.bQ=4)(s:fD)(j:Nat):hit n s j=(n.aO.getD j default==s):=by unfold hit;rw[hk];simp
theorem aim {n:aj}(hk:n.bQ=3)(s:fD)(j:Nat):hit n s j=(Ip j==s):=by unfold hit;rw[hk];simp
theorem Ky {n:aj}(h4:n.bQ≠4)(h3:n.bQ≠3)(s:fD)(j:Nat):hit n s j=false:=by unfold hit;rw[show(n.bQ==4)=false by simpa using h4,show(n.bQ==3)=false by simpa using h3];rfl
theorem Zo {n:aj}{s:fD}{p:Nat}(hk:n.bQ=4)(hA:Asc n.aO=true)(hl:n.aP.length=n.aO.length)(h:LB n.aO s p) :
 Gn n s=if decide (p<n.aO.length)&&n.aO.getD p default==s then some p else none:=by
 cases hc:decide (p<n.aO.length)&&n.aO.getD p default==s with
 | true=>simp only[ah,aF]at hc;rw[aA rfl,NG];refine⟨aI,by rw[G5 hk];exact hc.2,λq hq=>?_⟩;rw[G5 hk];have:=Jr (h.lo q hq);simpa using this
 | false=>
   rw[au mg,QV];intro q hq;rw[G5 hk];by_cases h1:q<p
   ·have:=Jr (h.lo q h1);simpa using this
   ·cases he:n.aO.getD q default==s with
    |false=>rfl
    | true=>
      rw[aZ]at he;by_cases h2:q=p
      ·subst h2;rw[he]at hc;have:decide (q<n.aO.length)=true:=(by simp;omega);rw[this]at hc;simp at hc
      ·have:=Ho hA p q aI aI;rw[he,h.hi p aI aI]at this;cases this
theorem T.gU.L1 {n:aj}(s:fD)(hk:n.bQ=3)(hl:n.aP.length<=6) :
 ∀(k i:Nat),i+k=n.aP.length->Ev (λf=>G.gU.L1 f n s i) (match(bV i k).find? (hit n s)with|some j=>((j:Int),true)|none=>(0,false)):=by
 intro k
 induction k with
 | zero=>intro i hi;refine aN ?_;simp only[G.gU.L1];exact dB (by simp;omega) (bK _)
 | succ k ih=>intro i hi;refine aN ?_;simp only[G.gU.L1];refine dR (by simp;omega) (ak (T.strconv_Itoa (i:=i) aI) ?_);rw[su,yc,aim hk,tC aI];refine dh (λe=>aQ (by rw[e])) (λe=>?_);exact(ih (i+1) aI).eq (by rw[e])
theorem T.gU {n:aj}(s:fD)(h:Parts n=true) :
 ∃v b,Ev (λf=>G.gU f n s) (v,b)/\(∀j,Gn n s=some j->v=(j:Int)/\b=true)/\(Gn n s=none->b=false):=by
 by_cases h4:n.bQ=4
 ·obtain⟨_,_,hN,hl,hkl⟩:=BK h h4;obtain⟨p,g,hp⟩:=T.slices_BinarySearch_string s (by unfold big;omega) (Px hN);have hpl:=Zo h4 (Px hN) hkl hp;refine⟨p,decide (p<n.aO.length)&&n.aO.getD p default==s,aN ?_,λj hj=>?_,λhn=>?_⟩
  ·simp only[G.gU];exact dR (by simpa using h4) (ak g (bK _))
  ·rw[hpl]at hj;split at hj
   ·rename_i hc;cases hj;exact⟨rfl,hc⟩
   ·cases hj
  ·rw[hpl]at hn;split at hn
   ·cases hn
   ·rename_i hc;simpa using hc
 ·have e4:(n.bQ==4)=false:=by simpa using h4
  by_cases h3:n.bQ=3
  ·obtain⟨_,_,_,hl⟩:=GN h h3;have g:=T.gU.L1 s h3 hl n.aP.length 0 aI;cases hp:Gn n s with
   | some j=>refine⟨j,true,aN ?_,λj' hj=>(by cases hj;exact⟨rfl,rfl⟩),λhn=>(by cases hn)⟩;simp only[G.gU];refine dB e4 (dR (by simpa using h3) ?_);exact g.eq (by unfold Gn at hp;rw[hp])
   | none=>refine⟨0,false,aN ?_,λj' hj=>(by cases hj),λ_=>rfl⟩;simp only[G.gU];refine dB e4 (dR (by simpa using h3) ?_);exact g.eq (by unfold Gn at hp;rw[hp])
  ·have hp:Gn n s=none:=QV.2 (λq _=>Ky h4 h3 s q);refine⟨0,false,aN ?_,λj hj=>(by rw[hp]at hj;cases hj),λ_=>rfl⟩;simp only[G.gU];exact dB e4 (dB (by simpa using h3) (bK _))
def MR : aj->List fD->Option aj
 |n,[]=>some n
 | n,s::p=>match Gn n s with
   |some j=>MR (n.aP.getD j default) p
   |none=>none
def xM : aj:=aj.mk 0 0 [] [] []
def pX : Option aj->aj×Bool
 |some n=>(n,true)
 |none=>(xM,false)
theorem T.uY.L1 {B:Nat}(p:List fD)(hB:B<=lim)(hp:p.length<big) :
 ∀(k i D:Nat) (n:aj),i+k=p.length->Fine B D n->Ev (λf=>G.uY.L1 f p i n.bQ n.wL n.lI n.aO n.aP) (pX (MR n (p.drop i))):=by
 unfold big at hp;intro k
 induction k with
 | zero=>intro i D n hi h;refine aN ?_;simp only[G.uY.L1,aj.eta];refine dB (by simp;omega) ?_;rw[ay aI];have hc:=T.cO hB h;exact ak hc (bK _)
 | succ k ih=>
   intro i D n hi h;refine aN ?_;simp only[G.uY.L1,aj.eta];refine dR (by simp;omega) (dw ?_);rw[gm (default:fD) (by omega:i<p.length),ai];have hP:=T.jL (p.getD i default) hB h;refine ak hP ?_;rw[MR];cases hj:Gn n (p.getD i default)with
   |none=>exact dR rfl (bK _)
   | some j=>
     have hjl:=Ba hj;cases D with
     |zero=>exact h.elim
     |succ D=>
     refine dB (bg (by simp only[KF];omega)) (um (by simp only[KF];omega) ?_);rw[tC aI];exact ih (i+1) D _ aI (h.kid hjl)
theorem T.uY {B D:Nat}{n:aj}(p:List fD)(hB:B<=lim)(hp:p.length<big)(h:Fine B D n):Ev (λf=>G.uY f n p) (pX (MR n p)):=by refine aN ?_;simp only[G.uY];exact T.uY.L1 p hB hp p.length 0 D n aI h
theorem T.kN.L1 (p:List fD)(hp:p.length<big) :
 ∀(k i d:Nat) (n:aj),i+k=p.length->Shape d n=true->Ev (λf=>G.kN.L1 f p i n.bQ n.wL n.lI n.aO n.aP) (pX (MR n (p.drop i))):=by
 unfold big at hp;intro k
 induction k with
 | zero=>intro i d n hi h;refine aN ?_;simp only[G.kN.L1,aj.eta];refine dB (by simp;omega) ?_;rw[ay aI];exact bK _
 | succ k ih=>
   intro i d n hi h;cases d with
   |zero=>cases h
   |succ d=>
   refine aN ?_;simp only[G.kN.L1,aj.eta];refine dR (by simp;omega) (dw ?_);rw[gm (default:fD) (by omega:i<p.length),ai];obtain⟨v,b,g,h1,h2⟩:=T.gU (p.getD i default) (rV h);refine ak g ?_;rw[MR];cases hj:Gn n (p.getD i default)with
   |none=>exact dB (h2 hj) (bK _)
   | some j=>have hjl:=Ba hj;obtain⟨rfl,rfl⟩:=h1 j hj;refine dR rfl (dw ?_);rw[tC aI];exact ih (i+1) d _ aI (wu h _ (by rw[ai,iD _ hjl];exact dX _))
theorem T.kN {d:Nat}{n:aj}(p:List fD)(hp:p.length<big)(h:Shape d n=true):Ev (λf=>G.kN f n p) (pX (MR n p)):=by refine aN ?_;simp only[G.kN];exact T.kN.L1 p hp p.length 0 d n aI h
def Ji (n:aj)(j:Nat)(c:aj):aj:=aj.mk n.bQ n.wL n.lI n.aO (n.aP.set j c)
def Il (f:aj->Option aj):aj->List fD->Option aj
 |n,[]=>f n
 | n,s::p=>match Gn n s with
   |some j=>(Il f (n.aP.getD j default) p).map (Ji n j)
   |none=>none
def Ux (n:aj)(p:List fD)(v:aj):Option aj:=Il (λ_=>some v) n p
theorem YB (f:aj->Option aj):∀(p:List fD) (n:aj),Il f n p=(MR n p).bind λm=>(f m).bind λm'=>Ux n p m'
 | [],n=>by show f n=(f n).bind λm'=>some m';cases f n<;>rfl
 | s::p,n=>by
   rw[Il,MR];cases hj:Gn n s with
   |none=>rfl
   | some j=>
     simp only;rw[YB f p];cases ha:MR (n.aP.getD j default) p with
     |none=>rfl
     | some m=>
       simp only[kz];cases hf:f m with
       |none=>rfl
       | some m'=>simp only[kz];unfold Ux;rw[Il,hj]
theorem aaC {B D E:Nat}{n v:aj}{j:Nat}(h:Fine B (D+1) n)(hv:Fine B E v):Fine B (max D E+1) (Ji n j v):=by
 obtain⟨h1,h2,h3,h4,h5,h6⟩:=h;refine⟨h1,h2,h3,by simpa[Ji]using h4,by simpa[Ji]using h5,λk hk=>?_⟩;rcases qg hk with hk|rfl
 ·exact(h6 k hk).mono (aC _) (CV _ _)
 ·exact hv.mono (aC _) (FI _ _)
theorem VB {B E:Nat}{f:aj->Option aj} : ∀(p:List fD) {D:Nat} {n m:aj},(∀D' k k',Fine B D' k->f k=some k'->Fine B (D'+E) k')->Fine B D n->Il f n p=some m->Fine B (D+E) m
 |[],D,n,m,hf,h,hm=>hf D n m h hm
 | s::p,D,n,m,hf,h,hm=>by
   rw[Il]at hm;cases hj:Gn n s with
   |none=>rw[hj]at hm;cases hm
   | some j=>
     rw[hj]at hm;simp only at hm;cases D with
     |zero=>exact h.elim
     |succ D=>
     cases hc:Il f (n.aP.getD j default) p with
     |none=>rw[hc]at hm;cases hm
     | some c=>rw[hc]at hm;cases hm;have:=aaC (j:=j) h (VB p hf (h.kid (Ba hj)) hc);exact this.mono (aC _) aI
theorem RQ {B D E:Nat}{n v m:aj}{p:List fD}(h:Fine B D n)(hv:Fine B E v)(hm:Ux n p v=some m):Fine B (D+E) m:=
 VB p (λD' k k' _ e=>by cases e;exact hv.mono (aC _) aI) h hm
theorem Qp {B:Nat} : ∀(p:List fD) {D:Nat} {n m:aj},Fine B D n->MR n p=some m->Fine B D m
 |[],_,_,_,h,e=>by cases e;exact h
 | s::p,D,n,m,h,e=>by
   rw[MR]at e;cases hj:Gn n s with
   |none=>rw[hj]at e;cases e
   | some j=>
     rw[hj]at e;cases D with
     |zero=>exact h.elim
     |succ D=>exact(Qp p (h.kid (Ba hj)) e).mono (aC _) aI
theorem T.qf {B D E:Nat}{n v:aj}{j:Nat}(hB:B<=lim)(h:Fine B D n)(hv:Fine B E v)(hj:j<n.aP.length):Ev (λf=>G.qf f n j v) (Ji n j v):=by refine aN ?_;simp only[G.qf];refine ak (T.cO hB h) (ak (T.cO hB hv) (dw (aQ ?_)));rw[ai];rfl
theorem T.qj {B E:Nat}{v:aj}(hB:B<=lim)(hv:Fine B E v):∀(p:List fD) {D:Nat} {n:aj},p.length<big->Fine B D n->Ev (λf=>G.qj f n p v) (pX (Ux n p v))
 | [],D,n,_,h=>by refine aN ?_;simp only[G.qj];exact dR rfl (ak (T.cO hB hv) (bK _))
 | s::p,D,n,hp,h=>by
   simp only[iU]at hp;have hp':=hp;unfold big at hp';refine aN ?_;simp only[G.qj];refine dB (by simp;omega) (um mg ?_);rw[AP];refine ak (T.jL s hB h) ?_;unfold Ux;rw[Il];cases hj:Gn n s with
   |none=>exact dR rfl (bK _)
   | some j=>
     have hjl:=Ba hj;cases D with
     |zero=>exact h.elim
     |succ D=>
     refine dB (bg (by simp only[KF];omega)) (um (by simp only[KF];omega) (um (by simp;omega) ?_));have hk:=h.kid hjl;have ih:=T.qj hB hv p aI hk;refine ak (show Ev (λf=>G.qj f (n.aP.getD (KF (some j)).toNat default) ((s::p).drop 1) v) _ from ih) ?_;show Ev _ (pX ((Ux (n.aP.getD j default) p v).map (Ji n j)));cases hc:Ux (n.aP.getD j default) p v with
     |none=>exact dB rfl (bK _)
     | some c=>refine dR rfl ?_;exact ak (T.qf hB h (RQ hk hv hc) hjl) (bK _)
theorem V5 {s:fD}(h:PT s=true):s.length<=12:=by unfold PT at h;simp at h;exact h.2
theorem AA : ∀{d:Nat} {n:aj},Shape d n=true->Fine 12 d n
 |0,_,h=>by cases h
 | d+1,n,h=>by
   have hp:=rV h;have hk:=wu h;have hl:=SS hp;refine⟨?_,?_,?_,aI,?_,λk hk'=>AA (hk k hk')⟩
   ·by_cases h2:n.bQ=2
    ·unfold Parts at hp;simp[h2]at hp;exact V5 hp.2.1
    ·have e2:(n.bQ==2)=false:=(by simpa using h2);unfold Parts at hp;simp only[e2,NW,ah]at hp;have:=hp.1.1.2;rw[aZ]at this;rw[this];simp
   ·by_cases h4:n.bQ=4
    ·have:=(BK hp h4).2.2.2.1;omega
    ·by_cases h3:n.bQ=3
     ·rw[(GN hp h3).2.2.1];simp
     ·rw[(PD hp h4 h3).1];simp
   ·intro s hs;by_cases h4:n.bQ=4
    ·exact V5 (adx (BK hp h4).2.2.1 s hs)
    ·by_cases h3:n.bQ=3
     ·rw[(GN hp h3).2.2.1]at hs;cases hs
     ·rw[(PD hp h4 h3).1]at hs;cases hs
   ·intro h4;have:=(BK hp h4).2.2.2.2;omega
theorem Dp {d:Nat}{n:aj}(h:Shape (d+1) n=true){j:Nat}(hj:j<n.aP.length):Shape d (n.aP.getD j default)=true:=by rw[iD _ hj];exact wu h _ (dX _)
theorem Fp : 12<=lim:=xB
theorem T.change {F:Nat->aj->List fD->Option (aj×Bool)}{C:Nat->aj->Option (aj×Bool)}{g:aj->Option aj}
 (hF:∀n a p,F (n+1) a p=cond ((p.length:Int)==0) (mV (C n a) λv1=>some (v1.1,v1.2))
  (chk (0<=0/\0<(p.length:Int)) (mV (G.gU n a (p.getD 0 default)) λv2=>cond v2.2
   (chk (0<=v2.1/\v2.1<(a.aP.length:Int)) (chk (0<=1/\1<=(p.length:Int)/\(p.length:Int)<=(p.length:Int))
    (mV (F n (a.aP.getD v2.1.toNat default) (p.drop 1)) λv3=>cond v3.2 (mV (G.bC n a) λv4=>chk (0<=v2.1/\v2.1<(v4.aP.length:Int)) (some ((aj.mk v4.bQ v4.wL v4.lI v4.aO (v4.aP.set v2.1.toNat v3.1)),true)))
     (some ((aj.mk 0 0 [] [] []),false))))) (some ((aj.mk 0 0 [] [] []),false)))))
 (hC:∀d m,Shape d m=true->Ev (λn=>C n m) (pX (g m))) :
 ∀(p:List fD) {d:Nat} {n:aj},Shape d n=true->Ev (λk=>F k n p) (pX (Il g n p))
 | [],d,n,h=>by refine aN ?_;simp only[hF];refine dR rfl (ak (hC d n h) (aQ ?_));rw[Il]
 | s::p,d,n,h=>by
   cases d with
   |zero=>cases h
   |succ d=>
   obtain⟨v,b,gk,h1,h2⟩:=T.gU s (rV h);refine aN ?_;simp only[hF];refine dB (by simp;omega) (um mg ?_);rw[AP];refine ak gk ?_;rw[Il];cases hj:Gn n s with
   |none=>exact dB (h2 hj) (bK _)
   | some j=>
     have hjl:=Ba hj;obtain⟨rfl,rfl⟩:=h1 j hj;refine dR rfl (dw (um (by simp;omega) ?_));rw[ai];have ih:=T.change hF hC p (Dp h hjl);refine ak (show Ev (λk=>F k (n.aP.getD j default) ((s::p).drop 1)) _ from ih) ?_;simp only;cases hc:Il g (n.aP.getD j default) p with
     |none=>exact dB rfl (bK _)
     | some c=>refine dR rfl (ak (T.bC Fp (AA h)) (dw (bK _)))
def insL {α:Type}(l:List α)(k:Nat)(v:α):List α:=(l.take k++[v])++l.drop k
def slt (n:aj)(s:fD):Nat:=((bV 0 n.aP.length).find? λi=>bl s (n.aO.getD i default)).getD n.aP.length
def addN (n:aj)(s:fD)(v:aj):Option aj:=
 match Gn n s with
 |some k=>if n.bQ=4 then some (Ji n k v)else some (aj.mk n.bQ 0 [] [] (insL n.aP k v))
 | none=>if n.bQ=3 then(if s=[45]\/s=Ip n.aP.length then some (aj.mk n.bQ 0 [] [] (insL n.aP n.aP.length v))else none)
   else if n.bQ=4 then some (aj.mk n.bQ 0 [] (insL n.aO (slt n s) s) (insL n.aP (slt n s) v))else none
theorem adR (n:aj)(s:fD):slt n s<=n.aP.length:=by
 unfold slt;cases h:(bV 0 n.aP.length).find? λi=>bl s (n.aO.getD i default)with
 |none=>simp
 |some j=>have:=(IE.1 h).2.1;simp only[lW];omega
def TZ (n:aj)(s:fD):Option (Nat×Bool):=
 match Gn n s with
 |some k=>some (k,n.bQ==4)
 | none=>if n.bQ=3 then(if s=[45]\/s=Ip n.aP.length then some (n.aP.length,false)else none)
   else if n.bQ=4 then some (slt n s,false)else none
def ajw : Option (Nat×Bool)->Int×Bool
 |some (k,b)=>((k:Int),b)
 |none=>(-1,false)
theorem T.mO.L1 {n:aj}(s:fD)(hk:n.bQ≠4):Ev (λf=>G.mO.L1 f n s 0) (-1,false):=by refine aN ?_;simp only[G.mO.L1];exact dB (by simpa using hk) (bK _)
theorem T.mO.L2 {B D:Nat}{n:aj}(s:fD)(hB:B<=lim)(h:Fine B D n)(hk:n.bQ=4) :
 ∀(k i:Nat),i+k=n.aP.length->Ev (λf=>G.mO.L2 f n s i) (((((bV i k).find? λi=>bl s (n.aO.getD i default)).getD n.aP.length:Nat):Int),false):=by
 have hl:=h.kids;have hm:=h.map hk;unfold lim at hB;intro k
 induction k with
 | zero=>intro i hi;refine aN ?_;simp only[G.mO.L2];refine dR (by simpa using hk) (dR (by simp;omega) (dR (by simp;omega) (aQ ?_)));show((i:Int),false)=((n.aP.length:Int),false);rw[show i=n.aP.length by omega]
 | succ k ih=>
   intro i hi;refine aN ?_;simp only[G.mO.L2];refine dR (by simpa using hk) (dR (by simp;omega) (dB (by simp;omega) (dw ?_)));rw[su,yc,ai];refine dh (λe=>aQ ?_) (λe=>?_)
   ·rw[show bl s (n.aO.getD i default)=true from e];rfl
   ·rw[tC aI,show bl s (n.aO.getD i default)=false from e];exact ih (i+1) aI
theorem T.mO {B D:Nat}{n:aj}(s:fD)(hB:B<=lim)(h:Fine B D n)(hB':B<lim):Ev (λf=>G.mO f n s) (ajw (TZ n s)):=by
 have hl:=h.kids;refine aN ?_;simp only[G.mO];refine ak (T.jL s hB h) ?_;unfold TZ;cases hj:Gn n s with
 |some j=>exact dR (dW (by simp only[KF];omega)) (bK _)
 | none=>
   refine dB (by rfl) ?_;simp only;by_cases h3:n.bQ=3
   ·rw[aA h3];refine dR (by simpa using h3) ?_;refine dh (λe=>aQ ?_) (λe=>?_)
    ·rw[aA (.inl (by simpa using e))];rfl
    ·refine ak (T.decimal (i:=n.aP.length) aI) (dh (λe2=>aQ ?_) (λe2=>?_))
     ·rw[aA (.inr (by simpa using e2))];rfl
     ·rw[au (by simp at e e2;simp[e,e2])];exact T.mO.L1 s aI
   ·rw[au h3];refine dB (by simpa using h3) ?_;by_cases h4:n.bQ=4
    ·rw[aA h4];exact T.mO.L2 s hB h h4 n.aP.length 0 aI
    ·rw[au h4];refine aN ?_;simp only[G.mO.L2];exact dB (by simpa using h4) (bK _)
theorem Xw (n:aj)(s:fD)(v:aj):addN n s v=(TZ n s).map λq=>if q.2 then Ji n q.1 v else if n.bQ=3 then aj.mk n.bQ 0 [] [] (insL n.aP q.1 v)else aj.mk n.bQ 0 [] (insL n.aO q.1 s) (insL n.aP q.1 v):=by
 unfold addN TZ;cases hj:Gn n s with
 | some j=>
   simp only[kL];by_cases h4:n.bQ=4
   ·simp[h4]
   ·have h3:n.bQ=3:=by
     by_cases h3:n.bQ=3
     ·exact h3
     ·have:=Ol hj;rw[Ky h4 h3]at this;cases this
    simp[h3]
 | none=>
   simp only;by_cases h3:n.bQ=3
   ·simp only[h3,jY];by_cases hs:s=[45]\/s=Ip n.aP.length
    ·rw[aA hs,aA hs];simp
    ·rw[au hs,au hs];rfl
   ·rw[au h3,au h3];by_cases h4:n.bQ=4
    ·rw[aA h4,aA h4];simp[h3]
    ·rw[au h4,au h4];rfl
theorem aeY {n:aj}{s:fD}{q:Nat×Bool}(h:TZ n s=some q):q.1<=n.aP.length/\(q.2=true->q.1<n.aP.length)/\(n.bQ=3\/n.bQ=4):=by
 unfold TZ at h;cases hj:Gn n s with
 | some j=>
   rw[hj]at h;cases h;have:=Ba hj;refine⟨aI,λ_=>this,?_⟩;by_cases h4:n.bQ=4
   ·exact .inr h4
   ·by_cases h3:n.bQ=3
    ·exact .inl h3
    ·have:=Ol hj;rw[Ky h4 h3]at this;cases this
 | none=>
   rw[hj]at h;simp only at h;by_cases h3:n.bQ=3
   ·rw[aA h3]at h;split at h
    ·cases h;exact⟨aC _,λe=>(by cases e),.inl h3⟩
    ·cases h
   ·rw[au h3]at h;split at h
    ·rename_i h4;cases h;exact⟨adR n s,λe=>(by cases e),.inr h4⟩
    ·cases h
theorem T.rO {B D E:Nat}{n v:aj}(s:fD)(hB:B<lim)(h:Fine B D n)(hv:Fine B E v):Ev (λf=>G.rO f n s v) (pX (addN n s v)):=by
 have hl:=h.kids;have hn:=h.names;have hB2:=hB;unfold lim at hB2;refine aN ?_;simp only[G.rO];refine ak (T.mO s aI h hB) ?_;rw[Xw];cases hq:TZ n s with
 |none=>exact dR rfl (bK _)
 | some q=>
   obtain⟨q1,q2⟩:=q;obtain⟨hq1,hq2,hk⟩:=aeY hq;simp only at hq1 hq2;refine dB (bg (by simp only[ajw];omega)) ?_;refine dh (λe=>?_) (λe=>?_)
   ·have e:q2=true:=e;subst e;exact ak (T.qf aI h hv (hq2 rfl)) (bK _)
   ·have e:q2=false:=e;subst e;simp only[ajw,ai];have ht:(n.aP.take q1).length=q1:=(by rw[iK];omega);have hd:(n.aP.drop q1).length=n.aP.length-q1:=nD;refine ak (T.cO aI h) (dw (dw (ak (T.cO aI hv) (dw (dw (dw ?_))))));refine dh (λe3=>aQ ?_) (λe3=>?_)
    ·have e3':n.bQ=3:=(by simpa using e3);simp only[kL,aA e3'];rfl
    ·have e3':¬n.bQ=3:=(by simpa using e3);have h4:n.bQ=4:=(by omega);have hm:=h.map h4;have ht2:(n.aO.take q1).length=q1:=(by rw[iK];omega);have hd2:(n.aO.drop q1).length=n.aO.length-q1:=nD;refine dw (dw (dw (dw (dw (aQ ?_)))));simp only[kL,au e3'];rfl
theorem aaB {B D E:Nat}{n v m:aj}{s:fD}(h:Fine B D n)(hv:Fine B E v)(hs:s.length<=B)(hm:addN n s v=some m):Fine (B+1) (D+E) m:=by
 rw[Xw]at hm;cases hq:TZ n s with
 |none=>rw[hq]at hm;cases hm
 | some q=>
   obtain⟨q1,q2⟩:=q;obtain⟨hq1,hq2,hk⟩:=aeY hq;simp only at hq1 hq2;rw[hq]at hm;cases D with
   |zero=>exact h.elim
   |succ D=>
   cases hm;have aof:∀k,k∈insL n.aP q1 v->Fine (B+1) (D+E) k:=by
    intro k hk;unfold insL at hk;simp only[bG,sN]at hk;rcases hk with(hk|rfl)|hk
    ·exact(h.2.2.2.2.2 k (gI hk)).mono aI aI
    ·exact hv.mono aI aI
    ·exact(h.2.2.2.2.2 k (lu hk)).mono aI aI
   have hlen:(insL n.aP q1 v).length=n.aP.length+1:=(by unfold insL;simp;omega);have hl:=h.kids;have hn:=h.names;have hb:1<=B+1:=(by omega);cases q2 with
   |true=>exact(aaC (j:=q1) h hv).mono aI aI
   | false=>
     simp only[Bool.false_eq_true,if_false];rw[show D+1+E=(D+E)+1 by omega];by_cases h3:n.bQ=3
     ·rw[aA h3];exact⟨mg,mg,mg,by show(insL n.aP q1 v).length<=_;omega,λh4=>by simp only at h4;omega,aof⟩
     ·rw[au h3];have h4:n.bQ=4:=(by omega);have hm:=h.map h4;have hlen2:(insL n.aO q1 s).length=n.aO.length+1:=(by unfold insL;simp;omega);refine⟨mg,by show(insL n.aO q1 s).length<=_;omega,λx hx=>?_,by show(insL n.aP q1 v).length<=_;omega,λ_=>by show(insL n.aP q1 v).length<=(insL n.aO q1 s).length;omega,aof⟩;have hx:x∈insL n.aO q1 s:=hx;unfold insL at hx;simp only[bG,sN]at hx;rcases hx with(hx|rfl)|hx
      ·have:=h.2.2.1 x (gI hx);omega
      ·omega
      ·have:=h.2.2.1 x (lu hx);omega
theorem ajx {n:aj}{s:fD}{p:Nat}(hA:Asc n.aO=true)(hl:n.aP.length=n.aO.length)(h:LB n.aO s p)(hne:(decide (p<n.aO.length)&&n.aO.getD p default==s)=false):slt n s=p:=by
 have hhi:∀j,p<=j->j<n.aO.length->bl s (n.aO.getD j default)=true:=by
  intro j h1 h2;cases hb:bl s (n.aO.getD j default)with
  |true=>rfl
  | false=>
    have e:=Pg hb (h.hi j h1 h2);by_cases hp:p=j
    ·subst hp;have:decide (p<n.aO.length)=true:=(by simpa using h2);rw[this,<- e]at hne;simp at hne
    ·have:=Ho hA p j aI h2;rw[<- e,h.hi p aI aI]at this;cases this
 unfold slt;cases hf:(bV 0 n.aP.length).find? λi=>bl s (n.aO.getD i default)with
 | none=>
   have:=Ob.1 hf;by_cases hp:p=n.aP.length
   ·rw[hp];rfl
   ·have aoh:=h.le;have h2:=hhi p aI aI;rw[this p aI aI]at h2;cases h2
 | some j=>
   obtain⟨h1,h2,h3,h4⟩:=IE.1 hf;show j=p;have a1:¬j<p:=λhlt=>by have:=U6 (h.lo j hlt);rw[this]at h3;cases h3
   have a2:¬p<j:=λhlt=>by have:=h4 p aI hlt;rw[hhi p aI aI]at this;cases this
   omega
theorem T.pW {d:Nat}{n v:aj}(s:fD)(h:Shape (d+1) n=true)(hk:n.bQ=4):∃m,addN n s v=some m/\Ev (λf=>G.pW f n s v) m:=by
 have hp:=rV h;obtain⟨hnum,htext,hN,hl,hkl⟩:=BK hp hk;obtain⟨p,g,hlb⟩:=T.slices_BinarySearch_string s (by unfold big;omega) (Px hN);have hpl:=Zo hk (Px hN) hkl hlb;have aoh:=hlb.le;cases hc:decide (p<n.aO.length)&&n.aO.getD p default==s with
 | true=>rw[hc,aA rfl]at hpl;refine⟨Ji n p v,by unfold addN;rw[hpl];simp[hk],aN ?_⟩;simp only[G.pW];have:=Ba hpl;refine ak g (dR hc (dw (aQ ?_)));rw[ai];rfl
 | false=>
   rw[hc,au mg]at hpl;have hsl:=ajx (Px hN) hkl hlb hc;refine⟨aj.mk n.bQ 0 [] (insL n.aO p s) (insL n.aP p v),by unfold addN;rw[hpl,hsl];simp[hk],aN ?_⟩;simp only[G.pW];refine ak g (dB hc ?_);have i1:Ev (λf=>G.mZ f n.aO (p:Int) [s]) (insL n.aO p s):=by refine aN ?_;simp only[G.mZ];refine um (by simp;omega) (aQ ?_);rw[ai];rfl
   have i2:Ev (λf=>G.je f n.aP (p:Int) [v]) (insL n.aP p v):=by refine aN ?_;simp only[G.je];refine um (by simp;omega) (aQ ?_);rw[ai];rfl
   exact ak i1 (ak i2 (aQ (by rw[hnum,htext])))
theorem T.lX.K1 {B E:Nat}{n v:aj}{k:Nat}(hB:B<=lim)(hv:Fine B E v)(hk:k<=n.aP.length)(hl:n.aP.length<=6):Ev (λf=>G.lX.K1 f v n (k:Int) true) (aj.mk n.bQ n.wL n.lI n.aO (insL n.aP k v),true):=by
 refine aN ?_;simp only[G.lX.K1];refine dR rfl (ak (T.bC hB hv) ?_);have i2:Ev (λf=>G.je f n.aP (k:Int) [v]) (insL n.aP k v):=by refine aN ?_;simp only[G.je];refine um (by simp;omega) (aQ ?_);rw[ai];rfl
 exact ak i2 (bK _)
theorem T.lX {B E d:Nat}{n v:aj}(s:fD)(hB:B<=lim)(hv:Fine B E v)(h:Shape d n=true):Ev (λf=>G.lX f n s v) (pX (addN n s v)):=by
 cases d with
 |zero=>cases h
 |succ d=>
 have hp:=rV h;refine aN ?_;simp only[G.lX];refine ak (T.bC Fp (AA h)) ?_;by_cases h4:n.bQ=4
 ·refine dR (by simpa using h4) (ak (T.bC hB hv) ?_);obtain⟨m,hm,g⟩:=T.pW (v:=v) s h h4;rw[hm];exact ak g (bK _)
 refine dB (by simpa using h4) ?_;by_cases h3:n.bQ=3
 ·obtain⟨hnum,htext,ac7,hl⟩:=GN hp h3;refine dR (by simpa using h3) ?_;obtain⟨w,b,g,h1,h2⟩:=T.gU s hp;refine ak g ?_;unfold addN;cases hj:Gn n s with
  | some j=>obtain⟨rfl,rfl⟩:=h1 j hj;have:=Ba hj;refine dR rfl ((T.lX.K1 (k:=j) hB hv aI hl).eq ?_);simp only[au h4];rw[hnum,htext,ac7];rfl
  | none=>
    have hb:=h2 hj;subst hb;simp only[aA h3];refine dB rfl (dh (λe=>?_) (λe=>?_))
    ·refine(T.lX.K1 (k:=n.aP.length) hB hv aI hl).eq ?_;rw[aA (.inl (by simpa using e)),hnum,htext,ac7];rfl
    ·refine ak (T.strconv_Itoa (i:=n.aP.length) aI) (dh (λe2=>?_) (λe2=>?_))
     ·refine(T.lX.K1 (k:=n.aP.length) hB hv aI hl).eq ?_;rw[aA (.inr (by simpa using e2)),hnum,htext,ac7];rfl
     ·rw[au (by simp at e e2;simp[e,e2])];refine aN ?_;simp only[G.lX.K1];exact dB rfl (bK _)
 ·refine dB (by simpa using h3) (aQ ?_);have hn:Gn n s=none:=QV.2 (λq _=>Ky h4 h3 s q);unfold addN;rw[hn];simp[h3,h4,pX,xM]
theorem T.mQ (b:Bool):Ev (λf=>G.mQ f b) (if b then 1 else 0):=by
 refine aN ?_;simp only[G.mQ];cases b
 ·exact bK _
 ·exact bK _
theorem T.sJ (a b:Int):∃r,Ev (λf=>G.sJ f a b) r/\(r=0<->a=b):=by
 by_cases h:a<b
 ·refine⟨-1,aN ?_,aI⟩;simp only[G.sJ];rw[show decide (b<a)=false by simp;omega,show decide (a<b)=true by simpa using h];exact ak (T.mQ _) (ak (T.mQ _) (bK _))
 ·by_cases k:b<a
  ·refine⟨1,aN ?_,aI⟩;simp only[G.sJ];rw[show decide (a<b)=false by simp;omega,show decide (b<a)=true by simpa using k];exact ak (T.mQ _) (ak (T.mQ _) (bK _))
  ·refine⟨0,aN ?_,aI⟩;simp only[G.sJ];rw[show decide (a<b)=false by simp;omega,show decide (b<a)=false by simp;omega];exact ak (T.mQ _) (ak (T.mQ _) (bK _))
theorem T.pJ (a b:fD)(hne:a≠b):∃r,Ev (λf=>G.pJ f a b) r/\r≠0:=by
 cases h:bl a b with
 | true=>refine⟨-1,aN ?_,aI⟩;simp only[G.pJ];exact dR h (ak (T.mQ _) (ak (T.mQ _) (bK _)))
 | false=>refine⟨1,aN ?_,aI⟩;simp only[G.pJ];exact dB h (dB (by simpa using hne) (ak (T.mQ _) (ak (T.mQ _) (bK _))))
def JG (a b:aj)(i:Nat):Prop:=a.aP.drop i=b.aP.drop i/\(a.bQ=4->a.aO.drop i=b.aO.drop i)
theorem Vu {a b:aj}{i:Nat}(ha:i<a.aP.length)(hb:i<b.aP.length)(h4:a.bQ=4->i<a.aO.length/\i<b.aO.length) :
 JG a b i<->((a.bQ=4->a.aO.getD i default=b.aO.getD i default)/\a.aP.getD i default=b.aP.getD i default/\JG a b (i+1)):=by
 unfold JG;rw[gm (default:aj) ha,gm (default:aj) hb,x8];by_cases hk:a.bQ=4
 ·obtain⟨n1,n2⟩:=h4 hk;rw[gm (default:fD) n1,gm (default:fD) n2,x8];simp only[hk,true_implies];constructor
  ·rintro⟨⟨x,y⟩,z,w⟩;exact⟨z,x,y,w⟩
  ·rintro⟨z,x,y,w⟩;exact⟨⟨x,y⟩,z,w⟩
 ·simp only[hk,false_implies,and_true,true_and]
theorem Cc {d:Nat}{n:aj}(h:Shape d n=true)(hk:n.bQ=4):n.aO.length=n.aP.length:=by
 cases d with
 |zero=>cases h
 |succ d=>exact(BK (rV h) hk).2.2.2.2.symm
theorem T.iO.L1 {d e:Nat}{a b:aj}(ha:Shape (d+1) a=true)(hb:Shape (e+1) b=true)(hk:a.bQ=b.bQ)
 (hs:∀x y,x∈a.aP->y∈b.aP->∃r,Ev (λf=>G.iO f x y) r/\(r=0<->x=y)) :
 ∀(k i:Nat),a.aP.length<=i+k->i<=a.aP.length->i<=b.aP.length->∃r,Ev (λf=>G.iO.L1 f a b i) r/\(r=0<->JG a b i):=by
 have la:=Fz ha;have lb:=Fz hb;have tail:∀i,i<=a.aP.length->i<=b.aP.length->(i=a.aP.length\/i=b.aP.length)->∃r,Ev (λf=>mV (G.sJ f (a.aP.length:Int) (b.aP.length:Int)) λv=>some v) r/\(r=0<->JG a b i):=by
  intro i h1 h2 h3;obtain⟨r,g,hr⟩:=T.sJ (a.aP.length:Int) (b.aP.length:Int);refine⟨r,ak g (bK _),hr.trans ⟨λhl=>?_,λhE=>?_⟩⟩
  ·have hl:a.aP.length=b.aP.length:=(by omega);refine⟨by rw[ay aI,ay aI],λh4=>?_⟩;have n1:=Cc ha h4;have n2:=Cc hb (hk▸h4);rw[ay aI,ay aI]
  ·have:=sK yP hE.1;simp only[nD]at this;omega
 intro k
 induction k with
 | zero=>intro i h1 h2 h3;obtain⟨r,g,hr⟩:=tail i h2 h3 aI;refine⟨r,aN ?_,hr⟩;simp only[G.iO.L1];exact dB (by simp;omega) g
 | succ k ih=>
   intro i h1 h2 h3;by_cases hia:i=a.aP.length
   ·obtain⟨r,g,hr⟩:=tail i h2 h3 aI;refine⟨r,aN ?_,hr⟩;simp only[G.iO.L1];exact dB (by simp;omega) g
   by_cases hib:i=b.aP.length
   ·obtain⟨r,g,hr⟩:=tail i h2 h3 aI;refine⟨r,aN ?_,hr⟩;simp only[G.iO.L1];exact dR (by simp;omega) (dB (by simp;omega) g)
   have n4:a.bQ=4->i<a.aO.length/\i<b.aO.length:=λh4=>by have n1:=Cc ha h4;have n2:=Cc hb (hk▸h4);omega
   have hE:=Vu (a:=a) (b:=b) (i:=i) aI aI n4;obtain⟨r2,g2,hr2⟩:=hs (a.aP.getD i default) (b.aP.getD i default) (by rw[iD _ (by omega:i<a.aP.length)];exact dX _) (by rw[iD _ (by omega:i<b.aP.length)];exact dX _);obtain⟨r3,g3,hr3⟩:=ih (i+1) aI aI aI;have rest:∃r,Ev (λf=>mV (G.iO f (a.aP.getD i default) (b.aP.getD i default)) λv=>cond (v != 0) (some v) (G.iO.L1 f a b ((i+1:Nat):Int))) r/\(r=0<->(a.aP.getD i default=b.aP.getD i default/\JG a b (i+1))):=by
    by_cases h0:r2=0
    ·refine⟨r3,ak g2 (dB (by rw[h0];rfl) g3),?_⟩;rw[hr3];exact⟨λh=>⟨hr2.1 h0,h⟩,λh=>h.2⟩
    ·refine⟨r2,ak g2 (dR (by simpa using h0) (bK _)),?_⟩;exact⟨λh=>eF h h0,λh=>hr2.2 h.1⟩
   obtain⟨r4,g4,hr4⟩:=rest;by_cases h4:a.bQ=4
   ·obtain⟨m1,m2⟩:=n4 h4;by_cases hn:a.aO.getD i default=b.aO.getD i default
    ·refine⟨r4,aN ?_,?_⟩
     ·simp only[G.iO.L1];rw[ai,tC aI];exact dR (by simp;omega) (dR (by simp;omega) (dR (by simpa using h4) (dw (dw (dR (by simpa using hn) (dw (dw g4)))))))
     ·rw[hr4,hE];exact⟨λh=>⟨λ_=>hn,h⟩,λh=>h.2⟩
    ·obtain⟨r,g,hr⟩:=T.pJ _ _ hn;refine⟨r,aN ?_,?_⟩
     ·simp only[G.iO.L1];rw[ai,tC aI];exact dR (by simp;omega) (dR (by simp;omega) (dR (by simpa using h4) (dw (dw (dB (by simpa using hn) (dw (dw (ak g (bK _)))))))))
     ·rw[hE];exact⟨λh=>eF h hr,λh=>eF (h.1 h4) hn⟩
   ·refine⟨r4,aN ?_,?_⟩
    ·simp only[G.iO.L1];rw[ai,tC aI];exact dR (by simp;omega) (dR (by simp;omega) (dB (by simpa using h4) (dw (dw g4))))
    ·rw[hr4,hE];exact⟨λh=>⟨λe=>eF e h4,h⟩,λh=>h.2⟩
theorem X3 {d:Nat}{n:aj}(h:Shape (d+1) n=true)(h4:n.bQ≠4):n.aO=[]:=by
 by_cases h3:n.bQ=3
 ·exact(GN (rV h) h3).2.2.1
 ·exact(PD (rV h) h4 h3).1
theorem eq_iff {d e:Nat}{a b:aj}(ha:Shape (d+1) a=true)(hb:Shape (e+1) b=true):a=b<->(a.bQ=b.bQ/\a.wL=b.wL/\a.lI=b.lI/\JG a b 0):=by
 constructor
 ·rintro rfl;exact⟨rfl,rfl,rfl,rfl,λ_=>rfl⟩
 ·rintro⟨h1,h2,h3,h4,h5⟩;simp only[dM]at h4 h5;have hn:a.aO=b.aO:=by
   by_cases h:a.bQ=4
   ·exact h5 h
   ·rw[X3 ha h,X3 hb (h1▸h)]
  cases a;cases b;simp only at h1 h2 h3 h4 hn;subst h1 h2 h3 h4 hn;rfl
theorem T.iO : ∀(d:Nat) {e:Nat} {a b:aj},Shape d a=true->Shape e b=true->∃r,Ev (λf=>G.iO f a b) r/\(r=0<->a=b)
 |0,_,_,_,h,_=>by cases h
 |_+1,0,_,_,_,h=>by cases h
 | d+1,e+1,a,b,ha,hb=>by
   rw[eq_iff ha hb];by_cases h1:a.bQ=b.bQ
   ·by_cases h2:a.wL=b.wL
    ·by_cases h3:a.lI=b.lI
     ·obtain⟨r,g,hr⟩:=T.iO.L1 ha hb h1 (λx y hx hy=>T.iO d (wu ha x hx) (wu hb y hy)) a.aP.length 0 aI aI aI;refine⟨r,aN ?_,hr.trans ⟨λh=>⟨h1,h2,h3,h⟩,λh=>h.2.2.2⟩⟩;simp only[G.iO];exact dB (by simpa using h1) (dB (by simpa using h2) (dR (by simpa using h3) g))
     ·obtain⟨r,g,hr⟩:=T.pJ _ _ h3;refine⟨r,aN ?_,⟨λh=>eF h hr,λh=>eF h.2.2.1 h3⟩⟩;simp only[G.iO];exact dB (by simpa using h1) (dB (by simpa using h2) (dB (by simpa using h3) (ak g (bK _))))
    ·obtain⟨r,g,hr⟩:=T.sJ a.wL b.wL;refine⟨r,aN ?_,hr.trans ⟨λh=>eF h h2,λh=>h.2.1⟩⟩;simp only[G.iO];exact dB (by simpa using h1) (dR (by simpa using h2) (ak g (bK _)))
   ·obtain⟨r,g,hr⟩:=T.sJ a.bQ b.bQ;refine⟨r,aN ?_,hr.trans ⟨λh=>eF h h1,λh=>h.1⟩⟩;simp only[G.iO];exact dR (by simpa using h1) (ak g (bK _))
theorem T.zy {d e:Nat}{a b:aj}(ha:Shape d a=true)(hb:Shape e b=true):∃v,Ev (λf=>G.zy f a b) v/\(v=true<->a=b):=by obtain⟨r,g,hr⟩:=T.iO d ha hb;refine⟨r==0,aN ?_,by rw[aZ];exact hr⟩;simp only[G.zy];exact ak g (bK _)
theorem T.cmp_Compare_int (a b:Int):∃r,Ev (λf=>G.cmp_Compare_int f a b) r/\(r=0<->a=b):=by
 have hn:∀x:Int,Ev (λf=>G.cmp_isNaN_int f x) false:=λx=>by refine aN ?_;simp only[G.cmp_isNaN_int];exact aQ mg
 by_cases h:a<b
 ·refine⟨-1,aN ?_,aI⟩;simp only[G.cmp_Compare_int];exact ak (hn a) (ak (hn b) (dB rfl (dB rfl (dR (by simpa using h) (bK _)))))
 ·by_cases k:b<a
  ·refine⟨1,aN ?_,aI⟩;simp only[G.cmp_Compare_int];exact ak (hn a) (ak (hn b) (dB rfl (dB rfl (dB (by simpa using h) (dR (by simpa using k) (bK _))))))
  ·refine⟨0,aN ?_,aI⟩;simp only[G.cmp_Compare_int];exact ak (hn a) (ak (hn b) (dB rfl (dB rfl (dB (by simpa using h) (dB (by simpa using k) (bK _))))))
theorem T.strings_Compare (a b:fD):∃r,Ev (λf=>G.strings_Compare f a b) r/\(r=0<->a=b):=by
 refine⟨jZ a b,aN ?_,XG⟩;simp only[G.strings_Compare];have:Ev (λf=>G.iH f a b) (jZ a b):=by refine aN ?_;simp only[G.iH];exact bK _
 exact ak this (bK _)
theorem T.dQ.L3 {d e:Nat}{a b:aj}(ha:Shape (d+1) a=true)(hb:Shape (e+1) b=true)(hk:a.bQ=b.bQ)
 (hs:∀x y,x∈a.aP->y∈b.aP->∃r,Ev (λf=>G.dQ f x y) r/\(r=0<->x=y)) :
 ∀(k i:Nat),a.aP.length<=i+k->i<=a.aP.length->i<=b.aP.length->∃r,Ev (λf=>G.dQ.L3 f a b i) r/\(r=0<->JG a b i):=by
 have la:=Fz ha;have lb:=Fz hb;have tail:∀i,i<=a.aP.length->i<=b.aP.length->(i=a.aP.length\/i=b.aP.length)->∃r,Ev (λf=>mV (G.cmp_Compare_int f (a.aP.length:Int) (b.aP.length:Int)) λv=>some v) r/\(r=0<->JG a b i):=by
  intro i h1 h2 h3;obtain⟨r,g,hr⟩:=T.cmp_Compare_int (a.aP.length:Int) (b.aP.length:Int);refine⟨r,ak g (bK _),hr.trans ⟨λhl=>?_,λhE=>?_⟩⟩
  ·have hl:a.aP.length=b.aP.length:=(by omega);refine⟨by rw[ay aI,ay aI],λh4=>?_⟩;have n1:=Cc ha h4;have n2:=Cc hb (hk▸h4);rw[ay aI,ay aI]
  ·have:=sK yP hE.1;simp only[nD]at this;omega
 intro k
 induction k with
 | zero=>intro i h1 h2 h3;obtain⟨r,g,hr⟩:=tail i h2 h3 aI;refine⟨r,aN ?_,hr⟩;simp only[G.dQ.L3];exact dB (by simp;omega) g
 | succ k ih=>
   intro i h1 h2 h3;by_cases hia:i=a.aP.length
   ·obtain⟨r,g,hr⟩:=tail i h2 h3 aI;refine⟨r,aN ?_,hr⟩;simp only[G.dQ.L3];exact dB (by simp;omega) g
   by_cases hib:i=b.aP.length
   ·obtain⟨r,g,hr⟩:=tail i h2 h3 aI;refine⟨r,aN ?_,hr⟩;simp only[G.dQ.L3];exact dR (by simp;omega) (dB (by simp;omega) g)
   have n4:a.bQ=4->i<a.aO.length/\i<b.aO.length:=λh4=>by have n1:=Cc ha h4;have n2:=Cc hb (hk▸h4);omega
   have hE:=Vu (a:=a) (b:=b) (i:=i) aI aI n4;obtain⟨r2,g2,hr2⟩:=hs (a.aP.getD i default) (b.aP.getD i default) (by rw[iD _ (by omega:i<a.aP.length)];exact dX _) (by rw[iD _ (by omega:i<b.aP.length)];exact dX _);obtain⟨r3,g3,hr3⟩:=ih (i+1) aI aI aI;have rest:∃r,Ev (λf=>G.dQ.K4 f a b (i:Int)) r/\(r=0<->(a.aP.getD i default=b.aP.getD i default/\JG a b (i+1))):=by
    by_cases h0:r2=0
    ·refine⟨r3,aN ?_,?_⟩
     ·simp only[G.dQ.K4];rw[ai,tC aI];exact dw (dw (ak g2 (dB (by rw[h0];rfl) g3)))
     ·rw[hr3];exact⟨λh=>⟨hr2.1 h0,h⟩,λh=>h.2⟩
    ·refine⟨r2,aN ?_,?_⟩
     ·simp only[G.dQ.K4];rw[ai,tC aI];exact dw (dw (ak g2 (dR (by simpa using h0) (bK _))))
     ·exact⟨λh=>eF h h0,λh=>hr2.2 h.1⟩
   obtain⟨r4,g4,hr4⟩:=rest;by_cases h4:a.bQ=4
   ·obtain⟨m1,m2⟩:=n4 h4;obtain⟨r,g,hr⟩:=T.strings_Compare (a.aO.getD i default) (b.aO.getD i default);by_cases hn:a.aO.getD i default=b.aO.getD i default
    ·refine⟨r4,aN ?_,?_⟩
     ·simp only[G.dQ.L3];rw[ai];exact dR (by simp;omega) (dR (by simp;omega) (dR (by simpa using h4) (dw (dw (ak g (dB (by rw[hr.2 hn];rfl) g4))))))
     ·rw[hr4,hE];exact⟨λh=>⟨λ_=>hn,h⟩,λh=>h.2⟩
    ·have hr0:r≠0:=λe=>hn (hr.1 e);refine⟨r,aN ?_,?_⟩
     ·simp only[G.dQ.L3];rw[ai];exact dR (by simp;omega) (dR (by simp;omega) (dR (by simpa using h4) (dw (dw (ak g (dR (by simpa using hr0) (bK _)))))))
     ·rw[hE];exact⟨λh=>eF h hr0,λh=>eF (h.1 h4) hn⟩
   ·refine⟨r4,aN ?_,?_⟩
    ·simp only[G.dQ.L3];exact dR (by simp;omega) (dR (by simp;omega) (dB (by simpa using h4) g4))
    ·rw[hr4,hE];exact⟨λh=>⟨λe=>eF e h4,h⟩,λh=>h.2⟩
theorem T.dQ : ∀(d:Nat) {e:Nat} {a b:aj},Shape d a=true->Shape e b=true->∃r,Ev (λf=>G.dQ f a b) r/\(r=0<->a=b)
 |0,_,_,_,h,_=>by cases h
 |_+1,0,_,_,_,h=>by cases h
 | d+1,e+1,a,b,ha,hb=>by
   rw[eq_iff ha hb];obtain⟨r1,g1,hr1⟩:=T.cmp_Compare_int a.bQ b.bQ;obtain⟨r2,g2,hr2⟩:=T.cmp_Compare_int a.wL b.wL;obtain⟨r3,g3,hr3⟩:=T.strings_Compare a.lI b.lI;by_cases h1:r1=0
   ·by_cases h2:r2=0
    ·by_cases h3:r3=0
     ·obtain⟨r,g,hr⟩:=T.dQ.L3 ha hb (hr1.1 h1) (λx y hx hy=>T.dQ d (wu ha x hx) (wu hb y hy)) a.aP.length 0 aI aI aI;refine⟨r,aN ?_,hr.trans ⟨λh=>⟨hr1.1 h1,hr2.1 h2,hr3.1 h3,h⟩,λh=>h.2.2.2⟩⟩;simp only[G.dQ];exact ak g1 (dB (by rw[h1];rfl) (ak g2 (dB (by rw[h2];rfl) (ak g3 (dB (by rw[h3];rfl) g)))))
     ·refine⟨r3,aN ?_,⟨λh=>eF h h3,λh=>hr3.2 h.2.2.1⟩⟩;simp only[G.dQ];exact ak g1 (dB (by rw[h1];rfl) (ak g2 (dB (by rw[h2];rfl) (ak g3 (dR (by simpa using h3) (bK _))))))
    ·refine⟨r2,aN ?_,⟨λh=>eF h h2,λh=>hr2.2 h.2.1⟩⟩;simp only[G.dQ];exact ak g1 (dB (by rw[h1];rfl) (ak g2 (dR (by simpa using h2) (bK _))))
   ·refine⟨r1,aN ?_,⟨λh=>eF h h1,λh=>hr1.2 h.1⟩⟩;simp only[G.dQ];exact ak g1 (dR (by simpa using h1) (bK _))
theorem T.uK {d e:Nat}{a b:aj}(ha:Shape d a=true)(hb:Shape e b=true):∃v,Ev (λf=>G.uK f a b) v/\(v=true<->a=b):=by obtain⟨r,g,hr⟩:=T.dQ d ha hb;refine⟨r==0,aN ?_,by rw[aZ];exact hr⟩;simp only[G.uK];exact ak g (bK _)
theorem PM : ∀{d e:Nat} {n:aj},d<=e->Shape d n=true->Shape e n=true
 |0,_,_,_,h=>by cases h
 |d+1,0,_,hd,_=>by omega
 | d+1,e+1,n,hd,h=>by unfold Shape;rw[rV h,dS,bf];exact λk hk=>PM aI (wu h k hk)
theorem OT {α:Type}{f g:α->Nat} : ∀{l:List α},(∀x,x∈l->f x=g x)->(l.map f).sum=(l.map g).sum
 |[],_=>rfl
 | x::l,h=>by simp only[bU,tZ];rw[h x mg,OT (λy hy=>h y (by simp[hy]))]
theorem cnt_mono : ∀{d e:Nat} {n:aj},d<=e->Shape d n=true->Cnt d n=Cnt e n
 |0,_,_,_,h=>by cases h
 |d+1,0,_,hd,_=>by omega
 | d+1,e+1,n,hd,h=>by unfold Cnt;rw[OT (f:=Cnt d) (g:=Cnt e) (λk hk=>cnt_mono aI (wu h k hk))]
theorem aiI {α:Type}(f:α->Nat):∀{l:List α} {x:α},x∈l->f x<=(l.map f).sum
 | y::l,x,h=>by
   simp only[bU,tZ];rcases aK.1 h with rfl|h
   ·omega
   ·have:=aiI f h;omega
theorem uF {n:aj}(h:Val n=true):Shape 5 n=true:=by unfold Val at h;simp only[ah]at h;exact h.1
theorem ae6 {n:aj}(h:Val n=true):Cnt 5 n<=40:=by unfold Val at h;simp only[ah,aF]at h;exact h.2
theorem oG {n:aj}(h:Val n=true):Fine 12 5 n:=AA (uF h)
theorem ajK {d:Nat}{n:aj}(hd:d<=5)(h:Shape d n=true)(hc:Cnt d n<=40):Val n=true:=by unfold Val;rw[PM hd h,dS,aF,<- cnt_mono hd h];exact hc
theorem aak : ∀(p:List fD) {d:Nat} {n m:aj},Shape d n=true->MR n p=some m->Shape d m=true/\Cnt d m<=Cnt d n
 |[],d,n,m,h,e=>by cases e;exact⟨h,aC _⟩
 | s::p,d,n,m,h,e=>by
   rw[MR]at e;cases hj:Gn n s with
   |none=>rw[hj]at e;cases e
   | some j=>
     rw[hj]at e;cases d with
     |zero=>cases h
     | succ d=>have hjl:=Ba hj;obtain⟨h1,h2⟩:=aak p (Dp h hjl) e;refine⟨PM aI h1,?_⟩;rw[<- cnt_mono (Nat.le_succ d) h1];have:=aiI (Cnt d) (l:=n.aP) (x:=n.aP.getD j default) (by rw[iD _ hjl];exact dX _);show _<=1+(n.aP.map (Cnt d)).sum;omega
theorem ae1 {α:Type}(f:α->Nat){c:α} : ∀{l:List α} {j:Nat} (d:α),f c<=f (l.getD j d)->((l.set j c).map f).sum<=(l.map f).sum
 |[],_,_,_=>by simp
 | x::l,0,d,h=>by rw[AP]at h;simp only[Jn,bU,tZ];omega
 | x::l,j+1,d,h=>by rw[nO]at h;have:=ae1 f (l:=l) (j:=j) d h;simp only[List.set_cons_succ,bU,tZ];omega
theorem agx {n c:aj}{j:Nat}(h:Parts n=true):Parts (Ji n j c)=true:=by unfold Parts Ji at *;simpa using h
theorem XD {f:aj->Option aj}(hf:∀d k k',Shape d k=true->f k=some k'->Shape d k'=true/\Cnt d k'<=Cnt d k) :
 ∀(p:List fD) {d:Nat} {n m:aj},Shape d n=true->Il f n p=some m->Shape d m=true/\Cnt d m<=Cnt d n
 |[],d,n,m,h,e=>hf d n m h (by rw[Il]at e;exact e)
 | s::p,d,n,m,h,e=>by
   rw[Il]at e;cases hj:Gn n s with
   |none=>rw[hj]at e;cases e
   | some j=>
     rw[hj]at e;simp only at e;cases d with
     |zero=>cases h
     |succ d=>
     have hjl:=Ba hj;cases hc:Il f (n.aP.getD j default) p with
     |none=>rw[hc]at e;cases e
     | some c=>
       rw[hc]at e;cases e;obtain⟨h1,h2⟩:=XD hf p (Dp h hjl) hc;constructor
       ·unfold Shape;rw[agx (rV h),dS,bf];intro k hk;rcases qg hk with hk|rfl
        ·exact wu h k hk
        ·exact h1
       ·show 1+((n.aP.set j c).map (Cnt d)).sum<=1+(n.aP.map (Cnt d)).sum;have:=ae1 (Cnt d) (l:=n.aP) (j:=j) default h2;omega
def zx {α:Type}(l:List α)(k:Nat):List α:=l.take k++l.drop (k+1)
def F8 (n:aj)(s:fD):Option aj:=match Gn n s with
 |some k=>some (aj.mk n.bQ 0 [] (if n.bQ=4 then zx n.aO k else []) (zx n.aP k))
 |none=>none
theorem Cf : ∀{l:List fD},Asc l=true<->l.Pairwise (λx y=>bl x y=true)
 |[]=>by simp[Asc]
 | x::l=>by
   rw[List.pairwise_cons,<- Cf (l:=l)];constructor
   ·intro h;exact⟨JV h,IU h⟩
   ·rintro⟨h1,h2⟩;cases l with
    |nil=>rfl
    |cons y r=>rw[Asc,h2,rf];exact h1 y mg
theorem Ed {α:Type}(l:List α)(k:Nat):(zx l k).Sublist l:=by
 unfold zx
 conv=>rhs;rw[<- Dh k l]
 refine List.Sublist.append (List.Sublist.refl _) ?_;rw[<- List.drop_drop];exact List.drop_sublist 1 _
theorem GI {α:Type}{l:List α}{k:Nat}(h:k<l.length):(zx l k).length=l.length-1:=by unfold zx;simp;omega
theorem alm {α:Type}(f:α->Nat):∀{l m:List α},l.Sublist m->(l.map f).sum<=(m.map f).sum:=by
 intro l m h
 induction h with
 |slnil=>simp
 |cons a h ih=>simp only[bU,tZ];omega
 |cons_cons a h ih=>simp only[bU,tZ];omega
theorem agD (s:fD):∀d k k',Shape d k=true->F8 k s=some k'->Shape d k'=true/\Cnt d k'<=Cnt d k:=by
 intro d n m h e;unfold F8 at e;cases hj:Gn n s with
 |none=>rw[hj]at e;cases e
 | some j=>
   rw[hj]at e;cases e;have hjl:=Ba hj;cases d with
   |zero=>cases h
   |succ d=>
   have hp:=rV h;have hsub:=Ed n.aP j;have hlen:=GI hjl;have hl:=SS hp;constructor
   ·unfold Shape;rw[ah,bf];refine⟨?_,λk hk=>wu h k (hsub.subset hk)⟩;by_cases h4:n.bQ=4
    ·obtain⟨_,_,hN,hnl,hkl⟩:=BK hp h4;have hNM:NM (zx n.aO j)=true:=by
      unfold NM;rw[ah];refine⟨bf.2 λx hx=>adx hN x ((Ed _ _).subset hx),Cf.2 ((Cf.1 (Px hN)).sublist (Ed _ _))⟩
     have hl2:=GI (l:=n.aO) (k:=j) aI;unfold Parts;simp[h4,hNM];omega
    ·by_cases h3:n.bQ=3
     ·unfold Parts;simp[h3];omega
     ·have:=Ol hj;rw[Ky h4 h3]at this;cases this
   ·show 1+((zx n.aP j).map (Cnt d)).sum<=1+(n.aP.map (Cnt d)).sum;have:=alm (Cnt d) hsub;omega
def Jy (p:List fD):fD:=p.getD (p.length-1) default
def Fj (p:List fD):List fD:=p.take (p.length-1)
def Du (n:aj)(p:List fD)(v:aj):Option aj:=if p=[]then some v else Il (λm=>addN m (Jy p) v) n (Fj p)
def Eh (n:aj)(p:List fD):Option aj:=if p=[]then none else Il (λm=>F8 m (Jy p)) n (Fj p)
theorem T.qJ {B D:Nat}{o:Option aj}(hB:B<=lim)(h:∀m,o=some m->Fine B D m):Ev (λf=>G.qJ f (pX o).1 (pX o).2) (pX (o.filter Val)):=by
 refine aN ?_;simp only[G.qJ];cases o with
 |none=>exact dB rfl (bK _)
 | some m=>
   refine dR rfl (ak (T.iI hB (h m rfl)) (dh (λe=>aQ ?_) (λe=>aQ ?_)))
   ·have e:Val m=true:=e;simp[ug,e,pX]
   ·have e:Val m=false:=e;simp[ug,e,pX,xM]
theorem T.pV {B D:Nat}{o:Option aj}(hB:B<=lim)(h:∀m,o=some m->Fine B D m):Ev (λf=>G.pV f (pX o).1 (pX o).2) (pX (o.filter Val)):=by
 refine aN ?_;simp only[G.pV];cases o with
 |none=>exact dB rfl (bK _)
 | some m=>
   refine dR rfl (ak (T.dm hB (h m rfl)) (dh (λe=>aQ ?_) (λe=>aQ ?_)))
   ·have e:Val m=true:=e;simp[ug,e,pX]
   ·have e:Val m=false:=e;simp[ug,e,pX,xM]
theorem Nu {p:List fD}(hp:p≠[])(hl:p.length<big):af .i64 ((p.length:Int)-1)=((p.length-1:Nat):Int):=by have:0<p.length:=pK.2 hp;unfold big at hl;exact wrapN aI aI
theorem VA {B D E:Nat}{n v m:aj}{p:List fD}(h:Fine B D n)(hv:Fine B E v)(hs:∀s,s∈p->s.length<=B)(hm:Du n p v=some m):Fine (B+1) (D+(D+E)) m:=by
 unfold Du at hm;split at hm
 ·cases hm;exact hv.mono aI aI
 ·rename_i hp;have hlast:(Jy p).length<=B:=by
   unfold Jy;have:0<p.length:=pK.2 hp;rw[iD _ (by omega:p.length-1<p.length)];exact hs _ (dX _)
  rw[YB]at hm;cases ha:MR n (Fj p)with
  |none=>rw[ha]at hm;cases hm
  | some inner=>
    rw[ha,kz]at hm;cases hn:addN inner (Jy p) v with
    |none=>rw[hn]at hm;cases hm
    | some next=>rw[hn,kz]at hm;have hi:=Qp _ h ha;have hnx:=aaB hi hv hlast hn;exact VB (B:=B+1) (E:=D+E) (Fj p) (f:=λ_=>some next) (D:=D) (n:=n) (m:=m) (λD' k k' _ e=>by cases e;exact hnx.mono (aC _) aI) (h.mono aI (aC _)) hm
theorem T.vM {B D E:Nat}{n v:aj}(p:List fD)(hB:B+1<lim)(hp:p.length<big)(hs:∀s,s∈p->s.length<=B)(h:Fine B D n)(hv:Fine B E v):Ev (λf=>G.vM f n p v) (pX (Du n p v)):=by
 refine aN ?_;simp only[G.vM];by_cases hp0:p=[]
 ·subst hp0;exact dR rfl (ak (T.cO aI hv) (bK _))
 ·have hpos:0<p.length:=pK.2 hp0;have hlast:(Jy p).length<=B:=by
   unfold Jy;rw[iD _ (by omega:p.length-1<p.length)];exact hs _ (dX _)
  rw[Nu hp0 hp,ai];unfold Du;rw[au hp0,YB];have hil:(Fj p).length<big:=by unfold Fj;rw[iK];omega
  refine dB (by simpa using hp0) (dw (ak (T.uY (Fj p) aI hil h) ?_));cases ha:MR n (Fj p)with
  |none=>exact dB rfl (bK _)
  | some inner=>
    have hi:=Qp _ h ha;have hA:=T.rO (n:=inner) (Jy p) aI hi hv;refine dR rfl (dw (ak hA ?_));rw[kz];cases hn:addN inner (Jy p) v with
    |none=>exact dB rfl (bK _)
    | some next=>have hnx:=aaB hi hv hlast hn;refine dR rfl (dw (ak (T.qj aI hnx (Fj p) hil (h.mono aI (aC _))) (bK _)))
theorem ah4 {B D:Nat}{n m:aj}{s:fD}(h:Fine B D n)(e:F8 n s=some m):Fine B D m:=by
 unfold F8 at e;cases hj:Gn n s with
 |none=>rw[hj]at e;cases e
 | some j=>
   rw[hj]at e;cases e;cases D with
   |zero=>exact h.elim
   |succ D=>
   have hjl:=Ba hj;have hk:=h.kids;have hn:=h.names;have h1:=GI hjl;refine⟨mg,?_,λx hx=>?_,by show(zx n.aP j).length<=B;omega,λh4=>?_,λk hk'=>h.2.2.2.2.2 k ((Ed _ _).subset hk')⟩
   ·show(if n.bQ=4 then zx n.aO j else []).length<=B;split
    ·have:=(Ed n.aO j).length_le;omega
    ·simp
   ·have hx:x∈(if n.bQ=4 then zx n.aO j else []):=hx;split at hx
    ·exact h.2.2.1 x ((Ed _ _).subset hx)
    ·cases hx
   ·have h4:n.bQ=4:=h4;have hm:=h.map h4;have h2:=GI (l:=n.aO) (k:=j) aI;show(zx n.aP j).length<=(if n.bQ=4 then zx n.aO j else []).length;rw[aA h4];omega
theorem T.kW {B D:Nat}{n:aj}(p:List fD)(hB:B+1<lim)(hp:p.length<big)(h:Fine B D n):Ev (λf=>G.kW f n p) (pX (Eh n p)):=by
 have hB2:=hB;unfold lim at hB2;refine aN ?_;simp only[G.kW];by_cases hp0:p=[]
 ·subst hp0;exact dR (by rfl) (bK _)
 ·have hpos:0<p.length:=pK.2 hp0;rw[Nu hp0 hp,ai];unfold Eh;rw[au hp0,YB];have hil:(Fj p).length<big:=by unfold Fj;rw[iK];omega
  refine dB mg (dw (ak (T.uY (Fj p) aI hil h) ?_));cases ha:MR n (Fj p)with
  |none=>exact dB rfl (bK _)
  | some inner=>
    have hi:=Qp _ h ha;have hk:=hi.kids;have hnm:=hi.names;have hP:=T.jL (n:=inner) (Jy p) aI hi;refine dR rfl (dw (ak hP ?_));rw[kz];cases hj:Gn inner (Jy p)with
    | none=>unfold F8;rw[hj];exact dR rfl (bK _)
    | some j=>
      have hjl:=Ba hj;simp only[KF,pX,ai,FC j];have ht:(inner.aP.take j).length=j:=(by rw[iK];omega);have hd:(inner.aP.drop (j+1)).length=inner.aP.length-(j+1):=nD;refine rX (dw (dw (dw (dw ?_))));have key:∀(b:Bool) (nm:List fD),F8 inner (Jy p)=some (aj.mk inner.bQ 0 [] nm (zx inner.aP j))->Ev (λf=>G.kW.K1 f n p (inner,b) (zx inner.aP j) nm) (pX ((F8 inner (Jy p)).bind λm'=>Ux n (Fj p) m')):=by intro b nm e;refine aN ?_;simp only[G.kW.K1];rw[Nu hp0 hp,ai,e,kz];exact dw (ak (T.qj aI (ah4 hi e) (Fj p) hil h) (bK _))
      refine dh (λe4=>?_) (λe4=>?_)
      ·have h4:inner.bQ=4:=(by simpa using e4);have hm:=hi.map h4;have ht2:(inner.aO.take j).length=j:=(by rw[iK];omega);have hd2:(inner.aO.drop (j+1)).length=inner.aO.length-(j+1):=nD;refine dw (dw (dw (dw ?_)));exact key true (zx inner.aO j) (by unfold F8;rw[hj];simp[h4])
      ·have h4:¬inner.bQ=4:=(by simpa using e4);exact key true [] (by unfold F8;rw[hj];simp[h4])
theorem abo {B:Nat}(hB:B<=lim){p:List fD}(hl:p.length<=B)(hs:∀s,s∈p->s.length<=B):Sm p:=by unfold lim at hB;exact⟨by unfold big;omega,λs h=>by have:=hs s h;unfold big;omega⟩
def FO (B:Nat)(p:List fD):Prop:=p.length<=B/\∀s,s∈p->s.length<=B
theorem FO.sm {B:Nat}(hB:B<=lim){p:List fD}(h:FO B p):Sm p:=abo hB h.1 h.2
theorem yD {p:List fD}(h:PP p=true):FO 12 p:=by unfold PP at h;simp only[ah,aF]at h;exact⟨aI,λs hs=>V5 (bf.1 h.1 s hs)⟩
def ZW (n:aj)(p:List fD)(v:aj):Option aj:=if Val n&&PP p&&Val v then(Du n p v).filter Val else none
def ahq (n:aj)(p:List fD):Option aj:=if Val n&&PP p then Eh n p else none
def akl (n:aj)(p:List fD)(v:aj):Option aj:=if Val n&&PP p&&Val v then(Ux n p v).filter Val else none
def AtM (n:aj)(p:List fD):Option aj:=if Val n&&PP p then MR n p else none
theorem QZ {n m:aj}{p:List fD}(h:Val n=true)(e:Eh n p=some m):Val m=true:=by
 unfold Eh at e;split at e
 ·cases e
 ·obtain⟨h1,h2⟩:=XD (agD (Jy p)) (Fj p) (uF h) e;exact ajK (aC _) h1 (bM h2 (ae6 h))
theorem Rx {n m:aj}{p:List fD}(h:Val n=true)(e:MR n p=some m):Val m=true:=by obtain⟨h1,h2⟩:=aak p (uF h) e;exact ajK (aC _) h1 (bM h2 (ae6 h))
theorem T.Qv {B E:Nat}{v:aj}(p:List fD)(k:Nat)(hB:B<=lim)(hv:Fine B E v)(hk:k<p.length) :
 ∀(q:List fD) {d:Nat} {n:aj},Shape d n=true->Ev (λf=>G.jE f n q p (k:Int) v) (pX (Il (λm=>addN m (p.getD k default) v) n q)):=by
 refine T.change (F:=λf a q=>G.jE f a q p (k:Int) v) (C:=λf a=>G.vC f a p (k:Int) v) (λn a q=>by simp only[G.jE]) (λd m hm=>?_);refine aN ?_;simp only[G.vC];refine dw (ak (T.lX _ hB hv hm) (aQ ?_));rw[ai]
theorem T.Qx {B E:Nat}{v:aj}(hB:B<=lim)(hv:Fine B E v) :
 ∀(q:List fD) {d:Nat} {n:aj},Shape d n=true->Ev (λf=>G.jF f n q v) (pX (Ux n q v)):=by
 refine T.change (F:=λf a q=>G.jF f a q v) (C:=λf a=>G.vF f a v) (λn a q=>by simp only[G.jF]) (λd m hm=>?_);refine aN ?_;simp only[G.vF];exact ak (T.bC hB hv) (bK _)
theorem T.jo {d:Nat}{n:aj}(p:List fD)(k:Nat)(hk:k<p.length)(h:Shape d n=true):Ev (λf=>G.jo f n p (k:Int)) (pX (F8 n (p.getD k default))):=by
 cases d with
 |zero=>cases h
 |succ d=>
 have hp:=rV h;have hl:=SS hp;obtain⟨w,b,g,h1,h2⟩:=T.gU (p.getD k default) hp;refine aN ?_;simp only[G.jo,ai];refine dw (ak g ?_);unfold F8;cases hj:Gn n (p.getD k default)with
 |none=>exact dB (h2 hj) (bK _)
 | some j=>
   have hjl:=Ba hj;obtain⟨rfl,rfl⟩:=h1 j hj;have d1:Ev (λf=>G.jW f n.aP (j:Int) ((j+1:Nat):Int)) (zx n.aP j):=by refine aN ?_;simp only[G.jW,ai];exact dw (bK _)
   have hK:∀nm,n.wL=0->n.lI=[]->Ev (λf=>G.jo.K1 f ((j:Int),true) n nm) (aj.mk n.bQ 0 [] nm (zx n.aP j),true):=by intro nm e1 e2;refine aN ?_;simp only[G.jo.K1,FC j];exact ak d1 (aQ (by rw[e1,e2]))
   refine dR rfl (ak (T.bC Fp (AA h)) ?_);by_cases h4:n.bQ=4
   ·obtain⟨e1,e2,_,hnl,hkl⟩:=BK hp h4;have d2:Ev (λf=>G.slices_Delete_string f n.aO (j:Int) ((j+1:Nat):Int)) (zx n.aO j):=by
     refine aN ?_;simp only[G.slices_Delete_string,ai];exact dw (bK _)
    refine dR (by simpa using h4) ?_;simp only[FC j];refine ak d2 ((hK _ e1 e2).eq ?_);simp[h4,pX]
   ·by_cases h3:n.bQ=3
    ·obtain⟨e1,e2,e3,_⟩:=GN hp h3;refine dB (by simpa using h4) ((hK _ e1 e2).eq ?_);simp[h4,pX,e3]
    ·have:=Ol hj;rw[Ky h4 h3]at this;cases this
theorem T.Qw (p:List fD)(k:Nat)(hk:k<p.length) :
 ∀(q:List fD) {d:Nat} {n:aj},Shape d n=true->Ev (λf=>G.ja f n q p (k:Int)) (pX (Il (λm=>F8 m (p.getD k default)) n q)):=
 T.change (F:=λf a q=>G.ja f a q p (k:Int)) (C:=λf a=>G.jo f a p (k:Int)) (λn a q=>by simp only[G.ja]) (λd m hm=>T.jo p k hk hm)
theorem T.oQ {B D E:Nat}{n v:aj}{p:List fD}(hB:B+2<lim)(h:Fine B D n)(hp:FO B p)(hv:Fine B E v):Ev (λf=>G.oQ f n p v) (pX (ZW n p v)):=by
 have hsm:=hp.sm aI;refine aN ?_;simp only[G.oQ];unfold ZW;refine ak (T.dm aI h) (dh (λe1=>?_) (λe1=>aQ (by rw[e1];rfl)));refine ak (T.jq p hsm) (dh (λe2=>?_) (λe2=>aQ (by rw[e1,e2];rfl)));refine ak (T.dm aI hv) (dh (λe3=>?_) (λe3=>aQ (by rw[e1,e2,e3];rfl)));rw[e1,e2,e3,aA (by rfl)];by_cases hp0:p=[]
 ·subst hp0;refine dR rfl (ak (T.bC aI hv) (aQ ?_));unfold Du;simp[ug,e3,pX]
 ·have hpos:0<p.length:=pK.2 hp0;simp only[Nu hp0 hsm.1,ai];refine dB (by simpa using hp0) (dw ?_);have hc:=T.Qv p (p.length-1) aI hv aI (Fj p) (uF e1);refine ak hc ?_;have hA:Du n p v=Il (λm=>addN m (p.getD (p.length-1) default) v) n (Fj p):=by unfold Du;rw[au hp0];rfl
  rw[<- hA];exact ak (T.pV (o:=Du n p v) (B:=B+1) aI (λm hm=>VA h hv hp.2 hm)) (bK _)
theorem T.vP {B D E:Nat}{n v:aj}{p:List fD}(hB:B+2<lim)(h:Fine B D n)(hp:FO B p)(hv:Fine B E v):Ev (λf=>G.vP f n p v) (pX (akl n p v)):=by have hsm:=hp.sm aI;refine aN ?_;simp only[G.vP];unfold akl;refine ak (T.dm aI h) (dh (λe1=>?_) (λe1=>aQ (by rw[e1];rfl)));refine ak (T.jq p hsm) (dh (λe2=>?_) (λe2=>aQ (by rw[e1,e2];rfl)));refine ak (T.dm aI hv) (dh (λe3=>?_) (λe3=>aQ (by rw[e1,e2,e3];rfl)));rw[e1,e2,e3,aA (by rfl)];refine ak (T.Qx aI hv p (uF e1)) ?_;exact ak (T.pV (B:=B) aI (λm hm=>RQ h hv hm)) (bK _)
theorem T.mF {B D:Nat}{n:aj}{p:List fD}(hB:B+2<lim)(h:Fine B D n)(hp:FO B p):Ev (λf=>G.mF f n p) (pX (ahq n p)):=by
 have hsm:=hp.sm aI;refine aN ?_;simp only[G.mF];unfold ahq;refine ak (T.dm aI h) (dh (λe1=>?_) (λe1=>aQ (by rw[e1];rfl)));refine ak (T.jq p hsm) (dh (λe2=>?_) (λe2=>aQ (by rw[e1,e2];rfl)));rw[e1,e2,aA (by rfl)];by_cases hp0:p=[]
 ·subst hp0;exact dR rfl (bK _)
 ·have hpos:0<p.length:=pK.2 hp0;simp only[Nu hp0 hsm.1,ai];refine dB (by simpa using hp0) (dw ?_);have hA:Eh n p=Il (λm=>F8 m (p.getD (p.length-1) default)) n (Fj p):=by unfold Eh;rw[au hp0];rfl
  rw[hA];exact ak (T.Qw p (p.length-1) aI (Fj p) (uF e1)) (bK _)
theorem T.uP {B D:Nat}{n:aj}{p:List fD}(hB:B+2<lim)(h:Fine B D n)(hp:FO B p):Ev (λf=>G.uP f n p) (pX (AtM n p)):=by
 have hsm:=hp.sm aI;refine aN ?_;simp only[G.uP];unfold AtM;refine ak (T.dm aI h) (dh (λe1=>?_) (λe1=>aQ (by rw[e1];rfl)));refine ak (T.jq p hsm) (dh (λe2=>?_) (λe2=>aQ (by rw[e1,e2];rfl)));rw[e1,e2,aA (by rfl)];refine ak (T.kN p hsm.1 (uF e1)) ?_;cases ha:MR n p with
 |none=>exact dB rfl (bK _)
 |some m=>exact dR rfl (ak (T.bC aI (Qp p h ha)) (bK _))
theorem T.slices_Equal_string.L1 {a b:List fD}(hl:a.length=b.length)(hb:a.length<big):∀(k i:Nat),i+k=a.length->Ev (λf=>G.slices_Equal_string.L1 f a b i) (decide (a.drop i=b.drop i)):=by
 unfold big at hb;intro k
 induction k with
 | zero=>intro i hi;refine aN ?_;simp only[G.slices_Equal_string.L1];refine dB (by simp;omega) (aQ ?_);rw[ay aI,ay aI];rfl
 | succ k ih=>
   intro i hi;refine aN ?_;simp only[G.slices_Equal_string.L1,ai,FC i];refine dR (by simp;omega) (dw (dw ?_));rw[gm (default:fD) (by omega:i<a.length),gm (default:fD) (by omega:i<b.length)];refine dh (λe=>(ih (i+1) aI).eq ?_) (λe=>aQ ?_)
   ·rw[aZ]at e;apply decide_eq_decide.2;rw[x8];exact⟨λh=>⟨e,h⟩,λh=>h.2⟩
   ·have e:a.getD i default≠b.getD i default:=by simpa using e
    symm
    apply bg;rw[x8];exact λh=>e h.1
theorem T.slices_Equal_string {a b:List fD}(hb:a.length<big):Ev (λf=>G.slices_Equal_string f a b) (decide (a=b)):=by
 refine aN ?_;simp only[G.slices_Equal_string];by_cases h:a.length=b.length
 ·exact dB (by simp;omega) (T.slices_Equal_string.L1 h hb a.length 0 aI)
 ·refine dR (by simp;omega) (aQ ?_)
  symm
  exact bg (λe=>h (by rw[e]))
def Xf (n:aj)(o p:List fD)(t:aj):Option aj:=if o <+: p then(if p.length=o.length then some n else none)else(Eh n o).bind λless=>Du less p t
theorem abp {o p:List fD}(h:o.length<=p.length):p.take o.length=o<->o <+: p:=by rw[List.prefix_iff_eq_take,eq_comm]
def akc (n:aj)(o p:List fD):Option aj:=if Val n&&PP o&&PP p then(MR n o).bind λt=>(Xf n o p t).filter Val else none
theorem T.uJ {n:aj}{o p:List fD}(h:Val n=true)(ho:PP o=true)(hp:PP p=true):Ev (λf=>G.uJ f n o p) (pX (akc n o p)):=by
 have hb:(12:Nat)+2<lim:=by decide
 have fo:=yD ho;have fp:=yD hp;have so:=fo.sm xB;have sp:=fp.sm xB;refine aN ?_;simp only[G.uJ];unfold akc;rw[h,ho,hp,aA (by rfl)];refine ak (T.uP hb (oG h) fo) ?_;unfold AtM;rw[h,ho,aA (by rfl)];cases ha:MR n o with
 |none=>exact dB rfl (bK _)
 | some t=>
   have hvt:=Rx h ha;refine dR rfl ?_;rw[kz];have mv:¬o <+: p->Ev (λf=>mV (G.mF f n o) λv5=>cond v5.2 (mV (G.oQ f v5.1 p t) λv6=>some (v6.1,v6.2)) (some ((aj.mk 0 0 [] [] []),false))) (pX ((Xf n o p t).filter Val)):=by
    intro hn;unfold Xf;rw[au hn];refine ak (T.mF hb (oG h) fo) ?_;unfold ahq;rw[h,ho,aA (by rfl)];cases hr:Eh n o with
    |none=>exact dB rfl (bK _)
    | some less=>have hvl:=QZ h hr;have hA:=T.oQ (n:=less) hb (oG hvl) fp (oG hvt);have e:ZW less p t=(Du less p t).filter Val:=(by unfold ZW;rw[hvl,hp,hvt,aA (by rfl)]);rw[e]at hA;exact dR rfl (ak hA (bK _))
   refine ak (T.slices_Equal_string sp.1) (dh (λe=>?_) (λe=>?_))
   ·rw[aF]at e;subst e;refine ak (T.bC Fp (oG h)) (aQ ?_);unfold Xf;rw[aA (List.prefix_refl _),aA rfl];simp[ug,h,pX]
   ·have hne:p≠o:=(by simpa using e);refine dh (λe2=>?_) (λe2=>?_)
    ·have hlt:o.length<p.length:=(by simpa using e2);refine dw (ak (T.slices_Equal_string (a:=p.take o.length) (by rw[iK];have:=sp.1;omega)) (dh (λe3=>aQ ?_) (λe3=>?_)))
     ·rw[aF,abp aI]at e3;unfold Xf;rw[aA e3,au aI];rfl
     ·rw[dn,abp aI]at e3;exact mv e3
    ·have hge:¬o.length<p.length:=(by simpa using e2);refine mv λhpre=>?_;have h1:=hpre.length_le;exact hne (hpre.eq_of_length aI).symm
theorem T.nT.L1 {p w:List fD}(hp:p.length<big)(hw:w.length<big):∀(k i:Nat),i+k=w.length->Ev (λf=>G.nT.L1 f p w i) (decide (w.drop i <+: p.drop i)):=by
 unfold big at hp hw;intro k
 induction k with
 | zero=>
   intro i hi;refine aN ?_;simp only[G.nT.L1];refine dB (by simp;omega) (aQ ?_);rw[ay (by omega:w.length<=i)]
   symm
   exact dW (List.nil_prefix)
 | succ k ih=>
   intro i hi;refine aN ?_;simp only[G.nT.L1,ai,FC i];refine dR (by simp;omega) ?_;rw[gm (default:fD) (by omega:i<w.length)];by_cases hpi:p.length<=i
   ·refine dR (by simpa using hpi) (aQ ?_);rw[ay hpi]
    symm
    exact bg mg
   ·refine dB (by simpa using hpi) (dw (dw ?_));rw[gm (default:fD) (by omega:i<p.length)];refine dh (λe=>(ih (i+1) aI).eq ?_) (λe=>aQ ?_)
    ·rw[aZ]at e;apply decide_eq_decide.2;rw[List.cons_prefix_cons];exact⟨λh=>⟨e.symm,h⟩,λh=>h.2⟩
    ·have e:p.getD i default≠w.getD i default:=by simpa using e
     symm
     apply bg;rw[List.cons_prefix_cons];exact λh=>e h.1.symm
theorem T.nT {p w:List fD}(hp:p.length<big)(hw:w.length<big):Ev (λf=>G.nT f p w) (decide (w <+: p)):=by refine aN ?_;simp only[G.nT];exact T.nT.L1 hp hw w.length 0 aI
open Classical in
noncomputable def applyN (n:aj)(o:uO):Option aj:=
 if o.bQ=1 then Du n o.uq o.Value else if o.bQ=2 then Eh n o.uq else if o.bQ=3 then Ux n o.uq o.Value
 else(MR n (if o.bQ=6 then o.uq else o.xJ)).bind λt=>if o.bQ=6 then(if t=o.Value then some n else none)else if o.bQ=5 then Du n o.uq t else Xf n o.xJ o.uq t
def ZY (o:uO):Bool:=(decide (1<=o.bQ)&&decide (o.bQ<=6))&&PP o.uq&&PP o.xJ&&Val o.Value
noncomputable def EP (n:aj)(o:uO):Option aj:=if Val n&&ZY o then(applyN n o).filter Val else none
def Said (q:aj×Bool)(o:Option aj):Prop:=(q.2=true->o=some q.1)/\(q.2=false->o=none)
theorem KJ (o:Option aj):Said (pX o) o:=by
 cases o with
 |none=>exact⟨λe=>(by cases e),λ_=>rfl⟩
 |some m=>exact⟨λ_=>rfl,λe=>(by cases e)⟩
structure PZ (o:uO):Prop where
 k1:1<=o.bQ
 k6:o.bQ<=6
 path:PP o.uq=true
 from_:PP o.xJ=true
 val:Val o.Value=true
theorem GM {o:uO}(h:ZY o=true):PZ o:=by unfold ZY at h;simp only[ah,aF]at h;exact⟨h.1.1.1.1,h.1.1.1.2,h.1.1.2,h.1.2,h.2⟩
theorem aii : (12:Nat)+1<lim:=xB
theorem af0 : (12:Nat)+2<lim:=xB
theorem T.lM.K1 {n:aj}{o:uO}(h:Val n=true)(ho:PZ o)(fr:List fD)(hf:PP fr=true)(h6:fr=if o.bQ=6 then o.uq else o.xJ)(hk:o.bQ≠1/\o.bQ≠2/\o.bQ≠3) :
 ∃q,Ev (λf=>G.lM.K1 f n o fr) q/\Said q (applyN n o):=by
 have sp:=(yD ho.path).sm xB;have sf:=(yD ho.from_).sm xB;have sr:=(yD hf).sm xB;have hn:=oG h;have hat:=T.uY fr xB sr.1 hn;have hN:applyN n o=(MR n fr).bind λt=>@ite _ (o.bQ=6) _ (@ite _ (t=o.Value) (Classical.propDecidable _) (some n) none) (if o.bQ=5 then Du n o.uq t else Xf n o.xJ o.uq t):=by unfold applyN;rw[au hk.1,au hk.2.1,au hk.2.2,h6]
 rw[hN];cases ha:MR n fr with
 | none=>
   rw[ha]at hat
   refine⟨(xM,false),aN ?_,⟨λe=>(by cases e),λ_=>rfl⟩⟩;simp only[G.lM.K1];exact ak hat (dB rfl (bK _))
 | some t=>
   rw[ha]at hat
   have ht:=oG (Rx h ha);rw[kz];by_cases k6:o.bQ=6
   ·obtain⟨v,gs,hv⟩:=T.zy (uF (Rx h ha)) (uF ho.val);refine⟨(n,v),aN ?_,?_⟩
    ·simp only[G.lM.K1];exact ak hat (dR rfl (dR (by simpa using k6) (ak gs (bK _))))
    ·rw[aA k6];refine⟨λe=>aA (hv.1 e),λe=>au λe2=>?_⟩;have:=hv.2 e2;rw[show v=false from e]at this;cases this
   ·rw[au k6];by_cases k5:o.bQ=5
    ·rw[aA k5];refine⟨_,aN ?_,KJ _⟩;simp only[G.lM.K1];exact ak hat (dR rfl (dB (by simpa using k6) (dR (by simpa using k5) (ak (T.vM o.uq aii sp.1 (yD ho.path).2 hn ht) (bK _)))))
    ·rw[au k5];unfold Xf;have hbg:=T.nT sp.1 sf.1;by_cases hpre:o.xJ <+: o.uq
     ·rw[aA hpre];refine⟨(n,(o.uq.length:Int)==(o.xJ.length:Int)),aN ?_,?_⟩
      ·simp only[G.lM.K1];exact ak hat (dR rfl (dB (by simpa using k6) (dB (by simpa using k5) (ak hbg (dR (by simpa using hpre) (ak (T.cO Fp hn) (bK _)))))))
      ·rw[ilen];refine⟨λe=>aA (by simpa using e),λe=>au (by simpa using e)⟩
     ·rw[au hpre];have hr:=T.kW (n:=n) o.xJ aii sf.1 hn;cases hre:Eh n o.xJ with
      | none=>rw[hre]at hr;refine⟨(xM,false),aN ?_,⟨λe=>(by cases e),λ_=>rfl⟩⟩;simp only[G.lM.K1];exact ak hat (dR rfl (dB (by simpa using k6) (dB (by simpa using k5) (ak hbg (dB (by simpa using hpre) (ak hr (dB rfl (bK _))))))))
      | some less=>rw[hre]at hr;have hl:=oG (QZ h hre);refine⟨_,aN ?_,KJ _⟩;simp only[G.lM.K1];exact ak hat (dR rfl (dB (by simpa using k6) (dB (by simpa using k5) (ak hbg (dB (by simpa using hpre) (ak hr (dR rfl (ak (T.vM (n:=less) o.uq aii sp.1 (yD ho.path).2 hl ht) (bK _)))))))))
theorem T.lM {n:aj}{o:uO}(h:Val n=true)(ho:PZ o):∃q,Ev (λf=>G.lM f n o) q/\Said q (applyN n o):=by
 have sp:=(yD ho.path).sm xB;have hn:=oG h;by_cases k1:o.bQ=1
 ·refine⟨_,aN ?_,KJ _⟩;simp only[G.lM];refine dR (by simpa using k1) ?_;have:applyN n o=Du n o.uq o.Value:=by unfold applyN;rw[aA k1]
  rw[this];exact ak (T.vM o.uq aii sp.1 (yD ho.path).2 hn (oG ho.val)) (bK _)
 by_cases k2:o.bQ=2
 ·refine⟨_,aN ?_,KJ _⟩;simp only[G.lM];refine dB (by simpa using k1) (dR (by simpa using k2) ?_);have:applyN n o=Eh n o.uq:=by unfold applyN;rw[au k1,aA k2]
  rw[this];exact ak (T.kW o.uq aii sp.1 hn) (bK _)
 by_cases k3:o.bQ=3
 ·refine⟨_,aN ?_,KJ _⟩;simp only[G.lM];refine dB (by simpa using k1) (dB (by simpa using k2) (dR (by simpa using k3) ?_));have:applyN n o=Ux n o.uq o.Value:=by unfold applyN;rw[au k1,au k2,aA k3]
  rw[this];exact ak (T.qj xB (oG ho.val) o.uq sp.1 hn) (bK _)
 by_cases k6:o.bQ=6
 ·obtain⟨q,g,hq⟩:=T.lM.K1 h ho o.uq ho.path (by rw[aA k6]) ⟨k1,k2,k3⟩;refine⟨q,aN ?_,hq⟩;simp only[G.lM];exact dB (by simpa using k1) (dB (by simpa using k2) (dB (by simpa using k3) (dR (by simpa using k6) g)))
 ·obtain⟨q,g,hq⟩:=T.lM.K1 h ho o.xJ ho.from_ (by rw[au k6]) ⟨k1,k2,k3⟩;refine⟨q,aN ?_,hq⟩;simp only[G.lM];exact dB (by simpa using k1) (dB (by simpa using k2) (dB (by simpa using k3) (dB (by simpa using k6) g)))
theorem RP {n v m:aj}{p:List fD}(hn:Val n=true)(hv:Val v=true)(hp:PP p=true)(e:Du n p v=some m):Fine 13 15 m:=
 VA (oG hn) (oG hv) (yD hp).2 e
theorem ac0 {n m:aj}{o:uO}(h:Val n=true)(ho:PZ o)(e:applyN n o=some m):Fine 13 15 m:=by
 unfold applyN at e;by_cases k1:o.bQ=1
 ·rw[aA k1]at e;exact RP h ho.val ho.path e
 rw[au k1]at e;by_cases k2:o.bQ=2
 ·rw[aA k2]at e;exact(oG (QZ h e)).mono aI aI
 rw[au k2]at e;by_cases k3:o.bQ=3
 ·rw[aA k3]at e;exact(RQ (oG h) (oG ho.val) e).mono aI aI
 rw[au k3]at e;cases ha:MR n (if o.bQ=6 then o.uq else o.xJ)with
 |none=>rw[ha]at e;cases e
 | some t=>
   have ht:=Rx h ha;rw[ha,kz]at e;by_cases k6:o.bQ=6
   ·rw[aA k6]at e;split at e
    ·cases e;exact(oG h).mono aI aI
    ·cases e
   rw[au k6]at e;by_cases k5:o.bQ=5
   ·rw[aA k5]at e;exact RP h ht ho.path e
   rw[au k5]at e;unfold Xf at e;split at e
   ·split at e
    ·cases e;exact(oG h).mono aI aI
    ·cases e
   ·cases hr:Eh n o.xJ with
    |none=>rw[hr]at e;cases e
    |some less=>rw[hr,kz]at e;exact RP (QZ h hr) ht ho.path e
theorem T.Wx {B D:Nat}{q:aj×Bool}{o:Option aj}(hB:B<=lim)(hq:Said q o)(h:∀m,o=some m->Fine B D m):Ev (λf=>G.qJ f q.1 q.2) (pX (o.filter Val)):=by
 obtain⟨m,b⟩:=q;cases b with
 | false=>rw[hq.2 rfl];refine aN ?_;simp only[G.qJ];exact dB rfl (bK _)
 | true=>have e:=hq.1 rfl;subst e;exact T.qJ (o:=some m) hB h
theorem T.rG {n:aj}{o:uO}(h:Val n=true)(ho:PZ o):Ev (λf=>G.rG f n o) (pX ((applyN n o).filter Val)):=by
 obtain⟨q,g,hq⟩:=T.lM h ho;have hc:=T.Wx (B:=13) (D:=15) xB hq (λm hm=>ac0 h ho hm);refine aN ?_;simp only[G.rG];refine ak g (ak hc ?_);cases hm:(applyN n o).filter Val with
 |none=>exact dB rfl (bK _)
 | some m=>
   have hv:Val m=true:=by have:=yj.1 hm;exact this.2
   exact dR rfl (ak (T.cO Fp (oG hv)) (bK _))
structure TD (B D:Nat)(o:uO):Prop where
 path:FO B o.uq
 from_:FO B o.xJ
 val:Fine B D o.Value
theorem TD.fin {B D:Nat}{o:uO}(h:TD B D o):Gp B D o:=⟨⟨h.path.1,h.path.2⟩,⟨h.from_.1,h.from_.2⟩,h.val.fin0⟩
theorem T0.vU {B D:Nat}{o:uO}(hB:B<=lim)(h:Gp B D o):Ev (λf=>G.vU f o) (ZY o):=by refine aN ?_;simp only[G.vU];unfold ZY;refine ak (T.iP _ _ _) (dh (λe1=>?_) (λe1=>aQ (by rw[e1];rfl)));refine ak (T.jX _ (abo hB h.path.1 h.path.2)) (dh (λe2=>?_) (λe2=>aQ (by rw[e1,e2];rfl)));refine ak (T.jX _ (abo hB h.from_.1 h.from_.2)) (dh (λe3=>?_) (λe3=>aQ (by rw[e1,e2,e3];rfl)));exact ak (T0.iI hB h.val) (aQ (by rw[e1,e2,e3];rfl))
theorem T0.vK {B D:Nat}{o:uO}(hB:B<=lim)(h:Gp B D o):Ev (λf=>G.vK f o) (ZY o):=by refine aN ?_;simp only[G.vK];unfold ZY;refine dh (λe0=>?_) (λe0=>aQ (by rw[e0];rfl));refine dh (λe1=>?_) (λe1=>aQ (by rw[e0,e1];rfl));refine ak (T.jq _ (abo hB h.path.1 h.path.2)) (dh (λe2=>?_) (λe2=>aQ (by rw[e0,e1,e2];rfl)));refine ak (T.jq _ (abo hB h.from_.1 h.from_.2)) (dh (λe3=>?_) (λe3=>aQ (by rw[e0,e1,e2,e3];rfl)));exact ak (T0.dm hB h.val) (aQ (by rw[e0,e1,e2,e3];rfl))
theorem T.vK {B D:Nat}{o:uO}(hB:B<=lim)(h:TD B D o):Ev (λf=>G.vK f o) (ZY o):=T0.vK hB h.fin
theorem T.sF {n v:aj}{p:List fD}(h:Val n=true)(hp:PP p=true)(hv:Val v=true) :
 ∃o,Ev (λf=>G.sF f n p v) (pX o)/\(∀t,MR n p=some t->t=v->o=some n)/\(∀t,MR n p=some t->t≠v->o=none)/\(MR n p=none->o=none):=by
 have sp:=(yD hp).sm xB;have hf:=T.kN p sp.1 (uF h);cases ha:MR n p with
 | none=>rw[ha]at hf;refine⟨none,aN ?_,(λt e=>by cases e),(λt e=>by cases e),λ_=>rfl⟩;simp only[G.sF];exact ak hf (dB rfl (bK _))
 | some t=>
   rw[ha]at hf;obtain⟨b,gs,hb⟩:=T.uK (uF (Rx h ha)) (uF hv);cases b with
   | true=>
     refine⟨some n,aN ?_,λt' _ _=>rfl,λt' e hne=>?_,(λe=>by cases e)⟩
     ·simp only[G.sF];exact ak hf (dR rfl (ak gs (dR rfl (ak (T.bC Fp (oG h)) (bK _)))))
     ·cases e;exact eF (hb.1 rfl) hne
   | false=>
     refine⟨none,aN ?_,λt' e he=>?_,λt' _ _=>rfl,(λe=>by cases e)⟩
     ·simp only[G.sF];exact ak hf (dR rfl (ak gs (dB rfl (bK _))))
     ·cases e;have:=hb.2 he;cases this
theorem TJ {n:aj}(h:Val n=true):(some n).filter Val=some n:=by simp[ug,h]
theorem T.rM {B D:Nat}{n:aj}{o:uO}(hB:B+2<lim)(h:Fine B D n)(ho:TD B D o):Ev (λf=>G.rM f n o) (pX (EP n o)):=by
 refine aN ?_;simp only[G.rM];unfold EP;refine ak (T.dm aI h) (dh (λe1=>?_) (λe1=>aQ (by rw[e1];rfl)));refine ak (T.vK aI ho) (dh (λe2=>?_) (λe2=>aQ (by rw[e1,e2];rfl)));rw[e1,e2,aA (by rfl)];have fo:=GM e2;have hn:=oG e1;by_cases k1:o.bQ=1
 ·refine dR (by simpa using k1) ?_;have e:ZW n o.uq o.Value=(applyN n o).filter Val:=by unfold ZW applyN;rw[e1,fo.path,fo.val,aA (by rfl),aA k1]
  rw[<- e];exact ak (T.oQ af0 hn (yD fo.path) (oG fo.val)) (bK _)
 refine dB (by simpa using k1) ?_;by_cases k2:o.bQ=2
 ·refine dR (by simpa using k2) ?_;have e:ahq n o.uq=(applyN n o).filter Val:=by
   unfold ahq applyN;rw[e1,fo.path,aA (by rfl),au k1,aA k2];cases hr:Eh n o.uq with
   |none=>rfl
   |some m=>exact(TJ (QZ e1 hr)).symm
  rw[<- e];exact ak (T.mF af0 hn (yD fo.path)) (bK _)
 refine dB (by simpa using k2) ?_;by_cases k3:o.bQ=3
 ·refine dR (by simpa using k3) ?_;have e:akl n o.uq o.Value=(applyN n o).filter Val:=by unfold akl applyN;rw[e1,fo.path,fo.val,aA (by rfl),au k1,au k2,aA k3]
  rw[<- e];exact ak (T.vP af0 hn (yD fo.path) (oG fo.val)) (bK _)
 refine dB (by simpa using k3) ?_;have hN:applyN n o=(MR n (if o.bQ=6 then o.uq else o.xJ)).bind λt=>@ite _ (o.bQ=6) _ (@ite _ (t=o.Value) (Classical.propDecidable _) (some n) none) (if o.bQ=5 then Du n o.uq t else Xf n o.xJ o.uq t):=by unfold applyN;rw[au k1,au k2,au k3]
 by_cases k4:o.bQ=4
 ·refine dR (by simpa using k4) ?_;have k6:¬o.bQ=6:=by omega
  have k5:¬o.bQ=5:=by omega
  have e:akc n o.xJ o.uq=(applyN n o).filter Val:=by
   unfold akc;rw[e1,fo.path,fo.from_,aA (by rfl),hN,au k6];cases ha:MR n o.xJ with
   |none=>rfl
   |some t=>simp only[kz,au k6,au k5]
  rw[<- e];exact ak (T.uJ e1 fo.from_ fo.path) (bK _)
 refine dB (by simpa using k4) ?_;by_cases k5:o.bQ=5
 ·refine dR (by simpa using k5) ?_;have k6:¬o.bQ=6:=by omega
  refine ak (T.uP af0 hn (yD fo.from_)) ?_;have eA:AtM n o.xJ=MR n o.xJ:=by unfold AtM;rw[e1,fo.from_,aA (by rfl)]
  rw[eA,hN,au k6];cases ha:MR n o.xJ with
  |none=>exact dB rfl (bK _)
  | some t=>have ht:=Rx e1 ha;have hA:=T.oQ (v:=t) af0 hn (yD fo.path) (oG ht);have e:ZW n o.uq t=(Du n o.uq t).filter Val:=(by unfold ZW;rw[e1,fo.path,ht,aA (by rfl)]);rw[e]at hA;simp only[kz,au k6,aA k5];exact dR rfl (ak hA (bK _))
 refine dB (by simpa using k5) ?_;have k6:o.bQ=6:=by have:=fo.k1;have:=fo.k6;omega
 obtain⟨q,g,h1,h2,h3⟩:=T.sF e1 fo.path fo.val;refine(show Ev _ (pX q)from ak g (bK _)).eq (sK pX ?_);rw[hN,aA k6];cases ha:MR n o.uq with
 |none=>rw[h3 ha];rfl
 | some t=>
   simp only[kz,aA k6];by_cases ht:t=o.Value
   ·rw[h1 t ha ht,aA ht,TJ e1]
   ·rw[h2 t ha ht,au ht];rfl
theorem KN (a b:Nat):lD (a:Int) (b:Int)=((a%b:Nat):Int):=by rw[Int.tmod_eq_emod_of_nonneg aI];exact(Int.natCast_emod a b).symm
theorem Rh (a b:Nat):mJ (a:Int) (b:Int)=((a/b:Nat):Int):=by rw[A8 aI];exact(Int.natCast_ediv a b).symm
section
def Tot {α:Type}(Q:α->Prop)(F:Nat->Option α):Prop:=∃x,Ev F x/\Q x
section
variable {α β:Type} {Q:α->Prop} {F F':Nat->Option α}
theorem Tot.up (h:Tot Q (λn=>F (n+1))):Tot Q F:=let ⟨x,g,q⟩:=h;⟨x,aN g,q⟩
theorem Tot.ret {x:α}(h:Q x):Tot Q (λ_=>some x):=⟨x,bK x,h⟩
theorem Tot.bind {P:β->Prop}{h:Nat->Option β}{k:Nat->β->Option α}(h1:Tot P h)(h2:∀x,P x->Tot Q (λn=>k n x)):Tot Q (λn=>mV (h n) (k n)):=by obtain⟨x,g,p⟩:=h1;obtain⟨y,g',q⟩:=h2 x p;exact⟨y,ak g g',q⟩
theorem Tot.chk {p:Prop}[Decidable p](hp:p)(h:Tot Q F):Tot Q (λn=>Ab.chk p (F n)):=let ⟨x,g,q⟩:=h;⟨x,um hp g,q⟩
theorem Tot.ite {c:Bool}(h:c=true->Tot Q F)(h':c=false->Tot Q F'):Tot Q (λn=>cond c (F n) (F' n)):=by
 cases c
 ·exact h' rfl
 ·exact h rfl
theorem Tot.mono {P:α->Prop}(h:Tot P F)(hq:∀x,P x->Q x):Tot Q F:=let ⟨x,g,q⟩:=h;⟨x,g,hq x q⟩
end
abbrev ZX (B:Nat)(n:aj):Prop:=∃D,Fine B D n
theorem CY : 60<=lim:=xB
theorem Tu : Val xM=true:=xB
end
abbrev ama (o:uO):Prop:=∃E,TD 60 E o
theorem FO.mono {B C:Nat}{p:List fD}(h:FO B p)(hB:B<=C):FO C p:=⟨bM h.1 hB,λs hs=>bM (h.2 s hs) hB⟩
structure NO (n:aj)(o:uO):Prop where
 node:∃E,Fine 60 E n
 op:∃E,TD 60 E o
theorem NO.fine {n:aj}{o:uO}(h:NO n o):∃E,Fine 60 E n/\TD 60 E o:=by obtain⟨⟨E,hn⟩,⟨F,ho⟩⟩:=h;exact⟨max E F,hn.mono (aC _) (CV _ _),ho.path,ho.from_,ho.val.mono (aC _) (FI _ _)⟩
theorem Et {n:aj}(h:Val n=true):Fine 60 5 n:=(oG h).mono aI (aC _)
structure akb (n:aj)(o:uO)(m:aj):Prop where
 vn:Val n=true
 vo:ZY o=true
 app:applyN n o=some m
 vm:Val m=true
theorem applied {n m:aj}{o:uO}(h:EP n o=some m):akb n o m:=by
 unfold EP at h;split at h
 ·rename_i hv;simp only[ah]at hv;obtain⟨h1,h2⟩:=yj.1 h;exact⟨hv.1,hv.2,h1,h2⟩
 ·cases h
theorem afx {n:aj}{o:uO}(hn:Val n=true)(ho:ZY o=true):EP n o=(applyN n o).filter Val:=by unfold EP;rw[hn,ho];rfl
theorem evd {p:Prop}(x:p:=by
 repeat' first
 |assumption
 |exact bK _
 |refine dR rfl ?_
 |refine dB rfl ?_
 |refine ak (by assumption) ?_
 |refine dh (λ_=>?_) (λ_=>?_)):p:=x
theorem uO.eta (o:uO):uO.mk o.bQ o.uq o.xJ o.Value=o:=rfl
theorem ai8 {o:uO}(h:ZY o=true):TD 12 5 o:=by have f:=GM h;exact⟨yD f.path,yD f.from_,oG f.val⟩
open Classical in
noncomputable def Ti : aj->List uO->Option aj
 |n,[]=>some n
 | n,o::r=>match EP n o with
   |some m=>Ti m r
   |none=>none
noncomputable def Qn : aj->List uO->Nat
 |_,[]=>0
 | n,o::r=>match EP n o with
   |some m=>Qn m r+1
   |none=>0
def P5 (l:List uO):Bool:=l.all ZY&&decide (l.length<=12)
noncomputable def MK (n:aj)(l:List uO):Option aj:=if Val n&&P5 l then Ti n l else none
theorem ajp {l:List uO} : ∀{n m:aj},Val n=true->Ti n l=some m->Val m=true:=by
 induction l with
 |nil=>intro n m hn h;cases h;exact hn
 | cons o r ih=>
   intro n m hn h;rw[Ti]at h;cases ha:EP n o with
   |none=>rw[ha]at h;cases h
   |some k=>rw[ha]at h;exact ih (applied ha).vm h
theorem afS {l:List uO} : ∀{n:aj},Qn n l=l.length<->(Ti n l).isSome=true:=by
 induction l with
 |nil=>intro n;simp[Qn,Ti]
 | cons o l ih=>
   intro n;rw[Qn,Ti];cases EP n o with
   |none=>simp
   |some k=>simp only[iU,Nat.add_right_cancel_iff];exact ih
theorem V3 {l:List uO}(h:P5 l=true):(∀o,o∈l->ZY o=true)/\l.length<=12:=by unfold P5 at h;simp only[ah,aF,bf]at h;exact h
def TC (l:List uO):Prop:=l.length<=1000/\∀o,o∈l->ama o
theorem afT {l:List uO}(h:P5 l=true):TC l:=by obtain⟨h1,h2⟩:=V3 h;exact⟨aI,λo ho=>⟨5,(yD (GM (h1 o ho)).path).mono aI,(yD (GM (h1 o ho)).from_).mono aI,(oG (GM (h1 o ho)).val).mono aI (aC _)⟩⟩
theorem getD_mem {α:Type}{l:List α}{i:Nat}(d:α)(h:i<l.length):l.getD i d∈l:=by rw[iD d h];exact dX h
theorem I8 : 1048576<=lim:=xB
def afd (l:List uO):Prop:=l.length<=1048576/\∀o,o∈l->∃D,Gp 1048576 D o
theorem TC.fin {l:List uO}(h:TC l):afd l:=⟨by have:=h.1;omega,λo ho=>by obtain⟨D,h1,h2,h3⟩:=h.2 o ho;exact⟨D,⟨by have:=h1.1;omega,λs hs=>by have:=h1.2 s hs;omega⟩,⟨by have:=h2.1;omega,λs hs=>by have:=h2.2 s hs;omega⟩,h3.fin0.mono aI (aC _)⟩⟩
theorem T0.gZ.L1 {l:List uO}(h:afd l):∀(k i:Nat),i+k=l.length->Ev (λf=>G.gZ.L1 f l i) ((l.drop i).all ZY):=by
 obtain⟨hl,ho⟩:=h;intro k
 induction k with
 | zero=>intro i hi;refine aN ?_;simp only[G.gZ.L1];refine dB (by simp;omega) (aQ ?_);rw[ay aI];rfl
 | succ k ih=>
   intro i hi;have hlt:i<l.length:=(by omega);refine aN ?_;simp only[G.gZ.L1,ai,uO.eta,FC i];obtain⟨E,hf⟩:=ho _ (getD_mem default hlt);refine dR (by simpa using hlt) (dw (ak (T0.vK I8 hf) ?_));rw[gm (default:uO) hlt,fZ];refine dh (λe=>?_) (λe=>?_)
   ·rw[e,dS];exact ih (i+1) aI
   ·rw[e,AZ];exact bK _
theorem T0.gZ {l:List uO}(h:afd l):Ev (λf=>G.gZ f l) (P5 l):=by
 refine aN ?_;simp only[G.gZ];have hL:=T0.gZ.L1 h l.length 0 aI;unfold P5;refine dh (λe=>aQ ?_) (λe=>?_)
 ·have:¬l.length<=12:=by simp at e;omega
  simp[this]
 ·have:l.length<=12:=by simp at e;omega
  simp only[this,decide_true,rf];exact hL
theorem T0.iL.L1 {l:List uO}(h:afd l):∀(k i:Nat),i+k=l.length->Ev (λf=>G.iL.L1 f l i) ((l.drop i).all ZY&&decide (l.length<=12)):=by
 obtain⟨hl,ho⟩:=h;intro k
 induction k with
 | zero=>intro i hi;refine aN ?_;simp only[G.iL.L1];refine dB (by simp;omega) (aQ ?_);rw[ay aI,zY,dS];simp;omega
 | succ k ih=>
   intro i hi;have hlt:i<l.length:=(by omega);refine aN ?_;simp only[G.iL.L1,ai,uO.eta,FC i];obtain⟨E,hf⟩:=ho _ (getD_mem default hlt);refine dR (by simpa using hlt) (dw (ak (T0.vU I8 hf) ?_));rw[gm (default:uO) hlt,fZ];refine dh (λe=>?_) (λe=>?_)
   ·rw[e,dS];exact ih (i+1) aI
   ·rw[e,AZ];exact bK _
theorem T0.iL {l:List uO}(h:afd l):Ev (λf=>G.iL f l) (P5 l):=by refine aN ?_;simp only[G.iL];exact T0.iL.L1 h l.length 0 aI
theorem T.gZ {l:List uO}(h:TC l):Ev (λf=>G.gZ f l) (P5 l):=T0.gZ h.fin
theorem T.iL {l:List uO}(h:TC l):Ev (λf=>G.iL f l) (P5 l):=T0.iL h.fin
noncomputable def ajq (N i:Nat)(n:aj)(l:List uO):aj×Int:=
 match Ti n l with
 |some m=>(m,(N:Int))
 |none=>(xM,((i+Qn n l:Nat):Int))
theorem T.lG.L1 {l:List uO}(h:P5 l=true):∀(k i:Nat) (n:aj),i+k=l.length->Val n=true ->
 Ev (λf=>G.lG.L1 f l i n.bQ n.wL n.lI n.aO n.aP) (ajq l.length i n (l.drop i)):=by
 obtain⟨ho,hl⟩:=V3 h;intro k
 induction k with
 | zero=>intro i n hi hn;refine aN ?_;simp only[G.lG.L1,aj.eta];refine dB (by simp;omega) (aQ ?_);rw[ay aI];rfl
 | succ k ih=>
   intro i n hi hn;have hlt:i<l.length:=(by omega);refine aN ?_;simp only[G.lG.L1,ai,uO.eta,aj.eta,FC i];have hv:=ho _ (getD_mem default hlt);have hA:=T.rM af0 (oG hn) (ai8 hv);refine dR (by simpa using hlt) (dw (ak hA ?_));rw[gm (default:uO) hlt];unfold ajq;rw[Ti,Qn];cases ha:EP n (l.getD i default)with
   |none=>exact dB rfl (aQ rfl)
   | some m=>
     refine dR rfl ((ih (i+1) m aI (applied ha).vm).eq ?_);unfold ajq;simp only;cases Ti m (l.drop (i+1))with
     |some k=>rfl
     | none=>refine sK (Prod.mk xM) ?_;show((i+1+Qn m (l.drop (i+1)):Nat):Int)=((i+(Qn m (l.drop (i+1))+1):Nat):Int);omega
theorem T.lG {n:aj}{l:List uO}(hn:Val n=true)(h:P5 l=true):Ev (λf=>G.lG f n l) (ajq l.length 0 n l):=by refine aN ?_;simp only[G.lG];exact ak (T.bC Fp (oG hn)) (T.lG.L1 h l.length 0 n aI hn)
theorem T.ry {B E:Nat}{n:aj}{l:List uO}(hB:B<=lim)(hn:Fine B E n)(hl:TC l):Ev (λf=>G.ry f n l) (pX (MK n l)):=by
 refine aN ?_;simp only[G.ry];unfold MK;refine ak (T.dm hB hn) (dh (λe1=>?_) (λe1=>aQ (by rw[e1];rfl)));refine ak (T.gZ hl) (dh (λe2=>?_) (λe2=>aQ (by rw[e1,e2];rfl)));refine ak (T.lG e1 e2) (aQ ?_);rw[e1,e2,aA (by rfl)];unfold ajq;cases hr:Ti n l with
 |some m=>simp[pX]
 | none=>have h1:¬Qn n l=l.length:=λe=>(by have:=afS.1 e;rw[hr]at this;cases this);simp only[Nat.zero_add,pX];rw[ilen];simp[h1]
theorem acB {n:aj}{o:uO}(hn:Val n=true)(ho:ZY o=true):Ev (λf=>G.rG f n o) (pX (EP n o)):=by rw[afx hn ho];exact T.rG hn (GM ho)
theorem T.jG.L1 {l:List uO}(h:P5 l=true):∀(k i:Nat) (n:aj),i+k=l.length->Val n=true ->
 Ev (λf=>G.jG.L1 f l i n.bQ n.wL n.lI n.aO n.aP) (pX (Ti n (l.drop i))):=by
 obtain⟨ho,hl⟩:=V3 h;intro k
 induction k with
 | zero=>intro i n hi hn;refine aN ?_;simp only[G.jG.L1,aj.eta];refine dB (by simp;omega) (aQ ?_);rw[ay aI];rfl
 | succ k ih=>
   intro i n hi hn;have hlt:i<l.length:=(by omega);refine aN ?_;simp only[G.jG.L1,ai,uO.eta,aj.eta,FC i];have hv:=ho _ (getD_mem default hlt);refine dR (by simpa using hlt) (dw (ak (acB hn hv) ?_));rw[gm (default:uO) hlt,Ti];cases ha:EP n (l.getD i default)with
   |none=>exact dB rfl (aQ rfl)
   |some m=>exact dR rfl (ih (i+1) m aI (applied ha).vm)
theorem T.jG {B E:Nat}{n:aj}{l:List uO}(hB:B<=lim)(hn:Fine B E n)(hl:TC l):Ev (λf=>G.jG f n l) (pX (MK n l)):=by refine aN ?_;simp only[G.jG];unfold MK;refine ak (T.iI hB hn) (dh (λe1=>?_) (λe1=>aQ (by rw[e1];rfl)));refine ak (T.iL hl) (dh (λe2=>?_) (λe2=>aQ (by rw[e1,e2];rfl)));rw[e1,e2,aA (by rfl)];exact ak (T.cO Fp (oG e1)) (T.jG.L1 e2 l.length 0 n aI e1)
section
theorem aeN : ∀(m:Nat) (k:Int) (out:fD),k.toNat<=m->0<=k->k<4611686018427387904->out.length+k.toNat<9223372036854775806->∃s,Ev (λf=>G.jf.L1 f k out) s/\s.length<=9223372036854775807
 | m,k,out,hm,h0,h1,hl=>by
   by_cases hk:0<k
   ·have e1:mJ k 10=k/10:=(by rw[A8 h0]);have w1:af .i64 (mJ k 10)=k/10:=by rw[e1];exact C9 aI aI
    match m with
    |0=>omega
    | m+1=>obtain⟨s,hs,hl2⟩:=aeN m (k/10) ([gz (af .u8 ((af .i64 (48+(lD k 10))))).toNat]++out) aI aI aI (by simp;omega);refine⟨s,aN ?_,hl2⟩;simp only[G.jf.L1,w1];exact dR (dW hk) (um xB (um (by simp only[maxLen];omega) hs))
   ·refine⟨[109]++out,aN ?_,by simp;omega⟩;simp only[G.jf.L1];exact dB (bg hk) (um (by simp only[maxLen];omega) (bK _))
theorem aoH {k:Int}(h0:0<=k)(h1:k<4611686018427387904):∃s,Ev (λf=>G.jf f k) s:=by
 by_cases hk:k<=0
 ·refine⟨[109,48],aN ?_⟩;simp only[G.jf];exact dR (dW hk) (bK _)
 ·obtain⟨s,hs,_⟩:=aeN k.toNat k [] (aC _) h0 h1 (by simp;omega);refine⟨s,aN ?_⟩;simp only[G.jf];exact dB (bg hk) hs
noncomputable def tx (k:Int):fD:=open Classical in if h:∃s,Ev (λf=>G.jf f k) s then h.choose else []
theorem WO {k:Int}(h:inR k):Ev (λf=>G.jf f k) (tx k):=by have hx:=aoH h.1 h.2;unfold tx;rw[dif_pos hx];exact hx.choose_spec
noncomputable def MC : List fD->Int->List fD
 |[],_=>[]
 |_::r,k=>tx k::MC r (k+1)
mutual
noncomputable def OB : aj->Int->aj×Int
 |aj.mk _ _ _ ns ks,k=>(aj.mk k (k+1) (tx (k+2)) (MC ns (k+3)) (DL ks (k+3+ns.length)).1,(DL ks (k+3+ns.length)).2)
noncomputable def DL : List aj->Int->List aj×Int
 |[],k=>([],k)
 |n::r,k=>((OB n k).1::(DL r (OB n k).2).1,(DL r (OB n k).2).2)
end
theorem VR : ∀(l:List fD) (k:Int),(MC l k).length=l.length
 |[],_=>rfl
 |_::r,k=>by simp[MC,VR r]
mutual
theorem Y8 : ∀(n:aj) (k:Int),(OB n k).2=k+TP n
 |aj.mk _ _ _ ns ks,k=>by simp only[OB,TP,Oh ks];omega
theorem Oh : ∀(l:List aj) (k:Int),(DL l k).2=k+yA l
 |[],k=>by simp[DL,yA]
 |n::r,k=>by simp only[DL,yA,Oh r,Y8 n];omega
end
theorem SH : ∀(l:List aj) (k:Int),(DL l k).1.length=l.length
 |[],_=>rfl
 |_::r,k=>by simp[DL,SH r]
structure MT (mt:FP)(fS fN tS tN:Nat):Prop where
 s:mt fS=some (tS,1,[.str 0])
 n:mt fN=some (tN,5,[.int 0,.int 1,.str 2,.sub 3 fS,.sub 4 fN])
section
variable {mt:FP} {fS fN tS tN:Nat}
theorem aeK (M:MT mt fS fN tS tN):∀(l:List fD) {k:Int},0<=k->k+l.length<4611686018427387904->CX mt tx (.L [.str 0] (l.map cS) k ((MC l k).map cS) (k+l.length))
 |[],k,_,_=>by simpa[MC]using CX.l0
 | s::r,k,h0,h1=>by
   have h2:=aeK M r (k:=k+1) aI (by simp at h1;omega);simp only[bU,MC];refine .l1 (k1:=k+1) (.es ⟨h0,by simp at h1;omega⟩ ⟨aI,by simp at h1;omega⟩ (by simp[cS]) ?_) ?_
   ·simpa[cS]using CX.e0
   ·have e:k+1+(r.length:Int)=k+((s::r).length:Nat):=(by simp;omega);rw[e]at h2;exact h2
theorem Iy (M:MT mt fS fN tS tN)(l:List fD){k:Int}(h0:0<=k)(h1:k+l.length<4611686018427387904):CX mt tx (.C fS (.sl 1 (l.map cS)) k (.sl 1 ((MC l k).map cS)) (k+l.length)):=
 .c M.s ⟨h0,aI⟩ (aeK M l h0 h1)
mutual
theorem ak0 (M:MT mt fS fN tS tN):∀(n:aj) {k:Int},0<=k->k+TP n<4611686018427387904->CX mt tx (.E [.int 0,.int 1,.str 2,.sub 3 fS,.sub 4 fN] n.cells k (OB n k).1.cells (OB n k).2)
 | aj.mk a b c ns ks,k,h0,h1=>by simp only[TP]at h1;have h2:=QL M ks (k:=k+3+ns.length) aI aI;have h3:=Iy M ns (k:=k+3) aI aI;rw[aj.iG,aj.iG];simp only[OB];refine .ei ⟨h0,aI⟩ ⟨aI,aI⟩ mg (.ei ⟨aI,aI⟩ ⟨aI,aI⟩ mg (.es ⟨aI,aI⟩ ⟨aI,aI⟩ mg ?_));rw[show k+1+1=k+2 by omega,show k+2+1=k+3 by omega];refine .ef (c:=.sl 1 (ns.map cS)) mg h3 (.ef (c:=.sl 5 (ks.map aj.cells)) mg (.c M.n ⟨aI,aI⟩ h2) ?_);simpa using CX.e0
theorem QL (M:MT mt fS fN tS tN):∀(l:List aj) {k:Int},0<=k->k+yA l<4611686018427387904->CX mt tx (.L [.int 0,.int 1,.str 2,.sub 3 fS,.sub 4 fN] (l.map aj.cells) k ((DL l k).1.map aj.cells) (DL l k).2)
 |[],k,_,_=>by simpa[DL]using CX.l0
 | n::r,k,h0,h1=>by simp only[yA]at h1;have h2:=ak0 M n (k:=k) h0 aI;have h3:=QL M r (k:=(OB n k).2) (by rw[Y8];omega) (by rw[Y8];omega);simp only[bU,DL];exact .l1 h2 h3
end
theorem VS (M:MT mt fS fN tS tN)(l:List aj){k:Int}(h0:0<=k)(h1:k+yA l<4611686018427387904):CX mt tx (.C fN (.sl 5 (l.map aj.cells)) k (.sl 5 ((DL l k).1.map aj.cells)) (DL l k).2):=
 .c M.n ⟨h0,aI⟩ (QL M l h0 h1)
end
section
variable {P:Program} {tS tN:Nat}
theorem Gg (h1:xP P tS=1)(l:List fD):N7 P tS (.sl 1 (l.map cS)):=
 have hx:∀(i j sz':Nat) (es':List (List Cell)),¬((l.map cS).getD i [])[j]? = some (.sl sz' es'):=λi j sz' es' h=>by
  simp only[cZ,dG]at h;cases hl:l[i]? with
  |none=>rw[hl]at h;simp at h
  |some s=>rw[hl]at h;cases j<;>simp[cS]at h
 .sl _ _ _ (λ_=>0) h1 (λi j sz' es' h=>eF h (hx i j sz' es')) (λi j sz' es' h=>eF h (hx i j sz' es'))
mutual
theorem ajJ (h1:xP P tS=1)(h2:xP P tN=5)(h3:oD P tN=[(3,tS),(4,tN)]):∀(n:aj) (j sz':Nat) (es':List (List Cell)),n.cells[j]? = some (.sl sz' es')->(j,if j=3 then tS else tN)∈oD P tN/\N7 P (if j=3 then tS else tN) (.sl sz' es')
 | aj.mk a b c ns ks,j,sz',es',h=>by
   have h4:=IL h1 h2 h3 ks;rw[aj.iG]at h
   match j,h with
   |0,h=>simp at h
   |1,h=>simp at h
   |2,h=>simp at h
   | 3,h=>simp only[eX,eY,aH,Cell.sl.injEq]at h;obtain⟨rfl,rfl⟩:=h;exact⟨by simp[h3],by simpa using Gg h1 ns⟩
   | 4,h=>simp only[eX,eY,aH,Cell.sl.injEq]at h;obtain⟨rfl,rfl⟩:=h;exact⟨by simp[h3],by simpa using h4⟩
   |j+5,h=>simp at h
theorem IL (h1:xP P tS=1)(h2:xP P tN=5)(h3:oD P tN=[(3,tS),(4,tN)]):∀(l:List aj),N7 P tN (.sl 5 (l.map aj.cells))
 | []=>have hx:∀(i j sz':Nat) (es':List (List Cell)),¬(([]:List (List Cell)).getD i [])[j]? = some (.sl sz' es'):=λi j sz' es' h=>by simp at h
   .sl _ _ _ (λ_=>0) h2 (λi j sz' es' h=>eF h (hx i j sz' es')) (λi j sz' es' h=>eF h (hx i j sz' es'))
 | n::r=>by
   have a:=ajJ h1 h2 h3 n;have b:=IL h1 h2 h3 r;cases b with
   |sl _ _ _ t hs b1 b2=>
   have key:∀(i j sz':Nat) (es':List (List Cell)),(((n::r).map aj.cells).getD i [])[j]? = some (.sl sz' es')->(j,if j=3 then tS else tN)∈oD P tN/\N7 P (if j=3 then tS else tN) (.sl sz' es'):=by
    intro i j sz' es' h;cases i with
    |zero=>exact a j sz' es' (by simpa using h)
    | succ i=>
      have h':((r.map aj.cells).getD i [])[j]? = some (.sl sz' es'):=(by simpa using h);have c1:=b1 i j sz' es' h';have c2:=b2 i j sz' es' h';rw[h3]at c1;simp only[aK,dF,iV,or_false]at c1;rcases c1 with⟨rfl,e⟩|⟨rfl,e⟩
      ·rw[e]at c2;exact⟨by simp[h3],by simpa using c2⟩
      ·rw[e]at c2;exact⟨by simp[h3],by simpa using c2⟩
   exact .sl _ _ _ (λj=>if j=3 then tS else tN) h2 (λi j sz' es' h=>(key i j sz' es' h).1) (λi j sz' es' h=>(key i j sz' es' h).2)
end
end
end
theorem aa3 : ∀(l:List fD) (k:Int) {i:Nat},i<l.length->(MC l k).getD i default=tx (k+i)
 |[],_,i,h=>by simp at h
 |s::r,k,0,_=>by simp[MC]
 | s::r,k,i+1,h=>by
   have:=aa3 r (k+1) (i:=i) (by simpa using h);simp only[MC,nO,this]
   congr 1
   omega
theorem XX : ∀(l:List aj) (k:Int) {i:Nat},i<l.length->(DL l k).1.getD i default=(OB (l.getD i default) (k+yA (l.take i))).1
 |[],_,i,h=>by simp at h
 |n::r,k,0,_=>by simp[DL,yA]
 | n::r,k,i+1,h=>by
   have:=XX r (OB n k).2 (i:=i) (by simpa using h);simp only[DL,nO,this,uG,yA]
   congr 2
   rw[Y8];omega
theorem XZ : ∀(l:List aj) {i:Nat},i<l.length->yA (l.take (i+1))=yA (l.take i)+TP (l.getD i default)
 |[],i,h=>by simp at h
 |n::r,0,_=>by simp[yA]
 | n::r,i+1,h=>by have:=XZ r (i:=i) (by simpa using h);simp only[uG,yA,this,nO];omega
theorem aeL : ∀(l:List aj) (i:Nat),yA (l.take i)<=yA l
 |[],i=>by simp[yA]
 |n::r,0=>by simp[yA]
 |n::r,i+1=>by have:=aeL r i;simp only[uG,yA];omega
theorem Lp (n:aj)(k:Int):(OB n k).1=aj.mk k (k+1) (tx (k+2)) (MC n.aO (k+3)) (DL n.aP (k+3+n.aO.length)).1:=by cases n;rfl
theorem T.VJ {l:List fD}{k:Int}(h0:0<=k)(h1:k+l.length<4611686018427387904):Ev (λf=>G.jk f (MC l k) k) (k+l.length):=by
 have L:∀(m i:Nat),i+m=l.length->Ev (λf=>G.jk.L1 f (MC l k) (k+i) i) (k+l.length):=by
  intro m
  induction m with
  | zero=>intro i hi;refine aN ?_;simp only[G.jk.L1,VR];exact rX (aQ aI)
  | succ m ih=>intro i hi;have w1:af .i64 (k+i+1)=k+((i+1:Nat):Int):=(by rw[C9 aI aI];omega);refine aN ?_;simp only[G.jk.L1,VR,ai,w1,FC i,aa3 l k (show i<l.length by omega)];exact rW (dw (ak (WO ⟨aI,aI⟩) (dR mg (ih (i+1) aI))))
 refine aN ?_;simp only[G.jk];have:=L l.length 0 aI;simpa using this
def ad9 (n:aj):Prop:=∀k:Int,0<=k->k+yA n.aP<4611686018427387904->Ev (λf=>G.jU f (DL n.aP k).1 k) (k+yA n.aP)
theorem T.VI {l:List aj}(hl:∀n,n∈l->ad9 n){k:Int}(h0:0<=k)(h1:k+yA l<4611686018427387904)(hlen:l.length<4611686018427387904):Ev (λf=>G.jU f (DL l k).1 k) (k+yA l):=by
 have L:∀(m i:Nat),i+m=l.length->Ev (λf=>G.jU.L1 f (DL l k).1 (k+yA (l.take i)) i) (k+yA l):=by
  intro m
  induction m with
  | zero=>intro i hi;refine aN ?_;simp only[G.jU.L1,SH];exact rX (aQ (by rw[bz aI]))
  | succ m ih=>intro i hi;have hil:i<l.length:=(by omega);have hs:=XZ l hil;have hle:=aeL l (i+1);have hme:ad9 (l.getD i default):=hl _ (EZ default hil);have ht:=GL (l.getD i default);generalize hq:l.getD i default=q at hs hme ht;have w1:af .i64 (k+yA (l.take i)+1)=k+yA (l.take i)+1:=C9 aI aI;have w2:af .i64 (k+yA (l.take i)+1+1)=k+yA (l.take i)+2:=(by rw[C9 aI aI];omega);have w3:af .i64 (k+yA (l.take i)+2+1)=k+yA (l.take i)+3:=(by rw[C9 aI aI];omega);have e1:=T.VJ (l:=q.aO) (k:=k+yA (l.take i)+3) aI aI;have e2:=hme (k+yA (l.take i)+3+q.aO.length) aI aI;have e3:=ih (i+1) aI;have e4:k+((yA (l.take (i+1)):Nat):Int)=k+yA (l.take i)+3+q.aO.length+yA q.aP:=(by omega);rw[e4]at e3;refine aN ?_;simp only[G.jU.L1,SH,ai,XX l k hil,hq,Lp,w1,w2,w3,FC i];refine rW (dw (dB mg (dw (dB mg (dw (ak (WO ⟨aI,aI⟩) (dR mg (dw (ak e1 (rX (dw (ak e2 (rX e3)))))))))))))
 refine aN ?_;simp only[G.jU];have:=L l.length 0 aI;simpa[yA]using this
theorem VT : ∀(l:List aj),l.length<=yA l
 |[]=>by simp
 |n::r=>by have:=VT r;simp only[yA,GL n,iU];omega
mutual
theorem aoc : ∀(n:aj),ad9 n
 |aj.mk _ _ _ _ ks=>λk h0 h1=>T.VI (ac6 ks) h0 h1 (by have:=VT ks;have h2:k+(yA ks:Int)<4611686018427387904:=h1;omega)
theorem ac6 : ∀(l:List aj),∀n,n∈l->ad9 n
 |[],n,h=>by cases h
 | m::r,n,h=>by
   rcases aK.1 h with e|e
   ·rw[e];exact aoc m
   ·exact ac6 r n e
end
theorem T.XL (l:List aj){k:Int}(h0:0<=k)(h1:k+yA l<4611686018427387904):Ev (λf=>G.jU f (DL l k).1 k) (k+yA l):=
 T.VI (ac6 l) h0 h1 (by have:=VT l;omega)
def rtc (n:aj):Nat:=n.aO.length+yA n.aP
theorem abl {n:aj}(h:Parts n=true):n.aO.length<=6:=by
 unfold Parts at h;simp only[ah,iJ,aZ]at h;obtain⟨⟨_,h1⟩,h2⟩:=h;rcases h1 with h1|h1
 ·rw[h1]at h2;simp at h2;omega
 ·omega
theorem aa5 : ∀(l:List aj) (f:aj->Nat),(∀n,n∈l->TP n<=9*f n)->yA l<=9*(l.map f).sum
 |[],f,_=>by simp[yA]
 | n::r,f,h=>by have h1:=aa5 r f (λn hn=>h n (fJ _ hn));have h2:=h n (bD ..);simp only[yA,bU,tZ];omega
theorem Yc : ∀(d:Nat) (n:aj),Shape d n=true->TP n<=9*Cnt d n
 |0,n,h=>by simp[Shape]at h
 | d+1,n,h=>by have h1:=abl (rV h);have h2:=aa5 n.aP (Cnt d) (λk hk=>Yc d k (wu h k hk));rw[GL];simp only[Cnt];omega
theorem ae7 {n:aj}(h:Val n=true):rtc n<=400:=by unfold Val at h;simp only[ah,aF]at h;have:=Yc 5 n h.1;rw[GL]at this;unfold rtc;omega
section
abbrev opL (o:uO):List Cell:=[.lit (.int .i64 o.bQ),.sl 1 (o.uq.map cS),.sl 1 (o.xJ.map cS),.lit (.int .i64 o.Value.bQ),.lit (.int .i64 o.Value.wL),.str o.Value.lI,.sl 1 (o.Value.aO.map cS),.sl 5 (o.Value.aP.map aj.cells)]
section
variable {P:Program} {tS tN:Nat}
theorem amm (h1:xP P tS=1)(h2:xP P tN=5)(h3:oD P tN=[(3,tS),(4,tN)])(o:uO)(a b c d:Nat)(j sz:Nat)(es:List (List Cell))(h:(opL o)[j]? = some (.sl sz es)):∃r,r∈[(1,tS,a),(2,tS,b),(6,tS,c),(7,tN,d)]/\r.1=j/\N7 P r.2.1 (.sl sz es):=by
 match j,h with
 | 1,h=>simp only[opL,eX,eY,aH,Cell.sl.injEq]at h;obtain⟨rfl,rfl⟩:=h;exact⟨(1,tS,a),mg,rfl,Gg h1 _⟩
 | 2,h=>simp only[opL,eX,eY,aH,Cell.sl.injEq]at h;obtain⟨rfl,rfl⟩:=h;exact⟨(2,tS,b),mg,rfl,Gg h1 _⟩
 | 6,h=>simp only[opL,eX,eY,aH,Cell.sl.injEq]at h;obtain⟨rfl,rfl⟩:=h;exact⟨(6,tS,c),mg,rfl,Gg h1 _⟩
 | 7,h=>simp only[opL,eX,eY,aH,Cell.sl.injEq]at h;obtain⟨rfl,rfl⟩:=h;exact⟨(7,tN,d),mg,rfl,IL h1 h2 h3 _⟩
 |0,h=>simp[opL]at h
 |3,h=>simp[opL]at h
 |4,h=>simp[opL]at h
 |5,h=>simp[opL]at h
 |j+8,h=>simp[opL]at h
end
end
theorem T0.rM {B D E:Nat}{n:aj}{o:uO}(hB:B<=lim)(h:Ar B D n)(ho:Gp B E o):Ev (λf=>G.rM f n o) (pX (EP n o)):=by
 by_cases hv:(Val n&&ZY o)=true
 ·have hv':=hv;simp only[ah]at hv';have fo:=GM hv'.2;exact T.rM (B:=12) (D:=5) xB (oG hv'.1) ⟨yD fo.path,yD fo.from_,oG fo.val⟩
 refine aN ?_;simp only[G.rM];unfold EP;rw[au hv];refine ak (T0.dm hB h) (dh (λe1=>?_) (λe1=>aQ rfl));refine ak (T0.vK hB ho) (dh (λe2=>?_) (λe2=>aQ rfl));exact eF (by rw[e1,e2];rfl) hv
section
noncomputable def am0 (o:uO)(k:Int):uO:=uO.mk k (MC o.uq (k+1)) (MC o.xJ (k+1+o.uq.length)) (OB o.Value (k+1+o.uq.length+o.xJ.length)).1
noncomputable def XY : List uO->Int->List uO
 |[],_=>[]
 |o::r,k=>am0 o k::XY r (k+(mkO o+1:Nat))
section
variable {mt:FP} {fS fN tS tN fP tP:Nat}
abbrev VX (fS fN:Nat):List MA:=[.int 0,.sub 1 fS,.sub 2 fS,.int 3,.int 4,.str 5,.sub 6 fS,.sub 7 fN]
theorem aoF (M:MT mt fS fN tS tN)(o:uO){k:Int}(h0:0<=k)(h1:k+(mkO o+1:Nat)<4611686018427387904):CX mt tx (.E (VX fS fN) o.cells k (am0 o k).cells (k+(mkO o+1:Nat))):=by
 have hm:=GL o.Value;unfold mkO at *;have e1:=Iy M o.uq (k:=k+1) aI aI;have e2:=Iy M o.xJ (k:=k+1+o.uq.length) aI aI;have e3:=Iy M o.Value.aO (k:=k+1+o.uq.length+o.xJ.length+3) aI aI;have e4:=QL M o.Value.aP (k:=k+1+o.uq.length+o.xJ.length+3+o.Value.aO.length) aI aI;have e5:(DL o.Value.aP (k+1+o.uq.length+o.xJ.length+3+o.Value.aO.length)).2=k+((o.uq.length+o.xJ.length+TP o.Value+1:Nat):Int):=by rw[Oh];omega
 rw[uO.iG,uO.iG];unfold am0;rw[Lp];simp only;refine .ei ⟨h0,aI⟩ ⟨aI,aI⟩ mg ?_;refine .ef (c:=.sl 1 (o.uq.map cS)) mg e1 (.ef (c:=.sl 1 (o.xJ.map cS)) mg e2 ?_);refine .ei ⟨aI,aI⟩ ⟨aI,aI⟩ mg (.ei ⟨aI,aI⟩ ⟨aI,aI⟩ mg (.es ⟨aI,aI⟩ ⟨aI,aI⟩ mg ?_));rw[show k+1+o.uq.length+o.xJ.length+1+1=k+1+o.uq.length+o.xJ.length+2 by omega,show k+1+o.uq.length+o.xJ.length+2+1=k+1+o.uq.length+o.xJ.length+3 by omega];refine .ef (c:=.sl 1 (o.Value.aO.map cS)) mg e3 (.ef (c:=.sl 5 (o.Value.aP.map aj.cells)) mg (.c M.n ⟨aI,aI⟩ e4) ?_);rw[e5];simpa using CX.e0
theorem ai0 (M:MT mt fS fN tS tN):∀(l:List uO) {k:Int},0<=k->k+MB l<4611686018427387904->CX mt tx (.L (VX fS fN) (l.map uO.cells) k ((XY l k).map uO.cells) (k+MB l))
 |[],k,_,_=>by simpa[XY,MB]using CX.l0
 | o::r,k,h0,h1=>by simp only[MB]at h1;have h2:=aoF M o (k:=k) h0 aI;have h3:=ai0 M r (k:=k+(mkO o+1:Nat)) aI aI;simp only[bU,XY,MB];have e:k+((mkO o+1:Nat):Int)+(MB r:Int)=k+((mkO o+1+MB r:Nat):Int):=(by omega);rw[e]at h3;exact .l1 h2 h3
theorem am1 (M:MT mt fS fN tS tN)(hP:mt fP=some (tP,8,VX fS fN))(l:List uO){k:Int}(h0:0<=k)(h1:k+MB l<4611686018427387904):CX mt tx (.C fP (.sl 8 (l.map uO.cells)) k (.sl 8 ((XY l k).map uO.cells)) (k+MB l)):=
 .c hP ⟨h0,aI⟩ (ai0 M l h0 h1)
end
section
variable {P:Program} {tS tN tP:Nat}
theorem alu (h1:xP P tS=1)(h2:xP P tN=5)(h3:oD P tN=[(3,tS),(4,tN)])(h4:xP P tP=8)(h5:oD P tP=[(1,tS),(2,tS),(6,tS),(7,tN)])(l:List uO):N7 P tP (.sl 8 (l.map uO.cells)):=by
 have key:∀(i j sz':Nat) (es':List (List Cell)),((l.map uO.cells).getD i [])[j]? = some (.sl sz' es')->(j,if j=7 then tN else tS)∈oD P tP/\N7 P (if j=7 then tN else tS) (.sl sz' es'):=by
  intro i j sz' es' h;simp only[cZ,dG]at h;cases hl:l[i]? with
  |none=>rw[hl]at h;simp at h
  | some o=>
    rw[hl]at h;simp only[kL,lW]at h;obtain⟨r,hr,rfl,ht⟩:=amm h1 h2 h3 o 0 0 0 0 j sz' es' h;simp only[aK,iV,or_false]at hr;rcases hr with rfl|rfl|rfl|rfl
    ·exact⟨by simp[h5],by simpa using ht⟩
    ·exact⟨by simp[h5],by simpa using ht⟩
    ·exact⟨by simp[h5],by simpa using ht⟩
    ·exact⟨by simp[h5],by simpa using ht⟩
 exact .sl _ _ _ (λj=>if j=7 then tN else tS) h4 (λi j sz' es' h=>(key i j sz' es' h).1) (λi j sz' es' h=>(key i j sz' es' h).2)
end
theorem aen {P:Program}{tX a n:Nat}{L:List (List Cell)}(h0:N7 P tX (.sl n L))(j sz:Nat)(es:List (List Cell))(h:[Cell.sl n L][j]? = some (.sl sz es)):∃r,r∈[(0,tX,a)]/\r.1=j/\N7 P r.2.1 (.sl sz es):=by
 match j,h with
 | 0,h=>simp only[eY,aH,Cell.sl.injEq]at h;obtain⟨rfl,rfl⟩:=h;exact⟨(0,tX,a),mg,rfl,h0⟩
 |j+1,h=>simp at h
end
section
theorem CX.ei' {mt:FP}{o:Nat}{r:List MA}{e e':List Cell}{k k1 k':Int}(hk:inR k)(hk':inR k1)(h1:k1=k+1)(ho:o<e.length)(h:CX mt tx (.E r (e.set o (.lit (.int .i64 k))) k1 e' k')):CX mt tx (.E (.int o::r) e k e' k'):=by subst h1;exact .ei hk hk' ho h
theorem CX.es' {mt:FP}{o:Nat}{r:List MA}{e e':List Cell}{k k1 k':Int}(hk:inR k)(hk':inR k1)(h1:k1=k+1)(ho:o<e.length)(h:CX mt tx (.E r (e.set o (.str (tx k))) k1 e' k')):CX mt tx (.E (.str o::r) e k e' k'):=by subst h1;exact .es hk hk' ho h
theorem CX.to {mt:FP}{f:Nat}{c c':Cell}{k k1 k2:Int}(h:CX mt tx (.C f c k c' k1))(e:k1=k2):CX mt tx (.C f c k c' k2):=by subst e;exact h
structure TyH (P:Program)(tS tN tP:Nat):Prop where
 s:xP P tS=1
 n:xP P tN=5
 rn:oD P tN=[(3,tS),(4,tN)]
 p:xP P tP=8
 rp:oD P tP=[(1,tS),(2,tS),(6,tS),(7,tN)]
def JM {α:Type}(mc:α->Nat):List α->Nat
 |[]=>0
 |o::r=>mc o+JM mc r
noncomputable def mkL {α:Type}(mk:α->Int->α)(mc:α->Nat):List α->Int->List α
 |[],_=>[]
 |o::r,k=>mk o k::mkL mk mc r (k+(mc o:Nat))
section
variable {α:Type} (mk:α->Int->α) (mc:α->Nat)
theorem QJ : ∀(l:List α) (k:Int),(mkL mk mc l k).length=l.length
 |[],_=>rfl
 |_::r,k=>by simp[mkL,QJ r]
theorem Y7 [Inhabited α]:∀(l:List α) (k:Int) {i:Nat},i<l.length->(mkL mk mc l k).getD i default=mk (l.getD i default) (k+JM mc (l.take i))
 |[],_,i,h=>by simp at h
 |o::r,k,0,_=>by simp[mkL,JM]
 | o::r,k,i+1,h=>by
   have:=Y7 r (k+(mc o:Nat)) (i:=i) (by simpa using h);simp only[mkL,nO,this,uG,JM]
   congr 1
   omega
theorem VP [Inhabited α]:∀(l:List α) {i:Nat},i<l.length->JM mc (l.take (i+1))=JM mc (l.take i)+mc (l.getD i default)
 |[],i,h=>by simp at h
 |n::r,0,_=>by simp[JM]
 | n::r,i+1,h=>by have:=VP r (i:=i) (by simpa using h);simp only[uG,JM,this,nO];omega
theorem adp : ∀(l:List α) (i:Nat),JM mc (l.take i)<=JM mc l
 |[],i=>by simp[JM]
 |n::r,0=>by simp[JM]
 |n::r,i+1=>by have:=adp r i;simp only[uG,JM];omega
end
theorem aeJ {α:Type}{mk:α->Int->α}{mc:α->Nat}{cells:α->List Cell}{mt:FP}{acts:List MA}(H:∀(x:α) (k:Int),0<=k->k+(mc x:Nat)<4611686018427387904->CX mt tx (.E acts (cells x) k (cells (mk x k)) (k+(mc x:Nat)))):∀(l:List α) {k:Int},0<=k->k+(JM mc l:Nat)<4611686018427387904->CX mt tx (.L acts (l.map cells) k ((mkL mk mc l k).map cells) (k+(JM mc l:Nat)))
 |[],k,_,_=>by simpa[mkL,JM]using CX.l0
 | o::r,k,h0,h1=>by simp only[JM]at h1;have h2:=H o k h0 aI;have h3:=aeJ H r (k:=k+(mc o:Nat)) aI aI;simp only[bU,mkL,JM];have e:k+((mc o:Nat):Int)+((JM mc r:Nat):Int)=k+((mc o+JM mc r:Nat):Int):=(by omega);rw[e]at h3;exact .l1 h2 h3
theorem ajI {P:Program}{tX n:Nat}{α:Type}{cells:α->List Cell}{fn:Nat->Nat}(h4:xP P tX=n)(H:∀(o:α) (j sz:Nat) (es:List (List Cell)),(cells o)[j]? = some (.sl sz es)->(j,fn j)∈oD P tX/\N7 P (fn j) (.sl sz es))(l:List α):N7 P tX (.sl n (l.map cells)):=by
 have key:∀(i j sz':Nat) (es':List (List Cell)),((l.map cells).getD i [])[j]? = some (.sl sz' es')->(j,fn j)∈oD P tX/\N7 P (fn j) (.sl sz' es'):=by
  intro i j sz' es' h;simp only[cZ,dG]at h;cases hl:l[i]? with
  |none=>rw[hl]at h;simp at h
  | some o=>rw[hl]at h;exact H o j sz' es' (by simpa using h)
 exact .sl _ _ _ fn h4 (λi j sz' es' h=>(key i j sz' es' h).1) (λi j sz' es' h=>(key i j sz' es' h).2)
def Dv (x:fB):Nat:=1+1+TP x.pR
noncomputable def mkItem (x:fB)(k:Int):fB:=fB.mk (tx (k+((0:Nat):Int))) (k+((1:Nat):Int)) (OB x.pR (k+((1+1:Nat):Int))).1
noncomputable abbrev aeI : List fB->Int->List fB:=mkL mkItem Dv
abbrev yV : List fB->Nat:=JM Dv
abbrev Qa (fS fN:Nat):List MA:=[.str 0,.int 1,.int 2,.int 3,.str 4,.sub 5 fS,.sub 6 fN]
theorem aiZ {mt:FP}{fS fN tS tN:Nat}(M:MT mt fS fN tS tN)(x:fB){k:Int}(h0:0<=k)(h1:k+(Dv x:Nat)<4611686018427387904):CX mt tx (.E (Qa fS fN) x.cells k (mkItem x k).cells (k+(Dv x:Nat))):=by
 unfold Dv at *;have aoC:=GL x.pR;obtain⟨K1,e1⟩:∃z:Int,z=k+((1:Nat):Int):=⟨_,rfl⟩;obtain⟨K2,e2⟩:∃z:Int,z=K1+((1:Nat):Int):=⟨_,rfl⟩;obtain⟨K3,e3⟩:∃z:Int,z=K2+((1:Nat):Int):=⟨_,rfl⟩;obtain⟨K4,e4⟩:∃z:Int,z=K3+((1:Nat):Int):=⟨_,rfl⟩;obtain⟨K5,e5⟩:∃z:Int,z=K4+((1:Nat):Int):=⟨_,rfl⟩;obtain⟨K6,e6⟩:∃z:Int,z=K5+(x.pR.aO.length:Int):=⟨_,rfl⟩;obtain⟨K7,e7⟩:∃z:Int,z=K6+((yA x.pR.aP:Nat):Int):=⟨_,rfl⟩;have eL:k+((1+1+TP x.pR:Nat):Int)=K7:=by omega
 have o0:k+((0:Nat):Int)=k:=by omega
 have o1:k+((1:Nat):Int)=K1:=by omega
 have o2:k+((1+1:Nat):Int)=K2:=by omega
 rw[eL];rw[fB.iG,fB.iG];unfold mkItem;simp only[Lp,o0,o1,o2];have i0:K2+1=K3:=by omega
 have i1:K2+2=K4:=by omega
 have i2:K5+(x.pR.aO.length:Int)=K6:=by omega
 have i3:K2+3=K5:=by omega
 simp only[i0,i1,i2,i3];refine CX.es' (k1:=K1) ⟨aI,aI⟩ ⟨aI,aI⟩ aI mg ?_;refine CX.ei' (k1:=K2) ⟨aI,aI⟩ ⟨aI,aI⟩ aI mg ?_;refine CX.ei' (k1:=K3) ⟨aI,aI⟩ ⟨aI,aI⟩ aI mg ?_;refine CX.ei' (k1:=K4) ⟨aI,aI⟩ ⟨aI,aI⟩ aI mg ?_;refine CX.es' (k1:=K5) ⟨aI,aI⟩ ⟨aI,aI⟩ aI mg ?_;refine CX.ef (k1:=K6) (c:=.sl 1 (x.pR.aO.map cS)) mg ((Iy M x.pR.aO aI aI).to aI) ?_;refine CX.ef (k1:=K7) (c:=.sl 5 (x.pR.aP.map aj.cells)) mg ((VS M x.pR.aP aI aI).to (by rw[Oh];omega)) ?_;simpa using CX.e0
theorem akZ {mt:FP}{fS fN tS tN tX fX:Nat}(M:MT mt fS fN tS tN)(hX:mt fX=some (tX,7,Qa fS fN))(l:List fB){k:Int}(h0:0<=k)(h1:k+(yV l:Nat)<4611686018427387904):CX mt tx (.C fX (.sl 7 (l.map fB.cells)) k (.sl 7 ((aeI l k).map fB.cells)) (k+(yV l:Nat))):=
 .c hX ⟨h0,aI⟩ (aeJ (λx _ a b=>aiZ M x a b) l h0 h1)
theorem akC {P:Program}{tS tN tP:Nat}(H:TyH P tS tN tP)(x:fB)(a b:Nat)(j sz:Nat)(es:List (List Cell))(h:x.cells[j]? = some (.sl sz es)):∃r,r∈[(5,tS,a),(6,tN,b)]/\r.1=j/\N7 P r.2.1 (.sl sz es):=by
 rw[fB.iG]at h
 match j,h with
 | 5,h=>simp only[eX,eY,aH,Cell.sl.injEq]at h;obtain⟨rfl,rfl⟩:=h;exact⟨(5,tS,a),mg,rfl,Gg H.s _⟩
 | 6,h=>simp only[eX,eY,aH,Cell.sl.injEq]at h;obtain⟨rfl,rfl⟩:=h;exact⟨(6,tN,b),mg,rfl,IL H.s H.n H.rn _⟩
 |0,h=>simp at h
 |1,h=>simp at h
 |2,h=>simp at h
 |3,h=>simp at h
 |4,h=>simp at h
 |j+7,h=>simp at h
theorem agY {P:Program}{tS tN tP tX:Nat}(H:TyH P tS tN tP)(h4:xP P tX=7)(h5:oD P tX=[(5,tS),(6,tN)])(l:List fB):N7 P tX (.sl 7 (l.map fB.cells)):=by refine ajI (fn:=λj=>(if j=6 then tN else tS)) h4 (λo j sz' es' h=>?_) l;obtain⟨r,hr,rfl,ht⟩:=akC H o 0 0 j sz' es' h;simp only[aK,iV,or_false]at hr;rcases hr with rfl|rfl<;>exact⟨by simp[h5],by simpa using ht⟩
theorem T.af2 (l:List fB){k:Int}(h0:0<=k)(h1:k+(JM Dv l:Nat)<4611686018427387904)(hlen:l.length<4611686018427387904):Ev (λf=>G.l9 f (mkL mkItem Dv l k) k) (k+(JM Dv l:Nat)):=by
 have L:∀(m i:Nat),i+m=l.length->Ev (λf=>G.l9.L1 f (mkL mkItem Dv l k) (k+(JM Dv (l.take i):Nat)) i) (k+(JM Dv l:Nat)):=by
  intro m
  induction m with
  | zero=>intro i hi;refine aN ?_;simp only[G.l9.L1,QJ];exact rX (aQ (by rw[bz aI]))
  | succ m ih=>
    intro i hi;have hil:i<l.length:=(by omega);have hs:=VP Dv l hil;have hle:=adp Dv l (i+1);have hg:=Y7 mkItem Dv l k hil;generalize hq:l.getD i default=q at hs hg;rw[show Dv q=1+1+TP q.pR from rfl]at hs;obtain⟨K0,e0⟩:∃z:Int,z=k+(JM Dv (l.take i):Nat):=⟨_,rfl⟩;rw[<- e0]at hg;have aoC:=GL q.pR;obtain⟨K1,e1⟩:∃z:Int,z=K0+((1:Nat):Int):=⟨_,rfl⟩;obtain⟨K2,e2⟩:∃z:Int,z=K1+((1:Nat):Int):=⟨_,rfl⟩;obtain⟨K3,e3⟩:∃z:Int,z=K2+((1:Nat):Int):=⟨_,rfl⟩;obtain⟨K4,e4⟩:∃z:Int,z=K3+((1:Nat):Int):=⟨_,rfl⟩;obtain⟨K5,e5⟩:∃z:Int,z=K4+((1:Nat):Int):=⟨_,rfl⟩;obtain⟨K6,e6⟩:∃z:Int,z=K5+(q.pR.aO.length:Int):=⟨_,rfl⟩;obtain⟨K7,e7⟩:∃z:Int,z=K6+((yA q.pR.aP:Nat):Int):=⟨_,rfl⟩;have o0:K0+((0:Nat):Int)=K0:=(by omega);have o1:K0+((1:Nat):Int)=K1:=(by omega);have o2:K0+((1+1:Nat):Int)=K2:=(by omega);have i0:K2+1=K3:=(by omega);have i1:K2+2=K4:=(by omega);have i2:K5+(q.pR.aO.length:Int)=K6:=(by omega);have i3:K2+3=K5:=(by omega);generalize hz:mkItem q K0=z at hg;unfold mkItem at hz;simp only[Lp,o0,o1,o2]at hz;simp only[i0,i1,i2,i3]at hz;subst hz;have w0:af .i64 (K0+1)=K1:=(by rw[C9 aI aI];omega);have w1:af .i64 (K1+1)=K2:=(by rw[C9 aI aI];omega);have w2:af .i64 (K2+1)=K3:=(by rw[C9 aI aI];omega);have w3:af .i64 (K3+1)=K4:=(by rw[C9 aI aI];omega);have w4:af .i64 (K4+1)=K5:=(by rw[C9 aI aI];omega);have g5:=(T.VJ (l:=q.pR.aO) (k:=K5) aI aI).eq (show _=K6 by omega);have g6:=(T.XL q.pR.aP (k:=K6) aI aI).eq (show _=K7 by omega);have e9:=ih (i+1) aI;have e8:k+((JM Dv (l.take (i+1)):Nat):Int)=K7:=(by omega);rw[e8]at e9;rw[<- e0];refine aN ?_;simp only[G.l9.L1,QJ,ai,hg,FC i];refine rW ?_;refine dw (ak (WO ⟨aI,aI⟩) (dR mg ?_))
    try simp only[w0]
    refine dw (dB mg ?_)
    try simp only[w1]
    refine dw (dB mg ?_)
    try simp only[w2]
    refine dw (dB mg ?_)
    try simp only[w3]
    refine dw (ak (WO ⟨aI,aI⟩) (dR mg ?_))
    try simp only[w4]
    refine dw (ak g5 (rX ?_));refine dw (ak g6 (rX ?_));exact e9
 refine aN ?_;simp only[G.l9];have:=L l.length 0 aI;simpa[JM]using this
def II (x:bn):Nat:=1+1+x.yL.length+x.uN.length+TP x.Body+MB x.MH
noncomputable def SI (x:bn)(k:Int):bn:=bn.mk (k+((0:Nat):Int)) (tx (k+((1:Nat):Int))) (MC x.yL (k+((1+1:Nat):Int))) (MC x.uN (k+((1+1+x.yL.length:Nat):Int))) (OB x.Body (k+((1+1+x.yL.length+x.uN.length:Nat):Int))).1 (XY x.MH (k+((1+1+x.yL.length+x.uN.length+TP x.Body:Nat):Int)))
noncomputable abbrev adr : List bn->Int->List bn:=mkL SI II
abbrev DZ : List bn->Nat:=JM II
abbrev MO (fS fN fP:Nat):List MA:=[.int 0,.str 1,.sub 2 fS,.sub 3 fS,.int 4,.int 5,.str 6,.sub 7 fS,.sub 8 fN,.sub 9 fP]
theorem aa1 {mt:FP}{fS fN tS tN fP tP:Nat}(M:MT mt fS fN tS tN)(hP:mt fP=some (tP,8,VX fS fN))(x:bn){k:Int}(h0:0<=k)(h1:k+(II x:Nat)<4611686018427387904):CX mt tx (.E (MO fS fN fP) x.cells k (SI x k).cells (k+(II x:Nat))):=by
 unfold II at *;have alW:=GL x.Body;obtain⟨K1,e1⟩:∃z:Int,z=k+((1:Nat):Int):=⟨_,rfl⟩;obtain⟨K2,e2⟩:∃z:Int,z=K1+((1:Nat):Int):=⟨_,rfl⟩;obtain⟨K3,e3⟩:∃z:Int,z=K2+(x.yL.length:Int):=⟨_,rfl⟩;obtain⟨K4,e4⟩:∃z:Int,z=K3+(x.uN.length:Int):=⟨_,rfl⟩;obtain⟨K5,e5⟩:∃z:Int,z=K4+((1:Nat):Int):=⟨_,rfl⟩;obtain⟨K6,e6⟩:∃z:Int,z=K5+((1:Nat):Int):=⟨_,rfl⟩;obtain⟨K7,e7⟩:∃z:Int,z=K6+((1:Nat):Int):=⟨_,rfl⟩;obtain⟨K8,e8⟩:∃z:Int,z=K7+(x.Body.aO.length:Int):=⟨_,rfl⟩;obtain⟨K9,e9⟩:∃z:Int,z=K8+((yA x.Body.aP:Nat):Int):=⟨_,rfl⟩;obtain⟨K10,e10⟩:∃z:Int,z=K9+((MB x.MH:Nat):Int):=⟨_,rfl⟩;have eL:k+((1+1+x.yL.length+x.uN.length+TP x.Body+MB x.MH:Nat):Int)=K10:=by omega
 have o0:k+((0:Nat):Int)=k:=by omega
 have o1:k+((1:Nat):Int)=K1:=by omega
 have o2:k+((1+1:Nat):Int)=K2:=by omega
 have o3:k+((1+1+x.yL.length:Nat):Int)=K3:=by omega
 have o4:k+((1+1+x.yL.length+x.uN.length:Nat):Int)=K4:=by omega
 have o5:k+((1+1+x.yL.length+x.uN.length+TP x.Body:Nat):Int)=K9:=by omega
 rw[eL];rw[bn.iG,bn.iG];unfold SI;simp only[Lp,o0,o1,o2,o3,o4,o5];have i0:K4+1=K5:=by omega
 have i1:K4+2=K6:=by omega
 have i2:K7+(x.Body.aO.length:Int)=K8:=by omega
 have i3:K4+3=K7:=by omega
 simp only[i0,i1,i2,i3];refine CX.ei' (k1:=K1) ⟨aI,aI⟩ ⟨aI,aI⟩ aI mg ?_;refine CX.es' (k1:=K2) ⟨aI,aI⟩ ⟨aI,aI⟩ aI mg ?_;refine CX.ef (k1:=K3) (c:=.sl 1 (x.yL.map cS)) mg ((Iy M x.yL aI aI).to aI) ?_;refine CX.ef (k1:=K4) (c:=.sl 1 (x.uN.map cS)) mg ((Iy M x.uN aI aI).to aI) ?_;refine CX.ei' (k1:=K5) ⟨aI,aI⟩ ⟨aI,aI⟩ aI mg ?_;refine CX.ei' (k1:=K6) ⟨aI,aI⟩ ⟨aI,aI⟩ aI mg ?_;refine CX.es' (k1:=K7) ⟨aI,aI⟩ ⟨aI,aI⟩ aI mg ?_;refine CX.ef (k1:=K8) (c:=.sl 1 (x.Body.aO.map cS)) mg ((Iy M x.Body.aO aI aI).to aI) ?_;refine CX.ef (k1:=K9) (c:=.sl 5 (x.Body.aP.map aj.cells)) mg ((VS M x.Body.aP aI aI).to (by rw[Oh];omega)) ?_;refine CX.ef (k1:=K10) (c:=.sl 8 (x.MH.map uO.cells)) mg ((am1 M hP x.MH aI aI).to aI) ?_;simpa using CX.e0
theorem adq {mt:FP}{fS fN tS tN fP tP tX fX:Nat}(M:MT mt fS fN tS tN)(hP:mt fP=some (tP,8,VX fS fN))(hX:mt fX=some (tX,10,MO fS fN fP))(l:List bn){k:Int}(h0:0<=k)(h1:k+(DZ l:Nat)<4611686018427387904):CX mt tx (.C fX (.sl 10 (l.map bn.cells)) k (.sl 10 ((adr l k).map bn.cells)) (k+(DZ l:Nat))):=
 .c hX ⟨h0,aI⟩ (aeJ (λx _ a b=>aa1 M hP x a b) l h0 h1)
theorem acO {P:Program}{tS tN tP:Nat}(H:TyH P tS tN tP)(x:bn)(a b c d e:Nat)(j sz:Nat)(es:List (List Cell))(h:x.cells[j]? = some (.sl sz es)):∃r,r∈[(2,tS,a),(3,tS,b),(7,tS,c),(8,tN,d),(9,tP,e)]/\r.1=j/\N7 P r.2.1 (.sl sz es):=by
 rw[bn.iG]at h
 match j,h with
 | 2,h=>simp only[eX,eY,aH,Cell.sl.injEq]at h;obtain⟨rfl,rfl⟩:=h;exact⟨(2,tS,a),mg,rfl,Gg H.s _⟩
 | 3,h=>simp only[eX,eY,aH,Cell.sl.injEq]at h;obtain⟨rfl,rfl⟩:=h;exact⟨(3,tS,b),mg,rfl,Gg H.s _⟩
 | 7,h=>simp only[eX,eY,aH,Cell.sl.injEq]at h;obtain⟨rfl,rfl⟩:=h;exact⟨(7,tS,c),mg,rfl,Gg H.s _⟩
 | 8,h=>simp only[eX,eY,aH,Cell.sl.injEq]at h;obtain⟨rfl,rfl⟩:=h;exact⟨(8,tN,d),mg,rfl,IL H.s H.n H.rn _⟩
 | 9,h=>simp only[eX,eY,aH,Cell.sl.injEq]at h;obtain⟨rfl,rfl⟩:=h;exact⟨(9,tP,e),mg,rfl,alu H.s H.n H.rn H.p H.rp _⟩
 |0,h=>simp at h
 |1,h=>simp at h
 |4,h=>simp at h
 |5,h=>simp at h
 |6,h=>simp at h
 |j+10,h=>simp at h
theorem ZM {P:Program}{tS tN tP tX:Nat}(H:TyH P tS tN tP)(h4:xP P tX=10)(h5:oD P tX=[(2,tS),(3,tS),(7,tS),(8,tN),(9,tP)])(l:List bn):N7 P tX (.sl 10 (l.map bn.cells)):=by refine ajI (fn:=λj=>(if j=9 then tP else(if j=8 then tN else tS))) h4 (λo j sz' es' h=>?_) l;obtain⟨r,hr,rfl,ht⟩:=acO H o 0 0 0 0 0 j sz' es' h;simp only[aK,iV,or_false]at hr;rcases hr with rfl|rfl|rfl|rfl|rfl<;>exact⟨by simp[h5],by simpa using ht⟩
def uX (x:bJ):Nat:=1+1+1+TP x.Body
noncomputable def D5 (x:bJ)(k:Int):bJ:=bJ.mk (k+((0:Nat):Int)) (tx (k+((1:Nat):Int))) (k+((1+1:Nat):Int)) (OB x.Body (k+((1+1+1:Nat):Int))).1
noncomputable abbrev Jz : List bJ->Int->List bJ:=mkL D5 uX
abbrev Ak : List bJ->Nat:=JM uX
abbrev KU (fS fN:Nat):List MA:=[.int 0,.str 1,.int 2,.int 3,.int 4,.str 5,.sub 6 fS,.sub 7 fN]
theorem Y9 {mt:FP}{fS fN tS tN:Nat}(M:MT mt fS fN tS tN)(x:bJ){k:Int}(h0:0<=k)(h1:k+(uX x:Nat)<4611686018427387904):CX mt tx (.E (KU fS fN) x.cells k (D5 x k).cells (k+(uX x:Nat))):=by
 unfold uX at *;have alW:=GL x.Body;obtain⟨K1,e1⟩:∃z:Int,z=k+((1:Nat):Int):=⟨_,rfl⟩;obtain⟨K2,e2⟩:∃z:Int,z=K1+((1:Nat):Int):=⟨_,rfl⟩;obtain⟨K3,e3⟩:∃z:Int,z=K2+((1:Nat):Int):=⟨_,rfl⟩;obtain⟨K4,e4⟩:∃z:Int,z=K3+((1:Nat):Int):=⟨_,rfl⟩;obtain⟨K5,e5⟩:∃z:Int,z=K4+((1:Nat):Int):=⟨_,rfl⟩;obtain⟨K6,e6⟩:∃z:Int,z=K5+((1:Nat):Int):=⟨_,rfl⟩;obtain⟨K7,e7⟩:∃z:Int,z=K6+(x.Body.aO.length:Int):=⟨_,rfl⟩;obtain⟨K8,e8⟩:∃z:Int,z=K7+((yA x.Body.aP:Nat):Int):=⟨_,rfl⟩;have eL:k+((1+1+1+TP x.Body:Nat):Int)=K8:=by omega
 have o0:k+((0:Nat):Int)=k:=by omega
 have o1:k+((1:Nat):Int)=K1:=by omega
 have o2:k+((1+1:Nat):Int)=K2:=by omega
 have o3:k+((1+1+1:Nat):Int)=K3:=by omega
 rw[eL];rw[bJ.iG,bJ.iG];unfold D5;simp only[Lp,o0,o1,o2,o3];have i0:K3+1=K4:=by omega
 have i1:K3+2=K5:=by omega
 have i2:K6+(x.Body.aO.length:Int)=K7:=by omega
 have i3:K3+3=K6:=by omega
 simp only[i0,i1,i2,i3];refine CX.ei' (k1:=K1) ⟨aI,aI⟩ ⟨aI,aI⟩ aI mg ?_;refine CX.es' (k1:=K2) ⟨aI,aI⟩ ⟨aI,aI⟩ aI mg ?_;refine CX.ei' (k1:=K3) ⟨aI,aI⟩ ⟨aI,aI⟩ aI mg ?_;refine CX.ei' (k1:=K4) ⟨aI,aI⟩ ⟨aI,aI⟩ aI mg ?_;refine CX.ei' (k1:=K5) ⟨aI,aI⟩ ⟨aI,aI⟩ aI mg ?_;refine CX.es' (k1:=K6) ⟨aI,aI⟩ ⟨aI,aI⟩ aI mg ?_;refine CX.ef (k1:=K7) (c:=.sl 1 (x.Body.aO.map cS)) mg ((Iy M x.Body.aO aI aI).to aI) ?_;refine CX.ef (k1:=K8) (c:=.sl 5 (x.Body.aP.map aj.cells)) mg ((VS M x.Body.aP aI aI).to (by rw[Oh];omega)) ?_;simpa using CX.e0
theorem aa2 {mt:FP}{fS fN tS tN tX fX:Nat}(M:MT mt fS fN tS tN)(hX:mt fX=some (tX,8,KU fS fN))(l:List bJ){k:Int}(h0:0<=k)(h1:k+(Ak l:Nat)<4611686018427387904):CX mt tx (.C fX (.sl 8 (l.map bJ.cells)) k (.sl 8 ((Jz l k).map bJ.cells)) (k+(Ak l:Nat))):=
 .c hX ⟨h0,aI⟩ (aeJ (λx _ a b=>Y9 M x a b) l h0 h1)
theorem aat {P:Program}{tS tN tP:Nat}(H:TyH P tS tN tP)(x:bJ)(a b:Nat)(j sz:Nat)(es:List (List Cell))(h:x.cells[j]? = some (.sl sz es)):∃r,r∈[(6,tS,a),(7,tN,b)]/\r.1=j/\N7 P r.2.1 (.sl sz es):=by
 rw[bJ.iG]at h
 match j,h with
 | 6,h=>simp only[eX,eY,aH,Cell.sl.injEq]at h;obtain⟨rfl,rfl⟩:=h;exact⟨(6,tS,a),mg,rfl,Gg H.s _⟩
 | 7,h=>simp only[eX,eY,aH,Cell.sl.injEq]at h;obtain⟨rfl,rfl⟩:=h;exact⟨(7,tN,b),mg,rfl,IL H.s H.n H.rn _⟩
 |0,h=>simp at h
 |1,h=>simp at h
 |2,h=>simp at h
 |3,h=>simp at h
 |4,h=>simp at h
 |5,h=>simp at h
 |j+8,h=>simp at h
theorem Xp {P:Program}{tS tN tP tX:Nat}(H:TyH P tS tN tP)(h4:xP P tX=8)(h5:oD P tX=[(6,tS),(7,tN)])(l:List bJ):N7 P tX (.sl 8 (l.map bJ.cells)):=by refine ajI (fn:=λj=>(if j=7 then tN else tS)) h4 (λo j sz' es' h=>?_) l;obtain⟨r,hr,rfl,ht⟩:=aat H o 0 0 j sz' es' h;simp only[aK,iV,or_false]at hr;rcases hr with rfl|rfl<;>exact⟨by simp[h5],by simpa using ht⟩
theorem T.Xc (l:List bJ){k:Int}(h0:0<=k)(h1:k+(JM uX l:Nat)<4611686018427387904)(hlen:l.length<4611686018427387904):Ev (λf=>G.jD f (mkL D5 uX l k) k) (k+(JM uX l:Nat)):=by
 have L:∀(m i:Nat),i+m=l.length->Ev (λf=>G.jD.L1 f (mkL D5 uX l k) (k+(JM uX (l.take i):Nat)) i) (k+(JM uX l:Nat)):=by
  intro m
  induction m with
  | zero=>intro i hi;refine aN ?_;simp only[G.jD.L1,QJ];exact rX (aQ (by rw[bz aI]))
  | succ m ih=>
    intro i hi;have hil:i<l.length:=(by omega);have hs:=VP uX l hil;have hle:=adp uX l (i+1);have hg:=Y7 D5 uX l k hil;generalize hq:l.getD i default=q at hs hg;rw[show uX q=1+1+1+TP q.Body from rfl]at hs;obtain⟨K0,e0⟩:∃z:Int,z=k+(JM uX (l.take i):Nat):=⟨_,rfl⟩;rw[<- e0]at hg;have alW:=GL q.Body;obtain⟨K1,e1⟩:∃z:Int,z=K0+((1:Nat):Int):=⟨_,rfl⟩;obtain⟨K2,e2⟩:∃z:Int,z=K1+((1:Nat):Int):=⟨_,rfl⟩;obtain⟨K3,e3⟩:∃z:Int,z=K2+((1:Nat):Int):=⟨_,rfl⟩;obtain⟨K4,e4⟩:∃z:Int,z=K3+((1:Nat):Int):=⟨_,rfl⟩;obtain⟨K5,e5⟩:∃z:Int,z=K4+((1:Nat):Int):=⟨_,rfl⟩;obtain⟨K6,e6⟩:∃z:Int,z=K5+((1:Nat):Int):=⟨_,rfl⟩;obtain⟨K7,e7⟩:∃z:Int,z=K6+(q.Body.aO.length:Int):=⟨_,rfl⟩;obtain⟨K8,e8⟩:∃z:Int,z=K7+((yA q.Body.aP:Nat):Int):=⟨_,rfl⟩;have o0:K0+((0:Nat):Int)=K0:=(by omega);have o1:K0+((1:Nat):Int)=K1:=(by omega);have o2:K0+((1+1:Nat):Int)=K2:=(by omega);have o3:K0+((1+1+1:Nat):Int)=K3:=(by omega);have i0:K3+1=K4:=(by omega);have i1:K3+2=K5:=(by omega);have i2:K6+(q.Body.aO.length:Int)=K7:=(by omega);have i3:K3+3=K6:=(by omega);generalize hz:D5 q K0=z at hg;unfold D5 at hz;simp only[Lp,o0,o1,o2,o3]at hz;simp only[i0,i1,i2,i3]at hz;subst hz;have w0:af .i64 (K0+1)=K1:=(by rw[C9 aI aI];omega);have w1:af .i64 (K1+1)=K2:=(by rw[C9 aI aI];omega);have w2:af .i64 (K2+1)=K3:=(by rw[C9 aI aI];omega);have w3:af .i64 (K3+1)=K4:=(by rw[C9 aI aI];omega);have w4:af .i64 (K4+1)=K5:=(by rw[C9 aI aI];omega);have w5:af .i64 (K5+1)=K6:=(by rw[C9 aI aI];omega);have g6:=(T.VJ (l:=q.Body.aO) (k:=K6) aI aI).eq (show _=K7 by omega);have g7:=(T.XL q.Body.aP (k:=K7) aI aI).eq (show _=K8 by omega);have e9:=ih (i+1) aI;have e8:k+((JM uX (l.take (i+1)):Nat):Int)=K8:=(by omega);rw[e8]at e9;rw[<- e0];refine aN ?_;simp only[G.jD.L1,QJ,ai,hg,FC i];refine rW ?_;refine dw (dB mg ?_)
    try simp only[w0]
    refine dw (ak (WO ⟨aI,aI⟩) (dR mg ?_))
    try simp only[w1]
    refine dw (dB mg ?_)
    try simp only[w2]
    refine dw (dB mg ?_)
    try simp only[w3]
    refine dw (dB mg ?_)
    try simp only[w4]
    refine dw (ak (WO ⟨aI,aI⟩) (dR mg ?_))
    try simp only[w5]
    refine dw (ak g6 (rX ?_));refine dw (ak g7 (rX ?_));exact e9
 refine aN ?_;simp only[G.jD];have:=L l.length 0 aI;simpa[JM]using this
section
variable {mt:FP} {sb:acf} {fS fN tS tN fP tP fI tI fM:Nat} {ty:Nat->Nat}
noncomputable def ads (s:bP)(k:Int):bP:=bP.mk (aeI s.bH k) s.kZ
theorem abG (M:MT mt fS fN tS tN)(hI:mt fI=some (tI,7,Qa fS fN))(h0':ty 0=tI)(s:bP){k:Int}(h0:0<=k)(h1:k+(yV s.bH:Nat)<4611686018427387904):SR mt sb tx ty [.sl 0 fI] s.cells k (ads s k).cells (k+(yV s.bH:Nat)):=by have e1:=akZ M hI s.bH h0 h1;rw[bP.iG,bP.iG];refine .sl (c:=.sl 7 (s.bH.map fB.cells)) rfl ⟨_,_,by rw[h0'];exact hI⟩ e1 ?_;simpa[ads]using SR.nil
end
theorem aau {P:Program}{tS tN tP tI:Nat}(H:TyH P tS tN tP)(h4:xP P tI=7)(h5:oD P tI=[(5,tS),(6,tN)])(x:bP)(a:Nat)(j sz:Nat)(es:List (List Cell))(h:x.cells[j]? = some (.sl sz es)):∃r,r∈[(0,tI,a)]/\r.1=j/\N7 P r.2.1 (.sl sz es):=by
 rw[bP.iG]at h
 match j,h with
 | 0,h=>simp only[eY,aH,Cell.sl.injEq]at h;obtain⟨rfl,rfl⟩:=h;exact⟨(0,tI,a),mg,rfl,agY H h4 h5 _⟩
 |1,h=>simp at h
 |j+2,h=>simp at h
theorem T.af4 (s:bP){k:Int}(h0:0<=k)(h1:k+(yV s.bH:Nat)<4611686018427387904)(hl:s.bH.length<4611686018427387904):Ev (λf=>G.vH f (ads s k) k) (k+(yV s.bH:Nat)):=by refine aN ?_;simp only[G.vH,ads];exact ak (T.af2 s.bH h0 h1 hl) (rX (bK _))
end
section
def okN (b:UInt8):Bool:=(decide (97<=b.toNat)&&decide (b.toNat<=122))||(decide (48<=b.toNat)&&decide (b.toNat<=57))
def NmV (s:fD):Bool:=s.all okN&&(decide (1<=s.length)&&decide (s.length<=8))
def ItV (c:Int)(it:fB):Bool:=NmV it.iC&&(Val it.pR&&(decide (1<=it.mW)&&decide (it.mW<=c)))
def Dw (l:List fB):List fD:=l.map λit=>it.iC
def JU (s:bP):Bool:=(s.bH.all (ItV s.kZ)&&Asc (Dw s.bH))&&(decide (s.bH.length<=10)&&(decide (0<=s.kZ)&&decide (s.kZ<=999)))
structure Hz (B:Nat)(s:bP):Prop where
 len:s.bH.length<=B
 TQ:∀it,it∈s.bH->it.iC.length<=B
 X6:∀it,it∈s.bH->ZX B it.pR
theorem CB {l:List fB} : (Dw l).length=l.length:=by unfold Dw;rw[List.length_map]
theorem JP {l:List fB}{i:Nat}(h:i<l.length):(Dw l).getD i default=(l.getD i default).iC:=by rw[iD _ (by rw[CB];exact h),iD _ h];unfold Dw;rw[List.getElem_map]
theorem aai {l:List fD}{i:Nat}(h0:0<i)(h:i<l.length):Asc (l.drop (i-1))=(bl (l.getD (i-1) default) (l.getD i default)&&Asc (l.drop i)):=by rw[drop_pred h0 h,Asc,gm (default:fD) h]
theorem aef {l:List fD}{i:Nat}(h:l.length<=i):Asc (l.drop (i-1))=true:=by
 by_cases h0:l.length<=i-1
 ·rw[ay h0];rfl
 ·rw[gm (default:fD) (by omega:i-1<l.length),ay aI];rfl
theorem T.jB.L1 (s:fD)(hs:s.length<big):∀(k i:Nat),i+k=s.length->Ev (λf=>G.jB.L1 f s i) ((s.drop i).all okN&&(decide (1<=s.length)&&decide (s.length<=8))):=by
 unfold big at hs;intro k
 induction k with
 | zero=>
   intro i hi;refine aN ?_;simp only[G.jB.L1];refine rX (ak (T.iP _ _ _) (aQ ?_));rw[ay aI,zY,dS]
   congr 1<;>(apply decide_eq_decide.2;omega)
 | succ k ih=>
   intro i hi;refine aN ?_;simp only[G.jB.L1,ai,Ko,FC i];rw[gm (0:UInt8) (by omega:i<s.length),fZ];have e1:(decide ((97:Int)<=((s.getD i 0).toNat:Int))&&decide (((s.getD i 0).toNat:Int)<=122))=(decide (97<=(s.getD i 0).toNat)&&decide ((s.getD i 0).toNat<=122)):=(by congr 1<;>(apply decide_eq_decide.2;omega));have e2:(decide ((48:Int)<=((s.getD i 0).toNat:Int))&&decide (((s.getD i 0).toNat:Int)<=57))=(decide (48<=(s.getD i 0).toNat)&&decide ((s.getD i 0).toNat<=57)):=(by congr 1<;>(apply decide_eq_decide.2;omega));refine rW (dw (ak (T.iP _ _ _) ?_));rw[e1];refine dh (λh=>?_) (λh=>?_)
   ·refine(ih (i+1) aI).eq ?_;unfold okN;rw[show(decide (97<=(s.getD i 0).toNat)&&decide ((s.getD i 0).toNat<=122))=true from h,zX,dS]
   ·refine dw (ak (T.iP _ _ _) ?_);rw[e2];refine dh (λh2=>?_) (λh2=>aQ ?_)
    ·refine(ih (i+1) aI).eq ?_;unfold okN;rw[show(decide (48<=(s.getD i 0).toNat)&&decide ((s.getD i 0).toNat<=57))=true from h2,yt,dS]
    ·unfold okN;rw[show(decide (97<=(s.getD i 0).toNat)&&decide ((s.getD i 0).toNat<=122))=false from h,show(decide (48<=(s.getD i 0).toNat)&&decide ((s.getD i 0).toNat<=57))=false from h2];rfl
theorem T.jB (s:fD)(hs:s.length<big):Ev (λf=>G.jB f s) (NmV s):=by refine aN ?_;simp only[G.jB];exact T.jB.L1 s hs s.length 0 aI
theorem T.kR.L1 (s:fD)(hs:s.length<big):∀(k i:Nat),i+k=s.length->Ev (λf=>G.kR.L1 f s i) ((s.drop i).all okN):=by
 unfold big at hs;intro k
 induction k with
 | zero=>intro i hi;refine aN ?_;simp only[G.kR.L1];refine rX (aQ ?_);rw[ay aI];rfl
 | succ k ih=>
   intro i hi;refine aN ?_;simp only[G.kR.L1,ai,FC i];rw[gm (0:UInt8) (by omega:i<s.length),fZ];have yes:okN (s.getD i 0)=true->Ev (λf=>G.kR.L1 f s ((i+1:Nat):Int)) (okN (s.getD i 0)&&(s.drop (i+1)).all okN):=λh=>(ih (i+1) aI).eq (by rw[h];rfl);have no:okN (s.getD i 0)=false->Ev (λ_=>some false) (okN (s.getD i 0)&&(s.drop (i+1)).all okN):=λh=>aQ (by rw[h];rfl);have ok:okN (s.getD i 0)=decide ((97<=(s.getD i 0).toNat/\(s.getD i 0).toNat<=122)\/(48<=(s.getD i 0).toNat/\(s.getD i 0).toNat<=57)):=(by unfold okN;simp);refine rW (dw ?_);refine dh (λh=>?_) (λh=>?_)
   ·simp only[aF]at h;refine dw (dh (λh2=>?_) (λh2=>?_))
    ·simp only[aF]at h2;exact no (by rw[ok];exact bg aI)
    ·simp only[dn]at h2;refine dw (dh (λh3=>?_) (λh3=>?_))
     ·simp only[aF]at h3;exact no (by rw[ok];exact bg aI)
     ·simp only[dn]at h3;exact yes (by rw[ok];exact dW aI)
   ·simp only[dn]at h;refine dw (dh (λh2=>?_) (λh2=>?_))
    ·simp only[aF]at h2;refine dw (rX (dw (rW ?_)));exact no (by rw[ok];exact bg aI)
    ·simp only[dn]at h2;exact yes (by rw[ok];exact dW aI)
theorem T.kR (s:fD)(hs:s.length<big):Ev (λf=>G.kR f s) (NmV s):=by
 refine aN ?_;simp only[G.kR];unfold NmV;refine dh (λh=>aQ ?_) (λh=>dh (λh2=>aQ ?_) (λh2=>?_))
 ·have:s=[]:=by simpa using h
  subst this;rfl
 ·simp only[aF]at h2;rw[bg (show ¬s.length<=8 by omega),rP,rP]
 ·simp only[dn]at h2;have hne:s≠[]:=by simpa using h
  have hl:1<=s.length:=by cases s with
   |nil=>exact eF rfl hne
   |cons _ _=>simp
  refine(T.kR.L1 s hs s.length 0 aI).eq ?_;rw[dW hl,dW (show s.length<=8 by omega),dM];simp
def al9 (B:Nat)(n:aj):Prop:=∃D,Ar B D n
structure WZ (B:Nat)(s:bP):Prop where
 len:s.bH.length<=B
 TQ:∀it,it∈s.bH->it.iC.length<=B
 X6:∀it,it∈s.bH->al9 B it.pR
theorem WZ.at_ {B:Nat}{s:bP}(h:WZ B s){i:Nat}(hi:i<s.bH.length):(s.bH.getD i default).iC.length<=B/\al9 B (s.bH.getD i default).pR:=
 ⟨h.TQ _ (getD_mem default hi),h.X6 _ (getD_mem default hi)⟩
section
variable {B:Nat} {s:bP} (hB:B<=lim) (h:WZ B s)
include hB h
theorem T0.gX.L1 : ∀(k i:Nat),i+k=s.bH.length->Ev (λf=>G.gX.L1 f s i) (((s.bH.drop i).all (ItV s.kZ)&&Asc ((Dw s.bH).drop (i-1)))&&(decide (s.bH.length<=10)&&(decide (0<=s.kZ)&&decide (s.kZ<=999)))):=by
 have hl:=h.len;unfold lim at hB;intro k
 induction k with
 | zero=>
   intro i hi;refine aN ?_;simp only[G.gX.L1];rw[ay aI,aef (by rw[CB];omega)];refine rX (dh (λe=>?_) (λe=>aQ ?_))
   ·refine ak (T.iP _ _ _) (aQ ?_);rw[dW (show s.bH.length<=10 by simp only[aF]at e;omega)];simp
   ·rw[bg (show ¬s.bH.length<=10 by simp only[dn]at e;omega)];simp
 | succ k ih=>
   intro i hi;have hil:i<s.bH.length:=(by omega);obtain⟨hn,⟨D,hd⟩⟩:=h.at_ hil;refine aN ?_;simp only[G.gX.L1,ai,FC i];rw[gm (default:fB) hil,fZ];refine rW (dw ?_);unfold ItV;refine ak (T.jB _ (by unfold big;omega)) (dh (λe1=>?_) (λe1=>aQ (by rw[e1];simp)));refine ak (T0.iI (by unfold lim;omega) hd) (dh (λe2=>?_) (λe2=>aQ (by rw[e2];simp)));refine ak (T.iP _ _ _) (dh (λe3=>?_) (λe3=>aQ (by rw[e3];simp)));rw[e1,e2,e3];have ih':=ih (i+1) aI;unfold ItV at ih';rw[jI]at ih';by_cases h0:0<i
   ·have e:af .i64 ((i:Int)-1)=((i-1:Nat):Int):=wrapN aI aI;rw[e,ai];rw[aai h0 (by rw[CB];exact hil),JP hil,JP (by omega:i-1<s.bH.length)];refine rW (dw (dh (λh1=>aQ ?_) (λh1=>dh (λh2=>aQ ?_) (λh2=>?_))))
    ·rw[show bl (s.bH.getD (i-1) default).iC (s.bH.getD i default).iC=false from U6 h1];simp
    ·rw[aZ]at h2;rw[show bl (s.bH.getD (i-1) default).iC (s.bH.getD i default).iC=false by rw[h2];exact RD _];simp
    ·have hb:bl (s.bH.getD (i-1) default).iC (s.bH.getD i default).iC=true:=by
      cases hb:bl (s.bH.getD (i-1) default).iC (s.bH.getD i default).iC with
      |true=>rfl
      |false=>rw[Pg h1 hb]at h2;simp at h2
     rw[hb];exact ih'.eq mg
   ·have:i=0:=(by omega);subst this;exact dB xB (ih'.eq mg)
theorem T0.gX : Ev (λf=>G.gX f s) (JU s):=by refine aN ?_;simp only[G.gX];exact T0.gX.L1 hB h s.bH.length 0 aI
theorem T0.dY.L1 : ∀(k i:Nat),i+k=s.bH.length->Ev (λf=>G.dY.L1 f s i) ((s.bH.drop i).all (ItV s.kZ)&&Asc ((Dw s.bH).drop (i-1))):=by
 have hl:=h.len;unfold lim at hB;intro k
 induction k with
 | zero=>intro i hi;refine aN ?_;simp only[G.dY.L1];rw[ay aI,aef (by rw[CB];omega)];exact rX (bK _)
 | succ k ih=>
   intro i hi;have hil:i<s.bH.length:=(by omega);obtain⟨hn,⟨D,hd⟩⟩:=h.at_ hil;refine aN ?_;simp only[G.dY.L1,ai,FC i];rw[gm (default:fB) hil,fZ];have ih':=ih (i+1) aI;rw[jI]at ih';refine rW (dw ?_);refine ak (T.kR _ (by unfold big;omega)) (dh (λe1=>?_) (λe1=>aQ (by unfold ItV;rw[e1];simp)));have tail:∀q:Bool,(q=true->Asc ((Dw s.bH).drop (i-1))=Asc ((Dw s.bH).drop i))->q=true->Ev (λf=>cond (decide ((s.bH.getD i default).mW<1)) (some false) (cond (decide (s.kZ<(s.bH.getD i default).mW)) (some false)
    (mV (G.dm f (s.bH.getD i default).pR) λv=>cond v (G.dY.L1 f s ((i+1:Nat):Int)) (some false)))) (ItV s.kZ (s.bH.getD i default)&&(s.bH.drop (i+1)).all (ItV s.kZ)&&Asc ((Dw s.bH).drop (i-1))):=λq hq hq'=>by
    rw[hq hq'];refine dh (λv1=>aQ ?_) (λv1=>dh (λv2=>aQ ?_) (λv2=>?_))
    ·simp only[aF]at v1;unfold ItV;rw[bg (show ¬ 1<=(s.bH.getD i default).mW by omega)];simp
    ·simp only[aF]at v2;unfold ItV;rw[bg (show ¬(s.bH.getD i default).mW<=s.kZ by omega)];simp
    ·simp only[dn]at v1 v2;refine ak (T0.dm (by unfold lim;omega) hd) (dh (λe2=>?_) (λe2=>aQ (by unfold ItV;rw[e2];simp)));refine ih'.eq ?_;have:ItV s.kZ (s.bH.getD i default)=true:=by
      unfold ItV;rw[e1,e2,dW (show 1<=(s.bH.getD i default).mW by omega),dW (show(s.bH.getD i default).mW<=s.kZ by omega)];rfl
     rw[this];rfl
   by_cases h0:0<i
   ·have e:af .i64 ((i:Int)-1)=((i-1:Nat):Int):=wrapN aI aI;rw[e,ai];have hst:=aai h0 (l:=Dw s.bH) (by rw[CB];exact hil);rw[JP hil,JP (by omega:i-1<s.bH.length)]at hst;refine rW (dw (dh (λh1=>?_) (λh1=>aQ ?_)))
    ·exact tail true (λ_=>by rw[hst,show bl (s.bH.getD (i-1) default).iC (s.bH.getD i default).iC=true from h1];rfl) rfl
    ·rw[hst,show bl (s.bH.getD (i-1) default).iC (s.bH.getD i default).iC=false from h1];simp
   ·have:i=0:=(by omega);subst this;exact dB xB (tail true (λ_=>rfl) rfl)
theorem T0.dY : Ev (λf=>G.dY f s) (JU s):=by
 refine aN ?_;simp only[G.dY];unfold JU;refine dh (λe=>aQ ?_) (λe=>dh (λe2=>aQ ?_) (λe2=>dh (λe3=>aQ ?_) (λe3=>?_)))
 ·rw[bg (show ¬s.bH.length<=10 by simp only[aF]at e;omega)];simp
 ·rw[bg (show ¬ 0<=s.kZ by simp only[aF]at e2;omega)];simp
 ·rw[bg (show ¬s.kZ<=999 by simp only[aF]at e3;omega)];simp
 ·simp only[dn]at e e2 e3;refine(T0.dY.L1 hB h s.bH.length 0 aI).eq ?_;rw[dW (show s.bH.length<=10 by omega),dW (show 0<=s.kZ by omega),dW (show s.kZ<=999 by omega),dM];simp
end
theorem Hz.at_ {B:Nat}{s:bP}(h:Hz B s){i:Nat}(hi:i<s.bH.length):(s.bH.getD i default).iC.length<=B/\ZX B (s.bH.getD i default).pR:=
 ⟨h.TQ _ (getD_mem default hi),h.X6 _ (getD_mem default hi)⟩
theorem Hz.fin {B:Nat}{s:bP}(h:Hz B s):WZ B s:=⟨h.len,h.TQ,λit hi=>let ⟨D,hd⟩:=h.X6 it hi;⟨D,hd.fin0⟩⟩
section
variable {B:Nat} {s:bP} (hB:B<=lim) (h:Hz B s)
include hB h
theorem T.gX : Ev (λf=>G.gX f s) (JU s):=T0.gX hB h.fin
theorem T.dY : Ev (λf=>G.dY f s) (JU s):=T0.dY hB h.fin
theorem T.fO : Ev (λf=>G.fO f s) s:=by
 have hl:=h.len;unfold lim at hB;have L:∀(k i:Nat),i+k=s.bH.length->Ev (λf=>G.fO.L1 f s i (s.bH.take i)) s:=by
  intro k
  induction k with
  | zero=>intro i hi;refine aN ?_;simp only[G.fO.L1];refine rX (aQ ?_);rw[bz aI]
  | succ k ih=>intro i hi;have hil:i<s.bH.length:=(by omega);obtain⟨hn,⟨D,hd⟩⟩:=h.at_ hil;refine aN ?_;simp only[G.fO.L1,ai,FC i];refine rW (dw (dw (dw (ak (T.cO (by unfold lim;omega) hd) (um (by simp;omega) ?_)))));have:=ih (i+1) aI;rw[kC hil,<- iD (default:fB) hil]at this;exact this
 refine aN ?_;simp only[G.fO];exact L s.bH.length 0 aI
theorem T.fA : Ev (λf=>G.fA f s) s:=by
 have hl:=h.len;unfold lim at hB;have L:∀(k i:Nat),i+k=s.bH.length->Ev (λf=>G.fA.L1 f s i (s.bH.take i++bY (s.bH.length-i) (fB.mk [] 0 (aj.mk 0 0 [] [] [])))) s:=by
  intro k
  induction k with
  | zero=>intro i hi;refine aN ?_;simp only[G.fA.L1];refine rX (aQ ?_);rw[bz aI,show s.bH.length-i=0 by omega,List.replicate_zero,mM]
  | succ k ih=>
    intro i hi;have hil:i<s.bH.length:=(by omega);obtain⟨hn,⟨D,hd⟩⟩:=h.at_ hil;have hc:Ev (λf=>G.sD f (s.bH.getD i default)) (s.bH.getD i default):=by refine aN ?_;simp only[G.sD];exact ak (T.bC (by unfold lim;omega) hd) (bK _)
    refine aN ?_;simp only[G.fA.L1,ai,FC i];refine rW (dw (ak hc (um (by simp;omega) ?_)));have hset:(s.bH.take i++bY (s.bH.length-i) (fB.mk [] 0 (aj.mk 0 0 [] [] []))).set i (s.bH.getD i default)=s.bH.take (i+1)++bY (s.bH.length-(i+1)) (fB.mk [] 0 (aj.mk 0 0 [] [] [])):=by obtain⟨q,hq⟩:∃q,s.bH.length-i=q+1:=⟨s.bH.length-i-1,aI⟩;have e1:(s.bH.take i).length=i:=(by simp;omega);rw[hq,List.replicate_succ,List.set_append_right _ _ aI,e1,Nat.sub_self,Jn,show s.bH.length-(i+1)=q by omega,kC hil,iD _ hil,jh];rfl
    rw[hset];exact ih (i+1) aI
 refine aN ?_;simp only[G.fA];refine dh (λe=>?_) (λe=>aQ ?_)
 ·refine dw ?_;have:=L s.bH.length 0 aI;rw[List.take_zero,lC,oP]at this;exact this
 ·have:s.bH=[]:=gQ (by simp only[dn]at e;omega);cases s;simp only at this;subst this;rfl
end
structure StF (s:bP):Prop where
 itm:∀it,it∈s.bH->ItV s.kZ it=true
 Qb:Asc (Dw s.bH)=true
 len:s.bH.length<=10
 lo:0<=s.kZ
 hi:s.kZ<=999
theorem CE {s:bP} : JU s=true<->StF s:=by unfold JU;simp only[ah,aF,bf];exact⟨λ⟨⟨h1,h2⟩,h3,h4,h5⟩=>⟨h1,h2,h3,h4,h5⟩,λh=>⟨⟨h.itm,h.Qb⟩,h.len,h.lo,h.hi⟩⟩
structure ItF (c:Int)(it:fB):Prop where
 TQ:NmV it.iC=true
 X6:Val it.pR=true
 lo:1<=it.mW
 hi:it.mW<=c
theorem Sz {c:Int}{it:fB} : ItV c it=true<->ItF c it:=by unfold ItV;simp only[ah,aF];exact⟨λ⟨h1,h2,h3,h4⟩=>⟨h1,h2,h3,h4⟩,λh=>⟨h.TQ,h.X6,h.lo,h.hi⟩⟩
theorem VV {s:fD}(h:NmV s=true):1<=s.length/\s.length<=8:=by unfold NmV at h;simp only[ah,aF]at h;exact h.2
theorem StF.it {s:bP}(h:StF s){i:Nat}(hi:i<s.bH.length):ItF s.kZ (s.bH.getD i default):=Sz.1 (h.itm _ (getD_mem default hi))
theorem StF.fine {s:bP}(h:StF s):Hz 60 s:=
 ⟨by have:=h.len;omega,λit hi=>by have:=(VV (Sz.1 (h.itm it hi)).TQ).2;omega,λit hi=>⟨5,Et (Sz.1 (h.itm it hi)).X6⟩⟩
def agv : bP:=bP.mk [] 0
theorem T.ah3.L1 {l:List fB}(t:fD)(hl:l.length<big)(hA:∀i j,i<j->j<(Dw l).length->bl ((Dw l).getD i default) ((Dw l).getD j default)=true) :
 ∀ (k i j:Nat),j-i<=k->i<=j->j<=l.length->(∀q,q<i->bl ((Dw l).getD q default) t=true)->(∀q,j<=q->q<(Dw l).length->bl ((Dw l).getD q default) t=false) ->
   ∃p:Nat,Ev (λf=>G.aW.L1 f l t i j) ((p:Int),decide (p<l.length)&&(l.getD p default).iC==t)/\LB (Dw l) t p:=by
 unfold big at hl;have cmp:∀i,Ev (λf=>G.sQ f (l.getD i default) t) (jZ (l.getD i default).iC t):=λi=>by
  refine aN ?_;simp only[G.sQ];have h1:Ev (λf=>G.strings_Compare f (l.getD i default).iC t) (jZ (l.getD i default).iC t):=by
   refine aN ?_;simp only[G.strings_Compare];have:Ev (λf=>G.iH f (l.getD i default).iC t) (jZ (l.getD i default).iC t):=by refine aN ?_;simp only[G.iH];exact bK _
   exact ak this (bK _)
  exact ak h1 (bK _)
 have neg:∀x y:fD,decide (jZ x y<0)=bl x y:=λx y=>by
  rw[aml];cases h:bl x y with
  |true=>rw[aA rfl];rfl
  |false=>rw[au mg];by_cases e:x=y<;>simp[e]
 have eqz:∀x y:fD,(jZ x y==0)=(x==y):=λx y=>by rw[tJ,aZ,aZ];exact XG
 intro k
 induction k with
 | zero=>
   intro i j hk hij hj hlo hhi;have:i=j:=(by omega);subst this;refine⟨i,aN ?_,by rw[CB];exact hj,hlo,hhi⟩;simp only[G.aW.L1,ai];refine dB mg (dh (λe=>?_) (λe=>aQ ?_))
   ·have e':i<l.length:=(by simpa using e);refine dw (ak (cmp i) (aQ ?_));rw[eqz,dW e',dS]
   ·have d1:decide (i<l.length)=false:=(by simpa using e);rw[d1];rfl
 | succ k ih=>
   intro i j hk hij hj hlo hhi;by_cases he:i=j
   ·exact ih i j aI hij hj hlo hhi
   have h1:(i+j)/2<j:=(by omega);have h2:i<=(i+j)/2:=(by omega);have hat:=JP (l:=l) (i:=(i+j)/2) aI;cases hc:bl ((Dw l).getD ((i+j)/2) default) t with
   | true=>
     obtain⟨p,g,hp⟩:=ih ((i+j)/2+1) j aI aI hj (λq hq=>by
      by_cases hq2:q=(i+j)/2
      ·rw[hq2];exact hc
      ·exact DX (hA q ((i+j)/2) aI (by rw[CB];omega)) hc) hhi
     refine⟨p,aN ?_,hp⟩;simp only[G.aW.L1];refine dR (by simp;omega) ?_;rw[half i j aI,ai];refine dw (ak (cmp _) (dR (by rw[neg,<- hat];exact hc) ?_));rw[tC aI];exact g
   | false=>
     obtain⟨p,g,hp⟩:=ih i ((i+j)/2) aI h2 aI hlo (λq hq hq2=>by
      by_cases hq3:q=(i+j)/2
      ·rw[hq3];exact hc
      ·cases hb:bl ((Dw l).getD q default) t with
       |false=>rfl
       |true=>rw[DX (hA ((i+j)/2) q aI hq2) hb]at hc;cases hc)
     refine⟨p,aN ?_,hp⟩;simp only[G.aW.L1];refine dR (by simp;omega) ?_;rw[half i j aI,ai];refine dw (ak (cmp _) (dB (by rw[neg,<- hat];exact hc) ?_));exact g
theorem T.og {l:List fB}(t:fD)(hl:l.length<big)(hA:Asc (Dw l)=true) :
 ∃p:Nat,Ev (λf=>G.og f l t) ((p:Int),decide (p<l.length)&&(l.getD p default).iC==t)/\LB (Dw l) t p:=by
 obtain⟨p,g,hp⟩:=T.ah3.L1 t hl (Ho hA) l.length 0 l.length aI aI aI (λq hq=>by omega) (λq h1 h2=>by rw[CB]at h2;omega);refine⟨p,aN ?_,hp⟩;simp only[G.og];have g':Ev (λf=>G.aW f l t) ((p:Int),decide (p<l.length)&&(l.getD p default).iC==t):=by refine aN ?_;simp only[G.aW];exact g
 exact ak g' (bK _)
end
section
def okH (b:UInt8):Bool:=(decide (48<=b.toNat)&&decide (b.toNat<=57))||(decide (97<=b.toNat)&&decide (b.toNat<=102))
def W9 (s:fD):Bool:=s.all okH&&decide (s.length=4)
def Z7 (s:fD):Bool:=s==[42]||W9 s
def JY (l:List fD):Bool:=l.all Z7&&decide (l.length<=4)
def hexD : fD:=[48,49,50,51,52,53,54,55,56,57,97,98,99,100,101,102]
theorem akS : ∀n:Nat,n<256->decide (xE hexD (gz n)<0) = !okH (gz n):=by decide +kernel
theorem amG (b:UInt8):decide (xE hexD b<0) = !okH b:=by
 have:=akS b.toNat b.toNat_lt
 rwa[EK]at this
theorem T.lT (s:fD)(hs:s.length<big):Ev (λf=>G.lT f s) (W9 s):=by
 unfold big at hs;have L:∀(k i:Nat),i+k=s.length->Ev (λf=>G.lT.L1 f s i) ((s.drop i).all okH&&decide (s.length=4)):=by
  intro k
  induction k with
  | zero=>intro i hi;refine aN ?_;simp only[G.lT.L1];refine rX (aQ ?_);rw[ay aI,zY,dS,tJ,aZ,aF];omega
  | succ k ih=>
    intro i hi;refine aN ?_;simp only[G.lT.L1,ai,Ko,FC i];rw[gm (0:UInt8) (by omega:i<s.length),fZ];have e1:(decide ((48:Int)<=((s.getD i 0).toNat:Int))&&decide (((s.getD i 0).toNat:Int)<=57))=(decide (48<=(s.getD i 0).toNat)&&decide ((s.getD i 0).toNat<=57)):=(by congr 1<;>(apply decide_eq_decide.2;omega));have e2:(decide ((97:Int)<=((s.getD i 0).toNat:Int))&&decide (((s.getD i 0).toNat:Int)<=102))=(decide (97<=(s.getD i 0).toNat)&&decide ((s.getD i 0).toNat<=102)):=(by congr 1<;>(apply decide_eq_decide.2;omega));refine rW (dw (ak (T.iP _ _ _) ?_));rw[e1];refine dh (λh=>?_) (λh=>?_)
    ·refine(ih (i+1) aI).eq ?_;unfold okH;rw[show(decide (48<=(s.getD i 0).toNat)&&decide ((s.getD i 0).toNat<=57))=true from h,zX,dS]
    ·refine dw (ak (T.iP _ _ _) ?_);rw[e2];refine dh (λh2=>?_) (λh2=>aQ ?_)
     ·refine(ih (i+1) aI).eq ?_;unfold okH;rw[show(decide (97<=(s.getD i 0).toNat)&&decide ((s.getD i 0).toNat<=102))=true from h2,yt,dS]
     ·unfold okH;rw[show(decide (48<=(s.getD i 0).toNat)&&decide ((s.getD i 0).toNat<=57))=false from h,show(decide (97<=(s.getD i 0).toNat)&&decide ((s.getD i 0).toNat<=102))=false from h2];rfl
 refine aN ?_;simp only[G.lT];exact L s.length 0 aI
theorem T.o9 (s:fD)(hs:s.length<big):Ev (λf=>G.o9 f s) (W9 s):=by
 unfold big at hs;have hI:∀b:UInt8,Ev (λf=>G.strings_IndexByte f [48,49,50,51,52,53,54,55,56,57,97,98,99,100,101,102] (b.toNat:Int)) (xE hexD b):=λb=>by refine aN ?_;simp only[G.strings_IndexByte];refine ak (aN ?_) (bK _);simp only[G.jR];refine aQ ?_;rw[ai,show b.toNat.toUInt8=b from EK];rfl
 have L:∀(k i:Nat),i+k=s.length->Ev (λf=>G.o9.L1 f s i) ((s.drop i).all okH):=by
  intro k
  induction k with
  | zero=>intro i hi;refine aN ?_;simp only[G.o9.L1];refine rX (aQ ?_);rw[ay aI];rfl
  | succ k ih=>
    intro i hi;refine aN ?_;simp only[G.o9.L1,ai,FC i];rw[gm (0:UInt8) (by omega:i<s.length),fZ];refine rW (dw (ak (hI _) ?_));rw[amG];refine dh (λh=>aQ ?_) (λh=>(ih (i+1) aI).eq ?_)
    ·have:okH (s.getD i 0)=false:=(by simpa using h);rw[this];rfl
    ·have:okH (s.getD i 0)=true:=(by simpa using h);rw[this];rfl
 refine aN ?_;simp only[G.o9];unfold W9;refine dh (λe=>aQ ?_) (λe=>?_)
 ·have:¬s.length=4:=by
   have:(s.length:Int)≠4:=(by simpa using e);omega
  rw[bg this,rP]
 ·have:s.length=4:=by
   have:(s.length:Int)=4:=(by simpa using e);omega
  exact(L s.length 0 aI).eq (by rw[dW this,rf,dM])
theorem T.kH {l:List fD}(h:Sm l):Ev (λf=>G.kH f l) (JY l):=by
 have hl:=h.1;unfold big at hl;have L:∀(k i:Nat),i+k=l.length->Ev (λf=>G.kH.L1 f l i) ((l.drop i).all Z7&&decide (l.length<=4)):=by
  intro k
  induction k with
  | zero=>intro i hi;refine aN ?_;simp only[G.kH.L1];refine rX (aQ ?_);rw[ay aI,zY,dS];apply decide_eq_decide.2;omega
  | succ k ih=>intro i hi;refine aN ?_;simp only[G.kH.L1,ai,FC i];rw[gm (default:fD) (by omega:i<l.length),fZ];unfold Z7;refine rW (dw (dh (λe=>(ih (i+1) aI).eq (by rw[e];rfl)) (λe=>dw (ak (T.lT _ (h.get aI)) ?_))));exact dh (λe2=>(ih (i+1) aI).eq (by rw[e,e2];rfl)) (λe2=>aQ (by rw[e,e2];rfl))
 refine aN ?_;simp only[G.kH];exact L l.length 0 aI
theorem T.kK {l:List fD}(h:Sm l):Ev (λf=>G.kK f l) (JY l):=by
 have hl:=h.1;unfold big at hl;have L:∀(k i:Nat),i+k=l.length->Ev (λf=>G.kK.L1 f l i) ((l.drop i).all Z7):=by
  intro k
  induction k with
  | zero=>intro i hi;refine aN ?_;simp only[G.kK.L1];refine rX (aQ ?_);rw[ay aI];rfl
  | succ k ih=>intro i hi;refine aN ?_;simp only[G.kK.L1,ai,FC i];rw[gm (default:fD) (by omega:i<l.length),fZ];unfold Z7;refine rW (dw (dh (λe=>(ih (i+1) aI).eq (by rw[e];rfl)) (λe=>ak (T.o9 _ (h.get aI)) ?_)));exact dh (λe2=>(ih (i+1) aI).eq (by rw[e,e2];rfl)) (λe2=>aQ (by rw[e,e2];rfl))
 refine aN ?_;simp only[G.kK];unfold JY;refine dh (λe=>aQ ?_) (λe=>(L l.length 0 aI).eq ?_)
 ·rw[bg (show ¬l.length<=4 by simp only[aF]at e;omega),rP]
 ·rw[dW (show l.length<=4 by simp only[dn]at e;omega),rf,dM]
structure OI (B:Nat)(q:bn):Prop where
 TQ:q.iC.length<=B
 want:FO B q.yL
 avoid:FO B q.uN
 body:ZX B q.Body
 ops:TC q.MH
def ZU (q:bn):Bool:=(decide (1<=q.kQ)&&decide (q.kQ<=5))&&(NmV q.iC&&(JY q.yL&&(JY q.uN&&(Val q.Body&&P5 q.MH))))
structure Ud (B:Nat)(q:bn):Prop where
 TQ:q.iC.length<=B
 want:FO B q.yL
 avoid:FO B q.uN
 body:al9 B q.Body
 ops:afd q.MH
section
variable {B:Nat} {q:bn} (hB:B<=lim) (h:Ud B q)
include hB h
theorem T0.oL : Ev (λf=>G.oL f q) (ZU q):=by obtain⟨E,hb⟩:=h.body;have hn:=h.TQ;unfold lim at hB;refine aN ?_;simp only[G.oL];unfold ZU;refine ak (T.iP _ _ _) (dh (λe1=>?_) (λe1=>aQ (by rw[e1];rfl)));refine ak (T.jB _ (by unfold big;omega)) (dh (λe2=>?_) (λe2=>aQ (by rw[e1,e2];rfl)));refine ak (T.kH (h.want.sm (by unfold lim;omega))) (dh (λe3=>?_) (λe3=>aQ (by rw[e1,e2,e3];rfl)));refine ak (T.kH (h.avoid.sm (by unfold lim;omega))) (dh (λe4=>?_) (λe4=>aQ (by rw[e1,e2,e3,e4];rfl)));refine ak (T0.iI (by unfold lim;omega) hb) (dh (λe5=>?_) (λe5=>aQ (by rw[e1,e2,e3,e4,e5];rfl)));exact ak (T0.iL h.ops) (aQ (by rw[e1,e2,e3,e4,e5];rfl))
theorem T0.l7 : Ev (λf=>G.l7 f q) (ZU q):=by obtain⟨E,hb⟩:=h.body;have hn:=h.TQ;unfold lim at hB;refine aN ?_;simp only[G.l7];unfold ZU;refine dh (λe0=>?_) (λe0=>aQ (by rw[e0];rfl));refine dh (λe1=>?_) (λe1=>aQ (by rw[e0,e1];rfl));refine ak (T.kR _ (by unfold big;omega)) (dh (λe2=>?_) (λe2=>aQ (by rw[e0,e1,e2];rfl)));refine ak (T.kK (h.want.sm (by unfold lim;omega))) (dh (λe3=>?_) (λe3=>aQ (by rw[e0,e1,e2,e3];rfl)));refine ak (T.kK (h.avoid.sm (by unfold lim;omega))) (dh (λe4=>?_) (λe4=>aQ (by rw[e0,e1,e2,e3,e4];rfl)));refine ak (T0.dm (by unfold lim;omega) hb) (dh (λe5=>?_) (λe5=>aQ (by rw[e0,e1,e2,e3,e4,e5];rfl)));exact ak (T0.gZ h.ops) (aQ (by rw[e0,e1,e2,e3,e4,e5];rfl))
end
theorem OI.fin {B:Nat}{q:bn}(h:OI B q):Ud B q:=⟨h.TQ,h.want,h.avoid,let ⟨D,hd⟩:=h.body;⟨D,hd.fin0⟩,h.ops.fin⟩
section
variable {B:Nat} {q:bn} (hB:B<=lim) (h:OI B q)
include hB h
theorem T.l7 : Ev (λf=>G.l7 f q) (ZU q):=T0.l7 hB h.fin
end
def Uc (l:List bn):Bool:=l.all ZU&&decide (l.length<=8)
structure TB (l:List bn):Prop where
 len:l.length<=1000
 req:∀q,q∈l->OI 60 q
theorem TB.at_ {l:List bn}(h:TB l){i:Nat}(hi:i<l.length):OI 60 (l.getD i default):=h.req _ (getD_mem default hi)
structure Yp (l:List bn):Prop where
 len:l.length<=1048576
 req:∀q,q∈l->Ud 1048576 q
theorem Yp.at_ {l:List bn}(h:Yp l){i:Nat}(hi:i<l.length):Ud 1048576 (l.getD i default):=h.req _ (getD_mem default hi)
theorem T0.jl {l:List bn}(h:Yp l):Ev (λf=>G.jl f l) (Uc l):=by
 have hl:=h.len;have L:∀(k i:Nat),i+k=l.length->Ev (λf=>G.jl.L1 f l i) ((l.drop i).all ZU&&decide (l.length<=8)):=by
  intro k
  induction k with
  | zero=>intro i hi;refine aN ?_;simp only[G.jl.L1];refine rX (aQ ?_);rw[ay aI,zY,dS];apply decide_eq_decide.2;omega
  | succ k ih=>intro i hi;refine aN ?_;simp only[G.jl.L1,ai,FC i];rw[gm (default:bn) (by omega:i<l.length),fZ];exact rW (dw (ak (T0.oL I8 (h.at_ aI)) (dh (λe=>(ih (i+1) aI).eq (by rw[e];rfl)) (λe=>aQ (by rw[e];rfl)))))
 refine aN ?_;simp only[G.jl];exact L l.length 0 aI
theorem T0.iZ {l:List bn}(h:Yp l):Ev (λf=>G.iZ f l) (Uc l):=by
 have hl:=h.len;have L:∀(k i:Nat),i+k=l.length->Ev (λf=>G.iZ.L1 f l i) ((l.drop i).all ZU):=by
  intro k
  induction k with
  | zero=>intro i hi;refine aN ?_;simp only[G.iZ.L1];refine rX (aQ ?_);rw[ay aI];rfl
  | succ k ih=>intro i hi;refine aN ?_;simp only[G.iZ.L1,ai,FC i];rw[gm (default:bn) (by omega:i<l.length),fZ];exact rW (dw (ak (T0.l7 I8 (h.at_ aI)) (dh (λe=>(ih (i+1) aI).eq (by rw[e];rfl)) (λe=>aQ (by rw[e];rfl)))))
 refine aN ?_;simp only[G.iZ];unfold Uc;refine dh (λe=>aQ ?_) (λe=>(L l.length 0 aI).eq ?_)
 ·rw[bg (show ¬l.length<=8 by simp only[aF]at e;omega),rP]
 ·rw[dW (show l.length<=8 by simp only[dn]at e;omega),rf,dM]
theorem Ud.mono {B C:Nat}{q:bn}(h:Ud B q)(hB:B<=C):Ud C q:=⟨bM h.TQ hB,⟨bM h.want.1 hB,λs hs=>bM (h.want.2 s hs) hB⟩,⟨bM h.avoid.1 hB,λs hs=>bM (h.avoid.2 s hs) hB⟩,let ⟨D,hd⟩:=h.body;⟨D,hd.mono hB (aC _)⟩,h.ops⟩
theorem TB.fin {l:List bn}(h:TB l):Yp l:=⟨by have:=h.len;omega,λq hq=>(h.req q hq).fin.mono aI⟩
theorem T.jl {l:List bn}(h:TB l):Ev (λf=>G.jl f l) (Uc l):=T0.jl h.fin
theorem T.iZ {l:List bn}(h:TB l):Ev (λf=>G.iZ f l) (Uc l):=T0.iZ h.fin
end
theorem UU {x:fD}{l:List fD}(h:Asc l=true)(hx:∀y,y∈l->bl x y=true):Asc (x::l)=true:=by
 cases l with
 |nil=>rfl
 |cons y l=>rw[Asc,h,rf];exact hx y mg
section
def Ls (x:fB):List fB->List fB
 |[]=>[x]
 |y::r=>if bl y.iC x.iC then y::Ls x r else if y.iC=x.iC then x::r else x::y::r
def V7 (s:bP)(t:fD)(n:aj):bP:=bP.mk (Ls (fB.mk t (s.kZ+1) n) s.bH) (s.kZ+1)
def P6 (s:bP)(t:fD)(n:aj):Option bP:=if JU s&&NmV t&&Val n then(some (V7 s t n)).filter JU else none
def abj : Option bP->bP×Bool
 |some s=>(s,true)
 |none=>(agv,false)
theorem Zk {s:bP} : abj ((some s).filter JU)=if JU s then(s,true)else(agv,false):=by cases h:JU s<;>simp[ug,h,abj]
theorem QS {y:fB}{r:List fB} : Dw (y::r)=y.iC::Dw r:=rfl
theorem aeS {x:fB} : ∀{l:List fB} {p:Nat},LB (Dw l) x.iC p->Ls x l=if decide (p<l.length)&&(l.getD p default).iC==x.iC then l.set p x else l.take p++[x]++l.drop p
 | [],p,h=>by have:p=0:=(by have:=h.le;simpa[Dw]using this);subst this;rfl
 | y::r,0,h=>by
   have hb:bl y.iC x.iC=false:=h.hi 0 aI (by rw[CB];simp);rw[Ls,hb,au mg];by_cases e:y.iC=x.iC
   ·rw[aA e,aA (by simp[e])];rfl
   ·rw[au e,au (by simp[e])];rfl
 | y::r,p+1,h=>by
   have hb:bl y.iC x.iC=true:=h.lo 0 aI;have hr:LB (Dw r) x.iC p:=⟨by have:=h.le;rw[CB]at this⊢;simp at this;omega,λj hj=>by
    have:=h.lo (j+1) aI
    rwa[QS,nO]at this,λj h1 h2=>by
    have:=h.hi (j+1) aI (by rw[QS];simp;omega)
    rwa[QS,nO]at this⟩
   rw[Ls,aA hb,aeS hr];have e1:(decide (p+1<(y::r).length)&&((y::r).getD (p+1) default).iC==x.iC)=(decide (p<r.length)&&(r.getD p default).iC==x.iC):=(by simp);rw[e1];by_cases c:(decide (p<r.length)&&(r.getD p default).iC==x.iC)=true
   ·rw[aA c,aA c];rfl
   ·rw[au c,au c];rfl
theorem aah {y:fB}{r:List fB}(h:Asc (Dw (y::r))=true):Asc (Dw r)=true/\∀z,z∈r->bl y.iC z.iC=true:=by rw[QS]at h;exact⟨IU h,λz hz=>JV h _ (List.mem_map.2 ⟨z,hz,rfl⟩)⟩
theorem Jf {x:fB} : ∀{l:List fB} {it:fB},Asc (Dw l)=true->(it∈Ls x l<->it=x\/(it∈l/\it.iC≠x.iC))
 |[],it,_=>by simp[Ls]
 | y::r,it,h=>by
   obtain⟨h1,h2⟩:=aah h;rw[Ls];cases hb:bl y.iC x.iC with
   | true=>
     have hne:=Jr hb;rw[aA rfl,aK,Jf h1,aK];constructor
     ·rintro(e|e|⟨e,e2⟩)
      ·exact .inr ⟨.inl e,e▸hne⟩
      ·exact .inl e
      ·exact .inr ⟨.inr e,e2⟩
     ·rintro(e|⟨e|e,e2⟩)
      ·exact .inr (.inl e)
      ·exact .inl e
      ·exact .inr (.inr ⟨e,e2⟩)
   | false=>
     rw[au mg];by_cases e:y.iC=x.iC
     ·rw[aA e,aK,aK];constructor
      ·rintro(q|q)
       ·exact .inl q
       ·exact .inr ⟨.inr q,λw=>by have:=Jr (h2 it q);rw[e,w]at this;exact this rfl⟩
      ·rintro(q|⟨q|q,w⟩)
       ·exact .inl q
       ·exact eF (q▸e) w
       ·exact .inr q
     ·rw[au e,aK,aK];have hx:bl x.iC y.iC=true:=by
       cases k:bl x.iC y.iC with
       |true=>rfl
       |false=>exact eF (Pg hb k) e
      constructor
      ·rintro(q|q|q)
       ·exact .inl q
       ·exact .inr ⟨.inl q,q▸e⟩
       ·exact .inr ⟨.inr q,λw=>by have:=Jr (DX hx (h2 it q));rw[w]at this;exact this rfl⟩
      ·rintro(q|⟨q,_⟩)
       ·exact .inl q
       ·exact .inr q
theorem V6 {x:fB} : ∀{l:List fB},(Ls x l).length<=l.length+1
 |[]=>by simp[Ls]
 | y::r=>by
   have:=V6 (x:=x) (l:=r);rw[Ls];split
   ·simp only[iU];omega
   ·split<;>simp
theorem T.xW {l:List fB}{x:fB}(hl:l.length<=1000)(hA:Asc (Dw l)=true):Ev (λf=>G.xW f l x) (Ls x l):=by
 obtain⟨p,g,hp⟩:=T.og x.iC (by unfold big;omega) hA;have hle:=hp.le;rw[CB]at hle;rw[aeS hp];refine aN ?_;simp only[G.xW];refine ak g ?_;cases hc:decide (p<l.length)&&(l.getD p default).iC==x.iC with
 | true=>rw[aA rfl];simp only[ah,aF]at hc;exact dR rfl (dw (aQ (by rw[ai])))
 | false=>rw[au mg];refine dB rfl (ak (aN ?_) (bK _));simp only[G.ou];exact um (by simp;omega) (aQ (by rw[ai]))
section
variable {B D:Nat} {s:bP} {t:fD} {n:aj} (hB:B<=lim) (h:Hz B s) (ht:t.length<=B) (hn:Fine B D n)
include hB h ht hn
theorem T.vO : Ev (λf=>G.vO f s t n) (abj (P6 s t n)):=by
 refine aN ?_;simp only[G.vO];unfold P6;refine ak (T.dY hB h) (dh (λe1=>?_) (λe1=>aQ (by rw[e1];rfl)));refine ak (T.kR _ (by unfold big;unfold lim at hB;omega)) (dh (λe2=>?_) (λe2=>aQ (by rw[e1,e2];rfl)));refine ak (T.dm hB hn) (dh (λe3=>?_) (λe3=>aQ (by rw[e1,e2,e3];rfl)));have hs:=CE.1 e1;have hl:=hs.len;have hlo:=hs.lo;have hhi:=hs.hi;have w:af .i64 (s.kZ+1)=s.kZ+1:=by rw[G8 aI aI]
 rw[e1,e2,e3];refine ak (T.fA hB h) (ak (T.bC hB hn) ?_);rw[w];refine ak (T.xW aI hs.Qb) ?_;have hf:Hz 60 (V7 s t n):=by
  have:=V6 (x:=fB.mk t (s.kZ+1) n) (l:=s.bH);refine⟨by show(Ls _ _).length<=_;omega,λit hi=>?_,λit hi=>?_⟩
  ·rcases(Jf hs.Qb).1 hi with e|⟨e,_⟩
   ·rw[e];show t.length<=60;have:=(VV e2).2;omega
   ·exact hs.fine.TQ it e
  ·rcases(Jf hs.Qb).1 hi with e|⟨e,_⟩
   ·rw[e];exact⟨5,Et e3⟩
   ·exact hs.fine.X6 it e
 refine ak (T.dY CY hf) ?_;show Ev _ (abj ((some (V7 s t n)).filter JU));rw[Zk];cases hv:JU (V7 s t n)with
 |true=>exact dR hv (bK _)
 |false=>exact dB hv (bK _)
end
section
variable {s:bP} {t:fD} {n:aj}
theorem T.mP.done (hl:s.bH.length<=1000):∀(k i:Nat) (z:List fB),i+k=s.bH.length->z.length<=i+1->(∀it,it∈s.bH.drop i->it.iC≠t) ->
 Ev (λf=>G.mP.L3 f s t n s true i z) (bP.mk (z++s.bH.drop i) (af .i64 (s.kZ+1))):=by
 intro k
 induction k with
 | zero=>intro i z hi hz _;refine aN ?_;simp only[G.mP.L3];refine rX (dR rfl (aQ ?_));rw[ay aI,mM]
 | succ k ih=>intro i z hi hz hne;have hil:i<s.bH.length:=(by omega);have hd:=gm (default:fB) hil;rw[hd]at hne;have h1:=hne (s.bH.getD i default) mg;refine aN ?_;simp only[G.mP.L3];refine rW (dR rfl (aN ?_));simp only[G.mP.K4,ai,FC i];refine dw (dB (by simpa using h1) (dw (dw ?_)));refine(ih (i+1) _ aI (by simp;omega) (λit hit=>hne it (by simp[hit]))).eq ?_;rw[hd];simp
theorem T.mP.more (hl:s.bH.length<=1000)(hA:Asc (Dw s.bH)=true):∀(k i:Nat) (z:List fB),i+k=s.bH.length->z.length<=i ->
 Ev (λf=>G.mP.L3 f s t n s false i z) (bP.mk (z++Ls (fB.mk t (af .i64 (s.kZ+1)) n) (s.bH.drop i)) (af .i64 (s.kZ+1))):=by
 intro k
 induction k with
 | zero=>intro i z hi hz;refine aN ?_;simp only[G.mP.L3];refine rX (dB rfl (dw (aQ ?_)));rw[ay aI];rfl
 | succ k ih=>
   intro i z hi hz;have hil:i<s.bH.length:=(by omega);have hd:=gm (default:fB) hil;have later:∀it,it∈s.bH.drop (i+1)->bl (s.bH.getD i default).iC it.iC=true:=λit hit=>by obtain⟨j,hj,e⟩:=List.mem_drop_iff_getElem.1 hit;have hj':i+1+j<s.bH.length:=(by omega);have:=Ho hA i (i+1+j) aI (by rw[CB];exact hj');rw[JP hil,JP hj',iD _ hj',e]at this;exact this
   refine aN ?_;simp only[G.mP.L3,ai];rw[hd,Ls];refine rW (dB rfl (dw ?_));refine dh (λe=>?_) (λe=>?_)
   ·have e:bl (s.bH.getD i default).iC t=true:=e;rw[aA e];refine aN ?_;simp only[G.mP.K4,ai,FC i];refine dw (dB (by simpa using Jr e) (dw (dw ?_)));refine(ih (i+1) _ aI (by simp;omega)).eq ?_;simp
   ·have e:bl (s.bH.getD i default).iC t=false:=e;rw[au (by simp only[e];simp)];refine dw (aN ?_);simp only[G.mP.K4,ai,FC i];refine dw (dh (λe2=>?_) (λe2=>?_))
    ·have e2:(s.bH.getD i default).iC=t:=(by simpa using e2);rw[aA e2];refine(T.mP.done hl k (i+1) _ aI (by simp;omega) (λit hit w=>by have:=Jr (later it hit);rw[e2,w]at this;exact this rfl)).eq ?_;simp
    ·have e2:(s.bH.getD i default).iC≠t:=(by simpa using e2);rw[au e2];have hx:bl t (s.bH.getD i default).iC=true:=by
      cases q:bl t (s.bH.getD i default).iC with
      |true=>rfl
      |false=>exact eF (Pg e q) e2
     refine dw (um (by simp;omega) ?_);refine(T.mP.done hl k (i+1) _ aI (by simp;omega) (λit hit w=>by have:=Jr (DX hx (later it hit));rw[w]at this;exact this rfl)).eq ?_;simp
end
section
variable {B D:Nat} {s:bP} {t:fD} {n:aj} (hB:B<=lim) (h:Hz B s)
include hB h
theorem T.mP (hn:Fine B D n)(hs:StF s):Ev (λf=>G.mP f s t n) (V7 s t n):=by have hl:=hs.len;have hlo:=hs.lo;have hhi:=hs.hi;refine aN ?_;simp only[G.mP];refine ak (T.cO hB hn) (ak (T.fO hB h) ?_);refine(T.mP.more aI hs.Qb s.bH.length 0 [] aI mg).eq ?_;rw[G8 aI aI];rfl
theorem ajh (hs:StF s)(ht:NmV t=true)(hn:Val n=true):Hz 60 (V7 s t n):=by
 have:=V6 (x:=fB.mk t (s.kZ+1) n) (l:=s.bH);have:=hs.len;refine⟨by show(Ls _ _).length<=_;omega,λit hi=>?_,λit hi=>?_⟩
 ·rcases(Jf hs.Qb).1 hi with e|⟨e,_⟩
  ·rw[e];show t.length<=60;have:=(VV ht).2;omega
  ·exact hs.fine.TQ it e
 ·rcases(Jf hs.Qb).1 hi with e|⟨e,_⟩
  ·rw[e];exact⟨5,Et hn⟩
  ·exact hs.fine.X6 it e
end
theorem abq {s m:bP}{t:fD}{n:aj}(h:P6 s t n=some m):JU s=true/\NmV t=true/\Val n=true/\m=V7 s t n/\JU m=true:=by
 unfold P6 at h;split at h
 ·rename_i c;obtain⟨⟨c1,c2⟩,c3⟩:(JU s=true/\NmV t=true)/\Val n=true:=by simpa using c
  obtain⟨h1,h2⟩:=yj.1 h;cases h1;exact⟨c1,c2,c3,rfl,h2⟩
 ·cases h
def WX (l:List fB)(t:fD):Option Nat:=(bV 0 l.length).find? λi=>(l.getD i default).iC==t
theorem Kw {l:List fB}{t:fD}{j:Nat} : WX l t=some j<->(j<l.length/\(l.getD j default).iC=t/\∀q,q<j->(l.getD q default).iC≠t):=by
 unfold WX;rw[IE];constructor
 ·rintro⟨_,h2,h3,h4⟩;exact⟨aI,by simpa using h3,λq hq=>by simpa using h4 q aI hq⟩
 ·rintro⟨h2,h3,h4⟩;exact⟨aI,aI,by simpa using h3,λq _ hq=>by simpa using h4 q hq⟩
theorem aaF {l:List fB}{t:fD} : WX l t=none<->∀it,it∈l->it.iC≠t:=by
 unfold WX;rw[Ob];constructor
 ·intro h it hit;obtain⟨i,hi,e⟩:=kG.1 hit;have:=h i aI aI;rw[iD _ hi,e]at this;simpa using this
 ·intro h q _ hq;have:=h _ (getD_mem default (show q<l.length by omega));simpa using this
theorem T.pY {s:bP}(t:fD)(hl:s.bH.length<=lim):Ev (λf=>G.pY f s t) (KF (WX s.bH t)):=by
 unfold lim at hl;have L:∀(k i:Nat),i+k=s.bH.length->Ev (λf=>G.pY.L1 f s t i) (KF ((bV i k).find? λi=>(s.bH.getD i default).iC==t)):=by
  intro k
  induction k with
  | zero=>intro i hi;refine aN ?_;simp only[G.pY.L1];exact rX (bK _)
  | succ k ih=>
    intro i hi;refine aN ?_;simp only[G.pY.L1,ai,FC i];rw[su,yc];refine rW (dw (dh (λe=>aQ ?_) (λe=>?_)))
    ·simp only[show((s.bH.getD i default).iC==t)=true from e];rfl
    ·simp only[show((s.bH.getD i default).iC==t)=false from e];exact ih (i+1) aI
 refine aN ?_;simp only[G.pY];exact L s.bH.length 0 aI
def ahV (s:bP)(t:fD):bP:=bP.mk (s.bH.filter λit=> !(it.iC==t)) (s.kZ+1)
def PW (s:bP)(t:fD):Option bP:=if JU s&&(WX s.bH t).isSome && !(s.kZ==999)then some (ahV s t)else none
theorem T.sS {B:Nat}{s:bP}{t:fD}(hB:B<=lim)(h:Hz B s)(hs:StF s):Ev (λf=>G.sS f s t) (ahV s t):=by
 have hl:=hs.len;have hlo:=hs.lo;have hhi:=hs.hi;have L:∀(k i:Nat) (z:List fB),i+k=s.bH.length->z.length<=i->Ev (λf=>G.sS.L1 f s t s i z) (bP.mk (z++(s.bH.drop i).filter λit=> !(it.iC==t)) (af .i64 (s.kZ+1))):=by
  intro k
  induction k with
  | zero=>intro i z hi hz;refine aN ?_;simp only[G.sS.L1];refine rX (aQ ?_);rw[ay aI];simp
  | succ k ih=>
    intro i z hi hz;have hil:i<s.bH.length:=(by omega);refine aN ?_;simp only[G.sS.L1,ai,FC i];rw[gm (default:fB) hil,List.filter_cons];refine rW (dw (dh (λe=>?_) (λe=>?_)))
    ·rw[show((s.bH.getD i default).iC==t)=true from e];exact(ih (i+1) z aI aI).eq mg
    ·rw[show((s.bH.getD i default).iC==t)=false from e];refine dw (dw ?_);exact(ih (i+1) _ aI (by simp;omega)).eq mg
 refine aN ?_;simp only[G.sS];refine ak (T.fO hB h) ((L s.bH.length 0 [] aI mg).eq ?_);rw[G8 aI aI];rfl
theorem akr {l m:List fD}(h:l.Sublist m)(hm:Asc m=true):Asc l=true:=Cf.2 ((Cf.1 hm).sublist h)
theorem ahX {s m:bP}{t:fD}(h:PW s t=some m):JU s=true/\(WX s.bH t).isSome=true/\s.kZ≠999/\m=ahV s t/\JU m=true:=by
 unfold PW at h;split at h
 ·rename_i c;obtain⟨⟨c1,c2⟩,c3⟩:(JU s=true/\(WX s.bH t).isSome=true)/\s.kZ≠999:=by simpa using c
  cases h;have hs:=CE.1 c1;refine⟨c1,c2,c3,rfl,CE.2 ⟨λit hit=>?_,?_,?_,?_,?_⟩⟩
  ·have:=Sz.1 (hs.itm it (List.mem_filter.1 hit).1);have hhi:=this.hi;exact Sz.2 ⟨this.TQ,this.X6,this.lo,by show it.mW<=s.kZ+1;omega⟩
  ·exact akr (List.Sublist.map _ List.filter_sublist) hs.Qb
  ·show(s.bH.filter _).length<=10;exact bM (List.length_filter_le _ _) hs.len
  ·show 0<=s.kZ+1;have:=hs.lo;omega
  ·show s.kZ+1<=999;have:=hs.hi;omega
 ·cases h
end
theorem ajz : JU agv=true:=xB
def lk (n:aj)(s:fD):Option aj:=(Gn n s).map λj=>n.aP.getD j default
structure JH (n:aj):Prop where
 kind:n.bQ=4
 Qb:Asc n.aO=true
 len:n.aP.length=n.aO.length
theorem QG {n:aj}(h:Parts n=true)(hk:n.bQ=4):JH n/\n.aO.length<=6/\∀s,s∈n.aO->s.length<=12:=by obtain⟨_,_,hN,hl,hkl⟩:=BK h hk;exact⟨⟨hk,Px hN,hkl⟩,hl,λs hs=>V5 (adx hN s hs)⟩
theorem aiK {n:aj}(h:JH n){s:fD} : (lk n s).isSome=true<->s∈n.aO:=by
 unfold lk;rw[Option.isSome_map];constructor
 ·intro hs;obtain⟨j,hj⟩:=qy.1 hs;obtain⟨h1,h2,_⟩:=NG.1 hj;rw[G5 h.kind,aZ]at h2;rw[<- h2];exact getD_mem default (by rw[<- h.len];exact h1)
 ·intro hs;cases hp:Gn n s with
  |some j=>rfl
  | none=>obtain⟨i,hi,e⟩:=kG.1 hs;have:=QV.1 hp i (by rw[h.len];exact hi);rw[G5 h.kind,iD default hi,e]at this;simp at this
theorem adl {n x:aj}{s:fD}(h:lk n s=some x):x∈n.aP:=by unfold lk at h;obtain⟨j,hj,rfl⟩:=dD.1 h;exact getD_mem default (Ba hj)
theorem QE {n:aj}(h:JH n){s:fD} : lk n s=none<->s ∉ n.aO:=by rw[<- aiK h];cases lk n s<;>simp
structure Acc (n:aj)(m:Nat):Prop where
 map:JH n
 num:n.wL=0
 text:n.lI=[]
 len:n.aO.length<=m
 small:∀s,s∈n.aO->s.length<=12
theorem Acc.eq {n:aj}{m:Nat}(h:Acc n m):n=aj.mk 4 0 [] n.aO n.aP:=by obtain⟨⟨h1,_,_⟩,h2,h3,_,_⟩:=h;cases n;simp only at h1 h2 h3;subst h1;subst h2;subst h3;rfl
theorem aag : ∀{l:List fD} (i:Nat),Asc l=true->Asc (l.drop i)=true
 |l,0,h=>by simpa using h
 |[],i+1,_=>rfl
 |x::l,i+1,h=>aag (l:=l) i (IU h)
open Classical in
noncomputable def mn (F:aj->aj->aj->Option aj)(o a b:aj)(s:fD):Option (Option aj):=
 match lk a s,lk b s,lk o s with
 |some x,some y,some z=>(F z x y).map some
 |some x,some y,none=>if x=y then some (some x)else none
 |some x,none,none=>some (some x)
 |none,some y,none=>some (some y)
 |some x,none,some z=>if x=z then some none else none
 |none,some y,some z=>if y=z then some none else none
 |none,none,_=>some none
def an3 : aj:=aj.mk 4 0 [] [] []
def YQ (z:Int):fD:=if z<0 then 45::Ip (-z).toNat else Ip z.toNat
def QX (b:UInt8):fD:=if b=34\/b=92 then [92,b]else [b]
def Un (s:fD):fD:=34::(s.flatMap QX++[34])
def F5 (F:aj->fD)(n:aj)(i:Nat):fD:=((if 0<i then [44]else [])++(if n.bQ=4 then Un (n.aO.getD i default)++[58]else []))++F (n.aP.getD i default)
def BJ : Nat->aj->fD
 |0,_=>[]
 | d+1,n=>if n.bQ=1 then YQ n.wL else if n.bQ=2 then Un n.lI else if n.bQ=0 then [110,117,108,108]else
   if n.bQ=4 then([123]++(bV 0 n.aP.length).flatMap (F5 (BJ d) n))++[125]else([91]++(bV 0 n.aP.length).flatMap (F5 (BJ d) n))++[93]
theorem RS {d:Nat}{n:aj} : BJ (d+1) n=if n.bQ=1 then YQ n.wL else if n.bQ=2 then Un n.lI else if n.bQ=0 then [110,117,108,108]else
 if n.bQ=4 then([123]++(bV 0 n.aP.length).flatMap (F5 (BJ d) n))++[125]else([91]++(bV 0 n.aP.length).flatMap (F5 (BJ d) n))++[93]:=by rw[BJ]
theorem maxL : 4000000000<=maxLen:=xB
theorem Zr (s:fD):(Un s).length<=2*s.length+2:=by
 have:(s.flatMap QX).length<=2*s.length:=by
  induction s with
  |nil=>simp
  | cons b s ih=>rw[kE,bZ,iU];have:(QX b).length<=2:=(by unfold QX;split<;>simp);omega
 unfold Un;simp only[iU,bZ,iT];omega
theorem Xo {s:fD}{i:Nat}(h:i<s.length):(s.take (i+1)).drop i=[s.getD i 0]:=by rw[kC h,List.drop_append_of_le_length (by simp;omega),ay (by rw[iK];omega),lC,iD _ h]
theorem T.nZ (s:fD)(hs:s.length<=1000000):Ev (λf=>G.nZ f s) (Un s):=by
 have hM:=maxL;have L:∀(k i:Nat) (z:fD),i+k=s.length->z.length<=2*i+1->Ev (λf=>G.nZ.L1 f s z i) (z++((s.drop i).flatMap QX++[34])):=by
  intro k
  induction k with
  | zero=>intro i z hi hz;refine aN ?_;simp only[G.nZ.L1];refine rX (dw (aQ ?_));rw[ay aI];rfl
  | succ k ih=>
    intro i z hi hz;have hil:i<s.length:=(by omega);have e1:=Xo hil;have two:s.getD i 0=34\/s.getD i 0=92->Ev (λf=>G.nZ.L1 f s ((z++[92])++[s.getD i 0]) ((i+1:Nat):Int)) (z++((s.drop i).flatMap QX++[34])):=λhq=>by refine(ih (i+1) _ aI (by simp;omega)).eq ?_;rw[gm (0:UInt8) hil,kE];have:QX (s.getD i 0)=[92,s.getD i 0]:=aA hq;rw[this];simp
    have byt:∀c:UInt8,(((s.getD i 0).toNat:Int)==(c.toNat:Int))=(s.getD i 0==c):=λc=>by rw[tJ,aZ,aZ];exact⟨λh=>Ah.1 aI,λh=>by rw[h]⟩
    refine aN ?_;simp only[G.nZ.L1,ai,FC i,e1];refine rW (dw (dh (λh=>?_) (λh=>?_)))
    ·have h:s.getD i 0=34:=(by rw[show((34:Int))=((34:UInt8).toNat:Int)from rfl,byt]at h;simpa using h);exact dw (dw (um (by simp only[nX];omega) (two (.inl h))))
    ·have h:s.getD i 0≠34:=(by rw[show((34:Int))=((34:UInt8).toNat:Int)from rfl,byt]at h;simpa using h);refine dw (dh (λh2=>?_) (λh2=>?_))
     ·have h2:s.getD i 0=92:=(by rw[show((92:Int))=((92:UInt8).toNat:Int)from rfl,byt]at h2;simpa using h2);exact dw (dw (um (by simp only[nX];omega) (two (.inr h2))))
     ·have h2:s.getD i 0≠92:=(by rw[show((92:Int))=((92:UInt8).toNat:Int)from rfl,byt]at h2;simpa using h2);refine dw (um (by simp only[nX];omega) ?_);refine(ih (i+1) _ aI (by simp;omega)).eq ?_;rw[gm (0:UInt8) hil,kE];have:QX (s.getD i 0)=[s.getD i 0]:=au (λq=>q.elim h h2);rw[this];simp
 refine aN ?_;simp only[G.nZ];exact(L s.length 0 [34] aI mg).eq (by rw[dM];rfl)
theorem Na : ∀{i:Nat},i<=999999->(Ip i).length<=6:=by
 have step:∀{i m:Nat},(Ip (i/10)).length<=m->(Ip i).length<=m+1:=λ{i m} h=>by
  rw[Ip];split
  ·simp
  ·simp;omega
 intro i h;have h1:(Ip (i/10/10/10/10/10)).length<=1:=by rw[La aI];simp
 exact step (step (step (step (step h1))))
theorem ahT {z:Int}(h1 : -999999<=z)(h2:z<=999999):(YQ z).length<=7:=by
 unfold YQ;split
 ·have:=Na (i:=(-z).toNat) aI;simp;omega
 ·have:=Na (i:=z.toNat) aI;omega
theorem T.agQ {z:Int}(h1 : -999999<=z)(h2:z<=999999):Ev (λf=>G.lY f z) (YQ z):=by
 have hM:=maxL;unfold YQ;by_cases h:z<0
 ·rw[aA h];have w:af .i64 (0-z)=((-z).toNat:Int):=wrapN aI aI;have hl:=Na (i:=(-z).toNat) aI;refine aN ?_;simp only[G.lY,w];exact dR (dW h) (dB (by simp only[beq_eq_false_iff_ne];omega) (ak (T.decimal (by unfold lim;omega)) (dw (aQ rfl))))
 ·rw[au h];obtain⟨k,rfl⟩:∃k:Nat,z=k:=⟨z.toNat,aI⟩;rw[ai];exact T.decimal (by unfold lim;omega)
theorem SY {n:aj}(h:Parts n=true)(hk:n.bQ=1) : -999999<=n.wL/\n.wL<=999999:=by unfold Parts at h;simp[hk]at h;omega
theorem PE {n:aj}(h:Parts n=true):n.lI.length<=12:=by
 by_cases hk:n.bQ=2
 ·unfold Parts at h;simp[hk]at h;exact V5 h.2.1
 ·unfold Parts at h;simp only[ah,iJ,aZ]at h;have:=h.1.1.2.resolve_left hk;rw[this];simp
theorem akI {α:Type}{g:Nat->List α}{m:Nat} : ∀(k i:Nat),(∀j,i<=j->j<i+k->(g j).length<=m)->((bV i k).flatMap g).length<=k*m:=by
 intro k
 induction k with
 |zero=>intro i _;simp
 | succ k ih=>intro i h;have h1:=h i aI aI;have h2:=ih (i+1) (λj h1 h2=>h j aI aI);rw[su,kE,bZ,Nat.add_mul];omega
theorem YU : ∀(d:Nat) {n:aj},Shape d n=true->(BJ d n).length<=200*7^d
 |0,_,h=>by cases h
 | d+1,n,h=>by
   have hp:=rV h;have h6:=Fz h;have aoi:1<=7^d:=Nat.one_le_pow _ _ aI;rw[RS,Ij];have hb:((bV 0 n.aP.length).flatMap (F5 (BJ d) n)).length<=6*(28+200*7^d):=by
    refine bM (akI (m:=28+200*7^d) _ _ (λj _ hj=>?_)) (aY _ h6);have hj':j<n.aP.length:=(by omega);have hk:=YU d (Dp h hj');unfold F5;rw[bZ,bZ];have a1:(if 0<j then([44]:fD)else []).length<=1:=(by split<;>simp);have a2:(if n.bQ=4 then Un (n.aO.getD j default)++[58]else []).length<=27:=by
     split
     ·rename_i h4;obtain⟨mn,_,hn⟩:=QG hp h4;have:=hn _ (getD_mem default (show j<n.aO.length by rw[<- mn.len];exact hj'));have:=Zr (n.aO.getD j default);simp only[bZ,nX];omega
     ·simp
    omega
   split
   ·rename_i h1;obtain⟨b1,b2⟩:=SY hp h1;have:=ahT b1 b2;omega
   ·split
    ·have:=PE hp;have:=Zr n.lI;omega
    ·split
     ·simp only[iU,iT];omega
     ·split
      ·simp only[bZ,nX];omega
      ·simp only[bZ,nX];omega
theorem T.ig : ∀(d:Nat) {n:aj},d<=5->Shape d n=true->Ev (λf=>G.ig f n) (BJ d n)
 |0,_,_,h=>by cases h
 | d+1,n,hd,h=>by
   have hM:=maxL;have hp:=rV h;have h6:=Fz h;have aoi:=Zq hd;rw[Ij]at aoi;have L:∀(k i:Nat) (z:fD),i+k=n.aP.length->z.length<=i*1000000->Ev (λf=>G.ig.L5 f n z i)
    (if n.bQ=4 then([123]++(z++(bV i k).flatMap (F5 (BJ d) n)))++[125]else([91]++(z++(bV i k).flatMap (F5 (BJ d) n)))++[93]):=by
    intro k
    induction k with
    | zero=>
      intro i z hi hz;refine aN ?_;simp only[G.ig.L5];refine rX (dh (λe=>dw (dw (aQ ?_))) (λe=>dw (dw (aQ ?_))))
      ·rw[aA (by simpa using e)];simp
      ·rw[au (by simpa using e)];simp
    | succ k ih=>
      intro i z hi hz;have hil:i<n.aP.length:=(by omega);have hk:=Dp h hil;have hkl:=YU d hk;have K7:∀z':fD,z'.length<=i*1000000+28->z'++BJ d (n.aP.getD i default)=z++F5 (BJ d) n i->Ev (λf=>G.ig.K7 f n (i:Int) z')
       (if n.bQ=4 then([123]++(z++(bV i (k+1)).flatMap (F5 (BJ d) n)))++[125]else([91]++(z++(bV i (k+1)).flatMap (F5 (BJ d) n)))++[93]):=λz' hz' he=>by
       refine aN ?_;simp only[G.ig.K7,ai,FC i];refine dw (ak (T.ig d aI hk) (dw ?_));refine(ih (i+1) _ aI (by rw[bZ];omega)).eq ?_;rw[su,kE,<- jh z,<- he]
      have K6:∀z':fD,z'=z++(if 0<i then [44]else [])->Ev (λf=>G.ig.K6 f n (i:Int) z')
       (if n.bQ=4 then([123]++(z++(bV i (k+1)).flatMap (F5 (BJ d) n)))++[125]else([91]++(z++(bV i (k+1)).flatMap (F5 (BJ d) n)))++[93]):=λz' he=>by
       have hz':z'.length<=i*1000000+1:=by rw[he,bZ];have:(if 0<i then([44]:fD)else []).length<=1:=(by split<;>simp);omega
       refine aN ?_;simp only[G.ig.K6,ai];by_cases h4:n.bQ=4
       ·obtain⟨mn,_,hn⟩:=QG hp h4;have hin:i<n.aO.length:=(by rw[<- mn.len];exact hil);have h12:=hn _ (getD_mem default hin);have hq:=Zr (n.aO.getD i default);refine dR (by simpa using h4) (dw (ak (T.nZ _ aI) (dw (dw (K7 _ (by simp only[bZ,nX];omega) ?_)))));rw[he];unfold F5;rw[aA h4];simp
       ·refine dB (by simpa using h4) (K7 z' (bM hz' (Nat.add_le_add_left xB _)) ?_);rw[he];unfold F5;rw[au h4];simp
      refine aN ?_;simp only[G.ig.L5];refine rW ?_;by_cases h0:0<i
      ·exact rW (dw (K6 _ (by rw[aA h0])))
      ·exact rX (K6 _ (by rw[au h0,mM]))
   refine aN ?_;simp only[G.ig];rw[RS];refine dh (λe=>?_) (λe1=>?_)
   ·have e:n.bQ=1:=(by simpa using e);rw[aA e];obtain⟨b1,b2⟩:=SY hp e;exact ak (T.agQ b1 b2) (bK _)
   rw[au (by simpa using e1)];refine dh (λe=>?_) (λe2=>?_)
   ·rw[aA (by simpa using e)];have:=PE hp;exact ak (T.nZ _ aI) (bK _)
   rw[au (by simpa using e2)];refine dh (λe=>?_) (λe3=>?_)
   ·rw[aA (by simpa using e)];exact bK _
   rw[au (by simpa using e3)];exact(L n.aP.length 0 [] aI mg).eq mg
def agU (s:fD):Nat:=s.foldl (λn b=>(131*n+b.toNat)%65521) 17
def af5 (k:Nat):UInt8:=hexD.getD k 0
def Xd (n:Nat):fD:=[af5 (n/4096),af5 (n/256%16),af5 (n/16%16),af5 (n%16)]
def He (n:aj):fD:=if Val n then Xd (agU (BJ 5 n))else []
theorem T.rH (s:fD)(hs:s.length<big):Ev (λf=>G.rH f s) ((agU s:Nat):Int):=by
 unfold big at hs;have L:∀(k i m:Nat),i+k=s.length->m<65521->Ev (λf=>G.rH.L1 f s (m:Int) i) (((s.drop i).foldl (λn b=>(131*n+b.toNat)%65521) m:Nat):Int):=by
  intro k
  induction k with
  | zero=>intro i m hi _;refine aN ?_;simp only[G.rH.L1];refine rX (aQ ?_);rw[ay aI];rfl
  | succ k ih=>intro i m hi hm;have hb:=(s.getD i 0).toNat_lt;refine aN ?_;simp only[G.rH.L1,ai,Ko,FC i,wrapN (x:=131*(m:Int)) (m:=131*m) aI aI];rw[wrapN (x:=((131*m:Nat):Int)+((s.getD i 0).toNat:Int)) (m:=131*m+(s.getD i 0).toNat) aI aI,show(65521:Int)=((65521:Nat):Int)from rfl,KN];rw[gm (0:UInt8) (by omega:i<s.length),wH];exact rW (dw (ih (i+1) _ aI (xh _ aI)))
 refine aN ?_;simp only[G.rH];exact L s.length 0 17 aI aI
theorem sum_lt (s:fD):agU s<65521:=by
 unfold agU;have:∀(s:fD) (m:Nat),m<65521->s.foldl (λn b=>(131*n+b.toNat)%65521) m<65521:=by
  intro s
  induction s with
  |nil=>intro m hm;exact hm
  |cons b s ih=>intro m hm;exact ih _ (xh _ aI)
 exact this s 17 aI
theorem T.Bo {n:Nat}(h:n<65536):Ev (λf=>G.Bo f (n:Int)) (Xd n):=by
 have hM:=maxL;have w1:af .i64 (mJ (n:Int) 4096)=((n/4096:Nat):Int):=by rw[show(4096:Int)=((4096:Nat):Int)from rfl,Rh];exact wrapN rfl aI
 have w2:af .i64 (mJ (n:Int) 256)=((n/256:Nat):Int):=by rw[show(256:Int)=((256:Nat):Int)from rfl,Rh];exact wrapN rfl aI
 have w3:af .i64 (mJ (n:Int) 16)=((n/16:Nat):Int):=by rw[show(16:Int)=((16:Nat):Int)from rfl,Rh];exact wrapN rfl aI
 have t2:lD ((n/256:Nat):Int) 16=((n/256%16:Nat):Int):=by rw[show(16:Int)=((16:Nat):Int)from rfl,KN]
 have t3:lD ((n/16:Nat):Int) 16=((n/16%16:Nat):Int):=by rw[show(16:Int)=((16:Nat):Int)from rfl,KN]
 have t4:lD (n:Int) 16=((n%16:Nat):Int):=by rw[show(16:Int)=((16:Nat):Int)from rfl,KN]
 refine aN ?_;simp only[G.Bo,w1,w2,w3,t2,t3,t4,ai,EK];exact dw (dw (dw (dw (dw (aQ rfl)))))
theorem alq (n:aj):(He n).length<=4:=by
 unfold He;split
 ·simp[Xd]
 ·simp
def ap6 : fB:=fB.mk [] 0 xM
def aoQ : Option fB->fB×Bool
 |some it=>(it,true)
 |none=>(ap6,false)
def PY (s:bP)(t:fD):Option fB:=if JU s then(WX s.bH t).map λj=>s.bH.getD j default else none
theorem XK {s:bP}{t:fD}{it:fB}(h:PY s t=some it):StF s/\it∈s.bH/\it.iC=t/\Val it.pR=true:=by
 unfold PY at h;split at h
 ·rename_i hs;obtain⟨j,hj,rfl⟩:=dD.1 h;obtain⟨h1,h2,_⟩:=Kw.1 hj;have:=CE.1 hs;exact⟨this,getD_mem default h1,h2,(this.it h1).X6⟩
 ·cases h
theorem T.wb {b:jO}{c:Int}(hc:0<=c/\c<256)(hl:b.buf.length+1<=140737488355328):Ev (λf=>G.dH f b c) ((),jO.mk (b.buf++[gz c.toNat])):=by refine aN ?_;simp only[G.dH];exact um ⟨hc,hl⟩ (bK _)
theorem T.ws {b:jO}{s:fD}(hl:b.buf.length+s.length<=140737488355328):Ev (λf=>G.nG f b s) ((s.length:Int),(),jO.mk (b.buf++s)):=by refine aN ?_;simp only[G.nG];exact um hl (bK _)
theorem T.bs' {b:jO}(hl:b.buf.length<=140737488355328):Ev (λf=>G.uZ f b) b.buf:=by refine aN ?_;simp only[G.uZ];exact um hl (bK _)
theorem ae5 (b:UInt8):gz (b.toNat:Int).toNat=b:=mg
theorem T.iE {s z:fD}(h:z.length+2*s.length+2<=4000000000):Ev (λf=>G.iE f (jO.mk z) s) (jO.mk (z++Un s)):=by
 have KR:∀(z:fD) (b:UInt8),z.length<5000000000->Ev (λf=>G.dH f (jO.mk z) (b.toNat:Int)) ((),jO.mk (z++[b])):=λz b hz=>by
  have:=T.wb (b:=jO.mk z) (c:=(b.toNat:Int)) (by have:=b.toNat_lt;omega) (by show z.length+1<=_;omega)
  rwa[ae5]at this
 have L:∀(k i:Nat) (z:fD),i+k=s.length->z.length+2*k+1<=4000000001->Ev (λf=>G.iE.L3 f s (i:Int) z) (jO.mk (z++((s.drop i).flatMap QX++[34]))):=by
  intro k
  induction k with
  | zero=>intro i z hi hz;rw[List.drop_eq_nil_of_le aI];refine aN ?_;simp only[G.iE.L3];exact rX (ak (KR z 34 aI) (aQ rfl))
  | succ k ih=>
    intro i z hi hz;have hlt:i<s.length:=(by omega);have hd:s.drop i=s.getD i 0::s.drop (i+1):=(by rw[Bz hlt];simp[dJ,hlt]);have hK:∀z:fD,z.length+2*k+2<=4000000001->Ev (λf=>G.iE.K4 f s (i:Int) z) (jO.mk (z++(s.getD i 0::((s.drop (i+1)).flatMap QX++[34])))):=λz hz=>by refine aN ?_;simp only[G.iE.K4];rw[ai];refine dw (ak (KR z (s.getD i 0) aI) ?_);rw[tC aI];have:=ih (i+1) (z++[s.getD i 0]) aI (by simp;omega);simpa using this
    rw[hd];refine aN ?_;simp only[G.iE.L3];rw[ai];refine rW (dw (dh (λe=>?_) (λe=>dw (dh (λe2=>?_) (λe2=>?_)))))
    ·have hb:s.getD i 0=34:=Ah.1 (by have:=beq_iff_eq.1 e;show(s.getD i 0).toNat=34;omega);refine ak (KR z 92 aI) ?_;have:=hK (z++[92]) (by simp;omega);rw[hb]at this⊢;simpa[QX]using this
    ·have hb:s.getD i 0=92:=Ah.1 (by have:=beq_iff_eq.1 e2;show(s.getD i 0).toNat=92;omega);refine ak (KR z 92 aI) ?_;have:=hK (z++[92]) (by simp;omega);rw[hb]at this⊢;simpa[QX]using this
    ·have:=hK z aI;have hq:QX (s.getD i 0)=[s.getD i 0]:=by
      unfold QX;rw[au];rintro(h|h)
      ·rw[h]at e;simp at e
      ·rw[h]at e2;simp at e2
     rw[kE,hq];simpa using this
 refine aN ?_;simp only[G.iE];refine ak (KR z 34 aI) ?_;have:=L s.length 0 (z++[34]) aI (by simp;omega);simpa[Un]using this
theorem aiz (z:Int):wC z=YQ z:=by
 unfold wC YQ;split
 ·rw[acQ (z.natAbs+1) z.natAbs aI,show z.natAbs=(-z).toNat from by omega]
 ·rw[acQ (z.toNat+1) z.toNat aI]
theorem T.itoa {z:Int}(h : -900000000000000<=z/\z<=900000000000000):Ev (λf=>G.strconv_Itoa f z) (YQ z):=by rw[<- aiz];exact T.Itoa h
theorem adB {n:aj}(h:Parts n=true):n.bQ=0\/n.bQ=1\/n.bQ=2\/n.bQ=3\/n.bQ=4:=by
 by_cases h0:n.bQ=0\/n.bQ=1\/n.bQ=2\/n.bQ=3\/n.bQ=4
 ·exact h0
 ·simp only[not_or]at h0;obtain⟨a,b,c,d,e⟩:=h0;unfold Parts at h;rw[au a,au b,au c,au d,au e]at h;simp at h
theorem KR {z:fD}(b:UInt8)(hz:z.length<5000000000):Ev (λf=>G.dH f (jO.mk z) (b.toNat:Int)) ((),jO.mk (z++[b])):=by
 have:=T.wb (b:=jO.mk z) (c:=(b.toNat:Int)) (by have:=b.toNat_lt;omega) (by show z.length+1<=_;omega)
 rwa[ae5]at this
theorem aaE (F:aj->fD)(n:aj)(i:Nat):F5 F n i=(if 0<i then [44]else [])++((if n.bQ=4 then Un (n.aO.getD i default)++[58]else [])++F (n.aP.getD i default)):=by unfold F5;rw[jh]
theorem T.dO : ∀(d:Nat) {n:aj} {z:fD},Shape d n=true->z.length+(BJ d n).length<=2000000000->Ev (λf=>G.dO f (jO.mk z) n) (jO.mk (z++BJ d n))
 |0,_,_,h,_=>by cases h
 | d+1,n,z,h,hz=>by
   have hp:=rV h;have h6:=Fz h;rw[RS]at hz⊢;have L3:n.bQ=3->∀(k i:Nat) (z:fD),i+k=n.aP.length->z.length+((bV i k).flatMap (F5 (BJ d) n)++[93]).length<=2000000000 ->
    Ev (λf=>G.dO.L3 f n (i:Int) z) (jO.mk (z++((bV i k).flatMap (F5 (BJ d) n)++[93]))):=by
    intro hk3 k
    induction k with
    | zero=>intro i z hi hz;refine aN ?_;simp only[G.dO.L3];refine rX (ak (KR 93 aI) (aQ ?_));simp
    | succ k ih=>
      intro i z hi hz;have hil:i<n.aP.length:=(by omega);rw[su,kE]at hz⊢;simp only[bZ]at hz;have ez:F5 (BJ d) n i=(if 0<i then [44]else [])++BJ d (n.aP.getD i default):=(by rw[aaE,au (by omega:¬n.bQ=4),lC]);have hK:∀z':fD,z'=z++(if 0<i then [44]else [])->Ev (λf=>G.dO.K4 f n (i:Int) z') (jO.mk (z++((F5 (BJ d) n i++(bV (i+1) k).flatMap (F5 (BJ d) n))++[93]))):=λz' he=>by have e2:z'++BJ d (n.aP.getD i default)=z++F5 (BJ d) n i:=(by rw[he,ez,jh]);have e3:=sK yP e2;simp only[bZ]at e3;refine aN ?_;simp only[G.dO.K4,ai,FC i];refine ak (T.dO d (Dp h hil) aI) ?_;refine(ih (i+1) _ aI (by simp only[bZ];omega)).eq ?_;rw[e2];simp only[jh]
      refine aN ?_;simp only[G.dO.L3];refine rW (dw ?_);by_cases h0:0<i
      ·exact rW (ak (KR 44 aI) (hK _ (by rw[aA h0])))
      ·exact rX (hK _ (by rw[au h0,mM]))
   have L7:n.bQ=4->∀(k i:Nat) (z:fD),i+k=n.aP.length->z.length+((bV i k).flatMap (F5 (BJ d) n)++[125]).length<=2000000000 ->
    Ev (λf=>G.dO.L7 f n (i:Int) z) (jO.mk (z++((bV i k).flatMap (F5 (BJ d) n)++[125]))):=by
    intro hk4 k;obtain⟨mn,_,hn⟩:=QG hp hk4
    induction k with
    | zero=>intro i z hi hz;refine aN ?_;simp only[G.dO.L7];refine rX (ak (KR 125 aI) (aQ ?_));simp
    | succ k ih=>
      intro i z hi hz;have hil:i<n.aP.length:=(by omega);have hin:i<n.aO.length:=(by rw[<- mn.len];exact hil);have h12:=hn _ (getD_mem default hin);rw[su,kE]at hz⊢;simp only[bZ]at hz;have ez:F5 (BJ d) n i=(if 0<i then [44]else [])++((Un (n.aO.getD i default)++[58])++BJ d (n.aP.getD i default)):=(by rw[aaE,aA hk4]);have hK:∀z':fD,z'=z++(if 0<i then [44]else [])->Ev (λf=>G.dO.K8 f n (i:Int) z') (jO.mk (z++((F5 (BJ d) n i++(bV (i+1) k).flatMap (F5 (BJ d) n))++[125]))):=λz' he=>by have e2:((z'++Un (n.aO.getD i default))++[58])++BJ d (n.aP.getD i default)=z++F5 (BJ d) n i:=(by rw[he,ez];simp only[jh]);have e3:=sK yP e2;simp only[bZ]at e3;refine aN ?_;simp only[G.dO.K8,ai,FC i];refine dw (ak (T.iE aI) (ak (KR 58 (by simp only[bZ];omega)) ?_));refine ak (T.dO d (Dp h hil) (by simp only[bZ];omega)) ?_;refine(ih (i+1) _ aI (by simp only[bZ];omega)).eq ?_;rw[e2];simp only[jh]
      refine aN ?_;simp only[G.dO.L7];refine rW (dw ?_);by_cases h0:0<i
      ·exact rW (ak (KR 44 aI) (hK _ (by rw[aA h0])))
      ·exact rX (hK _ (by rw[au h0,mM]))
   refine aN ?_;simp only[G.dO];rcases adB hp with e|e|e|e|e<;>simp only[e,reduceIte,Int.reduceEq]at hz⊢
   ·exact dR rfl (ak (T.ws (by simp only[iU,iT]at hz⊢;omega)) (bK _))
   ·obtain⟨b1,b2⟩:=SY hp e;exact dB rfl (dR rfl (ak (T.itoa aI) (ak (T.ws (by show z.length+_<=_;omega)) (bK _))))
   ·have:=PE hp;exact dB rfl (dB rfl (dR rfl (ak (T.iE aI) (bK _))))
   ·refine dB rfl (dB rfl (dB rfl (dR rfl (ak (KR 91 aI) ?_))));refine(L3 e n.aP.length 0 (z++[91]) aI (by simp only[bZ,iU,iT]at hz⊢;omega)).eq ?_;simp only[jh]
   ·refine dB rfl (dB rfl (dB rfl (dB rfl (dR rfl (ak (KR 123 aI) ?_)))));refine(L7 e n.aP.length 0 (z++[123]) aI (by simp only[bZ,iU,iT]at hz⊢;omega)).eq ?_;simp only[jh]
theorem fmt5 {n:aj}(h:Val n=true):(BJ 5 n).length<=4000000:=by have:=YU 5 (uF h);have:=Zq (aC 5);omega
def amb (n:aj):fD:=if Val n then BJ 5 n else []
theorem T.rC {B D:Nat}{n:aj}(hB:B<=lim)(h:Fine B D n):Ev (λf=>G.rC f n) (amb n):=by refine aN ?_;simp only[G.rC];unfold amb;refine ak (T.dm hB h) (dh (λe=>?_) (λe=>aQ (by rw[e];rfl)));have hl:=fmt5 e;rw[e];exact ak (T.dO 5 (uF e) (by simp only[iT];omega)) (ak (T.bs' (by show(_:fD).length<=_;simp only[lC];omega)) (bK _))
theorem T.jv (s:fD)(hs:s.length<big):Ev (λf=>G.jv f s) (Xd (agU s)):=by
 unfold big at hs;have hM:=maxL;have L2:∀m:Nat,m<65521->Ev (λf=>G.jv.L2 f (m:Int) 3 (bY 4 0)) (Xd m):=λm hm=>by
  have st:∀m:Nat,m<65521->af .i64 (mJ (m:Int) 16)=((m/16:Nat):Int):=λm hm=>by rw[show(16:Int)=((16:Nat):Int)from rfl,Rh];exact wrapN rfl aI
  have tm:∀m:Nat,lD (m:Int) 16=((m%16:Nat):Int):=λm=>by rw[show(16:Int)=((16:Nat):Int)from rfl,KN]
  refine aN ?_;simp only[G.jv.L2,tm,st m hm,ai];refine dR rfl (dw (um mg (dw ?_)));refine aN ?_;simp only[G.jv.L2,tm,st (m/16) aI,ai];refine dR rfl (dw (um (by simp;decide) (um xB ?_)));refine aN ?_;simp only[G.jv.L2,tm,st (m/16/16) aI,ai];refine dR rfl (dw (um (by simp;decide) (um xB ?_)));refine aN ?_;simp only[G.jv.L2,tm,st (m/16/16/16) aI,ai];refine dR rfl (dw (um (by simp;decide) (um xB ?_)));refine aN ?_;simp only[G.jv.L2];refine dB rfl (um mg (um (by simp;omega) (aQ ?_)));unfold Xd af5;rw[show m/4096=m/16/16/16%16 by omega,show m/256%16=m/16/16%16 by omega];show IW [((hexD.getD (m/16/16/16%16) 0).toNat:Int),((hexD.getD (m/16/16%16) 0).toNat:Int),((hexD.getD (m/16%16) 0).toNat:Int),((hexD.getD (m%16) 0).toNat:Int)]=_;simp[IW]
 have L:∀(k i m:Nat),i+k=s.length->m<65521->Ev (λf=>G.jv.L1 f s (m:Int) i) (Xd ((s.drop i).foldl (λn b=>(131*n+b.toNat)%65521) m)):=by
  intro k
  induction k with
  | zero=>intro i m hi hm;refine aN ?_;simp only[G.jv.L1];rw[ay aI];exact rX (L2 m hm)
  | succ k ih=>intro i m hi hm;have hb:=(s.getD i 0).toNat_lt;refine aN ?_;simp only[G.jv.L1,ai,Ko,FC i,wrapN (x:=131*(m:Int)) (m:=131*m) aI aI];rw[wrapN (x:=((131*m:Nat):Int)+((s.getD i 0).toNat:Int)) (m:=131*m+(s.getD i 0).toNat) aI aI,show(65521:Int)=((65521:Nat):Int)from rfl,KN];rw[gm (0:UInt8) (by omega:i<s.length),wH];exact rW (dw (ih (i+1) _ aI (xh _ aI)))
 refine aN ?_;simp only[G.jv];exact L s.length 0 17 aI aI
theorem T.wo {B D:Nat}{n:aj}(hB:B<=lim)(h:Fine B D n):Ev (λf=>G.wo f n) (He n):=by refine aN ?_;simp only[G.wo];unfold He;refine ak (T.dm hB h) (dh (λe=>?_) (λe=>aQ (by rw[e];rfl)));have hl:=fmt5 e;have hf:=T.rC hB h;unfold amb at hf;rw[e]at hf⊢;exact ak hf (ak (T.jv _ (by show(BJ 5 n).length<_;unfold big;omega)) (bK _))
theorem ajf {n c:aj}{j:Nat}(s:fD):Gn (Ji n j c) s=Gn n s:=by
 unfold Gn;have e:(Ji n j c).aP.length=n.aP.length:=by simp[Ji]
 rw[e];rfl
theorem aiF {n c:aj}{j:Nat}(h:j<n.aP.length):(Ji n j c).aP.getD j default=c:=by simp[Ji,dJ,h]
abbrev N2 (x:aj×aj):Prop:=ZX 60 x.1/\ZX 60 x.2
theorem KC {n:aj}(h:JH n){r:fD}{k:aj} : lk n r=some k<->(r,k)∈n.aO.zip n.aP:=by
 have at_:∀j,j<n.aO.length->(n.aO.getD j default,n.aP.getD j default)∈n.aO.zip n.aP:=λj hj=>by
  have hk:j<n.aP.length:=by rw[h.len];exact hj
  rw[iD _ hj,iD _ hk];exact kG.2 ⟨j,by simp;omega,mg⟩
 constructor
 ·intro e;unfold lk at e;obtain⟨j,hj,rfl⟩:=dD.1 e;obtain⟨h1,h2,_⟩:=NG.1 hj;rw[G5 h.kind,aZ]at h2;rw[<- h2];exact at_ j (by rw[<- h.len];exact h1)
 ·intro e;obtain⟨j,hj,e⟩:=kG.1 e;have hj1:j<n.aO.length:=by simp at hj;omega
  have hj2:j<n.aP.length:=by simp at hj;omega
  simp only[FH,dF]at e;obtain⟨e1,e2⟩:=e;have hp:Gn n r=some j:=by rw[NG];refine⟨hj2,by rw[G5 h.kind,iD _ hj1,e1];simp,λq hq=>?_⟩;rw[G5 h.kind];have:=Jr (Ho h.Qb q j hq hj1);rw[iD _ hj1,e1]at this;simpa using this
  unfold lk;rw[hp,kL,iD _ hj2,e2]
theorem alA {α β:Type}{a:List α}{b:List β}{p:Nat}{x:α}{y:β}(h:a.length=b.length):(insL a p x).zip (insL b p y)=insL (a.zip b) p (x,y):=by
 unfold insL;rw[Gj (by simp[h]),Gj (by simp[h])];have e1:(a.zip b).take p=(a.take p).zip (b.take p):=by rw[Hy,List.take_zipWith]
 have e2:(a.zip b).drop p=(a.drop p).zip (b.drop p):=by rw[Hy,List.drop_zipWith]
 rw[e1,e2];rfl
theorem Y3 {α:Type}{l:List α}{p:Nat}{x y:α} : y∈insL l p x<->y=x\/y∈l:=by
 unfold insL;rw[bG,bG,sN];have:=Dh p l;constructor
 ·rintro((h|h)|h)
  ·exact .inr (gI h)
  ·exact .inl h
  ·exact .inr (lu h)
 ·rintro(h|h)
  ·exact .inl (.inr h)
  ·rw[<- this,bG]at h;rcases h with h|h
   ·exact .inl (.inl h)
   ·exact .inr h
theorem ahx {n v:aj}{s:fD}(h:JH n)(hs:s ∉ n.aO):∃m,addN n s v=some m/\m.bQ=4/\m.wL=0/\m.lI=[]/\m.aP.length=m.aO.length/\∀r k,(r,k)∈m.aO.zip m.aP<->(r,k)=(s,v)\/(r,k)∈n.aO.zip n.aP:=by
 have hp:Gn n s=none:=by have:=(QE h).2 hs;unfold lk at this;simpa using this
 have hk:=h.kind;refine⟨aj.mk 4 0 [] (insL n.aO (slt n s) s) (insL n.aP (slt n s) v),?_,rfl,rfl,rfl,?_,λr k=>?_⟩
 ·unfold addN;rw[hp];simp only[hk,jY,show ¬((4:Int)=3) by decide,if_false]
 ·show(insL n.aP _ v).length=(insL n.aO _ s).length;have:=h.len;unfold insL;simp;omega
 ·show(r,k)∈(insL n.aO (slt n s) s).zip (insL n.aP (slt n s) v)<->_;rw[alA h.len.symm,Y3]
theorem aaj : ∀{l:List fD} (i:Nat),Asc l=true->Asc (l.take i)=true
 |_,0,_=>by simp[Asc]
 |[],i+1,_=>rfl
 | x::l,i+1,h=>by rw[uG];exact UU (aaj i (IU h)) (λy hy=>JV h y (gI hy))
theorem akV {n m v:aj}{s:fD}(h:JH n)(hs:s ∉ n.aO)(hm:addN n s v=some m):Asc m.aO=true:=by
 have hp:Gn n s=none:=by have:=(QE h).2 hs;unfold lk at this;simpa using this
 have hk:=h.kind;unfold addN at hm;rw[hp]at hm;simp only[hk,jY,show ¬((4:Int)=3) by decide,if_false,aH]at hm;subst hm;show Asc (insL n.aO (slt n s) s)=true;have hle:=adR n s;have hl:=h.len;have before:∀i,i<slt n s->bl (n.aO.getD i default) s=true:=λi hi=>by
  have h1:bl s (n.aO.getD i default)=false:=by
   unfold slt at hi;cases hf:(bV 0 n.aP.length).find? λi=>bl s (n.aO.getD i default)with
   | none=>rw[hf]at hi;exact Ob.1 hf i aI (by simpa using hi)
   | some j=>rw[hf]at hi;exact(IE.1 hf).2.2.2 i aI hi
  cases h2:bl (n.aO.getD i default) s with
  |true=>rfl
  |false=>exact eF (getD_mem default (by omega:i<n.aO.length)) (by rw[Pg h2 h1];exact hs)
 have behind:∀i,slt n s<=i->i<n.aO.length->bl s (n.aO.getD i default)=true:=λi h1 h2=>by
  have h3:slt n s<n.aP.length:=by omega
  have h4:bl s (n.aO.getD (slt n s) default)=true:=by
   unfold slt at h3⊢;cases hf:(bV 0 n.aP.length).find? λi=>bl s (n.aO.getD i default)with
   |none=>rw[hf]at h3;simp at h3
   |some j=>exact(IE.1 hf).2.2.1
  by_cases e:slt n s=i
  ·rw[<- e];exact h4
  ·exact DX h4 (Ho h.Qb (slt n s) i aI h2)
 generalize slt n s=p at *;unfold insL;have key:∀(A S:List fD),Asc A=true->Asc S=true->(∀x,x∈A->bl x s=true)->(∀y,y∈S->bl s y=true)->Asc ((A++[s])++S)=true:=by
  intro A
  induction A with
  |nil=>intro S _ hS _ h2;exact UU hS h2
  | cons a A ih=>
    intro S hA hS h1 h2;rw[zJ,zJ];refine UU (ih S (IU hA) hS (λx hx=>h1 x (by simp[hx])) h2) (λy hy=>?_);rcases bG.1 hy with hy|hy
    ·rcases bG.1 hy with hy|hy
     ·exact JV hA y hy
     ·rw[sN]at hy;subst hy;exact h1 a mg
    ·exact DX (h1 a mg) (h2 y hy)
 refine key _ _ (aaj p h.Qb) (aag p h.Qb) (λx hx=>?_) (λy hy=>?_)
 ·obtain⟨i,hi,e⟩:=kG.1 hx;have hi2:i<p/\i<n.aO.length:=by simp at hi;omega
  have:=before i hi2.1;rw[iD _ hi2.2]at this;rw[<- e];simpa using this
 ·obtain⟨i,hi,e⟩:=kG.1 hy;have hi2:p+i<n.aO.length:=by simp at hi;omega
  have:=behind (p+i) aI hi2;rw[iD _ hi2]at this;rw[<- e];simpa using this
structure Mp (m:aj):Prop where
 map:JH m
 num:m.wL=0
 text:m.lI=[]
theorem aoG {n:aj}(h:Parts n=true)(hk:n.bQ=4):Mp n:=⟨(QG h hk).1,(BK h hk).1,(BK h hk).2.1⟩
theorem amT {m x:aj}{s:fD}(h:lk m s=some x):∃j,Gn m s=some j/\m.aP.getD j default=x:=by unfold lk at h;exact dD.1 h
theorem aoA {m:aj}(h:JH m){i:Nat}(hi:i<m.aP.length):lk m (m.aO.getD i default)=some (m.aP.getD i default):=by
 have hi':i<m.aO.length:=by rw[<- h.len];exact hi
 rw[KC h,iD _ hi,iD _ hi'];exact kG.2 ⟨i,by simp;omega,mg⟩
theorem aa7 {m:aj}(h:JH m){i j:Nat}(hi:i<m.aO.length)(hj:j<m.aO.length)(e:m.aO.getD i default=m.aO.getD j default):i=j:=by
 rcases Nat.lt_trichotomy i j with k|k|k
 ·exact eF e (Jr (Ho h.Qb i j k hj))
 ·exact k
 ·exact eF e.symm (Jr (Ho h.Qb j i k hi))
theorem akY {m y:aj}{s:fD}{j:Nat}(h:JH m)(hj:Gn m s=some j)(r:fD):lk (Ji m j y) r=if r=s then some y else lk m r:=by
 unfold lk;rw[ajf];by_cases e:r=s
 ·subst e;rw[aA rfl,hj,kL,aiF (Ba hj)]
 ·rw[au e];cases hr:Gn m r with
  |none=>rfl
  | some i=>
    have hne:j≠i:=λe2=>by subst e2;have a:=Ol hj;have b:=Ol hr;rw[G5 h.kind,aZ]at a b;exact e (b.symm.trans a)
    simp[Ji,dJ,List.getElem?_set,hne]
theorem ak1 {m y:aj}{j:Nat}(h:Mp m):Mp (Ji m j y):=⟨⟨h.map.kind,h.map.Qb,by show(m.aP.set j y).length=m.aO.length;rw[qR];exact h.map.len⟩,h.num,h.text⟩
theorem agt {α:Type}{l:List α}{k:Nat}{y:α} : y∈zx l k<->∃i,∃h:i<l.length,i≠k/\l[i]=y:=by
 unfold zx;rw[bG,List.mem_take_iff_getElem,List.mem_drop_iff_getElem];constructor
 ·rintro(⟨i,h,e⟩|⟨i,h,e⟩)
  ·exact⟨i,aI,aI,e⟩
  ·exact⟨k+1+i,aI,aI,e⟩
 ·rintro⟨i,h,hk,e⟩;by_cases c:i<k
  ·exact .inl ⟨i,aI,e⟩
  ·refine .inr ⟨i-(k+1),aI,?_⟩;have:k+1+(i-(k+1))=i:=(by omega);simp only[this];exact e
theorem aha {α β:Type}{a:List α}{b:List β}{k:Nat}(h:a.length=b.length):(zx a k).zip (zx b k)=zx (a.zip b) k:=by
 unfold zx;rw[Gj (by simp[h])];have e1:(a.zip b).take k=(a.take k).zip (b.take k):=by rw[Hy,List.take_zipWith]
 have e2:(a.zip b).drop (k+1)=(a.drop (k+1)).zip (b.drop (k+1)):=by rw[Hy,List.drop_zipWith]
 rw[e1,e2]
theorem ane {m:aj}{s:fD}(h:JH m)(hs:s∈m.aO):∃m',F8 m s=some m'/\Mp m'/\∀r,lk m' r=if r=s then none else lk m r:=by
 obtain⟨x,hx⟩:=qy.1 ((aiK h).2 hs);obtain⟨j,hj,_⟩:=amT hx;obtain⟨hjl,hjh,_⟩:=NG.1 hj;rw[G5 h.kind,aZ]at hjh;have hjn:j<m.aO.length:=by rw[<- h.len];exact hjl
 have hM:JH (aj.mk 4 0 [] (zx m.aO j) (zx m.aP j)):=by refine⟨rfl,Cf.2 ((Cf.1 h.Qb).sublist (Ed _ _)),?_⟩;show(zx m.aP j).length=(zx m.aO j).length;rw[GI hjl,GI hjn,h.len]
 refine⟨_,?_,⟨hM,rfl,rfl⟩,λr=>?_⟩
 ·unfold F8;rw[hj];simp only[h.kind,jY]
 ·apply Option.ext;intro x;rw[KC hM];show(r,x)∈(zx m.aO j).zip (zx m.aP j)<->_;rw[aha h.len.symm,agt];by_cases e:r=s
  ·rw[aA e];constructor
   ·rintro⟨i,hi,hne,e2⟩;have l1:i<m.aO.length:=(by simp at hi;omega);rw[FH,dF]at e2;refine eF (aa7 h l1 hjn ?_) hne;rw[iD _ l1,e2.1,hjh,e]
   ·intro e2;cases e2
  ·rw[au e,KC h,kG];constructor
   ·rintro⟨i,hi,_,e2⟩;exact⟨i,hi,e2⟩
   ·rintro⟨i,hi,e2⟩;refine⟨i,hi,λc=>?_,e2⟩;subst c;rw[FH,dF]at e2;rw[iD _ hjn,e2.1]at hjh;exact e hjh
theorem amg {m v:aj}{s:fD}(h:JH m)(hs:s ∉ m.aO):∃m',addN m s v=some m'/\Mp m'/\∀r,lk m' r=if r=s then some v else lk m r:=by
 obtain⟨m',e,k1,k2,k3,k4,k5⟩:=ahx (v:=v) h hs;have hM:JH m':=⟨k1,akV h hs e,k4⟩;refine⟨m',e,⟨hM,k2,k3⟩,λr=>?_⟩;apply Option.ext;intro x;rw[KC hM,k5];by_cases c:r=s
 ·rw[aA c];constructor
  ·rintro(q|q)
   ·rw[dF]at q;rw[q.2]
   ·have:=(QE h).2 hs;rw[<- KC h,c,this]at q;cases q
  ·intro q;cases q;exact .inl (by rw[c])
 ·rw[au c,KC h];constructor
  ·rintro(q|q)
   ·rw[dF]at q;exact eF q.1 c
   ·exact q
  ·exact .inr
theorem JO {l:List fD}{i:Nat}(h:i<l.length){r:fD} : r∈l.take (i+1)<->r∈l.take i\/r=l.getD i default:=by rw[kC h,bG,sN,iD _ h]
theorem ai6 {m:aj}(h:JH m){i:Nat}(hi:i<m.aO.length):m.aO.getD i default ∉ m.aO.take i:=by
 intro c;obtain⟨j,hj,e⟩:=List.mem_take_iff_getElem.1 c;have hj':j<m.aO.length:=by omega
 have:=aa7 h hj' hi (by rw[iD _ hj'];exact e);omega
def upn (p:List fD)(o:uO):uO:=uO.mk o.bQ (p++o.uq) [] o.Value
theorem T.bs {n:aj}(s:fD)(h:JH n)(hl:n.aO.length<=1000):∃p:Nat,Ev (λf=>G.slices_BinarySearch_string f n.aO s) ((p:Int),(Gn n s).isSome)/\∀j,Gn n s=some j->p=j:=by
 obtain⟨p,g,hp⟩:=T.slices_BinarySearch_string s (by unfold big;omega) h.Qb;have hpl:=Zo h.kind h.Qb h.len hp;cases hc:decide (p<n.aO.length)&&n.aO.getD p default==s with
 | true=>rw[hc]at g hpl;rw[aA rfl]at hpl;refine⟨p,by rw[hpl];exact g,λj hj=>?_⟩;rw[hpl]at hj;exact Option.some.inj hj
 | false=>rw[hc]at g hpl;rw[au mg]at hpl;refine⟨p,by rw[hpl];exact g,λj hj=>?_⟩;rw[hpl]at hj;cases hj
theorem FO.big {B:Nat}{p:List fD}(hB:B<=1000)(h:FO B p):p.length<Ab.big:=by have:=h.1;unfold Ab.big;omega
theorem N2.fine {x:aj×aj}(h:N2 x):∃D E,Fine 60 D x.1/\Fine 60 E x.2:=by obtain⟨⟨D,h1⟩,⟨E,h2⟩⟩:=h;exact⟨D,E,h1,h2⟩
structure MF (D c:Nat)(m:aj):Prop where
 mp:Mp m
 cnt:m.aO.length<=c
 sh:∀s,s∈m.aO->s.length<=12
 kid:∀k,k∈m.aP->Fine 12 D k
theorem MF.fine {D c:Nat}{m:aj}(h:MF D c m)(hc:c<=12):Fine 12 (D+1) m:=by have h1:=h.cnt;have h2:=h.mp.map.len;exact⟨by rw[h.mp.text];simp,aI,h.sh,aI,λ_=>by omega,h.kid⟩
theorem adf {α:Type}{l:List α}{k:Nat}{v:α}(h:k<=l.length):(insL l k v).length=l.length+1:=by unfold insL;simp;omega
theorem Yu {m v:aj}{s:fD}{j:Nat}(h:JH m)(hj:Gn m s=some j):addN m s v=some (Ji m j v):=by unfold addN;rw[hj];simp[h.kind]
theorem Z9 {m v:aj}{s:fD}(h:JH m)(hj:Gn m s=none):addN m s v=some (aj.mk 4 0 [] (insL m.aO (slt m s) s) (insL m.aP (slt m s) v)):=by unfold addN;rw[hj];simp[h.kind]
theorem Zp {m:aj}{s:fD}(h:JH m):Gn m s=none<->s ∉ m.aO:=by rw[<- QE h];unfold lk;simp
theorem amX {D c:Nat}{m v:aj}{s:fD}(h:MF D c m)(hs:s.length<=12)(hv:Fine 12 D v) :
 ∃m',addN m s v=some m'/\MF D (c+1) m'/\∀r,lk m' r=if r=s then some v else lk m r:=by
 cases hj:Gn m s with
 | some j=>
   refine⟨Ji m j v,Yu h.mp.map hj,⟨ak1 h.mp,Nat.le_succ_of_le h.cnt,h.sh,λk hk=>?_⟩,akY h.mp.map hj⟩;rcases qg hk with q|q
   ·exact h.kid k q
   ·exact q▸hv
 | none=>
   obtain⟨m',e,g1,g2⟩:=amg (v:=v) h.mp.map ((Zp h.mp.map).1 hj);refine⟨m',e,?_,g2⟩;rw[Z9 h.mp.map hj,aH]at e;subst e;have hsl:=adR m s;have hl:=h.mp.map.len;refine⟨g1,?_,λt ht=>?_,λk hk=>?_⟩
   ·show(insL m.aO (slt m s) s).length<=_;rw[adf aI];have:=h.cnt;omega
   ·rcases Y3.1 ht with q|q
    ·exact q▸hs
    ·exact h.sh t q
   ·rcases Y3.1 hk with q|q
    ·exact q▸hv
    ·exact h.kid k q
theorem amY {D c:Nat}{m:aj}{s:fD}(h:MF D c m):MF D c ((F8 m s).getD m)/\∀r,lk ((F8 m s).getD m) r=if r=s then none else lk m r:=by
 cases hj:Gn m s with
 | none=>
   have:F8 m s=none:=(by unfold F8;rw[hj]);rw[this];refine⟨h,λr=>?_⟩;by_cases c:r=s
   ·rw[aA c,c];exact(QE h.mp.map).2 ((Zp h.mp.map).1 hj)
   ·rw[au c];rfl
 | some j=>
   have hs:s∈m.aO:=by apply Classical.byContradiction;intro q;rw[(Zp h.mp.map).2 q]at hj;cases hj
   obtain⟨m',e,g1,g2⟩:=ane h.mp.map hs;rw[e];refine⟨?_,g2⟩;unfold F8 at e;rw[hj]at e;simp only[h.mp.map.kind,jY,aH]at e;subst e;have hjl:=Ba hj;refine⟨g1,?_,λt ht=>h.sh t ((Ed _ _).subset ht),λk hk=>h.kid k ((Ed _ _).subset hk)⟩;show(zx m.aO j).length<=c;have:=h.mp.map.len;rw[GI aI];have:=h.cnt;omega
theorem T.adD {n v:aj}(s:fD)(h:Mp n)(hn:n.aO.length<=1000):∃m,addN n s v=some m/\Ev (λf=>G.pW f n s v) m:=by
 have hk:=h.map.kind;have hkl:=h.map.len;obtain⟨p,g,hlb⟩:=T.slices_BinarySearch_string s (by unfold big;omega) h.map.Qb;have hpl:=Zo hk h.map.Qb hkl hlb;have aoh:=hlb.le;cases hc:decide (p<n.aO.length)&&n.aO.getD p default==s with
 | true=>rw[hc,aA rfl]at hpl;refine⟨Ji n p v,Yu h.map hpl,aN ?_⟩;simp only[G.pW];have:=Ba hpl;refine ak g (dR hc (dw (aQ ?_)));rw[ai];rfl
 | false=>
   rw[hc,au mg]at hpl;have hsl:=ajx h.map.Qb hkl hlb hc;refine⟨aj.mk 4 0 [] (insL n.aO p s) (insL n.aP p v),by rw[Z9 h.map hpl,hsl],aN ?_⟩;simp only[G.pW];refine ak g (dB hc ?_);have i1:Ev (λf=>G.mZ f n.aO (p:Int) [s]) (insL n.aO p s):=by refine aN ?_;simp only[G.mZ];refine um (by simp;omega) (aQ ?_);rw[ai];rfl
   have i2:Ev (λf=>G.je f n.aP (p:Int) [v]) (insL n.aP p v):=by refine aN ?_;simp only[G.je];refine um (by simp;omega) (aQ ?_);rw[ai];rfl
   exact ak i1 (ak i2 (aQ (by rw[h.num,h.text,hk])))
theorem T.ahW {n:aj}(s:fD)(h:Mp n)(hn:n.aO.length<=1000):Ev (λf=>G.wF f n s) ((F8 n s).getD n):=by
 have hkl:=h.map.len;obtain⟨p,g,hp⟩:=T.bs s h.map hn;refine aN ?_;simp only[G.wF];refine ak g ?_;unfold F8;cases hj:Gn n s with
 |none=>exact dB rfl (bK _)
 | some j=>
   have e:=hp j hj;subst e;have hpl:=Ba hj;simp only[FC p];have d1:Ev (λf=>G.jW f n.aP (p:Int) ((p+1:Nat):Int)) (zx n.aP p):=by refine aN ?_;simp only[G.jW,ai];exact dw (bK _)
   have d2:Ev (λf=>G.slices_Delete_string f n.aO (p:Int) ((p+1:Nat):Int)) (zx n.aO p):=by refine aN ?_;simp only[G.slices_Delete_string,ai];exact dw (bK _)
   refine dR rfl (ak d2 (ak d1 (aQ ?_)));simp[h.map.kind,h.num,h.text]
def abr (m:aj)(s:fD)(v:aj):aj:=(addN m s v).getD m
theorem amW {D:Nat} : MF D 0 an3:=⟨⟨⟨rfl,rfl,rfl⟩,rfl,rfl⟩,aC _,(λs hs=>by cases hs),(λk hk=>by cases hk)⟩
structure MS (d:Nat)(a:aj):Prop where
 mp:Mp a
 sh:Shape (d+1) a=true
 len:a.aO.length<=6
 txt:∀s,s∈a.aO->s.length<=12
theorem aeM {d:Nat}{a:aj}(h:Shape (d+1) a=true)(hk:a.bQ=4):MS d a:=by obtain⟨_,h2,h3⟩:=QG (rV h) hk;exact⟨aoG (rV h) hk,h,h2,h3⟩
theorem MS.name {d:Nat}{a:aj}(h:MS d a){i:Nat}(hi:i<a.aP.length):(a.aO.getD i default).length<=12:=h.txt _ (getD_mem default (by rw[<- h.mp.map.len];exact hi))
theorem MS.mf {d:Nat}{a:aj}(h:MS d a):MF d 6 a:=⟨h.mp,h.len,h.txt,λk hk=>AA (wu h.sh k hk)⟩
theorem QH {D E c e:Nat}{m:aj}(h:MF D c m)(hD:D<=E)(hc:c<=e):MF E e m:=⟨h.mp,bM h.cnt hc,h.sh,λk hk=>(h.kid k hk).mono (aC _) hD⟩
theorem adE {D c:Nat}{m v:aj}{s:fD}(h:MF D c m)(hs:s.length<=12)(hv:Fine 12 D v):addN m s v=some (abr m s v)/\MF D (c+1) (abr m s v)/\∀r,lk (abr m s v) r=if r=s then some v else lk m r:=by
 obtain⟨m',e,h1,h2⟩:=amX h hs hv;have:abr m s v=m':=by unfold abr;rw[e];rfl
 rw[this];exact⟨e,h1,h2⟩
theorem Lt (k:Nat):bV 0 (k+1)=bV 0 k++[k]:=by rw[List.range'_concat];simp
theorem SQ {a:aj}(h:JH a){i:Nat}(hi:i<a.aP.length):a.aO.getD i default ∉ a.aO.take i:=ai6 h (by rw[<- h.len];exact hi)
def Ul (F:aj->aj->aj)(p m:aj)(i:Nat):aj:=
 if(p.aP.getD i default).bQ=0 then(F8 m (p.aO.getD i default)).getD m else abr m (p.aO.getD i default) (F ((lk m (p.aO.getD i default)).getD xM) (p.aP.getD i default))
def Ry (n:aj):aj:=if n.bQ=4 then n else an3
def Og : Nat->aj->aj->aj
 |0,_,p=>p
 |d+1,n,p=>if p.bQ=4 then(bV 0 p.aP.length).foldl (Ul (Og d) p) (Ry n)else p
theorem VQ {d:Nat}{n p:aj} : Og (d+1) n p=if p.bQ=4 then(bV 0 p.aP.length).foldl (Ul (Og d) p) (Ry n)else p:=by rw[Og]
def mgV (F:aj->aj->aj)(n0 p:aj)(r:fD):Option aj:=match lk p r with
 |none=>lk n0 r
 |some q=>if q.bQ=0 then none else some (F ((lk n0 r).getD xM) q)
theorem SG {d D c:Nat}{n0 p:aj}{F:aj->aj->aj}(mp:MS d p)(h0:MF D c n0){Q:aj->Prop}(hQ:Q xM)(hq:∀k,k∈n0.aP->Q k)(hF:∀o q,Q o->Shape d q=true->Fine 12 D (F o q)) :
 ∀i,i<=p.aP.length->MF D (c+i) ((bV 0 i).foldl (Ul F p) n0)/\∀r,lk ((bV 0 i).foldl (Ul F p) n0) r=if r∈p.aO.take i then mgV F n0 p r else lk n0 r:=by
 intro i
 induction i with
 |zero=>intro _;exact⟨h0,λr=>by simp⟩
 | succ i ih=>
   intro hi;obtain⟨h1,h2⟩:=ih aI;have hi':i<p.aP.length:=(by omega);have hin:i<p.aO.length:=(by rw[<- mp.mp.map.len];exact hi');have hx:=aoA mp.mp.map hi';have hnt:=SQ mp.mp.map hi';rw[Lt,EJ,wH,Gy];generalize (bV 0 i).foldl (Ul F p) n0=m at h1 h2⊢;have hms:lk m (p.aO.getD i default)=lk n0 (p.aO.getD i default):=(by rw[h2,au hnt]);have fin:∀(m':aj),(∀r,lk m' r=if r=p.aO.getD i default then mgV F n0 p (p.aO.getD i default)else lk m r)->∀r,lk m' r=if r∈p.aO.take (i+1)then mgV F n0 p r else lk n0 r:=λm' g r=>by
    rw[g];by_cases c:r=p.aO.getD i default
    ·rw[aA c,aA ((JO hin).2 (.inr c)),c]
    ·rw[au c,h2];by_cases q:r∈p.aO.take i
     ·rw[aA q,aA ((JO hin).2 (.inl q))]
     ·rw[au q,au (λz=>((JO hin).1 z).elim q c)]
   unfold Ul;by_cases c:(p.aP.getD i default).bQ=0
   ·rw[aA c];obtain⟨g1,g2⟩:=amY (s:=p.aO.getD i default) h1;refine⟨QH g1 (aC _) aI,fin _ (λr=>?_)⟩;rw[g2];have:mgV F n0 p (p.aO.getD i default)=none:=(by unfold mgV;rw[hx];simp only[aA c]);rw[this]
   ·rw[au c,hms];have hold:Q ((lk n0 (p.aO.getD i default)).getD xM):=by
     cases hl:lk n0 (p.aO.getD i default)with
     |none=>exact hQ
     |some x=>exact hq _ (adl hl)
    obtain⟨_,g1,g2⟩:=adE h1 (mp.name hi') (hF _ _ hold (Dp mp.sh hi'));refine⟨g1,fin _ (λr=>?_)⟩;rw[g2];have:mgV F n0 p (p.aO.getD i default)=some (F ((lk n0 (p.aO.getD i default)).getD xM) (p.aP.getD i default)):=(by unfold mgV;rw[hx];simp only[au c]);rw[this]
abbrev ShN (E:Nat)(n:aj):Prop:=Shape E n=true\/n=xM
theorem aco {E:Nat}{n:aj}(h:ShN E n):∃e,(e+1=E\/e=0)/\MF e 6 (Ry n)/\∀k,k∈(Ry n).aP->ShN e k:=by
 unfold Ry;by_cases hk:n.bQ=4
 ·rw[aA hk];rcases h with h|h
  ·cases E with
   |zero=>cases h
   |succ e=>exact⟨e,.inl rfl,(aeM h hk).mf,λk hk'=>.inl (wu h k hk')⟩
  ·rw[h]at hk;cases hk
 ·rw[au hk];exact⟨0,.inr rfl,QH amW (aC _) aI,λk hk'=>by cases hk'⟩
theorem QI : ∀(d:Nat) {E:Nat} {n p:aj},Shape d p=true->ShN E n->Fine 12 (d+E+1) (Og d n p)
 |0,_,_,_,h,_=>by cases h
 | d+1,E,n,p,hp,hn=>by
   rw[VQ];by_cases h4:p.bQ=4
   ·rw[aA h4];have mp:=aeM hp h4;obtain⟨e,he,hb,hk⟩:=aco hn;have h:=(SG (F:=Og d) (D:=d+e+1) mp (QH hb aI (aC _)) (Q:=ShN e) (.inr rfl) hk (λo q ho hq=>QI d hq ho) p.aP.length (aC _)).1;have:=mp.len;have:=mp.mp.map.len;exact(h.fine aI).mono (aC _) aI
   ·rw[au h4];exact(AA hp).mono (aC _) aI
section
section
variable {d e:Nat} {n0 p:aj} (mp:MS d p) (h0:MF (d+e+1) 6 n0) (hq:∀k,k∈n0.aP->ShN e k) (hd:d<=5)
include mp h0 hq hd
theorem T.Lm.L4 (hs:∀o q,ShN e o->Shape d q=true->Ev (λf=>G.fE f o q) (Og d o q)):∀(t i:Nat),i+t=p.aP.length ->
 Ev (λf=>G.fE.L4 f p (i:Int) ((bV 0 i).foldl (Ul (Og d) p) n0).bQ ((bV 0 i).foldl (Ul (Og d) p) n0).wL ((bV 0 i).foldl (Ul (Og d) p) n0).lI ((bV 0 i).foldl (Ul (Og d) p) n0).aO ((bV 0 i).foldl (Ul (Og d) p) n0).aP) ((bV 0 p.aP.length).foldl (Ul (Og d) p) n0):=by
 have hl:=mp.len;have hk:=mp.mp.map.len;intro t
 induction t with
 | zero=>intro i hi;have:i=p.aP.length:=(by omega);subst this;refine aN ?_;simp only[G.fE.L4];exact rX (aQ (aj.eta _))
 | succ t ih=>
   intro i hi;have hn:=ih (i+1) aI;rw[Lt,EJ,wH,Gy]at hn;have hF:=λ(o q:aj) (ho:ShN e o) (hq:Shape d q=true)=>QI d hq ho;obtain⟨h1,h2⟩:=SG mp h0 (Q:=ShN e) (.inr rfl) hq hF i aI;generalize (bV 0 i).foldl (Ul (Og d) p) n0=m at h1 h2 hn⊢;have hi':i<p.aP.length:=(by omega);have hx:=Dp mp.sh hi';have hc:=h1.cnt;have hms:lk m (p.aO.getD i default)=lk n0 (p.aO.getD i default):=(by rw[h2,au (SQ mp.mp.map hi')]);obtain⟨q,gq,hqj⟩:=T.bs (p.aO.getD i default) h1.mp.map aI;refine aN ?_;simp only[G.fE.L4,ai,FC i,aj.eta];unfold Ul at hn;refine rW (dw (dw ?_));by_cases c:(p.aP.getD i default).bQ=0
   ·rw[aA c]at hn;exact dR (by simpa using c) (ak (T.ahW _ h1.mp aI) hn)
   ·rw[au c]at hn;have fin:∀o,o=(lk m (p.aO.getD i default)).getD xM->Ev (λf=>G.fE.K5 f p (i:Int) m.bQ m.wL m.lI m.aO m.aP o.bQ o.wL o.lI o.aO o.aP) ((bV 0 p.aP.length).foldl (Ul (Og d) p) n0):=λo ho=>by
     have hso:ShN e o:=by
      rw[ho,hms];cases hl':lk n0 (p.aO.getD i default)with
      |none=>exact .inr rfl
      |some x=>exact hq x (adl hl')
     have hf:=hF _ _ hso hx;obtain⟨g1,_⟩:=adE h1 (mp.name hi') hf;obtain⟨m',g2,g3⟩:=T.adD (v:=Og d o (p.aP.getD i default)) (p.aO.getD i default) h1.mp aI;rw[g1]at g2;cases g2;rw[<- ho]at hn;refine aN ?_;simp only[G.fE.K5,ai,FC i,aj.eta];exact dw (ak (hs _ _ hso hx) (ak g3 hn))
    refine dB (by simpa using c) (ak gq ?_);cases hj:Gn m (p.aO.getD i default)with
    |none=>exact dB rfl (fin xM (by unfold lk;rw[hj];rfl))
    | some j=>have ej:=hqj j hj;subst ej;have hjl:=Ba hj;simp only[ai];exact dR rfl (dw (fin (m.aP.getD q default) (by unfold lk;rw[hj];rfl)))
end
theorem T.Lm : ∀(d:Nat) {E:Nat} {n p:aj},d<=5->Shape d p=true->ShN E n->Ev (λf=>G.fE f n p) (Og d n p)
 |0,_,_,_,_,h,_=>by cases h
 | d+1,E,n,p,hd,hp,hn=>by
   refine aN ?_;simp only[G.fE];rw[VQ];refine dh (λc=>?_) (λc=>?_)
   ·have:¬p.bQ=4:=(by simpa using c);rw[au this];exact ak (T.bC Fp (AA hp)) (bK _)
   ·have kp:p.bQ=4:=(by simpa using c);rw[aA kp];have mp:=aeM hp kp;obtain⟨e,he,hb,hq⟩:=aco hn;have L:=T.Lm.L4 mp (QH hb (by omega:e<=d+e+1) (aC _)) hq aI (λo q ho hq=>T.Lm d aI hq ho) p.aP.length 0 aI;have L':Ev (λf=>G.fE.K1 f p (Ry n).bQ (Ry n).wL (Ry n).lI (Ry n).aO (Ry n).aP) ((bV 0 p.aP.length).foldl (Ul (Og d) p) (Ry n)):=by
     refine aN ?_;simp only[G.fE.K1];exact L
    unfold Ry at L'⊢;refine dh (λc=>?_) (λc=>?_)
    ·have kn:n.bQ=4:=(by simpa using c);rw[aA kn]at L'⊢;have hf:Fine 12 E n:=by
      rcases hn with h|h
      ·exact AA h
      ·rw[h]at kn;cases kn
     exact ak (T.bC Fp hf) L'
    ·have kn:¬n.bQ=4:=(by simpa using c);rw[au kn]at L'⊢;exact L'
theorem T.sV {D E:Nat}{n p:aj}(hn:Fine 60 D n)(hp:Fine 60 E p):Ev (λf=>G.sV f n p) (pX (if Val n&&Val p then(some (Og 5 n p)).filter Val else none)):=by refine aN ?_;simp only[G.sV];refine ak (T.dm CY hn) (dh (λe1=>?_) (λe1=>aQ (by rw[e1];rfl)));refine ak (T.dm CY hp) (dh (λe2=>?_) (λe2=>aQ (by rw[e1,e2];rfl)));have gp:=T.Lm 5 aI (uF e2) (.inl (uF e1));have gc:=T.pV (o:=some (Og 5 n p)) Fp (λm hm=>by cases hm;exact QI 5 (uF e2) (.inl (uF e1)));rw[e1,e2];exact ak gp (ak gc (bK _))
end
theorem agC {n:aj}{s:fD} : Eh n [s]=F8 n s:=by unfold Eh Il;rfl
theorem T.jK : ∀(d:Nat) {E:Nat} {n p:aj},d<=5->Shape d p=true->ShN E n->Ev (λf=>G.jK f n p) (Og d n p)
 |0,_,_,_,_,h,_=>by cases h
 | d+1,E,n,p,hd,hp,hn=>by
   refine aN ?_;simp only[G.jK];rw[VQ];refine dh (λc=>?_) (λc=>?_)
   ·have:¬p.bQ=4:=(by simpa using c);rw[au this];exact ak (T.cO Fp (AA hp)) (bK _)
   ·have kp:p.bQ=4:=(by simpa using c);rw[aA kp];have mp:=aeM hp kp;obtain⟨e,he,hb,hq⟩:=aco hn;have hl:=mp.len;have hk:=mp.mp.map.len;have hF:=λ(o q:aj) (ho:ShN e o) (hq:Shape d q=true)=>QI d hq ho;have facts:=λi hi=>SG (F:=Og d) mp (QH hb (by omega:e<=d+e+1) (aC _)) (Q:=ShN e) (.inr rfl) hq hF i hi;have L:∀(t i:Nat),i+t=p.aP.length->Ev (λf=>G.jK.L2 f p (i:Int) ((bV 0 i).foldl (Ul (Og d) p) (Ry n)).bQ ((bV 0 i).foldl (Ul (Og d) p) (Ry n)).wL ((bV 0 i).foldl (Ul (Og d) p) (Ry n)).lI ((bV 0 i).foldl (Ul (Og d) p) (Ry n)).aO ((bV 0 i).foldl (Ul (Og d) p) (Ry n)).aP) ((bV 0 p.aP.length).foldl (Ul (Og d) p) (Ry n)):=by
     intro t
     induction t with
     | zero=>intro i hi;have:i=p.aP.length:=(by omega);subst this;refine aN ?_;simp only[G.jK.L2];exact rX (aQ (aj.eta _))
     | succ t ih=>
       intro i hi;have hnx:=ih (i+1) aI;rw[Lt,EJ,wH,Gy]at hnx;obtain⟨h1,h2⟩:=facts i aI;generalize (bV 0 i).foldl (Ul (Og d) p) (Ry n)=m at h1 h2 hnx⊢;have hi':i<p.aP.length:=(by omega);have hx:=Dp mp.sh hi';have hc:=h1.cnt;have hms:lk m (p.aO.getD i default)=lk (Ry n) (p.aO.getD i default):=(by rw[h2,au (SQ mp.mp.map hi')]);have hfm:=h1.fine aI;refine aN ?_;simp only[G.jK.L2,ai,FC i,aj.eta];unfold Ul at hnx;refine rW (dw (ak (T.jL _ Fp hfm) (dw ?_)));cases hpl:Gn m (p.aO.getD i default)with
       | none=>
         have neg:decide (0<=KF none)=false:=(by decide);have hlk:lk m (p.aO.getD i default)=none:=(by unfold lk;rw[hpl];rfl);by_cases c:(p.aP.getD i default).bQ=0
         ·rw[aA c]at hnx;have:(F8 m (p.aO.getD i default)).getD m=m:=(by unfold F8;rw[hpl];rfl);rw[this]at hnx;exact dR (by simpa using c) (dB neg (dw (dB (by simpa using c) (dw hnx))))
         ·rw[au c,hlk]at hnx;have hf:=hF xM _ (.inr rfl) hx;obtain⟨g1,_⟩:=adE h1 (mp.name hi') hf;have g3:=T.rO (p.aO.getD i default) (show 12<lim by decide) hfm hf;rw[g1]at g3;exact dB (by simpa using c) (dw (dR (by simpa using c) (dB neg (dw (dw (ak (T.jK d aI hx (.inr rfl:ShN 0 xM)) (ak g3 hnx)))))))
       | some j=>
         have pos:decide (0<=KF (some j))=true:=dW (by show(0:Int)<=(j:Int);omega);have hjl:=Ba hpl;have hlk:lk m (p.aO.getD i default)=some (m.aP.getD j default):=(by unfold lk;rw[hpl];rfl);by_cases c:(p.aP.getD i default).bQ=0
         ·rw[aA c]at hnx;have g3:=T.kW [p.aO.getD i default] (show 12+1<lim by decide) (by unfold big;simp) hfm;rw[agC]at g3;obtain⟨m',hm'⟩:∃m',F8 m (p.aO.getD i default)=some m':=(by unfold F8;rw[hpl];exact⟨_,rfl⟩);rw[hm']at g3 hnx;exact dR (by simpa using c) (dR pos (ak g3 hnx))
         ·rw[au c,hlk]at hnx;have hso:ShN e (m.aP.getD j default):=by
           rw[hms]at hlk;exact hq _ (adl hlk)
          have hf:=hF _ _ hso hx;have e1:abr m (p.aO.getD i default) (Og d (m.aP.getD j default) (p.aP.getD i default))=Ji m j (Og d (m.aP.getD j default) (p.aP.getD i default)):=(by unfold abr;rw[Yu h1.mp.map hpl];rfl);rw[lW,e1]at hnx;refine dB (by simpa using c) (dw (dR (by simpa using c) (dR pos ?_)));show Ev (λf=>Ab.chk _ _) _;simp only[KF,ai];exact dw (dw (ak (T.jK d aI hx hso) (ak (T.qf Fp hfm hf hjl) hnx)))
    have L':Ev (λf=>G.jK.K1 f p (Ry n).bQ (Ry n).wL (Ry n).lI (Ry n).aO (Ry n).aP) ((bV 0 p.aP.length).foldl (Ul (Og d) p) (Ry n)):=by refine aN ?_;simp only[G.jK.K1];exact L p.aP.length 0 aI
    unfold Ry at L'⊢;refine dh (λc=>?_) (λc=>?_)
    ·have kn:n.bQ=4:=(by simpa using c);rw[aA kn]at L'⊢;have hf:Fine 12 E n:=by
      rcases hn with h|h
      ·exact AA h
      ·rw[h]at kn;cases kn
     exact ak (T.cO Fp hf) L'
    ·have kn:¬n.bQ=4:=(by simpa using c);rw[au kn]at L'⊢;exact L'
def afg (n p:aj):Option aj:=if Val n&&Val p then(some (Og 5 n p)).filter Val else none
theorem T.rF {D E:Nat}{n p:aj}(hn:Fine 60 D n)(hp:Fine 60 E p):Ev (λf=>G.rF f n p) (pX (afg n p)):=by refine aN ?_;simp only[G.rF];unfold afg;refine ak (T.iI CY hn) (dh (λe1=>?_) (λe1=>aQ (by rw[e1];rfl)));refine ak (T.iI CY hp) (dh (λe2=>?_) (λe2=>aQ (by rw[e1,e2];rfl)));have gp:=T.jK 5 aI (uF e2) (.inl (uF e1));have gc:=T.qJ (o:=some (Og 5 n p)) Fp (λm hm=>by cases hm;exact QI 5 (uF e2) (.inl (uF e1)));rw[e1,e2];exact ak gp (ak gc (bK _))
def NmT (l:List fD)(t:fD):Bool:=decide (t∈l)||decide (([42]:fD)∈l)
theorem T.nJ {l:List fD}{t:fD}(hl:l.length<=1000):Ev (λf=>G.nJ f l t) (NmT l t):=by
 have L:∀(k i:Nat),i+k=l.length->Ev (λf=>G.nJ.L1 f l t i) (NmT (l.drop i) t):=by
  intro k
  induction k with
  | zero=>intro i hi;refine aN ?_;simp only[G.nJ.L1];refine rX (aQ ?_);rw[ay aI];rfl
  | succ k ih=>
    intro i hi;have e:NmT (l.drop i) t=(l.getD i default==t||(l.getD i default==[42]||NmT (l.drop (i+1)) t)):=by
     rw[gm default (by omega:i<l.length)];unfold NmT;rw[tJ];simp only[iJ,aF,aK,aZ];constructor
     ·rintro((h|h)|(h|h))
      ·exact .inl h.symm
      ·exact .inr (.inr (.inl h))
      ·exact .inr (.inl h.symm)
      ·exact .inr (.inr (.inr h))
     ·rintro(h|h|h|h)
      ·exact .inl (.inl h.symm)
      ·exact .inr (.inl h.symm)
      ·exact .inl (.inr h)
      ·exact .inr (.inr h)
    refine aN ?_;simp only[G.nJ.L1,ai,FC i];rw[e];refine rW (dw (dh (λe1=>aQ (by rw[e1];rfl)) (λe1=>dw (dh (λe2=>aQ (by rw[e1,e2];rfl)) (λe2=>?_)))));rw[e1,e2];exact ih (i+1) aI
 refine aN ?_;simp only[G.nJ];exact L l.length 0 aI
theorem T.Contains {l:List fD}{t:fD}(hl:l.length<=1000):Ev (λf=>G.slices_Contains_string f l t) (decide (t∈l)):=by
 have L:∀(k i:Nat),i+k=l.length->∃r:Int,Ev (λf=>G.slices_Index_string.L1 f l t i) r/\decide (0<=r)=decide (t∈l.drop i):=by
  intro k
  induction k with
  | zero=>intro i hi;refine⟨-1,aN ?_,by rw[ay aI];simp⟩;simp only[G.slices_Index_string.L1];exact rX (bK _)
  | succ k ih=>
    intro i hi;rw[gm default (by omega:i<l.length)];by_cases c:t=l.getD i default
    ·refine⟨i,aN ?_,by rw[<- c];simp⟩;simp only[G.slices_Index_string.L1,ai];exact rW (dw (dR (beq_iff_eq.2 c) (bK _)))
    ·obtain⟨r,h1,h2⟩:=ih (i+1) aI;refine⟨r,aN ?_,by rw[h2];simp only[aK,c,false_or]⟩;simp only[G.slices_Index_string.L1,ai,FC i];exact rW (dw (dB (beq_eq_false_iff_ne.2 c) h1))
 obtain⟨r,h1,h2⟩:=L l.length 0 aI;rw[dM]at h2;refine aN ?_;simp only[G.slices_Contains_string];refine ak (a:=r) (aN ?_) (aQ h2);simp only[G.slices_Index_string];exact h1
theorem T.qV {l:List fD}{t:fD}(hl:l.length<=1000):Ev (λf=>G.qV f l t) (NmT l t):=by refine aN ?_;simp only[G.qV];unfold NmT;exact ak (T.Contains hl) (dh (λe=>aQ (by rw[e];rfl)) (λe=>ak (T.Contains hl) (aQ (by rw[e];rfl))))
def JW (w a:List fD)(t:fD)(rd:Bool):Int:=
 if !w.isEmpty&&(t==[] || !NmT w t)then 412 else if !a.isEmpty&&(!(t==[])&&NmT a t)then(if rd then 304 else 412)else 200
theorem aeC {α:Type}(l:List α):decide ((0:Int)<(l.length:Int)) = !l.isEmpty:=by cases l<;>simp
theorem T.wW {w a:List fD}{t:fD}{rd:Bool}(hw:w.length<=1000)(ha:a.length<=1000):Ev (λf=>G.wW f w a t rd) (JW w a t rd):=by refine aN ?_;simp only[G.wW,aeC];unfold JW;have A:=T.nJ (t:=t) ha;have W:=T.nJ (t:=t) hw;generalize NmT a t=na at *;generalize NmT w t=nw at *;generalize w.isEmpty=ew;generalize a.isEmpty=ea;generalize (t==[])=et;cases ew<;>cases ea<;>cases et<;>cases na<;>cases nw<;>cases rd<;>exact evd
theorem T.lg {w a:List fD}{t:fD}{rd:Bool}(hw:JY w=true)(ha:JY a=true)(sw:Sm w)(sa:Sm a)(ht:t=[]\/(W9 t=true/\t.length<big))(lw:w.length<=1000)(la:a.length<=1000):Ev (λf=>G.lg f w a t rd) (JW w a t rd):=by
 have K:Ev (λf=>G.lg.K1 f w a t rd) (JW w a t rd):=by refine aN ?_;simp only[G.lg.K1,aeC];unfold JW;have A:=T.qV (t:=t) la;have W:=T.qV (t:=t) lw;clear ht;generalize NmT a t=na at *;generalize NmT w t=nw at *;generalize w.isEmpty=ew;generalize a.isEmpty=ea;generalize (t==[])=et;cases ew<;>cases ea<;>cases et<;>cases na<;>cases nw<;>cases rd<;>exact evd
 refine aN ?_;simp only[G.lg];have h1:=T.kK sw;have h2:=T.kK sa;rw[hw]at h1;rw[ha]at h2;refine ak h1 (dR rfl (ak h2 (dR rfl (dh (λ_=>K) (λe=>?_)))));rcases ht with h|⟨h,hl⟩
 ·rw[h]at e;cases e
 ·have h3:=T.o9 t hl;rw[h]at h3;exact ak h3 (dR rfl K)
end Go.Ab
