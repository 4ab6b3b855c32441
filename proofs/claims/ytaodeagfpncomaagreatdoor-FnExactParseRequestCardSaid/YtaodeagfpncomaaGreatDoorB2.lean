/- What the functions of the program compute (part 2). No conditions. -/
import Derived.Test.YtaodeagfpncomaaGreatDoorB1
set_option linter.unusedVariables false
set_option linter.unusedSimpArgs false
set_option maxRecDepth 100000
set_option maxHeartbeats 4000000
set_option linter.defProp false
open Array renaming getElem?_eq_some_iff->dm,replicate_succ->wV,replicate_zero->wW
open Bool renaming and_eq_true->ah,or_eq_true->dP,true_and->dX,and_eq_false_iff->lN,and_false->qJ,eq_iff_iff->qg,and_true->sK,true_or->wC,or_true->wz
open ByteArray renaming size_extract->nZ,empty->rG
open Go.Boxed renaming new->rP
open Go.ByteArray renaming toList_eq->vG
open Go.Fence renaming wide->kQ
open Go.IntKind renaming wrap->af
open Go.KeepsOthers renaming setCell->vI
open Go.Lib renaming indexByte_ge->Ar,indexByte->eG,hasPrefix->iO,splitK->mX,parseUint10->uB,pow10Tab->uh,atoiAll->xG
open Go.Value renaming ownBlock->qG,string->qi
open Go.World renaming ownsRow_nil->Aa,size_alloc->pJ,putObj_heap_other->qy,setCell->rf
open Int renaming toNat_natCast->ax
open List renaming map_take->AA,foldl_append->BJ,getElem_map->Cj,map_drop->Ec,drop_succ_cons->Fv,drop_of_length_le->aB,mem_cons_self->aG,all_eq_true->aN,mem_cons->aO,map->aP,mem_append->aS,length_append->ay,getElem?_append_left->bD,mem_cons_of_mem->bF,flatMap_cons->bG,getD->bH,map_cons->bJ,mem_map->bf,append_assoc->dB,length_singleton->dJ,mem_singleton->dL,eq_nil_of_length_eq_zero->dN,length_cons->dW,mem_append_right->dZ,getElem?_append_right->dw,cons_append->eH,take_of_length_le->eU,length_nil->fB,all_cons->fF,getElem_mem->fU,getElem?_cons_zero->gY,range'->gz,drop_zero->iC,append_nil->iZ,not_mem_nil->jL,size_toArray->jP,map_nil->jY,nil_append->ja,length_take->jc,length_drop->jk,getElem?_eq_none->kV,length_map->kX,length->kz,take_succ_eq_append_getElem->lZ,range'_succ->ni,foldl_cons->qj,map_append->rH,drop_append_of_le_length->wF,drop_eq_getElem_cons->xX,append_toArray->xu,all_nil->yA,map_map->yB,append_eq_nil_iff->yS,push_toArray->yt,singleton_append->zF
open List.cons renaming inj->jZ
open Nat renaming le_of_lt->Ez,zero_le->aJ,mul_le_mul_right->aW,le_refl->ak,le_trans->dR,strongRecOn->fC,lt_or_ge->rQ,le_succ->sH,succ_pos->wH,add_sub_cancel->xN,pow_succ->yC
open Option renaming filter->AU,map_eq_some_iff->bY,bind->lY,map_some->mD,bind_some->ou
open Option.some renaming injEq->aC
open Prod renaming ext->pz
open Prod.mk renaming injEq->aK
open UInt8 renaming ofNat_toNat->BK,ofNat->fA,toNat_inj->nN,toNat_ofNat'->uD
namespace Go.Ab
open Go
section
def okN (b:UInt8):Bool:=(decide (97<=b.toNat)&&decide (b.toNat<=122))||(decide (48<=b.toNat)&&decide (b.toNat<=57))
def NmV (s:di):Bool:=s.all okN&&(decide (1<=s.length)&&decide (s.length<=8))
def Ye (c:Int)(it:zo):Bool:=NmV it.rW&&(Val it.Ed&&(decide (1<=it.xy)&&decide (it.xy<=c)))
def O3 (l:List zo):List di:=l.map λit=>it.rW
def StV (s:tV):Bool:=(s.kM.all (Ye s.xJ)&&Asc (O3 s.kM))&&(decide (s.kM.length<=10)&&(decide (0<=s.xJ)&&decide (s.xJ<=999)))
structure PL (B:Nat)(s:tV):Prop where
 len:s.kM.length<=B
 QU:∀it,it∈s.kM->it.rW.length<=B
 nod:∀it,it∈s.kM->adA B it.Ed
theorem ML {l:List zo} : (O3 l).length=l.length:=by unfold O3;rw[kX]
theorem Vs {l:List zo}{i:Nat}(h:i<l.length):(O3 l).getD i default=(l.getD i default).rW:=by rw[lS _ (by rw[ML];exact h),lS _ h];unfold O3;rw[Cj]
theorem Ws {l:List di}{i:Nat}(h0:0<i)(h:i<l.length):Asc (l.drop (i-1))=(bl (l.getD (i-1) default) (l.getD i default)&&Asc (l.drop i)):=by rw[drop_pred h0 h,Asc,gQ (default:di) h]
theorem aaj {l:List di}{i:Nat}(h:l.length<=i):Asc (l.drop (i-1))=true:=by
 by_cases h0:l.length<=i-1
 ·rw[aB h0];rfl
 ·rw[gQ (default:di) (by omega:i-1<l.length),aB aI];rfl
theorem T.jr.L1 (s:di)(hs:s.length<big):∀(k i:Nat),i+k=s.length->Ev (λf=>G.jr.L1 f s i) ((s.drop i).all okN&&(decide (1<=s.length)&&decide (s.length<=8))):=by
 unfold big at hs;intro k
 induction k with
 | zero=>
   intro i hi;refine dF ?_;simp only[G.jr.L1];refine rU (aZ (T.gK _ _ _) (bU ?_));rw[aB aI,yA,dX]
   congr 1<;>(apply decide_eq_decide.2;omega)
 | succ k ih=>
   intro i hi;refine dF ?_;simp only[G.jr.L1,ax,NC,Gh i];rw[gQ (0:UInt8) (by omega:i<s.length),fF];have e1:(decide ((97:Int)<=((s.getD i 0).toNat:Int))&&decide (((s.getD i 0).toNat:Int)<=122))=(decide (97<=(s.getD i 0).toNat)&&decide ((s.getD i 0).toNat<=122)):=(by congr 1<;>(apply decide_eq_decide.2;omega));have e2:(decide ((48:Int)<=((s.getD i 0).toNat:Int))&&decide (((s.getD i 0).toNat:Int)<=57))=(decide (48<=(s.getD i 0).toNat)&&decide ((s.getD i 0).toNat<=57)):=(by congr 1<;>(apply decide_eq_decide.2;omega));refine vN (iY (aZ (T.gK _ _ _) ?_));rw[e1];refine fH (λh=>?_) (λh=>?_)
   ·refine(ih (i+1) aI).eq ?_;unfold okN;rw[show(decide (97<=(s.getD i 0).toNat)&&decide ((s.getD i 0).toNat<=122))=true from h,wC,dX]
   ·refine iY (aZ (T.gK _ _ _) ?_);rw[e2];refine fH (λh2=>?_) (λh2=>bU ?_)
    ·refine(ih (i+1) aI).eq ?_;unfold okN;rw[show(decide (48<=(s.getD i 0).toNat)&&decide ((s.getD i 0).toNat<=57))=true from h2,wz,dX]
    ·unfold okN;rw[show(decide (97<=(s.getD i 0).toNat)&&decide ((s.getD i 0).toNat<=122))=false from h,show(decide (48<=(s.getD i 0).toNat)&&decide ((s.getD i 0).toNat<=57))=false from h2];rfl
theorem T.jr (s:di)(hs:s.length<big):Ev (λf=>G.jr f s) (NmV s):=by refine dF ?_;simp only[G.jr];exact T.jr.L1 s hs s.length 0 aI
theorem T.kH.L1 (s:di)(hs:s.length<big):∀(k i:Nat),i+k=s.length->Ev (λf=>G.kH.L1 f s i) ((s.drop i).all okN):=by
 unfold big at hs;intro k
 induction k with
 | zero=>intro i hi;refine dF ?_;simp only[G.kH.L1];refine rU (bU ?_);rw[aB aI];rfl
 | succ k ih=>
   intro i hi;refine dF ?_;simp only[G.kH.L1,ax,Gh i];rw[gQ (0:UInt8) (by omega:i<s.length),fF];have yes:okN (s.getD i 0)=true->Ev (λf=>G.kH.L1 f s ((i+1:Nat):Int)) (okN (s.getD i 0)&&(s.drop (i+1)).all okN):=λh=>(ih (i+1) aI).eq (by rw[h];rfl);have no:okN (s.getD i 0)=false->Ev (λ_=>some false) (okN (s.getD i 0)&&(s.drop (i+1)).all okN):=λh=>bU (by rw[h];rfl);have ok:okN (s.getD i 0)=decide ((97<=(s.getD i 0).toNat/\(s.getD i 0).toNat<=122)\/(48<=(s.getD i 0).toNat/\(s.getD i 0).toNat<=57)):=(by unfold okN;simp);refine vN (iY ?_);refine fH (λh=>?_) (λh=>?_)
   ·simp only[aj]at h;refine iY (fH (λh2=>?_) (λh2=>?_))
    ·simp only[aj]at h2;exact no (by rw[ok];exact gW aI)
    ·simp only[aQ]at h2;refine iY (fH (λh3=>?_) (λh3=>?_))
     ·simp only[aj]at h3;exact no (by rw[ok];exact gW aI)
     ·simp only[aQ]at h3;exact yes (by rw[ok];exact iH aI)
   ·simp only[aQ]at h;refine iY (fH (λh2=>?_) (λh2=>?_))
    ·simp only[aj]at h2;refine iY (rU (iY (vN ?_)));exact no (by rw[ok];exact gW aI)
    ·simp only[aQ]at h2;exact yes (by rw[ok];exact iH aI)
theorem T.kH (s:di)(hs:s.length<big):Ev (λf=>G.kH f s) (NmV s):=by
 refine dF ?_;simp only[G.kH];unfold NmV;refine fH (λh=>bU ?_) (λh=>fH (λh2=>bU ?_) (λh2=>?_))
 ·have:s=[]:=by simpa using h
  subst this;rfl
 ·simp only[aj]at h2;rw[gW (show ¬s.length<=8 by omega),qJ,qJ]
 ·simp only[aQ]at h2;have hne:s≠[]:=by simpa using h
  have hl:1<=s.length:=by cases s with
   |nil=>exact aY rfl hne
   |cons _ _=>simp
  refine(T.kH.L1 s hs s.length 0 aI).eq ?_;rw[iH hl,iH (show s.length<=8 by omega),iC];simp
def aii (B:Nat)(n:au):Prop:=∃D,sF B D n
structure agp (B:Nat)(s:tV):Prop where
 len:s.kM.length<=B
 QU:∀it,it∈s.kM->it.rW.length<=B
 nod:∀it,it∈s.kM->aii B it.Ed
theorem agp.at_ {B:Nat}{s:tV}(h:agp B s){i:Nat}(hi:i<s.kM.length):(s.kM.getD i default).rW.length<=B/\aii B (s.kM.getD i default).Ed:=
 ⟨h.QU _ (getD_mem default hi),h.nod _ (getD_mem default hi)⟩
section
variable {B:Nat} {s:tV} (hB:B<=lim) (h:agp B s)
include hB h
theorem T0.pq.L1 : ∀(k i:Nat),i+k=s.kM.length->Ev (λf=>G.pq.L1 f s i) (((s.kM.drop i).all (Ye s.xJ)&&Asc ((O3 s.kM).drop (i-1)))&&(decide (s.kM.length<=10)&&(decide (0<=s.xJ)&&decide (s.xJ<=999)))):=by
 have hl:=h.len;unfold lim at hB;intro k
 induction k with
 | zero=>
   intro i hi;refine dF ?_;simp only[G.pq.L1];rw[aB aI,aaj (by rw[ML];omega)];refine rU (fH (λe=>?_) (λe=>bU ?_))
   ·refine aZ (T.gK _ _ _) (bU ?_);rw[iH (show s.kM.length<=10 by simp only[aj]at e;omega)];simp
   ·rw[gW (show ¬s.kM.length<=10 by simp only[aQ]at e;omega)];simp
 | succ k ih=>
   intro i hi;have hil:i<s.kM.length:=(by omega);obtain⟨hn,⟨D,hd⟩⟩:=h.at_ hil;refine dF ?_;simp only[G.pq.L1,ax,Gh i];rw[gQ (default:zo) hil,fF];refine vN (iY ?_);unfold Ye;refine aZ (T.jr _ (by unfold big;omega)) (fH (λe1=>?_) (λe1=>bU (by rw[e1];simp)));refine aZ (T0.iU (by unfold lim;omega) hd) (fH (λe2=>?_) (λe2=>bU (by rw[e2];simp)));refine aZ (T.gK _ _ _) (fH (λe3=>?_) (λe3=>bU (by rw[e3];simp)));rw[e1,e2,e3];have ih':=ih (i+1) aI;unfold Ye at ih';rw[xN]at ih';by_cases h0:0<i
   ·have e:af .i64 ((i:Int)-1)=((i-1:Nat):Int):=wrapN aI aI;rw[e,ax];rw[Ws h0 (by rw[ML];exact hil),Vs hil,Vs (by omega:i-1<s.kM.length)];refine vN (iY (fH (λh1=>bU ?_) (λh1=>fH (λh2=>bU ?_) (λh2=>?_))))
    ·rw[show bl (s.kM.getD (i-1) default).rW (s.kM.getD i default).rW=false from Wx h1];simp
    ·rw[aH]at h2;rw[show bl (s.kM.getD (i-1) default).rW (s.kM.getD i default).rW=false by rw[h2];exact UI _];simp
    ·have hb:bl (s.kM.getD (i-1) default).rW (s.kM.getD i default).rW=true:=by
      cases hb:bl (s.kM.getD (i-1) default).rW (s.kM.getD i default).rW with
      |true=>rfl
      |false=>rw[Yx h1 hb]at h2;simp at h2
     rw[hb];exact ih'.eq nV
   ·have:i=0:=(by omega);subst this;exact mW xR (ih'.eq nV)
theorem T0.pq : Ev (λf=>G.pq f s) (StV s):=by refine dF ?_;simp only[G.pq];exact T0.pq.L1 hB h s.kM.length 0 aI
theorem T0.oL.L1 : ∀(k i:Nat),i+k=s.kM.length->Ev (λf=>G.oL.L1 f s i) ((s.kM.drop i).all (Ye s.xJ)&&Asc ((O3 s.kM).drop (i-1))):=by
 have hl:=h.len;unfold lim at hB;intro k
 induction k with
 | zero=>intro i hi;refine dF ?_;simp only[G.oL.L1];rw[aB aI,aaj (by rw[ML];omega)];exact rU (jQ _)
 | succ k ih=>
   intro i hi;have hil:i<s.kM.length:=(by omega);obtain⟨hn,⟨D,hd⟩⟩:=h.at_ hil;refine dF ?_;simp only[G.oL.L1,ax,Gh i];rw[gQ (default:zo) hil,fF];have ih':=ih (i+1) aI;rw[xN]at ih';refine vN (iY ?_);refine aZ (T.kH _ (by unfold big;omega)) (fH (λe1=>?_) (λe1=>bU (by unfold Ye;rw[e1];simp)));have tail:∀q:Bool,(q=true->Asc ((O3 s.kM).drop (i-1))=Asc ((O3 s.kM).drop i))->q=true->Ev (λf=>cond (decide ((s.kM.getD i default).xy<1)) (some false) (cond (decide (s.xJ<(s.kM.getD i default).xy)) (some false)
    (lY (G.gU f (s.kM.getD i default).Ed) λv=>cond v (G.oL.L1 f s ((i+1:Nat):Int)) (some false)))) (Ye s.xJ (s.kM.getD i default)&&(s.kM.drop (i+1)).all (Ye s.xJ)&&Asc ((O3 s.kM).drop (i-1))):=λq hq hq'=>by
    rw[hq hq'];refine fH (λv1=>bU ?_) (λv1=>fH (λv2=>bU ?_) (λv2=>?_))
    ·simp only[aj]at v1;unfold Ye;rw[gW (show ¬ 1<=(s.kM.getD i default).xy by omega)];simp
    ·simp only[aj]at v2;unfold Ye;rw[gW (show ¬(s.kM.getD i default).xy<=s.xJ by omega)];simp
    ·simp only[aQ]at v1 v2;refine aZ (T0.gU (by unfold lim;omega) hd) (fH (λe2=>?_) (λe2=>bU (by unfold Ye;rw[e2];simp)));refine ih'.eq ?_;have:Ye s.xJ (s.kM.getD i default)=true:=by
      unfold Ye;rw[e1,e2,iH (show 1<=(s.kM.getD i default).xy by omega),iH (show(s.kM.getD i default).xy<=s.xJ by omega)];rfl
     rw[this];rfl
   by_cases h0:0<i
   ·have e:af .i64 ((i:Int)-1)=((i-1:Nat):Int):=wrapN aI aI;rw[e,ax];have hst:=Ws h0 (l:=O3 s.kM) (by rw[ML];exact hil);rw[Vs hil,Vs (by omega:i-1<s.kM.length)]at hst;refine vN (iY (fH (λh1=>?_) (λh1=>bU ?_)))
    ·exact tail true (λ_=>by rw[hst,show bl (s.kM.getD (i-1) default).rW (s.kM.getD i default).rW=true from h1];rfl) rfl
    ·rw[hst,show bl (s.kM.getD (i-1) default).rW (s.kM.getD i default).rW=false from h1];simp
   ·have:i=0:=(by omega);subst this;exact mW xR (tail true (λ_=>rfl) rfl)
theorem T0.oL : Ev (λf=>G.oL f s) (StV s):=by
 refine dF ?_;simp only[G.oL];unfold StV;refine fH (λe=>bU ?_) (λe=>fH (λe2=>bU ?_) (λe2=>fH (λe3=>bU ?_) (λe3=>?_)))
 ·rw[gW (show ¬s.kM.length<=10 by simp only[aj]at e;omega)];simp
 ·rw[gW (show ¬ 0<=s.xJ by simp only[aj]at e2;omega)];simp
 ·rw[gW (show ¬s.xJ<=999 by simp only[aj]at e3;omega)];simp
 ·simp only[aQ]at e e2 e3;refine(T0.oL.L1 hB h s.kM.length 0 aI).eq ?_;rw[iH (show s.kM.length<=10 by omega),iH (show 0<=s.xJ by omega),iH (show s.xJ<=999 by omega),iC];simp
end
theorem PL.at_ {B:Nat}{s:tV}(h:PL B s){i:Nat}(hi:i<s.kM.length):(s.kM.getD i default).rW.length<=B/\adA B (s.kM.getD i default).Ed:=
 ⟨h.QU _ (getD_mem default hi),h.nod _ (getD_mem default hi)⟩
theorem PL.fin {B:Nat}{s:tV}(h:PL B s):agp B s:=⟨h.len,h.QU,λit hi=>let ⟨D,hd⟩:=h.nod it hi;⟨D,hd.fin0⟩⟩
structure StF (s:tV):Prop where
 itm:∀it,it∈s.kM->Ye s.xJ it=true
 asc:Asc (O3 s.kM)=true
 len:s.kM.length<=10
 lo:0<=s.xJ
 hi:s.xJ<=999
structure ItF (c:Int)(it:zo):Prop where
 QU:NmV it.rW=true
 nod:Val it.Ed=true
 lo:1<=it.xy
 hi:it.xy<=c
theorem ai0 {c:Int}{it:zo} : Ye c it=true<->ItF c it:=by unfold Ye;simp only[ah,aj];exact⟨λ⟨h1,h2,h3,h4⟩=>⟨h1,h2,h3,h4⟩,λh=>⟨h.QU,h.nod,h.lo,h.hi⟩⟩
theorem Zw {s:di}(h:NmV s=true):1<=s.length/\s.length<=8:=by unfold NmV at h;simp only[ah,aj]at h;exact h.2
theorem StF.it {s:tV}(h:StF s){i:Nat}(hi:i<s.kM.length):ItF s.xJ (s.kM.getD i default):=ai0.1 (h.itm _ (getD_mem default hi))
end
section
def okH (b:UInt8):Bool:=(decide (48<=b.toNat)&&decide (b.toNat<=57))||(decide (97<=b.toNat)&&decide (b.toNat<=102))
def Lt (s:di):Bool:=s.all okH&&decide (s.length=4)
def IJ (s:di):Bool:=s==[42]||Lt s
def Bz (l:List di):Bool:=l.all IJ&&decide (l.length<=4)
def hexD : di:=[48,49,50,51,52,53,54,55,56,57,97,98,99,100,101,102]
theorem ag9 : ∀n:Nat,n<256->decide (eG hexD (fA n)<0) = !okH (fA n):=by decide +kernel
theorem aiO (b:UInt8):decide (eG hexD b<0) = !okH b:=by
 have:=ag9 b.toNat b.toNat_lt
 rwa[BK]at this
theorem T.kL (s:di)(hs:s.length<big):Ev (λf=>G.kL f s) (Lt s):=by
 unfold big at hs;have L:∀(k i:Nat),i+k=s.length->Ev (λf=>G.kL.L1 f s i) ((s.drop i).all okH&&decide (s.length=4)):=by
  intro k
  induction k with
  | zero=>intro i hi;refine dF ?_;simp only[G.kL.L1];refine rU (bU ?_);rw[aB aI,yA,dX,qg,aH,aj];omega
  | succ k ih=>
    intro i hi;refine dF ?_;simp only[G.kL.L1,ax,NC,Gh i];rw[gQ (0:UInt8) (by omega:i<s.length),fF];have e1:(decide ((48:Int)<=((s.getD i 0).toNat:Int))&&decide (((s.getD i 0).toNat:Int)<=57))=(decide (48<=(s.getD i 0).toNat)&&decide ((s.getD i 0).toNat<=57)):=(by congr 1<;>(apply decide_eq_decide.2;omega));have e2:(decide ((97:Int)<=((s.getD i 0).toNat:Int))&&decide (((s.getD i 0).toNat:Int)<=102))=(decide (97<=(s.getD i 0).toNat)&&decide ((s.getD i 0).toNat<=102)):=(by congr 1<;>(apply decide_eq_decide.2;omega));refine vN (iY (aZ (T.gK _ _ _) ?_));rw[e1];refine fH (λh=>?_) (λh=>?_)
    ·refine(ih (i+1) aI).eq ?_;unfold okH;rw[show(decide (48<=(s.getD i 0).toNat)&&decide ((s.getD i 0).toNat<=57))=true from h,wC,dX]
    ·refine iY (aZ (T.gK _ _ _) ?_);rw[e2];refine fH (λh2=>?_) (λh2=>bU ?_)
     ·refine(ih (i+1) aI).eq ?_;unfold okH;rw[show(decide (97<=(s.getD i 0).toNat)&&decide ((s.getD i 0).toNat<=102))=true from h2,wz,dX]
     ·unfold okH;rw[show(decide (48<=(s.getD i 0).toNat)&&decide ((s.getD i 0).toNat<=57))=false from h,show(decide (97<=(s.getD i 0).toNat)&&decide ((s.getD i 0).toNat<=102))=false from h2];rfl
 refine dF ?_;simp only[G.kL];exact L s.length 0 aI
theorem T.nD (s:di)(hs:s.length<big):Ev (λf=>G.nD f s) (Lt s):=by
 unfold big at hs;have hI:∀b:UInt8,Ev (λf=>G.strings_IndexByte f [48,49,50,51,52,53,54,55,56,57,97,98,99,100,101,102] (b.toNat:Int)) (eG hexD b):=λb=>by refine dF ?_;simp only[G.strings_IndexByte];refine aZ (dF ?_) (jQ _);simp only[G.jB];refine bU ?_;rw[ax,show b.toNat.toUInt8=b from BK];rfl
 have L:∀(k i:Nat),i+k=s.length->Ev (λf=>G.nD.L1 f s i) ((s.drop i).all okH):=by
  intro k
  induction k with
  | zero=>intro i hi;refine dF ?_;simp only[G.nD.L1];refine rU (bU ?_);rw[aB aI];rfl
  | succ k ih=>
    intro i hi;refine dF ?_;simp only[G.nD.L1,ax,Gh i];rw[gQ (0:UInt8) (by omega:i<s.length),fF];refine vN (iY (aZ (hI _) ?_));rw[aiO];refine fH (λh=>bU ?_) (λh=>(ih (i+1) aI).eq ?_)
    ·have:okH (s.getD i 0)=false:=(by simpa using h);rw[this];rfl
    ·have:okH (s.getD i 0)=true:=(by simpa using h);rw[this];rfl
 refine dF ?_;simp only[G.nD];unfold Lt;refine fH (λe=>bU ?_) (λe=>?_)
 ·have:¬s.length=4:=by
   have:(s.length:Int)≠4:=(by simpa using e);omega
  rw[gW this,qJ]
 ·have:s.length=4:=by
   have:(s.length:Int)=4:=(by simpa using e);omega
  exact(L s.length 0 aI).eq (by rw[iH this,sK,iC])
theorem T.iG {l:List di}(h:Sm l):Ev (λf=>G.iG f l) (Bz l):=by
 have hl:=h.1;unfold big at hl;have L:∀(k i:Nat),i+k=l.length->Ev (λf=>G.iG.L1 f l i) ((l.drop i).all IJ&&decide (l.length<=4)):=by
  intro k
  induction k with
  | zero=>intro i hi;refine dF ?_;simp only[G.iG.L1];refine rU (bU ?_);rw[aB aI,yA,dX];apply decide_eq_decide.2;omega
  | succ k ih=>intro i hi;refine dF ?_;simp only[G.iG.L1,ax,Gh i];rw[gQ (default:di) (by omega:i<l.length),fF];unfold IJ;refine vN (iY (fH (λe=>(ih (i+1) aI).eq (by rw[e];rfl)) (λe=>iY (aZ (T.kL _ (h.get aI)) ?_))));exact fH (λe2=>(ih (i+1) aI).eq (by rw[e,e2];rfl)) (λe2=>bU (by rw[e,e2];rfl))
 refine dF ?_;simp only[G.iG];exact L l.length 0 aI
theorem T.jS {l:List di}(h:Sm l):Ev (λf=>G.jS f l) (Bz l):=by
 have hl:=h.1;unfold big at hl;have L:∀(k i:Nat),i+k=l.length->Ev (λf=>G.jS.L1 f l i) ((l.drop i).all IJ):=by
  intro k
  induction k with
  | zero=>intro i hi;refine dF ?_;simp only[G.jS.L1];refine rU (bU ?_);rw[aB aI];rfl
  | succ k ih=>intro i hi;refine dF ?_;simp only[G.jS.L1,ax,Gh i];rw[gQ (default:di) (by omega:i<l.length),fF];unfold IJ;refine vN (iY (fH (λe=>(ih (i+1) aI).eq (by rw[e];rfl)) (λe=>aZ (T.nD _ (h.get aI)) ?_)));exact fH (λe2=>(ih (i+1) aI).eq (by rw[e,e2];rfl)) (λe2=>bU (by rw[e,e2];rfl))
 refine dF ?_;simp only[G.jS];unfold Bz;refine fH (λe=>bU ?_) (λe=>(L l.length 0 aI).eq ?_)
 ·rw[gW (show ¬l.length<=4 by simp only[aj]at e;omega),qJ]
 ·rw[iH (show l.length<=4 by simp only[aQ]at e;omega),sK,iC]
structure PI (B:Nat)(q:cZ):Prop where
 QU:q.rW.length<=B
 want:xh B q.xZ
 avoid:xh B q.tu
 body:adA B q.Body
 ops:V4 q.vZ
def Yf (q:cZ):Bool:=(decide (1<=q.gZ)&&decide (q.gZ<=5))&&(NmV q.rW&&(Bz q.xZ&&(Bz q.tu&&(Val q.Body&&II q.vZ))))
structure Ns (B:Nat)(q:cZ):Prop where
 QU:q.rW.length<=B
 want:xh B q.xZ
 avoid:xh B q.tu
 body:aii B q.Body
 ops:KD q.vZ
section
variable {B:Nat} {q:cZ} (hB:B<=lim) (h:Ns B q)
include hB h
theorem T0.kC : Ev (λf=>G.kC f q) (Yf q):=by obtain⟨E,hb⟩:=h.body;have hn:=h.QU;unfold lim at hB;refine dF ?_;simp only[G.kC];unfold Yf;refine aZ (T.gK _ _ _) (fH (λe1=>?_) (λe1=>bU (by rw[e1];rfl)));refine aZ (T.jr _ (by unfold big;omega)) (fH (λe2=>?_) (λe2=>bU (by rw[e1,e2];rfl)));refine aZ (T.iG (h.want.sm (by unfold lim;omega))) (fH (λe3=>?_) (λe3=>bU (by rw[e1,e2,e3];rfl)));refine aZ (T.iG (h.avoid.sm (by unfold lim;omega))) (fH (λe4=>?_) (λe4=>bU (by rw[e1,e2,e3,e4];rfl)));refine aZ (T0.iU (by unfold lim;omega) hb) (fH (λe5=>?_) (λe5=>bU (by rw[e1,e2,e3,e4,e5];rfl)));exact aZ (T0.jA h.ops) (bU (by rw[e1,e2,e3,e4,e5];rfl))
theorem T0.lV : Ev (λf=>G.lV f q) (Yf q):=by obtain⟨E,hb⟩:=h.body;have hn:=h.QU;unfold lim at hB;refine dF ?_;simp only[G.lV];unfold Yf;refine fH (λe0=>?_) (λe0=>bU (by rw[e0];rfl));refine fH (λe1=>?_) (λe1=>bU (by rw[e0,e1];rfl));refine aZ (T.kH _ (by unfold big;omega)) (fH (λe2=>?_) (λe2=>bU (by rw[e0,e1,e2];rfl)));refine aZ (T.jS (h.want.sm (by unfold lim;omega))) (fH (λe3=>?_) (λe3=>bU (by rw[e0,e1,e2,e3];rfl)));refine aZ (T.jS (h.avoid.sm (by unfold lim;omega))) (fH (λe4=>?_) (λe4=>bU (by rw[e0,e1,e2,e3,e4];rfl)));refine aZ (T0.gU (by unfold lim;omega) hb) (fH (λe5=>?_) (λe5=>bU (by rw[e0,e1,e2,e3,e4,e5];rfl)));exact aZ (T0.je h.ops) (bU (by rw[e0,e1,e2,e3,e4,e5];rfl))
end
theorem PI.fin {B:Nat}{q:cZ}(h:PI B q):Ns B q:=⟨h.QU,h.want,h.avoid,let ⟨D,hd⟩:=h.body;⟨D,hd.fin0⟩,h.ops.fin⟩
section
variable {B:Nat} {q:cZ} (hB:B<=lim) (h:PI B q)
include hB h
theorem T.kC : Ev (λf=>G.kC f q) (Yf q):=T0.kC hB h.fin
theorem T.lV : Ev (λf=>G.lV f q) (Yf q):=T0.lV hB h.fin
end
structure aac (l:List cZ):Prop where
 len:l.length<=1000
 req:∀q,q∈l->PI 60 q
theorem aac.at_ {l:List cZ}(h:aac l){i:Nat}(hi:i<l.length):PI 60 (l.getD i default):=h.req _ (getD_mem default hi)
structure aih (l:List cZ):Prop where
 len:l.length<=1048576
 req:∀q,q∈l->Ns 1048576 q
theorem aih.at_ {l:List cZ}(h:aih l){i:Nat}(hi:i<l.length):Ns 1048576 (l.getD i default):=h.req _ (getD_mem default hi)
theorem Ns.mono {B C:Nat}{q:cZ}(h:Ns B q)(hB:B<=C):Ns C q:=⟨dR h.QU hB,⟨dR h.want.1 hB,λs hs=>dR (h.want.2 s hs) hB⟩,⟨dR h.avoid.1 hB,λs hs=>dR (h.avoid.2 s hs) hB⟩,let ⟨D,hd⟩:=h.body;⟨D,hd.mono hB (ak _)⟩,h.ops⟩
theorem aac.fin {l:List cZ}(h:aac l):aih l:=⟨by have:=h.len;omega,λq hq=>(h.req q hq).fin.mono aI⟩
end
def lk (n:au)(s:di):Option au:=(plc n s).map λj=>n.bC.getD j default
structure ajZ (n:au):Prop where
 kind:n.dH=4
 asc:Asc n.dS=true
 len:n.bC.length=n.dS.length
theorem Vk {n:au}(h:Parts n=true)(hk:n.dH=4):ajZ n/\n.dS.length<=6/\∀s,s∈n.dS->s.length<=12:=by obtain⟨_,_,hN,hl,hkl⟩:=Cf h hk;exact⟨⟨hk,ai9 hN,hkl⟩,hl,λs hs=>Q9 (Zv hN s hs)⟩
structure Acc (n:au)(m:Nat):Prop where
 map:ajZ n
 num:n.ve=0
 text:n.oz=[]
 len:n.dS.length<=m
 small:∀s,s∈n.dS->s.length<=12
theorem Acc.eq {n:au}{m:Nat}(h:Acc n m):n=au.mk 4 0 [] n.dS n.bC:=by obtain⟨⟨h1,_,_⟩,h2,h3,_,_⟩:=h;cases n;simp only at h1 h2 h3;subst h1;subst h2;subst h3;rfl
open Classical in
noncomputable def mn (F:au->au->au->Option au)(o a b:au)(s:di):Option (Option au):=
 match lk a s,lk b s,lk o s with
 |some x,some y,some z=>(F z x y).map some
 |some x,some y,none=>if x=y then some (some x)else none
 |some x,none,none=>some (some x)
 |none,some y,none=>some (some y)
 |some x,none,some z=>if x=z then some none else none
 |none,some y,some z=>if y=z then some none else none
 |none,none,_=>some none
def BR (z:Int):di:=if z<0 then 45::yO (-z).toNat else yO z.toNat
def BD (b:UInt8):di:=if b=34\/b=92 then [92,b]else [b]
def C9 (s:di):di:=34::(s.flatMap BD++[34])
def CG (F:au->di)(n:au)(i:Nat):di:=((if 0<i then [44]else [])++(if n.dH=4 then C9 (n.dS.getD i default)++[58]else []))++F (n.bC.getD i default)
def nS : Nat->au->di
 |0,_=>[]
 | d+1,n=>if n.dH=1 then BR n.ve else if n.dH=2 then C9 n.oz else if n.dH=0 then [110,117,108,108]else
   if n.dH=4 then([123]++(gz 0 n.bC.length).flatMap (CG (nS d) n))++[125]else([91]++(gz 0 n.bC.length).flatMap (CG (nS d) n))++[93]
theorem pG {d:Nat}{n:au} : nS (d+1) n=if n.dH=1 then BR n.ve else if n.dH=2 then C9 n.oz else if n.dH=0 then [110,117,108,108]else
 if n.dH=4 then([123]++(gz 0 n.bC.length).flatMap (CG (nS d) n))++[125]else([91]++(gz 0 n.bC.length).flatMap (CG (nS d) n))++[93]:=by rw[nS]
theorem maxL : 4000000000<=maxLen:=xR
theorem VE (s:di):(C9 s).length<=2*s.length+2:=by
 have:(s.flatMap BD).length<=2*s.length:=by
  induction s with
  |nil=>simp
  | cons b s ih=>rw[bG,ay,dW];have:(BD b).length<=2:=(by unfold BD;split<;>simp);omega
 unfold C9;simp only[dW,ay,fB];omega
theorem SS {s:di}{i:Nat}(h:i<s.length):(s.take (i+1)).drop i=[s.getD i 0]:=by rw[lZ h,wF (by simp;omega),aB (by rw[jc];omega),ja,lS _ h]
theorem T.lU (s:di)(hs:s.length<=1000000):Ev (λf=>G.lU f s) (C9 s):=by
 have hM:=maxL;have L:∀(k i:Nat) (z:di),i+k=s.length->z.length<=2*i+1->Ev (λf=>G.lU.L1 f s z i) (z++((s.drop i).flatMap BD++[34])):=by
  intro k
  induction k with
  | zero=>intro i z hi hz;refine dF ?_;simp only[G.lU.L1];refine rU (iY (bU ?_));rw[aB aI];rfl
  | succ k ih=>
    intro i z hi hz;have hil:i<s.length:=(by omega);have e1:=SS hil;have two:s.getD i 0=34\/s.getD i 0=92->Ev (λf=>G.lU.L1 f s ((z++[92])++[s.getD i 0]) ((i+1:Nat):Int)) (z++((s.drop i).flatMap BD++[34])):=λhq=>by refine(ih (i+1) _ aI (by simp;omega)).eq ?_;rw[gQ (0:UInt8) hil,bG];have:BD (s.getD i 0)=[92,s.getD i 0]:=aF hq;rw[this];simp
    have byt:∀c:UInt8,(((s.getD i 0).toNat:Int)==(c.toNat:Int))=(s.getD i 0==c):=λc=>by rw[qg,aH,aH];exact⟨λh=>nN.1 aI,λh=>by rw[h]⟩
    refine dF ?_;simp only[G.lU.L1,ax,Gh i,e1];refine vN (iY (fH (λh=>?_) (λh=>?_)))
    ·have h:s.getD i 0=34:=(by rw[show((34:Int))=((34:UInt8).toNat:Int)from rfl,byt]at h;simpa using h);exact iY (iY (yh (by simp only[dJ];omega) (two (.inl h))))
    ·have h:s.getD i 0≠34:=(by rw[show((34:Int))=((34:UInt8).toNat:Int)from rfl,byt]at h;simpa using h);refine iY (fH (λh2=>?_) (λh2=>?_))
     ·have h2:s.getD i 0=92:=(by rw[show((92:Int))=((92:UInt8).toNat:Int)from rfl,byt]at h2;simpa using h2);exact iY (iY (yh (by simp only[dJ];omega) (two (.inr h2))))
     ·have h2:s.getD i 0≠92:=(by rw[show((92:Int))=((92:UInt8).toNat:Int)from rfl,byt]at h2;simpa using h2);refine iY (yh (by simp only[dJ];omega) ?_);refine(ih (i+1) _ aI (by simp;omega)).eq ?_;rw[gQ (0:UInt8) hil,bG];have:BD (s.getD i 0)=[s.getD i 0]:=ai (λq=>q.elim h h2);rw[this];simp
 refine dF ?_;simp only[G.lU];exact(L s.length 0 [34] aI nV).eq (by rw[iC];rfl)
theorem D6 : ∀{i:Nat},i<=999999->(yO i).length<=6:=by
 have step:∀{i m:Nat},(yO (i/10)).length<=m->(yO i).length<=m+1:=λ{i m} h=>by
  rw[yO];split
  ·simp
  ·simp;omega
 intro i h;have h1:(yO (i/10/10/10/10/10)).length<=1:=by rw[x8 aI];simp
 exact step (step (step (step (step h1))))
theorem ad8 {z:Int}(h1 : -999999<=z)(h2:z<=999999):(BR z).length<=7:=by
 unfold BR;split
 ·have:=D6 (i:=(-z).toNat) aI;simp;omega
 ·have:=D6 (i:=z.toNat) aI;omega
theorem T.ac0 {z:Int}(h1 : -999999<=z)(h2:z<=999999):Ev (λf=>G.mZ f z) (BR z):=by
 have hM:=maxL;unfold BR;by_cases h:z<0
 ·rw[aF h];have w:af .i64 (0-z)=((-z).toNat:Int):=wrapN aI aI;have hl:=D6 (i:=(-z).toNat) aI;refine dF ?_;simp only[G.mZ,w];exact mF (iH h) (mW (by simp only[beq_eq_false_iff_ne];omega) (aZ (T.decimal (by unfold lim;omega)) (iY (bU rfl))))
 ·rw[ai h];obtain⟨k,rfl⟩:∃k:Nat,z=k:=⟨z.toNat,aI⟩;rw[ax];exact T.decimal (by unfold lim;omega)
theorem GI {n:au}(h:Parts n=true)(hk:n.dH=1) : -999999<=n.ve/\n.ve<=999999:=by unfold Parts at h;simp[hk]at h;omega
theorem Lc {n:au}(h:Parts n=true):n.oz.length<=12:=by
 by_cases hk:n.dH=2
 ·unfold Parts at h;simp[hk]at h;exact Q9 h.2.1
 ·unfold Parts at h;simp only[ah,dP,aH]at h;have:=h.1.1.2.resolve_left hk;rw[this];simp
theorem aaA {α:Type}{g:Nat->List α}{m:Nat} : ∀(k i:Nat),(∀j,i<=j->j<i+k->(g j).length<=m)->((gz i k).flatMap g).length<=k*m:=by
 intro k
 induction k with
 |zero=>intro i _;simp
 | succ k ih=>intro i h;have h1:=h i aI aI;have h2:=ih (i+1) (λj h1 h2=>h j aI aI);rw[ni,bG,ay,Nat.add_mul];omega
theorem U6 : ∀(d:Nat) {n:au},Shape d n=true->(nS d n).length<=200*7^d
 |0,_,h=>by cases h
 | d+1,n,h=>by
   have hp:=mP h;have h6:=ER h;have akt:1<=7^d:=Nat.one_le_pow _ _ aI;rw[pG,yC];have hb:((gz 0 n.bC.length).flatMap (CG (nS d) n)).length<=6*(28+200*7^d):=by
    refine dR (aaA (m:=28+200*7^d) _ _ (λj _ hj=>?_)) (aW _ h6);have hj':j<n.bC.length:=(by omega);have hk:=U6 d (JU h hj');unfold CG;rw[ay,ay];have a1:(if 0<j then([44]:di)else []).length<=1:=(by split<;>simp);have a2:(if n.dH=4 then C9 (n.dS.getD j default)++[58]else []).length<=27:=by
     split
     ·rename_i h4;obtain⟨mn,_,hn⟩:=Vk hp h4;have:=hn _ (getD_mem default (show j<n.dS.length by rw[<- mn.len];exact hj'));have:=VE (n.dS.getD j default);simp only[ay,dJ];omega
     ·simp
    omega
   split
   ·rename_i h1;obtain⟨b1,b2⟩:=GI hp h1;have:=ad8 b1 b2;omega
   ·split
    ·have:=Lc hp;have:=VE n.oz;omega
    ·split
     ·simp only[dW,fB];omega
     ·split
      ·simp only[ay,dJ];omega
      ·simp only[ay,dJ];omega
theorem T.gu : ∀(d:Nat) {n:au},d<=5->Shape d n=true->Ev (λf=>G.gu f n) (nS d n)
 |0,_,_,h=>by cases h
 | d+1,n,hd,h=>by
   have hM:=maxL;have hp:=mP h;have h6:=ER h;have akt:=VC hd;rw[yC]at akt;have L:∀(k i:Nat) (z:di),i+k=n.bC.length->z.length<=i*1000000->Ev (λf=>G.gu.L5 f n z i)
    (if n.dH=4 then([123]++(z++(gz i k).flatMap (CG (nS d) n)))++[125]else([91]++(z++(gz i k).flatMap (CG (nS d) n)))++[93]):=by
    intro k
    induction k with
    | zero=>
      intro i z hi hz;refine dF ?_;simp only[G.gu.L5];refine rU (fH (λe=>iY (iY (bU ?_))) (λe=>iY (iY (bU ?_))))
      ·rw[aF (by simpa using e)];simp
      ·rw[ai (by simpa using e)];simp
    | succ k ih=>
      intro i z hi hz;have hil:i<n.bC.length:=(by omega);have hk:=JU h hil;have hkl:=U6 d hk;have K7:∀z':di,z'.length<=i*1000000+28->z'++nS d (n.bC.getD i default)=z++CG (nS d) n i->Ev (λf=>G.gu.K7 f n (i:Int) z')
       (if n.dH=4 then([123]++(z++(gz i (k+1)).flatMap (CG (nS d) n)))++[125]else([91]++(z++(gz i (k+1)).flatMap (CG (nS d) n)))++[93]):=λz' hz' he=>by
       refine dF ?_;simp only[G.gu.K7,ax,Gh i];refine iY (aZ (T.gu d aI hk) (iY ?_));refine(ih (i+1) _ aI (by rw[ay];omega)).eq ?_;rw[ni,bG,<- dB z,<- he]
      have K6:∀z':di,z'=z++(if 0<i then [44]else [])->Ev (λf=>G.gu.K6 f n (i:Int) z')
       (if n.dH=4 then([123]++(z++(gz i (k+1)).flatMap (CG (nS d) n)))++[125]else([91]++(z++(gz i (k+1)).flatMap (CG (nS d) n)))++[93]):=λz' he=>by
       have hz':z'.length<=i*1000000+1:=by rw[he,ay];have:(if 0<i then([44]:di)else []).length<=1:=(by split<;>simp);omega
       refine dF ?_;simp only[G.gu.K6,ax];by_cases h4:n.dH=4
       ·obtain⟨mn,_,hn⟩:=Vk hp h4;have hin:i<n.dS.length:=(by rw[<- mn.len];exact hil);have h12:=hn _ (getD_mem default hin);have hq:=VE (n.dS.getD i default);refine mF (by simpa using h4) (iY (aZ (T.lU _ aI) (iY (iY (K7 _ (by simp only[ay,dJ];omega) ?_)))));rw[he];unfold CG;rw[aF h4];simp
       ·refine mW (by simpa using h4) (K7 z' (dR hz' (Nat.add_le_add_left xR _)) ?_);rw[he];unfold CG;rw[ai h4];simp
      refine dF ?_;simp only[G.gu.L5];refine vN ?_;by_cases h0:0<i
      ·exact vN (iY (K6 _ (by rw[aF h0])))
      ·exact rU (K6 _ (by rw[ai h0,iZ]))
   refine dF ?_;simp only[G.gu];rw[pG];refine fH (λe=>?_) (λe1=>?_)
   ·have e:n.dH=1:=(by simpa using e);rw[aF e];obtain⟨b1,b2⟩:=GI hp e;exact aZ (T.ac0 b1 b2) (jQ _)
   rw[ai (by simpa using e1)];refine fH (λe=>?_) (λe2=>?_)
   ·rw[aF (by simpa using e)];have:=Lc hp;exact aZ (T.lU _ aI) (jQ _)
   rw[ai (by simpa using e2)];refine fH (λe=>?_) (λe3=>?_)
   ·rw[aF (by simpa using e)];exact jQ _
   rw[ai (by simpa using e3)];exact(L n.bC.length 0 [] aI nV).eq nV
theorem T.wb {b:iP}{c:Int}(hc:0<=c/\c<256)(hl:b.buf.length+1<=140737488355328):Ev (λf=>G.bz f b c) ((),iP.mk (b.buf++[fA c.toNat])):=by refine dF ?_;simp only[G.bz];exact yh ⟨hc,hl⟩ (jQ _)
theorem T.ws {b:iP}{s:di}(hl:b.buf.length+s.length<=140737488355328):Ev (λf=>G.jU f b s) ((s.length:Int),(),iP.mk (b.buf++s)):=by refine dF ?_;simp only[G.jU];exact yh hl (jQ _)
theorem T.bs' {b:iP}(hl:b.buf.length<=140737488355328):Ev (λf=>G.kG f b) b.buf:=by refine dF ?_;simp only[G.kG];exact yh hl (jQ _)
theorem abf (b:UInt8):fA (b.toNat:Int).toNat=b:=nV
theorem T.gG {s z:di}(h:z.length+2*s.length+2<=4000000000):Ev (λf=>G.gG f (iP.mk z) s) (iP.mk (z++C9 s)):=by
 have Et:∀(z:di) (b:UInt8),z.length<5000000000->Ev (λf=>G.bz f (iP.mk z) (b.toNat:Int)) ((),iP.mk (z++[b])):=λz b hz=>by
  have:=T.wb (b:=iP.mk z) (c:=(b.toNat:Int)) (by have:=b.toNat_lt;omega) (by show z.length+1<=_;omega)
  rwa[abf]at this
 have L:∀(k i:Nat) (z:di),i+k=s.length->z.length+2*k+1<=4000000001->Ev (λf=>G.gG.L3 f s (i:Int) z) (iP.mk (z++((s.drop i).flatMap BD++[34]))):=by
  intro k
  induction k with
  | zero=>intro i z hi hz;rw[List.drop_eq_nil_of_le aI];refine dF ?_;simp only[G.gG.L3];exact rU (aZ (Et z 34 aI) (bU rfl))
  | succ k ih=>
    intro i z hi hz;have hlt:i<s.length:=(by omega);have hd:s.drop i=s.getD i 0::s.drop (i+1):=(by rw[xX hlt];simp[bH,hlt]);have hK:∀z:di,z.length+2*k+2<=4000000001->Ev (λf=>G.gG.K4 f s (i:Int) z) (iP.mk (z++(s.getD i 0::((s.drop (i+1)).flatMap BD++[34])))):=λz hz=>by refine dF ?_;simp only[G.gG.K4];rw[ax];refine iY (aZ (Et z (s.getD i 0) aI) ?_);rw[qp aI];have:=ih (i+1) (z++[s.getD i 0]) aI (by simp;omega);simpa using this
    rw[hd];refine dF ?_;simp only[G.gG.L3];rw[ax];refine vN (iY (fH (λe=>?_) (λe=>iY (fH (λe2=>?_) (λe2=>?_)))))
    ·have hb:s.getD i 0=34:=nN.1 (by have:=beq_iff_eq.1 e;show(s.getD i 0).toNat=34;omega);refine aZ (Et z 92 aI) ?_;have:=hK (z++[92]) (by simp;omega);rw[hb]at this⊢;simpa[BD]using this
    ·have hb:s.getD i 0=92:=nN.1 (by have:=beq_iff_eq.1 e2;show(s.getD i 0).toNat=92;omega);refine aZ (Et z 92 aI) ?_;have:=hK (z++[92]) (by simp;omega);rw[hb]at this⊢;simpa[BD]using this
    ·have:=hK z aI;have hq:BD (s.getD i 0)=[s.getD i 0]:=by
      unfold BD;rw[ai];rintro(h|h)
      ·rw[h]at e;simp at e
      ·rw[h]at e2;simp at e2
     rw[bG,hq];simpa using this
 refine dF ?_;simp only[G.gG];refine aZ (Et z 34 aI) ?_;have:=L s.length 0 (z++[34]) aI (by simp;omega);simpa[C9]using this
theorem Xg (z:Int):Go.Lib.itoa z=BR z:=by
 unfold Go.Lib.itoa BR;split
 ·rw[ad9 (z.natAbs+1) z.natAbs aI,show z.natAbs=(-z).toNat from by omega]
 ·rw[ad9 (z.toNat+1) z.toNat aI]
theorem T.itoa {z:Int}(h : -900000000000000<=z/\z<=900000000000000):Ev (λf=>G.strconv_Itoa f z) (BR z):=by rw[<- Xg];exact T.Itoa h
theorem H8 {n:au}(h:Parts n=true):n.dH=0\/n.dH=1\/n.dH=2\/n.dH=3\/n.dH=4:=by
 by_cases h0:n.dH=0\/n.dH=1\/n.dH=2\/n.dH=3\/n.dH=4
 ·exact h0
 ·simp only[not_or]at h0;obtain⟨a,b,c,d,e⟩:=h0;unfold Parts at h;rw[ai a,ai b,ai c,ai d,ai e]at h;simp at h
theorem Et {z:di}(b:UInt8)(hz:z.length<5000000000):Ev (λf=>G.bz f (iP.mk z) (b.toNat:Int)) ((),iP.mk (z++[b])):=by
 have:=T.wb (b:=iP.mk z) (c:=(b.toNat:Int)) (by have:=b.toNat_lt;omega) (by show z.length+1<=_;omega)
 rwa[abf]at this
theorem L6 (F:au->di)(n:au)(i:Nat):CG F n i=(if 0<i then [44]else [])++((if n.dH=4 then C9 (n.dS.getD i default)++[58]else [])++F (n.bC.getD i default)):=by unfold CG;rw[dB]
theorem T.bV : ∀(d:Nat) {n:au} {z:di},Shape d n=true->z.length+(nS d n).length<=2000000000->Ev (λf=>G.bV f (iP.mk z) n) (iP.mk (z++nS d n))
 |0,_,_,h,_=>by cases h
 | d+1,n,z,h,hz=>by
   have hp:=mP h;have h6:=ER h;rw[pG]at hz⊢;have L3:n.dH=3->∀(k i:Nat) (z:di),i+k=n.bC.length->z.length+((gz i k).flatMap (CG (nS d) n)++[93]).length<=2000000000 ->
    Ev (λf=>G.bV.L3 f n (i:Int) z) (iP.mk (z++((gz i k).flatMap (CG (nS d) n)++[93]))):=by
    intro hk3 k
    induction k with
    | zero=>intro i z hi hz;refine dF ?_;simp only[G.bV.L3];refine rU (aZ (Et 93 aI) (bU ?_));simp
    | succ k ih=>
      intro i z hi hz;have hil:i<n.bC.length:=(by omega);rw[ni,bG]at hz⊢;simp only[ay]at hz;have ez:CG (nS d) n i=(if 0<i then [44]else [])++nS d (n.bC.getD i default):=(by rw[L6,ai (by omega:¬n.dH=4),ja]);have hK:∀z':di,z'=z++(if 0<i then [44]else [])->Ev (λf=>G.bV.K4 f n (i:Int) z') (iP.mk (z++((CG (nS d) n i++(gz (i+1) k).flatMap (CG (nS d) n))++[93]))):=λz' he=>by have e2:z'++nS d (n.bC.getD i default)=z++CG (nS d) n i:=(by rw[he,ez,dB]);have e3:=kZ kz e2;simp only[ay]at e3;refine dF ?_;simp only[G.bV.K4,ax,Gh i];refine aZ (T.bV d (JU h hil) aI) ?_;refine(ih (i+1) _ aI (by simp only[ay];omega)).eq ?_;rw[e2];simp only[dB]
      refine dF ?_;simp only[G.bV.L3];refine vN (iY ?_);by_cases h0:0<i
      ·exact vN (aZ (Et 44 aI) (hK _ (by rw[aF h0])))
      ·exact rU (hK _ (by rw[ai h0,iZ]))
   have L7:n.dH=4->∀(k i:Nat) (z:di),i+k=n.bC.length->z.length+((gz i k).flatMap (CG (nS d) n)++[125]).length<=2000000000 ->
    Ev (λf=>G.bV.L7 f n (i:Int) z) (iP.mk (z++((gz i k).flatMap (CG (nS d) n)++[125]))):=by
    intro hk4 k;obtain⟨mn,_,hn⟩:=Vk hp hk4
    induction k with
    | zero=>intro i z hi hz;refine dF ?_;simp only[G.bV.L7];refine rU (aZ (Et 125 aI) (bU ?_));simp
    | succ k ih=>
      intro i z hi hz;have hil:i<n.bC.length:=(by omega);have hin:i<n.dS.length:=(by rw[<- mn.len];exact hil);have h12:=hn _ (getD_mem default hin);rw[ni,bG]at hz⊢;simp only[ay]at hz;have ez:CG (nS d) n i=(if 0<i then [44]else [])++((C9 (n.dS.getD i default)++[58])++nS d (n.bC.getD i default)):=(by rw[L6,aF hk4]);have hK:∀z':di,z'=z++(if 0<i then [44]else [])->Ev (λf=>G.bV.K8 f n (i:Int) z') (iP.mk (z++((CG (nS d) n i++(gz (i+1) k).flatMap (CG (nS d) n))++[125]))):=λz' he=>by have e2:((z'++C9 (n.dS.getD i default))++[58])++nS d (n.bC.getD i default)=z++CG (nS d) n i:=(by rw[he,ez];simp only[dB]);have e3:=kZ kz e2;simp only[ay]at e3;refine dF ?_;simp only[G.bV.K8,ax,Gh i];refine iY (aZ (T.gG aI) (aZ (Et 58 (by simp only[ay];omega)) ?_));refine aZ (T.bV d (JU h hil) (by simp only[ay];omega)) ?_;refine(ih (i+1) _ aI (by simp only[ay];omega)).eq ?_;rw[e2];simp only[dB]
      refine dF ?_;simp only[G.bV.L7];refine vN (iY ?_);by_cases h0:0<i
      ·exact vN (aZ (Et 44 aI) (hK _ (by rw[aF h0])))
      ·exact rU (hK _ (by rw[ai h0,iZ]))
   refine dF ?_;simp only[G.bV];rcases H8 hp with e|e|e|e|e<;>simp only[e,reduceIte,Int.reduceEq]at hz⊢
   ·exact mF rfl (aZ (T.ws (by simp only[dW,fB]at hz⊢;omega)) (jQ _))
   ·obtain⟨b1,b2⟩:=GI hp e;exact mW rfl (mF rfl (aZ (T.itoa aI) (aZ (T.ws (by show z.length+_<=_;omega)) (jQ _))))
   ·have:=Lc hp;exact mW rfl (mW rfl (mF rfl (aZ (T.gG aI) (jQ _))))
   ·refine mW rfl (mW rfl (mW rfl (mF rfl (aZ (Et 91 aI) ?_))));refine(L3 e n.bC.length 0 (z++[91]) aI (by simp only[ay,dW,fB]at hz⊢;omega)).eq ?_;simp only[dB]
   ·refine mW rfl (mW rfl (mW rfl (mW rfl (mF rfl (aZ (Et 123 aI) ?_)))));refine(L7 e n.bC.length 0 (z++[123]) aI (by simp only[ay,dW,fB]at hz⊢;omega)).eq ?_;simp only[dB]
theorem fmt5 {n:au}(h:Val n=true):(nS 5 n).length<=4000000:=by have:=U6 5 (uO h);have:=VC (ak 5);omega
def agq (n:au):di:=if Val n then nS 5 n else []
theorem T.nC {B D:Nat}{n:au}(hB:B<=lim)(h:Fine B D n):Ev (λf=>G.nC f n) (agq n):=by refine dF ?_;simp only[G.nC];unfold agq;refine aZ (T.gU hB h) (fH (λe=>?_) (λe=>bU (by rw[e];rfl)));have hl:=fmt5 e;rw[e];exact aZ (T.bV 5 (uO e) (by simp only[fB];omega)) (aZ (T.bs' (by show(_:di).length<=_;simp only[ja];omega)) (jQ _))
structure At (s:di)(a:Nat):Prop where
 le:a<=s.length
 len:s.length<=1000000
theorem Za {s p:di} : iO s p=true<->p <+: s:=by unfold iO;exact List.isPrefixOf_iff_prefix
theorem KQ (p r:di):iO (p++r) p=true:=Za.2 (List.prefix_append p r)
theorem T.hasPrefix (s p:di):Ev (λf=>G.strings_HasPrefix f s p) (iO s p):=by refine dF ?_;simp only[G.strings_HasPrefix];exact jQ _
def ZT (s:di)(a:Nat)(p:di):Bool×bg:=if iO (s.drop a) p then(true,bg.mk s ((a+p.length:Nat):Int))else(false,bg.mk s (a:Int))
theorem Jh {s p:di}{a:Nat}(ha:a<=s.length)(h:iO (s.drop a) p=true):a+p.length<=s.length:=by have:=(Za.1 h).length_le;rw[jk]at this;omega
theorem T.take {s p:di}{a:Nat}(h:At s a):Ev (λf=>G.iJ f (bg.mk s (a:Int)) p) (ZT s a p):=by
 have h1:=h.le;have h2:=h.len;refine dF ?_;simp only[G.iJ,ax];unfold ZT;refine yh ⟨aI,aI,aI⟩ (aZ (T.hasPrefix _ _) (fH (λe=>?_) (λe=>?_)))
 ·rw[aF e];have:=Jh h1 e;exact bU (by rw[wrapN (m:=a+p.length) aI aI])
 ·rw[ai (by rw[e];simp)];exact jQ _
theorem drop_tail {s x r:di}{a:Nat}(h:s.drop a=x++r):s.drop (a+x.length)=r:=by rw[<- List.drop_drop,h,List.drop_left]
theorem aav {s x r:di}{a:Nat}(ha:a<=s.length)(h:s.drop a=x++r):a+x.length<=s.length:=by have:=kZ kz h;rw[jk,ay]at this;omega
theorem vk {s r:di}{a:Nat}{b:UInt8}(h:s.drop a=b::r):a<s.length/\s.getD a 0=b/\s.drop (a+1)=r:=by
 have hl:a<s.length:=by have:=kZ kz h;rw[jk,dW]at this;omega
 refine⟨hl,?_,?_⟩
 ·rw[gQ (0:UInt8) hl]at h;exact(jZ h).1
 ·rw[gQ (0:UInt8) hl]at h;exact(jZ h).2
theorem xA (b:UInt8)(c:UInt8):(((b.toNat:Int))==(c.toNat:Int))=(b==c):=by rw[qg,aH,aH];exact⟨λh=>nN.1 aI,λh=>by rw[h]⟩
theorem UL (b:UInt8)(c:UInt8):(((b.toNat:Int)) != (c.toNat:Int)) = !(b==c):=by show(!(((b.toNat:Int))==(c.toNat:Int)))=_;rw[xA]
structure RdQ (s:di)(a:Nat)(v:di×Bool×bg):Prop where
 pos:∃b:Nat,v.2.2=bg.mk s (b:Int)/\a<=b/\b<=s.length/\(v.2.1=true->a<b)
 len:v.1.length<=s.length
 all:∀t r,s.drop a=C9 t++r->v=(t,true,bg.mk s ((a+(C9 t).length:Nat):Int))
theorem D9 {t r q:di}{b:UInt8}(h:b::q=t.flatMap BD++34::r):(b=34/\t=[]/\q=r) \/
 (b=92/\∃c t',(c=34\/c=92)/\t=c::t'/\q=c::(t'.flatMap BD++34::r))\/(b≠34/\b≠92/\∃t',t=b::t'/\q=t'.flatMap BD++34::r):=by
 cases t with
 | nil=>simp at h;exact .inl ⟨h.1,rfl,h.2⟩
 | cons c t'=>
   rw[bG]at h;by_cases hc:c=34\/c=92
   ·have e:BD c=[92,c]:=aF hc;rw[e]at h;simp at h;exact .inr (.inl ⟨h.1,c,t',hc,rfl,h.2⟩)
   ·have e:BD c=[c]:=ai hc;rw[e]at h;simp at h;obtain⟨rfl,h2⟩:=h;exact .inr (.inr ⟨λe=>hc (.inl e),λe=>hc (.inr e),t',rfl,h2⟩)
theorem T.MR.L3 {s:di}{v1:Bool×bg}(hv:v1.2.text=s)(hl:s.length<=1000000):∀(k y:Nat) (z:di),y+k=s.length->z.length<=y ->
 Tot (λv=>(∃b:Nat,v.2.2=bg.mk s (b:Int)/\y<=b/\b<=s.length/\(v.2.1=true->y<b))/\v.1.length<=s.length/\∀t r,s.drop y=t.flatMap BD++34::r->v=(z++t,true,bg.mk s ((y+(t.flatMap BD).length+1:Nat):Int)))
  (λf=>G.bQ.L3 f v1 (y:Int) z):=by
 intro k
 induction k using fC with|_ k ih=>
 intro y z hy hz;refine Tot.up ?_;simp only[G.bQ.L3,hv,ax];refine Tot.ite (λe=>?_) (λe=>?_)
 ·have hyl:y<s.length:=by simp only[aj]at e;omega
  have w1:af .i64 ((y:Int)+1)=((y+1:Nat):Int):=qp aI;have w2:af .i64 (((y+1:Nat):Int)+1)=((y+2:Nat):Int):=qp aI;have hd:=gQ (0:UInt8) hyl;have wr:∀(b:UInt8) (y':Nat),y<y'->y'<=s.length->Tot (λv=>(∃b:Nat,v.2.2=bg.mk s (b:Int)/\y<=b/\b<=s.length/\(v.2.1=true->y<b))/\v.1.length<=s.length /\
   ∀t r,s.drop y'=t.flatMap BD++34::r->v=(z++b::t,true,bg.mk s ((y'+(t.flatMap BD).length+1:Nat):Int))) (λf=>G.bQ.K4 f v1 z ((b.toNat:Int)) (y':Int)):=λb y' h1 h2=>by
   refine Tot.up ?_;simp only[G.bQ.K4];refine Tot.pR (Et b aI) ((ih (s.length-y') aI y' (z++[b]) aI (by simp;omega)).mono ?_);rintro v ⟨⟨p,e1,e2,e3,e4⟩,e5,e6⟩;refine⟨⟨p,e1,aI,e3,λh=>by have:=e4 h;omega⟩,e5,λt r h=>?_⟩;rw[e6 t r h];simp
  refine Tot.chk ⟨aI,aI⟩ ?_;rw[show(34:Int)=((34:UInt8).toNat:Int)from rfl,show(92:Int)=((92:UInt8).toNat:Int)from rfl];refine Tot.ite (λe1=>?_) (λe1=>Tot.ite (λe2=>?_) (λe2=>?_))
  ·rw[xA,aH]at e1;refine Tot.pR (T.bs' (by show z.length<=_;omega)) (Tot.ret ?_);rw[w1];refine⟨⟨y+1,rfl,aI,aI,λ_=>by omega⟩,by show z.length<=_;omega,λt r h=>?_⟩;rw[hd]at h;rcases D9 h with⟨_,rfl,_⟩|⟨Yg,_⟩|⟨TD,_⟩
   ·simp
   ·rw[e1]at Yg;exact aY Yg xR
   ·exact aY e1 TD
  ·rw[xA,aH]at e2;rw[w1];refine Tot.ite (λe3=>Tot.ret ?_) (λe3=>?_)
   ·have e3 : y + 1 = s.length := by have:((y+1:Nat):Int)=(s.length:Int):=by simpa using e3
                                     omega
    refine⟨⟨y+1,rfl,aI,aI,λh=>by cases h⟩,aJ _,λt r h=>?_⟩;rw[hd]at h;rcases D9 h with⟨TD,_⟩|⟨_,c,t',_,_,hq⟩|⟨_,Yg,_⟩
    ·rw[e2]at TD;exact aY TD xR
    ·rw[aB aI]at hq;cases hq
    ·exact aY e2 Yg
   ·have hy1:y+1<s.length:=by
     have:¬((y+1:Nat):Int)=(s.length:Int):=(by simpa using e3);omega
    simp only[w2,ax];have hd1:=gQ (0:UInt8) hy1;have good:(s.getD (y+1) 0=34\/s.getD (y+1) 0=92)->Tot (λv=>(∃b:Nat,v.2.2=bg.mk s (b:Int)/\y<=b/\b<=s.length/\(v.2.1=true->y<b))/\v.1.length<=s.length/\∀t r,s.drop y=t.flatMap BD++34::r->v=(z++t,true,bg.mk s ((y+(t.flatMap BD).length+1:Nat):Int)))
     (λf=>G.bQ.K4 f v1 z (((s.getD (y+1) 0).toNat:Int)) ((y+2:Nat):Int)):=λhc=>(wr (s.getD (y+1) 0) (y+2) aI aI).mono λv ⟨p1,p2,p3⟩=>⟨p1,p2,λt r h=>by
     rw[hd]at h;rcases D9 h with⟨TD,_⟩|⟨_,c,t',hc',rfl,hq⟩|⟨_,Yg,_⟩
     ·rw[e2]at TD;exact aY TD xR
     ·rw[hd1]at hq;obtain⟨rfl,hq2⟩:=jZ hq;rw[p3 t' r hq2,bG,show BD (s.getD (y+1) 0)=[92,s.getD (y+1) 0]from aF hc'];simp;omega
     ·exact aY e2 Yg⟩
    refine Tot.chk ⟨aI,aI⟩ ?_;refine Tot.ite (λe4=>?_) (λe4=>?_)
    ·refine Tot.chk ⟨aI,aI⟩ (Tot.ite (λe5=>Tot.ret ?_) (λe5=>?_))
     ·rw[UL]at e4 e5;refine⟨⟨y+1,rfl,aI,aI,λh=>by cases h⟩,aJ _,λt r h=>?_⟩;rw[hd]at h;rcases D9 h with⟨TD,_⟩|⟨_,c,t',hc',_,hq⟩|⟨_,Yg,_⟩
      ·rw[e2]at TD;exact aY TD xR
      ·rw[hd1]at hq;obtain⟨rfl,_⟩:=jZ hq;rcases hc' with h|h<;>rw[h]at e4 e5
       ·exact aY e4 xR
       ·exact aY e5 xR
      ·exact aY e2 Yg
     ·rw[UL]at e5;exact Tot.chk ⟨aI,aI⟩ (good (.inr (by simpa using e5)))
    ·rw[UL]at e4;exact Tot.chk ⟨aI,aI⟩ (good (.inl (by simpa using e4)))
  ·rw[xA]at e1 e2;have n1:s.getD y 0≠34:=(by simpa using e1);have n2:s.getD y 0≠92:=(by simpa using e2);rw[w1];refine(wr (s.getD y 0) (y+1) aI aI).mono λv ⟨p1,p2,p3⟩=>⟨p1,p2,λt r h=>?_⟩;rw[hd]at h;rcases D9 h with⟨TD,_⟩|⟨Yg,_⟩|⟨_,_,t',rfl,hq⟩
   ·exact aY TD n1
   ·exact aY Yg n2
   ·rw[p3 t' r hq,bG,show BD (s.getD y 0)=[s.getD y 0]from ai (λh=>h.elim n1 n2)];simp;omega
 ·have hyl:y=s.length:=by simp only[aQ]at e;omega
  refine Tot.ret ⟨⟨y,rfl,ak _,aI,λh=>by cases h⟩,aJ _,λt r h=>?_⟩;rw[aB aI]at h;have:=kZ kz h;simp at this
theorem T.MR {s:di}{a:Nat}(h:At s a):Tot (RdQ s a) (λf=>G.bQ f (bg.mk s (a:Int))):=by
 have h1:=h.le;have h2:=h.len;refine Tot.up ?_;simp only[G.bQ];refine Tot.pR (T.take h) ?_;unfold ZT;by_cases e:iO (s.drop a) [34]=true
 ·rw[aF e];have hb:=Jh h1 e;refine Tot.ite (λ_=>?_) (λh=>by cases h);refine(T.MR.L3 (s:=s) (v1:=(true,bg.mk s ((a+[34].length:Nat):Int))) rfl h2 (s.length-(a+1)) (a+1) [] (by simp at hb;omega) nV).mono ?_;rintro v ⟨⟨p,e1,e2,e3,e4⟩,e5,e6⟩;refine⟨⟨p,e1,aI,e3,λh=>by have:=e4 h;omega⟩,e5,λt r h=>?_⟩;unfold C9 at h⊢;have hd:=vk (h.trans (eH ..));rw[e6 t r (by rw[hd.2.2];simp)];simp;omega
 ·rw[ai e];refine Tot.ite (λh=>by cases h) (λ_=>Tot.ret ⟨⟨a,rfl,ak _,h1,λh=>by cases h⟩,aJ _,λt r h=>?_⟩);exfalso;apply e;rw[h];unfold C9;exact KQ [34] _
def IK (b:UInt8):Bool:=b==45||(decide (48<=b.toNat)&&decide (b.toNat<=57))
def okR (r:di):Prop:=∀b,r.head? = some b->IK b=false
theorem aaW : okR []:=λb h=>by cases h
theorem MM {b:UInt8}{r:di}(h:IK b=false):okR (b::r):=λc hc=>by cases hc;exact h
theorem aea : ∀k:Nat,k<10->IK (fA (48+k))=true:=xR
theorem WN (i:Nat):∀b,b∈yO i->IK b=true:=by
 induction i using fC with|_ i ih=>
 intro b hb;by_cases h:i<10
 ·rw[x8 h,dL]at hb;rw[hb];exact aea i h
 ·rw[CV h]at hb;rcases aS.1 hb with e|e
  ·exact ih (i/10) aI b e
  ·rw[dL]at e;rw[e];exact aea (i%10) aI
theorem Qs (z:Int):∀b,b∈BR z->IK b=true:=by
 intro b hb;unfold BR at hb;split at hb
 ·rcases aO.1 hb with e|e
  ·rw[e];rfl
  ·exact WN _ b e
 ·exact WN _ b hb
theorem LV (i:Nat):yO i≠[]:=by
 by_cases h:i<10
 ·rw[x8 h];simp
 ·rw[CV h];simp
theorem aau (z:Int):BR z≠[]:=by
 unfold BR;split
 ·simp
 ·exact LV _
theorem acD (acc:Nat):∀i:Nat,acc*10^(yO i).length+i<1000000000->∀r,uB acc (yO i++r)=uB (acc*10^(yO i).length+i) r:=by
 intro i
 induction i using fC generalizing acc with|_ i ih=>
 intro hb r;have dig:∀k:Nat,k<10->(fA (48+k)).toNat=48+k:=λk hk=>by rw[uD];omega
 have one:∀(acc k:Nat) (r:di),k<10->acc*10+k<1000000000->uB acc (fA (48+k)::r)=uB (acc*10+k) r:=λacc k r hk hb=>by
  rw[uB];simp only[dig k hk];rw[aF aI,ai aI,ai aI]
  congr 1;omega
 by_cases h:i<10
 ·rw[x8 h]at hb⊢;simp only[dJ,Nat.pow_one]at hb⊢;exact one acc i r h hb
 ·rw[CV h]at hb⊢;rw[ay,dJ,yC]at hb⊢;have e:acc*(10^(yO (i/10)).length*10)+i=(acc*10^(yO (i/10)).length+i/10)*10+i%10:=by rw[<- Nat.mul_assoc];omega
  rw[e]at hb⊢;rw[dB,ih (i/10) aI acc aI];exact one _ _ r aI hb
theorem P6 {z:Int}(h1 : -999999<=z)(h2:z<=999999):Gp (BR z)=(z,false):=by
 have hP:∀i:Nat,i<=999999->Lib.parseMag (yO i) = .ok i:=λi hi=>by unfold Lib.parseMag;rw[ai (LV i)];have:=acD 0 i aI [];rw[iZ,Nat.zero_mul,Nat.zero_add]at this;rw[this];rfl
 have h0:∀(i:Nat) b,(yO i).head? = some b->48<=b.toNat:=λi=>by
  induction i using fC with|_ i ih=>
  intro b hb;by_cases h:i<10
  ·rw[x8 h]at hb;cases hb;rw[uD];omega
  ·rw[CV h]at hb;refine ih (i/10) aI b ?_;cases hd:yO (i/10)with
   |nil=>exact aY hd (LV _)
   |cons c l=>rw[hd]at hb;exact hb
 unfold Gp BR;by_cases hz:z<0
 ·rw[aF hz];have e:xG (45::yO (-z).toNat) = .ok z:=by
   rw[Lib.atoiAll_minus,hP (-z).toNat aI];unfold Lib.signed
   dsimp only
   rw[ai aI]
   congr 1;omega
  rw[e]
 ·rw[ai hz];cases hd:yO z.toNat with
  |nil=>exact aY hd (LV _)
  | cons c l=>
    have hc:=h0 z.toNat c (by rw[hd];rfl);have e:xG (c::l) = .ok z:=by
     rw[Lib.atoiAll_plain c l aI aI,<- hd,hP z.toNat aI];unfold Lib.signless
     dsimp only
     rw[ai aI]
     congr 1;omega
    rw[e]
theorem DY {p:UInt8->Bool} : ∀{x r:di},(∀b,b∈x->p b=true)->(∀b,r.head? = some b->p b=false)->(x++r).takeWhile p=x
 |[],[],_,_=>rfl
 | [],b::r,_,h=>by have:=h b rfl;simp[List.takeWhile,this]
 | a::x,r,h,k=>by rw[eH,List.takeWhile_cons,aF (h a (aG ..)),DY (λb hb=>h b (bF _ hb)) k]
structure RdN (s:di)(a:Nat)(v:au×Bool×bg):Prop where
 pos:∃b:Nat,v.2.2=bg.mk s (b:Int)/\a<=b/\b<=s.length/\(v.2.1=true->a<b)
 fin:∃z,v.1=au.mk 0 0 [] [] []\/v.1=au.mk 1 z [] [] []
 all:∀z r,-999999<=z->z<=999999->okR r->s.drop a=BR z++r->v=(au.mk 1 z [] [] [],true,bg.mk s ((a+(BR z).length:Nat):Int))
theorem T.atoi (s:di)(hl:s.length<=1000000):Ev (λf=>G.strconv_Atoi f s) (Gp s):=by refine dF ?_;simp only[G.strconv_Atoi];exact iY (jQ _)
theorem abG (s:di)(h:(Gp s).2=false) : -9223372036854775808<=(Gp s).1/\(Gp s).1<=9223372036854775807/\s≠[]:=by
 unfold Gp at h⊢;cases e:xG s with
 | ok v=>have:=Lib.atoiAll_bounds e;refine⟨this.1,this.2,λh0=>?_⟩;subst h0;cases e
 |range=>rw[e]at h;cases h
 | _ =>rw[e]at h;cases h
theorem T.ahd {z:Int}(h : -9223372036854775808<=z/\z<=9223372036854775807):Ev (λf=>G.strconv_Itoa f z) (BR z):=by rw[<- Xg];refine dF ?_;simp only[G.strconv_Itoa];exact yh ⟨h,dR (Lib.itoa_length_le z aI aI) xR⟩ (jQ _)
theorem T.ZC {s:di}{a:Nat}(h:At s a):Tot (RdN s a) (λf=>G.dO f (bg.mk s (a:Int))):=by
 have h1:=h.le;have h2:=h.len;have W:∀x:Nat,a<=x->x<=s.length->((s.drop a).takeWhile IK=(s.take x).drop a)->Tot (RdN s a) (λn=>lY (G.strconv_Atoi n ((s.take x).drop a)) λv3=>cond v3.2 (some ((au.mk 0 0 [] [] []),false,bg.mk s (a:Int)))
  (lY (G.strconv_Itoa n v3.1) λv4=>cond (v4==((s.take x).drop a)) (some ((au.mk 1 v3.1 [] [] []),true,(bg.mk s (x:Int)))) (some ((au.mk 0 0 [] [] []),false,bg.mk s (a:Int))))):=λx hx hxl hw=>by
  have hlen:((s.take x).drop a).length=x-a:=by rw[jk,jc];omega
  have cmp:∀z r,-999999<=z->z<=999999->okR r->s.drop a=BR z++r->(s.take x).drop a=BR z:=λz r _ _ hr hd=>by rw[<- hw,hd,DY (Qs z) hr]
  refine Tot.pR (T.atoi _ aI) (Tot.ite (λe=>Tot.ret ?_) (λe=>?_))
  ·refine⟨⟨a,rfl,ak _,h1,λh=>by cases h⟩,⟨0,.inl rfl⟩,λz r z1 z2 hr hd=>?_⟩;rw[cmp z r z1 z2 hr hd,P6 z1 z2]at e;cases e
  ·obtain⟨b1,b2,b3⟩:=abG _ e;refine Tot.pR (T.ahd ⟨b1,b2⟩) (Tot.ite (λe2=>Tot.ret ?_) (λe2=>Tot.ret ?_))
   ·have e2:BR (Gp ((s.take x).drop a)).1=(s.take x).drop a:=(by simpa using e2);have hpos:a<x:=by
     have:(s.take x).drop a≠[]:=b3;have:=List.length_pos_iff.2 this;omega
    refine⟨⟨x,rfl,aI,hxl,λ_=>hpos⟩,⟨_,.inr rfl⟩,λz r z1 z2 hr hd=>?_⟩;have hc:=cmp z r z1 z2 hr hd;rw[hc,P6 z1 z2];rw[hc]at hlen;have:x=a+(BR z).length:=(by omega);rw[this]
   ·refine⟨⟨a,rfl,ak _,h1,λh=>by cases h⟩,⟨0,.inl rfl⟩,λz r z1 z2 hr hd=>?_⟩;have hc:=cmp z r z1 z2 hr hd;rw[hc,P6 z1 z2]at e2;simp at e2
 have L:∀(k x:Nat),x+k=s.length->a<=x->(∀b,b∈(s.take x).drop a->IK b=true)->Tot (RdN s a) (λf=>G.dO.L1 f (bg.mk s (a:Int)) (x:Int)):=by
  intro k
  induction k with
  | zero=>
    intro x hx ha hdg;refine Tot.up ?_;simp only[G.dO.L1,ax];refine Tot.ite (λe=>by simp only[aj]at e;omega) (λ_=>Tot.chk ⟨aI,aI,aI⟩ (W x ha aI ?_));have hs:s.take x=s:=eU aI;rw[hs]at hdg⊢;have:=DY (r:=[]) hdg (λb h=>by cases h)
    rwa[iZ]at this
  | succ k ih=>
    intro x hx ha hdg;have hxl:x<s.length:=(by omega);have hsplit:(s.drop a)=(s.take x).drop a++(s.getD x 0::s.drop (x+1)):=by
     rw[<- gQ (0:UInt8) hxl]
     conv=>lhs;rw[<- List.take_append_drop x s]
     rw[wF (by rw[jc];omega)]
    have stp:(s.take (x+1)).drop a=(s.take x).drop a++[s.getD x 0]:=(by rw[lZ hxl,wF (by rw[jc];omega),lS (0:UInt8) hxl]);have go:IK (s.getD x 0)=true->Tot (RdN s a) (λf=>G.dO.L1 f (bg.mk s (a:Int)) ((x+1:Nat):Int)):=λhb=>ih (x+1) aI aI (λb hm=>by
     rw[stp]at hm;rcases aS.1 hm with e|e
     ·exact hdg b e
     ·rw[dL]at e;rw[e];exact hb)
    have no:IK (s.getD x 0)=false->(s.drop a).takeWhile IK=(s.take x).drop a:=λhb=>by rw[hsplit];exact DY hdg (λb h=>by cases h;exact hb)
    refine Tot.up ?_;simp only[G.dO.L1,ax,Gh x];refine Tot.ite (λ_=>?_) (λe=>by simp only[aQ]at e;omega);refine Tot.chk ⟨aI,aI⟩ ?_;rw[show(45:Int)=((45:UInt8).toNat:Int)from rfl];refine Tot.ite (λe=>?_) (λe=>?_)
    ·rw[xA]at e;exact go (by unfold IK;rw[e];rfl)
    ·rw[xA]at e;refine Tot.chk ⟨aI,aI⟩ (Tot.ite (λe1=>Tot.chk ⟨aI,aI⟩ (Tot.ite (λe2=>?_) (λe2=>?_))) (λe1=>?_))
     ·simp only[aj]at e1 e2;exact go (by unfold IK;rw[e,iH (show 48<=(s.getD x 0).toNat by omega),iH (show(s.getD x 0).toNat<=57 by omega)];rfl)
     ·simp only[aj,aQ]at e1 e2;exact Tot.chk ⟨aI,aI,aI⟩ (W x ha aI (no (by unfold IK;rw[e,gW (show ¬(s.getD x 0).toNat<=57 by omega)];simp)))
     ·simp only[aQ]at e1;exact Tot.chk ⟨aI,aI,aI⟩ (W x ha aI (no (by unfold IK;rw[e,gW (show ¬ 48<=(s.getD x 0).toNat by omega)];simp)))
 refine Tot.up ?_;simp only[G.dO];refine L (s.length-a) a aI (ak _) (λb hb=>?_);rw[aB (by rw[jc];omega)]at hb;cases hb
section
theorem Tot.ct {α:Type}{Q:α->Prop}{F F':Nat->Option α}{c:Bool}(hc:c=true)(h:Tot Q F):Tot Q (λn=>cond c (F n) (F' n)):=by subst hc;exact h
theorem Tot.cf {α:Type}{Q:α->Prop}{F F':Nat->Option α}{c:Bool}(hc:c=false)(h:Tot Q F'):Tot Q (λn=>cond c (F n) (F' n)):=by subst hc;exact h
def eAt (s r:di):bg:=bg.mk s ((s.length-r.length:Nat):Int)
theorem Qu {s x r:di}{a:Nat}(ha:a<=s.length)(h:s.drop a=x++r):bg.mk s ((a+x.length:Nat):Int)=eAt s r:=by
 have:=kZ kz h;rw[jk,ay]at this;unfold eAt
 congr 2;omega
theorem I8 {s x r:di}{a:Nat}(ha:a<=s.length)(h:s.drop a=x++r):s.drop (s.length-r.length)=r/\s.length-r.length<=s.length/\a+x.length=s.length-r.length:=by
 have hl:=kZ kz h;rw[jk,ay]at hl;have e:s.length-r.length=a+x.length:=by omega
 rw[e];exact⟨drop_tail h,aI,rfl⟩
structure RdT (d:Nat)(s:di)(a:Nat)(v:au×Bool×bg):Prop where
 pos:∃b:Nat,v.2.2=bg.mk s (b:Int)/\a<=b/\b<=s.length/\(v.2.1=true->a<b)
 fin:sF 1000000 (d+1) v.1
 all:∀n r,Shape d n=true->okR r->s.drop a=nS d n++r->v=(n,true,eAt s r)
theorem Ai {d:Nat}{k z:Int}{t:di}(ht:t.length<=1000000):sF 1000000 (d+1) (au.mk k z t [] []):=
 ⟨ht,aJ _,λs h=>(by cases h),aJ _,trivial,λk h=>(by cases h)⟩
theorem BC (n:au):au.mk n.dH n.ve n.oz n.dS n.bC=n:=by cases n;rfl
def EY (F:au->di)(n:au)(i:Nat):di:=(if n.dH=4 then C9 (n.dS.getD i default)++[58]else [])++F (n.bC.getD i default)
def uH (F:au->di)(n:au)(i:Nat)(cl r:di):di:=(gz i (n.bC.length-i)).flatMap (CG F n)++(cl++r)
theorem DR {F:au->di}{n:au}{i:Nat}{cl r:di}(h:n.bC.length<=i):uH F n i cl r=cl++r:=by unfold uH;rw[show n.bC.length-i=0 by omega];rfl
theorem DT {F:au->di}{n:au}{i:Nat}{cl r:di}(h:i<n.bC.length)(h0:0<i):uH F n i cl r=44::(EY F n i++uH F n (i+1) cl r):=by unfold uH;obtain⟨k,hk⟩:∃k,n.bC.length-i=k+1:=⟨n.bC.length-i-1,aI⟩;rw[hk,ni,bG,L6,aF h0,show n.bC.length-(i+1)=k by omega];unfold EY;simp
theorem Ik {F:au->di}{n:au}{cl r:di}(h:0<n.bC.length):uH F n 0 cl r=EY F n 0++uH F n 1 cl r:=by unfold uH;obtain⟨k,hk⟩:∃k,n.bC.length-0=k+1:=⟨n.bC.length-1,aI⟩;rw[hk,ni,bG,L6,ai (Nat.lt_irrefl 0),show n.bC.length-(0+1)=k by omega];unfold EY;simp
theorem RJ {F:au->di}{n:au}{i:Nat}{c:UInt8}{r:di}(hc:c=93\/c=125)(h0:0<i):okR (uH F n i [c] r):=by
 by_cases h:i<n.bC.length
 ·rw[DT h h0];exact MM rfl
 ·rw[DR aI];rcases hc with rfl|rfl<;>exact MM rfl
structure Big (d:Nat)(k:Int)(n:au):Prop where
 kd:n.dH=k
 num:n.ve=0
 text:n.oz=[]
 QU:k=3->n.dS=[]
 len:k=4->n.dS.length=n.bC.length
 kids:∀k,k∈n.bC->Shape d k=true
theorem take_snoc {α:Type}{l:List α}{i:Nat}(d:α)(h:i<l.length):l.take i++[l.getD i d]=l.take (i+1):=by rw[lS d h,lZ h]
theorem JY {s p:di}{a:Nat}(h:iO (s.drop a) p=false):ZT s a p=(false,bg.mk s (a:Int)):=by unfold ZT;rw[ai (by rw[h];simp)]
theorem GU {s p:di}{a:Nat}(h:iO (s.drop a) p=true):ZT s a p=(true,bg.mk s ((a+p.length:Nat):Int)):=by unfold ZT;rw[aF h]
theorem aey {a b:UInt8}{r:di}(h:a≠b):iO (a::r) [b]=false:=by
 cases e:iO (a::r) [b]with
 |false=>rfl
 | true=>have:=Za.1 e;rw[List.cons_prefix_cons]at this;exact aY this.1.symm h
theorem Q4 {n:au}(h:Parts n=true)(hk:n.dH≠1):n.ve=0:=by unfold Parts at h;simp only[ah,dP,aH]at h;exact h.1.1.1.resolve_left hk
theorem Q5 {n:au}(h:Parts n=true)(hk:n.dH≠2):n.oz=[]:=by unfold Parts at h;simp only[ah,dP,aH]at h;exact h.1.1.2.resolve_left hk
theorem Ld {n:au}(h:Parts n=true)(hk:n.dH=0):n.ve=0/\n.oz=[]:=⟨Q4 h aI,Q5 h aI⟩
theorem QB {d:Nat}{n:au}(h:Shape d n=true):∃b q,nS d n=b::q/\b≠93/\b≠125:=by
 cases d with
 |zero=>cases h
 | succ d=>
   rcases H8 (mP h)with k|k|k|k|k
   ·rw[pG,ai aI,ai aI,aF k];exact⟨_,_,rfl,xR,xR⟩
   ·rw[pG,aF k];cases hz:BR n.ve with
    |nil=>exact aY hz (aau _)
    | cons b q=>have hb:=Qs n.ve b (by rw[hz];exact aG ..);exact⟨b,q,rfl,λe=>by rw[e]at hb;exact aY hb xR,λe=>by rw[e]at hb;exact aY hb xR⟩
   ·rw[pG,ai aI,aF k];exact⟨_,_,rfl,xR,xR⟩
   ·rw[pG,ai aI,ai aI,ai aI,ai aI];exact⟨_,_,rfl,xR,xR⟩
   ·rw[pG,ai aI,ai aI,ai aI,aF k];exact⟨_,_,rfl,xR,xR⟩
structure RdP (d:Nat)(kind:Int)(c:UInt8)(s:di)(y:Nat)(z5:List di)(z6:List au)(v:au×Bool×bg):Prop where
 pos:∃b:Nat,v.2.2=bg.mk s (b:Int)/\y<=b/\b<=s.length
 fin:sF 1000000 (d+2) v.1
 all:∀n r,Big d kind n->z6.length<n.bC.length->z6=n.bC.take z6.length->z5=(if kind=4 then n.dS.take z6.length else []) ->
  s.drop y=EY (nS d) n z6.length++uH (nS d) n (z6.length+1) [c] r->v=(n,true,eAt s r)
section
variable {d:Nat} (hd:d<=4) (IH:∀(s:di) (a:Nat) (lv:Int),At s a->lv=6-(d:Int)->Tot (RdT d s a) (λf=>G.iw f (bg.mk s (a:Int)) lv))
 {kind:Int} {c:UInt8} (hk:kind=3/\c=93\/kind=4/\c=125) {s:di} (hl:s.length<=1000000) {lv:Int} (hlv:lv=5-(d:Int))
include hd IH hk hl hlv
theorem T.JQ.L3 : ∀(k y:Nat) (z5:List di) (z6:List au),y+k=s.length->z6.length<=y->z5.length<=y->(∀t,t∈z5->t.length<=1000000)->(∀n,n∈z6->sF 1000000 (d+1) n) ->
 Tot (RdP d kind c s y z5 z6) (λf=>G.dh.L3 f kind lv [c] s (y:Int) z5 z6):=by
 have hc:c=93\/c=125:=by rcases hk with⟨_,h⟩|⟨_,h⟩<;>simp[h]
 have alX:(44:UInt8)≠c:=by rcases hc with h|h<;>rw[h]<;>decide
 intro k
 induction k using fC with|_ k ih=>
 intro y z5 z6 hy h6 h5 ht hn;have K4:∀(p:Nat) (z7:List di),y<=p->p<=s.length->z7.length<=p+1->(∀t,t∈z7->t.length<=1000000) ->
  Tot (λv=>(∃b:Nat,v.2.2=bg.mk s (b:Int)/\y<=b/\b<=s.length)/\sF 1000000 (d+2) v.1/\∀n r,Big d kind n->z6.length<n.bC.length->z6=n.bC.take z6.length->z7=(if kind=4 then n.dS.take (z6.length+1)else []) ->
   s.drop p=nS d (n.bC.getD z6.length default)++uH (nS d) n (z6.length+1) [c] r->v=(n,true,eAt s r))
  (λf=>G.dh.K4 f kind lv [c] z6 s (p:Int) z7):=λp z7 hp hpl h7 ht7=>by
  refine Tot.up ?_;simp only[G.dh.K4];have w1:af .i64 (lv+1)=6-(d:Int):=by rw[VX aI aI];omega
  rw[w1];refine Tot.bind (IH s p _ ⟨hpl,hl⟩ rfl) ?_;rintro⟨m,ok,q⟩⟨⟨b,hb1,hb2,hb3,hb4⟩,hf,hall⟩;simp only at hb1 hb4 hf;subst hb1;cases ok with
  | false=>refine Tot.cf rfl (Tot.ret ⟨⟨b,rfl,aI,hb3⟩,Ai (aJ _),λn r hB hlt _ _ hdr=>?_⟩);have:=hall _ _ (hB.kids _ (getD_mem default hlt)) (RJ hc (wH _)) hdr;cases this
  | true=>
    have hpb:=hb4 rfl;have hAt:At s b:=⟨hb3,hl⟩;have hfin:∀(z7':List di),z7'.length<=1000000->(∀t,t∈z7'->t.length<=1000000)->sF 1000000 (d+2) (au.mk kind 0 [] z7' (z6++[m])):=λz7' g1 g2=>
     ⟨aJ _,g1,g2,by show(z6++[m]).length<=_;rw[ay,dJ];omega,trivial,λx hx=>by
      rcases aS.1 hx with e|e
      ·exact hn x e
      ·rw[dL]at e;subst e;exact hf⟩
    refine Tot.ct rfl (Tot.chk aI (Tot.pR (T.take hAt) ?_));have kid:∀n r,Big d kind n->z6.length<n.bC.length->s.drop p=nS d (n.bC.getD z6.length default)++uH (nS d) n (z6.length+1) [c] r->m=n.bC.getD z6.length default/\s.drop b=uH (nS d) n (z6.length+1) [c] r:=λn r hB hlt hdr=>by have h1:=hall _ _ (hB.kids _ (getD_mem default hlt)) (RJ hc (wH _)) hdr;have h2:=I8 hpl hdr;simp only[aK]at h1;refine⟨h1.1,?_⟩;have h3:=h1.2.2;unfold eAt at h3;have h4:(b:Int)=((s.length-(uH (nS d) n (z6.length+1) [c] r).length:Nat):Int):=(by injection h3);have h5:b=s.length-(uH (nS d) n (z6.length+1) [c] r).length:=(by omega);rw[h5];exact h2.1
    cases e1:iO (s.drop b) [c]with
    | true=>
      rw[GU e1];have hb':=Jh hb3 e1;refine Tot.ct rfl (Tot.ret ⟨⟨b+1,rfl,aI,by simpa using hb'⟩,hfin z7 aI ht7,λn r hB hlt TE h7e hdr=>?_⟩);obtain⟨hm,hdb⟩:=kid n r hB hlt hdr;have hend:¬z6.length+1<n.bC.length:=λh=>(by rw[hdb,DT h (wH _),aey alX]at e1;cases e1);rw[DR aI]at hdb;have hkids:z6++[m]=n.bC:=by have:=take_snoc (default:au) hlt;rw[<- TE,<- hm,eU aI]at this;exact this
      have aew:z7=n.dS:=by
       rw[h7e];rcases hk with⟨k3,_⟩|⟨k4,_⟩
       ·rw[ai aI,hB.QU k3]
       ·rw[aF k4,eU (by have:=hB.len k4;omega)]
      have hpos:bg.mk s ((b+[c].length:Nat):Int)=eAt s r:=Qu hb3 hdb;rw[hpos,hkids,aew,<- hB.kd,<- BC n,hB.num,hB.text]
    | false=>
      rw[JY e1];refine Tot.cf rfl (Tot.pR (T.take hAt) ?_);have akP:∀n r,Big d kind n->z6.length<n.bC.length->s.drop p=nS d (n.bC.getD z6.length default)++uH (nS d) n (z6.length+1) [c] r->z6.length+1<n.bC.length:=λn r hB hlt hdr=>by
       obtain⟨_,hdb⟩:=kid n r hB hlt hdr;by_cases h:z6.length+1<n.bC.length
       ·exact h
       ·rw[hdb,DR aI,KQ]at e1;cases e1
      cases e2:iO (s.drop b) [44]with
      | true=>
        rw[GU e2];have hb':=Jh hb3 e2;simp only[dJ]at hb'⊢;refine Tot.ct rfl ((ih (s.length-(b+1)) aI (b+1) z7 (z6++[m]) aI (by rw[ay,dJ];omega) aI ht7 (λx hx=>?_)).mono ?_)
        ·rcases aS.1 hx with e|e
         ·exact hn x e
         ·rw[dL]at e;subst e;exact hf
        rintro v ⟨⟨b2,g1,g2,g3⟩,g4,g5⟩;refine⟨⟨b2,g1,aI,g3⟩,g4,λn r hB hlt TE h7e hdr=>?_⟩;obtain⟨hm,hdb⟩:=kid n r hB hlt hdr;have hnx:=akP n r hB hlt hdr;rw[DT hnx (wH _)]at hdb;have hlen:(z6++[m]).length=z6.length+1:=(by simp);refine g5 n r hB (by rw[hlen];exact hnx) ?_ (by rw[hlen];exact h7e) (by rw[hlen];exact(vk hdb).2.2);rw[hlen];have:=take_snoc (default:au) hlt;rw[<- TE,<- hm]at this;exact this
      | false=>rw[JY e2];refine Tot.cf rfl (Tot.ret ⟨⟨b,rfl,aI,hb3⟩,Ai (aJ _),λn r hB hlt TE h7e hdr=>?_⟩);obtain⟨_,hdb⟩:=kid n r hB hlt hdr;rw[hdb,DT (akP n r hB hlt hdr) (wH _)]at e2;have:=KQ [44] (EY (nS d) n (z6.length+1)++uH (nS d) n (z6.length+1+1) [c] r);rw[zF]at this;rw[this]at e2;cases e2
 refine Tot.up ?_;simp only[G.dh.L3];refine Tot.ite (λe=>?_) (λe=>?_)
 ·have k4:kind=4:=by simpa using e
  refine Tot.bind (T.MR ⟨aI,hl⟩) ?_;rintro⟨t,ok,q⟩⟨⟨b,hb1,hb2,hb3,hb4⟩,hlen,hall⟩;simp only at hb1 hb4 hlen;subst hb1;have key:∀n r,s.drop y=EY (nS d) n z6.length++uH (nS d) n (z6.length+1) [c] r->n.dH=4->s.drop y=C9 (n.dS.getD z6.length default)++(58::(nS d (n.bC.getD z6.length default)++uH (nS d) n (z6.length+1) [c] r)):=λn r hdr hk4=>by rw[hdr];unfold EY;rw[aF hk4];simp
  cases ok with
  | false=>refine Tot.cf rfl (Tot.ret ⟨⟨b,rfl,hb2,hb3⟩,Ai (aJ _),λn r hB hlt _ _ hdr=>?_⟩);have:=hall _ _ (key n r hdr (by rw[hB.kd,k4]));cases this
  | true=>
    have hpb:=hb4 rfl;refine Tot.ct rfl (Tot.pR (T.take (p:=[58]) ⟨hb3,hl⟩) ?_);have after:∀n r,Big d kind n->s.drop y=EY (nS d) n z6.length++uH (nS d) n (z6.length+1) [c] r->t=n.dS.getD z6.length default/\s.drop b=58::(nS d (n.bC.getD z6.length default)++uH (nS d) n (z6.length+1) [c] r):=λn r hB hdr=>by have hk':=key n r hdr (by rw[hB.kd,k4]);have h1:=hall _ _ hk';simp only[aK]at h1;refine⟨h1.1,?_⟩;have h4:(b:Int)=((y+(C9 (n.dS.getD z6.length default)).length:Nat):Int):=(by injection h1.2.2);have h5:b=y+(C9 (n.dS.getD z6.length default)).length:=(by omega);rw[h5];exact drop_tail hk'
    cases e2:iO (s.drop b) [58]with
    | false=>rw[JY e2];refine Tot.cf rfl (Tot.ret ⟨⟨b,rfl,hb2,hb3⟩,Ai (aJ _),λn r hB hlt _ _ hdr=>?_⟩);have h1:=(after n r hB hdr).2;rw[h1]at e2;have:=KQ [58] (nS d (n.bC.getD z6.length default)++uH (nS d) n (z6.length+1) [c] r);rw[zF]at this;rw[this]at e2;cases e2
    | true=>
      rw[GU e2];have hb':=Jh hb3 e2;simp only[dJ]at hb'⊢;refine Tot.ct rfl (Tot.chk aI ((K4 (b+1) (z5++[t]) aI hb' (by rw[ay,dJ];omega) (λx hx=>?_)).mono ?_))
      ·rcases aS.1 hx with e|e
       ·exact ht x e
       ·rw[dL]at e;subst e;omega
      rintro v ⟨g1,g2,g3⟩;refine⟨g1,g2,λn r hB hlt TE WW hdr=>?_⟩;obtain⟨h1,h2⟩:=after n r hB hdr;refine g3 n r hB hlt TE ?_ (vk h2).2.2;rw[aF k4]at WW⊢;have hnl:=hB.len k4;rw[WW,h1];exact take_snoc (default:di) aI
 ·have k3:kind=3:=by
   rcases hk with⟨h,_⟩|⟨h,_⟩
   ·exact h
   ·rw[h]at e;simp at e
  refine(K4 y z5 (ak _) aI aI ht).mono ?_;rintro v ⟨g1,g2,g3⟩;refine⟨g1,g2,λn r hB hlt TE WW hdr=>?_⟩;refine g3 n r hB hlt TE ?_ ?_
  ·rw[ai aI]at WW⊢;exact WW
  ·unfold EY at hdr;rw[ai (by rw[hB.kd];omega)]at hdr;simpa using hdr
theorem T.JQ {a:Nat}(ha:a<=s.length):Tot (λv:au×Bool×bg=>(∃b:Nat,v.2.2=bg.mk s (b:Int)/\a<=b/\b<=s.length)/\sF 1000000 (d+2) v.1/\∀n r,Big d kind n->s.drop a=uH (nS d) n 0 [c] r->v=(n,true,eAt s r))
 (λf=>G.dh f (bg.mk s (a:Int)) kind lv [c]):=by
 have hc:c=93\/c=125:=by rcases hk with⟨_,h⟩|⟨_,h⟩<;>simp[h]
 refine Tot.up ?_;simp only[G.dh];refine Tot.pR (T.take ⟨ha,hl⟩) ?_;cases e1:iO (s.drop a) [c]with
 | true=>
   rw[GU e1];have hb:=Jh ha e1;refine Tot.ct rfl (Tot.ret ⟨⟨a+1,rfl,aI,by simpa using hb⟩,Ai (aJ _),λn r hB hdr=>?_⟩);have h0:n.bC.length=0:=by
    by_cases h:0<n.bC.length
    ·exfalso;rw[hdr,Ik h]at e1;unfold EY at e1;rcases hk with⟨k3,rfl⟩|⟨k4,rfl⟩
     ·rw[ai (by rw[hB.kd];omega)]at e1;have hS:=hB.kids _ (getD_mem default h);obtain⟨b,q,hq,hb⟩:=QB hS;rw[ja,hq,eH,aey hb.1]at e1;cases e1
     ·rw[aF (by rw[hB.kd];omega)]at e1;unfold C9 at e1;rw[eH,eH,eH,aey xR]at e1;cases e1
    ·omega
   rw[DR aI]at hdr;have hpos:bg.mk s ((a+[c].length:Nat):Int)=eAt s r:=Qu ha hdr;have hkids:n.bC=[]:=dN h0;have aew:n.dS=[]:=by
    rcases hk with⟨k3,_⟩|⟨k4,_⟩
    ·exact hB.QU k3
    ·exact dN (by rw[hB.len k4,h0])
   rw[hpos,<- BC n,hB.kd,hB.num,hB.text,aew,hkids]
 | false=>
   rw[JY e1];refine Tot.cf rfl ((T.JQ.L3 hd IH hk hl hlv (s.length-a) a [] [] aI (aJ _) (aJ _) (λt h=>by cases h) (λt h=>by cases h)).mono ?_);rintro v ⟨g1,g2,g3⟩;refine⟨g1,g2,λn r hB hdr=>?_⟩;have h0:0<n.bC.length:=by
    by_cases h:0<n.bC.length
    ·exact h
    ·rw[hdr,DR aI,KQ]at e1;cases e1
   refine g3 n r hB h0 rfl (by split<;>rfl) ?_;rw[hdr];exact Ik h0
end
theorem UG {d:Nat}{n:au}(h:Shape (d+1) n=true)(hk:n.dH=3\/n.dH=4):Big d n.dH n:=by
 have hp:=mP h;rcases hk with k|k
 ·obtain⟨h1,h2,h3,_⟩:=H9 hp k;exact⟨rfl,h1,h2,λ_=>h3,λh=>by omega,yg h⟩
 ·have hm:=Cf hp k;exact⟨rfl,hm.1,hm.2.1,λh=>by omega,λ_=>hm.2.2.2.2.symm,yg h⟩
theorem L8 {d:Nat}{n:au}(r:di)(k:n.dH=3):nS (d+1) n++r=91::uH (nS d) n 0 [93] r:=by rw[pG,ai aI,ai aI,ai aI,ai aI];unfold uH;simp
theorem Pj {d:Nat}{n:au}(r:di)(k:n.dH=4):nS (d+1) n++r=123::uH (nS d) n 0 [125] r:=by rw[pG,ai aI,ai aI,ai aI,aF k];unfold uH;simp
theorem T.MQ : ∀(d:Nat),d<=5->∀(s:di) (a:Nat) (lv:Int),At s a->lv=6-(d:Int)->Tot (RdT d s a) (λf=>G.iw f (bg.mk s (a:Int)) lv)
 | 0,_,s,a,lv,h,hlv=>by refine Tot.up ?_;simp only[G.iw];refine Tot.ct (iH aI) (Tot.ret ⟨⟨a,rfl,ak _,h.le,λh=>by cases h⟩,Ai (aJ _),λn r hS=>by cases hS⟩)
 | d+1,hd,s,a,lv,h,hlv=>by
   have h1:=h.le;have h2:=h.len;refine Tot.up ?_;simp only[G.iw,ax];refine Tot.cf (gW aI) (Tot.ite (λe=>Tot.ret ?_) (λe=>?_))
   ·simp only[aj]at e;refine⟨⟨a,rfl,ak _,h1,λh=>by cases h⟩,Ai (aJ _),λn r hS _ hdr=>?_⟩;obtain⟨b,q,hq,_⟩:=QB hS;rw[hq,aB aI]at hdr;cases hdr
   have hal:a<s.length:=(by simp only[aQ]at e;omega);have hdd:=gQ (0:UInt8) hal;have beg:∀n r,Shape (d+1) n=true->s.drop a=nS (d+1) n++r->(n.dH=0/\s.getD a 0=110)\/(n.dH=1/\IK (s.getD a 0)=true)\/(n.dH=2/\s.getD a 0=34)\/(n.dH=3/\s.getD a 0=91)\/(n.dH=4/\s.getD a 0=123):=λn r hS hdr=>by
    rw[hdd]at hdr;rcases H8 (mP hS)with k|k|k|k|k
    ·rw[pG,ai aI,ai aI,aF k]at hdr;exact .inl ⟨k,(jZ hdr).1⟩
    ·rw[pG,aF k]at hdr;cases hz:BR n.ve with
     |nil=>exact aY hz (aau _)
     | cons b q=>rw[hz]at hdr;refine .inr (.inl ⟨k,?_⟩);rw[(jZ hdr).1];exact Qs n.ve b (by rw[hz];exact aG ..)
    ·rw[pG,ai aI,aF k]at hdr;exact .inr (.inr (.inl ⟨k,(jZ hdr).1⟩))
    ·rw[L8 r k]at hdr;exact .inr (.inr (.inr (.inl ⟨k,(jZ hdr).1⟩)))
    ·rw[Pj r k]at hdr;exact .inr (.inr (.inr (.inr ⟨k,(jZ hdr).1⟩)))
   have w1:af .i64 ((a:Int)+1)=((a+1:Nat):Int):=qp aI;refine Tot.chk ⟨aI,aI⟩ ?_;rw[show(110:Int)=((110:UInt8).toNat:Int)from rfl,show(34:Int)=((34:UInt8).toNat:Int)from rfl,show(91:Int)=((91:UInt8).toNat:Int)from rfl,show(123:Int)=((123:UInt8).toNat:Int)from rfl];have dn:∀{b:UInt8} (c:UInt8),IK b=true->IK c=false->b≠c:=λc h1 h2 e=>(by rw[e,h2]at h1;cases h1);refine Tot.ite (λe0=>?_) (λe0=>Tot.ite (λe2=>?_) (λe2=>Tot.ite (λe3=>?_) (λe3=>Tot.ite (λe4=>?_) (λe4=>?_))))
   ·rw[xA,aH]at e0;refine Tot.pR (T.take h) (Tot.ret ?_);cases e1:iO (s.drop a) [110,117,108,108]with
    | true=>
      rw[GU e1];have hb:=Jh h1 e1;refine⟨⟨a+4,rfl,aI,by simpa using hb,λ_=>by omega⟩,Ai (aJ _),λn r hS _ hdr=>?_⟩;rcases beg n r hS hdr with⟨k,_⟩|⟨_,hx⟩|⟨_,hx⟩|⟨_,hx⟩|⟨_,hx⟩
      ·have hp:=mP hS;have hl:=yc hp aI aI;have hn0:n.ve=0/\n.oz=[]:=Ld hp k;rw[pG,ai aI,ai aI,aF k]at hdr;have hpos:bg.mk s ((a+[110,117,108,108].length:Nat):Int)=eAt s r:=Qu h1 hdr;have hn:au.mk 0 0 [] [] []=n:=(by conv=>rhs;rw[<- BC n,k,hn0.1,hn0.2,hl.1,hl.2]);exact pz hn (pz rfl hpos)
      ·exact aY e0 (dn 110 hx rfl)
      all_goals(rw[hx]at e0;exact aY e0 xR)
    | false=>
      rw[JY e1];refine⟨⟨a,rfl,ak _,h1,λh=>by cases h⟩,Ai (aJ _),λn r hS _ hdr=>?_⟩;rcases beg n r hS hdr with⟨k,_⟩|⟨_,hx⟩|⟨_,hx⟩|⟨_,hx⟩|⟨_,hx⟩
      ·rw[pG,ai aI,ai aI,aF k]at hdr;rw[hdr,KQ]at e1;cases e1
      ·exact aY e0 (dn 110 hx rfl)
      all_goals(rw[hx]at e0;exact aY e0 xR)
   ·rw[xA,aH]at e2;refine Tot.bind (T.MR h) ?_;rintro⟨t,ok,q⟩⟨hpos,hlen,hall⟩;refine Tot.ret ⟨hpos,Ai (dR hlen h2),λn r hS _ hdr=>?_⟩;rcases beg n r hS hdr with⟨_,hx⟩|⟨_,hx⟩|⟨k,_⟩|⟨_,hx⟩|⟨_,hx⟩
    ·rw[hx]at e2;exact aY e2 xR
    ·exact aY e2 (dn 34 hx rfl)
    ·have hp:=mP hS;have hl:=yc hp aI aI;have hn0:n.ve=0:=Q4 hp aI;rw[pG,ai aI,aF k]at hdr;have h3:=hall _ _ hdr;rw[Qu h1 hdr]at h3;simp only[aK]at h3;obtain⟨rfl,rfl,rfl⟩:=h3;refine pz ?_ rfl;show au.mk 2 0 n.oz [] []=n
     conv=>rhs;rw[<- BC n,k,hn0,hl.1,hl.2]
    all_goals(rw[hx]at e2;exact aY e2 xR)
   ·rw[xA,aH]at e3;rw[w1];refine Tot.bind (T.JQ aI (λs a lv h hlv=>T.MQ d aI s a lv h hlv) (.inl ⟨rfl,rfl⟩) h2 aI (show a+1<=s.length by omega)) ?_;rintro⟨m,ok,q⟩⟨⟨b,hb1,hb2,hb3⟩,hf,hall⟩;refine Tot.ret ⟨⟨b,hb1,aI,hb3,λ_=>by omega⟩,hf,λn r hS _ hdr=>?_⟩;rcases beg n r hS hdr with⟨_,hx⟩|⟨_,hx⟩|⟨_,hx⟩|⟨k,_⟩|⟨_,hx⟩
    ·rw[hx]at e3;exact aY e3 xR
    ·exact aY e3 (dn 91 hx rfl)
    ·rw[hx]at e3;exact aY e3 xR
    ·rw[L8 r k]at hdr;have hB:=UG hS (.inl k);rw[k]at hB;exact hall n r hB (vk hdr).2.2
    ·rw[hx]at e3;exact aY e3 xR
   ·rw[xA,aH]at e4;rw[w1];refine Tot.bind (T.JQ aI (λs a lv h hlv=>T.MQ d aI s a lv h hlv) (.inr ⟨rfl,rfl⟩) h2 aI (show a+1<=s.length by omega)) ?_;rintro⟨m,ok,q⟩⟨⟨b,hb1,hb2,hb3⟩,hf,hall⟩;refine Tot.ret ⟨⟨b,hb1,aI,hb3,λ_=>by omega⟩,hf,λn r hS _ hdr=>?_⟩;rcases beg n r hS hdr with⟨_,hx⟩|⟨_,hx⟩|⟨_,hx⟩|⟨_,hx⟩|⟨k,_⟩
    ·rw[hx]at e4;exact aY e4 xR
    ·exact aY e4 (dn 123 hx rfl)
    ·rw[hx]at e4;exact aY e4 xR
    ·rw[hx]at e4;exact aY e4 xR
    ·rw[Pj r k]at hdr;have hB:=UG hS (.inr k);rw[k]at hB;exact hall n r hB (vk hdr).2.2
   ·rw[xA]at e0 e2 e3 e4;refine Tot.bind (T.ZC h) ?_;rintro⟨m,ok,q⟩⟨hpos,⟨z,hf⟩,hall⟩;refine Tot.ret ⟨hpos,by rcases hf with e|e<;>(simp only at e;rw[e];exact Ai (aJ _)),λn r hS hr hdr=>?_⟩;rcases beg n r hS hdr with⟨_,hx⟩|⟨k,_⟩|⟨_,hx⟩|⟨_,hx⟩|⟨_,hx⟩
    ·rw[hx]at e0;exact aY e0 xR
    ·have hp:=mP hS;have hl:=yc hp aI aI;have hn:=GI hp k;have ht:=Q5 hp aI;rw[pG,aF k]at hdr;have h3:=hall n.ve r hn.1 hn.2 hr hdr;rw[Qu h1 hdr]at h3;rw[h3];refine pz ?_ rfl;show au.mk 1 n.ve [] [] []=n
     conv=>rhs;rw[<- BC n,k,ht,hl.1,hl.2]
    ·rw[hx]at e2;exact aY e2 xR
    ·rw[hx]at e3;exact aY e3 xR
    ·rw[hx]at e4;exact aY e4 xR
end
theorem JX {t:di}(h:Lt t=true):t.length=4:=by unfold Lt at h;simp only[ah,aj]at h;exact h.2
theorem GN {t:di}(h:IJ t=true):t.length<=4:=by
 unfold IJ at h;simp only[dP,aH]at h;rcases h with h|h
 ·rw[h];simp
 ·rw[JX h];exact ak _
theorem xk {l:List di}(h:Bz l=true):l.length<=4/\∀t,t∈l->IJ t=true:=by unfold Bz at h;simp only[ah,aj,aN]at h;exact⟨h.2,h.1⟩
theorem ahs {t:di}(h:Lt t=true):C9 t=34::(t++[34]):=by
 unfold Lt at h;simp only[ah,aN]at h;have:∀l:di,(∀b,b∈l->okH b=true)->l.flatMap BD=l:=by
  intro l
  induction l with
  |nil=>intro _;rfl
  | cons b l ih=>
    intro hb;have h1:=hb b (aG ..);have:BD b=[b]:=by unfold BD;rw[ai];rintro(e|e)<;>(rw[e]at h1;exact aY h1 xR)
    rw[bG,this,ih (λc hc=>hb c (bF _ hc))];rfl
 unfold C9;rw[this t h.1]
def ET (t:di):di:=if t=[42]then [42]else 34::(t++[34])
def VR (l:List di)(i:Nat):di:=(if 0<i then [44]else [])++ET (l.getD i default)
def DI (l:List di):di:=if Bz l then(gz 0 l.length).flatMap (VR l)else []
theorem VS {l:List di}(h:Bz l=true)(i:Nat):(VR l i).length<=7:=by
 have h1:(if 0<i then([44]:di)else []).length<=1:=by split<;>simp
 have h2:(l.getD i default).length<=4:=by
  by_cases hi:i<l.length
  ·exact GN ((xk h).2 _ (getD_mem default hi))
  ·rw[bH,kV aI];simp;decide
 have h3:(ET (l.getD i default)).length<=6:=by
  unfold ET;split
  ·simp
  ·simp only[dW,ay,fB];omega
 unfold VR;rw[ay];omega
theorem Py (l:List di):(DI l).length<=28:=by
 unfold DI;split
 ·rename_i h;have:=aaA (g:=VR l) (m:=7) l.length 0 (λj _ _=>VS h j);have:=(xk h).1;omega
 ·simp
theorem T.gy {l:List di}(hs:Sm l):Ev (λf=>G.gy f l) (DI l):=by
 refine dF ?_;simp only[G.gy];unfold DI;refine aZ (T.jS hs) (fH (λe=>?_) (λe=>bU (by rw[e];rfl)));obtain⟨h4,ht⟩:=xk e;rw[e];have L:∀(k i:Nat) (z:di),i+k=l.length->z.length+7*k<=1000->Ev (λf=>G.gy.L3 f l i z) (z++(gz i k).flatMap (VR l)):=by
  intro k
  induction k with
  | zero=>intro i z hi hz;refine dF ?_;simp only[G.gy.L3];exact rU (aZ (T.bs' (by show z.length<=_;omega)) (bU nV))
  | succ k ih=>
    intro i z hi hz;have hil:i<l.length:=(by omega);have hl:=VS e i;have hv:=ht _ (getD_mem default hil);have h4:=GN hv;have ez:VR l i=(if 0<i then [44]else [])++ET (l.getD i default):=rfl;have K:∀z':di,z'=z++(if 0<i then [44]else [])->Ev (λf=>G.gy.K4 f l i z') (z++(gz i (k+1)).flatMap (VR l)):=λz' he=>by
     have e2:z'++ET (l.getD i default)=z++VR l i:=(by rw[he,ez,dB]);have e3:=kZ kz e2;simp only[ay]at e3;have hn:=ih (i+1) (z'++ET (l.getD i default)) aI (by rw[e2,ay];omega);refine dF ?_;simp only[G.gy.K4,ax,Gh i];have fin:(z'++ET (l.getD i default))++(gz (i+1) k).flatMap (VR l)=z++(gz i (k+1)).flatMap (VR l):=(by rw[e2,ni,bG,dB]);rw[<- fin];refine fH (λc=>?_) (λc=>?_)
     ·have c':l.getD i default=[42]:=(by simpa using c);have:ET (l.getD i default)=l.getD i default:=(by unfold ET;rw[aF c',c']);rw[this]at hn e3⊢;exact aZ (T.ws (by show z'.length+_<=_;omega)) hn
     ·have c':¬l.getD i default=[42]:=(by simpa using c);have hsv:Lt (l.getD i default)=true:=by
       unfold IJ at hv;simp only[dP,aH]at hv;exact hv.resolve_left c'
      have:ET (l.getD i default)=C9 (l.getD i default):=(by unfold ET;rw[ai c',ahs hsv]);rw[this]at hn e3⊢;exact aZ (T.gG aI) hn
    refine dF ?_;simp only[G.gy.L3];refine vN (iY ?_);by_cases h0:0<i
    ·exact vN (aZ (Et 44 aI) (K _ (by rw[aF h0])))
    ·exact rU (K _ (by rw[ai h0,iZ]))
 exact(L l.length 0 [] aI (by simp;omega)).eq nV
theorem T.fG {l:List di}(hs:Sm l):Ev (λf=>G.fG f l) (DI l):=by
 have hM:=maxL;refine dF ?_;simp only[G.fG];unfold DI;refine aZ (T.iG hs) (fH (λe=>?_) (λe=>bU (by rw[e];rfl)));obtain⟨h4,ht⟩:=xk e;rw[e];have L:∀(k i:Nat) (z:di),i+k=l.length->z.length+7*k<=1000->Ev (λf=>G.fG.L3 f l z i) (z++(gz i k).flatMap (VR l)):=by
  intro k
  induction k with
  | zero=>intro i z hi hz;refine dF ?_;simp only[G.fG.L3];exact rU (bU nV)
  | succ k ih=>
    intro i z hi hz;have hil:i<l.length:=(by omega);have hl:=VS e i;have h4:=GN (ht _ (getD_mem default hil));have ez:VR l i=(if 0<i then [44]else [])++ET (l.getD i default):=rfl;have K:∀z':di,z'=z++(if 0<i then [44]else [])->Ev (λf=>G.fG.K4 f l i z') (z++(gz i (k+1)).flatMap (VR l)):=λz' he=>by
     have e2:z'++ET (l.getD i default)=z++VR l i:=(by rw[he,ez,dB]);have e3:=kZ kz e2;simp only[ay]at e3;have hn:=ih (i+1) (z'++ET (l.getD i default)) aI (by rw[e2,ay];omega);refine dF ?_;simp only[G.fG.K4,ax,Gh i];have fin:(z'++ET (l.getD i default))++(gz (i+1) k).flatMap (VR l)=z++(gz i (k+1)).flatMap (VR l):=(by rw[e2,ni,bG,dB]);rw[<- fin];refine iY (fH (λc=>?_) (λc=>?_))
     ·have c':l.getD i default=[42]:=(by simpa using c);have:ET (l.getD i default)=[42]:=(by unfold ET;rw[aF c']);rw[this]at hn e3⊢;simp only[dJ]at e3;exact iY hn
     ·have c':¬l.getD i default=[42]:=(by simpa using c);have:ET (l.getD i default)=34::(l.getD i default++[34]):=(by unfold ET;rw[ai c']);rw[this]at hn e3⊢;simp only[dW,ay,fB]at e3;refine iY (iY (iY (iY ?_)));simpa using hn
    refine dF ?_;simp only[G.fG.L3];refine vN ?_;by_cases h0:0<i
    ·exact vN (iY (K _ (by rw[aF h0])))
    ·exact rU (K _ (by rw[ai h0,iZ]))
 exact(L l.length 0 [] aI (by simp;omega)).eq nV
def F8 (s:di):au:=au.mk 2 0 s [] []
def Eb (p:List di):au:=au.mk 3 0 [] [] (p.map F8)
def FY : List di:=[[],[97,100,100],[114,101,109,111,118,101],[114,101,112,108,97,99,101],[109,111,118,101],[99,111,112,121],[116,101,115,116]]
def QY : List di:=[[102,114,111,109],[111,112],[112,97,116,104],[118,97,108,117,101]]
def H7 (o:o6):au:=au.mk 4 0 [] QY [Eb o.vg,F8 (FY.getD o.dH.toNat default),Eb o.uF,o.Value]
theorem Ya {s:di}(h:s.length<=12):Fine 12 2 (F8 s):=⟨h,aJ _,(λs h=>by cases h),aJ _,(λh=>by cases h),(λk h=>by cases h)⟩
theorem XV {p:List di}(h:PP p=true):Fine 12 3 (Eb p):=by
 have hp:=EK h;refine⟨by simp[Eb],by simp[Eb],(λs h=>by cases h),?_,(λh=>by cases h),λk hk=>?_⟩
 ·show(p.map F8).length<=12;rw[kX];exact hp.1
 ·obtain⟨s,hs,rfl⟩:=bf.1 (show k∈p.map F8 from hk);exact Ya (hp.2 s hs)
theorem Vw {o:o6}(h:aag o):o.dH=1\/o.dH=2\/o.dH=3\/o.dH=4\/o.dH=5\/o.dH=6:=by have:=h.k1;have:=h.k6;omega
theorem Xy {o:o6}(h:PO o=true):Fine 12 6 (H7 o):=by
 have hf:=uo h;refine⟨by simp[H7],by simp[H7,QY],?_,by simp[H7],λ_=>by simp[H7,QY],λk hk=>?_⟩
 ·intro s hs;simp[H7,QY]at hs;rcases hs with rfl|rfl|rfl|rfl<;>simp
 ·have hk:k∈[Eb o.vg,F8 (FY.getD o.dH.toNat default),Eb o.uF,o.Value]:=hk;simp only[aO,jL,or_false]at hk;rcases hk with rfl|rfl|rfl|rfl
  ·exact(XV hf.from_).mono (ak _) xR
  ·refine(Ya ?_).mono (ak _) xR;rcases Vw hf with e|e|e|e|e|e<;>rw[e]<;>decide
  ·exact(XV hf.path).mono (ak _) xR
  ·exact GZ hf.val
theorem T.ak7 {p:List di}(h:p.length<=1000):Ev (λf=>G.jW f p) (Eb p):=by
 have L:∀(k i:Nat) (z:List au),i+k=p.length->z.length<=i->Ev (λf=>G.jW.L1 f p i z) (au.mk 3 0 [] [] (z++(p.drop i).map F8)):=by
  intro k
  induction k with
  | zero=>intro i z hi hz;refine dF ?_;simp only[G.jW.L1];exact rU (bU (by rw[aB aI];simp))
  | succ k ih=>intro i z hi hz;have hn:=ih (i+1) (z++[F8 (p.getD i default)]) aI (by simp;omega);refine dF ?_;simp only[G.jW.L1,ax,Gh i];refine vN (iY (iY (hn.eq ?_)));rw[gQ default (by omega:i<p.length),dB];rfl
 refine dF ?_;simp only[G.jW];exact(L p.length 0 [] aI nV).eq (by simp[Eb])
theorem T.ak8 {p:List di}(h:p.length<=1000):Ev (λf=>G.oJ f p) (Eb p):=by
 have W:∀s:di,Ev (λf=>G.uN f s) (F8 s):=λs=>by refine dF ?_;simp only[G.uN];exact jQ _
 have L:∀(k i:Nat) (z:List au),i+k=p.length->z.length<=i->Ev (λf=>G.oJ.L1 f p i z) (au.mk 3 0 [] [] (z++(p.drop i).map F8)):=by
  intro k
  induction k with
  | zero=>intro i z hi hz;refine dF ?_;simp only[G.oJ.L1];exact rU (bU (by rw[aB aI];simp))
  | succ k ih=>intro i z hi hz;have hn:=ih (i+1) (z++[F8 (p.getD i default)]) aI (by simp;omega);refine dF ?_;simp only[G.oJ.L1,ax,Gh i];refine vN (iY (aZ (W _) (iY (hn.eq ?_))));rw[gQ default (by omega:i<p.length),dB];rfl
 refine dF ?_;simp only[G.oJ];exact(L p.length 0 [] aI nV).eq (by simp[Eb])
theorem T.nY {o:o6}(h:PO o=true):Ev (λf=>G.nY f o) (H7 o):=by
 have hf:=uo h;have h1:=(EK hf.from_).1;have h2:=(EK hf.path).1;have k1:=hf.k1;have k6:=hf.k6;refine dF ?_;simp only[G.nY];refine aZ (T.ak8 aI) (aZ (a:=FY) (dF ?_) (yh (by show 0<=o.dH/\o.dH<((7:Nat):Int);omega) (aZ (a:=F8 (FY.getD o.dH.toNat default)) (dF ?_) (aZ (T.ak8 aI) (aZ (T.iT aaI (GZ hf.val)) (jQ _))))))
 ·simp only[G.qM];exact jQ _
 ·simp only[G.uN];exact jQ _
theorem T.pO {o:o6}(hfo:∃D,V5 60 D o):Ev (λf=>G.pO f o) (QZ (if PO o then(some (H7 o)).filter Val else none)):=by
 obtain⟨D,hD⟩:=hfo;refine dF ?_;simp only[G.pO];refine aZ (T.qY Xk hD) (fH (λe=>?_) (λe=>bU (by rw[e];rfl)));have hf:=uo e;have h1:=(EK hf.from_).1;have h2:=(EK hf.path).1;have hw:Ev (λf=>G.qH f o.dH) (FY.getD o.dH.toNat default):=by refine dF ?_;simp only[G.qH];rcases Vw hf with e|e|e|e|e|e<;>rw[e]<;>exact evd
 have gc:=T.qK (o:=some (H7 o)) aaI (λm hm=>by cases hm;exact Xy e);rw[e];exact aZ (T.ak7 aI) (aZ hw (aZ (T.ak7 aI) (aZ (T.fO aaI (GZ hf.val)) (aZ gc (jQ _)))))
section
def opP (o:o6):di:=nS 5 (H7 o)++[59]
def okO (l:List o6):Bool:=l.all λo=>Val (H7 o)
def opsT (l:List o6):di:=l.flatMap opP
theorem ahp {o:o6}(h:Val (H7 o)=true):(opP o).length<=4000001:=by unfold opP;have:=fmt5 h;rw[ay,dJ];omega
theorem Q7 {l:List o6}(h:II l=true):l.length<=12/\∀o,o∈l->PO o=true:=by unfold II at h;simp only[ah,aj,aN]at h;exact⟨h.2,h.1⟩
theorem T.jT {l:List o6}(hl:V4 l)(h:II l=true):Ev (λf=>G.jT f l) (if okO l then(opsT l,true)else([],false)):=by
 obtain⟨h12,hv⟩:=Q7 h;have L:∀(k i:Nat) (z:di),i+k=l.length->z.length+4000001*k<=60000000->Ev (λf=>G.jT.L1 f l i z) (if okO (l.drop i)then(z++opsT (l.drop i),true)else([],false)):=by
  intro k
  induction k with
  | zero=>intro i z hi hz;refine dF ?_;simp only[G.jT.L1];rw[aB aI];exact rU (aZ (T.bs' (by show z.length<=_;omega)) (bU (by simp[okO,opsT])))
  | succ k ih=>
    intro i z hi hz;have hil:i<l.length:=(by omega);have hm:=getD_mem default hil;have hov:=hv _ hm;have hO:=T.pO (o:=l.getD i default) (hl.2 _ hm);rw[hov]at hO;rw[gQ default hil];refine dF ?_;simp only[G.jT.L1,ax,o6.eta,Gh i];refine vN (iY (aZ hO ?_));cases hn:Val (H7 (l.getD i default))with
    | false=>have e:okO (l.getD i default::l.drop (i+1))=false:=(by unfold okO;rw[fF,hn];rfl);rw[e];simp only[AU,hn,kN,if_false,Bool.false_eq_true];exact mW rfl (jQ _)
    | true=>have e:okO (l.getD i default::l.drop (i+1))=okO (l.drop (i+1)):=(by unfold okO;rw[fF,hn];rfl);have hf:=fmt5 hn;rw[e];simp only[AU,hn,kN,QZ];refine mF rfl (aZ (T.bV 5 (uO hn) aI) (aZ (Et 59 (by rw[ay];omega)) ?_));refine(ih (i+1) _ aI (by rw[ay,ay,dJ];omega)).eq ?_;have:opsT (l.getD i default::l.drop (i+1))=opP (l.getD i default)++opsT (l.drop (i+1)):=(by unfold opsT;rw[bG]);rw[this];unfold opP;simp only[dB]
 refine dF ?_;simp only[G.jT];exact(L l.length 0 [] aI (by simp;omega)).eq (by rw[iC,ja])
def G6 : List di:=[[],[103,101,116],[112,117,116],[100,101,108,101,116,101],[112,97,116,99,104],[109,101,114,103,101]]
def hdT (q:cZ):di:=G6.getD q.gZ.toNat default++[32]++q.rW++[32]++DI q.xZ++[32]++DI q.tu++[32]
def JE (q:cZ):di:=hdT q++(if q.gZ=4 then opsT q.vZ else nS 5 q.Body)
def lean (q:cZ):Bool:=(q.Body.dH==0||q.gZ==2||q.gZ==5)&&(q.vZ.isEmpty||q.gZ==4)
def wP (q:cZ):di:=if Yf q&&(lean q&&okO q.vZ)then JE q else []
structure RqP (q:cZ):Prop where
 lo:1<=q.gZ
 hi:q.gZ<=5
 QU:NmV q.rW=true
 want:Bz q.xZ=true
 avoid:Bz q.tu=true
 body:Val q.Body=true
 ops:II q.vZ=true
theorem Uh {q:cZ}(h:Yf q=true):RqP q:=by unfold Yf at h;simp only[ah,aj]at h;obtain⟨⟨a,b⟩,c,d,e,f,g⟩:=h;exact⟨a,b,c,d,e,f,g⟩
theorem meth {q:cZ}(h:RqP q):q.gZ=1\/q.gZ=2\/q.gZ=3\/q.gZ=4\/q.gZ=5:=by have:=h.lo;have:=h.hi;omega
theorem abh {q:cZ}(h:RqP q):(G6.getD q.gZ.toNat default).length<=6:=by rcases meth h with e|e|e|e|e<;>rw[e]<;>decide
theorem Nc {l:List di}(h:Bz l=true):Sm l:=by obtain⟨h1,h2⟩:=xk h;refine⟨by unfold big;omega,λt ht=>?_⟩;have:=GN (h2 t ht);unfold big;omega
theorem ahq {l:List o6}(h:okO l=true):(opsT l).length<=l.length*4000001:=by
 unfold okO at h
 induction l with
 |nil=>simp[opsT]
 | cons o l ih=>rw[fF,ah]at h;have h1:=ahp h.1;have h2:=ih h.2;unfold opsT at *;rw[bG,ay,dW,Nat.add_mul];omega
theorem akG (a b c d e:di):Go.Lib.join [a,b,c,d,e] [32]=a++[32]++b++[32]++c++[32]++d++[32]++e:=by simp[Go.Lib.join,List.intercalate,List.intersperse,List.flatten]
section
variable {q:cZ} (hq:PI 60 q)
include hq
theorem T.aV : Ev (λf=>G.aV f q) (wP q):=by
 refine dF ?_;simp only[G.aV];unfold wP;refine aZ (T.lV Xk hq) (fH (λe=>?_) (λe=>bU (by rw[e];rfl)));have hr:=Uh e;obtain⟨D,hD⟩:=hq.body;have hF:=T.nC Xk hD;have eF:agq q.Body=nS 5 q.Body:=by unfold agq;rw[aF hr.body]
 rw[eF]at hF;have h5:=fmt5 hr.body;have hn:=(Zw hr.QU).2;have hv:=abh hr;have t1:=Py q.xZ;have t2:=Py q.tu;have hm:Ev (λf=>G.lK f q.gZ) (G6.getD q.gZ.toNat default):=by refine dF ?_;simp only[G.lK];rcases meth hr with e|e|e|e|e<;>rw[e]<;>exact evd
 have hT1:=T.gy (Nc hr.want);have hT2:=T.gy (Nc hr.avoid);have hJ:∀c:di,c.length<=60000000->Ev (λf=>G.strings_Join f [G6.getD q.gZ.toNat default,q.rW,DI q.xZ,DI q.tu,c] [32]) (hdT q++c):=λc hc=>by refine dF ?_;simp only[G.strings_Join];rw[akG];refine yh ⟨nV,?_⟩ (bU rfl);simp only[ay,dJ];omega
 have K2:∀c:di,c.length<=60000000->Ev (λf=>G.aV.K2 f q c) (hdT q++c)/\Ev (λf=>G.aV.K4 f q c) (hdT q++c):=λc hc=>by
  constructor<;>refine dF ?_
  ·simp only[G.aV.K2];exact aZ hm (aZ hT1 (aZ hT2 (aZ (hJ c hc) (jQ _))))
  ·simp only[G.aV.K4];exact aZ hm (aZ hT1 (aZ hT2 (aZ (hJ c hc) (jQ _))))
 have hO:=T.jT hq.ops hr.ops;have hol:=(Q7 hr.ops).1;have K1:(q.vZ.isEmpty||q.gZ==4)=true->Ev (λf=>G.aV.K1 f q) (if okO q.vZ then JE q else [])/\Ev (λf=>G.aV.K3 f q) (if okO q.vZ then JE q else []):=λhc=>by
  unfold JE;by_cases c4:q.gZ=4
  ·rw[aF c4];cases ho:okO q.vZ with
   | true=>
     rw[ho]at hO;have:=ahq ho;have hlen:(opsT q.vZ).length<=60000000:=by have:q.vZ.length*4000001<=12*4000001:=aW _ hol;omega
     constructor<;>refine dF ?_
     ·simp only[G.aV.K1];exact aZ hF (mF (by simpa using c4) (aZ hO (mF rfl (K2 _ hlen).1)))
     ·simp only[G.aV.K3];exact aZ hF (mF (by simpa using c4) (aZ hO (mF rfl (K2 _ hlen).2)))
   | false=>
     rw[ho]at hO;constructor<;>refine dF ?_
     ·simp only[G.aV.K1];exact aZ hF (mF (by simpa using c4) (aZ hO (mW rfl (jQ _))))
     ·simp only[G.aV.K3];exact aZ hF (mF (by simpa using c4) (aZ hO (mW rfl (jQ _))))
  ·rw[ai c4];have he:q.vZ=[]:=by
    have:q.vZ.isEmpty=true:=(by simpa[c4]using hc);simpa using this
   have ho:okO q.vZ=true:=(by rw[he];rfl);rw[ho];constructor<;>refine dF ?_
   ·simp only[G.aV.K1];exact aZ hF (mW (by simpa using c4) (K2 _ aI).1)
   ·simp only[G.aV.K3];exact aZ hF (mW (by simpa using c4) (K2 _ aI).2)
 have eo:decide ((0:Int)<(q.vZ.length:Int)) = !q.vZ.isEmpty:=by cases q.vZ<;>simp
 rw[e];unfold lean;simp only[eo];have fin:∀b:Bool,(b&&(q.vZ.isEmpty||q.gZ==4))=true->((if(true&&((b&&(q.vZ.isEmpty||q.gZ==4))&&okO q.vZ))=true then JE q else [])=if okO q.vZ then JE q else []):=λb hb=>by rw[hb];simp
 have g:∀(b:Bool) (g:Nat->Option di),b=true->((q.vZ.isEmpty||q.gZ==4)=true->Ev g (if okO q.vZ then JE q else [])) ->
  Ev (λf=>cond (q.gZ != 4) (cond (!q.vZ.isEmpty) (some []) (g f)) (g f)) (if(true&&((b&&(q.vZ.isEmpty||q.gZ==4))&&okO q.vZ))=true then JE q else []):=λb g hb hg=>by
  subst hb;refine fH (λc4=>fH (λco=>bU ?_) (λco=>?_)) (λc4=>?_)
  ·have h1:q.vZ.isEmpty=false:=(by simpa using co);have h2:(q.gZ==4)=false:=(by simpa using c4);rw[h1,h2];rfl
  ·have h1:q.vZ.isEmpty=true:=(by simpa using co);have h2:(q.vZ.isEmpty||q.gZ==4)=true:=(by rw[h1];rfl);rw[fin true (by rw[h2];rfl)];exact hg h2
  ·have h1:(q.gZ==4)=true:=(by simpa using c4);have h2:(q.vZ.isEmpty||q.gZ==4)=true:=(by rw[h1];simp);rw[fin true (by rw[h2];rfl)];exact hg h2
 refine fH (λc2=>g _ _ (by rw[c2];simp) (λh=>(K1 h).1)) (λc2=>fH (λc5=>g _ _ (by rw[c5];simp) (λh=>(K1 h).2)) (λc5=>fH (λc0=>bU ?_) (λc0=>?_)))
 ·have h0:(q.Body.dH==0)=false:=by simpa using c0
  rw[h0,c2,c5];rfl
 ·have h0:(q.Body.dH==0)=true:=by simpa using c0
  exact g _ _ (by rw[h0];rfl) (λh=>(K1 h).2)
theorem T.dA : Ev (λf=>G.dA f q) (wP q):=by
 have hM:=maxL;refine dF ?_;simp only[G.dA];unfold wP;refine aZ (T.kC Xk hq) (fH (λe=>?_) (λe=>bU (by rw[e];rfl)));have hr:=Uh e;have h5:=fmt5 hr.body;have hn:=(Zw hr.QU).2;have hv:=abh hr;have t1:=Py q.xZ;have t2:=Py q.tu;obtain⟨h12,hov⟩:=Q7 hr.ops;have hT1:=T.fG (Nc hr.want);have hT2:=T.fG (Nc hr.avoid);have lo:=hr.lo;have hi:=hr.hi;have hd:(hdT q).length<=100:=by unfold hdT;simp only[ay,dJ];omega
 have L1:okO q.vZ=true->∀(k i:Nat) (z:di),i+k=q.vZ.length->z.length+4000001*k<=60000000->Ev (λf=>G.jo.L1 f q z i) (z++opsT (q.vZ.drop i)):=by
  intro ho k
  induction k with
  | zero=>intro i z hi hz;refine dF ?_;simp only[G.jo.L1];rw[aB aI];exact rU (bU (by simp[opsT]))
  | succ k ih=>
    intro i z hi hz;have hil:i<q.vZ.length:=(by omega);have hm:=getD_mem default hil;have hn:Val (H7 (q.vZ.getD i default))=true:=by unfold okO at ho;exact aN.1 ho _ hm
    have hf:=fmt5 hn;rw[gQ default hil];refine dF ?_;simp only[G.jo.L1,ax,o6.eta,Gh i];refine vN (iY (aZ (T.nY (hov _ hm)) (aZ (T.gu 5 aI (uO hn)) (iY (iY ?_)))));refine(ih (i+1) _ aI (by rw[ay,ay,dJ];omega)).eq ?_;have:opsT (q.vZ.getD i default::q.vZ.drop (i+1))=opP (q.vZ.getD i default)++opsT (q.vZ.drop (i+1)):=(by unfold opsT;rw[bG]);rw[this];unfold opP;simp only[dB]
 have F:okO q.vZ=true->Ev (λf=>G.jo f q) (JE q):=λho=>by
  refine dF ?_;simp only[G.jo];have hmn:(q.gZ.toNat:Int)=q.gZ:=by omega
  refine aZ (a:=G6) (dF ?_) (yh (by show 0<=q.gZ/\q.gZ<((6:Nat):Int);omega) (iY (iY (iY (aZ hT1 (iY (iY (aZ hT2 (iY (iY (fH (λc4=>?_) (λc4=>?_))))))))))))
  ·simp only[G.tY];exact jQ _
  ·unfold JE;rw[aF (by simpa using c4)];have:=aW 4000001 h12;exact(L1 ho q.vZ.length 0 (hdT q) aI aI).eq (by rw[iC])
  ·unfold JE;rw[ai (by simpa using c4)];exact aZ (T.gu 5 aI (uO hr.body)) (iY (bU rfl))
 have L2:∀(k i:Nat),i+k=q.vZ.length->okO q.vZ=okO (q.vZ.drop i)->Ev (λf=>G.dA.L2 f q i) (if okO q.vZ then JE q else []):=by
  intro k
  induction k with
  | zero=>intro i hi ho;rw[aB aI]at ho;have ho:okO q.vZ=true:=ho;refine dF ?_;simp only[G.dA.L2];rw[ho];exact rU (aZ (F ho) (jQ _))
  | succ k ih=>
    intro i hi ho;have hil:i<q.vZ.length:=(by omega);have hm:=getD_mem default hil;rw[gQ default hil]at ho;refine dF ?_;simp only[G.dA.L2,ax,o6.eta,Gh i];refine vN (iY (aZ (T.nY (hov _ hm)) (aZ (T.iU aaI (Xy (hov _ hm))) (fH (λhn=>?_) (λhn=>bU ?_)))))
    ·refine ih (i+1) aI ?_;rw[ho];unfold okO;rw[fF,hn];rfl
    ·have:okO q.vZ=false:=(by rw[ho];unfold okO;rw[fF,hn];rfl);rw[this];rfl
 have K1:Ev (λf=>G.dA.K1 f q) (if okO q.vZ then JE q else []):=by refine dF ?_;simp only[G.dA.K1];exact L2 q.vZ.length 0 aI (by rw[iC])
 have eo:decide ((0:Int)<(q.vZ.length:Int)) = !q.vZ.isEmpty:=by cases q.vZ<;>simp
 have e2:(q.gZ != 2) = !(q.gZ==2):=rfl;have e5:(q.gZ != 5) = !(q.gZ==5):=rfl;have e4:(q.gZ != 4) = !(q.gZ==4):=rfl;have e0:(q.Body.dH != 0) = !(q.Body.dH==0):=rfl;rw[e];unfold lean;simp only[eo,e2,e5,e4,e0];clear L1 F L2 eo e2 e5 e4 e0;generalize (q.Body.dH==0)=b0;generalize (q.gZ==2)=b2;generalize (q.gZ==5)=b5;generalize (q.gZ==4)=b4;generalize q.vZ.isEmpty=bo;cases b0<;>cases b2<;>cases b5<;>cases b4<;>cases bo<;>exact evd
end
end
theorem Kv {c:UInt8} : ∀{a b:di},c ∉ a->eG (a++c::b) c=(a.length:Int)
 |[],b,_=>by simp[eG]
 | x::a,b,h=>by
   have h1:(x==c)=false:=by rw[beq_eq_false_iff_ne];intro e;exact h (by rw[e];exact aG ..)
   have ih:=Kv (a:=a) (b:=b) (λe=>h (bF _ e));have h2:((a.length:Int) == -1)=false:=(by rw[beq_eq_false_iff_ne];omega);rw[eH,eG,h1,ih,h2];simp
theorem Ig {a b:di}{k:Nat}(h:(32:UInt8) ∉ a):mX [32] 0 (k+1) (a++32::b)=a::mX [32] 0 k b:=by
 have h2:((a.length:Int) == -1)=false:=by rw[beq_eq_false_iff_ne];omega
 rw[mX,Lib.index_one,Kv h,h2,ai nV];simp
theorem Ry : ∀{k:Nat} {s t:di},t∈mX [32] 0 k s->t.length<=s.length
 | 0,s,t,h=>by rw[mX,dL]at h;rw[h];exact ak _
 | k+1,s,t,h=>by
   rw[mX]at h;split at h
   ·rw[dL]at h;rw[h];exact ak _
   ·rcases aO.1 h with e|e
    ·rw[e,jc];omega
    ·have:=Ry e;rw[jk]at this;omega
theorem afL {a b c d e:di}(ha:(32:UInt8) ∉ a)(hb:(32:UInt8) ∉ b)(hc:(32:UInt8) ∉ c)(hd:(32:UInt8) ∉ d):mX [32] 0 4 (a++[32]++b++[32]++c++[32]++d++[32]++e)=[a,b,c,d,e]:=by
 have:a++[32]++b++[32]++c++[32]++d++[32]++e=a++32::(b++32::(c++32::(d++32::e))):=by simp
 rw[this,Ig ha,Ig hb,Ig hc,Ig hd];rfl
theorem afX {q:cZ}(h:RqP q):(32:UInt8) ∉ G6.getD q.gZ.toNat default:=by rcases meth h with e|e|e|e|e<;>rw[e]<;>decide
theorem afc {s:di}(h:NmV s=true):(32:UInt8) ∉ s:=λe=>by unfold NmV at h;simp only[ah,aN]at h;have:=h.1 _ e;exact aY this xR
theorem Px {t:di}(h:IJ t=true)(c:UInt8)(hc:c=32\/c=44):c ∉ ET t:=λe=>by
 unfold ET at e;split at e
 ·rw[dL]at e;rcases hc with h|h<;>rw[h]at e<;>exact aY e xR
 ·rename_i hn;have hs:Lt t=true:=by
   unfold IJ at h;simp only[dP,aH]at h;exact h.resolve_left hn
  unfold Lt at hs;simp only[ah,aN]at hs;simp only[aO,aS,jL,or_false]at e;rcases e with e|e|e
  ·rcases hc with h|h<;>rw[h]at e<;>exact aY e xR
  ·have:=hs.1 _ e;rcases hc with h|h<;>rw[h]at this<;>exact aY this xR
  ·rcases hc with h|h<;>rw[h]at e<;>exact aY e xR
theorem VT (l:List di):(32:UInt8) ∉ DI l:=λe=>by
 unfold DI at e;split at e
 ·rename_i h;obtain⟨i,hi,e⟩:=List.mem_flatMap.1 e;have hi:i<l.length:=by simpa using hi
  have hv:=(xk h).2 _ (getD_mem default hi);unfold VR at e;rcases aS.1 e with e|e
  ·split at e
   ·rw[dL]at e;exact aY e xR
   ·cases e
  ·exact Px hv 32 (.inl rfl) e
 ·cases e
def Hl (t:di):di:=44::ET t
theorem XY (l:List di):∀(k i:Nat),0<i->i+k=l.length->(gz i k).flatMap (VR l)=(l.drop i).flatMap Hl
 |0,i,_,h=>by rw[aB aI];rfl
 | k+1,i,h0,h=>by rw[ni,bG,XY l k (i+1) aI aI,gQ (default:di) (by omega:i<l.length),bG];unfold VR Hl;rw[aF h0];rfl
theorem RP {t:di}{l:List di}(h:Bz (t::l)=true):DI (t::l)=ET t++l.flatMap Hl:=by unfold DI;rw[aF h,dW,ni,bG,XY (t::l) l.length (0+1) aI (by simp;omega)];rfl
theorem abT {x r:di}(h:(44:UInt8) ∉ x):Be (x++44::r)=x::Be r:=by
 induction x with
 |nil=>rfl
 | cons b x ih=>have hb:b≠44:=λe=>h (by rw[e];exact aG ..);rw[eH,Be,ai hb,ih (λe=>h (bF _ e))]
theorem abU {x:di}(h:(44:UInt8) ∉ x):Be x=[x]:=by
 induction x with
 |nil=>rfl
 | cons b x ih=>have hb:b≠44:=λe=>h (by rw[e];exact aG ..);rw[Be,ai hb,ih (λe=>h (bF _ e))]
theorem Qo : ∀{l:List di} {t:di},(∀y,y∈t::l->IJ y=true)->Be (ET t++l.flatMap Hl)=ET t::l.map ET
 | [],t,h=>by rw[List.flatMap_nil,iZ,abU (Px (h t (aG ..)) 44 (.inr rfl))];rfl
 | u::l,t,h=>by rw[bG];show Be (ET t++44::(ET u++l.flatMap Hl))=_;rw[abT (Px (h t (aG ..)) 44 (.inr rfl)),Qo (λy hy=>h y (bF _ hy))];rfl
theorem af1 {t:di}(h:IJ t=true):OO Ij (ET t)=some t:=by
 unfold OO ET;by_cases c:t=[42]
 ·rw[aF c,aF rfl,c]
 ·rw[ai c];have hs:Lt t=true:=by
   unfold IJ at h;simp only[dP,aH]at h;exact h.resolve_left c
  have hl:=JX hs;have e4:((34::(t++[34])).drop 1).take 4=t:=by rw[Fv,iC,List.take_append_of_le_length aI,eU aI]
  have e5:(34::(t++[34])).getD 5 0=34:=by rw[List.getD_cons_succ,bH,dw aI,hl];rfl
  rw[ai (λe=>by have:=kZ kz e;simp at this),e4,aF ⟨by simp[hl],rfl,e5,hs⟩]
theorem WL : ∀{l p:List di},(∀y,y∈l->IJ y=true)->p.length+l.length<=4->(l.map ET).foldl (colS Ij) (some p)=some (p++l)
 |[],p,_,_=>by simp
 | t::l,p,h,hl=>by
   simp only[dW]at hl;have e:colS Ij (some p) (ET t)=some (p++[t]):=by unfold colS;rw[ou,ai aI,af1 (h t (aG ..))];rfl
   rw[bJ,qj,e,WL (λy hy=>h y (bF _ hy)) (by simp;omega)];simp
theorem aa1 {l:List di}(h:Bz l=true):VD Ij (DI l)=(l,true):=by
 obtain⟨h4,hv⟩:=xk h;cases l with
 |nil=>rfl
 | cons t l=>
   have hne:DI (t::l)≠[]:=by rw[RP h];unfold ET;split<;>simp
   unfold VD;rw[ai hne,RP h,Qo hv];unfold agQ;have:=WL (l:=t::l) (p:=[]) hv (by simpa using h4);rw[bJ]at this;rw[this];rfl
theorem adZ {ws:List di} : ∀{a:Option (List di)},(∀p,a=some p->p.length<=4/\∀t,t∈p->t.length<=4)->∀l,ws.foldl (colS Ij) a=some l->l.length<=4/\∀t,t∈l->t.length<=4:=by
 induction ws with
 |nil=>intro a h l e;exact h l e
 | cons w ws ih=>
   intro a h l e;refine ih (λp hp=>?_) l e;cases a with
   |none=>cases hp
   | some z=>
     obtain⟨h1,h2⟩:=h z rfl;unfold colS at hp;rw[ou]at hp;split at hp
     ·cases hp
     ·rename_i hn;cases hw:OO Ij w with
      |none=>rw[hw]at hp;cases hp
      | some y=>
        rw[hw]at hp;cases hp;refine⟨by simp;omega,λt ht=>?_⟩;rcases aS.1 ht with e|e
        ·exact h2 t e
        ·rw[dL]at e;subst e;unfold OO at hw;split at hw
         ·cases hw;rename_i c;rw[c];decide
         ·split at hw
          ·cases hw;rw[jc];omega
          ·cases hw
theorem aa0 (s:di):xh 60 (VD Ij s).1:=by
 unfold VD;split
 ·exact⟨nV,λt h=>by cases h⟩
 ·split
  ·rename_i l e;obtain⟨h1,h2⟩:=adZ (a:=some []) (λp hp=>by cases hp;exact⟨nV,λt h=>by cases h⟩) l e;exact⟨by show l.length<=_;omega,λt ht=>by have:=h2 t ht;omega⟩
  ·exact⟨nV,λt h=>by cases h⟩
theorem T.ru {s:di}(h:s.length<=1000000):Ev (λf=>G.ru f s) (VD Ij s):=by refine dF ?_;simp only[G.ru];exact yh h (jQ _)
theorem aci : 1000000<=lim:=xR
theorem zB (B d:Nat):sF B (d+1) (au.mk 0 0 [] [] []):=⟨aJ _,aJ _,λs h=>(by cases h),aJ _,trivial,λk h=>(by cases h)⟩
theorem T.oO {s:di}(h:s.length<=1000000):Tot (λv:au×Bool=>sF 1000000 6 v.1/\∀n,Val n=true->s.length<=2000->s=nS 5 n->v=(n,true)) (λf=>G.oO f s):=by
 refine Tot.up ?_;simp only[G.oO];refine Tot.ite (λe=>Tot.ret ⟨zB _ _,λn _ hl=>by simp only[aj]at e;omega⟩) (λ_=>Tot.bind (T.MQ 5 aI s 0 1 ⟨aJ _,h⟩ rfl) ?_);rintro⟨m,ok,q⟩⟨⟨b,hb,_,hbl,_⟩,hf,hall⟩;simp only at hb hf;subst hb;have key:∀n,Val n=true->s=nS 5 n->m=n/\ok=true/\b=s.length:=λn hn hs=>by
  have:=hall n [] (uO hn) aaW (by rw[iC,iZ];exact hs);simp only[aK]at this;refine⟨this.1,this.2.1,?_⟩;have h3:=this.2.2;unfold eAt at h3
  injection h3 with _ h4
  simp at h4;omega
 refine Tot.ite (λe=>Tot.ite (λe1=>Tot.ret ⟨zB _ _,λn hn _ hs=>?_⟩) (λ_=>?_)) (λe=>Tot.ret ⟨zB _ _,λn hn _ hs=>?_⟩)
 ·rw[(key n hn hs).2.2]at e1;simp at e1
 ·refine Tot.pR (T0.gU aci hf) (Tot.ite (λe2=>Tot.pR (T0.fO aci hf) (Tot.ret ⟨hf,λn hn _ hs=>?_⟩)) (λe2=>Tot.ret ⟨zB _ _,λn hn _ hs=>?_⟩))
  ·rw[(key n hn hs).1]
  ·rw[(key n hn hs).1,hn]at e2;cases e2
 ·rw[(key n hn hs).2.1]at e;cases e
theorem T.jy {d:Nat}{n:au}(h:sF 1000000 (d+1) n):Tot (λv:List di×Bool=>xh 1000000 v.1/\∀p,PP p=true->n=Eb p->v=(p,true)) (λf=>G.jy f n):=by
 have fin0:xh 1000000 []:=⟨nV,λt h=>by cases h⟩;have hk:=h.kids;have L:∀(k i:Nat) (z:List di),i+k=n.bC.length->z.length=i->(∀t,t∈z->t.length<=1000000)->Tot (λv:List di×Bool=>xh 1000000 v.1/\∀p,PP p=true->n=Eb p->z=p.take i->v=(p,true)) (λf=>G.jy.L1 f n (i:Int) z):=by
  intro k
  induction k with
  | zero=>
    intro i z hi hz ht;have hfz:xh 1000000 z:=⟨aI,ht⟩;refine Tot.up ?_;simp only[G.jy.L1];refine Tot.cf (gW aI) (Tot.pR (T.kJ _ (hfz.sm aci)) (Tot.ret ⟨hfz,λp hp hn he=>?_⟩));have:z=p:=by rw[he,eU];rw[hn]at hi;simp[Eb]at hi;omega
    rw[this,hp]
  | succ k ih=>
    intro i z hi hz ht;have hil:i<n.bC.length:=(by omega);refine Tot.up ?_;simp only[G.jy.L1,ax,Gh i];have kid:∀p,n=Eb p->i<p.length/\n.bC.getD i default=F8 (p.getD i default):=λp hn=>by rw[hn]at hil⊢;have hip:i<p.length:=(by simpa[Eb]using hil);refine⟨hip,?_⟩;show(p.map F8).getD i default=_;rw[lS _ (by simpa using hip),lS _ hip,Cj]
    refine Tot.ct (iH aI) (Tot.chk aI (Tot.ite (λe=>Tot.ret ⟨fin0,λp _ hn _=>?_⟩) (λe=>Tot.chk aI ((ih (i+1) _ aI (by simp[hz]) (λt hm=>?_)).mono λv hv=>⟨hv.1,λp hp hn he=>hv.2 p hp hn ?_⟩))))
    ·rw[(kid p hn).2]at e;exact aY e (by simp[F8])
    ·rcases aS.1 hm with e|e
     ·exact ht t e
     ·rw[dL]at e;subst e;have:=h.kid hil;cases d with
      |zero=>exact this.elim
      |succ d=>exact this.1
    ·rw[(kid p hn).2,he];exact take_snoc (default:di) (kid p hn).1
 refine Tot.up ?_;simp only[G.jy];refine Tot.ite (λe=>Tot.ret ⟨fin0,λp _ hn=>?_⟩) (λ_=>(L n.bC.length 0 [] aI rfl (λt h=>by cases h)).mono λv hv=>⟨hv.1,λp hp hn=>hv.2 p hp hn rfl⟩);rw[hn]at e;exact aY e (by simp[Eb])
theorem Xz : ∀i:Nat,i<7->∀j:Nat,j<7->FY.getD i default=FY.getD j default->i=j:=xR
theorem X3 : ∀i:Nat,i<6->∀j:Nat,j<6->G6.getD i default=G6.getD j default->i=j:=xR
theorem T.Sz (s:di):Tot (λv:Int×Bool=>∀j:Nat,1<=j->j<=6->s=FY.getD j default->v=((j:Int),true)) (λf=>G.gV f s 1 6):=by
 have W:∀x:Nat,1<=x->x<=6->Ev (λf=>G.qH f (x:Int)) (FY.getD x default):=λx h1 h2=>by
  refine dF ?_;simp only[G.qH];have:x=1\/x=2\/x=3\/x=4\/x=5\/x=6:=by omega
  rcases this with e|e|e|e|e|e<;>subst e<;>exact evd
 have L:∀(k x:Nat),x+k=7->1<=x->Tot (λv:Int×Bool=>∀j:Nat,x<=j->j<=6->s=FY.getD j default->v=((j:Int),true)) (λf=>G.gV.L1 f s 6 (x:Int)):=by
  intro k
  induction k with
  | zero=>intro x hx h1;refine Tot.up ?_;simp only[G.gV.L1];exact Tot.cf (gW aI) (Tot.ret λj h1 h2=>by omega)
  | succ k ih=>
    intro x hx h1;refine Tot.up ?_;simp only[G.gV.L1,Gh x];refine Tot.ct (iH aI) (Tot.pR (W x h1 aI) (Tot.ite (λe=>Tot.ret λj h1 h2 hs=>?_) (λe=>(ih (x+1) aI aI).mono λv hv j h1 h2 hs=>hv j ?_ h2 hs)))
    ·have:FY.getD x default=FY.getD j default:=(by rw[<- hs];simpa using e);rw[Xz x aI j aI this]
    ·have:j≠x:=λhe=>(by rw[he]at hs;rw[<- hs]at e;simp at e);omega
 refine Tot.up ?_;simp only[G.gV];exact L 6 1 aI aI
theorem T.MC (s:di):Tot (λv:Int×Bool=>∀j:Nat,1<=j->j<=5->s=G6.getD j default->v=((j:Int),true)) (λf=>G.fD f s 1 5):=by
 have W:∀x:Nat,1<=x->x<=5->Ev (λf=>G.lK f (x:Int)) (G6.getD x default):=λx h1 h2=>by
  refine dF ?_;simp only[G.lK];have:x=1\/x=2\/x=3\/x=4\/x=5:=by omega
  rcases this with e|e|e|e|e<;>subst e<;>exact evd
 have L:∀(k x:Nat),x+k=6->1<=x->Tot (λv:Int×Bool=>∀j:Nat,x<=j->j<=5->s=G6.getD j default->v=((j:Int),true)) (λf=>G.fD.L1 f s 5 (x:Int)):=by
  intro k
  induction k with
  | zero=>intro x hx h1;refine Tot.up ?_;simp only[G.fD.L1];exact Tot.cf (gW aI) (Tot.ret λj h1 h2=>by omega)
  | succ k ih=>
    intro x hx h1;refine Tot.up ?_;simp only[G.fD.L1,Gh x];refine Tot.ct (iH aI) (Tot.pR (W x h1 aI) (Tot.ite (λe=>Tot.ret λj h1 h2 hs=>?_) (λe=>(ih (x+1) aI aI).mono λv hv j h1 h2 hs=>hv j ?_ h2 hs)))
    ·have:G6.getD x default=G6.getD j default:=(by rw[<- hs];simpa using e);rw[X3 x aI j aI this]
    ·have:j≠x:=λhe=>(by rw[he]at hs;rw[<- hs]at e;simp at e);omega
 refine Tot.up ?_;simp only[G.fD];exact L 5 1 aI aI
theorem ac7 {n:au}(h:Val n=true)(hk:n.dH=4):n.dS.length<=6/\n.bC.length=n.dS.length:=by have:=Cf (mP (uO h)) hk;exact this.2.2.2
theorem T.pM {d:Nat}{n:au}(h:sF 1000000 (d+2) n):Tot (λv:o6×Bool=>(∃D,ED 1000000 D v.1)/\∀o,PO o=true->Val (H7 o)=true->n=H7 o->v=(o,true)) (λf=>G.pM f n):=by
 have no:∃D,ED 1000000 D (o6.mk 0 [] [] (au.mk 0 0 [] [] [])):=⟨1,⟨nV,λt h=>by cases h⟩,⟨nV,λt h=>by cases h⟩,zB _ _⟩;refine Tot.up ?_;simp only[G.pM];refine Tot.pR (T0.gU aci h) (Tot.ite (λev=>Tot.ite (λe4=>Tot.ret ⟨no,λo _ _ hn=>?_⟩) (λe4=>?_)) (λev=>Tot.ret ⟨no,λo _ hv hn=>?_⟩))
 ·rw[hn]at e4;exact aY e4 (by simp[H7])
 ·have e4:n.dH=4:=by simpa using e4
  have hnm:=h.sm aci;refine Tot.pR (T.slices_Equal_string hnm.1) (Tot.ite (λen=>?_) (λen=>Tot.ret ⟨no,λo _ _ hn=>?_⟩))
  ·have en:n.dS=QY:=of_decide_eq_true en;have hl:n.bC.length=4:=(by rw[(ac7 ev e4).2,en];rfl);have kf:∀i,i<4->sF 1000000 (d+1) (n.bC.getD i default):=λi hi=>h.kid aI;refine Tot.chk aI (Tot.bind (T.jy (kf 0 aI)) ?_);rintro⟨p0,k0⟩⟨f0,c0⟩;refine Tot.ite (λe0=>Tot.chk aI (Tot.ite (λe1=>Tot.ret ⟨no,λo _ _ hn=>?_⟩) (λe1=>Tot.chk aI (Tot.bind (T.Sz _) ?_)))) (λe0=>Tot.ret ⟨no,λo ho _ hn=>?_⟩)
   ·rw[hn]at e1;exact aY e1 (by simp[H7,F8])
   ·rintro⟨m,km⟩ cm;refine Tot.ite (λem=>Tot.chk aI (Tot.bind (T.jy (kf 2 aI)) ?_)) (λem=>Tot.ret ⟨no,λo ho _ hn=>?_⟩)
    ·rintro⟨p2,k2⟩⟨f2,c2⟩;refine Tot.ite (λe2=>Tot.chk aI (Tot.pR (T0.fO aci (kf 3 aI)) (Tot.ret ⟨⟨_,f2,f0,kf 3 aI⟩,λo ho _ hn=>?_⟩))) (λe2=>Tot.ret ⟨no,λo ho _ hn=>?_⟩)
     ·have hf:=uo ho;have k1:=hf.k1;have k6:=hf.k6;have h0:=c0 o.vg hf.from_ (by rw[hn];rfl);have h2:=c2 o.uF hf.path (by rw[hn];rfl);have hm:=cm o.dH.toNat aI aI (by rw[hn];rfl);simp only[aK]at h0 h2 hm;have hmk:m=o.dH:=(by rw[hm.1];omega);refine pz ?_ rfl;show o6.mk m p2 p0 (n.bC.getD 3 default)=o;rw[h0.1,h2.1,hmk,hn];rfl
     ·have:=c2 o.uF (uo ho).path (by rw[hn];rfl);simp only[aK]at this;rw[this.2]at e2;cases e2
    ·have hf:=uo ho;have k1:=hf.k1;have k6:=hf.k6;have:=cm o.dH.toNat aI aI (by rw[hn];rfl);simp only[aK]at this;rw[this.2]at em;cases em
   ·have:=c0 o.vg (uo ho).from_ (by rw[hn];rfl);simp only[aK]at this;rw[this.2]at e0;cases e0
  ·rw[hn]at en;exact aY en (by simp[H7,QY])
 ·rw[hn,hv]at ev;cases ev
theorem afj (o:o6):opP o≠[]:=by unfold opP;simp
theorem T.lu {s:di}(h:s.length<=1000000):Tot (λv:List o6×Bool=>KD v.1/\∀l,II l=true->okO l=true->s=opsT l->v=(l,true)) (λf=>G.lu f s):=by
 have fin0:KD []:=⟨nV,λo h=>by cases h⟩;have L:∀(k a:Nat) (z:List o6),a+k=s.length->z.length<=a->(∀o,o∈z->∃D,ED 1000000 D o)->Tot (λv:List o6×Bool=>KD v.1/\∀l,II l=true->okO l=true->z.length<=l.length->z=l.take z.length->s.drop a=opsT (l.drop z.length)->v=(l,true)) (λf=>G.lu.L1 f s z s (a:Int)):=by
  intro k
  induction k using fC with|_ k ih=>
  intro a z ha hz hf;refine Tot.up ?_;simp only[G.lu.L1];refine Tot.ite (λe=>?_) (λe=>Tot.ret ⟨⟨by show z.length<=_;omega,λo ho=>?_⟩,λl _ _ hzl he hd=>?_⟩)
  ·have hal:a<s.length:=(by simp only[aj]at e;omega);refine Tot.bind (T.MQ 5 aI s a 1 ⟨aI,h⟩ rfl) ?_;rintro⟨m,ok,q⟩⟨⟨b,hb,hab,hbl,hlt⟩,hfm,hall⟩;simp only at hb hfm hlt;subst hb;have nxt:∀l,II l=true->okO l=true->z.length<=l.length->s.drop a=opsT (l.drop z.length)->z.length<l.length/\PO (l.getD z.length default)=true/\Val (H7 (l.getD z.length default))=true /\
    m=H7 (l.getD z.length default)/\ok=true/\s.drop b=59::opsT (l.drop (z.length+1)):=λl hp ho hzl hd=>by
    have hlt:z.length<l.length:=by
     rcases rQ z.length l.length with h|h
     ·exact h
     ·rw[aB h]at hd;have:=kZ kz hd;rw[jk]at this;simp[opsT]at this;omega
    have hm:=getD_mem default hlt;have hv:Val (H7 (l.getD z.length default))=true:=by unfold okO at ho;exact aN.1 ho _ hm
    have hd2:s.drop a=nS 5 (H7 (l.getD z.length default))++(59::opsT (l.drop (z.length+1))):=by rw[hd,gQ default hlt];unfold opsT;rw[bG];unfold opP;simp
    have h1:=hall _ _ (uO hv) (MM rfl) hd2;simp only[aK]at h1;have h3:=h1.2.2;unfold eAt at h3
    injection h3 with _ h4
    have h5:b=s.length-(59::opsT (l.drop (z.length+1))).length:=(by omega);refine⟨hlt,(Q7 hp).2 _ hm,hv,h1.1,h1.2.1,?_⟩;rw[h5];exact(I8 aI hd2).1
   cases ok with
   |false=>exact Tot.cf rfl (Tot.ret ⟨fin0,λl hp ho hzl _ hd=>by have:=(nxt l hp ho hzl hd).2.2.2.2.1;cases this⟩)
   | true=>
     have hab':=hlt rfl;refine Tot.ct rfl (Tot.pR (T.take (p:=[59]) ⟨hbl,h⟩) ?_);cases e1:iO (s.drop b) [59]with
     | false=>rw[JY e1];refine Tot.cf rfl (Tot.ret ⟨fin0,λl hp ho hzl _ hd=>?_⟩);rw[(nxt l hp ho hzl hd).2.2.2.2.2]at e1;have:=KQ [59] (opsT (l.drop (z.length+1)));rw[zF]at this;rw[this]at e1;cases e1
     | true=>
       rw[GU e1];have hb':=Jh hbl e1;simp only[dJ]at hb'⊢;refine Tot.ct rfl (Tot.bind (T.pM (d:=4) hfm) ?_);rintro⟨o,ko⟩⟨fo,co⟩;refine Tot.ite (λe2=>Tot.ite (λe3=>Tot.ret ⟨fin0,λl hp ho hzl _ hd=>?_⟩) (λe3=>Tot.chk aI ((ih (s.length-(b+1)) aI (b+1) (z++[o]) aI (by simp;omega) (λx hx=>?_)).mono λv hv=>⟨hv.1,λl hp ho hzl he hd=>?_⟩))) (λe2=>Tot.ret ⟨fin0,λl hp ho hzl _ hd=>?_⟩)
       ·have:=(nxt l hp ho hzl hd).1;have:=(Q7 hp).1;simp only[aH]at e3;omega
       ·rcases aS.1 hx with e|e
        ·exact hf x e
        ·rw[dL]at e;subst e;exact fo
       ·obtain⟨n1,n2,n3,n4,_,n6⟩:=nxt l hp ho hzl hd;have hc:=co _ n2 n3 n4;simp only[aK]at hc;have hlen:(z++[o]).length=z.length+1:=(by simp);refine hv.2 l hp ho (by rw[hlen];omega) ?_ (by rw[hlen];exact(vk n6).2.2);rw[hlen,<- take_snoc default n1,<- he,<- hc.1]
       ·obtain⟨_,n2,n3,n4,_,_⟩:=nxt l hp ho hzl hd;have hc:=co _ n2 n3 n4;simp only[aK]at hc;rw[hc.2]at e2;cases e2
  ·obtain⟨D,hD⟩:=hf o ho;exact⟨D,⟨by have:=hD.path.1;omega,λs hs=>by have:=hD.path.2 s hs;omega⟩,⟨by have:=hD.from_.1;omega,λs hs=>by have:=hD.from_.2 s hs;omega⟩,hD.val.mono aI (ak _)⟩
  ·have hal:a=s.length:=(by simp only[aQ]at e;omega);have hd:opsT (l.drop z.length)=[]:=(by rw[<- hd,aB aI]);have:l.length<=z.length:=by
    rcases rQ z.length l.length with h|h
    ·rw[gQ default h]at hd;unfold opsT at hd;rw[bG]at hd;exact aY (yS.1 hd).1 (afj _)
    ·exact h
   rw[eU this]at he;rw[he]
 refine Tot.up ?_;simp only[G.lu];exact(L s.length 0 [] aI nV (λo h=>by cases h)).mono λv hv=>⟨hv.1,λl hp ho hs=>hv.2 l hp ho (aJ _) rfl (by simpa using hs)⟩
def JG : cZ:=cZ.mk 0 [] [] [] (au.mk 0 0 [] [] []) []
theorem Rl {q:cZ}(h:Yf q=true):PI 60 q:=by
 have hr:=Uh h;have P:∀{l:List di},Bz l=true->xh 60 l:=λ{l} hl=>by obtain⟨h1,h2⟩:=xk hl;exact⟨aI,λs hs=>by have:=GN (h2 s hs);omega⟩
 exact⟨by have:=Zw hr.QU;omega,P hr.want,P hr.avoid,⟨5,aeg hr.body⟩,abX hr.ops⟩
theorem afY {q:cZ}(h:Yf q=false):wP q=[]:=by unfold wP;rw[h];rfl
theorem T0.aV {B:Nat}{q:cZ}(hB:B<=lim)(h:Ns B q):Ev (λf=>G.aV f q) (wP q):=by
 cases e:Yf q with
 |true=>exact T.aV (Rl e)
 | false=>refine dF ?_;simp only[G.aV];exact aZ (T0.lV hB h) (mW e (bU (afY e).symm))
theorem Bj {q:cZ}(h:wP q≠[]):Yf q=true/\lean q=true/\okO q.vZ=true/\wP q=JE q:=by
 unfold wP at h⊢;split
 ·rename_i c;simp only[ah]at c;exact⟨c.1,c.2.1,c.2.2,rfl⟩
 ·rename_i c;rw[ai c]at h;exact aY rfl h
structure PR (s:di)(v:cZ×Bool):Prop where
 no:v.2=false->v.1=JG
 yes:v.2=true->wP v.1=s/\s≠[]/\s.length<=2000
 all:∀q,s≠[]->s.length<=2000->wP q=s->v=(q,true)
theorem PR.uniq {s:di}{v w:cZ×Bool}(h:PR s v)(k:PR s w):v=w:=by
 obtain⟨q,b⟩:=v;obtain⟨p,c⟩:=w;cases b with
 | true=>obtain⟨h1,h2,h3⟩:=h.yes rfl;exact(k.all q h2 h3 h1).symm
 | false=>
   cases c with
   | true=>obtain⟨h1,h2,h3⟩:=k.yes rfl;exact h.all p h2 h3 h1
   |false=>rw[show q=JG from h.no rfl,show p=JG from k.no rfl]
theorem TN {q:cZ}(h:Yf q=true)(hl:lean q=true)(hm:q.gZ=4):q.Body=au.mk 0 0 [] [] []:=by
 have hr:=Uh h;unfold lean at hl;simp only[ah,dP,aH]at hl;have hk:q.Body.dH=0:=by
  rcases hl.1 with(h|h)|h
  ·exact h
  ·omega
  ·omega
 have hp:=mP (uO hr.body);have h1:=yc hp aI aI;have h2:=Ld hp hk;rw[<- BC q.Body,hk,h1.1,h1.2,h2.1,h2.2]
theorem Xj {q:cZ}(hl:lean q=true)(hm:q.gZ≠4):q.vZ=[]:=by unfold lean at hl;simp only[ah,dP,aH]at hl;exact List.isEmpty_iff.1 (hl.2.resolve_right hm)
theorem OJ {s:di}(h:∀q,s≠[]->s.length<=2000->wP q=s->False):PR s (JG,false):=⟨λ_=>rfl,λh=>(by cases h),λq h1 h2 h3=>(h q h1 h2 h3).elim⟩
theorem T.jh {s:di}(hl:s.length<=4000000000):Tot (PR s) (λf=>G.jh f s):=by
 refine Tot.up ?_;simp only[G.jh];refine Tot.pR (a:=mX [32] 0 (min 5 (s.length+1)-1) s) (dF ?_) ?_
 ·simp only[G.strings_SplitN];exact yh ⟨aI,nV,aI,aI⟩ (jQ _)
 generalize hv1:mX [32] 0 (min 5 (s.length+1)-1) s=v1;have words:∀q,s≠[]->wP q=s->v1=[G6.getD q.gZ.toNat default,q.rW,DI q.xZ,DI q.tu,if q.gZ=4 then opsT q.vZ else nS 5 q.Body]:=λq h0 hw=>by
  have hne:wP q≠[]:=by rw[hw];exact h0
  obtain⟨o1,o2,o3,o4⟩:=Bj hne;have hr:=Uh o1;rw[hw]at o4;have hlen:4<=s.length:=by rw[o4];unfold JE hdT;simp only[ay,dJ];omega
  rw[show min 5 (s.length+1)-1=4 by omega,o4]at hv1;rw[<- hv1];unfold JE hdT;exact afL (afX hr) (afc hr.QU) (VT _) (VT _)
 have afv:∀i,i<v1.length->(v1.getD i default).length<=s.length:=λi hi=>Ry (k:=min 5 (s.length+1)-1) (by rw[hv1];exact getD_mem default hi);refine Tot.ite (λe=>Tot.ret (OJ λq _ h2 _=>by simp only[aj]at e;omega)) (λe=>Tot.ite (λe5=>Tot.ret (OJ λq h1 _ h3=>?_)) (λe5=>?_))
 ·rw[words q h1 h3]at e5;exact aY e5 nV
 have hlen:v1.length=5:=by
  have:(v1.length:Int)=5:=by simpa using e5
  omega
 have p0:=afv 0 aI;have p1:=afv 1 aI;have p2:=afv 2 aI;have p3:=afv 3 aI;have p4:=afv 4 aI;have hs2:s.length<=2000:=by simp only[aQ]at e;omega
 refine Tot.chk aI (Tot.bind (T.MC _) ?_);rintro⟨m,km⟩ cm;have hm:∀q,s≠[]->wP q=s->m=q.gZ/\km=true:=λq h0 hw=>by have hr:=Uh (Bj (show wP q≠[] by rw[hw];exact h0)).1;have lo:=hr.lo;have hi:=hr.hi;have:=cm q.gZ.toNat aI aI (by rw[words q h0 hw];rfl);simp only[aK]at this;exact⟨by rw[this.1];omega,this.2⟩
 refine Tot.chk aI (Tot.pR (T.ru aI) (Tot.chk aI (Tot.pR (T.ru aI) ?_)));have hw2:∀q,s≠[]->wP q=s->VD Ij (v1.getD 2 default)=(q.xZ,true):=λq h0 hw=>by rw[words q h0 hw];exact aa1 (Uh (Bj (show wP q≠[] by rw[hw];exact h0)).1).want
 have hw3:∀q,s≠[]->wP q=s->VD Ij (v1.getD 3 default)=(q.tu,true):=λq h0 hw=>by rw[words q h0 hw];exact aa1 (Uh (Bj (show wP q≠[] by rw[hw];exact h0)).1).avoid
 refine Tot.ite (λem=>Tot.ite (λew=>Tot.ite (λea=>?_) (λea=>Tot.ret (OJ λq h1 _ h3=>?_))) (λew=>Tot.ret (OJ λq h1 _ h3=>?_))) (λem=>Tot.ret (OJ λq h1 _ h3=>?_))
 ·have hf2:=aa0 (v1.getD 2 default);have hf3:=aa0 (v1.getD 3 default);have mono:∀{l:List di},xh 60 l->xh 1048576 l:=λh=>⟨by have:=h.1;omega,λt ht=>by have:=h.2 t ht;omega⟩;have K:∀(ok:Bool) (n:au) (l:List o6),sF 1000000 6 n->KD l->(∀q,s≠[]->wP q=s->q=cZ.mk m (v1.getD 1 default) (VD Ij (v1.getD 2 default)).1 (VD Ij (v1.getD 3 default)).1 n l/\ok=true) ->
   Tot (PR s) (λf=>G.jh.K1 f s v1 (m,km) (VD Ij (v1.getD 2 default)) (VD Ij (v1.getD 3 default)) ok n.dH n.ve n.oz n.dS n.bC l):=λok n l hn hL hq=>by
   refine Tot.up ?_;simp only[G.jh.K1,au.eta];have hFQ:Ns 1048576 (cZ.mk m (v1.getD 1 default) (VD Ij (v1.getD 2 default)).1 (VD Ij (v1.getD 3 default)).1 n l):=⟨by show(v1.getD 1 default).length<=_;omega,mono hf2,mono hf3,⟨6,hn.mono aI (ak _)⟩,hL⟩;refine Tot.ite (λe1=>Tot.pR (T0.aV Vj hFQ) (Tot.ite (λe2=>Tot.ret ⟨λh=>(by cases h),λ_=>⟨by simpa using e2,λh0=>?_,hs2⟩,λq h1 _ h3=>?_⟩) (λe2=>Tot.ret (OJ λq h1 _ h3=>?_)))) (λe1=>Tot.ret (OJ λq h1 _ h3=>?_))
   ·rw[h0]at hv1;rw[<- hv1]at hlen;exact aY hlen xR
   ·rw[<- (hq q h1 h3).1]
   ·rw[<- (hq q h1 h3).1,h3]at e2;simp at e2
   ·rw[(hq q h1 h3).2]at e1;cases e1
  have base:∀q,s≠[]->wP q=s->q=cZ.mk m (v1.getD 1 default) (VD Ij (v1.getD 2 default)).1 (VD Ij (v1.getD 3 default)).1 q.Body q.vZ:=λq h1 h3=>by rw[hw2 q h1 h3,hw3 q h1 h3,(hm q h1 h3).1,words q h1 h3];rfl
  refine Tot.chk aI (Tot.ite (λe4=>Tot.chk aI (Tot.bind (T.lu aI) ?_)) (λe4=>Tot.chk aI (Tot.bind (T.oO aI) ?_)))
  ·rintro⟨l,kl⟩⟨fl,cl⟩;have e4:m=4:=(by simpa using e4);refine K kl (au.mk 0 0 [] [] []) l (zB _ _) fl (λq h1 h3=>?_);obtain⟨o1,o2,o3,_⟩:=Bj (show wP q≠[] by rw[h3];exact h1);have hm4:q.gZ=4:=(by rw[<- (hm q h1 h3).1];exact e4);have:=cl q.vZ (Uh o1).ops o3 (by rw[words q h1 h3,aF hm4];rfl);simp only[aK]at this;refine⟨?_,this.2⟩;rw[this.1,<- TN o1 o2 hm4];exact base q h1 h3
  ·rintro⟨n,kn⟩⟨fn,cn⟩;have e4:m≠4:=(by simpa using e4);refine K kn n [] fn ⟨nV,λo h=>by cases h⟩ (λq h1 h3=>?_);obtain⟨o1,o2,o3,_⟩:=Bj (show wP q≠[] by rw[h3];exact h1);have hm4:q.gZ≠4:=(by rw[<- (hm q h1 h3).1];exact e4);have:=cn q.Body (Uh o1).body aI (by rw[words q h1 h3,ai hm4];rfl);simp only[aK]at this;refine⟨?_,this.2⟩;rw[this.1,<- Xj o2 hm4];exact base q h1 h3
 ·rw[hw3 q h1 h3]at ea;cases ea
 ·rw[hw2 q h1 h3]at ew;cases ew
 ·rw[(hm q h1 h3).2]at em;cases em
section
def KY : Nat:=1048576
def XQ (s r:di):dI:=dI.mk s ((s.length-r.length:Nat):Int) false
theorem Ro {s x r:di}{a:Nat}(ha:a<=s.length)(h:s.drop a=x++r):dI.mk s ((a+x.length:Nat):Int) false=XQ s r:=by
 have:=kZ kz h;rw[jk,ay]at this;unfold XQ
 congr 2;omega
def pk (s:di)(a:Nat):Int:=if a<s.length then((s.getD a 0).toNat:Int)else 0
theorem uY {s r:di}{a:Nat}{b:UInt8}(h:s.drop a=b::r):pk s a=(b.toNat:Int):=by have:=vk h;unfold pk;rw[aF this.1,this.2.1]
theorem IE {s:di}{a:Nat}(h:pk s a≠0):a<s.length/\pk s a=((s.getD a 0).toNat:Int):=by
 unfold pk at h⊢;split
 ·rename_i hl;exact⟨hl,rfl⟩
 ·rename_i hl;rw[ai hl]at h;exact aY rfl h
theorem afs (s:di)(a:Nat):0<=pk s a/\pk s a<=255:=by
 unfold pk;split
 ·have:=(s.getD a 0).toNat_lt;omega
 ·omega
section
variable {s:di} {a:Nat} {bd:Bool} (ha:a<=s.length) (hl:s.length<=1000000)
include ha hl
theorem T.peek : Ev (λf=>G.gp f (dI.mk s (a:Int) bd)) (pk s a,dI.mk s (a:Int) bd):=by
 have _:=hl;refine dF ?_;simp only[G.gp,ax];unfold pk;refine fH (λe=>?_) (λe=>?_)
 ·simp only[aj]at e;rw[ai aI];exact jQ _
 ·simp only[aQ]at e;rw[aF aI];exact yh ⟨aI,aI⟩ (jQ _)
theorem T.alb (c:Int):Ev (λf=>G.jK f (dI.mk s (a:Int) bd) c) (if pk s a=c then dI.mk s ((a+1:Nat):Int) bd else dI.mk s (a:Int) true):=by
 refine dF ?_;simp only[G.jK];refine aZ (T.peek ha hl) (fH (λe=>?_) (λe=>?_))
 ·have:pk s a≠c:=by simpa using e
  rw[ai this];exact jQ _
 ·have:pk s a=c:=by simpa using e
  rw[aF this];exact bU (by simp only[Gh a])
def InS (s:di)(a:Nat)(bd:Bool)(v:dI):Prop:=∃(b:Nat) (Ls:Bool),v=dI.mk s (b:Int) Ls/\a<=b/\b<=s.length/\(bd=true->Ls=true)
theorem T.RN (c:Int)(hc:c≠0):Tot (λv=>InS s a bd v/\(pk s a=c->v=dI.mk s ((a+1:Nat):Int) bd)/\(pk s a≠c->v=dI.mk s (a:Int) true)) (λf=>G.jK f (dI.mk s (a:Int) bd) c):=by
 refine⟨_,T.alb ha hl c,?_,λh=>by rw[aF h],λh=>by rw[ai h]⟩;by_cases h:pk s a=c
 ·have:=IE (h▸hc);rw[aF h];exact⟨a+1,bd,rfl,aI,aI,λh=>h⟩
 ·rw[ai h];exact⟨a,true,rfl,ak _,ha,λ_=>rfl⟩
end
theorem ajb {b:UInt8}(h:okB b=true):b≠0:=λe=>by rw[e]at h;exact aY h xR
theorem afx {t:di}(h:PT t=true):∀b,b∈t->b≠0:=λb hb=>by unfold PT at h;simp only[ah,aN]at h;exact ajb (h.1 b hb)
structure RdV (s:di)(a:Nat)(bd:Bool)(v:di×dI):Prop where
 pos:∃(b:Nat) (Ls:Bool),v.2=dI.mk s (b:Int) Ls/\a<=b/\b<=s.length/\(Ls=false->a<b/\bd=false)
 len:v.1.length<=1000000
 all:bd=false->∀t r,(∀b,b∈t->b≠0)->s.drop a=C9 t++r->v=(t,XQ s r)
theorem T.quoted.L3t {s:di}(hl:s.length<=1000000){y:Nat}{z:List Int}(hy:y<=s.length)(hz:z.length<=y) :
 Tot (λv:di×dI=>(∃(b:Nat),v.2=dI.mk s (b:Int) true/\y<=b/\b<=s.length)/\v.1.length<=1000000) (λf=>G.eX.L3 f s (y:Int) true z):=by
 have hM:=maxL;refine Tot.up ?_;simp only[G.eX.L3];refine Tot.ct rfl (Tot.bind (T.RN hy hl 34 xR) ?_);rintro v ⟨⟨b,Ls,rfl,h1,h2,h3⟩,_⟩;refine Tot.chk aI (Tot.ret ⟨⟨b,by rw[h3 rfl],h1,h2⟩,?_⟩);rw[zx];omega
theorem YD {z:List Int}{b:UInt8}{t:di} : Ag (z++[(b.toNat:Int)])++t=Ag z++b::t:=by unfold Ag;rw[rH,List.map_singleton,ax,BK];simp
theorem T.quoted.L3 {s:di}(hl:s.length<=1000000):∀(k y:Nat) (z:List Int),y+k=s.length->z.length<=y ->
 Tot (λv:di×dI=>(∃(b:Nat) (Ls:Bool),v.2=dI.mk s (b:Int) Ls/\y<=b/\b<=s.length)/\v.1.length<=1000000/\∀t r,(∀b,b∈t->b≠0)->s.drop y=t.flatMap BD++34::r->v=(Ag z++t,XQ s r))
  (λf=>G.eX.L3 f s (y:Int) false z):=by
 have hM:=maxL;intro k
 induction k using fC with|_ k ih=>
 intro y z hy hz;have K4:∀y':Nat,y<=y'->y'<=s.length->Tot (λv:di×dI=>(∃(b:Nat) (Ls:Bool),v.2=dI.mk s (b:Int) Ls/\y<=b/\b<=s.length)/\v.1.length<=1000000 /\
  ∀b t r,b≠0->(∀c,c∈t->c≠0)->s.drop y'=b::(t.flatMap BD++34::r)->v=(Ag z++b::t,XQ s r)) (λf=>G.eX.K4 f z s (y':Int) false):=λy' h1 h2=>by
  refine Tot.up ?_;simp only[G.eX.K4];refine Tot.pR (T.peek h2 hl) (Tot.ite (λe=>Tot.ret ⟨⟨y',true,rfl,h1,h2⟩,aJ _,λb t r hb _ hd=>?_⟩) (λe=>Tot.pR (T.peek h2 hl) (Tot.chk aI ?_)))
  ·have e:pk s y'=0:=(by simpa using e);rw[uY hd]at e;exact aY (nN.1 (show b.toNat=(0:UInt8).toNat by show b.toNat=0;omega)) hb
  ·have e:pk s y'≠0:=(by simpa using e);obtain⟨hlt,hp⟩:=IE e;simp only[qp (show y'+1<9223372036854775808 by omega)];rw[hp];refine(ih (s.length-(y'+1)) aI (y'+1) _ aI (by simp;omega)).mono ?_;rintro v ⟨⟨b,Ls,p1,p2,p3⟩,p4,p5⟩;refine⟨⟨b,Ls,p1,aI,p3⟩,p4,λb t r hb ht hd=>?_⟩;obtain⟨_,g2,g3⟩:=vk hd;rw[p5 t r ht g3,g2,YD]
 refine Tot.up ?_;simp only[G.eX.L3];refine Tot.cf rfl (Tot.pR (T.peek aI hl) (Tot.ite (λe=>Tot.pR (T.peek aI hl) ?_) (λe=>Tot.bind (T.RN aI hl 34 xR) ?_)))
 ·have n34:pk s y≠34:=by simpa using e
  refine Tot.ite (λe2=>?_) (λe2=>?_)
  ·have e2:pk s y=92:=(by simpa using e2);have hlt:=(IE (show pk s y≠0 by omega)).1;simp only[Gh y];refine(K4 (y+1) aI aI).mono ?_;rintro v ⟨p1,p4,p5⟩;refine⟨p1,p4,λt r ht hd=>?_⟩;have hd0:=gQ (0:UInt8) hlt;rw[hd0]at hd;have hb:=uY hd0;rcases D9 hd with⟨TD,_⟩|⟨_,c,t',hc,rfl,hq⟩|⟨_,Yg,_⟩
   ·rw[TD]at hb;exact aY hb n34
   ·exact p5 c t' r (ht c (aG ..)) (λb hb=>ht b (bF _ hb)) hq
   ·exact aY (nN.1 (show(s.getD y 0).toNat=(92:UInt8).toNat by show _=92;omega)) Yg
  ·have e2:pk s y≠92:=(by simpa using e2);refine(K4 y (ak _) aI).mono ?_;rintro v ⟨p1,p4,p5⟩;refine⟨p1,p4,λt r ht hd=>?_⟩;cases hdy:s.drop y with
   |nil=>rw[hdy]at hd;have:=kZ kz hd;simp at this
   | cons b q=>
     have hb:=uY hdy;rw[hdy]at hd;rcases D9 hd with⟨TD,_⟩|⟨Yg,_⟩|⟨_,_,t',rfl,hq⟩
     ·rw[TD]at hb;exact aY hb n34
     ·rw[Yg]at hb;exact aY hb e2
     ·exact p5 b t' r (ht b (aG ..)) (λc hc=>ht c (bF _ hc)) (by rw[hdy,hq])
 ·have e34:pk s y=34:=by simpa using e
  rintro v ⟨_,h1,_⟩;rw[h1 e34];have hlt:=(IE (show pk s y≠0 by omega)).1;refine Tot.chk aI (Tot.ret ⟨⟨y+1,false,rfl,aI,aI⟩,by rw[zx];omega,λt r ht hd=>?_⟩);have hd0:=gQ (0:UInt8) hlt;rw[hd0]at hd;have hb:=uY hd0;rcases D9 hd with⟨TD,rfl,hr⟩|⟨Yg,_⟩|⟨TD,_⟩
  ·have:dI.mk s ((y+[34].length:Nat):Int) false=XQ s r:=Ro (x:=[34]) (r:=r) (Ez hlt) (by rw[hd0,hr,TD];rfl);rw[iZ,<- this];rfl
  ·rw[Yg]at hb;exact aY (hb.symm.trans e34) xR
  ·exact aY (nN.1 (show(s.getD y 0).toNat=(34:UInt8).toNat by show _=34;omega)) TD
theorem T.quoted {s:di}(hl:s.length<=1000000){a:Nat}(ha:a<=s.length)(bd:Bool):Tot (RdV s a bd) (λf=>G.eX f (dI.mk s (a:Int) bd)):=by
 refine Tot.up ?_;simp only[G.eX];refine Tot.bind (T.RN ha hl 34 xR) ?_;rintro v ⟨_,h1,h2⟩;by_cases e:pk s a=34
 ·rw[h1 e];have hlt:=(IE (show pk s a≠0 by omega)).1;cases bd with
  | true=>refine(T.quoted.L3t (s:=s) hl (y:=a+1) (z:=[]) aI nV).mono ?_;rintro v ⟨⟨b,p1,p2,p3⟩,p4⟩;exact⟨⟨b,true,p1,aI,p3,λh=>by cases h⟩,p4,λh=>by cases h⟩
  | false=>refine(T.quoted.L3 hl (s.length-(a+1)) (a+1) [] aI nV).mono ?_;rintro v ⟨⟨b,Ls,p1,p2,p3⟩,p4,p5⟩;refine⟨⟨b,Ls,p1,aI,p3,λ_=>⟨aI,rfl⟩⟩,p4,λ_ t r ht hd=>?_⟩;unfold C9 at hd;rw[p5 t r ht (by rw[(vk (hd.trans (eH ..))).2.2];simp)];rfl
 ·rw[h2 e];refine(T.quoted.L3t (s:=s) hl (y:=a) (z:=[]) ha nV).mono ?_;rintro v ⟨⟨b,p1,p2,p3⟩,p4⟩;refine⟨⟨b,true,p1,p2,p3,λh=>by cases h⟩,p4,λ_ t r _ hd=>?_⟩;unfold C9 at hd;exact aY (uY (hd.trans (eH ..))) e
def ajz (acc:Nat)(x:di):Nat:=x.foldl (λn b=>10*n+(b.toNat-48)) acc
theorem X0 (i:Nat):ajz 0 (yO i)=i:=by
 induction i using fC with|_ i ih=>
 have dig:∀k:Nat,k<10->(fA (48+k)).toNat=48+k:=λk hk=>by rw[uD];omega
 by_cases h:i<10
 ·rw[x8 h];show 10*0+((fA (48+i)).toNat-48)=i;rw[dig i h];omega
 ·have:=ih (i/10) aI;rw[CV h];unfold ajz at this⊢;rw[BJ,this,qj,List.foldl_nil,dig _ aI];omega
def isD (b:UInt8):Prop:=48<=b.toNat/\b.toNat<=57
theorem Qr (i:Nat):∀b,b∈yO i->isD b:=by
 induction i using fC with|_ i ih=>
 have dig:∀k:Nat,k<10->isD (fA (48+k)):=λk hk=>by unfold isD;rw[uD];omega
 intro b hb;by_cases h:i<10
 ·rw[x8 h,dL]at hb;rw[hb];exact dig i h
 ·rw[CV h]at hb;rcases aS.1 hb with e|e
  ·exact ih (i/10) aI b e
  ·rw[dL]at e;rw[e];exact dig (i%10) aI
theorem T.number.L2 {s:di}(hl:s.length<=1000000){sg:Int}(hs:sg=1\/sg = -1){bd:Bool} : ∀(j k y n:Nat),k+j=7->y<=s.length->n<10^k ->
 Tot (λv:Int×dI=>(∃b:Nat,v.2=dI.mk s (b:Int) bd/\y<=b/\b<=s.length/\(48<=pk s y->pk s y<=57->0<j->y<b))/\∀x r,x.length<=j->(∀b,b∈x->isD b)->okR r->s.drop y=x++r->v=(sg*((ajz n x:Nat):Int),dI.mk s ((y+x.length:Nat):Int) bd))
  (λf=>G.eY.L2 f sg (n:Int) (k:Int) s (y:Int) bd):=by
 have wm:∀n:Nat,n<10000000->af .i64 (sg*(n:Int))=sg*(n:Int):=λn hn=>Eu (by rcases hs with e|e<;>rw[e]<;>omega) (by rcases hs with e|e<;>rw[e]<;>omega);intro j
 induction j with
 | zero=>intro k y n hk hy hn;have hk7:k=7:=(by omega);subst hk7;refine Tot.up ?_;simp only[G.eY.L2];refine Tot.cf (gW aI) (Tot.ret ⟨⟨y,rfl,ak _,hy,λ_ _ h=>by omega⟩,λx r hx _ _ hd=>?_⟩);have:x=[]:=dN aI;subst this;rw[wm n (by simpa using hn)];rfl
 | succ j ih=>
   intro k y n hk hy hn;have hk6:10^k<=10^6:=Nat.pow_le_pow_right xR aI;have hn6:n<1000000:=Nat.lt_of_lt_of_le hn (by simpa using hk6);have hp:=afs s y;have w0:af .i64 (pk s y)=pk s y:=Eu aI aI;refine Tot.up ?_;simp only[G.eY.L2];refine Tot.ct (iH aI) (Tot.pR (T.peek hy hl) (Tot.pR (T.gK _ _ _) (Tot.ite (λe=>Tot.pR (T.peek hy hl) ?_) (λe=>Tot.ret ⟨⟨y,rfl,ak _,hy,λh1 h2 _=>?_⟩,λx r hx hd0 hr hd=>?_⟩))))
   ·simp only[w0,ah,aj]at e;obtain⟨hlt,hb⟩:=IE (show pk s y≠0 by omega);have hw:af .i64 (af .i64 (af .i64 (10*(n:Int))+af .i64 (pk s y))-48)=((10*n+((s.getD y 0).toNat-48):Nat):Int):=by
     rw[w0,Eu (x:=10*(n:Int)) aI aI,Eu (x:=10*(n:Int)+pk s y) aI aI,Eu aI aI];omega
    simp only[hw,Gh k,Gh y];refine(ih (k+1) (y+1) _ aI aI (by rw[yC];omega)).mono ?_;rintro v ⟨⟨b,p1,p2,p3,_⟩,p5⟩;refine⟨⟨b,p1,aI,p3,λ_ _ _=>by omega⟩,λx r hx hd0 hr hd=>?_⟩;cases x with
    | nil=>rw[ja]at hd;have:=hr (s.getD y 0) (by rw[<- hd,gQ (0:UInt8) hlt];rfl);unfold IK at this;rw[iH (show 48<=(s.getD y 0).toNat by omega),iH (show(s.getD y 0).toNat<=57 by omega)]at this;simp at this
    | cons c x=>
      obtain⟨_,g2,g3⟩:=vk (hd.trans (eH ..));rw[p5 x r (by simpa using hx) (λb hb=>hd0 b (bF _ hb)) hr g3,g2];refine pz rfl ?_;show dI.mk _ _ _=dI.mk _ _ _
      congr 2
      simp only[dW];omega
   ·simp only[w0,lN,aQ]at e;omega
   ·simp only[w0,lN,aQ]at e;cases x with
    |nil=>rw[wm n aI];rfl
    | cons c x=>have:=uY (hd.trans (eH ..));have hc:=hd0 c (aG ..);unfold isD at hc;omega
theorem aat (i:Nat):∃b q,yO i=b::q/\isD b:=by
 cases h:yO i with
 |nil=>exact aY h (LV i)
 |cons b q=>exact⟨b,q,rfl,Qr i b (by rw[h];exact aG ..)⟩
theorem T.number {s:di}(hl:s.length<=1000000){a:Nat}(ha:a<=s.length)(h0:pk s a=45\/(48<=pk s a/\pk s a<=57)) :
 Tot (λv:Int×dI=>(∃b:Nat,v.2=dI.mk s (b:Int) false/\a<b/\b<=s.length)/\∀z r,-999999<=z->z<=999999->okR r->s.drop a=BR z++r->v=(z,XQ s r)) (λf=>G.eY f (dI.mk s (a:Int) false)):=by
 have hlt:=(IE (show pk s a≠0 by omega)).1;refine Tot.up ?_;simp only[G.eY];refine Tot.pR (T.peek ha hl) (Tot.ite (λe=>Tot.up ?_) (λe=>Tot.up ?_))
 ·have e:pk s a=45:=by simpa using e
  simp only[G.eY.K1,Gh a];refine(T.number.L2 hl (.inr rfl) 7 0 (a+1) 0 aI aI xR).mono ?_;rintro v ⟨⟨b,p1,p2,p3,_⟩,p5⟩;refine⟨⟨b,p1,aI,p3⟩,λz r h1 h2 hr hd=>?_⟩;by_cases hz:z<0
  ·have ez:BR z=45::yO (-z).toNat:=aF hz;rw[ez]at hd;have g3:=(vk (hd.trans (eH ..))).2.2;have hlen:=D6 (i:=(-z).toNat) aI;rw[p5 _ r aI (Qr _) hr g3,X0];refine pz (by show(-1:Int)*_=z;omega) ?_;rw[<- Ro (show a+1<=s.length by omega) g3]
  ·have ez:BR z=yO z.toNat:=ai hz;rw[ez]at hd;obtain⟨b,q,hb,hd0⟩:=aat z.toNat
   rw[hb]at hd;have:=uY (hd.trans (eH ..));unfold isD at hd0;omega
 ·have e:pk s a≠45:=by simpa using e
  simp only[G.eY.K1];refine(T.number.L2 hl (.inl rfl) 7 0 a 0 aI ha xR).mono ?_;rintro v ⟨⟨b,p1,p2,p3,p4⟩,p5⟩;refine⟨⟨b,p1,p4 aI aI aI,p3⟩,λz r h1 h2 hr hd=>?_⟩;by_cases hz:z<0
  ·have ez:BR z=45::yO (-z).toNat:=aF hz;rw[ez]at hd;exact aY (uY (hd.trans (eH ..))) e
  ·have ez:BR z=yO z.toNat:=ai hz;rw[ez]at hd;have hlen:=D6 (i:=z.toNat) aI;rw[p5 _ r aI (Qr _) hr hd,X0];refine pz (by show(1:Int)*_=z;omega) ?_;rw[<- Ro ha hd]
end
section
theorem afn {n:au}(h:Parts n=true)(hk:n.dH=2):PT n.oz=true:=by unfold Parts at h;rw[ai aI,ai aI,aF hk]at h;simp only[ah]at h;exact h.2.1
structure RdS (d:Nat)(s:di)(a:Nat)(v:au×dI):Prop where
 pos:∃(b:Nat) (bd:Bool),v.2=dI.mk s (b:Int) bd/\a<=b/\b<=s.length/\(bd=false->a<b)
 fin:sF KY (d+1) v.1
 all:∀n r,Shape d n=true->okR r->s.drop a=nS d n++r->v=(n,XQ s r)
theorem EN {d:Nat}{k z:Int}{t:di}(ht:t.length<=1000000):sF KY (d+1) (au.mk k z t [] []):=
 ⟨dR ht xR,aJ _,λs h=>(by cases h),aJ _,trivial,λk h=>(by cases h)⟩
theorem T.aff {s:di}{a:Nat}(lv:Int):Ev (λf=>G.jJ f (dI.mk s (a:Int) true) lv) (au.mk 0 0 [] [] [],dI.mk s (a:Int) true):=by refine dF ?_;simp only[G.jJ];exact fH (λ_=>jQ _) (λ_=>mF rfl (jQ _))
structure RdI (d:Nat)(kind:Int)(c:UInt8)(s:di)(y:Nat)(bd:Bool)(z5:List di)(z6:List au)(v:au×dI):Prop where
 pos:∃(b:Nat) (Ls:Bool),v.2=dI.mk s (b:Int) Ls/\y<=b/\b<=s.length
 fin:sF KY (d+2) v.1
 all:bd=false->∀n r,Big d kind n->z6.length<=n.bC.length->z6=n.bC.take z6.length->z5=(if kind=4 then n.dS.take z6.length else []) ->
  (∀t,t∈n.dS->PT t=true)->s.drop y=uH (nS d) n z6.length [c] r->v=(n,XQ s r)
section
variable {d:Nat} (hd:d<=4) (IH:∀(s:di) (a:Nat),a<=s.length->s.length<=1000000->Tot (RdS d s a) (λf=>G.jJ f (dI.mk s (a:Int) false) (d:Int)))
 {kind:Int} {c:UInt8} (hk:kind=3/\c=93\/kind=4/\c=125) {s:di} (hl:s.length<=1000000)
include hd IH hk hl
theorem T.inside.L5t {y:Nat}{z5:List di}{z6:List au}(hy:y<=s.length)(h6:z6.length<=y+1)(h5:z5.length<=y+1)(ht:∀t,t∈z5->t.length<=1000000)(hn:∀n,n∈z6->sF KY (d+1) n) :
 Tot (RdI d kind c s y true z5 z6) (λf=>G.bT.L5 f (au.mk kind 0 [] [] []) (c.toNat:Int) ((d+1:Nat):Int) s (y:Int) true z5 z6):=by
 have _:=hd;have _:=IH;have hc:(c.toNat:Int)≠0:=by rcases hk with⟨_,h⟩|⟨_,h⟩<;>rw[h]<;>decide
 refine Tot.up ?_;simp only[G.bT.L5];refine Tot.ct rfl (Tot.bind (T.RN hy hl _ hc) ?_);rintro v ⟨⟨b,Ls,rfl,h1,h2,h3⟩,_⟩;refine Tot.ret ⟨⟨b,Ls,rfl,h1,h2⟩,⟨aJ _,?_,λt h=>dR (ht t h) xR,?_,trivial,hn⟩,λh=>by cases h⟩
 ·show z5.length<=KY;unfold KY;omega
 ·show z6.length<=KY;unfold KY;omega
theorem T.inside.L5 : ∀(k y:Nat) (z5:List di) (z6:List au),y+k=s.length->z6.length<=y->z5.length<=y->(∀t,t∈z5->t.length<=1000000)->(∀n,n∈z6->sF KY (d+1) n) ->
 Tot (RdI d kind c s y false z5 z6) (λf=>G.bT.L5 f (au.mk kind 0 [] [] []) (c.toNat:Int) ((d+1:Nat):Int) s (y:Int) false z5 z6):=by
 have hc:c=93\/c=125:=by rcases hk with⟨_,h⟩|⟨_,h⟩<;>simp[h]
 have hc0:(c.toNat:Int)≠0:=by rcases hc with h|h<;>rw[h]<;>decide
 have cne:∀{b:UInt8},b≠c->(b.toNat:Int)≠(c.toNat:Int):=λh e=>h (nN.1 aI);intro k
 induction k using fC with|_ k ih=>
 intro y z5 z6 hy h6 h5 ht hn;have hM:=maxL;have K7:∀(p:Nat) (bd:Bool) (z7:List di),y<=p->p<=s.length->z7.length<=p+1->(∀t,t∈z7->t.length<=1000000) ->
  Tot (λv:au×dI=>(∃(b:Nat) (Ls:Bool),v.2=dI.mk s (b:Int) Ls/\y<=b/\b<=s.length)/\sF KY (d+2) v.1/\(bd=false->∀n r,Big d kind n->z6.length<n.bC.length->z6=n.bC.take z6.length->z7=(if kind=4 then n.dS.take (z6.length+1)else []) ->
   (∀t,t∈n.dS->PT t=true)->s.drop p=nS d (n.bC.getD z6.length default)++uH (nS d) n (z6.length+1) [c] r->v=(n,XQ s r)))
  (λf=>G.bT.K7 f (au.mk kind 0 [] [] []) (c.toNat:Int) ((d+1:Nat):Int) z6 s (p:Int) bd z7):=λp bd z7 hp hpl h7 ht7=>by
  refine Tot.up ?_;simp only[G.bT.K7];have w1:af .i64 (((d+1:Nat):Int)-1)=(d:Int):=by rw[Eu aI aI];omega
  rw[w1];cases bd with
  | true=>
    refine Tot.pR (T.aff _) (Tot.chk aI ((T.inside.L5t hd IH hk hl (y:=p) (z5:=z7) (z6:=z6++[au.mk 0 0 [] [] []]) hpl (by simp;omega) h7 ht7 (λx hx=>?_)).mono ?_))
    ·rcases aS.1 hx with e|e
     ·exact hn x e
     ·rw[dL]at e;subst e;exact EN (aJ _)
    rintro v ⟨⟨b,Ls,g1,g2,g3⟩,g4,_⟩;exact⟨⟨b,Ls,g1,aI,g3⟩,g4,λh=>by cases h⟩
  | false=>
    refine Tot.bind (IH s p hpl hl) ?_;rintro⟨m,q⟩⟨⟨b,bd,hb1,hb2,hb3,hb4⟩,hf,hall⟩;simp only at hb1 hf;subst hb1;have hn':∀x,x∈z6++[m]->sF KY (d+1) x:=λx hx=>by
     rcases aS.1 hx with e|e
     ·exact hn x e
     ·rw[dL]at e;subst e;exact hf
    have kid:∀n r,Big d kind n->z6.length<n.bC.length->s.drop p=nS d (n.bC.getD z6.length default)++uH (nS d) n (z6.length+1) [c] r->m=n.bC.getD z6.length default/\bd=false/\s.drop b=uH (nS d) n (z6.length+1) [c] r:=λn r hB hlt hdr=>by
     have h1:=hall _ (uH (nS d) n (z6.length+1) [c] r) (hB.kids _ (getD_mem default hlt)) (RJ hc (wH _)) hdr;simp only[aK]at h1;have h3:=h1.2;unfold XQ at h3
     injection h3 with _ h4 h5
     refine⟨h1.1,h5,?_⟩;have h6:b=s.length-(uH (nS d) n (z6.length+1) [c] r).length:=(by omega);rw[h6];exact(I8 hpl hdr).1
    cases bd with
    | true=>refine Tot.chk aI ((T.inside.L5t hd IH hk hl (y:=b) (z5:=z7) (z6:=z6++[m]) hb3 (by simp;omega) aI ht7 hn').mono ?_);rintro v ⟨⟨b2,Ls,g1,g2,g3⟩,g4,_⟩;exact⟨⟨b2,Ls,g1,aI,g3⟩,g4,λ_ n r hB hlt _ _ _ hdr=>by have:=(kid n r hB hlt hdr).2.1;cases this⟩
    | false=>have hpb:=hb4 rfl;refine Tot.chk aI ((ih (s.length-b) aI b z7 (z6++[m]) aI (by simp;omega) aI ht7 hn').mono ?_);rintro v ⟨⟨b2,Ls,g1,g2,g3⟩,g4,g5⟩;refine⟨⟨b2,Ls,g1,aI,g3⟩,g4,λ_ n r hB hlt TE h7e hnm hdr=>?_⟩;obtain⟨hm,_,hdb⟩:=kid n r hB hlt hdr;have hlen:(z6++[m]).length=z6.length+1:=(by simp);refine g5 rfl n r hB (by rw[hlen];omega) ?_ (by rw[hlen];exact h7e) hnm (by rw[hlen];exact hdb);rw[hlen,<- take_snoc default hlt,<- TE,<- hm]
 have K6:∀(p:Nat) (bd:Bool),y<=p->p<=s.length ->
  Tot (λv:au×dI=>(∃(b:Nat) (Ls:Bool),v.2=dI.mk s (b:Int) Ls/\y<=b/\b<=s.length)/\sF KY (d+2) v.1/\(bd=false->∀n r,Big d kind n->z6.length<n.bC.length->z6=n.bC.take z6.length->z5=(if kind=4 then n.dS.take z6.length else []) ->
   (∀t,t∈n.dS->PT t=true)->s.drop p=EY (nS d) n z6.length++uH (nS d) n (z6.length+1) [c] r->v=(n,XQ s r)))
  (λf=>G.bT.K6 f (au.mk kind 0 [] [] []) (c.toNat:Int) ((d+1:Nat):Int) z5 z6 s (p:Int) bd):=λp bd hp hpl=>by
  refine Tot.up ?_;simp only[G.bT.K6];refine Tot.ite (λe=>?_) (λe=>?_)
  ·have k4:kind=4:=(by simpa using e);refine Tot.bind (T.quoted hl hpl bd) ?_;rintro⟨t,q⟩⟨⟨b,bd1,hb1,hb2,hb3,hb4⟩,hlen,hall⟩;simp only at hb1 hlen;subst hb1;refine Tot.chk aI (Tot.bind (T.RN hb3 hl 58 xR) ?_);rintro v ⟨⟨b2,bd2,rfl,c1,c2,c3⟩,c4,c5⟩;refine(K7 b2 bd2 (z5++[t]) aI c2 (by simp;omega) (λx hx=>?_)).mono ?_
   ·rcases aS.1 hx with e|e
    ·exact ht x e
    ·rw[dL]at e;subst e;exact hlen
   rintro v ⟨g1,g2,g3⟩;refine⟨g1,g2,λhbd n r hB hlt TE WW hnm hdr=>?_⟩;have hnl:=hB.len k4;have hlt':z6.length<n.dS.length:=(by omega);have hd2:s.drop p=C9 (n.dS.getD z6.length default)++(58::(nS d (n.bC.getD z6.length default)++uH (nS d) n (z6.length+1) [c] r)):=(by rw[hdr];unfold EY;rw[aF (by rw[hB.kd,k4])];simp);have h1:=hall hbd _ _ (afx (hnm _ (getD_mem default hlt'))) hd2;simp only[aK]at h1;have h3:=h1.2;unfold XQ at h3
   injection h3 with _ h4 h5'
   have h6':b=s.length-(58::(nS d (n.bC.getD z6.length default)++uH (nS d) n (z6.length+1) [c] r)).length:=(by omega);have hdb:=(I8 hpl hd2).1;rw[<- h6']at hdb;have h7:=c4 (uY hdb)
   injection h7 with _ h8 h9
   have h10:b2=b+1:=(by omega);refine g3 (by rw[h9,h5']) n r hB hlt TE ?_ hnm (by rw[h10];exact(vk hdb).2.2);rw[aF k4]at WW⊢;rw[WW,h1.1];exact take_snoc (default:di) aI
  ·have k3:kind=3:=by
    rcases hk with⟨h,_⟩|⟨h,_⟩
    ·exact h
    ·rw[h]at e;simp at e
   refine(K7 p bd z5 hp hpl aI ht).mono ?_;rintro v ⟨g1,g2,g3⟩;refine⟨g1,g2,λhbd n r hB hlt TE WW hnm hdr=>g3 hbd n r hB hlt TE ?_ hnm ?_⟩
   ·rw[ai aI]at WW⊢;exact WW
   ·unfold EY at hdr;rw[ai (by rw[hB.kd];omega)]at hdr;simpa using hdr
 refine Tot.up ?_;simp only[G.bT.L5];refine Tot.cf rfl (Tot.pR (T.peek aI hl) (Tot.ite (λe=>?_) (λe=>?_)))
 ·have ne:pk s y≠(c.toNat:Int):=by simpa using e
  have more:∀n r,s.drop y=uH (nS d) n z6.length [c] r->z6.length<n.bC.length:=λn r hdr=>by
   rcases rQ z6.length n.bC.length with h|h
   ·exact h
   ·rw[DR h]at hdr;exact aY (uY hdr) ne
  refine Tot.ite (λe0=>Tot.bind (T.RN aI hl 44 xR) ?_) (λe0=>?_)
  ·have h0:0<z6.length:=(by simp only[aj]at e0;omega);rintro v ⟨⟨b,Ls,rfl,c1,c2,_⟩,c4,_⟩;refine(K6 b Ls c1 c2).mono ?_;rintro v ⟨g1,g2,g3⟩;refine⟨g1,g2,λ_ n r hB hle TE WW hnm hdr=>?_⟩;have hlt:=more n r hdr;rw[DT hlt h0]at hdr;have h7:=c4 (uY hdr)
   injection h7 with _ h8 h9
   have h10:b=y+1:=(by omega);exact g3 h9 n r hB hlt TE WW hnm (by rw[h10];exact(vk hdr).2.2)
  ·have h0:z6.length=0:=(by simp only[aQ]at e0;omega);refine(K6 y false (ak _) aI).mono ?_;rintro v ⟨g1,g2,g3⟩;refine⟨g1,g2,λ_ n r hB hle TE WW hnm hdr=>?_⟩;have hlt:=more n r hdr;refine g3 rfl n r hB hlt TE WW hnm ?_;rw[hdr,h0];exact Ik aI
 ·have ec:pk s y=(c.toNat:Int):=by simpa using e
  have hlt:=(IE (show pk s y≠0 by rw[ec];exact hc0)).1;refine Tot.bind (T.RN aI hl _ hc0) ?_;rintro v ⟨_,h1,_⟩;rw[h1 ec];refine Tot.ret ⟨⟨y+1,false,rfl,aI,aI⟩,⟨aJ _,?_,λt h=>dR (ht t h) xR,?_,trivial,hn⟩,λ_ n r hB hle TE WW hnm hdr=>?_⟩
  ·show z5.length<=KY;unfold KY;omega
  ·show z6.length<=KY;unfold KY;omega
  ·have hend:z6.length=n.bC.length:=by
    rcases rQ z6.length n.bC.length with h|h
    ·exfalso;by_cases h0:0<z6.length
     ·rw[DT h h0]at hdr;exact cne (show(44:UInt8)≠c by rcases hc with e|e<;>rw[e]<;>decide) ((uY hdr).symm.trans ec)
     ·have h0:z6.length=0:=(by omega);rw[h0]at hdr h;rw[Ik h]at hdr;unfold EY at hdr;rcases hk with⟨k3,rfl⟩|⟨k4,rfl⟩
      ·rw[ai (by rw[hB.kd];omega)]at hdr;obtain⟨b,q,hq,hb⟩:=QB (hB.kids _ (getD_mem default h));rw[ja,hq,eH]at hdr;exact cne hb.1 ((uY hdr).symm.trans ec)
      ·rw[aF (by rw[hB.kd];omega)]at hdr;unfold C9 at hdr;rw[eH,eH,eH]at hdr;exact cne (show(34:UInt8)≠125 by decide) ((uY hdr).symm.trans ec)
    ·omega
   rw[DR aI]at hdr;have hpos:dI.mk s ((y+[c].length:Nat):Int) false=XQ s r:=Ro (x:=[c]) (Ez hlt) hdr;have hkids:z6=n.bC:=(by rw[TE,eU aI]);have aew:z5=n.dS:=by
    rw[WW];rcases hk with⟨k3,_⟩|⟨k4,_⟩
    ·rw[ai aI,hB.QU k3]
    ·rw[aF k4,eU (by have:=hB.len k4;omega)]
   refine pz ?_ hpos;show au.mk kind 0 [] z5 z6=n;rw[hkids,aew]
   conv=>rhs;rw[<- BC n,hB.kd,hB.num,hB.text]
end
theorem T.node : ∀(d:Nat),d<=5->∀(s:di) (a:Nat),a<=s.length->s.length<=1000000->Tot (RdS d s a) (λf=>G.jJ f (dI.mk s (a:Int) false) (d:Int))
 | 0,_,s,a,ha,hl=>by refine Tot.up ?_;simp only[G.jJ];exact Tot.ct nV (Tot.ret ⟨⟨a,true,rfl,ak _,ha,λh=>by cases h⟩,EN (aJ _),λn r hS=>by cases hS⟩)
 | d+1,hd,s,a,ha,hl=>by
   have hp:=afs s a;have w0:af .i64 (pk s a)=pk s a:=Eu aI aI;have w1:af .i64 ((a:Int)+1)=((a+1:Nat):Int):=qp aI;have w4:af .i64 ((a:Int)+4)=((a+4:Nat):Int):=wrapN (m:=a+4) aI aI;have beg:∀n r,Shape (d+1) n=true->s.drop a=nS (d+1) n++r->(n.dH=0/\pk s a=110)\/(n.dH=1/\(pk s a=45\/(48<=pk s a/\pk s a<=57)))\/(n.dH=2/\pk s a=34)\/(n.dH=3/\pk s a=91)\/(n.dH=4/\pk s a=123):=λn r hS hdr=>by
    rcases H8 (mP hS)with k|k|k|k|k
    ·rw[pG,ai aI,ai aI,aF k]at hdr;exact .inl ⟨k,uY hdr⟩
    ·rw[pG,aF k]at hdr;refine .inr (.inl ⟨k,?_⟩);by_cases hz:n.ve<0
     ·rw[show BR n.ve=45::yO (-n.ve).toNat from aF hz]at hdr;exact .inl (uY hdr)
     ·rw[show BR n.ve=yO n.ve.toNat from ai hz]at hdr;obtain⟨b,q,hb,h0⟩:=aat n.ve.toNat
      rw[hb]at hdr;have:=uY hdr;unfold isD at h0;exact .inr aI
    ·rw[pG,ai aI,aF k]at hdr;exact .inr (.inr (.inl ⟨k,uY hdr⟩))
    ·rw[L8 r k]at hdr;exact .inr (.inr (.inr (.inl ⟨k,uY hdr⟩)))
    ·rw[Pj r k]at hdr;exact .inr (.inr (.inr (.inr ⟨k,uY hdr⟩)))
   have sub:∀{kind:Int} {c:UInt8},(kind=3/\c=93\/kind=4/\c=125)->a<s.length->Tot (RdI d kind c s (a+1) false [] []) (λf=>G.bT f (dI.mk s (a:Int) false) (au.mk kind 0 [] [] []) (c.toNat:Int) ((d+1:Nat):Int)):=λ{kind c} hk hlt=>by refine Tot.up ?_;simp only[G.bT];rw[w1];exact T.inside.L5 aI (λs a h1 h2=>T.node d aI s a h1 h2) hk hl (s.length-(a+1)) (a+1) [] [] aI (aJ _) (aJ _) (λt h=>by cases h) (λn h=>by cases h)
   have num:(pk s a=45\/(48<=pk s a/\pk s a<=57))->Tot (RdS (d+1) s a) (λf=>lY (G.eY f (dI.mk s (a:Int) false)) λv9=>some ((au.mk 1 v9.1 [] [] []),v9.2)):=λh0=>by
    refine Tot.bind (T.number hl ha h0) ?_;rintro⟨z,q⟩⟨⟨b,p1,p2,p3⟩,p5⟩;refine Tot.ret ⟨⟨b,false,p1,aI,p3,λ_=>p2⟩,EN (aJ _),λn r hS hr hdr=>?_⟩;have k:n.dH=1:=(by rcases beg n r hS hdr with⟨_,hx⟩|⟨k,_⟩|⟨_,hx⟩|⟨_,hx⟩|⟨_,hx⟩<;>omega);have hpp:=mP hS;have hlf:=yc hpp aI aI;have hnn:=GI hpp k;have htt:=Q5 hpp aI;rw[pG,aF k]at hdr;have h3:=p5 n.ve r hnn.1 hnn.2 hr hdr;simp only[aK]at h3;refine pz ?_ h3.2;show au.mk 1 z [] [] []=n
    conv=>rhs;rw[<- BC n,k,htt,hlf.1,hlf.2,<- h3.1]
   refine Tot.up ?_;simp only[G.jJ];refine Tot.cf (by simp;omega) (Tot.cf rfl (Tot.pR (T.peek ha hl) (Tot.ite (λe2=>?_) (λe2=>Tot.pR (T.peek ha hl) (Tot.ite (λe3=>?_) (λe3=>Tot.pR (T.peek ha hl) (Tot.ite (λe4=>?_) (λe4=>Tot.pR (T.peek ha hl) (Tot.ite (λe0=>?_) (λe0=>Tot.pR (T.peek ha hl) (Tot.ite (λe1=>?_) (λe1=>Tot.pR (T.peek ha hl) (Tot.pR (T.gK _ _ _) (Tot.ite (λe5=>?_) (λe5=>?_)))))))))))))))
   ·have e2:pk s a=34:=(by simpa using e2);refine Tot.bind (T.quoted hl ha false) ?_;rintro⟨t,q⟩⟨⟨b,bd,p1,p2,p3,p4⟩,hlen,hall⟩;refine Tot.ret ⟨⟨b,bd,p1,p2,p3,λh=>(p4 h).1⟩,EN hlen,λn r hS _ hdr=>?_⟩;have k:n.dH=2:=(by rcases beg n r hS hdr with⟨_,hx⟩|⟨_,hx⟩|⟨k,_⟩|⟨_,hx⟩|⟨_,hx⟩<;>omega);have hpp:=mP hS;have hlf:=yc hpp aI aI;have hn0:n.ve=0:=Q4 hpp aI;rw[pG,ai aI,aF k]at hdr;have h3:=hall rfl _ _ (afx (afn hpp k)) hdr;simp only[aK]at h3;refine pz ?_ h3.2;show au.mk 2 0 t [] []=n
    conv=>rhs;rw[<- BC n,k,hn0,hlf.1,hlf.2,<- h3.1]
   ·have e3:pk s a=91:=(by simpa using e3);have hlt:=(IE (show pk s a≠0 by omega)).1;refine Tot.bind (sub (.inl ⟨rfl,rfl⟩) hlt) ?_;rintro⟨m,q⟩⟨⟨b,bd,p1,p2,p3⟩,hf,hall⟩;refine Tot.ret ⟨⟨b,bd,p1,aI,p3,λ_=>by omega⟩,hf,λn r hS _ hdr=>?_⟩;have k:n.dH=3:=(by rcases beg n r hS hdr with⟨_,hx⟩|⟨_,hx⟩|⟨_,hx⟩|⟨k,_⟩|⟨_,hx⟩<;>omega);rw[L8 r k]at hdr;have hB:=UG hS (.inl k);rw[k]at hB;exact hall rfl n r hB (aJ _) rfl rfl (λt ht=>by rw[hB.QU rfl]at ht;cases ht) (vk hdr).2.2
   ·have e4:pk s a=123:=(by simpa using e4);have hlt:=(IE (show pk s a≠0 by omega)).1;refine Tot.bind (sub (.inr ⟨rfl,rfl⟩) hlt) ?_;rintro⟨m,q⟩⟨⟨b,bd,p1,p2,p3⟩,hf,hall⟩;refine Tot.ret ⟨⟨b,bd,p1,aI,p3,λ_=>by omega⟩,hf,λn r hS _ hdr=>?_⟩;have k:n.dH=4:=(by rcases beg n r hS hdr with⟨_,hx⟩|⟨_,hx⟩|⟨_,hx⟩|⟨_,hx⟩|⟨k,_⟩<;>omega);rw[Pj r k]at hdr;have hB:=UG hS (.inr k);rw[k]at hB;exact hall rfl n r hB (aJ _) rfl rfl (Zv (Cf (mP hS) k).2.2.1) (vk hdr).2.2
   ·have e0:pk s a=110:=(by simpa using e0);have hlt:=(IE (show pk s a≠0 by omega)).1;rw[w4];have hpos:(if(s.length:Int)<((a+4:Nat):Int)then(s.length:Int)else((a+4:Nat):Int))=((min s.length (a+4):Nat):Int):=(by split<;>omega);refine Tot.ret ⟨⟨min s.length (a+4),false,by rw[<- hpos],aI,aI,λ_=>by omega⟩,EN (aJ _),λn r hS _ hdr=>?_⟩;have k:n.dH=0:=(by rcases beg n r hS hdr with⟨k,_⟩|⟨_,hx⟩|⟨_,hx⟩|⟨_,hx⟩|⟨_,hx⟩<;>omega);have hpp:=mP hS;have hlf:=yc hpp aI aI;have hn0:n.ve=0/\n.oz=[]:=Ld hpp k;rw[pG,ai aI,ai aI,aF k]at hdr;have hl4:=aav ha hdr;have hq:dI.mk s ((a+[110,117,108,108].length:Nat):Int) false=XQ s r:=Ro ha hdr;refine pz ?_ ?_
    ·show au.mk 0 0 [] [] []=n
     conv=>rhs;rw[<- BC n,k,hn0.1,hn0.2,hlf.1,hlf.2]
    ·rw[<- hq];simp only[hpos]
     congr 2
     simp only[dW,fB]at hl4⊢;omega
   ·have e1:pk s a=45:=(by simpa using e1);exact num (.inl e1)
   ·simp only[w0,ah,aj]at e5;exact num (.inr e5)
   ·have ne5:¬(48<=pk s a/\pk s a<=57):=by
     simp only[w0,lN,aQ]at e5;omega
    have n2:pk s a≠34:=(by simpa using e2);have n3:pk s a≠91:=(by simpa using e3);have n4:pk s a≠123:=(by simpa using e4);have n0:pk s a≠110:=(by simpa using e0);have n1:pk s a≠45:=(by simpa using e1);refine Tot.ret ⟨⟨a,true,rfl,ak _,ha,λh=>by cases h⟩,EN (aJ _),λn r hS _ hdr=>?_⟩;exfalso;rcases beg n r hS hdr with⟨_,hx⟩|⟨_,hx⟩|⟨_,hx⟩|⟨_,hx⟩|⟨_,hx⟩<;>omega
end
theorem ahf : KY<=lim:=xR
theorem T.oQ {s:di}(hl:s.length<=1000000):Tot (λv:au×Bool=>sF KY 6 v.1/\∀n,Val n=true->s.length<=2000->s=nS 5 n->v=(n,true)) (λf=>G.oQ f s):=by
 refine Tot.up ?_;simp only[G.oQ];refine Tot.ite (λe=>Tot.ret ⟨zB _ _,λn _ hl=>by simp only[aj]at e;omega⟩) (λ_=>Tot.bind (T.node 5 aI s 0 (aJ _) hl) ?_);rintro⟨m,q⟩⟨⟨b,bd,hb,_,hbl,_⟩,hf,hall⟩;simp only at hb hf;subst hb;have key:∀n,Val n=true->s=nS 5 n->m=n/\bd=false:=λn hn hs=>by
  have:=hall n [] (uO hn) aaW (by rw[iC,iZ];exact hs);simp only[aK]at this;have h3:=this.2;unfold XQ at h3
  injection h3 with _ _ h5
  exact⟨this.1,h5⟩
 refine Tot.ite (λe=>Tot.ret ⟨zB _ _,λn hn _ hs=>?_⟩) (λe=>Tot.pR (T0.iU ahf hf) (Tot.ite (λev=>Tot.pR (T.gu 5 aI (uO ev)) (Tot.ite (λe2=>Tot.ret ⟨hf,λn hn _ hs=>?_⟩) (λe2=>Tot.ret ⟨zB _ _,λn hn _ hs=>?_⟩))) (λev=>Tot.ret ⟨zB _ _,λn hn _ hs=>?_⟩)))
 ·rw[(key n hn hs).2]at e;cases e
 ·rw[(key n hn hs).1]
 ·rw[(key n hn hs).1,<- hs]at e2;simp at e2
 ·rw[(key n hn hs).1,hn]at ev;cases ev
theorem ad2 {l:List di}(h:l.flatMap Hl=[]):l=[]:=by
 cases l with
 |nil=>rfl
 |cons t l=>rw[bG]at h;cases h
theorem afQ (t:di):ET t≠[]:=by unfold ET;split<;>simp
theorem T.jd {s:di}(hl:s.length<=1000000):Tot (λv:List di×Bool=>xh 60 v.1/\∀l,Bz l=true->s=DI l->v=(l,true)) (λf=>G.jd f s):=by
 have fin0:xh 60 []:=⟨nV,λt h=>by cases h⟩;have L:∀(k a:Nat) (z:List di),a+k=s.length->z.length<=5->(∀t,t∈z->t.length<=4) ->
  Tot (λv:List di×Bool=>xh 60 v.1/\∀rest,Bz (z++rest)=true->s=DI (z++rest)->(((0<a\/rest=[])/\s.drop a=rest.flatMap Hl)\/(∃t r',rest=t::r'/\s.drop a=ET t++r'.flatMap Hl))->v=(z++rest,true))
   (λf=>G.jd.L1 f s (a:Int) z):=by
  intro k
  induction k using fC with|_ k ih=>
  intro a z ha hz ht;have hfz:xh 60 z:=⟨aI,λt h=>by have:=ht t h;omega⟩;have hsz:Sm z:=hfz.sm Xk;have fin:(∀rest,Bz (z++rest)=true->s=DI (z++rest)->(((0<a\/rest=[])/\s.drop a=rest.flatMap Hl)\/(∃t r',rest=t::r'/\s.drop a=ET t++r'.flatMap Hl))->rest=[]) ->
   Tot (λv:List di×Bool=>xh 60 v.1/\∀rest,Bz (z++rest)=true->s=DI (z++rest)->(((0<a\/rest=[])/\s.drop a=rest.flatMap Hl)\/(∃t r',rest=t::r'/\s.drop a=ET t++r'.flatMap Hl))->v=(z++rest,true))
    (λn=>lY (G.fG n z) λv1=>cond (v1==s) (lY (G.iG n z) λv2=>cond v2 (some (z,true)) (some ([],false))) (some ([],false))):=λh=>by
   refine Tot.pR (T.fG hsz) (Tot.ite (λe=>Tot.pR (T.iG hsz) (Tot.ite (λe2=>Tot.ret ⟨hfz,λrest h1 h2 h3=>?_⟩) (λe2=>Tot.ret ⟨fin0,λrest h1 h2 h3=>?_⟩))) (λe=>Tot.ret ⟨fin0,λrest h1 h2 h3=>?_⟩))
   ·rw[h rest h1 h2 h3,iZ]
   ·have:=h rest h1 h2 h3;rw[this,iZ]at h1;rw[h1]at e2;cases e2
   ·have:=h rest h1 h2 h3;rw[this,iZ]at h2;rw[<- h2]at e;simp at e
  refine Tot.up ?_;simp only[G.jd.L1];refine Tot.ite (λe=>?_) (λe=>fin λrest _ _ h=>?_)
  ·have hal:a<s.length:=(by simp only[aj]at e;omega);refine Tot.ite (λe4=>?_) (λe4=>fin λrest h1 _ _=>?_)
   ·have h4:z.length<=4:=(by simp only[aj]at e4;omega);have w1:af .i64 ((a:Int)+1)=((a+1:Nat):Int):=qp aI;have w5:af .i64 ((a:Int)+5)=((a+5:Nat):Int):=wrapN (m:=a+5) aI aI;have w6:af .i64 ((a:Int)+6)=((a+6:Nat):Int):=wrapN (m:=a+6) aI aI;have hd0:=gQ (0:UInt8) hal;have tag:(∀rest,(((0<a\/rest=[])/\s.drop a=rest.flatMap Hl)\/(∃t r',rest=t::r'/\s.drop a=ET t++r'.flatMap Hl))->∃t r',rest=t::r'/\s.drop a=ET t++r'.flatMap Hl) ->
     Tot (λv:List di×Bool=>xh 60 v.1/\∀rest,Bz (z++rest)=true->s=DI (z++rest)->(((0<a\/rest=[])/\s.drop a=rest.flatMap Hl)\/(∃t r',rest=t::r'/\s.drop a=ET t++r'.flatMap Hl))->v=(z++rest,true))
     (λn=>chk (0<=(a:Int)/\(a:Int)<(s.length:Int)) (cond (((s.getD a 0).toNat:Int)==42)
      (chk ((z.length+1)*18<=2^46) (G.jd.L1 n s ((a+1:Nat):Int) (z++[[42]])))
      (cond (decide (((a+6:Nat):Int)<=(s.length:Int)))
      (chk (0<=((a+1:Nat):Int)/\((a+1:Nat):Int)<=((a+5:Nat):Int)/\((a+5:Nat):Int)<=(s.length:Int))
      (chk ((z.length+1)*18<=2^46) (G.jd.L1 n s ((a+6:Nat):Int) (z++[((s.take (a+5)).drop (a+1))]))))
      (some ([],false))))):=λhr=>by
     rw[show(42:Int)=((42:UInt8).toNat:Int)from rfl];have tgs:∀{t:di} {r':List di},Bz (z++t::r')=true->IJ t=true:=λ{t r'} h=>(xk h).2 t (dZ _ (aG ..));refine Tot.chk ⟨aI,aI⟩ (Tot.ite (λe1=>Tot.chk aI ((ih (s.length-(a+1)) aI (a+1) (z++[[42]]) aI (by simp;omega) (λt h=>?_)).mono ?_)) (λe1=>Tot.ite (λe2=>Tot.chk ⟨aI,aI,?_⟩ (Tot.chk aI ((ih (s.length-(a+6)) aI (a+6) (z++[(s.take (a+5)).drop (a+1)]) ?_ (by simp;omega) (λt h=>?_)).mono ?_))) (λe2=>Tot.ret ⟨fin0,λrest h1 h2 h3=>?_⟩)))
     ·rcases aS.1 h with e|e
      ·exact ht t e
      ·rw[dL]at e;rw[e];decide
     ·rintro v ⟨g1,g2⟩;refine⟨g1,λrest h1 h2 h3=>?_⟩;obtain⟨t,r',rfl,hd⟩:=hr rest h3;rw[xA,aH]at e1;rw[hd0,e1]at hd;have h42:t=[42]:=by
       unfold ET at hd;split at hd
       ·rename_i c;exact c
       ·have:=(jZ hd).1;exact aY this xR
      subst h42;have hq:ET [42]=[42]:=rfl;rw[hq]at hd;have h5:=g2 r' (by rw[dB];exact h1) (by rw[dB];exact h2) (.inl ⟨.inl aI,(jZ hd).2⟩);rw[h5,dB];rfl
     ·simp only[aj]at e2;omega
     ·simp only[aj]at e2;omega
     ·rcases aS.1 h with e|e
      ·exact ht t e
      ·rw[dL]at e;rw[e,jk,jc];omega
     ·rintro v ⟨g1,g2⟩;refine⟨g1,λrest h1 h2 h3=>?_⟩;obtain⟨t,r',rfl,hd⟩:=hr rest h3;rw[xA]at e1;have htv:=tgs h1;have hne:t≠[42]:=λh42=>by
       subst h42;have hq:ET [42]=[42]:=rfl;rw[hq,hd0]at hd;rw[(jZ hd).1]at e1;exact aY e1 xR
      have hq:ET t=34::(t++[34]):=ai hne;have hsv:Lt t=true:=by unfold IJ at htv;simp only[dP,aH]at htv;exact htv.resolve_left hne
      have h4':=JX hsv;have hd6:s.drop (a+6)=r'.flatMap Hl:=by have:=drop_tail hd;rw[hq]at this;simpa[h4']using this
      have ht4:(s.take (a+5)).drop (a+1)=t:=by
       rw[hq]at hd;have e1:s.drop (a+1)=t++([34]++r'.flatMap Hl):=by have:=(vk (hd.trans (eH ..))).2.2;rw[this,dB]
       rw[List.drop_take,e1,show a+5-(a+1)=4 by omega,List.take_append_of_le_length aI,eU aI]
      rw[ht4]at g2;have h5:=g2 r' (by rw[dB];exact h1) (by rw[dB];exact h2) (.inl ⟨.inl aI,hd6⟩);rw[h5,dB];rfl
     ·obtain⟨t,r',rfl,hd⟩:=hr rest h3;rw[xA]at e1;have hne:t≠[42]:=λh42=>by
       subst h42;have hq:ET [42]=[42]:=rfl;rw[hq,hd0]at hd;rw[(jZ hd).1]at e1;exact aY e1 xR
      have hq:ET t=34::(t++[34]):=ai hne;have hsv:Lt t=true:=by have htv:=tgs h1;unfold IJ at htv;simp only[dP,aH]at htv;exact htv.resolve_left hne
      have h4':=JX hsv;have:=aav (Ez hal) hd;rw[hq]at this;simp[h4']at this;simp only[aQ]at e2;omega
    simp only[w1,w5,w6,ax];refine Tot.ite (λe0=>Tot.chk ⟨aI,aI⟩ ?_) (λe0=>tag λrest h=>?_)
    ·rw[show(44:Int)=((44:UInt8).toNat:Int)from rfl];refine Tot.ite (λe1=>?_) (λe1=>tag λrest h=>?_)
     ·rw[xA,aH]at e1;refine(ih (s.length-(a+1)) aI (a+1) z aI hz ht).mono ?_;rintro v ⟨g1,g2⟩;refine⟨g1,λrest h1 h2 h3=>g2 rest h1 h2 ?_⟩;rcases h3 with⟨_,h3⟩|⟨t,r',rfl,h3⟩
      ·rw[hd0]at h3;cases rest with
       |nil=>cases h3
       | cons t r'=>rw[bG]at h3;exact .inr ⟨t,r',rfl,(jZ h3).2⟩
      ·exfalso;rw[hd0,e1]at h3;have htv:=(xk h1).2 t (dZ _ (aG ..));cases hq:ET t with
       |nil=>exact afQ t hq
       | cons b q=>rw[hq]at h3;have hb:(44:UInt8)=b:=(jZ h3).1;exact Px htv 44 (.inr rfl) (by rw[hq,hb];exact aG ..)
     ·rw[xA]at e1;rcases h with⟨_,h⟩|h
      ·exfalso;rw[hd0]at h;cases rest with
       |nil=>cases h
       | cons t r'=>rw[bG]at h;have hb:s.getD a 0=44:=(jZ h).1;rw[hb]at e1;exact aY e1 xR
      ·exact h
    ·have h0:a=0:=(by simp only[aQ]at e0;omega);rcases h with⟨h|h,h2⟩|h
     ·omega
     ·rw[h,hd0]at h2;cases h2
     ·exact h
   ·simp only[aQ]at e4;have:=(xk h1).1;rw[ay]at this;omega
  ·simp only[aQ]at e;have hd:s.drop a=[]:=aB aI;rw[hd]at h;rcases h with⟨_,h⟩|⟨t,r',_,h⟩
   ·exact ad2 h.symm
   ·exact aY (yS.1 h.symm).1 (afQ t)
 refine Tot.up ?_;simp only[G.jd];refine(L s.length 0 [] aI nV (λt h=>by cases h)).mono λv hv=>⟨hv.1,λl h1 h2=>hv.2 l h1 h2 ?_⟩;rw[iC,h2];cases l with
 |nil=>exact .inl ⟨.inr rfl,rfl⟩
 |cons t r=>exact .inr ⟨t,r,rfl,RP h1⟩
theorem T.lM {d:Nat}{n:au}(h:sF KY (d+1) n):Tot (λv:List di=>xh KY v/\∀p,n=Eb p->v=p) (λf=>G.lM f n):=by
 have hk:=h.kids;have hmx:KY=1048576:=rfl;have L:∀(k i:Nat) (z:List di),i+k=n.bC.length->z.length=i->(∀t,t∈z->t.length<=KY)->Tot (λv:List di=>xh KY v/\∀p,n=Eb p->z=p.take i->v=p) (λf=>G.lM.L1 f n (i:Int) z):=by
  intro k
  induction k with
  | zero=>intro i z hi hz ht;refine Tot.up ?_;simp only[G.lM.L1];refine Tot.cf (gW aI) (Tot.ret ⟨⟨aI,ht⟩,λp hn he=>?_⟩);rw[he,eU];rw[hn]at hi;simp[Eb]at hi;omega
  | succ k ih=>
    intro i z hi hz ht;have hil:i<n.bC.length:=(by omega);refine Tot.up ?_;simp only[G.lM.L1,ax,Gh i];refine Tot.ct (iH aI) (Tot.chk aI (Tot.chk aI ((ih (i+1) _ aI (by simp[hz]) (λt hm=>?_)).mono λv hv=>⟨hv.1,λp hn he=>hv.2 p hn ?_⟩)))
    ·rcases aS.1 hm with e|e
     ·exact ht t e
     ·rw[dL]at e;subst e;have:=h.kid hil;cases d with
      |zero=>exact this.elim
      |succ d=>exact this.1
    ·rw[hn]at hil⊢;have hip:i<p.length:=(by simpa[Eb]using hil);have:(Eb p).bC.getD i default=F8 (p.getD i default):=by
      show(p.map F8).getD i default=_;rw[lS _ (by simpa using hip),lS _ hip,Cj]
     rw[this,he];exact take_snoc (default:di) hip
 refine Tot.up ?_;simp only[G.lM];exact(L n.bC.length 0 [] aI rfl (λt h=>by cases h)).mono λv hv=>⟨hv.1,λp hn=>hv.2 p hn rfl⟩
theorem acC {o:o6}(h:PO o=true):Shape 6 (H7 o)=true:=by
 have hf:=uo h;have W:∀(d:Nat) {s:di},PT s=true->Shape (d+1) (F8 s)=true:=λd s hs=>by unfold Shape Parts;simp[F8,hs]
 have S:∀(d:Nat) {p:List di},PP p=true->Shape (d+2) (Eb p)=true:=λd p hp=>by unfold PP at hp;simp only[ah,aj,aN]at hp;unfold Shape Parts;simp only[Eb,List.all_map,kX,ah,aN];refine⟨by simp;omega,λs hs=>W d (hp.1 s hs)⟩
 have e:Shape 6 (H7 o)=(Parts (H7 o)&&(H7 o).bC.all (Shape 5)):=rfl;rw[e,ah];refine⟨?_,?_⟩
 ·unfold Parts;have:NM QY=true:=by decide
  simp only[H7,this];rfl
 ·show [Eb o.vg,F8 (FY.getD o.dH.toNat default),Eb o.uF,o.Value].all (Shape 5)=true;simp only[fF,yA,ah,and_true];refine⟨S 3 hf.from_,W 4 ?_,S 3 hf.path,uO hf.val⟩;rcases Vw hf with e|e|e|e|e|e<;>rw[e]<;>decide
theorem T.kK {d:Nat}{n:au}(h:sF KY (d+2) n):Tot (λv:o6×Bool=>(∃D,ED KY D v.1)/\∀o,PO o=true->Val (H7 o)=true->n=H7 o->v=(o,true)) (λf=>G.kK f n):=by
 have no:∃D,ED KY D (o6.mk 0 [] [] (au.mk 0 0 [] [] [])):=⟨1,⟨aJ _,λt h=>by cases h⟩,⟨aJ _,λt h=>by cases h⟩,zB _ _⟩;refine Tot.up ?_;simp only[G.kK];refine Tot.pR (T0.iU ahf h) (Tot.ite (λev=>Tot.ite (λe4=>Tot.ret ⟨no,λo _ _ hn=>?_⟩) (λe4=>Tot.ite (λek=>Tot.ret ⟨no,λo _ _ hn=>?_⟩) (λek=>Tot.pR (a:=FY) (dF ?_) ?_))) (λev=>Tot.ret ⟨no,λo _ hv hn=>?_⟩))
 ·rw[hn]at e4;exact aY e4 (by simp[H7])
 ·rw[hn]at ek;exact aY ek (by simp[H7])
 ·simp only[G.qM];exact jQ _
 ·have hl:n.bC.length=4:=by
   have:(n.bC.length:Int)=4:=(by simpa using ek);omega
  have kf:∀i,i<4->sF KY (d+1) (n.bC.getD i default):=λi hi=>h.kid aI;have L:∀(k i:Nat) (kd:Int),i+k=7->1<=i->Tot (λv:o6×Bool=>(∃D,ED KY D v.1)/\∀o,PO o=true->Val (H7 o)=true->n=H7 o->(o.dH.toNat<i->kd=o.dH)->v=(o,true)) (λf=>G.kK.L1 f n FY kd (i:Int)):=by
   intro k
   induction k with
   | zero=>
     intro i kd hi h1;refine Tot.up ?_;simp only[G.kK.L1];refine Tot.cf (gW (by show ¬(i:Int)<((7:Nat):Int);omega)) (Tot.chk aI (Tot.bind (T.lM (kf 2 aI)) ?_));rintro p2 ⟨f2,c2⟩;refine Tot.chk aI (Tot.bind (T.lM (kf 0 aI)) ?_);rintro p0 ⟨f0,c0⟩;refine Tot.chk aI (Tot.pR (T0.iT ahf (kf 3 aI)) ?_);have hfo:ED KY (d+1) (o6.mk kd p2 p0 (n.bC.getD 3 default)):=⟨f2,f0,kf 3 aI⟩;have eq:∀o,PO o=true->n=H7 o->(o.dH.toNat<i->kd=o.dH)->o6.mk kd p2 p0 (n.bC.getD 3 default)=o:=λo ho hn hkd=>by have hf:=uo ho;have k1:=hf.k1;have k6:=hf.k6;rw[c2 o.uF (by rw[hn];rfl),c0 o.vg (by rw[hn];rfl),hkd aI,hn];rfl
     refine Tot.pR (T0.oV ahf hfo) (Tot.ite (λeo=>Tot.pR (T.nY eo) ?_) (λeo=>Tot.ret ⟨no,λo ho _ hn hkd=>?_⟩))
     ·obtain⟨w,gw,hw⟩:=T.vM (acC eo) (uO ev);refine Tot.pR gw (Tot.ite (λes=>Tot.ret ⟨⟨_,hfo⟩,λo ho _ hn hkd=>?_⟩) (λes=>Tot.ret ⟨no,λo ho _ hn hkd=>?_⟩))
      ·rw[eq o ho hn hkd]
      ·have:=hw.2 (by rw[eq o ho hn hkd,hn]);rw[this]at es;cases es
     ·rw[eq o ho hn hkd,ho]at eo;cases eo
   | succ k ih=>
     intro i kd hi h1;refine Tot.up ?_;simp only[G.kK.L1,ax,Gh i];refine Tot.ct (iH (by show(i:Int)<((7:Nat):Int);omega)) (Tot.chk aI (Tot.chk (by show 0<=(i:Int)/\(i:Int)<((7:Nat):Int);omega) (Tot.ite (λe=>(ih (i+1) (i:Int) aI aI).mono λv hv=>⟨hv.1,λo ho hv' hn hkd=>hv.2 o ho hv' hn λhlt=>?_⟩) (λe=>(ih (i+1) kd aI aI).mono λv hv=>⟨hv.1,λo ho hv' hn hkd=>hv.2 o ho hv' hn λhlt=>?_⟩))))
     ·have hf:=uo ho;have k1:=hf.k1;have k6:=hf.k6;have:FY.getD o.dH.toNat default=FY.getD i default:=by
       rw[hn]at e;have e:FY.getD o.dH.toNat default=FY.getD i default:=beq_iff_eq.1 e;exact e
      have:=Xz _ aI _ aI this;omega
     ·have hf:=uo ho;have k1:=hf.k1;have k6:=hf.k6;refine hkd ?_;have:o.dH.toNat≠i:=λhe=>by
       rw[hn]at e;have e:FY.getD o.dH.toNat default≠FY.getD i default:=beq_eq_false_iff_ne.1 e;rw[he]at e;exact e rfl
      omega
  exact(L 6 1 0 aI aI).mono λv hv=>⟨hv.1,λo ho hv' hn=>hv.2 o ho hv' hn λhlt=>by have hf:=uo ho;have k1:=hf.k1;omega⟩
 ·rw[hn,hv]at ev;cases ev
theorem T.lC {s:di}(hl:s.length<=1000000):Tot (λv:List o6×Bool=>KD v.1/\∀l,II l=true->okO l=true->s=opsT l->v=(l,true)) (λf=>G.lC f s):=by
 have fin0:KD []:=⟨aJ _,λo h=>by cases h⟩;have L:∀(k:Nat) (s:di) (z:List o6),s.length=k->s.length<=1000000->z.length<=13->(∀o,o∈z->∃D,ED KY D o)->Tot (λv:List o6×Bool=>KD v.1/\∀l,II l=true->okO l=true->z.length<=l.length->z=l.take z.length->s=opsT (l.drop z.length)->v=(l,true)) (λf=>G.lC.L1 f s z):=by
  intro k
  induction k using fC with|_ k ih=>
  intro s z hk hl hz hf;have fz:KD z:=⟨aI,hf⟩;refine Tot.up ?_;simp only[G.lC.L1];refine Tot.ite (λe=>Tot.ite (λe12=>?_) (λe12=>Tot.ret ⟨fz,λl hp _ hzl _ _=>?_⟩)) (λe=>Tot.ret ⟨fz,λl _ _ hzl he hd=>?_⟩)
  ·have hal:0<s.length:=(by simp only[aj]at e;omega);have an9:z.length<=12:=(by simp only[aj]at e12;omega);refine Tot.bind (T.node 5 aI s 0 (aJ _) hl) ?_;rintro⟨m,q⟩⟨⟨b,bd,hb,_,hbl,_⟩,hfm,hall⟩;simp only at hb hfm;subst hb;have nxt:∀l,II l=true->okO l=true->z.length<=l.length->s=opsT (l.drop z.length)->z.length<l.length/\PO (l.getD z.length default)=true/\Val (H7 (l.getD z.length default))=true /\
    m=H7 (l.getD z.length default)/\bd=false/\s.drop b=59::opsT (l.drop (z.length+1)):=λl hp ho hzl hd=>by
    have hlt:z.length<l.length:=by
     rcases rQ z.length l.length with h|h
     ·exact h
     ·rw[aB h]at hd;have:s.length=0:=(by rw[hd];rfl);omega
    have hm:=getD_mem default hlt;have hv:Val (H7 (l.getD z.length default))=true:=by unfold okO at ho;exact aN.1 ho _ hm
    have hd2:s.drop 0=nS 5 (H7 (l.getD z.length default))++(59::opsT (l.drop (z.length+1))):=by rw[iC,hd,gQ default hlt];unfold opsT;rw[bG];unfold opP;simp
    have h1:=hall _ _ (uO hv) (MM rfl) hd2;simp only[aK]at h1;have h3:=h1.2;unfold XQ at h3
    injection h3 with _ h4 h5
    have h6:b=s.length-(59::opsT (l.drop (z.length+1))).length:=(by omega);refine⟨hlt,(Q7 hp).2 _ hm,hv,h1.1,h5,?_⟩;rw[h6];exact(I8 (aJ _) hd2).1
   refine Tot.bind (T.kK (d:=4) hfm) ?_;rintro⟨o,ko⟩⟨fo,co⟩;refine Tot.ite (λeb=>Tot.ret ⟨fin0,λl hp ho hzl _ hd=>?_⟩) (λeb=>Tot.ite (λe2=>Tot.pR (T.peek hbl hl) (Tot.ite (λe59=>Tot.ret ⟨fin0,λl hp ho hzl _ hd=>?_⟩) (λe59=>Tot.chk aI ?_))) (λe2=>Tot.ret ⟨fin0,λl hp ho hzl _ hd=>?_⟩))
   ·rw[(nxt l hp ho hzl hd).2.2.2.2.1]at eb;cases eb
   ·have:=uY (nxt l hp ho hzl hd).2.2.2.2.2;rw[this]at e59;simp at e59
   ·have e59:pk s b=59:=(by simpa using e59);have anW:=(IE (show pk s b≠0 by omega)).1;simp only[Gh b,ax];refine Tot.chk ⟨aI,aI,aI⟩ ((ih (s.length-(b+1)) aI (s.drop (b+1)) (z++[o]) (by rw[jk]) (by rw[jk];omega) (by simp;omega) (λx hx=>?_)).mono λv hv=>⟨hv.1,λl hp ho hzl he hd=>?_⟩)
    ·rcases aS.1 hx with e|e
     ·exact hf x e
     ·rw[dL]at e;subst e;exact fo
    ·obtain⟨n1,n2,n3,n4,_,n6⟩:=nxt l hp ho hzl hd;have hc:=co _ n2 n3 n4;simp only[aK]at hc;have hlen:(z++[o]).length=z.length+1:=(by simp);refine hv.2 l hp ho (by rw[hlen];omega) ?_ (by rw[hlen];exact(vk n6).2.2);rw[hlen,<- take_snoc default n1,<- he,<- hc.1]
   ·obtain⟨_,n2,n3,n4,_,_⟩:=nxt l hp ho hzl hd;have hc:=co _ n2 n3 n4;simp only[aK]at hc;rw[hc.2]at e2;cases e2
  ·simp only[aQ]at e12;have:=(Q7 hp).1;omega
  ·have hal:s.length=0:=(by simp only[aQ]at e;omega);have hd:opsT (l.drop z.length)=[]:=(by rw[<- hd];exact dN hal);have:l.length<=z.length:=by
    rcases rQ z.length l.length with h|h
    ·rw[gQ default h]at hd;unfold opsT at hd;rw[bG]at hd;exact aY (yS.1 hd).1 (afj _)
    ·exact h
   rw[eU this]at he;rw[he]
 refine Tot.up ?_;simp only[G.lC];exact(L s.length s [] rfl hl nV (λo h=>by cases h)).mono λv hv=>⟨hv.1,λl hp ho hs=>hv.2 l hp ho (aJ _) rfl (by simpa using hs)⟩
theorem T.oU {s:di}(hl:s.length<=1000000):Tot (λv:di×di=>v.1.length<=s.length/\v.2.length<=s.length/\∀a b,(32:UInt8) ∉ a->s=a++32::b->v=(a,b)) (λf=>G.oU f s):=by
 have L:∀(k i:Nat),i+k=s.length->Tot (λv:di×di=>v.1.length<=s.length/\v.2.length<=s.length/\∀a b,(32:UInt8) ∉ a->s=a++32::b->i<=a.length->v=(a,b)) (λf=>G.oU.L1 f s (i:Int)):=by
  intro k
  induction k with
  | zero=>intro i hi;refine Tot.up ?_;simp only[G.oU.L1];refine Tot.cf (gW aI) (Tot.ret ⟨ak _,aJ _,λa b _ hs hle=>?_⟩);have:=kZ kz hs;simp at this;omega
  | succ k ih=>
    intro i hi;have hil:i<s.length:=(by omega);refine Tot.up ?_;simp only[G.oU.L1,ax,Gh i];rw[show(32:Int)=((32:UInt8).toNat:Int)from rfl];have at_:∀a b,s=a++32::b->i<=a.length->(i<a.length->s.getD i 0∈a)/\(i=a.length->s.getD i 0=32):=λa b hs hle=>by
     constructor
     ·intro h;rw[lS (0:UInt8) hil];have:s[i]=a[i]:=by
       simp only[hs];rw[List.getElem_append_left h]
      rw[this];exact fU h
     ·intro h;subst h;rw[lS (0:UInt8) hil];simp only[hs];rw[List.getElem_append_right (ak _)];simp
    refine Tot.ct (iH aI) (Tot.chk ⟨aI,aI⟩ (Tot.ite (λe=>Tot.chk ⟨aI,aI,aI⟩ (Tot.chk ⟨aI,aI,aI⟩ (Tot.ret ⟨by rw[jc];omega,by rw[jk];omega,λa b ha hs hle=>?_⟩))) (λe=>(ih (i+1) aI).mono λv hv=>⟨hv.1,hv.2.1,λa b ha hs hle=>hv.2.2 a b ha hs ?_⟩)))
    ·rw[xA,aH]at e;obtain⟨h1,h2⟩:=at_ a b hs hle
     have:i=a.length:=by
      rcases rQ i a.length with h|h
      ·have:=h1 h;rw[e]at this;exact aY this ha
      ·omega
     subst this;rw[hs];refine pz ?_ ?_
     ·show(a++32::b).take a.length=a;simp
     ·show(a++32::b).drop (a.length+1)=b;simp
    ·rw[xA]at e;obtain⟨h1,h2⟩:=at_ a b hs hle
     have:i≠a.length:=λh=>(by rw[h2 h]at e;exact aY e xR);omega
 refine Tot.up ?_;simp only[G.oU];exact(L s.length 0 aI).mono λv hv=>⟨hv.1,hv.2.1,λa b ha hs=>hv.2.2 a b ha hs (aJ _)⟩
theorem T0.dA {B:Nat}{q:cZ}(hB:B<=lim)(h:Ns B q):Ev (λf=>G.dA f q) (wP q):=by
 cases e:Yf q with
 |true=>exact T.dA (Rl e)
 | false=>refine dF ?_;simp only[G.dA];exact aZ (T0.kC hB h) (mW e (bU (afY e).symm))
theorem T.gm (s:di):Tot (PR s) (λf=>G.gm f s):=by
 refine Tot.up ?_;simp only[G.gm];refine Tot.ite (λe=>Tot.ret (OJ λq _ h2 _=>by simp only[aj]at e;omega)) (λe=>?_);have hs2:s.length<=2000:=by simp only[aQ]at e;omega
 have hl:s.length<=1000000:=by omega
 refine Tot.bind (T.oU hl) ?_;rintro⟨w1,x1⟩⟨a1,b1,c1⟩;have a1:w1.length<=s.length:=a1;have b1:x1.length<=s.length:=b1;refine Tot.bind (T.oU (s:=x1) aI) ?_;rintro⟨w2,x2⟩⟨a2,b2,c2⟩;have a2:w2.length<=x1.length:=a2;have b2:x2.length<=x1.length:=b2;refine Tot.bind (T.oU (s:=x2) aI) ?_;rintro⟨w3,x3⟩⟨a3,b3,c3⟩;have a3:w3.length<=x2.length:=a3;have b3:x3.length<=x2.length:=b3;refine Tot.bind (T.oU (s:=x3) aI) ?_;rintro⟨w4,x4⟩⟨a4,b4,c4⟩;have a4:w4.length<=x3.length:=a4;have b4:x4.length<=x3.length:=b4;have words:∀q,s≠[]->wP q=s->w1=G6.getD q.gZ.toNat default/\w2=q.rW/\w3=DI q.xZ/\w4=DI q.tu/\x4=(if q.gZ=4 then opsT q.vZ else nS 5 q.Body):=λq h0 hw=>by
  have hne:wP q≠[]:=by rw[hw];exact h0
  obtain⟨o1,o2,o3,o4⟩:=Bj hne;have hr:=Uh o1;rw[hw]at o4;have e1:s=G6.getD q.gZ.toNat default++32::(q.rW++32::(DI q.xZ++32::(DI q.tu++32::(if q.gZ=4 then opsT q.vZ else nS 5 q.Body)))):=by rw[o4];unfold JE hdT;simp
  have h1:=c1 _ _ (afX hr) e1;simp only[aK]at h1;have h2:=c2 _ _ (afc hr.QU) h1.2;simp only[aK]at h2;have h3:=c3 _ _ (VT _) h2.2;simp only[aK]at h3;have h4:=c4 _ _ (VT _) h3.2;simp only[aK]at h4;exact⟨h1.1,h2.1,h3.1,h4.1,h4.2⟩
 refine Tot.pR (a:=G6) (dF ?_) ?_
 ·simp only[G.tY];exact jQ _
 have L:∀(k i:Nat) (m:Int),i+k=6->1<=i->Tot (λv:cZ×Bool=>(v.2=false->v.1=JG)/\(v.2=true->wP v.1=s/\s≠[]/\s.length<=2000)/\∀q,s≠[]->s.length<=2000->wP q=s->(q.gZ.toNat<i->m=q.gZ)->v=(q,true)) (λf=>G.gm.L1 f s (w1,x1) (w2,x2) (w3,x3) (w4,x4) G6 (i:Int) m):=by
  intro k
  induction k with
  | zero=>
    intro i m hi h1;have no:(∀q,s≠[]->s.length<=2000->wP q=s->(q.gZ.toNat<i->m=q.gZ)->False)->(λv:cZ×Bool=>(v.2=false->v.1=JG)/\(v.2=true->wP v.1=s/\s≠[]/\s.length<=2000)/\∀q,s≠[]->s.length<=2000->wP q=s->(q.gZ.toNat<i->m=q.gZ)->v=(q,true)) (JG,false):=
     λh=>⟨λ_=>rfl,λh=>(by cases h),λq g1 g2 g3 g4=>(h q g1 g2 g3 g4).elim⟩
    refine Tot.up ?_;simp only[G.gm.L1];refine Tot.cf (gW (by show ¬(i:Int)<((6:Nat):Int);omega)) (Tot.bind (T.jd (s:=w3) aI) ?_);rintro⟨p3,k3⟩⟨f3,d3⟩;refine Tot.bind (T.jd (s:=w4) aI) ?_;rintro⟨p4,k4⟩⟨f4,d4⟩;have mono:∀{l:List di},xh 60 l->xh 1048576 l:=λh=>⟨by have:=h.1;omega,λt ht=>by have:=h.2 t ht;omega⟩;have hd3:∀q,s≠[]->wP q=s->p3=q.xZ/\k3=true:=λq h0 hw=>by have:=d3 q.xZ (Uh (Bj (show wP q≠[] by rw[hw];exact h0)).1).want (words q h0 hw).2.2.1;simp only[aK]at this;exact this
    have hd4:∀q,s≠[]->wP q=s->p4=q.tu/\k4=true:=λq h0 hw=>by have:=d4 q.tu (Uh (Bj (show wP q≠[] by rw[hw];exact h0)).1).avoid (words q h0 hw).2.2.2.1;simp only[aK]at this;exact this
    have hmq:∀q,s≠[]->wP q=s->(q.gZ.toNat<i->m=q.gZ)->m=q.gZ:=λq h0 hw hm=>by have hr:=Uh (Bj (show wP q≠[] by rw[hw];exact h0)).1;have lo:=hr.lo;have hi':=hr.hi;exact hm aI
    have K:∀(ok:Bool) (n:au) (l:List o6),sF KY 6 n->KD l->(∀q,s≠[]->wP q=s->m=q.gZ->n=q.Body/\l=q.vZ/\ok=true) ->
     Tot (λv:cZ×Bool=>(v.2=false->v.1=JG)/\(v.2=true->wP v.1=s/\s≠[]/\s.length<=2000)/\∀q,s≠[]->s.length<=2000->wP q=s->(q.gZ.toNat<i->m=q.gZ)->v=(q,true))
      (λf=>G.gm.K2 f s (w2,x2) m (p3,k3) (p4,k4) ok n.dH n.ve n.oz n.dS n.bC l):=λok n l hn hL hq=>by
     refine Tot.up ?_;simp only[G.gm.K2,au.eta];have hFQ:Ns 1048576 (cZ.mk m w2 p3 p4 n l):=⟨by show w2.length<=_;omega,mono f3,mono f4,⟨6,hn⟩,hL⟩;have same:∀q,s≠[]->wP q=s->(q.gZ.toNat<i->m=q.gZ)->cZ.mk m w2 p3 p4 n l=q/\ok=true:=λq h0 hw hm=>by have h5:=hmq q h0 hw hm;obtain⟨h6,h7,h8⟩:=hq q h0 hw h5;refine⟨?_,h8⟩;rw[h5,(words q h0 hw).2.1,(hd3 q h0 hw).1,(hd4 q h0 hw).1,h6,h7]
     refine Tot.ite (λe3=>Tot.ite (λe4=>Tot.ite (λe1=>Tot.pR (T0.dA Vj hFQ) (Tot.ite (λe2=>Tot.ite (λe0=>Tot.ret (no λq g1 _ _ _=>?_)) (λe0=>Tot.ret ⟨λh=>(by cases h),λ_=>⟨by simpa using e2,by simpa using e0,hs2⟩,λq g1 _ g3 g4=>?_⟩)) (λe2=>Tot.ret (no λq g1 _ g3 g4=>?_)))) (λe1=>Tot.ret (no λq g1 _ g3 g4=>?_))) (λe4=>Tot.ret (no λq g1 _ g3 g4=>?_))) (λe3=>Tot.ret (no λq g1 _ g3 g4=>?_))
     ·exact g1 (by simpa using e0)
     ·rw[(same q g1 g3 g4).1]
     ·rw[(same q g1 g3 g4).1,g3]at e2;simp at e2
     ·rw[(same q g1 g3 g4).2]at e1;cases e1
     ·rw[(hd4 q g1 g3).2]at e4;cases e4
     ·rw[(hd3 q g1 g3).2]at e3;cases e3
    refine Tot.ite (λem=>Tot.bind (T.lC (s:=x4) aI) ?_) (λem=>Tot.bind (T.oQ (s:=x4) aI) ?_)
    ·rintro⟨l,kl⟩⟨fl,cl⟩;have em:m=4:=(by simpa using em);refine K kl (au.mk 0 0 [] [] []) l (zB _ _) fl (λq g1 g3 g4=>?_);obtain⟨o1,o2,o3,_⟩:=Bj (show wP q≠[] by rw[g3];exact g1);have hm4:q.gZ=4:=(by omega);have:=cl q.vZ (Uh o1).ops o3 (by rw[(words q g1 g3).2.2.2.2,aF hm4]);simp only[aK]at this;exact⟨(TN o1 o2 hm4).symm,this.1,this.2⟩
    ·rintro⟨n,kn⟩⟨fn,cn⟩;have em:m≠4:=(by simpa using em);refine K kn n [] fn ⟨aJ _,λo h=>by cases h⟩ (λq g1 g3 g4=>?_);obtain⟨o1,o2,o3,_⟩:=Bj (show wP q≠[] by rw[g3];exact g1);have hm4:q.gZ≠4:=(by omega);have:=cn q.Body (Uh o1).body aI (by rw[(words q g1 g3).2.2.2.2,ai hm4]);simp only[aK]at this;exact⟨this.1,(Xj o2 hm4).symm,this.2⟩
  | succ k ih=>
    intro i m hi h1;refine Tot.up ?_;simp only[G.gm.L1,ax,Gh i];refine Tot.ct (iH (by show(i:Int)<((6:Nat):Int);omega)) (Tot.chk (by show 0<=(i:Int)/\(i:Int)<((6:Nat):Int);omega) (Tot.ite (λe=>(ih (i+1) (i:Int) aI aI).mono λv hv=>⟨hv.1,hv.2.1,λq g1 g2 g3 g4=>hv.2.2 q g1 g2 g3 λhlt=>?_⟩) (λe=>(ih (i+1) m aI aI).mono λv hv=>⟨hv.1,hv.2.1,λq g1 g2 g3 g4=>hv.2.2 q g1 g2 g3 λhlt=>?_⟩)))
    ·have hr:=Uh (Bj (show wP q≠[] by rw[g3];exact g1)).1;have lo:=hr.lo;have hi':=hr.hi;have e:G6.getD i default=w1:=(by simpa using e);rw[(words q g1 g3).1]at e;have:=X3 _ aI _ aI e;omega
    ·have hr:=Uh (Bj (show wP q≠[] by rw[g3];exact g1)).1;have lo:=hr.lo;have hi':=hr.hi;refine g4 ?_;have e:G6.getD i default≠w1:=(by simpa using e);rw[(words q g1 g3).1]at e;have:q.gZ.toNat≠i:=λhe=>(by rw[he]at e;exact e rfl);omega
 exact(L 5 1 0 aI aI).mono λv hv=>⟨hv.1,hv.2.1,λq g1 g2 g3=>hv.2.2 q g1 g2 g3 λhlt=>by have hr:=Uh (Bj (show wP q≠[] by rw[g3];exact g1)).1;have lo:=hr.lo;omega⟩
theorem T.YW {q:cZ}(h:Ns 1048576 q):Ev (λf=>G.pI f q q) true:=by obtain⟨D,hd⟩:=h.body;obtain⟨D',_,ho⟩:=ED.all 0 h.ops.2;refine dF ?_;simp only[G.pI];exact mW nV (mF nV (aZ (T.Qv (dR h.want.1 Vj)) (mF rfl (aZ (T.Qv (dR h.avoid.1 Vj)) (mF rfl (aZ (T.YV Vj hd) (mF rfl (aZ (T.akg Vj (dR h.ops.1 Vj) ho) (mF rfl (jQ _))))))))))
structure ail (q:cZ):Prop where
 f:Ns 1048576 q
 k:rqc q<=900001000
theorem ahy {q:cZ}(h:Yf q=true):ail q:=by have hf:=Uh h;have h1:=(xk hf.want).1;have h2:=(xk hf.avoid).1;have h3:=abg hf.body;have h4:=(afp hf.ops).k;exact⟨(Rl h).fin.mono aI,by unfold rqc;omega⟩
theorem adn : ail JG:=⟨⟨aJ _,⟨aJ _,λs h=>by cases h⟩,⟨aJ _,λs h=>by cases h⟩,⟨5,QW.f.mono aI (ak _)⟩,⟨aJ _,λo h=>by cases h⟩⟩,by have:=QW.k;unfold rqc JG;simp only[vX,fB];have e:XO (au.mk 0 0 [] [] [])<=400:=this;omega⟩
theorem ajj {s:di}{v:cZ×Bool}(h:PR s v):ail v.1:=by
 obtain⟨q,b⟩:=v;cases b with
 |false=>rw[show q=JG from h.no rfl];exact adn
 | true=>obtain⟨h1,h2,_⟩:=h.yes rfl;exact ahy (Bj (by rw[show wP q=s from h1];exact h2)).1
end Go.Ab
section
namespace Go.Proofs
open Go.RowKit Go.Shelf
attribute [local go_sem] Oper.semAt_some
inductive Wds : ByteArray->List ByteArray->Prop
 |last (s:ByteArray) (h:eG s.data.toList 44<0):Wds s [s]
 |more (s:ByteArray) (i:Nat) (ws:List ByteArray) (h:eG s.data.toList 44=i) (t:Wds (s.extract (i+1) s.size) ws):Wds s (s.extract 0 i::ws)
def strLen (W:World)(b:Nat):Nat:=match W.cell? ⟨b,0,none⟩with
 |some (.string s)=>s.size
 |_=>0
theorem QL : ∀(l:List UInt8) (c:UInt8) (i:Nat),eG l c=i->i<l.length
 |[],c,i,h=>by simp[eG]at h
 | b::l,c,i,h=>by
   unfold eG at h;split at h
   ·have:i=0:=(by omega);subst this;simp
   ·split at h
    ·omega
    ·rename_i h1 h2;have h2:¬eG l c = -1:=(by simpa using h2);have h3:=Ar l c;have:=QL l c (i-1) (by omega);simp only[dW];omega
theorem Uw {x:Int}(h0:0<=x)(h1:x<9223372036854775808):wrap64 x=x:=by unfold wrap64;omega
theorem KJ {W W':World}{b:Nat}(h:W'.heap[b]? = W.heap[b]?):W'.cell? ⟨b,0,none⟩=W.cell? ⟨b,0,none⟩/\W'.frozen? ⟨b,0,none⟩=W.frozen? ⟨b,0,none⟩:=
 ⟨World.cell?_of_block h,World.frozen?_of_block h⟩
theorem Us {W:World}{b:Nat}{s:ByteArray}(h:W.cell? ⟨b,0,none⟩=some (.string s)):strLen W b=s.size:=by unfold strLen;rw[h]
theorem ak6 {ρ:Go.Shelf.Ren}(L:Lays.n143 Tryz.prog ρ)(n:Nat)(hn:1<=n)(hf:ρ.f 143=140)(l bp bs bv:Nat)(s:ByteArray)(ws:List ByteArray)(hw:Wds s ws)(hz:s.size<=1000000)(J Jx:List ByteArray->World->Prop)
 (hJ:∀pre (W:World) (v:Value),J pre W->W.frozen? ⟨bs,0,none⟩=false->J pre (W.setCell ⟨bs,0,none⟩ v))
 (hY:∀pre x W,J pre W->pre.length<ws.length->YieldAt kQ (n-1) Tryz.prog l #[.string x] W λe W'=>(e = .returned (.bool true)/\J (pre++[x]) W'/\(∀b,b=bp\/b=bs\/b=bv->W'.heap[b]? = W.heap[b]?))\/(e = .returned (.bool false)/\Jx (pre++[x]) W'))
 (W:World) (hd:bs≠bp/\bs≠bv) (hp:W.cell? ⟨bp,0,none⟩=some (.string ⟨#[44]⟩)) (hs:W.cell? ⟨bs,0,none⟩=some (.string s)) (hsf:W.frozen? ⟨bs,0,none⟩=false) (hv:W.cell? ⟨bv,0,none⟩=some (.int .i64 0)) (h0:J [] W) :
 CallsIn kQ n Tryz.prog 178 #[.func (.yield l) #[] #[],.pointer (some ⟨bp,0,none⟩),.pointer (some ⟨bs,0,none⟩),.pointer (some ⟨bv,0,none⟩)] W λe W'=>(∃v,e = .returned v) /\
  (J ws W'\/(∃pre,pre <+: ws/\Jx pre W')):=by
 refine callsIn_of_wp Tryz.func178 rfl trivial ?_ rfl;simp only[Tryz.ntmps178,jP,dW,fB,Nat.reduceAdd,Nat.reduceSub,wV,wW,yt,xu,ja,eH];have hIdx:∀(s:ByteArray) (n:Nat) (w:World),CallsIn kQ n Tryz.prog 140 #[.string s,.string ⟨#[44]⟩] w λe w'=>e = .returned (.int .i64 (eG s.data.toList 44))/\w'=w:=λs n w=>by have:=Any.strings_Index_one L s 44 w;rw[hf]at this;exact callsIn_wide.2 this
 gi_wp2
 gi_loopw [] (λwr=>∃(pre rest:List ByteArray) (s':ByteArray),ws=pre++rest/\Wds s' rest/\s'.size<=1000000/\wr.cell? ⟨bp,0,none⟩=some (.string ⟨#[44]⟩)/\wr.cell? ⟨bs,0,none⟩=some (.string s')/\wr.frozen? ⟨bs,0,none⟩=false/\wr.cell? ⟨bv,0,none⟩=some (.int .i64 0)/\J pre wr)
  (λwr=>strLen wr bs)
 case atStart=>exact⟨[],ws,s,rfl,hw,hz,hp,hs,hsf,hv,h0⟩
 case round=>
  obtain⟨pre,rest,s',hx,hwd,hz',hp',hs',amb,hv',hJs⟩:=hrel;cases hwd with
  | last _ h=>
    obtain⟨fn,tmps,assign,body,hy,hR⟩:=hY pre s' wr hJs (by rw[hx];simp)
    gi_wp2_with (refine⟨trivial,?_⟩;gi_at_call 140;refine(hIdx _ _ _).mono ?_;rintro e w' ⟨rfl,rfl⟩)
    refine hR.mono ?_;rintro e W3 (⟨rfl,hJ3,hk3⟩|⟨rfl,hJx3⟩)
    ·gi_wp2
     go_end0
     exact⟨⟨_,rfl⟩,.inl (by rw[hx];exact hJ3)⟩
    ·gi_wp2
     go_end0
     exact⟨⟨_,rfl⟩,.inr ⟨pre++[s'],by rw[hx];exact List.prefix_rfl,hJx3⟩⟩
  | more _ i ws' h t=>
    have hlt:i<s'.size:=QL _ _ _ h;have e1:wrap64 (i:Int)=i:=Uw (by omega) (by omega);have e2:wrap64 ((i:Int)+1)=i+1:=Uw (by omega) (by omega);have b0:0<=wrap64 (i:Int):=(by omega);have b1:wrap64 (i:Int)<=s'.size:=(by omega);have c0:0<=wrap64 ((i:Int)+1):=(by omega);have c1:wrap64 ((i:Int)+1)<=s'.size:=(by omega);obtain⟨fn,tmps,assign,body,hy,hR⟩:=hY pre (s'.extract 0 i) wr hJs (by rw[hx];simp)
    gi_wp2_with (refine⟨trivial,?_⟩;gi_at_call 140;refine(hIdx _ _ _).mono ?_;rintro e w' ⟨rfl,rfl⟩)
    refine hR.mono ?_;rintro e W3 (⟨rfl,hJ3,hk3⟩|⟨rfl,hJx3⟩)
    ·have kp:=KJ (hk3 bp (.inl rfl));have ks:=KJ (hk3 bs (.inr (.inl rfl)));have kv:=KJ (hk3 bv (.inr (.inr rfl)));rw[hp']at kp;rw[hs',amb]at ks;rw[hv']at kv;have hp3:=kp.1;have hs3:=ks.1;have hf3:=ks.2;have hv3:=kv.1;have hd1:=hd.1;have hd2:=hd.2
     gi_wp2
     have hsame:=World.cell?_setCell_same W3 ⟨bs,0,none⟩ (qi (s'.extract (i+1) s'.size)) hs3;refine⟨⟨pre++[s'.extract 0 i],ws',_,by rw[hx];simp,t,by rw[nZ];omega,?_,hsame,by rw[World.frozen?_setCell];exact hf3,?_,hJ _ _ _ hJ3 hf3⟩,?_⟩
     ·rw[World.cell?_setCell_other _ _ _ _ (λh=>hd1 (congrArg Addr.block h))];exact hp3
     ·rw[World.cell?_setCell_other _ _ _ _ (λh=>hd2 (congrArg Addr.block h))];exact hv3
     ·rw[Us hsame,Us hs',nZ];omega
    ·gi_wp2
     refine bodyPost_ret (results_none rfl _ _ _) rfl ?_;exact⟨⟨_,rfl⟩,.inr ⟨pre++[s'.extract 0 i],⟨ws',by rw[hx];simp⟩,hJx3⟩⟩
theorem ajt (n:Nat)(hn:1<=n)(s sep:ByteArray)(W:World):CallsIn kQ n Tryz.prog 90 #[.string s,.string sep] W λe W'=>
 e = .returned (.func (.func 178) #[] #[.pointer (some ⟨W.heap.size+1,0,none⟩),.pointer (some ⟨W.heap.size,0,none⟩),.pointer (some ⟨W.heap.size+2,0,none⟩)]) /\
 W'=(((W.alloc (.cells #[.string s] 9)).alloc (.cells #[.string sep] 9)).alloc (.cells #[.int .i64 0] 3)):=by
 have alR:∀n,CallsIn kQ n Tryz.prog 141 #[.string s,.string sep,.int .i64 0] W λe W'=>
  e = .returned (.func (.func 178) #[] #[.pointer (some ⟨W.heap.size+1,0,none⟩),.pointer (some ⟨W.heap.size,0,none⟩),.pointer (some ⟨W.heap.size+2,0,none⟩)]) /\
  W'=(((W.alloc (.cells #[.string s] 9)).alloc (.cells #[.string sep] 9)).alloc (.cells #[.int .i64 0] 3)):=λn=>by
  refine callsIn_of_wp Tryz.func141 rfl trivial ?_ rfl;simp only[Tryz.ntmps141,jP,dW,fB,Nat.reduceAdd,Nat.reduceSub,wV,wW,yt,xu,ja,eH]
  gi_wp2
  go_ret
  exact⟨rfl,rfl⟩
 refine callsIn_of_wp Tryz.func90 rfl trivial ?_ rfl;simp only[Tryz.ntmps90,jP,dW,fB,Nat.reduceAdd,Nat.reduceSub,wV,wW,yt,xu,ja,eH]
 gi_wp2_with (refine⟨trivial,?_⟩;gi_at_call 141;refine(alR _).mono ?_;rintro e w' ⟨rfl,rfl⟩)
 go_ret
 exact⟨rfl,rfl⟩
section
variable {P:Program} {n:Nat}
theorem Ug {l D:Nat}{r:Loop}{W0 W3:World}(jump:Option Code)(hne:l≠D)(hl:W0.heap[l]? = some (.loop r))(hd:W0.heap[D]? = some (.deferred (some [])))(hk:KeepsOthers W0 W3) :
 (Instr.endRound l jump).run P W3 = .ok (.bool jump.isNone) (W3.putObj l (.loop { r with state:=if jump.isNone then .ready else .done,pending:=jump }))/\W3.heap[l]? = some (.loop r) /\
 (W3.putObj l (.loop { r with state:=if jump.isNone then .ready else .done,pending:=jump })).heap[l]? = some (.loop { r with state:=if jump.isNone then .ready else .done,pending:=jump }) /\
 (W3.putObj l (.loop { r with state:=if jump.isNone then .ready else .done,pending:=jump })).heap[D]? = some (.deferred (some [])):=by
 have h3:=hk.same _ _ hl rfl;exact⟨run_endRound jump h3,h3,World.putObj_heap_same (dm.1 h3).1,(qy (λe=>hne e.symm)).trans (hk.same _ _ hd rfl)⟩
def Zj (Kp:World->World->Prop)(I Ix:List ByteArray->World->Prop)(xs:List ByteArray)(W:World):Exit->Act->World->Prop
 |.normal,_,W'=>KeepsOthers W W'/\Kp W W'/\I xs W'
 |.ret,_,W'=>KeepsOthers W W'/\Ix xs W'
 |_,_,_=>False
theorem aht {g:Operand}{p:Tmp}{assign body:Code}{Q:Exit->Act->World->Prop}{a:Act}{w:World}(h1:1<=n){gf:Nat}{lb:Array Value}(hg:a.eval g = .func (.func gf) #[] lb)
 (eg:∀args w,(callFunc gf args).run P w = .ok (.enter gf args) w) (b:Nat) (hb:b<w.heap.size) (ws:List ByteArray) (Kp:World->World->Prop)
 (hKt:∀{A B C:World},Kp A B->Kp B C->Kp A C) (hKp:∀(W:World) (l:Nat) (o:Obj),w.heap.size<=l->Kp W (W.putObj l o))
 (hseq:∀(l:Nat) (J Jx:List ByteArray->World->Prop) (W:World),(∀k,k<w.heap.size->W.heap[k]? = w.heap[k]?)->(∀pre (W:World) (v:Value),J pre W->J pre (W.setCell ⟨b,0,none⟩ v)) ->
  (∀pre x W,J pre W->pre.length<ws.length->YieldAt kQ (n-1-1) P l #[.string x] W λe W'=>(e = .returned (.bool true)/\J (pre++[x]) W'/\Kp W W')\/(e = .returned (.bool false)/\Jx (pre++[x]) W')) ->
  J [] W->CallsIn kQ (n-1) P gf (#[.func (.yield l) #[] #[]]++lb) W λe W'=>(∃v,e = .returned v)/\(J ws W'\/∃pre,pre <+: ws/\Jx pre W'))
 (I Ix:List ByteArray->World->Prop) (hI:OwnFrom w.heap.size I) (hIx:OwnFrom w.heap.size Ix) (hIb:∀pre (W:World) (v:Value),I pre W->I pre (W.setCell ⟨b,0,none⟩ v)) (h0:I [] w) (a₁:ByteArray->Act)
 (hassign:∀(l:Nat) (x:ByteArray) (W:World) (K:Act->World->Prop),K (a₁ x) W->assign.wpIn (kQ.inRound l) (n-1-1) P (Exit.then K (λ_ _ _=>False)) { tmps:=a.tmps.setIfInBounds p (.string x),defers:=[] } W)
 (hbody:∀(l:Nat) (pre:List ByteArray) (x:ByteArray) (W:World),I pre W->pre.length<ws.length->body.wpIn (kQ.inRound l) (n-1-1) P (Zj Kp I Ix (pre++[x]) W) (a₁ x) W)
 (hdone:∀(D:Nat) (W:World),w.heap.size<=D->I ws W->W.heap[D]? = some (.deferred (some []))->Q .normal { a with defers:={ target:=.collected D,args:= #[] } :: a.defers } W)
 (hstop:∀(D:Nat) (pre:List ByteArray) (W:World),w.heap.size<=D->pre <+: ws->Ix pre W->W.heap[D]? = some (.deferred (some []))->Code.ret.wpIn kQ n P Q { a with defers:={ target:=.collected D,args:= #[] } :: a.defers } W) :
 (Code.rangeFunc g #[p] assign body).wpIn kQ n P Q a w:=by
 refine wpIn_rangeFunc λfn hfn=>?_
 let D:=w.heap.size
 let l:=w.heap.size+1
 let SG (st:LoopState) (pe:Option Code):Loop:={ state:=st,pending:=pe,fn,tmps:=a.tmps,params:= #[p],assign,body,defers:=D }
 let W1:=(w.alloc (.deferred (some []))).alloc (.loop (SG .ready none))
 have hlD:l≠D:=Nat.succ_ne_self _;have hL:W1.heap[l]? = some (.loop (SG .ready none)):=by have:=World.alloc_heap_new (w.alloc (.deferred (some []))) (.loop (SG .ready none));rwa[pJ]at this
 have hD:W1.heap[D]? = some (.deferred (some [])):=(Below.heap_alloc _ _ _ (by simp[D])).trans (World.alloc_heap_new w _);have hlow:∀k,k<w.heap.size->W1.heap[k]? = w.heap[k]?:= λk hk=>(Below.heap_alloc _ _ _ (by simp;omega)).trans (Below.heap_alloc _ _ _ hk);refine⟨l,[{ target:=.collected D,args:= #[] }],W1,{ target:=.fn (.func gf) lb,args:= #[.func (.yield l) #[] #[]] },W1,gf,#[.func (.yield l) #[] #[]]++lb,W1,run_enterLoop_outer _ _ _ _ _,?_,λf' _=>trivial,?_,λ_=>h1,?_⟩
 ·simp only[resolve,hg];simp[go_sem]
 ·simp[invoke,go_sem,eg]
 refine(hseq l (λpre W=>I pre W/\W.heap[l]? = some (.loop (SG .ready none))/\W.heap[D]? = some (.deferred (some [])))
  (λpre W=>Ix pre W/\W.heap[l]? = some (.loop (SG .done (some .ret)))/\W.heap[D]? = some (.deferred (some []))) W1 hlow ?_ ?_ ⟨hI.alloc _ (hI.alloc _ h0),hL,hD⟩).mono ?_
 ·rintro pre W v ⟨hi,hl,hd⟩;exact⟨hIb _ _ _ hi,(Below.heap_setCell W _ v l (by show l≠b;omega)).trans hl,(Below.heap_setCell W _ v D (by show D≠b;omega)).trans hd⟩
 ·rintro pre x W ⟨hi,hl,hd⟩ hlen;have hy:=run_yield (P:=P) (args:= #[.string x]) hl rfl;refine⟨fn,_,assign,body,hy,roundIn_of_wpIn hfn ?_⟩;have e1:((#[p]:Array Tmp).zip #[qi x]).foldl (λtmps (t,a)=>tmps.setIfInBounds t a) a.tmps=a.tmps.setIfInBounds p (.string x):=by simp
  show Code.wpIn _ _ _ _ _ { tmps:=((#[p]:Array Tmp).zip #[qi x]).foldl (λtmps (t,a)=>tmps.setIfInBounds t a) a.tmps,defers:=[] } W;rw[e1];refine hassign _ x W _ ⟨_,run_beginRound hl rfl,?_⟩;have hl2:(W.putObj l (.loop { SG .ready none with state:=.busy })).heap[l]? = some (.loop { SG .ready none with state:=.busy }):=World.putObj_heap_same (dm.1 hl).1;have hd2:(W.putObj l (.loop { SG .ready none with state:=.busy })).heap[D]? = some (.deferred (some [])):=(qy (λe=>hlD e.symm)).trans hd;refine wpIn_mono (hbody _ pre x _ (hI.putObj _ hi (sH _) hl rfl) hlen) ?_;rintro e a3 W3 hp;cases e with
  | normal=>obtain⟨k3,q3,i3⟩:=hp;obtain⟨hr,h3,h4,h5⟩:=Ug (P:=P) none hlD hl2 hd2 k3;exact⟨_,_,hr,.inl ⟨rfl,⟨hI.putObj _ i3 (sH _) h3 rfl,h4,h5⟩,hKt (hKt (hKp _ _ _ (sH _)) q3) (hKp _ _ _ (sH _))⟩⟩
  | ret=>obtain⟨k3,i3⟩:=hp;obtain⟨hr,h3,h4,h5⟩:=Ug (P:=P) (some .ret) hlD hl2 hd2 k3;exact⟨_,_,hr,.inr ⟨rfl,hIx.putObj _ i3 (sH _) h3 rfl,h4,h5⟩⟩
  |exit id=>exact hp.elim
  |goto t=>exact hp.elim
  |panic ch=>exact hp.elim
  |outgrown=>exact hp.elim
 ·rintro e W2 ⟨⟨v,rfl⟩,(⟨hi,hl,hd⟩|⟨pre,hpre,hi,hl,hd⟩)⟩
  ·exact⟨none,_,run_endLoop hl (by simp[SG]),hdone D _ (ak _) (hI.putObj _ hi (sH _) hl rfl) ((qy (λe=>hlD e.symm)).trans hd)⟩
  ·exact⟨some .ret,_,run_endLoop hl (by simp[SG]),hstop D pre _ (ak _) hpre (hIx.putObj _ hi (sH _) hl rfl) ((qy (λe=>hlD e.symm)).trans hd)⟩
end
def Ef (sv:ByteArray->Bool)(x:ByteArray):Option ByteArray:=
 if x.toList=[42]then some x else if x.size=6/\x.toList.getD 0 0=34/\x.toList.getD 5 0=34/\sv (x.extract 1 5)=true then some (x.extract 1 5)else none
def zY (sv:ByteArray->Bool)(acc:Option (List ByteArray))(x:ByteArray):Option (List ByteArray):=
 acc.bind λl=>if l.length=4 then none else(Ef sv x).map λy=>l++[y]
def col (sv:ByteArray->Bool)(ws:List ByteArray):Option (List ByteArray):=ws.foldl (zY sv) (some [])
theorem WJ (sv:ByteArray->Bool)(ws:List ByteArray)(x:ByteArray):col sv (ws++[x])=zY sv (col sv ws) x:=by unfold col;rw[BJ];rfl
theorem ad1 (sv:ByteArray->Bool)(pre:List ByteArray)(h:col sv pre=none):∀(ws:List ByteArray),pre <+: ws->col sv ws=none:=by
 rintro ws ⟨t,rfl⟩;unfold col at h⊢;rw[BJ,h]
 induction t with
 |nil=>rfl
 |cons a t ih=>exact ih
theorem aas (sv:ByteArray->Bool)(ws:List ByteArray)(l:List ByteArray)(h:col sv ws=some l):l.length<=4:=by
 have key:∀(ws:List ByteArray) (a l:List ByteArray),a.length<=4->ws.foldl (zY sv) (some a)=some l->l.length<=4:=by
  intro ws
  induction ws with
  |nil=>intro a l ha h;cases h;exact ha
  | cons x ws ih=>
    intro a l ha h;rw[qj]at h;cases hs:zY sv (some a) x with
    | none=>
      rw[hs]at h;have:∀ws:List ByteArray,ws.foldl (zY sv) none=none:=λws=>by
       induction ws with
       |nil=>rfl
       |cons y ws ih=>exact ih
      rw[this]at h;cases h
    | some b=>
      rw[hs]at h;refine ih b l ?_ h;unfold zY at hs;simp only[ou]at hs;split at hs
      ·cases hs
      ·obtain⟨y,_,rfl⟩:=bY.1 hs;simp;omega
 exact key ws [] l (by simp) h
def afw (sv:ByteArray->Bool)(s:ByteArray)(ws:List ByteArray)(w:World)(e:Ending)(W':World):Prop:=
 ∃v l ok,e = .returned (.tuple #[v,.bool ok])/\W'.ownsRow w.heap.size 9 1 v l.length (l.map qi)/\Below w.heap.size w W'/\(if s.toList=[]then some []else col sv ws)=(if ok then some l else none)/\(ok=false->l=[])
structure PTI (w W:World)(acc:List ByteArray)(v:Value):Prop where
 box:Boxed W (w.heap.size+1+1) 25 v
 row:W.ownsRow (w.heap.size+6) 9 1 v acc.length (acc.map qi)
 b0:Boxed W w.heap.size 25 (.slice none 0 0)
 b1:Boxed W (w.heap.size+1) 4 (.bool false)
 bel:Below w.heap.size w W
 siz:w.heap.size+6<=W.heap.size
theorem afC {W W2:World}{base:Nat}{e:TypeId}{size:Nat}{v:Value}{k:Nat}{xs:List Value}(h:W.ownsRow base e size v k xs)(hg:W.grownBy W2 none):W2.ownsRow base e size v k xs:=
 h.kept hg (by cases hv:v.ownBlock with|none=>exact .inl rfl|some x=>exact .inr (by simp))
theorem JR {W:World}{base:Nat}{e:TypeId}{size:Nat}{v:Value}{k:Nat}{xs:List Value}(h:W.ownsRow base e size v k xs){b:Nat}(hb:b<base)(u:Value):(W.setCell ⟨b,0,none⟩ u).ownsRow base e size v k xs:=by
 refine h.kept (grownBy_setCell' W b u) ?_;rcases h.2 with⟨rfl,_⟩|⟨g,cap,cur,rfl,hg,_⟩
 ·exact .inl rfl
 ·refine .inr λe=>?_;have:g=b:=by simpa[qG]using e
  omega
theorem PTI.kept {w W W2:World}{acc:List ByteArray}{v:Value}(h:PTI w W acc v)(hg:W.grownBy W2 none):PTI w W2 acc v:=
 ⟨h.box.kept hg (by simp),afC h.row hg,h.b0.kept hg (by simp),h.b1.kept hg (by simp),h.bel.grown hg h.bel.size (λk e=>by cases e),dR h.siz hg.size⟩
theorem PTI.ret {w W:World}{acc:List ByteArray}{v:Value}(h:PTI w W acc v):KeepsOthers W ((W.setCell ⟨w.heap.size,0,none⟩ (.slice none 0 0)).setCell ⟨w.heap.size+1,0,none⟩ (.bool false)) /\
 Boxed ((W.setCell ⟨w.heap.size,0,none⟩ (.slice none 0 0)).setCell ⟨w.heap.size+1,0,none⟩ (.bool false)) w.heap.size 25 (.slice none 0 0) /\
 Boxed ((W.setCell ⟨w.heap.size,0,none⟩ (.slice none 0 0)).setCell ⟨w.heap.size+1,0,none⟩ (.bool false)) (w.heap.size+1) 4 (.bool false) /\
 Below w.heap.size w ((W.setCell ⟨w.heap.size,0,none⟩ (.slice none 0 0)).setCell ⟨w.heap.size+1,0,none⟩ (.bool false)):=
 ⟨(vI _ _ _).trans (vI _ _ _),(h.b0.set _).other (by omega) _,(h.b1.other (by omega) _).set _,(h.bel.setCell (p:=⟨w.heap.size,0,none⟩) (ak _) _).setCell (p:=⟨w.heap.size+1,0,none⟩) (by simp) _⟩
theorem PTI.app {w W w1:World}{acc:List ByteArray}{v v':Value}{y:ByteArray}{tmp:Obj}(h:PTI w W acc v)(hown:w1.ownsRow (w.heap.size+6) 9 1 v' (acc.length+1) (acc.map qi++[.string y]))(hg:(W.alloc tmp).grownBy w1 v.ownBlock) :
 Boxed w1 (w.heap.size+1+1) 25 v/\PTI w (w1.setCell ⟨w.heap.size+1+1,0,none⟩ v') (acc++[y]) v'/\KeepsOthers W (w1.setCell ⟨w.heap.size+1+1,0,none⟩ v') /\
 (∀k,k=w.heap.size+1+1+1+1\/k=w.heap.size+1+1+1\/k=w.heap.size+1+1+1+2->(w1.setCell ⟨w.heap.size+1+1,0,none⟩ v').heap[k]? = W.heap[k]?):=by
 have hlow:∀j,j<w.heap.size+6->some j≠v.ownBlock:=λj hj e=>by
  rcases h.row.2 with⟨rfl,_⟩|⟨g,cap,cur,rfl,hgg,_⟩
  ·simp[qG]at e
  ·have:j=g:=(by simpa[qG]using e);omega
 obtain⟨a1,a2,a3,a4,a5⟩:=h.box.appended (n₀:=w.heap.size) (by decide) (h.row.mono (by omega)) h.bel.size (by omega) (hown.mono (by omega)) hg;have hsz:=hg.size;rw[pJ]at hsz;have an6:=h.siz;have kb:∀{b:Nat} {t:TypeId} {u:Value},Boxed W b t u->b<w.heap.size+6->Boxed w1 b t u:=λhb hlt=>(hb.alloc tmp).kept hg (hlow _ hlt);refine⟨a1,⟨a2,by rw[ay,dJ,rH];exact JR hown (by omega) _,(kb h.b0 (by omega)).other (by omega) _,(kb h.b1 (by omega)).other (by omega) _,h.bel.trans a5,?_⟩,a4,λk hk=>?_⟩
 ·have:(w1.setCell ⟨w.heap.size+1+1,0,none⟩ v').heap.size=w1.heap.size:=by simp[rf]
  rw[this];omega
 ·rw[Below.heap_setCell _ _ _ _ (by show k≠w.heap.size+1+1;omega)];rw[hg.block k (by rw[pJ];omega) (hlow k (by omega))];exact Below.heap_alloc _ _ _ (by omega)
theorem LU {sv:ByteArray->Bool}{pre acc:List ByteArray}{x:ByteArray}(hc:col sv pre=some acc)(h:acc.length=4\/Ef sv x=none):col sv (pre++[x])=none:=by
 rw[WJ,hc];unfold zY;simp only[ou];rcases h with h|h
 ·rw[if_pos h]
 ·rw[h];split<;>rfl
theorem WI {sv:ByteArray->Bool}{pre acc:List ByteArray}{x y:ByteArray}(hc:col sv pre=some acc)(h:¬acc.length=4)(hw:Ef sv x=some y):col sv (pre++[x])=some (acc++[y]):=by rw[WJ,hc];unfold zY;simp only[ou];rw[if_neg h,hw];rfl
def KPT (w A B:World):Prop:=∀k,k=w.heap.size+1+1+1+1\/k=w.heap.size+1+1+1\/k=w.heap.size+1+1+1+2->B.heap[k]? = A.heap[k]?
def PTJ (sv:ByteArray->Bool)(w:World)(pre:List ByteArray)(W:World):Prop:=∃acc v,col sv pre=some acc/\PTI w W acc v
def PTX (sv:ByteArray->Bool)(w:World)(pre:List ByteArray)(W:World):Prop:=col sv pre=none/\Boxed W w.heap.size 25 (.slice none 0 0)/\Boxed W (w.heap.size+1) 4 (.bool false)/\Below w.heap.size w W
theorem PTX.mk {sv:ByteArray->Bool}{w W:World}{pre acc:List ByteArray}{v:Value}{x:ByteArray}{W0:World}(hk:KeepsOthers W0 W)(hP:PTI w W acc v)(h:col sv (pre++[x])=none){a:Act} :
 Zj (KPT w) (PTJ sv w) (PTX sv w) (pre++[x]) W0 Exit.ret a ((W.setCell ⟨w.heap.size,0,none⟩ (.slice none 0 0)).setCell ⟨w.heap.size+1,0,none⟩ (.bool false)):=by
 obtain⟨q1,q2,q3,q4⟩:=hP.ret;exact⟨hk.trans q1,h,q2,q3,q4⟩
theorem PTJ.mk {sv:ByteArray->Bool}{w W W0 W1:World}{pre acc:List ByteArray}{v:Value}(hk:KeepsOthers W0 W)(hp:KPT w W0 W)(k1:KeepsOthers W W1)(p1:KPT w W W1)(hP:PTI w W1 acc v)(h:col sv pre=some acc){a:Act} :
 Zj (KPT w) (PTJ sv w) (PTX sv w) pre W0 Exit.normal a W1:=⟨hk.trans k1,λk hk=>(p1 k hk).trans (hp k hk),acc,v,h,hP⟩
theorem get_at {x:ByteArray}{i:Nat}(h:i<x.size):x[i]=x.toList.getD i 0:=by
 rw[vG];have h':i<x.data.toList.length:=by rw[Array.length_toList];exact h
 rw[bH,List.getElem?_eq_getElem h',Option.getD_some];rfl
theorem Nh {sv:ByteArray->Bool}{x:ByteArray}(h0:(!x.toList==[42])=true)(h:¬(x.size=6/\x.toList.getD 0 0=34/\x.toList.getD 5 0=34/\sv (x.extract 1 5)=true)):Ef sv x=none:=by unfold Ef;rw[if_neg (by simpa using h0),if_neg h]
theorem ada {sv:ByteArray->Bool}{x:ByteArray}(h0:(!x.toList==[42])=true)(h:x.size=6/\x.toList.getD 0 0=34/\x.toList.getD 5 0=34/\sv (x.extract 1 5)=true):Ef sv x=some (x.extract 1 5):=by unfold Ef;rw[if_neg (by simpa using h0),if_pos h]
theorem adb {sv:ByteArray->Bool}{x:ByteArray}(h0:(!x.toList==[42])=false):Ef sv x=some x:=by unfold Ef;rw[if_pos (by simpa using h0)]
theorem ahJ {b:UInt8} : ((b.toNat:Int)=34)<->b=34:=⟨λh=>nN.1 (by show b.toNat=34;omega),λh=>by rw[h];rfl⟩
theorem aaz {sv:ByteArray->Bool}{n:Nat}{s:ByteArray}{ws:List ByteArray}{w W W4:World}{D:Nat}{v:Value}{l:List ByteArray}{ok:Bool}{tmps:Array Value}{d:List Deferred}(hd:d=[{ target:=.collected D,args:= #[] }])
 (hne:s.toList.isEmpty=false) (hD:w.heap.size+6<=D) (hk:KeepsOthers W W4) (hK:W.heap[D]? = some (.deferred (some []))) (b0:Boxed W4 w.heap.size 25 v) (b1:Boxed W4 (w.heap.size+1) 4 (.bool ok))
 (hrow:W4.ownsRow (w.heap.size+6) 9 1 v l.length (l.map qi)) (hB:Below w.heap.size w W4) (hc:col sv ws=if ok then some l else none) (hl:ok=false->l=[])
 (t2:tmps.getD 2 undef = .pointer (some ⟨w.heap.size,0,none⟩):=by rfl) (t3:tmps.getD 3 undef = .pointer (some ⟨w.heap.size+1,0,none⟩):=by rfl) :
 bodyPostM kQ n Tryz.prog Tryz.f53 (afw sv s ws w) Exit.ret { tmps:=tmps,defers:=d } W4:=by
 subst hd;have hK4:=hk.same D _ hK rfl;refine⟨by simp,.inl ⟨_,_,rfl,run_takeDeferred hK4,?_⟩⟩;have k0:=cell_kept b0.cell (grownBy_putObj' _ D (.deferred none)) (λr e=>by cases e;exact⟨_,hK4,rfl⟩);have k1:=cell_kept b1.cell (grownBy_putObj' _ D (.deferred none)) (λr e=>by cases e;exact⟨_,hK4,rfl⟩);have hs:s.toList≠[]:=by cases h:s.toList with|nil=>rw[h]at hne;cases hne|cons a l=>simp
 refine⟨.tuple #[v,.bool ok],?_,v,l,ok,rfl,(ownsRow_putObj hrow _ hK4 rfl).mono (by omega),hB.trans (belowK_b (w:=w) (ak _) W4 D _ _ (by omega) hK4 rfl rfl),by rw[if_neg hs];exact hc,hl⟩;have t2':tmps[2]?.getD undef = .pointer (some ⟨w.heap.size,0,none⟩):=by simpa using t2
 have t3':tmps[3]?.getD undef = .pointer (some ⟨w.heap.size+1,0,none⟩):=by simpa using t3
 simp[results,Tryz.f53,go_sem,k0,k1,t2',t3',asAddr]
theorem akU (sv:ByteArray->Bool){ρ:Go.Shelf.Ren}(L:Lays.n143 Tryz.prog ρ)(hf:ρ.f 143=140)(n:Nat)(hn:5<=n)(s:ByteArray)(hz:s.size<=1000000)(ws:List ByteArray)(hw:Wds s ws)(w:World)
 (hS:∀(y:ByteArray),y.size=4->∀(l n:Nat) (W:World),Below w.heap.size w W->CallsIn (kQ.inRound l) n Tryz.prog 91 #[.string y] W λe W'=>e = .returned (.bool (sv y))/\W.grownBy W' none) :
 CallsIn kQ n Tryz.prog 53 #[.string s] w (afw sv s ws w):=by
 obtain⟨i0,hi,hz0,hz1,hz2⟩:=info_parts (show(Tryz.prog.info? 9).map (λi=>(i.zero,i.size,i.bytes))=some (some (.string rG),1,16) by kernel_rfl);refine callsIn_of_wp_marks Tryz.func53 rfl trivial ?_ rfl;simp only[Tryz.ntmps53,jP,dW,fB,Nat.reduceAdd,Nat.reduceSub,wV,wW,yt,xu,ja,eH]
 gi_wp2_with (refine⟨trivial,λ_=>by omega,?_⟩;gi_at_call 90;refine(ajt _ (by omega) _ _ _).mono ?_;rintro e w' ⟨rfl,rfl⟩)
 ·have he:s.toList.isEmpty=true:=by assumption
  have he':s.toList=[]:=by simpa using he
  have n0:=(rP w 25 (.slice none 0 0)).alloc (.cells #[.bool true] 4);have n1:=rP (w.alloc (.cells #[.slice none 0 0] 25)) 4 (.bool true);rw[pJ]at n1;have k0:=n0.cell;have k1:=n1.cell;refine⟨.tuple #[.slice none 0 0,.bool true],?_,.slice none 0 0,[],true,rfl,Aa _ _ _ _,((Below.refl _ w).alloc (ak _) _).alloc (by simp) _,by rw[if_pos he'];rfl,λh=>by cases h⟩;simp[results,Tryz.f53,go_sem,k0,k1,asAddr]
 ·refine aht (by omega) rfl (enters_of Tryz.func178 (by kernel_rfl) rfl) (w.heap.size+1+1+1) (by simp) ws (KPT w)
   (λh k=>λj hj=>(k j hj).trans (h j hj)) (λW l o hl j hj=>qy (by simp at hl;omega)) ?seq
   (PTJ sv w) (PTX sv w) ?own ?amm ?wu ?start
   (λx=>{ tmps:= #[.string s,undef,.pointer (some ⟨w.heap.size,0,none⟩),.pointer (some ⟨w.heap.size+1,0,none⟩),.pointer (some ⟨w.heap.size+1+1,0,none⟩),.string x,.string s,.bool false,.string s,.func (.func 178) #[] #[.pointer (some ⟨w.heap.size+1+1+1+1,0,none⟩),.pointer (some ⟨w.heap.size+1+1+1,0,none⟩),.pointer (some ⟨w.heap.size+1+1+1+2,0,none⟩)],.string x,undef,undef,undef,undef,undef,undef,undef,undef,undef,undef,undef,undef,undef,undef,undef,undef,undef,undef,undef,undef,undef,undef,undef,undef,undef,undef,undef,undef,undef,undef,undef],defers:=[] }) ?assign ?body ?done ?stop
  case assign=>
   intro l x W K hK
   gi_wp2
   exact hK
  case body=>
   rintro l pre x W ⟨acc,v,hc,hP⟩ hlt;have h4:=aas sv pre acc hc;obtain⟨a,cap,rfl⟩:∃a cap,v = .slice a acc.length cap:=by
    rcases hP.row.2 with⟨rfl,h⟩|⟨g,cap,cur,rfl,_⟩
    ·exact⟨none,0,by rw[h]⟩
    ·exact⟨_,cap,rfl⟩
   have hcv:=hP.box.cell;have hc0:=hP.b0.cell;have hf0:=hP.b0.frozen;have hc1:=hP.b1.cell;have hf1:=hP.b1.frozen;have hko:=KeepsOthers.refl W;have hkp:KPT w W W:=λk _=>rfl
   gi_wp2_with first
    |(gi_at_builtin;refine wpListIn_append_own _ rfl _ _ 25 rfl (w.heap.size+6) 9 i0 (.string rG) 1 16 Tryz.underlying25 hi hz0 hz1 hz2 rfl (by decide) _ _ _ rfl (hP.row.alloc _) _ 1 1 [_] rfl rfl (cell_one_new _ _ _) (by simp[Value.oneCell']) (by simp only[maxLen];omega) (by omega) (by have:=hP.siz;simp;omega) ?_;intro v' w1 hown' hgrow _;obtain⟨g',cap',rfl⟩:=ownsRow_succ hown';obtain⟨q1,q2,q3,q4⟩:=hP.app hown' hgrow;have hc5:=q1.cell;have hf5:=q1.frozen)
    |(refine⟨trivial,λ_=>by omega,?_⟩;gi_at_call 91;refine(hS _ (by rw[nZ];omega) l _ _ hP.bel).mono ?_;rintro e W2 ⟨rfl,hg2⟩;have hko:=hko.trans (KeepsOthers.of_grownBy hg2 (λj o e=>by cases e));have hkp:KPT w W W2:=λk hk=>(hg2.block k (by have:=hP.siz;omega) (by simp)).trans (hkp k hk);have hP:=hP.kept hg2;have hcv:=hP.box.cell;have hc0:=hP.b0.cell;have hf0:=hP.b0.frozen;have hc1:=hP.b1.cell;have hf1:=hP.b1.frozen)
    |(refine⟨trivial,?_⟩)
   ·have h:((acc.length:Int)==4)=true:=(by assumption);exact PTX.mk hko hP (LU hc (.inl (by simp at h;omega)))
   ·have hst:(!x.toList==[42])=true:=(by assumption);have hsv:(!sv (x.extract 1 5))=true:=(by assumption);exact PTX.mk hko hP (LU hc (.inr (Nh hst (λh=>by rw[h.2.2.2]at hsv;cases hsv))))
   ·have hn4:((acc.length:Int)==4)=false:=(by assumption);have hst:(!x.toList==[42])=true:=(by assumption);have h6:(x.size:Int)=6:=(by assumption);have h6':x.size=6:=(by omega);have h0:((x[0]'(by omega)).toNat:Int)=34:=(by assumption);have h5:((x[5]'(by omega)).toNat:Int)=34:=(by assumption);have hsv:(!sv (x.extract 1 5))=false:=(by assumption);exact PTJ.mk hko hkp q3 q4 q2 (WI hc (by simp at hn4;omega) (ada hst ⟨h6',by rw[<- get_at (by omega)];exact ahJ.1 h0,by rw[<- get_at (by omega)];exact ahJ.1 h5,by simpa using hsv⟩))
   ·have hst:(!x.toList==[42])=true:=(by assumption);have h6:(x.size:Int)=6:=(by assumption);have h5:¬((x[5]'(by omega)).toNat:Int)=34:=(by assumption);exact PTX.mk hko hP (LU hc (.inr (Nh hst (λh=>h5 (ahJ.2 (by rw[get_at (by omega)];exact h.2.2.1))))))
   ·have hst:(!x.toList==[42])=true:=(by assumption);have h6:(x.size:Int)=6:=(by assumption);have h0:¬((x[0]'(by omega)).toNat:Int)=34:=(by assumption);exact PTX.mk hko hP (LU hc (.inr (Nh hst (λh=>h0 (ahJ.2 (by rw[get_at (by omega)];exact h.2.1))))))
   ·have hst:(!x.toList==[42])=true:=(by assumption);have h6:¬(x.size:Int)=6:=(by assumption);exact PTX.mk hko hP (LU hc (.inr (Nh hst (λh=>h6 (by have:=h.1;omega)))))
   ·have hn4:((acc.length:Int)==4)=false:=(by assumption);have hst:(!x.toList==[42])=false:=(by assumption);exact PTJ.mk hko hkp q3 q4 q2 (WI hc (by simp at hn4;omega) (adb hst))
  case done=>
   rintro D W hD ⟨acc,v,hc,hP⟩ hK;have h4:=aas sv ws acc hc;obtain⟨a,cap,rfl⟩:∃a cap,v = .slice a acc.length cap:=by
    rcases hP.row.2 with⟨rfl,h⟩|⟨g,cap,cur,rfl,_⟩
    ·exact⟨none,0,by rw[h]⟩
    ·exact⟨_,cap,rfl⟩
   have hcv:=hP.box.cell;have hc0:=hP.b0.cell;have hf0:=hP.b0.frozen;have hc1:=hP.b1.cell;have hf1:=hP.b1.frozen;have hD6:w.heap.size+6<=D:=(by simpa using hD);have hne:s.toList.isEmpty=false:=by assumption
   gi_wp2
   refine aaz rfl hne hD6 (v:=.slice a acc.length cap) (ok:=true) ((vI _ _ _).trans (vI _ _ _)) hK ((hP.b0.set _).other (by omega) _) ((hP.b1.other (by omega) _).set _) ?_ ?_ hc (λh=>by cases h)
   ·exact JR (JR hP.row (by omega) _) (by omega) _
   ·exact(hP.bel.setCell (p:=⟨w.heap.size,0,none⟩) (ak _) _).setCell (p:=⟨w.heap.size+1,0,none⟩) (by simp) _
  case stop=>
   rintro D pre W hD hpre ⟨hc,hb0,hb1,hB⟩ hK;have hc0:=hb0.cell;have hc1:=hb1.cell;have hD6:w.heap.size+6<=D:=(by simpa using hD);have hne:s.toList.isEmpty=false:=by assumption
   gi_wp2
   exact aaz rfl hne hD6 (v:=.slice none 0 0) (l:=[]) (ok:=false) (KeepsOthers.refl _) hK hb0 hb1 (Aa _ _ _ _) hB (ad1 sv pre hc ws hpre) (λ_=>rfl)
  case own=>
   rintro pre A B row ⟨acc,v,hc,hP⟩ hg hr;have hr':∀r,row=some r->w.heap.size+6<=r:=λr e=>(by have:=(hr r e).1;simpa using this);refine⟨acc,v,hc,hP.box.kept hg (λe=>by have:=hr' _ e.symm;omega),hP.row.kept hg ?_,hP.b0.kept hg (λe=>by have:=hr' _ e.symm;omega),hP.b1.kept hg (λe=>by have:=hr' _ e.symm;omega),hP.bel.grown hg hP.bel.size (λk e=>by have:=hr' _ e;omega),dR hP.siz hg.size⟩;rcases hP.row.2 with⟨rfl,_⟩|⟨g,cap,cur,rfl,_,hgb,_⟩
   ·exact .inl rfl
   ·refine .inr λe=>?_;obtain⟨_,o,ho,hcc⟩:=hr g (by simpa[qG]using e.symm);rw[hgb]at ho;cases ho;cases hcc
  case amm=>rintro pre A B row ⟨hc,hb0,hb1,hB⟩ hg hr;have hr':∀r,row=some r->w.heap.size+6<=r:=λr e=>(by have:=(hr r e).1;simpa using this);exact⟨hc,hb0.kept hg (λe=>by have:=hr' _ e.symm;omega),hb1.kept hg (λe=>by have:=hr' _ e.symm;omega),hB.grown hg hB.size (λk e=>by have:=hr' _ e;omega)⟩
  case wu=>
   rintro pre W u ⟨acc,v,hc,hP⟩;exact⟨acc,v,hc,hP.box.other (by omega) _,JR hP.row (by omega) _,hP.b0.other (by omega) _,hP.b1.other (by omega) _,hP.bel.setCell (p:=⟨w.heap.size+1+1+1,0,none⟩) (by show w.heap.size<=w.heap.size+1+1+1;omega) _,by have:(W.setCell ⟨w.heap.size+1+1+1,0,none⟩ u).heap.size=W.heap.size:=(by simp[rf]);rw[this];exact hP.siz⟩
  case start=>have n0:=rP w 25 (.slice none 0 0);have n1:=rP (w.alloc (.cells #[.slice none 0 0] 25)) 4 (.bool false);have n2:=rP ((w.alloc (.cells #[.slice none 0 0] 25)).alloc (.cells #[.bool false] 4)) 25 (.slice none 0 0);rw[pJ]at n1 n2;rw[pJ]at n2;refine⟨[],.slice none 0 0,rfl,(((n2.alloc _).alloc _).alloc _),Aa _ _ _ _,(((((n0.alloc _).alloc _).alloc _).alloc _).alloc _),((((n1.alloc _).alloc _).alloc _).alloc _),?_,by simp⟩;exact((((((Below.refl _ w).alloc (ak _) _).alloc (by simp) _).alloc (by simp;omega) _).alloc (by simp;omega) _).alloc (by simp;omega) _).alloc (by simp;omega) _
  case seq=>intro l J Jx W hW hJ hY h0;have hlow:∀k,k<w.heap.size+6->W.heap[k]? = _:=λk hk=>hW k (by simp;omega);have n3:=rP (((w.alloc (.cells #[.slice none 0 0] 25)).alloc (.cells #[.bool false] 4)).alloc (.cells #[.slice none 0 0] 25)) 9 (.string s);have n4:=rP ((((w.alloc (.cells #[.slice none 0 0] 25)).alloc (.cells #[.bool false] 4)).alloc (.cells #[.slice none 0 0] 25)).alloc (.cells #[.string s] 9)) 9 (.string ⟨#[44]⟩);have n5:=rP (((((w.alloc (.cells #[.slice none 0 0] 25)).alloc (.cells #[.bool false] 4)).alloc (.cells #[.slice none 0 0] 25)).alloc (.cells #[.string s] 9)).alloc (.cells #[.string ⟨#[44]⟩] 9)) 3 (.int .i64 0);simp only[pJ]at n3 n4 n5;have m3:Boxed W (w.heap.size+1+1+1) 9 (.string s):=(hlow _ (by omega)).trans ((n3.alloc _).alloc _);have m4:Boxed W (w.heap.size+1+1+1+1) 9 (.string ⟨#[44]⟩):=(hlow _ (by omega)).trans (n4.alloc _);have m5:Boxed W (w.heap.size+1+1+1+2) 3 (.int .i64 0):=(hlow _ (by omega)).trans n5;refine ak6 L (n-1) (by omega) hf l (w.heap.size+1+1+1+1) (w.heap.size+1+1+1) (w.heap.size+1+1+1+2) s ws hw hz J Jx (λpre W v h _=>hJ pre W v h) (λpre x W h hl=>?_) W ⟨by omega,by omega⟩ m4.cell m3.cell m3.frozen m5.cell h0;exact hY pre x W h hl
open Go.Ab
def Pn (x:di):ByteArray:=⟨⟨x⟩⟩
theorem Xc : ∀{s:di},eG s 44<0->Be s=[s]
 |[],_=>rfl
 | b::s,h=>by
   unfold eG at h;split at h
   ·omega
   ·rename_i hb;have hb:¬b=44:=(by simpa using hb);split at h
    ·rename_i h2;have h2:eG s 44 = -1:=(by simpa using h2);unfold Be;rw[if_neg hb,Xc (s:=s) (by omega)]
    ·have:=Ar s 44;rename_i h2;have h2:¬eG s 44 = -1:=(by simpa using h2);omega
theorem Xd : ∀{s:di} {i:Nat},eG s 44=i->Be s=s.take i::Be (s.drop (i+1))
 |[],i,h=>by simp[eG]at h
 | b::s,i,h=>by
   unfold eG at h;split at h
   ·rename_i hb;have hb:b=44:=(by simpa using hb);have:i=0:=(by omega);subst this;rw[Be,if_pos hb,List.take_zero,Fv,iC]
   ·rename_i hb;have hb:¬b=44:=(by simpa using hb);split at h
    ·omega
    ·rename_i h2;have h2:¬eG s 44 = -1:=(by simpa using h2);have h3:=Ar s 44;obtain⟨j,rfl⟩:∃j,i=j+1:=⟨i-1,by omega⟩;rw[Be,if_neg hb,Xd (s:=s) (i:=j) (by omega)];rfl
theorem Qw (x:ByteArray)(a b:Nat):(x.extract a b).data.toList=(x.data.toList.drop a).take (b-a):=by rw[ByteArray.data_extract,Array.toList_extract]
theorem Vl (x:ByteArray):Pn x.data.toList=x:=by cases x;rfl
theorem ahN : ∀(k:Nat) (s:ByteArray),s.size<=k->Wds s ((Be s.data.toList).map Pn):=by
 intro k
 induction k using fC with|_ k ih=>
 intro s hk;by_cases h:eG s.data.toList 44<0
 ·rw[Xc h];show Wds s [Pn s.data.toList];rw[Vl];exact .last s h
 ·obtain⟨i,hi⟩:∃i:Nat,eG s.data.toList 44=i:=⟨(eG s.data.toList 44).toNat,by omega⟩;have hlt:=QL _ _ _ hi;have hsz:s.data.toList.length=s.size:=rfl;have e1:s.data.toList.drop (i+1)=(s.extract (i+1) s.size).data.toList:=by rw[Qw,eU (by rw[jk];omega)]
  have e2:s.data.toList.take i=(s.extract 0 i).data.toList:=by rw[Qw];rfl
  rw[Xd hi,e1,e2,bJ,Vl];exact .more s i _ hi (ih (s.size-(i+1)) (by omega) _ (by rw[nZ];omega))
theorem ac9 (sv:di->Bool)(x:di):Ef (λy=>sv y.data.toList) (Pn x)=(OO sv x).map Pn:=by
 unfold Ef OO;have e0:(Pn x).toList=x:=by rw[vG];rfl
 have e1:(Pn x).size=x.length:=rfl;have e2:((Pn x).extract 1 5).data.toList=(x.drop 1).take 4:=Qw _ _ _;have e3:(Pn x).extract 1 5=Pn ((x.drop 1).take 4):=by rw[<- e2,Vl]
 show(if(Pn x).toList=[42]then some (Pn x)else if(Pn x).size=6/\(Pn x).toList.getD 0 0=34/\(Pn x).toList.getD 5 0=34/\sv ((Pn x).extract 1 5).data.toList=true then some ((Pn x).extract 1 5)else none)=_;rw[e0,e1,e2,e3];split
 ·rfl
 ·split<;>rfl
theorem aiu (sv:di->Bool)(ws:List di):col (λy=>sv y.data.toList) (ws.map Pn)=(agQ sv ws).map λl=>l.map Pn:=by
 have key:∀(ws:List di) (a:Option (List di)),(ws.map Pn).foldl (zY λy=>sv y.data.toList) (a.map λl=>l.map Pn)=(ws.foldl (colS sv) a).map λl=>l.map Pn:=by
  intro ws
  induction ws with
  |nil=>intro a;rfl
  | cons x ws ih=>
    intro a;rw[bJ,qj,qj,<- ih]
    congr 1
    unfold zY colS;cases a with
    |none=>rfl
    | some l=>
      simp only[mD,ou,kX];split
      ·rfl
      ·rw[ac9];cases OO sv x with
       |none=>rfl
       |some y=>simp
 exact key ws (some [])
theorem acG (sv:di->Bool){s:di}(hl:s.length<=1000000){l:List ByteArray}(hc:(if(⟨⟨s⟩⟩:ByteArray).toList=[]then some []else col (λy=>sv y.data.toList) ((Be (⟨⟨s⟩⟩:ByteArray).data.toList).map Pn))=(if true then some l else none)):∀x,x∈l->x.size<=1000000:=by
 have cut_small:∀(s:di) x,x∈Be s->x.length<=s.length:=by
  intro s
  induction s with
  |nil=>intro x hx;rw[Be,dL]at hx;subst hx;exact ak _
  | cons b r ih=>
    intro x hx;rw[Be]at hx;split at hx
    ·rcases aO.1 hx with e|e
     ·subst e;exact aJ _
     ·have:=ih x e;simp;omega
    ·split at hx
     ·rw[dL]at hx;subst hx;simp
     ·rename_i y ys hy;rcases aO.1 hx with e|e
      ·have:=ih y (by rw[hy];simp);rw[e];simp;omega
      ·have:=ih x (by rw[hy];simp[e]);simp;omega
 have key:∀(ws:List ByteArray) (a l:List ByteArray),(∀x,x∈ws->x.size<=1000000)->(∀x,x∈a->x.size<=1000000)->ws.foldl (zY λy=>sv y.data.toList) (some a)=some l->∀x,x∈l->x.size<=1000000:=by
  intro ws
  induction ws with
  |nil=>intro a l _ ha h;cases h;exact ha
  | cons y ws ih=>
    intro a l hw ha h;rw[qj]at h;cases hs:zY (λy=>sv y.data.toList) (some a) y with
    | none=>
      rw[hs]at h;have:∀ws:List ByteArray,ws.foldl (zY λy=>sv y.data.toList) none=none:=λws=>by
       induction ws with
       |nil=>rfl
       |cons y ws ih=>exact ih
      rw[this]at h;cases h
    | some b=>
      rw[hs]at h;refine ih b l (λx hx=>hw x (bF _ hx)) (λx hx=>?_) h;unfold zY at hs;simp only[ou]at hs;split at hs
      ·cases hs
      ·obtain⟨z,hz,rfl⟩:=bY.1 hs;rcases aS.1 hx with e|e
       ·exact ha x e
       ·rw[dL]at e;subst e;have hy:=hw y (aG ..);unfold Ef at hz;split at hz
        ·cases hz;exact hy
        ·split at hz
         ·cases hz;rw[nZ];omega
         ·cases hz
 by_cases h0:(⟨⟨s⟩⟩:ByteArray).toList=[]
 ·rw[if_pos h0]at hc;simp only[if_true,aC]at hc;subst hc;intro x hx;cases hx
 ·rw[if_neg h0]at hc;refine key _ [] l (λx hx=>?_) (λx h=>by cases h) hc;obtain⟨y,hy,rfl⟩:=bf.1 hx;have:=cut_small s y hy;show y.length<=_;omega
theorem ab3 {W W':World}{M:Nat->Prop}(h:zK W W' M)(hM:∀k,¬M k):W.grownBy W' none:=⟨h.os,h.tape,h.output,h.size,λk hk _=>h.block k hk (hM k)⟩
theorem UC {ρ:Go.Shelf.Ren}(L:Lays.n143 Tryz.prog ρ)(hf:ρ.f 143=140)(hk:ptK Tryz.prog 53=true){sv:di->Bool}(hs:∀y:di,y.length=4->iW Tryz.prog 91 [.one (.c (.str y))] (tH (sv y))){s:di}{r:List di×Bool}(hl:s.length<=1000000)(hr:r=VD sv s) :
 iW Tryz.prog 53 [.one (.c (.str s))] (.AX [(false,[.c (.sl 1 (r.1.map cS))]),(false,[.c (.lit (.bool r.2))])]):=by
 subst hr;intro I q w vs hT hA hB hG X hX;obtain⟨a,rfl,ha⟩:=L9 hG;have hB':∀b,zX [] b = .absent:=λb=>Bf (aJ _);obtain⟨e1,_⟩:=Jq (show Rd I a (.str s)from ha);subst e1;have hno:∀k,¬ ∃b,(zX [] b).uses ((λ_=>none:Go.Ab.Ren) b) k:=λk ⟨b,h⟩=>by rw[hB']at h;exact h
 have hS:∀(y:ByteArray),y.size=4->∀(l n:Nat) (W:World),Below w.heap.size w W->CallsIn (kQ.inRound l) n Tryz.prog 91 #[.string y] W λe W'=>e = .returned (.bool (sv y.data.toList))/\W.grownBy W' none:=λy hy l n W hW=>by
  refine CallsIn.inRound l (callsIn_wide.2 ?_);have hA2:Agree I W:=hA.other λk c hc=>hW.block k (hA.lt hc);have ey:y=⟨⟨y.data.toList⟩⟩:=by cases y;rfl
  have hm:y.data.toList.length<=maxLen:=by show y.size<=_;rw[hy];decide
  refine(hs y.data.toList hy I (λ_=>none) W [.string y] hT hA2 ⟨λb=>by rw[hB'];rfl,λb b' k h=>(hno k ⟨b,h⟩).elim,λb k h=>(hno k ⟨b,h⟩).elim⟩ ⟨rfl,?_⟩ (λ_ _=>True) .XZ).mono ?_
  ·intro j v x hv hx
   match j with
   | 0=>
     simp only[gY,aC]at hv hx;subst hv hx;show Rd I (.string y) (.str y.data.toList)
     conv=>arg 2;rw[ey]
     exact Rd.str _ hm
   |j+1=>simp at hv
  ·rintro e W' ⟨⟨v,J,σ,r,bs,rfl,⟨rfl,rfl⟩,hg,_,_,_,hfr,_⟩,_⟩;cases hg;exact⟨rfl,ab3 hfr hno⟩
 have key:=callsIn_wide.1 (akU (λy=>sv y.data.toList) L hf 5 (ak _) ⟨⟨s⟩⟩ hl _ (ahN _ _ (ak _)) w hS);refine key.mono ?_;rintro e w' ⟨v,l,ok,rfl,hrow,hb,hc,hn⟩;refine⟨?_,ahr hk hX (A7 hb _) (hrow.2.imp (λh=>h.1) λ⟨g,cap,cur,e,h1,h2,_⟩=>⟨g,_,cap,cur,_,e,h1,h2⟩)⟩;have hbm:∀x,x∈l->x.size<=1000000:=λx hx=>by
  cases hok:ok with
  |false=>rw[hn hok]at hx;cases hx
  | true=>rw[hok]at hc;exact acG sv hl hc x hx
 have hr:VD sv s=(l.map λx=>x.data.toList,ok):=by
  unfold VD;have e0:(⟨⟨s⟩⟩:ByteArray).toList=s:=by rw[vG]
  rw[e0]at hc;by_cases h0:s=[]
  ·rw[if_pos h0]at hc⊢;cases ok with
   |true=>simp only[if_true,aC]at hc;subst hc;rfl
   |false=>cases hc
  ·rw[if_neg h0]at hc⊢;rw[show((⟨⟨s⟩⟩:ByteArray).data.toList)=s from rfl,aiu]at hc;cases hq:agQ sv (Be s)with
   | none=>
     rw[hq]at hc;cases ok with
     |true=>cases hc
     |false=>rw[hn rfl];rfl
   | some l'=>
     rw[hq]at hc;cases ok with
     | true=>simp only[mD,if_true,aC]at hc;subst hc;simp[Pn,Function.comp_def]
     |false=>cases hc
 rw[hr];have hIs:∀k,w.heap.size<=k->I k=none:=λk hk=>by
  cases h:I k with
  |none=>rfl
  |some c=>exact absurd (hA.lt h) (by omega)
 have fin:∀(J:IH),I.le J->Agree J w'->Rd J v (.sl 1 ((l.map λx=>x.data.toList).map cS))->(∀k,k<w.heap.size->J k=I k)->∃(v0:Value) (J:IH) (σ:Go.Ab.Ren) (r:AV) (bs:List Box),Go.Ending.returned (.tuple #[v,.bool ok]) = .returned v0/\(r=AV.AX [(false,[.c (.sl 1 (((l.map λx=>x.data.toList)).map cS))]),(false,[.c (.lit (.bool ok))])]/\bs=[])/\GV J σ v0 r/\Agree J w'/\BX J σ w' (zX bs) /\
  I.le J/\zK w w' (λk=>∃b,(zX [] b).uses (q b) k)/\(∀b k,(zX bs b).uses (σ b) k->w.heap.size<=k\/∃b',(zX [] b').uses (q b') k)/\(∀k,k<w.heap.size->(¬ ∃b,(zX [] b).uses (q b) k)->J k=I k)/\(∀b,b<([]:List Box).length->σ b=q b):=λJ hle hAg hrd hk=>by
  refine⟨_,J,q,_,_,rfl,⟨rfl,rfl⟩,⟨_,rfl,rfl,λj x p hx hp=>?_⟩,hAg,⟨λb=>?_,λb b' k hu=>?_,λb k hu=>?_⟩,hle,A7 hb _,λb k hu=>?_,λk h _=>hk k h,λ_ _=>rfl⟩
  ·match j with
   | 0=>simp at hx hp;subst hx hp;unfold GP;rw[if_neg (by simp)];exact⟨_,rfl,(show Rd J v _ from by rw[<- yB];exact hrd)⟩
   | 1=>simp at hx hp;subst hx hp;unfold GP;rw[if_neg (by simp)];exact⟨_,rfl,Rd.lit _ rfl⟩
   |j+2=>simp at hp
  ·have:=hB.ok b;rw[hB']at this⊢;exact this
  all_goals(rw[hB']at hu;exact hu.elim)
 rcases hrow.2 with⟨rfl,h0⟩|⟨g,cap,cur,rfl,hg,hgb,hle,hmax,hsz,htake⟩
 ·have:l=[]:=dN h0;subst this;exact fin I (IH.le_refl I) (hA.other λk1 c hc=>hb.block k1 (hA.lt hc)) (.sl none 0 0 1 [] (λ_ _=>undef) rfl (ak _) (aJ _) (λe h=>by cases h) (λh=>by omega) (λad h=>by cases h) (λi j c h=>by simp at h)) (λ_ _=>rfl)
 ·refine fin (I.add g cur) (λb c hc=>?_) (λb c hc=>?_) ?_ (λk hk=>?_)
  ·unfold IH.add;by_cases h:b=g
   ·rw[h,hIs g hg]at hc;cases hc
   ·rw[if_neg h];exact hc
  ·unfold IH.add at hc;by_cases h:b=g
   ·rw[if_pos h]at hc;cases hc;subst h;exact⟨_,_,hgb⟩
   ·rw[if_neg h]at hc;exact(hA.other λk1 c hc=>hb.block k1 (hA.lt hc)) b c hc
  ·refine Rd.sl (some ⟨g,0,none⟩) l.length cap 1 _ (λi _=>.string (l.getD i rG)) (by simp) hle hmax (λe he=>?_) (λ_ h=>by cases h) (λad had i j hi hj=>?_) (λi j c hc=>?_)
   ·obtain⟨x,_,rfl⟩:=bf.1 he;rfl
   ·cases had;have e:(⟨g,0,none⟩:Addr).add (i*1+j)=⟨g,i,none⟩:=by
     have:i*1+j=i:=(by omega);rw[this];by_cases h0:i=0
     ·subst h0;rfl
     ·simp[Go.Addr.add,h0]
    rw[e];unfold IH.cell IH.add;rw[if_neg (by simp)];simp only[if_true];have h1:cur.toList[i]? = (l.map qi)[i]?:=(by rw[<- htake,List.getElem?_take_of_lt (by omega)]);rw[<- Array.getElem?_toList,h1,List.getElem?_map];simp[bH,hi]
   ·rw[yB]at hc;by_cases hi:i<l.length
    ·have e1:((l.map (cS∘λx:ByteArray=>x.data.toList)).getD i [])=cS (l[i]).data.toList:=(by simp[bH,hi]);rw[e1]at hc
     match j with
     | 0=>simp[cS]at hc;subst hc;have e2:l.getD i rG=⟨⟨(l[i]).data.toList⟩⟩:=(by simp[bH,hi]);rw[e2];refine Rd.str _ ?_;have:=hbm l[i] (fU hi);have h3:(l[i]).data.toList.length=(l[i]).size:=rfl;have hml:1000000<=maxLen:=(by decide);omega
     |j+1=>simp[cS]at hc
    ·have:((l.map (cS∘λx:ByteArray=>x.data.toList)).getD i [])=[]:=(by simp[bH,kV (by simpa using hi:(l.map _).length<=i)]);rw[this]at hc;simp at hc
  ·unfold IH.add;rw[if_neg (by omega)]
end Go.Proofs
end
namespace Go.Ab
open Go
theorem F.gB {n:Nat} : ∀{bZ r},G.gB n bZ=some r->iW pZ 73 [oS bZ] (oB r):=by intro bZ r h;refine fV K.gB (wR ?_);unfold C.gB;rcases n with _|n<;>simp only[G.gB,reduceCtorEq]at h;have z:=Bc (pp (@uG (Int) _ (λn x=>G.gB.L1 n bZ x) r (λx=>iI.of [eS 0 bZ,eI 3 x] [])) ()) (pp (bn @G.gB.L1.eq_1 <|@G.gB.L1.eq_2) ()) (pp (@jl [] [] []) ());exact xP
theorem F.jI {n:Nat} : ∀{tX r},G.jI n tX=some r->iW pZ 187 [oT tX] (oB r):=by intro tX r h;refine fV K.jI (wR ?_);unfold C.jI;rcases n with _|n<;>simp only[G.jI,reduceCtorEq]at h;have z:=ny (pp @F.gB ()) (pp (@uG (Int) _ (λn x=>G.jI.L1 n tX x) r (λx=>iI.of [eT 0 tX,eT 8 tX,eI 9 (tX.length:Int),eI 10 x] [])) ()) (pp (bn @G.jI.L1.eq_1 <|@G.jI.L1.eq_2) ()) (pp (@jl [] [] []) ());exact xP
theorem F.gJ {n:Nat} : ∀{aX r},G.gJ n aX=some r->iW pZ 164 [.agg (wN aX)] (oB r):=by intro aX r h;refine fV K.gJ (wR ?_);unfold C.gJ;rcases n with _|n<;>simp only[G.gJ,reduceCtorEq]at h;have z:=Uz (pp @F.gB <|pp @F.jI ()) (pp (@EZ (Unit) _ (λn x=>G.gJ.K1 n aX) r (λx=>iI.of [eP 1 101,eB 20 false] [(101,.var (wN aX))])) ()) (pp (bn @G.gJ.K1.eq_1 <|@G.gJ.K1.eq_2) ()) (pp (@jl [] [(101,10)] []) ());exact xP
theorem F.KR : ∀(n:Nat),∀{aX lD r},G.fQ n aX lD=some r->iW pZ 110 [.agg (wN aX),oI lD] (.AX [(false,[wI r.1]),(false,[wI r.2.1]),(false,[wB r.2.2])]):=by
 intro n
 induction n using fC with|_ n ih=>
 intro aX lD r h;refine fV K.fQ (wR ?_);unfold C.fQ;rcases n with _|n<;>simp only[G.fQ,reduceCtorEq]at h;have z:=ny (pp ih <|pp @F.gJ ()) (pp (@uG (Int×Int×Int) _ (λn x=>G.fQ.L1 n aX lD x.1 x.2.1 x.2.2) r (λx=>iI.of [eI 1 lD,eI 4 x.1,eI 5 x.2.1,(20,.v true (.one (wK aX.bC))),eI 21 (aX.bC.length:Int),eI 22 x.2.2] [])) ()) (pp (bn @G.fQ.L1.eq_1 <|@G.fQ.L1.eq_2) ()) (pp (@jl [] [] []) ());exact xP
theorem F.fQ {n:Nat} : ∀{aX:au} {lD:Int} {r:Int×Int×Bool},G.fQ n aX lD=some r->iW pZ 110 [.agg (wN aX),oI lD] (.AX [(false,[wI r.1]),(false,[wI r.2.1]),(false,[wB r.2.2])]):=F.KR n
theorem F.gU {n:Nat} : ∀{aX:au} {r:Bool},G.gU n aX=some r->iW pZ 72 [.agg (wN aX)] (oB r):=by
 intro aX r h;refine fV K.gU (wR ?_);unfold C.gU;cases n with
 |zero=>simp only[G.gU,reduceCtorEq]at h
 |succ n=>
 simp only[G.gU]at h
 replace h:=Option.bind_eq_some_iff.1 h
 obtain⟨v1,hv1,h⟩:=h;simp -dsimp only[egR,mG.nT,mG.f,mG.rd,FW,Bi,lvl,yx,reduceIte,Nat.reduceEqDiff,Nat.reduceAdd,Nat.reduceLeDiff,Nat.reduceBEq,reduceCtorEq,Int.reduceBNe,Int.reduceBEq,Int.reduceLT,Int.reduceLE,Int.reduceNeg,Nat.reduceLT,F6,Int.reduceToNat,FZ]
 repeat refine bn (by first|(show zZ _ _ _ _=true;kernel_rfl)|(show zL _ _=true;kernel_rfl)|omega|assumption) ?_
 refine aan (λ_=>F.fQ hv1) rfl rfl ?_
 try simp -dsimp only[egR,mG.nT,mG.f,mG.rd,FW,Bi,lvl,yx,reduceIte,Nat.reduceEqDiff,Nat.reduceAdd,Nat.reduceLeDiff,Nat.reduceBEq,reduceCtorEq,Int.reduceBNe,Int.reduceBEq,Int.reduceLT,Int.reduceLE,Int.reduceNeg,Nat.reduceLT,F6,Int.reduceToNat,FZ]
 repeat refine bn (by first|(show zZ _ _ _ _=true;kernel_rfl)|(show zL _ _=true;kernel_rfl)|omega|assumption) ?_
 replace h:=TA.1 h
 rcases h with⟨c1,h⟩|⟨c1,h⟩
 ·simp -dsimp only[egR,mG.nT,mG.f,mG.rd,FW,Bi,lvl,yx,reduceIte,Nat.reduceEqDiff,Nat.reduceAdd,Nat.reduceLeDiff,Nat.reduceBEq,reduceCtorEq,Int.reduceBNe,Int.reduceBEq,Int.reduceLT,Int.reduceLE,Int.reduceNeg,Nat.reduceLT,F6,Int.reduceToNat,FZ,c1]
  repeat refine bn (by first|(show zZ _ _ _ _=true;kernel_rfl)|(show zL _ _=true;kernel_rfl)|omega|assumption) ?_
  cases h
  (simp -dsimp only[peR,reduceIte,Nat.reduceEqDiff,Nat.reduceAdd,Nat.reduceLeDiff,reduceCtorEq]<;>first|(simp[eU];done)|((try simp only[AA,Ec,rH,bJ,jY])<;>(repeat' apply bn)<;>first|rfl|(simp;done)|(simp<;>omega;done)|(congr 1;exact(eU (by simp<;>omega)).symm)))
 ·simp -dsimp only[egR,mG.nT,mG.f,mG.rd,FW,Bi,lvl,yx,reduceIte,Nat.reduceEqDiff,Nat.reduceAdd,Nat.reduceLeDiff,Nat.reduceBEq,reduceCtorEq,Int.reduceBNe,Int.reduceBEq,Int.reduceLT,Int.reduceLE,Int.reduceNeg,Nat.reduceLT,F6,Int.reduceToNat,FZ,c1]
  repeat refine bn (by first|(show zZ _ _ _ _=true;kernel_rfl)|(show zL _ _=true;kernel_rfl)|omega|assumption) ?_
  cases h
  (simp -dsimp only[peR,reduceIte,Nat.reduceEqDiff,Nat.reduceAdd,Nat.reduceLeDiff,reduceCtorEq]<;>first|(simp[eU];done)|((try simp only[AA,Ec,rH,bJ,jY])<;>(repeat' apply bn)<;>first|rfl|(simp;done)|(simp<;>omega;done)|(congr 1;exact(eU (by simp<;>omega)).symm)))
def B.ren : Go.Shelf.Ren:=⟨λn=>match n with|138=>139|143=>140|147=>50|172=>180|195=>174|197=>175|205=>216|217=>179|218=>176|219=>177|221=>89|224=>193|225=>192|244=>196|245=>197|247=>205|260=>191|266=>195|267=>194|268=>138|279=>206|280=>207|281=>208|282=>209|287=>214|314=>204|316=>215|321=>219|322=>220|99=>146|129=>122|156=>98|165=>156|166=>157|167=>155|169=>153|171=>112|206=>181|240=>185|241=>186|243=>167|246=>189|276=>198|277=>199|283=>200|284=>201|285=>202|286=>203|317=>210|318=>211|319=>212|320=>213|337=>217|338=>218|_=>0,λn=>match n with|21=>21|85=>216|105=>192|119=>209|138=>211|139=>212|143=>229|145=>231|146=>213|167=>215|168=>218|175=>223|210=>226|0=>0|2=>2|3=>3|4=>4|5=>5|9=>9|20=>20|31=>25|37=>105|46=>101|51=>147|53=>149|70=>169|72=>171|75=>175|76=>178|80=>151|127=>194|164=>202|171=>205|173=>207|212=>221|213=>222|232=>232|233=>233|_=>0,λn=>match n with|1=>0|3=>1|4=>2|15=>4|16=>5|17=>3|18=>6|19=>7|_=>0⟩
theorem B.x72 : Go.Proofs.Builder.X72 pZ B.ren:=by constructor<;>kernel_rfl
theorem B.x : Go.Proofs.Builder.Extra pZ B.ren:=by constructor<;>first|exact B.x72|kernel_rfl|(intro w;kernel_rfl)|decide
theorem B.lays167 : Go.Proofs.Lays.n167 pZ B.ren:=by constructor<;>first|kernel_rfl|(intro w;kernel_rfl)
theorem F.bz {n:Nat} : ∀{A8:iP} {Gl:Int} {r:Unit×iP},G.bz n A8 Gl=some r->oN pZ 155 [.one (.ptr 0 0),.one (.c (.lit (.int .u8 Gl)))] [.var [.opt 171 0,.uM 1 A8.buf.length],.row 5 A8.buf] (λr1 b1=>r1 = .one (.c (.lit .nilIface))/\b1=[.var [.opt 171 0,.uM 2 r.2.buf.length],.dead,.row 5 r.2.buf]):=by intro b c r h;rcases n with _|n<;>simp only[G.bz,reduceCtorEq]at h;obtain⟨⟨hc,hl⟩,h⟩:=zy.1 h;cases h;exact UD B.lays167 B.x hc hl
theorem F.gG {n:Nat} : ∀{A8 bZ r},G.gG n A8 bZ=some r->oN pZ 158 [.one (.ptr 0 0),oS bZ] [.var [.opt 171 0,.uM 1 A8.buf.length],.row 5 A8.buf] (λr1 b1=>r1 = .AX []/\b1=[.var [.opt 171 0,.uM 2 r.buf.length],.dead,.row 5 r.buf]):=by intro A8 bZ r h;refine vJ K.gG (wR ?_);unfold C.gG;rcases n with _|n<;>simp only[G.gG,reduceCtorEq]at h;have z:=J6 (pp (pp @F.bz (@cG [0,1] [101])) <|pp (pp @F.bz (@cG [0,116] [121])) <|pp (pp @F.bz (@cG [0,116] [122])) <|pp (pp @F.bz (@cG [0,119] [120])) <|pp (pp @F.bz (@cG [0,116] [123])) ()) (pp (@uG (Int×di) _ (λn x=>G.gG.L3 n bZ x.1 x.2) r (λx=>iI.of [eP 0 0,eS 1 bZ,eI 4 x.1] [(0,.var [.opt 171 0,.uM 116 x.2.length]),(1,.dead),(116,.row 5 x.2)])) ()) (pp (@EZ (Int×di) _ (λn x=>G.gG.K4 n bZ x.1 x.2) r (λx=>iI.of [eP 0 0,eS 1 bZ,eI 4 x.1] [(0,.var [.opt 171 0,.uM 119 x.2.length]),(1,.dead),(119,.row 5 x.2)])) ()) (pp (bn @G.gG.L3.eq_1 <|bn @G.gG.L3.eq_2 <|bn @G.gG.K4.eq_1 <|@G.gG.K4.eq_2) ()) (pp (@jl [] [(0,0),(1,1),(116,101)] []) <|pp (@jl [] [(0,0),(1,1),(119,121)] []) <|pp (@jl [] [(0,0),(1,1),(119,122)] []) <|pp (@jl [] [(0,0),(1,1),(119,116)] []) <|pp (@jl [] [(0,0),(1,1),(116,120)] []) ()) (pp (@Fh [] [(0,0),(1,1),(2,123)] []) <|pp (@Fh [] [(0,0),(1,1),(2,121)] []) ());exact xP
theorem B.lays171 : Go.Proofs.Lays.n171 pZ B.ren:=by constructor<;>first|kernel_rfl|(intro w;kernel_rfl)
theorem B.laysM171 : Go.Proofs.LaysM.n171 pZ B.ren:=by constructor<;>first|exact B.lays171|kernel_rfl|(intro w;kernel_rfl)
theorem F.strconv_Itoa {n:Nat} : ∀{aj6:Int} {r:di},G.strconv_Itoa n aj6=some r->iW pZ 112 [oI aj6] (oS r):=by intro i r h;rcases n with _|n<;>simp only[G.strconv_Itoa,reduceCtorEq]at h;obtain⟨⟨h0,hl⟩,h⟩:=zy.1 h;exact agD B.laysM171 h0 (dR hl xR) (by cases h;rfl)
theorem B.lays166 : Go.Proofs.Lays.n166 pZ B.ren:=by constructor<;>first|kernel_rfl|(intro w;kernel_rfl)
theorem F.jU {n:Nat} : ∀{A8:iP} {bZ:di} {r:Int×Unit×iP},G.jU n A8 bZ=some r->oN pZ 157 [.one (.ptr 0 0),oS bZ] [.var [.opt 171 0,.uM 1 A8.buf.length],.row 5 A8.buf] (λr1 b1=>r1 = .AX [(false,[wI r.1]),(false,[.c (.lit .nilIface)])]/\b1=[.var [.opt 171 0,.uM 2 r.2.2.buf.length],.dead,.row 5 r.2.2.buf]):=by intro b s r h;rcases n with _|n<;>simp only[G.jU,reduceCtorEq]at h;obtain⟨hl,h⟩:=zy.1 h;cases h;exact PX B.lays166 B.x hl
theorem F.NT : ∀(n:Nat),∀{A8 aX r},G.bV n A8 aX=some r->oN pZ 152 [.one (.ptr 0 0),.agg (wN aX)] [.var [.opt 171 0,.uM 1 A8.buf.length],.row 5 A8.buf] (λr1 b1=>r1 = .AX []/\b1=[.var [.opt 171 0,.uM 2 r.buf.length],.dead,.row 5 r.buf]):=by
 intro n
 induction n using fC with|_ n ih=>
 intro A8 aX r h;refine vJ K.bV (wR ?_);unfold C.bV;rcases n with _|n<;>simp only[G.bV,reduceCtorEq]at h;have:=Mk.mk 1;have:=Mk.mk 2;have z:=aab (pp @F.strconv_Itoa ()) (pp (pp ih (@cG [0,118] [119])) <|pp (pp ih (@cG [0,148] [149])) <|pp (pp @F.jU (@cG [0,1] [101])) <|pp (pp @F.jU (@cG [0,1] [102])) <|pp (pp @F.gG (@cG [0,1] [103])) <|pp (pp @F.bz (@cG [0,1] [104])) <|pp (pp @F.bz (@cG [0,115] [120])) <|pp (pp @F.bz (@cG [0,115] [121])) <|pp (pp @F.bz (@cG [0,1] [122])) <|pp (pp @F.bz (@cG [0,142] [150])) <|pp (pp @F.gG (@cG [0,146] [147])) <|pp (pp @F.bz (@cG [0,147] [148])) <|pp (pp @F.bz (@cG [0,142] [151])) ()) (pp (@uG (Int×di) _ (λn x=>G.bV.L3 n aX x.1 x.2) r (λx=>iI.of [eP 0 0,(32,.v true (.one (wK aX.bC))),eI 33 (aX.bC.length:Int),eI 34 x.1] [(0,.var [.opt 171 0,.uM 115 x.2.length]),(1,.dead),(115,.row 5 x.2)])) <|pp (@uG (Int×di) _ (λn x=>G.bV.L7 n aX x.1 x.2) r (λx=>iI.of [eP 0 0,eP 3 141,(54,.v true (.one (wK aX.bC))),eI 55 (aX.bC.length:Int),eI 56 x.1] [(0,.var [.opt 171 0,.uM 142 x.2.length]),(1,.dead),(141,.var (wN aX)),(142,.row 5 x.2)])) ()) (pp (@EZ (Int×di) _ (λn x=>G.bV.K4 n aX x.1 x.2) r (λx=>iI.of [eP 0 0,eP 5 117,(32,.v true (.one (wK aX.bC))),eI 33 (aX.bC.length:Int),eI 34 x.1] [(0,.var [.opt 171 0,.uM 118 x.2.length]),(1,.dead),(117,.var [wI ((aX.bC.getD x.1.toNat default).dH),wI ((aX.bC.getD x.1.toNat default).ve),wS ((aX.bC.getD x.1.toNat default).oz),wT ((aX.bC.getD x.1.toNat default).dS),wK ((aX.bC.getD x.1.toNat default).bC)]),(118,.row 5 x.2)])) <|pp (@EZ (Int×di) _ (λn x=>G.bV.K8 n aX x.1 x.2) r (λx=>iI.of [eP 0 0,eP 3 144,eI 6 x.1,eP 7 145,(54,.v true (.one (wK aX.bC))),eI 55 (aX.bC.length:Int),eI 56 x.1] [(0,.var [.opt 171 0,.uM 146 x.2.length]),(1,.dead),(144,.var (wN aX)),(145,.var [wI ((aX.bC.getD x.1.toNat default).dH),wI ((aX.bC.getD x.1.toNat default).ve),wS ((aX.bC.getD x.1.toNat default).oz),wT ((aX.bC.getD x.1.toNat default).dS),wK ((aX.bC.getD x.1.toNat default).bC)]),(146,.row 5 x.2)])) ()) (pp (bn @G.bV.L3.eq_1 <|bn @G.bV.L3.eq_2 <|bn @G.bV.K4.eq_1 <|bn @G.bV.K4.eq_2 <|bn @G.bV.L7.eq_1 <|bn @G.bV.L7.eq_2 <|bn @G.bV.K8.eq_1 <|@G.bV.K8.eq_2) ()) (pp (@jl [] [(0,0),(1,1),(115,104)] []) <|pp (@jl [] [(0,0),(1,1),(117,11),(118,120)] []) <|pp (@jl [] [(0,0),(1,1),(117,11),(118,115)] []) <|pp (@jl [] [(0,0),(1,1),(115,119)] []) <|pp (@jl [] [(0,0),(1,1),(141,10),(142,122)] []) <|pp (@jl [] [(0,0),(1,1),(144,141),(145,12),(146,150)] []) <|pp (@jl [] [(0,0),(1,1),(144,141),(145,12),(146,142)] []) <|pp (@jl [] [(0,0),(1,1),(141,144),(142,149)] []) <|pp (@jl [] [(0,0),(1,1),(141,10),(142,104)] []) ()) (pp (@Fh [] [(0,0),(1,1),(2,101)] []) <|pp (@Fh [] [(0,0),(1,1),(2,102)] []) <|pp (@Fh [] [(0,0),(1,1),(2,103)] []) <|pp (@Fh [] [(0,0),(1,1),(2,121)] []) <|pp (@Fh [] [(0,0),(1,1),(2,151)] []) <|pp (@Fh [] [(0,0),(1,1),(2,1)] []) <|pp (@Fh [] [(0,0),(1,1),(2,120)] []) <|pp (@Fh [] [(0,0),(1,1),(2,150)] []) ()) (pp (pp (rfl : @G.bV.K4=_) <|pp (rfl : @G.bV.L3=_) ()) <|pp (pp (rfl : @G.bV.K8=_) <|pp (rfl : @G.bV.L7=_) ()) ());exact agV
theorem F.bV {n:Nat} : ∀{A8:iP} {aX:au} {r:iP},G.bV n A8 aX=some r->oN pZ 152 [.one (.ptr 0 0),.agg (wN aX)] [.var [.opt 171 0,.uM 1 A8.buf.length],.row 5 A8.buf] (λr1 b1=>r1 = .AX []/\b1=[.var [.opt 171 0,.uM 2 r.buf.length],.dead,.row 5 r.buf]):=F.NT n
theorem B.lays169 : Go.Proofs.Lays.n169 pZ B.ren:=by constructor<;>first|kernel_rfl|(intro w;kernel_rfl)
theorem F.kG {n:Nat} : ∀{A8:iP} {r:di},G.kG n A8=some r->oN pZ 153 [.one (.ptr 0 0)] [.var [.opt 171 0,.uM 1 A8.buf.length],.row 5 A8.buf] (λr1 b1=>r1=oS r/\b1=[.dead,.dead]):=by intro b r h;rcases n with _|n<;>simp only[G.kG,reduceCtorEq]at h;obtain⟨hl,h⟩:=zy.1 h;cases h;exact abx B.lays169 B.x (dR hl xR)
theorem F.nC {n:Nat} : ∀{aX r},G.nC n aX=some r->iW pZ 96 [.agg (wN aX)] (oS r):=by intro aX r h;refine fV K.nC (wR ?_);unfold C.nC;rcases n with _|n<;>simp only[G.nC,reduceCtorEq]at h;have z:=J8 (pp @F.gU ()) (pp (pp @F.bV (@cG [12,11] [101])) <|pp (pp @F.kG (@cG [12,101] [])) ());exact xP
theorem F.jB {n:Nat} : ∀{bZ Gl r},G.jB n bZ Gl=some r->iW pZ 179 [oS bZ,.one (.c (.lit (.int .u8 Gl)))] (oI r):=by intro bZ Gl r h;refine fV K.jB (wR ?_);unfold C.jB;rcases n with _|n<;>simp only[G.jB,reduceCtorEq]at h;have z:=CB;exact xP
theorem F.strings_IndexByte {n:Nat} : ∀{bZ Gl r},G.strings_IndexByte n bZ Gl=some r->iW pZ 142 [oS bZ,.one (.c (.lit (.int .u8 Gl)))] (oI r):=by intro bZ Gl r h;refine fV K.strings_IndexByte (wR ?_);unfold C.strings_IndexByte;cases n;cases h;simp only[G.strings_IndexByte]at h;have z:=rY (pp @F.jB ());exact xP
theorem F.nD {n:Nat} : ∀{bZ r},G.nD n bZ=some r->iW pZ 91 [oS bZ] (oB r):=by intro bZ r h;refine fV K.nD (wR ?_);unfold C.nD;rcases n with _|n<;>simp only[G.nD,reduceCtorEq]at h;have z:=ny (pp @F.strings_IndexByte ()) (pp (@uG (Int) _ (λn x=>G.nD.L1 n bZ x) r (λx=>iI.of [eS 0 bZ,eI 3 x] [])) ()) (pp (bn @G.nD.L1.eq_1 <|@G.nD.L1.eq_2) ()) (pp (@jl [] [] []) ());exact xP
theorem F.jS {n:Nat} : ∀{bP r},G.jS n bP=some r->iW pZ 150 [oT bP] (oB r):=by intro bP r h;refine fV K.jS (wR ?_);unfold C.jS;rcases n with _|n<;>simp only[G.jS,reduceCtorEq]at h;have z:=ny (pp @F.nD ()) (pp (@uG (Int) _ (λn x=>G.jS.L1 n bP x) r (λx=>iI.of [eT 8 bP,eI 9 (bP.length:Int),eI 10 x] [])) ()) (pp (bn @G.jS.L1.eq_1 <|@G.jS.L1.eq_2) ()) (pp (@jl [] [] []) ());exact xP
theorem F.gy {n:Nat} : ∀{bP r},G.gy n bP=some r->iW pZ 99 [oT bP] (oS r):=by intro bP r h;refine fV K.gy (wR ?_);unfold C.gy;rcases n with _|n<;>simp only[G.gy,reduceCtorEq]at h;have z:=ads (pp @F.jS ()) (pp (pp @F.bz (@cG [115,116] [122])) <|pp (pp @F.jU (@cG [118,119] [120])) <|pp (pp @F.gG (@cG [118,119] [121])) <|pp (pp @F.kG (@cG [115,116] [])) ()) (pp (@uG (Int×di) _ (λn x=>G.gy.L3 n bP x.1 x.2) r (λx=>iI.of [eP 3 115,eT 9 bP,eI 10 (bP.length:Int),eI 11 x.1] [(115,.var [.opt 171 115,.uM 116 x.2.length]),(116,.row 5 x.2)])) ()) (pp (@EZ (Int×di) _ (λn x=>G.gy.K4 n bP x.1 x.2) r (λx=>iI.of [eP 3 118,eS 5 (bP.getD x.1.toNat default),eT 9 bP,eI 10 (bP.length:Int),eI 11 x.1] [(118,.var [.opt 171 118,.uM 119 x.2.length]),(119,.row 5 x.2)])) ()) (pp (bn @G.gy.L3.eq_1 <|bn @G.gy.L3.eq_2 <|bn @G.gy.K4.eq_1 <|@G.gy.K4.eq_2) ()) (pp (@jl [] [(115,11),(116,10)] []) <|pp (@jl [] [(118,115),(119,122)] []) <|pp (@jl [] [(118,115),(119,116)] []) <|pp (@jl [] [(115,118),(116,120)] []) <|pp (@jl [] [(115,118),(116,121)] []) ());exact xP
theorem F.qK {n:Nat} : ∀{aX Wi r},G.qK n aX Wi=some r->iW pZ 183 [.agg (wN aX),oB Wi] (.AX [(true,(wN r.1)),(false,[wB r.2])]):=by intro aX Wi r h;refine fV K.qK (wR ?_);unfold C.qK;cases n;cases h;simp only[G.qK]at h;have z:=rY (pp @F.gU ());exact xP
theorem F.O1 : ∀(n:Nat),∀{aX r},G.fO n aX=some r->iW pZ 31 [.agg (wN aX)] (.agg (wN r)):=by
 intro n
 induction n using fC with|_ n ih=>
 intro aX r h;refine fV K.fO (wR ?_);unfold C.fO;rcases n with _|n<;>simp only[G.fO,reduceCtorEq]at h;have z:=J7 (pp ih ()) (pp (@uG (List di×Int×List au) _ (λn x=>G.fO.L2 n aX x.1 x.2.1 x.2.2) r (λx=>iI.of [eP 2 113,eP 3 114,(37,.v true (.one (wK aX.bC))),eI 38 (aX.bC.length:Int),eI 39 x.2.1] [(113,.var zN),(114,.var [wI aX.dH,wI aX.ve,wS aX.oz,.own 115 x.1.length 1,.own 116 x.2.2.length 5]),(115,.dat 1 (aP cS x.1)),(116,.dat 5 (aP au.cells x.2.2))])) ()) (pp (@EZ (List di) _ (λn x=>G.fO.K1 n aX x) r (λx=>iI.of [eP 1 101,eP 2 102,eP 3 103] [(101,.var (wN aX)),(102,.var zN),(103,.var [wI aX.dH,wI aX.ve,wS aX.oz,.own 104 x.length 1,.mM 5]),(104,.dat 1 (aP cS x))])) ()) (pp (bn @G.fO.K1.eq_1 <|bn @G.fO.K1.eq_2 <|bn @G.fO.L2.eq_1 <|@G.fO.L2.eq_2) ()) (pp (@jl [] [(101,10),(102,11),(103,12),(104,13)] []) <|pp (@jl [] [(101,10),(102,11),(103,12)] [104]) <|pp (@jl [] [(113,102),(114,103),(115,104),(116,14)] []) <|pp (@jl [] [(113,113),(114,114),(115,115),(116,116)] []) ());exact xP
theorem F.fO {n:Nat} : ∀{aX:au} {r:au},G.fO n aX=some r->iW pZ 31 [.agg (wN aX)] (.agg (wN r)):=F.O1 n
theorem F.kJ {n:Nat} : ∀{kF r},G.kJ n kF=some r->iW pZ 29 [oT kF] (oB r):=by intro kF r h;refine fV K.kJ (wR ?_);unfold C.kJ;rcases n with _|n<;>simp only[G.kJ,reduceCtorEq]at h;have z:=ny (pp @F.gB ()) (pp (@uG (Int) _ (λn x=>G.kJ.L1 n kF x) r (λx=>iI.of [eT 8 kF,eI 9 (kF.length:Int),eI 10 x] [])) ()) (pp (bn @G.kJ.L1.eq_1 <|@G.kJ.L1.eq_2) ()) (pp (@jl [] [] []) ());exact xP
theorem F.qY {n:Nat} : ∀{yU r},G.qY n yU=some r->iW pZ 182 [.agg (wO yU)] (oB r):=by intro yU r h;refine fV K.qY (wR ?_);unfold C.qY;cases n;cases h;simp only[G.qY]at h;have z:=rY (pp @F.kJ <|pp @F.gU ());exact xP
theorem F.qH {n:Nat} : ∀{qx r},G.qH n qx=some r->iW pZ 149 [oI qx] (oS r):=by intro qx r h;refine fV K.qH (wR ?_);unfold C.qH;rcases n with _|n<;>simp only[G.qH,reduceCtorEq]at h;have z:=CB;exact xP
theorem F.jW {n:Nat} : ∀{kF r},G.jW n kF=some r->iW pZ 184 [oT kF] (.agg (wN r)):=by intro kF r h;refine fV K.jW (wR ?_);unfold C.jW;rcases n with _|n<;>simp only[G.jW,reduceCtorEq]at h;have z:=Bc (pp (@uG (Int×List au) _ (λn x=>G.jW.L1 n kF x.1 x.2) r (λx=>iI.of [eP 2 106,eP 3 107,eT 7 kF,eI 8 (kF.length:Int),eI 9 x.1] [(106,.var zN),(107,.var [wI 3,wI 0,.c (.str []),.mM 1,.own 108 x.2.length 5]),(108,.dat 5 (aP au.cells x.2))])) ()) (pp (bn @G.jW.L1.eq_1 <|@G.jW.L1.eq_2) ()) (pp (@jl [] [(106,10),(107,11)] [108]) <|pp (@jl [] [(106,106),(107,107),(108,13)] []) ());exact xP
theorem F.pO {n:Nat} : ∀{yU r},G.pO n yU=some r->iW pZ 154 [.agg (wO yU)] (.AX [(true,(wN r.1)),(false,[wB r.2])]):=by intro yU r h;refine fV K.pO (wR ?_);unfold C.pO;cases n;cases h;simp only[G.pO]at h;have z:=rY (pp @F.qY <|pp @F.jW <|pp @F.qH <|pp @F.fO <|pp @F.qK ());exact xP
theorem F.jT {n:Nat} : ∀{bP r},G.jT n bP=some r->iW pZ 97 [.one (w8 bP)] (.AX [(false,[wS r.1]),(false,[wB r.2])]):=by intro bP r h;refine fV K.jT (wR ?_);unfold C.jT;rcases n with _|n<;>simp only[G.jT,reduceCtorEq]at h;have z:=Ou (pp @F.pO ()) (pp (pp @F.bV (@cG [109,110] [111])) <|pp (pp @F.bz (@cG [109,111] [112])) <|pp (pp @F.kG (@cG [109,110] [])) ()) (pp (@uG (Int×di) _ (λn x=>G.jT.L1 n bP x.1 x.2) r (λx=>iI.of [eP 4 109,(9,.v true (.one (w8 bP))),eI 10 (bP.length:Int),eI 11 x.1] [(109,.var [.opt 171 109,.uM 110 x.2.length]),(110,.row 5 x.2)])) ()) (pp (bn @G.jT.L1.eq_1 <|@G.jT.L1.eq_2) ()) (pp (@jl [] [(109,11),(110,10)] []) <|pp (@jl [] [(109,109),(110,112)] []) ());exact xP
theorem F.je {n:Nat} : ∀{bP r},G.je n bP=some r->iW pZ 151 [.one (w8 bP)] (oB r):=by intro bP r h;refine fV K.je (wR ?_);unfold C.je;rcases n with _|n<;>simp only[G.je,reduceCtorEq]at h;have z:=ny (pp @F.qY ()) (pp (@uG (Int) _ (λn x=>G.je.L1 n bP x) r (λx=>iI.of [(8,.v true (.one (w8 bP))),eI 9 (bP.length:Int),eI 10 x] [])) ()) (pp (bn @G.je.L1.eq_1 <|@G.je.L1.eq_2) ()) (pp (@jl [] [] []) ());exact xP
theorem F.kH {n:Nat} : ∀{bZ r},G.kH n bZ=some r->iW pZ 71 [oS bZ] (oB r):=by intro bZ r h;refine fV K.kH (wR ?_);unfold C.kH;rcases n with _|n<;>simp only[G.kH,reduceCtorEq]at h;have z:=Bc (pp (@uG (Int) _ (λn x=>G.kH.L1 n bZ x) r (λx=>iI.of [eS 0 bZ,eI 3 x] [])) ()) (pp (bn @G.kH.L1.eq_1 <|@G.kH.L1.eq_2) ()) (pp (@jl [] [] []) ());exact xP
theorem F.lV {n:Nat} : ∀{jR r},G.lV n jR=some r->iW pZ 95 [.agg (wQ jR)] (oB r):=by intro jR r h;refine fV K.lV (wR ?_);unfold C.lV;cases n;cases h;simp only[G.lV]at h;have z:=rY (pp @F.kH <|pp @F.jS <|pp @F.gU <|pp @F.je ());exact xP
theorem F.lK {n:Nat} : ∀{AZ r},G.lK n AZ=some r->iW pZ 52 [oI AZ] (oS r):=by intro AZ r h;refine fV K.lK (wR ?_);unfold C.lK;rcases n with _|n<;>simp only[G.lK,reduceCtorEq]at h;have z:=CB;exact xP
theorem B.lays156 : Go.Proofs.Lays.n156 pZ B.ren:=by constructor<;>first|kernel_rfl|(intro w;kernel_rfl)
theorem F.strings_Join {n:Nat} : ∀{Wh:List di} {PW:di} {r:di},G.strings_Join n Wh PW=some r->iW pZ 98 [oT Wh,oS PW] (oS r):=by intro l s r h;rcases n with _|n<;>simp only[G.strings_Join,reduceCtorEq]at h;obtain⟨⟨h0,hl⟩,h⟩:=zy.1 h;exact agE B.lays156 B.x h0 hl (by cases h;rfl)
theorem F.aV {n:Nat} : ∀{jR r},G.aV n jR=some r->iW pZ 56 [.agg (wQ jR)] (oS r):=by intro jR r h;refine fV K.aV (wR ?_);unfold C.aV;rcases n with _|n<;>simp only[G.aV,reduceCtorEq]at h;have:=Mk.mk 1;have:=Mk.mk 2;have:=Mk.mk 3;have:=Mk.mk 4;have z:=Z8 (pp @F.lV <|pp @F.nC <|pp @F.jT <|pp @F.lK <|pp @F.gy <|pp @F.strings_Join ()) (pp (@EZ (Unit) _ (λn x=>G.aV.K1 n jR) r (λx=>iI.of [eP 1 101,eB 36 false] [(101,.var (wQ jR))])) <|pp (@EZ (di) _ (λn x=>G.aV.K2 n jR x) r (λx=>iI.of [eP 1 102,eS 4 x] [(102,.var (wQ jR))])) <|pp (@EZ (Unit) _ (λn x=>G.aV.K3 n jR) r (λx=>iI.of [eP 1 103,eB 36 false] [(103,.var (wQ jR))])) <|pp (@EZ (di) _ (λn x=>G.aV.K4 n jR x) r (λx=>iI.of [eP 1 104,eS 4 x] [(104,.var (wQ jR))])) ()) (pp (bn @G.aV.K1.eq_1 <|bn @G.aV.K1.eq_2 <|bn @G.aV.K2.eq_1 <|bn @G.aV.K2.eq_2 <|bn @G.aV.K3.eq_1 <|bn @G.aV.K3.eq_2 <|bn @G.aV.K4.eq_1 <|@G.aV.K4.eq_2) ()) (pp (@jl [] [(101,10)] []) <|pp (@jl [] [(102,101)] []) <|pp (@jl [] [(103,10)] []) <|pp (@jl [] [(104,103)] []) ()) (pp (pp (rfl : @G.aV.K1=_) ()) <|pp (pp (rfl : @G.aV.K2=_) <|pp (rfl : @G.aV.K1=_) ()) <|pp (pp (rfl : @G.aV.K3=_) ()) <|pp (pp (rfl : @G.aV.K4=_) <|pp (rfl : @G.aV.K3=_) ()) ());exact agV
theorem F.jy {n:Nat} : ∀{aX r},G.jy n aX=some r->iW pZ 148 [.agg (wN aX)] (.AX [(false,[wT r.1]),(false,[wB r.2])]):=by intro aX r h;refine fV K.jy (wR ?_);unfold C.jy;rcases n with _|n<;>simp only[G.jy,reduceCtorEq]at h;have z:=ny (pp @F.kJ ()) (pp (@uG (Int×List di) _ (λn x=>G.jy.L1 n aX x.1 x.2) r (λx=>iI.of [(4,.v true (.one (.own 102 x.2.length 1))),(11,.v true (.one (wK aX.bC))),eI 12 (aX.bC.length:Int),eI 13 x.1] [(102,.dat 1 (aP cS x.2))])) ()) (pp (bn @G.jy.L1.eq_1 <|@G.jy.L1.eq_2) ()) (pp (@jl [] [] [102]) <|pp (@jl [] [(102,13)] []) ());exact xP
theorem F.gV {n:Nat} : ∀{uX Af uV r},G.gV n uX Af uV=some r->iW pZ 51 [oS uX,oI Af,oI uV,.one (.fn 149 [])] (.AX [(false,[wI r.1]),(false,[wB r.2])]):=by intro uX Af uV r h;refine fV K.gV (wR ?_);unfold C.DX;rcases n with _|n<;>simp only[G.gV,reduceCtorEq]at h;have z:=ny (pp @F.qH ()) (pp (@uG (Int) _ (λn x=>G.gV.L1 n uX uV x) r (λx=>iI.of [eS 0 uX,eI 2 uV,(3,.v true (.one (.fn 149 []))),eI 10 x] [])) ()) (pp (bn @G.gV.L1.eq_1 <|@G.gV.L1.eq_2) ()) (pp (@jl [] [] []) ());exact xP
theorem F.slices_Equal_string {n:Nat} : ∀{FD Iy r},G.slices_Equal_string n FD Iy=some r->iW pZ 147 [oT FD,oT Iy] (oB r):=by intro FD Iy r h;refine fV K.slices_Equal_string (wR ?_);unfold C.slices_Equal_string;rcases n with _|n<;>simp only[G.slices_Equal_string,reduceCtorEq]at h;have z:=Bc (pp (@uG (Int) _ (λn x=>G.slices_Equal_string.L1 n FD Iy x) r (λx=>iI.of [eT 0 FD,eT 1 Iy,eI 12 (FD.length:Int),eI 13 x] [])) ()) (pp (bn @G.slices_Equal_string.L1.eq_1 <|@G.slices_Equal_string.L1.eq_2) ()) (pp (@jl [] [] []) ());exact xP
theorem F.pM {n:Nat} : ∀{aX r},G.pM n aX=some r->iW pZ 94 [.agg (wN aX)] (.AX [(true,(wO r.1)),(false,[wB r.2])]):=by intro aX r h;refine fV K.pM (wR ?_);unfold C.pM;rcases n with _|n<;>simp only[G.pM,reduceCtorEq]at h;have z:=J8 (pp @F.gU <|pp @F.slices_Equal_string <|pp @F.jy <|pp @F.fO ()) (pp (pp @F.gV (@cG [] [])) ());exact xP
theorem B.lays172 : Go.Proofs.Lays.n172 pZ B.ren:=by constructor<;>first|kernel_rfl|(intro w;kernel_rfl)
theorem B.aeO : Go.Proofs.LaysM.n172 pZ B.ren:=by constructor<;>first|exact B.lays172|kernel_rfl|(intro w;kernel_rfl)
theorem B.laysC172 : Go.Proofs.LaysC.n172 pZ B.ren:=by constructor<;>first|exact B.aeO|kernel_rfl|(intro w;kernel_rfl)
theorem F.strconv_Atoi {n:Nat} : ∀{bZ:di} {r:Int×Bool},G.strconv_Atoi n bZ=some r->iW pZ 180 [oS bZ] (.AX [(false,[wI r.1]),(false,[.err r.2])]):=by intro s r h;rcases n with _|n<;>simp only[G.strconv_Atoi,reduceCtorEq]at h;obtain⟨hl,h⟩:=zy.1 h;exact agC B.laysC172 hl (by cases h;rfl)
theorem F.dO {n:Nat} : ∀{jf r},G.dO n jf=some r->oN pZ 145 [.one (.ptr 0 0)] [.var [wS jf.text,wI jf.at_]] (λr1 b1=>r1 = .AX [(true,(wN r.1)),(false,[wB r.2.1])]/\b1=[.var [wS r.2.2.text,wI r.2.2.at_]]):=by intro jf r h;refine vJ K.dO (wR ?_);unfold C.dO;rcases n with _|n<;>simp only[G.dO,reduceCtorEq]at h;have z:=adq (pp @F.strconv_Atoi <|pp @F.strconv_Itoa ()) (pp (@uG (Int) _ (λn x=>G.dO.L1 n jf x) r (λx=>iI.of [eP 0 0,eP 2 103,eI 4 x] [(0,.var [wS jf.text,wI jf.at_]),(103,.var zN)])) ()) (pp (bn @G.dO.L1.eq_1 <|@G.dO.L1.eq_2) ()) (pp (@jl [] [(0,0),(103,10)] []) <|pp (@jl [] [(0,0),(103,103)] []) ()) (pp (@Fh [] [(0,0)] []) ());exact xP
theorem B.lays99 : Go.Proofs.Lays.n99 pZ B.ren:=by constructor<;>first|kernel_rfl|(intro w;kernel_rfl)
theorem F.strings_HasPrefix {n:Nat} : ∀{bZ:di} {Tc:di} {r:Bool},G.strings_HasPrefix n bZ Tc=some r->iW pZ 146 [oS bZ,oS Tc] (oB r):=by intro s p r h;rcases n with _|n<;>simp only[G.strings_HasPrefix,reduceCtorEq]at h;exact UB B.lays99 (by cases h;rfl)
theorem F.iJ {n:Nat} : ∀{jf bZ r},G.iJ n jf bZ=some r->oN pZ 93 [.one (.ptr 0 0),oS bZ] [.var [wS jf.text,wI jf.at_]] (λr1 b1=>r1=oB r.1/\b1=[.var [wS r.2.text,wI r.2.at_]]):=by intro jf bZ r h;refine vJ K.iJ (wR ?_);unfold C.iJ;rcases n with _|n<;>simp only[G.iJ,reduceCtorEq]at h;have z:=adp (pp @F.strings_HasPrefix ()) (pp (@Fh [] [(0,0)] []) ());exact xP
theorem F.bQ {n:Nat} : ∀{jf r},G.bQ n jf=some r->oN pZ 143 [.one (.ptr 0 0)] [.var [wS jf.text,wI jf.at_]] (λr1 b1=>r1 = .AX [(false,[wS r.1]),(false,[wB r.2.1])]/\b1=[.var [wS r.2.2.text,wI r.2.2.at_]]):=by intro jf r h;refine vJ K.bQ (wR ?_);unfold C.bQ;rcases n with _|n<;>simp only[G.bQ,reduceCtorEq]at h;have z:=J6 (pp (pp @F.iJ (@cG [0] [])) <|pp (pp @F.kG (@cG [111,112] [])) <|pp (pp @F.bz (@cG [113,114] [115])) ()) (pp (@uG ((Bool×bg)×Int×di) _ (λn x=>G.bQ.L3 n x.1 x.2.1 x.2.2) r (λx=>iI.of [eP 0 0,eP 4 111] [(0,.var [wS x.1.2.text,wI x.2.1]),(111,.var [.opt 171 111,.uM 112 x.2.2.length]),(112,.row 5 x.2.2)])) ()) (pp (@EZ ((Bool×bg)×di×Int×Int) _ (λn x=>G.bQ.K4 n x.1 x.2.1 x.2.2.1 x.2.2.2) r (λx=>iI.of [eP 0 0,eP 4 113,(5,.v true (.one (.c (.lit (.int .u8 x.2.2.1)))))] [(0,.var [wS x.1.2.text,wI x.2.2.2]),(113,.var [.opt 171 113,.uM 114 x.2.1.length]),(114,.row 5 x.2.1)])) ()) (pp (bn @G.bQ.L3.eq_1 <|bn @G.bQ.L3.eq_2 <|bn @G.bQ.K4.eq_1 <|@G.bQ.K4.eq_2) ()) (pp (@jl [] [(0,0),(111,11),(112,10)] []) <|pp (@jl [] [(0,0),(113,111),(114,112)] []) <|pp (@jl [] [(0,0),(111,113),(112,115)] []) ()) (pp (@Fh [] [(0,0)] []) ());exact xP
theorem F.Ea : ∀(n:Nat),(∀{jf lD r},G.iw n jf lD=some r->oN pZ 92 [.one (.ptr 0 0),oI lD] [.var [wS jf.text,wI jf.at_]] (λr1 b1=>r1 = .AX [(true,(wN r.1)),(false,[wB r.2.1])]/\b1=[.var [wS r.2.2.text,wI r.2.2.at_]]))/\(∀{jf qx lD rO r},G.dh n jf qx lD rO=some r->oN pZ 144 [.one (.ptr 0 0),oI qx,oI lD,oS rO] [.var [wS jf.text,wI jf.at_]] (λr1 b1=>r1 = .AX [(true,(wN r.1)),(false,[wB r.2.1])]/\b1=[.var [wS r.2.2.text,wI r.2.2.at_]])):=by
 intro n
 induction n using fC with|_ n ih=>
 refine⟨?_,?_⟩
 ·intro jf lD r h;refine vJ K.iw (wR ?_);unfold C.iw;rcases n with _|n<;>simp only[G.iw,reduceCtorEq]at h;have z:=Uy (pp (pp (ihR ih) (@cG [0] [])) <|pp (pp @F.iJ (@cG [0] [])) <|pp (pp @F.bQ (@cG [0] [])) <|pp (pp @F.dO (@cG [0] [])) ()) (pp (@Fh [] [(0,0)] []) ());exact xP
 ·intro jf qx lD rO r h;refine vJ K.dh (wR ?_);unfold C.dh;rcases n with _|n<;>simp only[G.dh,reduceCtorEq]at h;have z:=J6 (pp (pp (ihL ih) (@cG [0] [])) <|pp (pp @F.iJ (@cG [0] [])) <|pp (pp @F.bQ (@cG [0] [])) ()) (pp (@uG (di×Int×List di×List au) _ (λn x=>G.dh.L3 n qx lD rO x.1 x.2.1 x.2.2.1 x.2.2.2) r (λx=>iI.of [eP 0 0,eI 1 qx,eI 2 lD,eS 3 rO,eP 8 114,eP 10 115] [(0,.var [wS x.1,wI x.2.1]),(114,.var zN),(115,.var [wI qx,wI 0,.c (.str []),.own 116 x.2.2.1.length 1,.own 117 x.2.2.2.length 5]),(116,.dat 1 (aP cS x.2.2.1)),(117,.dat 5 (aP au.cells x.2.2.2))])) ()) (pp (@EZ (List au×di×Int×List di) _ (λn x=>G.dh.K4 n qx lD rO x.1 x.2.1 x.2.2.1 x.2.2.2) r (λx=>iI.of [eP 0 0,eI 1 qx,eI 2 lD,eS 3 rO,eP 8 118,eP 10 119] [(0,.var [wS x.2.1,wI x.2.2.1]),(118,.var zN),(119,.var [wI qx,wI 0,.c (.str []),.own 120 x.2.2.2.length 1,.own 121 x.1.length 5]),(120,.dat 1 (aP cS x.2.2.2)),(121,.dat 5 (aP au.cells x.1))])) ()) (pp (bn @G.dh.L3.eq_1 <|bn @G.dh.L3.eq_2 <|bn @G.dh.K4.eq_1 <|@G.dh.K4.eq_2) ()) (pp (@jl [] [(0,0),(114,10),(115,11)] [116,117]) <|pp (@jl [] [(0,0),(118,114),(119,115),(120,13),(121,117)] []) <|pp (@jl [] [(0,0),(118,114),(119,115),(120,116),(121,117)] []) <|pp (@jl [] [(0,0),(114,118),(115,119),(116,120),(117,16)] []) ()) (pp (@Fh [] [(0,0)] []) <|pp (@Fh [16,120] [(0,0)] []) ());exact xP
theorem F.iw {n:Nat} : ∀{jf:bg} {lD:Int} {r:au×Bool×bg},G.iw n jf lD=some r->oN pZ 92 [.one (.ptr 0 0),oI lD] [.var [wS jf.text,wI jf.at_]] (λr1 b1=>r1 = .AX [(true,(wN r.1)),(false,[wB r.2.1])]/\b1=[.var [wS r.2.2.text,wI r.2.2.at_]]):=(F.Ea n).1
theorem F.oO {n:Nat} : ∀{bZ r},G.oO n bZ=some r->iW pZ 55 [oS bZ] (.AX [(true,(wN r.1)),(false,[wB r.2])]):=by intro bZ r h;refine fV K.oO (wR ?_);unfold C.oO;rcases n with _|n<;>simp only[G.oO,reduceCtorEq]at h;have z:=J8 (pp @F.gU <|pp @F.fO ()) (pp (pp @F.iw (@cG [11] [])) ());exact xP
theorem B.lays143 : Go.Proofs.Lays.n143 pZ B.ren:=by constructor<;>first|kernel_rfl|(intro w;kernel_rfl)
theorem F.ru {n:Nat} : ∀{bZ:di} {r:List di×Bool},G.ru n bZ=some r->iW pZ 53 [oS bZ] (.AX [(false,[wT r.1]),(false,[wB r.2])]):=by intro s r h;rcases n with _|n<;>simp only[G.ru,reduceCtorEq]at h;obtain⟨hl,h⟩:=zy.1 h;exact Go.Proofs.UC B.lays143 oK oK (λy hy=>(T.nD y (by unfold big;omega)).val.elim λm hm=>F.nD hm) hl (by cases h;rfl)
theorem F.fD {n:Nat} : ∀{uX Af uV r},G.fD n uX Af uV=some r->iW pZ 51 [oS uX,oI Af,oI uV,.one (.fn 52 [])] (.AX [(false,[wI r.1]),(false,[wB r.2])]):=by intro uX Af uV r h;refine fV K.fD (wR ?_);unfold C.DX;rcases n with _|n<;>simp only[G.fD,reduceCtorEq]at h;have z:=ny (pp @F.lK ()) (pp (@uG (Int) _ (λn x=>G.fD.L1 n uX uV x) r (λx=>iI.of [eS 0 uX,eI 2 uV,(3,.v true (.one (.fn 52 []))),eI 10 x] [])) ()) (pp (bn @G.fD.L1.eq_1 <|@G.fD.L1.eq_2) ()) (pp (@jl [] [] []) ());exact xP
theorem F.lu {n:Nat} : ∀{bZ r},G.lu n bZ=some r->iW pZ 54 [oS bZ] (.AX [(false,[w8 r.1]),(false,[wB r.2])]):=by intro bZ r h;refine fV K.lu (wR ?_);unfold C.lu;rcases n with _|n<;>simp only[G.lu,reduceCtorEq]at h;have z:=Ou (pp @F.pM ()) (pp (pp @F.iw (@cG [105] [])) <|pp (pp @F.iJ (@cG [105] [])) ()) (pp (@uG (List o6×di×Int) _ (λn x=>G.lu.L1 n bZ x.1 x.2.1 x.2.2) r (λx=>iI.of [eS 0 bZ,(4,.v true (.one (.own 104 x.1.length 8))),eP 5 105] [(104,.dat 8 (aP o6.cells x.1)),(105,.var [wS x.2.1,wI x.2.2])])) ()) (pp (bn @G.lu.L1.eq_1 <|@G.lu.L1.eq_2) ()) (pp (@jl [] [(105,10)] [104]) <|pp (@jl [] [(104,14),(105,105)] []) ());exact xP
theorem B.lays147 : Go.Proofs.Lays.n147 pZ B.ren:=by constructor<;>first|kernel_rfl|(intro w;kernel_rfl)
theorem F.strings_SplitN {n:Nat} : ∀{bZ PW:di} {aX:Int} {r:List di},G.strings_SplitN n bZ PW aX=some r->iW pZ 50 [oS bZ,oS PW,oI aX] (oT r):=by intro s sep k r h;rcases n with _|n<;>simp only[G.strings_SplitN,reduceCtorEq]at h;obtain⟨⟨h1,h2,h3,h4⟩,h⟩:=zy.1 h;exact abw B.lays147 oK h1 h2 h3 h4 oK (by cases h;rfl)
theorem F.jh {n:Nat} : ∀{bZ r},G.jh n bZ=some r->iW pZ 19 [oS bZ] (.AX [(true,(wQ r.1)),(false,[wB r.2])]):=by intro bZ r h;refine fV K.jh (wR ?_);unfold C.jh;rcases n with _|n<;>simp only[G.jh,reduceCtorEq]at h;have z:=adr (pp @F.strings_SplitN <|pp @F.ru <|pp @F.lu <|pp @F.oO <|pp @F.aV ()) (pp (pp @F.fD (@cG [] [])) ()) (pp (@EZ (List di×(Int×Bool)×(List di×Bool)×(List di×Bool)×Bool×Int×Int×di×List di×List au×List o6) _ (λn x=>G.jh.K1 n bZ x.1 x.2.1 x.2.2.1 x.2.2.2.1 x.2.2.2.2.1 x.2.2.2.2.2.1 x.2.2.2.2.2.2.1 x.2.2.2.2.2.2.2.1 x.2.2.2.2.2.2.2.2.1 x.2.2.2.2.2.2.2.2.2.1 x.2.2.2.2.2.2.2.2.2.2) r (λx=>iI.of [eS 0 bZ,eP 2 101,eP 11 102,eB 12 x.2.2.2.2.1] [(101,.var [wI 0,.c (.str []),.mM 1,.mM 1,wI 0,wI 0,.c (.str []),.mM 1,.mM 5,.mM 8]),(102,.var [wI x.2.1.1,wS (x.1.getD 1 default),wT x.2.2.1.1,wT x.2.2.2.1.1,wI x.2.2.2.2.2.1,wI x.2.2.2.2.2.2.1,wS x.2.2.2.2.2.2.2.1,wT x.2.2.2.2.2.2.2.2.1,wK x.2.2.2.2.2.2.2.2.2.1,w8 x.2.2.2.2.2.2.2.2.2.2])])) ()) (pp (bn @G.jh.K1.eq_1 <|@G.jh.K1.eq_2) ()) (pp (@jl [] [(101,10),(102,11)] []) ());exact xP
theorem F.jC {n:Nat} : ∀{iF kR r},G.jC n iF kR=some r->iW pZ 13 [oT iF,oT kR] (oB r):=by intro iF kR r h;refine fV K.jC (wR ?_);unfold C.jC;rcases n with _|n<;>simp only[G.jC,reduceCtorEq]at h;have z:=Bc (pp (@uG (Int) _ (λn x=>G.jC.L1 n iF kR x) r (λx=>iI.of [eT 0 iF,eT 1 kR,eI 5 x] [])) ()) (pp (bn @G.jC.L1.eq_1 <|@G.jC.L1.eq_2) ()) (pp (@jl [] [] []) ());exact xP
theorem F.O6 : ∀(n:Nat),(∀{iF kR r},G.pU n iF kR=some r->iW pZ 57 [.agg (wN iF),.agg (wN kR)] (oB r))/\(∀{iF kR r},G.nI n iF kR=some r->iW pZ 100 [.one (wK iF),.one (wK kR)] (oB r)):=by
 intro n
 induction n using fC with|_ n ih=>
 refine⟨?_,?_⟩
 ·intro iF kR r h;refine fV K.pU (wR ?_);unfold C.pU;cases n;cases h;simp only[G.pU]at h;have z:=rY (pp ((ihR ih)) <|pp @F.jC ());exact xP
 ·intro iF kR r h;refine fV K.nI (wR ?_);unfold C.nI;rcases n with _|n<;>simp only[G.nI,reduceCtorEq]at h;have z:=ny (pp ((ihL ih)) ()) (pp (@uG (Int) _ (λn x=>G.nI.L1 n iF kR x) r (λx=>iI.of [(0,.v true (.one (wK iF))),(1,.v true (.one (wK kR))),eI 5 x] [])) ()) (pp (bn @G.nI.L1.eq_1 <|@G.nI.L1.eq_2) ()) (pp (@jl [] [] []) ());exact xP
theorem F.pU {n:Nat} : ∀{iF:au} {kR:au} {r:Bool},G.pU n iF kR=some r->iW pZ 57 [.agg (wN iF),.agg (wN kR)] (oB r):=(F.O6 n).1
theorem F.xQ {n:Nat} : ∀{iF kR r},G.xQ n iF kR=some r->iW pZ 101 [.agg (wO iF),.agg (wO kR)] (oB r):=by intro iF kR r h;refine fV K.xQ (wR ?_);unfold C.xQ;cases n;cases h;simp only[G.xQ]at h;have z:=rY (pp @F.jC <|pp @F.pU ());exact xP
theorem F.oZ {n:Nat} : ∀{iF kR r},G.oZ n iF kR=some r->iW pZ 58 [.one (w8 iF),.one (w8 kR)] (oB r):=by intro iF kR r h;refine fV K.oZ (wR ?_);unfold C.oZ;rcases n with _|n<;>simp only[G.oZ,reduceCtorEq]at h;have z:=ny (pp @F.xQ ()) (pp (@uG (Int) _ (λn x=>G.oZ.L1 n iF kR x) r (λx=>iI.of [(0,.v true (.one (w8 iF))),(1,.v true (.one (w8 kR))),eI 5 x] [])) ()) (pp (bn @G.oZ.L1.eq_1 <|@G.oZ.L1.eq_2) ()) (pp (@jl [] [] []) ());exact xP
theorem F.pI {n:Nat} : ∀{iF kR r},G.pI n iF kR=some r->iW pZ 20 [.agg (wQ iF),.agg (wQ kR)] (oB r):=by intro iF kR r h;refine fV K.pI (wR ?_);unfold C.pI;cases n;cases h;simp only[G.pI]at h;have z:=rY (pp @F.jC <|pp @F.pU <|pp @F.oZ ());exact xP
theorem F.jF {n:Nat} : ∀{yT r},G.jF n yT=some r->iW pZ 40 [oI yT] (oS r):=by intro yT r h;refine fV K.jF (wR ?_);unfold C.jF;rcases n with _|n<;>simp only[G.jF,reduceCtorEq]at h;have z:=Bc (pp (@uG (Int×di) _ (λn x=>G.jF.L1 n x.1 x.2) r (λx=>iI.of [eI 0 x.1,eS 3 x.2] [])) ()) (pp (bn @G.jF.L1.eq_1 <|@G.jF.L1.eq_2) ()) (pp (@jl [] [] []) ());exact xP
theorem F.iD {n:Nat} : ∀{iF yT r},G.iD n iF yT=some r->iW pZ 42 [oT iF,oI yT] (oI r):=by intro iF yT r h;refine fV K.iD (wR ?_);unfold C.iD;rcases n with _|n<;>simp only[G.iD,reduceCtorEq]at h;have z:=ny (pp @F.jF ()) (pp (@uG (Int×Int) _ (λn x=>G.iD.L1 n iF x.1 x.2) r (λx=>iI.of [eT 0 iF,eI 1 x.1,eI 5 x.2] [])) ()) (pp (bn @G.iD.L1.eq_1 <|@G.iD.L1.eq_2) ()) (pp (@jl [] [] []) ());exact xP
theorem F.NZ : ∀(n:Nat),∀{iF yT r},G.jD n iF yT=some r->iW pZ 43 [.one (wK iF),oI yT] (oI r):=by
 intro n
 induction n using fC with|_ n ih=>
 intro iF yT r h;refine fV K.jD (wR ?_);unfold C.jD;rcases n with _|n<;>simp only[G.jD,reduceCtorEq]at h;have z:=ny (pp ih <|pp @F.jF <|pp @F.iD ()) (pp (@uG (Int×Int) _ (λn x=>G.jD.L1 n iF x.1 x.2) r (λx=>iI.of [(0,.v true (.one (wK iF))),eI 1 x.1,eI 5 x.2] [])) ()) (pp (bn @G.jD.L1.eq_1 <|@G.jD.L1.eq_2) ()) (pp (@jl [] [] []) ());exact xP
theorem F.jD {n:Nat} : ∀{iF:List au} {yT:Int} {r:Int},G.jD n iF yT=some r->iW pZ 43 [.one (wK iF),oI yT] (oI r):=F.NZ n
theorem F.rF {n:Nat} : ∀{iF yT r},G.rF n iF yT=some r->iW pZ 61 [.agg (wN iF),oI yT] (oI r):=by intro iF yT r h;refine fV K.rF (wR ?_);unfold C.rF;cases n;cases h;simp only[G.rF]at h;have z:=rY (pp @F.iD <|pp @F.jD ());exact xP
theorem F.l9 {n:Nat} : ∀{iF yT r},G.l9 n iF yT=some r->iW pZ 62 [.one (w8 iF),oI yT] (oI r):=by intro iF yT r h;refine fV K.l9 (wR ?_);unfold C.l9;rcases n with _|n<;>simp only[G.l9,reduceCtorEq]at h;have z:=ny (pp @F.iD <|pp @F.jF <|pp @F.jD ()) (pp (@uG (Int×Int) _ (λn x=>G.l9.L1 n iF x.1 x.2) r (λx=>iI.of [(0,.v true (.one (w8 iF))),eI 1 x.1,eI 5 x.2] [])) ()) (pp (bn @G.l9.L1.eq_1 <|@G.l9.L1.eq_2) ()) (pp (@jl [] [] []) ());exact xP
theorem F.oM {n:Nat} : ∀{iF yT r},G.oM n iF yT=some r->iW pZ 22 [.agg (wQ iF),oI yT] (oI r):=by intro iF yT r h;refine fV K.oM (wR ?_);unfold C.oM;cases n;cases h;simp only[G.oM]at h;have z:=rY (pp @F.iD <|pp @F.rF <|pp @F.l9 ());exact xP
theorem F.gK {n:Nat} : ∀{aX PV LC r},G.gK n aX PV LC=some r->iW pZ 66 [oI aX,oI PV,oI LC] (oB r):=by intro aX PV LC r h;refine fV K.gK (wR ?_);unfold C.gK;rcases n with _|n<;>simp only[G.gK,reduceCtorEq]at h;have z:=CB;exact xP
theorem F.kL {n:Nat} : ∀{bZ r},G.kL n bZ=some r->iW pZ 125 [oS bZ] (oB r):=by intro bZ r h;refine fV K.kL (wR ?_);unfold C.kL;rcases n with _|n<;>simp only[G.kL,reduceCtorEq]at h;have z:=ny (pp @F.gK ()) (pp (@uG (Int) _ (λn x=>G.kL.L1 n bZ x) r (λx=>iI.of [eS 0 bZ,eI 3 x] [])) ()) (pp (bn @G.kL.L1.eq_1 <|@G.kL.L1.eq_2) ()) (pp (@jl [] [] []) ());exact xP
theorem F.iG {n:Nat} : ∀{bP r},G.iG n bP=some r->iW pZ 81 [oT bP] (oB r):=by intro bP r h;refine fV K.iG (wR ?_);unfold C.iG;rcases n with _|n<;>simp only[G.iG,reduceCtorEq]at h;have z:=ny (pp @F.kL ()) (pp (@uG (Int) _ (λn x=>G.iG.L1 n bP x) r (λx=>iI.of [eT 0 bP,eI 3 x] [])) ()) (pp (bn @G.iG.L1.eq_1 <|@G.iG.L1.eq_2) ()) (pp (@jl [] [] []) ());exact xP
theorem F.fG {n:Nat} : ∀{bP r},G.fG n bP=some r->iW pZ 80 [oT bP] (oS r):=by intro bP r h;refine fV K.fG (wR ?_);unfold C.fG;rcases n with _|n<;>simp only[G.fG,reduceCtorEq]at h;have z:=J7 (pp @F.iG ()) (pp (@uG (di×Int) _ (λn x=>G.fG.L3 n bP x.1 x.2) r (λx=>iI.of [eT 0 bP,eS 3 x.1,eI 4 x.2] [])) ()) (pp (@EZ (Int×di) _ (λn x=>G.fG.K4 n bP x.1 x.2) r (λx=>iI.of [eT 0 bP,eS 3 x.2,eI 4 x.1] [])) ()) (pp (bn @G.fG.L3.eq_1 <|bn @G.fG.L3.eq_2 <|bn @G.fG.K4.eq_1 <|@G.fG.K4.eq_2) ()) (pp (@jl [] [] []) ());exact xP
theorem F.Rx : ∀(n:Nat),∀{aX r},G.mZ n aX=some r->iW pZ 133 [oI aX] (oS r):=by
 intro n
 induction n using fC with|_ n ih=>
 intro aX r h;refine fV K.mZ (wR ?_);unfold C.mZ;cases n;cases h;simp only[G.mZ]at h;have z:=rY (pp ih ());exact xP
theorem F.mZ {n:Nat} : ∀{aX:Int} {r:di},G.mZ n aX=some r->iW pZ 133 [oI aX] (oS r):=F.Rx n
theorem F.lU {n:Nat} : ∀{bZ r},G.lU n bZ=some r->iW pZ 134 [oS bZ] (oS r):=by intro bZ r h;refine fV K.lU (wR ?_);unfold C.lU;rcases n with _|n<;>simp only[G.lU,reduceCtorEq]at h;have z:=Bc (pp (@uG (di×Int) _ (λn x=>G.lU.L1 n bZ x.1 x.2) r (λx=>iI.of [eS 0 bZ,eS 3 x.1,eI 4 x.2] [])) ()) (pp (bn @G.lU.L1.eq_1 <|@G.lU.L1.eq_2) ()) (pp (@jl [] [] []) ());exact xP
theorem F.SQ : ∀(n:Nat),∀{aX r},G.gu n aX=some r->iW pZ 85 [.agg (wN aX)] (oS r):=by
 intro n
 induction n using fC with|_ n ih=>
 intro aX r h;refine fV K.gu (wR ?_);unfold C.gu;rcases n with _|n<;>simp only[G.gu,reduceCtorEq]at h;have:=Mk.mk 1;have:=Mk.mk 2;have z:=Z9 (pp ih <|pp @F.mZ <|pp @F.lU ()) (pp (@uG (di×Int) _ (λn x=>G.gu.L5 n aX x.1 x.2) r (λx=>iI.of [eP 1 107,eS 3 x.1,eI 4 x.2] [(107,.var (wN aX))])) ()) (pp (@EZ (Int×di) _ (λn x=>G.gu.K6 n aX x.1 x.2) r (λx=>iI.of [eP 1 108,eS 3 x.2,eI 4 x.1] [(108,.var (wN aX))])) <|pp (@EZ (Int×di) _ (λn x=>G.gu.K7 n aX x.1 x.2) r (λx=>iI.of [eP 1 109,eS 3 x.2,eI 4 x.1] [(109,.var (wN aX))])) ()) (pp (bn @G.gu.L5.eq_1 <|bn @G.gu.L5.eq_2 <|bn @G.gu.K6.eq_1 <|bn @G.gu.K6.eq_2 <|bn @G.gu.K7.eq_1 <|@G.gu.K7.eq_2) ()) (pp (@jl [] [(107,10)] []) <|pp (@jl [] [(108,107)] []) <|pp (@jl [] [(109,108)] []) <|pp (@jl [] [(107,109)] []) ()) (pp (pp (rfl : @G.gu.K6=_) <|pp (rfl : @G.gu.L5=_) <|pp (rfl : @G.gu.K7=_) ()) <|pp (pp (rfl : @G.gu.K7=_) <|pp (rfl : @G.gu.K6=_) <|pp (rfl : @G.gu.L5=_) ()) ());exact agV
theorem F.gu {n:Nat} : ∀{aX:au} {r:di},G.gu n aX=some r->iW pZ 85 [.agg (wN aX)] (oS r):=F.SQ n
theorem F.O7 : ∀(n:Nat),∀{aX r},G.iT n aX=some r->iW pZ 106 [.agg (wN aX)] (.agg (wN r)):=by
 intro n
 induction n using fC with|_ n ih=>
 intro aX r h;refine fV K.iT (wR ?_);unfold C.iT;rcases n with _|n<;>simp only[G.iT,reduceCtorEq]at h;have z:=ny (pp ih ()) (pp (@uG (Int×List au) _ (λn x=>G.iT.L1 n aX x.1 x.2) r (λx=>iI.of [eP 1 107,eP 2 108,(3,.v true (.one (.own 109 x.2.length 5))),eI 4 x.1] [(107,.var (wN aX)),(108,.var zN),(109,.dat 5 (aP au.cells x.2))])) ()) (pp (bn @G.iT.L1.eq_1 <|@G.iT.L1.eq_2) ()) (pp (@jl [] [(107,10),(108,11),(109,12)] []) <|pp (@jl [] [(107,107),(108,108),(109,14)] []) ());exact xP
theorem F.iT {n:Nat} : ∀{aX:au} {r:au},G.iT n aX=some r->iW pZ 106 [.agg (wN aX)] (.agg (wN r)):=F.O7 n
theorem F.qM {n:Nat} : ∀{r},G.qM n=some r->iW pZ 129 [] (oT r):=by intro r h;refine fV K.qM (wR ?_);unfold C.qM;rcases n with _|n<;>simp only[G.qM,reduceCtorEq]at h;have z:=CB;exact xP
theorem F.uN {n:Nat} : ∀{bZ r},G.uN n bZ=some r->iW pZ 137 [oS bZ] (.agg (wN r)):=by intro bZ r h;refine fV K.uN (wR ?_);unfold C.uN;rcases n with _|n<;>simp only[G.uN,reduceCtorEq]at h;have z:=CB;exact xP
theorem F.oJ {n:Nat} : ∀{kF r},G.oJ n kF=some r->iW pZ 136 [oT kF] (.agg (wN r)):=by intro kF r h;refine fV K.oJ (wR ?_);unfold C.oJ;rcases n with _|n<;>simp only[G.oJ,reduceCtorEq]at h;have z:=ny (pp @F.uN ()) (pp (@uG (Int×List au) _ (λn x=>G.oJ.L1 n kF x.1 x.2) r (λx=>iI.of [eT 0 kF,eP 2 105,(3,.v true (.one (.own 106 x.2.length 5))),eI 4 x.1] [(105,.var zN),(106,.dat 5 (aP au.cells x.2))])) ()) (pp (bn @G.oJ.L1.eq_1 <|@G.oJ.L1.eq_2) ()) (pp (@jl [] [(105,10),(106,11)] []) <|pp (@jl [] [(105,105),(106,13)] []) ());exact xP
theorem F.nY {n:Nat} : ∀{yU r},G.nY n yU=some r->iW pZ 87 [.agg (wO yU)] (.agg (wN r)):=by intro yU r h;refine fV K.nY (wR ?_);unfold C.nY;cases n;cases h;simp only[G.nY]at h;have z:=rY (pp @F.oJ <|pp @F.qM <|pp @F.uN <|pp @F.iT ());exact xP
theorem F.tY {n:Nat} : ∀{r},G.tY n=some r->iW pZ 45 [] (oT r):=by intro r h;refine fV K.tY (wR ?_);unfold C.tY;rcases n with _|n<;>simp only[G.tY,reduceCtorEq]at h;have z:=CB;exact xP
theorem F.jo {n:Nat} : ∀{jR r},G.jo n jR=some r->iW pZ 88 [.agg (wQ jR)] (oS r):=by intro jR r h;refine fV K.jo (wR ?_);unfold C.jo;rcases n with _|n<;>simp only[G.jo,reduceCtorEq]at h;have z:=ny (pp @F.tY <|pp @F.fG <|pp @F.nY <|pp @F.gu ()) (pp (@uG (di×Int) _ (λn x=>G.jo.L1 n jR x.1 x.2) r (λx=>iI.of [eP 1 103,eS 3 x.1,eI 4 x.2] [(103,.var (wQ jR))])) ()) (pp (bn @G.jo.L1.eq_1 <|@G.jo.L1.eq_2) ()) (pp (@jl [] [(103,10)] []) <|pp (@jl [] [(103,103)] []) ());exact xP
theorem F.VO : ∀(n:Nat),∀{aX r},G.lT n aX=some r->iW pZ 104 [.agg (wN aX)] (oI r):=by
 intro n
 induction n using fC with|_ n ih=>
 intro aX r h;refine fV K.lT (wR ?_);unfold C.lT;rcases n with _|n<;>simp only[G.lT,reduceCtorEq]at h;have z:=ny (pp ih ()) (pp (@uG (Int×Int) _ (λn x=>G.lT.L1 n aX x.1 x.2) r (λx=>iI.of [eP 1 103,eI 3 x.1,eI 4 x.2] [(103,.var (wN aX))])) ()) (pp (bn @G.lT.L1.eq_1 <|@G.lT.L1.eq_2) ()) (pp (@jl [] [(103,10)] []) <|pp (@jl [] [(103,103)] []) ());exact xP
theorem F.lT {n:Nat} : ∀{aX:au} {r:Int},G.lT n aX=some r->iW pZ 104 [.agg (wN aX)] (oI r):=F.VO n
theorem F.iV {n:Nat} : ∀{bZ r},G.iV n bZ=some r->iW pZ 67 [oS bZ] (oB r):=by intro bZ r h;refine fV K.iV (wR ?_);unfold C.iV;rcases n with _|n<;>simp only[G.iV,reduceCtorEq]at h;have z:=ny (pp @F.gK ()) (pp (@uG (Int) _ (λn x=>G.iV.L1 n bZ x) r (λx=>iI.of [eS 0 bZ,eI 3 x] [])) ()) (pp (bn @G.iV.L1.eq_1 <|@G.iV.L1.eq_2) ()) (pp (@jl [] [] []) ());exact xP
theorem F.mQ {n:Nat} : ∀{bP r},G.mQ n bP=some r->iW pZ 161 [oT bP] (oB r):=by intro bP r h;refine fV K.mQ (wR ?_);unfold C.mQ;rcases n with _|n<;>simp only[G.mQ,reduceCtorEq]at h;have z:=ny (pp @F.iV ()) (pp (@uG (Int) _ (λn x=>G.mQ.L1 n bP x) r (λx=>iI.of [eT 0 bP,eI 3 x] [])) ()) (pp (bn @G.mQ.L1.eq_1 <|@G.mQ.L1.eq_2) ()) (pp (@jl [] [] []) ());exact xP
theorem F.SL : ∀(n:Nat),(∀{aX iq r},G.o7 n aX iq=some r->iW pZ 160 [.agg (wN aX),oI iq] (oB r))/\(∀{aX iq r},G.ji n aX iq=some r->iW pZ 103 [.agg (wN aX),oI iq] (oB r)):=by
 intro n
 induction n using fC with|_ n ih=>
 refine⟨?_,?_⟩
 ·intro aX iq r h;refine fV K.o7 (wR ?_);unfold C.o7;rcases n with _|n<;>simp only[G.o7,reduceCtorEq]at h;have z:=ny (pp ((ihR ih)) ()) (pp (@uG (Int) _ (λn x=>G.o7.L1 n aX iq x) r (λx=>iI.of [eI 1 iq,eP 2 103,eI 5 x] [(103,.var (wN aX))])) ()) (pp (bn @G.o7.L1.eq_1 <|@G.o7.L1.eq_2) ()) (pp (@jl [] [(103,10)] []) <|pp (@jl [] [(103,103)] []) ());exact xP
 ·intro aX iq r h;refine fV K.ji (wR ?_);unfold C.ji;rcases n with _|n<;>simp only[G.ji,reduceCtorEq]at h;have z:=Uz (pp ((ihL ih)) <|pp @F.gK <|pp @F.iV <|pp @F.mQ ()) (pp (@EZ (Unit) _ (λn x=>G.ji.K1 n aX iq) r (λx=>iI.of [eI 1 iq,eP 2 101,eB 54 false] [(101,.var (wN aX))])) ()) (pp (bn @G.ji.K1.eq_1 <|@G.ji.K1.eq_2) ()) (pp (@jl [] [(101,10)] []) ());exact xP
theorem F.ji {n:Nat} : ∀{aX:au} {iq:Int} {r:Bool},G.ji n aX iq=some r->iW pZ 103 [.agg (wN aX),oI iq] (oB r):=(F.SL n).2
theorem F.iU {n:Nat} : ∀{aX r},G.iU n aX=some r->iW pZ 65 [.agg (wN aX)] (oB r):=by intro aX r h;refine fV K.iU (wR ?_);unfold C.iU;cases n;cases h;simp only[G.iU]at h;have z:=rY (pp @F.ji <|pp @F.lT ());exact xP
theorem F.jr {n:Nat} : ∀{bZ r},G.jr n bZ=some r->iW pZ 64 [oS bZ] (oB r):=by intro bZ r h;refine fV K.jr (wR ?_);unfold C.jr;rcases n with _|n<;>simp only[G.jr,reduceCtorEq]at h;have z:=ny (pp @F.gK ()) (pp (@uG (Int) _ (λn x=>G.jr.L1 n bZ x) r (λx=>iI.of [eS 0 bZ,eI 3 x] [])) ()) (pp (bn @G.jr.L1.eq_1 <|@G.jr.L1.eq_2) ()) (pp (@jl [] [] []) ());exact xP
theorem F.jE {n:Nat} : ∀{kF r},G.jE n kF=some r->iW pZ 25 [oT kF] (oB r):=by intro kF r h;refine fV K.jE (wR ?_);unfold C.jE;rcases n with _|n<;>simp only[G.jE,reduceCtorEq]at h;have z:=ny (pp @F.iV ()) (pp (@uG (Int) _ (λn x=>G.jE.L1 n kF x) r (λx=>iI.of [eT 0 kF,eI 3 x] [])) ()) (pp (bn @G.jE.L1.eq_1 <|@G.jE.L1.eq_2) ()) (pp (@jl [] [] []) ());exact xP
theorem F.oV {n:Nat} : ∀{yU r},G.oV n yU=some r->iW pZ 131 [.agg (wO yU)] (oB r):=by intro yU r h;refine fV K.oV (wR ?_);unfold C.oV;cases n;cases h;simp only[G.oV]at h;have z:=rY (pp @F.gK <|pp @F.jE <|pp @F.iU ());exact xP
theorem F.jA {n:Nat} : ∀{bP r},G.jA n bP=some r->iW pZ 135 [.one (w8 bP)] (oB r):=by intro bP r h;refine fV K.jA (wR ?_);unfold C.jA;rcases n with _|n<;>simp only[G.jA,reduceCtorEq]at h;have z:=ny (pp @F.oV ()) (pp (@uG (Int) _ (λn x=>G.jA.L1 n bP x) r (λx=>iI.of [(0,.v true (.one (w8 bP))),eI 3 x] [])) ()) (pp (bn @G.jA.L1.eq_1 <|@G.jA.L1.eq_2) ()) (pp (@jl [] [] []) ());exact xP
theorem F.kC {n:Nat} : ∀{jR r},G.kC n jR=some r->iW pZ 86 [.agg (wQ jR)] (oB r):=by intro jR r h;refine fV K.kC (wR ?_);unfold C.kC;cases n;cases h;simp only[G.kC]at h;have z:=rY (pp @F.gK <|pp @F.jr <|pp @F.iG <|pp @F.iU <|pp @F.jA ());exact xP
theorem F.dA {n:Nat} : ∀{jR r},G.dA n jR=some r->iW pZ 49 [.agg (wQ jR)] (oS r):=by intro jR r h;refine fV K.dA (wR ?_);unfold C.dA;rcases n with _|n<;>simp only[G.dA,reduceCtorEq]at h;have z:=J7 (pp @F.kC <|pp @F.nY <|pp @F.iU <|pp @F.jo ()) (pp (@uG (Int) _ (λn x=>G.dA.L2 n jR x) r (λx=>iI.of [eP 1 104,eI 3 x] [(104,.var (wQ jR))])) ()) (pp (@EZ (Unit) _ (λn x=>G.dA.K1 n jR) r (λx=>iI.of [eP 1 101,eB 33 false] [(101,.var (wQ jR))])) ()) (pp (bn @G.dA.K1.eq_1 <|bn @G.dA.K1.eq_2 <|bn @G.dA.L2.eq_1 <|@G.dA.L2.eq_2) ()) (pp (@jl [] [(101,10)] []) <|pp (@jl [] [(104,101)] []) <|pp (@jl [] [(104,104)] []) ());exact xP
theorem F.kY {n:Nat} : ∀{kR r},G.kY n kR=some r->iW pZ 162 [oB kR] (oI r):=by intro kR r h;refine fV K.kY (wR ?_);unfold C.kY;rcases n with _|n<;>simp only[G.kY,reduceCtorEq]at h;have z:=CB;exact xP
theorem F.oH {n:Nat} : ∀{iF kR r},G.oH n iF kR=some r->iW pZ 107 [oI iF,oI kR] (oI r):=by intro iF kR r h;refine fV K.oH (wR ?_);unfold C.oH;cases n;cases h;simp only[G.oH]at h;have z:=rY (pp @F.kY ());exact xP
theorem F.mV {n:Nat} : ∀{iF kR r},G.mV n iF kR=some r->iW pZ 108 [oS iF,oS kR] (oI r):=by intro iF kR r h;refine fV K.mV (wR ?_);unfold C.mV;cases n;cases h;simp only[G.mV]at h;have z:=rY (pp @F.kY ());exact xP
theorem F.Rw : ∀(n:Nat),∀{iF kR r},G.iM n iF kR=some r->iW pZ 69 [.agg (wN iF),.agg (wN kR)] (oI r):=by
 intro n
 induction n using fC with|_ n ih=>
 intro iF kR r h;refine fV K.iM (wR ?_);unfold C.iM;rcases n with _|n<;>simp only[G.iM,reduceCtorEq]at h;have z:=ny (pp ih <|pp @F.oH <|pp @F.mV ()) (pp (@uG (Int) _ (λn x=>G.iM.L1 n iF kR x) r (λx=>iI.of [eP 2 105,eP 3 106,eI 5 x] [(105,.var (wN iF)),(106,.var (wN kR))])) ()) (pp (bn @G.iM.L1.eq_1 <|@G.iM.L1.eq_2) ()) (pp (@jl [] [(105,10),(106,11)] []) <|pp (@jl [] [(105,105),(106,106)] []) ());exact xP
theorem F.iM {n:Nat} : ∀{iF:au} {kR:au} {r:Int},G.iM n iF kR=some r->iW pZ 69 [.agg (wN iF),.agg (wN kR)] (oI r):=F.Rw n
theorem F.lM {n:Nat} : ∀{aX r},G.lM n aX=some r->iW pZ 130 [.agg (wN aX)] (oT r):=by intro aX r h;refine fV K.lM (wR ?_);unfold C.lM;rcases n with _|n<;>simp only[G.lM,reduceCtorEq]at h;have z:=Bc (pp (@uG (Int×List di) _ (λn x=>G.lM.L1 n aX x.1 x.2) r (λx=>iI.of [eP 1 105,(3,.v true (.one (.own 106 x.2.length 1))),eI 4 x.1] [(105,.var (wN aX)),(106,.dat 1 (aP cS x.2))])) ()) (pp (bn @G.lM.L1.eq_1 <|@G.lM.L1.eq_2) ()) (pp (@jl [] [(105,10),(106,11)] []) <|pp (@jl [] [(105,105),(106,13)] []) ());exact xP
theorem F.vM {n:Nat} : ∀{iF kR r},G.vM n iF kR=some r->iW pZ 132 [.agg (wN iF),.agg (wN kR)] (oB r):=by intro iF kR r h;refine fV K.vM (wR ?_);unfold C.vM;cases n;cases h;simp only[G.vM]at h;have z:=rY (pp @F.iM ());exact xP
theorem F.kK {n:Nat} : ∀{aX r},G.kK n aX=some r->iW pZ 83 [.agg (wN aX)] (.AX [(true,(wO r.1)),(false,[wB r.2])]):=by intro aX r h;refine fV K.kK (wR ?_);unfold C.kK;rcases n with _|n<;>simp only[G.kK,reduceCtorEq]at h;have z:=ny (pp @F.iU <|pp @F.qM <|pp @F.lM <|pp @F.iT <|pp @F.oV <|pp @F.nY <|pp @F.vM ()) (pp (@uG (List di×Int×Int) _ (λn x=>G.kK.L1 n aX x.1 x.2.1 x.2.2) r (λx=>iI.of [eP 1 105,eP 2 106,eT 4 x.1,eI 5 x.2.1,eI 6 x.2.2] [(105,.var (wN aX)),(106,.var [wI 0,.mM 1,.mM 1,wI 0,wI 0,.c (.str []),.mM 1,.mM 5])])) ()) (pp (bn @G.kK.L1.eq_1 <|@G.kK.L1.eq_2) ()) (pp (@jl [] [(105,10),(106,11)] []) <|pp (@jl [] [(105,105),(106,106)] []) ());exact xP
theorem F.gp {n:Nat} : ∀{jf r},G.gp n jf=some r->oN pZ 84 [.one (.ptr 0 0)] [.var [wS jf.text,wI jf.at_,wB jf.bad]] (λr1 b1=>r1 = .one (.c (.lit (.int .u8 r.1)))/\b1=[.var [wS r.2.text,wI r.2.at_,wB r.2.bad]]):=by intro jf r h;refine vJ K.gp (wR ?_);unfold C.gp;rcases n with _|n<;>simp only[G.gp,reduceCtorEq]at h;have z:=ado (pp (@Fh [] [(0,0)] []) ());exact xP
theorem F.jK {n:Nat} : ∀{jf Gl r},G.jK n jf Gl=some r->oN pZ 173 [.one (.ptr 0 0),.one (.c (.lit (.int .u8 Gl)))] [.var [wS jf.text,wI jf.at_,wB jf.bad]] (λr1 b1=>r1 = .AX []/\b1=[.var [wS r.text,wI r.at_,wB r.bad]]):=by intro jf Gl r h;refine vJ K.jK (wR ?_);unfold C.jK;rcases n with _|n<;>simp only[G.jK,reduceCtorEq]at h;have z:=Uy (pp (pp @F.gp (@cG [0] [])) ()) (pp (@Fh [] [(0,0)] []) ());exact xP
theorem F.eX {n:Nat} : ∀{jf r},G.eX n jf=some r->oN pZ 126 [.one (.ptr 0 0)] [.var [wS jf.text,wI jf.at_,wB jf.bad]] (λr1 b1=>r1=oS r.1/\b1=[.var [wS r.2.text,wI r.2.at_,wB r.2.bad]]):=by intro jf r h;refine vJ K.eX (wR ?_);unfold C.eX;rcases n with _|n<;>simp only[G.eX,reduceCtorEq]at h;have z:=J6 (pp (pp @F.jK (@cG [0] [])) <|pp (pp @F.gp (@cG [0] [])) ()) (pp (@uG (di×Int×Bool×List Int) _ (λn x=>G.eX.L3 n x.1 x.2.1 x.2.2.1 x.2.2.2) r (λx=>iI.of [eP 0 0,(3,.v true (.one (.own 105 x.2.2.2.length 1)))] [(0,.var [wS x.1,wI x.2.1,wB x.2.2.1]),(105,.dat 1 (aP cU x.2.2.2))])) ()) (pp (@EZ (List Int×di×Int×Bool) _ (λn x=>G.eX.K4 n x.1 x.2.1 x.2.2.1 x.2.2.2) r (λx=>iI.of [eP 0 0,(3,.v true (.one (.own 106 x.1.length 1)))] [(0,.var [wS x.2.1,wI x.2.2.1,wB x.2.2.2]),(106,.dat 1 (aP cU x.1))])) ()) (pp (bn @G.eX.L3.eq_1 <|bn @G.eX.L3.eq_2 <|bn @G.eX.K4.eq_1 <|@G.eX.K4.eq_2) ()) (pp (@jl [] [(0,0),(105,10)] []) <|pp (@jl [] [(0,0),(106,105)] []) <|pp (@jl [] [(0,0),(105,12)] []) ()) (pp (@Fh [] [(0,0)] []) ());exact xP
theorem F.eY {n:Nat} : ∀{jf r},G.eY n jf=some r->oN pZ 128 [.one (.ptr 0 0)] [.var [wS jf.text,wI jf.at_,wB jf.bad]] (λr1 b1=>r1=oI r.1/\b1=[.var [wS r.2.text,wI r.2.at_,wB r.2.bad]]):=by intro jf r h;refine vJ K.eY (wR ?_);unfold C.eY;rcases n with _|n<;>simp only[G.eY,reduceCtorEq]at h;have z:=adt (pp @F.gK ()) (pp (pp @F.gp (@cG [0] [])) ()) (pp (@uG (Int×Int×Int×di×Int×Bool) _ (λn x=>G.eY.L2 n x.1 x.2.1 x.2.2.1 x.2.2.2.1 x.2.2.2.2.1 x.2.2.2.2.2) r (λx=>iI.of [eP 0 0,eI 3 x.2.1,eI 4 x.1,eI 5 x.2.2.1] [(0,.var [wS x.2.2.2.1,wI x.2.2.2.2.1,wB x.2.2.2.2.2])])) ()) (pp (@EZ (Int×di×Int×Bool) _ (λn x=>G.eY.K1 n x.1 x.2.1 x.2.2.1 x.2.2.2) r (λx=>iI.of [eP 0 0,eI 3 0,eI 4 x.1] [(0,.var [wS x.2.1,wI x.2.2.1,wB x.2.2.2])])) ()) (pp (bn @G.eY.K1.eq_1 <|bn @G.eY.K1.eq_2 <|bn @G.eY.L2.eq_1 <|@G.eY.L2.eq_2) ()) (pp (@jl [] [(0,0)] []) ()) (pp (@Fh [] [(0,0)] []) ());exact xP
theorem F.GL : ∀(n:Nat),(∀{jf:dI} {aX:au} {xM:Int} {iq:Int} {r:au×dI},G.bT n jf aX xM iq=some r->oN pZ 127 [.one (.ptr 0 0),.agg [.c (.lit (.int .i64 aX.dH)),.c (.lit (.int .i64 aX.ve)),.c (.str aX.oz),.c (.sl 1 (aP cS aX.dS)),.c (.sl 5 (aP au.cells aX.bC))],.one (.c (.lit (.int .u8 xM))),.one (.c (.lit (.int .i64 iq)))] [.var [.c (.str jf.text),.c (.lit (.int .i64 jf.at_)),.c (.lit (.bool jf.bad))]] (λr1 b1=>r1 = .agg [.c (.lit (.int .i64 r.1.dH)),.c (.lit (.int .i64 r.1.ve)),.c (.str r.1.oz),.c (.sl 1 (aP cS r.1.dS)),.c (.sl 5 (aP au.cells r.1.bC))]/\b1=[.var [.c (.str r.2.text),.c (.lit (.int .i64 r.2.at_)),.c (.lit (.bool r.2.bad))]]))/\(∀{jf:dI} {iq:Int} {r:au×dI},G.jJ n jf iq=some r->oN pZ 82 [.one (.ptr 0 0),.one (.c (.lit (.int .i64 iq)))] [.var [.c (.str jf.text),.c (.lit (.int .i64 jf.at_)),.c (.lit (.bool jf.bad))]] (λr1 b1=>r1 = .agg [.c (.lit (.int .i64 r.1.dH)),.c (.lit (.int .i64 r.1.ve)),.c (.str r.1.oz),.c (.sl 1 (aP cS r.1.dS)),.c (.sl 5 (aP au.cells r.1.bC))]/\b1=[.var [.c (.str r.2.text),.c (.lit (.int .i64 r.2.at_)),.c (.lit (.bool r.2.bad))]])):=by
 intro n
 induction n using fC with|_ n ih=>
 refine⟨?_,?_⟩
 ·intro jf aX xM iq r h;refine vJ K.bT (wR ?_);unfold C.bT;rcases n with _|n<;>simp only[G.bT,reduceCtorEq]at h;have:=Mk.mk 1;have:=Mk.mk 2;have z:=pp () <|pp (pp (pp (ihR ih) (@cG [0] [])) <|pp (pp @F.jK (@cG [0] [])) <|pp (pp @F.gp (@cG [0] [])) <|pp (pp @F.eX (@cG [0] [])) ()) <|pp (pp (@uG (di×Int×Bool×List di×List au) _ (λn x=>G.bT.L5 n aX xM iq x.1 x.2.1 x.2.2.1 x.2.2.2.1 x.2.2.2.2) r (λx=>iI.of [(0,.v true (.one (.ptr 0 0))),(2,.v true (.one (.c (.lit (.int .u8 xM))))),(3,.v true (.one (.c (.lit (.int .i64 iq))))),(5,.v true (.one (.ptr 125 0))),(8,.v true (.one (.ptr 126 0))),(9,.v true (.one (.own 127 x.2.2.2.1.length 1))),(10,.v true (.one (.own 128 x.2.2.2.2.length 5)))] [(0,.var [.c (.str x.1),.c (.lit (.int .i64 x.2.1)),.c (.lit (.bool x.2.2.1))]),(125,.var [.c (.lit (.int .i64 aX.dH)),.c (.lit (.int .i64 aX.ve)),.c (.str aX.oz),.c (.sl 1 (aP cS aX.dS)),.c (.sl 5 (aP au.cells aX.bC))]),(126,.var [.c (.lit (.int .i64 0)),.c (.lit (.int .i64 0)),.c (.str []),.mM 1,.mM 5]),(127,.dat 1 (aP cS x.2.2.2.1)),(128,.dat 5 (aP au.cells x.2.2.2.2))])) ()) <|pp (pp (@EZ (List di×List au×di×Int×Bool) _ (λn x=>G.bT.K6 n aX xM iq x.1 x.2.1 x.2.2.1 x.2.2.2.1 x.2.2.2.2) r (λx=>iI.of [(0,.v true (.one (.ptr 0 0))),(2,.v true (.one (.c (.lit (.int .u8 xM))))),(3,.v true (.one (.c (.lit (.int .i64 iq))))),(5,.v true (.one (.ptr 129 0))),(8,.v true (.one (.ptr 130 0))),(9,.v true (.one (.own 131 x.1.length 1))),(10,.v true (.one (.own 132 x.2.1.length 5)))] [(0,.var [.c (.str x.2.2.1),.c (.lit (.int .i64 x.2.2.2.1)),.c (.lit (.bool x.2.2.2.2))]),(129,.var [.c (.lit (.int .i64 aX.dH)),.c (.lit (.int .i64 aX.ve)),.c (.str aX.oz),.c (.sl 1 (aP cS aX.dS)),.c (.sl 5 (aP au.cells aX.bC))]),(130,.var [.c (.lit (.int .i64 0)),.c (.lit (.int .i64 0)),.c (.str []),.mM 1,.mM 5]),(131,.dat 1 (aP cS x.1)),(132,.dat 5 (aP au.cells x.2.1))])) <|pp (@EZ (List au×di×Int×Bool×List di) _ (λn x=>G.bT.K7 n aX xM iq x.1 x.2.1 x.2.2.1 x.2.2.2.1 x.2.2.2.2) r (λx=>iI.of [(0,.v true (.one (.ptr 0 0))),(2,.v true (.one (.c (.lit (.int .u8 xM))))),(3,.v true (.one (.c (.lit (.int .i64 iq))))),(5,.v true (.one (.ptr 133 0))),(8,.v true (.one (.ptr 134 0))),(9,.v true (.one (.own 135 x.2.2.2.2.length 1))),(10,.v true (.one (.own 136 x.1.length 5)))] [(0,.var [.c (.str x.2.1),.c (.lit (.int .i64 x.2.2.1)),.c (.lit (.bool x.2.2.2.1))]),(133,.var [.c (.lit (.int .i64 aX.dH)),.c (.lit (.int .i64 aX.ve)),.c (.str aX.oz),.c (.sl 1 (aP cS aX.dS)),.c (.sl 5 (aP au.cells aX.bC))]),(134,.var [.c (.lit (.int .i64 0)),.c (.lit (.int .i64 0)),.c (.str []),.mM 1,.mM 5]),(135,.dat 1 (aP cS x.2.2.2.2)),(136,.dat 5 (aP au.cells x.1))])) ()) <|pp (pp (bn @G.bT.L5.eq_1 <|bn @G.bT.L5.eq_2 <|bn @G.bT.K6.eq_1 <|bn @G.bT.K6.eq_2 <|bn @G.bT.K7.eq_1 <|@G.bT.K7.eq_2) ()) <|pp (pp (@jl [] [(0,0),(125,10),(126,11),(127,12),(128,13)] []) <|pp (@jl [] [(0,0),(129,125),(130,126),(131,127),(132,128)] []) <|pp (@jl [] [(0,0),(133,129),(134,130),(135,15),(136,132)] []) <|pp (@jl [] [(0,0),(133,129),(134,130),(135,131),(136,132)] []) <|pp (@jl [] [(0,0),(125,133),(126,134),(127,135),(128,17)] []) ()) <|pp (pp (@Fh [127,128] [(0,0)] []) ()) <|(pp (pp (rfl : @G.bT.K6=_) <|pp (rfl : @G.bT.L5=_) <|pp (rfl : @G.bT.K7=_) ()) <|pp (pp (rfl : @G.bT.K7=_) <|pp (rfl : @G.bT.K6=_) <|pp (rfl : @G.bT.L5=_) ()) ())
  exact agV
 ·intro jf iq r h;refine vJ K.jJ (wR ?_);unfold C.jJ;rcases n with _|n<;>simp only[G.jJ,reduceCtorEq]at h;have z:=pp (pp @F.gK ()) <|pp (pp (pp (ihL ih) (@cH [0] [])) <|pp (pp @F.gp (@cG [0] [])) <|pp (pp @F.eX (@cG [0] [])) <|pp (pp @F.eY (@cG [0] [])) ()) <|pp () <|pp () <|pp () <|pp () <|(pp (@Fh [] [(0,0)] []) ())
  exact xP
theorem F.jJ {n:Nat} : ∀{jf:dI} {iq:Int} {r:au×dI},G.jJ n jf iq=some r->oN pZ 82 [.one (.ptr 0 0),oI iq] [.var [wS jf.text,wI jf.at_,wB jf.bad]] (λr1 b1=>r1 = .agg (wN r.1)/\b1=[.var [wS r.2.text,wI r.2.at_,wB r.2.bad]]):=(F.GL n).2
theorem F.oQ {n:Nat} : ∀{bZ r},G.oQ n bZ=some r->iW pZ 48 [oS bZ] (.AX [(true,(wN r.1)),(false,[wB r.2])]):=by intro bZ r h;refine fV K.oQ (wR ?_);unfold C.oQ;rcases n with _|n<;>simp only[G.oQ,reduceCtorEq]at h;have z:=J8 (pp @F.iU <|pp @F.gu ()) (pp (pp @F.jJ (@cG [11] [])) ());exact xP
theorem F.jd {n:Nat} : ∀{bZ r},G.jd n bZ=some r->iW pZ 46 [oS bZ] (.AX [(false,[wT r.1]),(false,[wB r.2])]):=by intro bZ r h;refine fV K.jd (wR ?_);unfold C.jd;rcases n with _|n<;>simp only[G.jd,reduceCtorEq]at h;have z:=ny (pp @F.fG <|pp @F.iG ()) (pp (@uG (Int×List di) _ (λn x=>G.jd.L1 n bZ x.1 x.2) r (λx=>iI.of [eS 0 bZ,(4,.v true (.one (.own 103 x.2.length 1))),eI 5 x.1] [(103,.dat 1 (aP cS x.2))])) ()) (pp (bn @G.jd.L1.eq_1 <|@G.jd.L1.eq_2) ()) (pp (@jl [] [(103,10)] []) <|pp (@jl [] [(103,103)] []) <|pp (@jl [] [(103,12)] []) <|pp (@jl [] [(103,14)] []) ());exact xP
theorem F.oU {n:Nat} : ∀{bZ r},G.oU n bZ=some r->iW pZ 44 [oS bZ] (.AX [(false,[wS r.1]),(false,[wS r.2])]):=by intro bZ r h;refine fV K.oU (wR ?_);unfold C.oU;rcases n with _|n<;>simp only[G.oU,reduceCtorEq]at h;have z:=Bc (pp (@uG (Int) _ (λn x=>G.oU.L1 n bZ x) r (λx=>iI.of [eS 0 bZ,eI 4 x] [])) ()) (pp (bn @G.oU.L1.eq_1 <|@G.oU.L1.eq_2) ()) (pp (@jl [] [] []) ());exact xP
theorem F.lC {n:Nat} : ∀{bZ r},G.lC n bZ=some r->iW pZ 47 [oS bZ] (.AX [(false,[w8 r.1]),(false,[wB r.2])]):=by intro bZ r h;refine fV K.lC (wR ?_);unfold C.lC;rcases n with _|n<;>simp only[G.lC,reduceCtorEq]at h;have z:=Ou (pp @F.kK ()) (pp (pp @F.jJ (@cG [11] [])) <|pp (pp @F.gp (@cG [11] [])) ()) (pp (@uG (di×List o6) _ (λn x=>G.lC.L1 n x.1 x.2) r (λx=>iI.of [eS 0 x.1,(4,.v true (.one (.own 103 x.2.length 8)))] [(103,.dat 8 (aP o6.cells x.2))])) ()) (pp (bn @G.lC.L1.eq_1 <|@G.lC.L1.eq_2) ()) (pp (@jl [] [(103,10)] []) <|pp (@jl [] [(103,15)] []) ());exact xP
theorem F.gm {n:Nat} : ∀{bZ r},G.gm n bZ=some r->iW pZ 18 [oS bZ] (.AX [(true,(wQ r.1)),(false,[wB r.2])]):=by intro bZ r h;refine fV K.gm (wR ?_);unfold C.gm;rcases n with _|n<;>simp only[G.gm,reduceCtorEq]at h;have z:=J7 (pp @F.oU <|pp @F.tY <|pp @F.jd <|pp @F.lC <|pp @F.oQ <|pp @F.dA ()) (pp (@uG ((di×di)×(di×di)×(di×di)×(di×di)×List di×Int×Int) _ (λn x=>G.gm.L1 n bZ x.1 x.2.1 x.2.2.1 x.2.2.2.1 x.2.2.2.2.1 x.2.2.2.2.2.1 x.2.2.2.2.2.2) r (λx=>iI.of [eS 0 bZ,eP 2 111,eS 4 x.1.1,eS 8 x.2.2.1.1,eS 10 x.2.2.2.1.1,eS 11 x.2.2.2.1.2,eP 12 112,eT 13 x.2.2.2.2.1,eI 14 x.2.2.2.2.2.1] [(111,.var [wI 0,.c (.str []),.mM 1,.mM 1,wI 0,wI 0,.c (.str []),.mM 1,.mM 5,.mM 8]),(112,.var [wI x.2.2.2.2.2.2,wS x.2.1.1,.own 113 0 1,.own 114 0 1,wI 0,wI 0,.c (.str []),.mM 1,.mM 5,.own 115 0 8]),(113,.dat 1 (aP cS [])),(114,.dat 1 (aP cS [])),(115,.dat 8 (aP o6.cells []))])) ()) (pp (@EZ ((di×di)×Int×(List di×Bool)×(List di×Bool)×Bool×Int×Int×di×List di×List au×List o6) _ (λn x=>G.gm.K2 n bZ x.1 x.2.1 x.2.2.1 x.2.2.2.1 x.2.2.2.2.1 x.2.2.2.2.2.1 x.2.2.2.2.2.2.1 x.2.2.2.2.2.2.2.1 x.2.2.2.2.2.2.2.2.1 x.2.2.2.2.2.2.2.2.2.1 x.2.2.2.2.2.2.2.2.2.2) r (λx=>iI.of [eS 0 bZ,eP 2 116,eP 12 117,eT 15 x.2.2.1.1,eB 16 x.2.2.1.2,eT 17 x.2.2.2.1.1,eB 18 x.2.2.2.1.2,eB 19 x.2.2.2.2.1] [(116,.var [wI 0,.c (.str []),.mM 1,.mM 1,wI 0,wI 0,.c (.str []),.mM 1,.mM 5,.mM 8]),(117,.var [wI x.2.1,wS x.1.1,.own 118 0 1,.own 119 0 1,wI x.2.2.2.2.2.1,wI x.2.2.2.2.2.2.1,wS x.2.2.2.2.2.2.2.1,wT x.2.2.2.2.2.2.2.2.1,wK x.2.2.2.2.2.2.2.2.2.1,w8 x.2.2.2.2.2.2.2.2.2.2]),(118,.dat 1 (aP cS [])),(119,.dat 1 (aP cS []))])) ()) (pp (bn @G.gm.L1.eq_1 <|bn @G.gm.L1.eq_2 <|bn @G.gm.K2.eq_1 <|@G.gm.K2.eq_2) ()) (pp (@jl [] [(111,10),(112,14),(113,11),(114,12),(115,13)] []) <|pp (@jl [] [(111,111),(112,112),(113,113),(114,114),(115,115)] []) <|pp (@jl [] [(116,111),(117,112),(118,113),(119,114)] []) <|pp (@jl [115] [(116,111),(117,112),(118,113),(119,114)] []) ());exact xP
end Go.Ab
section
namespace Go.Ab
open Go Go.ChangeShapes Go.WideShapes Go.ChangeAt Go.RowKit
def I0 (W:World):IH:=λb=>match W.heap[b]? with
 |some (.cells c _ _)=>some c
 |_=>none
theorem adB (W:World):Agree (I0 W) W:=by
 intro b c h;unfold I0 at h;split at h
 ·rename_i c' e fr hb;cases h;exact⟨e,fr,hb⟩
 ·cases h
theorem aaf (W:World){a:Addr}{v:Value}(h:W.cell? a=some v):(I0 W).cell a=some v:=by
 unfold Go.World.cell? at h;unfold IH.cell I0;split at h
 ·rename_i c e fr hb;split at h
  ·cases h
  ·rename_i hs;rw[ai hs,hb];exact h
 ·cases h
theorem UF {W W':World}{M:Nat->Prop}(h:zK W W' M)(hM:∀k,¬M k):Below W.heap.size W W':=
 ⟨h.os,h.tape,h.output,h.size,λk hk=>h.block k hk (hM k)⟩
theorem Oc (ρ:Ren)(k:Nat):¬ ∃b,(zX [] b).uses (ρ b) k:=λ⟨b,h⟩=>by simp only[zX,List.getD_nil]at h;exact h
theorem acd {P:Program}{W:World}{x:String×DataW Unit}{rest:List (String×DataW Unit)}(h:laidMet P (x::rest) W):laidMet P rest W:=by obtain⟨ps,hv,hn,hc⟩:=h;obtain⟨g,t,cs,fuel,p,q,h1,h2,h3,h4,h5,rfl⟩:=hv;exact⟨q,h5,(List.nodup_append.1 hn).2.1,λb off hp=>hc b off (dZ _ hp)⟩
theorem JL {P:Program}{W:World} : ∀(k:Nat) {l:List (String×DataW Unit)},laidMet P l W->laidMet P (l.drop k) W
 |0,l,h=>h
 |k+1,[],h=>h
 |k+1,x::l,h=>JL k (l:=l) (acd h)
theorem aji {P:Program}{W:World}{rest:List (String×DataW Unit)}{g:Nat}{t e:TypeId}
 (hg:P.globalNamed "internal/strconv.uint64pow10" = some g) (hty:(P.globals[g]?).map (·.type)=some t) (ht:P.underlying t=some (.array 20 e)) (he:P.underlying e=some (.int .u64)) (hce:P.cellsOf e=1) (hct:P.cellsOf t=20)
 (h:laidMet P (("internal/strconv.uint64pow10",Lib.tabData .u64 uh)::rest) W):∀g',P.globalNamed "internal/strconv.uint64pow10" = some g'->I0 W g'=some (uh.map λz=>Go.Value.int .u64 z).toArray:=by
 have h1:=Lib.tabIs_of_head hg hty ht he hce hct h;intro g' hg';rw[hg]at hg';simp only[aC]at hg';subst hg';unfold Lib.TabIs World.var? at h1;simp only[hg]at h1;unfold I0
 revert h1
 split<;>simp_all
theorem ai7 {P:Program}{W:World}{n:String}{g:Nat}{t:TypeId}(h:W.ShapedOpen P)(hn:P.globalNamed n=some g)(hg:g<P.globals.size)
 (h0:((begin P (λ_ _=>0) default).world.heap[g]?).bind Obj.row? = some (#[.int .i64 0],t)) (hb:P.buildable t=true) (hc:P.cellTypes P.depth t=some [t]) (hu:P.underlying t=some (.int .i64)) :
 ∀g',P.globalNamed n=some g'->∃m,(I0 W).cell ⟨g',0,none⟩=some (.int .i64 m):=by
 intro g' hg';cases hn.symm.trans hg';obtain⟨m,hm⟩:=Go.Proofs.cell_of_shapedOpen_int h hg h0 rfl hb hc hu;exact⟨m,aaf W hm⟩
theorem aed {P:Program}{n nm:String}{text:List UInt8}{r:List (String×DataW Unit)}{W:World}{g:Nat}{ti tp te ts:TypeId}{ms:Array (String×TypeId)}{f:Field}
 (h:laidMet P ((n,.iface nm (.ptr (.agg [.lit (.string text)])))::r) W)
 (hg:P.globalNamed n=some g) (ht:(P.globals[g]?).map (·.type)=some ti) (hi:P.underlying ti=some (.interface ms)) (hrow:∀u,P.typeName? 3 u=some nm->u=tp)
 (hp:P.underlying tp=some (.pointer te)) (he:P.underlying te=some (.struct #[f])) (hft:f.type=ts) (hfo:f.offset=0) (hs:P.underlying ts=some .string) (hc:P.cellsOf te=1) (hcs:P.cellsOf ts=1) :
 ∀g',P.globalNamed n=some g'->∃v,(I0 W).cell ⟨g',0,none⟩=some v/\(v = .nilIface\/∃t p,v = .iface t p):=by
 intro g' hg';cases hg.symm.trans hg';obtain⟨a,s,hv,_⟩:=laid_sentinel h hg ht hi hrow hp he hft hfo hs hc hcs;exact⟨_,aaf W (by rw[World.var?_cell hg hv 0];rfl),.inr ⟨_,_,rfl⟩⟩
end Go.Ab
end
namespace Go.Ab
open Go
section
variable {P:Program} {W:World} {H:Type} {enc:TypeId×Value->H}
def RdL (I:IH)(cs:List Value)(xs:List Cell):Prop:=xs.length=cs.length/\∀(i:Nat) v c,cs[i]? = some v->xs[i]? = some c->Rd I v c
theorem RdL.nil {I:IH} : RdL I [] []:=⟨rfl,λi v c h=>by simp at h⟩
theorem RdL.app {I:IH}{a b:List Value}{x y:List Cell}(h:RdL I a x)(k:RdL I b y):RdL I (a++b) (x++y):=by
 refine⟨by rw[ay,ay,h.1,k.1],λi v c hv hc=>?_⟩;have hl:=h.1;by_cases hi:i<a.length
 ·rw[bD hi]at hv;rw[bD aI]at hc;exact h.2 i v c hv hc
 ·rw[dw aI]at hv;rw[dw aI,hl]at hc;exact k.2 _ v c hv hc
theorem RdL.one {I:IH}{v:Value}{c:Cell}(h:Rd I v c):RdL I [v] [c]:=by
 refine⟨rfl,λi v' c' hv hc=>?_⟩
 match i with
 | 0=>simp only[gY,aC]at hv hc;subst hv hc;exact h
 |i+1=>simp at hv
theorem RdL.fst {I:IH}{v:Value}{c:Cell}(h:RdL I [v] [c]):Rd I v c:=h.2 0 v c rfl rfl
section
variable {fuel:Nat} {t:TypeId} {cs:List Value} {d:DataW H} {ps:List MemPlace}
theorem afR (ht:P.underlying t=some .string)(h:DataW.trod enc P W 0 (λ_=>true) true fuel t cs=some (d,ps)):∃s:ByteArray,cs=[.string s]/\s.size<=maxLen:=by
 cases fuel with
 |zero=>cases h
 | succ fuel=>unfold DataW.trod at h;rw[ht]at h;split at h<;>simp_all
end
theorem add_add (a:Addr)(x y:Nat):(a.add x).add y=a.add (x+y):=by
 unfold Go.Addr.add;by_cases hx:x=0
 ·subst hx;simp
 ·by_cases hy:y=0
  ·subst hy;simp
  ·have:¬x+y=0:=(by omega);simp[hx,hy,Nat.add_assoc]
end
end Go.Ab
section
namespace Go.Ab
open Go Go.ChangeShapes Go.WideShapes Go.ChangeAt Go.RowKit
theorem akX {I:IH}{ρ:Ren}{v:Value}{x:Cell}(h:Rd I v x):GV I ρ v (.one (.c x)):=h
theorem ag5 {I:IH}{ρ:Ren}{v:Value}{x:AV}(h:GV I ρ v x):PM I ρ [v] [x]:=by
 refine⟨rfl,λj v' x' hv hx=>?_⟩
 match j with
 | 0=>simp only[gY,aC]at hv hx;subst hv hx;exact h
 |j+1=>simp at hv
theorem ai1 {P:Program}{f:FuncId}{W:World}{vs:List Value}{as_:List AV}(hT:Tabs P (I0 W))(hg:PM (I0 W) (λ_=>none) vs as_)(hp:iW P f as_ (tH true)) :
 Calls P f vs.toArray W λe W'=>e = .returned (.bool true)/\Below W.heap.size W W':=by
 refine(hp (I0 W) (λ_=>none) W vs hT (adB W) ⟨λb=>by simp only[zX,List.getD_nil];exact rfl,λb b' k h=>(Oc (λ_=>none) k ⟨b,h⟩).elim,λb k h=>(Oc (λ_=>none) k ⟨b,h⟩).elim⟩ hg (λ_ _=>True) .XZ).mono ?_;rintro e W' ⟨⟨v,J,σ,r,bs,rfl,⟨rfl,rfl⟩,hg,_,_,_,hfr,_⟩,_⟩;refine⟨?_,UF hfr (Oc (λ_=>none))⟩;cases hg;rfl
end Go.Ab
end
namespace Go.Ab
open Go
section
variable {P:Program} {W:World} {H:Type} {enc:TypeId×Value->H}
theorem part {cs:List Value}{k:Nat}(h:k<cs.length):(cs.drop k).take 1=[cs[k]]:=by rw[xX h];rfl
end
end Go.Ab
