/- What abstract values, states and codes of the program's language mean, and that they are sound (part 2). No conditions. -/
import Derived.Test.YtghoohcdipegcaaGreatDoorY1
set_option linter.unusedVariables false
set_option linter.unusedSimpArgs false
open Array renaming getElem?_modify->BC,replicate->EG,getElem?_eq_some_iff->oC,getD_eq_getD_getElem?->qo,empty_append->tX
open Bool renaming and_eq_true->ai,or_eq_true->iT,not_eq_true'->xY
open ByteArray renaming mk->Dp,size_extract->qK,empty->vF
open Function renaming comp_def->DF
open Go.Addr renaming add->xO
open Go.Builtin renaming zeroCells->bK,append_->jJ
open Go.IntKind renaming wrap->af
open Go.Lib renaming frozen_of_heap->BF,splitB->CP,cellsOf->ET,byteCells->cO,cell_of_heap->lU,byteCells_length->mV,splitK->oK,join->uf,alloc_old->yA,atoiAll->zn
open Go.Region renaming ready->Bo
open Go.Result renaming andThen_ok->dK
open Go.Sem renaming run_pure->fQ,run_bind->gQ
open Go.Value renaming int->kU,ownBlock->uC
open Go.World renaming shape?->Bv,cell?->o7,setCell->uS
open List renaming map_map->Ar,drop_eq_nil_of_le->Bg,mem_filter->EJ,take_of_length_le->aC,getElem?_eq_getElem->aF,mem_append->aV,all_eq_true->aZ,map->ag,drop_of_length_le->ak,length_append->au,mem_cons_self->bC,getElem?_eq_some_iff->bD,mem_singleton->bJ,append_nil->bM,map_cons->bf,getD->bu,flatMap_cons->bz,mem_cons->cu,length_nil->dB,all_cons->dI,getElem_mem->dJ,mem_cons_of_mem->dL,nil_append->dN,replicate->dh,getElem?_map->fD,getElem?_append_right->gX,getElem?_append_left->gm,map_nil->iD,length_map->iE,length->kN,drop->lu,mem_append_left->mW,map_toArray->nV,length_pos_iff->ny,mem_map->pI,take_append_of_le_length->pJ,getElem?_eq_none->pg,contains_iff_mem->vY,pairwise_cons->xA,getElem_of_mem->yY,pairwise_iff_getElem->zX
open Nat renaming le_of_not_lt->A8,lt_trichotomy->Ah,add_comm->Au,zero_mul->Dt,zero_le->aO,le_refl->ax,zero_add->iI,mul_one->wB
open Option.some renaming injEq->aH
open Prod.mk renaming injEq->aJ
open UInt8 renaming ofNat->eU
namespace Go.Ab
open Go
section
section
variable {P:Program} {st st':iH}
theorem Ju {a b:List Nat} : Lc a b=true<->∀x,x∈a->x ∉ b:=by simp[Lc,aZ]
def KU (x y:mY):Bool:=
 Lc x.d.toList y.slots&&Lc y.d.toList x.slots&&Lc x.d.toList y.d.toList&&(x.acz||y.acz)
def app (x:mY)(st:iH)(s:Slot)(bs:List (Nat×Box)):iH:=(st.um bs).AL x.d s
theorem KX {x:mY}{s:Slot}{bs:List (Nat×Box)}{t:Nat}(h:t ∉ x.d.toList):(app x st s bs).tm t=st.tm t:=by
 unfold app;cases hd:x.d with
 |none=>simp only[iH.AL,NL]
 | some d=>simp only[iH.AL,iH.Rj,NL];rw[if_neg];intro e;subst e;exact h (by simp[hd])
theorem NG (st:iH)(d:Option Nat)(s:Slot):(st.AL d s).bx=st.bx:=by cases d<;>rfl
theorem KW {x:mY}{s:Slot}{bs:List (Nat×Box)}{b:Nat}(h:b ∉ bs.map (·.1)):(app x st s bs).bx b=st.bx b:=by unfold app;rw[NG,JM _ _ h]
theorem Rt (l:List (Nat×Box)){st st':iH}{b:Nat}(h:st.bx b=st'.bx b):(st.um l).bx b=(st'.um l).bx b:=by
 induction l generalizing st st' with
 |nil=>exact h
 | cons x l ih=>
   obtain⟨c,y⟩:=x;simp only[iH.um];apply ih;simp only[iH.rM];split
   ·rfl
   ·exact h
theorem JL (l:List (Nat×Box)){st st':iH}{b:Nat}(h:b∈l.map (·.1)):(st.um l).bx b=(st'.um l).bx b:=by
 induction l generalizing st st' with
 |nil=>simp at h
 | cons x l ih=>
   obtain⟨c,y⟩:=x;simp only[iH.um];by_cases hc:b=c
   ·apply Rt;simp[iH.rM,hc]
   ·simp only[bf,cu]at h;exact ih (h.resolve_left hc)
theorem VB {x y:mY}{s s':Slot}{bs bs':List (Nat×Box)}(hd:Lc x.d.toList y.d.toList=true)(hb:∀b,b∈bs.map (·.1)->b ∉ bs'.map (·.1)) :
 app y (app x st s bs) s' bs'=app x (app y st s' bs') s bs:=by
 rw[Ju]at hd;apply iH.ext'
 ·funext t
  by_cases h1:t∈x.d.toList
  ·have h2:=hd t h1;rw[KX h2];cases hx:x.d with
   |none=>rw[hx]at h1;simp at h1
   | some d=>rw[hx]at h1;simp at h1;subst h1;simp[app,hx,iH.AL,iH.Rj]
  ·rw[KX (x:=x) h1];by_cases h2:t∈y.d.toList
   ·cases hy:y.d with
    |none=>rw[hy]at h2;simp at h2
    | some d=>rw[hy]at h2;simp at h2;subst h2;simp[app,hy,iH.AL,iH.Rj]
   ·rw[KX h2,KX h2,KX h1]
 ·funext b
  by_cases h1:b∈bs.map (·.1)
  ·rw[KW (hb b h1)];unfold app;rw[NG,NG];exact JL _ h1
  ·rw[KW (x:=x) h1];by_cases h2:b∈bs'.map (·.1)
   ·unfold app;rw[NG,NG];exact JL _ h2
   ·rw[KW h2,KW h2,KW h1]
def apartB (rd wr rd' wr':List Nat):Bool:=Lc wr' rd&&Lc wr' wr&&Lc rd' wr
theorem NZ.skip {x y:mY}{D Dx:Qc}(h:NZ P y st D)(hx:NZ P x st Dx)(hs:Lc x.d.toList y.slots=true)(hb:∀b,b∈Dx.wr->b ∉ D.rd){s:Slot}{bs:List (Nat×Box)}(ho:Dx.outs s bs):NZ P y (app x st s bs) D:=
 h.local (λt ht=>(KX λhd=>(Ju.1 hs) t hd ht).symm) (λb hr=>(KW λhm=>hb b (hx.fst ho b hm) hr).symm)
theorem NZ.YF {x y:mY}{D Dx:Qc}{s:Slot}{bs:List (Nat×Box)}(h:NZ P y (app x st s bs) D)(hx:NZ P x st Dx)(hs:Lc x.d.toList y.slots=true)(hb:∀b,b∈Dx.wr->b ∉ D.rd)(ho:Dx.outs s bs):NZ P y st D:=
 h.local (λt ht=>KX λhd=>(Ju.1 hs) t hd ht) (λb hr=>KW λhm=>hb b (hx.fst ho b hm) hr)
theorem Jq {rd wr rd' wr':List Nat}(h:apartB rd wr rd' wr'=true):(∀b,b∈wr->b ∉ rd')/\(∀b,b∈wr'->b ∉ rd)/\(∀b,b∈wr->b ∉ wr'):=by simp only[apartB,ai,Ju]at h;exact⟨λb h1 h2=>h.2 b h2 h1,h.1.1,λb h1 h2=>h.1.2 b h2 h1⟩
theorem afJ {x y:mY}(hap:KU x y=true){K:List Nat->List Nat->List Nat->List Nat->iH->Prop}
 (h:T P x st λrd wr st1=>T P y st1 λrd' wr' st2=>apartB rd wr rd' wr'=true/\K rd wr rd' wr' st2) :
 T P y st λrd' wr' st2=>T P x st2 λrd wr st1=>apartB rd wr rd' wr'=true/\K rd wr rd' wr' st1:=by
 simp only[KU,ai,iT]at hap;obtain⟨⟨⟨h1,h2⟩,h3⟩,h4⟩:=hap;rw[I7]at h;obtain⟨Dx,hDx,h⟩:=h;rcases h4 with h4|h4
 ·
  obtain⟨s,bs,ho⟩:=hDx.ne;have hT:=h s bs ho;rw[I7]at hT;obtain⟨Dy,hDy,hk⟩:=hT;obtain⟨s',bs',ho'⟩:=hDy.ne;obtain⟨a1,a2,a3⟩:=Jq (hk s' bs' ho').1;have Wi:NZ P y st Dy:=NZ.YF hDy hDx h1 a1 ho;rw[I7];refine⟨Dy,Wi,λs' bs' ho'=>?_⟩;rw[I7];refine⟨Dx,hDx.skip Wi h2 a2 ho',λs1 bs1 ho1=>?_⟩;have hT:=h s1 bs1 ho1;rw[I7]at hT;obtain⟨Dy1,afZ,hk1⟩:=hT;have hsame:s1=s/\bs1=bs:=by
   obtain⟨_,hD⟩:=hDx;unfold mY.acz at h4;split at h4
   ·rename_i op hi;rw[hi]at hD;cases hp:vI st.tm x.g with
    |true=>obtain⟨_,_,rfl⟩:=hD.1 hp;exact⟨ho1.1.trans ho.1.symm,ho1.2.trans ho.2.symm⟩
    |false=>have:=hD.2 hp;subst this;exact⟨ho1.1.trans ho.1.symm,ho1.2.trans ho.2.symm⟩
   ·cases h4
  obtain⟨rfl,rfl⟩:=hsame;have:=hk s' bs' ho';show _/\K _ _ _ _ (app x (app y st s' bs') s1 bs1);rw[<- VB h3 (λb hb hb'=>a3 b (hDx.fst ho b hb) (Wi.fst ho' b hb'))];exact this
 ·
  obtain⟨s,bs,ho⟩:=hDx.ne;have hT:=h s bs ho;rw[I7]at hT;obtain⟨Dy,hDy,hk⟩:=hT;obtain⟨s',bs',ho'⟩:=hDy.ne;obtain⟨a1,a2,a3⟩:=Jq (hk s' bs' ho').1;have Wi:NZ P y st Dy:=NZ.YF hDy hDx h1 a1 ho;rw[I7];refine⟨Dy,Wi,λs' bs' ho'=>?_⟩;rw[I7];refine⟨Dx,hDx.skip Wi h2 a2 ho',λs1 bs1 ho1=>?_⟩;have hT:=h s1 bs1 ho1;rw[I7]at hT;obtain⟨Dy1,afZ,hk1⟩:=hT;have hsame:Dy1=Dy:=by obtain⟨s2,bs2,ho2⟩:=afZ.ne;obtain⟨b1,_,_⟩:=Jq (hk1 s2 bs2 ho2).1;exact NZ.det h4 (NZ.YF afZ hDx h1 b1 ho1) Wi
  subst hsame;have:=hk1 s' bs' ho';show _/\K _ _ _ _ (app x (app y st s' bs') s1 bs1);rw[<- VB h3 (λb hb hb'=>a3 b (hDx.fst ho1 b hb) (Wi.fst ho' b hb'))];exact this
theorem Ob {x:mY}{K K':List Nat->List Nat->iH->Prop}(hk:∀rd wr st,K rd wr st->K' rd wr st)(h:T P x st K):T P x st K':=by rw[I7]at h⊢;obtain⟨D,hD,h⟩:=h;exact⟨D,hD,λs bs ho=>hk _ _ _ (h s bs ho)⟩
abbrev Log :=List (Nat×List Nat×List Nat)
theorem Ii {I9 rd wr:List Nat}{log:Log} : Am I9 rd wr log=true<->∀e,e∈log->e.1∈I9\/apartB e.2.1 e.2.2 rd wr=true:=by
 induction log with
 |nil=>simp[Am]
 | cons e l ih=>obtain⟨j,r,w⟩:=e;simp only[Am,ai,iT,ih,cu,forall_eq_or_imp,apartB,vY]
structure GK where
 i:Nat
 o:mY
 I9:List Nat
def wpI (P:Program):List GK->Log->iH->(iH->Prop)->Prop
 |[],_,st,K=>K st
 |x::r,log,st,K=>T P x.o st λrd wr st'=>Am x.I9 rd wr log=true/\wpI P r ((x.i,rd,wr)::log) st' K
theorem Zp {K:iH->Prop} : ∀{l:List GK} {log aga:Log} {st:iH},(∀e,e∈aga->e∈log)->wpI P l log st K->wpI P l aga st K
 |[],_,_,_,_,h=>h
 | x::r,log,aga,st,hl,h=>by
   refine Ob (λrd wr st' hk=>⟨?_,Zp (l:=r) ?_ hk.2⟩) h
   ·rw[Ii]at hk⊢;exact λe he=>hk.1 e (hl e he)
   ·intro e he;rcases cu.1 he with rfl|he
    ·exact bC ..
    ·exact dL _ (hl e he)
theorem TM {K:iH->Prop}{x:GK}{post:List GK} : ∀{pre:List GK} {log:Log} {st:iH},(∀p,p∈pre->p.i ∉ x.I9/\KU p.o x.o=true)->wpI P (pre++x::post) log st K->wpI P (x::(pre++post)) log st K
 |[],_,_,_,h=>h
 | p::pre,log,st,hp,h=>by
   obtain⟨hn,hap⟩:=hp p (bC ..);have h1:T P p.o st λrd wr st1=>T P x.o st1 λrd' wr' st2=>apartB rd wr rd' wr'=true /\
    (Am p.I9 rd wr log=true/\Am x.I9 rd' wr' log=true/\wpI P (pre++post) ((x.i,rd',wr')::(p.i,rd,wr)::log) st2 K):=by
    refine Ob (λrd wr st1 hk=>?_) h;have h2:=TM (pre:=pre) (λq hq=>hp q (dL _ hq)) hk.2;refine Ob (λrd' wr' st2 hk2=>?_) h2;have agS:=Ii.1 hk2.1;refine⟨(agS (p.i,rd,wr) (bC ..)).resolve_left hn,hk.1,Ii.2 λe he=>agS e (dL _ he),hk2.2⟩
   refine Ob (λrd' wr' st2 hk=>?_) (afJ hap h1);rw[I7]at hk;obtain⟨D,hD,hk⟩:=hk;refine⟨?_,?_⟩
   ·obtain⟨s,bs,ho⟩:=hD.ne;exact(hk s bs ho).2.2.1
   ·show T P p.o st2 _;rw[I7];refine⟨D,hD,λs bs ho=>?_⟩;obtain⟨k1,k2,k3,k4⟩:=hk s bs ho;refine⟨Ii.2 λe he=>?_,Zp ?_ k4⟩
    ·rcases cu.1 he with rfl|he
     ·right
      simp only[apartB,ai,Ju]at k1⊢;exact⟨⟨λb h1 h2=>k1.2 b h2 h1,λb h1 h2=>k1.1.2 b h2 h1⟩,λb h1 h2=>k1.1.1 b h2 h1⟩
     ·exact Ii.1 k2 e he
    ·intro e he;simp only[cu]at he⊢;rcases he with h|h|h
     ·exact .inr (.inl h)
     ·exact .inl h
     ·exact .inr (.inr h)
end
end
section
section
variable {P:Program} {E:Env P} {n:Nat} {ops:Array Oper} {Q:Exit->Act->World->Prop}
def Ur (P:Program)(n m:Nat)(ops:Array Oper):List Oper->List mY->Bool
 |[],[]=>true
 |o::os,x::xs=>PV P n m ops o x&&Ur P n m ops os xs
 |_,_=>false
theorem Rk (hm:E.m<=10):∀{os:List Oper} {xs:List mY} {K:iH->Prop} {a:Act} {w:World},Ur P n E.m ops os xs=true->AK E n (λst=>wpOps P xs st K) a w ->
 (∀a w,AK E n K a w->Q .normal a w)->wpList P ops Q os a w
 |[],[],K,a,w,_,h,hq=>hq a w h
 | o::os,x::xs,K,a,w,hc,h,hq=>by
   simp only[Ur,ai]at hc;obtain⟨I,ρ,st,hT,hg⟩:=h;have h1:=YK (Q:=Q) (ops:=ops) hg hm hc.1 (show T P x st λ_ _ st'=>wpOps P xs st' K from hT);unfold Vp at h1;unfold wpList;have key:∀a w,AK E n (λst=>∃rd wr:List Nat,wpOps P xs st K) a w->wpList P ops Q os a w:=λa w hk=>Rk hm hc.2 (hk.imp λst ⟨_,_,h⟩=>h) hq;split
   ·rename_i hw;rw[if_pos hw]at h1;exact h1.imp (Oper.wp_mono key) id
   ·rename_i hw;rw[if_neg hw]at h1;exact key _ _ h1
 |[],_::_,_,_,_,hc,_,_=>by cases hc
 |_::_,[],_,_,_,hc,_,_=>by cases hc
def items : List (mY×List Nat)->Nat->List GK
 |[],_=>[]
 |(o,I9)::r,i=>⟨i,o,I9⟩::items r (i+1)
theorem adP {K:iH->Prop} : ∀{l:List (mY×List Nat)} {i:Nat} {log:Log} {st:iH},wpD P l i log st K=wpI P (items l i) log st K
 |[],_,_,_=>rfl
 | (o,I9)::r,i,log,st=>by
   simp only[wpD,items,wpI]
   congr 1
   funext rd wr st'
   rw[adP (l:=r)]
def XJ (L:List GK)(o:Oper)(x:GK):Bool:=
 x.I9.all (λj=>o.after.toList.any λe=>Region.binds .any e&&(e.on==j||L.any λy=>y.i==e.on&&y.I9.contains j)) &&
 o.after.toList.all (λe=> !Region.binds .any e||decide (e.on<x.i))
def MC : List GK->Bool
 |[]=>true
 |x::r=>r.all (λy=>y.I9.contains x.i||KU x.o y.o)&&MC r
def Ul (P:Program)(n m:Nat)(ops:Array Oper)(L:List GK)(x:GK):Bool:=
 match ops[x.i]? with
 |some o=>PV P n m ops o x.o&&XJ L o x
 |none=>false
def VO (P:Program)(n m:Nat)(ops:Array Oper)(l:List (mY×List Nat)):Bool:=
 l.length==ops.size&&(items l 0).all (Ul P n m ops (items l 0))&&MC (items l 0)
theorem QW : ∀{l:List (mY×List Nat)} {i:Nat},(∀x,x∈items l i->i<=x.i/\x.i<i+l.length)/\(items l i).Pairwise (λx y=>x.i<y.i)/\(∀j,j<l.length->∃x,x∈items l i/\x.i=i+j)
 |[],i=>⟨λx hx=>by simp[items]at hx,.nil,λj hj=>by simp at hj⟩
 | (o,I9)::r,i=>by
   obtain⟨h1,h2,h3⟩:=QW (l:=r) (i:=i+1);simp only[items,List.length_cons];refine⟨λx hx=>?_,xA.2 ⟨λy hy=>?_,h2⟩,λj hj=>?_⟩
   ·rcases cu.1 hx with rfl|hx
    ·exact⟨ax _,by simp⟩
    ·have:=h1 x hx;omega
   ·have:=(h1 y hy).1;show i<y.i;omega
   ·cases j with
    |zero=>exact⟨_,bC ..,rfl⟩
    | succ j=>obtain⟨x,hx,he⟩:=h3 j (by omega);exact⟨x,dL _ hx,by omega⟩
theorem O5 : ∀{l:List GK},MC l=true->l.Pairwise λx y=>x.i∈y.I9\/KU x.o y.o=true
 |[],_=>.nil
 | x::r,h=>by simp only[MC,ai,aZ,iT,vY]at h;exact xA.2 ⟨h.1,O5 h.2⟩
theorem aeB {l:Array Bool}{i:Nat}(h:l.getD i true=false):l.getD i false=false:=by
 simp only[qo]at *;cases hh:l[i]? with
 |none=>rw[hh]at h;cases h
 |some b=>rw[hh]at h;simpa using h
theorem ZI (hm:E.m<=10){L:List (mY×List Nat)}(hc:VO P n E.m ops L=true){K:iH->Prop}(hq:∀a w,AK E n K a w->Q .normal a w) :
 ∀ (fuel:Nat) (l:List GK) (listed:Array Bool) (log:Log) (a:Act) (w:World),l.length<=fuel->l.Sublist (items L 0)->listed.size=ops.size ->
   (∀x,x∈items L 0->(listed.getD x.i true=false<->x∈l)) ->
   (∀x,x∈items L 0->listed.getD x.i false=true->∀j,j∈x.I9->listed.getD j false=true) ->
   AK E n (λst=>wpI P l log st K) a w->wpAny P .any ops Q fuel listed a w:=by
 simp only[VO,ai,beq_iff_eq,aZ]at hc;obtain⟨⟨hlen,hit⟩,hap⟩:=hc;obtain⟨i1,i2,i3⟩:=QW (l:=L) (i:=0);have hpw:(items L 0).Pairwise λx y=>x.i<y.i/\(x.i∈y.I9\/KU x.o y.o=true):=i2.and (O5 hap);have afr:∀x y,x∈items L 0->y∈items L 0->x.i=y.i->x=y:=by
  intro x y hx hy e;obtain⟨p,hp,rfl⟩:=yY hx;obtain⟨q,hq',rfl⟩:=yY hy;have agV:=zX.1 i2;rcases Ah p q with h|h|h
  ·have:=agV p q hp hq' h;omega
  ·subst h;rfl
  ·have:=agV q p hq' hp h;omega
 have af6:∀(l:List GK) (listed:Array Bool),l.Sublist (items L 0)->listed.size=ops.size->(∀x,x∈items L 0->(listed.getD x.i true=false<->x∈l))->Bo .any ops listed=[]->l=[]:=by
  intro l listed hsub hsz hl hr;cases l with
  |nil=>rfl
  | cons x r=>
    exfalso;have hx:=hsub.subset (bC ..);have hc:=hit x hx;unfold Ul at hc;cases ho:ops[x.i]? with
    |none=>rw[ho]at hc;cases hc
    | some o=>
      rw[ho]at hc;simp only[ai,XJ,aZ,iT,xY,decide_eq_true_eq]at hc;have:x.i∈Bo .any ops listed:=by
       rw[mem_ready];refine⟨(hl x hx).2 (bC ..),o,ho,λe he hb=>?_⟩;have hlt:=(hc.2.2 e (by simpa using he)).resolve_left (by rw[hb];simp);have hxi:=i1 x hx;obtain⟨y,hy,hye⟩:=i3 e.on (by omega);have hye:y.i=e.on:=(by omega);by_cases hyl:y∈x::r
       ·exfalso;rcases cu.1 hyl with rfl|hyr
        ·omega
        ·have:=(xA.1 (i2.sublist hsub)).1 y hyr;omega
       ·have h1:¬listed.getD y.i true=false:=λh=>hyl ((hl y hy).1 h);have hin:y.i<listed.size:=(by rw[hsz,<- hlen];have:=i1 y hy;omega);rw[<- hye];simp only[qo,Array.getElem?_eq_getElem hin,Option.getD_some]at h1⊢;simpa using h1
      rw[hr]at this;cases this
 intro fuel
 induction fuel with
 | zero=>
   intro l listed log a w hf hsub hsz hl _ h;have:l=[]:=List.length_eq_zero_iff.1 (by omega);subst this;refine⟨?_,hq a w h⟩;cases hr:Bo .any ops listed with
   |nil=>rfl
   | cons i r=>exfalso;have hi:i∈Bo .any ops listed:=(by rw[hr];exact bC ..);obtain⟨hu,o,ho,_⟩:=mem_ready.1 hi;have hlt:=(oC.1 ho).1;obtain⟨y,hy,hye⟩:=i3 i (by omega);have hye:y.i=i:=(by omega);have:=(hl y hy).1 (by rw[hye];exact hu);cases this
 | succ fuel ih=>
   intro l listed log a w hf hsub hsz hl hdown h;refine⟨λhr=>?_,λi hi=>?_⟩
   ·have:=af6 l listed hsub hsz hl hr;subst this;exact hq a w h
   ·obtain⟨hu,o,ho,hall⟩:=mem_ready.1 hi;have hlt:=(oC.1 ho).1;obtain⟨x,hx,hxe⟩:=i3 i (by omega);have hxe:x.i=i:=(by omega);subst hxe;have hxl:=(hl x hx).1 hu;have hcx:=hit x hx;unfold Ul at hcx;rw[ho]at hcx;simp only[ai]at hcx;obtain⟨hco,hca⟩:=hcx;have haft:∀j,j∈x.I9->listed.getD j false=true:=by
     intro j hj;simp only[XJ,ai,aZ,List.any_eq_true,iT,beq_iff_eq]at hca;obtain⟨e,he,hb,hej⟩:=hca.1 j hj;have hel:=hall e (by simpa using he) hb;rcases hej with rfl|⟨y,hy,hye,hyj⟩
     ·exact hel
     ·rw[<- hye]at hel;exact hdown y hy hel j (by simpa using hyj)
    obtain⟨pre,post,rfl⟩:=List.append_of_mem hxl;have aeI:=hpw.sublist hsub;rw[List.pairwise_append]at aeI;have hpre:∀p,p∈pre->p.i ∉ x.I9/\KU p.o x.o=true:=by
     intro p hp;have h1:=aeI.2.2 p hp x (bC ..);have hn:p.i ∉ x.I9:=by intro hm';have h2:=haft _ hm';have h3:=(hl p (hsub.subset (mW _ hp))).2 (mW _ hp);rw[aeB h3]at h2;cases h2
     exact⟨hn,h1.2.resolve_left hn⟩
    obtain⟨I,ρ,st,hT,hg⟩:=h;have hT:=TM hpre hT;have h1:=YK (Q:=Q) (ops:=ops) hg hm hco (show T P x.o st λrd wr st'=>Am x.I9 rd wr log=true/\wpI P (pre++post) ((x.i,rd,wr)::log) st' K from hT);have key:∀a w,AK E n (λst=>∃rd wr,Am x.I9 rd wr log=true/\wpI P (pre++post) ((x.i,rd,wr)::log) st K) a w->wpAny P .any ops Q fuel (listed.setIfInBounds x.i true) a w:=by
     rintro a w ⟨I,ρ,st,⟨rd,wr,_,hk⟩,hg⟩;have hnx:x ∉ pre++post:=by
      intro hxm;rcases aV.1 hxm with h|h
      ·have:=(aeI.2.2 x h x (bC ..)).1;omega
      ·have:=((xA.1 aeI.2.1).1 x h).1;omega
     refine ih (pre++post) _ ((x.i,rd,wr)::log) a w (by simp at hf⊢;omega) ?_ (by simp[hsz]) ?_ ?_ ⟨I,ρ,st,hk,hg⟩
     ·exact(List.Sublist.append_left (List.sublist_cons_self x post) pre).trans hsub
     ·intro y hy;by_cases hyx:y=x
      ·subst hyx;constructor
       ·intro h;have hin:y.i<listed.size:=(by rw[hsz];exact hlt);simp[hin]at h
       ·intro h;exact absurd h hnx
      ·have hne:x.i≠y.i:=λe=>hyx (afr y x hy hx e.symm);rw[getD_set_ne true hne,hl y hy];simp only[aV,cu,hyx,false_or]
     ·intro y hy hyl j hj;by_cases hyx:y=x
      ·subst hyx;exact getD_set_true (haft j hj)
      ·have hne:x.i≠y.i:=λe=>hyx (afr y x hy hx e.symm);rw[getD_set_ne false hne]at hyl;exact getD_set_true (hdown y hy hyl j hj)
    unfold wpOp;rw[ho];unfold Vp at h1;simp only;split
    ·rename_i hw;rw[if_pos hw]at h1;exact h1.imp (Oper.wp_mono key) id
    ·rename_i hw;rw[if_neg hw]at h1;exact key _ _ h1
theorem Yr (hm:E.m<=10)(hf:P.follows .mixedOrders=true){L:List (mY×List Nat)}(hc:VO P n E.m ops L=true){K:iH->Prop}(hq:∀a w,AK E n K a w->Q .normal a w)
 {id:Nat} {a:Act} {w:World} (h:AK E n (λst=>wpD P L 0 [] st K) a w):(Code.region id ops true).wp P Q a w:=by
 refine wp_region_any hf ?_;have hlen:L.length=ops.size:=by simp only[VO,ai,beq_iff_eq]at hc;exact hc.1.1
 have i0:=QW (l:=L) (i:=0);have hil:(items L 0).length=L.length:=by
  clear i0 hlen h hc;generalize 0=i
  induction L generalizing i with
  |nil=>rfl
  |cons x r ih=>obtain⟨o,I9⟩:=x;simp[items,ih]
 refine ZI hm hc hq ops.size (items L 0) (EG ops.size false) [] a _ (by omega) (List.Sublist.refl _) (by simp) ?_ ?_ ?_
 ·intro x hx;have:=i0.1 x hx;have hlt:x.i<ops.size:=by omega
  simp[hlt,hx]
 ·intro x hx h;exfalso;have:=i0.1 x hx;have hlt:x.i<ops.size:=by omega
  simp[hlt]at h
 ·obtain⟨I,ρ,st,hT,hg⟩:=h;exact⟨I,ρ,st,Eq.mp (adP (P:=P) (l:=L) (i:=0) (log:=[]) (st:=st) (K:=K)) hT,hg.drew⟩
end
end
section
def Jk (zs:List Nat)(bx:Nat->Box)(π:Nat->Option Nat)(vs:List Nat):AC->AC->Prop
 |_,.JC=>True
 |.c x,.c y=>x=y
 |.jI sz,.c y=>y = .sl sz []
 | .own b n sz,.c y=>b∈zs/\match(bx b).arr with
   |some (sz',es)=>sz'=sz/\n<=es.length/\y = .sl sz (es.take n)
   |none=>False
 |.jI sz,.jI sz'=>sz=sz'
 |.jI sz,.own b n sz'=>b∈vs/\n=0/\sz=sz'
 |.own b n sz,.own b' n' sz'=>π b'=some b/\n=n'/\sz=sz'
 |.sub b lo n _ sz,.own b' n' sz'=>π b'=some b/\lo=0/\n=n'/\sz=sz'
 |.sub b lo n c sz,.sub b' lo' n' c' sz'=>π b'=some b/\lo=lo'/\n=n'/\c=c'/\sz=sz'
 |.ptr b o,.ptr b' o'=>π b'=some b/\o=o'
 |.Aq b i sz o,.Aq b' i' sz' o'=>π b'=some b/\i=i'/\sz=sz'/\o=o'
 |.G9 cs,.G9 cs'=>cs=cs'
 |.fn f caps,.fn f' YN=>f=f'/\YN.map π=caps.map some
 |.opt T b,.opt T' b'=>T=T'/\π b'=some b
 |.wO b n,.wO b' n'=>π b'=some b/\n=n'
 |.err g,.err g'=>g=g'
 |_,_=>False
def LM (zs:List Nat)(bx:Nat->Box)(π:Nat->Option Nat)(vs:List Nat):List AC->List AC->Prop
 |[],[]=>True
 |x::xs,y::ys=>Jk zs bx π vs x y/\LM zs bx π vs xs ys
 |_,_=>False
def SN (zs:List Nat)(bx:Nat->Box)(π:Nat->Option Nat)(vs:List Nat):List (Bool×List AC)->List (Bool×List AC)->Prop
 |[],[]=>True
 |(g,x)::xs,(g',y)::ys=>g=g'/\LM zs bx π vs x y/\SN zs bx π vs xs ys
 |_,_=>False
def Zo (zs:List Nat)(bx:Nat->Box)(π:Nat->Option Nat)(vs:List Nat):AV->AV->Prop
 |.one x,.one y=>Jk zs bx π vs x y
 |.agg xs,.agg ys=>LM zs bx π vs xs ys
 |.xg xs,.xg ys=>SN zs bx π vs xs ys
 |_,_=>False
def Xc (zs:List Nat)(bx:Nat->Box)(π:Nat->Option Nat)(vs:List Nat)(b:Nat):Box->Prop
 |.absent=>π b=none/\b ∉ vs
 |.dead=>True
 | .var ys=>match π b with
   | some c=>match bx c with
     |.var xs=>LM zs bx π vs xs ys
     |_=>False
   |none=>False
 | .dat sz es=>match π b with
   |some c=>c ∉ zs/\(bx c = .dat sz es\/∃t,bx c = .dat sz (es++t))
   |none=>b∈vs/\es=[]
 | .FV sz es=>match π b with
   |some c=>bx c = .FV sz es\/(c∈zs/\bx c = .dat sz es)
   |none=>False
 | .row e l=>match π b with
   |some c=>bx c = .row e l
   |none=>False
def Box.OB : Box->Bool
 |.dead=>true
 |_=>false
structure WkS (m:Nat)(bx bx':Nat->Box)(zs:List Nat)(π:Nat->Option Nat)(vs:List Nat):Prop where
 box:∀b,Xc zs bx π vs b (bx' b)
 inj:∀b b' c,(bx' b).OB=false->(bx' b').OB=false->π b=some c->π b'=some c->b=b'
 vir:∀b,b∈vs->π b=none
 fix:∀b,b<m->π b=some b\/(π b=none/\b ∉ vs/\bx b = .absent)
def SQ (zs:List Nat)(bx:Nat->Box)(π:Nat->Option Nat)(vs:List Nat):Slot->Slot->Prop
 |_,.none=>True
 |.v g x,.v g' y=>g=g'/\(g=true->Zo zs bx π vs x y)
 |_,_=>False
def KA (m:Nat)(st S:iH):Prop:=∃zs π vs,WkS m st.bx S.bx zs π vs/\∀t,SQ zs st.bx π vs (st.tm t) (S.tm t)
section
variable {P:Program} {E:Env P} {I:IH} {ρ:Ren} {n:Nat} {st:iH} {a:Act} {w:World}
def D7 (ρ:Ren)(π:Nat->Option Nat)(vs:List Nat):Ren:=λb=>match π b with
 |some c=>ρ c
 |none=>if b∈vs then some (0,0)else none
theorem adH (h:GX E I ρ n st a w){zs vs:List Nat}{π:Nat->Option Nat}(hvs:∀b,b∈vs->π b=none){v:Value}{x y:AC}(hx:GC I ρ v x)(hy:Jk zs st.bx π vs x y):GC (Dl I ρ w st.bx zs) (D7 ρ π vs) v y:=by
 have hle:=Gh h.bx zs;cases y with
 |JC=>exact hx.one
 | c y=>
   cases x with
   |c x=>simp only[Jk]at hy;subst hy;exact Rd.mono hle hx
   | jI sz=>simp only[Jk]at hy;subst hy;simp only[GC]at hx;subst hx;exact Rd.sl none 0 0 _ [] (λ_ _=>undef) rfl (ax _) (by simp[maxLen]) (by simp) (by simp) (by intro ad h;cases h) (by simp)
   | own b m sz=>
     simp only[Jk]at hy;obtain⟨hb,hy⟩:=hy;split at hy
     ·rename_i sz' es harr;obtain⟨rfl,hm,rfl⟩:=hy;exact UL h hb harr hm hx
     ·exact hy.elim
   |_=>simp[Jk]at hy
 | jI sz=>cases x<;>simp only[Jk]at hy;subst hy;exact hx
 | own b' m' sz'=>
   cases x with
   | jI sz=>simp only[Jk]at hy;obtain⟨hb,rfl,rfl⟩:=hy;simp only[GC]at hx;subst hx;exact⟨0,0,none,0,by simp[D7,hvs b' hb,hb],rfl,ax _,ax _,λh=>absurd rfl h⟩
   | own b m sz=>simp only[Jk]at hy;obtain⟨hb,rfl,rfl⟩:=hy;obtain⟨k,cap,ad,c,hr,hrest⟩:=hx;exact⟨k,cap,ad,c,by simp only[D7,hb];exact hr,hrest⟩
   | sub b lo m c0 sz=>simp only[Jk]at hy;obtain⟨hb,rfl,rfl,rfl⟩:=hy;obtain⟨k,cap,ad,c,hr,hv,hm,hcc,_,ha⟩:=hx;refine⟨k,cap,ad,c,by simp only[D7,hb];exact hr,hv,hm,by omega,λhc0=>?_⟩;have:=ha (.inr ⟨rfl,hc0⟩);rw[Dt]at this;exact this
   |_=>simp[Jk]at hy
 | sub b' lo' m' c' sz'=>
   cases x with
   | sub b lo m c sz=>simp only[Jk]at hy;obtain⟨hb,rfl,rfl,rfl,rfl⟩:=hy;obtain⟨k,cap,ad,c1,hr,hrest⟩:=hx;exact⟨k,cap,ad,c1,by simp only[D7,hb];exact hr,hrest⟩
   |_=>simp[Jk]at hy
 | ptr b' o'=>
   cases x with
   | ptr b o=>simp only[Jk]at hy;obtain⟨hb,rfl⟩:=hy;obtain⟨k,cap,hr,hrest⟩:=hx;exact⟨k,cap,by simp only[D7,hb];exact hr,hrest⟩
   |_=>simp[Jk]at hy
 | Aq b' i' sz' o'=>
   cases x with
   | Aq b i sz o=>simp only[Jk]at hy;obtain⟨hb,rfl,rfl,rfl⟩:=hy;obtain⟨k,cap,hr,hrest⟩:=hx;exact⟨k,cap,by simp only[D7,hb];exact hr,hrest⟩
   |_=>simp[Jk]at hy
 | opt T' b'=>
   cases x with
   | opt T b=>simp only[Jk]at hy;obtain⟨rfl,hb⟩:=hy;obtain⟨k,hr,hrest⟩:=hx;exact⟨k,by simp only[D7,hb];exact hr,hrest⟩
   |_=>simp[Jk]at hy
 | wO b' n'=>
   cases x with
   | wO b n=>simp only[Jk]at hy;obtain⟨hb,rfl⟩:=hy;obtain⟨k,cap,hr,hrest⟩:=hx;exact⟨k,cap,by simp only[D7,hb];exact hr,hrest⟩
   |_=>simp[Jk]at hy
 | err g'=>
   cases x with
   |err g=>simp only[Jk]at hy;subst hy;exact hx
   |_=>simp[Jk]at hy
 | G9 cs'=>
   cases x with
   | G9 cs=>simp only[Jk]at hy;subst hy;obtain⟨p,hv,hc⟩:=hx;exact⟨p,hv,λj c hj=>let ⟨u,h1,h2⟩:=hc j c hj;⟨u,IH.J6 hle h1,h2.mono hle⟩⟩
   |_=>simp[Jk]at hy
 | fn f' YN=>
   cases x with
   | fn f caps=>simp only[Jk]at hy;obtain⟨rfl,hcs⟩:=hy;obtain⟨ks,hk1,hk2,hk3⟩:=hx;have hlen:YN.length=caps.length:=(by have:=congrArg kN hcs;simpa using this);refine⟨ks,by rw[hlen];exact hk1,λj b k hb hk=>?_,hk3⟩;have hj:j<caps.length:=(by have:=(bD.1 hb).1;omega);have h1:(YN.map π)[j]? = (caps.map some)[j]?:=(by rw[hcs]);rw[fD,fD,hb,aF hj]at h1;simp only[Option.map_some,aH]at h1;obtain⟨cap,hr⟩:=hk2 j _ k (aF hj) hk;exact⟨cap,by simp only[D7,h1];exact hr⟩
   |_=>simp[Jk]at hy
theorem Vo (h:GX E I ρ n st a w){zs vs:List Nat}{π:Nat->Option Nat}(hvs:∀b,b∈vs->π b=none):∀{us:List Value} {xs ys:List AC},JW I ρ us xs->LM zs st.bx π vs xs ys->JW (Dl I ρ w st.bx zs) (D7 ρ π vs) us ys
 |us,[],[],hx,_=>⟨hx.1,λj v x hv hx=>by simp at hx⟩
 | u::us,x::xs,y::ys,hx,hy=>by
   have ih:=Vo h hvs (us:=us) (xs:=xs) (ys:=ys) ⟨by simpa using hx.1,λj v z hv hz=>hx.2 (j+1) v z (by simpa using hv) (by simpa using hz)⟩ hy.2;refine⟨by simp[ih.1],λj v z hv hz=>?_⟩;cases j with
   | zero=>simp at hv hz;subst hv;subst hz;exact adH h hvs (hx.2 0 _ _ rfl rfl) hy.1
   |succ j=>exact ih.2 j v z (by simpa using hv) (by simpa using hz)
 |[],_::_,_,hx,_=>by have:=hx.1;simp at this
 |_,[],_::_,_,hy=>by simp[LM]at hy
 |_,_::_,[],_,hy=>by simp[LM]at hy
theorem Xe {zs vs:List Nat}{bx:Nat->Box}{π:Nat->Option Nat} : ∀{xs ys:List (Bool×List AC)},SN zs bx π vs xs ys->xs.length=ys.length/\∀(j:Nat) (y:Bool×List AC),ys[j]? = some y->∃x:Bool×List AC,xs[j]? = some x/\x.1=y.1/\LM zs bx π vs x.2 y.2
 |[],[],_=>⟨rfl,λj y hy=>by simp at hy⟩
 | (g,x)::xs,(g',y)::ys,h=>by
   obtain⟨h1,h2,h3⟩:=h;obtain⟨i1,i2⟩:=Xe h3;refine⟨by simp[i1],λj z hz=>?_⟩;cases j with
   |zero=>simp at hz;subst hz;exact⟨(g,x),rfl,h1,h2⟩
   | succ j=>obtain⟨q,hq,hr⟩:=i2 j z (by simpa using hz);exact⟨q,by simpa using hq,hr⟩
 |[],_::_,h=>by simp[SN]at h
 |_::_,[],h=>by simp[SN]at h
theorem afA (h:GX E I ρ n st a w){zs vs:List Nat}{π:Nat->Option Nat}(hvs:∀b,b∈vs->π b=none){v:Value}{x y:AV}(hx:GV I ρ v x)(hy:Zo zs st.bx π vs x y):GV (Dl I ρ w st.bx zs) (D7 ρ π vs) v y:=by
 cases x with
 | one x=>cases y with
   |one y=>exact adH h hvs hx hy
   |_=>exact hy.elim
 | agg xs=>cases y with
   |agg ys=>obtain⟨cs,rfl,hg⟩:=hx;exact⟨cs,rfl,Vo h hvs hg hy⟩
   |_=>exact hy.elim
 | xg ps=>cases y with
   | xg qs=>
     obtain⟨us,rfl,hl,hp⟩:=hx;obtain⟨i1,i2⟩:=Xe (show SN zs st.bx π vs ps qs from hy);refine⟨us,rfl,by rw[hl,i1],λj v q hv hq=>?_⟩;obtain⟨p,hpj,e,hw⟩:=i2 j q hq;have h1:=hp j v p hv hpj;unfold GP at h1⊢;rw[e]at h1;split at h1
     ·rename_i hb;rw[if_pos hb];obtain⟨cs,rfl,hg⟩:=h1;exact⟨cs,rfl,Vo h hvs hg hw⟩
     ·rename_i hb;rw[if_neg hb];obtain⟨x,hx,hg⟩:=h1;rw[hx]at hw;cases hq2:q.2 with
      |nil=>rw[hq2]at hw;exact hw.elim
      | cons y t=>
        rw[hq2]at hw;cases t with
        |nil=>exact⟨y,rfl,adH h hvs hg hw.1⟩
        |cons z t=>exact hw.2.elim
   |_=>exact hy.elim
theorem TL (h:GX E I ρ n st a w){m:Nat}(hm:E.m<=m){bx':Nat->Box}{zs vs:List Nat}{π:Nat->Option Nat}(hw:WkS m st.bx bx' zs π vs) :
 GX E (Dl I ρ w st.bx zs) (D7 ρ π vs) n ⟨λ_=>.none,bx'⟩ a w:=by
 have hF:=h.freeze zs;generalize hJ:Dl I ρ w st.bx zs=J at *;have hnd:∀b k,(bx' b).uses (D7 ρ π vs b) k->(bx' b).OB=false:=λb k hu=>by
  cases hx:bx' b with
  |dead=>rw[hx]at hu;exact hu.elim
  |_=>rfl
 have Jh:∀b k,(bx' b).uses (D7 ρ π vs b) k->∃c,π b=some c/\((st.FV zs).bx c).uses (ρ c) k:=by
  intro b k hu;have hb:=hw.box b;cases hx:bx' b with
  | var ys=>
    rw[hx]at hu hb;simp only[Xc]at hb;split at hb
    ·rename_i c hc;refine⟨c,hc,?_⟩;split at hb
     ·rename_i xs hxs;rw[Bj,hxs];simp only[D7,hc]at hu;split<;>exact hu
     ·exact hb.elim
    ·exact hb.elim
  | dat sz es=>
    rw[hx]at hu hb;simp only[Xc]at hb;split at hb
    ·rename_i c hc;refine⟨c,hc,?_⟩;simp only[D7,hc]at hu;rcases hb.2 with hb2|⟨t,hb2⟩
     ·rw[Bj,if_neg hb.1,hb2];exact hu
     ·rw[Bj,if_neg hb.1,hb2];exact hu
    ·rename_i hc;obtain⟨cap,hu1,hu2⟩:=hu;simp only[D7,hc,hb.1,if_true,aH,aJ]at hu1;exact absurd hu1.2.symm hu2
  | row e l=>
    rw[hx]at hu hb;simp only[Xc]at hb;split at hb
    ·rename_i c hc;refine⟨c,hc,?_⟩;simp only[D7,hc]at hu;rw[Bj,hb];split<;>exact hu
    ·exact hb.elim
  |absent=>rw[hx]at hu;exact hu.elim
  |dead=>rw[hx]at hu;exact hu.elim
  |FV sz es=>rw[hx]at hu;exact hu.elim
 refine{ agree:=hF.agree,bx:=⟨λb=>?_,λb b' k hb hb'=>?_,λb k hb=>?_⟩,tm:=λt ht=>trivial,size:=h.size,defers:=h.defers,IC:=h.IC,own:=λb k hu=>?_,PX:=hF.PX,GI:=hF.GI,yM:=λb hb=>?_ }
 ·have hb:=hw.box b;show Eb J (D7 ρ π vs) w b (bx' b);cases hx:bx' b with
  | absent=>rw[hx]at hb;show D7 ρ π vs b=none;simp only[D7,hb.1,hb.2,if_false]
  |dead=>trivial
  | var ys=>
    rw[hx]at hb;simp only[Xc]at hb;split at hb
    ·rename_i c hc;split at hb
     ·rename_i xs hxs;have hok:=h.bx.ok c;rw[hxs]at hok;obtain⟨k,cap,cs,hr,hwk,hsz,hcs⟩:=hok;have hg:JW J (D7 ρ π vs) cs.toList ys:=by
       subst hJ;exact Vo h hw.vir ⟨by simpa using hsz,λj u x hu hx=>hcs j u x (by simpa using hu) hx⟩ hb
      refine⟨k,cap,cs,by simp only[D7,hc];exact hr,hwk,by simpa using hg.1,λj u x hu hx=>hg.2 j u x (by simpa using hu) hx⟩
     ·exact hb.elim
    ·exact hb.elim
  | dat sz es=>
    rw[hx]at hb;simp only[Xc]at hb;split at hb
    ·rename_i c hc;have hok:=hF.bx.ok c;rcases hb.2 with hb2|⟨t,hb2⟩
     ·rw[Bj,if_neg hb.1,hb2]at hok;obtain⟨k,cap,hr,hrest⟩:=hok;exact⟨k,cap,by simp only[D7,hc];exact hr,hrest⟩
     ·rw[Bj,if_neg hb.1,hb2]at hok;obtain⟨k,cap,hr,h1,h2,h3,h4⟩:=hok;refine⟨k,cap,by simp only[D7,hc];exact hr,by simp at h1;omega,h2,λe he=>h3 e (mW _ he),λh0=>?_⟩;obtain⟨cs,e,g1,g2,g3,g4⟩:=h4 h0;refine⟨cs,e,g1,g2,g3,λi j c' hc'=>g4 i j c' ?_⟩;have hi:=mF hc';rw[<- hc']
      congr 1
      simp only[bu];rw[gm hi]
    ·rename_i hc;obtain⟨hv,rfl⟩:=hb;exact⟨0,0,by simp only[D7,hc,hv,if_true],by simp,by simp[maxLen],by simp,λh=>absurd rfl h⟩
  | row e l=>
    rw[hx]at hb;simp only[Xc]at hb;split at hb
    ·rename_i c hc;have hok:=hF.bx.ok c;rw[Bj,hb]at hok;have e1:(if c∈zs then He (.row e l)else .row e l)=Box.row e l:=(by split<;>rfl);rw[e1]at hok;obtain⟨k,cap,hr,hrest⟩:=hok;exact⟨k,cap,by simp only[D7,hc];exact hr,hrest⟩
    ·exact hb.elim
  | FV sz es=>
    rw[hx]at hb;simp only[Xc]at hb;split at hb
    ·rename_i c hc;have hok:=hF.bx.ok c;have e:(st.FV zs).bx c = .FV sz es:=by
      rw[Bj];rcases hb with hb|⟨hz,hb⟩
      ·rw[hb];split<;>rfl
      ·rw[hb,if_pos hz];rfl
     rw[e]at hok;obtain⟨k,cap,hr,hrest⟩:=hok;exact⟨k,cap,by simp only[D7,hc];exact hr,hrest⟩
    ·exact hb.elim
 ·obtain⟨c,hc,hu⟩:=Jh b k hb;obtain⟨c',hc',hu'⟩:=Jh b' k hb';have:=hF.bx.inj c c' k hu hu';subst this;exact hw.inj b b' c (hnd b k hb) (hnd b' k hb') hc hc'
 ·obtain⟨c,hc,hu⟩:=Jh b k hb;exact hF.bx.fresh c k hu
 ·obtain⟨c,hc,hu'⟩:=Jh b k hu;exact hF.own c k hu'
 ·rcases hw.fix b (by omega)with hf|⟨hf,hv,hab⟩
  ·simp only[D7,hf];exact h.yM b hb
  ·have:=h.bx.ok b;rw[hab]at this;rw[<- h.yM b hb];simp only[D7,hf,hv,if_false];exact this.symm
theorem RQ (h:GX E I ρ n st a w){m:Nat}(hm:E.m<=m){S:iH}(hw:KA m st S):∃J σ,GX E J σ n S a w:=by
 obtain⟨zs,π,vs,hs,ht⟩:=hw;have h1:=TL h hm hs;refine⟨_,_,{ h1 with tm:=λt htn=>?_,bx:=h1.bx,agree:=h1.agree,size:=h1.size,defers:=h1.defers,IC:=h1.IC,own:=h1.own }⟩;have h2:=ht t;have h3:=h.tm t htn;cases hS:S.tm t with
 |none=>trivial
 | v g y=>
   rw[hS]at h2;cases hst:st.tm t with
   |none=>rw[hst]at h2;exact h2.elim
   | v g' x=>rw[hst]at h2 h3;obtain⟨rfl,hv⟩:=h2;exact⟨λhg=>afA h hs.vir (h3.1 hg) (hv hg),h3.2⟩
theorem AK.weak {m:Nat}(hm:E.m<=m){K:iH->Prop}{X:Type}{J:X->Prop}{S:X->iH}(hk:∀st,K st->∃x,J x/\KA m st (S x)){a:Act}{w:World}(h:AK E n K a w):∃x,J x/\AK E n (λst=>st=S x) a w:=by obtain⟨I,ρ,st,hK,hg⟩:=h;obtain⟨x,hj,hw⟩:=hk st hK;obtain⟨I',ρ',hg'⟩:=RQ hg hm hw;exact⟨x,hj,I',ρ',_,rfl,hg'⟩
end
end
section
inductive bZ where
 |skip
 |reg (ops:List mY) (keep:List Nat)
 |qW (ops:List (mY×List Nat)) (keep:List Nat)
 |seq (a b:bZ)
 |cut (a b:bZ)
 |cond (c:pF) (a b:bZ)
 |block (id:Nat) (a:bZ)
 |loop (a:bZ)
 |exit (id:Nat)
 |ret
 deriving Inhabited
inductive x8 where
 |normal
 |exit (id:Nat)
 |ret
abbrev AQ :=x8->iH->Prop
def x8.then (next:iH->Prop)(Q:AQ):AQ
 |.normal,st=>next st
 |.exit id,st=>Q (.exit id) st
 |.ret,st=>Q .ret st
def x8.inBlock (id:Nat)(Q:AQ):AQ
 |.exit id',st=>if id'=id then Q .normal st else Q (.exit id') st
 |.normal,st=>Q .normal st
 |.ret,st=>Q .ret st
def agG (body:AQ->iH->Prop)(Q:AQ)(st:iH):Prop:=
 ∃ (X:Type) (J:X->Prop) (S:X->iH) (μ:X->Nat),(∃x,J x/\KA 10 st (S x)) /\
   ∀x,J x->body (x8.then (λst'=>∃x',(J x'/\μ x'<μ x)/\KA 10 st' (S x')) Q) (S x)
def ahq (wa:AQ->iH->Prop)(wb:AQ->iH->Prop)(Q:AQ)(st:iH):Prop:=
 ∃(X:Type) (J:X->Prop) (S:X->iH),wa (x8.then (λst'=>∃x,J x/\KA 10 st' (S x)) Q) st/\∀x,J x->wb Q (S x)
def Iz (body:AQ->iH->Prop)(Q:AQ)(st:iH)(_:DU body)(_:DU Q):Prop:=agG body Q st
def L9 (wa wb:AQ->iH->Prop)(Q:AQ)(st:iH)(_:DU wa)(_:DU wb)(_:DU Q):Prop:=ahq wa wb Q st
def wpC (P:Program):bZ->AQ->iH->Prop
 |.skip,Q,st=>Q .normal st
 |.reg ops keep,Q,st=>wpOps P ops st λst=>Q .normal (st.keep keep)
 |.qW ops keep,Q,st=>wpD P ops 0 [] st λst=>Q .normal (st.keep keep)
 |.seq a b,Q,st=>wpC P a (x8.then (wpC P b Q) Q) st
 |.cut a b,Q,st=>L9 (wpC P a) (wpC P b) Q st .mk .mk .mk
 | .cond c a b,Q,st=>(c.ev st.tm).g=true/\match(c.ev st.tm).x with
   |.one (.c (.lit (.bool t)))=>(t=true->wpC P a Q st)/\(t=false->wpC P b Q st)
   |_=>False
 |.block id a,Q,st=>wpC P a (x8.inBlock id Q) st
 |.loop a,Q,st=>Iz (wpC P a) Q st .mk .mk
 |.exit id,Q,st=>Q (.exit id) st
 |.ret,Q,st=>Q .ret st
def Ec (P:Program)(n m:Nat):Code->bZ->Bool
 |.skip,.skip=>true
 |.region _ ops false,.reg xs _=>Ur P n m ops ops.toList xs
 |.region _ ops true,.qW xs _=>VO P n m ops xs&&P.follows .mixedOrders
 |.seq a b,.seq x y=>Ec P n m a x&&Ec P n m b y
 |.seq a b,.cut x y=>Ec P n m a x&&Ec P n m b y
 |.cond c a b,.cond d x y=>kZ n c d&&Ec P n m a x&&Ec P n m b y
 |.block i a,.block j x=>i==j&&Ec P n m a x
 |.loop a,.loop x=>Ec P n m a x
 |.exit i,.exit j=>i==j
 |.ret,.ret=>true
 |_,_=>false
section
variable {P:Program} {E:Env P} {n:Nat}
def CQ (E:Env P)(n:Nat)(Q:AQ):Exit->Act->World->Prop
 |.normal,a,w=>AK E n (Q .normal) a w
 |.exit id,a,w=>AK E n (Q (.exit id)) a w
 |.ret,a,w=>AK E n (Q .ret) a w
 |_,_,_=>False
theorem TP {Q:AQ}{next:iH->Prop}{nx:Act->World->Prop}(h:∀a w,AK E n next a w->nx a w)(e:Exit)(a:Act)(w:World)(hq:CQ E n (x8.then next Q) e a w):Exit.then nx (CQ E n Q) e a w:=by
 cases e with
 |normal=>exact h a w hq
 |exit id=>exact hq
 |ret=>exact hq
 |goto l=>exact hq
 |panic c=>exact hq
 |outgrown=>exact hq
theorem Xp {Q:AQ}{id:Nat}(e:Exit)(a:Act)(w:World)(hq:CQ E n (x8.inBlock id Q) e a w):Exit.inBlock id (CQ E n Q) e a w:=by
 cases e with
 |normal=>exact hq
 | exit id'=>
   simp only[Exit.inBlock];by_cases h:id'=id
   ·rw[if_pos h];exact AK.imp (λst (hs:x8.inBlock id Q (.exit id') st)=>by simp only[x8.inBlock,if_pos h]at hs;exact hs) hq
   ·rw[if_neg h];exact AK.imp (λst (hs:x8.inBlock id Q (.exit id') st)=>by simp only[x8.inBlock,if_neg h]at hs;exact hs) hq
 |ret=>exact hq
 |goto l=>exact hq
 |panic c=>exact hq
 |outgrown=>exact hq
theorem GX.keep {I:IH}{ρ:Ren}{st:iH}{a:Act}{w:World}(h:GX E I ρ n st a w)(ts:List Nat):GX E I ρ n (st.keep ts) a w:=
 have ht:∀t,t<n->GSl I ρ (a.tmps.getD t undef) ((st.keep ts).tm t):=λt ht=>by
  simp only[iH.keep];split
  ·exact h.tm t ht
  ·trivial
 { h with tm:=ht,bx:=h.bx,agree:=h.agree,size:=h.size,defers:=h.defers,IC:=h.IC,own:=h.own }
theorem SX {Q:Exit->Act->World->Prop}{a:Act}{w:World}{c:Code}(Inv:Nat->Act->World->Prop)(h0:∃k,Inv k a w)
 (round:∀k a w,Inv k a w->c.wp P (Exit.then (λa' w'=>∃k',k'<k/\Inv k' a' w') Q) a w):(Code.loop c).wp P Q a w:=by
 have hmin:∀a w,(∃k,Inv k a w)->∃k,Inv k a w/\∀j,j<k->¬Inv j a w:=by
  intro a w ⟨k,hk⟩
  induction k using Nat.strongRecOn with
  | _ k ih=>
    by_cases h:∃j,j<k/\Inv j a w
    ·obtain⟨j,hj,hi⟩:=h;exact ih j hj hi
    ·exact⟨k,hk,λj hj hi=>h ⟨j,hj,hi⟩⟩
 let μ:Act->World->Nat:=λa w=>open Classical in if h:∃k,Inv k a w then(hmin a w h).choose else 0
 have hμ:∀a w,(∃k,Inv k a w)->Inv (μ a w) a w/\∀j,Inv j a w->μ a w<=j:=by intro a w h;have hs:=(hmin a w h).choose_spec;simp only[μ,dif_pos h];exact⟨hs.1,λj hj=>A8 λhlt=>hs.2 j hlt hj⟩
 refine wp_loop (λa w=>∃k,Inv k a w) μ h0 λa w h=>?_;refine wp_mono (round _ a w (hμ a w h).1) λe a' w' hq=>?_;cases e with
 | normal=>obtain⟨k',hlt,hk⟩:=hq;exact⟨⟨k',hk⟩,Nat.lt_of_le_of_lt ((hμ a' w' ⟨k',hk⟩).2 k' hk) hlt⟩
 |exit id=>exact hq
 |ret=>exact hq
 |goto l=>exact hq
 |panic c=>exact hq
 |outgrown=>exact hq
theorem Bi (hm:E.m<=10):∀{ac:bZ} {c:Code} {Q:AQ} {a:Act} {w:World},Ec P n E.m c ac=true->AK E n (wpC P ac Q) a w->c.wp P (CQ E n Q) a w
 | .skip,c,Q,a,w,hc,h=>by
   unfold Ec at hc;split at hc<;>first|contradiction|skip
   exact wp_skip h
 | .reg xs keep,c,Q,a,w,hc,h=>by
   unfold Ec at hc;split at hc<;>first|contradiction|skip
   rename_i heq;cases heq;refine wp_region_list (Rk hm hc h λa w hk=>?_);obtain⟨I,ρ,st,hk,hg⟩:=hk;exact⟨I,ρ,_,hk,hg.keep keep⟩
 | .qW xs keep,c,Q,a,w,hc,h=>by
   unfold Ec at hc;split at hc<;>first|contradiction|skip
   rename_i heq;cases heq;simp only[ai]at hc;refine Yr hm hc.2 hc.1 (λa w hk=>?_) h;obtain⟨I,ρ,st,hk,hg⟩:=hk;exact⟨I,ρ,_,hk,hg.keep keep⟩
 | .seq x y,c,Q,a,w,hc,h=>by
   unfold Ec at hc;split at hc<;>first|contradiction|skip
   rename_i heq;cases heq;simp only[ai]at hc;exact wp_seq (wp_mono (Bi hm hc.1 h) (TP λa w hk=>Bi hm hc.2 hk))
 | .cut x y,c,Q,a,w,hc,h=>by
   unfold Ec at hc;split at hc<;>first|contradiction|skip
   rename_i heq;cases heq;simp only[ai]at hc;obtain⟨I,ρ,st,⟨X,J,S,h1,h2⟩,hg⟩:=h;refine wp_seq (wp_mono (Bi hm hc.1 ⟨I,ρ,st,h1,hg⟩) (TP λa w hk=>?_));obtain⟨x,hj,I',ρ',st',rfl,hg'⟩:=AK.weak hm (λst h=>h) hk;exact Bi hm hc.2 ⟨I',ρ',_,h2 x hj,hg'⟩
 | .cond d x y,c,Q,a,w,hc,h=>by
   unfold Ec at hc;split at hc<;>first|contradiction|skip
   rename_i heq;cases heq;simp only[ai]at hc;obtain⟨I,ρ,st,⟨h1,h2⟩,hg⟩:=h;have hv:=ou hg hc.1.1 h1;unfold fA at hv;split at h2
   ·rename_i t ht;rw[ht]at hv;exact wp_cond_split (J5 hv) (λe=>Bi hm hc.1.2 ⟨I,ρ,st,h2.1 e,hg⟩) (λe=>Bi hm hc.2 ⟨I,ρ,st,h2.2 e,hg⟩)
   ·exact h2.elim
 | .block id x,c,Q,a,w,hc,h=>by
   unfold Ec at hc;split at hc<;>first|contradiction|skip
   rename_i heq;cases heq;simp only[ai,beq_iff_eq]at hc;obtain⟨rfl,hc⟩:=hc;exact wp_block (wp_mono (Bi hm hc h) Xp)
 | .loop x,c,Q,a,w,hc,h=>by
   unfold Ec at hc;split at hc<;>first|contradiction|skip
   rename_i heq;cases heq;obtain⟨I,ρ,st,⟨X,J,S,μ,⟨x0,hj0,hw0⟩,hr⟩,hg⟩:=h;refine SX (λk a w=>∃x,J x/\μ x=k/\AK E n (λst=>st=S x) a w) ?_ ?_
   ·obtain⟨I',ρ',hg'⟩:=RQ hg hm hw0;exact⟨_,x0,hj0,rfl,I',ρ',_,rfl,hg'⟩
   ·rintro k a w ⟨x,hj,rfl,I,ρ,st,rfl,hg⟩;refine wp_mono (Bi hm hc ⟨I,ρ,_,hr x hj,hg⟩) (TP λa w hk=>?_);obtain⟨x',⟨hj',hlt⟩,hk'⟩:=AK.weak (J:=λx'=>J x'/\μ x'<μ x) hm (λst h=>h) hk;exact⟨_,hlt,x',hj',rfl,hk'⟩
 | .exit id,c,Q,a,w,hc,h=>by
   unfold Ec at hc;split at hc<;>first|contradiction|skip
   rename_i heq;cases heq;simp only[beq_iff_eq]at hc;subst hc;exact wp_exit h
 | .ret,c,Q,a,w,hc,h=>by
   unfold Ec at hc;split at hc<;>first|contradiction|skip
   exact wp_ret h
end
end
section
inductive BL where
 |tmp (t:Nat)
 |cell (t:Nat) (agg:Bool) (k:Nat)
 deriving Inhabited
def BL.ok (st:iH):BL->Prop
 |.tmp t=>(st.tm t).g=true
 |.cell t agg k=>(st.tm t).g=true/\(Ak agg k (st.tm t).x st.bx).vc
def BL.val (st:iH):BL->AV
 |.tmp t=>(st.tm t).x
 |.cell t agg k=>(Ak agg k (st.tm t).x st.bx).v
def Gy (st:iH):List BL->Prop
 |[]=>True
 |r::rs=>r.ok st/\(r.val st).flat/\Gy st rs
def partOf : AV->Bool×List AC
 |.one x=>(false,[x])
 |.agg xs=>(true,xs)
 |.xg _=>(false,[])
def AO (st:iH):List BL->List (Bool×List AC)
 |[]=>[]
 |r::rs=>partOf (r.val st)::AO st rs
def SE (st:iH):List BL->AV
 |[r]=>r.val st
 |rs=>.xg (AO st rs)
def KH (rs:List BL)(m:Nat)(post:AV->List Box->Prop)(st:iH):Prop:=
 Gy st rs/\∃r bs zs π vs,post r bs/\WkS m st.bx (Ew bs) zs π vs/\Zo zs st.bx π vs (SE st rs) r
def Qu (P:Program)(n:Nat):List ResultVar->List BL->Bool
 |[],[]=>true
 |.tmp t::xs,.tmp s::ys=>t==s&&decide (t<n)&&Qu P n xs ys
 |.cell a t::xs,.cell s agg k::ys=>a==s&&decide (a<n)&&RN P t agg k&&Qu P n xs ys
 |_,_=>false
section
variable {P:Program} {E:Env P} {I:IH} {ρ:Ren} {n:Nat} {st:iH} {a:Act} {w:World}
theorem aaq {agg:Bool}{k:Nat}{p:AV}{pv:Value}{bx:Nat->Box}(hp:GV I ρ pv p)(jX:(Ak agg k p bx).vc):∃q,pv = .pointer (some q):=by
 cases p with
 | one p=>
   cases p with
   |ptr b off=>obtain⟨k,cap,_,rfl⟩:=hp;exact⟨_,rfl⟩
   |Aq b i sz off=>obtain⟨k,cap,_,rfl⟩:=hp;exact⟨_,rfl⟩
   |G9 cs=>obtain⟨q,rfl,_⟩:=hp;exact⟨_,rfl⟩
   |_=>exact jX.elim
 |_=>exact jX.elim
def adb (tmps:Array Value)(x:ResultVar):Sem Value:=match x with
 |ResultVar.tmp t=>pure (tmps.getD t undef)
 |ResultVar.cell b t=>do loadVar t (<- asAddr (tmps.getD b undef))
theorem Yt (fn:Func)(tmps:Array Value):results fn tmps=(do
 let vs <- fn.results.mapM (adb tmps)
 pure (if h:vs.size=1 then vs[0]else .tuple vs)):=by
 unfold results
 congr 1
theorem WR (h:GX E I ρ n st a w):∀{xs:List ResultVar} {rs:List BL},Qu P n xs rs=true->Gy st rs ->
 ∃vs:List Value,(xs.mapM (adb a.tmps)).run P w = .ok vs w/\vs.length=rs.length/\∀(j:Nat) (v:Value) (r:BL),vs[j]? = some v->rs[j]? = some r->GV I ρ v (r.val st)
 |[],[],_,_=>⟨[],by simp,rfl,λj v r hv=>by simp at hv⟩
 | x::xs,r::rs,hc,hok=>by
   obtain⟨h1,h2,h3⟩:=hok;have key:∃v,(adb a.tmps x).run P w = .ok v w/\GV I ρ v (r.val st)/\Qu P n xs rs=true:=by
    cases x with
    | tmp t=>
      cases r with
      | tmp s=>
        simp only[Qu,ai,beq_iff_eq,decide_eq_true_eq]at hc;obtain⟨⟨rfl,hlt⟩,hc⟩:=hc;have ht:=h.tm t hlt;simp only[BL.ok]at h1;refine⟨a.tmps.getD t undef,rfl,?_,hc⟩;simp only[BL.val];cases hs:st.tm t with
        |none=>rw[hs]at h1;cases h1
        |v g x=>rw[hs]at h1 ht;exact ht.1 h1
      |cell s agg k=>simp[Qu]at hc
    | cell b t=>
      cases r with
      |tmp s=>simp[Qu]at hc
      | cell s agg k=>
        simp only[Qu,ai,beq_iff_eq,decide_eq_true_eq]at hc;obtain⟨⟨⟨rfl,hlt⟩,hty⟩,hc⟩:=hc;have ht:=h.tm b hlt;obtain⟨hg,jX⟩:=h1;have hv:GV I ρ (a.tmps.getD b undef) (st.tm b).x:=by
         cases hs:st.tm b with
         |none=>rw[hs]at hg;cases hg
         |v g x=>rw[hs]at hg ht;exact ht.1 hg
        obtain⟨q,hq⟩:=aaq hv jX;obtain⟨v,hrun,hgv⟩:=TA (P:=P) h hty hv jX;refine⟨v,?_,hgv,hc⟩;unfold adb;simp only[hq]at hrun⊢;simpa[Go.Instr.loadAt,Go.Instr.sureAddr,asAddr]using hrun
   obtain⟨v,hv,hg,hc'⟩:=key;obtain⟨vs,hvs,hl,hgs⟩:=WR h hc' h3;refine⟨v::vs,?_,by simp[hl],λj u r' hu hr=>?_⟩
   ·rw[List.mapM_cons];simp[hv,hvs]
   ·cases j with
    |zero=>simp at hu hr;subst hu;subst hr;exact hg
    |succ j=>exact hgs j u r' (by simpa using hu) (by simpa using hr)
 |[],_::_,hc,_=>by simp[Qu]at hc
 |x::_,[],hc,_=>by cases x<;>simp[Qu]at hc
def LK : List AV->Nat->List (Nat×Slot)
 |[],_=>[]
 |x::xs,i=>(i,.v true x)::LK xs (i+1)
def Eu : List Box->Nat->List (Nat×Box)
 |[],_=>[]
 |x::xs,i=>(i,x)::Eu xs (i+1)
theorem O8 : ∀{xs:List AV} {i t:Nat},Cj (LK xs i) t=if i<=t then(match xs[t-i]? with|some x=>.v true x|none=>.none)else .none
 |[],i,t=>by simp[LK,Cj]
 | x::xs,i,t=>by
   simp only[LK,Cj];by_cases h:i=t
   ·subst h;simp
   ·rw[if_neg h,O8 (xs:=xs)];by_cases h':i<=t
    ·have e:t-i=(t-(i+1))+1:=(by omega);rw[if_pos h',if_pos (by omega),e];simp
    ·rw[if_neg h',if_neg (by omega)]
theorem JG : ∀{xs:List Box} {i t:Nat},tV (Eu xs i) t=if i<=t then xs.getD (t-i) .absent else .absent
 |[],i,t=>by simp[Eu,tV]
 | x::xs,i,t=>by
   simp only[Eu,tV];by_cases h:i=t
   ·subst h;simp
   ·rw[if_neg h,JG (xs:=xs)];by_cases h':i<=t
    ·have e:t-i=(t-(i+1))+1:=(by omega);rw[if_pos h',if_pos (by omega),e];simp
    ·rw[if_neg h',if_neg (by omega)]
def st0 (args:List AV)(fp:List Box):iH:=iH.of (LK args 0) (Eu fp 0)
theorem ads (args:List AV)(fp:List Box):(st0 args fp).bx=Ew fp:=by
 funext b
 unfold st0;rw[FX,JG];simp[Ew]
def QF (rs:List BL)(m:Nat)(post:AV->List Box->Prop):AQ
 |.normal,st=>KH rs m post st
 |.ret,st=>KH rs m post st
 |.exit _,_=>False
def iZ (P:Program)(f:FuncId)(k m:Nat)(ac:bZ)(rs:List BL):Bool:=
 match P.funcs[f]? with
 | some fn=>match fn.body with
   |some c=>decide (k<=fn.ntmps)&&decide (m<=10)&&Ec P fn.ntmps m c ac&&Qu P fn.ntmps fn.results.toList rs
   |none=>false
 |none=>false
theorem lg {f:FuncId}{ac:bZ}{rs:List BL}{args:List AV}{fp:List Box}{post:AV->List Box->Prop}(hc:iZ P f args.length fp.length ac rs=true)
 (hwp:wpC P ac (QF rs fp.length post) (st0 args fp)):kV P f args fp post:=by
 unfold iZ at hc;split at hc
 ·rename_i fn hf;split at hc
  ·rename_i c hb;simp only[ai,decide_eq_true_eq]at hc;obtain⟨⟨⟨hk,hm⟩,hcc⟩,hcr⟩:=hc;intro I ρ w vs hT hA hB hV
   let E:Env P:=⟨w,I,λk=>∃b,(Ew fp b).uses (ρ b) k,ρ,fp.length,hT⟩
   refine calls_of_wp hf hb ?_;have hlen:vs.length=args.length:=hV.1;have hG:GX E I ρ fn.ntmps (st0 args fp) { tmps:=vs.toArray++EG (fn.ntmps-vs.toArray.size) undef,defers:=[] } w:=by
    refine{ agree:=hA,bx:=by rw[ads];exact hB,tm:=λt ht=>?_,size:=by simp;omega,defers:=rfl,IC:=LU.refl _ _,own:=λb k hu=>?_,PX:=IH.le_refl _,GI:=λk _ _=>rfl,yM:=λb _=>rfl }
    ·unfold st0;rw[Jb,O8];simp only[aO,if_true,Nat.sub_zero];cases hx:args[t]? with
     |none=>trivial
     | some x=>
       have hlt:=(bD.1 hx).1;have hvt:vs[t]? = some vs[t]:=aF (by omega);refine⟨λ_=>?_,λe=>by cases e⟩;have hg:=hV.2 t _ x hvt hx;have e:((vs.toArray++EG (fn.ntmps-vs.toArray.size) undef).getD t undef)=vs[t]:=by rw[qo,Array.getElem?_append_left (by simp;omega)];simp[hvt]
       rw[e];exact hg
    ·right
     rw[ads]at hu;exact⟨b,hu⟩
   refine wp_mono (Bi (E:=E) hm hcc ⟨I,ρ,_,hwp,hG⟩) λe a w' hq=>?_;have key:AK E fn.ntmps (KH rs fp.length post) a w'->a.defers=[]/\∃v,(results fn a.tmps).run P w' = .ok v w'/\∃(v':Value) (J:IH) (σ:Ren) (r:AV) (bs:List Box),Ending.returned v = .returned v'/\post r bs/\GV J σ v' r/\Agree J w'/\BX J σ w' (Ew bs) /\
    I.le J/\LU w w' (λk=>∃b,(Ew fp b).uses (ρ b) k) /\
    (∀b k,(Ew bs b).uses (σ b) k->w.heap.size<=k\/∃b',(Ew fp b').uses (ρ b') k) /\
    (∀k,k<w.heap.size->(¬ ∃b,(Ew fp b).uses (ρ b) k)->J k=I k) /\
    (∀b,b<fp.length->σ b=ρ b):=by
    rintro⟨I',ρ',st,⟨hok,r,bs,zs,π,us,hp,hws,hwv⟩,hg⟩;obtain⟨ws,hrun,hl,hgs⟩:=WR hg hcr hok;have hv:∃v,(results fn a.tmps).run P w' = .ok v w'/\GV I' ρ' v (SE st rs):=by
     have hrun':(fn.results.mapM (adb a.tmps)).run P w' = .ok ws.toArray w':=by rw[Array.mapM_eq_mapM_toList];simp[hrun]
     rw[Yt];by_cases h1:∃r0,rs=[r0]
     ·obtain⟨r0,rfl⟩:=h1
      match ws,hl,hgs,hrun' with
      |[v0],_,hgs,hrun'=>exact⟨v0,by simp[hrun'],hgs 0 v0 r0 rfl rfl⟩
     ·have hne:ws.length≠1:=by
       intro h;rw[hl]at h
       match rs,h,h1 with
       |[r0],_,h1=>exact h1 ⟨r0,rfl⟩
      have hrv:SE st rs = .xg (AO st rs):=by
       match rs,h1 with
       |[],_=>rfl
       |[r0],h1=>exact absurd ⟨r0,rfl⟩ h1
       |_::_::_,_=>rfl
      refine⟨.tuple ws.toArray,by simp[hrun',hne],?_⟩;rw[hrv];have hparts:∀{rs:List BL},Gy st rs->(AO st rs).length=rs.length/\∀(j:Nat) (p:Bool×List AC),(AO st rs)[j]? = some p->∃r,rs[j]? = some r/\p=partOf (r.val st)/\(r.val st).flat:=by
       intro rs
       induction rs with
       |nil=>intro _;exact⟨rfl,λj p hp=>by simp[AO]at hp⟩
       | cons r0 rs ih=>
         rintro⟨_,h2,h3⟩;obtain⟨j1,j2⟩:=ih h3;refine⟨by simp[AO,j1],λj p hp=>?_⟩;cases j with
         |zero=>simp[AO]at hp;exact⟨r0,rfl,hp.symm,h2⟩
         |succ j=>obtain⟨r',hr',h'⟩:=j2 j p (by simpa[AO]using hp);exact⟨r',by simpa using hr',h'⟩
      obtain⟨p1,p2⟩:=hparts hok;refine⟨ws.toArray,rfl,by simp[hl,p1],λj v p hv hp=>?_⟩;obtain⟨r',hr',rfl,hfl⟩:=p2 j p hp;have hgv:=hgs j v r' (by simpa using hv) hr';unfold GP;cases hval:r'.val st with
      |one x=>rw[hval]at hgv;simp only[partOf];exact⟨x,rfl,hgv⟩
      |agg xs=>rw[hval]at hgv;simp only[partOf,if_true];exact hgv
      |xg q=>rw[hval]at hfl;exact hfl.elim
    obtain⟨v,hrv,hgv⟩:=hv;have hS:=TL hg (ax _) hws;refine⟨hg.defers,v,hrv,v,_,_,r,bs,rfl,hp,afA hg hws.vir hgv hwv,hS.agree,hS.bx,hS.PX,hS.IC,hS.own,hS.GI,hS.yM⟩
   cases e with
   |normal=>exact key hq
   |ret=>exact key hq
   |exit id=>obtain⟨_,_,_,h,_⟩:=hq;exact h.elim
   |goto l=>exact hq.elim
   |panic ch=>exact hq.elim
   |outgrown=>exact hq.elim
  ·cases hc
 ·cases hc
end
end
section
def Sl : List (Nat×Nat)->Nat->Option Nat
 |[],_=>none
 |(b,c)::r,x=>if b=x then some c else Sl r x
def Xf (zs:List Nat)(bx:Nat->Box)(π:Nat->Option Nat)(vs:List Nat)(ts0:List (Nat×Slot)):List (Nat×Slot)->Prop
 |[]=>True
 |(t,s)::r=>SQ zs bx π vs (Cj ts0 t) s/\Xf zs bx π vs ts0 r
def RS (zs:List Nat)(bx:Nat->Box)(π:Nat->Option Nat)(vs:List Nat):List (Nat×Box)->Prop
 |[]=>True
 |(b,x)::r=>Xc zs bx π vs b x/\RS zs bx π vs r
def Box.isAbs : Box->Bool
 |.absent=>true
 |_=>false
def nodupB : List Nat->Bool
 |[]=>true
 |x::r=> !r.contains x&&nodupB r
def fst' {α:Type} : List (Nat×α)->List Nat
 |[]=>[]
 |x::r=>x.1::fst' r
def snd' : List (Nat×Nat)->List Nat
 |[]=>[]
 |x::r=>x.2::snd' r
def OD (m:Nat)(Gl bs:List (Nat×Box))(pi:List (Nat×Nat))(vs:List Nat):Bool:=
 nodupB (snd' (pi.filter λp=> !(tV bs p.1).OB))&&nodupB (fst' pi)&&(fst' pi).all (λb=>(fst' bs).contains b)&&vs.all (λb=>(fst' bs).contains b && !(fst' pi).contains b) &&
  (List.range m).all λb=>Sl pi b==some b||(!(fst' pi).contains b && !vs.contains b&&(tV Gl b).isAbs)
theorem Lt {l:List Nat} : nodupB l=true<->l.Nodup:=by
 induction l with
 |nil=>simp[nodupB]
 |cons x r ih=>simp[nodupB,ih]
theorem ND : ∀{pi:List (Nat×Nat)} {b c:Nat},Sl pi b=some c->(b,c)∈pi
 |[],_,_,h=>by cases h
 | (x,y)::r,b,c,h=>by
   simp only[Sl]at h;split at h
   ·rename_i e;subst e;cases h;exact bC ..
   ·exact dL _ (ND h)
theorem V8 {α:Type} : ∀{l:List (Nat×α)} {b:Nat},b∈fst' l<->∃x,(b,x)∈l
 |[],b=>by simp[fst']
 | (a,y)::r,b=>by
   simp only[fst',cu,V8 (l:=r)];constructor
   ·rintro(h|⟨x,hx⟩)
    ·subst h;exact⟨y,.inl rfl⟩
    ·exact⟨x,.inr hx⟩
   ·rintro⟨x,h|h⟩
    ·cases h;exact .inl rfl
    ·exact .inr ⟨x,h⟩
theorem Zg : ∀{l:List (Nat×Nat)},snd' l=l.map (·.2)
 |[]=>rfl
 |x::r=>by simp[snd',Zg (l:=r)]
theorem Q9 {pi:List (Nat×Nat)}{b:Nat}(h:b ∉ fst' pi):Sl pi b=none:=by
 cases hp:Sl pi b with
 |none=>rfl
 |some c=>exact absurd (V8.2 ⟨c,ND hp⟩) h
theorem Xd {zs vs:List Nat}{bx:Nat->Box}{π:Nat->Option Nat} : ∀{bs:List (Nat×Box)},RS zs bx π vs bs->∀b x,(b,x)∈bs->Xc zs bx π vs b x
 |[],_,_,_,h=>by cases h
 | (c,y)::r,hw,b,x,h=>by
   rcases cu.1 h with h|h
   ·cases h;exact hw.1
   ·exact Xd hw.2 b x h
theorem TJ {zs vs:List Nat}{bx:Nat->Box}{π:Nat->Option Nat}{ts0:List (Nat×Slot)} : ∀{ts:List (Nat×Slot)},Xf zs bx π vs ts0 ts->∀t,SQ zs bx π vs (Cj ts0 t) (Cj ts t)
 |[],_,_=>by simp[Cj,SQ]
 | (c,y)::r,hw,t=>by
   simp only[Cj];split
   ·rename_i e;subst e;exact hw.1
   ·exact TJ hw.2 t
theorem aas {bs:List (Nat×Box)}{b:Nat} : (b,tV bs b)∈bs\/(b ∉ fst' bs/\tV bs b = .absent):=by
 induction bs with
 |nil=>right;simp[fst',tV]
 | cons p r ih=>
   obtain⟨c,y⟩:=p;simp only[tV];by_cases h:c=b
   ·subst h;left;simp
   ·rw[if_neg h];rcases ih with ih|⟨h1,h2⟩
    ·left;exact dL _ ih
    ·right;refine⟨?_,h2⟩;simp only[fst',cu,not_or];exact⟨λe=>h e.symm,h1⟩
theorem adI {m:Nat}{Gl bs:List (Nat×Box)}(zs:List Nat)(pi:List (Nat×Nat))(vs:List Nat)(hk:OD m Gl bs pi vs=true)(hb:RS zs (tV Gl) (Sl pi) vs bs):WkS m (tV Gl) (tV bs) zs (Sl pi) vs:=by
 simp only[OD,ai,aZ,iT,beq_iff_eq,xY,List.mem_range,Lt,vY]at hk;obtain⟨⟨⟨⟨h1,_⟩,h3⟩,h4⟩,h5⟩:=hk;have acm:∀{l:List Nat} {x:Nat},l.contains x=false->x ∉ l:=λh hm=>by rw[vY.2 hm]at h;cases h
 refine⟨λb=>?_,λb b' c hd1 hd2 hb1 hb2=>?_,λb hv=>Q9 (acm (h4 b hv).2),λb hlt=>?_⟩
 ·rcases aas (bs:=bs) (b:=b)with h|⟨h,e⟩
  ·exact Xd hb b _ h
  ·rw[e];exact⟨Q9 λhm=>h (h3 b hm),λhm=>h (h4 b hm).1⟩
 ·have m1:(b,c)∈pi.filter λp=> !(tV bs p.1).OB:=EJ.2 ⟨ND hb1,by simp[hd1]⟩;have m2:(b',c)∈pi.filter λp=> !(tV bs p.1).OB:=EJ.2 ⟨ND hb2,by simp[hd2]⟩;rw[Zg]at h1;obtain⟨i,hi,ei⟩:=yY m1;obtain⟨j,hj,ej⟩:=yY m2;have hpw:=zX.1 h1;rcases Ah i j with h|h|h
  ·have:=hpw i j (by simpa using hi) (by simpa using hj) h;simp[ei,ej]at this
  ·subst h;rw[ei]at ej;cases ej;rfl
  ·have:=hpw j i (by simpa using hj) (by simpa using hi) h;simp[ei,ej]at this
 ·rcases h5 b hlt with h|⟨⟨h,h'⟩,h''⟩
  ·exact .inl h
  ·refine .inr ⟨Q9 (acm h),acm h',?_⟩;cases hx:tV Gl b with
   |absent=>rfl
   |_=>rw[hx]at h'';cases h''
theorem Lu (ts:List (Nat×Slot))(bs:List (Nat×Box)):(iH.of ts bs).bx=tV bs:=funext λb=>FX ts bs b
theorem ae8 {m:Nat}{ts0 ts:List (Nat×Slot)}{Gl bs:List (Nat×Box)}(zs:List Nat)(pi:List (Nat×Nat))(vs:List Nat)(hk:OD m Gl bs pi vs=true)
 (hb:RS zs (tV Gl) (Sl pi) vs bs) (ht:Xf zs (tV Gl) (Sl pi) vs ts0 ts):KA m (iH.of ts0 Gl) (iH.of ts bs):=by
 refine⟨zs,Sl pi,vs,?_,λt=>?_⟩
 ·rw[Lu,Lu];exact adI zs pi vs hk hb
 ·rw[Lu,Jb,Jb];exact TJ ht t
def dC (bx:Nat->Box):AC->AC->Prop
 |.c x,.c y=>x=y
 |.jI sz,.c y=>y = .sl sz []
 | .own b n sz,.c y=>match(bx b).arr with
   |some (sz',es)=>sz'=sz/\n<=es.length/\y = .sl sz (es.take n)
   |none=>False
 |_,_=>False
def dCs (bx:Nat->Box):List AC->List AC->Prop
 |[],[]=>True
 |x::xs,y::ys=>dC bx x y/\dCs bx xs ys
 |_,_=>False
def dPs (bx:Nat->Box):List (Bool×List AC)->List (Bool×List AC)->Prop
 |[],[]=>True
 |(g,x)::xs,(g',y)::ys=>g=g'/\dCs bx x y/\dPs bx xs ys
 |_,_=>False
def dV (bx:Nat->Box):AV->AV->Prop
 |.one x,.one y=>dC bx x y
 |.agg xs,.agg ys=>dCs bx xs ys
 |.xg xs,.xg ys=>dPs bx xs ys
 |_,_=>False
theorem afn {bx:Nat->Box}{zs:List Nat}{x y:AC}(h:dC bx x y)(hz:∀b,b∈pO [x]->b∈zs):Jk zs bx (λ_=>none) [] x y:=by
 cases x<;>cases y<;>simp only[dC]at h<;>try exact h
 exact⟨hz _ (by simp[pO]),h⟩
theorem XX {bx:Nat->Box}{zs:List Nat} : ∀{xs ys:List AC},dCs bx xs ys->(∀b,b∈pO xs->b∈zs)->LM zs bx (λ_=>none) [] xs ys
 |[],[],_,_=>trivial
 |x::xs,y::ys,h,hz=>⟨afn h.1 λb hb=>hz b (Eg.2 (.inl hb)),XX h.2 λb hb=>hz b (Eg.2 (.inr hb))⟩
 |[],_::_,h,_=>h.elim
 |_::_,[],h,_=>h.elim
theorem abP {bx:Nat->Box}{zs:List Nat} : ∀{xs ys:List (Bool×List AC)},dPs bx xs ys->(∀b,b∈(AV.xg xs).owns->b∈zs)->SN zs bx (λ_=>none) [] xs ys
 |[],[],_,_=>trivial
 | (g,x)::xs,(g',y)::ys,h,hz=>⟨h.1,XX h.2.1 λb hb=>hz b (by simp only[AV.owns,bz,aV];exact .inl hb),abP h.2.2 λb hb=>hz b (by simp only[AV.owns,bz,aV]at hb⊢;exact .inr hb)⟩
 |[],_::_,h,_=>h.elim
 |_::_,[],h,_=>h.elim
theorem agJ {bx:Nat->Box}{x y:AV}(h:dV bx x y):Zo x.owns bx (λ_=>none) [] x y:=by
 cases x<;>cases y<;>simp only[dV]at h<;>first|exact h.elim|skip
 ·exact afn h λb hb=>hb
 ·exact XX h λb hb=>hb
 ·exact abP h λb hb=>hb
def Po (rs:List BL)(r:AV)(st:iH):Prop:=Gy st rs/\dV st.bx (SE st rs) r
def QP (rs:List BL)(r:AV):AQ
 |.normal,st=>Po rs r st
 |.ret,st=>Po rs r st
 |.exit _,_=>False
theorem Po.ret {rs:List BL}{r:AV}{st:iH}(h:Po rs r st):KH rs 0 (λr' bs=>r'=r/\bs=[]) st:=
 ⟨h.1,r,[],_,_,[],⟨rfl,rfl⟩,⟨λb=>by rw[Ua];exact⟨rfl,by simp⟩,λb b' c _ _ h=>by simp at h,λb _=>rfl,λb hb=>by omega⟩,agJ h.2⟩
section
variable {P:Program}
theorem RV : ∀{l:List mY} {st:iH} {K K':iH->Prop},(∀st,K st->K' st)->wpOps P l st K->wpOps P l st K'
 |[],st,_,_,hk,h=>hk st h
 |x::r,_,_,_,hk,h=>Ob (λ_ _ _ h=>RV (l:=r) hk h) (show T P x _ (λ_ _ st'=>wpOps P r st' _)from h)
theorem Xg : ∀{l:List (mY×List Nat)} {i:Nat} {log:Log} {st:iH} {K K':iH->Prop},(∀st,K st->K' st)->wpD P l i log st K->wpD P l i log st K'
 |[],_,_,st,_,_,hk,h=>hk st h
 |(o,I9)::r,i,log,_,_,_,hk,h=>Ob (λ_ _ _ h=>⟨h.1,Xg (l:=r) hk h.2⟩) (show T P o _ (λrd wr st'=>Am I9 rd wr log=true/\wpD P r (i+1) ((i,rd,wr)::log) st' _)from h)
theorem wpC_mono : ∀{c:bZ} {Q Q':AQ} {st:iH},(∀e st,Q e st->Q' e st)->wpC P c Q st->wpC P c Q' st
 |.skip,_,_,st,hq,h=>hq .normal st h
 |.reg ops keep,_,_,st,hq,h=>RV (λst h=>hq .normal _ h) h
 |.qW ops keep,_,_,st,hq,h=>Xg (λst h=>hq .normal _ h) h
 |.seq a b,_,_,st,hq,h=>wpC_mono (c:=a) (λe st h=>by
  cases e with
  |normal=>exact wpC_mono (c:=b) hq h
  |exit id=>exact hq _ _ h
  |ret=>exact hq _ _ h) h
 |.cut a b,_,_,st,hq,⟨X,J,S,h1,h2⟩=>⟨X,J,S,wpC_mono (c:=a) (λe st h=>by
  cases e with
  |normal=>exact h
  |exit id=>exact hq _ _ h
  |ret=>exact hq _ _ h) h1,λx hx=>wpC_mono (c:=b) hq (h2 x hx)⟩
 |.cond c a b,_,_,st,hq,⟨h1,h2⟩=>⟨h1,by
  split at h2
  ·exact⟨λe=>wpC_mono (c:=a) hq (h2.1 e),λe=>wpC_mono (c:=b) hq (h2.2 e)⟩
  ·exact h2.elim⟩
 |.block id a,_,_,st,hq,h=>wpC_mono (c:=a) (λe st h=>by
  cases e with
  |normal=>exact hq _ _ h
  | exit id'=>
    simp only[x8.inBlock]at h⊢;split
    ·rename_i e;rw[if_pos e]at h;exact hq _ _ h
    ·rename_i e;rw[if_neg e]at h;exact hq _ _ h
  |ret=>exact hq _ _ h) h
 |.loop a,_,_,st,hq,⟨X,J,S,μ,h0,h1⟩=>⟨X,J,S,μ,h0,λx hx=>wpC_mono (c:=a) (λe st h=>by
  cases e with
  |normal=>exact h
  |exit id=>exact hq _ _ h
  |ret=>exact hq _ _ h) (h1 x hx)⟩
 |.exit id,_,_,st,hq,h=>hq _ _ h
 |.ret,_,_,st,hq,h=>hq _ _ h
theorem bg {f:FuncId}{ac:bZ}{rs:List BL}{args:List AV}{r:AV}(hc:iZ P f args.length 0 ac rs=true)(hwp:wpC P ac (QP rs r) (st0 args [])):dY P f args r:=by
 refine lg (fp:=[]) hc (wpC_mono (λe st h=>?_) hwp);cases e with
 |normal=>exact Po.ret h
 |ret=>exact Po.ret h
 |exit id=>exact h.elim
theorem Iz.intro {body:AQ->iH->Prop}{Q:AQ}{st:iH}{d1:DU body}{d2:DU Q}{X:Type}(J:X->Prop)(S:X->iH)(μ:X->Nat)(x0:X)(h0:J x0)(hw:KA 10 st (S x0))
 (h:∀x,J x->body (x8.then (λst'=>∃x',(J x'/\μ x'<μ x)/\KA 10 st' (S x')) Q) (S x)):Iz body Q st d1 d2:=
 ⟨X,J,S,μ,⟨x0,h0,hw⟩,h⟩
theorem L9.intro {wa wb:AQ->iH->Prop}{Q:AQ}{st:iH}{d1:DU wa}{d2:DU wb}{d3:DU Q}{X:Type}(J:X->Prop)(S:X->iH)
 (h1:wa (x8.then (λst'=>∃x,J x/\KA 10 st' (S x)) Q) st) (h2:∀x,J x->wb Q (S x)):L9 wa wb Q st d1 d2 d3:=
 ⟨X,J,S,h1,h2⟩
def FW (bx:Nat->Box):AC->AC
 |.jI sz=>.c (.sl sz [])
 | .own b n sz=>match(bx b).arr with
   |some (_,es)=>.c (.sl sz (es.take n))
   |none=>.JC
 |x=>x
def Dw (bx:Nat->Box):AV->AV
 |.one x=>.one (FW bx x)
 |.agg xs=>.agg (xs.map (FW bx))
 |.xg xs=>.xg xs
def zi (bx:Nat->Box):List AV->Prop
 |[]=>True
 |.xg _::_=>False
 |x::r=>Ac bx x.cells/\zi bx r
theorem JE {bx:Nat->Box} : ∀{xs:List AC},Ac bx xs->CvL bx xs (xs.map (FW bx))
 |[],_=>.nil
 | x::r,h=>by
   cases x with
   | own b n sz=>
     obtain⟨h1,h2⟩:=h;refine .cons ?_ (JE h2);simp only[FW];cases hb:(bx b).arr with
     |none=>rw[hb]at h1;exact h1.elim
     |some p=>obtain⟨sz',es⟩:=p;rw[hb]at h1;obtain⟨rfl,h1⟩:=h1;exact .own b n sz' es hb h1
   |jI sz=>exact .cons (.jI sz) (JE (xs:=r) h)
   |_=>exact .cons (.refl _) (JE (xs:=r) h)
theorem JF {bx:Nat->Box} : ∀{xs:List AV},zi bx xs->KP bx xs (xs.map (Dw bx))
 |[],_=>.nil
 | x::r,h=>by
   cases x with
   | one x=>
     refine .cons ?_ (JF h.2);have:=JE (xs:=[x]) h.1;cases this with
     |cons h t=>exact .one h
   |agg xs=>exact .cons (.agg (JE h.1)) (JF h.2)
   |xg xs=>exact h.elim
variable {f:FuncId} {wo:List AV} {p:Bool} {d:Option Nat} {st:iH} {K:List Nat->List Nat->iH->Prop} {du:DU K}
theorem wF.lit (r:AV)(h:p=true->dY P f (wo.map (Dw st.bx)) r)(hl:p=true->zi st.bx wo)(hd:(wo.map (Dw st.bx)).all (·.all AC.yf)=true)(hr:r.all AC.isLit=true)
 (k:K (wo.flatMap AV.owns) [] (st.AL d (.v p r))):wF P f wo p d st K du:=
 L8.lit _ r (λe=>JF (hl e)) hd h hr k
theorem wF.pure (r:AV)(hp:p=true)(h:dY P f (wo.map (Dw st.bx)) r)(hl:zi st.bx wo)(hd:(wo.map (Dw st.bx)).all (·.all AC.yf)=true)(hr:r.all AC.yf=true)
 (k:K (wo.flatMap AV.owns) (wo.flatMap AV.owns) ((st.FV (wo.flatMap AV.owns)).AL d (.v true r))):wF P f wo p d st K du:=
 L8.pure _ r hp (JF hl) hd h hr k
end
end
section
def TK (P:Program)(o:mY)(st:iH)(K:List Nat->List Nat->iH->Prop)(_:DU o)(_:DU K):Prop:=T P o st K
def OY (P:Program)(ops:List mY)(st:iH)(K:iH->Prop)(_:DU ops)(_:DU K):Prop:=wpOps P ops st K
def abe (P:Program)(ops:List (mY×List Nat))(i:Nat)(log:List (Nat×List Nat×List Nat))(st:iH)(K:iH->Prop)(_:DU ops)(_:DU K):Prop:=wpD P ops i log st K
def CE (P:Program)(c:bZ)(Q:AQ)(st:iH)(_:DU c)(_:DU Q):Prop:=wpC P c Q st
def QK (Q:AQ)(e:x8)(st:iH)(_:DU Q):Prop:=Q e st
def KN (c:bZ)(P:Program)(Q:AQ):AQ:=x8.then (wpC P c Q) Q
section
variable {P:Program} {st:iH} {K:List Nat->List Nat->iH->Prop} {k:iH->Prop} {Q:AQ}
theorem aeh {g:Option (Nat×Bool)}{d:Option Nat}{f:FuncId}{args:List pF}{d1:DU (mY.mk g d (.call f args))}{d2:DU K} :
 TK P ⟨g,d,.call f args⟩ st K d1 d2=(DR st.tm g/\(vI st.tm g=true->∀x,x∈args->(x.ev st.tm).g=true)/\wF P f (args.map (fA st.tm)) (vI st.tm g) d st K .mk):=by
 unfold TK T;rfl
def Oa (P:Program)(x:AV)(args:List AV)(p:Bool)(d:Option Nat)(st:iH)(K:List Nat->List Nat->iH->Prop)(_:DU K):Prop:=
 match p,x with
 |false,_=>wF P 0 [] false d st K .mk
 |true,.one (.fn f caps)=>AA P f=true/\wF P f (args++caps.map λb=>.one (.ptr b 0)) true d st K .mk
 |true,_=>False
theorem ZE {f:FuncId}{caps:List Nat}{args:List AV}{d:Option Nat}{du:DU K} : Oa P (.one (.fn f caps)) args true d st K du=(AA P f=true/\wF P f (args++caps.map λb=>.one (.ptr b 0)) true d st K .mk):=by unfold Oa;rfl
theorem abB {x:AV}{args:List AV}{d:Option Nat}{du:DU K} : Oa P x args false d st K du=wF P 0 [] false d st K .mk:=by unfold Oa;rfl
theorem abC {g:Option (Nat×Bool)}{d:Option Nat}{x:pF}{args:List pF}{d1:DU (mY.mk g d (.GN x args))}{d2:DU K} :
 TK P ⟨g,d,.GN x args⟩ st K d1 d2=(DR st.tm g/\(vI st.tm g=true->(x.ev st.tm).g=true/\∀x,x∈args->(x.ev st.tm).g=true)/\Oa P (fA st.tm x) (args.map (fA st.tm)) (vI st.tm g) d st K .mk):=by
 unfold TK T Oa;rfl
theorem YH {d1:DU ([]:List mY)}{d2:DU k} : OY P [] st k d1 d2=k st:=by unfold OY wpOps;rfl
theorem Xh {o:mY}{r:List mY}{d1:DU (o::r)}{d2:DU k} : OY P (o::r) st k d1 d2=TK P o st (λ_ _ st'=>OY P r st' k .mk .mk) .mk .mk:=by unfold OY TK;rfl
theorem adO {i:Nat}{log:List (Nat×List Nat×List Nat)}{d1:DU ([]:List (mY×List Nat))}{d2:DU k} : abe P [] i log st k d1 d2=k st:=by unfold abe wpD;rfl
theorem abf {i:Nat}{log:List (Nat×List Nat×List Nat)}{o:mY}{I9:List Nat}{r:List (mY×List Nat)}{d1:DU ((o,I9)::r)}{d2:DU k} :
 abe P ((o,I9)::r) i log st k d1 d2=TK P o st (λrd wr st'=>Am I9 rd wr log=true/\abe P r (i+1) ((i,rd,wr)::log) st' k .mk .mk) .mk .mk:=by
 unfold abe TK;rfl
theorem abd {d1:DU bZ.skip}{d2:DU Q} : CE P .skip Q st d1 d2=QK Q .normal st .mk:=by unfold CE wpC;rfl
theorem adL {ops:List mY}{keep:List Nat}{d1:DU (bZ.reg ops keep)}{d2:DU Q} : CE P (.reg ops keep) Q st d1 d2=OY P ops st (λst=>QK Q .normal (st.keep keep) .mk) .mk .mk:=by unfold CE wpC;rfl
theorem abb {ops:List (mY×List Nat)}{keep:List Nat}{d1:DU (bZ.qW ops keep)}{d2:DU Q} : CE P (.qW ops keep) Q st d1 d2=abe P ops 0 [] st (λst=>QK Q .normal (st.keep keep) .mk) .mk .mk:=by unfold CE wpC;rfl
theorem adN {a b:bZ}{d1:DU (bZ.seq a b)}{d2:DU Q} : CE P (.seq a b) Q st d1 d2=CE P a (KN b P Q) st .mk .mk:=by unfold CE;rw[wpC];rfl
theorem adK {a b:bZ}{d1:DU (bZ.cut a b)}{d2:DU Q} : CE P (.cut a b) Q st d1 d2=L9 (wpC P a) (wpC P b) Q st .mk .mk .mk:=by unfold CE;rw[wpC]
theorem aba {a:bZ}{d1:DU (bZ.loop a)}{d2:DU Q} : CE P (.loop a) Q st d1 d2=Iz (wpC P a) Q st .mk .mk:=by unfold CE;rw[wpC]
theorem YG {id:Nat}{a:bZ}{d1:DU (bZ.block id a)}{d2:DU Q} : CE P (.block id a) Q st d1 d2=CE P a (x8.inBlock id Q) st .mk .mk:=by unfold CE;rw[wpC]
theorem aa9 {id:Nat}{d1:DU (bZ.exit id)}{d2:DU Q} : CE P (.exit id) Q st d1 d2=QK Q (.exit id) st .mk:=by unfold CE wpC;rfl
theorem adM {d1:DU bZ.ret}{d2:DU Q} : CE P .ret Q st d1 d2=QK Q .ret st .mk:=by unfold CE wpC;rfl
def Tm (P:Program)(c:AV)(a b:bZ)(Q:AQ)(st:iH)(_:DU a)(_:DU b)(_:DU Q):Prop:=
 match c with
 |.one (.c (.lit (.bool t)))=>(t=true->wpC P a Q st)/\(t=false->wpC P b Q st)
 |_=>False
theorem aa8 {c:pF}{a b:bZ}{d1:DU (bZ.cond c a b)}{d2:DU Q} : CE P (.cond c a b) Q st d1 d2=((c.ev st.tm).g=true/\Tm P (c.ev st.tm).x a b Q st .mk .mk .mk):=by unfold CE Tm;rw[wpC]<;>rfl
theorem aev {a b:bZ}{d1:DU a}{d2:DU b}{d3:DU Q} : Tm P (.one (.c (.lit (.bool true)))) a b Q st d1 d2 d3=CE P a Q st .mk .mk:=by unfold Tm CE;simp
theorem aeu {a b:bZ}{d1:DU a}{d2:DU b}{d3:DU Q} : Tm P (.one (.c (.lit (.bool false)))) a b Q st d1 d2 d3=CE P b Q st .mk .mk:=by unfold Tm CE;simp
theorem ZB {b:bZ}{du:DU (KN b P Q)} : QK (KN b P Q) .normal st du=CE P b Q st .mk .mk:=by unfold QK KN CE;rfl
theorem ZA {b:bZ}{id:Nat}{du:DU (KN b P Q)} : QK (KN b P Q) (.exit id) st du=QK Q (.exit id) st .mk:=by unfold QK KN;rfl
theorem ZC {b:bZ}{du:DU (KN b P Q)} : QK (KN b P Q) .ret st du=QK Q .ret st .mk:=by unfold QK KN;rfl
theorem Zy {k:iH->Prop}{du:DU (x8.then k Q)} : QK (x8.then k Q) .normal st du=k st:=by unfold QK;rfl
theorem Zx {k:iH->Prop}{id:Nat}{du:DU (x8.then k Q)} : QK (x8.then k Q) (.exit id) st du=QK Q (.exit id) st .mk:=by unfold QK;rfl
theorem Zz {k:iH->Prop}{du:DU (x8.then k Q)} : QK (x8.then k Q) .ret st du=QK Q .ret st .mk:=by unfold QK;rfl
theorem Xt {id:Nat}{du:DU (x8.inBlock id Q)} : QK (x8.inBlock id Q) .normal st du=QK Q .normal st .mk:=by unfold QK;rfl
theorem Xr {id id':Nat}{du:DU (x8.inBlock id Q)} : QK (x8.inBlock id Q) (.exit id') st du=if id'=id then QK Q .normal st .mk else QK Q (.exit id') st .mk:=by unfold QK;rfl
theorem Xu {id:Nat}{du:DU (x8.inBlock id Q)} : QK (x8.inBlock id Q) .ret st du=QK Q .ret st .mk:=by unfold QK;rfl
theorem aee {rs:List BL}{r:AV}{du:DU (QP rs r)} : QK (QP rs r) .normal st du=Po rs r st:=by unfold QK;rfl
theorem aef {rs:List BL}{r:AV}{du:DU (QP rs r)} : QK (QP rs r) .ret st du=Po rs r st:=by unfold QK;rfl
theorem aec {rs:List BL}{m:Nat}{post:AV->List Box->Prop}{du:DU (QF rs m post)} : QK (QF rs m post) .normal st du=KH rs m post st:=by unfold QK;rfl
theorem aed {rs:List BL}{m:Nat}{post:AV->List Box->Prop}{du:DU (QF rs m post)} : QK (QF rs m post) .ret st du=KH rs m post st:=by unfold QK;rfl
theorem qx {c:bZ}(h:CE P c Q st .mk .mk):wpC P c Q st:=h
theorem ag5 {a:bZ}{d1:DU (wpC P a)}{d2:DU Q}{X:Type}(J:X->Prop)(S:X->iH)(μ:X->Nat)(x0:X)(h0:J x0)(hw:KA 10 st (S x0))
 (h:∀x,J x->CE P a (x8.then (λst'=>∃x',(J x'/\μ x'<μ x)/\KA 10 st' (S x')) Q) (S x) .mk .mk):Iz (wpC P a) Q st d1 d2:=
 Iz.intro J S μ x0 h0 hw h
theorem ahv {a b:bZ}{d1:DU (wpC P a)}{d2:DU (wpC P b)}{d3:DU Q}{X:Type}(J:X->Prop)(S:X->iH)
 (h1:CE P a (x8.then (λst'=>∃x,J x/\KA 10 st' (S x)) Q) st .mk .mk) (h2:∀x,J x->CE P b Q (S x) .mk .mk):L9 (wpC P a) (wpC P b) Q st d1 d2 d3:=
 L9.intro J S h1 h2
end
end
section
inductive Nd where
 |mk (k w:Int) (s:List UInt8) (ws:List (List UInt8)) (ks:List Nd)
abbrev aK :=List UInt8
def ahT (ws:List aK):List (List Cell):=ws.map λw=>[.str w]
mutual
def Nd.cells : Nd->List Cell
 |.mk k w s ws ks=>[.lit (.int .i64 k),.lit (.int .i64 w),.str s,.sl 1 (ahT ws),.sl 5 (Nd.IA ks)]
def Nd.IA : List Nd->List (List Cell)
 |[]=>[]
 |x::r=>x.cells::Nd.IA r
end
theorem Nd.Td (ks:List Nd):Nd.IA ks=ks.map Nd.cells:=by
 induction ks with
 |nil=>rfl
 |cons x r ih=>simp[Nd.IA,ih]
def Vd : List AC->Bool
 |[]=>true
 |.c _::r=>Vd r
 |_=>false
def Ku : List AV->Bool
 |[]=>true
 |.one (.c _)::r=>Ku r
 |.agg xs::r=>Vd xs&&Ku r
 |_=>false
theorem NP {bx:Nat->Box} : ∀{xs:List AC},Vd xs=true->xs.map (FW bx)=xs/\Ac bx xs/\xs.all AC.yf=true/\pO xs=[]
 |[],_=>⟨rfl,trivial,rfl,rfl⟩
 | x::r,h=>by
   cases x with
   | c x=>obtain⟨h1,h2,h3,h4⟩:=NP (bx:=bx) (xs:=r) h;exact⟨by simp[FW,h1],h2,by simp[AC.yf,h3],by simp[pO,h4]⟩
   |_=>cases h
theorem Gi {bx:Nat->Box} : ∀{xs:List AV},Ku xs=true->xs.map (Dw bx)=xs/\zi bx xs/\xs.all (·.all AC.yf)=true/\xs.flatMap AV.owns=[]
 |[],_=>⟨rfl,trivial,rfl,rfl⟩
 | x::r,h=>by
   cases x with
   | one x=>
     cases x with
     | c x=>obtain⟨h1,h2,h3,h4⟩:=Gi (bx:=bx) (xs:=r) h;exact⟨by simp[Dw,FW,h1],⟨trivial,h2⟩,by rw[dI,h3];rfl,by simp[AV.owns,pO,h4]⟩
     |_=>cases h
   | agg xs=>simp only[Ku,ai]at h;obtain⟨h1,h2,h3,h4⟩:=Gi (bx:=bx) (xs:=r) h.2;obtain⟨j1,j2,j3,j4⟩:=NP (bx:=bx) h.1;refine⟨by simp only[bf,Dw,j1,h1],⟨j2,h2⟩,?_,by simp only[bz,AV.owns,j4,h4,bM]⟩;rw[dI,h3,Bool.and_true];exact j3
   |xg xs=>cases h
section
variable {P:Program} {f:FuncId} {wo:List AV} {p:Bool} {d:Option Nat} {st:iH} {K:List Nat->List Nat->iH->Prop} {du:DU K}
theorem aeA (st:iH):st.FV []=st:=by
 apply iH.ext'
 ·rfl
 ·funext b;simp[iH.FV]
theorem afk {r:AV}(h:dY P f wo r)(hs:Ku wo=true)(hr:r.all AC.yf=true)(k:K [] [] (st.AL d (.v true r))):wF P f wo true d st K du:=by obtain⟨h1,h2,h3,h4⟩:=Gi (bx:=st.bx) hs;refine wF.pure r rfl (by rw[h1];exact h) h2 (by rw[h1];exact h3) hr ?_;rw[h4,aeA];exact k
theorem afi {r:AV}(h:p=true->dY P f wo r)(hs:Ku wo=true)(hr:r.all AC.isLit=true)(k:K [] [] (st.AL d (.v p r))):wF P f wo p d st K du:=by obtain⟨h1,h2,h3,h4⟩:=Gi (bx:=st.bx) hs;refine wF.lit r (λe=>by rw[h1];exact h e) (λ_=>h2) (by rw[h1];exact h3) hr ?_;rw[h4];exact k
end
theorem aht (b:Bool):(b==true)=b:=by cases b<;>rfl
theorem ahs (b:Bool):(b==false) = !b:=by cases b<;>rfl
end
section
def cI (x:Int):List Cell:=[.lit (.int .i64 x)]
def cU (x:Int):List Cell:=[.lit (.int .u8 x)]
def cK (k:IntKind)(x:Int):List Cell:=[.lit (.int k x)]
def cB (x:Bool):List Cell:=[.lit (.bool x)]
def cS (x:aK):List Cell:=[.str x]
def cL {α:Type}(sz:Nat)(f:α->List Cell)(xs:List α):List Cell:=[.sl sz (ag f xs)]
def chk (c:Prop)[Decidable c]{α:Type}(k:Option α):Option α:=if c then k else none
theorem zK {c:Prop}[Decidable c]{α:Type}{k:Option α}{r:α} : chk c k=some r<->c/\k=some r:=by unfold chk;split<;>simp[*]
theorem ZW {b:Bool}{α:Type}{x y:Option α}{r:α} : cond b x y=some r<->(b=true/\x=some r)\/(b=false/\y=some r):=by cases b<;>simp
def zJ (xs:List Int):aK:=xs.map λx=>eU x.toNat
theorem XF (xs:List Int):bytesOf (ag cU xs)=some (zJ xs):=by
 induction xs with
 |nil=>rfl
 |cons x r ih=>simp[cU,bytesOf,ih,zJ]
theorem VL : bytesOf []=some []:=rfl
theorem VM (n:Int)(r:List (List Cell)):bytesOf ([.lit (.int .u8 n)]::r)=Option.map (λl=>eU n.toNat::l) (bytesOf r):=by simp only[bytesOf];cases bytesOf r<;>rfl
theorem Bz (xs:List Int):(zJ xs).length=xs.length:=by simp[zJ]
theorem aad {α:Type}[Inhabited α]{f:α->List Cell}{xs:List α}{i:Nat}(h:i<xs.length):(ag f xs).getD i []=f (xs.getD i default):=by simp[h]
theorem take_len {α:Type}{l:List α}{n:Nat}(h:l.length=n):l.take n=l:=by subst h;simp
theorem Kw {α:Type}{x:α}{l:List α}{n:Nat}(h:l.length=n):(x::l).take (1+n)=x::l:=by subst h;rw[Au];simp
theorem Ky {α:Type}{x y:α}{l:List α}{n:Nat}(h:l.length=n):(x::y::l).take (2+n)=x::y::l:=by subst h;rw[Au];simp
def QO (l:List Nat):List (Nat×Box)->List (Nat×Box)
 |[]=>[]
 |(b,x)::r=>(b,if l.contains b then He x else x)::QO l r
theorem aac (l:List Nat)(bs:List (Nat×Box))(b:Nat):tV (QO l bs) b=if b∈l then He (tV bs b)else tV bs b:=by
 induction bs with
 |nil=>simp[QO,tV,He]
 | cons p r ih=>
   obtain⟨c,x⟩:=p;simp only[QO,tV,ih];by_cases h:c=b
   ·subst h;simp
   ·simp[h]
theorem Y8 (ts:List (Nat×Slot))(bs:List (Nat×Box))(l:List Nat):(iH.of ts bs).FV l=iH.of ts (QO l bs):=by
 apply iH.ext'
 ·rfl
 ·funext b
  simp only[iH.FV];rw[FX,FX,aac]
theorem ab4 (bs:List (Nat×Box)):QO [] bs=bs:=by
 induction bs with
 |nil=>rfl
 |cons p r ih=>obtain⟨c,x⟩:=p;simp[QO,ih]
def TGK (g:Bool)(o:nM)(d:Option Nat)(st:iH)(K:List Nat->List Nat->iH->Prop)(_:DU o)(_:DU K):Prop:=TOp o g d st K
def afH (valid:Prop)(rd:List Nat)(r:FR)(d:Option Nat)(st:iH)(K:List Nat->List Nat->iH->Prop)(_:DU K):Prop:=
 valid/\r.vc/\K rd (r.sets.map (·.1)) ((st.um r.sets).AL d (.v true r.v))
section
variable {P:Program} {st:iH} {K:List Nat->List Nat->iH->Prop}
theorem afG {g:Option (Nat×Bool)}{d:Option Nat}{op:nM}{d1:DU (mY.mk g d (.op op))}{d2:DU K} :
 TK P ⟨g,d,.op op⟩ st K d1 d2=(DR st.tm g/\TGK (vI st.tm g) op d st K .mk .mk):=by
 unfold TK T TGK;rfl
theorem agE {op:nM}{d:Option Nat}{d1:DU op}{d2:DU K} : TGK true op d st K d1 d2=afH (op.valid (pF.ev st.tm)) (op.rd (fA st.tm)) (op.f (fA st.tm) st.bx) d st K .mk:=by unfold TGK TOp afH;simp
theorem agD {op:nM}{d:Option Nat}{d1:DU op}{d2:DU K} : TGK false op d st K d1 d2=K [] [] (st.AL d (.v false (.one .JC))):=by unfold TGK TOp;simp
theorem afI {valid:Prop}{rd:List Nat}{vc:Prop}{v:AV}{sets:List (Nat×Box)}{d:Option Nat}{du:DU K} :
 afH valid rd ⟨vc,v,sets⟩ d st K du=(valid/\vc/\K rd (sets.map (·.1)) ((st.um sets).AL d (.v true v))):=rfl
end
section
variable {P:Program} {f:FuncId} {wo:List AV} {d:Option Nat} {st:iH} {K:List Nat->List Nat->iH->Prop} {du:DU K}
theorem afg {Xy:List AV}{r:AV}(h:dY P f Xy r)(he:wo.map (Dw st.bx)=Xy)(hl:zi st.bx wo)(hd:Xy.all (·.all AC.yf)=true)(hr:r.all AC.yf=true)
 (k:K (wo.flatMap AV.owns) (wo.flatMap AV.owns) ((st.FV (wo.flatMap AV.owns)).AL d (.v true r))):wF P f wo true d st K du:=by
 subst he;exact wF.pure r rfl h hl hd hr k
theorem afh {Xy:List AV}{r:AV}(h:dY P f Xy r)(he:wo.map (Dw st.bx)=Xy)(hl:zi st.bx wo)(hd:Xy.all (·.all AC.yf)=true)(hr:r.all AC.isLit=true)
 (k:K (wo.flatMap AV.owns) [] (st.AL d (.v true r))):wF P f wo true d st K du:=by
 subst he;exact wF.lit r (λ_=>h) (λ_=>hl) hd hr k
theorem afj (k:K (wo.flatMap AV.owns) [] (st.AL d (.v false (.one (.c (.lit (.bool true))))))):wF P f wo false d st K du:=
 L8.lit [] (.one (.c (.lit (.bool true)))) (λe=>by cases e) rfl (λe=>by cases e) rfl k
def SI (st:iH)(sg:List Nat):List Box->Nat->Prop
 |[],_=>True
 |x::r,i=>st.bx (sg.getD i 0)=D6 (λb=>sg.getD b 0) x/\SI st sg r (i+1)
theorem Va {st:iH}{sg:List Nat} : ∀{fp:List Box} {i0 i:Nat},SI st sg fp i0->i<fp.length->st.bx (sg.getD (i0+i) 0)=D6 (λb=>sg.getD b 0) (fp.getD i .absent)
 |[],_,_,_,h=>by simp at h
 |x::r,i0,0,h,_=>by simpa using h.1
 | x::r,i0,i+1,h,hi=>by have:=Va (i:=i) h.2 (by simpa using hi);simpa[Nat.add_assoc,Au 1 i]using this
def SB (st:iH):List Nat->Prop
 |[]=>True
 |b::r=>st.bx b = .absent/\10<=b/\SB st r
theorem UR {st:iH} : ∀{nu:List Nat},SB st nu->∀b,b∈nu->st.bx b = .absent/\10<=b
 |[],_,_,h=>by cases h
 | c::r,h,b,hb=>by
   rcases cu.1 hb with e|e
   ·subst e;exact⟨h.1,h.2.1⟩
   ·exact UR h.2.2 b e
theorem agH {ds:List AV}{fp Gl:List Box}{r0:AV}(sg nu:List Nat)(h:kV P f ds fp (λr bs=>r=r0/\bs=Gl))(hl:sg.length=fp.length)(hn:nodupB (sg++nu)=true)(hf:SI st (sg++nu) fp 0)(hv:SB st nu)
 (hra:(ds.all λx=>x.all (AC.wH fp.length))=true) (hrf:fp.all (Box.wH fp.length)=true) (ha:wo=ds.map (Es λb=>(sg++nu).getD b 0)) (hb:Gl.length=(sg++nu).length)
 (k:K (sg++nu) (sg++nu) ((st.um ((sg++nu).zip (Gl.map (D6 λb=>(sg++nu).getD b 0)))).AL d (.v true (Es (λb=>(sg++nu).getD b 0) r0)))):wF P f wo true d st K du:=by
 refine L8.gen rfl ds fp sg nu _ hl (Lt.1 hn) (λi hi=>?_) ⟨r0,Gl,rfl,rfl⟩ (UR hv) hra hrf ha h (λr bs hp=>?_)
 ·have:=Va (i:=i) hf hi;rw[iI]at this;exact this
 ·obtain⟨rfl,rfl⟩:=hp;exact⟨hb,k⟩
end
section
variable {P:Program} {f:FuncId} {wo:List AV} {d:Option Nat} {st:iH} {K:List Nat->List Nat->iH->Prop} {du:DU K}
theorem agI {ds:List AV}{fp Gl:List Box}{r0:AV}(sg nu:List Nat)(h:kV P f ds fp (λr bs=>r=r0/\bs=Gl))(he:wo.map (Dw st.bx)=ds.map (Es λb=>(sg++nu).getD b 0))(hlo:zi st.bx wo)
 (hl:sg.length=fp.length) (hn:nodupB (sg++nu)=true) (hf:SI (st.FV (wo.flatMap AV.owns)) (sg++nu) fp 0) (hv:SB st nu)
 (hra:(ds.all λx=>x.all (AC.wH fp.length))=true) (hrf:fp.all (Box.wH fp.length)=true) (hb:Gl.length=(sg++nu).length)
 (k:K (wo.flatMap AV.owns++(sg++nu)) (wo.flatMap AV.owns++(sg++nu)) (((st.FV (wo.flatMap AV.owns)).um ((sg++nu).zip (Gl.map (D6 λb=>(sg++nu).getD b 0)))).AL d (.v true (Es (λb=>(sg++nu).getD b 0) r0)))):wF P f wo true d st K du:=by
 refine L8.Pz rfl _ (JF hlo) ds fp sg nu _ hl (Lt.1 hn) (λi hi=>?_) ⟨r0,Gl,rfl,rfl⟩ (UR hv) hra hrf he h (λr bs hp=>?_)
 ·have:=Va (i:=i) hf hi;rw[iI]at this;exact this
 ·obtain⟨rfl,rfl⟩:=hp;exact⟨hb,k⟩
end
theorem acI (I9:List Nat)(log:List (Nat×List Nat×List Nat)):Am I9 [] [] log=true:=by
 induction log with
 |nil=>rfl
 |cons e r ih=>obtain⟨j,a,b⟩:=e;simp[Am,Lc,ih]
theorem acH (I9 rd wr:List Nat):Am I9 rd wr []=true:=rfl
theorem afL (bs:List Box):Ew bs=tV (Eu bs 0):=by
 funext b
 rw[JG];simp[Ew]
theorem OQ {rs:List BL}{ts:List (Nat×Slot)}{Gl:List (Nat×Box)}{m:Nat}{r:AV}{bs:List Box}(zs:List Nat)(pi:List (Nat×Nat))(vs:List Nat)(hk:OD m Gl (Eu bs 0) pi vs=true)
 (hok:Gy (iH.of ts Gl) rs) (hb:RS zs (tV Gl) (Sl pi) vs (Eu bs 0)) (hv:Zo zs (tV Gl) (Sl pi) vs (SE (iH.of ts Gl) rs) r) :
 KH rs m (λr1 b1=>r1=r/\b1=bs) (iH.of ts Gl):=by
 refine⟨hok,r,bs,zs,Sl pi,vs,⟨rfl,rfl⟩,?_,?_⟩
 ·rw[Lu,afL];exact adI zs pi vs hk hb
 ·rw[Lu];exact hv
end
section
section
variable {P:Program} {f:FuncId}
theorem YO {n sz:Nat}{az:List AV}{fp:List Box}{post:AV->List Box->Prop}(h:∀c,n<=c->kV P f (.one (.sub 0 0 n (some c) sz)::az) fp post) :
 kV P f (.one (.own 0 n sz)::az) fp post:=by
 intro I ρ w vs ht ha hb hv;obtain⟨hl,hg⟩:=hv;cases vs with
 |nil=>simp at hl
 | cons v vs=>
   obtain⟨k,cap,a,c,h1,h2,h3,h4,h5⟩:=hg 0 v _ rfl rfl;refine h c h3 I ρ w (v::vs) ht ha hb ⟨by simpa using hl,λj u x hj hx=>?_⟩;cases j with
   | zero=>simp at hj hx;subst hj hx;refine⟨k,cap,a,c,h1,h2,h3,by omega,(λc0 e=>by cases e;rfl),λe=>?_⟩;rw[Dt];exact h5 (by rcases e with e|e<;>omega)
   |succ j=>exact hg (j+1) u x hj (by simpa using hx)
end
theorem Fg {x:Int}(h0:0<=x)(h1:x<9223372036854775808):af .i64 x=x:=by simp only[af,Go.IntKind.bits,Go.IntKind.signed];simp;omega
theorem ahO {α:Type}(es:List α)(v:α)(i:Nat)(h:i<es.length) :
 splice (splice es (i+1) (((es.drop i).take (min (es.length+1-i) (es.length+1-(i+1)))).take (es.length+1-(i+1)))) i ([v].take (es.length+1-i))=es.take i++v::es.drop i:=by
 have e1:[v].take (es.length+1-i)=[v]:=aC (by simp;omega);have e2:((es.drop i).take (min (es.length+1-i) (es.length+1-(i+1)))).take (es.length+1-(i+1))=es.drop i:=by rw[aC (by simp;omega),aC (by simp;omega)]
 rw[e1,e2];simp only[splice];have e3:es.drop (i+1+(es.drop i).length)=[]:=Bg (by simp;omega);rw[e3,bM];have e4:(es.take (i+1)).length=i+1:=by simp;omega
 rw[pJ (by omega),List.take_take,Nat.min_eq_left (by omega),List.length_singleton,List.drop_append_of_le_length (by omega),ak (by omega)];simp
theorem ahP {α:Type}(es:List α)(v z:α)(i k:Nat)(h:i<es.length)(hk:k=i+(es.length+1-i)) :
 splice (splice (es.take i++dh (es.length+1-i) z) i ([v].take (k-i))) (i+1) (((es.drop i).take (min (es.length-i) (k-(i+1)))).take (k-(i+1)))=es.take i++v::es.drop i:=by
 have hk2:k=es.length+1:=by omega
 subst hk2;have e1:[v].take (es.length+1-i)=[v]:=aC (by simp;omega);have e2:((es.drop i).take (min (es.length-i) (es.length+1-(i+1)))).take (es.length+1-(i+1))=es.drop i:=by rw[aC (by simp),aC (by simp)]
 rw[e1,e2];have e4:(es.take i).length=i:=by simp;omega
 obtain⟨q,hq⟩:∃q,es.length+1-i=q+1:=⟨es.length-i,by omega⟩;rw[hq,List.replicate_succ];have e5:splice (es.take i++z::dh q z) i [v]=es.take i++[v]++dh q z:=by simp only[splice];rw[pJ (by omega),aC (by omega),List.drop_append,ak (by rw[e4];omega),dN,e4];simp
 rw[e5];have e6:(es.take i++[v]).length=i+1:=by rw[au,e4];rfl
 simp only[splice];have e7:(es.take i++[v]++dh q z).drop (i+1+(es.drop i).length)=[]:=Bg (by rw[au,e6,List.length_replicate,List.length_drop];omega);rw[e7,pJ (by omega),aC (by omega)];simp
theorem agL {α:Type}(f:α->List Cell)(k:Nat)(hf:∀t,(f t).length<=k){l:List α}{i j:Nat}{v:List Cell}(hv:v.length<=k):lu k (((ag f l).set i v).getD j [])=[]:=by
 have key:∀(m:List (List Cell)),(∀y,y∈m->y.length<=k)->lu k (m.getD j [])=[]:=by
  intro m hm;apply ak;by_cases hj:j<m.length
  ·rw[show m.getD j []=m[j] by simp[bu,hj]];exact hm _ (dJ hj)
  ·rw[show m.getD j []=[] by simp[bu,pg (A8 hj)]];simp
 apply key;intro y hy;rcases List.mem_or_eq_of_mem_set hy with h|h
 ·obtain⟨t,_,rfl⟩:=pI.1 h;exact hf t
 ·rw[h];exact hv
theorem afT {l:List aK}{i j:Nat}{x:Cell} : lu 1 (((ag cS l).set i [x]).getD j [])=[]:=agL cS 1 (λt=>by simp[cS]) (by simp)
end
section
def DV (e:TypeId)(v:Value)(l:List UInt8)(w:World):Prop:=
 (v = .slice none 0 0/\l=[])\/∃g cap cs,v = .slice (some ⟨g,0,none⟩) l.length cap/\cap≠0/\l.length<=cap/\cap<=maxLen/\w.heap[g]? = some (.cells cs e (0,0))/\cs.size=cap /\
  (∀(j:Nat) (u:Value),cs[j]? = some u->u.oneCell'=true)/\∀(j:Nat) (x:UInt8),l[j]? = some x->cs[j]? = some (.int .u8 x.toNat)
def Qd (w w':World)(v v':Value):Prop:=w.grownBy w' v.ownBlock/\(v'.ownBlock=v.ownBlock\/∃g,v'.ownBlock=some g/\w.heap.size<=g)
section
variable {P:Program} {w:World}
theorem TW (l:List UInt8)(j:Nat):(cO l)[j]? = (l[j]?).map λx=>kU .u8 x.toNat:=by simp[cO]
theorem XA (l:List UInt8):∀u∈cO l,u.oneCell'=true:=λu hu=>by simp[cO]at hu;obtain⟨a,_,rfl⟩:=hu;rfl
theorem WS {e:TypeId}(l:List UInt8)(h0:l≠[])(cap:Nat)(hc:l.length<=cap)(hm:cap<=maxLen)(w0:World)(z:Array Value)(hz:z=(cO l).toArray++bK (kU .u8 0).cells (cap-l.length)) :
 DV e (.slice (some ⟨w0.heap.size,0,none⟩) l.length cap) l (w0.alloc (.cells z e)):=by
 have hl:0<l.length:=ny.2 h0;have hzs:(bK (kU .u8 0).cells (cap-l.length)).size=cap-l.length:=by rw[size_zeroCells];exact wB _
 refine .inr ⟨w0.heap.size,cap,z,rfl,by omega,hc,hm,heap_alloc_new w0 _,?_,λj u hu=>?_,λj x hx=>?_⟩
 ·rw[hz,Array.size_append,hzs,List.size_toArray,mV];omega
 ·rw[hz]at hu;rcases oC.1 hu with⟨hj,hu⟩
  have hm:u∈(cO l).toArray++bK (kU .u8 0).cells (cap-l.length):=hu▸Array.getElem_mem hj;rcases Array.mem_append.1 hm with hm|hm
  ·exact XA l u (by simpa using hm)
  ·simp[bK,Go.Value.cells]at hm;obtain⟨i,_,h⟩:=hm;rw[Nat.mod_one]at h;rw[<- h];rfl
 ·have hj:=(bD.1 hx).1;rw[hz,Array.getElem?_append_left (by simpa[mV]using hj)];simpa[hx]using TW l j
theorem WT {e:TypeId}{g cap:Nat}{cs:Array Value}{l s:List UInt8}(hg:w.heap[g]? = some (.cells cs e (0,0)))(hs:cs.size=cap)(hc0:cap≠0)(hm:cap<=maxLen)(h1:∀(j:Nat) (u:Value),cs[j]? = some u->u.oneCell'=true)
 (hb:∀(j:Nat) (x:UInt8),l[j]? = some x->cs[j]? = some (.int .u8 x.toNat)) (hr:l.length+s.length<=cap) :
 DV e (.slice (some ⟨g,0,none⟩) (l++s).length cap) (l++s) (w.setRow g (cs.toList.take l.length++cO s++cs.toList.drop (l.length+s.length)).toArray):=by
 have hlen:(cs.toList.take l.length).length=l.length:=by simp;omega
 refine .inr ⟨g,cap,_,rfl,hc0,by simpa using hr,hm,setRow_heap w g cs _ e _ hg,?_,λj u hu=>?_,λj x hx=>?_⟩
 ·simp[mV];omega
 ·have hm':=List.mem_of_getElem? (show(cs.toList.take l.length++cO s++cs.toList.drop (l.length+s.length))[j]? = some u by simpa using hu);rcases aV.1 hm' with hm'|hm'
  ·rcases aV.1 hm' with hm'|hm'
   ·obtain⟨i,hi⟩:=List.mem_iff_getElem?.1 (List.mem_of_mem_take hm');exact h1 i u (by simpa using hi)
   ·exact XA s u hm'
  ·obtain⟨i,hi⟩:=List.mem_iff_getElem?.1 (List.mem_of_mem_drop hm');exact h1 i u (by simpa using hi)
 ·have hj:=(bD.1 hx).1;show(cs.toList.take l.length++cO s++cs.toList.drop (l.length+s.length)).toArray[j]? = _;rw[List.getElem?_toArray,List.append_assoc];by_cases hjl:j<l.length
  ·rw[gm hjl]at hx;rw[gm (by omega),List.getElem?_take,if_pos hjl];simpa using hb j x hx
  ·rw[gX (by omega)]at hx;rw[gX (by omega),hlen,gm (by rw[mV];exact(bD.1 hx).1),TW,hx];rfl
theorem Ez (g n c:Nat):uC (.slice (some ⟨g,0,none⟩) n c)=some g:=rfl
theorem abE {t u ty e:TypeId}{i:TypeInfo}(ht:P.underlying t=some (.slice e))(hu:P.underlying u=some .string)(hi:P.info? e=some i)(hz:i.zero=some (.int .u8 0))(hs1:i.size=1)(hby:i.bytes=1)
 {v:Value} {l:List UInt8} (hv:DV e v l w) (s:List UInt8) (hl:l.length+s.length<=140737488355328) :
 ∃v' w',(jJ #[t,u] ty #[v,.string ⟨⟨s⟩⟩]).run P w = .ok v' w'/\DV e v' (l++s) w'/\Qd w w' v v':=by
 have hmax:(140737488355328:Nat)<=maxLen:=by unfold maxLen;omega
 have hss:(Dp ⟨s⟩).size=s.length:=rfl;have hsc:Lib.strCells (Dp ⟨s⟩)=cO s:=Lib.strCells_eq _;have fresh:∀(old:Nat) (v:Value),old<l.length+s.length ->
  DV e (.slice (some ⟨w.heap.size,0,none⟩) (l++s).length (grownCap w (l.length+s.length) old e)) (l++s)
   (w.drew.alloc (.cells ((cO l).toArray++(cO s).toArray++bK (kU .u8 0).cells (grownCap w (l.length+s.length) old e-(l.length+s.length))) e)) /\
  Qd w (w.drew.alloc (.cells ((cO l).toArray++(cO s).toArray++bK (kU .u8 0).cells (grownCap w (l.length+s.length) old e-(l.length+s.length))) e)) v
   (.slice (some ⟨w.heap.size,0,none⟩) (l++s).length (grownCap w (l.length+s.length) old e)):=by
  intro old v ho;refine⟨WS (l++s) (λh=>?_) _ ?_ (grownCap_le_maxLen _ _ _ _ (by omega)) w.drew _ ?_,⟨rfl,rfl,rfl,by simp,λk hk _=>yA w.drew _ k hk⟩,.inr ⟨w.heap.size,rfl,ax _⟩⟩
  ·have:=congrArg kN h;rw[au,dB]at this;omega
  ·simpa using grownCap_ge w (l.length+s.length) old e
  ·rw[Lib.byteCells_append];simp
 rcases hv with⟨rfl,rfl⟩|⟨g,cap,cs,rfl,hc0,hle,hcm,hg,hcs,h1,hb⟩
 ·by_cases h0:s=[]
  ·subst h0;refine⟨.slice none 0 0,w,?_,.inl ⟨rfl,rfl⟩,⟨rfl,rfl,rfl,ax _,λ_ _ _=>rfl⟩,.inl rfl⟩;have hf:=Lib.run_firstCells_string (P:=P) w 1 ⟨⟨[]⟩⟩;have e0:(Dp ⟨[]⟩).size=0:=rfl;rw[e0]at hf;simp[jJ,run_underlying ht,run_underlying hu,sizeOf,typeInfo,hi,hs1,Go.Builtin.lenOf,e0,hf]
  ·have hp:0<s.length:=ny.2 h0;have hr:=run_append_nil_string (P:=P) w t u ty e i (.int .u8 0) ht hu hi hz ⟨⟨s⟩⟩ (by rw[hss];omega) (by rw[hss];simp at hl;omega) (by rw[hby,hss];simp at hl;omega);have hf:=fresh 0 (.slice none 0 0) (by simpa using hp);simp only[dN,dB,iI,Array.append_assoc]at hf;have e1:((Dp ⟨s⟩).data.map λb=>kU .u8 b.toNat)=(cO s).toArray:=(by apply Array.ext';simp[cO]);rw[e1,hss]at hr;have e2:(cO ([]:List UInt8)).toArray = #[]:=rfl;rw[e2,tX]at hf;exact⟨_,_,hr,hf.1,hf.2⟩
 ·by_cases hroom:l.length+s.length<=cap
  ·have hr:=Lib.run_append_room_string (P:=P) w t u ty e i ht hu hi hs1 g l.length cap cs hg ⟨⟨s⟩⟩ (by rw[hss];exact hroom) (by rw[hss];omega);rw[hss,hsc]at hr;have hR:=WT hg hcs hc0 hcm h1 hb hroom;rw[au]at hR;exact⟨_,_,hr,hR,⟨rfl,rfl,rfl,by simp,λk _ hk=>setRow_other w g k _ (λe=>hk (by simp[uC,e]))⟩,.inl rfl⟩
  ·have hr:=Lib.run_append_grow_string (P:=P) w t u ty e i (.int .u8 0) ht hu hi hz ⟨g,0,none⟩ l.length cap (cO l) (by rw[hs1,mV,wB]) (λj x hx=>by
    rw[TW]at hx;cases hlj:l[j]? with
    |none=>rw[hlj]at hx;cases hx
    |some y=>rw[hlj]at hx;simp at hx;subst hx;rw[Addr.zY];simp[o7,hg,hb j y hlj]) ⟨⟨s⟩⟩ (by rw[hss];omega) (by rw[hss];omega) (by rw[hby,hss];exact growslice_fits (by omega) (by omega))
   rw[hss,hsc]at hr;have hf:=fresh cap (.slice (some ⟨g,0,none⟩) l.length cap) (by omega);rw[au]at hf;exact⟨_,_,hr,hf.1,hf.2⟩
theorem aen {t ty e:TypeId}{i:TypeInfo}(ht:P.underlying t=some (.slice e))(hi:P.info? e=some i)(hz:i.zero=some (.int .u8 0))(hs1:i.size=1)(hby:i.bytes=1)
 {v:Value} {l:List UInt8} (hv:DV e v l w) (s:List UInt8) (h0:s≠[]) (ad:Addr) (c:Nat) (hnews:∀j v,(cO s)[j]? = some v->w.cell? (ad.add j)=some v) (hl:l.length+s.length<=140737488355328) :
 ∃v' w',(jJ #[t,t] ty #[v,.slice (some ad) s.length c]).run P w = .ok v' w'/\DV e v' (l++s) w'/\Qd w w' v v':=by
 have hmax:(140737488355328:Nat)<=maxLen:=by unfold maxLen;omega
 have hp:0<s.length:=ny.2 h0;have fresh:∀(old:Nat) (v:Value),old<l.length+s.length ->
  DV e (.slice (some ⟨w.heap.size,0,none⟩) (l++s).length (grownCap w (l.length+s.length) old e)) (l++s)
   (w.drew.alloc (.cells ((cO l).toArray++(cO s).toArray++bK (kU .u8 0).cells (grownCap w (l.length+s.length) old e-(l.length+s.length))) e)) /\
  Qd w (w.drew.alloc (.cells ((cO l).toArray++(cO s).toArray++bK (kU .u8 0).cells (grownCap w (l.length+s.length) old e-(l.length+s.length))) e)) v
   (.slice (some ⟨w.heap.size,0,none⟩) (l++s).length (grownCap w (l.length+s.length) old e)):=by
  intro old v ho;refine⟨WS (l++s) (λh=>?_) _ ?_ (grownCap_le_maxLen _ _ _ _ (by omega)) w.drew _ ?_,⟨rfl,rfl,rfl,by simp,λk hk _=>yA w.drew _ k hk⟩,.inr ⟨w.heap.size,rfl,ax _⟩⟩
  ·have:=congrArg kN h;rw[au,dB]at this;omega
  ·simpa using grownCap_ge w (l.length+s.length) old e
  ·rw[Lib.byteCells_append];simp
 have hn:(cO s).length=s.length*i.size:=by rw[hs1,mV,wB]
 rcases hv with⟨rfl,rfl⟩|⟨g,cap,cs,rfl,hc0,hle,hcm,hg,hcs,h1,hb⟩
 ·have hr:=run_append_nil (P:=P) w t ty e i (.int .u8 0) ht hi hz ad s.length c (cO s) hn hnews hp (by simp at hl;omega) (by rw[hby];simp at hl;omega);have hf:=fresh 0 (.slice none 0 0) (by simpa using hp);simp only[dN,dB,iI,Array.append_assoc]at hf;have e2:(cO ([]:List UInt8)).toArray = #[]:=rfl;rw[e2,tX]at hf;exact⟨_,_,hr,hf.1,hf.2⟩
 ·by_cases hroom:l.length+s.length<=cap
  ·have hr:=run_append_room' (P:=P) (w:=w) (ty:=ty) t e e i ht hi g l.length cap cs hg ad s.length c (cO s) hn hnews (XA s) hroom (by rw[hs1,mV];omega);rw[hs1,mV,wB]at hr;have hR:=WT hg hcs hc0 hcm h1 hb hroom;rw[au]at hR;exact⟨_,_,hr,hR,⟨rfl,rfl,rfl,by simp,λk _ hk=>setRow_other w g k _ (λe=>hk (by simp[uC,e]))⟩,.inl rfl⟩
  ·have hr:=run_append_grow (P:=P) w t ty e i (.int .u8 0) ht hi hz ⟨g,0,none⟩ l.length cap (cO l) (by rw[hs1,mV,wB]) (λj x hx=>by
    rw[TW]at hx;cases hlj:l[j]? with
    |none=>rw[hlj]at hx;cases hx
    |some y=>rw[hlj]at hx;simp at hx;subst hx;rw[Addr.zY];simp[o7,hg,hb j y hlj]) ad s.length c (cO s) hn hnews (by omega) (by omega) (by rw[hby];exact growslice_fits (by omega) (by omega))
   have hf:=fresh cap (.slice (some ⟨g,0,none⟩) l.length cap) (by omega);rw[au]at hf;exact⟨_,_,hr,hf.1,hf.2⟩
end
end
end Go.Ab
section
namespace Go.Ab
open Go Go.Shelf Go.RowKit Go.Proofs
section
variable {P:Program} {w:World}
theorem DV.alloc {e:TypeId}{v:Value}{l:List UInt8}(h:DV e v l w)(o:Obj):DV e v l (w.alloc o):=by
 rcases h with h|⟨g,cap,cs,h1,h2,h3,h4,h5,h6⟩
 ·exact .inl h
 ·exact .inr ⟨g,cap,cs,h1,h2,h3,h4,(yA w o g (Gg h5)).trans h5,h6⟩
theorem DV.same {e:TypeId}{v:Value}{l:List UInt8}{w':World}(h:DV e v l w)(hk:∀g,v.ownBlock=some g->w'.heap[g]? = w.heap[g]?):DV e v l w':=by
 rcases h with h|⟨g,cap,cs,h1,h2,h3,h4,h5,h6⟩
 ·exact .inl h
 ·exact .inr ⟨g,cap,cs,h1,h2,h3,h4,(hk g (by rw[h1];rfl)).trans h5,h6⟩
theorem DV.Yl {e:TypeId}{v:Value}{l:List UInt8}(h:DV e v l w){g:Nat}(hg:v.ownBlock=some g):g<w.heap.size/\∃cs,w.heap[g]? = some (.cells cs e (0,0)):=by
 rcases h with⟨rfl,_⟩|⟨g',cap,cs,rfl,h2,h3,h4,h5,h6⟩
 ·cases hg
 ·simp only[Ez,aH]at hg;subst hg;exact⟨Gg h5,cs,h5⟩
theorem DV.ne {e T:TypeId}{v:Value}{l:List UInt8}{k:Nat}{cs:Array Value}(h:DV e v l w)(hk:w.heap[k]? = some (.cells cs T (0,0)))(hT:T≠e):v.ownBlock≠some k:=λhe=>by obtain⟨_,c,hc⟩:=h.Yl he;rw[hk]at hc;simp only[aH,Obj.cells.injEq]at hc;exact hT hc.2.1
theorem PM {ops:Array Oper}{rest:List Oper}{o:Oper}{a:Act}{Q:Exit->Act->World->Prop}(hgd:o.guard=none)(sl x:Operand)(t u:TypeId)
 (ho:o.op = .call { callee:=.builtin .append,args:= #[sl,x],argTypes:= #[t,u] })
 (e:TypeId) (i:TypeInfo) (ht:P.underlying t=some (.slice e)) (hu:P.underlying u=some .string) (hi:P.info? e=some i) (hz:i.zero=some (.int .u8 0)) (hsize:i.size=1) (hby:i.bytes=1)
 (v:Value) (l:List UInt8) (hs:a.eval sl=v) (hv:DV e v l w) (s:List UInt8) (hx:a.eval x = .string ⟨⟨s⟩⟩) (hl:l.length+s.length<=140737488355328)
 (h:∀v' w',DV e v' (l++s) w'->Qd w w' v v'->wpList P ops Q rest (a.put o.dst v') w'):wpList P ops Q (o::rest) a w:=by
 refine wpList_plain hgd λK hK=>?_;obtain⟨v',w',hr,h2,h3⟩:=abE (P:=P) (ty:=o.type) ht hu hi hz hsize hby hv s hl;unfold Go.Oper.wp execOp;simp only[ho,resolve,invoke,builtin,gQ,fQ,dK,nV,bf,iD,hs,hx,hr];exact hK _ _ (h v' w' h2 h3)
theorem RU {ops:Array Oper}{rest:List Oper}{o:Oper}{a:Act}{Q:Exit->Act->World->Prop}(hgd:o.guard=none)(sl x:Operand)(t:TypeId)
 (ho:o.op = .call { callee:=.builtin .append,args:= #[sl,x],argTypes:= #[t,t] })
 (e:TypeId) (i:TypeInfo) (ht:P.underlying t=some (.slice e)) (hi:P.info? e=some i) (hz:i.zero=some (.int .u8 0)) (hsize:i.size=1) (hby:i.bytes=1)
 (v:Value) (l:List UInt8) (hs:a.eval sl=v) (hv:DV e v l w) (s:List UInt8) (h0:s≠[]) (ad:Addr) (c:Nat) (hx:a.eval x = .slice (some ad) s.length c) (hnews:∀j v,(cO s)[j]? = some v->w.cell? (ad.add j)=some v)
 (hl:l.length+s.length<=140737488355328)
 (h:∀v' w',DV e v' (l++s) w'->Qd w w' v v'->wpList P ops Q rest (a.put o.dst v') w'):wpList P ops Q (o::rest) a w:=by
 refine wpList_plain hgd λK hK=>?_;obtain⟨v',w',hr,h2,h3⟩:=aen (P:=P) (ty:=o.type) ht hi hz hsize hby hv s h0 ad c hnews hl;unfold Go.Oper.wp execOp;simp only[ho,resolve,invoke,builtin,gQ,fQ,dK,nV,bf,iD,hs,hx,hr];exact hK _ _ (h v' w' h2 h3)
end
variable {P:Program} {ρ:Go.Shelf.Ren}
def aea (k:Nat)(p:Value):Prop:=p = .pointer none\/p = .pointer (some ⟨k,0,none⟩)
structure Hid (p:Prop):Prop where
 h:p
theorem Tc (L:Lays.n240 P ρ)(X:Builder.X72 P ρ)(k:Nat)(p v:Value)(w:World)(hk:w.heap[k]? = some (.cells #[p,v] (ρ.t 72) (0,0)))(hp:aea k p) :
 Calls P (ρ.f 240) #[.pointer (some ⟨k,0,none⟩)] w λe w'=>e = .returned (.tuple #[])/\w'.heap[k]? = some (.cells #[.pointer (some ⟨k,0,none⟩),v] (ρ.t 72) (0,0))/\Hid (w'.heap.size=w.heap.size)/\LU w w' (λk'=>k'=k):=by
 rcases hp with rfl|rfl
 ·refine(Any.Builder_copyCheck_fresh L X k w (by rw[lU hk];rfl) (by simp[Bv,hk]) (BF hk 0)).mono ?_;rintro e w' ⟨rfl,rfl⟩;refine⟨rfl,?_,⟨by simp[uS]⟩,⟨rfl,rfl,rfl,by simp[uS],λk' _ hk'=>Below.heap_setCell _ _ _ _ (λe=>hk' (by simp[e]))⟩⟩;simp[uS,BC,hk]
 ·refine(Any.Builder_copyCheck_used L X k w (by rw[lU hk];rfl)).mono ?_;rintro e w' ⟨rfl,rfl⟩;exact⟨rfl,hk,⟨rfl⟩,LU.refl _ _⟩
def Wrote (T e:TypeId)(k:Nat)(v:Value)(l:List UInt8)(w w':World):Prop:=
 ∃v',w'.heap[k]? = some (.cells #[.pointer (some ⟨k,0,none⟩),v'] T (0,0))/\DV e v' l w'/\(v'.ownBlock=v.ownBlock\/∃g,v'.ownBlock=some g/\w.heap.size<=g)/\LU w w' (λk'=>k'=k\/some k'=v.ownBlock)
theorem Xj {T e:TypeId}{k:Nat}{v v':Value}{l:List UInt8}{w w1 w1' w2:World}(hT:T≠e)(hv:DV e v l w)(hlt:k<w.heap.size)(h1:w1.heap[k]? = some (.cells #[.pointer (some ⟨k,0,none⟩),v] T (0,0)))(hs:w1.heap.size=w.heap.size)(hF:LU w w1 (λk'=>k'=k))
 (ha:w1'=w1\/∃o,w1'=w1.alloc o) {l':List UInt8} (hr:DV e v' l' w2) (hg:Qd w1' w2 v v') (hne:v.ownBlock≠some k) :
 w2.heap[k]? = some (.cells #[.pointer (some ⟨k,0,none⟩),v] T (0,0))/\Wrote T e k v l' w (w2.setCell ⟨k,1,none⟩ v'):=by
 have hsz:w.heap.size<=w1'.heap.size:=by
  rcases ha with rfl|⟨o,rfl⟩
  ·omega
  ·simp;omega
 have hk1:∀k',k'<w.heap.size->w1'.heap[k']? = w1.heap[k']?:= λk' hk'=>by
  rcases ha with rfl|⟨o,rfl⟩
  ·rfl
  ·exact yA w1 o k' (by omega)
 have hk2:w2.heap[k]? = some (.cells #[.pointer (some ⟨k,0,none⟩),v] T (0,0)):=by rw[hg.1.block k (by omega) (λe=>hne e.symm),hk1 k hlt];exact h1
 have hne2:v'.ownBlock≠some k:=hr.ne hk2 hT;refine⟨hk2,v',?_,?_,?_,?_⟩
 ·simp[uS,BC,hk2]
 ·exact hr.same λg hg'=>Below.heap_setCell _ _ _ _ (λe=>hne2 (by rw[hg'];simp at e;rw[e]))
 ·rcases hg.2 with h|⟨g,h,hb⟩
  ·exact .inl h
  ·exact .inr ⟨g,h,by omega⟩
 ·have ha':LU w1 w1' (λ_=>False):=by
   rcases ha with rfl|⟨o,rfl⟩
   ·exact LU.refl _ _
   ·exact⟨rfl,rfl,rfl,by simp,λk' h _=>yA w1 o k' h⟩
  have h01:=hF.trans ha' (λ_ _ h=>h.elim);exact⟨hg.1.os.trans h01.os,hg.1.tape.trans h01.tape,hg.1.output.trans h01.output,by have:=hg.1.size;simp[uS];omega,λk' hlt' hm=>by rw[Below.heap_setCell _ _ _ _ (λe=>hm (.inl (by simpa using e))),hg.1.block k' (by omega) (λe=>hm (.inr e))];exact h01.block k' hlt' (λe=>hm (.inl e))⟩
set_option maxHeartbeats 2000000 in
set_option maxRecDepth 100000 in
theorem Px (L:Lays.n166 P ρ)(X:Builder.Extra P ρ)(k:Nat)(p v:Value)(l s:List UInt8)(w:World)(hk:w.heap[k]? = some (.cells #[p,v] (ρ.t 72) (0,0)))(hp:aea k p)(hv:DV (ρ.t 5) v l w)
 (hlen:l.length+s.length<=140737488355328) :
 Calls P (ρ.f 166) #[.pointer (some ⟨k,0,none⟩),.string ⟨⟨s⟩⟩] w λe w'=>e = .returned (.tuple #[.int .i64 s.length,.nilIface])/\Wrote (ρ.t 72) (ρ.t 5) k v (l++s) w w':=by
 obtain⟨i0,hi,hz0,hz1,hz2⟩:=info_parts X.infoByte;have hlt:=Gg hk;have hne:=hv.ne hk X.neB5;have mixed:=L.mixed;have t72:=L.t72;have a72:=L.a72;have z72:=L.z72;have v72:=L.v72;have u72:=run_underlying L.t72;have t70:=L.t70;have a70:=L.a70;have z70:=L.z70;have v70:=L.v70;have u70:=run_underlying L.t70;have t37:=L.t37;have a37:=L.a37;have z37:=L.z37;have v37:=L.v37;have u37:=run_underlying L.t37;have t3:=L.t3;have a3:=L.a3;have z3:=L.z3;have v3:=L.v3;have u3:=run_underlying L.t3;have t9:=L.t9;have a9:=L.a9;have z9:=L.z9;have v9:=L.v9;have u9:=run_underlying L.t9;have t4:=L.t4;have a4:=L.a4;have z4:=L.z4;have v4:=L.v4;have u4:=run_underlying L.t4;have t164:=L.t164;have a164:=L.a164;have z164:=L.z164;have v164:=L.v164;have u164:=run_underlying L.t164;have t5:=X.t5;have a5:=X.a5;have z5:=X.z5;have v5:=X.v5;have u5:=run_underlying X.t5;have e240:∀args w,(callFunc (ρ.f 240) args).run P w = .ok (.enter (ρ.f 240) args) w:=enters_of L.f240 (by kernel_rfl) rfl
 go_enter L.f166,Body.n166_ntmps ρ
 go_wp2_with (go_at_fn (ρ.f 240);refine(Tc { L with } X.toX72 k p v _ hk hp).mono ?_)
 rintro e w1 ⟨rfl,hk1,hs1,hF1⟩;have hv1:DV (ρ.t 5) v l w1:=hv.same λg hg=>hF1.block g (hv.Yl hg).1 (λe=>hne (by rw[hg,e]));have c0:w1.cell? ⟨k,0,none⟩=some (.pointer (some ⟨k,0,none⟩)):=by rw[lU hk1];rfl
 have c1:w1.cell? ⟨k,1,none⟩=some v:=by rw[lU hk1];rfl
 go_wp2_with (at_builtin;refine PM rfl _ _ (ρ.t 37) (ρ.t 9) rfl (ρ.t 5) i0 L.t37 L.t9 hi hz0 hz1 hz2 _ _ rfl hv1 s rfl hlen ?_)
 intro v' w2 hr hg;obtain⟨hb2,hW⟩:=Xj X.neB5 hv hlt hk1 hs1.h hF1 (.inl rfl) hr hg hne;have d0:w2.cell? ⟨k,0,none⟩=some (.pointer (some ⟨k,0,none⟩)):=by rw[lU hb2];rfl
 have d1:w2.cell? ⟨k,1,none⟩=some v:=by rw[lU hb2];rfl
 have f1:w2.frozen? ⟨k,1,none⟩=false:=BF hb2 1;obtain⟨ao,n',cap,rfl⟩:∃ao n' cap,v' = .slice ao n' cap:=by
  rcases hr with⟨hv,_⟩|⟨g,cap,cs,hv,_⟩
  ·exact⟨_,_,_,hv⟩
  ·exact⟨_,_,_,hv⟩
 go_wp2
 go_ret2
 exact⟨rfl,hW⟩
theorem abJ (c:Int)(hc:0<=c/\c<256):kU .u8 (eU c.toNat).toNat = .int .u8 c:=by
 have:((eU c.toNat).toNat:Int)=c:=by simp[UInt8.toNat_ofNat'];omega
 rw[this]
set_option maxHeartbeats 2000000 in
set_option maxRecDepth 100000 in
theorem Sr (L:Lays.n167 P ρ)(X:Builder.Extra P ρ)(k:Nat)(p v:Value)(l:List UInt8)(c:Int)(w:World)(hk:w.heap[k]? = some (.cells #[p,v] (ρ.t 72) (0,0)))(hp:aea k p)(hv:DV (ρ.t 5) v l w)
 (hc:0<=c/\c<256) (hlen:l.length+1<=140737488355328) :
 Calls P (ρ.f 167) #[.pointer (some ⟨k,0,none⟩),.int .u8 c] w λe w'=>e = .returned .nilIface/\Wrote (ρ.t 72) (ρ.t 5) k v (l++[eU c.toNat]) w w':=by
 obtain⟨i0,hi,hz0,hz1,hz2⟩:=info_parts X.infoByte;have hlt:=Gg hk;have hne:=hv.ne hk X.neB5;have hbc:cO [eU c.toNat]=[kU .u8 c]:=by simp only[cO,bf,iD,abJ c hc]
 have hnews:∀w1:World,∀j u,(cO [eU c.toNat])[j]? = some u->(w1.alloc (.cells #[.int .u8 c] (ρ.t 5))).cell? ((⟨w1.heap.size,0,none⟩:Addr).add j)=some u:=by
  intro w1 j u hj;rw[hbc]at hj
  match j,hj with
  |0,hj=>simp at hj;subst hj;simp[xO]
 have mixed:=L.mixed;have t72:=L.t72;have a72:=L.a72;have z72:=L.z72;have v72:=L.v72;have u72:=run_underlying L.t72;have t70:=L.t70;have a70:=L.a70;have z70:=L.z70;have v70:=L.v70;have u70:=run_underlying L.t70;have t5:=L.t5;have a5:=L.a5;have z5:=L.z5;have v5:=L.v5;have u5:=run_underlying L.t5;have t37:=L.t37;have a37:=L.a37;have z37:=L.z37;have v37:=L.v37;have u37:=run_underlying L.t37;have t9:=L.t9;have a9:=L.a9;have z9:=L.z9;have v9:=L.v9;have u9:=run_underlying L.t9;have t4:=L.t4;have a4:=L.a4;have z4:=L.z4;have v4:=L.v4;have u4:=run_underlying L.t4;have t164:=L.t164;have a164:=L.a164;have z164:=L.z164;have v164:=L.v164;have u164:=run_underlying L.t164;have e240:∀args w,(callFunc (ρ.f 240) args).run P w = .ok (.enter (ρ.f 240) args) w:=enters_of L.f240 (by kernel_rfl) rfl
 go_enter L.f167,Body.n167_ntmps ρ
 go_wp2_with (go_at_fn (ρ.f 240);refine(Tc { L with } X.toX72 k p v _ hk hp).mono ?_)
 rintro e w1 ⟨rfl,hk1,hs1,hF1⟩;have hv1:DV (ρ.t 5) v l w1:=hv.same λg hg=>hF1.block g (hv.Yl hg).1 (λe=>hne (by rw[hg,e]));have c0:w1.cell? ⟨k,0,none⟩=some (.pointer (some ⟨k,0,none⟩)):=by rw[lU hk1];rfl
 have c1:w1.cell? ⟨k,1,none⟩=some v:=by rw[lU hk1];rfl
 go_wp2_with (at_builtin;refine RU rfl _ _ (ρ.t 37) rfl (ρ.t 5) i0 L.t37 hi hz0 hz1 hz2 _ _ rfl (hv1.alloc _) [eU c.toNat] (List.cons_ne_nil _ _) ⟨w1.heap.size,0,none⟩ 1 rfl (hnews w1) hlen ?_)
 intro v' w2 hr hg;obtain⟨hb2,hW⟩:=Xj X.neB5 hv hlt hk1 hs1.h hF1 (.inr ⟨_,rfl⟩) hr hg hne;have d0:w2.cell? ⟨k,0,none⟩=some (.pointer (some ⟨k,0,none⟩)):=by rw[lU hb2];rfl
 have d1:w2.cell? ⟨k,1,none⟩=some v:=by rw[lU hb2];rfl
 have f1:w2.frozen? ⟨k,1,none⟩=false:=BF hb2 1;obtain⟨ao,n',cap,rfl⟩:∃ao n' cap,v' = .slice ao n' cap:=by
  rcases hr with⟨hv,_⟩|⟨g,cap,cs,hv,_⟩
  ·exact⟨_,_,_,hv⟩
  ·exact⟨_,_,_,hv⟩
 go_wp2
 go_ret
 exact⟨rfl,hW⟩
theorem X5 (w:World)(g n:Nat):LU w (w.drew.freeze ⟨g,0,none⟩ n) (λk'=>k'=g):=by
 unfold World.freeze;split
 ·exact⟨rfl,rfl,rfl,ax _,λ_ _ _=>rfl⟩
 ·exact⟨rfl,rfl,rfl,by simp only[Array.size_modify];exact ax _,λk hk hm=>by simp only[BC];rw[if_neg (λe=>hm e.symm)];rfl⟩
theorem Ee {w w':World}(h:Below w.heap.size w w')(M:Nat->Prop):LU w w' M:=⟨h.os,h.tape,h.output,h.size,λk hk _=>h.block k hk⟩
set_option maxHeartbeats 2000000 in
set_option maxRecDepth 100000 in
theorem XD (L:Lays.n169 P ρ)(X:Builder.Extra P ρ)(k:Nat)(p v:Value)(l:List UInt8)(w:World)(hk:w.heap[k]? = some (.cells #[p,v] (ρ.t 72) (0,0)))(hv:DV (ρ.t 5) v l w) :
 Calls P (ρ.f 169) #[.pointer (some ⟨k,0,none⟩)] w λe w'=>e = .returned (.string ⟨⟨l⟩⟩)/\LU w w' (λk'=>some k'=v.ownBlock):=by
 rcases hv with⟨rfl,rfl⟩|⟨g,cap,cs,rfl,hc0,hle,hcm,hg,hcs,h1,hb⟩
 ·refine(Any.Builder_String_nil L X w.heap.size k p w hk).mono ?_;rintro e w' ⟨rfl,h⟩;exact⟨rfl,Ee h _⟩
 by_cases h0:l=[]
 ·subst h0;refine(Any.Builder_String_room L X w.heap.size k g cap p w hc0 hk).mono ?_;rintro e w' ⟨rfl,h⟩;exact⟨rfl,Ee h _⟩
 have hl0:l.length≠0:=by simpa using h0
 have c1:w.drew.cell? ⟨k,1,none⟩=some (.slice (some ⟨g,0,none⟩) l.length cap):=by have:w.drew.heap[k]? = some (.cells #[p,.slice (some ⟨g,0,none⟩) l.length cap] (ρ.t 72) (0,0)):=hk;rw[lU this];rfl
 have hSD:(Builtin.unsafeSliceData_ #[(ρ.t 37)] (ρ.t 127) #[.slice (some ⟨g,0,none⟩) l.length cap]).run P w.drew = .ok (.pointer (some ⟨g,0,none⟩)) w.drew:=
  Lib.run_unsafeSliceData_row _ _ _ _ _ _ (by omega)
 have hUS:(Builtin.unsafeString_ #[(ρ.t 127),(ρ.t 3)] (ρ.t 9) #[.pointer (some ⟨g,0,none⟩),.int .i64 l.length]).run P w.drew = .ok (.string ⟨l.toArray⟩) (w.drew.freeze ⟨g,0,none⟩ l.length):=by refine Lib.run_unsafeString_row w.drew (ρ.t 127) (ρ.t 3) (ρ.t 9) (ρ.t 5) L.t127 X.cellsByte g cs.size (by have hg':w.drew.heap[g]? = some (.cells cs (ρ.t 5) (0,0)):=hg;simp[Bv,hg']) l h0 (by omega) (by unfold maxLen at hcm;omega) ?_;intro j x hx;rw[Addr.zY];have hg':w.drew.heap[g]? = some (.cells cs (ρ.t 5) (0,0)):=hg;simp[o7,hg',hb j x hx]
 have mixed:=L.mixed;have t72:=L.t72;have a72:=L.a72;have z72:=L.z72;have v72:=L.v72;have u72:=run_underlying L.t72;have t70:=L.t70;have a70:=L.a70;have z70:=L.z70;have v70:=L.v70;have u70:=run_underlying L.t70;have t37:=L.t37;have a37:=L.a37;have z37:=L.z37;have v37:=L.v37;have u37:=run_underlying L.t37;have t127:=L.t127;have a127:=L.a127;have z127:=L.z127;have v127:=L.v127;have u127:=run_underlying L.t127;have t3:=L.t3;have a3:=L.a3;have z3:=L.z3;have v3:=L.v3;have u3:=run_underlying L.t3;have t9:=L.t9;have a9:=L.a9;have z9:=L.z9;have v9:=L.v9;have u9:=run_underlying L.t9;have t5:=X.t5;have a5:=X.a5;have z5:=X.z5;have v5:=X.v5;have u5:=run_underlying X.t5;have hF:=X5 w g l.length;clear hb hcs hg hle hcm h1 hk
 go_enter L.f169,Body.n169_ntmps ρ
 go_wp2
 go_region_o
 all_goals(go_wp2;go_ret;exact⟨rfl,hF.os,hF.tape,hF.output,hF.size,λk' hk' hm=>hF.block k' hk' (λe=>hm (by rw[e];rfl))⟩)
end Go.Ab
end
section
namespace Go.Ab
open Go Go.Shelf Go.Proofs
section
variable {P:Program} {I:IH} {ρ:Ren} {w:World}
structure Bld (I:IH)(ρ:Ren)(w:World)(T e k:Nat)(p v:Value)(l:List UInt8):Prop where
 r0:ρ 0=some (k,T)
 hk:w.heap[k]? = some (.cells #[p,v] T (0,0))
 hp:aea k p
 hv:DV e v l w
 own:∀g,v.ownBlock=some g->∃cap,ρ 1=some (g,cap)/\cap≠0
 i0:I k=none
 i1:∀g,v.ownBlock=some g->I g=none
theorem ahr {cs:Array Value}(h:cs.size=2):∃p v,cs = #[p,v]:=by
 match cs,h with
 |⟨[p,v]⟩,_=>exact⟨p,v,rfl⟩
theorem XC {T e:Nat}{l:List UInt8}(h:BX I ρ w (Ew [.var [.opt T 0,.wO 1 l.length],.row e l])):∃k p v,Bld I ρ w T e k p v l:=by
 obtain⟨k,cap,cs,hr,hw,hs,hc⟩:=h.ok 0;obtain⟨p,v,rfl⟩:=ahr hs;obtain⟨k',hr',hp⟩:=hc 0 p (.opt T 0) rfl rfl;rw[hr]at hr';simp only[aH,aJ]at hr';obtain⟨rfl,rfl⟩:=hr';obtain⟨g,cp,hg,hn,hv⟩:=hc 1 v (.wO 1 l.length) rfl rfl;obtain⟨g',cp',hg',hl,hm,hrow⟩:=h.ok 1;rw[hg]at hg';simp only[aH,aJ]at hg';obtain⟨rfl,rfl⟩:=hg';have i0:I k=none:=h.fresh 0 k ⟨_,hr⟩;rcases hv with⟨h0,rfl⟩|⟨h0,rfl⟩
 ·refine⟨k,p,_,hr,hw,hp,.inl ⟨rfl,?_⟩,(λg hx=>by cases hx),i0,(λg hx=>by cases hx)⟩;exact List.eq_nil_of_length_eq_zero (by omega)
 ·obtain⟨cs,h1,h2,h3,h4⟩:=hrow h0;refine⟨k,p,_,hr,hw,hp,.inr ⟨g,cp,cs,rfl,h0,hl,hm,h1,h2,h3,h4⟩,λg' hx=>?_,i0,λg' hx=>?_⟩
  ·simp only[Ez,aH]at hx;subst hx;exact⟨cp,hg,h0⟩
  ·simp only[Ez,aH]at hx;subst hx;exact h.fresh 1 g ⟨cp,hg,h0⟩
theorem VJ {T e k:Nat}{p v:Value}{l l':List UInt8}{w':World}(hT:T≠e)(hA:Agree I w)(hB:BX I ρ w (Ew [.var [.opt T 0,.wO 1 l.length],.row e l]))(b:Bld I ρ w T e k p v l)(h:Wrote T e k v l' w w') :
 ∃ σ:Ren,Agree I w'/\BX I σ w' (Ew [.var [.opt T 0,.wO 2 l'.length],.dead,.row e l']) /\
   LU w w' (λk=>∃c,(Ew [.var [.opt T 0,.wO 1 l.length],.row e l] c).uses (ρ c) k) /\
   (∀c k',(Ew [.var [.opt T 0,.wO 2 l'.length],.dead,.row e l'] c).uses (σ c) k'->w.heap.size<=k'\/∃c',(Ew [.var [.opt T 0,.wO 1 l.length],.row e l] c').uses (ρ c') k') /\
   (∀c,c<2->σ c=ρ c):=by
 obtain⟨v',hk',hv',hown,hF⟩:=h;have hu0:(Ew [.var [.opt T 0,.wO 1 l.length],.row e l] 0).uses (ρ 0) k:=⟨_,b.r0⟩;have hu1:∀g,v.ownBlock=some g->(Ew [.var [.opt T 0,.wO 1 l.length],.row e l] 1).uses (ρ 1) g:=λg hg=>b.own g hg;have hρ:∀c,2<=c->ρ c=none:=λc hc=>by have h1:=hB.ok c;rw[DX (by simpa using hc)]at h1;exact h1
 have hne:v'.ownBlock≠some k:=hv'.ne hk' hT;obtain⟨g,cap,hg⟩:∃g cap,(cap=0/\v' = .slice none 0 0/\l'=[])\/(cap≠0/\v' = .slice (some ⟨g,0,none⟩) l'.length cap/\l'.length<=cap/\cap<=maxLen/\∃cs,w'.heap[g]? = some (.cells cs e (0,0))/\cs.size=cap /\
  (∀(j:Nat) (u:Value),cs[j]? = some u->u.oneCell'=true)/\∀(j:Nat) (x:UInt8),l'[j]? = some x->cs[j]? = some (.int .u8 x.toNat)):=by
  rcases hv' with⟨rfl,rfl⟩|⟨g,cap,cs,h1,h2,h3,h4,h5⟩
  ·exact⟨0,0,.inl ⟨rfl,rfl,rfl⟩⟩
  ·exact⟨g,cap,.inr ⟨h2,h1,h3,h4,cs,h5⟩⟩
 have hnew:cap≠0->I g=none/\g≠k/\(w.heap.size<=g\/(Ew [.var [.opt T 0,.wO 1 l.length],.row e l] 1).uses (ρ 1) g):=λh0=>by
  rcases hg with⟨h1,_⟩|⟨_,rfl,_⟩
  ·exact absurd h1 h0
  ·rw[Ez]at hne hown;refine⟨?_,λe=>hne (by rw[e]),?_⟩
   ·rcases hown with h|⟨g',h,hb⟩
    ·exact b.i1 g h.symm
    ·simp only[aH]at h;subst h;exact hA.WC hb
   ·rcases hown with h|⟨g',h,hb⟩
    ·exact .inr (hu1 g h.symm)
    ·simp only[aH]at h;subst h;exact .inl hb
 have hle:ρ.le (ρ.set 2 g cap):=Ren.Ll (hρ 2 (ax _));have s2:(ρ.set 2 g cap) 2=some (g,cap):=Ren.oD _ _ _ _;have s0:(ρ.set 2 g cap) 0=some (k,T):=(Ren.xe (by decide)).trans b.r0;have u0:∀k',(Ew [.var [.opt T 0,.wO 2 l'.length],.dead,.row e l'] 0).uses ((ρ.set 2 g cap) 0) k'->k'=k:=λk' hu=>by obtain⟨c,hc⟩:=hu;rw[s0]at hc;simp only[aH,aJ]at hc;exact hc.1.symm
 have u2:∀k',(Ew [.var [.opt T 0,.wO 2 l'.length],.dead,.row e l'] 2).uses ((ρ.set 2 g cap) 2) k'->k'=g/\cap≠0:=λk' hu=>by obtain⟨c,hc,h0⟩:=hu;rw[s2]at hc;simp only[aH,aJ]at hc;exact⟨hc.1.symm,by rw[hc.2];exact h0⟩
 have uu:∀c k',(Ew [.var [.opt T 0,.wO 2 l'.length],.dead,.row e l'] c).uses ((ρ.set 2 g cap) c) k'->(c=0/\k'=k)\/(c=2/\k'=g/\cap≠0):=λc k' hu=>by
  match c with
  |0=>exact .inl ⟨rfl,u0 k' hu⟩
  |1=>exact hu.elim
  |2=>exact .inr ⟨rfl,u2 k' hu⟩
  |c+3=>rw[DX (by simp)]at hu;exact hu.elim
 refine⟨ρ.set 2 g cap,?_,⟨λc=>?_,λc c' k' hc hc'=>?_,λc k' hc=>?_⟩,⟨hF.os,hF.tape,hF.output,hF.size,λk' hlt hm=>hF.block k' hlt λe=>hm ?_⟩,λc k' hc=>?_,λc hc=>Ren.xe (by omega)⟩
 ·refine hA.other λk1 c hc=>hF.block k1 (hA.lt hc) λe=>?_;rcases e with rfl|e
  ·rw[b.i0]at hc;cases hc
  ·rw[b.i1 k1 e.symm]at hc;cases hc
 ·match c with
  | 0=>
    refine⟨k,T,_,s0,hk',rfl,λj u x hu hx=>?_⟩
    match j with
    | 0=>simp at hu hx;subst hu;subst hx;exact⟨k,s0,.inr rfl⟩
    | 1=>
      simp at hu hx;subst hu;subst hx;rcases hg with⟨h1,h2,h3⟩|⟨h1,h2,h3,_⟩
      ·exact⟨g,cap,s2,by rw[h3];exact aO _,.inl ⟨h1,h2⟩⟩
      ·exact⟨g,cap,s2,h3,.inr ⟨h1,h2⟩⟩
    |j+2=>simp at hu
  |1=>trivial
  | 2=>
    rcases hg with⟨h1,h2,h3⟩|⟨h1,h2,h3,h4,h5⟩
    ·exact⟨g,cap,s2,by rw[h3];exact aO _,by rw[h1];exact aO _,λh=>absurd h1 h⟩
    ·exact⟨g,cap,s2,h3,h4,λ_=>h5⟩
  | c+3=>rw[DX (by simp)];exact(Ren.xe (by omega)).trans (hρ _ (by omega))
 ·rcases uu c k' hc with⟨rfl,h1⟩|⟨rfl,h1,h2⟩<;>rcases uu c' k' hc' with⟨rfl,h3⟩|⟨rfl,h3,h4⟩
  ·rfl
  ·exact absurd (h3.symm.trans h1) (hnew h4).2.1
  ·exact absurd (h1.symm.trans h3) (hnew h2).2.1
  ·rfl
 ·rcases uu c k' hc with⟨rfl,rfl⟩|⟨rfl,rfl,h2⟩
  ·exact b.i0
  ·exact(hnew h2).1
 ·rcases e with rfl|e
  ·exact⟨0,hu0⟩
  ·exact⟨1,hu1 k' e.symm⟩
 ·rcases uu c k' hc with⟨rfl,rfl⟩|⟨rfl,rfl,h2⟩
  ·exact .inr ⟨0,hu0⟩
  ·rcases(hnew h2).2.2 with h|h
   ·exact .inl h
   ·exact .inr ⟨1,h⟩
end
variable {P:Program} {ρ:Go.Shelf.Ren}
structure iJ where
 buf:List UInt8
 deriving Inhabited
theorem MW {I:IH}{r:Ren}{vs:List Value}{x y:AV}(h:Xq I r vs [x,y]):∃a b,vs=[a,b]/\GV I r a x/\GV I r b y:=by
 obtain⟨h1,h2⟩:=h
 match vs,h1 with
 |[a,b],_=>exact⟨a,b,rfl,h2 0 a x rfl rfl,h2 1 b y rfl rfl⟩
theorem MV {I:IH}{r:Ren}{vs:List Value}{x:AV}(h:Xq I r vs [x]):∃a,vs=[a]/\GV I r a x:=by
 obtain⟨h1,h2⟩:=h
 match vs,h1 with
 |[a],_=>exact⟨a,rfl,h2 0 a x rfl rfl⟩
theorem TU (L:Lays.n167 P ρ)(X:Builder.Extra P ρ){l:List UInt8}{c:Int}(hc:0<=c/\c<256)(hl:l.length+1<=140737488355328) :
 kV P (ρ.f 167) [.one (.ptr 0 0),.one (.c (.lit (.int .u8 c)))] [.var [.opt (ρ.t 72) 0,.wO 1 l.length],.row (ρ.t 5) l] λr bs=>r = .one (.c (.lit .nilIface))/\bs=[.var [.opt (ρ.t 72) 0,.wO 2 (l++[eU c.toNat]).length],.dead,.row (ρ.t 5) (l++[eU c.toNat])]:=by
 intro I r w vs hT hA hB hG;obtain⟨a,b',rfl,ha,hb⟩:=MW hG;obtain⟨k,p,v,b⟩:=XC hB;obtain⟨k',cap',hr,rfl⟩:=ha;rw[b.r0]at hr;simp only[aH,aJ]at hr;obtain⟨rfl,_⟩:=hr;cases hb;refine(Sr L X k p v l c w b.hk b.hp b.hv hc hl).mono ?_;rintro e w' ⟨rfl,hW⟩;obtain⟨σ,h1,h2,h3,h4,h5⟩:=VJ X.neB5 hA hB b hW;exact⟨_,I,σ,_,_,rfl,⟨rfl,rfl⟩,Rd.lit _ rfl,h1,h2,IH.le_refl I,h3,h4,λ_ _ _=>rfl,h5⟩
theorem Qi (L:Lays.n166 P ρ)(X:Builder.Extra P ρ){l s:List UInt8}(hl:l.length+s.length<=140737488355328) :
 kV P (ρ.f 166) [.one (.ptr 0 0),.one (.c (.str s))] [.var [.opt (ρ.t 72) 0,.wO 1 l.length],.row (ρ.t 5) l] λr bs=>r = .xg [(false,[.c (.lit (.int .i64 s.length))]),(false,[.c (.lit .nilIface)])]/\bs=[.var [.opt (ρ.t 72) 0,.wO 2 (l++s).length],.dead,.row (ρ.t 5) (l++s)]:=by
 intro I r w vs hT hA hB hG;obtain⟨a,b',rfl,ha,hb⟩:=MW hG;obtain⟨k,p,v,b⟩:=XC hB;obtain⟨k',cap',hr,rfl⟩:=ha;rw[b.r0]at hr;simp only[aH,aJ]at hr;obtain⟨rfl,_⟩:=hr;cases hb;refine(Px L X k p v l s w b.hk b.hp b.hv hl).mono ?_;rintro e w' ⟨rfl,hW⟩;obtain⟨σ,h1,h2,h3,h4,h5⟩:=VJ X.neB5 hA hB b hW;refine⟨_,I,σ,_,_,rfl,⟨rfl,rfl⟩,⟨_,rfl,rfl,λj u q hu hq=>?_⟩,h1,h2,IH.le_refl I,h3,h4,λ_ _ _=>rfl,h5⟩
 match j with
 |0=>simp at hu hq;subst hu;subst hq;exact⟨_,rfl,Rd.lit _ rfl⟩
 |1=>simp at hu hq;subst hu;subst hq;exact⟨_,rfl,Rd.lit _ rfl⟩
 |j+2=>simp at hu
theorem ZG (L:Lays.n169 P ρ)(X:Builder.Extra P ρ){l:List UInt8}(hl:l.length<=maxLen) :
 kV P (ρ.f 169) [.one (.ptr 0 0)] [.var [.opt (ρ.t 72) 0,.wO 1 l.length],.row (ρ.t 5) l] λr bs=>r = .one (.c (.str l))/\bs=[.dead,.dead]:=by
 intro I r w vs hT hA hB hG;obtain⟨a,rfl,ha⟩:=MV hG;obtain⟨k,p,v,b⟩:=XC hB;obtain⟨k',cap',hr,rfl⟩:=ha;rw[b.r0]at hr;simp only[aH,aJ]at hr;obtain⟨rfl,_⟩:=hr;refine(XD L X k p v l w b.hk b.hv).mono ?_;rintro e w' ⟨rfl,hF⟩;have hρ:∀c,2<=c->r c=none:=λc hc=>by have h1:=hB.ok c;rw[DX (by simpa using hc)]at h1;exact h1
 have un:∀c k',(Ew [.dead,.dead] c).uses (r c) k'->False:=λc k' hu=>by
  match c with
  |0=>exact hu
  |1=>exact hu
  |c+2=>rw[DX (by simp)]at hu;exact hu
 refine⟨_,I,r,_,_,rfl,⟨rfl,rfl⟩,Rd.str _ hl,?_,⟨λc=>?_,λc c' k' hc=>(un c k' hc).elim,λc k' hc=>(un c k' hc).elim⟩,IH.le_refl I,⟨hF.os,hF.tape,hF.output,hF.size,λk' hlt hm=>hF.block k' hlt λe=>hm ⟨1,?_⟩⟩,λc k' hc=>(un c k' hc).elim,λ_ _ _=>rfl,λ_ _=>rfl⟩
 ·exact hA.other λk1 c hc=>hF.block k1 (hA.lt hc) λe=>by rw[b.i1 k1 e.symm]at hc;cases hc
 ·match c with
  |0=>trivial
  |1=>trivial
  |c+2=>rw[DX (by simp)];exact hρ _ (by omega)
 ·exact b.own k' e.symm
end Go.Ab
end
section
namespace Go.Ab
open Go Go.Shelf Go.Proofs
variable {P:Program} {ρ:Go.Shelf.Ren}
theorem agq {I:IH} {w:World} (hT:Tabs P I) (hA:Agree I w) {g:Nat} (hg:P.globalNamed "internal/strconv.uint64pow10" = some g):Lib.TabIs P w "internal/strconv.uint64pow10" .u64 Go.Lib.pow10Tab:=by
 obtain⟨e,fr,h⟩:=hA g _ (hT.pow g hg);unfold Lib.TabIs World.var?;simp only[hg,Option.bind_some,h]
theorem aej (L:LaysM.n171 P ρ){n:Int}(h0 : -9223372036854775808<=n/\n<=9223372036854775807)(hl:(Go.Lib.itoa n).length<=maxLen){r:List UInt8}(hr:r=Go.Lib.itoa n) :
 dY P (ρ.f 171) [.one (.c (.lit (.int .i64 n)))] (.one (.c (.str r))):=by
 subst hr;intro I r w vs hT hA hB hG;obtain⟨a,rfl,ha⟩:=MV hG;cases ha;have hB':∀b,Ew [] b = .absent:=λb=>DX (aO _);refine(Any.strconv_Itoa L n h0.1 h0.2 w (agq hT hA L.m17)).mono ?_;rintro e w' ⟨rfl,k,os,rfl⟩;have hb:=Lib.below_grow w.heap.size w (ax _) k os;refine⟨_,I,r,_,_,rfl,⟨rfl,rfl⟩,Rd.str _ hl,hA.other λk1 c hc=>hb.block k1 (hA.lt hc),⟨λb=>?_,λb b' k hu=>?_,λb k hu=>?_⟩,IH.le_refl I,Ee hb _,λb k hu=>?_,λ_ _ _=>rfl,λ_ _=>rfl⟩
 ·have:=hB.ok b;rw[hB']at this⊢;exact this
 all_goals(rw[hB']at hu;exact hu.elim)
end Go.Ab
end
section
namespace Go.Ab
open Go Go.Shelf Go.Proofs Go.RowKit
variable {P:Program} {ρ:Go.Shelf.Ren}
theorem JJ {I:IH}{v:Value}{s:aK}(h:Rd I v (.str s)):v = .string ⟨⟨s⟩⟩/\s.length<=maxLen:=by
 cases h with
 |str l h=>exact⟨rfl,h⟩
theorem aeZ {I:IH}{w:World}(hA:Agree I w){v:Value}{l:List aK}(h:Rd I v (.sl 1 (l.map cS))):∃a len cap,v = .slice a len cap/\l.length=len/\len<=cap/\(0<len->∃b o,a=some ⟨b,o,none⟩/\b<w.heap.size/\∀j s,l[j]? = some s->w.cell? ⟨b,o+j,none⟩=some (.string ⟨⟨s⟩⟩)):=by
 cases h with
 | sl a len cap sz es u hlen hcap hmax hsz ha hcell hr=>
   rw[iE]at hlen;refine⟨a,len,cap,rfl,hlen,hcap,λh0=>?_⟩;obtain⟨ad,rfl⟩:∃ad,a=some ad:=by
    cases a with
    |none=>exact absurd rfl (ha h0)
    |some ad=>exact⟨ad,rfl⟩
   have h00:=hcell ad rfl 0 0 h0 (by omega);have hsp:ad.spot=none:=by
    unfold IH.cell at h00;split at h00
    ·cases h00
    ·rename_i hs;have:(ad.add (0*1+0)).spot=ad.spot:=rfl;rw[this]at hs;cases h:ad.spot with
     |none=>rfl
     |some x=>rw[h]at hs;simp at hs
   have hlt:ad.block<w.heap.size:=by have:=hA.cell h00;exact World.block_lt_of_cell? _ _ this
   refine⟨ad.block,ad.off,?_,hlt,λj s hj=>?_⟩
   ·cases ad;simp only at hsp;rw[hsp]
   ·obtain⟨hjl,rfl⟩:=bD.1 hj;have h1:=hA.cell (hcell ad rfl j 0 (by omega) (by omega));have h2:=hr j 0 (.str l[j]) (by simp[hjl,cS]);obtain⟨e,_⟩:=JJ h2;rw[e]at h1;have:ad.add (j*1+0)=⟨ad.block,ad.off+j,none⟩:=by cases ad;simp only at hsp;subst hsp;simp[xO]
    rw[this]at h1;exact h1
theorem aek (L:Lays.n156 P ρ)(X:Builder.Extra P ρ){l:List aK}{sep r:aK}(hN:l.length<=140737488355328)(hl:(uf l sep).length<=140737488355328)(hr:r=uf l sep) :
 dY P (ρ.f 156) [.one (.c (.sl 1 (l.map cS))),.one (.c (.str sep))] (.one (.c (.str r))):=by
 subst hr;intro I r w vs hT hA hB hG;obtain⟨a,b,rfl,ha,hb⟩:=MW hG;have hB':∀b,Ew [] b = .absent:=λb=>DX (aO _);have ha:Rd I a (.sl 1 (l.map cS)):=ha;obtain⟨e2,hs2⟩:=JJ (show Rd I b (.str sep)from hb);subst e2;obtain⟨ad,len,cap,rfl,hlen,hcap,hcells⟩:=aeZ hA ha;have hml:140737488355328<=maxLen:=by decide
 have key:Calls P (ρ.f 156) #[.slice ad len cap,.string ⟨⟨sep⟩⟩] w λe w'=>e = .returned (.string ⟨⟨uf l sep⟩⟩)/\Below w.heap.size w w':=by
  by_cases h0:0<len
  ·obtain⟨bk,o,rfl,hlt,hc⟩:=hcells h0;have:=Any.strings_Join L X bk o cap (l.map λs=>⟨⟨s⟩⟩) ⟨⟨sep⟩⟩ w (λj x hx=>by
    rw[fD]at hx;obtain⟨s,hs,rfl⟩:=Option.map_eq_some_iff.1 hx;exact hc j s hs) hlt (by rw[iE];omega) (by rw[iE];omega) (by rw[Ar];have:(l.map ((λx:ByteArray=>x.data.toList)∘λs=>⟨⟨s⟩⟩))=l:=(by simp[DF]);rw[this];exact hl)
   rw[iE,hlen,Ar]at this;have e:(l.map ((λx:ByteArray=>x.data.toList)∘λs=>⟨⟨s⟩⟩))=l:=(by simp[DF]);rw[e]at this;exact this
  ·have:len=0:=(by omega);subst this;have hnil:l=[]:=List.length_eq_zero_iff.1 hlen;subst hnil;refine(Any.strings_Join_none L X ad cap ⟨⟨sep⟩⟩ w).mono λe w' ⟨he,hw⟩=>⟨?_,hw▸Below.refl _ _⟩;rw[he];rfl
 refine key.mono ?_;rintro e w' ⟨rfl,hb⟩;refine⟨_,I,r,_,_,rfl,⟨rfl,rfl⟩,Rd.str _ (Nat.le_trans hl hml),hA.other λk1 c hc=>hb.block k1 (hA.lt hc),⟨λb=>?_,λb b' k hu=>?_,λb k hu=>?_⟩,IH.le_refl I,Ee hb _,λb k hu=>?_,λ_ _ _=>rfl,λ_ _=>rfl⟩
 ·have:=hB.ok b;rw[hB']at this⊢;exact this
 all_goals(rw[hB']at hu;exact hu.elim)
theorem TS (L:Lays.n99 P ρ){s p:aK}{r:Bool}(hr:r=Go.Lib.hasPrefix s p) :
 dY P (ρ.f 99) [.one (.c (.str s)),.one (.c (.str p))] (.one (.c (.lit (.bool r)))):=by
 subst hr;intro I r w vs hT hA hB hG;obtain⟨a,b,rfl,ha,hb⟩:=MW hG;have hB':∀b,Ew [] b = .absent:=λb=>DX (aO _);obtain⟨e1,_⟩:=JJ (show Rd I a (.str s)from ha);obtain⟨e2,_⟩:=JJ (show Rd I b (.str p)from hb);subst e1 e2;refine(Any.strings_HasPrefix L ⟨⟨s⟩⟩ ⟨⟨p⟩⟩ w).mono ?_;rintro e w' ⟨rfl,rfl⟩;have hb:=Below.refl w'.heap.size w';refine⟨_,I,r,_,_,rfl,⟨rfl,rfl⟩,Rd.lit _ rfl,hA,⟨λb=>?_,λb b' k hu=>?_,λb k hu=>?_⟩,IH.le_refl I,Ee hb _,λb k hu=>?_,λ_ _ _=>rfl,λ_ _=>rfl⟩
 ·have:=hB.ok b;rw[hB']at this⊢;exact this
 all_goals(rw[hB']at hu;exact hu.elim)
end Go.Ab
end
section
namespace Go.Ab
open Go Go.Shelf Go.Proofs Go.RowKit
variable {P:Program} {ρ:Go.Shelf.Ren}
def H7 (s:aK):Int×Bool:=match zn s with
 |.ok v=>(v,false)
 |.range=>(Lib.atoiSat s,true)
 | _=>(0,true)
theorem aei (L:LaysC.n172 P ρ){s:aK}{r:Int×Bool}(hl:s.length<=281474976710656)(hr:r=H7 s) :
 dY P (ρ.f 172) [.one (.c (.str s))] (.xg [(false,[.c (.lit (.int .i64 r.1))]),(false,[.err r.2])]):=by
 subst hr;intro I r w vs hT hA hB hG;obtain⟨a,rfl,ha⟩:=MV hG;have hB':∀b,Ew [] b = .absent:=λb=>DX (aO _);obtain⟨e1,_⟩:=JJ (show Rd I a (.str s)from ha);subst e1;obtain⟨v1,hv1,hi1⟩:=hT.ers _ L.m15;obtain⟨v2,hv2,hi2⟩:=hT.err _ L.m16;have key:Calls P (ρ.f 172) #[.string ⟨⟨s⟩⟩] w λe w'=>Below w.heap.size w w'/\∃v,e = .returned (.tuple #[.int .i64 (H7 s).1,v])/\GC I r v (.err (H7 s).2):=by
  unfold H7;cases h:zn s with
  | ok v=>
    refine(Any.strconv_Atoi_ok L ⟨⟨s⟩⟩ (by show s.length<=_;omega) v h w).mono ?_;rintro e w' ⟨rfl,hw⟩;refine⟨?_,_,rfl,rfl⟩;rcases hw with rfl|⟨t,rfl⟩
    ·exact Below.refl _ _
    ·exact Lib.bytesWorld_below _ _ _
  | range=>refine(Any.strconv_Atoi_range L ⟨⟨s⟩⟩ hl h v2 w (hA.cell hv2) hi2).mono ?_;rintro e w' ⟨N,rfl,_,_,hb⟩;exact⟨hb,_,rfl,_,_,rfl⟩
  | _=>refine(Any.strconv_Atoi_syntax L ⟨⟨s⟩⟩ hl h v1 w (hA.cell hv1) hi1).mono ?_;rintro e w' ⟨N,rfl,_,_,hb⟩;exact⟨hb,_,rfl,_,_,rfl⟩
 refine key.mono ?_;rintro e w' ⟨hb,v,rfl,hv⟩;refine⟨_,I,r,_,_,rfl,⟨rfl,rfl⟩,⟨_,rfl,rfl,λj x p hx hp=>?_⟩,hA.other λk1 c hc=>hb.block k1 (hA.lt hc),⟨λb=>?_,λb b' k hu=>?_,λb k hu=>?_⟩,IH.le_refl I,Ee hb _,λb k hu=>?_,λ_ _ _=>rfl,λ_ _=>rfl⟩
 ·match j with
  | 0=>simp at hx hp;subst hx hp;unfold GP;rw[if_neg (by simp)];exact⟨_,rfl,Rd.lit _ rfl⟩
  | 1=>simp at hx hp;subst hx hp;unfold GP;rw[if_neg (by simp)];exact⟨_,rfl,hv⟩
  |j+2=>simp at hp
 ·have:=hB.ok b;rw[hB']at this⊢;exact this
 all_goals(rw[hB']at hu;exact hu.elim)
theorem acd {I:IH}{r:Go.Ab.Ren}{vs:List Value}{x y z:AV}(h:Xq I r vs [x,y,z]):∃a b c,vs=[a,b,c]/\GV I r a x/\GV I r b y/\GV I r c z:=by
 obtain⟨hl,hv⟩:=h
 match vs,hl with
 |[a,b,c],_=>exact⟨a,b,c,rfl,hv 0 a x rfl rfl,hv 1 b y rfl rfl,hv 2 c z rfl rfl⟩
theorem NR (sep:ByteArray)(save:Nat):∀(k:Nat) (s x:ByteArray),x∈CP sep save k s->x.size<=s.size
 | 0,s,x,h=>by rw[Lib.splitB_zero]at h;rw[bJ.1 h];exact ax _
 | k+1,s,x,h=>by
   unfold CP at h;split at h
   ·rw[bJ.1 h];exact ax _
   ·rcases cu.1 h with e|e
    ·rw[e,qK];omega
    ·have:=NR sep save k _ x e;rw[qK]at this;omega
theorem ZH (w:World)(o:Obj):(w.alloc o).heap[w.heap.size]? = some o:=by show(w.heap.push o)[w.heap.size]? = some o;simp
def IH.add (I:IH)(k:Nat)(cs:Array Value):IH:=λb=>if b=k then some cs else I b
theorem ZF (L:Lays.n147 P ρ)(hi9:(P.info? (ρ.t 9)).map (λi=>(i.zero,i.size,i.bytes))=some (some (.string vF),1,16)){s sep:aK}{n:Int}{r:List aK}
 (hs:s.length<4294967281) (h1:1<=sep.length) (hn:1<=n) (hn63:n<=1000000) (hg:P.globalNamed "internal/bytealg.MaxLen" = some (ρ.g 1)) (hr:r=oK sep 0 (min n.toNat (s.length+1)-1) s) :
 dY P (ρ.f 147) [.one (.c (.str s)),.one (.c (.str sep)),.one (.c (.lit (.int .i64 n)))] (.one (.c (.sl 1 (r.map cS)))):=by
 subst hr;intro I r w vs hT hA hB hG;obtain⟨a,b,c,rfl,ha,hb,hc⟩:=acd hG;have hB':∀b,Ew [] b = .absent:=λb=>DX (aO _);obtain⟨e1,_⟩:=JJ (show Rd I a (.str s)from ha);obtain⟨e2,_⟩:=JJ (show Rd I b (.str sep)from hb);have e3:c = .int .i64 n:=yc hc;subst e1 e2 e3;obtain⟨m,hm⟩:=hT.mxl _ hg;obtain⟨k,rfl⟩:∃k:Nat,n=k:=⟨n.toNat,by omega⟩;have hS:=Any.strings_SplitN L hi9 ⟨⟨s⟩⟩ ⟨⟨sep⟩⟩ k m w hs (hA.cell hm) h1 (by omega) (by omega);refine hS.mono ?_;rintro e w' ⟨rfl,rfl⟩;rw[show(⟨⟨s⟩⟩:ByteArray).size=s.length from rfl];have hK:=Lib.splitB_data ⟨⟨sep⟩⟩ 0 (min k (s.length+1)-1) ⟨⟨s⟩⟩;have hle:=Lib.splitB_length_le ⟨⟨sep⟩⟩ 0 (min k (s.length+1)-1) ⟨⟨s⟩⟩;have hK:(CP ⟨⟨sep⟩⟩ 0 (min k (s.length+1)-1) ⟨⟨s⟩⟩).map (·.data.toList)=oK sep 0 (min k (s.length+1)-1) s:=hK;rw[Int.toNat_natCast,<- hK];have ahE:=NR ⟨⟨sep⟩⟩ 0 (min k (s.length+1)-1) ⟨⟨s⟩⟩;generalize CP ⟨⟨sep⟩⟩ 0 (min k (s.length+1)-1) ⟨⟨s⟩⟩=l at *;have hI:I w.heap.size=none:=by
  cases h:I w.heap.size with
  |none=>rfl
  |some c=>exact absurd (hA.lt h) (Nat.lt_irrefl _)
 have hile:I.le (I.add w.heap.size (ET l (min k (s.length+1)))):=λb c hc=>by
  unfold IH.add;by_cases h:b=w.heap.size
  ·rw[h,hI]at hc;cases hc
  ·rw[if_neg h];exact hc
 have hml:4294967281<=maxLen:=by decide
 refine⟨_,I.add w.heap.size (ET l (min k (s.length+1))),r,_,_,rfl,⟨rfl,rfl⟩,?_,?_,⟨λb=>?_,λb b' k hu=>?_,λb k hu=>?_⟩,hile,Ee ((Below.refl _ w).alloc (ax _) _) _,λb k hu=>?_,λk1 hk _=>?_,λ_ _=>rfl⟩
 ·refine Rd.sl (some ⟨w.heap.size,0,none⟩) l.length (min k (s.length+1)) 1 _ (λi _=>.string (l.getD i vF)) (by simp) (by omega) (by omega) (λe he=>?_) (λ_ h=>by cases h) (λad had i j hi hj=>?_) (λi j c hc=>?_)
  ·obtain⟨x,_,rfl⟩:=pI.1 he;rfl
  ·cases had;have e:(⟨w.heap.size,0,none⟩:Addr).add (i*1+j)=⟨w.heap.size,i,none⟩:=by
    have:i*1+j=i:=(by omega);rw[this];by_cases h0:i=0
    ·subst h0;rfl
    ·simp[xO,h0]
   rw[e];unfold IH.cell IH.add;simp only[if_true];unfold ET;rw[if_neg (by simp)];simp only[List.getElem?_toArray];rw[gm (by simpa using hi),fD];simp[bu,hi]
  ·rw[Ar]at hc;by_cases hi:i<l.length
   ·have e1:((l.map (cS∘λx:ByteArray=>x.data.toList)).getD i [])=cS (l[i]).data.toList:=(by simp[bu,hi]);rw[e1]at hc
    match j with
    | 0=>simp[cS]at hc;subst hc;have e2:l.getD i vF=⟨⟨(l[i]).data.toList⟩⟩:=(by simp[bu,hi]);rw[e2];refine Rd.str _ ?_;have:=ahE l[i] (dJ hi);have h3:(l[i]).data.toList.length=(l[i]).size:=rfl;have h4:(⟨⟨s⟩⟩:ByteArray).size=s.length:=rfl;omega
    |j+1=>simp[cS]at hc
   ·have:((l.map (cS∘λx:ByteArray=>x.data.toList)).getD i [])=[]:=(by simp[bu,pg (by simpa using hi:(l.map _).length<=i)]);rw[this]at hc;simp at hc
 ·intro b c hc;unfold IH.add at hc;by_cases h:b=w.heap.size
  ·rw[if_pos h]at hc;cases hc;subst h;exact⟨_,_,ZH w _⟩
  ·rw[if_neg h]at hc;obtain⟨e,fr,hw⟩:=hA b c hc;exact⟨e,fr,(Below.heap_alloc _ _ _ (hA.lt hc)).trans hw⟩
 ·have:=hB.ok b;rw[hB']at this⊢;exact this
 ·rw[hB']at hu;exact hu.elim
 ·rw[hB']at hu;exact hu.elim
 ·rw[hB']at hu;exact hu.elim
 ·unfold IH.add;rw[if_neg (by omega)]
end Go.Ab
end
namespace Go.Ab
open Go
def Dj : aK->List aK
 |[]=>[[]]
 | b::r=>if b=44 then []::Dj r else match Dj r with
   |[]=>[[b]]
   |x::xs=>(b::x)::xs
def ahH (b:UInt8):Bool:=(decide (48<=b.toNat)&&decide (b.toNat<=57))||(decide (97<=b.toNat)&&decide (b.toNat<=102))
def IV (s:aK):Bool:=s.all ahH&&decide (s.length=4)
def Pm (sv:aK->Bool)(x:aK):Option aK:=
 if x=[42]then some x else if x.length=6/\x.getD 0 0=34/\x.getD 5 0=34/\sv ((x.drop 1).take 4)=true then some ((x.drop 1).take 4)else none
def colS (sv:aK->Bool)(acc:Option (List aK))(x:aK):Option (List aK):=acc.bind λl=>if l.length=4 then none else(Pm sv x).map λy=>l++[y]
def aet (sv:aK->Bool)(ws:List aK):Option (List aK):=ws.foldl (colS sv) (some [])
def U3 (sv:aK->Bool)(s:aK):List aK×Bool:=if s=[]then([],true)else match aet sv (Dj s)with
 |some l=>(l,true)
 |none=>([],false)
end Go.Ab
