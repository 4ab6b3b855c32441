/- What abstract values, states and codes of the program's language mean, and that they are sound (part 2). No conditions. -/
import Derived.Test.YtcoolhkhnglfgaaGreatDoorY1
set_option linter.unusedVariables false
set_option linter.unusedSimpArgs false
open Array renaming getElem?_modify->AP,replicate->DZ,getElem?_eq_some_iff->oq,getD_eq_getD_getElem?->pM,empty_append->sF
open Bool renaming and_eq_true->ah,or_eq_true->iJ,not_eq_true'->xk
open ByteArray renaming mk->Cb,size_extract->pX,empty->uD
open Function renaming comp_def->CJ
open Go.Addr renaming add->vg
open Go.Builtin renaming zeroCells->bH,append_->jB
open Go.IntKind renaming wrap->af
open Go.Lib renaming frozen_of_heap->AU,splitB->BG,cellsOf->Ee,byteCells->bV,cell_of_heap->lK,byteCells_length->mJ,splitK->oG,join->sH,alloc_old->xJ,atoiAll->yI
open Go.Region renaming ready->Az
open Go.Result renaming andThen_ok->dD
open Go.Sem renaming run_pure->fM,run_bind->gG
open Go.Value renaming int->lY,ownBlock->tC
open Go.World renaming shape?->AA,cell?->oQ,setCell->uj
open List renaming drop_eq_nil_of_le->Ap,mem_filter->D7,getElem?_eq_getElem->aB,take_of_length_le->aF,mem_append->aW,map->ag,drop_of_length_le->ak,length_append->ay,flatMap_cons->bF,map_cons->bJ,mem_singleton->bM,replicate->bU,all_eq_true->bg,getElem?_eq_some_iff->bn,getD->bu,mem_cons_self->bz,mem_cons->cO,mem_cons_of_mem->dF,all_cons->dJ,getElem_mem->dO,getElem?_append_left->dU,append_nil->eX,getElem?_append_right->fF,getElem?_map->fQ,length_nil->gI,nil_append->gJ,length->kE,length_map->kJ,map_nil->kM,drop->mM,mem_append_left->mO,length_pos_iff->mZ,getElem?_eq_none->nG,map_toArray->nS,take_append_of_le_length->o5,mem_map->oZ,contains_iff_mem->uY,pairwise_cons->wJ,getElem_of_mem->yD,pairwise_iff_getElem->yZ,map_map->zL
open Nat renaming le_of_not_lt->Af,zero_mul->Cf,zero_le->aN,le_refl->au,zero_add->kD,mul_one->vw,add_comm->zO,lt_trichotomy->zy
open Option.some renaming injEq->aJ
open Prod.mk renaming injEq->aI
open UInt8 renaming ofNat->dR
namespace Go.Ab
open Go
section
section
variable {P:Program} {st st':iy}
theorem IP {a b:List Nat} : Kt a b=true<->∀x,x∈a->x ∉ b:=by simp[Kt,bg]
def J7 (x y:mQ):Bool:=
 Kt x.d.toList y.slots&&Kt y.d.toList x.slots&&Kt x.d.toList y.d.toList&&(x.abI||y.abI)
def app (x:mQ)(st:iy)(s:Slot)(bs:List (Nat×Box)):iy:=(st.sS bs).zU x.d s
theorem J9 {x:mQ}{s:Slot}{bs:List (Nat×Box)}{t:Nat}(h:t ∉ x.d.toList):(app x st s bs).tm t=st.tm t:=by
 unfold app;cases hd:x.d with
 |none=>simp only[iy.zU,MO]
 | some d=>simp only[iy.zU,iy.Qv,MO];rw[if_neg];intro e;subst e;exact h (by simp[hd])
theorem MJ (st:iy)(d:Option Nat)(s:Slot):(st.zU d s).bx=st.bx:=by cases d<;>rfl
theorem J8 {x:mQ}{s:Slot}{bs:List (Nat×Box)}{b:Nat}(h:b ∉ bs.map (·.1)):(app x st s bs).bx b=st.bx b:=by unfold app;rw[MJ,Je _ _ h]
theorem QA (l:List (Nat×Box)){st st':iy}{b:Nat}(h:st.bx b=st'.bx b):(st.sS l).bx b=(st'.sS l).bx b:=by
 induction l generalizing st st' with
 |nil=>exact h
 | cons x l ih=>
   obtain⟨c,y⟩:=x;simp only[iy.sS];apply ih;simp only[iy.qH];split
   ·rfl
   ·exact h
theorem Jd (l:List (Nat×Box)){st st':iy}{b:Nat}(h:b∈l.map (·.1)):(st.sS l).bx b=(st'.sS l).bx b:=by
 induction l generalizing st st' with
 |nil=>simp at h
 | cons x l ih=>
   obtain⟨c,y⟩:=x;simp only[iy.sS];by_cases hc:b=c
   ·apply QA;simp[iy.qH,hc]
   ·simp only[bJ,cO]at h;exact ih (h.resolve_left hc)
theorem UZ {x y:mQ}{s s':Slot}{bs bs':List (Nat×Box)}(hd:Kt x.d.toList y.d.toList=true)(hb:∀b,b∈bs.map (·.1)->b ∉ bs'.map (·.1)) :
 app y (app x st s bs) s' bs'=app x (app y st s' bs') s bs:=by
 rw[IP]at hd;apply iy.ext'
 ·funext t
  by_cases h1:t∈x.d.toList
  ·have h2:=hd t h1;rw[J9 h2];cases hx:x.d with
   |none=>rw[hx]at h1;simp at h1
   | some d=>rw[hx]at h1;simp at h1;subst h1;simp[app,hx,iy.zU,iy.Qv]
  ·rw[J9 (x:=x) h1];by_cases h2:t∈y.d.toList
   ·cases hy:y.d with
    |none=>rw[hy]at h2;simp at h2
    | some d=>rw[hy]at h2;simp at h2;subst h2;simp[app,hy,iy.zU,iy.Qv]
   ·rw[J9 h2,J9 h2,J9 h1]
 ·funext b
  by_cases h1:b∈bs.map (·.1)
  ·rw[J8 (hb b h1)];unfold app;rw[MJ,MJ];exact Jd _ h1
  ·rw[J8 (x:=x) h1];by_cases h2:b∈bs'.map (·.1)
   ·unfold app;rw[MJ,MJ];exact Jd _ h2
   ·rw[J8 h2,J8 h2,J8 h1]
def apartB (rd wr rd' wr':List Nat):Bool:=Kt wr' rd&&Kt wr' wr&&Kt rd' wr
theorem Nj.skip {x y:mQ}{D Dx:Pg}(h:Nj P y st D)(hx:Nj P x st Dx)(hs:Kt x.d.toList y.slots=true)(hb:∀b,b∈Dx.wr->b ∉ D.rd){s:Slot}{bs:List (Nat×Box)}(ho:Dx.outs s bs):Nj P y (app x st s bs) D:=
 h.local (λt ht=>(J9 λhd=>(IP.1 hs) t hd ht).symm) (λb hr=>(J8 λhm=>hb b (hx.fst ho b hm) hr).symm)
theorem Nj.X0 {x y:mQ}{D Dx:Pg}{s:Slot}{bs:List (Nat×Box)}(h:Nj P y (app x st s bs) D)(hx:Nj P x st Dx)(hs:Kt x.d.toList y.slots=true)(hb:∀b,b∈Dx.wr->b ∉ D.rd)(ho:Dx.outs s bs):Nj P y st D:=
 h.local (λt ht=>J9 λhd=>(IP.1 hs) t hd ht) (λb hr=>J8 λhm=>hb b (hx.fst ho b hm) hr)
theorem IJ {rd wr rd' wr':List Nat}(h:apartB rd wr rd' wr'=true):(∀b,b∈wr->b ∉ rd')/\(∀b,b∈wr'->b ∉ rd)/\(∀b,b∈wr->b ∉ wr'):=by simp only[apartB,ah,IP]at h;exact⟨λb h1 h2=>h.2 b h2 h1,h.1.1,λb h1 h2=>h.1.2 b h2 h1⟩
theorem aeZ {x y:mQ}(hap:J7 x y=true){K:List Nat->List Nat->List Nat->List Nat->iy->Prop}
 (h:T P x st λrd wr st1=>T P y st1 λrd' wr' st2=>apartB rd wr rd' wr'=true/\K rd wr rd' wr' st2) :
 T P y st λrd' wr' st2=>T P x st2 λrd wr st1=>apartB rd wr rd' wr'=true/\K rd wr rd' wr' st1:=by
 simp only[J7,ah,iJ]at hap;obtain⟨⟨⟨h1,h2⟩,h3⟩,h4⟩:=hap;rw[Ij]at h;obtain⟨Dx,hDx,h⟩:=h;rcases h4 with h4|h4
 ·
  obtain⟨s,bs,ho⟩:=hDx.ne;have hT:=h s bs ho;rw[Ij]at hT;obtain⟨Dy,hDy,hk⟩:=hT;obtain⟨s',bs',ho'⟩:=hDy.ne;obtain⟨a1,a2,a3⟩:=IJ (hk s' bs' ho').1;have VB:Nj P y st Dy:=Nj.X0 hDy hDx h1 a1 ho;rw[Ij];refine⟨Dy,VB,λs' bs' ho'=>?_⟩;rw[Ij];refine⟨Dx,hDx.skip VB h2 a2 ho',λs1 bs1 ho1=>?_⟩;have hT:=h s1 bs1 ho1;rw[Ij]at hT;obtain⟨Dy1,afh,hk1⟩:=hT;have hsame:s1=s/\bs1=bs:=by
   obtain⟨_,hD⟩:=hDx;unfold mQ.abI at h4;split at h4
   ·rename_i op hi;rw[hi]at hD;cases hp:uI st.tm x.g with
    |true=>obtain⟨_,_,rfl⟩:=hD.1 hp;exact⟨ho1.1.trans ho.1.symm,ho1.2.trans ho.2.symm⟩
    |false=>have:=hD.2 hp;subst this;exact⟨ho1.1.trans ho.1.symm,ho1.2.trans ho.2.symm⟩
   ·cases h4
  obtain⟨rfl,rfl⟩:=hsame;have:=hk s' bs' ho';show _/\K _ _ _ _ (app x (app y st s' bs') s1 bs1);rw[<- UZ h3 (λb hb hb'=>a3 b (hDx.fst ho b hb) (VB.fst ho' b hb'))];exact this
 ·
  obtain⟨s,bs,ho⟩:=hDx.ne;have hT:=h s bs ho;rw[Ij]at hT;obtain⟨Dy,hDy,hk⟩:=hT;obtain⟨s',bs',ho'⟩:=hDy.ne;obtain⟨a1,a2,a3⟩:=IJ (hk s' bs' ho').1;have VB:Nj P y st Dy:=Nj.X0 hDy hDx h1 a1 ho;rw[Ij];refine⟨Dy,VB,λs' bs' ho'=>?_⟩;rw[Ij];refine⟨Dx,hDx.skip VB h2 a2 ho',λs1 bs1 ho1=>?_⟩;have hT:=h s1 bs1 ho1;rw[Ij]at hT;obtain⟨Dy1,afh,hk1⟩:=hT;have hsame:Dy1=Dy:=by obtain⟨s2,bs2,ho2⟩:=afh.ne;obtain⟨b1,_,_⟩:=IJ (hk1 s2 bs2 ho2).1;exact Nj.det h4 (Nj.X0 afh hDx h1 b1 ho1) VB
  subst hsame;have:=hk1 s' bs' ho';show _/\K _ _ _ _ (app x (app y st s' bs') s1 bs1);rw[<- UZ h3 (λb hb hb'=>a3 b (hDx.fst ho1 b hb) (VB.fst ho' b hb'))];exact this
theorem Nq {x:mQ}{K K':List Nat->List Nat->iy->Prop}(hk:∀rd wr st,K rd wr st->K' rd wr st)(h:T P x st K):T P x st K':=by rw[Ij]at h⊢;obtain⟨D,hD,h⟩:=h;exact⟨D,hD,λs bs ho=>hk _ _ _ (h s bs ho)⟩
abbrev Log :=List (Nat×List Nat×List Nat)
theorem GR {Il rd wr:List Nat}{log:Log} : zF Il rd wr log=true<->∀e,e∈log->e.1∈Il\/apartB e.2.1 e.2.2 rd wr=true:=by
 induction log with
 |nil=>simp[zF]
 | cons e l ih=>obtain⟨j,r,w⟩:=e;simp only[zF,ah,iJ,ih,cO,forall_eq_or_imp,apartB,uY]
structure FU where
 i:Nat
 o:mQ
 Il:List Nat
def wpI (P:Program):List FU->Log->iy->(iy->Prop)->Prop
 |[],_,st,K=>K st
 |x::r,log,st,K=>T P x.o st λrd wr st'=>zF x.Il rd wr log=true/\wpI P r ((x.i,rd,wr)::log) st' K
theorem YL {K:iy->Prop} : ∀{l:List FU} {log afs:Log} {st:iy},(∀e,e∈afs->e∈log)->wpI P l log st K->wpI P l afs st K
 |[],_,_,_,_,h=>h
 | x::r,log,afs,st,hl,h=>by
   refine Nq (λrd wr st' hk=>⟨?_,YL (l:=r) ?_ hk.2⟩) h
   ·rw[GR]at hk⊢;exact λe he=>hk.1 e (hl e he)
   ·intro e he;rcases cO.1 he with rfl|he
    ·exact bz ..
    ·exact dF _ (hl e he)
theorem Sv {K:iy->Prop}{x:FU}{post:List FU} : ∀{pre:List FU} {log:Log} {st:iy},(∀p,p∈pre->p.i ∉ x.Il/\J7 p.o x.o=true)->wpI P (pre++x::post) log st K->wpI P (x::(pre++post)) log st K
 |[],_,_,_,h=>h
 | p::pre,log,st,hp,h=>by
   obtain⟨hn,hap⟩:=hp p (bz ..);have h1:T P p.o st λrd wr st1=>T P x.o st1 λrd' wr' st2=>apartB rd wr rd' wr'=true /\
    (zF p.Il rd wr log=true/\zF x.Il rd' wr' log=true/\wpI P (pre++post) ((x.i,rd',wr')::(p.i,rd,wr)::log) st2 K):=by
    refine Nq (λrd wr st1 hk=>?_) h;have h2:=Sv (pre:=pre) (λq hq=>hp q (dF _ hq)) hk.2;refine Nq (λrd' wr' st2 hk2=>?_) h2;have agc:=GR.1 hk2.1;refine⟨(agc (p.i,rd,wr) (bz ..)).resolve_left hn,hk.1,GR.2 λe he=>agc e (dF _ he),hk2.2⟩
   refine Nq (λrd' wr' st2 hk=>?_) (aeZ hap h1);rw[Ij]at hk;obtain⟨D,hD,hk⟩:=hk;refine⟨?_,?_⟩
   ·obtain⟨s,bs,ho⟩:=hD.ne;exact(hk s bs ho).2.2.1
   ·show T P p.o st2 _;rw[Ij];refine⟨D,hD,λs bs ho=>?_⟩;obtain⟨k1,k2,k3,k4⟩:=hk s bs ho;refine⟨GR.2 λe he=>?_,YL ?_ k4⟩
    ·rcases cO.1 he with rfl|he
     ·right
      simp only[apartB,ah,IP]at k1⊢;exact⟨⟨λb h1 h2=>k1.2 b h2 h1,λb h1 h2=>k1.1.2 b h2 h1⟩,λb h1 h2=>k1.1.1 b h2 h1⟩
     ·exact GR.1 k2 e he
    ·intro e he;simp only[cO]at he⊢;rcases he with h|h|h
     ·exact .inr (.inl h)
     ·exact .inl h
     ·exact .inr (.inr h)
end
end
section
section
variable {P:Program} {E:Env P} {n:Nat} {ops:Array Oper} {Q:Exit->Act->World->Prop}
def TA (P:Program)(n m:Nat)(ops:Array Oper):List Oper->List mQ->Bool
 |[],[]=>true
 |o::os,x::xs=>OY P n m ops o x&&TA P n m ops os xs
 |_,_=>false
theorem Qw (hm:E.m<=10):∀{os:List Oper} {xs:List mQ} {K:iy->Prop} {a:Act} {w:World},TA P n E.m ops os xs=true->AK E n (λst=>wpOps P xs st K) a w ->
 (∀a w,AK E n K a w->Q .normal a w)->wpList P ops Q os a w
 |[],[],K,a,w,_,h,hq=>hq a w h
 | o::os,x::xs,K,a,w,hc,h,hq=>by
   simp only[TA,ah]at hc;obtain⟨I,ρ,st,hT,hg⟩:=h;have h1:=X7 (Q:=Q) (ops:=ops) hg hm hc.1 (show T P x st λ_ _ st'=>wpOps P xs st' K from hT);unfold UH at h1;unfold wpList;have key:∀a w,AK E n (λst=>∃rd wr:List Nat,wpOps P xs st K) a w->wpList P ops Q os a w:=λa w hk=>Qw hm hc.2 (hk.imp λst ⟨_,_,h⟩=>h) hq;split
   ·rename_i hw;rw[if_pos hw]at h1;exact h1.imp (Oper.wp_mono key) id
   ·rename_i hw;rw[if_neg hw]at h1;exact key _ _ h1
 |[],_::_,_,_,_,hc,_,_=>by cases hc
 |_::_,[],_,_,_,hc,_,_=>by cases hc
def items : List (mQ×List Nat)->Nat->List FU
 |[],_=>[]
 |(o,Il)::r,i=>⟨i,o,Il⟩::items r (i+1)
theorem ac3 {K:iy->Prop} : ∀{l:List (mQ×List Nat)} {i:Nat} {log:Log} {st:iy},wpD P l i log st K=wpI P (items l i) log st K
 |[],_,_,_=>rfl
 | (o,Il)::r,i,log,st=>by
   simp only[wpD,items,wpI]
   congr 1
   funext rd wr st'
   rw[ac3 (l:=r)]
def W9 (L:List FU)(o:Oper)(x:FU):Bool:=
 x.Il.all (λj=>o.after.toList.any λe=>Region.binds .any e&&(e.on==j||L.any λy=>y.i==e.on&&y.Il.contains j)) &&
 o.after.toList.all (λe=> !Region.binds .any e||decide (e.on<x.i))
def Ll : List FU->Bool
 |[]=>true
 |x::r=>r.all (λy=>y.Il.contains x.i||J7 x.o y.o)&&Ll r
def Tt (P:Program)(n m:Nat)(ops:Array Oper)(L:List FU)(x:FU):Bool:=
 match ops[x.i]? with
 |some o=>OY P n m ops o x.o&&W9 L o x
 |none=>false
def Vd (P:Program)(n m:Nat)(ops:Array Oper)(l:List (mQ×List Nat)):Bool:=
 l.length==ops.size&&(items l 0).all (Tt P n m ops (items l 0))&&Ll (items l 0)
theorem Qi : ∀{l:List (mQ×List Nat)} {i:Nat},(∀x,x∈items l i->i<=x.i/\x.i<i+l.length)/\(items l i).Pairwise (λx y=>x.i<y.i)/\(∀j,j<l.length->∃x,x∈items l i/\x.i=i+j)
 |[],i=>⟨λx hx=>by simp[items]at hx,.nil,λj hj=>by simp at hj⟩
 | (o,Il)::r,i=>by
   obtain⟨h1,h2,h3⟩:=Qi (l:=r) (i:=i+1);simp only[items,List.length_cons];refine⟨λx hx=>?_,wJ.2 ⟨λy hy=>?_,h2⟩,λj hj=>?_⟩
   ·rcases cO.1 hx with rfl|hx
    ·exact⟨au _,by simp⟩
    ·have:=h1 x hx;omega
   ·have:=(h1 y hy).1;show i<y.i;omega
   ·cases j with
    |zero=>exact⟨_,bz ..,rfl⟩
    | succ j=>obtain⟨x,hx,he⟩:=h3 j (by omega);exact⟨x,dF _ hx,by omega⟩
theorem Om : ∀{l:List FU},Ll l=true->l.Pairwise λx y=>x.i∈y.Il\/J7 x.o y.o=true
 |[],_=>.nil
 | x::r,h=>by simp only[Ll,ah,bg,iJ,uY]at h;exact wJ.2 ⟨h.1,Om h.2⟩
theorem adQ {l:Array Bool}{i:Nat}(h:l.getD i true=false):l.getD i false=false:=by
 simp only[pM]at *;cases hh:l[i]? with
 |none=>rw[hh]at h;cases h
 |some b=>rw[hh]at h;simpa using h
theorem Y2 (hm:E.m<=10){L:List (mQ×List Nat)}(hc:Vd P n E.m ops L=true){K:iy->Prop}(hq:∀a w,AK E n K a w->Q .normal a w) :
 ∀ (fuel:Nat) (l:List FU) (listed:Array Bool) (log:Log) (a:Act) (w:World),l.length<=fuel->l.Sublist (items L 0)->listed.size=ops.size ->
   (∀x,x∈items L 0->(listed.getD x.i true=false<->x∈l)) ->
   (∀x,x∈items L 0->listed.getD x.i false=true->∀j,j∈x.Il->listed.getD j false=true) ->
   AK E n (λst=>wpI P l log st K) a w->wpAny P .any ops Q fuel listed a w:=by
 simp only[Vd,ah,beq_iff_eq,bg]at hc;obtain⟨⟨hlen,hit⟩,hap⟩:=hc;obtain⟨i1,i2,i3⟩:=Qi (l:=L) (i:=0);have hpw:(items L 0).Pairwise λx y=>x.i<y.i/\(x.i∈y.Il\/J7 x.o y.o=true):=i2.and (Om hap);have aeH:∀x y,x∈items L 0->y∈items L 0->x.i=y.i->x=y:=by
  intro x y hx hy e;obtain⟨p,hp,rfl⟩:=yD hx;obtain⟨q,hq',rfl⟩:=yD hy;have agf:=yZ.1 i2;rcases zy p q with h|h|h
  ·have:=agf p q hp hq' h;omega
  ·subst h;rfl
  ·have:=agf q p hq' hp h;omega
 have afn:∀(l:List FU) (listed:Array Bool),l.Sublist (items L 0)->listed.size=ops.size->(∀x,x∈items L 0->(listed.getD x.i true=false<->x∈l))->Az .any ops listed=[]->l=[]:=by
  intro l listed hsub hsz hl hr;cases l with
  |nil=>rfl
  | cons x r=>
    exfalso;have hx:=hsub.subset (bz ..);have hc:=hit x hx;unfold Tt at hc;cases ho:ops[x.i]? with
    |none=>rw[ho]at hc;cases hc
    | some o=>
      rw[ho]at hc;simp only[ah,W9,bg,iJ,xk,decide_eq_true_eq]at hc;have:x.i∈Az .any ops listed:=by
       rw[mem_ready];refine⟨(hl x hx).2 (bz ..),o,ho,λe he hb=>?_⟩;have hlt:=(hc.2.2 e (by simpa using he)).resolve_left (by rw[hb];simp);have hxi:=i1 x hx;obtain⟨y,hy,hye⟩:=i3 e.on (by omega);have hye:y.i=e.on:=(by omega);by_cases hyl:y∈x::r
       ·exfalso;rcases cO.1 hyl with rfl|hyr
        ·omega
        ·have:=(wJ.1 (i2.sublist hsub)).1 y hyr;omega
       ·have h1:¬listed.getD y.i true=false:=λh=>hyl ((hl y hy).1 h);have hin:y.i<listed.size:=(by rw[hsz,<- hlen];have:=i1 y hy;omega);rw[<- hye];simp only[pM,Array.getElem?_eq_getElem hin,Option.getD_some]at h1⊢;simpa using h1
      rw[hr]at this;cases this
 intro fuel
 induction fuel with
 | zero=>
   intro l listed log a w hf hsub hsz hl _ h;have:l=[]:=List.length_eq_zero_iff.1 (by omega);subst this;refine⟨?_,hq a w h⟩;cases hr:Az .any ops listed with
   |nil=>rfl
   | cons i r=>exfalso;have hi:i∈Az .any ops listed:=(by rw[hr];exact bz ..);obtain⟨hu,o,ho,_⟩:=mem_ready.1 hi;have hlt:=(oq.1 ho).1;obtain⟨y,hy,hye⟩:=i3 i (by omega);have hye:y.i=i:=(by omega);have:=(hl y hy).1 (by rw[hye];exact hu);cases this
 | succ fuel ih=>
   intro l listed log a w hf hsub hsz hl hdown h;refine⟨λhr=>?_,λi hi=>?_⟩
   ·have:=afn l listed hsub hsz hl hr;subst this;exact hq a w h
   ·obtain⟨hu,o,ho,hall⟩:=mem_ready.1 hi;have hlt:=(oq.1 ho).1;obtain⟨x,hx,hxe⟩:=i3 i (by omega);have hxe:x.i=i:=(by omega);subst hxe;have hxl:=(hl x hx).1 hu;have hcx:=hit x hx;unfold Tt at hcx;rw[ho]at hcx;simp only[ah]at hcx;obtain⟨hco,hca⟩:=hcx;have haft:∀j,j∈x.Il->listed.getD j false=true:=by
     intro j hj;simp only[W9,ah,bg,List.any_eq_true,iJ,beq_iff_eq]at hca;obtain⟨e,he,hb,hej⟩:=hca.1 j hj;have hel:=hall e (by simpa using he) hb;rcases hej with rfl|⟨y,hy,hye,hyj⟩
     ·exact hel
     ·rw[<- hye]at hel;exact hdown y hy hel j (by simpa using hyj)
    obtain⟨pre,post,rfl⟩:=List.append_of_mem hxl;have adY:=hpw.sublist hsub;rw[List.pairwise_append]at adY;have hpre:∀p,p∈pre->p.i ∉ x.Il/\J7 p.o x.o=true:=by
     intro p hp;have h1:=adY.2.2 p hp x (bz ..);have hn:p.i ∉ x.Il:=by intro hm';have h2:=haft _ hm';have h3:=(hl p (hsub.subset (mO _ hp))).2 (mO _ hp);rw[adQ h3]at h2;cases h2
     exact⟨hn,h1.2.resolve_left hn⟩
    obtain⟨I,ρ,st,hT,hg⟩:=h;have hT:=Sv hpre hT;have h1:=X7 (Q:=Q) (ops:=ops) hg hm hco (show T P x.o st λrd wr st'=>zF x.Il rd wr log=true/\wpI P (pre++post) ((x.i,rd,wr)::log) st' K from hT);have key:∀a w,AK E n (λst=>∃rd wr,zF x.Il rd wr log=true/\wpI P (pre++post) ((x.i,rd,wr)::log) st K) a w->wpAny P .any ops Q fuel (listed.setIfInBounds x.i true) a w:=by
     rintro a w ⟨I,ρ,st,⟨rd,wr,_,hk⟩,hg⟩;have hnx:x ∉ pre++post:=by
      intro hxm;rcases aW.1 hxm with h|h
      ·have:=(adY.2.2 x h x (bz ..)).1;omega
      ·have:=((wJ.1 adY.2.1).1 x h).1;omega
     refine ih (pre++post) _ ((x.i,rd,wr)::log) a w (by simp at hf⊢;omega) ?_ (by simp[hsz]) ?_ ?_ ⟨I,ρ,st,hk,hg⟩
     ·exact(List.Sublist.append_left (List.sublist_cons_self x post) pre).trans hsub
     ·intro y hy;by_cases hyx:y=x
      ·subst hyx;constructor
       ·intro h;have hin:y.i<listed.size:=(by rw[hsz];exact hlt);simp[hin]at h
       ·intro h;exact absurd h hnx
      ·have hne:x.i≠y.i:=λe=>hyx (aeH y x hy hx e.symm);rw[getD_set_ne true hne,hl y hy];simp only[aW,cO,hyx,false_or]
     ·intro y hy hyl j hj;by_cases hyx:y=x
      ·subst hyx;exact getD_set_true (haft j hj)
      ·have hne:x.i≠y.i:=λe=>hyx (aeH y x hy hx e.symm);rw[getD_set_ne false hne]at hyl;exact getD_set_true (hdown y hy hyl j hj)
    unfold wpOp;rw[ho];unfold UH at h1;simp only;split
    ·rename_i hw;rw[if_pos hw]at h1;exact h1.imp (Oper.wp_mono key) id
    ·rename_i hw;rw[if_neg hw]at h1;exact key _ _ h1
theorem XN (hm:E.m<=10)(hf:P.follows .mixedOrders=true){L:List (mQ×List Nat)}(hc:Vd P n E.m ops L=true){K:iy->Prop}(hq:∀a w,AK E n K a w->Q .normal a w)
 {id:Nat} {a:Act} {w:World} (h:AK E n (λst=>wpD P L 0 [] st K) a w):(Code.region id ops true).wp P Q a w:=by
 refine wp_region_any hf ?_;have hlen:L.length=ops.size:=by simp only[Vd,ah,beq_iff_eq]at hc;exact hc.1.1
 have i0:=Qi (l:=L) (i:=0);have hil:(items L 0).length=L.length:=by
  clear i0 hlen h hc;generalize 0=i
  induction L generalizing i with
  |nil=>rfl
  |cons x r ih=>obtain⟨o,Il⟩:=x;simp[items,ih]
 refine Y2 hm hc hq ops.size (items L 0) (DZ ops.size false) [] a _ (by omega) (List.Sublist.refl _) (by simp) ?_ ?_ ?_
 ·intro x hx;have:=i0.1 x hx;have hlt:x.i<ops.size:=by omega
  simp[hlt,hx]
 ·intro x hx h;exfalso;have:=i0.1 x hx;have hlt:x.i<ops.size:=by omega
  simp[hlt]at h
 ·obtain⟨I,ρ,st,hT,hg⟩:=h;exact⟨I,ρ,st,Eq.mp (ac3 (P:=P) (l:=L) (i:=0) (log:=[]) (st:=st) (K:=K)) hT,hg.drew⟩
end
end
section
def IB (zs:List Nat)(bx:Nat->Box)(π:Nat->Option Nat)(vs:List Nat):AC->AC->Prop
 |_,.IZ=>True
 |.c x,.c y=>x=y
 |.jC sz,.c y=>y = .sl sz []
 | .own b n sz,.c y=>b∈zs/\match(bx b).arr with
   |some (sz',es)=>sz'=sz/\n<=es.length/\y = .sl sz (es.take n)
   |none=>False
 |.jC sz,.jC sz'=>sz=sz'
 |.jC sz,.own b n sz'=>b∈vs/\n=0/\sz=sz'
 |.own b n sz,.own b' n' sz'=>π b'=some b/\n=n'/\sz=sz'
 |.sub b lo n _ sz,.own b' n' sz'=>π b'=some b/\lo=0/\n=n'/\sz=sz'
 |.sub b lo n c sz,.sub b' lo' n' c' sz'=>π b'=some b/\lo=lo'/\n=n'/\c=c'/\sz=sz'
 |.ptr b o,.ptr b' o'=>π b'=some b/\o=o'
 |.zI b i sz o,.zI b' i' sz' o'=>π b'=some b/\i=i'/\sz=sz'/\o=o'
 |.Gh cs,.Gh cs'=>cs=cs'
 |.fn f caps,.fn f' Ya=>f=f'/\Ya.map π=caps.map some
 |.opt T b,.opt T' b'=>T=T'/\π b'=some b
 |.vS b n,.vS b' n'=>π b'=some b/\n=n'
 |.err g,.err g'=>g=g'
 |_,_=>False
def KO (zs:List Nat)(bx:Nat->Box)(π:Nat->Option Nat)(vs:List Nat):List AC->List AC->Prop
 |[],[]=>True
 |x::xs,y::ys=>IB zs bx π vs x y/\KO zs bx π vs xs ys
 |_,_=>False
def Rt (zs:List Nat)(bx:Nat->Box)(π:Nat->Option Nat)(vs:List Nat):List (Bool×List AC)->List (Bool×List AC)->Prop
 |[],[]=>True
 |(g,x)::xs,(g',y)::ys=>g=g'/\KO zs bx π vs x y/\Rt zs bx π vs xs ys
 |_,_=>False
def YK (zs:List Nat)(bx:Nat->Box)(π:Nat->Option Nat)(vs:List Nat):AV->AV->Prop
 |.one x,.one y=>IB zs bx π vs x y
 |.agg xs,.agg ys=>KO zs bx π vs xs ys
 |.wu xs,.wu ys=>Rt zs bx π vs xs ys
 |_,_=>False
def Wl (zs:List Nat)(bx:Nat->Box)(π:Nat->Option Nat)(vs:List Nat)(b:Nat):Box->Prop
 |.absent=>π b=none/\b ∉ vs
 |.dead=>True
 | .var ys=>match π b with
   | some c=>match bx c with
     |.var xs=>KO zs bx π vs xs ys
     |_=>False
   |none=>False
 | .dat sz es=>match π b with
   |some c=>c ∉ zs/\(bx c = .dat sz es\/∃t,bx c = .dat sz (es++t))
   |none=>b∈vs/\es=[]
 | .EP sz es=>match π b with
   |some c=>bx c = .EP sz es\/(c∈zs/\bx c = .dat sz es)
   |none=>False
 | .row e l=>match π b with
   |some c=>bx c = .row e l
   |none=>False
def Box.NP : Box->Bool
 |.dead=>true
 |_=>false
structure WkS (m:Nat)(bx bx':Nat->Box)(zs:List Nat)(π:Nat->Option Nat)(vs:List Nat):Prop where
 box:∀b,Wl zs bx π vs b (bx' b)
 inj:∀b b' c,(bx' b).NP=false->(bx' b').NP=false->π b=some c->π b'=some c->b=b'
 vir:∀b,b∈vs->π b=none
 fix:∀b,b<m->π b=some b\/(π b=none/\b ∉ vs/\bx b = .absent)
def Ru (zs:List Nat)(bx:Nat->Box)(π:Nat->Option Nat)(vs:List Nat):Slot->Slot->Prop
 |_,.none=>True
 |.v g x,.v g' y=>g=g'/\(g=true->YK zs bx π vs x y)
 |_,_=>False
def JL (m:Nat)(st S:iy):Prop:=∃zs π vs,WkS m st.bx S.bx zs π vs/\∀t,Ru zs st.bx π vs (st.tm t) (S.tm t)
section
variable {P:Program} {E:Env P} {I:IH} {ρ:Ren} {n:Nat} {st:iy} {a:Act} {w:World}
def Di (ρ:Ren)(π:Nat->Option Nat)(vs:List Nat):Ren:=λb=>match π b with
 |some c=>ρ c
 |none=>if b∈vs then some (0,0)else none
theorem acV (h:GX E I ρ n st a w){zs vs:List Nat}{π:Nat->Option Nat}(hvs:∀b,b∈vs->π b=none){v:Value}{x y:AC}(hx:GC I ρ v x)(hy:IB zs st.bx π vs x y):GC (BU I ρ w st.bx zs) (Di ρ π vs) v y:=by
 have hle:=Fa h.bx zs;cases y with
 |IZ=>exact hx.one
 | c y=>
   cases x with
   |c x=>simp only[IB]at hy;subst hy;exact Rd.mono hle hx
   | jC sz=>simp only[IB]at hy;subst hy;simp only[GC]at hx;subst hx;exact Rd.sl none 0 0 _ [] (λ_ _=>undef) rfl (au _) (by simp[maxLen]) (by simp) (by simp) (by intro ad h;cases h) (by simp)
   | own b m sz=>
     simp only[IB]at hy;obtain⟨hb,hy⟩:=hy;split at hy
     ·rename_i sz' es harr;obtain⟨rfl,hm,rfl⟩:=hy;exact TW h hb harr hm hx
     ·exact hy.elim
   |_=>simp[IB]at hy
 | jC sz=>cases x<;>simp only[IB]at hy;subst hy;exact hx
 | own b' m' sz'=>
   cases x with
   | jC sz=>simp only[IB]at hy;obtain⟨hb,rfl,rfl⟩:=hy;simp only[GC]at hx;subst hx;exact⟨0,0,none,0,by simp[Di,hvs b' hb,hb],rfl,au _,au _,λh=>absurd rfl h⟩
   | own b m sz=>simp only[IB]at hy;obtain⟨hb,rfl,rfl⟩:=hy;obtain⟨k,cap,ad,c,hr,hrest⟩:=hx;exact⟨k,cap,ad,c,by simp only[Di,hb];exact hr,hrest⟩
   | sub b lo m c0 sz=>simp only[IB]at hy;obtain⟨hb,rfl,rfl,rfl⟩:=hy;obtain⟨k,cap,ad,c,hr,hv,hm,hcc,_,ha⟩:=hx;refine⟨k,cap,ad,c,by simp only[Di,hb];exact hr,hv,hm,by omega,λhc0=>?_⟩;have:=ha (.inr ⟨rfl,hc0⟩);rw[Cf]at this;exact this
   |_=>simp[IB]at hy
 | sub b' lo' m' c' sz'=>
   cases x with
   | sub b lo m c sz=>simp only[IB]at hy;obtain⟨hb,rfl,rfl,rfl,rfl⟩:=hy;obtain⟨k,cap,ad,c1,hr,hrest⟩:=hx;exact⟨k,cap,ad,c1,by simp only[Di,hb];exact hr,hrest⟩
   |_=>simp[IB]at hy
 | ptr b' o'=>
   cases x with
   | ptr b o=>simp only[IB]at hy;obtain⟨hb,rfl⟩:=hy;obtain⟨k,cap,hr,hrest⟩:=hx;exact⟨k,cap,by simp only[Di,hb];exact hr,hrest⟩
   |_=>simp[IB]at hy
 | zI b' i' sz' o'=>
   cases x with
   | zI b i sz o=>simp only[IB]at hy;obtain⟨hb,rfl,rfl,rfl⟩:=hy;obtain⟨k,cap,hr,hrest⟩:=hx;exact⟨k,cap,by simp only[Di,hb];exact hr,hrest⟩
   |_=>simp[IB]at hy
 | opt T' b'=>
   cases x with
   | opt T b=>simp only[IB]at hy;obtain⟨rfl,hb⟩:=hy;obtain⟨k,hr,hrest⟩:=hx;exact⟨k,by simp only[Di,hb];exact hr,hrest⟩
   |_=>simp[IB]at hy
 | vS b' n'=>
   cases x with
   | vS b n=>simp only[IB]at hy;obtain⟨hb,rfl⟩:=hy;obtain⟨k,cap,hr,hrest⟩:=hx;exact⟨k,cap,by simp only[Di,hb];exact hr,hrest⟩
   |_=>simp[IB]at hy
 | err g'=>
   cases x with
   |err g=>simp only[IB]at hy;subst hy;exact hx
   |_=>simp[IB]at hy
 | Gh cs'=>
   cases x with
   | Gh cs=>simp only[IB]at hy;subst hy;obtain⟨p,hv,hc⟩:=hx;exact⟨p,hv,λj c hj=>let ⟨u,h1,h2⟩:=hc j c hj;⟨u,IH.Jy hle h1,h2.mono hle⟩⟩
   |_=>simp[IB]at hy
 | fn f' Ya=>
   cases x with
   | fn f caps=>simp only[IB]at hy;obtain⟨rfl,hcs⟩:=hy;obtain⟨ks,hk1,hk2,hk3⟩:=hx;have hlen:Ya.length=caps.length:=(by have:=congrArg kE hcs;simpa using this);refine⟨ks,by rw[hlen];exact hk1,λj b k hb hk=>?_,hk3⟩;have hj:j<caps.length:=(by have:=(bn.1 hb).1;omega);have h1:(Ya.map π)[j]? = (caps.map some)[j]?:=(by rw[hcs]);rw[fQ,fQ,hb,aB hj]at h1;simp only[Option.map_some,aJ]at h1;obtain⟨cap,hr⟩:=hk2 j _ k (aB hj) hk;exact⟨cap,by simp only[Di,h1];exact hr⟩
   |_=>simp[IB]at hy
theorem UG (h:GX E I ρ n st a w){zs vs:List Nat}{π:Nat->Option Nat}(hvs:∀b,b∈vs->π b=none):∀{us:List Value} {xs ys:List AC},Jo I ρ us xs->KO zs st.bx π vs xs ys->Jo (BU I ρ w st.bx zs) (Di ρ π vs) us ys
 |us,[],[],hx,_=>⟨hx.1,λj v x hv hx=>by simp at hx⟩
 | u::us,x::xs,y::ys,hx,hy=>by
   have ih:=UG h hvs (us:=us) (xs:=xs) (ys:=ys) ⟨by simpa using hx.1,λj v z hv hz=>hx.2 (j+1) v z (by simpa using hv) (by simpa using hz)⟩ hy.2;refine⟨by simp[ih.1],λj v z hv hz=>?_⟩;cases j with
   | zero=>simp at hv hz;subst hv;subst hz;exact acV h hvs (hx.2 0 _ _ rfl rfl) hy.1
   |succ j=>exact ih.2 j v z (by simpa using hv) (by simpa using hz)
 |[],_::_,_,hx,_=>by have:=hx.1;simp at this
 |_,[],_::_,_,hy=>by simp[KO]at hy
 |_,_::_,[],_,hy=>by simp[KO]at hy
theorem Wp {zs vs:List Nat}{bx:Nat->Box}{π:Nat->Option Nat} : ∀{xs ys:List (Bool×List AC)},Rt zs bx π vs xs ys->xs.length=ys.length/\∀(j:Nat) (y:Bool×List AC),ys[j]? = some y->∃x:Bool×List AC,xs[j]? = some x/\x.1=y.1/\KO zs bx π vs x.2 y.2
 |[],[],_=>⟨rfl,λj y hy=>by simp at hy⟩
 | (g,x)::xs,(g',y)::ys,h=>by
   obtain⟨h1,h2,h3⟩:=h;obtain⟨i1,i2⟩:=Wp h3;refine⟨by simp[i1],λj z hz=>?_⟩;cases j with
   |zero=>simp at hz;subst hz;exact⟨(g,x),rfl,h1,h2⟩
   | succ j=>obtain⟨q,hq,hr⟩:=i2 j z (by simpa using hz);exact⟨q,by simpa using hq,hr⟩
 |[],_::_,h=>by simp[Rt]at h
 |_::_,[],h=>by simp[Rt]at h
theorem aeR (h:GX E I ρ n st a w){zs vs:List Nat}{π:Nat->Option Nat}(hvs:∀b,b∈vs->π b=none){v:Value}{x y:AV}(hx:GV I ρ v x)(hy:YK zs st.bx π vs x y):GV (BU I ρ w st.bx zs) (Di ρ π vs) v y:=by
 cases x with
 | one x=>cases y with
   |one y=>exact acV h hvs hx hy
   |_=>exact hy.elim
 | agg xs=>cases y with
   |agg ys=>obtain⟨cs,rfl,hg⟩:=hx;exact⟨cs,rfl,UG h hvs hg hy⟩
   |_=>exact hy.elim
 | wu ps=>cases y with
   | wu qs=>
     obtain⟨us,rfl,hl,hp⟩:=hx;obtain⟨i1,i2⟩:=Wp (show Rt zs st.bx π vs ps qs from hy);refine⟨us,rfl,by rw[hl,i1],λj v q hv hq=>?_⟩;obtain⟨p,hpj,e,hw⟩:=i2 j q hq;have h1:=hp j v p hv hpj;unfold GP at h1⊢;rw[e]at h1;split at h1
     ·rename_i hb;rw[if_pos hb];obtain⟨cs,rfl,hg⟩:=h1;exact⟨cs,rfl,UG h hvs hg hw⟩
     ·rename_i hb;rw[if_neg hb];obtain⟨x,hx,hg⟩:=h1;rw[hx]at hw;cases hq2:q.2 with
      |nil=>rw[hq2]at hw;exact hw.elim
      | cons y t=>
        rw[hq2]at hw;cases t with
        |nil=>exact⟨y,rfl,acV h hvs hg hw.1⟩
        |cons z t=>exact hw.2.elim
   |_=>exact hy.elim
theorem Su (h:GX E I ρ n st a w){m:Nat}(hm:E.m<=m){bx':Nat->Box}{zs vs:List Nat}{π:Nat->Option Nat}(hw:WkS m st.bx bx' zs π vs) :
 GX E (BU I ρ w st.bx zs) (Di ρ π vs) n ⟨λ_=>.none,bx'⟩ a w:=by
 have hF:=h.freeze zs;generalize hJ:BU I ρ w st.bx zs=J at *;have hnd:∀b k,(bx' b).uses (Di ρ π vs b) k->(bx' b).NP=false:=λb k hu=>by
  cases hx:bx' b with
  |dead=>rw[hx]at hu;exact hu.elim
  |_=>rfl
 have Iz:∀b k,(bx' b).uses (Di ρ π vs b) k->∃c,π b=some c/\((st.EP zs).bx c).uses (ρ c) k:=by
  intro b k hu;have hb:=hw.box b;cases hx:bx' b with
  | var ys=>
    rw[hx]at hu hb;simp only[Wl]at hb;split at hb
    ·rename_i c hc;refine⟨c,hc,?_⟩;split at hb
     ·rename_i xs hxs;rw[Au,hxs];simp only[Di,hc]at hu;split<;>exact hu
     ·exact hb.elim
    ·exact hb.elim
  | dat sz es=>
    rw[hx]at hu hb;simp only[Wl]at hb;split at hb
    ·rename_i c hc;refine⟨c,hc,?_⟩;simp only[Di,hc]at hu;rcases hb.2 with hb2|⟨t,hb2⟩
     ·rw[Au,if_neg hb.1,hb2];exact hu
     ·rw[Au,if_neg hb.1,hb2];exact hu
    ·rename_i hc;obtain⟨cap,hu1,hu2⟩:=hu;simp only[Di,hc,hb.1,if_true,aJ,aI]at hu1;exact absurd hu1.2.symm hu2
  | row e l=>
    rw[hx]at hu hb;simp only[Wl]at hb;split at hb
    ·rename_i c hc;refine⟨c,hc,?_⟩;simp only[Di,hc]at hu;rw[Au,hb];split<;>exact hu
    ·exact hb.elim
  |absent=>rw[hx]at hu;exact hu.elim
  |dead=>rw[hx]at hu;exact hu.elim
  |EP sz es=>rw[hx]at hu;exact hu.elim
 refine{ agree:=hF.agree,bx:=⟨λb=>?_,λb b' k hb hb'=>?_,λb k hb=>?_⟩,tm:=λt ht=>trivial,size:=h.size,defers:=h.defers,Ht:=h.Ht,own:=λb k hu=>?_,O0:=hF.O0,FQ:=hF.FQ,x8:=λb hb=>?_ }
 ·have hb:=hw.box b;show Dl J (Di ρ π vs) w b (bx' b);cases hx:bx' b with
  | absent=>rw[hx]at hb;show Di ρ π vs b=none;simp only[Di,hb.1,hb.2,if_false]
  |dead=>trivial
  | var ys=>
    rw[hx]at hb;simp only[Wl]at hb;split at hb
    ·rename_i c hc;split at hb
     ·rename_i xs hxs;have hok:=h.bx.ok c;rw[hxs]at hok;obtain⟨k,cap,cs,hr,hwk,hsz,hcs⟩:=hok;have hg:Jo J (Di ρ π vs) cs.toList ys:=by
       subst hJ;exact UG h hw.vir ⟨by simpa using hsz,λj u x hu hx=>hcs j u x (by simpa using hu) hx⟩ hb
      refine⟨k,cap,cs,by simp only[Di,hc];exact hr,hwk,by simpa using hg.1,λj u x hu hx=>hg.2 j u x (by simpa using hu) hx⟩
     ·exact hb.elim
    ·exact hb.elim
  | dat sz es=>
    rw[hx]at hb;simp only[Wl]at hb;split at hb
    ·rename_i c hc;have hok:=hF.bx.ok c;rcases hb.2 with hb2|⟨t,hb2⟩
     ·rw[Au,if_neg hb.1,hb2]at hok;obtain⟨k,cap,hr,hrest⟩:=hok;exact⟨k,cap,by simp only[Di,hc];exact hr,hrest⟩
     ·rw[Au,if_neg hb.1,hb2]at hok;obtain⟨k,cap,hr,h1,h2,h3,h4⟩:=hok;refine⟨k,cap,by simp only[Di,hc];exact hr,by simp at h1;omega,h2,λe he=>h3 e (mO _ he),λh0=>?_⟩;obtain⟨cs,e,g1,g2,g3,g4⟩:=h4 h0;refine⟨cs,e,g1,g2,g3,λi j c' hc'=>g4 i j c' ?_⟩;have hi:=lZ hc';rw[<- hc']
      congr 1
      simp only[bu];rw[dU hi]
    ·rename_i hc;obtain⟨hv,rfl⟩:=hb;exact⟨0,0,by simp only[Di,hc,hv,if_true],by simp,by simp[maxLen],by simp,λh=>absurd rfl h⟩
  | row e l=>
    rw[hx]at hb;simp only[Wl]at hb;split at hb
    ·rename_i c hc;have hok:=hF.bx.ok c;rw[Au,hb]at hok;have e1:(if c∈zs then Gi (.row e l)else .row e l)=Box.row e l:=(by split<;>rfl);rw[e1]at hok;obtain⟨k,cap,hr,hrest⟩:=hok;exact⟨k,cap,by simp only[Di,hc];exact hr,hrest⟩
    ·exact hb.elim
  | EP sz es=>
    rw[hx]at hb;simp only[Wl]at hb;split at hb
    ·rename_i c hc;have hok:=hF.bx.ok c;have e:(st.EP zs).bx c = .EP sz es:=by
      rw[Au];rcases hb with hb|⟨hz,hb⟩
      ·rw[hb];split<;>rfl
      ·rw[hb,if_pos hz];rfl
     rw[e]at hok;obtain⟨k,cap,hr,hrest⟩:=hok;exact⟨k,cap,by simp only[Di,hc];exact hr,hrest⟩
    ·exact hb.elim
 ·obtain⟨c,hc,hu⟩:=Iz b k hb;obtain⟨c',hc',hu'⟩:=Iz b' k hb';have:=hF.bx.inj c c' k hu hu';subst this;exact hw.inj b b' c (hnd b k hb) (hnd b' k hb') hc hc'
 ·obtain⟨c,hc,hu⟩:=Iz b k hb;exact hF.bx.fresh c k hu
 ·obtain⟨c,hc,hu'⟩:=Iz b k hu;exact hF.own c k hu'
 ·rcases hw.fix b (by omega)with hf|⟨hf,hv,hab⟩
  ·simp only[Di,hf];exact h.x8 b hb
  ·have:=h.bx.ok b;rw[hab]at this;rw[<- h.x8 b hb];simp only[Di,hf,hv,if_false];exact this.symm
theorem QT (h:GX E I ρ n st a w){m:Nat}(hm:E.m<=m){S:iy}(hw:JL m st S):∃J σ,GX E J σ n S a w:=by
 obtain⟨zs,π,vs,hs,ht⟩:=hw;have h1:=Su h hm hs;refine⟨_,_,{ h1 with tm:=λt htn=>?_,bx:=h1.bx,agree:=h1.agree,size:=h1.size,defers:=h1.defers,Ht:=h1.Ht,own:=h1.own }⟩;have h2:=ht t;have h3:=h.tm t htn;cases hS:S.tm t with
 |none=>trivial
 | v g y=>
   rw[hS]at h2;cases hst:st.tm t with
   |none=>rw[hst]at h2;exact h2.elim
   | v g' x=>rw[hst]at h2 h3;obtain⟨rfl,hv⟩:=h2;exact⟨λhg=>aeR h hs.vir (h3.1 hg) (hv hg),h3.2⟩
theorem AK.weak {m:Nat}(hm:E.m<=m){K:iy->Prop}{X:Type}{J:X->Prop}{S:X->iy}(hk:∀st,K st->∃x,J x/\JL m st (S x)){a:Act}{w:World}(h:AK E n K a w):∃x,J x/\AK E n (λst=>st=S x) a w:=by obtain⟨I,ρ,st,hK,hg⟩:=h;obtain⟨x,hj,hw⟩:=hk st hK;obtain⟨I',ρ',hg'⟩:=QT hg hm hw;exact⟨x,hj,I',ρ',_,rfl,hg'⟩
end
end
section
inductive bW where
 |skip
 |reg (ops:List mQ) (keep:List Nat)
 |qj (ops:List (mQ×List Nat)) (keep:List Nat)
 |seq (a b:bW)
 |cut (a b:bW)
 |cond (c:oW) (a b:bW)
 |block (id:Nat) (a:bW)
 |loop (a:bW)
 |exit (id:Nat)
 |ret
 deriving Inhabited
inductive xq where
 |normal
 |exit (id:Nat)
 |ret
abbrev AQ :=xq->iy->Prop
def xq.then (next:iy->Prop)(Q:AQ):AQ
 |.normal,st=>next st
 |.exit id,st=>Q (.exit id) st
 |.ret,st=>Q .ret st
def xq.inBlock (id:Nat)(Q:AQ):AQ
 |.exit id',st=>if id'=id then Q .normal st else Q (.exit id') st
 |.normal,st=>Q .normal st
 |.ret,st=>Q .ret st
def afZ (body:AQ->iy->Prop)(Q:AQ)(st:iy):Prop:=
 ∃ (X:Type) (J:X->Prop) (S:X->iy) (μ:X->Nat),(∃x,J x/\JL 10 st (S x)) /\
   ∀x,J x->body (xq.then (λst'=>∃x',(J x'/\μ x'<μ x)/\JL 10 st' (S x')) Q) (S x)
def agQ (wa:AQ->iy->Prop)(wb:AQ->iy->Prop)(Q:AQ)(st:iy):Prop:=
 ∃(X:Type) (J:X->Prop) (S:X->iy),wa (xq.then (λst'=>∃x,J x/\JL 10 st' (S x)) Q) st/\∀x,J x->wb Q (S x)
def Ho (body:AQ->iy->Prop)(Q:AQ)(st:iy)(_:DU body)(_:DU Q):Prop:=afZ body Q st
def Lc (wa wb:AQ->iy->Prop)(Q:AQ)(st:iy)(_:DU wa)(_:DU wb)(_:DU Q):Prop:=agQ wa wb Q st
def wpC (P:Program):bW->AQ->iy->Prop
 |.skip,Q,st=>Q .normal st
 |.reg ops keep,Q,st=>wpOps P ops st λst=>Q .normal (st.keep keep)
 |.qj ops keep,Q,st=>wpD P ops 0 [] st λst=>Q .normal (st.keep keep)
 |.seq a b,Q,st=>wpC P a (xq.then (wpC P b Q) Q) st
 |.cut a b,Q,st=>Lc (wpC P a) (wpC P b) Q st .mk .mk .mk
 | .cond c a b,Q,st=>(c.ev st.tm).g=true/\match(c.ev st.tm).x with
   |.one (.c (.lit (.bool t)))=>(t=true->wpC P a Q st)/\(t=false->wpC P b Q st)
   |_=>False
 |.block id a,Q,st=>wpC P a (xq.inBlock id Q) st
 |.loop a,Q,st=>Ho (wpC P a) Q st .mk .mk
 |.exit id,Q,st=>Q (.exit id) st
 |.ret,Q,st=>Q .ret st
def Dp (P:Program)(n m:Nat):Code->bW->Bool
 |.skip,.skip=>true
 |.region _ ops false,.reg xs _=>TA P n m ops ops.toList xs
 |.region _ ops true,.qj xs _=>Vd P n m ops xs&&P.follows .mixedOrders
 |.seq a b,.seq x y=>Dp P n m a x&&Dp P n m b y
 |.seq a b,.cut x y=>Dp P n m a x&&Dp P n m b y
 |.cond c a b,.cond d x y=>kU n c d&&Dp P n m a x&&Dp P n m b y
 |.block i a,.block j x=>i==j&&Dp P n m a x
 |.loop a,.loop x=>Dp P n m a x
 |.exit i,.exit j=>i==j
 |.ret,.ret=>true
 |_,_=>false
section
variable {P:Program} {E:Env P} {n:Nat}
def CQ (E:Env P)(n:Nat)(Q:AQ):Exit->Act->World->Prop
 |.normal,a,w=>AK E n (Q .normal) a w
 |.exit id,a,w=>AK E n (Q (.exit id)) a w
 |.ret,a,w=>AK E n (Q .ret) a w
 |_,_,_=>False
theorem SB {Q:AQ}{next:iy->Prop}{nx:Act->World->Prop}(h:∀a w,AK E n next a w->nx a w)(e:Exit)(a:Act)(w:World)(hq:CQ E n (xq.then next Q) e a w):Exit.then nx (CQ E n Q) e a w:=by
 cases e with
 |normal=>exact h a w hq
 |exit id=>exact hq
 |ret=>exact hq
 |goto l=>exact hq
 |panic c=>exact hq
 |outgrown=>exact hq
theorem WG {Q:AQ}{id:Nat}(e:Exit)(a:Act)(w:World)(hq:CQ E n (xq.inBlock id Q) e a w):Exit.inBlock id (CQ E n Q) e a w:=by
 cases e with
 |normal=>exact hq
 | exit id'=>
   simp only[Exit.inBlock];by_cases h:id'=id
   ·rw[if_pos h];exact AK.imp (λst (hs:xq.inBlock id Q (.exit id') st)=>by simp only[xq.inBlock,if_pos h]at hs;exact hs) hq
   ·rw[if_neg h];exact AK.imp (λst (hs:xq.inBlock id Q (.exit id') st)=>by simp only[xq.inBlock,if_neg h]at hs;exact hs) hq
 |ret=>exact hq
 |goto l=>exact hq
 |panic c=>exact hq
 |outgrown=>exact hq
theorem GX.keep {I:IH}{ρ:Ren}{st:iy}{a:Act}{w:World}(h:GX E I ρ n st a w)(ts:List Nat):GX E I ρ n (st.keep ts) a w:=
 have ht:∀t,t<n->GSl I ρ (a.tmps.getD t undef) ((st.keep ts).tm t):=λt ht=>by
  simp only[iy.keep];split
  ·exact h.tm t ht
  ·trivial
 { h with tm:=ht,bx:=h.bx,agree:=h.agree,size:=h.size,defers:=h.defers,Ht:=h.Ht,own:=h.own }
theorem Rw {Q:Exit->Act->World->Prop}{a:Act}{w:World}{c:Code}(Inv:Nat->Act->World->Prop)(h0:∃k,Inv k a w)
 (round:∀k a w,Inv k a w->c.wp P (Exit.then (λa' w'=>∃k',k'<k/\Inv k' a' w') Q) a w):(Code.loop c).wp P Q a w:=by
 have hmin:∀a w,(∃k,Inv k a w)->∃k,Inv k a w/\∀j,j<k->¬Inv j a w:=by
  intro a w ⟨k,hk⟩
  induction k using Nat.strongRecOn with
  | _ k ih=>
    by_cases h:∃j,j<k/\Inv j a w
    ·obtain⟨j,hj,hi⟩:=h;exact ih j hj hi
    ·exact⟨k,hk,λj hj hi=>h ⟨j,hj,hi⟩⟩
 let μ:Act->World->Nat:=λa w=>open Classical in if h:∃k,Inv k a w then(hmin a w h).choose else 0
 have hμ:∀a w,(∃k,Inv k a w)->Inv (μ a w) a w/\∀j,Inv j a w->μ a w<=j:=by intro a w h;have hs:=(hmin a w h).choose_spec;simp only[μ,dif_pos h];exact⟨hs.1,λj hj=>Af λhlt=>hs.2 j hlt hj⟩
 refine wp_loop (λa w=>∃k,Inv k a w) μ h0 λa w h=>?_;refine wp_mono (round _ a w (hμ a w h).1) λe a' w' hq=>?_;cases e with
 | normal=>obtain⟨k',hlt,hk⟩:=hq;exact⟨⟨k',hk⟩,Nat.lt_of_le_of_lt ((hμ a' w' ⟨k',hk⟩).2 k' hk) hlt⟩
 |exit id=>exact hq
 |ret=>exact hq
 |goto l=>exact hq
 |panic c=>exact hq
 |outgrown=>exact hq
theorem Ar (hm:E.m<=10):∀{ac:bW} {c:Code} {Q:AQ} {a:Act} {w:World},Dp P n E.m c ac=true->AK E n (wpC P ac Q) a w->c.wp P (CQ E n Q) a w
 | .skip,c,Q,a,w,hc,h=>by
   unfold Dp at hc;split at hc<;>first|contradiction|skip
   exact wp_skip h
 | .reg xs keep,c,Q,a,w,hc,h=>by
   unfold Dp at hc;split at hc<;>first|contradiction|skip
   rename_i heq;cases heq;refine wp_region_list (Qw hm hc h λa w hk=>?_);obtain⟨I,ρ,st,hk,hg⟩:=hk;exact⟨I,ρ,_,hk,hg.keep keep⟩
 | .qj xs keep,c,Q,a,w,hc,h=>by
   unfold Dp at hc;split at hc<;>first|contradiction|skip
   rename_i heq;cases heq;simp only[ah]at hc;refine XN hm hc.2 hc.1 (λa w hk=>?_) h;obtain⟨I,ρ,st,hk,hg⟩:=hk;exact⟨I,ρ,_,hk,hg.keep keep⟩
 | .seq x y,c,Q,a,w,hc,h=>by
   unfold Dp at hc;split at hc<;>first|contradiction|skip
   rename_i heq;cases heq;simp only[ah]at hc;exact wp_seq (wp_mono (Ar hm hc.1 h) (SB λa w hk=>Ar hm hc.2 hk))
 | .cut x y,c,Q,a,w,hc,h=>by
   unfold Dp at hc;split at hc<;>first|contradiction|skip
   rename_i heq;cases heq;simp only[ah]at hc;obtain⟨I,ρ,st,⟨X,J,S,h1,h2⟩,hg⟩:=h;refine wp_seq (wp_mono (Ar hm hc.1 ⟨I,ρ,st,h1,hg⟩) (SB λa w hk=>?_));obtain⟨x,hj,I',ρ',st',rfl,hg'⟩:=AK.weak hm (λst h=>h) hk;exact Ar hm hc.2 ⟨I',ρ',_,h2 x hj,hg'⟩
 | .cond d x y,c,Q,a,w,hc,h=>by
   unfold Dp at hc;split at hc<;>first|contradiction|skip
   rename_i heq;cases heq;simp only[ah]at hc;obtain⟨I,ρ,st,⟨h1,h2⟩,hg⟩:=h;have hv:=og hg hc.1.1 h1;unfold eu at hv;split at h2
   ·rename_i t ht;rw[ht]at hv;exact wp_cond_split (Jv hv) (λe=>Ar hm hc.1.2 ⟨I,ρ,st,h2.1 e,hg⟩) (λe=>Ar hm hc.2 ⟨I,ρ,st,h2.2 e,hg⟩)
   ·exact h2.elim
 | .block id x,c,Q,a,w,hc,h=>by
   unfold Dp at hc;split at hc<;>first|contradiction|skip
   rename_i heq;cases heq;simp only[ah,beq_iff_eq]at hc;obtain⟨rfl,hc⟩:=hc;exact wp_block (wp_mono (Ar hm hc h) WG)
 | .loop x,c,Q,a,w,hc,h=>by
   unfold Dp at hc;split at hc<;>first|contradiction|skip
   rename_i heq;cases heq;obtain⟨I,ρ,st,⟨X,J,S,μ,⟨x0,hj0,hw0⟩,hr⟩,hg⟩:=h;refine Rw (λk a w=>∃x,J x/\μ x=k/\AK E n (λst=>st=S x) a w) ?_ ?_
   ·obtain⟨I',ρ',hg'⟩:=QT hg hm hw0;exact⟨_,x0,hj0,rfl,I',ρ',_,rfl,hg'⟩
   ·rintro k a w ⟨x,hj,rfl,I,ρ,st,rfl,hg⟩;refine wp_mono (Ar hm hc ⟨I,ρ,_,hr x hj,hg⟩) (SB λa w hk=>?_);obtain⟨x',⟨hj',hlt⟩,hk'⟩:=AK.weak (J:=λx'=>J x'/\μ x'<μ x) hm (λst h=>h) hk;exact⟨_,hlt,x',hj',rfl,hk'⟩
 | .exit id,c,Q,a,w,hc,h=>by
   unfold Dp at hc;split at hc<;>first|contradiction|skip
   rename_i heq;cases heq;simp only[beq_iff_eq]at hc;subst hc;exact wp_exit h
 | .ret,c,Q,a,w,hc,h=>by
   unfold Dp at hc;split at hc<;>first|contradiction|skip
   exact wp_ret h
end
end
section
inductive Ba where
 |tmp (t:Nat)
 |cell (t:Nat) (agg:Bool) (k:Nat)
 deriving Inhabited
def Ba.ok (st:iy):Ba->Prop
 |.tmp t=>(st.tm t).g=true
 |.cell t agg k=>(st.tm t).g=true/\(zD agg k (st.tm t).x st.bx).vc
def Ba.val (st:iy):Ba->AV
 |.tmp t=>(st.tm t).x
 |.cell t agg k=>(zD agg k (st.tm t).x st.bx).v
def FH (st:iy):List Ba->Prop
 |[]=>True
 |r::rs=>r.ok st/\(r.val st).flat/\FH st rs
def partOf : AV->Bool×List AC
 |.one x=>(false,[x])
 |.agg xs=>(true,xs)
 |.wu _=>(false,[])
def zV (st:iy):List Ba->List (Bool×List AC)
 |[]=>[]
 |r::rs=>partOf (r.val st)::zV st rs
def Rj (st:iy):List Ba->AV
 |[r]=>r.val st
 |rs=>.wu (zV st rs)
def JU (rs:List Ba)(m:Nat)(post:AV->List Box->Prop)(st:iy):Prop:=
 FH st rs/\∃r bs zs π vs,post r bs/\WkS m st.bx (DN bs) zs π vs/\YK zs st.bx π vs (Rj st rs) r
def PL (P:Program)(n:Nat):List ResultVar->List Ba->Bool
 |[],[]=>true
 |.tmp t::xs,.tmp s::ys=>t==s&&decide (t<n)&&PL P n xs ys
 |.cell a t::xs,.cell s agg k::ys=>a==s&&decide (a<n)&&QO P t agg k&&PL P n xs ys
 |_,_=>false
section
variable {P:Program} {E:Env P} {I:IH} {ρ:Ren} {n:Nat} {st:iy} {a:Act} {w:World}
theorem ZF {agg:Bool}{k:Nat}{p:AV}{pv:Value}{bx:Nat->Box}(hp:GV I ρ pv p)(jK:(zD agg k p bx).vc):∃q,pv = .pointer (some q):=by
 cases p with
 | one p=>
   cases p with
   |ptr b off=>obtain⟨k,cap,_,rfl⟩:=hp;exact⟨_,rfl⟩
   |zI b i sz off=>obtain⟨k,cap,_,rfl⟩:=hp;exact⟨_,rfl⟩
   |Gh cs=>obtain⟨q,rfl,_⟩:=hp;exact⟨_,rfl⟩
   |_=>exact jK.elim
 |_=>exact jK.elim
def acs (tmps:Array Value)(x:ResultVar):Sem Value:=match x with
 |ResultVar.tmp t=>pure (tmps.getD t undef)
 |ResultVar.cell b t=>do loadVar t (<- asAddr (tmps.getD b undef))
theorem XO (fn:Func)(tmps:Array Value):results fn tmps=(do
 let vs <- fn.results.mapM (acs tmps)
 pure (if h:vs.size=1 then vs[0]else .tuple vs)):=by
 unfold results
 congr 1
theorem V3 (h:GX E I ρ n st a w):∀{xs:List ResultVar} {rs:List Ba},PL P n xs rs=true->FH st rs ->
 ∃vs:List Value,(xs.mapM (acs a.tmps)).run P w = .ok vs w/\vs.length=rs.length/\∀(j:Nat) (v:Value) (r:Ba),vs[j]? = some v->rs[j]? = some r->GV I ρ v (r.val st)
 |[],[],_,_=>⟨[],by simp,rfl,λj v r hv=>by simp at hv⟩
 | x::xs,r::rs,hc,hok=>by
   obtain⟨h1,h2,h3⟩:=hok;have key:∃v,(acs a.tmps x).run P w = .ok v w/\GV I ρ v (r.val st)/\PL P n xs rs=true:=by
    cases x with
    | tmp t=>
      cases r with
      | tmp s=>
        simp only[PL,ah,beq_iff_eq,decide_eq_true_eq]at hc;obtain⟨⟨rfl,hlt⟩,hc⟩:=hc;have ht:=h.tm t hlt;simp only[Ba.ok]at h1;refine⟨a.tmps.getD t undef,rfl,?_,hc⟩;simp only[Ba.val];cases hs:st.tm t with
        |none=>rw[hs]at h1;cases h1
        |v g x=>rw[hs]at h1 ht;exact ht.1 h1
      |cell s agg k=>simp[PL]at hc
    | cell b t=>
      cases r with
      |tmp s=>simp[PL]at hc
      | cell s agg k=>
        simp only[PL,ah,beq_iff_eq,decide_eq_true_eq]at hc;obtain⟨⟨⟨rfl,hlt⟩,hty⟩,hc⟩:=hc;have ht:=h.tm b hlt;obtain⟨hg,jK⟩:=h1;have hv:GV I ρ (a.tmps.getD b undef) (st.tm b).x:=by
         cases hs:st.tm b with
         |none=>rw[hs]at hg;cases hg
         |v g x=>rw[hs]at hg ht;exact ht.1 hg
        obtain⟨q,hq⟩:=ZF hv jK;obtain⟨v,hrun,hgv⟩:=RU (P:=P) h hty hv jK;refine⟨v,?_,hgv,hc⟩;unfold acs;simp only[hq]at hrun⊢;simpa[Go.Instr.loadAt,Go.Instr.sureAddr,asAddr]using hrun
   obtain⟨v,hv,hg,hc'⟩:=key;obtain⟨vs,hvs,hl,hgs⟩:=V3 h hc' h3;refine⟨v::vs,?_,by simp[hl],λj u r' hu hr=>?_⟩
   ·rw[List.mapM_cons];simp[hv,hvs]
   ·cases j with
    |zero=>simp at hu hr;subst hu;subst hr;exact hg
    |succ j=>exact hgs j u r' (by simpa using hu) (by simpa using hr)
 |[],_::_,hc,_=>by simp[PL]at hc
 |x::_,[],hc,_=>by cases x<;>simp[PL]at hc
def KN : List AV->Nat->List (Nat×Slot)
 |[],_=>[]
 |x::xs,i=>(i,.v true x)::KN xs (i+1)
def DL : List Box->Nat->List (Nat×Box)
 |[],_=>[]
 |x::xs,i=>(i,x)::DL xs (i+1)
theorem Ot : ∀{xs:List AV} {i t:Nat},BA (KN xs i) t=if i<=t then(match xs[t-i]? with|some x=>.v true x|none=>.none)else .none
 |[],i,t=>by simp[KN,BA]
 | x::xs,i,t=>by
   simp only[KN,BA];by_cases h:i=t
   ·subst h;simp
   ·rw[if_neg h,Ot (xs:=xs)];by_cases h':i<=t
    ·have e:t-i=(t-(i+1))+1:=(by omega);rw[if_pos h',if_pos (by omega),e];simp
    ·rw[if_neg h',if_neg (by omega)]
theorem I8 : ∀{xs:List Box} {i t:Nat},su (DL xs i) t=if i<=t then xs.getD (t-i) .absent else .absent
 |[],i,t=>by simp[DL,su]
 | x::xs,i,t=>by
   simp only[DL,su];by_cases h:i=t
   ·subst h;simp
   ·rw[if_neg h,I8 (xs:=xs)];by_cases h':i<=t
    ·have e:t-i=(t-(i+1))+1:=(by omega);rw[if_pos h',if_pos (by omega),e];simp
    ·rw[if_neg h',if_neg (by omega)]
def st0 (args:List AV)(fp:List Box):iy:=iy.of (KN args 0) (DL fp 0)
theorem acJ (args:List AV)(fp:List Box):(st0 args fp).bx=DN fp:=by
 funext b
 unfold st0;rw[ET,I8];simp[DN]
def QF (rs:List Ba)(m:Nat)(post:AV->List Box->Prop):AQ
 |.normal,st=>JU rs m post st
 |.ret,st=>JU rs m post st
 |.exit _,_=>False
def iR (P:Program)(f:FuncId)(k m:Nat)(ac:bW)(rs:List Ba):Bool:=
 match P.funcs[f]? with
 | some fn=>match fn.body with
   |some c=>decide (k<=fn.ntmps)&&decide (m<=10)&&Dp P fn.ntmps m c ac&&PL P fn.ntmps fn.results.toList rs
   |none=>false
 |none=>false
theorem mV {f:FuncId}{ac:bW}{rs:List Ba}{args:List AV}{fp:List Box}{post:AV->List Box->Prop}(hc:iR P f args.length fp.length ac rs=true)
 (hwp:wpC P ac (QF rs fp.length post) (st0 args fp)):lD P f args fp post:=by
 unfold iR at hc;split at hc
 ·rename_i fn hf;split at hc
  ·rename_i c hb;simp only[ah,decide_eq_true_eq]at hc;obtain⟨⟨⟨hk,hm⟩,hcc⟩,hcr⟩:=hc;intro I ρ w vs hT hA hB hV
   let E:Env P:=⟨w,I,λk=>∃b,(DN fp b).uses (ρ b) k,ρ,fp.length,hT⟩
   refine calls_of_wp hf hb ?_;have hlen:vs.length=args.length:=hV.1;have hG:GX E I ρ fn.ntmps (st0 args fp) { tmps:=vs.toArray++DZ (fn.ntmps-vs.toArray.size) undef,defers:=[] } w:=by
    refine{ agree:=hA,bx:=by rw[acJ];exact hB,tm:=λt ht=>?_,size:=by simp;omega,defers:=rfl,Ht:=KR.refl _ _,own:=λb k hu=>?_,O0:=IH.le_refl _,FQ:=λk _ _=>rfl,x8:=λb _=>rfl }
    ·unfold st0;rw[Ip,Ot];simp only[aN,if_true,Nat.sub_zero];cases hx:args[t]? with
     |none=>trivial
     | some x=>
       have hlt:=(bn.1 hx).1;have hvt:vs[t]? = some vs[t]:=aB (by omega);refine⟨λ_=>?_,λe=>by cases e⟩;have hg:=hV.2 t _ x hvt hx;have e:((vs.toArray++DZ (fn.ntmps-vs.toArray.size) undef).getD t undef)=vs[t]:=by rw[pM,Array.getElem?_append_left (by simp;omega)];simp[hvt]
       rw[e];exact hg
    ·right
     rw[acJ]at hu;exact⟨b,hu⟩
   refine wp_mono (Ar (E:=E) hm hcc ⟨I,ρ,_,hwp,hG⟩) λe a w' hq=>?_;have key:AK E fn.ntmps (JU rs fp.length post) a w'->a.defers=[]/\∃v,(results fn a.tmps).run P w' = .ok v w'/\∃(v':Value) (J:IH) (σ:Ren) (r:AV) (bs:List Box),Ending.returned v = .returned v'/\post r bs/\GV J σ v' r/\Agree J w'/\BX J σ w' (DN bs) /\
    I.le J/\KR w w' (λk=>∃b,(DN fp b).uses (ρ b) k) /\
    (∀b k,(DN bs b).uses (σ b) k->w.heap.size<=k\/∃b',(DN fp b').uses (ρ b') k) /\
    (∀k,k<w.heap.size->(¬ ∃b,(DN fp b).uses (ρ b) k)->J k=I k) /\
    (∀b,b<fp.length->σ b=ρ b):=by
    rintro⟨I',ρ',st,⟨hok,r,bs,zs,π,us,hp,hws,hwv⟩,hg⟩;obtain⟨ws,hrun,hl,hgs⟩:=V3 hg hcr hok;have hv:∃v,(results fn a.tmps).run P w' = .ok v w'/\GV I' ρ' v (Rj st rs):=by
     have hrun':(fn.results.mapM (acs a.tmps)).run P w' = .ok ws.toArray w':=by rw[Array.mapM_eq_mapM_toList];simp[hrun]
     rw[XO];by_cases h1:∃r0,rs=[r0]
     ·obtain⟨r0,rfl⟩:=h1
      match ws,hl,hgs,hrun' with
      |[v0],_,hgs,hrun'=>exact⟨v0,by simp[hrun'],hgs 0 v0 r0 rfl rfl⟩
     ·have hne:ws.length≠1:=by
       intro h;rw[hl]at h
       match rs,h,h1 with
       |[r0],_,h1=>exact h1 ⟨r0,rfl⟩
      have hrv:Rj st rs = .wu (zV st rs):=by
       match rs,h1 with
       |[],_=>rfl
       |[r0],h1=>exact absurd ⟨r0,rfl⟩ h1
       |_::_::_,_=>rfl
      refine⟨.tuple ws.toArray,by simp[hrun',hne],?_⟩;rw[hrv];have hparts:∀{rs:List Ba},FH st rs->(zV st rs).length=rs.length/\∀(j:Nat) (p:Bool×List AC),(zV st rs)[j]? = some p->∃r,rs[j]? = some r/\p=partOf (r.val st)/\(r.val st).flat:=by
       intro rs
       induction rs with
       |nil=>intro _;exact⟨rfl,λj p hp=>by simp[zV]at hp⟩
       | cons r0 rs ih=>
         rintro⟨_,h2,h3⟩;obtain⟨j1,j2⟩:=ih h3;refine⟨by simp[zV,j1],λj p hp=>?_⟩;cases j with
         |zero=>simp[zV]at hp;exact⟨r0,rfl,hp.symm,h2⟩
         |succ j=>obtain⟨r',hr',h'⟩:=j2 j p (by simpa[zV]using hp);exact⟨r',by simpa using hr',h'⟩
      obtain⟨p1,p2⟩:=hparts hok;refine⟨ws.toArray,rfl,by simp[hl,p1],λj v p hv hp=>?_⟩;obtain⟨r',hr',rfl,hfl⟩:=p2 j p hp;have hgv:=hgs j v r' (by simpa using hv) hr';unfold GP;cases hval:r'.val st with
      |one x=>rw[hval]at hgv;simp only[partOf];exact⟨x,rfl,hgv⟩
      |agg xs=>rw[hval]at hgv;simp only[partOf,if_true];exact hgv
      |wu q=>rw[hval]at hfl;exact hfl.elim
    obtain⟨v,hrv,hgv⟩:=hv;have hS:=Su hg (au _) hws;refine⟨hg.defers,v,hrv,v,_,_,r,bs,rfl,hp,aeR hg hws.vir hgv hwv,hS.agree,hS.bx,hS.O0,hS.Ht,hS.own,hS.FQ,hS.x8⟩
   cases e with
   |normal=>exact key hq
   |ret=>exact key hq
   |exit id=>obtain⟨_,_,_,h,_⟩:=hq;exact h.elim
   |goto l=>exact hq.elim
   |panic ch=>exact hq.elim
   |outgrown=>exact hq.elim
  ·cases hc
 ·cases hc
end
end
section
def Q4 : List (Nat×Nat)->Nat->Option Nat
 |[],_=>none
 |(b,c)::r,x=>if b=x then some c else Q4 r x
def Wq (zs:List Nat)(bx:Nat->Box)(π:Nat->Option Nat)(vs:List Nat)(ts0:List (Nat×Slot)):List (Nat×Slot)->Prop
 |[]=>True
 |(t,s)::r=>Ru zs bx π vs (BA ts0 t) s/\Wq zs bx π vs ts0 r
def QU (zs:List Nat)(bx:Nat->Box)(π:Nat->Option Nat)(vs:List Nat):List (Nat×Box)->Prop
 |[]=>True
 |(b,x)::r=>Wl zs bx π vs b x/\QU zs bx π vs r
def Box.isAbs : Box->Bool
 |.absent=>true
 |_=>false
def nodupB : List Nat->Bool
 |[]=>true
 |x::r=> !r.contains x&&nodupB r
def fst' {α:Type} : List (Nat×α)->List Nat
 |[]=>[]
 |x::r=>x.1::fst' r
def snd' : List (Nat×Nat)->List Nat
 |[]=>[]
 |x::r=>x.2::snd' r
def NR (m:Nat)(Fg bs:List (Nat×Box))(pi:List (Nat×Nat))(vs:List Nat):Bool:=
 nodupB (snd' (pi.filter λp=> !(su bs p.1).NP))&&nodupB (fst' pi)&&(fst' pi).all (λb=>(fst' bs).contains b)&&vs.all (λb=>(fst' bs).contains b && !(fst' pi).contains b) &&
  (List.range m).all λb=>Q4 pi b==some b||(!(fst' pi).contains b && !vs.contains b&&(su Fg b).isAbs)
theorem KE {l:List Nat} : nodupB l=true<->l.Nodup:=by
 induction l with
 |nil=>simp[nodupB]
 |cons x r ih=>simp[nodupB,ih]
theorem MH : ∀{pi:List (Nat×Nat)} {b c:Nat},Q4 pi b=some c->(b,c)∈pi
 |[],_,_,h=>by cases h
 | (x,y)::r,b,c,h=>by
   simp only[Q4]at h;split at h
   ·rename_i e;subst e;cases h;exact bz ..
   ·exact dF _ (MH h)
theorem Vx {α:Type} : ∀{l:List (Nat×α)} {b:Nat},b∈fst' l<->∃x,(b,x)∈l
 |[],b=>by simp[fst']
 | (a,y)::r,b=>by
   simp only[fst',cO,Vx (l:=r)];constructor
   ·rintro(h|⟨x,hx⟩)
    ·subst h;exact⟨y,.inl rfl⟩
    ·exact⟨x,.inr hx⟩
   ·rintro⟨x,h|h⟩
    ·cases h;exact .inl rfl
    ·exact .inr ⟨x,h⟩
theorem YE : ∀{l:List (Nat×Nat)},snd' l=l.map (·.2)
 |[]=>rfl
 |x::r=>by simp[snd',YE (l:=r)]
theorem Qq {pi:List (Nat×Nat)}{b:Nat}(h:b ∉ fst' pi):Q4 pi b=none:=by
 cases hp:Q4 pi b with
 |none=>rfl
 |some c=>exact absurd (Vx.2 ⟨c,MH hp⟩) h
theorem Wn {zs vs:List Nat}{bx:Nat->Box}{π:Nat->Option Nat} : ∀{bs:List (Nat×Box)},QU zs bx π vs bs->∀b x,(b,x)∈bs->Wl zs bx π vs b x
 |[],_,_,_,h=>by cases h
 | (c,y)::r,hw,b,x,h=>by
   rcases cO.1 h with h|h
   ·cases h;exact hw.1
   ·exact Wn hw.2 b x h
theorem Sr {zs vs:List Nat}{bx:Nat->Box}{π:Nat->Option Nat}{ts0:List (Nat×Slot)} : ∀{ts:List (Nat×Slot)},Wq zs bx π vs ts0 ts->∀t,Ru zs bx π vs (BA ts0 t) (BA ts t)
 |[],_,_=>by simp[BA,Ru]
 | (c,y)::r,hw,t=>by
   simp only[BA];split
   ·rename_i e;subst e;exact hw.1
   ·exact Sr hw.2 t
theorem ZH {bs:List (Nat×Box)}{b:Nat} : (b,su bs b)∈bs\/(b ∉ fst' bs/\su bs b = .absent):=by
 induction bs with
 |nil=>right;simp[fst',su]
 | cons p r ih=>
   obtain⟨c,y⟩:=p;simp only[su];by_cases h:c=b
   ·subst h;left;simp
   ·rw[if_neg h];rcases ih with ih|⟨h1,h2⟩
    ·left;exact dF _ ih
    ·right;refine⟨?_,h2⟩;simp only[fst',cO,not_or];exact⟨λe=>h e.symm,h1⟩
theorem acW {m:Nat}{Fg bs:List (Nat×Box)}(zs:List Nat)(pi:List (Nat×Nat))(vs:List Nat)(hk:NR m Fg bs pi vs=true)(hb:QU zs (su Fg) (Q4 pi) vs bs):WkS m (su Fg) (su bs) zs (Q4 pi) vs:=by
 simp only[NR,ah,bg,iJ,beq_iff_eq,xk,List.mem_range,KE,uY]at hk;obtain⟨⟨⟨⟨h1,_⟩,h3⟩,h4⟩,h5⟩:=hk;have abx:∀{l:List Nat} {x:Nat},l.contains x=false->x ∉ l:=λh hm=>by rw[uY.2 hm]at h;cases h
 refine⟨λb=>?_,λb b' c hd1 hd2 hb1 hb2=>?_,λb hv=>Qq (abx (h4 b hv).2),λb hlt=>?_⟩
 ·rcases ZH (bs:=bs) (b:=b)with h|⟨h,e⟩
  ·exact Wn hb b _ h
  ·rw[e];exact⟨Qq λhm=>h (h3 b hm),λhm=>h (h4 b hm).1⟩
 ·have m1:(b,c)∈pi.filter λp=> !(su bs p.1).NP:=D7.2 ⟨MH hb1,by simp[hd1]⟩;have m2:(b',c)∈pi.filter λp=> !(su bs p.1).NP:=D7.2 ⟨MH hb2,by simp[hd2]⟩;rw[YE]at h1;obtain⟨i,hi,ei⟩:=yD m1;obtain⟨j,hj,ej⟩:=yD m2;have hpw:=yZ.1 h1;rcases zy i j with h|h|h
  ·have:=hpw i j (by simpa using hi) (by simpa using hj) h;simp[ei,ej]at this
  ·subst h;rw[ei]at ej;cases ej;rfl
  ·have:=hpw j i (by simpa using hj) (by simpa using hi) h;simp[ei,ej]at this
 ·rcases h5 b hlt with h|⟨⟨h,h'⟩,h''⟩
  ·exact .inl h
  ·refine .inr ⟨Qq (abx h),abx h',?_⟩;cases hx:su Fg b with
   |absent=>rfl
   |_=>rw[hx]at h'';cases h''
theorem KF (ts:List (Nat×Slot))(bs:List (Nat×Box)):(iy.of ts bs).bx=su bs:=funext λb=>ET ts bs b
theorem aep {m:Nat}{ts0 ts:List (Nat×Slot)}{Fg bs:List (Nat×Box)}(zs:List Nat)(pi:List (Nat×Nat))(vs:List Nat)(hk:NR m Fg bs pi vs=true)
 (hb:QU zs (su Fg) (Q4 pi) vs bs) (ht:Wq zs (su Fg) (Q4 pi) vs ts0 ts):JL m (iy.of ts0 Fg) (iy.of ts bs):=by
 refine⟨zs,Q4 pi,vs,?_,λt=>?_⟩
 ·rw[KF,KF];exact acW zs pi vs hk hb
 ·rw[KF,Ip,Ip];exact Sr ht t
def dC (bx:Nat->Box):AC->AC->Prop
 |.c x,.c y=>x=y
 |.jC sz,.c y=>y = .sl sz []
 | .own b n sz,.c y=>match(bx b).arr with
   |some (sz',es)=>sz'=sz/\n<=es.length/\y = .sl sz (es.take n)
   |none=>False
 |_,_=>False
def dCs (bx:Nat->Box):List AC->List AC->Prop
 |[],[]=>True
 |x::xs,y::ys=>dC bx x y/\dCs bx xs ys
 |_,_=>False
def dPs (bx:Nat->Box):List (Bool×List AC)->List (Bool×List AC)->Prop
 |[],[]=>True
 |(g,x)::xs,(g',y)::ys=>g=g'/\dCs bx x y/\dPs bx xs ys
 |_,_=>False
def dV (bx:Nat->Box):AV->AV->Prop
 |.one x,.one y=>dC bx x y
 |.agg xs,.agg ys=>dCs bx xs ys
 |.wu xs,.wu ys=>dPs bx xs ys
 |_,_=>False
theorem aeD {bx:Nat->Box}{zs:List Nat}{x y:AC}(h:dC bx x y)(hz:∀b,b∈o8 [x]->b∈zs):IB zs bx (λ_=>none) [] x y:=by
 cases x<;>cases y<;>simp only[dC]at h<;>try exact h
 exact⟨hz _ (by simp[o8]),h⟩
theorem Xm {bx:Nat->Box}{zs:List Nat} : ∀{xs ys:List AC},dCs bx xs ys->(∀b,b∈o8 xs->b∈zs)->KO zs bx (λ_=>none) [] xs ys
 |[],[],_,_=>trivial
 |x::xs,y::ys,h,hz=>⟨aeD h.1 λb hb=>hz b (Dv.2 (.inl hb)),Xm h.2 λb hb=>hz b (Dv.2 (.inr hb))⟩
 |[],_::_,h,_=>h.elim
 |_::_,[],h,_=>h.elim
theorem aa6 {bx:Nat->Box}{zs:List Nat} : ∀{xs ys:List (Bool×List AC)},dPs bx xs ys->(∀b,b∈(AV.wu xs).owns->b∈zs)->Rt zs bx (λ_=>none) [] xs ys
 |[],[],_,_=>trivial
 | (g,x)::xs,(g',y)::ys,h,hz=>⟨h.1,Xm h.2.1 λb hb=>hz b (by simp only[AV.owns,bF,aW];exact .inl hb),aa6 h.2.2 λb hb=>hz b (by simp only[AV.owns,bF,aW]at hb⊢;exact .inr hb)⟩
 |[],_::_,h,_=>h.elim
 |_::_,[],h,_=>h.elim
theorem af2 {bx:Nat->Box}{x y:AV}(h:dV bx x y):YK x.owns bx (λ_=>none) [] x y:=by
 cases x<;>cases y<;>simp only[dV]at h<;>first|exact h.elim|skip
 ·exact aeD h λb hb=>hb
 ·exact Xm h λb hb=>hb
 ·exact aa6 h λb hb=>hb
def OB (rs:List Ba)(r:AV)(st:iy):Prop:=FH st rs/\dV st.bx (Rj st rs) r
def QP (rs:List Ba)(r:AV):AQ
 |.normal,st=>OB rs r st
 |.ret,st=>OB rs r st
 |.exit _,_=>False
theorem OB.ret {rs:List Ba}{r:AV}{st:iy}(h:OB rs r st):JU rs 0 (λr' bs=>r'=r/\bs=[]) st:=
 ⟨h.1,r,[],_,_,[],⟨rfl,rfl⟩,⟨λb=>by rw[SX];exact⟨rfl,by simp⟩,λb b' c _ _ h=>by simp at h,λb _=>rfl,λb hb=>by omega⟩,af2 h.2⟩
section
variable {P:Program}
theorem QW : ∀{l:List mQ} {st:iy} {K K':iy->Prop},(∀st,K st->K' st)->wpOps P l st K->wpOps P l st K'
 |[],st,_,_,hk,h=>hk st h
 |x::r,_,_,_,hk,h=>Nq (λ_ _ _ h=>QW (l:=r) hk h) (show T P x _ (λ_ _ st'=>wpOps P r st' _)from h)
theorem Ws : ∀{l:List (mQ×List Nat)} {i:Nat} {log:Log} {st:iy} {K K':iy->Prop},(∀st,K st->K' st)->wpD P l i log st K->wpD P l i log st K'
 |[],_,_,st,_,_,hk,h=>hk st h
 |(o,Il)::r,i,log,_,_,_,hk,h=>Nq (λ_ _ _ h=>⟨h.1,Ws (l:=r) hk h.2⟩) (show T P o _ (λrd wr st'=>zF Il rd wr log=true/\wpD P r (i+1) ((i,rd,wr)::log) st' _)from h)
theorem wpC_mono : ∀{c:bW} {Q Q':AQ} {st:iy},(∀e st,Q e st->Q' e st)->wpC P c Q st->wpC P c Q' st
 |.skip,_,_,st,hq,h=>hq .normal st h
 |.reg ops keep,_,_,st,hq,h=>QW (λst h=>hq .normal _ h) h
 |.qj ops keep,_,_,st,hq,h=>Ws (λst h=>hq .normal _ h) h
 |.seq a b,_,_,st,hq,h=>wpC_mono (c:=a) (λe st h=>by
  cases e with
  |normal=>exact wpC_mono (c:=b) hq h
  |exit id=>exact hq _ _ h
  |ret=>exact hq _ _ h) h
 |.cut a b,_,_,st,hq,⟨X,J,S,h1,h2⟩=>⟨X,J,S,wpC_mono (c:=a) (λe st h=>by
  cases e with
  |normal=>exact h
  |exit id=>exact hq _ _ h
  |ret=>exact hq _ _ h) h1,λx hx=>wpC_mono (c:=b) hq (h2 x hx)⟩
 |.cond c a b,_,_,st,hq,⟨h1,h2⟩=>⟨h1,by
  split at h2
  ·exact⟨λe=>wpC_mono (c:=a) hq (h2.1 e),λe=>wpC_mono (c:=b) hq (h2.2 e)⟩
  ·exact h2.elim⟩
 |.block id a,_,_,st,hq,h=>wpC_mono (c:=a) (λe st h=>by
  cases e with
  |normal=>exact hq _ _ h
  | exit id'=>
    simp only[xq.inBlock]at h⊢;split
    ·rename_i e;rw[if_pos e]at h;exact hq _ _ h
    ·rename_i e;rw[if_neg e]at h;exact hq _ _ h
  |ret=>exact hq _ _ h) h
 |.loop a,_,_,st,hq,⟨X,J,S,μ,h0,h1⟩=>⟨X,J,S,μ,h0,λx hx=>wpC_mono (c:=a) (λe st h=>by
  cases e with
  |normal=>exact h
  |exit id=>exact hq _ _ h
  |ret=>exact hq _ _ h) (h1 x hx)⟩
 |.exit id,_,_,st,hq,h=>hq _ _ h
 |.ret,_,_,st,hq,h=>hq _ _ h
theorem aZ {f:FuncId}{ac:bW}{rs:List Ba}{args:List AV}{r:AV}(hc:iR P f args.length 0 ac rs=true)(hwp:wpC P ac (QP rs r) (st0 args [])):dS P f args r:=by
 refine mV (fp:=[]) hc (wpC_mono (λe st h=>?_) hwp);cases e with
 |normal=>exact OB.ret h
 |ret=>exact OB.ret h
 |exit id=>exact h.elim
theorem Ho.intro {body:AQ->iy->Prop}{Q:AQ}{st:iy}{d1:DU body}{d2:DU Q}{X:Type}(J:X->Prop)(S:X->iy)(μ:X->Nat)(x0:X)(h0:J x0)(hw:JL 10 st (S x0))
 (h:∀x,J x->body (xq.then (λst'=>∃x',(J x'/\μ x'<μ x)/\JL 10 st' (S x')) Q) (S x)):Ho body Q st d1 d2:=
 ⟨X,J,S,μ,⟨x0,h0,hw⟩,h⟩
theorem Lc.intro {wa wb:AQ->iy->Prop}{Q:AQ}{st:iy}{d1:DU wa}{d2:DU wb}{d3:DU Q}{X:Type}(J:X->Prop)(S:X->iy)
 (h1:wa (xq.then (λst'=>∃x,J x/\JL 10 st' (S x)) Q) st) (h2:∀x,J x->wb Q (S x)):Lc wa wb Q st d1 d2 d3:=
 ⟨X,J,S,h1,h2⟩
def ER (bx:Nat->Box):AC->AC
 |.jC sz=>.c (.sl sz [])
 | .own b n sz=>match(bx b).arr with
   |some (_,es)=>.c (.sl sz (es.take n))
   |none=>.IZ
 |x=>x
def CB (bx:Nat->Box):AV->AV
 |.one x=>.one (ER bx x)
 |.agg xs=>.agg (xs.map (ER bx))
 |.wu xs=>.wu xs
def yG (bx:Nat->Box):List AV->Prop
 |[]=>True
 |.wu _::_=>False
 |x::r=>zi bx x.cells/\yG bx r
theorem I5 {bx:Nat->Box} : ∀{xs:List AC},zi bx xs->CvL bx xs (xs.map (ER bx))
 |[],_=>.nil
 | x::r,h=>by
   cases x with
   | own b n sz=>
     obtain⟨h1,h2⟩:=h;refine .cons ?_ (I5 h2);simp only[ER];cases hb:(bx b).arr with
     |none=>rw[hb]at h1;exact h1.elim
     |some p=>obtain⟨sz',es⟩:=p;rw[hb]at h1;obtain⟨rfl,h1⟩:=h1;exact .own b n sz' es hb h1
   |jC sz=>exact .cons (.jC sz) (I5 (xs:=r) h)
   |_=>exact .cons (.refl _) (I5 (xs:=r) h)
theorem I7 {bx:Nat->Box} : ∀{xs:List AV},yG bx xs->J3 bx xs (xs.map (CB bx))
 |[],_=>.nil
 | x::r,h=>by
   cases x with
   | one x=>
     refine .cons ?_ (I7 h.2);have:=I5 (xs:=[x]) h.1;cases this with
     |cons h t=>exact .one h
   |agg xs=>exact .cons (.agg (I5 h.1)) (I7 h.2)
   |wu xs=>exact h.elim
variable {f:FuncId} {uZ:List AV} {p:Bool} {d:Option Nat} {st:iy} {K:List Nat->List Nat->iy->Prop} {du:DU K}
theorem vI.lit (r:AV)(h:p=true->dS P f (uZ.map (CB st.bx)) r)(hl:p=true->yG st.bx uZ)(hd:(uZ.map (CB st.bx)).all (·.all AC.xx)=true)(hr:r.all AC.isLit=true)
 (k:K (uZ.flatMap AV.owns) [] (st.zU d (.v p r))):vI P f uZ p d st K du:=
 La.lit _ r (λe=>I7 (hl e)) hd h hr k
theorem vI.pure (r:AV)(hp:p=true)(h:dS P f (uZ.map (CB st.bx)) r)(hl:yG st.bx uZ)(hd:(uZ.map (CB st.bx)).all (·.all AC.xx)=true)(hr:r.all AC.xx=true)
 (k:K (uZ.flatMap AV.owns) (uZ.flatMap AV.owns) ((st.EP (uZ.flatMap AV.owns)).zU d (.v true r))):vI P f uZ p d st K du:=
 La.pure _ r hp (I7 hl) hd h hr k
end
end
section
def TK (P:Program)(o:mQ)(st:iy)(K:List Nat->List Nat->iy->Prop)(_:DU o)(_:DU K):Prop:=T P o st K
def Oe (P:Program)(ops:List mQ)(st:iy)(K:iy->Prop)(_:DU ops)(_:DU K):Prop:=wpOps P ops st K
def aay (P:Program)(ops:List (mQ×List Nat))(i:Nat)(log:List (Nat×List Nat×List Nat))(st:iy)(K:iy->Prop)(_:DU ops)(_:DU K):Prop:=wpD P ops i log st K
def BC (P:Program)(c:bW)(Q:AQ)(st:iy)(_:DU c)(_:DU Q):Prop:=wpC P c Q st
def QK (Q:AQ)(e:xq)(st:iy)(_:DU Q):Prop:=Q e st
def JY (c:bW)(P:Program)(Q:AQ):AQ:=xq.then (wpC P c Q) Q
section
variable {P:Program} {st:iy} {K:List Nat->List Nat->iy->Prop} {k:iy->Prop} {Q:AQ}
theorem adz {g:Option (Nat×Bool)}{d:Option Nat}{f:FuncId}{args:List oW}{d1:DU (mQ.mk g d (.call f args))}{d2:DU K} :
 TK P ⟨g,d,.call f args⟩ st K d1 d2=(CV st.tm g/\(uI st.tm g=true->∀x,x∈args->(x.ev st.tm).g=true)/\vI P f (args.map (eu st.tm)) (uI st.tm g) d st K .mk):=by
 unfold TK T;rfl
def Np (P:Program)(x:AV)(args:List AV)(p:Bool)(d:Option Nat)(st:iy)(K:List Nat->List Nat->iy->Prop)(_:DU K):Prop:=
 match p,x with
 |false,_=>vI P 0 [] false d st K .mk
 |true,.one (.fn f caps)=>zT P f=true/\vI P f (args++caps.map λb=>.one (.ptr b 0)) true d st K .mk
 |true,_=>False
theorem YY {f:FuncId}{caps:List Nat}{args:List AV}{d:Option Nat}{du:DU K} : Np P (.one (.fn f caps)) args true d st K du=(zT P f=true/\vI P f (args++caps.map λb=>.one (.ptr b 0)) true d st K .mk):=by unfold Np;rfl
theorem aaT {x:AV}{args:List AV}{d:Option Nat}{du:DU K} : Np P x args false d st K du=vI P 0 [] false d st K .mk:=by unfold Np;rfl
theorem aaU {g:Option (Nat×Bool)}{d:Option Nat}{x:oW}{args:List oW}{d1:DU (mQ.mk g d (.FX x args))}{d2:DU K} :
 TK P ⟨g,d,.FX x args⟩ st K d1 d2=(CV st.tm g/\(uI st.tm g=true->(x.ev st.tm).g=true/\∀x,x∈args->(x.ev st.tm).g=true)/\Np P (eu st.tm x) (args.map (eu st.tm)) (uI st.tm g) d st K .mk):=by
 unfold TK T Np;rfl
theorem X4 {d1:DU ([]:List mQ)}{d2:DU k} : Oe P [] st k d1 d2=k st:=by unfold Oe wpOps;rfl
theorem Wu {o:mQ}{r:List mQ}{d1:DU (o::r)}{d2:DU k} : Oe P (o::r) st k d1 d2=TK P o st (λ_ _ st'=>Oe P r st' k .mk .mk) .mk .mk:=by unfold Oe TK;rfl
theorem ac2 {i:Nat}{log:List (Nat×List Nat×List Nat)}{d1:DU ([]:List (mQ×List Nat))}{d2:DU k} : aay P [] i log st k d1 d2=k st:=by unfold aay wpD;rfl
theorem aaz {i:Nat}{log:List (Nat×List Nat×List Nat)}{o:mQ}{Il:List Nat}{r:List (mQ×List Nat)}{d1:DU ((o,Il)::r)}{d2:DU k} :
 aay P ((o,Il)::r) i log st k d1 d2=TK P o st (λrd wr st'=>zF Il rd wr log=true/\aay P r (i+1) ((i,rd,wr)::log) st' k .mk .mk) .mk .mk:=by
 unfold aay TK;rfl
theorem aax {d1:DU bW.skip}{d2:DU Q} : BC P .skip Q st d1 d2=QK Q .normal st .mk:=by unfold BC wpC;rfl
theorem acZ {ops:List mQ}{keep:List Nat}{d1:DU (bW.reg ops keep)}{d2:DU Q} : BC P (.reg ops keep) Q st d1 d2=Oe P ops st (λst=>QK Q .normal (st.keep keep) .mk) .mk .mk:=by unfold BC wpC;rfl
theorem aaw {ops:List (mQ×List Nat)}{keep:List Nat}{d1:DU (bW.qj ops keep)}{d2:DU Q} : BC P (.qj ops keep) Q st d1 d2=aay P ops 0 [] st (λst=>QK Q .normal (st.keep keep) .mk) .mk .mk:=by unfold BC wpC;rfl
theorem ac1 {a b:bW}{d1:DU (bW.seq a b)}{d2:DU Q} : BC P (.seq a b) Q st d1 d2=BC P a (JY b P Q) st .mk .mk:=by unfold BC;rw[wpC];rfl
theorem acY {a b:bW}{d1:DU (bW.cut a b)}{d2:DU Q} : BC P (.cut a b) Q st d1 d2=Lc (wpC P a) (wpC P b) Q st .mk .mk .mk:=by unfold BC;rw[wpC]
theorem aav {a:bW}{d1:DU (bW.loop a)}{d2:DU Q} : BC P (.loop a) Q st d1 d2=Ho (wpC P a) Q st .mk .mk:=by unfold BC;rw[wpC]
theorem X3 {id:Nat}{a:bW}{d1:DU (bW.block id a)}{d2:DU Q} : BC P (.block id a) Q st d1 d2=BC P a (xq.inBlock id Q) st .mk .mk:=by unfold BC;rw[wpC]
theorem aau {id:Nat}{d1:DU (bW.exit id)}{d2:DU Q} : BC P (.exit id) Q st d1 d2=QK Q (.exit id) st .mk:=by unfold BC wpC;rfl
theorem ac0 {d1:DU bW.ret}{d2:DU Q} : BC P .ret Q st d1 d2=QK Q .ret st .mk:=by unfold BC wpC;rfl
def RI (P:Program)(c:AV)(a b:bW)(Q:AQ)(st:iy)(_:DU a)(_:DU b)(_:DU Q):Prop:=
 match c with
 |.one (.c (.lit (.bool t)))=>(t=true->wpC P a Q st)/\(t=false->wpC P b Q st)
 |_=>False
theorem aat {c:oW}{a b:bW}{d1:DU (bW.cond c a b)}{d2:DU Q} : BC P (.cond c a b) Q st d1 d2=((c.ev st.tm).g=true/\RI P (c.ev st.tm).x a b Q st .mk .mk .mk):=by unfold BC RI;rw[wpC]<;>rfl
theorem adM {a b:bW}{d1:DU a}{d2:DU b}{d3:DU Q} : RI P (.one (.c (.lit (.bool true)))) a b Q st d1 d2 d3=BC P a Q st .mk .mk:=by unfold RI BC;simp
theorem adL {a b:bW}{d1:DU a}{d2:DU b}{d3:DU Q} : RI P (.one (.c (.lit (.bool false)))) a b Q st d1 d2 d3=BC P b Q st .mk .mk:=by unfold RI BC;simp
theorem YW {b:bW}{du:DU (JY b P Q)} : QK (JY b P Q) .normal st du=BC P b Q st .mk .mk:=by unfold QK JY BC;rfl
theorem YV {b:bW}{id:Nat}{du:DU (JY b P Q)} : QK (JY b P Q) (.exit id) st du=QK Q (.exit id) st .mk:=by unfold QK JY;rfl
theorem YX {b:bW}{du:DU (JY b P Q)} : QK (JY b P Q) .ret st du=QK Q .ret st .mk:=by unfold QK JY;rfl
theorem YT {k:iy->Prop}{du:DU (xq.then k Q)} : QK (xq.then k Q) .normal st du=k st:=by unfold QK;rfl
theorem YS {k:iy->Prop}{id:Nat}{du:DU (xq.then k Q)} : QK (xq.then k Q) (.exit id) st du=QK Q (.exit id) st .mk:=by unfold QK;rfl
theorem YU {k:iy->Prop}{du:DU (xq.then k Q)} : QK (xq.then k Q) .ret st du=QK Q .ret st .mk:=by unfold QK;rfl
theorem WI {id:Nat}{du:DU (xq.inBlock id Q)} : QK (xq.inBlock id Q) .normal st du=QK Q .normal st .mk:=by unfold QK;rfl
theorem WH {id id':Nat}{du:DU (xq.inBlock id Q)} : QK (xq.inBlock id Q) (.exit id') st du=if id'=id then QK Q .normal st .mk else QK Q (.exit id') st .mk:=by unfold QK;rfl
theorem WJ {id:Nat}{du:DU (xq.inBlock id Q)} : QK (xq.inBlock id Q) .ret st du=QK Q .ret st .mk:=by unfold QK;rfl
theorem adv {rs:List Ba}{r:AV}{du:DU (QP rs r)} : QK (QP rs r) .normal st du=OB rs r st:=by unfold QK;rfl
theorem adw {rs:List Ba}{r:AV}{du:DU (QP rs r)} : QK (QP rs r) .ret st du=OB rs r st:=by unfold QK;rfl
theorem adt {rs:List Ba}{m:Nat}{post:AV->List Box->Prop}{du:DU (QF rs m post)} : QK (QF rs m post) .normal st du=JU rs m post st:=by unfold QK;rfl
theorem adu {rs:List Ba}{m:Nat}{post:AV->List Box->Prop}{du:DU (QF rs m post)} : QK (QF rs m post) .ret st du=JU rs m post st:=by unfold QK;rfl
theorem qi {c:bW}(h:BC P c Q st .mk .mk):wpC P c Q st:=h
theorem agr {a:bW}{d1:DU (wpC P a)}{d2:DU Q}{X:Type}(J:X->Prop)(S:X->iy)(μ:X->Nat)(x0:X)(h0:J x0)(hw:JL 10 st (S x0))
 (h:∀x,J x->BC P a (xq.then (λst'=>∃x',(J x'/\μ x'<μ x)/\JL 10 st' (S x')) Q) (S x) .mk .mk):Ho (wpC P a) Q st d1 d2:=
 Ho.intro J S μ x0 h0 hw h
theorem agV {a b:bW}{d1:DU (wpC P a)}{d2:DU (wpC P b)}{d3:DU Q}{X:Type}(J:X->Prop)(S:X->iy)
 (h1:BC P a (xq.then (λst'=>∃x,J x/\JL 10 st' (S x)) Q) st .mk .mk) (h2:∀x,J x->BC P b Q (S x) .mk .mk):Lc (wpC P a) (wpC P b) Q st d1 d2 d3:=
 Lc.intro J S h1 h2
end
end
section
inductive Nd where
 |mk (k w:Int) (s:List UInt8) (ws:List (List UInt8)) (ks:List Nd)
abbrev aO :=List UInt8
def ahn (ws:List aO):List (List Cell):=ws.map λw=>[.str w]
mutual
def Nd.cells : Nd->List Cell
 |.mk k w s ws ks=>[.lit (.int .i64 k),.lit (.int .i64 w),.str s,.sl 1 (ahn ws),.sl 5 (Nd.Hq ks)]
def Nd.Hq : List Nd->List (List Cell)
 |[]=>[]
 |x::r=>x.cells::Nd.Hq r
end
theorem Nd.RD (ks:List Nd):Nd.Hq ks=ks.map Nd.cells:=by
 induction ks with
 |nil=>rfl
 |cons x r ih=>simp[Nd.Hq,ih]
def Uy : List AC->Bool
 |[]=>true
 |.c _::r=>Uy r
 |_=>false
def JG : List AV->Bool
 |[]=>true
 |.one (.c _)::r=>JG r
 |.agg xs::r=>Uy xs&&JG r
 |_=>false
theorem MP {bx:Nat->Box} : ∀{xs:List AC},Uy xs=true->xs.map (ER bx)=xs/\zi bx xs/\xs.all AC.xx=true/\o8 xs=[]
 |[],_=>⟨rfl,trivial,rfl,rfl⟩
 | x::r,h=>by
   cases x with
   | c x=>obtain⟨h1,h2,h3,h4⟩:=MP (bx:=bx) (xs:=r) h;exact⟨by simp[ER,h1],h2,by simp[AC.xx,h3],by simp[o8,h4]⟩
   |_=>cases h
theorem Fb {bx:Nat->Box} : ∀{xs:List AV},JG xs=true->xs.map (CB bx)=xs/\yG bx xs/\xs.all (·.all AC.xx)=true/\xs.flatMap AV.owns=[]
 |[],_=>⟨rfl,trivial,rfl,rfl⟩
 | x::r,h=>by
   cases x with
   | one x=>
     cases x with
     | c x=>obtain⟨h1,h2,h3,h4⟩:=Fb (bx:=bx) (xs:=r) h;exact⟨by simp[CB,ER,h1],⟨trivial,h2⟩,by rw[dJ,h3];rfl,by simp[AV.owns,o8,h4]⟩
     |_=>cases h
   | agg xs=>simp only[JG,ah]at h;obtain⟨h1,h2,h3,h4⟩:=Fb (bx:=bx) (xs:=r) h.2;obtain⟨j1,j2,j3,j4⟩:=MP (bx:=bx) h.1;refine⟨by simp only[bJ,CB,j1,h1],⟨j2,h2⟩,?_,by simp only[bF,AV.owns,j4,h4,eX]⟩;rw[dJ,h3,Bool.and_true];exact j3
   |wu xs=>cases h
section
variable {P:Program} {f:FuncId} {uZ:List AV} {p:Bool} {d:Option Nat} {st:iy} {K:List Nat->List Nat->iy->Prop} {du:DU K}
theorem adP (st:iy):st.EP []=st:=by
 apply iy.ext'
 ·rfl
 ·funext b;simp[iy.EP]
theorem aeA {r:AV}(h:dS P f uZ r)(hs:JG uZ=true)(hr:r.all AC.xx=true)(k:K [] [] (st.zU d (.v true r))):vI P f uZ true d st K du:=by obtain⟨h1,h2,h3,h4⟩:=Fb (bx:=st.bx) hs;refine vI.pure r rfl (by rw[h1];exact h) h2 (by rw[h1];exact h3) hr ?_;rw[h4,adP];exact k
theorem aey {r:AV}(h:p=true->dS P f uZ r)(hs:JG uZ=true)(hr:r.all AC.isLit=true)(k:K [] [] (st.zU d (.v p r))):vI P f uZ p d st K du:=by obtain⟨h1,h2,h3,h4⟩:=Fb (bx:=st.bx) hs;refine vI.lit r (λe=>by rw[h1];exact h e) (λ_=>h2) (by rw[h1];exact h3) hr ?_;rw[h4];exact k
end
theorem agT (b:Bool):(b==true)=b:=by cases b<;>rfl
theorem agS (b:Bool):(b==false) = !b:=by cases b<;>rfl
end
section
def cI (x:Int):List Cell:=[.lit (.int .i64 x)]
def cU (x:Int):List Cell:=[.lit (.int .u8 x)]
def cK (k:IntKind)(x:Int):List Cell:=[.lit (.int k x)]
def cB (x:Bool):List Cell:=[.lit (.bool x)]
def cS (x:aO):List Cell:=[.str x]
def cL {α:Type}(sz:Nat)(f:α->List Cell)(xs:List α):List Cell:=[.sl sz (ag f xs)]
def chk (c:Prop)[Decidable c]{α:Type}(k:Option α):Option α:=if c then k else none
theorem yP {c:Prop}[Decidable c]{α:Type}{k:Option α}{r:α} : chk c k=some r<->c/\k=some r:=by unfold chk;split<;>simp[*]
theorem Zf {b:Bool}{α:Type}{x y:Option α}{r:α} : cond b x y=some r<->(b=true/\x=some r)\/(b=false/\y=some r):=by cases b<;>simp
def yO (xs:List Int):aO:=xs.map λx=>dR x.toNat
theorem WW (xs:List Int):bytesOf (ag cU xs)=some (yO xs):=by
 induction xs with
 |nil=>rfl
 |cons x r ih=>simp[cU,bytesOf,ih,yO]
theorem U9 : bytesOf []=some []:=rfl
theorem Va (n:Int)(r:List (List Cell)):bytesOf ([.lit (.int .u8 n)]::r)=Option.map (λl=>dR n.toNat::l) (bytesOf r):=by simp only[bytesOf];cases bytesOf r<;>rfl
theorem AB (xs:List Int):(yO xs).length=xs.length:=by simp[yO]
theorem Zp {α:Type}[Inhabited α]{f:α->List Cell}{xs:List α}{i:Nat}(h:i<xs.length):(ag f xs).getD i []=f (xs.getD i default):=by simp[h]
theorem take_len {α:Type}{l:List α}{n:Nat}(h:l.length=n):l.take n=l:=by subst h;simp
theorem JI {α:Type}{x:α}{l:List α}{n:Nat}(h:l.length=n):(x::l).take (1+n)=x::l:=by subst h;rw[zO];simp
theorem JJ {α:Type}{x y:α}{l:List α}{n:Nat}(h:l.length=n):(x::y::l).take (2+n)=x::y::l:=by subst h;rw[zO];simp
def Qc (l:List Nat):List (Nat×Box)->List (Nat×Box)
 |[]=>[]
 |(b,x)::r=>(b,if l.contains b then Gi x else x)::Qc l r
theorem Zo (l:List Nat)(bs:List (Nat×Box))(b:Nat):su (Qc l bs) b=if b∈l then Gi (su bs b)else su bs b:=by
 induction bs with
 |nil=>simp[Qc,su,Gi]
 | cons p r ih=>
   obtain⟨c,x⟩:=p;simp only[Qc,su,ih];by_cases h:c=b
   ·subst h;simp
   ·simp[h]
theorem Yx (ts:List (Nat×Slot))(bs:List (Nat×Box))(l:List Nat):(iy.of ts bs).EP l=iy.of ts (Qc l bs):=by
 apply iy.ext'
 ·rfl
 ·funext b
  simp only[iy.EP];rw[ET,ET,Zo]
theorem abk (bs:List (Nat×Box)):Qc [] bs=bs:=by
 induction bs with
 |nil=>rfl
 |cons p r ih=>obtain⟨c,x⟩:=p;simp[Qc,ih]
def TGK (g:Bool)(o:nH)(d:Option Nat)(st:iy)(K:List Nat->List Nat->iy->Prop)(_:DU o)(_:DU K):Prop:=TOp o g d st K
def aeX (valid:Prop)(rd:List Nat)(r:FR)(d:Option Nat)(st:iy)(K:List Nat->List Nat->iy->Prop)(_:DU K):Prop:=
 valid/\r.vc/\K rd (r.sets.map (·.1)) ((st.sS r.sets).zU d (.v true r.v))
section
variable {P:Program} {st:iy} {K:List Nat->List Nat->iy->Prop}
theorem aeW {g:Option (Nat×Bool)}{d:Option Nat}{op:nH}{d1:DU (mQ.mk g d (.op op))}{d2:DU K} :
 TK P ⟨g,d,.op op⟩ st K d1 d2=(CV st.tm g/\TGK (uI st.tm g) op d st K .mk .mk):=by
 unfold TK T TGK;rfl
theorem afX {op:nH}{d:Option Nat}{d1:DU op}{d2:DU K} : TGK true op d st K d1 d2=aeX (op.valid (oW.ev st.tm)) (op.rd (eu st.tm)) (op.f (eu st.tm) st.bx) d st K .mk:=by unfold TGK TOp aeX;simp
theorem afW {op:nH}{d:Option Nat}{d1:DU op}{d2:DU K} : TGK false op d st K d1 d2=K [] [] (st.zU d (.v false (.one .IZ))):=by unfold TGK TOp;simp
theorem aeY {valid:Prop}{rd:List Nat}{vc:Prop}{v:AV}{sets:List (Nat×Box)}{d:Option Nat}{du:DU K} :
 aeX valid rd ⟨vc,v,sets⟩ d st K du=(valid/\vc/\K rd (sets.map (·.1)) ((st.sS sets).zU d (.v true v))):=rfl
end
section
variable {P:Program} {f:FuncId} {uZ:List AV} {d:Option Nat} {st:iy} {K:List Nat->List Nat->iy->Prop} {du:DU K}
theorem aew {WO:List AV}{r:AV}(h:dS P f WO r)(he:uZ.map (CB st.bx)=WO)(hl:yG st.bx uZ)(hd:WO.all (·.all AC.xx)=true)(hr:r.all AC.xx=true)
 (k:K (uZ.flatMap AV.owns) (uZ.flatMap AV.owns) ((st.EP (uZ.flatMap AV.owns)).zU d (.v true r))):vI P f uZ true d st K du:=by
 subst he;exact vI.pure r rfl h hl hd hr k
theorem aex {WO:List AV}{r:AV}(h:dS P f WO r)(he:uZ.map (CB st.bx)=WO)(hl:yG st.bx uZ)(hd:WO.all (·.all AC.xx)=true)(hr:r.all AC.isLit=true)
 (k:K (uZ.flatMap AV.owns) [] (st.zU d (.v true r))):vI P f uZ true d st K du:=by
 subst he;exact vI.lit r (λ_=>h) (λ_=>hl) hd hr k
theorem aez (k:K (uZ.flatMap AV.owns) [] (st.zU d (.v false (.one (.c (.lit (.bool true))))))):vI P f uZ false d st K du:=
 La.lit [] (.one (.c (.lit (.bool true)))) (λe=>by cases e) rfl (λe=>by cases e) rfl k
def Rn (st:iy)(sg:List Nat):List Box->Nat->Prop
 |[],_=>True
 |x::r,i=>st.bx (sg.getD i 0)=Dh (λb=>sg.getD b 0) x/\Rn st sg r (i+1)
theorem Uw {st:iy}{sg:List Nat} : ∀{fp:List Box} {i0 i:Nat},Rn st sg fp i0->i<fp.length->st.bx (sg.getD (i0+i) 0)=Dh (λb=>sg.getD b 0) (fp.getD i .absent)
 |[],_,_,_,h=>by simp at h
 |x::r,i0,0,h,_=>by simpa using h.1
 | x::r,i0,i+1,h,hi=>by have:=Uw (i:=i) h.2 (by simpa using hi);simpa[Nat.add_assoc,zO 1 i]using this
def Rh (st:iy):List Nat->Prop
 |[]=>True
 |b::r=>st.bx b = .absent/\10<=b/\Rh st r
theorem Uc {st:iy} : ∀{nu:List Nat},Rh st nu->∀b,b∈nu->st.bx b = .absent/\10<=b
 |[],_,_,h=>by cases h
 | c::r,h,b,hb=>by
   rcases cO.1 hb with e|e
   ·subst e;exact⟨h.1,h.2.1⟩
   ·exact Uc h.2.2 b e
theorem af0 {ds:List AV}{fp Fg:List Box}{r0:AV}(sg nu:List Nat)(h:lD P f ds fp (λr bs=>r=r0/\bs=Fg))(hl:sg.length=fp.length)(hn:nodupB (sg++nu)=true)(hf:Rn st (sg++nu) fp 0)(hv:Rh st nu)
 (hra:(ds.all λx=>x.all (AC.vM fp.length))=true) (hrf:fp.all (Box.vM fp.length)=true) (ha:uZ=ds.map (DJ λb=>(sg++nu).getD b 0)) (hb:Fg.length=(sg++nu).length)
 (k:K (sg++nu) (sg++nu) ((st.sS ((sg++nu).zip (Fg.map (Dh λb=>(sg++nu).getD b 0)))).zU d (.v true (DJ (λb=>(sg++nu).getD b 0) r0)))):vI P f uZ true d st K du:=by
 refine La.gen rfl ds fp sg nu _ hl (KE.1 hn) (λi hi=>?_) ⟨r0,Fg,rfl,rfl⟩ (Uc hv) hra hrf ha h (λr bs hp=>?_)
 ·have:=Uw (i:=i) hf hi;rw[kD]at this;exact this
 ·obtain⟨rfl,rfl⟩:=hp;exact⟨hb,k⟩
end
section
variable {P:Program} {f:FuncId} {uZ:List AV} {d:Option Nat} {st:iy} {K:List Nat->List Nat->iy->Prop} {du:DU K}
theorem af1 {ds:List AV}{fp Fg:List Box}{r0:AV}(sg nu:List Nat)(h:lD P f ds fp (λr bs=>r=r0/\bs=Fg))(he:uZ.map (CB st.bx)=ds.map (DJ λb=>(sg++nu).getD b 0))(hlo:yG st.bx uZ)
 (hl:sg.length=fp.length) (hn:nodupB (sg++nu)=true) (hf:Rn (st.EP (uZ.flatMap AV.owns)) (sg++nu) fp 0) (hv:Rh st nu)
 (hra:(ds.all λx=>x.all (AC.vM fp.length))=true) (hrf:fp.all (Box.vM fp.length)=true) (hb:Fg.length=(sg++nu).length)
 (k:K (uZ.flatMap AV.owns++(sg++nu)) (uZ.flatMap AV.owns++(sg++nu)) (((st.EP (uZ.flatMap AV.owns)).sS ((sg++nu).zip (Fg.map (Dh λb=>(sg++nu).getD b 0)))).zU d (.v true (DJ (λb=>(sg++nu).getD b 0) r0)))):vI P f uZ true d st K du:=by
 refine La.OH rfl _ (I7 hlo) ds fp sg nu _ hl (KE.1 hn) (λi hi=>?_) ⟨r0,Fg,rfl,rfl⟩ (Uc hv) hra hrf he h (λr bs hp=>?_)
 ·have:=Uw (i:=i) hf hi;rw[kD]at this;exact this
 ·obtain⟨rfl,rfl⟩:=hp;exact⟨hb,k⟩
end
theorem abR (Il:List Nat)(log:List (Nat×List Nat×List Nat)):zF Il [] [] log=true:=by
 induction log with
 |nil=>rfl
 |cons e r ih=>obtain⟨j,a,b⟩:=e;simp[zF,Kt,ih]
theorem abQ (Il rd wr:List Nat):zF Il rd wr []=true:=rfl
theorem ae1 (bs:List Box):DN bs=su (DL bs 0):=by
 funext b
 rw[I8];simp[DN]
theorem N7 {rs:List Ba}{ts:List (Nat×Slot)}{Fg:List (Nat×Box)}{m:Nat}{r:AV}{bs:List Box}(zs:List Nat)(pi:List (Nat×Nat))(vs:List Nat)(hk:NR m Fg (DL bs 0) pi vs=true)
 (hok:FH (iy.of ts Fg) rs) (hb:QU zs (su Fg) (Q4 pi) vs (DL bs 0)) (hv:YK zs (su Fg) (Q4 pi) vs (Rj (iy.of ts Fg) rs) r) :
 JU rs m (λr1 b1=>r1=r/\b1=bs) (iy.of ts Fg):=by
 refine⟨hok,r,bs,zs,Q4 pi,vs,⟨rfl,rfl⟩,?_,?_⟩
 ·rw[KF,ae1];exact acW zs pi vs hk hb
 ·rw[KF];exact hv
end
section
section
variable {P:Program} {f:FuncId}
theorem Yb {n sz:Nat}{az:List AV}{fp:List Box}{post:AV->List Box->Prop}(h:∀c,n<=c->lD P f (.one (.sub 0 0 n (some c) sz)::az) fp post) :
 lD P f (.one (.own 0 n sz)::az) fp post:=by
 intro I ρ w vs ht ha hb hv;obtain⟨hl,hg⟩:=hv;cases vs with
 |nil=>simp at hl
 | cons v vs=>
   obtain⟨k,cap,a,c,h1,h2,h3,h4,h5⟩:=hg 0 v _ rfl rfl;refine h c h3 I ρ w (v::vs) ht ha hb ⟨by simpa using hl,λj u x hj hx=>?_⟩;cases j with
   | zero=>simp at hj hx;subst hj hx;refine⟨k,cap,a,c,h1,h2,h3,by omega,(λc0 e=>by cases e;rfl),λe=>?_⟩;rw[Cf];exact h5 (by rcases e with e|e<;>omega)
   |succ j=>exact hg (j+1) u x hj (by simpa using hx)
end
theorem Eu {x:Int}(h0:0<=x)(h1:x<9223372036854775808):af .i64 x=x:=by simp only[af,Go.IntKind.bits,Go.IntKind.signed];simp;omega
theorem ahe {α:Type}(es:List α)(v:α)(i:Nat)(h:i<es.length) :
 splice (splice es (i+1) (((es.drop i).take (min (es.length+1-i) (es.length+1-(i+1)))).take (es.length+1-(i+1)))) i ([v].take (es.length+1-i))=es.take i++v::es.drop i:=by
 have e1:[v].take (es.length+1-i)=[v]:=aF (by simp;omega);have e2:((es.drop i).take (min (es.length+1-i) (es.length+1-(i+1)))).take (es.length+1-(i+1))=es.drop i:=by rw[aF (by simp;omega),aF (by simp;omega)]
 rw[e1,e2];simp only[splice];have e3:es.drop (i+1+(es.drop i).length)=[]:=Ap (by simp;omega);rw[e3,eX];have e4:(es.take (i+1)).length=i+1:=by simp;omega
 rw[o5 (by omega),List.take_take,Nat.min_eq_left (by omega),List.length_singleton,List.drop_append_of_le_length (by omega),ak (by omega)];simp
theorem ahf {α:Type}(es:List α)(v z:α)(i k:Nat)(h:i<es.length)(hk:k=i+(es.length+1-i)) :
 splice (splice (es.take i++bU (es.length+1-i) z) i ([v].take (k-i))) (i+1) (((es.drop i).take (min (es.length-i) (k-(i+1)))).take (k-(i+1)))=es.take i++v::es.drop i:=by
 have hk2:k=es.length+1:=by omega
 subst hk2;have e1:[v].take (es.length+1-i)=[v]:=aF (by simp;omega);have e2:((es.drop i).take (min (es.length-i) (es.length+1-(i+1)))).take (es.length+1-(i+1))=es.drop i:=by rw[aF (by simp),aF (by simp)]
 rw[e1,e2];have e4:(es.take i).length=i:=by simp;omega
 obtain⟨q,hq⟩:∃q,es.length+1-i=q+1:=⟨es.length-i,by omega⟩;rw[hq,List.replicate_succ];have e5:splice (es.take i++z::bU q z) i [v]=es.take i++[v]++bU q z:=by simp only[splice];rw[o5 (by omega),aF (by omega),List.drop_append,ak (by rw[e4];omega),gJ,e4];simp
 rw[e5];have e6:(es.take i++[v]).length=i+1:=by rw[ay,e4];rfl
 simp only[splice];have e7:(es.take i++[v]++bU q z).drop (i+1+(es.drop i).length)=[]:=Ap (by rw[ay,e6,List.length_replicate,List.length_drop];omega);rw[e7,o5 (by omega),aF (by omega)];simp
theorem af5 {α:Type}(f:α->List Cell)(k:Nat)(hf:∀t,(f t).length<=k){l:List α}{i j:Nat}{v:List Cell}(hv:v.length<=k):mM k (((ag f l).set i v).getD j [])=[]:=by
 have key:∀(m:List (List Cell)),(∀y,y∈m->y.length<=k)->mM k (m.getD j [])=[]:=by
  intro m hm;apply ak;by_cases hj:j<m.length
  ·rw[show m.getD j []=m[j] by simp[bu,hj]];exact hm _ (dO hj)
  ·rw[show m.getD j []=[] by simp[bu,nG (Af hj)]];simp
 apply key;intro y hy;rcases List.mem_or_eq_of_mem_set hy with h|h
 ·obtain⟨t,_,rfl⟩:=oZ.1 h;exact hf t
 ·rw[h];exact hv
theorem ae9 {l:List aO}{i j:Nat}{x:Cell} : mM 1 (((ag cS l).set i [x]).getD j [])=[]:=af5 cS 1 (λt=>by simp[cS]) (by simp)
end
section
def CX (e:TypeId)(v:Value)(l:List UInt8)(w:World):Prop:=
 (v = .slice none 0 0/\l=[])\/∃g cap cs,v = .slice (some ⟨g,0,none⟩) l.length cap/\cap≠0/\l.length<=cap/\cap<=maxLen/\w.heap[g]? = some (.cells cs e (0,0))/\cs.size=cap /\
  (∀(j:Nat) (u:Value),cs[j]? = some u->u.oneCell'=true)/\∀(j:Nat) (x:UInt8),l[j]? = some x->cs[j]? = some (.int .u8 x.toNat)
def Ph (w w':World)(v v':Value):Prop:=w.grownBy w' v.ownBlock/\(v'.ownBlock=v.ownBlock\/∃g,v'.ownBlock=some g/\w.heap.size<=g)
section
variable {P:Program} {w:World}
theorem SL (l:List UInt8)(j:Nat):(bV l)[j]? = (l[j]?).map λx=>lY .u8 x.toNat:=by simp[bV]
theorem WR (l:List UInt8):∀u∈bV l,u.oneCell'=true:=λu hu=>by simp[bV]at hu;obtain⟨a,_,rfl⟩:=hu;rfl
theorem V4 {e:TypeId}(l:List UInt8)(h0:l≠[])(cap:Nat)(hc:l.length<=cap)(hm:cap<=maxLen)(w0:World)(z:Array Value)(hz:z=(bV l).toArray++bH (lY .u8 0).cells (cap-l.length)) :
 CX e (.slice (some ⟨w0.heap.size,0,none⟩) l.length cap) l (w0.alloc (.cells z e)):=by
 have hl:0<l.length:=mZ.2 h0;have hzs:(bH (lY .u8 0).cells (cap-l.length)).size=cap-l.length:=by rw[size_zeroCells];exact vw _
 refine .inr ⟨w0.heap.size,cap,z,rfl,by omega,hc,hm,heap_alloc_new w0 _,?_,λj u hu=>?_,λj x hx=>?_⟩
 ·rw[hz,Array.size_append,hzs,List.size_toArray,mJ];omega
 ·rw[hz]at hu;rcases oq.1 hu with⟨hj,hu⟩
  have hm:u∈(bV l).toArray++bH (lY .u8 0).cells (cap-l.length):=hu▸Array.getElem_mem hj;rcases Array.mem_append.1 hm with hm|hm
  ·exact WR l u (by simpa using hm)
  ·simp[bH,Go.Value.cells]at hm;obtain⟨i,_,h⟩:=hm;rw[Nat.mod_one]at h;rw[<- h];rfl
 ·have hj:=(bn.1 hx).1;rw[hz,Array.getElem?_append_left (by simpa[mJ]using hj)];simpa[hx]using SL l j
theorem V5 {e:TypeId}{g cap:Nat}{cs:Array Value}{l s:List UInt8}(hg:w.heap[g]? = some (.cells cs e (0,0)))(hs:cs.size=cap)(hc0:cap≠0)(hm:cap<=maxLen)(h1:∀(j:Nat) (u:Value),cs[j]? = some u->u.oneCell'=true)
 (hb:∀(j:Nat) (x:UInt8),l[j]? = some x->cs[j]? = some (.int .u8 x.toNat)) (hr:l.length+s.length<=cap) :
 CX e (.slice (some ⟨g,0,none⟩) (l++s).length cap) (l++s) (w.setRow g (cs.toList.take l.length++bV s++cs.toList.drop (l.length+s.length)).toArray):=by
 have hlen:(cs.toList.take l.length).length=l.length:=by simp;omega
 refine .inr ⟨g,cap,_,rfl,hc0,by simpa using hr,hm,setRow_heap w g cs _ e _ hg,?_,λj u hu=>?_,λj x hx=>?_⟩
 ·simp[mJ];omega
 ·have hm':=List.mem_of_getElem? (show(cs.toList.take l.length++bV s++cs.toList.drop (l.length+s.length))[j]? = some u by simpa using hu);rcases aW.1 hm' with hm'|hm'
  ·rcases aW.1 hm' with hm'|hm'
   ·obtain⟨i,hi⟩:=List.mem_iff_getElem?.1 (List.mem_of_mem_take hm');exact h1 i u (by simpa using hi)
   ·exact WR s u hm'
  ·obtain⟨i,hi⟩:=List.mem_iff_getElem?.1 (List.mem_of_mem_drop hm');exact h1 i u (by simpa using hi)
 ·have hj:=(bn.1 hx).1;show(cs.toList.take l.length++bV s++cs.toList.drop (l.length+s.length)).toArray[j]? = _;rw[List.getElem?_toArray,List.append_assoc];by_cases hjl:j<l.length
  ·rw[dU hjl]at hx;rw[dU (by omega),List.getElem?_take,if_pos hjl];simpa using hb j x hx
  ·rw[fF (by omega)]at hx;rw[fF (by omega),hlen,dU (by rw[mJ];exact(bn.1 hx).1),SL,hx];rfl
theorem DT (g n c:Nat):tC (.slice (some ⟨g,0,none⟩) n c)=some g:=rfl
theorem aaW {t u ty e:TypeId}{i:TypeInfo}(ht:P.underlying t=some (.slice e))(hu:P.underlying u=some .string)(hi:P.info? e=some i)(hz:i.zero=some (.int .u8 0))(hs1:i.size=1)(hby:i.bytes=1)
 {v:Value} {l:List UInt8} (hv:CX e v l w) (s:List UInt8) (hl:l.length+s.length<=140737488355328) :
 ∃v' w',(jB #[t,u] ty #[v,.string ⟨⟨s⟩⟩]).run P w = .ok v' w'/\CX e v' (l++s) w'/\Ph w w' v v':=by
 have hmax:(140737488355328:Nat)<=maxLen:=by unfold maxLen;omega
 have hss:(Cb ⟨s⟩).size=s.length:=rfl;have hsc:Lib.strCells (Cb ⟨s⟩)=bV s:=Lib.strCells_eq _;have fresh:∀(old:Nat) (v:Value),old<l.length+s.length ->
  CX e (.slice (some ⟨w.heap.size,0,none⟩) (l++s).length (grownCap w (l.length+s.length) old e)) (l++s)
   (w.drew.alloc (.cells ((bV l).toArray++(bV s).toArray++bH (lY .u8 0).cells (grownCap w (l.length+s.length) old e-(l.length+s.length))) e)) /\
  Ph w (w.drew.alloc (.cells ((bV l).toArray++(bV s).toArray++bH (lY .u8 0).cells (grownCap w (l.length+s.length) old e-(l.length+s.length))) e)) v
   (.slice (some ⟨w.heap.size,0,none⟩) (l++s).length (grownCap w (l.length+s.length) old e)):=by
  intro old v ho;refine⟨V4 (l++s) (λh=>?_) _ ?_ (grownCap_le_maxLen _ _ _ _ (by omega)) w.drew _ ?_,⟨rfl,rfl,rfl,by simp,λk hk _=>xJ w.drew _ k hk⟩,.inr ⟨w.heap.size,rfl,au _⟩⟩
  ·have:=congrArg kE h;rw[ay,gI]at this;omega
  ·simpa using grownCap_ge w (l.length+s.length) old e
  ·rw[Lib.byteCells_append];simp
 rcases hv with⟨rfl,rfl⟩|⟨g,cap,cs,rfl,hc0,hle,hcm,hg,hcs,h1,hb⟩
 ·by_cases h0:s=[]
  ·subst h0;refine⟨.slice none 0 0,w,?_,.inl ⟨rfl,rfl⟩,⟨rfl,rfl,rfl,au _,λ_ _ _=>rfl⟩,.inl rfl⟩;have hf:=Lib.run_firstCells_string (P:=P) w 1 ⟨⟨[]⟩⟩;have e0:(Cb ⟨[]⟩).size=0:=rfl;rw[e0]at hf;simp[jB,run_underlying ht,run_underlying hu,sizeOf,typeInfo,hi,hs1,Go.Builtin.lenOf,e0,hf]
  ·have hp:0<s.length:=mZ.2 h0;have hr:=run_append_nil_string (P:=P) w t u ty e i (.int .u8 0) ht hu hi hz ⟨⟨s⟩⟩ (by rw[hss];omega) (by rw[hss];simp at hl;omega) (by rw[hby,hss];simp at hl;omega);have hf:=fresh 0 (.slice none 0 0) (by simpa using hp);simp only[gJ,gI,kD,Array.append_assoc]at hf;have e1:((Cb ⟨s⟩).data.map λb=>lY .u8 b.toNat)=(bV s).toArray:=(by apply Array.ext';simp[bV]);rw[e1,hss]at hr;have e2:(bV ([]:List UInt8)).toArray = #[]:=rfl;rw[e2,sF]at hf;exact⟨_,_,hr,hf.1,hf.2⟩
 ·by_cases hroom:l.length+s.length<=cap
  ·have hr:=Lib.run_append_room_string (P:=P) w t u ty e i ht hu hi hs1 g l.length cap cs hg ⟨⟨s⟩⟩ (by rw[hss];exact hroom) (by rw[hss];omega);rw[hss,hsc]at hr;have hR:=V5 hg hcs hc0 hcm h1 hb hroom;rw[ay]at hR;exact⟨_,_,hr,hR,⟨rfl,rfl,rfl,by simp,λk _ hk=>setRow_other w g k _ (λe=>hk (by simp[tC,e]))⟩,.inl rfl⟩
  ·have hr:=Lib.run_append_grow_string (P:=P) w t u ty e i (.int .u8 0) ht hu hi hz ⟨g,0,none⟩ l.length cap (bV l) (by rw[hs1,mJ,vw]) (λj x hx=>by
    rw[SL]at hx;cases hlj:l[j]? with
    |none=>rw[hlj]at hx;cases hx
    |some y=>rw[hlj]at hx;simp at hx;subst hx;rw[Addr.zf];simp[oQ,hg,hb j y hlj]) ⟨⟨s⟩⟩ (by rw[hss];omega) (by rw[hss];omega) (by rw[hby,hss];exact growslice_fits (by omega) (by omega))
   rw[hss,hsc]at hr;have hf:=fresh cap (.slice (some ⟨g,0,none⟩) l.length cap) (by omega);rw[ay]at hf;exact⟨_,_,hr,hf.1,hf.2⟩
theorem adE {t ty e:TypeId}{i:TypeInfo}(ht:P.underlying t=some (.slice e))(hi:P.info? e=some i)(hz:i.zero=some (.int .u8 0))(hs1:i.size=1)(hby:i.bytes=1)
 {v:Value} {l:List UInt8} (hv:CX e v l w) (s:List UInt8) (h0:s≠[]) (ad:Addr) (c:Nat) (hnews:∀j v,(bV s)[j]? = some v->w.cell? (ad.add j)=some v) (hl:l.length+s.length<=140737488355328) :
 ∃v' w',(jB #[t,t] ty #[v,.slice (some ad) s.length c]).run P w = .ok v' w'/\CX e v' (l++s) w'/\Ph w w' v v':=by
 have hmax:(140737488355328:Nat)<=maxLen:=by unfold maxLen;omega
 have hp:0<s.length:=mZ.2 h0;have fresh:∀(old:Nat) (v:Value),old<l.length+s.length ->
  CX e (.slice (some ⟨w.heap.size,0,none⟩) (l++s).length (grownCap w (l.length+s.length) old e)) (l++s)
   (w.drew.alloc (.cells ((bV l).toArray++(bV s).toArray++bH (lY .u8 0).cells (grownCap w (l.length+s.length) old e-(l.length+s.length))) e)) /\
  Ph w (w.drew.alloc (.cells ((bV l).toArray++(bV s).toArray++bH (lY .u8 0).cells (grownCap w (l.length+s.length) old e-(l.length+s.length))) e)) v
   (.slice (some ⟨w.heap.size,0,none⟩) (l++s).length (grownCap w (l.length+s.length) old e)):=by
  intro old v ho;refine⟨V4 (l++s) (λh=>?_) _ ?_ (grownCap_le_maxLen _ _ _ _ (by omega)) w.drew _ ?_,⟨rfl,rfl,rfl,by simp,λk hk _=>xJ w.drew _ k hk⟩,.inr ⟨w.heap.size,rfl,au _⟩⟩
  ·have:=congrArg kE h;rw[ay,gI]at this;omega
  ·simpa using grownCap_ge w (l.length+s.length) old e
  ·rw[Lib.byteCells_append];simp
 have hn:(bV s).length=s.length*i.size:=by rw[hs1,mJ,vw]
 rcases hv with⟨rfl,rfl⟩|⟨g,cap,cs,rfl,hc0,hle,hcm,hg,hcs,h1,hb⟩
 ·have hr:=run_append_nil (P:=P) w t ty e i (.int .u8 0) ht hi hz ad s.length c (bV s) hn hnews hp (by simp at hl;omega) (by rw[hby];simp at hl;omega);have hf:=fresh 0 (.slice none 0 0) (by simpa using hp);simp only[gJ,gI,kD,Array.append_assoc]at hf;have e2:(bV ([]:List UInt8)).toArray = #[]:=rfl;rw[e2,sF]at hf;exact⟨_,_,hr,hf.1,hf.2⟩
 ·by_cases hroom:l.length+s.length<=cap
  ·have hr:=run_append_room' (P:=P) (w:=w) (ty:=ty) t e e i ht hi g l.length cap cs hg ad s.length c (bV s) hn hnews (WR s) hroom (by rw[hs1,mJ];omega);rw[hs1,mJ,vw]at hr;have hR:=V5 hg hcs hc0 hcm h1 hb hroom;rw[ay]at hR;exact⟨_,_,hr,hR,⟨rfl,rfl,rfl,by simp,λk _ hk=>setRow_other w g k _ (λe=>hk (by simp[tC,e]))⟩,.inl rfl⟩
  ·have hr:=run_append_grow (P:=P) w t ty e i (.int .u8 0) ht hi hz ⟨g,0,none⟩ l.length cap (bV l) (by rw[hs1,mJ,vw]) (λj x hx=>by
    rw[SL]at hx;cases hlj:l[j]? with
    |none=>rw[hlj]at hx;cases hx
    |some y=>rw[hlj]at hx;simp at hx;subst hx;rw[Addr.zf];simp[oQ,hg,hb j y hlj]) ad s.length c (bV s) hn hnews (by omega) (by omega) (by rw[hby];exact growslice_fits (by omega) (by omega))
   have hf:=fresh cap (.slice (some ⟨g,0,none⟩) l.length cap) (by omega);rw[ay]at hf;exact⟨_,_,hr,hf.1,hf.2⟩
end
end
end Go.Ab
section
namespace Go.Ab
open Go Go.Shelf Go.RowKit Go.Proofs
section
variable {P:Program} {w:World}
theorem CX.alloc {e:TypeId}{v:Value}{l:List UInt8}(h:CX e v l w)(o:Obj):CX e v l (w.alloc o):=by
 rcases h with h|⟨g,cap,cs,h1,h2,h3,h4,h5,h6⟩
 ·exact .inl h
 ·exact .inr ⟨g,cap,cs,h1,h2,h3,h4,(xJ w o g (E8 h5)).trans h5,h6⟩
theorem CX.same {e:TypeId}{v:Value}{l:List UInt8}{w':World}(h:CX e v l w)(hk:∀g,v.ownBlock=some g->w'.heap[g]? = w.heap[g]?):CX e v l w':=by
 rcases h with h|⟨g,cap,cs,h1,h2,h3,h4,h5,h6⟩
 ·exact .inl h
 ·exact .inr ⟨g,cap,cs,h1,h2,h3,h4,(hk g (by rw[h1];rfl)).trans h5,h6⟩
theorem CX.XH {e:TypeId}{v:Value}{l:List UInt8}(h:CX e v l w){g:Nat}(hg:v.ownBlock=some g):g<w.heap.size/\∃cs,w.heap[g]? = some (.cells cs e (0,0)):=by
 rcases h with⟨rfl,_⟩|⟨g',cap,cs,rfl,h2,h3,h4,h5,h6⟩
 ·cases hg
 ·simp only[DT,aJ]at hg;subst hg;exact⟨E8 h5,cs,h5⟩
theorem CX.ne {e T:TypeId}{v:Value}{l:List UInt8}{k:Nat}{cs:Array Value}(h:CX e v l w)(hk:w.heap[k]? = some (.cells cs T (0,0)))(hT:T≠e):v.ownBlock≠some k:=λhe=>by obtain⟨_,c,hc⟩:=h.XH he;rw[hk]at hc;simp only[aJ,Obj.cells.injEq]at hc;exact hT hc.2.1
theorem OQ {ops:Array Oper}{rest:List Oper}{o:Oper}{a:Act}{Q:Exit->Act->World->Prop}(hgd:o.guard=none)(sl x:Operand)(t u:TypeId)
 (ho:o.op = .call { callee:=.builtin .append,args:= #[sl,x],argTypes:= #[t,u] })
 (e:TypeId) (i:TypeInfo) (ht:P.underlying t=some (.slice e)) (hu:P.underlying u=some .string) (hi:P.info? e=some i) (hz:i.zero=some (.int .u8 0)) (hsize:i.size=1) (hby:i.bytes=1)
 (v:Value) (l:List UInt8) (hs:a.eval sl=v) (hv:CX e v l w) (s:List UInt8) (hx:a.eval x = .string ⟨⟨s⟩⟩) (hl:l.length+s.length<=140737488355328)
 (h:∀v' w',CX e v' (l++s) w'->Ph w w' v v'->wpList P ops Q rest (a.put o.dst v') w'):wpList P ops Q (o::rest) a w:=by
 refine wpList_plain hgd λK hK=>?_;obtain⟨v',w',hr,h2,h3⟩:=aaW (P:=P) (ty:=o.type) ht hu hi hz hsize hby hv s hl;unfold Go.Oper.wp execOp;simp only[ho,resolve,invoke,builtin,gG,fM,dD,nS,bJ,kM,hs,hx,hr];exact hK _ _ (h v' w' h2 h3)
theorem QV {ops:Array Oper}{rest:List Oper}{o:Oper}{a:Act}{Q:Exit->Act->World->Prop}(hgd:o.guard=none)(sl x:Operand)(t:TypeId)
 (ho:o.op = .call { callee:=.builtin .append,args:= #[sl,x],argTypes:= #[t,t] })
 (e:TypeId) (i:TypeInfo) (ht:P.underlying t=some (.slice e)) (hi:P.info? e=some i) (hz:i.zero=some (.int .u8 0)) (hsize:i.size=1) (hby:i.bytes=1)
 (v:Value) (l:List UInt8) (hs:a.eval sl=v) (hv:CX e v l w) (s:List UInt8) (h0:s≠[]) (ad:Addr) (c:Nat) (hx:a.eval x = .slice (some ad) s.length c) (hnews:∀j v,(bV s)[j]? = some v->w.cell? (ad.add j)=some v)
 (hl:l.length+s.length<=140737488355328)
 (h:∀v' w',CX e v' (l++s) w'->Ph w w' v v'->wpList P ops Q rest (a.put o.dst v') w'):wpList P ops Q (o::rest) a w:=by
 refine wpList_plain hgd λK hK=>?_;obtain⟨v',w',hr,h2,h3⟩:=adE (P:=P) (ty:=o.type) ht hi hz hsize hby hv s h0 ad c hnews hl;unfold Go.Oper.wp execOp;simp only[ho,resolve,invoke,builtin,gG,fM,dD,nS,bJ,kM,hs,hx,hr];exact hK _ _ (h v' w' h2 h3)
end
variable {P:Program} {ρ:Go.Shelf.Ren}
def adr (k:Nat)(p:Value):Prop:=p = .pointer none\/p = .pointer (some ⟨k,0,none⟩)
structure Hid (p:Prop):Prop where
 h:p
theorem Rz (L:Lays.n240 P ρ)(X:Builder.X72 P ρ)(k:Nat)(p v:Value)(w:World)(hk:w.heap[k]? = some (.cells #[p,v] (ρ.t 72) (0,0)))(hp:adr k p) :
 Calls P (ρ.f 240) #[.pointer (some ⟨k,0,none⟩)] w λe w'=>e = .returned (.tuple #[])/\w'.heap[k]? = some (.cells #[.pointer (some ⟨k,0,none⟩),v] (ρ.t 72) (0,0))/\Hid (w'.heap.size=w.heap.size)/\KR w w' (λk'=>k'=k):=by
 rcases hp with rfl|rfl
 ·refine(Any.Builder_copyCheck_fresh L X k w (by rw[lK hk];rfl) (by simp[AA,hk]) (AU hk 0)).mono ?_;rintro e w' ⟨rfl,rfl⟩;refine⟨rfl,?_,⟨by simp[uj]⟩,⟨rfl,rfl,rfl,by simp[uj],λk' _ hk'=>Below.heap_setCell _ _ _ _ (λe=>hk' (by simp[e]))⟩⟩;simp[uj,AP,hk]
 ·refine(Any.Builder_copyCheck_used L X k w (by rw[lK hk];rfl)).mono ?_;rintro e w' ⟨rfl,rfl⟩;exact⟨rfl,hk,⟨rfl⟩,KR.refl _ _⟩
def Wrote (T e:TypeId)(k:Nat)(v:Value)(l:List UInt8)(w w':World):Prop:=
 ∃v',w'.heap[k]? = some (.cells #[.pointer (some ⟨k,0,none⟩),v'] T (0,0))/\CX e v' l w'/\(v'.ownBlock=v.ownBlock\/∃g,v'.ownBlock=some g/\w.heap.size<=g)/\KR w w' (λk'=>k'=k\/some k'=v.ownBlock)
theorem Wx {T e:TypeId}{k:Nat}{v v':Value}{l:List UInt8}{w w1 w1' w2:World}(hT:T≠e)(hv:CX e v l w)(hlt:k<w.heap.size)(h1:w1.heap[k]? = some (.cells #[.pointer (some ⟨k,0,none⟩),v] T (0,0)))(hs:w1.heap.size=w.heap.size)(hF:KR w w1 (λk'=>k'=k))
 (ha:w1'=w1\/∃o,w1'=w1.alloc o) {l':List UInt8} (hr:CX e v' l' w2) (hg:Ph w1' w2 v v') (hne:v.ownBlock≠some k) :
 w2.heap[k]? = some (.cells #[.pointer (some ⟨k,0,none⟩),v] T (0,0))/\Wrote T e k v l' w (w2.setCell ⟨k,1,none⟩ v'):=by
 have hsz:w.heap.size<=w1'.heap.size:=by
  rcases ha with rfl|⟨o,rfl⟩
  ·omega
  ·simp;omega
 have hk1:∀k',k'<w.heap.size->w1'.heap[k']? = w1.heap[k']?:= λk' hk'=>by
  rcases ha with rfl|⟨o,rfl⟩
  ·rfl
  ·exact xJ w1 o k' (by omega)
 have hk2:w2.heap[k]? = some (.cells #[.pointer (some ⟨k,0,none⟩),v] T (0,0)):=by rw[hg.1.block k (by omega) (λe=>hne e.symm),hk1 k hlt];exact h1
 have hne2:v'.ownBlock≠some k:=hr.ne hk2 hT;refine⟨hk2,v',?_,?_,?_,?_⟩
 ·simp[uj,AP,hk2]
 ·exact hr.same λg hg'=>Below.heap_setCell _ _ _ _ (λe=>hne2 (by rw[hg'];simp at e;rw[e]))
 ·rcases hg.2 with h|⟨g,h,hb⟩
  ·exact .inl h
  ·exact .inr ⟨g,h,by omega⟩
 ·have ha':KR w1 w1' (λ_=>False):=by
   rcases ha with rfl|⟨o,rfl⟩
   ·exact KR.refl _ _
   ·exact⟨rfl,rfl,rfl,by simp,λk' h _=>xJ w1 o k' h⟩
  have h01:=hF.trans ha' (λ_ _ h=>h.elim);exact⟨hg.1.os.trans h01.os,hg.1.tape.trans h01.tape,hg.1.output.trans h01.output,by have:=hg.1.size;simp[uj];omega,λk' hlt' hm=>by rw[Below.heap_setCell _ _ _ _ (λe=>hm (.inl (by simpa using e))),hg.1.block k' (by omega) (λe=>hm (.inr e))];exact h01.block k' hlt' (λe=>hm (.inl e))⟩
set_option maxHeartbeats 2000000 in
set_option maxRecDepth 100000 in
theorem OE (L:Lays.n166 P ρ)(X:Builder.Extra P ρ)(k:Nat)(p v:Value)(l s:List UInt8)(w:World)(hk:w.heap[k]? = some (.cells #[p,v] (ρ.t 72) (0,0)))(hp:adr k p)(hv:CX (ρ.t 5) v l w)
 (hlen:l.length+s.length<=140737488355328) :
 Calls P (ρ.f 166) #[.pointer (some ⟨k,0,none⟩),.string ⟨⟨s⟩⟩] w λe w'=>e = .returned (.tuple #[.int .i64 s.length,.nilIface])/\Wrote (ρ.t 72) (ρ.t 5) k v (l++s) w w':=by
 obtain⟨i0,hi,hz0,hz1,hz2⟩:=info_parts X.infoByte;have hlt:=E8 hk;have hne:=hv.ne hk X.neB5;have mixed:=L.mixed;have t72:=L.t72;have a72:=L.a72;have z72:=L.z72;have v72:=L.v72;have u72:=run_underlying L.t72;have t70:=L.t70;have a70:=L.a70;have z70:=L.z70;have v70:=L.v70;have u70:=run_underlying L.t70;have t37:=L.t37;have a37:=L.a37;have z37:=L.z37;have v37:=L.v37;have u37:=run_underlying L.t37;have t3:=L.t3;have a3:=L.a3;have z3:=L.z3;have v3:=L.v3;have u3:=run_underlying L.t3;have t9:=L.t9;have a9:=L.a9;have z9:=L.z9;have v9:=L.v9;have u9:=run_underlying L.t9;have t4:=L.t4;have a4:=L.a4;have z4:=L.z4;have v4:=L.v4;have u4:=run_underlying L.t4;have t164:=L.t164;have a164:=L.a164;have z164:=L.z164;have v164:=L.v164;have u164:=run_underlying L.t164;have t5:=X.t5;have a5:=X.a5;have z5:=X.z5;have v5:=X.v5;have u5:=run_underlying X.t5;have e240:∀args w,(callFunc (ρ.f 240) args).run P w = .ok (.enter (ρ.f 240) args) w:=enters_of L.f240 (by kernel_rfl) rfl
 go_enter L.f166,Body.n166_ntmps ρ
 go_wp2_with (go_at_fn (ρ.f 240);refine(Rz { L with } X.toX72 k p v _ hk hp).mono ?_)
 rintro e w1 ⟨rfl,hk1,hs1,hF1⟩;have hv1:CX (ρ.t 5) v l w1:=hv.same λg hg=>hF1.block g (hv.XH hg).1 (λe=>hne (by rw[hg,e]));have c0:w1.cell? ⟨k,0,none⟩=some (.pointer (some ⟨k,0,none⟩)):=by rw[lK hk1];rfl
 have c1:w1.cell? ⟨k,1,none⟩=some v:=by rw[lK hk1];rfl
 go_wp2_with (at_builtin;refine OQ rfl _ _ (ρ.t 37) (ρ.t 9) rfl (ρ.t 5) i0 L.t37 L.t9 hi hz0 hz1 hz2 _ _ rfl hv1 s rfl hlen ?_)
 intro v' w2 hr hg;obtain⟨hb2,hW⟩:=Wx X.neB5 hv hlt hk1 hs1.h hF1 (.inl rfl) hr hg hne;have d0:w2.cell? ⟨k,0,none⟩=some (.pointer (some ⟨k,0,none⟩)):=by rw[lK hb2];rfl
 have d1:w2.cell? ⟨k,1,none⟩=some v:=by rw[lK hb2];rfl
 have f1:w2.frozen? ⟨k,1,none⟩=false:=AU hb2 1;obtain⟨ao,n',cap,rfl⟩:∃ao n' cap,v' = .slice ao n' cap:=by
  rcases hr with⟨hv,_⟩|⟨g,cap,cs,hv,_⟩
  ·exact⟨_,_,_,hv⟩
  ·exact⟨_,_,_,hv⟩
 go_wp2
 go_ret2
 exact⟨rfl,hW⟩
theorem aa0 (c:Int)(hc:0<=c/\c<256):lY .u8 (dR c.toNat).toNat = .int .u8 c:=by
 have:((dR c.toNat).toNat:Int)=c:=by simp[UInt8.toNat_ofNat'];omega
 rw[this]
set_option maxHeartbeats 2000000 in
set_option maxRecDepth 100000 in
theorem Q5 (L:Lays.n167 P ρ)(X:Builder.Extra P ρ)(k:Nat)(p v:Value)(l:List UInt8)(c:Int)(w:World)(hk:w.heap[k]? = some (.cells #[p,v] (ρ.t 72) (0,0)))(hp:adr k p)(hv:CX (ρ.t 5) v l w)
 (hc:0<=c/\c<256) (hlen:l.length+1<=140737488355328) :
 Calls P (ρ.f 167) #[.pointer (some ⟨k,0,none⟩),.int .u8 c] w λe w'=>e = .returned .nilIface/\Wrote (ρ.t 72) (ρ.t 5) k v (l++[dR c.toNat]) w w':=by
 obtain⟨i0,hi,hz0,hz1,hz2⟩:=info_parts X.infoByte;have hlt:=E8 hk;have hne:=hv.ne hk X.neB5;have hbc:bV [dR c.toNat]=[lY .u8 c]:=by simp only[bV,bJ,kM,aa0 c hc]
 have hnews:∀w1:World,∀j u,(bV [dR c.toNat])[j]? = some u->(w1.alloc (.cells #[.int .u8 c] (ρ.t 5))).cell? ((⟨w1.heap.size,0,none⟩:Addr).add j)=some u:=by
  intro w1 j u hj;rw[hbc]at hj
  match j,hj with
  |0,hj=>simp at hj;subst hj;simp[vg]
 have mixed:=L.mixed;have t72:=L.t72;have a72:=L.a72;have z72:=L.z72;have v72:=L.v72;have u72:=run_underlying L.t72;have t70:=L.t70;have a70:=L.a70;have z70:=L.z70;have v70:=L.v70;have u70:=run_underlying L.t70;have t5:=L.t5;have a5:=L.a5;have z5:=L.z5;have v5:=L.v5;have u5:=run_underlying L.t5;have t37:=L.t37;have a37:=L.a37;have z37:=L.z37;have v37:=L.v37;have u37:=run_underlying L.t37;have t9:=L.t9;have a9:=L.a9;have z9:=L.z9;have v9:=L.v9;have u9:=run_underlying L.t9;have t4:=L.t4;have a4:=L.a4;have z4:=L.z4;have v4:=L.v4;have u4:=run_underlying L.t4;have t164:=L.t164;have a164:=L.a164;have z164:=L.z164;have v164:=L.v164;have u164:=run_underlying L.t164;have e240:∀args w,(callFunc (ρ.f 240) args).run P w = .ok (.enter (ρ.f 240) args) w:=enters_of L.f240 (by kernel_rfl) rfl
 go_enter L.f167,Body.n167_ntmps ρ
 go_wp2_with (go_at_fn (ρ.f 240);refine(Rz { L with } X.toX72 k p v _ hk hp).mono ?_)
 rintro e w1 ⟨rfl,hk1,hs1,hF1⟩;have hv1:CX (ρ.t 5) v l w1:=hv.same λg hg=>hF1.block g (hv.XH hg).1 (λe=>hne (by rw[hg,e]));have c0:w1.cell? ⟨k,0,none⟩=some (.pointer (some ⟨k,0,none⟩)):=by rw[lK hk1];rfl
 have c1:w1.cell? ⟨k,1,none⟩=some v:=by rw[lK hk1];rfl
 go_wp2_with (at_builtin;refine QV rfl _ _ (ρ.t 37) rfl (ρ.t 5) i0 L.t37 hi hz0 hz1 hz2 _ _ rfl (hv1.alloc _) [dR c.toNat] (List.cons_ne_nil _ _) ⟨w1.heap.size,0,none⟩ 1 rfl (hnews w1) hlen ?_)
 intro v' w2 hr hg;obtain⟨hb2,hW⟩:=Wx X.neB5 hv hlt hk1 hs1.h hF1 (.inr ⟨_,rfl⟩) hr hg hne;have d0:w2.cell? ⟨k,0,none⟩=some (.pointer (some ⟨k,0,none⟩)):=by rw[lK hb2];rfl
 have d1:w2.cell? ⟨k,1,none⟩=some v:=by rw[lK hb2];rfl
 have f1:w2.frozen? ⟨k,1,none⟩=false:=AU hb2 1;obtain⟨ao,n',cap,rfl⟩:∃ao n' cap,v' = .slice ao n' cap:=by
  rcases hr with⟨hv,_⟩|⟨g,cap,cs,hv,_⟩
  ·exact⟨_,_,_,hv⟩
  ·exact⟨_,_,_,hv⟩
 go_wp2
 go_ret
 exact⟨rfl,hW⟩
theorem Xt (w:World)(g n:Nat):KR w (w.drew.freeze ⟨g,0,none⟩ n) (λk'=>k'=g):=by
 unfold World.freeze;split
 ·exact⟨rfl,rfl,rfl,au _,λ_ _ _=>rfl⟩
 ·exact⟨rfl,rfl,rfl,by simp only[Array.size_modify];exact au _,λk hk hm=>by simp only[AP];rw[if_neg (λe=>hm e.symm)];rfl⟩
theorem Dt {w w':World}(h:Below w.heap.size w w')(M:Nat->Prop):KR w w' M:=⟨h.os,h.tape,h.output,h.size,λk hk _=>h.block k hk⟩
set_option maxHeartbeats 2000000 in
set_option maxRecDepth 100000 in
theorem WU (L:Lays.n169 P ρ)(X:Builder.Extra P ρ)(k:Nat)(p v:Value)(l:List UInt8)(w:World)(hk:w.heap[k]? = some (.cells #[p,v] (ρ.t 72) (0,0)))(hv:CX (ρ.t 5) v l w) :
 Calls P (ρ.f 169) #[.pointer (some ⟨k,0,none⟩)] w λe w'=>e = .returned (.string ⟨⟨l⟩⟩)/\KR w w' (λk'=>some k'=v.ownBlock):=by
 rcases hv with⟨rfl,rfl⟩|⟨g,cap,cs,rfl,hc0,hle,hcm,hg,hcs,h1,hb⟩
 ·refine(Any.Builder_String_nil L X w.heap.size k p w hk).mono ?_;rintro e w' ⟨rfl,h⟩;exact⟨rfl,Dt h _⟩
 by_cases h0:l=[]
 ·subst h0;refine(Any.Builder_String_room L X w.heap.size k g cap p w hc0 hk).mono ?_;rintro e w' ⟨rfl,h⟩;exact⟨rfl,Dt h _⟩
 have hl0:l.length≠0:=by simpa using h0
 have c1:w.drew.cell? ⟨k,1,none⟩=some (.slice (some ⟨g,0,none⟩) l.length cap):=by have:w.drew.heap[k]? = some (.cells #[p,.slice (some ⟨g,0,none⟩) l.length cap] (ρ.t 72) (0,0)):=hk;rw[lK this];rfl
 have hSD:(Builtin.unsafeSliceData_ #[(ρ.t 37)] (ρ.t 127) #[.slice (some ⟨g,0,none⟩) l.length cap]).run P w.drew = .ok (.pointer (some ⟨g,0,none⟩)) w.drew:=
  Lib.run_unsafeSliceData_row _ _ _ _ _ _ (by omega)
 have hUS:(Builtin.unsafeString_ #[(ρ.t 127),(ρ.t 3)] (ρ.t 9) #[.pointer (some ⟨g,0,none⟩),.int .i64 l.length]).run P w.drew = .ok (.string ⟨l.toArray⟩) (w.drew.freeze ⟨g,0,none⟩ l.length):=by refine Lib.run_unsafeString_row w.drew (ρ.t 127) (ρ.t 3) (ρ.t 9) (ρ.t 5) L.t127 X.cellsByte g cs.size (by have hg':w.drew.heap[g]? = some (.cells cs (ρ.t 5) (0,0)):=hg;simp[AA,hg']) l h0 (by omega) (by unfold maxLen at hcm;omega) ?_;intro j x hx;rw[Addr.zf];have hg':w.drew.heap[g]? = some (.cells cs (ρ.t 5) (0,0)):=hg;simp[oQ,hg',hb j x hx]
 have mixed:=L.mixed;have t72:=L.t72;have a72:=L.a72;have z72:=L.z72;have v72:=L.v72;have u72:=run_underlying L.t72;have t70:=L.t70;have a70:=L.a70;have z70:=L.z70;have v70:=L.v70;have u70:=run_underlying L.t70;have t37:=L.t37;have a37:=L.a37;have z37:=L.z37;have v37:=L.v37;have u37:=run_underlying L.t37;have t127:=L.t127;have a127:=L.a127;have z127:=L.z127;have v127:=L.v127;have u127:=run_underlying L.t127;have t3:=L.t3;have a3:=L.a3;have z3:=L.z3;have v3:=L.v3;have u3:=run_underlying L.t3;have t9:=L.t9;have a9:=L.a9;have z9:=L.z9;have v9:=L.v9;have u9:=run_underlying L.t9;have t5:=X.t5;have a5:=X.a5;have z5:=X.z5;have v5:=X.v5;have u5:=run_underlying X.t5;have hF:=Xt w g l.length;clear hb hcs hg hle hcm h1 hk
 go_enter L.f169,Body.n169_ntmps ρ
 go_wp2
 go_region_o
 all_goals(go_wp2;go_ret;exact⟨rfl,hF.os,hF.tape,hF.output,hF.size,λk' hk' hm=>hF.block k' hk' (λe=>hm (by rw[e];rfl))⟩)
end Go.Ab
end
section
namespace Go.Ab
open Go Go.Shelf Go.Proofs
section
variable {P:Program} {I:IH} {ρ:Ren} {w:World}
structure Bld (I:IH)(ρ:Ren)(w:World)(T e k:Nat)(p v:Value)(l:List UInt8):Prop where
 r0:ρ 0=some (k,T)
 hk:w.heap[k]? = some (.cells #[p,v] T (0,0))
 hp:adr k p
 hv:CX e v l w
 own:∀g,v.ownBlock=some g->∃cap,ρ 1=some (g,cap)/\cap≠0
 i0:I k=none
 i1:∀g,v.ownBlock=some g->I g=none
theorem agR {cs:Array Value}(h:cs.size=2):∃p v,cs = #[p,v]:=by
 match cs,h with
 |⟨[p,v]⟩,_=>exact⟨p,v,rfl⟩
theorem WT {T e:Nat}{l:List UInt8}(h:BX I ρ w (DN [.var [.opt T 0,.vS 1 l.length],.row e l])):∃k p v,Bld I ρ w T e k p v l:=by
 obtain⟨k,cap,cs,hr,hw,hs,hc⟩:=h.ok 0;obtain⟨p,v,rfl⟩:=agR hs;obtain⟨k',hr',hp⟩:=hc 0 p (.opt T 0) rfl rfl;rw[hr]at hr';simp only[aJ,aI]at hr';obtain⟨rfl,rfl⟩:=hr';obtain⟨g,cp,hg,hn,hv⟩:=hc 1 v (.vS 1 l.length) rfl rfl;obtain⟨g',cp',hg',hl,hm,hrow⟩:=h.ok 1;rw[hg]at hg';simp only[aJ,aI]at hg';obtain⟨rfl,rfl⟩:=hg';have i0:I k=none:=h.fresh 0 k ⟨_,hr⟩;rcases hv with⟨h0,rfl⟩|⟨h0,rfl⟩
 ·refine⟨k,p,_,hr,hw,hp,.inl ⟨rfl,?_⟩,(λg hx=>by cases hx),i0,(λg hx=>by cases hx)⟩;exact List.eq_nil_of_length_eq_zero (by omega)
 ·obtain⟨cs,h1,h2,h3,h4⟩:=hrow h0;refine⟨k,p,_,hr,hw,hp,.inr ⟨g,cp,cs,rfl,h0,hl,hm,h1,h2,h3,h4⟩,λg' hx=>?_,i0,λg' hx=>?_⟩
  ·simp only[DT,aJ]at hx;subst hx;exact⟨cp,hg,h0⟩
  ·simp only[DT,aJ]at hx;subst hx;exact h.fresh 1 g ⟨cp,hg,h0⟩
theorem U7 {T e k:Nat}{p v:Value}{l l':List UInt8}{w':World}(hT:T≠e)(hA:Agree I w)(hB:BX I ρ w (DN [.var [.opt T 0,.vS 1 l.length],.row e l]))(b:Bld I ρ w T e k p v l)(h:Wrote T e k v l' w w') :
 ∃ σ:Ren,Agree I w'/\BX I σ w' (DN [.var [.opt T 0,.vS 2 l'.length],.dead,.row e l']) /\
   KR w w' (λk=>∃c,(DN [.var [.opt T 0,.vS 1 l.length],.row e l] c).uses (ρ c) k) /\
   (∀c k',(DN [.var [.opt T 0,.vS 2 l'.length],.dead,.row e l'] c).uses (σ c) k'->w.heap.size<=k'\/∃c',(DN [.var [.opt T 0,.vS 1 l.length],.row e l] c').uses (ρ c') k') /\
   (∀c,c<2->σ c=ρ c):=by
 obtain⟨v',hk',hv',hown,hF⟩:=h;have hu0:(DN [.var [.opt T 0,.vS 1 l.length],.row e l] 0).uses (ρ 0) k:=⟨_,b.r0⟩;have hu1:∀g,v.ownBlock=some g->(DN [.var [.opt T 0,.vS 1 l.length],.row e l] 1).uses (ρ 1) g:=λg hg=>b.own g hg;have hρ:∀c,2<=c->ρ c=none:=λc hc=>by have h1:=hB.ok c;rw[CZ (by simpa using hc)]at h1;exact h1
 have hne:v'.ownBlock≠some k:=hv'.ne hk' hT;obtain⟨g,cap,hg⟩:∃g cap,(cap=0/\v' = .slice none 0 0/\l'=[])\/(cap≠0/\v' = .slice (some ⟨g,0,none⟩) l'.length cap/\l'.length<=cap/\cap<=maxLen/\∃cs,w'.heap[g]? = some (.cells cs e (0,0))/\cs.size=cap /\
  (∀(j:Nat) (u:Value),cs[j]? = some u->u.oneCell'=true)/\∀(j:Nat) (x:UInt8),l'[j]? = some x->cs[j]? = some (.int .u8 x.toNat)):=by
  rcases hv' with⟨rfl,rfl⟩|⟨g,cap,cs,h1,h2,h3,h4,h5⟩
  ·exact⟨0,0,.inl ⟨rfl,rfl,rfl⟩⟩
  ·exact⟨g,cap,.inr ⟨h2,h1,h3,h4,cs,h5⟩⟩
 have hnew:cap≠0->I g=none/\g≠k/\(w.heap.size<=g\/(DN [.var [.opt T 0,.vS 1 l.length],.row e l] 1).uses (ρ 1) g):=λh0=>by
  rcases hg with⟨h1,_⟩|⟨_,rfl,_⟩
  ·exact absurd h1 h0
  ·rw[DT]at hne hown;refine⟨?_,λe=>hne (by rw[e]),?_⟩
   ·rcases hown with h|⟨g',h,hb⟩
    ·exact b.i1 g h.symm
    ·simp only[aJ]at h;subst h;exact hA.VO hb
   ·rcases hown with h|⟨g',h,hb⟩
    ·exact .inr (hu1 g h.symm)
    ·simp only[aJ]at h;subst h;exact .inl hb
 have hle:ρ.le (ρ.set 2 g cap):=Ren.Kz (hρ 2 (au _));have s2:(ρ.set 2 g cap) 2=some (g,cap):=Ren.ou _ _ _ _;have s0:(ρ.set 2 g cap) 0=some (k,T):=(Ren.wo (by decide)).trans b.r0;have u0:∀k',(DN [.var [.opt T 0,.vS 2 l'.length],.dead,.row e l'] 0).uses ((ρ.set 2 g cap) 0) k'->k'=k:=λk' hu=>by obtain⟨c,hc⟩:=hu;rw[s0]at hc;simp only[aJ,aI]at hc;exact hc.1.symm
 have u2:∀k',(DN [.var [.opt T 0,.vS 2 l'.length],.dead,.row e l'] 2).uses ((ρ.set 2 g cap) 2) k'->k'=g/\cap≠0:=λk' hu=>by obtain⟨c,hc,h0⟩:=hu;rw[s2]at hc;simp only[aJ,aI]at hc;exact⟨hc.1.symm,by rw[hc.2];exact h0⟩
 have uu:∀c k',(DN [.var [.opt T 0,.vS 2 l'.length],.dead,.row e l'] c).uses ((ρ.set 2 g cap) c) k'->(c=0/\k'=k)\/(c=2/\k'=g/\cap≠0):=λc k' hu=>by
  match c with
  |0=>exact .inl ⟨rfl,u0 k' hu⟩
  |1=>exact hu.elim
  |2=>exact .inr ⟨rfl,u2 k' hu⟩
  |c+3=>rw[CZ (by simp)]at hu;exact hu.elim
 refine⟨ρ.set 2 g cap,?_,⟨λc=>?_,λc c' k' hc hc'=>?_,λc k' hc=>?_⟩,⟨hF.os,hF.tape,hF.output,hF.size,λk' hlt hm=>hF.block k' hlt λe=>hm ?_⟩,λc k' hc=>?_,λc hc=>Ren.wo (by omega)⟩
 ·refine hA.other λk1 c hc=>hF.block k1 (hA.lt hc) λe=>?_;rcases e with rfl|e
  ·rw[b.i0]at hc;cases hc
  ·rw[b.i1 k1 e.symm]at hc;cases hc
 ·match c with
  | 0=>
    refine⟨k,T,_,s0,hk',rfl,λj u x hu hx=>?_⟩
    match j with
    | 0=>simp at hu hx;subst hu;subst hx;exact⟨k,s0,.inr rfl⟩
    | 1=>
      simp at hu hx;subst hu;subst hx;rcases hg with⟨h1,h2,h3⟩|⟨h1,h2,h3,_⟩
      ·exact⟨g,cap,s2,by rw[h3];exact aN _,.inl ⟨h1,h2⟩⟩
      ·exact⟨g,cap,s2,h3,.inr ⟨h1,h2⟩⟩
    |j+2=>simp at hu
  |1=>trivial
  | 2=>
    rcases hg with⟨h1,h2,h3⟩|⟨h1,h2,h3,h4,h5⟩
    ·exact⟨g,cap,s2,by rw[h3];exact aN _,by rw[h1];exact aN _,λh=>absurd h1 h⟩
    ·exact⟨g,cap,s2,h3,h4,λ_=>h5⟩
  | c+3=>rw[CZ (by simp)];exact(Ren.wo (by omega)).trans (hρ _ (by omega))
 ·rcases uu c k' hc with⟨rfl,h1⟩|⟨rfl,h1,h2⟩<;>rcases uu c' k' hc' with⟨rfl,h3⟩|⟨rfl,h3,h4⟩
  ·rfl
  ·exact absurd (h3.symm.trans h1) (hnew h4).2.1
  ·exact absurd (h1.symm.trans h3) (hnew h2).2.1
  ·rfl
 ·rcases uu c k' hc with⟨rfl,rfl⟩|⟨rfl,rfl,h2⟩
  ·exact b.i0
  ·exact(hnew h2).1
 ·rcases e with rfl|e
  ·exact⟨0,hu0⟩
  ·exact⟨1,hu1 k' e.symm⟩
 ·rcases uu c k' hc with⟨rfl,rfl⟩|⟨rfl,rfl,h2⟩
  ·exact .inr ⟨0,hu0⟩
  ·rcases(hnew h2).2.2 with h|h
   ·exact .inl h
   ·exact .inr ⟨1,h⟩
end
variable {P:Program} {ρ:Go.Shelf.Ren}
structure iC where
 buf:List UInt8
 deriving Inhabited
theorem LM {I:IH}{r:Ren}{vs:List Value}{x y:AV}(h:UQ I r vs [x,y]):∃a b,vs=[a,b]/\GV I r a x/\GV I r b y:=by
 obtain⟨h1,h2⟩:=h
 match vs,h1 with
 |[a,b],_=>exact⟨a,b,rfl,h2 0 a x rfl rfl,h2 1 b y rfl rfl⟩
theorem LK {I:IH}{r:Ren}{vs:List Value}{x:AV}(h:UQ I r vs [x]):∃a,vs=[a]/\GV I r a x:=by
 obtain⟨h1,h2⟩:=h
 match vs,h1 with
 |[a],_=>exact⟨a,rfl,h2 0 a x rfl rfl⟩
theorem SI (L:Lays.n167 P ρ)(X:Builder.Extra P ρ){l:List UInt8}{c:Int}(hc:0<=c/\c<256)(hl:l.length+1<=140737488355328) :
 lD P (ρ.f 167) [.one (.ptr 0 0),.one (.c (.lit (.int .u8 c)))] [.var [.opt (ρ.t 72) 0,.vS 1 l.length],.row (ρ.t 5) l] λr bs=>r = .one (.c (.lit .nilIface))/\bs=[.var [.opt (ρ.t 72) 0,.vS 2 (l++[dR c.toNat]).length],.dead,.row (ρ.t 5) (l++[dR c.toNat])]:=by
 intro I r w vs hT hA hB hG;obtain⟨a,b',rfl,ha,hb⟩:=LM hG;obtain⟨k,p,v,b⟩:=WT hB;obtain⟨k',cap',hr,rfl⟩:=ha;rw[b.r0]at hr;simp only[aJ,aI]at hr;obtain⟨rfl,_⟩:=hr;cases hb;refine(Q5 L X k p v l c w b.hk b.hp b.hv hc hl).mono ?_;rintro e w' ⟨rfl,hW⟩;obtain⟨σ,h1,h2,h3,h4,h5⟩:=U7 X.neB5 hA hB b hW;exact⟨_,I,σ,_,_,rfl,⟨rfl,rfl⟩,Rd.lit _ rfl,h1,h2,IH.le_refl I,h3,h4,λ_ _ _=>rfl,h5⟩
theorem Po (L:Lays.n166 P ρ)(X:Builder.Extra P ρ){l s:List UInt8}(hl:l.length+s.length<=140737488355328) :
 lD P (ρ.f 166) [.one (.ptr 0 0),.one (.c (.str s))] [.var [.opt (ρ.t 72) 0,.vS 1 l.length],.row (ρ.t 5) l] λr bs=>r = .wu [(false,[.c (.lit (.int .i64 s.length))]),(false,[.c (.lit .nilIface)])]/\bs=[.var [.opt (ρ.t 72) 0,.vS 2 (l++s).length],.dead,.row (ρ.t 5) (l++s)]:=by
 intro I r w vs hT hA hB hG;obtain⟨a,b',rfl,ha,hb⟩:=LM hG;obtain⟨k,p,v,b⟩:=WT hB;obtain⟨k',cap',hr,rfl⟩:=ha;rw[b.r0]at hr;simp only[aJ,aI]at hr;obtain⟨rfl,_⟩:=hr;cases hb;refine(OE L X k p v l s w b.hk b.hp b.hv hl).mono ?_;rintro e w' ⟨rfl,hW⟩;obtain⟨σ,h1,h2,h3,h4,h5⟩:=U7 X.neB5 hA hB b hW;refine⟨_,I,σ,_,_,rfl,⟨rfl,rfl⟩,⟨_,rfl,rfl,λj u q hu hq=>?_⟩,h1,h2,IH.le_refl I,h3,h4,λ_ _ _=>rfl,h5⟩
 match j with
 |0=>simp at hu hq;subst hu;subst hq;exact⟨_,rfl,Rd.lit _ rfl⟩
 |1=>simp at hu hq;subst hu;subst hq;exact⟨_,rfl,Rd.lit _ rfl⟩
 |j+2=>simp at hu
theorem Y0 (L:Lays.n169 P ρ)(X:Builder.Extra P ρ){l:List UInt8}(hl:l.length<=maxLen) :
 lD P (ρ.f 169) [.one (.ptr 0 0)] [.var [.opt (ρ.t 72) 0,.vS 1 l.length],.row (ρ.t 5) l] λr bs=>r = .one (.c (.str l))/\bs=[.dead,.dead]:=by
 intro I r w vs hT hA hB hG;obtain⟨a,rfl,ha⟩:=LK hG;obtain⟨k,p,v,b⟩:=WT hB;obtain⟨k',cap',hr,rfl⟩:=ha;rw[b.r0]at hr;simp only[aJ,aI]at hr;obtain⟨rfl,_⟩:=hr;refine(WU L X k p v l w b.hk b.hv).mono ?_;rintro e w' ⟨rfl,hF⟩;have hρ:∀c,2<=c->r c=none:=λc hc=>by have h1:=hB.ok c;rw[CZ (by simpa using hc)]at h1;exact h1
 have un:∀c k',(DN [.dead,.dead] c).uses (r c) k'->False:=λc k' hu=>by
  match c with
  |0=>exact hu
  |1=>exact hu
  |c+2=>rw[CZ (by simp)]at hu;exact hu
 refine⟨_,I,r,_,_,rfl,⟨rfl,rfl⟩,Rd.str _ hl,?_,⟨λc=>?_,λc c' k' hc=>(un c k' hc).elim,λc k' hc=>(un c k' hc).elim⟩,IH.le_refl I,⟨hF.os,hF.tape,hF.output,hF.size,λk' hlt hm=>hF.block k' hlt λe=>hm ⟨1,?_⟩⟩,λc k' hc=>(un c k' hc).elim,λ_ _ _=>rfl,λ_ _=>rfl⟩
 ·exact hA.other λk1 c hc=>hF.block k1 (hA.lt hc) λe=>by rw[b.i1 k1 e.symm]at hc;cases hc
 ·match c with
  |0=>trivial
  |1=>trivial
  |c+2=>rw[CZ (by simp)];exact hρ _ (by omega)
 ·exact b.own k' e.symm
end Go.Ab
end
section
namespace Go.Ab
open Go Go.Shelf Go.Proofs
variable {P:Program} {ρ:Go.Shelf.Ren}
theorem afJ {I:IH} {w:World} (hT:Tabs P I) (hA:Agree I w) {g:Nat} (hg:P.globalNamed "internal/strconv.uint64pow10" = some g):Lib.TabIs P w "internal/strconv.uint64pow10" .u64 Go.Lib.pow10Tab:=by
 obtain⟨e,fr,h⟩:=hA g _ (hT.pow g hg);unfold Lib.TabIs World.var?;simp only[hg,Option.bind_some,h]
theorem adB (L:LaysM.n171 P ρ){n:Int}(h0 : -9223372036854775808<=n/\n<=9223372036854775807)(hl:(Go.Lib.itoa n).length<=maxLen){r:List UInt8}(hr:r=Go.Lib.itoa n) :
 dS P (ρ.f 171) [.one (.c (.lit (.int .i64 n)))] (.one (.c (.str r))):=by
 subst hr;intro I r w vs hT hA hB hG;obtain⟨a,rfl,ha⟩:=LK hG;cases ha;have hB':∀b,DN [] b = .absent:=λb=>CZ (aN _);refine(Any.strconv_Itoa L n h0.1 h0.2 w (afJ hT hA L.m17)).mono ?_;rintro e w' ⟨rfl,k,os,rfl⟩;have hb:=Lib.below_grow w.heap.size w (au _) k os;refine⟨_,I,r,_,_,rfl,⟨rfl,rfl⟩,Rd.str _ hl,hA.other λk1 c hc=>hb.block k1 (hA.lt hc),⟨λb=>?_,λb b' k hu=>?_,λb k hu=>?_⟩,IH.le_refl I,Dt hb _,λb k hu=>?_,λ_ _ _=>rfl,λ_ _=>rfl⟩
 ·have:=hB.ok b;rw[hB']at this⊢;exact this
 all_goals(rw[hB']at hu;exact hu.elim)
end Go.Ab
end
section
namespace Go.Ab
open Go Go.Shelf Go.Proofs Go.RowKit
variable {P:Program} {ρ:Go.Shelf.Ren}
theorem Jb {I:IH}{v:Value}{s:aO}(h:Rd I v (.str s)):v = .string ⟨⟨s⟩⟩/\s.length<=maxLen:=by
 cases h with
 |str l h=>exact⟨rfl,h⟩
theorem aeg {I:IH}{w:World}(hA:Agree I w){v:Value}{l:List aO}(h:Rd I v (.sl 1 (l.map cS))):∃a len cap,v = .slice a len cap/\l.length=len/\len<=cap/\(0<len->∃b o,a=some ⟨b,o,none⟩/\b<w.heap.size/\∀j s,l[j]? = some s->w.cell? ⟨b,o+j,none⟩=some (.string ⟨⟨s⟩⟩)):=by
 cases h with
 | sl a len cap sz es u hlen hcap hmax hsz ha hcell hr=>
   rw[kJ]at hlen;refine⟨a,len,cap,rfl,hlen,hcap,λh0=>?_⟩;obtain⟨ad,rfl⟩:∃ad,a=some ad:=by
    cases a with
    |none=>exact absurd rfl (ha h0)
    |some ad=>exact⟨ad,rfl⟩
   have h00:=hcell ad rfl 0 0 h0 (by omega);have hsp:ad.spot=none:=by
    unfold IH.cell at h00;split at h00
    ·cases h00
    ·rename_i hs;have:(ad.add (0*1+0)).spot=ad.spot:=rfl;rw[this]at hs;cases h:ad.spot with
     |none=>rfl
     |some x=>rw[h]at hs;simp at hs
   have hlt:ad.block<w.heap.size:=by have:=hA.cell h00;exact World.block_lt_of_cell? _ _ this
   refine⟨ad.block,ad.off,?_,hlt,λj s hj=>?_⟩
   ·cases ad;simp only at hsp;rw[hsp]
   ·obtain⟨hjl,rfl⟩:=bn.1 hj;have h1:=hA.cell (hcell ad rfl j 0 (by omega) (by omega));have h2:=hr j 0 (.str l[j]) (by simp[hjl,cS]);obtain⟨e,_⟩:=Jb h2;rw[e]at h1;have:ad.add (j*1+0)=⟨ad.block,ad.off+j,none⟩:=by cases ad;simp only at hsp;subst hsp;simp[vg]
    rw[this]at h1;exact h1
theorem adC (L:Lays.n156 P ρ)(X:Builder.Extra P ρ){l:List aO}{sep r:aO}(hN:l.length<=140737488355328)(hl:(sH l sep).length<=140737488355328)(hr:r=sH l sep) :
 dS P (ρ.f 156) [.one (.c (.sl 1 (l.map cS))),.one (.c (.str sep))] (.one (.c (.str r))):=by
 subst hr;intro I r w vs hT hA hB hG;obtain⟨a,b,rfl,ha,hb⟩:=LM hG;have hB':∀b,DN [] b = .absent:=λb=>CZ (aN _);have ha:Rd I a (.sl 1 (l.map cS)):=ha;obtain⟨e2,hs2⟩:=Jb (show Rd I b (.str sep)from hb);subst e2;obtain⟨ad,len,cap,rfl,hlen,hcap,hcells⟩:=aeg hA ha;have hml:140737488355328<=maxLen:=by decide
 have key:Calls P (ρ.f 156) #[.slice ad len cap,.string ⟨⟨sep⟩⟩] w λe w'=>e = .returned (.string ⟨⟨sH l sep⟩⟩)/\Below w.heap.size w w':=by
  by_cases h0:0<len
  ·obtain⟨bk,o,rfl,hlt,hc⟩:=hcells h0;have:=Any.strings_Join L X bk o cap (l.map λs=>⟨⟨s⟩⟩) ⟨⟨sep⟩⟩ w (λj x hx=>by
    rw[fQ]at hx;obtain⟨s,hs,rfl⟩:=Option.map_eq_some_iff.1 hx;exact hc j s hs) hlt (by rw[kJ];omega) (by rw[kJ];omega) (by rw[zL];have:(l.map ((λx:ByteArray=>x.data.toList)∘λs=>⟨⟨s⟩⟩))=l:=(by simp[CJ]);rw[this];exact hl)
   rw[kJ,hlen,zL]at this;have e:(l.map ((λx:ByteArray=>x.data.toList)∘λs=>⟨⟨s⟩⟩))=l:=(by simp[CJ]);rw[e]at this;exact this
  ·have:len=0:=(by omega);subst this;have hnil:l=[]:=List.length_eq_zero_iff.1 hlen;subst hnil;refine(Any.strings_Join_none L X ad cap ⟨⟨sep⟩⟩ w).mono λe w' ⟨he,hw⟩=>⟨?_,hw▸Below.refl _ _⟩;rw[he];rfl
 refine key.mono ?_;rintro e w' ⟨rfl,hb⟩;refine⟨_,I,r,_,_,rfl,⟨rfl,rfl⟩,Rd.str _ (Nat.le_trans hl hml),hA.other λk1 c hc=>hb.block k1 (hA.lt hc),⟨λb=>?_,λb b' k hu=>?_,λb k hu=>?_⟩,IH.le_refl I,Dt hb _,λb k hu=>?_,λ_ _ _=>rfl,λ_ _=>rfl⟩
 ·have:=hB.ok b;rw[hB']at this⊢;exact this
 all_goals(rw[hB']at hu;exact hu.elim)
theorem SG (L:Lays.n99 P ρ){s p:aO}{r:Bool}(hr:r=Go.Lib.hasPrefix s p) :
 dS P (ρ.f 99) [.one (.c (.str s)),.one (.c (.str p))] (.one (.c (.lit (.bool r)))):=by
 subst hr;intro I r w vs hT hA hB hG;obtain⟨a,b,rfl,ha,hb⟩:=LM hG;have hB':∀b,DN [] b = .absent:=λb=>CZ (aN _);obtain⟨e1,_⟩:=Jb (show Rd I a (.str s)from ha);obtain⟨e2,_⟩:=Jb (show Rd I b (.str p)from hb);subst e1 e2;refine(Any.strings_HasPrefix L ⟨⟨s⟩⟩ ⟨⟨p⟩⟩ w).mono ?_;rintro e w' ⟨rfl,rfl⟩;have hb:=Below.refl w'.heap.size w';refine⟨_,I,r,_,_,rfl,⟨rfl,rfl⟩,Rd.lit _ rfl,hA,⟨λb=>?_,λb b' k hu=>?_,λb k hu=>?_⟩,IH.le_refl I,Dt hb _,λb k hu=>?_,λ_ _ _=>rfl,λ_ _=>rfl⟩
 ·have:=hB.ok b;rw[hB']at this⊢;exact this
 all_goals(rw[hB']at hu;exact hu.elim)
end Go.Ab
end
section
namespace Go.Ab
open Go Go.Shelf Go.Proofs Go.RowKit
variable {P:Program} {ρ:Go.Shelf.Ren}
def Gx (s:aO):Int×Bool:=match yI s with
 |.ok v=>(v,false)
 |.range=>(Lib.atoiSat s,true)
 | _=>(0,true)
theorem adA (L:LaysC.n172 P ρ){s:aO}{r:Int×Bool}(hl:s.length<=281474976710656)(hr:r=Gx s) :
 dS P (ρ.f 172) [.one (.c (.str s))] (.wu [(false,[.c (.lit (.int .i64 r.1))]),(false,[.err r.2])]):=by
 subst hr;intro I r w vs hT hA hB hG;obtain⟨a,rfl,ha⟩:=LK hG;have hB':∀b,DN [] b = .absent:=λb=>CZ (aN _);obtain⟨e1,_⟩:=Jb (show Rd I a (.str s)from ha);subst e1;obtain⟨v1,hv1,hi1⟩:=hT.ers _ L.m15;obtain⟨v2,hv2,hi2⟩:=hT.err _ L.m16;have key:Calls P (ρ.f 172) #[.string ⟨⟨s⟩⟩] w λe w'=>Below w.heap.size w w'/\∃v,e = .returned (.tuple #[.int .i64 (Gx s).1,v])/\GC I r v (.err (Gx s).2):=by
  unfold Gx;cases h:yI s with
  | ok v=>
    refine(Any.strconv_Atoi_ok L ⟨⟨s⟩⟩ (by show s.length<=_;omega) v h w).mono ?_;rintro e w' ⟨rfl,hw⟩;refine⟨?_,_,rfl,rfl⟩;rcases hw with rfl|⟨t,rfl⟩
    ·exact Below.refl _ _
    ·exact Lib.bytesWorld_below _ _ _
  | range=>refine(Any.strconv_Atoi_range L ⟨⟨s⟩⟩ hl h v2 w (hA.cell hv2) hi2).mono ?_;rintro e w' ⟨N,rfl,_,_,hb⟩;exact⟨hb,_,rfl,_,_,rfl⟩
  | _=>refine(Any.strconv_Atoi_syntax L ⟨⟨s⟩⟩ hl h v1 w (hA.cell hv1) hi1).mono ?_;rintro e w' ⟨N,rfl,_,_,hb⟩;exact⟨hb,_,rfl,_,_,rfl⟩
 refine key.mono ?_;rintro e w' ⟨hb,v,rfl,hv⟩;refine⟨_,I,r,_,_,rfl,⟨rfl,rfl⟩,⟨_,rfl,rfl,λj x p hx hp=>?_⟩,hA.other λk1 c hc=>hb.block k1 (hA.lt hc),⟨λb=>?_,λb b' k hu=>?_,λb k hu=>?_⟩,IH.le_refl I,Dt hb _,λb k hu=>?_,λ_ _ _=>rfl,λ_ _=>rfl⟩
 ·match j with
  | 0=>simp at hx hp;subst hx hp;unfold GP;rw[if_neg (by simp)];exact⟨_,rfl,Rd.lit _ rfl⟩
  | 1=>simp at hx hp;subst hx hp;unfold GP;rw[if_neg (by simp)];exact⟨_,rfl,hv⟩
  |j+2=>simp at hp
 ·have:=hB.ok b;rw[hB']at this⊢;exact this
 all_goals(rw[hB']at hu;exact hu.elim)
theorem abq {I:IH}{r:Go.Ab.Ren}{vs:List Value}{x y z:AV}(h:UQ I r vs [x,y,z]):∃a b c,vs=[a,b,c]/\GV I r a x/\GV I r b y/\GV I r c z:=by
 obtain⟨hl,hv⟩:=h
 match vs,hl with
 |[a,b,c],_=>exact⟨a,b,c,rfl,hv 0 a x rfl rfl,hv 1 b y rfl rfl,hv 2 c z rfl rfl⟩
theorem MR (sep:ByteArray)(save:Nat):∀(k:Nat) (s x:ByteArray),x∈BG sep save k s->x.size<=s.size
 | 0,s,x,h=>by rw[Lib.splitB_zero]at h;rw[bM.1 h];exact au _
 | k+1,s,x,h=>by
   unfold BG at h;split at h
   ·rw[bM.1 h];exact au _
   ·rcases cO.1 h with e|e
    ·rw[e,pX];omega
    ·have:=MR sep save k _ x e;rw[pX]at this;omega
theorem Y1 (w:World)(o:Obj):(w.alloc o).heap[w.heap.size]? = some o:=by show(w.heap.push o)[w.heap.size]? = some o;simp
def IH.add (I:IH)(k:Nat)(cs:Array Value):IH:=λb=>if b=k then some cs else I b
theorem YZ (L:Lays.n147 P ρ)(hi9:(P.info? (ρ.t 9)).map (λi=>(i.zero,i.size,i.bytes))=some (some (.string uD),1,16)){s sep:aO}{n:Int}{r:List aO}
 (hs:s.length<4294967281) (h1:1<=sep.length) (hn:1<=n) (hn63:n<=1000000) (hg:P.globalNamed "internal/bytealg.MaxLen" = some (ρ.g 1)) (hr:r=oG sep 0 (min n.toNat (s.length+1)-1) s) :
 dS P (ρ.f 147) [.one (.c (.str s)),.one (.c (.str sep)),.one (.c (.lit (.int .i64 n)))] (.one (.c (.sl 1 (r.map cS)))):=by
 subst hr;intro I r w vs hT hA hB hG;obtain⟨a,b,c,rfl,ha,hb,hc⟩:=abq hG;have hB':∀b,DN [] b = .absent:=λb=>CZ (aN _);obtain⟨e1,_⟩:=Jb (show Rd I a (.str s)from ha);obtain⟨e2,_⟩:=Jb (show Rd I b (.str sep)from hb);have e3:c = .int .i64 n:=xw hc;subst e1 e2 e3;obtain⟨m,hm⟩:=hT.mxl _ hg;obtain⟨k,rfl⟩:∃k:Nat,n=k:=⟨n.toNat,by omega⟩;have hS:=Any.strings_SplitN L hi9 ⟨⟨s⟩⟩ ⟨⟨sep⟩⟩ k m w hs (hA.cell hm) h1 (by omega) (by omega);refine hS.mono ?_;rintro e w' ⟨rfl,rfl⟩;rw[show(⟨⟨s⟩⟩:ByteArray).size=s.length from rfl];have hK:=Lib.splitB_data ⟨⟨sep⟩⟩ 0 (min k (s.length+1)-1) ⟨⟨s⟩⟩;have hle:=Lib.splitB_length_le ⟨⟨sep⟩⟩ 0 (min k (s.length+1)-1) ⟨⟨s⟩⟩;have hK:(BG ⟨⟨sep⟩⟩ 0 (min k (s.length+1)-1) ⟨⟨s⟩⟩).map (·.data.toList)=oG sep 0 (min k (s.length+1)-1) s:=hK;rw[Int.toNat_natCast,<- hK];have ag4:=MR ⟨⟨sep⟩⟩ 0 (min k (s.length+1)-1) ⟨⟨s⟩⟩;generalize BG ⟨⟨sep⟩⟩ 0 (min k (s.length+1)-1) ⟨⟨s⟩⟩=l at *;have hI:I w.heap.size=none:=by
  cases h:I w.heap.size with
  |none=>rfl
  |some c=>exact absurd (hA.lt h) (Nat.lt_irrefl _)
 have hile:I.le (I.add w.heap.size (Ee l (min k (s.length+1)))):=λb c hc=>by
  unfold IH.add;by_cases h:b=w.heap.size
  ·rw[h,hI]at hc;cases hc
  ·rw[if_neg h];exact hc
 have hml:4294967281<=maxLen:=by decide
 refine⟨_,I.add w.heap.size (Ee l (min k (s.length+1))),r,_,_,rfl,⟨rfl,rfl⟩,?_,?_,⟨λb=>?_,λb b' k hu=>?_,λb k hu=>?_⟩,hile,Dt ((Below.refl _ w).alloc (au _) _) _,λb k hu=>?_,λk1 hk _=>?_,λ_ _=>rfl⟩
 ·refine Rd.sl (some ⟨w.heap.size,0,none⟩) l.length (min k (s.length+1)) 1 _ (λi _=>.string (l.getD i uD)) (by simp) (by omega) (by omega) (λe he=>?_) (λ_ h=>by cases h) (λad had i j hi hj=>?_) (λi j c hc=>?_)
  ·obtain⟨x,_,rfl⟩:=oZ.1 he;rfl
  ·cases had;have e:(⟨w.heap.size,0,none⟩:Addr).add (i*1+j)=⟨w.heap.size,i,none⟩:=by
    have:i*1+j=i:=(by omega);rw[this];by_cases h0:i=0
    ·subst h0;rfl
    ·simp[vg,h0]
   rw[e];unfold IH.cell IH.add;simp only[if_true];unfold Ee;rw[if_neg (by simp)];simp only[List.getElem?_toArray];rw[dU (by simpa using hi),fQ];simp[bu,hi]
  ·rw[zL]at hc;by_cases hi:i<l.length
   ·have e1:((l.map (cS∘λx:ByteArray=>x.data.toList)).getD i [])=cS (l[i]).data.toList:=(by simp[bu,hi]);rw[e1]at hc
    match j with
    | 0=>simp[cS]at hc;subst hc;have e2:l.getD i uD=⟨⟨(l[i]).data.toList⟩⟩:=(by simp[bu,hi]);rw[e2];refine Rd.str _ ?_;have:=ag4 l[i] (dO hi);have h3:(l[i]).data.toList.length=(l[i]).size:=rfl;have h4:(⟨⟨s⟩⟩:ByteArray).size=s.length:=rfl;omega
    |j+1=>simp[cS]at hc
   ·have:((l.map (cS∘λx:ByteArray=>x.data.toList)).getD i [])=[]:=(by simp[bu,nG (by simpa using hi:(l.map _).length<=i)]);rw[this]at hc;simp at hc
 ·intro b c hc;unfold IH.add at hc;by_cases h:b=w.heap.size
  ·rw[if_pos h]at hc;cases hc;subst h;exact⟨_,_,Y1 w _⟩
  ·rw[if_neg h]at hc;obtain⟨e,fr,hw⟩:=hA b c hc;exact⟨e,fr,(Below.heap_alloc _ _ _ (hA.lt hc)).trans hw⟩
 ·have:=hB.ok b;rw[hB']at this⊢;exact this
 ·rw[hB']at hu;exact hu.elim
 ·rw[hB']at hu;exact hu.elim
 ·rw[hB']at hu;exact hu.elim
 ·unfold IH.add;rw[if_neg (by omega)]
end Go.Ab
end
namespace Go.Ab
open Go
def BQ : aO->List aO
 |[]=>[[]]
 | b::r=>if b=44 then []::BQ r else match BQ r with
   |[]=>[[b]]
   |x::xs=>(b::x)::xs
def ag7 (b:UInt8):Bool:=(decide (48<=b.toNat)&&decide (b.toNat<=57))||(decide (97<=b.toNat)&&decide (b.toNat<=102))
def Ib (s:aO):Bool:=s.all ag7&&decide (s.length=4)
def Oz (sv:aO->Bool)(x:aO):Option aO:=
 if x=[42]then some x else if x.length=6/\x.getD 0 0=34/\x.getD 5 0=34/\sv ((x.drop 1).take 4)=true then some ((x.drop 1).take 4)else none
def colS (sv:aO->Bool)(acc:Option (List aO))(x:aO):Option (List aO):=acc.bind λl=>if l.length=4 then none else(Oz sv x).map λy=>l++[y]
def adK (sv:aO->Bool)(ws:List aO):Option (List aO):=ws.foldl (colS sv) (some [])
def Um (sv:aO->Bool)(s:aO):List aO×Bool:=if s=[]then([],true)else match adK sv (BQ s)with
 |some l=>(l,true)
 |none=>([],false)
end Go.Ab
