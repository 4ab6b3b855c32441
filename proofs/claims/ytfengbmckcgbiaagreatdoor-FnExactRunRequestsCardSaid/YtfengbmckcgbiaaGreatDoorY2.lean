/- What abstract codes mean (part 2). No conditions. -/
import Derived.Test.YtfengbmckcgbiaaGreatDoorY1
set_option linter.unusedVariables false
set_option linter.unusedSimpArgs false
open Array renaming getElem?_eq_some_iff->eH,getD_eq_getD_getElem?->fH,getElem?_eq_getElem->lZ,length_toList->nN,getElem?_map->qp,getElem?_append_left->sJ,replicate->tC,range->wz,mapM_eq_mapM_toList->xX,ext'->zB
open Bool renaming and_eq_true->ah,or_eq_true->iJ,not_eq_true'->kW,and_eq_false_iff->qo,or_true->yl
open Go.Builtin renaming append_->iM,firstCells->jc,copy_->ni,lenOf->rX
open Go.Code renaming region->Dt
open Go.Exit renaming inBlock->Ac
open Go.Instr renaming fill->uS
open Go.Oper renaming wp_mono->CB,upon_skip->EC,wp->xe
open Go.Region renaming wanted->BL,ready->ve
open Go.Result renaming andThen_ok->bQ
open Go.Sem renaming run_map->Gt,run_bind->dN,run_pure->dw
open Go.Value renaming slice->Dw,cells->oH,pointer->rY
open Go.World renaming cell?->iy
open List renaming contains_eq_mem->Ae,nodup_cons->Af,zipIdx->CG,mem_map_of_mem->D7,pairwise_append->DJ,mapM_cons->Dz,mem_range->Gv,flatten->Ib,getElem?_eq_getElem->aB,mem_cons->aK,getElem?_eq_some_iff->aS,mem_cons_self->bD,mem_filter->bF,mem_append->bG,map_cons->bT,replicate->bW,all_eq_true->bf,mem_map->bu,getD_eq_getElem?_getD->cZ,getElem?_append_left->cu,getElem?_map->dG,getElem?_append_right->dU,getElem_mem->dX,mem_append_left->dZ,mem_filterMap->eG,getElem?_cons_succ->eX,getElem?_cons_zero->eY,mem_cons_of_mem->fJ,mem_append_right->fQ,mem_of_mem_take->gG,getElem?_drop->gW,mem_of_getElem?->iF,length_take->iK,length_nil->iU,length_cons->iV,not_mem_nil->iW,map_nil->jP,flatMap_cons->kE,contains_iff_mem->kT,getElem?_eq_none->kU,map_toArray->lU,mem_flatMap->lV,mem_of_mem_drop->lq,getElem?_toArray->nU,size_toArray->o6,mem_of_head?->oZ,mem_zipIdx_iff_getElem?->oz,map_congr_left->rJ,getElem?_set->rq,pairwise_cons->sO,range->tV,length_map->vg,map_append->vk,getElem_of_mem->wE,length_eq_zero_iff->wH,filter_append->wP,filter_eq_self->x8,getElem?_take_of_lt->yB,getElem?_range->yc,pairwise_iff_getElem->yf,any_eq_true->zH,cons_append->zI
open List.Sublist renaming refl->EF
open Nat renaming lt_succ_self->BO,div_add_mod->CJ,le_max_left->CO,div_lt_iff_lt_mul->CZ,lt_or_ge->Ic,mod_mod->Jh,le_refl->aF,mul_le_mul_right->aX,le_trans->bJ,add_mul->dL,zero_add->fV,lt_of_lt_of_le->lD,sub_zero->oP,add_zero->sF,mul_comm->wX,mod_eq_of_lt->xE,add_mul_mod_self_right->xN,add_mod->yQ,one_mul->yR,lt_trichotomy->yY,add_comm->yt,zero_mul->zY
open Option renaming map_eq_some_iff->dD,map_some->kL,getD_some->lW,isSome_iff_exists->qx,bind_eq_some_iff->yS
open Option.some renaming injEq->aH
open Prod.mk renaming injEq->dF
namespace Go.Ab
open Go
section
def UM (P:Program)(t:TypeId):RR:=match P.info? t with
 | some i=>(match i.zero with
   |some z=>(match Q8 z.cells (refsOf P 6 t 0)with|some R=>R|none=>[])
   |none=>[])
 |none=>[]
def placesOf (P:Program)(fs:Array Field):Nat->Option (Nat×Nat):=((fs.map λf=>(f.offset,P.cellsOf f.type))[·]?)
def Yt (P:Program)(Γ : List OF)(t:TypeId)(ps:List (Nat×Operand)):RR:=match P.underlying t,P.info? t with
 | some (.struct fs),some i=>if fs.toList.all (λf=>(P.info? f.type).isSome)then(match i.zero with
   | some z=>(match Q8 z.cells (refsOf P 6 t 0)with
     |some R=>aar (placesOf P fs) Γ ps R
     |none=>[])
   |none=>[])else []
 |_,_=>[]
def G5 (P:Program)(T:TypeId):Bool:=match P.underlying T with
 | some (.slice e)=>(match P.info? e with
   | some i=>(match i.zero with
     |some z=>z.cells.size==i.size&&(Q8 z.cells (refsOf P 6 e 0)).isSome
     |none=>false)
   |none=>false)
 |_=>false
section
variable {P:Program} {F:TA} {g:Own} {dp:Nat} {Γ : List OF} {a:Act} {w w':World} {d N:Nat} {v:Value}
theorem adW {t:TypeId}{i:TypeInfo}{z:Value}(hi:P.info? t=some i)(hz:i.zero=some z):Rk g dp z.cells (UM P t):=by
 unfold UM;rw[hi];simp only[hz];split
 ·rename_i R hR;exact abS hR
 ·intro e he;cases he
theorem afo (h:OW P F g dp Γ a w)(hd:d<a.tmps.size)(hN:N<=w.heap.size){o:Oper}{t:TypeId}(ho:o.op = .alloc t)(hr:(execOp a.eval o).run P w = .ok (.value v) w') :
 ∃g',Rel dp N g g'/\OW P F g' dp (ZG d (rowOf d (UM P t)) ++ Γ.filter (I8 d)) (a.put (some d) v) w':=by
 simp only[execOp,ho]at hr;have hr:=GY hr;unfold Go.Instr.alloc at hr;obtain⟨z,w1,h1,h2⟩:=eU hr;obtain⟨⟨i,hi,hz⟩,rfl⟩:=Q9 h1
 dsimp only at h2
 obtain⟨p,w2,h3,h4⟩:=eU h2;obtain⟨rfl,rfl⟩:=VQ h3;obtain⟨rfl,rfl⟩:=je h4;exact h.ZG hd (V8 (adW hi hz) d) hN
theorem ako (h:OW P F g dp Γ a w)(hd:d<a.tmps.size)(hN:N<=w.heap.size){o:Oper}{t:TypeId}{x:Operand}(ho:o.op = .box t x)(hr:(execOp a.eval o).run P w = .ok (.value v) w') :
 ∃g',Rel dp N g g'/\OW P F g' dp (ZG d (rowOf d (Gn Γ 0 1000 x)) ++ Γ.filter (I8 d)) (a.put (some d) v) w':=by
 simp only[execOp,ho]at hr;have hr:=GY hr;unfold Go.Instr.box at hr;obtain⟨p,w2,h3,h4⟩:=eU hr;obtain⟨rfl,rfl⟩:=VQ h3;obtain⟨rfl,rfl⟩:=je h4;refine h.ZG hd (V8 (λe he=>?_) d) hN;unfold Gn at he;split at he
 ·rename_i s;rw[eG]at he;obtain⟨f,hf,he⟩:=he;split at he
  ·split at he
   ·rename_i y r hc;cases he;obtain⟨rfl,hlt⟩:=hc;obtain⟨u,hu,hg⟩:=h.fs _ hf;exact⟨u,by rw[fV];exact hu,hg⟩
   ·cases he
  ·cases he
 ·cases he
theorem afx (h:OW P F g dp Γ a w)(hd:d<a.tmps.size){o:Oper}{t:TypeId}{ps:Array (Nat×Operand)}(ho:o.op = .build t ps)(hr:(execOp a.eval o).run P w = .ok (.value v) w') :
 ∀f,f∈(rowOf d (Yt P Γ t ps.toList)).map (.ref d)->FD P F g dp (a.put (some d) v) w f:=by
 intro f hf;rw[bu]at hf;obtain⟨r,hr0,rfl⟩:=hf;simp only[execOp,ho]at hr;have hr:=GY hr;have key:Rk g dp v.cells (Yt P Γ t ps.toList):=by
  unfold Yt;split
  ·rename_i fs i hs hi;split
   ·rename_i hall;split
    ·rename_i z hz;split
     ·rename_i R hR;have hpl:=run_places (P:=P) w fs.toList hall;have hpl':(fs.mapM (m:=Sem) λf=>do pure (f.offset,<- sizeOf f.type)).run P w = .ok (fs.map λf=>(f.offset,P.cellsOf f.type)) w:=by
       rw[xX,Gt,hpl];simp only[bQ]
       congr 1
       apply zB;simp
      have hzr:(zeroValue t).run P w = .ok z w:=(by simp[zeroValue,typeInfo,hi,hz]);have hps:(ps.map λ(i,x)=>(i,a.eval x)).toList=ps.toList.map λp=>(p.1,a.eval p.2):=(by simp);unfold Instr.build at hr;obtain⟨z',w1,h1,h2⟩:=eU hr;rw[hzr]at h1;cases h1;obtain⟨de,w2,h3,h4⟩:=eU h2;rw[run_underlying hs]at h3;cases h3
      dsimp only at h4
      obtain⟨pl,w3,h5,h6⟩:=eU h4;rw[hpl']at h5;cases h5;split at h6
      ·rename_i out hout;have hv:=(je h6).1;subst hv;rw[hps]at hout;exact(Vt h.fs ps.toList _ out R (abS hR) hout).1
      ·cases h6
     ·intro e he;cases he
    ·intro e he;cases he
   ·intro e he;cases he
  ·intro e he;cases he
 obtain⟨u,hu,hg⟩:=V8 key d r hr0;exact⟨u,by rw[iq hd];exact hu,hg⟩
theorem ad8 {n:Nat}{w1:World}{u:Unit}(h:(askRoom n).run P w = .ok u w1):w1=w:=by
 unfold askRoom at h;split at h
 ·rw[run_mark]at h;cases h;rfl
 ·exact(je h).2
theorem Nw {α:Type}{e:RuntimeError}{r:α}{w1:World}(h:(runtimePanic e:Sem α).run P w = .ok r w1):False:=by
 unfold runtimePanic at h;obtain⟨p,w2,h1,h2⟩:=eU h
 dsimp only at h2
 split at h2<;>first
  |cases h2
  |(obtain⟨_,_,_,h3⟩:=eU h2;obtain⟨_,_,_,h4⟩:=eU h3;cases h4)
theorem JM {T e:TypeId}{i:TypeInfo}{z:Value}(hz:G5 P T=true)(hu:P.underlying T=some (.slice e))(hi:P.info? e=some i)(hzero:i.zero=some z){cs:Array Value}(hcs:∀(j:Nat) (u:Value),cs[j]? = some u->u=z.cells[j%z.cells.size]!) :
 ∀j u T',cs[j]? = some u->(j%xO P T,T')∈oD P T->Y9 u:=by
 unfold G5 at hz;rw[hu]at hz;simp only[hi,hzero,ah,aY]at hz;intro j u T' hj ht;have:=hcs j u hj;obtain⟨h1,h2⟩:=hz;cases hR:Q8 z.cells (refsOf P 6 e 0)with
 |none=>rw[hR]at h2;cases h2
 | some R=>
   have he:oD P T=refsOf P 6 e 0:=(by simp[oD,hu]);have hs:xO P T=i.size:=(by simp[xO,hu,hi]);rw[he,hs,<- h1]at ht;unfold Q8 at hR;split at hR
   ·rename_i hall;rw[bf]at hall;have h3:=hall _ ht;cases hc:z.cells[j%z.cells.size]? with
    |none=>rw[hc]at h3;cases h3
    | some u'=>rw[hc]at h3;have:u=u':=(by rw[this,getElem!_def,hc]);rw[this];exact UF h3
   ·cases hR
theorem OW.akl (h:OW P F g dp Γ a w)(hd:d<a.tmps.size)(hN:N<=w.heap.size){cs:Array Value}{e T n c m:Nat}
 (hc:∀j u T',cs[j]? = some u->(j%xO P T,T')∈oD P T->GR g u T' (.blk w.heap.size j)) :
 ∃g',Rel dp N g g'/\OW P F g' dp (.ref d ⟨0,T,m⟩ :: Γ.filter (I8 d)) (a.put (some d) (.slice (some ⟨w.heap.size,0,none⟩) n c)) (w.alloc (.cells cs e)):=by
 have hn:g w.heap.size=none:=by
  cases hg:g w.heap.size with
  |none=>rfl
  |some B=>exact eF (h.good.lt hg) (Nat.lt_irrefl _)
 have h1:=(h.drop d (.slice (some ⟨w.heap.size,0,none⟩) n c)).amY (cs:=cs) (e:=e) (T:=T) (m:=n) (p:=.tag dp m) λj u T' _=>hc j u T';refine⟨_,Rel.new hn hN,h1.add ⟨.slice (some ⟨w.heap.size,0,none⟩) n c,?_,.inr ⟨w.heap.size,n,c,rfl,by simp[yN],by simp[E5]⟩⟩⟩;rw[iq hd];rfl
theorem aiM (h:OW P F g dp Γ a w)(hd:d<a.tmps.size)(hN:N<=w.heap.size){o:Oper}{T:TypeId}{x y:Operand}(hz:G5 P T=true)(ho:o.op = .makeSlice T x y)(hr:(execOp a.eval o).run P w = .ok (.value v) w') :
 ∃g',Rel dp N g g'/\OW P F g' dp (.ref d ⟨0,T,mk d 0⟩ :: Γ.filter (I8 d)) (a.put (some d) v) w':=by
 simp only[execOp,ho]at hr;have hr:=GY hr;have Xt:∀{v:Value} {i:Int} {w w':World},(asInt v).run P w = .ok i w'->w'=w:=by intro v i w w' h;unfold asInt at h;obtain⟨y,w1,h1,h2⟩:=eU h;have e1:=(je h2).2;subst e1;unfold asIntOf at h1;split at h1<;>first|exact(je h1).2|cases h1
 unfold Instr.makeSlice at hr;obtain⟨de,w1,h1,k1⟩:=eU hr;clear hr;obtain⟨hu,rfl⟩:=Dj h1;split at k1
 ·rename_i e;obtain⟨l0,w2,h2,k2⟩:=eU k1;have:=Xt h2;subst this;obtain⟨c0,w3,h3,k3⟩:=eU k2;have:=Xt h3;subst this;obtain⟨i,w4,h4,k4⟩:=eU k3;obtain⟨hi,rfl⟩:=Kv h4;clear k1 k2 k3
  dsimp only at k4
  split at k4
  ·exfalso;split at k4
   ·obtain⟨_,_,h5,_⟩:=eU k4;exact Nw h5
   ·split at k4
    ·obtain⟨_,_,h5,_⟩:=eU k4;exact Nw h5
    ·obtain⟨_,_,_,k5⟩:=eU k4;obtain⟨_,_,h5,_⟩:=eU k5;exact Nw h5
  ·obtain⟨_,w5,h5,k5⟩:=eU k4;have:=ad8 h5;subst this;obtain⟨sz,w6,h6,k6⟩:=eU k5;obtain⟨i',hi',rfl,rfl⟩:=F5 h6;rw[hi]at hi';cases hi';clear k4 k5;split at k6
   ·rename_i h0;obtain⟨z,w7,h7,k7⟩:=eU k6;obtain⟨rfl,rfl⟩:=je h7;obtain⟨p,w8,h8,k8⟩:=eU k7;unfold newRow at h8;obtain⟨q,w9,h9,h10⟩:=eU h8;rw[run_newObj]at h9;cases h9;obtain⟨rfl,rfl⟩:=je h10;obtain⟨rfl,rfl⟩:=je k8;refine h.akl hd hN λj u T' hj _=>?_;have hlt:=(eH.1 hj).1;simp only[Array.size_map,Array.size_range]at hlt;omega
   ·obtain⟨z,w7,h7,k7⟩:=eU k6;obtain⟨⟨i2,hi2,hzero⟩,rfl⟩:=Q9 h7;rw[hi]at hi2;cases hi2;obtain⟨z',w8,h8,k8⟩:=eU k7;obtain⟨rfl,rfl⟩:=je h8;obtain⟨p,w9,h9,k9⟩:=eU k8;unfold newRow at h9;obtain⟨q,w10,h10,h11⟩:=eU h9;rw[run_newObj]at h10;cases h10;obtain⟨rfl,rfl⟩:=je h11;obtain⟨rfl,rfl⟩:=je k9;refine h.akl hd hN λj u T' hj ht=>.inl (JM hz hu hi hzero (λj u hj=>?_) j u T' hj ht);rw[qp]at hj;simp only[dD]at hj;obtain⟨j',hj',rfl⟩:=hj;have:=eH.1 hj';simp at this;rw[this.2]
 ·cases k1
end
end
section
def WE (R:RR):Bool:=R.all λe=>R.all λe'=>e.2.2.isNone||e.2.2 != e'.2.2||e==e'
def Q5 (R:RR):List Nat:=R.filterMap (·.2.2)
def Xb (k off:Nat)(R:RR):List (Nat×zn):=R.filterMap λe=>e.2.2.map λm=>(m,.blk k (off+e.1))
def ah9 (R:RR)(o T:Nat):Bool:=R.any λe=>e.1==o&&e.2.1==T
theorem XV (k off:Nat)(R:RR):(Xb k off R).map (·.1)=Q5 R:=by
 induction R with
 |nil=>rfl
 | cons e r ih=>
   obtain⟨o,T,m⟩:=e;cases m with
   |none=>simpa[Xb,Q5]using ih
   |some m=>simp only[Xb,Q5,List.filterMap_cons,kL,bT]at ih⊢;rw[ih]
theorem VK {β:Type}{m:Nat}{q:β} : ∀{l:List (Nat×β)},(m,q)∈l->∃q',l.lookup m=some q'/\(m,q')∈l
 | (k,b)::r,h=>by
   simp only[List.lookup];cases hk:(m==k)with
   |true=>simp at hk;subst hk;exact⟨b,rfl,bD ..⟩
   | false=>
     rcases aK.1 h with e|h
     ·cases e;simp at hk
     ·obtain⟨q',h1,h2⟩:=VK h;exact⟨q',h1,fJ _ h2⟩
theorem aaR {k off:Nat}{R:RR}(ht:WE R=true){e:Nat×Nat×Option Nat}(he:e∈R){m:Nat}(hm:e.2.2=some m):(Xb k off R).lookup m=some (.blk k (off+e.1)):=by
 have h1:(m,zn.blk k (off+e.1))∈Xb k off R:=by rw[Xb,eG];exact⟨e,he,by rw[hm];rfl⟩
 obtain⟨q,hq,hm'⟩:=VK h1;rw[hq];rw[Xb,eG]at hm';obtain⟨e',he',h2⟩:=hm';cases h3:e'.2.2 with
 |none=>rw[h3]at h2;cases h2
 | some m'=>
   rw[h3]at h2;simp only[kL,aH,dF]at h2;obtain⟨rfl,rfl⟩:=h2;simp only[WE,bf,iJ,Option.isNone_iff_eq_none,bne_iff_ne,aY]at ht;have:=ht e he e' he';rcases this with(h|h)|h
   ·rw[hm]at h;cases h
   ·rw[hm,h3]at h;exact eF rfl h
   ·rw[h]
section
variable {P:Program} {F:TA} {g:Own} {dp:Nat} {Γ : List OF} {a:Act} {w w':World} {d N:Nat} {v:Value}
theorem Rk.mv {cs:Array Value}{R:RR}(h:Rk g dp cs R)(ht:WE R=true)(k off:Nat){e:Nat×Nat×Option Nat}(he:e∈R):∃u,cs[e.1]? = some u/\GR (g.mv dp (Xb k off R)) u e.2.1 (.blk k (off+e.1)):=by
 obtain⟨u,hu,hg⟩:=h e he;refine⟨u,hu,?_⟩;cases hm:e.2.2 with
 |none=>rw[hm]at hg;exact .inl hg
 |some m=>rw[hm]at hg;exact GR.mv hg (aaR ht he hm)
theorem ajU (h:OW P F g dp Γ a w){x:Operand}{size:Nat} : Rk g dp (a.eval x).cells (Gn Γ 0 size x):=by
 intro e he;unfold Gn at he;split at he
 ·rename_i s;rw[eG]at he;obtain⟨f,hf,he⟩:=he;split at he
  ·split at he
   ·rename_i y r hc;cases he;obtain⟨rfl,hlt⟩:=hc;obtain⟨u,hu,hg⟩:=h.fs _ hf;exact⟨u,by rw[fV];exact hu,hg⟩
   ·cases he
  ·cases he
 ·cases he
def ado (P:Program)(T len:Nat):RR:=(tV len).flatMap λi=>(oD P T).map λe=>(i*xO P T+e.1,e.2,none)
def KR (P:Program)(Γ : List OF)(T len:Nat)(ps:List (Nat×Operand)):RR:=aar (λi=>some (i*xO P T,xO P T)) Γ ps (ado P T len)
def U3 (P:Program)(Γ : List OF)(T len:Nat)(ps:List (Nat×Operand)):Bool:=
 G5 P T&&WE (KR P Γ T len ps)&&(tV len).all (λi=>(oD P T).all λe=>ah9 (KR P Γ T len ps) (i*xO P T+e.1) e.2)&&decide (0<xO P T)
theorem acO {T e:TypeId}{i:TypeInfo}(hu:P.underlying T=some (.slice e))(hi:P.info? e=some i):xO P T=i.size:=by simp[xO,hu,hi]
theorem aiL {T e:TypeId}{i:TypeInfo}{z:Value}(hz:G5 P T=true)(hu:P.underlying T=some (.slice e))(hi:P.info? e=some i)(hzero:i.zero=some z){n:Nat}{cs:Array Value}(hcs:cs=(wz n).map (z.cells[· % z.cells.size]!)) :
 ∀j u T',cs[j]? = some u->(j%xO P T,T')∈oD P T->Y9 u:=by
 refine JM hz hu hi hzero λj u hj=>?_;subst hcs;rw[qp]at hj;simp only[dD]at hj;obtain⟨j',hj',rfl⟩:=hj;have:=eH.1 hj';simp at this;rw[this.2]
theorem ahT {T e:TypeId}{i:TypeInfo}{z:Value}(hz:G5 P T=true)(hu:P.underlying T=some (.slice e))(hi:P.info? e=some i)(hzero:i.zero=some z){o T':Nat}(ho:(o,T')∈oD P T):o<xO P T:=by
 unfold G5 at hz;rw[hu]at hz;simp only[hi,hzero,ah,aY]at hz;obtain⟨h1,h2⟩:=hz;have he:oD P T=refsOf P 6 e 0:=by simp[oD,hu]
 rw[he]at ho;cases hR:Q8 z.cells (refsOf P 6 e 0)with
 |none=>rw[hR]at h2;cases h2
 | some R=>
   unfold Q8 at hR;split at hR
   ·rename_i hall;rw[bf]at hall;have:=hall _ ho;cases hc:z.cells[o]? with
    |none=>dsimp only at this;rw[hc]at this;cases this
    | some u=>have:=(eH.1 hc).1;rw[acO hu hi,<- h1];exact this
   ·cases hR
theorem acm (h:OW P F g dp Γ a w)(hd:d<a.tmps.size)(hN:N<=w.heap.size){o:Oper}{T:TypeId}{len:Nat}{ps:Array (Nat×Operand)}(hok:U3 P Γ T len ps.toList=true)(ho:o.op = .buildSlice T len ps)(hr:(execOp a.eval o).run P w = .ok (.value v) w') :
 ∃g',Rel dp N g g'/\OW P F g' dp (.ref d ⟨0,T,mk d 0⟩::(Γ.filter (FU (Q5 (KR P Γ T len ps.toList)))).filter (I8 d)) (a.put (some d) v) w':=by
 simp only[U3,ah,bf,aC]at hok;obtain⟨⟨⟨hz,ht⟩,hcov⟩,h0⟩:=hok;simp only[execOp,ho]at hr;have hr:=GY hr;unfold Instr.buildSlice at hr;obtain⟨de,w1,h1,k1⟩:=eU hr;clear hr;obtain⟨hu,rfl⟩:=Dj h1;split at k1
 ·rename_i e;obtain⟨size,w2,h2,k2⟩:=eU k1;obtain⟨i,hi,rfl,rfl⟩:=F5 h2;clear k1;have hes:=acO hu hi
  dsimp only at k2
  split at k2
  ·obtain⟨_,_,h3,_⟩:=eU k2;cases h3
  ·
   have key:∀(z:Value) (cells:Array Value),i.zero=some z->uS (λi'=>some (i'*i.size,i.size)) ((wz (len*i.size)).map (z.cells[· % z.cells.size]!)) (ps.map λ(i,x)=>(i,a.eval x)).toList=some cells ->
    ∃g',Rel dp N g g'/\OW P F g' dp (.ref d ⟨0,T,mk d 0⟩::(Γ.filter (FU (Q5 (KR P Γ T len ps.toList)))).filter (I8 d)) (a.put (some d) (.slice (some ⟨w2.heap.size,0,none⟩) len len)) (w2.alloc (.cells cells e)):=by
    intro z cells hzero alN;have hps:(ps.map λ(i,x)=>(i,a.eval x)).toList=ps.toList.map λp=>(p.1,a.eval p.2):=(by simp);rw[hps,<- hes]at alN;have hnil:Rk g dp ((wz (len*xO P T)).map (z.cells[· % z.cells.size]!)) (ado P T len):=by
     intro q hq;rw[ado,lV]at hq;obtain⟨ix,hix,hq⟩:=hq;rw[bu]at hq;obtain⟨r,hr,rfl⟩:=hq;rw[Gv]at hix;have hlt:=ahT hz hu hi hzero (show(r.1,r.2)∈oD P T from hr);have hj:ix*xO P T+r.1<len*xO P T:=by have:=aX (xO P T) (show ix+1<=len from hix);rw[dL,yR]at this;omega
     have hget:((wz (len*xO P T)).map (z.cells[· % z.cells.size]!))[ix*xO P T+r.1]? = some (z.cells[(ix*xO P T+r.1)%z.cells.size]!):=(by rw[qp,Array.getElem?_range,aA hj];rfl);refine⟨_,hget,?_⟩;refine aiL hz hu hi hzero rfl _ _ r.2 hget ?_;rw[yt,xN,xE hlt];exact hr
    obtain⟨hR,hsz⟩:=Vt h.fs ps.toList _ cells _ hnil alN;have h2:=h.mv (Xb w2.heap.size 0 (KR P Γ T len ps.toList));rw[XV]at h2;obtain⟨g',hrel,how⟩:=h2.akl (d:=d) (N:=N) (cs:=cells) (e:=e) (T:=T) (n:=len) (c:=len) (m:=mk d 0) hd hN (λj u T' hj htt=>by have hjl:=(eH.1 hj).1;rw[hsz]at hjl;simp only[Array.size_map,Array.size_range]at hjl;have hdiv:j/xO P T<len:=Nat.div_lt_of_lt_mul (by rw[wX];exact hjl);have:=hcov (j/xO P T) (Gv.2 hdiv) (j%xO P T,T') htt;simp only[ah9,zH,ah,aY]at this;obtain⟨q,hq,e1,e2⟩:=this;obtain⟨u',hu',hg⟩:=hR.mv ht w2.heap.size 0 hq;have ej:q.1=j:=(by rw[e1,wX];exact CJ j _);rw[ej]at hu' hg;rw[hj]at hu';cases hu';rw[e2,fV]at hg;exact hg)
    exact⟨g',(Rel.mv N _).trans hrel,how⟩
   have hzz:∃z,i.zero=some z:=by
    unfold G5 at hz;rw[hu]at hz;simp only[hi]at hz;cases hq:i.zero with
    |none=>rw[hq]at hz;cases hz
    |some z=>exact⟨z,rfl⟩
   obtain⟨z0,hz0⟩:=hzz;have fin:∀(cells:Array Value),uS (λi'=>some (i'*i.size,i.size)) ((wz (len*i.size)).map (z0.cells[· % z0.cells.size]!)) (ps.map λ(i,x)=>(i,a.eval x)).toList=some cells ->
    (do pure (Dw (some (<- newRow e cells)) len len):Sem Value).run P w2 = .ok v w'->∃g',Rel dp N g g'/\OW P F g' dp (.ref d ⟨0,T,mk d 0⟩::(Γ.filter (FU (Q5 (KR P Γ T len ps.toList)))).filter (I8 d)) (a.put (some d) v) w':=by
    intro cells hf hrun;obtain⟨p,w9,h9,k9⟩:=eU hrun;unfold newRow at h9;obtain⟨q,w10,h10,h11⟩:=eU h9;rw[run_newObj]at h10;cases h10;obtain⟨rfl,rfl⟩:=je h11;obtain⟨rfl,rfl⟩:=je k9;exact key z0 cells hz0 hf
   split at k2
   ·rename_i hl0;obtain⟨z,w7,h7,k7⟩:=eU k2;obtain⟨rfl,rfl⟩:=je h7;split at k7
    ·rename_i cells hf;refine fin cells ?_ k7;rw[hl0]at hf⊢;simpa[Array.range_zero']using hf
    ·cases k7
   ·obtain⟨z,w7,h7,k7⟩:=eU k2;obtain⟨⟨i2,hi2,hzero⟩,rfl⟩:=Q9 h7;rw[hi]at hi2;cases hi2;rw[hz0]at hzero;cases hzero;obtain⟨z',w8,h8,k8⟩:=eU k7;obtain⟨rfl,rfl⟩:=je h8;split at k8
    ·rename_i cells hf;exact fin cells hf k8
    ·cases k8
 ·cases k1
end
end
section
def ZB (P:Program)(Γ : List OF)(T o size:Nat)(x:Operand):Bool:=
 WE (Gn Γ 0 size x)&&(oD P T).all (λe=> !(decide (o<=e.1)&&decide (e.1<o+size))||ah9 (Gn Γ 0 size x) (e.1-o) e.2)&&decide (o+size<=xO P T)
def aaL (b o k:Nat):OF->Bool
 |.row b' r=>b'==b&&decide (o<=r.off)&&decide (r.off<o+k)
 |_=>false
def adL (Γ : List OF)(b o size:Nat)(x:Operand):List OF:=(rowOf 0 (Gn Γ o size x)).map (.row b)
section
variable {P:Program} {F:TA} {g:Own} {dp:Nat} {Γ : List OF} {a:Act} {w w':World} {d N:Nat} {v:Value}
theorem Wx {o:Oper}{t:TypeId}{p x:Operand}{r:Next}(ho:o.op = .store t p x)(hr:(execOp a.eval o).run P w = .ok r w'):∃i,P.info? t=some i/\(a.eval x).cells.size=i.size:=by
 simp only[execOp,ho]at hr;obtain⟨_,w1,h1,_⟩:=eU hr;unfold Go.Instr.storeAt at h1;obtain⟨q,w2,h2,h3⟩:=eU h1;obtain⟨_,rfl⟩:=U1 h2;unfold storeVar at h3;obtain⟨k,w3,h4,h5⟩:=eU h3;obtain⟨i,hi,rfl,rfl⟩:=F5 h4
 dsimp only at h5
 split at h5
 ·obtain⟨_,_,h6,_⟩:=eU h5;cases h6
 ·rename_i hne;exact⟨i,hi,Decidable.not_not.1 hne⟩
theorem Je {cs:Array Value}{off:Nat}{vs:Array Value}(hfit:off+vs.size<=cs.size)(j:Nat):(splice cs.toList off vs.toList).toArray[j]? = if j<off then cs[j]? else if j<off+vs.size then vs[j-off]? else cs[j]?:=by rw[nU,ru _ _ _ _ (by simpa using hfit)];simp
theorem agL (h:OW P F g dp Γ a w){o:Oper}{t:TypeId}{p:Nat}{x:Operand}{T off:Nat}{i:TypeInfo}(ho:o.op = .store t (.tmp p) x){r:Next}(hr:(execOp a.eval o).run P w = .ok r w')(he:Eff o a w w')(hi:P.info? t=some i)(hp : .ep p T off ∈ Γ)(hok:ZB P Γ T off i.size x=true) :
 ∃g',Rel dp N g g'/\OW P F g' dp (Γ.filter (FU (Q5 (Gn Γ 0 i.size x)))) a w':=by
 obtain⟨k,ad,cs,e,hpv,hw,hfit,rfl⟩:=he.store _ _ _ ho;obtain⟨i',hi',hsz⟩:=Wx ho hr;rw[hi]at hi';cases hi';simp only[ZB,ah,bf,aC]at hok;obtain⟨⟨ht,hcov⟩,hle⟩:=hok;obtain⟨k',o',hq,_,hB⟩:=h.fs _ hp;have e1:a.eval (.tmp p)=a.tmps.getD p undef:=rfl;rw[e1,hq]at hpv;cases hpv;have h2:=h.mv (Xb k ad (Gn Γ 0 i.size x));rw[XV]at h2;refine⟨_,Rel.mv N _,h2.Zu hw λB hB'=>?_⟩;cases B with
 | var row d b=>obtain⟨row0,h3,_⟩:=Zo hB';obtain⟨⟨p0,e0⟩,_⟩:=hB _ h3;cases e0
 | arr T' p'=>
   obtain⟨q,h3,_,rfl⟩:=Zn hB';obtain⟨⟨p0,e0⟩,hmod⟩:=hB _ h3;cases e0;refine⟨_,_,rfl,λj u T' hjb hj htt=>?_⟩;rw[Je hfit]at hj;by_cases hj1:j<ad
   ·rw[aA hj1]at hj;obtain⟨cs',e',hw',hold⟩:=h2.good.arr _ _ _ hB';rw[hw]at hw';cases hw';exact hold j u T' hjb hj htt
   ·rw[au hj1]at hj;by_cases hj2:j<ad+(a.eval x).cells.size
    ·rw[aA hj2]at hj;have hm:j%xO P T=off+(j-ad):=by
      have:j=ad+(j-ad):=(by omega);rw[this,yQ,hmod,yQ,Jh,<- yQ];rw[xE aI];omega
     rw[hm]at htt;have:=hcov _ htt;simp only[iJ,kW,qo,dn]at this;have hh:ah9 (Gn Γ 0 i.size x) (off+(j-ad)-off) T'=true:=by
      rcases this with(h5|h5)|h5
      ·omega
      ·omega
      ·exact h5
     simp only[ah9,zH,ah,aY]at hh;obtain⟨en,hen,e4,e5⟩:=hh;obtain⟨u',hu',hg⟩:=(ajU h (x:=x) (size:=i.size)).mv ht k ad hen;have e6:en.1=j-ad:=(by omega);rw[e6]at hu' hg;rw[hj]at hu';cases hu';rw[e5,show ad+(j-ad)=j by omega]at hg;exact hg
    ·rw[au hj2]at hj;obtain⟨cs',e',hw',hold⟩:=h2.good.arr _ _ _ hB';rw[hw]at hw';cases hw';exact hold j u T' hjb hj htt
theorem agM (h:OW P F g dp Γ a w){o:Oper}{t:TypeId}{p:Nat}{x:Operand}{b off:Nat}{i:TypeInfo}(ho:o.op = .store t (.tmp p) x){r:Next}(hr:(execOp a.eval o).run P w = .ok r w')(he:Eff o a w w')(hi:P.info? t=some i)(hp : .vp p b off ∈ Γ) :
 ∃g',Rel dp N g g'/\OW P F g' dp (adL Γ b off i.size x ++ Γ.filter (λf=> !aaL b off i.size f)) a w':=by
 obtain⟨k,ad,cs,e,hpv,hw,hfit,rfl⟩:=he.store _ _ _ ho;obtain⟨i',hi',hsz⟩:=Wx ho hr;rw[hi]at hi';cases hi';obtain⟨k',row,hb,hq,hg⟩:=h.fs _ hp;have e1:a.eval (.tmp p)=a.tmps.getD p undef:=rfl;rw[e1,hq]at hpv;cases hpv;have hnew:∀r,r∈rowOf 0 (Gn Γ off i.size x)->∃u,(splice cs.toList off (a.eval x).cells.toList).toArray[r.off]? = some u/\GR g u r.ty (.tag dp r.m):=by
  intro r hr;rw[rowOf,bu]at hr;obtain⟨en,hen,rfl⟩:=hr;unfold Gn at hen;split at hen
  ·rename_i s;rw[eG]at hen;obtain⟨f,hf,hen⟩:=hen;split at hen
   ·split at hen
    ·rename_i y r hc;cases hen;obtain⟨rfl,hlt⟩:=hc;obtain⟨u,hu,hgr⟩:=h.fs _ hf;refine⟨u,?_,hgr⟩
     dsimp only
     have e2:a.eval (.tmp y)=a.tmps.getD y undef:=rfl;rw[Je hfit,au aI,aA aI,show off+r.off-off=r.off by omega,e2];exact hu
    ·cases hen
   ·cases hen
  ·cases hen
 have hrow:∀r,r∈rowOf 0 (Gn Γ off i.size x)++row.filter (λr=> !(decide (off<=r.off)&&decide (r.off<off+i.size)))->∃u,(splice cs.toList off (a.eval x).cells.toList).toArray[r.off]? = some u/\GR g u r.ty (.tag dp r.m):=by
  intro r hr;rw[bG]at hr;rcases hr with hr|hr
  ·exact hnew r hr
  ·rw[bF]at hr;obtain⟨h3,h4⟩:=hr;obtain⟨cs',e',hw',hold⟩:=h.good.var _ _ _ _ hg;rw[hw]at hw';cases hw';obtain⟨u,hu,hgr⟩:=hold r h3;refine⟨u,?_,hgr⟩;simp only[kW,qo,dn]at h4;rw[Je hfit];by_cases h5:r.off<off
   ·rw[aA h5];exact hu
   ·rw[au h5,au (by rcases h4 with h4|h4<;>omega)];exact hu
 have h3:=h.setVar (cs':=(splice cs.toList off (a.eval x).cells.toList).toArray) hw hg hrow (Dl:= Γ.filter (λf=> !aaL b off i.size f)) (λf hf=>by
  rw[bF]at hf;refine⟨hf.1,λr hr=>?_⟩;subst hr;obtain⟨k2,Oy,e2,e3,e4⟩:=h.fs _ hf.1;rw[hb]at e2;cases e2;rw[hg]at e3;cases e3;rw[bG]
  right
  rw[bF];refine⟨e4,?_⟩;have:=hf.2;simpa[aaL]using this)
 refine⟨_,Rel.setVar hg,h3.good,λf hf=>?_⟩;rw[bG]at hf;rcases hf with hf|hf
 ·rw[adL,bu]at hf;obtain⟨r,hr,rfl⟩:=hf;exact⟨k,_,hb,aA rfl,dZ _ hr⟩
 ·exact h3.fs f hf
end
end
section
section
variable {P:Program} {F:TA} {g:Own} {dp:Nat} {Γ : List OF} {a:Act} {w w':World} {d N:Nat} {v:Value}
theorem ade {k o:Nat}{cs:Array Value}{e:TypeId}{fr:Nat×Nat}(hw:w.heap[k]? = some (.cells cs e fr))(h:(load ⟨k,o,none⟩).run P w = .ok v w'):w'=w/\cs[o]? = some v:=by
 rw[run_load]at h;cases hc:w.cell? ⟨k,o,none⟩with
 | some u=>rw[hc]at h;cases h;refine⟨rfl,?_⟩;simpa[iy,hw]using hc
 | none=>rw[hc]at h;simp only[World.farLoad,hw]at h;cases h
theorem Nr {k o:Nat}{cs:Array Value}{e:TypeId}{fr:Nat×Nat} : ∀(n i:Nat) (acc:Array Value) (w:World) (r:Array Value) (w':World),w.heap[k]? = some (.cells cs e fr)->(loadCellsFrom ⟨k,o,none⟩ i n acc).run P w = .ok r w' ->
 w'=w/\r.size=acc.size+n/\(∀j,j<acc.size->r[j]? = acc[j]?)/\∀j,j<n->∃u,cs[o+i+j]? = some u/\r[acc.size+j]? = some u
 | 0,i,acc,w,r,w',hw,h=>by unfold loadCellsFrom at h;obtain⟨rfl,rfl⟩:=je h;exact⟨rfl,rfl,λ_ _=>rfl,λj hj=>eF hj (Nat.not_lt_zero _)⟩
 | n+1,i,acc,w,r,w',hw,h=>by
   unfold loadCellsFrom at h;obtain⟨v,w1,h1,h2⟩:=eU h;rw[Addr.uw]at h1;obtain⟨rfl,hv⟩:=ade hw h1;obtain⟨h3,h4,h5,h6⟩:=Nr n (i+1) (acc.push v) _ r w' hw h2;refine⟨h3,by rw[h4];simp;omega,λj hj=>?_,λj hj=>?_⟩
   ·rw[h5 j (by simp;omega),Array.getElem?_push,au aI]
   ·cases j with
    | zero=>refine⟨v,hv,?_⟩;have:=h5 acc.size mD;simpa using this
    | succ j=>obtain⟨u,h7,h8⟩:=h6 j aI;simp only[Array.size_push]at h8;exact⟨u,by rw[show o+i+(j+1)=o+(i+1)+j by omega];exact h7,by rw[show acc.size+(j+1)=acc.size+1+j by omega];exact h8⟩
theorem MZ {size n m c:Nat}{k:Nat}{cs:Array Value}{e:TypeId}{fr:Nat×Nat}{r:Array Value}(hw:w.heap[k]? = some (.cells cs e fr))(h:(jc size n (.slice (some ⟨k,0,none⟩) m c)).run P w = .ok r w') :
 w'=w/\r.size=n*size/\∀(j:Nat) (u:Value),r[j]? = some u->cs[j]? = some u:=by
 unfold jc loadCells at h;obtain⟨h1,h2,_,h4⟩:=Nr _ _ _ _ _ _ hw h;simp only[o6,iU,fV]at h2 h4;refine⟨h1,h2,λj u hj=>?_⟩;have hlt:=(eH.1 hj).1;rw[h2]at hlt;obtain⟨u',h5,h6⟩:=h4 j hlt;rw[hj]at h6;cases h6;simpa using h5
theorem abB {k o:Nat}{cs:Array Value}{e:TypeId}{u:Unit}(hw:w.heap[k]? = some (.cells cs e (0,0)))(h:(store ⟨k,o,none⟩ v).run P w = .ok u w'):v.oneCell'=true/\o<cs.size:=by
 have hone:v.oneCell'=true:=by cases v<;>first|rfl|(exfalso;simp[store,Sem.run]at h;done)
 refine⟨hone,?_⟩;rw[run_store P w _ _ _ hone]at h;cases hc:w.cell? ⟨k,o,none⟩with
 | some u=>simp only[iy,hw]at hc;exact(eH.1 (by simpa using hc)).1
 | none=>rw[hc]at h;simp only[World.farStore,hw]at h;cases h
theorem NP {k o:Nat}{cs:Array Value}{e:TypeId}{vs:List Value}{u:Unit}(hw:w.heap[k]? = some (.cells cs e (0,0)))(h:(storeCells ⟨k,o,none⟩ vs).run P w = .ok u w')(hn:vs≠[]) :
 o+vs.length<=cs.size/\w'=w.setRow k (splice cs.toList o vs).toArray:=by
 have key:∀(vs:List Value) (i:Nat) (cs:Array Value) (w w':World),w.heap[k]? = some (.cells cs e (0,0))->(storeCells ⟨k,o,none⟩ vs i).run P w = .ok u w'->(∀v,v∈vs->v.oneCell'=true)/\(vs≠[]->o+i+vs.length<=cs.size):=by
  intro vs
  induction vs with
  |nil=>intro i cs w w' _ _;exact⟨λv hv=>(by cases hv),λh=>eF rfl h⟩
  | cons v r ih=>
    intro i cs w w' hw h;unfold storeCells at h;obtain⟨u1,w1,h1,h2⟩:=eU h;rw[Addr.uw]at h1;obtain⟨hone,hlt⟩:=abB hw h1;have hst:=run_storeCells_at P k o e [v] i cs w hw (by simp;omega) (by simpa using hone);unfold storeCells at hst;rw[dN,Addr.uw,h1]at hst;simp only[bQ,storeCells,dw]at hst;cases hst;have hw1:=setRow_heap w k cs (cs.toList.take (o+i)++[v]++cs.toList.drop (o+i+1)).toArray e (0,0) hw;obtain⟨h3,h4⟩:=ih (i+1) _ _ w' hw1 h2;refine⟨λx hx=>(aK.1 hx).elim (λe=>e▸hone) (λhx=>h3 x hx),λ_=>?_⟩;by_cases hr:r=[]
    ·subst hr;simp;omega
    ·have:=h4 hr;simp only[o6,List.length_append,iK,List.length_drop,iV,iU,nN]at this;simp only[iV];omega
 obtain⟨h1,h2⟩:=key vs 0 cs w w' hw h;have h3:=h2 hn;have hst:=run_storeCells_at P k o e vs 0 cs w hw h3 h1;rw[h]at hst;cases hst;exact⟨by simpa using h3,by rw[Ap]⟩
end
end
section
def ML (dp ms md:Nat)(ks kx:Option Nat)(k off:Nat):zn->zn
 |.blk b j=>if some b=ks then .blk k j else if some b=kx then .blk k (off+j)else .blk b j
 |.tag d m=>if d=dp/\m=ms then .tag dp md else .tag d m
 |.dead=>.dead
def Em (dp:Nat)(ms:List Nat):zn->Bool
 |.tag d m=>decide (d=dp)&&ms.contains m
 |_=>false
section
variable {P:Program} {F:TA} {g:Own} {dp:Nat} {Γ : List OF} {a:Act} {w w':World} {d N:Nat} {v:Value}
theorem OW.ap (h:OW P F g dp Γ a w){ms md:Nat}{dr:List Nat}{ks kx:Option Nat}{k off:Nat}(hs:∀b,ks=some b->∃T m,g b=some (.arr T (.tag dp m))/\m∈dr)(hx:∀b,kx=some b->∃T m,g b=some (.arr T (.tag dp m))/\m∈dr) :
 OW P F (g.re (Em dp dr) (ML dp ms md ks kx k off)) dp (Γ.filter (FU (ms::dr))) a w:=by
 refine⟨h.good.re λb T p hb hp j=>⟨rfl,?_⟩,λf hf=>?_⟩
 ·have no:∀c:Option Nat,(∀b,c=some b->∃T m,g b=some (.arr T (.tag dp m))/\m∈dr)->¬some b=c:=by
   intro c hc e;obtain⟨T',m,h1,h2⟩:=hc b e.symm;rw[hb]at h1;cases h1;simp[Em,h2]at hp
  simp only[ML];rw[au (no ks hs),au (no kx hx)]
 ·rw[bF]at hf;refine(h.fs f hf.1).re λm hm=>?_;have h1:=hf.2;simp only[FU,hm,kW,Ae,aK,dn,not_or]at h1;refine⟨by simp[Em,h1.2],?_⟩;simp only[ML];rw[au (λe=>h1.1 e.2)]
theorem Rel.ap {ms md:Nat}{dr:List Nat}{ks kx:Option Nat}{k off:Nat} : Rel dp N g (g.re (Em dp dr) (ML dp ms md ks kx k off)):=
 Rel.re λd m hd=>⟨by simp only[Em,qo,dn];left;omega,by simp only[ML];rw[au aI]⟩
def apX (P:Program)(Γ : List OF)(T:Nat)(x:Operand):Option (List Nat):=
 if(oD P T).isEmpty then some []else match x with
 |.tmp s=>(Γ.filterMap λf=>match f with|.ref y r=>if y=s/\r.off=0/\r.ty=T then some [r.m]else none|_=>none).head?
 |_=>none
theorem ab9 (h:OW P F g dp Γ a w){T:Nat}{x:Operand}{ms:List Nat}(hx:apX P Γ T x=some ms):(oD P T=[]/\ms=[])\/∃m u,ms=[m]/\(a.eval x).cells[0]? = some u/\GR g u T (.tag dp m):=by
 unfold apX at hx;split at hx
 ·rename_i he;cases hx;exact .inl ⟨List.isEmpty_iff.1 he,rfl⟩
 ·split at hx
  ·rename_i s;have:=oZ hx;rw[eG]at this;obtain⟨f,hf,hm⟩:=this;split at hm
   ·split at hm
    ·rename_i y r hc;obtain⟨rfl,h0,rfl⟩:=hc;cases hm;obtain⟨u,hu,hg⟩:=h.fs _ hf;rw[h0]at hu;exact .inr ⟨r.m,u,rfl,hu,hg⟩
    ·cases hm
   ·cases hm
  ·cases hx
def apS (Γ : List OF)(T s:Nat):Option Nat:=(Γ.filterMap λf=>match f with|.ref y r=>if y=s/\r.off=0/\r.ty=T then some r.m else none|_=>none).head?
theorem ahr (h:OW P F g dp Γ a w){T s m:Nat}(hx:apS Γ T s=some m):∃u,(a.tmps.getD s undef).cells[0]? = some u/\GR g u T (.tag dp m):=by
 have:=oZ hx;rw[eG]at this;obtain⟨f,hf,hm⟩:=this;split at hm
 ·split at hm
  ·rename_i y r hc;obtain⟨rfl,h0,rfl⟩:=hc;cases hm;obtain⟨u,hu,hg⟩:=h.fs _ hf;rw[h0]at hu;exact⟨u,hu,hg⟩
  ·cases hm
 ·cases hm
theorem Fj {b:Option Addr}{n c:Nat}{u:Value}(h:(Dw b n c).cells[0]? = some u):u = .slice b n c:=by simpa[oH]using h.symm
def amc (P:Program)(Γ : List OF)(T s:Nat)(x:Operand):Option (Nat×List Nat):=match apS Γ T s,apX P Γ T x with
 |some m,some ms=>if ms.contains m || !G5 P T then none else some (m,ms)
 |_,_=>none
theorem Na {size n m c:Nat}{r:Array Value}(h:(jc size n (.slice none m c)).run P w = .ok r w'):w'=w/\r = #[]:=by unfold jc at h;obtain⟨rfl,rfl⟩:=je h;exact⟨rfl,rfl⟩
theorem XX (h:OW P F g dp Γ a w){T:Nat}{x:Operand}{ms:List Nat}(hx:apX P Γ T x=some ms){size n nx:Nat}{bx:Option Addr}{cx:Nat}(hxv:a.eval x = .slice bx nx cx){new:Array Value}(hn:(jc size n (a.eval x)).run P w = .ok new w')(hsz:size=xO P T)(hnx:n<=nx) :
 ∃kx:Option Nat,(∀b,kx=some b->∃T m,g b=some (.arr T (.tag dp m))/\m∈ms)/\(∀j u T',new[j]? = some u->(j%xO P T,T')∈oD P T->∃b,kx=some b/\GR g u T' (.blk b j))/\(oD P T=[]\/new.size=n*size):=by
 rcases ab9 h hx with⟨he,rfl⟩|⟨m,u,rfl,hu,hg⟩
 ·exact⟨none,λb hb=>(by cases hb),λj u T' _ ht=>(by rw[he]at ht;cases ht),.inl he⟩
 ·rw[hxv]at hu hn;have:=Fj hu;subst this;rcases hg with e|⟨k,n',c',e,hk⟩
  ·cases e;obtain⟨_,rfl⟩:=Na hn;exact⟨none,λb hb=>(by cases hb),λj u T' hj _=>(by simp at hj),.inr (by rw[Nat.le_zero.1 hnx];simp)⟩
  ·cases e;obtain⟨cs,e,hw,hc⟩:=h.good.arr _ _ _ hk.1;obtain⟨h1,h2,h3⟩:=MZ hw hn;exact⟨some k,λb hb=>(by cases hb;exact⟨T,m,hk.1,bD ..⟩),λj u T' hj ht=>⟨k,rfl,hc j u T' (by have hlt:=(eH.1 hj).1;rw[h2,hsz]at hlt;exact lD hlt (aX _ (bJ hnx hk.2))) (h3 j u hj) ht⟩,.inr h2⟩
end
end
section
section
variable {P:Program} {F:TA} {g:Own} {dp:Nat} {Γ : List OF} {a:Act} {w w':World} {d N:Nat} {v:Value}
theorem Il {size n:Nat}{x:Value}{r:Array Value}(h:(jc size n x).run P w = .ok r w'):w'=w:=by
 unfold jc at h;split at h
 ·unfold loadCells at h;exact(Ld _ _ _ _ _ _ h).1
 ·exact(je h).2
 ·exact(je h).2
 ·cases h
theorem OW.drew (h:OW P F g dp Γ a w):OW P F g dp Γ a w.drew:=h.world (aF _) λ_ _=>rfl
def Own.grow (g:Own)(k n:Nat):Own:=⟨g.b,λk'=>if k'=k then n else g.bd k'⟩
theorem GR.grow {u:Value}{T:Nat}{p:zn}{k n:Nat}(h:GR g u T p)(hn:g.bd k<=n):GR (g.grow k n) u T p:=by
 rcases h with h|⟨k',m,c,h1,h2,h3⟩
 ·exact .inl h
 ·refine .inr ⟨k',m,c,h1,h2,?_⟩;show m<=if k'=k then n else g.bd k'
  split
  ·rename_i e;subst e;exact bJ h3 hn
  ·exact h3
theorem OW.grow (h:OW P F g dp Γ a w){k n T:Nat}{p:zn}{cs:Array Value}{e:TypeId}(hw:w.heap[k]? = some (.cells cs e (0,0)))(hk:g k=some (.arr T p))(hn:g.bd k<=n)
 (hc:∀j u T',j<n*xO P T->cs[j]? = some u->(j%xO P T,T')∈oD P T->GR g u T' (.blk k j)):OW P F (g.grow k n) dp Γ a w:=by
 refine⟨⟨λk' T' p' hk'=>?_,λk' row d b hk'=>?_⟩,λf hf=>?_⟩
 ·by_cases e1:k'=k
  ·subst e1;have e2:g k'=some (.arr T' p'):=hk';rw[hk]at e2;cases e2;exact⟨cs,e,hw,λj u T' hb hu ht=>(hc j u T' (by simpa[Own.grow]using hb) hu ht).grow hn⟩
  ·obtain⟨cs',e',hw',h2⟩:=h.good.arr k' T' p' hk';exact⟨cs',e',hw',λj u T' hb hu ht=>(h2 j u T' (by simpa[Own.grow,e1]using hb) hu ht).grow hn⟩
 ·obtain⟨cs',e',hw',h2⟩:=h.good.var k' row d b hk';exact⟨cs',e',hw',λr hr=>let ⟨u,hu,hg⟩:=h2 r hr;⟨u,hu,hg.grow hn⟩⟩
 ·have h0:=h.fs f hf;cases f with
  |ref t r=>obtain⟨u,h1,h2⟩:=h0;exact⟨u,h1,h2.grow hn⟩
  |ER t i r=>obtain⟨vs,x,u,h1,h2,h3,h4⟩:=h0;exact⟨vs,x,u,h1,h2,h3,h4.grow hn⟩
  |_=>exact h0
theorem Rel.grow {k n T m:Nat}(hk:g k=some (.arr T (.tag dp m))):Rel dp N g (g.grow k n):=
 ⟨λk' T' d m' hd hk'=>⟨hk',by show(if k'=k then n else g.bd k')=g.bd k';rw[au];rintro rfl;rw[hk]at hk';cases hk';omega⟩,λ_ _ _ _ _ h=>h,(Rel.refl dp N g).old⟩
theorem akk (h:OW P F g dp Γ a w)(hd:d<a.tmps.size){T m:Nat}{ms:List Nat}(hm:m ∉ ms){s:Nat}{sLen sCap need:Nat}{base:Option Addr}(hsv:a.tmps.getD s undef = .slice base sLen sCap)(hs:GR g (.slice base sLen sCap) T (.tag dp m))
 {kx:Option Nat} {new:Array Value} (h1:∀b,kx=some b->∃T m,g b=some (.arr T (.tag dp m))/\m∈ms) (h2:∀j u T',new[j]? = some u->(j%xO P T,T')∈oD P T->∃b,kx=some b/\GR g u T' (.blk b j)) (hnd:oD P T=[]\/new.size=(need-sLen)*xO P T) (hnl:sLen<=need) (hnc:base=none->need=0/\sCap=0)
 (hst:(match base with|some a=>storeCells (a.add (sLen*xO P T)) new.toList|none=>pure ()).run P w = .ok () w') :
 ∃g',Rel dp N g g'/\OW P F g' dp (.ref d ⟨0,T,mk d 0⟩::(Γ.filter (FU (m::ms))).filter (I8 d)) (a.put (some d) (.slice base need sCap)) w':=by
 rcases hs with e|⟨k,n',c',e,hk,hkb⟩
 ·cases e;obtain⟨rfl,_⟩:=hnc rfl;obtain⟨_,rfl⟩:=je hst;have h3:=(h.ap (ms:=m) (md:=mk d 0) (dr:=ms) (ks:=none) (kx:=kx) (k:=0) (off:=0) (λb hb=>by cases hb) h1).drop d (.slice none 0 0);exact⟨_,Rel.ap,h3.add ⟨.slice none 0 0,by rw[iq hd];rfl,.inl rfl⟩⟩
 ·cases e
  dsimp only at hst
  rw[Addr.uw,fV]at hst;have h3:=h.ap (ms:=m) (md:=mk d 0) (dr:=ms) (ks:=none) (kx:=kx) (k:=k) (off:=sLen*xO P T) (λb hb=>by cases hb) h1;have hk':(g.re (Em dp ms) (ML dp m (mk d 0) none kx k (sLen*xO P T))) k=some (.arr T (.tag dp (mk d 0))):=by simp[Own.re,hk,Em,hm,ML]
  obtain⟨cs,e,hw,hc⟩:=h.good.arr _ _ _ hk;have hlim:∀j T',j<max (g.bd k) need*xO P T->(j%xO P T,T')∈oD P T->sLen*xO P T+new.size<=j->j<g.bd k*xO P T:=by
   intro j T' hj ht hge;rcases hnd with hnd|hnd
   ·rw[hnd]at ht;cases ht
   ·by_cases hm:need<=g.bd k
    ·rwa[Nat.max_eq_left hm]at hj
    ·rw[Nat.max_eq_right aI,show need=sLen+(need-sLen) by omega,dL]at hj;omega
  have aer:∀j u T',j<g.bd k*xO P T->cs[j]? = some u->(j%xO P T,T')∈oD P T->GR (g.re (Em dp ms) (ML dp m (mk d 0) none kx k (sLen*xO P T))) u T' (.blk k j):=by obtain⟨cs',e',hw',hold⟩:=h3.good.arr _ _ _ hk';rw[hw]at hw';cases hw';exact hold
  have fin:∀{w'':World} {cs2:Array Value},OW P F (g.re (Em dp ms) (ML dp m (mk d 0) none kx k (sLen*xO P T))) dp (Γ.filter (FU (m::ms))) a w''->w''.heap[k]? = some (.cells cs2 e (0,0)) ->
   (∀j u T',j<max (g.bd k) need*xO P T->cs2[j]? = some u->(j%xO P T,T')∈oD P T->GR (g.re (Em dp ms) (ML dp m (mk d 0) none kx k (sLen*xO P T))) u T' (.blk k j)) ->
   ∃g',Rel dp N g g'/\OW P F g' dp (.ref d ⟨0,T,mk d 0⟩::(Γ.filter (FU (m::ms))).filter (I8 d)) (a.put (some d) (.slice (some ⟨k,0,none⟩) need sCap)) w'':=λh4 hw4 hc4=>
   ⟨_,Rel.ap.trans (Rel.grow hk'),((h4.grow hw4 hk' (CO _ _) hc4).drop d _).add ⟨.slice (some ⟨k,0,none⟩) need sCap,by rw[iq hd];rfl,.inr ⟨k,_,_,rfl,hk',by
    show need<=if k=k then max (g.bd k) need else _
    rw[aA rfl];exact Nat.le_max_right _ _⟩⟩⟩
  by_cases hne:new.toList=[]
  ·rw[hne]at hst;unfold storeCells at hst;obtain⟨_,rfl⟩:=je hst;exact fin h3 hw λj u T' hj hu ht=>(by
    have hn0:new.size=0:=(by rw[<- nN,hne];rfl);by_cases hjs:j<sLen*xO P T
    ·exact aer j u T' (lD hjs (aX _ hkb)) hu ht
    ·exact aer j u T' (hlim j T' hj ht aI) hu ht)
  ·obtain⟨hfit,rfl⟩:=NP hw hst hne;have key:∀j u T',j<max (g.bd k) need*xO P T->(splice cs.toList (sLen*xO P T) new.toList).toArray[j]? = some u->(j%xO P T,T')∈oD P T->GR (g.re (Em dp ms) (ML dp m (mk d 0) none kx k (sLen*xO P T))) u T' (.blk k j):=?_
   ·refine fin (h3.Zu hw λB hB=>?_) (setRow_heap w k cs _ e (0,0) hw) key;rw[hk']at hB;cases hB;exact⟨_,_,rfl,λj u T' hb=>key j u T' (lD hb (aX _ (CO _ _)))⟩
   intro j u T' hjm hj ht;rw[Je (by simpa using hfit)]at hj;by_cases hj1:j<sLen*xO P T
   ·rw[aA hj1]at hj;exact aer j u T' (lD hj1 (aX _ hkb)) hj ht
   ·rw[au hj1]at hj;by_cases hj2:j<sLen*xO P T+new.size
    ·rw[aA hj2]at hj;have hmod:(j-sLen*xO P T)%xO P T=j%xO P T:=by
      conv=>rhs;rw[show j=(j-sLen*xO P T)+sLen*xO P T by omega]
      rw[xN]
     rw[<- hmod]at ht;obtain⟨b,rfl,hgr⟩:=h2 _ u T' hj ht;have:=hgr.re (dr:=Em dp ms) rfl (ML dp m (mk d 0) none (some b) k (sLen*xO P T));simp only[ML,reduceCtorEq,if_false,jY]at this;rw[show sLen*xO P T+(j-sLen*xO P T)=j by omega]at this;exact this
    ·rw[au hj2]at hj;exact aer j u T' (hlim j T' hjm ht aI) hj ht
theorem akj (h:OW P F g dp Γ a w)(hd:d<a.tmps.size)(hN:N<=w.heap.size){T e m need newCap:Nat}{ms:List Nat}(hm:m ∉ ms){sLen sCap:Nat}{base:Option Addr}(hs:GR g (.slice base sLen sCap) T (.tag dp m))
 {kx:Option Nat} {old new rest:Array Value} (h1:∀b,kx=some b->∃T m,g b=some (.arr T (.tag dp m))/\m∈ms) (h2:∀j u T',new[j]? = some u->(j%xO P T,T')∈oD P T->∃b,kx=some b/\GR g u T' (.blk b j))
 (hold:(jc (xO P T) sLen (.slice base sLen sCap)).run P w = .ok old w')
 (hrest:∀j u T',rest[j]? = some u->(j%xO P T,T')∈oD P T->Y9 u) (aii:oD P T=[]\/new.size=(need-sLen)*xO P T) :
 ∃g',Rel dp N g g'/\OW P F g' dp (.ref d ⟨0,T,mk d 0⟩::(Γ.filter (FU (m::m::ms))).filter (I8 d)) (a.put (some d) (.slice (some ⟨w.heap.size,0,none⟩) need newCap)) (w.alloc (.cells (old++new++rest) e)):=by
 have hks:∃ks:Option Nat,(∀b,ks=some b->∃T m',g b=some (.arr T (.tag dp m'))/\m'∈m::ms)/\(∀j u T',old[j]? = some u->(j%xO P T,T')∈oD P T->∃b,ks=some b/\GR g u T' (.blk b j))/\old.size%xO P T=0/\(∀b,ks=some b->kx≠some b):=by
  rcases hs with e|⟨k,n',c',e,hk,hkb⟩
  ·cases e;obtain⟨_,rfl⟩:=Na hold;exact⟨none,λb hb=>(by cases hb),λj u T' hj _=>(by simp at hj),mD,λb hb=>(by cases hb)⟩
  ·cases e;obtain⟨cs,e,hw,hc⟩:=h.good.arr _ _ _ hk;obtain⟨_,hsz,hget⟩:=MZ hw hold;refine⟨some k,λb hb=>(by cases hb;exact⟨T,m,hk,bD ..⟩),λj u T' hj ht=>⟨k,rfl,hc j u T' (by
    have hlt:=(eH.1 hj).1;rw[hsz]at hlt;exact lD hlt (aX _ hkb)) (hget j u hj) ht⟩,by rw[hsz];simp,λb hb e=>?_⟩
   cases hb;obtain⟨T',m',h3,h4⟩:=h1 _ e;rw[hk]at h3;cases h3;exact hm h4
 obtain⟨ks,k1,k2,k3,k4⟩:=hks;have h3:=h.ap (ms:=m) (md:=mk d 0) (dr:=m::ms) (ks:=ks) (kx:=kx) (k:=w.heap.size) (off:=old.size) k1 (λb hb=>let ⟨T,m',e1,e2⟩:=h1 b hb;⟨T,m',e1,fJ _ e2⟩);obtain⟨g',hrel,how⟩:=h3.akl (d:=d) (N:=N) (cs:=old++new++rest) (e:=e) (T:=T) (n:=need) (c:=newCap) (m:=mk d 0) hd hN (λj u T' hj ht=>by
  rw[Array.getElem?_append]at hj;split at hj
  ·rename_i hlt;rw[Array.getElem?_append]at hj;split at hj
   ·obtain⟨b,rfl,hgr⟩:=k2 j u T' hj ht;have:=hgr.re (dr:=Em dp (m::ms)) rfl (ML dp m (mk d 0) (some b) kx w.heap.size old.size);simp only[ML,jY]at this;exact this
   ·rename_i hge;have hmod:(j-old.size)%xO P T=j%xO P T:=by
     have e1:j=(j-old.size)+old.size:=by omega
     conv=>rhs;rw[e1]
     rw[yQ,k3,sF,Jh]
    rw[<- hmod]at ht;obtain⟨b,rfl,hgr⟩:=h2 _ u T' hj ht;have:=hgr.re (dr:=Em dp (m::ms)) rfl (ML dp m (mk d 0) ks (some b) w.heap.size old.size);simp only[ML,jY]at this;rw[au (λe=>k4 b e.symm rfl),show old.size+(j-old.size)=j by omega]at this;exact this
  ·rename_i hge;rcases aii with aii|aii
   ·rw[aii]at ht;cases ht
   refine .inl (hrest _ u T' hj ?_);have e1:j=(j-(old++new).size)+(old++new).size:=(by omega);have hmod:(j-(old++new).size)%xO P T=j%xO P T:=by
    conv=>rhs;rw[e1]
    rw[yQ,show(old++new).size%xO P T=0 by rw[Array.size_append,yQ,k3,aii];simp,sF,Jh]
   rw[hmod];exact ht)
 exact⟨g',Rel.ap.trans hrel,how⟩
theorem acF {q:Question}{n:Nat}(h:(choose q).run P w = .ok n w'):w'=w\/w'=w.drew:=by
 unfold choose at h;simp only[Sem.run]at h;split at h
 ·cases h;exact .inl rfl
 ·cases h;exact .inr rfl
theorem acd (h:OW P F g dp Γ a w)(hd:d<a.tmps.size)(hN:N<=w.heap.size){o:Oper}{s T t2:Nat}{x:Operand}{e2 m:Nat}{ms:List Nat}(ho:o.op = .call { callee:=.builtin .append,args:=⟨[.tmp s,x]⟩,argTypes:=⟨[T,t2]⟩ })(ht2:P.underlying t2=some (.slice e2))(hok:amc P Γ T s x=some (m,ms))
 (hr:(execOp a.eval o).run P w = .ok (.value v) w'):∃g',Rel dp N g g'/\OW P F g' dp (.ref d ⟨0,T,mk d 0⟩::(Γ.filter (FU (m::m::ms))).filter (I8 d)) (a.put (some d) v) w':=by
 unfold amc at hok;split at hok
 ·rename_i m0 ms0 hs hx;split at hok
  ·cases hok
  ·rename_i hcond;cases hok;simp only[iJ,Ae,aC,kW,not_or,Bool.not_eq_false]at hcond;obtain⟨hm,hz⟩:=hcond;have hA:(iM #[T,t2] o.type #[a.tmps.getD s undef,a.eval x]).run P w = .ok v w':=by
    simp only[execOp,ho,resolve,invoke,builtin,dN,dw,bQ,lU,bT,jP]at hr;have e1:a.eval (.tmp s)=a.tmps.getD s undef:=rfl;rw[e1]at hr;cases hq:(iM #[T,t2] o.type #[a.tmps.getD s undef,a.eval x]).run P w with
    |ok v1 w1=>rw[hq]at hr;cases hr;rfl
    |halt e w1=>rw[hq]at hr;cases hr
   clear hr;obtain⟨u,hu,hgs⟩:=ahr h hs;simp only[iM,nU,eY,eX]at hA;obtain⟨de,w1,h1,k1⟩:=eU hA;obtain⟨hut,rfl⟩:=Dj h1;clear hA;split at k1
   ·rename_i elem;split at k1
    ·rename_i base sLen sCap hsv;obtain⟨size,w2,h2,k2⟩:=eU k1;obtain⟨i,hi,rfl,rfl⟩:=F5 h2;clear k1;have hes:=acO hut hi;obtain⟨de2,w3,h3,k3⟩:=eU k2;obtain⟨hu2,rfl⟩:=Dj h3;rw[ht2]at hu2;cases hu2;clear k2;obtain⟨zeros,w4,h4,k4⟩:=eU k3;obtain⟨rfl,rfl⟩:=je h4;clear k3;simp only[Bool.false_eq_true,if_false,Bool.not_false,jY]at k4;obtain⟨n,w5,h5,k5⟩:=eU k4;clear k4;rw[hsv]at hu;have hus:=Fj hu;subst hus;have hlx:w5=w4/\((∃bx cx,a.eval x = .slice bx n cx)\/∃st,a.eval x = .string st):=by
      unfold rX at h5;split at h5
      ·rename_i b n' c heq;obtain⟨rfl,rfl⟩:=je h5;exact⟨rfl,.inl ⟨_,_,heq⟩⟩
      ·rename_i st heq;obtain⟨rfl,rfl⟩:=je h5;exact⟨rfl,.inr ⟨_,heq⟩⟩
      ·cases h5
     obtain⟨rfl,hxs⟩:=hlx;have hnc:∀{new:Array Value} {wn:World},(jc i.size n (a.eval x)).run P w5 = .ok new wn->∃kx:Option Nat,(∀b,kx=some b->∃T m,g b=some (.arr T (.tag dp m))/\m∈ms)/\(∀(j:Nat) (u:Value) (T':Nat),new[j]? = some u->(j%xO P T,T')∈oD P T->∃b,kx=some b/\GR g u T' (.blk b j))/\(oD P T=[]\/new.size=n*i.size):=by
      intro new wn hn;rcases hxs with⟨bx,cx,hxv⟩|⟨st,hxv⟩
      ·exact XX h hx hxv hn hes.symm (aF _)
      ·rcases ab9 h hx with⟨he,rfl⟩|⟨m2,u2,rfl,hu2,hg2⟩
       ·exact⟨none,λb hb=>(by cases hb),λj u T' _ ht=>(by rw[he]at ht;cases ht),.inl he⟩
       ·rw[hxv]at hu2;simp only[oH]at hu2;have:u2 = .string st:=(by simpa using hu2.symm);subst this;rcases hg2 with e|⟨_,_,_,e,_⟩<;>cases e
     split at k5
     ·rename_i hcap;obtain⟨new,w6,h6,k6⟩:=eU k5;have e6:=Il h6;subst e6;obtain⟨kx,c1,c2,c3⟩:=hnc h6;have hroom:=akk (N:=N) h hd (need:=sLen+n) hm hsv hgs c1 c2 (w':=w') (by rw[Nat.add_sub_cancel_left,hes];exact c3) aI (λhb=>by
       subst hb;rcases hgs with e|⟨_,_,_,e,_⟩
       ·cases e;exact⟨aI,rfl⟩
       ·cases e)
      cases base with
      | none=>
        dsimp only at k6
        obtain⟨rfl,rfl⟩:=je k6;obtain⟨g',r1,r2⟩:=hroom (by dsimp only;rfl);refine⟨g',r1,r2.weak λf hf=>?_⟩;simp only[aK,bF]at hf⊢;rcases hf with hf|⟨⟨h7,h8⟩,h9⟩
        ·exact .inl hf
        ·refine .inr ⟨⟨h7,?_⟩,h9⟩;unfold FU at h8⊢;split<;>simp_all
      | some ad=>
        dsimp only at k6
        obtain⟨u0,w7,h7,k7⟩:=eU k6;obtain⟨rfl,rfl⟩:=je k7;rw[<- hes]at h7;obtain⟨g',r1,r2⟩:=hroom (by cases u0;exact h7);refine⟨g',r1,r2.weak λf hf=>?_⟩;simp only[aK,bF]at hf⊢;rcases hf with hf|⟨⟨h7,h8⟩,h9⟩
        ·exact .inl hf
        ·refine .inr ⟨⟨h7,?_⟩,h9⟩;unfold FU at h8⊢;split<;>simp_all
     ·obtain⟨i1,w6,h6,k6⟩:=eU k5;obtain⟨_,rfl⟩:=Kv h6;clear k5;split at k6
      ·obtain⟨_,_,h7,_⟩:=eU k6;exact(Nw h7).elim
      ·obtain⟨i2,w7,h7,k7⟩:=eU k6;obtain⟨_,rfl⟩:=Kv h7;clear k6;split at k7
       ·obtain⟨_,_,h8,_⟩:=eU k7;obtain⟨_,_,_,h9⟩:=eU h8;split at h9
        ·obtain⟨_,_,_,h10⟩:=eU h9;cases h10
        ·cases h9
       ·obtain⟨newCap,w8,h8,k8⟩:=eU k7;have how:OW P F g dp Γ a w8/\w8.heap=w7.heap:=by
         rcases acF h8 with rfl|rfl
         ·exact⟨h,rfl⟩
         ·exact⟨h.drew,rfl⟩
        obtain⟨h',hheap⟩:=how;obtain⟨i3,w9,h9,k9⟩:=eU k8;obtain⟨_,rfl⟩:=Kv h9;obtain⟨_,w10,h10,k10⟩:=eU k9;have:=ad8 h10;subst this;obtain⟨old,w11,h11,k11⟩:=eU k10;have:=Il h11;subst this;obtain⟨new,w12,h12,k12⟩:=eU k11;have:=Il h12;subst this;obtain⟨z,w13,h13,k13⟩:=eU k12;obtain⟨⟨i4,hi4,hzero⟩,rfl⟩:=Q9 h13;rw[hi]at hi4;cases hi4;obtain⟨p,w14,h14,k14⟩:=eU k13;unfold newRow at h14;obtain⟨q,w15,h15,h16⟩:=eU h14;rw[run_newObj]at h15;cases h15;obtain⟨rfl,rfl⟩:=je h16;obtain⟨rfl,rfl⟩:=je k14;have hnc':∃kx:Option Nat,(∀b,kx=some b->∃T m,g b=some (.arr T (.tag dp m))/\m∈ms)/\(∀(j:Nat) (u:Value) (T':Nat),new[j]? = some u->(j%xO P T,T')∈oD P T->∃b,kx=some b/\GR g u T' (.blk b j))/\(oD P T=[]\/new.size=n*i.size):=by
         rcases hxs with⟨bx,cx,hxv⟩|⟨st,hxv⟩
         ·exact XX h' hx hxv h12 hes.symm (aF _)
         ·rcases ab9 h' hx with⟨he,rfl⟩|⟨m2,u2,rfl,hu2,hg2⟩
          ·exact⟨none,λb hb=>(by cases hb),λj u T' _ ht=>(by rw[he]at ht;cases ht),.inl he⟩
          ·rw[hxv]at hu2;simp only[oH]at hu2;have:u2 = .string st:=(by simpa using hu2.symm);subst this;rcases hg2 with e|⟨_,_,_,e,_⟩<;>cases e
        obtain⟨kx,c1,c2,c3⟩:=hnc';rw[hsv,<- hes]at h11;rw[<- hes]at c3;exact akj h' hd (by rw[hheap];exact hN) hm hgs c1 c2 h11 (λj u T' hj ht=>JM hz hut hi hzero (λj u hj=>by simp only[Go.Builtin.zeroCells]at hj;rw[qp]at hj;simp only[dD]at hj;obtain⟨j',hj',rfl⟩:=hj;have:=eH.1 hj';simp at this;rw[this.2]) j u T' hj ht) (by rw[Nat.add_sub_cancel_left];exact c3)
    ·cases k1
   ·cases k1
 ·cases hok
end
end
section
section
variable {P:Program} {F:TA} {g:Own} {dp:Nat} {Γ : List OF} {a:Act} {w w':World} {d N:Nat} {v:Value}
theorem ahH (h:OW P F g dp Γ a w){o:Oper}{s T t2:Nat}{x:Operand}{m:Nat}(ho:o.op = .call { callee:=.builtin .copy,args:=⟨[.tmp s,x]⟩,argTypes:=⟨[T,t2]⟩ })(hs:apS Γ T s=some m)(he:oD P T=[])
 (hr:(execOp a.eval o).run P w = .ok (.value v) w'):OW P F g dp Γ a w':=by
 have hA:(ni #[T,t2] o.type #[a.tmps.getD s undef,a.eval x]).run P w = .ok v w':=by
  simp only[execOp,ho,resolve,invoke,builtin,dN,dw,bQ,lU,bT,jP]at hr;have e1:a.eval (.tmp s)=a.tmps.getD s undef:=rfl;rw[e1]at hr;cases hq:(ni #[T,t2] o.type #[a.tmps.getD s undef,a.eval x]).run P w with
  |ok v1 w1=>rw[hq]at hr;cases hr;rfl
  |halt e w1=>rw[hq]at hr;cases hr
 clear hr;obtain⟨u,hu,hgs⟩:=ahr h hs;simp only[ni,nU,eY,eX]at hA;obtain⟨de,w1,h1,k1⟩:=eU hA;obtain⟨hut,rfl⟩:=Dj h1;clear hA;split at k1
 ·rename_i elem;split at k1
  ·rename_i base dLen dCap hsv;rw[hsv]at hu;have hus:=Fj hu;subst hus;obtain⟨n,w2,h2,k2⟩:=eU k1;have:w2=w1:=by
    unfold rX at h2;split at h2
    ·exact(je h2).2
    ·exact(je h2).2
    ·cases h2
   subst this;obtain⟨sz,w3,h3,k3⟩:=eU k2;obtain⟨i,hi,rfl,rfl⟩:=F5 h3;obtain⟨cells,w4,h4,k4⟩:=eU k3;have:=Il h4;subst this;clear k1 k2 k3;rcases hgs with e|⟨k,n',c',e,hk,_⟩
   ·cases e
    dsimp only at k4
    obtain⟨_,rfl⟩:=je k4;exact h
   ·cases e
    dsimp only at k4
    obtain⟨u0,w5,h5,k5⟩:=eU k4;obtain⟨_,rfl⟩:=je k5;obtain⟨cs,e,hw,hc⟩:=h.good.arr _ _ _ hk;by_cases hne:cells.toList=[]
    ·rw[hne]at h5;unfold storeCells at h5;obtain⟨_,rfl⟩:=je h5;exact h
    ·obtain⟨_,rfl⟩:=NP hw h5 hne;refine h.Zu hw λB hB=>?_;rw[hk]at hB;cases hB;exact⟨_,_,rfl,λj u T' _ _ ht=>by rw[he]at ht;cases ht⟩
  ·cases k1
 ·cases k1
end
structure OR where
 kill:List Nat
 rm:Option (Nat×Nat×Nat)
 new:List OF
def aet (d:Option Nat)(R:OR)(f:OF):Bool:=FU R.kill f&&(match R.rm with|some (b,o,k)=> !aaL b o k f|none=>true)&&(match d with|some d=>I8 d f|none=>true)
def aeJ (Γ : List OF)(d:Option Nat)(R:OR):List OF:=R.new ++ Γ.filter (aet d R)
def adR (p:Nat):OF->Option (Nat×Nat)
 |.vp x b o=>if x=p then some (b,o)else none
 |_=>none
def anZ (p:Nat):OF->Option (Nat×Nat)
 |.ep x T o=>if x=p then some (T,o)else none
 |_=>none
def aoK (P:Program)(Γ : List OF)(t p:Nat)(x:Operand):Option OR:=match P.info? t with
 | some i=>(match(Γ.filterMap (adR p)).head? with
   |some (b,o)=>some ⟨[],some (b,o,i.size),adL Γ b o i.size x⟩
   | none=>(match(Γ.filterMap (anZ p)).head? with
     |some (T,o)=>if ZB P Γ T o i.size x then some ⟨Q5 (Gn Γ 0 i.size x),none,[]⟩else none
     |none=>none))
 |none=>none
def aoI (P:Program)(Γ : List OF)(d T s t2:Nat)(x:Operand):Option OR:=match P.underlying t2,amc P Γ T s x with
 |some (.slice _),some (m,ms)=>some ⟨m::m::ms,none,[.ref d ⟨0,T,mk d 0⟩]⟩
 |_,_=>none
def aoJ (P:Program)(Γ : List OF)(T s:Nat):Option OR:=match apS Γ T s with
 |some _=>if(oD P T).isEmpty then some ⟨[],none,[]⟩else none
 |none=>none
def ai3 (P:Program)(Γ : List OF)(d:Option Nat)(op:Op):Option OR:=match op,d with
 |.store t (.tmp p) x,none=>aoK P Γ t p x
 |.alloc t,some d=>some ⟨[],none,ZG d (rowOf d (UM P t))⟩
 |.box _ x,some d=>some ⟨[],none,ZG d (rowOf d (Gn Γ 0 1000 x))⟩
 |.build t ps,some d=>some ⟨[],none,(rowOf d (Yt P Γ t ps.toList)).map (.ref d)⟩
 |.makeSlice T _ _,some d=>if G5 P T then some ⟨[],none,[.ref d ⟨0,T,mk d 0⟩]⟩else none
 |.buildSlice T len ps,some d=>if U3 P Γ T len ps.toList then some ⟨Q5 (KR P Γ T len ps.toList),none,[.ref d ⟨0,T,mk d 0⟩]⟩else none
 |.call { callee:=.builtin .append,args:=⟨[.tmp s,x]⟩,argTypes:=⟨[T,t2]⟩ },some d=>aoI P Γ d T s t2 x
 |.call { callee:=.builtin .copy,args:=⟨[.tmp s,_]⟩,argTypes:=⟨[T,_]⟩ },_=>aoJ P Γ T s
 |op,some d=>if DY op then some ⟨[],none,oq P Γ d op⟩else none
 |_,none=>none
section
variable {P:Program} {F:TA} {g:Own} {dp:Nat} {Γ : List OF} {a:Act} {w w':World} {N:Nat} {v:Value}
theorem Df {d:Option Nat}{R:OR}{f:OF} : f∈aeJ Γ d R<->f∈R.new\/f ∈ Γ /\ aet d R f=true:=by simp[aeJ,bF]
theorem aa8 (h:OW P F g dp Γ a w)(hN:N<=w.heap.size){o:Oper}{R:OR}(hd:∀d,o.dst=some d->d<a.tmps.size)(hs:ai3 P Γ o.dst o.op=some R)
 (hr:(execOp a.eval o).run P w = .ok (.value v) w'\/(execOp a.eval o).run P w = .ok .skip w'/\o.dst=none) (he:Eff o a w w') :
 ∃g',Rel dp N g g'/\OW P F g' dp (aeJ Γ o.dst R) (a.put o.dst v) w':=by
 have kp:∀{d:Option Nat} {R:OR} {f:OF},aet d R f=true->FU R.kill f=true/\(∀b o k,R.rm=some (b,o,k)->aaL b o k f=false)/\(∀d',d=some d'->I8 d' f=true):=by
  intro d R f hk;simp only[aet,ah]at hk;refine⟨hk.1.1,λb o k e=>?_,λd' e=>?_⟩
  ·have:=hk.1.2;rw[e]at this;simpa using this
  ·have:=hk.2;rw[e]at this;exact this
 generalize hop:o.op=op at hs;generalize hdst:o.dst=dst at hs hd⊢;rw[hdst]at hr;unfold ai3 at hs;split at hs
 ·
  rename_i t p x;unfold aoK at hs;split at hs
  ·rename_i i hi;have hrun:∃r,(execOp a.eval o).run P w = .ok r w':=hr.elim (λhr=>⟨_,hr⟩) (λhr=>⟨_,hr.1⟩);obtain⟨r,hrun⟩:=hrun;split at hs
   ·rename_i b off hvp;cases hs;have hm:=oZ hvp;rw[eG]at hm;obtain⟨f,hf,hm⟩:=hm;unfold adR at hm;split at hm
    ·split at hm
     ·rename_i e;subst e;cases hm;obtain⟨g',h1,h2⟩:=agM (N:=N) h hop hrun he hi hf;refine⟨g',h1,h2.weak λf hf=>?_⟩;rw[Df]at hf;rw[bG,bF];rcases hf with hf|⟨hf,hk⟩
      ·exact .inl hf
      ·exact .inr ⟨hf,by rw[(kp hk).2.1 _ _ _ rfl];rfl⟩
     ·cases hm
    ·cases hm
   ·split at hs
    ·rename_i T off hep;split at hs
     ·rename_i hok;cases hs;have hm:=oZ hep;rw[eG]at hm;obtain⟨f,hf,hm⟩:=hm;unfold anZ at hm;split at hm
      ·split at hm
       ·rename_i e;subst e;cases hm;obtain⟨g',h1,h2⟩:=agL (N:=N) h hop hrun he hi hf hok;refine⟨g',h1,h2.weak λf hf=>?_⟩;rw[Df]at hf;rw[bF];rcases hf with hf|⟨hf,hk⟩
        ·cases hf
        ·exact⟨hf,(kp hk).1⟩
       ·cases hm
      ·cases hm
     ·cases hs
    ·cases hs
  ·cases hs
 ·rename_i t d;cases hs;rcases hr with hr|hr
  ·obtain⟨g',h1,h2⟩:=afo (N:=N) h (hd d rfl) hN hop hr;refine⟨g',h1,h2.weak λf hf=>?_⟩;rw[Df]at hf;rw[bG,bF];rcases hf with hf|⟨hf,hk⟩
   ·exact .inl hf
   ·exact .inr ⟨hf,(kp hk).2.2 _ rfl⟩
  ·cases hr.2
 ·rename_i t x d;cases hs;rcases hr with hr|hr
  ·obtain⟨g',h1,h2⟩:=ako (N:=N) h (hd d rfl) hN hop hr;refine⟨g',h1,h2.weak λf hf=>?_⟩;rw[Df]at hf;rw[bG,bF];rcases hf with hf|⟨hf,hk⟩
   ·exact .inl hf
   ·exact .inr ⟨hf,(kp hk).2.2 _ rfl⟩
  ·cases hr.2
 ·rename_i t ps d;cases hs;rcases hr with hr|hr
  ·have hw:w'=w:=he.quiet (by rw[hop];rfl);subst hw;refine⟨g,Rel.refl _ _ _,h.good,λf hf=>?_⟩;rw[Df]at hf;rcases hf with hf|⟨hf,hk⟩
   ·exact afx h (hd d rfl) hop hr f hf
   ·exact(h.fs f hf).put' ((kp hk).2.2 _ rfl)
  ·cases hr.2
 ·rename_i T l c d;split at hs
  ·rename_i hz;cases hs;rcases hr with hr|hr
   ·obtain⟨g',h1,h2⟩:=aiM (N:=N) h (hd d rfl) hN hz hop hr;refine⟨g',h1,h2.weak λf hf=>?_⟩;rw[Df]at hf;rw[aK,bF];rcases hf with hf|⟨hf,hk⟩
    ·exact .inl (by simpa using hf)
    ·exact .inr ⟨hf,(kp hk).2.2 _ rfl⟩
   ·cases hr.2
  ·cases hs
 ·rename_i T len ps d;split at hs
  ·rename_i hok;cases hs;rcases hr with hr|hr
   ·obtain⟨g',h1,h2⟩:=acm (N:=N) h (hd d rfl) hN hok hop hr;refine⟨g',h1,h2.weak λf hf=>?_⟩;rw[Df]at hf;rw[aK,bF,bF];rcases hf with hf|⟨hf,hk⟩
    ·exact .inl (by simpa using hf)
    ·exact .inr ⟨⟨hf,(kp hk).1⟩,(kp hk).2.2 _ rfl⟩
   ·cases hr.2
  ·cases hs
 ·rename_i s x T t2 d;unfold aoI at hs;split at hs
  ·rename_i e2 m ms ht2 hok;cases hs;rcases hr with hr|hr
   ·obtain⟨g',h1,h2⟩:=acd (N:=N) h (hd d rfl) hN hop ht2 hok hr;refine⟨g',h1,h2.weak λf hf=>?_⟩;rw[Df]at hf;rw[aK,bF,bF];rcases hf with hf|⟨hf,hk⟩
    ·exact .inl (by simpa using hf)
    ·exact .inr ⟨⟨hf,(kp hk).1⟩,(kp hk).2.2 _ rfl⟩
   ·cases hr.2
  ·cases hs
 ·rename_i d0 s x T t2;unfold aoJ at hs;split at hs
  ·rename_i m hm;split at hs
   ·rename_i hemp;cases hs;have hcopy:(execOp a.eval o).run P w = .ok (.value v) w'->OW P F g dp Γ a w':=λhr=>ahH h hop hm (List.isEmpty_iff.1 hemp) hr;rcases hr with hr|hr
    ·have h2:=hcopy hr;refine⟨g,Rel.refl _ _ _,h2.good,λf hf=>?_⟩;rw[Df]at hf;rcases hf with hf|⟨hf,hk⟩
     ·cases hf
     ·cases dst with
      |none=>exact h2.fs f hf
      |some d=>exact(h2.fs f hf).put' ((kp hk).2.2 _ rfl)
    ·exfalso;have:=hr.1;simp only[execOp,hop,resolve,invoke,builtin,dN,dw,bQ]at this;cases hq:(ni #[T,t2] o.type (Array.map a.eval #[.tmp s,x])).run P w<;>rw[hq]at this<;>cases this
   ·cases hs
  ·cases hs
 ·split at hs
  ·rename_i hq;cases hs;have hw:w'=w:=he.quiet (by rw[hop];exact hq);subst hw;rcases hr with hr|hr
   ·refine⟨g,Rel.refl _ _ _,h.good,λf hf=>?_⟩;rw[Df]at hf;rcases hf with hf|⟨hf,hk⟩
    ·exact ai2 h (hd _ rfl) hr f (by rw[hop];exact hf)
    ·exact(h.fs f hf).put' ((kp hk).2.2 _ rfl)
   ·cases hr.2
  ·cases hs
 ·cases hs
end
end
section
section
variable {P:Program} {F:TA} {g g':Own} {dp:Nat} {Γ : List OF} {a:Act} {w w':World} {N:Nat} {v:Value}
theorem FD.rel {f:OF}(h:FD P F g dp a w f)(hr:Rel (dp+1) w.heap.size g g')(hs:w.heap.size<=w'.heap.size):FD P F g' dp a w' f:=by
 have gr:∀{u T m},GR g u T (.tag dp m)->GR g' u T (.tag dp m):=λh=>by
  rcases h with h|⟨k,n,c,h1,h2⟩
  ·exact .inl h
  ·have q:=hr.tag _ _ _ _ (BO _) h2.1;exact .inr ⟨k,n,c,h1,q.1,by rw[q.2];exact h2.2⟩
 have old:∀{k T:Nat} {X:Prop},k<w.heap.size->(∀B,g k=some B->(∃p,B = .arr T p)/\X)->∀B,g' k=some B->(∃p,B = .arr T p)/\X:=by intro k T X hk hold B' hB';obtain⟨B,h1,h2⟩:=hr.old k B' hk hB';obtain⟨⟨p,rfl⟩,hx⟩:=hold B h1;obtain⟨q,q',e1,e2⟩:=h2 T p (.inl rfl);exact⟨⟨q',e2⟩,hx⟩
 cases f with
 | sr t T=>
   rcases h with h|⟨k,o,n,c,h1,h2,h3⟩
   ·exact .inl h
   ·exact .inr ⟨k,o,n,c,h1,lD h2 hs,old h2 h3⟩
 |ep t T off=>obtain⟨k,o,h1,h2,h3⟩:=h;exact⟨k,o,h1,lD h2 hs,old h2 h3⟩
 |vp t b off=>obtain⟨k,row,h1,h2,h3⟩:=h;exact⟨k,row,h1,h2,hr.var _ _ _ _ (BO _) h3⟩
 |ref t r=>obtain⟨u,h1,h2⟩:=h;exact⟨u,h1,gr h2⟩
 |ER t i r=>obtain⟨vs,x,u,h1,h2,h3,h4⟩:=h;exact⟨vs,x,u,h1,h2,h3,gr h4⟩
 |row b r=>obtain⟨k,row,h1,h2,h3⟩:=h;exact⟨k,row,h1,hr.var _ _ _ _ (BO _) h2,h3⟩
 |fn t s=>exact h
theorem Rel.down (h:Rel (dp+1) N g g'):Rel dp N g g':=
 ⟨λk T d m hd=>h.tag k T d m (Nat.lt_succ_of_lt hd),λk row d b hd=>h.var k row d b (Nat.lt_succ_of_lt hd),h.old⟩
theorem Good.OO (h:Good P g w){k:Nat}{row row':List Ref}{d b d' b':Nat}(hk:g k=some (.var row d b))(hc:∀cs e,w.heap[k]? = some (.cells cs e (0,0))->∀r,r∈row'->∃u,cs[r.off]? = some u/\GR g u r.ty (.tag d' r.m)):Good P (g.upd k (.var row' d' b')) w:=by
 have ho:∀{k'},k'≠k->(g.upd k (.var row' d' b')) k'=g k':=λhne=>by simp[yN,hne]
 have hg:(g.upd k (.var row' d' b')) k=some (.var row' d' b'):=aA rfl;refine⟨λk' T p hk'=>?_,λk' Oy d2 b2 hk'=>?_⟩
 ·by_cases hkk:k'=k
  ·subst hkk;rw[hg]at hk';cases hk'
  ·rw[ho hkk]at hk';obtain⟨c,e,h1,h2⟩:=h.arr k' T p hk';exact⟨c,e,h1,λj u T' hb hu ht=>(h2 j u T' (by rwa[E5,au hkk]at hb) hu ht).Tj hk⟩
 ·by_cases hkk:k'=k
  ·subst hkk;rw[hg]at hk';cases hk';obtain⟨cs,e,h1,_⟩:=h.var _ _ _ _ hk;exact⟨cs,e,h1,λr hr=>let ⟨u,hu,hgr⟩:=hc cs e h1 r hr;⟨u,hu,hgr.Tj hk⟩⟩
  ·rw[ho hkk]at hk';obtain⟨c,e,h1,h2⟩:=h.var k' Oy d2 b2 hk';exact⟨c,e,h1,λr hr=>let ⟨u,hu,hgr⟩:=h2 r hr;⟨u,hu,hgr.Tj hk⟩⟩
def ak2 (b:Nat):OF->Bool
 |.vp _ b' _=>b' != b
 |.row b' _=>b' != b
 |_=>true
theorem FD.OO {f:OF}(h:FD P F g dp a w f){k:Nat}{row row':List Ref}{d b d' b':Nat}(hk:g k=some (.var row d b))(hf:d=dp->ak2 b f=true):FD P F (g.upd k (.var row' d' b')) dp a w f:=by
 have ho:∀{k'},k'≠k->(g.upd k (.var row' d' b')) k'=g k':=λhne=>by simp[yN,hne]
 have old:∀{k' T:Nat} {X:Prop},(∀B,g k'=some B->(∃p,B = .arr T p)/\X)->∀B,(g.upd k (.var row' d' b')) k'=some B->(∃p,B = .arr T p)/\X:=by
  intro k' T X hold B hB;by_cases hkk:k'=k
  ·subst hkk;obtain⟨⟨p,e⟩,_⟩:=hold _ hk;cases e
  ·rw[ho hkk]at hB;exact hold B hB
 cases f with
 | sr t T=>
   rcases h with h|⟨k',o,n,c,h1,h2,h3⟩
   ·exact .inl h
   ·exact .inr ⟨k',o,n,c,h1,h2,old h3⟩
 |ep t T off=>obtain⟨k',o,h1,h2,h3⟩:=h;exact⟨k',o,h1,h2,old h3⟩
 | vp t b2 off=>
   obtain⟨k',Oy,h1,h2,h3⟩:=h;refine⟨k',Oy,h1,h2,?_⟩;rw[ho]
   ·exact h3
   ·rintro rfl;rw[hk]at h3;cases h3;have:=hf rfl;simp[ak2]at this
 |ref t r=>obtain⟨u,h1,h2⟩:=h;exact⟨u,h1,h2.Tj hk⟩
 |ER t i r=>obtain⟨vs,x,u,h1,h2,h3,h4⟩:=h;exact⟨vs,x,u,h1,h2,h3,h4.Tj hk⟩
 | row b2 r=>
   obtain⟨k',Oy,h1,h2,h3⟩:=h;refine⟨k',Oy,h1,?_,h3⟩;rw[ho]
   ·exact h2
   ·rintro rfl;rw[hk]at h2;cases h2;have:=hf rfl;simp[ak2]at this
 |fn t s=>exact h
theorem Rel.OO {k:Nat}{row row':List Ref}{d b d' b':Nat}(hk:g k=some (.var row d b))(hd:dp<=d):Rel dp N g (g.upd k (.var row' d' b')):=by
 refine⟨λk' T d2 m hd2 hx=>?_,λk' Oy d2 b2 hd2 hx=>?_,λk' B' hlt hB=>?_⟩
 ·have hne:k'≠k:=λe=>by subst e;rw[hk]at hx;cases hx
  rw[yN,E5,au hne,au hne];exact⟨hx,rfl⟩
 ·rw[yN];rw[au (λe=>by subst e;rw[hk]at hx;cases hx;omega)];exact hx
 ·rw[yN]at hB;split at hB
  ·rename_i e;subst e;cases hB;exact⟨_,hk,λT p hb=>by rcases hb with e|e<;>cases e⟩
  ·exact(Rel.refl dp N g).old k' B' hlt hB
end
def ajx (Γ : List OF)(s o T:Nat):Option Nat:=(Γ.filterMap λf=>match f with
 |.ref y r=>if y=s/\r.off=o/\r.ty=T then some r.m else none
 |_=>none).head?
def WC (Γ : List OF)(b o T:Nat):Option Nat:=(Γ.filterMap λf=>match f with
 |.row y r=>if y=b/\r.off=o/\r.ty=T then some r.m else none
 |_=>none).head?
def Ro {α β:Type}(f:α->Option β):List α->Option (List β)
 |[]=>some []
 | x::r=>match f x,Ro f r with
   |some y,some ys=>some (y::ys)
   |_,_=>none
theorem FM {α β:Type}{f:α->Option β} : ∀{l:List α} {ys:List β},Ro f l=some ys->∀x,x∈l->∃y,f x=some y/\y∈ys
 | x::r,ys,h,z,hz=>by
   simp only[Ro]at h;split at h
   ·rename_i y ys' h1 h2;cases h;rcases aK.1 hz with rfl|hz
    ·exact⟨y,h1,bD ..⟩
    ·obtain⟨y',h3,h4⟩:=FM h2 z hz;exact⟨y',h3,fJ _ h4⟩
   ·cases h
def Yp (Γ : List OF)(i:Nat)(x:Operand):PK->Option (List (Nat×Nat)×Option Nat)
 |.any=>some ([],none)
 | .own rs=>(match x with
   |.tmp s=>(Ro (λe:Nat×Nat=>(ajx Γ s e.1 e.2).map λm=>(m,i*20+e.1)) rs).map λl=>(l,none)
   |_=>none)
 | .var rs=>(match x with
   | .tmp s=>(match(Γ.filterMap (adR s)).head? with
     |some (b,0)=>(Ro (λe:Nat×Nat=>(WC Γ b e.1 e.2).map λm=>(m,i*20+e.1)) rs).map λl=>(l,some b)
     |_=>none)
   |_=>none)
 | .fn s=>(match x with
   |.tmp t=>if Γ.contains (.fn t s)then some ([],none)else none
   |.func f=>if kindOf f = .rd/\s=0 then some ([],none)else none
   |_=>none)
section
variable {P:Program} {F:TA} {g g':Own} {dp:Nat} {Γ : List OF} {a:Act} {w w':World} {N:Nat} {v:Value}
theorem abE (h:OW P F g dp Γ a w){s o T m:Nat}(ht:ajx Γ s o T=some m):∃u,(a.tmps.getD s undef).cells[o]? = some u/\GR g u T (.tag dp m):=by
 have:=oZ ht;rw[eG]at this;obtain⟨f,hf,hm⟩:=this;split at hm
 ·split at hm
  ·rename_i y r hc;obtain⟨rfl,rfl,rfl⟩:=hc;cases hm;exact h.fs _ hf
  ·cases hm
 ·cases hm
theorem Tf (h:OW P F g dp Γ a w){b o T m:Nat}(ht:WC Γ b o T=some m):∃k row,a.tmps.getD b undef = .pointer (some ⟨k,0,none⟩)/\g k=some (.var row dp b)/\⟨o,T,m⟩∈row:=by
 have:=oZ ht;rw[eG]at this;obtain⟨f,hf,hm⟩:=this;split at hm
 ·split at hm
  ·rename_i y r hc;obtain⟨rfl,rfl,rfl⟩:=hc;cases hm;exact h.fs _ hf
  ·cases hm
 ·cases hm
end
end
section
def Hw (Γ : List OF):Nat->List Operand->List PK->Option (List (Nat×Nat)×List (Nat×Nat))
 |_,[],ps=>if ps.all (· == .any)then some ([],[])else none
 | i,x::xs,p::ps=>match Yp Γ i x p,Hw Γ (i+1) xs ps with
   |some (l,o),some (l',o')=>some (l++l',(match o with|some b=>[(i,b)]|none=>[])++o')
   |_,_=>none
 |_,_::_,[]=>none
def IZ (l:List Nat):Bool:=match l with
 |[]=>true
 |x::r=> !r.contains x&&IZ r
def WJ (ps:List PK)(i:Nat):List (Nat×Nat):=match ps[i]? with
 |some (.var rs)=>rs
 |_=>[]
structure CR where
 kill:List Nat
 rv:Option Nat
 new:List OF
def aiv (d:Option Nat)(R:CR)(f:OF):Bool:=FU R.kill f&&(match R.rv with|some b=>ak2 b f|none=>true)&&(match d with|some d=>I8 d f|none=>true)
def XC (Γ : List OF)(d:Option Nat)(R:CR):List OF:=R.new ++ Γ.filter (aiv d R)
def ak8 (rs:List (List (Nat×Nat)))(d:Nat):List OF:=match rs with
 |[r]=>r.map λe=>.ref d ⟨e.1,e.2,mk d e.1⟩
 |l=>(l.zipIdx).flatMap λp=>p.1.map λe=>.ER d p.2 ⟨e.1,e.2,mk d (p.2*20+e.1)⟩
def ajf (rs:List (Nat×Nat))(d:Nat):List Ref:=rs.map λe=>⟨e.1,e.2,mk d (60+e.1)⟩
def Cb (dp:Nat)(rs:List (List (Nat×Nat)))(vr:List (Nat×Nat))(i d d':Nat):List (Nat×zn):=
 (match rs with
  |[r]=>r.map λe=>(20000+e.1,.tag dp (mk d e.1))
  |l=>(l.zipIdx).flatMap λp=>p.1.map λe=>(20000+p.2*20+e.1,.tag dp (mk d (p.2*20+e.1)))) ++
 vr.map λe=>(30000+i*20+e.1,.tag dp (mk d' (60+e.1)))
def TN (Γ : List OF)(sg:ZN)(xs:List Operand)(d:Option Nat):Option CR:=match Hw Γ 0 xs sg.ps with
 | some (mv,vars)=>if !IZ (mv.map (·.1))then none else match vars with
   |[]=>if !IZ ((Cb 0 sg.rs [] 0 (d.getD 97) (d.getD 97)).map (·.1))then none else some ⟨mv.map (·.1),none,match d with|some d=>ak8 sg.rs d|none=>[]⟩
   |[(i,b)]=>if d==some b || !IZ ((Cb 0 sg.rs (WJ sg.ps i) i (d.getD 97) (d.getD 97)).map (·.1))then none else some ⟨mv.map (·.1),some b,.vp b b 0::(ajf (WJ sg.ps i) (d.getD 97)).map (.row b)++match d with|some d=>ak8 sg.rs d|none=>[]⟩
   |_=>none
 |none=>none
section
variable {P:Program} {g g':Own} {dp:Nat} {Γ : List OF} {a:Act} {w w':World} {N:Nat} {v:Value}
theorem I5 {l:List Nat}(h:IZ l=true):l.Nodup:=by
 induction l with
 |nil=>exact List.nodup_nil
 | cons x r ih=>simp only[IZ,ah,kW,Ae,dn]at h;exact Af.2 ⟨h.1,ih h.2⟩
theorem Ip {β:Type}{m:Nat}{q:β} : ∀{l:List (Nat×β)},(l.map (·.1)).Nodup->(m,q)∈l->l.lookup m=some q
 | (k,b)::r,hn,h=>by
   simp only[bT,Af]at hn;simp only[List.lookup];rcases aK.1 h with e|h'
   ·cases e;simp
   ·have hne:(m==k)=false:=by
     rw[beq_eq_false_iff_ne];intro e;exact hn.1 (bu.2 ⟨(m,q),h',e⟩)
    rw[hne];exact Ip hn.2 h'
theorem Z7 : ∀{xs:List Operand} {ps:List PK} {i:Nat} {mv vars:List (Nat×Nat)},Hw Γ i xs ps=some (mv,vars)->∀(j:Nat) (p:PK),ps[j]? = some p ->
 (p = .any)\/∃x l o,xs[j]? = some x/\Yp Γ (i+j) x p=some (l,o)/\(∀e,e∈l->e∈mv)/\(∀b,o=some b->(i+j,b)∈vars)
 | [],ps,i,mv,vars,h,j,p,hp=>by
   simp only[Hw]at h;split at h
   ·rename_i hall;rw[bf]at hall;exact .inl (by simpa using hall p (iF hp))
   ·cases h
 | x::xs,q::ps,i,mv,vars,h,j,p,hp=>by
   simp only[Hw]at h;split at h
   ·rename_i l o l' o' h1 h2;cases h;cases j with
    | zero=>simp at hp;subst hp;refine .inr ⟨x,l,o,rfl,h1,λe he=>dZ _ he,λb hb=>?_⟩;subst hb;exact dZ _ (bD ..)
    | succ j=>
      rcases Z7 h2 j p (by simpa using hp)with h3|⟨y,l2,o2,h3,h4,h5,h6⟩
      ·exact .inl h3
      ·refine .inr ⟨y,l2,o2,by simpa using h3,by rw[show i+(j+1)=i+1+j by omega];exact h4,λe he=>fQ _ (h5 e he),λb hb=>?_⟩;rw[show i+(j+1)=i+1+j by omega];exact fQ _ (h6 b hb)
   ·cases h
 |_::_,[],i,mv,vars,h,j,p,hp=>by simp[Hw]at h
def GU (dp:Nat)(mv:List (Nat×Nat)):List (Nat×zn):=mv.map λe=>(e.1,.tag (dp+1) e.2)
theorem WG (dp:Nat)(mv:List (Nat×Nat)):(GU dp mv).map (·.1)=mv.map (·.1):=by simp[GU]
theorem GR.there {mv:List (Nat×Nat)}(hn:(mv.map (·.1)).Nodup){u:Value}{T m t:Nat}(h:GR g u T (.tag dp m))(hm:(m,t)∈mv):GR (g.mv dp (GU dp mv)) u T (.tag (dp+1) t):=
 h.mv (Ip (by rw[WG];exact hn) (by rw[GU,bu];exact⟨_,hm,rfl⟩))
theorem aiQ {ps:List PK}{f:OF}(h:f∈Ui ps):∃j p,ps[j]? = some p/\((∃rs,p = .own rs/\∃e,e∈rs/\f = .ref j ⟨e.1,e.2,j*20+e.1⟩) \/
 (∃rs,p = .var rs/\(f = .vp j j 0\/∃e,e∈rs/\f = .row j ⟨e.1,e.2,j*20+e.1⟩))\/∃s,p = .fn s/\f = .fn j s):=by
 rw[Ui,lV]at h;obtain⟨q,hq,hf⟩:=h;obtain⟨p,j⟩:=q;have hj:=oz.1 hq;simp only at hj;refine⟨j,p,by simpa using hj,?_⟩;cases p with
 |any=>cases hf
 |own rs=>rw[bu]at hf;obtain⟨e,he,rfl⟩:=hf;exact .inl ⟨rs,rfl,e,he,rfl⟩
 | var rs=>
   rw[aK,bu]at hf;rcases hf with rfl|⟨e,he,rfl⟩
   ·exact .inr (.inl ⟨rs,rfl,.inl rfl⟩)
   ·exact .inr (.inl ⟨rs,rfl,.inr ⟨e,he,rfl⟩⟩)
 |fn s=>exact .inr (.inr ⟨s,rfl,by simpa using hf⟩)
theorem aaM (h:OW P FV g dp Γ a w){xs:List Operand}{ps:List PK}{mv vars:List (Nat×Nat)}{ex:List Value}(ha:Hw Γ 0 xs ps=some (mv,vars))(hn:(mv.map (·.1)).Nodup){g2:Own}
 (hgr:∀{u:Value} {T:Nat} {p:zn},GR (g.mv dp (GU dp mv)) u T p->GR g2 u T p)
 (hv:∀i b rs,(i,b)∈vars->ps[i]? = some (.var rs)->∃k row,a.tmps.getD b undef = .pointer (some ⟨k,0,none⟩)/\g2 k=some (.var row (dp+1) i)/\∀e,e∈rs->⟨e.1,e.2,i*20+e.1⟩∈row)
 (f:OF) (hf:f∈Ui ps):FD P FV g2 (dp+1) { tmps:=(xs.map a.eval++ex).toArray,defers:=[] } w f:=by
 obtain⟨j,p,hj,hf⟩:=aiQ hf;have hget:∀x,xs[j]? = some x->((xs.map a.eval++ex).toArray).getD j undef=a.eval x:=λx hx=>by rw[fH,nU,cu (by rw[vg];exact(aS.1 hx).1),dG,hx];rfl
 have hq:=Z7 ha j p hj;rw[fV]at hq;rcases hf with⟨rs,rfl,e,he,rfl⟩|⟨rs,rfl,hf⟩|⟨s,rfl,rfl⟩
 ·rcases hq with hq|⟨x,l,o,hx,harg,hl,_⟩
  ·cases hq
  ·simp only[Yp]at harg;split at harg
   ·rename_i s;simp only[dD]at harg;obtain⟨l',hl',heq⟩:=harg;cases heq;obtain⟨y,hy,hyl⟩:=FM hl' e he;simp only[dD]at hy;obtain⟨m,hm,rfl⟩:=hy;obtain⟨u,hu,hg⟩:=abE h hm;refine⟨u,?_,hgr (hg.there hn (hl _ hyl))⟩;rw[hget _ hx];exact hu
   ·cases harg
 ·rcases hq with hq|⟨x,l,o,hx,harg,hl,ho⟩
  ·cases hq
  ·simp only[Yp]at harg;split at harg
   ·rename_i s;split at harg
    ·rename_i b hvp;simp only[dD]at harg;obtain⟨l',hl',heq⟩:=harg;cases heq;have hm:=oZ hvp;rw[eG]at hm;obtain⟨f0,hf0,hm⟩:=hm;unfold adR at hm;split at hm
     ·split at hm
      ·rename_i e1;subst e1;cases hm;obtain⟨k0,row0,e2,e3,e4⟩:=h.fs _ hf0;obtain⟨k,row,e5,e6,e7⟩:=hv j b rs (ho b rfl) hj;rw[e2]at e5;cases e5;have hx':=hget _ hx;have e8:((xs.map a.eval++ex).toArray).getD j undef = .pointer (some ⟨k0,0,none⟩):=(by rw[hx'];exact e3);rcases hf with rfl|⟨e,he,rfl⟩
       ·exact⟨k0,row,e8,e8,e6⟩
       ·exact⟨k0,row,e8,e6,e7 e he⟩
      ·cases hm
     ·cases hm
    ·cases harg
   ·cases harg
 ·rcases hq with hq|⟨x,l,o,hx,harg,_,_⟩
  ·cases hq
  ·simp only[Yp]at harg;split at harg
   ·rename_i t;split at harg
    ·rename_i hc;have hc:=kT.1 hc;obtain⟨f,caps,h1,h2⟩:=h.fs _ hc;exact⟨f,caps,by rw[hget _ hx];exact h1,h2⟩
    ·cases harg
   ·rename_i f;split at harg
    ·rename_i hc;exact⟨f,#[],by rw[hget _ hx];rfl,by rw[hc.2];exact hc.1⟩
    ·cases harg
   ·cases harg
end
end
section
section
variable {P:Program} {g g':Own} {dp:Nat} {Γ : List OF} {a:Act} {w w':World} {N:Nat} {v:Value}
theorem afu (dp:Nat)(rs:List (List (Nat×Nat)))(vr:List (Nat×Nat))(i d d':Nat):(Cb dp rs vr i d d').map (·.1)=(Cb 0 rs vr i d d').map (·.1):=by
 unfold Cb;rw[vk,vk]
 congr 1
 ·split
  ·simp
  ·rw[List.map_flatMap,List.map_flatMap]
   congr 1
   funext p
   simp
 ·simp
theorem GR.back {rs:List (List (Nat×Nat))}{vr:List (Nat×Nat)}{i d d':Nat}(hn:IZ ((Cb 0 rs vr i d d').map (·.1))=true){u:Value}{T m:Nat}{q:zn}(h:GR g u T (.tag (dp+1) m))(hm:(m,q)∈Cb dp rs vr i d d') :
 GR (g.mv (dp+1) (Cb dp rs vr i d d')) u T q:=
 h.mv (Ip (by rw[afu];exact I5 hn) hm)
theorem X5 {sg:ZN}{vs:List Value}(hout:OW P FV g' (dp+1) (VU sg vs.length) { tmps:=(vs++[v]).toArray,defers:=[] } w'){vr:List (Nat×Nat)}{i d d':Nat}(hn:IZ ((Cb 0 sg.rs vr i d d').map (·.1))=true)(hd:d<a.tmps.size){g4:Own}
 (hgr:∀{u:Value} {T:Nat} {p:zn},GR (g'.mv (dp+1) (Cb dp sg.rs vr i d d')) u T p->GR g4 u T p) (f:OF) (hf:f∈ak8 sg.rs d):FD P FV g4 dp (a.put (some d) v) w' f:=by
 have hv:((vs++[v]).toArray).getD vs.length undef=v:=by rw[fH,nU];simp
 have hs:=iq (v:=v) hd;unfold ak8 at hf;split at hf
 ·rename_i r hrs;rw[bu]at hf;obtain⟨e,he,rfl⟩:=hf;have:=hout.fs (.ref vs.length ⟨e.1,e.2,20000+e.1⟩) (by
   rw[VU,aa9,hrs];exact dZ _ (bu.2 ⟨e,he,rfl⟩))
  obtain⟨u,hu,hg⟩:=this;rw[hv]at hu;refine⟨u,by rw[hs];exact hu,hgr (hg.back hn ?_)⟩;unfold Cb;rw[hrs];exact dZ _ (bu.2 ⟨e,he,rfl⟩)
 ·rename_i hne;rw[lV]at hf;obtain⟨q,hq,hf⟩:=hf;rw[bu]at hf;obtain⟨e,he,rfl⟩:=hf;have:=hout.fs (.ER vs.length q.2 ⟨e.1,e.2,20000+q.2*20+e.1⟩) (by
   rw[VU];refine dZ _ ?_;unfold aa9;split
   ·rename_i r hr;exact eF hr (hne r)
   ·rw[lV];exact⟨q,hq,bu.2 ⟨e,he,rfl⟩⟩)
  obtain⟨us,x,u,h1,h2,h3,hg⟩:=this;rw[hv]at h1;refine⟨us,x,u,by rw[hs];exact h1,h2,h3,hgr (hg.back hn ?_)⟩;unfold Cb;refine dZ _ ?_;split
  ·rename_i r hr;exact eF hr (hne r)
  ·rw[lV];exact⟨q,hq,bu.2 ⟨e,he,rfl⟩⟩
theorem aaP {mv:List (Nat×zn)}{f:OF} : aiw dp (λ_=>false) (QI (dp+1) mv) f:=λm _=>⟨rfl,by simp only[QI];rw[au aI]⟩
theorem Rel.aoD (mv:List (Nat×zn)):Rel dp N g (g.mv (dp+1) mv):=Rel.re λd m h=>⟨rfl,by simp only[QI];rw[au aI]⟩
theorem Good.mv (h:Good P g w)(dp:Nat)(mv:List (Nat×zn)):Good P (g.mv dp mv) w:=h.re λ_ _ _ _ _ _=>⟨rfl,rfl⟩
theorem adm {mv:List (Nat×zn)}{k d b:Nat}{row:List Ref}(h:g k=some (.var row d b)):∃row',(g.mv dp mv) k=some (.var row' d b):=by rw[Own.mv,V5];rw[h];exact⟨_,rfl⟩
theorem ajH {ps:List PK}{i:Nat}{rs:List (Nat×Nat)}(h:ps[i]? = some (.var rs)):WJ ps i=rs:=by simp[WJ,h]
theorem O6 : ∀{xs:List Operand} {ps:List PK} {i:Nat} {mv vars:List (Nat×Nat)},Hw Γ i xs ps=some (mv,vars)->∀j b,(j,b)∈vars->∃rs x s,ps[j-i]? = some (.var rs)/\i<=j/\xs[j-i]? = some x/\x = .tmp s/\OF.vp s b 0 ∈ Γ /\ ∀e,e∈rs->∃m,WC Γ b e.1 e.2=some m/\(m,j*20+e.1)∈mv
 | [],ps,i,mv,vars,h,j,b,hb=>by
   simp only[Hw]at h;split at h
   ·cases h;cases hb
   ·cases h
 | x::xs,q::ps,i,mv,vars,h,j,b,hb=>by
   simp only[Hw]at h;split at h
   ·rename_i l o l' o' h1 h2;cases h;rcases bG.1 hb with hb|hb
    ·cases o with
     |none=>cases hb
     | some b'=>
       simp only[aK,iW,or_false,dF]at hb;obtain⟨rfl,rfl⟩:=hb;rw[Nat.sub_self];cases q with
       |any=>simp[Yp]at h1
       | own rs=>
         simp only[Yp]at h1;split at h1
         ·simp only[dD]at h1;obtain⟨_,_,e⟩:=h1;cases e
         ·cases h1
       | fn s=>simp only[Yp]at h1;split at h1<;>(try split at h1)<;>cases h1
       | var rs=>
         simp only[Yp]at h1;split at h1
         ·rename_i s;split at h1
          ·rename_i b2 hvp;simp only[dD]at h1;obtain⟨l2,hl2,e⟩:=h1;cases e;have hm:=oZ hvp;rw[eG]at hm;obtain⟨f0,hf0,hm⟩:=hm;unfold adR at hm;split at hm
           ·split at hm
            ·rename_i e1;subst e1;cases hm;refine⟨rs,_,_,rfl,aF _,rfl,rfl,hf0,λe he=>?_⟩;obtain⟨y,hy,hyl⟩:=FM hl2 e he;simp only[dD]at hy;obtain⟨m,hm,rfl⟩:=hy;exact⟨m,hm,dZ _ hyl⟩
            ·cases hm
           ·cases hm
          ·cases h1
         ·cases h1
    ·obtain⟨rs,y,s,h3,h4,h5,h6,h7,h8⟩:=O6 h2 j b hb;refine⟨rs,y,s,?_,aI,?_,h6,h7,λe he=>let ⟨m,h9,h10⟩:=h8 e he;⟨m,h9,fQ _ h10⟩⟩
     ·rw[show j-i=(j-(i+1))+1 by omega,eX];exact h3
     ·rw[show j-i=(j-(i+1))+1 by omega,eX];exact h5
   ·cases h
 |_::_,[],i,mv,vars,h,j,b,hb=>by simp[Hw]at h
theorem aa2 (h:OW P FV g dp Γ a w)(hN:N<=w.heap.size){f:FuncId}{sg:ZN}(hk:kindOf f = .ow sg){xs:List Operand}{ex:List Value}{d:Option Nat}{C:CR}(hl:(xs.map a.eval++ex).length=sg.ps.length)(hc:TN Γ sg xs d=some C)(hd:∀d',d=some d'->d'<a.tmps.size) :
 ∃X,Ym P f (xs.map a.eval++ex) w X/\∀v w',w.heap.size<=w'.heap.size->X (.returned v) w'->∃g',Rel dp N g g'/\OW P FV g' dp (XC Γ d C) (a.put d v) w':=by
 unfold TN at hc;split at hc
 ·rename_i mv vars ha;split at hc
  ·cases hc
  ·rename_i hnn;have hn:(mv.map (·.1)).Nodup:=I5 (by simpa using hnn);have h1:=h.mv (GU dp mv);rw[WG]at h1;split at hc
   ·
    split at hc
    ·cases hc
    ·rename_i hbn;cases hc;have hin:OW P FV (g.mv dp (GU dp mv)) (dp+1) (Ui sg.ps) { tmps:=(xs.map a.eval++ex).toArray,defers:=[] } w:=
      ⟨h1.good,aaM h ha hn (λh=>h) (λi b rs hb _=>by cases hb)⟩
     refine⟨_,.ow sg hk hl _ (dp+1) hin,λv w' hs hX=>?_⟩;obtain⟨v',g',hv,hrel,hout⟩:=hX;cases hv;refine⟨g'.mv (dp+1) (Cb dp sg.rs [] 0 (d.getD 97) (d.getD 97)),((Rel.mv N _).trans ((hrel.le hN).down)).trans (Rel.aoD _),hout.good.mv _ _,λf hf=>?_⟩;rw[XC,bG,bF]at hf;rcases hf with hf|⟨hf,hkp⟩
     ·cases d with
      |none=>cases hf
      |some d=>exact X5 hout (by simpa using hbn) (hd d rfl) (λh=>h) f hf
     ·simp only[aiv,ah]at hkp;have h2:=((h1.fs f (bF.2 ⟨hf,hkp.1.1⟩)).rel hrel hs).re (dr:=λ_=>false) (φ:=QI (dp+1) (Cb dp sg.rs [] 0 (d.getD 97) (d.getD 97))) aaP;cases d with
      |none=>exact h2
      |some d=>exact h2.put' hkp.2
   ·
    rename_i i b;split at hc
    ·cases hc
    ·rename_i hbn;simp only[iJ,not_or,kW,Bool.not_eq_false]at hbn;obtain⟨hdb,hbn⟩:=hbn;cases hc;obtain⟨rs,x,s,hp,_,hx,rfl,hvp,aoh⟩:=O6 ha i b (bD ..);rw[oP]at hp hx;have hrs:=ajH hp;obtain⟨k,row,hb1,hb2,hb3⟩:=h.fs _ hvp;obtain⟨ap5,hk1⟩:=adm (mv:=GU dp mv) (dp:=dp) hb3;have amD:Good P ((g.mv dp (GU dp mv)).upd k (.var (rs.map λe=>⟨e.1,e.2,i*20+e.1⟩) (dp+1) i)) w:=by
      refine h1.good.OO hk1 λcs e hw r hr=>?_;rw[bu]at hr;obtain⟨q,hq,rfl⟩:=hr;obtain⟨m,hm1,hm2⟩:=aoh q hq;obtain⟨k',row',e1,e2,e3⟩:=Tf h hm1;rw[hb1]at e1;cases e1;obtain⟨cs',e',hw',hrow⟩:=h.good.var _ _ _ _ e2;rw[hw]at hw';cases hw';obtain⟨u,hu,hg⟩:=hrow _ e3;exact⟨u,hu,hg.there hn hm2⟩
     have hin:OW P FV ((g.mv dp (GU dp mv)).upd k (.var (rs.map λe=>⟨e.1,e.2,i*20+e.1⟩) (dp+1) i)) (dp+1) (Ui sg.ps) { tmps:=(xs.map a.eval++ex).toArray,defers:=[] } w:=
      ⟨amD,aaM h ha hn (λh=>h.Tj hk1) (λi' b' rs' hb' hp'=>by simp only[aK,iW,or_false,dF]at hb';obtain⟨rfl,rfl⟩:=hb';rw[hp]at hp';cases hp';exact⟨k,_,hb1,aA rfl,λe he=>bu.2 ⟨e,he,rfl⟩⟩)⟩
     refine⟨_,.ow sg hk hl _ (dp+1) hin,λv w' hs hX=>?_⟩;obtain⟨v',g',hv,hrel,hout⟩:=hX;cases hv;rw[hrs]at hbn;have apP:=hout.fs (.vp i i 0) (by rw[VU];refine fQ _ ?_;rw[ads,lV];exact⟨(.var rs,i),oz.2 (by simpa using hp),mD⟩)
     obtain⟨k2,Oy,e1,_,e2⟩:=apP;have hlt:i<(xs.map a.eval++ex).length:=(by rw[hl];exact(aS.1 hp).1);have hti:((xs.map a.eval++ex)++[v]).toArray.getD i undef = .pointer (some ⟨k,0,none⟩):=by rw[fH,nU,cu hlt,cu (by rw[vg];exact(aS.1 hx).1),dG,hx];exact hb2
     rw[hti]at e1;cases e1;obtain⟨row3,hk3⟩:=adm (mv:=Cb dp sg.rs rs i (d.getD 97) (d.getD 97)) (dp:=dp+1) e2;have amE:Good P ((g'.mv (dp+1) (Cb dp sg.rs rs i (d.getD 97) (d.getD 97))).upd k (.var (ajf rs (d.getD 97)) dp b)) w':=by
      refine(hout.good.mv _ _).OO hk3 λcs e hw r hr=>?_;rw[ajf,bu]at hr;obtain⟨q,hq,rfl⟩:=hr;have:=hout.fs (.row i ⟨q.1,q.2,30000+i*20+q.1⟩) (by rw[VU];refine fQ _ ?_;rw[ads,lV];exact⟨(.var rs,i),oz.2 (by simpa using hp),fJ _ (bu.2 ⟨q,hq,rfl⟩)⟩)
      obtain⟨k',row',e4,e5,e6⟩:=this;rw[hti]at e4;cases e4;obtain⟨cs',e',hw',hrow⟩:=hout.good.var _ _ _ _ e5;rw[hw]at hw';cases hw';obtain⟨u,hu,hg⟩:=hrow _ e6;refine⟨u,hu,hg.back hbn ?_⟩;unfold Cb;exact fQ _ (bu.2 ⟨q,hq,rfl⟩)
     refine⟨(g'.mv (dp+1) (Cb dp sg.rs rs i (d.getD 97) (d.getD 97))).upd k (.var (ajf rs (d.getD 97)) dp b),
      ((((Rel.mv N _).trans (Rel.OO hk1 (aF _))).trans ((hrel.le hN).down)).trans (Rel.aoD _)).trans (Rel.OO hk3 (Nat.le_succ _)),amE,λf hf=>?_⟩
     rw[XC,bG,bF]at hf;have hb':∀d',d=some d'->b≠d':=λd' e e'=>(by subst e;subst e';simp at hdb);have htb:(a.put d v).tmps.getD b undef = .pointer (some ⟨k,0,none⟩):=by
      cases d with
      |none=>exact hb1
      |some d'=>rw[o7 (hb' d' rfl)];exact hb1
     rcases hf with hf|⟨hf,hkp⟩
     ·simp only[zI,aK,bG,bu]at hf;rw[hrs]at hf;rcases hf with rfl|⟨r,hr,rfl⟩|hf
      ·exact⟨k,_,htb,htb,aA rfl⟩
      ·exact⟨k,_,htb,aA rfl,hr⟩
      ·cases d with
       |none=>cases hf
       |some d=>exact X5 hout (by simpa using hbn) (hd d rfl) (λh=>h.Tj hk3) f hf
     ·simp only[aiv,ah]at hkp;have h2:=(((h1.fs f (bF.2 ⟨hf,hkp.1.1⟩)).OO (row':=rs.map λe=>⟨e.1,e.2,i*20+e.1⟩) (d':=dp+1) (b':=i) hk1 (λ_=>hkp.1.2)).rel hrel hs).re (dr:=λ_=>false) (φ:=QI (dp+1) (Cb dp sg.rs rs i (d.getD 97) (d.getD 97))) aaP;have h3:=h2.OO (row':=ajf rs (d.getD 97)) (d':=dp) (b':=b) hk3 (λe=>by omega);cases d with
      |none=>exact h3
      |some d=>exact h3.put' hkp.2
   ·cases hc
 ·cases hc
end
end
section
section
variable {P:Program} {E:Env P} {I:IH} {ρ:Ren} {n:Nat} {st:gZ} {a:Act} {w:World}
def AK (E:Env P)(n:Nat)(K:gZ->Prop):Act->World->Prop:=λa w=>∃I ρ st,K st/\GX E I ρ n st a w
theorem alK (h:GX E I ρ n st a w){bs:List Nat}{v:Value}{x y:AC}(hx:GC I ρ v x)(hc:Cv st.bx x y)(hb:∀b,b∈qH [x]->b∈bs):GC (Ed I ρ w st.bx bs) ρ v y:=by
 have hle:=Io (st:=st) h.bx bs;cases hc with
 |refl=>exact hx.mono hle (Ren.le_refl ρ)
 | og sz=>simp only[GC]at hx;subst hx;exact Rd.sl none 0 0 _ [] (λ_ _=>undef) rfl (aF _) (by simp[maxLen]) mD mD (by intro ad h;cases h) mD
 |own b m sz es harr hm=>exact Y0 h (hb b (by simp[qH])) harr hm hx
theorem Fg {x:AC}{xs:List AC}{b:Nat} : b∈qH (x::xs)<->b∈qH [x]\/b∈qH xs:=by cases x<;>simp[qH]
theorem aky (h:GX E I ρ n st a w){bs:List Nat}{vs:List Value}{xs ys:List AC}(hx:NT I ρ vs xs)(hc:CvL st.bx xs ys)(hb:∀b,b∈qH xs->b∈bs):NT (Ed I ρ w st.bx bs) ρ vs ys:=by
 induction hc generalizing vs with
 |nil=>exact⟨hx.1,λj v x hv hx=>by simp at hx⟩
 | cons hxy ht ih=>
   rename_i x y xs ys;cases vs with
   |nil=>have:=hx.1;simp at this
   | cons v vs=>
     have i1:=ih (vs:=vs) ⟨by simpa using hx.1,λj u z hu hz=>hx.2 (j+1) u z (by simpa using hu) (by simpa using hz)⟩ (λb hb'=>hb b (Fg.2 (.inr hb')));have i0:=alK h (hx.2 0 v x rfl rfl) hxy (λb hb'=>hb b (Fg.2 (.inl hb')));refine⟨by simp[i1.1],λj u z hu hz=>?_⟩;cases j with
     |zero=>simp at hu hz;subst hu;subst hz;exact i0
     |succ j=>exact i1.2 j u z (by simpa using hu) (by simpa using hz)
theorem amj (h:GX E I ρ n st a w){bs:List Nat}{v:Value}{x y:AV}(hx:GV I ρ v x)(hc:CvA st.bx x y)(hb:∀b,b∈x.owns->b∈bs):GV (Ed I ρ w st.bx bs) ρ v y:=by
 cases hc with
 |one hxy=>exact alK h hx hxy hb
 |agg hxy=>obtain⟨cs,rfl,hg⟩:=hx;exact⟨cs,rfl,aky h hg hxy hb⟩
theorem Vm (h:GX E I ρ n st a w){bs:List Nat}{vs:List Value}{xs ys:List AV}(hx:UR I ρ vs xs)(hc:OU st.bx xs ys)(hb:∀b,b∈xs.flatMap AV.owns->b∈bs):UR (Ed I ρ w st.bx bs) ρ vs ys:=by
 induction hc generalizing vs with
 |nil=>exact⟨hx.1,λj v x hv hx=>by simp at hx⟩
 | cons hxy ht ih=>
   rename_i x y xs ys;cases vs with
   |nil=>have:=hx.1;simp at this
   | cons v vs=>
     have i1:=ih (vs:=vs) ⟨by simpa using hx.1,λj u z hu hz=>hx.2 (j+1) u z (by simpa using hu) (by simpa using hz)⟩ (λb hb'=>hb b (by rw[kE];exact fQ _ hb'));have i0:=amj h (hx.2 0 v x rfl rfl) hxy (λb hb'=>hb b (by rw[kE];exact dZ _ hb'));refine⟨by simp[i1.1],λj u z hu hz=>?_⟩;cases j with
     |zero=>simp at hu hz;subst hu;subst hz;exact i0
     |succ j=>exact i1.2 j u z (by simpa using hu) (by simpa using hz)
theorem acW {I J:IH}{ρ σ:Ren}{v:Value}{x:AC}(h:GC I ρ v x)(hl:x.isLit=true):GC J σ v x:=by
 cases x with
 | c y=>
   cases y with
   |lit u=>cases h with|lit v hv=>exact Rd.lit _ hv
   |str l=>cases h with|str l hl=>exact Rd.str _ hl
   |sl sz es=>cases hl
 |_=>cases hl
theorem ael {I J:IH}{ρ σ:Ren}{vs:List Value}{xs:List AC}(h:NT I ρ vs xs)(hl:xs.all AC.isLit=true):NT J σ vs xs:=
 ⟨h.1,λj v x hv hx=>acW (h.2 j v x hv hx) (bf.1 hl x (iF hx))⟩
theorem amr {I J:IH}{ρ σ:Ren}{v:Value}{x:AV}(h:GV I ρ v x)(hl:x.all AC.isLit=true):GV J σ v x:=by
 cases x with
 |one x=>exact acW h hl
 |agg xs=>obtain⟨cs,rfl,hg⟩:=h;exact⟨cs,rfl,ael hg hl⟩
 | AA ps=>
   obtain⟨vs,rfl,hs,hp⟩:=h;refine⟨vs,rfl,hs,λj v p hv hq=>?_⟩;have h1:=hp j v p hv hq;have h2:=bf.1 hl p (iF hq);unfold GP at h1⊢;split at h1
   ·rename_i hb;rw[aA hb];obtain⟨cs,rfl,hg⟩:=h1;exact⟨cs,rfl,ael hg h2⟩
   ·rename_i hb;rw[au hb];obtain⟨x,hx,hg⟩:=h1;rw[hx]at h2;exact⟨x,hx,acW hg (by simpa using h2)⟩
theorem YS {I:IH}{ρ σ:Ren}{v:Value}{x:AC}(h:GC I ρ v x)(hl:x.zh=true):GC I σ v x:=by
 cases x with
 |c y=>exact h
 |err g=>exact h
 |_=>cases hl
theorem aaA {I:IH}{ρ σ:Ren}{vs:List Value}{xs:List AC}(h:NT I ρ vs xs)(hl:xs.all AC.zh=true):NT I σ vs xs:=
 ⟨h.1,λj v x hv hx=>YS (h.2 j v x hv hx) (bf.1 hl x (iF hx))⟩
theorem aeo {I:IH}{ρ σ:Ren}{v:Value}{x:AV}(h:GV I ρ v x)(hl:x.all AC.zh=true):GV I σ v x:=by
 cases x with
 |one x=>exact YS h hl
 |agg xs=>obtain⟨cs,rfl,hg⟩:=h;exact⟨cs,rfl,aaA hg hl⟩
 | AA ps=>
   obtain⟨vs,rfl,hs,hp⟩:=h;refine⟨vs,rfl,hs,λj v p hv hq=>?_⟩;have h1:=hp j v p hv hq;have h2:=bf.1 hl p (iF hq);unfold GP at h1⊢;split at h1
   ·rename_i hb;rw[aA hb];obtain⟨cs,rfl,hg⟩:=h1;exact⟨cs,rfl,aaA hg h2⟩
   ·rename_i hb;rw[au hb];obtain⟨x,hx,hg⟩:=h1;rw[hx]at h2;exact⟨x,hx,YS hg (by simpa using h2)⟩
theorem aaE {I:IH}{ρ σ:Ren}{vs:List Value}{xs:List AV}(h:UR I ρ vs xs)(hl:xs.all (·.all AC.zh)=true):UR I σ vs xs:=
 ⟨h.1,λj v x hv hx=>aeo (h.2 j v x hv hx) (bf.1 hl x (iF hx))⟩
theorem Yu (b:Nat):C9 [] b = .absent:=by simp[C9]
theorem Lj {x:Option (Nat×Nat)}(b k:Nat):¬(C9 [] b).uses x k:=by rw[Yu];exact λh=>h
theorem GX.later (h:GX E I ρ n st a w){w':World}(hF:DN w w' (λ_=>False)):GX E I ρ n st a w':=by have hk:∀k,k<w.heap.size->w'.heap[k]? = w.heap[k]?:= λk hk=>hF.block k hk (λh=>h);refine{ h with agree:=h.agree.other (λk c hc=>hk k (h.agree.lt hc)),bx:=?_,DK:=h.DK.trans hF (λ_ _ hf=>hf.elim),tm:=h.tm,size:=h.size,defers:=h.defers };exact BX.step (λ_=>False) h.bx (IH.le_refl I) (Ren.le_refl ρ) (λb _=>⟨rfl,rfl⟩) (λb k _ hu=>hk k ((h.bx.ok b).lt hu)) (λb hb=>hb.elim) (λb k hb=>hb.elim) (λb b' k hb=>hb.elim) (λb k _ hu=>h.bx.fresh b k hu)
theorem Za (I:IH)(w:World):BX I (λ_=>none) w (C9 []):=
 ⟨λb=>by rw[Yu];rfl,λb b' k h=>eF h (Lj b k),λb k h=>eF h (Lj b k)⟩
theorem ahC (h:GX E I ρ n st a w){f:FuncId}{vs:List Value}{xk ds:List AV}{r:AV}{d:Option Nat}{K:gZ->Prop}(hd':∀x,d=some x->x<n)(hv:UR I ρ vs xk)(hc:OU st.bx xk ds)(hd:ds.all (·.all AC.zh)=true)(hp:fE P f ds r)(hr:r.all AC.isLit=true)
 (k:K (st.BB d (.v true r))) {X:Ending->World->Prop} (hX:Ym P f vs w X):Calls P f vs.toArray w λe w'=>(∃v,e = .returned v/\AK E n K (a.put d v) w')/\X e w'/\w.heap.size<=w'.heap.size:=by
 have hv1:=Vm h (bs:=xk.flatMap AV.owns) hv hc (λb hb=>hb);refine(hp (Ed I ρ w st.bx (xk.flatMap AV.owns)) (λ_=>none) w vs (h.tabs.mono (Io h.bx _)) (Pm h.agree _) (Za _ _) (aaE hv1 hd) _ hX).mono ?_;rintro e w' ⟨⟨v,J,σ,r',bs,rfl,⟨rfl,rfl⟩,hg,hA,hB,hle,hF,_⟩,hXe⟩;have hF':DN w w' (λ_=>False):=⟨hF.os,hF.tape,hF.output,hF.size,λk hk _=>hF.block k hk (λ⟨b,hb⟩=>Lj b k hb)⟩;exact⟨⟨v,rfl,I,ρ,_,k,(h.later hF').BB hd' ⟨λ_=>amr hg hr,λe=>by cases e⟩⟩,hXe,hF.size⟩
theorem afy (h:GX E I ρ n st a w){f:FuncId}{vs:List Value}{xk ds:List AV}{r:AV}{d:Option Nat}{K:gZ->Prop}(hd':∀x,d=some x->x<n)(hv:UR I ρ vs xk)(hc:OU st.bx xk ds)(hd:ds.all (·.all AC.zh)=true)(hp:fE P f ds r)(hr:r.all AC.zh=true)
 (k:K ((st.Hz (xk.flatMap AV.owns)).BB d (.v true r))) {X:Ending->World->Prop} (hX:Ym P f vs w X):Calls P f vs.toArray w λe w'=>(∃v,e = .returned v/\AK E n K (a.put d v) w')/\X e w'/\w.heap.size<=w'.heap.size:=by
 have hv1:=Vm h (bs:=xk.flatMap AV.owns) hv hc (λb hb=>hb);refine(hp (Ed I ρ w st.bx (xk.flatMap AV.owns)) (λ_=>none) w vs (h.tabs.mono (Io h.bx _)) (Pm h.agree _) (Za _ _) (aaE hv1 hd) _ hX).mono ?_;rintro e w' ⟨⟨v,J,σ,r',bs,rfl,⟨rfl,rfl⟩,hg,hA,hB,hle,hF,_,hJ,_⟩,hXe⟩;have hF':DN w w' (λ_=>False):=⟨hF.os,hF.tape,hF.output,hF.size,λk hk _=>hF.block k hk (λ⟨b,hb⟩=>Lj b k hb)⟩;have hJ':∀k,k<w.heap.size->J k=Ed I ρ w st.bx (xk.flatMap AV.owns) k:=λk hk=>hJ k hk (λ⟨b,hb⟩=>Lj b k hb);refine⟨⟨v,rfl,J,ρ,_,k,?_⟩,hXe,hF.size⟩;generalize hBS:xk.flatMap AV.owns=BS at *;have hIJ:I.le J:=IH.le_trans (Io h.bx BS) hle;have hk:∀k,k<w.heap.size->w'.heap[k]? = w.heap[k]?:= λk hk=>hF'.block k hk (λh=>h);have Ep:∀b k,((st.Hz BS).bx b).uses (ρ b) k->(st.bx b).uses (ρ b) k/\¬(∃b' sz es cap,b'∈BS/\st.bx b' = .dat sz es/\ρ b'=some (k,cap)/\cap≠0):=by
  intro b k hu;rw[Cc]at hu;by_cases hb:b∈BS
  ·rw[aA hb]at hu;cases hx:st.bx b with
   | var xs=>rw[hx]at hu;refine⟨hu,?_⟩;rintro⟨b',sz,es,cap,_,hb',hr',h0⟩;have:=h.bx.inj b b' k (by rw[hx];exact hu) (by rw[hb'];exact⟨cap,hr',h0⟩);subst this;rw[hx]at hb';cases hb'
   | row e l=>rw[hx]at hu;refine⟨hu,?_⟩;rintro⟨b',sz,es,cap,_,hb',hr',h0⟩;have:=h.bx.inj b b' k (by rw[hx];exact hu) (by rw[hb'];exact⟨cap,hr',h0⟩);subst this;rw[hx]at hb';cases hb'
   |dat sz es=>rw[hx]at hu;exact hu.elim
   |Hz sz es=>rw[hx]at hu;exact hu.elim
   |absent=>rw[hx]at hu;exact hu.elim
   |dead=>rw[hx]at hu;exact hu.elim
  ·rw[au hb]at hu;refine⟨hu,?_⟩;rintro⟨b',sz,es,cap,hm',hb',hr',h0⟩;have:=h.bx.inj b b' k hu (by rw[hb'];exact⟨cap,hr',h0⟩);subst this;exact hb hm'
 have hfr:∀b k,((st.Hz BS).bx b).uses (ρ b) k->J k=none:=λb k hu=>by obtain⟨h1,h2⟩:=Ep b k hu;rw[hJ' k ((h.bx.ok b).lt h1)];unfold Ed;rw[au h2];exact h.bx.fresh b k h1
 have hgx:GX E J ρ n (st.Hz BS) a w':=by
  refine{ agree:=hA,bx:=⟨λb=>?_,λb b' k hb hb'=>h.bx.inj b b' k (Ep b k hb).1 (Ep b' k hb').1,hfr⟩,tm:=λt ht=>(h.tm t ht).mono hIJ (Ren.le_refl ρ),size:=h.size,defers:=h.defers,DK:=h.DK.trans hF' (λ_ _ hf=>hf.elim),own:=λb k hu=>h.own b k (Ep b k hu).1,Nh:=IH.le_trans h.Nh hIJ,IW:=λk hk0 hM=>?_,zT:=h.zT }
  ·have hok:=(h.bx.ok b).keep hIJ (Ren.le_refl ρ) rfl (λk hu=>hk k ((h.bx.ok b).lt hu));rw[Cc];by_cases hb:b∈BS
   ·rw[aA hb];cases hx:st.bx b with
    | dat sz es=>rw[hx]at hok;obtain⟨kk,cap,hr',hl,hm,hsz,hcs⟩:=hok;refine⟨kk,cap,hr',hl,hm,hsz,λh0=>?_⟩;obtain⟨cs,e,hw,_,_,hrd⟩:=hcs h0;have hu:(st.bx b).uses (ρ b) kk:=(by rw[hx];exact⟨cap,hr',h0⟩);have hlt:=(h.bx.ok b).lt hu;refine⟨cs,?_,hrd⟩;rw[hJ' kk hlt];unfold Ed;rw[aA ⟨b,sz,es,cap,hb,hx,hr',h0⟩,<- hk kk hlt,hw]
    |var xs=>rw[hx]at hok;exact hok
    |row e l=>rw[hx]at hok;exact hok
    |Hz sz es=>rw[hx]at hok;exact hok
    |absent=>rw[hx]at hok;exact hok
    |dead=>rw[hx]at hok;exact hok
   ·rw[au hb];exact hok
  ·have hlt:k<w.heap.size:=lD hk0 h.DK.size;rw[hJ' k hlt];unfold Ed;rw[au]
   ·exact h.IW k hk0 hM
   ·rintro⟨b',sz,es,cap,_,hb',hr',h0⟩;rcases h.own b' k (by rw[hb'];exact⟨cap,hr',h0⟩)with h1|h1
    ·omega
    ·exact hM h1
 exact hgx.BB hd' ⟨λ_=>aeo hg hr,λe=>by cases e⟩
end
end
section
section
variable {P:Program} {E:Env P} {I:IH} {ρ:Ren} {n:Nat} {st:gZ} {a:Act} {w:World}
theorem NF (l:List (Nat×Box))(st:gZ){b:Nat}(h:b ∉ l.map (·.1)):(st.vJ l).bx b=st.bx b:=by
 induction l generalizing st with
 |nil=>rfl
 | cons x l ih=>obtain⟨c,x⟩:=x;simp only[bT,aK,not_or]at h;simp only[gZ.vJ,ih _ h.2,gZ.tq];rw[au h.1]
theorem ajl (l:List (Nat×Box))(st:gZ)(hn:(l.map (·.1)).Nodup){j b:Nat}{x:Box}(h:l[j]? = some (b,x)):(st.vJ l).bx b=x:=by
 induction l generalizing st j with
 |nil=>simp at h
 | cons y l ih=>
   obtain⟨c,y⟩:=y;simp only[bT,Af]at hn;cases j with
   | zero=>simp at h;obtain⟨rfl,rfl⟩:=h;simp only[gZ.vJ];rw[NF _ _ hn.1,gZ.tq,aA rfl]
   | succ j=>simp only[gZ.vJ];exact ih _ hn.2 (by simpa using h)
theorem YU {π:Nat->Nat}{I:IH}{ρ σ:Ren}{m:Nat}{v:Value}{x:AC}(h:GC I ρ v (GI π x))(hl:x.xK m=true)(hs:∀b y,b<m->ρ (π b)=some y->σ b=some y):GC I σ v x:=by
 cases x with
 |c y=>exact h
 |ptr b off=>obtain⟨k,cap,h1,h2⟩:=h;exact⟨k,cap,hs _ _ (by simpa[AC.xK]using hl) h1,h2⟩
 |own b n sz=>obtain⟨k,cap,a,c,h1,h2⟩:=h;exact⟨k,cap,a,c,hs _ _ (by simpa[AC.xK]using hl) h1,h2⟩
 |sub b lo n c sz=>obtain⟨k,cap,a,c',h1,h2⟩:=h;exact⟨k,cap,a,c',hs _ _ (by simpa[AC.xK]using hl) h1,h2⟩
 |opt T b=>obtain⟨k,h1,h2⟩:=h;exact⟨k,hs _ _ (by simpa[AC.xK]using hl) h1,h2⟩
 |zV b n=>obtain⟨k,cap,h1,h2⟩:=h;exact⟨k,cap,hs _ _ (by simpa[AC.xK]using hl) h1,h2⟩
 |BF b i sz off=>obtain⟨k,cap,h1,h2⟩:=h;exact⟨k,cap,hs _ _ (by simpa[AC.xK]using hl) h1,h2⟩
 |og sz=>exact h
 |Ik cs=>exact h
 |err g=>exact h
 |Nk=>exact h
 | fn f caps=>obtain⟨ks,h1,h2,h3⟩:=h;refine⟨ks,by simpa using h1,λj b k hb hk=>?_,h3⟩;obtain⟨cap,hc⟩:=h2 j (π b) k (by simp[hb]) hk;refine⟨cap,hs _ _ ?_ hc⟩;have:=bf.1 hl b (iF hb);simpa using this
theorem aen {π:Nat->Nat}{I:IH}{ρ σ:Ren}{m:Nat}{vs:List Value}{xs:List AC}(h:NT I ρ vs (xs.map (GI π)))(hl:xs.all (AC.xK m)=true)(hs:∀b y,b<m->ρ (π b)=some y->σ b=some y):NT I σ vs xs:=
 ⟨by simpa using h.1,λj v x hv hx=>YU (h.2 j v (GI π x) hv (by simp[hx])) (bf.1 hl x (iF hx)) hs⟩
theorem amu {π:Nat->Nat}{I:IH}{ρ σ:Ren}{m:Nat}{v:Value}{x:AV}(h:GV I ρ v (Fz π x))(hl:x.all (AC.xK m)=true)(hs:∀b y,b<m->ρ (π b)=some y->σ b=some y):GV I σ v x:=by
 cases x with
 |one x=>exact YU h hl hs
 |agg xs=>obtain⟨cs,rfl,hg⟩:=h;exact⟨cs,rfl,aen hg hl hs⟩
 | AA ps=>
   obtain⟨vs,rfl,hz,hp⟩:=h;refine⟨vs,rfl,by simpa using hz,λj v p hv hq=>?_⟩;have h1:=hp j v _ hv (by rw[dG,hq];rfl);have h2:=bf.1 hl p (iF hq);unfold GP at h1⊢;simp only at h1;split at h1
   ·rename_i hb;rw[aA hb];obtain⟨cs,rfl,hg⟩:=h1;exact⟨cs,rfl,aen hg h2 hs⟩
   ·rename_i hb;rw[au hb];obtain⟨x,hx,hg⟩:=h1;cases hp2:p.2 with
    |nil=>rw[hp2]at hx;simp at hx
    | cons y t=>rw[hp2]at hx h2;simp at hx;obtain⟨rfl,rfl⟩:=hx;exact⟨y,rfl,YU hg (by simpa using h2) hs⟩
theorem YT {π:Nat->Nat}{I:IH}{ρ σ:Ren}{v:Value}{x:AC}(h:GC I σ v x)(hs:∀b y,σ b=some y->ρ (π b)=some y):GC I ρ v (GI π x):=by
 cases x with
 |c y=>exact h
 |ptr b off=>obtain⟨k,cap,h1,h2⟩:=h;exact⟨k,cap,hs _ _ h1,h2⟩
 |own b n sz=>obtain⟨k,cap,a,c,h1,h2⟩:=h;exact⟨k,cap,a,c,hs _ _ h1,h2⟩
 |sub b lo n c sz=>obtain⟨k,cap,a,c',h1,h2⟩:=h;exact⟨k,cap,a,c',hs _ _ h1,h2⟩
 |opt T b=>obtain⟨k,h1,h2⟩:=h;exact⟨k,hs _ _ h1,h2⟩
 |zV b n=>obtain⟨k,cap,h1,h2⟩:=h;exact⟨k,cap,hs _ _ h1,h2⟩
 |BF b i sz off=>obtain⟨k,cap,h1,h2⟩:=h;exact⟨k,cap,hs _ _ h1,h2⟩
 |og sz=>exact h
 |Ik cs=>exact h
 |err g=>exact h
 |Nk=>exact h
 | fn f caps=>
   obtain⟨ks,h1,h2,h3⟩:=h;refine⟨ks,by simpa using h1,λj b k hb hk=>?_,h3⟩;rw[dG]at hb;cases hc:caps[j]? with
   |none=>rw[hc]at hb;cases hb
   | some c=>rw[hc]at hb;simp at hb;subst hb;obtain⟨cap,hc'⟩:=h2 j c k hc hk;exact⟨cap,hs _ _ hc'⟩
theorem aem {π:Nat->Nat}{I:IH}{ρ σ:Ren}{vs:List Value}{xs:List AC}(h:NT I σ vs xs)(hs:∀b y,σ b=some y->ρ (π b)=some y):NT I ρ vs (xs.map (GI π)):=by
 refine⟨by simpa using h.1,λj v x hv hx=>?_⟩;rw[dG]at hx;cases hc:xs[j]? with
 |none=>rw[hc]at hx;cases hx
 | some c=>rw[hc]at hx;simp at hx;subst hx;exact YT (h.2 j v c hv hc) hs
theorem ams {π:Nat->Nat}{I:IH}{ρ σ:Ren}{v:Value}{x:AV}(h:GV I σ v x)(hs:∀b y,σ b=some y->ρ (π b)=some y):GV I ρ v (Fz π x):=by
 cases x with
 |one x=>exact YT h hs
 |agg xs=>obtain⟨cs,rfl,hg⟩:=h;exact⟨cs,rfl,aem hg hs⟩
 | AA ps=>
   obtain⟨vs,rfl,hz,hp⟩:=h;refine⟨vs,rfl,by simpa using hz,λj v p hv hq=>?_⟩;rw[dG]at hq;cases hc:ps[j]? with
   |none=>rw[hc]at hq;cases hq
   | some q=>
     rw[hc]at hq;simp at hq;subst hq;have h1:=hp j v q hv hc;unfold GP at h1⊢;simp only;split at h1
     ·rename_i hb;rw[aA hb];obtain⟨cs,rfl,hg⟩:=h1;exact⟨cs,rfl,aem hg hs⟩
     ·rename_i hb;rw[au hb];obtain⟨x,hx,hg⟩:=h1;exact⟨GI π x,by rw[hx];rfl,YT hg hs⟩
theorem afw {π:Nat->Nat}{I:IH}{ρ σ:Ren}{m:Nat}{w:World}{b:Nat}{x:Box}(h:yD I ρ w (π b) (EY π x))(hl:x.xK m=true)(hb:σ b=ρ (π b))(hs:∀b y,b<m->ρ (π b)=some y->σ b=some y):yD I σ w b x:=by
 cases x with
 |absent=>exact hb.trans h
 |dead=>trivial
 | var xs=>obtain⟨k,cap,cs,hr,hw,hz,hc⟩:=h;refine⟨k,cap,cs,hb.trans hr,hw,by simpa using hz,λj u x hu hx=>YU (hc j u (GI π x) hu (by simp[hx])) (bf.1 hl x (iF hx)) hs⟩
 |dat sz es=>obtain⟨k,cap,hr,h⟩:=h;exact⟨k,cap,hb.trans hr,h⟩
 |row e l=>obtain⟨k,cap,hr,h⟩:=h;exact⟨k,cap,hb.trans hr,h⟩
 |Hz sz es=>obtain⟨k,cap,hr,h⟩:=h;exact⟨k,cap,hb.trans hr,h⟩
theorem afv {π:Nat->Nat}{I:IH}{ρ σ:Ren}{w:World}{b:Nat}{x:Box}(h:yD I σ w b x)(hb:ρ (π b)=σ b)(hs:∀b y,σ b=some y->ρ (π b)=some y):yD I ρ w (π b) (EY π x):=by
 cases x with
 |absent=>exact hb.trans h
 |dead=>trivial
 | var xs=>
   obtain⟨k,cap,cs,hr,hw,hz,hc⟩:=h;refine⟨k,cap,cs,hb.trans hr,hw,by simpa using hz,λj u x hu hx=>?_⟩;rw[dG]at hx;cases hc':xs[j]? with
   |none=>rw[hc']at hx;cases hx
   | some c=>rw[hc']at hx;simp at hx;subst hx;exact YT (hc j u c hu hc') hs
 |dat sz es=>obtain⟨k,cap,hr,h⟩:=h;exact⟨k,cap,hb.trans hr,h⟩
 |row e l=>obtain⟨k,cap,hr,h⟩:=h;exact⟨k,cap,hb.trans hr,h⟩
 |Hz sz es=>obtain⟨k,cap,hr,h⟩:=h;exact⟨k,cap,hb.trans hr,h⟩
theorem KJ {π:Nat->Nat}{x:Box}{p:Option (Nat×Nat)}{k:Nat} : (EY π x).uses p k<->x.uses p k:=by cases x<;>exact Iff.rfl
theorem aea {l:List Box}{b:Nat}(h:b<l.length):l[b]? = some (C9 l b):=by unfold C9;rw[cZ,aB h];rfl
theorem Jz {l:List Box}{b:Nat}(h:l.length<=b):C9 l b = .absent:=by unfold C9;rw[cZ,kU h];rfl
theorem aak (h:GX E I ρ n st a w)(hm:E.m<=10){f:FuncId}{vs:List Value}{xk ds:List AV}{d:Option Nat}{K:gZ->Prop}{fp:List Box}{L nu:List Nat}{post:AV->List Box->Prop}{sg:List Nat}(hL:sg++nu=L)(hd':∀x,d=some x->x<n)(hv:UR I ρ vs xk)
 (hl:sg.length=fp.length) (hn:L.Nodup) (hf:∀i,i<fp.length->st.bx (L.getD i 0)=EY (λb=>L.getD b 0) (fp.getD i .absent))
 (hnu:∀b,b∈nu->st.bx b = .absent/\10<=b) (hra:(ds.all λx=>x.all (AC.xK fp.length))=true) (hrf:fp.all (Box.xK fp.length)=true) (ha:xk=ds.map (Fz λb=>L.getD b 0)) (hp:pM P f ds fp post)
 (k:∀r bs,post r bs->bs.length=L.length/\K ((st.vJ (L.zip (bs.map (EY λb=>L.getD b 0)))).BB d (.v true (Fz (λb=>L.getD b 0) r)))) {X:Ending->World->Prop} (hX:Ym P f vs w X) :
 Calls P f vs.toArray w λe w'=>(∃v,e = .returned v/\AK E n K (a.put d v) w')/\X e w'/\w.heap.size<=w'.heap.size:=by
 generalize hπ:(λb=>L.getD b 0)=π at hf ha k;have aon:∀b,L.getD b 0=π b:=λb=>congrFun hπ b;have hLl:fp.length<=L.length:=by rw[<- hL];simp;omega
 have VG:∀b,b<L.length->L[b]? = some (π b):=λb hb=>by rw[<- aon,cZ,aB hb];rfl
 have aim:∀b,b<L.length->π b∈L:=λb hb=>iF (VG b hb);have ail:∀b b',b<L.length->b'<L.length->π b=π b'->b=b':=λb b' hb hb' e=>by
  have h1:=VG b hb;have h2:=VG b' hb';rw[aB hb]at h1;rw[aB hb']at h2;simp at h1 h2;have hpw:=yf.1 hn;rcases yY b b' with hlt|heq|hlt
  ·exact eF (by rw[h1,h2,e]) (hpw b b' hb hb' hlt)
  ·exact heq
  ·exact eF (by rw[h1,h2,e]) (hpw b' b hb' hb hlt)
 let ρc:Ren:=λb=>if b<fp.length then ρ (π b)else none
 have hs:∀b y,b<fp.length->ρ (π b)=some y->ρc b=some y:=λb y hb e=>by simp[ρc,hb,e]
 have hfb:∀b,b<fp.length->st.bx (π b)=EY π (C9 fp b):=λb hb=>by have:=hf b hb;rw[aon]at this;exact this
 have hub:∀b k,(C9 fp b).uses (ρc b) k->b<fp.length/\(st.bx (π b)).uses (ρ (π b)) k:=λb k hu=>by
  by_cases hb:b<fp.length
  ·refine⟨hb,?_⟩;rw[hfb b hb,KJ];simpa[ρc,hb]using hu
  ·rw[Jz aI]at hu;exact hu.elim
 have hBX:BX I ρc w (C9 fp):=by
  refine⟨λb=>?_,λb b' k hb hb'=>?_,λb k hb=>?_⟩
  ·by_cases hb:b<fp.length
   ·have:=h.bx.ok (π b);rw[hfb b hb]at this;exact afw this (bf.1 hrf _ (iF (aea hb))) (by simp[ρc,hb]) hs
   ·rw[Jz aI];show ρc b=none;simp[ρc,hb]
  ·obtain⟨h1,h2⟩:=hub b k hb;obtain⟨h1',h2'⟩:=hub b' k hb';exact ail b b' aI aI (h.bx.inj _ _ _ h2 h2')
  ·exact h.bx.fresh _ _ (hub b k hb).2
 have hGV:UR I ρc vs ds:=by subst ha;refine⟨by simpa using hv.1,λj v x hv' hx=>?_⟩;exact amu (hv.2 j v (Fz π x) hv' (by simp[hx])) (bf.1 hra x (iF hx)) hs
 refine(hp I ρc w vs h.tabs h.agree hBX hGV _ hX).mono ?_;rintro e w' ⟨⟨v,J,σ,r,bs,rfl,hpost,hg,hA,hB,hle,hF,hbw,hJ,hσ⟩,hXe⟩;obtain⟨hbl,hk⟩:=k r bs hpost;refine⟨⟨v,rfl,?_⟩,hXe,hF.size⟩;have apT:∀b,L.length<=b->σ b=none:=λb hb=>by have:=hB.ok b;rw[Jz aI]at this;exact this
 let ρ':Ren:=λb=>open Classical in if b∈L then σ (L.idxOf b)else ρ b
 have Qo:∀b,b<L.length->ρ' (π b)=σ b:=λb hb=>by
  have h1:=aim b hb;simp only[ρ',h1,jY];have hi:=List.idxOf_lt_length_of_mem h1;have h2:L[L.idxOf (π b)]? = some (π b):=by rw[aB hi];simp
  have h3:=VG _ hi;rw[h2]at h3;simp only[aH]at h3;rw[<- ail _ _ hb hi h3]
 have aaJ:∀b,b ∉ L->ρ' b=ρ b:=λb hb=>by simp[ρ',hb]
 have hin:∀b,b∈L->∃i,i<L.length/\π i=b:=λb hb=>by
  have hi:=List.idxOf_lt_length_of_mem hb;refine⟨_,hi,?_⟩;have h2:L[L.idxOf b]? = some b:=by rw[aB hi];simp
  have h3:=VG _ hi;rw[h2]at h3;simpa using h3.symm
 have alO:∀i,fp.length<=i->i<L.length->π i∈nu:=λi h1 h2=>by have h3:=VG i h2;rw[<- hL,dU aI]at h3;exact iF h3
 have hle':ρ.le ρ':=λb y hb=>by
  by_cases hm':b∈L
  ·obtain⟨i,hi,rfl⟩:=hin b hm';rw[Qo i hi];by_cases hif:i<fp.length
   ·rw[hσ i hif];exact hs i y hif hb
   ·have h1:=(hnu _ (alO i aI hi)).1;have h2:=h.bx.ok (π i);rw[h1]at h2;rw[show ρ (π i)=none from h2]at hb;cases hb
  ·rw[aaJ b hm'];exact hb
 have aog:∀b y,σ b=some y->ρ' (π b)=some y:=λb y hb=>by
  by_cases hbL:b<L.length
  ·rw[Qo b hbL];exact hb
  ·rw[apT b aI]at hb;cases hb
 have hlz:(L.zip (bs.map (EY π))).map (·.1)=L:=by rw[List.map_fst_zip];simp[hbl]
 have afV:∀i,i<L.length->(st.vJ (L.zip (bs.map (EY π)))).bx (π i)=EY π (C9 bs i):=λi hi=>by refine ajl _ _ (by rw[hlz];exact hn) (j:=i) ?_;rw[List.getElem?_zip_eq_some];exact⟨VG i hi,by rw[dG,aea aI];rfl⟩
 have hbx2:∀b,b ∉ L->(st.vJ (L.zip (bs.map (EY π)))).bx b=st.bx b:=λb hb=>NF _ _ (by rw[hlz];exact hb);have hnot:∀b k,b ∉ L->(st.bx b).uses (ρ b) k->k<w.heap.size/\¬ ∃b',(C9 fp b').uses (ρc b') k:=λb k hb hu=>by refine⟨(h.bx.ok b).lt hu,?_⟩;rintro⟨b',hb'⟩;obtain⟨h1,h2⟩:=hub b' k hb';have:=h.bx.inj _ _ _ hu h2;exact hb (this▸aim b' aI)
 have hother:∀b k,b ∉ L->(st.bx b).uses (ρ b) k->w'.heap[k]? = w.heap[k]?:= λb k hb hu=>let ⟨h1,h2⟩:=hnot b k hb hu;hF.block k h1 h2;have an5:∀i k,i<L.length->(C9 bs i).uses (σ i) k->∀b,b ∉ L->¬(st.bx b).uses (ρ b) k:=λi k hi hu b hb hu'=>by
  obtain⟨h1,h2⟩:=hnot b k hb hu';rcases hbw i k hu with h3|h3
  ·omega
  ·exact h2 h3
 generalize hst:st.vJ (L.zip (bs.map (EY π)))=st' at *;have htm:st'.tm=st.tm:=by rw[<- hst,QX]
 have hgx:GX E J ρ' n st' a w':=by
  refine{ agree:=hA,bx:=⟨λb=>?_,λb b' k hb hb'=>?_,λb k hb=>?_⟩,tm:=λt ht=>?_,size:=h.size,defers:=h.defers,DK:=?_,own:=λb k hb=>?_,Nh:=IH.le_trans h.Nh hle,IW:=λk hk0 hM=>?_,zT:=λb hb=>?_ }
  ·by_cases hb:b∈L
   ·obtain⟨i,hi,rfl⟩:=hin b hb;rw[afV i hi];exact afv (hB.ok i) (Qo i hi) aog
   ·rw[hbx2 b hb];exact(h.bx.ok b).keep hle hle' (aaJ b hb) (λk hu=>hother b k hb hu)
  ·by_cases hbL:b∈L
   ·obtain⟨i,hi,rfl⟩:=hin b hbL;rw[afV i hi,KJ,Qo i hi]at hb;by_cases aaH:b'∈L
    ·obtain⟨i',hi',rfl⟩:=hin b' aaH;rw[afV i' hi',KJ,Qo i' hi']at hb';rw[hB.inj _ _ _ hb hb']
    ·rw[hbx2 b' aaH,aaJ b' aaH]at hb';exact eF hb' (an5 i k hi hb b' aaH)
   ·rw[hbx2 b hbL,aaJ b hbL]at hb;by_cases aaH:b'∈L
    ·obtain⟨i',hi',rfl⟩:=hin b' aaH;rw[afV i' hi',KJ,Qo i' hi']at hb';exact eF hb (an5 i' k hi' hb' b hbL)
    ·rw[hbx2 b' aaH,aaJ b' aaH]at hb';exact h.bx.inj _ _ _ hb hb'
  ·by_cases hbL:b∈L
   ·obtain⟨i,hi,rfl⟩:=hin b hbL;rw[afV i hi,KJ,Qo i hi]at hb;exact hB.fresh _ _ hb
   ·rw[hbx2 b hbL,aaJ b hbL]at hb;obtain⟨h1,h2⟩:=hnot b k hbL hb;rw[hJ k h1 h2];exact h.bx.fresh _ _ hb
  ·rw[htm];exact(h.tm t ht).mono hle hle'
  ·refine h.DK.trans hF ?_;rintro x hx ⟨b',hb'⟩;rcases h.own _ _ (hub b' x hb').2 with h1|h1
   ·omega
   ·exact h1
  ·by_cases hbL:b∈L
   ·obtain⟨i,hi,rfl⟩:=hin b hbL;rw[afV i hi,KJ,Qo i hi]at hb;rcases hbw i k hb with h1|⟨b',hb'⟩
    ·exact .inl (bJ h.DK.size h1)
    ·exact h.own _ _ (hub b' k hb').2
   ·rw[hbx2 b hbL,aaJ b hbL]at hb;exact h.own _ _ hb
  ·rw[hJ k (lD hk0 h.DK.size)]
   ·exact h.IW k hk0 hM
   ·rintro⟨b',hb'⟩;rcases h.own _ _ (hub b' k hb').2 with h1|h1
    ·omega
    ·exact hM h1
  ·by_cases hbL:b∈L
   ·obtain⟨i,hi,rfl⟩:=hin b hbL;rw[Qo i hi];by_cases hif:i<fp.length
    ·rw[hσ i hif,<- h.zT _ hb];simp[ρc,hif]
    ·have:=(hnu _ (alO i aI hi)).2;omega
   ·rw[aaJ b hbL];exact h.zT b hb
 exact⟨J,ρ',_,hk,hgx.BB hd' ⟨λ_=>ams hg aog,λe=>by cases e⟩⟩
end
end
section
section
variable {P:Program} {E:Env P} {I:IH} {ρ:Ren} {n:Nat} {st:gZ} {a:Act} {w:World}
def Qb (n:Nat):List Operand->List pR->Bool
 |[],[]=>true
 |x::xs,y::ys=>lJ n x y&&Qb n xs ys
 |_,_=>false
def MP (n:Nat)(ops:Array Oper):Option (Nat×Bool)->Option (Nat×Bool)->Bool
 |none,none=>true
 |some (j,w),some (s,w')=>w==w'&&decide (s<n)&&(match ops[j]? with|some o=>o.dst==some s|none=>false)
 |_,_=>false
def acw (n:Nat):Option Nat->Option Nat->Bool
 |none,none=>true
 |some x,some y=>x==y&&decide (x<n)
 |_,_=>false
def Vd (P:Program)(n m:Nat)(op:Op)(d:Option Nat):UN->Bool
 |.op ao=>Ud P n m op d ao
 | .call f args=>match op with
   |.call ⟨.value (.func f'),az,_⟩=>f'==f&&Qb n az.toList args&&zK P f
   |_=>false
 | .IP x args=>match op with
   |.call ⟨.value x',az,_⟩=>lJ n x' x&&Qb n az.toList args
   |_=>false
def KU (P:Program)(n m:Nat)(ops:Array Oper)(o:Oper)(ao:lK):Bool:=
 MP n ops o.guard ao.g&&acw n o.dst ao.d&&Vd P n m o.op o.dst ao.i
theorem QM (h:GX E I ρ n st a w):∀{xs:List Operand} {ys:List pR},Qb n xs ys=true->(∀y,y∈ys->(y.ev st.tm).g=true) ->
 UR I ρ (xs.map a.eval) (ys.map (fK st.tm))
 |[],[],_,_=>⟨rfl,λj v x hv hx=>by simp at hv⟩
 | x::xs,y::ys,hc,hg=>by
   simp only[Qb,ah]at hc;have ih:=QM h hc.2 (λy hy=>hg y (fJ _ hy));refine⟨by simpa using ih.1,λj v z hv hz=>?_⟩;cases j with
   | zero=>simp at hv hz;subst hv;subst hz;exact oK h hc.1 (hg y (bD ..))
   |succ j=>exact ih.2 j v z (by simpa using hv) (by simpa using hz)
 |[],_::_,hc,_=>by cases hc
 |_::_,[],hc,_=>by cases hc
theorem ahS {d d':Option Nat}(h:acw n d d'=true):d=d'/\∀x,d'=some x->x<n:=by
 unfold acw at h;split at h
 ·exact⟨rfl,λx hx=>by cases hx⟩
 ·simp only[ah,aY,aC]at h;obtain⟨rfl,h2⟩:=h;exact⟨rfl,λx hx=>by cases hx;exact h2⟩
 ·cases h
theorem aaB (h:GX E I ρ n st a w){ops:Array Oper}{o:Oper}{g:Option (Nat×Bool)}(hc:MP n ops o.guard g=true)(hv:EJ st.tm g) :
 BL o (yielded ops a.tmps)=uV st.tm g:=by
 unfold MP at hc;split at hc
 ·rename_i e;simp[BL,e,uV]
 ·rename_i j wnt s arH e;simp only[ah,aY,aC]at hc;obtain⟨⟨rfl,hs⟩,hj⟩:=hc;have hb:(ops[j]?).bind (·.dst)=some s:=by
   cases hoj:ops[j]? with
   |none=>rw[hoj]at hj;cases hj
   |some o'=>rw[hoj]at hj;simpa using hj
  have ht:=h.tm s hs;have hsz:s<a.tmps.size:=by rw[h.size];exact hs
  have hget:a.tmps[s]? = some (a.tmps.getD s undef):=by simp[Array.getD,hsz]
  simp only[BL,e,uV,yielded,hb,Option.bind_some,hget];simp only[EJ]at hv;split at hv
  ·rename_i x hg;rw[hg]at ht;have:=ht.2 rfl;rw[this,hg];simp[undef]
  ·rename_i b hg;rw[hg]at ht;have:=KY (ht.1 rfl);rw[this,hg];simp
  ·exact hv.elim
 ·cases hc
theorem G7 {o:Oper}{x:Operand}{az:Array Operand}{ts:Array TypeId}{f:FuncId}{caps:Array Value}(ho:o.op = .call ⟨.value x,az,ts⟩)(hx:a.eval x = .func (.func f) #[] caps)(hf:zK P f=true) :
 (execOp a.eval o).run P w = .ok (.enter f (az.map a.eval++caps)) w:=by
 unfold zK at hf;cases hp:P.funcs[f]? with
 |none=>rw[hp]at hf;cases hf
 | some fn=>
   rw[hp]at hf;simp only[ah,kW]at hf;obtain⟨h1,h2⟩:=hf;have h1':¬fn.name = "runtime.NumGoroutine" :=by simpa using h1
   obtain⟨b,hb⟩:=qx.1 h2;simp[execOp,ho,resolve,hx,Go.Deferred.ofValue,invoke,callFunc,hp,h1',hb]
theorem LC {o:Oper}{f:FuncId}{args:Array Value}{K:Act->World->Prop}{Q:Exit->Act->World->Prop}(he:(execOp a.eval o).run P w = .ok (.enter f args) w)
 (h:Calls P f args w λe w'=>∃v,e = .returned v/\K (a.put o.dst v) w'):o.wp P a w K Q:=by
 unfold xe;rw[he,Oper.upon_enter];refine h.mono ?_;rintro e w' ⟨v,rfl,hk⟩;exact hk
theorem Ju (h:GX E I ρ n st a w)(hm:E.m<=10){f:FuncId}{vs:List Value}{xk:List AV}{d:Option Nat}{K:List Nat->List Nat->gZ->Prop}(hd:∀x,d=some x->x<n)(hv:UR I ρ vs xk)
 (hT:OE P f xk true d st K) {X:Ending->World->Prop} (hX:Ym P f vs w X):Calls P f vs.toArray w λe w'=>(∃v,e = .returned v/\AK E n (λst=>∃rd wr,K rd wr st) (a.put d v) w')/\X e w'/\w.heap.size<=w'.heap.size:=by
 cases hT with
 |lit ds r hc hds hh hr k=>exact ahC h hd hv (hc rfl) hds (hh rfl) hr ⟨_,_,k⟩ hX
 |pure ds r hp hc hds hh hr k=>exact afy h hd hv hc hds hh hr ⟨_,_,k⟩ hX
 | Uf hp az hc ds fp sg nu post hl hn hf hne hnu hra hrf ha hh k=>have hv':=Vm h (bs:=xk.flatMap AV.owns) hv hc (λb hb=>hb);have h':=h.freeze (xk.flatMap AV.owns);refine aak h' hm rfl hd hv' hl hn hf (λb hb=>⟨?_,(hnu b hb).2⟩) hra hrf ha hh (λr bs hpo=>⟨(k r bs hpo).1,_,_,(k r bs hpo).2⟩) hX;rw[Cc,(hnu b hb).1];split<;>rfl
 |gen hp ds fp sg nu post hl hn hf hne hnu hra hrf ha hh k=>exact aak h hm rfl hd hv hl hn hf hnu hra hrf ha hh (λr bs hpo=>⟨(k r bs hpo).1,_,_,(k r bs hpo).2⟩) hX
theorem Lu {f:FuncId}{xk:List AV}{d:Option Nat}{K:List Nat->List Nat->gZ->Prop}(hT:OE P f xk false d st K):∃r rd wr,K rd wr (st.BB d (.v false r)):=by
 cases hT with
 |lit ds r hc hds hh hr k=>exact⟨_,_,_,k⟩
 |pure ds r hp=>cases hp
 |gen hp=>cases hp
 |Uf hp=>cases hp
def Hq (P:Program)(ops:Array Oper)(Q:Exit->Act->World->Prop)(o:Oper)(K:Act->World->Prop)(a:Act)(w:World):Prop:=
 if BL o (yielded ops a.tmps)then o.wp P a w K Q\/(o.asks P a w/\LetsOut Q)else K (a.put o.dst undef) w
theorem AK.imp {K K':gZ->Prop}(hk:∀st,K st->K' st){a:Act}{w:World}(h:AK E n K a w):AK E n K' a w:=
 let ⟨I,ρ,st,h1,h2⟩:=h;⟨I,ρ,st,hk _ h1,h2⟩
theorem ad5 (h:GX E I ρ n st a w)(hm:E.m<=10){ops:Array Oper}{Q:Exit->Act->World->Prop}{o:Oper}{ao:lK}(hc:KU P n E.m ops o ao=true){K:List Nat->List Nat->gZ->Prop}(hT:T P ao st K) :
 Hq P ops Q o (AK E n λst=>∃rd wr,K rd wr st) a w:=by
 simp only[KU,ah]at hc;obtain⟨⟨hcg,hcd⟩,hci⟩:=hc;obtain⟨hdd,hdn⟩:=ahS hcd;obtain⟨hgv,hT⟩:=hT;have hw:=aaB h hcg hgv;have skip:∀r,(∃rd wr,K rd wr (st.BB ao.d (.v false r)))->AK E n (λst=>∃rd wr,K rd wr st) (a.put o.dst undef) w:=λr hk=>⟨I,ρ,_,hk,by rw[hdd];exact h.BB hdn ⟨(λe=>by cases e),λ_=>rfl⟩⟩;unfold Hq;rw[hw];cases hi:ao.i with
 | op op=>
   rw[hi]at hT hci;obtain⟨h1,h2⟩:=hT;cases hp:uV st.tm ao.g with
   | false=>simpa using skip _ ⟨_,_,h2 hp⟩
   | true=>
     obtain⟨hv,kF,h3⟩:=h1 hp;obtain⟨v,w',I',ρ',hr,hg,amF,heff⟩:=aa6 h hci hv kF;simp only[jY];refine .inl ?_;have key:AK E n (λst=>∃rd wr,K rd wr st) (a.put o.dst v) w':=by
      refine⟨I',ρ',_,⟨_,_,h3⟩,?_⟩;rw[hdd];cases hd:ao.d with
      |none=>exact hg
      |some d=>exact hg.put (hdn d hd) ⟨λ_=>amF (by rw[hdd,hd];simp),λe=>by cases e⟩
     unfold xe;rcases hr with hr|⟨hr,hnd⟩
     ·rw[hr];exact key
     ·rw[hr,EC];rw[hnd]at key⊢;exact key
 | call f args=>
   rw[hi]at hT hci;simp only[Vd]at hci;split at hci
   ·rename_i f' az ts ho;simp only[ah,aY]at hci;obtain⟨⟨rfl,hca⟩,hok⟩:=hci;obtain⟨h1,h2⟩:=hT;cases hp:uV st.tm ao.g with
    | false=>rw[hp]at h2;obtain⟨r,hk⟩:=Lu h2;simpa using skip r hk
    | true=>rw[hp]at h1 h2;simp only[jY];refine .inl (LC (G7 ho (x:=.func f') (caps:= #[]) rfl hok) ?_);have hvs:=QM h hca (h1 rfl);have:=(Ju h hm hdn hvs h2 .abH).mono λ_ _ h=>h.1;rw[hdd];simpa[<- Array.toList_map]using this
   ·cases hci
 | IP x args=>
   rw[hi]at hT hci;simp only[Vd]at hci;split at hci
   ·rename_i x' az ts ho;simp only[ah]at hci;obtain⟨hcx,hca⟩:=hci;obtain⟨hg0,h2⟩:=hT;cases hp:uV st.tm ao.g with
    | false=>rw[hp]at h2;obtain⟨r,hk⟩:=Lu h2;simpa using skip r hk
    |true=>
    rw[hp]at h2;obtain⟨hg1,h1⟩:=hg0 hp;split at h2
    ·rename_i hb;cases hb
    ·rename_i f caps _ hf;obtain⟨hok,h2⟩:=h2;have hx:=oK h hcx hg1;rw[hf]at hx;obtain⟨ks,hk1,hk2,hk3⟩:=hx
     ·skip
      simp only[jY];refine .inl (LC (G7 ho hk3 hok) ?_);have hvs:=QM h hca h1;have hvs':UR I ρ (az.toList.map a.eval++ks.map λk=>rY (some ⟨k,0,none⟩)) (args.map (fK st.tm)++caps.map λb=>AV.one (.ptr b 0)):=by
       refine⟨by have:=hvs.1;simp at this;simp[hk1,this],λj v z hv hz=>?_⟩;by_cases hj:j<(az.toList.map a.eval).length
       ·rw[cu hj]at hv;rw[cu (by rw[<- hvs.1];exact hj)]at hz;exact hvs.2 j v z hv hz
       ·rw[dU aI]at hv;rw[dU (by rw[<- hvs.1];omega)]at hz;rw[hvs.1]at hv;generalize j-(args.map (fK st.tm)).length=i at hv hz;rw[dG]at hv hz;cases hki:ks[i]? with
        |none=>rw[hki]at hv;cases hv
        | some k=>
          cases hci:caps[i]? with
          |none=>rw[hci]at hz;cases hz
          | some b=>rw[hki]at hv;rw[hci]at hz;simp at hv hz;subst hv;subst hz;obtain⟨cap,hr⟩:=hk2 i b k hci hki;exact⟨k,cap,hr,rfl⟩
      have:=(Ju h hm hdn hvs' h2 .abH).mono λ_ _ h=>h.1;rw[hdd];have e:(az.map a.eval++(ks.map λk=>rY (some ⟨k,0,none⟩)).toArray)=(az.toList.map a.eval++ks.map λk=>rY (some ⟨k,0,none⟩)).toArray:=(by apply zB;simp);rw[e];exact this
    ·exact h2.elim
   ·cases hci
end
end
section
def IU (d:Option Nat)(Γ : List OF):List OF:= Γ.filter λf=>match d with
 |some d=>I8 d f
 |none=>true
def NY (Γ : List OF):Operand->Option (Bool×Knd)
 |.func f=>some (false,kindOf f)
 | .tmp t=>(Γ.filterMap λf=>match f with
   |.fn y s=>if y=t then some (true,match s with|0=>Knd.rd|s+1=>Knd.ow (ahZ s))else none
   |_=>none).head?
 |_=>none
def amM (Γ : List OF)(x:Operand):Bool:=match NY Γ x with
 |some (_,.rd)=>true
 |_=>false
def Py (Γ : List OF):Op->Bool
 |.call ⟨.value x,_,_⟩=>amM Γ x
 |op=>DY op
def amn (s f n:Nat):Bool:=match s with
 |0=>kindOf f == .rd
 |s+1=>(match kindOf f with|.ow sg=>sg.ps==(ahZ s).ps++bW n .any&&sg.rs==(ahZ s).rs|_=>false)
def VS (P:Program)(lz:Bool)(Γ : List OF)(o:Oper):Option (List OF):=
 if lz||o.guard.isSome then(if Py Γ o.op then some (IU o.dst Γ)else none)else match o.op with
 | .call ⟨.value x,az,_⟩=>(match NY Γ x with
   |some (_,.rd)=>some (IU o.dst Γ)
   |some (_,.ow sg)=>if az.size==sg.ps.length then(TN Γ sg az.toList o.dst).map (XC Γ o.dst)else none
   |_=>none)
 | .makeFunc (.func f) ⟨[]⟩ caps=>(match o.dst with
   |some d=>some ((([0,1,2,3,4].filter λs=>amn s f caps.size).map (.fn d))++IU (some d) Γ)
   |none=>none)
 | .assign (.const v)=>(match o.dst with
   |some d=>some (if akZ v then .ref d ⟨0,o.type,mk d 0⟩::IU (some d) Γ else IU (some d) Γ)
   |none=>none)
 |op=>(ai3 P Γ o.dst op).map (aeJ Γ o.dst)
def TP (P:Program)(lz:Bool)(Γ : List OF)(o:Oper)(ao:lK):Option (List OF):=match ao.i,o.op with
 |.op _,.call ⟨.value _,_,_⟩=>some (IU o.dst Γ)
 |_,_=>VS P lz Γ o
def OM (P:Program)(pl:List Nat)(lz:Bool)(Γ : List OF)(o:Oper)(ao:lK):Option (List OF):=if(pl.any λi=>o.dst==some i)then none else TP P lz Γ o ao
theorem akE {s f n:Nat}(h:amn s f n=true):FV s f n:=by
 unfold amn at h;unfold FV;split at h
 ·simpa using h
 ·split at h
  ·rename_i sg hk;simp only[ah,aY]at h;exact⟨sg,hk,h.1,h.2⟩
  ·cases h
section
variable {P:Program} {E:Env P} {I:IH} {ρ:Ren} {n:Nat} {st:gZ} {a:Act} {w w':World} {Γ : List OF} {g0:Own} {dp:Nat} {lz:Bool}
def LY (E:Env P)(g0:Own)(dp:Nat)(Γ : List OF)(a:Act)(w:World):Prop:=∃g,Rel dp E.w0.heap.size g0 g/\OW P FV g dp Γ a w
theorem LY.drop (h:LY E g0 dp Γ a w)(d:Option Nat)(v:Value):LY E g0 dp (IU d Γ) (a.put d v) w:=by
 obtain⟨g,h1,h2⟩:=h;cases d with
 |none=>exact⟨g,h1,h2.weak λf hf=>(bF.1 hf).1⟩
 |some d=>exact⟨g,h1,h2.drop d v⟩
theorem LY.world (h:LY E g0 dp Γ a w)(hs:w.heap.size<=w'.heap.size)(hF:DN w w' λ_=>False):LY E g0 dp Γ a w':=by
 obtain⟨g,h1,h2⟩:=h;refine⟨g,h1,h2.world hs λk hk=>hF.block k ?_ (λh=>h)⟩;cases hg:g k with
 |none=>exact eF hg hk
 |some B=>exact h2.good.lt hg
theorem LY.weak {Dl:List OF}(h:LY E g0 dp Γ a w)(hs:∀f,f∈Dl->f ∈ Γ):LY E g0 dp Dl a w:=
 let ⟨g,h1,h2⟩:=h;⟨g,h1,h2.weak hs⟩
theorem Xr : ∀{xs:List Operand} {ps:List PK} {i n:Nat} {r:List (Nat×Nat)×List (Nat×Nat)},Hw Γ i xs ps=some r->xs.length=ps.length->Hw Γ i xs (ps++bW n .any)=some r
 |[],[],i,n,r,h,_=>by simpa[Hw]using h
 | x::xs,p::ps,i,n,r,h,hl=>by
   simp only[Hw,zI]at h⊢;split at h
   ·rename_i l o l' o' h1 h2;rw[h1,Xr h2 (by simpa using hl)];exact h
   ·cases h
 |_::_,[],i,n,r,_,hl=>by simp at hl
 |[],_::_,i,n,r,_,hl=>by simp at hl
theorem afs : ∀{xs:List Operand} {ps:List PK} {i:Nat} {mv vars:List (Nat×Nat)},Hw Γ i xs ps=some (mv,vars)->∀j b,(j,b)∈vars->j-i<ps.length:=by intro xs ps i mv vars h j b hb;obtain⟨rs,x,s,h1,_⟩:=O6 h j b hb;exact(aS.1 h1).1
theorem agq {sg:ZN}{xs:List Operand}{d:Option Nat}{C:CR}{m:Nat}(h:TN Γ sg xs d=some C)(hl:xs.length=sg.ps.length):TN Γ ⟨sg.ps++bW m .any,sg.rs⟩ xs d=some C:=by
 unfold TN at h⊢;split at h
 ·rename_i mv vars ha;rw[Xr ha hl]
  dsimp only
  split at h
  ·cases h
  ·rename_i hn;rw[au hn];split at h
   ·exact h
   ·rename_i i b;have hi:i<sg.ps.length:=(by have:=afs ha i b (bD ..);omega);have:WJ (sg.ps++bW m .any) i=WJ sg.ps i:=by
     unfold WJ;rw[cu hi]
    simp only[this];exact h
   ·cases h
 ·cases h
theorem am1 (h:GX E I ρ n st a w)(MB:LY E g0 dp Γ a w){o:Oper}{Dl:List OF}{v:Value}(hg:o.guard=none\/Py Γ o.op=true)(ho:VS P lz Γ o=some Dl)(hd:∀d,o.dst=some d->d<n)(hnc:∀c,o.op = .call c->∀x,c.callee ≠ .value x)
 (hr:(execOp a.eval o).run P w = .ok (.value v) w'\/(execOp a.eval o).run P w = .ok .skip w'/\o.dst=none) (he:Eff o a w w'):LY E g0 dp Dl (a.put o.dst v) w':=by
 unfold VS at ho;split at ho
 ·rename_i hgs;split at ho
  ·rename_i hq;cases ho;have hq':DY o.op=true:=by
    unfold Py at hq;split at hq
    ·rename_i x az ts hop;exact eF rfl (hnc _ hop x)
    ·exact hq
   have hw:=he.quiet hq';subst hw;exact MB.drop _ _
  ·cases ho
 ·obtain⟨g,h1,h2⟩:=MB;split at ho
  ·rename_i x az ts hop;exact eF rfl (hnc _ hop x)
  ·rename_i f caps hop;split at ho
   ·rename_i d hdst;cases ho;have hq':DY o.op=true:=(by rw[hop];rfl);have hw:=he.quiet hq';subst hw;rw[hdst]at hr⊢;rcases hr with hr|hr
    ·refine⟨g,h1,h2.good,λf' hf=>?_⟩;rw[bG]at hf;rcases hf with hf|hf
     ·rw[bu]at hf;obtain⟨s,hs,rfl⟩:=hf;have hs:=(bF.1 hs).2;simp only[execOp,hop,Instr.makeFunc,dN,dw,bQ]at hr;have hv:v = .func (.func f) #[] (caps.map a.eval):=by
       have:=hr;simp at this;exact this.symm
      refine⟨f,caps.map a.eval,?_,by simpa using akE hs⟩;rw[iq (by rw[h.size];exact hd d hdst),hv]
     ·rw[IU,bF]at hf;exact(h2.fs f' hf.1).put' hf.2
    ·cases hr.2
   ·cases ho
  ·rename_i cv hop;split at ho
   ·rename_i d hdst;have hq':DY o.op=true:=(by rw[hop];rfl);have hw:=he.quiet hq';subst hw;rw[hdst]at hr⊢;rcases hr with hr|hr
    ·simp only[execOp,hop,dw]at hr;have hv:v=cv:=by
      have:=hr;simp[Act.eval]at this;exact this.symm
     cases ho;refine⟨g,h1,h2.good,λf' hf=>?_⟩;have hdrop:f'∈IU (some d) Γ -> FD P FV g dp (a.put (some d) v) _ f':=λhf=>by rw[IU,bF]at hf;exact(h2.fs f' hf.1).put' hf.2
     split at hf
     ·rename_i hnil;rcases aK.1 hf with rfl|hf
      ·refine⟨cv,?_,.inl (UF hnil)⟩;rw[iq (by rw[h.size];exact hd d hdst),hv];have e:=UF hnil;rw[Y9]at e;rw[e];rfl
      ·exact hdrop hf
     ·exact hdrop hf
    ·cases hr.2
   ·cases ho
  ·simp only[dD]at ho;obtain⟨R,hR,rfl⟩:=ho;obtain⟨g',h3,h4⟩:=aa8 h2 h.DK.size (λd e=>by rw[h.size];exact hd d e) hR hr he;exact⟨g',h1.trans h3,h4⟩
end
end
section
section
variable {ev ev':pR->AV} {bx bx':Nat->Box}
theorem Iw {o:Option pR}{k:Nat}(h:∀x,o=some x->ev x=ev' x):bnd ev o k=bnd ev' o k:=by
 cases o with
 |none=>rfl
 |some x=>simp only[bnd,h x rfl]
theorem IQ {n sz:Nat} : ∀{ps:List (Nat×pR)},(∀p,p∈ps->ev p.2=ev' p.2)->Bi ev bx n sz ps=Bi ev' bx n sz ps/\xh ev ps=xh ev' ps/\CU ev bx ps=CU ev' bx ps
 |[],_=>⟨rfl,rfl,rfl⟩
 | (i,x)::r,h=>by obtain⟨h1,h2,h3⟩:=IQ (n:=n) (sz:=sz) (ps:=r) (λp hp=>h p (fJ _ hp));simp only[Bi,xh,CU,h (i,x) (bD ..),h1,h2,h3,and_self]
theorem apv (op:nR)(he:∀x,x∈op.qi->ev x=ev' x):op.f ev bx=op.f ev' bx:=by
 cases op
 case build zs ps=>
  have h1:∀p,p∈ps->ev p.2.2=ev' p.2.2:=λp hp=>he _ (D7 hp);simp only[nR.f]
  congr 1
  ·apply propext;constructor
   ·intro h p hp;rw[<- h1 p hp];exact h p hp
   ·intro h p hp;rw[h1 p hp];exact h p hp
  ·congr 2
   exact rJ λp hp=>by rw[h1 p hp]
 case uB l sz n zs ps=>have h1:∀p,p∈ps->ev p.2=ev' p.2:=λp hp=>he _ (D7 hp);obtain⟨c1,c2,c3⟩:=IQ (bx:=bx) (n:=n) (sz:=sz) h1;simp only[nR.f,c1,c2,c3]
 case Y6 f cs=>have h1:cs.map ev=cs.map ev':=rJ λx hx=>he x hx;simp only[nR.f,h1]
 case Wn x lo hi=>have h1:=he x (by simp[nR.qi]);have h2:∀y,lo=some y->ev y=ev' y:=λy hy=>he y (by simp[nR.qi,hy]);have h3:∀y,hi=some y->ev y=ev' y:=λy hy=>he y (by simp[nR.qi,hy]);simp only[nR.f,h1,Iw h2,Iw h3]
 case Iu sz x lo hi=>have h1:=he x (by simp[nR.qi]);have h2:∀y,lo=some y->ev y=ev' y:=λy hy=>he y (by simp[nR.qi,hy]);have h3:∀y,hi=some y->ev y=ev' y:=λy hy=>he y (by simp[nR.qi,hy]);simp only[nR.f,h1,Iw h2,Iw h3]
 case Ba sz x lo hi=>have h1:=he x (by simp[nR.qi]);have h2:∀y,lo=some y->ev y=ev' y:=λy hy=>he y (by simp[nR.qi,hy]);have h3:∀y,hi=some y->ev y=ev' y:=λy hy=>he y (by simp[nR.qi,hy]);have h4:bnd ev hi=bnd ev' hi:=funext λk=>Iw h3;simp only[nR.f,h1,Iw h2,h4]
 all_goals
  simp only[nR.qi,aK,iW,or_false,forall_eq_or_imp,forall_eq]at he;simp only[nR.f,he]
theorem aoN (op:nR)(he:∀x,x∈op.qi->ev x=ev' x):op.rd ev=op.rd ev':=by
 cases op
 case build zs ps=>rfl
 case uB l sz n zs ps=>have h1:∀p,p∈ps->ev p.2=ev' p.2:=λp hp=>he _ (D7 hp);simp only[nR.rd,(IQ (bx:=λ_=>.absent) (n:=n) (sz:=sz) h1).2.1]
 case Y6 f cs=>rfl
 case Wn x lo hi=>rfl
 case Iu sz x lo hi=>rfl
 case Ba sz x lo hi=>rfl
 all_goals
  simp only[nR.qi,aK,iW,or_false,forall_eq_or_imp,forall_eq]at he;simp only[nR.rd,he]
theorem NK {sz:Nat}{x:AV}(h:∀b,b∈lvl x->bx b=bx' b):zy sz x bx=zy sz x bx':=by
 cases x with
 | one x=>
   cases x
   case own b n sz'=>simp only[zy,h b (by simp[lvl])]
   case sub b lo n c sz'=>simp only[zy,h b (by simp[lvl])]
   case c y=>cases y<;>rfl
   all_goals rfl
 |_=>rfl
theorem aiE {agg:Bool}{k:Nat}{x:AV}(h:∀b,b∈lvl x->bx b=bx' b):BC agg k x bx=BC agg k x bx':=by
 cases x with
 | one x=>
   cases x
   case ptr b off=>simp only[BC,h b (by simp[lvl])]
   case BF b i sz off=>simp only[BC,h b (by simp[lvl])]
   all_goals rfl
 |_=>rfl
theorem afH {x:AC}(h:∀b,b∈qH [x]->bx b=bx' b):dataOf bx x=dataOf bx' x:=by
 cases x
 case own b n sz=>simp only[dataOf,h b (by simp[qH])]
 all_goals rfl
theorem X0 {x:AC}{r:List AC}{b:Nat} : b∈qH (x::r)<->b∈qH [x]\/b∈qH r:=by cases x<;>simp[qH]
theorem Vo : ∀{xs:List AC},(∀b,b∈qH xs->bx b=bx' b)->LV bx xs=LV bx' xs/\BA bx xs=BA bx' xs/\YR bx (qH xs)=YR bx' (qH xs)
 |[],_=>⟨rfl,rfl,rfl⟩
 | x::r,h=>by
   obtain⟨h1,h2,h3⟩:=Vo (xs:=r) (λb hb=>h b (X0.2 (.inr hb)));refine⟨?_,?_,rJ λb hb=>by rw[h b hb]⟩
   ·simp only[LV,h1,afH (x:=x) (λb hb=>h b (X0.2 (.inl hb)))]
   ·cases x
    case own b n sz=>simp only[BA,h2,h b (by simp[qH])]
    all_goals exact h2
theorem agN {agg:Bool}{k:Nat}{p x:AV}(h:∀b,b∈lvl p++(match p with|.one (.BF _ _ _ _)=>qH x.cells|_=>[])->bx b=bx' b):Bc agg k p x bx=Bc agg k p x bx':=by
 cases p with
 | one p=>
   cases p
   case ptr b off=>simp only[Bc,h b (by simp[lvl])]
   case BF b i sz off=>obtain⟨h1,h2,h3⟩:=Vo (bx:=bx) (bx':=bx') (xs:=x.cells) (λc hc=>h c (by simp only[lvl,bG];exact .inr hc));have h4:=h b (by simp[lvl]);cases x<;>cases agg<;>first|rfl|(simp only[Bc,h4,h1,h2,h3])
   all_goals rfl
 |_=>rfl
theorem TC {n sz:Nat} : ∀{ps:List (Nat×pR)},(∀b,b∈xh ev ps->bx b=bx' b)->Bi ev bx n sz ps=Bi ev bx' n sz ps/\CU ev bx ps=CU ev bx' ps
 |[],_=>⟨rfl,rfl⟩
 | (i,x)::r,h=>by obtain⟨h1,h2⟩:=TC (n:=n) (sz:=sz) (ps:=r) (λb hb=>h b (by simp only[xh,bG];exact .inr hb));obtain⟨g1,g2,g3⟩:=Vo (bx:=bx) (bx':=bx') (xs:=(ev x).cells) (λb hb=>h b (by simp only[xh,bG];exact .inl hb));simp only[Bi,CU,h1,h2,g1,g2,and_self]
theorem apu (op:nR)(hb:∀b,b∈op.rd ev->bx b=bx' b):op.f ev bx=op.f ev bx':=by
 cases op
 case load agg k p=>exact aiE hb
 case store agg k p x=>exact agN hb
 case alloc l zs=>simp only[nR.f,hb l (by simp[nR.rd])]
 case O3 T e l r=>simp only[nR.f,hb l (by simp[nR.rd]),hb r (by simp[nR.rd])]
 case O1 l sz n zs=>simp only[nR.f,hb l (by simp[nR.rd])]
 case box l x=>simp only[nR.f,hb l (by simp[nR.rd])]
 case uB l sz n zs ps=>
  obtain⟨h1,h2⟩:=TC (bx:=bx) (bx':=bx') (n:=n) (sz:=sz) (ps:=ps) (λb hm=>hb b (by simp only[nR.rd];exact fJ _ hm));have h3:YR bx (xh ev ps)=YR bx' (xh ev ps):=rJ λb hm=>by rw[hb b (by simp only[nR.rd];exact fJ _ hm)]
  simp only[nR.f,hb l (by simp[nR.rd]),h1,h2,h3]
 case makes l sz bytes zs n m=>simp only[nR.f,hb l (by simp[nR.rd])]
 case Vl x=>simp only[nR.f,NK hb]
 case Wl sz n x=>
  simp only[nR.f];cases hx:ev x with
  | one y=>
    cases y
    case BF b i sz off=>have:=hb b (by simp[nR.rd,lvl,hx]);cases i<;>cases off<;>simp only[this]
    all_goals rfl
  |_=>rfl
 case append l sz bytes s x=>
  have h1:=hb l (by simp[nR.rd]);simp only[nR.f,NK (x:=ev x) (λb hb'=>hb b (by simp[nR.rd,hb'])),h1];cases hs:ev s with
  | one y=>
    cases y
    case own b n sz'=>simp only[hb b (by simp[nR.rd,lvl,hs])]
    all_goals rfl
  |_=>rfl
 case copy sz d x=>
  simp only[nR.f,NK (x:=ev x) (λb hb'=>hb b (by simp[nR.rd,hb']))];cases hs:ev d with
  | one y=>
    cases y
    case own b n sz'=>simp only[hb b (by simp[nR.rd,lvl,hs])]
    all_goals rfl
  |_=>rfl
 case abv l sz bytes s x=>
  have h1:=hb l (by simp[nR.rd]);simp only[nR.f,H6,NK (x:=ev x) (λb hb'=>hb b (by simp[nR.rd,hb'])),h1];generalize zy sz (ev x) bx'=so;cases hs:ev s with
  | one y=>
    cases y
    case sub b lo n c sz'=>have h2:=hb b (by simp[nR.rd,lvl,hs]);cases c<;>rcases so with _|⟨p,ys⟩<;>first|rfl|(simp only[h2])
    all_goals(rcases so with _|⟨p,ys⟩<;>rfl)
  |_=>rcases so with _|⟨p,ys⟩<;>rfl
 case ace l sz bytes zs s x=>
  have h1:=hb l (by simp[nR.rd]);simp only[nR.f,Hu,h1];generalize ev x=y';have hb2:∀b,b∈lvl (ev s)->bx b=bx' b:=λb hb'=>hb b (by simp[nR.rd,hb']);rcases y' with x|x|x
  ·rcases x with c|_|_|_|_|_|_|_|_
   ·rcases c with v|_|_
    ·cases v
     case int k q=>
      cases hs:ev s with
      | one y=>
        cases y
        case sub b lo n c sz'=>have h2:=hb2 b (by simp[lvl,hs]);cases c<;>simp[h2]
        all_goals rfl
      |_=>rfl
     all_goals(generalize ev s=z;rcases z with(_|_|_|_|⟨b,lo,n,_|c,sz'⟩|_|_|_|_)|_|_<;>rfl)
    all_goals(generalize ev s=z;rcases z with(_|_|_|_|⟨b,lo,n,_|c,sz'⟩|_|_|_|_)|_|_<;>rfl)
   all_goals(generalize ev s=z;rcases z with(_|_|_|_|⟨b,lo,n,_|c,sz'⟩|_|_|_|_)|_|_<;>rfl)
  all_goals(generalize ev s=z;rcases z with(_|_|_|_|⟨b,lo,n,_|c,sz'⟩|_|_|_|_)|_|_<;>rfl)
 case Wh sz d x=>
  have ht:∀m,lvl (truncS m (ev x))=lvl (ev x):=λm=>by rcases ev x with(_|_|_|_|_|_|_|_|_)|_|_<;>rfl
  have hsrc:∀m,zy sz (truncS m (ev x)) bx=zy sz (truncS m (ev x)) bx':=λm=>NK (λb hb'=>hb b (by rw[ht]at hb';simp[nR.rd,hb']));simp only[nR.f,H8,hsrc];cases hs:ev d with
  | one y=>
    cases y
    case own b n sz'=>have h2:=hb b (by simp[nR.rd,lvl,hs]);simp only[FN];rcases zy sz (truncS n (ev x)) bx' with _|⟨p,ys⟩<;>first|rfl|(simp only[h2])
    case sub b lo n c sz'=>have h2:=hb b (by simp[nR.rd,lvl,hs]);simp only[FN];rcases zy sz (truncS n (ev x)) bx' with _|⟨p,ys⟩<;>first|rfl|(simp only[h2])
    all_goals rfl
  |_=>rfl
 case ovl x y=>
  have key:∀(u:AV),(∀b,b∈lvl u->bx b=bx' b)->∀b lo n c sz,FN u=some (b,lo,n,c,sz)->bx b=bx' b:=by
   intro u hu b lo n c sz hs;unfold FN at hs;split at hs
   ·cases hs;exact hu _ (by simp[lvl])
   ·cases hs;exact hu _ (by simp[lvl])
   ·cases hs
  have k1:=key (ev x) (λb hb'=>hb b (by simp[nR.rd,hb']));have k2:=key (ev y) (λb hb'=>hb b (by simp[nR.rd,hb']));simp only[nR.f,Zc];generalize FN (ev x)=u at k1;generalize FN (ev y)=v at k2;rcases u with _|⟨b,lo,n,c,sz⟩<;>rcases v with _|⟨b',lo',n',c',sz'⟩<;>try rfl
  simp only[k1 b lo n c sz rfl,k2 b' lo' n' c' sz' rfl]
 case adF sz zs x=>
  simp only[nR.f,H7];cases hs:ev x with
  | one y=>
    cases y
    case own b n sz'=>simp only[FN,hb b (by simp[nR.rd,lvl,hs])]
    case sub b lo n c sz'=>simp only[FN,hb b (by simp[nR.rd,lvl,hs])]
    all_goals rfl
  |_=>rfl
 all_goals rfl
theorem ajG {e e':pR->Slot}(op:nR)(he:∀x,x∈op.qi->e x=e' x)(h:op.valid e):op.valid e':=by
 cases op
 case pick c a b=>have h1:=he c (by simp[nR.qi]);have h2:=he a (by simp[nR.qi]);have h3:=he b (by simp[nR.qi]);simp only[nR.valid,h1,h2,h3]at h⊢;exact h
 all_goals exact λx hx=>he x hx▸h x hx
theorem alJ {x y:AC}(h:Cv bx x y)(hb:∀b,b∈qH [x]->bx b=bx' b):Cv bx' x y:=by
 cases h with
 |refl=>exact .refl _
 |og sz=>exact .og sz
 |own b n sz es ha hn=>exact .own b n sz es (by rw[<- hb b (by simp[qH])];exact ha) hn
theorem amk {xs ys:List AC}(h:CvL bx xs ys)(hb:∀b,b∈qH xs->bx b=bx' b):CvL bx' xs ys:=by
 induction h with
 |nil=>exact .nil
 |cons h t ih=>exact .cons (alJ h λb hb'=>hb b (Fg.2 (.inl hb'))) (ih λb hb'=>hb b (Fg.2 (.inr hb')))
theorem ami {x y:AV}(h:CvA bx x y)(hb:∀b,b∈x.owns->bx b=bx' b):CvA bx' x y:=by
 cases h with
 |one h=>exact .one (alJ h hb)
 |agg h=>exact .agg (amk h hb)
theorem YJ {xs ys:List AV}(h:OU bx xs ys)(hb:∀b,b∈xs.flatMap AV.owns->bx b=bx' b):OU bx' xs ys:=by
 induction h with
 |nil=>exact .nil
 |cons h t ih=>exact .cons (ami h λb hb'=>hb b (by rw[kE];exact dZ _ hb')) (ih λb hb'=>hb b (by rw[kE];exact fQ _ hb'))
end
structure UQ where
 rd:List Nat
 wr:List Nat
 outs:Slot->List (Nat×Box)->Prop
inductive IL (P:Program)(f:FuncId)(xk:List AV)(p:Bool)(bx:Nat->Box):UQ->Prop
 |lit (ds:List AV) (r:AV) (hc:p=true->OU bx xk ds) (hd:ds.all (·.all AC.zh)=true) (h:p=true->fE P f ds r) (hr:r.all AC.isLit=true) :
  IL P f xk p bx ⟨xk.flatMap AV.owns,[],λs bs=>s = .v p r/\bs=[]⟩
 |pure (ds:List AV) (r:AV) (hp:p=true) (hc:OU bx xk ds) (hd:ds.all (·.all AC.zh)=true) (h:fE P f ds r) (hr:r.all AC.zh=true) :
  IL P f xk p bx ⟨xk.flatMap AV.owns,xk.flatMap AV.owns,λs bs=>s = .v true r/\bs=(xk.flatMap AV.owns).map λb=>(b,JF (bx b))⟩
 |gen (hp:p=true) (ds:List AV) (fp:List Box) (sg nu:List Nat) (post:AV->List Box->Prop)
  (hl:sg.length=fp.length) (hn:(sg++nu).Nodup) (hf:∀i,i<fp.length->bx ((sg++nu).getD i 0)=EY (λb=>(sg++nu).getD b 0) (fp.getD i .absent))
  (hne:∃r bs,post r bs) (hv:∀b,b∈nu->bx b = .absent/\10<=b) (hra:(ds.all λx=>x.all (AC.xK fp.length))=true) (hrf:fp.all (Box.xK fp.length)=true) (ha:xk=ds.map (Fz λb=>(sg++nu).getD b 0)) (h:pM P f ds fp post)
  (hlen:∀r bs,post r bs->bs.length=(sg++nu).length) :
  IL P f xk p bx ⟨sg++nu,sg++nu,λs bs=>∃r bs',post r bs'/\s = .v true (Fz (λb=>(sg++nu).getD b 0) r)/\bs=(sg++nu).zip (bs'.map (EY λb=>(sg++nu).getD b 0))⟩
 |Uf (hp:p=true) (az:List AV) (hc:OU bx xk az) (ds:List AV) (fp:List Box) (sg nu:List Nat) (post:AV->List Box->Prop)
     (hl:sg.length=fp.length) (hn:(sg++nu).Nodup) (hf:∀i,i<fp.length->(if(sg++nu).getD i 0∈xk.flatMap AV.owns then JF (bx ((sg++nu).getD i 0))else bx ((sg++nu).getD i 0))=EY (λb=>(sg++nu).getD b 0) (fp.getD i .absent))
     (hne:∃r bs,post r bs) (hv:∀b,b∈nu->bx b = .absent/\10<=b) (hra:(ds.all λx=>x.all (AC.xK fp.length))=true) (hrf:fp.all (Box.xK fp.length)=true) (ha:az=ds.map (Fz λb=>(sg++nu).getD b 0)) (h:pM P f ds fp post)
     (hlen:∀r bs,post r bs->bs.length=(sg++nu).length) :
     IL P f xk p bx ⟨xk.flatMap AV.owns++(sg++nu),xk.flatMap AV.owns++(sg++nu),λs bs=>∃r bs',post r bs'/\s = .v true (Fz (λb=>(sg++nu).getD b 0) r) /\
      bs=((xk.flatMap AV.owns).map λb=>(b,JF (bx b)))++(sg++nu).zip (bs'.map (EY λb=>(sg++nu).getD b 0))⟩
def Rh (P:Program)(o:lK)(st:gZ)(D:UQ):Prop:=
 EJ st.tm o.g/\match o.i with
  |.op op=>(uV st.tm o.g=true->op.valid (pR.ev st.tm)/\(op.f (fK st.tm) st.bx).vc /\
   D=⟨op.rd (fK st.tm),(op.f (fK st.tm) st.bx).sets.map (·.1),λs bs=>s = .v true (op.f (fK st.tm) st.bx).v/\bs=(op.f (fK st.tm) st.bx).sets⟩) /\
   (uV st.tm o.g=false->D=⟨[],[],λs bs=>s = .v false (.one .Nk)/\bs=[]⟩)
  |.call f args=>(uV st.tm o.g=true->∀x,x∈args->(x.ev st.tm).g=true)/\IL P f (args.map (fK st.tm)) (uV st.tm o.g) st.bx D
  | .IP x args=>(uV st.tm o.g=true->(x.ev st.tm).g=true/\∀x,x∈args->(x.ev st.tm).g=true)/\match uV st.tm o.g,fK st.tm x with
    |false,_=>IL P 0 [] false st.bx D
    |true,.one (.fn f caps)=>zK P f=true/\IL P f (args.map (fK st.tm)++caps.map λb=>.one (.ptr b 0)) true st.bx D
    |true,_=>False
section
variable {P:Program} {st st':gZ} {K:List Nat->List Nat->gZ->Prop}
theorem Ti {f:FuncId}{xk:List AV}{p:Bool}{d:Option Nat} : OE P f xk p d st K<->∃D,IL P f xk p st.bx D/\∀s bs,D.outs s bs->K D.rd D.wr ((st.vJ bs).BB d s):=by
 constructor
 ·intro h;cases h with
  |lit ds r hc hd hh hr k=>exact⟨_,.lit ds r hc hd hh hr,λs bs ⟨h1,h2⟩=>by subst h1;subst h2;exact k⟩
  |pure ds r hp hc hd hh hr k=>exact⟨_,.pure ds r hp hc hd hh hr,λs bs ⟨h1,h2⟩=>by subst h1;subst h2;rw[FY];exact k⟩
  | Uf hp az hc ds fp sg nu post hl hn hf hne hv hra hrf ha hh k=>exact⟨_,.Uf hp az hc ds fp sg nu post hl hn hf hne hv hra hrf ha hh (λr bs hp=>(k r bs hp).1),λs bs ⟨r,bs',hp,h1,h2⟩=>by subst h1;subst h2;rw[Lt,FY];exact(k r bs' hp).2⟩
  | gen hp ds fp sg nu post hl hn hf hne hv hra hrf ha hh k=>exact⟨_,.gen hp ds fp sg nu post hl hn hf hne hv hra hrf ha hh (λr bs hp=>(k r bs hp).1),λs bs ⟨r,bs',hp,h1,h2⟩=>by subst h1;subst h2;exact(k r bs' hp).2⟩
 ·rintro⟨D,hD,hk⟩;cases hD with
  |lit ds r hc hd hh hr=>exact .lit ds r hc hd hh hr (hk _ _ ⟨rfl,rfl⟩)
  |pure ds r hp hc hd hh hr=>exact .pure ds r hp hc hd hh hr (by have:=hk _ _ ⟨rfl,rfl⟩;rw[FY]at this;exact this)
  | Uf hp az hc ds fp sg nu post hl hn hf hne hv hra hrf ha hh hlen=>exact .Uf hp az hc ds fp sg nu post hl hn hf hne hv hra hrf ha hh (λr bs hp=>⟨hlen r bs hp,by have:=hk _ _ ⟨r,bs,hp,rfl,rfl⟩;rw[Lt,FY]at this;exact this⟩)
  | gen hp ds fp sg nu post hl hn hf hne hv hra hrf ha hh hlen=>exact .gen hp ds fp sg nu post hl hn hf hne hv hra hrf ha hh (λr bs hp=>⟨hlen r bs hp,hk _ _ ⟨r,bs,hp,rfl,rfl⟩⟩)
theorem LM {o:lK} : T P o st K<->∃D,Rh P o st D/\∀s bs,D.outs s bs->K D.rd D.wr ((st.vJ bs).BB o.d s):=by
 unfold T Rh;cases o.i with
 | op op=>
   unfold TOp;cases hp:uV st.tm o.g with
   | true=>
     constructor
     ·rintro⟨hg,h1,_⟩;obtain⟨a1,a2,a3⟩:=h1 rfl;exact⟨_,⟨hg,λ_=>⟨a1,a2,rfl⟩,λe=>by cases e⟩,λs bs ⟨e1,e2⟩=>by subst e1;subst e2;exact a3⟩
     ·rintro⟨D,⟨hg,h1,_⟩,hk⟩;obtain⟨a1,a2,rfl⟩:=h1 rfl;exact⟨hg,λ_=>⟨a1,a2,hk _ _ ⟨rfl,rfl⟩⟩,λe=>by cases e⟩
   | false=>
     constructor
     ·rintro⟨hg,_,h2⟩;exact⟨_,⟨hg,(λe=>by cases e),λ_=>rfl⟩,λs bs ⟨e1,e2⟩=>by subst e1;subst e2;exact h2 rfl⟩
     ·rintro⟨D,⟨hg,_,h2⟩,hk⟩;have:=h2 rfl;subst this;exact⟨hg,(λe=>by cases e),λ_=>hk _ _ ⟨rfl,rfl⟩⟩
 | call f args=>
   simp only[xI,Ti];constructor
   ·rintro⟨hg,h1,D,h2,h3⟩;exact⟨D,⟨hg,h1,h2⟩,h3⟩
   ·rintro⟨D,⟨hg,h1,h2⟩,h3⟩;exact⟨hg,h1,D,h2,h3⟩
 | IP x args=>
   simp only;cases uV st.tm o.g with
   | false=>
     simp only[xI,Ti];constructor
     ·rintro⟨hg,h1,D,h2,h3⟩;exact⟨D,⟨hg,h1,h2⟩,h3⟩
     ·rintro⟨D,⟨hg,h1,h2⟩,h3⟩;exact⟨hg,h1,D,h2,h3⟩
   |true=>
   cases fK st.tm x with
   | one y=>
     cases y
     case fn f caps=>
      simp only[xI,Ti];constructor
      ·rintro⟨hg,h1,h0,D,h2,h3⟩;exact⟨D,⟨hg,h1,h0,h2⟩,h3⟩
      ·rintro⟨D,⟨hg,h1,h0,h2⟩,h3⟩;exact⟨hg,h1,h0,D,h2,h3⟩
     all_goals exact⟨λh=>h.2.2.elim,λ⟨D,h,_⟩=>h.2.2.elim⟩
   |_=>exact⟨λh=>h.2.2.elim,λ⟨D,h,_⟩=>h.2.2.elim⟩
theorem IL.bx {f:FuncId}{xk:List AV}{p:Bool}{bx bx':Nat->Box}{D:UQ}(h:IL P f xk p bx D)(hb:∀b,b∈D.rd->bx b=bx' b):IL P f xk p bx' D:=by
 cases h with
 |lit ds r hc hd hh hr=>exact .lit ds r (λe=>YJ (hc e) hb) hd hh hr
 | pure ds r hp hc hd hh hr=>have e:((xk.flatMap AV.owns).map λb=>(b,JF (bx b)))=(xk.flatMap AV.owns).map λb=>(b,JF (bx' b)):=rJ λb hb'=>(by rw[hb b hb']);simp only[e];exact .pure ds r hp (YJ hc hb) hd hh hr
 | Uf hp az hc ds fp sg nu post hl hn hf hne hv hra hrf ha hh hlen=>
   have e:((xk.flatMap AV.owns).map λb=>(b,JF (bx b)))=(xk.flatMap AV.owns).map λb=>(b,JF (bx' b)):=rJ λb hb'=>(by rw[hb b (dZ _ hb')]);simp only[e];refine .Uf hp az (YJ hc λb hm=>hb b (dZ _ hm)) ds fp sg nu post hl hn (λi hi=>?_) hne (λb hm=>?_) hra hrf ha hh hlen
   ·rw[<- hb]
    ·exact hf i hi
    ·show(sg++nu).getD i 0∈xk.flatMap AV.owns++(sg++nu);have:i<(sg++nu).length:=(by simp;omega);rw[cZ,aB this];exact fQ _ (dX this)
   ·rw[<- hb b (fQ _ (fQ _ hm))];exact hv b hm
 | gen hp ds fp sg nu post hl hn hf hne hv hra hrf ha hh hlen=>
   refine .gen hp ds fp sg nu post hl hn (λi hi=>?_) hne (λb hm=>?_) hra hrf ha hh hlen
   ·rw[<- hb]
    ·exact hf i hi
    ·show(sg++nu).getD i 0∈sg++nu;have:i<(sg++nu).length:=(by simp;omega);rw[cZ,aB this];exact dX this
   ·rw[<- hb b (fQ _ hm)];exact hv b hm
theorem IL.ne {f:FuncId}{xk:List AV}{p:Bool}{bx:Nat->Box}{D:UQ}(h:IL P f xk p bx D):∃s bs,D.outs s bs:=by
 cases h with
 |lit=>exact⟨_,_,rfl,rfl⟩
 |pure=>exact⟨_,_,rfl,rfl⟩
 |gen hp ds fp sg nu post hl hn hf hne=>obtain⟨r,bs,h⟩:=hne;exact⟨_,_,r,bs,h,rfl,rfl⟩
 |Uf hp az hc ds fp sg nu post hl hn hf hne=>obtain⟨r,bs,h⟩:=hne;exact⟨_,_,r,bs,h,rfl,rfl⟩
theorem IL.fst {f:FuncId}{xk:List AV}{p:Bool}{bx:Nat->Box}{D:UQ}(h:IL P f xk p bx D){s:Slot}{bs:List (Nat×Box)}(ho:D.outs s bs):∀b,b∈bs.map (·.1)->b∈D.wr:=by
 cases h with
 |lit=>obtain⟨_,rfl⟩:=ho;intro b hb;simp at hb
 |pure=>obtain⟨_,rfl⟩:=ho;intro b hb;simpa using hb
 | Uf hp az hc ds fp sg nu post hl hn hf hne=>
   obtain⟨r,bs',_,_,rfl⟩:=ho;intro b hb;rw[vk,bG]at hb;rcases hb with hb|hb
   ·exact dZ _ (by simpa using hb)
   ·obtain⟨x,hx,rfl⟩:=bu.1 hb;exact fQ _ (List.of_mem_zip (a:=x.1) (b:=x.2) hx).1
 | gen hp ds fp sg nu post hl hn hf hne=>obtain⟨r,bs',_,_,rfl⟩:=ho;intro b hb;obtain⟨x,hx,rfl⟩:=bu.1 hb;exact(List.of_mem_zip (a:=x.1) (b:=x.2) hx).1
theorem Rh.ne {o:lK}{D:UQ}(h:Rh P o st D):∃s bs,D.outs s bs:=by
 obtain⟨_,h⟩:=h;split at h
 ·cases hp:uV st.tm o.g with
  |true=>obtain⟨_,_,rfl⟩:=h.1 hp;exact⟨_,_,rfl,rfl⟩
  |false=>have:=h.2 hp;subst this;exact⟨_,_,rfl,rfl⟩
 ·exact h.2.ne
 ·obtain⟨_,h⟩:=h;split at h
  ·exact h.ne
  ·exact h.2.ne
  ·exact h.elim
theorem Rh.fst {o:lK}{D:UQ}(h:Rh P o st D){s:Slot}{bs:List (Nat×Box)}(ho:D.outs s bs):∀b,b∈bs.map (·.1)->b∈D.wr:=by
 obtain⟨_,h⟩:=h;split at h
 ·cases hp:uV st.tm o.g with
  |true=>obtain⟨_,_,rfl⟩:=h.1 hp;obtain⟨_,rfl⟩:=ho;exact λb hb=>hb
  |false=>have:=h.2 hp;subst this;obtain⟨_,rfl⟩:=ho;exact λb hb=>hb
 ·exact h.2.fst ho
 ·obtain⟨_,h⟩:=h;split at h
  ·exact h.fst ho
  ·exact h.2.fst ho
  ·exact h.elim
def UN.slots (i:UN):List Nat:=match i with
 |UN.op o=>o.qi.flatMap pR.slots
 |UN.call _ args=>args.flatMap pR.slots
 |UN.IP x args=>x.slots++args.flatMap pR.slots
def lK.slots (o:lK):List Nat:=o.g.toList.map (·.1)++o.i.slots
def lK.aiq (o:lK):Bool:=match o.i with
 |UN.op _=>true
 |_=>false
theorem aej {tm tm':Nat->Slot}{x:pR}(h:∀t,t∈x.slots->tm t=tm' t):x.ev tm=x.ev tm':=by
 cases x with
 |t s=>exact h s (by simp[pR.slots])
 |k x=>rfl
theorem ah6 {tm tm':Nat->Slot}{g:Option (Nat×Bool)}(h:∀t,t∈g.toList.map (·.1)->tm t=tm' t):(EJ tm g<->EJ tm' g)/\uV tm g=uV tm' g:=by
 cases g with
 |none=>exact⟨Iff.rfl,rfl⟩
 | some p=>obtain⟨s,w⟩:=p;have:=h s mD;simp only[EJ,uV,this,and_self,iff_self]
theorem Rh.local {o:lK}{D:UQ}(h:Rh P o st D)(ht:∀t,t∈o.slots->st.tm t=st'.tm t)(hb:∀b,b∈D.rd->st.bx b=st'.bx b):Rh P o st' D:=by
 unfold Rh at h⊢;obtain⟨hg1,hg2⟩:=ah6 (tm:=st.tm) (tm':=st'.tm) (g:=o.g) (λt h'=>ht t (dZ _ h'));have ht':∀t,t∈o.i.slots->st.tm t=st'.tm t:=λt h'=>ht t (fQ _ h');refine⟨hg1.1 h.1,?_⟩;obtain⟨_,h⟩:=h;rw[hg2]at h;cases hi:o.i with
 | op op=>simp only[hi,UN.slots]at h ht'⊢;have he:∀x,x∈op.qi->pR.ev st.tm x=pR.ev st'.tm x:=λx hx=>aej λt hm=>ht' t (lV.2 ⟨x,hx,hm⟩);have hea:∀x,x∈op.qi->fK st.tm x=fK st'.tm x:=λx hx=>(by unfold fK;rw[he x hx]);obtain⟨h1,h2⟩:=h;refine⟨λe=>?_,h2⟩;obtain⟨a1,a2,rfl⟩:=h1 e;have hf:op.f (fK st.tm) st.bx=op.f (fK st'.tm) st'.bx:=(apu op hb).trans (apv op hea);rw[hf]at a2;refine⟨ajG op he a1,a2,?_⟩;rw[hf,aoN op hea]
 | call f args=>simp only[hi,UN.slots]at h ht'⊢;have he:∀x,x∈args->pR.ev st.tm x=pR.ev st'.tm x:=λx hx=>aej λt hm=>ht' t (lV.2 ⟨x,hx,hm⟩);have hm:args.map (fK st.tm)=args.map (fK st'.tm):=rJ λx hx=>(by unfold fK;rw[he x hx]);rw[hm]at h;exact⟨λe x hx=>he x hx▸h.1 e x hx,h.2.bx hb⟩
 | IP x args=>
   simp only[hi,UN.slots]at h ht'⊢;have he:∀x,x∈args->pR.ev st.tm x=pR.ev st'.tm x:=λx hx=>aej λt hm=>ht' t (fQ _ (lV.2 ⟨x,hx,hm⟩));have hex:pR.ev st.tm x=pR.ev st'.tm x:=aej λt hm=>ht' t (dZ _ hm);have hm:args.map (fK st.tm)=args.map (fK st'.tm):=rJ λx hx=>(by unfold fK;rw[he x hx]);have hmx:fK st.tm x=fK st'.tm x:=(by unfold fK;rw[hex]);obtain⟨h1,h2⟩:=h;rw[hm,hmx]at h2;refine⟨λe=>⟨hex▸(h1 e).1,λy hy=>he y hy▸(h1 e).2 y hy⟩,?_⟩;split at h2
   ·exact h2.bx hb
   ·exact⟨h2.1,h2.2.bx hb⟩
   ·exact h2.elim
theorem Rh.det {o:lK}{D D':UQ}(hop:o.aiq=true)(h:Rh P o st D)(h':Rh P o st D'):D=D':=by
 unfold Rh at h h';unfold lK.aiq at hop;cases hi:o.i with
 | op op=>
   rw[hi]at h h';cases hp:uV st.tm o.g with
   |true=>exact(h.2.1 hp).2.2.trans (h'.2.1 hp).2.2.symm
   |false=>exact(h.2.2 hp).trans (h'.2.2 hp).symm
 |call f args=>rw[hi]at hop;cases hop
 |IP x args=>rw[hi]at hop;cases hop
end
end
section
section
variable {P:Program} {st st':gZ}
theorem MV {a b:List Nat} : O9 a b=true<->∀x,x∈a->x ∉ b:=by simp[O9,bf]
def KQ (x y:lK):Bool:=
 O9 x.d.toList y.slots&&O9 y.d.toList x.slots&&O9 x.d.toList y.d.toList&&(x.aiq||y.aiq)
def app (x:lK)(st:gZ)(s:Slot)(bs:List (Nat×Box)):gZ:=(st.vJ bs).BB x.d s
theorem O5 {x:lK}{s:Slot}{bs:List (Nat×Box)}{t:Nat}(h:t ∉ x.d.toList):(app x st s bs).tm t=st.tm t:=by
 unfold app;cases hd:x.d with
 |none=>simp only[gZ.BB,QX]
 | some d=>simp only[gZ.BB,gZ.V4,QX];rw[au];intro e;subst e;exact h (by simp[hd])
theorem QS (st:gZ)(d:Option Nat)(s:Slot):(st.BB d s).bx=st.bx:=by cases d<;>rfl
theorem O4 {x:lK}{s:Slot}{bs:List (Nat×Box)}{b:Nat}(h:b ∉ bs.map (·.1)):(app x st s bs).bx b=st.bx b:=by unfold app;rw[QS,NF _ _ h]
theorem Wi (l:List (Nat×Box)){st st':gZ}{b:Nat}(h:st.bx b=st'.bx b):(st.vJ l).bx b=(st'.vJ l).bx b:=by
 induction l generalizing st st' with
 |nil=>exact h
 | cons x l ih=>
   obtain⟨c,y⟩:=x;simp only[gZ.vJ];apply ih;simp only[gZ.tq];split
   ·rfl
   ·exact h
theorem ND (l:List (Nat×Box)){st st':gZ}{b:Nat}(h:b∈l.map (·.1)):(st.vJ l).bx b=(st'.vJ l).bx b:=by
 induction l generalizing st st' with
 |nil=>simp at h
 | cons x l ih=>
   obtain⟨c,y⟩:=x;simp only[gZ.vJ];by_cases hc:b=c
   ·apply Wi;simp[gZ.tq,hc]
   ·simp only[bT,aK]at h;exact ih (h.resolve_left hc)
theorem Z4 {x y:lK}{s s':Slot}{bs bs':List (Nat×Box)}(hd:O9 x.d.toList y.d.toList=true)(hb:∀b,b∈bs.map (·.1)->b ∉ bs'.map (·.1)) :
 app y (app x st s bs) s' bs'=app x (app y st s' bs') s bs:=by
 rw[MV]at hd;apply gZ.ext'
 ·funext t
  by_cases h1:t∈x.d.toList
  ·have h2:=hd t h1;rw[O5 h2];cases hx:x.d with
   |none=>rw[hx]at h1;simp at h1
   | some d=>rw[hx]at h1;simp at h1;subst h1;simp[app,hx,gZ.BB,gZ.V4]
  ·rw[O5 (x:=x) h1];by_cases h2:t∈y.d.toList
   ·cases hy:y.d with
    |none=>rw[hy]at h2;simp at h2
    | some d=>rw[hy]at h2;simp at h2;subst h2;simp[app,hy,gZ.BB,gZ.V4]
   ·rw[O5 h2,O5 h2,O5 h1]
 ·funext b
  by_cases h1:b∈bs.map (·.1)
  ·rw[O4 (hb b h1)];unfold app;rw[QS,QS];exact ND _ h1
  ·rw[O4 (x:=x) h1];by_cases h2:b∈bs'.map (·.1)
   ·unfold app;rw[QS,QS];exact ND _ h2
   ·rw[O4 h2,O4 h2,O4 h1]
def apartB (rd wr rd' wr':List Nat):Bool:=O9 wr' rd&&O9 wr' wr&&O9 rd' wr
theorem Rh.skip {x y:lK}{D Dx:UQ}(h:Rh P y st D)(hx:Rh P x st Dx)(hs:O9 x.d.toList y.slots=true)(hb:∀b,b∈Dx.wr->b ∉ D.rd){s:Slot}{bs:List (Nat×Box)}(ho:Dx.outs s bs):Rh P y (app x st s bs) D:=
 h.local (λt ht=>(O5 λhd=>(MV.1 hs) t hd ht).symm) (λb hr=>(O4 λhm=>hb b (hx.fst ho b hm) hr).symm)
theorem Rh.adQ {x y:lK}{D Dx:UQ}{s:Slot}{bs:List (Nat×Box)}(h:Rh P y (app x st s bs) D)(hx:Rh P x st Dx)(hs:O9 x.d.toList y.slots=true)(hb:∀b,b∈Dx.wr->b ∉ D.rd)(ho:Dx.outs s bs):Rh P y st D:=
 h.local (λt ht=>O5 λhd=>(MV.1 hs) t hd ht) (λb hr=>O4 λhm=>hb b (hx.fst ho b hm) hr)
theorem MK {rd wr rd' wr':List Nat}(h:apartB rd wr rd' wr'=true):(∀b,b∈wr->b ∉ rd')/\(∀b,b∈wr'->b ∉ rd)/\(∀b,b∈wr->b ∉ wr'):=by simp only[apartB,ah,MV]at h;exact⟨λb h1 h2=>h.2 b h2 h1,h.1.1,λb h1 h2=>h.1.2 b h2 h1⟩
theorem ama {x y:lK}(hap:KQ x y=true){K:List Nat->List Nat->List Nat->List Nat->gZ->Prop}
 (h:T P x st λrd wr st1=>T P y st1 λrd' wr' st2=>apartB rd wr rd' wr'=true/\K rd wr rd' wr' st2) :
 T P y st λrd' wr' st2=>T P x st2 λrd wr st1=>apartB rd wr rd' wr'=true/\K rd wr rd' wr' st1:=by
 simp only[KQ,ah,iJ]at hap;obtain⟨⟨⟨h1,h2⟩,h3⟩,h4⟩:=hap;rw[LM]at h;obtain⟨Dx,hDx,h⟩:=h;rcases h4 with h4|h4
 ·
  obtain⟨s,bs,ho⟩:=hDx.ne;have hT:=h s bs ho;rw[LM]at hT;obtain⟨Dy,hDy,hk⟩:=hT;obtain⟨s',bs',ho'⟩:=hDy.ne;obtain⟨a1,a2,a3⟩:=MK (hk s' bs' ho').1;have aaF:Rh P y st Dy:=Rh.adQ hDy hDx h1 a1 ho;rw[LM];refine⟨Dy,aaF,λs' bs' ho'=>?_⟩;rw[LM];refine⟨Dx,hDx.skip aaF h2 a2 ho',λs1 bs1 ho1=>?_⟩;have hT:=h s1 bs1 ho1;rw[LM]at hT;obtain⟨Dy1,amv,hk1⟩:=hT;have hsame:s1=s/\bs1=bs:=by
   obtain⟨_,hD⟩:=hDx;unfold lK.aiq at h4;split at h4
   ·rename_i op hi;rw[hi]at hD;cases hp:uV st.tm x.g with
    |true=>obtain⟨_,_,rfl⟩:=hD.1 hp;exact⟨ho1.1.trans ho.1.symm,ho1.2.trans ho.2.symm⟩
    |false=>have:=hD.2 hp;subst this;exact⟨ho1.1.trans ho.1.symm,ho1.2.trans ho.2.symm⟩
   ·cases h4
  obtain⟨rfl,rfl⟩:=hsame;have:=hk s' bs' ho';show _/\K _ _ _ _ (app x (app y st s' bs') s1 bs1);rw[<- Z4 h3 (λb hb hb'=>a3 b (hDx.fst ho b hb) (aaF.fst ho' b hb'))];exact this
 ·
  obtain⟨s,bs,ho⟩:=hDx.ne;have hT:=h s bs ho;rw[LM]at hT;obtain⟨Dy,hDy,hk⟩:=hT;obtain⟨s',bs',ho'⟩:=hDy.ne;obtain⟨a1,a2,a3⟩:=MK (hk s' bs' ho').1;have aaF:Rh P y st Dy:=Rh.adQ hDy hDx h1 a1 ho;rw[LM];refine⟨Dy,aaF,λs' bs' ho'=>?_⟩;rw[LM];refine⟨Dx,hDx.skip aaF h2 a2 ho',λs1 bs1 ho1=>?_⟩;have hT:=h s1 bs1 ho1;rw[LM]at hT;obtain⟨Dy1,amv,hk1⟩:=hT;have hsame:Dy1=Dy:=by obtain⟨s2,bs2,ho2⟩:=amv.ne;obtain⟨b1,_,_⟩:=MK (hk1 s2 bs2 ho2).1;exact Rh.det h4 (Rh.adQ amv hDx h1 b1 ho1) aaF
  subst hsame;have:=hk1 s' bs' ho';show _/\K _ _ _ _ (app x (app y st s' bs') s1 bs1);rw[<- Z4 h3 (λb hb hb'=>a3 b (hDx.fst ho1 b hb) (aaF.fst ho' b hb'))];exact this
theorem Rn {x:lK}{K K':List Nat->List Nat->gZ->Prop}(hk:∀rd wr st,K rd wr st->K' rd wr st)(h:T P x st K):T P x st K':=by rw[LM]at h⊢;obtain⟨D,hD,h⟩:=h;exact⟨D,hD,λs bs ho=>hk _ _ _ (h s bs ho)⟩
abbrev Log :=List (Nat×List Nat×List Nat)
theorem Ky {Ig rd wr:List Nat}{log:Log} : Aw Ig rd wr log=true<->∀e,e∈log->e.1∈Ig\/apartB e.2.1 e.2.2 rd wr=true:=by
 induction log with
 |nil=>simp[Aw]
 | cons e l ih=>obtain⟨j,r,w⟩:=e;simp only[Aw,ah,iJ,ih,aK,forall_eq_or_imp,apartB,kT]
structure Ah where
 i:Nat
 o:lK
 Ig:List Nat
def wpI (P:Program):List Ah->Log->gZ->(gZ->Prop)->Prop
 |[],_,st,K=>K st
 |x::r,log,st,K=>T P x.o st λrd wr st'=>Aw x.Ig rd wr log=true/\wpI P r ((x.i,rd,wr)::log) st' K
theorem ae4 {K:gZ->Prop} : ∀{l:List Ah} {log amP:Log} {st:gZ},(∀e,e∈amP->e∈log)->wpI P l log st K->wpI P l amP st K
 |[],_,_,_,_,h=>h
 | x::r,log,amP,st,hl,h=>by
   refine Rn (λrd wr st' hk=>⟨?_,ae4 (l:=r) ?_ hk.2⟩) h
   ·rw[Ky]at hk⊢;exact λe he=>hk.1 e (hl e he)
   ·intro e he;rcases aK.1 he with rfl|he
    ·exact bD ..
    ·exact fJ _ (hl e he)
theorem Tn {K:gZ->Prop}{x:Ah}{post:List Ah} : ∀{pre:List Ah} {log:Log} {st:gZ},(∀p,p∈pre->p.i ∉ x.Ig/\KQ p.o x.o=true)->wpI P (pre++x::post) log st K->wpI P (x::(pre++post)) log st K
 |[],_,_,_,h=>h
 | p::pre,log,st,hp,h=>by
   obtain⟨hn,hap⟩:=hp p (bD ..);have h1:T P p.o st λrd wr st1=>T P x.o st1 λrd' wr' st2=>apartB rd wr rd' wr'=true /\
    (Aw p.Ig rd wr log=true/\Aw x.Ig rd' wr' log=true/\wpI P (pre++post) ((x.i,rd',wr')::(p.i,rd,wr)::log) st2 K):=by
    refine Rn (λrd wr st1 hk=>?_) h;have h2:=Tn (pre:=pre) (λq hq=>hp q (fJ _ hq)) hk.2;refine Rn (λrd' wr' st2 hk2=>?_) h2;have aob:=Ky.1 hk2.1;refine⟨(aob (p.i,rd,wr) (bD ..)).resolve_left hn,hk.1,Ky.2 λe he=>aob e (fJ _ he),hk2.2⟩
   refine Rn (λrd' wr' st2 hk=>?_) (ama hap h1);rw[LM]at hk;obtain⟨D,hD,hk⟩:=hk;refine⟨?_,?_⟩
   ·obtain⟨s,bs,ho⟩:=hD.ne;exact(hk s bs ho).2.2.1
   ·show T P p.o st2 _;rw[LM];refine⟨D,hD,λs bs ho=>?_⟩;obtain⟨k1,k2,k3,k4⟩:=hk s bs ho;refine⟨Ky.2 λe he=>?_,ae4 ?_ k4⟩
    ·rcases aK.1 he with rfl|he
     ·right
      simp only[apartB,ah,MV]at k1⊢;exact⟨⟨λb h1 h2=>k1.2 b h2 h1,λb h1 h2=>k1.1.2 b h2 h1⟩,λb h1 h2=>k1.1.1 b h2 h1⟩
     ·exact Ky.1 k2 e he
    ·intro e he;simp only[aK]at he⊢;rcases he with h|h|h
     ·exact .inr (.inl h)
     ·exact .inl h
     ·exact .inr (.inr h)
end
end
section
section
variable {P:Program} {E:Env P} {n:Nat} {ops:Array Oper} {Q:Exit->Act->World->Prop}
def RD (P:Program)(n m:Nat)(ops:Array Oper):List Oper->List lK->Bool
 |[],[]=>true
 |o::os,x::xs=>KU P n m ops o x&&RD P n m ops os xs
 |_,_=>false
theorem V6 (hm:E.m<=10):∀{os:List Oper} {xs:List lK} {K:gZ->Prop} {a:Act} {w:World},RD P n E.m ops os xs=true->AK E n (λst=>wpOps P xs st K) a w ->
 (∀a w,AK E n K a w->Q .normal a w)->wpList P ops Q os a w
 |[],[],K,a,w,_,h,hq=>hq a w h
 | o::os,x::xs,K,a,w,hc,h,hq=>by
   simp only[RD,ah]at hc;obtain⟨I,ρ,st,hT,hg⟩:=h;have h1:=ad5 (Q:=Q) (ops:=ops) hg hm hc.1 (show T P x st λ_ _ st'=>wpOps P xs st' K from hT);unfold Hq at h1;unfold wpList;have key:∀a w,AK E n (λst=>∃rd wr:List Nat,wpOps P xs st K) a w->wpList P ops Q os a w:=λa w hk=>V6 hm hc.2 (hk.imp λst ⟨_,_,h⟩=>h) hq;split
   ·rename_i hw;rw[aA hw]at h1;exact h1.imp (CB key) id
   ·rename_i hw;rw[au hw]at h1;exact key _ _ h1
 |[],_::_,_,_,_,hc,_,_=>by cases hc
 |_::_,[],_,_,_,hc,_,_=>by cases hc
def items : List (lK×List Nat)->Nat->List Ah
 |[],_=>[]
 |(o,Ig)::r,i=>⟨i,o,Ig⟩::items r (i+1)
theorem adT {K:gZ->Prop} : ∀{l:List (lK×List Nat)} {i:Nat} {log:Log} {st:gZ},wpD P l i log st K=wpI P (items l i) log st K
 |[],_,_,_=>rfl
 | (o,Ig)::r,i,log,st=>by
   simp only[wpD,items,wpI]
   congr 1
   funext rd wr st'
   rw[adT (l:=r)]
def U6 (L:List Ah)(o:Oper)(x:Ah):Bool:=
 x.Ig.all (λj=>o.after.toList.any λe=>Region.binds .any e&&(e.on==j||L.any λy=>y.i==e.on&&y.Ig.contains j)) &&
 o.after.toList.all (λe=> !Region.binds .any e||decide (e.on<x.i))
def P8 : List Ah->Bool
 |[]=>true
 |x::r=>r.all (λy=>y.Ig.contains x.i||KQ x.o y.o)&&P8 r
def Qa (P:Program)(n m:Nat)(ops:Array Oper)(L:List Ah)(x:Ah):Bool:=
 match ops[x.i]? with
 |some o=>KU P n m ops o x.o&&U6 L o x
 |none=>false
def Qc (P:Program)(n m:Nat)(ops:Array Oper)(l:List (lK×List Nat)):Bool:=
 l.length==ops.size&&(items l 0).all (Qa P n m ops (items l 0))&&P8 (items l 0)
theorem Nj : ∀{l:List (lK×List Nat)} {i:Nat},(∀x,x∈items l i->i<=x.i/\x.i<i+l.length)/\(items l i).Pairwise (λx y=>x.i<y.i)/\(∀j,j<l.length->∃x,x∈items l i/\x.i=i+j)
 |[],i=>⟨λx hx=>by simp[items]at hx,.nil,λj hj=>by simp at hj⟩
 | (o,Ig)::r,i=>by
   obtain⟨h1,h2,h3⟩:=Nj (l:=r) (i:=i+1);simp only[items,iV];refine⟨λx hx=>?_,sO.2 ⟨λy hy=>?_,h2⟩,λj hj=>?_⟩
   ·rcases aK.1 hx with rfl|hx
    ·exact⟨aF _,mD⟩
    ·have:=h1 x hx;omega
   ·have:=(h1 y hy).1;show i<y.i;omega
   ·cases j with
    |zero=>exact⟨_,bD ..,rfl⟩
    | succ j=>obtain⟨x,hx,he⟩:=h3 j aI;exact⟨x,fJ _ hx,aI⟩
theorem MO : ∀{l:List Ah},P8 l=true->l.Pairwise λx y=>x.i∈y.Ig\/KQ x.o y.o=true
 |[],_=>.nil
 | x::r,h=>by simp only[P8,ah,bf,iJ,kT]at h;exact sO.2 ⟨h.1,MO h.2⟩
theorem YV {l:Array Bool}{i:Nat}(h:l.getD i true=false):l.getD i false=false:=by
 simp only[fH]at *;cases hh:l[i]? with
 |none=>rw[hh]at h;cases h
 |some b=>rw[hh]at h;simpa using h
theorem afp (hm:E.m<=10){L:List (lK×List Nat)}(hc:Qc P n E.m ops L=true){K:gZ->Prop}(hq:∀a w,AK E n K a w->Q .normal a w) :
 ∀ (fuel:Nat) (l:List Ah) (listed:Array Bool) (log:Log) (a:Act) (w:World),l.length<=fuel->l.Sublist (items L 0)->listed.size=ops.size ->
   (∀x,x∈items L 0->(listed.getD x.i true=false<->x∈l)) ->
   (∀x,x∈items L 0->listed.getD x.i false=true->∀j,j∈x.Ig->listed.getD j false=true) ->
   AK E n (λst=>wpI P l log st K) a w->wpAny P .any ops Q fuel listed a w:=by
 simp only[Qc,ah,aY,bf]at hc;obtain⟨⟨hlen,hit⟩,hap⟩:=hc;obtain⟨i1,i2,i3⟩:=Nj (l:=L) (i:=0);have hpw:(items L 0).Pairwise λx y=>x.i<y.i/\(x.i∈y.Ig\/KQ x.o y.o=true):=i2.and (MO hap);have XJ:∀x y,x∈items L 0->y∈items L 0->x.i=y.i->x=y:=by
  intro x y hx hy e;obtain⟨p,hp,rfl⟩:=wE hx;obtain⟨q,hq',rfl⟩:=wE hy;have aij:=yf.1 i2;rcases yY p q with h|h|h
  ·have:=aij p q hp hq' h;omega
  ·subst h;rfl
  ·have:=aij q p hq' hp h;omega
 have ac2:∀(l:List Ah) (listed:Array Bool),l.Sublist (items L 0)->listed.size=ops.size->(∀x,x∈items L 0->(listed.getD x.i true=false<->x∈l))->ve .any ops listed=[]->l=[]:=by
  intro l listed hsub hsz hl hr;cases l with
  |nil=>rfl
  | cons x r=>
    exfalso;have hx:=hsub.subset (bD ..);have hc:=hit x hx;unfold Qa at hc;cases ho:ops[x.i]? with
    |none=>rw[ho]at hc;cases hc
    | some o=>
      rw[ho]at hc;simp only[ah,U6,bf,iJ,kW,aC]at hc;have:x.i∈ve .any ops listed:=by
       rw[mem_ready];refine⟨(hl x hx).2 (bD ..),o,ho,λe he hb=>?_⟩;have hlt:=(hc.2.2 e (by simpa using he)).resolve_left (by rw[hb];simp);have hxi:=i1 x hx;obtain⟨y,hy,hye⟩:=i3 e.on aI;have hye:y.i=e.on:=(by omega);by_cases hyl:y∈x::r
       ·exfalso;rcases aK.1 hyl with rfl|hyr
        ·omega
        ·have:=(sO.1 (i2.sublist hsub)).1 y hyr;omega
       ·have h1:¬listed.getD y.i true=false:=λh=>hyl ((hl y hy).1 h);have hin:y.i<listed.size:=(by rw[hsz,<- hlen];have:=i1 y hy;omega);rw[<- hye];simp only[fH,lZ hin,lW]at h1⊢;simpa using h1
      rw[hr]at this;cases this
 intro fuel
 induction fuel with
 | zero=>
   intro l listed log a w hf hsub hsz hl _ h;have:l=[]:=wH.1 aI;subst this;refine⟨?_,hq a w h⟩;cases hr:ve .any ops listed with
   |nil=>rfl
   | cons i r=>exfalso;have hi:i∈ve .any ops listed:=(by rw[hr];exact bD ..);obtain⟨hu,o,ho,_⟩:=mem_ready.1 hi;have hlt:=(eH.1 ho).1;obtain⟨y,hy,hye⟩:=i3 i aI;have hye:y.i=i:=(by omega);have:=(hl y hy).1 (by rw[hye];exact hu);cases this
 | succ fuel ih=>
   intro l listed log a w hf hsub hsz hl hdown h;refine⟨λhr=>?_,λi hi=>?_⟩
   ·have:=ac2 l listed hsub hsz hl hr;subst this;exact hq a w h
   ·obtain⟨hu,o,ho,hall⟩:=mem_ready.1 hi;have hlt:=(eH.1 ho).1;obtain⟨x,hx,hxe⟩:=i3 i aI;have hxe:x.i=i:=(by omega);subst hxe;have hxl:=(hl x hx).1 hu;have hcx:=hit x hx;unfold Qa at hcx;rw[ho]at hcx;simp only[ah]at hcx;obtain⟨hco,hca⟩:=hcx;have haft:∀j,j∈x.Ig->listed.getD j false=true:=by
     intro j hj;simp only[U6,ah,bf,zH,iJ,aY]at hca;obtain⟨e,he,hb,hej⟩:=hca.1 j hj;have hel:=hall e (by simpa using he) hb;rcases hej with rfl|⟨y,hy,hye,hyj⟩
     ·exact hel
     ·rw[<- hye]at hel;exact hdown y hy hel j (by simpa using hyj)
    obtain⟨pre,post,rfl⟩:=List.append_of_mem hxl;have YW:=hpw.sublist hsub;rw[DJ]at YW;have hpre:∀p,p∈pre->p.i ∉ x.Ig/\KQ p.o x.o=true:=by
     intro p hp;have h1:=YW.2.2 p hp x (bD ..);have hn:p.i ∉ x.Ig:=by intro hm';have h2:=haft _ hm';have h3:=(hl p (hsub.subset (dZ _ hp))).2 (dZ _ hp);rw[YV h3]at h2;cases h2
     exact⟨hn,h1.2.resolve_left hn⟩
    obtain⟨I,ρ,st,hT,hg⟩:=h;have hT:=Tn hpre hT;have h1:=ad5 (Q:=Q) (ops:=ops) hg hm hco (show T P x.o st λrd wr st'=>Aw x.Ig rd wr log=true/\wpI P (pre++post) ((x.i,rd,wr)::log) st' K from hT);have key:∀a w,AK E n (λst=>∃rd wr,Aw x.Ig rd wr log=true/\wpI P (pre++post) ((x.i,rd,wr)::log) st K) a w->wpAny P .any ops Q fuel (listed.setIfInBounds x.i true) a w:=by
     rintro a w ⟨I,ρ,st,⟨rd,wr,_,hk⟩,hg⟩;have hnx:x ∉ pre++post:=by
      intro hxm;rcases bG.1 hxm with h|h
      ·have:=(YW.2.2 x h x (bD ..)).1;omega
      ·have:=((sO.1 YW.2.1).1 x h).1;omega
     refine ih (pre++post) _ ((x.i,rd,wr)::log) a w (by simp at hf⊢;omega) ?_ (by simp[hsz]) ?_ ?_ ⟨I,ρ,st,hk,hg⟩
     ·exact(List.Sublist.append_left (List.sublist_cons_self x post) pre).trans hsub
     ·intro y hy;by_cases hyx:y=x
      ·subst hyx;constructor
       ·intro h;have hin:y.i<listed.size:=(by rw[hsz];exact hlt);simp[hin]at h
       ·intro h;exact eF h hnx
      ·have hne:x.i≠y.i:=λe=>hyx (XJ y x hy hx e.symm);rw[getD_set_ne true hne,hl y hy];simp only[bG,aK,hyx,false_or]
     ·intro y hy hyl j hj;by_cases hyx:y=x
      ·subst hyx;exact getD_set_true (haft j hj)
      ·have hne:x.i≠y.i:=λe=>hyx (XJ y x hy hx e.symm);rw[getD_set_ne false hne]at hyl;exact getD_set_true (hdown y hy hyl j hj)
    unfold wpOp;rw[ho];unfold Hq at h1;simp only;split
    ·rename_i hw;rw[aA hw]at h1;exact h1.imp (CB key) id
    ·rename_i hw;rw[au hw]at h1;exact key _ _ h1
theorem adA (hm:E.m<=10)(hf:P.follows .mixedOrders=true){L:List (lK×List Nat)}(hc:Qc P n E.m ops L=true){K:gZ->Prop}(hq:∀a w,AK E n K a w->Q .normal a w)
 {id:Nat} {a:Act} {w:World} (h:AK E n (λst=>wpD P L 0 [] st K) a w):(Dt id ops true).wp P Q a w:=by
 refine wp_region_any hf ?_;have hlen:L.length=ops.size:=by simp only[Qc,ah,aY]at hc;exact hc.1.1
 have i0:=Nj (l:=L) (i:=0);have hil:(items L 0).length=L.length:=by
  clear i0 hlen h hc;generalize 0=i
  induction L generalizing i with
  |nil=>rfl
  |cons x r ih=>obtain⟨o,Ig⟩:=x;simp[items,ih]
 refine afp hm hc hq ops.size (items L 0) (tC ops.size false) [] a _ aI (EF _) mD ?_ ?_ ?_
 ·intro x hx;have:=i0.1 x hx;have hlt:x.i<ops.size:=by omega
  simp[hlt,hx]
 ·intro x hx h;exfalso;have:=i0.1 x hx;have hlt:x.i<ops.size:=by omega
  simp[hlt]at h
 ·obtain⟨I,ρ,st,hT,hg⟩:=h;exact⟨I,ρ,st,Eq.mp (adT (P:=P) (l:=L) (i:=0) (log:=[]) (st:=st) (K:=K)) hT,hg.drew⟩
end
end
section
section
variable {P:Program} {E:Env P} {I:IH} {ρ:Ren} {n:Nat} {st:gZ} {a:Act} {w w':World} {Γ : List OF} {g0:Own} {dp:Nat} {lz:Bool}
def AO0 (E:Env P)(g0:Own)(dp n:Nat)(K:gZ->Prop)(Γ : List OF)(a:Act)(w:World):Prop:=AK E n K a w/\LY E g0 dp Γ a w
theorem Rx (h:OW P FV g0 dp Γ a w){x:Operand}{b:Bool}{k:Knd}(hc:NY Γ x=some (b,k)){f:FuncId}{caps:Array Value}(hx:a.eval x = .func (.func f) #[] caps) :
 (b=false/\kindOf f=k/\caps.size=0)\/(b=true/\(k = .rd/\kindOf f = .rd\/∃sg,k = .ow sg/\kindOf f = .ow ⟨sg.ps++bW caps.size .any,sg.rs⟩)):=by
 unfold NY at hc;split at hc
 ·rename_i f';cases hc;simp only[Act.eval]at hx;cases hx;exact .inl ⟨rfl,rfl,rfl⟩
 ·rename_i t;have hm:=oZ hc;rw[eG]at hm;obtain⟨f0,hf0,hm⟩:=hm;split at hm
  ·rename_i y s;split at hm
   ·rename_i e;subst e;obtain⟨f1,aqu,h1,h2⟩:=h.fs _ hf0;have e1:a.eval (.tmp y)=a.tmps.getD y undef:=rfl;rw[e1,h1]at hx;cases hx
    right
    cases s with
    |zero=>cases hm;exact⟨rfl,.inl ⟨rfl,h2⟩⟩
    | succ s=>cases hm;obtain⟨sg,h3,h4,h5⟩:=h2;refine⟨rfl,.inr ⟨_,rfl,?_⟩⟩;rw[h3,<- h4,<- h5]
   ·cases hm
  ·cases hm
 ·cases hc
theorem aal (h:GX E I ρ n st a w)(hm:E.m<=10)(MB:LY E g0 dp Γ a w){o:Oper}{Dl:List OF}{x:Operand}{az:Array Operand}{ts:Array TypeId}(ho:o.op = .call ⟨.value x,az,ts⟩)(hs:VS P lz Γ o=some Dl)(hdn:∀d,o.dst=some d->d<n)
 {f:FuncId} {caps:Array Value} (hx:a.eval x = .func (.func f) #[] caps) {xk:List AV} (hv:UR I ρ (az.toList.map a.eval++caps.toList) xk) {K:List Nat->List Nat->gZ->Prop} (hT:OE P f xk true o.dst st K) :
 Calls P f (az.toList.map a.eval++caps.toList).toArray w λe w'=>∃v,e = .returned v/\AO0 E g0 dp n (λst=>∃rd wr,K rd wr st) Dl (a.put o.dst v) w':=by
 have rd:kindOf f = .rd->Dl=IU o.dst Γ -> Calls P f (az.toList.map a.eval++caps.toList).toArray w λe w'=>∃v,e = .returned v/\AO0 E g0 dp n (λst=>∃rd wr,K rd wr st) Dl (a.put o.dst v) w':=by intro hk hΓ;refine(Ju h hm hdn hv hT (.rd hk)).mono ?_;rintro e w' ⟨⟨v,he,hak⟩,hF,hsz⟩;refine⟨v,he,hak,?_⟩;rw[hΓ];exact(MB.world hsz hF).drop _ _
 have ow:∀{sg:ZN} {C:CR},kindOf f = .ow sg->(az.toList.map a.eval++caps.toList).length=sg.ps.length->TN Γ sg az.toList o.dst=some C->Dl=XC Γ o.dst C->Calls P f (az.toList.map a.eval++caps.toList).toArray w λe w'=>∃v,e = .returned v/\AO0 E g0 dp n (λst=>∃rd wr,K rd wr st) Dl (a.put o.dst v) w':=by intro sg C hk hl hC hΓ;obtain⟨g,h1,h2⟩:=MB;obtain⟨X,hX,hXs⟩:=aa2 h2 h.DK.size hk hl hC (λd e=>by rw[h.size];exact hdn d e);refine(Ju h hm hdn hv hT hX).mono ?_;rintro e w' ⟨⟨v,he,hak⟩,hXe,hsz⟩;subst he;obtain⟨g',h3,h4⟩:=hXs v w' hsz hXe;exact⟨v,rfl,hak,g',h1.trans h3,by rw[hΓ];exact h4⟩
 have base:∀{b:Bool} {sg:ZN} {C:CR},NY Γ x=some (b,.ow sg)->az.size=sg.ps.length->TN Γ sg az.toList o.dst=some C->Dl=XC Γ o.dst C->Calls P f (az.toList.map a.eval++caps.toList).toArray w λe w'=>∃v,e = .returned v/\AO0 E g0 dp n (λst=>∃rd wr,K rd wr st) Dl (a.put o.dst v) w':=by
  intro b sg C hk hsz hC hΓ;obtain⟨g,h1,h2⟩:=MB;rcases Rx h2 hk hx with⟨rfl,h3,h4⟩|⟨rfl,⟨h3,_⟩|⟨sg',h3,h4⟩⟩
  ·exact ow h3 (by simp;omega) hC hΓ
  ·cases h3
  ·cases h3;exact ow h4 (by simp;omega) (agq hC (by simpa using hsz)) hΓ
 unfold VS at hs;split at hs
 ·split at hs
  ·rename_i hq;cases hs;unfold Py at hq;rw[ho]at hq;simp only at hq;unfold amM at hq;split at hq
   ·rename_i b hk;obtain⟨g,h1,h2⟩:=MB;rcases Rx h2 hk hx with⟨rfl,h3,h4⟩|⟨rfl,⟨_,h3⟩|⟨sg',h3,h4⟩⟩
    ·exact rd h3 rfl
    ·exact rd h3 rfl
    ·cases h3
   ·cases hq
  ·cases hs
 ·rw[ho]at hs;simp only at hs;split at hs
  ·rename_i b hk;cases hs;obtain⟨g,h1,h2⟩:=MB;rcases Rx h2 hk hx with⟨rfl,h3,h4⟩|⟨rfl,⟨_,h3⟩|⟨sg',h3,h4⟩⟩
   ·exact rd h3 rfl
   ·exact rd h3 rfl
   ·cases h3
  ·rename_i b sg hk;split at hs
   ·rename_i hb;simp only[dD]at hs;obtain⟨C,hC,rfl⟩:=hs;exact base hk (by simpa using hb) hC rfl
   ·cases hs
  ·cases hs
end
end
section
section
variable {P:Program} {E:Env P} {I:IH} {ρ:Ren} {n:Nat} {st:gZ} {a:Act} {w w':World} {Γ : List OF} {g0:Own} {dp:Nat} {lz:Bool}
theorem acX {ops:Array Oper}{o:Oper}{g:Option (Nat×Bool)}(hc:MP n ops o.guard g=true)(hg:uV st.tm g=false):o.guard.isSome=true:=by
 unfold MP at hc;split at hc
 ·simp[uV]at hg
 ·rename_i e;rw[e];rfl
 ·cases hc
theorem adr {o:Oper}{Dl:List OF}(ho:VS P lz Γ o=some Dl)(hg:o.guard.isSome=true):Dl=IU o.dst Γ :=by
 unfold VS at ho;rw[aA (by rw[hg,yl])]at ho;split at ho
 ·cases ho;rfl
 ·cases ho
theorem aa3 {o:Oper}{ao:lK}{Dl:List OF}(ho:TP P lz Γ o ao=some Dl)(hg:o.guard.isSome=true):Dl=IU o.dst Γ :=by
 unfold TP at ho;split at ho
 ·cases ho;rfl
 ·exact adr ho hg
theorem afl (h:GX E I ρ n st a w)(hm:E.m<=10)(MB:LY E g0 dp Γ a w){ops:Array Oper}{Q:Exit->Act->World->Prop}{o:Oper}{ao:lK}{Dl:List OF}(hc:KU P n E.m ops o ao=true)(ho:TP P lz Γ o ao=some Dl){K:List Nat->List Nat->gZ->Prop}(hT:T P ao st K) :
 Hq P ops Q o (AO0 E g0 dp n (λst=>∃rd wr,K rd wr st) Dl) a w:=by
 simp only[KU,ah]at hc;obtain⟨⟨hcg,hcd⟩,hci⟩:=hc;obtain⟨hdd,hdn⟩:=ahS hcd;obtain⟨hgv,hT⟩:=hT;have hw:=aaB h hcg hgv;have amA:∀d,o.dst=some d->d<n:=λd e=>hdn d (by rw[<- hdd];exact e);have skip:uV st.tm ao.g=false->∀r,(∃rd wr,K rd wr (st.BB ao.d (.v false r)))->AO0 E g0 dp n (λst=>∃rd wr,K rd wr st) Dl (a.put o.dst undef) w:=λhp r hk=>⟨⟨I,ρ,_,hk,by rw[hdd];exact h.BB hdn ⟨(λe=>by cases e),λ_=>rfl⟩⟩,by rw[aa3 ho (acX hcg hp)];exact MB.drop _ _⟩;unfold Hq;rw[hw];cases hi:ao.i with
 | op op=>
   rw[hi]at hT hci;obtain⟨h1,h2⟩:=hT;cases hp:uV st.tm ao.g with
   |false=>simpa using skip hp _ ⟨_,_,h2 hp⟩
   | true=>
     obtain⟨hv,kF,h3⟩:=h1 hp;obtain⟨v,w',I',ρ',hr,hg,amF,heff⟩:=aa6 h hci hv kF;simp only[jY];refine .inl ?_;have apF:LY E g0 dp Dl (a.put o.dst v) w':=by
      unfold TP at ho;split at ho
      ·rename_i x az ts hop;cases ho;have hw:=heff.quiet (by rw[hop];rfl);subst hw;exact MB.drop _ _
      ·rename_i hne;refine am1 h MB ?_ ho amA (λc hc x hx=>?_) hr heff
       ·cases hgu:o.guard with
        |none=>exact .inl rfl
        | some q=>
          right
          unfold VS at ho;rw[hgu]at ho;simp only[Option.isSome_some,yl,jY]at ho;split at ho
          ·assumption
          ·cases ho
       ·obtain⟨callee,args,argTypes⟩:=c;simp only at hx;subst hx;exact hne op x args argTypes hi hc
     have key:AO0 E g0 dp n (λst=>∃rd wr,K rd wr st) Dl (a.put o.dst v) w':=by
      refine⟨⟨I',ρ',_,⟨_,_,h3⟩,?_⟩,apF⟩;rw[hdd];cases hd:ao.d with
      |none=>exact hg
      |some d=>exact hg.put (hdn d hd) ⟨λ_=>amF (by rw[hdd,hd];simp),λe=>by cases e⟩
     unfold xe;rcases hr with hr|⟨hr,hnd⟩
     ·rw[hr];exact key
     ·rw[hr,EC];rw[hnd]at key⊢;exact key
 | call f args=>
   have ho:VS P lz Γ o=some Dl:=(by unfold TP at ho;rw[hi]at ho;exact ho);rw[hi]at hT hci;simp only[Vd]at hci;split at hci
   ·rename_i f' az ts hop;simp only[ah,aY]at hci;obtain⟨⟨rfl,hca⟩,hok⟩:=hci;obtain⟨h1,h2⟩:=hT;cases hp:uV st.tm ao.g with
    | false=>have h2':=h2;rw[hp]at h2';obtain⟨r,hk⟩:=Lu h2';simpa using skip hp r hk
    | true=>rw[hp]at h1 h2;simp only[jY];refine .inl (LC (G7 hop (x:=.func f') (caps:= #[]) rfl hok) ?_);have hvs:=QM h hca (h1 rfl);rw[<- hdd]at h2;have:=aal h hm MB hop ho amA (f:=f') (caps:= #[]) rfl (by simpa using hvs) h2;simpa[<- Array.toList_map]using this
   ·cases hci
 | IP x args=>
   have ho:VS P lz Γ o=some Dl:=(by unfold TP at ho;rw[hi]at ho;exact ho);rw[hi]at hT hci;simp only[Vd]at hci;split at hci
   ·rename_i x' az ts hop;simp only[ah]at hci;obtain⟨hcx,hca⟩:=hci;obtain⟨hg0,h2⟩:=hT;cases hp:uV st.tm ao.g with
    | false=>have h2':=h2;rw[hp]at h2';obtain⟨r,hk⟩:=Lu h2';simpa using skip hp r hk
    |true=>
    rw[hp]at h2;obtain⟨hg1,h1⟩:=hg0 hp;split at h2
    ·rename_i hb;cases hb
    ·rename_i f caps _ hf;obtain⟨hok,h2⟩:=h2;have hx:=oK h hcx hg1;rw[hf]at hx;obtain⟨ks,hk1,hk2,hk3⟩:=hx;simp only[jY];refine .inl (LC (G7 hop hk3 hok) ?_);have hvs:=QM h hca h1;have hvs':UR I ρ (az.toList.map a.eval++ks.map λk=>rY (some ⟨k,0,none⟩)) (args.map (fK st.tm)++caps.map λb=>AV.one (.ptr b 0)):=by
      refine⟨by have:=hvs.1;simp at this;simp[hk1,this],λj v z hv hz=>?_⟩;by_cases hj:j<(az.toList.map a.eval).length
      ·rw[cu hj]at hv;rw[cu (by rw[<- hvs.1];exact hj)]at hz;exact hvs.2 j v z hv hz
      ·rw[dU aI]at hv;rw[dU (by rw[<- hvs.1];omega)]at hz;rw[hvs.1]at hv;generalize j-(args.map (fK st.tm)).length=i at hv hz;rw[dG]at hv hz;cases hki:ks[i]? with
       |none=>rw[hki]at hv;cases hv
       | some k=>
         cases hci:caps[i]? with
         |none=>rw[hci]at hz;cases hz
         | some b=>rw[hki]at hv;rw[hci]at hz;simp at hv hz;subst hv;subst hz;obtain⟨cap,hr⟩:=hk2 i b k hci hki;exact⟨k,cap,hr,rfl⟩
     rw[<- hdd]at h2;have:=aal h hm MB hop ho amA (f:=f) (caps:=(ks.map λk=>rY (some ⟨k,0,none⟩)).toArray) hk3 (by simpa using hvs') h2;have e:(az.map a.eval++(ks.map λk=>rY (some ⟨k,0,none⟩)).toArray)=(az.toList.map a.eval++(ks.map λk=>rY (some ⟨k,0,none⟩)).toArray.toList).toArray:=(by apply zB;simp);rw[e];exact this
    ·exact h2.elim
   ·cases hci
def PA (pa:List (Nat×Value))(a:Act):Prop:=∀e,e∈pa->a.tmps.getD e.1 undef=e.2
def AO (E:Env P)(g0:Own)(pa:List (Nat×Value))(dp n:Nat)(K:gZ->Prop)(Γ : List OF)(a:Act)(w:World):Prop:=AO0 E g0 dp n K Γ a w/\PA pa a
theorem PA.put {pa:List (Nat×Value)}(h:PA pa a){d:Option Nat}(hd:∀e,e∈pa->d≠some e.1)(v:Value)(df:List Deferred):PA pa ({ a with defers:=df }.put d v):=λe he=>by
 cases d with
 |none=>exact h e he
 | some d=>have:e.1≠d:=λe'=>hd e he (by rw[e']);rw[<- h e he];exact o7 (a:={ a with defers:=df }) this
theorem adU {pa:List (Nat×Value)}(hpa:PA pa a){ops:Array Oper}{Q:Exit->Act->World->Prop}{o:Oper}(hd:∀e,e∈pa->o.dst≠some e.1){K:Act->World->Prop}(h:Hq P ops Q o K a w):Hq P ops Q o (λa w=>K a w/\PA pa a) a w:=by
 have hput:∀v,PA pa (a.put o.dst v):=λv=>hpa.put hd v a.defers;unfold Hq at h⊢;split
 ·rename_i hw;rw[aA hw]at h;refine h.imp (λh=>?_) id;unfold xe at h⊢;cases hr:(execOp a.eval o).run P w with
  | halt e w1=>rw[hr]at h;cases e<;>first|exact h|exact h.elim
  | ok nx w1=>
    rw[hr]at h;cases nx with
    |value v=>exact⟨h,hput v⟩
    |skip=>exact⟨h,hput undef⟩
    |defer d=>exact⟨h,hpa.put hd undef _⟩
    | enter f args=>
      refine Calls.mono h ?_;intro e w'' hq;cases e with
      |returned v=>exact⟨hq,hput v⟩
      |panicked c=>exact hq
      |outgrown=>exact hq
    |row r args=>exact Rows.mono h λv w'' hq=>⟨hq,hput v⟩
    |_=>exact h.elim
 ·rename_i hw;rw[au hw]at h;exact⟨h,hput undef⟩
theorem ZU (h:GX E I ρ n st a w)(hm:E.m<=10)(MB:LY E g0 dp Γ a w){pa:List (Nat×Value)}{pl:List Nat}(hpa:PA pa a)(hpl:∀e,e∈pa->e.1∈pl){ops:Array Oper}{Q:Exit->Act->World->Prop}{o:Oper}{ao:lK}{Dl:List OF}(hc:KU P n E.m ops o ao=true)(ho:OM P pl lz Γ o ao=some Dl){K:List Nat->List Nat->gZ->Prop}(hT:T P ao st K) :
 Hq P ops Q o (AO E g0 pa dp n (λst=>∃rd wr,K rd wr st) Dl) a w:=by
 unfold OM at ho;split at ho
 ·cases ho
 ·rename_i hn;refine adU hpa (λe he e'=>hn ?_) (afl h hm MB hc ho hT);rw[zH];exact⟨e.1,hpl e he,by rw[e'];simp⟩
end
end
section
def aa4 (P:Program)(pl:List Nat)(Γ : List OF)(o:Oper)(ao:lK):Option (List OF):=(OM P pl false Γ o ao).bind λLZ=>Vz LZ some
theorem aa5 {P:Program}{pl:List Nat}{Γ : List OF}{o:Oper}{ao:lK} : aa4 P pl Γ o ao=OM P pl false Γ o ao:=by
 unfold aa4;cases OM P pl false Γ o ao with
 |none=>rfl
 |some LZ=>simp[Gy (fc:=YQ) (λ_ _=>XE)]
def aa7 (P:Program)(pl:List Nat):List Oper->List lK->List OF->Option (List OF)
 |o::os,x::xs,Γ =>(aa4 P pl Γ o x).bind (aa7 P pl os xs)
 |_,_,Γ =>some Γ
def aez : List (List OF)->List OF
 |[]=>[]
 |a::r=>a.filter λf=>r.all λb=>b.contains f
abbrev DS :=Nat×List Nat×List OF
def acU {β:Type}(s:DS)(k:DS->β):β:=match s with
 |(a,l,Γ)=>zO a λa=>KX zO l λl=>Vz Γ fun Γ =>k (a,l,Γ)
theorem afP {β:Type}{s:DS}{k:DS->β} : acU s k=k s:=by obtain⟨a,l,Γ⟩:=s;simp only[acU,Iz,Gy (fc:=zO) (λ_ _=>Iz),RN]
def afn (s:DS):List DS->List DS
 |[]=>[s]
 |t::r=>if Nat.beq s.1 t.1&&s.2.1==t.2.1 then(t.1,t.2.1,t.2.2.filter s.2.2.contains)::r else t::afn s r
def VI (L:List Ah)(i:Nat):Option Ah:=L.find? λx=>x.i==i
def Vk (D:List Nat)(Γ : List OF):List OF:= Γ.filter λf=>D.all λd=>I8 d f
def alS (P:Program)(pl:List Nat)(ops:Array Oper)(L:List Ah)(D:List Nat)(s:DS):Option (List DS):=
 Ro (λi=>match VI L i,ops[i]? with
  |some x,some o=>(aa4 P pl s.2.2 o x.o).map λLZ=>(s.1-2^i,s.2.1.filter (· != i),Vk D LZ)
  | _,_=>none) (s.2.1.filter λi=>match VI L i with
    |some x=>s.2.1.all λj=> !x.Ig.contains j
    |none=>false)
def Zr (P:Program)(pl:List Nat)(ops:Array Oper)(L:List Ah)(D:List Nat):Nat->List DS->Option (List OF)
 |0,S=>some (aez (S.map (·.2.2)))
 |m+1,S=>(Ro (alS P pl ops L D) S).bind λSs=>KX acU (Ss.flatten.foldr afn []) (Zr P pl ops L D m)
def YZ (P:Program)(pl:List Nat)(ops:Array Oper)(x:Ah):Bool:=match ops[x.i]? with
 |some o=>(OM P pl true [] o x.o).isSome
 |none=>false
def amo (P:Program)(pl:List Nat)(ops:Array Oper):List Ah->List OF->List (Ah×Bool)
 |[],_=>[]
 | x::r,Γ =>match ops[x.i]? with
   | some o=>(match aa4 P pl Γ o x.o with
     | some LZ=>(x,match o.dst with
       |some d=>LZ.any λf=> !I8 d f
       |none=>true)::amo P pl ops r LZ
     |none=>(x::r).map λx=>(x,true))
   |none=>(x::r).map λx=>(x,true)
def akR (P:Program)(pl:List Nat)(ops:Array Oper):List (Ah×Bool)->List Nat->List Nat
 |[],_=>[]
 | (x,b)::r,nd=>if YZ P pl ops x && !(b&&(match x.o.d with
   |some d=>nd.contains d
   |none=>true))then x.i::akR P pl ops r nd else akR P pl ops r (x.o.slots++nd)
def La (P:Program)(pl:List Nat)(ops:Array Oper)(UE:List Nat)(x:Ah):Bool:=UE.contains x.i&&YZ P pl ops x
def aoV (P:Program)(pl:List Nat)(ops:Array Oper)(L:List Ah)(Γ : List OF)(UE:List Nat):Option (List OF):=
 let D:=(L.filter (La P pl ops UE)).filterMap λx=>(ops[x.i]?).bind (·.dst)
 let l:=(L.filter λx=> !La P pl ops UE x).map (·.i)
 KX zO D λD=>KX zO l λl=>Zr P pl ops L D l.length [(l.foldl (λa i=>a+2^i) 0,l,Vk D Γ)]
def anc (P:Program)(pl keep:List Nat)(ops:Array Oper)(L:List Ah)(Γ : List OF):Option (List OF):=
 KX zO (akR P pl ops (amo P pl ops L Γ).reverse (keep++pl)) (aoV P pl ops L Γ)
theorem U0 {s:DS} : ∀{l:List DS},(∃t,t∈afn s l/\t.2.1=s.2.1/\∀f,f∈t.2.2->f∈s.2.2)/\∀u,u∈l->∃t,t∈afn s l/\t.2.1=u.2.1/\∀f,f∈t.2.2->f∈u.2.2
 |[]=>⟨⟨s,bD ..,rfl,λ_ h=>h⟩,λu h=>by cases h⟩
 | t::r=>by
   obtain⟨h1,h2⟩:=U0 (s:=s) (l:=r);simp only[afn];split
   ·rename_i hc;simp only[ah,aY]at hc;refine⟨⟨_,bD ..,hc.2.symm,λf hf=>kT.1 (bF.1 hf).2⟩,λu hu=>?_⟩;rcases aK.1 hu with rfl|hu
    ·exact⟨_,bD ..,rfl,λf hf=>(bF.1 hf).1⟩
    ·exact⟨u,fJ _ hu,rfl,λ_ h=>h⟩
   ·refine⟨?_,λu hu=>?_⟩
    ·obtain⟨t',h3,h4⟩:=h1;exact⟨t',fJ _ h3,h4⟩
    ·rcases aK.1 hu with rfl|hu
     ·exact⟨u,bD ..,rfl,λ_ h=>h⟩
     ·obtain⟨t',h3,h4⟩:=h2 u hu;exact⟨t',fJ _ h3,h4⟩
theorem XP : ∀{l:List DS} {u:DS},u∈l->∃t,t∈l.foldr afn []/\t.2.1=u.2.1/\∀f,f∈t.2.2->f∈u.2.2
 | s::r,u,hu=>by
   simp only[List.foldr];rcases aK.1 hu with rfl|hu
   ·exact U0.1
   ·obtain⟨t,h1,h2,h3⟩:=XP hu;obtain⟨t',h4,h5,h6⟩:=(U0 (s:=s)).2 t h1;exact⟨t',h4,h5.trans h2,λf hf=>h3 f (h6 f hf)⟩
theorem ady {Γ : List OF}{op:Op}(h:Py [] op=true):Py Γ op=true:=by
 unfold Py at h⊢;split at h
 ·rename_i x az ts;unfold amM NY at h⊢;cases x<;>simp_all
 ·exact h
theorem akS {P:Program}{pl:List Nat}{ops:Array Oper}{x:Ah}{o:Oper}(h:YZ P pl ops x=true)(ho:ops[x.i]? = some o)(Γ : List OF):OM P pl true Γ o x.o=some (IU o.dst Γ):=by
 unfold YZ at h;rw[ho]at h;simp only at h;unfold OM at h⊢;split at h
 ·cases h
 ·rename_i hn;rw[au hn];unfold TP at h⊢;split
  ·rfl
  ·rename_i hne;split at h
   ·rename_i h1 h2;exact eF h2 (hne _ _ _ _ h1)
   ·unfold VS at h⊢;simp only[Bool.true_or,jY]at h⊢;split at h
    ·rename_i hq;rw[aA (ady hq)]
    ·cases h
theorem Sz {Gs:List (List OF)}{f:OF}(h:f∈aez Gs){G:List OF}(hG:G∈Gs):f∈G:=by
 cases Gs with
 |nil=>cases hG
 | cons a r=>
   rw[aez,bF,bf]at h;rcases aK.1 hG with rfl|hG
   ·exact h.1
   ·exact kT.1 (h.2 G hG)
section
variable {P:Program} {E:Env P} {n:Nat} {ops:Array Oper} {Q:Exit->Act->World->Prop} {Γ : List OF} {g0:Own} {dp:Nat} {pa:List (Nat×Value)} {pl:List Nat}
theorem AO.imp {K K':gZ->Prop}{Dl:List OF}(hk:∀st,K st->K' st){a:Act}{w:World}(h:AO E g0 pa dp n K Γ a w)(hs:∀f,f∈Dl->f ∈ Γ):AO E g0 pa dp n K' Dl a w:=
 ⟨⟨AK.imp hk h.1.1,h.1.2.weak hs⟩,h.2⟩
theorem TR (hm:E.m<=10)(hpl:∀e,e∈pa->e.1∈pl):∀{os:List Oper} {xs:List lK} {K:gZ->Prop} {Γ Dl:List OF} {a:Act} {w:World},RD P n E.m ops os xs=true->aa7 P pl os xs Γ = some Dl->AO E g0 pa dp n (λst=>wpOps P xs st K) Γ a w ->
 (∀a w,AO E g0 pa dp n K Dl a w->Q .normal a w)->wpList P ops Q os a w
 |[],[],K,Γ,Dl,a,w,_,ho,h,hq=>by simp only[aa7]at ho;cases ho;exact hq a w h
 | o::os,x::xs,K,Γ,Dl,a,w,hc,ho,h,hq=>by
   simp only[RD,ah]at hc;simp only[aa7,yS]at ho;obtain⟨LZ,ho1,ho2⟩:=ho;rw[aa5]at ho1;obtain⟨⟨⟨I,ρ,st,hT,hg⟩,MB⟩,hpa⟩:=h;have h1:=ZU (Q:=Q) (ops:=ops) hg hm MB hpa hpl hc.1 ho1 (show T P x st λ_ _ st'=>wpOps P xs st' K from hT);unfold Hq at h1;unfold wpList;have key:∀a w,AO E g0 pa dp n (λst=>∃rd wr:List Nat,wpOps P xs st K) LZ a w->wpList P ops Q os a w:=λa w hk=>TR hm hpl hc.2 ho2 (hk.imp (λst ⟨_,_,h⟩=>h) λf hf=>hf) hq;split
   ·rename_i hw;rw[aA hw]at h1;exact h1.imp (CB key) id
   ·rename_i hw;rw[au hw]at h1;exact key _ _ h1
 |[],_::_,_,_,_,_,_,hc,_,_,_=>by cases hc
 |_::_,[],_,_,_,_,_,hc,_,_,_=>by cases hc
theorem agz {m k:Nat}{L l:List Ah}{D:List Nat}{S:List DS}{G:List OF}{x:Ah}{o:Oper}(hD:Zr P pl ops L D (m+1) S=some G)(hS:(k,l.map (·.i),Γ)∈S)(hx:x∈l)(hr:∀z,z∈l->¬z.i∈x.Ig)(hL:VI L x.i=some x)(ho:ops[x.i]? = some o) :
 ∃LZ S' k' Γ2,OM P pl false Γ o x.o=some LZ/\(k',(l.filter λz=>z.i != x.i).map (·.i),Γ2)∈S'/\(∀f,f ∈ Γ2->f∈Vk D LZ)/\Zr P pl ops L D m S'=some G:=by
 simp only[Zr,yS]at hD;obtain⟨Ss,h1,h2⟩:=hD;rw[Gy (λ_ _=>afP)]at h2;obtain⟨T,h3,h4⟩:=FM h1 _ hS;unfold alS at h3;obtain⟨t,h5,h6⟩:=FM h3 x.i (bF.2 ⟨bu.2 ⟨x,hx,rfl⟩,by rw[hL];simp only[bf,bu];rintro j ⟨z,hz,rfl⟩;have:=hr z hz;simpa using this⟩)
 rw[hL,ho]at h5;simp only[dD]at h5;obtain⟨LZ,h7,rfl⟩:=h5;rw[aa5]at h7;obtain⟨⟨k',r',Γ2⟩,h8,h9,h10⟩:=XP (List.mem_flatten.2 ⟨T,h4,h6⟩);simp only at h9;subst h9;refine⟨LZ,_,k',Γ2,h7,?_,h10,h2⟩;rw[List.filter_map]at h8;exact h8
theorem acS {pre post:List Ah}{x:Ah}(h:(pre++x::post).Pairwise λx y=>x.i<y.i):((pre++x::post).filter λz=>z.i != x.i)=pre++post:=by
 rw[DJ]at h;obtain⟨_,h2,h3⟩:=h;rw[sO]at h2;rw[wP,List.filter_cons_of_neg mD]
 congr 1
 ·rw[x8];intro z hz;have:=h3 z hz x (bD ..);simp;omega
 ·rw[x8];intro z hz;have:=h2.1 z hz;simp;omega
theorem ab8 (hm:E.m<=10)(hpl:∀e,e∈pa->e.1∈pl){L:List (lK×List Nat)}(hc:Qc P n E.m ops L=true){K:gZ->Prop}{Γe:List OF}{UE D:List Nat}(hDd:∀x o d,x∈items L 0->La P pl ops UE x=true->ops[x.i]? = some o->o.dst=some d->d∈D)(hq:∀a w,AO E g0 pa dp n K Γe a w->Q .normal a w) :
 ∀ (fuel:Nat) (l:List Ah) (listed:Array Bool) (log:Log) (Γ G:List OF) (a:Act) (w:World),(∃S k,(k,(l.filter λx=> !La P pl ops UE x).map (·.i),Γ)∈S/\Zr P pl ops (items L 0) D (l.filter λx=> !La P pl ops UE x).length S=some G)->(∀f,f ∈ Γ -> ∀d,d∈D->I8 d f=true)->(∀f,f ∈ Γe->f∈G)->l.length<=fuel->l.Sublist (items L 0)->listed.size=ops.size ->
   (∀x,x∈items L 0->(listed.getD x.i true=false<->x∈l)) ->
   (∀x,x∈items L 0->listed.getD x.i false=true->∀j,j∈x.Ig->listed.getD j false=true) ->
   AO E g0 pa dp n (λst=>wpI P l log st K) Γ a w->wpAny P .any ops Q fuel listed a w:=by
 simp only[Qc,ah,aY,bf]at hc;obtain⟨⟨hlen,hit⟩,hap⟩:=hc;obtain⟨i1,i2,i3⟩:=Nj (l:=L) (i:=0);have hpw:(items L 0).Pairwise λx y=>x.i<y.i/\(x.i∈y.Ig\/KQ x.o y.o=true):=i2.and (MO hap);have XJ:∀x y,x∈items L 0->y∈items L 0->x.i=y.i->x=y:=by
  intro x y hx hy e;obtain⟨p,hp,rfl⟩:=wE hx;obtain⟨q,hq',rfl⟩:=wE hy;have aij:=yf.1 i2;rcases yY p q with h|h|h
  ·have:=aij p q hp hq' h;omega
  ·subst h;rfl
  ·have:=aij q p hq' hp h;omega
 have ac2:∀(l:List Ah) (listed:Array Bool),l.Sublist (items L 0)->listed.size=ops.size->(∀x,x∈items L 0->(listed.getD x.i true=false<->x∈l))->ve .any ops listed=[]->l=[]:=by
  intro l listed hsub hsz hl hr;cases l with
  |nil=>rfl
  | cons x r=>
    exfalso;have hx:=hsub.subset (bD ..);have hc:=hit x hx;unfold Qa at hc;cases ho:ops[x.i]? with
    |none=>rw[ho]at hc;cases hc
    | some o=>
      rw[ho]at hc;simp only[ah,U6,bf,iJ,kW,aC]at hc;have:x.i∈ve .any ops listed:=by
       rw[mem_ready];refine⟨(hl x hx).2 (bD ..),o,ho,λe he hb=>?_⟩;have hlt:=(hc.2.2 e (by simpa using he)).resolve_left (by rw[hb];simp);have hxi:=i1 x hx;obtain⟨y,hy,hye⟩:=i3 e.on aI;have hye:y.i=e.on:=(by omega);by_cases hyl:y∈x::r
       ·exfalso;rcases aK.1 hyl with rfl|hyr
        ·omega
        ·have:=(sO.1 (i2.sublist hsub)).1 y hyr;omega
       ·have h1:¬listed.getD y.i true=false:=λh=>hyl ((hl y hy).1 h);have hin:y.i<listed.size:=(by rw[hsz,<- hlen];have:=i1 y hy;omega);rw[<- hye];simp only[fH,lZ hin,lW]at h1⊢;simpa using h1
      rw[hr]at this;cases this
 intro fuel
 induction fuel with
 | zero=>
   intro l listed log Γ G a w hD hcl hG hf hsub hsz hl _ h;have:l=[]:=wH.1 aI;subst this;obtain⟨S,k,hS,hD⟩:=hD;simp only[List.filter_nil,iU,Zr]at hD;cases hD;refine⟨?_,hq a w (h.imp (λ_ h=>h) λf hf=>Sz (hG f hf) (bu.2 ⟨_,hS,rfl⟩))⟩;cases hr:ve .any ops listed with
   |nil=>rfl
   | cons i r=>exfalso;have hi:i∈ve .any ops listed:=(by rw[hr];exact bD ..);obtain⟨hu,o,ho,_⟩:=mem_ready.1 hi;have hlt:=(eH.1 ho).1;obtain⟨y,hy,hye⟩:=i3 i aI;have hye:y.i=i:=(by omega);have:=(hl y hy).1 (by rw[hye];exact hu);cases this
 | succ fuel ih=>
   intro l listed log Γ G a w hD hcl hG hf hsub hsz hl hdown h;refine⟨λhr=>?_,λi hi=>?_⟩
   ·have:=ac2 l listed hsub hsz hl hr;subst this;obtain⟨S,k,hS,hD⟩:=hD;simp only[List.filter_nil,iU,Zr]at hD;cases hD;exact hq a w (h.imp (λ_ h=>h) λf hf=>Sz (hG f hf) (bu.2 ⟨_,hS,rfl⟩))
   ·obtain⟨hu,o,ho,hall⟩:=mem_ready.1 hi;have hlt:=(eH.1 ho).1;obtain⟨x,hx,hxe⟩:=i3 i aI;have hxe:x.i=i:=(by omega);subst hxe;have hxl:=(hl x hx).1 hu;have hcx:=hit x hx;unfold Qa at hcx;rw[ho]at hcx;simp only[ah]at hcx;obtain⟨hco,hca⟩:=hcx;have haft:∀j,j∈x.Ig->listed.getD j false=true:=by
     intro j hj;simp only[U6,ah,bf,zH,iJ,aY]at hca;obtain⟨e,he,hb,hej⟩:=hca.1 j hj;have hel:=hall e (by simpa using he) hb;rcases hej with rfl|⟨y,hy,hye,hyj⟩
     ·exact hel
     ·rw[<- hye]at hel;exact hdown y hy hel j (by simpa using hyj)
    have an8:VI (items L 0) x.i=some x:=by
     unfold VI;cases hfind:(items L 0).find? (λz=>z.i==x.i)with
     |none=>exact eF mD (List.find?_eq_none.1 hfind x hx)
     | some z=>have h1:=List.find?_some hfind;have h2:=List.mem_of_find?_eq_some hfind;rw[XJ z x h2 hx (by simpa using h1)]
    have apM:∀z,z∈l->¬z.i∈x.Ig:=λz hz hm=>by have h2:=haft _ hm;rw[YV ((hl z (hsub.subset hz)).2 hz)]at h2;cases h2
    obtain⟨pre,post,rfl⟩:=List.append_of_mem hxl;have apI:((pre++x::post).filter λz=>z.i != x.i)=pre++post:=acS (i2.sublist hsub);obtain⟨lz,LZ,S1,k1,Γ2,hO1,hO2,hO4,hO5,hO3⟩:∃lz LZ S1 k1 Γ2,OM P pl lz Γ o x.o=some LZ/\(k1,((pre++post).filter λx=> !La P pl ops UE x).map (·.i),Γ2)∈S1/\(∀f,f ∈ Γ2->f∈LZ)/\(∀f,f ∈ Γ2->∀d,d∈D->I8 d f=true)/\Zr P pl ops (items L 0) D ((pre++post).filter λx=> !La P pl ops UE x).length S1=some G:=by
     obtain⟨S,k,hS,hD⟩:=hD;cases hz:La P pl ops UE x with
     | true=>
       have e:((pre++x::post).filter λx=> !La P pl ops UE x)=((pre++post).filter λx=> !La P pl ops UE x):=(by rw[wP,List.filter_cons_of_neg (by simp[hz]),<- wP]);rw[e]at hS hD;have hz':=hz;simp only[La,ah]at hz';refine⟨true,_,S,k,Γ,akS hz'.2 ho Γ,hS,λf hf=>?_,hcl,hD⟩;unfold IU;rw[bF];refine⟨hf,?_⟩;cases hd:o.dst with
       |none=>rfl
       |some d=>exact hcl f hf d (hDd x o d hx hz ho hd)
     | false=>
       have e:((pre++x::post).filter λx=> !La P pl ops UE x)=(pre.filter λx=> !La P pl ops UE x)++x::(post.filter λx=> !La P pl ops UE x):=(by rw[wP,List.filter_cons_of_pos (by simp[hz])]);have e2:((pre++x::post).filter λx=> !La P pl ops UE x).length=((pre++post).filter λx=> !La P pl ops UE x).length+1:=(by rw[e,wP];simp;omega);rw[e2]at hD;obtain⟨LZ,S',k',Γ2,h1,h2,h3,h4⟩:=agz hD hS (bF.2 ⟨hxl,by simp[hz]⟩) (λz hz=>apM z (bF.1 hz).1) an8 ho;refine⟨false,LZ,S',k',Γ2,h1,?_,λf hf=>(bF.1 (h3 f hf)).1,λf hf d hd=>bf.1 (bF.1 (h3 f hf)).2 d hd,h4⟩;have e3:(((pre++x::post).filter λx=> !La P pl ops UE x).filter λz=>z.i != x.i)=(pre++post).filter λx=> !La P pl ops UE x:=by
        rw[<- apI,List.filter_filter,List.filter_filter]
        congr 1
        funext z
        exact Bool.and_comm _ _
       rw[e3]at h2;exact h2
    have YW:=hpw.sublist hsub;rw[DJ]at YW;have hpre:∀p,p∈pre->p.i ∉ x.Ig/\KQ p.o x.o=true:=by
     intro p hp;have h1:=YW.2.2 p hp x (bD ..);have hn:p.i ∉ x.Ig:=by intro hm';have h2:=haft _ hm';have h3:=(hl p (hsub.subset (dZ _ hp))).2 (dZ _ hp);rw[YV h3]at h2;cases h2
     exact⟨hn,h1.2.resolve_left hn⟩
    obtain⟨⟨⟨I,ρ,st,hT,hg⟩,MB⟩,hpa⟩:=h;have hT:=Tn hpre hT;have h1:=ZU (Q:=Q) (ops:=ops) hg hm MB hpa hpl hco hO1 (show T P x.o st λrd wr st'=>Aw x.Ig rd wr log=true/\wpI P (pre++post) ((x.i,rd,wr)::log) st' K from hT);have key:∀a w,AO E g0 pa dp n (λst=>∃rd wr,Aw x.Ig rd wr log=true/\wpI P (pre++post) ((x.i,rd,wr)::log) st K) LZ a w->wpAny P .any ops Q fuel (listed.setIfInBounds x.i true) a w:=by
     rintro a w ⟨⟨⟨I,ρ,st,⟨rd,wr,_,hk⟩,hg⟩,MB⟩,hpa⟩;have MB:=MB.weak hO4;have hnx:x ∉ pre++post:=by
      intro hxm;rcases bG.1 hxm with h|h
      ·have:=(YW.2.2 x h x (bD ..)).1;omega
      ·have:=((sO.1 YW.2.1).1 x h).1;omega
     refine ih (pre++post) _ ((x.i,rd,wr)::log) Γ2 G a w ⟨S1,k1,hO2,hO3⟩ hO5 hG (by simp at hf⊢;omega) ?_ (by simp[hsz]) ?_ ?_ ⟨⟨⟨I,ρ,st,hk,hg⟩,MB⟩,hpa⟩
     ·exact(List.Sublist.append_left (List.sublist_cons_self x post) pre).trans hsub
     ·intro y hy;by_cases hyx:y=x
      ·subst hyx;constructor
       ·intro h;have hin:y.i<listed.size:=(by rw[hsz];exact hlt);simp[hin]at h
       ·intro h;exact eF h hnx
      ·have hne:x.i≠y.i:=λe=>hyx (XJ y x hy hx e.symm);rw[getD_set_ne true hne,hl y hy];simp only[bG,aK,hyx,false_or]
     ·intro y hy hyl j hj;by_cases hyx:y=x
      ·subst hyx;exact getD_set_true (haft j hj)
      ·have hne:x.i≠y.i:=λe=>hyx (XJ y x hy hx e.symm);rw[getD_set_ne false hne]at hyl;exact getD_set_true (hdown y hy hyl j hj)
    unfold wpOp;rw[ho];unfold Hq at h1;simp only;split
    ·rename_i hw;rw[aA hw]at h1;exact h1.imp (CB key) id
    ·rename_i hw;rw[au hw]at h1;exact key _ _ h1
theorem abn (hm:E.m<=10)(hpl:∀e,e∈pa->e.1∈pl)(hf:P.follows .mixedOrders=true){L:List (lK×List Nat)}(hc:Qc P n E.m ops L=true){K:gZ->Prop}{Γ Γe:List OF}{keep:List Nat}(hD:anc P pl keep ops (items L 0) Γ = some Γe)(hq:∀a w,AO E g0 pa dp n K Γe a w->Q .normal a w)
 {id:Nat} {a:Act} {w:World} (h:AO E g0 pa dp n (λst=>wpD P L 0 [] st K) Γ a w):(Dt id ops true).wp P Q a w:=by
 refine wp_region_any hf ?_;have hlen:L.length=ops.size:=by simp only[Qc,ah,aY]at hc;exact hc.1.1
 have i0:=Nj (l:=L) (i:=0);have hil:(items L 0).length=L.length:=by
  clear i0 hlen h hc hD;generalize 0=i
  induction L generalizing i with
  |nil=>rfl
  |cons x r ih=>obtain⟨o,Ig⟩:=x;simp[items,ih]
 unfold anc at hD;rw[Gy (λ_ _=>Iz)]at hD;generalize akR P pl ops (amo P pl ops (items L 0) Γ).reverse (keep++pl)=UE at hD;unfold aoV at hD;simp only[Gy (fc:=zO) (λ_ _=>Iz),vg]at hD;generalize hDD:((items L 0).filter (La P pl ops UE)).filterMap (λx=>(ops[x.i]?).bind (·.dst))=D at hD;refine ab8 hm hpl hc (UE:=UE) (D:=D) ?_ hq ops.size (items L 0) (tC ops.size false) [] (Vk D Γ) Γe a _ ⟨_,_,bD ..,hD⟩ (λf hf d hd=>bf.1 (bF.1 hf).2 d hd) (λ_ h=>h) aI (EF _) mD ?_ ?_ ?_
 ·intro x o d hx hz ho hd;rw[<- hDD,eG];exact⟨x,bF.2 ⟨hx,hz⟩,by rw[ho];exact hd⟩
 ·intro x hx;have:=i0.1 x hx;have hlt:x.i<ops.size:=by omega
  simp[hlt,hx]
 ·intro x hx h;exfalso;have:=i0.1 x hx;have hlt:x.i<ops.size:=by omega
  simp[hlt]at h
 ·obtain⟨⟨⟨I,ρ,st,hT,hg⟩,g,hg1,hg2⟩,hpa⟩:=h;have hg3:=hg2.weak (Dl:=Vk D Γ) λf hf=>(bF.1 hf).1;refine⟨⟨?_,g,hg1,hg3.world (aF _) λ_ _=>rfl⟩,hpa⟩;exact⟨I,ρ,st,Eq.mp (adT (P:=P) (l:=L) (i:=0) (log:=[]) (st:=st) (K:=K)) hT,hg.drew⟩
end
end
section
def MC (zs:List Nat)(bx:Nat->Box)(π:Nat->Option Nat)(vs:List Nat):AC->AC->Prop
 |_,.Nk=>True
 |.c x,.c y=>x=y
 |.og sz,.c y=>y = .sl sz []
 | .own b n sz,.c y=>b∈zs/\match(bx b).arr with
   |some (sz',es)=>sz'=sz/\n<=es.length/\y = .sl sz (es.take n)
   |none=>False
 |.og sz,.og sz'=>sz=sz'
 |.og sz,.own b n sz'=>b∈vs/\n=0/\sz=sz'
 |.own b n sz,.own b' n' sz'=>π b'=some b/\n=n'/\sz=sz'
 |.sub b lo n _ sz,.own b' n' sz'=>π b'=some b/\lo=0/\n=n'/\sz=sz'
 |.sub b lo n c sz,.sub b' lo' n' c' sz'=>π b'=some b/\lo=lo'/\n=n'/\c=c'/\sz=sz'
 |.ptr b o,.ptr b' o'=>π b'=some b/\o=o'
 |.BF b i sz o,.BF b' i' sz' o'=>π b'=some b/\i=i'/\sz=sz'/\o=o'
 |.Ik cs,.Ik cs'=>cs=cs'
 |.fn f caps,.fn f' aeb=>f=f'/\aeb.map π=caps.map some
 |.opt T b,.opt T' b'=>T=T'/\π b'=some b
 |.zV b n,.zV b' n'=>π b'=some b/\n=n'
 |.err g,.err g'=>g=g'
 |_,_=>False
def PM (zs:List Nat)(bx:Nat->Box)(π:Nat->Option Nat)(vs:List Nat):List AC->List AC->Prop
 |[],[]=>True
 |x::xs,y::ys=>MC zs bx π vs x y/\PM zs bx π vs xs ys
 |_,_=>False
def Xl (zs:List Nat)(bx:Nat->Box)(π:Nat->Option Nat)(vs:List Nat):List (Bool×List AC)->List (Bool×List AC)->Prop
 |[],[]=>True
 |(g,x)::xs,(g',y)::ys=>g=g'/\PM zs bx π vs x y/\Xl zs bx π vs xs ys
 |_,_=>False
def wkV (zs:List Nat)(bx:Nat->Box)(π:Nat->Option Nat)(vs:List Nat):AV->AV->Prop
 |.one x,.one y=>MC zs bx π vs x y
 |.agg xs,.agg ys=>PM zs bx π vs xs ys
 |.AA xs,.AA ys=>Xl zs bx π vs xs ys
 |_,_=>False
def wkB (zs:List Nat)(bx:Nat->Box)(π:Nat->Option Nat)(vs:List Nat)(b:Nat):Box->Prop
 |.absent=>π b=none/\b ∉ vs
 |.dead=>True
 | .var ys=>match π b with
   | some c=>match bx c with
     |.var xs=>PM zs bx π vs xs ys
     |_=>False
   |none=>False
 | .dat sz es=>match π b with
   |some c=>c ∉ zs/\(bx c = .dat sz es\/∃t,bx c = .dat sz (es++t))
   |none=>b∈vs/\es=[]
 | .Hz sz es=>match π b with
   |some c=>bx c = .Hz sz es\/(c∈zs/\bx c = .dat sz es)
   |none=>False
 | .row e l=>match π b with
   |some c=>bx c = .row e l
   |none=>False
def Box.RZ : Box->Bool
 |.dead=>true
 |_=>false
structure WkS (m:Nat)(bx bx':Nat->Box)(zs:List Nat)(π:Nat->Option Nat)(vs:List Nat):Prop where
 box:∀b,wkB zs bx π vs b (bx' b)
 inj:∀b b' c,(bx' b).RZ=false->(bx' b').RZ=false->π b=some c->π b'=some c->b=b'
 vir:∀b,b∈vs->π b=none
 fix:∀b,b<m->π b=some b\/(π b=none/\b ∉ vs/\bx b = .absent)
def Xm (zs:List Nat)(bx:Nat->Box)(π:Nat->Option Nat)(vs:List Nat):Slot->Slot->Prop
 |_,.none=>True
 |.v g x,.v g' y=>g=g'/\(g=true->wkV zs bx π vs x y)
 |_,_=>False
def Ou (m:Nat)(st S:gZ):Prop:=∃zs π vs,WkS m st.bx S.bx zs π vs/\∀t,Xm zs st.bx π vs (st.tm t) (S.tm t)
section
variable {P:Program} {E:Env P} {I:IH} {ρ:Ren} {n:Nat} {st:gZ} {a:Act} {w:World}
def EZ (ρ:Ren)(π:Nat->Option Nat)(vs:List Nat):Ren:=λb=>match π b with
 |some c=>ρ c
 |none=>if b∈vs then some (0,0)else none
theorem ajI (h:GX E I ρ n st a w){zs vs:List Nat}{π:Nat->Option Nat}(hvs:∀b,b∈vs->π b=none){v:Value}{x y:AC}(hx:GC I ρ v x)(hy:MC zs st.bx π vs x y):GC (Ed I ρ w st.bx zs) (EZ ρ π vs) v y:=by
 have hle:=Io h.bx zs;cases y with
 |Nk=>exact hx.one
 | c y=>
   cases x with
   |c x=>simp only[MC]at hy;subst hy;exact Rd.mono hle hx
   | og sz=>simp only[MC]at hy;subst hy;simp only[GC]at hx;subst hx;exact Rd.sl none 0 0 _ [] (λ_ _=>undef) rfl (aF _) (by simp[maxLen]) mD mD (by intro ad h;cases h) mD
   | own b m sz=>
     simp only[MC]at hy;obtain⟨hb,hy⟩:=hy;split at hy
     ·rename_i sz' es harr;obtain⟨rfl,hm,rfl⟩:=hy;exact Y0 h hb harr hm hx
     ·exact hy.elim
   |_=>simp[MC]at hy
 | og sz=>cases x<;>simp only[MC]at hy;subst hy;exact hx
 | own b' m' sz'=>
   cases x with
   | og sz=>simp only[MC]at hy;obtain⟨hb,rfl,rfl⟩:=hy;simp only[GC]at hx;subst hx;exact⟨0,0,none,0,by simp[EZ,hvs b' hb,hb],rfl,aF _,aF _,λh=>eF rfl h⟩
   | own b m sz=>simp only[MC]at hy;obtain⟨hb,rfl,rfl⟩:=hy;obtain⟨k,cap,ad,c,hr,hrest⟩:=hx;exact⟨k,cap,ad,c,by simp only[EZ,hb];exact hr,hrest⟩
   | sub b lo m c0 sz=>simp only[MC]at hy;obtain⟨hb,rfl,rfl,rfl⟩:=hy;obtain⟨k,cap,ad,c,hr,hv,hm,hcc,_,ha⟩:=hx;refine⟨k,cap,ad,c,by simp only[EZ,hb];exact hr,hv,hm,aI,λhc0=>?_⟩;have:=ha (.inr ⟨rfl,hc0⟩);rw[zY]at this;exact this
   |_=>simp[MC]at hy
 | sub b' lo' m' c' sz'=>
   cases x with
   | sub b lo m c sz=>simp only[MC]at hy;obtain⟨hb,rfl,rfl,rfl,rfl⟩:=hy;obtain⟨k,cap,ad,c1,hr,hrest⟩:=hx;exact⟨k,cap,ad,c1,by simp only[EZ,hb];exact hr,hrest⟩
   |_=>simp[MC]at hy
 | ptr b' o'=>
   cases x with
   | ptr b o=>simp only[MC]at hy;obtain⟨hb,rfl⟩:=hy;obtain⟨k,cap,hr,hrest⟩:=hx;exact⟨k,cap,by simp only[EZ,hb];exact hr,hrest⟩
   |_=>simp[MC]at hy
 | BF b' i' sz' o'=>
   cases x with
   | BF b i sz o=>simp only[MC]at hy;obtain⟨hb,rfl,rfl,rfl⟩:=hy;obtain⟨k,cap,hr,hrest⟩:=hx;exact⟨k,cap,by simp only[EZ,hb];exact hr,hrest⟩
   |_=>simp[MC]at hy
 | opt T' b'=>
   cases x with
   | opt T b=>simp only[MC]at hy;obtain⟨rfl,hb⟩:=hy;obtain⟨k,hr,hrest⟩:=hx;exact⟨k,by simp only[EZ,hb];exact hr,hrest⟩
   |_=>simp[MC]at hy
 | zV b' n'=>
   cases x with
   | zV b n=>simp only[MC]at hy;obtain⟨hb,rfl⟩:=hy;obtain⟨k,cap,hr,hrest⟩:=hx;exact⟨k,cap,by simp only[EZ,hb];exact hr,hrest⟩
   |_=>simp[MC]at hy
 | err g'=>
   cases x with
   |err g=>simp only[MC]at hy;subst hy;exact hx
   |_=>simp[MC]at hy
 | Ik cs'=>
   cases x with
   | Ik cs=>simp only[MC]at hy;subst hy;obtain⟨p,hv,hc⟩:=hx;exact⟨p,hv,λj c hj=>let ⟨u,h1,h2⟩:=hc j c hj;⟨u,IH.N8 hle h1,h2.mono hle⟩⟩
   |_=>simp[MC]at hy
 | fn f' aeb=>
   cases x with
   | fn f caps=>simp only[MC]at hy;obtain⟨rfl,hcs⟩:=hy;obtain⟨ks,hk1,hk2,hk3⟩:=hx;have hlen:aeb.length=caps.length:=(by have:=sN List.length hcs;simpa using this);refine⟨ks,by rw[hlen];exact hk1,λj b k hb hk=>?_,hk3⟩;have hj:j<caps.length:=(by have:=(aS.1 hb).1;omega);have h1:(aeb.map π)[j]? = (caps.map some)[j]?:=(by rw[hcs]);rw[dG,dG,hb,aB hj]at h1;simp only[kL,aH]at h1;obtain⟨cap,hr⟩:=hk2 j _ k (aB hj) hk;exact⟨cap,by simp only[EZ,h1];exact hr⟩
   |_=>simp[MC]at hy
theorem ZH (h:GX E I ρ n st a w){zs vs:List Nat}{π:Nat->Option Nat}(hvs:∀b,b∈vs->π b=none):∀{us:List Value} {xs ys:List AC},NT I ρ us xs->PM zs st.bx π vs xs ys->NT (Ed I ρ w st.bx zs) (EZ ρ π vs) us ys
 |us,[],[],hx,_=>⟨hx.1,λj v x hv hx=>by simp at hx⟩
 | u::us,x::xs,y::ys,hx,hy=>by
   have ih:=ZH h hvs (us:=us) (xs:=xs) (ys:=ys) ⟨by simpa using hx.1,λj v z hv hz=>hx.2 (j+1) v z (by simpa using hv) (by simpa using hz)⟩ hy.2;refine⟨by simp[ih.1],λj v z hv hz=>?_⟩;cases j with
   | zero=>simp at hv hz;subst hv;subst hz;exact ajI h hvs (hx.2 0 _ _ rfl rfl) hy.1
   |succ j=>exact ih.2 j v z (by simpa using hv) (by simpa using hz)
 |[],_::_,_,hx,_=>by have:=hx.1;simp at this
 |_,[],_::_,_,hy=>by simp[PM]at hy
 |_,_::_,[],_,hy=>by simp[PM]at hy
theorem abK {zs vs:List Nat}{bx:Nat->Box}{π:Nat->Option Nat} : ∀{xs ys:List (Bool×List AC)},Xl zs bx π vs xs ys->xs.length=ys.length/\∀(j:Nat) (y:Bool×List AC),ys[j]? = some y->∃x:Bool×List AC,xs[j]? = some x/\x.1=y.1/\PM zs bx π vs x.2 y.2
 |[],[],_=>⟨rfl,λj y hy=>by simp at hy⟩
 | (g,x)::xs,(g',y)::ys,h=>by
   obtain⟨h1,h2,h3⟩:=h;obtain⟨i1,i2⟩:=abK h3;refine⟨by simp[i1],λj z hz=>?_⟩;cases j with
   |zero=>simp at hz;subst hz;exact⟨(g,x),rfl,h1,h2⟩
   | succ j=>obtain⟨q,hq,hr⟩:=i2 j z (by simpa using hz);exact⟨q,by simpa using hq,hr⟩
 |[],_::_,h=>by simp[Xl]at h
 |_::_,[],h=>by simp[Xl]at h
theorem al0 (h:GX E I ρ n st a w){zs vs:List Nat}{π:Nat->Option Nat}(hvs:∀b,b∈vs->π b=none){v:Value}{x y:AV}(hx:GV I ρ v x)(hy:wkV zs st.bx π vs x y):GV (Ed I ρ w st.bx zs) (EZ ρ π vs) v y:=by
 cases x with
 | one x=>cases y with
   |one y=>exact ajI h hvs hx hy
   |_=>exact hy.elim
 | agg xs=>cases y with
   |agg ys=>obtain⟨cs,rfl,hg⟩:=hx;exact⟨cs,rfl,ZH h hvs hg hy⟩
   |_=>exact hy.elim
 | AA ps=>cases y with
   | AA qs=>
     obtain⟨us,rfl,hl,hp⟩:=hx;obtain⟨i1,i2⟩:=abK (show Xl zs st.bx π vs ps qs from hy);refine⟨us,rfl,by rw[hl,i1],λj v q hv hq=>?_⟩;obtain⟨p,hpj,e,hw⟩:=i2 j q hq;have h1:=hp j v p hv hpj;unfold GP at h1⊢;rw[e]at h1;split at h1
     ·rename_i hb;rw[aA hb];obtain⟨cs,rfl,hg⟩:=h1;exact⟨cs,rfl,ZH h hvs hg hw⟩
     ·rename_i hb;rw[au hb];obtain⟨x,hx,hg⟩:=h1;rw[hx]at hw;cases hq2:q.2 with
      |nil=>rw[hq2]at hw;exact hw.elim
      | cons y t=>
        rw[hq2]at hw;cases t with
        |nil=>exact⟨y,rfl,ajI h hvs hg hw.1⟩
        |cons z t=>exact hw.2.elim
   |_=>exact hy.elim
theorem Yd (h:GX E I ρ n st a w){m:Nat}(hm:E.m<=m){bx':Nat->Box}{zs vs:List Nat}{π:Nat->Option Nat}(hw:WkS m st.bx bx' zs π vs) :
 GX E (Ed I ρ w st.bx zs) (EZ ρ π vs) n ⟨λ_=>.none,bx'⟩ a w:=by
 have hF:=h.freeze zs;generalize hJ:Ed I ρ w st.bx zs=J at *;have hnd:∀b k,(bx' b).uses (EZ ρ π vs b) k->(bx' b).RZ=false:=λb k hu=>by
  cases hx:bx' b with
  |dead=>rw[hx]at hu;exact hu.elim
  |_=>rfl
 have Ep:∀b k,(bx' b).uses (EZ ρ π vs b) k->∃c,π b=some c/\((st.Hz zs).bx c).uses (ρ c) k:=by
  intro b k hu;have hb:=hw.box b;cases hx:bx' b with
  | var ys=>
    rw[hx]at hu hb;simp only[wkB]at hb;split at hb
    ·rename_i c hc;refine⟨c,hc,?_⟩;split at hb
     ·rename_i xs hxs;rw[Cc,hxs];simp only[EZ,hc]at hu;split<;>exact hu
     ·exact hb.elim
    ·exact hb.elim
  | dat sz es=>
    rw[hx]at hu hb;simp only[wkB]at hb;split at hb
    ·rename_i c hc;refine⟨c,hc,?_⟩;simp only[EZ,hc]at hu;rcases hb.2 with hb2|⟨t,hb2⟩
     ·rw[Cc,au hb.1,hb2];exact hu
     ·rw[Cc,au hb.1,hb2];exact hu
    ·rename_i hc;obtain⟨cap,hu1,hu2⟩:=hu;simp only[EZ,hc,hb.1,jY,aH,dF]at hu1;exact eF hu1.2.symm hu2
  | row e l=>
    rw[hx]at hu hb;simp only[wkB]at hb;split at hb
    ·rename_i c hc;refine⟨c,hc,?_⟩;simp only[EZ,hc]at hu;rw[Cc,hb];split<;>exact hu
    ·exact hb.elim
  |absent=>rw[hx]at hu;exact hu.elim
  |dead=>rw[hx]at hu;exact hu.elim
  |Hz sz es=>rw[hx]at hu;exact hu.elim
 refine{ agree:=hF.agree,bx:=⟨λb=>?_,λb b' k hb hb'=>?_,λb k hb=>?_⟩,tm:=λt ht=>trivial,size:=h.size,defers:=h.defers,DK:=h.DK,own:=λb k hu=>?_,Nh:=hF.Nh,IW:=hF.IW,zT:=λb hb=>?_ }
 ·have hb:=hw.box b;show yD J (EZ ρ π vs) w b (bx' b);cases hx:bx' b with
  | absent=>rw[hx]at hb;show EZ ρ π vs b=none;simp only[EZ,hb.1,hb.2,if_false]
  |dead=>trivial
  | var ys=>
    rw[hx]at hb;simp only[wkB]at hb;split at hb
    ·rename_i c hc;split at hb
     ·rename_i xs hxs;have hok:=h.bx.ok c;rw[hxs]at hok;obtain⟨k,cap,cs,hr,hwk,hsz,hcs⟩:=hok;have hg:NT J (EZ ρ π vs) cs.toList ys:=by
       subst hJ;exact ZH h hw.vir ⟨by simpa using hsz,λj u x hu hx=>hcs j u x (by simpa using hu) hx⟩ hb
      refine⟨k,cap,cs,by simp only[EZ,hc];exact hr,hwk,by simpa using hg.1,λj u x hu hx=>hg.2 j u x (by simpa using hu) hx⟩
     ·exact hb.elim
    ·exact hb.elim
  | dat sz es=>
    rw[hx]at hb;simp only[wkB]at hb;split at hb
    ·rename_i c hc;have hok:=hF.bx.ok c;rcases hb.2 with hb2|⟨t,hb2⟩
     ·rw[Cc,au hb.1,hb2]at hok;obtain⟨k,cap,hr,hrest⟩:=hok;exact⟨k,cap,by simp only[EZ,hc];exact hr,hrest⟩
     ·rw[Cc,au hb.1,hb2]at hok;obtain⟨k,cap,hr,h1,h2,h3,h4⟩:=hok;refine⟨k,cap,by simp only[EZ,hc];exact hr,by simp at h1;omega,h2,λe he=>h3 e (dZ _ he),λh0=>?_⟩;obtain⟨cs,e,g1,g2,g3,g4⟩:=h4 h0;refine⟨cs,e,g1,g2,g3,λi j c' hc'=>g4 i j c' ?_⟩;have hi:=mY hc';rw[<- hc']
      congr 1
      simp only[List.getD];rw[cu hi]
    ·rename_i hc;obtain⟨hv,rfl⟩:=hb;exact⟨0,0,by simp only[EZ,hc,hv,jY],mD,by simp[maxLen],mD,λh=>eF rfl h⟩
  | row e l=>
    rw[hx]at hb;simp only[wkB]at hb;split at hb
    ·rename_i c hc;have hok:=hF.bx.ok c;rw[Cc,hb]at hok;have e1:(if c∈zs then JF (.row e l)else .row e l)=Box.row e l:=(by split<;>rfl);rw[e1]at hok;obtain⟨k,cap,hr,hrest⟩:=hok;exact⟨k,cap,by simp only[EZ,hc];exact hr,hrest⟩
    ·exact hb.elim
  | Hz sz es=>
    rw[hx]at hb;simp only[wkB]at hb;split at hb
    ·rename_i c hc;have hok:=hF.bx.ok c;have e:(st.Hz zs).bx c = .Hz sz es:=by
      rw[Cc];rcases hb with hb|⟨hz,hb⟩
      ·rw[hb];split<;>rfl
      ·rw[hb,aA hz];rfl
     rw[e]at hok;obtain⟨k,cap,hr,hrest⟩:=hok;exact⟨k,cap,by simp only[EZ,hc];exact hr,hrest⟩
    ·exact hb.elim
 ·obtain⟨c,hc,hu⟩:=Ep b k hb;obtain⟨c',hc',hu'⟩:=Ep b' k hb';have:=hF.bx.inj c c' k hu hu';subst this;exact hw.inj b b' c (hnd b k hb) (hnd b' k hb') hc hc'
 ·obtain⟨c,hc,hu⟩:=Ep b k hb;exact hF.bx.fresh c k hu
 ·obtain⟨c,hc,hu'⟩:=Ep b k hu;exact hF.own c k hu'
 ·rcases hw.fix b aI with hf|⟨hf,hv,hab⟩
  ·simp only[EZ,hf];exact h.zT b hb
  ·have:=h.bx.ok b;rw[hab]at this;rw[<- h.zT b hb];simp only[EZ,hf,hv,if_false];exact this.symm
theorem PI (h:GX E I ρ n st a w){m:Nat}(hm:E.m<=m){S:gZ}(hw:Ou m st S):∃J σ,GX E J σ n S a w:=by
 obtain⟨zs,π,vs,hs,ht⟩:=hw;have h1:=Yd h hm hs;refine⟨_,_,{ h1 with tm:=λt htn=>?_,bx:=h1.bx,agree:=h1.agree,size:=h1.size,defers:=h1.defers,DK:=h1.DK,own:=h1.own }⟩;have h2:=ht t;have h3:=h.tm t htn;cases hS:S.tm t with
 |none=>trivial
 | v g y=>
   rw[hS]at h2;cases hst:st.tm t with
   |none=>rw[hst]at h2;exact h2.elim
   | v g' x=>rw[hst]at h2 h3;obtain⟨rfl,hv⟩:=h2;exact⟨λhg=>al0 h hs.vir (h3.1 hg) (hv hg),h3.2⟩
theorem AK.weak {m:Nat}(hm:E.m<=m){K:gZ->Prop}{X:Type}{J:X->Prop}{S:X->gZ}(hk:∀st,K st->∃x,J x/\Ou m st (S x)){a:Act}{w:World}(h:AK E n K a w):∃x,J x/\AK E n (λst=>st=S x) a w:=by obtain⟨I,ρ,st,hK,hg⟩:=h;obtain⟨x,hj,hw⟩:=hk st hK;obtain⟨I',ρ',hg'⟩:=PI hg hm hw;exact⟨x,hj,I',ρ',_,rfl,hg'⟩
end
end
def gZ.of (ts:List (Nat×Slot))(bs:List (Nat×Box)):gZ:=
 ⟨λt=>match ts.find? (λp=>p.1==t)with|some p=>p.2|none=>.none,λb=>match bs.find? (λp=>p.1==b)with|some p=>p.2|none=>.absent⟩
def BR : List (Nat×Slot)->Nat->Slot
 |[],_=>.none
 |(t',s)::r,t=>if t'=t then s else BR r t
def uP : List (Nat×Box)->Nat->Box
 |[],_=>.absent
 |(t',s)::r,t=>if t'=t then s else uP r t
theorem Kz (ts:List (Nat×Slot))(bs:List (Nat×Box))(t:Nat):(gZ.of ts bs).tm t=BR ts t:=by
 simp only[gZ.of]
 induction ts with
 |nil=>rfl
 | cons p r ih=>
   obtain⟨a,b⟩:=p;by_cases h:a=t
   ·subst h;simp[BR]
   ·simp[BR,h,ih]
theorem Ff (ts:List (Nat×Slot))(bs:List (Nat×Box))(t:Nat):(gZ.of ts bs).bx t=uP bs t:=by
 simp only[gZ.of]
 induction bs with
 |nil=>rfl
 | cons p r ih=>
   obtain⟨a,b⟩:=p;by_cases h:a=t
   ·subst h;simp[uP]
   ·simp[uP,h,ih]
theorem amZ (ts:List (Nat×Slot))(bs:List (Nat×Box))(t:Nat)(s:Slot):(gZ.of ts bs).put t s=gZ.of ((t,s)::ts) bs:=by
 apply gZ.ext'
 ·funext t';rw[Kz,gZ.V4,Kz,BR];by_cases h:t'=t
  ·simp[h]
  ·rw[au h,au (λe=>h e.symm)]
 ·funext b;rw[gZ.am6,Ff,Ff]
def setB : List (Nat×Box)->Nat->Box->List (Nat×Box)
 |[],b,x=>[(b,x)]
 |(b',y)::r,b,x=>if b'=b then(b,x)::r else(b',y)::setB r b x
theorem adf (bs:List (Nat×Box))(b b':Nat)(x:Box):uP (setB bs b x) b'=if b'=b then x else uP bs b':=by
 induction bs with
 | nil => simp only[setB,uP];by_cases h:b=b'
          ·simp[h]
          ·rw[au h,au (λe=>h e.symm)]
 | cons p r ih=>
   obtain⟨c,y⟩:=p;simp only[setB];by_cases h:c=b
   ·subst h;simp only[jY,uP];by_cases h':c=b'
    ·simp[h']
    ·rw[au h',au h',au (λe=>h' e.symm)]
   ·rw[au h];simp only[uP,ih];by_cases h':c=b'
    ·subst h';simp[h]
    ·simp[h']
theorem ak1 (ts:List (Nat×Slot))(bs:List (Nat×Box))(b:Nat)(x:Box):(gZ.of ts bs).Am b x=gZ.of ts (setB bs b x):=by
 apply gZ.ext'
 ·funext t;rw[gZ.alf,Kz,Kz]
 ·funext b';rw[gZ.tq,Ff,Ff,adf]
def aaO (ts:List (Nat×Slot)):List Nat->List (Nat×Slot)
 |[]=>[]
 |t::r=>(t,BR ts t)::aaO ts r
theorem ak0 (ts:List (Nat×Slot))(bs:List (Nat×Box))(l:List Nat):(gZ.of ts bs).keep l=gZ.of (aaO ts l) bs:=by
 apply gZ.ext'
 ·funext t
  simp only[gZ.keep];rw[Kz,Kz]
  induction l with
  |nil=>rfl
  | cons a r ih=>
    simp only[aaO,BR];by_cases h:a=t
    ·subst h;simp
    ·rw[au h,<- ih];have h':¬t=a:=λe=>h e.symm;simp[h']
 ·funext b;simp only[gZ.keep];rw[Ff,Ff]
theorem agt (st:gZ)(s:Slot):st.BB none s=st:=rfl
theorem agu (st:gZ)(t:Nat)(s:Slot):st.BB (some t) s=st.put t s:=rfl
theorem agI (st:gZ):st.vJ []=st:=rfl
theorem adG (st:gZ)(b:Nat)(x:Box)(r:List (Nat×Box)):st.vJ ((b,x)::r)=(st.Am b x).vJ r:=rfl
theorem aps (tm:Nat->Slot)(s:Nat):(pR.t s).ev tm=tm s:=rfl
theorem apr (tm:Nat->Slot)(x:AC):(pR.k x).ev tm = .v true (.one x):=rfl
theorem g_v (g:Bool)(x:AV):(Slot.v g x).g=g:=rfl
theorem x_v (g:Bool)(x:AV):(Slot.v g x).x=x:=rfl
section
inductive dK where
 |skip
 |reg (ops:List lK) (keep:List Nat)
 |uC (ops:List (lK×List Nat)) (keep:List Nat)
 |seq (a b:dK)
 |cut (a b:dK)
 |cond (c:pR) (a b:dK)
 |block (id:Nat) (a:dK)
 |loop (a:dK)
 |exit (id:Nat)
 |ret
 deriving Inhabited
inductive xP where
 |normal
 |exit (id:Nat)
 |ret
abbrev AQ :=xP->gZ->Prop
def xP.then (next:gZ->Prop)(Q:AQ):AQ
 |.normal,st=>next st
 |.exit id,st=>Q (.exit id) st
 |.ret,st=>Q .ret st
def xP.inBlock (id:Nat)(Q:AQ):AQ
 |.exit id',st=>if id'=id then Q .normal st else Q (.exit id') st
 |.normal,st=>Q .normal st
 |.ret,st=>Q .ret st
def anO (body:AQ->gZ->Prop)(Q:AQ)(st:gZ):Prop:=
 ∃ (X:Type) (J:X->Prop) (S:X->gZ) (μ:X->Nat),(∃x,J x/\Ou 10 st (S x)) /\
   ∀x,J x->body (xP.then (λst'=>∃x',(J x'/\μ x'<μ x)/\Ou 10 st' (S x')) Q) (S x)
def api (wa:AQ->gZ->Prop)(wb:AQ->gZ->Prop)(Q:AQ)(st:gZ):Prop:=
 ∃(X:Type) (J:X->Prop) (S:X->gZ),wa (xP.then (λst'=>∃x,J x/\Ou 10 st' (S x)) Q) st/\∀x,J x->wb Q (S x)
def KO (body:AQ->gZ->Prop)(Q:AQ)(st:gZ)(_:DU body)(_:DU Q):Prop:=anO body Q st
def PY (wa wb:AQ->gZ->Prop)(Q:AQ)(st:gZ)(_:DU wa)(_:DU wb)(_:DU Q):Prop:=api wa wb Q st
def wpC (P:Program):dK->AQ->gZ->Prop
 |.skip,Q,st=>Q .normal st
 |.reg ops keep,Q,st=>wpOps P ops st λst=>Q .normal (st.keep keep)
 |.uC ops keep,Q,st=>wpD P ops 0 [] st λst=>Q .normal (st.keep keep)
 |.seq a b,Q,st=>wpC P a (xP.then (wpC P b Q) Q) st
 |.cut a b,Q,st=>PY (wpC P a) (wpC P b) Q st .mk .mk .mk
 | .cond c a b,Q,st=>(c.ev st.tm).g=true/\match(c.ev st.tm).x with
   |.one (.c (.lit (.bool t)))=>(t=true->wpC P a Q st)/\(t=false->wpC P b Q st)
   |_=>False
 |.block id a,Q,st=>wpC P a (xP.inBlock id Q) st
 |.loop a,Q,st=>KO (wpC P a) Q st .mk .mk
 |.exit id,Q,st=>Q (.exit id) st
 |.ret,Q,st=>Q .ret st
def xx (P:Program)(n m:Nat):Code->dK->Bool
 |.skip,.skip=>true
 |.region _ ops false,.reg xs _=>RD P n m ops ops.toList xs
 |.region _ ops true,.uC xs _=>Qc P n m ops xs&&P.follows .mixedOrders
 |.seq a b,.seq x y=>xx P n m a x&&xx P n m b y
 |.seq a b,.cut x y=>xx P n m a x&&xx P n m b y
 |.cond c a b,.cond d x y=>lJ n c d&&xx P n m a x&&xx P n m b y
 |.block i a,.block j x=>i==j&&xx P n m a x
 |.loop a,.loop x=>xx P n m a x
 |.exit i,.exit j=>i==j
 |.ret,.ret=>true
 |_,_=>false
section
variable {P:Program} {E:Env P} {n:Nat}
def CQ (E:Env P)(n:Nat)(Q:AQ):Exit->Act->World->Prop
 |.normal,a,w=>AK E n (Q .normal) a w
 |.exit id,a,w=>AK E n (Q (.exit id)) a w
 |.ret,a,w=>AK E n (Q .ret) a w
 |_,_,_=>False
theorem Yj {Q:AQ}{next:gZ->Prop}{nx:Act->World->Prop}(h:∀a w,AK E n next a w->nx a w)(e:Exit)(a:Act)(w:World)(hq:CQ E n (xP.then next Q) e a w):Exit.then nx (CQ E n Q) e a w:=by
 cases e with
 |normal=>exact h a w hq
 |exit id=>exact hq
 |ret=>exact hq
 |goto l=>exact hq
 |panic c=>exact hq
 |outgrown=>exact hq
theorem abZ {Q:AQ}{id:Nat}(e:Exit)(a:Act)(w:World)(hq:CQ E n (xP.inBlock id Q) e a w):Ac id (CQ E n Q) e a w:=by
 cases e with
 |normal=>exact hq
 | exit id'=>
   simp only[Ac];by_cases h:id'=id
   ·rw[aA h];exact AK.imp (λst (hs:xP.inBlock id Q (.exit id') st)=>by simp only[xP.inBlock,aA h]at hs;exact hs) hq
   ·rw[au h];exact AK.imp (λst (hs:xP.inBlock id Q (.exit id') st)=>by simp only[xP.inBlock,au h]at hs;exact hs) hq
 |ret=>exact hq
 |goto l=>exact hq
 |panic c=>exact hq
 |outgrown=>exact hq
theorem GX.keep {I:IH}{ρ:Ren}{st:gZ}{a:Act}{w:World}(h:GX E I ρ n st a w)(ts:List Nat):GX E I ρ n (st.keep ts) a w:=
 have ht:∀t,t<n->GSl I ρ (a.tmps.getD t undef) ((st.keep ts).tm t):=λt ht=>by
  simp only[gZ.keep];split
  ·exact h.tm t ht
  ·trivial
 { h with tm:=ht,bx:=h.bx,agree:=h.agree,size:=h.size,defers:=h.defers,DK:=h.DK,own:=h.own }
theorem JL {Q:Exit->Act->World->Prop}{a:Act}{w:World}{c:Code}(Inv:Nat->Act->World->Prop)(h0:∃k,Inv k a w)
 (round:∀k a w,Inv k a w->c.wp P (Exit.then (λa' w'=>∃k',k'<k/\Inv k' a' w') Q) a w):(Code.loop c).wp P Q a w:=by
 have hmin:∀a w,(∃k,Inv k a w)->∃k,Inv k a w/\∀j,j<k->¬Inv j a w:=by
  intro a w ⟨k,hk⟩
  induction k using Nat.strongRecOn with
  | _ k ih=>
    by_cases h:∃j,j<k/\Inv j a w
    ·obtain⟨j,hj,hi⟩:=h;exact ih j hj hi
    ·exact⟨k,hk,λj hj hi=>h ⟨j,hj,hi⟩⟩
 let μ:Act->World->Nat:=λa w=>open Classical in if h:∃k,Inv k a w then(hmin a w h).choose else 0
 have hμ:∀a w,(∃k,Inv k a w)->Inv (μ a w) a w/\∀j,Inv j a w->μ a w<=j:=by intro a w h;have hs:=(hmin a w h).choose_spec;simp only[μ,dif_pos h];exact⟨hs.1,λj hj=>Nat.le_of_not_lt λhlt=>hs.2 j hlt hj⟩
 refine wp_loop (λa w=>∃k,Inv k a w) μ h0 λa w h=>?_;refine wp_mono (round _ a w (hμ a w h).1) λe a' w' hq=>?_;cases e with
 | normal=>obtain⟨k',hlt,hk⟩:=hq;exact⟨⟨k',hk⟩,Nat.lt_of_le_of_lt ((hμ a' w' ⟨k',hk⟩).2 k' hk) hlt⟩
 |exit id=>exact hq
 |ret=>exact hq
 |goto l=>exact hq
 |panic c=>exact hq
 |outgrown=>exact hq
theorem zL (hm:E.m<=10):∀{ac:dK} {c:Code} {Q:AQ} {a:Act} {w:World},xx P n E.m c ac=true->AK E n (wpC P ac Q) a w->c.wp P (CQ E n Q) a w
 | .skip,c,Q,a,w,hc,h=>by
   unfold xx at hc;split at hc<;>first|contradiction|skip
   exact wp_skip h
 | .reg xs keep,c,Q,a,w,hc,h=>by
   unfold xx at hc;split at hc<;>first|contradiction|skip
   rename_i heq;cases heq;refine wp_region_list (V6 hm hc h λa w hk=>?_);obtain⟨I,ρ,st,hk,hg⟩:=hk;exact⟨I,ρ,_,hk,hg.keep keep⟩
 | .uC xs keep,c,Q,a,w,hc,h=>by
   unfold xx at hc;split at hc<;>first|contradiction|skip
   rename_i heq;cases heq;simp only[ah]at hc;refine adA hm hc.2 hc.1 (λa w hk=>?_) h;obtain⟨I,ρ,st,hk,hg⟩:=hk;exact⟨I,ρ,_,hk,hg.keep keep⟩
 | .seq x y,c,Q,a,w,hc,h=>by
   unfold xx at hc;split at hc<;>first|contradiction|skip
   rename_i heq;cases heq;simp only[ah]at hc;exact wp_seq (wp_mono (zL hm hc.1 h) (Yj λa w hk=>zL hm hc.2 hk))
 | .cut x y,c,Q,a,w,hc,h=>by
   unfold xx at hc;split at hc<;>first|contradiction|skip
   rename_i heq;cases heq;simp only[ah]at hc;obtain⟨I,ρ,st,⟨X,J,S,h1,h2⟩,hg⟩:=h;refine wp_seq (wp_mono (zL hm hc.1 ⟨I,ρ,st,h1,hg⟩) (Yj λa w hk=>?_));obtain⟨x,hj,I',ρ',st',rfl,hg'⟩:=AK.weak hm (λst h=>h) hk;exact zL hm hc.2 ⟨I',ρ',_,h2 x hj,hg'⟩
 | .cond d x y,c,Q,a,w,hc,h=>by
   unfold xx at hc;split at hc<;>first|contradiction|skip
   rename_i heq;cases heq;simp only[ah]at hc;obtain⟨I,ρ,st,⟨h1,h2⟩,hg⟩:=h;have hv:=oK hg hc.1.1 h1;unfold fK at hv;split at h2
   ·rename_i t ht;rw[ht]at hv;exact wp_cond_split (KY hv) (λe=>zL hm hc.1.2 ⟨I,ρ,st,h2.1 e,hg⟩) (λe=>zL hm hc.2 ⟨I,ρ,st,h2.2 e,hg⟩)
   ·exact h2.elim
 | .block id x,c,Q,a,w,hc,h=>by
   unfold xx at hc;split at hc<;>first|contradiction|skip
   rename_i heq;cases heq;simp only[ah,aY]at hc;obtain⟨rfl,hc⟩:=hc;exact wp_block (wp_mono (zL hm hc h) abZ)
 | .loop x,c,Q,a,w,hc,h=>by
   unfold xx at hc;split at hc<;>first|contradiction|skip
   rename_i heq;cases heq;obtain⟨I,ρ,st,⟨X,J,S,μ,⟨x0,hj0,hw0⟩,hr⟩,hg⟩:=h;refine JL (λk a w=>∃x,J x/\μ x=k/\AK E n (λst=>st=S x) a w) ?_ ?_
   ·obtain⟨I',ρ',hg'⟩:=PI hg hm hw0;exact⟨_,x0,hj0,rfl,I',ρ',_,rfl,hg'⟩
   ·rintro k a w ⟨x,hj,rfl,I,ρ,st,rfl,hg⟩;refine wp_mono (zL hm hc ⟨I,ρ,_,hr x hj,hg⟩) (Yj λa w hk=>?_);obtain⟨x',⟨hj',hlt⟩,hk'⟩:=AK.weak (J:=λx'=>J x'/\μ x'<μ x) hm (λst h=>h) hk;exact⟨_,hlt,x',hj',rfl,hk'⟩
 | .exit id,c,Q,a,w,hc,h=>by
   unfold xx at hc;split at hc<;>first|contradiction|skip
   rename_i heq;cases heq;simp only[aY]at hc;subst hc;exact wp_exit h
 | .ret,c,Q,a,w,hc,h=>by
   unfold xx at hc;split at hc<;>first|contradiction|skip
   exact wp_ret h
end
end
section
def Ref.rn (ρ:Nat->Nat)(r:Ref):Ref:=⟨r.off,r.ty,ρ r.m⟩
def OF.rn (ρ:Nat->Nat):OF->OF
 |.ref t r=>.ref t (r.rn ρ)
 |.ER t i r=>.ER t i (r.rn ρ)
 |.row b r=>.row b (r.rn ρ)
 |f=>f
def rnP (dp:Nat)(ρ:Nat->Nat):zn->zn
 |.tag d m=>if d=dp then .tag d (ρ m)else .tag d m
 |p=>p
def Own.rn (g:Own)(dp:Nat)(ρ:Nat->Nat):Own:=⟨λk=>match g k with
 |some (.arr T p)=>some (.arr T (rnP dp ρ p))
 |some (.var row d b)=>some (.var (if d=dp then row.map (Ref.rn ρ)else row) d b)
 |none=>none,g.bd⟩
theorem X6 {g:Own}{dp k:Nat}{ρ:Nat->Nat} : (g.rn dp ρ) k=match g k with
 |some (.arr T p)=>some (.arr T (rnP dp ρ p))
 |some (.var row d b)=>some (.var (if d=dp then row.map (Ref.rn ρ)else row) d b)
 |none=>none:=rfl
def OF.loc : OF->Nat
 |.row b r=>100000+b*100+r.off
 |.ref t r=>200000+t*100+r.off
 |.ER t i r=>300000+t*1000+i*100+r.off
 |_=>0
def ahD (Γ : List OF)(m:Nat):Nat:= Γ.foldl (λx f=>match f.anh with|some m'=>if Nat.beq m' m&&Nat.ble f.loc x then f.loc else x|none=>x) 1000000
def canon (Γ : List OF):List OF:= Γ.map (OF.rn (ahD Γ))
section
variable {P:Program} {F:TA} {g:Own} {dp N:Nat} {Γ : List OF} {a:Act} {w:World}
theorem GR.rn {u:Value}{T:Nat}{p:zn}(h:GR g u T p)(ρ:Nat->Nat):GR (g.rn dp ρ) u T (rnP dp ρ p):=by
 rcases h with h|⟨k,n,c,h1,h2⟩
 ·exact .inl h
 ·exact .inr ⟨k,n,c,h1,by rw[X6,h2.1],h2.2⟩
theorem GR.rnT {u:Value}{T m:Nat}(h:GR g u T (.tag dp m))(ρ:Nat->Nat):GR (g.rn dp ρ) u T (.tag dp (ρ m)):=by have:=h.rn (dp:=dp) ρ;simpa[rnP]using this
theorem adC {ρ:Nat->Nat}{k T:Nat}{p:zn}(h:g.rn dp ρ k=some (.arr T p)):∃q,g k=some (.arr T q)/\p=rnP dp ρ q:=by
 rw[X6]at h;split at h
 ·rename_i T0 q h0;cases h;exact⟨q,h0,rfl⟩
 ·cases h
 ·cases h
theorem adD {ρ:Nat->Nat}{k d b:Nat}{row:List Ref}(h:g.rn dp ρ k=some (.var row d b)):∃row0,g k=some (.var row0 d b)/\row=if d=dp then row0.map (Ref.rn ρ)else row0:=by
 rw[X6]at h;split at h
 ·cases h
 ·rename_i row0 d0 b0 h0;cases h;exact⟨row0,h0,rfl⟩
 ·cases h
theorem Good.rn (h:Good P g w)(ρ:Nat->Nat):Good P (g.rn dp ρ) w:=by
 refine⟨λk T p hk=>?_,λk row d b hk=>?_⟩
 ·obtain⟨q,h1,rfl⟩:=adC hk;obtain⟨cs,e,hw,hc⟩:=h.arr k T q h1;exact⟨cs,e,hw,λj u T' hb hu ht=>(hc j u T' hb hu ht).rn ρ⟩
 ·obtain⟨row0,h1,rfl⟩:=adD hk;obtain⟨cs,e,hw,hc⟩:=h.var k row0 d b h1;refine⟨cs,e,hw,λr hr=>?_⟩;by_cases hd:d=dp
  ·subst hd;rw[aA rfl,bu]at hr;obtain⟨r0,hr0,rfl⟩:=hr;obtain⟨u,hu,hg⟩:=hc r0 hr0;exact⟨u,hu,hg.rnT ρ⟩
  ·rw[au hd]at hr;obtain⟨u,hu,hg⟩:=hc r hr;have:=hg.rn (dp:=dp) ρ;simp only[rnP,au hd]at this;exact⟨u,hu,this⟩
theorem FD.rn {f:OF}(h:FD P F g dp a w f)(ρ:Nat->Nat):FD P F (g.rn dp ρ) dp a w (f.rn ρ):=by
 have old:∀{k T:Nat} {X:Prop},(∀B,g k=some B->(∃p,B = .arr T p)/\X)->∀B,g.rn dp ρ k=some B->(∃p,B = .arr T p)/\X:=by
  intro k T X hold B hB;cases B with
  | arr T' p=>obtain⟨q,h1,rfl⟩:=adC hB;obtain⟨⟨p',e⟩,hx⟩:=hold _ h1;cases e;exact⟨⟨_,rfl⟩,hx⟩
  | var row d b=>obtain⟨row0,h1,_⟩:=adD hB;obtain⟨⟨p',e⟩,_⟩:=hold _ h1;cases e
 have vv:∀{k row b},g k=some (.var row dp b)->g.rn dp ρ k=some (.var (row.map (Ref.rn ρ)) dp b):=λh1=>by rw[X6,h1];simp
 cases f with
 | sr t T=>
   rcases h with h|⟨k,o,n,c,h1,h2,h3⟩
   ·exact .inl h
   ·exact .inr ⟨k,o,n,c,h1,h2,old h3⟩
 |ep t T off=>obtain⟨k,o,h1,h2,h3⟩:=h;exact⟨k,o,h1,h2,old h3⟩
 |vp t b off=>obtain⟨k,row,h1,h2,h3⟩:=h;exact⟨k,_,h1,h2,vv h3⟩
 |ref t r=>obtain⟨u,h1,h2⟩:=h;exact⟨u,h1,h2.rnT ρ⟩
 |ER t i r=>obtain⟨vs,x,u,h1,h2,h3,h4⟩:=h;exact⟨vs,x,u,h1,h2,h3,h4.rnT ρ⟩
 |row b r=>obtain⟨k,row,h1,h2,h3⟩:=h;exact⟨k,_,h1,vv h2,bu.2 ⟨r,h3,rfl⟩⟩
 |fn t s=>exact h
theorem Rel.rn (ρ:Nat->Nat):Rel dp N g (g.rn dp ρ):=by
 refine⟨λk T d m hd hk=>?_,λk row d b hd hk=>?_,λk B' _ hB=>?_⟩
 ·rw[X6,hk];simp only[rnP];rw[au aI];exact⟨rfl,rfl⟩
 ·rw[X6,hk];simp only;rw[au aI]
 ·cases B' with
  | arr T p=>obtain⟨q,h1,_⟩:=adC hB;exact⟨_,h1,λT' p' hb=>by rcases hb with e|e<;>cases e<;>exact⟨_,_,rfl,rfl⟩⟩
  | var row d b=>obtain⟨row0,h1,_⟩:=adD hB;exact⟨_,h1,λT' p' hb=>by rcases hb with e|e<;>cases e⟩
theorem LY.canon {E:Env P}{g0:Own}(h:LY E g0 dp Γ a w):LY E g0 dp (canon Γ) a w:=by obtain⟨g,h1,h2⟩:=h;refine⟨g.rn dp (ahD Γ),h1.trans (Rel.rn _),h2.good.rn _,λf hf=>?_⟩;rw[Ab.canon,bu]at hf;obtain⟨f0,h3,rfl⟩:=hf;exact(h2.fs f0 h3).rn _
end
abbrev OX :=Option (List OF)×List (Nat×List OF)
def aix (ts:List Nat)(Γ : List OF):List OF:= Γ.filter λf=>f.aeW.all ts.contains
def aew : Option (List OF)->Option (List OF)->Option (List OF)
 |none,x=>x
 |x,none=>x
 |some a,some b=>some (a.filter b.contains)
def UC (id:Nat)(l:List (Nat×List OF)):Option (List OF):=match(l.filter λe=>e.1==id).map (·.2)with
 |[]=>none
 |Gs=>some (aez Gs)
def ale (f g:List OF->Option OX)(Γ : List OF):Option OX:=match f Γ with
 |some (none,x1)=>some (none,x1)
 | some (some LZ,x1)=>(match g LZ with
   |some (n2,x2)=>some (n2,x1++x2)
   |none=>none)
 |none=>none
def alI (f g:List OF->Option OX)(Γ : List OF):Option OX:=match f Γ,g Γ with
 |some (n1,x1),some (n2,x2)=>some (aew n1 n2,x1++x2)
 |_,_=>none
def ahw (i:Nat)(f:List OF->Option OX)(Γ : List OF):Option OX:=match f Γ with
 |some (n1,x1)=>some (aew n1 (UC i x1),x1)
 |none=>none
def aev (f:List OF->Option OX):Nat->List OF->Option OX
 |0,_=>none
 | k+1,Γ =>match f Γ with
   |some (none,x1)=>some (none,x1)
   |some (some LZ,x1)=>if Γ.all LZ.contains then some (none,x1)else aev f k (Γ.filter LZ.contains)
   |none=>none
def oC (P:Program)(pl:List Nat)(rk:List OF->Bool):Code->dK->List OF->Option OX
 |.skip,.skip=>fun Γ =>some (some Γ,[])
 |.region _ ops false,.reg xs keep=>fun Γ =>(aa7 P pl ops.toList xs Γ).bind λDl=>Vz (canon (aix (pl++keep) Dl)) λG=>some (some G,[])
 |.region _ ops true,.uC xs keep=>fun Γ =>(anc P pl keep ops (items xs 0) Γ).bind λDl=>Vz (canon (aix (pl++keep) Dl)) λG=>some (some G,[])
 |.seq a b,.seq x y=>ale (oC P pl rk a x) (oC P pl rk b y)
 |.seq a b,.cut x y=>ale (oC P pl rk a x) (oC P pl rk b y)
 |.cond _ a b,.cond _ x y=>alI (oC P pl rk a x) (oC P pl rk b y)
 |.block i a,.block _ x=>ahw i (oC P pl rk a x)
 |.loop a,.loop x=>aev (oC P pl rk a x) 5
 |.exit i,.exit _=>fun Γ =>some (none,[(i,Γ)])
 |.ret,.ret=>fun Γ =>if rk Γ then some (none,[])else none
 |_,_=>λ_=>none
section
variable {P:Program} {E:Env P} {n:Nat} {g0:Own} {dp:Nat} {pa:List (Nat×Value)} {pl:List Nat} {rk:List OF->Bool}
theorem aex {a b:Option (List OF)}{Γ : List OF}(h:a=some Γ):∃M,aew a b=some M/\∀f,f∈M->f ∈ Γ :=by
 subst h;cases b with
 |none=>exact⟨Γ,rfl,λf hf=>hf⟩
 |some B=>exact⟨_,rfl,λf hf=>(bF.1 hf).1⟩
theorem aey {a b:Option (List OF)}{Γ : List OF}(h:b=some Γ):∃M,aew a b=some M/\∀f,f∈M->f ∈ Γ :=by
 subst h;cases a with
 |none=>exact⟨Γ,rfl,λf hf=>hf⟩
 |some A=>exact⟨_,rfl,λf hf=>kT.1 (bF.1 hf).2⟩
theorem aaq {id:Nat}{l:List (Nat×List OF)}{Γ : List OF}(h:(id,Γ)∈l):∃M,UC id l=some M/\∀f,f∈M->f ∈ Γ :=by
 have hm : Γ ∈ (l.filter λe=>e.1==id).map (·.2):=bu.2 ⟨_,bF.2 ⟨h,mD⟩,rfl⟩;unfold UC;split
 ·rename_i e;rw[e]at hm;cases hm
 ·exact⟨_,rfl,λf hf=>Sz hf hm⟩
def CQO (E:Env P)(g0:Own)(pa:List (Nat×Value))(dp n:Nat)(rk:List OF->Bool)(Q:AQ)(r:OX):Exit->Act->World->Prop
 |.normal,a,w=>∃ Γ,r.1=some Γ /\ AO E g0 pa dp n (Q .normal) Γ a w
 |.exit id,a,w=>∃ Γ,(id,Γ)∈r.2/\AO E g0 pa dp n (Q (.exit id)) Γ a w
 |.ret,a,w=>∃ Γ,rk Γ = true/\AO E g0 pa dp n (Q .ret) Γ a w
 |_,_,_=>False
theorem CQO.mono {Q Q':AQ}{r r':OX}(hn:∀ Γ a w,r.1=some Γ -> AO E g0 pa dp n (Q .normal) Γ a w->∃Dl,r'.1=some Dl/\AO E g0 pa dp n (Q' .normal) Dl a w)(hx:∀e,e∈r.2->e∈r'.2)(hq:∀id st,Q (.exit id) st->Q' (.exit id) st)(hr:∀st,Q .ret st->Q' .ret st)(e:Exit)(a:Act)(w:World)(h:CQO E g0 pa dp n rk Q r e a w):CQO E g0 pa dp n rk Q' r' e a w:=by
 cases e with
 |normal=>obtain⟨Γ,h1,h2⟩:=h;exact hn Γ a w h1 h2
 |exit id=>obtain⟨Γ,h1,h2⟩:=h;exact⟨Γ,hx _ h1,h2.imp (hq id) λ_ h=>h⟩
 |ret=>obtain⟨Γ,h1,h2⟩:=h;exact⟨Γ,h1,h2.imp hr λ_ h=>h⟩
 |goto l=>exact h
 |panic c=>exact h
 |outgrown=>exact h
theorem AO.keep {K:gZ->Prop}{Γ : List OF}{a:Act}{w:World}{ts us:List Nat}(h:AO E g0 pa dp n (λst=>K (st.keep ts)) Γ a w):AO E g0 pa dp n K (canon (aix us Γ)) a w:=by obtain⟨⟨⟨I,ρ,st,hk,hg⟩,MB⟩,hpa⟩:=h;exact⟨⟨⟨I,ρ,_,hk,hg.keep ts⟩,(MB.weak λf hf=>(bF.1 hf).1).canon⟩,hpa⟩
theorem yu (hm:E.m<=10)(hpl:∀e,e∈pa->e.1∈pl):∀{ac:dK} {c:Code} {Q:AQ} {Γ : List OF} {r:OX} {a:Act} {w:World},xx P n E.m c ac=true->oC P pl rk c ac Γ = some r->AO E g0 pa dp n (wpC P ac Q) Γ a w->c.wp P (CQO E g0 pa dp n rk Q r) a w
 | .skip,c,Q,Γ,r,a,w,hc,ho,h=>by
   unfold xx at hc;split at hc<;>first|contradiction|skip
   simp only[oC]at ho;cases ho;exact wp_skip ⟨Γ,rfl,h⟩
 | .reg xs keep,c,Q,Γ,r,a,w,hc,ho,h=>by
   unfold xx at hc;split at hc<;>first|contradiction|skip
   rename_i heq;cases heq;simp only[oC,yS,RN]at ho;obtain⟨Dl,h1,h2⟩:=ho;cases h2;exact wp_region_list (TR hm hpl hc h1 h λa w hk=>⟨_,rfl,hk.keep⟩)
 | .uC xs keep,c,Q,Γ,r,a,w,hc,ho,h=>by
   unfold xx at hc;split at hc<;>first|contradiction|skip
   rename_i heq;cases heq;simp only[ah]at hc;simp only[oC,yS,RN]at ho;obtain⟨Dl,h1,h2⟩:=ho;cases h2;exact abn hm hpl hc.2 hc.1 h1 (λa w hk=>⟨_,rfl,hk.keep⟩) h
 | .seq x y,c,Q,Γ,r,a,w,hc,ho,h=>by
   unfold xx at hc;split at hc<;>first|contradiction|skip
   rename_i heq;cases heq;simp only[ah]at hc;simp only[oC,ale]at ho;refine wp_seq ?_;split at ho
   ·rename_i x1 h1;cases ho;refine wp_mono (yu hm hpl hc.1 h1 h) λe a w hq=>?_;cases e with
    |normal=>obtain⟨_,h2,_⟩:=hq;cases h2
    |exit id=>exact hq
    |ret=>exact hq
    |goto l=>exact hq
    |panic c=>exact hq
    |outgrown=>exact hq
   ·rename_i LZ x1 h1;split at ho
    ·rename_i n2 x2 h2;cases ho;refine wp_mono (yu hm hpl hc.1 h1 h) λe a w hq=>?_;cases e with
     | normal=>obtain⟨_,h3,h4⟩:=hq;cases h3;refine wp_mono (yu hm hpl hc.2 h2 h4) λe a w hq=>CQO.mono (r:=(n2,x2)) (r':=(n2,x1++x2)) (Q':=Q) (fun Γ a w h5 h6=>⟨Γ,h5,h6⟩) (λe he=>fQ _ he) (λ_ _ h=>h) (λ_ h=>h) e a w hq
     |exit id=>obtain⟨Dl,h3,h4⟩:=hq;exact⟨Dl,dZ _ h3,h4⟩
     |ret=>exact hq
     |goto l=>exact hq
     |panic c=>exact hq
     |outgrown=>exact hq
    ·cases ho
   ·cases ho
 | .cut x y,c,Q,Γ,r,a,w,hc,ho,h=>by
   unfold xx at hc;split at hc<;>first|contradiction|skip
   rename_i heq;cases heq;simp only[ah]at hc;simp only[oC,ale]at ho;obtain⟨⟨⟨I,ρ,st,⟨X,J,S,hw1,hw2⟩,hg⟩,MB⟩,hpa⟩:=h;refine wp_seq ?_;split at ho
   ·rename_i x1 h1;cases ho;refine wp_mono (yu hm hpl hc.1 h1 ⟨⟨⟨I,ρ,st,hw1,hg⟩,MB⟩,hpa⟩) λe a w hq=>?_;cases e with
    |normal=>obtain⟨_,h2,_⟩:=hq;cases h2
    |exit id=>exact hq
    |ret=>exact hq
    |goto l=>exact hq
    |panic c=>exact hq
    |outgrown=>exact hq
   ·rename_i LZ x1 h1;split at ho
    ·rename_i n2 x2 h2;cases ho;refine wp_mono (yu hm hpl hc.1 h1 ⟨⟨⟨I,ρ,st,hw1,hg⟩,MB⟩,hpa⟩) λe a w hq=>?_;cases e with
     | normal=>obtain⟨_,h3,⟨h4,apG⟩,apJ⟩:=hq;cases h3;obtain⟨x,hj,I',ρ',st',rfl,hg'⟩:=AK.weak hm (λst h=>h) h4;refine wp_mono (yu hm hpl hc.2 h2 ⟨⟨⟨I',ρ',_,hw2 x hj,hg'⟩,apG⟩,apJ⟩) λe a w hq=>CQO.mono (r:=(n2,x2)) (r':=(n2,x1++x2)) (Q':=Q) (fun Γ a w h5 h6=>⟨Γ,h5,h6⟩) (λe he=>fQ _ he) (λ_ _ h=>h) (λ_ h=>h) e a w hq
     |exit id=>obtain⟨Dl,h3,h4⟩:=hq;exact⟨Dl,dZ _ h3,h4⟩
     |ret=>exact hq
     |goto l=>exact hq
     |panic c=>exact hq
     |outgrown=>exact hq
    ·cases ho
   ·cases ho
 | .cond d x y,c,Q,Γ,r,a,w,hc,ho,h=>by
   unfold xx at hc;split at hc<;>first|contradiction|skip
   rename_i heq;cases heq;simp only[ah]at hc;simp only[oC,alI]at ho;split at ho
   ·rename_i n1 x1 n2 x2 h1 h2;cases ho;obtain⟨⟨⟨I,ρ,st,⟨hv1,hv2⟩,hg⟩,MB⟩,hpa⟩:=h;have hv:=oK hg hc.1.1 hv1;unfold fK at hv;split at hv2
    ·rename_i t ht;rw[ht]at hv;refine wp_cond_split (KY hv) (λe=>?_) (λe=>?_)
     ·refine wp_mono (yu hm hpl hc.1.2 h1 ⟨⟨⟨I,ρ,st,hv2.1 e,hg⟩,MB⟩,hpa⟩) λe a w hq=>CQO.mono (fun Γ a w h5 h6=>?_) (λe he=>dZ _ he) (λ_ _ h=>h) (λ_ h=>h) e a w hq;obtain⟨M,h7,h8⟩:=aex (b:=n2) h5;exact⟨M,h7,h6.imp (λ_ h=>h) h8⟩
     ·refine wp_mono (yu hm hpl hc.2 h2 ⟨⟨⟨I,ρ,st,hv2.2 e,hg⟩,MB⟩,hpa⟩) λe a w hq=>CQO.mono (fun Γ a w h5 h6=>?_) (λe he=>fQ _ he) (λ_ _ h=>h) (λ_ h=>h) e a w hq;obtain⟨M,h7,h8⟩:=aey (a:=n1) h5;exact⟨M,h7,h6.imp (λ_ h=>h) h8⟩
    ·exact hv2.elim
   ·cases ho
 | .block id x,c,Q,Γ,r,a,w,hc,ho,h=>by
   unfold xx at hc;split at hc<;>first|contradiction|skip
   rename_i heq;cases heq;simp only[ah,aY]at hc;obtain⟨rfl,hc⟩:=hc;simp only[oC,ahw]at ho;split at ho
   ·rename_i n1 x1 h1;cases ho;refine wp_block (wp_mono (yu hm hpl hc h1 h) λe a w hq=>?_);cases e with
    | normal=>obtain⟨Dl,h2,h3⟩:=hq;obtain⟨M,h7,h8⟩:=aex (b:=UC _ x1) h2;exact⟨M,h7,h3.imp (λ_ h=>h) h8⟩
    | exit id'=>
      obtain⟨Dl,h2,h3⟩:=hq;simp only[Ac];split
      ·rename_i e;subst e;obtain⟨M0,h4,h5⟩:=aaq h2;obtain⟨M,h7,h8⟩:=aey (a:=n1) h4;exact⟨M,h7,h3.imp (λst (hs:xP.inBlock id' Q (.exit id') st)=>by simp only[xP.inBlock,jY]at hs;exact hs) λf hf=>h5 f (h8 f hf)⟩
      ·rename_i e;exact⟨Dl,h2,h3.imp (λst hs=>by simp only[xP.inBlock,au e]at hs;exact hs) λf hf=>hf⟩
    |ret=>exact hq
    |goto l=>exact hq
    |panic c=>exact hq
    |outgrown=>exact hq
   ·cases ho
 | .loop x,c,Q,Γ,r,a,w,hc,ho,h=>by
   unfold xx at hc;split at hc<;>first|contradiction|skip
   rename_i heq;cases heq;rename_i cc;simp only[oC]at ho;have inv:∀(k:Nat) (Γ : List OF),aev (oC P pl rk cc x) k Γ = some r->∃Dl,(∀f,f∈Dl->f ∈ Γ)/\∃n1 x1,oC P pl rk cc x Dl=some (n1,x1)/\r=(none,x1)/\∀LZ,n1=some LZ->∀f,f∈Dl->f∈LZ:=by
    intro k
    induction k with
    |zero=>intro Γ h;cases h
    | succ k ih=>
      intro Γ h;simp only[aev]at h;split at h
      ·rename_i x1 h1;cases h;exact⟨Γ,λ_ h=>h,_,_,h1,rfl,λLZ e=>by cases e⟩
      ·rename_i LZ x1 h1;split at h
       ·rename_i hall;cases h;exact⟨Γ,λ_ h=>h,_,_,h1,rfl,fun Γ2 e f hf=>by cases e;exact kT.1 (bf.1 hall f hf)⟩
       ·obtain⟨Dl,h2,h3⟩:=ih _ h;exact⟨Dl,λf hf=>(bF.1 (h2 f hf)).1,h3⟩
      ·cases h
   obtain⟨Dl,hsub,n1,x1,h1,rfl,hback⟩:=inv _ _ ho;obtain⟨⟨⟨I,ρ,st,⟨X,J,S,μ,⟨x0,hj0,hw0⟩,hr⟩,hg⟩,MB⟩,hpa⟩:=h;refine JL (λk a w=>∃x,J x/\μ x=k/\AO E g0 pa dp n (λst=>st=S x) Dl a w) ?_ ?_
   ·obtain⟨I',ρ',hg'⟩:=PI hg hm hw0;exact⟨_,x0,hj0,rfl,⟨⟨I',ρ',_,rfl,hg'⟩,MB.weak hsub⟩,hpa⟩
   ·rintro k a w ⟨x,hj,rfl,⟨⟨I,ρ,st,rfl,hg⟩,MB⟩,hpa⟩;refine wp_mono (yu hm hpl hc h1 ⟨⟨⟨I,ρ,_,hr x hj,hg⟩,MB⟩,hpa⟩) λe a w hq=>?_;cases e with
    | normal=>obtain⟨LZ,h2,⟨hk,apH⟩,apK⟩:=hq;obtain⟨x',⟨hj',hlt⟩,hk'⟩:=AK.weak (J:=λx'=>J x'/\μ x'<μ x) hm (λst h=>h) hk;exact⟨_,hlt,x',hj',rfl,⟨hk',apH.weak (hback LZ h2)⟩,apK⟩
    |exit id=>exact hq
    |ret=>exact hq
    |goto l=>exact hq
    |panic c=>exact hq
    |outgrown=>exact hq
 | .exit id,c,Q,Γ,r,a,w,hc,ho,h=>by
   unfold xx at hc;split at hc<;>first|contradiction|skip
   rename_i heq;cases heq;simp only[aY]at hc;subst hc;simp only[oC]at ho;cases ho;exact wp_exit ⟨Γ,bD ..,h⟩
 | .ret,c,Q,Γ,r,a,w,hc,ho,h=>by
   unfold xx at hc;split at hc<;>first|contradiction|skip
   simp only[oC]at ho;split at ho
   ·rename_i hk;exact wp_ret ⟨Γ,hk,h⟩
   ·cases ho
end
end
section
inductive yZ where
 |tmp (t:Nat)
 |cell (t:Nat) (agg:Bool) (k:Nat)
 deriving Inhabited
def yZ.ok (st:gZ):yZ->Prop
 |.tmp t=>(st.tm t).g=true
 |.cell t agg k=>(st.tm t).g=true/\(BC agg k (st.tm t).x st.bx).vc
def yZ.val (st:gZ):yZ->AV
 |.tmp t=>(st.tm t).x
 |.cell t agg k=>(BC agg k (st.tm t).x st.bx).v
def Jc (st:gZ):List yZ->Prop
 |[]=>True
 |r::rs=>r.ok st/\(r.val st).flat/\Jc st rs
def partOf : AV->Bool×List AC
 |.one x=>(false,[x])
 |.agg xs=>(true,xs)
 |.AA _=>(false,[])
def BI (st:gZ):List yZ->List (Bool×List AC)
 |[]=>[]
 |r::rs=>partOf (r.val st)::BI st rs
def Xe (st:gZ):List yZ->AV
 |[r]=>r.val st
 |rs=>.AA (BI st rs)
def LK (rs:List yZ)(m:Nat)(post:AV->List Box->Prop)(st:gZ):Prop:=
 Jc st rs/\∃r bs zs π vs,post r bs/\WkS m st.bx (C9 bs) zs π vs/\wkV zs st.bx π vs (Xe st rs) r
def EP (P:Program)(n:Nat):List ResultVar->List yZ->Bool
 |[],[]=>true
 |.tmp t::xs,.tmp s::ys=>t==s&&decide (t<n)&&EP P n xs ys
 |.cell a t::xs,.cell s agg k::ys=>a==s&&decide (a<n)&&Md P t agg k&&EP P n xs ys
 |_,_=>false
section
variable {P:Program} {E:Env P} {I:IH} {ρ:Ren} {n:Nat} {st:gZ} {a:Act} {w:World}
theorem af8 {agg:Bool}{k:Nat}{p:AV}{pv:Value}{bx:Nat->Box}(hp:GV I ρ pv p)(kF:(BC agg k p bx).vc):∃q,pv = .pointer (some q):=by
 cases p with
 | one p=>
   cases p with
   |ptr b off=>obtain⟨k,cap,_,rfl⟩:=hp;exact⟨_,rfl⟩
   |BF b i sz off=>obtain⟨k,cap,_,rfl⟩:=hp;exact⟨_,rfl⟩
   |Ik cs=>obtain⟨q,rfl,_⟩:=hp;exact⟨_,rfl⟩
   |_=>exact kF.elim
 |_=>exact kF.elim
def Uk (tmps:Array Value)(x:ResultVar):Sem Value:=match x with
 |ResultVar.tmp t=>pure (tmps.getD t undef)
 |ResultVar.cell b t=>do loadVar t (<- asAddr (tmps.getD b undef))
theorem Lp (fn:Func)(tmps:Array Value):results fn tmps=(do
 let vs <- fn.results.mapM (Uk tmps)
 pure (if h:vs.size=1 then vs[0]else .tuple vs)):=by
 unfold results
 congr 1
theorem abo (h:GX E I ρ n st a w):∀{xs:List ResultVar} {rs:List yZ},EP P n xs rs=true->Jc st rs ->
 ∃vs:List Value,(xs.mapM (Uk a.tmps)).run P w = .ok vs w/\vs.length=rs.length/\∀(j:Nat) (v:Value) (r:yZ),vs[j]? = some v->rs[j]? = some r->GV I ρ v (r.val st)
 |[],[],_,_=>⟨[],mD,rfl,λj v r hv=>by simp at hv⟩
 | x::xs,r::rs,hc,hok=>by
   obtain⟨h1,h2,h3⟩:=hok;have key:∃v,(Uk a.tmps x).run P w = .ok v w/\GV I ρ v (r.val st)/\EP P n xs rs=true:=by
    cases x with
    | tmp t=>
      cases r with
      | tmp s=>
        simp only[EP,ah,aY,aC]at hc;obtain⟨⟨rfl,hlt⟩,hc⟩:=hc;have ht:=h.tm t hlt;simp only[yZ.ok]at h1;refine⟨a.tmps.getD t undef,rfl,?_,hc⟩;simp only[yZ.val];cases hs:st.tm t with
        |none=>rw[hs]at h1;cases h1
        |v g x=>rw[hs]at h1 ht;exact ht.1 h1
      |cell s agg k=>simp[EP]at hc
    | cell b t=>
      cases r with
      |tmp s=>simp[EP]at hc
      | cell s agg k=>
        simp only[EP,ah,aY,aC]at hc;obtain⟨⟨⟨rfl,hlt⟩,hty⟩,hc⟩:=hc;have ht:=h.tm b hlt;obtain⟨hg,kF⟩:=h1;have hv:GV I ρ (a.tmps.getD b undef) (st.tm b).x:=by
         cases hs:st.tm b with
         |none=>rw[hs]at hg;cases hg
         |v g x=>rw[hs]at hg ht;exact ht.1 hg
        obtain⟨q,hq⟩:=af8 hv kF;obtain⟨v,hrun,hgv⟩:=XN (P:=P) h hty hv kF;refine⟨v,?_,hgv,hc⟩;unfold Uk;simp only[hq]at hrun⊢;simpa[Go.Instr.loadAt,Go.Instr.sureAddr,asAddr]using hrun
   obtain⟨v,hv,hg,hc'⟩:=key;obtain⟨vs,hvs,hl,hgs⟩:=abo h hc' h3;refine⟨v::vs,?_,by simp[hl],λj u r' hu hr=>?_⟩
   ·rw[Dz];simp[hv,hvs]
   ·cases j with
    |zero=>simp at hu hr;subst hu;subst hr;exact hg
    |succ j=>exact hgs j u r' (by simpa using hu) (by simpa using hr)
 |[],_::_,hc,_=>by simp[EP]at hc
 |x::_,[],hc,_=>by cases x<;>simp[EP]at hc
end
def WB (Γ : List OF):yZ->Nat->Nat->Option Nat
 |.tmp t,o,T=>ajx Γ t o T
 | .cell t agg k,o,T=>match(Γ.filterMap (adR t)).head? with
   |some (b,o0)=>if o<(if agg then k else 1)then WC Γ b (o0+o) T else none
   |none=>none
def KL (ps:List PK):List (Nat×List (Nat×Nat)):=(ps.zipIdx).filterMap λp=>match p.1 with
 |.var rs=>some (p.2,rs)
 |_=>none
def aoP (Γ : List OF)(l:List (List (Nat×Nat)))(rs:List yZ):Option (List (Nat×Nat)):=(Ro (λp:List (Nat×Nat)×Nat=>match rs[p.2]? with
 |some x=>Ro (λe:Nat×Nat=>(WB Γ x e.1 e.2).map λm=>(m,20000+p.2*20+e.1)) p.1
 |none=>none) l.zipIdx).map Ib
def am9 (Γ : List OF)(l:List (List (Nat×Nat)))(rs:List yZ):Option (List (Nat×Nat)):=match l,rs with
 |[r],[x]=>Ro (λe:Nat×Nat=>(WB Γ x e.1 e.2).map λm=>(m,20000+e.1)) r
 |l,rs=>aoP Γ l rs
def alW (Γ : List OF)(sg:ZN)(rs:List yZ):Option (List (Nat×Nat)):=
 match am9 Γ sg.rs rs,(Ro (λp:Nat×List (Nat×Nat)=>if Γ.contains (.vp p.1 p.1 0)then Ro (λe:Nat×Nat=>(WC Γ p.1 e.1 e.2).map λm=>(m,30000+p.1*20+e.1)) p.2 else none) (KL sg.ps)).map Ib with
 |some a,some b=>if IZ ((a++b).map (·.1))&&decide ((KL sg.ps).length<=1)&&(sg.rs.length==rs.length)then some (a++b)else none
 |_,_=>none
def rkO (sg:ZN)(rs:List yZ)(Γ : List OF):Bool:=(alW Γ sg rs).isSome
section
variable {P:Program} {g:Own} {dp:Nat} {Γ : List OF} {a:Act} {w w':World} {v:Value}
theorem aaS {f:ResultVar->Sem Value}(hf:∀x w r w',(f x).run P w = .ok r w'->w'=w):∀{xs:List ResultVar} {ws:List Value} {w w':World},(xs.mapM f).run P w = .ok ws w'->ws.length=xs.length/\w'=w/\∀(j:Nat) (x:ResultVar),xs[j]? = some x->∃y,ws[j]? = some y/\(f x).run P w = .ok y w
 | [],ws,w,w',h=>by rw[List.mapM_nil]at h;obtain⟨rfl,rfl⟩:=je h;exact⟨rfl,rfl,λj x hx=>by simp at hx⟩
 | x::xs,ws,w,w',h=>by
   rw[Dz]at h;obtain⟨y,w1,h1,h2⟩:=eU h;have:=hf _ _ _ _ h1;subst this;obtain⟨ys,w2,h3,h4⟩:=eU h2;obtain⟨rfl,rfl⟩:=je h4;obtain⟨h5,rfl,h6⟩:=aaS hf h3;refine⟨by simp[h5],rfl,λj z hz=>?_⟩;cases j with
   |zero=>simp at hz;subst hz;exact⟨y,rfl,h1⟩
   |succ j=>simpa using h6 j z (by simpa using hz)
theorem adB {tmps:Array Value}(x:ResultVar)(w:World)(r:Value)(w':World)(h:(Uk tmps x).run P w = .ok r w'):w'=w:=by
 unfold Uk at h;split at h
 ·exact(je h).2
 ·obtain⟨p,w1,h1,h2⟩:=eU h;have:w1=w:=by
   unfold asAddr at h1;split at h1
   ·exact(je h1).2
   ·exact(Nw h1).elim
   ·cases h1
  subst this;exact(Ns h2).1
theorem res_own {n:Nat}(h:OW P FV g dp Γ a w){fn:Func}(hr:(results fn a.tmps).run P w = .ok v w'){rs:List yZ}(hc:EP P n fn.results.toList rs=true) :
 w'=w/\∃ws:List Value,ws.length=rs.length/\((∃y,ws=[y]/\v=y)\/ws.length≠1/\v = .tuple ws.toArray) /\
  ∀(j:Nat) (x:yZ) (o T m:Nat),rs[j]? = some x->WB Γ x o T=some m->∃y u:Value,ws[j]? = some y/\y.cells[o]? = some u/\GR g u T (.tag dp m):=by
 rw[Lp]at hr;obtain⟨vs,w1,h1,h2⟩:=eU hr;rw[xX,Gt]at h1;cases hq:(fn.results.toList.mapM (Uk a.tmps)).run P w with
 |halt e w2=>rw[hq]at h1;cases h1
 | ok ws w2=>
   rw[hq]at h1;simp only[bQ]at h1;cases h1;obtain⟨h3,rfl,h4⟩:=aaS adB hq;have hlen:∀{xs:List ResultVar} {rs:List yZ},EP P n xs rs=true->xs.length=rs.length:=by
    intro xs
    induction xs with
    |nil=>intro rs h;cases rs<;>simp[EP]at h⊢
    | cons x xs ih=>
      intro rs h;cases rs with
      |nil=>cases x<;>simp[EP]at h
      | cons r rs=>cases x<;>cases r<;>simp only[EP,ah]at h<;>first|(simp[ih h.2];done)|cases h
   have hget:∀{xs:List ResultVar} {rs:List yZ} {j:Nat} {r:yZ},EP P n xs rs=true->rs[j]? = some r->∃x,xs[j]? = some x/\(match x,r with
    |.tmp t,.tmp s=>t=s
    |.cell b t,.cell s agg k=>b=s/\Md P t agg k=true
    |_,_=>False):=by
    intro xs
    induction xs with
    |nil=>intro rs j r h hr;cases rs<;>simp[EP]at h hr
    | cons x xs ih=>
      intro rs j r h hr;cases rs with
      |nil=>simp at hr
      | cons r0 rs=>
        cases j with
        | zero=>simp at hr;subst hr;refine⟨x,rfl,?_⟩;cases x<;>cases r0<;>simp only[EP,ah,aY]at h<;>first|exact h.1.1|exact⟨h.1.1.1,h.1.2⟩|cases h
        | succ j=>
          have:EP P n xs rs=true:=by cases x<;>cases r0<;>simp only[EP,ah]at h<;>first|exact h.2|cases h
          simpa using ih this (by simpa using hr)
   obtain⟨hv,rfl⟩:=je h2;refine⟨rfl,ws,h3.trans (hlen hc),?_,λj x o T m hj hm=>?_⟩
   ·by_cases h1':ws.length=1
    ·match ws,h1' with
     |[y],_=>exact .inl ⟨y,rfl,by simpa using hv⟩
    ·exact .inr ⟨h1',by rw[hv,dif_neg (by simpa using h1')]⟩
   ·obtain⟨rv,hrv,RU⟩:=hget hc hj;obtain⟨y,hy,hrun⟩:=h4 j rv hrv;refine⟨y,?_⟩;cases x with
    | tmp t=>
      cases rv with
      |cell _ _=>exact RU.elim
      | tmp s=>simp only at RU;subst RU;simp only[WB]at hm;obtain⟨u,hu,hg⟩:=abE h hm;unfold Uk at hrun;have hyv:=(je hrun).1;subst hyv;exact⟨u,hy,hu,hg⟩
    | cell t agg k=>
      cases rv with
      |tmp _=>exact RU.elim
      | cell s ty=>
        simp only at RU;obtain⟨rfl,hty⟩:=RU;unfold WB at hm
        dsimp only at hm
        split at hm
        ·rename_i b o0 hvp;by_cases hlt:o<(if agg then k else 1)
         ·rw[aA hlt]at hm;have hmm:=oZ hvp;rw[eG]at hmm;obtain⟨f0,hf0,hmm⟩:=hmm;unfold adR at hmm;split at hmm
          ·split at hmm
           ·rename_i e1;subst e1;cases hmm;obtain⟨kk,row,e2,e3,e4⟩:=h.fs _ hf0;obtain⟨kk',row',e5,e6,e7⟩:=Tf h hm;rw[e2]at e5;cases e5;obtain⟨cs,e,hw,hrow⟩:=h.good.var _ _ _ _ e6;obtain⟨u,hu,hg⟩:=hrow _ e7
            dsimp only at hu hg
            unfold Uk at hrun;obtain⟨p,w3,h5,h6⟩:=eU hrun;rw[e3]at h5;unfold asAddr at h5;obtain⟨rfl,rfl⟩:=je h5;have hc':∀j',o0+j'=o0+o->w3.cell? ((⟨kk,o0,none⟩:Addr).add j')=some u:=λj' e8=>by rw[Addr.uw,e8];simp[iy,hw,hu]
            refine⟨u,hy,?_,hg⟩;unfold Md at hty;obtain⟨_,hld⟩:=Ns h6;rcases hld with⟨de,i,h7,h8,h9,h10⟩|⟨de,h7,h8,h9⟩
            ·rw[h7,h9]at hty;simp only[ah,aY]at hty;rw[h8]at hty;obtain⟨rfl,rfl⟩:=hty;exact h10 o u (by simpa using hlt) (hc' o rfl)
            ·have hagg:agg=false:=by
              split at hty
              ·rename_i d' i' hd' hi';rw[h7]at hd';cases hd';simp only[ah,aY]at hty;rw[<- hty.1,h8]
              ·cases hty
             subst hagg;have ho:o=0:=(by simpa using hlt);subst ho;have:=h9 u (by have:=hc' 0 rfl;rwa[Addr.add_zero]at this);subst this;have hsl:∃b n c,y = .slice b n c:=(by rcases hg with e|⟨k,n,c,e,_⟩<;>exact⟨_,_,_,e⟩);rw[NI hsl];rfl
           ·cases hmm
          ·cases hmm
         ·rw[au hlt]at hm;cases hm
        ·cases hm
theorem aaT {α β:Type}{f:α->Option (List β)}{l:List α}{ys:List β}(h:(Ro f l).map Ib=some ys){x:α}(hx:x∈l):∃y,f x=some y/\∀e,e∈y->e∈ys:=by simp only[dD]at h;obtain⟨l',h1,rfl⟩:=h;obtain⟨y,h2,h3⟩:=FM h1 x hx;exact⟨y,h2,λe he=>List.mem_flatten.2 ⟨y,h3,he⟩⟩
theorem aeP {n N:Nat}(h:OW P FV g dp Γ a w){fn:Func}(hr:(results fn a.tmps).run P w = .ok v w'){rs:List yZ}(hc:EP P n fn.results.toList rs=true){sg:ZN}(hk:rkO sg rs Γ = true){vs:List Value}(hl:vs.length=sg.ps.length)
 (hpa:∀i r,(i,r)∈KL sg.ps->a.tmps.getD i undef=vs.getD i undef):∃g',Rel dp N g g'/\OW P FV g' dp (VU sg vs.length) { tmps:=(vs++[v]).toArray,defers:=[] } w':=by
 obtain⟨rfl,ws,hw1,hw2,hres⟩:=res_own h hr hc;unfold rkO at hk;rw[qx]at hk;obtain⟨mv,hmv⟩:=hk;unfold alW at hmv;split at hmv
 ·rename_i A B hA hB;split at hmv
  ·rename_i hcond;cases hmv;simp only[ah,aC,aY]at hcond;obtain⟨⟨hnd,hone⟩,hlen⟩:=hcond;have hn:=I5 hnd
   let mvL:List (Nat×zn):=(A++B).map λe=>(e.1,.tag dp e.2)
   have hkeys:mvL.map (·.1)=(A++B).map (·.1):=(by simp[mvL,Function.comp_def]);have hmov:∀{u:Value} {T m t:Nat},GR g u T (.tag dp m)->(m,t)∈A++B->GR (g.mv dp mvL) u T (.tag dp t):=λhg hm=>hg.mv (Ip (by rw[hkeys];exact hn) (bu.2 ⟨_,hm,rfl⟩));have hv:((vs++[v]).toArray).getD vs.length undef=v:=by rw[fH,nU];simp
   have hrf:∀{g2:Own},(∀{u:Value} {T:Nat} {p:zn},GR (g.mv dp mvL) u T p->GR g2 u T p)->∀f,f∈aa9 sg vs.length->FD P FV g2 dp { tmps:=(vs++[v]).toArray,defers:=[] } w' f:=by
    intro g2 hg2 f hf;by_cases hsg:∃r,sg.rs=[r]
    ·obtain⟨r,hsr⟩:=hsg;obtain⟨x,rfl⟩:∃x,rs=[x]:=by
      rw[hsr]at hlen
      match rs,hlen with
      |[x],_=>exact⟨x,rfl⟩
     rw[aa9,hsr]at hf;rw[hsr]at hA;simp only[am9]at hA;simp only at hf;rw[bu]at hf;obtain⟨e,he,rfl⟩:=hf;obtain⟨y,hy,hyl⟩:=FM hA e he;simp only[dD]at hy;obtain⟨m,hm,rfl⟩:=hy;obtain⟨z,u,h1,h2,h3⟩:=hres 0 x e.1 e.2 m rfl hm;refine⟨u,?_,hg2 (hmov h3 (dZ _ hyl))⟩;rw[hv];rcases hw2 with⟨y',e1,e2⟩|⟨e1,_⟩
     ·subst e1;simp at h1;subst h1;rw[e2];exact h2
     ·rw[hw1]at e1;simp at e1
    ·have hA:aoP Γ sg.rs rs=some A:=by
      unfold am9 at hA;split at hA
      ·rename_i r x hr;exact eF ⟨r,hr⟩ hsg
      ·exact hA
     unfold aa9 at hf;split at hf
     ·rename_i r hr;exact eF ⟨r,hr⟩ hsg
     ·rw[lV]at hf;obtain⟨q,hq,hf⟩:=hf;rw[bu]at hf;obtain⟨e,he,rfl⟩:=hf;obtain⟨y,hy,hyl⟩:=aaT hA hq;split at hy
      ·rename_i x hx;obtain⟨z,hz,hzl⟩:=FM hy e he;simp only[dD]at hz;obtain⟨m,hm,rfl⟩:=hz;obtain⟨z',u,h1,h2,h3⟩:=hres q.2 x e.1 e.2 m hx hm;have hws:ws.length≠1:=by
        rw[hw1,<- hlen];intro h5
        match hsr:sg.rs,h5 with
        |[r],_=>exact hsg ⟨r,hsr⟩
       rcases hw2 with⟨y',e1,e2⟩|⟨_,e2⟩
       ·rw[e1]at hws;simp at hws
       ·refine⟨ws.toArray,z',u,by rw[hv,e2],by simpa using h1,h2,hg2 (hmov h3 (dZ _ (hyl _ hzl)))⟩
      ·cases hy
   have hg1:=h.good.mv dp mvL;have hget:∀i,i<vs.length->((vs++[v]).toArray).getD i undef=vs.getD i undef:=λi hi=>(by rw[fH,nU,cu hi,cZ]);have hidx:∀i r,(i,r)∈KL sg.ps<->sg.ps[i]? = some (.var r):=λi r=>by
    unfold KL;rw[eG];constructor
    ·rintro⟨⟨p,j⟩,h1,h2⟩;have h1:=oz.1 h1;simp only at h1 h2;cases p<;>simp at h2;obtain⟨rfl,rfl⟩:=h2;simpa using h1
    ·intro h1;exact⟨(.var r,i),oz.2 (by simpa using h1),rfl⟩
   have hvar:∀f,f∈ads sg->∃i r,(i,r)∈KL sg.ps/\(f = .vp i i 0\/∃e,e∈r/\f = .row i ⟨e.1,e.2,30000+i*20+e.1⟩):=by
    intro f hf;rw[ads,lV]at hf;obtain⟨⟨p,i⟩,h1,h2⟩:=hf;have h1:=oz.1 h1;simp only at h1 h2;cases p with
    | var r=>
      simp only[aK,bu]at h2;refine⟨i,r,(hidx i r).2 (by simpa using h1),?_⟩;rcases h2 with rfl|⟨e,he,rfl⟩
      ·exact .inl rfl
      ·exact .inr ⟨e,he,rfl⟩
    |_=>simp at h2
   match hvi:KL sg.ps,hone with
   | [],_=>
     refine⟨g.mv dp mvL,Rel.mv _ _,hg1,λf hf=>?_⟩;rw[VU,bG]at hf;rcases hf with hf|hf
     ·exact hrf (λh=>h) f hf
     ·obtain⟨i,r,h1,_⟩:=hvar f hf;rw[hvi]at h1;cases h1
   | [(i,r)],_=>
     obtain⟨y,hy,hyl⟩:=aaT hB (show(i,r)∈KL sg.ps by rw[hvi];exact bD ..);split at hy
     ·rename_i hcon;obtain⟨k,row,e1,_,e3⟩:=h.fs _ (kT.1 hcon)
      dsimp only at e1 e3
      obtain⟨ap5,hk1⟩:=adm (mv:=mvL) (dp:=dp) e3;have hpi:=(hidx i r).1 (by rw[hvi];exact bD ..);have hil:i<vs.length:=(by rw[hl];exact(aS.1 hpi).1);have hti:((vs++[v]).toArray).getD i undef = .pointer (some ⟨k,0,none⟩):=by rw[hget i hil,<- hpa i r (by rw[hvi];exact bD ..)];exact e1
      have hgood:Good P ((g.mv dp mvL).upd k (.var (r.map λe=>⟨e.1,e.2,30000+i*20+e.1⟩) dp i)) w':=by refine hg1.OO hk1 λcs e hw rr hrr=>?_;rw[bu]at hrr;obtain⟨q,hq,rfl⟩:=hrr;obtain⟨z,hz,hzl⟩:=FM hy q hq;simp only[dD]at hz;obtain⟨m,hm,rfl⟩:=hz;obtain⟨k',row',e4,e5,e6⟩:=Tf h hm;rw[e1]at e4;cases e4;obtain⟨cs',e',hw',hrow⟩:=h.good.var _ _ _ _ e5;rw[hw]at hw';cases hw';obtain⟨u,hu,hg⟩:=hrow _ e6;exact⟨u,hu,hmov hg (fQ _ (hyl _ hzl))⟩
      refine⟨_,(Rel.mv N mvL).trans (Rel.OO hk1 (aF _)),hgood,λf hf=>?_⟩;rw[VU,bG]at hf;rcases hf with hf|hf
      ·exact hrf (λh=>h.Tj hk1) f hf
      ·obtain⟨i',r',h1,h2⟩:=hvar f hf;rw[hvi]at h1;simp only[aK,iW,or_false,dF]at h1;obtain⟨rfl,rfl⟩:=h1;rcases h2 with rfl|⟨e,he,rfl⟩
       ·exact⟨k,_,hti,hti,aA rfl⟩
       ·exact⟨k,_,hti,aA rfl,bu.2 ⟨e,he,rfl⟩⟩
     ·cases hy
   |_::_::_,hone=>simp at hone
  ·cases hmv
 ·cases hmv
end
section
variable {P:Program} {E:Env P} {I:IH} {ρ:Ren} {n:Nat} {st:gZ} {a:Act} {w:World}
def PG : List AV->Nat->List (Nat×Slot)
 |[],_=>[]
 |x::xs,i=>(i,.v true x)::PG xs (i+1)
def FO : List Box->Nat->List (Nat×Box)
 |[],_=>[]
 |x::xs,i=>(i,x)::FO xs (i+1)
theorem TG : ∀{xs:List AV} {i t:Nat},BR (PG xs i) t=if i<=t then(match xs[t-i]? with|some x=>.v true x|none=>.none)else .none
 |[],i,t=>by simp[PG,BR]
 | x::xs,i,t=>by
   simp only[PG,BR];by_cases h:i=t
   ·subst h;simp
   ·rw[au h,TG (xs:=xs)];by_cases h':i<=t
    ·have e:t-i=(t-(i+1))+1:=(by omega);rw[aA h',aA aI,e];simp
    ·rw[au h',au aI]
theorem Nu : ∀{xs:List Box} {i t:Nat},uP (FO xs i) t=if i<=t then xs.getD (t-i) .absent else .absent
 |[],i,t=>by simp[FO,uP]
 | x::xs,i,t=>by
   simp only[FO,uP];by_cases h:i=t
   ·subst h;simp
   ·rw[au h,Nu (xs:=xs)];by_cases h':i<=t
    ·have e:t-i=(t-(i+1))+1:=(by omega);rw[aA h',aA aI,e];simp
    ·rw[au h',au aI]
def st0 (args:List AV)(fp:List Box):gZ:=gZ.of (PG args 0) (FO fp 0)
theorem ajs (args:List AV)(fp:List Box):(st0 args fp).bx=C9 fp:=by
 funext b
 unfold st0;rw[Ff,Nu];simp[C9]
def QF (rs:List yZ)(m:Nat)(post:AV->List Box->Prop):AQ
 |.normal,st=>LK rs m post st
 |.ret,st=>LK rs m post st
 |.exit _,_=>False
def am3 (P:Program)(c:Code)(ac:dK)(rs:List yZ)(sg:ZN):Bool:=match oC P ((KL sg.ps).map (·.1)) (rkO sg rs) c ac (Ui sg.ps)with
 |some (some Γ,_)=>rkO sg rs Γ
 |some (none,_)=>true
 |none=>false
def aiz (P:Program)(f:FuncId)(c:Code)(ac:dK)(rs:List yZ)(k m:Nat):Bool:=match kindOf f with
 |.none=>true
 |.rd=>m==0
 |.ow sg=>am3 P c ac rs sg&&k==sg.ps.length
def jO (P:Program)(f:FuncId)(k m:Nat)(ac:dK)(rs:List yZ):Bool:=
 match P.funcs[f]? with
 | some fn=>match fn.body with
   |some c=>decide (k<=fn.ntmps)&&decide (m<=10)&&xx P fn.ntmps m c ac&&EP P fn.ntmps fn.results.toList rs&&aiz P f c ac rs k m
   |none=>false
 |none=>false
def LU (P:Program)(f:FuncId)(k m:Nat)(ac:dK)(rs:List yZ):Bool:=
 match P.funcs[f]? with
 | some fn=>match fn.body with
   |some c=>decide (k<=fn.ntmps)&&decide (m<=10)&&xx P fn.ntmps m c ac&&EP P fn.ntmps fn.results.toList rs
   |none=>false
 |none=>false
theorem N7 {fn:Func}{args:List AV}{fp:List Box}{I:IH}{ρ:Ren}{w:World}{vs:List Value}(hk:args.length<=fn.ntmps)(hT:Tabs P I)(hA:Agree I w)(hB:BX I ρ w (C9 fp))(hV:UR I ρ vs args) :
 GX (⟨w,I,λk=>∃b,(C9 fp b).uses (ρ b) k,ρ,fp.length,hT⟩:Env P) I ρ fn.ntmps (st0 args fp) { tmps:=vs.toArray++tC (fn.ntmps-vs.toArray.size) undef,defers:=[] } w:=by
 have hlen:vs.length=args.length:=hV.1;refine{ agree:=hA,bx:=by rw[ajs];exact hB,tm:=λt ht=>?_,size:=by simp;omega,defers:=rfl,DK:=DN.refl _ _,own:=λb k hu=>?_,Nh:=IH.le_refl _,IW:=λk _ _=>rfl,zT:=λb _=>rfl }
 ·unfold st0;rw[Kz,TG];simp only[Nat.zero_le,jY,oP];cases hx:args[t]? with
  |none=>trivial
  | some x=>
    have hlt:=(aS.1 hx).1;have hvt:vs[t]? = some vs[t]:=aB aI;refine⟨λ_=>?_,λe=>by cases e⟩;have hg:=hV.2 t _ x hvt hx;have e:((vs.toArray++tC (fn.ntmps-vs.toArray.size) undef).getD t undef)=vs[t]:=by rw[fH,sJ (by simp;omega)];simp[hvt]
    rw[e];exact hg
 ·right
  rw[ajs]at hu;exact⟨b,hu⟩
theorem UD {fn:Func}{rs:List yZ}{fp:List Box}{post:AV->List Box->Prop}{I:IH}{ρ:Ren}{w:World}{hT:Tabs P I}(hcr:EP P fn.ntmps fn.results.toList rs=true) :
 ∀ {a:Act} {w':World},AK (⟨w,I,λk=>∃b,(C9 fp b).uses (ρ b) k,ρ,fp.length,hT⟩:Env P) fn.ntmps (LK rs fp.length post) a w'->a.defers=[]/\∃v,(results fn a.tmps).run P w' = .ok v w'/\∃(v':Value) (J:IH) (σ:Ren) (r:AV) (bs:List Box),Ending.returned v = .returned v'/\post r bs/\GV J σ v' r/\Agree J w'/\BX J σ w' (C9 bs) /\
   I.le J/\DN w w' (λk=>∃b,(C9 fp b).uses (ρ b) k) /\
   (∀b k,(C9 bs b).uses (σ b) k->w.heap.size<=k\/∃b',(C9 fp b').uses (ρ b') k) /\
   (∀k,k<w.heap.size->(¬ ∃b,(C9 fp b).uses (ρ b) k)->J k=I k) /\
   (∀b,b<fp.length->σ b=ρ b):=by
 rintro a w' ⟨I',ρ',st,⟨hok,r,bs,zs,π,us,hp,hws,hwv⟩,hg⟩;obtain⟨ws,hrun,hl,hgs⟩:=abo hg hcr hok;have hv:∃v,(results fn a.tmps).run P w' = .ok v w'/\GV I' ρ' v (Xe st rs):=by
  have hrun':(fn.results.mapM (Uk a.tmps)).run P w' = .ok ws.toArray w':=by rw[xX];simp[hrun]
  rw[Lp];by_cases h1:∃r0,rs=[r0]
  ·obtain⟨r0,rfl⟩:=h1
   match ws,hl,hgs,hrun' with
   |[v0],_,hgs,hrun'=>exact⟨v0,by simp[hrun'],hgs 0 v0 r0 rfl rfl⟩
  ·have hne:ws.length≠1:=by
    intro h;rw[hl]at h
    match rs,h,h1 with
    |[r0],_,h1=>exact h1 ⟨r0,rfl⟩
   have hrv:Xe st rs = .AA (BI st rs):=by
    match rs,h1 with
    |[],_=>rfl
    |[r0],h1=>exact eF ⟨r0,rfl⟩ h1
    |_::_::_,_=>rfl
   refine⟨.tuple ws.toArray,by simp[hrun',hne],?_⟩;rw[hrv];have hparts:∀{rs:List yZ},Jc st rs->(BI st rs).length=rs.length/\∀(j:Nat) (p:Bool×List AC),(BI st rs)[j]? = some p->∃r,rs[j]? = some r/\p=partOf (r.val st)/\(r.val st).flat:=by
    intro rs
    induction rs with
    |nil=>intro _;exact⟨rfl,λj p hp=>by simp[BI]at hp⟩
    | cons r0 rs ih=>
      rintro⟨_,h2,h3⟩;obtain⟨j1,j2⟩:=ih h3;refine⟨by simp[BI,j1],λj p hp=>?_⟩;cases j with
      |zero=>simp[BI]at hp;exact⟨r0,rfl,hp.symm,h2⟩
      |succ j=>obtain⟨r',hr',h'⟩:=j2 j p (by simpa[BI]using hp);exact⟨r',by simpa using hr',h'⟩
   obtain⟨p1,p2⟩:=hparts hok;refine⟨ws.toArray,rfl,by simp[hl,p1],λj v p hv hp=>?_⟩;obtain⟨r',hr',rfl,hfl⟩:=p2 j p hp;have hgv:=hgs j v r' (by simpa using hv) hr';unfold GP;cases hval:r'.val st with
   |one x=>rw[hval]at hgv;simp only[partOf];exact⟨x,rfl,hgv⟩
   |agg xs=>rw[hval]at hgv;simp only[partOf,jY];exact hgv
   |AA q=>rw[hval]at hfl;exact hfl.elim
 obtain⟨v,hrv,hgv⟩:=hv;have hS:=Yd hg (aF _) hws;refine⟨hg.defers,v,hrv,v,_,_,r,bs,rfl,hp,al0 hg hws.vir hgv hwv,hS.agree,hS.bx,hS.Nh,hS.DK,hS.own,hS.IW,hS.zT⟩
theorem VC {f:FuncId}{ac:dK}{rs:List yZ}{args:List AV}{fp:List Box}{post:AV->List Box->Prop}(hc:LU P f args.length fp.length ac rs=true)
 (hwp:wpC P ac (QF rs fp.length post) (st0 args fp)):NS P f args fp post:=by
 unfold LU at hc;split at hc
 ·rename_i fn hf;split at hc
  ·rename_i c hb;simp only[ah,aC]at hc;obtain⟨⟨⟨hk,hm⟩,hcc⟩,hcr⟩:=hc;intro I ρ w vs hT hA hB hV;have hG:=N7 (fn:=fn) hk hT hA hB hV;refine calls_of_wp hf hb (wp_mono (zL hm hcc ⟨I,ρ,_,hwp,hG⟩) λe a w' hq=>?_);cases e with
   |normal=>obtain⟨h1,v,h2,h3⟩:=UD hcr hq;exact⟨h1,v,h2,h3⟩
   |ret=>obtain⟨h1,v,h2,h3⟩:=UD hcr hq;exact⟨h1,v,h2,h3⟩
   |exit id=>obtain⟨_,_,_,h,_⟩:=hq;exact h.elim
   |goto l=>exact hq.elim
   |panic ch=>exact hq.elim
   |outgrown=>exact hq.elim
  ·cases hc
 ·cases hc
theorem yL {f:FuncId}{ac:dK}{rs:List yZ}{args:List AV}{fp:List Box}{post:AV->List Box->Prop}(hc:jO P f args.length fp.length ac rs=true)
 (hwp:wpC P ac (QF rs fp.length post) (st0 args fp)):pM P f args fp post:=by
 unfold jO at hc;split at hc
 ·rename_i fn hf;split at hc
  ·rename_i c hb;simp only[ah,aC]at hc;obtain⟨⟨⟨⟨hk,hm⟩,hcc⟩,hcr⟩,hkn⟩:=hc;intro I ρ w vs hT hA hB hV X hX
   let E:Env P:=⟨w,I,λk=>∃b,(C9 fp b).uses (ρ b) k,ρ,fp.length,hT⟩
   have hlen:vs.length=args.length:=hV.1;have hG:=N7 (fn:=fn) hk hT hA hB hV;have key:=@UD P fn rs fp post I ρ w hT hcr;cases hX with
   | abH=>
     refine calls_of_wp hf hb (wp_mono (zL (E:=E) hm hcc ⟨I,ρ,_,hwp,hG⟩) λe a w' hq=>?_);cases e with
     |normal=>obtain⟨h1,v,h2,h3⟩:=key hq;exact⟨h1,v,h2,h3,trivial⟩
     |ret=>obtain⟨h1,v,h2,h3⟩:=key hq;exact⟨h1,v,h2,h3,trivial⟩
     |exit id=>obtain⟨_,_,_,h,_⟩:=hq;exact h.elim
     |goto l=>exact hq.elim
     |panic ch=>exact hq.elim
     |outgrown=>exact hq.elim
   | rd hkd=>
     have hfp:fp=[]:=by unfold aiz at hkn;rw[hkd]at hkn;exact wH.1 (by simpa using hkn)
     refine calls_of_wp hf hb (wp_mono (zL (E:=E) hm hcc ⟨I,ρ,_,hwp,hG⟩) λe a w' hq=>?_);have fin:AK E fn.ntmps (LK rs fp.length post) a w'->_:=λhq=>key hq;cases e with
     | normal=>obtain⟨h1,v,h2,h3⟩:=key hq;have h3':=h3;obtain⟨_,_,_,_,_,_,_,_,_,_,_,hF,_⟩:=h3';exact⟨h1,v,h2,h3,hF.os,hF.tape,hF.output,hF.size,λk hk _=>hF.block k hk (by subst hfp;rintro⟨b,hb⟩;exact Lj b k hb)⟩
     | ret=>obtain⟨h1,v,h2,h3⟩:=key hq;have h3':=h3;obtain⟨_,_,_,_,_,_,_,_,_,_,_,hF,_⟩:=h3';exact⟨h1,v,h2,h3,hF.os,hF.tape,hF.output,hF.size,λk hk _=>hF.block k hk (by subst hfp;rintro⟨b,hb⟩;exact Lj b k hb)⟩
     |exit id=>obtain⟨_,_,_,h,_⟩:=hq;exact h.elim
     |goto l=>exact hq.elim
     |panic ch=>exact hq.elim
     |outgrown=>exact hq.elim
   | ow sg hkd hl g dp hin=>
     have hok:am3 P c ac rs sg=true:=by unfold aiz at hkn;rw[hkd]at hkn;simp only[ah]at hkn;exact hkn.1
     unfold am3 at hok;have hinit:OW P FV g dp (Ui sg.ps) { tmps:=vs.toArray++tC (fn.ntmps-vs.toArray.size) undef,defers:=[] } w:=
      ⟨hin.good,λf hf=>(hin.fs f hf).put λt _=>by
       simp only[fH];by_cases ht:t<vs.toArray.size
       ·rw[sJ ht]
       ·have hnone:vs.toArray[t]? = none:=Array.getElem?_eq_none aI;rw[Array.getElem?_append_right aI,hnone];cases hq:(tC (fn.ntmps-vs.toArray.size) undef)[t-vs.toArray.size]? with
        |none=>rfl
        | some u=>have:=eH.1 hq;obtain⟨h1,h2⟩:=this;rw[Array.getElem_replicate]at h2;rw[<- h2];rfl⟩
     let pa:List (Nat×Value):=(KL sg.ps).map λe=>(e.1,vs.getD e.1 undef)
     have hpl:∀e,e∈pa->e.1∈(KL sg.ps).map (·.1):=λe he=>by simp only[pa,bu]at he⊢;obtain⟨q,hq,rfl⟩:=he;exact⟨q,hq,rfl⟩
     have hPA:PA pa { tmps:=vs.toArray++tC (fn.ntmps-vs.toArray.size) undef,defers:=[] }:= λe he=>by
      simp only[pa,bu]at he;obtain⟨q,hq,rfl⟩:=he;have hqi:q.1<vs.length:=by rw[hl];unfold KL at hq;rw[eG]at hq;obtain⟨⟨p,i⟩,h1,h2⟩:=hq;have h1:=oz.1 h1;simp only at h1 h2;cases p<;>simp at h2;subst h2;exact(aS.1 h1).1
      simp only[fH,cZ];rw[sJ (by simpa using hqi)];simp
     cases hoc:oC P ((KL sg.ps).map (·.1)) (rkO sg rs) c ac (Ui sg.ps)with
     |none=>rw[hoc]at hok;cases hok
     | some r=>
       have apQ:=yu (E:=E) (g0:=g) (dp:=dp) hm hpl hcc hoc ⟨⟨⟨I,ρ,_,hwp,hG⟩,g,Rel.refl _ _ _,hinit⟩,hPA⟩;refine calls_of_wp hf hb (wp_mono apQ λe a w' hq=>?_);cases e with
       | normal=>
         obtain⟨Γ,h1,⟨hak,g1,hr1,how⟩,hpa⟩:=hq;have hrk:rkO sg rs Γ = true:=by rw[hoc]at hok;obtain⟨r1,r2⟩:=r;simp only at h1;subst h1;exact hok
         obtain⟨h1,v,h2,h3⟩:=key hak;obtain⟨g',hr2,amI⟩:=aeP (N:=w.heap.size) how h2 hcr hrk hl (λi r hir=>hpa (i,vs.getD i undef) (bu.2 ⟨(i,r),hir,rfl⟩));exact⟨h1,v,h2,h3,v,g',rfl,hr1.trans hr2,amI⟩
       | ret=>obtain⟨Γ,hrk,⟨hak,g1,hr1,how⟩,hpa⟩:=hq;obtain⟨h1,v,h2,h3⟩:=key hak;obtain⟨g',hr2,amI⟩:=aeP (N:=w.heap.size) how h2 hcr hrk hl (λi r hir=>hpa (i,vs.getD i undef) (bu.2 ⟨(i,r),hir,rfl⟩));exact⟨h1,v,h2,h3,v,g',rfl,hr1.trans hr2,amI⟩
       |exit id=>obtain⟨Γ,_,⟨⟨_,_,_,h,_⟩,_⟩,_⟩:=hq;exact h.elim
       |goto l=>exact hq.elim
       |panic ch=>exact hq.elim
       |outgrown=>exact hq.elim
  ·cases hc
 ·cases hc
end
end
section
section
variable {P:Program} {g:Own} {w w':World} {dp N:Nat} {dr:zn->Bool} {φ:zn->zn}
theorem Good.perm (h:Good P g w)(hb:∀k T p,g k=some (.arr T p)->dr p=false->∀j,dr (.blk k j)=false/\φ (.blk k j) = .blk k j)
 {M:Nat->Prop} (hF:∀k,k<w.heap.size->¬M k->w'.heap[k]? = w.heap[k]?) (hM:∀k,M k->(g.re dr φ) k=none)
 {kr T n:Nat} {p:zn} {cs:Array Value} {e:TypeId} (hkr:(g.re dr φ) kr=none) (hw:w'.heap[kr]? = some (.cells cs e (0,0)))
 (hc:∀j u T',j<n*xO P T->cs[j]? = some u->(j%xO P T,T')∈oD P T->GR (g.re dr φ) u T' (.blk kr j)):Good P ((g.re dr φ).upn kr (.arr T p) n) w':=by
 have h1:=h.re hb;have h2:Good P (g.re dr φ) w':=h1.world λk hk=>hF k (by
  cases hx:(g.re dr φ) k with
  |none=>exact eF hx hk
  |some B=>exact h1.lt hx) (λhm=>hk (hM k hm))
 have hna:∀T' q,(g.re dr φ) kr≠some (.arr T' q):=λT' q e=>by rw[hkr]at e;cases e
 refine⟨λk T' q hk=>?_,λk row d b hk=>?_⟩
 ·rw[yN]at hk;split at hk
  ·rename_i e1;cases hk;subst e1;exact⟨cs,e,hw,λj u T' hb hu ht=>(hc j u T' (by rwa[E5,aA rfl]at hb) hu ht).upd hna⟩
  ·rename_i hne;obtain⟨cs',e',hw',h3⟩:=h2.arr k T' q hk;exact⟨cs',e',hw',λj u T' hb hu ht=>(h3 j u T' (by rwa[E5,au hne]at hb) hu ht).upd hna⟩
 ·rw[yN]at hk;split at hk
  ·cases hk
  ·obtain⟨cs',e',hw',h3⟩:=h2.var k row d b hk;exact⟨cs',e',hw',λr hr=>let ⟨u,hu,hgr⟩:=h3 r hr;⟨u,hu,hgr.upd hna⟩⟩
theorem Rel.perm (h:Rel dp N g (g.re dr φ)){kr T n:Nat}{p:zn}(hkr:(g.re dr φ) kr=none)(ho:N<=kr\/∃q,g kr=some (.arr T q)):Rel dp N g ((g.re dr φ).upn kr (.arr T p) n):=by
 refine⟨λk T' d m hd hk=>?_,λk row d b hd hk=>?_,λk B' hlt hB=>?_⟩
 ·have h1:=h.tag k T' d m hd hk;have hne:k≠kr:=λe=>by subst e;rw[hkr]at h1;cases h1.1
  rw[yN,E5,au hne,au hne];exact h1
 ·have h1:=h.var k row d b hd hk;have hne:k≠kr:=λe=>by subst e;rw[hkr]at h1;cases h1
  rw[yN,au hne];exact h1
 ·rw[yN]at hB;split at hB
  ·rename_i e;subst e;cases hB;rcases ho with ho|⟨q,ho⟩
   ·omega
   ·exact⟨_,ho,λT' p' hb=>by rcases hb with e|e<;>cases e<;>exact⟨_,_,rfl,rfl⟩⟩
  ·exact h.old k B' hlt hB
end
def lits (l:List (List Value)):List (List Cell):=l.map λe=>e.map .lit
theorem Eu (l:List (List Value)):(lits l).length=l.length:=by simp[lits]
theorem lits_get (l:List (List Value))(i j:Nat):((lits l).getD i [])[j]? = ((l.getD i [])[j]?).map .lit:=by simp only[lits,cZ,dG];cases l[i]? <;> simp
theorem YK {I:IH}{ρ:Ren}{w:World}{b sz:Nat}{es:List (List Cell)}(h:yD I ρ w b (.dat sz es)):∃ls:List (List Value),ls.length=es.length/\(∀e,e∈ls->e.length=sz)/\yD I ρ w b (.dat sz (lits ls)) /\
 ∀(i j:Nat) (c:Cell),(es.getD i [])[j]? = some c->∃u,(ls.getD i [])[j]? = some u/\Rd I u c:=by
 obtain⟨k,cap,h1,h2,h3,h4,h5⟩:=h;by_cases hc:cap=0
 ·have:es=[]:=wH.1 aI;subst this;refine⟨[],rfl,(λe he=>by cases he),⟨k,cap,h1,by simp[lits],h3,(λe he=>by cases he),λh=>eF hc h⟩,(λi j c hx=>by simp at hx)⟩
 ·obtain⟨cs,e,hw,hs,h1c,hcell⟩:=h5 hc
  let ls:List (List Value):=(tV es.length).map λi=>(tV sz).map λj=>(cs[i*sz+j]?).getD undef
  have hget:∀i j,(ls.getD i [])[j]? = if i<es.length/\j<sz then some ((cs[i*sz+j]?).getD undef)else none:=by
   intro i j;simp only[ls,cZ,dG];by_cases hi:i<es.length
   ·rw[yc hi];simp only[kL,lW,dG];by_cases hj:j<sz
    ·rw[yc hj];simp[hi,hj]
    ·rw[kU (l:=tV sz) (by simpa using hj)];simp[hj]
   ·rw[kU (l:=tV es.length) (by simpa using hi)];simp[hi]
  have hin:∀i j,i<es.length->j<sz->∃u,cs[i*sz+j]? = some u:=λi j hi hj=>by
   have:i*sz+j<cs.size:=by
    rw[hs]
    calc i*sz+j<i*sz+sz:=by omega
     _=(i+1)*sz:=by rw[dL,yR]
     _<=cap*sz:=aX _ aI
   exact⟨_,lZ this⟩
  refine⟨ls,by simp[ls],λe he=>?_,⟨k,cap,h1,by rw[Eu];simpa[ls]using h2,h3,λe he=>?_,λ_=>⟨cs,e,hw,hs,h1c,λi j c hc=>?_⟩⟩,λi j c hc=>?_⟩
  ·simp only[ls,bu]at he;obtain⟨i,_,rfl⟩:=he;simp
  ·simp only[lits,ls,bu]at he;obtain⟨_,⟨i,_,rfl⟩,rfl⟩:=he;simp
  ·rw[lits_get,hget]at hc;split at hc
   ·rename_i hij;obtain⟨u,hu⟩:=hin i j hij.1 hij.2;rw[hu]at hc;simp only[lW,kL,aH]at hc;subst hc;exact⟨u,hu,.lit u (h1c _ _ hu)⟩
   ·cases hc
  ·obtain⟨u,hu,hr⟩:=hcell i j c hc;have hi:i<es.length:=by
    rcases Ic i es.length with h|h
    ·exact h
    ·rw[cZ,kU h]at hc;simp at hc
   have hj:j<sz:=by
    have h6:=(aS.1 hc).1;rw[cZ,aB hi]at h6;simp only[lW]at h6
    rwa[h4 _ (dX hi)]at h6
   exact⟨u,by rw[hget,aA ⟨hi,hj⟩,hu];rfl,hr⟩
theorem Y1 {I:IH}{ρ:Ren}{w:World}{b sz:Nat}{es:List (List Cell)}{ls:List (List Value)}(h:yD I ρ w b (.dat sz (lits ls)))(hl:es.length=ls.length)(hs:∀e,e∈es->e.length=sz)
 (hr:∀(i j:Nat) (c:Cell),(es.getD i [])[j]? = some c->∃u,(ls.getD i [])[j]? = some u/\Rd I u c):yD I ρ w b (.dat sz es):=by
 obtain⟨k,cap,h1,h2,h3,h4,h5⟩:=h;rw[Eu]at h2;refine⟨k,cap,h1,aI,h3,hs,λhc=>?_⟩;obtain⟨cs,e,hw,hsz,h1c,hcell⟩:=h5 hc;refine⟨cs,e,hw,hsz,h1c,λi j c hij=>?_⟩;obtain⟨u,hu,hrd⟩:=hr i j c hij;obtain⟨u',hu',amG⟩:=hcell i j (.lit u) (by rw[lits_get,hu];rfl);cases amG;exact⟨_,hu',hrd⟩
theorem VJ {I:IH}{ρ:Ren}{w:World}{b sz k cap:Nat}{ls:List (List Value)}(h:yD I ρ w b (.dat sz (lits ls)))(hk:ρ b=some (k,cap))(hc:cap≠0):∃cs e,w.heap[k]? = some (.cells cs e (0,0)) /\
 ∀i j u,(ls.getD i [])[j]? = some u->cs[i*sz+j]? = some u:=by
 obtain⟨k',cap',h1,h2,h3,h4,h5⟩:=h;rw[hk]at h1;cases h1;obtain⟨cs,e,hw,hsz,h1c,hcell⟩:=h5 hc;refine⟨cs,e,hw,λi j u hu=>?_⟩;obtain⟨u',hu',amG⟩:=hcell i j (.lit u) (by rw[lits_get,hu];rfl);cases amG;exact hu'
theorem Og {I J:IH}(hle:I.le J){es:List (List Cell)}{ls:List (List Value)}(h:∀(i j:Nat) (c:Cell),(es.getD i [])[j]? = some c->∃u,(ls.getD i [])[j]? = some u/\Rd I u c)(i j:Nat)(c:Cell)(hc:(es.getD i [])[j]? = some c) :
 ∃u,(ls.getD i [])[j]? = some u/\Rd J u c:=let ⟨u,h1,h2⟩:=h i j c hc;⟨u,h1,h2.mono hle⟩
end
section
def aio (P:Program)(f sz:Nat):Bool:=match kindOf f with
 |.none=>true
 |.rd=>false
 | .ow sg=>(match sg.rs with
   |[[(0,T)]]=>decide (sg=⟨[.own [(0,T)],.any,.own [(0,T)]],[[(0,T)]]⟩)&&xO P T==sz
   |_=>false)
def ahN (P:Program)(f sz:Nat):Bool:=match kindOf f with
 |.none=>true
 |.rd=>false
 | .ow sg=>(match sg.rs with
   |[[(0,T)]]=>decide (sg=⟨[.own [(0,T)],.any,.any],[[(0,T)]]⟩)&&xO P T==sz
   |_=>false)
theorem akP {P:Program}{f sz:Nat}(h:aio P f sz=true){sg:ZN}(hk:kindOf f = .ow sg):∃T,sg=⟨[.own [(0,T)],.any,.own [(0,T)]],[[(0,T)]]⟩/\xO P T=sz:=by
 unfold aio at h;rw[hk]at h
 dsimp only at h
 split at h
 ·simp only[ah,aC,aY]at h;exact⟨_,h.1,h.2⟩
 ·cases h
theorem akA {P:Program}{f sz:Nat}(h:ahN P f sz=true){sg:ZN}(hk:kindOf f = .ow sg):∃T,sg=⟨[.own [(0,T)],.any,.any],[[(0,T)]]⟩/\xO P T=sz:=by
 unfold ahN at h;rw[hk]at h
 dsimp only at h
 split at h
 ·simp only[ah,aC,aY]at h;exact⟨_,h.1,h.2⟩
 ·cases h
def OI (ks:Option Nat)(kv kr a sz:Nat):zn->zn
 |.blk b j=>if some b=ks then(if j<a then .blk kr j else .blk kr (j+sz))else if b=kv then .blk kr (a+j)else .blk b j
 |p=>p
def TD (ks:Option Nat)(kr a b d:Nat):zn->zn
 |.blk k j=>if some k=ks then(if j<a then .blk kr j else if b<=j then .blk kr (j-d)else .dead)else .blk k j
 |p=>p
theorem IY {q r sz:Nat}(h:r<sz):(q*sz+r)%sz=r:=by rw[yt,xN,xE h]
section
variable {P:Program}
theorem Ze {g:Own}{dp m sz n c T cap k0 b0:Nat}{w:World}{a:Option Addr}{I:IH}{ρ:Ren}{ls:List (List Value)}(hg:Good P g w)(hT:xO P T=sz)(hs:GR g (.slice a n c) T (.tag dp m))(hρ:ρ b0=some (k0,cap))(hn:n<=c)(hc:c<=cap)
 (ha:cap≠0->a=some ⟨k0,0,none⟩) (hl:ls.length=n) (hsz:∀e,e∈ls->e.length=sz) (hb:yD I ρ w b0 (.dat sz (lits ls))) :
 ∃ ks:Option Nat,(∀b,ks=some b->g b=some (.arr T (.tag dp m)))/\(cap≠0->ks=some k0) /\
   ∀q r u T',(ls.getD q [])[r]? = some u->(r,T')∈oD P T->∃b,ks=some b/\GR g u T' (.blk b (q*sz+r)):=by
 have inr:∀{q r u},(ls.getD q [])[r]? = some u->q<n/\r<sz:=by
  intro q r u hu;have hq:q<ls.length:=by
   rcases Ic q ls.length with h|h
   ·exact h
   ·rw[cZ,kU h]at hu;simp at hu
  refine⟨aI,?_⟩;have h6:=(aS.1 hu).1;rw[cZ,aB hq]at h6;simp only[lW]at h6
  rwa[hsz _ (dX hq)]at h6
 rcases hs with e|⟨k,n',c',e,hk,hbd⟩
 ·cases e;refine⟨none,(λb hb=>by cases hb),λh=>(by have:=ha h;cases this),λq r u T' hu _=>?_⟩;have:=(inr hu).1;omega
 ·cases e;refine⟨some k,(λb hb=>by cases hb;exact hk),λh=>(by have:=ha h;cases this;rfl),λq r u T' hu ht=>⟨k,rfl,?_⟩⟩;obtain⟨h1,h2⟩:=inr hu;have hc0:cap≠0:=by omega
  have e1:=ha hc0;cases e1;obtain⟨cs,e,hw,hcell⟩:=VJ hb hρ hc0;obtain⟨cs',e',hw',hown⟩:=hg.arr _ _ _ hk;rw[hw]at hw';cases hw';refine hown _ u T' ?_ (hcell q r u hu) ?_
  ·rw[hT]
   calc q*sz+r<q*sz+sz:=by omega
    _=(q+1)*sz:=by rw[dL,yR]
    _<=_:=aX _ aI
  ·rw[hT,IY h2];exact ht
theorem aos {g:Own}{dp m k T:Nat}{ks:Option Nat}(h:∀b,ks=some b->g b=some (.arr T (.tag dp m))){B:Blk}(hk:g k=some B)(hB:B ≠ .arr T (.tag dp m)):some k≠ks:=λe=>by have:=h k e.symm;rw[hk]at this;cases this;exact hB rfl
theorem ak4 {f sz:Nat}(hk:aio P f sz=true){es:List (List Cell)}{v:List Cell}{i:Nat}(hi:i<=es.length)
 (hz:∀(ls:List (List Value)) (lv:List Value) (c:Nat),ls.length=es.length->es.length<=c->NS P f [.one (.sub 0 0 ls.length (some c) sz),.one (.c (.lit (.int .i64 (i:Int)))),.one (.own 1 1 sz)] [.dat sz (lits ls),.dat sz [lv.map .lit]]
  (λr b=>r = .one (.own 2 (ls.length+1) sz)/\b=[.dead,.dat sz [lv.map .lit],.dat sz (lits (ls.take i++lv::ls.drop i))])) :
 pM P f [.one (.own 0 es.length sz),.one (.c (.lit (.int .i64 (i:Int)))),.one (.own 1 1 sz)] [.dat sz es,.dat sz [v]]
  (λr b=>r = .one (.own 2 (es.length+1) sz)/\b=[.dead,.dat sz [v],.dat sz (es.take i++v::es.drop i)]):=by
 intro I ρ w vs hT hA hB hV X hX;obtain⟨ls,l1,l2,l3,l4⟩:=YK (show yD I ρ w 0 (.dat sz es)from hB.ok 0);obtain⟨lv',m1,m2,m3,m4⟩:=YK (show yD I ρ w 1 (.dat sz [v])from hB.ok 1);obtain⟨lv,rfl⟩:=List.length_eq_one_iff.1 m1;have hv:v.length=sz:=by obtain⟨_,_,_,_,_,h,_⟩:=(show yD I ρ w 1 (.dat sz [v])from hB.ok 1);exact h v (bD ..)
 have Ep:∀b x k,(C9 [.dat sz (lits ls),.dat sz [lv.map .lit]] b).uses x k=(C9 [.dat sz es,.dat sz [v]] b).uses x k:=λb x k=>match b with
  |0=>rfl
  |1=>rfl
  |b+2=>rfl
 have hB':BX I ρ w (C9 [.dat sz (lits ls),.dat sz [lv.map .lit]]):=⟨λb=>match b with
  |0=>l3
  |1=>m3
  |b+2=>hB.ok (b+2),λb b' k h h'=>hB.inj b b' k (by rw[<- Ep];exact h) (by rw[<- Ep];exact h'),λb k h=>hB.fresh b k (by rw[<- Ep];exact h)⟩
 obtain⟨hvl,hvg⟩:=hV;obtain⟨v0,v1,v2,rfl⟩:∃v0 v1 v2,vs=[v0,v1,v2]:=by
  match vs,hvl with
  |[v0,v1,v2],_=>exact⟨v0,v1,v2,rfl⟩
 have q0:=hvg 0 v0 _ rfl rfl;have q1:=hvg 1 v1 _ rfl rfl;have q2:=hvg 2 v2 _ rfl rfl;obtain⟨k0,cap,a,c,YX,rfl,hn,hc,ha⟩:=q0;have hV':UR I ρ [.slice a es.length c,v1,v2] [.one (.sub 0 0 ls.length (some c) sz),.one (.c (.lit (.int .i64 (i:Int)))),.one (.own 1 1 sz)]:=by
  refine⟨rfl,λj v x hv hx=>?_⟩
  match j with
  | 0=>cases hv;cases hx;exact⟨k0,cap,a,c,YX,by rw[l1],aI,aI,λc0 h=>by cases h;rfl,λh=>by rw[zY];exact ha (by rcases h with h|⟨_,h⟩<;>omega)⟩
  |1=>cases hv;cases hx;exact q1
  |2=>cases hv;cases hx;exact q2
  |j+3=>cases hv
 refine(hz ls lv c l1 hn I ρ w _ hT hA hB' hV').mono ?_;rintro e w' ⟨v',J,σ,r,bs,rfl,⟨rfl,rfl⟩,hgv,hag,hbx,hle,hfr,hown,hnew,hkeep⟩;have hM:(λk=>∃b,(C9 [.dat sz (lits ls),.dat sz [lv.map .lit]] b).uses (ρ b) k)=λk=>∃b,(C9 [.dat sz es,.dat sz [v]] b).uses (ρ b) k:=by funext k;simp only[Ep]
 have Qn:∀b x k,(C9 [.dead,.dat sz [lv.map .lit],.dat sz (lits (ls.take i++lv::ls.drop i))] b).uses x k=(C9 [.dead,.dat sz [v],.dat sz (es.take i++v::es.drop i)] b).uses x k:=λb x k=>match b with
  |0=>rfl
  |1=>rfl
  |2=>rfl
  |b+3=>rfl
 have hes:∀e,e∈es->e.length=sz:=by obtain⟨_,_,_,_,_,h,_⟩:=(show yD I ρ w 0 (.dat sz es)from hB.ok 0);exact h
 have ac1:∀{α:Type} (l:List (List α)) (x:List α) (q:Nat),l.length=es.length->(l.take i++x::l.drop i).getD q []=if q<i then l.getD q []else if q=i then x else l.getD (q-1) []:=by
  intro α l x q hl;have hti:(l.take i).length=i:=by rw[iK];omega
  simp only[cZ];by_cases h1:q<i
  ·rw[aA h1,cu aI,yB h1]
  ·rw[au h1,dU aI,hti];by_cases h2:q=i
   ·subst h2;simp
   ·rw[au h2,show q-i=(q-i-1)+1 by omega,eX,gW,show i+(q-i-1)=q-1 by omega]
 have hdat:BX J σ w' (C9 [.dead,.dat sz [v],.dat sz (es.take i++v::es.drop i)]):=⟨λb=>match b with
  |0=>hbx.ok 0
  |1=>Y1 (show yD J σ w' 1 (.dat sz (lits [lv]))from hbx.ok 1) rfl (λe he=>by rw[List.mem_singleton.1 he];exact hv) (Og hle m4)
  | 2 =>Y1 (show yD J σ w' 2 (.dat sz (lits (ls.take i++lv::ls.drop i)))from hbx.ok 2) (by simp[l1])
      (λe he=>by
       rcases bG.1 he with he|he
       ·exact hes e (gG he)
       ·rcases aK.1 he with rfl|he
        ·exact hv
        ·exact hes e (lq he))
      (λq j c hc=>by
       rw[ac1 _ _ _ rfl]at hc;rw[ac1 _ _ _ l1];split
       ·rename_i h1;rw[aA h1]at hc;exact Og hle l4 q j c hc
       ·rename_i h1;rw[au h1]at hc;split
        ·rename_i h2;rw[aA h2]at hc;exact Og hle m4 0 j c hc
        ·rename_i h2;rw[au h2]at hc;exact Og hle l4 (q-1) j c hc)
  |b+3=>hbx.ok (b+3),λb b' k h h'=>hbx.inj b b' k (by rw[Qn];exact h) (by rw[Qn];exact h'),λb k h=>hbx.fresh b k (by rw[Qn];exact h)⟩
 refine⟨⟨v',J,σ,_,_,rfl,⟨rfl,rfl⟩,by rw[<- l1];exact hgv,hag,hdat,hle,hM▸hfr,λb k h=>by simp only[<- Ep];exact hown b k (by rw[Qn];exact h),λk hk hx=>hnew k hk (by simp only[Ep];exact hx),hkeep⟩,?_⟩;cases hX with
 |abH=>trivial
 |rd hr=>unfold aio at hk;rw[hr]at hk;cases hk
 | ow sg hr hl g dp hin=>
   obtain⟨T,rfl,hT⟩:=akP hk hr;obtain⟨s0,e0,hs⟩:=hin.fs (.ref 0 ⟨0,T,0⟩) (by simp[Ui,CG]);obtain⟨s2,e2,hs2⟩:=hin.fs (.ref 2 ⟨0,T,40⟩) (by simp[Ui,CG]);have:s0 = .slice a es.length c:=Fj e0;subst this;obtain⟨kv,cap1,a1,c1,aoo,rfl,hn1,hc1,ha1⟩:=q2;have:s2 = .slice a1 1 c1:=Fj e2;subst this;have ea1:=ha1 aI;subst ea1;obtain⟨ks,k1,k2,k3⟩:=Ze hin.good hT hs YX hn hc ha l1 l2 l3;obtain⟨kx,x1,x2,x3⟩:=Ze hin.good hT hs2 aoo hn1 hc1 (λ_=>rfl) rfl m2 m3;have hcap1:cap1≠0:=(by omega);have ekx:=x2 hcap1;subst ekx;have amC:=x1 kv rfl;obtain⟨kr,cap',a',c',hσ,rfl,hn',hc',ha'⟩:=hgv;have hcap':cap'≠0:=(by omega);have ea':=ha' hcap';subst ea';have hkr:w.heap.size<=kr\/ks=some kr:=by
    rcases hown 2 kr ⟨cap',hσ,hcap'⟩with h|⟨b',h⟩
    ·exact .inl h
    ·right
     match b',h with
     | 0,h=>obtain⟨cp,h1,h2⟩:=h;rw[YX]at h1;cases h1;exact k2 h2
     | 1,h=>obtain⟨cp,h1,h2⟩:=h;have h3:=hkeep 1 mD;have:=hbx.inj 1 2 kr ⟨cp,by rw[h3];exact h1,h2⟩ ⟨cap',hσ,hcap'⟩;omega
     |b'+2,h=>exact h.elim
   obtain⟨cs,e,hw,hcell⟩:=VJ (show yD J σ w' 2 (.dat sz (lits (ls.take i++lv::ls.drop i)))from hbx.ok 2) hσ hcap';have gone:∀{b m},g b=some (.arr T (.tag dp m))->m=0\/m=40->(g.re (Em dp [0,40]) (OI ks kv kr (i*sz) sz)) b=none:=λh hm=>by rw[V5,h];simp only[Em];rcases hm with rfl|rfl<;>simp
   have aif:(g.re (Em dp [0,40]) (OI ks kv kr (i*sz) sz)) kr=none:=by
    rcases hkr with h|h
    ·have:g kr=none:=by
      cases hx:g kr with
      |none=>rfl
      |some B=>have:=hin.good.lt hx;omega
     rw[V5,this]
    ·exact gone (k1 kr h) (.inl rfl)
   have hgood:=hin.good.perm (w':=w') (dr:=Em dp [0,40]) (φ:=OI ks kv kr (i*sz) sz) (kr:=kr) (T:=T) (n:=ls.length+1) (p:=.tag dp 20000) (cs:=cs) (e:=e)
    (λk T' p hkk hp j=>⟨rfl,by
     simp only[OI];rw[au,au]
     ·rintro rfl;rw[amC]at hkk;cases hkk;simp[Em]at hp
     ·intro h;rw[k1 k h.symm]at hkk;cases hkk;simp[Em]at hp⟩)
    (λk hk hx=>hfr.block k hk hx)
    (λk hx=>by
     obtain⟨b,hb⟩:=hx
     match b,hb with
     | 0,hb=>obtain⟨cp,h1,h2⟩:=hb;rw[YX]at h1;cases h1;exact gone (k1 k0 (k2 h2)) (.inl rfl)
     | 1,hb=>obtain⟨cp,h1,h2⟩:=hb;rw[aoo]at h1;cases h1;exact gone amC (.inr rfl)
     |b+2,hb=>exact hb.elim)
    aif hw
    (λj u T' hj hu ht=>by
     rw[hT]at hj ht;have hsz:0<sz:=by
      rcases Nat.eq_zero_or_pos sz with h|h
      ·rw[h]at hj;omega
      ·exact h
     have hr:=Nat.mod_lt j hsz;have hjq:j=j/sz*sz+j%sz:=(by rw[wX];exact(CJ j sz).symm);have hq:j/sz<ls.length+1:=(CZ hsz).2 hj;generalize j/sz=q at hjq hq;generalize hrr:j%sz=r at hjq hr ht;have look:∀{l:List Value},(ls.take i++lv::ls.drop i).getD q []=l->l.length=sz->l[r]? = some u:=λhl hlen=>by have h1:=aB (show r<_ by rw[hlen];exact hr);have h2:=hcell q r _ (by rw[hl];exact h1);rw[<- hjq,hu]at h2;cases h2;exact h1
     have hlen:∀q,q<ls.length->(ls.getD q []).length=sz:=λq hq=>by rw[cZ,aB hq];exact l2 _ (dX hq)
     have hx:=ac1 ls lv q l1;by_cases h1:q<i
     ·rw[aA h1]at hx;obtain⟨b,hb,hgr⟩:=k3 q r u T' (look hx (hlen q aI)) ht;have:=hgr.re (dr:=Em dp [0,40]) rfl (OI ks kv kr (i*sz) sz);have hlt:q*sz+r<i*sz:=by
       calc q*sz+r<q*sz+sz:=by omega
        _=(q+1)*sz:=by rw[dL,yR]
        _<=i*sz:=aX _ h1
      rw[<- hjq]at this hlt;simp only[OI,hb,jY,aA hlt]at this;rw[hb];exact this
     ·rw[au h1]at hx;by_cases h2:q=i
      ·subst h2;rw[aA rfl]at hx;obtain⟨b,hb,hgr⟩:=x3 0 r u T' (look hx (m2 lv (bD ..))) ht;cases hb;have:=hgr.re (dr:=Em dp [0,40]) rfl (OI ks kv kr (q*sz) sz);simp only[OI]at this;rw[au (aos k1 amC (λe=>by cases e)),jY,zY,fV,<- hjq]at this;exact this
      ·rw[au h2]at hx;obtain⟨b,hb,hgr⟩:=k3 (q-1) r u T' (look hx (hlen (q-1) aI)) ht;have:=hgr.re (dr:=Em dp [0,40]) rfl (OI ks kv kr (i*sz) sz);have hge:¬(q-1)*sz+r<i*sz:=by
        have:i*sz<=(q-1)*sz:=aX _ aI;omega
       have e1:(q-1)*sz+r+sz=j:=by rw[hjq];have:(q-1)*sz+sz=q*sz:=(by conv=>rhs;rw[show q=(q-1)+1 by omega,dL,yR]);omega
       simp only[OI,hb,jY,au hge,e1]at this;rw[hb];exact this)
   refine⟨_,_,rfl,Rel.perm (Rel.re λd m hd=>⟨by simp only[Em,qo,dn];left;omega,rfl⟩) aif (hkr.imp id λh=>⟨_,k1 kr h⟩),hgood,λf hf=>?_⟩;have:f = .ref 3 ⟨0,T,20000⟩:=(by simpa[VU,aa9,ads,CG]using hf);subst this;exact⟨_,rfl,.inr ⟨kr,_,_,rfl,aA rfl,by rw[E5,aA rfl];exact aF _⟩⟩
theorem ak3 {f sz:Nat}(hk:ahN P f sz=true){es:List (List Cell)}{i j:Nat}(hi:i<j)(hj:j<=es.length)
 (hz:∀(ls:List (List Value)) (c:Nat),ls.length=es.length->es.length<=c->NS P f [.one (.sub 0 0 ls.length (some c) sz),.one (.c (.lit (.int .i64 (i:Int)))),.one (.c (.lit (.int .i64 (j:Int))))] [.dat sz (lits ls)]
  (λr b=>r = .one (.sub 1 0 (i+(ls.length-j)) (some c) sz)/\b=[.dead,.dat sz (lits (ls.take i++ls.drop j))])) :
 pM P f [.one (.own 0 es.length sz),.one (.c (.lit (.int .i64 (i:Int)))),.one (.c (.lit (.int .i64 (j:Int))))] [.dat sz es]
  (λr b=>r = .one (.own 1 (i+(es.length-j)) sz)/\b=[.dead,.dat sz (es.take i++es.drop j)]):=by
 intro I ρ w vs hT hA hB hV X hX;obtain⟨ls,l1,l2,l3,l4⟩:=YK (show yD I ρ w 0 (.dat sz es)from hB.ok 0);have Ep:∀b x k,(C9 [.dat sz (lits ls)] b).uses x k=(C9 [.dat sz es] b).uses x k:=λb x k=>match b with
  |0=>rfl
  |b+1=>rfl
 have hB':BX I ρ w (C9 [.dat sz (lits ls)]):=⟨λb=>match b with
  |0=>l3
  |b+1=>hB.ok (b+1),λb b' k h h'=>hB.inj b b' k (by rw[<- Ep];exact h) (by rw[<- Ep];exact h'),λb k h=>hB.fresh b k (by rw[<- Ep];exact h)⟩
 obtain⟨hvl,hvg⟩:=hV;obtain⟨v0,v1,v2,rfl⟩:∃v0 v1 v2,vs=[v0,v1,v2]:=by
  match vs,hvl with
  |[v0,v1,v2],_=>exact⟨v0,v1,v2,rfl⟩
 have q0:=hvg 0 v0 _ rfl rfl;have q1:=hvg 1 v1 _ rfl rfl;have q2:=hvg 2 v2 _ rfl rfl;obtain⟨k0,cap,a,c,YX,rfl,hn,hc,ha⟩:=q0;have hV':UR I ρ [.slice a es.length c,v1,v2] [.one (.sub 0 0 ls.length (some c) sz),.one (.c (.lit (.int .i64 (i:Int)))),.one (.c (.lit (.int .i64 (j:Int))))]:=by
  refine⟨rfl,λj v x hv hx=>?_⟩
  match j with
  | 0=>cases hv;cases hx;exact⟨k0,cap,a,c,YX,by rw[l1],aI,aI,λc0 h=>by cases h;rfl,λh=>by rw[zY];exact ha (by rcases h with h|⟨_,h⟩<;>omega)⟩
  |1=>cases hv;cases hx;exact q1
  |2=>cases hv;cases hx;exact q2
  |j+3=>cases hv
 refine(hz ls c l1 hn I ρ w _ hT hA hB' hV').mono ?_;rintro e w' ⟨v',J,σ,r,bs,rfl,⟨rfl,rfl⟩,hgv,hag,hbx,hle,hfr,hown,hnew,hkeep⟩;have hM:(λk=>∃b,(C9 [.dat sz (lits ls)] b).uses (ρ b) k)=λk=>∃b,(C9 [.dat sz es] b).uses (ρ b) k:=by funext k;simp only[Ep]
 have Qn:∀b x k,(C9 [.dead,.dat sz (lits (ls.take i++ls.drop j))] b).uses x k=(C9 [.dead,.dat sz (es.take i++es.drop j)] b).uses x k:=λb x k=>match b with
  |0=>rfl
  |1=>rfl
  |b+2=>rfl
 have hes:∀e,e∈es->e.length=sz:=by obtain⟨_,_,_,_,_,h,_⟩:=(show yD I ρ w 0 (.dat sz es)from hB.ok 0);exact h
 have ac1:∀{α:Type} (l:List (List α)) (q:Nat),l.length=es.length->(l.take i++l.drop j).getD q []=if q<i then l.getD q []else l.getD (q+(j-i)) []:=by
  intro α l q hl;have hti:(l.take i).length=i:=by rw[iK];omega
  simp only[cZ];by_cases h1:q<i
  ·rw[aA h1,cu aI,yB h1]
  ·rw[au h1,dU aI,hti,gW,show j+(q-i)=q+(j-i) by omega]
 have hdat:BX J σ w' (C9 [.dead,.dat sz (es.take i++es.drop j)]):=⟨λb=>match b with
  |0=>hbx.ok 0
  | 1 =>Y1 (show yD J σ w' 1 (.dat sz (lits (ls.take i++ls.drop j)))from hbx.ok 1) (by simp[l1])
      (λe he=>by
       rcases bG.1 he with he|he
       ·exact hes e (gG he)
       ·exact hes e (lq he))
      (λq j c hc=>by
       rw[ac1 _ _ rfl]at hc;rw[ac1 _ _ l1];split
       ·rename_i h1;rw[aA h1]at hc;exact Og hle l4 q _ c hc
       ·rename_i h1;rw[au h1]at hc;exact Og hle l4 _ _ c hc)
  |b+2=>hbx.ok (b+2),λb b' k h h'=>hbx.inj b b' k (by rw[Qn];exact h) (by rw[Qn];exact h'),λb k h=>hbx.fresh b k (by rw[Qn];exact h)⟩
 obtain⟨kr,cap',a',c',hσ,rfl,hn',hc',hcc,ha'⟩:=hgv;have:=hcc c rfl;subst this;have hcap':cap'≠0:=by omega
 have ea':=ha' (.inr ⟨rfl,hcap'⟩);rw[zY]at ea';subst ea';refine⟨⟨_,J,σ,_,_,rfl,⟨rfl,rfl⟩,⟨kr,cap',_,c',hσ,by rw[l1],aI,aI,λ_=>rfl⟩,hag,hdat,hle,hM▸hfr,λb k h=>by simp only[<- Ep];exact hown b k (by rw[Qn];exact h),λk hk hx=>hnew k hk (by simp only[Ep];exact hx),hkeep⟩,?_⟩;cases hX with
 |abH=>trivial
 |rd hr=>unfold ahN at hk;rw[hr]at hk;cases hk
 | ow sg hr hl g dp hin=>
   obtain⟨T,rfl,hT⟩:=akA hk hr;obtain⟨s0,e0,hs⟩:=hin.fs (.ref 0 ⟨0,T,0⟩) (by simp[Ui,CG]);have:s0 = .slice a es.length c':=Fj e0;subst this;obtain⟨ks,k1,k2,k3⟩:=Ze hin.good hT hs YX hn hc ha l1 l2 l3;have hkr:w.heap.size<=kr\/ks=some kr:=by
    rcases hown 1 kr ⟨cap',hσ,hcap'⟩with h|⟨b',h⟩
    ·exact .inl h
    ·right
     match b',h with
     | 0,h=>obtain⟨cp,h1,h2⟩:=h;rw[YX]at h1;cases h1;exact k2 h2
     |b'+1,h=>exact h.elim
   obtain⟨cs,e,hw,hcell⟩:=VJ (show yD J σ w' 1 (.dat sz (lits (ls.take i++ls.drop j)))from hbx.ok 1) hσ hcap';have gone:∀{b},g b=some (.arr T (.tag dp 0))->(g.re (Em dp [0]) (TD ks kr (i*sz) (j*sz) ((j-i)*sz))) b=none:=λh=>by rw[V5,h];simp[Em]
   have aif:(g.re (Em dp [0]) (TD ks kr (i*sz) (j*sz) ((j-i)*sz))) kr=none:=by
    rcases hkr with h|h
    ·have:g kr=none:=by
      cases hx:g kr with
      |none=>rfl
      |some B=>have:=hin.good.lt hx;omega
     rw[V5,this]
    ·exact gone (k1 kr h)
   have hgood:=hin.good.perm (w':=w') (dr:=Em dp [0]) (φ:=TD ks kr (i*sz) (j*sz) ((j-i)*sz)) (kr:=kr) (T:=T) (n:=i+(ls.length-j)) (p:=.tag dp 20000) (cs:=cs) (e:=e)
    (λk T' p hkk hp j=>⟨rfl,by simp only[TD];rw[au];intro h;rw[k1 k h.symm]at hkk;cases hkk;simp[Em]at hp⟩)
    (λk hk hx=>hfr.block k hk hx)
    (λk hx=>by
     obtain⟨b,hb⟩:=hx
     match b,hb with
     | 0,hb=>obtain⟨cp,h1,h2⟩:=hb;rw[YX]at h1;cases h1;exact gone (k1 k0 (k2 h2))
     |b+1,hb=>exact hb.elim)
    aif hw
    (λy u T' hy hu ht=>by
     rw[hT]at hy ht;have hsz:0<sz:=by
      rcases Nat.eq_zero_or_pos sz with h|h
      ·rw[h]at hy;omega
      ·exact h
     have hr:=Nat.mod_lt y hsz;have hyq:y=y/sz*sz+y%sz:=(by rw[wX];exact(CJ y sz).symm);have hq:y/sz<i+(ls.length-j):=(CZ hsz).2 hy;generalize y/sz=q at hyq hq;generalize hrr:y%sz=r at hyq hr ht;have look:∀{l:List Value},(ls.take i++ls.drop j).getD q []=l->l.length=sz->l[r]? = some u:=λhl hlen=>by have h1:=aB (show r<_ by rw[hlen];exact hr);have h2:=hcell q r _ (by rw[hl];exact h1);rw[<- hyq,hu]at h2;cases h2;exact h1
     have hlen:∀q,q<ls.length->(ls.getD q []).length=sz:=λq hq=>by rw[cZ,aB hq];exact l2 _ (dX hq)
     have hx:=ac1 ls q l1;by_cases h1:q<i
     ·rw[aA h1]at hx;obtain⟨b,hb,hgr⟩:=k3 q r u T' (look hx (hlen q aI)) ht;have:=hgr.re (dr:=Em dp [0]) rfl (TD ks kr (i*sz) (j*sz) ((j-i)*sz));have hlt:q*sz+r<i*sz:=by
       calc q*sz+r<q*sz+sz:=by omega
        _=(q+1)*sz:=by rw[dL,yR]
        _<=i*sz:=aX _ h1
      rw[<- hyq]at this hlt;simp only[TD,hb,jY,aA hlt]at this;rw[hb];exact this
     ·rw[au h1]at hx;obtain⟨b,hb,hgr⟩:=k3 (q+(j-i)) r u T' (look hx (hlen _ aI)) ht;have:=hgr.re (dr:=Em dp [0]) rfl (TD ks kr (i*sz) (j*sz) ((j-i)*sz));have e1:(q+(j-i))*sz+r=y+(j-i)*sz:=(by rw[hyq,dL];omega);have hge:j*sz<=y+(j-i)*sz:=by
       rw[<- e1];have:j*sz<=(q+(j-i))*sz:=aX _ aI;omega
      have apE:¬y+(j-i)*sz<i*sz:=by have:i*sz<=j*sz:=aX _ aI;omega
      rw[e1]at this;simp only[TD,hb,jY,au apE,aA hge,Nat.add_sub_cancel]at this;rw[hb];exact this)
   refine⟨_,_,rfl,Rel.perm (Rel.re λd m hd=>⟨by simp only[Em,qo,dn];left;omega,rfl⟩) aif (hkr.imp id λh=>⟨_,k1 kr h⟩),hgood,λf hf=>?_⟩;have:f = .ref 3 ⟨0,T,20000⟩:=(by simpa[VU,aa9,ads,CG]using hf);subst this;exact⟨_,rfl,.inr ⟨kr,_,_,rfl,aA rfl,by rw[E5,aA rfl];exact aF _⟩⟩
end
end
section
inductive Under (g:Own)(q:zn):Nat->Prop
 |here {k T:Nat} (h:g.b k=some (.arr T q)):Under g q k
 |deep {k T x y:Nat} (h:g.b k=some (.arr T (.blk x y))) (hu:Under g q x):Under g q k
section
variable {g:Own}
theorem Under.trans {q:zn}{b x c:Nat}(h:Under g (.blk b x) c)(hb:Under g q b):Under g q c:=by
 induction h with
 |here h=>exact .deep h hb
 |deep h _ ih=>exact .deep h ih
theorem Under.ajz {d m d' m' b:Nat}(h:Under g (.tag d m) b)(h':Under g (.tag d' m') b):d=d'/\m=m':=by
 induction h with
 | here h=>
   cases h' with
   |here h2=>rw[h]at h2;cases h2;exact⟨rfl,rfl⟩
   |deep h2 _=>rw[h]at h2;cases h2
 | deep h _ ih=>
   cases h' with
   |here h2=>rw[h]at h2;cases h2
   |deep h2 u2=>rw[h]at h2;cases h2;exact ih u2
theorem Under.irrefl {d m b:Nat}(h:Under g (.tag d m) b):∀x,¬Under g (.blk b x) b:=by
 induction h with
 | here h=>
   intro x hx;cases hx with
   |here h2=>rw[h]at h2;cases h2
   |deep h2 _=>rw[h]at h2;cases h2
 | deep h _ ih=>
   intro x hx;cases hx with
   | here h2=>rw[h]at h2;cases h2;exact ih _ (.here h)
   | deep h2 u2=>rw[h]at h2;cases h2;exact ih _ (u2.trans (.here h))
theorem Under.ai7 {d m k x y b:Nat}(hk:Under g (.tag d m) k)(h:Under g (.blk k x) b)(h':Under g (.blk k y) b):x=y:=by
 induction h with
 | here h=>
   cases h' with
   |here h2=>rw[h]at h2;cases h2;rfl
   |deep h2 u2=>rw[h]at h2;cases h2;exact eF u2 (hk.irrefl _)
 | deep h u ih=>
   cases h' with
   |here h2=>rw[h]at h2;cases h2;exact eF u (hk.irrefl _)
   |deep h2 u2=>rw[h]at h2;cases h2;exact ih u2
theorem Under.owned {q:zn}{b:Nat}(h:Under g q b):∃T p,g b=some (.arr T p):=by
 cases h with
 |here h=>exact⟨_,_,h⟩
 |deep h _=>exact⟨_,_,h⟩
end
def OY (g:Own)(q:zn):Prop:=(∃d m,q = .tag d m)\/∃k j d m,q = .blk k j/\Under g (.tag d m) k
theorem OY.under {g:Own}{q:zn}(h:OY g q){k:Nat}(hk:Under g q k):∃d m,Under g (.tag d m) k:=by
 rcases h with⟨d,m,rfl⟩|⟨k',j,d,m,rfl,hu⟩
 ·exact⟨d,m,hk⟩
 ·exact⟨d,m,hk.trans hu⟩
inductive NU (P:Program):Nat->Cell->Prop
 | sl (T sz:Nat) (es:List (List Cell)) (t:Nat->Nat) (hs:xO P T=sz) (h1:∀i j sz' es',(es.getD i [])[j]? = some (.sl sz' es')->(j,t j)∈oD P T)
   (h2:∀i j sz' es',(es.getD i [])[j]? = some (.sl sz' es')->NU P (t j) (.sl sz' es')):NU P T (.sl sz es)
theorem acp {I J:IH}{a:Addr}(h:J a.block=I a.block):J.cell a=I.cell a:=by unfold IH.cell;rw[h]
theorem Rd.Qy {I J:IH}{v x:Value}(h:Rd I x (.lit v)):Rd J x (.lit v):=by cases h with|lit _ hv=>exact .lit _ hv
theorem Rd.Q3 {I J:IH}{l:List UInt8}{x:Value}(h:Rd I x (.str l)):Rd J x (.str l):=by cases h with|str _ hl=>exact .str _ hl
section
variable {P:Program} {g:Own} {w:World} {I J J':IH}
theorem U5 (hg:Good P g w)(hA:Agree J w){k n T sz i j:Nat}{q:zn}{u:Value}(hk:g.at k n T q)(hs:xO P T=sz)(hi:i<n)(hj:j<sz)(hc:J.cell ((⟨k,0,none⟩:Addr).add (i*sz+j))=some u){T':Nat}(ht:(j,T')∈oD P T) :
 GR g u T' (.blk k (i*sz+j)):=by
 obtain⟨cs,e,hw,hown⟩:=hg.arr _ _ _ hk.1;have hc':=hA.cell hc;rw[Addr.uw,fV]at hc';simp only[iy,hw]at hc';refine hown _ u T' ?_ (by simpa using hc') (by rw[hs,IY hj];exact ht);rw[hs]
 calc i*sz+j<i*sz+sz:=by omega
  _=(i+1)*sz:=by rw[dL,yR]
  _<=_:=aX _ (bJ hi hk.2)
theorem ah3 {α:Type}{es:List (List α)}{i j sz:Nat}{c:α}(hs:∀e,e∈es->e.length=sz)(h:(es.getD i [])[j]? = some c):i<es.length/\j<sz:=by
 have hi:i<es.length:=by
  rcases Ic i es.length with h'|h'
  ·exact h'
  ·rw[cZ,kU h']at h;simp at h
 refine⟨hi,?_⟩;have h6:=(aS.1 h).1;rw[cZ,aB hi]at h6;simp only[lW]at h6
 rwa[hs _ (dX hi)]at h6
theorem Rd.under (hg:Good P g w)(hA:Agree J w){v:Value}{c:Cell}(h:Rd J v c):∀{T:Nat} {q:zn},GR g v T q->NU P T c->(∀b,Under g q b->J' b=J b)->Rd J' v c:=by
 induction h with
 |lit v hv=>intro _ _ _ _ _;exact .lit v hv
 |str l h=>intro _ _ _ _ _;exact .str l h
 | sl a len cap sz es u hlen hcap hmax hsz ha hcell hr ih=>
   intro T q hgr hty hJ;cases hty with
   |sl _ _ _ t hs h1 h2=>
   rcases hgr with e|⟨k,n',c',e,hk⟩
   ·cases e;have:es=[]:=wH.1 hlen;subst this;exact .sl none 0 0 sz [] u hlen hcap hmax hsz ha (λad e=>by cases e) (λi j c hc=>by simp at hc)
   ·cases e;have hJk:=hJ k (.here hk.1);refine .sl _ _ _ sz es u hlen hcap hmax hsz ha (λad e i j hi hj=>?_) (λi j c hc=>?_)
    ·cases e;have h0:=hcell _ rfl i j hi hj;rw[Addr.uw]at h0⊢;rw[acp (J:=J') (I:=J) hJk];exact h0
    ·obtain⟨hi,hj⟩:=ah3 hsz hc;cases c with
     |lit v'=>exact(hr i j _ hc).Qy
     |str l=>exact(hr i j _ hc).Q3
     | sl sz' es'=>exact ih i j _ hc (U5 hg hA hk hs aI hj (hcell _ rfl i j aI hj) (h1 i j _ _ hc)) (h2 i j _ _ hc) (λb hb=>hJ b (hb.trans (.here hk.1)))
theorem Rd.upd (hg:Good P g w)(hA:Agree J w){k n cap T sz i j:Nat}{q:zn}{es:List (List Cell)}(hk:g.at k n T q)(hroot:OY g q)(h:Rd J (.slice (some ⟨k,0,none⟩) n cap) (.sl sz es))(hty:NU P T (.sl sz es))(hi:i<n)(hj:j<sz){u':Value}{c':Cell}
 (hcell:∀y,J'.cell ⟨k,y,none⟩=if y=i*sz+j then some u' else J.cell ⟨k,y,none⟩) (hother:∀y b,y≠i*sz+j->Under g (.blk k y) b->J' b=J b) (hc':Rd J' u' c') :
 Rd J' (.slice (some ⟨k,0,none⟩) n cap) (.sl sz (es.set i ((es.getD i []).set j c'))):=by
 cases h with
 |sl _ _ _ _ _ u hlen hcap hmax hsz ha hcl hr=>
 cases hty with
 |sl _ _ _ t hs h1 h2=>
 have inj:∀{i' j'},j'<sz->i'*sz+j'=i*sz+j->i'=i/\j'=j:=λ{i' j'} hj' e=>by
  have e1:(i'*sz+j')%sz=j':=IY hj';have e2:(i*sz+j)%sz=j:=IY hj;have e3:j'=j:=by rw[<- e1,<- e2,e]
  subst e3;have e4:i'*sz=i*sz:=by omega
  exact⟨Nat.eq_of_mul_eq_mul_right aI e4,rfl⟩
 have hget:∀i' j',((es.set i ((es.getD i []).set j c')).getD i' [])[j']? = if i'=i/\j'=j then some c' else(es.getD i' [])[j']?:=by
  intro i' j';simp only[cZ,rq];by_cases e:i=i'
  ·subst e;rw[aA rfl,aA aI];simp only[lW,rq];by_cases e2:j=j'
   ·subst e2;have hl:j<(es[i]?.getD []).length:=(by rw[aB aI,lW,hsz _ (dX _)];exact hj);rw[aA rfl,aA hl];simp
   ·rw[au e2,au (λh=>e2 h.2.symm)]
  ·rw[au e,au (λh=>e h.1.symm)]
 refine .sl _ _ _ sz _ (λi' j'=>if i'=i/\j'=j then u' else u i' j') (by simpa using hlen) hcap hmax (λe he=>?_) ha (λad e i' j' hi' hj'=>?_) (λi' j' c hc=>?_)
 ·rcases List.mem_or_eq_of_mem_set he with he|he
  ·exact hsz e he
  ·subst he;rw[List.length_set,cZ,aB aI,lW];exact hsz _ (dX _)
 ·cases e;have h0:=hcl _ rfl i' j' hi' hj';rw[Addr.uw,fV]at h0⊢;rw[hcell];by_cases e:i'=i/\j'=j
  ·obtain⟨rfl,rfl⟩:=e;simp
  ·rw[au (λe2=>e (inj hj' e2)),h0];simp[e]
 ·rw[hget]at hc;by_cases e:i'=i/\j'=j
  ·rw[aA e]at hc;cases hc;simp only[aA e];exact hc'
  ·rw[au e]at hc;simp only[au e];obtain⟨hi',hj'⟩:=ah3 hsz hc;cases c with
   |lit v'=>exact(hr i' j' _ hc).Qy
   |str l=>exact(hr i' j' _ hc).Q3
   | sl sz' es'=>exact(hr i' j' _ hc).under hg hA (U5 hg hA hk hs aI hj' (hcl _ rfl i' j' aI hj') (h1 i' j' _ _ hc)) (h2 i' j' _ _ hc) (λb hb=>hother _ b (λe2=>e (inj hj' e2)) hb)
end
end
end Go.Ab
