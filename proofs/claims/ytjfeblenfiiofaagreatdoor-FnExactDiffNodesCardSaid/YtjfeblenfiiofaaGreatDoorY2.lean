/- What abstract values, states and codes of the program's language mean, and that they are sound (part 2). No conditions. -/
import Derived.Test.YtjfeblenfiiofaaGreatDoorY1
set_option linter.unusedVariables false
set_option linter.unusedSimpArgs false
open Array renaming getElem?_eq_some_iff->bP,getD_eq_getD_getElem?->bQ,getElem?_eq_getElem->iC,length_toList->iU,getElem?_map->jT,replicate->lq,getElem?_append_left->mW,range->nP,mapM_eq_mapM_toList->pz,ext'->uo
open Bool renaming and_eq_true->af,or_eq_true->eH,not_eq_true'->gy,and_eq_false_iff->jR,or_true->uH
open Go.Builtin renaming firstCells->dO,append_->fB,copy_->iQ,lenOf->lT
open Go.Code renaming region->vT
open Go.Exit renaming inBlock->rY
open Go.Instr renaming fill->lZ
open Go.Oper renaming wp->rF,wp_mono->vk,upon_skip->xA
open Go.Region renaming ready->mF,wanted->uN
open Go.Result renaming andThen_ok->aN
open Go.Sem renaming run_pure->aX,run_bind->bF,run_map->yU
open Go.Value renaming pointer->kL,cells->lM,slice->vW
open Go.World renaming cell?->dR
open List renaming mem_cons->aB,mem_map->aF,all_eq_true->aH,mem_filter->aJ,mem_cons_self->aK,map_cons->aP,getD_eq_getElem?_getD->aQ,getElem?_append_left->aU,mem_append->aV,replicate->aY,getElem?_eq_getElem->aj,getElem?_eq_some_iff->ax,mem_append_left->bG,mem_filterMap->bH,getElem?_append_right->bJ,mem_append_right->bU,mem_cons_of_mem->bW,getElem?_map->bn,getElem_mem->bz,getElem?_drop->dA,mem_of_mem_take->dG,getElem?_cons_succ->dH,mem_of_getElem?->dL,length_take->dW,getElem?_cons_zero->dY,not_mem_nil->gU,map_nil->gV,contains_iff_mem->gm,getElem?_eq_none->gp,mem_of_mem_drop->iR,mem_flatMap->iw,mem_of_head?->jB,getElem?_toArray->jS,map_toArray->je,mem_zipIdx_iff_getElem?->jf,size_toArray->kF,map_congr_left->kH,pairwise_cons->kT,length_nil->lC,range->lF,getElem?_set->lI,length_cons->lU,map_append->mG,flatMap_cons->mX,getElem_of_mem->nS,length_eq_zero_iff->nV,length_map->nX,getElem?_range->pK,pairwise_iff_getElem->pO,getElem?_take_of_lt->pW,filter_append->pY,any_eq_true->rG,nodup_cons->sF,contains_eq_mem->su,mapM_cons->vX,zipIdx->vw,filter_eq_self->wM,mem_map_of_mem->wO,pairwise_append->wo,mem_range->yV,cons_append->yt,flatten->zX
open List.Sublist renaming refl->xC
open Nat renaming mod_mod->Bc,le_refl->aA,mul_le_mul_right->aC,add_mul->bg,le_trans->cZ,zero_add->dh,lt_of_lt_of_le->gQ,sub_zero->jW,add_zero->kN,add_mul_mod_self_right->o5,mod_eq_of_lt->oP,mul_comm->oh,add_comm->pR,add_mod->qC,one_mul->qG,zero_mul->rV,lt_trichotomy->uD,lt_succ_self->uS,div_lt_iff_lt_mul->vH,div_add_mod->vz,le_max_left->yL,lt_or_ge->zY
open Option renaming map_eq_some_iff->bI,map_some->iH,getD_some->jh,isSome_iff_exists->nM,bind_eq_some_iff->qH
open Option.some renaming injEq->aG
open Prod.mk renaming injEq->bV
namespace Go.Ab
open Go
section
def KO (P:Program)(t:TypeId):RR:=match P.info? t with
 | some i=>(match i.zero with
   |some z=>(match Iq z.cells (refsOf P 6 t 0)with|some R=>R|none=>[])
   |none=>[])
 |none=>[]
def placesOf (P:Program)(fs:Array Field):Nat->Option (Nat×Nat):=((fs.map λf=>(f.offset,P.cellsOf f.type))[·]?)
def PD (P:Program)(Γ : List OF)(t:TypeId)(ps:List (Nat×Operand)):RR:=match P.underlying t,P.info? t with
 | some (.struct fs),some i=>if fs.toList.all (λf=>(P.info? f.type).isSome)then(match i.zero with
   | some z=>(match Iq z.cells (refsOf P 6 t 0)with
     |some R=>RV (placesOf P fs) Γ ps R
     |none=>[])
   |none=>[])else []
 |_,_=>[]
def zo (P:Program)(T:TypeId):Bool:=match P.underlying T with
 | some (.slice e)=>(match P.info? e with
   | some i=>(match i.zero with
     |some z=>z.cells.size==i.size&&(Iq z.cells (refsOf P 6 e 0)).isSome
     |none=>false)
   |none=>false)
 |_=>false
section
variable {P:Program} {F:JH} {g:Own} {dp:Nat} {Γ : List OF} {a:Act} {w w':World} {d N:Nat} {v:Value}
theorem VS {t:TypeId}{i:TypeInfo}{z:Value}(hi:P.info? t=some i)(hz:i.zero=some z):IB g dp z.cells (KO P t):=by
 unfold KO;rw[hi];simp only[hz];split
 ·rename_i R hR;exact Uc hR
 ·intro e he;cases he
theorem Xk (h:OW P F g dp Γ a w)(hd:d<a.tmps.size)(hN:N<=w.heap.size){o:Oper}{t:TypeId}(ho:o.op = .alloc t)(hr:(execOp a.eval o).run P w = .ok (.value v) w') :
 ∃g',Rel dp N g g'/\OW P F g' dp (Rf d (rowOf d (KO P t)) ++ Γ.filter (AX d)) (a.put (some d) v) w':=by
 simp only[execOp,ho]at hr;have hr:=zn hr;unfold Go.Instr.alloc at hr;obtain⟨z,w1,h1,h2⟩:=bK hr;obtain⟨⟨i,hi,hz⟩,rfl⟩:=Ir h1
 dsimp only at h2
 obtain⟨p,w2,h3,h4⟩:=bK h2;obtain⟨rfl,rfl⟩:=MP h3;obtain⟨rfl,rfl⟩:=dU h4;exact h.Rf hd (Nk (VS hi hz) d) hN
theorem abt (h:OW P F g dp Γ a w)(hd:d<a.tmps.size)(hN:N<=w.heap.size){o:Oper}{t:TypeId}{x:Operand}(ho:o.op = .box t x)(hr:(execOp a.eval o).run P w = .ok (.value v) w') :
 ∃g',Rel dp N g g'/\OW P F g' dp (Rf d (rowOf d (yR Γ 0 1000 x)) ++ Γ.filter (AX d)) (a.put (some d) v) w':=by
 simp only[execOp,ho]at hr;have hr:=zn hr;unfold Go.Instr.box at hr;obtain⟨p,w2,h3,h4⟩:=bK hr;obtain⟨rfl,rfl⟩:=MP h3;obtain⟨rfl,rfl⟩:=dU h4;refine h.Rf hd (Nk (λe he=>?_) d) hN;unfold yR at he;split at he
 ·rename_i s;rw[bH]at he;obtain⟨f,hf,he⟩:=he;split at he
  ·split at he
   ·rename_i y r hc;cases he;obtain⟨rfl,hlt⟩:=hc;obtain⟨u,hu,hg⟩:=h.fs _ hf;exact⟨u,by rw[dh];exact hu,hg⟩
   ·cases he
  ·cases he
 ·cases he
theorem Xr (h:OW P F g dp Γ a w)(hd:d<a.tmps.size){o:Oper}{t:TypeId}{ps:Array (Nat×Operand)}(ho:o.op = .build t ps)(hr:(execOp a.eval o).run P w = .ok (.value v) w') :
 ∀f,f∈(rowOf d (PD P Γ t ps.toList)).map (.ref d)->yw P F g dp (a.put (some d) v) w f:=by
 intro f hf;rw[aF]at hf;obtain⟨r,hr0,rfl⟩:=hf;simp only[execOp,ho]at hr;have hr:=zn hr;have key:IB g dp v.cells (PD P Γ t ps.toList):=by
  unfold PD;split
  ·rename_i fs i hs hi;split
   ·rename_i hall;split
    ·rename_i z hz;split
     ·rename_i R hR;have hpl:=run_places (P:=P) w fs.toList hall;have hpl':(fs.mapM (m:=Sem) λf=>do pure (f.offset,<- sizeOf f.type)).run P w = .ok (fs.map λf=>(f.offset,P.cellsOf f.type)) w:=by
       rw[pz,yU,hpl];simp only[aN]
       congr 1
       apply uo;simp
      have ZJ:(zeroValue t).run P w = .ok z w:=(by simp[zeroValue,typeInfo,hi,hz]);have hps:(ps.map λ(i,x)=>(i,a.eval x)).toList=ps.toList.map λp=>(p.1,a.eval p.2):=(by simp);unfold Instr.build at hr;obtain⟨z',w1,h1,h2⟩:=bK hr;rw[ZJ]at h1;cases h1;obtain⟨de,w2,h3,h4⟩:=bK h2;rw[run_underlying hs]at h3;cases h3
      dsimp only at h4
      obtain⟨pl,w3,h5,h6⟩:=bK h4;rw[hpl']at h5;cases h5;split at h6
      ·rename_i out hout;have hv:=(dU h6).1;subst hv;rw[hps]at hout;exact(LV h.fs ps.toList _ out R (Uc hR) hout).1
      ·cases h6
     ·intro e he;cases he
    ·intro e he;cases he
   ·intro e he;cases he
  ·intro e he;cases he
 obtain⟨u,hu,hg⟩:=Nk key d r hr0;exact⟨u,by rw[dF hd];exact hu,hg⟩
theorem VY {n:Nat}{w1:World}{u:Unit}(h:(askRoom n).run P w = .ok u w1):w1=w:=by
 unfold askRoom at h;split at h
 ·rw[run_mark]at h;cases h;rfl
 ·exact(dU h).2
theorem Ew {α:Type}{e:RuntimeError}{r:α}{w1:World}(h:(runtimePanic e:Sem α).run P w = .ok r w1):False:=by
 unfold runtimePanic at h;obtain⟨p,w2,h1,h2⟩:=bK h
 dsimp only at h2
 split at h2<;>first
  |cases h2
  |(obtain⟨_,_,_,h3⟩:=bK h2;obtain⟨_,_,_,h4⟩:=bK h3;cases h4)
theorem BI {T e:TypeId}{i:TypeInfo}{z:Value}(hz:zo P T=true)(hu:P.underlying T=some (.slice e))(hi:P.info? e=some i)(hzero:i.zero=some z){cs:Array Value}(hcs:∀(j:Nat) (u:Value),cs[j]? = some u->u=z.cells[j%z.cells.size]!) :
 ∀j u T',cs[j]? = some u->(j%qJ P T,T')∈kP P T->QB u:=by
 unfold zo at hz;rw[hu]at hz;simp only[hi,hzero,af,beq_iff_eq]at hz;intro j u T' hj ht;have:=hcs j u hj;obtain⟨h1,h2⟩:=hz;cases hR:Iq z.cells (refsOf P 6 e 0)with
 |none=>rw[hR]at h2;cases h2
 | some R=>
   have he:kP P T=refsOf P 6 e 0:=(by simp[kP,hu]);have hs:qJ P T=i.size:=(by simp[qJ,hu,hi]);rw[he,hs,<- h1]at ht;unfold Iq at hR;split at hR
   ·rename_i hall;rw[aH]at hall;have h3:=hall _ ht;cases hc:z.cells[j%z.cells.size]? with
    |none=>rw[hc]at h3;cases h3
    | some u'=>rw[hc]at h3;have:u=u':=(by rw[this,getElem!_def,hc]);rw[this];exact KI h3
   ·cases hR
theorem OW.abr (h:OW P F g dp Γ a w)(hd:d<a.tmps.size)(hN:N<=w.heap.size){cs:Array Value}{e T n c m:Nat}
 (hc:∀j u T',cs[j]? = some u->(j%qJ P T,T')∈kP P T->GR g u T' (.blk w.heap.size j)) :
 ∃g',Rel dp N g g'/\OW P F g' dp (.ref d ⟨0,T,m⟩ :: Γ.filter (AX d)) (a.put (some d) (.slice (some ⟨w.heap.size,0,none⟩) n c)) (w.alloc (.cells cs e)):=by
 have hn:g w.heap.size=none:=by
  cases hg:g w.heap.size with
  |none=>rfl
  |some B=>exact absurd (h.good.lt hg) (Nat.lt_irrefl _)
 have h1:=(h.drop d (.slice (some ⟨w.heap.size,0,none⟩) n c)).adF (cs:=cs) (e:=e) (T:=T) (m:=n) (p:=.tag dp m) λj u T' _=>hc j u T';refine⟨_,Rel.new hn hN,h1.add ⟨.slice (some ⟨w.heap.size,0,none⟩) n c,?_,.inr ⟨w.heap.size,n,c,rfl,by simp[qw],by simp[xZ]⟩⟩⟩;rw[dF hd];rfl
theorem aaf (h:OW P F g dp Γ a w)(hd:d<a.tmps.size)(hN:N<=w.heap.size){o:Oper}{T:TypeId}{x y:Operand}(hz:zo P T=true)(ho:o.op = .makeSlice T x y)(hr:(execOp a.eval o).run P w = .ok (.value v) w') :
 ∃g',Rel dp N g g'/\OW P F g' dp (.ref d ⟨0,T,mk d 0⟩ :: Γ.filter (AX d)) (a.put (some d) v) w':=by
 simp only[execOp,ho]at hr;have hr:=zn hr;have Ot:∀{v:Value} {i:Int} {w w':World},(asInt v).run P w = .ok i w'->w'=w:=by intro v i w w' h;unfold asInt at h;obtain⟨y,w1,h1,h2⟩:=bK h;have e1:=(dU h2).2;subst e1;unfold asIntOf at h1;split at h1<;>first|exact(dU h1).2|cases h1
 unfold Instr.makeSlice at hr;obtain⟨de,w1,h1,k1⟩:=bK hr;clear hr;obtain⟨hu,rfl⟩:=vN h1;split at k1
 ·rename_i e;obtain⟨l0,w2,h2,k2⟩:=bK k1;have:=Ot h2;subst this;obtain⟨c0,w3,h3,k3⟩:=bK k2;have:=Ot h3;subst this;obtain⟨i,w4,h4,k4⟩:=bK k3;obtain⟨hi,rfl⟩:=BV h4;clear k1 k2 k3
  dsimp only at k4
  split at k4
  ·exfalso;split at k4
   ·obtain⟨_,_,h5,_⟩:=bK k4;exact Ew h5
   ·split at k4
    ·obtain⟨_,_,h5,_⟩:=bK k4;exact Ew h5
    ·obtain⟨_,_,_,k5⟩:=bK k4;obtain⟨_,_,h5,_⟩:=bK k5;exact Ew h5
  ·obtain⟨_,w5,h5,k5⟩:=bK k4;have:=VY h5;subst this;obtain⟨sz,w6,h6,k6⟩:=bK k5;obtain⟨i',hi',rfl,rfl⟩:=yI h6;rw[hi]at hi';cases hi';clear k4 k5;split at k6
   ·rename_i h0;obtain⟨z,w7,h7,k7⟩:=bK k6;obtain⟨rfl,rfl⟩:=dU h7;obtain⟨p,w8,h8,k8⟩:=bK k7;unfold newRow at h8;obtain⟨q,w9,h9,h10⟩:=bK h8;rw[run_newObj]at h9;cases h9;obtain⟨rfl,rfl⟩:=dU h10;obtain⟨rfl,rfl⟩:=dU k8;refine h.abr hd hN λj u T' hj _=>?_;have hlt:=(bP.1 hj).1;simp only[Array.size_map,Array.size_range]at hlt;omega
   ·obtain⟨z,w7,h7,k7⟩:=bK k6;obtain⟨⟨i2,hi2,hzero⟩,rfl⟩:=Ir h7;rw[hi]at hi2;cases hi2;obtain⟨z',w8,h8,k8⟩:=bK k7;obtain⟨rfl,rfl⟩:=dU h8;obtain⟨p,w9,h9,k9⟩:=bK k8;unfold newRow at h9;obtain⟨q,w10,h10,h11⟩:=bK h9;rw[run_newObj]at h10;cases h10;obtain⟨rfl,rfl⟩:=dU h11;obtain⟨rfl,rfl⟩:=dU k9;refine h.abr hd hN λj u T' hj ht=>.inl (BI hz hu hi hzero (λj u hj=>?_) j u T' hj ht);rw[jT]at hj;simp only[bI]at hj;obtain⟨j',hj',rfl⟩:=hj;have:=bP.1 hj';simp at this;rw[this.2]
 ·cases k1
end
end
section
def NI (R:RR):Bool:=R.all λe=>R.all λe'=>e.2.2.isNone||e.2.2 != e'.2.2||e==e'
def Il (R:RR):List Nat:=R.filterMap (·.2.2)
def Oa (k off:Nat)(R:RR):List (Nat×ru):=R.filterMap λe=>e.2.2.map λm=>(m,.blk k (off+e.1))
def Zw (R:RR)(o T:Nat):Bool:=R.any λe=>e.1==o&&e.2.1==T
theorem OU (k off:Nat)(R:RR):(Oa k off R).map (·.1)=Il R:=by
 induction R with
 |nil=>rfl
 | cons e r ih=>
   obtain⟨o,T,m⟩:=e;cases m with
   |none=>simpa[Oa,Il]using ih
   |some m=>simp only[Oa,Il,List.filterMap_cons,iH,aP]at ih⊢;rw[ih]
theorem MJ {β:Type}{m:Nat}{q:β} : ∀{l:List (Nat×β)},(m,q)∈l->∃q',l.lookup m=some q'/\(m,q')∈l
 | (k,b)::r,h=>by
   simp only[List.lookup];cases hk:(m==k)with
   |true=>simp at hk;subst hk;exact⟨b,rfl,aK ..⟩
   | false=>
     rcases aB.1 h with e|h
     ·cases e;simp at hk
     ·obtain⟨q',h1,h2⟩:=MJ h;exact⟨q',h1,bW _ h2⟩
theorem SN {k off:Nat}{R:RR}(ht:NI R=true){e:Nat×Nat×Option Nat}(he:e∈R){m:Nat}(hm:e.2.2=some m):(Oa k off R).lookup m=some (.blk k (off+e.1)):=by
 have h1:(m,ru.blk k (off+e.1))∈Oa k off R:=by rw[Oa,bH];exact⟨e,he,by rw[hm];rfl⟩
 obtain⟨q,hq,hm'⟩:=MJ h1;rw[hq];rw[Oa,bH]at hm';obtain⟨e',he',h2⟩:=hm';cases h3:e'.2.2 with
 |none=>rw[h3]at h2;cases h2
 | some m'=>
   rw[h3]at h2;simp only[iH,aG,bV]at h2;obtain⟨rfl,rfl⟩:=h2;simp only[NI,aH,eH,Option.isNone_iff_eq_none,bne_iff_ne,beq_iff_eq]at ht;have:=ht e he e' he';rcases this with(h|h)|h
   ·rw[hm]at h;cases h
   ·rw[hm,h3]at h;exact absurd rfl h
   ·rw[h]
section
variable {P:Program} {F:JH} {g:Own} {dp:Nat} {Γ : List OF} {a:Act} {w w':World} {d N:Nat} {v:Value}
theorem IB.mv {cs:Array Value}{R:RR}(h:IB g dp cs R)(ht:NI R=true)(k off:Nat){e:Nat×Nat×Option Nat}(he:e∈R):∃u,cs[e.1]? = some u/\GR (g.mv dp (Oa k off R)) u e.2.1 (.blk k (off+e.1)):=by
 obtain⟨u,hu,hg⟩:=h e he;refine⟨u,hu,?_⟩;cases hm:e.2.2 with
 |none=>rw[hm]at hg;exact .inl hg
 |some m=>rw[hm]at hg;exact GR.mv hg (SN ht he hm)
theorem aa5 (h:OW P F g dp Γ a w){x:Operand}{size:Nat} : IB g dp (a.eval x).cells (yR Γ 0 size x):=by
 intro e he;unfold yR at he;split at he
 ·rename_i s;rw[bH]at he;obtain⟨f,hf,he⟩:=he;split at he
  ·split at he
   ·rename_i y r hc;cases he;obtain⟨rfl,hlt⟩:=hc;obtain⟨u,hu,hg⟩:=h.fs _ hf;exact⟨u,by rw[dh];exact hu,hg⟩
   ·cases he
  ·cases he
 ·cases he
def Vl (P:Program)(T len:Nat):RR:=(lF len).flatMap λi=>(kP P T).map λe=>(i*qJ P T+e.1,e.2,none)
def CJ (P:Program)(Γ : List OF)(T len:Nat)(ps:List (Nat×Operand)):RR:=RV (λi=>some (i*qJ P T,qJ P T)) Γ ps (Vl P T len)
def Le (P:Program)(Γ : List OF)(T len:Nat)(ps:List (Nat×Operand)):Bool:=
 zo P T&&NI (CJ P Γ T len ps)&&(lF len).all (λi=>(kP P T).all λe=>Zw (CJ P Γ T len ps) (i*qJ P T+e.1) e.2)&&decide (0<qJ P T)
theorem UR {T e:TypeId}{i:TypeInfo}(hu:P.underlying T=some (.slice e))(hi:P.info? e=some i):qJ P T=i.size:=by simp[qJ,hu,hi]
theorem aae {T e:TypeId}{i:TypeInfo}{z:Value}(hz:zo P T=true)(hu:P.underlying T=some (.slice e))(hi:P.info? e=some i)(hzero:i.zero=some z){n:Nat}{cs:Array Value}(hcs:cs=(nP n).map (z.cells[· % z.cells.size]!)) :
 ∀j u T',cs[j]? = some u->(j%qJ P T,T')∈kP P T->QB u:=by
 refine BI hz hu hi hzero λj u hj=>?_;subst hcs;rw[jT]at hj;simp only[bI]at hj;obtain⟨j',hj',rfl⟩:=hj;have:=bP.1 hj';simp at this;rw[this.2]
theorem Zg {T e:TypeId}{i:TypeInfo}{z:Value}(hz:zo P T=true)(hu:P.underlying T=some (.slice e))(hi:P.info? e=some i)(hzero:i.zero=some z){o T':Nat}(ho:(o,T')∈kP P T):o<qJ P T:=by
 unfold zo at hz;rw[hu]at hz;simp only[hi,hzero,af,beq_iff_eq]at hz;obtain⟨h1,h2⟩:=hz;have he:kP P T=refsOf P 6 e 0:=by simp[kP,hu]
 rw[he]at ho;cases hR:Iq z.cells (refsOf P 6 e 0)with
 |none=>rw[hR]at h2;cases h2
 | some R=>
   unfold Iq at hR;split at hR
   ·rename_i hall;rw[aH]at hall;have:=hall _ ho;cases hc:z.cells[o]? with
    |none=>dsimp only at this;rw[hc]at this;cases this
    | some u=>have:=(bP.1 hc).1;rw[UR hu hi,<- h1];exact this
   ·cases hR
theorem Uw (h:OW P F g dp Γ a w)(hd:d<a.tmps.size)(hN:N<=w.heap.size){o:Oper}{T:TypeId}{len:Nat}{ps:Array (Nat×Operand)}(hok:Le P Γ T len ps.toList=true)(ho:o.op = .buildSlice T len ps)(hr:(execOp a.eval o).run P w = .ok (.value v) w') :
 ∃g',Rel dp N g g'/\OW P F g' dp (.ref d ⟨0,T,mk d 0⟩::(Γ.filter (yF (Il (CJ P Γ T len ps.toList)))).filter (AX d)) (a.put (some d) v) w':=by
 simp only[Le,af,aH,decide_eq_true_eq]at hok;obtain⟨⟨⟨hz,ht⟩,hcov⟩,h0⟩:=hok;simp only[execOp,ho]at hr;have hr:=zn hr;unfold Instr.buildSlice at hr;obtain⟨de,w1,h1,k1⟩:=bK hr;clear hr;obtain⟨hu,rfl⟩:=vN h1;split at k1
 ·rename_i e;obtain⟨size,w2,h2,k2⟩:=bK k1;obtain⟨i,hi,rfl,rfl⟩:=yI h2;clear k1;have hes:=UR hu hi
  dsimp only at k2
  split at k2
  ·obtain⟨_,_,h3,_⟩:=bK k2;cases h3
  ·
   have key:∀(z:Value) (cells:Array Value),i.zero=some z->lZ (λi'=>some (i'*i.size,i.size)) ((nP (len*i.size)).map (z.cells[· % z.cells.size]!)) (ps.map λ(i,x)=>(i,a.eval x)).toList=some cells ->
    ∃g',Rel dp N g g'/\OW P F g' dp (.ref d ⟨0,T,mk d 0⟩::(Γ.filter (yF (Il (CJ P Γ T len ps.toList)))).filter (AX d)) (a.put (some d) (.slice (some ⟨w2.heap.size,0,none⟩) len len)) (w2.alloc (.cells cells e)):=by
    intro z cells hzero acK;have hps:(ps.map λ(i,x)=>(i,a.eval x)).toList=ps.toList.map λp=>(p.1,a.eval p.2):=(by simp);rw[hps,<- hes]at acK;have hnil:IB g dp ((nP (len*qJ P T)).map (z.cells[· % z.cells.size]!)) (Vl P T len):=by
     intro q hq;rw[Vl,iw]at hq;obtain⟨ix,hix,hq⟩:=hq;rw[aF]at hq;obtain⟨r,hr,rfl⟩:=hq;rw[yV]at hix;have hlt:=Zg hz hu hi hzero (show(r.1,r.2)∈kP P T from hr);have hj:ix*qJ P T+r.1<len*qJ P T:=by have:=aC (qJ P T) (show ix+1<=len from hix);rw[bg,qG]at this;omega
     have hget:((nP (len*qJ P T)).map (z.cells[· % z.cells.size]!))[ix*qJ P T+r.1]? = some (z.cells[(ix*qJ P T+r.1)%z.cells.size]!):=(by rw[jT,Array.getElem?_range,if_pos hj];rfl);refine⟨_,hget,?_⟩;refine aae hz hu hi hzero rfl _ _ r.2 hget ?_;rw[pR,o5,oP hlt];exact hr
    obtain⟨hR,hsz⟩:=LV h.fs ps.toList _ cells _ hnil acK;have h2:=h.mv (Oa w2.heap.size 0 (CJ P Γ T len ps.toList));rw[OU]at h2;obtain⟨g',hrel,how⟩:=h2.abr (d:=d) (N:=N) (cs:=cells) (e:=e) (T:=T) (n:=len) (c:=len) (m:=mk d 0) hd hN (λj u T' hj htt=>by have hjl:=(bP.1 hj).1;rw[hsz]at hjl;simp only[Array.size_map,Array.size_range]at hjl;have hdiv:j/qJ P T<len:=Nat.div_lt_of_lt_mul (by rw[oh];exact hjl);have:=hcov (j/qJ P T) (yV.2 hdiv) (j%qJ P T,T') htt;simp only[Zw,rG,af,beq_iff_eq]at this;obtain⟨q,hq,e1,e2⟩:=this;obtain⟨u',hu',hg⟩:=hR.mv ht w2.heap.size 0 hq;have ej:q.1=j:=(by rw[e1,oh];exact vz j _);rw[ej]at hu' hg;rw[hj]at hu';cases hu';rw[e2,dh]at hg;exact hg)
    exact⟨g',(Rel.mv N _).trans hrel,how⟩
   have hzz:∃z,i.zero=some z:=by
    unfold zo at hz;rw[hu]at hz;simp only[hi]at hz;cases hq:i.zero with
    |none=>rw[hq]at hz;cases hz
    |some z=>exact⟨z,rfl⟩
   obtain⟨z0,hz0⟩:=hzz;have fin:∀(cells:Array Value),lZ (λi'=>some (i'*i.size,i.size)) ((nP (len*i.size)).map (z0.cells[· % z0.cells.size]!)) (ps.map λ(i,x)=>(i,a.eval x)).toList=some cells ->
    (do pure (vW (some (<- newRow e cells)) len len):Sem Value).run P w2 = .ok v w'->∃g',Rel dp N g g'/\OW P F g' dp (.ref d ⟨0,T,mk d 0⟩::(Γ.filter (yF (Il (CJ P Γ T len ps.toList)))).filter (AX d)) (a.put (some d) v) w':=by
    intro cells hf hrun;obtain⟨p,w9,h9,k9⟩:=bK hrun;unfold newRow at h9;obtain⟨q,w10,h10,h11⟩:=bK h9;rw[run_newObj]at h10;cases h10;obtain⟨rfl,rfl⟩:=dU h11;obtain⟨rfl,rfl⟩:=dU k9;exact key z0 cells hz0 hf
   split at k2
   ·rename_i hl0;obtain⟨z,w7,h7,k7⟩:=bK k2;obtain⟨rfl,rfl⟩:=dU h7;split at k7
    ·rename_i cells hf;refine fin cells ?_ k7;rw[hl0]at hf⊢;simpa[Array.range_zero']using hf
    ·cases k7
   ·obtain⟨z,w7,h7,k7⟩:=bK k2;obtain⟨⟨i2,hi2,hzero⟩,rfl⟩:=Ir h7;rw[hi]at hi2;cases hi2;rw[hz0]at hzero;cases hzero;obtain⟨z',w8,h8,k8⟩:=bK k7;obtain⟨rfl,rfl⟩:=dU h8;split at k8
    ·rename_i cells hf;exact fin cells hf k8
    ·cases k8
 ·cases k1
end
end
section
def Q4 (P:Program)(Γ : List OF)(T o size:Nat)(x:Operand):Bool:=
 NI (yR Γ 0 size x)&&(kP P T).all (λe=> !(decide (o<=e.1)&&decide (e.1<o+size))||Zw (yR Γ 0 size x) (e.1-o) e.2)&&decide (o+size<=qJ P T)
def SE (b o k:Nat):OF->Bool
 |.row b' r=>b'==b&&decide (o<=r.off)&&decide (r.off<o+k)
 |_=>false
def VE (Γ : List OF)(b o size:Nat)(x:Operand):List OF:=(rowOf 0 (yR Γ o size x)).map (.row b)
section
variable {P:Program} {F:JH} {g:Own} {dp:Nat} {Γ : List OF} {a:Act} {w w':World} {d N:Nat} {v:Value}
theorem ND {o:Oper}{t:TypeId}{p x:Operand}{r:Next}(ho:o.op = .store t p x)(hr:(execOp a.eval o).run P w = .ok r w'):∃i,P.info? t=some i/\(a.eval x).cells.size=i.size:=by
 simp only[execOp,ho]at hr;obtain⟨_,w1,h1,_⟩:=bK hr;unfold Go.Instr.storeAt at h1;obtain⟨q,w2,h2,h3⟩:=bK h1;obtain⟨_,rfl⟩:=Ld h2;unfold storeVar at h3;obtain⟨k,w3,h4,h5⟩:=bK h3;obtain⟨i,hi,rfl,rfl⟩:=yI h4
 dsimp only at h5
 split at h5
 ·obtain⟨_,_,h6,_⟩:=bK h5;cases h6
 ·rename_i hne;exact⟨i,hi,Decidable.not_not.1 hne⟩
theorem A7 {cs:Array Value}{off:Nat}{vs:Array Value}(hfit:off+vs.size<=cs.size)(j:Nat):(splice cs.toList off vs.toList).toArray[j]? = if j<off then cs[j]? else if j<off+vs.size then vs[j-off]? else cs[j]?:=by rw[jS,kG _ _ _ _ (by simpa using hfit)];simp
theorem Yv (h:OW P F g dp Γ a w){o:Oper}{t:TypeId}{p:Nat}{x:Operand}{T off:Nat}{i:TypeInfo}(ho:o.op = .store t (.tmp p) x){r:Next}(hr:(execOp a.eval o).run P w = .ok r w')(he:Eff o a w w')(hi:P.info? t=some i)(hp : .ep p T off ∈ Γ)(hok:Q4 P Γ T off i.size x=true) :
 ∃g',Rel dp N g g'/\OW P F g' dp (Γ.filter (yF (Il (yR Γ 0 i.size x)))) a w':=by
 obtain⟨k,ad,cs,e,hpv,hw,hfit,rfl⟩:=he.store _ _ _ ho;obtain⟨i',hi',hsz⟩:=ND ho hr;rw[hi]at hi';cases hi';simp only[Q4,af,aH,decide_eq_true_eq]at hok;obtain⟨⟨ht,hcov⟩,hle⟩:=hok;obtain⟨k',o',hq,_,hB⟩:=h.fs _ hp;have e1:a.eval (.tmp p)=a.tmps.getD p undef:=rfl;rw[e1,hq]at hpv;cases hpv;have h2:=h.mv (Oa k ad (yR Γ 0 i.size x));rw[OU]at h2;refine⟨_,Rel.mv N _,h2.QU hw λB hB'=>?_⟩;cases B with
 | var row d b=>obtain⟨row0,h3,_⟩:=QN hB';obtain⟨⟨p0,e0⟩,_⟩:=hB _ h3;cases e0
 | arr T' p'=>
   obtain⟨q,h3,_,rfl⟩:=QM hB';obtain⟨⟨p0,e0⟩,hmod⟩:=hB _ h3;cases e0;refine⟨_,_,rfl,λj u T' hjb hj htt=>?_⟩;rw[A7 hfit]at hj;by_cases hj1:j<ad
   ·rw[if_pos hj1]at hj;obtain⟨cs',e',hw',hold⟩:=h2.good.arr _ _ _ hB';rw[hw]at hw';cases hw';exact hold j u T' hjb hj htt
   ·rw[if_neg hj1]at hj;by_cases hj2:j<ad+(a.eval x).cells.size
    ·rw[if_pos hj2]at hj;have hm:j%qJ P T=off+(j-ad):=by
      have:j=ad+(j-ad):=(by omega);rw[this,qC,hmod,qC,Bc,<- qC];rw[oP (by omega)];omega
     rw[hm]at htt;have:=hcov _ htt;simp only[eH,gy,jR,decide_eq_false_iff_not]at this;have hh:Zw (yR Γ 0 i.size x) (off+(j-ad)-off) T'=true:=by
      rcases this with(h5|h5)|h5
      ·omega
      ·omega
      ·exact h5
     simp only[Zw,rG,af,beq_iff_eq]at hh;obtain⟨en,hen,e4,e5⟩:=hh;obtain⟨u',hu',hg⟩:=(aa5 h (x:=x) (size:=i.size)).mv ht k ad hen;have e6:en.1=j-ad:=(by omega);rw[e6]at hu' hg;rw[hj]at hu';cases hu';rw[e5,show ad+(j-ad)=j by omega]at hg;exact hg
    ·rw[if_neg hj2]at hj;obtain⟨cs',e',hw',hold⟩:=h2.good.arr _ _ _ hB';rw[hw]at hw';cases hw';exact hold j u T' hjb hj htt
theorem Yw (h:OW P F g dp Γ a w){o:Oper}{t:TypeId}{p:Nat}{x:Operand}{b off:Nat}{i:TypeInfo}(ho:o.op = .store t (.tmp p) x){r:Next}(hr:(execOp a.eval o).run P w = .ok r w')(he:Eff o a w w')(hi:P.info? t=some i)(hp : .vp p b off ∈ Γ) :
 ∃g',Rel dp N g g'/\OW P F g' dp (VE Γ b off i.size x ++ Γ.filter (λf=> !SE b off i.size f)) a w':=by
 obtain⟨k,ad,cs,e,hpv,hw,hfit,rfl⟩:=he.store _ _ _ ho;obtain⟨i',hi',hsz⟩:=ND ho hr;rw[hi]at hi';cases hi';obtain⟨k',row,hb,hq,hg⟩:=h.fs _ hp;have e1:a.eval (.tmp p)=a.tmps.getD p undef:=rfl;rw[e1,hq]at hpv;cases hpv;have hnew:∀r,r∈rowOf 0 (yR Γ off i.size x)->∃u,(splice cs.toList off (a.eval x).cells.toList).toArray[r.off]? = some u/\GR g u r.ty (.tag dp r.m):=by
  intro r hr;rw[rowOf,aF]at hr;obtain⟨en,hen,rfl⟩:=hr;unfold yR at hen;split at hen
  ·rename_i s;rw[bH]at hen;obtain⟨f,hf,hen⟩:=hen;split at hen
   ·split at hen
    ·rename_i y r hc;cases hen;obtain⟨rfl,hlt⟩:=hc;obtain⟨u,hu,hgr⟩:=h.fs _ hf;refine⟨u,?_,hgr⟩
     dsimp only
     have e2:a.eval (.tmp y)=a.tmps.getD y undef:=rfl;rw[A7 hfit,if_neg (by omega),if_pos (by omega),show off+r.off-off=r.off by omega,e2];exact hu
    ·cases hen
   ·cases hen
  ·cases hen
 have hrow:∀r,r∈rowOf 0 (yR Γ off i.size x)++row.filter (λr=> !(decide (off<=r.off)&&decide (r.off<off+i.size)))->∃u,(splice cs.toList off (a.eval x).cells.toList).toArray[r.off]? = some u/\GR g u r.ty (.tag dp r.m):=by
  intro r hr;rw[aV]at hr;rcases hr with hr|hr
  ·exact hnew r hr
  ·rw[aJ]at hr;obtain⟨h3,h4⟩:=hr;obtain⟨cs',e',hw',hold⟩:=h.good.var _ _ _ _ hg;rw[hw]at hw';cases hw';obtain⟨u,hu,hgr⟩:=hold r h3;refine⟨u,?_,hgr⟩;simp only[gy,jR,decide_eq_false_iff_not]at h4;rw[A7 hfit];by_cases h5:r.off<off
   ·rw[if_pos h5];exact hu
   ·rw[if_neg h5,if_neg (by rcases h4 with h4|h4<;>omega)];exact hu
 have h3:=h.setVar (cs':=(splice cs.toList off (a.eval x).cells.toList).toArray) hw hg hrow (vO:= Γ.filter (λf=> !SE b off i.size f)) (λf hf=>by
  rw[aJ]at hf;refine⟨hf.1,λr hr=>?_⟩;subst hr;obtain⟨k2,FC,e2,e3,e4⟩:=h.fs _ hf.1;rw[hb]at e2;cases e2;rw[hg]at e3;cases e3;rw[aV]
  right
  rw[aJ];refine⟨e4,?_⟩;have:=hf.2;simpa[SE]using this)
 refine⟨_,Rel.setVar hg,h3.good,λf hf=>?_⟩;rw[aV]at hf;rcases hf with hf|hf
 ·rw[VE,aF]at hf;obtain⟨r,hr,rfl⟩:=hf;exact⟨k,_,hb,if_pos rfl,bG _ hr⟩
 ·exact h3.fs f hf
end
end
section
section
variable {P:Program} {F:JH} {g:Own} {dp:Nat} {Γ : List OF} {a:Act} {w w':World} {d N:Nat} {v:Value}
theorem Ve {k o:Nat}{cs:Array Value}{e:TypeId}{fr:Nat×Nat}(hw:w.heap[k]? = some (.cells cs e fr))(h:(load ⟨k,o,none⟩).run P w = .ok v w'):w'=w/\cs[o]? = some v:=by
 rw[run_load]at h;cases hc:w.cell? ⟨k,o,none⟩with
 | some u=>rw[hc]at h;cases h;refine⟨rfl,?_⟩;simpa[dR,hw]using hc
 | none=>rw[hc]at h;simp only[World.farLoad,hw]at h;cases h
theorem Es {k o:Nat}{cs:Array Value}{e:TypeId}{fr:Nat×Nat} : ∀(n i:Nat) (acc:Array Value) (w:World) (r:Array Value) (w':World),w.heap[k]? = some (.cells cs e fr)->(loadCellsFrom ⟨k,o,none⟩ i n acc).run P w = .ok r w' ->
 w'=w/\r.size=acc.size+n/\(∀j,j<acc.size->r[j]? = acc[j]?)/\∀j,j<n->∃u,cs[o+i+j]? = some u/\r[acc.size+j]? = some u
 | 0,i,acc,w,r,w',hw,h=>by unfold loadCellsFrom at h;obtain⟨rfl,rfl⟩:=dU h;exact⟨rfl,rfl,λ_ _=>rfl,λj hj=>absurd hj (Nat.not_lt_zero _)⟩
 | n+1,i,acc,w,r,w',hw,h=>by
   unfold loadCellsFrom at h;obtain⟨v,w1,h1,h2⟩:=bK h;rw[Addr.l7]at h1;obtain⟨rfl,hv⟩:=Ve hw h1;obtain⟨h3,h4,h5,h6⟩:=Es n (i+1) (acc.push v) _ r w' hw h2;refine⟨h3,by rw[h4];simp;omega,λj hj=>?_,λj hj=>?_⟩
   ·rw[h5 j (by simp;omega),Array.getElem?_push,if_neg (by omega)]
   ·cases j with
    | zero=>refine⟨v,hv,?_⟩;have:=h5 acc.size (by simp);simpa using this
    | succ j=>obtain⟨u,h7,h8⟩:=h6 j (by omega);simp only[Array.size_push]at h8;exact⟨u,by rw[show o+i+(j+1)=o+(i+1)+j by omega];exact h7,by rw[show acc.size+(j+1)=acc.size+1+j by omega];exact h8⟩
theorem Ee {size n m c:Nat}{k:Nat}{cs:Array Value}{e:TypeId}{fr:Nat×Nat}{r:Array Value}(hw:w.heap[k]? = some (.cells cs e fr))(h:(dO size n (.slice (some ⟨k,0,none⟩) m c)).run P w = .ok r w') :
 w'=w/\r.size=n*size/\∀(j:Nat) (u:Value),r[j]? = some u->cs[j]? = some u:=by
 unfold dO loadCells at h;obtain⟨h1,h2,_,h4⟩:=Es _ _ _ _ _ _ hw h;simp only[kF,lC,dh]at h2 h4;refine⟨h1,h2,λj u hj=>?_⟩;have hlt:=(bP.1 hj).1;rw[h2]at hlt;obtain⟨u',h5,h6⟩:=h4 j hlt;rw[hj]at h6;cases h6;simpa using h5
theorem TN {k o:Nat}{cs:Array Value}{e:TypeId}{u:Unit}(hw:w.heap[k]? = some (.cells cs e (0,0)))(h:(store ⟨k,o,none⟩ v).run P w = .ok u w'):v.oneCell'=true/\o<cs.size:=by
 have hone:v.oneCell'=true:=by cases v<;>first|rfl|(exfalso;simp[store,Sem.run]at h;done)
 refine⟨hone,?_⟩;rw[run_store P w _ _ _ hone]at h;cases hc:w.cell? ⟨k,o,none⟩with
 | some u=>simp only[dR,hw]at hc;exact(bP.1 (by simpa using hc)).1
 | none=>rw[hc]at h;simp only[World.farStore,hw]at h;cases h
theorem EJ {k o:Nat}{cs:Array Value}{e:TypeId}{vs:List Value}{u:Unit}(hw:w.heap[k]? = some (.cells cs e (0,0)))(h:(storeCells ⟨k,o,none⟩ vs).run P w = .ok u w')(hn:vs≠[]) :
 o+vs.length<=cs.size/\w'=w.setRow k (splice cs.toList o vs).toArray:=by
 have key:∀(vs:List Value) (i:Nat) (cs:Array Value) (w w':World),w.heap[k]? = some (.cells cs e (0,0))->(storeCells ⟨k,o,none⟩ vs i).run P w = .ok u w'->(∀v,v∈vs->v.oneCell'=true)/\(vs≠[]->o+i+vs.length<=cs.size):=by
  intro vs
  induction vs with
  |nil=>intro i cs w w' _ _;exact⟨λv hv=>(by cases hv),λh=>absurd rfl h⟩
  | cons v r ih=>
    intro i cs w w' hw h;unfold storeCells at h;obtain⟨u1,w1,h1,h2⟩:=bK h;rw[Addr.l7]at h1;obtain⟨hone,hlt⟩:=TN hw h1;have hst:=run_storeCells_at P k o e [v] i cs w hw (by simp;omega) (by simpa using hone);unfold storeCells at hst;rw[bF,Addr.l7,h1]at hst;simp only[aN,storeCells,aX]at hst;cases hst;have hw1:=setRow_heap w k cs (cs.toList.take (o+i)++[v]++cs.toList.drop (o+i+1)).toArray e (0,0) hw;obtain⟨h3,h4⟩:=ih (i+1) _ _ w' hw1 h2;refine⟨λx hx=>(aB.1 hx).elim (λe=>e▸hone) (λhx=>h3 x hx),λ_=>?_⟩;by_cases hr:r=[]
    ·subst hr;simp;omega
    ·have:=h4 hr;simp only[kF,List.length_append,dW,List.length_drop,lU,lC,iU]at this;simp only[lU];omega
 obtain⟨h1,h2⟩:=key vs 0 cs w w' hw h;have h3:=h2 hn;have hst:=run_storeCells_at P k o e vs 0 cs w hw h3 h1;rw[h]at hst;cases hst;exact⟨by simpa using h3,by rw[sO]⟩
end
end
section
def DW (dp ms md:Nat)(ks kx:Option Nat)(k off:Nat):ru->ru
 |.blk b j=>if some b=ks then .blk k j else if some b=kx then .blk k (off+j)else .blk b j
 |.tag d m=>if d=dp/\m=ms then .tag dp md else .tag d m
 |.dead=>.dead
def xk (dp:Nat)(ms:List Nat):ru->Bool
 |.tag d m=>decide (d=dp)&&ms.contains m
 |_=>false
section
variable {P:Program} {F:JH} {g:Own} {dp:Nat} {Γ : List OF} {a:Act} {w w':World} {d N:Nat} {v:Value}
theorem OW.ap (h:OW P F g dp Γ a w){ms md:Nat}{dr:List Nat}{ks kx:Option Nat}{k off:Nat}(hs:∀b,ks=some b->∃T m,g b=some (.arr T (.tag dp m))/\m∈dr)(hx:∀b,kx=some b->∃T m,g b=some (.arr T (.tag dp m))/\m∈dr) :
 OW P F (g.re (xk dp dr) (DW dp ms md ks kx k off)) dp (Γ.filter (yF (ms::dr))) a w:=by
 refine⟨h.good.re λb T p hb hp j=>⟨rfl,?_⟩,λf hf=>?_⟩
 ·have no:∀c:Option Nat,(∀b,c=some b->∃T m,g b=some (.arr T (.tag dp m))/\m∈dr)->¬some b=c:=by
   intro c hc e;obtain⟨T',m,h1,h2⟩:=hc b e.symm;rw[hb]at h1;cases h1;simp[xk,h2]at hp
  simp only[DW];rw[if_neg (no ks hs),if_neg (no kx hx)]
 ·rw[aJ]at hf;refine(h.fs f hf.1).re λm hm=>?_;have h1:=hf.2;simp only[yF,hm,gy,su,aB,decide_eq_false_iff_not,not_or]at h1;refine⟨by simp[xk,h1.2],?_⟩;simp only[DW];rw[if_neg (λe=>h1.1 e.2)]
theorem Rel.ap {ms md:Nat}{dr:List Nat}{ks kx:Option Nat}{k off:Nat} : Rel dp N g (g.re (xk dp dr) (DW dp ms md ks kx k off)):=
 Rel.re λd m hd=>⟨by simp only[xk,jR,decide_eq_false_iff_not];left;omega,by simp only[DW];rw[if_neg (by omega)]⟩
def apX (P:Program)(Γ : List OF)(T:Nat)(x:Operand):Option (List Nat):=
 if(kP P T).isEmpty then some []else match x with
 |.tmp s=>(Γ.filterMap λf=>match f with|.ref y r=>if y=s/\r.off=0/\r.ty=T then some [r.m]else none|_=>none).head?
 |_=>none
theorem Un (h:OW P F g dp Γ a w){T:Nat}{x:Operand}{ms:List Nat}(hx:apX P Γ T x=some ms):(kP P T=[]/\ms=[])\/∃m u,ms=[m]/\(a.eval x).cells[0]? = some u/\GR g u T (.tag dp m):=by
 unfold apX at hx;split at hx
 ·rename_i he;cases hx;exact .inl ⟨List.isEmpty_iff.1 he,rfl⟩
 ·split at hx
  ·rename_i s;have:=jB hx;rw[bH]at this;obtain⟨f,hf,hm⟩:=this;split at hm
   ·split at hm
    ·rename_i y r hc;obtain⟨rfl,h0,rfl⟩:=hc;cases hm;obtain⟨u,hu,hg⟩:=h.fs _ hf;rw[h0]at hu;exact .inr ⟨r.m,u,rfl,hu,hg⟩
    ·cases hm
   ·cases hm
  ·cases hx
def apS (Γ : List OF)(T s:Nat):Option Nat:=(Γ.filterMap λf=>match f with|.ref y r=>if y=s/\r.off=0/\r.ty=T then some r.m else none|_=>none).head?
theorem YY (h:OW P F g dp Γ a w){T s m:Nat}(hx:apS Γ T s=some m):∃u,(a.tmps.getD s undef).cells[0]? = some u/\GR g u T (.tag dp m):=by
 have:=jB hx;rw[bH]at this;obtain⟨f,hf,hm⟩:=this;split at hm
 ·split at hm
  ·rename_i y r hc;obtain⟨rfl,h0,rfl⟩:=hc;cases hm;obtain⟨u,hu,hg⟩:=h.fs _ hf;rw[h0]at hu;exact⟨u,hu,hg⟩
  ·cases hm
 ·cases hm
theorem yj {b:Option Addr}{n c:Nat}{u:Value}(h:(vW b n c).cells[0]? = some u):u = .slice b n c:=by simpa[lM]using h.symm
def acZ (P:Program)(Γ : List OF)(T s:Nat)(x:Operand):Option (Nat×List Nat):=match apS Γ T s,apX P Γ T x with
 |some m,some ms=>if ms.contains m || !zo P T then none else some (m,ms)
 |_,_=>none
theorem Ef {size n m c:Nat}{r:Array Value}(h:(dO size n (.slice none m c)).run P w = .ok r w'):w'=w/\r = #[]:=by unfold dO at h;obtain⟨rfl,rfl⟩:=dU h;exact⟨rfl,rfl⟩
theorem OY (h:OW P F g dp Γ a w){T:Nat}{x:Operand}{ms:List Nat}(hx:apX P Γ T x=some ms){size n nx:Nat}{bx:Option Addr}{cx:Nat}(hxv:a.eval x = .slice bx nx cx){new:Array Value}(hn:(dO size n (a.eval x)).run P w = .ok new w')(hsz:size=qJ P T)(hnx:n<=nx) :
 ∃kx:Option Nat,(∀b,kx=some b->∃T m,g b=some (.arr T (.tag dp m))/\m∈ms)/\(∀j u T',new[j]? = some u->(j%qJ P T,T')∈kP P T->∃b,kx=some b/\GR g u T' (.blk b j))/\(kP P T=[]\/new.size=n*size):=by
 rcases Un h hx with⟨he,rfl⟩|⟨m,u,rfl,hu,hg⟩
 ·exact⟨none,λb hb=>(by cases hb),λj u T' _ ht=>(by rw[he]at ht;cases ht),.inl he⟩
 ·rw[hxv]at hu hn;have:=yj hu;subst this;rcases hg with e|⟨k,n',c',e,hk⟩
  ·cases e;obtain⟨_,rfl⟩:=Ef hn;exact⟨none,λb hb=>(by cases hb),λj u T' hj _=>(by simp at hj),.inr (by rw[Nat.le_zero.1 hnx];simp)⟩
  ·cases e;obtain⟨cs,e,hw,hc⟩:=h.good.arr _ _ _ hk.1;obtain⟨h1,h2,h3⟩:=Ee hw hn;exact⟨some k,λb hb=>(by cases hb;exact⟨T,m,hk.1,aK ..⟩),λj u T' hj ht=>⟨k,rfl,hc j u T' (by have hlt:=(bP.1 hj).1;rw[h2,hsz]at hlt;exact gQ hlt (aC _ (cZ hnx hk.2))) (h3 j u hj) ht⟩,.inr h2⟩
end
end
section
section
variable {P:Program} {F:JH} {g:Own} {dp:Nat} {Γ : List OF} {a:Act} {w w':World} {d N:Nat} {v:Value}
theorem Aa {size n:Nat}{x:Value}{r:Array Value}(h:(dO size n x).run P w = .ok r w'):w'=w:=by
 unfold dO at h;split at h
 ·unfold loadCells at h;exact(CZ _ _ _ _ _ _ h).1
 ·exact(dU h).2
 ·exact(dU h).2
 ·cases h
theorem OW.drew (h:OW P F g dp Γ a w):OW P F g dp Γ a w.drew:=h.world (aA _) λ_ _=>rfl
def Own.grow (g:Own)(k n:Nat):Own:=⟨g.b,λk'=>if k'=k then n else g.bd k'⟩
theorem GR.grow {u:Value}{T:Nat}{p:ru}{k n:Nat}(h:GR g u T p)(hn:g.bd k<=n):GR (g.grow k n) u T p:=by
 rcases h with h|⟨k',m,c,h1,h2,h3⟩
 ·exact .inl h
 ·refine .inr ⟨k',m,c,h1,h2,?_⟩;show m<=if k'=k then n else g.bd k'
  split
  ·rename_i e;subst e;exact cZ h3 hn
  ·exact h3
theorem OW.grow (h:OW P F g dp Γ a w){k n T:Nat}{p:ru}{cs:Array Value}{e:TypeId}(hw:w.heap[k]? = some (.cells cs e (0,0)))(hk:g k=some (.arr T p))(hn:g.bd k<=n)
 (hc:∀j u T',j<n*qJ P T->cs[j]? = some u->(j%qJ P T,T')∈kP P T->GR g u T' (.blk k j)):OW P F (g.grow k n) dp Γ a w:=by
 refine⟨⟨λk' T' p' hk'=>?_,λk' row d b hk'=>?_⟩,λf hf=>?_⟩
 ·by_cases e1:k'=k
  ·subst e1;have e2:g k'=some (.arr T' p'):=hk';rw[hk]at e2;cases e2;exact⟨cs,e,hw,λj u T' hb hu ht=>(hc j u T' (by simpa[Own.grow]using hb) hu ht).grow hn⟩
  ·obtain⟨cs',e',hw',h2⟩:=h.good.arr k' T' p' hk';exact⟨cs',e',hw',λj u T' hb hu ht=>(h2 j u T' (by simpa[Own.grow,e1]using hb) hu ht).grow hn⟩
 ·obtain⟨cs',e',hw',h2⟩:=h.good.var k' row d b hk';exact⟨cs',e',hw',λr hr=>let ⟨u,hu,hg⟩:=h2 r hr;⟨u,hu,hg.grow hn⟩⟩
 ·have h0:=h.fs f hf;cases f with
  |ref t r=>obtain⟨u,h1,h2⟩:=h0;exact⟨u,h1,h2.grow hn⟩
  |xP t i r=>obtain⟨vs,x,u,h1,h2,h3,h4⟩:=h0;exact⟨vs,x,u,h1,h2,h3,h4.grow hn⟩
  |_=>exact h0
theorem Rel.grow {k n T m:Nat}(hk:g k=some (.arr T (.tag dp m))):Rel dp N g (g.grow k n):=
 ⟨λk' T' d m' hd hk'=>⟨hk',by show(if k'=k then n else g.bd k')=g.bd k';rw[if_neg];rintro rfl;rw[hk]at hk';cases hk';omega⟩,λ_ _ _ _ _ h=>h,(Rel.refl dp N g).old⟩
theorem abq (h:OW P F g dp Γ a w)(hd:d<a.tmps.size){T m:Nat}{ms:List Nat}(hm:m ∉ ms){s:Nat}{sLen sCap need:Nat}{base:Option Addr}(hsv:a.tmps.getD s undef = .slice base sLen sCap)(hs:GR g (.slice base sLen sCap) T (.tag dp m))
 {kx:Option Nat} {new:Array Value} (h1:∀b,kx=some b->∃T m,g b=some (.arr T (.tag dp m))/\m∈ms) (h2:∀j u T',new[j]? = some u->(j%qJ P T,T')∈kP P T->∃b,kx=some b/\GR g u T' (.blk b j)) (hnd:kP P T=[]\/new.size=(need-sLen)*qJ P T) (hnl:sLen<=need) (hnc:base=none->need=0/\sCap=0)
 (hst:(match base with|some a=>storeCells (a.add (sLen*qJ P T)) new.toList|none=>pure ()).run P w = .ok () w') :
 ∃g',Rel dp N g g'/\OW P F g' dp (.ref d ⟨0,T,mk d 0⟩::(Γ.filter (yF (m::ms))).filter (AX d)) (a.put (some d) (.slice base need sCap)) w':=by
 rcases hs with e|⟨k,n',c',e,hk,hkb⟩
 ·cases e;obtain⟨rfl,_⟩:=hnc rfl;obtain⟨_,rfl⟩:=dU hst;have h3:=(h.ap (ms:=m) (md:=mk d 0) (dr:=ms) (ks:=none) (kx:=kx) (k:=0) (off:=0) (λb hb=>by cases hb) h1).drop d (.slice none 0 0);exact⟨_,Rel.ap,h3.add ⟨.slice none 0 0,by rw[dF hd];rfl,.inl rfl⟩⟩
 ·cases e
  dsimp only at hst
  rw[Addr.l7,dh]at hst;have h3:=h.ap (ms:=m) (md:=mk d 0) (dr:=ms) (ks:=none) (kx:=kx) (k:=k) (off:=sLen*qJ P T) (λb hb=>by cases hb) h1;have hk':(g.re (xk dp ms) (DW dp m (mk d 0) none kx k (sLen*qJ P T))) k=some (.arr T (.tag dp (mk d 0))):=by simp[Own.re,hk,xk,hm,DW]
  obtain⟨cs,e,hw,hc⟩:=h.good.arr _ _ _ hk;have hlim:∀j T',j<max (g.bd k) need*qJ P T->(j%qJ P T,T')∈kP P T->sLen*qJ P T+new.size<=j->j<g.bd k*qJ P T:=by
   intro j T' hj ht hge;rcases hnd with hnd|hnd
   ·rw[hnd]at ht;cases ht
   ·by_cases hm:need<=g.bd k
    ·rwa[Nat.max_eq_left hm]at hj
    ·rw[Nat.max_eq_right (by omega),show need=sLen+(need-sLen) by omega,bg]at hj;omega
  have Wn:∀j u T',j<g.bd k*qJ P T->cs[j]? = some u->(j%qJ P T,T')∈kP P T->GR (g.re (xk dp ms) (DW dp m (mk d 0) none kx k (sLen*qJ P T))) u T' (.blk k j):=by obtain⟨cs',e',hw',hold⟩:=h3.good.arr _ _ _ hk';rw[hw]at hw';cases hw';exact hold
  have fin:∀{w'':World} {cs2:Array Value},OW P F (g.re (xk dp ms) (DW dp m (mk d 0) none kx k (sLen*qJ P T))) dp (Γ.filter (yF (m::ms))) a w''->w''.heap[k]? = some (.cells cs2 e (0,0)) ->
   (∀j u T',j<max (g.bd k) need*qJ P T->cs2[j]? = some u->(j%qJ P T,T')∈kP P T->GR (g.re (xk dp ms) (DW dp m (mk d 0) none kx k (sLen*qJ P T))) u T' (.blk k j)) ->
   ∃g',Rel dp N g g'/\OW P F g' dp (.ref d ⟨0,T,mk d 0⟩::(Γ.filter (yF (m::ms))).filter (AX d)) (a.put (some d) (.slice (some ⟨k,0,none⟩) need sCap)) w'':=λh4 hw4 hc4=>
   ⟨_,Rel.ap.trans (Rel.grow hk'),((h4.grow hw4 hk' (yL _ _) hc4).drop d _).add ⟨.slice (some ⟨k,0,none⟩) need sCap,by rw[dF hd];rfl,.inr ⟨k,_,_,rfl,hk',by
    show need<=if k=k then max (g.bd k) need else _
    rw[if_pos rfl];exact Nat.le_max_right _ _⟩⟩⟩
  by_cases hne:new.toList=[]
  ·rw[hne]at hst;unfold storeCells at hst;obtain⟨_,rfl⟩:=dU hst;exact fin h3 hw λj u T' hj hu ht=>(by
    have hn0:new.size=0:=(by rw[<- iU,hne];rfl);by_cases hjs:j<sLen*qJ P T
    ·exact Wn j u T' (gQ hjs (aC _ hkb)) hu ht
    ·exact Wn j u T' (hlim j T' hj ht (by omega)) hu ht)
  ·obtain⟨hfit,rfl⟩:=EJ hw hst hne;have key:∀j u T',j<max (g.bd k) need*qJ P T->(splice cs.toList (sLen*qJ P T) new.toList).toArray[j]? = some u->(j%qJ P T,T')∈kP P T->GR (g.re (xk dp ms) (DW dp m (mk d 0) none kx k (sLen*qJ P T))) u T' (.blk k j):=?_
   ·refine fin (h3.QU hw λB hB=>?_) (setRow_heap w k cs _ e (0,0) hw) key;rw[hk']at hB;cases hB;exact⟨_,_,rfl,λj u T' hb=>key j u T' (gQ hb (aC _ (yL _ _)))⟩
   intro j u T' hjm hj ht;rw[A7 (by simpa using hfit)]at hj;by_cases hj1:j<sLen*qJ P T
   ·rw[if_pos hj1]at hj;exact Wn j u T' (gQ hj1 (aC _ hkb)) hj ht
   ·rw[if_neg hj1]at hj;by_cases hj2:j<sLen*qJ P T+new.size
    ·rw[if_pos hj2]at hj;have hmod:(j-sLen*qJ P T)%qJ P T=j%qJ P T:=by
      conv=>rhs;rw[show j=(j-sLen*qJ P T)+sLen*qJ P T by omega]
      rw[o5]
     rw[<- hmod]at ht;obtain⟨b,rfl,hgr⟩:=h2 _ u T' hj ht;have:=hgr.re (dr:=xk dp ms) rfl (DW dp m (mk d 0) none (some b) k (sLen*qJ P T));simp only[DW,reduceCtorEq,if_false,if_true]at this;rw[show sLen*qJ P T+(j-sLen*qJ P T)=j by omega]at this;exact this
    ·rw[if_neg hj2]at hj;exact Wn j u T' (hlim j T' hjm ht (by omega)) hj ht
theorem abp (h:OW P F g dp Γ a w)(hd:d<a.tmps.size)(hN:N<=w.heap.size){T e m need newCap:Nat}{ms:List Nat}(hm:m ∉ ms){sLen sCap:Nat}{base:Option Addr}(hs:GR g (.slice base sLen sCap) T (.tag dp m))
 {kx:Option Nat} {old new rest:Array Value} (h1:∀b,kx=some b->∃T m,g b=some (.arr T (.tag dp m))/\m∈ms) (h2:∀j u T',new[j]? = some u->(j%qJ P T,T')∈kP P T->∃b,kx=some b/\GR g u T' (.blk b j))
 (hold:(dO (qJ P T) sLen (.slice base sLen sCap)).run P w = .ok old w')
 (hrest:∀j u T',rest[j]? = some u->(j%qJ P T,T')∈kP P T->QB u) (ZG:kP P T=[]\/new.size=(need-sLen)*qJ P T) :
 ∃g',Rel dp N g g'/\OW P F g' dp (.ref d ⟨0,T,mk d 0⟩::(Γ.filter (yF (m::m::ms))).filter (AX d)) (a.put (some d) (.slice (some ⟨w.heap.size,0,none⟩) need newCap)) (w.alloc (.cells (old++new++rest) e)):=by
 have hks:∃ks:Option Nat,(∀b,ks=some b->∃T m',g b=some (.arr T (.tag dp m'))/\m'∈m::ms)/\(∀j u T',old[j]? = some u->(j%qJ P T,T')∈kP P T->∃b,ks=some b/\GR g u T' (.blk b j))/\old.size%qJ P T=0/\(∀b,ks=some b->kx≠some b):=by
  rcases hs with e|⟨k,n',c',e,hk,hkb⟩
  ·cases e;obtain⟨_,rfl⟩:=Ef hold;exact⟨none,λb hb=>(by cases hb),λj u T' hj _=>(by simp at hj),by simp,λb hb=>(by cases hb)⟩
  ·cases e;obtain⟨cs,e,hw,hc⟩:=h.good.arr _ _ _ hk;obtain⟨_,hsz,hget⟩:=Ee hw hold;refine⟨some k,λb hb=>(by cases hb;exact⟨T,m,hk,aK ..⟩),λj u T' hj ht=>⟨k,rfl,hc j u T' (by
    have hlt:=(bP.1 hj).1;rw[hsz]at hlt;exact gQ hlt (aC _ hkb)) (hget j u hj) ht⟩,by rw[hsz];simp,λb hb e=>?_⟩
   cases hb;obtain⟨T',m',h3,h4⟩:=h1 _ e;rw[hk]at h3;cases h3;exact hm h4
 obtain⟨ks,k1,k2,k3,k4⟩:=hks;have h3:=h.ap (ms:=m) (md:=mk d 0) (dr:=m::ms) (ks:=ks) (kx:=kx) (k:=w.heap.size) (off:=old.size) k1 (λb hb=>let ⟨T,m',e1,e2⟩:=h1 b hb;⟨T,m',e1,bW _ e2⟩);obtain⟨g',hrel,how⟩:=h3.abr (d:=d) (N:=N) (cs:=old++new++rest) (e:=e) (T:=T) (n:=need) (c:=newCap) (m:=mk d 0) hd hN (λj u T' hj ht=>by
  rw[Array.getElem?_append]at hj;split at hj
  ·rename_i hlt;rw[Array.getElem?_append]at hj;split at hj
   ·obtain⟨b,rfl,hgr⟩:=k2 j u T' hj ht;have:=hgr.re (dr:=xk dp (m::ms)) rfl (DW dp m (mk d 0) (some b) kx w.heap.size old.size);simp only[DW,if_true]at this;exact this
   ·rename_i hge;have hmod:(j-old.size)%qJ P T=j%qJ P T:=by
     have e1:j=(j-old.size)+old.size:=by omega
     conv=>rhs;rw[e1]
     rw[qC,k3,kN,Bc]
    rw[<- hmod]at ht;obtain⟨b,rfl,hgr⟩:=h2 _ u T' hj ht;have:=hgr.re (dr:=xk dp (m::ms)) rfl (DW dp m (mk d 0) ks (some b) w.heap.size old.size);simp only[DW,if_true]at this;rw[if_neg (λe=>k4 b e.symm rfl),show old.size+(j-old.size)=j by omega]at this;exact this
  ·rename_i hge;rcases ZG with ZG|ZG
   ·rw[ZG]at ht;cases ht
   refine .inl (hrest _ u T' hj ?_);have e1:j=(j-(old++new).size)+(old++new).size:=(by omega);have hmod:(j-(old++new).size)%qJ P T=j%qJ P T:=by
    conv=>rhs;rw[e1]
    rw[qC,show(old++new).size%qJ P T=0 by rw[Array.size_append,qC,k3,ZG];simp,kN,Bc]
   rw[hmod];exact ht)
 exact⟨g',Rel.ap.trans hrel,how⟩
theorem UK {q:Question}{n:Nat}(h:(choose q).run P w = .ok n w'):w'=w\/w'=w.drew:=by
 unfold choose at h;simp only[Sem.run]at h;split at h
 ·cases h;exact .inl rfl
 ·cases h;exact .inr rfl
theorem Uo (h:OW P F g dp Γ a w)(hd:d<a.tmps.size)(hN:N<=w.heap.size){o:Oper}{s T t2:Nat}{x:Operand}{e2 m:Nat}{ms:List Nat}(ho:o.op = .call { callee:=.builtin .append,args:=⟨[.tmp s,x]⟩,argTypes:=⟨[T,t2]⟩ })(ht2:P.underlying t2=some (.slice e2))(hok:acZ P Γ T s x=some (m,ms))
 (hr:(execOp a.eval o).run P w = .ok (.value v) w'):∃g',Rel dp N g g'/\OW P F g' dp (.ref d ⟨0,T,mk d 0⟩::(Γ.filter (yF (m::m::ms))).filter (AX d)) (a.put (some d) v) w':=by
 unfold acZ at hok;split at hok
 ·rename_i m0 ms0 hs hx;split at hok
  ·cases hok
  ·rename_i hcond;cases hok;simp only[eH,su,decide_eq_true_eq,gy,not_or,Bool.not_eq_false]at hcond;obtain⟨hm,hz⟩:=hcond;have hA:(fB #[T,t2] o.type #[a.tmps.getD s undef,a.eval x]).run P w = .ok v w':=by
    simp only[execOp,ho,resolve,invoke,builtin,bF,aX,aN,je,aP,gV]at hr;have e1:a.eval (.tmp s)=a.tmps.getD s undef:=rfl;rw[e1]at hr;cases hq:(fB #[T,t2] o.type #[a.tmps.getD s undef,a.eval x]).run P w with
    |ok v1 w1=>rw[hq]at hr;cases hr;rfl
    |halt e w1=>rw[hq]at hr;cases hr
   clear hr;obtain⟨u,hu,hgs⟩:=YY h hs;simp only[fB,jS,dY,dH]at hA;obtain⟨de,w1,h1,k1⟩:=bK hA;obtain⟨hut,rfl⟩:=vN h1;clear hA;split at k1
   ·rename_i elem;split at k1
    ·rename_i base sLen sCap hsv;obtain⟨size,w2,h2,k2⟩:=bK k1;obtain⟨i,hi,rfl,rfl⟩:=yI h2;clear k1;have hes:=UR hut hi;obtain⟨de2,w3,h3,k3⟩:=bK k2;obtain⟨hu2,rfl⟩:=vN h3;rw[ht2]at hu2;cases hu2;clear k2;obtain⟨zeros,w4,h4,k4⟩:=bK k3;obtain⟨rfl,rfl⟩:=dU h4;clear k3;simp only[Bool.false_eq_true,if_false,Bool.not_false,if_true]at k4;obtain⟨n,w5,h5,k5⟩:=bK k4;clear k4;rw[hsv]at hu;have hus:=yj hu;subst hus;have hlx:w5=w4/\((∃bx cx,a.eval x = .slice bx n cx)\/∃st,a.eval x = .string st):=by
      unfold lT at h5;split at h5
      ·rename_i b n' c heq;obtain⟨rfl,rfl⟩:=dU h5;exact⟨rfl,.inl ⟨_,_,heq⟩⟩
      ·rename_i st heq;obtain⟨rfl,rfl⟩:=dU h5;exact⟨rfl,.inr ⟨_,heq⟩⟩
      ·cases h5
     obtain⟨rfl,hxs⟩:=hlx;have hnc:∀{new:Array Value} {wn:World},(dO i.size n (a.eval x)).run P w5 = .ok new wn->∃kx:Option Nat,(∀b,kx=some b->∃T m,g b=some (.arr T (.tag dp m))/\m∈ms)/\(∀(j:Nat) (u:Value) (T':Nat),new[j]? = some u->(j%qJ P T,T')∈kP P T->∃b,kx=some b/\GR g u T' (.blk b j))/\(kP P T=[]\/new.size=n*i.size):=by
      intro new wn hn;rcases hxs with⟨bx,cx,hxv⟩|⟨st,hxv⟩
      ·exact OY h hx hxv hn hes.symm (aA _)
      ·rcases Un h hx with⟨he,rfl⟩|⟨m2,u2,rfl,hu2,hg2⟩
       ·exact⟨none,λb hb=>(by cases hb),λj u T' _ ht=>(by rw[he]at ht;cases ht),.inl he⟩
       ·rw[hxv]at hu2;simp only[lM]at hu2;have:u2 = .string st:=(by simpa using hu2.symm);subst this;rcases hg2 with e|⟨_,_,_,e,_⟩<;>cases e
     split at k5
     ·rename_i hcap;obtain⟨new,w6,h6,k6⟩:=bK k5;have e6:=Aa h6;subst e6;obtain⟨kx,c1,c2,c3⟩:=hnc h6;have hroom:=abq (N:=N) h hd (need:=sLen+n) hm hsv hgs c1 c2 (w':=w') (by rw[Nat.add_sub_cancel_left,hes];exact c3) (by omega) (λhb=>by
       subst hb;rcases hgs with e|⟨_,_,_,e,_⟩
       ·cases e;exact⟨by omega,rfl⟩
       ·cases e)
      cases base with
      | none=>
        dsimp only at k6
        obtain⟨rfl,rfl⟩:=dU k6;obtain⟨g',r1,r2⟩:=hroom (by dsimp only;rfl);refine⟨g',r1,r2.weak λf hf=>?_⟩;simp only[aB,aJ]at hf⊢;rcases hf with hf|⟨⟨h7,h8⟩,h9⟩
        ·exact .inl hf
        ·refine .inr ⟨⟨h7,?_⟩,h9⟩;unfold yF at h8⊢;split<;>simp_all
      | some ad=>
        dsimp only at k6
        obtain⟨u0,w7,h7,k7⟩:=bK k6;obtain⟨rfl,rfl⟩:=dU k7;rw[<- hes]at h7;obtain⟨g',r1,r2⟩:=hroom (by cases u0;exact h7);refine⟨g',r1,r2.weak λf hf=>?_⟩;simp only[aB,aJ]at hf⊢;rcases hf with hf|⟨⟨h7,h8⟩,h9⟩
        ·exact .inl hf
        ·refine .inr ⟨⟨h7,?_⟩,h9⟩;unfold yF at h8⊢;split<;>simp_all
     ·obtain⟨i1,w6,h6,k6⟩:=bK k5;obtain⟨_,rfl⟩:=BV h6;clear k5;split at k6
      ·obtain⟨_,_,h7,_⟩:=bK k6;exact(Ew h7).elim
      ·obtain⟨i2,w7,h7,k7⟩:=bK k6;obtain⟨_,rfl⟩:=BV h7;clear k6;split at k7
       ·obtain⟨_,_,h8,_⟩:=bK k7;obtain⟨_,_,_,h9⟩:=bK h8;split at h9
        ·obtain⟨_,_,_,h10⟩:=bK h9;cases h10
        ·cases h9
       ·obtain⟨newCap,w8,h8,k8⟩:=bK k7;have how:OW P F g dp Γ a w8/\w8.heap=w7.heap:=by
         rcases UK h8 with rfl|rfl
         ·exact⟨h,rfl⟩
         ·exact⟨h.drew,rfl⟩
        obtain⟨h',hheap⟩:=how;obtain⟨i3,w9,h9,k9⟩:=bK k8;obtain⟨_,rfl⟩:=BV h9;obtain⟨_,w10,h10,k10⟩:=bK k9;have:=VY h10;subst this;obtain⟨old,w11,h11,k11⟩:=bK k10;have:=Aa h11;subst this;obtain⟨new,w12,h12,k12⟩:=bK k11;have:=Aa h12;subst this;obtain⟨z,w13,h13,k13⟩:=bK k12;obtain⟨⟨i4,hi4,hzero⟩,rfl⟩:=Ir h13;rw[hi]at hi4;cases hi4;obtain⟨p,w14,h14,k14⟩:=bK k13;unfold newRow at h14;obtain⟨q,w15,h15,h16⟩:=bK h14;rw[run_newObj]at h15;cases h15;obtain⟨rfl,rfl⟩:=dU h16;obtain⟨rfl,rfl⟩:=dU k14;have hnc':∃kx:Option Nat,(∀b,kx=some b->∃T m,g b=some (.arr T (.tag dp m))/\m∈ms)/\(∀(j:Nat) (u:Value) (T':Nat),new[j]? = some u->(j%qJ P T,T')∈kP P T->∃b,kx=some b/\GR g u T' (.blk b j))/\(kP P T=[]\/new.size=n*i.size):=by
         rcases hxs with⟨bx,cx,hxv⟩|⟨st,hxv⟩
         ·exact OY h' hx hxv h12 hes.symm (aA _)
         ·rcases Un h' hx with⟨he,rfl⟩|⟨m2,u2,rfl,hu2,hg2⟩
          ·exact⟨none,λb hb=>(by cases hb),λj u T' _ ht=>(by rw[he]at ht;cases ht),.inl he⟩
          ·rw[hxv]at hu2;simp only[lM]at hu2;have:u2 = .string st:=(by simpa using hu2.symm);subst this;rcases hg2 with e|⟨_,_,_,e,_⟩<;>cases e
        obtain⟨kx,c1,c2,c3⟩:=hnc';rw[hsv,<- hes]at h11;rw[<- hes]at c3;exact abp h' hd (by rw[hheap];exact hN) hm hgs c1 c2 h11 (λj u T' hj ht=>BI hz hut hi hzero (λj u hj=>by simp only[Go.Builtin.zeroCells]at hj;rw[jT]at hj;simp only[bI]at hj;obtain⟨j',hj',rfl⟩:=hj;have:=bP.1 hj';simp at this;rw[this.2]) j u T' hj ht) (by rw[Nat.add_sub_cancel_left];exact c3)
    ·cases k1
   ·cases k1
 ·cases hok
end
end
section
section
variable {P:Program} {F:JH} {g:Own} {dp:Nat} {Γ : List OF} {a:Act} {w w':World} {d N:Nat} {v:Value}
theorem Y9 (h:OW P F g dp Γ a w){o:Oper}{s T t2:Nat}{x:Operand}{m:Nat}(ho:o.op = .call { callee:=.builtin .copy,args:=⟨[.tmp s,x]⟩,argTypes:=⟨[T,t2]⟩ })(hs:apS Γ T s=some m)(he:kP P T=[])
 (hr:(execOp a.eval o).run P w = .ok (.value v) w'):OW P F g dp Γ a w':=by
 have hA:(iQ #[T,t2] o.type #[a.tmps.getD s undef,a.eval x]).run P w = .ok v w':=by
  simp only[execOp,ho,resolve,invoke,builtin,bF,aX,aN,je,aP,gV]at hr;have e1:a.eval (.tmp s)=a.tmps.getD s undef:=rfl;rw[e1]at hr;cases hq:(iQ #[T,t2] o.type #[a.tmps.getD s undef,a.eval x]).run P w with
  |ok v1 w1=>rw[hq]at hr;cases hr;rfl
  |halt e w1=>rw[hq]at hr;cases hr
 clear hr;obtain⟨u,hu,hgs⟩:=YY h hs;simp only[iQ,jS,dY,dH]at hA;obtain⟨de,w1,h1,k1⟩:=bK hA;obtain⟨hut,rfl⟩:=vN h1;clear hA;split at k1
 ·rename_i elem;split at k1
  ·rename_i base dLen dCap hsv;rw[hsv]at hu;have hus:=yj hu;subst hus;obtain⟨n,w2,h2,k2⟩:=bK k1;have:w2=w1:=by
    unfold lT at h2;split at h2
    ·exact(dU h2).2
    ·exact(dU h2).2
    ·cases h2
   subst this;obtain⟨sz,w3,h3,k3⟩:=bK k2;obtain⟨i,hi,rfl,rfl⟩:=yI h3;obtain⟨cells,w4,h4,k4⟩:=bK k3;have:=Aa h4;subst this;clear k1 k2 k3;rcases hgs with e|⟨k,n',c',e,hk,_⟩
   ·cases e
    dsimp only at k4
    obtain⟨_,rfl⟩:=dU k4;exact h
   ·cases e
    dsimp only at k4
    obtain⟨u0,w5,h5,k5⟩:=bK k4;obtain⟨_,rfl⟩:=dU k5;obtain⟨cs,e,hw,hc⟩:=h.good.arr _ _ _ hk;by_cases hne:cells.toList=[]
    ·rw[hne]at h5;unfold storeCells at h5;obtain⟨_,rfl⟩:=dU h5;exact h
    ·obtain⟨_,rfl⟩:=EJ hw h5 hne;refine h.QU hw λB hB=>?_;rw[hk]at hB;cases hB;exact⟨_,_,rfl,λj u T' _ _ ht=>by rw[he]at ht;cases ht⟩
  ·cases k1
 ·cases k1
end
structure OR where
 kill:List Nat
 rm:Option (Nat×Nat×Nat)
 new:List OF
def Wp (d:Option Nat)(R:OR)(f:OF):Bool:=yF R.kill f&&(match R.rm with|some (b,o,k)=> !SE b o k f|none=>true)&&(match d with|some d=>AX d f|none=>true)
def WG (Γ : List OF)(d:Option Nat)(R:OR):List OF:=R.new ++ Γ.filter (Wp d R)
def VM (p:Nat):OF->Option (Nat×Nat)
 |.vp x b o=>if x=p then some (b,o)else none
 |_=>none
def aeE (p:Nat):OF->Option (Nat×Nat)
 |.ep x T o=>if x=p then some (T,o)else none
 |_=>none
def afe (P:Program)(Γ : List OF)(t p:Nat)(x:Operand):Option OR:=match P.info? t with
 | some i=>(match(Γ.filterMap (VM p)).head? with
   |some (b,o)=>some ⟨[],some (b,o,i.size),VE Γ b o i.size x⟩
   | none=>(match(Γ.filterMap (aeE p)).head? with
     |some (T,o)=>if Q4 P Γ T o i.size x then some ⟨Il (yR Γ 0 i.size x),none,[]⟩else none
     |none=>none))
 |none=>none
def afc (P:Program)(Γ : List OF)(d T s t2:Nat)(x:Operand):Option OR:=match P.underlying t2,acZ P Γ T s x with
 |some (.slice _),some (m,ms)=>some ⟨m::m::ms,none,[.ref d ⟨0,T,mk d 0⟩]⟩
 |_,_=>none
def afd (P:Program)(Γ : List OF)(T s:Nat):Option OR:=match apS Γ T s with
 |some _=>if(kP P T).isEmpty then some ⟨[],none,[]⟩else none
 |none=>none
def aau (P:Program)(Γ : List OF)(d:Option Nat)(op:Op):Option OR:=match op,d with
 |.store t (.tmp p) x,none=>afe P Γ t p x
 |.alloc t,some d=>some ⟨[],none,Rf d (rowOf d (KO P t))⟩
 |.box _ x,some d=>some ⟨[],none,Rf d (rowOf d (yR Γ 0 1000 x))⟩
 |.build t ps,some d=>some ⟨[],none,(rowOf d (PD P Γ t ps.toList)).map (.ref d)⟩
 |.makeSlice T _ _,some d=>if zo P T then some ⟨[],none,[.ref d ⟨0,T,mk d 0⟩]⟩else none
 |.buildSlice T len ps,some d=>if Le P Γ T len ps.toList then some ⟨Il (CJ P Γ T len ps.toList),none,[.ref d ⟨0,T,mk d 0⟩]⟩else none
 |.call { callee:=.builtin .append,args:=⟨[.tmp s,x]⟩,argTypes:=⟨[T,t2]⟩ },some d=>afc P Γ d T s t2 x
 |.call { callee:=.builtin .copy,args:=⟨[.tmp s,_]⟩,argTypes:=⟨[T,_]⟩ },_=>afd P Γ T s
 |op,some d=>if wE op then some ⟨[],none,oq P Γ d op⟩else none
 |_,none=>none
section
variable {P:Program} {F:JH} {g:Own} {dp:Nat} {Γ : List OF} {a:Act} {w w':World} {N:Nat} {v:Value}
theorem vK {d:Option Nat}{R:OR}{f:OF} : f∈WG Γ d R<->f∈R.new\/f ∈ Γ /\ Wp d R f=true:=by simp[WG,aJ]
theorem Tq (h:OW P F g dp Γ a w)(hN:N<=w.heap.size){o:Oper}{R:OR}(hd:∀d,o.dst=some d->d<a.tmps.size)(hs:aau P Γ o.dst o.op=some R)
 (hr:(execOp a.eval o).run P w = .ok (.value v) w'\/(execOp a.eval o).run P w = .ok .skip w'/\o.dst=none) (he:Eff o a w w') :
 ∃g',Rel dp N g g'/\OW P F g' dp (WG Γ o.dst R) (a.put o.dst v) w':=by
 have kp:∀{d:Option Nat} {R:OR} {f:OF},Wp d R f=true->yF R.kill f=true/\(∀b o k,R.rm=some (b,o,k)->SE b o k f=false)/\(∀d',d=some d'->AX d' f=true):=by
  intro d R f hk;simp only[Wp,af]at hk;refine⟨hk.1.1,λb o k e=>?_,λd' e=>?_⟩
  ·have:=hk.1.2;rw[e]at this;simpa using this
  ·have:=hk.2;rw[e]at this;exact this
 generalize hop:o.op=op at hs;generalize hdst:o.dst=dst at hs hd⊢;rw[hdst]at hr;unfold aau at hs;split at hs
 ·
  rename_i t p x;unfold afe at hs;split at hs
  ·rename_i i hi;have hrun:∃r,(execOp a.eval o).run P w = .ok r w':=hr.elim (λhr=>⟨_,hr⟩) (λhr=>⟨_,hr.1⟩);obtain⟨r,hrun⟩:=hrun;split at hs
   ·rename_i b off hvp;cases hs;have hm:=jB hvp;rw[bH]at hm;obtain⟨f,hf,hm⟩:=hm;unfold VM at hm;split at hm
    ·split at hm
     ·rename_i e;subst e;cases hm;obtain⟨g',h1,h2⟩:=Yw (N:=N) h hop hrun he hi hf;refine⟨g',h1,h2.weak λf hf=>?_⟩;rw[vK]at hf;rw[aV,aJ];rcases hf with hf|⟨hf,hk⟩
      ·exact .inl hf
      ·exact .inr ⟨hf,by rw[(kp hk).2.1 _ _ _ rfl];rfl⟩
     ·cases hm
    ·cases hm
   ·split at hs
    ·rename_i T off hep;split at hs
     ·rename_i hok;cases hs;have hm:=jB hep;rw[bH]at hm;obtain⟨f,hf,hm⟩:=hm;unfold aeE at hm;split at hm
      ·split at hm
       ·rename_i e;subst e;cases hm;obtain⟨g',h1,h2⟩:=Yv (N:=N) h hop hrun he hi hf hok;refine⟨g',h1,h2.weak λf hf=>?_⟩;rw[vK]at hf;rw[aJ];rcases hf with hf|⟨hf,hk⟩
        ·cases hf
        ·exact⟨hf,(kp hk).1⟩
       ·cases hm
      ·cases hm
     ·cases hs
    ·cases hs
  ·cases hs
 ·rename_i t d;cases hs;rcases hr with hr|hr
  ·obtain⟨g',h1,h2⟩:=Xk (N:=N) h (hd d rfl) hN hop hr;refine⟨g',h1,h2.weak λf hf=>?_⟩;rw[vK]at hf;rw[aV,aJ];rcases hf with hf|⟨hf,hk⟩
   ·exact .inl hf
   ·exact .inr ⟨hf,(kp hk).2.2 _ rfl⟩
  ·cases hr.2
 ·rename_i t x d;cases hs;rcases hr with hr|hr
  ·obtain⟨g',h1,h2⟩:=abt (N:=N) h (hd d rfl) hN hop hr;refine⟨g',h1,h2.weak λf hf=>?_⟩;rw[vK]at hf;rw[aV,aJ];rcases hf with hf|⟨hf,hk⟩
   ·exact .inl hf
   ·exact .inr ⟨hf,(kp hk).2.2 _ rfl⟩
  ·cases hr.2
 ·rename_i t ps d;cases hs;rcases hr with hr|hr
  ·have hw:w'=w:=he.quiet (by rw[hop];rfl);subst hw;refine⟨g,Rel.refl _ _ _,h.good,λf hf=>?_⟩;rw[vK]at hf;rcases hf with hf|⟨hf,hk⟩
   ·exact Xr h (hd d rfl) hop hr f hf
   ·exact(h.fs f hf).put' ((kp hk).2.2 _ rfl)
  ·cases hr.2
 ·rename_i T l c d;split at hs
  ·rename_i hz;cases hs;rcases hr with hr|hr
   ·obtain⟨g',h1,h2⟩:=aaf (N:=N) h (hd d rfl) hN hz hop hr;refine⟨g',h1,h2.weak λf hf=>?_⟩;rw[vK]at hf;rw[aB,aJ];rcases hf with hf|⟨hf,hk⟩
    ·exact .inl (by simpa using hf)
    ·exact .inr ⟨hf,(kp hk).2.2 _ rfl⟩
   ·cases hr.2
  ·cases hs
 ·rename_i T len ps d;split at hs
  ·rename_i hok;cases hs;rcases hr with hr|hr
   ·obtain⟨g',h1,h2⟩:=Uw (N:=N) h (hd d rfl) hN hok hop hr;refine⟨g',h1,h2.weak λf hf=>?_⟩;rw[vK]at hf;rw[aB,aJ,aJ];rcases hf with hf|⟨hf,hk⟩
    ·exact .inl (by simpa using hf)
    ·exact .inr ⟨⟨hf,(kp hk).1⟩,(kp hk).2.2 _ rfl⟩
   ·cases hr.2
  ·cases hs
 ·rename_i s x T t2 d;unfold afc at hs;split at hs
  ·rename_i e2 m ms ht2 hok;cases hs;rcases hr with hr|hr
   ·obtain⟨g',h1,h2⟩:=Uo (N:=N) h (hd d rfl) hN hop ht2 hok hr;refine⟨g',h1,h2.weak λf hf=>?_⟩;rw[vK]at hf;rw[aB,aJ,aJ];rcases hf with hf|⟨hf,hk⟩
    ·exact .inl (by simpa using hf)
    ·exact .inr ⟨⟨hf,(kp hk).1⟩,(kp hk).2.2 _ rfl⟩
   ·cases hr.2
  ·cases hs
 ·rename_i d0 s x T t2;unfold afd at hs;split at hs
  ·rename_i m hm;split at hs
   ·rename_i hemp;cases hs;have hcopy:(execOp a.eval o).run P w = .ok (.value v) w'->OW P F g dp Γ a w':=λhr=>Y9 h hop hm (List.isEmpty_iff.1 hemp) hr;rcases hr with hr|hr
    ·have h2:=hcopy hr;refine⟨g,Rel.refl _ _ _,h2.good,λf hf=>?_⟩;rw[vK]at hf;rcases hf with hf|⟨hf,hk⟩
     ·cases hf
     ·cases dst with
      |none=>exact h2.fs f hf
      |some d=>exact(h2.fs f hf).put' ((kp hk).2.2 _ rfl)
    ·exfalso;have:=hr.1;simp only[execOp,hop,resolve,invoke,builtin,bF,aX,aN]at this;cases hq:(iQ #[T,t2] o.type (Array.map a.eval #[.tmp s,x])).run P w<;>rw[hq]at this<;>cases this
   ·cases hs
  ·cases hs
 ·split at hs
  ·rename_i hq;cases hs;have hw:w'=w:=he.quiet (by rw[hop];exact hq);subst hw;rcases hr with hr|hr
   ·refine⟨g,Rel.refl _ _ _,h.good,λf hf=>?_⟩;rw[vK]at hf;rcases hf with hf|⟨hf,hk⟩
    ·exact aat h (hd _ rfl) hr f (by rw[hop];exact hf)
    ·exact(h.fs f hf).put' ((kp hk).2.2 _ rfl)
   ·cases hr.2
  ·cases hs
 ·cases hs
end
end
section
section
variable {P:Program} {F:JH} {g g':Own} {dp:Nat} {Γ : List OF} {a:Act} {w w':World} {N:Nat} {v:Value}
theorem yw.rel {f:OF}(h:yw P F g dp a w f)(hr:Rel (dp+1) w.heap.size g g')(hs:w.heap.size<=w'.heap.size):yw P F g' dp a w' f:=by
 have gr:∀{u T m},GR g u T (.tag dp m)->GR g' u T (.tag dp m):=λh=>by
  rcases h with h|⟨k,n,c,h1,h2⟩
  ·exact .inl h
  ·have q:=hr.tag _ _ _ _ (uS _) h2.1;exact .inr ⟨k,n,c,h1,q.1,by rw[q.2];exact h2.2⟩
 have old:∀{k T:Nat} {X:Prop},k<w.heap.size->(∀B,g k=some B->(∃p,B = .arr T p)/\X)->∀B,g' k=some B->(∃p,B = .arr T p)/\X:=by intro k T X hk hold B' hB';obtain⟨B,h1,h2⟩:=hr.old k B' hk hB';obtain⟨⟨p,rfl⟩,hx⟩:=hold B h1;obtain⟨q,q',e1,e2⟩:=h2 T p (.inl rfl);exact⟨⟨q',e2⟩,hx⟩
 cases f with
 | sr t T=>
   rcases h with h|⟨k,o,n,c,h1,h2,h3⟩
   ·exact .inl h
   ·exact .inr ⟨k,o,n,c,h1,gQ h2 hs,old h2 h3⟩
 |ep t T off=>obtain⟨k,o,h1,h2,h3⟩:=h;exact⟨k,o,h1,gQ h2 hs,old h2 h3⟩
 |vp t b off=>obtain⟨k,row,h1,h2,h3⟩:=h;exact⟨k,row,h1,h2,hr.var _ _ _ _ (uS _) h3⟩
 |ref t r=>obtain⟨u,h1,h2⟩:=h;exact⟨u,h1,gr h2⟩
 |xP t i r=>obtain⟨vs,x,u,h1,h2,h3,h4⟩:=h;exact⟨vs,x,u,h1,h2,h3,gr h4⟩
 |row b r=>obtain⟨k,row,h1,h2,h3⟩:=h;exact⟨k,row,h1,hr.var _ _ _ _ (uS _) h2,h3⟩
 |fn t s=>exact h
theorem Rel.down (h:Rel (dp+1) N g g'):Rel dp N g g':=
 ⟨λk T d m hd=>h.tag k T d m (Nat.lt_succ_of_lt hd),λk row d b hd=>h.var k row d b (Nat.lt_succ_of_lt hd),h.old⟩
theorem Good.FT (h:Good P g w){k:Nat}{row row':List Ref}{d b d' b':Nat}(hk:g k=some (.var row d b))(hc:∀cs e,w.heap[k]? = some (.cells cs e (0,0))->∀r,r∈row'->∃u,cs[r.off]? = some u/\GR g u r.ty (.tag d' r.m)):Good P (g.upd k (.var row' d' b')) w:=by
 have ho:∀{k'},k'≠k->(g.upd k (.var row' d' b')) k'=g k':=λhne=>by simp[qw,hne]
 have hg:(g.upd k (.var row' d' b')) k=some (.var row' d' b'):=if_pos rfl;refine⟨λk' T p hk'=>?_,λk' FC d2 b2 hk'=>?_⟩
 ·by_cases hkk:k'=k
  ·subst hkk;rw[hg]at hk';cases hk'
  ·rw[ho hkk]at hk';obtain⟨c,e,h1,h2⟩:=h.arr k' T p hk';exact⟨c,e,h1,λj u T' hb hu ht=>(h2 j u T' (by rwa[xZ,if_neg hkk]at hb) hu ht).Jz hk⟩
 ·by_cases hkk:k'=k
  ·subst hkk;rw[hg]at hk';cases hk';obtain⟨cs,e,h1,_⟩:=h.var _ _ _ _ hk;exact⟨cs,e,h1,λr hr=>let ⟨u,hu,hgr⟩:=hc cs e h1 r hr;⟨u,hu,hgr.Jz hk⟩⟩
  ·rw[ho hkk]at hk';obtain⟨c,e,h1,h2⟩:=h.var k' FC d2 b2 hk';exact⟨c,e,h1,λr hr=>let ⟨u,hu,hgr⟩:=h2 r hr;⟨u,hu,hgr.Jz hk⟩⟩
def abZ (b:Nat):OF->Bool
 |.vp _ b' _=>b' != b
 |.row b' _=>b' != b
 |_=>true
theorem yw.FT {f:OF}(h:yw P F g dp a w f){k:Nat}{row row':List Ref}{d b d' b':Nat}(hk:g k=some (.var row d b))(hf:d=dp->abZ b f=true):yw P F (g.upd k (.var row' d' b')) dp a w f:=by
 have ho:∀{k'},k'≠k->(g.upd k (.var row' d' b')) k'=g k':=λhne=>by simp[qw,hne]
 have old:∀{k' T:Nat} {X:Prop},(∀B,g k'=some B->(∃p,B = .arr T p)/\X)->∀B,(g.upd k (.var row' d' b')) k'=some B->(∃p,B = .arr T p)/\X:=by
  intro k' T X hold B hB;by_cases hkk:k'=k
  ·subst hkk;obtain⟨⟨p,e⟩,_⟩:=hold _ hk;cases e
  ·rw[ho hkk]at hB;exact hold B hB
 cases f with
 | sr t T=>
   rcases h with h|⟨k',o,n,c,h1,h2,h3⟩
   ·exact .inl h
   ·exact .inr ⟨k',o,n,c,h1,h2,old h3⟩
 |ep t T off=>obtain⟨k',o,h1,h2,h3⟩:=h;exact⟨k',o,h1,h2,old h3⟩
 | vp t b2 off=>
   obtain⟨k',FC,h1,h2,h3⟩:=h;refine⟨k',FC,h1,h2,?_⟩;rw[ho]
   ·exact h3
   ·rintro rfl;rw[hk]at h3;cases h3;have:=hf rfl;simp[abZ]at this
 |ref t r=>obtain⟨u,h1,h2⟩:=h;exact⟨u,h1,h2.Jz hk⟩
 |xP t i r=>obtain⟨vs,x,u,h1,h2,h3,h4⟩:=h;exact⟨vs,x,u,h1,h2,h3,h4.Jz hk⟩
 | row b2 r=>
   obtain⟨k',FC,h1,h2,h3⟩:=h;refine⟨k',FC,h1,?_,h3⟩;rw[ho]
   ·exact h2
   ·rintro rfl;rw[hk]at h2;cases h2;have:=hf rfl;simp[abZ]at this
 |fn t s=>exact h
theorem Rel.FT {k:Nat}{row row':List Ref}{d b d' b':Nat}(hk:g k=some (.var row d b))(hd:dp<=d):Rel dp N g (g.upd k (.var row' d' b')):=by
 refine⟨λk' T d2 m hd2 hx=>?_,λk' FC d2 b2 hd2 hx=>?_,λk' B' hlt hB=>?_⟩
 ·have hne:k'≠k:=λe=>by subst e;rw[hk]at hx;cases hx
  rw[qw,xZ,if_neg hne,if_neg hne];exact⟨hx,rfl⟩
 ·rw[qw];rw[if_neg (λe=>by subst e;rw[hk]at hx;cases hx;omega)];exact hx
 ·rw[qw]at hB;split at hB
  ·rename_i e;subst e;cases hB;exact⟨_,hk,λT p hb=>by rcases hb with e|e<;>cases e⟩
  ·exact(Rel.refl dp N g).old k' B' hlt hB
end
def aaO (Γ : List OF)(s o T:Nat):Option Nat:=(Γ.filterMap λf=>match f with
 |.ref y r=>if y=s/\r.off=o/\r.ty=T then some r.m else none
 |_=>none).head?
def NH (Γ : List OF)(b o T:Nat):Option Nat:=(Γ.filterMap λf=>match f with
 |.row y r=>if y=b/\r.off=o/\r.ty=T then some r.m else none
 |_=>none).head?
def IG {α β:Type}(f:α->Option β):List α->Option (List β)
 |[]=>some []
 | x::r=>match f x,IG f r with
   |some y,some ys=>some (y::ys)
   |_,_=>none
theorem yz {α β:Type}{f:α->Option β} : ∀{l:List α} {ys:List β},IG f l=some ys->∀x,x∈l->∃y,f x=some y/\y∈ys
 | x::r,ys,h,z,hz=>by
   simp only[IG]at h;split at h
   ·rename_i y ys' h1 h2;cases h;rcases aB.1 hz with rfl|hz
    ·exact⟨y,h1,aK ..⟩
    ·obtain⟨y',h3,h4⟩:=yz h2 z hz;exact⟨y',h3,bW _ h4⟩
   ·cases h
def Px (Γ : List OF)(i:Nat)(x:Operand):PK->Option (List (Nat×Nat)×Option Nat)
 |.any=>some ([],none)
 | .own rs=>(match x with
   |.tmp s=>(IG (λe:Nat×Nat=>(aaO Γ s e.1 e.2).map λm=>(m,i*20+e.1)) rs).map λl=>(l,none)
   |_=>none)
 | .var rs=>(match x with
   | .tmp s=>(match(Γ.filterMap (VM s)).head? with
     |some (b,0)=>(IG (λe:Nat×Nat=>(NH Γ b e.1 e.2).map λm=>(m,i*20+e.1)) rs).map λl=>(l,some b)
     |_=>none)
   |_=>none)
 | .fn s=>(match x with
   |.tmp t=>if Γ.contains (.fn t s)then some ([],none)else none
   |.func f=>if kindOf f = .rd/\s=0 then some ([],none)else none
   |_=>none)
section
variable {P:Program} {F:JH} {g g':Own} {dp:Nat} {Γ : List OF} {a:Act} {w w':World} {N:Nat} {v:Value}
theorem TQ (h:OW P F g dp Γ a w){s o T m:Nat}(ht:aaO Γ s o T=some m):∃u,(a.tmps.getD s undef).cells[o]? = some u/\GR g u T (.tag dp m):=by
 have:=jB ht;rw[bH]at this;obtain⟨f,hf,hm⟩:=this;split at hm
 ·split at hm
  ·rename_i y r hc;obtain⟨rfl,rfl,rfl⟩:=hc;cases hm;exact h.fs _ hf
  ·cases hm
 ·cases hm
theorem Jv (h:OW P F g dp Γ a w){b o T m:Nat}(ht:NH Γ b o T=some m):∃k row,a.tmps.getD b undef = .pointer (some ⟨k,0,none⟩)/\g k=some (.var row dp b)/\⟨o,T,m⟩∈row:=by
 have:=jB ht;rw[bH]at this;obtain⟨f,hf,hm⟩:=this;split at hm
 ·split at hm
  ·rename_i y r hc;obtain⟨rfl,rfl,rfl⟩:=hc;cases hm;exact h.fs _ hf
  ·cases hm
 ·cases hm
end
end
section
def zJ (Γ : List OF):Nat->List Operand->List PK->Option (List (Nat×Nat)×List (Nat×Nat))
 |_,[],ps=>if ps.all (· == .any)then some ([],[])else none
 | i,x::xs,p::ps=>match Px Γ i x p,zJ Γ (i+1) xs ps with
   |some (l,o),some (l',o')=>some (l++l',(match o with|some b=>[(i,b)]|none=>[])++o')
   |_,_=>none
 |_,_::_,[]=>none
def AL (l:List Nat):Bool:=match l with
 |[]=>true
 |x::r=> !r.contains x&&AL r
def NL (ps:List PK)(i:Nat):List (Nat×Nat):=match ps[i]? with
 |some (.var rs)=>rs
 |_=>[]
structure CR where
 kill:List Nat
 rv:Option Nat
 new:List OF
def ZU (d:Option Nat)(R:CR)(f:OF):Bool:=yF R.kill f&&(match R.rv with|some b=>abZ b f|none=>true)&&(match d with|some d=>AX d f|none=>true)
def Oz (Γ : List OF)(d:Option Nat)(R:CR):List OF:=R.new ++ Γ.filter (ZU d R)
def ab5 (rs:List (List (Nat×Nat)))(d:Nat):List OF:=match rs with
 |[r]=>r.map λe=>.ref d ⟨e.1,e.2,mk d e.1⟩
 |l=>(l.zipIdx).flatMap λp=>p.1.map λe=>.xP d p.2 ⟨e.1,e.2,mk d (p.2*20+e.1)⟩
def aaE (rs:List (Nat×Nat))(d:Nat):List Ref:=rs.map λe=>⟨e.1,e.2,mk d (60+e.1)⟩
def uY (dp:Nat)(rs:List (List (Nat×Nat)))(vr:List (Nat×Nat))(i d d':Nat):List (Nat×ru):=
 (match rs with
  |[r]=>r.map λe=>(20000+e.1,.tag dp (mk d e.1))
  |l=>(l.zipIdx).flatMap λp=>p.1.map λe=>(20000+p.2*20+e.1,.tag dp (mk d (p.2*20+e.1)))) ++
 vr.map λe=>(30000+i*20+e.1,.tag dp (mk d' (60+e.1)))
def JR (Γ : List OF)(sg:Rk)(xs:List Operand)(d:Option Nat):Option CR:=match zJ Γ 0 xs sg.ps with
 | some (mv,vars)=>if !AL (mv.map (·.1))then none else match vars with
   |[]=>if !AL ((uY 0 sg.rs [] 0 (d.getD 97) (d.getD 97)).map (·.1))then none else some ⟨mv.map (·.1),none,match d with|some d=>ab5 sg.rs d|none=>[]⟩
   |[(i,b)]=>if d==some b || !AL ((uY 0 sg.rs (NL sg.ps i) i (d.getD 97) (d.getD 97)).map (·.1))then none else some ⟨mv.map (·.1),some b,.vp b b 0::(aaE (NL sg.ps i) (d.getD 97)).map (.row b)++match d with|some d=>ab5 sg.rs d|none=>[]⟩
   |_=>none
 |none=>none
section
variable {P:Program} {g g':Own} {dp:Nat} {Γ : List OF} {a:Act} {w w':World} {N:Nat} {v:Value}
theorem AP {l:List Nat}(h:AL l=true):l.Nodup:=by
 induction l with
 |nil=>exact List.nodup_nil
 | cons x r ih=>simp only[AL,af,gy,su,decide_eq_false_iff_not]at h;exact sF.2 ⟨h.1,ih h.2⟩
theorem Ad {β:Type}{m:Nat}{q:β} : ∀{l:List (Nat×β)},(l.map (·.1)).Nodup->(m,q)∈l->l.lookup m=some q
 | (k,b)::r,hn,h=>by
   simp only[aP,sF]at hn;simp only[List.lookup];rcases aB.1 h with e|h'
   ·cases e;simp
   ·have hne:(m==k)=false:=by
     rw[beq_eq_false_iff_ne];intro e;exact hn.1 (aF.2 ⟨(m,q),h',e⟩)
    rw[hne];exact Ad hn.2 h'
theorem Ry : ∀{xs:List Operand} {ps:List PK} {i:Nat} {mv vars:List (Nat×Nat)},zJ Γ i xs ps=some (mv,vars)->∀(j:Nat) (p:PK),ps[j]? = some p ->
 (p = .any)\/∃x l o,xs[j]? = some x/\Px Γ (i+j) x p=some (l,o)/\(∀e,e∈l->e∈mv)/\(∀b,o=some b->(i+j,b)∈vars)
 | [],ps,i,mv,vars,h,j,p,hp=>by
   simp only[zJ]at h;split at h
   ·rename_i hall;rw[aH]at hall;exact .inl (by simpa using hall p (dL hp))
   ·cases h
 | x::xs,q::ps,i,mv,vars,h,j,p,hp=>by
   simp only[zJ]at h;split at h
   ·rename_i l o l' o' h1 h2;cases h;cases j with
    | zero=>simp at hp;subst hp;refine .inr ⟨x,l,o,rfl,h1,λe he=>bG _ he,λb hb=>?_⟩;subst hb;exact bG _ (aK ..)
    | succ j=>
      rcases Ry h2 j p (by simpa using hp)with h3|⟨y,l2,o2,h3,h4,h5,h6⟩
      ·exact .inl h3
      ·refine .inr ⟨y,l2,o2,by simpa using h3,by rw[show i+(j+1)=i+1+j by omega];exact h4,λe he=>bU _ (h5 e he),λb hb=>?_⟩;rw[show i+(j+1)=i+1+j by omega];exact bU _ (h6 b hb)
   ·cases h
 |_::_,[],i,mv,vars,h,j,p,hp=>by simp[zJ]at h
def zl (dp:Nat)(mv:List (Nat×Nat)):List (Nat×ru):=mv.map λe=>(e.1,.tag (dp+1) e.2)
theorem NJ (dp:Nat)(mv:List (Nat×Nat)):(zl dp mv).map (·.1)=mv.map (·.1):=by simp[zl]
theorem GR.there {mv:List (Nat×Nat)}(hn:(mv.map (·.1)).Nodup){u:Value}{T m t:Nat}(h:GR g u T (.tag dp m))(hm:(m,t)∈mv):GR (g.mv dp (zl dp mv)) u T (.tag (dp+1) t):=
 h.mv (Ad (by rw[NJ];exact hn) (by rw[zl,aF];exact⟨_,hm,rfl⟩))
theorem aaj {ps:List PK}{f:OF}(h:f∈Kr ps):∃j p,ps[j]? = some p/\((∃rs,p = .own rs/\∃e,e∈rs/\f = .ref j ⟨e.1,e.2,j*20+e.1⟩) \/
 (∃rs,p = .var rs/\(f = .vp j j 0\/∃e,e∈rs/\f = .row j ⟨e.1,e.2,j*20+e.1⟩))\/∃s,p = .fn s/\f = .fn j s):=by
 rw[Kr,iw]at h;obtain⟨q,hq,hf⟩:=h;obtain⟨p,j⟩:=q;have hj:=jf.1 hq;simp only at hj;refine⟨j,p,by simpa using hj,?_⟩;cases p with
 |any=>cases hf
 |own rs=>rw[aF]at hf;obtain⟨e,he,rfl⟩:=hf;exact .inl ⟨rs,rfl,e,he,rfl⟩
 | var rs=>
   rw[aB,aF]at hf;rcases hf with rfl|⟨e,he,rfl⟩
   ·exact .inr (.inl ⟨rs,rfl,.inl rfl⟩)
   ·exact .inr (.inl ⟨rs,rfl,.inr ⟨e,he,rfl⟩⟩)
 |fn s=>exact .inr (.inr ⟨s,rfl,by simpa using hf⟩)
theorem SG (h:OW P FV g dp Γ a w){xs:List Operand}{ps:List PK}{mv vars:List (Nat×Nat)}{ex:List Value}(ha:zJ Γ 0 xs ps=some (mv,vars))(hn:(mv.map (·.1)).Nodup){g2:Own}
 (hgr:∀{u:Value} {T:Nat} {p:ru},GR (g.mv dp (zl dp mv)) u T p->GR g2 u T p)
 (hv:∀i b rs,(i,b)∈vars->ps[i]? = some (.var rs)->∃k row,a.tmps.getD b undef = .pointer (some ⟨k,0,none⟩)/\g2 k=some (.var row (dp+1) i)/\∀e,e∈rs->⟨e.1,e.2,i*20+e.1⟩∈row)
 (f:OF) (hf:f∈Kr ps):yw P FV g2 (dp+1) { tmps:=(xs.map a.eval++ex).toArray,defers:=[] } w f:=by
 obtain⟨j,p,hj,hf⟩:=aaj hf;have hget:∀x,xs[j]? = some x->((xs.map a.eval++ex).toArray).getD j undef=a.eval x:=λx hx=>by rw[bQ,jS,aU (by rw[nX];exact(ax.1 hx).1),bn,hx];rfl
 have hq:=Ry ha j p hj;rw[dh]at hq;rcases hf with⟨rs,rfl,e,he,rfl⟩|⟨rs,rfl,hf⟩|⟨s,rfl,rfl⟩
 ·rcases hq with hq|⟨x,l,o,hx,harg,hl,_⟩
  ·cases hq
  ·simp only[Px]at harg;split at harg
   ·rename_i s;simp only[bI]at harg;obtain⟨l',hl',heq⟩:=harg;cases heq;obtain⟨y,hy,hyl⟩:=yz hl' e he;simp only[bI]at hy;obtain⟨m,hm,rfl⟩:=hy;obtain⟨u,hu,hg⟩:=TQ h hm;refine⟨u,?_,hgr (hg.there hn (hl _ hyl))⟩;rw[hget _ hx];exact hu
   ·cases harg
 ·rcases hq with hq|⟨x,l,o,hx,harg,hl,ho⟩
  ·cases hq
  ·simp only[Px]at harg;split at harg
   ·rename_i s;split at harg
    ·rename_i b hvp;simp only[bI]at harg;obtain⟨l',hl',heq⟩:=harg;cases heq;have hm:=jB hvp;rw[bH]at hm;obtain⟨f0,hf0,hm⟩:=hm;unfold VM at hm;split at hm
     ·split at hm
      ·rename_i e1;subst e1;cases hm;obtain⟨k0,row0,e2,e3,e4⟩:=h.fs _ hf0;obtain⟨k,row,e5,e6,e7⟩:=hv j b rs (ho b rfl) hj;rw[e2]at e5;cases e5;have hx':=hget _ hx;have e8:((xs.map a.eval++ex).toArray).getD j undef = .pointer (some ⟨k0,0,none⟩):=(by rw[hx'];exact e3);rcases hf with rfl|⟨e,he,rfl⟩
       ·exact⟨k0,row,e8,e8,e6⟩
       ·exact⟨k0,row,e8,e6,e7 e he⟩
      ·cases hm
     ·cases hm
    ·cases harg
   ·cases harg
 ·rcases hq with hq|⟨x,l,o,hx,harg,_,_⟩
  ·cases hq
  ·simp only[Px]at harg;split at harg
   ·rename_i t;split at harg
    ·rename_i hc;have hc:=gm.1 hc;obtain⟨f,caps,h1,h2⟩:=h.fs _ hc;exact⟨f,caps,by rw[hget _ hx];exact h1,h2⟩
    ·cases harg
   ·rename_i f;split at harg
    ·rename_i hc;exact⟨f,#[],by rw[hget _ hx];rfl,by rw[hc.2];exact hc.1⟩
    ·cases harg
   ·cases harg
end
end
section
section
variable {P:Program} {g g':Own} {dp:Nat} {Γ : List OF} {a:Act} {w w':World} {N:Nat} {v:Value}
theorem Xo (dp:Nat)(rs:List (List (Nat×Nat)))(vr:List (Nat×Nat))(i d d':Nat):(uY dp rs vr i d d').map (·.1)=(uY 0 rs vr i d d').map (·.1):=by
 unfold uY;rw[mG,mG]
 congr 1
 ·split
  ·simp
  ·rw[List.map_flatMap,List.map_flatMap]
   congr 1
   funext p
   simp
 ·simp
theorem GR.back {rs:List (List (Nat×Nat))}{vr:List (Nat×Nat)}{i d d':Nat}(hn:AL ((uY 0 rs vr i d d').map (·.1))=true){u:Value}{T m:Nat}{q:ru}(h:GR g u T (.tag (dp+1) m))(hm:(m,q)∈uY dp rs vr i d d') :
 GR (g.mv (dp+1) (uY dp rs vr i d d')) u T q:=
 h.mv (Ad (by rw[Xo];exact AP hn) hm)
theorem O5 {sg:Rk}{vs:List Value}(hout:OW P FV g' (dp+1) (MR sg vs.length) { tmps:=(vs++[v]).toArray,defers:=[] } w'){vr:List (Nat×Nat)}{i d d':Nat}(hn:AL ((uY 0 sg.rs vr i d d').map (·.1))=true)(hd:d<a.tmps.size){g4:Own}
 (hgr:∀{u:Value} {T:Nat} {p:ru},GR (g'.mv (dp+1) (uY dp sg.rs vr i d d')) u T p->GR g4 u T p) (f:OF) (hf:f∈ab5 sg.rs d):yw P FV g4 dp (a.put (some d) v) w' f:=by
 have hv:((vs++[v]).toArray).getD vs.length undef=v:=by rw[bQ,jS];simp
 have hs:=dF (v:=v) hd;unfold ab5 at hf;split at hf
 ·rename_i r hrs;rw[aF]at hf;obtain⟨e,he,rfl⟩:=hf;have:=hout.fs (.ref vs.length ⟨e.1,e.2,20000+e.1⟩) (by
   rw[MR,Tt,hrs];exact bG _ (aF.2 ⟨e,he,rfl⟩))
  obtain⟨u,hu,hg⟩:=this;rw[hv]at hu;refine⟨u,by rw[hs];exact hu,hgr (hg.back hn ?_)⟩;unfold uY;rw[hrs];exact bG _ (aF.2 ⟨e,he,rfl⟩)
 ·rename_i hne;rw[iw]at hf;obtain⟨q,hq,hf⟩:=hf;rw[aF]at hf;obtain⟨e,he,rfl⟩:=hf;have:=hout.fs (.xP vs.length q.2 ⟨e.1,e.2,20000+q.2*20+e.1⟩) (by
   rw[MR];refine bG _ ?_;unfold Tt;split
   ·rename_i r hr;exact absurd hr (hne r)
   ·rw[iw];exact⟨q,hq,aF.2 ⟨e,he,rfl⟩⟩)
  obtain⟨us,x,u,h1,h2,h3,hg⟩:=this;rw[hv]at h1;refine⟨us,x,u,by rw[hs];exact h1,h2,h3,hgr (hg.back hn ?_)⟩;unfold uY;refine bG _ ?_;split
  ·rename_i r hr;exact absurd hr (hne r)
  ·rw[iw];exact⟨q,hq,aF.2 ⟨e,he,rfl⟩⟩
theorem SK {mv:List (Nat×ru)}{f:OF} : ZV dp (λ_=>false) (H8 (dp+1) mv) f:=λm _=>⟨rfl,by simp only[H8];rw[if_neg (by omega)]⟩
theorem Rel.afa (mv:List (Nat×ru)):Rel dp N g (g.mv (dp+1) mv):=Rel.re λd m h=>⟨rfl,by simp only[H8];rw[if_neg (by omega)]⟩
theorem Good.mv (h:Good P g w)(dp:Nat)(mv:List (Nat×ru)):Good P (g.mv dp mv) w:=h.re λ_ _ _ _ _ _=>⟨rfl,rfl⟩
theorem Vj {mv:List (Nat×ru)}{k d b:Nat}{row:List Ref}(h:g k=some (.var row d b)):∃row',(g.mv dp mv) k=some (.var row' d b):=by rw[Own.mv,Na];rw[h];exact⟨_,rfl⟩
theorem aaW {ps:List PK}{i:Nat}{rs:List (Nat×Nat)}(h:ps[i]? = some (.var rs)):NL ps i=rs:=by simp[NL,h]
theorem F8 : ∀{xs:List Operand} {ps:List PK} {i:Nat} {mv vars:List (Nat×Nat)},zJ Γ i xs ps=some (mv,vars)->∀j b,(j,b)∈vars->∃rs x s,ps[j-i]? = some (.var rs)/\i<=j/\xs[j-i]? = some x/\x = .tmp s/\OF.vp s b 0 ∈ Γ /\ ∀e,e∈rs->∃m,NH Γ b e.1 e.2=some m/\(m,j*20+e.1)∈mv
 | [],ps,i,mv,vars,h,j,b,hb=>by
   simp only[zJ]at h;split at h
   ·cases h;cases hb
   ·cases h
 | x::xs,q::ps,i,mv,vars,h,j,b,hb=>by
   simp only[zJ]at h;split at h
   ·rename_i l o l' o' h1 h2;cases h;rcases aV.1 hb with hb|hb
    ·cases o with
     |none=>cases hb
     | some b'=>
       simp only[aB,gU,or_false,bV]at hb;obtain⟨rfl,rfl⟩:=hb;rw[Nat.sub_self];cases q with
       |any=>simp[Px]at h1
       | own rs=>
         simp only[Px]at h1;split at h1
         ·simp only[bI]at h1;obtain⟨_,_,e⟩:=h1;cases e
         ·cases h1
       | fn s=>simp only[Px]at h1;split at h1<;>(try split at h1)<;>cases h1
       | var rs=>
         simp only[Px]at h1;split at h1
         ·rename_i s;split at h1
          ·rename_i b2 hvp;simp only[bI]at h1;obtain⟨l2,hl2,e⟩:=h1;cases e;have hm:=jB hvp;rw[bH]at hm;obtain⟨f0,hf0,hm⟩:=hm;unfold VM at hm;split at hm
           ·split at hm
            ·rename_i e1;subst e1;cases hm;refine⟨rs,_,_,rfl,aA _,rfl,rfl,hf0,λe he=>?_⟩;obtain⟨y,hy,hyl⟩:=yz hl2 e he;simp only[bI]at hy;obtain⟨m,hm,rfl⟩:=hy;exact⟨m,hm,bG _ hyl⟩
            ·cases hm
           ·cases hm
          ·cases h1
         ·cases h1
    ·obtain⟨rs,y,s,h3,h4,h5,h6,h7,h8⟩:=F8 h2 j b hb;refine⟨rs,y,s,?_,by omega,?_,h6,h7,λe he=>let ⟨m,h9,h10⟩:=h8 e he;⟨m,h9,bU _ h10⟩⟩
     ·rw[show j-i=(j-(i+1))+1 by omega,dH];exact h3
     ·rw[show j-i=(j-(i+1))+1 by omega,dH];exact h5
   ·cases h
 |_::_,[],i,mv,vars,h,j,b,hb=>by simp[zJ]at h
theorem Td (h:OW P FV g dp Γ a w)(hN:N<=w.heap.size){f:FuncId}{sg:Rk}(hk:kindOf f = .ow sg){xs:List Operand}{ex:List Value}{d:Option Nat}{C:CR}(hl:(xs.map a.eval++ex).length=sg.ps.length)(hc:JR Γ sg xs d=some C)(hd:∀d',d=some d'->d'<a.tmps.size) :
 ∃X,Pq P f (xs.map a.eval++ex) w X/\∀v w',w.heap.size<=w'.heap.size->X (.returned v) w'->∃g',Rel dp N g g'/\OW P FV g' dp (Oz Γ d C) (a.put d v) w':=by
 unfold JR at hc;split at hc
 ·rename_i mv vars ha;split at hc
  ·cases hc
  ·rename_i hnn;have hn:(mv.map (·.1)).Nodup:=AP (by simpa using hnn);have h1:=h.mv (zl dp mv);rw[NJ]at h1;split at hc
   ·
    split at hc
    ·cases hc
    ·rename_i hbn;cases hc;have hin:OW P FV (g.mv dp (zl dp mv)) (dp+1) (Kr sg.ps) { tmps:=(xs.map a.eval++ex).toArray,defers:=[] } w:=
      ⟨h1.good,SG h ha hn (λh=>h) (λi b rs hb _=>by cases hb)⟩
     refine⟨_,.ow sg hk hl _ (dp+1) hin,λv w' hs hX=>?_⟩;obtain⟨v',g',hv,hrel,hout⟩:=hX;cases hv;refine⟨g'.mv (dp+1) (uY dp sg.rs [] 0 (d.getD 97) (d.getD 97)),((Rel.mv N _).trans ((hrel.le hN).down)).trans (Rel.afa _),hout.good.mv _ _,λf hf=>?_⟩;rw[Oz,aV,aJ]at hf;rcases hf with hf|⟨hf,hkp⟩
     ·cases d with
      |none=>cases hf
      |some d=>exact O5 hout (by simpa using hbn) (hd d rfl) (λh=>h) f hf
     ·simp only[ZU,af]at hkp;have h2:=((h1.fs f (aJ.2 ⟨hf,hkp.1.1⟩)).rel hrel hs).re (dr:=λ_=>false) (φ:=H8 (dp+1) (uY dp sg.rs [] 0 (d.getD 97) (d.getD 97))) SK;cases d with
      |none=>exact h2
      |some d=>exact h2.put' hkp.2
   ·
    rename_i i b;split at hc
    ·cases hc
    ·rename_i hbn;simp only[eH,not_or,gy,Bool.not_eq_false]at hbn;obtain⟨hdb,hbn⟩:=hbn;cases hc;obtain⟨rs,x,s,hp,_,hx,rfl,hvp,aeT⟩:=F8 ha i b (aK ..);rw[jW]at hp hx;have hrs:=aaW hp;obtain⟨k,row,hb1,hb2,hb3⟩:=h.fs _ hvp;obtain⟨agu,hk1⟩:=Vj (mv:=zl dp mv) (dp:=dp) hb3;have ado:Good P ((g.mv dp (zl dp mv)).upd k (.var (rs.map λe=>⟨e.1,e.2,i*20+e.1⟩) (dp+1) i)) w:=by
      refine h1.good.FT hk1 λcs e hw r hr=>?_;rw[aF]at hr;obtain⟨q,hq,rfl⟩:=hr;obtain⟨m,hm1,hm2⟩:=aeT q hq;obtain⟨k',row',e1,e2,e3⟩:=Jv h hm1;rw[hb1]at e1;cases e1;obtain⟨cs',e',hw',hrow⟩:=h.good.var _ _ _ _ e2;rw[hw]at hw';cases hw';obtain⟨u,hu,hg⟩:=hrow _ e3;exact⟨u,hu,hg.there hn hm2⟩
     have hin:OW P FV ((g.mv dp (zl dp mv)).upd k (.var (rs.map λe=>⟨e.1,e.2,i*20+e.1⟩) (dp+1) i)) (dp+1) (Kr sg.ps) { tmps:=(xs.map a.eval++ex).toArray,defers:=[] } w:=
      ⟨ado,SG h ha hn (λh=>h.Jz hk1) (λi' b' rs' hb' hp'=>by simp only[aB,gU,or_false,bV]at hb';obtain⟨rfl,rfl⟩:=hb';rw[hp]at hp';cases hp';exact⟨k,_,hb1,if_pos rfl,λe he=>aF.2 ⟨e,he,rfl⟩⟩)⟩
     refine⟨_,.ow sg hk hl _ (dp+1) hin,λv w' hs hX=>?_⟩;obtain⟨v',g',hv,hrel,hout⟩:=hX;cases hv;rw[hrs]at hbn;have agc:=hout.fs (.vp i i 0) (by rw[MR];refine bU _ ?_;rw[Vq,iw];exact⟨(.var rs,i),jf.2 (by simpa using hp),by simp⟩)
     obtain⟨k2,FC,e1,_,e2⟩:=agc;have hlt:i<(xs.map a.eval++ex).length:=(by rw[hl];exact(ax.1 hp).1);have hti:((xs.map a.eval++ex)++[v]).toArray.getD i undef = .pointer (some ⟨k,0,none⟩):=by rw[bQ,jS,aU hlt,aU (by rw[nX];exact(ax.1 hx).1),bn,hx];exact hb2
     rw[hti]at e1;cases e1;obtain⟨row3,hk3⟩:=Vj (mv:=uY dp sg.rs rs i (d.getD 97) (d.getD 97)) (dp:=dp+1) e2;have adp:Good P ((g'.mv (dp+1) (uY dp sg.rs rs i (d.getD 97) (d.getD 97))).upd k (.var (aaE rs (d.getD 97)) dp b)) w':=by
      refine(hout.good.mv _ _).FT hk3 λcs e hw r hr=>?_;rw[aaE,aF]at hr;obtain⟨q,hq,rfl⟩:=hr;have:=hout.fs (.row i ⟨q.1,q.2,30000+i*20+q.1⟩) (by rw[MR];refine bU _ ?_;rw[Vq,iw];exact⟨(.var rs,i),jf.2 (by simpa using hp),bW _ (aF.2 ⟨q,hq,rfl⟩)⟩)
      obtain⟨k',row',e4,e5,e6⟩:=this;rw[hti]at e4;cases e4;obtain⟨cs',e',hw',hrow⟩:=hout.good.var _ _ _ _ e5;rw[hw]at hw';cases hw';obtain⟨u,hu,hg⟩:=hrow _ e6;refine⟨u,hu,hg.back hbn ?_⟩;unfold uY;exact bU _ (aF.2 ⟨q,hq,rfl⟩)
     refine⟨(g'.mv (dp+1) (uY dp sg.rs rs i (d.getD 97) (d.getD 97))).upd k (.var (aaE rs (d.getD 97)) dp b),
      ((((Rel.mv N _).trans (Rel.FT hk1 (aA _))).trans ((hrel.le hN).down)).trans (Rel.afa _)).trans (Rel.FT hk3 (Nat.le_succ _)),adp,λf hf=>?_⟩
     rw[Oz,aV,aJ]at hf;have hb':∀d',d=some d'->b≠d':=λd' e e'=>(by subst e;subst e';simp at hdb);have htb:(a.put d v).tmps.getD b undef = .pointer (some ⟨k,0,none⟩):=by
      cases d with
      |none=>exact hb1
      |some d'=>rw[jD (hb' d' rfl)];exact hb1
     rcases hf with hf|⟨hf,hkp⟩
     ·simp only[yt,aB,aV,aF]at hf;rw[hrs]at hf;rcases hf with rfl|⟨r,hr,rfl⟩|hf
      ·exact⟨k,_,htb,htb,if_pos rfl⟩
      ·exact⟨k,_,htb,if_pos rfl,hr⟩
      ·cases d with
       |none=>cases hf
       |some d=>exact O5 hout (by simpa using hbn) (hd d rfl) (λh=>h.Jz hk3) f hf
     ·simp only[ZU,af]at hkp;have h2:=(((h1.fs f (aJ.2 ⟨hf,hkp.1.1⟩)).FT (row':=rs.map λe=>⟨e.1,e.2,i*20+e.1⟩) (d':=dp+1) (b':=i) hk1 (λ_=>hkp.1.2)).rel hrel hs).re (dr:=λ_=>false) (φ:=H8 (dp+1) (uY dp sg.rs rs i (d.getD 97) (d.getD 97))) SK;have h3:=h2.FT (row':=aaE rs (d.getD 97)) (d':=dp) (b':=b) hk3 (λe=>by omega);cases d with
      |none=>exact h3
      |some d=>exact h3.put' hkp.2
   ·cases hc
 ·cases hc
end
end
section
section
variable {P:Program} {E:Env P} {I:IH} {ρ:Ren} {n:Nat} {st:dP} {a:Act} {w:World}
def AK (E:Env P)(n:Nat)(K:dP->Prop):Act->World->Prop:=λa w=>∃I ρ st,K st/\GX E I ρ n st a w
theorem acH (h:GX E I ρ n st a w){bs:List Nat}{v:Value}{x y:AC}(hx:GC I ρ v x)(hc:Cv st.bx x y)(hb:∀b,b∈kz [x]->b∈bs):GC (wW I ρ w st.bx bs) ρ v y:=by
 have hle:=Ac (st:=st) h.bx bs;cases hc with
 |refl=>exact hx.mono hle (Ren.le_refl ρ)
 | xh sz=>simp only[GC]at hx;subst hx;exact Rd.sl none 0 0 _ [] (λ_ _=>undef) rfl (aA _) (by simp[maxLen]) (by simp) (by simp) (by intro ad h;cases h) (by simp)
 |own b m sz es harr hm=>exact Qs h (hb b (by simp[kz])) harr hm hx
theorem yg {x:AC}{xs:List AC}{b:Nat} : b∈kz (x::xs)<->b∈kz [x]\/b∈kz xs:=by cases x<;>simp[kz]
theorem abC (h:GX E I ρ n st a w){bs:List Nat}{vs:List Value}{xs ys:List AC}(hx:EN I ρ vs xs)(hc:CvL st.bx xs ys)(hb:∀b,b∈kz xs->b∈bs):EN (wW I ρ w st.bx bs) ρ vs ys:=by
 induction hc generalizing vs with
 |nil=>exact⟨hx.1,λj v x hv hx=>by simp at hx⟩
 | cons hxy ht ih=>
   rename_i x y xs ys;cases vs with
   |nil=>have:=hx.1;simp at this
   | cons v vs=>
     have i1:=ih (vs:=vs) ⟨by simpa using hx.1,λj u z hu hz=>hx.2 (j+1) u z (by simpa using hu) (by simpa using hz)⟩ (λb hb'=>hb b (yg.2 (.inr hb')));have i0:=acH h (hx.2 0 v x rfl rfl) hxy (λb hb'=>hb b (yg.2 (.inl hb')));refine⟨by simp[i1.1],λj u z hu hz=>?_⟩;cases j with
     |zero=>simp at hu hz;subst hu;subst hz;exact i0
     |succ j=>exact i1.2 j u z (by simpa using hu) (by simpa using hz)
theorem ac4 (h:GX E I ρ n st a w){bs:List Nat}{v:Value}{x y:AV}(hx:GV I ρ v x)(hc:CvA st.bx x y)(hb:∀b,b∈x.owns->b∈bs):GV (wW I ρ w st.bx bs) ρ v y:=by
 cases hc with
 |one hxy=>exact acH h hx hxy hb
 |agg hxy=>obtain⟨cs,rfl,hg⟩:=hx;exact⟨cs,rfl,abC h hg hxy hb⟩
theorem LM (h:GX E I ρ n st a w){bs:List Nat}{vs:List Value}{xs ys:List AV}(hx:NU I ρ vs xs)(hc:FW st.bx xs ys)(hb:∀b,b∈xs.flatMap AV.owns->b∈bs):NU (wW I ρ w st.bx bs) ρ vs ys:=by
 induction hc generalizing vs with
 |nil=>exact⟨hx.1,λj v x hv hx=>by simp at hx⟩
 | cons hxy ht ih=>
   rename_i x y xs ys;cases vs with
   |nil=>have:=hx.1;simp at this
   | cons v vs=>
     have i1:=ih (vs:=vs) ⟨by simpa using hx.1,λj u z hu hz=>hx.2 (j+1) u z (by simpa using hu) (by simpa using hz)⟩ (λb hb'=>hb b (by rw[mX];exact bU _ hb'));have i0:=ac4 h (hx.2 0 v x rfl rfl) hxy (λb hb'=>hb b (by rw[mX];exact bG _ hb'));refine⟨by simp[i1.1],λj u z hu hz=>?_⟩;cases j with
     |zero=>simp at hu hz;subst hu;subst hz;exact i0
     |succ j=>exact i1.2 j u z (by simpa using hu) (by simpa using hz)
theorem U0 {I J:IH}{ρ σ:Ren}{v:Value}{x:AC}(h:GC I ρ v x)(hl:x.isLit=true):GC J σ v x:=by
 cases x with
 | c y=>
   cases y with
   |lit u=>cases h with|lit v hv=>exact Rd.lit _ hv
   |str l=>cases h with|str l hl=>exact Rd.str _ hl
   |sl sz es=>cases hl
 |_=>cases hl
theorem Wh {I J:IH}{ρ σ:Ren}{vs:List Value}{xs:List AC}(h:EN I ρ vs xs)(hl:xs.all AC.isLit=true):EN J σ vs xs:=
 ⟨h.1,λj v x hv hx=>U0 (h.2 j v x hv hx) (aH.1 hl x (dL hx))⟩
theorem ade {I J:IH}{ρ σ:Ren}{v:Value}{x:AV}(h:GV I ρ v x)(hl:x.all AC.isLit=true):GV J σ v x:=by
 cases x with
 |one x=>exact U0 h hl
 |agg xs=>obtain⟨cs,rfl,hg⟩:=h;exact⟨cs,rfl,Wh hg hl⟩
 | wF ps=>
   obtain⟨vs,rfl,hs,hp⟩:=h;refine⟨vs,rfl,hs,λj v p hv hq=>?_⟩;have h1:=hp j v p hv hq;have h2:=aH.1 hl p (dL hq);unfold GP at h1⊢;split at h1
   ·rename_i hb;rw[if_pos hb];obtain⟨cs,rfl,hg⟩:=h1;exact⟨cs,rfl,Wh hg h2⟩
   ·rename_i hb;rw[if_neg hb];obtain⟨x,hx,hg⟩:=h1;rw[hx]at h2;exact⟨x,hx,U0 hg (by simpa using h2)⟩
theorem Qi {I:IH}{ρ σ:Ren}{v:Value}{x:AC}(h:GC I ρ v x)(hl:x.qV=true):GC I σ v x:=by
 cases x with
 |c y=>exact h
 |err g=>exact h
 |_=>cases hl
theorem Sj {I:IH}{ρ σ:Ren}{vs:List Value}{xs:List AC}(h:EN I ρ vs xs)(hl:xs.all AC.qV=true):EN I σ vs xs:=
 ⟨h.1,λj v x hv hx=>Qi (h.2 j v x hv hx) (aH.1 hl x (dL hx))⟩
theorem Wl {I:IH}{ρ σ:Ren}{v:Value}{x:AV}(h:GV I ρ v x)(hl:x.all AC.qV=true):GV I σ v x:=by
 cases x with
 |one x=>exact Qi h hl
 |agg xs=>obtain⟨cs,rfl,hg⟩:=h;exact⟨cs,rfl,Sj hg hl⟩
 | wF ps=>
   obtain⟨vs,rfl,hs,hp⟩:=h;refine⟨vs,rfl,hs,λj v p hv hq=>?_⟩;have h1:=hp j v p hv hq;have h2:=aH.1 hl p (dL hq);unfold GP at h1⊢;split at h1
   ·rename_i hb;rw[if_pos hb];obtain⟨cs,rfl,hg⟩:=h1;exact⟨cs,rfl,Sj hg h2⟩
   ·rename_i hb;rw[if_neg hb];obtain⟨x,hx,hg⟩:=h1;rw[hx]at h2;exact⟨x,hx,Qi hg (by simpa using h2)⟩
theorem Sr {I:IH}{ρ σ:Ren}{vs:List Value}{xs:List AV}(h:NU I ρ vs xs)(hl:xs.all (·.all AC.qV)=true):NU I σ vs xs:=
 ⟨h.1,λj v x hv hx=>Wl (h.2 j v x hv hx) (aH.1 hl x (dL hx))⟩
theorem PG (b:Nat):xN [] b = .absent:=by simp[xN]
theorem C9 {x:Option (Nat×Nat)}(b k:Nat):¬(xN [] b).uses x k:=by rw[PG];exact λh=>h
theorem GX.later (h:GX E I ρ n st a w){w':World}(hF:xK w w' (λ_=>False)):GX E I ρ n st a w':=by have hk:∀k,k<w.heap.size->w'.heap[k]? = w.heap[k]?:= λk hk=>hF.block k hk (λh=>h);refine{ h with agree:=h.agree.other (λk c hc=>hk k (h.agree.lt hc)),bx:=?_,wu:=h.wu.trans hF (λ_ _ hf=>hf.elim),tm:=h.tm,size:=h.size,defers:=h.defers };exact BX.step (λ_=>False) h.bx (IH.le_refl I) (Ren.le_refl ρ) (λb _=>⟨rfl,rfl⟩) (λb k _ hu=>hk k ((h.bx.ok b).lt hu)) (λb hb=>hb.elim) (λb k hb=>hb.elim) (λb b' k hb=>hb.elim) (λb k _ hu=>h.bx.fresh b k hu)
theorem QC (I:IH)(w:World):BX I (λ_=>none) w (xN []):=
 ⟨λb=>by rw[PG];rfl,λb b' k h=>absurd h (C9 b k),λb k h=>absurd h (C9 b k)⟩
theorem Y4 (h:GX E I ρ n st a w){f:FuncId}{vs:List Value}{oD ds:List AV}{r:AV}{d:Option Nat}{K:dP->Prop}(hd':∀x,d=some x->x<n)(hv:NU I ρ vs oD)(hc:FW st.bx oD ds)(hd:ds.all (·.all AC.qV)=true)(hp:fD P f ds r)(hr:r.all AC.isLit=true)
 (k:K (st.uA d (.v true r))) {X:Ending->World->Prop} (hX:Pq P f vs w X):Calls P f vs.toArray w λe w'=>(∃v,e = .returned v/\AK E n K (a.put d v) w')/\X e w'/\w.heap.size<=w'.heap.size:=by
 have hv1:=LM h (bs:=oD.flatMap AV.owns) hv hc (λb hb=>hb);refine(hp (wW I ρ w st.bx (oD.flatMap AV.owns)) (λ_=>none) w vs (h.tabs.mono (Ac h.bx _)) (Gl h.agree _) (QC _ _) (Sr hv1 hd) _ hX).mono ?_;rintro e w' ⟨⟨v,J,σ,r',bs,rfl,⟨rfl,rfl⟩,hg,hA,hB,hle,hF,_⟩,hXe⟩;have hF':xK w w' (λ_=>False):=⟨hF.os,hF.tape,hF.output,hF.size,λk hk _=>hF.block k hk (λ⟨b,hb⟩=>C9 b k hb)⟩;exact⟨⟨v,rfl,I,ρ,_,k,(h.later hF').uA hd' ⟨λ_=>ade hg hr,λe=>by cases e⟩⟩,hXe,hF.size⟩
theorem Xu (h:GX E I ρ n st a w){f:FuncId}{vs:List Value}{oD ds:List AV}{r:AV}{d:Option Nat}{K:dP->Prop}(hd':∀x,d=some x->x<n)(hv:NU I ρ vs oD)(hc:FW st.bx oD ds)(hd:ds.all (·.all AC.qV)=true)(hp:fD P f ds r)(hr:r.all AC.qV=true)
 (k:K ((st.zL (oD.flatMap AV.owns)).uA d (.v true r))) {X:Ending->World->Prop} (hX:Pq P f vs w X):Calls P f vs.toArray w λe w'=>(∃v,e = .returned v/\AK E n K (a.put d v) w')/\X e w'/\w.heap.size<=w'.heap.size:=by
 have hv1:=LM h (bs:=oD.flatMap AV.owns) hv hc (λb hb=>hb);refine(hp (wW I ρ w st.bx (oD.flatMap AV.owns)) (λ_=>none) w vs (h.tabs.mono (Ac h.bx _)) (Gl h.agree _) (QC _ _) (Sr hv1 hd) _ hX).mono ?_;rintro e w' ⟨⟨v,J,σ,r',bs,rfl,⟨rfl,rfl⟩,hg,hA,hB,hle,hF,_,hJ,_⟩,hXe⟩;have hF':xK w w' (λ_=>False):=⟨hF.os,hF.tape,hF.output,hF.size,λk hk _=>hF.block k hk (λ⟨b,hb⟩=>C9 b k hb)⟩;have hJ':∀k,k<w.heap.size->J k=wW I ρ w st.bx (oD.flatMap AV.owns) k:=λk hk=>hJ k hk (λ⟨b,hb⟩=>C9 b k hb);refine⟨⟨v,rfl,J,ρ,_,k,?_⟩,hXe,hF.size⟩;generalize hBS:oD.flatMap AV.owns=BS at *;have hIJ:I.le J:=IH.le_trans (Ac h.bx BS) hle;have hk:∀k,k<w.heap.size->w'.heap[k]? = w.heap[k]?:= λk hk=>hF'.block k hk (λh=>h);have xm:∀b k,((st.zL BS).bx b).uses (ρ b) k->(st.bx b).uses (ρ b) k/\¬(∃b' sz es cap,b'∈BS/\st.bx b' = .dat sz es/\ρ b'=some (k,cap)/\cap≠0):=by
  intro b k hu;rw[uZ]at hu;by_cases hb:b∈BS
  ·rw[if_pos hb]at hu;cases hx:st.bx b with
   | var xs=>rw[hx]at hu;refine⟨hu,?_⟩;rintro⟨b',sz,es,cap,_,hb',hr',h0⟩;have:=h.bx.inj b b' k (by rw[hx];exact hu) (by rw[hb'];exact⟨cap,hr',h0⟩);subst this;rw[hx]at hb';cases hb'
   | row e l=>rw[hx]at hu;refine⟨hu,?_⟩;rintro⟨b',sz,es,cap,_,hb',hr',h0⟩;have:=h.bx.inj b b' k (by rw[hx];exact hu) (by rw[hb'];exact⟨cap,hr',h0⟩);subst this;rw[hx]at hb';cases hb'
   |dat sz es=>rw[hx]at hu;exact hu.elim
   |zL sz es=>rw[hx]at hu;exact hu.elim
   |absent=>rw[hx]at hu;exact hu.elim
   |dead=>rw[hx]at hu;exact hu.elim
  ·rw[if_neg hb]at hu;refine⟨hu,?_⟩;rintro⟨b',sz,es,cap,hm',hb',hr',h0⟩;have:=h.bx.inj b b' k hu (by rw[hb'];exact⟨cap,hr',h0⟩);subst this;exact hb hm'
 have hfr:∀b k,((st.zL BS).bx b).uses (ρ b) k->J k=none:=λb k hu=>by obtain⟨h1,h2⟩:=xm b k hu;rw[hJ' k ((h.bx.ok b).lt h1)];unfold wW;rw[if_neg h2];exact h.bx.fresh b k h1
 have hgx:GX E J ρ n (st.zL BS) a w':=by
  refine{ agree:=hA,bx:=⟨λb=>?_,λb b' k hb hb'=>h.bx.inj b b' k (xm b k hb).1 (xm b' k hb').1,hfr⟩,tm:=λt ht=>(h.tm t ht).mono hIJ (Ren.le_refl ρ),size:=h.size,defers:=h.defers,wu:=h.wu.trans hF' (λ_ _ hf=>hf.elim),own:=λb k hu=>h.own b k (xm b k hu).1,Ei:=IH.le_trans h.Ei hIJ,Az:=λk hk0 hM=>?_,rQ:=h.rQ }
  ·have hok:=(h.bx.ok b).keep hIJ (Ren.le_refl ρ) rfl (λk hu=>hk k ((h.bx.ok b).lt hu));rw[uZ];by_cases hb:b∈BS
   ·rw[if_pos hb];cases hx:st.bx b with
    | dat sz es=>rw[hx]at hok;obtain⟨kk,cap,hr',hl,hm,hsz,hcs⟩:=hok;refine⟨kk,cap,hr',hl,hm,hsz,λh0=>?_⟩;obtain⟨cs,e,hw,_,_,hrd⟩:=hcs h0;have hu:(st.bx b).uses (ρ b) kk:=(by rw[hx];exact⟨cap,hr',h0⟩);have hlt:=(h.bx.ok b).lt hu;refine⟨cs,?_,hrd⟩;rw[hJ' kk hlt];unfold wW;rw[if_pos ⟨b,sz,es,cap,hb,hx,hr',h0⟩,<- hk kk hlt,hw]
    |var xs=>rw[hx]at hok;exact hok
    |row e l=>rw[hx]at hok;exact hok
    |zL sz es=>rw[hx]at hok;exact hok
    |absent=>rw[hx]at hok;exact hok
    |dead=>rw[hx]at hok;exact hok
   ·rw[if_neg hb];exact hok
  ·have hlt:k<w.heap.size:=gQ hk0 h.wu.size;rw[hJ' k hlt];unfold wW;rw[if_neg]
   ·exact h.Az k hk0 hM
   ·rintro⟨b',sz,es,cap,_,hb',hr',h0⟩;rcases h.own b' k (by rw[hb'];exact⟨cap,hr',h0⟩)with h1|h1
    ·omega
    ·exact hM h1
 exact hgx.uA hd' ⟨λ_=>Wl hg hr,λe=>by cases e⟩
end
end
section
section
variable {P:Program} {E:Env P} {I:IH} {ρ:Ren} {n:Nat} {st:dP} {a:Act} {w:World}
theorem EC (l:List (Nat×Box))(st:dP){b:Nat}(h:b ∉ l.map (·.1)):(st.mQ l).bx b=st.bx b:=by
 induction l generalizing st with
 |nil=>rfl
 | cons x l ih=>obtain⟨c,x⟩:=x;simp only[aP,aB,not_or]at h;simp only[dP.mQ,ih _ h.2,dP.kX];rw[if_neg h.1]
theorem aaG (l:List (Nat×Box))(st:dP)(hn:(l.map (·.1)).Nodup){j b:Nat}{x:Box}(h:l[j]? = some (b,x)):(st.mQ l).bx b=x:=by
 induction l generalizing st j with
 |nil=>simp at h
 | cons y l ih=>
   obtain⟨c,y⟩:=y;simp only[aP,sF]at hn;cases j with
   | zero=>simp at h;obtain⟨rfl,rfl⟩:=h;simp only[dP.mQ];rw[EC _ _ hn.1,dP.kX,if_pos rfl]
   | succ j=>simp only[dP.mQ];exact ih _ hn.2 (by simpa using h)
theorem Qk {π:Nat->Nat}{I:IH}{ρ σ:Ren}{m:Nat}{v:Value}{x:AC}(h:GC I ρ v (zy π x))(hl:x.oW m=true)(hs:∀b y,b<m->ρ (π b)=some y->σ b=some y):GC I σ v x:=by
 cases x with
 |c y=>exact h
 |ptr b off=>obtain⟨k,cap,h1,h2⟩:=h;exact⟨k,cap,hs _ _ (by simpa[AC.oW]using hl) h1,h2⟩
 |own b n sz=>obtain⟨k,cap,a,c,h1,h2⟩:=h;exact⟨k,cap,a,c,hs _ _ (by simpa[AC.oW]using hl) h1,h2⟩
 |sub b lo n c sz=>obtain⟨k,cap,a,c',h1,h2⟩:=h;exact⟨k,cap,a,c',hs _ _ (by simpa[AC.oW]using hl) h1,h2⟩
 |opt T b=>obtain⟨k,h1,h2⟩:=h;exact⟨k,hs _ _ (by simpa[AC.oW]using hl) h1,h2⟩
 |F9 b n=>obtain⟨k,cap,h1,h2⟩:=h;exact⟨k,cap,hs _ _ (by simpa[AC.oW]using hl) h1,h2⟩
 |uI b i sz off=>obtain⟨k,cap,h1,h2⟩:=h;exact⟨k,cap,hs _ _ (by simpa[AC.oW]using hl) h1,h2⟩
 |xh sz=>exact h
 |zC cs=>exact h
 |err g=>exact h
 |Em=>exact h
 | fn f caps=>obtain⟨ks,h1,h2,h3⟩:=h;refine⟨ks,by simpa using h1,λj b k hb hk=>?_,h3⟩;obtain⟨cap,hc⟩:=h2 j (π b) k (by simp[hb]) hk;refine⟨cap,hs _ _ ?_ hc⟩;have:=aH.1 hl b (dL hb);simpa using this
theorem Wj {π:Nat->Nat}{I:IH}{ρ σ:Ren}{m:Nat}{vs:List Value}{xs:List AC}(h:EN I ρ vs (xs.map (zy π)))(hl:xs.all (AC.oW m)=true)(hs:∀b y,b<m->ρ (π b)=some y->σ b=some y):EN I σ vs xs:=
 ⟨by simpa using h.1,λj v x hv hx=>Qk (h.2 j v (zy π x) hv (by simp[hx])) (aH.1 hl x (dL hx)) hs⟩
theorem adg {π:Nat->Nat}{I:IH}{ρ σ:Ren}{m:Nat}{v:Value}{x:AV}(h:GV I ρ v (yu π x))(hl:x.all (AC.oW m)=true)(hs:∀b y,b<m->ρ (π b)=some y->σ b=some y):GV I σ v x:=by
 cases x with
 |one x=>exact Qk h hl hs
 |agg xs=>obtain⟨cs,rfl,hg⟩:=h;exact⟨cs,rfl,Wj hg hl hs⟩
 | wF ps=>
   obtain⟨vs,rfl,hz,hp⟩:=h;refine⟨vs,rfl,by simpa using hz,λj v p hv hq=>?_⟩;have h1:=hp j v _ hv (by rw[bn,hq];rfl);have h2:=aH.1 hl p (dL hq);unfold GP at h1⊢;simp only at h1;split at h1
   ·rename_i hb;rw[if_pos hb];obtain⟨cs,rfl,hg⟩:=h1;exact⟨cs,rfl,Wj hg h2 hs⟩
   ·rename_i hb;rw[if_neg hb];obtain⟨x,hx,hg⟩:=h1;cases hp2:p.2 with
    |nil=>rw[hp2]at hx;simp at hx
    | cons y t=>rw[hp2]at hx h2;simp at hx;obtain⟨rfl,rfl⟩:=hx;exact⟨y,rfl,Qk hg (by simpa using h2) hs⟩
theorem Qj {π:Nat->Nat}{I:IH}{ρ σ:Ren}{v:Value}{x:AC}(h:GC I σ v x)(hs:∀b y,σ b=some y->ρ (π b)=some y):GC I ρ v (zy π x):=by
 cases x with
 |c y=>exact h
 |ptr b off=>obtain⟨k,cap,h1,h2⟩:=h;exact⟨k,cap,hs _ _ h1,h2⟩
 |own b n sz=>obtain⟨k,cap,a,c,h1,h2⟩:=h;exact⟨k,cap,a,c,hs _ _ h1,h2⟩
 |sub b lo n c sz=>obtain⟨k,cap,a,c',h1,h2⟩:=h;exact⟨k,cap,a,c',hs _ _ h1,h2⟩
 |opt T b=>obtain⟨k,h1,h2⟩:=h;exact⟨k,hs _ _ h1,h2⟩
 |F9 b n=>obtain⟨k,cap,h1,h2⟩:=h;exact⟨k,cap,hs _ _ h1,h2⟩
 |uI b i sz off=>obtain⟨k,cap,h1,h2⟩:=h;exact⟨k,cap,hs _ _ h1,h2⟩
 |xh sz=>exact h
 |zC cs=>exact h
 |err g=>exact h
 |Em=>exact h
 | fn f caps=>
   obtain⟨ks,h1,h2,h3⟩:=h;refine⟨ks,by simpa using h1,λj b k hb hk=>?_,h3⟩;rw[bn]at hb;cases hc:caps[j]? with
   |none=>rw[hc]at hb;cases hb
   | some c=>rw[hc]at hb;simp at hb;subst hb;obtain⟨cap,hc'⟩:=h2 j c k hc hk;exact⟨cap,hs _ _ hc'⟩
theorem Wi {π:Nat->Nat}{I:IH}{ρ σ:Ren}{vs:List Value}{xs:List AC}(h:EN I σ vs xs)(hs:∀b y,σ b=some y->ρ (π b)=some y):EN I ρ vs (xs.map (zy π)):=by
 refine⟨by simpa using h.1,λj v x hv hx=>?_⟩;rw[bn]at hx;cases hc:xs[j]? with
 |none=>rw[hc]at hx;cases hx
 | some c=>rw[hc]at hx;simp at hx;subst hx;exact Qj (h.2 j v c hv hc) hs
theorem adf {π:Nat->Nat}{I:IH}{ρ σ:Ren}{v:Value}{x:AV}(h:GV I σ v x)(hs:∀b y,σ b=some y->ρ (π b)=some y):GV I ρ v (yu π x):=by
 cases x with
 |one x=>exact Qj h hs
 |agg xs=>obtain⟨cs,rfl,hg⟩:=h;exact⟨cs,rfl,Wi hg hs⟩
 | wF ps=>
   obtain⟨vs,rfl,hz,hp⟩:=h;refine⟨vs,rfl,by simpa using hz,λj v p hv hq=>?_⟩;rw[bn]at hq;cases hc:ps[j]? with
   |none=>rw[hc]at hq;cases hq
   | some q=>
     rw[hc]at hq;simp at hq;subst hq;have h1:=hp j v q hv hc;unfold GP at h1⊢;simp only;split at h1
     ·rename_i hb;rw[if_pos hb];obtain⟨cs,rfl,hg⟩:=h1;exact⟨cs,rfl,Wi hg hs⟩
     ·rename_i hb;rw[if_neg hb];obtain⟨x,hx,hg⟩:=h1;exact⟨zy π x,by rw[hx];rfl,Qj hg hs⟩
theorem Xq {π:Nat->Nat}{I:IH}{ρ σ:Ren}{m:Nat}{w:World}{b:Nat}{x:Box}(h:qf I ρ w (π b) (xW π x))(hl:x.oW m=true)(hb:σ b=ρ (π b))(hs:∀b y,b<m->ρ (π b)=some y->σ b=some y):qf I σ w b x:=by
 cases x with
 |absent=>exact hb.trans h
 |dead=>trivial
 | var xs=>obtain⟨k,cap,cs,hr,hw,hz,hc⟩:=h;refine⟨k,cap,cs,hb.trans hr,hw,by simpa using hz,λj u x hu hx=>Qk (hc j u (zy π x) hu (by simp[hx])) (aH.1 hl x (dL hx)) hs⟩
 |dat sz es=>obtain⟨k,cap,hr,h⟩:=h;exact⟨k,cap,hb.trans hr,h⟩
 |row e l=>obtain⟨k,cap,hr,h⟩:=h;exact⟨k,cap,hb.trans hr,h⟩
 |zL sz es=>obtain⟨k,cap,hr,h⟩:=h;exact⟨k,cap,hb.trans hr,h⟩
theorem Xp {π:Nat->Nat}{I:IH}{ρ σ:Ren}{w:World}{b:Nat}{x:Box}(h:qf I σ w b x)(hb:ρ (π b)=σ b)(hs:∀b y,σ b=some y->ρ (π b)=some y):qf I ρ w (π b) (xW π x):=by
 cases x with
 |absent=>exact hb.trans h
 |dead=>trivial
 | var xs=>
   obtain⟨k,cap,cs,hr,hw,hz,hc⟩:=h;refine⟨k,cap,cs,hb.trans hr,hw,by simpa using hz,λj u x hu hx=>?_⟩;rw[bn]at hx;cases hc':xs[j]? with
   |none=>rw[hc']at hx;cases hx
   | some c=>rw[hc']at hx;simp at hx;subst hx;exact Qj (hc j u c hu hc') hs
 |dat sz es=>obtain⟨k,cap,hr,h⟩:=h;exact⟨k,cap,hb.trans hr,h⟩
 |row e l=>obtain⟨k,cap,hr,h⟩:=h;exact⟨k,cap,hb.trans hr,h⟩
 |zL sz es=>obtain⟨k,cap,hr,h⟩:=h;exact⟨k,cap,hb.trans hr,h⟩
theorem Cj {π:Nat->Nat}{x:Box}{p:Option (Nat×Nat)}{k:Nat} : (xW π x).uses p k<->x.uses p k:=by cases x<;>exact Iff.rfl
theorem V3 {l:List Box}{b:Nat}(h:b<l.length):l[b]? = some (xN l b):=by unfold xN;rw[aQ,aj h];rfl
theorem PE {l:List Box}{b:Nat}(h:l.length<=b):xN l b = .absent:=by unfold xN;rw[aQ,gp h];rfl
theorem RN (h:GX E I ρ n st a w)(hm:E.m<=10){f:FuncId}{vs:List Value}{oD ds:List AV}{d:Option Nat}{K:dP->Prop}{fp:List Box}{L nu:List Nat}{post:AV->List Box->Prop}{sg:List Nat}(hL:sg++nu=L)(hd':∀x,d=some x->x<n)(hv:NU I ρ vs oD)
 (hl:sg.length=fp.length) (hn:L.Nodup) (hf:∀i,i<fp.length->st.bx (L.getD i 0)=xW (λb=>L.getD b 0) (fp.getD i .absent))
 (hnu:∀b,b∈nu->st.bx b = .absent/\10<=b) (hra:(ds.all λx=>x.all (AC.oW fp.length))=true) (hrf:fp.all (Box.oW fp.length)=true) (ha:oD=ds.map (yu λb=>L.getD b 0)) (hp:nN P f ds fp post)
 (k:∀r bs,post r bs->bs.length=L.length/\K ((st.mQ (L.zip (bs.map (xW λb=>L.getD b 0)))).uA d (.v true (yu (λb=>L.getD b 0) r)))) {X:Ending->World->Prop} (hX:Pq P f vs w X) :
 Calls P f vs.toArray w λe w'=>(∃v,e = .returned v/\AK E n K (a.put d v) w')/\X e w'/\w.heap.size<=w'.heap.size:=by
 generalize hπ:(λb=>L.getD b 0)=π at hf ha k;have aeX:∀b,L.getD b 0=π b:=λb=>congrFun hπ b;have hLl:fp.length<=L.length:=by rw[<- hL];simp;omega
 have MC:∀b,b<L.length->L[b]? = some (π b):=λb hb=>by rw[<- aeX,aQ,aj hb];rfl
 have ZL:∀b,b<L.length->π b∈L:=λb hb=>dL (MC b hb);have ZK:∀b b',b<L.length->b'<L.length->π b=π b'->b=b':=λb b' hb hb' e=>by
  have h1:=MC b hb;have h2:=MC b' hb';rw[aj hb]at h1;rw[aj hb']at h2;simp at h1 h2;have hpw:=pO.1 hn;rcases uD b b' with hlt|heq|hlt
  ·exact absurd (by rw[h1,h2,e]) (hpw b b' hb hb' hlt)
  ·exact heq
  ·exact absurd (by rw[h1,h2,e]) (hpw b' b hb' hb hlt)
 let YO:Ren:=λb=>if b<fp.length then ρ (π b)else none
 have hs:∀b y,b<fp.length->ρ (π b)=some y->YO b=some y:=λb y hb e=>by simp[YO,hb,e]
 have hfb:∀b,b<fp.length->st.bx (π b)=xW π (xN fp b):=λb hb=>by have:=hf b hb;rw[aeX]at this;exact this
 have hub:∀b k,(xN fp b).uses (YO b) k->b<fp.length/\(st.bx (π b)).uses (ρ (π b)) k:=λb k hu=>by
  by_cases hb:b<fp.length
  ·refine⟨hb,?_⟩;rw[hfb b hb,Cj];simpa[YO,hb]using hu
  ·rw[PE (by omega)]at hu;exact hu.elim
 have hBX:BX I YO w (xN fp):=by
  refine⟨λb=>?_,λb b' k hb hb'=>?_,λb k hb=>?_⟩
  ·by_cases hb:b<fp.length
   ·have:=h.bx.ok (π b);rw[hfb b hb]at this;exact Xq this (aH.1 hrf _ (dL (V3 hb))) (by simp[YO,hb]) hs
   ·rw[PE (by omega)];show YO b=none;simp[YO,hb]
  ·obtain⟨h1,h2⟩:=hub b k hb;obtain⟨h1',h2'⟩:=hub b' k hb';exact ZK b b' (by omega) (by omega) (h.bx.inj _ _ _ h2 h2')
  ·exact h.bx.fresh _ _ (hub b k hb).2
 have hGV:NU I YO vs ds:=by subst ha;refine⟨by simpa using hv.1,λj v x hv' hx=>?_⟩;exact adg (hv.2 j v (yu π x) hv' (by simp[hx])) (aH.1 hra x (dL hx)) hs
 refine(hp I YO w vs h.tabs h.agree hBX hGV _ hX).mono ?_;rintro e w' ⟨⟨v,J,σ,r,bs,rfl,hpost,hg,hA,hB,hle,hF,hbw,hJ,hσ⟩,hXe⟩;obtain⟨hbl,hk⟩:=k r bs hpost;refine⟨⟨v,rfl,?_⟩,hXe,hF.size⟩;have agf:∀b,L.length<=b->σ b=none:=λb hb=>by have:=hB.ok b;rw[PE (by omega)]at this;exact this
 let ρ':Ren:=λb=>open Classical in if b∈L then σ (L.idxOf b)else ρ b
 have Ht:∀b,b<L.length->ρ' (π b)=σ b:=λb hb=>by
  have h1:=ZL b hb;simp only[ρ',h1,if_true];have hi:=List.idxOf_lt_length_of_mem h1;have h2:L[L.idxOf (π b)]? = some (π b):=by rw[aj hi];simp
  have h3:=MC _ hi;rw[h2]at h3;simp only[aG]at h3;rw[<- ZK _ _ hb hi h3]
 have SB:∀b,b ∉ L->ρ' b=ρ b:=λb hb=>by simp[ρ',hb]
 have hin:∀b,b∈L->∃i,i<L.length/\π i=b:=λb hb=>by
  have hi:=List.idxOf_lt_length_of_mem hb;refine⟨_,hi,?_⟩;have h2:L[L.idxOf b]? = some b:=by rw[aj hi];simp
  have h3:=MC _ hi;rw[h2]at h3;simpa using h3.symm
 have acL:∀i,fp.length<=i->i<L.length->π i∈nu:=λi h1 h2=>by have h3:=MC i h2;rw[<- hL,bJ (by omega)]at h3;exact dL h3
 have hle':ρ.le ρ':=λb y hb=>by
  by_cases hm':b∈L
  ·obtain⟨i,hi,rfl⟩:=hin b hm';rw[Ht i hi];by_cases hif:i<fp.length
   ·rw[hσ i hif];exact hs i y hif hb
   ·have h1:=(hnu _ (acL i (by omega) hi)).1;have h2:=h.bx.ok (π i);rw[h1]at h2;rw[show ρ (π i)=none from h2]at hb;cases hb
  ·rw[SB b hm'];exact hb
 have aeS:∀b y,σ b=some y->ρ' (π b)=some y:=λb y hb=>by
  by_cases hbL:b<L.length
  ·rw[Ht b hbL];exact hb
  ·rw[agf b (by omega)]at hb;cases hb
 have hlz:(L.zip (bs.map (xW π))).map (·.1)=L:=by rw[List.map_fst_zip];simp[hbl]
 have XN:∀i,i<L.length->(st.mQ (L.zip (bs.map (xW π)))).bx (π i)=xW π (xN bs i):=λi hi=>by refine aaG _ _ (by rw[hlz];exact hn) (j:=i) ?_;rw[List.getElem?_zip_eq_some];exact⟨MC i hi,by rw[bn,V3 (by omega)];rfl⟩
 have hbx2:∀b,b ∉ L->(st.mQ (L.zip (bs.map (xW π)))).bx b=st.bx b:=λb hb=>EC _ _ (by rw[hlz];exact hb);have hnot:∀b k,b ∉ L->(st.bx b).uses (ρ b) k->k<w.heap.size/\¬ ∃b',(xN fp b').uses (YO b') k:=λb k hb hu=>by refine⟨(h.bx.ok b).lt hu,?_⟩;rintro⟨b',hb'⟩;obtain⟨h1,h2⟩:=hub b' k hb';have:=h.bx.inj _ _ _ hu h2;exact hb (this▸ZL b' (by omega))
 have hother:∀b k,b ∉ L->(st.bx b).uses (ρ b) k->w'.heap[k]? = w.heap[k]?:= λb k hb hu=>let ⟨h1,h2⟩:=hnot b k hb hu;hF.block k h1 h2;have aeK:∀i k,i<L.length->(xN bs i).uses (σ i) k->∀b,b ∉ L->¬(st.bx b).uses (ρ b) k:=λi k hi hu b hb hu'=>by
  obtain⟨h1,h2⟩:=hnot b k hb hu';rcases hbw i k hu with h3|h3
  ·omega
  ·exact h2 h3
 generalize hst:st.mQ (L.zip (bs.map (xW π)))=st' at *;have ZI:st'.tm=st.tm:=by rw[<- hst,Ii]
 have hgx:GX E J ρ' n st' a w':=by
  refine{ agree:=hA,bx:=⟨λb=>?_,λb b' k hb hb'=>?_,λb k hb=>?_⟩,tm:=λt ht=>?_,size:=h.size,defers:=h.defers,wu:=?_,own:=λb k hb=>?_,Ei:=IH.le_trans h.Ei hle,Az:=λk hk0 hM=>?_,rQ:=λb hb=>?_ }
  ·by_cases hb:b∈L
   ·obtain⟨i,hi,rfl⟩:=hin b hb;rw[XN i hi];exact Xp (hB.ok i) (Ht i hi) aeS
   ·rw[hbx2 b hb];exact(h.bx.ok b).keep hle hle' (SB b hb) (λk hu=>hother b k hb hu)
  ·by_cases hbL:b∈L
   ·obtain⟨i,hi,rfl⟩:=hin b hbL;rw[XN i hi,Cj,Ht i hi]at hb;by_cases Sv:b'∈L
    ·obtain⟨i',hi',rfl⟩:=hin b' Sv;rw[XN i' hi',Cj,Ht i' hi']at hb';rw[hB.inj _ _ _ hb hb']
    ·rw[hbx2 b' Sv,SB b' Sv]at hb';exact absurd hb' (aeK i k hi hb b' Sv)
   ·rw[hbx2 b hbL,SB b hbL]at hb;by_cases Sv:b'∈L
    ·obtain⟨i',hi',rfl⟩:=hin b' Sv;rw[XN i' hi',Cj,Ht i' hi']at hb';exact absurd hb (aeK i' k hi' hb' b hbL)
    ·rw[hbx2 b' Sv,SB b' Sv]at hb';exact h.bx.inj _ _ _ hb hb'
  ·by_cases hbL:b∈L
   ·obtain⟨i,hi,rfl⟩:=hin b hbL;rw[XN i hi,Cj,Ht i hi]at hb;exact hB.fresh _ _ hb
   ·rw[hbx2 b hbL,SB b hbL]at hb;obtain⟨h1,h2⟩:=hnot b k hbL hb;rw[hJ k h1 h2];exact h.bx.fresh _ _ hb
  ·rw[ZI];exact(h.tm t ht).mono hle hle'
  ·refine h.wu.trans hF ?_;rintro x hx ⟨b',hb'⟩;rcases h.own _ _ (hub b' x hb').2 with h1|h1
   ·omega
   ·exact h1
  ·by_cases hbL:b∈L
   ·obtain⟨i,hi,rfl⟩:=hin b hbL;rw[XN i hi,Cj,Ht i hi]at hb;rcases hbw i k hb with h1|⟨b',hb'⟩
    ·exact .inl (cZ h.wu.size h1)
    ·exact h.own _ _ (hub b' k hb').2
   ·rw[hbx2 b hbL,SB b hbL]at hb;exact h.own _ _ hb
  ·rw[hJ k (gQ hk0 h.wu.size)]
   ·exact h.Az k hk0 hM
   ·rintro⟨b',hb'⟩;rcases h.own _ _ (hub b' k hb').2 with h1|h1
    ·omega
    ·exact hM h1
  ·by_cases hbL:b∈L
   ·obtain⟨i,hi,rfl⟩:=hin b hbL;rw[Ht i hi];by_cases hif:i<fp.length
    ·rw[hσ i hif,<- h.rQ _ hb];simp[YO,hif]
    ·have:=(hnu _ (acL i (by omega) hi)).2;omega
   ·rw[SB b hbL];exact h.rQ b hb
 exact⟨J,ρ',_,hk,hgx.uA hd' ⟨λ_=>adf hg aeS,λe=>by cases e⟩⟩
end
end
section
section
variable {P:Program} {E:Env P} {I:IH} {ρ:Ren} {n:Nat} {st:dP} {a:Act} {w:World}
def G6 (n:Nat):List Operand->List jK->Bool
 |[],[]=>true
 |x::xs,y::ys=>gW n x y&&G6 n xs ys
 |_,_=>false
def D6 (n:Nat)(ops:Array Oper):Option (Nat×Bool)->Option (Nat×Bool)->Bool
 |none,none=>true
 |some (j,w),some (s,w')=>w==w'&&decide (s<n)&&(match ops[j]? with|some o=>o.dst==some s|none=>false)
 |_,_=>false
def UD (n:Nat):Option Nat->Option Nat->Bool
 |none,none=>true
 |some x,some y=>x==y&&decide (x<n)
 |_,_=>false
def Lu (P:Program)(n m:Nat)(op:Op)(d:Option Nat):KP->Bool
 |.op ao=>J7 P n m op d ao
 | .call f args=>match op with
   |.call ⟨.value (.func f'),az,_⟩=>f'==f&&G6 n az.toList args&&rW P f
   |_=>false
 | .Dv x args=>match op with
   |.call ⟨.value x',az,_⟩=>gW n x' x&&G6 n az.toList args
   |_=>false
def CP (P:Program)(n m:Nat)(ops:Array Oper)(o:Oper)(ao:gX):Bool:=
 D6 n ops o.guard ao.g&&UD n o.dst ao.d&&Lu P n m o.op o.dst ao.i
theorem Ia (h:GX E I ρ n st a w):∀{xs:List Operand} {ys:List jK},G6 n xs ys=true->(∀y,y∈ys->(y.ev st.tm).g=true) ->
 NU I ρ (xs.map a.eval) (ys.map (bT st.tm))
 |[],[],_,_=>⟨rfl,λj v x hv hx=>by simp at hv⟩
 | x::xs,y::ys,hc,hg=>by
   simp only[G6,af]at hc;have ih:=Ia h hc.2 (λy hy=>hg y (bW _ hy));refine⟨by simpa using ih.1,λj v z hv hz=>?_⟩;cases j with
   | zero=>simp at hv hz;subst hv;subst hz;exact jl h hc.1 (hg y (aK ..))
   |succ j=>exact ih.2 j v z (by simpa using hv) (by simpa using hz)
 |[],_::_,hc,_=>by cases hc
 |_::_,[],hc,_=>by cases hc
theorem Zf {d d':Option Nat}(h:UD n d d'=true):d=d'/\∀x,d'=some x->x<n:=by
 unfold UD at h;split at h
 ·exact⟨rfl,λx hx=>by cases hx⟩
 ·simp only[af,beq_iff_eq,decide_eq_true_eq]at h;obtain⟨rfl,h2⟩:=h;exact⟨rfl,λx hx=>by cases hx;exact h2⟩
 ·cases h
theorem Sl (h:GX E I ρ n st a w){ops:Array Oper}{o:Oper}{g:Option (Nat×Bool)}(hc:D6 n ops o.guard g=true)(hv:xG st.tm g) :
 uN o (yielded ops a.tmps)=l9 st.tm g:=by
 unfold D6 at hc;split at hc
 ·rename_i e;simp[uN,e,l9]
 ·rename_i j wnt s ahO e;simp only[af,beq_iff_eq,decide_eq_true_eq]at hc;obtain⟨⟨rfl,hs⟩,hj⟩:=hc;have hb:(ops[j]?).bind (·.dst)=some s:=by
   cases hoj:ops[j]? with
   |none=>rw[hoj]at hj;cases hj
   |some o'=>rw[hoj]at hj;simpa using hj
  have ht:=h.tm s hs;have hsz:s<a.tmps.size:=by rw[h.size];exact hs
  have hget:a.tmps[s]? = some (a.tmps.getD s undef):=by simp[Array.getD,hsz]
  simp only[uN,e,l9,yielded,hb,Option.bind_some,hget];simp only[xG]at hv;split at hv
  ·rename_i x hg;rw[hg]at ht;have:=ht.2 rfl;rw[this,hg];simp[undef]
  ·rename_i b hg;rw[hg]at ht;have:=CV (ht.1 rfl);rw[this,hg];simp
  ·exact hv.elim
 ·cases hc
theorem zq {o:Oper}{x:Operand}{az:Array Operand}{ts:Array TypeId}{f:FuncId}{caps:Array Value}(ho:o.op = .call ⟨.value x,az,ts⟩)(hx:a.eval x = .func (.func f) #[] caps)(hf:rW P f=true) :
 (execOp a.eval o).run P w = .ok (.enter f (az.map a.eval++caps)) w:=by
 unfold rW at hf;cases hp:P.funcs[f]? with
 |none=>rw[hp]at hf;cases hf
 | some fn=>
   rw[hp]at hf;simp only[af,gy]at hf;obtain⟨h1,h2⟩:=hf;have h1':¬fn.name = "runtime.NumGoroutine" :=by simpa using h1
   obtain⟨b,hb⟩:=nM.1 h2;simp[execOp,ho,resolve,hx,Go.Deferred.ofValue,invoke,callFunc,hp,h1',hb]
theorem Dk {o:Oper}{f:FuncId}{args:Array Value}{K:Act->World->Prop}{Q:Exit->Act->World->Prop}(he:(execOp a.eval o).run P w = .ok (.enter f args) w)
 (h:Calls P f args w λe w'=>∃v,e = .returned v/\K (a.put o.dst v) w'):o.wp P a w K Q:=by
 unfold rF;rw[he,Oper.upon_enter];refine h.mono ?_;rintro e w' ⟨v,rfl,hk⟩;exact hk
theorem BA (h:GX E I ρ n st a w)(hm:E.m<=10){f:FuncId}{vs:List Value}{oD:List AV}{d:Option Nat}{K:List Nat->List Nat->dP->Prop}(hd:∀x,d=some x->x<n)(hv:NU I ρ vs oD)
 (hT:FH P f oD true d st K) {X:Ending->World->Prop} (hX:Pq P f vs w X):Calls P f vs.toArray w λe w'=>(∃v,e = .returned v/\AK E n (λst=>∃rd wr,K rd wr st) (a.put d v) w')/\X e w'/\w.heap.size<=w'.heap.size:=by
 cases hT with
 |lit ds r hc hds hh hr k=>exact Y4 h hd hv (hc rfl) hds (hh rfl) hr ⟨_,_,k⟩ hX
 |pure ds r hp hc hds hh hr k=>exact Xu h hd hv hc hds hh hr ⟨_,_,k⟩ hX
 | J9 hp az hc ds fp sg nu post hl hn hf hne hnu hra hrf ha hh k=>have hv':=LM h (bs:=oD.flatMap AV.owns) hv hc (λb hb=>hb);have h':=h.freeze (oD.flatMap AV.owns);refine RN h' hm rfl hd hv' hl hn hf (λb hb=>⟨?_,(hnu b hb).2⟩) hra hrf ha hh (λr bs hpo=>⟨(k r bs hpo).1,_,_,(k r bs hpo).2⟩) hX;rw[uZ,(hnu b hb).1];split<;>rfl
 |gen hp ds fp sg nu post hl hn hf hne hnu hra hrf ha hh k=>exact RN h hm rfl hd hv hl hn hf hnu hra hrf ha hh (λr bs hpo=>⟨(k r bs hpo).1,_,_,(k r bs hpo).2⟩) hX
theorem Dj {f:FuncId}{oD:List AV}{d:Option Nat}{K:List Nat->List Nat->dP->Prop}(hT:FH P f oD false d st K):∃r rd wr,K rd wr (st.uA d (.v false r)):=by
 cases hT with
 |lit ds r hc hds hh hr k=>exact⟨_,_,_,k⟩
 |pure ds r hp=>cases hp
 |gen hp=>cases hp
 |J9 hp=>cases hp
def zF (P:Program)(ops:Array Oper)(Q:Exit->Act->World->Prop)(o:Oper)(K:Act->World->Prop)(a:Act)(w:World):Prop:=
 if uN o (yielded ops a.tmps)then o.wp P a w K Q\/(o.asks P a w/\LetsOut Q)else K (a.put o.dst undef) w
theorem AK.imp {K K':dP->Prop}(hk:∀st,K st->K' st){a:Act}{w:World}(h:AK E n K a w):AK E n K' a w:=
 let ⟨I,ρ,st,h1,h2⟩:=h;⟨I,ρ,st,hk _ h1,h2⟩
theorem VW (h:GX E I ρ n st a w)(hm:E.m<=10){ops:Array Oper}{Q:Exit->Act->World->Prop}{o:Oper}{ao:gX}(hc:CP P n E.m ops o ao=true){K:List Nat->List Nat->dP->Prop}(hT:T P ao st K) :
 zF P ops Q o (AK E n λst=>∃rd wr,K rd wr st) a w:=by
 simp only[CP,af]at hc;obtain⟨⟨hcg,hcd⟩,hci⟩:=hc;obtain⟨hdd,hdn⟩:=Zf hcd;obtain⟨hgv,hT⟩:=hT;have hw:=Sl h hcg hgv;have skip:∀r,(∃rd wr,K rd wr (st.uA ao.d (.v false r)))->AK E n (λst=>∃rd wr,K rd wr st) (a.put o.dst undef) w:=λr hk=>⟨I,ρ,_,hk,by rw[hdd];exact h.uA hdn ⟨(λe=>by cases e),λ_=>rfl⟩⟩;unfold zF;rw[hw];cases hi:ao.i with
 | op op=>
   rw[hi]at hT hci;obtain⟨h1,h2⟩:=hT;cases hp:l9 st.tm ao.g with
   | false=>simpa using skip _ ⟨_,_,h2 hp⟩
   | true=>
     obtain⟨hv,fH,h3⟩:=h1 hp;obtain⟨v,w',I',ρ',hr,hg,adq,heff⟩:=Tm h hci hv fH;simp only[if_true];refine .inl ?_;have key:AK E n (λst=>∃rd wr,K rd wr st) (a.put o.dst v) w':=by
      refine⟨I',ρ',_,⟨_,_,h3⟩,?_⟩;rw[hdd];cases hd:ao.d with
      |none=>exact hg
      |some d=>exact hg.put (hdn d hd) ⟨λ_=>adq (by rw[hdd,hd];simp),λe=>by cases e⟩
     unfold rF;rcases hr with hr|⟨hr,hnd⟩
     ·rw[hr];exact key
     ·rw[hr,xA];rw[hnd]at key⊢;exact key
 | call f args=>
   rw[hi]at hT hci;simp only[Lu]at hci;split at hci
   ·rename_i f' az ts ho;simp only[af,beq_iff_eq]at hci;obtain⟨⟨rfl,hca⟩,hok⟩:=hci;obtain⟨h1,h2⟩:=hT;cases hp:l9 st.tm ao.g with
    | false=>rw[hp]at h2;obtain⟨r,hk⟩:=Dj h2;simpa using skip r hk
    | true=>rw[hp]at h1 h2;simp only[if_true];refine .inl (Dk (zq ho (x:=.func f') (caps:= #[]) rfl hok) ?_);have hvs:=Ia h hca (h1 rfl);have:=(BA h hm hdn hvs h2 .VK).mono λ_ _ h=>h.1;rw[hdd];simpa[<- Array.toList_map]using this
   ·cases hci
 | Dv x args=>
   rw[hi]at hT hci;simp only[Lu]at hci;split at hci
   ·rename_i x' az ts ho;simp only[af]at hci;obtain⟨hcx,hca⟩:=hci;obtain⟨hg0,h2⟩:=hT;cases hp:l9 st.tm ao.g with
    | false=>rw[hp]at h2;obtain⟨r,hk⟩:=Dj h2;simpa using skip r hk
    |true=>
    rw[hp]at h2;obtain⟨hg1,h1⟩:=hg0 hp;split at h2
    ·rename_i hb;cases hb
    ·rename_i f caps _ hf;obtain⟨hok,h2⟩:=h2;have hx:=jl h hcx hg1;rw[hf]at hx;obtain⟨ks,hk1,hk2,hk3⟩:=hx
     ·skip
      simp only[if_true];refine .inl (Dk (zq ho hk3 hok) ?_);have hvs:=Ia h hca h1;have hvs':NU I ρ (az.toList.map a.eval++ks.map λk=>kL (some ⟨k,0,none⟩)) (args.map (bT st.tm)++caps.map λb=>AV.one (.ptr b 0)):=by
       refine⟨by have:=hvs.1;simp at this;simp[hk1,this],λj v z hv hz=>?_⟩;by_cases hj:j<(az.toList.map a.eval).length
       ·rw[aU hj]at hv;rw[aU (by rw[<- hvs.1];exact hj)]at hz;exact hvs.2 j v z hv hz
       ·rw[bJ (by omega)]at hv;rw[bJ (by rw[<- hvs.1];omega)]at hz;rw[hvs.1]at hv;generalize j-(args.map (bT st.tm)).length=i at hv hz;rw[bn]at hv hz;cases hki:ks[i]? with
        |none=>rw[hki]at hv;cases hv
        | some k=>
          cases hci:caps[i]? with
          |none=>rw[hci]at hz;cases hz
          | some b=>rw[hki]at hv;rw[hci]at hz;simp at hv hz;subst hv;subst hz;obtain⟨cap,hr⟩:=hk2 i b k hci hki;exact⟨k,cap,hr,rfl⟩
      have:=(BA h hm hdn hvs' h2 .VK).mono λ_ _ h=>h.1;rw[hdd];have e:(az.map a.eval++(ks.map λk=>kL (some ⟨k,0,none⟩)).toArray)=(az.toList.map a.eval++ks.map λk=>kL (some ⟨k,0,none⟩)).toArray:=(by apply uo;simp);rw[e];exact this
    ·exact h2.elim
   ·cases hci
end
end
section
def Au (d:Option Nat)(Γ : List OF):List OF:= Γ.filter λf=>match d with
 |some d=>AX d f
 |none=>true
def ET (Γ : List OF):Operand->Option (Bool×Knd)
 |.func f=>some (false,kindOf f)
 | .tmp t=>(Γ.filterMap λf=>match f with
   |.fn y s=>if y=t then some (true,match s with|0=>Knd.rd|s+1=>Knd.ow (Zm s))else none
   |_=>none).head?
 |_=>none
def adA (Γ : List OF)(x:Operand):Bool:=match ET Γ x with
 |some (_,.rd)=>true
 |_=>false
def Gu (Γ : List OF):Op->Bool
 |.call ⟨.value x,_,_⟩=>adA Γ x
 |op=>wE op
def ac9 (s f n:Nat):Bool:=match s with
 |0=>kindOf f == .rd
 |s+1=>(match kindOf f with|.ow sg=>sg.ps==(Zm s).ps++aY n .any&&sg.rs==(Zm s).rs|_=>false)
def MQ (P:Program)(lz:Bool)(Γ : List OF)(o:Oper):Option (List OF):=
 if lz||o.guard.isSome then(if Gu Γ o.op then some (Au o.dst Γ)else none)else match o.op with
 | .call ⟨.value x,az,_⟩=>(match ET Γ x with
   |some (_,.rd)=>some (Au o.dst Γ)
   |some (_,.ow sg)=>if az.size==sg.ps.length then(JR Γ sg az.toList o.dst).map (Oz Γ o.dst)else none
   |_=>none)
 | .makeFunc (.func f) ⟨[]⟩ caps=>(match o.dst with
   |some d=>some ((([0,1,2,3,4].filter λs=>ac9 s f caps.size).map (.fn d))++Au (some d) Γ)
   |none=>none)
 | .assign (.const v)=>(match o.dst with
   |some d=>some (if abW v then .ref d ⟨0,o.type,mk d 0⟩::Au (some d) Γ else Au (some d) Γ)
   |none=>none)
 |op=>(aau P Γ o.dst op).map (WG Γ o.dst)
def JS (P:Program)(lz:Bool)(Γ : List OF)(o:Oper)(ao:gX):Option (List OF):=match ao.i,o.op with
 |.op _,.call ⟨.value _,_,_⟩=>some (Au o.dst Γ)
 |_,_=>MQ P lz Γ o
def FP (P:Program)(pl:List Nat)(lz:Bool)(Γ : List OF)(o:Oper)(ao:gX):Option (List OF):=if(pl.any λi=>o.dst==some i)then none else JS P lz Γ o ao
theorem abI {s f n:Nat}(h:ac9 s f n=true):FV s f n:=by
 unfold ac9 at h;unfold FV;split at h
 ·simpa using h
 ·split at h
  ·rename_i sg hk;simp only[af,beq_iff_eq]at h;exact⟨sg,hk,h.1,h.2⟩
  ·cases h
section
variable {P:Program} {E:Env P} {I:IH} {ρ:Ren} {n:Nat} {st:dP} {a:Act} {w w':World} {Γ : List OF} {g0:Own} {dp:Nat} {lz:Bool}
def LY (E:Env P)(g0:Own)(dp:Nat)(Γ : List OF)(a:Act)(w:World):Prop:=∃g,Rel dp E.w0.heap.size g0 g/\OW P FV g dp Γ a w
theorem LY.drop (h:LY E g0 dp Γ a w)(d:Option Nat)(v:Value):LY E g0 dp (Au d Γ) (a.put d v) w:=by
 obtain⟨g,h1,h2⟩:=h;cases d with
 |none=>exact⟨g,h1,h2.weak λf hf=>(aJ.1 hf).1⟩
 |some d=>exact⟨g,h1,h2.drop d v⟩
theorem LY.world (h:LY E g0 dp Γ a w)(hs:w.heap.size<=w'.heap.size)(hF:xK w w' λ_=>False):LY E g0 dp Γ a w':=by
 obtain⟨g,h1,h2⟩:=h;refine⟨g,h1,h2.world hs λk hk=>hF.block k ?_ (λh=>h)⟩;cases hg:g k with
 |none=>exact absurd hg hk
 |some B=>exact h2.good.lt hg
theorem LY.weak {vO:List OF}(h:LY E g0 dp Γ a w)(hs:∀f,f∈vO->f ∈ Γ):LY E g0 dp vO a w:=
 let ⟨g,h1,h2⟩:=h;⟨g,h1,h2.weak hs⟩
theorem Oq : ∀{xs:List Operand} {ps:List PK} {i n:Nat} {r:List (Nat×Nat)×List (Nat×Nat)},zJ Γ i xs ps=some r->xs.length=ps.length->zJ Γ i xs (ps++aY n .any)=some r
 |[],[],i,n,r,h,_=>by simpa[zJ]using h
 | x::xs,p::ps,i,n,r,h,hl=>by
   simp only[zJ,yt]at h⊢;split at h
   ·rename_i l o l' o' h1 h2;rw[h1,Oq h2 (by simpa using hl)];exact h
   ·cases h
 |_::_,[],i,n,r,_,hl=>by simp at hl
 |[],_::_,i,n,r,_,hl=>by simp at hl
theorem Xn : ∀{xs:List Operand} {ps:List PK} {i:Nat} {mv vars:List (Nat×Nat)},zJ Γ i xs ps=some (mv,vars)->∀j b,(j,b)∈vars->j-i<ps.length:=by intro xs ps i mv vars h j b hb;obtain⟨rs,x,s,h1,_⟩:=F8 h j b hb;exact(ax.1 h1).1
theorem Yc {sg:Rk}{xs:List Operand}{d:Option Nat}{C:CR}{m:Nat}(h:JR Γ sg xs d=some C)(hl:xs.length=sg.ps.length):JR Γ ⟨sg.ps++aY m .any,sg.rs⟩ xs d=some C:=by
 unfold JR at h⊢;split at h
 ·rename_i mv vars ha;rw[Oq ha hl]
  dsimp only
  split at h
  ·cases h
  ·rename_i hn;rw[if_neg hn];split at h
   ·exact h
   ·rename_i i b;have hi:i<sg.ps.length:=(by have:=Xn ha i b (aK ..);omega);have:NL (sg.ps++aY m .any) i=NL sg.ps i:=by
     unfold NL;rw[aU hi]
    simp only[this];exact h
   ·cases h
 ·cases h
theorem adI (h:GX E I ρ n st a w)(DL:LY E g0 dp Γ a w){o:Oper}{vO:List OF}{v:Value}(hg:o.guard=none\/Gu Γ o.op=true)(ho:MQ P lz Γ o=some vO)(hd:∀d,o.dst=some d->d<n)(hnc:∀c,o.op = .call c->∀x,c.callee ≠ .value x)
 (hr:(execOp a.eval o).run P w = .ok (.value v) w'\/(execOp a.eval o).run P w = .ok .skip w'/\o.dst=none) (he:Eff o a w w'):LY E g0 dp vO (a.put o.dst v) w':=by
 unfold MQ at ho;split at ho
 ·rename_i hgs;split at ho
  ·rename_i hq;cases ho;have hq':wE o.op=true:=by
    unfold Gu at hq;split at hq
    ·rename_i x az ts hop;exact absurd rfl (hnc _ hop x)
    ·exact hq
   have hw:=he.quiet hq';subst hw;exact DL.drop _ _
  ·cases ho
 ·obtain⟨g,h1,h2⟩:=DL;split at ho
  ·rename_i x az ts hop;exact absurd rfl (hnc _ hop x)
  ·rename_i f caps hop;split at ho
   ·rename_i d hdst;cases ho;have hq':wE o.op=true:=(by rw[hop];rfl);have hw:=he.quiet hq';subst hw;rw[hdst]at hr⊢;rcases hr with hr|hr
    ·refine⟨g,h1,h2.good,λf' hf=>?_⟩;rw[aV]at hf;rcases hf with hf|hf
     ·rw[aF]at hf;obtain⟨s,hs,rfl⟩:=hf;have hs:=(aJ.1 hs).2;simp only[execOp,hop,Instr.makeFunc,bF,aX,aN]at hr;have hv:v = .func (.func f) #[] (caps.map a.eval):=by
       have:=hr;simp at this;exact this.symm
      refine⟨f,caps.map a.eval,?_,by simpa using abI hs⟩;rw[dF (by rw[h.size];exact hd d hdst),hv]
     ·rw[Au,aJ]at hf;exact(h2.fs f' hf.1).put' hf.2
    ·cases hr.2
   ·cases ho
  ·rename_i cv hop;split at ho
   ·rename_i d hdst;have hq':wE o.op=true:=(by rw[hop];rfl);have hw:=he.quiet hq';subst hw;rw[hdst]at hr⊢;rcases hr with hr|hr
    ·simp only[execOp,hop,aX]at hr;have hv:v=cv:=by
      have:=hr;simp[Act.eval]at this;exact this.symm
     cases ho;refine⟨g,h1,h2.good,λf' hf=>?_⟩;have hdrop:f'∈Au (some d) Γ -> yw P FV g dp (a.put (some d) v) _ f':=λhf=>by rw[Au,aJ]at hf;exact(h2.fs f' hf.1).put' hf.2
     split at hf
     ·rename_i hnil;rcases aB.1 hf with rfl|hf
      ·refine⟨cv,?_,.inl (KI hnil)⟩;rw[dF (by rw[h.size];exact hd d hdst),hv];have e:=KI hnil;rw[QB]at e;rw[e];rfl
      ·exact hdrop hf
     ·exact hdrop hf
    ·cases hr.2
   ·cases ho
  ·simp only[bI]at ho;obtain⟨R,hR,rfl⟩:=ho;obtain⟨g',h3,h4⟩:=Tq h2 h.wu.size (λd e=>by rw[h.size];exact hd d e) hR hr he;exact⟨g',h1.trans h3,h4⟩
end
end
section
section
variable {ev ev':jK->AV} {bx bx':Nat->Box}
theorem Ag {o:Option jK}{k:Nat}(h:∀x,o=some x->ev x=ev' x):bnd ev o k=bnd ev' o k:=by
 cases o with
 |none=>rfl
 |some x=>simp only[bnd,h x rfl]
theorem Ar {n sz:Nat} : ∀{ps:List (Nat×jK)},(∀p,p∈ps->ev p.2=ev' p.2)->uj ev bx n sz ps=uj ev' bx n sz ps/\oz ev ps=oz ev' ps/\vF ev bx ps=vF ev' bx ps
 |[],_=>⟨rfl,rfl,rfl⟩
 | (i,x)::r,h=>by obtain⟨h1,h2,h3⟩:=Ar (n:=n) (sz:=sz) (ps:=r) (λp hp=>h p (bW _ hp));simp only[uj,oz,vF,h (i,x) (aK ..),h1,h2,h3,and_self]
theorem afP (op:jb)(he:∀x,x∈op.jV->ev x=ev' x):op.f ev bx=op.f ev' bx:=by
 cases op
 case build zs ps=>
  have h1:∀p,p∈ps->ev p.2.2=ev' p.2.2:=λp hp=>he _ (wO hp);simp only[jb.f]
  congr 1
  ·apply propext;constructor
   ·intro h p hp;rw[<- h1 p hp];exact h p hp
   ·intro h p hp;rw[h1 p hp];exact h p hp
  ·congr 2
   exact kH λp hp=>by rw[h1 p hp]
 case rH l sz n zs ps=>have h1:∀p,p∈ps->ev p.2=ev' p.2:=λp hp=>he _ (wO hp);obtain⟨c1,c2,c3⟩:=Ar (bx:=bx) (n:=n) (sz:=sz) h1;simp only[jb.f,c1,c2,c3]
 case Qy f cs=>have h1:cs.map ev=cs.map ev':=kH λx hx=>he x hx;simp only[jb.f,h1]
 case Pe x lo hi=>have h1:=he x (by simp[jb.jV]);have h2:∀y,lo=some y->ev y=ev' y:=λy hy=>he y (by simp[jb.jV,hy]);have h3:∀y,hi=some y->ev y=ev' y:=λy hy=>he y (by simp[jb.jV,hy]);simp only[jb.f,h1,Ag h2,Ag h3]
 case Af sz x lo hi=>have h1:=he x (by simp[jb.jV]);have h2:∀y,lo=some y->ev y=ev' y:=λy hy=>he y (by simp[jb.jV,hy]);have h3:∀y,hi=some y->ev y=ev' y:=λy hy=>he y (by simp[jb.jV,hy]);simp only[jb.f,h1,Ag h2,Ag h3]
 case tX sz x lo hi=>have h1:=he x (by simp[jb.jV]);have h2:∀y,lo=some y->ev y=ev' y:=λy hy=>he y (by simp[jb.jV,hy]);have h3:∀y,hi=some y->ev y=ev' y:=λy hy=>he y (by simp[jb.jV,hy]);have h4:bnd ev hi=bnd ev' hi:=funext λk=>Ag h3;simp only[jb.f,h1,Ag h2,h4]
 all_goals
  simp only[jb.jV,aB,gU,or_false,forall_eq_or_imp,forall_eq]at he;simp only[jb.f,he]
theorem afg (op:jb)(he:∀x,x∈op.jV->ev x=ev' x):op.rd ev=op.rd ev':=by
 cases op
 case build zs ps=>rfl
 case rH l sz n zs ps=>have h1:∀p,p∈ps->ev p.2=ev' p.2:=λp hp=>he _ (wO hp);simp only[jb.rd,(Ar (bx:=λ_=>.absent) (n:=n) (sz:=sz) h1).2.1]
 case Qy f cs=>rfl
 case Pe x lo hi=>rfl
 case Af sz x lo hi=>rfl
 case tX sz x lo hi=>rfl
 all_goals
  simp only[jb.jV,aB,gU,or_false,forall_eq_or_imp,forall_eq]at he;simp only[jb.rd,he]
theorem EH {sz:Nat}{x:AV}(h:∀b,b∈lvl x->bx b=bx' b):rU sz x bx=rU sz x bx':=by
 cases x with
 | one x=>
   cases x
   case own b n sz'=>simp only[rU,h b (by simp[lvl])]
   case sub b lo n c sz'=>simp only[rU,h b (by simp[lvl])]
   case c y=>cases y<;>rfl
   all_goals rfl
 |_=>rfl
theorem Z5 {agg:Bool}{k:Nat}{x:AV}(h:∀b,b∈lvl x->bx b=bx' b):uF agg k x bx=uF agg k x bx':=by
 cases x with
 | one x=>
   cases x
   case ptr b off=>simp only[uF,h b (by simp[lvl])]
   case uI b i sz off=>simp only[uF,h b (by simp[lvl])]
   all_goals rfl
 |_=>rfl
theorem XF {x:AC}(h:∀b,b∈kz [x]->bx b=bx' b):dataOf bx x=dataOf bx' x:=by
 cases x
 case own b n sz=>simp only[dataOf,h b (by simp[kz])]
 all_goals rfl
theorem O0 {x:AC}{r:List AC}{b:Nat} : b∈kz (x::r)<->b∈kz [x]\/b∈kz r:=by cases x<;>simp[kz]
theorem LP : ∀{xs:List AC},(∀b,b∈kz xs->bx b=bx' b)->Dw bx xs=Dw bx' xs/\uz bx xs=uz bx' xs/\Qh bx (kz xs)=Qh bx' (kz xs)
 |[],_=>⟨rfl,rfl,rfl⟩
 | x::r,h=>by
   obtain⟨h1,h2,h3⟩:=LP (xs:=r) (λb hb=>h b (O0.2 (.inr hb)));refine⟨?_,?_,kH λb hb=>by rw[h b hb]⟩
   ·simp only[Dw,h1,XF (x:=x) (λb hb=>h b (O0.2 (.inl hb)))]
   ·cases x
    case own b n sz=>simp only[uz,h2,h b (by simp[kz])]
    all_goals exact h2
theorem Yx {agg:Bool}{k:Nat}{p x:AV}(h:∀b,b∈lvl p++(match p with|.one (.uI _ _ _ _)=>kz x.cells|_=>[])->bx b=bx' b):uB agg k p x bx=uB agg k p x bx':=by
 cases p with
 | one p=>
   cases p
   case ptr b off=>simp only[uB,h b (by simp[lvl])]
   case uI b i sz off=>obtain⟨h1,h2,h3⟩:=LP (bx:=bx) (bx':=bx') (xs:=x.cells) (λc hc=>h c (by simp only[lvl,aV];exact .inr hc));have h4:=h b (by simp[lvl]);cases x<;>cases agg<;>first|rfl|(simp only[uB,h4,h1,h2,h3])
   all_goals rfl
 |_=>rfl
theorem JJ {n sz:Nat} : ∀{ps:List (Nat×jK)},(∀b,b∈oz ev ps->bx b=bx' b)->uj ev bx n sz ps=uj ev bx' n sz ps/\vF ev bx ps=vF ev bx' ps
 |[],_=>⟨rfl,rfl⟩
 | (i,x)::r,h=>by obtain⟨h1,h2⟩:=JJ (n:=n) (sz:=sz) (ps:=r) (λb hb=>h b (by simp only[oz,aV];exact .inr hb));obtain⟨g1,g2,g3⟩:=LP (bx:=bx) (bx':=bx') (xs:=(ev x).cells) (λb hb=>h b (by simp only[oz,aV];exact .inl hb));simp only[uj,vF,h1,h2,g1,g2,and_self]
theorem afO (op:jb)(hb:∀b,b∈op.rd ev->bx b=bx' b):op.f ev bx=op.f ev bx':=by
 cases op
 case load agg k p=>exact Z5 hb
 case store agg k p x=>exact Yx hb
 case alloc l zs=>simp only[jb.f,hb l (by simp[jb.rd])]
 case IJ T e l r=>simp only[jb.f,hb l (by simp[jb.rd]),hb r (by simp[jb.rd])]
 case II l sz n zs=>simp only[jb.f,hb l (by simp[jb.rd])]
 case box l x=>simp only[jb.f,hb l (by simp[jb.rd])]
 case rH l sz n zs ps=>
  obtain⟨h1,h2⟩:=JJ (bx:=bx) (bx':=bx') (n:=n) (sz:=sz) (ps:=ps) (λb hm=>hb b (by simp only[jb.rd];exact bW _ hm));have h3:Qh bx (oz ev ps)=Qh bx' (oz ev ps):=kH λb hm=>by rw[hb b (by simp only[jb.rd];exact bW _ hm)]
  simp only[jb.f,hb l (by simp[jb.rd]),h1,h2,h3]
 case makes l sz bytes zs n m=>simp only[jb.f,hb l (by simp[jb.rd])]
 case P7 x=>simp only[jb.f,EH hb]
 case O8 sz n x=>
  simp only[jb.f];cases hx:ev x with
  | one y=>
    cases y
    case uI b i sz off=>have:=hb b (by simp[jb.rd,lvl,hx]);cases i<;>cases off<;>simp only[this]
    all_goals rfl
  |_=>rfl
 case append l sz bytes s x=>
  have h1:=hb l (by simp[jb.rd]);simp only[jb.f,EH (x:=ev x) (λb hb'=>hb b (by simp[jb.rd,hb'])),h1];cases hs:ev s with
  | one y=>
    cases y
    case own b n sz'=>simp only[hb b (by simp[jb.rd,lvl,hs])]
    all_goals rfl
  |_=>rfl
 case copy sz d x=>
  simp only[jb.f,EH (x:=ev x) (λb hb'=>hb b (by simp[jb.rd,hb']))];cases hs:ev d with
  | one y=>
    cases y
    case own b n sz'=>simp only[hb b (by simp[jb.rd,lvl,hs])]
    all_goals rfl
  |_=>rfl
 case TJ l sz bytes s x=>
  have h1:=hb l (by simp[jb.rd]);simp only[jb.f,zQ,EH (x:=ev x) (λb hb'=>hb b (by simp[jb.rd,hb'])),h1];generalize rU sz (ev x) bx'=so;cases hs:ev s with
  | one y=>
    cases y
    case sub b lo n c sz'=>have h2:=hb b (by simp[jb.rd,lvl,hs]);cases c<;>rcases so with _|⟨p,ys⟩<;>first|rfl|(simp only[h2])
    all_goals(rcases so with _|⟨p,ys⟩<;>rfl)
  |_=>rcases so with _|⟨p,ys⟩<;>rfl
 case Ur l sz bytes zs s x=>
  have h1:=hb l (by simp[jb.rd]);simp only[jb.f,zI,h1];generalize ev x=y';have hb2:∀b,b∈lvl (ev s)->bx b=bx' b:=λb hb'=>hb b (by simp[jb.rd,hb']);rcases y' with x|x|x
  ·rcases x with c|_|_|_|_|_|_|_|_
   ·rcases c with v|_|_
    ·cases v
     case int k q=>
      cases hs:ev s with
      | one y=>
        cases y
        case sub b lo n c sz'=>have h2:=hb2 b (by simp[lvl,hs]);cases c<;>simp[h2]
        all_goals rfl
      |_=>rfl
     all_goals(generalize ev s=z;rcases z with(_|_|_|_|⟨b,lo,n,_|c,sz'⟩|_|_|_|_)|_|_<;>rfl)
    all_goals(generalize ev s=z;rcases z with(_|_|_|_|⟨b,lo,n,_|c,sz'⟩|_|_|_|_)|_|_<;>rfl)
   all_goals(generalize ev s=z;rcases z with(_|_|_|_|⟨b,lo,n,_|c,sz'⟩|_|_|_|_)|_|_<;>rfl)
  all_goals(generalize ev s=z;rcases z with(_|_|_|_|⟨b,lo,n,_|c,sz'⟩|_|_|_|_)|_|_<;>rfl)
 case Np sz d x=>
  have ht:∀m,lvl (truncS m (ev x))=lvl (ev x):=λm=>by rcases ev x with(_|_|_|_|_|_|_|_|_)|_|_<;>rfl
  have hsrc:∀m,rU sz (truncS m (ev x)) bx=rU sz (truncS m (ev x)) bx':=λm=>EH (λb hb'=>hb b (by rw[ht]at hb';simp[jb.rd,hb']));simp only[jb.f,zU,hsrc];cases hs:ev d with
  | one y=>
    cases y
    case own b n sz'=>have h2:=hb b (by simp[jb.rd,lvl,hs]);simp only[yA];rcases rU sz (truncS n (ev x)) bx' with _|⟨p,ys⟩<;>first|rfl|(simp only[h2])
    case sub b lo n c sz'=>have h2:=hb b (by simp[jb.rd,lvl,hs]);simp only[yA];rcases rU sz (truncS n (ev x)) bx' with _|⟨p,ys⟩<;>first|rfl|(simp only[h2])
    all_goals rfl
  |_=>rfl
 case ovl x y=>
  have key:∀(u:AV),(∀b,b∈lvl u->bx b=bx' b)->∀b lo n c sz,yA u=some (b,lo,n,c,sz)->bx b=bx' b:=by
   intro u hu b lo n c sz hs;unfold yA at hs;split at hs
   ·cases hs;exact hu _ (by simp[lvl])
   ·cases hs;exact hu _ (by simp[lvl])
   ·cases hs
  have k1:=key (ev x) (λb hb'=>hb b (by simp[jb.rd,hb']));have k2:=key (ev y) (λb hb'=>hb b (by simp[jb.rd,hb']));simp only[jb.f,QE];generalize yA (ev x)=u at k1;generalize yA (ev y)=v at k2;rcases u with _|⟨b,lo,n,c,sz⟩<;>rcases v with _|⟨b',lo',n',c',sz'⟩<;>try rfl
  simp only[k1 b lo n c sz rfl,k2 b' lo' n' c' sz' rfl]
 case Vz sz zs x=>
  simp only[jb.f,zT];cases hs:ev x with
  | one y=>
    cases y
    case own b n sz'=>simp only[yA,hb b (by simp[jb.rd,lvl,hs])]
    case sub b lo n c sz'=>simp only[yA,hb b (by simp[jb.rd,lvl,hs])]
    all_goals rfl
  |_=>rfl
 all_goals rfl
theorem aaV {e e':jK->Slot}(op:jb)(he:∀x,x∈op.jV->e x=e' x)(h:op.valid e):op.valid e':=by
 cases op
 case pick c a b=>have h1:=he c (by simp[jb.jV]);have h2:=he a (by simp[jb.jV]);have h3:=he b (by simp[jb.jV]);simp only[jb.valid,h1,h2,h3]at h⊢;exact h
 all_goals exact λx hx=>he x hx▸h x hx
theorem acG {x y:AC}(h:Cv bx x y)(hb:∀b,b∈kz [x]->bx b=bx' b):Cv bx' x y:=by
 cases h with
 |refl=>exact .refl _
 |xh sz=>exact .xh sz
 |own b n sz es ha hn=>exact .own b n sz es (by rw[<- hb b (by simp[kz])];exact ha) hn
theorem ac5 {xs ys:List AC}(h:CvL bx xs ys)(hb:∀b,b∈kz xs->bx b=bx' b):CvL bx' xs ys:=by
 induction h with
 |nil=>exact .nil
 |cons h t ih=>exact .cons (acG h λb hb'=>hb b (yg.2 (.inl hb'))) (ih λb hb'=>hb b (yg.2 (.inr hb')))
theorem ac3 {x y:AV}(h:CvA bx x y)(hb:∀b,b∈x.owns->bx b=bx' b):CvA bx' x y:=by
 cases h with
 |one h=>exact .one (acG h hb)
 |agg h=>exact .agg (ac5 h hb)
theorem P9 {xs ys:List AV}(h:FW bx xs ys)(hb:∀b,b∈xs.flatMap AV.owns->bx b=bx' b):FW bx' xs ys:=by
 induction h with
 |nil=>exact .nil
 |cons h t ih=>exact .cons (ac3 h λb hb'=>hb b (by rw[mX];exact bG _ hb')) (ih λb hb'=>hb b (by rw[mX];exact bU _ hb'))
end
structure KT where
 rd:List Nat
 wr:List Nat
 outs:Slot->List (Nat×Box)->Prop
inductive Am (P:Program)(f:FuncId)(oD:List AV)(p:Bool)(bx:Nat->Box):KT->Prop
 |lit (ds:List AV) (r:AV) (hc:p=true->FW bx oD ds) (hd:ds.all (·.all AC.qV)=true) (h:p=true->fD P f ds r) (hr:r.all AC.isLit=true) :
  Am P f oD p bx ⟨oD.flatMap AV.owns,[],λs bs=>s = .v p r/\bs=[]⟩
 |pure (ds:List AV) (r:AV) (hp:p=true) (hc:FW bx oD ds) (hd:ds.all (·.all AC.qV)=true) (h:fD P f ds r) (hr:r.all AC.qV=true) :
  Am P f oD p bx ⟨oD.flatMap AV.owns,oD.flatMap AV.owns,λs bs=>s = .v true r/\bs=(oD.flatMap AV.owns).map λb=>(b,BD (bx b))⟩
 |gen (hp:p=true) (ds:List AV) (fp:List Box) (sg nu:List Nat) (post:AV->List Box->Prop)
  (hl:sg.length=fp.length) (hn:(sg++nu).Nodup) (hf:∀i,i<fp.length->bx ((sg++nu).getD i 0)=xW (λb=>(sg++nu).getD b 0) (fp.getD i .absent))
  (hne:∃r bs,post r bs) (hv:∀b,b∈nu->bx b = .absent/\10<=b) (hra:(ds.all λx=>x.all (AC.oW fp.length))=true) (hrf:fp.all (Box.oW fp.length)=true) (ha:oD=ds.map (yu λb=>(sg++nu).getD b 0)) (h:nN P f ds fp post)
  (hlen:∀r bs,post r bs->bs.length=(sg++nu).length) :
  Am P f oD p bx ⟨sg++nu,sg++nu,λs bs=>∃r bs',post r bs'/\s = .v true (yu (λb=>(sg++nu).getD b 0) r)/\bs=(sg++nu).zip (bs'.map (xW λb=>(sg++nu).getD b 0))⟩
 |J9 (hp:p=true) (az:List AV) (hc:FW bx oD az) (ds:List AV) (fp:List Box) (sg nu:List Nat) (post:AV->List Box->Prop)
     (hl:sg.length=fp.length) (hn:(sg++nu).Nodup) (hf:∀i,i<fp.length->(if(sg++nu).getD i 0∈oD.flatMap AV.owns then BD (bx ((sg++nu).getD i 0))else bx ((sg++nu).getD i 0))=xW (λb=>(sg++nu).getD b 0) (fp.getD i .absent))
     (hne:∃r bs,post r bs) (hv:∀b,b∈nu->bx b = .absent/\10<=b) (hra:(ds.all λx=>x.all (AC.oW fp.length))=true) (hrf:fp.all (Box.oW fp.length)=true) (ha:az=ds.map (yu λb=>(sg++nu).getD b 0)) (h:nN P f ds fp post)
     (hlen:∀r bs,post r bs->bs.length=(sg++nu).length) :
     Am P f oD p bx ⟨oD.flatMap AV.owns++(sg++nu),oD.flatMap AV.owns++(sg++nu),λs bs=>∃r bs',post r bs'/\s = .v true (yu (λb=>(sg++nu).getD b 0) r) /\
      bs=((oD.flatMap AV.owns).map λb=>(b,BD (bx b)))++(sg++nu).zip (bs'.map (xW λb=>(sg++nu).getD b 0))⟩
def Iw (P:Program)(o:gX)(st:dP)(D:KT):Prop:=
 xG st.tm o.g/\match o.i with
  |.op op=>(l9 st.tm o.g=true->op.valid (jK.ev st.tm)/\(op.f (bT st.tm) st.bx).vc /\
   D=⟨op.rd (bT st.tm),(op.f (bT st.tm) st.bx).sets.map (·.1),λs bs=>s = .v true (op.f (bT st.tm) st.bx).v/\bs=(op.f (bT st.tm) st.bx).sets⟩) /\
   (l9 st.tm o.g=false->D=⟨[],[],λs bs=>s = .v false (.one .Em)/\bs=[]⟩)
  |.call f args=>(l9 st.tm o.g=true->∀x,x∈args->(x.ev st.tm).g=true)/\Am P f (args.map (bT st.tm)) (l9 st.tm o.g) st.bx D
  | .Dv x args=>(l9 st.tm o.g=true->(x.ev st.tm).g=true/\∀x,x∈args->(x.ev st.tm).g=true)/\match l9 st.tm o.g,bT st.tm x with
    |false,_=>Am P 0 [] false st.bx D
    |true,.one (.fn f caps)=>rW P f=true/\Am P f (args.map (bT st.tm)++caps.map λb=>.one (.ptr b 0)) true st.bx D
    |true,_=>False
section
variable {P:Program} {st st':dP} {K:List Nat->List Nat->dP->Prop}
theorem Jw {f:FuncId}{oD:List AV}{p:Bool}{d:Option Nat} : FH P f oD p d st K<->∃D,Am P f oD p st.bx D/\∀s bs,D.outs s bs->K D.rd D.wr ((st.mQ bs).uA d s):=by
 constructor
 ·intro h;cases h with
  |lit ds r hc hd hh hr k=>exact⟨_,.lit ds r hc hd hh hr,λs bs ⟨h1,h2⟩=>by subst h1;subst h2;exact k⟩
  |pure ds r hp hc hd hh hr k=>exact⟨_,.pure ds r hp hc hd hh hr,λs bs ⟨h1,h2⟩=>by subst h1;subst h2;rw[yH];exact k⟩
  | J9 hp az hc ds fp sg nu post hl hn hf hne hv hra hrf ha hh k=>exact⟨_,.J9 hp az hc ds fp sg nu post hl hn hf hne hv hra hrf ha hh (λr bs hp=>(k r bs hp).1),λs bs ⟨r,bs',hp,h1,h2⟩=>by subst h1;subst h2;rw[Di,yH];exact(k r bs' hp).2⟩
  | gen hp ds fp sg nu post hl hn hf hne hv hra hrf ha hh k=>exact⟨_,.gen hp ds fp sg nu post hl hn hf hne hv hra hrf ha hh (λr bs hp=>(k r bs hp).1),λs bs ⟨r,bs',hp,h1,h2⟩=>by subst h1;subst h2;exact(k r bs' hp).2⟩
 ·rintro⟨D,hD,hk⟩;cases hD with
  |lit ds r hc hd hh hr=>exact .lit ds r hc hd hh hr (hk _ _ ⟨rfl,rfl⟩)
  |pure ds r hp hc hd hh hr=>exact .pure ds r hp hc hd hh hr (by have:=hk _ _ ⟨rfl,rfl⟩;rw[yH]at this;exact this)
  | J9 hp az hc ds fp sg nu post hl hn hf hne hv hra hrf ha hh hlen=>exact .J9 hp az hc ds fp sg nu post hl hn hf hne hv hra hrf ha hh (λr bs hp=>⟨hlen r bs hp,by have:=hk _ _ ⟨r,bs,hp,rfl,rfl⟩;rw[Di,yH]at this;exact this⟩)
  | gen hp ds fp sg nu post hl hn hf hne hv hra hrf ha hh hlen=>exact .gen hp ds fp sg nu post hl hn hf hne hv hra hrf ha hh (λr bs hp=>⟨hlen r bs hp,hk _ _ ⟨r,bs,hp,rfl,rfl⟩⟩)
theorem Dt {o:gX} : T P o st K<->∃D,Iw P o st D/\∀s bs,D.outs s bs->K D.rd D.wr ((st.mQ bs).uA o.d s):=by
 unfold T Iw;cases o.i with
 | op op=>
   unfold TOp;cases hp:l9 st.tm o.g with
   | true=>
     constructor
     ·rintro⟨hg,h1,_⟩;obtain⟨a1,a2,a3⟩:=h1 rfl;exact⟨_,⟨hg,λ_=>⟨a1,a2,rfl⟩,λe=>by cases e⟩,λs bs ⟨e1,e2⟩=>by subst e1;subst e2;exact a3⟩
     ·rintro⟨D,⟨hg,h1,_⟩,hk⟩;obtain⟨a1,a2,rfl⟩:=h1 rfl;exact⟨hg,λ_=>⟨a1,a2,hk _ _ ⟨rfl,rfl⟩⟩,λe=>by cases e⟩
   | false=>
     constructor
     ·rintro⟨hg,_,h2⟩;exact⟨_,⟨hg,(λe=>by cases e),λ_=>rfl⟩,λs bs ⟨e1,e2⟩=>by subst e1;subst e2;exact h2 rfl⟩
     ·rintro⟨D,⟨hg,_,h2⟩,hk⟩;have:=h2 rfl;subst this;exact⟨hg,(λe=>by cases e),λ_=>hk _ _ ⟨rfl,rfl⟩⟩
 | call f args=>
   simp only[oV,Jw];constructor
   ·rintro⟨hg,h1,D,h2,h3⟩;exact⟨D,⟨hg,h1,h2⟩,h3⟩
   ·rintro⟨D,⟨hg,h1,h2⟩,h3⟩;exact⟨hg,h1,D,h2,h3⟩
 | Dv x args=>
   simp only;cases l9 st.tm o.g with
   | false=>
     simp only[oV,Jw];constructor
     ·rintro⟨hg,h1,D,h2,h3⟩;exact⟨D,⟨hg,h1,h2⟩,h3⟩
     ·rintro⟨D,⟨hg,h1,h2⟩,h3⟩;exact⟨hg,h1,D,h2,h3⟩
   |true=>
   cases bT st.tm x with
   | one y=>
     cases y
     case fn f caps=>
      simp only[oV,Jw];constructor
      ·rintro⟨hg,h1,h0,D,h2,h3⟩;exact⟨D,⟨hg,h1,h0,h2⟩,h3⟩
      ·rintro⟨D,⟨hg,h1,h0,h2⟩,h3⟩;exact⟨hg,h1,h0,D,h2,h3⟩
     all_goals exact⟨λh=>h.2.2.elim,λ⟨D,h,_⟩=>h.2.2.elim⟩
   |_=>exact⟨λh=>h.2.2.elim,λ⟨D,h,_⟩=>h.2.2.elim⟩
theorem Am.bx {f:FuncId}{oD:List AV}{p:Bool}{bx bx':Nat->Box}{D:KT}(h:Am P f oD p bx D)(hb:∀b,b∈D.rd->bx b=bx' b):Am P f oD p bx' D:=by
 cases h with
 |lit ds r hc hd hh hr=>exact .lit ds r (λe=>P9 (hc e) hb) hd hh hr
 | pure ds r hp hc hd hh hr=>have e:((oD.flatMap AV.owns).map λb=>(b,BD (bx b)))=(oD.flatMap AV.owns).map λb=>(b,BD (bx' b)):=kH λb hb'=>(by rw[hb b hb']);simp only[e];exact .pure ds r hp (P9 hc hb) hd hh hr
 | J9 hp az hc ds fp sg nu post hl hn hf hne hv hra hrf ha hh hlen=>
   have e:((oD.flatMap AV.owns).map λb=>(b,BD (bx b)))=(oD.flatMap AV.owns).map λb=>(b,BD (bx' b)):=kH λb hb'=>(by rw[hb b (bG _ hb')]);simp only[e];refine .J9 hp az (P9 hc λb hm=>hb b (bG _ hm)) ds fp sg nu post hl hn (λi hi=>?_) hne (λb hm=>?_) hra hrf ha hh hlen
   ·rw[<- hb]
    ·exact hf i hi
    ·show(sg++nu).getD i 0∈oD.flatMap AV.owns++(sg++nu);have:i<(sg++nu).length:=(by simp;omega);rw[aQ,aj this];exact bU _ (bz this)
   ·rw[<- hb b (bU _ (bU _ hm))];exact hv b hm
 | gen hp ds fp sg nu post hl hn hf hne hv hra hrf ha hh hlen=>
   refine .gen hp ds fp sg nu post hl hn (λi hi=>?_) hne (λb hm=>?_) hra hrf ha hh hlen
   ·rw[<- hb]
    ·exact hf i hi
    ·show(sg++nu).getD i 0∈sg++nu;have:i<(sg++nu).length:=(by simp;omega);rw[aQ,aj this];exact bz this
   ·rw[<- hb b (bU _ hm)];exact hv b hm
theorem Am.ne {f:FuncId}{oD:List AV}{p:Bool}{bx:Nat->Box}{D:KT}(h:Am P f oD p bx D):∃s bs,D.outs s bs:=by
 cases h with
 |lit=>exact⟨_,_,rfl,rfl⟩
 |pure=>exact⟨_,_,rfl,rfl⟩
 |gen hp ds fp sg nu post hl hn hf hne=>obtain⟨r,bs,h⟩:=hne;exact⟨_,_,r,bs,h,rfl,rfl⟩
 |J9 hp az hc ds fp sg nu post hl hn hf hne=>obtain⟨r,bs,h⟩:=hne;exact⟨_,_,r,bs,h,rfl,rfl⟩
theorem Am.fst {f:FuncId}{oD:List AV}{p:Bool}{bx:Nat->Box}{D:KT}(h:Am P f oD p bx D){s:Slot}{bs:List (Nat×Box)}(ho:D.outs s bs):∀b,b∈bs.map (·.1)->b∈D.wr:=by
 cases h with
 |lit=>obtain⟨_,rfl⟩:=ho;intro b hb;simp at hb
 |pure=>obtain⟨_,rfl⟩:=ho;intro b hb;simpa using hb
 | J9 hp az hc ds fp sg nu post hl hn hf hne=>
   obtain⟨r,bs',_,_,rfl⟩:=ho;intro b hb;rw[mG,aV]at hb;rcases hb with hb|hb
   ·exact bG _ (by simpa using hb)
   ·obtain⟨x,hx,rfl⟩:=aF.1 hb;exact bU _ (List.of_mem_zip (a:=x.1) (b:=x.2) hx).1
 | gen hp ds fp sg nu post hl hn hf hne=>obtain⟨r,bs',_,_,rfl⟩:=ho;intro b hb;obtain⟨x,hx,rfl⟩:=aF.1 hb;exact(List.of_mem_zip (a:=x.1) (b:=x.2) hx).1
theorem Iw.ne {o:gX}{D:KT}(h:Iw P o st D):∃s bs,D.outs s bs:=by
 obtain⟨_,h⟩:=h;split at h
 ·cases hp:l9 st.tm o.g with
  |true=>obtain⟨_,_,rfl⟩:=h.1 hp;exact⟨_,_,rfl,rfl⟩
  |false=>have:=h.2 hp;subst this;exact⟨_,_,rfl,rfl⟩
 ·exact h.2.ne
 ·obtain⟨_,h⟩:=h;split at h
  ·exact h.ne
  ·exact h.2.ne
  ·exact h.elim
theorem Iw.fst {o:gX}{D:KT}(h:Iw P o st D){s:Slot}{bs:List (Nat×Box)}(ho:D.outs s bs):∀b,b∈bs.map (·.1)->b∈D.wr:=by
 obtain⟨_,h⟩:=h;split at h
 ·cases hp:l9 st.tm o.g with
  |true=>obtain⟨_,_,rfl⟩:=h.1 hp;obtain⟨_,rfl⟩:=ho;exact λb hb=>hb
  |false=>have:=h.2 hp;subst this;obtain⟨_,rfl⟩:=ho;exact λb hb=>hb
 ·exact h.2.fst ho
 ·obtain⟨_,h⟩:=h;split at h
  ·exact h.fst ho
  ·exact h.2.fst ho
  ·exact h.elim
def KP.slots (i:KP):List Nat:=match i with
 |KP.op o=>o.jV.flatMap jK.slots
 |KP.call _ args=>args.flatMap jK.slots
 |KP.Dv x args=>x.slots++args.flatMap jK.slots
def gX.slots (o:gX):List Nat:=o.g.toList.map (·.1)++o.i.slots
def gX.ZQ (o:gX):Bool:=match o.i with
 |KP.op _=>true
 |_=>false
theorem V9 {tm tm':Nat->Slot}{x:jK}(h:∀t,t∈x.slots->tm t=tm' t):x.ev tm=x.ev tm':=by
 cases x with
 |t s=>exact h s (by simp[jK.slots])
 |k x=>rfl
theorem Zt {tm tm':Nat->Slot}{g:Option (Nat×Bool)}(h:∀t,t∈g.toList.map (·.1)->tm t=tm' t):(xG tm g<->xG tm' g)/\l9 tm g=l9 tm' g:=by
 cases g with
 |none=>exact⟨Iff.rfl,rfl⟩
 | some p=>obtain⟨s,w⟩:=p;have:=h s (by simp);simp only[xG,l9,this,and_self,iff_self]
theorem Iw.local {o:gX}{D:KT}(h:Iw P o st D)(ht:∀t,t∈o.slots->st.tm t=st'.tm t)(hb:∀b,b∈D.rd->st.bx b=st'.bx b):Iw P o st' D:=by
 unfold Iw at h⊢;obtain⟨hg1,hg2⟩:=Zt (tm:=st.tm) (tm':=st'.tm) (g:=o.g) (λt h'=>ht t (bG _ h'));have ht':∀t,t∈o.i.slots->st.tm t=st'.tm t:=λt h'=>ht t (bU _ h');refine⟨hg1.1 h.1,?_⟩;obtain⟨_,h⟩:=h;rw[hg2]at h;cases hi:o.i with
 | op op=>simp only[hi,KP.slots]at h ht'⊢;have he:∀x,x∈op.jV->jK.ev st.tm x=jK.ev st'.tm x:=λx hx=>V9 λt hm=>ht' t (iw.2 ⟨x,hx,hm⟩);have hea:∀x,x∈op.jV->bT st.tm x=bT st'.tm x:=λx hx=>(by unfold bT;rw[he x hx]);obtain⟨h1,h2⟩:=h;refine⟨λe=>?_,h2⟩;obtain⟨a1,a2,rfl⟩:=h1 e;have hf:op.f (bT st.tm) st.bx=op.f (bT st'.tm) st'.bx:=(afO op hb).trans (afP op hea);rw[hf]at a2;refine⟨aaV op he a1,a2,?_⟩;rw[hf,afg op hea]
 | call f args=>simp only[hi,KP.slots]at h ht'⊢;have he:∀x,x∈args->jK.ev st.tm x=jK.ev st'.tm x:=λx hx=>V9 λt hm=>ht' t (iw.2 ⟨x,hx,hm⟩);have hm:args.map (bT st.tm)=args.map (bT st'.tm):=kH λx hx=>(by unfold bT;rw[he x hx]);rw[hm]at h;exact⟨λe x hx=>he x hx▸h.1 e x hx,h.2.bx hb⟩
 | Dv x args=>
   simp only[hi,KP.slots]at h ht'⊢;have he:∀x,x∈args->jK.ev st.tm x=jK.ev st'.tm x:=λx hx=>V9 λt hm=>ht' t (bU _ (iw.2 ⟨x,hx,hm⟩));have hex:jK.ev st.tm x=jK.ev st'.tm x:=V9 λt hm=>ht' t (bG _ hm);have hm:args.map (bT st.tm)=args.map (bT st'.tm):=kH λx hx=>(by unfold bT;rw[he x hx]);have hmx:bT st.tm x=bT st'.tm x:=(by unfold bT;rw[hex]);obtain⟨h1,h2⟩:=h;rw[hm,hmx]at h2;refine⟨λe=>⟨hex▸(h1 e).1,λy hy=>he y hy▸(h1 e).2 y hy⟩,?_⟩;split at h2
   ·exact h2.bx hb
   ·exact⟨h2.1,h2.2.bx hb⟩
   ·exact h2.elim
theorem Iw.det {o:gX}{D D':KT}(hop:o.ZQ=true)(h:Iw P o st D)(h':Iw P o st D'):D=D':=by
 unfold Iw at h h';unfold gX.ZQ at hop;cases hi:o.i with
 | op op=>
   rw[hi]at h h';cases hp:l9 st.tm o.g with
   |true=>exact(h.2.1 hp).2.2.trans (h'.2.1 hp).2.2.symm
   |false=>exact(h.2.2 hp).trans (h'.2.2 hp).symm
 |call f args=>rw[hi]at hop;cases hop
 |Dv x args=>rw[hi]at hop;cases hop
end
end
section
section
variable {P:Program} {st st':dP}
theorem D9 {a b:List Nat} : Gh a b=true<->∀x,x∈a->x ∉ b:=by simp[Gh,aH]
def CE (x y:gX):Bool:=
 Gh x.d.toList y.slots&&Gh y.d.toList x.slots&&Gh x.d.toList y.d.toList&&(x.ZQ||y.ZQ)
def app (x:gX)(st:dP)(s:Slot)(bs:List (Nat×Box)):dP:=(st.mQ bs).uA x.d s
theorem F7 {x:gX}{s:Slot}{bs:List (Nat×Box)}{t:Nat}(h:t ∉ x.d.toList):(app x st s bs).tm t=st.tm t:=by
 unfold app;cases hd:x.d with
 |none=>simp only[dP.uA,Ii]
 | some d=>simp only[dP.uA,dP.MZ,Ii];rw[if_neg];intro e;subst e;exact h (by simp[hd])
theorem Ic (st:dP)(d:Option Nat)(s:Slot):(st.uA d s).bx=st.bx:=by cases d<;>rfl
theorem F6 {x:gX}{s:Slot}{bs:List (Nat×Box)}{b:Nat}(h:b ∉ bs.map (·.1)):(app x st s bs).bx b=st.bx b:=by unfold app;rw[Ic,EC _ _ h]
theorem Nr (l:List (Nat×Box)){st st':dP}{b:Nat}(h:st.bx b=st'.bx b):(st.mQ l).bx b=(st'.mQ l).bx b:=by
 induction l generalizing st st' with
 |nil=>exact h
 | cons x l ih=>
   obtain⟨c,y⟩:=x;simp only[dP.mQ];apply ih;simp only[dP.kX];split
   ·rfl
   ·exact h
theorem Ez (l:List (Nat×Box)){st st':dP}{b:Nat}(h:b∈l.map (·.1)):(st.mQ l).bx b=(st'.mQ l).bx b:=by
 induction l generalizing st st' with
 |nil=>simp at h
 | cons x l ih=>
   obtain⟨c,y⟩:=x;simp only[dP.mQ];by_cases hc:b=c
   ·apply Nr;simp[dP.kX,hc]
   ·simp only[aP,aB]at h;exact ih (h.resolve_left hc)
theorem Rw {x y:gX}{s s':Slot}{bs bs':List (Nat×Box)}(hd:Gh x.d.toList y.d.toList=true)(hb:∀b,b∈bs.map (·.1)->b ∉ bs'.map (·.1)) :
 app y (app x st s bs) s' bs'=app x (app y st s' bs') s bs:=by
 rw[D9]at hd;apply dP.ext'
 ·funext t
  by_cases h1:t∈x.d.toList
  ·have h2:=hd t h1;rw[F7 h2];cases hx:x.d with
   |none=>rw[hx]at h1;simp at h1
   | some d=>rw[hx]at h1;simp at h1;subst h1;simp[app,hx,dP.uA,dP.MZ]
  ·rw[F7 (x:=x) h1];by_cases h2:t∈y.d.toList
   ·cases hy:y.d with
    |none=>rw[hy]at h2;simp at h2
    | some d=>rw[hy]at h2;simp at h2;subst h2;simp[app,hy,dP.uA,dP.MZ]
   ·rw[F7 h2,F7 h2,F7 h1]
 ·funext b
  by_cases h1:b∈bs.map (·.1)
  ·rw[F6 (hb b h1)];unfold app;rw[Ic,Ic];exact Ez _ h1
  ·rw[F6 (x:=x) h1];by_cases h2:b∈bs'.map (·.1)
   ·unfold app;rw[Ic,Ic];exact Ez _ h2
   ·rw[F6 h2,F6 h2,F6 h1]
def apartB (rd wr rd' wr':List Nat):Bool:=Gh wr' rd&&Gh wr' wr&&Gh rd' wr
theorem Iw.skip {x y:gX}{D Dx:KT}(h:Iw P y st D)(hx:Iw P x st Dx)(hs:Gh x.d.toList y.slots=true)(hb:∀b,b∈Dx.wr->b ∉ D.rd){s:Slot}{bs:List (Nat×Box)}(ho:Dx.outs s bs):Iw P y (app x st s bs) D:=
 h.local (λt ht=>(F7 λhd=>(D9.1 hs) t hd ht).symm) (λb hr=>(F6 λhm=>hb b (hx.fst ho b hm) hr).symm)
theorem Iw.VL {x y:gX}{D Dx:KT}{s:Slot}{bs:List (Nat×Box)}(h:Iw P y (app x st s bs) D)(hx:Iw P x st Dx)(hs:Gh x.d.toList y.slots=true)(hb:∀b,b∈Dx.wr->b ∉ D.rd)(ho:Dx.outs s bs):Iw P y st D:=
 h.local (λt ht=>F7 λhd=>(D9.1 hs) t hd ht) (λb hr=>F6 λhm=>hb b (hx.fst ho b hm) hr)
theorem DV {rd wr rd' wr':List Nat}(h:apartB rd wr rd' wr'=true):(∀b,b∈wr->b ∉ rd')/\(∀b,b∈wr'->b ∉ rd)/\(∀b,b∈wr->b ∉ wr'):=by simp only[apartB,af,D9]at h;exact⟨λb h1 h2=>h.2 b h2 h1,h.1.1,λb h1 h2=>h.1.2 b h2 h1⟩
theorem acY {x y:gX}(hap:CE x y=true){K:List Nat->List Nat->List Nat->List Nat->dP->Prop}
 (h:T P x st λrd wr st1=>T P y st1 λrd' wr' st2=>apartB rd wr rd' wr'=true/\K rd wr rd' wr' st2) :
 T P y st λrd' wr' st2=>T P x st2 λrd wr st1=>apartB rd wr rd' wr'=true/\K rd wr rd' wr' st1:=by
 simp only[CE,af,eH]at hap;obtain⟨⟨⟨h1,h2⟩,h3⟩,h4⟩:=hap;rw[Dt]at h;obtain⟨Dx,hDx,h⟩:=h;rcases h4 with h4|h4
 ·
  obtain⟨s,bs,ho⟩:=hDx.ne;have hT:=h s bs ho;rw[Dt]at hT;obtain⟨Dy,hDy,hk⟩:=hT;obtain⟨s',bs',ho'⟩:=hDy.ne;obtain⟨a1,a2,a3⟩:=DV (hk s' bs' ho').1;have Su:Iw P y st Dy:=Iw.VL hDy hDx h1 a1 ho;rw[Dt];refine⟨Dy,Su,λs' bs' ho'=>?_⟩;rw[Dt];refine⟨Dx,hDx.skip Su h2 a2 ho',λs1 bs1 ho1=>?_⟩;have hT:=h s1 bs1 ho1;rw[Dt]at hT;obtain⟨Dy1,adh,hk1⟩:=hT;have hsame:s1=s/\bs1=bs:=by
   obtain⟨_,hD⟩:=hDx;unfold gX.ZQ at h4;split at h4
   ·rename_i op hi;rw[hi]at hD;cases hp:l9 st.tm x.g with
    |true=>obtain⟨_,_,rfl⟩:=hD.1 hp;exact⟨ho1.1.trans ho.1.symm,ho1.2.trans ho.2.symm⟩
    |false=>have:=hD.2 hp;subst this;exact⟨ho1.1.trans ho.1.symm,ho1.2.trans ho.2.symm⟩
   ·cases h4
  obtain⟨rfl,rfl⟩:=hsame;have:=hk s' bs' ho';show _/\K _ _ _ _ (app x (app y st s' bs') s1 bs1);rw[<- Rw h3 (λb hb hb'=>a3 b (hDx.fst ho b hb) (Su.fst ho' b hb'))];exact this
 ·
  obtain⟨s,bs,ho⟩:=hDx.ne;have hT:=h s bs ho;rw[Dt]at hT;obtain⟨Dy,hDy,hk⟩:=hT;obtain⟨s',bs',ho'⟩:=hDy.ne;obtain⟨a1,a2,a3⟩:=DV (hk s' bs' ho').1;have Su:Iw P y st Dy:=Iw.VL hDy hDx h1 a1 ho;rw[Dt];refine⟨Dy,Su,λs' bs' ho'=>?_⟩;rw[Dt];refine⟨Dx,hDx.skip Su h2 a2 ho',λs1 bs1 ho1=>?_⟩;have hT:=h s1 bs1 ho1;rw[Dt]at hT;obtain⟨Dy1,adh,hk1⟩:=hT;have hsame:Dy1=Dy:=by obtain⟨s2,bs2,ho2⟩:=adh.ne;obtain⟨b1,_,_⟩:=DV (hk1 s2 bs2 ho2).1;exact Iw.det h4 (Iw.VL adh hDx h1 b1 ho1) Su
  subst hsame;have:=hk1 s' bs' ho';show _/\K _ _ _ _ (app x (app y st s' bs') s1 bs1);rw[<- Rw h3 (λb hb hb'=>a3 b (hDx.fst ho1 b hb) (Su.fst ho' b hb'))];exact this
theorem IE {x:gX}{K K':List Nat->List Nat->dP->Prop}(hk:∀rd wr st,K rd wr st->K' rd wr st)(h:T P x st K):T P x st K':=by rw[Dt]at h⊢;obtain⟨D,hD,h⟩:=h;exact⟨D,hD,λs bs ho=>hk _ _ _ (h s bs ho)⟩
abbrev Log :=List (Nat×List Nat×List Nat)
theorem BZ {zZ rd wr:List Nat}{log:Log} : tH zZ rd wr log=true<->∀e,e∈log->e.1∈zZ\/apartB e.2.1 e.2.2 rd wr=true:=by
 induction log with
 |nil=>simp[tH]
 | cons e l ih=>obtain⟨j,r,w⟩:=e;simp only[tH,af,eH,ih,aB,forall_eq_or_imp,apartB,gm]
structure sG where
 i:Nat
 o:gX
 zZ:List Nat
def WY (P:Program):List sG->Log->dP->(dP->Prop)->Prop
 |[],_,st,K=>K st
 |x::r,log,st,K=>T P x.o st λrd wr st'=>tH x.zZ rd wr log=true/\WY P r ((x.i,rd,wr)::log) st' K
theorem WZ {K:dP->Prop} : ∀{l:List sG} {log adC:Log} {st:dP},(∀e,e∈adC->e∈log)->WY P l log st K->WY P l adC st K
 |[],_,_,_,_,h=>h
 | x::r,log,adC,st,hl,h=>by
   refine IE (λrd wr st' hk=>⟨?_,WZ (l:=r) ?_ hk.2⟩) h
   ·rw[BZ]at hk⊢;exact λe he=>hk.1 e (hl e he)
   ·intro e he;rcases aB.1 he with rfl|he
    ·exact aK ..
    ·exact bW _ (hl e he)
theorem JE {K:dP->Prop}{x:sG}{post:List sG} : ∀{pre:List sG} {log:Log} {st:dP},(∀p,p∈pre->p.i ∉ x.zZ/\CE p.o x.o=true)->WY P (pre++x::post) log st K->WY P (x::(pre++post)) log st K
 |[],_,_,_,h=>h
 | p::pre,log,st,hp,h=>by
   obtain⟨hn,hap⟩:=hp p (aK ..);have h1:T P p.o st λrd wr st1=>T P x.o st1 λrd' wr' st2=>apartB rd wr rd' wr'=true /\
    (tH p.zZ rd wr log=true/\tH x.zZ rd' wr' log=true/\WY P (pre++post) ((x.i,rd',wr')::(p.i,rd,wr)::log) st2 K):=by
    refine IE (λrd wr st1 hk=>?_) h;have h2:=JE (pre:=pre) (λq hq=>hp q (bW _ hq)) hk.2;refine IE (λrd' wr' st2 hk2=>?_) h2;have aeQ:=BZ.1 hk2.1;refine⟨(aeQ (p.i,rd,wr) (aK ..)).resolve_left hn,hk.1,BZ.2 λe he=>aeQ e (bW _ he),hk2.2⟩
   refine IE (λrd' wr' st2 hk=>?_) (acY hap h1);rw[Dt]at hk;obtain⟨D,hD,hk⟩:=hk;refine⟨?_,?_⟩
   ·obtain⟨s,bs,ho⟩:=hD.ne;exact(hk s bs ho).2.2.1
   ·show T P p.o st2 _;rw[Dt];refine⟨D,hD,λs bs ho=>?_⟩;obtain⟨k1,k2,k3,k4⟩:=hk s bs ho;refine⟨BZ.2 λe he=>?_,WZ ?_ k4⟩
    ·rcases aB.1 he with rfl|he
     ·right
      simp only[apartB,af,D9]at k1⊢;exact⟨⟨λb h1 h2=>k1.2 b h2 h1,λb h1 h2=>k1.1.2 b h2 h1⟩,λb h1 h2=>k1.1.1 b h2 h1⟩
     ·exact BZ.1 k2 e he
    ·intro e he;simp only[aB]at he⊢;rcases he with h|h|h
     ·exact .inr (.inl h)
     ·exact .inl h
     ·exact .inr (.inr h)
end
end
section
section
variable {P:Program} {E:Env P} {n:Nat} {ops:Array Oper} {Q:Exit->Act->World->Prop}
def IQ (P:Program)(n m:Nat)(ops:Array Oper):List Oper->List gX->Bool
 |[],[]=>true
 |o::os,x::xs=>CP P n m ops o x&&IQ P n m ops os xs
 |_,_=>false
theorem Nh (hm:E.m<=10):∀{os:List Oper} {xs:List gX} {K:dP->Prop} {a:Act} {w:World},IQ P n E.m ops os xs=true->AK E n (λst=>wpOps P xs st K) a w ->
 (∀a w,AK E n K a w->Q .normal a w)->wpList P ops Q os a w
 |[],[],K,a,w,_,h,hq=>hq a w h
 | o::os,x::xs,K,a,w,hc,h,hq=>by
   simp only[IQ,af]at hc;obtain⟨I,ρ,st,hT,hg⟩:=h;have h1:=VW (Q:=Q) (ops:=ops) hg hm hc.1 (show T P x st λ_ _ st'=>wpOps P xs st' K from hT);unfold zF at h1;unfold wpList;have key:∀a w,AK E n (λst=>∃rd wr:List Nat,wpOps P xs st K) a w->wpList P ops Q os a w:=λa w hk=>Nh hm hc.2 (hk.imp λst ⟨_,_,h⟩=>h) hq;split
   ·rename_i hw;rw[if_pos hw]at h1;exact h1.imp (vk key) id
   ·rename_i hw;rw[if_neg hw]at h1;exact key _ _ h1
 |[],_::_,_,_,_,hc,_,_=>by cases hc
 |_::_,[],_,_,_,hc,_,_=>by cases hc
def items : List (gX×List Nat)->Nat->List sG
 |[],_=>[]
 |(o,zZ)::r,i=>⟨i,o,zZ⟩::items r (i+1)
theorem VO {K:dP->Prop} : ∀{l:List (gX×List Nat)} {i:Nat} {log:Log} {st:dP},wpD P l i log st K=WY P (items l i) log st K
 |[],_,_,_=>rfl
 | (o,zZ)::r,i,log,st=>by
   simp only[wpD,items,WY]
   congr 1
   funext rd wr st'
   rw[VO (l:=r)]
def Ll (L:List sG)(o:Oper)(x:sG):Bool:=
 x.zZ.all (λj=>o.after.toList.any λe=>Region.binds .any e&&(e.on==j||L.any λy=>y.i==e.on&&y.zZ.contains j)) &&
 o.after.toList.all (λe=> !Region.binds .any e||decide (e.on<x.i))
def GY : List sG->Bool
 |[]=>true
 |x::r=>r.all (λy=>y.zZ.contains x.i||CE x.o y.o)&&GY r
def G5 (P:Program)(n m:Nat)(ops:Array Oper)(L:List sG)(x:sG):Bool:=
 match ops[x.i]? with
 |some o=>CP P n m ops o x.o&&Ll L o x
 |none=>false
def G7 (P:Program)(n m:Nat)(ops:Array Oper)(l:List (gX×List Nat)):Bool:=
 l.length==ops.size&&(items l 0).all (G5 P n m ops (items l 0))&&GY (items l 0)
theorem Ej : ∀{l:List (gX×List Nat)} {i:Nat},(∀x,x∈items l i->i<=x.i/\x.i<i+l.length)/\(items l i).Pairwise (λx y=>x.i<y.i)/\(∀j,j<l.length->∃x,x∈items l i/\x.i=i+j)
 |[],i=>⟨λx hx=>by simp[items]at hx,.nil,λj hj=>by simp at hj⟩
 | (o,zZ)::r,i=>by
   obtain⟨h1,h2,h3⟩:=Ej (l:=r) (i:=i+1);simp only[items,lU];refine⟨λx hx=>?_,kT.2 ⟨λy hy=>?_,h2⟩,λj hj=>?_⟩
   ·rcases aB.1 hx with rfl|hx
    ·exact⟨aA _,by simp⟩
    ·have:=h1 x hx;omega
   ·have:=(h1 y hy).1;show i<y.i;omega
   ·cases j with
    |zero=>exact⟨_,aK ..,rfl⟩
    | succ j=>obtain⟨x,hx,he⟩:=h3 j (by omega);exact⟨x,bW _ hx,by omega⟩
theorem D5 : ∀{l:List sG},GY l=true->l.Pairwise λx y=>x.i∈y.zZ\/CE x.o y.o=true
 |[],_=>.nil
 | x::r,h=>by simp only[GY,af,aH,eH,gm]at h;exact kT.2 ⟨h.1,D5 h.2⟩
theorem Ql {l:Array Bool}{i:Nat}(h:l.getD i true=false):l.getD i false=false:=by
 simp only[bQ]at *;cases hh:l[i]? with
 |none=>rw[hh]at h;cases h
 |some b=>rw[hh]at h;simpa using h
theorem Xl (hm:E.m<=10){L:List (gX×List Nat)}(hc:G7 P n E.m ops L=true){K:dP->Prop}(hq:∀a w,AK E n K a w->Q .normal a w) :
 ∀ (fuel:Nat) (l:List sG) (listed:Array Bool) (log:Log) (a:Act) (w:World),l.length<=fuel->l.Sublist (items L 0)->listed.size=ops.size ->
   (∀x,x∈items L 0->(listed.getD x.i true=false<->x∈l)) ->
   (∀x,x∈items L 0->listed.getD x.i false=true->∀j,j∈x.zZ->listed.getD j false=true) ->
   AK E n (λst=>WY P l log st K) a w->wpAny P .any ops Q fuel listed a w:=by
 simp only[G7,af,beq_iff_eq,aH]at hc;obtain⟨⟨hlen,hit⟩,hap⟩:=hc;obtain⟨i1,i2,i3⟩:=Ej (l:=L) (i:=0);have hpw:(items L 0).Pairwise λx y=>x.i<y.i/\(x.i∈y.zZ\/CE x.o y.o=true):=i2.and (D5 hap);have OG:∀x y,x∈items L 0->y∈items L 0->x.i=y.i->x=y:=by
  intro x y hx hy e;obtain⟨p,hp,rfl⟩:=nS hx;obtain⟨q,hq',rfl⟩:=nS hy;have ZH:=pO.1 i2;rcases uD p q with h|h|h
  ·have:=ZH p q hp hq' h;omega
  ·subst h;rfl
  ·have:=ZH q p hq' hp h;omega
 have U6:∀(l:List sG) (listed:Array Bool),l.Sublist (items L 0)->listed.size=ops.size->(∀x,x∈items L 0->(listed.getD x.i true=false<->x∈l))->mF .any ops listed=[]->l=[]:=by
  intro l listed hsub hsz hl hr;cases l with
  |nil=>rfl
  | cons x r=>
    exfalso;have hx:=hsub.subset (aK ..);have hc:=hit x hx;unfold G5 at hc;cases ho:ops[x.i]? with
    |none=>rw[ho]at hc;cases hc
    | some o=>
      rw[ho]at hc;simp only[af,Ll,aH,eH,gy,decide_eq_true_eq]at hc;have:x.i∈mF .any ops listed:=by
       rw[mem_ready];refine⟨(hl x hx).2 (aK ..),o,ho,λe he hb=>?_⟩;have hlt:=(hc.2.2 e (by simpa using he)).resolve_left (by rw[hb];simp);have hxi:=i1 x hx;obtain⟨y,hy,hye⟩:=i3 e.on (by omega);have hye:y.i=e.on:=(by omega);by_cases hyl:y∈x::r
       ·exfalso;rcases aB.1 hyl with rfl|hyr
        ·omega
        ·have:=(kT.1 (i2.sublist hsub)).1 y hyr;omega
       ·have h1:¬listed.getD y.i true=false:=λh=>hyl ((hl y hy).1 h);have hin:y.i<listed.size:=(by rw[hsz,<- hlen];have:=i1 y hy;omega);rw[<- hye];simp only[bQ,iC hin,jh]at h1⊢;simpa using h1
      rw[hr]at this;cases this
 intro fuel
 induction fuel with
 | zero=>
   intro l listed log a w hf hsub hsz hl _ h;have:l=[]:=nV.1 (by omega);subst this;refine⟨?_,hq a w h⟩;cases hr:mF .any ops listed with
   |nil=>rfl
   | cons i r=>exfalso;have hi:i∈mF .any ops listed:=(by rw[hr];exact aK ..);obtain⟨hu,o,ho,_⟩:=mem_ready.1 hi;have hlt:=(bP.1 ho).1;obtain⟨y,hy,hye⟩:=i3 i (by omega);have hye:y.i=i:=(by omega);have:=(hl y hy).1 (by rw[hye];exact hu);cases this
 | succ fuel ih=>
   intro l listed log a w hf hsub hsz hl hdown h;refine⟨λhr=>?_,λi hi=>?_⟩
   ·have:=U6 l listed hsub hsz hl hr;subst this;exact hq a w h
   ·obtain⟨hu,o,ho,hall⟩:=mem_ready.1 hi;have hlt:=(bP.1 ho).1;obtain⟨x,hx,hxe⟩:=i3 i (by omega);have hxe:x.i=i:=(by omega);subst hxe;have hxl:=(hl x hx).1 hu;have hcx:=hit x hx;unfold G5 at hcx;rw[ho]at hcx;simp only[af]at hcx;obtain⟨hco,hca⟩:=hcx;have haft:∀j,j∈x.zZ->listed.getD j false=true:=by
     intro j hj;simp only[Ll,af,aH,rG,eH,beq_iff_eq]at hca;obtain⟨e,he,hb,hej⟩:=hca.1 j hj;have hel:=hall e (by simpa using he) hb;rcases hej with rfl|⟨y,hy,hye,hyj⟩
     ·exact hel
     ·rw[<- hye]at hel;exact hdown y hy hel j (by simpa using hyj)
    obtain⟨pre,post,rfl⟩:=List.append_of_mem hxl;have Qo:=hpw.sublist hsub;rw[wo]at Qo;have hpre:∀p,p∈pre->p.i ∉ x.zZ/\CE p.o x.o=true:=by
     intro p hp;have h1:=Qo.2.2 p hp x (aK ..);have hn:p.i ∉ x.zZ:=by intro hm';have h2:=haft _ hm';have h3:=(hl p (hsub.subset (bG _ hp))).2 (bG _ hp);rw[Ql h3]at h2;cases h2
     exact⟨hn,h1.2.resolve_left hn⟩
    obtain⟨I,ρ,st,hT,hg⟩:=h;have hT:=JE hpre hT;have h1:=VW (Q:=Q) (ops:=ops) hg hm hco (show T P x.o st λrd wr st'=>tH x.zZ rd wr log=true/\WY P (pre++post) ((x.i,rd,wr)::log) st' K from hT);have key:∀a w,AK E n (λst=>∃rd wr,tH x.zZ rd wr log=true/\WY P (pre++post) ((x.i,rd,wr)::log) st K) a w->wpAny P .any ops Q fuel (listed.setIfInBounds x.i true) a w:=by
     rintro a w ⟨I,ρ,st,⟨rd,wr,_,hk⟩,hg⟩;have hnx:x ∉ pre++post:=by
      intro hxm;rcases aV.1 hxm with h|h
      ·have:=(Qo.2.2 x h x (aK ..)).1;omega
      ·have:=((kT.1 Qo.2.1).1 x h).1;omega
     refine ih (pre++post) _ ((x.i,rd,wr)::log) a w (by simp at hf⊢;omega) ?_ (by simp[hsz]) ?_ ?_ ⟨I,ρ,st,hk,hg⟩
     ·exact(List.Sublist.append_left (List.sublist_cons_self x post) pre).trans hsub
     ·intro y hy;by_cases hyx:y=x
      ·subst hyx;constructor
       ·intro h;have hin:y.i<listed.size:=(by rw[hsz];exact hlt);simp[hin]at h
       ·intro h;exact absurd h hnx
      ·have hne:x.i≠y.i:=λe=>hyx (OG y x hy hx e.symm);rw[getD_set_ne true hne,hl y hy];simp only[aV,aB,hyx,false_or]
     ·intro y hy hyl j hj;by_cases hyx:y=x
      ·subst hyx;exact getD_set_true (haft j hj)
      ·have hne:x.i≠y.i:=λe=>hyx (OG y x hy hx e.symm);rw[getD_set_ne false hne]at hyl;exact getD_set_true (hdown y hy hyl j hj)
    unfold wpOp;rw[ho];unfold zF at h1;simp only;split
    ·rename_i hw;rw[if_pos hw]at h1;exact h1.imp (vk key) id
    ·rename_i hw;rw[if_neg hw]at h1;exact key _ _ h1
theorem Vu (hm:E.m<=10)(hf:P.follows .mixedOrders=true){L:List (gX×List Nat)}(hc:G7 P n E.m ops L=true){K:dP->Prop}(hq:∀a w,AK E n K a w->Q .normal a w)
 {id:Nat} {a:Act} {w:World} (h:AK E n (λst=>wpD P L 0 [] st K) a w):(vT id ops true).wp P Q a w:=by
 refine wp_region_any hf ?_;have hlen:L.length=ops.size:=by simp only[G7,af,beq_iff_eq]at hc;exact hc.1.1
 have i0:=Ej (l:=L) (i:=0);have hil:(items L 0).length=L.length:=by
  clear i0 hlen h hc;generalize 0=i
  induction L generalizing i with
  |nil=>rfl
  |cons x r ih=>obtain⟨o,zZ⟩:=x;simp[items,ih]
 refine Xl hm hc hq ops.size (items L 0) (lq ops.size false) [] a _ (by omega) (xC _) (by simp) ?_ ?_ ?_
 ·intro x hx;have:=i0.1 x hx;have hlt:x.i<ops.size:=by omega
  simp[hlt,hx]
 ·intro x hx h;exfalso;have:=i0.1 x hx;have hlt:x.i<ops.size:=by omega
  simp[hlt]at h
 ·obtain⟨I,ρ,st,hT,hg⟩:=h;exact⟨I,ρ,st,Eq.mp (VO (P:=P) (l:=L) (i:=0) (log:=[]) (st:=st) (K:=K)) hT,hg.drew⟩
end
end
section
section
variable {P:Program} {E:Env P} {I:IH} {ρ:Ren} {n:Nat} {st:dP} {a:Act} {w w':World} {Γ : List OF} {g0:Own} {dp:Nat} {lz:Bool}
def AO0 (E:Env P)(g0:Own)(dp n:Nat)(K:dP->Prop)(Γ : List OF)(a:Act)(w:World):Prop:=AK E n K a w/\LY E g0 dp Γ a w
theorem IL (h:OW P FV g0 dp Γ a w){x:Operand}{b:Bool}{k:Knd}(hc:ET Γ x=some (b,k)){f:FuncId}{caps:Array Value}(hx:a.eval x = .func (.func f) #[] caps) :
 (b=false/\kindOf f=k/\caps.size=0)\/(b=true/\(k = .rd/\kindOf f = .rd\/∃sg,k = .ow sg/\kindOf f = .ow ⟨sg.ps++aY caps.size .any,sg.rs⟩)):=by
 unfold ET at hc;split at hc
 ·rename_i f';cases hc;simp only[Act.eval]at hx;cases hx;exact .inl ⟨rfl,rfl,rfl⟩
 ·rename_i t;have hm:=jB hc;rw[bH]at hm;obtain⟨f0,hf0,hm⟩:=hm;split at hm
  ·rename_i y s;split at hm
   ·rename_i e;subst e;obtain⟨f1,agI,h1,h2⟩:=h.fs _ hf0;have e1:a.eval (.tmp y)=a.tmps.getD y undef:=rfl;rw[e1,h1]at hx;cases hx
    right
    cases s with
    |zero=>cases hm;exact⟨rfl,.inl ⟨rfl,h2⟩⟩
    | succ s=>cases hm;obtain⟨sg,h3,h4,h5⟩:=h2;refine⟨rfl,.inr ⟨_,rfl,?_⟩⟩;rw[h3,<- h4,<- h5]
   ·cases hm
  ·cases hm
 ·cases hc
theorem RP (h:GX E I ρ n st a w)(hm:E.m<=10)(DL:LY E g0 dp Γ a w){o:Oper}{vO:List OF}{x:Operand}{az:Array Operand}{ts:Array TypeId}(ho:o.op = .call ⟨.value x,az,ts⟩)(hs:MQ P lz Γ o=some vO)(hdn:∀d,o.dst=some d->d<n)
 {f:FuncId} {caps:Array Value} (hx:a.eval x = .func (.func f) #[] caps) {oD:List AV} (hv:NU I ρ (az.toList.map a.eval++caps.toList) oD) {K:List Nat->List Nat->dP->Prop} (hT:FH P f oD true o.dst st K) :
 Calls P f (az.toList.map a.eval++caps.toList).toArray w λe w'=>∃v,e = .returned v/\AO0 E g0 dp n (λst=>∃rd wr,K rd wr st) vO (a.put o.dst v) w':=by
 have rd:kindOf f = .rd->vO=Au o.dst Γ -> Calls P f (az.toList.map a.eval++caps.toList).toArray w λe w'=>∃v,e = .returned v/\AO0 E g0 dp n (λst=>∃rd wr,K rd wr st) vO (a.put o.dst v) w':=by intro hk Ue;refine(BA h hm hdn hv hT (.rd hk)).mono ?_;rintro e w' ⟨⟨v,he,hak⟩,hF,hsz⟩;refine⟨v,he,hak,?_⟩;rw[Ue];exact(DL.world hsz hF).drop _ _
 have ow:∀{sg:Rk} {C:CR},kindOf f = .ow sg->(az.toList.map a.eval++caps.toList).length=sg.ps.length->JR Γ sg az.toList o.dst=some C->vO=Oz Γ o.dst C->Calls P f (az.toList.map a.eval++caps.toList).toArray w λe w'=>∃v,e = .returned v/\AO0 E g0 dp n (λst=>∃rd wr,K rd wr st) vO (a.put o.dst v) w':=by intro sg C hk hl hC Ue;obtain⟨g,h1,h2⟩:=DL;obtain⟨X,hX,hXs⟩:=Td h2 h.wu.size hk hl hC (λd e=>by rw[h.size];exact hdn d e);refine(BA h hm hdn hv hT hX).mono ?_;rintro e w' ⟨⟨v,he,hak⟩,hXe,hsz⟩;subst he;obtain⟨g',h3,h4⟩:=hXs v w' hsz hXe;exact⟨v,rfl,hak,g',h1.trans h3,by rw[Ue];exact h4⟩
 have base:∀{b:Bool} {sg:Rk} {C:CR},ET Γ x=some (b,.ow sg)->az.size=sg.ps.length->JR Γ sg az.toList o.dst=some C->vO=Oz Γ o.dst C->Calls P f (az.toList.map a.eval++caps.toList).toArray w λe w'=>∃v,e = .returned v/\AO0 E g0 dp n (λst=>∃rd wr,K rd wr st) vO (a.put o.dst v) w':=by
  intro b sg C hk hsz hC Ue;obtain⟨g,h1,h2⟩:=DL;rcases IL h2 hk hx with⟨rfl,h3,h4⟩|⟨rfl,⟨h3,_⟩|⟨sg',h3,h4⟩⟩
  ·exact ow h3 (by simp;omega) hC Ue
  ·cases h3
  ·cases h3;exact ow h4 (by simp;omega) (Yc hC (by simpa using hsz)) Ue
 unfold MQ at hs;split at hs
 ·split at hs
  ·rename_i hq;cases hs;unfold Gu at hq;rw[ho]at hq;simp only at hq;unfold adA at hq;split at hq
   ·rename_i b hk;obtain⟨g,h1,h2⟩:=DL;rcases IL h2 hk hx with⟨rfl,h3,h4⟩|⟨rfl,⟨_,h3⟩|⟨sg',h3,h4⟩⟩
    ·exact rd h3 rfl
    ·exact rd h3 rfl
    ·cases h3
   ·cases hq
  ·cases hs
 ·rw[ho]at hs;simp only at hs;split at hs
  ·rename_i b hk;cases hs;obtain⟨g,h1,h2⟩:=DL;rcases IL h2 hk hx with⟨rfl,h3,h4⟩|⟨rfl,⟨_,h3⟩|⟨sg',h3,h4⟩⟩
   ·exact rd h3 rfl
   ·exact rd h3 rfl
   ·cases h3
  ·rename_i b sg hk;split at hs
   ·rename_i hb;simp only[bI]at hs;obtain⟨C,hC,rfl⟩:=hs;exact base hk (by simpa using hb) hC rfl
   ·cases hs
  ·cases hs
end
end
section
section
variable {P:Program} {E:Env P} {I:IH} {ρ:Ren} {n:Nat} {st:dP} {a:Act} {w w':World} {Γ : List OF} {g0:Own} {dp:Nat} {lz:Bool}
theorem U1 {ops:Array Oper}{o:Oper}{g:Option (Nat×Bool)}(hc:D6 n ops o.guard g=true)(hg:l9 st.tm g=false):o.guard.isSome=true:=by
 unfold D6 at hc;split at hc
 ·simp[l9]at hg
 ·rename_i e;rw[e];rfl
 ·cases hc
theorem Vp {o:Oper}{vO:List OF}(ho:MQ P lz Γ o=some vO)(hg:o.guard.isSome=true):vO=Au o.dst Γ :=by
 unfold MQ at ho;rw[if_pos (by rw[hg,uH])]at ho;split at ho
 ·cases ho;rfl
 ·cases ho
theorem Tf {o:Oper}{ao:gX}{vO:List OF}(ho:JS P lz Γ o ao=some vO)(hg:o.guard.isSome=true):vO=Au o.dst Γ :=by
 unfold JS at ho;split at ho
 ·cases ho;rfl
 ·exact Vp ho hg
theorem Xi (h:GX E I ρ n st a w)(hm:E.m<=10)(DL:LY E g0 dp Γ a w){ops:Array Oper}{Q:Exit->Act->World->Prop}{o:Oper}{ao:gX}{vO:List OF}(hc:CP P n E.m ops o ao=true)(ho:JS P lz Γ o ao=some vO){K:List Nat->List Nat->dP->Prop}(hT:T P ao st K) :
 zF P ops Q o (AO0 E g0 dp n (λst=>∃rd wr,K rd wr st) vO) a w:=by
 simp only[CP,af]at hc;obtain⟨⟨hcg,hcd⟩,hci⟩:=hc;obtain⟨hdd,hdn⟩:=Zf hcd;obtain⟨hgv,hT⟩:=hT;have hw:=Sl h hcg hgv;have adm:∀d,o.dst=some d->d<n:=λd e=>hdn d (by rw[<- hdd];exact e);have skip:l9 st.tm ao.g=false->∀r,(∃rd wr,K rd wr (st.uA ao.d (.v false r)))->AO0 E g0 dp n (λst=>∃rd wr,K rd wr st) vO (a.put o.dst undef) w:=λhp r hk=>⟨⟨I,ρ,_,hk,by rw[hdd];exact h.uA hdn ⟨(λe=>by cases e),λ_=>rfl⟩⟩,by rw[Tf ho (U1 hcg hp)];exact DL.drop _ _⟩;unfold zF;rw[hw];cases hi:ao.i with
 | op op=>
   rw[hi]at hT hci;obtain⟨h1,h2⟩:=hT;cases hp:l9 st.tm ao.g with
   |false=>simpa using skip hp _ ⟨_,_,h2 hp⟩
   | true=>
     obtain⟨hv,fH,h3⟩:=h1 hp;obtain⟨v,w',I',ρ',hr,hg,adq,heff⟩:=Tm h hci hv fH;simp only[if_true];refine .inl ?_;have af0:LY E g0 dp vO (a.put o.dst v) w':=by
      unfold JS at ho;split at ho
      ·rename_i x az ts hop;cases ho;have hw:=heff.quiet (by rw[hop];rfl);subst hw;exact DL.drop _ _
      ·rename_i hne;refine adI h DL ?_ ho adm (λc hc x hx=>?_) hr heff
       ·cases hgu:o.guard with
        |none=>exact .inl rfl
        | some q=>
          right
          unfold MQ at ho;rw[hgu]at ho;simp only[Option.isSome_some,uH,if_true]at ho;split at ho
          ·assumption
          ·cases ho
       ·obtain⟨callee,args,argTypes⟩:=c;simp only at hx;subst hx;exact hne op x args argTypes hi hc
     have key:AO0 E g0 dp n (λst=>∃rd wr,K rd wr st) vO (a.put o.dst v) w':=by
      refine⟨⟨I',ρ',_,⟨_,_,h3⟩,?_⟩,af0⟩;rw[hdd];cases hd:ao.d with
      |none=>exact hg
      |some d=>exact hg.put (hdn d hd) ⟨λ_=>adq (by rw[hdd,hd];simp),λe=>by cases e⟩
     unfold rF;rcases hr with hr|⟨hr,hnd⟩
     ·rw[hr];exact key
     ·rw[hr,xA];rw[hnd]at key⊢;exact key
 | call f args=>
   have ho:MQ P lz Γ o=some vO:=(by unfold JS at ho;rw[hi]at ho;exact ho);rw[hi]at hT hci;simp only[Lu]at hci;split at hci
   ·rename_i f' az ts hop;simp only[af,beq_iff_eq]at hci;obtain⟨⟨rfl,hca⟩,hok⟩:=hci;obtain⟨h1,h2⟩:=hT;cases hp:l9 st.tm ao.g with
    | false=>have h2':=h2;rw[hp]at h2';obtain⟨r,hk⟩:=Dj h2';simpa using skip hp r hk
    | true=>rw[hp]at h1 h2;simp only[if_true];refine .inl (Dk (zq hop (x:=.func f') (caps:= #[]) rfl hok) ?_);have hvs:=Ia h hca (h1 rfl);rw[<- hdd]at h2;have:=RP h hm DL hop ho adm (f:=f') (caps:= #[]) rfl (by simpa using hvs) h2;simpa[<- Array.toList_map]using this
   ·cases hci
 | Dv x args=>
   have ho:MQ P lz Γ o=some vO:=(by unfold JS at ho;rw[hi]at ho;exact ho);rw[hi]at hT hci;simp only[Lu]at hci;split at hci
   ·rename_i x' az ts hop;simp only[af]at hci;obtain⟨hcx,hca⟩:=hci;obtain⟨hg0,h2⟩:=hT;cases hp:l9 st.tm ao.g with
    | false=>have h2':=h2;rw[hp]at h2';obtain⟨r,hk⟩:=Dj h2';simpa using skip hp r hk
    |true=>
    rw[hp]at h2;obtain⟨hg1,h1⟩:=hg0 hp;split at h2
    ·rename_i hb;cases hb
    ·rename_i f caps _ hf;obtain⟨hok,h2⟩:=h2;have hx:=jl h hcx hg1;rw[hf]at hx;obtain⟨ks,hk1,hk2,hk3⟩:=hx;simp only[if_true];refine .inl (Dk (zq hop hk3 hok) ?_);have hvs:=Ia h hca h1;have hvs':NU I ρ (az.toList.map a.eval++ks.map λk=>kL (some ⟨k,0,none⟩)) (args.map (bT st.tm)++caps.map λb=>AV.one (.ptr b 0)):=by
      refine⟨by have:=hvs.1;simp at this;simp[hk1,this],λj v z hv hz=>?_⟩;by_cases hj:j<(az.toList.map a.eval).length
      ·rw[aU hj]at hv;rw[aU (by rw[<- hvs.1];exact hj)]at hz;exact hvs.2 j v z hv hz
      ·rw[bJ (by omega)]at hv;rw[bJ (by rw[<- hvs.1];omega)]at hz;rw[hvs.1]at hv;generalize j-(args.map (bT st.tm)).length=i at hv hz;rw[bn]at hv hz;cases hki:ks[i]? with
       |none=>rw[hki]at hv;cases hv
       | some k=>
         cases hci:caps[i]? with
         |none=>rw[hci]at hz;cases hz
         | some b=>rw[hki]at hv;rw[hci]at hz;simp at hv hz;subst hv;subst hz;obtain⟨cap,hr⟩:=hk2 i b k hci hki;exact⟨k,cap,hr,rfl⟩
     rw[<- hdd]at h2;have:=RP h hm DL hop ho adm (f:=f) (caps:=(ks.map λk=>kL (some ⟨k,0,none⟩)).toArray) hk3 (by simpa using hvs') h2;have e:(az.map a.eval++(ks.map λk=>kL (some ⟨k,0,none⟩)).toArray)=(az.toList.map a.eval++(ks.map λk=>kL (some ⟨k,0,none⟩)).toArray.toList).toArray:=(by apply uo;simp);rw[e];exact this
    ·exact h2.elim
   ·cases hci
def PA (pa:List (Nat×Value))(a:Act):Prop:=∀e,e∈pa->a.tmps.getD e.1 undef=e.2
def AO (E:Env P)(g0:Own)(pa:List (Nat×Value))(dp n:Nat)(K:dP->Prop)(Γ : List OF)(a:Act)(w:World):Prop:=AO0 E g0 dp n K Γ a w/\PA pa a
theorem PA.put {pa:List (Nat×Value)}(h:PA pa a){d:Option Nat}(hd:∀e,e∈pa->d≠some e.1)(v:Value)(df:List Deferred):PA pa ({ a with defers:=df }.put d v):=λe he=>by
 cases d with
 |none=>exact h e he
 | some d=>have:e.1≠d:=λe'=>hd e he (by rw[e']);rw[<- h e he];exact jD (a:={ a with defers:=df }) this
theorem VP {pa:List (Nat×Value)}(hpa:PA pa a){ops:Array Oper}{Q:Exit->Act->World->Prop}{o:Oper}(hd:∀e,e∈pa->o.dst≠some e.1){K:Act->World->Prop}(h:zF P ops Q o K a w):zF P ops Q o (λa w=>K a w/\PA pa a) a w:=by
 have hput:∀v,PA pa (a.put o.dst v):=λv=>hpa.put hd v a.defers;unfold zF at h⊢;split
 ·rename_i hw;rw[if_pos hw]at h;refine h.imp (λh=>?_) id;unfold rF at h⊢;cases hr:(execOp a.eval o).run P w with
  | halt e w1=>rw[hr]at h;cases e<;>first|exact h|exact h.elim
  | ok nx w1=>
    rw[hr]at h;cases nx with
    |value v=>exact⟨h,hput v⟩
    |skip=>exact⟨h,hput undef⟩
    |defer d=>exact⟨h,hpa.put hd undef _⟩
    | enter f args=>
      refine Go.Calls.mono h ?_;intro e w'' hq;cases e with
      |returned v=>exact⟨hq,hput v⟩
      |panicked c=>exact hq
      |outgrown=>exact hq
    |row r args=>exact Rows.mono h λv w'' hq=>⟨hq,hput v⟩
    |_=>exact h.elim
 ·rename_i hw;rw[if_neg hw]at h;exact⟨h,hput undef⟩
theorem Rq (h:GX E I ρ n st a w)(hm:E.m<=10)(DL:LY E g0 dp Γ a w){pa:List (Nat×Value)}{pl:List Nat}(hpa:PA pa a)(hpl:∀e,e∈pa->e.1∈pl){ops:Array Oper}{Q:Exit->Act->World->Prop}{o:Oper}{ao:gX}{vO:List OF}(hc:CP P n E.m ops o ao=true)(ho:FP P pl lz Γ o ao=some vO){K:List Nat->List Nat->dP->Prop}(hT:T P ao st K) :
 zF P ops Q o (AO E g0 pa dp n (λst=>∃rd wr,K rd wr st) vO) a w:=by
 unfold FP at ho;split at ho
 ·cases ho
 ·rename_i hn;refine VP hpa (λe he e'=>hn ?_) (Xi h hm DL hc ho hT);rw[rG];exact⟨e.1,hpl e he,by rw[e'];simp⟩
end
end
section
def Ti (P:Program)(pl:List Nat)(Γ : List OF)(o:Oper)(ao:gX):Option (List OF):=(FP P pl false Γ o ao).bind λDD=>L8 DD some
theorem Tj {P:Program}{pl:List Nat}{Γ : List OF}{o:Oper}{ao:gX} : Ti P pl Γ o ao=FP P pl false Γ o ao:=by
 unfold Ti;cases FP P pl false Γ o ao with
 |none=>rfl
 |some DD=>simp[yZ (fc:=Qg) (λ_ _=>OC)]
def Tn (P:Program)(pl:List Nat):List Oper->List gX->List OF->Option (List OF)
 |o::os,x::xs,Γ =>(Ti P pl Γ o x).bind (Tn P pl os xs)
 |_,_,Γ =>some Γ
def Wx : List (List OF)->List OF
 |[]=>[]
 |a::r=>a.filter λf=>r.all λb=>b.contains f
abbrev DS :=Nat×List Nat×List OF
def UZ {β:Type}(s:DS)(k:DS->β):β:=match s with
 |(a,l,Γ)=>rM a λa=>CS rM l λl=>L8 Γ fun Γ =>k (a,l,Γ)
theorem XJ {β:Type}{s:DS}{k:DS->β} : UZ s k=k s:=by obtain⟨a,l,Γ⟩:=s;simp only[UZ,Ai,yZ (fc:=rM) (λ_ _=>Ai),IZ]
def Xj (s:DS):List DS->List DS
 |[]=>[s]
 |t::r=>if Nat.beq s.1 t.1&&s.2.1==t.2.1 then(t.1,t.2.1,t.2.2.filter s.2.2.contains)::r else t::Xj s r
def MF (L:List sG)(i:Nat):Option sG:=L.find? λx=>x.i==i
def LK (D:List Nat)(Γ : List OF):List OF:= Γ.filter λf=>D.all λd=>AX d f
def acN (P:Program)(pl:List Nat)(ops:Array Oper)(L:List sG)(D:List Nat)(s:DS):Option (List DS):=
 IG (λi=>match MF L i,ops[i]? with
  |some x,some o=>(Ti P pl s.2.2 o x.o).map λDD=>(s.1-2^i,s.2.1.filter (· != i),LK D DD)
  | _,_=>none) (s.2.1.filter λi=>match MF L i with
    |some x=>s.2.1.all λj=> !x.zZ.contains j
    |none=>false)
def QS (P:Program)(pl:List Nat)(ops:Array Oper)(L:List sG)(D:List Nat):Nat->List DS->Option (List OF)
 |0,S=>some (Wx (S.map (·.2.2)))
 |m+1,S=>(IG (acN P pl ops L D) S).bind λSs=>CS UZ (Ss.flatten.foldr Xj []) (QS P pl ops L D m)
def Qr (P:Program)(pl:List Nat)(ops:Array Oper)(x:sG):Bool:=match ops[x.i]? with
 |some o=>(FP P pl true [] o x.o).isSome
 |none=>false
def ada (P:Program)(pl:List Nat)(ops:Array Oper):List sG->List OF->List (sG×Bool)
 |[],_=>[]
 | x::r,Γ =>match ops[x.i]? with
   | some o=>(match Ti P pl Γ o x.o with
     | some DD=>(x,match o.dst with
       |some d=>DD.any λf=> !AX d f
       |none=>true)::ada P pl ops r DD
     |none=>(x::r).map λx=>(x,true))
   |none=>(x::r).map λx=>(x,true)
def abQ (P:Program)(pl:List Nat)(ops:Array Oper):List (sG×Bool)->List Nat->List Nat
 |[],_=>[]
 | (x,b)::r,nd=>if Qr P pl ops x && !(b&&(match x.o.d with
   |some d=>nd.contains d
   |none=>true))then x.i::abQ P pl ops r nd else abQ P pl ops r (x.o.slots++nd)
def CX (P:Program)(pl:List Nat)(ops:Array Oper)(KG:List Nat)(x:sG):Bool:=KG.contains x.i&&Qr P pl ops x
def afi (P:Program)(pl:List Nat)(ops:Array Oper)(L:List sG)(Γ : List OF)(KG:List Nat):Option (List OF):=
 let D:=(L.filter (CX P pl ops KG)).filterMap λx=>(ops[x.i]?).bind (·.dst)
 let l:=(L.filter λx=> !CX P pl ops KG x).map (·.i)
 CS rM D λD=>CS rM l λl=>QS P pl ops L D l.length [(l.foldl (λa i=>a+2^i) 0,l,LK D Γ)]
def adT (P:Program)(pl keep:List Nat)(ops:Array Oper)(L:List sG)(Γ : List OF):Option (List OF):=
 CS rM (abQ P pl ops (ada P pl ops L Γ).reverse (keep++pl)) (afi P pl ops L Γ)
theorem Lc {s:DS} : ∀{l:List DS},(∃t,t∈Xj s l/\t.2.1=s.2.1/\∀f,f∈t.2.2->f∈s.2.2)/\∀u,u∈l->∃t,t∈Xj s l/\t.2.1=u.2.1/\∀f,f∈t.2.2->f∈u.2.2
 |[]=>⟨⟨s,aK ..,rfl,λ_ h=>h⟩,λu h=>by cases h⟩
 | t::r=>by
   obtain⟨h1,h2⟩:=Lc (s:=s) (l:=r);simp only[Xj];split
   ·rename_i hc;simp only[af,beq_iff_eq]at hc;refine⟨⟨_,aK ..,hc.2.symm,λf hf=>gm.1 (aJ.1 hf).2⟩,λu hu=>?_⟩;rcases aB.1 hu with rfl|hu
    ·exact⟨_,aK ..,rfl,λf hf=>(aJ.1 hf).1⟩
    ·exact⟨u,bW _ hu,rfl,λ_ h=>h⟩
   ·refine⟨?_,λu hu=>?_⟩
    ·obtain⟨t',h3,h4⟩:=h1;exact⟨t',bW _ h3,h4⟩
    ·rcases aB.1 hu with rfl|hu
     ·exact⟨u,aK ..,rfl,λ_ h=>h⟩
     ·obtain⟨t',h3,h4⟩:=h2 u hu;exact⟨t',bW _ h3,h4⟩
theorem OO : ∀{l:List DS} {u:DS},u∈l->∃t,t∈l.foldr Xj []/\t.2.1=u.2.1/\∀f,f∈t.2.2->f∈u.2.2
 | s::r,u,hu=>by
   simp only[List.foldr];rcases aB.1 hu with rfl|hu
   ·exact Lc.1
   ·obtain⟨t,h1,h2,h3⟩:=OO hu;obtain⟨t',h4,h5,h6⟩:=(Lc (s:=s)).2 t h1;exact⟨t',h4,h5.trans h2,λf hf=>h3 f (h6 f hf)⟩
theorem Vt {Γ : List OF}{op:Op}(h:Gu [] op=true):Gu Γ op=true:=by
 unfold Gu at h⊢;split at h
 ·rename_i x az ts;unfold adA ET at h⊢;cases x<;>simp_all
 ·exact h
theorem abR {P:Program}{pl:List Nat}{ops:Array Oper}{x:sG}{o:Oper}(h:Qr P pl ops x=true)(ho:ops[x.i]? = some o)(Γ : List OF):FP P pl true Γ o x.o=some (Au o.dst Γ):=by
 unfold Qr at h;rw[ho]at h;simp only at h;unfold FP at h⊢;split at h
 ·cases h
 ·rename_i hn;rw[if_neg hn];unfold JS at h⊢;split
  ·rfl
  ·rename_i hne;split at h
   ·rename_i h1 h2;exact absurd h2 (hne _ _ _ _ h1)
   ·unfold MQ at h⊢;simp only[Bool.true_or,if_true]at h⊢;split at h
    ·rename_i hq;rw[if_pos (Vt hq)]
    ·cases h
theorem Ji {Gs:List (List OF)}{f:OF}(h:f∈Wx Gs){G:List OF}(hG:G∈Gs):f∈G:=by
 cases Gs with
 |nil=>cases hG
 | cons a r=>
   rw[Wx,aJ,aH]at h;rcases aB.1 hG with rfl|hG
   ·exact h.1
   ·exact gm.1 (h.2 G hG)
section
variable {P:Program} {E:Env P} {n:Nat} {ops:Array Oper} {Q:Exit->Act->World->Prop} {Γ : List OF} {g0:Own} {dp:Nat} {pa:List (Nat×Value)} {pl:List Nat}
theorem AO.imp {K K':dP->Prop}{vO:List OF}(hk:∀st,K st->K' st){a:Act}{w:World}(h:AO E g0 pa dp n K Γ a w)(hs:∀f,f∈vO->f ∈ Γ):AO E g0 pa dp n K' vO a w:=
 ⟨⟨AK.imp hk h.1.1,h.1.2.weak hs⟩,h.2⟩
theorem JV (hm:E.m<=10)(hpl:∀e,e∈pa->e.1∈pl):∀{os:List Oper} {xs:List gX} {K:dP->Prop} {Γ vO:List OF} {a:Act} {w:World},IQ P n E.m ops os xs=true->Tn P pl os xs Γ = some vO->AO E g0 pa dp n (λst=>wpOps P xs st K) Γ a w ->
 (∀a w,AO E g0 pa dp n K vO a w->Q .normal a w)->wpList P ops Q os a w
 |[],[],K,Γ,vO,a,w,_,ho,h,hq=>by simp only[Tn]at ho;cases ho;exact hq a w h
 | o::os,x::xs,K,Γ,vO,a,w,hc,ho,h,hq=>by
   simp only[IQ,af]at hc;simp only[Tn,qH]at ho;obtain⟨DD,ho1,ho2⟩:=ho;rw[Tj]at ho1;obtain⟨⟨⟨I,ρ,st,hT,hg⟩,DL⟩,hpa⟩:=h;have h1:=Rq (Q:=Q) (ops:=ops) hg hm DL hpa hpl hc.1 ho1 (show T P x st λ_ _ st'=>wpOps P xs st' K from hT);unfold zF at h1;unfold wpList;have key:∀a w,AO E g0 pa dp n (λst=>∃rd wr:List Nat,wpOps P xs st K) DD a w->wpList P ops Q os a w:=λa w hk=>JV hm hpl hc.2 ho2 (hk.imp (λst ⟨_,_,h⟩=>h) λf hf=>hf) hq;split
   ·rename_i hw;rw[if_pos hw]at h1;exact h1.imp (vk key) id
   ·rename_i hw;rw[if_neg hw]at h1;exact key _ _ h1
 |[],_::_,_,_,_,_,_,hc,_,_,_=>by cases hc
 |_::_,[],_,_,_,_,_,hc,_,_,_=>by cases hc
theorem Yj {m k:Nat}{L l:List sG}{D:List Nat}{S:List DS}{G:List OF}{x:sG}{o:Oper}(hD:QS P pl ops L D (m+1) S=some G)(hS:(k,l.map (·.i),Γ)∈S)(hx:x∈l)(hr:∀z,z∈l->¬z.i∈x.zZ)(hL:MF L x.i=some x)(ho:ops[x.i]? = some o) :
 ∃DD S' k' Uf,FP P pl false Γ o x.o=some DD/\(k',(l.filter λz=>z.i != x.i).map (·.i),Uf)∈S'/\(∀f,f∈Uf->f∈LK D DD)/\QS P pl ops L D m S'=some G:=by
 simp only[QS,qH]at hD;obtain⟨Ss,h1,h2⟩:=hD;rw[yZ (λ_ _=>XJ)]at h2;obtain⟨T,h3,h4⟩:=yz h1 _ hS;unfold acN at h3;obtain⟨t,h5,h6⟩:=yz h3 x.i (aJ.2 ⟨aF.2 ⟨x,hx,rfl⟩,by rw[hL];simp only[aH,aF];rintro j ⟨z,hz,rfl⟩;have:=hr z hz;simpa using this⟩)
 rw[hL,ho]at h5;simp only[bI]at h5;obtain⟨DD,h7,rfl⟩:=h5;rw[Tj]at h7;obtain⟨⟨k',r',Uf⟩,h8,h9,h10⟩:=OO (List.mem_flatten.2 ⟨T,h4,h6⟩);simp only at h9;subst h9;refine⟨DD,_,k',Uf,h7,?_,h10,h2⟩;rw[List.filter_map]at h8;exact h8
theorem UX {pre post:List sG}{x:sG}(h:(pre++x::post).Pairwise λx y=>x.i<y.i):((pre++x::post).filter λz=>z.i != x.i)=pre++post:=by
 rw[wo]at h;obtain⟨_,h2,h3⟩:=h;rw[kT]at h2;rw[pY,List.filter_cons_of_neg (by simp)]
 congr 1
 ·rw[wM];intro z hz;have:=h3 z hz x (aK ..);simp;omega
 ·rw[wM];intro z hz;have:=h2.1 z hz;simp;omega
theorem Um (hm:E.m<=10)(hpl:∀e,e∈pa->e.1∈pl){L:List (gX×List Nat)}(hc:G7 P n E.m ops L=true){K:dP->Prop}{Γe:List OF}{KG D:List Nat}(hDd:∀x o d,x∈items L 0->CX P pl ops KG x=true->ops[x.i]? = some o->o.dst=some d->d∈D)(hq:∀a w,AO E g0 pa dp n K Γe a w->Q .normal a w) :
 ∀ (fuel:Nat) (l:List sG) (listed:Array Bool) (log:Log) (Γ G:List OF) (a:Act) (w:World),(∃S k,(k,(l.filter λx=> !CX P pl ops KG x).map (·.i),Γ)∈S/\QS P pl ops (items L 0) D (l.filter λx=> !CX P pl ops KG x).length S=some G)->(∀f,f ∈ Γ -> ∀d,d∈D->AX d f=true)->(∀f,f ∈ Γe->f∈G)->l.length<=fuel->l.Sublist (items L 0)->listed.size=ops.size ->
   (∀x,x∈items L 0->(listed.getD x.i true=false<->x∈l)) ->
   (∀x,x∈items L 0->listed.getD x.i false=true->∀j,j∈x.zZ->listed.getD j false=true) ->
   AO E g0 pa dp n (λst=>WY P l log st K) Γ a w->wpAny P .any ops Q fuel listed a w:=by
 simp only[G7,af,beq_iff_eq,aH]at hc;obtain⟨⟨hlen,hit⟩,hap⟩:=hc;obtain⟨i1,i2,i3⟩:=Ej (l:=L) (i:=0);have hpw:(items L 0).Pairwise λx y=>x.i<y.i/\(x.i∈y.zZ\/CE x.o y.o=true):=i2.and (D5 hap);have OG:∀x y,x∈items L 0->y∈items L 0->x.i=y.i->x=y:=by
  intro x y hx hy e;obtain⟨p,hp,rfl⟩:=nS hx;obtain⟨q,hq',rfl⟩:=nS hy;have ZH:=pO.1 i2;rcases uD p q with h|h|h
  ·have:=ZH p q hp hq' h;omega
  ·subst h;rfl
  ·have:=ZH q p hq' hp h;omega
 have U6:∀(l:List sG) (listed:Array Bool),l.Sublist (items L 0)->listed.size=ops.size->(∀x,x∈items L 0->(listed.getD x.i true=false<->x∈l))->mF .any ops listed=[]->l=[]:=by
  intro l listed hsub hsz hl hr;cases l with
  |nil=>rfl
  | cons x r=>
    exfalso;have hx:=hsub.subset (aK ..);have hc:=hit x hx;unfold G5 at hc;cases ho:ops[x.i]? with
    |none=>rw[ho]at hc;cases hc
    | some o=>
      rw[ho]at hc;simp only[af,Ll,aH,eH,gy,decide_eq_true_eq]at hc;have:x.i∈mF .any ops listed:=by
       rw[mem_ready];refine⟨(hl x hx).2 (aK ..),o,ho,λe he hb=>?_⟩;have hlt:=(hc.2.2 e (by simpa using he)).resolve_left (by rw[hb];simp);have hxi:=i1 x hx;obtain⟨y,hy,hye⟩:=i3 e.on (by omega);have hye:y.i=e.on:=(by omega);by_cases hyl:y∈x::r
       ·exfalso;rcases aB.1 hyl with rfl|hyr
        ·omega
        ·have:=(kT.1 (i2.sublist hsub)).1 y hyr;omega
       ·have h1:¬listed.getD y.i true=false:=λh=>hyl ((hl y hy).1 h);have hin:y.i<listed.size:=(by rw[hsz,<- hlen];have:=i1 y hy;omega);rw[<- hye];simp only[bQ,iC hin,jh]at h1⊢;simpa using h1
      rw[hr]at this;cases this
 intro fuel
 induction fuel with
 | zero=>
   intro l listed log Γ G a w hD hcl hG hf hsub hsz hl _ h;have:l=[]:=nV.1 (by omega);subst this;obtain⟨S,k,hS,hD⟩:=hD;simp only[List.filter_nil,lC,QS]at hD;cases hD;refine⟨?_,hq a w (h.imp (λ_ h=>h) λf hf=>Ji (hG f hf) (aF.2 ⟨_,hS,rfl⟩))⟩;cases hr:mF .any ops listed with
   |nil=>rfl
   | cons i r=>exfalso;have hi:i∈mF .any ops listed:=(by rw[hr];exact aK ..);obtain⟨hu,o,ho,_⟩:=mem_ready.1 hi;have hlt:=(bP.1 ho).1;obtain⟨y,hy,hye⟩:=i3 i (by omega);have hye:y.i=i:=(by omega);have:=(hl y hy).1 (by rw[hye];exact hu);cases this
 | succ fuel ih=>
   intro l listed log Γ G a w hD hcl hG hf hsub hsz hl hdown h;refine⟨λhr=>?_,λi hi=>?_⟩
   ·have:=U6 l listed hsub hsz hl hr;subst this;obtain⟨S,k,hS,hD⟩:=hD;simp only[List.filter_nil,lC,QS]at hD;cases hD;exact hq a w (h.imp (λ_ h=>h) λf hf=>Ji (hG f hf) (aF.2 ⟨_,hS,rfl⟩))
   ·obtain⟨hu,o,ho,hall⟩:=mem_ready.1 hi;have hlt:=(bP.1 ho).1;obtain⟨x,hx,hxe⟩:=i3 i (by omega);have hxe:x.i=i:=(by omega);subst hxe;have hxl:=(hl x hx).1 hu;have hcx:=hit x hx;unfold G5 at hcx;rw[ho]at hcx;simp only[af]at hcx;obtain⟨hco,hca⟩:=hcx;have haft:∀j,j∈x.zZ->listed.getD j false=true:=by
     intro j hj;simp only[Ll,af,aH,rG,eH,beq_iff_eq]at hca;obtain⟨e,he,hb,hej⟩:=hca.1 j hj;have hel:=hall e (by simpa using he) hb;rcases hej with rfl|⟨y,hy,hye,hyj⟩
     ·exact hel
     ·rw[<- hye]at hel;exact hdown y hy hel j (by simpa using hyj)
    have aeN:MF (items L 0) x.i=some x:=by
     unfold MF;cases hfind:(items L 0).find? (λz=>z.i==x.i)with
     |none=>exact absurd (by simp) (List.find?_eq_none.1 hfind x hx)
     | some z=>have h1:=List.find?_some hfind;have h2:=List.mem_of_find?_eq_some hfind;rw[OG z x h2 hx (by simpa using h1)]
    have af9:∀z,z∈l->¬z.i∈x.zZ:=λz hz hm=>by have h2:=haft _ hm;rw[Ql ((hl z (hsub.subset hz)).2 hz)]at h2;cases h2
    obtain⟨pre,post,rfl⟩:=List.append_of_mem hxl;have af4:((pre++x::post).filter λz=>z.i != x.i)=pre++post:=UX (i2.sublist hsub);obtain⟨lz,DD,S1,k1,Uf,hO1,hO2,hO4,hO5,hO3⟩:∃lz DD S1 k1 Uf,FP P pl lz Γ o x.o=some DD/\(k1,((pre++post).filter λx=> !CX P pl ops KG x).map (·.i),Uf)∈S1/\(∀f,f∈Uf->f∈DD)/\(∀f,f∈Uf->∀d,d∈D->AX d f=true)/\QS P pl ops (items L 0) D ((pre++post).filter λx=> !CX P pl ops KG x).length S1=some G:=by
     obtain⟨S,k,hS,hD⟩:=hD;cases hz:CX P pl ops KG x with
     | true=>
       have e:((pre++x::post).filter λx=> !CX P pl ops KG x)=((pre++post).filter λx=> !CX P pl ops KG x):=(by rw[pY,List.filter_cons_of_neg (by simp[hz]),<- pY]);rw[e]at hS hD;have hz':=hz;simp only[CX,af]at hz';refine⟨true,_,S,k,Γ,abR hz'.2 ho Γ,hS,λf hf=>?_,hcl,hD⟩;unfold Au;rw[aJ];refine⟨hf,?_⟩;cases hd:o.dst with
       |none=>rfl
       |some d=>exact hcl f hf d (hDd x o d hx hz ho hd)
     | false=>
       have e:((pre++x::post).filter λx=> !CX P pl ops KG x)=(pre.filter λx=> !CX P pl ops KG x)++x::(post.filter λx=> !CX P pl ops KG x):=(by rw[pY,List.filter_cons_of_pos (by simp[hz])]);have e2:((pre++x::post).filter λx=> !CX P pl ops KG x).length=((pre++post).filter λx=> !CX P pl ops KG x).length+1:=(by rw[e,pY];simp;omega);rw[e2]at hD;obtain⟨DD,S',k',Uf,h1,h2,h3,h4⟩:=Yj hD hS (aJ.2 ⟨hxl,by simp[hz]⟩) (λz hz=>af9 z (aJ.1 hz).1) aeN ho;refine⟨false,DD,S',k',Uf,h1,?_,λf hf=>(aJ.1 (h3 f hf)).1,λf hf d hd=>aH.1 (aJ.1 (h3 f hf)).2 d hd,h4⟩;have e3:(((pre++x::post).filter λx=> !CX P pl ops KG x).filter λz=>z.i != x.i)=(pre++post).filter λx=> !CX P pl ops KG x:=by
        rw[<- af4,List.filter_filter,List.filter_filter]
        congr 1
        funext z
        exact Bool.and_comm _ _
       rw[e3]at h2;exact h2
    have Qo:=hpw.sublist hsub;rw[wo]at Qo;have hpre:∀p,p∈pre->p.i ∉ x.zZ/\CE p.o x.o=true:=by
     intro p hp;have h1:=Qo.2.2 p hp x (aK ..);have hn:p.i ∉ x.zZ:=by intro hm';have h2:=haft _ hm';have h3:=(hl p (hsub.subset (bG _ hp))).2 (bG _ hp);rw[Ql h3]at h2;cases h2
     exact⟨hn,h1.2.resolve_left hn⟩
    obtain⟨⟨⟨I,ρ,st,hT,hg⟩,DL⟩,hpa⟩:=h;have hT:=JE hpre hT;have h1:=Rq (Q:=Q) (ops:=ops) hg hm DL hpa hpl hco hO1 (show T P x.o st λrd wr st'=>tH x.zZ rd wr log=true/\WY P (pre++post) ((x.i,rd,wr)::log) st' K from hT);have key:∀a w,AO E g0 pa dp n (λst=>∃rd wr,tH x.zZ rd wr log=true/\WY P (pre++post) ((x.i,rd,wr)::log) st K) DD a w->wpAny P .any ops Q fuel (listed.setIfInBounds x.i true) a w:=by
     rintro a w ⟨⟨⟨I,ρ,st,⟨rd,wr,_,hk⟩,hg⟩,DL⟩,hpa⟩;have DL:=DL.weak hO4;have hnx:x ∉ pre++post:=by
      intro hxm;rcases aV.1 hxm with h|h
      ·have:=(Qo.2.2 x h x (aK ..)).1;omega
      ·have:=((kT.1 Qo.2.1).1 x h).1;omega
     refine ih (pre++post) _ ((x.i,rd,wr)::log) Uf G a w ⟨S1,k1,hO2,hO3⟩ hO5 hG (by simp at hf⊢;omega) ?_ (by simp[hsz]) ?_ ?_ ⟨⟨⟨I,ρ,st,hk,hg⟩,DL⟩,hpa⟩
     ·exact(List.Sublist.append_left (List.sublist_cons_self x post) pre).trans hsub
     ·intro y hy;by_cases hyx:y=x
      ·subst hyx;constructor
       ·intro h;have hin:y.i<listed.size:=(by rw[hsz];exact hlt);simp[hin]at h
       ·intro h;exact absurd h hnx
      ·have hne:x.i≠y.i:=λe=>hyx (OG y x hy hx e.symm);rw[getD_set_ne true hne,hl y hy];simp only[aV,aB,hyx,false_or]
     ·intro y hy hyl j hj;by_cases hyx:y=x
      ·subst hyx;exact getD_set_true (haft j hj)
      ·have hne:x.i≠y.i:=λe=>hyx (OG y x hy hx e.symm);rw[getD_set_ne false hne]at hyl;exact getD_set_true (hdown y hy hyl j hj)
    unfold wpOp;rw[ho];unfold zF at h1;simp only;split
    ·rename_i hw;rw[if_pos hw]at h1;exact h1.imp (vk key) id
    ·rename_i hw;rw[if_neg hw]at h1;exact key _ _ h1
theorem TF (hm:E.m<=10)(hpl:∀e,e∈pa->e.1∈pl)(hf:P.follows .mixedOrders=true){L:List (gX×List Nat)}(hc:G7 P n E.m ops L=true){K:dP->Prop}{Γ Γe:List OF}{keep:List Nat}(hD:adT P pl keep ops (items L 0) Γ = some Γe)(hq:∀a w,AO E g0 pa dp n K Γe a w->Q .normal a w)
 {id:Nat} {a:Act} {w:World} (h:AO E g0 pa dp n (λst=>wpD P L 0 [] st K) Γ a w):(vT id ops true).wp P Q a w:=by
 refine wp_region_any hf ?_;have hlen:L.length=ops.size:=by simp only[G7,af,beq_iff_eq]at hc;exact hc.1.1
 have i0:=Ej (l:=L) (i:=0);have hil:(items L 0).length=L.length:=by
  clear i0 hlen h hc hD;generalize 0=i
  induction L generalizing i with
  |nil=>rfl
  |cons x r ih=>obtain⟨o,zZ⟩:=x;simp[items,ih]
 unfold adT at hD;rw[yZ (λ_ _=>Ai)]at hD;generalize abQ P pl ops (ada P pl ops (items L 0) Γ).reverse (keep++pl)=KG at hD;unfold afi at hD;simp only[yZ (fc:=rM) (λ_ _=>Ai),nX]at hD;generalize hDD:((items L 0).filter (CX P pl ops KG)).filterMap (λx=>(ops[x.i]?).bind (·.dst))=D at hD;refine Um hm hpl hc (KG:=KG) (D:=D) ?_ hq ops.size (items L 0) (lq ops.size false) [] (LK D Γ) Γe a _ ⟨_,_,aK ..,hD⟩ (λf hf d hd=>aH.1 (aJ.1 hf).2 d hd) (λ_ h=>h) (by omega) (xC _) (by simp) ?_ ?_ ?_
 ·intro x o d hx hz ho hd;rw[<- hDD,bH];exact⟨x,aJ.2 ⟨hx,hz⟩,by rw[ho];exact hd⟩
 ·intro x hx;have:=i0.1 x hx;have hlt:x.i<ops.size:=by omega
  simp[hlt,hx]
 ·intro x hx h;exfalso;have:=i0.1 x hx;have hlt:x.i<ops.size:=by omega
  simp[hlt]at h
 ·obtain⟨⟨⟨I,ρ,st,hT,hg⟩,g,hg1,hg2⟩,hpa⟩:=h;have hg3:=hg2.weak (vO:=LK D Γ) λf hf=>(aJ.1 hf).1;refine⟨⟨?_,g,hg1,hg3.world (aA _) λ_ _=>rfl⟩,hpa⟩;exact⟨I,ρ,st,Eq.mp (VO (P:=P) (l:=L) (i:=0) (log:=[]) (st:=st) (K:=K)) hT,hg.drew⟩
end
end
section
def DN (zs:List Nat)(bx:Nat->Box)(π:Nat->Option Nat)(vs:List Nat):AC->AC->Prop
 |_,.Em=>True
 |.c x,.c y=>x=y
 |.xh sz,.c y=>y = .sl sz []
 | .own b n sz,.c y=>b∈zs/\match(bx b).arr with
   |some (sz',es)=>sz'=sz/\n<=es.length/\y = .sl sz (es.take n)
   |none=>False
 |.xh sz,.xh sz'=>sz=sz'
 |.xh sz,.own b n sz'=>b∈vs/\n=0/\sz=sz'
 |.own b n sz,.own b' n' sz'=>π b'=some b/\n=n'/\sz=sz'
 |.sub b lo n _ sz,.own b' n' sz'=>π b'=some b/\lo=0/\n=n'/\sz=sz'
 |.sub b lo n c sz,.sub b' lo' n' c' sz'=>π b'=some b/\lo=lo'/\n=n'/\c=c'/\sz=sz'
 |.ptr b o,.ptr b' o'=>π b'=some b/\o=o'
 |.uI b i sz o,.uI b' i' sz' o'=>π b'=some b/\i=i'/\sz=sz'/\o=o'
 |.zC cs,.zC cs'=>cs=cs'
 |.fn f caps,.fn f' V4=>f=f'/\V4.map π=caps.map some
 |.opt T b,.opt T' b'=>T=T'/\π b'=some b
 |.F9 b n,.F9 b' n'=>π b'=some b/\n=n'
 |.err g,.err g'=>g=g'
 |_,_=>False
def GH (zs:List Nat)(bx:Nat->Box)(π:Nat->Option Nat)(vs:List Nat):List AC->List AC->Prop
 |[],[]=>True
 |x::xs,y::ys=>DN zs bx π vs x y/\GH zs bx π vs xs ys
 |_,_=>False
def Oj (zs:List Nat)(bx:Nat->Box)(π:Nat->Option Nat)(vs:List Nat):List (Bool×List AC)->List (Bool×List AC)->Prop
 |[],[]=>True
 |(g,x)::xs,(g',y)::ys=>g=g'/\GH zs bx π vs x y/\Oj zs bx π vs xs ys
 |_,_=>False
def WX (zs:List Nat)(bx:Nat->Box)(π:Nat->Option Nat)(vs:List Nat):AV->AV->Prop
 |.one x,.one y=>DN zs bx π vs x y
 |.agg xs,.agg ys=>GH zs bx π vs xs ys
 |.wF xs,.wF ys=>Oj zs bx π vs xs ys
 |_,_=>False
def TR (zs:List Nat)(bx:Nat->Box)(π:Nat->Option Nat)(vs:List Nat)(b:Nat):Box->Prop
 |.absent=>π b=none/\b ∉ vs
 |.dead=>True
 | .var ys=>match π b with
   | some c=>match bx c with
     |.var xs=>GH zs bx π vs xs ys
     |_=>False
   |none=>False
 | .dat sz es=>match π b with
   |some c=>c ∉ zs/\(bx c = .dat sz es\/∃t,bx c = .dat sz (es++t))
   |none=>b∈vs/\es=[]
 | .zL sz es=>match π b with
   |some c=>bx c = .zL sz es\/(c∈zs/\bx c = .dat sz es)
   |none=>False
 | .row e l=>match π b with
   |some c=>bx c = .row e l
   |none=>False
def Box.Jc : Box->Bool
 |.dead=>true
 |_=>false
structure WkS (m:Nat)(bx bx':Nat->Box)(zs:List Nat)(π:Nat->Option Nat)(vs:List Nat):Prop where
 box:∀b,TR zs bx π vs b (bx' b)
 inj:∀b b' c,(bx' b).Jc=false->(bx' b').Jc=false->π b=some c->π b'=some c->b=b'
 vir:∀b,b∈vs->π b=none
 fix:∀b,b<m->π b=some b\/(π b=none/\b ∉ vs/\bx b = .absent)
def Ol (zs:List Nat)(bx:Nat->Box)(π:Nat->Option Nat)(vs:List Nat):Slot->Slot->Prop
 |_,.none=>True
 |.v g x,.v g' y=>g=g'/\(g=true->WX zs bx π vs x y)
 |_,_=>False
def Fv (m:Nat)(st S:dP):Prop:=∃zs π vs,WkS m st.bx S.bx zs π vs/\∀t,Ol zs st.bx π vs (st.tm t) (S.tm t)
section
variable {P:Program} {E:Env P} {I:IH} {ρ:Ren} {n:Nat} {st:dP} {a:Act} {w:World}
def xX (ρ:Ren)(π:Nat->Option Nat)(vs:List Nat):Ren:=λb=>match π b with
 |some c=>ρ c
 |none=>if b∈vs then some (0,0)else none
theorem aaX (h:GX E I ρ n st a w){zs vs:List Nat}{π:Nat->Option Nat}(hvs:∀b,b∈vs->π b=none){v:Value}{x y:AC}(hx:GC I ρ v x)(hy:DN zs st.bx π vs x y):GC (wW I ρ w st.bx zs) (xX ρ π vs) v y:=by
 have hle:=Ac h.bx zs;cases y with
 |Em=>exact hx.one
 | c y=>
   cases x with
   |c x=>simp only[DN]at hy;subst hy;exact Rd.mono hle hx
   | xh sz=>simp only[DN]at hy;subst hy;simp only[GC]at hx;subst hx;exact Rd.sl none 0 0 _ [] (λ_ _=>undef) rfl (aA _) (by simp[maxLen]) (by simp) (by simp) (by intro ad h;cases h) (by simp)
   | own b m sz=>
     simp only[DN]at hy;obtain⟨hb,hy⟩:=hy;split at hy
     ·rename_i sz' es harr;obtain⟨rfl,hm,rfl⟩:=hy;exact Qs h hb harr hm hx
     ·exact hy.elim
   |_=>simp[DN]at hy
 | xh sz=>cases x<;>simp only[DN]at hy;subst hy;exact hx
 | own b' m' sz'=>
   cases x with
   | xh sz=>simp only[DN]at hy;obtain⟨hb,rfl,rfl⟩:=hy;simp only[GC]at hx;subst hx;exact⟨0,0,none,0,by simp[xX,hvs b' hb,hb],rfl,aA _,aA _,λh=>absurd rfl h⟩
   | own b m sz=>simp only[DN]at hy;obtain⟨hb,rfl,rfl⟩:=hy;obtain⟨k,cap,ad,c,hr,hrest⟩:=hx;exact⟨k,cap,ad,c,by simp only[xX,hb];exact hr,hrest⟩
   | sub b lo m c0 sz=>simp only[DN]at hy;obtain⟨hb,rfl,rfl,rfl⟩:=hy;obtain⟨k,cap,ad,c,hr,hv,hm,hcc,_,ha⟩:=hx;refine⟨k,cap,ad,c,by simp only[xX,hb];exact hr,hv,hm,by omega,λhc0=>?_⟩;have:=ha (.inr ⟨rfl,hc0⟩);rw[rV]at this;exact this
   |_=>simp[DN]at hy
 | sub b' lo' m' c' sz'=>
   cases x with
   | sub b lo m c sz=>simp only[DN]at hy;obtain⟨hb,rfl,rfl,rfl,rfl⟩:=hy;obtain⟨k,cap,ad,c1,hr,hrest⟩:=hx;exact⟨k,cap,ad,c1,by simp only[xX,hb];exact hr,hrest⟩
   |_=>simp[DN]at hy
 | ptr b' o'=>
   cases x with
   | ptr b o=>simp only[DN]at hy;obtain⟨hb,rfl⟩:=hy;obtain⟨k,cap,hr,hrest⟩:=hx;exact⟨k,cap,by simp only[xX,hb];exact hr,hrest⟩
   |_=>simp[DN]at hy
 | uI b' i' sz' o'=>
   cases x with
   | uI b i sz o=>simp only[DN]at hy;obtain⟨hb,rfl,rfl,rfl⟩:=hy;obtain⟨k,cap,hr,hrest⟩:=hx;exact⟨k,cap,by simp only[xX,hb];exact hr,hrest⟩
   |_=>simp[DN]at hy
 | opt T' b'=>
   cases x with
   | opt T b=>simp only[DN]at hy;obtain⟨rfl,hb⟩:=hy;obtain⟨k,hr,hrest⟩:=hx;exact⟨k,by simp only[xX,hb];exact hr,hrest⟩
   |_=>simp[DN]at hy
 | F9 b' n'=>
   cases x with
   | F9 b n=>simp only[DN]at hy;obtain⟨hb,rfl⟩:=hy;obtain⟨k,cap,hr,hrest⟩:=hx;exact⟨k,cap,by simp only[xX,hb];exact hr,hrest⟩
   |_=>simp[DN]at hy
 | err g'=>
   cases x with
   |err g=>simp only[DN]at hy;subst hy;exact hx
   |_=>simp[DN]at hy
 | zC cs'=>
   cases x with
   | zC cs=>simp only[DN]at hy;subst hy;obtain⟨p,hv,hc⟩:=hx;exact⟨p,hv,λj c hj=>let ⟨u,h1,h2⟩:=hc j c hj;⟨u,IH.EY hle h1,h2.mono hle⟩⟩
   |_=>simp[DN]at hy
 | fn f' V4=>
   cases x with
   | fn f caps=>simp only[DN]at hy;obtain⟨rfl,hcs⟩:=hy;obtain⟨ks,hk1,hk2,hk3⟩:=hx;have hlen:V4.length=caps.length:=(by have:=congrArg List.length hcs;simpa using this);refine⟨ks,by rw[hlen];exact hk1,λj b k hb hk=>?_,hk3⟩;have hj:j<caps.length:=(by have:=(ax.1 hb).1;omega);have h1:(V4.map π)[j]? = (caps.map some)[j]?:=(by rw[hcs]);rw[bn,bn,hb,aj hj]at h1;simp only[iH,aG]at h1;obtain⟨cap,hr⟩:=hk2 j _ k (aj hj) hk;exact⟨cap,by simp only[xX,h1];exact hr⟩
   |_=>simp[DN]at hy
theorem Rh (h:GX E I ρ n st a w){zs vs:List Nat}{π:Nat->Option Nat}(hvs:∀b,b∈vs->π b=none):∀{us:List Value} {xs ys:List AC},EN I ρ us xs->GH zs st.bx π vs xs ys->EN (wW I ρ w st.bx zs) (xX ρ π vs) us ys
 |us,[],[],hx,_=>⟨hx.1,λj v x hv hx=>by simp at hx⟩
 | u::us,x::xs,y::ys,hx,hy=>by
   have ih:=Rh h hvs (us:=us) (xs:=xs) (ys:=ys) ⟨by simpa using hx.1,λj v z hv hz=>hx.2 (j+1) v z (by simpa using hv) (by simpa using hz)⟩ hy.2;refine⟨by simp[ih.1],λj v z hv hz=>?_⟩;cases j with
   | zero=>simp at hv hz;subst hv;subst hz;exact aaX h hvs (hx.2 0 _ _ rfl rfl) hy.1
   |succ j=>exact ih.2 j v z (by simpa using hv) (by simpa using hz)
 |[],_::_,_,hx,_=>by have:=hx.1;simp at this
 |_,[],_::_,_,hy=>by simp[GH]at hy
 |_,_::_,[],_,hy=>by simp[GH]at hy
theorem TU {zs vs:List Nat}{bx:Nat->Box}{π:Nat->Option Nat} : ∀{xs ys:List (Bool×List AC)},Oj zs bx π vs xs ys->xs.length=ys.length/\∀(j:Nat) (y:Bool×List AC),ys[j]? = some y->∃x:Bool×List AC,xs[j]? = some x/\x.1=y.1/\GH zs bx π vs x.2 y.2
 |[],[],_=>⟨rfl,λj y hy=>by simp at hy⟩
 | (g,x)::xs,(g',y)::ys,h=>by
   obtain⟨h1,h2,h3⟩:=h;obtain⟨i1,i2⟩:=TU h3;refine⟨by simp[i1],λj z hz=>?_⟩;cases j with
   |zero=>simp at hz;subst hz;exact⟨(g,x),rfl,h1,h2⟩
   | succ j=>obtain⟨q,hq,hr⟩:=i2 j z (by simpa using hz);exact⟨q,by simpa using hq,hr⟩
 |[],_::_,h=>by simp[Oj]at h
 |_::_,[],h=>by simp[Oj]at h
theorem acT (h:GX E I ρ n st a w){zs vs:List Nat}{π:Nat->Option Nat}(hvs:∀b,b∈vs->π b=none){v:Value}{x y:AV}(hx:GV I ρ v x)(hy:WX zs st.bx π vs x y):GV (wW I ρ w st.bx zs) (xX ρ π vs) v y:=by
 cases x with
 | one x=>cases y with
   |one y=>exact aaX h hvs hx hy
   |_=>exact hy.elim
 | agg xs=>cases y with
   |agg ys=>obtain⟨cs,rfl,hg⟩:=hx;exact⟨cs,rfl,Rh h hvs hg hy⟩
   |_=>exact hy.elim
 | wF ps=>cases y with
   | wF qs=>
     obtain⟨us,rfl,hl,hp⟩:=hx;obtain⟨i1,i2⟩:=TU (show Oj zs st.bx π vs ps qs from hy);refine⟨us,rfl,by rw[hl,i1],λj v q hv hq=>?_⟩;obtain⟨p,hpj,e,hw⟩:=i2 j q hq;have h1:=hp j v p hv hpj;unfold GP at h1⊢;rw[e]at h1;split at h1
     ·rename_i hb;rw[if_pos hb];obtain⟨cs,rfl,hg⟩:=h1;exact⟨cs,rfl,Rh h hvs hg hw⟩
     ·rename_i hb;rw[if_neg hb];obtain⟨x,hx,hg⟩:=h1;rw[hx]at hw;cases hq2:q.2 with
      |nil=>rw[hq2]at hw;exact hw.elim
      | cons y t=>
        rw[hq2]at hw;cases t with
        |nil=>exact⟨y,rfl,aaX h hvs hg hw.1⟩
        |cons z t=>exact hw.2.elim
   |_=>exact hy.elim
theorem Pj (h:GX E I ρ n st a w){m:Nat}(hm:E.m<=m){bx':Nat->Box}{zs vs:List Nat}{π:Nat->Option Nat}(hw:WkS m st.bx bx' zs π vs) :
 GX E (wW I ρ w st.bx zs) (xX ρ π vs) n ⟨λ_=>.none,bx'⟩ a w:=by
 have hF:=h.freeze zs;generalize hJ:wW I ρ w st.bx zs=J at *;have hnd:∀b k,(bx' b).uses (xX ρ π vs b) k->(bx' b).Jc=false:=λb k hu=>by
  cases hx:bx' b with
  |dead=>rw[hx]at hu;exact hu.elim
  |_=>rfl
 have xm:∀b k,(bx' b).uses (xX ρ π vs b) k->∃c,π b=some c/\((st.zL zs).bx c).uses (ρ c) k:=by
  intro b k hu;have hb:=hw.box b;cases hx:bx' b with
  | var ys=>
    rw[hx]at hu hb;simp only[TR]at hb;split at hb
    ·rename_i c hc;refine⟨c,hc,?_⟩;split at hb
     ·rename_i xs hxs;rw[uZ,hxs];simp only[xX,hc]at hu;split<;>exact hu
     ·exact hb.elim
    ·exact hb.elim
  | dat sz es=>
    rw[hx]at hu hb;simp only[TR]at hb;split at hb
    ·rename_i c hc;refine⟨c,hc,?_⟩;simp only[xX,hc]at hu;rcases hb.2 with hb2|⟨t,hb2⟩
     ·rw[uZ,if_neg hb.1,hb2];exact hu
     ·rw[uZ,if_neg hb.1,hb2];exact hu
    ·rename_i hc;obtain⟨cap,hu1,hu2⟩:=hu;simp only[xX,hc,hb.1,if_true,aG,bV]at hu1;exact absurd hu1.2.symm hu2
  | row e l=>
    rw[hx]at hu hb;simp only[TR]at hb;split at hb
    ·rename_i c hc;refine⟨c,hc,?_⟩;simp only[xX,hc]at hu;rw[uZ,hb];split<;>exact hu
    ·exact hb.elim
  |absent=>rw[hx]at hu;exact hu.elim
  |dead=>rw[hx]at hu;exact hu.elim
  |zL sz es=>rw[hx]at hu;exact hu.elim
 refine{ agree:=hF.agree,bx:=⟨λb=>?_,λb b' k hb hb'=>?_,λb k hb=>?_⟩,tm:=λt ht=>trivial,size:=h.size,defers:=h.defers,wu:=h.wu,own:=λb k hu=>?_,Ei:=hF.Ei,Az:=hF.Az,rQ:=λb hb=>?_ }
 ·have hb:=hw.box b;show qf J (xX ρ π vs) w b (bx' b);cases hx:bx' b with
  | absent=>rw[hx]at hb;show xX ρ π vs b=none;simp only[xX,hb.1,hb.2,if_false]
  |dead=>trivial
  | var ys=>
    rw[hx]at hb;simp only[TR]at hb;split at hb
    ·rename_i c hc;split at hb
     ·rename_i xs hxs;have hok:=h.bx.ok c;rw[hxs]at hok;obtain⟨k,cap,cs,hr,hwk,hsz,hcs⟩:=hok;have hg:EN J (xX ρ π vs) cs.toList ys:=by
       subst hJ;exact Rh h hw.vir ⟨by simpa using hsz,λj u x hu hx=>hcs j u x (by simpa using hu) hx⟩ hb
      refine⟨k,cap,cs,by simp only[xX,hc];exact hr,hwk,by simpa using hg.1,λj u x hu hx=>hg.2 j u x (by simpa using hu) hx⟩
     ·exact hb.elim
    ·exact hb.elim
  | dat sz es=>
    rw[hx]at hb;simp only[TR]at hb;split at hb
    ·rename_i c hc;have hok:=hF.bx.ok c;rcases hb.2 with hb2|⟨t,hb2⟩
     ·rw[uZ,if_neg hb.1,hb2]at hok;obtain⟨k,cap,hr,hrest⟩:=hok;exact⟨k,cap,by simp only[xX,hc];exact hr,hrest⟩
     ·rw[uZ,if_neg hb.1,hb2]at hok;obtain⟨k,cap,hr,h1,h2,h3,h4⟩:=hok;refine⟨k,cap,by simp only[xX,hc];exact hr,by simp at h1;omega,h2,λe he=>h3 e (bG _ he),λh0=>?_⟩;obtain⟨cs,e,g1,g2,g3,g4⟩:=h4 h0;refine⟨cs,e,g1,g2,g3,λi j c' hc'=>g4 i j c' ?_⟩;have hi:=iL hc';rw[<- hc']
      congr 1
      simp only[List.getD];rw[aU hi]
    ·rename_i hc;obtain⟨hv,rfl⟩:=hb;exact⟨0,0,by simp only[xX,hc,hv,if_true],by simp,by simp[maxLen],by simp,λh=>absurd rfl h⟩
  | row e l=>
    rw[hx]at hb;simp only[TR]at hb;split at hb
    ·rename_i c hc;have hok:=hF.bx.ok c;rw[uZ,hb]at hok;have e1:(if c∈zs then BD (.row e l)else .row e l)=Box.row e l:=(by split<;>rfl);rw[e1]at hok;obtain⟨k,cap,hr,hrest⟩:=hok;exact⟨k,cap,by simp only[xX,hc];exact hr,hrest⟩
    ·exact hb.elim
  | zL sz es=>
    rw[hx]at hb;simp only[TR]at hb;split at hb
    ·rename_i c hc;have hok:=hF.bx.ok c;have e:(st.zL zs).bx c = .zL sz es:=by
      rw[uZ];rcases hb with hb|⟨hz,hb⟩
      ·rw[hb];split<;>rfl
      ·rw[hb,if_pos hz];rfl
     rw[e]at hok;obtain⟨k,cap,hr,hrest⟩:=hok;exact⟨k,cap,by simp only[xX,hc];exact hr,hrest⟩
    ·exact hb.elim
 ·obtain⟨c,hc,hu⟩:=xm b k hb;obtain⟨c',hc',hu'⟩:=xm b' k hb';have:=hF.bx.inj c c' k hu hu';subst this;exact hw.inj b b' c (hnd b k hb) (hnd b' k hb') hc hc'
 ·obtain⟨c,hc,hu⟩:=xm b k hb;exact hF.bx.fresh c k hu
 ·obtain⟨c,hc,hu'⟩:=xm b k hu;exact hF.own c k hu'
 ·rcases hw.fix b (by omega)with hf|⟨hf,hv,hab⟩
  ·simp only[xX,hf];exact h.rQ b hb
  ·have:=h.bx.ok b;rw[hab]at this;rw[<- h.rQ b hb];simp only[xX,hf,hv,if_false];exact this.symm
theorem Gz (h:GX E I ρ n st a w){m:Nat}(hm:E.m<=m){S:dP}(hw:Fv m st S):∃J σ,GX E J σ n S a w:=by
 obtain⟨zs,π,vs,hs,ht⟩:=hw;have h1:=Pj h hm hs;refine⟨_,_,{ h1 with tm:=λt htn=>?_,bx:=h1.bx,agree:=h1.agree,size:=h1.size,defers:=h1.defers,wu:=h1.wu,own:=h1.own }⟩;have h2:=ht t;have h3:=h.tm t htn;cases hS:S.tm t with
 |none=>trivial
 | v g y=>
   rw[hS]at h2;cases hst:st.tm t with
   |none=>rw[hst]at h2;exact h2.elim
   | v g' x=>rw[hst]at h2 h3;obtain⟨rfl,hv⟩:=h2;exact⟨λhg=>acT h hs.vir (h3.1 hg) (hv hg),h3.2⟩
theorem AK.weak {m:Nat}(hm:E.m<=m){K:dP->Prop}{X:Type}{J:X->Prop}{S:X->dP}(hk:∀st,K st->∃x,J x/\Fv m st (S x)){a:Act}{w:World}(h:AK E n K a w):∃x,J x/\AK E n (λst=>st=S x) a w:=by obtain⟨I,ρ,st,hK,hg⟩:=h;obtain⟨x,hj,hw⟩:=hk st hK;obtain⟨I',ρ',hg'⟩:=Gz hg hm hw;exact⟨x,hj,I',ρ',_,rfl,hg'⟩
end
end
def dP.of (ts:List (Nat×Slot))(bs:List (Nat×Box)):dP:=
 ⟨λt=>match ts.find? (λp=>p.1==t)with|some p=>p.2|none=>.none,λb=>match bs.find? (λp=>p.1==b)with|some p=>p.2|none=>.absent⟩
def uV : List (Nat×Slot)->Nat->Slot
 |[],_=>.none
 |(t',s)::r,t=>if t'=t then s else uV r t
def lY : List (Nat×Box)->Nat->Box
 |[],_=>.absent
 |(t',s)::r,t=>if t'=t then s else lY r t
theorem Cb (ts:List (Nat×Slot))(bs:List (Nat×Box))(t:Nat):(dP.of ts bs).tm t=uV ts t:=by
 simp only[dP.of]
 induction ts with
 |nil=>rfl
 | cons p r ih=>
   obtain⟨a,b⟩:=p;by_cases h:a=t
   ·subst h;simp[uV]
   ·simp[uV,h,ih]
theorem yf (ts:List (Nat×Slot))(bs:List (Nat×Box))(t:Nat):(dP.of ts bs).bx t=lY bs t:=by
 simp only[dP.of]
 induction bs with
 |nil=>rfl
 | cons p r ih=>
   obtain⟨a,b⟩:=p;by_cases h:a=t
   ·subst h;simp[lY]
   ·simp[lY,h,ih]
theorem adG (ts:List (Nat×Slot))(bs:List (Nat×Box))(t:Nat)(s:Slot):(dP.of ts bs).put t s=dP.of ((t,s)::ts) bs:=by
 apply dP.ext'
 ·funext t';rw[Cb,dP.MZ,Cb,uV];by_cases h:t'=t
  ·simp[h]
  ·rw[if_neg h,if_neg (λe=>h e.symm)]
 ·funext b;rw[dP.adO,yf,yf]
def setB : List (Nat×Box)->Nat->Box->List (Nat×Box)
 |[],b,x=>[(b,x)]
 |(b',y)::r,b,x=>if b'=b then(b,x)::r else(b',y)::setB r b x
theorem Vf (bs:List (Nat×Box))(b b':Nat)(x:Box):lY (setB bs b x) b'=if b'=b then x else lY bs b':=by
 induction bs with
 | nil => simp only[setB,lY];by_cases h:b=b'
          ·simp[h]
          ·rw[if_neg h,if_neg (λe=>h e.symm)]
 | cons p r ih=>
   obtain⟨c,y⟩:=p;simp only[setB];by_cases h:c=b
   ·subst h;simp only[if_true,lY];by_cases h':c=b'
    ·simp[h']
    ·rw[if_neg h',if_neg h',if_neg (λe=>h' e.symm)]
   ·rw[if_neg h];simp only[lY,ih];by_cases h':c=b'
    ·subst h';simp[h]
    ·simp[h']
theorem abY (ts:List (Nat×Slot))(bs:List (Nat×Box))(b:Nat)(x:Box):(dP.of ts bs).sN b x=dP.of ts (setB bs b x):=by
 apply dP.ext'
 ·funext t;rw[dP.ace,Cb,Cb]
 ·funext b';rw[dP.kX,yf,yf,Vf]
def SI (ts:List (Nat×Slot)):List Nat->List (Nat×Slot)
 |[]=>[]
 |t::r=>(t,uV ts t)::SI ts r
theorem abX (ts:List (Nat×Slot))(bs:List (Nat×Box))(l:List Nat):(dP.of ts bs).keep l=dP.of (SI ts l) bs:=by
 apply dP.ext'
 ·funext t
  simp only[dP.keep];rw[Cb,Cb]
  induction l with
  |nil=>rfl
  | cons a r ih=>
    simp only[SI,uV];by_cases h:a=t
    ·subst h;simp
    ·rw[if_neg h,<- ih];have h':¬t=a:=λe=>h e.symm;simp[h']
 ·funext b;simp only[dP.keep];rw[yf,yf]
theorem Yg (st:dP)(s:Slot):st.uA none s=st:=rfl
theorem Yh (st:dP)(t:Nat)(s:Slot):st.uA (some t) s=st.put t s:=rfl
theorem Yt (st:dP):st.mQ []=st:=rfl
theorem VA (st:dP)(b:Nat)(x:Box)(r:List (Nat×Box)):st.mQ ((b,x)::r)=(st.sN b x).mQ r:=rfl
theorem afN (tm:Nat->Slot)(s:Nat):(jK.t s).ev tm=tm s:=rfl
theorem afM (tm:Nat->Slot)(x:AC):(jK.k x).ev tm = .v true (.one x):=rfl
theorem g_v (g:Bool)(x:AV):(Slot.v g x).g=g:=rfl
theorem x_v (g:Bool)(x:AV):(Slot.v g x).x=x:=rfl
section
inductive dD where
 |skip
 |reg (ops:List gX) (keep:List Nat)
 |qp (ops:List (gX×List Nat)) (keep:List Nat)
 |seq (a b:dD)
 |cut (a b:dD)
 |cond (c:jK) (a b:dD)
 |block (id:Nat) (a:dD)
 |loop (a:dD)
 |exit (id:Nat)
 |ret
 deriving Inhabited
inductive o6 where
 |normal
 |exit (id:Nat)
 |ret
abbrev AQ :=o6->dP->Prop
def o6.then (next:dP->Prop)(Q:AQ):AQ
 |.normal,st=>next st
 |.exit id,st=>Q (.exit id) st
 |.ret,st=>Q .ret st
def o6.inBlock (id:Nat)(Q:AQ):AQ
 |.exit id',st=>if id'=id then Q .normal st else Q (.exit id') st
 |.normal,st=>Q .normal st
 |.ret,st=>Q .ret st
def aer (body:AQ->dP->Prop)(Q:AQ)(st:dP):Prop:=
 ∃ (X:Type) (J:X->Prop) (S:X->dP) (μ:X->Nat),(∃x,J x/\Fv 10 st (S x)) /\
   ∀x,J x->body (o6.then (λst'=>∃x',(J x'/\μ x'<μ x)/\Fv 10 st' (S x')) Q) (S x)
def afF (wa:AQ->dP->Prop)(wb:AQ->dP->Prop)(Q:AQ)(st:dP):Prop:=
 ∃(X:Type) (J:X->Prop) (S:X->dP),wa (o6.then (λst'=>∃x,J x/\Fv 10 st' (S x)) Q) st/\∀x,J x->wb Q (S x)
def CB (body:AQ->dP->Prop)(Q:AQ)(st:dP)(_:DU body)(_:DU Q):Prop:=aer body Q st
def GL (wa wb:AQ->dP->Prop)(Q:AQ)(st:dP)(_:DU wa)(_:DU wb)(_:DU Q):Prop:=afF wa wb Q st
def wpC (P:Program):dD->AQ->dP->Prop
 |.skip,Q,st=>Q .normal st
 |.reg ops keep,Q,st=>wpOps P ops st λst=>Q .normal (st.keep keep)
 |.qp ops keep,Q,st=>wpD P ops 0 [] st λst=>Q .normal (st.keep keep)
 |.seq a b,Q,st=>wpC P a (o6.then (wpC P b Q) Q) st
 |.cut a b,Q,st=>GL (wpC P a) (wpC P b) Q st .mk .mk .mk
 | .cond c a b,Q,st=>(c.ev st.tm).g=true/\match(c.ev st.tm).x with
   |.one (.c (.lit (.bool t)))=>(t=true->wpC P a Q st)/\(t=false->wpC P b Q st)
   |_=>False
 |.block id a,Q,st=>wpC P a (o6.inBlock id Q) st
 |.loop a,Q,st=>CB (wpC P a) Q st .mk .mk
 |.exit id,Q,st=>Q (.exit id) st
 |.ret,Q,st=>Q .ret st
def oK (P:Program)(n m:Nat):Code->dD->Bool
 |.skip,.skip=>true
 |.region _ ops false,.reg xs _=>IQ P n m ops ops.toList xs
 |.region _ ops true,.qp xs _=>G7 P n m ops xs&&P.follows .mixedOrders
 |.seq a b,.seq x y=>oK P n m a x&&oK P n m b y
 |.seq a b,.cut x y=>oK P n m a x&&oK P n m b y
 |.cond c a b,.cond d x y=>gW n c d&&oK P n m a x&&oK P n m b y
 |.block i a,.block j x=>i==j&&oK P n m a x
 |.loop a,.loop x=>oK P n m a x
 |.exit i,.exit j=>i==j
 |.ret,.ret=>true
 |_,_=>false
section
variable {P:Program} {E:Env P} {n:Nat}
def CQ (E:Env P)(n:Nat)(Q:AQ):Exit->Act->World->Prop
 |.normal,a,w=>AK E n (Q .normal) a w
 |.exit id,a,w=>AK E n (Q (.exit id)) a w
 |.ret,a,w=>AK E n (Q .ret) a w
 |_,_,_=>False
theorem Pn {Q:AQ}{next:dP->Prop}{nx:Act->World->Prop}(h:∀a w,AK E n next a w->nx a w)(e:Exit)(a:Act)(w:World)(hq:CQ E n (o6.then next Q) e a w):Exit.then nx (CQ E n Q) e a w:=by
 cases e with
 |normal=>exact h a w hq
 |exit id=>exact hq
 |ret=>exact hq
 |goto l=>exact hq
 |panic c=>exact hq
 |outgrown=>exact hq
theorem Ug {Q:AQ}{id:Nat}(e:Exit)(a:Act)(w:World)(hq:CQ E n (o6.inBlock id Q) e a w):rY id (CQ E n Q) e a w:=by
 cases e with
 |normal=>exact hq
 | exit id'=>
   simp only[rY];by_cases h:id'=id
   ·rw[if_pos h];exact AK.imp (λst (hs:o6.inBlock id Q (.exit id') st)=>by simp only[o6.inBlock,if_pos h]at hs;exact hs) hq
   ·rw[if_neg h];exact AK.imp (λst (hs:o6.inBlock id Q (.exit id') st)=>by simp only[o6.inBlock,if_neg h]at hs;exact hs) hq
 |ret=>exact hq
 |goto l=>exact hq
 |panic c=>exact hq
 |outgrown=>exact hq
theorem GX.keep {I:IH}{ρ:Ren}{st:dP}{a:Act}{w:World}(h:GX E I ρ n st a w)(ts:List Nat):GX E I ρ n (st.keep ts) a w:=
 have ht:∀t,t<n->Uh I ρ (a.tmps.getD t undef) ((st.keep ts).tm t):=λt ht=>by
  simp only[dP.keep];split
  ·exact h.tm t ht
  ·trivial
 { h with tm:=ht,bx:=h.bx,agree:=h.agree,size:=h.size,defers:=h.defers,wu:=h.wu,own:=h.own }
theorem BH {Q:Exit->Act->World->Prop}{a:Act}{w:World}{c:Code}(Inv:Nat->Act->World->Prop)(h0:∃k,Inv k a w)
 (round:∀k a w,Inv k a w->c.wp P (Exit.then (λa' w'=>∃k',k'<k/\Inv k' a' w') Q) a w):(Code.loop c).wp P Q a w:=by
 have hmin:∀a w,(∃k,Inv k a w)->∃k,Inv k a w/\∀j,j<k->¬Inv j a w:=by
  intro a w ⟨k,hk⟩
  induction k using Nat.strongRecOn with
  | _ k ih=>
    by_cases h:∃j,j<k/\Inv j a w
    ·obtain⟨j,hj,hi⟩:=h;exact ih j hj hi
    ·exact⟨k,hk,λj hj hi=>h ⟨j,hj,hi⟩⟩
 let μ:Act->World->Nat:=λa w=>open Classical in if h:∃k,Inv k a w then(hmin a w h).choose else 0
 have hμ:∀a w,(∃k,Inv k a w)->Inv (μ a w) a w/\∀j,Inv j a w->μ a w<=j:=by intro a w h;have hs:=(hmin a w h).choose_spec;simp only[μ,dif_pos h];exact⟨hs.1,λj hj=>Nat.le_of_not_lt λhlt=>hs.2 j hlt hj⟩
 refine wp_loop (λa w=>∃k,Inv k a w) μ h0 λa w h=>?_;refine wp_mono (round _ a w (hμ a w h).1) λe a' w' hq=>?_;cases e with
 | normal=>obtain⟨k',hlt,hk⟩:=hq;exact⟨⟨k',hk⟩,Nat.lt_of_le_of_lt ((hμ a' w' ⟨k',hk⟩).2 k' hk) hlt⟩
 |exit id=>exact hq
 |ret=>exact hq
 |goto l=>exact hq
 |panic c=>exact hq
 |outgrown=>exact hq
theorem rJ (hm:E.m<=10):∀{ac:dD} {c:Code} {Q:AQ} {a:Act} {w:World},oK P n E.m c ac=true->AK E n (wpC P ac Q) a w->c.wp P (CQ E n Q) a w
 | .skip,c,Q,a,w,hc,h=>by
   unfold oK at hc;split at hc<;>first|contradiction|skip
   exact wp_skip h
 | .reg xs keep,c,Q,a,w,hc,h=>by
   unfold oK at hc;split at hc<;>first|contradiction|skip
   rename_i heq;cases heq;refine wp_region_list (Nh hm hc h λa w hk=>?_);obtain⟨I,ρ,st,hk,hg⟩:=hk;exact⟨I,ρ,_,hk,hg.keep keep⟩
 | .qp xs keep,c,Q,a,w,hc,h=>by
   unfold oK at hc;split at hc<;>first|contradiction|skip
   rename_i heq;cases heq;simp only[af]at hc;refine Vu hm hc.2 hc.1 (λa w hk=>?_) h;obtain⟨I,ρ,st,hk,hg⟩:=hk;exact⟨I,ρ,_,hk,hg.keep keep⟩
 | .seq x y,c,Q,a,w,hc,h=>by
   unfold oK at hc;split at hc<;>first|contradiction|skip
   rename_i heq;cases heq;simp only[af]at hc;exact wp_seq (wp_mono (rJ hm hc.1 h) (Pn λa w hk=>rJ hm hc.2 hk))
 | .cut x y,c,Q,a,w,hc,h=>by
   unfold oK at hc;split at hc<;>first|contradiction|skip
   rename_i heq;cases heq;simp only[af]at hc;obtain⟨I,ρ,st,⟨X,J,S,h1,h2⟩,hg⟩:=h;refine wp_seq (wp_mono (rJ hm hc.1 ⟨I,ρ,st,h1,hg⟩) (Pn λa w hk=>?_));obtain⟨x,hj,I',ρ',st',rfl,hg'⟩:=AK.weak hm (λst h=>h) hk;exact rJ hm hc.2 ⟨I',ρ',_,h2 x hj,hg'⟩
 | .cond d x y,c,Q,a,w,hc,h=>by
   unfold oK at hc;split at hc<;>first|contradiction|skip
   rename_i heq;cases heq;simp only[af]at hc;obtain⟨I,ρ,st,⟨h1,h2⟩,hg⟩:=h;have hv:=jl hg hc.1.1 h1;unfold bT at hv;split at h2
   ·rename_i t ht;rw[ht]at hv;exact wp_cond_split (CV hv) (λe=>rJ hm hc.1.2 ⟨I,ρ,st,h2.1 e,hg⟩) (λe=>rJ hm hc.2 ⟨I,ρ,st,h2.2 e,hg⟩)
   ·exact h2.elim
 | .block id x,c,Q,a,w,hc,h=>by
   unfold oK at hc;split at hc<;>first|contradiction|skip
   rename_i heq;cases heq;simp only[af,beq_iff_eq]at hc;obtain⟨rfl,hc⟩:=hc;exact wp_block (wp_mono (rJ hm hc h) Ug)
 | .loop x,c,Q,a,w,hc,h=>by
   unfold oK at hc;split at hc<;>first|contradiction|skip
   rename_i heq;cases heq;obtain⟨I,ρ,st,⟨X,J,S,μ,⟨x0,hj0,hw0⟩,hr⟩,hg⟩:=h;refine BH (λk a w=>∃x,J x/\μ x=k/\AK E n (λst=>st=S x) a w) ?_ ?_
   ·obtain⟨I',ρ',hg'⟩:=Gz hg hm hw0;exact⟨_,x0,hj0,rfl,I',ρ',_,rfl,hg'⟩
   ·rintro k a w ⟨x,hj,rfl,I,ρ,st,rfl,hg⟩;refine wp_mono (rJ hm hc ⟨I,ρ,_,hr x hj,hg⟩) (Pn λa w hk=>?_);obtain⟨x',⟨hj',hlt⟩,hk'⟩:=AK.weak (J:=λx'=>J x'/\μ x'<μ x) hm (λst h=>h) hk;exact⟨_,hlt,x',hj',rfl,hk'⟩
 | .exit id,c,Q,a,w,hc,h=>by
   unfold oK at hc;split at hc<;>first|contradiction|skip
   rename_i heq;cases heq;simp only[beq_iff_eq]at hc;subst hc;exact wp_exit h
 | .ret,c,Q,a,w,hc,h=>by
   unfold oK at hc;split at hc<;>first|contradiction|skip
   exact wp_ret h
end
end
section
def Ref.rn (ρ:Nat->Nat)(r:Ref):Ref:=⟨r.off,r.ty,ρ r.m⟩
def OF.rn (ρ:Nat->Nat):OF->OF
 |.ref t r=>.ref t (r.rn ρ)
 |.xP t i r=>.xP t i (r.rn ρ)
 |.row b r=>.row b (r.rn ρ)
 |f=>f
def rnP (dp:Nat)(ρ:Nat->Nat):ru->ru
 |.tag d m=>if d=dp then .tag d (ρ m)else .tag d m
 |p=>p
def Own.rn (g:Own)(dp:Nat)(ρ:Nat->Nat):Own:=⟨λk=>match g k with
 |some (.arr T p)=>some (.arr T (rnP dp ρ p))
 |some (.var row d b)=>some (.var (if d=dp then row.map (Ref.rn ρ)else row) d b)
 |none=>none,g.bd⟩
theorem O6 {g:Own}{dp k:Nat}{ρ:Nat->Nat} : (g.rn dp ρ) k=match g k with
 |some (.arr T p)=>some (.arr T (rnP dp ρ p))
 |some (.var row d b)=>some (.var (if d=dp then row.map (Ref.rn ρ)else row) d b)
 |none=>none:=rfl
def OF.loc : OF->Nat
 |.row b r=>100000+b*100+r.off
 |.ref t r=>200000+t*100+r.off
 |.xP t i r=>300000+t*1000+i*100+r.off
 |_=>0
def Y5 (Γ : List OF)(m:Nat):Nat:= Γ.foldl (λx f=>match f.adY with|some m'=>if Nat.beq m' m&&Nat.ble f.loc x then f.loc else x|none=>x) 1000000
def canon (Γ : List OF):List OF:= Γ.map (OF.rn (Y5 Γ))
section
variable {P:Program} {F:JH} {g:Own} {dp N:Nat} {Γ : List OF} {a:Act} {w:World}
theorem GR.rn {u:Value}{T:Nat}{p:ru}(h:GR g u T p)(ρ:Nat->Nat):GR (g.rn dp ρ) u T (rnP dp ρ p):=by
 rcases h with h|⟨k,n,c,h1,h2⟩
 ·exact .inl h
 ·exact .inr ⟨k,n,c,h1,by rw[O6,h2.1],h2.2⟩
theorem GR.rnT {u:Value}{T m:Nat}(h:GR g u T (.tag dp m))(ρ:Nat->Nat):GR (g.rn dp ρ) u T (.tag dp (ρ m)):=by have:=h.rn (dp:=dp) ρ;simpa[rnP]using this
theorem Vx {ρ:Nat->Nat}{k T:Nat}{p:ru}(h:g.rn dp ρ k=some (.arr T p)):∃q,g k=some (.arr T q)/\p=rnP dp ρ q:=by
 rw[O6]at h;split at h
 ·rename_i T0 q h0;cases h;exact⟨q,h0,rfl⟩
 ·cases h
 ·cases h
theorem Vy {ρ:Nat->Nat}{k d b:Nat}{row:List Ref}(h:g.rn dp ρ k=some (.var row d b)):∃row0,g k=some (.var row0 d b)/\row=if d=dp then row0.map (Ref.rn ρ)else row0:=by
 rw[O6]at h;split at h
 ·cases h
 ·rename_i row0 d0 b0 h0;cases h;exact⟨row0,h0,rfl⟩
 ·cases h
theorem Good.rn (h:Good P g w)(ρ:Nat->Nat):Good P (g.rn dp ρ) w:=by
 refine⟨λk T p hk=>?_,λk row d b hk=>?_⟩
 ·obtain⟨q,h1,rfl⟩:=Vx hk;obtain⟨cs,e,hw,hc⟩:=h.arr k T q h1;exact⟨cs,e,hw,λj u T' hb hu ht=>(hc j u T' hb hu ht).rn ρ⟩
 ·obtain⟨row0,h1,rfl⟩:=Vy hk;obtain⟨cs,e,hw,hc⟩:=h.var k row0 d b h1;refine⟨cs,e,hw,λr hr=>?_⟩;by_cases hd:d=dp
  ·subst hd;rw[if_pos rfl,aF]at hr;obtain⟨r0,hr0,rfl⟩:=hr;obtain⟨u,hu,hg⟩:=hc r0 hr0;exact⟨u,hu,hg.rnT ρ⟩
  ·rw[if_neg hd]at hr;obtain⟨u,hu,hg⟩:=hc r hr;have:=hg.rn (dp:=dp) ρ;simp only[rnP,if_neg hd]at this;exact⟨u,hu,this⟩
theorem yw.rn {f:OF}(h:yw P F g dp a w f)(ρ:Nat->Nat):yw P F (g.rn dp ρ) dp a w (f.rn ρ):=by
 have old:∀{k T:Nat} {X:Prop},(∀B,g k=some B->(∃p,B = .arr T p)/\X)->∀B,g.rn dp ρ k=some B->(∃p,B = .arr T p)/\X:=by
  intro k T X hold B hB;cases B with
  | arr T' p=>obtain⟨q,h1,rfl⟩:=Vx hB;obtain⟨⟨p',e⟩,hx⟩:=hold _ h1;cases e;exact⟨⟨_,rfl⟩,hx⟩
  | var row d b=>obtain⟨row0,h1,_⟩:=Vy hB;obtain⟨⟨p',e⟩,_⟩:=hold _ h1;cases e
 have vv:∀{k row b},g k=some (.var row dp b)->g.rn dp ρ k=some (.var (row.map (Ref.rn ρ)) dp b):=λh1=>by rw[O6,h1];simp
 cases f with
 | sr t T=>
   rcases h with h|⟨k,o,n,c,h1,h2,h3⟩
   ·exact .inl h
   ·exact .inr ⟨k,o,n,c,h1,h2,old h3⟩
 |ep t T off=>obtain⟨k,o,h1,h2,h3⟩:=h;exact⟨k,o,h1,h2,old h3⟩
 |vp t b off=>obtain⟨k,row,h1,h2,h3⟩:=h;exact⟨k,_,h1,h2,vv h3⟩
 |ref t r=>obtain⟨u,h1,h2⟩:=h;exact⟨u,h1,h2.rnT ρ⟩
 |xP t i r=>obtain⟨vs,x,u,h1,h2,h3,h4⟩:=h;exact⟨vs,x,u,h1,h2,h3,h4.rnT ρ⟩
 |row b r=>obtain⟨k,row,h1,h2,h3⟩:=h;exact⟨k,_,h1,vv h2,aF.2 ⟨r,h3,rfl⟩⟩
 |fn t s=>exact h
theorem Rel.rn (ρ:Nat->Nat):Rel dp N g (g.rn dp ρ):=by
 refine⟨λk T d m hd hk=>?_,λk row d b hd hk=>?_,λk B' _ hB=>?_⟩
 ·rw[O6,hk];simp only[rnP];rw[if_neg (by omega)];exact⟨rfl,rfl⟩
 ·rw[O6,hk];simp only;rw[if_neg (by omega)]
 ·cases B' with
  | arr T p=>obtain⟨q,h1,_⟩:=Vx hB;exact⟨_,h1,λT' p' hb=>by rcases hb with e|e<;>cases e<;>exact⟨_,_,rfl,rfl⟩⟩
  | var row d b=>obtain⟨row0,h1,_⟩:=Vy hB;exact⟨_,h1,λT' p' hb=>by rcases hb with e|e<;>cases e⟩
theorem LY.canon {E:Env P}{g0:Own}(h:LY E g0 dp Γ a w):LY E g0 dp (canon Γ) a w:=by obtain⟨g,h1,h2⟩:=h;refine⟨g.rn dp (Y5 Γ),h1.trans (Rel.rn _),h2.good.rn _,λf hf=>?_⟩;rw[Ab.canon,aF]at hf;obtain⟨f0,h3,rfl⟩:=hf;exact(h2.fs f0 h3).rn _
end
abbrev OX :=Option (List OF)×List (Nat×List OF)
def ZW (ts:List Nat)(Γ : List OF):List OF:= Γ.filter λf=>f.WU.all ts.contains
def Ws : Option (List OF)->Option (List OF)->Option (List OF)
 |none,x=>x
 |x,none=>x
 |some a,some b=>some (a.filter b.contains)
def KE (id:Nat)(l:List (Nat×List OF)):Option (List OF):=match(l.filter λe=>e.1==id).map (·.2)with
 |[]=>none
 |Gs=>some (Wx Gs)
def acd (f g:List OF->Option OX)(Γ : List OF):Option OX:=match f Γ with
 |some (none,x1)=>some (none,x1)
 | some (some DD,x1)=>(match g DD with
   |some (n2,x2)=>some (n2,x1++x2)
   |none=>none)
 |none=>none
def acF (f g:List OF->Option OX)(Γ : List OF):Option OX:=match f Γ,g Γ with
 |some (n1,x1),some (n2,x2)=>some (Ws n1 n2,x1++x2)
 |_,_=>none
def Y2 (i:Nat)(f:List OF->Option OX)(Γ : List OF):Option OX:=match f Γ with
 |some (n1,x1)=>some (Ws n1 (KE i x1),x1)
 |none=>none
def Wq (f:List OF->Option OX):Nat->List OF->Option OX
 |0,_=>none
 | k+1,Γ =>match f Γ with
   |some (none,x1)=>some (none,x1)
   |some (some DD,x1)=>if Γ.all DD.contains then some (none,x1)else Wq f k (Γ.filter DD.contains)
   |none=>none
def oC (P:Program)(pl:List Nat)(rk:List OF->Bool):Code->dD->List OF->Option OX
 |.skip,.skip=>fun Γ =>some (some Γ,[])
 |.region _ ops false,.reg xs keep=>fun Γ =>(Tn P pl ops.toList xs Γ).bind λvO=>L8 (canon (ZW (pl++keep) vO)) λG=>some (some G,[])
 |.region _ ops true,.qp xs keep=>fun Γ =>(adT P pl keep ops (items xs 0) Γ).bind λvO=>L8 (canon (ZW (pl++keep) vO)) λG=>some (some G,[])
 |.seq a b,.seq x y=>acd (oC P pl rk a x) (oC P pl rk b y)
 |.seq a b,.cut x y=>acd (oC P pl rk a x) (oC P pl rk b y)
 |.cond _ a b,.cond _ x y=>acF (oC P pl rk a x) (oC P pl rk b y)
 |.block i a,.block _ x=>Y2 i (oC P pl rk a x)
 |.loop a,.loop x=>Wq (oC P pl rk a x) 5
 |.exit i,.exit _=>fun Γ =>some (none,[(i,Γ)])
 |.ret,.ret=>fun Γ =>if rk Γ then some (none,[])else none
 |_,_=>λ_=>none
section
variable {P:Program} {E:Env P} {n:Nat} {g0:Own} {dp:Nat} {pa:List (Nat×Value)} {pl:List Nat} {rk:List OF->Bool}
theorem Wu {a b:Option (List OF)}{Γ : List OF}(h:a=some Γ):∃M,Ws a b=some M/\∀f,f∈M->f ∈ Γ :=by
 subst h;cases b with
 |none=>exact⟨Γ,rfl,λf hf=>hf⟩
 |some B=>exact⟨_,rfl,λf hf=>(aJ.1 hf).1⟩
theorem Wv {a b:Option (List OF)}{Γ : List OF}(h:b=some Γ):∃M,Ws a b=some M/\∀f,f∈M->f ∈ Γ :=by
 subst h;cases a with
 |none=>exact⟨Γ,rfl,λf hf=>hf⟩
 |some A=>exact⟨_,rfl,λf hf=>gm.1 (aJ.1 hf).2⟩
theorem RU {id:Nat}{l:List (Nat×List OF)}{Γ : List OF}(h:(id,Γ)∈l):∃M,KE id l=some M/\∀f,f∈M->f ∈ Γ :=by
 have hm : Γ ∈ (l.filter λe=>e.1==id).map (·.2):=aF.2 ⟨_,aJ.2 ⟨h,by simp⟩,rfl⟩;unfold KE;split
 ·rename_i e;rw[e]at hm;cases hm
 ·exact⟨_,rfl,λf hf=>Ji hf hm⟩
def CQO (E:Env P)(g0:Own)(pa:List (Nat×Value))(dp n:Nat)(rk:List OF->Bool)(Q:AQ)(r:OX):Exit->Act->World->Prop
 |.normal,a,w=>∃ Γ,r.1=some Γ /\ AO E g0 pa dp n (Q .normal) Γ a w
 |.exit id,a,w=>∃ Γ,(id,Γ)∈r.2/\AO E g0 pa dp n (Q (.exit id)) Γ a w
 |.ret,a,w=>∃ Γ,rk Γ = true/\AO E g0 pa dp n (Q .ret) Γ a w
 |_,_,_=>False
theorem CQO.mono {Q Q':AQ}{r r':OX}(hn:∀ Γ a w,r.1=some Γ -> AO E g0 pa dp n (Q .normal) Γ a w->∃vO,r'.1=some vO/\AO E g0 pa dp n (Q' .normal) vO a w)(hx:∀e,e∈r.2->e∈r'.2)(hq:∀id st,Q (.exit id) st->Q' (.exit id) st)(hr:∀st,Q .ret st->Q' .ret st)(e:Exit)(a:Act)(w:World)(h:CQO E g0 pa dp n rk Q r e a w):CQO E g0 pa dp n rk Q' r' e a w:=by
 cases e with
 |normal=>obtain⟨Γ,h1,h2⟩:=h;exact hn Γ a w h1 h2
 |exit id=>obtain⟨Γ,h1,h2⟩:=h;exact⟨Γ,hx _ h1,h2.imp (hq id) λ_ h=>h⟩
 |ret=>obtain⟨Γ,h1,h2⟩:=h;exact⟨Γ,h1,h2.imp hr λ_ h=>h⟩
 |goto l=>exact h
 |panic c=>exact h
 |outgrown=>exact h
theorem AO.keep {K:dP->Prop}{Γ : List OF}{a:Act}{w:World}{ts us:List Nat}(h:AO E g0 pa dp n (λst=>K (st.keep ts)) Γ a w):AO E g0 pa dp n K (canon (ZW us Γ)) a w:=by obtain⟨⟨⟨I,ρ,st,hk,hg⟩,DL⟩,hpa⟩:=h;exact⟨⟨⟨I,ρ,_,hk,hg.keep ts⟩,(DL.weak λf hf=>(aJ.1 hf).1).canon⟩,hpa⟩
theorem pU (hm:E.m<=10)(hpl:∀e,e∈pa->e.1∈pl):∀{ac:dD} {c:Code} {Q:AQ} {Γ : List OF} {r:OX} {a:Act} {w:World},oK P n E.m c ac=true->oC P pl rk c ac Γ = some r->AO E g0 pa dp n (wpC P ac Q) Γ a w->c.wp P (CQO E g0 pa dp n rk Q r) a w
 | .skip,c,Q,Γ,r,a,w,hc,ho,h=>by
   unfold oK at hc;split at hc<;>first|contradiction|skip
   simp only[oC]at ho;cases ho;exact wp_skip ⟨Γ,rfl,h⟩
 | .reg xs keep,c,Q,Γ,r,a,w,hc,ho,h=>by
   unfold oK at hc;split at hc<;>first|contradiction|skip
   rename_i heq;cases heq;simp only[oC,qH,IZ]at ho;obtain⟨vO,h1,h2⟩:=ho;cases h2;exact wp_region_list (JV hm hpl hc h1 h λa w hk=>⟨_,rfl,hk.keep⟩)
 | .qp xs keep,c,Q,Γ,r,a,w,hc,ho,h=>by
   unfold oK at hc;split at hc<;>first|contradiction|skip
   rename_i heq;cases heq;simp only[af]at hc;simp only[oC,qH,IZ]at ho;obtain⟨vO,h1,h2⟩:=ho;cases h2;exact TF hm hpl hc.2 hc.1 h1 (λa w hk=>⟨_,rfl,hk.keep⟩) h
 | .seq x y,c,Q,Γ,r,a,w,hc,ho,h=>by
   unfold oK at hc;split at hc<;>first|contradiction|skip
   rename_i heq;cases heq;simp only[af]at hc;simp only[oC,acd]at ho;refine wp_seq ?_;split at ho
   ·rename_i x1 h1;cases ho;refine wp_mono (pU hm hpl hc.1 h1 h) λe a w hq=>?_;cases e with
    |normal=>obtain⟨_,h2,_⟩:=hq;cases h2
    |exit id=>exact hq
    |ret=>exact hq
    |goto l=>exact hq
    |panic c=>exact hq
    |outgrown=>exact hq
   ·rename_i DD x1 h1;split at ho
    ·rename_i n2 x2 h2;cases ho;refine wp_mono (pU hm hpl hc.1 h1 h) λe a w hq=>?_;cases e with
     | normal=>obtain⟨_,h3,h4⟩:=hq;cases h3;refine wp_mono (pU hm hpl hc.2 h2 h4) λe a w hq=>CQO.mono (r:=(n2,x2)) (r':=(n2,x1++x2)) (Q':=Q) (fun Γ a w h5 h6=>⟨Γ,h5,h6⟩) (λe he=>bU _ he) (λ_ _ h=>h) (λ_ h=>h) e a w hq
     |exit id=>obtain⟨vO,h3,h4⟩:=hq;exact⟨vO,bG _ h3,h4⟩
     |ret=>exact hq
     |goto l=>exact hq
     |panic c=>exact hq
     |outgrown=>exact hq
    ·cases ho
   ·cases ho
 | .cut x y,c,Q,Γ,r,a,w,hc,ho,h=>by
   unfold oK at hc;split at hc<;>first|contradiction|skip
   rename_i heq;cases heq;simp only[af]at hc;simp only[oC,acd]at ho;obtain⟨⟨⟨I,ρ,st,⟨X,J,S,hw1,hw2⟩,hg⟩,DL⟩,hpa⟩:=h;refine wp_seq ?_;split at ho
   ·rename_i x1 h1;cases ho;refine wp_mono (pU hm hpl hc.1 h1 ⟨⟨⟨I,ρ,st,hw1,hg⟩,DL⟩,hpa⟩) λe a w hq=>?_;cases e with
    |normal=>obtain⟨_,h2,_⟩:=hq;cases h2
    |exit id=>exact hq
    |ret=>exact hq
    |goto l=>exact hq
    |panic c=>exact hq
    |outgrown=>exact hq
   ·rename_i DD x1 h1;split at ho
    ·rename_i n2 x2 h2;cases ho;refine wp_mono (pU hm hpl hc.1 h1 ⟨⟨⟨I,ρ,st,hw1,hg⟩,DL⟩,hpa⟩) λe a w hq=>?_;cases e with
     | normal=>obtain⟨_,h3,⟨h4,af1⟩,af5⟩:=hq;cases h3;obtain⟨x,hj,I',ρ',st',rfl,hg'⟩:=AK.weak hm (λst h=>h) h4;refine wp_mono (pU hm hpl hc.2 h2 ⟨⟨⟨I',ρ',_,hw2 x hj,hg'⟩,af1⟩,af5⟩) λe a w hq=>CQO.mono (r:=(n2,x2)) (r':=(n2,x1++x2)) (Q':=Q) (fun Γ a w h5 h6=>⟨Γ,h5,h6⟩) (λe he=>bU _ he) (λ_ _ h=>h) (λ_ h=>h) e a w hq
     |exit id=>obtain⟨vO,h3,h4⟩:=hq;exact⟨vO,bG _ h3,h4⟩
     |ret=>exact hq
     |goto l=>exact hq
     |panic c=>exact hq
     |outgrown=>exact hq
    ·cases ho
   ·cases ho
 | .cond d x y,c,Q,Γ,r,a,w,hc,ho,h=>by
   unfold oK at hc;split at hc<;>first|contradiction|skip
   rename_i heq;cases heq;simp only[af]at hc;simp only[oC,acF]at ho;split at ho
   ·rename_i n1 x1 n2 x2 h1 h2;cases ho;obtain⟨⟨⟨I,ρ,st,⟨hv1,hv2⟩,hg⟩,DL⟩,hpa⟩:=h;have hv:=jl hg hc.1.1 hv1;unfold bT at hv;split at hv2
    ·rename_i t ht;rw[ht]at hv;refine wp_cond_split (CV hv) (λe=>?_) (λe=>?_)
     ·refine wp_mono (pU hm hpl hc.1.2 h1 ⟨⟨⟨I,ρ,st,hv2.1 e,hg⟩,DL⟩,hpa⟩) λe a w hq=>CQO.mono (fun Γ a w h5 h6=>?_) (λe he=>bG _ he) (λ_ _ h=>h) (λ_ h=>h) e a w hq;obtain⟨M,h7,h8⟩:=Wu (b:=n2) h5;exact⟨M,h7,h6.imp (λ_ h=>h) h8⟩
     ·refine wp_mono (pU hm hpl hc.2 h2 ⟨⟨⟨I,ρ,st,hv2.2 e,hg⟩,DL⟩,hpa⟩) λe a w hq=>CQO.mono (fun Γ a w h5 h6=>?_) (λe he=>bU _ he) (λ_ _ h=>h) (λ_ h=>h) e a w hq;obtain⟨M,h7,h8⟩:=Wv (a:=n1) h5;exact⟨M,h7,h6.imp (λ_ h=>h) h8⟩
    ·exact hv2.elim
   ·cases ho
 | .block id x,c,Q,Γ,r,a,w,hc,ho,h=>by
   unfold oK at hc;split at hc<;>first|contradiction|skip
   rename_i heq;cases heq;simp only[af,beq_iff_eq]at hc;obtain⟨rfl,hc⟩:=hc;simp only[oC,Y2]at ho;split at ho
   ·rename_i n1 x1 h1;cases ho;refine wp_block (wp_mono (pU hm hpl hc h1 h) λe a w hq=>?_);cases e with
    | normal=>obtain⟨vO,h2,h3⟩:=hq;obtain⟨M,h7,h8⟩:=Wu (b:=KE _ x1) h2;exact⟨M,h7,h3.imp (λ_ h=>h) h8⟩
    | exit id'=>
      obtain⟨vO,h2,h3⟩:=hq;simp only[rY];split
      ·rename_i e;subst e;obtain⟨M0,h4,h5⟩:=RU h2;obtain⟨M,h7,h8⟩:=Wv (a:=n1) h4;exact⟨M,h7,h3.imp (λst (hs:o6.inBlock id' Q (.exit id') st)=>by simp only[o6.inBlock,if_true]at hs;exact hs) λf hf=>h5 f (h8 f hf)⟩
      ·rename_i e;exact⟨vO,h2,h3.imp (λst hs=>by simp only[o6.inBlock,if_neg e]at hs;exact hs) λf hf=>hf⟩
    |ret=>exact hq
    |goto l=>exact hq
    |panic c=>exact hq
    |outgrown=>exact hq
   ·cases ho
 | .loop x,c,Q,Γ,r,a,w,hc,ho,h=>by
   unfold oK at hc;split at hc<;>first|contradiction|skip
   rename_i heq;cases heq;rename_i cc;simp only[oC]at ho;have inv:∀(k:Nat) (Γ : List OF),Wq (oC P pl rk cc x) k Γ = some r->∃vO,(∀f,f∈vO->f ∈ Γ)/\∃n1 x1,oC P pl rk cc x vO=some (n1,x1)/\r=(none,x1)/\∀DD,n1=some DD->∀f,f∈vO->f∈DD:=by
    intro k
    induction k with
    |zero=>intro Γ h;cases h
    | succ k ih=>
      intro Γ h;simp only[Wq]at h;split at h
      ·rename_i x1 h1;cases h;exact⟨Γ,λ_ h=>h,_,_,h1,rfl,λDD e=>by cases e⟩
      ·rename_i DD x1 h1;split at h
       ·rename_i hall;cases h;exact⟨Γ,λ_ h=>h,_,_,h1,rfl,λUf e f hf=>by cases e;exact gm.1 (aH.1 hall f hf)⟩
       ·obtain⟨vO,h2,h3⟩:=ih _ h;exact⟨vO,λf hf=>(aJ.1 (h2 f hf)).1,h3⟩
      ·cases h
   obtain⟨vO,hsub,n1,x1,h1,rfl,hback⟩:=inv _ _ ho;obtain⟨⟨⟨I,ρ,st,⟨X,J,S,μ,⟨x0,hj0,hw0⟩,hr⟩,hg⟩,DL⟩,hpa⟩:=h;refine BH (λk a w=>∃x,J x/\μ x=k/\AO E g0 pa dp n (λst=>st=S x) vO a w) ?_ ?_
   ·obtain⟨I',ρ',hg'⟩:=Gz hg hm hw0;exact⟨_,x0,hj0,rfl,⟨⟨I',ρ',_,rfl,hg'⟩,DL.weak hsub⟩,hpa⟩
   ·rintro k a w ⟨x,hj,rfl,⟨⟨I,ρ,st,rfl,hg⟩,DL⟩,hpa⟩;refine wp_mono (pU hm hpl hc h1 ⟨⟨⟨I,ρ,_,hr x hj,hg⟩,DL⟩,hpa⟩) λe a w hq=>?_;cases e with
    | normal=>obtain⟨DD,h2,⟨hk,af2⟩,af6⟩:=hq;obtain⟨x',⟨hj',hlt⟩,hk'⟩:=AK.weak (J:=λx'=>J x'/\μ x'<μ x) hm (λst h=>h) hk;exact⟨_,hlt,x',hj',rfl,⟨hk',af2.weak (hback DD h2)⟩,af6⟩
    |exit id=>exact hq
    |ret=>exact hq
    |goto l=>exact hq
    |panic c=>exact hq
    |outgrown=>exact hq
 | .exit id,c,Q,Γ,r,a,w,hc,ho,h=>by
   unfold oK at hc;split at hc<;>first|contradiction|skip
   rename_i heq;cases heq;simp only[beq_iff_eq]at hc;subst hc;simp only[oC]at ho;cases ho;exact wp_exit ⟨Γ,aK ..,h⟩
 | .ret,c,Q,Γ,r,a,w,hc,ho,h=>by
   unfold oK at hc;split at hc<;>first|contradiction|skip
   simp only[oC]at ho;split at ho
   ·rename_i hk;exact wp_ret ⟨Γ,hk,h⟩
   ·cases ho
end
end
section
inductive qR where
 |tmp (t:Nat)
 |cell (t:Nat) (agg:Bool) (k:Nat)
 deriving Inhabited
def qR.ok (st:dP):qR->Prop
 |.tmp t=>(st.tm t).g=true
 |.cell t agg k=>(st.tm t).g=true/\(uF agg k (st.tm t).x st.bx).vc
def qR.val (st:dP):qR->AV
 |.tmp t=>(st.tm t).x
 |.cell t agg k=>(uF agg k (st.tm t).x st.bx).v
def AY (st:dP):List qR->Prop
 |[]=>True
 |r::rs=>r.ok st/\(r.val st).flat/\AY st rs
def partOf : AV->Bool×List AC
 |.one x=>(false,[x])
 |.agg xs=>(true,xs)
 |.wF _=>(false,[])
def uJ (st:dP):List qR->List (Bool×List AC)
 |[]=>[]
 |r::rs=>partOf (r.val st)::uJ st rs
def Oe (st:dP):List qR->AV
 |[r]=>r.val st
 |rs=>.wF (uJ st rs)
def Dq (rs:List qR)(m:Nat)(post:AV->List Box->Prop)(st:dP):Prop:=
 AY st rs/\∃r bs zs π vs,post r bs/\WkS m st.bx (xN bs) zs π vs/\WX zs st.bx π vs (Oe st rs) r
def xO (P:Program)(n:Nat):List ResultVar->List qR->Bool
 |[],[]=>true
 |.tmp t::xs,.tmp s::ys=>t==s&&decide (t<n)&&xO P n xs ys
 |.cell a t::xs,.cell s agg k::ys=>a==s&&decide (a<n)&&DK P t agg k&&xO P n xs ys
 |_,_=>false
section
variable {P:Program} {E:Env P} {I:IH} {ρ:Ren} {n:Nat} {st:dP} {a:Act} {w:World}
theorem XX {agg:Bool}{k:Nat}{p:AV}{pv:Value}{bx:Nat->Box}(hp:GV I ρ pv p)(fH:(uF agg k p bx).vc):∃q,pv = .pointer (some q):=by
 cases p with
 | one p=>
   cases p with
   |ptr b off=>obtain⟨k,cap,_,rfl⟩:=hp;exact⟨_,rfl⟩
   |uI b i sz off=>obtain⟨k,cap,_,rfl⟩:=hp;exact⟨_,rfl⟩
   |zC cs=>obtain⟨q,rfl,_⟩:=hp;exact⟨_,rfl⟩
   |_=>exact fH.elim
 |_=>exact fH.elim
def Kt (tmps:Array Value)(x:ResultVar):Sem Value:=match x with
 |ResultVar.tmp t=>pure (tmps.getD t undef)
 |ResultVar.cell b t=>do loadVar t (<- asAddr (tmps.getD b undef))
theorem Dc (fn:Func)(tmps:Array Value):results fn tmps=(do
 let vs <- fn.results.mapM (Kt tmps)
 pure (if h:vs.size=1 then vs[0]else .tuple vs)):=by
 unfold results
 congr 1
theorem TG (h:GX E I ρ n st a w):∀{xs:List ResultVar} {rs:List qR},xO P n xs rs=true->AY st rs ->
 ∃vs:List Value,(xs.mapM (Kt a.tmps)).run P w = .ok vs w/\vs.length=rs.length/\∀(j:Nat) (v:Value) (r:qR),vs[j]? = some v->rs[j]? = some r->GV I ρ v (r.val st)
 |[],[],_,_=>⟨[],by simp,rfl,λj v r hv=>by simp at hv⟩
 | x::xs,r::rs,hc,hok=>by
   obtain⟨h1,h2,h3⟩:=hok;have key:∃v,(Kt a.tmps x).run P w = .ok v w/\GV I ρ v (r.val st)/\xO P n xs rs=true:=by
    cases x with
    | tmp t=>
      cases r with
      | tmp s=>
        simp only[xO,af,beq_iff_eq,decide_eq_true_eq]at hc;obtain⟨⟨rfl,hlt⟩,hc⟩:=hc;have ht:=h.tm t hlt;simp only[qR.ok]at h1;refine⟨a.tmps.getD t undef,rfl,?_,hc⟩;simp only[qR.val];cases hs:st.tm t with
        |none=>rw[hs]at h1;cases h1
        |v g x=>rw[hs]at h1 ht;exact ht.1 h1
      |cell s agg k=>simp[xO]at hc
    | cell b t=>
      cases r with
      |tmp s=>simp[xO]at hc
      | cell s agg k=>
        simp only[xO,af,beq_iff_eq,decide_eq_true_eq]at hc;obtain⟨⟨⟨rfl,hlt⟩,hty⟩,hc⟩:=hc;have ht:=h.tm b hlt;obtain⟨hg,fH⟩:=h1;have hv:GV I ρ (a.tmps.getD b undef) (st.tm b).x:=by
         cases hs:st.tm b with
         |none=>rw[hs]at hg;cases hg
         |v g x=>rw[hs]at hg ht;exact ht.1 hg
        obtain⟨q,hq⟩:=XX hv fH;obtain⟨v,hrun,hgv⟩:=OL (P:=P) h hty hv fH;refine⟨v,?_,hgv,hc⟩;unfold Kt;simp only[hq]at hrun⊢;simpa[Go.Instr.loadAt,Go.Instr.sureAddr,asAddr]using hrun
   obtain⟨v,hv,hg,hc'⟩:=key;obtain⟨vs,hvs,hl,hgs⟩:=TG h hc' h3;refine⟨v::vs,?_,by simp[hl],λj u r' hu hr=>?_⟩
   ·rw[vX];simp[hv,hvs]
   ·cases j with
    |zero=>simp at hu hr;subst hu;subst hr;exact hg
    |succ j=>exact hgs j u r' (by simpa using hu) (by simpa using hr)
 |[],_::_,hc,_=>by simp[xO]at hc
 |x::_,[],hc,_=>by cases x<;>simp[xO]at hc
end
def NG (Γ : List OF):qR->Nat->Nat->Option Nat
 |.tmp t,o,T=>aaO Γ t o T
 | .cell t agg k,o,T=>match(Γ.filterMap (VM t)).head? with
   |some (b,o0)=>if o<(if agg then k else 1)then NH Γ b (o0+o) T else none
   |none=>none
def Cm (ps:List PK):List (Nat×List (Nat×Nat)):=(ps.zipIdx).filterMap λp=>match p.1 with
 |.var rs=>some (p.2,rs)
 |_=>none
def afh (Γ : List OF)(l:List (List (Nat×Nat)))(rs:List qR):Option (List (Nat×Nat)):=(IG (λp:List (Nat×Nat)×Nat=>match rs[p.2]? with
 |some x=>IG (λe:Nat×Nat=>(NG Γ x e.1 e.2).map λm=>(m,20000+p.2*20+e.1)) p.1
 |none=>none) l.zipIdx).map zX
def adQ (Γ : List OF)(l:List (List (Nat×Nat)))(rs:List qR):Option (List (Nat×Nat)):=match l,rs with
 |[r],[x]=>IG (λe:Nat×Nat=>(NG Γ x e.1 e.2).map λm=>(m,20000+e.1)) r
 |l,rs=>afh Γ l rs
def acR (Γ : List OF)(sg:Rk)(rs:List qR):Option (List (Nat×Nat)):=
 match adQ Γ sg.rs rs,(IG (λp:Nat×List (Nat×Nat)=>if Γ.contains (.vp p.1 p.1 0)then IG (λe:Nat×Nat=>(NH Γ p.1 e.1 e.2).map λm=>(m,30000+p.1*20+e.1)) p.2 else none) (Cm sg.ps)).map zX with
 |some a,some b=>if AL ((a++b).map (·.1))&&decide ((Cm sg.ps).length<=1)&&(sg.rs.length==rs.length)then some (a++b)else none
 |_,_=>none
def rkO (sg:Rk)(rs:List qR)(Γ : List OF):Bool:=(acR Γ sg rs).isSome
section
variable {P:Program} {g:Own} {dp:Nat} {Γ : List OF} {a:Act} {w w':World} {v:Value}
theorem SQ {f:ResultVar->Sem Value}(hf:∀x w r w',(f x).run P w = .ok r w'->w'=w):∀{xs:List ResultVar} {ws:List Value} {w w':World},(xs.mapM f).run P w = .ok ws w'->ws.length=xs.length/\w'=w/\∀(j:Nat) (x:ResultVar),xs[j]? = some x->∃y,ws[j]? = some y/\(f x).run P w = .ok y w
 | [],ws,w,w',h=>by rw[List.mapM_nil]at h;obtain⟨rfl,rfl⟩:=dU h;exact⟨rfl,rfl,λj x hx=>by simp at hx⟩
 | x::xs,ws,w,w',h=>by
   rw[vX]at h;obtain⟨y,w1,h1,h2⟩:=bK h;have:=hf _ _ _ _ h1;subst this;obtain⟨ys,w2,h3,h4⟩:=bK h2;obtain⟨rfl,rfl⟩:=dU h4;obtain⟨h5,rfl,h6⟩:=SQ hf h3;refine⟨by simp[h5],rfl,λj z hz=>?_⟩;cases j with
   |zero=>simp at hz;subst hz;exact⟨y,rfl,h1⟩
   |succ j=>simpa using h6 j z (by simpa using hz)
theorem Vw {tmps:Array Value}(x:ResultVar)(w:World)(r:Value)(w':World)(h:(Kt tmps x).run P w = .ok r w'):w'=w:=by
 unfold Kt at h;split at h
 ·exact(dU h).2
 ·obtain⟨p,w1,h1,h2⟩:=bK h;have:w1=w:=by
   unfold asAddr at h1;split at h1
   ·exact(dU h1).2
   ·exact(Ew h1).elim
   ·cases h1
  subst this;exact(Et h2).1
theorem res_own {n:Nat}(h:OW P FV g dp Γ a w){fn:Func}(hr:(results fn a.tmps).run P w = .ok v w'){rs:List qR}(hc:xO P n fn.results.toList rs=true) :
 w'=w/\∃ws:List Value,ws.length=rs.length/\((∃y,ws=[y]/\v=y)\/ws.length≠1/\v = .tuple ws.toArray) /\
  ∀(j:Nat) (x:qR) (o T m:Nat),rs[j]? = some x->NG Γ x o T=some m->∃y u:Value,ws[j]? = some y/\y.cells[o]? = some u/\GR g u T (.tag dp m):=by
 rw[Dc]at hr;obtain⟨vs,w1,h1,h2⟩:=bK hr;rw[pz,yU]at h1;cases hq:(fn.results.toList.mapM (Kt a.tmps)).run P w with
 |halt e w2=>rw[hq]at h1;cases h1
 | ok ws w2=>
   rw[hq]at h1;simp only[aN]at h1;cases h1;obtain⟨h3,rfl,h4⟩:=SQ Vw hq;have hlen:∀{xs:List ResultVar} {rs:List qR},xO P n xs rs=true->xs.length=rs.length:=by
    intro xs
    induction xs with
    |nil=>intro rs h;cases rs<;>simp[xO]at h⊢
    | cons x xs ih=>
      intro rs h;cases rs with
      |nil=>cases x<;>simp[xO]at h
      | cons r rs=>cases x<;>cases r<;>simp only[xO,af]at h<;>first|(simp[ih h.2];done)|cases h
   have hget:∀{xs:List ResultVar} {rs:List qR} {j:Nat} {r:qR},xO P n xs rs=true->rs[j]? = some r->∃x,xs[j]? = some x/\(match x,r with
    |.tmp t,.tmp s=>t=s
    |.cell b t,.cell s agg k=>b=s/\DK P t agg k=true
    |_,_=>False):=by
    intro xs
    induction xs with
    |nil=>intro rs j r h hr;cases rs<;>simp[xO]at h hr
    | cons x xs ih=>
      intro rs j r h hr;cases rs with
      |nil=>simp at hr
      | cons r0 rs=>
        cases j with
        | zero=>simp at hr;subst hr;refine⟨x,rfl,?_⟩;cases x<;>cases r0<;>simp only[xO,af,beq_iff_eq]at h<;>first|exact h.1.1|exact⟨h.1.1.1,h.1.2⟩|cases h
        | succ j=>
          have:xO P n xs rs=true:=by cases x<;>cases r0<;>simp only[xO,af]at h<;>first|exact h.2|cases h
          simpa using ih this (by simpa using hr)
   obtain⟨hv,rfl⟩:=dU h2;refine⟨rfl,ws,h3.trans (hlen hc),?_,λj x o T m hj hm=>?_⟩
   ·by_cases h1':ws.length=1
    ·match ws,h1' with
     |[y],_=>exact .inl ⟨y,rfl,by simpa using hv⟩
    ·exact .inr ⟨h1',by rw[hv,dif_neg (by simpa using h1')]⟩
   ·obtain⟨rv,hrv,I8⟩:=hget hc hj;obtain⟨y,hy,hrun⟩:=h4 j rv hrv;refine⟨y,?_⟩;cases x with
    | tmp t=>
      cases rv with
      |cell _ _=>exact I8.elim
      | tmp s=>simp only at I8;subst I8;simp only[NG]at hm;obtain⟨u,hu,hg⟩:=TQ h hm;unfold Kt at hrun;have hyv:=(dU hrun).1;subst hyv;exact⟨u,hy,hu,hg⟩
    | cell t agg k=>
      cases rv with
      |tmp _=>exact I8.elim
      | cell s ty=>
        simp only at I8;obtain⟨rfl,hty⟩:=I8;unfold NG at hm
        dsimp only at hm
        split at hm
        ·rename_i b o0 hvp;by_cases hlt:o<(if agg then k else 1)
         ·rw[if_pos hlt]at hm;have hmm:=jB hvp;rw[bH]at hmm;obtain⟨f0,hf0,hmm⟩:=hmm;unfold VM at hmm;split at hmm
          ·split at hmm
           ·rename_i e1;subst e1;cases hmm;obtain⟨kk,row,e2,e3,e4⟩:=h.fs _ hf0;obtain⟨YK,row',e5,e6,e7⟩:=Jv h hm;rw[e2]at e5;cases e5;obtain⟨cs,e,hw,hrow⟩:=h.good.var _ _ _ _ e6;obtain⟨u,hu,hg⟩:=hrow _ e7
            dsimp only at hu hg
            unfold Kt at hrun;obtain⟨p,w3,h5,h6⟩:=bK hrun;rw[e3]at h5;unfold asAddr at h5;obtain⟨rfl,rfl⟩:=dU h5;have hc':∀j',o0+j'=o0+o->w3.cell? ((⟨kk,o0,none⟩:Addr).add j')=some u:=λj' e8=>by rw[Addr.l7,e8];simp[dR,hw,hu]
            refine⟨u,hy,?_,hg⟩;unfold DK at hty;obtain⟨_,hld⟩:=Et h6;rcases hld with⟨de,i,h7,h8,h9,h10⟩|⟨de,h7,h8,h9⟩
            ·rw[h7,h9]at hty;simp only[af,beq_iff_eq]at hty;rw[h8]at hty;obtain⟨rfl,rfl⟩:=hty;exact h10 o u (by simpa using hlt) (hc' o rfl)
            ·have hagg:agg=false:=by
              split at hty
              ·rename_i d' i' hd' hi';rw[h7]at hd';cases hd';simp only[af,beq_iff_eq]at hty;rw[<- hty.1,h8]
              ·cases hty
             subst hagg;have ho:o=0:=(by simpa using hlt);subst ho;have:=h9 u (by have:=hc' 0 rfl;rwa[Addr.add_zero]at this);subst this;have hsl:∃b n c,y = .slice b n c:=(by rcases hg with e|⟨k,n,c,e,_⟩<;>exact⟨_,_,_,e⟩);rw[EF hsl];rfl
           ·cases hmm
          ·cases hmm
         ·rw[if_neg hlt]at hm;cases hm
        ·cases hm
theorem SS {α β:Type}{f:α->Option (List β)}{l:List α}{ys:List β}(h:(IG f l).map zX=some ys){x:α}(hx:x∈l):∃y,f x=some y/\∀e,e∈y->e∈ys:=by simp only[bI]at h;obtain⟨l',h1,rfl⟩:=h;obtain⟨y,h2,h3⟩:=yz h1 x hx;exact⟨y,h2,λe he=>List.mem_flatten.2 ⟨y,h3,he⟩⟩
theorem WO {n N:Nat}(h:OW P FV g dp Γ a w){fn:Func}(hr:(results fn a.tmps).run P w = .ok v w'){rs:List qR}(hc:xO P n fn.results.toList rs=true){sg:Rk}(hk:rkO sg rs Γ = true){vs:List Value}(hl:vs.length=sg.ps.length)
 (hpa:∀i r,(i,r)∈Cm sg.ps->a.tmps.getD i undef=vs.getD i undef):∃g',Rel dp N g g'/\OW P FV g' dp (MR sg vs.length) { tmps:=(vs++[v]).toArray,defers:=[] } w':=by
 obtain⟨rfl,ws,hw1,hw2,hres⟩:=res_own h hr hc;unfold rkO at hk;rw[nM]at hk;obtain⟨mv,hmv⟩:=hk;unfold acR at hmv;split at hmv
 ·rename_i A B hA hB;split at hmv
  ·rename_i hcond;cases hmv;simp only[af,decide_eq_true_eq,beq_iff_eq]at hcond;obtain⟨⟨hnd,hone⟩,hlen⟩:=hcond;have hn:=AP hnd
   let mvL:List (Nat×ru):=(A++B).map λe=>(e.1,.tag dp e.2)
   have hkeys:mvL.map (·.1)=(A++B).map (·.1):=(by simp[mvL,Function.comp_def]);have hmov:∀{u:Value} {T m t:Nat},GR g u T (.tag dp m)->(m,t)∈A++B->GR (g.mv dp mvL) u T (.tag dp t):=λhg hm=>hg.mv (Ad (by rw[hkeys];exact hn) (aF.2 ⟨_,hm,rfl⟩));have hv:((vs++[v]).toArray).getD vs.length undef=v:=by rw[bQ,jS];simp
   have hrf:∀{g2:Own},(∀{u:Value} {T:Nat} {p:ru},GR (g.mv dp mvL) u T p->GR g2 u T p)->∀f,f∈Tt sg vs.length->yw P FV g2 dp { tmps:=(vs++[v]).toArray,defers:=[] } w' f:=by
    intro g2 hg2 f hf;by_cases hsg:∃r,sg.rs=[r]
    ·obtain⟨r,hsr⟩:=hsg;obtain⟨x,rfl⟩:∃x,rs=[x]:=by
      rw[hsr]at hlen
      match rs,hlen with
      |[x],_=>exact⟨x,rfl⟩
     rw[Tt,hsr]at hf;rw[hsr]at hA;simp only[adQ]at hA;simp only at hf;rw[aF]at hf;obtain⟨e,he,rfl⟩:=hf;obtain⟨y,hy,hyl⟩:=yz hA e he;simp only[bI]at hy;obtain⟨m,hm,rfl⟩:=hy;obtain⟨z,u,h1,h2,h3⟩:=hres 0 x e.1 e.2 m rfl hm;refine⟨u,?_,hg2 (hmov h3 (bG _ hyl))⟩;rw[hv];rcases hw2 with⟨y',e1,e2⟩|⟨e1,_⟩
     ·subst e1;simp at h1;subst h1;rw[e2];exact h2
     ·rw[hw1]at e1;simp at e1
    ·have hA:afh Γ sg.rs rs=some A:=by
      unfold adQ at hA;split at hA
      ·rename_i r x hr;exact absurd ⟨r,hr⟩ hsg
      ·exact hA
     unfold Tt at hf;split at hf
     ·rename_i r hr;exact absurd ⟨r,hr⟩ hsg
     ·rw[iw]at hf;obtain⟨q,hq,hf⟩:=hf;rw[aF]at hf;obtain⟨e,he,rfl⟩:=hf;obtain⟨y,hy,hyl⟩:=SS hA hq;split at hy
      ·rename_i x hx;obtain⟨z,hz,hzl⟩:=yz hy e he;simp only[bI]at hz;obtain⟨m,hm,rfl⟩:=hz;obtain⟨z',u,h1,h2,h3⟩:=hres q.2 x e.1 e.2 m hx hm;have hws:ws.length≠1:=by
        rw[hw1,<- hlen];intro h5
        match hsr:sg.rs,h5 with
        |[r],_=>exact hsg ⟨r,hsr⟩
       rcases hw2 with⟨y',e1,e2⟩|⟨_,e2⟩
       ·rw[e1]at hws;simp at hws
       ·refine⟨ws.toArray,z',u,by rw[hv,e2],by simpa using h1,h2,hg2 (hmov h3 (bG _ (hyl _ hzl)))⟩
      ·cases hy
   have hg1:=h.good.mv dp mvL;have hget:∀i,i<vs.length->((vs++[v]).toArray).getD i undef=vs.getD i undef:=λi hi=>(by rw[bQ,jS,aU hi,aQ]);have hidx:∀i r,(i,r)∈Cm sg.ps<->sg.ps[i]? = some (.var r):=λi r=>by
    unfold Cm;rw[bH];constructor
    ·rintro⟨⟨p,j⟩,h1,h2⟩;have h1:=jf.1 h1;simp only at h1 h2;cases p<;>simp at h2;obtain⟨rfl,rfl⟩:=h2;simpa using h1
    ·intro h1;exact⟨(.var r,i),jf.2 (by simpa using h1),rfl⟩
   have hvar:∀f,f∈Vq sg->∃i r,(i,r)∈Cm sg.ps/\(f = .vp i i 0\/∃e,e∈r/\f = .row i ⟨e.1,e.2,30000+i*20+e.1⟩):=by
    intro f hf;rw[Vq,iw]at hf;obtain⟨⟨p,i⟩,h1,h2⟩:=hf;have h1:=jf.1 h1;simp only at h1 h2;cases p with
    | var r=>
      simp only[aB,aF]at h2;refine⟨i,r,(hidx i r).2 (by simpa using h1),?_⟩;rcases h2 with rfl|⟨e,he,rfl⟩
      ·exact .inl rfl
      ·exact .inr ⟨e,he,rfl⟩
    |_=>simp at h2
   match hvi:Cm sg.ps,hone with
   | [],_=>
     refine⟨g.mv dp mvL,Rel.mv _ _,hg1,λf hf=>?_⟩;rw[MR,aV]at hf;rcases hf with hf|hf
     ·exact hrf (λh=>h) f hf
     ·obtain⟨i,r,h1,_⟩:=hvar f hf;rw[hvi]at h1;cases h1
   | [(i,r)],_=>
     obtain⟨y,hy,hyl⟩:=SS hB (show(i,r)∈Cm sg.ps by rw[hvi];exact aK ..);split at hy
     ·rename_i hcon;obtain⟨k,row,e1,_,e3⟩:=h.fs _ (gm.1 hcon)
      dsimp only at e1 e3
      obtain⟨agu,hk1⟩:=Vj (mv:=mvL) (dp:=dp) e3;have hpi:=(hidx i r).1 (by rw[hvi];exact aK ..);have hil:i<vs.length:=(by rw[hl];exact(ax.1 hpi).1);have hti:((vs++[v]).toArray).getD i undef = .pointer (some ⟨k,0,none⟩):=by rw[hget i hil,<- hpa i r (by rw[hvi];exact aK ..)];exact e1
      have hgood:Good P ((g.mv dp mvL).upd k (.var (r.map λe=>⟨e.1,e.2,30000+i*20+e.1⟩) dp i)) w':=by refine hg1.FT hk1 λcs e hw rr hrr=>?_;rw[aF]at hrr;obtain⟨q,hq,rfl⟩:=hrr;obtain⟨z,hz,hzl⟩:=yz hy q hq;simp only[bI]at hz;obtain⟨m,hm,rfl⟩:=hz;obtain⟨k',row',e4,e5,e6⟩:=Jv h hm;rw[e1]at e4;cases e4;obtain⟨cs',e',hw',hrow⟩:=h.good.var _ _ _ _ e5;rw[hw]at hw';cases hw';obtain⟨u,hu,hg⟩:=hrow _ e6;exact⟨u,hu,hmov hg (bU _ (hyl _ hzl))⟩
      refine⟨_,(Rel.mv N mvL).trans (Rel.FT hk1 (aA _)),hgood,λf hf=>?_⟩;rw[MR,aV]at hf;rcases hf with hf|hf
      ·exact hrf (λh=>h.Jz hk1) f hf
      ·obtain⟨i',r',h1,h2⟩:=hvar f hf;rw[hvi]at h1;simp only[aB,gU,or_false,bV]at h1;obtain⟨rfl,rfl⟩:=h1;rcases h2 with rfl|⟨e,he,rfl⟩
       ·exact⟨k,_,hti,hti,if_pos rfl⟩
       ·exact⟨k,_,hti,if_pos rfl,aF.2 ⟨e,he,rfl⟩⟩
     ·cases hy
   |_::_::_,hone=>simp at hone
  ·cases hmv
 ·cases hmv
end
section
variable {P:Program} {E:Env P} {I:IH} {ρ:Ren} {n:Nat} {st:dP} {a:Act} {w:World}
def Gy : List AV->Nat->List (Nat×Slot)
 |[],_=>[]
 |x::xs,i=>(i,.v true x)::Gy xs (i+1)
def yB : List Box->Nat->List (Nat×Box)
 |[],_=>[]
 |x::xs,i=>(i,x)::yB xs (i+1)
theorem JO : ∀{xs:List AV} {i t:Nat},uV (Gy xs i) t=if i<=t then(match xs[t-i]? with|some x=>.v true x|none=>.none)else .none
 |[],i,t=>by simp[Gy,uV]
 | x::xs,i,t=>by
   simp only[Gy,uV];by_cases h:i=t
   ·subst h;simp
   ·rw[if_neg h,JO (xs:=xs)];by_cases h':i<=t
    ·have e:t-i=(t-(i+1))+1:=(by omega);rw[if_pos h',if_pos (by omega),e];simp
    ·rw[if_neg h',if_neg (by omega)]
theorem Eu : ∀{xs:List Box} {i t:Nat},lY (yB xs i) t=if i<=t then xs.getD (t-i) .absent else .absent
 |[],i,t=>by simp[yB,lY]
 | x::xs,i,t=>by
   simp only[yB,lY];by_cases h:i=t
   ·subst h;simp
   ·rw[if_neg h,Eu (xs:=xs)];by_cases h':i<=t
    ·have e:t-i=(t-(i+1))+1:=(by omega);rw[if_pos h',if_pos (by omega),e];simp
    ·rw[if_neg h',if_neg (by omega)]
def st0 (args:List AV)(fp:List Box):dP:=dP.of (Gy args 0) (yB fp 0)
theorem aaL (args:List AV)(fp:List Box):(st0 args fp).bx=xN fp:=by
 funext b
 unfold st0;rw[yf,Eu];simp[xN]
def QF (rs:List qR)(m:Nat)(post:AV->List Box->Prop):AQ
 |.normal,st=>Dq rs m post st
 |.ret,st=>Dq rs m post st
 |.exit _,_=>False
def adK (P:Program)(c:Code)(ac:dD)(rs:List qR)(sg:Rk):Bool:=match oC P ((Cm sg.ps).map (·.1)) (rkO sg rs) c ac (Kr sg.ps)with
 |some (some Γ,_)=>rkO sg rs Γ
 |some (none,_)=>true
 |none=>false
def ZX (P:Program)(f:FuncId)(c:Code)(ac:dD)(rs:List qR)(k m:Nat):Bool:=match kindOf f with
 |.none=>true
 |.rd=>m==0
 |.ow sg=>adK P c ac rs sg&&k==sg.ps.length
def lK (P:Program)(f:FuncId)(k m:Nat)(ac:dD)(rs:List qR):Bool:=
 match P.funcs[f]? with
 | some fn=>match fn.body with
   |some c=>decide (k<=fn.ntmps)&&decide (m<=10)&&oK P fn.ntmps m c ac&&xO P fn.ntmps fn.results.toList rs&&ZX P f c ac rs k m
   |none=>false
 |none=>false
def FK (P:Program)(f:FuncId)(k m:Nat)(ac:dD)(rs:List qR):Bool:=
 match P.funcs[f]? with
 | some fn=>match fn.body with
   |some c=>decide (k<=fn.ntmps)&&decide (m<=10)&&oK P fn.ntmps m c ac&&xO P fn.ntmps fn.results.toList rs
   |none=>false
 |none=>false
theorem EW {fn:Func}{args:List AV}{fp:List Box}{I:IH}{ρ:Ren}{w:World}{vs:List Value}(hk:args.length<=fn.ntmps)(hT:Tabs P I)(hA:Agree I w)(hB:BX I ρ w (xN fp))(hV:NU I ρ vs args) :
 GX (⟨w,I,λk=>∃b,(xN fp b).uses (ρ b) k,ρ,fp.length,hT⟩:Env P) I ρ fn.ntmps (st0 args fp) { tmps:=vs.toArray++lq (fn.ntmps-vs.toArray.size) undef,defers:=[] } w:=by
 have hlen:vs.length=args.length:=hV.1;refine{ agree:=hA,bx:=by rw[aaL];exact hB,tm:=λt ht=>?_,size:=by simp;omega,defers:=rfl,wu:=xK.refl _ _,own:=λb k hu=>?_,Ei:=IH.le_refl _,Az:=λk _ _=>rfl,rQ:=λb _=>rfl }
 ·unfold st0;rw[Cb,JO];simp only[Nat.zero_le,if_true,jW];cases hx:args[t]? with
  |none=>trivial
  | some x=>
    have hlt:=(ax.1 hx).1;have hvt:vs[t]? = some vs[t]:=aj (by omega);refine⟨λ_=>?_,λe=>by cases e⟩;have hg:=hV.2 t _ x hvt hx;have e:((vs.toArray++lq (fn.ntmps-vs.toArray.size) undef).getD t undef)=vs[t]:=by rw[bQ,mW (by simp;omega)];simp[hvt]
    rw[e];exact hg
 ·right
  rw[aaL]at hu;exact⟨b,hu⟩
theorem KF {fn:Func}{rs:List qR}{fp:List Box}{post:AV->List Box->Prop}{I:IH}{ρ:Ren}{w:World}{hT:Tabs P I}(hcr:xO P fn.ntmps fn.results.toList rs=true) :
 ∀ {a:Act} {w':World},AK (⟨w,I,λk=>∃b,(xN fp b).uses (ρ b) k,ρ,fp.length,hT⟩:Env P) fn.ntmps (Dq rs fp.length post) a w'->a.defers=[]/\∃v,(results fn a.tmps).run P w' = .ok v w'/\∃(v':Value) (J:IH) (σ:Ren) (r:AV) (bs:List Box),Ending.returned v = .returned v'/\post r bs/\GV J σ v' r/\Agree J w'/\BX J σ w' (xN bs) /\
   I.le J/\xK w w' (λk=>∃b,(xN fp b).uses (ρ b) k) /\
   (∀b k,(xN bs b).uses (σ b) k->w.heap.size<=k\/∃b',(xN fp b').uses (ρ b') k) /\
   (∀k,k<w.heap.size->(¬ ∃b,(xN fp b).uses (ρ b) k)->J k=I k) /\
   (∀b,b<fp.length->σ b=ρ b):=by
 rintro a w' ⟨I',ρ',st,⟨hok,r,bs,zs,π,us,hp,hws,hwv⟩,hg⟩;obtain⟨ws,hrun,hl,hgs⟩:=TG hg hcr hok;have hv:∃v,(results fn a.tmps).run P w' = .ok v w'/\GV I' ρ' v (Oe st rs):=by
  have hrun':(fn.results.mapM (Kt a.tmps)).run P w' = .ok ws.toArray w':=by rw[pz];simp[hrun]
  rw[Dc];by_cases h1:∃r0,rs=[r0]
  ·obtain⟨r0,rfl⟩:=h1
   match ws,hl,hgs,hrun' with
   |[v0],_,hgs,hrun'=>exact⟨v0,by simp[hrun'],hgs 0 v0 r0 rfl rfl⟩
  ·have hne:ws.length≠1:=by
    intro h;rw[hl]at h
    match rs,h,h1 with
    |[r0],_,h1=>exact h1 ⟨r0,rfl⟩
   have hrv:Oe st rs = .wF (uJ st rs):=by
    match rs,h1 with
    |[],_=>rfl
    |[r0],h1=>exact absurd ⟨r0,rfl⟩ h1
    |_::_::_,_=>rfl
   refine⟨.tuple ws.toArray,by simp[hrun',hne],?_⟩;rw[hrv];have hparts:∀{rs:List qR},AY st rs->(uJ st rs).length=rs.length/\∀(j:Nat) (p:Bool×List AC),(uJ st rs)[j]? = some p->∃r,rs[j]? = some r/\p=partOf (r.val st)/\(r.val st).flat:=by
    intro rs
    induction rs with
    |nil=>intro _;exact⟨rfl,λj p hp=>by simp[uJ]at hp⟩
    | cons r0 rs ih=>
      rintro⟨_,h2,h3⟩;obtain⟨j1,j2⟩:=ih h3;refine⟨by simp[uJ,j1],λj p hp=>?_⟩;cases j with
      |zero=>simp[uJ]at hp;exact⟨r0,rfl,hp.symm,h2⟩
      |succ j=>obtain⟨r',hr',h'⟩:=j2 j p (by simpa[uJ]using hp);exact⟨r',by simpa using hr',h'⟩
   obtain⟨p1,p2⟩:=hparts hok;refine⟨ws.toArray,rfl,by simp[hl,p1],λj v p hv hp=>?_⟩;obtain⟨r',hr',rfl,hfl⟩:=p2 j p hp;have hgv:=hgs j v r' (by simpa using hv) hr';unfold GP;cases hval:r'.val st with
   |one x=>rw[hval]at hgv;simp only[partOf];exact⟨x,rfl,hgv⟩
   |agg xs=>rw[hval]at hgv;simp only[partOf,if_true];exact hgv
   |wF q=>rw[hval]at hfl;exact hfl.elim
 obtain⟨v,hrv,hgv⟩:=hv;have hS:=Pj hg (aA _) hws;refine⟨hg.defers,v,hrv,v,_,_,r,bs,rfl,hp,acT hg hws.vir hgv hwv,hS.agree,hS.bx,hS.Ei,hS.wu,hS.own,hS.Az,hS.rQ⟩
theorem Md {f:FuncId}{ac:dD}{rs:List qR}{args:List AV}{fp:List Box}{post:AV->List Box->Prop}(hc:FK P f args.length fp.length ac rs=true)
 (hwp:wpC P ac (QF rs fp.length post) (st0 args fp)):EM P f args fp post:=by
 unfold FK at hc;split at hc
 ·rename_i fn hf;split at hc
  ·rename_i c hb;simp only[af,decide_eq_true_eq]at hc;obtain⟨⟨⟨hk,hm⟩,hcc⟩,hcr⟩:=hc;intro I ρ w vs hT hA hB hV;have hG:=EW (fn:=fn) hk hT hA hB hV;refine calls_of_wp hf hb (wp_mono (rJ hm hcc ⟨I,ρ,_,hwp,hG⟩) λe a w' hq=>?_);cases e with
   |normal=>obtain⟨h1,v,h2,h3⟩:=KF hcr hq;exact⟨h1,v,h2,h3⟩
   |ret=>obtain⟨h1,v,h2,h3⟩:=KF hcr hq;exact⟨h1,v,h2,h3⟩
   |exit id=>obtain⟨_,_,_,h,_⟩:=hq;exact h.elim
   |goto l=>exact hq.elim
   |panic ch=>exact hq.elim
   |outgrown=>exact hq.elim
  ·cases hc
 ·cases hc
theorem vI {f:FuncId}{ac:dD}{rs:List qR}{args:List AV}{fp:List Box}{post:AV->List Box->Prop}(hc:lK P f args.length fp.length ac rs=true)
 (hwp:wpC P ac (QF rs fp.length post) (st0 args fp)):nN P f args fp post:=by
 unfold lK at hc;split at hc
 ·rename_i fn hf;split at hc
  ·rename_i c hb;simp only[af,decide_eq_true_eq]at hc;obtain⟨⟨⟨⟨hk,hm⟩,hcc⟩,hcr⟩,hkn⟩:=hc;intro I ρ w vs hT hA hB hV X hX
   let E:Env P:=⟨w,I,λk=>∃b,(xN fp b).uses (ρ b) k,ρ,fp.length,hT⟩
   have hlen:vs.length=args.length:=hV.1;have hG:=EW (fn:=fn) hk hT hA hB hV;have key:=@KF P fn rs fp post I ρ w hT hcr;cases hX with
   | VK=>
     refine calls_of_wp hf hb (wp_mono (rJ (E:=E) hm hcc ⟨I,ρ,_,hwp,hG⟩) λe a w' hq=>?_);cases e with
     |normal=>obtain⟨h1,v,h2,h3⟩:=key hq;exact⟨h1,v,h2,h3,trivial⟩
     |ret=>obtain⟨h1,v,h2,h3⟩:=key hq;exact⟨h1,v,h2,h3,trivial⟩
     |exit id=>obtain⟨_,_,_,h,_⟩:=hq;exact h.elim
     |goto l=>exact hq.elim
     |panic ch=>exact hq.elim
     |outgrown=>exact hq.elim
   | rd hkd=>
     have hfp:fp=[]:=by unfold ZX at hkn;rw[hkd]at hkn;exact nV.1 (by simpa using hkn)
     refine calls_of_wp hf hb (wp_mono (rJ (E:=E) hm hcc ⟨I,ρ,_,hwp,hG⟩) λe a w' hq=>?_);have fin:AK E fn.ntmps (Dq rs fp.length post) a w'->_:=λhq=>key hq;cases e with
     | normal=>obtain⟨h1,v,h2,h3⟩:=key hq;have h3':=h3;obtain⟨_,_,_,_,_,_,_,_,_,_,_,hF,_⟩:=h3';exact⟨h1,v,h2,h3,hF.os,hF.tape,hF.output,hF.size,λk hk _=>hF.block k hk (by subst hfp;rintro⟨b,hb⟩;exact C9 b k hb)⟩
     | ret=>obtain⟨h1,v,h2,h3⟩:=key hq;have h3':=h3;obtain⟨_,_,_,_,_,_,_,_,_,_,_,hF,_⟩:=h3';exact⟨h1,v,h2,h3,hF.os,hF.tape,hF.output,hF.size,λk hk _=>hF.block k hk (by subst hfp;rintro⟨b,hb⟩;exact C9 b k hb)⟩
     |exit id=>obtain⟨_,_,_,h,_⟩:=hq;exact h.elim
     |goto l=>exact hq.elim
     |panic ch=>exact hq.elim
     |outgrown=>exact hq.elim
   | ow sg hkd hl g dp hin=>
     have hok:adK P c ac rs sg=true:=by unfold ZX at hkn;rw[hkd]at hkn;simp only[af]at hkn;exact hkn.1
     unfold adK at hok;have hinit:OW P FV g dp (Kr sg.ps) { tmps:=vs.toArray++lq (fn.ntmps-vs.toArray.size) undef,defers:=[] } w:=
      ⟨hin.good,λf hf=>(hin.fs f hf).put λt _=>by
       simp only[bQ];by_cases ht:t<vs.toArray.size
       ·rw[mW ht]
       ·have hnone:vs.toArray[t]? = none:=Array.getElem?_eq_none (by omega);rw[Array.getElem?_append_right (by omega),hnone];cases hq:(lq (fn.ntmps-vs.toArray.size) undef)[t-vs.toArray.size]? with
        |none=>rfl
        | some u=>have:=bP.1 hq;obtain⟨h1,h2⟩:=this;rw[Array.getElem_replicate]at h2;rw[<- h2];rfl⟩
     let pa:List (Nat×Value):=(Cm sg.ps).map λe=>(e.1,vs.getD e.1 undef)
     have hpl:∀e,e∈pa->e.1∈(Cm sg.ps).map (·.1):=λe he=>by simp only[pa,aF]at he⊢;obtain⟨q,hq,rfl⟩:=he;exact⟨q,hq,rfl⟩
     have hPA:PA pa { tmps:=vs.toArray++lq (fn.ntmps-vs.toArray.size) undef,defers:=[] }:= λe he=>by
      simp only[pa,aF]at he;obtain⟨q,hq,rfl⟩:=he;have hqi:q.1<vs.length:=by rw[hl];unfold Cm at hq;rw[bH]at hq;obtain⟨⟨p,i⟩,h1,h2⟩:=hq;have h1:=jf.1 h1;simp only at h1 h2;cases p<;>simp at h2;subst h2;exact(ax.1 h1).1
      simp only[bQ,aQ];rw[mW (by simpa using hqi)];simp
     cases hoc:oC P ((Cm sg.ps).map (·.1)) (rkO sg rs) c ac (Kr sg.ps)with
     |none=>rw[hoc]at hok;cases hok
     | some r=>
       have agd:=pU (E:=E) (g0:=g) (dp:=dp) hm hpl hcc hoc ⟨⟨⟨I,ρ,_,hwp,hG⟩,g,Rel.refl _ _ _,hinit⟩,hPA⟩;refine calls_of_wp hf hb (wp_mono agd λe a w' hq=>?_);cases e with
       | normal=>
         obtain⟨Γ,h1,⟨hak,g1,hr1,how⟩,hpa⟩:=hq;have hrk:rkO sg rs Γ = true:=by rw[hoc]at hok;obtain⟨r1,r2⟩:=r;simp only at h1;subst h1;exact hok
         obtain⟨h1,v,h2,h3⟩:=key hak;obtain⟨g',hr2,adu⟩:=WO (N:=w.heap.size) how h2 hcr hrk hl (λi r hir=>hpa (i,vs.getD i undef) (aF.2 ⟨(i,r),hir,rfl⟩));exact⟨h1,v,h2,h3,v,g',rfl,hr1.trans hr2,adu⟩
       | ret=>obtain⟨Γ,hrk,⟨hak,g1,hr1,how⟩,hpa⟩:=hq;obtain⟨h1,v,h2,h3⟩:=key hak;obtain⟨g',hr2,adu⟩:=WO (N:=w.heap.size) how h2 hcr hrk hl (λi r hir=>hpa (i,vs.getD i undef) (aF.2 ⟨(i,r),hir,rfl⟩));exact⟨h1,v,h2,h3,v,g',rfl,hr1.trans hr2,adu⟩
       |exit id=>obtain⟨Γ,_,⟨⟨_,_,_,h,_⟩,_⟩,_⟩:=hq;exact h.elim
       |goto l=>exact hq.elim
       |panic ch=>exact hq.elim
       |outgrown=>exact hq.elim
  ·cases hc
 ·cases hc
end
end
section
section
variable {P:Program} {g:Own} {w w':World} {dp N:Nat} {dr:ru->Bool} {φ:ru->ru}
theorem Good.perm (h:Good P g w)(hb:∀k T p,g k=some (.arr T p)->dr p=false->∀j,dr (.blk k j)=false/\φ (.blk k j) = .blk k j)
 {M:Nat->Prop} (hF:∀k,k<w.heap.size->¬M k->w'.heap[k]? = w.heap[k]?) (hM:∀k,M k->(g.re dr φ) k=none)
 {kr T n:Nat} {p:ru} {cs:Array Value} {e:TypeId} (hkr:(g.re dr φ) kr=none) (hw:w'.heap[kr]? = some (.cells cs e (0,0)))
 (hc:∀j u T',j<n*qJ P T->cs[j]? = some u->(j%qJ P T,T')∈kP P T->GR (g.re dr φ) u T' (.blk kr j)):Good P ((g.re dr φ).YN kr (.arr T p) n) w':=by
 have h1:=h.re hb;have h2:Good P (g.re dr φ) w':=h1.world λk hk=>hF k (by
  cases hx:(g.re dr φ) k with
  |none=>exact absurd hx hk
  |some B=>exact h1.lt hx) (λhm=>hk (hM k hm))
 have hna:∀T' q,(g.re dr φ) kr≠some (.arr T' q):=λT' q e=>by rw[hkr]at e;cases e
 refine⟨λk T' q hk=>?_,λk row d b hk=>?_⟩
 ·rw[qw]at hk;split at hk
  ·rename_i e1;cases hk;subst e1;exact⟨cs,e,hw,λj u T' hb hu ht=>(hc j u T' (by rwa[xZ,if_pos rfl]at hb) hu ht).upd hna⟩
  ·rename_i hne;obtain⟨cs',e',hw',h3⟩:=h2.arr k T' q hk;exact⟨cs',e',hw',λj u T' hb hu ht=>(h3 j u T' (by rwa[xZ,if_neg hne]at hb) hu ht).upd hna⟩
 ·rw[qw]at hk;split at hk
  ·cases hk
  ·obtain⟨cs',e',hw',h3⟩:=h2.var k row d b hk;exact⟨cs',e',hw',λr hr=>let ⟨u,hu,hgr⟩:=h3 r hr;⟨u,hu,hgr.upd hna⟩⟩
theorem Rel.perm (h:Rel dp N g (g.re dr φ)){kr T n:Nat}{p:ru}(hkr:(g.re dr φ) kr=none)(ho:N<=kr\/∃q,g kr=some (.arr T q)):Rel dp N g ((g.re dr φ).YN kr (.arr T p) n):=by
 refine⟨λk T' d m hd hk=>?_,λk row d b hd hk=>?_,λk B' hlt hB=>?_⟩
 ·have h1:=h.tag k T' d m hd hk;have hne:k≠kr:=λe=>by subst e;rw[hkr]at h1;cases h1.1
  rw[qw,xZ,if_neg hne,if_neg hne];exact h1
 ·have h1:=h.var k row d b hd hk;have hne:k≠kr:=λe=>by subst e;rw[hkr]at h1;cases h1
  rw[qw,if_neg hne];exact h1
 ·rw[qw]at hB;split at hB
  ·rename_i e;subst e;cases hB;rcases ho with ho|⟨q,ho⟩
   ·omega
   ·exact⟨_,ho,λT' p' hb=>by rcases hb with e|e<;>cases e<;>exact⟨_,_,rfl,rfl⟩⟩
  ·exact h.old k B' hlt hB
end
def lits (l:List (List Value)):List (List Cell):=l.map λe=>e.map .lit
theorem xw (l:List (List Value)):(lits l).length=l.length:=by simp[lits]
theorem lits_get (l:List (List Value))(i j:Nat):((lits l).getD i [])[j]? = ((l.getD i [])[j]?).map .lit:=by simp only[lits,aQ,bn];cases l[i]? <;> simp
theorem Qa {I:IH}{ρ:Ren}{w:World}{b sz:Nat}{es:List (List Cell)}(h:qf I ρ w b (.dat sz es)):∃ls:List (List Value),ls.length=es.length/\(∀e,e∈ls->e.length=sz)/\qf I ρ w b (.dat sz (lits ls)) /\
 ∀(i j:Nat) (c:Cell),(es.getD i [])[j]? = some c->∃u,(ls.getD i [])[j]? = some u/\Rd I u c:=by
 obtain⟨k,cap,h1,h2,h3,h4,h5⟩:=h;by_cases hc:cap=0
 ·have:es=[]:=nV.1 (by omega);subst this;refine⟨[],rfl,(λe he=>by cases he),⟨k,cap,h1,by simp[lits],h3,(λe he=>by cases he),λh=>absurd hc h⟩,(λi j c hx=>by simp at hx)⟩
 ·obtain⟨cs,e,hw,hs,h1c,hcell⟩:=h5 hc
  let ls:List (List Value):=(lF es.length).map λi=>(lF sz).map λj=>(cs[i*sz+j]?).getD undef
  have hget:∀i j,(ls.getD i [])[j]? = if i<es.length/\j<sz then some ((cs[i*sz+j]?).getD undef)else none:=by
   intro i j;simp only[ls,aQ,bn];by_cases hi:i<es.length
   ·rw[pK hi];simp only[iH,jh,bn];by_cases hj:j<sz
    ·rw[pK hj];simp[hi,hj]
    ·rw[gp (l:=lF sz) (by simpa using hj)];simp[hj]
   ·rw[gp (l:=lF es.length) (by simpa using hi)];simp[hi]
  have hin:∀i j,i<es.length->j<sz->∃u,cs[i*sz+j]? = some u:=λi j hi hj=>by
   have:i*sz+j<cs.size:=by
    rw[hs]
    calc i*sz+j<i*sz+sz:=by omega
     _=(i+1)*sz:=by rw[bg,qG]
     _<=cap*sz:=aC _ (by omega)
   exact⟨_,iC this⟩
  refine⟨ls,by simp[ls],λe he=>?_,⟨k,cap,h1,by rw[xw];simpa[ls]using h2,h3,λe he=>?_,λ_=>⟨cs,e,hw,hs,h1c,λi j c hc=>?_⟩⟩,λi j c hc=>?_⟩
  ·simp only[ls,aF]at he;obtain⟨i,_,rfl⟩:=he;simp
  ·simp only[lits,ls,aF]at he;obtain⟨_,⟨i,_,rfl⟩,rfl⟩:=he;simp
  ·rw[lits_get,hget]at hc;split at hc
   ·rename_i hij;obtain⟨u,hu⟩:=hin i j hij.1 hij.2;rw[hu]at hc;simp only[jh,iH,aG]at hc;subst hc;exact⟨u,hu,.lit u (h1c _ _ hu)⟩
   ·cases hc
  ·obtain⟨u,hu,hr⟩:=hcell i j c hc;have hi:i<es.length:=by
    rcases zY i es.length with h|h
    ·exact h
    ·rw[aQ,gp h]at hc;simp at hc
   have hj:j<sz:=by
    have h6:=(ax.1 hc).1;rw[aQ,aj hi]at h6;simp only[jh]at h6
    rwa[h4 _ (bz hi)]at h6
   exact⟨u,by rw[hget,if_pos ⟨hi,hj⟩,hu];rfl,hr⟩
theorem Qu {I:IH}{ρ:Ren}{w:World}{b sz:Nat}{es:List (List Cell)}{ls:List (List Value)}(h:qf I ρ w b (.dat sz (lits ls)))(hl:es.length=ls.length)(hs:∀e,e∈es->e.length=sz)
 (hr:∀(i j:Nat) (c:Cell),(es.getD i [])[j]? = some c->∃u,(ls.getD i [])[j]? = some u/\Rd I u c):qf I ρ w b (.dat sz es):=by
 obtain⟨k,cap,h1,h2,h3,h4,h5⟩:=h;rw[xw]at h2;refine⟨k,cap,h1,by omega,h3,hs,λhc=>?_⟩;obtain⟨cs,e,hw,hsz,h1c,hcell⟩:=h5 hc;refine⟨cs,e,hw,hsz,h1c,λi j c hij=>?_⟩;obtain⟨u,hu,hrd⟩:=hr i j c hij;obtain⟨u',hu',adr⟩:=hcell i j (.lit u) (by rw[lits_get,hu];rfl);cases adr;exact⟨_,hu',hrd⟩
theorem MI {I:IH}{ρ:Ren}{w:World}{b sz k cap:Nat}{ls:List (List Value)}(h:qf I ρ w b (.dat sz (lits ls)))(hk:ρ b=some (k,cap))(hc:cap≠0):∃cs e,w.heap[k]? = some (.cells cs e (0,0)) /\
 ∀i j u,(ls.getD i [])[j]? = some u->cs[i*sz+j]? = some u:=by
 obtain⟨k',cap',h1,h2,h3,h4,h5⟩:=h;rw[hk]at h1;cases h1;obtain⟨cs,e,hw,hsz,h1c,hcell⟩:=h5 hc;refine⟨cs,e,hw,λi j u hu=>?_⟩;obtain⟨u',hu',adr⟩:=hcell i j (.lit u) (by rw[lits_get,hu];rfl);cases adr;exact hu'
theorem Fa {I J:IH}(hle:I.le J){es:List (List Cell)}{ls:List (List Value)}(h:∀(i j:Nat) (c:Cell),(es.getD i [])[j]? = some c->∃u,(ls.getD i [])[j]? = some u/\Rd I u c)(i j:Nat)(c:Cell)(hc:(es.getD i [])[j]? = some c) :
 ∃u,(ls.getD i [])[j]? = some u/\Rd J u c:=let ⟨u,h1,h2⟩:=h i j c hc;⟨u,h1,h2.mono hle⟩
end
section
def ZO (P:Program)(f sz:Nat):Bool:=match kindOf f with
 |.none=>true
 |.rd=>false
 | .ow sg=>(match sg.rs with
   |[[(0,T)]]=>decide (sg=⟨[.own [(0,T)],.any,.own [(0,T)]],[[(0,T)]]⟩)&&qJ P T==sz
   |_=>false)
def Ze (P:Program)(f sz:Nat):Bool:=match kindOf f with
 |.none=>true
 |.rd=>false
 | .ow sg=>(match sg.rs with
   |[[(0,T)]]=>decide (sg=⟨[.own [(0,T)],.any,.any],[[(0,T)]]⟩)&&qJ P T==sz
   |_=>false)
theorem abP {P:Program}{f sz:Nat}(h:ZO P f sz=true){sg:Rk}(hk:kindOf f = .ow sg):∃T,sg=⟨[.own [(0,T)],.any,.own [(0,T)]],[[(0,T)]]⟩/\qJ P T=sz:=by
 unfold ZO at h;rw[hk]at h
 dsimp only at h
 split at h
 ·simp only[af,decide_eq_true_eq,beq_iff_eq]at h;exact⟨_,h.1,h.2⟩
 ·cases h
theorem abE {P:Program}{f sz:Nat}(h:Ze P f sz=true){sg:Rk}(hk:kindOf f = .ow sg):∃T,sg=⟨[.own [(0,T)],.any,.any],[[(0,T)]]⟩/\qJ P T=sz:=by
 unfold Ze at h;rw[hk]at h
 dsimp only at h
 split at h
 ·simp only[af,decide_eq_true_eq,beq_iff_eq]at h;exact⟨_,h.1,h.2⟩
 ·cases h
def FM (ks:Option Nat)(kv kr a sz:Nat):ru->ru
 |.blk b j=>if some b=ks then(if j<a then .blk kr j else .blk kr (j+sz))else if b=kv then .blk kr (a+j)else .blk b j
 |p=>p
def JK (ks:Option Nat)(kr a b d:Nat):ru->ru
 |.blk k j=>if some k=ks then(if j<a then .blk kr j else if b<=j then .blk kr (j-d)else .dead)else .blk k j
 |p=>p
theorem AA {q r sz:Nat}(h:r<sz):(q*sz+r)%sz=r:=by rw[pR,o5,oP h]
section
variable {P:Program}
theorem QH {g:Own}{dp m sz n c T cap k0 b0:Nat}{w:World}{a:Option Addr}{I:IH}{ρ:Ren}{ls:List (List Value)}(hg:Good P g w)(hT:qJ P T=sz)(hs:GR g (.slice a n c) T (.tag dp m))(hρ:ρ b0=some (k0,cap))(hn:n<=c)(hc:c<=cap)
 (ha:cap≠0->a=some ⟨k0,0,none⟩) (hl:ls.length=n) (hsz:∀e,e∈ls->e.length=sz) (hb:qf I ρ w b0 (.dat sz (lits ls))) :
 ∃ ks:Option Nat,(∀b,ks=some b->g b=some (.arr T (.tag dp m)))/\(cap≠0->ks=some k0) /\
   ∀q r u T',(ls.getD q [])[r]? = some u->(r,T')∈kP P T->∃b,ks=some b/\GR g u T' (.blk b (q*sz+r)):=by
 have inr:∀{q r u},(ls.getD q [])[r]? = some u->q<n/\r<sz:=by
  intro q r u hu;have hq:q<ls.length:=by
   rcases zY q ls.length with h|h
   ·exact h
   ·rw[aQ,gp h]at hu;simp at hu
  refine⟨by omega,?_⟩;have h6:=(ax.1 hu).1;rw[aQ,aj hq]at h6;simp only[jh]at h6
  rwa[hsz _ (bz hq)]at h6
 rcases hs with e|⟨k,n',c',e,hk,hbd⟩
 ·cases e;refine⟨none,(λb hb=>by cases hb),λh=>(by have:=ha h;cases this),λq r u T' hu _=>?_⟩;have:=(inr hu).1;omega
 ·cases e;refine⟨some k,(λb hb=>by cases hb;exact hk),λh=>(by have:=ha h;cases this;rfl),λq r u T' hu ht=>⟨k,rfl,?_⟩⟩;obtain⟨h1,h2⟩:=inr hu;have hc0:cap≠0:=by omega
  have e1:=ha hc0;cases e1;obtain⟨cs,e,hw,hcell⟩:=MI hb hρ hc0;obtain⟨cs',e',hw',hown⟩:=hg.arr _ _ _ hk;rw[hw]at hw';cases hw';refine hown _ u T' ?_ (hcell q r u hu) ?_
  ·rw[hT]
   calc q*sz+r<q*sz+sz:=by omega
    _=(q+1)*sz:=by rw[bg,qG]
    _<=_:=aC _ (by omega)
  ·rw[hT,AA h2];exact ht
theorem ae3 {g:Own}{dp m k T:Nat}{ks:Option Nat}(h:∀b,ks=some b->g b=some (.arr T (.tag dp m))){B:YI}(hk:g k=some B)(hB:B ≠ .arr T (.tag dp m)):some k≠ks:=λe=>by have:=h k e.symm;rw[hk]at this;cases this;exact hB rfl
theorem ab2 {f sz:Nat}(hk:ZO P f sz=true){es:List (List Cell)}{v:List Cell}{i:Nat}(hi:i<=es.length)
 (hz:∀(ls:List (List Value)) (lv:List Value) (c:Nat),ls.length=es.length->es.length<=c->EM P f [.one (.sub 0 0 ls.length (some c) sz),.one (.c (.lit (.int .i64 (i:Int)))),.one (.own 1 1 sz)] [.dat sz (lits ls),.dat sz [lv.map .lit]]
  (λr b=>r = .one (.own 2 (ls.length+1) sz)/\b=[.dead,.dat sz [lv.map .lit],.dat sz (lits (ls.take i++lv::ls.drop i))])) :
 nN P f [.one (.own 0 es.length sz),.one (.c (.lit (.int .i64 (i:Int)))),.one (.own 1 1 sz)] [.dat sz es,.dat sz [v]]
  (λr b=>r = .one (.own 2 (es.length+1) sz)/\b=[.dead,.dat sz [v],.dat sz (es.take i++v::es.drop i)]):=by
 intro I ρ w vs hT hA hB hV X hX;obtain⟨ls,l1,l2,l3,l4⟩:=Qa (show qf I ρ w 0 (.dat sz es)from hB.ok 0);obtain⟨lv',m1,m2,m3,m4⟩:=Qa (show qf I ρ w 1 (.dat sz [v])from hB.ok 1);obtain⟨lv,rfl⟩:=List.length_eq_one_iff.1 m1;have hv:v.length=sz:=by obtain⟨_,_,_,_,_,h,_⟩:=(show qf I ρ w 1 (.dat sz [v])from hB.ok 1);exact h v (aK ..)
 have xm:∀b x k,(xN [.dat sz (lits ls),.dat sz [lv.map .lit]] b).uses x k=(xN [.dat sz es,.dat sz [v]] b).uses x k:=λb x k=>match b with
  |0=>rfl
  |1=>rfl
  |b+2=>rfl
 have hB':BX I ρ w (xN [.dat sz (lits ls),.dat sz [lv.map .lit]]):=⟨λb=>match b with
  |0=>l3
  |1=>m3
  |b+2=>hB.ok (b+2),λb b' k h h'=>hB.inj b b' k (by rw[<- xm];exact h) (by rw[<- xm];exact h'),λb k h=>hB.fresh b k (by rw[<- xm];exact h)⟩
 obtain⟨hvl,hvg⟩:=hV;obtain⟨v0,v1,v2,rfl⟩:∃v0 v1 v2,vs=[v0,v1,v2]:=by
  match vs,hvl with
  |[v0,v1,v2],_=>exact⟨v0,v1,v2,rfl⟩
 have q0:=hvg 0 v0 _ rfl rfl;have q1:=hvg 1 v1 _ rfl rfl;have q2:=hvg 2 v2 _ rfl rfl;obtain⟨k0,cap,a,c,Qp,rfl,hn,hc,ha⟩:=q0;have hV':NU I ρ [.slice a es.length c,v1,v2] [.one (.sub 0 0 ls.length (some c) sz),.one (.c (.lit (.int .i64 (i:Int)))),.one (.own 1 1 sz)]:=by
  refine⟨rfl,λj v x hv hx=>?_⟩
  match j with
  | 0=>cases hv;cases hx;exact⟨k0,cap,a,c,Qp,by rw[l1],by omega,by omega,λc0 h=>by cases h;rfl,λh=>by rw[rV];exact ha (by rcases h with h|⟨_,h⟩<;>omega)⟩
  |1=>cases hv;cases hx;exact q1
  |2=>cases hv;cases hx;exact q2
  |j+3=>cases hv
 refine(hz ls lv c l1 hn I ρ w _ hT hA hB' hV').mono ?_;rintro e w' ⟨v',J,σ,r,bs,rfl,⟨rfl,rfl⟩,hgv,hag,hbx,hle,hfr,hown,hnew,hkeep⟩;have hM:(λk=>∃b,(xN [.dat sz (lits ls),.dat sz [lv.map .lit]] b).uses (ρ b) k)=λk=>∃b,(xN [.dat sz es,.dat sz [v]] b).uses (ρ b) k:=by funext k;simp only[xm]
 have Hr:∀b x k,(xN [.dead,.dat sz [lv.map .lit],.dat sz (lits (ls.take i++lv::ls.drop i))] b).uses x k=(xN [.dead,.dat sz [v],.dat sz (es.take i++v::es.drop i)] b).uses x k:=λb x k=>match b with
  |0=>rfl
  |1=>rfl
  |2=>rfl
  |b+3=>rfl
 have hes:∀e,e∈es->e.length=sz:=by obtain⟨_,_,_,_,_,h,_⟩:=(show qf I ρ w 0 (.dat sz es)from hB.ok 0);exact h
 have U5:∀{α:Type} (l:List (List α)) (x:List α) (q:Nat),l.length=es.length->(l.take i++x::l.drop i).getD q []=if q<i then l.getD q []else if q=i then x else l.getD (q-1) []:=by
  intro α l x q hl;have hti:(l.take i).length=i:=by rw[dW];omega
  simp only[aQ];by_cases h1:q<i
  ·rw[if_pos h1,aU (by omega),pW h1]
  ·rw[if_neg h1,bJ (by omega),hti];by_cases h2:q=i
   ·subst h2;simp
   ·rw[if_neg h2,show q-i=(q-i-1)+1 by omega,dH,dA,show i+(q-i-1)=q-1 by omega]
 have hdat:BX J σ w' (xN [.dead,.dat sz [v],.dat sz (es.take i++v::es.drop i)]):=⟨λb=>match b with
  |0=>hbx.ok 0
  |1=>Qu (show qf J σ w' 1 (.dat sz (lits [lv]))from hbx.ok 1) rfl (λe he=>by rw[List.mem_singleton.1 he];exact hv) (Fa hle m4)
  | 2 =>Qu (show qf J σ w' 2 (.dat sz (lits (ls.take i++lv::ls.drop i)))from hbx.ok 2) (by simp[l1])
      (λe he=>by
       rcases aV.1 he with he|he
       ·exact hes e (dG he)
       ·rcases aB.1 he with rfl|he
        ·exact hv
        ·exact hes e (iR he))
      (λq j c hc=>by
       rw[U5 _ _ _ rfl]at hc;rw[U5 _ _ _ l1];split
       ·rename_i h1;rw[if_pos h1]at hc;exact Fa hle l4 q j c hc
       ·rename_i h1;rw[if_neg h1]at hc;split
        ·rename_i h2;rw[if_pos h2]at hc;exact Fa hle m4 0 j c hc
        ·rename_i h2;rw[if_neg h2]at hc;exact Fa hle l4 (q-1) j c hc)
  |b+3=>hbx.ok (b+3),λb b' k h h'=>hbx.inj b b' k (by rw[Hr];exact h) (by rw[Hr];exact h'),λb k h=>hbx.fresh b k (by rw[Hr];exact h)⟩
 refine⟨⟨v',J,σ,_,_,rfl,⟨rfl,rfl⟩,by rw[<- l1];exact hgv,hag,hdat,hle,hM▸hfr,λb k h=>by simp only[<- xm];exact hown b k (by rw[Hr];exact h),λk hk hx=>hnew k hk (by simp only[xm];exact hx),hkeep⟩,?_⟩;cases hX with
 |VK=>trivial
 |rd hr=>unfold ZO at hk;rw[hr]at hk;cases hk
 | ow sg hr hl g dp hin=>
   obtain⟨T,rfl,hT⟩:=abP hk hr;obtain⟨s0,e0,hs⟩:=hin.fs (.ref 0 ⟨0,T,0⟩) (by simp[Kr,vw]);obtain⟨s2,e2,hs2⟩:=hin.fs (.ref 2 ⟨0,T,40⟩) (by simp[Kr,vw]);have:s0 = .slice a es.length c:=yj e0;subst this;obtain⟨kv,cap1,a1,c1,aeY,rfl,hn1,hc1,ha1⟩:=q2;have:s2 = .slice a1 1 c1:=yj e2;subst this;have ea1:=ha1 (by omega);subst ea1;obtain⟨ks,k1,k2,k3⟩:=QH hin.good hT hs Qp hn hc ha l1 l2 l3;obtain⟨kx,x1,x2,x3⟩:=QH hin.good hT hs2 aeY hn1 hc1 (λ_=>rfl) rfl m2 m3;have hcap1:cap1≠0:=(by omega);have ekx:=x2 hcap1;subst ekx;have adn:=x1 kv rfl;obtain⟨kr,cap',a',c',hσ,rfl,hn',hc',ha'⟩:=hgv;have hcap':cap'≠0:=(by omega);have ea':=ha' hcap';subst ea';have hkr:w.heap.size<=kr\/ks=some kr:=by
    rcases hown 2 kr ⟨cap',hσ,hcap'⟩with h|⟨b',h⟩
    ·exact .inl h
    ·right
     match b',h with
     | 0,h=>obtain⟨cp,h1,h2⟩:=h;rw[Qp]at h1;cases h1;exact k2 h2
     | 1,h=>obtain⟨cp,h1,h2⟩:=h;have h3:=hkeep 1 (by simp);have:=hbx.inj 1 2 kr ⟨cp,by rw[h3];exact h1,h2⟩ ⟨cap',hσ,hcap'⟩;omega
     |b'+2,h=>exact h.elim
   obtain⟨cs,e,hw,hcell⟩:=MI (show qf J σ w' 2 (.dat sz (lits (ls.take i++lv::ls.drop i)))from hbx.ok 2) hσ hcap';have gone:∀{b m},g b=some (.arr T (.tag dp m))->m=0\/m=40->(g.re (xk dp [0,40]) (FM ks kv kr (i*sz) sz)) b=none:=λh hm=>by rw[Na,h];simp only[xk];rcases hm with rfl|rfl<;>simp
   have ZE:(g.re (xk dp [0,40]) (FM ks kv kr (i*sz) sz)) kr=none:=by
    rcases hkr with h|h
    ·have:g kr=none:=by
      cases hx:g kr with
      |none=>rfl
      |some B=>have:=hin.good.lt hx;omega
     rw[Na,this]
    ·exact gone (k1 kr h) (.inl rfl)
   have hgood:=hin.good.perm (w':=w') (dr:=xk dp [0,40]) (φ:=FM ks kv kr (i*sz) sz) (kr:=kr) (T:=T) (n:=ls.length+1) (p:=.tag dp 20000) (cs:=cs) (e:=e)
    (λk T' p hkk hp j=>⟨rfl,by
     simp only[FM];rw[if_neg,if_neg]
     ·rintro rfl;rw[adn]at hkk;cases hkk;simp[xk]at hp
     ·intro h;rw[k1 k h.symm]at hkk;cases hkk;simp[xk]at hp⟩)
    (λk hk hx=>hfr.block k hk hx)
    (λk hx=>by
     obtain⟨b,hb⟩:=hx
     match b,hb with
     | 0,hb=>obtain⟨cp,h1,h2⟩:=hb;rw[Qp]at h1;cases h1;exact gone (k1 k0 (k2 h2)) (.inl rfl)
     | 1,hb=>obtain⟨cp,h1,h2⟩:=hb;rw[aeY]at h1;cases h1;exact gone adn (.inr rfl)
     |b+2,hb=>exact hb.elim)
    ZE hw
    (λj u T' hj hu ht=>by
     rw[hT]at hj ht;have hsz:0<sz:=by
      rcases Nat.eq_zero_or_pos sz with h|h
      ·rw[h]at hj;omega
      ·exact h
     have hr:=Nat.mod_lt j hsz;have hjq:j=j/sz*sz+j%sz:=(by rw[oh];exact(vz j sz).symm);have hq:j/sz<ls.length+1:=(vH hsz).2 hj;generalize j/sz=q at hjq hq;generalize hrr:j%sz=r at hjq hr ht;have look:∀{l:List Value},(ls.take i++lv::ls.drop i).getD q []=l->l.length=sz->l[r]? = some u:=λhl hlen=>by have h1:=aj (show r<_ by rw[hlen];exact hr);have h2:=hcell q r _ (by rw[hl];exact h1);rw[<- hjq,hu]at h2;cases h2;exact h1
     have hlen:∀q,q<ls.length->(ls.getD q []).length=sz:=λq hq=>by rw[aQ,aj hq];exact l2 _ (bz hq)
     have hx:=U5 ls lv q l1;by_cases h1:q<i
     ·rw[if_pos h1]at hx;obtain⟨b,hb,hgr⟩:=k3 q r u T' (look hx (hlen q (by omega))) ht;have:=hgr.re (dr:=xk dp [0,40]) rfl (FM ks kv kr (i*sz) sz);have hlt:q*sz+r<i*sz:=by
       calc q*sz+r<q*sz+sz:=by omega
        _=(q+1)*sz:=by rw[bg,qG]
        _<=i*sz:=aC _ h1
      rw[<- hjq]at this hlt;simp only[FM,hb,if_true,if_pos hlt]at this;rw[hb];exact this
     ·rw[if_neg h1]at hx;by_cases h2:q=i
      ·subst h2;rw[if_pos rfl]at hx;obtain⟨b,hb,hgr⟩:=x3 0 r u T' (look hx (m2 lv (aK ..))) ht;cases hb;have:=hgr.re (dr:=xk dp [0,40]) rfl (FM ks kv kr (q*sz) sz);simp only[FM]at this;rw[if_neg (ae3 k1 adn (λe=>by cases e)),if_true,rV,dh,<- hjq]at this;exact this
      ·rw[if_neg h2]at hx;obtain⟨b,hb,hgr⟩:=k3 (q-1) r u T' (look hx (hlen (q-1) (by omega))) ht;have:=hgr.re (dr:=xk dp [0,40]) rfl (FM ks kv kr (i*sz) sz);have hge:¬(q-1)*sz+r<i*sz:=by
        have:i*sz<=(q-1)*sz:=aC _ (by omega);omega
       have e1:(q-1)*sz+r+sz=j:=by rw[hjq];have:(q-1)*sz+sz=q*sz:=(by conv=>rhs;rw[show q=(q-1)+1 by omega,bg,qG]);omega
       simp only[FM,hb,if_true,if_neg hge,e1]at this;rw[hb];exact this)
   refine⟨_,_,rfl,Rel.perm (Rel.re λd m hd=>⟨by simp only[xk,jR,decide_eq_false_iff_not];left;omega,rfl⟩) ZE (hkr.imp id λh=>⟨_,k1 kr h⟩),hgood,λf hf=>?_⟩;have:f = .ref 3 ⟨0,T,20000⟩:=(by simpa[MR,Tt,Vq,vw]using hf);subst this;exact⟨_,rfl,.inr ⟨kr,_,_,rfl,if_pos rfl,by rw[xZ,if_pos rfl];exact aA _⟩⟩
theorem ab1 {f sz:Nat}(hk:Ze P f sz=true){es:List (List Cell)}{i j:Nat}(hi:i<j)(hj:j<=es.length)
 (hz:∀(ls:List (List Value)) (c:Nat),ls.length=es.length->es.length<=c->EM P f [.one (.sub 0 0 ls.length (some c) sz),.one (.c (.lit (.int .i64 (i:Int)))),.one (.c (.lit (.int .i64 (j:Int))))] [.dat sz (lits ls)]
  (λr b=>r = .one (.sub 1 0 (i+(ls.length-j)) (some c) sz)/\b=[.dead,.dat sz (lits (ls.take i++ls.drop j))])) :
 nN P f [.one (.own 0 es.length sz),.one (.c (.lit (.int .i64 (i:Int)))),.one (.c (.lit (.int .i64 (j:Int))))] [.dat sz es]
  (λr b=>r = .one (.own 1 (i+(es.length-j)) sz)/\b=[.dead,.dat sz (es.take i++es.drop j)]):=by
 intro I ρ w vs hT hA hB hV X hX;obtain⟨ls,l1,l2,l3,l4⟩:=Qa (show qf I ρ w 0 (.dat sz es)from hB.ok 0);have xm:∀b x k,(xN [.dat sz (lits ls)] b).uses x k=(xN [.dat sz es] b).uses x k:=λb x k=>match b with
  |0=>rfl
  |b+1=>rfl
 have hB':BX I ρ w (xN [.dat sz (lits ls)]):=⟨λb=>match b with
  |0=>l3
  |b+1=>hB.ok (b+1),λb b' k h h'=>hB.inj b b' k (by rw[<- xm];exact h) (by rw[<- xm];exact h'),λb k h=>hB.fresh b k (by rw[<- xm];exact h)⟩
 obtain⟨hvl,hvg⟩:=hV;obtain⟨v0,v1,v2,rfl⟩:∃v0 v1 v2,vs=[v0,v1,v2]:=by
  match vs,hvl with
  |[v0,v1,v2],_=>exact⟨v0,v1,v2,rfl⟩
 have q0:=hvg 0 v0 _ rfl rfl;have q1:=hvg 1 v1 _ rfl rfl;have q2:=hvg 2 v2 _ rfl rfl;obtain⟨k0,cap,a,c,Qp,rfl,hn,hc,ha⟩:=q0;have hV':NU I ρ [.slice a es.length c,v1,v2] [.one (.sub 0 0 ls.length (some c) sz),.one (.c (.lit (.int .i64 (i:Int)))),.one (.c (.lit (.int .i64 (j:Int))))]:=by
  refine⟨rfl,λj v x hv hx=>?_⟩
  match j with
  | 0=>cases hv;cases hx;exact⟨k0,cap,a,c,Qp,by rw[l1],by omega,by omega,λc0 h=>by cases h;rfl,λh=>by rw[rV];exact ha (by rcases h with h|⟨_,h⟩<;>omega)⟩
  |1=>cases hv;cases hx;exact q1
  |2=>cases hv;cases hx;exact q2
  |j+3=>cases hv
 refine(hz ls c l1 hn I ρ w _ hT hA hB' hV').mono ?_;rintro e w' ⟨v',J,σ,r,bs,rfl,⟨rfl,rfl⟩,hgv,hag,hbx,hle,hfr,hown,hnew,hkeep⟩;have hM:(λk=>∃b,(xN [.dat sz (lits ls)] b).uses (ρ b) k)=λk=>∃b,(xN [.dat sz es] b).uses (ρ b) k:=by funext k;simp only[xm]
 have Hr:∀b x k,(xN [.dead,.dat sz (lits (ls.take i++ls.drop j))] b).uses x k=(xN [.dead,.dat sz (es.take i++es.drop j)] b).uses x k:=λb x k=>match b with
  |0=>rfl
  |1=>rfl
  |b+2=>rfl
 have hes:∀e,e∈es->e.length=sz:=by obtain⟨_,_,_,_,_,h,_⟩:=(show qf I ρ w 0 (.dat sz es)from hB.ok 0);exact h
 have U5:∀{α:Type} (l:List (List α)) (q:Nat),l.length=es.length->(l.take i++l.drop j).getD q []=if q<i then l.getD q []else l.getD (q+(j-i)) []:=by
  intro α l q hl;have hti:(l.take i).length=i:=by rw[dW];omega
  simp only[aQ];by_cases h1:q<i
  ·rw[if_pos h1,aU (by omega),pW h1]
  ·rw[if_neg h1,bJ (by omega),hti,dA,show j+(q-i)=q+(j-i) by omega]
 have hdat:BX J σ w' (xN [.dead,.dat sz (es.take i++es.drop j)]):=⟨λb=>match b with
  |0=>hbx.ok 0
  | 1 =>Qu (show qf J σ w' 1 (.dat sz (lits (ls.take i++ls.drop j)))from hbx.ok 1) (by simp[l1])
      (λe he=>by
       rcases aV.1 he with he|he
       ·exact hes e (dG he)
       ·exact hes e (iR he))
      (λq j c hc=>by
       rw[U5 _ _ rfl]at hc;rw[U5 _ _ l1];split
       ·rename_i h1;rw[if_pos h1]at hc;exact Fa hle l4 q _ c hc
       ·rename_i h1;rw[if_neg h1]at hc;exact Fa hle l4 _ _ c hc)
  |b+2=>hbx.ok (b+2),λb b' k h h'=>hbx.inj b b' k (by rw[Hr];exact h) (by rw[Hr];exact h'),λb k h=>hbx.fresh b k (by rw[Hr];exact h)⟩
 obtain⟨kr,cap',a',c',hσ,rfl,hn',hc',hcc,ha'⟩:=hgv;have:=hcc c rfl;subst this;have hcap':cap'≠0:=by omega
 have ea':=ha' (.inr ⟨rfl,hcap'⟩);rw[rV]at ea';subst ea';refine⟨⟨_,J,σ,_,_,rfl,⟨rfl,rfl⟩,⟨kr,cap',_,c',hσ,by rw[l1],by omega,by omega,λ_=>rfl⟩,hag,hdat,hle,hM▸hfr,λb k h=>by simp only[<- xm];exact hown b k (by rw[Hr];exact h),λk hk hx=>hnew k hk (by simp only[xm];exact hx),hkeep⟩,?_⟩;cases hX with
 |VK=>trivial
 |rd hr=>unfold Ze at hk;rw[hr]at hk;cases hk
 | ow sg hr hl g dp hin=>
   obtain⟨T,rfl,hT⟩:=abE hk hr;obtain⟨s0,e0,hs⟩:=hin.fs (.ref 0 ⟨0,T,0⟩) (by simp[Kr,vw]);have:s0 = .slice a es.length c':=yj e0;subst this;obtain⟨ks,k1,k2,k3⟩:=QH hin.good hT hs Qp hn hc ha l1 l2 l3;have hkr:w.heap.size<=kr\/ks=some kr:=by
    rcases hown 1 kr ⟨cap',hσ,hcap'⟩with h|⟨b',h⟩
    ·exact .inl h
    ·right
     match b',h with
     | 0,h=>obtain⟨cp,h1,h2⟩:=h;rw[Qp]at h1;cases h1;exact k2 h2
     |b'+1,h=>exact h.elim
   obtain⟨cs,e,hw,hcell⟩:=MI (show qf J σ w' 1 (.dat sz (lits (ls.take i++ls.drop j)))from hbx.ok 1) hσ hcap';have gone:∀{b},g b=some (.arr T (.tag dp 0))->(g.re (xk dp [0]) (JK ks kr (i*sz) (j*sz) ((j-i)*sz))) b=none:=λh=>by rw[Na,h];simp[xk]
   have ZE:(g.re (xk dp [0]) (JK ks kr (i*sz) (j*sz) ((j-i)*sz))) kr=none:=by
    rcases hkr with h|h
    ·have:g kr=none:=by
      cases hx:g kr with
      |none=>rfl
      |some B=>have:=hin.good.lt hx;omega
     rw[Na,this]
    ·exact gone (k1 kr h)
   have hgood:=hin.good.perm (w':=w') (dr:=xk dp [0]) (φ:=JK ks kr (i*sz) (j*sz) ((j-i)*sz)) (kr:=kr) (T:=T) (n:=i+(ls.length-j)) (p:=.tag dp 20000) (cs:=cs) (e:=e)
    (λk T' p hkk hp j=>⟨rfl,by simp only[JK];rw[if_neg];intro h;rw[k1 k h.symm]at hkk;cases hkk;simp[xk]at hp⟩)
    (λk hk hx=>hfr.block k hk hx)
    (λk hx=>by
     obtain⟨b,hb⟩:=hx
     match b,hb with
     | 0,hb=>obtain⟨cp,h1,h2⟩:=hb;rw[Qp]at h1;cases h1;exact gone (k1 k0 (k2 h2))
     |b+1,hb=>exact hb.elim)
    ZE hw
    (λy u T' hy hu ht=>by
     rw[hT]at hy ht;have hsz:0<sz:=by
      rcases Nat.eq_zero_or_pos sz with h|h
      ·rw[h]at hy;omega
      ·exact h
     have hr:=Nat.mod_lt y hsz;have hyq:y=y/sz*sz+y%sz:=(by rw[oh];exact(vz y sz).symm);have hq:y/sz<i+(ls.length-j):=(vH hsz).2 hy;generalize y/sz=q at hyq hq;generalize hrr:y%sz=r at hyq hr ht;have look:∀{l:List Value},(ls.take i++ls.drop j).getD q []=l->l.length=sz->l[r]? = some u:=λhl hlen=>by have h1:=aj (show r<_ by rw[hlen];exact hr);have h2:=hcell q r _ (by rw[hl];exact h1);rw[<- hyq,hu]at h2;cases h2;exact h1
     have hlen:∀q,q<ls.length->(ls.getD q []).length=sz:=λq hq=>by rw[aQ,aj hq];exact l2 _ (bz hq)
     have hx:=U5 ls q l1;by_cases h1:q<i
     ·rw[if_pos h1]at hx;obtain⟨b,hb,hgr⟩:=k3 q r u T' (look hx (hlen q (by omega))) ht;have:=hgr.re (dr:=xk dp [0]) rfl (JK ks kr (i*sz) (j*sz) ((j-i)*sz));have hlt:q*sz+r<i*sz:=by
       calc q*sz+r<q*sz+sz:=by omega
        _=(q+1)*sz:=by rw[bg,qG]
        _<=i*sz:=aC _ h1
      rw[<- hyq]at this hlt;simp only[JK,hb,if_true,if_pos hlt]at this;rw[hb];exact this
     ·rw[if_neg h1]at hx;obtain⟨b,hb,hgr⟩:=k3 (q+(j-i)) r u T' (look hx (hlen _ (by omega))) ht;have:=hgr.re (dr:=xk dp [0]) rfl (JK ks kr (i*sz) (j*sz) ((j-i)*sz));have e1:(q+(j-i))*sz+r=y+(j-i)*sz:=(by rw[hyq,bg];omega);have hge:j*sz<=y+(j-i)*sz:=by
       rw[<- e1];have:j*sz<=(q+(j-i))*sz:=aC _ (by omega);omega
      have afZ:¬y+(j-i)*sz<i*sz:=by have:i*sz<=j*sz:=aC _ (by omega);omega
      rw[e1]at this;simp only[JK,hb,if_true,if_neg afZ,if_pos hge,Nat.add_sub_cancel]at this;rw[hb];exact this)
   refine⟨_,_,rfl,Rel.perm (Rel.re λd m hd=>⟨by simp only[xk,jR,decide_eq_false_iff_not];left;omega,rfl⟩) ZE (hkr.imp id λh=>⟨_,k1 kr h⟩),hgood,λf hf=>?_⟩;have:f = .ref 3 ⟨0,T,20000⟩:=(by simpa[MR,Tt,Vq,vw]using hf);subst this;exact⟨_,rfl,.inr ⟨kr,_,_,rfl,if_pos rfl,by rw[xZ,if_pos rfl];exact aA _⟩⟩
end
end
section
inductive Under (g:Own)(q:ru):Nat->Prop
 |here {k T:Nat} (h:g.b k=some (.arr T q)):Under g q k
 |deep {k T x y:Nat} (h:g.b k=some (.arr T (.blk x y))) (hu:Under g q x):Under g q k
section
variable {g:Own}
theorem Under.trans {q:ru}{b x c:Nat}(h:Under g (.blk b x) c)(hb:Under g q b):Under g q c:=by
 induction h with
 |here h=>exact .deep h hb
 |deep h _ ih=>exact .deep h ih
theorem Under.aaP {d m d' m' b:Nat}(h:Under g (.tag d m) b)(h':Under g (.tag d' m') b):d=d'/\m=m':=by
 induction h with
 | here h=>
   cases h' with
   |here h2=>rw[h]at h2;cases h2;exact⟨rfl,rfl⟩
   |deep h2 _=>rw[h]at h2;cases h2
 | deep h _ ih=>
   cases h' with
   |here h2=>rw[h]at h2;cases h2
   |deep h2 u2=>rw[h]at h2;cases h2;exact ih u2
theorem Under.irrefl {d m b:Nat}(h:Under g (.tag d m) b):∀x,¬Under g (.blk b x) b:=by
 induction h with
 | here h=>
   intro x hx;cases hx with
   |here h2=>rw[h]at h2;cases h2
   |deep h2 _=>rw[h]at h2;cases h2
 | deep h _ ih=>
   intro x hx;cases hx with
   | here h2=>rw[h]at h2;cases h2;exact ih _ (.here h)
   | deep h2 u2=>rw[h]at h2;cases h2;exact ih _ (u2.trans (.here h))
theorem Under.aay {d m k x y b:Nat}(hk:Under g (.tag d m) k)(h:Under g (.blk k x) b)(h':Under g (.blk k y) b):x=y:=by
 induction h with
 | here h=>
   cases h' with
   |here h2=>rw[h]at h2;cases h2;rfl
   |deep h2 u2=>rw[h]at h2;cases h2;exact absurd u2 (hk.irrefl _)
 | deep h u ih=>
   cases h' with
   |here h2=>rw[h]at h2;cases h2;exact absurd u (hk.irrefl _)
   |deep h2 u2=>rw[h]at h2;cases h2;exact ih u2
theorem Under.owned {q:ru}{b:Nat}(h:Under g q b):∃T p,g b=some (.arr T p):=by
 cases h with
 |here h=>exact⟨_,_,h⟩
 |deep h _=>exact⟨_,_,h⟩
end
def FY (g:Own)(q:ru):Prop:=(∃d m,q = .tag d m)\/∃k j d m,q = .blk k j/\Under g (.tag d m) k
theorem FY.under {g:Own}{q:ru}(h:FY g q){k:Nat}(hk:Under g q k):∃d m,Under g (.tag d m) k:=by
 rcases h with⟨d,m,rfl⟩|⟨k',j,d,m,rfl,hu⟩
 ·exact⟨d,m,hk⟩
 ·exact⟨d,m,hk.trans hu⟩
inductive NZ (P:Program):Nat->Cell->Prop
 | sl (T sz:Nat) (es:List (List Cell)) (t:Nat->Nat) (hs:qJ P T=sz) (h1:∀i j sz' es',(es.getD i [])[j]? = some (.sl sz' es')->(j,t j)∈kP P T)
   (h2:∀i j sz' es',(es.getD i [])[j]? = some (.sl sz' es')->NZ P (t j) (.sl sz' es')):NZ P T (.sl sz es)
theorem Uz {I J:IH}{a:Addr}(h:J a.block=I a.block):J.cell a=I.cell a:=by unfold IH.cell;rw[h]
theorem Rd.H7 {I J:IH}{v x:Value}(h:Rd I x (.lit v)):Rd J x (.lit v):=by cases h with|lit _ hv=>exact .lit _ hv
theorem Rd.Ik {I J:IH}{l:List UInt8}{x:Value}(h:Rd I x (.str l)):Rd J x (.str l):=by cases h with|str _ hl=>exact .str _ hl
section
variable {P:Program} {g:Own} {w:World} {I J J':IH}
theorem Lj (hg:Good P g w)(hA:Agree J w){k n T sz i j:Nat}{q:ru}{u:Value}(hk:g.at k n T q)(hs:qJ P T=sz)(hi:i<n)(hj:j<sz)(hc:J.cell ((⟨k,0,none⟩:Addr).add (i*sz+j))=some u){T':Nat}(ht:(j,T')∈kP P T) :
 GR g u T' (.blk k (i*sz+j)):=by
 obtain⟨cs,e,hw,hown⟩:=hg.arr _ _ _ hk.1;have hc':=hA.cell hc;rw[Addr.l7,dh]at hc';simp only[dR,hw]at hc';refine hown _ u T' ?_ (by simpa using hc') (by rw[hs,AA hj];exact ht);rw[hs]
 calc i*sz+j<i*sz+sz:=by omega
  _=(i+1)*sz:=by rw[bg,qG]
  _<=_:=aC _ (cZ hi hk.2)
theorem Zq {α:Type}{es:List (List α)}{i j sz:Nat}{c:α}(hs:∀e,e∈es->e.length=sz)(h:(es.getD i [])[j]? = some c):i<es.length/\j<sz:=by
 have hi:i<es.length:=by
  rcases zY i es.length with h'|h'
  ·exact h'
  ·rw[aQ,gp h']at h;simp at h
 refine⟨hi,?_⟩;have h6:=(ax.1 h).1;rw[aQ,aj hi]at h6;simp only[jh]at h6
 rwa[hs _ (bz hi)]at h6
theorem Rd.under (hg:Good P g w)(hA:Agree J w){v:Value}{c:Cell}(h:Rd J v c):∀{T:Nat} {q:ru},GR g v T q->NZ P T c->(∀b,Under g q b->J' b=J b)->Rd J' v c:=by
 induction h with
 |lit v hv=>intro _ _ _ _ _;exact .lit v hv
 |str l h=>intro _ _ _ _ _;exact .str l h
 | sl a len cap sz es u hlen hcap hmax hsz ha hcell hr ih=>
   intro T q hgr hty hJ;cases hty with
   |sl _ _ _ t hs h1 h2=>
   rcases hgr with e|⟨k,n',c',e,hk⟩
   ·cases e;have:es=[]:=nV.1 hlen;subst this;exact .sl none 0 0 sz [] u hlen hcap hmax hsz ha (λad e=>by cases e) (λi j c hc=>by simp at hc)
   ·cases e;have hJk:=hJ k (.here hk.1);refine .sl _ _ _ sz es u hlen hcap hmax hsz ha (λad e i j hi hj=>?_) (λi j c hc=>?_)
    ·cases e;have h0:=hcell _ rfl i j hi hj;rw[Addr.l7]at h0⊢;rw[Uz (J:=J') (I:=J) hJk];exact h0
    ·obtain⟨hi,hj⟩:=Zq hsz hc;cases c with
     |lit v'=>exact(hr i j _ hc).H7
     |str l=>exact(hr i j _ hc).Ik
     | sl sz' es'=>exact ih i j _ hc (Lj hg hA hk hs (by omega) hj (hcell _ rfl i j (by omega) hj) (h1 i j _ _ hc)) (h2 i j _ _ hc) (λb hb=>hJ b (hb.trans (.here hk.1)))
theorem Rd.upd (hg:Good P g w)(hA:Agree J w){k n cap T sz i j:Nat}{q:ru}{es:List (List Cell)}(hk:g.at k n T q)(hroot:FY g q)(h:Rd J (.slice (some ⟨k,0,none⟩) n cap) (.sl sz es))(hty:NZ P T (.sl sz es))(hi:i<n)(hj:j<sz){u':Value}{c':Cell}
 (hcell:∀y,J'.cell ⟨k,y,none⟩=if y=i*sz+j then some u' else J.cell ⟨k,y,none⟩) (hother:∀y b,y≠i*sz+j->Under g (.blk k y) b->J' b=J b) (hc':Rd J' u' c') :
 Rd J' (.slice (some ⟨k,0,none⟩) n cap) (.sl sz (es.set i ((es.getD i []).set j c'))):=by
 cases h with
 |sl _ _ _ _ _ u hlen hcap hmax hsz ha hcl hr=>
 cases hty with
 |sl _ _ _ t hs h1 h2=>
 have inj:∀{i' j'},j'<sz->i'*sz+j'=i*sz+j->i'=i/\j'=j:=λ{i' j'} hj' e=>by
  have e1:(i'*sz+j')%sz=j':=AA hj';have e2:(i*sz+j)%sz=j:=AA hj;have e3:j'=j:=by rw[<- e1,<- e2,e]
  subst e3;have e4:i'*sz=i*sz:=by omega
  exact⟨Nat.eq_of_mul_eq_mul_right (by omega) e4,rfl⟩
 have hget:∀i' j',((es.set i ((es.getD i []).set j c')).getD i' [])[j']? = if i'=i/\j'=j then some c' else(es.getD i' [])[j']?:=by
  intro i' j';simp only[aQ,lI];by_cases e:i=i'
  ·subst e;rw[if_pos rfl,if_pos (by omega)];simp only[jh,lI];by_cases e2:j=j'
   ·subst e2;have hl:j<(es[i]?.getD []).length:=(by rw[aj (by omega),jh,hsz _ (bz _)];exact hj);rw[if_pos rfl,if_pos hl];simp
   ·rw[if_neg e2,if_neg (λh=>e2 h.2.symm)]
  ·rw[if_neg e,if_neg (λh=>e h.1.symm)]
 refine .sl _ _ _ sz _ (λi' j'=>if i'=i/\j'=j then u' else u i' j') (by simpa using hlen) hcap hmax (λe he=>?_) ha (λad e i' j' hi' hj'=>?_) (λi' j' c hc=>?_)
 ·rcases List.mem_or_eq_of_mem_set he with he|he
  ·exact hsz e he
  ·subst he;rw[List.length_set,aQ,aj (by omega),jh];exact hsz _ (bz _)
 ·cases e;have h0:=hcl _ rfl i' j' hi' hj';rw[Addr.l7,dh]at h0⊢;rw[hcell];by_cases e:i'=i/\j'=j
  ·obtain⟨rfl,rfl⟩:=e;simp
  ·rw[if_neg (λe2=>e (inj hj' e2)),h0];simp[e]
 ·rw[hget]at hc;by_cases e:i'=i/\j'=j
  ·rw[if_pos e]at hc;cases hc;simp only[if_pos e];exact hc'
  ·rw[if_neg e]at hc;simp only[if_neg e];obtain⟨hi',hj'⟩:=Zq hsz hc;cases c with
   |lit v'=>exact(hr i' j' _ hc).H7
   |str l=>exact(hr i' j' _ hc).Ik
   | sl sz' es'=>exact(hr i' j' _ hc).under hg hA (Lj hg hA hk hs (by omega) hj' (hcl _ rfl i' j' (by omega) hj') (h1 i' j' _ _ hc)) (h2 i' j' _ _ hc) (λb hb=>hother _ b (λe2=>e (inj hj' e2)) hb)
end
end
end Go.Ab
