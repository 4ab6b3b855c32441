/- What abstract codes mean (part 2). No conditions. -/
import Derived.Test.YtaodeagfpncomaaGreatDoorX1
set_option linter.unusedVariables false
set_option linter.unusedSimpArgs false
open Array renaming getElem?_eq_some_iff->dm,getD_eq_getD_getElem?->fK,length_toList->kS,getElem?_eq_getElem->lJ,getElem?_map->nG,range->ry,mapM_eq_mapM_toList->uf,replicate->ug,ext'->vO
open Bool renaming and_eq_true->ah,or_eq_true->dP,not_eq_true'->jM,and_eq_false_iff->lN
open Go.Builtin renaming append_->iK,firstCells->iQ,copy_->lF,lenOf->og
open Go.Code renaming region->zO
open Go.Exit renaming inBlock->wX
open Go.Instr renaming sureAddr->jO,loadAt->nM,fill->pW
open Go.Oper renaming upon_skip->BH,wp->rV,wp_mono->zh
open Go.Region renaming ready->qh,wanted->yK
open Go.Result renaming andThen_ok->bu
open Go.Sem renaming run_map->Dw,run_pure->bM,run_bind->cu
open Go.Value renaming cells->lW,pointer->oh,slice->zV
open Go.World renaming cell?->iy
open List renaming mem_map_of_mem->AB,pairwise_append->Ac,range->Ad,filter_eq_self->Aw,flatten->Bq,mem_range->DD,mapM_cons->Dz,getElem?_eq_getElem->aA,mem_cons_self->aG,all_eq_true->aN,mem_cons->aO,mem_append->aS,getElem?_eq_some_iff->aT,mem_filter->aU,getElem?_append_left->bD,mem_cons_of_mem->bF,flatMap_cons->bG,map_cons->bJ,mem_map->bf,getElem?_map->dD,mem_append_left->dG,mem_filterMap->dQ,replicate->dU,length_cons->dW,mem_append_right->dZ,getElem?_append_right->dw,cons_append->eH,length_nil->fB,getElem_mem->fU,getD_eq_getElem?_getD->fZ,getElem?_cons_succ->gX,getElem?_cons_zero->gY,mem_of_getElem?->iE,contains_iff_mem->iR,not_mem_nil->jL,size_toArray->jP,mem_flatMap->jX,map_nil->jY,map_toArray->kP,getElem?_eq_none->kV,getElem?_toArray->kW,length_map->kX,mem_of_head?->mg,mem_zipIdx_iff_getElem?->nR,map_congr_left->nX,getElem?_set->o5,pairwise_cons->pY,getElem_of_mem->rD,map_append->rH,any_eq_true->sO,filter_append->uC,length_eq_zero_iff->uT,pairwise_iff_getElem->um,contains_eq_mem->wZ,nodup_cons->xe,isEmpty_iff->yL
open Nat renaming lt_succ_self->Cm,mod_mod->FB,mul_le_mul_right->aW,le_refl->ak,add_mul->dK,le_trans->dR,zero_add->fE,lt_of_lt_of_le->jH,beq->kU,add_zero->oG,mod_eq_of_lt->sS,add_mul_mod_self_right->tq,add_mod->uU,add_comm->uw,mul_comm->wG,lt_trichotomy->yu
open Option renaming map_eq_some_iff->bY,map_some->mD,getD_some->pK,isNone_iff_eq_none->qW,bind_eq_some_iff->rJ,isSome_iff_exists->uA
open Option.some renaming injEq->aC
open Prod.mk renaming injEq->aK
namespace Go.Ab
open Go
section
def PD (P:Program)(t:TypeId):RR:=match P.info? t with
 | some i=>(match i.zero with
   |some z=>(match Nk z.cells (refsOf P 6 t 0)with|some R=>R|none=>[])
   |none=>[])
 |none=>[]
def placesOf (P:Program)(fs:Array Field):Nat->Option (Nat×Nat):=((fs.map λf=>(f.offset,P.cellsOf f.type))[·]?)
def UJ (P:Program)(Γ : List OF)(t:TypeId)(ps:List (Nat×Operand)):RR:=match P.underlying t,P.info? t with
 | some (.struct fs),some i=>if fs.toList.all (λf=>(P.info? f.type).isSome)then(match i.zero with
   | some z=>(match Nk z.cells (refsOf P 6 t 0)with
     |some R=>WQ (placesOf P fs) Γ ps R
     |none=>[])
   |none=>[])else []
 |_,_=>[]
def D5 (P:Program)(T:TypeId):Bool:=match P.underlying T with
 | some (.slice e)=>(match P.info? e with
   | some i=>(match i.zero with
     |some z=>z.cells.size==i.size&&(Nk z.cells (refsOf P 6 e 0)).isSome
     |none=>false)
   |none=>false)
 |_=>false
section
variable {P:Program} {F:Ov} {g:Own} {dp:Nat} {Γ : List OF} {a:Act} {w w':World} {d N:Nat} {v:Value}
theorem Z7 {t:TypeId}{i:TypeInfo}{z:Value}(hi:P.info? t=some i)(hz:i.zero=some z):Nu g dp z.cells (PD P t):=by
 unfold PD;rw[hi];simp only[hz];split
 ·rename_i R hR;exact Yd hR
 ·intro e he;cases he
theorem abA (h:OW P F g dp Γ a w)(hd:d<a.tmps.size)(hN:N<=w.heap.size){o:Oper}{t:TypeId}(ho:o.op = .alloc t)(hr:(execOp a.eval o).run P w = .ok (.value v) w') :
 ∃g',Rel dp N g g'/\OW P F g' dp (VU d (rowOf d (PD P t)) ++ Γ.filter (Ff d)) (a.put (some d) v) w':=by
 simp only[execOp,ho]at hr;have hr:=DZ hr;unfold Go.Instr.alloc at hr;obtain⟨z,w1,h1,h2⟩:=dM hr;obtain⟨⟨i,hi,hz⟩,rfl⟩:=Nl h1
 dsimp only at h2
 obtain⟨p,w2,h3,h4⟩:=dM h2;obtain⟨rfl,rfl⟩:=QV h3;obtain⟨rfl,rfl⟩:=jb h4;exact h.VU hd (Rj (Z7 hi hz) d) hN
theorem agJ (h:OW P F g dp Γ a w)(hd:d<a.tmps.size)(hN:N<=w.heap.size){o:Oper}{t:TypeId}{x:Operand}(ho:o.op = .box t x)(hr:(execOp a.eval o).run P w = .ok (.value v) w') :
 ∃g',Rel dp N g g'/\OW P F g' dp (VU d (rowOf d (Dq Γ 0 1000 x)) ++ Γ.filter (Ff d)) (a.put (some d) v) w':=by
 simp only[execOp,ho]at hr;have hr:=DZ hr;unfold Go.Instr.box at hr;obtain⟨p,w2,h3,h4⟩:=dM hr;obtain⟨rfl,rfl⟩:=QV h3;obtain⟨rfl,rfl⟩:=jb h4;refine h.VU hd (Rj (λe he=>?_) d) hN;unfold Dq at he;split at he
 ·rename_i s;rw[dQ]at he;obtain⟨f,hf,he⟩:=he;split at he
  ·split at he
   ·rename_i y r hc;cases he;obtain⟨rfl,hlt⟩:=hc;obtain⟨u,hu,hg⟩:=h.fs _ hf;exact⟨u,by rw[fE];exact hu,hg⟩
   ·cases he
  ·cases he
 ·cases he
theorem abL (h:OW P F g dp Γ a w)(hd:d<a.tmps.size){o:Oper}{t:TypeId}{ps:Array (Nat×Operand)}(ho:o.op = .build t ps)(hr:(execOp a.eval o).run P w = .ok (.value v) w') :
 ∀f,f∈(rowOf d (UJ P Γ t ps.toList)).map (.ref d)->BP P F g dp (a.put (some d) v) w f:=by
 intro f hf;rw[bf]at hf;obtain⟨r,hr0,rfl⟩:=hf;simp only[execOp,ho]at hr;have hr:=DZ hr;have key:Nu g dp v.cells (UJ P Γ t ps.toList):=by
  unfold UJ;split
  ·rename_i fs i hs hi;split
   ·rename_i hall;split
    ·rename_i z hz;split
     ·rename_i R hR;have hpl:=run_places (P:=P) w fs.toList hall;have hpl':(fs.mapM (m:=Sem) λf=>do pure (f.offset,<- sizeOf f.type)).run P w = .ok (fs.map λf=>(f.offset,P.cellsOf f.type)) w:=by
       rw[uf,Dw,hpl];simp only[bu]
       congr 1
       apply vO;simp
      have hzr:(zeroValue t).run P w = .ok z w:=(by simp[zeroValue,typeInfo,hi,hz]);have hps:(ps.map λ(i,x)=>(i,a.eval x)).toList=ps.toList.map λp=>(p.1,a.eval p.2):=(by simp);unfold Instr.build at hr;obtain⟨z',w1,h1,h2⟩:=dM hr;rw[hzr]at h1;cases h1;obtain⟨de,w2,h3,h4⟩:=dM h2;rw[run_underlying hs]at h3;cases h3
      dsimp only at h4
      obtain⟨pl,w3,h5,h6⟩:=dM h4;rw[hpl']at h5;cases h5;split at h6
      ·rename_i out hout;have hv:=(jb h6).1;subst hv;rw[hps]at hout;exact(Qy h.fs ps.toList _ out R (Yd hR) hout).1
      ·cases h6
     ·intro e he;cases he
    ·intro e he;cases he
   ·intro e he;cases he
  ·intro e he;cases he
 obtain⟨u,hu,hg⟩:=Rj key d r hr0;exact⟨u,by rw[ig hd];exact hu,hg⟩
theorem aak {n:Nat}{w1:World}{u:Unit}(h:(askRoom n).run P w = .ok u w1):w1=w:=by
 unfold askRoom at h;split at h
 ·rw[run_mark]at h;cases h;rfl
 ·exact(jb h).2
theorem Jp {α:Type}{e:RuntimeError}{r:α}{w1:World}(h:(runtimePanic e:Sem α).run P w = .ok r w1):False:=by
 unfold runtimePanic at h;obtain⟨p,w2,h1,h2⟩:=dM h
 dsimp only at h2
 split at h2<;>first
  |cases h2
  |(obtain⟨_,_,_,h3⟩:=dM h2;obtain⟨_,_,_,h4⟩:=dM h3;cases h4)
theorem F9 {T e:TypeId}{i:TypeInfo}{z:Value}(hz:D5 P T=true)(hu:P.underlying T=some (.slice e))(hi:P.info? e=some i)(hzero:i.zero=some z){cs:Array Value}(hcs:∀(j:Nat) (u:Value),cs[j]? = some u->u=z.cells[j%z.cells.size]!) :
 ∀j u T',cs[j]? = some u->(j%vw P T,T')∈nP P T->Zt u:=by
 unfold D5 at hz;rw[hu]at hz;simp only[hi,hzero,ah,aH]at hz;intro j u T' hj ht;have:=hcs j u hj;obtain⟨h1,h2⟩:=hz;cases hR:Nk z.cells (refsOf P 6 e 0)with
 |none=>rw[hR]at h2;cases h2
 | some R=>
   have he:nP P T=refsOf P 6 e 0:=(by simp[nP,hu]);have hs:vw P T=i.size:=(by simp[vw,hu,hi]);rw[he,hs,<- h1]at ht;unfold Nk at hR;split at hR
   ·rename_i hall;rw[aN]at hall;have h3:=hall _ ht;cases hc:z.cells[j%z.cells.size]? with
    |none=>rw[hc]at h3;cases h3
    | some u'=>rw[hc]at h3;have:u=u':=(by rw[this,getElem!_def,hc]);rw[this];exact Pq h3
   ·cases hR
theorem OW.agH (h:OW P F g dp Γ a w)(hd:d<a.tmps.size)(hN:N<=w.heap.size){cs:Array Value}{e T n c m:Nat}
 (hc:∀j u T',cs[j]? = some u->(j%vw P T,T')∈nP P T->GR g u T' (.blk w.heap.size j)) :
 ∃g',Rel dp N g g'/\OW P F g' dp (.ref d ⟨0,T,m⟩ :: Γ.filter (Ff d)) (a.put (some d) (.slice (some ⟨w.heap.size,0,none⟩) n c)) (w.alloc (.cells cs e)):=by
 have hn:g w.heap.size=none:=by
  cases hg:g w.heap.size with
  |none=>rfl
  |some B=>exact aY (h.good.lt hg) (Nat.lt_irrefl _)
 have h1:=(h.drop d (.slice (some ⟨w.heap.size,0,none⟩) n c)).ai8 (cs:=cs) (e:=e) (T:=T) (m:=n) (p:=.tag dp m) λj u T' _=>hc j u T';refine⟨_,Rel.new hn hN,h1.add ⟨.slice (some ⟨w.heap.size,0,none⟩) n c,?_,.inr ⟨w.heap.size,n,c,rfl,by simp[tZ],by simp[DV]⟩⟩⟩;rw[ig hd];rfl
theorem aeY (h:OW P F g dp Γ a w)(hd:d<a.tmps.size)(hN:N<=w.heap.size){o:Oper}{T:TypeId}{x y:Operand}(hz:D5 P T=true)(ho:o.op = .makeSlice T x y)(hr:(execOp a.eval o).run P w = .ok (.value v) w') :
 ∃g',Rel dp N g g'/\OW P F g' dp (.ref d ⟨0,T,mk d 0⟩ :: Γ.filter (Ff d)) (a.put (some d) v) w':=by
 simp only[execOp,ho]at hr;have hr:=DZ hr;have Tj:∀{v:Value} {i:Int} {w w':World},(asInt v).run P w = .ok i w'->w'=w:=by intro v i w w' h;unfold asInt at h;obtain⟨y,w1,h1,h2⟩:=dM h;have e1:=(jb h2).2;subst e1;unfold asIntOf at h1;split at h1<;>first|exact(jb h1).2|cases h1
 unfold Instr.makeSlice at hr;obtain⟨de,w1,h1,k1⟩:=dM hr;clear hr;obtain⟨hu,rfl⟩:=zJ h1;split at k1
 ·rename_i e;obtain⟨l0,w2,h2,k2⟩:=dM k1;have:=Tj h2;subst this;obtain⟨c0,w3,h3,k3⟩:=dM k2;have:=Tj h3;subst this;obtain⟨i,w4,h4,k4⟩:=dM k3;obtain⟨hi,rfl⟩:=Gy h4;clear k1 k2 k3
  dsimp only at k4
  split at k4
  ·exfalso;split at k4
   ·obtain⟨_,_,h5,_⟩:=dM k4;exact Jp h5
   ·split at k4
    ·obtain⟨_,_,h5,_⟩:=dM k4;exact Jp h5
    ·obtain⟨_,_,_,k5⟩:=dM k4;obtain⟨_,_,h5,_⟩:=dM k5;exact Jp h5
  ·obtain⟨_,w5,h5,k5⟩:=dM k4;have:=aak h5;subst this;obtain⟨sz,w6,h6,k6⟩:=dM k5;obtain⟨i',hi',rfl,rfl⟩:=Df h6;rw[hi]at hi';cases hi';clear k4 k5;split at k6
   ·rename_i h0;obtain⟨z,w7,h7,k7⟩:=dM k6;obtain⟨rfl,rfl⟩:=jb h7;obtain⟨p,w8,h8,k8⟩:=dM k7;unfold newRow at h8;obtain⟨q,w9,h9,h10⟩:=dM h8;rw[run_newObj]at h9;cases h9;obtain⟨rfl,rfl⟩:=jb h10;obtain⟨rfl,rfl⟩:=jb k8;refine h.agH hd hN λj u T' hj _=>?_;have hlt:=(dm.1 hj).1;simp only[Array.size_map,Array.size_range]at hlt;omega
   ·obtain⟨z,w7,h7,k7⟩:=dM k6;obtain⟨⟨i2,hi2,hzero⟩,rfl⟩:=Nl h7;rw[hi]at hi2;cases hi2;obtain⟨z',w8,h8,k8⟩:=dM k7;obtain⟨rfl,rfl⟩:=jb h8;obtain⟨p,w9,h9,k9⟩:=dM k8;unfold newRow at h9;obtain⟨q,w10,h10,h11⟩:=dM h9;rw[run_newObj]at h10;cases h10;obtain⟨rfl,rfl⟩:=jb h11;obtain⟨rfl,rfl⟩:=jb k9;refine h.agH hd hN λj u T' hj ht=>.inl (F9 hz hu hi hzero (λj u hj=>?_) j u T' hj ht);rw[nG]at hj;simp only[bY]at hj;obtain⟨j',hj',rfl⟩:=hj;have:=dm.1 hj';simp at this;rw[this.2]
 ·cases k1
end
end
section
def RI (R:RR):Bool:=R.all λe=>R.all λe'=>e.2.2.isNone||e.2.2 != e'.2.2||e==e'
def Nb (R:RR):List Nat:=R.filterMap (·.2.2)
def SA (k off:Nat)(R:RR):List (Nat×wL):=R.filterMap λe=>e.2.2.map λm=>(m,.blk k (off+e.1))
def aer (R:RR)(o T:Nat):Bool:=R.any λe=>e.1==o&&e.2.1==T
theorem TY (k off:Nat)(R:RR):(SA k off R).map (·.1)=Nb R:=by
 induction R with
 |nil=>rfl
 | cons e r ih=>
   obtain⟨o,T,m⟩:=e;cases m with
   |none=>simpa[SA,Nb]using ih
   |some m=>simp only[SA,Nb,List.filterMap_cons,mD,bJ]at ih⊢;rw[ih]
theorem QN {β:Type}{m:Nat}{q:β} : ∀{l:List (Nat×β)},(m,q)∈l->∃q',l.lookup m=some q'/\(m,q')∈l
 | (k,b)::r,h=>by
   simp only[List.lookup];cases hk:(m==k)with
   |true=>simp at hk;subst hk;exact⟨b,rfl,aG ..⟩
   | false=>
     rcases aO.1 h with e|h
     ·cases e;simp at hk
     ·obtain⟨q',h1,h2⟩:=QN h;exact⟨q',h1,bF _ h2⟩
theorem Xm {k off:Nat}{R:RR}(ht:RI R=true){e:Nat×Nat×Option Nat}(he:e∈R){m:Nat}(hm:e.2.2=some m):(SA k off R).lookup m=some (.blk k (off+e.1)):=by
 have h1:(m,wL.blk k (off+e.1))∈SA k off R:=by rw[SA,dQ];exact⟨e,he,by rw[hm];rfl⟩
 obtain⟨q,hq,hm'⟩:=QN h1;rw[hq];rw[SA,dQ]at hm';obtain⟨e',he',h2⟩:=hm';cases h3:e'.2.2 with
 |none=>rw[h3]at h2;cases h2
 | some m'=>
   rw[h3]at h2;simp only[mD,aC,aK]at h2;obtain⟨rfl,rfl⟩:=h2;simp only[RI,aN,dP,qW,bne_iff_ne,aH]at ht;have:=ht e he e' he';rcases this with(h|h)|h
   ·rw[hm]at h;cases h
   ·rw[hm,h3]at h;exact aY rfl h
   ·rw[h]
section
variable {P:Program} {F:Ov} {g:Own} {dp:Nat} {Γ : List OF} {a:Act} {w w':World} {d N:Nat} {v:Value}
theorem Nu.mv {cs:Array Value}{R:RR}(h:Nu g dp cs R)(ht:RI R=true)(k off:Nat){e:Nat×Nat×Option Nat}(he:e∈R):∃u,cs[e.1]? = some u/\GR (g.mv dp (SA k off R)) u e.2.1 (.blk k (off+e.1)):=by
 obtain⟨u,hu,hg⟩:=h e he;refine⟨u,hu,?_⟩;cases hm:e.2.2 with
 |none=>rw[hm]at hg;exact .inl hg
 |some m=>rw[hm]at hg;exact GR.mv hg (Xm ht he hm)
theorem agb (h:OW P F g dp Γ a w){x:Operand}{size:Nat} : Nu g dp (a.eval x).cells (Dq Γ 0 size x):=by
 intro e he;unfold Dq at he;split at he
 ·rename_i s;rw[dQ]at he;obtain⟨f,hf,he⟩:=he;split at he
  ·split at he
   ·rename_i y r hc;cases he;obtain⟨rfl,hlt⟩:=hc;obtain⟨u,hu,hg⟩:=h.fs _ hf;exact⟨u,by rw[fE];exact hu,hg⟩
   ·cases he
  ·cases he
 ·cases he
def Zr (P:Program)(T len:Nat):RR:=(Ad len).flatMap λi=>(nP P T).map λe=>(i*vw P T+e.1,e.2,none)
def He (P:Program)(Γ : List OF)(T len:Nat)(ps:List (Nat×Operand)):RR:=WQ (λi=>some (i*vw P T,vw P T)) Γ ps (Zr P T len)
def P7 (P:Program)(Γ : List OF)(T len:Nat)(ps:List (Nat×Operand)):Bool:=
 D5 P T&&RI (He P Γ T len ps)&&(Ad len).all (λi=>(nP P T).all λe=>aer (He P Γ T len ps) (i*vw P T+e.1) e.2)&&decide (0<vw P T)
theorem YY {T e:TypeId}{i:TypeInfo}(hu:P.underlying T=some (.slice e))(hi:P.info? e=some i):vw P T=i.size:=by simp[vw,hu,hi]
theorem aeX {T e:TypeId}{i:TypeInfo}{z:Value}(hz:D5 P T=true)(hu:P.underlying T=some (.slice e))(hi:P.info? e=some i)(hzero:i.zero=some z){n:Nat}{cs:Array Value}(hcs:cs=(ry n).map (z.cells[· % z.cells.size]!)) :
 ∀j u T',cs[j]? = some u->(j%vw P T,T')∈nP P T->Zt u:=by
 refine F9 hz hu hi hzero λj u hj=>?_;subst hcs;rw[nG]at hj;simp only[bY]at hj;obtain⟨j',hj',rfl⟩:=hj;have:=dm.1 hj';simp at this;rw[this.2]
theorem aec {T e:TypeId}{i:TypeInfo}{z:Value}(hz:D5 P T=true)(hu:P.underlying T=some (.slice e))(hi:P.info? e=some i)(hzero:i.zero=some z){o T':Nat}(ho:(o,T')∈nP P T):o<vw P T:=by
 unfold D5 at hz;rw[hu]at hz;simp only[hi,hzero,ah,aH]at hz;obtain⟨h1,h2⟩:=hz;have he:nP P T=refsOf P 6 e 0:=by simp[nP,hu]
 rw[he]at ho;cases hR:Nk z.cells (refsOf P 6 e 0)with
 |none=>rw[hR]at h2;cases h2
 | some R=>
   unfold Nk at hR;split at hR
   ·rename_i hall;rw[aN]at hall;have:=hall _ ho;cases hc:z.cells[o]? with
    |none=>dsimp only at this;rw[hc]at this;cases this
    | some u=>have:=(dm.1 hc).1;rw[YY hu hi,<- h1];exact this
   ·cases hR
theorem YA (h:OW P F g dp Γ a w)(hd:d<a.tmps.size)(hN:N<=w.heap.size){o:Oper}{T:TypeId}{len:Nat}{ps:Array (Nat×Operand)}(hok:P7 P Γ T len ps.toList=true)(ho:o.op = .buildSlice T len ps)(hr:(execOp a.eval o).run P w = .ok (.value v) w') :
 ∃g',Rel dp N g g'/\OW P F g' dp (.ref d ⟨0,T,mk d 0⟩::(Γ.filter (CY (Nb (He P Γ T len ps.toList)))).filter (Ff d)) (a.put (some d) v) w':=by
 simp only[P7,ah,aN,aj]at hok;obtain⟨⟨⟨hz,ht⟩,hcov⟩,h0⟩:=hok;simp only[execOp,ho]at hr;have hr:=DZ hr;unfold Instr.buildSlice at hr;obtain⟨de,w1,h1,k1⟩:=dM hr;clear hr;obtain⟨hu,rfl⟩:=zJ h1;split at k1
 ·rename_i e;obtain⟨size,w2,h2,k2⟩:=dM k1;obtain⟨i,hi,rfl,rfl⟩:=Df h2;clear k1;have hes:=YY hu hi
  dsimp only at k2
  split at k2
  ·obtain⟨_,_,h3,_⟩:=dM k2;cases h3
  ·
   have key:∀(z:Value) (cells:Array Value),i.zero=some z->pW (λi'=>some (i'*i.size,i.size)) ((ry (len*i.size)).map (z.cells[· % z.cells.size]!)) (ps.map λ(i,x)=>(i,a.eval x)).toList=some cells ->
    ∃g',Rel dp N g g'/\OW P F g' dp (.ref d ⟨0,T,mk d 0⟩::(Γ.filter (CY (Nb (He P Γ T len ps.toList)))).filter (Ff d)) (a.put (some d) (.slice (some ⟨w2.heap.size,0,none⟩) len len)) (w2.alloc (.cells cells e)):=by
    intro z cells hzero ah2;have hps:(ps.map λ(i,x)=>(i,a.eval x)).toList=ps.toList.map λp=>(p.1,a.eval p.2):=(by simp);rw[hps,<- hes]at ah2;have hnil:Nu g dp ((ry (len*vw P T)).map (z.cells[· % z.cells.size]!)) (Zr P T len):=by
     intro q hq;rw[Zr,jX]at hq;obtain⟨ix,hix,hq⟩:=hq;rw[bf]at hq;obtain⟨r,hr,rfl⟩:=hq;rw[DD]at hix;have hlt:=aec hz hu hi hzero (show(r.1,r.2)∈nP P T from hr);have hj:ix*vw P T+r.1<len*vw P T:=by have:=aW (vw P T) (show ix+1<=len from hix);rw[dK,Nat.one_mul]at this;omega
     have hget:((ry (len*vw P T)).map (z.cells[· % z.cells.size]!))[ix*vw P T+r.1]? = some (z.cells[(ix*vw P T+r.1)%z.cells.size]!):=(by rw[nG,Array.getElem?_range,aF hj];rfl);refine⟨_,hget,?_⟩;refine aeX hz hu hi hzero rfl _ _ r.2 hget ?_;rw[uw,tq,sS hlt];exact hr
    obtain⟨hR,hsz⟩:=Qy h.fs ps.toList _ cells _ hnil ah2;have h2:=h.mv (SA w2.heap.size 0 (He P Γ T len ps.toList));rw[TY]at h2;obtain⟨g',hrel,how⟩:=h2.agH (d:=d) (N:=N) (cs:=cells) (e:=e) (T:=T) (n:=len) (c:=len) (m:=mk d 0) hd hN (λj u T' hj htt=>by have hjl:=(dm.1 hj).1;rw[hsz]at hjl;simp only[Array.size_map,Array.size_range]at hjl;have hdiv:j/vw P T<len:=Nat.div_lt_of_lt_mul (by rw[wG];exact hjl);have:=hcov (j/vw P T) (DD.2 hdiv) (j%vw P T,T') htt;simp only[aer,sO,ah,aH]at this;obtain⟨q,hq,e1,e2⟩:=this;obtain⟨u',hu',hg⟩:=hR.mv ht w2.heap.size 0 hq;have ej:q.1=j:=(by rw[e1,wG];exact Nat.div_add_mod j _);rw[ej]at hu' hg;rw[hj]at hu';cases hu';rw[e2,fE]at hg;exact hg)
    exact⟨g',(Rel.mv N _).trans hrel,how⟩
   have hzz:∃z,i.zero=some z:=by
    unfold D5 at hz;rw[hu]at hz;simp only[hi]at hz;cases hq:i.zero with
    |none=>rw[hq]at hz;cases hz
    |some z=>exact⟨z,rfl⟩
   obtain⟨z0,hz0⟩:=hzz;have fin:∀(cells:Array Value),pW (λi'=>some (i'*i.size,i.size)) ((ry (len*i.size)).map (z0.cells[· % z0.cells.size]!)) (ps.map λ(i,x)=>(i,a.eval x)).toList=some cells ->
    (do pure (zV (some (<- newRow e cells)) len len):Sem Value).run P w2 = .ok v w'->∃g',Rel dp N g g'/\OW P F g' dp (.ref d ⟨0,T,mk d 0⟩::(Γ.filter (CY (Nb (He P Γ T len ps.toList)))).filter (Ff d)) (a.put (some d) v) w':=by
    intro cells hf hrun;obtain⟨p,w9,h9,k9⟩:=dM hrun;unfold newRow at h9;obtain⟨q,w10,h10,h11⟩:=dM h9;rw[run_newObj]at h10;cases h10;obtain⟨rfl,rfl⟩:=jb h11;obtain⟨rfl,rfl⟩:=jb k9;exact key z0 cells hz0 hf
   split at k2
   ·rename_i hl0;obtain⟨z,w7,h7,k7⟩:=dM k2;obtain⟨rfl,rfl⟩:=jb h7;split at k7
    ·rename_i cells hf;refine fin cells ?_ k7;rw[hl0]at hf⊢;simpa[Array.range_zero']using hf
    ·cases k7
   ·obtain⟨z,w7,h7,k7⟩:=dM k2;obtain⟨⟨i2,hi2,hzero⟩,rfl⟩:=Nl h7;rw[hi]at hi2;cases hi2;rw[hz0]at hzero;cases hzero;obtain⟨z',w8,h8,k8⟩:=dM k7;obtain⟨rfl,rfl⟩:=jb h8;split at k8
    ·rename_i cells hf;exact fin cells hf k8
    ·cases k8
 ·cases k1
end
end
section
def VP (P:Program)(Γ : List OF)(T o size:Nat)(x:Operand):Bool:=
 RI (Dq Γ 0 size x)&&(nP P T).all (λe=> !(decide (o<=e.1)&&decide (e.1<o+size))||aer (Dq Γ 0 size x) (e.1-o) e.2)&&decide (o+size<=vw P T)
def Xe (b o k:Nat):OF->Bool
 |.row b' r=>b'==b&&decide (o<=r.off)&&decide (r.off<o+k)
 |_=>false
def ZQ (Γ : List OF)(b o size:Nat)(x:Operand):List OF:=(rowOf 0 (Dq Γ o size x)).map (.row b)
section
variable {P:Program} {F:Ov} {g:Own} {dp:Nat} {Γ : List OF} {a:Act} {w w':World} {d N:Nat} {v:Value}
theorem RD {o:Oper}{t:TypeId}{p x:Operand}{r:Next}(ho:o.op = .store t p x)(hr:(execOp a.eval o).run P w = .ok r w'):∃i,P.info? t=some i/\(a.eval x).cells.size=i.size:=by
 simp only[execOp,ho]at hr;obtain⟨_,w1,h1,_⟩:=dM hr;unfold Go.Instr.storeAt at h1;obtain⟨q,w2,h2,h3⟩:=dM h1;obtain⟨_,rfl⟩:=PZ h2;unfold storeVar at h3;obtain⟨k,w3,h4,h5⟩:=dM h3;obtain⟨i,hi,rfl,rfl⟩:=Df h4
 dsimp only at h5
 split at h5
 ·obtain⟨_,_,h6,_⟩:=dM h5;cases h6
 ·rename_i hne;exact⟨i,hi,Decidable.not_not.1 hne⟩
theorem Fj {cs:Array Value}{off:Nat}{vs:Array Value}(hfit:off+vs.size<=cs.size)(j:Nat):(splice cs.toList off vs.toList).toArray[j]? = if j<off then cs[j]? else if j<off+vs.size then vs[j-off]? else cs[j]?:=by rw[kW,nU _ _ _ _ (by simpa using hfit)];simp
theorem ac1 (h:OW P F g dp Γ a w){o:Oper}{t:TypeId}{p:Nat}{x:Operand}{T off:Nat}{i:TypeInfo}(ho:o.op = .store t (.tmp p) x){r:Next}(hr:(execOp a.eval o).run P w = .ok r w')(he:Eff o a w w')(hi:P.info? t=some i)(hp : .ep p T off ∈ Γ)(hok:VP P Γ T off i.size x=true) :
 ∃g',Rel dp N g g'/\OW P F g' dp (Γ.filter (CY (Nb (Dq Γ 0 i.size x)))) a w':=by
 obtain⟨k,ad,cs,e,hpv,hw,hfit,rfl⟩:=he.store _ _ _ ho;obtain⟨i',hi',hsz⟩:=RD ho hr;rw[hi]at hi';cases hi';simp only[VP,ah,aN,aj]at hok;obtain⟨⟨ht,hcov⟩,hle⟩:=hok;obtain⟨k',o',hq,_,hB⟩:=h.fs _ hp;have e1:a.eval (.tmp p)=a.tmps.getD p undef:=rfl;rw[e1,hq]at hpv;cases hpv;have h2:=h.mv (SA k ad (Dq Γ 0 i.size x));rw[TY]at h2;refine⟨_,Rel.mv N _,h2.VK hw λB hB'=>?_⟩;cases B with
 | var row d b=>obtain⟨row0,h3,_⟩:=VG hB';obtain⟨⟨p0,e0⟩,_⟩:=hB _ h3;cases e0
 | arr T' p'=>
   obtain⟨q,h3,_,rfl⟩:=VF hB';obtain⟨⟨p0,e0⟩,hmod⟩:=hB _ h3;cases e0;refine⟨_,_,rfl,λj u T' hjb hj htt=>?_⟩;rw[Fj hfit]at hj;by_cases hj1:j<ad
   ·rw[aF hj1]at hj;obtain⟨cs',e',hw',hold⟩:=h2.good.arr _ _ _ hB';rw[hw]at hw';cases hw';exact hold j u T' hjb hj htt
   ·rw[ai hj1]at hj;by_cases hj2:j<ad+(a.eval x).cells.size
    ·rw[aF hj2]at hj;have hm:j%vw P T=off+(j-ad):=by
      have:j=ad+(j-ad):=(by omega);rw[this,uU,hmod,uU,FB,<- uU];rw[sS aI];omega
     rw[hm]at htt;have:=hcov _ htt;simp only[dP,jM,lN,aQ]at this;have hh:aer (Dq Γ 0 i.size x) (off+(j-ad)-off) T'=true:=by
      rcases this with(h5|h5)|h5
      ·omega
      ·omega
      ·exact h5
     simp only[aer,sO,ah,aH]at hh;obtain⟨en,hen,e4,e5⟩:=hh;obtain⟨u',hu',hg⟩:=(agb h (x:=x) (size:=i.size)).mv ht k ad hen;have e6:en.1=j-ad:=(by omega);rw[e6]at hu' hg;rw[hj]at hu';cases hu';rw[e5,show ad+(j-ad)=j by omega]at hg;exact hg
    ·rw[ai hj2]at hj;obtain⟨cs',e',hw',hold⟩:=h2.good.arr _ _ _ hB';rw[hw]at hw';cases hw';exact hold j u T' hjb hj htt
theorem ac2 (h:OW P F g dp Γ a w){o:Oper}{t:TypeId}{p:Nat}{x:Operand}{b off:Nat}{i:TypeInfo}(ho:o.op = .store t (.tmp p) x){r:Next}(hr:(execOp a.eval o).run P w = .ok r w')(he:Eff o a w w')(hi:P.info? t=some i)(hp : .vp p b off ∈ Γ) :
 ∃g',Rel dp N g g'/\OW P F g' dp (ZQ Γ b off i.size x ++ Γ.filter (λf=> !Xe b off i.size f)) a w':=by
 obtain⟨k,ad,cs,e,hpv,hw,hfit,rfl⟩:=he.store _ _ _ ho;obtain⟨i',hi',hsz⟩:=RD ho hr;rw[hi]at hi';cases hi';obtain⟨k',row,hb,hq,hg⟩:=h.fs _ hp;have e1:a.eval (.tmp p)=a.tmps.getD p undef:=rfl;rw[e1,hq]at hpv;cases hpv;have hnew:∀r,r∈rowOf 0 (Dq Γ off i.size x)->∃u,(splice cs.toList off (a.eval x).cells.toList).toArray[r.off]? = some u/\GR g u r.ty (.tag dp r.m):=by
  intro r hr;rw[rowOf,bf]at hr;obtain⟨en,hen,rfl⟩:=hr;unfold Dq at hen;split at hen
  ·rename_i s;rw[dQ]at hen;obtain⟨f,hf,hen⟩:=hen;split at hen
   ·split at hen
    ·rename_i y r hc;cases hen;obtain⟨rfl,hlt⟩:=hc;obtain⟨u,hu,hgr⟩:=h.fs _ hf;refine⟨u,?_,hgr⟩
     dsimp only
     have e2:a.eval (.tmp y)=a.tmps.getD y undef:=rfl;rw[Fj hfit,ai aI,aF aI,show off+r.off-off=r.off by omega,e2];exact hu
    ·cases hen
   ·cases hen
  ·cases hen
 have hrow:∀r,r∈rowOf 0 (Dq Γ off i.size x)++row.filter (λr=> !(decide (off<=r.off)&&decide (r.off<off+i.size)))->∃u,(splice cs.toList off (a.eval x).cells.toList).toArray[r.off]? = some u/\GR g u r.ty (.tag dp r.m):=by
  intro r hr;rw[aS]at hr;rcases hr with hr|hr
  ·exact hnew r hr
  ·rw[aU]at hr;obtain⟨h3,h4⟩:=hr;obtain⟨cs',e',hw',hold⟩:=h.good.var _ _ _ _ hg;rw[hw]at hw';cases hw';obtain⟨u,hu,hgr⟩:=hold r h3;refine⟨u,?_,hgr⟩;simp only[jM,lN,aQ]at h4;rw[Fj hfit];by_cases h5:r.off<off
   ·rw[aF h5];exact hu
   ·rw[ai h5,ai (by rcases h4 with h4|h4<;>omega)];exact hu
 have h3:=h.setVar (cs':=(splice cs.toList off (a.eval x).cells.toList).toArray) hw hg hrow (yN:= Γ.filter (λf=> !Xe b off i.size f)) (λf hf=>by
  rw[aU]at hf;refine⟨hf.1,λr hr=>?_⟩;subst hr;obtain⟨k2,Kr,e2,e3,e4⟩:=h.fs _ hf.1;rw[hb]at e2;cases e2;rw[hg]at e3;cases e3;rw[aS]
  right
  rw[aU];refine⟨e4,?_⟩;have:=hf.2;simpa[Xe]using this)
 refine⟨_,Rel.setVar hg,h3.good,λf hf=>?_⟩;rw[aS]at hf;rcases hf with hf|hf
 ·rw[ZQ,bf]at hf;obtain⟨r,hr,rfl⟩:=hf;exact⟨k,_,hb,aF rfl,dG _ hr⟩
 ·exact h3.fs f hf
end
end
section
section
variable {P:Program} {F:Ov} {g:Own} {dp:Nat} {Γ : List OF} {a:Act} {w w':World} {d N:Nat} {v:Value}
theorem Zk {k o:Nat}{cs:Array Value}{e:TypeId}{fr:Nat×Nat}(hw:w.heap[k]? = some (.cells cs e fr))(h:(load ⟨k,o,none⟩).run P w = .ok v w'):w'=w/\cs[o]? = some v:=by
 rw[run_load]at h;cases hc:w.cell? ⟨k,o,none⟩with
 | some u=>rw[hc]at h;cases h;refine⟨rfl,?_⟩;simpa[iy,hw]using hc
 | none=>rw[hc]at h;simp only[World.farLoad,hw]at h;cases h
theorem Jm {k o:Nat}{cs:Array Value}{e:TypeId}{fr:Nat×Nat} : ∀(n i:Nat) (acc:Array Value) (w:World) (r:Array Value) (w':World),w.heap[k]? = some (.cells cs e fr)->(loadCellsFrom ⟨k,o,none⟩ i n acc).run P w = .ok r w' ->
 w'=w/\r.size=acc.size+n/\(∀j,j<acc.size->r[j]? = acc[j]?)/\∀j,j<n->∃u,cs[o+i+j]? = some u/\r[acc.size+j]? = some u
 | 0,i,acc,w,r,w',hw,h=>by unfold loadCellsFrom at h;obtain⟨rfl,rfl⟩:=jb h;exact⟨rfl,rfl,λ_ _=>rfl,λj hj=>aY hj (Nat.not_lt_zero _)⟩
 | n+1,i,acc,w,r,w',hw,h=>by
   unfold loadCellsFrom at h;obtain⟨v,w1,h1,h2⟩:=dM h;rw[Addr.o9]at h1;obtain⟨rfl,hv⟩:=Zk hw h1;obtain⟨h3,h4,h5,h6⟩:=Jm n (i+1) (acc.push v) _ r w' hw h2;refine⟨h3,by rw[h4];simp;omega,λj hj=>?_,λj hj=>?_⟩
   ·rw[h5 j (by simp;omega),Array.getElem?_push,ai aI]
   ·cases j with
    | zero=>refine⟨v,hv,?_⟩;have:=h5 acc.size nV;simpa using this
    | succ j=>obtain⟨u,h7,h8⟩:=h6 j aI;simp only[Array.size_push]at h8;exact⟨u,by rw[show o+i+(j+1)=o+(i+1)+j by omega];exact h7,by rw[show acc.size+(j+1)=acc.size+1+j by omega];exact h8⟩
theorem Jd {size n m c:Nat}{k:Nat}{cs:Array Value}{e:TypeId}{fr:Nat×Nat}{r:Array Value}(hw:w.heap[k]? = some (.cells cs e fr))(h:(iQ size n (.slice (some ⟨k,0,none⟩) m c)).run P w = .ok r w') :
 w'=w/\r.size=n*size/\∀(j:Nat) (u:Value),r[j]? = some u->cs[j]? = some u:=by
 unfold iQ loadCells at h;obtain⟨h1,h2,_,h4⟩:=Jm _ _ _ _ _ _ hw h;simp only[jP,fB,fE]at h2 h4;refine⟨h1,h2,λj u hj=>?_⟩;have hlt:=(dm.1 hj).1;rw[h2]at hlt;obtain⟨u',h5,h6⟩:=h4 j hlt;rw[hj]at h6;cases h6;simpa using h5
theorem XU {k o:Nat}{cs:Array Value}{e:TypeId}{u:Unit}(hw:w.heap[k]? = some (.cells cs e (0,0)))(h:(store ⟨k,o,none⟩ v).run P w = .ok u w'):v.oneCell'=true/\o<cs.size:=by
 have hone:v.oneCell'=true:=by cases v<;>first|rfl|(exfalso;simp[store,Sem.run]at h;done)
 refine⟨hone,?_⟩;rw[run_store P w _ _ _ hone]at h;cases hc:w.cell? ⟨k,o,none⟩with
 | some u=>simp only[iy,hw]at hc;exact(dm.1 (by simpa using hc)).1
 | none=>rw[hc]at h;simp only[World.farStore,hw]at h;cases h
theorem JC {k o:Nat}{cs:Array Value}{e:TypeId}{vs:List Value}{u:Unit}(hw:w.heap[k]? = some (.cells cs e (0,0)))(h:(storeCells ⟨k,o,none⟩ vs).run P w = .ok u w')(hn:vs≠[]) :
 o+vs.length<=cs.size/\w'=w.setRow k (splice cs.toList o vs).toArray:=by
 have key:∀(vs:List Value) (i:Nat) (cs:Array Value) (w w':World),w.heap[k]? = some (.cells cs e (0,0))->(storeCells ⟨k,o,none⟩ vs i).run P w = .ok u w'->(∀v,v∈vs->v.oneCell'=true)/\(vs≠[]->o+i+vs.length<=cs.size):=by
  intro vs
  induction vs with
  |nil=>intro i cs w w' _ _;exact⟨λv hv=>(by cases hv),λh=>aY rfl h⟩
  | cons v r ih=>
    intro i cs w w' hw h;unfold storeCells at h;obtain⟨u1,w1,h1,h2⟩:=dM h;rw[Addr.o9]at h1;obtain⟨hone,hlt⟩:=XU hw h1;have hst:=run_storeCells_at P k o e [v] i cs w hw (by simp;omega) (by simpa using hone);unfold storeCells at hst;rw[cu,Addr.o9,h1]at hst;simp only[bu,storeCells,bM]at hst;cases hst;have hw1:=setRow_heap w k cs (cs.toList.take (o+i)++[v]++cs.toList.drop (o+i+1)).toArray e (0,0) hw;obtain⟨h3,h4⟩:=ih (i+1) _ _ w' hw1 h2;refine⟨λx hx=>(aO.1 hx).elim (λe=>e▸hone) (λhx=>h3 x hx),λ_=>?_⟩;by_cases hr:r=[]
    ·subst hr;simp;omega
    ·have:=h4 hr;simp only[jP,List.length_append,List.length_take,List.length_drop,dW,fB,kS]at this;simp only[dW];omega
 obtain⟨h1,h2⟩:=key vs 0 cs w w' hw h;have h3:=h2 hn;have hst:=run_storeCells_at P k o e vs 0 cs w hw h3 h1;rw[h]at hst;cases hst;exact⟨by simpa using h3,by rw[xm]⟩
end
end
section
def IX (dp ms md:Nat)(ks kx:Option Nat)(k off:Nat):wL->wL
 |.blk b j=>if some b=ks then .blk k j else if some b=kx then .blk k (off+j)else .blk b j
 |.tag d m=>if d=dp/\m=ms then .tag dp md else .tag d m
 |.dead=>.dead
def LD (dp:Nat)(ms:List Nat):wL->Bool
 |.tag d m=>decide (d=dp)&&ms.contains m
 |_=>false
section
variable {P:Program} {F:Ov} {g:Own} {dp:Nat} {Γ : List OF} {a:Act} {w w':World} {d N:Nat} {v:Value}
theorem OW.ap (h:OW P F g dp Γ a w){ms md:Nat}{dr:List Nat}{ks kx:Option Nat}{k off:Nat}(hs:∀b,ks=some b->∃T m,g b=some (.arr T (.tag dp m))/\m∈dr)(hx:∀b,kx=some b->∃T m,g b=some (.arr T (.tag dp m))/\m∈dr) :
 OW P F (g.re (LD dp dr) (IX dp ms md ks kx k off)) dp (Γ.filter (CY (ms::dr))) a w:=by
 refine⟨h.good.re λb T p hb hp j=>⟨rfl,?_⟩,λf hf=>?_⟩
 ·have no:∀c:Option Nat,(∀b,c=some b->∃T m,g b=some (.arr T (.tag dp m))/\m∈dr)->¬some b=c:=by
   intro c hc e;obtain⟨T',m,h1,h2⟩:=hc b e.symm;rw[hb]at h1;cases h1;simp[LD,h2]at hp
  simp only[IX];rw[ai (no ks hs),ai (no kx hx)]
 ·rw[aU]at hf;refine(h.fs f hf.1).re λm hm=>?_;have h1:=hf.2;simp only[CY,hm,jM,wZ,aO,aQ,not_or]at h1;refine⟨by simp[LD,h1.2],?_⟩;simp only[IX];rw[ai (λe=>h1.1 e.2)]
theorem Rel.ap {ms md:Nat}{dr:List Nat}{ks kx:Option Nat}{k off:Nat} : Rel dp N g (g.re (LD dp dr) (IX dp ms md ks kx k off)):=
 Rel.re λd m hd=>⟨by simp only[LD,lN,aQ];left;omega,by simp only[IX];rw[ai aI]⟩
def apX (P:Program)(Γ : List OF)(T:Nat)(x:Operand):Option (List Nat):=
 if(nP P T).isEmpty then some []else match x with
 |.tmp s=>(Γ.filterMap λf=>match f with|.ref y r=>if y=s/\r.off=0/\r.ty=T then some [r.m]else none|_=>none).head?
 |_=>none
theorem Yt (h:OW P F g dp Γ a w){T:Nat}{x:Operand}{ms:List Nat}(hx:apX P Γ T x=some ms):(nP P T=[]/\ms=[])\/∃m u,ms=[m]/\(a.eval x).cells[0]? = some u/\GR g u T (.tag dp m):=by
 unfold apX at hx;split at hx
 ·rename_i he;cases hx;exact .inl ⟨yL.1 he,rfl⟩
 ·split at hx
  ·rename_i s;have:=mg hx;rw[dQ]at this;obtain⟨f,hf,hm⟩:=this;split at hm
   ·split at hm
    ·rename_i y r hc;obtain⟨rfl,h0,rfl⟩:=hc;cases hm;obtain⟨u,hu,hg⟩:=h.fs _ hf;rw[h0]at hu;exact .inr ⟨r.m,u,rfl,hu,hg⟩
    ·cases hm
   ·cases hm
  ·cases hx
def apS (Γ : List OF)(T s:Nat):Option Nat:=(Γ.filterMap λf=>match f with|.ref y r=>if y=s/\r.off=0/\r.ty=T then some r.m else none|_=>none).head?
theorem adJ (h:OW P F g dp Γ a w){T s m:Nat}(hx:apS Γ T s=some m):∃u,(a.tmps.getD s undef).cells[0]? = some u/\GR g u T (.tag dp m):=by
 have:=mg hx;rw[dQ]at this;obtain⟨f,hf,hm⟩:=this;split at hm
 ·split at hm
  ·rename_i y r hc;obtain⟨rfl,h0,rfl⟩:=hc;cases hm;obtain⟨u,hu,hg⟩:=h.fs _ hf;rw[h0]at hu;exact⟨u,hu,hg⟩
  ·cases hm
 ·cases hm
theorem Ju {b:Option Addr}{n c:Nat}{u:Value}(h:(zV b n c).cells[0]? = some u):u = .slice b n c:=by simpa[lW]using h.symm
def air (P:Program)(Γ : List OF)(T s:Nat)(x:Operand):Option (Nat×List Nat):=match apS Γ T s,apX P Γ T x with
 |some m,some ms=>if ms.contains m || !D5 P T then none else some (m,ms)
 |_,_=>none
theorem Je {size n m c:Nat}{r:Array Value}(h:(iQ size n (.slice none m c)).run P w = .ok r w'):w'=w/\r = #[]:=by unfold iQ at h;obtain⟨rfl,rfl⟩:=jb h;exact⟨rfl,rfl⟩
theorem Ua (h:OW P F g dp Γ a w){T:Nat}{x:Operand}{ms:List Nat}(hx:apX P Γ T x=some ms){size n nx:Nat}{bx:Option Addr}{cx:Nat}(hxv:a.eval x = .slice bx nx cx){new:Array Value}(hn:(iQ size n (a.eval x)).run P w = .ok new w')(hsz:size=vw P T)(hnx:n<=nx) :
 ∃kx:Option Nat,(∀b,kx=some b->∃T m,g b=some (.arr T (.tag dp m))/\m∈ms)/\(∀j u T',new[j]? = some u->(j%vw P T,T')∈nP P T->∃b,kx=some b/\GR g u T' (.blk b j))/\(nP P T=[]\/new.size=n*size):=by
 rcases Yt h hx with⟨he,rfl⟩|⟨m,u,rfl,hu,hg⟩
 ·exact⟨none,λb hb=>(by cases hb),λj u T' _ ht=>(by rw[he]at ht;cases ht),.inl he⟩
 ·rw[hxv]at hu hn;have:=Ju hu;subst this;rcases hg with e|⟨k,n',c',e,hk⟩
  ·cases e;obtain⟨_,rfl⟩:=Je hn;exact⟨none,λb hb=>(by cases hb),λj u T' hj _=>(by simp at hj),.inr (by rw[Nat.le_zero.1 hnx];simp)⟩
  ·cases e;obtain⟨cs,e,hw,hc⟩:=h.good.arr _ _ _ hk.1;obtain⟨h1,h2,h3⟩:=Jd hw hn;exact⟨some k,λb hb=>(by cases hb;exact⟨T,m,hk.1,aG ..⟩),λj u T' hj ht=>⟨k,rfl,hc j u T' (by have hlt:=(dm.1 hj).1;rw[h2,hsz]at hlt;exact jH hlt (aW _ (dR hnx hk.2))) (h3 j u hj) ht⟩,.inr h2⟩
end
end
section
section
variable {P:Program} {F:Ov} {g:Own} {dp:Nat} {Γ : List OF} {a:Act} {w w':World} {d N:Nat} {v:Value}
theorem EH {size n:Nat}{x:Value}{r:Array Value}(h:(iQ size n x).run P w = .ok r w'):w'=w:=by
 unfold iQ at h;split at h
 ·unfold loadCells at h;exact(Hw _ _ _ _ _ _ h).1
 ·exact(jb h).2
 ·exact(jb h).2
 ·cases h
theorem OW.drew (h:OW P F g dp Γ a w):OW P F g dp Γ a w.drew:=h.world (ak _) λ_ _=>rfl
def Own.grow (g:Own)(k n:Nat):Own:=⟨g.b,λk'=>if k'=k then n else g.bd k'⟩
theorem GR.grow {u:Value}{T:Nat}{p:wL}{k n:Nat}(h:GR g u T p)(hn:g.bd k<=n):GR (g.grow k n) u T p:=by
 rcases h with h|⟨k',m,c,h1,h2,h3⟩
 ·exact .inl h
 ·refine .inr ⟨k',m,c,h1,h2,?_⟩;show m<=if k'=k then n else g.bd k'
  split
  ·rename_i e;subst e;exact dR h3 hn
  ·exact h3
theorem OW.grow (h:OW P F g dp Γ a w){k n T:Nat}{p:wL}{cs:Array Value}{e:TypeId}(hw:w.heap[k]? = some (.cells cs e (0,0)))(hk:g k=some (.arr T p))(hn:g.bd k<=n)
 (hc:∀j u T',j<n*vw P T->cs[j]? = some u->(j%vw P T,T')∈nP P T->GR g u T' (.blk k j)):OW P F (g.grow k n) dp Γ a w:=by
 refine⟨⟨λk' T' p' hk'=>?_,λk' row d b hk'=>?_⟩,λf hf=>?_⟩
 ·by_cases e1:k'=k
  ·subst e1;have e2:g k'=some (.arr T' p'):=hk';rw[hk]at e2;cases e2;exact⟨cs,e,hw,λj u T' hb hu ht=>(hc j u T' (by simpa[Own.grow]using hb) hu ht).grow hn⟩
  ·obtain⟨cs',e',hw',h2⟩:=h.good.arr k' T' p' hk';exact⟨cs',e',hw',λj u T' hb hu ht=>(h2 j u T' (by simpa[Own.grow,e1]using hb) hu ht).grow hn⟩
 ·obtain⟨cs',e',hw',h2⟩:=h.good.var k' row d b hk';exact⟨cs',e',hw',λr hr=>let ⟨u,hu,hg⟩:=h2 r hr;⟨u,hu,hg.grow hn⟩⟩
 ·have h0:=h.fs f hf;cases f with
  |ref t r=>obtain⟨u,h1,h2⟩:=h0;exact⟨u,h1,h2.grow hn⟩
  |Bg t i r=>obtain⟨vs,x,u,h1,h2,h3,h4⟩:=h0;exact⟨vs,x,u,h1,h2,h3,h4.grow hn⟩
  |_=>exact h0
theorem Rel.grow {k n T m:Nat}(hk:g k=some (.arr T (.tag dp m))):Rel dp N g (g.grow k n):=
 ⟨λk' T' d m' hd hk'=>⟨hk',by show(if k'=k then n else g.bd k')=g.bd k';rw[ai];rintro rfl;rw[hk]at hk';cases hk';omega⟩,λ_ _ _ _ _ h=>h,(Rel.refl dp N g).old⟩
theorem agG (h:OW P F g dp Γ a w)(hd:d<a.tmps.size){T m:Nat}{ms:List Nat}(hm:m ∉ ms){s:Nat}{sLen sCap need:Nat}{base:Option Addr}(hsv:a.tmps.getD s undef = .slice base sLen sCap)(hs:GR g (.slice base sLen sCap) T (.tag dp m))
 {kx:Option Nat} {new:Array Value} (h1:∀b,kx=some b->∃T m,g b=some (.arr T (.tag dp m))/\m∈ms) (h2:∀j u T',new[j]? = some u->(j%vw P T,T')∈nP P T->∃b,kx=some b/\GR g u T' (.blk b j)) (hnd:nP P T=[]\/new.size=(need-sLen)*vw P T) (hnl:sLen<=need) (hnc:base=none->need=0/\sCap=0)
 (hst:(match base with|some a=>storeCells (a.add (sLen*vw P T)) new.toList|none=>pure ()).run P w = .ok () w') :
 ∃g',Rel dp N g g'/\OW P F g' dp (.ref d ⟨0,T,mk d 0⟩::(Γ.filter (CY (m::ms))).filter (Ff d)) (a.put (some d) (.slice base need sCap)) w':=by
 rcases hs with e|⟨k,n',c',e,hk,hkb⟩
 ·cases e;obtain⟨rfl,_⟩:=hnc rfl;obtain⟨_,rfl⟩:=jb hst;have h3:=(h.ap (ms:=m) (md:=mk d 0) (dr:=ms) (ks:=none) (kx:=kx) (k:=0) (off:=0) (λb hb=>by cases hb) h1).drop d (.slice none 0 0);exact⟨_,Rel.ap,h3.add ⟨.slice none 0 0,by rw[ig hd];rfl,.inl rfl⟩⟩
 ·cases e
  dsimp only at hst
  rw[Addr.o9,fE]at hst;have h3:=h.ap (ms:=m) (md:=mk d 0) (dr:=ms) (ks:=none) (kx:=kx) (k:=k) (off:=sLen*vw P T) (λb hb=>by cases hb) h1;have hk':(g.re (LD dp ms) (IX dp m (mk d 0) none kx k (sLen*vw P T))) k=some (.arr T (.tag dp (mk d 0))):=by simp[Own.re,hk,LD,hm,IX]
  obtain⟨cs,e,hw,hc⟩:=h.good.arr _ _ _ hk;have hlim:∀j T',j<max (g.bd k) need*vw P T->(j%vw P T,T')∈nP P T->sLen*vw P T+new.size<=j->j<g.bd k*vw P T:=by
   intro j T' hj ht hge;rcases hnd with hnd|hnd
   ·rw[hnd]at ht;cases ht
   ·by_cases hm:need<=g.bd k
    ·rwa[Nat.max_eq_left hm]at hj
    ·rw[Nat.max_eq_right aI,show need=sLen+(need-sLen) by omega,dK]at hj;omega
  have aaG:∀j u T',j<g.bd k*vw P T->cs[j]? = some u->(j%vw P T,T')∈nP P T->GR (g.re (LD dp ms) (IX dp m (mk d 0) none kx k (sLen*vw P T))) u T' (.blk k j):=by obtain⟨cs',e',hw',hold⟩:=h3.good.arr _ _ _ hk';rw[hw]at hw';cases hw';exact hold
  have fin:∀{w'':World} {cs2:Array Value},OW P F (g.re (LD dp ms) (IX dp m (mk d 0) none kx k (sLen*vw P T))) dp (Γ.filter (CY (m::ms))) a w''->w''.heap[k]? = some (.cells cs2 e (0,0)) ->
   (∀j u T',j<max (g.bd k) need*vw P T->cs2[j]? = some u->(j%vw P T,T')∈nP P T->GR (g.re (LD dp ms) (IX dp m (mk d 0) none kx k (sLen*vw P T))) u T' (.blk k j)) ->
   ∃g',Rel dp N g g'/\OW P F g' dp (.ref d ⟨0,T,mk d 0⟩::(Γ.filter (CY (m::ms))).filter (Ff d)) (a.put (some d) (.slice (some ⟨k,0,none⟩) need sCap)) w'':=λh4 hw4 hc4=>
   ⟨_,Rel.ap.trans (Rel.grow hk'),((h4.grow hw4 hk' (Nat.le_max_left _ _) hc4).drop d _).add ⟨.slice (some ⟨k,0,none⟩) need sCap,by rw[ig hd];rfl,.inr ⟨k,_,_,rfl,hk',by
    show need<=if k=k then max (g.bd k) need else _
    rw[aF rfl];exact Nat.le_max_right _ _⟩⟩⟩
  by_cases hne:new.toList=[]
  ·rw[hne]at hst;unfold storeCells at hst;obtain⟨_,rfl⟩:=jb hst;exact fin h3 hw λj u T' hj hu ht=>(by
    have hn0:new.size=0:=(by rw[<- kS,hne];rfl);by_cases hjs:j<sLen*vw P T
    ·exact aaG j u T' (jH hjs (aW _ hkb)) hu ht
    ·exact aaG j u T' (hlim j T' hj ht aI) hu ht)
  ·obtain⟨hfit,rfl⟩:=JC hw hst hne;have key:∀j u T',j<max (g.bd k) need*vw P T->(splice cs.toList (sLen*vw P T) new.toList).toArray[j]? = some u->(j%vw P T,T')∈nP P T->GR (g.re (LD dp ms) (IX dp m (mk d 0) none kx k (sLen*vw P T))) u T' (.blk k j):=?_
   ·refine fin (h3.VK hw λB hB=>?_) (setRow_heap w k cs _ e (0,0) hw) key;rw[hk']at hB;cases hB;exact⟨_,_,rfl,λj u T' hb=>key j u T' (jH hb (aW _ (Nat.le_max_left _ _)))⟩
   intro j u T' hjm hj ht;rw[Fj (by simpa using hfit)]at hj;by_cases hj1:j<sLen*vw P T
   ·rw[aF hj1]at hj;exact aaG j u T' (jH hj1 (aW _ hkb)) hj ht
   ·rw[ai hj1]at hj;by_cases hj2:j<sLen*vw P T+new.size
    ·rw[aF hj2]at hj;have hmod:(j-sLen*vw P T)%vw P T=j%vw P T:=by
      conv=>rhs;rw[show j=(j-sLen*vw P T)+sLen*vw P T by omega]
      rw[tq]
     rw[<- hmod]at ht;obtain⟨b,rfl,hgr⟩:=h2 _ u T' hj ht;have:=hgr.re (dr:=LD dp ms) rfl (IX dp m (mk d 0) none (some b) k (sLen*vw P T));simp only[IX,reduceCtorEq,if_false,kN]at this;rw[show sLen*vw P T+(j-sLen*vw P T)=j by omega]at this;exact this
    ·rw[ai hj2]at hj;exact aaG j u T' (hlim j T' hjm ht aI) hj ht
theorem agF (h:OW P F g dp Γ a w)(hd:d<a.tmps.size)(hN:N<=w.heap.size){T e m need newCap:Nat}{ms:List Nat}(hm:m ∉ ms){sLen sCap:Nat}{base:Option Addr}(hs:GR g (.slice base sLen sCap) T (.tag dp m))
 {kx:Option Nat} {old new rest:Array Value} (h1:∀b,kx=some b->∃T m,g b=some (.arr T (.tag dp m))/\m∈ms) (h2:∀j u T',new[j]? = some u->(j%vw P T,T')∈nP P T->∃b,kx=some b/\GR g u T' (.blk b j))
 (hold:(iQ (vw P T) sLen (.slice base sLen sCap)).run P w = .ok old w')
 (hrest:∀j u T',rest[j]? = some u->(j%vw P T,T')∈nP P T->Zt u) (aex:nP P T=[]\/new.size=(need-sLen)*vw P T) :
 ∃g',Rel dp N g g'/\OW P F g' dp (.ref d ⟨0,T,mk d 0⟩::(Γ.filter (CY (m::m::ms))).filter (Ff d)) (a.put (some d) (.slice (some ⟨w.heap.size,0,none⟩) need newCap)) (w.alloc (.cells (old++new++rest) e)):=by
 have hks:∃ks:Option Nat,(∀b,ks=some b->∃T m',g b=some (.arr T (.tag dp m'))/\m'∈m::ms)/\(∀j u T',old[j]? = some u->(j%vw P T,T')∈nP P T->∃b,ks=some b/\GR g u T' (.blk b j))/\old.size%vw P T=0/\(∀b,ks=some b->kx≠some b):=by
  rcases hs with e|⟨k,n',c',e,hk,hkb⟩
  ·cases e;obtain⟨_,rfl⟩:=Je hold;exact⟨none,λb hb=>(by cases hb),λj u T' hj _=>(by simp at hj),nV,λb hb=>(by cases hb)⟩
  ·cases e;obtain⟨cs,e,hw,hc⟩:=h.good.arr _ _ _ hk;obtain⟨_,hsz,hget⟩:=Jd hw hold;refine⟨some k,λb hb=>(by cases hb;exact⟨T,m,hk,aG ..⟩),λj u T' hj ht=>⟨k,rfl,hc j u T' (by
    have hlt:=(dm.1 hj).1;rw[hsz]at hlt;exact jH hlt (aW _ hkb)) (hget j u hj) ht⟩,by rw[hsz];simp,λb hb e=>?_⟩
   cases hb;obtain⟨T',m',h3,h4⟩:=h1 _ e;rw[hk]at h3;cases h3;exact hm h4
 obtain⟨ks,k1,k2,k3,k4⟩:=hks;have h3:=h.ap (ms:=m) (md:=mk d 0) (dr:=m::ms) (ks:=ks) (kx:=kx) (k:=w.heap.size) (off:=old.size) k1 (λb hb=>let ⟨T,m',e1,e2⟩:=h1 b hb;⟨T,m',e1,bF _ e2⟩);obtain⟨g',hrel,how⟩:=h3.agH (d:=d) (N:=N) (cs:=old++new++rest) (e:=e) (T:=T) (n:=need) (c:=newCap) (m:=mk d 0) hd hN (λj u T' hj ht=>by
  rw[Array.getElem?_append]at hj;split at hj
  ·rename_i hlt;rw[Array.getElem?_append]at hj;split at hj
   ·obtain⟨b,rfl,hgr⟩:=k2 j u T' hj ht;have:=hgr.re (dr:=LD dp (m::ms)) rfl (IX dp m (mk d 0) (some b) kx w.heap.size old.size);simp only[IX,kN]at this;exact this
   ·rename_i hge;have hmod:(j-old.size)%vw P T=j%vw P T:=by
     have e1:j=(j-old.size)+old.size:=by omega
     conv=>rhs;rw[e1]
     rw[uU,k3,oG,FB]
    rw[<- hmod]at ht;obtain⟨b,rfl,hgr⟩:=h2 _ u T' hj ht;have:=hgr.re (dr:=LD dp (m::ms)) rfl (IX dp m (mk d 0) ks (some b) w.heap.size old.size);simp only[IX,kN]at this;rw[ai (λe=>k4 b e.symm rfl),show old.size+(j-old.size)=j by omega]at this;exact this
  ·rename_i hge;rcases aex with aex|aex
   ·rw[aex]at ht;cases ht
   refine .inl (hrest _ u T' hj ?_);have e1:j=(j-(old++new).size)+(old++new).size:=(by omega);have hmod:(j-(old++new).size)%vw P T=j%vw P T:=by
    conv=>rhs;rw[e1]
    rw[uU,show(old++new).size%vw P T=0 by rw[Array.size_append,uU,k3,aex];simp,oG,FB]
   rw[hmod];exact ht)
 exact⟨g',Rel.ap.trans hrel,how⟩
theorem YP {q:Question}{n:Nat}(h:(choose q).run P w = .ok n w'):w'=w\/w'=w.drew:=by
 unfold choose at h;simp only[Sem.run]at h;split at h
 ·cases h;exact .inl rfl
 ·cases h;exact .inr rfl
theorem Yu (h:OW P F g dp Γ a w)(hd:d<a.tmps.size)(hN:N<=w.heap.size){o:Oper}{s T t2:Nat}{x:Operand}{e2 m:Nat}{ms:List Nat}(ho:o.op = .call { callee:=.builtin .append,args:=⟨[.tmp s,x]⟩,argTypes:=⟨[T,t2]⟩ })(ht2:P.underlying t2=some (.slice e2))(hok:air P Γ T s x=some (m,ms))
 (hr:(execOp a.eval o).run P w = .ok (.value v) w'):∃g',Rel dp N g g'/\OW P F g' dp (.ref d ⟨0,T,mk d 0⟩::(Γ.filter (CY (m::m::ms))).filter (Ff d)) (a.put (some d) v) w':=by
 unfold air at hok;split at hok
 ·rename_i m0 ms0 hs hx;split at hok
  ·cases hok
  ·rename_i hcond;cases hok;simp only[dP,wZ,aj,jM,not_or,Bool.not_eq_false]at hcond;obtain⟨hm,hz⟩:=hcond;have hA:(iK #[T,t2] o.type #[a.tmps.getD s undef,a.eval x]).run P w = .ok v w':=by
    simp only[execOp,ho,resolve,invoke,builtin,cu,bM,bu,kP,bJ,jY]at hr;have e1:a.eval (.tmp s)=a.tmps.getD s undef:=rfl;rw[e1]at hr;cases hq:(iK #[T,t2] o.type #[a.tmps.getD s undef,a.eval x]).run P w with
    |ok v1 w1=>rw[hq]at hr;cases hr;rfl
    |halt e w1=>rw[hq]at hr;cases hr
   clear hr;obtain⟨u,hu,hgs⟩:=adJ h hs;simp only[iK,kW,gY,gX]at hA;obtain⟨de,w1,h1,k1⟩:=dM hA;obtain⟨hut,rfl⟩:=zJ h1;clear hA;split at k1
   ·rename_i elem;split at k1
    ·rename_i base sLen sCap hsv;obtain⟨size,w2,h2,k2⟩:=dM k1;obtain⟨i,hi,rfl,rfl⟩:=Df h2;clear k1;have hes:=YY hut hi;obtain⟨de2,w3,h3,k3⟩:=dM k2;obtain⟨hu2,rfl⟩:=zJ h3;rw[ht2]at hu2;cases hu2;clear k2;obtain⟨zeros,w4,h4,k4⟩:=dM k3;obtain⟨rfl,rfl⟩:=jb h4;clear k3;simp only[Bool.false_eq_true,if_false,Bool.not_false,kN]at k4;obtain⟨n,w5,h5,k5⟩:=dM k4;clear k4;rw[hsv]at hu;have hus:=Ju hu;subst hus;have hlx:w5=w4/\((∃bx cx,a.eval x = .slice bx n cx)\/∃st,a.eval x = .string st):=by
      unfold og at h5;split at h5
      ·rename_i b n' c heq;obtain⟨rfl,rfl⟩:=jb h5;exact⟨rfl,.inl ⟨_,_,heq⟩⟩
      ·rename_i st heq;obtain⟨rfl,rfl⟩:=jb h5;exact⟨rfl,.inr ⟨_,heq⟩⟩
      ·cases h5
     obtain⟨rfl,hxs⟩:=hlx;have hnc:∀{new:Array Value} {wn:World},(iQ i.size n (a.eval x)).run P w5 = .ok new wn->∃kx:Option Nat,(∀b,kx=some b->∃T m,g b=some (.arr T (.tag dp m))/\m∈ms)/\(∀(j:Nat) (u:Value) (T':Nat),new[j]? = some u->(j%vw P T,T')∈nP P T->∃b,kx=some b/\GR g u T' (.blk b j))/\(nP P T=[]\/new.size=n*i.size):=by
      intro new wn hn;rcases hxs with⟨bx,cx,hxv⟩|⟨st,hxv⟩
      ·exact Ua h hx hxv hn hes.symm (ak _)
      ·rcases Yt h hx with⟨he,rfl⟩|⟨m2,u2,rfl,hu2,hg2⟩
       ·exact⟨none,λb hb=>(by cases hb),λj u T' _ ht=>(by rw[he]at ht;cases ht),.inl he⟩
       ·rw[hxv]at hu2;simp only[lW]at hu2;have:u2 = .string st:=(by simpa using hu2.symm);subst this;rcases hg2 with e|⟨_,_,_,e,_⟩<;>cases e
     split at k5
     ·rename_i hcap;obtain⟨new,w6,h6,k6⟩:=dM k5;have e6:=EH h6;subst e6;obtain⟨kx,c1,c2,c3⟩:=hnc h6;have hroom:=agG (N:=N) h hd (need:=sLen+n) hm hsv hgs c1 c2 (w':=w') (by rw[Nat.add_sub_cancel_left,hes];exact c3) aI (λhb=>by
       subst hb;rcases hgs with e|⟨_,_,_,e,_⟩
       ·cases e;exact⟨aI,rfl⟩
       ·cases e)
      cases base with
      | none=>
        dsimp only at k6
        obtain⟨rfl,rfl⟩:=jb k6;obtain⟨g',r1,r2⟩:=hroom (by dsimp only;rfl);refine⟨g',r1,r2.weak λf hf=>?_⟩;simp only[aO,aU]at hf⊢;rcases hf with hf|⟨⟨h7,h8⟩,h9⟩
        ·exact .inl hf
        ·refine .inr ⟨⟨h7,?_⟩,h9⟩;unfold CY at h8⊢;split<;>simp_all
      | some ad=>
        dsimp only at k6
        obtain⟨u0,w7,h7,k7⟩:=dM k6;obtain⟨rfl,rfl⟩:=jb k7;rw[<- hes]at h7;obtain⟨g',r1,r2⟩:=hroom (by cases u0;exact h7);refine⟨g',r1,r2.weak λf hf=>?_⟩;simp only[aO,aU]at hf⊢;rcases hf with hf|⟨⟨h7,h8⟩,h9⟩
        ·exact .inl hf
        ·refine .inr ⟨⟨h7,?_⟩,h9⟩;unfold CY at h8⊢;split<;>simp_all
     ·obtain⟨i1,w6,h6,k6⟩:=dM k5;obtain⟨_,rfl⟩:=Gy h6;clear k5;split at k6
      ·obtain⟨_,_,h7,_⟩:=dM k6;exact(Jp h7).elim
      ·obtain⟨i2,w7,h7,k7⟩:=dM k6;obtain⟨_,rfl⟩:=Gy h7;clear k6;split at k7
       ·obtain⟨_,_,h8,_⟩:=dM k7;obtain⟨_,_,_,h9⟩:=dM h8;split at h9
        ·obtain⟨_,_,_,h10⟩:=dM h9;cases h10
        ·cases h9
       ·obtain⟨newCap,w8,h8,k8⟩:=dM k7;have how:OW P F g dp Γ a w8/\w8.heap=w7.heap:=by
         rcases YP h8 with rfl|rfl
         ·exact⟨h,rfl⟩
         ·exact⟨h.drew,rfl⟩
        obtain⟨h',hheap⟩:=how;obtain⟨i3,w9,h9,k9⟩:=dM k8;obtain⟨_,rfl⟩:=Gy h9;obtain⟨_,w10,h10,k10⟩:=dM k9;have:=aak h10;subst this;obtain⟨old,w11,h11,k11⟩:=dM k10;have:=EH h11;subst this;obtain⟨new,w12,h12,k12⟩:=dM k11;have:=EH h12;subst this;obtain⟨z,w13,h13,k13⟩:=dM k12;obtain⟨⟨i4,hi4,hzero⟩,rfl⟩:=Nl h13;rw[hi]at hi4;cases hi4;obtain⟨p,w14,h14,k14⟩:=dM k13;unfold newRow at h14;obtain⟨q,w15,h15,h16⟩:=dM h14;rw[run_newObj]at h15;cases h15;obtain⟨rfl,rfl⟩:=jb h16;obtain⟨rfl,rfl⟩:=jb k14;have hnc':∃kx:Option Nat,(∀b,kx=some b->∃T m,g b=some (.arr T (.tag dp m))/\m∈ms)/\(∀(j:Nat) (u:Value) (T':Nat),new[j]? = some u->(j%vw P T,T')∈nP P T->∃b,kx=some b/\GR g u T' (.blk b j))/\(nP P T=[]\/new.size=n*i.size):=by
         rcases hxs with⟨bx,cx,hxv⟩|⟨st,hxv⟩
         ·exact Ua h' hx hxv h12 hes.symm (ak _)
         ·rcases Yt h' hx with⟨he,rfl⟩|⟨m2,u2,rfl,hu2,hg2⟩
          ·exact⟨none,λb hb=>(by cases hb),λj u T' _ ht=>(by rw[he]at ht;cases ht),.inl he⟩
          ·rw[hxv]at hu2;simp only[lW]at hu2;have:u2 = .string st:=(by simpa using hu2.symm);subst this;rcases hg2 with e|⟨_,_,_,e,_⟩<;>cases e
        obtain⟨kx,c1,c2,c3⟩:=hnc';rw[hsv,<- hes]at h11;rw[<- hes]at c3;exact agF h' hd (by rw[hheap];exact hN) hm hgs c1 c2 h11 (λj u T' hj ht=>F9 hz hut hi hzero (λj u hj=>by simp only[Go.Builtin.zeroCells]at hj;rw[nG]at hj;simp only[bY]at hj;obtain⟨j',hj',rfl⟩:=hj;have:=dm.1 hj';simp at this;rw[this.2]) j u T' hj ht) (by rw[Nat.add_sub_cancel_left];exact c3)
    ·cases k1
   ·cases k1
 ·cases hok
end
end
section
section
variable {P:Program} {F:Ov} {g:Own} {dp:Nat} {Γ : List OF} {a:Act} {w w':World} {d N:Nat} {v:Value}
theorem ad3 (h:OW P F g dp Γ a w){o:Oper}{s T t2:Nat}{x:Operand}{m:Nat}(ho:o.op = .call { callee:=.builtin .copy,args:=⟨[.tmp s,x]⟩,argTypes:=⟨[T,t2]⟩ })(hs:apS Γ T s=some m)(he:nP P T=[])
 (hr:(execOp a.eval o).run P w = .ok (.value v) w'):OW P F g dp Γ a w':=by
 have hA:(lF #[T,t2] o.type #[a.tmps.getD s undef,a.eval x]).run P w = .ok v w':=by
  simp only[execOp,ho,resolve,invoke,builtin,cu,bM,bu,kP,bJ,jY]at hr;have e1:a.eval (.tmp s)=a.tmps.getD s undef:=rfl;rw[e1]at hr;cases hq:(lF #[T,t2] o.type #[a.tmps.getD s undef,a.eval x]).run P w with
  |ok v1 w1=>rw[hq]at hr;cases hr;rfl
  |halt e w1=>rw[hq]at hr;cases hr
 clear hr;obtain⟨u,hu,hgs⟩:=adJ h hs;simp only[lF,kW,gY,gX]at hA;obtain⟨de,w1,h1,k1⟩:=dM hA;obtain⟨hut,rfl⟩:=zJ h1;clear hA;split at k1
 ·rename_i elem;split at k1
  ·rename_i base dLen dCap hsv;rw[hsv]at hu;have hus:=Ju hu;subst hus;obtain⟨n,w2,h2,k2⟩:=dM k1;have:w2=w1:=by
    unfold og at h2;split at h2
    ·exact(jb h2).2
    ·exact(jb h2).2
    ·cases h2
   subst this;obtain⟨sz,w3,h3,k3⟩:=dM k2;obtain⟨i,hi,rfl,rfl⟩:=Df h3;obtain⟨cells,w4,h4,k4⟩:=dM k3;have:=EH h4;subst this;clear k1 k2 k3;rcases hgs with e|⟨k,n',c',e,hk,_⟩
   ·cases e
    dsimp only at k4
    obtain⟨_,rfl⟩:=jb k4;exact h
   ·cases e
    dsimp only at k4
    obtain⟨u0,w5,h5,k5⟩:=dM k4;obtain⟨_,rfl⟩:=jb k5;obtain⟨cs,e,hw,hc⟩:=h.good.arr _ _ _ hk;by_cases hne:cells.toList=[]
    ·rw[hne]at h5;unfold storeCells at h5;obtain⟨_,rfl⟩:=jb h5;exact h
    ·obtain⟨_,rfl⟩:=JC hw h5 hne;refine h.VK hw λB hB=>?_;rw[hk]at hB;cases hB;exact⟨_,_,rfl,λj u T' _ _ ht=>by rw[he]at ht;cases ht⟩
  ·cases k1
 ·cases k1
end
structure OR where
 kill:List Nat
 rm:Option (Nat×Nat×Nat)
 new:List OF
def aaH (d:Option Nat)(R:OR)(f:OF):Bool:=CY R.kill f&&(match R.rm with|some (b,o,k)=> !Xe b o k f|none=>true)&&(match d with|some d=>Ff d f|none=>true)
def aaX (Γ : List OF)(d:Option Nat)(R:OR):List OF:=R.new ++ Γ.filter (aaH d R)
def ZV (p:Nat):OF->Option (Nat×Nat)
 |.vp x b o=>if x=p then some (b,o)else none
 |_=>none
def akf (p:Nat):OF->Option (Nat×Nat)
 |.ep x T o=>if x=p then some (T,o)else none
 |_=>none
def akT (P:Program)(Γ : List OF)(t p:Nat)(x:Operand):Option OR:=match P.info? t with
 | some i=>(match(Γ.filterMap (ZV p)).head? with
   |some (b,o)=>some ⟨[],some (b,o,i.size),ZQ Γ b o i.size x⟩
   | none=>(match(Γ.filterMap (akf p)).head? with
     |some (T,o)=>if VP P Γ T o i.size x then some ⟨Nb (Dq Γ 0 i.size x),none,[]⟩else none
     |none=>none))
 |none=>none
def akR (P:Program)(Γ : List OF)(d T s t2:Nat)(x:Operand):Option OR:=match P.underlying t2,air P Γ T s x with
 |some (.slice _),some (m,ms)=>some ⟨m::m::ms,none,[.ref d ⟨0,T,mk d 0⟩]⟩
 |_,_=>none
def akS (P:Program)(Γ : List OF)(T s:Nat):Option OR:=match apS Γ T s with
 |some _=>if(nP P T).isEmpty then some ⟨[],none,[]⟩else none
 |none=>none
def afl (P:Program)(Γ : List OF)(d:Option Nat)(op:Op):Option OR:=match op,d with
 |.store t (.tmp p) x,none=>akT P Γ t p x
 |.alloc t,some d=>some ⟨[],none,VU d (rowOf d (PD P t))⟩
 |.box _ x,some d=>some ⟨[],none,VU d (rowOf d (Dq Γ 0 1000 x))⟩
 |.build t ps,some d=>some ⟨[],none,(rowOf d (UJ P Γ t ps.toList)).map (.ref d)⟩
 |.makeSlice T _ _,some d=>if D5 P T then some ⟨[],none,[.ref d ⟨0,T,mk d 0⟩]⟩else none
 |.buildSlice T len ps,some d=>if P7 P Γ T len ps.toList then some ⟨Nb (He P Γ T len ps.toList),none,[.ref d ⟨0,T,mk d 0⟩]⟩else none
 |.call { callee:=.builtin .append,args:=⟨[.tmp s,x]⟩,argTypes:=⟨[T,t2]⟩ },some d=>akR P Γ d T s t2 x
 |.call { callee:=.builtin .copy,args:=⟨[.tmp s,_]⟩,argTypes:=⟨[T,_]⟩ },_=>akS P Γ T s
 |op,some d=>if Ak op then some ⟨[],none,oq P Γ d op⟩else none
 |_,none=>none
section
variable {P:Program} {F:Ov} {g:Own} {dp:Nat} {Γ : List OF} {a:Act} {w w':World} {N:Nat} {v:Value}
theorem zH {d:Option Nat}{R:OR}{f:OF} : f∈aaX Γ d R<->f∈R.new\/f ∈ Γ /\ aaH d R f=true:=by simp[aaX,aU]
theorem XC (h:OW P F g dp Γ a w)(hN:N<=w.heap.size){o:Oper}{R:OR}(hd:∀d,o.dst=some d->d<a.tmps.size)(hs:afl P Γ o.dst o.op=some R)
 (hr:(execOp a.eval o).run P w = .ok (.value v) w'\/(execOp a.eval o).run P w = .ok .skip w'/\o.dst=none) (he:Eff o a w w') :
 ∃g',Rel dp N g g'/\OW P F g' dp (aaX Γ o.dst R) (a.put o.dst v) w':=by
 have kp:∀{d:Option Nat} {R:OR} {f:OF},aaH d R f=true->CY R.kill f=true/\(∀b o k,R.rm=some (b,o,k)->Xe b o k f=false)/\(∀d',d=some d'->Ff d' f=true):=by
  intro d R f hk;simp only[aaH,ah]at hk;refine⟨hk.1.1,λb o k e=>?_,λd' e=>?_⟩
  ·have:=hk.1.2;rw[e]at this;simpa using this
  ·have:=hk.2;rw[e]at this;exact this
 generalize hop:o.op=op at hs;generalize hdst:o.dst=dst at hs hd⊢;rw[hdst]at hr;unfold afl at hs;split at hs
 ·
  rename_i t p x;unfold akT at hs;split at hs
  ·rename_i i hi;have hrun:∃r,(execOp a.eval o).run P w = .ok r w':=hr.elim (λhr=>⟨_,hr⟩) (λhr=>⟨_,hr.1⟩);obtain⟨r,hrun⟩:=hrun;split at hs
   ·rename_i b off hvp;cases hs;have hm:=mg hvp;rw[dQ]at hm;obtain⟨f,hf,hm⟩:=hm;unfold ZV at hm;split at hm
    ·split at hm
     ·rename_i e;subst e;cases hm;obtain⟨g',h1,h2⟩:=ac2 (N:=N) h hop hrun he hi hf;refine⟨g',h1,h2.weak λf hf=>?_⟩;rw[zH]at hf;rw[aS,aU];rcases hf with hf|⟨hf,hk⟩
      ·exact .inl hf
      ·exact .inr ⟨hf,by rw[(kp hk).2.1 _ _ _ rfl];rfl⟩
     ·cases hm
    ·cases hm
   ·split at hs
    ·rename_i T off hep;split at hs
     ·rename_i hok;cases hs;have hm:=mg hep;rw[dQ]at hm;obtain⟨f,hf,hm⟩:=hm;unfold akf at hm;split at hm
      ·split at hm
       ·rename_i e;subst e;cases hm;obtain⟨g',h1,h2⟩:=ac1 (N:=N) h hop hrun he hi hf hok;refine⟨g',h1,h2.weak λf hf=>?_⟩;rw[zH]at hf;rw[aU];rcases hf with hf|⟨hf,hk⟩
        ·cases hf
        ·exact⟨hf,(kp hk).1⟩
       ·cases hm
      ·cases hm
     ·cases hs
    ·cases hs
  ·cases hs
 ·rename_i t d;cases hs;rcases hr with hr|hr
  ·obtain⟨g',h1,h2⟩:=abA (N:=N) h (hd d rfl) hN hop hr;refine⟨g',h1,h2.weak λf hf=>?_⟩;rw[zH]at hf;rw[aS,aU];rcases hf with hf|⟨hf,hk⟩
   ·exact .inl hf
   ·exact .inr ⟨hf,(kp hk).2.2 _ rfl⟩
  ·cases hr.2
 ·rename_i t x d;cases hs;rcases hr with hr|hr
  ·obtain⟨g',h1,h2⟩:=agJ (N:=N) h (hd d rfl) hN hop hr;refine⟨g',h1,h2.weak λf hf=>?_⟩;rw[zH]at hf;rw[aS,aU];rcases hf with hf|⟨hf,hk⟩
   ·exact .inl hf
   ·exact .inr ⟨hf,(kp hk).2.2 _ rfl⟩
  ·cases hr.2
 ·rename_i t ps d;cases hs;rcases hr with hr|hr
  ·have hw:w'=w:=he.quiet (by rw[hop];rfl);subst hw;refine⟨g,Rel.refl _ _ _,h.good,λf hf=>?_⟩;rw[zH]at hf;rcases hf with hf|⟨hf,hk⟩
   ·exact abL h (hd d rfl) hop hr f hf
   ·exact(h.fs f hf).put' ((kp hk).2.2 _ rfl)
  ·cases hr.2
 ·rename_i T l c d;split at hs
  ·rename_i hz;cases hs;rcases hr with hr|hr
   ·obtain⟨g',h1,h2⟩:=aeY (N:=N) h (hd d rfl) hN hz hop hr;refine⟨g',h1,h2.weak λf hf=>?_⟩;rw[zH]at hf;rw[aO,aU];rcases hf with hf|⟨hf,hk⟩
    ·exact .inl (by simpa using hf)
    ·exact .inr ⟨hf,(kp hk).2.2 _ rfl⟩
   ·cases hr.2
  ·cases hs
 ·rename_i T len ps d;split at hs
  ·rename_i hok;cases hs;rcases hr with hr|hr
   ·obtain⟨g',h1,h2⟩:=YA (N:=N) h (hd d rfl) hN hok hop hr;refine⟨g',h1,h2.weak λf hf=>?_⟩;rw[zH]at hf;rw[aO,aU,aU];rcases hf with hf|⟨hf,hk⟩
    ·exact .inl (by simpa using hf)
    ·exact .inr ⟨⟨hf,(kp hk).1⟩,(kp hk).2.2 _ rfl⟩
   ·cases hr.2
  ·cases hs
 ·rename_i s x T t2 d;unfold akR at hs;split at hs
  ·rename_i e2 m ms ht2 hok;cases hs;rcases hr with hr|hr
   ·obtain⟨g',h1,h2⟩:=Yu (N:=N) h (hd d rfl) hN hop ht2 hok hr;refine⟨g',h1,h2.weak λf hf=>?_⟩;rw[zH]at hf;rw[aO,aU,aU];rcases hf with hf|⟨hf,hk⟩
    ·exact .inl (by simpa using hf)
    ·exact .inr ⟨⟨hf,(kp hk).1⟩,(kp hk).2.2 _ rfl⟩
   ·cases hr.2
  ·cases hs
 ·rename_i d0 s x T t2;unfold akS at hs;split at hs
  ·rename_i m hm;split at hs
   ·rename_i hemp;cases hs;have hcopy:(execOp a.eval o).run P w = .ok (.value v) w'->OW P F g dp Γ a w':=λhr=>ad3 h hop hm (yL.1 hemp) hr;rcases hr with hr|hr
    ·have h2:=hcopy hr;refine⟨g,Rel.refl _ _ _,h2.good,λf hf=>?_⟩;rw[zH]at hf;rcases hf with hf|⟨hf,hk⟩
     ·cases hf
     ·cases dst with
      |none=>exact h2.fs f hf
      |some d=>exact(h2.fs f hf).put' ((kp hk).2.2 _ rfl)
    ·exfalso;have:=hr.1;simp only[execOp,hop,resolve,invoke,builtin,cu,bM,bu]at this;cases hq:(lF #[T,t2] o.type (Array.map a.eval #[.tmp s,x])).run P w<;>rw[hq]at this<;>cases this
   ·cases hs
  ·cases hs
 ·split at hs
  ·rename_i hq;cases hs;have hw:w'=w:=he.quiet (by rw[hop];exact hq);subst hw;rcases hr with hr|hr
   ·refine⟨g,Rel.refl _ _ _,h.good,λf hf=>?_⟩;rw[zH]at hf;rcases hf with hf|⟨hf,hk⟩
    ·exact afk h (hd _ rfl) hr f (by rw[hop];exact hf)
    ·exact(h.fs f hf).put' ((kp hk).2.2 _ rfl)
   ·cases hr.2
  ·cases hs
 ·cases hs
end
end
section
section
variable {P:Program} {F:Ov} {g g':Own} {dp:Nat} {Γ : List OF} {a:Act} {w w':World} {N:Nat} {v:Value}
theorem BP.rel {f:OF}(h:BP P F g dp a w f)(hr:Rel (dp+1) w.heap.size g g')(hs:w.heap.size<=w'.heap.size):BP P F g' dp a w' f:=by
 have gr:∀{u T m},GR g u T (.tag dp m)->GR g' u T (.tag dp m):=λh=>by
  rcases h with h|⟨k,n,c,h1,h2⟩
  ·exact .inl h
  ·have q:=hr.tag _ _ _ _ (Cm _) h2.1;exact .inr ⟨k,n,c,h1,q.1,by rw[q.2];exact h2.2⟩
 have old:∀{k T:Nat} {X:Prop},k<w.heap.size->(∀B,g k=some B->(∃p,B = .arr T p)/\X)->∀B,g' k=some B->(∃p,B = .arr T p)/\X:=by intro k T X hk hold B' hB';obtain⟨B,h1,h2⟩:=hr.old k B' hk hB';obtain⟨⟨p,rfl⟩,hx⟩:=hold B h1;obtain⟨q,q',e1,e2⟩:=h2 T p (.inl rfl);exact⟨⟨q',e2⟩,hx⟩
 cases f with
 |sr t T=>intro ad n c hq0;obtain⟨k,o,h1,h2,h3⟩:=h ad n c hq0;exact⟨k,o,h1,jH h2 hs,old h2 h3⟩
 |ep t T off=>obtain⟨k,o,h1,h2,h3⟩:=h;exact⟨k,o,h1,jH h2 hs,old h2 h3⟩
 |vp t b off=>obtain⟨k,row,h1,h2,h3⟩:=h;exact⟨k,row,h1,h2,hr.var _ _ _ _ (Cm _) h3⟩
 |ref t r=>obtain⟨u,h1,h2⟩:=h;exact⟨u,h1,gr h2⟩
 |Bg t i r=>obtain⟨vs,x,u,h1,h2,h3,h4⟩:=h;exact⟨vs,x,u,h1,h2,h3,gr h4⟩
 |row b r=>obtain⟨k,row,h1,h2,h3⟩:=h;exact⟨k,row,h1,hr.var _ _ _ _ (Cm _) h2,h3⟩
 |fn t s=>exact h
theorem Rel.down (h:Rel (dp+1) N g g'):Rel dp N g g':=
 ⟨λk T d m hd=>h.tag k T d m (Nat.lt_succ_of_lt hd),λk row d b hd=>h.var k row d b (Nat.lt_succ_of_lt hd),h.old⟩
theorem Good.IG (h:Good P g w){k:Nat}{row row':List Ref}{d b d' b':Nat}(hk:g k=some (.var row d b))(hc:∀cs e,w.heap[k]? = some (.cells cs e (0,0))->∀r,r∈row'->∃u,cs[r.off]? = some u/\GR g u r.ty (.tag d' r.m)):Good P (g.upd k (.var row' d' b')) w:=by
 have ho:∀{k'},k'≠k->(g.upd k (.var row' d' b')) k'=g k':=λhne=>by simp[tZ,hne]
 have hg:(g.upd k (.var row' d' b')) k=some (.var row' d' b'):=aF rfl;refine⟨λk' T p hk'=>?_,λk' Kr d2 b2 hk'=>?_⟩
 ·by_cases hkk:k'=k
  ·subst hkk;rw[hg]at hk';cases hk'
  ·rw[ho hkk]at hk';obtain⟨c,e,h1,h2⟩:=h.arr k' T p hk';exact⟨c,e,h1,λj u T' hb hu ht=>(h2 j u T' (by rwa[DV,ai hkk]at hb) hu ht).Ll hk⟩
 ·by_cases hkk:k'=k
  ·subst hkk;rw[hg]at hk';cases hk';obtain⟨cs,e,h1,_⟩:=h.var _ _ _ _ hk;exact⟨cs,e,h1,λr hr=>let ⟨u,hu,hgr⟩:=hc cs e h1 r hr;⟨u,hu,hgr.Ll hk⟩⟩
  ·rw[ho hkk]at hk';obtain⟨c,e,h1,h2⟩:=h.var k' Kr d2 b2 hk';exact⟨c,e,h1,λr hr=>let ⟨u,hu,hgr⟩:=h2 r hr;⟨u,hu,hgr.Ll hk⟩⟩
def aho (b:Nat):OF->Bool
 |.vp _ b' _=>b' != b
 |.row b' _=>b' != b
 |_=>true
theorem BP.IG {f:OF}(h:BP P F g dp a w f){k:Nat}{row row':List Ref}{d b d' b':Nat}(hk:g k=some (.var row d b))(hf:d=dp->aho b f=true):BP P F (g.upd k (.var row' d' b')) dp a w f:=by
 have ho:∀{k'},k'≠k->(g.upd k (.var row' d' b')) k'=g k':=λhne=>by simp[tZ,hne]
 have old:∀{k' T:Nat} {X:Prop},(∀B,g k'=some B->(∃p,B = .arr T p)/\X)->∀B,(g.upd k (.var row' d' b')) k'=some B->(∃p,B = .arr T p)/\X:=by
  intro k' T X hold B hB;by_cases hkk:k'=k
  ·subst hkk;obtain⟨⟨p,e⟩,_⟩:=hold _ hk;cases e
  ·rw[ho hkk]at hB;exact hold B hB
 cases f with
 |sr t T=>intro ad n c hq0;obtain⟨k',o,h1,h2,h3⟩:=h ad n c hq0;exact⟨k',o,h1,h2,old h3⟩
 |ep t T off=>obtain⟨k',o,h1,h2,h3⟩:=h;exact⟨k',o,h1,h2,old h3⟩
 | vp t b2 off=>
   obtain⟨k',Kr,h1,h2,h3⟩:=h;refine⟨k',Kr,h1,h2,?_⟩;rw[ho]
   ·exact h3
   ·rintro rfl;rw[hk]at h3;cases h3;have:=hf rfl;simp[aho]at this
 |ref t r=>obtain⟨u,h1,h2⟩:=h;exact⟨u,h1,h2.Ll hk⟩
 |Bg t i r=>obtain⟨vs,x,u,h1,h2,h3,h4⟩:=h;exact⟨vs,x,u,h1,h2,h3,h4.Ll hk⟩
 | row b2 r=>
   obtain⟨k',Kr,h1,h2,h3⟩:=h;refine⟨k',Kr,h1,?_,h3⟩;rw[ho]
   ·exact h2
   ·rintro rfl;rw[hk]at h2;cases h2;have:=hf rfl;simp[aho]at this
 |fn t s=>exact h
theorem Rel.IG {k:Nat}{row row':List Ref}{d b d' b':Nat}(hk:g k=some (.var row d b))(hd:dp<=d):Rel dp N g (g.upd k (.var row' d' b')):=by
 refine⟨λk' T d2 m hd2 hx=>?_,λk' Kr d2 b2 hd2 hx=>?_,λk' B' hlt hB=>?_⟩
 ·have hne:k'≠k:=λe=>by subst e;rw[hk]at hx;cases hx
  rw[tZ,DV,ai hne,ai hne];exact⟨hx,rfl⟩
 ·rw[tZ];rw[ai (λe=>by subst e;rw[hk]at hx;cases hx;omega)];exact hx
 ·rw[tZ]at hB;split at hB
  ·rename_i e;subst e;cases hB;exact⟨_,hk,λT p hb=>by rcases hb with e|e<;>cases e⟩
  ·exact(Rel.refl dp N g).old k' B' hlt hB
end
def afP (Γ : List OF)(s o T:Nat):Option Nat:=(Γ.filterMap λf=>match f with
 |.ref y r=>if y=s/\r.off=o/\r.ty=T then some r.m else none
 |_=>none).head?
def RH (Γ : List OF)(b o T:Nat):Option Nat:=(Γ.filterMap λf=>match f with
 |.row y r=>if y=b/\r.off=o/\r.ty=T then some r.m else none
 |_=>none).head?
def Ny {α β:Type}(f:α->Option β):List α->Option (List β)
 |[]=>some []
 | x::r=>match f x,Ny f r with
   |some y,some ys=>some (y::ys)
   |_,_=>none
theorem CP {α β:Type}{f:α->Option β} : ∀{l:List α} {ys:List β},Ny f l=some ys->∀x,x∈l->∃y,f x=some y/\y∈ys
 | x::r,ys,h,z,hz=>by
   simp only[Ny]at h;split at h
   ·rename_i y ys' h1 h2;cases h;rcases aO.1 hz with rfl|hz
    ·exact⟨y,h1,aG ..⟩
    ·obtain⟨y',h3,h4⟩:=CP h2 z hz;exact⟨y',h3,bF _ h4⟩
   ·cases h
def P5 (Γ : List OF)(i:Nat)(x:Operand):PK->Option (List (Nat×Nat)×Option Nat)
 |.any=>some ([],none)
 | .own rs=>(match x with
   |.tmp s=>(Ny (λe:Nat×Nat=>(afP Γ s e.1 e.2).map λm=>(m,i*20+e.1)) rs).map λl=>(l,none)
   |_=>none)
 | .var rs=>(match x with
   | .tmp s=>(match(Γ.filterMap (ZV s)).head? with
     |some (b,0)=>(Ny (λe:Nat×Nat=>(RH Γ b e.1 e.2).map λm=>(m,i*20+e.1)) rs).map λl=>(l,some b)
     |_=>none)
   |_=>none)
 | .fn s=>(match x with
   |.tmp t=>if Γ.contains (.fn t s)then some ([],none)else none
   |.func f=>if kindOf f = .rd/\s=0 then some ([],none)else none
   |_=>none)
 | .sl T=>(match x with
   |.tmp s=>if Γ.contains (.sr s T) || Γ.any (λf=>match f with|.ref y r=>kU y s&&(kU r.off 0&&kU r.ty T)|_=>false)then some ([],none)else none
   |_=>none)
section
variable {P:Program} {F:Ov} {g g':Own} {dp:Nat} {Γ : List OF} {a:Act} {w w':World} {N:Nat} {v:Value}
theorem XX (h:OW P F g dp Γ a w){s o T m:Nat}(ht:afP Γ s o T=some m):∃u,(a.tmps.getD s undef).cells[o]? = some u/\GR g u T (.tag dp m):=by
 have:=mg ht;rw[dQ]at this;obtain⟨f,hf,hm⟩:=this;split at hm
 ·split at hm
  ·rename_i y r hc;obtain⟨rfl,rfl,rfl⟩:=hc;cases hm;exact h.fs _ hf
  ·cases hm
 ·cases hm
theorem Oj (h:OW P F g dp Γ a w){b o T m:Nat}(ht:RH Γ b o T=some m):∃k row,a.tmps.getD b undef = .pointer (some ⟨k,0,none⟩)/\g k=some (.var row dp b)/\⟨o,T,m⟩∈row:=by
 have:=mg ht;rw[dQ]at this;obtain⟨f,hf,hm⟩:=this;split at hm
 ·split at hm
  ·rename_i y r hc;obtain⟨rfl,rfl,rfl⟩:=hc;cases hm;exact h.fs _ hf
  ·cases hm
 ·cases hm
end
end
section
def Ej (Γ : List OF):Nat->List Operand->List PK->Option (List (Nat×Nat)×List (Nat×Nat))
 |_,[],ps=>if ps.all (· == .any)then some ([],[])else none
 | i,x::xs,p::ps=>match P5 Γ i x p,Ej Γ (i+1) xs ps with
   |some (l,o),some (l',o')=>some (l++l',(match o with|some b=>[(i,b)]|none=>[])++o')
   |_,_=>none
 |_,_::_,[]=>none
def Fb (l:List Nat):Bool:=match l with
 |[]=>true
 |x::r=> !r.contains x&&Fb r
def RS (ps:List PK)(i:Nat):List (Nat×Nat):=match ps[i]? with
 |some (.var rs)=>rs
 |_=>[]
structure CR where
 kill:List Nat
 rv:Option Nat
 new:List OF
def aeI (d:Option Nat)(R:CR)(f:OF):Bool:=CY R.kill f&&(match R.rv with|some b=>aho b f|none=>true)&&(match d with|some d=>Ff d f|none=>true)
def Tv (Γ : List OF)(d:Option Nat)(R:CR):List OF:=R.new ++ Γ.filter (aeI d R)
def ahw (rs:List (List (Nat×Nat)))(d:Nat):List OF:=match rs with
 |[r]=>r.map λe=>.ref d ⟨e.1,e.2,mk d e.1⟩
 |l=>(l.zipIdx).flatMap λp=>p.1.map λe=>.Bg d p.2 ⟨e.1,e.2,mk d (p.2*20+e.1)⟩
def afB (rs:List (Nat×Nat))(d:Nat):List Ref:=rs.map λe=>⟨e.1,e.2,mk d (60+e.1)⟩
def yV (dp:Nat)(rs:List (List (Nat×Nat)))(vr:List (Nat×Nat))(i d d':Nat):List (Nat×wL):=
 (match rs with
  |[r]=>r.map λe=>(20000+e.1,.tag dp (mk d e.1))
  |l=>(l.zipIdx).flatMap λp=>p.1.map λe=>(20000+p.2*20+e.1,.tag dp (mk d (p.2*20+e.1)))) ++
 vr.map λe=>(30000+i*20+e.1,.tag dp (mk d' (60+e.1)))
def OG (Γ : List OF)(sg:V6)(xs:List Operand)(d:Option Nat):Option CR:=match Ej Γ 0 xs sg.ps with
 | some (mv,vars)=>if !Fb (mv.map (·.1))then none else match vars with
   |[]=>if !Fb ((yV 0 sg.rs [] 0 (d.getD 97) (d.getD 97)).map (·.1))then none else some ⟨mv.map (·.1),none,match d with|some d=>ahw sg.rs d|none=>[]⟩
   |[(i,b)]=>if d==some b || !Fb ((yV 0 sg.rs (RS sg.ps i) i (d.getD 97) (d.getD 97)).map (·.1))then none else some ⟨mv.map (·.1),some b,.vp b b 0::(afB (RS sg.ps i) (d.getD 97)).map (.row b)++match d with|some d=>ahw sg.rs d|none=>[]⟩
   |_=>none
 |none=>none
section
variable {P:Program} {g g':Own} {dp:Nat} {Γ : List OF} {a:Act} {w w':World} {N:Nat} {v:Value}
theorem Fe {l:List Nat}(h:Fb l=true):l.Nodup:=by
 induction l with
 |nil=>exact List.nodup_nil
 | cons x r ih=>simp only[Fb,ah,jM,wZ,aQ]at h;exact xe.2 ⟨h.1,ih h.2⟩
theorem EJ {β:Type}{m:Nat}{q:β} : ∀{l:List (Nat×β)},(l.map (·.1)).Nodup->(m,q)∈l->l.lookup m=some q
 | (k,b)::r,hn,h=>by
   simp only[bJ,xe]at hn;simp only[List.lookup];rcases aO.1 h with e|h'
   ·cases e;simp
   ·have hne:(m==k)=false:=by
     rw[beq_eq_false_iff_ne];intro e;exact hn.1 (bf.2 ⟨(m,q),h',e⟩)
    rw[hne];exact EJ hn.2 h'
theorem Wq : ∀{xs:List Operand} {ps:List PK} {i:Nat} {mv vars:List (Nat×Nat)},Ej Γ i xs ps=some (mv,vars)->∀(j:Nat) (p:PK),ps[j]? = some p ->
 (p = .any)\/∃x l o,xs[j]? = some x/\P5 Γ (i+j) x p=some (l,o)/\(∀e,e∈l->e∈mv)/\(∀b,o=some b->(i+j,b)∈vars)
 | [],ps,i,mv,vars,h,j,p,hp=>by
   simp only[Ej]at h;split at h
   ·rename_i hall;rw[aN]at hall;exact .inl (by simpa using hall p (iE hp))
   ·cases h
 | x::xs,q::ps,i,mv,vars,h,j,p,hp=>by
   simp only[Ej]at h;split at h
   ·rename_i l o l' o' h1 h2;cases h;cases j with
    | zero=>simp at hp;subst hp;refine .inr ⟨x,l,o,rfl,h1,λe he=>dG _ he,λb hb=>?_⟩;subst hb;exact dG _ (aG ..)
    | succ j=>
      rcases Wq h2 j p (by simpa using hp)with h3|⟨y,l2,o2,h3,h4,h5,h6⟩
      ·exact .inl h3
      ·refine .inr ⟨y,l2,o2,by simpa using h3,by rw[show i+(j+1)=i+1+j by omega];exact h4,λe he=>dZ _ (h5 e he),λb hb=>?_⟩;rw[show i+(j+1)=i+1+j by omega];exact dZ _ (h6 b hb)
   ·cases h
 |_::_,[],i,mv,vars,h,j,p,hp=>by simp[Ej]at h
def Dh (dp:Nat)(mv:List (Nat×Nat)):List (Nat×wL):=mv.map λe=>(e.1,.tag (dp+1) e.2)
theorem RQ (dp:Nat)(mv:List (Nat×Nat)):(Dh dp mv).map (·.1)=mv.map (·.1):=by simp[Dh]
theorem GR.there {mv:List (Nat×Nat)}(hn:(mv.map (·.1)).Nodup){u:Value}{T m t:Nat}(h:GR g u T (.tag dp m))(hm:(m,t)∈mv):GR (g.mv dp (Dh dp mv)) u T (.tag (dp+1) t):=
 h.mv (EJ (by rw[RQ];exact hn) (by rw[Dh,bf];exact⟨_,hm,rfl⟩))
theorem ae2 {ps:List PK}{f:OF}(h:f∈SE ps):∃j p,ps[j]? = some p/\((∃rs,p = .own rs/\∃e,e∈rs/\f = .ref j ⟨e.1,e.2,j*20+e.1⟩) \/
 (∃rs,p = .var rs/\(f = .vp j j 0\/∃e,e∈rs/\f = .row j ⟨e.1,e.2,j*20+e.1⟩))\/(∃s,p = .fn s/\f = .fn j s)\/∃T,p = .sl T/\f = .sr j T):=by
 rw[SE,jX]at h;obtain⟨q,hq,hf⟩:=h;obtain⟨p,j⟩:=q;have hj:=nR.1 hq;simp only at hj;refine⟨j,p,by simpa using hj,?_⟩;cases p with
 |any=>cases hf
 |own rs=>rw[bf]at hf;obtain⟨e,he,rfl⟩:=hf;exact .inl ⟨rs,rfl,e,he,rfl⟩
 | var rs=>
   rw[aO,bf]at hf;rcases hf with rfl|⟨e,he,rfl⟩
   ·exact .inr (.inl ⟨rs,rfl,.inl rfl⟩)
   ·exact .inr (.inl ⟨rs,rfl,.inr ⟨e,he,rfl⟩⟩)
 |fn s=>exact .inr (.inr (.inl ⟨s,rfl,by simpa using hf⟩))
 |sl T=>exact .inr (.inr (.inr ⟨T,rfl,by simpa using hf⟩))
theorem Xf (h:OW P FV g dp Γ a w){xs:List Operand}{ps:List PK}{mv vars:List (Nat×Nat)}{ex:List Value}(ha:Ej Γ 0 xs ps=some (mv,vars))(hn:(mv.map (·.1)).Nodup){g2:Own}
 (hgr:∀{u:Value} {T:Nat} {p:wL},GR (g.mv dp (Dh dp mv)) u T p->GR g2 u T p) (hsr:∀t T,BP P FV g dp a w (.sr t T)->BP P FV g2 dp a w (.sr t T))
 (hv:∀i b rs,(i,b)∈vars->ps[i]? = some (.var rs)->∃k row,a.tmps.getD b undef = .pointer (some ⟨k,0,none⟩)/\g2 k=some (.var row (dp+1) i)/\∀e,e∈rs->⟨e.1,e.2,i*20+e.1⟩∈row)
 (f:OF) (hf:f∈SE ps):BP P FV g2 (dp+1) { tmps:=(xs.map a.eval++ex).toArray,defers:=[] } w f:=by
 obtain⟨j,p,hj,hf⟩:=ae2 hf;have hget:∀x,xs[j]? = some x->((xs.map a.eval++ex).toArray).getD j undef=a.eval x:=λx hx=>by rw[fK,kW,bD (by rw[kX];exact(aT.1 hx).1),dD,hx];rfl
 have hq:=Wq ha j p hj;rw[fE]at hq;rcases hf with⟨rs,rfl,e,he,rfl⟩|⟨rs,rfl,hf⟩|⟨s,rfl,rfl⟩|⟨T,rfl,rfl⟩
 ·rcases hq with hq|⟨x,l,o,hx,harg,hl,_⟩
  ·cases hq
  ·simp only[P5]at harg;split at harg
   ·rename_i s;simp only[bY]at harg;obtain⟨l',hl',heq⟩:=harg;cases heq;obtain⟨y,hy,hyl⟩:=CP hl' e he;simp only[bY]at hy;obtain⟨m,hm,rfl⟩:=hy;obtain⟨u,hu,hg⟩:=XX h hm;refine⟨u,?_,hgr (hg.there hn (hl _ hyl))⟩;rw[hget _ hx];exact hu
   ·cases harg
 ·rcases hq with hq|⟨x,l,o,hx,harg,hl,ho⟩
  ·cases hq
  ·simp only[P5]at harg;split at harg
   ·rename_i s;split at harg
    ·rename_i b hvp;simp only[bY]at harg;obtain⟨l',hl',heq⟩:=harg;cases heq;have hm:=mg hvp;rw[dQ]at hm;obtain⟨f0,hf0,hm⟩:=hm;unfold ZV at hm;split at hm
     ·split at hm
      ·rename_i e1;subst e1;cases hm;obtain⟨k0,row0,e2,e3,e4⟩:=h.fs _ hf0;obtain⟨k,row,e5,e6,e7⟩:=hv j b rs (ho b rfl) hj;rw[e2]at e5;cases e5;have hx':=hget _ hx;have e8:((xs.map a.eval++ex).toArray).getD j undef = .pointer (some ⟨k0,0,none⟩):=(by rw[hx'];exact e3);rcases hf with rfl|⟨e,he,rfl⟩
       ·exact⟨k0,row,e8,e8,e6⟩
       ·exact⟨k0,row,e8,e6,e7 e he⟩
      ·cases hm
     ·cases hm
    ·cases harg
   ·cases harg
 ·rcases hq with hq|⟨x,l,o,hx,harg,_,_⟩
  ·cases hq
  ·simp only[P5]at harg;split at harg
   ·rename_i t;split at harg
    ·rename_i hc;have hc:=iR.1 hc;obtain⟨f,caps,h1,h2⟩:=h.fs _ hc;exact⟨f,caps,by rw[hget _ hx];exact h1,h2⟩
    ·cases harg
   ·rename_i f;split at harg
    ·rename_i hc;exact⟨f,#[],by rw[hget _ hx];rfl,by rw[hc.2];exact hc.1⟩
    ·cases harg
   ·cases harg
 ·rcases hq with hq|⟨x,l,o,hx,harg,_,_⟩
  ·cases hq
  ·simp only[P5]at harg;split at harg
   ·rename_i t;split at harg
    ·rename_i hc;have hk:BP P FV g dp a w (.sr t T):=by
      rw[dP]at hc;rcases hc with hc|hc
      ·exact h.fs _ (iR.1 hc)
      ·obtain⟨f0,hf0,hc⟩:=sO.1 hc;split at hc
       ·rename_i y r;simp only[ah,Nat.beq_eq]at hc;obtain⟨rfl,h0,rfl⟩:=hc;obtain⟨u,hu,hg⟩:=h.fs _ hf0;intro ad n c hs;rw[hs,h0]at hu;simp[lW]at hu;subst hu;rcases hg with hg|⟨k,n',c',e,hk,_⟩
        ·cases hg
        ·cases e;exact⟨k,0,rfl,h.good.lt hk,λB hB=>by rw[hk]at hB;cases hB;exact⟨⟨_,rfl⟩,Nat.zero_mod _⟩⟩
       ·cases hc
     intro ad n c hs;rw[hget _ hx]at hs;exact hsr _ _ hk ad n c hs
    ·cases harg
   ·cases harg
end
end
section
section
variable {P:Program} {g g':Own} {dp:Nat} {Γ : List OF} {a:Act} {w w':World} {N:Nat} {v:Value}
theorem abH (dp:Nat)(rs:List (List (Nat×Nat)))(vr:List (Nat×Nat))(i d d':Nat):(yV dp rs vr i d d').map (·.1)=(yV 0 rs vr i d d').map (·.1):=by
 unfold yV;rw[rH,rH]
 congr 1
 ·split
  ·simp
  ·rw[List.map_flatMap,List.map_flatMap]
   congr 1
   funext p
   simp
 ·simp
theorem GR.back {rs:List (List (Nat×Nat))}{vr:List (Nat×Nat)}{i d d':Nat}(hn:Fb ((yV 0 rs vr i d d').map (·.1))=true){u:Value}{T m:Nat}{q:wL}(h:GR g u T (.tag (dp+1) m))(hm:(m,q)∈yV dp rs vr i d d') :
 GR (g.mv (dp+1) (yV dp rs vr i d d')) u T q:=
 h.mv (EJ (by rw[abH];exact Fe hn) hm)
theorem Ue {sg:V6}{vs:List Value}(hout:OW P FV g' (dp+1) (Oe sg vs.length) { tmps:=(vs++[v]).toArray,defers:=[] } w'){vr:List (Nat×Nat)}{i d d':Nat}(hn:Fb ((yV 0 sg.rs vr i d d').map (·.1))=true)(hd:d<a.tmps.size){g4:Own}
 (hgr:∀{u:Value} {T:Nat} {p:wL},GR (g'.mv (dp+1) (yV dp sg.rs vr i d d')) u T p->GR g4 u T p) (f:OF) (hf:f∈ahw sg.rs d):BP P FV g4 dp (a.put (some d) v) w' f:=by
 have hv:((vs++[v]).toArray).getD vs.length undef=v:=by rw[fK,kW];simp
 have hs:=ig (v:=v) hd;unfold ahw at hf;split at hf
 ·rename_i r hrs;rw[bf]at hf;obtain⟨e,he,rfl⟩:=hf;have:=hout.fs (.ref vs.length ⟨e.1,e.2,20000+e.1⟩) (by
   rw[Oe,Vx,hrs];exact dG _ (bf.2 ⟨e,he,rfl⟩))
  obtain⟨u,hu,hg⟩:=this;rw[hv]at hu;refine⟨u,by rw[hs];exact hu,hgr (hg.back hn ?_)⟩;unfold yV;rw[hrs];exact dG _ (bf.2 ⟨e,he,rfl⟩)
 ·rename_i hne;rw[jX]at hf;obtain⟨q,hq,hf⟩:=hf;rw[bf]at hf;obtain⟨e,he,rfl⟩:=hf;have:=hout.fs (.Bg vs.length q.2 ⟨e.1,e.2,20000+q.2*20+e.1⟩) (by
   rw[Oe];refine dG _ ?_;unfold Vx;split
   ·rename_i r hr;exact aY hr (hne r)
   ·rw[jX];exact⟨q,hq,bf.2 ⟨e,he,rfl⟩⟩)
  obtain⟨us,x,u,h1,h2,h3,hg⟩:=this;rw[hv]at h1;refine⟨us,x,u,by rw[hs];exact h1,h2,h3,hgr (hg.back hn ?_)⟩;unfold yV;refine dG _ ?_;split
  ·rename_i r hr;exact aY hr (hne r)
  ·rw[jX];exact⟨q,hq,bf.2 ⟨e,he,rfl⟩⟩
theorem Xi {mv:List (Nat×wL)}{f:OF} : aeJ dp (λ_=>false) (KX (dp+1) mv) f:=λm _=>⟨rfl,by simp only[KX];rw[ai aI]⟩
theorem Rel.akO (mv:List (Nat×wL)):Rel dp N g (g.mv (dp+1) mv):=Rel.re λd m h=>⟨rfl,by simp only[KX];rw[ai aI]⟩
theorem Good.mv (h:Good P g w)(dp:Nat)(mv:List (Nat×wL)):Good P (g.mv dp mv) w:=h.re λ_ _ _ _ _ _=>⟨rfl,rfl⟩
theorem Zp {mv:List (Nat×wL)}{k d b:Nat}{row:List Ref}(h:g k=some (.var row d b)):∃row',(g.mv dp mv) k=some (.var row' d b):=by rw[Own.mv,afA];rw[h];exact⟨_,rfl⟩
theorem afW {ps:List PK}{i:Nat}{rs:List (Nat×Nat)}(h:ps[i]? = some (.var rs)):RS ps i=rs:=by simp[RS,h]
theorem KI : ∀{xs:List Operand} {ps:List PK} {i:Nat} {mv vars:List (Nat×Nat)},Ej Γ i xs ps=some (mv,vars)->∀j b,(j,b)∈vars->∃rs x s,ps[j-i]? = some (.var rs)/\i<=j/\xs[j-i]? = some x/\x = .tmp s/\OF.vp s b 0 ∈ Γ /\ ∀e,e∈rs->∃m,RH Γ b e.1 e.2=some m/\(m,j*20+e.1)∈mv
 | [],ps,i,mv,vars,h,j,b,hb=>by
   simp only[Ej]at h;split at h
   ·cases h;cases hb
   ·cases h
 | x::xs,q::ps,i,mv,vars,h,j,b,hb=>by
   simp only[Ej]at h;split at h
   ·rename_i l o l' o' h1 h2;cases h;rcases aS.1 hb with hb|hb
    ·cases o with
     |none=>cases hb
     | some b'=>
       simp only[aO,jL,or_false,aK]at hb;obtain⟨rfl,rfl⟩:=hb;rw[Nat.sub_self];cases q with
       |any=>simp[P5]at h1
       | own rs=>
         simp only[P5]at h1;split at h1
         ·simp only[bY]at h1;obtain⟨_,_,e⟩:=h1;cases e
         ·cases h1
       | fn s=>simp only[P5]at h1;split at h1<;>(try split at h1)<;>cases h1
       | sl T=>simp only[P5]at h1;split at h1<;>(try split at h1)<;>cases h1
       | var rs=>
         simp only[P5]at h1;split at h1
         ·rename_i s;split at h1
          ·rename_i b2 hvp;simp only[bY]at h1;obtain⟨l2,hl2,e⟩:=h1;cases e;have hm:=mg hvp;rw[dQ]at hm;obtain⟨f0,hf0,hm⟩:=hm;unfold ZV at hm;split at hm
           ·split at hm
            ·rename_i e1;subst e1;cases hm;refine⟨rs,_,_,rfl,ak _,rfl,rfl,hf0,λe he=>?_⟩;obtain⟨y,hy,hyl⟩:=CP hl2 e he;simp only[bY]at hy;obtain⟨m,hm,rfl⟩:=hy;exact⟨m,hm,dG _ hyl⟩
            ·cases hm
           ·cases hm
          ·cases h1
         ·cases h1
    ·obtain⟨rs,y,s,h3,h4,h5,h6,h7,h8⟩:=KI h2 j b hb;refine⟨rs,y,s,?_,aI,?_,h6,h7,λe he=>let ⟨m,h9,h10⟩:=h8 e he;⟨m,h9,dZ _ h10⟩⟩
     ·rw[show j-i=(j-(i+1))+1 by omega,gX];exact h3
     ·rw[show j-i=(j-(i+1))+1 by omega,gX];exact h5
   ·cases h
 |_::_,[],i,mv,vars,h,j,b,hb=>by simp[Ej]at h
theorem Xu (h:OW P FV g dp Γ a w)(hN:N<=w.heap.size){f:FuncId}{sg:V6}(hk:kindOf f = .ow sg){xs:List Operand}{ex:List Value}{d:Option Nat}{C:CR}(hl:(xs.map a.eval++ex).length=sg.ps.length)(hc:OG Γ sg xs d=some C)(hd:∀d',d=some d'->d'<a.tmps.size) :
 ∃X,Sl P f (xs.map a.eval++ex) w X/\∀v w',w.heap.size<=w'.heap.size->X (.returned v) w'->∃g',Rel dp N g g'/\OW P FV g' dp (Tv Γ d C) (a.put d v) w':=by
 unfold OG at hc;split at hc
 ·rename_i mv vars ha;split at hc
  ·cases hc
  ·rename_i hnn;have hn:(mv.map (·.1)).Nodup:=Fe (by simpa using hnn);have h1:=h.mv (Dh dp mv);rw[RQ]at h1;split at hc
   ·
    split at hc
    ·cases hc
    ·rename_i hbn;cases hc;have hin:OW P FV (g.mv dp (Dh dp mv)) (dp+1) (SE sg.ps) { tmps:=(xs.map a.eval++ex).toArray,defers:=[] } w:=
      ⟨h1.good,Xf h ha hn (λh=>h) (λt T hk=>hk.re (f:=.sr t T) λm hm=>by cases hm) (λi b rs hb _=>by cases hb)⟩
     refine⟨_,.ow sg hk hl _ (dp+1) hin,λv w' hs hX=>?_⟩;obtain⟨v',g',hv,hrel,hout⟩:=hX;cases hv;refine⟨g'.mv (dp+1) (yV dp sg.rs [] 0 (d.getD 97) (d.getD 97)),((Rel.mv N _).trans ((hrel.le hN).down)).trans (Rel.akO _),hout.good.mv _ _,λf hf=>?_⟩;rw[Tv,aS,aU]at hf;rcases hf with hf|⟨hf,hkp⟩
     ·cases d with
      |none=>cases hf
      |some d=>exact Ue hout (by simpa using hbn) (hd d rfl) (λh=>h) f hf
     ·simp only[aeI,ah]at hkp;have h2:=((h1.fs f (aU.2 ⟨hf,hkp.1.1⟩)).rel hrel hs).re (dr:=λ_=>false) (φ:=KX (dp+1) (yV dp sg.rs [] 0 (d.getD 97) (d.getD 97))) Xi;cases d with
      |none=>exact h2
      |some d=>exact h2.put' hkp.2
   ·
    rename_i i b;split at hc
    ·cases hc
    ·rename_i hbn;simp only[dP,not_or,jM,Bool.not_eq_false]at hbn;obtain⟨hdb,hbn⟩:=hbn;cases hc;obtain⟨rs,x,s,hp,_,hx,rfl,hvp,akx⟩:=KI ha i b (aG ..);rw[Nat.sub_zero]at hp hx;have hrs:=afW hp;obtain⟨k,row,hb1,hb2,hb3⟩:=h.fs _ hvp;obtain⟨amr,hk1⟩:=Zp (mv:=Dh dp mv) (dp:=dp) hb3;have aiP:Good P ((g.mv dp (Dh dp mv)).upd k (.var (rs.map λe=>⟨e.1,e.2,i*20+e.1⟩) (dp+1) i)) w:=by
      refine h1.good.IG hk1 λcs e hw r hr=>?_;rw[bf]at hr;obtain⟨q,hq,rfl⟩:=hr;obtain⟨m,hm1,hm2⟩:=akx q hq;obtain⟨k',row',e1,e2,e3⟩:=Oj h hm1;rw[hb1]at e1;cases e1;obtain⟨cs',e',hw',hrow⟩:=h.good.var _ _ _ _ e2;rw[hw]at hw';cases hw';obtain⟨u,hu,hg⟩:=hrow _ e3;exact⟨u,hu,hg.there hn hm2⟩
     have hin:OW P FV ((g.mv dp (Dh dp mv)).upd k (.var (rs.map λe=>⟨e.1,e.2,i*20+e.1⟩) (dp+1) i)) (dp+1) (SE sg.ps) { tmps:=(xs.map a.eval++ex).toArray,defers:=[] } w:=
      ⟨aiP,Xf h ha hn (λh=>h.Ll hk1) (λt T hk=>(hk.re (f:=.sr t T) (dr:=λ_=>false) (φ:=KX dp (Dh dp mv)) λm hm=>by cases hm).IG hk1 λ_=>rfl) (λi' b' rs' hb' hp'=>by simp only[aO,jL,or_false,aK]at hb';obtain⟨rfl,rfl⟩:=hb';rw[hp]at hp';cases hp';exact⟨k,_,hb1,aF rfl,λe he=>bf.2 ⟨e,he,rfl⟩⟩)⟩
     refine⟨_,.ow sg hk hl _ (dp+1) hin,λv w' hs hX=>?_⟩;obtain⟨v',g',hv,hrel,hout⟩:=hX;cases hv;rw[hrs]at hbn;have ame:=hout.fs (.vp i i 0) (by rw[Oe];refine dZ _ ?_;rw[XD,jX];exact⟨(.var rs,i),nR.2 (by simpa using hp),nV⟩)
     obtain⟨k2,Kr,e1,_,e2⟩:=ame;have hlt:i<(xs.map a.eval++ex).length:=(by rw[hl];exact(aT.1 hp).1);have hti:((xs.map a.eval++ex)++[v]).toArray.getD i undef = .pointer (some ⟨k,0,none⟩):=by rw[fK,kW,bD hlt,bD (by rw[kX];exact(aT.1 hx).1),dD,hx];exact hb2
     rw[hti]at e1;cases e1;obtain⟨row3,hk3⟩:=Zp (mv:=yV dp sg.rs rs i (d.getD 97) (d.getD 97)) (dp:=dp+1) e2;have aiQ:Good P ((g'.mv (dp+1) (yV dp sg.rs rs i (d.getD 97) (d.getD 97))).upd k (.var (afB rs (d.getD 97)) dp b)) w':=by
      refine(hout.good.mv _ _).IG hk3 λcs e hw r hr=>?_;rw[afB,bf]at hr;obtain⟨q,hq,rfl⟩:=hr;have:=hout.fs (.row i ⟨q.1,q.2,30000+i*20+q.1⟩) (by rw[Oe];refine dZ _ ?_;rw[XD,jX];exact⟨(.var rs,i),nR.2 (by simpa using hp),bF _ (bf.2 ⟨q,hq,rfl⟩)⟩)
      obtain⟨k',row',e4,e5,e6⟩:=this;rw[hti]at e4;cases e4;obtain⟨cs',e',hw',hrow⟩:=hout.good.var _ _ _ _ e5;rw[hw]at hw';cases hw';obtain⟨u,hu,hg⟩:=hrow _ e6;refine⟨u,hu,hg.back hbn ?_⟩;unfold yV;exact dZ _ (bf.2 ⟨q,hq,rfl⟩)
     refine⟨(g'.mv (dp+1) (yV dp sg.rs rs i (d.getD 97) (d.getD 97))).upd k (.var (afB rs (d.getD 97)) dp b),
      ((((Rel.mv N _).trans (Rel.IG hk1 (ak _))).trans ((hrel.le hN).down)).trans (Rel.akO _)).trans (Rel.IG hk3 (Nat.le_succ _)),aiQ,λf hf=>?_⟩
     rw[Tv,aS,aU]at hf;have hb':∀d',d=some d'->b≠d':=λd' e e'=>(by subst e;subst e';simp at hdb);have htb:(a.put d v).tmps.getD b undef = .pointer (some ⟨k,0,none⟩):=by
      cases d with
      |none=>exact hb1
      |some d'=>rw[mJ (hb' d' rfl)];exact hb1
     rcases hf with hf|⟨hf,hkp⟩
     ·simp only[eH,aO,aS,bf]at hf;rw[hrs]at hf;rcases hf with rfl|⟨r,hr,rfl⟩|hf
      ·exact⟨k,_,htb,htb,aF rfl⟩
      ·exact⟨k,_,htb,aF rfl,hr⟩
      ·cases d with
       |none=>cases hf
       |some d=>exact Ue hout (by simpa using hbn) (hd d rfl) (λh=>h.Ll hk3) f hf
     ·simp only[aeI,ah]at hkp;have h2:=(((h1.fs f (aU.2 ⟨hf,hkp.1.1⟩)).IG (row':=rs.map λe=>⟨e.1,e.2,i*20+e.1⟩) (d':=dp+1) (b':=i) hk1 (λ_=>hkp.1.2)).rel hrel hs).re (dr:=λ_=>false) (φ:=KX (dp+1) (yV dp sg.rs rs i (d.getD 97) (d.getD 97))) Xi;have h3:=h2.IG (row':=afB rs (d.getD 97)) (d':=dp) (b':=b) hk3 (λe=>by omega);cases d with
      |none=>exact h3
      |some d=>exact h3.put' hkp.2
   ·cases hc
 ·cases hc
end
end
section
section
variable {P:Program} {E:Env P} {I:IH} {ρ:Ren} {n:Nat} {st:iI} {a:Act} {w:World}
def AK (E:Env P)(n:Nat)(K:iI->Prop):Act->World->Prop:=λa w=>∃I ρ st,K st/\GX E I ρ n st a w
theorem ahZ (h:GX E I ρ n st a w){bs:List Nat}{v:Value}{x y:AC}(hx:GC I ρ v x)(hc:Cv st.bx x y)(hb:∀b,b∈nJ [x]->b∈bs):GC (Bh I ρ w st.bx bs) ρ v y:=by
 have hle:=EI (st:=st) h.bx bs;cases hc with
 |refl=>exact hx.mono hle (Ren.le_refl ρ)
 | mM sz=>simp only[GC]at hx;subst hx;exact Rd.sl none 0 0 _ [] (λ_ _=>undef) rfl (ak _) (by simp[maxLen]) nV nV (by intro ad h;cases h) nV
 |own b m sz es harr hm=>exact Vh h (hb b (by simp[nJ])) harr hm hx
theorem Ce {x:AC}{xs:List AC}{b:Nat} : b∈nJ (x::xs)<->b∈nJ [x]\/b∈nJ xs:=by cases x<;>simp[nJ]
theorem agT (h:GX E I ρ n st a w){bs:List Nat}{vs:List Value}{xs ys:List AC}(hx:JH I ρ vs xs)(hc:CvL st.bx xs ys)(hb:∀b,b∈nJ xs->b∈bs):JH (Bh I ρ w st.bx bs) ρ vs ys:=by
 induction hc generalizing vs with
 |nil=>exact⟨hx.1,λj v x hv hx=>by simp at hx⟩
 | cons hxy ht ih=>
   rename_i x y xs ys;cases vs with
   |nil=>have:=hx.1;simp at this
   | cons v vs=>
     have i1:=ih (vs:=vs) ⟨by simpa using hx.1,λj u z hu hz=>hx.2 (j+1) u z (by simpa using hu) (by simpa using hz)⟩ (λb hb'=>hb b (Ce.2 (.inr hb')));have i0:=ahZ h (hx.2 0 v x rfl rfl) hxy (λb hb'=>hb b (Ce.2 (.inl hb')));refine⟨by simp[i1.1],λj u z hu hz=>?_⟩;cases j with
     |zero=>simp at hu hz;subst hu;subst hz;exact i0
     |succ j=>exact i1.2 j u z (by simpa using hu) (by simpa using hz)
theorem aix (h:GX E I ρ n st a w){bs:List Nat}{v:Value}{x y:AV}(hx:GV I ρ v x)(hc:CvA st.bx x y)(hb:∀b,b∈x.owns->b∈bs):GV (Bh I ρ w st.bx bs) ρ v y:=by
 cases hc with
 |one hxy=>exact ahZ h hx hxy hb
 |agg hxy=>obtain⟨cs,rfl,hg⟩:=hx;exact⟨cs,rfl,agT h hg hxy hb⟩
theorem Qp (h:GX E I ρ n st a w){bs:List Nat}{vs:List Value}{xs ys:List AV}(hx:PM I ρ vs xs)(hc:KA st.bx xs ys)(hb:∀b,b∈xs.flatMap AV.owns->b∈bs):PM (Bh I ρ w st.bx bs) ρ vs ys:=by
 induction hc generalizing vs with
 |nil=>exact⟨hx.1,λj v x hv hx=>by simp at hx⟩
 | cons hxy ht ih=>
   rename_i x y xs ys;cases vs with
   |nil=>have:=hx.1;simp at this
   | cons v vs=>
     have i1:=ih (vs:=vs) ⟨by simpa using hx.1,λj u z hu hz=>hx.2 (j+1) u z (by simpa using hu) (by simpa using hz)⟩ (λb hb'=>hb b (by rw[bG];exact dZ _ hb'));have i0:=aix h (hx.2 0 v x rfl rfl) hxy (λb hb'=>hb b (by rw[bG];exact dG _ hb'));refine⟨by simp[i1.1],λj u z hu hz=>?_⟩;cases j with
     |zero=>simp at hu hz;subst hu;subst hz;exact i0
     |succ j=>exact i1.2 j u z (by simpa using hu) (by simpa using hz)
theorem Y5 {I J:IH}{ρ σ:Ren}{v:Value}{x:AC}(h:GC I ρ v x)(hl:x.isLit=true):GC J σ v x:=by
 cases x with
 | c y=>
   cases y with
   |lit u=>cases h with|lit v hv=>exact Rd.lit _ hv
   |str l=>cases h with|str l hl=>exact Rd.str _ hl
   |sl sz es=>cases hl
 |_=>cases hl
theorem aaC {I J:IH}{ρ σ:Ren}{vs:List Value}{xs:List AC}(h:JH I ρ vs xs)(hl:xs.all AC.isLit=true):JH J σ vs xs:=
 ⟨h.1,λj v x hv hx=>Y5 (h.2 j v x hv hx) (aN.1 hl x (iE hx))⟩
theorem aiG {I J:IH}{ρ σ:Ren}{v:Value}{x:AV}(h:GV I ρ v x)(hl:x.all AC.isLit=true):GV J σ v x:=by
 cases x with
 |one x=>exact Y5 h hl
 |agg xs=>obtain⟨cs,rfl,hg⟩:=h;exact⟨cs,rfl,aaC hg hl⟩
 | AX ps=>
   obtain⟨vs,rfl,hs,hp⟩:=h;refine⟨vs,rfl,hs,λj v p hv hq=>?_⟩;have h1:=hp j v p hv hq;have h2:=aN.1 hl p (iE hq);unfold GP at h1⊢;split at h1
   ·rename_i hb;rw[aF hb];obtain⟨cs,rfl,hg⟩:=h1;exact⟨cs,rfl,aaC hg h2⟩
   ·rename_i hb;rw[ai hb];obtain⟨x,hx,hg⟩:=h1;rw[hx]at h2;exact⟨x,hx,Y5 hg (by simpa using h2)⟩
theorem U9 {I:IH}{ρ σ:Ren}{v:Value}{x:AC}(h:GC I ρ v x)(hl:x.vC=true):GC I σ v x:=by
 cases x with
 |c y=>exact h
 |err g=>exact h
 |_=>cases hl
theorem WT {I:IH}{ρ σ:Ren}{vs:List Value}{xs:List AC}(h:JH I ρ vs xs)(hl:xs.all AC.vC=true):JH I σ vs xs:=
 ⟨h.1,λj v x hv hx=>U9 (h.2 j v x hv hx) (aN.1 hl x (iE hx))⟩
theorem aaF {I:IH}{ρ σ:Ren}{v:Value}{x:AV}(h:GV I ρ v x)(hl:x.all AC.vC=true):GV I σ v x:=by
 cases x with
 |one x=>exact U9 h hl
 |agg xs=>obtain⟨cs,rfl,hg⟩:=h;exact⟨cs,rfl,WT hg hl⟩
 | AX ps=>
   obtain⟨vs,rfl,hs,hp⟩:=h;refine⟨vs,rfl,hs,λj v p hv hq=>?_⟩;have h1:=hp j v p hv hq;have h2:=aN.1 hl p (iE hq);unfold GP at h1⊢;split at h1
   ·rename_i hb;rw[aF hb];obtain⟨cs,rfl,hg⟩:=h1;exact⟨cs,rfl,WT hg h2⟩
   ·rename_i hb;rw[ai hb];obtain⟨x,hx,hg⟩:=h1;rw[hx]at h2;exact⟨x,hx,U9 hg (by simpa using h2)⟩
theorem WV {I:IH}{ρ σ:Ren}{vs:List Value}{xs:List AV}(h:PM I ρ vs xs)(hl:xs.all (·.all AC.vC)=true):PM I σ vs xs:=
 ⟨h.1,λj v x hv hx=>aaF (h.2 j v x hv hx) (aN.1 hl x (iE hx))⟩
theorem UK (b:Nat):zX [] b = .absent:=by simp[zX]
theorem H6 {x:Option (Nat×Nat)}(b k:Nat):¬(zX [] b).uses x k:=by rw[UK];exact λh=>h
theorem GX.later (h:GX E I ρ n st a w){w':World}(hF:zK w w' (λ_=>False)):GX E I ρ n st a w':=by have hk:∀k,k<w.heap.size->w'.heap[k]? = w.heap[k]?:= λk hk=>hF.block k hk (λh=>h);refine{ h with agree:=h.agree.other (λk c hc=>hk k (h.agree.lt hc)),bx:=?_,Aj:=h.Aj.trans hF (λ_ _ hf=>hf.elim),tm:=h.tm,size:=h.size,defers:=h.defers };exact BX.step (λ_=>False) h.bx (IH.le_refl I) (Ren.le_refl ρ) (λb _=>⟨rfl,rfl⟩) (λb k _ hu=>hk k ((h.bx.ok b).lt hu)) (λb hb=>hb.elim) (λb k hb=>hb.elim) (λb b' k hb=>hb.elim) (λb k _ hu=>h.bx.fresh b k hu)
theorem Vr (I:IH)(w:World):BX I (λ_=>none) w (zX []):=
 ⟨λb=>by rw[UK];rfl,λb b' k h=>aY h (H6 b k),λb k h=>aY h (H6 b k)⟩
theorem adT (h:GX E I ρ n st a w){f:FuncId}{vs:List Value}{rX ds:List AV}{r:AV}{d:Option Nat}{K:iI->Prop}(hd':∀x,d=some x->x<n)(hv:PM I ρ vs rX)(hc:KA st.bx rX ds)(hd:ds.all (·.all AC.vC)=true)(hp:iW P f ds r)(hr:r.all AC.isLit=true)
 (k:K (st.yf d (.v true r))) {X:Ending->World->Prop} (hX:Sl P f vs w X):Calls P f vs.toArray w λe w'=>(∃v,e = .returned v/\AK E n K (a.put d v) w')/\X e w'/\w.heap.size<=w'.heap.size:=by
 have hv1:=Qp h (bs:=rX.flatMap AV.owns) hv hc (λb hb=>hb);refine(hp (Bh I ρ w st.bx (rX.flatMap AV.owns)) (λ_=>none) w vs (h.tabs.mono (EI h.bx _)) (KU h.agree _) (Vr _ _) (WV hv1 hd) _ hX).mono ?_;rintro e w' ⟨⟨v,J,σ,r',bs,rfl,⟨rfl,rfl⟩,hg,hA,hB,hle,hF,_⟩,hXe⟩;have hF':zK w w' (λ_=>False):=⟨hF.os,hF.tape,hF.output,hF.size,λk hk _=>hF.block k hk (λ⟨b,hb⟩=>H6 b k hb)⟩;exact⟨⟨v,rfl,I,ρ,_,k,(h.later hF').yf hd' ⟨λ_=>aiG hg hr,λe=>by cases e⟩⟩,hXe,hF.size⟩
theorem abM (h:GX E I ρ n st a w){f:FuncId}{vs:List Value}{rX ds:List AV}{r:AV}{d:Option Nat}{K:iI->Prop}(hd':∀x,d=some x->x<n)(hv:PM I ρ vs rX)(hc:KA st.bx rX ds)(hd:ds.all (·.all AC.vC)=true)(hp:iW P f ds r)(hr:r.all AC.vC=true)
 (k:K ((st.Eo (rX.flatMap AV.owns)).yf d (.v true r))) {X:Ending->World->Prop} (hX:Sl P f vs w X):Calls P f vs.toArray w λe w'=>(∃v,e = .returned v/\AK E n K (a.put d v) w')/\X e w'/\w.heap.size<=w'.heap.size:=by
 have hv1:=Qp h (bs:=rX.flatMap AV.owns) hv hc (λb hb=>hb);refine(hp (Bh I ρ w st.bx (rX.flatMap AV.owns)) (λ_=>none) w vs (h.tabs.mono (EI h.bx _)) (KU h.agree _) (Vr _ _) (WV hv1 hd) _ hX).mono ?_;rintro e w' ⟨⟨v,J,σ,r',bs,rfl,⟨rfl,rfl⟩,hg,hA,hB,hle,hF,_,hJ,_⟩,hXe⟩;have hF':zK w w' (λ_=>False):=⟨hF.os,hF.tape,hF.output,hF.size,λk hk _=>hF.block k hk (λ⟨b,hb⟩=>H6 b k hb)⟩;have hJ':∀k,k<w.heap.size->J k=Bh I ρ w st.bx (rX.flatMap AV.owns) k:=λk hk=>hJ k hk (λ⟨b,hb⟩=>H6 b k hb);refine⟨⟨v,rfl,J,ρ,_,k,?_⟩,hXe,hF.size⟩;generalize hBS:rX.flatMap AV.owns=BS at *;have hIJ:I.le J:=IH.le_trans (EI h.bx BS) hle;have hk:∀k,k<w.heap.size->w'.heap[k]? = w.heap[k]?:= λk hk=>hF'.block k hk (λh=>h);have IL:∀b k,((st.Eo BS).bx b).uses (ρ b) k->(st.bx b).uses (ρ b) k/\¬(∃b' sz es cap,b'∈BS/\st.bx b' = .dat sz es/\ρ b'=some (k,cap)/\cap≠0):=by
  intro b k hu;rw[yX]at hu;by_cases hb:b∈BS
  ·rw[aF hb]at hu;cases hx:st.bx b with
   | var xs=>rw[hx]at hu;refine⟨hu,?_⟩;rintro⟨b',sz,es,cap,_,hb',hr',h0⟩;have:=h.bx.inj b b' k (by rw[hx];exact hu) (by rw[hb'];exact⟨cap,hr',h0⟩);subst this;rw[hx]at hb';cases hb'
   | row e l=>rw[hx]at hu;refine⟨hu,?_⟩;rintro⟨b',sz,es,cap,_,hb',hr',h0⟩;have:=h.bx.inj b b' k (by rw[hx];exact hu) (by rw[hb'];exact⟨cap,hr',h0⟩);subst this;rw[hx]at hb';cases hb'
   |dat sz es=>rw[hx]at hu;exact hu.elim
   |Eo sz es=>rw[hx]at hu;exact hu.elim
   |absent=>rw[hx]at hu;exact hu.elim
   |dead=>rw[hx]at hu;exact hu.elim
  ·rw[ai hb]at hu;refine⟨hu,?_⟩;rintro⟨b',sz,es,cap,hm',hb',hr',h0⟩;have:=h.bx.inj b b' k hu (by rw[hb'];exact⟨cap,hr',h0⟩);subst this;exact hb hm'
 have hfr:∀b k,((st.Eo BS).bx b).uses (ρ b) k->J k=none:=λb k hu=>by obtain⟨h1,h2⟩:=IL b k hu;rw[hJ' k ((h.bx.ok b).lt h1)];unfold Bh;rw[ai h2];exact h.bx.fresh b k h1
 have hgx:GX E J ρ n (st.Eo BS) a w':=by
  refine{ agree:=hA,bx:=⟨λb=>?_,λb b' k hb hb'=>h.bx.inj b b' k (IL b k hb).1 (IL b' k hb').1,hfr⟩,tm:=λt ht=>(h.tm t ht).mono hIJ (Ren.le_refl ρ),size:=h.size,defers:=h.defers,Aj:=h.Aj.trans hF' (λ_ _ hf=>hf.elim),own:=λb k hu=>h.own b k (IL b k hu).1,Kq:=IH.le_trans h.Kq hIJ,Fa:=λk hk0 hM=>?_,vW:=h.vW }
  ·have hok:=(h.bx.ok b).keep hIJ (Ren.le_refl ρ) rfl (λk hu=>hk k ((h.bx.ok b).lt hu));rw[yX];by_cases hb:b∈BS
   ·rw[aF hb];cases hx:st.bx b with
    | dat sz es=>rw[hx]at hok;obtain⟨kk,cap,hr',hl,hm,hsz,hcs⟩:=hok;refine⟨kk,cap,hr',hl,hm,hsz,λh0=>?_⟩;obtain⟨cs,e,hw,_,_,hrd⟩:=hcs h0;have hu:(st.bx b).uses (ρ b) kk:=(by rw[hx];exact⟨cap,hr',h0⟩);have hlt:=(h.bx.ok b).lt hu;refine⟨cs,?_,hrd⟩;rw[hJ' kk hlt];unfold Bh;rw[aF ⟨b,sz,es,cap,hb,hx,hr',h0⟩,<- hk kk hlt,hw]
    |var xs=>rw[hx]at hok;exact hok
    |row e l=>rw[hx]at hok;exact hok
    |Eo sz es=>rw[hx]at hok;exact hok
    |absent=>rw[hx]at hok;exact hok
    |dead=>rw[hx]at hok;exact hok
   ·rw[ai hb];exact hok
  ·have hlt:k<w.heap.size:=jH hk0 h.Aj.size;rw[hJ' k hlt];unfold Bh;rw[ai]
   ·exact h.Fa k hk0 hM
   ·rintro⟨b',sz,es,cap,_,hb',hr',h0⟩;rcases h.own b' k (by rw[hb'];exact⟨cap,hr',h0⟩)with h1|h1
    ·omega
    ·exact hM h1
 exact hgx.yf hd' ⟨λ_=>aaF hg hr,λe=>by cases e⟩
end
end
section
section
variable {P:Program} {E:Env P} {I:IH} {ρ:Ren} {n:Nat} {st:iI} {a:Act} {w:World}
theorem Js (l:List (Nat×Box))(st:iI){b:Nat}(h:b ∉ l.map (·.1)):(st.qo l).bx b=st.bx b:=by
 induction l generalizing st with
 |nil=>rfl
 | cons x l ih=>obtain⟨c,x⟩:=x;simp only[bJ,aO,not_or]at h;simp only[iI.qo,ih _ h.2,iI.oP];rw[ai h.1]
theorem afF (l:List (Nat×Box))(st:iI)(hn:(l.map (·.1)).Nodup){j b:Nat}{x:Box}(h:l[j]? = some (b,x)):(st.qo l).bx b=x:=by
 induction l generalizing st j with
 |nil=>simp at h
 | cons y l ih=>
   obtain⟨c,y⟩:=y;simp only[bJ,xe]at hn;cases j with
   | zero=>simp at h;obtain⟨rfl,rfl⟩:=h;simp only[iI.qo];rw[Js _ _ hn.1,iI.oP,aF rfl]
   | succ j=>simp only[iI.qo];exact ih _ hn.2 (by simpa using h)
theorem Vb {π:Nat->Nat}{I:IH}{ρ σ:Ren}{m:Nat}{v:Value}{x:AC}(h:GC I ρ v (FZ π x))(hl:x.sW m=true)(hs:∀b y,b<m->ρ (π b)=some y->σ b=some y):GC I σ v x:=by
 cases x with
 |c y=>exact h
 |ptr b off=>obtain⟨k,cap,h1,h2⟩:=h;exact⟨k,cap,hs _ _ (by simpa[AC.sW]using hl) h1,h2⟩
 |own b n sz=>obtain⟨k,cap,a,c,h1,h2⟩:=h;exact⟨k,cap,a,c,hs _ _ (by simpa[AC.sW]using hl) h1,h2⟩
 |sub b lo n c sz=>obtain⟨k,cap,a,c',h1,h2⟩:=h;exact⟨k,cap,a,c',hs _ _ (by simpa[AC.sW]using hl) h1,h2⟩
 |opt T b=>obtain⟨k,h1,h2⟩:=h;exact⟨k,hs _ _ (by simpa[AC.sW]using hl) h1,h2⟩
 |uM b n=>obtain⟨k,cap,h1,h2⟩:=h;exact⟨k,cap,hs _ _ (by simpa[AC.sW]using hl) h1,h2⟩
 |yE b i sz off=>obtain⟨k,cap,h1,h2⟩:=h;exact⟨k,cap,hs _ _ (by simpa[AC.sW]using hl) h1,h2⟩
 |mM sz=>exact h
 |EG cs=>exact h
 |err g=>exact h
 |Jj=>exact h
 | fn f caps=>obtain⟨ks,h1,h2,h3⟩:=h;refine⟨ks,by simpa using h1,λj b k hb hk=>?_,h3⟩;obtain⟨cap,hc⟩:=h2 j (π b) k (by simp[hb]) hk;refine⟨cap,hs _ _ ?_ hc⟩;have:=aN.1 hl b (iE hb);simpa using this
theorem aaE {π:Nat->Nat}{I:IH}{ρ σ:Ren}{m:Nat}{vs:List Value}{xs:List AC}(h:JH I ρ vs (xs.map (FZ π)))(hl:xs.all (AC.sW m)=true)(hs:∀b y,b<m->ρ (π b)=some y->σ b=some y):JH I σ vs xs:=
 ⟨by simpa using h.1,λj v x hv hx=>Vb (h.2 j v (FZ π x) hv (by simp[hx])) (aN.1 hl x (iE hx)) hs⟩
theorem aiI {π:Nat->Nat}{I:IH}{ρ σ:Ren}{m:Nat}{v:Value}{x:AV}(h:GV I ρ v (CJ π x))(hl:x.all (AC.sW m)=true)(hs:∀b y,b<m->ρ (π b)=some y->σ b=some y):GV I σ v x:=by
 cases x with
 |one x=>exact Vb h hl hs
 |agg xs=>obtain⟨cs,rfl,hg⟩:=h;exact⟨cs,rfl,aaE hg hl hs⟩
 | AX ps=>
   obtain⟨vs,rfl,hz,hp⟩:=h;refine⟨vs,rfl,by simpa using hz,λj v p hv hq=>?_⟩;have h1:=hp j v _ hv (by rw[dD,hq];rfl);have h2:=aN.1 hl p (iE hq);unfold GP at h1⊢;simp only at h1;split at h1
   ·rename_i hb;rw[aF hb];obtain⟨cs,rfl,hg⟩:=h1;exact⟨cs,rfl,aaE hg h2 hs⟩
   ·rename_i hb;rw[ai hb];obtain⟨x,hx,hg⟩:=h1;cases hp2:p.2 with
    |nil=>rw[hp2]at hx;simp at hx
    | cons y t=>rw[hp2]at hx h2;simp at hx;obtain⟨rfl,rfl⟩:=hx;exact⟨y,rfl,Vb hg (by simpa using h2) hs⟩
theorem Va {π:Nat->Nat}{I:IH}{ρ σ:Ren}{v:Value}{x:AC}(h:GC I σ v x)(hs:∀b y,σ b=some y->ρ (π b)=some y):GC I ρ v (FZ π x):=by
 cases x with
 |c y=>exact h
 |ptr b off=>obtain⟨k,cap,h1,h2⟩:=h;exact⟨k,cap,hs _ _ h1,h2⟩
 |own b n sz=>obtain⟨k,cap,a,c,h1,h2⟩:=h;exact⟨k,cap,a,c,hs _ _ h1,h2⟩
 |sub b lo n c sz=>obtain⟨k,cap,a,c',h1,h2⟩:=h;exact⟨k,cap,a,c',hs _ _ h1,h2⟩
 |opt T b=>obtain⟨k,h1,h2⟩:=h;exact⟨k,hs _ _ h1,h2⟩
 |uM b n=>obtain⟨k,cap,h1,h2⟩:=h;exact⟨k,cap,hs _ _ h1,h2⟩
 |yE b i sz off=>obtain⟨k,cap,h1,h2⟩:=h;exact⟨k,cap,hs _ _ h1,h2⟩
 |mM sz=>exact h
 |EG cs=>exact h
 |err g=>exact h
 |Jj=>exact h
 | fn f caps=>
   obtain⟨ks,h1,h2,h3⟩:=h;refine⟨ks,by simpa using h1,λj b k hb hk=>?_,h3⟩;rw[dD]at hb;cases hc:caps[j]? with
   |none=>rw[hc]at hb;cases hb
   | some c=>rw[hc]at hb;simp at hb;subst hb;obtain⟨cap,hc'⟩:=h2 j c k hc hk;exact⟨cap,hs _ _ hc'⟩
theorem aaD {π:Nat->Nat}{I:IH}{ρ σ:Ren}{vs:List Value}{xs:List AC}(h:JH I σ vs xs)(hs:∀b y,σ b=some y->ρ (π b)=some y):JH I ρ vs (xs.map (FZ π)):=by
 refine⟨by simpa using h.1,λj v x hv hx=>?_⟩;rw[dD]at hx;cases hc:xs[j]? with
 |none=>rw[hc]at hx;cases hx
 | some c=>rw[hc]at hx;simp at hx;subst hx;exact Va (h.2 j v c hv hc) hs
theorem aiH {π:Nat->Nat}{I:IH}{ρ σ:Ren}{v:Value}{x:AV}(h:GV I σ v x)(hs:∀b y,σ b=some y->ρ (π b)=some y):GV I ρ v (CJ π x):=by
 cases x with
 |one x=>exact Va h hs
 |agg xs=>obtain⟨cs,rfl,hg⟩:=h;exact⟨cs,rfl,aaD hg hs⟩
 | AX ps=>
   obtain⟨vs,rfl,hz,hp⟩:=h;refine⟨vs,rfl,by simpa using hz,λj v p hv hq=>?_⟩;rw[dD]at hq;cases hc:ps[j]? with
   |none=>rw[hc]at hq;cases hq
   | some q=>
     rw[hc]at hq;simp at hq;subst hq;have h1:=hp j v q hv hc;unfold GP at h1⊢;simp only;split at h1
     ·rename_i hb;rw[aF hb];obtain⟨cs,rfl,hg⟩:=h1;exact⟨cs,rfl,aaD hg hs⟩
     ·rename_i hb;rw[ai hb];obtain⟨x,hx,hg⟩:=h1;exact⟨FZ π x,by rw[hx];rfl,Va hg hs⟩
theorem abK {π:Nat->Nat}{I:IH}{ρ σ:Ren}{m:Nat}{w:World}{b:Nat}{x:Box}(h:BZ I ρ w (π b) (BU π x))(hl:x.sW m=true)(hb:σ b=ρ (π b))(hs:∀b y,b<m->ρ (π b)=some y->σ b=some y):BZ I σ w b x:=by
 cases x with
 |absent=>exact hb.trans h
 |dead=>trivial
 | var xs=>obtain⟨k,cap,cs,hr,hw,hz,hc⟩:=h;refine⟨k,cap,cs,hb.trans hr,hw,by simpa using hz,λj u x hu hx=>Vb (hc j u (FZ π x) hu (by simp[hx])) (aN.1 hl x (iE hx)) hs⟩
 |dat sz es=>obtain⟨k,cap,hr,h⟩:=h;exact⟨k,cap,hb.trans hr,h⟩
 |row e l=>obtain⟨k,cap,hr,h⟩:=h;exact⟨k,cap,hb.trans hr,h⟩
 |Eo sz es=>obtain⟨k,cap,hr,h⟩:=h;exact⟨k,cap,hb.trans hr,h⟩
theorem abJ {π:Nat->Nat}{I:IH}{ρ σ:Ren}{w:World}{b:Nat}{x:Box}(h:BZ I σ w b x)(hb:ρ (π b)=σ b)(hs:∀b y,σ b=some y->ρ (π b)=some y):BZ I ρ w (π b) (BU π x):=by
 cases x with
 |absent=>exact hb.trans h
 |dead=>trivial
 | var xs=>
   obtain⟨k,cap,cs,hr,hw,hz,hc⟩:=h;refine⟨k,cap,cs,hb.trans hr,hw,by simpa using hz,λj u x hu hx=>?_⟩;rw[dD]at hx;cases hc':xs[j]? with
   |none=>rw[hc']at hx;cases hx
   | some c=>rw[hc']at hx;simp at hx;subst hx;exact Va (hc j u c hu hc') hs
 |dat sz es=>obtain⟨k,cap,hr,h⟩:=h;exact⟨k,cap,hb.trans hr,h⟩
 |row e l=>obtain⟨k,cap,hr,h⟩:=h;exact⟨k,cap,hb.trans hr,h⟩
 |Eo sz es=>obtain⟨k,cap,hr,h⟩:=h;exact⟨k,cap,hb.trans hr,h⟩
theorem GY {π:Nat->Nat}{x:Box}{p:Option (Nat×Nat)}{k:Nat} : (BU π x).uses p k<->x.uses p k:=by cases x<;>exact Iff.rfl
theorem aam {l:List Box}{b:Nat}(h:b<l.length):l[b]? = some (zX l b):=by unfold zX;rw[fZ,aA h];rfl
theorem Bf {l:List Box}{b:Nat}(h:l.length<=b):zX l b = .absent:=by unfold zX;rw[fZ,kV h];rfl
theorem WG (h:GX E I ρ n st a w)(hm:E.m<=10){f:FuncId}{vs:List Value}{rX ds:List AV}{d:Option Nat}{K:iI->Prop}{fp:List Box}{L nu:List Nat}{post:AV->List Box->Prop}{sg:List Nat}(hL:sg++nu=L)(hd':∀x,d=some x->x<n)(hv:PM I ρ vs rX)
 (hl:sg.length=fp.length) (hn:L.Nodup) (hf:∀i,i<fp.length->st.bx (L.getD i 0)=BU (λb=>L.getD b 0) (fp.getD i .absent))
 (hnu:∀b,b∈nu->st.bx b = .absent/\10<=b) (hra:(ds.all λx=>x.all (AC.sW fp.length))=true) (hrf:fp.all (Box.sW fp.length)=true) (ha:rX=ds.map (CJ λb=>L.getD b 0)) (hp:oN P f ds fp post)
 (k:∀r bs,post r bs->bs.length=L.length/\K ((st.qo (L.zip (bs.map (BU λb=>L.getD b 0)))).yf d (.v true (CJ (λb=>L.getD b 0) r)))) {X:Ending->World->Prop} (hX:Sl P f vs w X) :
 Calls P f vs.toArray w λe w'=>(∃v,e = .returned v/\AK E n K (a.put d v) w')/\X e w'/\w.heap.size<=w'.heap.size:=by
 generalize hπ:(λb=>L.getD b 0)=π at hf ha k;have akB:∀b,L.getD b 0=π b:=λb=>congrFun hπ b;have hLl:fp.length<=L.length:=by rw[<- hL];simp;omega
 have QJ:∀b,b<L.length->L[b]? = some (π b):=λb hb=>by rw[<- akB,fZ,aA hb];rfl
 have aeD:∀b,b<L.length->π b∈L:=λb hb=>iE (QJ b hb);have aeC:∀b b',b<L.length->b'<L.length->π b=π b'->b=b':=λb b' hb hb' e=>by
  have h1:=QJ b hb;have h2:=QJ b' hb';rw[aA hb]at h1;rw[aA hb']at h2;simp at h1 h2;have hpw:=um.1 hn;rcases yu b b' with hlt|heq|hlt
  ·exact aY (by rw[h1,h2,e]) (hpw b b' hb hb' hlt)
  ·exact heq
  ·exact aY (by rw[h1,h2,e]) (hpw b' b hb' hb hlt)
 let ρc:Ren:=λb=>if b<fp.length then ρ (π b)else none
 have hs:∀b y,b<fp.length->ρ (π b)=some y->ρc b=some y:=λb y hb e=>by simp[ρc,hb,e]
 have hfb:∀b,b<fp.length->st.bx (π b)=BU π (zX fp b):=λb hb=>by have:=hf b hb;rw[akB]at this;exact this
 have hub:∀b k,(zX fp b).uses (ρc b) k->b<fp.length/\(st.bx (π b)).uses (ρ (π b)) k:=λb k hu=>by
  by_cases hb:b<fp.length
  ·refine⟨hb,?_⟩;rw[hfb b hb,GY];simpa[ρc,hb]using hu
  ·rw[Bf aI]at hu;exact hu.elim
 have hBX:BX I ρc w (zX fp):=by
  refine⟨λb=>?_,λb b' k hb hb'=>?_,λb k hb=>?_⟩
  ·by_cases hb:b<fp.length
   ·have:=h.bx.ok (π b);rw[hfb b hb]at this;exact abK this (aN.1 hrf _ (iE (aam hb))) (by simp[ρc,hb]) hs
   ·rw[Bf aI];show ρc b=none;simp[ρc,hb]
  ·obtain⟨h1,h2⟩:=hub b k hb;obtain⟨h1',h2'⟩:=hub b' k hb';exact aeC b b' aI aI (h.bx.inj _ _ _ h2 h2')
  ·exact h.bx.fresh _ _ (hub b k hb).2
 have hGV:PM I ρc vs ds:=by subst ha;refine⟨by simpa using hv.1,λj v x hv' hx=>?_⟩;exact aiI (hv.2 j v (CJ π x) hv' (by simp[hx])) (aN.1 hra x (iE hx)) hs
 refine(hp I ρc w vs h.tabs h.agree hBX hGV _ hX).mono ?_;rintro e w' ⟨⟨v,J,σ,r,bs,rfl,hpost,hg,hA,hB,hle,hF,hbw,hJ,hσ⟩,hXe⟩;obtain⟨hbl,hk⟩:=k r bs hpost;refine⟨⟨v,rfl,?_⟩,hXe,hF.size⟩;have amh:∀b,L.length<=b->σ b=none:=λb hb=>by have:=hB.ok b;rw[Bf aI]at this;exact this
 let ρ':Ren:=λb=>open Classical in if b∈L then σ (L.idxOf b)else ρ b
 have Me:∀b,b<L.length->ρ' (π b)=σ b:=λb hb=>by
  have h1:=aeD b hb;simp only[ρ',h1,kN];have hi:=List.idxOf_lt_length_of_mem h1;have h2:L[L.idxOf (π b)]? = some (π b):=by rw[aA hi];simp
  have h3:=QJ _ hi;rw[h2]at h3;simp only[aC]at h3;rw[<- aeC _ _ hb hi h3]
 have Xa:∀b,b ∉ L->ρ' b=ρ b:=λb hb=>by simp[ρ',hb]
 have hin:∀b,b∈L->∃i,i<L.length/\π i=b:=λb hb=>by
  have hi:=List.idxOf_lt_length_of_mem hb;refine⟨_,hi,?_⟩;have h2:L[L.idxOf b]? = some b:=by rw[aA hi];simp
  have h3:=QJ _ hi;rw[h2]at h3;simpa using h3.symm
 have ah3:∀i,fp.length<=i->i<L.length->π i∈nu:=λi h1 h2=>by have h3:=QJ i h2;rw[<- hL,dw aI]at h3;exact iE h3
 have hle':ρ.le ρ':=λb y hb=>by
  by_cases hm':b∈L
  ·obtain⟨i,hi,rfl⟩:=hin b hm';rw[Me i hi];by_cases hif:i<fp.length
   ·rw[hσ i hif];exact hs i y hif hb
   ·have h1:=(hnu _ (ah3 i aI hi)).1;have h2:=h.bx.ok (π i);rw[h1]at h2;rw[show ρ (π i)=none from h2]at hb;cases hb
  ·rw[Xa b hm'];exact hb
 have akw:∀b y,σ b=some y->ρ' (π b)=some y:=λb y hb=>by
  by_cases hbL:b<L.length
  ·rw[Me b hbL];exact hb
  ·rw[amh b aI]at hb;cases hb
 have hlz:(L.zip (bs.map (BU π))).map (·.1)=L:=by rw[List.map_fst_zip];simp[hbl]
 have ab4:∀i,i<L.length->(st.qo (L.zip (bs.map (BU π)))).bx (π i)=BU π (zX bs i):=λi hi=>by refine afF _ _ (by rw[hlz];exact hn) (j:=i) ?_;rw[List.getElem?_zip_eq_some];exact⟨QJ i hi,by rw[dD,aam aI];rfl⟩
 have hbx2:∀b,b ∉ L->(st.qo (L.zip (bs.map (BU π)))).bx b=st.bx b:=λb hb=>Js _ _ (by rw[hlz];exact hb);have hnot:∀b k,b ∉ L->(st.bx b).uses (ρ b) k->k<w.heap.size/\¬ ∃b',(zX fp b').uses (ρc b') k:=λb k hb hu=>by refine⟨(h.bx.ok b).lt hu,?_⟩;rintro⟨b',hb'⟩;obtain⟨h1,h2⟩:=hub b' k hb';have:=h.bx.inj _ _ _ hu h2;exact hb (this▸aeD b' aI)
 have hother:∀b k,b ∉ L->(st.bx b).uses (ρ b) k->w'.heap[k]? = w.heap[k]?:= λb k hb hu=>let ⟨h1,h2⟩:=hnot b k hb hu;hF.block k h1 h2;have akm:∀i k,i<L.length->(zX bs i).uses (σ i) k->∀b,b ∉ L->¬(st.bx b).uses (ρ b) k:=λi k hi hu b hb hu'=>by
  obtain⟨h1,h2⟩:=hnot b k hb hu';rcases hbw i k hu with h3|h3
  ·omega
  ·exact h2 h3
 generalize hst:st.qo (L.zip (bs.map (BU π)))=st' at *;have htm:st'.tm=st.tm:=by rw[<- hst,MV]
 have hgx:GX E J ρ' n st' a w':=by
  refine{ agree:=hA,bx:=⟨λb=>?_,λb b' k hb hb'=>?_,λb k hb=>?_⟩,tm:=λt ht=>?_,size:=h.size,defers:=h.defers,Aj:=?_,own:=λb k hb=>?_,Kq:=IH.le_trans h.Kq hle,Fa:=λk hk0 hM=>?_,vW:=λb hb=>?_ }
  ·by_cases hb:b∈L
   ·obtain⟨i,hi,rfl⟩:=hin b hb;rw[ab4 i hi];exact abJ (hB.ok i) (Me i hi) akw
   ·rw[hbx2 b hb];exact(h.bx.ok b).keep hle hle' (Xa b hb) (λk hu=>hother b k hb hu)
  ·by_cases hbL:b∈L
   ·obtain⟨i,hi,rfl⟩:=hin b hbL;rw[ab4 i hi,GY,Me i hi]at hb;by_cases WY:b'∈L
    ·obtain⟨i',hi',rfl⟩:=hin b' WY;rw[ab4 i' hi',GY,Me i' hi']at hb';rw[hB.inj _ _ _ hb hb']
    ·rw[hbx2 b' WY,Xa b' WY]at hb';exact aY hb' (akm i k hi hb b' WY)
   ·rw[hbx2 b hbL,Xa b hbL]at hb;by_cases WY:b'∈L
    ·obtain⟨i',hi',rfl⟩:=hin b' WY;rw[ab4 i' hi',GY,Me i' hi']at hb';exact aY hb (akm i' k hi' hb' b hbL)
    ·rw[hbx2 b' WY,Xa b' WY]at hb';exact h.bx.inj _ _ _ hb hb'
  ·by_cases hbL:b∈L
   ·obtain⟨i,hi,rfl⟩:=hin b hbL;rw[ab4 i hi,GY,Me i hi]at hb;exact hB.fresh _ _ hb
   ·rw[hbx2 b hbL,Xa b hbL]at hb;obtain⟨h1,h2⟩:=hnot b k hbL hb;rw[hJ k h1 h2];exact h.bx.fresh _ _ hb
  ·rw[htm];exact(h.tm t ht).mono hle hle'
  ·refine h.Aj.trans hF ?_;rintro x hx ⟨b',hb'⟩;rcases h.own _ _ (hub b' x hb').2 with h1|h1
   ·omega
   ·exact h1
  ·by_cases hbL:b∈L
   ·obtain⟨i,hi,rfl⟩:=hin b hbL;rw[ab4 i hi,GY,Me i hi]at hb;rcases hbw i k hb with h1|⟨b',hb'⟩
    ·exact .inl (dR h.Aj.size h1)
    ·exact h.own _ _ (hub b' k hb').2
   ·rw[hbx2 b hbL,Xa b hbL]at hb;exact h.own _ _ hb
  ·rw[hJ k (jH hk0 h.Aj.size)]
   ·exact h.Fa k hk0 hM
   ·rintro⟨b',hb'⟩;rcases h.own _ _ (hub b' k hb').2 with h1|h1
    ·omega
    ·exact hM h1
  ·by_cases hbL:b∈L
   ·obtain⟨i,hi,rfl⟩:=hin b hbL;rw[Me i hi];by_cases hif:i<fp.length
    ·rw[hσ i hif,<- h.vW _ hb];simp[ρc,hif]
    ·have:=(hnu _ (ah3 i aI hi)).2;omega
   ·rw[Xa b hbL];exact h.vW b hb
 exact⟨J,ρ',_,hk,hgx.yf hd' ⟨λ_=>aiH hg akw,λe=>by cases e⟩⟩
end
end
section
section
variable {P:Program} {E:Env P} {I:IH} {ρ:Ren} {n:Nat} {st:iI} {a:Act} {w:World}
def LK (n:Nat):List Operand->List mY->Bool
 |[],[]=>true
 |x::xs,y::ys=>kD n x y&&LK n xs ys
 |_,_=>false
def I4 (n:Nat)(ops:Array Oper):Option (Nat×Bool)->Option (Nat×Bool)->Bool
 |none,none=>true
 |some (j,w),some (s,w')=>w==w'&&decide (s<n)&&(match ops[j]? with|some o=>o.dst==some s|none=>false)
 |_,_=>false
def YI (n:Nat):Option Nat->Option Nat->Bool
 |none,none=>true
 |some x,some y=>x==y&&decide (x<n)
 |_,_=>false
def Qh (P:Program)(n m:Nat)(op:Op)(d:Option Nat):PE->Bool
 |.op ao=>OY P n m op d ao
 | .call f args=>match op with
   |.call ⟨.value (.func f'),az,_⟩=>f'==f&&LK n az.toList args&&zL P f
   |_=>false
 | .Iz x args=>match op with
   |.call ⟨.value x',az,_⟩=>kD n x' x&&LK n az.toList args
   |_=>false
def Hg (P:Program)(n m:Nat)(ops:Array Oper)(o:Oper)(ao:kE):Bool:=
 I4 n ops o.guard ao.g&&YI n o.dst ao.d&&Qh P n m o.op o.dst ao.i
theorem MN (h:GX E I ρ n st a w):∀{xs:List Operand} {ys:List mY},LK n xs ys=true->(∀y,y∈ys->(y.ev st.tm).g=true) ->
 PM I ρ (xs.map a.eval) (ys.map (dY st.tm))
 |[],[],_,_=>⟨rfl,λj v x hv hx=>by simp at hv⟩
 | x::xs,y::ys,hc,hg=>by
   simp only[LK,ah]at hc;have ih:=MN h hc.2 (λy hy=>hg y (bF _ hy));refine⟨by simpa using ih.1,λj v z hv hz=>?_⟩;cases j with
   | zero=>simp at hv hz;subst hv;subst hz;exact lX h hc.1 (hg y (aG ..))
   |succ j=>exact ih.2 j v z (by simpa using hv) (by simpa using hz)
 |[],_::_,hc,_=>by cases hc
 |_::_,[],hc,_=>by cases hc
theorem aeb {d d':Option Nat}(h:YI n d d'=true):d=d'/\∀x,d'=some x->x<n:=by
 unfold YI at h;split at h
 ·exact⟨rfl,λx hx=>by cases hx⟩
 ·simp only[ah,aH,aj]at h;obtain⟨rfl,h2⟩:=h;exact⟨rfl,λx hx=>by cases hx;exact h2⟩
 ·cases h
theorem WU (h:GX E I ρ n st a w){ops:Array Oper}{o:Oper}{g:Option (Nat×Bool)}(hc:I4 n ops o.guard g=true)(hv:BL st.tm g) :
 yK o (yielded ops a.tmps)=qf st.tm g:=by
 unfold I4 at hc;split at hc
 ·rename_i e;simp[yK,e,qf]
 ·rename_i j wnt s aon e;simp only[ah,aH,aj]at hc;obtain⟨⟨rfl,hs⟩,hj⟩:=hc;have hb:(ops[j]?).bind (·.dst)=some s:=by
   cases hoj:ops[j]? with
   |none=>rw[hoj]at hj;cases hj
   |some o'=>rw[hoj]at hj;simpa using hj
  have ht:=h.tm s hs;have hsz:s<a.tmps.size:=by rw[h.size];exact hs
  have hget:a.tmps[s]? = some (a.tmps.getD s undef):=by simp[Array.getD,hsz]
  simp only[yK,e,qf,yielded,hb,Option.bind_some,hget];simp only[BL]at hv;split at hv
  ·rename_i x hg;rw[hg]at ht;have:=ht.2 rfl;rw[this,hg];simp[undef]
  ·rename_i b hg;rw[hg]at ht;have:=Hq (ht.1 rfl);rw[this,hg];simp
  ·exact hv.elim
 ·cases hc
theorem D7 {o:Oper}{x:Operand}{az:Array Operand}{ts:Array TypeId}{f:FuncId}{caps:Array Value}(ho:o.op = .call ⟨.value x,az,ts⟩)(hx:a.eval x = .func (.func f) #[] caps)(hf:zL P f=true) :
 (execOp a.eval o).run P w = .ok (.enter f (az.map a.eval++caps)) w:=by
 unfold zL at hf;cases hp:P.funcs[f]? with
 |none=>rw[hp]at hf;cases hf
 | some fn=>
   rw[hp]at hf;simp only[ah,jM]at hf;obtain⟨h1,h2⟩:=hf;have h1':¬fn.name = "runtime.NumGoroutine" :=by simpa using h1
   obtain⟨b,hb⟩:=uA.1 h2;simp[execOp,ho,resolve,hx,Go.Deferred.ofValue,invoke,callFunc,hp,h1',hb]
theorem Io {o:Oper}{f:FuncId}{args:Array Value}{K:Act->World->Prop}{Q:Exit->Act->World->Prop}(he:(execOp a.eval o).run P w = .ok (.enter f args) w)
 (h:Calls P f args w λe w'=>∃v,e = .returned v/\K (a.put o.dst v) w'):o.wp P a w K Q:=by
 unfold rV;rw[he,Oper.upon_enter];refine h.mono ?_;rintro e w' ⟨v,rfl,hk⟩;exact hk
theorem FO (h:GX E I ρ n st a w)(hm:E.m<=10){f:FuncId}{vs:List Value}{rX:List AV}{d:Option Nat}{K:List Nat->List Nat->iI->Prop}(hd:∀x,d=some x->x<n)(hv:PM I ρ vs rX)
 (hT:IQ P f rX true d st K) {X:Ending->World->Prop} (hX:Sl P f vs w X):Calls P f vs.toArray w λe w'=>(∃v,e = .returned v/\AK E n (λst=>∃rd wr,K rd wr st) (a.put d v) w')/\X e w'/\w.heap.size<=w'.heap.size:=by
 cases hT with
 |lit ds r hc hds hh hr k=>exact adT h hd hv (hc rfl) hds (hh rfl) hr ⟨_,_,k⟩ hX
 |pure ds r hp hc hds hh hr k=>exact abM h hd hv hc hds hh hr ⟨_,_,k⟩ hX
 | O0 hp az hc ds fp sg nu post hl hn hf hne hnu hra hrf ha hh k=>have hv':=Qp h (bs:=rX.flatMap AV.owns) hv hc (λb hb=>hb);have h':=h.freeze (rX.flatMap AV.owns);refine WG h' hm rfl hd hv' hl hn hf (λb hb=>⟨?_,(hnu b hb).2⟩) hra hrf ha hh (λr bs hpo=>⟨(k r bs hpo).1,_,_,(k r bs hpo).2⟩) hX;rw[yX,(hnu b hb).1];split<;>rfl
 |gen hp ds fp sg nu post hl hn hf hne hnu hra hrf ha hh k=>exact WG h hm rfl hd hv hl hn hf hnu hra hrf ha hh (λr bs hpo=>⟨(k r bs hpo).1,_,_,(k r bs hpo).2⟩) hX
theorem Il {f:FuncId}{rX:List AV}{d:Option Nat}{K:List Nat->List Nat->iI->Prop}(hT:IQ P f rX false d st K):∃r rd wr,K rd wr (st.yf d (.v false r)):=by
 cases hT with
 |lit ds r hc hds hh hr k=>exact⟨_,_,_,k⟩
 |pure ds r hp=>cases hp
 |gen hp=>cases hp
 |O0 hp=>cases hp
def Eg (P:Program)(ops:Array Oper)(Q:Exit->Act->World->Prop)(o:Oper)(K:Act->World->Prop)(a:Act)(w:World):Prop:=
 if yK o (yielded ops a.tmps)then o.wp P a w K Q\/(o.asks P a w/\LetsOut Q)else K (a.put o.dst undef) w
theorem AK.imp {K K':iI->Prop}(hk:∀st,K st->K' st){a:Act}{w:World}(h:AK E n K a w):AK E n K' a w:=
 let ⟨I,ρ,st,h1,h2⟩:=h;⟨I,ρ,st,hk _ h1,h2⟩
theorem aah (h:GX E I ρ n st a w)(hm:E.m<=10){ops:Array Oper}{Q:Exit->Act->World->Prop}{o:Oper}{ao:kE}(hc:Hg P n E.m ops o ao=true){K:List Nat->List Nat->iI->Prop}(hT:T P ao st K) :
 Eg P ops Q o (AK E n λst=>∃rd wr,K rd wr st) a w:=by
 simp only[Hg,ah]at hc;obtain⟨⟨hcg,hcd⟩,hci⟩:=hc;obtain⟨hdd,hdn⟩:=aeb hcd;obtain⟨hgv,hT⟩:=hT;have hw:=WU h hcg hgv;have skip:∀r,(∃rd wr,K rd wr (st.yf ao.d (.v false r)))->AK E n (λst=>∃rd wr,K rd wr st) (a.put o.dst undef) w:=λr hk=>⟨I,ρ,_,hk,by rw[hdd];exact h.yf hdn ⟨(λe=>by cases e),λ_=>rfl⟩⟩;unfold Eg;rw[hw];cases hi:ao.i with
 | op op=>
   rw[hi]at hT hci;obtain⟨h1,h2⟩:=hT;cases hp:qf st.tm ao.g with
   | false=>simpa using skip _ ⟨_,_,h2 hp⟩
   | true=>
     obtain⟨hv,jG,h3⟩:=h1 hp;obtain⟨v,w',I',ρ',hr,hg,aiR,heff⟩:=XA h hci hv jG;simp only[kN];refine .inl ?_;have key:AK E n (λst=>∃rd wr,K rd wr st) (a.put o.dst v) w':=by
      refine⟨I',ρ',_,⟨_,_,h3⟩,?_⟩;rw[hdd];cases hd:ao.d with
      |none=>exact hg
      |some d=>exact hg.put (hdn d hd) ⟨λ_=>aiR (by rw[hdd,hd];simp),λe=>by cases e⟩
     unfold rV;rcases hr with hr|⟨hr,hnd⟩
     ·rw[hr];exact key
     ·rw[hr,BH];rw[hnd]at key⊢;exact key
 | call f args=>
   rw[hi]at hT hci;simp only[Qh]at hci;split at hci
   ·rename_i f' az ts ho;simp only[ah,aH]at hci;obtain⟨⟨rfl,hca⟩,hok⟩:=hci;obtain⟨h1,h2⟩:=hT;cases hp:qf st.tm ao.g with
    | false=>rw[hp]at h2;obtain⟨r,hk⟩:=Il h2;simpa using skip r hk
    | true=>rw[hp]at h1 h2;simp only[kN];refine .inl (Io (D7 ho (x:=.func f') (caps:= #[]) rfl hok) ?_);have hvs:=MN h hca (h1 rfl);have:=(FO h hm hdn hvs h2 .XZ).mono λ_ _ h=>h.1;rw[hdd];simpa[<- Array.toList_map]using this
   ·cases hci
 | Iz x args=>
   rw[hi]at hT hci;simp only[Qh]at hci;split at hci
   ·rename_i x' az ts ho;simp only[ah]at hci;obtain⟨hcx,hca⟩:=hci;obtain⟨hg0,h2⟩:=hT;cases hp:qf st.tm ao.g with
    | false=>rw[hp]at h2;obtain⟨r,hk⟩:=Il h2;simpa using skip r hk
    |true=>
    rw[hp]at h2;obtain⟨hg1,h1⟩:=hg0 hp;split at h2
    ·rename_i hb;cases hb
    ·rename_i f caps _ hf;obtain⟨hok,h2⟩:=h2;have hx:=lX h hcx hg1;rw[hf]at hx;obtain⟨ks,hk1,hk2,hk3⟩:=hx
     ·skip
      simp only[kN];refine .inl (Io (D7 ho hk3 hok) ?_);have hvs:=MN h hca h1;have hvs':PM I ρ (az.toList.map a.eval++ks.map λk=>oh (some ⟨k,0,none⟩)) (args.map (dY st.tm)++caps.map λb=>AV.one (.ptr b 0)):=by
       refine⟨by have:=hvs.1;simp at this;simp[hk1,this],λj v z hv hz=>?_⟩;by_cases hj:j<(az.toList.map a.eval).length
       ·rw[bD hj]at hv;rw[bD (by rw[<- hvs.1];exact hj)]at hz;exact hvs.2 j v z hv hz
       ·rw[dw aI]at hv;rw[dw (by rw[<- hvs.1];omega)]at hz;rw[hvs.1]at hv;generalize j-(args.map (dY st.tm)).length=i at hv hz;rw[dD]at hv hz;cases hki:ks[i]? with
        |none=>rw[hki]at hv;cases hv
        | some k=>
          cases hci:caps[i]? with
          |none=>rw[hci]at hz;cases hz
          | some b=>rw[hki]at hv;rw[hci]at hz;simp at hv hz;subst hv;subst hz;obtain⟨cap,hr⟩:=hk2 i b k hci hki;exact⟨k,cap,hr,rfl⟩
      have:=(FO h hm hdn hvs' h2 .XZ).mono λ_ _ h=>h.1;rw[hdd];have e:(az.map a.eval++(ks.map λk=>oh (some ⟨k,0,none⟩)).toArray)=(az.toList.map a.eval++ks.map λk=>oh (some ⟨k,0,none⟩)).toArray:=(by apply vO;simp);rw[e];exact this
    ·exact h2.elim
   ·cases hci
end
end
section
def En (d:Option Nat)(Γ : List OF):List OF:= Γ.filter λf=>match d with
 |some d=>Ff d f
 |none=>true
def JK (Γ : List OF):Operand->Option (Bool×Knd)
 |.func f=>some (false,kindOf f)
 | .tmp t=>(Γ.filterMap λf=>match f with
   |.fn y s=>if y=t then some (true,match s with|0=>Knd.rd|s+1=>Knd.ow (aei s))else none
   |_=>none).head?
 |_=>none
def aiZ (Γ : List OF)(x:Operand):Bool:=match JK Γ x with
 |some (_,.rd)=>true
 |_=>false
def Og (Γ : List OF):Op->Bool
 |.call ⟨.value x,_,_⟩=>aiZ Γ x
 |op=>Ak op
def aiD (s f n:Nat):Bool:=match s with
 |0=>kindOf f == .rd
 |s+1=>(match kindOf f with|.ow sg=>sg.ps==(aei s).ps++dU n .any&&sg.rs==(aei s).rs|_=>false)
def QX (P:Program)(Γ : List OF)(o:Oper):Option (List OF):=match o.op with
 | .call ⟨.value x,az,_⟩=>(match JK Γ x with
   |some (_,.rd)=>some (En o.dst Γ)
   |some (_,.ow sg)=>if az.size==sg.ps.length then(OG Γ sg az.toList o.dst).map (Tv Γ o.dst)else none
   |_=>none)
 | .makeFunc (.func f) ⟨[]⟩ caps=>(match o.dst with
   |some d=>some ((([0,1,2,3,4].filter λs=>aiD s f caps.size).map (.fn d))++En (some d) Γ)
   |none=>none)
 | .assign (.const v)=>(match o.dst with
   |some d=>some (if ahk v then .ref d ⟨0,o.type,mk d 0⟩::En (some d) Γ else En (some d) Γ)
   |none=>none)
 |op=>(afl P Γ o.dst op).map (aaX Γ o.dst)
def SC (P:Program)(lz:Bool)(Γ : List OF)(o:Oper):Option (List OF):=
 if lz||o.guard.isSome then(if Og Γ o.op then some (En o.dst Γ)else if lz then none else(QX P Γ o).map λGf=>(En o.dst Γ).filter Gf.contains)else QX P Γ o
def OH (P:Program)(lz:Bool)(Γ : List OF)(o:Oper)(ao:kE):Option (List OF):=match ao.i,o.op with
 |.op _,.call ⟨.value _,_,_⟩=>some (En o.dst Γ)
 |_,_=>SC P lz Γ o
def Ky (P:Program)(pl:List Nat)(lz:Bool)(Γ : List OF)(o:Oper)(ao:kE):Option (List OF):=if(pl.any λi=>o.dst==some i)then none else OH P lz Γ o ao
theorem ag1 {s f n:Nat}(h:aiD s f n=true):FV s f n:=by
 unfold aiD at h;unfold FV;split at h
 ·simpa using h
 ·split at h
  ·rename_i sg hk;simp only[ah,aH]at h;exact⟨sg,hk,h.1,h.2⟩
  ·cases h
section
variable {P:Program} {E:Env P} {I:IH} {ρ:Ren} {n:Nat} {st:iI} {a:Act} {w w':World} {Γ : List OF} {g0:Own} {dp:Nat} {lz:Bool}
def LY (E:Env P)(g0:Own)(dp:Nat)(Γ : List OF)(a:Act)(w:World):Prop:=∃g,Rel dp E.w0.heap.size g0 g/\OW P FV g dp Γ a w
theorem LY.drop (h:LY E g0 dp Γ a w)(d:Option Nat)(v:Value):LY E g0 dp (En d Γ) (a.put d v) w:=by
 obtain⟨g,h1,h2⟩:=h;cases d with
 |none=>exact⟨g,h1,h2.weak λf hf=>(aU.1 hf).1⟩
 |some d=>exact⟨g,h1,h2.drop d v⟩
theorem LY.world (h:LY E g0 dp Γ a w)(hs:w.heap.size<=w'.heap.size)(hF:zK w w' λ_=>False):LY E g0 dp Γ a w':=by
 obtain⟨g,h1,h2⟩:=h;refine⟨g,h1,h2.world hs λk hk=>hF.block k ?_ (λh=>h)⟩;cases hg:g k with
 |none=>exact aY hg hk
 |some B=>exact h2.good.lt hg
theorem LY.weak {yN:List OF}(h:LY E g0 dp Γ a w)(hs:∀f,f∈yN->f ∈ Γ):LY E g0 dp yN a w:=
 let ⟨g,h1,h2⟩:=h;⟨g,h1,h2.weak hs⟩
theorem Ti : ∀{xs:List Operand} {ps:List PK} {i n:Nat} {r:List (Nat×Nat)×List (Nat×Nat)},Ej Γ i xs ps=some r->xs.length=ps.length->Ej Γ i xs (ps++dU n .any)=some r
 |[],[],i,n,r,h,_=>by simpa[Ej]using h
 | x::xs,p::ps,i,n,r,h,hl=>by
   simp only[Ej,eH]at h⊢;split at h
   ·rename_i l o l' o' h1 h2;rw[h1,Ti h2 (by simpa using hl)];exact h
   ·cases h
 |_::_,[],i,n,r,_,hl=>by simp at hl
 |[],_::_,i,n,r,_,hl=>by simp at hl
theorem abE : ∀{xs:List Operand} {ps:List PK} {i:Nat} {mv vars:List (Nat×Nat)},Ej Γ i xs ps=some (mv,vars)->∀j b,(j,b)∈vars->j-i<ps.length:=by intro xs ps i mv vars h j b hb;obtain⟨rs,x,s,h1,_⟩:=KI h j b hb;exact(aT.1 h1).1
theorem acB {sg:V6}{xs:List Operand}{d:Option Nat}{C:CR}{m:Nat}(h:OG Γ sg xs d=some C)(hl:xs.length=sg.ps.length):OG Γ ⟨sg.ps++dU m .any,sg.rs⟩ xs d=some C:=by
 unfold OG at h⊢;split at h
 ·rename_i mv vars ha;rw[Ti ha hl]
  dsimp only
  split at h
  ·cases h
  ·rename_i hn;rw[ai hn];split at h
   ·exact h
   ·rename_i i b;have hi:i<sg.ps.length:=(by have:=abE ha i b (aG ..);omega);have:RS (sg.ps++dU m .any) i=RS sg.ps i:=by
     unfold RS;rw[bD hi]
    simp only[this];exact h
   ·cases h
 ·cases h
theorem aaZ (h:GX E I ρ n st a w)(Gg:LY E g0 dp Γ a w){o:Oper}{yN:List OF}{v:Value}(ho:QX P Γ o=some yN)(hd:∀d,o.dst=some d->d<n)(hnc:∀c,o.op = .call c->∀x,c.callee ≠ .value x)
 (hr:(execOp a.eval o).run P w = .ok (.value v) w'\/(execOp a.eval o).run P w = .ok .skip w'/\o.dst=none) (he:Eff o a w w'):LY E g0 dp yN (a.put o.dst v) w':=by
 unfold QX at ho;obtain⟨g,h1,h2⟩:=Gg;split at ho
 ·rename_i x az ts hop;exact aY rfl (hnc _ hop x)
 ·rename_i f caps hop;split at ho
  ·rename_i d hdst;cases ho;have hq':Ak o.op=true:=(by rw[hop];rfl);have hw:=he.quiet hq';subst hw;rw[hdst]at hr⊢;rcases hr with hr|hr
   ·refine⟨g,h1,h2.good,λf' hf=>?_⟩;rw[aS]at hf;rcases hf with hf|hf
    ·rw[bf]at hf;obtain⟨s,hs,rfl⟩:=hf;have hs:=(aU.1 hs).2;simp only[execOp,hop,Instr.makeFunc,cu,bM,bu]at hr;have hv:v = .func (.func f) #[] (caps.map a.eval):=by
      have:=hr;simp at this;exact this.symm
     refine⟨f,caps.map a.eval,?_,by simpa using ag1 hs⟩;rw[ig (by rw[h.size];exact hd d hdst),hv]
    ·rw[En,aU]at hf;exact(h2.fs f' hf.1).put' hf.2
   ·cases hr.2
  ·cases ho
 ·rename_i cv hop;split at ho
  ·rename_i d hdst;have hq':Ak o.op=true:=(by rw[hop];rfl);have hw:=he.quiet hq';subst hw;rw[hdst]at hr⊢;rcases hr with hr|hr
   ·simp only[execOp,hop,bM]at hr;have hv:v=cv:=by
     have:=hr;simp[Act.eval]at this;exact this.symm
    cases ho;refine⟨g,h1,h2.good,λf' hf=>?_⟩;have hdrop:f'∈En (some d) Γ -> BP P FV g dp (a.put (some d) v) _ f':=λhf=>by rw[En,aU]at hf;exact(h2.fs f' hf.1).put' hf.2
    split at hf
    ·rename_i hnil;rcases aO.1 hf with rfl|hf
     ·refine⟨cv,?_,.inl (Pq hnil)⟩;rw[ig (by rw[h.size];exact hd d hdst),hv];have e:=Pq hnil;rw[Zt]at e;rw[e];rfl
     ·exact hdrop hf
    ·exact hdrop hf
   ·cases hr.2
  ·cases ho
 ·simp only[bY]at ho;obtain⟨R,hR,rfl⟩:=ho;obtain⟨g',h3,h4⟩:=XC h2 h.Aj.size (λd e=>by rw[h.size];exact hd d e) hR hr he;exact⟨g',h1.trans h3,h4⟩
theorem ajd (h:GX E I ρ n st a w)(Gg:LY E g0 dp Γ a w){o:Oper}{yN:List OF}{v:Value}(ho:SC P lz Γ o=some yN)(hd:∀d,o.dst=some d->d<n)(hnc:∀c,o.op = .call c->∀x,c.callee ≠ .value x)
 (hr:(execOp a.eval o).run P w = .ok (.value v) w'\/(execOp a.eval o).run P w = .ok .skip w'/\o.dst=none) (he:Eff o a w w'):LY E g0 dp yN (a.put o.dst v) w':=by
 unfold SC at ho;split at ho
 ·split at ho
  ·rename_i hq;cases ho;have hq':Ak o.op=true:=by
    unfold Og at hq;split at hq
    ·rename_i x az ts hop;exact aY rfl (hnc _ hop x)
    ·exact hq
   have hw:=he.quiet hq';subst hw;exact Gg.drop _ _
  ·split at ho
   ·cases ho
   ·obtain⟨Gf,h1,rfl⟩:=bY.1 ho;exact(aaZ h Gg h1 hd hnc hr he).weak λf hf=>iR.1 (aU.1 hf).2
 ·exact aaZ h Gg ho hd hnc hr he
end
end
section
section
variable {ev ev':mY->AV} {bx bx':Nat->Box}
theorem EM {o:Option mY}{k:Nat}(h:∀x,o=some x->ev x=ev' x):bnd ev o k=bnd ev' o k:=by
 cases o with
 |none=>rfl
 |some x=>simp only[bnd,h x rfl]
theorem E5 {n sz:Nat} : ∀{ps:List (Nat×mY)},(∀p,p∈ps->ev p.2=ev' p.2)->xU ev bx n sz ps=xU ev' bx n sz ps/\rZ ev ps=rZ ev' ps/\zC ev bx ps=zC ev' bx ps
 |[],_=>⟨rfl,rfl,rfl⟩
 | (i,x)::r,h=>by obtain⟨h1,h2,h3⟩:=E5 (n:=n) (sz:=sz) (ps:=r) (λp hp=>h p (bF _ hp));simp only[xU,rZ,zC,h (i,x) (aG ..),h1,h2,h3,and_self]
theorem alO (op:mG)(he:∀x,x∈op.nT->ev x=ev' x):op.f ev bx=op.f ev' bx:=by
 cases op
 case build zs ps=>
  have h1:∀p,p∈ps->ev p.2.2=ev' p.2.2:=λp hp=>he _ (AB hp);simp only[mG.f]
  congr 1
  ·apply propext;constructor
   ·intro h p hp;rw[<- h1 p hp];exact h p hp
   ·intro h p hp;rw[h1 p hp];exact h p hp
  ·congr 2
   exact nX λp hp=>by rw[h1 p hp]
 case oD l sz n zs ps=>have h1:∀p,p∈ps->ev p.2=ev' p.2:=λp hp=>he _ (AB hp);obtain⟨c1,c2,c3⟩:=E5 (bx:=bx) (n:=n) (sz:=sz) h1;simp only[mG.f,c1,c2,c3]
 case acz f cs=>have h1:cs.map ev=cs.map ev':=nX λx hx=>he x hx;simp only[mG.f,h1]
 case GM x lo hi=>have h1:=he x (by simp[mG.nT]);have h2:∀y,lo=some y->ev y=ev' y:=λy hy=>he y (by simp[mG.nT,hy]);have h3:∀y,hi=some y->ev y=ev' y:=λy hy=>he y (by simp[mG.nT,hy]);simp only[mG.f,h1,EM h2,EM h3]
 case ZM sz x lo hi=>have h1:=he x (by simp[mG.nT]);have h2:∀y,lo=some y->ev y=ev' y:=λy hy=>he y (by simp[mG.nT,hy]);have h3:∀y,hi=some y->ev y=ev' y:=λy hy=>he y (by simp[mG.nT,hy]);simp only[mG.f,h1,EM h2,EM h3]
 case Lj sz x lo hi=>have h1:=he x (by simp[mG.nT]);have h2:∀y,lo=some y->ev y=ev' y:=λy hy=>he y (by simp[mG.nT,hy]);have h3:∀y,hi=some y->ev y=ev' y:=λy hy=>he y (by simp[mG.nT,hy]);have h4:bnd ev hi=bnd ev' hi:=funext λk=>EM h3;simp only[mG.f,h1,EM h2,h4]
 all_goals
  simp only[mG.nT,aO,jL,or_false,forall_eq_or_imp,forall_eq]at he;simp only[mG.f,he]
theorem akW (op:mG)(he:∀x,x∈op.nT->ev x=ev' x):op.rd ev=op.rd ev':=by
 cases op
 case build zs ps=>rfl
 case oD l sz n zs ps=>have h1:∀p,p∈ps->ev p.2=ev' p.2:=λp hp=>he _ (AB hp);simp only[mG.rd,(E5 (bx:=λ_=>.absent) (n:=n) (sz:=sz) h1).2.1]
 case acz f cs=>rfl
 case GM x lo hi=>rfl
 case ZM sz x lo hi=>rfl
 case Lj sz x lo hi=>rfl
 all_goals
  simp only[mG.nT,aO,jL,or_false,forall_eq_or_imp,forall_eq]at he;simp only[mG.rd,he]
theorem Jy {sz:Nat}{x:AV}(h:∀b,b∈lvl x->bx b=bx' b):yx sz x bx=yx sz x bx':=by
 cases x with
 | one x=>
   cases x
   case own b n sz'=>simp only[yx,h b (by simp[lvl])]
   case sub b lo n c sz'=>simp only[yx,h b (by simp[lvl])]
   case c y=>cases y<;>rfl
   all_goals rfl
 |_=>rfl
theorem aeQ {agg:Bool}{k:Nat}{x:AV}(h:∀b,b∈lvl x->bx b=bx' b):yw agg k x bx=yw agg k x bx':=by
 cases x with
 | one x=>
   cases x
   case ptr b off=>simp only[yw,h b (by simp[lvl])]
   case yE b i sz off=>simp only[yw,h b (by simp[lvl])]
   all_goals rfl
 |_=>rfl
theorem abV {x:AC}(h:∀b,b∈nJ [x]->bx b=bx' b):dataOf bx x=dataOf bx' x:=by
 cases x
 case own b n sz=>simp only[dataOf,h b (by simp[nJ])]
 all_goals rfl
theorem Ub {x:AC}{r:List AC}{b:Nat} : b∈nJ (x::r)<->b∈nJ [x]\/b∈nJ r:=by cases x<;>simp[nJ]
theorem Qq : ∀{xs:List AC},(∀b,b∈nJ xs->bx b=bx' b)->IB bx xs=IB bx' xs/\x9 bx xs=x9 bx' xs/\U8 bx (nJ xs)=U8 bx' (nJ xs)
 |[],_=>⟨rfl,rfl,rfl⟩
 | x::r,h=>by
   obtain⟨h1,h2,h3⟩:=Qq (xs:=r) (λb hb=>h b (Ub.2 (.inr hb)));refine⟨?_,?_,nX λb hb=>by rw[h b hb]⟩
   ·simp only[IB,h1,abV (x:=x) (λb hb=>h b (Ub.2 (.inl hb)))]
   ·cases x
    case own b n sz=>simp only[x9,h2,h b (by simp[nJ])]
    all_goals exact h2
theorem ac3 {agg:Bool}{k:Nat}{p x:AV}(h:∀b,b∈lvl p++(match p with|.one (.yE _ _ _ _)=>nJ x.cells|_=>[])->bx b=bx' b):Bi agg k p x bx=Bi agg k p x bx':=by
 cases p with
 | one p=>
   cases p
   case ptr b off=>simp only[Bi,h b (by simp[lvl])]
   case yE b i sz off=>obtain⟨h1,h2,h3⟩:=Qq (bx:=bx) (bx':=bx') (xs:=x.cells) (λc hc=>h c (by simp only[lvl,aS];exact .inr hc));have h4:=h b (by simp[lvl]);cases x<;>cases agg<;>first|rfl|(simp only[Bi,h4,h1,h2,h3])
   all_goals rfl
 |_=>rfl
theorem Oz {n sz:Nat} : ∀{ps:List (Nat×mY)},(∀b,b∈rZ ev ps->bx b=bx' b)->xU ev bx n sz ps=xU ev bx' n sz ps/\zC ev bx ps=zC ev bx' ps
 |[],_=>⟨rfl,rfl⟩
 | (i,x)::r,h=>by obtain⟨h1,h2⟩:=Oz (n:=n) (sz:=sz) (ps:=r) (λb hb=>h b (by simp only[rZ,aS];exact .inr hb));obtain⟨g1,g2,g3⟩:=Qq (bx:=bx) (bx':=bx') (xs:=(ev x).cells) (λb hb=>h b (by simp only[rZ,aS];exact .inl hb));simp only[xU,zC,h1,h2,g1,g2,and_self]
theorem alN (op:mG)(hb:∀b,b∈op.rd ev->bx b=bx' b):op.f ev bx=op.f ev bx':=by
 cases op
 case load agg k p=>exact aeQ hb
 case store agg k p x=>exact ac3 hb
 case alloc l zs=>simp only[mG.f,hb l (by simp[mG.rd])]
 case FP T e l r=>simp only[mG.f,hb l (by simp[mG.rd]),hb r (by simp[mG.rd])]
 case Nz l sz n zs=>simp only[mG.f,hb l (by simp[mG.rd])]
 case box l x=>simp only[mG.f,hb l (by simp[mG.rd])]
 case oD l sz n zs ps=>
  obtain⟨h1,h2⟩:=Oz (bx:=bx) (bx':=bx') (n:=n) (sz:=sz) (ps:=ps) (λb hm=>hb b (by simp only[mG.rd];exact bF _ hm));have h3:U8 bx (rZ ev ps)=U8 bx' (rZ ev ps):=nX λb hm=>by rw[hb b (by simp only[mG.rd];exact bF _ hm)]
  simp only[mG.f,hb l (by simp[mG.rd]),h1,h2,h3]
 case makes l sz bytes zs n m=>simp only[mG.f,hb l (by simp[mG.rd])]
 case Sv x=>simp only[mG.f,Jy hb]
 case Um sz n x=>
  simp only[mG.f];cases hx:ev x with
  | one y=>
    cases y
    case yE b i sz off=>have:=hb b (by simp[mG.rd,lvl,hx]);cases i<;>cases off<;>simp only[this]
    all_goals rfl
  |_=>rfl
 case append l sz bytes s x=>
  have h1:=hb l (by simp[mG.rd]);simp only[mG.f,Jy (x:=ev x) (λb hb'=>hb b (by simp[mG.rd,hb'])),h1];cases hs:ev s with
  | one y=>
    cases y
    case own b n sz'=>simp only[hb b (by simp[mG.rd,lvl,hs])]
    all_goals rfl
  |_=>rfl
 case copy sz d x=>
  simp only[mG.f,Jy (x:=ev x) (λb hb'=>hb b (by simp[mG.rd,hb']))];cases hs:ev d with
  | one y=>
    cases y
    case own b n sz'=>simp only[hb b (by simp[mG.rd,lvl,hs])]
    all_goals rfl
  |_=>rfl
 case acR l sz bytes s x=>
  have h1:=hb l (by simp[mG.rd]);simp only[mG.f,Ui,Jy (x:=ev x) (λb hb'=>hb b (by simp[mG.rd,hb'])),h1];generalize yx sz (ev x) bx'=so;cases hs:ev s with
  | one y=>
    cases y
    case sub b lo n c sz'=>have h2:=hb b (by simp[mG.rd,lvl,hs]);cases c<;>rcases so with _|⟨p,ys⟩<;>first|rfl|(simp only[h2])
    all_goals(rcases so with _|⟨p,ys⟩<;>rfl)
  |_=>rcases so with _|⟨p,ys⟩<;>rfl
 case abC l sz bytes zs s x=>
  have h1:=hb l (by simp[mG.rd]);simp only[mG.f,Tf,h1];generalize ev x=y';have hb2:∀b,b∈lvl (ev s)->bx b=bx' b:=λb hb'=>hb b (by simp[mG.rd,hb']);rcases y' with x|x|x
  ·rcases x with c|_|_|_|_|_|_|_|_
   ·rcases c with v|_|_
    ·cases v
     case int k q=>
      cases hs:ev s with
      | one y=>
        cases y
        case sub b lo n c sz'=>have h2:=hb2 b (by simp[lvl,hs]);cases c<;>simp[h2]
        all_goals rfl
      |_=>rfl
     all_goals(generalize ev s=z;rcases z with(_|_|_|_|⟨b,lo,n,_|c,sz'⟩|_|_|_|_)|_|_<;>rfl)
    all_goals(generalize ev s=z;rcases z with(_|_|_|_|⟨b,lo,n,_|c,sz'⟩|_|_|_|_)|_|_<;>rfl)
   all_goals(generalize ev s=z;rcases z with(_|_|_|_|⟨b,lo,n,_|c,sz'⟩|_|_|_|_)|_|_<;>rfl)
  all_goals(generalize ev s=z;rcases z with(_|_|_|_|⟨b,lo,n,_|c,sz'⟩|_|_|_|_)|_|_<;>rfl)
 case acV sz d x=>
  have ht:∀m,lvl (truncS m (ev x))=lvl (ev x):=λm=>by rcases ev x with(_|_|_|_|_|_|_|_|_)|_|_<;>rfl
  have hsrc:∀m,yx sz (truncS m (ev x)) bx=yx sz (truncS m (ev x)) bx':=λm=>Jy (λb hb'=>hb b (by rw[ht]at hb';simp[mG.rd,hb']));simp only[mG.f,Uk,hsrc];cases hs:ev d with
  | one y=>
    cases y
    case own b n sz'=>have h2:=hb b (by simp[mG.rd,lvl,hs]);simp only[CS];rcases yx sz (truncS n (ev x)) bx' with _|⟨p,ys⟩<;>first|rfl|(simp only[h2])
    case sub b lo n c sz'=>have h2:=hb b (by simp[mG.rd,lvl,hs]);simp only[CS];rcases yx sz (truncS n (ev x)) bx' with _|⟨p,ys⟩<;>first|rfl|(simp only[h2])
    all_goals rfl
  |_=>rfl
 case ovl x y=>
  have key:∀(u:AV),(∀b,b∈lvl u->bx b=bx' b)->∀b lo n c sz,CS u=some (b,lo,n,c,sz)->bx b=bx' b:=by
   intro u hu b lo n c sz hs;unfold CS at hs;split at hs
   ·cases hs;exact hu _ (by simp[lvl])
   ·cases hs;exact hu _ (by simp[lvl])
   ·cases hs
  have k1:=key (ev x) (λb hb'=>hb b (by simp[mG.rd,hb']));have k2:=key (ev y) (λb hb'=>hb b (by simp[mG.rd,hb']));simp only[mG.f,Vy];generalize CS (ev x)=u at k1;generalize CS (ev y)=v at k2;rcases u with _|⟨b,lo,n,c,sz⟩<;>rcases v with _|⟨b',lo',n',c',sz'⟩<;>try rfl
  simp only[k1 b lo n c sz rfl,k2 b' lo' n' c' sz' rfl]
 case acT sz zs x=>
  simp only[mG.f,Uj];cases hs:ev x with
  | one y=>
    cases y
    case own b n sz'=>simp only[CS,hb b (by simp[mG.rd,lvl,hs])]
    case sub b lo n c sz'=>simp only[CS,hb b (by simp[mG.rd,lvl,hs])]
    all_goals rfl
  |_=>rfl
 all_goals rfl
theorem afV {e e':mY->Slot}(op:mG)(he:∀x,x∈op.nT->e x=e' x)(h:op.valid e):op.valid e':=by
 cases op
 case pick c a b=>have h1:=he c (by simp[mG.nT]);have h2:=he a (by simp[mG.nT]);have h3:=he b (by simp[mG.nT]);simp only[mG.valid,h1,h2,h3]at h⊢;exact h
 all_goals exact λx hx=>he x hx▸h x hx
theorem ahY {x y:AC}(h:Cv bx x y)(hb:∀b,b∈nJ [x]->bx b=bx' b):Cv bx' x y:=by
 cases h with
 |refl=>exact .refl _
 |mM sz=>exact .mM sz
 |own b n sz es ha hn=>exact .own b n sz es (by rw[<- hb b (by simp[nJ])];exact ha) hn
theorem aiy {xs ys:List AC}(h:CvL bx xs ys)(hb:∀b,b∈nJ xs->bx b=bx' b):CvL bx' xs ys:=by
 induction h with
 |nil=>exact .nil
 |cons h t ih=>exact .cons (ahY h λb hb'=>hb b (Ce.2 (.inl hb'))) (ih λb hb'=>hb b (Ce.2 (.inr hb')))
theorem aiw {x y:AV}(h:CvA bx x y)(hb:∀b,b∈x.owns->bx b=bx' b):CvA bx' x y:=by
 cases h with
 |one h=>exact .one (ahY h hb)
 |agg h=>exact .agg (aiy h hb)
theorem U2 {xs ys:List AV}(h:KA bx xs ys)(hb:∀b,b∈xs.flatMap AV.owns->bx b=bx' b):KA bx' xs ys:=by
 induction h with
 |nil=>exact .nil
 |cons h t ih=>exact .cons (aiw h λb hb'=>hb b (by rw[bG];exact dG _ hb')) (ih λb hb'=>hb b (by rw[bG];exact dZ _ hb'))
end
structure PG where
 rd:List Nat
 wr:List Nat
 outs:Slot->List (Nat×Box)->Prop
inductive EW (P:Program)(f:FuncId)(rX:List AV)(p:Bool)(bx:Nat->Box):PG->Prop
 |lit (ds:List AV) (r:AV) (hc:p=true->KA bx rX ds) (hd:ds.all (·.all AC.vC)=true) (h:p=true->iW P f ds r) (hr:r.all AC.isLit=true) :
  EW P f rX p bx ⟨rX.flatMap AV.owns,[],λs bs=>s = .v p r/\bs=[]⟩
 |pure (ds:List AV) (r:AV) (hp:p=true) (hc:KA bx rX ds) (hd:ds.all (·.all AC.vC)=true) (h:iW P f ds r) (hr:r.all AC.vC=true) :
  EW P f rX p bx ⟨rX.flatMap AV.owns,rX.flatMap AV.owns,λs bs=>s = .v true r/\bs=(rX.flatMap AV.owns).map λb=>(b,FT (bx b))⟩
 |gen (hp:p=true) (ds:List AV) (fp:List Box) (sg nu:List Nat) (post:AV->List Box->Prop)
  (hl:sg.length=fp.length) (hn:(sg++nu).Nodup) (hf:∀i,i<fp.length->bx ((sg++nu).getD i 0)=BU (λb=>(sg++nu).getD b 0) (fp.getD i .absent))
  (hne:∃r bs,post r bs) (hv:∀b,b∈nu->bx b = .absent/\10<=b) (hra:(ds.all λx=>x.all (AC.sW fp.length))=true) (hrf:fp.all (Box.sW fp.length)=true) (ha:rX=ds.map (CJ λb=>(sg++nu).getD b 0)) (h:oN P f ds fp post)
  (hlen:∀r bs,post r bs->bs.length=(sg++nu).length) :
  EW P f rX p bx ⟨sg++nu,sg++nu,λs bs=>∃r bs',post r bs'/\s = .v true (CJ (λb=>(sg++nu).getD b 0) r)/\bs=(sg++nu).zip (bs'.map (BU λb=>(sg++nu).getD b 0))⟩
 |O0 (hp:p=true) (az:List AV) (hc:KA bx rX az) (ds:List AV) (fp:List Box) (sg nu:List Nat) (post:AV->List Box->Prop)
     (hl:sg.length=fp.length) (hn:(sg++nu).Nodup) (hf:∀i,i<fp.length->(if(sg++nu).getD i 0∈rX.flatMap AV.owns then FT (bx ((sg++nu).getD i 0))else bx ((sg++nu).getD i 0))=BU (λb=>(sg++nu).getD b 0) (fp.getD i .absent))
     (hne:∃r bs,post r bs) (hv:∀b,b∈nu->bx b = .absent/\10<=b) (hra:(ds.all λx=>x.all (AC.sW fp.length))=true) (hrf:fp.all (Box.sW fp.length)=true) (ha:az=ds.map (CJ λb=>(sg++nu).getD b 0)) (h:oN P f ds fp post)
     (hlen:∀r bs,post r bs->bs.length=(sg++nu).length) :
     EW P f rX p bx ⟨rX.flatMap AV.owns++(sg++nu),rX.flatMap AV.owns++(sg++nu),λs bs=>∃r bs',post r bs'/\s = .v true (CJ (λb=>(sg++nu).getD b 0) r) /\
      bs=((rX.flatMap AV.owns).map λb=>(b,FT (bx b)))++(sg++nu).zip (bs'.map (BU λb=>(sg++nu).getD b 0))⟩
def Nq (P:Program)(o:kE)(st:iI)(D:PG):Prop:=
 BL st.tm o.g/\match o.i with
  |.op op=>(qf st.tm o.g=true->op.valid (mY.ev st.tm)/\(op.f (dY st.tm) st.bx).vc /\
   D=⟨op.rd (dY st.tm),(op.f (dY st.tm) st.bx).sets.map (·.1),λs bs=>s = .v true (op.f (dY st.tm) st.bx).v/\bs=(op.f (dY st.tm) st.bx).sets⟩) /\
   (qf st.tm o.g=false->D=⟨[],[],λs bs=>s = .v false (.one .Jj)/\bs=[]⟩)
  |.call f args=>(qf st.tm o.g=true->∀x,x∈args->(x.ev st.tm).g=true)/\EW P f (args.map (dY st.tm)) (qf st.tm o.g) st.bx D
  | .Iz x args=>(qf st.tm o.g=true->(x.ev st.tm).g=true/\∀x,x∈args->(x.ev st.tm).g=true)/\match qf st.tm o.g,dY st.tm x with
    |false,_=>EW P 0 [] false st.bx D
    |true,.one (.fn f caps)=>zL P f=true/\EW P f (args.map (dY st.tm)++caps.map λb=>.one (.ptr b 0)) true st.bx D
    |true,_=>False
section
variable {P:Program} {st st':iI} {K:List Nat->List Nat->iI->Prop}
theorem Ol {f:FuncId}{rX:List AV}{p:Bool}{d:Option Nat} : IQ P f rX p d st K<->∃D,EW P f rX p st.bx D/\∀s bs,D.outs s bs->K D.rd D.wr ((st.qo bs).yf d s):=by
 constructor
 ·intro h;cases h with
  |lit ds r hc hd hh hr k=>exact⟨_,.lit ds r hc hd hh hr,λs bs ⟨h1,h2⟩=>by subst h1;subst h2;exact k⟩
  |pure ds r hp hc hd hh hr k=>exact⟨_,.pure ds r hp hc hd hh hr,λs bs ⟨h1,h2⟩=>by subst h1;subst h2;rw[Dc];exact k⟩
  | O0 hp az hc ds fp sg nu post hl hn hf hne hv hra hrf ha hh k=>exact⟨_,.O0 hp az hc ds fp sg nu post hl hn hf hne hv hra hrf ha hh (λr bs hp=>(k r bs hp).1),λs bs ⟨r,bs',hp,h1,h2⟩=>by subst h1;subst h2;rw[Ie,Dc];exact(k r bs' hp).2⟩
  | gen hp ds fp sg nu post hl hn hf hne hv hra hrf ha hh k=>exact⟨_,.gen hp ds fp sg nu post hl hn hf hne hv hra hrf ha hh (λr bs hp=>(k r bs hp).1),λs bs ⟨r,bs',hp,h1,h2⟩=>by subst h1;subst h2;exact(k r bs' hp).2⟩
 ·rintro⟨D,hD,hk⟩;cases hD with
  |lit ds r hc hd hh hr=>exact .lit ds r hc hd hh hr (hk _ _ ⟨rfl,rfl⟩)
  |pure ds r hp hc hd hh hr=>exact .pure ds r hp hc hd hh hr (by have:=hk _ _ ⟨rfl,rfl⟩;rw[Dc]at this;exact this)
  | O0 hp az hc ds fp sg nu post hl hn hf hne hv hra hrf ha hh hlen=>exact .O0 hp az hc ds fp sg nu post hl hn hf hne hv hra hrf ha hh (λr bs hp=>⟨hlen r bs hp,by have:=hk _ _ ⟨r,bs,hp,rfl,rfl⟩;rw[Ie,Dc]at this;exact this⟩)
  | gen hp ds fp sg nu post hl hn hf hne hv hra hrf ha hh hlen=>exact .gen hp ds fp sg nu post hl hn hf hne hv hra hrf ha hh (λr bs hp=>⟨hlen r bs hp,hk _ _ ⟨r,bs,hp,rfl,rfl⟩⟩)
theorem Iw {o:kE} : T P o st K<->∃D,Nq P o st D/\∀s bs,D.outs s bs->K D.rd D.wr ((st.qo bs).yf o.d s):=by
 unfold T Nq;cases o.i with
 | op op=>
   unfold TOp;cases hp:qf st.tm o.g with
   | true=>
     constructor
     ·rintro⟨hg,h1,_⟩;obtain⟨a1,a2,a3⟩:=h1 rfl;exact⟨_,⟨hg,λ_=>⟨a1,a2,rfl⟩,λe=>by cases e⟩,λs bs ⟨e1,e2⟩=>by subst e1;subst e2;exact a3⟩
     ·rintro⟨D,⟨hg,h1,_⟩,hk⟩;obtain⟨a1,a2,rfl⟩:=h1 rfl;exact⟨hg,λ_=>⟨a1,a2,hk _ _ ⟨rfl,rfl⟩⟩,λe=>by cases e⟩
   | false=>
     constructor
     ·rintro⟨hg,_,h2⟩;exact⟨_,⟨hg,(λe=>by cases e),λ_=>rfl⟩,λs bs ⟨e1,e2⟩=>by subst e1;subst e2;exact h2 rfl⟩
     ·rintro⟨D,⟨hg,_,h2⟩,hk⟩;have:=h2 rfl;subst this;exact⟨hg,(λe=>by cases e),λ_=>hk _ _ ⟨rfl,rfl⟩⟩
 | call f args=>
   simp only[sV,Ol];constructor
   ·rintro⟨hg,h1,D,h2,h3⟩;exact⟨D,⟨hg,h1,h2⟩,h3⟩
   ·rintro⟨D,⟨hg,h1,h2⟩,h3⟩;exact⟨hg,h1,D,h2,h3⟩
 | Iz x args=>
   simp only;cases qf st.tm o.g with
   | false=>
     simp only[sV,Ol];constructor
     ·rintro⟨hg,h1,D,h2,h3⟩;exact⟨D,⟨hg,h1,h2⟩,h3⟩
     ·rintro⟨D,⟨hg,h1,h2⟩,h3⟩;exact⟨hg,h1,D,h2,h3⟩
   |true=>
   cases dY st.tm x with
   | one y=>
     cases y
     case fn f caps=>
      simp only[sV,Ol];constructor
      ·rintro⟨hg,h1,h0,D,h2,h3⟩;exact⟨D,⟨hg,h1,h0,h2⟩,h3⟩
      ·rintro⟨D,⟨hg,h1,h0,h2⟩,h3⟩;exact⟨hg,h1,h0,D,h2,h3⟩
     all_goals exact⟨λh=>h.2.2.elim,λ⟨D,h,_⟩=>h.2.2.elim⟩
   |_=>exact⟨λh=>h.2.2.elim,λ⟨D,h,_⟩=>h.2.2.elim⟩
theorem EW.bx {f:FuncId}{rX:List AV}{p:Bool}{bx bx':Nat->Box}{D:PG}(h:EW P f rX p bx D)(hb:∀b,b∈D.rd->bx b=bx' b):EW P f rX p bx' D:=by
 cases h with
 |lit ds r hc hd hh hr=>exact .lit ds r (λe=>U2 (hc e) hb) hd hh hr
 | pure ds r hp hc hd hh hr=>have e:((rX.flatMap AV.owns).map λb=>(b,FT (bx b)))=(rX.flatMap AV.owns).map λb=>(b,FT (bx' b)):=nX λb hb'=>(by rw[hb b hb']);simp only[e];exact .pure ds r hp (U2 hc hb) hd hh hr
 | O0 hp az hc ds fp sg nu post hl hn hf hne hv hra hrf ha hh hlen=>
   have e:((rX.flatMap AV.owns).map λb=>(b,FT (bx b)))=(rX.flatMap AV.owns).map λb=>(b,FT (bx' b)):=nX λb hb'=>(by rw[hb b (dG _ hb')]);simp only[e];refine .O0 hp az (U2 hc λb hm=>hb b (dG _ hm)) ds fp sg nu post hl hn (λi hi=>?_) hne (λb hm=>?_) hra hrf ha hh hlen
   ·rw[<- hb]
    ·exact hf i hi
    ·show(sg++nu).getD i 0∈rX.flatMap AV.owns++(sg++nu);have:i<(sg++nu).length:=(by simp;omega);rw[fZ,aA this];exact dZ _ (fU this)
   ·rw[<- hb b (dZ _ (dZ _ hm))];exact hv b hm
 | gen hp ds fp sg nu post hl hn hf hne hv hra hrf ha hh hlen=>
   refine .gen hp ds fp sg nu post hl hn (λi hi=>?_) hne (λb hm=>?_) hra hrf ha hh hlen
   ·rw[<- hb]
    ·exact hf i hi
    ·show(sg++nu).getD i 0∈sg++nu;have:i<(sg++nu).length:=(by simp;omega);rw[fZ,aA this];exact fU this
   ·rw[<- hb b (dZ _ hm)];exact hv b hm
theorem EW.ne {f:FuncId}{rX:List AV}{p:Bool}{bx:Nat->Box}{D:PG}(h:EW P f rX p bx D):∃s bs,D.outs s bs:=by
 cases h with
 |lit=>exact⟨_,_,rfl,rfl⟩
 |pure=>exact⟨_,_,rfl,rfl⟩
 |gen hp ds fp sg nu post hl hn hf hne=>obtain⟨r,bs,h⟩:=hne;exact⟨_,_,r,bs,h,rfl,rfl⟩
 |O0 hp az hc ds fp sg nu post hl hn hf hne=>obtain⟨r,bs,h⟩:=hne;exact⟨_,_,r,bs,h,rfl,rfl⟩
theorem EW.fst {f:FuncId}{rX:List AV}{p:Bool}{bx:Nat->Box}{D:PG}(h:EW P f rX p bx D){s:Slot}{bs:List (Nat×Box)}(ho:D.outs s bs):∀b,b∈bs.map (·.1)->b∈D.wr:=by
 cases h with
 |lit=>obtain⟨_,rfl⟩:=ho;intro b hb;simp at hb
 |pure=>obtain⟨_,rfl⟩:=ho;intro b hb;simpa using hb
 | O0 hp az hc ds fp sg nu post hl hn hf hne=>
   obtain⟨r,bs',_,_,rfl⟩:=ho;intro b hb;rw[rH,aS]at hb;rcases hb with hb|hb
   ·exact dG _ (by simpa using hb)
   ·obtain⟨x,hx,rfl⟩:=bf.1 hb;exact dZ _ (List.of_mem_zip (a:=x.1) (b:=x.2) hx).1
 | gen hp ds fp sg nu post hl hn hf hne=>obtain⟨r,bs',_,_,rfl⟩:=ho;intro b hb;obtain⟨x,hx,rfl⟩:=bf.1 hb;exact(List.of_mem_zip (a:=x.1) (b:=x.2) hx).1
theorem Nq.ne {o:kE}{D:PG}(h:Nq P o st D):∃s bs,D.outs s bs:=by
 obtain⟨_,h⟩:=h;split at h
 ·cases hp:qf st.tm o.g with
  |true=>obtain⟨_,_,rfl⟩:=h.1 hp;exact⟨_,_,rfl,rfl⟩
  |false=>have:=h.2 hp;subst this;exact⟨_,_,rfl,rfl⟩
 ·exact h.2.ne
 ·obtain⟨_,h⟩:=h;split at h
  ·exact h.ne
  ·exact h.2.ne
  ·exact h.elim
theorem Nq.fst {o:kE}{D:PG}(h:Nq P o st D){s:Slot}{bs:List (Nat×Box)}(ho:D.outs s bs):∀b,b∈bs.map (·.1)->b∈D.wr:=by
 obtain⟨_,h⟩:=h;split at h
 ·cases hp:qf st.tm o.g with
  |true=>obtain⟨_,_,rfl⟩:=h.1 hp;obtain⟨_,rfl⟩:=ho;exact λb hb=>hb
  |false=>have:=h.2 hp;subst this;obtain⟨_,rfl⟩:=ho;exact λb hb=>hb
 ·exact h.2.fst ho
 ·obtain⟨_,h⟩:=h;split at h
  ·exact h.fst ho
  ·exact h.2.fst ho
  ·exact h.elim
def PE.slots (i:PE):List Nat:=match i with
 |PE.op o=>o.nT.flatMap mY.slots
 |PE.call _ args=>args.flatMap mY.slots
 |PE.Iz x args=>x.slots++args.flatMap mY.slots
def kE.slots (o:kE):List Nat:=o.g.toList.map (·.1)++o.i.slots
def kE.aeF (o:kE):Bool:=match o.i with
 |PE.op _=>true
 |_=>false
theorem aax {tm tm':Nat->Slot}{x:mY}(h:∀t,t∈x.slots->tm t=tm' t):x.ev tm=x.ev tm':=by
 cases x with
 |t s=>exact h s (by simp[mY.slots])
 |k x=>rfl
theorem aeo {tm tm':Nat->Slot}{g:Option (Nat×Bool)}(h:∀t,t∈g.toList.map (·.1)->tm t=tm' t):(BL tm g<->BL tm' g)/\qf tm g=qf tm' g:=by
 cases g with
 |none=>exact⟨Iff.rfl,rfl⟩
 | some p=>obtain⟨s,w⟩:=p;have:=h s nV;simp only[BL,qf,this,and_self,iff_self]
theorem Nq.local {o:kE}{D:PG}(h:Nq P o st D)(ht:∀t,t∈o.slots->st.tm t=st'.tm t)(hb:∀b,b∈D.rd->st.bx b=st'.bx b):Nq P o st' D:=by
 unfold Nq at h⊢;obtain⟨hg1,hg2⟩:=aeo (tm:=st.tm) (tm':=st'.tm) (g:=o.g) (λt h'=>ht t (dG _ h'));have ht':∀t,t∈o.i.slots->st.tm t=st'.tm t:=λt h'=>ht t (dZ _ h');refine⟨hg1.1 h.1,?_⟩;obtain⟨_,h⟩:=h;rw[hg2]at h;cases hi:o.i with
 | op op=>simp only[hi,PE.slots]at h ht'⊢;have he:∀x,x∈op.nT->mY.ev st.tm x=mY.ev st'.tm x:=λx hx=>aax λt hm=>ht' t (jX.2 ⟨x,hx,hm⟩);have hea:∀x,x∈op.nT->dY st.tm x=dY st'.tm x:=λx hx=>(by unfold dY;rw[he x hx]);obtain⟨h1,h2⟩:=h;refine⟨λe=>?_,h2⟩;obtain⟨a1,a2,rfl⟩:=h1 e;have hf:op.f (dY st.tm) st.bx=op.f (dY st'.tm) st'.bx:=(alN op hb).trans (alO op hea);rw[hf]at a2;refine⟨afV op he a1,a2,?_⟩;rw[hf,akW op hea]
 | call f args=>simp only[hi,PE.slots]at h ht'⊢;have he:∀x,x∈args->mY.ev st.tm x=mY.ev st'.tm x:=λx hx=>aax λt hm=>ht' t (jX.2 ⟨x,hx,hm⟩);have hm:args.map (dY st.tm)=args.map (dY st'.tm):=nX λx hx=>(by unfold dY;rw[he x hx]);rw[hm]at h;exact⟨λe x hx=>he x hx▸h.1 e x hx,h.2.bx hb⟩
 | Iz x args=>
   simp only[hi,PE.slots]at h ht'⊢;have he:∀x,x∈args->mY.ev st.tm x=mY.ev st'.tm x:=λx hx=>aax λt hm=>ht' t (dZ _ (jX.2 ⟨x,hx,hm⟩));have hex:mY.ev st.tm x=mY.ev st'.tm x:=aax λt hm=>ht' t (dG _ hm);have hm:args.map (dY st.tm)=args.map (dY st'.tm):=nX λx hx=>(by unfold dY;rw[he x hx]);have hmx:dY st.tm x=dY st'.tm x:=(by unfold dY;rw[hex]);obtain⟨h1,h2⟩:=h;rw[hm,hmx]at h2;refine⟨λe=>⟨hex▸(h1 e).1,λy hy=>he y hy▸(h1 e).2 y hy⟩,?_⟩;split at h2
   ·exact h2.bx hb
   ·exact⟨h2.1,h2.2.bx hb⟩
   ·exact h2.elim
theorem Nq.det {o:kE}{D D':PG}(hop:o.aeF=true)(h:Nq P o st D)(h':Nq P o st D'):D=D':=by
 unfold Nq at h h';unfold kE.aeF at hop;cases hi:o.i with
 | op op=>
   rw[hi]at h h';cases hp:qf st.tm o.g with
   |true=>exact(h.2.1 hp).2.2.trans (h'.2.1 hp).2.2.symm
   |false=>exact(h.2.2 hp).trans (h'.2.2 hp).symm
 |call f args=>rw[hi]at hop;cases hop
 |Iz x args=>rw[hi]at hop;cases hop
end
end
section
section
variable {P:Program} {st st':iI}
theorem I7 {a b:List Nat} : KO a b=true<->∀x,x∈a->x ∉ b:=by simp[KO,aN]
def G9 (x y:kE):Bool:=
 KO x.d.toList y.slots&&KO y.d.toList x.slots&&KO x.d.toList y.d.toList&&(x.aeF||y.aeF)
def app (x:kE)(st:iI)(s:Slot)(bs:List (Nat×Box)):iI:=(st.qo bs).yf x.d s
theorem KH {x:kE}{s:Slot}{bs:List (Nat×Box)}{t:Nat}(h:t ∉ x.d.toList):(app x st s bs).tm t=st.tm t:=by
 unfold app;cases hd:x.d with
 |none=>simp only[iI.yf,MV]
 | some d=>simp only[iI.yf,iI.Rf,MV];rw[ai];intro e;subst e;exact h (by simp[hd])
theorem MP (st:iI)(d:Option Nat)(s:Slot):(st.yf d s).bx=st.bx:=by cases d<;>rfl
theorem KG {x:kE}{s:Slot}{bs:List (Nat×Box)}{b:Nat}(h:b ∉ bs.map (·.1)):(app x st s bs).bx b=st.bx b:=by unfold app;rw[MP,Js _ _ h]
theorem Rq (l:List (Nat×Box)){st st':iI}{b:Nat}(h:st.bx b=st'.bx b):(st.qo l).bx b=(st'.qo l).bx b:=by
 induction l generalizing st st' with
 |nil=>exact h
 | cons x l ih=>
   obtain⟨c,y⟩:=x;simp only[iI.qo];apply ih;simp only[iI.oP];split
   ·rfl
   ·exact h
theorem Jr (l:List (Nat×Box)){st st':iI}{b:Nat}(h:b∈l.map (·.1)):(st.qo l).bx b=(st'.qo l).bx b:=by
 induction l generalizing st st' with
 |nil=>simp at h
 | cons x l ih=>
   obtain⟨c,y⟩:=x;simp only[iI.qo];by_cases hc:b=c
   ·apply Rq;simp[iI.oP,hc]
   ·simp only[bJ,aO]at h;exact ih (h.resolve_left hc)
theorem Wn {x y:kE}{s s':Slot}{bs bs':List (Nat×Box)}(hd:KO x.d.toList y.d.toList=true)(hb:∀b,b∈bs.map (·.1)->b ∉ bs'.map (·.1)) :
 app y (app x st s bs) s' bs'=app x (app y st s' bs') s bs:=by
 rw[I7]at hd;apply iI.ext'
 ·funext t
  by_cases h1:t∈x.d.toList
  ·have h2:=hd t h1;rw[KH h2];cases hx:x.d with
   |none=>rw[hx]at h1;simp at h1
   | some d=>rw[hx]at h1;simp at h1;subst h1;simp[app,hx,iI.yf,iI.Rf]
  ·rw[KH (x:=x) h1];by_cases h2:t∈y.d.toList
   ·cases hy:y.d with
    |none=>rw[hy]at h2;simp at h2
    | some d=>rw[hy]at h2;simp at h2;subst h2;simp[app,hy,iI.yf,iI.Rf]
   ·rw[KH h2,KH h2,KH h1]
 ·funext b
  by_cases h1:b∈bs.map (·.1)
  ·rw[KG (hb b h1)];unfold app;rw[MP,MP];exact Jr _ h1
  ·rw[KG (x:=x) h1];by_cases h2:b∈bs'.map (·.1)
   ·unfold app;rw[MP,MP];exact Jr _ h2
   ·rw[KG h2,KG h2,KG h1]
def apartB (rd wr rd' wr':List Nat):Bool:=KO wr' rd&&KO wr' wr&&KO rd' wr
theorem Nq.skip {x y:kE}{D Dx:PG}(h:Nq P y st D)(hx:Nq P x st Dx)(hs:KO x.d.toList y.slots=true)(hb:∀b,b∈Dx.wr->b ∉ D.rd){s:Slot}{bs:List (Nat×Box)}(ho:Dx.outs s bs):Nq P y (app x st s bs) D:=
 h.local (λt ht=>(KH λhd=>(I7.1 hs) t hd ht).symm) (λb hr=>(KG λhm=>hb b (hx.fst ho b hm) hr).symm)
theorem Nq.ZU {x y:kE}{D Dx:PG}{s:Slot}{bs:List (Nat×Box)}(h:Nq P y (app x st s bs) D)(hx:Nq P x st Dx)(hs:KO x.d.toList y.slots=true)(hb:∀b,b∈Dx.wr->b ∉ D.rd)(ho:Dx.outs s bs):Nq P y st D:=
 h.local (λt ht=>KH λhd=>(I7.1 hs) t hd ht) (λb hr=>KG λhm=>hb b (hx.fst ho b hm) hr)
theorem IW {rd wr rd' wr':List Nat}(h:apartB rd wr rd' wr'=true):(∀b,b∈wr->b ∉ rd')/\(∀b,b∈wr'->b ∉ rd)/\(∀b,b∈wr->b ∉ wr'):=by simp only[apartB,ah,I7]at h;exact⟨λb h1 h2=>h.2 b h2 h1,h.1.1,λb h1 h2=>h.1.2 b h2 h1⟩
theorem aip {x y:kE}(hap:G9 x y=true){K:List Nat->List Nat->List Nat->List Nat->iI->Prop}
 (h:T P x st λrd wr st1=>T P y st1 λrd' wr' st2=>apartB rd wr rd' wr'=true/\K rd wr rd' wr' st2) :
 T P y st λrd' wr' st2=>T P x st2 λrd wr st1=>apartB rd wr rd' wr'=true/\K rd wr rd' wr' st1:=by
 simp only[G9,ah,dP]at hap;obtain⟨⟨⟨h1,h2⟩,h3⟩,h4⟩:=hap;rw[Iw]at h;obtain⟨Dx,hDx,h⟩:=h;rcases h4 with h4|h4
 ·
  obtain⟨s,bs,ho⟩:=hDx.ne;have hT:=h s bs ho;rw[Iw]at hT;obtain⟨Dy,hDy,hk⟩:=hT;obtain⟨s',bs',ho'⟩:=hDy.ne;obtain⟨a1,a2,a3⟩:=IW (hk s' bs' ho').1;have WX:Nq P y st Dy:=Nq.ZU hDy hDx h1 a1 ho;rw[Iw];refine⟨Dy,WX,λs' bs' ho'=>?_⟩;rw[Iw];refine⟨Dx,hDx.skip WX h2 a2 ho',λs1 bs1 ho1=>?_⟩;have hT:=h s1 bs1 ho1;rw[Iw]at hT;obtain⟨Dy1,aiJ,hk1⟩:=hT;have hsame:s1=s/\bs1=bs:=by
   obtain⟨_,hD⟩:=hDx;unfold kE.aeF at h4;split at h4
   ·rename_i op hi;rw[hi]at hD;cases hp:qf st.tm x.g with
    |true=>obtain⟨_,_,rfl⟩:=hD.1 hp;exact⟨ho1.1.trans ho.1.symm,ho1.2.trans ho.2.symm⟩
    |false=>have:=hD.2 hp;subst this;exact⟨ho1.1.trans ho.1.symm,ho1.2.trans ho.2.symm⟩
   ·cases h4
  obtain⟨rfl,rfl⟩:=hsame;have:=hk s' bs' ho';show _/\K _ _ _ _ (app x (app y st s' bs') s1 bs1);rw[<- Wn h3 (λb hb hb'=>a3 b (hDx.fst ho b hb) (WX.fst ho' b hb'))];exact this
 ·
  obtain⟨s,bs,ho⟩:=hDx.ne;have hT:=h s bs ho;rw[Iw]at hT;obtain⟨Dy,hDy,hk⟩:=hT;obtain⟨s',bs',ho'⟩:=hDy.ne;obtain⟨a1,a2,a3⟩:=IW (hk s' bs' ho').1;have WX:Nq P y st Dy:=Nq.ZU hDy hDx h1 a1 ho;rw[Iw];refine⟨Dy,WX,λs' bs' ho'=>?_⟩;rw[Iw];refine⟨Dx,hDx.skip WX h2 a2 ho',λs1 bs1 ho1=>?_⟩;have hT:=h s1 bs1 ho1;rw[Iw]at hT;obtain⟨Dy1,aiJ,hk1⟩:=hT;have hsame:Dy1=Dy:=by obtain⟨s2,bs2,ho2⟩:=aiJ.ne;obtain⟨b1,_,_⟩:=IW (hk1 s2 bs2 ho2).1;exact Nq.det h4 (Nq.ZU aiJ hDx h1 b1 ho1) WX
  subst hsame;have:=hk1 s' bs' ho';show _/\K _ _ _ _ (app x (app y st s' bs') s1 bs1);rw[<- Wn h3 (λb hb hb'=>a3 b (hDx.fst ho1 b hb) (WX.fst ho' b hb'))];exact this
theorem Nw {x:kE}{K K':List Nat->List Nat->iI->Prop}(hk:∀rd wr st,K rd wr st->K' rd wr st)(h:T P x st K):T P x st K':=by rw[Iw]at h⊢;obtain⟨D,hD,h⟩:=h;exact⟨D,hD,λs bs ho=>hk _ _ _ (h s bs ho)⟩
abbrev Log :=List (Nat×List Nat×List Nat)
theorem Gz {EE rd wr:List Nat}{log:Log} : zZ EE rd wr log=true<->∀e,e∈log->e.1∈EE\/apartB e.2.1 e.2.2 rd wr=true:=by
 induction log with
 |nil=>simp[zZ]
 | cons e l ih=>obtain⟨j,r,w⟩:=e;simp only[zZ,ah,dP,ih,aO,forall_eq_or_imp,apartB,iR]
structure xg where
 i:Nat
 o:kE
 EE:List Nat
def wpI (P:Program):List xg->Log->iI->(iI->Prop)->Prop
 |[],_,st,K=>K st
 |x::r,log,st,K=>T P x.o st λrd wr st'=>zZ x.EE rd wr log=true/\wpI P r ((x.i,rd,wr)::log) st' K
theorem abl {K:iI->Prop} : ∀{l:List xg} {log ai2:Log} {st:iI},(∀e,e∈ai2->e∈log)->wpI P l log st K->wpI P l ai2 st K
 |[],_,_,_,_,h=>h
 | x::r,log,ai2,st,hl,h=>by
   refine Nw (λrd wr st' hk=>⟨?_,abl (l:=r) ?_ hk.2⟩) h
   ·rw[Gz]at hk⊢;exact λe he=>hk.1 e (hl e he)
   ·intro e he;rcases aO.1 he with rfl|he
    ·exact aG ..
    ·exact bF _ (hl e he)
theorem Om {K:iI->Prop}{x:xg}{post:List xg} : ∀{pre:List xg} {log:Log} {st:iI},(∀p,p∈pre->p.i ∉ x.EE/\G9 p.o x.o=true)->wpI P (pre++x::post) log st K->wpI P (x::(pre++post)) log st K
 |[],_,_,_,h=>h
 | p::pre,log,st,hp,h=>by
   obtain⟨hn,hap⟩:=hp p (aG ..);have h1:T P p.o st λrd wr st1=>T P x.o st1 λrd' wr' st2=>apartB rd wr rd' wr'=true /\
    (zZ p.EE rd wr log=true/\zZ x.EE rd' wr' log=true/\wpI P (pre++post) ((x.i,rd',wr')::(p.i,rd,wr)::log) st2 K):=by
    refine Nw (λrd wr st1 hk=>?_) h;have h2:=Om (pre:=pre) (λq hq=>hp q (bF _ hq)) hk.2;refine Nw (λrd' wr' st2 hk2=>?_) h2;have aks:=Gz.1 hk2.1;refine⟨(aks (p.i,rd,wr) (aG ..)).resolve_left hn,hk.1,Gz.2 λe he=>aks e (bF _ he),hk2.2⟩
   refine Nw (λrd' wr' st2 hk=>?_) (aip hap h1);rw[Iw]at hk;obtain⟨D,hD,hk⟩:=hk;refine⟨?_,?_⟩
   ·obtain⟨s,bs,ho⟩:=hD.ne;exact(hk s bs ho).2.2.1
   ·show T P p.o st2 _;rw[Iw];refine⟨D,hD,λs bs ho=>?_⟩;obtain⟨k1,k2,k3,k4⟩:=hk s bs ho;refine⟨Gz.2 λe he=>?_,abl ?_ k4⟩
    ·rcases aO.1 he with rfl|he
     ·right
      simp only[apartB,ah,I7]at k1⊢;exact⟨⟨λb h1 h2=>k1.2 b h2 h1,λb h1 h2=>k1.1.2 b h2 h1⟩,λb h1 h2=>k1.1.1 b h2 h1⟩
     ·exact Gz.1 k2 e he
    ·intro e he;simp only[aO]at he⊢;rcases he with h|h|h
     ·exact .inr (.inl h)
     ·exact .inl h
     ·exact .inr (.inr h)
end
end
section
section
variable {P:Program} {E:Env P} {n:Nat} {ops:Array Oper} {Q:Exit->Act->World->Prop}
def NH (P:Program)(n m:Nat)(ops:Array Oper):List Oper->List kE->Bool
 |[],[]=>true
 |o::os,x::xs=>Hg P n m ops o x&&NH P n m ops os xs
 |_,_=>false
theorem Rh (hm:E.m<=10):∀{os:List Oper} {xs:List kE} {K:iI->Prop} {a:Act} {w:World},NH P n E.m ops os xs=true->AK E n (λst=>wpOps P xs st K) a w ->
 (∀a w,AK E n K a w->Q .normal a w)->wpList P ops Q os a w
 |[],[],K,a,w,_,h,hq=>hq a w h
 | o::os,x::xs,K,a,w,hc,h,hq=>by
   simp only[NH,ah]at hc;obtain⟨I,ρ,st,hT,hg⟩:=h;have h1:=aah (Q:=Q) (ops:=ops) hg hm hc.1 (show T P x st λ_ _ st'=>wpOps P xs st' K from hT);unfold Eg at h1;unfold wpList;have key:∀a w,AK E n (λst=>∃rd wr:List Nat,wpOps P xs st K) a w->wpList P ops Q os a w:=λa w hk=>Rh hm hc.2 (hk.imp λst ⟨_,_,h⟩=>h) hq;split
   ·rename_i hw;rw[aF hw]at h1;exact h1.imp (zh key) id
   ·rename_i hw;rw[ai hw]at h1;exact key _ _ h1
 |[],_::_,_,_,_,hc,_,_=>by cases hc
 |_::_,[],_,_,_,hc,_,_=>by cases hc
def items : List (kE×List Nat)->Nat->List xg
 |[],_=>[]
 |(o,EE)::r,i=>⟨i,o,EE⟩::items r (i+1)
theorem ZX {K:iI->Prop} : ∀{l:List (kE×List Nat)} {i:Nat} {log:Log} {st:iI},wpD P l i log st K=wpI P (items l i) log st K
 |[],_,_,_=>rfl
 | (o,EE)::r,i,log,st=>by
   simp only[wpD,items,wpI]
   congr 1
   funext rd wr st'
   rw[ZX (l:=r)]
def Qa (L:List xg)(o:Oper)(x:xg):Bool:=
 x.EE.all (λj=>o.after.toList.any λe=>Region.binds .any e&&(e.on==j||L.any λy=>y.i==e.on&&y.EE.contains j)) &&
 o.after.toList.all (λe=> !Region.binds .any e||decide (e.on<x.i))
def LG : List xg->Bool
 |[]=>true
 |x::r=>r.all (λy=>y.EE.contains x.i||G9 x.o y.o)&&LG r
def LJ (P:Program)(n m:Nat)(ops:Array Oper)(L:List xg)(x:xg):Bool:=
 match ops[x.i]? with
 |some o=>Hg P n m ops o x.o&&Qa L o x
 |none=>false
def LM (P:Program)(n m:Nat)(ops:Array Oper)(l:List (kE×List Nat)):Bool:=
 l.length==ops.size&&(items l 0).all (LJ P n m ops (items l 0))&&LG (items l 0)
theorem Ji : ∀{l:List (kE×List Nat)} {i:Nat},(∀x,x∈items l i->i<=x.i/\x.i<i+l.length)/\(items l i).Pairwise (λx y=>x.i<y.i)/\(∀j,j<l.length->∃x,x∈items l i/\x.i=i+j)
 |[],i=>⟨λx hx=>by simp[items]at hx,.nil,λj hj=>by simp at hj⟩
 | (o,EE)::r,i=>by
   obtain⟨h1,h2,h3⟩:=Ji (l:=r) (i:=i+1);simp only[items,dW];refine⟨λx hx=>?_,pY.2 ⟨λy hy=>?_,h2⟩,λj hj=>?_⟩
   ·rcases aO.1 hx with rfl|hx
    ·exact⟨ak _,nV⟩
    ·have:=h1 x hx;omega
   ·have:=(h1 y hy).1;show i<y.i;omega
   ·cases j with
    |zero=>exact⟨_,aG ..,rfl⟩
    | succ j=>obtain⟨x,hx,he⟩:=h3 j aI;exact⟨x,bF _ hx,aI⟩
theorem IZ : ∀{l:List xg},LG l=true->l.Pairwise λx y=>x.i∈y.EE\/G9 x.o y.o=true
 |[],_=>.nil
 | x::r,h=>by simp only[LG,ah,aN,dP,iR]at h;exact pY.2 ⟨h.1,IZ h.2⟩
theorem Vd {l:Array Bool}{i:Nat}(h:l.getD i true=false):l.getD i false=false:=by
 simp only[fK]at *;cases hh:l[i]? with
 |none=>rw[hh]at h;cases h
 |some b=>rw[hh]at h;simpa using h
theorem abB (hm:E.m<=10){L:List (kE×List Nat)}(hc:LM P n E.m ops L=true){K:iI->Prop}(hq:∀a w,AK E n K a w->Q .normal a w) :
 ∀ (fuel:Nat) (l:List xg) (listed:Array Bool) (log:Log) (a:Act) (w:World),l.length<=fuel->l.Sublist (items L 0)->listed.size=ops.size ->
   (∀x,x∈items L 0->(listed.getD x.i true=false<->x∈l)) ->
   (∀x,x∈items L 0->listed.getD x.i false=true->∀j,j∈x.EE->listed.getD j false=true) ->
   AK E n (λst=>wpI P l log st K) a w->wpAny P .any ops Q fuel listed a w:=by
 simp only[LM,ah,aH,aN]at hc;obtain⟨⟨hlen,hit⟩,hap⟩:=hc;obtain⟨i1,i2,i3⟩:=Ji (l:=L) (i:=0);have hpw:(items L 0).Pairwise λx y=>x.i<y.i/\(x.i∈y.EE\/G9 x.o y.o=true):=i2.and (IZ hap);have TJ:∀x y,x∈items L 0->y∈items L 0->x.i=y.i->x=y:=by
  intro x y hx hy e;obtain⟨p,hp,rfl⟩:=rD hx;obtain⟨q,hq',rfl⟩:=rD hy;have aez:=um.1 i2;rcases yu p q with h|h|h
  ·have:=aez p q hp hq' h;omega
  ·subst h;rfl
  ·have:=aez q p hq' hp h;omega
 have Zb:∀(l:List xg) (listed:Array Bool),l.Sublist (items L 0)->listed.size=ops.size->(∀x,x∈items L 0->(listed.getD x.i true=false<->x∈l))->qh .any ops listed=[]->l=[]:=by
  intro l listed hsub hsz hl hr;cases l with
  |nil=>rfl
  | cons x r=>
    exfalso;have hx:=hsub.subset (aG ..);have hc:=hit x hx;unfold LJ at hc;cases ho:ops[x.i]? with
    |none=>rw[ho]at hc;cases hc
    | some o=>
      rw[ho]at hc;simp only[ah,Qa,aN,dP,jM,aj]at hc;have:x.i∈qh .any ops listed:=by
       rw[mem_ready];refine⟨(hl x hx).2 (aG ..),o,ho,λe he hb=>?_⟩;have hlt:=(hc.2.2 e (by simpa using he)).resolve_left (by rw[hb];simp);have hxi:=i1 x hx;obtain⟨y,hy,hye⟩:=i3 e.on aI;have hye:y.i=e.on:=(by omega);by_cases hyl:y∈x::r
       ·exfalso;rcases aO.1 hyl with rfl|hyr
        ·omega
        ·have:=(pY.1 (i2.sublist hsub)).1 y hyr;omega
       ·have h1:¬listed.getD y.i true=false:=λh=>hyl ((hl y hy).1 h);have hin:y.i<listed.size:=(by rw[hsz,<- hlen];have:=i1 y hy;omega);rw[<- hye];simp only[fK,lJ hin,pK]at h1⊢;simpa using h1
      rw[hr]at this;cases this
 intro fuel
 induction fuel with
 | zero=>
   intro l listed log a w hf hsub hsz hl _ h;have:l=[]:=uT.1 aI;subst this;refine⟨?_,hq a w h⟩;cases hr:qh .any ops listed with
   |nil=>rfl
   | cons i r=>exfalso;have hi:i∈qh .any ops listed:=(by rw[hr];exact aG ..);obtain⟨hu,o,ho,_⟩:=mem_ready.1 hi;have hlt:=(dm.1 ho).1;obtain⟨y,hy,hye⟩:=i3 i aI;have hye:y.i=i:=(by omega);have:=(hl y hy).1 (by rw[hye];exact hu);cases this
 | succ fuel ih=>
   intro l listed log a w hf hsub hsz hl hdown h;refine⟨λhr=>?_,λi hi=>?_⟩
   ·have:=Zb l listed hsub hsz hl hr;subst this;exact hq a w h
   ·obtain⟨hu,o,ho,hall⟩:=mem_ready.1 hi;have hlt:=(dm.1 ho).1;obtain⟨x,hx,hxe⟩:=i3 i aI;have hxe:x.i=i:=(by omega);subst hxe;have hxl:=(hl x hx).1 hu;have hcx:=hit x hx;unfold LJ at hcx;rw[ho]at hcx;simp only[ah]at hcx;obtain⟨hco,hca⟩:=hcx;have haft:∀j,j∈x.EE->listed.getD j false=true:=by
     intro j hj;simp only[Qa,ah,aN,sO,dP,aH]at hca;obtain⟨e,he,hb,hej⟩:=hca.1 j hj;have hel:=hall e (by simpa using he) hb;rcases hej with rfl|⟨y,hy,hye,hyj⟩
     ·exact hel
     ·rw[<- hye]at hel;exact hdown y hy hel j (by simpa using hyj)
    obtain⟨pre,post,rfl⟩:=List.append_of_mem hxl;have Ve:=hpw.sublist hsub;rw[Ac]at Ve;have hpre:∀p,p∈pre->p.i ∉ x.EE/\G9 p.o x.o=true:=by
     intro p hp;have h1:=Ve.2.2 p hp x (aG ..);have hn:p.i ∉ x.EE:=by intro hm';have h2:=haft _ hm';have h3:=(hl p (hsub.subset (dG _ hp))).2 (dG _ hp);rw[Vd h3]at h2;cases h2
     exact⟨hn,h1.2.resolve_left hn⟩
    obtain⟨I,ρ,st,hT,hg⟩:=h;have hT:=Om hpre hT;have h1:=aah (Q:=Q) (ops:=ops) hg hm hco (show T P x.o st λrd wr st'=>zZ x.EE rd wr log=true/\wpI P (pre++post) ((x.i,rd,wr)::log) st' K from hT);have key:∀a w,AK E n (λst=>∃rd wr,zZ x.EE rd wr log=true/\wpI P (pre++post) ((x.i,rd,wr)::log) st K) a w->wpAny P .any ops Q fuel (listed.setIfInBounds x.i true) a w:=by
     rintro a w ⟨I,ρ,st,⟨rd,wr,_,hk⟩,hg⟩;have hnx:x ∉ pre++post:=by
      intro hxm;rcases aS.1 hxm with h|h
      ·have:=(Ve.2.2 x h x (aG ..)).1;omega
      ·have:=((pY.1 Ve.2.1).1 x h).1;omega
     refine ih (pre++post) _ ((x.i,rd,wr)::log) a w (by simp at hf⊢;omega) ?_ (by simp[hsz]) ?_ ?_ ⟨I,ρ,st,hk,hg⟩
     ·exact(List.Sublist.append_left (List.sublist_cons_self x post) pre).trans hsub
     ·intro y hy;by_cases hyx:y=x
      ·subst hyx;constructor
       ·intro h;have hin:y.i<listed.size:=(by rw[hsz];exact hlt);simp[hin]at h
       ·intro h;exact aY h hnx
      ·have hne:x.i≠y.i:=λe=>hyx (TJ y x hy hx e.symm);rw[getD_set_ne true hne,hl y hy];simp only[aS,aO,hyx,false_or]
     ·intro y hy hyl j hj;by_cases hyx:y=x
      ·subst hyx;exact getD_set_true (haft j hj)
      ·have hne:x.i≠y.i:=λe=>hyx (TJ y x hy hx e.symm);rw[getD_set_ne false hne]at hyl;exact getD_set_true (hdown y hy hyl j hj)
    unfold wpOp;rw[ho];unfold Eg at h1;simp only;split
    ·rename_i hw;rw[aF hw]at h1;exact h1.imp (zh key) id
    ·rename_i hw;rw[ai hw]at h1;exact key _ _ h1
theorem ZE (hm:E.m<=10)(hf:P.follows .mixedOrders=true){L:List (kE×List Nat)}(hc:LM P n E.m ops L=true){K:iI->Prop}(hq:∀a w,AK E n K a w->Q .normal a w)
 {id:Nat} {a:Act} {w:World} (h:AK E n (λst=>wpD P L 0 [] st K) a w):(zO id ops true).wp P Q a w:=by
 refine wp_region_any hf ?_;have hlen:L.length=ops.size:=by simp only[LM,ah,aH]at hc;exact hc.1.1
 have i0:=Ji (l:=L) (i:=0);have hil:(items L 0).length=L.length:=by
  clear i0 hlen h hc;generalize 0=i
  induction L generalizing i with
  |nil=>rfl
  |cons x r ih=>obtain⟨o,EE⟩:=x;simp[items,ih]
 refine abB hm hc hq ops.size (items L 0) (ug ops.size false) [] a _ aI (List.Sublist.refl _) nV ?_ ?_ ?_
 ·intro x hx;have:=i0.1 x hx;have hlt:x.i<ops.size:=by omega
  simp[hlt,hx]
 ·intro x hx h;exfalso;have:=i0.1 x hx;have hlt:x.i<ops.size:=by omega
  simp[hlt]at h
 ·obtain⟨I,ρ,st,hT,hg⟩:=h;exact⟨I,ρ,st,Eq.mp (ZX (P:=P) (l:=L) (i:=0) (log:=[]) (st:=st) (K:=K)) hT,hg.drew⟩
end
end
section
section
variable {P:Program} {E:Env P} {I:IH} {ρ:Ren} {n:Nat} {st:iI} {a:Act} {w w':World} {Γ : List OF} {g0:Own} {dp:Nat} {lz:Bool}
def AO0 (E:Env P)(g0:Own)(dp n:Nat)(K:iI->Prop)(Γ : List OF)(a:Act)(w:World):Prop:=AK E n K a w/\LY E g0 dp Γ a w
theorem Tq (h:OW P FV g0 dp Γ a w){x:Operand}{b:Bool}{k:Knd}(hc:JK Γ x=some (b,k)){f:FuncId}{caps:Array Value}(hx:a.eval x = .func (.func f) #[] caps) :
 (b=false/\kindOf f=k/\caps.size=0)\/(b=true/\(k = .rd/\kindOf f = .rd\/∃sg,k = .ow sg/\kindOf f = .ow ⟨sg.ps++dU caps.size .any,sg.rs⟩)):=by
 unfold JK at hc;split at hc
 ·rename_i f';cases hc;simp only[Act.eval]at hx;cases hx;exact .inl ⟨rfl,rfl,rfl⟩
 ·rename_i t;have hm:=mg hc;rw[dQ]at hm;obtain⟨f0,hf0,hm⟩:=hm;split at hm
  ·rename_i y s;split at hm
   ·rename_i e;subst e;obtain⟨f1,am1,h1,h2⟩:=h.fs _ hf0;have e1:a.eval (.tmp y)=a.tmps.getD y undef:=rfl;rw[e1,h1]at hx;cases hx
    right
    cases s with
    |zero=>cases hm;exact⟨rfl,.inl ⟨rfl,h2⟩⟩
    | succ s=>cases hm;obtain⟨sg,h3,h4,h5⟩:=h2;refine⟨rfl,.inr ⟨_,rfl,?_⟩⟩;rw[h3,<- h4,<- h5]
   ·cases hm
  ·cases hm
 ·cases hc
theorem ND (h:GX E I ρ n st a w)(hm:E.m<=10)(Gg:LY E g0 dp Γ a w){o:Oper}{yN:List OF}{x:Operand}{az:Array Operand}{ts:Array TypeId}(ho:o.op = .call ⟨.value x,az,ts⟩)(hs:QX P Γ o=some yN)(hdn:∀d,o.dst=some d->d<n)
 {f:FuncId} {caps:Array Value} (hx:a.eval x = .func (.func f) #[] caps) {rX:List AV} (hv:PM I ρ (az.toList.map a.eval++caps.toList) rX) {K:List Nat->List Nat->iI->Prop} (hT:IQ P f rX true o.dst st K) :
 Calls P f (az.toList.map a.eval++caps.toList).toArray w λe w'=>∃v,e = .returned v/\AO0 E g0 dp n (λst=>∃rd wr,K rd wr st) yN (a.put o.dst v) w':=by
 have rd:kindOf f = .rd->yN=En o.dst Γ -> Calls P f (az.toList.map a.eval++caps.toList).toArray w λe w'=>∃v,e = .returned v/\AO0 E g0 dp n (λst=>∃rd wr,K rd wr st) yN (a.put o.dst v) w':=by intro hk Yi;refine(FO h hm hdn hv hT (.rd hk)).mono ?_;rintro e w' ⟨⟨v,he,hak⟩,hF,hsz⟩;refine⟨v,he,hak,?_⟩;rw[Yi];exact(Gg.world hsz hF).drop _ _
 have ow:∀{sg:V6} {C:CR},kindOf f = .ow sg->(az.toList.map a.eval++caps.toList).length=sg.ps.length->OG Γ sg az.toList o.dst=some C->yN=Tv Γ o.dst C->Calls P f (az.toList.map a.eval++caps.toList).toArray w λe w'=>∃v,e = .returned v/\AO0 E g0 dp n (λst=>∃rd wr,K rd wr st) yN (a.put o.dst v) w':=by intro sg C hk hl hC Yi;obtain⟨g,h1,h2⟩:=Gg;obtain⟨X,hX,hXs⟩:=Xu h2 h.Aj.size hk hl hC (λd e=>by rw[h.size];exact hdn d e);refine(FO h hm hdn hv hT hX).mono ?_;rintro e w' ⟨⟨v,he,hak⟩,hXe,hsz⟩;subst he;obtain⟨g',h3,h4⟩:=hXs v w' hsz hXe;exact⟨v,rfl,hak,g',h1.trans h3,by rw[Yi];exact h4⟩
 have base:∀{b:Bool} {sg:V6} {C:CR},JK Γ x=some (b,.ow sg)->az.size=sg.ps.length->OG Γ sg az.toList o.dst=some C->yN=Tv Γ o.dst C->Calls P f (az.toList.map a.eval++caps.toList).toArray w λe w'=>∃v,e = .returned v/\AO0 E g0 dp n (λst=>∃rd wr,K rd wr st) yN (a.put o.dst v) w':=by
  intro b sg C hk hsz hC Yi;obtain⟨g,h1,h2⟩:=Gg;rcases Tq h2 hk hx with⟨rfl,h3,h4⟩|⟨rfl,⟨h3,_⟩|⟨sg',h3,h4⟩⟩
  ·exact ow h3 (by simp;omega) hC Yi
  ·cases h3
  ·cases h3;exact ow h4 (by simp;omega) (acB hC (by simpa using hsz)) Yi
 unfold QX at hs;rw[ho]at hs;simp only at hs;split at hs
 ·rename_i b hk;cases hs;obtain⟨g,h1,h2⟩:=Gg;rcases Tq h2 hk hx with⟨rfl,h3,h4⟩|⟨rfl,⟨_,h3⟩|⟨sg',h3,h4⟩⟩
  ·exact rd h3 rfl
  ·exact rd h3 rfl
  ·cases h3
 ·rename_i b sg hk;split at hs
  ·rename_i hb;simp only[bY]at hs;obtain⟨C,hC,rfl⟩:=hs;exact base hk (by simpa using hb) hC rfl
  ·cases hs
 ·cases hs
theorem WH (h:GX E I ρ n st a w)(hm:E.m<=10)(Gg:LY E g0 dp Γ a w){o:Oper}{yN:List OF}{x:Operand}{az:Array Operand}{ts:Array TypeId}(ho:o.op = .call ⟨.value x,az,ts⟩)(hs:SC P lz Γ o=some yN)(hdn:∀d,o.dst=some d->d<n)
 {f:FuncId} {caps:Array Value} (hx:a.eval x = .func (.func f) #[] caps) {rX:List AV} (hv:PM I ρ (az.toList.map a.eval++caps.toList) rX) {K:List Nat->List Nat->iI->Prop} (hT:IQ P f rX true o.dst st K) :
 Calls P f (az.toList.map a.eval++caps.toList).toArray w λe w'=>∃v,e = .returned v/\AO0 E g0 dp n (λst=>∃rd wr,K rd wr st) yN (a.put o.dst v) w':=by
 unfold SC at hs;split at hs
 ·split at hs
  ·rename_i hq;cases hs;unfold Og at hq;rw[ho]at hq;simp only at hq;unfold aiZ at hq;split at hq
   ·rename_i b hk;exact ND h hm Gg ho (by unfold QX;rw[ho];simp only[hk]) hdn hx hv hT
   ·cases hq
  ·split at hs
   ·cases hs
   ·obtain⟨Gf,h1,rfl⟩:=bY.1 hs;refine(ND h hm Gg ho h1 hdn hx hv hT).mono λe w' hq=>?_;obtain⟨v,he,hak,hl⟩:=hq;exact⟨v,he,hak,hl.weak λf hf=>iR.1 (aU.1 hf).2⟩
 ·exact ND h hm Gg ho hs hdn hx hv hT
end
end
section
section
variable {P:Program} {E:Env P} {I:IH} {ρ:Ren} {n:Nat} {st:iI} {a:Act} {w w':World} {Γ : List OF} {g0:Own} {dp:Nat} {lz:Bool}
theorem Y7 {ops:Array Oper}{o:Oper}{g:Option (Nat×Bool)}(hc:I4 n ops o.guard g=true)(hg:qf st.tm g=false):o.guard.isSome=true:=by
 unfold I4 at hc;split at hc
 ·simp[qf]at hg
 ·rename_i e;rw[e];rfl
 ·cases hc
theorem Zy {o:Oper}{yN:List OF}(ho:SC P lz Γ o=some yN)(hg:o.guard.isSome=true):∀f,f∈yN->f∈En o.dst Γ :=by
 unfold SC at ho;rw[aF (by rw[hg,Bool.or_true])]at ho;split at ho
 ·cases ho;exact λf h=>h
 ·split at ho
  ·cases ho
  ·obtain⟨Gf,_,rfl⟩:=bY.1 ho;exact λf h=>(aU.1 h).1
theorem Xv {o:Oper}{ao:kE}{yN:List OF}(ho:OH P lz Γ o ao=some yN)(hg:o.guard.isSome=true):∀f,f∈yN->f∈En o.dst Γ :=by
 unfold OH at ho;split at ho
 ·cases ho;exact λf h=>h
 ·exact Zy ho hg
theorem abv (h:GX E I ρ n st a w)(hm:E.m<=10)(Gg:LY E g0 dp Γ a w){ops:Array Oper}{Q:Exit->Act->World->Prop}{o:Oper}{ao:kE}{yN:List OF}(hc:Hg P n E.m ops o ao=true)(ho:OH P lz Γ o ao=some yN){K:List Nat->List Nat->iI->Prop}(hT:T P ao st K) :
 Eg P ops Q o (AO0 E g0 dp n (λst=>∃rd wr,K rd wr st) yN) a w:=by
 simp only[Hg,ah]at hc;obtain⟨⟨hcg,hcd⟩,hci⟩:=hc;obtain⟨hdd,hdn⟩:=aeb hcd;obtain⟨hgv,hT⟩:=hT;have hw:=WU h hcg hgv;have aiN:∀d,o.dst=some d->d<n:=λd e=>hdn d (by rw[<- hdd];exact e);have skip:qf st.tm ao.g=false->∀r,(∃rd wr,K rd wr (st.yf ao.d (.v false r)))->AO0 E g0 dp n (λst=>∃rd wr,K rd wr st) yN (a.put o.dst undef) w:=λhp r hk=>⟨⟨I,ρ,_,hk,by rw[hdd];exact h.yf hdn ⟨(λe=>by cases e),λ_=>rfl⟩⟩,(Gg.drop _ _).weak (Xv ho (Y7 hcg hp))⟩;unfold Eg;rw[hw];cases hi:ao.i with
 | op op=>
   rw[hi]at hT hci;obtain⟨h1,h2⟩:=hT;cases hp:qf st.tm ao.g with
   |false=>simpa using skip hp _ ⟨_,_,h2 hp⟩
   | true=>
     obtain⟨hv,jG,h3⟩:=h1 hp;obtain⟨v,w',I',ρ',hr,hg,aiR,heff⟩:=XA h hci hv jG;simp only[kN];refine .inl ?_;have al3:LY E g0 dp yN (a.put o.dst v) w':=by
      unfold OH at ho;split at ho
      ·rename_i x az ts hop;cases ho;have hw:=heff.quiet (by rw[hop];rfl);subst hw;exact Gg.drop _ _
      ·rename_i hne;refine ajd h Gg ho aiN (λc hc x hx=>?_) hr heff;obtain⟨callee,args,argTypes⟩:=c;simp only at hx;subst hx;exact hne op x args argTypes hi hc
     have key:AO0 E g0 dp n (λst=>∃rd wr,K rd wr st) yN (a.put o.dst v) w':=by
      refine⟨⟨I',ρ',_,⟨_,_,h3⟩,?_⟩,al3⟩;rw[hdd];cases hd:ao.d with
      |none=>exact hg
      |some d=>exact hg.put (hdn d hd) ⟨λ_=>aiR (by rw[hdd,hd];simp),λe=>by cases e⟩
     unfold rV;rcases hr with hr|⟨hr,hnd⟩
     ·rw[hr];exact key
     ·rw[hr,BH];rw[hnd]at key⊢;exact key
 | call f args=>
   have ho:SC P lz Γ o=some yN:=(by unfold OH at ho;rw[hi]at ho;exact ho);rw[hi]at hT hci;simp only[Qh]at hci;split at hci
   ·rename_i f' az ts hop;simp only[ah,aH]at hci;obtain⟨⟨rfl,hca⟩,hok⟩:=hci;obtain⟨h1,h2⟩:=hT;cases hp:qf st.tm ao.g with
    | false=>have h2':=h2;rw[hp]at h2';obtain⟨r,hk⟩:=Il h2';simpa using skip hp r hk
    | true=>rw[hp]at h1 h2;simp only[kN];refine .inl (Io (D7 hop (x:=.func f') (caps:= #[]) rfl hok) ?_);have hvs:=MN h hca (h1 rfl);rw[<- hdd]at h2;have:=WH h hm Gg hop ho aiN (f:=f') (caps:= #[]) rfl (by simpa using hvs) h2;simpa[<- Array.toList_map]using this
   ·cases hci
 | Iz x args=>
   have ho:SC P lz Γ o=some yN:=(by unfold OH at ho;rw[hi]at ho;exact ho);rw[hi]at hT hci;simp only[Qh]at hci;split at hci
   ·rename_i x' az ts hop;simp only[ah]at hci;obtain⟨hcx,hca⟩:=hci;obtain⟨hg0,h2⟩:=hT;cases hp:qf st.tm ao.g with
    | false=>have h2':=h2;rw[hp]at h2';obtain⟨r,hk⟩:=Il h2';simpa using skip hp r hk
    |true=>
    rw[hp]at h2;obtain⟨hg1,h1⟩:=hg0 hp;split at h2
    ·rename_i hb;cases hb
    ·rename_i f caps _ hf;obtain⟨hok,h2⟩:=h2;have hx:=lX h hcx hg1;rw[hf]at hx;obtain⟨ks,hk1,hk2,hk3⟩:=hx;simp only[kN];refine .inl (Io (D7 hop hk3 hok) ?_);have hvs:=MN h hca h1;have hvs':PM I ρ (az.toList.map a.eval++ks.map λk=>oh (some ⟨k,0,none⟩)) (args.map (dY st.tm)++caps.map λb=>AV.one (.ptr b 0)):=by
      refine⟨by have:=hvs.1;simp at this;simp[hk1,this],λj v z hv hz=>?_⟩;by_cases hj:j<(az.toList.map a.eval).length
      ·rw[bD hj]at hv;rw[bD (by rw[<- hvs.1];exact hj)]at hz;exact hvs.2 j v z hv hz
      ·rw[dw aI]at hv;rw[dw (by rw[<- hvs.1];omega)]at hz;rw[hvs.1]at hv;generalize j-(args.map (dY st.tm)).length=i at hv hz;rw[dD]at hv hz;cases hki:ks[i]? with
       |none=>rw[hki]at hv;cases hv
       | some k=>
         cases hci:caps[i]? with
         |none=>rw[hci]at hz;cases hz
         | some b=>rw[hki]at hv;rw[hci]at hz;simp at hv hz;subst hv;subst hz;obtain⟨cap,hr⟩:=hk2 i b k hci hki;exact⟨k,cap,hr,rfl⟩
     rw[<- hdd]at h2;have:=WH h hm Gg hop ho aiN (f:=f) (caps:=(ks.map λk=>oh (some ⟨k,0,none⟩)).toArray) hk3 (by simpa using hvs') h2;have e:(az.map a.eval++(ks.map λk=>oh (some ⟨k,0,none⟩)).toArray)=(az.toList.map a.eval++(ks.map λk=>oh (some ⟨k,0,none⟩)).toArray.toList).toArray:=(by apply vO;simp);rw[e];exact this
    ·exact h2.elim
   ·cases hci
def PA (pa:List (Nat×Value))(a:Act):Prop:=∀e,e∈pa->a.tmps.getD e.1 undef=e.2
def AO (E:Env P)(g0:Own)(pa:List (Nat×Value))(dp n:Nat)(K:iI->Prop)(Γ : List OF)(a:Act)(w:World):Prop:=AO0 E g0 dp n K Γ a w/\PA pa a
theorem PA.put {pa:List (Nat×Value)}(h:PA pa a){d:Option Nat}(hd:∀e,e∈pa->d≠some e.1)(v:Value)(df:List Deferred):PA pa ({ a with defers:=df }.put d v):=λe he=>by
 cases d with
 |none=>exact h e he
 | some d=>have:e.1≠d:=λe'=>hd e he (by rw[e']);rw[<- h e he];exact mJ (a:={ a with defers:=df }) this
theorem ZY {pa:List (Nat×Value)}(hpa:PA pa a){ops:Array Oper}{Q:Exit->Act->World->Prop}{o:Oper}(hd:∀e,e∈pa->o.dst≠some e.1){K:Act->World->Prop}(h:Eg P ops Q o K a w):Eg P ops Q o (λa w=>K a w/\PA pa a) a w:=by
 have hput:∀v,PA pa (a.put o.dst v):=λv=>hpa.put hd v a.defers;unfold Eg at h⊢;split
 ·rename_i hw;rw[aF hw]at h;refine h.imp (λh=>?_) id;unfold rV at h⊢;cases hr:(execOp a.eval o).run P w with
  | halt e w1=>rw[hr]at h;cases e<;>first|exact h|exact h.elim
  | ok nx w1=>
    rw[hr]at h;cases nx with
    |value v=>exact⟨h,hput v⟩
    |skip=>exact⟨h,hput undef⟩
    |defer d=>exact⟨h,hpa.put hd undef _⟩
    | enter f args=>
      refine Calls.mono h ?_;intro e w'' hq;cases e with
      |returned v=>exact⟨hq,hput v⟩
      |panicked c=>exact hq
      |outgrown=>exact hq
    |row r args=>exact Rows.mono h λv w'' hq=>⟨hq,hput v⟩
    |_=>exact h.elim
 ·rename_i hw;rw[ai hw]at h;exact⟨h,hput undef⟩
theorem V9 (h:GX E I ρ n st a w)(hm:E.m<=10)(Gg:LY E g0 dp Γ a w){pa:List (Nat×Value)}{pl:List Nat}(hpa:PA pa a)(hpl:∀e,e∈pa->e.1∈pl){ops:Array Oper}{Q:Exit->Act->World->Prop}{o:Oper}{ao:kE}{yN:List OF}(hc:Hg P n E.m ops o ao=true)(ho:Ky P pl lz Γ o ao=some yN){K:List Nat->List Nat->iI->Prop}(hT:T P ao st K) :
 Eg P ops Q o (AO E g0 pa dp n (λst=>∃rd wr,K rd wr st) yN) a w:=by
 unfold Ky at ho;split at ho
 ·cases ho
 ·rename_i hn;refine ZY hpa (λe he e'=>hn ?_) (abv h hm Gg hc ho hT);rw[sO];exact⟨e.1,hpl e he,by rw[e'];simp⟩
end
end
section
def Xw (P:Program)(pl:List Nat)(Γ : List OF)(o:Oper)(ao:kE):Option (List OF):=(Ky P pl false Γ o ao).bind λGf=>QD Gf some
theorem Xx {P:Program}{pl:List Nat}{Γ : List OF}{o:Oper}{ao:kE} : Xw P pl Γ o ao=Ky P pl false Γ o ao:=by
 unfold Xw;cases Ky P pl false Γ o ao with
 |none=>rfl
 |some Gf=>simp[DK (fc:=U7) (λ_ _=>TC)]
def XB (P:Program)(pl:List Nat):List Oper->List kE->List OF->Option (List OF)
 |o::os,x::xs,Γ =>(Xw P pl Γ o x).bind (XB P pl os xs)
 |_,_,Γ =>some Γ
def aaN : List (List OF)->List OF
 |[]=>[]
 |a::r=>a.filter λf=>r.all λb=>b.contains f
abbrev DS :=Nat×List Nat×List OF
def Y3 {β:Type}(s:DS)(k:DS->β):β:=match s with
 |(a,l,Γ)=>vV a λa=>Ho vV l λl=>QD Γ fun Γ =>k (a,l,Γ)
theorem abZ {β:Type}{s:DS}{k:DS->β} : Y3 s k=k s:=by obtain⟨a,l,Γ⟩:=s;simp only[Y3,EO,DK (fc:=vV) (λ_ _=>EO),NK]
def aby (s:DS):List DS->List DS
 |[]=>[s]
 |t::r=>if kU s.1 t.1&&s.2.1==t.2.1 then(t.1,t.2.1,t.2.2.filter s.2.2.contains)::r else t::aby s r
def QM (L:List xg)(i:Nat):Option xg:=L.find? λx=>x.i==i
def Qn (D:List Nat)(Γ : List OF):List OF:= Γ.filter λf=>D.all λd=>Ff d f
def ah7 (P:Program)(pl:List Nat)(ops:Array Oper)(L:List xg)(D:List Nat)(s:DS):Option (List DS):=
 Ny (λi=>match QM L i,ops[i]? with
  |some x,some o=>(Xw P pl s.2.2 o x.o).map λGf=>(s.1-2^i,s.2.1.filter (· != i),Qn D Gf)
  | _,_=>none) (s.2.1.filter λi=>match QM L i with
    |some x=>s.2.1.all λj=> !x.EE.contains j
    |none=>false)
def VI (P:Program)(pl:List Nat)(ops:Array Oper)(L:List xg)(D:List Nat):Nat->List DS->Option (List OF)
 |0,S=>some (aaN (S.map (·.2.2)))
 |m+1,S=>(Ny (ah7 P pl ops L D) S).bind λSs=>Ho Y3 (Ss.flatten.foldr aby []) (VI P pl ops L D m)
def Vg (P:Program)(pl:List Nat)(ops:Array Oper)(x:xg):Bool:=match ops[x.i]? with
 |some o=>(Ky P pl true [] o x.o).isSome
 |none=>false
def aiE (P:Program)(pl:List Nat)(ops:Array Oper):List xg->List OF->List (xg×Bool)
 |[],_=>[]
 | x::r,Γ =>match ops[x.i]? with
   | some o=>(match Xw P pl Γ o x.o with
     | some Gf=>(x,match o.dst with
       |some d=>Gf.any λf=> !Ff d f
       |none=>true)::aiE P pl ops r Gf
     |none=>(x::r).map λx=>(x,true))
   |none=>(x::r).map λx=>(x,true)
def ahc (P:Program)(pl:List Nat)(ops:Array Oper):List (xg×Bool)->List Nat->List Nat
 |[],_=>[]
 | (x,b)::r,nd=>if Vg P pl ops x && !(b&&(match x.o.d with
   |some d=>nd.contains d
   |none=>true))then x.i::ahc P pl ops r nd else ahc P pl ops r (x.o.slots++nd)
def Ht (P:Program)(pl:List Nat)(ops:Array Oper)(Pm:List Nat)(x:xg):Bool:=Pm.contains x.i&&Vg P pl ops x
def ak4 (P:Program)(pl:List Nat)(ops:Array Oper)(L:List xg)(Γ : List OF)(Pm:List Nat):Option (List OF):=
 let D:=(L.filter (Ht P pl ops Pm)).filterMap λx=>(ops[x.i]?).bind (·.dst)
 let l:=(L.filter λx=> !Ht P pl ops Pm x).map (·.i)
 Ho vV D λD=>Ho vV l λl=>VI P pl ops L D l.length [(l.foldl (λa i=>a+2^i) 0,l,Qn D Γ)]
def ajs (P:Program)(pl keep:List Nat)(ops:Array Oper)(L:List xg)(Γ : List OF):Option (List OF):=
 Ho vV (ahc P pl ops (aiE P pl ops L Γ).reverse (keep++pl)) (ak4 P pl ops L Γ)
theorem PY {s:DS} : ∀{l:List DS},(∃t,t∈aby s l/\t.2.1=s.2.1/\∀f,f∈t.2.2->f∈s.2.2)/\∀u,u∈l->∃t,t∈aby s l/\t.2.1=u.2.1/\∀f,f∈t.2.2->f∈u.2.2
 |[]=>⟨⟨s,aG ..,rfl,λ_ h=>h⟩,λu h=>by cases h⟩
 | t::r=>by
   obtain⟨h1,h2⟩:=PY (s:=s) (l:=r);simp only[aby];split
   ·rename_i hc;simp only[ah,aH]at hc;refine⟨⟨_,aG ..,hc.2.symm,λf hf=>iR.1 (aU.1 hf).2⟩,λu hu=>?_⟩;rcases aO.1 hu with rfl|hu
    ·exact⟨_,aG ..,rfl,λf hf=>(aU.1 hf).1⟩
    ·exact⟨u,bF _ hu,rfl,λ_ h=>h⟩
   ·refine⟨?_,λu hu=>?_⟩
    ·obtain⟨t',h3,h4⟩:=h1;exact⟨t',bF _ h3,h4⟩
    ·rcases aO.1 hu with rfl|hu
     ·exact⟨u,aG ..,rfl,λ_ h=>h⟩
     ·obtain⟨t',h3,h4⟩:=h2 u hu;exact⟨t',bF _ h3,h4⟩
theorem TR : ∀{l:List DS} {u:DS},u∈l->∃t,t∈l.foldr aby []/\t.2.1=u.2.1/\∀f,f∈t.2.2->f∈u.2.2
 | s::r,u,hu=>by
   simp only[List.foldr];rcases aO.1 hu with rfl|hu
   ·exact PY.1
   ·obtain⟨t,h1,h2,h3⟩:=TR hu;obtain⟨t',h4,h5,h6⟩:=(PY (s:=s)).2 t h1;exact⟨t',h4,h5.trans h2,λf hf=>h3 f (h6 f hf)⟩
theorem ZB {Γ : List OF}{op:Op}(h:Og [] op=true):Og Γ op=true:=by
 unfold Og at h⊢;split at h
 ·rename_i x az ts;unfold aiZ JK at h⊢;cases x<;>simp_all
 ·exact h
theorem ahe {P:Program}{pl:List Nat}{ops:Array Oper}{x:xg}{o:Oper}(h:Vg P pl ops x=true)(ho:ops[x.i]? = some o)(Γ : List OF):Ky P pl true Γ o x.o=some (En o.dst Γ):=by
 unfold Vg at h;rw[ho]at h;simp only at h;unfold Ky at h⊢;split at h
 ·cases h
 ·rename_i hn;rw[ai hn];unfold OH at h⊢;split
  ·rfl
  ·rename_i hne;split at h
   ·rename_i h1 h2;exact aY h2 (hne _ _ _ _ h1)
   ·unfold SC at h⊢;simp only[Bool.true_or,kN]at h⊢;split at h
    ·rename_i hq;rw[aF (ZB hq)]
    ·simp at h
theorem N7 {Gs:List (List OF)}{f:OF}(h:f∈aaN Gs){G:List OF}(hG:G∈Gs):f∈G:=by
 cases Gs with
 |nil=>cases hG
 | cons a r=>
   rw[aaN,aU,aN]at h;rcases aO.1 hG with rfl|hG
   ·exact h.1
   ·exact iR.1 (h.2 G hG)
section
variable {P:Program} {E:Env P} {n:Nat} {ops:Array Oper} {Q:Exit->Act->World->Prop} {Γ : List OF} {g0:Own} {dp:Nat} {pa:List (Nat×Value)} {pl:List Nat}
theorem AO.imp {K K':iI->Prop}{yN:List OF}(hk:∀st,K st->K' st){a:Act}{w:World}(h:AO E g0 pa dp n K Γ a w)(hs:∀f,f∈yN->f ∈ Γ):AO E g0 pa dp n K' yN a w:=
 ⟨⟨AK.imp hk h.1.1,h.1.2.weak hs⟩,h.2⟩
theorem OL (hm:E.m<=10)(hpl:∀e,e∈pa->e.1∈pl):∀{os:List Oper} {xs:List kE} {K:iI->Prop} {Γ yN:List OF} {a:Act} {w:World},NH P n E.m ops os xs=true->XB P pl os xs Γ = some yN->AO E g0 pa dp n (λst=>wpOps P xs st K) Γ a w ->
 (∀a w,AO E g0 pa dp n K yN a w->Q .normal a w)->wpList P ops Q os a w
 |[],[],K,Γ,yN,a,w,_,ho,h,hq=>by simp only[XB]at ho;cases ho;exact hq a w h
 | o::os,x::xs,K,Γ,yN,a,w,hc,ho,h,hq=>by
   simp only[NH,ah]at hc;simp only[XB,rJ]at ho;obtain⟨Gf,ho1,ho2⟩:=ho;rw[Xx]at ho1;obtain⟨⟨⟨I,ρ,st,hT,hg⟩,Gg⟩,hpa⟩:=h;have h1:=V9 (Q:=Q) (ops:=ops) hg hm Gg hpa hpl hc.1 ho1 (show T P x st λ_ _ st'=>wpOps P xs st' K from hT);unfold Eg at h1;unfold wpList;have key:∀a w,AO E g0 pa dp n (λst=>∃rd wr:List Nat,wpOps P xs st K) Gf a w->wpList P ops Q os a w:=λa w hk=>OL hm hpl hc.2 ho2 (hk.imp (λst ⟨_,_,h⟩=>h) λf hf=>hf) hq;split
   ·rename_i hw;rw[aF hw]at h1;exact h1.imp (zh key) id
   ·rename_i hw;rw[ai hw]at h1;exact key _ _ h1
 |[],_::_,_,_,_,_,_,hc,_,_,_=>by cases hc
 |_::_,[],_,_,_,_,_,hc,_,_,_=>by cases hc
theorem acM {m k:Nat}{L l:List xg}{D:List Nat}{S:List DS}{G:List OF}{x:xg}{o:Oper}(hD:VI P pl ops L D (m+1) S=some G)(hS:(k,l.map (·.i),Γ)∈S)(hx:x∈l)(hr:∀z,z∈l->¬z.i∈x.EE)(hL:QM L x.i=some x)(ho:ops[x.i]? = some o) :
 ∃Gf S' k' Yj,Ky P pl false Γ o x.o=some Gf/\(k',(l.filter λz=>z.i != x.i).map (·.i),Yj)∈S'/\(∀f,f∈Yj->f∈Qn D Gf)/\VI P pl ops L D m S'=some G:=by
 simp only[VI,rJ]at hD;obtain⟨Ss,h1,h2⟩:=hD;rw[DK (λ_ _=>abZ)]at h2;obtain⟨T,h3,h4⟩:=CP h1 _ hS;unfold ah7 at h3;obtain⟨t,h5,h6⟩:=CP h3 x.i (aU.2 ⟨bf.2 ⟨x,hx,rfl⟩,by rw[hL];simp only[aN,bf];rintro j ⟨z,hz,rfl⟩;have:=hr z hz;simpa using this⟩)
 rw[hL,ho]at h5;simp only[bY]at h5;obtain⟨Gf,h7,rfl⟩:=h5;rw[Xx]at h7;obtain⟨⟨k',r',Yj⟩,h8,h9,h10⟩:=TR (List.mem_flatten.2 ⟨T,h4,h6⟩);simp only at h9;subst h9;refine⟨Gf,_,k',Yj,h7,?_,h10,h2⟩;rw[List.filter_map]at h8;exact h8
theorem Y2 {pre post:List xg}{x:xg}(h:(pre++x::post).Pairwise λx y=>x.i<y.i):((pre++x::post).filter λz=>z.i != x.i)=pre++post:=by
 rw[Ac]at h;obtain⟨_,h2,h3⟩:=h;rw[pY]at h2;rw[uC,List.filter_cons_of_neg nV]
 congr 1
 ·rw[Aw];intro z hz;have:=h3 z hz x (aG ..);simp;omega
 ·rw[Aw];intro z hz;have:=h2.1 z hz;simp;omega
theorem Yr (hm:E.m<=10)(hpl:∀e,e∈pa->e.1∈pl){L:List (kE×List Nat)}(hc:LM P n E.m ops L=true){K:iI->Prop}{Γe:List OF}{Pm D:List Nat}(hDd:∀x o d,x∈items L 0->Ht P pl ops Pm x=true->ops[x.i]? = some o->o.dst=some d->d∈D)(hq:∀a w,AO E g0 pa dp n K Γe a w->Q .normal a w) :
 ∀ (fuel:Nat) (l:List xg) (listed:Array Bool) (log:Log) (Γ G:List OF) (a:Act) (w:World),(∃S k,(k,(l.filter λx=> !Ht P pl ops Pm x).map (·.i),Γ)∈S/\VI P pl ops (items L 0) D (l.filter λx=> !Ht P pl ops Pm x).length S=some G)->(∀f,f ∈ Γ -> ∀d,d∈D->Ff d f=true)->(∀f,f ∈ Γe->f∈G)->l.length<=fuel->l.Sublist (items L 0)->listed.size=ops.size ->
   (∀x,x∈items L 0->(listed.getD x.i true=false<->x∈l)) ->
   (∀x,x∈items L 0->listed.getD x.i false=true->∀j,j∈x.EE->listed.getD j false=true) ->
   AO E g0 pa dp n (λst=>wpI P l log st K) Γ a w->wpAny P .any ops Q fuel listed a w:=by
 simp only[LM,ah,aH,aN]at hc;obtain⟨⟨hlen,hit⟩,hap⟩:=hc;obtain⟨i1,i2,i3⟩:=Ji (l:=L) (i:=0);have hpw:(items L 0).Pairwise λx y=>x.i<y.i/\(x.i∈y.EE\/G9 x.o y.o=true):=i2.and (IZ hap);have TJ:∀x y,x∈items L 0->y∈items L 0->x.i=y.i->x=y:=by
  intro x y hx hy e;obtain⟨p,hp,rfl⟩:=rD hx;obtain⟨q,hq',rfl⟩:=rD hy;have aez:=um.1 i2;rcases yu p q with h|h|h
  ·have:=aez p q hp hq' h;omega
  ·subst h;rfl
  ·have:=aez q p hq' hp h;omega
 have Zb:∀(l:List xg) (listed:Array Bool),l.Sublist (items L 0)->listed.size=ops.size->(∀x,x∈items L 0->(listed.getD x.i true=false<->x∈l))->qh .any ops listed=[]->l=[]:=by
  intro l listed hsub hsz hl hr;cases l with
  |nil=>rfl
  | cons x r=>
    exfalso;have hx:=hsub.subset (aG ..);have hc:=hit x hx;unfold LJ at hc;cases ho:ops[x.i]? with
    |none=>rw[ho]at hc;cases hc
    | some o=>
      rw[ho]at hc;simp only[ah,Qa,aN,dP,jM,aj]at hc;have:x.i∈qh .any ops listed:=by
       rw[mem_ready];refine⟨(hl x hx).2 (aG ..),o,ho,λe he hb=>?_⟩;have hlt:=(hc.2.2 e (by simpa using he)).resolve_left (by rw[hb];simp);have hxi:=i1 x hx;obtain⟨y,hy,hye⟩:=i3 e.on aI;have hye:y.i=e.on:=(by omega);by_cases hyl:y∈x::r
       ·exfalso;rcases aO.1 hyl with rfl|hyr
        ·omega
        ·have:=(pY.1 (i2.sublist hsub)).1 y hyr;omega
       ·have h1:¬listed.getD y.i true=false:=λh=>hyl ((hl y hy).1 h);have hin:y.i<listed.size:=(by rw[hsz,<- hlen];have:=i1 y hy;omega);rw[<- hye];simp only[fK,lJ hin,pK]at h1⊢;simpa using h1
      rw[hr]at this;cases this
 intro fuel
 induction fuel with
 | zero=>
   intro l listed log Γ G a w hD hcl hG hf hsub hsz hl _ h;have:l=[]:=uT.1 aI;subst this;obtain⟨S,k,hS,hD⟩:=hD;simp only[List.filter_nil,fB,VI]at hD;cases hD;refine⟨?_,hq a w (h.imp (λ_ h=>h) λf hf=>N7 (hG f hf) (bf.2 ⟨_,hS,rfl⟩))⟩;cases hr:qh .any ops listed with
   |nil=>rfl
   | cons i r=>exfalso;have hi:i∈qh .any ops listed:=(by rw[hr];exact aG ..);obtain⟨hu,o,ho,_⟩:=mem_ready.1 hi;have hlt:=(dm.1 ho).1;obtain⟨y,hy,hye⟩:=i3 i aI;have hye:y.i=i:=(by omega);have:=(hl y hy).1 (by rw[hye];exact hu);cases this
 | succ fuel ih=>
   intro l listed log Γ G a w hD hcl hG hf hsub hsz hl hdown h;refine⟨λhr=>?_,λi hi=>?_⟩
   ·have:=Zb l listed hsub hsz hl hr;subst this;obtain⟨S,k,hS,hD⟩:=hD;simp only[List.filter_nil,fB,VI]at hD;cases hD;exact hq a w (h.imp (λ_ h=>h) λf hf=>N7 (hG f hf) (bf.2 ⟨_,hS,rfl⟩))
   ·obtain⟨hu,o,ho,hall⟩:=mem_ready.1 hi;have hlt:=(dm.1 ho).1;obtain⟨x,hx,hxe⟩:=i3 i aI;have hxe:x.i=i:=(by omega);subst hxe;have hxl:=(hl x hx).1 hu;have hcx:=hit x hx;unfold LJ at hcx;rw[ho]at hcx;simp only[ah]at hcx;obtain⟨hco,hca⟩:=hcx;have haft:∀j,j∈x.EE->listed.getD j false=true:=by
     intro j hj;simp only[Qa,ah,aN,sO,dP,aH]at hca;obtain⟨e,he,hb,hej⟩:=hca.1 j hj;have hel:=hall e (by simpa using he) hb;rcases hej with rfl|⟨y,hy,hye,hyj⟩
     ·exact hel
     ·rw[<- hye]at hel;exact hdown y hy hel j (by simpa using hyj)
    have akp:QM (items L 0) x.i=some x:=by
     unfold QM;cases hfind:(items L 0).find? (λz=>z.i==x.i)with
     |none=>exact aY nV (List.find?_eq_none.1 hfind x hx)
     | some z=>have h1:=List.find?_some hfind;have h2:=List.mem_of_find?_eq_some hfind;rw[TJ z x h2 hx (by simpa using h1)]
    have ama:∀z,z∈l->¬z.i∈x.EE:=λz hz hm=>by have h2:=haft _ hm;rw[Vd ((hl z (hsub.subset hz)).2 hz)]at h2;cases h2
    obtain⟨pre,post,rfl⟩:=List.append_of_mem hxl;have al6:((pre++x::post).filter λz=>z.i != x.i)=pre++post:=Y2 (i2.sublist hsub);obtain⟨lz,Gf,S1,k1,Yj,hO1,hO2,hO4,hO5,hO3⟩:∃lz Gf S1 k1 Yj,Ky P pl lz Γ o x.o=some Gf/\(k1,((pre++post).filter λx=> !Ht P pl ops Pm x).map (·.i),Yj)∈S1/\(∀f,f∈Yj->f∈Gf)/\(∀f,f∈Yj->∀d,d∈D->Ff d f=true)/\VI P pl ops (items L 0) D ((pre++post).filter λx=> !Ht P pl ops Pm x).length S1=some G:=by
     obtain⟨S,k,hS,hD⟩:=hD;cases hz:Ht P pl ops Pm x with
     | true=>
       have e:((pre++x::post).filter λx=> !Ht P pl ops Pm x)=((pre++post).filter λx=> !Ht P pl ops Pm x):=(by rw[uC,List.filter_cons_of_neg (by simp[hz]),<- uC]);rw[e]at hS hD;have hz':=hz;simp only[Ht,ah]at hz';refine⟨true,_,S,k,Γ,ahe hz'.2 ho Γ,hS,λf hf=>?_,hcl,hD⟩;unfold En;rw[aU];refine⟨hf,?_⟩;cases hd:o.dst with
       |none=>rfl
       |some d=>exact hcl f hf d (hDd x o d hx hz ho hd)
     | false=>
       have e:((pre++x::post).filter λx=> !Ht P pl ops Pm x)=(pre.filter λx=> !Ht P pl ops Pm x)++x::(post.filter λx=> !Ht P pl ops Pm x):=(by rw[uC,List.filter_cons_of_pos (by simp[hz])]);have e2:((pre++x::post).filter λx=> !Ht P pl ops Pm x).length=((pre++post).filter λx=> !Ht P pl ops Pm x).length+1:=(by rw[e,uC];simp;omega);rw[e2]at hD;obtain⟨Gf,S',k',Yj,h1,h2,h3,h4⟩:=acM hD hS (aU.2 ⟨hxl,by simp[hz]⟩) (λz hz=>ama z (aU.1 hz).1) akp ho;refine⟨false,Gf,S',k',Yj,h1,?_,λf hf=>(aU.1 (h3 f hf)).1,λf hf d hd=>aN.1 (aU.1 (h3 f hf)).2 d hd,h4⟩;have e3:(((pre++x::post).filter λx=> !Ht P pl ops Pm x).filter λz=>z.i != x.i)=(pre++post).filter λx=> !Ht P pl ops Pm x:=by
        rw[<- al6,List.filter_filter,List.filter_filter]
        congr 1
        funext z
        exact Bool.and_comm _ _
       rw[e3]at h2;exact h2
    have Ve:=hpw.sublist hsub;rw[Ac]at Ve;have hpre:∀p,p∈pre->p.i ∉ x.EE/\G9 p.o x.o=true:=by
     intro p hp;have h1:=Ve.2.2 p hp x (aG ..);have hn:p.i ∉ x.EE:=by intro hm';have h2:=haft _ hm';have h3:=(hl p (hsub.subset (dG _ hp))).2 (dG _ hp);rw[Vd h3]at h2;cases h2
     exact⟨hn,h1.2.resolve_left hn⟩
    obtain⟨⟨⟨I,ρ,st,hT,hg⟩,Gg⟩,hpa⟩:=h;have hT:=Om hpre hT;have h1:=V9 (Q:=Q) (ops:=ops) hg hm Gg hpa hpl hco hO1 (show T P x.o st λrd wr st'=>zZ x.EE rd wr log=true/\wpI P (pre++post) ((x.i,rd,wr)::log) st' K from hT);have key:∀a w,AO E g0 pa dp n (λst=>∃rd wr,zZ x.EE rd wr log=true/\wpI P (pre++post) ((x.i,rd,wr)::log) st K) Gf a w->wpAny P .any ops Q fuel (listed.setIfInBounds x.i true) a w:=by
     rintro a w ⟨⟨⟨I,ρ,st,⟨rd,wr,_,hk⟩,hg⟩,Gg⟩,hpa⟩;have Gg:=Gg.weak hO4;have hnx:x ∉ pre++post:=by
      intro hxm;rcases aS.1 hxm with h|h
      ·have:=(Ve.2.2 x h x (aG ..)).1;omega
      ·have:=((pY.1 Ve.2.1).1 x h).1;omega
     refine ih (pre++post) _ ((x.i,rd,wr)::log) Yj G a w ⟨S1,k1,hO2,hO3⟩ hO5 hG (by simp at hf⊢;omega) ?_ (by simp[hsz]) ?_ ?_ ⟨⟨⟨I,ρ,st,hk,hg⟩,Gg⟩,hpa⟩
     ·exact(List.Sublist.append_left (List.sublist_cons_self x post) pre).trans hsub
     ·intro y hy;by_cases hyx:y=x
      ·subst hyx;constructor
       ·intro h;have hin:y.i<listed.size:=(by rw[hsz];exact hlt);simp[hin]at h
       ·intro h;exact aY h hnx
      ·have hne:x.i≠y.i:=λe=>hyx (TJ y x hy hx e.symm);rw[getD_set_ne true hne,hl y hy];simp only[aS,aO,hyx,false_or]
     ·intro y hy hyl j hj;by_cases hyx:y=x
      ·subst hyx;exact getD_set_true (haft j hj)
      ·have hne:x.i≠y.i:=λe=>hyx (TJ y x hy hx e.symm);rw[getD_set_ne false hne]at hyl;exact getD_set_true (hdown y hy hyl j hj)
    unfold wpOp;rw[ho];unfold Eg at h1;simp only;split
    ·rename_i hw;rw[aF hw]at h1;exact h1.imp (zh key) id
    ·rename_i hw;rw[ai hw]at h1;exact key _ _ h1
theorem XK (hm:E.m<=10)(hpl:∀e,e∈pa->e.1∈pl)(hf:P.follows .mixedOrders=true){L:List (kE×List Nat)}(hc:LM P n E.m ops L=true){K:iI->Prop}{Γ Γe:List OF}{keep:List Nat}(hD:ajs P pl keep ops (items L 0) Γ = some Γe)(hq:∀a w,AO E g0 pa dp n K Γe a w->Q .normal a w)
 {id:Nat} {a:Act} {w:World} (h:AO E g0 pa dp n (λst=>wpD P L 0 [] st K) Γ a w):(zO id ops true).wp P Q a w:=by
 refine wp_region_any hf ?_;have hlen:L.length=ops.size:=by simp only[LM,ah,aH]at hc;exact hc.1.1
 have i0:=Ji (l:=L) (i:=0);have hil:(items L 0).length=L.length:=by
  clear i0 hlen h hc hD;generalize 0=i
  induction L generalizing i with
  |nil=>rfl
  |cons x r ih=>obtain⟨o,EE⟩:=x;simp[items,ih]
 unfold ajs at hD;rw[DK (λ_ _=>EO)]at hD;generalize ahc P pl ops (aiE P pl ops (items L 0) Γ).reverse (keep++pl)=Pm at hD;unfold ak4 at hD;simp only[DK (fc:=vV) (λ_ _=>EO),kX]at hD;generalize hDD:((items L 0).filter (Ht P pl ops Pm)).filterMap (λx=>(ops[x.i]?).bind (·.dst))=D at hD;refine Yr hm hpl hc (Pm:=Pm) (D:=D) ?_ hq ops.size (items L 0) (ug ops.size false) [] (Qn D Γ) Γe a _ ⟨_,_,aG ..,hD⟩ (λf hf d hd=>aN.1 (aU.1 hf).2 d hd) (λ_ h=>h) aI (List.Sublist.refl _) nV ?_ ?_ ?_
 ·intro x o d hx hz ho hd;rw[<- hDD,dQ];exact⟨x,aU.2 ⟨hx,hz⟩,by rw[ho];exact hd⟩
 ·intro x hx;have:=i0.1 x hx;have hlt:x.i<ops.size:=by omega
  simp[hlt,hx]
 ·intro x hx h;exfalso;have:=i0.1 x hx;have hlt:x.i<ops.size:=by omega
  simp[hlt]at h
 ·obtain⟨⟨⟨I,ρ,st,hT,hg⟩,g,hg1,hg2⟩,hpa⟩:=h;have hg3:=hg2.weak (yN:=Qn D Γ) λf hf=>(aU.1 hf).1;refine⟨⟨?_,g,hg1,hg3.world (ak _) λ_ _=>rfl⟩,hpa⟩;exact⟨I,ρ,st,Eq.mp (ZX (P:=P) (l:=L) (i:=0) (log:=[]) (st:=st) (K:=K)) hT,hg.drew⟩
end
end
section
def Lp (zs:List Nat)(bx:Nat->Box)(π:Nat->Option Nat)(vs:List Nat):AC->AC->Prop
 |_,.Jj=>True
 |.c x,.c y=>x=y
 |.mM sz,.c y=>y = .sl sz []
 | .own b n sz,.c y=>b∈zs/\match(bx b).arr with
   |some (sz',es)=>sz'=sz/\n<=es.length/\y = .sl sz (es.take n)
   |none=>False
 |.mM sz,.mM sz'=>sz=sz'
 |.mM sz,.own b n sz'=>b∈vs/\n=0/\sz=sz'
 |.own b n sz,.own b' n' sz'=>π b'=some b/\n=n'/\sz=sz'
 |.sub b lo n _ sz,.own b' n' sz'=>π b'=some b/\lo=0/\n=n'/\sz=sz'
 |.sub b lo n c sz,.sub b' lo' n' c' sz'=>π b'=some b/\lo=lo'/\n=n'/\c=c'/\sz=sz'
 |.ptr b o,.ptr b' o'=>π b'=some b/\o=o'
 |.yE b i sz o,.yE b' i' sz' o'=>π b'=some b/\i=i'/\sz=sz'/\o=o'
 |.EG cs,.EG cs'=>cs=cs'
 |.fn f caps,.fn f' aao=>f=f'/\aao.map π=caps.map some
 |.opt T b,.opt T' b'=>T=T'/\π b'=some b
 |.uM b n,.uM b' n'=>π b'=some b/\n=n'
 |.err g,.err g'=>g=g'
 |_,_=>False
def Lr (zs:List Nat)(bx:Nat->Box)(π:Nat->Option Nat)(vs:List Nat):List AC->List AC->Prop
 |[],[]=>True
 |x::xs,y::ys=>Lp zs bx π vs x y/\Lr zs bx π vs xs ys
 |_,_=>False
def SY (zs:List Nat)(bx:Nat->Box)(π:Nat->Option Nat)(vs:List Nat):List (Bool×List AC)->List (Bool×List AC)->Prop
 |[],[]=>True
 |(g,x)::xs,(g',y)::ys=>g=g'/\Lr zs bx π vs x y/\SY zs bx π vs xs ys
 |_,_=>False
def wkV (zs:List Nat)(bx:Nat->Box)(π:Nat->Option Nat)(vs:List Nat):AV->AV->Prop
 |.one x,.one y=>Lp zs bx π vs x y
 |.agg xs,.agg ys=>Lr zs bx π vs xs ys
 |.AX xs,.AX ys=>SY zs bx π vs xs ys
 |_,_=>False
def wkB (zs:List Nat)(bx:Nat->Box)(π:Nat->Option Nat)(vs:List Nat)(b:Nat):Box->Prop
 |.absent=>π b=none/\b ∉ vs
 |.dead=>True
 | .var ys=>match π b with
   | some c=>match bx c with
     |.var xs=>Lr zs bx π vs xs ys
     |_=>False
   |none=>False
 | .dat sz es=>match π b with
   |some c=>c ∉ zs/\(bx c = .dat sz es\/∃t,bx c = .dat sz (es++t))
   |none=>b∈vs/\es=[]
 | .Eo sz es=>match π b with
   |some c=>bx c = .Eo sz es\/(c∈zs/\bx c = .dat sz es)
   |none=>False
 | .row e l=>match π b with
   |some c=>bx c = .row e l
   |none=>False
def Box.NU : Box->Bool
 |.dead=>true
 |_=>false
structure WkS (m:Nat)(bx bx':Nat->Box)(zs:List Nat)(π:Nat->Option Nat)(vs:List Nat):Prop where
 box:∀b,wkB zs bx π vs b (bx' b)
 inj:∀b b' c,(bx' b).NU=false->(bx' b').NU=false->π b=some c->π b'=some c->b=b'
 vir:∀b,b∈vs->π b=none
 fix:∀b,b<m->π b=some b\/(π b=none/\b ∉ vs/\bx b = .absent)
def S9 (zs:List Nat)(bx:Nat->Box)(π:Nat->Option Nat)(vs:List Nat):Slot->Slot->Prop
 |_,.none=>True
 |.v g x,.v g' y=>g=g'/\(g=true->wkV zs bx π vs x y)
 |_,_=>False
def Ko (m:Nat)(st S:iI):Prop:=∃zs π vs,WkS m st.bx S.bx zs π vs/\∀t,S9 zs st.bx π vs (st.tm t) (S.tm t)
section
variable {P:Program} {E:Env P} {I:IH} {ρ:Ren} {n:Nat} {st:iI} {a:Act} {w:World}
def BV (ρ:Ren)(π:Nat->Option Nat)(vs:List Nat):Ren:=λb=>match π b with
 |some c=>ρ c
 |none=>if b∈vs then some (0,0)else none
theorem afZ (h:GX E I ρ n st a w){zs vs:List Nat}{π:Nat->Option Nat}(hvs:∀b,b∈vs->π b=none){v:Value}{x y:AC}(hx:GC I ρ v x)(hy:Lp zs st.bx π vs x y):GC (Bh I ρ w st.bx zs) (BV ρ π vs) v y:=by
 have hle:=EI h.bx zs;cases y with
 |Jj=>exact hx.one
 | c y=>
   cases x with
   |c x=>simp only[Lp]at hy;subst hy;exact Rd.mono hle hx
   | mM sz=>simp only[Lp]at hy;subst hy;simp only[GC]at hx;subst hx;exact Rd.sl none 0 0 _ [] (λ_ _=>undef) rfl (ak _) (by simp[maxLen]) nV nV (by intro ad h;cases h) nV
   | own b m sz=>
     simp only[Lp]at hy;obtain⟨hb,hy⟩:=hy;split at hy
     ·rename_i sz' es harr;obtain⟨rfl,hm,rfl⟩:=hy;exact Vh h hb harr hm hx
     ·exact hy.elim
   |_=>simp[Lp]at hy
 | mM sz=>cases x<;>simp only[Lp]at hy;subst hy;exact hx
 | own b' m' sz'=>
   cases x with
   | mM sz=>simp only[Lp]at hy;obtain⟨hb,rfl,rfl⟩:=hy;simp only[GC]at hx;subst hx;exact⟨0,0,none,0,by simp[BV,hvs b' hb,hb],rfl,ak _,ak _,λh=>aY rfl h⟩
   | own b m sz=>simp only[Lp]at hy;obtain⟨hb,rfl,rfl⟩:=hy;obtain⟨k,cap,ad,c,hr,hrest⟩:=hx;exact⟨k,cap,ad,c,by simp only[BV,hb];exact hr,hrest⟩
   | sub b lo m c0 sz=>simp only[Lp]at hy;obtain⟨hb,rfl,rfl,rfl⟩:=hy;obtain⟨k,cap,ad,c,hr,hv,hm,hcc,_,ha⟩:=hx;refine⟨k,cap,ad,c,by simp only[BV,hb];exact hr,hv,hm,aI,λhc0=>?_⟩;have:=ha (.inr ⟨rfl,hc0⟩);rw[Nat.zero_mul]at this;exact this
   |_=>simp[Lp]at hy
 | sub b' lo' m' c' sz'=>
   cases x with
   | sub b lo m c sz=>simp only[Lp]at hy;obtain⟨hb,rfl,rfl,rfl,rfl⟩:=hy;obtain⟨k,cap,ad,c1,hr,hrest⟩:=hx;exact⟨k,cap,ad,c1,by simp only[BV,hb];exact hr,hrest⟩
   |_=>simp[Lp]at hy
 | ptr b' o'=>
   cases x with
   | ptr b o=>simp only[Lp]at hy;obtain⟨hb,rfl⟩:=hy;obtain⟨k,cap,hr,hrest⟩:=hx;exact⟨k,cap,by simp only[BV,hb];exact hr,hrest⟩
   |_=>simp[Lp]at hy
 | yE b' i' sz' o'=>
   cases x with
   | yE b i sz o=>simp only[Lp]at hy;obtain⟨hb,rfl,rfl,rfl⟩:=hy;obtain⟨k,cap,hr,hrest⟩:=hx;exact⟨k,cap,by simp only[BV,hb];exact hr,hrest⟩
   |_=>simp[Lp]at hy
 | opt T' b'=>
   cases x with
   | opt T b=>simp only[Lp]at hy;obtain⟨rfl,hb⟩:=hy;obtain⟨k,hr,hrest⟩:=hx;exact⟨k,by simp only[BV,hb];exact hr,hrest⟩
   |_=>simp[Lp]at hy
 | uM b' n'=>
   cases x with
   | uM b n=>simp only[Lp]at hy;obtain⟨hb,rfl⟩:=hy;obtain⟨k,cap,hr,hrest⟩:=hx;exact⟨k,cap,by simp only[BV,hb];exact hr,hrest⟩
   |_=>simp[Lp]at hy
 | err g'=>
   cases x with
   |err g=>simp only[Lp]at hy;subst hy;exact hx
   |_=>simp[Lp]at hy
 | EG cs'=>
   cases x with
   | EG cs=>simp only[Lp]at hy;subst hy;obtain⟨p,hv,hc⟩:=hx;exact⟨p,hv,λj c hj=>let ⟨u,h1,h2⟩:=hc j c hj;⟨u,IH.JM hle h1,h2.mono hle⟩⟩
   |_=>simp[Lp]at hy
 | fn f' aao=>
   cases x with
   | fn f caps=>simp only[Lp]at hy;obtain⟨rfl,hcs⟩:=hy;obtain⟨ks,hk1,hk2,hk3⟩:=hx;have hlen:aao.length=caps.length:=(by have:=kZ List.length hcs;simpa using this);refine⟨ks,by rw[hlen];exact hk1,λj b k hb hk=>?_,hk3⟩;have hj:j<caps.length:=(by have:=(aT.1 hb).1;omega);have h1:(aao.map π)[j]? = (caps.map some)[j]?:=(by rw[hcs]);rw[dD,dD,hb,aA hj]at h1;simp only[mD,aC]at h1;obtain⟨cap,hr⟩:=hk2 j _ k (aA hj) hk;exact⟨cap,by simp only[BV,h1];exact hr⟩
   |_=>simp[Lp]at hy
theorem VW (h:GX E I ρ n st a w){zs vs:List Nat}{π:Nat->Option Nat}(hvs:∀b,b∈vs->π b=none):∀{us:List Value} {xs ys:List AC},JH I ρ us xs->Lr zs st.bx π vs xs ys->JH (Bh I ρ w st.bx zs) (BV ρ π vs) us ys
 |us,[],[],hx,_=>⟨hx.1,λj v x hv hx=>by simp at hx⟩
 | u::us,x::xs,y::ys,hx,hy=>by
   have ih:=VW h hvs (us:=us) (xs:=xs) (ys:=ys) ⟨by simpa using hx.1,λj v z hv hz=>hx.2 (j+1) v z (by simpa using hv) (by simpa using hz)⟩ hy.2;refine⟨by simp[ih.1],λj v z hv hz=>?_⟩;cases j with
   | zero=>simp at hv hz;subst hv;subst hz;exact afZ h hvs (hx.2 0 _ _ rfl rfl) hy.1
   |succ j=>exact ih.2 j v z (by simpa using hv) (by simpa using hz)
 |[],_::_,_,hx,_=>by have:=hx.1;simp at this
 |_,[],_::_,_,hy=>by simp[Lr]at hy
 |_,_::_,[],_,hy=>by simp[Lr]at hy
theorem X6 {zs vs:List Nat}{bx:Nat->Box}{π:Nat->Option Nat} : ∀{xs ys:List (Bool×List AC)},SY zs bx π vs xs ys->xs.length=ys.length/\∀(j:Nat) (y:Bool×List AC),ys[j]? = some y->∃x:Bool×List AC,xs[j]? = some x/\x.1=y.1/\Lr zs bx π vs x.2 y.2
 |[],[],_=>⟨rfl,λj y hy=>by simp at hy⟩
 | (g,x)::xs,(g',y)::ys,h=>by
   obtain⟨h1,h2,h3⟩:=h;obtain⟨i1,i2⟩:=X6 h3;refine⟨by simp[i1],λj z hz=>?_⟩;cases j with
   |zero=>simp at hz;subst hz;exact⟨(g,x),rfl,h1,h2⟩
   | succ j=>obtain⟨q,hq,hr⟩:=i2 j z (by simpa using hz);exact⟨q,by simpa using hq,hr⟩
 |[],_::_,h=>by simp[SY]at h
 |_::_,[],h=>by simp[SY]at h
theorem aif (h:GX E I ρ n st a w){zs vs:List Nat}{π:Nat->Option Nat}(hvs:∀b,b∈vs->π b=none){v:Value}{x y:AV}(hx:GV I ρ v x)(hy:wkV zs st.bx π vs x y):GV (Bh I ρ w st.bx zs) (BV ρ π vs) v y:=by
 cases x with
 | one x=>cases y with
   |one y=>exact afZ h hvs hx hy
   |_=>exact hy.elim
 | agg xs=>cases y with
   |agg ys=>obtain⟨cs,rfl,hg⟩:=hx;exact⟨cs,rfl,VW h hvs hg hy⟩
   |_=>exact hy.elim
 | AX ps=>cases y with
   | AX qs=>
     obtain⟨us,rfl,hl,hp⟩:=hx;obtain⟨i1,i2⟩:=X6 (show SY zs st.bx π vs ps qs from hy);refine⟨us,rfl,by rw[hl,i1],λj v q hv hq=>?_⟩;obtain⟨p,hpj,e,hw⟩:=i2 j q hq;have h1:=hp j v p hv hpj;unfold GP at h1⊢;rw[e]at h1;split at h1
     ·rename_i hb;rw[aF hb];obtain⟨cs,rfl,hg⟩:=h1;exact⟨cs,rfl,VW h hvs hg hw⟩
     ·rename_i hb;rw[ai hb];obtain⟨x,hx,hg⟩:=h1;rw[hx]at hw;cases hq2:q.2 with
      |nil=>rw[hq2]at hw;exact hw.elim
      | cons y t=>
        rw[hq2]at hw;cases t with
        |nil=>exact⟨y,rfl,afZ h hvs hg hw.1⟩
        |cons z t=>exact hw.2.elim
   |_=>exact hy.elim
theorem Uu (h:GX E I ρ n st a w){m:Nat}(hm:E.m<=m){bx':Nat->Box}{zs vs:List Nat}{π:Nat->Option Nat}(hw:WkS m st.bx bx' zs π vs) :
 GX E (Bh I ρ w st.bx zs) (BV ρ π vs) n ⟨λ_=>.none,bx'⟩ a w:=by
 have hF:=h.freeze zs;generalize hJ:Bh I ρ w st.bx zs=J at *;have hnd:∀b k,(bx' b).uses (BV ρ π vs b) k->(bx' b).NU=false:=λb k hu=>by
  cases hx:bx' b with
  |dead=>rw[hx]at hu;exact hu.elim
  |_=>rfl
 have IL:∀b k,(bx' b).uses (BV ρ π vs b) k->∃c,π b=some c/\((st.Eo zs).bx c).uses (ρ c) k:=by
  intro b k hu;have hb:=hw.box b;cases hx:bx' b with
  | var ys=>
    rw[hx]at hu hb;simp only[wkB]at hb;split at hb
    ·rename_i c hc;refine⟨c,hc,?_⟩;split at hb
     ·rename_i xs hxs;rw[yX,hxs];simp only[BV,hc]at hu;split<;>exact hu
     ·exact hb.elim
    ·exact hb.elim
  | dat sz es=>
    rw[hx]at hu hb;simp only[wkB]at hb;split at hb
    ·rename_i c hc;refine⟨c,hc,?_⟩;simp only[BV,hc]at hu;rcases hb.2 with hb2|⟨t,hb2⟩
     ·rw[yX,ai hb.1,hb2];exact hu
     ·rw[yX,ai hb.1,hb2];exact hu
    ·rename_i hc;obtain⟨cap,hu1,hu2⟩:=hu;simp only[BV,hc,hb.1,kN,aC,aK]at hu1;exact aY hu1.2.symm hu2
  | row e l=>
    rw[hx]at hu hb;simp only[wkB]at hb;split at hb
    ·rename_i c hc;refine⟨c,hc,?_⟩;simp only[BV,hc]at hu;rw[yX,hb];split<;>exact hu
    ·exact hb.elim
  |absent=>rw[hx]at hu;exact hu.elim
  |dead=>rw[hx]at hu;exact hu.elim
  |Eo sz es=>rw[hx]at hu;exact hu.elim
 refine{ agree:=hF.agree,bx:=⟨λb=>?_,λb b' k hb hb'=>?_,λb k hb=>?_⟩,tm:=λt ht=>trivial,size:=h.size,defers:=h.defers,Aj:=h.Aj,own:=λb k hu=>?_,Kq:=hF.Kq,Fa:=hF.Fa,vW:=λb hb=>?_ }
 ·have hb:=hw.box b;show BZ J (BV ρ π vs) w b (bx' b);cases hx:bx' b with
  | absent=>rw[hx]at hb;show BV ρ π vs b=none;simp only[BV,hb.1,hb.2,if_false]
  |dead=>trivial
  | var ys=>
    rw[hx]at hb;simp only[wkB]at hb;split at hb
    ·rename_i c hc;split at hb
     ·rename_i xs hxs;have hok:=h.bx.ok c;rw[hxs]at hok;obtain⟨k,cap,cs,hr,hwk,hsz,hcs⟩:=hok;have hg:JH J (BV ρ π vs) cs.toList ys:=by
       subst hJ;exact VW h hw.vir ⟨by simpa using hsz,λj u x hu hx=>hcs j u x (by simpa using hu) hx⟩ hb
      refine⟨k,cap,cs,by simp only[BV,hc];exact hr,hwk,by simpa using hg.1,λj u x hu hx=>hg.2 j u x (by simpa using hu) hx⟩
     ·exact hb.elim
    ·exact hb.elim
  | dat sz es=>
    rw[hx]at hb;simp only[wkB]at hb;split at hb
    ·rename_i c hc;have hok:=hF.bx.ok c;rcases hb.2 with hb2|⟨t,hb2⟩
     ·rw[yX,ai hb.1,hb2]at hok;obtain⟨k,cap,hr,hrest⟩:=hok;exact⟨k,cap,by simp only[BV,hc];exact hr,hrest⟩
     ·rw[yX,ai hb.1,hb2]at hok;obtain⟨k,cap,hr,h1,h2,h3,h4⟩:=hok;refine⟨k,cap,by simp only[BV,hc];exact hr,by simp at h1;omega,h2,λe he=>h3 e (dG _ he),λh0=>?_⟩;obtain⟨cs,e,g1,g2,g3,g4⟩:=h4 h0;refine⟨cs,e,g1,g2,g3,λi j c' hc'=>g4 i j c' ?_⟩;have hi:=lq hc';rw[<- hc']
      congr 1
      simp only[List.getD];rw[bD hi]
    ·rename_i hc;obtain⟨hv,rfl⟩:=hb;exact⟨0,0,by simp only[BV,hc,hv,kN],nV,by simp[maxLen],nV,λh=>aY rfl h⟩
  | row e l=>
    rw[hx]at hb;simp only[wkB]at hb;split at hb
    ·rename_i c hc;have hok:=hF.bx.ok c;rw[yX,hb]at hok;have e1:(if c∈zs then FT (.row e l)else .row e l)=Box.row e l:=(by split<;>rfl);rw[e1]at hok;obtain⟨k,cap,hr,hrest⟩:=hok;exact⟨k,cap,by simp only[BV,hc];exact hr,hrest⟩
    ·exact hb.elim
  | Eo sz es=>
    rw[hx]at hb;simp only[wkB]at hb;split at hb
    ·rename_i c hc;have hok:=hF.bx.ok c;have e:(st.Eo zs).bx c = .Eo sz es:=by
      rw[yX];rcases hb with hb|⟨hz,hb⟩
      ·rw[hb];split<;>rfl
      ·rw[hb,aF hz];rfl
     rw[e]at hok;obtain⟨k,cap,hr,hrest⟩:=hok;exact⟨k,cap,by simp only[BV,hc];exact hr,hrest⟩
    ·exact hb.elim
 ·obtain⟨c,hc,hu⟩:=IL b k hb;obtain⟨c',hc',hu'⟩:=IL b' k hb';have:=hF.bx.inj c c' k hu hu';subst this;exact hw.inj b b' c (hnd b k hb) (hnd b' k hb') hc hc'
 ·obtain⟨c,hc,hu⟩:=IL b k hb;exact hF.bx.fresh c k hu
 ·obtain⟨c,hc,hu'⟩:=IL b k hu;exact hF.own c k hu'
 ·rcases hw.fix b aI with hf|⟨hf,hv,hab⟩
  ·simp only[BV,hf];exact h.vW b hb
  ·have:=h.bx.ok b;rw[hab]at this;rw[<- h.vW b hb];simp only[BV,hf,hv,if_false];exact this.symm
theorem Lm (h:GX E I ρ n st a w){m:Nat}(hm:E.m<=m){S:iI}(hw:Ko m st S):∃J σ,GX E J σ n S a w:=by
 obtain⟨zs,π,vs,hs,ht⟩:=hw;have h1:=Uu h hm hs;refine⟨_,_,{ h1 with tm:=λt htn=>?_,bx:=h1.bx,agree:=h1.agree,size:=h1.size,defers:=h1.defers,Aj:=h1.Aj,own:=h1.own }⟩;have h2:=ht t;have h3:=h.tm t htn;cases hS:S.tm t with
 |none=>trivial
 | v g y=>
   rw[hS]at h2;cases hst:st.tm t with
   |none=>rw[hst]at h2;exact h2.elim
   | v g' x=>rw[hst]at h2 h3;obtain⟨rfl,hv⟩:=h2;exact⟨λhg=>aif h hs.vir (h3.1 hg) (hv hg),h3.2⟩
theorem AK.weak {m:Nat}(hm:E.m<=m){K:iI->Prop}{X:Type}{J:X->Prop}{S:X->iI}(hk:∀st,K st->∃x,J x/\Ko m st (S x)){a:Act}{w:World}(h:AK E n K a w):∃x,J x/\AK E n (λst=>st=S x) a w:=by obtain⟨I,ρ,st,hK,hg⟩:=h;obtain⟨x,hj,hw⟩:=hk st hK;obtain⟨I',ρ',hg'⟩:=Lm hg hm hw;exact⟨x,hj,I',ρ',_,rfl,hg'⟩
end
end
def iI.of (ts:List (Nat×Slot))(bs:List (Nat×Box)):iI:=
 ⟨λt=>match ts.find? (λp=>p.1==t)with|some p=>p.2|none=>.none,λb=>match bs.find? (λp=>p.1==b)with|some p=>p.2|none=>.absent⟩
def yQ : List (Nat×Slot)->Nat->Slot
 |[],_=>.none
 |(t',s)::r,t=>if t'=t then s else yQ r t
def pV : List (Nat×Box)->Nat->Box
 |[],_=>.absent
 |(t',s)::r,t=>if t'=t then s else pV r t
theorem GH (ts:List (Nat×Slot))(bs:List (Nat×Box))(t:Nat):(iI.of ts bs).tm t=yQ ts t:=by
 simp only[iI.of]
 induction ts with
 |nil=>rfl
 | cons p r ih=>
   obtain⟨a,b⟩:=p;by_cases h:a=t
   ·subst h;simp[yQ]
   ·simp[yQ,h,ih]
theorem Cc (ts:List (Nat×Slot))(bs:List (Nat×Box))(t:Nat):(iI.of ts bs).bx t=pV bs t:=by
 simp only[iI.of]
 induction bs with
 |nil=>rfl
 | cons p r ih=>
   obtain⟨a,b⟩:=p;by_cases h:a=t
   ·subst h;simp[pV]
   ·simp[pV,h,ih]
theorem aja (ts:List (Nat×Slot))(bs:List (Nat×Box))(t:Nat)(s:Slot):(iI.of ts bs).put t s=iI.of ((t,s)::ts) bs:=by
 apply iI.ext'
 ·funext t';rw[GH,iI.Rf,GH,yQ];by_cases h:t'=t
  ·simp[h]
  ·rw[ai h,ai (λe=>h e.symm)]
 ·funext b;rw[iI.ajk,Cc,Cc]
def setB : List (Nat×Box)->Nat->Box->List (Nat×Box)
 |[],b,x=>[(b,x)]
 |(b',y)::r,b,x=>if b'=b then(b,x)::r else(b',y)::setB r b x
theorem Zl (bs:List (Nat×Box))(b b':Nat)(x:Box):pV (setB bs b x) b'=if b'=b then x else pV bs b':=by
 induction bs with
 | nil => simp only[setB,pV];by_cases h:b=b'
          ·simp[h]
          ·rw[ai h,ai (λe=>h e.symm)]
 | cons p r ih=>
   obtain⟨c,y⟩:=p;simp only[setB];by_cases h:c=b
   ·subst h;simp only[kN,pV];by_cases h':c=b'
    ·simp[h']
    ·rw[ai h',ai h',ai (λe=>h' e.symm)]
   ·rw[ai h];simp only[pV,ih];by_cases h':c=b'
    ·subst h';simp[h]
    ·simp[h']
theorem ahn (ts:List (Nat×Slot))(bs:List (Nat×Box))(b:Nat)(x:Box):(iI.of ts bs).wu b x=iI.of ts (setB bs b x):=by
 apply iI.ext'
 ·funext t;rw[iI.ahE,GH,GH]
 ·funext b';rw[iI.oP,Cc,Cc,Zl]
def Xh (ts:List (Nat×Slot)):List Nat->List (Nat×Slot)
 |[]=>[]
 |t::r=>(t,yQ ts t)::Xh ts r
theorem ahm (ts:List (Nat×Slot))(bs:List (Nat×Box))(l:List Nat):(iI.of ts bs).keep l=iI.of (Xh ts l) bs:=by
 apply iI.ext'
 ·funext t
  simp only[iI.keep];rw[GH,GH]
  induction l with
  |nil=>rfl
  | cons a r ih=>
    simp only[Xh,yQ];by_cases h:a=t
    ·subst h;simp
    ·rw[ai h,<- ih];have h':¬t=a:=λe=>h e.symm;simp[h']
 ·funext b;simp only[iI.keep];rw[Cc,Cc]
theorem acH (st:iI)(s:Slot):st.yf none s=st:=rfl
theorem acI (st:iI)(t:Nat)(s:Slot):st.yf (some t) s=st.put t s:=rfl
theorem acY (st:iI):st.qo []=st:=rfl
theorem ZJ (st:iI)(b:Nat)(x:Box)(r:List (Nat×Box)):st.qo ((b,x)::r)=(st.wu b x).qo r:=rfl
theorem alM (tm:Nat->Slot)(s:Nat):(mY.t s).ev tm=tm s:=rfl
theorem alL (tm:Nat->Slot)(x:AC):(mY.k x).ev tm = .v true (.one x):=rfl
theorem g_v (g:Bool)(x:AV):(Slot.v g x).g=g:=rfl
theorem x_v (g:Bool)(x:AV):(Slot.v g x).x=x:=rfl
section
inductive gI where
 |skip
 |reg (ops:List kE) (keep:List Nat)
 |yF (ops:List (kE×List Nat)) (keep:List Nat)
 |seq (a b:gI)
 |cut (a b:gI)
 |cond (c:mY) (a b:gI)
 |block (id:Nat) (a:gI)
 |loop (a:gI)
 |exit (id:Nat)
 |ret
 deriving Inhabited
inductive tJ where
 |normal
 |exit (id:Nat)
 |ret
abbrev AQ :=tJ->iI->Prop
def tJ.then (next:iI->Prop)(Q:AQ):AQ
 |.normal,st=>next st
 |.exit id,st=>Q (.exit id) st
 |.ret,st=>Q .ret st
def tJ.inBlock (id:Nat)(Q:AQ):AQ
 |.exit id',st=>if id'=id then Q .normal st else Q (.exit id') st
 |.normal,st=>Q .normal st
 |.ret,st=>Q .ret st
def aj3 (body:AQ->iI->Prop)(Q:AQ)(st:iI):Prop:=
 ∃ (X:Type) (J:X->Prop) (S:X->iI) (μ:X->Nat),(∃x,J x/\Ko 10 st (S x)) /\
   ∀x,J x->body (tJ.then (λst'=>∃x',(J x'/\μ x'<μ x)/\Ko 10 st' (S x')) Q) (S x)
def alC (wa:AQ->iI->Prop)(wb:AQ->iI->Prop)(Q:AQ)(st:iI):Prop:=
 ∃(X:Type) (J:X->Prop) (S:X->iI),wa (tJ.then (λst'=>∃x,J x/\Ko 10 st' (S x)) Q) st/\∀x,J x->wb Q (S x)
def G8 (body:AQ->iI->Prop)(Q:AQ)(st:iI)(_:DU body)(_:DU Q):Prop:=aj3 body Q st
def Lu (wa wb:AQ->iI->Prop)(Q:AQ)(st:iI)(_:DU wa)(_:DU wb)(_:DU Q):Prop:=alC wa wb Q st
def wpC (P:Program):gI->AQ->iI->Prop
 |.skip,Q,st=>Q .normal st
 |.reg ops keep,Q,st=>wpOps P ops st λst=>Q .normal (st.keep keep)
 |.yF ops keep,Q,st=>wpD P ops 0 [] st λst=>Q .normal (st.keep keep)
 |.seq a b,Q,st=>wpC P a (tJ.then (wpC P b Q) Q) st
 |.cut a b,Q,st=>Lu (wpC P a) (wpC P b) Q st .mk .mk .mk
 | .cond c a b,Q,st=>(c.ev st.tm).g=true/\match(c.ev st.tm).x with
   |.one (.c (.lit (.bool t)))=>(t=true->wpC P a Q st)/\(t=false->wpC P b Q st)
   |_=>False
 |.block id a,Q,st=>wpC P a (tJ.inBlock id Q) st
 |.loop a,Q,st=>G8 (wpC P a) Q st .mk .mk
 |.exit id,Q,st=>Q (.exit id) st
 |.ret,Q,st=>Q .ret st
def tC (P:Program)(n m:Nat):Code->gI->Bool
 |.skip,.skip=>true
 |.region _ ops false,.reg xs _=>NH P n m ops ops.toList xs
 |.region _ ops true,.yF xs _=>LM P n m ops xs&&P.follows .mixedOrders
 |.seq a b,.seq x y=>tC P n m a x&&tC P n m b y
 |.seq a b,.cut x y=>tC P n m a x&&tC P n m b y
 |.cond c a b,.cond d x y=>kD n c d&&tC P n m a x&&tC P n m b y
 |.block i a,.block j x=>i==j&&tC P n m a x
 |.loop a,.loop x=>tC P n m a x
 |.exit i,.exit j=>i==j
 |.ret,.ret=>true
 |_,_=>false
section
variable {P:Program} {E:Env P} {n:Nat}
def CQ (E:Env P)(n:Nat)(Q:AQ):Exit->Act->World->Prop
 |.normal,a,w=>AK E n (Q .normal) a w
 |.exit id,a,w=>AK E n (Q (.exit id)) a w
 |.ret,a,w=>AK E n (Q .ret) a w
 |_,_,_=>False
theorem UA {Q:AQ}{next:iI->Prop}{nx:Act->World->Prop}(h:∀a w,AK E n next a w->nx a w)(e:Exit)(a:Act)(w:World)(hq:CQ E n (tJ.then next Q) e a w):Exit.then nx (CQ E n Q) e a w:=by
 cases e with
 |normal=>exact h a w hq
 |exit id=>exact hq
 |ret=>exact hq
 |goto l=>exact hq
 |panic c=>exact hq
 |outgrown=>exact hq
theorem Yk {Q:AQ}{id:Nat}(e:Exit)(a:Act)(w:World)(hq:CQ E n (tJ.inBlock id Q) e a w):wX id (CQ E n Q) e a w:=by
 cases e with
 |normal=>exact hq
 | exit id'=>
   simp only[wX];by_cases h:id'=id
   ·rw[aF h];exact AK.imp (λst (hs:tJ.inBlock id Q (.exit id') st)=>by simp only[tJ.inBlock,aF h]at hs;exact hs) hq
   ·rw[ai h];exact AK.imp (λst (hs:tJ.inBlock id Q (.exit id') st)=>by simp only[tJ.inBlock,ai h]at hs;exact hs) hq
 |ret=>exact hq
 |goto l=>exact hq
 |panic c=>exact hq
 |outgrown=>exact hq
theorem GX.keep {I:IH}{ρ:Ren}{st:iI}{a:Act}{w:World}(h:GX E I ρ n st a w)(ts:List Nat):GX E I ρ n (st.keep ts) a w:=
 have ht:∀t,t<n->GSl I ρ (a.tmps.getD t undef) ((st.keep ts).tm t):=λt ht=>by
  simp only[iI.keep];split
  ·exact h.tm t ht
  ·trivial
 { h with tm:=ht,bx:=h.bx,agree:=h.agree,size:=h.size,defers:=h.defers,Aj:=h.Aj,own:=h.own }
theorem F7 {Q:Exit->Act->World->Prop}{a:Act}{w:World}{c:Code}(Inv:Nat->Act->World->Prop)(h0:∃k,Inv k a w)
 (round:∀k a w,Inv k a w->c.wp P (Exit.then (λa' w'=>∃k',k'<k/\Inv k' a' w') Q) a w):(Code.loop c).wp P Q a w:=by
 have hmin:∀a w,(∃k,Inv k a w)->∃k,Inv k a w/\∀j,j<k->¬Inv j a w:=by
  intro a w ⟨k,hk⟩
  induction k using Nat.strongRecOn with
  | _ k ih=>
    by_cases h:∃j,j<k/\Inv j a w
    ·obtain⟨j,hj,hi⟩:=h;exact ih j hj hi
    ·exact⟨k,hk,λj hj hi=>h ⟨j,hj,hi⟩⟩
 let μ:Act->World->Nat:=λa w=>open Classical in if h:∃k,Inv k a w then(hmin a w h).choose else 0
 have hμ:∀a w,(∃k,Inv k a w)->Inv (μ a w) a w/\∀j,Inv j a w->μ a w<=j:=by intro a w h;have hs:=(hmin a w h).choose_spec;simp only[μ,dif_pos h];exact⟨hs.1,λj hj=>Nat.le_of_not_lt λhlt=>hs.2 j hlt hj⟩
 refine wp_loop (λa w=>∃k,Inv k a w) μ h0 λa w h=>?_;refine wp_mono (round _ a w (hμ a w h).1) λe a' w' hq=>?_;cases e with
 | normal=>obtain⟨k',hlt,hk⟩:=hq;exact⟨⟨k',hk⟩,Nat.lt_of_le_of_lt ((hμ a' w' ⟨k',hk⟩).2 k' hk) hlt⟩
 |exit id=>exact hq
 |ret=>exact hq
 |goto l=>exact hq
 |panic c=>exact hq
 |outgrown=>exact hq
theorem vU (hm:E.m<=10):∀{ac:gI} {c:Code} {Q:AQ} {a:Act} {w:World},tC P n E.m c ac=true->AK E n (wpC P ac Q) a w->c.wp P (CQ E n Q) a w
 | .skip,c,Q,a,w,hc,h=>by
   unfold tC at hc;split at hc<;>first|contradiction|skip
   exact wp_skip h
 | .reg xs keep,c,Q,a,w,hc,h=>by
   unfold tC at hc;split at hc<;>first|contradiction|skip
   rename_i heq;cases heq;refine wp_region_list (Rh hm hc h λa w hk=>?_);obtain⟨I,ρ,st,hk,hg⟩:=hk;exact⟨I,ρ,_,hk,hg.keep keep⟩
 | .yF xs keep,c,Q,a,w,hc,h=>by
   unfold tC at hc;split at hc<;>first|contradiction|skip
   rename_i heq;cases heq;simp only[ah]at hc;refine ZE hm hc.2 hc.1 (λa w hk=>?_) h;obtain⟨I,ρ,st,hk,hg⟩:=hk;exact⟨I,ρ,_,hk,hg.keep keep⟩
 | .seq x y,c,Q,a,w,hc,h=>by
   unfold tC at hc;split at hc<;>first|contradiction|skip
   rename_i heq;cases heq;simp only[ah]at hc;exact wp_seq (wp_mono (vU hm hc.1 h) (UA λa w hk=>vU hm hc.2 hk))
 | .cut x y,c,Q,a,w,hc,h=>by
   unfold tC at hc;split at hc<;>first|contradiction|skip
   rename_i heq;cases heq;simp only[ah]at hc;obtain⟨I,ρ,st,⟨X,J,S,h1,h2⟩,hg⟩:=h;refine wp_seq (wp_mono (vU hm hc.1 ⟨I,ρ,st,h1,hg⟩) (UA λa w hk=>?_));obtain⟨x,hj,I',ρ',st',rfl,hg'⟩:=AK.weak hm (λst h=>h) hk;exact vU hm hc.2 ⟨I',ρ',_,h2 x hj,hg'⟩
 | .cond d x y,c,Q,a,w,hc,h=>by
   unfold tC at hc;split at hc<;>first|contradiction|skip
   rename_i heq;cases heq;simp only[ah]at hc;obtain⟨I,ρ,st,⟨h1,h2⟩,hg⟩:=h;have hv:=lX hg hc.1.1 h1;unfold dY at hv;split at h2
   ·rename_i t ht;rw[ht]at hv;exact wp_cond_split (Hq hv) (λe=>vU hm hc.1.2 ⟨I,ρ,st,h2.1 e,hg⟩) (λe=>vU hm hc.2 ⟨I,ρ,st,h2.2 e,hg⟩)
   ·exact h2.elim
 | .block id x,c,Q,a,w,hc,h=>by
   unfold tC at hc;split at hc<;>first|contradiction|skip
   rename_i heq;cases heq;simp only[ah,aH]at hc;obtain⟨rfl,hc⟩:=hc;exact wp_block (wp_mono (vU hm hc h) Yk)
 | .loop x,c,Q,a,w,hc,h=>by
   unfold tC at hc;split at hc<;>first|contradiction|skip
   rename_i heq;cases heq;obtain⟨I,ρ,st,⟨X,J,S,μ,⟨x0,hj0,hw0⟩,hr⟩,hg⟩:=h;refine F7 (λk a w=>∃x,J x/\μ x=k/\AK E n (λst=>st=S x) a w) ?_ ?_
   ·obtain⟨I',ρ',hg'⟩:=Lm hg hm hw0;exact⟨_,x0,hj0,rfl,I',ρ',_,rfl,hg'⟩
   ·rintro k a w ⟨x,hj,rfl,I,ρ,st,rfl,hg⟩;refine wp_mono (vU hm hc ⟨I,ρ,_,hr x hj,hg⟩) (UA λa w hk=>?_);obtain⟨x',⟨hj',hlt⟩,hk'⟩:=AK.weak (J:=λx'=>J x'/\μ x'<μ x) hm (λst h=>h) hk;exact⟨_,hlt,x',hj',rfl,hk'⟩
 | .exit id,c,Q,a,w,hc,h=>by
   unfold tC at hc;split at hc<;>first|contradiction|skip
   rename_i heq;cases heq;simp only[aH]at hc;subst hc;exact wp_exit h
 | .ret,c,Q,a,w,hc,h=>by
   unfold tC at hc;split at hc<;>first|contradiction|skip
   exact wp_ret h
end
end
section
def Ref.rn (ρ:Nat->Nat)(r:Ref):Ref:=⟨r.off,r.ty,ρ r.m⟩
def OF.rn (ρ:Nat->Nat):OF->OF
 |.ref t r=>.ref t (r.rn ρ)
 |.Bg t i r=>.Bg t i (r.rn ρ)
 |.row b r=>.row b (r.rn ρ)
 |f=>f
def rnP (dp:Nat)(ρ:Nat->Nat):wL->wL
 |.tag d m=>if d=dp then .tag d (ρ m)else .tag d m
 |p=>p
def Own.rn (g:Own)(dp:Nat)(ρ:Nat->Nat):Own:=⟨λk=>match g k with
 |some (.arr T p)=>some (.arr T (rnP dp ρ p))
 |some (.var row d b)=>some (.var (if d=dp then row.map (Ref.rn ρ)else row) d b)
 |none=>none,g.bd⟩
theorem Uf {g:Own}{dp k:Nat}{ρ:Nat->Nat} : (g.rn dp ρ) k=match g k with
 |some (.arr T p)=>some (.arr T (rnP dp ρ p))
 |some (.var row d b)=>some (.var (if d=dp then row.map (Ref.rn ρ)else row) d b)
 |none=>none:=rfl
def OF.loc : OF->Nat
 |.row b r=>100000+b*100+r.off
 |.ref t r=>200000+t*100+r.off
 |.Bg t i r=>300000+t*1000+i*100+r.off
 |_=>0
def adU (Γ : List OF)(m:Nat):Nat:= Γ.foldl (λx f=>match f.ajw with|some m'=>if kU m' m&&Nat.ble f.loc x then f.loc else x|none=>x) 1000000
def canon (Γ : List OF):List OF:= Γ.map (OF.rn (adU Γ))
section
variable {P:Program} {F:Ov} {g:Own} {dp N:Nat} {Γ : List OF} {a:Act} {w:World}
theorem GR.rn {u:Value}{T:Nat}{p:wL}(h:GR g u T p)(ρ:Nat->Nat):GR (g.rn dp ρ) u T (rnP dp ρ p):=by
 rcases h with h|⟨k,n,c,h1,h2⟩
 ·exact .inl h
 ·exact .inr ⟨k,n,c,h1,by rw[Uf,h2.1],h2.2⟩
theorem GR.rnT {u:Value}{T m:Nat}(h:GR g u T (.tag dp m))(ρ:Nat->Nat):GR (g.rn dp ρ) u T (.tag dp (ρ m)):=by have:=h.rn (dp:=dp) ρ;simpa[rnP]using this
theorem ZG {ρ:Nat->Nat}{k T:Nat}{p:wL}(h:g.rn dp ρ k=some (.arr T p)):∃q,g k=some (.arr T q)/\p=rnP dp ρ q:=by
 rw[Uf]at h;split at h
 ·rename_i T0 q h0;cases h;exact⟨q,h0,rfl⟩
 ·cases h
 ·cases h
theorem ZH {ρ:Nat->Nat}{k d b:Nat}{row:List Ref}(h:g.rn dp ρ k=some (.var row d b)):∃row0,g k=some (.var row0 d b)/\row=if d=dp then row0.map (Ref.rn ρ)else row0:=by
 rw[Uf]at h;split at h
 ·cases h
 ·rename_i row0 d0 b0 h0;cases h;exact⟨row0,h0,rfl⟩
 ·cases h
theorem Good.rn (h:Good P g w)(ρ:Nat->Nat):Good P (g.rn dp ρ) w:=by
 refine⟨λk T p hk=>?_,λk row d b hk=>?_⟩
 ·obtain⟨q,h1,rfl⟩:=ZG hk;obtain⟨cs,e,hw,hc⟩:=h.arr k T q h1;exact⟨cs,e,hw,λj u T' hb hu ht=>(hc j u T' hb hu ht).rn ρ⟩
 ·obtain⟨row0,h1,rfl⟩:=ZH hk;obtain⟨cs,e,hw,hc⟩:=h.var k row0 d b h1;refine⟨cs,e,hw,λr hr=>?_⟩;by_cases hd:d=dp
  ·subst hd;rw[aF rfl,bf]at hr;obtain⟨r0,hr0,rfl⟩:=hr;obtain⟨u,hu,hg⟩:=hc r0 hr0;exact⟨u,hu,hg.rnT ρ⟩
  ·rw[ai hd]at hr;obtain⟨u,hu,hg⟩:=hc r hr;have:=hg.rn (dp:=dp) ρ;simp only[rnP,ai hd]at this;exact⟨u,hu,this⟩
theorem BP.rn {f:OF}(h:BP P F g dp a w f)(ρ:Nat->Nat):BP P F (g.rn dp ρ) dp a w (f.rn ρ):=by
 have old:∀{k T:Nat} {X:Prop},(∀B,g k=some B->(∃p,B = .arr T p)/\X)->∀B,g.rn dp ρ k=some B->(∃p,B = .arr T p)/\X:=by
  intro k T X hold B hB;cases B with
  | arr T' p=>obtain⟨q,h1,rfl⟩:=ZG hB;obtain⟨⟨p',e⟩,hx⟩:=hold _ h1;cases e;exact⟨⟨_,rfl⟩,hx⟩
  | var row d b=>obtain⟨row0,h1,_⟩:=ZH hB;obtain⟨⟨p',e⟩,_⟩:=hold _ h1;cases e
 have vv:∀{k row b},g k=some (.var row dp b)->g.rn dp ρ k=some (.var (row.map (Ref.rn ρ)) dp b):=λh1=>by rw[Uf,h1];simp
 cases f with
 |sr t T=>intro ad n c hq0;obtain⟨k,o,h1,h2,h3⟩:=h ad n c hq0;exact⟨k,o,h1,h2,old h3⟩
 |ep t T off=>obtain⟨k,o,h1,h2,h3⟩:=h;exact⟨k,o,h1,h2,old h3⟩
 |vp t b off=>obtain⟨k,row,h1,h2,h3⟩:=h;exact⟨k,_,h1,h2,vv h3⟩
 |ref t r=>obtain⟨u,h1,h2⟩:=h;exact⟨u,h1,h2.rnT ρ⟩
 |Bg t i r=>obtain⟨vs,x,u,h1,h2,h3,h4⟩:=h;exact⟨vs,x,u,h1,h2,h3,h4.rnT ρ⟩
 |row b r=>obtain⟨k,row,h1,h2,h3⟩:=h;exact⟨k,_,h1,vv h2,bf.2 ⟨r,h3,rfl⟩⟩
 |fn t s=>exact h
theorem Rel.rn (ρ:Nat->Nat):Rel dp N g (g.rn dp ρ):=by
 refine⟨λk T d m hd hk=>?_,λk row d b hd hk=>?_,λk B' _ hB=>?_⟩
 ·rw[Uf,hk];simp only[rnP];rw[ai aI];exact⟨rfl,rfl⟩
 ·rw[Uf,hk];simp only;rw[ai aI]
 ·cases B' with
  | arr T p=>obtain⟨q,h1,_⟩:=ZG hB;exact⟨_,h1,λT' p' hb=>by rcases hb with e|e<;>cases e<;>exact⟨_,_,rfl,rfl⟩⟩
  | var row d b=>obtain⟨row0,h1,_⟩:=ZH hB;exact⟨_,h1,λT' p' hb=>by rcases hb with e|e<;>cases e⟩
theorem LY.canon {E:Env P}{g0:Own}(h:LY E g0 dp Γ a w):LY E g0 dp (canon Γ) a w:=by obtain⟨g,h1,h2⟩:=h;refine⟨g.rn dp (adU Γ),h1.trans (Rel.rn _),h2.good.rn _,λf hf=>?_⟩;rw[Ab.canon,bf]at hf;obtain⟨f0,h3,rfl⟩:=hf;exact(h2.fs f0 h3).rn _
end
abbrev OX :=Option (List OF)×List (Nat×List OF)
def aeK (ts:List Nat)(Γ : List OF):List OF:= Γ.filter λf=>f.abb.all ts.contains
def aaK : Option (List OF)->Option (List OF)->Option (List OF)
 |none,x=>x
 |x,none=>x
 |some a,some b=>some (a.filter b.contains)
def Ph (id:Nat)(l:List (Nat×List OF)):Option (List OF):=match(l.filter λe=>e.1==id).map (·.2)with
 |[]=>none
 |Gs=>some (aaN Gs)
def ahD (f g:List OF->Option OX)(Γ : List OF):Option OX:=match f Γ with
 |some (none,x1)=>some (none,x1)
 | some (some Gf,x1)=>(match g Gf with
   |some (n2,x2)=>some (n2,x1++x2)
   |none=>none)
 |none=>none
def ahX (f g:List OF->Option OX)(Γ : List OF):Option OX:=match f Γ,g Γ with
 |some (n1,x1),some (n2,x2)=>some (aaK n1 n2,x1++x2)
 |_,_=>none
def adO (i:Nat)(f:List OF->Option OX)(Γ : List OF):Option OX:=match f Γ with
 |some (n1,x1)=>some (aaK n1 (Ph i x1),x1)
 |none=>none
def aaJ (f:List OF->Option OX):Nat->List OF->Option OX
 |0,_=>none
 | k+1,Γ =>match f Γ with
   |some (none,x1)=>some (none,x1)
   |some (some Gf,x1)=>if Γ.all Gf.contains then some (none,x1)else aaJ f k (Γ.filter Gf.contains)
   |none=>none
def oC (P:Program)(pl:List Nat)(rk:List OF->Bool):Code->gI->List OF->Option OX
 |.skip,.skip=>fun Γ =>some (some Γ,[])
 |.region _ ops false,.reg xs keep=>fun Γ =>(XB P pl ops.toList xs Γ).bind λyN=>QD (canon (aeK (pl++keep) yN)) λG=>some (some G,[])
 |.region _ ops true,.yF xs keep=>fun Γ =>(ajs P pl keep ops (items xs 0) Γ).bind λyN=>QD (canon (aeK (pl++keep) yN)) λG=>some (some G,[])
 |.seq a b,.seq x y=>ahD (oC P pl rk a x) (oC P pl rk b y)
 |.seq a b,.cut x y=>ahD (oC P pl rk a x) (oC P pl rk b y)
 |.cond _ a b,.cond _ x y=>ahX (oC P pl rk a x) (oC P pl rk b y)
 |.block i a,.block _ x=>adO i (oC P pl rk a x)
 |.loop a,.loop x=>aaJ (oC P pl rk a x) 5
 |.exit i,.exit _=>fun Γ =>some (none,[(i,Γ)])
 |.ret,.ret=>fun Γ =>if rk Γ then some (none,[])else none
 |_,_=>λ_=>none
section
variable {P:Program} {E:Env P} {n:Nat} {g0:Own} {dp:Nat} {pa:List (Nat×Value)} {pl:List Nat} {rk:List OF->Bool}
theorem aaL {a b:Option (List OF)}{Γ : List OF}(h:a=some Γ):∃M,aaK a b=some M/\∀f,f∈M->f ∈ Γ :=by
 subst h;cases b with
 |none=>exact⟨Γ,rfl,λf hf=>hf⟩
 |some B=>exact⟨_,rfl,λf hf=>(aU.1 hf).1⟩
theorem aaM {a b:Option (List OF)}{Γ : List OF}(h:b=some Γ):∃M,aaK a b=some M/\∀f,f∈M->f ∈ Γ :=by
 subst h;cases a with
 |none=>exact⟨Γ,rfl,λf hf=>hf⟩
 |some A=>exact⟨_,rfl,λf hf=>iR.1 (aU.1 hf).2⟩
theorem WO {id:Nat}{l:List (Nat×List OF)}{Γ : List OF}(h:(id,Γ)∈l):∃M,Ph id l=some M/\∀f,f∈M->f ∈ Γ :=by
 have hm : Γ ∈ (l.filter λe=>e.1==id).map (·.2):=bf.2 ⟨_,aU.2 ⟨h,nV⟩,rfl⟩;unfold Ph;split
 ·rename_i e;rw[e]at hm;cases hm
 ·exact⟨_,rfl,λf hf=>N7 hf hm⟩
def CQO (E:Env P)(g0:Own)(pa:List (Nat×Value))(dp n:Nat)(rk:List OF->Bool)(Q:AQ)(r:OX):Exit->Act->World->Prop
 |.normal,a,w=>∃ Γ,r.1=some Γ /\ AO E g0 pa dp n (Q .normal) Γ a w
 |.exit id,a,w=>∃ Γ,(id,Γ)∈r.2/\AO E g0 pa dp n (Q (.exit id)) Γ a w
 |.ret,a,w=>∃ Γ,rk Γ = true/\AO E g0 pa dp n (Q .ret) Γ a w
 |_,_,_=>False
theorem CQO.mono {Q Q':AQ}{r r':OX}(hn:∀ Γ a w,r.1=some Γ -> AO E g0 pa dp n (Q .normal) Γ a w->∃yN,r'.1=some yN/\AO E g0 pa dp n (Q' .normal) yN a w)(hx:∀e,e∈r.2->e∈r'.2)(hq:∀id st,Q (.exit id) st->Q' (.exit id) st)(hr:∀st,Q .ret st->Q' .ret st)(e:Exit)(a:Act)(w:World)(h:CQO E g0 pa dp n rk Q r e a w):CQO E g0 pa dp n rk Q' r' e a w:=by
 cases e with
 |normal=>obtain⟨Γ,h1,h2⟩:=h;exact hn Γ a w h1 h2
 |exit id=>obtain⟨Γ,h1,h2⟩:=h;exact⟨Γ,hx _ h1,h2.imp (hq id) λ_ h=>h⟩
 |ret=>obtain⟨Γ,h1,h2⟩:=h;exact⟨Γ,h1,h2.imp hr λ_ h=>h⟩
 |goto l=>exact h
 |panic c=>exact h
 |outgrown=>exact h
theorem AO.keep {K:iI->Prop}{Γ : List OF}{a:Act}{w:World}{ts us:List Nat}(h:AO E g0 pa dp n (λst=>K (st.keep ts)) Γ a w):AO E g0 pa dp n K (canon (aeK us Γ)) a w:=by obtain⟨⟨⟨I,ρ,st,hk,hg⟩,Gg⟩,hpa⟩:=h;exact⟨⟨⟨I,ρ,_,hk,hg.keep ts⟩,(Gg.weak λf hf=>(aU.1 hf).1).canon⟩,hpa⟩
theorem uy (hm:E.m<=10)(hpl:∀e,e∈pa->e.1∈pl):∀{ac:gI} {c:Code} {Q:AQ} {Γ : List OF} {r:OX} {a:Act} {w:World},tC P n E.m c ac=true->oC P pl rk c ac Γ = some r->AO E g0 pa dp n (wpC P ac Q) Γ a w->c.wp P (CQO E g0 pa dp n rk Q r) a w
 | .skip,c,Q,Γ,r,a,w,hc,ho,h=>by
   unfold tC at hc;split at hc<;>first|contradiction|skip
   simp only[oC]at ho;cases ho;exact wp_skip ⟨Γ,rfl,h⟩
 | .reg xs keep,c,Q,Γ,r,a,w,hc,ho,h=>by
   unfold tC at hc;split at hc<;>first|contradiction|skip
   rename_i heq;cases heq;simp only[oC,rJ,NK]at ho;obtain⟨yN,h1,h2⟩:=ho;cases h2;exact wp_region_list (OL hm hpl hc h1 h λa w hk=>⟨_,rfl,hk.keep⟩)
 | .yF xs keep,c,Q,Γ,r,a,w,hc,ho,h=>by
   unfold tC at hc;split at hc<;>first|contradiction|skip
   rename_i heq;cases heq;simp only[ah]at hc;simp only[oC,rJ,NK]at ho;obtain⟨yN,h1,h2⟩:=ho;cases h2;exact XK hm hpl hc.2 hc.1 h1 (λa w hk=>⟨_,rfl,hk.keep⟩) h
 | .seq x y,c,Q,Γ,r,a,w,hc,ho,h=>by
   unfold tC at hc;split at hc<;>first|contradiction|skip
   rename_i heq;cases heq;simp only[ah]at hc;simp only[oC,ahD]at ho;refine wp_seq ?_;split at ho
   ·rename_i x1 h1;cases ho;refine wp_mono (uy hm hpl hc.1 h1 h) λe a w hq=>?_;cases e with
    |normal=>obtain⟨_,h2,_⟩:=hq;cases h2
    |exit id=>exact hq
    |ret=>exact hq
    |goto l=>exact hq
    |panic c=>exact hq
    |outgrown=>exact hq
   ·rename_i Gf x1 h1;split at ho
    ·rename_i n2 x2 h2;cases ho;refine wp_mono (uy hm hpl hc.1 h1 h) λe a w hq=>?_;cases e with
     | normal=>obtain⟨_,h3,h4⟩:=hq;cases h3;refine wp_mono (uy hm hpl hc.2 h2 h4) λe a w hq=>CQO.mono (r:=(n2,x2)) (r':=(n2,x1++x2)) (Q':=Q) (fun Γ a w h5 h6=>⟨Γ,h5,h6⟩) (λe he=>dZ _ he) (λ_ _ h=>h) (λ_ h=>h) e a w hq
     |exit id=>obtain⟨yN,h3,h4⟩:=hq;exact⟨yN,dG _ h3,h4⟩
     |ret=>exact hq
     |goto l=>exact hq
     |panic c=>exact hq
     |outgrown=>exact hq
    ·cases ho
   ·cases ho
 | .cut x y,c,Q,Γ,r,a,w,hc,ho,h=>by
   unfold tC at hc;split at hc<;>first|contradiction|skip
   rename_i heq;cases heq;simp only[ah]at hc;simp only[oC,ahD]at ho;obtain⟨⟨⟨I,ρ,st,⟨X,J,S,hw1,hw2⟩,hg⟩,Gg⟩,hpa⟩:=h;refine wp_seq ?_;split at ho
   ·rename_i x1 h1;cases ho;refine wp_mono (uy hm hpl hc.1 h1 ⟨⟨⟨I,ρ,st,hw1,hg⟩,Gg⟩,hpa⟩) λe a w hq=>?_;cases e with
    |normal=>obtain⟨_,h2,_⟩:=hq;cases h2
    |exit id=>exact hq
    |ret=>exact hq
    |goto l=>exact hq
    |panic c=>exact hq
    |outgrown=>exact hq
   ·rename_i Gf x1 h1;split at ho
    ·rename_i n2 x2 h2;cases ho;refine wp_mono (uy hm hpl hc.1 h1 ⟨⟨⟨I,ρ,st,hw1,hg⟩,Gg⟩,hpa⟩) λe a w hq=>?_;cases e with
     | normal=>obtain⟨_,h3,⟨h4,al4⟩,al7⟩:=hq;cases h3;obtain⟨x,hj,I',ρ',st',rfl,hg'⟩:=AK.weak hm (λst h=>h) h4;refine wp_mono (uy hm hpl hc.2 h2 ⟨⟨⟨I',ρ',_,hw2 x hj,hg'⟩,al4⟩,al7⟩) λe a w hq=>CQO.mono (r:=(n2,x2)) (r':=(n2,x1++x2)) (Q':=Q) (fun Γ a w h5 h6=>⟨Γ,h5,h6⟩) (λe he=>dZ _ he) (λ_ _ h=>h) (λ_ h=>h) e a w hq
     |exit id=>obtain⟨yN,h3,h4⟩:=hq;exact⟨yN,dG _ h3,h4⟩
     |ret=>exact hq
     |goto l=>exact hq
     |panic c=>exact hq
     |outgrown=>exact hq
    ·cases ho
   ·cases ho
 | .cond d x y,c,Q,Γ,r,a,w,hc,ho,h=>by
   unfold tC at hc;split at hc<;>first|contradiction|skip
   rename_i heq;cases heq;simp only[ah]at hc;simp only[oC,ahX]at ho;split at ho
   ·rename_i n1 x1 n2 x2 h1 h2;cases ho;obtain⟨⟨⟨I,ρ,st,⟨hv1,hv2⟩,hg⟩,Gg⟩,hpa⟩:=h;have hv:=lX hg hc.1.1 hv1;unfold dY at hv;split at hv2
    ·rename_i t ht;rw[ht]at hv;refine wp_cond_split (Hq hv) (λe=>?_) (λe=>?_)
     ·refine wp_mono (uy hm hpl hc.1.2 h1 ⟨⟨⟨I,ρ,st,hv2.1 e,hg⟩,Gg⟩,hpa⟩) λe a w hq=>CQO.mono (fun Γ a w h5 h6=>?_) (λe he=>dG _ he) (λ_ _ h=>h) (λ_ h=>h) e a w hq;obtain⟨M,h7,h8⟩:=aaL (b:=n2) h5;exact⟨M,h7,h6.imp (λ_ h=>h) h8⟩
     ·refine wp_mono (uy hm hpl hc.2 h2 ⟨⟨⟨I,ρ,st,hv2.2 e,hg⟩,Gg⟩,hpa⟩) λe a w hq=>CQO.mono (fun Γ a w h5 h6=>?_) (λe he=>dZ _ he) (λ_ _ h=>h) (λ_ h=>h) e a w hq;obtain⟨M,h7,h8⟩:=aaM (a:=n1) h5;exact⟨M,h7,h6.imp (λ_ h=>h) h8⟩
    ·exact hv2.elim
   ·cases ho
 | .block id x,c,Q,Γ,r,a,w,hc,ho,h=>by
   unfold tC at hc;split at hc<;>first|contradiction|skip
   rename_i heq;cases heq;simp only[ah,aH]at hc;obtain⟨rfl,hc⟩:=hc;simp only[oC,adO]at ho;split at ho
   ·rename_i n1 x1 h1;cases ho;refine wp_block (wp_mono (uy hm hpl hc h1 h) λe a w hq=>?_);cases e with
    | normal=>obtain⟨yN,h2,h3⟩:=hq;obtain⟨M,h7,h8⟩:=aaL (b:=Ph _ x1) h2;exact⟨M,h7,h3.imp (λ_ h=>h) h8⟩
    | exit id'=>
      obtain⟨yN,h2,h3⟩:=hq;simp only[wX];split
      ·rename_i e;subst e;obtain⟨M0,h4,h5⟩:=WO h2;obtain⟨M,h7,h8⟩:=aaM (a:=n1) h4;exact⟨M,h7,h3.imp (λst (hs:tJ.inBlock id' Q (.exit id') st)=>by simp only[tJ.inBlock,kN]at hs;exact hs) λf hf=>h5 f (h8 f hf)⟩
      ·rename_i e;exact⟨yN,h2,h3.imp (λst hs=>by simp only[tJ.inBlock,ai e]at hs;exact hs) λf hf=>hf⟩
    |ret=>exact hq
    |goto l=>exact hq
    |panic c=>exact hq
    |outgrown=>exact hq
   ·cases ho
 | .loop x,c,Q,Γ,r,a,w,hc,ho,h=>by
   unfold tC at hc;split at hc<;>first|contradiction|skip
   rename_i heq;cases heq;rename_i cc;simp only[oC]at ho;have inv:∀(k:Nat) (Γ : List OF),aaJ (oC P pl rk cc x) k Γ = some r->∃yN,(∀f,f∈yN->f ∈ Γ)/\∃n1 x1,oC P pl rk cc x yN=some (n1,x1)/\r=(none,x1)/\∀Gf,n1=some Gf->∀f,f∈yN->f∈Gf:=by
    intro k
    induction k with
    |zero=>intro Γ h;cases h
    | succ k ih=>
      intro Γ h;simp only[aaJ]at h;split at h
      ·rename_i x1 h1;cases h;exact⟨Γ,λ_ h=>h,_,_,h1,rfl,λGf e=>by cases e⟩
      ·rename_i Gf x1 h1;split at h
       ·rename_i hall;cases h;exact⟨Γ,λ_ h=>h,_,_,h1,rfl,λYj e f hf=>by cases e;exact iR.1 (aN.1 hall f hf)⟩
       ·obtain⟨yN,h2,h3⟩:=ih _ h;exact⟨yN,λf hf=>(aU.1 (h2 f hf)).1,h3⟩
      ·cases h
   obtain⟨yN,hsub,n1,x1,h1,rfl,hback⟩:=inv _ _ ho;obtain⟨⟨⟨I,ρ,st,⟨X,J,S,μ,⟨x0,hj0,hw0⟩,hr⟩,hg⟩,Gg⟩,hpa⟩:=h;refine F7 (λk a w=>∃x,J x/\μ x=k/\AO E g0 pa dp n (λst=>st=S x) yN a w) ?_ ?_
   ·obtain⟨I',ρ',hg'⟩:=Lm hg hm hw0;exact⟨_,x0,hj0,rfl,⟨⟨I',ρ',_,rfl,hg'⟩,Gg.weak hsub⟩,hpa⟩
   ·rintro k a w ⟨x,hj,rfl,⟨⟨I,ρ,st,rfl,hg⟩,Gg⟩,hpa⟩;refine wp_mono (uy hm hpl hc h1 ⟨⟨⟨I,ρ,_,hr x hj,hg⟩,Gg⟩,hpa⟩) λe a w hq=>?_;cases e with
    | normal=>obtain⟨Gf,h2,⟨hk,al5⟩,al8⟩:=hq;obtain⟨x',⟨hj',hlt⟩,hk'⟩:=AK.weak (J:=λx'=>J x'/\μ x'<μ x) hm (λst h=>h) hk;exact⟨_,hlt,x',hj',rfl,⟨hk',al5.weak (hback Gf h2)⟩,al8⟩
    |exit id=>exact hq
    |ret=>exact hq
    |goto l=>exact hq
    |panic c=>exact hq
    |outgrown=>exact hq
 | .exit id,c,Q,Γ,r,a,w,hc,ho,h=>by
   unfold tC at hc;split at hc<;>first|contradiction|skip
   rename_i heq;cases heq;simp only[aH]at hc;subst hc;simp only[oC]at ho;cases ho;exact wp_exit ⟨Γ,aG ..,h⟩
 | .ret,c,Q,Γ,r,a,w,hc,ho,h=>by
   unfold tC at hc;split at hc<;>first|contradiction|skip
   simp only[oC]at ho;split at ho
   ·rename_i hk;exact wp_ret ⟨Γ,hk,h⟩
   ·cases ho
end
end
section
inductive vT where
 |tmp (t:Nat)
 |cell (t:Nat) (agg:Bool) (k:Nat)
 deriving Inhabited
def vT.ok (st:iI):vT->Prop
 |.tmp t=>(st.tm t).g=true
 |.cell t agg k=>(st.tm t).g=true/\(yw agg k (st.tm t).x st.bx).vc
def vT.val (st:iI):vT->AV
 |.tmp t=>(st.tm t).x
 |.cell t agg k=>(yw agg k (st.tm t).x st.bx).v
def Fg (st:iI):List vT->Prop
 |[]=>True
 |r::rs=>r.ok st/\(r.val st).flat/\Fg st rs
def partOf : AV->Bool×List AC
 |.one x=>(false,[x])
 |.agg xs=>(true,xs)
 |.AX _=>(false,[])
def yG (st:iI):List vT->List (Bool×List AC)
 |[]=>[]
 |r::rs=>partOf (r.val st)::yG st rs
def SH (st:iI):List vT->AV
 |[r]=>r.val st
 |rs=>.AX (yG st rs)
def Gi (rs:List vT)(m:Nat)(post:AV->List Box->Prop)(st:iI):Prop:=
 Fg st rs/\∃r bs zs π vs,post r bs/\WkS m st.bx (zX bs) zs π vs/\wkV zs st.bx π vs (SH st rs) r
def CE (P:Program)(n:Nat):List ResultVar->List vT->Bool
 |[],[]=>true
 |.tmp t::xs,.tmp s::ys=>t==s&&decide (t<n)&&CE P n xs ys
 |.cell a t::xs,.cell s agg k::ys=>a==s&&decide (a<n)&&IP P t agg k&&CE P n xs ys
 |_,_=>false
section
variable {P:Program} {E:Env P} {I:IH} {ρ:Ren} {n:Nat} {st:iI} {a:Act} {w:World}
theorem acj {agg:Bool}{k:Nat}{p:AV}{pv:Value}{bx:Nat->Box}(hp:GV I ρ pv p)(jG:(yw agg k p bx).vc):∃q,pv = .pointer (some q):=by
 cases p with
 | one p=>
   cases p with
   |ptr b off=>obtain⟨k,cap,_,rfl⟩:=hp;exact⟨_,rfl⟩
   |yE b i sz off=>obtain⟨k,cap,_,rfl⟩:=hp;exact⟨_,rfl⟩
   |EG cs=>obtain⟨q,rfl,_⟩:=hp;exact⟨_,rfl⟩
   |_=>exact jG.elim
 |_=>exact jG.elim
def O4 (tmps:Array Value)(x:ResultVar):Sem Value:=match x with
 |ResultVar.tmp t=>pure (tmps.getD t undef)
 |ResultVar.cell b t=>do loadVar t (<- asAddr (tmps.getD b undef))
theorem Ia (fn:Func)(tmps:Array Value):results fn tmps=(do
 let vs <- fn.results.mapM (O4 tmps)
 pure (if h:vs.size=1 then vs[0]else .tuple vs)):=by
 unfold results
 congr 1
theorem XL (h:GX E I ρ n st a w):∀{xs:List ResultVar} {rs:List vT},CE P n xs rs=true->Fg st rs ->
 ∃vs:List Value,(xs.mapM (O4 a.tmps)).run P w = .ok vs w/\vs.length=rs.length/\∀(j:Nat) (v:Value) (r:vT),vs[j]? = some v->rs[j]? = some r->GV I ρ v (r.val st)
 |[],[],_,_=>⟨[],nV,rfl,λj v r hv=>by simp at hv⟩
 | x::xs,r::rs,hc,hok=>by
   obtain⟨h1,h2,h3⟩:=hok;have key:∃v,(O4 a.tmps x).run P w = .ok v w/\GV I ρ v (r.val st)/\CE P n xs rs=true:=by
    cases x with
    | tmp t=>
      cases r with
      | tmp s=>
        simp only[CE,ah,aH,aj]at hc;obtain⟨⟨rfl,hlt⟩,hc⟩:=hc;have ht:=h.tm t hlt;simp only[vT.ok]at h1;refine⟨a.tmps.getD t undef,rfl,?_,hc⟩;simp only[vT.val];cases hs:st.tm t with
        |none=>rw[hs]at h1;cases h1
        |v g x=>rw[hs]at h1 ht;exact ht.1 h1
      |cell s agg k=>simp[CE]at hc
    | cell b t=>
      cases r with
      |tmp s=>simp[CE]at hc
      | cell s agg k=>
        simp only[CE,ah,aH,aj]at hc;obtain⟨⟨⟨rfl,hlt⟩,hty⟩,hc⟩:=hc;have ht:=h.tm b hlt;obtain⟨hg,jG⟩:=h1;have hv:GV I ρ (a.tmps.getD b undef) (st.tm b).x:=by
         cases hs:st.tm b with
         |none=>rw[hs]at hg;cases hg
         |v g x=>rw[hs]at hg ht;exact ht.1 hg
        obtain⟨q,hq⟩:=acj hv jG;obtain⟨v,hrun,hgv⟩:=TP (P:=P) h hty hv jG;refine⟨v,?_,hgv,hc⟩;unfold O4;simp only[hq]at hrun⊢;simpa[nM,jO,asAddr]using hrun
   obtain⟨v,hv,hg,hc'⟩:=key;obtain⟨vs,hvs,hl,hgs⟩:=XL h hc' h3;refine⟨v::vs,?_,by simp[hl],λj u r' hu hr=>?_⟩
   ·rw[Dz];simp[hv,hvs]
   ·cases j with
    |zero=>simp at hu hr;subst hu;subst hr;exact hg
    |succ j=>exact hgs j u r' (by simpa using hu) (by simpa using hr)
 |[],_::_,hc,_=>by simp[CE]at hc
 |x::_,[],hc,_=>by cases x<;>simp[CE]at hc
end
def RG (Γ : List OF):vT->Nat->Nat->Option Nat
 |.tmp t,o,T=>afP Γ t o T
 | .cell t agg k,o,T=>match(Γ.filterMap (ZV t)).head? with
   |some (b,o0)=>if o<(if agg then k else 1)then RH Γ b (o0+o) T else none
   |none=>none
def G5 (ps:List PK):List (Nat×List (Nat×Nat)):=(ps.zipIdx).filterMap λp=>match p.1 with
 |.var rs=>some (p.2,rs)
 |_=>none
def akY (Γ : List OF)(l:List (List (Nat×Nat)))(rs:List vT):Option (List (Nat×Nat)):=(Ny (λp:List (Nat×Nat)×Nat=>match rs[p.2]? with
 |some x=>Ny (λe:Nat×Nat=>(RG Γ x e.1 e.2).map λm=>(m,20000+p.2*20+e.1)) p.1
 |none=>none) l.zipIdx).map Bq
def ajm (Γ : List OF)(l:List (List (Nat×Nat)))(rs:List vT):Option (List (Nat×Nat)):=match l,rs with
 |[r],[x]=>Ny (λe:Nat×Nat=>(RG Γ x e.1 e.2).map λm=>(m,20000+e.1)) r
 |l,rs=>akY Γ l rs
def aia (Γ : List OF)(sg:V6)(rs:List vT):Option (List (Nat×Nat)):=
 match ajm Γ sg.rs rs,(Ny (λp:Nat×List (Nat×Nat)=>if Γ.contains (.vp p.1 p.1 0)then Ny (λe:Nat×Nat=>(RH Γ p.1 e.1 e.2).map λm=>(m,30000+p.1*20+e.1)) p.2 else none) (G5 sg.ps)).map Bq with
 |some a,some b=>if Fb ((a++b).map (·.1))&&decide ((G5 sg.ps).length<=1)&&(sg.rs.length==rs.length)then some (a++b)else none
 |_,_=>none
def rkO (sg:V6)(rs:List vT)(Γ : List OF):Bool:=(aia Γ sg rs).isSome
section
variable {P:Program} {g:Own} {dp:Nat} {Γ : List OF} {a:Act} {w w':World} {v:Value}
theorem Xn {f:ResultVar->Sem Value}(hf:∀x w r w',(f x).run P w = .ok r w'->w'=w):∀{xs:List ResultVar} {ws:List Value} {w w':World},(xs.mapM f).run P w = .ok ws w'->ws.length=xs.length/\w'=w/\∀(j:Nat) (x:ResultVar),xs[j]? = some x->∃y,ws[j]? = some y/\(f x).run P w = .ok y w
 | [],ws,w,w',h=>by rw[List.mapM_nil]at h;obtain⟨rfl,rfl⟩:=jb h;exact⟨rfl,rfl,λj x hx=>by simp at hx⟩
 | x::xs,ws,w,w',h=>by
   rw[Dz]at h;obtain⟨y,w1,h1,h2⟩:=dM h;have:=hf _ _ _ _ h1;subst this;obtain⟨ys,w2,h3,h4⟩:=dM h2;obtain⟨rfl,rfl⟩:=jb h4;obtain⟨h5,rfl,h6⟩:=Xn hf h3;refine⟨by simp[h5],rfl,λj z hz=>?_⟩;cases j with
   |zero=>simp at hz;subst hz;exact⟨y,rfl,h1⟩
   |succ j=>simpa using h6 j z (by simpa using hz)
theorem ZF {tmps:Array Value}(x:ResultVar)(w:World)(r:Value)(w':World)(h:(O4 tmps x).run P w = .ok r w'):w'=w:=by
 unfold O4 at h;split at h
 ·exact(jb h).2
 ·obtain⟨p,w1,h1,h2⟩:=dM h;have:w1=w:=by
   unfold asAddr at h1;split at h1
   ·exact(jb h1).2
   ·exact(Jp h1).elim
   ·cases h1
  subst this;exact(Jn h2).1
theorem res_own {n:Nat}(h:OW P FV g dp Γ a w){fn:Func}(hr:(results fn a.tmps).run P w = .ok v w'){rs:List vT}(hc:CE P n fn.results.toList rs=true) :
 w'=w/\∃ws:List Value,ws.length=rs.length/\((∃y,ws=[y]/\v=y)\/ws.length≠1/\v = .tuple ws.toArray) /\
  ∀(j:Nat) (x:vT) (o T m:Nat),rs[j]? = some x->RG Γ x o T=some m->∃y u:Value,ws[j]? = some y/\y.cells[o]? = some u/\GR g u T (.tag dp m):=by
 rw[Ia]at hr;obtain⟨vs,w1,h1,h2⟩:=dM hr;rw[uf,Dw]at h1;cases hq:(fn.results.toList.mapM (O4 a.tmps)).run P w with
 |halt e w2=>rw[hq]at h1;cases h1
 | ok ws w2=>
   rw[hq]at h1;simp only[bu]at h1;cases h1;obtain⟨h3,rfl,h4⟩:=Xn ZF hq;have hlen:∀{xs:List ResultVar} {rs:List vT},CE P n xs rs=true->xs.length=rs.length:=by
    intro xs
    induction xs with
    |nil=>intro rs h;cases rs<;>simp[CE]at h⊢
    | cons x xs ih=>
      intro rs h;cases rs with
      |nil=>cases x<;>simp[CE]at h
      | cons r rs=>cases x<;>cases r<;>simp only[CE,ah]at h<;>first|(simp[ih h.2];done)|cases h
   have hget:∀{xs:List ResultVar} {rs:List vT} {j:Nat} {r:vT},CE P n xs rs=true->rs[j]? = some r->∃x,xs[j]? = some x/\(match x,r with
    |.tmp t,.tmp s=>t=s
    |.cell b t,.cell s agg k=>b=s/\IP P t agg k=true
    |_,_=>False):=by
    intro xs
    induction xs with
    |nil=>intro rs j r h hr;cases rs<;>simp[CE]at h hr
    | cons x xs ih=>
      intro rs j r h hr;cases rs with
      |nil=>simp at hr
      | cons r0 rs=>
        cases j with
        | zero=>simp at hr;subst hr;refine⟨x,rfl,?_⟩;cases x<;>cases r0<;>simp only[CE,ah,aH]at h<;>first|exact h.1.1|exact⟨h.1.1.1,h.1.2⟩|cases h
        | succ j=>
          have:CE P n xs rs=true:=by cases x<;>cases r0<;>simp only[CE,ah]at h<;>first|exact h.2|cases h
          simpa using ih this (by simpa using hr)
   obtain⟨hv,rfl⟩:=jb h2;refine⟨rfl,ws,h3.trans (hlen hc),?_,λj x o T m hj hm=>?_⟩
   ·by_cases h1':ws.length=1
    ·match ws,h1' with
     |[y],_=>exact .inl ⟨y,rfl,by simpa using hv⟩
    ·exact .inr ⟨h1',by rw[hv,dif_neg (by simpa using h1')]⟩
   ·obtain⟨rv,hrv,NR⟩:=hget hc hj;obtain⟨y,hy,hrun⟩:=h4 j rv hrv;refine⟨y,?_⟩;cases x with
    | tmp t=>
      cases rv with
      |cell _ _=>exact NR.elim
      | tmp s=>simp only at NR;subst NR;simp only[RG]at hm;obtain⟨u,hu,hg⟩:=XX h hm;unfold O4 at hrun;have hyv:=(jb hrun).1;subst hyv;exact⟨u,hy,hu,hg⟩
    | cell t agg k=>
      cases rv with
      |tmp _=>exact NR.elim
      | cell s ty=>
        simp only at NR;obtain⟨rfl,hty⟩:=NR;unfold RG at hm
        dsimp only at hm
        split at hm
        ·rename_i b o0 hvp;by_cases hlt:o<(if agg then k else 1)
         ·rw[aF hlt]at hm;have hmm:=mg hvp;rw[dQ]at hmm;obtain⟨f0,hf0,hmm⟩:=hmm;unfold ZV at hmm;split at hmm
          ·split at hmm
           ·rename_i e1;subst e1;cases hmm;obtain⟨kk,row,e2,e3,e4⟩:=h.fs _ hf0;obtain⟨kk',row',e5,e6,e7⟩:=Oj h hm;rw[e2]at e5;cases e5;obtain⟨cs,e,hw,hrow⟩:=h.good.var _ _ _ _ e6;obtain⟨u,hu,hg⟩:=hrow _ e7
            dsimp only at hu hg
            unfold O4 at hrun;obtain⟨p,w3,h5,h6⟩:=dM hrun;rw[e3]at h5;unfold asAddr at h5;obtain⟨rfl,rfl⟩:=jb h5;have hc':∀j',o0+j'=o0+o->w3.cell? ((⟨kk,o0,none⟩:Addr).add j')=some u:=λj' e8=>by rw[Addr.o9,e8];simp[iy,hw,hu]
            refine⟨u,hy,?_,hg⟩;unfold IP at hty;obtain⟨_,hld⟩:=Jn h6;rcases hld with⟨de,i,h7,h8,h9,h10⟩|⟨de,h7,h8,h9⟩
            ·rw[h7,h9]at hty;simp only[ah,aH]at hty;rw[h8]at hty;obtain⟨rfl,rfl⟩:=hty;exact h10 o u (by simpa using hlt) (hc' o rfl)
            ·have hagg:agg=false:=by
              split at hty
              ·rename_i d' i' hd' hi';rw[h7]at hd';cases hd';simp only[ah,aH]at hty;rw[<- hty.1,h8]
              ·cases hty
             subst hagg;have ho:o=0:=(by simpa using hlt);subst ho;have:=h9 u (by have:=hc' 0 rfl;rwa[Addr.add_zero]at this);subst this;have hsl:∃b n c,y = .slice b n c:=(by rcases hg with e|⟨k,n,c,e,_⟩<;>exact⟨_,_,_,e⟩);rw[Jv hsl];rfl
           ·cases hmm
          ·cases hmm
         ·rw[ai hlt]at hm;cases hm
        ·cases hm
theorem Xo {α β:Type}{f:α->Option (List β)}{l:List α}{ys:List β}(h:(Ny f l).map Bq=some ys){x:α}(hx:x∈l):∃y,f x=some y/\∀e,e∈y->e∈ys:=by simp only[bY]at h;obtain⟨l',h1,rfl⟩:=h;obtain⟨y,h2,h3⟩:=CP h1 x hx;exact⟨y,h2,λe he=>List.mem_flatten.2 ⟨y,h3,he⟩⟩
theorem aa6 {n N:Nat}(h:OW P FV g dp Γ a w){fn:Func}(hr:(results fn a.tmps).run P w = .ok v w'){rs:List vT}(hc:CE P n fn.results.toList rs=true){sg:V6}(hk:rkO sg rs Γ = true){vs:List Value}(hl:vs.length=sg.ps.length)
 (hpa:∀i r,(i,r)∈G5 sg.ps->a.tmps.getD i undef=vs.getD i undef):∃g',Rel dp N g g'/\OW P FV g' dp (Oe sg vs.length) { tmps:=(vs++[v]).toArray,defers:=[] } w':=by
 obtain⟨rfl,ws,hw1,hw2,hres⟩:=res_own h hr hc;unfold rkO at hk;rw[uA]at hk;obtain⟨mv,hmv⟩:=hk;unfold aia at hmv;split at hmv
 ·rename_i A B hA hB;split at hmv
  ·rename_i hcond;cases hmv;simp only[ah,aj,aH]at hcond;obtain⟨⟨hnd,hone⟩,hlen⟩:=hcond;have hn:=Fe hnd
   let mvL:List (Nat×wL):=(A++B).map λe=>(e.1,.tag dp e.2)
   have hkeys:mvL.map (·.1)=(A++B).map (·.1):=(by simp[mvL,Function.comp_def]);have hmov:∀{u:Value} {T m t:Nat},GR g u T (.tag dp m)->(m,t)∈A++B->GR (g.mv dp mvL) u T (.tag dp t):=λhg hm=>hg.mv (EJ (by rw[hkeys];exact hn) (bf.2 ⟨_,hm,rfl⟩));have hv:((vs++[v]).toArray).getD vs.length undef=v:=by rw[fK,kW];simp
   have hrf:∀{g2:Own},(∀{u:Value} {T:Nat} {p:wL},GR (g.mv dp mvL) u T p->GR g2 u T p)->∀f,f∈Vx sg vs.length->BP P FV g2 dp { tmps:=(vs++[v]).toArray,defers:=[] } w' f:=by
    intro g2 hg2 f hf;by_cases hsg:∃r,sg.rs=[r]
    ·obtain⟨r,hsr⟩:=hsg;obtain⟨x,rfl⟩:∃x,rs=[x]:=by
      rw[hsr]at hlen
      match rs,hlen with
      |[x],_=>exact⟨x,rfl⟩
     rw[Vx,hsr]at hf;rw[hsr]at hA;simp only[ajm]at hA;simp only at hf;rw[bf]at hf;obtain⟨e,he,rfl⟩:=hf;obtain⟨y,hy,hyl⟩:=CP hA e he;simp only[bY]at hy;obtain⟨m,hm,rfl⟩:=hy;obtain⟨z,u,h1,h2,h3⟩:=hres 0 x e.1 e.2 m rfl hm;refine⟨u,?_,hg2 (hmov h3 (dG _ hyl))⟩;rw[hv];rcases hw2 with⟨y',e1,e2⟩|⟨e1,_⟩
     ·subst e1;simp at h1;subst h1;rw[e2];exact h2
     ·rw[hw1]at e1;simp at e1
    ·have hA:akY Γ sg.rs rs=some A:=by
      unfold ajm at hA;split at hA
      ·rename_i r x hr;exact aY ⟨r,hr⟩ hsg
      ·exact hA
     unfold Vx at hf;split at hf
     ·rename_i r hr;exact aY ⟨r,hr⟩ hsg
     ·rw[jX]at hf;obtain⟨q,hq,hf⟩:=hf;rw[bf]at hf;obtain⟨e,he,rfl⟩:=hf;obtain⟨y,hy,hyl⟩:=Xo hA hq;split at hy
      ·rename_i x hx;obtain⟨z,hz,hzl⟩:=CP hy e he;simp only[bY]at hz;obtain⟨m,hm,rfl⟩:=hz;obtain⟨z',u,h1,h2,h3⟩:=hres q.2 x e.1 e.2 m hx hm;have hws:ws.length≠1:=by
        rw[hw1,<- hlen];intro h5
        match hsr:sg.rs,h5 with
        |[r],_=>exact hsg ⟨r,hsr⟩
       rcases hw2 with⟨y',e1,e2⟩|⟨_,e2⟩
       ·rw[e1]at hws;simp at hws
       ·refine⟨ws.toArray,z',u,by rw[hv,e2],by simpa using h1,h2,hg2 (hmov h3 (dG _ (hyl _ hzl)))⟩
      ·cases hy
   have hg1:=h.good.mv dp mvL;have hget:∀i,i<vs.length->((vs++[v]).toArray).getD i undef=vs.getD i undef:=λi hi=>(by rw[fK,kW,bD hi,fZ]);have hidx:∀i r,(i,r)∈G5 sg.ps<->sg.ps[i]? = some (.var r):=λi r=>by
    unfold G5;rw[dQ];constructor
    ·rintro⟨⟨p,j⟩,h1,h2⟩;have h1:=nR.1 h1;simp only at h1 h2;cases p<;>simp at h2;obtain⟨rfl,rfl⟩:=h2;simpa using h1
    ·intro h1;exact⟨(.var r,i),nR.2 (by simpa using h1),rfl⟩
   have hvar:∀f,f∈XD sg->∃i r,(i,r)∈G5 sg.ps/\(f = .vp i i 0\/∃e,e∈r/\f = .row i ⟨e.1,e.2,30000+i*20+e.1⟩):=by
    intro f hf;rw[XD,jX]at hf;obtain⟨⟨p,i⟩,h1,h2⟩:=hf;have h1:=nR.1 h1;simp only at h1 h2;cases p with
    | var r=>
      simp only[aO,bf]at h2;refine⟨i,r,(hidx i r).2 (by simpa using h1),?_⟩;rcases h2 with rfl|⟨e,he,rfl⟩
      ·exact .inl rfl
      ·exact .inr ⟨e,he,rfl⟩
    |_=>simp at h2
   match hvi:G5 sg.ps,hone with
   | [],_=>
     refine⟨g.mv dp mvL,Rel.mv _ _,hg1,λf hf=>?_⟩;rw[Oe,aS]at hf;rcases hf with hf|hf
     ·exact hrf (λh=>h) f hf
     ·obtain⟨i,r,h1,_⟩:=hvar f hf;rw[hvi]at h1;cases h1
   | [(i,r)],_=>
     obtain⟨y,hy,hyl⟩:=Xo hB (show(i,r)∈G5 sg.ps by rw[hvi];exact aG ..);split at hy
     ·rename_i hcon;obtain⟨k,row,e1,_,e3⟩:=h.fs _ (iR.1 hcon)
      dsimp only at e1 e3
      obtain⟨amr,hk1⟩:=Zp (mv:=mvL) (dp:=dp) e3;have hpi:=(hidx i r).1 (by rw[hvi];exact aG ..);have hil:i<vs.length:=(by rw[hl];exact(aT.1 hpi).1);have hti:((vs++[v]).toArray).getD i undef = .pointer (some ⟨k,0,none⟩):=by rw[hget i hil,<- hpa i r (by rw[hvi];exact aG ..)];exact e1
      have hgood:Good P ((g.mv dp mvL).upd k (.var (r.map λe=>⟨e.1,e.2,30000+i*20+e.1⟩) dp i)) w':=by refine hg1.IG hk1 λcs e hw rr hrr=>?_;rw[bf]at hrr;obtain⟨q,hq,rfl⟩:=hrr;obtain⟨z,hz,hzl⟩:=CP hy q hq;simp only[bY]at hz;obtain⟨m,hm,rfl⟩:=hz;obtain⟨k',row',e4,e5,e6⟩:=Oj h hm;rw[e1]at e4;cases e4;obtain⟨cs',e',hw',hrow⟩:=h.good.var _ _ _ _ e5;rw[hw]at hw';cases hw';obtain⟨u,hu,hg⟩:=hrow _ e6;exact⟨u,hu,hmov hg (dZ _ (hyl _ hzl))⟩
      refine⟨_,(Rel.mv N mvL).trans (Rel.IG hk1 (ak _)),hgood,λf hf=>?_⟩;rw[Oe,aS]at hf;rcases hf with hf|hf
      ·exact hrf (λh=>h.Ll hk1) f hf
      ·obtain⟨i',r',h1,h2⟩:=hvar f hf;rw[hvi]at h1;simp only[aO,jL,or_false,aK]at h1;obtain⟨rfl,rfl⟩:=h1;rcases h2 with rfl|⟨e,he,rfl⟩
       ·exact⟨k,_,hti,hti,aF rfl⟩
       ·exact⟨k,_,hti,aF rfl,bf.2 ⟨e,he,rfl⟩⟩
     ·cases hy
   |_::_::_,hone=>simp at hone
  ·cases hmv
 ·cases hmv
end
section
variable {P:Program} {E:Env P} {I:IH} {ρ:Ren} {n:Nat} {st:iI} {a:Act} {w:World}
def Lh : List AV->Nat->List (Nat×Slot)
 |[],_=>[]
 |x::xs,i=>(i,.v true x)::Lh xs (i+1)
def CU : List Box->Nat->List (Nat×Box)
 |[],_=>[]
 |x::xs,i=>(i,x)::CU xs (i+1)
theorem OC : ∀{xs:List AV} {i t:Nat},yQ (Lh xs i) t=if i<=t then(match xs[t-i]? with|some x=>.v true x|none=>.none)else .none
 |[],i,t=>by simp[Lh,yQ]
 | x::xs,i,t=>by
   simp only[Lh,yQ];by_cases h:i=t
   ·subst h;simp
   ·rw[ai h,OC (xs:=xs)];by_cases h':i<=t
    ·have e:t-i=(t-(i+1))+1:=(by omega);rw[aF h',aF aI,e];simp
    ·rw[ai h',ai aI]
theorem Jo : ∀{xs:List Box} {i t:Nat},pV (CU xs i) t=if i<=t then xs.getD (t-i) .absent else .absent
 |[],i,t=>by simp[CU,pV]
 | x::xs,i,t=>by
   simp only[CU,pV];by_cases h:i=t
   ·subst h;simp
   ·rw[ai h,Jo (xs:=xs)];by_cases h':i<=t
    ·have e:t-i=(t-(i+1))+1:=(by omega);rw[aF h',aF aI,e];simp
    ·rw[ai h',ai aI]
def st0 (args:List AV)(fp:List Box):iI:=iI.of (Lh args 0) (CU fp 0)
theorem afN (args:List AV)(fp:List Box):(st0 args fp).bx=zX fp:=by
 funext b
 unfold st0;rw[Cc,Jo];simp[zX]
def QF (rs:List vT)(m:Nat)(post:AV->List Box->Prop):AQ
 |.normal,st=>Gi rs m post st
 |.ret,st=>Gi rs m post st
 |.exit _,_=>False
def ajg (P:Program)(c:Code)(ac:gI)(rs:List vT)(sg:V6):Bool:=match oC P ((G5 sg.ps).map (·.1)) (rkO sg rs) c ac (SE sg.ps)with
 |some (some Γ,_)=>rkO sg rs Γ
 |some (none,_)=>true
 |none=>false
def lvK (sg:V6):Bool:=match sg.ps with
 |.var []::r=>r.all (· == .any)&&sg.rs.all List.isEmpty
 |_=>false
def lvB (f:FuncId):Bool:=match kindOf f with
 |.ow sg=>lvK sg
 |_=>false
def agr (f:FuncId)(args:List AV)(m:Nat)(post:AV->List Box->Prop):Prop:=lvB f=true->m=1->args.head? = some (.one (.ptr 0 0))/\∀r bs,post r bs->∃cs,bs.head? = some (.var cs)
theorem akK {f:FuncId}{args:List AV}{m:Nat}{post:AV->List Box->Prop}(h:lvB f=false):agr f args m post:=λe=>by rw[h]at e;cases e
theorem ahg {f:FuncId}{args:List AV}{post:AV->List Box->Prop} : agr f args 0 post:=λ_ e=>by cases e
theorem ai3 {f:FuncId}{args:List AV}{m:Nat}{post:AV->List Box->Prop}(h:args.head? = some (.one (.ptr 0 0)))(k:∀r bs,post r bs->∃cs,bs.head? = some (.var cs)):agr f args m post:=λ_ _=>⟨h,k⟩
def aeL (P:Program)(f:FuncId)(c:Code)(ac:gI)(rs:List vT)(k m:Nat):Bool:=match kindOf f with
 |.none=>true
 |.rd=>m==0
 |.ow sg=>(lvK sg&&m==1||ajg P c ac rs sg)&&k==sg.ps.length
def nO (P:Program)(f:FuncId)(k m:Nat)(ac:gI)(rs:List vT):Bool:=
 match P.funcs[f]? with
 | some fn=>match fn.body with
   |some c=>decide (k<=fn.ntmps)&&decide (m<=10)&&tC P fn.ntmps m c ac&&CE P fn.ntmps fn.results.toList rs&&aeL P f c ac rs k m
   |none=>false
 |none=>false
theorem NL {fn:Func}{args:List AV}{fp:List Box}{I:IH}{ρ:Ren}{w:World}{vs:List Value}(hk:args.length<=fn.ntmps)(hT:Tabs P I)(hA:Agree I w)(hB:BX I ρ w (zX fp))(hV:PM I ρ vs args) :
 GX (⟨w,I,λk=>∃b,(zX fp b).uses (ρ b) k,ρ,fp.length,hT⟩:Env P) I ρ fn.ntmps (st0 args fp) { tmps:=vs.toArray++ug (fn.ntmps-vs.toArray.size) undef,defers:=[] } w:=by
 have hlen:vs.length=args.length:=hV.1;refine{ agree:=hA,bx:=by rw[afN];exact hB,tm:=λt ht=>?_,size:=by simp;omega,defers:=rfl,Aj:=zK.refl _ _,own:=λb k hu=>?_,Kq:=IH.le_refl _,Fa:=λk _ _=>rfl,vW:=λb _=>rfl }
 ·unfold st0;rw[GH,OC];simp only[Nat.zero_le,kN,Nat.sub_zero];cases hx:args[t]? with
  |none=>trivial
  | some x=>
    have hlt:=(aT.1 hx).1;have hvt:vs[t]? = some vs[t]:=aA aI;refine⟨λ_=>?_,λe=>by cases e⟩;have hg:=hV.2 t _ x hvt hx;have e:((vs.toArray++ug (fn.ntmps-vs.toArray.size) undef).getD t undef)=vs[t]:=by rw[fK,Array.getElem?_append_left (by simp;omega)];simp[hvt]
    rw[e];exact hg
 ·right
  rw[afN]at hu;exact⟨b,hu⟩
theorem aaB {fn:Func}{rs:List vT}{fp:List Box}{post:AV->List Box->Prop}{I:IH}{ρ:Ren}{w:World}{hT:Tabs P I}(hcr:CE P fn.ntmps fn.results.toList rs=true) :
 ∀ {a:Act} {w':World},AK (⟨w,I,λk=>∃b,(zX fp b).uses (ρ b) k,ρ,fp.length,hT⟩:Env P) fn.ntmps (Gi rs fp.length post) a w'->a.defers=[]/\∃v,(results fn a.tmps).run P w' = .ok v w'/\∃(v':Value) (J:IH) (σ:Ren) (r:AV) (bs:List Box),Go.Ending.returned v = .returned v'/\post r bs/\GV J σ v' r/\Agree J w'/\BX J σ w' (zX bs) /\
   I.le J/\zK w w' (λk=>∃b,(zX fp b).uses (ρ b) k) /\
   (∀b k,(zX bs b).uses (σ b) k->w.heap.size<=k\/∃b',(zX fp b').uses (ρ b') k) /\
   (∀k,k<w.heap.size->(¬ ∃b,(zX fp b).uses (ρ b) k)->J k=I k) /\
   (∀b,b<fp.length->σ b=ρ b):=by
 rintro a w' ⟨I',ρ',st,⟨hok,r,bs,zs,π,us,hp,hws,hwv⟩,hg⟩;obtain⟨ws,hrun,hl,hgs⟩:=XL hg hcr hok;have hv:∃v,(results fn a.tmps).run P w' = .ok v w'/\GV I' ρ' v (SH st rs):=by
  have hrun':(fn.results.mapM (O4 a.tmps)).run P w' = .ok ws.toArray w':=by rw[uf];simp[hrun]
  rw[Ia];by_cases h1:∃r0,rs=[r0]
  ·obtain⟨r0,rfl⟩:=h1
   match ws,hl,hgs,hrun' with
   |[v0],_,hgs,hrun'=>exact⟨v0,by simp[hrun'],hgs 0 v0 r0 rfl rfl⟩
  ·have hne:ws.length≠1:=by
    intro h;rw[hl]at h
    match rs,h,h1 with
    |[r0],_,h1=>exact h1 ⟨r0,rfl⟩
   have hrv:SH st rs = .AX (yG st rs):=by
    match rs,h1 with
    |[],_=>rfl
    |[r0],h1=>exact aY ⟨r0,rfl⟩ h1
    |_::_::_,_=>rfl
   refine⟨.tuple ws.toArray,by simp[hrun',hne],?_⟩;rw[hrv];have hparts:∀{rs:List vT},Fg st rs->(yG st rs).length=rs.length/\∀(j:Nat) (p:Bool×List AC),(yG st rs)[j]? = some p->∃r,rs[j]? = some r/\p=partOf (r.val st)/\(r.val st).flat:=by
    intro rs
    induction rs with
    |nil=>intro _;exact⟨rfl,λj p hp=>by simp[yG]at hp⟩
    | cons r0 rs ih=>
      rintro⟨_,h2,h3⟩;obtain⟨j1,j2⟩:=ih h3;refine⟨by simp[yG,j1],λj p hp=>?_⟩;cases j with
      |zero=>simp[yG]at hp;exact⟨r0,rfl,hp.symm,h2⟩
      |succ j=>obtain⟨r',hr',h'⟩:=j2 j p (by simpa[yG]using hp);exact⟨r',by simpa using hr',h'⟩
   obtain⟨p1,p2⟩:=hparts hok;refine⟨ws.toArray,rfl,by simp[hl,p1],λj v p hv hp=>?_⟩;obtain⟨r',hr',rfl,hfl⟩:=p2 j p hp;have hgv:=hgs j v r' (by simpa using hv) hr';unfold GP;cases hval:r'.val st with
   |one x=>rw[hval]at hgv;simp only[partOf];exact⟨x,rfl,hgv⟩
   |agg xs=>rw[hval]at hgv;simp only[partOf,kN];exact hgv
   |AX q=>rw[hval]at hfl;exact hfl.elim
 obtain⟨v,hrv,hgv⟩:=hv;have hS:=Uu hg (ak _) hws;refine⟨hg.defers,v,hrv,v,_,_,r,bs,rfl,hp,aif hg hws.vir hgv hwv,hS.agree,hS.bx,hS.Kq,hS.Aj,hS.own,hS.Fa,hS.vW⟩
theorem vJ {f:FuncId}{ac:gI}{rs:List vT}{args:List AV}{fp:List Box}{post:AV->List Box->Prop}(hc:nO P f args.length fp.length ac rs=true)
 (hwp:wpC P ac (QF rs fp.length post) (st0 args fp)) (hlv:agr f args fp.length post:=by first|exact ai3 rfl (λ_ _ h=>by obtain⟨_,rfl⟩:=h;exact⟨_,rfl⟩)|exact akK (by kernel_rfl)):oN P f args fp post:=by
 unfold nO at hc;split at hc
 ·rename_i fn hf;split at hc
  ·rename_i c hb;simp only[Bool.and_eq_true,aj]at hc;obtain⟨⟨⟨⟨hk,hm⟩,hcc⟩,hcr⟩,hkn⟩:=hc;intro I ρ w vs hT hA hB hV X hX
   let E:Env P:=⟨w,I,λk=>∃b,(zX fp b).uses (ρ b) k,ρ,fp.length,hT⟩
   have hlen:vs.length=args.length:=hV.1;have hG:=NL (fn:=fn) hk hT hA hB hV;have key:=@aaB P fn rs fp post I ρ w hT hcr;cases hX with
   | XZ=>
     refine calls_of_wp hf hb (wp_mono (vU (E:=E) hm hcc ⟨I,ρ,_,hwp,hG⟩) λe a w' hq=>?_);cases e with
     |normal=>obtain⟨h1,v,h2,h3⟩:=key hq;exact⟨h1,v,h2,h3,trivial⟩
     |ret=>obtain⟨h1,v,h2,h3⟩:=key hq;exact⟨h1,v,h2,h3,trivial⟩
     |exit id=>obtain⟨_,_,_,h,_⟩:=hq;exact h.elim
     |goto l=>exact hq.elim
     |panic ch=>exact hq.elim
     |outgrown=>exact hq.elim
   | rd hkd=>
     have hfp:fp=[]:=by unfold aeL at hkn;rw[hkd]at hkn;exact List.length_eq_zero_iff.1 (by simpa using hkn)
     refine calls_of_wp hf hb (wp_mono (vU (E:=E) hm hcc ⟨I,ρ,_,hwp,hG⟩) λe a w' hq=>?_);have fin:AK E fn.ntmps (Gi rs fp.length post) a w'->_:=λhq=>key hq;cases e with
     | normal=>obtain⟨h1,v,h2,h3⟩:=key hq;have h3':=h3;obtain⟨_,_,_,_,_,_,_,_,_,_,_,hF,_⟩:=h3';exact⟨h1,v,h2,h3,hF.os,hF.tape,hF.output,hF.size,λk hk _=>hF.block k hk (by subst hfp;rintro⟨b,hb⟩;exact H6 b k hb)⟩
     | ret=>obtain⟨h1,v,h2,h3⟩:=key hq;have h3':=h3;obtain⟨_,_,_,_,_,_,_,_,_,_,_,hF,_⟩:=h3';exact⟨h1,v,h2,h3,hF.os,hF.tape,hF.output,hF.size,λk hk _=>hF.block k hk (by subst hfp;rintro⟨b,hb⟩;exact H6 b k hb)⟩
     |exit id=>obtain⟨_,_,_,h,_⟩:=hq;exact h.elim
     |goto l=>exact hq.elim
     |panic ch=>exact hq.elim
     |outgrown=>exact hq.elim
   | ow sg hkd hl g dp hin=>
     have hok:lvK sg=true/\fp.length=1\/ajg P c ac rs sg=true:=by unfold aeL at hkn;rw[hkd]at hkn;simp only[Bool.and_eq_true,Bool.or_eq_true,aH]at hkn;exact hkn.1
     rcases hok with⟨hlk,hm1⟩|hok
     ·obtain⟨ha,hpost⟩:=hlv (by unfold lvB;rw[hkd];exact hlk) hm1;have fin:∀{a:Act} {w':World},AK E fn.ntmps (Gi rs fp.length post) a w'->a.defers=[]/\∃v,(results fn a.tmps).run P w' = .ok v w'/\_/\∃v' g',Ending.returned v = .returned v'/\Rel dp w.heap.size g g'/\OW P FV g' dp (Oe sg vs.length) { tmps:=(vs++[v']).toArray,defers:=[] } w':=λ{a w'} hq=>by
       obtain⟨h1,v,h2,h3⟩:=key hq;refine⟨h1,v,h2,h3,v,?_⟩;obtain⟨v',J,σ,r,bs,he,hp,_,_,hbx,_,hF,_,_,hσ⟩:=h3;obtain⟨ps,rs'⟩:=sg;unfold lvK at hlk;simp only at hlk hl hin;split at hlk
       ·rename_i r0;simp only[Bool.and_eq_true,List.all_eq_true]at hlk;have hvp:=hin.fs (.vp 0 0 0) (by rw[SE,List.mem_flatMap];exact⟨(.var [],0),by simp[List.zipIdx_cons],List.mem_cons_self ..⟩);obtain⟨k,row,hv0,_,hg0⟩:=hvp;obtain⟨x,xs,rfl⟩:∃x xs,args=x::xs:=by cases args with|nil=>cases ha|cons x xs=>exact⟨x,xs,rfl⟩
        cases ha;obtain⟨u,us,rfl⟩:∃u us,vs=u::us:=by cases vs with|nil=>simp at hlen|cons u us=>exact⟨u,us,rfl⟩
        obtain⟨k',cap,hρ,hu⟩:=hV.2 0 u _ rfl rfl;have hu':u = .pointer (some ⟨k,0,none⟩):=(by simpa using hv0);rw[hu']at hu;cases hu;obtain⟨cs,hcs⟩:=hpost r bs hp;have hb0:zX bs 0 = .var cs:=by
         cases bs with
         |nil=>cases hcs
         |cons b bs=>cases hcs;rfl
        have hok0:=hbx.ok 0;rw[hb0]at hok0;obtain⟨k2,cap2,cl,akC,hw0,_⟩:=hok0;rw[hσ 0 (by omega),hρ]at akC;cases akC;have hone:∀k'',(∃b,(zX fp b).uses (ρ b) k'')->k''=k:=by
         rintro k'' ⟨b,hb⟩;by_cases h0:b=0
         ·subst h0;rw[hρ]at hb;cases hx:zX fp 0 with
          |var _=>rw[hx]at hb;obtain⟨_,e⟩:=hb;cases e;rfl
          |dat _ _=>rw[hx]at hb;obtain⟨_,e,_⟩:=hb;cases e;rfl
          |row _ _=>rw[hx]at hb;obtain⟨_,e,_⟩:=hb;cases e;rfl
          |_=>rw[hx]at hb;exact hb.elim
         ·rw[Bf (by omega)]at hb;exact hb.elim
        have keep:∀k'' B,g k''=some B->k''≠k->w'.heap[k'']? = w.heap[k'']?:= λk'' B hB hne=>hF.block k'' (hin.good.lt hB) λhx=>hne (hone k'' hx);refine⟨g.upd k (.var [] dp 0),rfl,Rel.IG hg0 (Nat.le_refl _),⟨λk'' T p hk=>?_,λk'' akZ d'' b'' hk=>?_⟩,λf hf=>?_⟩
        ·have hne:k''≠k:=λe=>(by subst e;simp[tZ]at hk);rw[tZ,ai hne]at hk;obtain⟨cs',e',h4,h5⟩:=hin.good.arr k'' T p hk;exact⟨cs',e',by rw[keep _ _ hk hne];exact h4,λj u T' hb hu ht=>(h5 j u T' (by rwa[DV,ai hne]at hb) hu ht).Ll hg0⟩
        ·by_cases hkk:k''=k
         ·subst hkk;rw[tZ,aF rfl]at hk;cases hk;exact⟨cl,cap,hw0,λr hr=>by cases hr⟩
         ·rw[tZ,ai hkk]at hk;obtain⟨cs',e',h4,h5⟩:=hin.good.var k'' akZ d'' b'' hk;exact⟨cs',e',by rw[keep _ _ hk hkk];exact h4,λr hr=>let ⟨u,hu,hgr⟩:=h5 r hr;⟨u,hu,hgr.Ll hg0⟩⟩
        ·have hfe:f = .vp 0 0 0:=by
          rw[Oe,List.mem_append]at hf;rcases hf with hf|hf
          ·exfalso;have hrs:∀l,l∈rs'->l=[]:=λl hl=>List.isEmpty_iff.1 (hlk.2 l hl);unfold Vx at hf;split at hf
           ·rename_i rs0 aku;simp only at aku;rw[hrs rs0 (by rw[aku];exact List.mem_cons_self ..)]at hf;cases hf
           ·rw[List.mem_flatMap]at hf;obtain⟨q,hq,hf⟩:=hf;rw[List.mem_map]at hf;obtain⟨e,he,_⟩:=hf;have:=hrs q.1 (by
             have:=List.mem_zipIdx_iff_getElem?.1 hq;exact List.mem_of_getElem? this)
            rw[this]at he;cases he
          ·rw[XD,List.mem_flatMap]at hf;obtain⟨⟨p,i⟩,hq,hf⟩:=hf;have hq:=List.mem_zipIdx_iff_getElem?.1 hq;simp only at hq hf;cases i with
           |zero=>simp at hq;subst hq;simpa using hf
           | succ i=>have:p = .any:=(by simpa using hlk.1 p (List.mem_of_getElem? (by simpa using hq)));subst this;cases hf
         subst hfe;exact⟨k,[],by rw[hu'];rfl,by rw[hu'];rfl,by rw[tZ,aF rfl]⟩
       ·cases hlk
      refine calls_of_wp hf hb (wp_mono (vU (E:=E) hm hcc ⟨I,ρ,_,hwp,hG⟩) λe a w' hq=>?_);cases e with
      |normal=>exact fin hq
      |ret=>exact fin hq
      |exit id=>obtain⟨_,_,_,h,_⟩:=hq;exact h.elim
      |goto l=>exact hq.elim
      |panic ch=>exact hq.elim
      |outgrown=>exact hq.elim
     unfold ajg at hok;have hinit:OW P FV g dp (SE sg.ps) { tmps:=vs.toArray++Array.replicate (fn.ntmps-vs.toArray.size) undef,defers:=[] } w:=
      ⟨hin.good,λf hf=>(hin.fs f hf).put λt _=>by
       simp only[Array.getD_eq_getD_getElem?];by_cases ht:t<vs.toArray.size
       ·rw[Array.getElem?_append_left ht]
       ·have hnone:vs.toArray[t]? = none:=Array.getElem?_eq_none (by omega);rw[Array.getElem?_append_right (by omega),hnone];cases hq:(Array.replicate (fn.ntmps-vs.toArray.size) undef)[t-vs.toArray.size]? with
        |none=>rfl
        | some u=>have:=Array.getElem?_eq_some_iff.1 hq;obtain⟨h1,h2⟩:=this;rw[Array.getElem_replicate]at h2;rw[<- h2];rfl⟩
     let pa:List (Nat×Value):=(G5 sg.ps).map λe=>(e.1,vs.getD e.1 undef)
     have hpl:∀e,e∈pa->e.1∈(G5 sg.ps).map (·.1):=λe he=>by simp only[pa,List.mem_map]at he⊢;obtain⟨q,hq,rfl⟩:=he;exact⟨q,hq,rfl⟩
     have hPA:PA pa { tmps:=vs.toArray++Array.replicate (fn.ntmps-vs.toArray.size) undef,defers:=[] }:= λe he=>by
      simp only[pa,List.mem_map]at he;obtain⟨q,hq,rfl⟩:=he;have hqi:q.1<vs.length:=by rw[hl];unfold G5 at hq;rw[List.mem_filterMap]at hq;obtain⟨⟨p,i⟩,h1,h2⟩:=hq;have h1:=List.mem_zipIdx_iff_getElem?.1 h1;simp only at h1 h2;cases p<;>simp at h2;subst h2;exact(List.getElem?_eq_some_iff.1 h1).1
      simp only[Array.getD_eq_getD_getElem?,List.getD_eq_getElem?_getD];rw[Array.getElem?_append_left (by simpa using hqi)];simp
     cases hoc:oC P ((G5 sg.ps).map (·.1)) (rkO sg rs) c ac (SE sg.ps)with
     |none=>rw[hoc]at hok;cases hok
     | some r=>
       have amf:=uy (E:=E) (g0:=g) (dp:=dp) hm hpl hcc hoc ⟨⟨⟨I,ρ,_,hwp,hG⟩,g,Rel.refl _ _ _,hinit⟩,hPA⟩;refine calls_of_wp hf hb (wp_mono amf λe a w' hq=>?_);cases e with
       | normal=>
         obtain⟨Γ,h1,⟨hak,g1,hr1,how⟩,hpa⟩:=hq;have hrk:rkO sg rs Γ = true:=by rw[hoc]at hok;obtain⟨r1,r2⟩:=r;simp only at h1;subst h1;exact hok
         obtain⟨h1,v,h2,h3⟩:=key hak;obtain⟨g',hr2,aiV⟩:=aa6 (N:=w.heap.size) how h2 hcr hrk hl (λi r hir=>hpa (i,vs.getD i undef) (List.mem_map.2 ⟨(i,r),hir,rfl⟩));exact⟨h1,v,h2,h3,v,g',rfl,hr1.trans hr2,aiV⟩
       | ret=>obtain⟨Γ,hrk,⟨hak,g1,hr1,how⟩,hpa⟩:=hq;obtain⟨h1,v,h2,h3⟩:=key hak;obtain⟨g',hr2,aiV⟩:=aa6 (N:=w.heap.size) how h2 hcr hrk hl (λi r hir=>hpa (i,vs.getD i undef) (List.mem_map.2 ⟨(i,r),hir,rfl⟩));exact⟨h1,v,h2,h3,v,g',rfl,hr1.trans hr2,aiV⟩
       |exit id=>obtain⟨Γ,_,⟨⟨_,_,_,h,_⟩,_⟩,_⟩:=hq;exact h.elim
       |goto l=>exact hq.elim
       |panic ch=>exact hq.elim
       |outgrown=>exact hq.elim
  ·cases hc
 ·cases hc
end
end
theorem HY {q r sz:Nat}(h:r<sz):(q*sz+r)%sz=r:=by rw[uw,tq,sS h]
section
inductive Under (g:Own)(q:wL):Nat->Prop
 |here {k T:Nat} (h:g.b k=some (.arr T q)):Under g q k
 |deep {k T x y:Nat} (h:g.b k=some (.arr T (.blk x y))) (hu:Under g q x):Under g q k
section
variable {g:Own}
theorem Under.trans {q:wL}{b x c:Nat}(h:Under g (.blk b x) c)(hb:Under g q b):Under g q c:=by
 induction h with
 |here h=>exact .deep h hb
 |deep h _ ih=>exact .deep h ih
theorem Under.ajx {d m d' m' b:Nat}(h:Under g (.tag d m) b)(h':Under g (.tag d' m') b):d=d'/\m=m':=by
 induction h with
 | here h=>
   cases h' with
   |here h2=>rw[h]at h2;cases h2;exact⟨rfl,rfl⟩
   |deep h2 _=>rw[h]at h2;cases h2
 | deep h _ ih=>
   cases h' with
   |here h2=>rw[h]at h2;cases h2
   |deep h2 u2=>rw[h]at h2;cases h2;exact ih u2
theorem Under.irrefl {d m b:Nat}(h:Under g (.tag d m) b):∀x,¬Under g (.blk b x) b:=by
 induction h with
 | here h=>
   intro x hx;cases hx with
   |here h2=>rw[h]at h2;cases h2
   |deep h2 _=>rw[h]at h2;cases h2
 | deep h _ ih=>
   intro x hx;cases hx with
   | here h2=>rw[h]at h2;cases h2;exact ih _ (.here h)
   | deep h2 u2=>rw[h]at h2;cases h2;exact ih _ (u2.trans (.here h))
theorem Under.afu {d m k x y b:Nat}(hk:Under g (.tag d m) k)(h:Under g (.blk k x) b)(h':Under g (.blk k y) b):x=y:=by
 induction h with
 | here h=>
   cases h' with
   |here h2=>rw[h]at h2;cases h2;rfl
   |deep h2 u2=>rw[h]at h2;cases h2;exact aY u2 (hk.irrefl _)
 | deep h u ih=>
   cases h' with
   |here h2=>rw[h]at h2;cases h2;exact aY u (hk.irrefl _)
   |deep h2 u2=>rw[h]at h2;cases h2;exact ih u2
theorem Under.owned {q:wL}{b:Nat}(h:Under g q b):∃T p,g b=some (.arr T p):=by
 cases h with
 |here h=>exact⟨_,_,h⟩
 |deep h _=>exact⟨_,_,h⟩
end
def KF (g:Own)(q:wL):Prop:=(∃d m,q = .tag d m)\/∃k j d m,q = .blk k j/\Under g (.tag d m) k
theorem KF.under {g:Own}{q:wL}(h:KF g q){k:Nat}(hk:Under g q k):∃d m,Under g (.tag d m) k:=by
 rcases h with⟨d,m,rfl⟩|⟨k',j,d,m,rfl,hu⟩
 ·exact⟨d,m,hk⟩
 ·exact⟨d,m,hk.trans hu⟩
inductive PU (P:Program):Nat->Cell->Prop
 | sl (T sz:Nat) (es:List (List Cell)) (t:Nat->Nat) (hs:vw P T=sz) (h1:∀i j sz' es',(es.getD i [])[j]? = some (.sl sz' es')->(j,t j)∈nP P T)
   (h2:∀i j sz' es',(es.getD i [])[j]? = some (.sl sz' es')->PU P (t j) (.sl sz' es')):PU P T (.sl sz es)
theorem YE {I J:IH}{a:Addr}(h:J a.block=I a.block):J.cell a=I.cell a:=by unfold IH.cell;rw[h]
theorem Rd.MI {I J:IH}{v x:Value}(h:Rd I x (.lit v)):Rd J x (.lit v):=by cases h with|lit _ hv=>exact .lit _ hv
theorem Rd.MZ {I J:IH}{l:List UInt8}{x:Value}(h:Rd I x (.str l)):Rd J x (.str l):=by cases h with|str _ hl=>exact .str _ hl
section
variable {P:Program} {g:Own} {w:World} {I J J':IH}
theorem P9 (hg:Good P g w)(hA:Agree J w){k n T sz i j:Nat}{q:wL}{u:Value}(hk:g.at k n T q)(hs:vw P T=sz)(hi:i<n)(hj:j<sz)(hc:J.cell ((⟨k,0,none⟩:Addr).add (i*sz+j))=some u){T':Nat}(ht:(j,T')∈nP P T) :
 GR g u T' (.blk k (i*sz+j)):=by
 obtain⟨cs,e,hw,hown⟩:=hg.arr _ _ _ hk.1;have hc':=hA.cell hc;rw[Addr.o9,fE]at hc';simp only[iy,hw]at hc';refine hown _ u T' ?_ (by simpa using hc') (by rw[hs,HY hj];exact ht);rw[hs]
 calc i*sz+j<i*sz+sz:=by omega
  _=(i+1)*sz:=by rw[dK,Nat.one_mul]
  _<=_:=aW _ (dR hi hk.2)
theorem aem {α:Type}{es:List (List α)}{i j sz:Nat}{c:α}(hs:∀e,e∈es->e.length=sz)(h:(es.getD i [])[j]? = some c):i<es.length/\j<sz:=by
 have hi:i<es.length:=by
  rcases Nat.lt_or_ge i es.length with h'|h'
  ·exact h'
  ·rw[fZ,kV h']at h;simp at h
 refine⟨hi,?_⟩;have h6:=(aT.1 h).1;rw[fZ,aA hi]at h6;simp only[pK]at h6
 rwa[hs _ (fU hi)]at h6
theorem Rd.under (hg:Good P g w)(hA:Agree J w){v:Value}{c:Cell}(h:Rd J v c):∀{T:Nat} {q:wL},GR g v T q->PU P T c->(∀b,Under g q b->J' b=J b)->Rd J' v c:=by
 induction h with
 |lit v hv=>intro _ _ _ _ _;exact .lit v hv
 |str l h=>intro _ _ _ _ _;exact .str l h
 | sl a len cap sz es u hlen hcap hmax hsz ha hcell hr ih=>
   intro T q hgr hty hJ;cases hty with
   |sl _ _ _ t hs h1 h2=>
   rcases hgr with e|⟨k,n',c',e,hk⟩
   ·cases e;have:es=[]:=uT.1 hlen;subst this;exact .sl none 0 0 sz [] u hlen hcap hmax hsz ha (λad e=>by cases e) (λi j c hc=>by simp at hc)
   ·cases e;have hJk:=hJ k (.here hk.1);refine .sl _ _ _ sz es u hlen hcap hmax hsz ha (λad e i j hi hj=>?_) (λi j c hc=>?_)
    ·cases e;have h0:=hcell _ rfl i j hi hj;rw[Addr.o9]at h0⊢;rw[YE (J:=J') (I:=J) hJk];exact h0
    ·obtain⟨hi,hj⟩:=aem hsz hc;cases c with
     |lit v'=>exact(hr i j _ hc).MI
     |str l=>exact(hr i j _ hc).MZ
     | sl sz' es'=>exact ih i j _ hc (P9 hg hA hk hs aI hj (hcell _ rfl i j aI hj) (h1 i j _ _ hc)) (h2 i j _ _ hc) (λb hb=>hJ b (hb.trans (.here hk.1)))
theorem Rd.upd (hg:Good P g w)(hA:Agree J w){k n cap T sz i j:Nat}{q:wL}{es:List (List Cell)}(hk:g.at k n T q)(hroot:KF g q)(h:Rd J (.slice (some ⟨k,0,none⟩) n cap) (.sl sz es))(hty:PU P T (.sl sz es))(hi:i<n)(hj:j<sz){u':Value}{c':Cell}
 (hcell:∀y,J'.cell ⟨k,y,none⟩=if y=i*sz+j then some u' else J.cell ⟨k,y,none⟩) (hother:∀y b,y≠i*sz+j->Under g (.blk k y) b->J' b=J b) (hc':Rd J' u' c') :
 Rd J' (.slice (some ⟨k,0,none⟩) n cap) (.sl sz (es.set i ((es.getD i []).set j c'))):=by
 cases h with
 |sl _ _ _ _ _ u hlen hcap hmax hsz ha hcl hr=>
 cases hty with
 |sl _ _ _ t hs h1 h2=>
 have inj:∀{i' j'},j'<sz->i'*sz+j'=i*sz+j->i'=i/\j'=j:=λ{i' j'} hj' e=>by
  have e1:(i'*sz+j')%sz=j':=HY hj';have e2:(i*sz+j)%sz=j:=HY hj;have e3:j'=j:=by rw[<- e1,<- e2,e]
  subst e3;have e4:i'*sz=i*sz:=by omega
  exact⟨Nat.eq_of_mul_eq_mul_right aI e4,rfl⟩
 have hget:∀i' j',((es.set i ((es.getD i []).set j c')).getD i' [])[j']? = if i'=i/\j'=j then some c' else(es.getD i' [])[j']?:=by
  intro i' j';simp only[fZ,o5];by_cases e:i=i'
  ·subst e;rw[aF rfl,aF aI];simp only[pK,o5];by_cases e2:j=j'
   ·subst e2;have hl:j<(es[i]?.getD []).length:=(by rw[aA aI,pK,hsz _ (fU _)];exact hj);rw[aF rfl,aF hl];simp
   ·rw[ai e2,ai (λh=>e2 h.2.symm)]
  ·rw[ai e,ai (λh=>e h.1.symm)]
 refine .sl _ _ _ sz _ (λi' j'=>if i'=i/\j'=j then u' else u i' j') (by simpa using hlen) hcap hmax (λe he=>?_) ha (λad e i' j' hi' hj'=>?_) (λi' j' c hc=>?_)
 ·rcases List.mem_or_eq_of_mem_set he with he|he
  ·exact hsz e he
  ·subst he;rw[List.length_set,fZ,aA aI,pK];exact hsz _ (fU _)
 ·cases e;have h0:=hcl _ rfl i' j' hi' hj';rw[Addr.o9,fE]at h0⊢;rw[hcell];by_cases e:i'=i/\j'=j
  ·obtain⟨rfl,rfl⟩:=e;simp
  ·rw[ai (λe2=>e (inj hj' e2)),h0];simp[e]
 ·rw[hget]at hc;by_cases e:i'=i/\j'=j
  ·rw[aF e]at hc;cases hc;simp only[aF e];exact hc'
  ·rw[ai e]at hc;simp only[ai e];obtain⟨hi',hj'⟩:=aem hsz hc;cases c with
   |lit v'=>exact(hr i' j' _ hc).MI
   |str l=>exact(hr i' j' _ hc).MZ
   | sl sz' es'=>exact(hr i' j' _ hc).under hg hA (P9 hg hA hk hs aI hj' (hcl _ rfl i' j' aI hj') (h1 i' j' _ _ hc)) (h2 i' j' _ _ hc) (λb hb=>hother _ b (λe2=>e (inj hj' e2)) hb)
end
end
section
inductive SV where
 |arr
 |idx
 |cnt
 |ptr (off:Nat)
 |txt
 |val (off:Nat)
 deriving DecidableEq
abbrev Gj :=List (Nat×SV)
def Gj.look (env:Gj)(t:Nat):Option SV:=match env with
 |[]=>none
 |(x,v)::r=>if x==t then some v else Gj.look r t
def qop (P:Program)(CO sz:Nat)(env:Gj)(o:Oper):Option Gj:=
 match o.guard,o.dst with
 | none,some d=>if d==0||d==1||d==5||(env.look d).isSome then none else(match o.op with
   |.move (.tmp s)=>(env.look s).map λv=>(d,v)::env
   |.indexAddr t (.tmp x) (.tmp y)=>if env.look x=some .arr/\env.look y=some .idx/\I9 P t sz=true then some ((d,.ptr 0)::env)else none
   | .fieldAddr s (.tmp x) f=>(match env.look x with
     | some (.ptr off)=>(match P.underlying s with
       | some (.struct fs)=>(match fs[f]? with
         |some OB=>if CX P s f OB.offset=true then some ((d,.ptr (off+OB.offset))::env)else none
         |none=>none)
       |_=>none)
     |_=>none)
   | .load t (.tmp x)=>(match env.look x with
     |some (.ptr off)=>if IP P t false 1=true/\off<sz then some ((d,.val off)::env)else none
     |_=>none)
   |.call ⟨.value (.func f),⟨[.tmp x]⟩,_⟩=>if f=CO/\env.look x=some .cnt/\zL P f=true then some ((d,.txt)::env)else none
   |_=>none)
 |_,_=>none
def IU (P:Program)(CO:Nat)(tx:Int->List UInt8):Prop:=∀k:Int,0<=k->k<4611686018427387904->iW P CO [.one (.c (.lit (.int .i64 k)))] (.one (.c (.str (tx k))))
section
variable {P:Program} {CO sz:Nat} {tx:Int->List UInt8} {kb i n c:Nat} {k:Int}
def SV.den (tx:Int->List UInt8)(sz kb i n c:Nat)(k:Int)(w:World)(v:Value):SV->Prop
 |.arr=>v = .slice (some ⟨kb,0,none⟩) n c
 |.idx=>v = .int .i64 (i:Int)
 |.cnt=>v = .int .i64 k
 |.ptr off=>v = .pointer (some ⟨kb,i*sz+off,none⟩)
 |.txt=>v = .string ⟨⟨tx k⟩⟩/\(tx k).length<=maxLen
 |.val off=>w.cell? ⟨kb,i*sz+off,none⟩=some v
structure ES (tx:Int->List UInt8)(sz kb i n c m:Nat)(k:Int)(env:Gj)(a:Act)(w:World):Prop where
 size:a.tmps.size=m
 defers:a.defers=[]
 den:∀t v,env.look t=some v->v.den tx sz kb i n c k w (a.tmps.getD t undef)
theorem SV.abW {w w':World}(hb:w'.heap[kb]? = w.heap[kb]?){v:SV}{x:Value}(h:v.den tx sz kb i n c k w x):v.den tx sz kb i n c k w' x:=by
 cases v with
 |val off=>simp only[SV.den,iy,hb]at h⊢;exact h
 |_=>exact h
theorem ES.put {m:Nat}{env:Gj}{a:Act}{w:World}(h:ES tx sz kb i n c m k env a w){d:Nat}(hd:env.look d=none)(hm:d<m){v:Value}{s:SV}(hv:s.den tx sz kb i n c k w v):ES tx sz kb i n c m k ((d,s)::env) (a.put (some d) v) w:=by
 refine⟨by simp[Go.Act.put,h.size],h.defers,λt x hx=>?_⟩;simp only[Gj.look]at hx;by_cases e:d=t
 ·subst e;simp only[beq_self_eq_true,kN,aC]at hx;subst hx;rw[ig (by rw[h.size];exact hm)];exact hv
 ·rw[ai (by simpa using e)]at hx;rw[mJ (Ne.symm e)];exact h.den t x hx
theorem ES.world {m:Nat}{env:Gj}{a:Act}{w w':World}(h:ES tx sz kb i n c m k env a w)(hb:w'.heap[kb]? = w.heap[kb]?):ES tx sz kb i n c m k env a w':=
 ⟨h.size,h.defers,λt v hv=>SV.abW hb (h.den t v hv)⟩
variable {ops:Array Oper} {Q:Exit->Act->World->Prop} {rest:List Oper} {o:Oper} {a:Act} {w w':World} {v:Value}
theorem qR (hg:o.guard=none)(hr:(execOp a.eval o).run P w = .ok (.value v) w')(h:wpList P ops Q rest (a.put o.dst v) w'):wpList P ops Q (o::rest) a w:=
 wpList_plain hg λK hK=>by unfold rV;rw[hr,Oper.upon_value];exact hK _ _ h
theorem step_skip (hg:o.guard=none)(hr:(execOp a.eval o).run P w = .ok .skip w')(h:wpList P ops Q rest (a.put o.dst undef) w'):wpList P ops Q (o::rest) a w:=
 wpList_plain hg λK hK=>by unfold rV;rw[hr,BH];exact hK _ _ h
theorem JW (hg:o.guard=none){f:FuncId}{args:Array Value}(hr:(execOp a.eval o).run P w = .ok (.enter f args) w)
 (h:Calls P f args w λe w'=>∃v,e = .returned v/\wpList P ops Q rest (a.put o.dst v) w'):wpList P ops Q (o::rest) a w:=
 wpList_plain hg λK hK=>by unfold rV;rw[hr,Oper.upon_enter];refine h.mono ?_;rintro e w' ⟨v,rfl,h⟩;exact hK _ _ h
theorem ac6 (ht:IU P CO tx)(h0:0<=k)(h1:k<4611686018427387904){I0:IH}(hT:Tabs P I0)(hA:Agree I0 w) :
 Calls P CO #[.int .i64 k] w λe w'=>e = .returned (.string ⟨⟨tx k⟩⟩)/\(tx k).length<=maxLen/\zK w w' λ_=>False:=by
 refine(ht k h0 h1 I0 (λ_=>none) w [.int .i64 k] hT hA ⟨λb=>rfl,λb b' k h=>h.elim,λb k h=>h.elim⟩ ⟨rfl,λj v x hv hx=>?_⟩ _ .XZ).mono ?_
 ·match j with
  |0=>cases hv;cases hx;exact Rd.lit _ rfl
  |j+1=>cases hv
 ·rintro e w' ⟨⟨v,J,σ,r,bs,rfl,⟨rfl,rfl⟩,hgv,_,_,_,hF,_⟩,_⟩;cases hgv with
  |str l hl=>exact⟨rfl,hl,hF.os,hF.tape,hF.output,hF.size,λb hb _=>hF.block b hb (by rintro⟨b,hb⟩;exact hb)⟩
theorem Ud {m:Nat}{env env':Gj}(hq:qop P CO sz env o=some env')(hm:∀d,o.dst=some d->d<m)(h:ES tx sz kb i n c m k env a w)(hi:i<n)(ht:IU P CO tx)(h0:0<=k)(h1:k<4611686018427387904){I0:IH}(hT:Tabs P I0)(hA:Agree I0 w)(hkb:kb<w.heap.size)
 (hcell:∀off,off<sz->∃x,w.cell? ⟨kb,i*sz+off,none⟩=some x)
 (hk:∀a' w',ES tx sz kb i n c m k env' a' w'->zK w w' (λ_=>False)->wpList P ops Q rest a' w'):wpList P ops Q (o::rest) a w:=by
 unfold qop at hq;split at hq
 ·rename_i d hg hd;split at hq
  ·cases hq
  ·rename_i hdd;simp only[dP,not_or,Bool.not_eq_true,Option.isSome_eq_false_iff,qW]at hdd;have hdn:=hdd.2;have hdm:=hm d hd;have fin:∀{v:Value} {s:SV},(execOp a.eval o).run P w = .ok (.value v) w->s.den tx sz kb i n c k w v->env'=(d,s)::env->wpList P ops Q (o::rest) a w:=λhr hs e=>by
    subst e;refine qR hg hr ?_;rw[hd];exact hk _ _ (h.put hdn hdm hs) (zK.refl _ _)
   split at hq
   ·rename_i s ho;simp only[bY]at hq;obtain⟨x,hx,rfl⟩:=hq;exact fin (v:=a.tmps.getD s undef) (by unfold execOp;rw[ho];rfl) (h.den s x hx) rfl
   ·rename_i t x y ho;split at hq
    ·rename_i hc;cases hq;obtain⟨c1,c2,c3⟩:=hc;obtain⟨e,ti,ht,hti,hsz⟩:=Ah c3;have v1:a.eval (.tmp x) = .slice (some ⟨kb,0,none⟩) n c:=h.den x _ c1;have v2:a.eval (.tmp y) = .int .i64 (i:Int):=h.den y _ c2;refine fin (v:=.pointer (some ((⟨kb,0,none⟩:Addr).add ((i:Int).toNat*sz)))) (s:=.ptr 0) ?_ ?_ rfl
     ·have e0:(0:Int)<=i:=(by omega);have e1:(i:Int)<n:=(by omega);simp[execOp,ho,Go.Instr.indexAt,v1,v2,asIntOf,run_underlying ht,e1,hi,sizeOf,typeInfo,hti,hsz]
     ·simp only[SV.den,Addr.o9,fE,Int.toNat_natCast,oG]
    ·cases hq
   ·rename_i s x f ho;split at hq
    ·rename_i off hx;split at hq
     ·rename_i fs hs;split at hq
      ·rename_i OB hf;split at hq
       ·rename_i hfa;cases hq;have v1:a.eval (.tmp x) = .pointer (some ⟨kb,i*sz+off,none⟩):=h.den x _ hx;unfold CX at hfa;rw[hs]at hfa;simp only[hf,ah]at hfa;obtain⟨_,hfa⟩:=hfa;split at hfa
        ·rename_i ti hti;simp at hfa;refine fin (v:=.pointer (some ((⟨kb,i*sz+off,none⟩:Addr).add OB.offset))) (s:=.ptr (off+OB.offset)) ?_ ?_ rfl
         ·simp[execOp,ho,Go.Instr.fieldAt,run_underlying hs,hf,v1,jO,fieldPlace,sizeOf,typeInfo,hti,hfa]
         ·simp only[SV.den,Addr.o9,Nat.add_assoc]
        ·cases hfa
       ·cases hq
      ·cases hq
     ·cases hq
    ·cases hq
   ·rename_i t x ho;split at hq
    ·rename_i off hx;split at hq
     ·rename_i hty;cases hq;obtain⟨hty,hlt⟩:=hty;have v1:a.eval (.tmp x) = .pointer (some ⟨kb,i*sz+off,none⟩):=h.den x _ hx;obtain⟨u,hu⟩:=hcell off hlt;refine fin (v:=u) (s:=.val off) ?_ hu rfl;simp[execOp,ho,v1,jO,nM,Ib hty hu]
     ·cases hq
    ·cases hq
   ·rename_i f x ts ho;split at hq
    ·rename_i hc;cases hq;obtain⟨rfl,hx,hok⟩:=hc;have v1:a.eval (.tmp x) = .int .i64 k:=h.den x _ hx;have he:=D7 (w:=w) (a:=a) ho (f:=f) (x:=.func f) (caps:= #[]) rfl hok;refine JW hg (f:=f) (args:= #[.int .i64 k]) (by simpa[v1]using he) ((ac6 ht h0 h1 hT hA).mono ?_);rintro e w' ⟨rfl,hl,hF⟩;refine⟨_,rfl,?_⟩;rw[hd];exact hk _ _ ((h.world (hF.block kb hkb (λh=>h))).put hdn hdm ⟨rfl,hl⟩) hF
    ·cases hq
   ·cases hq
 ·cases hq
theorem XJ {env env':Gj}(hq:qop P CO sz env o=some env'){t:Nat}{v:SV}(h:env.look t=some v):env'.look t=some v:=by
 have fin:∀{d:Nat} {s:SV},env.look d=none->Gj.look ((d,s)::env) t=some v:=λ{d s} hd=>by simp only[Gj.look];rw[ai (by simp only[aH];rintro rfl;rw[hd]at h;cases h)];exact h
 unfold qop at hq;split at hq
 ·split at hq
  ·cases hq
  ·rename_i hdd;simp only[dP,not_or,Bool.not_eq_true,Option.isSome_eq_false_iff,qW]at hdd;have hd:=hdd.2;split at hq
   ·simp only[bY]at hq;obtain⟨x,_,rfl⟩:=hq;exact fin hd
   all_goals(repeat' split at hq)<;>first|(cases hq;exact fin hd)|cases hq
 ·cases hq
end
end
section
def Sj : List (Nat×Nat)->Nat->Option Nat
 |[],_=>none
 |(b,c)::r,x=>if b=x then some c else Sj r x
def X7 (zs:List Nat)(bx:Nat->Box)(π:Nat->Option Nat)(vs:List Nat)(ts0:List (Nat×Slot)):List (Nat×Slot)->Prop
 |[]=>True
 |(t,s)::r=>S9 zs bx π vs (yQ ts0 t) s/\X7 zs bx π vs ts0 r
def RV (zs:List Nat)(bx:Nat->Box)(π:Nat->Option Nat)(vs:List Nat):List (Nat×Box)->Prop
 |[]=>True
 |(b,x)::r=>wkB zs bx π vs b x/\RV zs bx π vs r
def Box.isAbs : Box->Bool
 |.absent=>true
 |_=>false
def nodupB : List Nat->Bool
 |[]=>true
 |x::r=> !r.contains x&&nodupB r
def fst' {α:Type} : List (Nat×α)->List Nat
 |[]=>[]
 |x::r=>x.1::fst' r
def snd' : List (Nat×Nat)->List Nat
 |[]=>[]
 |x::r=>x.2::snd' r
def NY (m:Nat)(Em bs:List (Nat×Box))(pi:List (Nat×Nat))(vs:List Nat):Bool:=
 nodupB (snd' (pi.filter λp=> !(pV bs p.1).NU))&&nodupB (fst' pi)&&(fst' pi).all (λb=>(fst' bs).contains b)&&vs.all (λb=>(fst' bs).contains b && !(fst' pi).contains b) &&
  (Ad m).all λb=>Sj pi b==some b||(!(fst' pi).contains b && !vs.contains b&&(pV Em b).isAbs)
theorem KZ {l:List Nat} : nodupB l=true<->l.Nodup:=by
 induction l with
 |nil=>simp[nodupB]
 |cons x r ih=>simp[nodupB,ih]
theorem MO : ∀{pi:List (Nat×Nat)} {b c:Nat},Sj pi b=some c->(b,c)∈pi
 |[],_,_,h=>by cases h
 | (x,y)::r,b,c,h=>by
   simp only[Sj]at h;split at h
   ·rename_i e;subst e;cases h;exact aG ..
   ·exact bF _ (MO h)
theorem WS {α:Type} : ∀{l:List (Nat×α)} {b:Nat},b∈fst' l<->∃x,(b,x)∈l
 |[],b=>by simp[fst']
 | (a,y)::r,b=>by
   simp only[fst',aO,WS (l:=r)];constructor
   ·rintro(h|⟨x,hx⟩)
    ·subst h;exact⟨y,.inl rfl⟩
    ·exact⟨x,.inr hx⟩
   ·rintro⟨x,h|h⟩
    ·cases h;exact .inl rfl
    ·exact .inr ⟨x,h⟩
theorem aba : ∀{l:List (Nat×Nat)},snd' l=l.map (·.2)
 |[]=>rfl
 |x::r=>by simp[snd',aba (l:=r)]
theorem Q8 {pi:List (Nat×Nat)}{b:Nat}(h:b ∉ fst' pi):Sj pi b=none:=by
 cases hp:Sj pi b with
 |none=>rfl
 |some c=>exact aY (WS.2 ⟨c,MO hp⟩) h
theorem X5 {zs vs:List Nat}{bx:Nat->Box}{π:Nat->Option Nat} : ∀{bs:List (Nat×Box)},RV zs bx π vs bs->∀b x,(b,x)∈bs->wkB zs bx π vs b x
 |[],_,_,_,h=>by cases h
 | (c,y)::r,hw,b,x,h=>by
   rcases aO.1 h with h|h
   ·cases h;exact hw.1
   ·exact X5 hw.2 b x h
theorem Ut {zs vs:List Nat}{bx:Nat->Box}{π:Nat->Option Nat}{ts0:List (Nat×Slot)} : ∀{ts:List (Nat×Slot)},X7 zs bx π vs ts0 ts->∀t,S9 zs bx π vs (yQ ts0 t) (yQ ts t)
 |[],_,_=>by simp[yQ,S9]
 | (c,y)::r,hw,t=>by
   simp only[yQ];split
   ·rename_i e;subst e;exact hw.1
   ·exact Ut hw.2 t
theorem acm {bs:List (Nat×Box)}{b:Nat} : (b,pV bs b)∈bs\/(b ∉ fst' bs/\pV bs b = .absent):=by
 induction bs with
 |nil=>right;simp[fst',pV]
 | cons p r ih=>
   obtain⟨c,y⟩:=p;simp only[pV];by_cases h:c=b
   ·subst h;left;simp
   ·rw[ai h];rcases ih with ih|⟨h1,h2⟩
    ·left;exact bF _ ih
    ·right;refine⟨?_,h2⟩;simp only[fst',aO,not_or];exact⟨λe=>h e.symm,h1⟩
theorem af0 {m:Nat}{Em bs:List (Nat×Box)}(zs:List Nat)(pi:List (Nat×Nat))(vs:List Nat)(hk:NY m Em bs pi vs=true)(hb:RV zs (pV Em) (Sj pi) vs bs):WkS m (pV Em) (pV bs) zs (Sj pi) vs:=by
 simp only[NY,ah,aN,dP,aH,jM,DD,KZ,iR]at hk;obtain⟨⟨⟨⟨h1,_⟩,h3⟩,h4⟩,h5⟩:=hk;have aev:∀{l:List Nat} {x:Nat},l.contains x=false->x ∉ l:=λh hm=>by rw[iR.2 hm]at h;cases h
 refine⟨λb=>?_,λb b' c hd1 hd2 hb1 hb2=>?_,λb hv=>Q8 (aev (h4 b hv).2),λb hlt=>?_⟩
 ·rcases acm (bs:=bs) (b:=b)with h|⟨h,e⟩
  ·exact X5 hb b _ h
  ·rw[e];exact⟨Q8 λhm=>h (h3 b hm),λhm=>h (h4 b hm).1⟩
 ·have m1:(b,c)∈pi.filter λp=> !(pV bs p.1).NU:=aU.2 ⟨MO hb1,by simp[hd1]⟩;have m2:(b',c)∈pi.filter λp=> !(pV bs p.1).NU:=aU.2 ⟨MO hb2,by simp[hd2]⟩;rw[aba]at h1;obtain⟨i,hi,ei⟩:=rD m1;obtain⟨j,hj,ej⟩:=rD m2;have hpw:=um.1 h1;rcases yu i j with h|h|h
  ·have:=hpw i j (by simpa using hi) (by simpa using hj) h;simp[ei,ej]at this
  ·subst h;rw[ei]at ej;cases ej;rfl
  ·have:=hpw j i (by simpa using hj) (by simpa using hi) h;simp[ei,ej]at this
 ·rcases h5 b hlt with h|⟨⟨h,h'⟩,h''⟩
  ·exact .inl h
  ·refine .inr ⟨Q8 (aev h),aev h',?_⟩;cases hx:pV Em b with
   |absent=>rfl
   |_=>rw[hx]at h'';cases h''
theorem La (ts:List (Nat×Slot))(bs:List (Nat×Box)):(iI.of ts bs).bx=pV bs:=funext λb=>Cc ts bs b
theorem ahO {m:Nat}{ts0 ts:List (Nat×Slot)}{Em bs:List (Nat×Box)}(zs:List Nat)(pi:List (Nat×Nat))(vs:List Nat)(hk:NY m Em bs pi vs=true)
 (hb:RV zs (pV Em) (Sj pi) vs bs) (ht:X7 zs (pV Em) (Sj pi) vs ts0 ts):Ko m (iI.of ts0 Em) (iI.of ts bs):=by
 refine⟨zs,Sj pi,vs,?_,λt=>?_⟩
 ·rw[La,La];exact af0 zs pi vs hk hb
 ·rw[La,GH,GH];exact Ut ht t
def dC (bx:Nat->Box):AC->AC->Prop
 |.c x,.c y=>x=y
 |.mM sz,.c y=>y = .sl sz []
 | .own b n sz,.c y=>match(bx b).arr with
   |some (sz',es)=>sz'=sz/\n<=es.length/\y = .sl sz (es.take n)
   |none=>False
 |_,_=>False
def dCs (bx:Nat->Box):List AC->List AC->Prop
 |[],[]=>True
 |x::xs,y::ys=>dC bx x y/\dCs bx xs ys
 |_,_=>False
def dPs (bx:Nat->Box):List (Bool×List AC)->List (Bool×List AC)->Prop
 |[],[]=>True
 |(g,x)::xs,(g',y)::ys=>g=g'/\dCs bx x y/\dPs bx xs ys
 |_,_=>False
def dV (bx:Nat->Box):AV->AV->Prop
 |.one x,.one y=>dC bx x y
 |.agg xs,.agg ys=>dCs bx xs ys
 |.AX xs,.AX ys=>dPs bx xs ys
 |_,_=>False
theorem ah0 {bx:Nat->Box}{zs:List Nat}{x y:AC}(h:dC bx x y)(hz:∀b,b∈nJ [x]->b∈zs):Lp zs bx (λ_=>none) [] x y:=by
 cases x<;>cases y<;>simp only[dC]at h<;>try exact h
 exact⟨hz _ (by simp[nJ]),h⟩
theorem YS {bx:Nat->Box}{zs:List Nat} : ∀{xs ys:List AC},dCs bx xs ys->(∀b,b∈nJ xs->b∈zs)->Lr zs bx (λ_=>none) [] xs ys
 |[],[],_,_=>trivial
 |x::xs,y::ys,h,hz=>⟨ah0 h.1 λb hb=>hz b (Ce.2 (.inl hb)),YS h.2 λb hb=>hz b (Ce.2 (.inr hb))⟩
 |[],_::_,h,_=>h.elim
 |_::_,[],h,_=>h.elim
theorem ad4 {bx:Nat->Box}{zs:List Nat} : ∀{xs ys:List (Bool×List AC)},dPs bx xs ys->(∀b,b∈(AV.AX xs).owns->b∈zs)->SY zs bx (λ_=>none) [] xs ys
 |[],[],_,_=>trivial
 | (g,x)::xs,(g',y)::ys,h,hz=>⟨h.1,YS h.2.1 λb hb=>hz b (by simp only[AV.owns,bG,aS];exact .inl hb),ad4 h.2.2 λb hb=>hz b (by simp only[AV.owns,bG,aS]at hb⊢;exact .inr hb)⟩
 |[],_::_,h,_=>h.elim
 |_::_,[],h,_=>h.elim
theorem akb {bx:Nat->Box}{x y:AV}(h:dV bx x y):wkV x.owns bx (λ_=>none) [] x y:=by
 cases x<;>cases y<;>simp only[dV]at h<;>first|exact h.elim|skip
 ·exact ah0 h λb hb=>hb
 ·exact YS h λb hb=>hb
 ·exact ad4 h λb hb=>hb
def OT (rs:List vT)(r:AV)(st:iI):Prop:=Fg st rs/\dV st.bx (SH st rs) r
def QP (rs:List vT)(r:AV):AQ
 |.normal,st=>OT rs r st
 |.ret,st=>OT rs r st
 |.exit _,_=>False
theorem OT.ret {rs:List vT}{r:AV}{st:iI}(h:OT rs r st):Gi rs 0 (λr' bs=>r'=r/\bs=[]) st:=
 ⟨h.1,r,[],_,_,[],⟨rfl,rfl⟩,⟨λb=>by rw[UK];exact⟨rfl,nV⟩,λb b' c _ _ h=>by simp at h,λb _=>rfl,λb hb=>by omega⟩,akb h.2⟩
section
variable {P:Program}
theorem RY : ∀{l:List kE} {st:iI} {K K':iI->Prop},(∀st,K st->K' st)->wpOps P l st K->wpOps P l st K'
 |[],st,_,_,hk,h=>hk st h
 |x::r,_,_,_,hk,h=>Nw (λ_ _ _ h=>RY (l:=r) hk h) (show T P x _ (λ_ _ st'=>wpOps P r st' _)from h)
theorem X8 : ∀{l:List (kE×List Nat)} {i:Nat} {log:Log} {st:iI} {K K':iI->Prop},(∀st,K st->K' st)->wpD P l i log st K->wpD P l i log st K'
 |[],_,_,st,_,_,hk,h=>hk st h
 |(o,EE)::r,i,log,_,_,_,hk,h=>Nw (λ_ _ _ h=>⟨h.1,X8 (l:=r) hk h.2⟩) (show T P o _ (λrd wr st'=>zZ EE rd wr log=true/\wpD P r (i+1) ((i,rd,wr)::log) st' _)from h)
theorem wpC_mono : ∀{c:gI} {Q Q':AQ} {st:iI},(∀e st,Q e st->Q' e st)->wpC P c Q st->wpC P c Q' st
 |.skip,_,_,st,hq,h=>hq .normal st h
 |.reg ops keep,_,_,st,hq,h=>RY (λst h=>hq .normal _ h) h
 |.yF ops keep,_,_,st,hq,h=>X8 (λst h=>hq .normal _ h) h
 |.seq a b,_,_,st,hq,h=>wpC_mono (c:=a) (λe st h=>by
  cases e with
  |normal=>exact wpC_mono (c:=b) hq h
  |exit id=>exact hq _ _ h
  |ret=>exact hq _ _ h) h
 |.cut a b,_,_,st,hq,⟨X,J,S,h1,h2⟩=>⟨X,J,S,wpC_mono (c:=a) (λe st h=>by
  cases e with
  |normal=>exact h
  |exit id=>exact hq _ _ h
  |ret=>exact hq _ _ h) h1,λx hx=>wpC_mono (c:=b) hq (h2 x hx)⟩
 |.cond c a b,_,_,st,hq,⟨h1,h2⟩=>⟨h1,by
  split at h2
  ·exact⟨λe=>wpC_mono (c:=a) hq (h2.1 e),λe=>wpC_mono (c:=b) hq (h2.2 e)⟩
  ·exact h2.elim⟩
 |.block id a,_,_,st,hq,h=>wpC_mono (c:=a) (λe st h=>by
  cases e with
  |normal=>exact hq _ _ h
  | exit id'=>
    simp only[tJ.inBlock]at h⊢;split
    ·rename_i e;rw[aF e]at h;exact hq _ _ h
    ·rename_i e;rw[ai e]at h;exact hq _ _ h
  |ret=>exact hq _ _ h) h
 |.loop a,_,_,st,hq,⟨X,J,S,μ,h0,h1⟩=>⟨X,J,S,μ,h0,λx hx=>wpC_mono (c:=a) (λe st h=>by
  cases e with
  |normal=>exact h
  |exit id=>exact hq _ _ h
  |ret=>exact hq _ _ h) (h1 x hx)⟩
 |.exit id,_,_,st,hq,h=>hq _ _ h
 |.ret,_,_,st,hq,h=>hq _ _ h
theorem fV {f:FuncId}{ac:gI}{rs:List vT}{args:List AV}{r:AV}(hc:nO P f args.length 0 ac rs=true)(hwp:wpC P ac (QP rs r) (st0 args [])):iW P f args r:=by
 refine vJ (fp:=[]) hc (wpC_mono (λe st h=>?_) hwp) ahg;cases e with
 |normal=>exact OT.ret h
 |ret=>exact OT.ret h
 |exit id=>exact h.elim
theorem G8.intro {body:AQ->iI->Prop}{Q:AQ}{st:iI}{d1:DU body}{d2:DU Q}{X:Type}(J:X->Prop)(S:X->iI)(μ:X->Nat)(x0:X)(h0:J x0)(hw:Ko 10 st (S x0))
 (h:∀x,J x->body (tJ.then (λst'=>∃x',(J x'/\μ x'<μ x)/\Ko 10 st' (S x')) Q) (S x)):G8 body Q st d1 d2:=
 ⟨X,J,S,μ,⟨x0,h0,hw⟩,h⟩
theorem Lu.intro {wa wb:AQ->iI->Prop}{Q:AQ}{st:iI}{d1:DU wa}{d2:DU wb}{d3:DU Q}{X:Type}(J:X->Prop)(S:X->iI)
 (h1:wa (tJ.then (λst'=>∃x,J x/\Ko 10 st' (S x)) Q) st) (h2:∀x,J x->wb Q (S x)):Lu wa wb Q st d1 d2 d3:=
 ⟨X,J,S,h1,h2⟩
def Ep (bx:Nat->Box):AC->AC
 |.mM sz=>.c (.sl sz [])
 | .own b n sz=>match(bx b).arr with
   |some (_,es)=>.c (.sl sz (es.take n))
   |none=>.Jj
 |x=>x
def BB (bx:Nat->Box):AV->AV
 |.one x=>.one (Ep bx x)
 |.agg xs=>.agg (xs.map (Ep bx))
 |.AX xs=>.AX xs
def xC (bx:Nat->Box):List AV->Prop
 |[]=>True
 |.AX _::_=>False
 |x::r=>x9 bx x.cells/\xC bx r
theorem Jk {bx:Nat->Box} : ∀{xs:List AC},x9 bx xs->CvL bx xs (xs.map (Ep bx))
 |[],_=>.nil
 | x::r,h=>by
   cases x with
   | own b n sz=>
     obtain⟨h1,h2⟩:=h;refine .cons ?_ (Jk h2);simp only[Ep];cases hb:(bx b).arr with
     |none=>rw[hb]at h1;exact h1.elim
     |some p=>obtain⟨sz',es⟩:=p;rw[hb]at h1;obtain⟨rfl,h1⟩:=h1;exact .own b n sz' es hb h1
   |mM sz=>exact .cons (.mM sz) (Jk (xs:=r) h)
   |_=>exact .cons (.refl _) (Jk (xs:=r) h)
theorem Jl {bx:Nat->Box} : ∀{xs:List AV},xC bx xs->KA bx xs (xs.map (BB bx))
 |[],_=>.nil
 | x::r,h=>by
   cases x with
   | one x=>
     refine .cons ?_ (Jl h.2);have:=Jk (xs:=[x]) h.1;cases this with
     |cons h t=>exact .one h
   |agg xs=>exact .cons (.agg (Jk h.1)) (Jl h.2)
   |AX xs=>exact h.elim
variable {f:FuncId} {rX:List AV} {p:Bool} {d:Option Nat} {st:iI} {K:List Nat->List Nat->iI->Prop} {du:DU K}
theorem sV.lit (r:AV)(h:p=true->iW P f (rX.map (BB st.bx)) r)(hl:p=true->xC st.bx rX)(hd:(rX.map (BB st.bx)).all (·.all AC.vC)=true)(hr:r.all AC.isLit=true)
 (k:K (rX.flatMap AV.owns) [] (st.yf d (.v p r))):sV P f rX p d st K du:=
 IQ.lit _ r (λe=>Jl (hl e)) hd h hr k
theorem sV.pure (r:AV)(hp:p=true)(h:iW P f (rX.map (BB st.bx)) r)(hl:xC st.bx rX)(hd:(rX.map (BB st.bx)).all (·.all AC.vC)=true)(hr:r.all AC.vC=true)
 (k:K (rX.flatMap AV.owns) (rX.flatMap AV.owns) ((st.Eo (rX.flatMap AV.owns)).yf d (.v true r))):sV P f rX p d st K du:=
 IQ.pure _ r hp (Jl hl) hd h hr k
end
end
end Go.Ab
