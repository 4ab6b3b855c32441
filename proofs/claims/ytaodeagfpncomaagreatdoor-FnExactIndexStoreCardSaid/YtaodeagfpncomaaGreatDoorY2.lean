/- What abstract codes mean (part 2). No conditions. -/
import Derived.Test.YtaodeagfpncomaaGreatDoorY1
set_option linter.unusedVariables false
set_option linter.unusedSimpArgs false
open Array renaming getElem?_eq_some_iff->bY,getD_eq_getD_getElem?->dm,length_toList->fE,getElem?_eq_getElem->iE,getElem?_map->jZ,range->nG,replicate->o5,mapM_eq_mapM_toList->oZ,ext'->sS,getElem?_append->uS
open Bool renaming and_eq_true->af,or_eq_true->eX,not_eq_true'->gG,and_eq_false_iff->mM
open Go.Builtin renaming firstCells->dZ,append_->fQ,copy_->je,lenOf->lU
open Go.Code renaming region->vg
open Go.Exit renaming inBlock->rH
open Go.Instr renaming sureAddr->iw,loadAt->kN,fill->mg
open Go.Oper renaming wp->qR,wp_mono->uM,upon_skip->wX
open Go.Region renaming ready->mG,wanted->uo
open Go.Result renaming andThen_ok->aO
open Go.Sem renaming run_pure->aZ,run_bind->bC,run_map->yH
open Go.Value renaming cells->jD,pointer->kV,slice->vz
open Go.World renaming cell?->dY
open List renaming isEmpty_iff->Cj,all_eq_true->aB,mem_filter->aC,mem_map->aG,mem_cons_self->aJ,getElem?_map->aP,getElem?_append_left->aX,getD_eq_getElem?_getD->aY,getElem?_eq_getElem->ai,mem_cons->au,getElem?_eq_some_iff->ay,mem_append_left->bF,replicate->bG,mem_filterMap->bK,mem_cons_of_mem->bU,getElem?_append_right->bZ,map_cons->bf,mem_append->bg,mem_append_right->cu,getElem_mem->dB,mem_of_getElem?->dX,contains_iff_mem->eF,getElem?_cons_zero->fC,not_mem_nil->fF,getElem?_cons_succ->gB,mem_flatMap->gX,getElem?_eq_none->iq,map_toArray->jC,length_map->jM,mem_of_head?->jO,length_cons->jU,getElem?_toArray->jY,pairwise_cons->kC,map_nil->kF,mem_zipIdx_iff_getElem?->kP,size_toArray->kQ,map_congr_left->kT,length_nil->lF,range->lG,getElem?_set->lI,getElem_of_mem->lX,flatMap_cons->mQ,getElem?_range->o8,any_eq_true->oJ,filter_append->pV,pairwise_iff_getElem->pq,length_eq_zero_iff->qp,contains_eq_mem->rM,nodup_cons->rO,cons_append->uw,mapM_cons->vC,pairwise_append->vJ,filter_eq_self->vY,mem_map_of_mem->wo,lookup->xB,mem_range->yJ,map_append->yt,flatten->zJ
open Nat renaming mod_mod->AL,le_refl->aA,mul_le_mul_right->aH,add_mul->bJ,zero_add->dF,le_trans->dh,lt_of_lt_of_le->fU,beq->iV,add_zero->kG,mul_comm->lN,mod_eq_of_lt->oK,add_mul_mod_self_right->oM,add_comm->pG,add_mod->qw,lt_trichotomy->tH,lt_succ_self->uz,one_mul->xC,lt_or_ge->zK,sub_zero->zL
open Option renaming map_eq_some_iff->aU,map_some->iZ,isSome_iff_exists->jB,getD_some->jV,isNone_iff_eq_none->ni,bind_eq_some_iff->qx
open Option.some renaming injEq->aI
open Prod.mk renaming injEq->cZ
namespace Go.Ab
open Go
section
def Ku (P:Program)(t:TypeId):RR:=match P.info? t with
 | some i=>(match i.zero with
   |some z=>(match Ia z.cells (refsOf P 6 t 0)with|some R=>R|none=>[])
   |none=>[])
 |none=>[]
def placesOf (P:Program)(fs:Array Field):Nat->Option (Nat×Nat):=((fs.map λf=>(f.offset,P.cellsOf f.type))[·]?)
def Py (P:Program)(Γ : List OF)(t:TypeId)(ps:List (Nat×Operand)):RR:=match P.underlying t,P.info? t with
 | some (.struct fs),some i=>if fs.toList.all (λf=>(P.info? f.type).isSome)then(match i.zero with
   | some z=>(match Ia z.cells (refsOf P 6 t 0)with
     |some R=>Rw (placesOf P fs) Γ ps R
     |none=>[])
   |none=>[])else []
 |_,_=>[]
def yY (P:Program)(T:TypeId):Bool:=match P.underlying T with
 | some (.slice e)=>(match P.info? e with
   | some i=>(match i.zero with
     |some z=>z.cells.size==i.size&&(Ia z.cells (refsOf P 6 e 0)).isSome
     |none=>false)
   |none=>false)
 |_=>false
section
variable {P:Program} {F:Jk} {g:Own} {dp:Nat} {Γ : List OF} {a:Act} {w w':World} {d N:Nat} {v:Value}
theorem VX {t:TypeId}{i:TypeInfo}{z:Value}(hi:P.info? t=some i)(hz:i.zero=some z):Ih g dp z.cells (Ku P t):=by
 unfold Ku;rw[hi];simp only[hz];split
 ·rename_i R hR;exact Ua hR
 ·intro e he;cases he
theorem XI (h:OW P F g dp Γ a w)(hd:d<a.tmps.size)(hN:N<=w.heap.size){o:Oper}{t:TypeId}(ho:o.op = .alloc t)(hr:(execOp a.eval o).run P w = .ok (.value v) w') :
 ∃g',Rel dp N g g'/\OW P F g' dp (QS d (rowOf d (Ku P t)) ++ Γ.filter (Ar d)) (a.put (some d) v) w':=by
 simp only[execOp,ho]at hr;have hr:=yX hr;unfold Go.Instr.alloc at hr;obtain⟨z,w1,h1,h2⟩:=bM hr;obtain⟨⟨i,hi,hz⟩,rfl⟩:=Ib h1
 dsimp only at h2
 obtain⟨p,w2,h3,h4⟩:=bM h2;obtain⟨rfl,rfl⟩:=Md h3;obtain⟨rfl,rfl⟩:=eY h4;exact h.QS hd (MN (VX hi hz) d) hN
theorem acz (h:OW P F g dp Γ a w)(hd:d<a.tmps.size)(hN:N<=w.heap.size){o:Oper}{t:TypeId}{x:Operand}(ho:o.op = .box t x)(hr:(execOp a.eval o).run P w = .ok (.value v) w') :
 ∃g',Rel dp N g g'/\OW P F g' dp (QS d (rowOf d (yC Γ 0 1000 x)) ++ Γ.filter (Ar d)) (a.put (some d) v) w':=by
 simp only[execOp,ho]at hr;have hr:=yX hr;unfold Go.Instr.box at hr;obtain⟨p,w2,h3,h4⟩:=bM hr;obtain⟨rfl,rfl⟩:=Md h3;obtain⟨rfl,rfl⟩:=eY h4;refine h.QS hd (MN (λe he=>?_) d) hN;unfold yC at he;split at he
 ·rename_i s;rw[bK]at he;obtain⟨f,hf,he⟩:=he;split at he
  ·split at he
   ·rename_i y r hc;cases he;obtain⟨rfl,hlt⟩:=hc;obtain⟨u,hu,hg⟩:=h.fs _ hf;exact⟨u,by rw[dF];exact hu,hg⟩
   ·cases he
  ·cases he
 ·cases he
theorem XQ (h:OW P F g dp Γ a w)(hd:d<a.tmps.size){o:Oper}{t:TypeId}{ps:Array (Nat×Operand)}(ho:o.op = .build t ps)(hr:(execOp a.eval o).run P w = .ok (.value v) w') :
 ∀f,f∈(rowOf d (Py P Γ t ps.toList)).map (.ref d)->xq P F g dp (a.put (some d) v) w f:=by
 intro f hf;rw[aG]at hf;obtain⟨r,hr0,rfl⟩:=hf;simp only[execOp,ho]at hr;have hr:=yX hr;have key:Ih g dp v.cells (Py P Γ t ps.toList):=by
  unfold Py;split
  ·rename_i fs i hs hi;split
   ·rename_i hall;split
    ·rename_i z hz;split
     ·rename_i R hR;have hpl:=run_places (P:=P) w fs.toList hall;have hpl':(fs.mapM (m:=Sem) λf=>do pure (f.offset,<- sizeOf f.type)).run P w = .ok (fs.map λf=>(f.offset,P.cellsOf f.type)) w:=by
       rw[oZ,yH,hpl];simp only[aO]
       congr 1
       apply sS;simp
      have hzr:(zeroValue t).run P w = .ok z w:=(by simp[zeroValue,typeInfo,hi,hz]);have hps:(ps.map λ(i,x)=>(i,a.eval x)).toList=ps.toList.map λp=>(p.1,a.eval p.2):=(by simp);unfold Instr.build at hr;obtain⟨z',w1,h1,h2⟩:=bM hr;rw[hzr]at h1;cases h1;obtain⟨de,w2,h3,h4⟩:=bM h2;rw[run_underlying hs]at h3;cases h3
      dsimp only at h4
      obtain⟨pl,w3,h5,h6⟩:=bM h4;rw[hpl']at h5;cases h5;split at h6
      ·rename_i out hout;have hv:=(eY h6).1;subst hv;rw[hps]at hout;exact(Lr h.fs ps.toList _ out R (Ua hR) hout).1
      ·cases h6
     ·intro e he;cases he
    ·intro e he;cases he
   ·intro e he;cases he
  ·intro e he;cases he
 obtain⟨u,hu,hg⟩:=MN key d r hr0;exact⟨u,by rw[dM hd];exact hu,hg⟩
theorem V7 {n:Nat}{w1:World}{u:Unit}(h:(askRoom n).run P w = .ok u w1):w1=w:=by
 unfold askRoom at h;split at h
 ·rw[run_mark]at h;cases h;rfl
 ·exact(eY h).2
theorem Ej {α:Type}{e:RuntimeError}{r:α}{w1:World}(h:(runtimePanic e:Sem α).run P w = .ok r w1):False:=by
 unfold runtimePanic at h;obtain⟨p,w2,h1,h2⟩:=bM h
 dsimp only at h2
 split at h2<;>first
  |cases h2
  |(obtain⟨_,_,_,h3⟩:=bM h2;obtain⟨_,_,_,h4⟩:=bM h3;cases h4)
theorem BB {T e:TypeId}{i:TypeInfo}{z:Value}(hz:yY P T=true)(hu:P.underlying T=some (.slice e))(hi:P.info? e=some i)(hzero:i.zero=some z){cs:Array Value}(hcs:∀(j:Nat) (u:Value),cs[j]? = some u->u=z.cells[j%z.cells.size]!) :
 ∀j u T',cs[j]? = some u->(j%oD P T,T')∈kD P T->Vq u:=by
 unfold yY at hz;rw[hu]at hz;simp only[hi,hzero,af,aK]at hz;intro j u T' hj ht;have:=hcs j u hj;obtain⟨h1,h2⟩:=hz;cases hR:Ia z.cells (refsOf P 6 e 0)with
 |none=>rw[hR]at h2;cases h2
 | some R=>
   have he:kD P T=refsOf P 6 e 0:=(by simp[kD,hu]);have hs:oD P T=i.size:=(by simp[oD,hu,hi]);rw[he,hs,<- h1]at ht;unfold Ia at hR;split at hR
   ·rename_i hall;rw[aB]at hall;have h3:=hall _ ht;cases hc:z.cells[j%z.cells.size]? with
    |none=>rw[hc]at h3;cases h3
    | some u'=>rw[hc]at h3;have:u=u':=(by rw[this,getElem!_def,hc]);rw[this];exact Ko h3
   ·cases hR
theorem OW.acy (h:OW P F g dp Γ a w)(hd:d<a.tmps.size)(hN:N<=w.heap.size){cs:Array Value}{e T n c m:Nat}
 (hc:∀j u T',cs[j]? = some u->(j%oD P T,T')∈kD P T->GR g u T' (.blk w.heap.size j)) :
 ∃g',Rel dp N g g'/\OW P F g' dp (.ref d ⟨0,T,m⟩ :: Γ.filter (Ar d)) (a.put (some d) (.slice (some ⟨w.heap.size,0,none⟩) n c)) (w.alloc (.cells cs e)):=by
 have hn:g w.heap.size=none:=by
  cases hg:g w.heap.size with
  |none=>rfl
  |some B=>exact dO (h.good.lt hg) (Nat.lt_irrefl _)
 have h1:=(h.drop d (.slice (some ⟨w.heap.size,0,none⟩) n c)).aeR (cs:=cs) (e:=e) (T:=T) (m:=n) (p:=.tag dp m) λj u T' _=>hc j u T';refine⟨_,Rel.new hn hN,h1.add ⟨.slice (some ⟨w.heap.size,0,none⟩) n c,?_,.inr ⟨w.heap.size,n,c,rfl,by simp[qj],by simp[AA]⟩⟩⟩;rw[dM hd];rfl
theorem aaR (h:OW P F g dp Γ a w)(hd:d<a.tmps.size)(hN:N<=w.heap.size){o:Oper}{T:TypeId}{x y:Operand}(hz:yY P T=true)(ho:o.op = .makeSlice T x y)(hr:(execOp a.eval o).run P w = .ok (.value v) w') :
 ∃g',Rel dp N g g'/\OW P F g' dp (.ref d ⟨0,T,mk d 0⟩ :: Γ.filter (Ar d)) (a.put (some d) v) w':=by
 simp only[execOp,ho]at hr;have hr:=yX hr;have NZ:∀{v:Value} {i:Int} {w w':World},(asInt v).run P w = .ok i w'->w'=w:=by intro v i w w' h;unfold asInt at h;obtain⟨y,w1,h1,h2⟩:=bM h;have e1:=(eY h2).2;subst e1;unfold asIntOf at h1;split at h1<;>first|exact(eY h1).2|cases h1
 unfold Instr.makeSlice at hr;obtain⟨de,w1,h1,k1⟩:=bM hr;clear hr;obtain⟨hu,rfl⟩:=uY h1;split at k1
 ·rename_i e;obtain⟨l0,w2,h2,k2⟩:=bM k1;have:=NZ h2;subst this;obtain⟨c0,w3,h3,k3⟩:=bM k2;have:=NZ h3;subst this;obtain⟨i,w4,h4,k4⟩:=bM k3;obtain⟨hi,rfl⟩:=BR h4;clear k1 k2 k3
  dsimp only at k4
  split at k4
  ·exfalso;split at k4
   ·obtain⟨_,_,h5,_⟩:=bM k4;exact Ej h5
   ·split at k4
    ·obtain⟨_,_,h5,_⟩:=bM k4;exact Ej h5
    ·obtain⟨_,_,_,k5⟩:=bM k4;obtain⟨_,_,h5,_⟩:=bM k5;exact Ej h5
  ·obtain⟨_,w5,h5,k5⟩:=bM k4;have:=V7 h5;subst this;obtain⟨sz,w6,h6,k6⟩:=bM k5;obtain⟨i',hi',rfl,rfl⟩:=yg h6;rw[hi]at hi';cases hi';clear k4 k5;split at k6
   ·rename_i h0;obtain⟨z,w7,h7,k7⟩:=bM k6;obtain⟨rfl,rfl⟩:=eY h7;obtain⟨p,w8,h8,k8⟩:=bM k7;unfold newRow at h8;obtain⟨q,w9,h9,h10⟩:=bM h8;rw[run_newObj]at h9;cases h9;obtain⟨rfl,rfl⟩:=eY h10;obtain⟨rfl,rfl⟩:=eY k8;refine h.acy hd hN λj u T' hj _=>?_;have hlt:=(bY.1 hj).1;simp only[Array.size_map,Array.size_range]at hlt;omega
   ·obtain⟨z,w7,h7,k7⟩:=bM k6;obtain⟨⟨i2,hi2,hzero⟩,rfl⟩:=Ib h7;rw[hi]at hi2;cases hi2;obtain⟨z',w8,h8,k8⟩:=bM k7;obtain⟨rfl,rfl⟩:=eY h8;obtain⟨p,w9,h9,k9⟩:=bM k8;unfold newRow at h9;obtain⟨q,w10,h10,h11⟩:=bM h9;rw[run_newObj]at h10;cases h10;obtain⟨rfl,rfl⟩:=eY h11;obtain⟨rfl,rfl⟩:=eY k9;refine h.acy hd hN λj u T' hj ht=>.inl (BB hz hu hi hzero (λj u hj=>?_) j u T' hj ht);rw[jZ]at hj;simp only[aU]at hj;obtain⟨j',hj',rfl⟩:=hj;have:=bY.1 hj';simp at this;rw[this.2]
 ·cases k1
end
end
section
def Np (R:RR):Bool:=R.all λe=>R.all λe'=>e.2.2.isNone||e.2.2 != e'.2.2||e==e'
def H8 (R:RR):List Nat:=R.filterMap (·.2.2)
def NJ (k off:Nat)(R:RR):List (Nat×rC):=R.filterMap λe=>e.2.2.map λm=>(m,.blk k (off+e.1))
def aak (R:RR)(o T:Nat):Bool:=R.any λe=>e.1==o&&e.2.1==T
theorem OC (k off:Nat)(R:RR):(NJ k off R).map (·.1)=H8 R:=by
 induction R with
 |nil=>rfl
 | cons e r ih=>
   obtain⟨o,T,m⟩:=e;cases m with
   |none=>simpa[NJ,H8]using ih
   |some m=>simp only[NJ,H8,List.filterMap_cons,iZ,bf]at ih⊢;rw[ih]
theorem LX {β:Type}{m:Nat}{q:β} : ∀{l:List (Nat×β)},(m,q)∈l->∃q',l.lookup m=some q'/\(m,q')∈l
 | (k,b)::r,h=>by
   simp only[xB];cases hk:(m==k)with
   |true=>simp at hk;subst hk;exact⟨b,rfl,aJ ..⟩
   | false=>
     rcases au.1 h with e|h
     ·cases e;simp at hk
     ·obtain⟨q',h1,h2⟩:=LX h;exact⟨q',h1,bU _ h2⟩
theorem Sr {k off:Nat}{R:RR}(ht:Np R=true){e:Nat×Nat×Option Nat}(he:e∈R){m:Nat}(hm:e.2.2=some m):(NJ k off R).lookup m=some (.blk k (off+e.1)):=by
 have h1:(m,rC.blk k (off+e.1))∈NJ k off R:=by rw[NJ,bK];exact⟨e,he,by rw[hm];rfl⟩
 obtain⟨q,hq,hm'⟩:=LX h1;rw[hq];rw[NJ,bK]at hm';obtain⟨e',he',h2⟩:=hm';cases h3:e'.2.2 with
 |none=>rw[h3]at h2;cases h2
 | some m'=>
   rw[h3]at h2;simp only[iZ,aI,cZ]at h2;obtain⟨rfl,rfl⟩:=h2;simp only[Np,aB,eX,ni,bne_iff_ne,aK]at ht;have:=ht e he e' he';rcases this with(h|h)|h
   ·rw[hm]at h;cases h
   ·rw[hm,h3]at h;exact dO rfl h
   ·rw[h]
section
variable {P:Program} {F:Jk} {g:Own} {dp:Nat} {Γ : List OF} {a:Act} {w w':World} {d N:Nat} {v:Value}
theorem Ih.mv {cs:Array Value}{R:RR}(h:Ih g dp cs R)(ht:Np R=true)(k off:Nat){e:Nat×Nat×Option Nat}(he:e∈R):∃u,cs[e.1]? = some u/\GR (g.mv dp (NJ k off R)) u e.2.1 (.blk k (off+e.1)):=by
 obtain⟨u,hu,hg⟩:=h e he;refine⟨u,hu,?_⟩;cases hm:e.2.2 with
 |none=>rw[hm]at hg;exact .inl hg
 |some m=>rw[hm]at hg;exact GR.mv hg (Sr ht he hm)
theorem ab3 (h:OW P F g dp Γ a w){x:Operand}{size:Nat} : Ih g dp (a.eval x).cells (yC Γ 0 size x):=by
 intro e he;unfold yC at he;split at he
 ·rename_i s;rw[bK]at he;obtain⟨f,hf,he⟩:=he;split at he
  ·split at he
   ·rename_i y r hc;cases he;obtain⟨rfl,hlt⟩:=hc;obtain⟨u,hu,hg⟩:=h.fs _ hf;exact⟨u,by rw[dF];exact hu,hg⟩
   ·cases he
  ·cases he
 ·cases he
def Vp (P:Program)(T len:Nat):RR:=(lG len).flatMap λi=>(kD P T).map λe=>(i*oD P T+e.1,e.2,none)
def CE (P:Program)(Γ : List OF)(T len:Nat)(ps:List (Nat×Operand)):RR:=Rw (λi=>some (i*oD P T,oD P T)) Γ ps (Vp P T len)
def KL (P:Program)(Γ : List OF)(T len:Nat)(ps:List (Nat×Operand)):Bool:=
 yY P T&&Np (CE P Γ T len ps)&&(lG len).all (λi=>(kD P T).all λe=>aak (CE P Γ T len ps) (i*oD P T+e.1) e.2)&&decide (0<oD P T)
theorem UX {T e:TypeId}{i:TypeInfo}(hu:P.underlying T=some (.slice e))(hi:P.info? e=some i):oD P T=i.size:=by simp[oD,hu,hi]
theorem aaQ {T e:TypeId}{i:TypeInfo}{z:Value}(hz:yY P T=true)(hu:P.underlying T=some (.slice e))(hi:P.info? e=some i)(hzero:i.zero=some z){n:Nat}{cs:Array Value}(hcs:cs=(nG n).map (z.cells[· % z.cells.size]!)) :
 ∀j u T',cs[j]? = some u->(j%oD P T,T')∈kD P T->Vq u:=by
 refine BB hz hu hi hzero λj u hj=>?_;subst hcs;rw[jZ]at hj;simp only[aU]at hj;obtain⟨j',hj',rfl⟩:=hj;have:=bY.1 hj';simp at this;rw[this.2]
theorem ZZ {T e:TypeId}{i:TypeInfo}{z:Value}(hz:yY P T=true)(hu:P.underlying T=some (.slice e))(hi:P.info? e=some i)(hzero:i.zero=some z){o T':Nat}(ho:(o,T')∈kD P T):o<oD P T:=by
 unfold yY at hz;rw[hu]at hz;simp only[hi,hzero,af,aK]at hz;obtain⟨h1,h2⟩:=hz;have he:kD P T=refsOf P 6 e 0:=by simp[kD,hu]
 rw[he]at ho;cases hR:Ia z.cells (refsOf P 6 e 0)with
 |none=>rw[hR]at h2;cases h2
 | some R=>
   unfold Ia at hR;split at hR
   ·rename_i hall;rw[aB]at hall;have:=hall _ ho;cases hc:z.cells[o]? with
    |none=>dsimp only at this;rw[hc]at this;cases this
    | some u=>have:=(bY.1 hc).1;rw[UX hu hi,<- h1];exact this
   ·cases hR
theorem Uz (h:OW P F g dp Γ a w)(hd:d<a.tmps.size)(hN:N<=w.heap.size){o:Oper}{T:TypeId}{len:Nat}{ps:Array (Nat×Operand)}(hok:KL P Γ T len ps.toList=true)(ho:o.op = .buildSlice T len ps)(hr:(execOp a.eval o).run P w = .ok (.value v) w') :
 ∃g',Rel dp N g g'/\OW P F g' dp (.ref d ⟨0,T,mk d 0⟩::(Γ.filter (x9 (H8 (CE P Γ T len ps.toList)))).filter (Ar d)) (a.put (some d) v) w':=by
 simp only[KL,af,aB,ak]at hok;obtain⟨⟨⟨hz,ht⟩,hcov⟩,h0⟩:=hok;simp only[execOp,ho]at hr;have hr:=yX hr;unfold Instr.buildSlice at hr;obtain⟨de,w1,h1,k1⟩:=bM hr;clear hr;obtain⟨hu,rfl⟩:=uY h1;split at k1
 ·rename_i e;obtain⟨size,w2,h2,k2⟩:=bM k1;obtain⟨i,hi,rfl,rfl⟩:=yg h2;clear k1;have hes:=UX hu hi
  dsimp only at k2
  split at k2
  ·obtain⟨_,_,h3,_⟩:=bM k2;cases h3
  ·
   have key:∀(z:Value) (cells:Array Value),i.zero=some z->mg (λi'=>some (i'*i.size,i.size)) ((nG (len*i.size)).map (z.cells[· % z.cells.size]!)) (ps.map λ(i,x)=>(i,a.eval x)).toList=some cells ->
    ∃g',Rel dp N g g'/\OW P F g' dp (.ref d ⟨0,T,mk d 0⟩::(Γ.filter (x9 (H8 (CE P Γ T len ps.toList)))).filter (Ar d)) (a.put (some d) (.slice (some ⟨w2.heap.size,0,none⟩) len len)) (w2.alloc (.cells cells e)):=by
    intro z cells hzero adS;have hps:(ps.map λ(i,x)=>(i,a.eval x)).toList=ps.toList.map λp=>(p.1,a.eval p.2):=(by simp);rw[hps,<- hes]at adS;have hnil:Ih g dp ((nG (len*oD P T)).map (z.cells[· % z.cells.size]!)) (Vp P T len):=by
     intro q hq;rw[Vp,gX]at hq;obtain⟨ix,hix,hq⟩:=hq;rw[aG]at hq;obtain⟨r,hr,rfl⟩:=hq;rw[yJ]at hix;have hlt:=ZZ hz hu hi hzero (show(r.1,r.2)∈kD P T from hr);have hj:ix*oD P T+r.1<len*oD P T:=by have:=aH (oD P T) (show ix+1<=len from hix);rw[bJ,xC]at this;omega
     have hget:((nG (len*oD P T)).map (z.cells[· % z.cells.size]!))[ix*oD P T+r.1]? = some (z.cells[(ix*oD P T+r.1)%z.cells.size]!):=(by rw[jZ,Array.getElem?_range,aF hj];rfl);refine⟨_,hget,?_⟩;refine aaQ hz hu hi hzero rfl _ _ r.2 hget ?_;rw[pG,oM,oK hlt];exact hr
    obtain⟨hR,hsz⟩:=Lr h.fs ps.toList _ cells _ hnil adS;have h2:=h.mv (NJ w2.heap.size 0 (CE P Γ T len ps.toList));rw[OC]at h2;obtain⟨g',hrel,how⟩:=h2.acy (d:=d) (N:=N) (cs:=cells) (e:=e) (T:=T) (n:=len) (c:=len) (m:=mk d 0) hd hN (λj u T' hj htt=>by have hjl:=(bY.1 hj).1;rw[hsz]at hjl;simp only[Array.size_map,Array.size_range]at hjl;have hdiv:j/oD P T<len:=Nat.div_lt_of_lt_mul (by rw[lN];exact hjl);have:=hcov (j/oD P T) (yJ.2 hdiv) (j%oD P T,T') htt;simp only[aak,oJ,af,aK]at this;obtain⟨q,hq,e1,e2⟩:=this;obtain⟨u',hu',hg⟩:=hR.mv ht w2.heap.size 0 hq;have ej:q.1=j:=(by rw[e1,lN];exact Nat.div_add_mod j _);rw[ej]at hu' hg;rw[hj]at hu';cases hu';rw[e2,dF]at hg;exact hg)
    exact⟨g',(Rel.mv N _).trans hrel,how⟩
   have hzz:∃z,i.zero=some z:=by
    unfold yY at hz;rw[hu]at hz;simp only[hi]at hz;cases hq:i.zero with
    |none=>rw[hq]at hz;cases hz
    |some z=>exact⟨z,rfl⟩
   obtain⟨z0,hz0⟩:=hzz;have fin:∀(cells:Array Value),mg (λi'=>some (i'*i.size,i.size)) ((nG (len*i.size)).map (z0.cells[· % z0.cells.size]!)) (ps.map λ(i,x)=>(i,a.eval x)).toList=some cells ->
    (do pure (vz (some (<- newRow e cells)) len len):Sem Value).run P w2 = .ok v w'->∃g',Rel dp N g g'/\OW P F g' dp (.ref d ⟨0,T,mk d 0⟩::(Γ.filter (x9 (H8 (CE P Γ T len ps.toList)))).filter (Ar d)) (a.put (some d) v) w':=by
    intro cells hf hrun;obtain⟨p,w9,h9,k9⟩:=bM hrun;unfold newRow at h9;obtain⟨q,w10,h10,h11⟩:=bM h9;rw[run_newObj]at h10;cases h10;obtain⟨rfl,rfl⟩:=eY h11;obtain⟨rfl,rfl⟩:=eY k9;exact key z0 cells hz0 hf
   split at k2
   ·rename_i hl0;obtain⟨z,w7,h7,k7⟩:=bM k2;obtain⟨rfl,rfl⟩:=eY h7;split at k7
    ·rename_i cells hf;refine fin cells ?_ k7;rw[hl0]at hf⊢;simpa[Array.range_zero']using hf
    ·cases k7
   ·obtain⟨z,w7,h7,k7⟩:=bM k2;obtain⟨⟨i2,hi2,hzero⟩,rfl⟩:=Ib h7;rw[hi]at hi2;cases hi2;rw[hz0]at hzero;cases hzero;obtain⟨z',w8,h8,k8⟩:=bM k7;obtain⟨rfl,rfl⟩:=eY h8;split at k8
    ·rename_i cells hf;exact fin cells hf k8
    ·cases k8
 ·cases k1
end
end
section
def QL (P:Program)(Γ : List OF)(T o size:Nat)(x:Operand):Bool:=
 Np (yC Γ 0 size x)&&(kD P T).all (λe=> !(decide (o<=e.1)&&decide (e.1<o+size))||aak (yC Γ 0 size x) (e.1-o) e.2)&&decide (o+size<=oD P T)
def RV (b o k:Nat):OF->Bool
 |.row b' r=>b'==b&&decide (o<=r.off)&&decide (r.off<o+k)
 |_=>false
def VM (Γ : List OF)(b o size:Nat)(x:Operand):List OF:=(rowOf 0 (yC Γ o size x)).map (.row b)
section
variable {P:Program} {F:Jk} {g:Own} {dp:Nat} {Γ : List OF} {a:Act} {w w':World} {d N:Nat} {v:Value}
theorem Na {o:Oper}{t:TypeId}{p x:Operand}{r:Next}(ho:o.op = .store t p x)(hr:(execOp a.eval o).run P w = .ok r w'):∃i,P.info? t=some i/\(a.eval x).cells.size=i.size:=by
 simp only[execOp,ho]at hr;obtain⟨_,w1,h1,_⟩:=bM hr;unfold Go.Instr.storeAt at h1;obtain⟨q,w2,h2,h3⟩:=bM h1;obtain⟨_,rfl⟩:=KG h2;unfold storeVar at h3;obtain⟨k,w3,h4,h5⟩:=bM h3;obtain⟨i,hi,rfl,rfl⟩:=yg h4
 dsimp only at h5
 split at h5
 ·obtain⟨_,_,h6,_⟩:=bM h5;cases h6
 ·rename_i hne;exact⟨i,hi,Decidable.not_not.1 hne⟩
theorem Aw {cs:Array Value}{off:Nat}{vs:Array Value}(hfit:off+vs.size<=cs.size)(j:Nat):(splice cs.toList off vs.toList).toArray[j]? = if j<off then cs[j]? else if j<off+vs.size then vs[j-off]? else cs[j]?:=by rw[jY,kR _ _ _ _ (by simpa using hfit)];simp
theorem Y1 (h:OW P F g dp Γ a w){o:Oper}{t:TypeId}{p:Nat}{x:Operand}{T off:Nat}{i:TypeInfo}(ho:o.op = .store t (.tmp p) x){r:Next}(hr:(execOp a.eval o).run P w = .ok r w')(he:Eff o a w w')(hi:P.info? t=some i)(hp : .ep p T off ∈ Γ)(hok:QL P Γ T off i.size x=true) :
 ∃g',Rel dp N g g'/\OW P F g' dp (Γ.filter (x9 (H8 (yC Γ 0 i.size x)))) a w':=by
 obtain⟨k,ad,cs,e,hpv,hw,hfit,rfl⟩:=he.store _ _ _ ho;obtain⟨i',hi',hsz⟩:=Na ho hr;rw[hi]at hi';cases hi';simp only[QL,af,aB,ak]at hok;obtain⟨⟨ht,hcov⟩,hle⟩:=hok;obtain⟨k',o',hq,_,hB⟩:=h.fs _ hp;have e1:a.eval (.tmp p)=a.tmps.getD p undef:=rfl;rw[e1,hq]at hpv;cases hpv;have h2:=h.mv (NJ k ad (yC Γ 0 i.size x));rw[OC]at h2;refine⟨_,Rel.mv N _,h2.QE hw λB hB'=>?_⟩;cases B with
 | var row d b=>obtain⟨row0,h3,_⟩:=Qy hB';obtain⟨⟨p0,e0⟩,_⟩:=hB _ h3;cases e0
 | arr T' p'=>
   obtain⟨q,h3,_,rfl⟩:=Qx hB';obtain⟨⟨p0,e0⟩,hmod⟩:=hB _ h3;cases e0;refine⟨_,_,rfl,λj u T' hjb hj htt=>?_⟩;rw[Aw hfit]at hj;by_cases hj1:j<ad
   ·rw[aF hj1]at hj;obtain⟨cs',e',hw',hold⟩:=h2.good.arr _ _ _ hB';rw[hw]at hw';cases hw';exact hold j u T' hjb hj htt
   ·rw[aj hj1]at hj;by_cases hj2:j<ad+(a.eval x).cells.size
    ·rw[aF hj2]at hj;have hm:j%oD P T=off+(j-ad):=by
      have:j=ad+(j-ad):=(by omega);rw[this,qw,hmod,qw,AL,<- qw];rw[oK aQ];omega
     rw[hm]at htt;have:=hcov _ htt;simp only[eX,gG,mM,bH]at this;have hh:aak (yC Γ 0 i.size x) (off+(j-ad)-off) T'=true:=by
      rcases this with(h5|h5)|h5
      ·omega
      ·omega
      ·exact h5
     simp only[aak,oJ,af,aK]at hh;obtain⟨en,hen,e4,e5⟩:=hh;obtain⟨u',hu',hg⟩:=(ab3 h (x:=x) (size:=i.size)).mv ht k ad hen;have e6:en.1=j-ad:=(by omega);rw[e6]at hu' hg;rw[hj]at hu';cases hu';rw[e5,show ad+(j-ad)=j by omega]at hg;exact hg
    ·rw[aj hj2]at hj;obtain⟨cs',e',hw',hold⟩:=h2.good.arr _ _ _ hB';rw[hw]at hw';cases hw';exact hold j u T' hjb hj htt
theorem Y2 (h:OW P F g dp Γ a w){o:Oper}{t:TypeId}{p:Nat}{x:Operand}{b off:Nat}{i:TypeInfo}(ho:o.op = .store t (.tmp p) x){r:Next}(hr:(execOp a.eval o).run P w = .ok r w')(he:Eff o a w w')(hi:P.info? t=some i)(hp : .vp p b off ∈ Γ) :
 ∃g',Rel dp N g g'/\OW P F g' dp (VM Γ b off i.size x ++ Γ.filter (λf=> !RV b off i.size f)) a w':=by
 obtain⟨k,ad,cs,e,hpv,hw,hfit,rfl⟩:=he.store _ _ _ ho;obtain⟨i',hi',hsz⟩:=Na ho hr;rw[hi]at hi';cases hi';obtain⟨k',row,hb,hq,hg⟩:=h.fs _ hp;have e1:a.eval (.tmp p)=a.tmps.getD p undef:=rfl;rw[e1,hq]at hpv;cases hpv;have hnew:∀r,r∈rowOf 0 (yC Γ off i.size x)->∃u,(splice cs.toList off (a.eval x).cells.toList).toArray[r.off]? = some u/\GR g u r.ty (.tag dp r.m):=by
  intro r hr;rw[rowOf,aG]at hr;obtain⟨en,hen,rfl⟩:=hr;unfold yC at hen;split at hen
  ·rename_i s;rw[bK]at hen;obtain⟨f,hf,hen⟩:=hen;split at hen
   ·split at hen
    ·rename_i y r hc;cases hen;obtain⟨rfl,hlt⟩:=hc;obtain⟨u,hu,hgr⟩:=h.fs _ hf;refine⟨u,?_,hgr⟩
     dsimp only
     have e2:a.eval (.tmp y)=a.tmps.getD y undef:=rfl;rw[Aw hfit,aj aQ,aF aQ,show off+r.off-off=r.off by omega,e2];exact hu
    ·cases hen
   ·cases hen
  ·cases hen
 have hrow:∀r,r∈rowOf 0 (yC Γ off i.size x)++row.filter (λr=> !(decide (off<=r.off)&&decide (r.off<off+i.size)))->∃u,(splice cs.toList off (a.eval x).cells.toList).toArray[r.off]? = some u/\GR g u r.ty (.tag dp r.m):=by
  intro r hr;rw[bg]at hr;rcases hr with hr|hr
  ·exact hnew r hr
  ·rw[aC]at hr;obtain⟨h3,h4⟩:=hr;obtain⟨cs',e',hw',hold⟩:=h.good.var _ _ _ _ hg;rw[hw]at hw';cases hw';obtain⟨u,hu,hgr⟩:=hold r h3;refine⟨u,?_,hgr⟩;simp only[gG,mM,bH]at h4;rw[Aw hfit];by_cases h5:r.off<off
   ·rw[aF h5];exact hu
   ·rw[aj h5,aj (by rcases h4 with h4|h4<;>omega)];exact hu
 have h3:=h.setVar (cs':=(splice cs.toList off (a.eval x).cells.toList).toArray) hw hg hrow (uA:= Γ.filter (λf=> !RV b off i.size f)) (λf hf=>by
  rw[aC]at hf;refine⟨hf.1,λr hr=>?_⟩;subst hr;obtain⟨k2,EY,e2,e3,e4⟩:=h.fs _ hf.1;rw[hb]at e2;cases e2;rw[hg]at e3;cases e3;rw[bg]
  right
  rw[aC];refine⟨e4,?_⟩;have:=hf.2;simpa[RV]using this)
 refine⟨_,Rel.setVar hg,h3.good,λf hf=>?_⟩;rw[bg]at hf;rcases hf with hf|hf
 ·rw[VM,aG]at hf;obtain⟨r,hr,rfl⟩:=hf;exact⟨k,_,hb,aF rfl,bF _ hr⟩
 ·exact h3.fs f hf
end
end
section
section
variable {P:Program} {F:Jk} {g:Own} {dp:Nat} {Γ : List OF} {a:Act} {w w':World} {d N:Nat} {v:Value}
theorem Vh {k o:Nat}{cs:Array Value}{e:TypeId}{fr:Nat×Nat}(hw:w.heap[k]? = some (.cells cs e fr))(h:(load ⟨k,o,none⟩).run P w = .ok v w'):w'=w/\cs[o]? = some v:=by
 rw[run_load]at h;cases hc:w.cell? ⟨k,o,none⟩with
 | some u=>rw[hc]at h;cases h;refine⟨rfl,?_⟩;simpa[dY,hw]using hc
 | none=>rw[hc]at h;simp only[World.farLoad,hw]at h;cases h
theorem Eg {k o:Nat}{cs:Array Value}{e:TypeId}{fr:Nat×Nat} : ∀(n i:Nat) (acc:Array Value) (w:World) (r:Array Value) (w':World),w.heap[k]? = some (.cells cs e fr)->(loadCellsFrom ⟨k,o,none⟩ i n acc).run P w = .ok r w' ->
 w'=w/\r.size=acc.size+n/\(∀j,j<acc.size->r[j]? = acc[j]?)/\∀j,j<n->∃u,cs[o+i+j]? = some u/\r[acc.size+j]? = some u
 | 0,i,acc,w,r,w',hw,h=>by unfold loadCellsFrom at h;obtain⟨rfl,rfl⟩:=eY h;exact⟨rfl,rfl,λ_ _=>rfl,λj hj=>dO hj (Nat.not_lt_zero _)⟩
 | n+1,i,acc,w,r,w',hw,h=>by
   unfold loadCellsFrom at h;obtain⟨v,w1,h1,h2⟩:=bM h;rw[Addr.mD]at h1;obtain⟨rfl,hv⟩:=Vh hw h1;obtain⟨h3,h4,h5,h6⟩:=Eg n (i+1) (acc.push v) _ r w' hw h2;refine⟨h3,by rw[h4];simp;omega,λj hj=>?_,λj hj=>?_⟩
   ·rw[h5 j (by simp;omega),Array.getElem?_push,aj aQ]
   ·cases j with
    | zero=>refine⟨v,hv,?_⟩;have:=h5 acc.size kY;simpa using this
    | succ j=>obtain⟨u,h7,h8⟩:=h6 j aQ;simp only[Array.size_push]at h8;exact⟨u,by rw[show o+i+(j+1)=o+(i+1)+j by omega];exact h7,by rw[show acc.size+(j+1)=acc.size+1+j by omega];exact h8⟩
theorem D8 {size n m c:Nat}{k:Nat}{cs:Array Value}{e:TypeId}{fr:Nat×Nat}{r:Array Value}(hw:w.heap[k]? = some (.cells cs e fr))(h:(dZ size n (.slice (some ⟨k,0,none⟩) m c)).run P w = .ok r w') :
 w'=w/\r.size=n*size/\∀(j:Nat) (u:Value),r[j]? = some u->cs[j]? = some u:=by
 unfold dZ loadCells at h;obtain⟨h1,h2,_,h4⟩:=Eg _ _ _ _ _ _ hw h;simp only[kQ,lF,dF]at h2 h4;refine⟨h1,h2,λj u hj=>?_⟩;have hlt:=(bY.1 hj).1;rw[h2]at hlt;obtain⟨u',h5,h6⟩:=h4 j hlt;rw[hj]at h6;cases h6;simpa using h5
theorem TL {k o:Nat}{cs:Array Value}{e:TypeId}{u:Unit}(hw:w.heap[k]? = some (.cells cs e (0,0)))(h:(store ⟨k,o,none⟩ v).run P w = .ok u w'):v.oneCell'=true/\o<cs.size:=by
 have hone:v.oneCell'=true:=by cases v<;>first|rfl|(exfalso;simp[store,Sem.run]at h;done)
 refine⟨hone,?_⟩;rw[run_store P w _ _ _ hone]at h;cases hc:w.cell? ⟨k,o,none⟩with
 | some u=>simp only[dY,hw]at hc;exact(bY.1 (by simpa using hc)).1
 | none=>rw[hc]at h;simp only[World.farStore,hw]at h;cases h
theorem Ez {k o:Nat}{cs:Array Value}{e:TypeId}{vs:List Value}{u:Unit}(hw:w.heap[k]? = some (.cells cs e (0,0)))(h:(storeCells ⟨k,o,none⟩ vs).run P w = .ok u w')(hn:vs≠[]) :
 o+vs.length<=cs.size/\w'=w.setRow k (splice cs.toList o vs).toArray:=by
 have key:∀(vs:List Value) (i:Nat) (cs:Array Value) (w w':World),w.heap[k]? = some (.cells cs e (0,0))->(storeCells ⟨k,o,none⟩ vs i).run P w = .ok u w'->(∀v,v∈vs->v.oneCell'=true)/\(vs≠[]->o+i+vs.length<=cs.size):=by
  intro vs
  induction vs with
  |nil=>intro i cs w w' _ _;exact⟨λv hv=>(by cases hv),λh=>dO rfl h⟩
  | cons v r ih=>
    intro i cs w w' hw h;unfold storeCells at h;obtain⟨u1,w1,h1,h2⟩:=bM h;rw[Addr.mD]at h1;obtain⟨hone,hlt⟩:=TL hw h1;have hst:=run_storeCells_at P k o e [v] i cs w hw (by simp;omega) (by simpa using hone);unfold storeCells at hst;rw[bC,Addr.mD,h1]at hst;simp only[aO,storeCells,aZ]at hst;cases hst;have hw1:=setRow_heap w k cs (cs.toList.take (o+i)++[v]++cs.toList.drop (o+i+1)).toArray e (0,0) hw;obtain⟨h3,h4⟩:=ih (i+1) _ _ w' hw1 h2;refine⟨λx hx=>(au.1 hx).elim (λe=>e▸hone) (λhx=>h3 x hx),λ_=>?_⟩;by_cases hr:r=[]
    ·subst hr;simp;omega
    ·have:=h4 hr;simp only[kQ,List.length_append,List.length_take,List.length_drop,jU,lF,fE]at this;simp only[jU];omega
 obtain⟨h1,h2⟩:=key vs 0 cs w w' hw h;have h3:=h2 hn;have hst:=run_storeCells_at P k o e vs 0 cs w hw h3 h1;rw[h]at hst;cases hst;exact⟨by simpa using h3,by rw[rY]⟩
end
end
section
def DK (dp ms md:Nat)(ks kx:Option Nat)(k off:Nat):rC->rC
 |.blk b j=>if some b=ks then .blk k j else if some b=kx then .blk k (off+j)else .blk b j
 |.tag d m=>if d=dp/\m=ms then .tag dp md else .tag d m
 |.dead=>.dead
def Gn (dp:Nat)(ms:List Nat):rC->Bool
 |.tag d m=>decide (d=dp)&&ms.contains m
 |_=>false
section
variable {P:Program} {F:Jk} {g:Own} {dp:Nat} {Γ : List OF} {a:Act} {w w':World} {d N:Nat} {v:Value}
theorem OW.ap (h:OW P F g dp Γ a w){ms md:Nat}{dr:List Nat}{ks kx:Option Nat}{k off:Nat}(hs:∀b,ks=some b->∃T m,g b=some (.arr T (.tag dp m))/\m∈dr)(hx:∀b,kx=some b->∃T m,g b=some (.arr T (.tag dp m))/\m∈dr) :
 OW P F (g.re (Gn dp dr) (DK dp ms md ks kx k off)) dp (Γ.filter (x9 (ms::dr))) a w:=by
 refine⟨h.good.re λb T p hb hp j=>⟨rfl,?_⟩,λf hf=>?_⟩
 ·have no:∀c:Option Nat,(∀b,c=some b->∃T m,g b=some (.arr T (.tag dp m))/\m∈dr)->¬some b=c:=by
   intro c hc e;obtain⟨T',m,h1,h2⟩:=hc b e.symm;rw[hb]at h1;cases h1;simp[Gn,h2]at hp
  simp only[DK];rw[aj (no ks hs),aj (no kx hx)]
 ·rw[aC]at hf;refine(h.fs f hf.1).re λm hm=>?_;have h1:=hf.2;simp only[x9,hm,gG,rM,au,bH,not_or]at h1;refine⟨by simp[Gn,h1.2],?_⟩;simp only[DK];rw[aj (λe=>h1.1 e.2)]
theorem Rel.ap {ms md:Nat}{dr:List Nat}{ks kx:Option Nat}{k off:Nat} : Rel dp N g (g.re (Gn dp dr) (DK dp ms md ks kx k off)):=
 Rel.re λd m hd=>⟨by simp only[Gn,mM,bH];left;omega,by simp only[DK];rw[aj aQ]⟩
def apX (P:Program)(Γ : List OF)(T:Nat)(x:Operand):Option (List Nat):=
 if(kD P T).isEmpty then some []else match x with
 |.tmp s=>(Γ.filterMap λf=>match f with|.ref y r=>if y=s/\r.off=0/\r.ty=T then some [r.m]else none|_=>none).head?
 |_=>none
theorem Us (h:OW P F g dp Γ a w){T:Nat}{x:Operand}{ms:List Nat}(hx:apX P Γ T x=some ms):(kD P T=[]/\ms=[])\/∃m u,ms=[m]/\(a.eval x).cells[0]? = some u/\GR g u T (.tag dp m):=by
 unfold apX at hx;split at hx
 ·rename_i he;cases hx;exact .inl ⟨Cj.1 he,rfl⟩
 ·split at hx
  ·rename_i s;have:=jO hx;rw[bK]at this;obtain⟨f,hf,hm⟩:=this;split at hm
   ·split at hm
    ·rename_i y r hc;obtain⟨rfl,h0,rfl⟩:=hc;cases hm;obtain⟨u,hu,hg⟩:=h.fs _ hf;rw[h0]at hu;exact .inr ⟨r.m,u,rfl,hu,hg⟩
    ·cases hm
   ·cases hm
  ·cases hx
def apS (Γ : List OF)(T s:Nat):Option Nat:=(Γ.filterMap λf=>match f with|.ref y r=>if y=s/\r.off=0/\r.ty=T then some r.m else none|_=>none).head?
theorem ZA (h:OW P F g dp Γ a w){T s m:Nat}(hx:apS Γ T s=some m):∃u,(a.tmps.getD s undef).cells[0]? = some u/\GR g u T (.tag dp m):=by
 have:=jO hx;rw[bK]at this;obtain⟨f,hf,hm⟩:=this;split at hm
 ·split at hm
  ·rename_i y r hc;obtain⟨rfl,h0,rfl⟩:=hc;cases hm;obtain⟨u,hu,hg⟩:=h.fs _ hf;rw[h0]at hu;exact⟨u,hu,hg⟩
  ·cases hm
 ·cases hm
theorem Ep {b:Option Addr}{n c:Nat}{u:Value}(h:(vz b n c).cells[0]? = some u):u = .slice b n c:=by simpa[jD]using h.symm
def aeg (P:Program)(Γ : List OF)(T s:Nat)(x:Operand):Option (Nat×List Nat):=match apS Γ T s,apX P Γ T x with
 |some m,some ms=>if ms.contains m || !yY P T then none else some (m,ms)
 |_,_=>none
theorem D9 {size n m c:Nat}{r:Array Value}(h:(dZ size n (.slice none m c)).run P w = .ok r w'):w'=w/\r = #[]:=by unfold dZ at h;obtain⟨rfl,rfl⟩:=eY h;exact⟨rfl,rfl⟩
theorem OD (h:OW P F g dp Γ a w){T:Nat}{x:Operand}{ms:List Nat}(hx:apX P Γ T x=some ms){size n nx:Nat}{bx:Option Addr}{cx:Nat}(hxv:a.eval x = .slice bx nx cx){new:Array Value}(hn:(dZ size n (a.eval x)).run P w = .ok new w')(hsz:size=oD P T)(hnx:n<=nx) :
 ∃kx:Option Nat,(∀b,kx=some b->∃T m,g b=some (.arr T (.tag dp m))/\m∈ms)/\(∀j u T',new[j]? = some u->(j%oD P T,T')∈kD P T->∃b,kx=some b/\GR g u T' (.blk b j))/\(kD P T=[]\/new.size=n*size):=by
 rcases Us h hx with⟨he,rfl⟩|⟨m,u,rfl,hu,hg⟩
 ·exact⟨none,λb hb=>(by cases hb),λj u T' _ ht=>(by rw[he]at ht;cases ht),.inl he⟩
 ·rw[hxv]at hu hn;have:=Ep hu;subst this;rcases hg with e|⟨k,n',c',e,hk⟩
  ·cases e;obtain⟨_,rfl⟩:=D9 hn;exact⟨none,λb hb=>(by cases hb),λj u T' hj _=>(by simp at hj),.inr (by rw[Nat.le_zero.1 hnx];simp)⟩
  ·cases e;obtain⟨cs,e,hw,hc⟩:=h.good.arr _ _ _ hk.1;obtain⟨h1,h2,h3⟩:=D8 hw hn;exact⟨some k,λb hb=>(by cases hb;exact⟨T,m,hk.1,aJ ..⟩),λj u T' hj ht=>⟨k,rfl,hc j u T' (by have hlt:=(bY.1 hj).1;rw[h2,hsz]at hlt;exact fU hlt (aH _ (dh hnx hk.2))) (h3 j u hj) ht⟩,.inr h2⟩
end
end
section
section
variable {P:Program} {F:Jk} {g:Own} {dp:Nat} {Γ : List OF} {a:Act} {w w':World} {d N:Nat} {v:Value}
theorem zT {size n:Nat}{x:Value}{r:Array Value}(h:(dZ size n x).run P w = .ok r w'):w'=w:=by
 unfold dZ at h;split at h
 ·unfold loadCells at h;exact(CX _ _ _ _ _ _ h).1
 ·exact(eY h).2
 ·exact(eY h).2
 ·cases h
theorem OW.drew (h:OW P F g dp Γ a w):OW P F g dp Γ a w.drew:=h.world (aA _) λ_ _=>rfl
def Own.grow (g:Own)(k n:Nat):Own:=⟨g.b,λk'=>if k'=k then n else g.bd k'⟩
theorem GR.grow {u:Value}{T:Nat}{p:rC}{k n:Nat}(h:GR g u T p)(hn:g.bd k<=n):GR (g.grow k n) u T p:=by
 rcases h with h|⟨k',m,c,h1,h2,h3⟩
 ·exact .inl h
 ·refine .inr ⟨k',m,c,h1,h2,?_⟩;show m<=if k'=k then n else g.bd k'
  split
  ·rename_i e;subst e;exact dh h3 hn
  ·exact h3
theorem OW.grow (h:OW P F g dp Γ a w){k n T:Nat}{p:rC}{cs:Array Value}{e:TypeId}(hw:w.heap[k]? = some (.cells cs e (0,0)))(hk:g k=some (.arr T p))(hn:g.bd k<=n)
 (hc:∀j u T',j<n*oD P T->cs[j]? = some u->(j%oD P T,T')∈kD P T->GR g u T' (.blk k j)):OW P F (g.grow k n) dp Γ a w:=by
 refine⟨⟨λk' T' p' hk'=>?_,λk' row d b hk'=>?_⟩,λf hf=>?_⟩
 ·by_cases e1:k'=k
  ·subst e1;have e2:g k'=some (.arr T' p'):=hk';rw[hk]at e2;cases e2;exact⟨cs,e,hw,λj u T' hb hu ht=>(hc j u T' (by simpa[Own.grow]using hb) hu ht).grow hn⟩
  ·obtain⟨cs',e',hw',h2⟩:=h.good.arr k' T' p' hk';exact⟨cs',e',hw',λj u T' hb hu ht=>(h2 j u T' (by simpa[Own.grow,e1]using hb) hu ht).grow hn⟩
 ·obtain⟨cs',e',hw',h2⟩:=h.good.var k' row d b hk';exact⟨cs',e',hw',λr hr=>let ⟨u,hu,hg⟩:=h2 r hr;⟨u,hu,hg.grow hn⟩⟩
 ·have h0:=h.fs f hf;cases f with
  |ref t r=>obtain⟨u,h1,h2⟩:=h0;exact⟨u,h1,h2.grow hn⟩
  |xw t i r=>obtain⟨vs,x,u,h1,h2,h3,h4⟩:=h0;exact⟨vs,x,u,h1,h2,h3,h4.grow hn⟩
  |_=>exact h0
theorem Rel.grow {k n T m:Nat}(hk:g k=some (.arr T (.tag dp m))):Rel dp N g (g.grow k n):=
 ⟨λk' T' d m' hd hk'=>⟨hk',by show(if k'=k then n else g.bd k')=g.bd k';rw[aj];rintro rfl;rw[hk]at hk';cases hk';omega⟩,λ_ _ _ _ _ h=>h,(Rel.refl dp N g).old⟩
theorem acw (h:OW P F g dp Γ a w)(hd:d<a.tmps.size){T m:Nat}{ms:List Nat}(hm:m ∉ ms){s:Nat}{sLen sCap need:Nat}{base:Option Addr}(hsv:a.tmps.getD s undef = .slice base sLen sCap)(hs:GR g (.slice base sLen sCap) T (.tag dp m))
 {kx:Option Nat} {new:Array Value} (h1:∀b,kx=some b->∃T m,g b=some (.arr T (.tag dp m))/\m∈ms) (h2:∀j u T',new[j]? = some u->(j%oD P T,T')∈kD P T->∃b,kx=some b/\GR g u T' (.blk b j)) (hnd:kD P T=[]\/new.size=(need-sLen)*oD P T) (hnl:sLen<=need) (hnc:base=none->need=0/\sCap=0)
 (hst:(match base with|some a=>storeCells (a.add (sLen*oD P T)) new.toList|none=>pure ()).run P w = .ok () w') :
 ∃g',Rel dp N g g'/\OW P F g' dp (.ref d ⟨0,T,mk d 0⟩::(Γ.filter (x9 (m::ms))).filter (Ar d)) (a.put (some d) (.slice base need sCap)) w':=by
 rcases hs with e|⟨k,n',c',e,hk,hkb⟩
 ·cases e;obtain⟨rfl,_⟩:=hnc rfl;obtain⟨_,rfl⟩:=eY hst;have h3:=(h.ap (ms:=m) (md:=mk d 0) (dr:=ms) (ks:=none) (kx:=kx) (k:=0) (off:=0) (λb hb=>by cases hb) h1).drop d (.slice none 0 0);exact⟨_,Rel.ap,h3.add ⟨.slice none 0 0,by rw[dM hd];rfl,.inl rfl⟩⟩
 ·cases e
  dsimp only at hst
  rw[Addr.mD,dF]at hst;have h3:=h.ap (ms:=m) (md:=mk d 0) (dr:=ms) (ks:=none) (kx:=kx) (k:=k) (off:=sLen*oD P T) (λb hb=>by cases hb) h1;have hk':(g.re (Gn dp ms) (DK dp m (mk d 0) none kx k (sLen*oD P T))) k=some (.arr T (.tag dp (mk d 0))):=by simp[Own.re,hk,Gn,hm,DK]
  obtain⟨cs,e,hw,hc⟩:=h.good.arr _ _ _ hk;have hlim:∀j T',j<max (g.bd k) need*oD P T->(j%oD P T,T')∈kD P T->sLen*oD P T+new.size<=j->j<g.bd k*oD P T:=by
   intro j T' hj ht hge;rcases hnd with hnd|hnd
   ·rw[hnd]at ht;cases ht
   ·by_cases hm:need<=g.bd k
    ·rwa[Nat.max_eq_left hm]at hj
    ·rw[Nat.max_eq_right aQ,show need=sLen+(need-sLen) by omega,bJ]at hj;omega
  have WG:∀j u T',j<g.bd k*oD P T->cs[j]? = some u->(j%oD P T,T')∈kD P T->GR (g.re (Gn dp ms) (DK dp m (mk d 0) none kx k (sLen*oD P T))) u T' (.blk k j):=by obtain⟨cs',e',hw',hold⟩:=h3.good.arr _ _ _ hk';rw[hw]at hw';cases hw';exact hold
  have fin:∀{w'':World} {cs2:Array Value},OW P F (g.re (Gn dp ms) (DK dp m (mk d 0) none kx k (sLen*oD P T))) dp (Γ.filter (x9 (m::ms))) a w''->w''.heap[k]? = some (.cells cs2 e (0,0)) ->
   (∀j u T',j<max (g.bd k) need*oD P T->cs2[j]? = some u->(j%oD P T,T')∈kD P T->GR (g.re (Gn dp ms) (DK dp m (mk d 0) none kx k (sLen*oD P T))) u T' (.blk k j)) ->
   ∃g',Rel dp N g g'/\OW P F g' dp (.ref d ⟨0,T,mk d 0⟩::(Γ.filter (x9 (m::ms))).filter (Ar d)) (a.put (some d) (.slice (some ⟨k,0,none⟩) need sCap)) w'':=λh4 hw4 hc4=>
   ⟨_,Rel.ap.trans (Rel.grow hk'),((h4.grow hw4 hk' (Nat.le_max_left _ _) hc4).drop d _).add ⟨.slice (some ⟨k,0,none⟩) need sCap,by rw[dM hd];rfl,.inr ⟨k,_,_,rfl,hk',by
    show need<=if k=k then max (g.bd k) need else _
    rw[aF rfl];exact Nat.le_max_right _ _⟩⟩⟩
  by_cases hne:new.toList=[]
  ·rw[hne]at hst;unfold storeCells at hst;obtain⟨_,rfl⟩:=eY hst;exact fin h3 hw λj u T' hj hu ht=>(by
    have hn0:new.size=0:=(by rw[<- fE,hne];rfl);by_cases hjs:j<sLen*oD P T
    ·exact WG j u T' (fU hjs (aH _ hkb)) hu ht
    ·exact WG j u T' (hlim j T' hj ht aQ) hu ht)
  ·obtain⟨hfit,rfl⟩:=Ez hw hst hne;have key:∀j u T',j<max (g.bd k) need*oD P T->(splice cs.toList (sLen*oD P T) new.toList).toArray[j]? = some u->(j%oD P T,T')∈kD P T->GR (g.re (Gn dp ms) (DK dp m (mk d 0) none kx k (sLen*oD P T))) u T' (.blk k j):=?_
   ·refine fin (h3.QE hw λB hB=>?_) (setRow_heap w k cs _ e (0,0) hw) key;rw[hk']at hB;cases hB;exact⟨_,_,rfl,λj u T' hb=>key j u T' (fU hb (aH _ (Nat.le_max_left _ _)))⟩
   intro j u T' hjm hj ht;rw[Aw (by simpa using hfit)]at hj;by_cases hj1:j<sLen*oD P T
   ·rw[aF hj1]at hj;exact WG j u T' (fU hj1 (aH _ hkb)) hj ht
   ·rw[aj hj1]at hj;by_cases hj2:j<sLen*oD P T+new.size
    ·rw[aF hj2]at hj;have hmod:(j-sLen*oD P T)%oD P T=j%oD P T:=by
      conv=>rhs;rw[show j=(j-sLen*oD P T)+sLen*oD P T by omega]
      rw[oM]
     rw[<- hmod]at ht;obtain⟨b,rfl,hgr⟩:=h2 _ u T' hj ht;have:=hgr.re (dr:=Gn dp ms) rfl (DK dp m (mk d 0) none (some b) k (sLen*oD P T));simp only[DK,reduceCtorEq,if_false,iT]at this;rw[show sLen*oD P T+(j-sLen*oD P T)=j by omega]at this;exact this
    ·rw[aj hj2]at hj;exact WG j u T' (hlim j T' hjm ht aQ) hj ht
theorem acv (h:OW P F g dp Γ a w)(hd:d<a.tmps.size)(hN:N<=w.heap.size){T e m need newCap:Nat}{ms:List Nat}(hm:m ∉ ms){sLen sCap:Nat}{base:Option Addr}(hs:GR g (.slice base sLen sCap) T (.tag dp m))
 {kx:Option Nat} {old new rest:Array Value} (h1:∀b,kx=some b->∃T m,g b=some (.arr T (.tag dp m))/\m∈ms) (h2:∀j u T',new[j]? = some u->(j%oD P T,T')∈kD P T->∃b,kx=some b/\GR g u T' (.blk b j))
 (hold:(dZ (oD P T) sLen (.slice base sLen sCap)).run P w = .ok old w')
 (hrest:∀j u T',rest[j]? = some u->(j%oD P T,T')∈kD P T->Vq u) (aaq:kD P T=[]\/new.size=(need-sLen)*oD P T) :
 ∃g',Rel dp N g g'/\OW P F g' dp (.ref d ⟨0,T,mk d 0⟩::(Γ.filter (x9 (m::m::ms))).filter (Ar d)) (a.put (some d) (.slice (some ⟨w.heap.size,0,none⟩) need newCap)) (w.alloc (.cells (old++new++rest) e)):=by
 have hks:∃ks:Option Nat,(∀b,ks=some b->∃T m',g b=some (.arr T (.tag dp m'))/\m'∈m::ms)/\(∀j u T',old[j]? = some u->(j%oD P T,T')∈kD P T->∃b,ks=some b/\GR g u T' (.blk b j))/\old.size%oD P T=0/\(∀b,ks=some b->kx≠some b):=by
  rcases hs with e|⟨k,n',c',e,hk,hkb⟩
  ·cases e;obtain⟨_,rfl⟩:=D9 hold;exact⟨none,λb hb=>(by cases hb),λj u T' hj _=>(by simp at hj),kY,λb hb=>(by cases hb)⟩
  ·cases e;obtain⟨cs,e,hw,hc⟩:=h.good.arr _ _ _ hk;obtain⟨_,hsz,hget⟩:=D8 hw hold;refine⟨some k,λb hb=>(by cases hb;exact⟨T,m,hk,aJ ..⟩),λj u T' hj ht=>⟨k,rfl,hc j u T' (by
    have hlt:=(bY.1 hj).1;rw[hsz]at hlt;exact fU hlt (aH _ hkb)) (hget j u hj) ht⟩,by rw[hsz];simp,λb hb e=>?_⟩
   cases hb;obtain⟨T',m',h3,h4⟩:=h1 _ e;rw[hk]at h3;cases h3;exact hm h4
 obtain⟨ks,k1,k2,k3,k4⟩:=hks;have h3:=h.ap (ms:=m) (md:=mk d 0) (dr:=m::ms) (ks:=ks) (kx:=kx) (k:=w.heap.size) (off:=old.size) k1 (λb hb=>let ⟨T,m',e1,e2⟩:=h1 b hb;⟨T,m',e1,bU _ e2⟩);obtain⟨g',hrel,how⟩:=h3.acy (d:=d) (N:=N) (cs:=old++new++rest) (e:=e) (T:=T) (n:=need) (c:=newCap) (m:=mk d 0) hd hN (λj u T' hj ht=>by
  rw[uS]at hj;split at hj
  ·rename_i hlt;rw[uS]at hj;split at hj
   ·obtain⟨b,rfl,hgr⟩:=k2 j u T' hj ht;have:=hgr.re (dr:=Gn dp (m::ms)) rfl (DK dp m (mk d 0) (some b) kx w.heap.size old.size);simp only[DK,iT]at this;exact this
   ·rename_i hge;have hmod:(j-old.size)%oD P T=j%oD P T:=by
     have e1:j=(j-old.size)+old.size:=by omega
     conv=>rhs;rw[e1]
     rw[qw,k3,kG,AL]
    rw[<- hmod]at ht;obtain⟨b,rfl,hgr⟩:=h2 _ u T' hj ht;have:=hgr.re (dr:=Gn dp (m::ms)) rfl (DK dp m (mk d 0) ks (some b) w.heap.size old.size);simp only[DK,iT]at this;rw[aj (λe=>k4 b e.symm rfl),show old.size+(j-old.size)=j by omega]at this;exact this
  ·rename_i hge;rcases aaq with aaq|aaq
   ·rw[aaq]at ht;cases ht
   refine .inl (hrest _ u T' hj ?_);have e1:j=(j-(old++new).size)+(old++new).size:=(by omega);have hmod:(j-(old++new).size)%oD P T=j%oD P T:=by
    conv=>rhs;rw[e1]
    rw[qw,show(old++new).size%oD P T=0 by rw[Array.size_append,qw,k3,aaq];simp,kG,AL]
   rw[hmod];exact ht)
 exact⟨g',Rel.ap.trans hrel,how⟩
theorem UO {q:Question}{n:Nat}(h:(choose q).run P w = .ok n w'):w'=w\/w'=w.drew:=by
 unfold choose at h;simp only[Sem.run]at h;split at h
 ·cases h;exact .inl rfl
 ·cases h;exact .inr rfl
theorem Ut (h:OW P F g dp Γ a w)(hd:d<a.tmps.size)(hN:N<=w.heap.size){o:Oper}{s T t2:Nat}{x:Operand}{e2 m:Nat}{ms:List Nat}(ho:o.op = .call { callee:=.builtin .append,args:=⟨[.tmp s,x]⟩,argTypes:=⟨[T,t2]⟩ })(ht2:P.underlying t2=some (.slice e2))(hok:aeg P Γ T s x=some (m,ms))
 (hr:(execOp a.eval o).run P w = .ok (.value v) w'):∃g',Rel dp N g g'/\OW P F g' dp (.ref d ⟨0,T,mk d 0⟩::(Γ.filter (x9 (m::m::ms))).filter (Ar d)) (a.put (some d) v) w':=by
 unfold aeg at hok;split at hok
 ·rename_i m0 ms0 hs hx;split at hok
  ·cases hok
  ·rename_i hcond;cases hok;simp only[eX,rM,ak,gG,not_or,Bool.not_eq_false]at hcond;obtain⟨hm,hz⟩:=hcond;have hA:(fQ #[T,t2] o.type #[a.tmps.getD s undef,a.eval x]).run P w = .ok v w':=by
    simp only[execOp,ho,resolve,invoke,builtin,bC,aZ,aO,jC,bf,kF]at hr;have e1:a.eval (.tmp s)=a.tmps.getD s undef:=rfl;rw[e1]at hr;cases hq:(fQ #[T,t2] o.type #[a.tmps.getD s undef,a.eval x]).run P w with
    |ok v1 w1=>rw[hq]at hr;cases hr;rfl
    |halt e w1=>rw[hq]at hr;cases hr
   clear hr;obtain⟨u,hu,hgs⟩:=ZA h hs;simp only[fQ,jY,fC,gB]at hA;obtain⟨de,w1,h1,k1⟩:=bM hA;obtain⟨hut,rfl⟩:=uY h1;clear hA;split at k1
   ·rename_i elem;split at k1
    ·rename_i base sLen sCap hsv;obtain⟨size,w2,h2,k2⟩:=bM k1;obtain⟨i,hi,rfl,rfl⟩:=yg h2;clear k1;have hes:=UX hut hi;obtain⟨de2,w3,h3,k3⟩:=bM k2;obtain⟨hu2,rfl⟩:=uY h3;rw[ht2]at hu2;cases hu2;clear k2;obtain⟨zeros,w4,h4,k4⟩:=bM k3;obtain⟨rfl,rfl⟩:=eY h4;clear k3;simp only[Bool.false_eq_true,if_false,Bool.not_false,iT]at k4;obtain⟨n,w5,h5,k5⟩:=bM k4;clear k4;rw[hsv]at hu;have hus:=Ep hu;subst hus;have hlx:w5=w4/\((∃bx cx,a.eval x = .slice bx n cx)\/∃st,a.eval x = .string st):=by
      unfold lU at h5;split at h5
      ·rename_i b n' c heq;obtain⟨rfl,rfl⟩:=eY h5;exact⟨rfl,.inl ⟨_,_,heq⟩⟩
      ·rename_i st heq;obtain⟨rfl,rfl⟩:=eY h5;exact⟨rfl,.inr ⟨_,heq⟩⟩
      ·cases h5
     obtain⟨rfl,hxs⟩:=hlx;have hnc:∀{new:Array Value} {wn:World},(dZ i.size n (a.eval x)).run P w5 = .ok new wn->∃kx:Option Nat,(∀b,kx=some b->∃T m,g b=some (.arr T (.tag dp m))/\m∈ms)/\(∀(j:Nat) (u:Value) (T':Nat),new[j]? = some u->(j%oD P T,T')∈kD P T->∃b,kx=some b/\GR g u T' (.blk b j))/\(kD P T=[]\/new.size=n*i.size):=by
      intro new wn hn;rcases hxs with⟨bx,cx,hxv⟩|⟨st,hxv⟩
      ·exact OD h hx hxv hn hes.symm (aA _)
      ·rcases Us h hx with⟨he,rfl⟩|⟨m2,u2,rfl,hu2,hg2⟩
       ·exact⟨none,λb hb=>(by cases hb),λj u T' _ ht=>(by rw[he]at ht;cases ht),.inl he⟩
       ·rw[hxv]at hu2;simp only[jD]at hu2;have:u2 = .string st:=(by simpa using hu2.symm);subst this;rcases hg2 with e|⟨_,_,_,e,_⟩<;>cases e
     split at k5
     ·rename_i hcap;obtain⟨new,w6,h6,k6⟩:=bM k5;have e6:=zT h6;subst e6;obtain⟨kx,c1,c2,c3⟩:=hnc h6;have hroom:=acw (N:=N) h hd (need:=sLen+n) hm hsv hgs c1 c2 (w':=w') (by rw[Nat.add_sub_cancel_left,hes];exact c3) aQ (λhb=>by
       subst hb;rcases hgs with e|⟨_,_,_,e,_⟩
       ·cases e;exact⟨aQ,rfl⟩
       ·cases e)
      cases base with
      | none=>
        dsimp only at k6
        obtain⟨rfl,rfl⟩:=eY k6;obtain⟨g',r1,r2⟩:=hroom (by dsimp only;rfl);refine⟨g',r1,r2.weak λf hf=>?_⟩;simp only[au,aC]at hf⊢;rcases hf with hf|⟨⟨h7,h8⟩,h9⟩
        ·exact .inl hf
        ·refine .inr ⟨⟨h7,?_⟩,h9⟩;unfold x9 at h8⊢;split<;>simp_all
      | some ad=>
        dsimp only at k6
        obtain⟨u0,w7,h7,k7⟩:=bM k6;obtain⟨rfl,rfl⟩:=eY k7;rw[<- hes]at h7;obtain⟨g',r1,r2⟩:=hroom (by cases u0;exact h7);refine⟨g',r1,r2.weak λf hf=>?_⟩;simp only[au,aC]at hf⊢;rcases hf with hf|⟨⟨h7,h8⟩,h9⟩
        ·exact .inl hf
        ·refine .inr ⟨⟨h7,?_⟩,h9⟩;unfold x9 at h8⊢;split<;>simp_all
     ·obtain⟨i1,w6,h6,k6⟩:=bM k5;obtain⟨_,rfl⟩:=BR h6;clear k5;split at k6
      ·obtain⟨_,_,h7,_⟩:=bM k6;exact(Ej h7).elim
      ·obtain⟨i2,w7,h7,k7⟩:=bM k6;obtain⟨_,rfl⟩:=BR h7;clear k6;split at k7
       ·obtain⟨_,_,h8,_⟩:=bM k7;obtain⟨_,_,_,h9⟩:=bM h8;split at h9
        ·obtain⟨_,_,_,h10⟩:=bM h9;cases h10
        ·cases h9
       ·obtain⟨newCap,w8,h8,k8⟩:=bM k7;have how:OW P F g dp Γ a w8/\w8.heap=w7.heap:=by
         rcases UO h8 with rfl|rfl
         ·exact⟨h,rfl⟩
         ·exact⟨h.drew,rfl⟩
        obtain⟨h',hheap⟩:=how;obtain⟨i3,w9,h9,k9⟩:=bM k8;obtain⟨_,rfl⟩:=BR h9;obtain⟨_,w10,h10,k10⟩:=bM k9;have:=V7 h10;subst this;obtain⟨old,w11,h11,k11⟩:=bM k10;have:=zT h11;subst this;obtain⟨new,w12,h12,k12⟩:=bM k11;have:=zT h12;subst this;obtain⟨z,w13,h13,k13⟩:=bM k12;obtain⟨⟨i4,hi4,hzero⟩,rfl⟩:=Ib h13;rw[hi]at hi4;cases hi4;obtain⟨p,w14,h14,k14⟩:=bM k13;unfold newRow at h14;obtain⟨q,w15,h15,h16⟩:=bM h14;rw[run_newObj]at h15;cases h15;obtain⟨rfl,rfl⟩:=eY h16;obtain⟨rfl,rfl⟩:=eY k14;have hnc':∃kx:Option Nat,(∀b,kx=some b->∃T m,g b=some (.arr T (.tag dp m))/\m∈ms)/\(∀(j:Nat) (u:Value) (T':Nat),new[j]? = some u->(j%oD P T,T')∈kD P T->∃b,kx=some b/\GR g u T' (.blk b j))/\(kD P T=[]\/new.size=n*i.size):=by
         rcases hxs with⟨bx,cx,hxv⟩|⟨st,hxv⟩
         ·exact OD h' hx hxv h12 hes.symm (aA _)
         ·rcases Us h' hx with⟨he,rfl⟩|⟨m2,u2,rfl,hu2,hg2⟩
          ·exact⟨none,λb hb=>(by cases hb),λj u T' _ ht=>(by rw[he]at ht;cases ht),.inl he⟩
          ·rw[hxv]at hu2;simp only[jD]at hu2;have:u2 = .string st:=(by simpa using hu2.symm);subst this;rcases hg2 with e|⟨_,_,_,e,_⟩<;>cases e
        obtain⟨kx,c1,c2,c3⟩:=hnc';rw[hsv,<- hes]at h11;rw[<- hes]at c3;exact acv h' hd (by rw[hheap];exact hN) hm hgs c1 c2 h11 (λj u T' hj ht=>BB hz hut hi hzero (λj u hj=>by simp only[Go.Builtin.zeroCells]at hj;rw[jZ]at hj;simp only[aU]at hj;obtain⟨j',hj',rfl⟩:=hj;have:=bY.1 hj';simp at this;rw[this.2]) j u T' hj ht) (by rw[Nat.add_sub_cancel_left];exact c3)
    ·cases k1
   ·cases k1
 ·cases hok
end
end
section
section
variable {P:Program} {F:Jk} {g:Own} {dp:Nat} {Γ : List OF} {a:Act} {w w':World} {d N:Nat} {v:Value}
theorem ZO (h:OW P F g dp Γ a w){o:Oper}{s T t2:Nat}{x:Operand}{m:Nat}(ho:o.op = .call { callee:=.builtin .copy,args:=⟨[.tmp s,x]⟩,argTypes:=⟨[T,t2]⟩ })(hs:apS Γ T s=some m)(he:kD P T=[])
 (hr:(execOp a.eval o).run P w = .ok (.value v) w'):OW P F g dp Γ a w':=by
 have hA:(je #[T,t2] o.type #[a.tmps.getD s undef,a.eval x]).run P w = .ok v w':=by
  simp only[execOp,ho,resolve,invoke,builtin,bC,aZ,aO,jC,bf,kF]at hr;have e1:a.eval (.tmp s)=a.tmps.getD s undef:=rfl;rw[e1]at hr;cases hq:(je #[T,t2] o.type #[a.tmps.getD s undef,a.eval x]).run P w with
  |ok v1 w1=>rw[hq]at hr;cases hr;rfl
  |halt e w1=>rw[hq]at hr;cases hr
 clear hr;obtain⟨u,hu,hgs⟩:=ZA h hs;simp only[je,jY,fC,gB]at hA;obtain⟨de,w1,h1,k1⟩:=bM hA;obtain⟨hut,rfl⟩:=uY h1;clear hA;split at k1
 ·rename_i elem;split at k1
  ·rename_i base dLen dCap hsv;rw[hsv]at hu;have hus:=Ep hu;subst hus;obtain⟨n,w2,h2,k2⟩:=bM k1;have:w2=w1:=by
    unfold lU at h2;split at h2
    ·exact(eY h2).2
    ·exact(eY h2).2
    ·cases h2
   subst this;obtain⟨sz,w3,h3,k3⟩:=bM k2;obtain⟨i,hi,rfl,rfl⟩:=yg h3;obtain⟨cells,w4,h4,k4⟩:=bM k3;have:=zT h4;subst this;clear k1 k2 k3;rcases hgs with e|⟨k,n',c',e,hk,_⟩
   ·cases e
    dsimp only at k4
    obtain⟨_,rfl⟩:=eY k4;exact h
   ·cases e
    dsimp only at k4
    obtain⟨u0,w5,h5,k5⟩:=bM k4;obtain⟨_,rfl⟩:=eY k5;obtain⟨cs,e,hw,hc⟩:=h.good.arr _ _ _ hk;by_cases hne:cells.toList=[]
    ·rw[hne]at h5;unfold storeCells at h5;obtain⟨_,rfl⟩:=eY h5;exact h
    ·obtain⟨_,rfl⟩:=Ez hw h5 hne;refine h.QE hw λB hB=>?_;rw[hk]at hB;cases hB;exact⟨_,_,rfl,λj u T' _ _ ht=>by rw[he]at ht;cases ht⟩
  ·cases k1
 ·cases k1
end
structure OR where
 kill:List Nat
 rm:Option (Nat×Nat×Nat)
 new:List OF
def WJ (d:Option Nat)(R:OR)(f:OF):Bool:=x9 R.kill f&&(match R.rm with|some (b,o,k)=> !RV b o k f|none=>true)&&(match d with|some d=>Ar d f|none=>true)
def Xa (Γ : List OF)(d:Option Nat)(R:OR):List OF:=R.new ++ Γ.filter (WJ d R)
def VR (p:Nat):OF->Option (Nat×Nat)
 |.vp x b o=>if x=p then some (b,o)else none
 |_=>none
def af1 (p:Nat):OF->Option (Nat×Nat)
 |.ep x T o=>if x=p then some (T,o)else none
 |_=>none
def agH (P:Program)(Γ : List OF)(t p:Nat)(x:Operand):Option OR:=match P.info? t with
 | some i=>(match(Γ.filterMap (VR p)).head? with
   |some (b,o)=>some ⟨[],some (b,o,i.size),VM Γ b o i.size x⟩
   | none=>(match(Γ.filterMap (af1 p)).head? with
     |some (T,o)=>if QL P Γ T o i.size x then some ⟨H8 (yC Γ 0 i.size x),none,[]⟩else none
     |none=>none))
 |none=>none
def agF (P:Program)(Γ : List OF)(d T s t2:Nat)(x:Operand):Option OR:=match P.underlying t2,aeg P Γ T s x with
 |some (.slice _),some (m,ms)=>some ⟨m::m::ms,none,[.ref d ⟨0,T,mk d 0⟩]⟩
 |_,_=>none
def agG (P:Program)(Γ : List OF)(T s:Nat):Option OR:=match apS Γ T s with
 |some _=>if(kD P T).isEmpty then some ⟨[],none,[]⟩else none
 |none=>none
def aba (P:Program)(Γ : List OF)(d:Option Nat)(op:Op):Option OR:=match op,d with
 |.store t (.tmp p) x,none=>agH P Γ t p x
 |.alloc t,some d=>some ⟨[],none,QS d (rowOf d (Ku P t))⟩
 |.box _ x,some d=>some ⟨[],none,QS d (rowOf d (yC Γ 0 1000 x))⟩
 |.build t ps,some d=>some ⟨[],none,(rowOf d (Py P Γ t ps.toList)).map (.ref d)⟩
 |.makeSlice T _ _,some d=>if yY P T then some ⟨[],none,[.ref d ⟨0,T,mk d 0⟩]⟩else none
 |.buildSlice T len ps,some d=>if KL P Γ T len ps.toList then some ⟨H8 (CE P Γ T len ps.toList),none,[.ref d ⟨0,T,mk d 0⟩]⟩else none
 |.call { callee:=.builtin .append,args:=⟨[.tmp s,x]⟩,argTypes:=⟨[T,t2]⟩ },some d=>agF P Γ d T s t2 x
 |.call { callee:=.builtin .copy,args:=⟨[.tmp s,_]⟩,argTypes:=⟨[T,_]⟩ },_=>agG P Γ T s
 |op,some d=>if vP op then some ⟨[],none,oq P Γ d op⟩else none
 |_,none=>none
section
variable {P:Program} {F:Jk} {g:Own} {dp:Nat} {Γ : List OF} {a:Act} {w w':World} {N:Nat} {v:Value}
theorem uV {d:Option Nat}{R:OR}{f:OF} : f∈Xa Γ d R<->f∈R.new\/f ∈ Γ /\ WJ d R f=true:=by simp[Xa,aC]
theorem SY (h:OW P F g dp Γ a w)(hN:N<=w.heap.size){o:Oper}{R:OR}(hd:∀d,o.dst=some d->d<a.tmps.size)(hs:aba P Γ o.dst o.op=some R)
 (hr:(execOp a.eval o).run P w = .ok (.value v) w'\/(execOp a.eval o).run P w = .ok .skip w'/\o.dst=none) (he:Eff o a w w') :
 ∃g',Rel dp N g g'/\OW P F g' dp (Xa Γ o.dst R) (a.put o.dst v) w':=by
 have kp:∀{d:Option Nat} {R:OR} {f:OF},WJ d R f=true->x9 R.kill f=true/\(∀b o k,R.rm=some (b,o,k)->RV b o k f=false)/\(∀d',d=some d'->Ar d' f=true):=by
  intro d R f hk;simp only[WJ,af]at hk;refine⟨hk.1.1,λb o k e=>?_,λd' e=>?_⟩
  ·have:=hk.1.2;rw[e]at this;simpa using this
  ·have:=hk.2;rw[e]at this;exact this
 generalize hop:o.op=op at hs;generalize hdst:o.dst=dst at hs hd⊢;rw[hdst]at hr;unfold aba at hs;split at hs
 ·
  rename_i t p x;unfold agH at hs;split at hs
  ·rename_i i hi;have hrun:∃r,(execOp a.eval o).run P w = .ok r w':=hr.elim (λhr=>⟨_,hr⟩) (λhr=>⟨_,hr.1⟩);obtain⟨r,hrun⟩:=hrun;split at hs
   ·rename_i b off hvp;cases hs;have hm:=jO hvp;rw[bK]at hm;obtain⟨f,hf,hm⟩:=hm;unfold VR at hm;split at hm
    ·split at hm
     ·rename_i e;subst e;cases hm;obtain⟨g',h1,h2⟩:=Y2 (N:=N) h hop hrun he hi hf;refine⟨g',h1,h2.weak λf hf=>?_⟩;rw[uV]at hf;rw[bg,aC];rcases hf with hf|⟨hf,hk⟩
      ·exact .inl hf
      ·exact .inr ⟨hf,by rw[(kp hk).2.1 _ _ _ rfl];rfl⟩
     ·cases hm
    ·cases hm
   ·split at hs
    ·rename_i T off hep;split at hs
     ·rename_i hok;cases hs;have hm:=jO hep;rw[bK]at hm;obtain⟨f,hf,hm⟩:=hm;unfold af1 at hm;split at hm
      ·split at hm
       ·rename_i e;subst e;cases hm;obtain⟨g',h1,h2⟩:=Y1 (N:=N) h hop hrun he hi hf hok;refine⟨g',h1,h2.weak λf hf=>?_⟩;rw[uV]at hf;rw[aC];rcases hf with hf|⟨hf,hk⟩
        ·cases hf
        ·exact⟨hf,(kp hk).1⟩
       ·cases hm
      ·cases hm
     ·cases hs
    ·cases hs
  ·cases hs
 ·rename_i t d;cases hs;rcases hr with hr|hr
  ·obtain⟨g',h1,h2⟩:=XI (N:=N) h (hd d rfl) hN hop hr;refine⟨g',h1,h2.weak λf hf=>?_⟩;rw[uV]at hf;rw[bg,aC];rcases hf with hf|⟨hf,hk⟩
   ·exact .inl hf
   ·exact .inr ⟨hf,(kp hk).2.2 _ rfl⟩
  ·cases hr.2
 ·rename_i t x d;cases hs;rcases hr with hr|hr
  ·obtain⟨g',h1,h2⟩:=acz (N:=N) h (hd d rfl) hN hop hr;refine⟨g',h1,h2.weak λf hf=>?_⟩;rw[uV]at hf;rw[bg,aC];rcases hf with hf|⟨hf,hk⟩
   ·exact .inl hf
   ·exact .inr ⟨hf,(kp hk).2.2 _ rfl⟩
  ·cases hr.2
 ·rename_i t ps d;cases hs;rcases hr with hr|hr
  ·have hw:w'=w:=he.quiet (by rw[hop];rfl);subst hw;refine⟨g,Rel.refl _ _ _,h.good,λf hf=>?_⟩;rw[uV]at hf;rcases hf with hf|⟨hf,hk⟩
   ·exact XQ h (hd d rfl) hop hr f hf
   ·exact(h.fs f hf).put' ((kp hk).2.2 _ rfl)
  ·cases hr.2
 ·rename_i T l c d;split at hs
  ·rename_i hz;cases hs;rcases hr with hr|hr
   ·obtain⟨g',h1,h2⟩:=aaR (N:=N) h (hd d rfl) hN hz hop hr;refine⟨g',h1,h2.weak λf hf=>?_⟩;rw[uV]at hf;rw[au,aC];rcases hf with hf|⟨hf,hk⟩
    ·exact .inl (by simpa using hf)
    ·exact .inr ⟨hf,(kp hk).2.2 _ rfl⟩
   ·cases hr.2
  ·cases hs
 ·rename_i T len ps d;split at hs
  ·rename_i hok;cases hs;rcases hr with hr|hr
   ·obtain⟨g',h1,h2⟩:=Uz (N:=N) h (hd d rfl) hN hok hop hr;refine⟨g',h1,h2.weak λf hf=>?_⟩;rw[uV]at hf;rw[au,aC,aC];rcases hf with hf|⟨hf,hk⟩
    ·exact .inl (by simpa using hf)
    ·exact .inr ⟨⟨hf,(kp hk).1⟩,(kp hk).2.2 _ rfl⟩
   ·cases hr.2
  ·cases hs
 ·rename_i s x T t2 d;unfold agF at hs;split at hs
  ·rename_i e2 m ms ht2 hok;cases hs;rcases hr with hr|hr
   ·obtain⟨g',h1,h2⟩:=Ut (N:=N) h (hd d rfl) hN hop ht2 hok hr;refine⟨g',h1,h2.weak λf hf=>?_⟩;rw[uV]at hf;rw[au,aC,aC];rcases hf with hf|⟨hf,hk⟩
    ·exact .inl (by simpa using hf)
    ·exact .inr ⟨⟨hf,(kp hk).1⟩,(kp hk).2.2 _ rfl⟩
   ·cases hr.2
  ·cases hs
 ·rename_i d0 s x T t2;unfold agG at hs;split at hs
  ·rename_i m hm;split at hs
   ·rename_i hemp;cases hs;have hcopy:(execOp a.eval o).run P w = .ok (.value v) w'->OW P F g dp Γ a w':=λhr=>ZO h hop hm (Cj.1 hemp) hr;rcases hr with hr|hr
    ·have h2:=hcopy hr;refine⟨g,Rel.refl _ _ _,h2.good,λf hf=>?_⟩;rw[uV]at hf;rcases hf with hf|⟨hf,hk⟩
     ·cases hf
     ·cases dst with
      |none=>exact h2.fs f hf
      |some d=>exact(h2.fs f hf).put' ((kp hk).2.2 _ rfl)
    ·exfalso;have:=hr.1;simp only[execOp,hop,resolve,invoke,builtin,bC,aZ,aO]at this;cases hq:(je #[T,t2] o.type (Array.map a.eval #[.tmp s,x])).run P w<;>rw[hq]at this<;>cases this
   ·cases hs
  ·cases hs
 ·split at hs
  ·rename_i hq;cases hs;have hw:w'=w:=he.quiet (by rw[hop];exact hq);subst hw;rcases hr with hr|hr
   ·refine⟨g,Rel.refl _ _ _,h.good,λf hf=>?_⟩;rw[uV]at hf;rcases hf with hf|⟨hf,hk⟩
    ·exact aa9 h (hd _ rfl) hr f (by rw[hop];exact hf)
    ·exact(h.fs f hf).put' ((kp hk).2.2 _ rfl)
   ·cases hr.2
  ·cases hs
 ·cases hs
end
end
section
section
variable {P:Program} {F:Jk} {g g':Own} {dp:Nat} {Γ : List OF} {a:Act} {w w':World} {N:Nat} {v:Value}
theorem xq.rel {f:OF}(h:xq P F g dp a w f)(hr:Rel (dp+1) w.heap.size g g')(hs:w.heap.size<=w'.heap.size):xq P F g' dp a w' f:=by
 have gr:∀{u T m},GR g u T (.tag dp m)->GR g' u T (.tag dp m):=λh=>by
  rcases h with h|⟨k,n,c,h1,h2⟩
  ·exact .inl h
  ·have q:=hr.tag _ _ _ _ (uz _) h2.1;exact .inr ⟨k,n,c,h1,q.1,by rw[q.2];exact h2.2⟩
 have old:∀{k T:Nat} {X:Prop},k<w.heap.size->(∀B,g k=some B->(∃p,B = .arr T p)/\X)->∀B,g' k=some B->(∃p,B = .arr T p)/\X:=by intro k T X hk hold B' hB';obtain⟨B,h1,h2⟩:=hr.old k B' hk hB';obtain⟨⟨p,rfl⟩,hx⟩:=hold B h1;obtain⟨q,q',e1,e2⟩:=h2 T p (.inl rfl);exact⟨⟨q',e2⟩,hx⟩
 cases f with
 |sr t T=>intro ad n c hq0;obtain⟨k,o,h1,h2,h3⟩:=h ad n c hq0;exact⟨k,o,h1,fU h2 hs,old h2 h3⟩
 |ep t T off=>obtain⟨k,o,h1,h2,h3⟩:=h;exact⟨k,o,h1,fU h2 hs,old h2 h3⟩
 |vp t b off=>obtain⟨k,row,h1,h2,h3⟩:=h;exact⟨k,row,h1,h2,hr.var _ _ _ _ (uz _) h3⟩
 |ref t r=>obtain⟨u,h1,h2⟩:=h;exact⟨u,h1,gr h2⟩
 |xw t i r=>obtain⟨vs,x,u,h1,h2,h3,h4⟩:=h;exact⟨vs,x,u,h1,h2,h3,gr h4⟩
 |row b r=>obtain⟨k,row,h1,h2,h3⟩:=h;exact⟨k,row,h1,hr.var _ _ _ _ (uz _) h2,h3⟩
 |fn t s=>exact h
theorem Rel.down (h:Rel (dp+1) N g g'):Rel dp N g g':=
 ⟨λk T d m hd=>h.tag k T d m (Nat.lt_succ_of_lt hd),λk row d b hd=>h.var k row d b (Nat.lt_succ_of_lt hd),h.old⟩
theorem Good.Du (h:Good P g w){k:Nat}{row row':List Ref}{d b d' b':Nat}(hk:g k=some (.var row d b))(hc:∀cs e,w.heap[k]? = some (.cells cs e (0,0))->∀r,r∈row'->∃u,cs[r.off]? = some u/\GR g u r.ty (.tag d' r.m)):Good P (g.upd k (.var row' d' b')) w:=by
 have ho:∀{k'},k'≠k->(g.upd k (.var row' d' b')) k'=g k':=λhne=>by simp[qj,hne]
 have hg:(g.upd k (.var row' d' b')) k=some (.var row' d' b'):=aF rfl;refine⟨λk' T p hk'=>?_,λk' EY d2 b2 hk'=>?_⟩
 ·by_cases hkk:k'=k
  ·subst hkk;rw[hg]at hk';cases hk'
  ·rw[ho hkk]at hk';obtain⟨c,e,h1,h2⟩:=h.arr k' T p hk';exact⟨c,e,h1,λj u T' hb hu ht=>(h2 j u T' (by rwa[AA,aj hkk]at hb) hu ht).EZ hk⟩
 ·by_cases hkk:k'=k
  ·subst hkk;rw[hg]at hk';cases hk';obtain⟨cs,e,h1,_⟩:=h.var _ _ _ _ hk;exact⟨cs,e,h1,λr hr=>let ⟨u,hu,hgr⟩:=hc cs e h1 r hr;⟨u,hu,hgr.EZ hk⟩⟩
  ·rw[ho hkk]at hk';obtain⟨c,e,h1,h2⟩:=h.var k' EY d2 b2 hk';exact⟨c,e,h1,λr hr=>let ⟨u,hu,hgr⟩:=h2 r hr;⟨u,hu,hgr.EZ hk⟩⟩
def adf (b:Nat):OF->Bool
 |.vp _ b' _=>b' != b
 |.row b' _=>b' != b
 |_=>true
theorem xq.Du {f:OF}(h:xq P F g dp a w f){k:Nat}{row row':List Ref}{d b d' b':Nat}(hk:g k=some (.var row d b))(hf:d=dp->adf b f=true):xq P F (g.upd k (.var row' d' b')) dp a w f:=by
 have ho:∀{k'},k'≠k->(g.upd k (.var row' d' b')) k'=g k':=λhne=>by simp[qj,hne]
 have old:∀{k' T:Nat} {X:Prop},(∀B,g k'=some B->(∃p,B = .arr T p)/\X)->∀B,(g.upd k (.var row' d' b')) k'=some B->(∃p,B = .arr T p)/\X:=by
  intro k' T X hold B hB;by_cases hkk:k'=k
  ·subst hkk;obtain⟨⟨p,e⟩,_⟩:=hold _ hk;cases e
  ·rw[ho hkk]at hB;exact hold B hB
 cases f with
 |sr t T=>intro ad n c hq0;obtain⟨k',o,h1,h2,h3⟩:=h ad n c hq0;exact⟨k',o,h1,h2,old h3⟩
 |ep t T off=>obtain⟨k',o,h1,h2,h3⟩:=h;exact⟨k',o,h1,h2,old h3⟩
 | vp t b2 off=>
   obtain⟨k',EY,h1,h2,h3⟩:=h;refine⟨k',EY,h1,h2,?_⟩;rw[ho]
   ·exact h3
   ·rintro rfl;rw[hk]at h3;cases h3;have:=hf rfl;simp[adf]at this
 |ref t r=>obtain⟨u,h1,h2⟩:=h;exact⟨u,h1,h2.EZ hk⟩
 |xw t i r=>obtain⟨vs,x,u,h1,h2,h3,h4⟩:=h;exact⟨vs,x,u,h1,h2,h3,h4.EZ hk⟩
 | row b2 r=>
   obtain⟨k',EY,h1,h2,h3⟩:=h;refine⟨k',EY,h1,?_,h3⟩;rw[ho]
   ·exact h2
   ·rintro rfl;rw[hk]at h2;cases h2;have:=hf rfl;simp[adf]at this
 |fn t s=>exact h
theorem Rel.Du {k:Nat}{row row':List Ref}{d b d' b':Nat}(hk:g k=some (.var row d b))(hd:dp<=d):Rel dp N g (g.upd k (.var row' d' b')):=by
 refine⟨λk' T d2 m hd2 hx=>?_,λk' EY d2 b2 hd2 hx=>?_,λk' B' hlt hB=>?_⟩
 ·have hne:k'≠k:=λe=>by subst e;rw[hk]at hx;cases hx
  rw[qj,AA,aj hne,aj hne];exact⟨hx,rfl⟩
 ·rw[qj];rw[aj (λe=>by subst e;rw[hk]at hx;cases hx;omega)];exact hx
 ·rw[qj]at hB;split at hB
  ·rename_i e;subst e;cases hB;exact⟨_,hk,λT p hb=>by rcases hb with e|e<;>cases e⟩
  ·exact(Rel.refl dp N g).old k' B' hlt hB
end
def Xp (Γ : List OF)(s o T:Nat):Option Nat:=(Γ.filterMap λf=>match f with
 |.ref y r=>if y=s/\r.off=o/\r.ty=T then some r.m else none
 |_=>none).head?
def Nl (Γ : List OF)(b o T:Nat):Option Nat:=(Γ.filterMap λf=>match f with
 |.row y r=>if y=b/\r.off=o/\r.ty=T then some r.m else none
 |_=>none).head?
def Il {α β:Type}(f:α->Option β):List α->Option (List β)
 |[]=>some []
 | x::r=>match f x,Il f r with
   |some y,some ys=>some (y::ys)
   |_,_=>none
theorem xR {α β:Type}{f:α->Option β} : ∀{l:List α} {ys:List β},Il f l=some ys->∀x,x∈l->∃y,f x=some y/\y∈ys
 | x::r,ys,h,z,hz=>by
   simp only[Il]at h;split at h
   ·rename_i y ys' h1 h2;cases h;rcases au.1 hz with rfl|hz
    ·exact⟨y,h1,aJ ..⟩
    ·obtain⟨y',h3,h4⟩:=xR h2 z hz;exact⟨y',h3,bU _ h4⟩
   ·cases h
def Iq (Γ : List OF)(i:Nat)(x:Operand):PK->Option (List (Nat×Nat)×Option Nat)
 |.any=>some ([],none)
 | .own rs=>(match x with
   |.tmp s=>(Il (λe:Nat×Nat=>(Xp Γ s e.1 e.2).map λm=>(m,i*20+e.1)) rs).map λl=>(l,none)
   |_=>none)
 | .var rs=>(match x with
   | .tmp s=>(match(Γ.filterMap (VR s)).head? with
     |some (b,0)=>(Il (λe:Nat×Nat=>(Nl Γ b e.1 e.2).map λm=>(m,i*20+e.1)) rs).map λl=>(l,some b)
     |_=>none)
   |_=>none)
 | .fn s=>(match x with
   |.tmp t=>if Γ.contains (.fn t s)then some ([],none)else none
   |.func f=>if kindOf f = .rd/\s=0 then some ([],none)else none
   |_=>none)
 | .sl T=>(match x with
   |.tmp s=>if Γ.contains (.sr s T) || Γ.any (λf=>match f with|.ref y r=>iV y s&&(iV r.off 0&&iV r.ty T)|_=>false)then some ([],none)else none
   |_=>none)
 | .slw T=>(match x with
   |.tmp s=>if(Xp Γ s 0 T).isSome then some ([],none)else none
   |_=>none)
section
variable {P:Program} {F:Jk} {g g':Own} {dp:Nat} {Γ : List OF} {a:Act} {w w':World} {N:Nat} {v:Value}
theorem Nj (h:OW P F g dp Γ a w){s o T m:Nat}(ht:Xp Γ s o T=some m):∃u,(a.tmps.getD s undef).cells[o]? = some u/\GR g u T (.tag dp m):=by
 have:=jO ht;rw[bK]at this;obtain⟨f,hf,hm⟩:=this;split at hm
 ·split at hm
  ·rename_i y r hc;obtain⟨rfl,rfl,rfl⟩:=hc;cases hm;exact h.fs _ hf
  ·cases hm
 ·cases hm
theorem Je (h:OW P F g dp Γ a w){b o T m:Nat}(ht:Nl Γ b o T=some m):∃k row,a.tmps.getD b undef = .pointer (some ⟨k,0,none⟩)/\g k=some (.var row dp b)/\⟨o,T,m⟩∈row:=by
 have:=jO ht;rw[bK]at this;obtain⟨f,hf,hm⟩:=this;split at hm
 ·split at hm
  ·rename_i y r hc;obtain⟨rfl,rfl,rfl⟩:=hc;cases hm;exact h.fs _ hf
  ·cases hm
 ·cases hm
end
end
section
def yZ (Γ : List OF):Nat->List Operand->List PK->Option (List (Nat×Nat)×List (Nat×Nat))
 |_,[],ps=>if ps.all (· == .any)then some ([],[])else none
 | i,x::xs,p::ps=>match Iq Γ i x p,yZ Γ (i+1) xs ps with
   |some (l,o),some (l',o')=>some (l++l',(match o with|some b=>[(i,b)]|none=>[])++o')
   |_,_=>none
 |_,_::_,[]=>none
def Am (l:List Nat):Bool:=match l with
 |[]=>true
 |x::r=> !r.contains x&&Am r
def Ns (ps:List PK)(i:Nat):List (Nat×Nat):=match ps[i]? with
 |some (.var rs)=>rs
 |_=>[]
structure CR where
 kill:List Nat
 rv:Option Nat
 new:List OF
def aaB (d:Option Nat)(R:CR)(f:OF):Bool:=x9 R.kill f&&(match R.rv with|some b=>adf b f|none=>true)&&(match d with|some d=>Ar d f|none=>true)
def Oe (Γ : List OF)(d:Option Nat)(R:CR):List OF:=R.new ++ Γ.filter (aaB d R)
def adk (rs:List (List (Nat×Nat)))(d:Nat):List OF:=match rs with
 |[r]=>r.map λe=>.ref d ⟨e.1,e.2,mk d e.1⟩
 |l=>(l.zipIdx).flatMap λp=>p.1.map λe=>.xw d p.2 ⟨e.1,e.2,mk d (p.2*20+e.1)⟩
def abo (rs:List (Nat×Nat))(d:Nat):List Ref:=rs.map λe=>⟨e.1,e.2,mk d (60+e.1)⟩
def uH (dp:Nat)(rs:List (List (Nat×Nat)))(vr:List (Nat×Nat))(i d d':Nat):List (Nat×rC):=
 (match rs with
  |[r]=>r.map λe=>(20000+e.1,.tag dp (mk d e.1))
  |l=>(l.zipIdx).flatMap λp=>p.1.map λe=>(20000+p.2*20+e.1,.tag dp (mk d (p.2*20+e.1)))) ++
 vr.map λe=>(30000+i*20+e.1,.tag dp (mk d' (60+e.1)))
def Js (Γ : List OF)(sg:QV)(xs:List Operand)(d:Option Nat):Option CR:=match yZ Γ 0 xs sg.ps with
 | some (mv,vars)=>if !Am (mv.map (·.1))then none else match vars with
   |[]=>if !Am ((uH 0 sg.rs [] 0 (d.getD 97) (d.getD 97)).map (·.1))then none else some ⟨mv.map (·.1),none,match d with|some d=>adk sg.rs d|none=>[]⟩
   |[(i,b)]=>if d==some b || !Am ((uH 0 sg.rs (Ns sg.ps i) i (d.getD 97) (d.getD 97)).map (·.1))then none else some ⟨mv.map (·.1),some b,.vp b b 0::(abo (Ns sg.ps i) (d.getD 97)).map (.row b)++match d with|some d=>adk sg.rs d|none=>[]⟩
   |_=>none
 |none=>none
section
variable {P:Program} {g g':Own} {dp:Nat} {Γ : List OF} {a:Act} {w w':World} {N:Nat} {v:Value}
theorem Ap {l:List Nat}(h:Am l=true):l.Nodup:=by
 induction l with
 |nil=>exact List.nodup_nil
 | cons x r ih=>simp only[Am,af,gG,rM,bH]at h;exact rO.2 ⟨h.1,ih h.2⟩
theorem zV {β:Type}{m:Nat}{q:β} : ∀{l:List (Nat×β)},(l.map (·.1)).Nodup->(m,q)∈l->l.lookup m=some q
 | (k,b)::r,hn,h=>by
   simp only[bf,rO]at hn;simp only[xB];rcases au.1 h with e|h'
   ·cases e;simp
   ·have hne:(m==k)=false:=by
     rw[beq_eq_false_iff_ne];intro e;exact hn.1 (aG.2 ⟨(m,q),h',e⟩)
    rw[hne];exact zV hn.2 h'
theorem KH : ∀{xs:List Operand} {ps:List PK} {i:Nat} {mv vars:List (Nat×Nat)},yZ Γ i xs ps=some (mv,vars)->∀(j:Nat) (p:PK),ps[j]? = some p ->
 (p = .any)\/∃x l o,xs[j]? = some x/\Iq Γ (i+j) x p=some (l,o)/\(∀e,e∈l->e∈mv)/\(∀b,o=some b->(i+j,b)∈vars)
 | [],ps,i,mv,vars,h,j,p,hp=>by
   simp only[yZ]at h;split at h
   ·rename_i hall;rw[aB]at hall;exact .inl (by simpa using hall p (dX hp))
   ·cases h
 | x::xs,q::ps,i,mv,vars,h,j,p,hp=>by
   simp only[yZ]at h;split at h
   ·rename_i l o l' o' h1 h2;cases h;cases j with
    | zero=>simp at hp;subst hp;refine .inr ⟨x,l,o,rfl,h1,λe he=>bF _ he,λb hb=>?_⟩;subst hb;exact bF _ (aJ ..)
    | succ j=>
      rcases KH h2 j p (by simpa using hp)with h3|⟨y,l2,o2,h3,h4,h5,h6⟩
      ·exact .inl h3
      ·refine .inr ⟨y,l2,o2,by simpa using h3,by rw[show i+(j+1)=i+1+j by omega];exact h4,λe he=>cu _ (h5 e he),λb hb=>?_⟩;rw[show i+(j+1)=i+1+j by omega];exact cu _ (h6 b hb)
   ·cases h
 |_::_,[],i,mv,vars,h,j,p,hp=>by simp[yZ]at h
def sQ (dp:Nat)(mv:List (Nat×Nat)):List (Nat×rC):=mv.map λe=>(e.1,.tag (dp+1) e.2)
theorem Nq (dp:Nat)(mv:List (Nat×Nat)):(sQ dp mv).map (·.1)=mv.map (·.1):=by simp[sQ]
theorem GR.there {mv:List (Nat×Nat)}(hn:(mv.map (·.1)).Nodup){u:Value}{T m t:Nat}(h:GR g u T (.tag dp m))(hm:(m,t)∈mv):GR (g.mv dp (sQ dp mv)) u T (.tag (dp+1) t):=
 h.mv (zV (by rw[Nq];exact hn) (by rw[sQ,aG];exact⟨_,hm,rfl⟩))
theorem aaX {ps:List PK}{f:OF}(h:f∈NL ps):∃j p,ps[j]? = some p/\((∃rs,p = .own rs/\∃e,e∈rs/\f = .ref j ⟨e.1,e.2,j*20+e.1⟩) \/
 (∃rs,p = .var rs/\(f = .vp j j 0\/∃e,e∈rs/\f = .row j ⟨e.1,e.2,j*20+e.1⟩))\/(∃s,p = .fn s/\f = .fn j s)\/∃T,p = .sl T/\f = .sr j T):=by
 rw[NL,gX]at h;obtain⟨q,hq,hf⟩:=h;obtain⟨p,j⟩:=q;have hj:=kP.1 hq;simp only at hj;refine⟨j,p,by simpa using hj,?_⟩;cases p with
 |any=>cases hf
 |own rs=>rw[aG]at hf;obtain⟨e,he,rfl⟩:=hf;exact .inl ⟨rs,rfl,e,he,rfl⟩
 | var rs=>
   rw[au,aG]at hf;rcases hf with rfl|⟨e,he,rfl⟩
   ·exact .inr (.inl ⟨rs,rfl,.inl rfl⟩)
   ·exact .inr (.inl ⟨rs,rfl,.inr ⟨e,he,rfl⟩⟩)
 |fn s=>exact .inr (.inr (.inl ⟨s,rfl,by simpa using hf⟩))
 |sl T=>exact .inr (.inr (.inr ⟨T,rfl,by simpa using hf⟩))
 |slw T=>cases hf
theorem WL (h:OW P FV g dp Γ a w){xs:List Operand}{ps:List PK}{mv vars:List (Nat×Nat)}{ex:List Value}(ha:yZ Γ 0 xs ps=some (mv,vars)){g2:Own}
 (hgr:∀{u:Value} {T m:Nat},GR g u T (.tag dp m)->∃d m',GR g2 u T (.tag d m')):adE g2 ps (xs.map a.eval++ex):=by
 intro j T u hj hu;have hq:=KH ha j _ hj;rw[dF]at hq;rcases hq with hq|⟨x,l,o,hx,harg,_,_⟩
 ·cases hq
 ·simp only[Iq]at harg;split at harg
  ·rename_i s;split at harg
   ·rename_i hs;obtain⟨m,hm⟩:=jB.1 hs;obtain⟨u',hu',hg⟩:=Nj h hm;rw[aX (by rw[jM];exact(ay.1 hx).1),aP,hx]at hu;cases hu;obtain⟨d,m',h1⟩:=hgr hg;exact⟨d,m',u',hu',h1⟩
   ·cases harg
  ·cases harg
theorem RX (h:OW P FV g dp Γ a w){xs:List Operand}{ps:List PK}{mv vars:List (Nat×Nat)}{ex:List Value}(ha:yZ Γ 0 xs ps=some (mv,vars))(hn:(mv.map (·.1)).Nodup){g2:Own}
 (hgr:∀{u:Value} {T:Nat} {p:rC},GR (g.mv dp (sQ dp mv)) u T p->GR g2 u T p) (hsr:∀t T,xq P FV g dp a w (.sr t T)->xq P FV g2 dp a w (.sr t T))
 (hv:∀i b rs,(i,b)∈vars->ps[i]? = some (.var rs)->∃k row,a.tmps.getD b undef = .pointer (some ⟨k,0,none⟩)/\g2 k=some (.var row (dp+1) i)/\∀e,e∈rs->⟨e.1,e.2,i*20+e.1⟩∈row)
 (f:OF) (hf:f∈NL ps):xq P FV g2 (dp+1) { tmps:=(xs.map a.eval++ex).toArray,defers:=[] } w f:=by
 obtain⟨j,p,hj,hf⟩:=aaX hf;have hget:∀x,xs[j]? = some x->((xs.map a.eval++ex).toArray).getD j undef=a.eval x:=λx hx=>by rw[dm,jY,aX (by rw[jM];exact(ay.1 hx).1),aP,hx];rfl
 have hq:=KH ha j p hj;rw[dF]at hq;rcases hf with⟨rs,rfl,e,he,rfl⟩|⟨rs,rfl,hf⟩|⟨s,rfl,rfl⟩|⟨T,rfl,rfl⟩
 ·rcases hq with hq|⟨x,l,o,hx,harg,hl,_⟩
  ·cases hq
  ·simp only[Iq]at harg;split at harg
   ·rename_i s;simp only[aU]at harg;obtain⟨l',hl',heq⟩:=harg;cases heq;obtain⟨y,hy,hyl⟩:=xR hl' e he;simp only[aU]at hy;obtain⟨m,hm,rfl⟩:=hy;obtain⟨u,hu,hg⟩:=Nj h hm;refine⟨u,?_,hgr (hg.there hn (hl _ hyl))⟩;rw[hget _ hx];exact hu
   ·cases harg
 ·rcases hq with hq|⟨x,l,o,hx,harg,hl,ho⟩
  ·cases hq
  ·simp only[Iq]at harg;split at harg
   ·rename_i s;split at harg
    ·rename_i b hvp;simp only[aU]at harg;obtain⟨l',hl',heq⟩:=harg;cases heq;have hm:=jO hvp;rw[bK]at hm;obtain⟨f0,hf0,hm⟩:=hm;unfold VR at hm;split at hm
     ·split at hm
      ·rename_i e1;subst e1;cases hm;obtain⟨k0,row0,e2,e3,e4⟩:=h.fs _ hf0;obtain⟨k,row,e5,e6,e7⟩:=hv j b rs (ho b rfl) hj;rw[e2]at e5;cases e5;have hx':=hget _ hx;have e8:((xs.map a.eval++ex).toArray).getD j undef = .pointer (some ⟨k0,0,none⟩):=(by rw[hx'];exact e3);rcases hf with rfl|⟨e,he,rfl⟩
       ·exact⟨k0,row,e8,e8,e6⟩
       ·exact⟨k0,row,e8,e6,e7 e he⟩
      ·cases hm
     ·cases hm
    ·cases harg
   ·cases harg
 ·rcases hq with hq|⟨x,l,o,hx,harg,_,_⟩
  ·cases hq
  ·simp only[Iq]at harg;split at harg
   ·rename_i t;split at harg
    ·rename_i hc;have hc:=eF.1 hc;obtain⟨f,caps,h1,h2⟩:=h.fs _ hc;exact⟨f,caps,by rw[hget _ hx];exact h1,h2⟩
    ·cases harg
   ·rename_i f;split at harg
    ·rename_i hc;exact⟨f,#[],by rw[hget _ hx];rfl,by rw[hc.2];exact hc.1⟩
    ·cases harg
   ·cases harg
 ·rcases hq with hq|⟨x,l,o,hx,harg,_,_⟩
  ·cases hq
  ·simp only[Iq]at harg;split at harg
   ·rename_i t;split at harg
    ·rename_i hc;have hk:xq P FV g dp a w (.sr t T):=by
      rw[eX]at hc;rcases hc with hc|hc
      ·exact h.fs _ (eF.1 hc)
      ·obtain⟨f0,hf0,hc⟩:=oJ.1 hc;split at hc
       ·rename_i y r;simp only[af,Nat.beq_eq]at hc;obtain⟨rfl,h0,rfl⟩:=hc;obtain⟨u,hu,hg⟩:=h.fs _ hf0;intro ad n c hs;rw[hs,h0]at hu;simp[jD]at hu;subst hu;rcases hg with hg|⟨k,n',c',e,hk,_⟩
        ·cases hg
        ·cases e;exact⟨k,0,rfl,h.good.lt hk,λB hB=>by rw[hk]at hB;cases hB;exact⟨⟨_,rfl⟩,Nat.zero_mod _⟩⟩
       ·cases hc
     intro ad n c hs;rw[hget _ hx]at hs;exact hsr _ _ hk ad n c hs
    ·cases harg
   ·cases harg
end
end
section
section
variable {P:Program} {g g':Own} {dp:Nat} {Γ : List OF} {a:Act} {w w':World} {N:Nat} {v:Value}
theorem XN (dp:Nat)(rs:List (List (Nat×Nat)))(vr:List (Nat×Nat))(i d d':Nat):(uH dp rs vr i d d').map (·.1)=(uH 0 rs vr i d d').map (·.1):=by
 unfold uH;rw[yt,yt]
 congr 1
 ·split
  ·simp
  ·rw[List.map_flatMap,List.map_flatMap]
   congr 1
   funext p
   simp
 ·simp
theorem GR.back {rs:List (List (Nat×Nat))}{vr:List (Nat×Nat)}{i d d':Nat}(hn:Am ((uH 0 rs vr i d d').map (·.1))=true){u:Value}{T m:Nat}{q:rC}(h:GR g u T (.tag (dp+1) m))(hm:(m,q)∈uH dp rs vr i d d') :
 GR (g.mv (dp+1) (uH dp rs vr i d d')) u T q:=
 h.mv (zV (by rw[XN];exact Ap hn) hm)
theorem OL {sg:QV}{vs:List Value}(hout:OW P FV g' (dp+1) (MF sg vs.length) { tmps:=(vs++[v]).toArray,defers:=[] } w'){vr:List (Nat×Nat)}{i d d':Nat}(hn:Am ((uH 0 sg.rs vr i d d').map (·.1))=true)(hd:d<a.tmps.size){g4:Own}
 (hgr:∀{u:Value} {T:Nat} {p:rC},GR (g'.mv (dp+1) (uH dp sg.rs vr i d d')) u T p->GR g4 u T p) (f:OF) (hf:f∈adk sg.rs d):xq P FV g4 dp (a.put (some d) v) w' f:=by
 have hv:((vs++[v]).toArray).getD vs.length undef=v:=by rw[dm,jY];simp
 have hs:=dM (v:=v) hd;unfold adk at hf;split at hf
 ·rename_i r hrs;rw[aG]at hf;obtain⟨e,he,rfl⟩:=hf;have:=hout.fs (.ref vs.length ⟨e.1,e.2,20000+e.1⟩) (by
   rw[MF,Vt,hrs];exact bF _ (aG.2 ⟨e,he,rfl⟩))
  obtain⟨u,hu,hg⟩:=this;rw[hv]at hu;refine⟨u,by rw[hs];exact hu,hgr (hg.back hn ?_)⟩;unfold uH;rw[hrs];exact bF _ (aG.2 ⟨e,he,rfl⟩)
 ·rename_i hne;rw[gX]at hf;obtain⟨q,hq,hf⟩:=hf;rw[aG]at hf;obtain⟨e,he,rfl⟩:=hf;have:=hout.fs (.xw vs.length q.2 ⟨e.1,e.2,20000+q.2*20+e.1⟩) (by
   rw[MF];refine bF _ ?_;unfold Vt;split
   ·rename_i r hr;exact dO hr (hne r)
   ·rw[gX];exact⟨q,hq,aG.2 ⟨e,he,rfl⟩⟩)
  obtain⟨us,x,u,h1,h2,h3,hg⟩:=this;rw[hv]at h1;refine⟨us,x,u,by rw[hs];exact h1,h2,h3,hgr (hg.back hn ?_)⟩;unfold uH;refine bF _ ?_;split
  ·rename_i r hr;exact dO hr (hne r)
  ·rw[gX];exact⟨q,hq,aG.2 ⟨e,he,rfl⟩⟩
theorem Sj {mv:List (Nat×rC)}{f:OF} : aaC dp (λ_=>false) (Dz (dp+1) mv) f:=λm _=>⟨rfl,by simp only[Dz];rw[aj aQ]⟩
theorem Rel.agB (mv:List (Nat×rC)):Rel dp N g (g.mv (dp+1) mv):=Rel.re λd m h=>⟨rfl,by simp only[Dz];rw[aj aQ]⟩
theorem Nr {dp m:Nat}{q:rC} : ∀{mv:List (Nat×Nat)},(sQ dp mv).lookup m=some q->∃t,q = .tag (dp+1) t
 |[],h=>by cases h
 | (a,b)::r,h=>by
   simp only[sQ,bf,xB]at h;split at h
   ·cases h;exact⟨_,rfl⟩
   ·exact Nr (mv:=r) h
theorem aa2 (mv:List (Nat×Nat)){u:Value}{T m:Nat}(h:GR g u T (.tag dp m)):∃d m',GR (g.mv dp (sQ dp mv)) u T (.tag d m'):=by
 have h1:=h.re (dr:=λ_=>false) rfl (Dz dp (sQ dp mv));have:∃d m',Dz dp (sQ dp mv) (.tag dp m) = .tag d m':=by
  simp only[Dz,iT];cases hx:(sQ dp mv).lookup m with
  |none=>exact⟨_,_,rfl⟩
  | some q=>obtain⟨t,rfl⟩:=Nr hx;exact⟨_,_,rfl⟩
 obtain⟨d,m',e⟩:=this;exact⟨d,m',e▸h1⟩
theorem Good.mv (h:Good P g w)(dp:Nat)(mv:List (Nat×rC)):Good P (g.mv dp mv) w:=h.re λ_ _ _ _ _ _=>⟨rfl,rfl⟩
theorem Vm {mv:List (Nat×rC)}{k d b:Nat}{row:List Ref}(h:g k=some (.var row d b)):∃row',(g.mv dp mv) k=some (.var row' d b):=by rw[Own.mv,Tu];rw[h];exact⟨_,rfl⟩
theorem abS {ps:List PK}{i:Nat}{rs:List (Nat×Nat)}(h:ps[i]? = some (.var rs)):Ns ps i=rs:=by simp[Ns,h]
theorem FD : ∀{xs:List Operand} {ps:List PK} {i:Nat} {mv vars:List (Nat×Nat)},yZ Γ i xs ps=some (mv,vars)->∀j b,(j,b)∈vars->∃rs x s,ps[j-i]? = some (.var rs)/\i<=j/\xs[j-i]? = some x/\x = .tmp s/\OF.vp s b 0 ∈ Γ /\ ∀e,e∈rs->∃m,Nl Γ b e.1 e.2=some m/\(m,j*20+e.1)∈mv
 | [],ps,i,mv,vars,h,j,b,hb=>by
   simp only[yZ]at h;split at h
   ·cases h;cases hb
   ·cases h
 | x::xs,q::ps,i,mv,vars,h,j,b,hb=>by
   simp only[yZ]at h;split at h
   ·rename_i l o l' o' h1 h2;cases h;rcases bg.1 hb with hb|hb
    ·cases o with
     |none=>cases hb
     | some b'=>
       simp only[au,fF,or_false,cZ]at hb;obtain⟨rfl,rfl⟩:=hb;rw[Nat.sub_self];cases q with
       |any=>simp[Iq]at h1
       | own rs=>
         simp only[Iq]at h1;split at h1
         ·simp only[aU]at h1;obtain⟨_,_,e⟩:=h1;cases e
         ·cases h1
       | fn s=>simp only[Iq]at h1;split at h1<;>(try split at h1)<;>cases h1
       | sl T=>simp only[Iq]at h1;split at h1<;>(try split at h1)<;>cases h1
       | slw T=>simp only[Iq]at h1;split at h1<;>(try split at h1)<;>cases h1
       | var rs=>
         simp only[Iq]at h1;split at h1
         ·rename_i s;split at h1
          ·rename_i b2 hvp;simp only[aU]at h1;obtain⟨l2,hl2,e⟩:=h1;cases e;have hm:=jO hvp;rw[bK]at hm;obtain⟨f0,hf0,hm⟩:=hm;unfold VR at hm;split at hm
           ·split at hm
            ·rename_i e1;subst e1;cases hm;refine⟨rs,_,_,rfl,aA _,rfl,rfl,hf0,λe he=>?_⟩;obtain⟨y,hy,hyl⟩:=xR hl2 e he;simp only[aU]at hy;obtain⟨m,hm,rfl⟩:=hy;exact⟨m,hm,bF _ hyl⟩
            ·cases hm
           ·cases hm
          ·cases h1
         ·cases h1
    ·obtain⟨rs,y,s,h3,h4,h5,h6,h7,h8⟩:=FD h2 j b hb;refine⟨rs,y,s,?_,aQ,?_,h6,h7,λe he=>let ⟨m,h9,h10⟩:=h8 e he;⟨m,h9,cu _ h10⟩⟩
     ·rw[show j-i=(j-(i+1))+1 by omega,gB];exact h3
     ·rw[show j-i=(j-(i+1))+1 by omega,gB];exact h5
   ·cases h
 |_::_,[],i,mv,vars,h,j,b,hb=>by simp[yZ]at h
theorem SI (h:OW P FV g dp Γ a w)(hN:N<=w.heap.size){f:FuncId}{sg:QV}(hk:kindOf f = .ow sg){xs:List Operand}{ex:List Value}{d:Option Nat}{C:CR}(hl:(xs.map a.eval++ex).length=sg.ps.length)(hc:Js Γ sg xs d=some C)(hd:∀d',d=some d'->d'<a.tmps.size) :
 ∃X,Pq P f (xs.map a.eval++ex) w X/\∀v w',w.heap.size<=w'.heap.size->X (.returned v) w'->∃g',Rel dp N g g'/\OW P FV g' dp (Oe Γ d C) (a.put d v) w':=by
 unfold Js at hc;split at hc
 ·rename_i mv vars ha;split at hc
  ·cases hc
  ·rename_i hnn;have hn:(mv.map (·.1)).Nodup:=Ap (by simpa using hnn);have h1:=h.mv (sQ dp mv);rw[Nq]at h1;split at hc
   ·
    split at hc
    ·cases hc
    ·rename_i hbn;cases hc;have hin:OW P FV (g.mv dp (sQ dp mv)) (dp+1) (NL sg.ps) { tmps:=(xs.map a.eval++ex).toArray,defers:=[] } w:=
      ⟨h1.good,RX h ha hn (λh=>h) (λt T hk=>hk.re (f:=.sr t T) λm hm=>by cases hm) (λi b rs hb _=>by cases hb)⟩
     refine⟨_,.ow sg hk hl _ (dp+1) hin (WL h ha λhg=>aa2 _ hg),λv w' hs hX=>?_⟩;obtain⟨v',g',hv,hrel,hout⟩:=hX;cases hv;refine⟨g'.mv (dp+1) (uH dp sg.rs [] 0 (d.getD 97) (d.getD 97)),((Rel.mv N _).trans ((hrel.le hN).down)).trans (Rel.agB _),hout.good.mv _ _,λf hf=>?_⟩;rw[Oe,bg,aC]at hf;rcases hf with hf|⟨hf,hkp⟩
     ·cases d with
      |none=>cases hf
      |some d=>exact OL hout (by simpa using hbn) (hd d rfl) (λh=>h) f hf
     ·simp only[aaB,af]at hkp;have h2:=((h1.fs f (aC.2 ⟨hf,hkp.1.1⟩)).rel hrel hs).re (dr:=λ_=>false) (φ:=Dz (dp+1) (uH dp sg.rs [] 0 (d.getD 97) (d.getD 97))) Sj;cases d with
      |none=>exact h2
      |some d=>exact h2.put' hkp.2
   ·
    rename_i i b;split at hc
    ·cases hc
    ·rename_i hbn;simp only[eX,not_or,gG,Bool.not_eq_false]at hbn;obtain⟨hdb,hbn⟩:=hbn;cases hc;obtain⟨rs,x,s,hp,_,hx,rfl,hvp,agj⟩:=FD ha i b (aJ ..);rw[zL]at hp hx;have hrs:=abS hp;obtain⟨k,row,hb1,hb2,hb3⟩:=h.fs _ hvp;obtain⟨agN,hk1⟩:=Vm (mv:=sQ dp mv) (dp:=dp) hb3;have aeB:Good P ((g.mv dp (sQ dp mv)).upd k (.var (rs.map λe=>⟨e.1,e.2,i*20+e.1⟩) (dp+1) i)) w:=by
      refine h1.good.Du hk1 λcs e hw r hr=>?_;rw[aG]at hr;obtain⟨q,hq,rfl⟩:=hr;obtain⟨m,hm1,hm2⟩:=agj q hq;obtain⟨k',row',e1,e2,e3⟩:=Je h hm1;rw[hb1]at e1;cases e1;obtain⟨cs',e',hw',hrow⟩:=h.good.var _ _ _ _ e2;rw[hw]at hw';cases hw';obtain⟨u,hu,hg⟩:=hrow _ e3;exact⟨u,hu,hg.there hn hm2⟩
     have hin:OW P FV ((g.mv dp (sQ dp mv)).upd k (.var (rs.map λe=>⟨e.1,e.2,i*20+e.1⟩) (dp+1) i)) (dp+1) (NL sg.ps) { tmps:=(xs.map a.eval++ex).toArray,defers:=[] } w:=
      ⟨aeB,RX h ha hn (λh=>h.EZ hk1) (λt T hk=>(hk.re (f:=.sr t T) (dr:=λ_=>false) (φ:=Dz dp (sQ dp mv)) λm hm=>by cases hm).Du hk1 λ_=>rfl) (λi' b' rs' hb' hp'=>by simp only[au,fF,or_false,cZ]at hb';obtain⟨rfl,rfl⟩:=hb';rw[hp]at hp';cases hp';exact⟨k,_,hb1,aF rfl,λe he=>aG.2 ⟨e,he,rfl⟩⟩)⟩
     refine⟨_,.ow sg hk hl _ (dp+1) hin (WL h ha λhg=>let ⟨d,m,h1⟩:=aa2 (dp:=dp) mv hg;⟨d,m,h1.EZ hk1⟩),λv w' hs hX=>?_⟩;obtain⟨v',g',hv,hrel,hout⟩:=hX;cases hv;rw[hrs]at hbn;have ahP:=hout.fs (.vp i i 0) (by rw[MF];refine cu _ ?_;rw[YE,gX];exact⟨(.var rs,i),kP.2 (by simpa using hp),kY⟩)
     obtain⟨k2,EY,e1,_,e2⟩:=ahP;have hlt:i<(xs.map a.eval++ex).length:=(by rw[hl];exact(ay.1 hp).1);have hti:((xs.map a.eval++ex)++[v]).toArray.getD i undef = .pointer (some ⟨k,0,none⟩):=by rw[dm,jY,aX hlt,aX (by rw[jM];exact(ay.1 hx).1),aP,hx];exact hb2
     rw[hti]at e1;cases e1;obtain⟨row3,hk3⟩:=Vm (mv:=uH dp sg.rs rs i (d.getD 97) (d.getD 97)) (dp:=dp+1) e2;have aeC:Good P ((g'.mv (dp+1) (uH dp sg.rs rs i (d.getD 97) (d.getD 97))).upd k (.var (abo rs (d.getD 97)) dp b)) w':=by
      refine(hout.good.mv _ _).Du hk3 λcs e hw r hr=>?_;rw[abo,aG]at hr;obtain⟨q,hq,rfl⟩:=hr;have:=hout.fs (.row i ⟨q.1,q.2,30000+i*20+q.1⟩) (by rw[MF];refine cu _ ?_;rw[YE,gX];exact⟨(.var rs,i),kP.2 (by simpa using hp),bU _ (aG.2 ⟨q,hq,rfl⟩)⟩)
      obtain⟨k',row',e4,e5,e6⟩:=this;rw[hti]at e4;cases e4;obtain⟨cs',e',hw',hrow⟩:=hout.good.var _ _ _ _ e5;rw[hw]at hw';cases hw';obtain⟨u,hu,hg⟩:=hrow _ e6;refine⟨u,hu,hg.back hbn ?_⟩;unfold uH;exact cu _ (aG.2 ⟨q,hq,rfl⟩)
     refine⟨(g'.mv (dp+1) (uH dp sg.rs rs i (d.getD 97) (d.getD 97))).upd k (.var (abo rs (d.getD 97)) dp b),
      ((((Rel.mv N _).trans (Rel.Du hk1 (aA _))).trans ((hrel.le hN).down)).trans (Rel.agB _)).trans (Rel.Du hk3 (Nat.le_succ _)),aeC,λf hf=>?_⟩
     rw[Oe,bg,aC]at hf;have hb':∀d',d=some d'->b≠d':=λd' e e'=>(by subst e;subst e';simp at hdb);have htb:(a.put d v).tmps.getD b undef = .pointer (some ⟨k,0,none⟩):=by
      cases d with
      |none=>exact hb1
      |some d'=>rw[jP (hb' d' rfl)];exact hb1
     rcases hf with hf|⟨hf,hkp⟩
     ·simp only[uw,au,bg,aG]at hf;rw[hrs]at hf;rcases hf with rfl|⟨r,hr,rfl⟩|hf
      ·exact⟨k,_,htb,htb,aF rfl⟩
      ·exact⟨k,_,htb,aF rfl,hr⟩
      ·cases d with
       |none=>cases hf
       |some d=>exact OL hout (by simpa using hbn) (hd d rfl) (λh=>h.EZ hk3) f hf
     ·simp only[aaB,af]at hkp;have h2:=(((h1.fs f (aC.2 ⟨hf,hkp.1.1⟩)).Du (row':=rs.map λe=>⟨e.1,e.2,i*20+e.1⟩) (d':=dp+1) (b':=i) hk1 (λ_=>hkp.1.2)).rel hrel hs).re (dr:=λ_=>false) (φ:=Dz (dp+1) (uH dp sg.rs rs i (d.getD 97) (d.getD 97))) Sj;have h3:=h2.Du (row':=abo rs (d.getD 97)) (d':=dp) (b':=b) hk3 (λe=>by omega);cases d with
      |none=>exact h3
      |some d=>exact h3.put' hkp.2
   ·cases hc
 ·cases hc
end
end
section
section
variable {P:Program} {E:Env P} {I:IH} {ρ:Ren} {n:Nat} {st:eH} {a:Act} {w:World}
def AK (E:Env P)(n:Nat)(K:eH->Prop):Act->World->Prop:=λa w=>∃I ρ st,K st/\GX E I ρ n st a w
theorem adP (h:GX E I ρ n st a w){bs:List Nat}{v:Value}{x y:AC}(hx:GC I ρ v x)(hc:Cv st.bx x y)(hb:∀b,b∈kL [x]->b∈bs):GC (wH I ρ w st.bx bs) ρ v y:=by
 have hle:=zU (st:=st) h.bx bs;cases hc with
 |refl=>exact hx.mono hle (Ren.le_refl ρ)
 | wC sz=>simp only[GC]at hx;subst hx;exact Rd.sl none 0 0 _ [] (λ_ _=>undef) rfl (aA _) (by simp[maxLen]) kY kY (by intro ad h;cases h) kY
 |own b m sz es harr hm=>exact Qj h (hb b (by simp[kL])) harr hm hx
theorem xH {x:AC}{xs:List AC}{b:Nat} : b∈kL (x::xs)<->b∈kL [x]\/b∈kL xs:=by cases x<;>simp[kL]
theorem acK (h:GX E I ρ n st a w){bs:List Nat}{vs:List Value}{xs ys:List AC}(hx:EE I ρ vs xs)(hc:CvL st.bx xs ys)(hb:∀b,b∈kL xs->b∈bs):EE (wH I ρ w st.bx bs) ρ vs ys:=by
 induction hc generalizing vs with
 |nil=>exact⟨hx.1,λj v x hv hx=>by simp at hx⟩
 | cons hxy ht ih=>
   rename_i x y xs ys;cases vs with
   |nil=>have:=hx.1;simp at this
   | cons v vs=>
     have i1:=ih (vs:=vs) ⟨by simpa using hx.1,λj u z hu hz=>hx.2 (j+1) u z (by simpa using hu) (by simpa using hz)⟩ (λb hb'=>hb b (xH.2 (.inr hb')));have i0:=adP h (hx.2 0 v x rfl rfl) hxy (λb hb'=>hb b (xH.2 (.inl hb')));refine⟨by simp[i1.1],λj u z hu hz=>?_⟩;cases j with
     |zero=>simp at hu hz;subst hu;subst hz;exact i0
     |succ j=>exact i1.2 j u z (by simpa using hu) (by simpa using hz)
theorem ael (h:GX E I ρ n st a w){bs:List Nat}{v:Value}{x y:AV}(hx:GV I ρ v x)(hc:CvA st.bx x y)(hb:∀b,b∈x.owns->b∈bs):GV (wH I ρ w st.bx bs) ρ v y:=by
 cases hc with
 |one hxy=>exact adP h hx hxy hb
 |agg hxy=>obtain⟨cs,rfl,hg⟩:=hx;exact⟨cs,rfl,acK h hg hxy hb⟩
theorem Ll (h:GX E I ρ n st a w){bs:List Nat}{vs:List Value}{xs ys:List AV}(hx:NF I ρ vs xs)(hc:Fp st.bx xs ys)(hb:∀b,b∈xs.flatMap AV.owns->b∈bs):NF (wH I ρ w st.bx bs) ρ vs ys:=by
 induction hc generalizing vs with
 |nil=>exact⟨hx.1,λj v x hv hx=>by simp at hx⟩
 | cons hxy ht ih=>
   rename_i x y xs ys;cases vs with
   |nil=>have:=hx.1;simp at this
   | cons v vs=>
     have i1:=ih (vs:=vs) ⟨by simpa using hx.1,λj u z hu hz=>hx.2 (j+1) u z (by simpa using hu) (by simpa using hz)⟩ (λb hb'=>hb b (by rw[mQ];exact cu _ hb'));have i0:=ael h (hx.2 0 v x rfl rfl) hxy (λb hb'=>hb b (by rw[mQ];exact bF _ hb'));refine⟨by simp[i1.1],λj u z hu hz=>?_⟩;cases j with
     |zero=>simp at hu hz;subst hu;subst hz;exact i0
     |succ j=>exact i1.2 j u z (by simpa using hu) (by simpa using hz)
theorem U3 {I J:IH}{ρ σ:Ren}{v:Value}{x:AC}(h:GC I ρ v x)(hl:x.isLit=true):GC J σ v x:=by
 cases x with
 | c y=>
   cases y with
   |lit u=>cases h with|lit v hv=>exact Rd.lit _ hv
   |str l=>cases h with|str l hl=>exact Rd.str _ hl
   |sl sz es=>cases hl
 |_=>cases hl
theorem Wy {I J:IH}{ρ σ:Ren}{vs:List Value}{xs:List AC}(h:EE I ρ vs xs)(hl:xs.all AC.isLit=true):EE J σ vs xs:=
 ⟨h.1,λj v x hv hx=>U3 (h.2 j v x hv hx) (aB.1 hl x (dX hx))⟩
theorem aet {I J:IH}{ρ σ:Ren}{v:Value}{x:AV}(h:GV I ρ v x)(hl:x.all AC.isLit=true):GV J σ v x:=by
 cases x with
 |one x=>exact U3 h hl
 |agg xs=>obtain⟨cs,rfl,hg⟩:=h;exact⟨cs,rfl,Wy hg hl⟩
 | Bl ps=>
   obtain⟨vs,rfl,hs,hp⟩:=h;refine⟨vs,rfl,hs,λj v p hv hq=>?_⟩;have h1:=hp j v p hv hq;have h2:=aB.1 hl p (dX hq);unfold GP at h1⊢;split at h1
   ·rename_i hb;rw[aF hb];obtain⟨cs,rfl,hg⟩:=h1;exact⟨cs,rfl,Wy hg h2⟩
   ·rename_i hb;rw[aj hb];obtain⟨x,hx,hg⟩:=h1;rw[hx]at h2;exact⟨x,hx,U3 hg (by simpa using h2)⟩
theorem Qa {I:IH}{ρ σ:Ren}{v:Value}{x:AC}(h:GC I ρ v x)(hl:x.qC=true):GC I σ v x:=by
 cases x with
 |c y=>exact h
 |err g=>exact h
 |_=>cases hl
theorem RF {I:IH}{ρ σ:Ren}{vs:List Value}{xs:List AC}(h:EE I ρ vs xs)(hl:xs.all AC.qC=true):EE I σ vs xs:=
 ⟨h.1,λj v x hv hx=>Qa (h.2 j v x hv hx) (aB.1 hl x (dX hx))⟩
theorem WC {I:IH}{ρ σ:Ren}{v:Value}{x:AV}(h:GV I ρ v x)(hl:x.all AC.qC=true):GV I σ v x:=by
 cases x with
 |one x=>exact Qa h hl
 |agg xs=>obtain⟨cs,rfl,hg⟩:=h;exact⟨cs,rfl,RF hg hl⟩
 | Bl ps=>
   obtain⟨vs,rfl,hs,hp⟩:=h;refine⟨vs,rfl,hs,λj v p hv hq=>?_⟩;have h1:=hp j v p hv hq;have h2:=aB.1 hl p (dX hq);unfold GP at h1⊢;split at h1
   ·rename_i hb;rw[aF hb];obtain⟨cs,rfl,hg⟩:=h1;exact⟨cs,rfl,RF hg h2⟩
   ·rename_i hb;rw[aj hb];obtain⟨x,hx,hg⟩:=h1;rw[hx]at h2;exact⟨x,hx,Qa hg (by simpa using h2)⟩
theorem RI {I:IH}{ρ σ:Ren}{vs:List Value}{xs:List AV}(h:NF I ρ vs xs)(hl:xs.all (·.all AC.qC)=true):NF I σ vs xs:=
 ⟨h.1,λj v x hv hx=>WC (h.2 j v x hv hx) (aB.1 hl x (dX hx))⟩
theorem JW (b:Nat):yU [] b = .absent:=by simp[yU]
theorem yV {x:Option (Nat×Nat)}(b k:Nat):¬(yU [] b).uses x k:=by rw[JW];exact λh=>h
theorem GX.later (h:GX E I ρ n st a w){w':World}(hF:wZ w w' (λ_=>False)):GX E I ρ n st a w':=by have hk:∀k,k<w.heap.size->w'.heap[k]? = w.heap[k]?:= λk hk=>hF.block k hk (λh=>h);refine{ h with agree:=h.agree.other (λk c hc=>hk k (h.agree.lt hc)),bx:=?_,ve:=h.ve.trans hF (λ_ _ hf=>hf.elim),tm:=h.tm,size:=h.size,defers:=h.defers };exact BX.step (λ_=>False) h.bx (IH.le_refl I) (Ren.le_refl ρ) (λb _=>⟨rfl,rfl⟩) (λb k _ hu=>hk k ((h.bx.ok b).lt hu)) (λb hb=>hb.elim) (λb k hb=>hb.elim) (λb b' k hb=>hb.elim) (λb k _ hu=>h.bx.fresh b k hu)
theorem Qp (I:IH)(w:World):BX I (λ_=>none) w (yU []):=
 ⟨λb=>by rw[JW];rfl,λb b' k h=>dO h (yV b k),λb k h=>dO h (yV b k)⟩
theorem ZI (h:GX E I ρ n st a w){f:FuncId}{vs:List Value}{pz ds:List AV}{r:AV}{d:Option Nat}{K:eH->Prop}(hd':∀x,d=some x->x<n)(hv:NF I ρ vs pz)(hc:Fp st.bx pz ds)(hd:ds.all (·.all AC.qC)=true)(hp:gY P f ds r)(hr:r.all AC.isLit=true)
 (k:K (st.uh d (.v true r))) {X:Ending->World->Prop} (hX:Pq P f vs w X):Calls P f vs.toArray w λe w'=>(∃v,e = .returned v/\AK E n K (a.put d v) w')/\X e w'/\w.heap.size<=w'.heap.size:=by
 have hv1:=Ll h (bs:=pz.flatMap AV.owns) hv hc (λb hb=>hb);refine(hp (wH I ρ w st.bx (pz.flatMap AV.owns)) (λ_=>none) w vs (h.tabs.mono (zU h.bx _)) (FP h.agree _) (Qp _ _) (RI hv1 hd) _ hX).mono ?_;rintro e w' ⟨⟨v,J,σ,r',bs,rfl,⟨rfl,rfl⟩,hg,hA,hB,hle,hF,_⟩,hXe⟩;have hF':wZ w w' (λ_=>False):=⟨hF.os,hF.tape,hF.output,hF.size,λk hk _=>hF.block k hk (λ⟨b,hb⟩=>yV b k hb),hF.drawn⟩;exact⟨⟨v,rfl,I,ρ,_,k,(h.later hF').uh hd' ⟨λ_=>aet hg hr,λe=>by cases e⟩⟩,hXe,hF.size⟩
theorem XT (h:GX E I ρ n st a w){f:FuncId}{vs:List Value}{pz ds:List AV}{r:AV}{d:Option Nat}{K:eH->Prop}(hd':∀x,d=some x->x<n)(hv:NF I ρ vs pz)(hc:Fp st.bx pz ds)(hd:ds.all (·.all AC.qC)=true)(hp:gY P f ds r)(hr:r.all AC.qC=true)
 (k:K ((st.AU (pz.flatMap AV.owns)).uh d (.v true r))) {X:Ending->World->Prop} (hX:Pq P f vs w X):Calls P f vs.toArray w λe w'=>(∃v,e = .returned v/\AK E n K (a.put d v) w')/\X e w'/\w.heap.size<=w'.heap.size:=by
 have hv1:=Ll h (bs:=pz.flatMap AV.owns) hv hc (λb hb=>hb);refine(hp (wH I ρ w st.bx (pz.flatMap AV.owns)) (λ_=>none) w vs (h.tabs.mono (zU h.bx _)) (FP h.agree _) (Qp _ _) (RI hv1 hd) _ hX).mono ?_;rintro e w' ⟨⟨v,J,σ,r',bs,rfl,⟨rfl,rfl⟩,hg,hA,hB,hle,hF,_,hJ,_⟩,hXe⟩;have hF':wZ w w' (λ_=>False):=⟨hF.os,hF.tape,hF.output,hF.size,λk hk _=>hF.block k hk (λ⟨b,hb⟩=>yV b k hb),hF.drawn⟩;have hJ':∀k,k<w.heap.size->J k=wH I ρ w st.bx (pz.flatMap AV.owns) k:=λk hk=>hJ k hk (λ⟨b,hb⟩=>yV b k hb);refine⟨⟨v,rfl,J,ρ,_,k,?_⟩,hXe,hF.size⟩;generalize hBS:pz.flatMap AV.owns=BS at *;have hIJ:I.le J:=IH.le_trans (zU h.bx BS) hle;have hk:∀k,k<w.heap.size->w'.heap[k]? = w.heap[k]?:= λk hk=>hF'.block k hk (λh=>h);have Ai:∀b k,((st.AU BS).bx b).uses (ρ b) k->(st.bx b).uses (ρ b) k/\¬(∃b' sz es cap,b'∈BS/\st.bx b' = .dat sz es/\ρ b'=some (k,cap)/\cap≠0):=by
  intro b k hu;rw[uI]at hu;by_cases hb:b∈BS
  ·rw[aF hb]at hu;cases hx:st.bx b with
   | var xs=>rw[hx]at hu;refine⟨hu,?_⟩;rintro⟨b',sz,es,cap,_,hb',hr',h0⟩;have:=h.bx.inj b b' k (by rw[hx];exact hu) (by rw[hb'];exact⟨cap,hr',h0⟩);subst this;rw[hx]at hb';cases hb'
   | row e l=>rw[hx]at hu;refine⟨hu,?_⟩;rintro⟨b',sz,es,cap,_,hb',hr',h0⟩;have:=h.bx.inj b b' k (by rw[hx];exact hu) (by rw[hb'];exact⟨cap,hr',h0⟩);subst this;rw[hx]at hb';cases hb'
   |dat sz es=>rw[hx]at hu;exact hu.elim
   |AU sz es=>rw[hx]at hu;exact hu.elim
   |absent=>rw[hx]at hu;exact hu.elim
   |dead=>rw[hx]at hu;exact hu.elim
  ·rw[aj hb]at hu;refine⟨hu,?_⟩;rintro⟨b',sz,es,cap,hm',hb',hr',h0⟩;have:=h.bx.inj b b' k hu (by rw[hb'];exact⟨cap,hr',h0⟩);subst this;exact hb hm'
 have hfr:∀b k,((st.AU BS).bx b).uses (ρ b) k->J k=none:=λb k hu=>by obtain⟨h1,h2⟩:=Ai b k hu;rw[hJ' k ((h.bx.ok b).lt h1)];unfold wH;rw[aj h2];exact h.bx.fresh b k h1
 have hgx:GX E J ρ n (st.AU BS) a w':=by
  refine{ agree:=hA,bx:=⟨λb=>?_,λb b' k hb hb'=>h.bx.inj b b' k (Ai b k hb).1 (Ai b' k hb').1,hfr⟩,tm:=λt ht=>(h.tm t ht).mono hIJ (Ren.le_refl ρ),size:=h.size,defers:=h.defers,ve:=h.ve.trans hF' (λ_ _ hf=>hf.elim),own:=λb k hu=>h.own b k (Ai b k hu).1,Ec:=IH.le_trans h.Ec hIJ,Aj:=λk hk0 hM=>?_,ru:=h.ru }
  ·have hok:=(h.bx.ok b).keep hIJ (Ren.le_refl ρ) rfl (λk hu=>hk k ((h.bx.ok b).lt hu));rw[uI];by_cases hb:b∈BS
   ·rw[aF hb];cases hx:st.bx b with
    | dat sz es=>rw[hx]at hok;obtain⟨kk,cap,hr',hl,hm,hsz,hcs⟩:=hok;refine⟨kk,cap,hr',hl,hm,hsz,λh0=>?_⟩;obtain⟨cs,e,hw,_,_,hrd⟩:=hcs h0;have hu:(st.bx b).uses (ρ b) kk:=(by rw[hx];exact⟨cap,hr',h0⟩);have hlt:=(h.bx.ok b).lt hu;refine⟨cs,?_,hrd⟩;rw[hJ' kk hlt];unfold wH;rw[aF ⟨b,sz,es,cap,hb,hx,hr',h0⟩,<- hk kk hlt,hw]
    |var xs=>rw[hx]at hok;exact hok
    |row e l=>rw[hx]at hok;exact hok
    |AU sz es=>rw[hx]at hok;exact hok
    |absent=>rw[hx]at hok;exact hok
    |dead=>rw[hx]at hok;exact hok
   ·rw[aj hb];exact hok
  ·have hlt:k<w.heap.size:=fU hk0 h.ve.size;rw[hJ' k hlt];unfold wH;rw[aj]
   ·exact h.Aj k hk0 hM
   ·rintro⟨b',sz,es,cap,_,hb',hr',h0⟩;rcases h.own b' k (by rw[hb'];exact⟨cap,hr',h0⟩)with h1|h1
    ·omega
    ·exact hM h1
 exact hgx.uh hd' ⟨λ_=>WC hg hr,λe=>by cases e⟩
end
end
section
section
variable {P:Program} {E:Env P} {I:IH} {ρ:Ren} {n:Nat} {st:eH} {a:Act} {w:World}
theorem En (l:List (Nat×Box))(st:eH){b:Nat}(h:b ∉ l.map (·.1)):(st.mW l).bx b=st.bx b:=by
 induction l generalizing st with
 |nil=>rfl
 | cons x l ih=>obtain⟨c,x⟩:=x;simp only[bf,au,not_or]at h;simp only[eH.mW,ih _ h.2,eH.lC];rw[aj h.1]
theorem abr (l:List (Nat×Box))(st:eH)(hn:(l.map (·.1)).Nodup){j b:Nat}{x:Box}(h:l[j]? = some (b,x)):(st.mW l).bx b=x:=by
 induction l generalizing st j with
 |nil=>simp at h
 | cons y l ih=>
   obtain⟨c,y⟩:=y;simp only[bf,rO]at hn;cases j with
   | zero=>simp at h;obtain⟨rfl,rfl⟩:=h;simp only[eH.mW];rw[En _ _ hn.1,eH.lC,aF rfl]
   | succ j=>simp only[eH.mW];exact ih _ hn.2 (by simpa using h)
theorem Qc {π:Nat->Nat}{I:IH}{ρ σ:Ren}{m:Nat}{v:Value}{x:AC}(h:GC I ρ v (EW π x))(hl:x.qG m=true)(hs:∀b y,b<m->ρ (π b)=some y->σ b=some y):GC I σ v x:=by
 cases x with
 |c y=>exact h
 |ptr b off=>obtain⟨k,cap,h1,h2⟩:=h;exact⟨k,cap,hs _ _ (by simpa[AC.qG]using hl) h1,h2⟩
 |own b n sz=>obtain⟨k,cap,a,c,h1,h2⟩:=h;exact⟨k,cap,a,c,hs _ _ (by simpa[AC.qG]using hl) h1,h2⟩
 |sub b lo n c sz=>obtain⟨k,cap,a,c',h1,h2⟩:=h;exact⟨k,cap,a,c',hs _ _ (by simpa[AC.qG]using hl) h1,h2⟩
 |opt T b=>obtain⟨k,h1,h2⟩:=h;exact⟨k,hs _ _ (by simpa[AC.qG]using hl) h1,h2⟩
 |FH b n=>obtain⟨k,cap,h1,h2⟩:=h;exact⟨k,cap,hs _ _ (by simpa[AC.qG]using hl) h1,h2⟩
 |ug b i sz off=>obtain⟨k,cap,h1,h2⟩:=h;exact⟨k,cap,hs _ _ (by simpa[AC.qG]using hl) h1,h2⟩
 |wC sz=>exact h
 |zQ cs=>exact h
 |err g=>exact h
 |Ee=>exact h
 | fn f caps=>obtain⟨ks,h1,h2,h3⟩:=h;refine⟨ks,by simpa using h1,λj b k hb hk=>?_,h3⟩;obtain⟨cap,hc⟩:=h2 j (π b) k (by simp[hb]) hk;refine⟨cap,hs _ _ ?_ hc⟩;have:=aB.1 hl b (dX hb);simpa using this
theorem WB {π:Nat->Nat}{I:IH}{ρ σ:Ren}{m:Nat}{vs:List Value}{xs:List AC}(h:EE I ρ vs (xs.map (EW π)))(hl:xs.all (AC.qG m)=true)(hs:∀b y,b<m->ρ (π b)=some y->σ b=some y):EE I σ vs xs:=
 ⟨by simpa using h.1,λj v x hv hx=>Qc (h.2 j v (EW π x) hv (by simp[hx])) (aB.1 hl x (dX hx)) hs⟩
theorem aev {π:Nat->Nat}{I:IH}{ρ σ:Ren}{m:Nat}{v:Value}{x:AV}(h:GV I ρ v (zi π x))(hl:x.all (AC.qG m)=true)(hs:∀b y,b<m->ρ (π b)=some y->σ b=some y):GV I σ v x:=by
 cases x with
 |one x=>exact Qc h hl hs
 |agg xs=>obtain⟨cs,rfl,hg⟩:=h;exact⟨cs,rfl,WB hg hl hs⟩
 | Bl ps=>
   obtain⟨vs,rfl,hz,hp⟩:=h;refine⟨vs,rfl,by simpa using hz,λj v p hv hq=>?_⟩;have h1:=hp j v _ hv (by rw[aP,hq];rfl);have h2:=aB.1 hl p (dX hq);unfold GP at h1⊢;simp only at h1;split at h1
   ·rename_i hb;rw[aF hb];obtain⟨cs,rfl,hg⟩:=h1;exact⟨cs,rfl,WB hg h2 hs⟩
   ·rename_i hb;rw[aj hb];obtain⟨x,hx,hg⟩:=h1;cases hp2:p.2 with
    |nil=>rw[hp2]at hx;simp at hx
    | cons y t=>rw[hp2]at hx h2;simp at hx;obtain⟨rfl,rfl⟩:=hx;exact⟨y,rfl,Qc hg (by simpa using h2) hs⟩
theorem Qb {π:Nat->Nat}{I:IH}{ρ σ:Ren}{v:Value}{x:AC}(h:GC I σ v x)(hs:∀b y,σ b=some y->ρ (π b)=some y):GC I ρ v (EW π x):=by
 cases x with
 |c y=>exact h
 |ptr b off=>obtain⟨k,cap,h1,h2⟩:=h;exact⟨k,cap,hs _ _ h1,h2⟩
 |own b n sz=>obtain⟨k,cap,a,c,h1,h2⟩:=h;exact⟨k,cap,a,c,hs _ _ h1,h2⟩
 |sub b lo n c sz=>obtain⟨k,cap,a,c',h1,h2⟩:=h;exact⟨k,cap,a,c',hs _ _ h1,h2⟩
 |opt T b=>obtain⟨k,h1,h2⟩:=h;exact⟨k,hs _ _ h1,h2⟩
 |FH b n=>obtain⟨k,cap,h1,h2⟩:=h;exact⟨k,cap,hs _ _ h1,h2⟩
 |ug b i sz off=>obtain⟨k,cap,h1,h2⟩:=h;exact⟨k,cap,hs _ _ h1,h2⟩
 |wC sz=>exact h
 |zQ cs=>exact h
 |err g=>exact h
 |Ee=>exact h
 | fn f caps=>
   obtain⟨ks,h1,h2,h3⟩:=h;refine⟨ks,by simpa using h1,λj b k hb hk=>?_,h3⟩;rw[aP]at hb;cases hc:caps[j]? with
   |none=>rw[hc]at hb;cases hb
   | some c=>rw[hc]at hb;simp at hb;subst hb;obtain⟨cap,hc'⟩:=h2 j c k hc hk;exact⟨cap,hs _ _ hc'⟩
theorem WA {π:Nat->Nat}{I:IH}{ρ σ:Ren}{vs:List Value}{xs:List AC}(h:EE I σ vs xs)(hs:∀b y,σ b=some y->ρ (π b)=some y):EE I ρ vs (xs.map (EW π)):=by
 refine⟨by simpa using h.1,λj v x hv hx=>?_⟩;rw[aP]at hx;cases hc:xs[j]? with
 |none=>rw[hc]at hx;cases hx
 | some c=>rw[hc]at hx;simp at hx;subst hx;exact Qb (h.2 j v c hv hc) hs
theorem aeu {π:Nat->Nat}{I:IH}{ρ σ:Ren}{v:Value}{x:AV}(h:GV I σ v x)(hs:∀b y,σ b=some y->ρ (π b)=some y):GV I ρ v (zi π x):=by
 cases x with
 |one x=>exact Qb h hs
 |agg xs=>obtain⟨cs,rfl,hg⟩:=h;exact⟨cs,rfl,WA hg hs⟩
 | Bl ps=>
   obtain⟨vs,rfl,hz,hp⟩:=h;refine⟨vs,rfl,by simpa using hz,λj v p hv hq=>?_⟩;rw[aP]at hq;cases hc:ps[j]? with
   |none=>rw[hc]at hq;cases hq
   | some q=>
     rw[hc]at hq;simp at hq;subst hq;have h1:=hp j v q hv hc;unfold GP at h1⊢;simp only;split at h1
     ·rename_i hb;rw[aF hb];obtain⟨cs,rfl,hg⟩:=h1;exact⟨cs,rfl,WA hg hs⟩
     ·rename_i hb;rw[aj hb];obtain⟨x,hx,hg⟩:=h1;exact⟨EW π x,by rw[hx];rfl,Qb hg hs⟩
theorem XP {π:Nat->Nat}{I:IH}{ρ σ:Ren}{m:Nat}{w:World}{b:Nat}{x:Box}(h:vG I ρ w (π b) (yc π x))(hl:x.qG m=true)(hb:σ b=ρ (π b))(hs:∀b y,b<m->ρ (π b)=some y->σ b=some y):vG I σ w b x:=by
 cases x with
 |absent=>exact hb.trans h
 |dead=>trivial
 | var xs=>obtain⟨k,cap,cs,hr,hw,hz,hc⟩:=h;refine⟨k,cap,cs,hb.trans hr,hw,by simpa using hz,λj u x hu hx=>Qc (hc j u (EW π x) hu (by simp[hx])) (aB.1 hl x (dX hx)) hs⟩
 |dat sz es=>obtain⟨k,cap,hr,h⟩:=h;exact⟨k,cap,hb.trans hr,h⟩
 |row e l=>obtain⟨k,cap,hr,h⟩:=h;exact⟨k,cap,hb.trans hr,h⟩
 |AU sz es=>obtain⟨k,cap,hr,h⟩:=h;exact⟨k,cap,hb.trans hr,h⟩
theorem XO {π:Nat->Nat}{I:IH}{ρ σ:Ren}{w:World}{b:Nat}{x:Box}(h:vG I σ w b x)(hb:ρ (π b)=σ b)(hs:∀b y,σ b=some y->ρ (π b)=some y):vG I ρ w (π b) (yc π x):=by
 cases x with
 |absent=>exact hb.trans h
 |dead=>trivial
 | var xs=>
   obtain⟨k,cap,cs,hr,hw,hz,hc⟩:=h;refine⟨k,cap,cs,hb.trans hr,hw,by simpa using hz,λj u x hu hx=>?_⟩;rw[aP]at hx;cases hc':xs[j]? with
   |none=>rw[hc']at hx;cases hx
   | some c=>rw[hc']at hx;simp at hx;subst hx;exact Qb (hc j u c hu hc') hs
 |dat sz es=>obtain⟨k,cap,hr,h⟩:=h;exact⟨k,cap,hb.trans hr,h⟩
 |row e l=>obtain⟨k,cap,hr,h⟩:=h;exact⟨k,cap,hb.trans hr,h⟩
 |AU sz es=>obtain⟨k,cap,hr,h⟩:=h;exact⟨k,cap,hb.trans hr,h⟩
theorem Cf {π:Nat->Nat}{x:Box}{p:Option (Nat×Nat)}{k:Nat} : (yc π x).uses p k<->x.uses p k:=by cases x<;>exact Iff.rfl
theorem We {l:List Box}{b:Nat}(h:b<l.length):l[b]? = some (yU l b):=by unfold yU;rw[aY,ai h];rfl
theorem KN {l:List Box}{b:Nat}(h:l.length<=b):yU l b = .absent:=by unfold yU;rw[aY,iq h];rfl
theorem Rn (h:GX E I ρ n st a w)(hm:E.m<=10){f:FuncId}{vs:List Value}{pz ds:List AV}{d:Option Nat}{K:eH->Prop}{fp:List Box}{L nu:List Nat}{post:AV->List Box->Prop}{sg:List Nat}(hL:sg++nu=L)(hd':∀x,d=some x->x<n)(hv:NF I ρ vs pz)
 (hl:sg.length=fp.length) (hn:L.Nodup) (hf:∀i,i<fp.length->st.bx (L.getD i 0)=yc (λb=>L.getD b 0) (fp.getD i .absent))
 (hnu:∀b,b∈nu->st.bx b = .absent/\10<=b) (hra:(ds.all λx=>x.all (AC.qG fp.length))=true) (hrf:fp.all (Box.qG fp.length)=true) (ha:pz=ds.map (zi λb=>L.getD b 0)) (hp:xm P f ds fp post)
 (k:∀r bs,post r bs->bs.length=L.length/\K ((st.mW (L.zip (bs.map (yc λb=>L.getD b 0)))).uh d (.v true (zi (λb=>L.getD b 0) r)))) {X:Ending->World->Prop} (hX:Pq P f vs w X) :
 Calls P f vs.toArray w λe w'=>(∃v,e = .returned v/\AK E n K (a.put d v) w')/\X e w'/\w.heap.size<=w'.heap.size:=by
 generalize hπ:(λb=>L.getD b 0)=π at hf ha k;have agn:∀b,L.getD b 0=π b:=λb=>congrFun hπ b;have hLl:fp.length<=L.length:=by rw[<- hL];simp;omega
 have LM:∀b,b<L.length->L[b]? = some (π b):=λb hb=>by rw[<- agn,aY,ai hb];rfl
 have aau:∀b,b<L.length->π b∈L:=λb hb=>dX (LM b hb);have aat:∀b b',b<L.length->b'<L.length->π b=π b'->b=b':=λb b' hb hb' e=>by
  have h1:=LM b hb;have h2:=LM b' hb';rw[ai hb]at h1;rw[ai hb']at h2;simp at h1 h2;have hpw:=pq.1 hn;rcases tH b b' with hlt|heq|hlt
  ·exact dO (by rw[h1,h2,e]) (hpw b b' hb hb' hlt)
  ·exact heq
  ·exact dO (by rw[h1,h2,e]) (hpw b' b hb' hb hlt)
 let Zp:Ren:=λb=>if b<fp.length then ρ (π b)else none
 have hs:∀b y,b<fp.length->ρ (π b)=some y->Zp b=some y:=λb y hb e=>by simp[Zp,hb,e]
 have hfb:∀b,b<fp.length->st.bx (π b)=yc π (yU fp b):=λb hb=>by have:=hf b hb;rw[agn]at this;exact this
 have hub:∀b k,(yU fp b).uses (Zp b) k->b<fp.length/\(st.bx (π b)).uses (ρ (π b)) k:=λb k hu=>by
  by_cases hb:b<fp.length
  ·refine⟨hb,?_⟩;rw[hfb b hb,Cf];simpa[Zp,hb]using hu
  ·rw[KN aQ]at hu;exact hu.elim
 have hBX:BX I Zp w (yU fp):=by
  refine⟨λb=>?_,λb b' k hb hb'=>?_,λb k hb=>?_⟩
  ·by_cases hb:b<fp.length
   ·have:=h.bx.ok (π b);rw[hfb b hb]at this;exact XP this (aB.1 hrf _ (dX (We hb))) (by simp[Zp,hb]) hs
   ·rw[KN aQ];show Zp b=none;simp[Zp,hb]
  ·obtain⟨h1,h2⟩:=hub b k hb;obtain⟨h1',h2'⟩:=hub b' k hb';exact aat b b' aQ aQ (h.bx.inj _ _ _ h2 h2')
  ·exact h.bx.fresh _ _ (hub b k hb).2
 have hGV:NF I Zp vs ds:=by subst ha;refine⟨by simpa using hv.1,λj v x hv' hx=>?_⟩;exact aev (hv.2 j v (zi π x) hv' (by simp[hx])) (aB.1 hra x (dX hx)) hs
 refine(hp I Zp w vs h.tabs h.agree hBX hGV _ hX).mono ?_;rintro e w' ⟨⟨v,J,σ,r,bs,rfl,hpost,hg,hA,hB,hle,hF,hbw,hJ,hσ⟩,hXe⟩;obtain⟨hbl,hk⟩:=k r bs hpost;refine⟨⟨v,rfl,?_⟩,hXe,hF.size⟩;have ahT:∀b,L.length<=b->σ b=none:=λb hb=>by have:=hB.ok b;rw[KN aQ]at this;exact this
 let ρ':Ren:=λb=>open Classical in if b∈L then σ (L.idxOf b)else ρ b
 have GU:∀b,b<L.length->ρ' (π b)=σ b:=λb hb=>by
  have h1:=aau b hb;simp only[ρ',h1,iT];have hi:=List.idxOf_lt_length_of_mem h1;have h2:L[L.idxOf (π b)]? = some (π b):=by rw[ai hi];simp
  have h3:=LM _ hi;rw[h2]at h3;simp only[aI]at h3;rw[<- aat _ _ hb hi h3]
 have RS:∀b,b ∉ L->ρ' b=ρ b:=λb hb=>by simp[ρ',hb]
 have hin:∀b,b∈L->∃i,i<L.length/\π i=b:=λb hb=>by
  have hi:=List.idxOf_lt_length_of_mem hb;refine⟨_,hi,?_⟩;have h2:L[L.idxOf b]? = some b:=by rw[ai hi];simp
  have h3:=LM _ hi;rw[h2]at h3;simpa using h3.symm
 have adT:∀i,fp.length<=i->i<L.length->π i∈nu:=λi h1 h2=>by have h3:=LM i h2;rw[<- hL,bZ aQ]at h3;exact dX h3
 have hle':ρ.le ρ':=λb y hb=>by
  by_cases hm':b∈L
  ·obtain⟨i,hi,rfl⟩:=hin b hm';rw[GU i hi];by_cases hif:i<fp.length
   ·rw[hσ i hif];exact hs i y hif hb
   ·have h1:=(hnu _ (adT i aQ hi)).1;have h2:=h.bx.ok (π i);rw[h1]at h2;rw[show ρ (π i)=none from h2]at hb;cases hb
  ·rw[RS b hm'];exact hb
 have agi:∀b y,σ b=some y->ρ' (π b)=some y:=λb y hb=>by
  by_cases hbL:b<L.length
  ·rw[GU b hbL];exact hb
  ·rw[ahT b aQ]at hb;cases hb
 have hlz:(L.zip (bs.map (yc π))).map (·.1)=L:=by rw[List.map_fst_zip];simp[hbl]
 have Yd:∀i,i<L.length->(st.mW (L.zip (bs.map (yc π)))).bx (π i)=yc π (yU bs i):=λi hi=>by refine abr _ _ (by rw[hlz];exact hn) (j:=i) ?_;rw[List.getElem?_zip_eq_some];exact⟨LM i hi,by rw[aP,We aQ];rfl⟩
 have hbx2:∀b,b ∉ L->(st.mW (L.zip (bs.map (yc π)))).bx b=st.bx b:=λb hb=>En _ _ (by rw[hlz];exact hb);have hnot:∀b k,b ∉ L->(st.bx b).uses (ρ b) k->k<w.heap.size/\¬ ∃b',(yU fp b').uses (Zp b') k:=λb k hb hu=>by refine⟨(h.bx.ok b).lt hu,?_⟩;rintro⟨b',hb'⟩;obtain⟨h1,h2⟩:=hub b' k hb';have:=h.bx.inj _ _ _ hu h2;exact hb (this▸aau b' aQ)
 have hother:∀b k,b ∉ L->(st.bx b).uses (ρ b) k->w'.heap[k]? = w.heap[k]?:= λb k hb hu=>let ⟨h1,h2⟩:=hnot b k hb hu;hF.block k h1 h2;have af7:∀i k,i<L.length->(yU bs i).uses (σ i) k->∀b,b ∉ L->¬(st.bx b).uses (ρ b) k:=λi k hi hu b hb hu'=>by
  obtain⟨h1,h2⟩:=hnot b k hb hu';rcases hbw i k hu with h3|h3
  ·omega
  ·exact h2 h3
 generalize hst:st.mW (L.zip (bs.map (yc π)))=st' at *;have Yf:st'.tm=st.tm:=by rw[<- hst,Hy]
 have hgx:GX E J ρ' n st' a w':=by
  refine{ agree:=hA,bx:=⟨λb=>?_,λb b' k hb hb'=>?_,λb k hb=>?_⟩,tm:=λt ht=>?_,size:=h.size,defers:=h.defers,ve:=?_,own:=λb k hb=>?_,Ec:=IH.le_trans h.Ec hle,Aj:=λk hk0 hM=>?_,ru:=λb hb=>?_ }
  ·by_cases hb:b∈L
   ·obtain⟨i,hi,rfl⟩:=hin b hb;rw[Yd i hi];exact XO (hB.ok i) (GU i hi) agi
   ·rw[hbx2 b hb];exact(h.bx.ok b).keep hle hle' (RS b hb) (λk hu=>hother b k hb hu)
  ·by_cases hbL:b∈L
   ·obtain⟨i,hi,rfl⟩:=hin b hbL;rw[Yd i hi,Cf,GU i hi]at hb;by_cases RN:b'∈L
    ·obtain⟨i',hi',rfl⟩:=hin b' RN;rw[Yd i' hi',Cf,GU i' hi']at hb';rw[hB.inj _ _ _ hb hb']
    ·rw[hbx2 b' RN,RS b' RN]at hb';exact dO hb' (af7 i k hi hb b' RN)
   ·rw[hbx2 b hbL,RS b hbL]at hb;by_cases RN:b'∈L
    ·obtain⟨i',hi',rfl⟩:=hin b' RN;rw[Yd i' hi',Cf,GU i' hi']at hb';exact dO hb (af7 i' k hi' hb' b hbL)
    ·rw[hbx2 b' RN,RS b' RN]at hb';exact h.bx.inj _ _ _ hb hb'
  ·by_cases hbL:b∈L
   ·obtain⟨i,hi,rfl⟩:=hin b hbL;rw[Yd i hi,Cf,GU i hi]at hb;exact hB.fresh _ _ hb
   ·rw[hbx2 b hbL,RS b hbL]at hb;obtain⟨h1,h2⟩:=hnot b k hbL hb;rw[hJ k h1 h2];exact h.bx.fresh _ _ hb
  ·rw[Yf];exact(h.tm t ht).mono hle hle'
  ·refine h.ve.trans hF ?_;rintro x hx ⟨b',hb'⟩;rcases h.own _ _ (hub b' x hb').2 with h1|h1
   ·omega
   ·exact h1
  ·by_cases hbL:b∈L
   ·obtain⟨i,hi,rfl⟩:=hin b hbL;rw[Yd i hi,Cf,GU i hi]at hb;rcases hbw i k hb with h1|⟨b',hb'⟩
    ·exact .inl (dh h.ve.size h1)
    ·exact h.own _ _ (hub b' k hb').2
   ·rw[hbx2 b hbL,RS b hbL]at hb;exact h.own _ _ hb
  ·rw[hJ k (fU hk0 h.ve.size)]
   ·exact h.Aj k hk0 hM
   ·rintro⟨b',hb'⟩;rcases h.own _ _ (hub b' k hb').2 with h1|h1
    ·omega
    ·exact hM h1
  ·by_cases hbL:b∈L
   ·obtain⟨i,hi,rfl⟩:=hin b hbL;rw[GU i hi];by_cases hif:i<fp.length
    ·rw[hσ i hif,<- h.ru _ hb];simp[Zp,hif]
    ·have:=(hnu _ (adT i aQ hi)).2;omega
   ·rw[RS b hbL];exact h.ru b hb
 exact⟨J,ρ',_,hk,hgx.uh hd' ⟨λ_=>aeu hg agi,λe=>by cases e⟩⟩
end
end
section
section
variable {P:Program} {E:Env P} {I:IH} {ρ:Ren} {n:Nat} {st:eH} {a:Act} {w:World}
def Gx (n:Nat):List Operand->List jR->Bool
 |[],[]=>true
 |x::xs,y::ys=>iM n x y&&Gx n xs ys
 |_,_=>false
def DW (n:Nat)(ops:Array Oper):Option (Nat×Bool)->Option (Nat×Bool)->Bool
 |none,none=>true
 |some (j,w),some (s,w')=>w==w'&&decide (s<n)&&(match ops[j]? with|some o=>o.dst==some s|none=>false)
 |_,_=>false
def UG (n:Nat):Option Nat->Option Nat->Bool
 |none,none=>true
 |some x,some y=>x==y&&decide (x<n)
 |_,_=>false
def KY (P:Program)(n m:Nat)(op:Op)(d:Option Nat):Kv->Bool
 |.op ao=>JG P n m op d ao
 | .call f args=>match op with
   |.call ⟨.value (.func f'),az,_⟩=>f'==f&&Gx n az.toList args&&yN P f
   |_=>false
 | .DR x args=>match op with
   |.call ⟨.value x',az,_⟩=>iM n x' x&&Gx n az.toList args
   |_=>false
def CJ (P:Program)(n m:Nat)(ops:Array Oper)(o:Oper)(ao:iR):Bool:=
 DW n ops o.guard ao.g&&UG n o.dst ao.d&&KY P n m o.op o.dst ao.i
theorem Ho (h:GX E I ρ n st a w):∀{xs:List Operand} {ys:List jR},Gx n xs ys=true->(∀y,y∈ys->(y.ev st.tm).g=true) ->
 NF I ρ (xs.map a.eval) (ys.map (bW st.tm))
 |[],[],_,_=>⟨rfl,λj v x hv hx=>by simp at hv⟩
 | x::xs,y::ys,hc,hg=>by
   simp only[Gx,af]at hc;have ih:=Ho h hc.2 (λy hy=>hg y (bU _ hy));refine⟨by simpa using ih.1,λj v z hv hz=>?_⟩;cases j with
   | zero=>simp at hv hz;subst hv;subst hz;exact jF h hc.1 (hg y (aJ ..))
   |succ j=>exact ih.2 j v z (by simpa using hv) (by simpa using hz)
 |[],_::_,hc,_=>by cases hc
 |_::_,[],hc,_=>by cases hc
theorem ZW {d d':Option Nat}(h:UG n d d'=true):d=d'/\∀x,d'=some x->x<n:=by
 unfold UG at h;split at h
 ·exact⟨rfl,λx hx=>by cases hx⟩
 ·simp only[af,aK,ak]at h;obtain⟨rfl,h2⟩:=h;exact⟨rfl,λx hx=>by cases hx;exact h2⟩
 ·cases h
theorem RH (h:GX E I ρ n st a w){ops:Array Oper}{o:Oper}{g:Option (Nat×Bool)}(hc:DW n ops o.guard g=true)(hv:xe st.tm g) :
 uo o (yielded ops a.tmps)=mF st.tm g:=by
 unfold DW at hc;split at hc
 ·rename_i e;simp[uo,e,mF]
 ·rename_i j wnt s ajy e;simp only[af,aK,ak]at hc;obtain⟨⟨rfl,hs⟩,hj⟩:=hc;have hb:(ops[j]?).bind (·.dst)=some s:=by
   cases hoj:ops[j]? with
   |none=>rw[hoj]at hj;cases hj
   |some o'=>rw[hoj]at hj;simpa using hj
  have ht:=h.tm s hs;have hsz:s<a.tmps.size:=by rw[h.size];exact hs
  have hget:a.tmps[s]? = some (a.tmps.getD s undef):=by simp[Array.getD,hsz]
  simp only[uo,e,mF,yielded,hb,Option.bind_some,hget];simp only[xe]at hv;split at hv
  ·rename_i x hg;rw[hg]at ht;have:=ht.2 rfl;rw[this,hg];simp[undef]
  ·rename_i b hg;rw[hg]at ht;have:=CS (ht.1 rfl);rw[this,hg];simp
  ·exact hv.elim
 ·cases hc
theorem y5 {o:Oper}{x:Operand}{az:Array Operand}{ts:Array TypeId}{f:FuncId}{caps:Array Value}(ho:o.op = .call ⟨.value x,az,ts⟩)(hx:a.eval x = .func (.func f) #[] caps)(hf:yN P f=true) :
 (execOp a.eval o).run P w = .ok (.enter f (az.map a.eval++caps)) w:=by
 unfold yN at hf;cases hp:P.funcs[f]? with
 |none=>rw[hp]at hf;cases hf
 | some fn=>
   rw[hp]at hf;simp only[af,gG]at hf;obtain⟨h1,h2⟩:=hf;have h1':¬fn.name = "runtime.NumGoroutine" :=by simpa using h1
   obtain⟨b,hb⟩:=jB.1 h2;simp[execOp,ho,resolve,hx,Go.Deferred.ofValue,invoke,callFunc,hp,h1',hb]
theorem Dj {o:Oper}{f:FuncId}{args:Array Value}{K:Act->World->Prop}{Q:Exit->Act->World->Prop}(he:(execOp a.eval o).run P w = .ok (.enter f args) w)
 (h:Calls P f args w λe w'=>∃v,e = .returned v/\K (a.put o.dst v) w'):o.wp P a w K Q:=by
 unfold qR;rw[he,Oper.upon_enter];refine h.mono ?_;rintro e w' ⟨v,rfl,hk⟩;exact hk
theorem Bj (h:GX E I ρ n st a w)(hm:E.m<=10){f:FuncId}{vs:List Value}{pz:List AV}{d:Option Nat}{K:List Nat->List Nat->eH->Prop}(hd:∀x,d=some x->x<n)(hv:NF I ρ vs pz)
 (hT:E8 P f pz true d st K) {X:Ending->World->Prop} (hX:Pq P f vs w X):Calls P f vs.toArray w λe w'=>(∃v,e = .returned v/\AK E n (λst=>∃rd wr,K rd wr st) (a.put d v) w')/\X e w'/\w.heap.size<=w'.heap.size:=by
 cases hT with
 |lit ds r hc hds hh hr k=>exact ZI h hd hv (hc rfl) hds (hh rfl) hr ⟨_,_,k⟩ hX
 |pure ds r hp hc hds hh hr k=>exact XT h hd hv hc hds hh hr ⟨_,_,k⟩ hX
 | LJ hp az hc ds fp sg nu post hl hn hf hne hnu hra hrf ha hh k=>have hv':=Ll h (bs:=pz.flatMap AV.owns) hv hc (λb hb=>hb);have h':=h.freeze (pz.flatMap AV.owns);refine Rn h' hm rfl hd hv' hl hn hf (λb hb=>⟨?_,(hnu b hb).2⟩) hra hrf ha hh (λr bs hpo=>⟨(k r bs hpo).1,_,_,(k r bs hpo).2⟩) hX;rw[uI,(hnu b hb).1];split<;>rfl
 |gen hp ds fp sg nu post hl hn hf hne hnu hra hrf ha hh k=>exact Rn h hm rfl hd hv hl hn hf hnu hra hrf ha hh (λr bs hpo=>⟨(k r bs hpo).1,_,_,(k r bs hpo).2⟩) hX
theorem Di {f:FuncId}{pz:List AV}{d:Option Nat}{K:List Nat->List Nat->eH->Prop}(hT:E8 P f pz false d st K):∃r rd wr,K rd wr (st.uh d (.v false r)):=by
 cases hT with
 |lit ds r hc hds hh hr k=>exact⟨_,_,_,k⟩
 |pure ds r hp=>cases hp
 |gen hp=>cases hp
 |LJ hp=>cases hp
def zq (P:Program)(ops:Array Oper)(Q:Exit->Act->World->Prop)(o:Oper)(K:Act->World->Prop)(a:Act)(w:World):Prop:=
 if uo o (yielded ops a.tmps)then o.wp P a w K Q\/(o.asks P a w/\LetsOut Q)else K (a.put o.dst undef) w
theorem AK.imp {K K':eH->Prop}(hk:∀st,K st->K' st){a:Act}{w:World}(h:AK E n K a w):AK E n K' a w:=
 let ⟨I,ρ,st,h1,h2⟩:=h;⟨I,ρ,st,hk _ h1,h2⟩
theorem V4 (h:GX E I ρ n st a w)(hm:E.m<=10){ops:Array Oper}{Q:Exit->Act->World->Prop}{o:Oper}{ao:iR}(hc:CJ P n E.m ops o ao=true){K:List Nat->List Nat->eH->Prop}(hT:T P ao st K) :
 zq P ops Q o (AK E n λst=>∃rd wr,K rd wr st) a w:=by
 simp only[CJ,af]at hc;obtain⟨⟨hcg,hcd⟩,hci⟩:=hc;obtain⟨hdd,hdn⟩:=ZW hcd;obtain⟨hgv,hT⟩:=hT;have hw:=RH h hcg hgv;have skip:∀r,(∃rd wr,K rd wr (st.uh ao.d (.v false r)))->AK E n (λst=>∃rd wr,K rd wr st) (a.put o.dst undef) w:=λr hk=>⟨I,ρ,_,hk,by rw[hdd];exact h.uh hdn ⟨(λe=>by cases e),λ_=>rfl⟩⟩;unfold zq;rw[hw];cases hi:ao.i with
 | op op=>
   rw[hi]at hT hci;obtain⟨h1,h2⟩:=hT;cases hp:mF st.tm ao.g with
   | false=>simpa using skip _ ⟨_,_,h2 hp⟩
   | true=>
     obtain⟨hv,gI,h3⟩:=h1 hp;obtain⟨v,w',I',ρ',hr,hg,aeD,heff⟩:=SQ h hci hv gI;simp only[iT];refine .inl ?_;have key:AK E n (λst=>∃rd wr,K rd wr st) (a.put o.dst v) w':=by
      refine⟨I',ρ',_,⟨_,_,h3⟩,?_⟩;rw[hdd];cases hd:ao.d with
      |none=>exact hg
      |some d=>exact hg.put (hdn d hd) ⟨λ_=>aeD (by rw[hdd,hd];simp),λe=>by cases e⟩
     unfold qR;rcases hr with hr|⟨hr,hnd⟩
     ·rw[hr];exact key
     ·rw[hr,wX];rw[hnd]at key⊢;exact key
 | call f args=>
   rw[hi]at hT hci;simp only[KY]at hci;split at hci
   ·rename_i f' az ts ho;simp only[af,aK]at hci;obtain⟨⟨rfl,hca⟩,hok⟩:=hci;obtain⟨h1,h2⟩:=hT;cases hp:mF st.tm ao.g with
    | false=>rw[hp]at h2;obtain⟨r,hk⟩:=Di h2;simpa using skip r hk
    | true=>rw[hp]at h1 h2;simp only[iT];refine .inl (Dj (y5 ho (x:=.func f') (caps:= #[]) rfl hok) ?_);have hvs:=Ho h hca (h1 rfl);have:=(Bj h hm hdn hvs h2 .QN).mono λ_ _ h=>h.1;rw[hdd];simpa[<- Array.toList_map]using this
   ·cases hci
 | DR x args=>
   rw[hi]at hT hci;simp only[KY]at hci;split at hci
   ·rename_i x' az ts ho;simp only[af]at hci;obtain⟨hcx,hca⟩:=hci;obtain⟨hg0,h2⟩:=hT;cases hp:mF st.tm ao.g with
    | false=>rw[hp]at h2;obtain⟨r,hk⟩:=Di h2;simpa using skip r hk
    |true=>
    rw[hp]at h2;obtain⟨hg1,h1⟩:=hg0 hp;split at h2
    ·rename_i hb;cases hb
    ·rename_i f caps _ hf;obtain⟨hok,h2⟩:=h2;have hx:=jF h hcx hg1;rw[hf]at hx;obtain⟨ks,hk1,hk2,hk3⟩:=hx
     ·skip
      simp only[iT];refine .inl (Dj (y5 ho hk3 hok) ?_);have hvs:=Ho h hca h1;have hvs':NF I ρ (az.toList.map a.eval++ks.map λk=>kV (some ⟨k,0,none⟩)) (args.map (bW st.tm)++caps.map λb=>AV.one (.ptr b 0)):=by
       refine⟨by have:=hvs.1;simp at this;simp[hk1,this],λj v z hv hz=>?_⟩;by_cases hj:j<(az.toList.map a.eval).length
       ·rw[aX hj]at hv;rw[aX (by rw[<- hvs.1];exact hj)]at hz;exact hvs.2 j v z hv hz
       ·rw[bZ aQ]at hv;rw[bZ (by rw[<- hvs.1];omega)]at hz;rw[hvs.1]at hv;generalize j-(args.map (bW st.tm)).length=i at hv hz;rw[aP]at hv hz;cases hki:ks[i]? with
        |none=>rw[hki]at hv;cases hv
        | some k=>
          cases hci:caps[i]? with
          |none=>rw[hci]at hz;cases hz
          | some b=>rw[hki]at hv;rw[hci]at hz;simp at hv hz;subst hv;subst hz;obtain⟨cap,hr⟩:=hk2 i b k hci hki;exact⟨k,cap,hr,rfl⟩
      have:=(Bj h hm hdn hvs' h2 .QN).mono λ_ _ h=>h.1;rw[hdd];have e:(az.map a.eval++(ks.map λk=>kV (some ⟨k,0,none⟩)).toArray)=(az.toList.map a.eval++ks.map λk=>kV (some ⟨k,0,none⟩)).toArray:=(by apply sS;simp);rw[e];exact this
    ·exact h2.elim
   ·cases hci
end
end
section
def zC (d:Option Nat)(Γ : List OF):List OF:= Γ.filter λf=>match d with
 |some d=>Ar d f
 |none=>true
def EH (Γ : List OF):Operand->Option (Bool×Knd)
 |.func f=>some (false,kindOf f)
 | .tmp t=>(Γ.filterMap λf=>match f with
   |.fn y s=>if y=t then some (true,match s with|0=>Knd.rd|s+1=>Knd.ow (Z9 s))else none
   |_=>none).head?
 |_=>none
def aeL (Γ : List OF)(x:Operand):Bool:=match EH Γ x with
 |some (_,.rd)=>true
 |_=>false
def I9 (Γ : List OF):Op->Bool
 |.call ⟨.value x,_,_⟩=>aeL Γ x
 |op=>vP op
def aeq (s f n:Nat):Bool:=match s with
 |0=>kindOf f == .rd
 |s+1=>(match kindOf f with|.ow sg=>sg.ps==(Z9 s).ps++bG n .any&&sg.rs==(Z9 s).rs|_=>false)
def MB (P:Program)(Γ : List OF)(o:Oper):Option (List OF):=match o.op with
 | .call ⟨.value x,az,_⟩=>(match EH Γ x with
   |some (_,.rd)=>some (zC o.dst Γ)
   |some (_,.ow sg)=>if az.size==sg.ps.length then(Js Γ sg az.toList o.dst).map (Oe Γ o.dst)else none
   |_=>none)
 | .makeFunc (.func f) ⟨[]⟩ caps=>(match o.dst with
   |some d=>some ((([0,1,2,3,4].filter λs=>aeq s f caps.size).map (.fn d))++zC (some d) Γ)
   |none=>none)
 | .assign (.const v)=>(match o.dst with
   |some d=>some (if ada v then .ref d ⟨0,o.type,mk d 0⟩::zC (some d) Γ else zC (some d) Γ)
   |none=>none)
 |op=>(aba P Γ o.dst op).map (Xa Γ o.dst)
def NK (P:Program)(lz:Bool)(Γ : List OF)(o:Oper):Option (List OF):=
 if lz||o.guard.isSome then(if I9 Γ o.op then some (zC o.dst Γ)else if lz then none else(MB P Γ o).map λBC=>(zC o.dst Γ).filter BC.contains)else MB P Γ o
def Jt (P:Program)(lz:Bool)(Γ : List OF)(o:Oper)(ao:iR):Option (List OF):=match ao.i,o.op with
 |.op _,.call ⟨.value _,_,_⟩=>some (zC o.dst Γ)
 |_,_=>NK P lz Γ o
def Fg (P:Program)(pl:List Nat)(lz:Bool)(Γ : List OF)(o:Oper)(ao:iR):Option (List OF):=if(pl.any λi=>o.dst==some i)then none else Jt P lz Γ o ao
theorem acR {s f n:Nat}(h:aeq s f n=true):FV s f n:=by
 unfold aeq at h;unfold FV;split at h
 ·simpa using h
 ·split at h
  ·rename_i sg hk;simp only[af,aK]at h;exact⟨sg,hk,h.1,h.2⟩
  ·cases h
section
variable {P:Program} {E:Env P} {I:IH} {ρ:Ren} {n:Nat} {st:eH} {a:Act} {w w':World} {Γ : List OF} {g0:Own} {dp:Nat} {lz:Bool}
def LY (E:Env P)(g0:Own)(dp:Nat)(Γ : List OF)(a:Act)(w:World):Prop:=∃g,Rel dp E.w0.heap.size g0 g/\OW P FV g dp Γ a w
theorem LY.drop (h:LY E g0 dp Γ a w)(d:Option Nat)(v:Value):LY E g0 dp (zC d Γ) (a.put d v) w:=by
 obtain⟨g,h1,h2⟩:=h;cases d with
 |none=>exact⟨g,h1,h2.weak λf hf=>(aC.1 hf).1⟩
 |some d=>exact⟨g,h1,h2.drop d v⟩
theorem LY.world (h:LY E g0 dp Γ a w)(hs:w.heap.size<=w'.heap.size)(hF:wZ w w' λ_=>False):LY E g0 dp Γ a w':=by
 obtain⟨g,h1,h2⟩:=h;refine⟨g,h1,h2.world hs λk hk=>hF.block k ?_ (λh=>h)⟩;cases hg:g k with
 |none=>exact dO hg hk
 |some B=>exact h2.good.lt hg
theorem LY.weak {uA:List OF}(h:LY E g0 dp Γ a w)(hs:∀f,f∈uA->f ∈ Γ):LY E g0 dp uA a w:=
 let ⟨g,h1,h2⟩:=h;⟨g,h1,h2.weak hs⟩
theorem NY : ∀{xs:List Operand} {ps:List PK} {i n:Nat} {r:List (Nat×Nat)×List (Nat×Nat)},yZ Γ i xs ps=some r->xs.length=ps.length->yZ Γ i xs (ps++bG n .any)=some r
 |[],[],i,n,r,h,_=>by simpa[yZ]using h
 | x::xs,p::ps,i,n,r,h,hl=>by
   simp only[yZ,uw]at h⊢;split at h
   ·rename_i l o l' o' h1 h2;rw[h1,NY h2 (by simpa using hl)];exact h
   ·cases h
 |_::_,[],i,n,r,_,hl=>by simp at hl
 |[],_::_,i,n,r,_,hl=>by simp at hl
theorem XM : ∀{xs:List Operand} {ps:List PK} {i:Nat} {mv vars:List (Nat×Nat)},yZ Γ i xs ps=some (mv,vars)->∀j b,(j,b)∈vars->j-i<ps.length:=by intro xs ps i mv vars h j b hb;obtain⟨rs,x,s,h1,_⟩:=FD h j b hb;exact(ay.1 h1).1
theorem YD {sg:QV}{xs:List Operand}{d:Option Nat}{C:CR}{m:Nat}(h:Js Γ sg xs d=some C)(hl:xs.length=sg.ps.length):Js Γ ⟨sg.ps++bG m .any,sg.rs⟩ xs d=some C:=by
 unfold Js at h⊢;split at h
 ·rename_i mv vars ha;rw[NY ha hl]
  dsimp only
  split at h
  ·cases h
  ·rename_i hn;rw[aj hn];split at h
   ·exact h
   ·rename_i i b;have hi:i<sg.ps.length:=(by have:=XM ha i b (aJ ..);omega);have:Ns (sg.ps++bG m .any) i=Ns sg.ps i:=by
     unfold Ns;rw[aX hi]
    simp only[this];exact h
   ·cases h
 ·cases h
theorem Xb (h:GX E I ρ n st a w)(BD:LY E g0 dp Γ a w){o:Oper}{uA:List OF}{v:Value}(ho:MB P Γ o=some uA)(hd:∀d,o.dst=some d->d<n)(hnc:∀c,o.op = .call c->∀x,c.callee ≠ .value x)
 (hr:(execOp a.eval o).run P w = .ok (.value v) w'\/(execOp a.eval o).run P w = .ok .skip w'/\o.dst=none) (he:Eff o a w w'):LY E g0 dp uA (a.put o.dst v) w':=by
 unfold MB at ho;obtain⟨g,h1,h2⟩:=BD;split at ho
 ·rename_i x az ts hop;exact dO rfl (hnc _ hop x)
 ·rename_i f caps hop;split at ho
  ·rename_i d hdst;cases ho;have hq':vP o.op=true:=(by rw[hop];rfl);have hw:=he.quiet hq';subst hw;rw[hdst]at hr⊢;rcases hr with hr|hr
   ·refine⟨g,h1,h2.good,λf' hf=>?_⟩;rw[bg]at hf;rcases hf with hf|hf
    ·rw[aG]at hf;obtain⟨s,hs,rfl⟩:=hf;have hs:=(aC.1 hs).2;simp only[execOp,hop,Instr.makeFunc,bC,aZ,aO]at hr;have hv:v = .func (.func f) #[] (caps.map a.eval):=by
      have:=hr;simp at this;exact this.symm
     refine⟨f,caps.map a.eval,?_,by simpa using acR hs⟩;rw[dM (by rw[h.size];exact hd d hdst),hv]
    ·rw[zC,aC]at hf;exact(h2.fs f' hf.1).put' hf.2
   ·cases hr.2
  ·cases ho
 ·rename_i cv hop;split at ho
  ·rename_i d hdst;have hq':vP o.op=true:=(by rw[hop];rfl);have hw:=he.quiet hq';subst hw;rw[hdst]at hr⊢;rcases hr with hr|hr
   ·simp only[execOp,hop,aZ]at hr;have hv:v=cv:=by
     have:=hr;simp[Act.eval]at this;exact this.symm
    cases ho;refine⟨g,h1,h2.good,λf' hf=>?_⟩;have hdrop:f'∈zC (some d) Γ -> xq P FV g dp (a.put (some d) v) _ f':=λhf=>by rw[zC,aC]at hf;exact(h2.fs f' hf.1).put' hf.2
    split at hf
    ·rename_i hnil;rcases au.1 hf with rfl|hf
     ·refine⟨cv,?_,.inl (Ko hnil)⟩;rw[dM (by rw[h.size];exact hd d hdst),hv];have e:=Ko hnil;rw[Vq]at e;rw[e];rfl
     ·exact hdrop hf
    ·exact hdrop hf
   ·cases hr.2
  ·cases ho
 ·simp only[aU]at ho;obtain⟨R,hR,rfl⟩:=ho;obtain⟨g',h3,h4⟩:=SY h2 h.ve.size (λd e=>by rw[h.size];exact hd d e) hR hr he;exact⟨g',h1.trans h3,h4⟩
theorem aeX (h:GX E I ρ n st a w)(BD:LY E g0 dp Γ a w){o:Oper}{uA:List OF}{v:Value}(ho:NK P lz Γ o=some uA)(hd:∀d,o.dst=some d->d<n)(hnc:∀c,o.op = .call c->∀x,c.callee ≠ .value x)
 (hr:(execOp a.eval o).run P w = .ok (.value v) w'\/(execOp a.eval o).run P w = .ok .skip w'/\o.dst=none) (he:Eff o a w w'):LY E g0 dp uA (a.put o.dst v) w':=by
 unfold NK at ho;split at ho
 ·split at ho
  ·rename_i hq;cases ho;have hq':vP o.op=true:=by
    unfold I9 at hq;split at hq
    ·rename_i x az ts hop;exact dO rfl (hnc _ hop x)
    ·exact hq
   have hw:=he.quiet hq';subst hw;exact BD.drop _ _
  ·split at ho
   ·cases ho
   ·obtain⟨BC,h1,rfl⟩:=aU.1 ho;exact(Xb h BD h1 hd hnc hr he).weak λf hf=>eF.1 (aC.1 hf).2
 ·exact Xb h BD ho hd hnc hr he
end
end
section
section
variable {ev ev':jR->AV} {bx bx':Nat->Box}
theorem zY {o:Option jR}{k:Nat}(h:∀x,o=some x->ev x=ev' x):bnd ev o k=bnd ev' o k:=by
 cases o with
 |none=>rfl
 |some x=>simp only[bnd,h x rfl]
theorem Ag {n sz:Nat} : ∀{ps:List (Nat×jR)},(∀p,p∈ps->ev p.2=ev' p.2)->sO ev bx n sz ps=sO ev' bx n sz ps/\nT ev ps=nT ev' ps/\uQ ev bx ps=uQ ev' bx ps
 |[],_=>⟨rfl,rfl,rfl⟩
 | (i,x)::r,h=>by obtain⟨h1,h2,h3⟩:=Ag (n:=n) (sz:=sz) (ps:=r) (λp hp=>h p (bU _ hp));simp only[sO,nT,uQ,h (i,x) (aJ ..),h1,h2,h3,and_self]
theorem ahr (op:kH)(he:∀x,x∈op.kX->ev x=ev' x):op.f ev bx=op.f ev' bx:=by
 cases op
 case build zs ps=>
  have h1:∀p,p∈ps->ev p.2.2=ev' p.2.2:=λp hp=>he _ (wo hp);simp only[kH.f]
  congr 1
  ·apply propext;constructor
   ·intro h p hp;rw[<- h1 p hp];exact h p hp
   ·intro h p hp;rw[h1 p hp];exact h p hp
  ·congr 2
   exact kT λp hp=>by rw[h1 p hp]
 case uZ l sz n zs ps=>have h1:∀p,p∈ps->ev p.2=ev' p.2:=λp hp=>he _ (wo hp);obtain⟨c1,c2,c3⟩:=Ag (bx:=bx) (n:=n) (sz:=sz) h1;simp only[kH.f,c1,c2,c3]
 case YB f cs=>have h1:cs.map ev=cs.map ev':=kT λx hx=>he x hx;simp only[kH.f,h1]
 case OZ x lo hi=>have h1:=he x (by simp[kH.kX]);have h2:∀y,lo=some y->ev y=ev' y:=λy hy=>he y (by simp[kH.kX,hy]);have h3:∀y,hi=some y->ev y=ev' y:=λy hy=>he y (by simp[kH.kX,hy]);simp only[kH.f,h1,zY h2,zY h3]
 case VI sz x lo hi=>have h1:=he x (by simp[kH.kX]);have h2:∀y,lo=some y->ev y=ev' y:=λy hy=>he y (by simp[kH.kX,hy]);have h3:∀y,hi=some y->ev y=ev' y:=λy hy=>he y (by simp[kH.kX,hy]);simp only[kH.f,h1,zY h2,zY h3]
 case F5 sz x lo hi=>have h1:=he x (by simp[kH.kX]);have h2:∀y,lo=some y->ev y=ev' y:=λy hy=>he y (by simp[kH.kX,hy]);have h3:∀y,hi=some y->ev y=ev' y:=λy hy=>he y (by simp[kH.kX,hy]);have h4:bnd ev hi=bnd ev' hi:=funext λk=>zY h3;simp only[kH.f,h1,zY h2,h4]
 all_goals
  simp only[kH.kX,au,fF,or_false,forall_eq_or_imp,forall_eq]at he;simp only[kH.f,he]
theorem agJ (op:kH)(he:∀x,x∈op.kX->ev x=ev' x):op.rd ev=op.rd ev':=by
 cases op
 case build zs ps=>rfl
 case uZ l sz n zs ps=>have h1:∀p,p∈ps->ev p.2=ev' p.2:=λp hp=>he _ (wo hp);simp only[kH.rd,(Ag (bx:=λ_=>.absent) (n:=n) (sz:=sz) h1).2.1]
 case YB f cs=>rfl
 case OZ x lo hi=>rfl
 case VI sz x lo hi=>rfl
 case F5 sz x lo hi=>rfl
 all_goals
  simp only[kH.kX,au,fF,or_false,forall_eq_or_imp,forall_eq]at he;simp only[kH.rd,he]
theorem Ew {sz:Nat}{x:AV}(h:∀b,b∈lvl x->bx b=bx' b):vT sz x bx=vT sz x bx':=by
 cases x with
 | one x=>
   cases x
   case own b n sz'=>simp only[vT,h b (by simp[lvl])]
   case sub b lo n c sz'=>simp only[vT,h b (by simp[lvl])]
   case c y=>cases y<;>rfl
   all_goals rfl
 |_=>rfl
theorem aaJ {agg:Bool}{k:Nat}{x:AV}(h:∀b,b∈lvl x->bx b=bx' b):tJ agg k x bx=tJ agg k x bx':=by
 cases x with
 | one x=>
   cases x
   case ptr b off=>simp only[tJ,h b (by simp[lvl])]
   case ug b i sz off=>simp only[tJ,h b (by simp[lvl])]
   all_goals rfl
 |_=>rfl
theorem X3 {x:AC}(h:∀b,b∈kL [x]->bx b=bx' b):dataOf bx x=dataOf bx' x:=by
 cases x
 case own b n sz=>simp only[dataOf,h b (by simp[kL])]
 all_goals rfl
theorem OG {x:AC}{r:List AC}{b:Nat} : b∈kL (x::r)<->b∈kL [x]\/b∈kL r:=by cases x<;>simp[kL]
theorem Lm : ∀{xs:List AC},(∀b,b∈kL xs->bx b=bx' b)->Dt bx xs=Dt bx' xs/\tu bx xs=tu bx' xs/\P9 bx (kL xs)=P9 bx' (kL xs)
 |[],_=>⟨rfl,rfl,rfl⟩
 | x::r,h=>by
   obtain⟨h1,h2,h3⟩:=Lm (xs:=r) (λb hb=>h b (OG.2 (.inr hb)));refine⟨?_,?_,kT λb hb=>by rw[h b hb]⟩
   ·simp only[Dt,h1,X3 (x:=x) (λb hb=>h b (OG.2 (.inl hb)))]
   ·cases x
    case own b n sz=>simp only[tu,h2,h b (by simp[kL])]
    all_goals exact h2
theorem Y3 {agg:Bool}{k:Nat}{p x:AV}(h:∀b,b∈lvl p++(match p with|.one (.ug _ _ _ _)=>kL x.cells|_=>[])->bx b=bx' b):Az agg k p x bx=Az agg k p x bx':=by
 cases p with
 | one p=>
   cases p
   case ptr b off=>simp only[Az,h b (by simp[lvl])]
   case ug b i sz off=>obtain⟨h1,h2,h3⟩:=Lm (bx:=bx) (bx':=bx') (xs:=x.cells) (λc hc=>h c (by simp only[lvl,bg];exact .inr hc));have h4:=h b (by simp[lvl]);cases x<;>cases agg<;>first|rfl|(simp only[Az,h4,h1,h2,h3])
   all_goals rfl
 |_=>rfl
theorem Jn {n sz:Nat} : ∀{ps:List (Nat×jR)},(∀b,b∈nT ev ps->bx b=bx' b)->sO ev bx n sz ps=sO ev bx' n sz ps/\uQ ev bx ps=uQ ev bx' ps
 |[],_=>⟨rfl,rfl⟩
 | (i,x)::r,h=>by obtain⟨h1,h2⟩:=Jn (n:=n) (sz:=sz) (ps:=r) (λb hb=>h b (by simp only[nT,bg];exact .inr hb));obtain⟨g1,g2,g3⟩:=Lm (bx:=bx) (bx':=bx') (xs:=(ev x).cells) (λb hb=>h b (by simp only[nT,bg];exact .inl hb));simp only[sO,uQ,h1,h2,g1,g2,and_self]
theorem ahq (op:kH)(hb:∀b,b∈op.rd ev->bx b=bx' b):op.f ev bx=op.f ev bx':=by
 cases op
 case load agg k p=>exact aaJ hb
 case store agg k p x=>exact Y3 hb
 case alloc l zs=>simp only[kH.f,hb l (by simp[kH.rd])]
 case Ip T e l r=>simp only[kH.f,hb l (by simp[kH.rd]),hb r (by simp[kH.rd])]
 case Io l sz n zs=>simp only[kH.f,hb l (by simp[kH.rd])]
 case box l x=>simp only[kH.f,hb l (by simp[kH.rd])]
 case uZ l sz n zs ps=>
  obtain⟨h1,h2⟩:=Jn (bx:=bx) (bx':=bx') (n:=n) (sz:=sz) (ps:=ps) (λb hm=>hb b (by simp only[kH.rd];exact bU _ hm));have h3:P9 bx (nT ev ps)=P9 bx' (nT ev ps):=kT λb hm=>by rw[hb b (by simp only[kH.rd];exact bU _ hm)]
  simp only[kH.f,hb l (by simp[kH.rd]),h1,h2,h3]
 case makes l sz bytes zs n m=>simp only[kH.f,hb l (by simp[kH.rd])]
 case PW x=>simp only[kH.f,Ew hb]
 case OV sz n x=>
  simp only[kH.f];cases hx:ev x with
  | one y=>
    cases y
    case ug b i sz off=>have:=hb b (by simp[kH.rd,lvl,hx]);cases i<;>cases off<;>simp only[this]
    all_goals rfl
  |_=>rfl
 case append l sz bytes s x=>
  have h1:=hb l (by simp[kH.rd]);simp only[kH.f,Ew (x:=ev x) (λb hb'=>hb b (by simp[kH.rd,hb'])),h1];cases hs:ev s with
  | one y=>
    cases y
    case own b n sz'=>simp only[hb b (by simp[kH.rd,lvl,hs])]
    all_goals rfl
  |_=>rfl
 case copy sz d x=>
  simp only[kH.f,Ew (x:=ev x) (λb hb'=>hb b (by simp[kH.rd,hb']))];cases hs:ev d with
  | one y=>
    cases y
    case own b n sz'=>simp only[hb b (by simp[kH.rd,lvl,hs])]
    all_goals rfl
  |_=>rfl
 case YQ l sz bytes s x=>
  have h1:=hb l (by simp[kH.rd]);simp only[kH.f,OO,Ew (x:=ev x) (λb hb'=>hb b (by simp[kH.rd,hb'])),h1];generalize vT sz (ev x) bx'=so;cases hs:ev s with
  | one y=>
    cases y
    case sub b lo n c sz'=>have h2:=hb b (by simp[kH.rd,lvl,hs]);cases c<;>rcases so with _|⟨p,ys⟩<;>first|rfl|(simp only[h2])
    all_goals(rcases so with _|⟨p,ys⟩<;>rfl)
  |_=>rcases so with _|⟨p,ys⟩<;>rfl
 case XK l sz bytes zs s x=>
  have h1:=hb l (by simp[kH.rd]);simp only[kH.f,NW,h1];generalize ev x=y';have hb2:∀b,b∈lvl (ev s)->bx b=bx' b:=λb hb'=>hb b (by simp[kH.rd,hb']);rcases y' with x|x|x
  ·rcases x with c|_|_|_|_|_|_|_|_
   ·rcases c with v|_|_
    ·cases v
     case int k q=>
      cases hs:ev s with
      | one y=>
        cases y
        case sub b lo n c sz'=>have h2:=hb2 b (by simp[lvl,hs]);cases c<;>simp[h2]
        all_goals rfl
      |_=>rfl
     all_goals(generalize ev s=z;rcases z with(_|_|_|_|⟨b,lo,n,_|c,sz'⟩|_|_|_|_)|_|_<;>rfl)
    all_goals(generalize ev s=z;rcases z with(_|_|_|_|⟨b,lo,n,_|c,sz'⟩|_|_|_|_)|_|_<;>rfl)
   all_goals(generalize ev s=z;rcases z with(_|_|_|_|⟨b,lo,n,_|c,sz'⟩|_|_|_|_)|_|_<;>rfl)
  all_goals(generalize ev s=z;rcases z with(_|_|_|_|⟨b,lo,n,_|c,sz'⟩|_|_|_|_)|_|_<;>rfl)
 case YU sz d x=>
  have ht:∀m,lvl (truncS m (ev x))=lvl (ev x):=λm=>by rcases ev x with(_|_|_|_|_|_|_|_|_)|_|_<;>rfl
  have hsrc:∀m,vT sz (truncS m (ev x)) bx=vT sz (truncS m (ev x)) bx':=λm=>Ew (λb hb'=>hb b (by rw[ht]at hb';simp[kH.rd,hb']));simp only[kH.f,OT,hsrc];cases hs:ev d with
  | one y=>
    cases y
    case own b n sz'=>have h2:=hb b (by simp[kH.rd,lvl,hs]);simp only[xU];rcases vT sz (truncS n (ev x)) bx' with _|⟨p,ys⟩<;>first|rfl|(simp only[h2])
    case sub b lo n c sz'=>have h2:=hb b (by simp[kH.rd,lvl,hs]);simp only[xU];rcases vT sz (truncS n (ev x)) bx' with _|⟨p,ys⟩<;>first|rfl|(simp only[h2])
    all_goals rfl
  |_=>rfl
 case ovl x y=>
  have key:∀(u:AV),(∀b,b∈lvl u->bx b=bx' b)->∀b lo n c sz,xU u=some (b,lo,n,c,sz)->bx b=bx' b:=by
   intro u hu b lo n c sz hs;unfold xU at hs;split at hs
   ·cases hs;exact hu _ (by simp[lvl])
   ·cases hs;exact hu _ (by simp[lvl])
   ·cases hs
  have k1:=key (ev x) (λb hb'=>hb b (by simp[kH.rd,hb']));have k2:=key (ev y) (λb hb'=>hb b (by simp[kH.rd,hb']));simp only[kH.f,Qr];generalize xU (ev x)=u at k1;generalize xU (ev y)=v at k2;rcases u with _|⟨b,lo,n,c,sz⟩<;>rcases v with _|⟨b',lo',n',c',sz'⟩<;>try rfl
  simp only[k1 b lo n c sz rfl,k2 b' lo' n' c' sz' rfl]
 case YS sz zs x=>
  simp only[kH.f,OQ];cases hs:ev x with
  | one y=>
    cases y
    case own b n sz'=>simp only[xU,hb b (by simp[kH.rd,lvl,hs])]
    case sub b lo n c sz'=>simp only[xU,hb b (by simp[kH.rd,lvl,hs])]
    all_goals rfl
  |_=>rfl
 all_goals rfl
theorem abR {e e':jR->Slot}(op:kH)(he:∀x,x∈op.kX->e x=e' x)(h:op.valid e):op.valid e':=by
 cases op
 case pick c a b=>have h1:=he c (by simp[kH.kX]);have h2:=he a (by simp[kH.kX]);have h3:=he b (by simp[kH.kX]);simp only[kH.valid,h1,h2,h3]at h⊢;exact h
 all_goals exact λx hx=>he x hx▸h x hx
theorem adO {x y:AC}(h:Cv bx x y)(hb:∀b,b∈kL [x]->bx b=bx' b):Cv bx' x y:=by
 cases h with
 |refl=>exact .refl _
 |wC sz=>exact .wC sz
 |own b n sz es ha hn=>exact .own b n sz es (by rw[<- hb b (by simp[kL])];exact ha) hn
theorem aem {xs ys:List AC}(h:CvL bx xs ys)(hb:∀b,b∈kL xs->bx b=bx' b):CvL bx' xs ys:=by
 induction h with
 |nil=>exact .nil
 |cons h t ih=>exact .cons (adO h λb hb'=>hb b (xH.2 (.inl hb'))) (ih λb hb'=>hb b (xH.2 (.inr hb')))
theorem aek {x y:AV}(h:CvA bx x y)(hb:∀b,b∈x.owns->bx b=bx' b):CvA bx' x y:=by
 cases h with
 |one h=>exact .one (adO h hb)
 |agg h=>exact .agg (aem h hb)
theorem PX {xs ys:List AV}(h:Fp bx xs ys)(hb:∀b,b∈xs.flatMap AV.owns->bx b=bx' b):Fp bx' xs ys:=by
 induction h with
 |nil=>exact .nil
 |cons h t ih=>exact .cons (aek h λb hb'=>hb b (by rw[mQ];exact bF _ hb')) (ih λb hb'=>hb b (by rw[mQ];exact cu _ hb'))
end
structure Kz where
 rd:List Nat
 wr:List Nat
 outs:Slot->List (Nat×Box)->Prop
inductive Ae (P:Program)(f:FuncId)(pz:List AV)(p:Bool)(bx:Nat->Box):Kz->Prop
 |lit (ds:List AV) (r:AV) (hc:p=true->Fp bx pz ds) (hd:ds.all (·.all AC.qC)=true) (h:p=true->gY P f ds r) (hr:r.all AC.isLit=true) :
  Ae P f pz p bx ⟨pz.flatMap AV.owns,[],λs bs=>s = .v p r/\bs=[]⟩
 |pure (ds:List AV) (r:AV) (hp:p=true) (hc:Fp bx pz ds) (hd:ds.all (·.all AC.qC)=true) (h:gY P f ds r) (hr:r.all AC.qC=true) :
  Ae P f pz p bx ⟨pz.flatMap AV.owns,pz.flatMap AV.owns,λs bs=>s = .v true r/\bs=(pz.flatMap AV.owns).map λb=>(b,Bq (bx b))⟩
 |gen (hp:p=true) (ds:List AV) (fp:List Box) (sg nu:List Nat) (post:AV->List Box->Prop)
  (hl:sg.length=fp.length) (hn:(sg++nu).Nodup) (hf:∀i,i<fp.length->bx ((sg++nu).getD i 0)=yc (λb=>(sg++nu).getD b 0) (fp.getD i .absent))
  (hne:∃r bs,post r bs) (hv:∀b,b∈nu->bx b = .absent/\10<=b) (hra:(ds.all λx=>x.all (AC.qG fp.length))=true) (hrf:fp.all (Box.qG fp.length)=true) (ha:pz=ds.map (zi λb=>(sg++nu).getD b 0)) (h:xm P f ds fp post)
  (hlen:∀r bs,post r bs->bs.length=(sg++nu).length) :
  Ae P f pz p bx ⟨sg++nu,sg++nu,λs bs=>∃r bs',post r bs'/\s = .v true (zi (λb=>(sg++nu).getD b 0) r)/\bs=(sg++nu).zip (bs'.map (yc λb=>(sg++nu).getD b 0))⟩
 |LJ (hp:p=true) (az:List AV) (hc:Fp bx pz az) (ds:List AV) (fp:List Box) (sg nu:List Nat) (post:AV->List Box->Prop)
     (hl:sg.length=fp.length) (hn:(sg++nu).Nodup) (hf:∀i,i<fp.length->(if(sg++nu).getD i 0∈pz.flatMap AV.owns then Bq (bx ((sg++nu).getD i 0))else bx ((sg++nu).getD i 0))=yc (λb=>(sg++nu).getD b 0) (fp.getD i .absent))
     (hne:∃r bs,post r bs) (hv:∀b,b∈nu->bx b = .absent/\10<=b) (hra:(ds.all λx=>x.all (AC.qG fp.length))=true) (hrf:fp.all (Box.qG fp.length)=true) (ha:az=ds.map (zi λb=>(sg++nu).getD b 0)) (h:xm P f ds fp post)
     (hlen:∀r bs,post r bs->bs.length=(sg++nu).length) :
     Ae P f pz p bx ⟨pz.flatMap AV.owns++(sg++nu),pz.flatMap AV.owns++(sg++nu),λs bs=>∃r bs',post r bs'/\s = .v true (zi (λb=>(sg++nu).getD b 0) r) /\
      bs=((pz.flatMap AV.owns).map λb=>(b,Bq (bx b)))++(sg++nu).zip (bs'.map (yc λb=>(sg++nu).getD b 0))⟩
def Ie (P:Program)(o:iR)(st:eH)(D:Kz):Prop:=
 xe st.tm o.g/\match o.i with
  |.op op=>(mF st.tm o.g=true->op.valid (jR.ev st.tm)/\(op.f (bW st.tm) st.bx).vc /\
   D=⟨op.rd (bW st.tm),(op.f (bW st.tm) st.bx).sets.map (·.1),λs bs=>s = .v true (op.f (bW st.tm) st.bx).v/\bs=(op.f (bW st.tm) st.bx).sets⟩) /\
   (mF st.tm o.g=false->D=⟨[],[],λs bs=>s = .v false (.one .Ee)/\bs=[]⟩)
  |.call f args=>(mF st.tm o.g=true->∀x,x∈args->(x.ev st.tm).g=true)/\Ae P f (args.map (bW st.tm)) (mF st.tm o.g) st.bx D
  | .DR x args=>(mF st.tm o.g=true->(x.ev st.tm).g=true/\∀x,x∈args->(x.ev st.tm).g=true)/\match mF st.tm o.g,bW st.tm x with
    |false,_=>Ae P 0 [] false st.bx D
    |true,.one (.fn f caps)=>yN P f=true/\Ae P f (args.map (bW st.tm)++caps.map λb=>.one (.ptr b 0)) true st.bx D
    |true,_=>False
section
variable {P:Program} {st st':eH} {K:List Nat->List Nat->eH->Prop}
theorem Jf {f:FuncId}{pz:List AV}{p:Bool}{d:Option Nat} : E8 P f pz p d st K<->∃D,Ae P f pz p st.bx D/\∀s bs,D.outs s bs->K D.rd D.wr ((st.mW bs).uh d s):=by
 constructor
 ·intro h;cases h with
  |lit ds r hc hd hh hr k=>exact⟨_,.lit ds r hc hd hh hr,λs bs ⟨h1,h2⟩=>by subst h1;subst h2;exact k⟩
  |pure ds r hp hc hd hh hr k=>exact⟨_,.pure ds r hp hc hd hh hr,λs bs ⟨h1,h2⟩=>by subst h1;subst h2;rw[yf];exact k⟩
  | LJ hp az hc ds fp sg nu post hl hn hf hne hv hra hrf ha hh k=>exact⟨_,.LJ hp az hc ds fp sg nu post hl hn hf hne hv hra hrf ha hh (λr bs hp=>(k r bs hp).1),λs bs ⟨r,bs',hp,h1,h2⟩=>by subst h1;subst h2;rw[Df,yf];exact(k r bs' hp).2⟩
  | gen hp ds fp sg nu post hl hn hf hne hv hra hrf ha hh k=>exact⟨_,.gen hp ds fp sg nu post hl hn hf hne hv hra hrf ha hh (λr bs hp=>(k r bs hp).1),λs bs ⟨r,bs',hp,h1,h2⟩=>by subst h1;subst h2;exact(k r bs' hp).2⟩
 ·rintro⟨D,hD,hk⟩;cases hD with
  |lit ds r hc hd hh hr=>exact .lit ds r hc hd hh hr (hk _ _ ⟨rfl,rfl⟩)
  |pure ds r hp hc hd hh hr=>exact .pure ds r hp hc hd hh hr (by have:=hk _ _ ⟨rfl,rfl⟩;rw[yf]at this;exact this)
  | LJ hp az hc ds fp sg nu post hl hn hf hne hv hra hrf ha hh hlen=>exact .LJ hp az hc ds fp sg nu post hl hn hf hne hv hra hrf ha hh (λr bs hp=>⟨hlen r bs hp,by have:=hk _ _ ⟨r,bs,hp,rfl,rfl⟩;rw[Df,yf]at this;exact this⟩)
  | gen hp ds fp sg nu post hl hn hf hne hv hra hrf ha hh hlen=>exact .gen hp ds fp sg nu post hl hn hf hne hv hra hrf ha hh (λr bs hp=>⟨hlen r bs hp,hk _ _ ⟨r,bs,hp,rfl,rfl⟩⟩)
theorem Dp {o:iR} : T P o st K<->∃D,Ie P o st D/\∀s bs,D.outs s bs->K D.rd D.wr ((st.mW bs).uh o.d s):=by
 unfold T Ie;cases o.i with
 | op op=>
   unfold TOp;cases hp:mF st.tm o.g with
   | true=>
     constructor
     ·rintro⟨hg,h1,_⟩;obtain⟨a1,a2,a3⟩:=h1 rfl;exact⟨_,⟨hg,λ_=>⟨a1,a2,rfl⟩,λe=>by cases e⟩,λs bs ⟨e1,e2⟩=>by subst e1;subst e2;exact a3⟩
     ·rintro⟨D,⟨hg,h1,_⟩,hk⟩;obtain⟨a1,a2,rfl⟩:=h1 rfl;exact⟨hg,λ_=>⟨a1,a2,hk _ _ ⟨rfl,rfl⟩⟩,λe=>by cases e⟩
   | false=>
     constructor
     ·rintro⟨hg,_,h2⟩;exact⟨_,⟨hg,(λe=>by cases e),λ_=>rfl⟩,λs bs ⟨e1,e2⟩=>by subst e1;subst e2;exact h2 rfl⟩
     ·rintro⟨D,⟨hg,_,h2⟩,hk⟩;have:=h2 rfl;subst this;exact⟨hg,(λe=>by cases e),λ_=>hk _ _ ⟨rfl,rfl⟩⟩
 | call f args=>
   simp only[pM,Jf];constructor
   ·rintro⟨hg,h1,D,h2,h3⟩;exact⟨D,⟨hg,h1,h2⟩,h3⟩
   ·rintro⟨D,⟨hg,h1,h2⟩,h3⟩;exact⟨hg,h1,D,h2,h3⟩
 | DR x args=>
   simp only;cases mF st.tm o.g with
   | false=>
     simp only[pM,Jf];constructor
     ·rintro⟨hg,h1,D,h2,h3⟩;exact⟨D,⟨hg,h1,h2⟩,h3⟩
     ·rintro⟨D,⟨hg,h1,h2⟩,h3⟩;exact⟨hg,h1,D,h2,h3⟩
   |true=>
   cases bW st.tm x with
   | one y=>
     cases y
     case fn f caps=>
      simp only[pM,Jf];constructor
      ·rintro⟨hg,h1,h0,D,h2,h3⟩;exact⟨D,⟨hg,h1,h0,h2⟩,h3⟩
      ·rintro⟨D,⟨hg,h1,h0,h2⟩,h3⟩;exact⟨hg,h1,h0,D,h2,h3⟩
     all_goals exact⟨λh=>h.2.2.elim,λ⟨D,h,_⟩=>h.2.2.elim⟩
   |_=>exact⟨λh=>h.2.2.elim,λ⟨D,h,_⟩=>h.2.2.elim⟩
theorem Ae.bx {f:FuncId}{pz:List AV}{p:Bool}{bx bx':Nat->Box}{D:Kz}(h:Ae P f pz p bx D)(hb:∀b,b∈D.rd->bx b=bx' b):Ae P f pz p bx' D:=by
 cases h with
 |lit ds r hc hd hh hr=>exact .lit ds r (λe=>PX (hc e) hb) hd hh hr
 | pure ds r hp hc hd hh hr=>have e:((pz.flatMap AV.owns).map λb=>(b,Bq (bx b)))=(pz.flatMap AV.owns).map λb=>(b,Bq (bx' b)):=kT λb hb'=>(by rw[hb b hb']);simp only[e];exact .pure ds r hp (PX hc hb) hd hh hr
 | LJ hp az hc ds fp sg nu post hl hn hf hne hv hra hrf ha hh hlen=>
   have e:((pz.flatMap AV.owns).map λb=>(b,Bq (bx b)))=(pz.flatMap AV.owns).map λb=>(b,Bq (bx' b)):=kT λb hb'=>(by rw[hb b (bF _ hb')]);simp only[e];refine .LJ hp az (PX hc λb hm=>hb b (bF _ hm)) ds fp sg nu post hl hn (λi hi=>?_) hne (λb hm=>?_) hra hrf ha hh hlen
   ·rw[<- hb]
    ·exact hf i hi
    ·show(sg++nu).getD i 0∈pz.flatMap AV.owns++(sg++nu);have:i<(sg++nu).length:=(by simp;omega);rw[aY,ai this];exact cu _ (dB this)
   ·rw[<- hb b (cu _ (cu _ hm))];exact hv b hm
 | gen hp ds fp sg nu post hl hn hf hne hv hra hrf ha hh hlen=>
   refine .gen hp ds fp sg nu post hl hn (λi hi=>?_) hne (λb hm=>?_) hra hrf ha hh hlen
   ·rw[<- hb]
    ·exact hf i hi
    ·show(sg++nu).getD i 0∈sg++nu;have:i<(sg++nu).length:=(by simp;omega);rw[aY,ai this];exact dB this
   ·rw[<- hb b (cu _ hm)];exact hv b hm
theorem Ae.ne {f:FuncId}{pz:List AV}{p:Bool}{bx:Nat->Box}{D:Kz}(h:Ae P f pz p bx D):∃s bs,D.outs s bs:=by
 cases h with
 |lit=>exact⟨_,_,rfl,rfl⟩
 |pure=>exact⟨_,_,rfl,rfl⟩
 |gen hp ds fp sg nu post hl hn hf hne=>obtain⟨r,bs,h⟩:=hne;exact⟨_,_,r,bs,h,rfl,rfl⟩
 |LJ hp az hc ds fp sg nu post hl hn hf hne=>obtain⟨r,bs,h⟩:=hne;exact⟨_,_,r,bs,h,rfl,rfl⟩
theorem Ae.fst {f:FuncId}{pz:List AV}{p:Bool}{bx:Nat->Box}{D:Kz}(h:Ae P f pz p bx D){s:Slot}{bs:List (Nat×Box)}(ho:D.outs s bs):∀b,b∈bs.map (·.1)->b∈D.wr:=by
 cases h with
 |lit=>obtain⟨_,rfl⟩:=ho;intro b hb;simp at hb
 |pure=>obtain⟨_,rfl⟩:=ho;intro b hb;simpa using hb
 | LJ hp az hc ds fp sg nu post hl hn hf hne=>
   obtain⟨r,bs',_,_,rfl⟩:=ho;intro b hb;rw[yt,bg]at hb;rcases hb with hb|hb
   ·exact bF _ (by simpa using hb)
   ·obtain⟨x,hx,rfl⟩:=aG.1 hb;exact cu _ (List.of_mem_zip (a:=x.1) (b:=x.2) hx).1
 | gen hp ds fp sg nu post hl hn hf hne=>obtain⟨r,bs',_,_,rfl⟩:=ho;intro b hb;obtain⟨x,hx,rfl⟩:=aG.1 hb;exact(List.of_mem_zip (a:=x.1) (b:=x.2) hx).1
theorem Ie.ne {o:iR}{D:Kz}(h:Ie P o st D):∃s bs,D.outs s bs:=by
 obtain⟨_,h⟩:=h;split at h
 ·cases hp:mF st.tm o.g with
  |true=>obtain⟨_,_,rfl⟩:=h.1 hp;exact⟨_,_,rfl,rfl⟩
  |false=>have:=h.2 hp;subst this;exact⟨_,_,rfl,rfl⟩
 ·exact h.2.ne
 ·obtain⟨_,h⟩:=h;split at h
  ·exact h.ne
  ·exact h.2.ne
  ·exact h.elim
theorem Ie.fst {o:iR}{D:Kz}(h:Ie P o st D){s:Slot}{bs:List (Nat×Box)}(ho:D.outs s bs):∀b,b∈bs.map (·.1)->b∈D.wr:=by
 obtain⟨_,h⟩:=h;split at h
 ·cases hp:mF st.tm o.g with
  |true=>obtain⟨_,_,rfl⟩:=h.1 hp;obtain⟨_,rfl⟩:=ho;exact λb hb=>hb
  |false=>have:=h.2 hp;subst this;obtain⟨_,rfl⟩:=ho;exact λb hb=>hb
 ·exact h.2.fst ho
 ·obtain⟨_,h⟩:=h;split at h
  ·exact h.fst ho
  ·exact h.2.fst ho
  ·exact h.elim
def Kv.slots (i:Kv):List Nat:=match i with
 |Kv.op o=>o.kX.flatMap jR.slots
 |Kv.call _ args=>args.flatMap jR.slots
 |Kv.DR x args=>x.slots++args.flatMap jR.slots
def iR.slots (o:iR):List Nat:=o.g.toList.map (·.1)++o.i.slots
def iR.aay (o:iR):Bool:=match o.i with
 |Kv.op _=>true
 |_=>false
theorem Wu {tm tm':Nat->Slot}{x:jR}(h:∀t,t∈x.slots->tm t=tm' t):x.ev tm=x.ev tm':=by
 cases x with
 |t s=>exact h s (by simp[jR.slots])
 |k x=>rfl
theorem aah {tm tm':Nat->Slot}{g:Option (Nat×Bool)}(h:∀t,t∈g.toList.map (·.1)->tm t=tm' t):(xe tm g<->xe tm' g)/\mF tm g=mF tm' g:=by
 cases g with
 |none=>exact⟨Iff.rfl,rfl⟩
 | some p=>obtain⟨s,w⟩:=p;have:=h s kY;simp only[xe,mF,this,and_self,iff_self]
theorem Ie.local {o:iR}{D:Kz}(h:Ie P o st D)(ht:∀t,t∈o.slots->st.tm t=st'.tm t)(hb:∀b,b∈D.rd->st.bx b=st'.bx b):Ie P o st' D:=by
 unfold Ie at h⊢;obtain⟨hg1,hg2⟩:=aah (tm:=st.tm) (tm':=st'.tm) (g:=o.g) (λt h'=>ht t (bF _ h'));have ht':∀t,t∈o.i.slots->st.tm t=st'.tm t:=λt h'=>ht t (cu _ h');refine⟨hg1.1 h.1,?_⟩;obtain⟨_,h⟩:=h;rw[hg2]at h;cases hi:o.i with
 | op op=>simp only[hi,Kv.slots]at h ht'⊢;have he:∀x,x∈op.kX->jR.ev st.tm x=jR.ev st'.tm x:=λx hx=>Wu λt hm=>ht' t (gX.2 ⟨x,hx,hm⟩);have hea:∀x,x∈op.kX->bW st.tm x=bW st'.tm x:=λx hx=>(by unfold bW;rw[he x hx]);obtain⟨h1,h2⟩:=h;refine⟨λe=>?_,h2⟩;obtain⟨a1,a2,rfl⟩:=h1 e;have hf:op.f (bW st.tm) st.bx=op.f (bW st'.tm) st'.bx:=(ahq op hb).trans (ahr op hea);rw[hf]at a2;refine⟨abR op he a1,a2,?_⟩;rw[hf,agJ op hea]
 | call f args=>simp only[hi,Kv.slots]at h ht'⊢;have he:∀x,x∈args->jR.ev st.tm x=jR.ev st'.tm x:=λx hx=>Wu λt hm=>ht' t (gX.2 ⟨x,hx,hm⟩);have hm:args.map (bW st.tm)=args.map (bW st'.tm):=kT λx hx=>(by unfold bW;rw[he x hx]);rw[hm]at h;exact⟨λe x hx=>he x hx▸h.1 e x hx,h.2.bx hb⟩
 | DR x args=>
   simp only[hi,Kv.slots]at h ht'⊢;have he:∀x,x∈args->jR.ev st.tm x=jR.ev st'.tm x:=λx hx=>Wu λt hm=>ht' t (cu _ (gX.2 ⟨x,hx,hm⟩));have hex:jR.ev st.tm x=jR.ev st'.tm x:=Wu λt hm=>ht' t (bF _ hm);have hm:args.map (bW st.tm)=args.map (bW st'.tm):=kT λx hx=>(by unfold bW;rw[he x hx]);have hmx:bW st.tm x=bW st'.tm x:=(by unfold bW;rw[hex]);obtain⟨h1,h2⟩:=h;rw[hm,hmx]at h2;refine⟨λe=>⟨hex▸(h1 e).1,λy hy=>he y hy▸(h1 e).2 y hy⟩,?_⟩;split at h2
   ·exact h2.bx hb
   ·exact⟨h2.1,h2.2.bx hb⟩
   ·exact h2.elim
theorem Ie.det {o:iR}{D D':Kz}(hop:o.aay=true)(h:Ie P o st D)(h':Ie P o st D'):D=D':=by
 unfold Ie at h h';unfold iR.aay at hop;cases hi:o.i with
 | op op=>
   rw[hi]at h h';cases hp:mF st.tm o.g with
   |true=>exact(h.2.1 hp).2.2.trans (h'.2.1 hp).2.2.symm
   |false=>exact(h.2.2 hp).trans (h'.2.2 hp).symm
 |call f args=>rw[hi]at hop;cases hop
 |DR x args=>rw[hi]at hop;cases hop
end
end
section
section
variable {P:Program} {st st':eH}
theorem DY {a b:List Nat} : FM a b=true<->∀x,x∈a->x ∉ b:=by simp[FM,aB]
def CB (x y:iR):Bool:=
 FM x.d.toList y.slots&&FM y.d.toList x.slots&&FM x.d.toList y.d.toList&&(x.aay||y.aay)
def app (x:iR)(st:eH)(s:Slot)(bs:List (Nat×Box)):eH:=(st.mW bs).uh x.d s
theorem FC {x:iR}{s:Slot}{bs:List (Nat×Box)}{t:Nat}(h:t ∉ x.d.toList):(app x st s bs).tm t=st.tm t:=by
 unfold app;cases hd:x.d with
 |none=>simp only[eH.uh,Hy]
 | some d=>simp only[eH.uh,eH.MJ,Hy];rw[aj];intro e;subst e;exact h (by simp[hd])
theorem Ht (st:eH)(d:Option Nat)(s:Slot):(st.uh d s).bx=st.bx:=by cases d<;>rfl
theorem FB {x:iR}{s:Slot}{bs:List (Nat×Box)}{b:Nat}(h:b ∉ bs.map (·.1)):(app x st s bs).bx b=st.bx b:=by unfold app;rw[Ht,En _ _ h]
theorem MQ (l:List (Nat×Box)){st st':eH}{b:Nat}(h:st.bx b=st'.bx b):(st.mW l).bx b=(st'.mW l).bx b:=by
 induction l generalizing st st' with
 |nil=>exact h
 | cons x l ih=>
   obtain⟨c,y⟩:=x;simp only[eH.mW];apply ih;simp only[eH.lC];split
   ·rfl
   ·exact h
theorem Em (l:List (Nat×Box)){st st':eH}{b:Nat}(h:b∈l.map (·.1)):(st.mW l).bx b=(st'.mW l).bx b:=by
 induction l generalizing st st' with
 |nil=>simp at h
 | cons x l ih=>
   obtain⟨c,y⟩:=x;simp only[eH.mW];by_cases hc:b=c
   ·apply MQ;simp[eH.lC,hc]
   ·simp only[bf,au]at h;exact ih (h.resolve_left hc)
theorem Q5 {x y:iR}{s s':Slot}{bs bs':List (Nat×Box)}(hd:FM x.d.toList y.d.toList=true)(hb:∀b,b∈bs.map (·.1)->b ∉ bs'.map (·.1)) :
 app y (app x st s bs) s' bs'=app x (app y st s' bs') s bs:=by
 rw[DY]at hd;apply eH.ext'
 ·funext t
  by_cases h1:t∈x.d.toList
  ·have h2:=hd t h1;rw[FC h2];cases hx:x.d with
   |none=>rw[hx]at h1;simp at h1
   | some d=>rw[hx]at h1;simp at h1;subst h1;simp[app,hx,eH.uh,eH.MJ]
  ·rw[FC (x:=x) h1];by_cases h2:t∈y.d.toList
   ·cases hy:y.d with
    |none=>rw[hy]at h2;simp at h2
    | some d=>rw[hy]at h2;simp at h2;subst h2;simp[app,hy,eH.uh,eH.MJ]
   ·rw[FC h2,FC h2,FC h1]
 ·funext b
  by_cases h1:b∈bs.map (·.1)
  ·rw[FB (hb b h1)];unfold app;rw[Ht,Ht];exact Em _ h1
  ·rw[FB (x:=x) h1];by_cases h2:b∈bs'.map (·.1)
   ·unfold app;rw[Ht,Ht];exact Em _ h2
   ·rw[FB h2,FB h2,FB h1]
def apartB (rd wr rd' wr':List Nat):Bool:=FM wr' rd&&FM wr' wr&&FM rd' wr
theorem Ie.skip {x y:iR}{D Dx:Kz}(h:Ie P y st D)(hx:Ie P x st Dx)(hs:FM x.d.toList y.slots=true)(hb:∀b,b∈Dx.wr->b ∉ D.rd){s:Slot}{bs:List (Nat×Box)}(ho:Dx.outs s bs):Ie P y (app x st s bs) D:=
 h.local (λt ht=>(FC λhd=>(DY.1 hs) t hd ht).symm) (λb hr=>(FB λhm=>hb b (hx.fst ho b hm) hr).symm)
theorem Ie.VQ {x y:iR}{D Dx:Kz}{s:Slot}{bs:List (Nat×Box)}(h:Ie P y (app x st s bs) D)(hx:Ie P x st Dx)(hs:FM x.d.toList y.slots=true)(hb:∀b,b∈Dx.wr->b ∉ D.rd)(ho:Dx.outs s bs):Ie P y st D:=
 h.local (λt ht=>FC λhd=>(DY.1 hs) t hd ht) (λb hr=>FB λhm=>hb b (hx.fst ho b hm) hr)
theorem DJ {rd wr rd' wr':List Nat}(h:apartB rd wr rd' wr'=true):(∀b,b∈wr->b ∉ rd')/\(∀b,b∈wr'->b ∉ rd)/\(∀b,b∈wr->b ∉ wr'):=by simp only[apartB,af,DY]at h;exact⟨λb h1 h2=>h.2 b h2 h1,h.1.1,λb h1 h2=>h.1.2 b h2 h1⟩
theorem aef {x y:iR}(hap:CB x y=true){K:List Nat->List Nat->List Nat->List Nat->eH->Prop}
 (h:T P x st λrd wr st1=>T P y st1 λrd' wr' st2=>apartB rd wr rd' wr'=true/\K rd wr rd' wr' st2) :
 T P y st λrd' wr' st2=>T P x st2 λrd wr st1=>apartB rd wr rd' wr'=true/\K rd wr rd' wr' st1:=by
 simp only[CB,af,eX]at hap;obtain⟨⟨⟨h1,h2⟩,h3⟩,h4⟩:=hap;rw[Dp]at h;obtain⟨Dx,hDx,h⟩:=h;rcases h4 with h4|h4
 ·
  obtain⟨s,bs,ho⟩:=hDx.ne;have hT:=h s bs ho;rw[Dp]at hT;obtain⟨Dy,hDy,hk⟩:=hT;obtain⟨s',bs',ho'⟩:=hDy.ne;obtain⟨a1,a2,a3⟩:=DJ (hk s' bs' ho').1;have RJ:Ie P y st Dy:=Ie.VQ hDy hDx h1 a1 ho;rw[Dp];refine⟨Dy,RJ,λs' bs' ho'=>?_⟩;rw[Dp];refine⟨Dx,hDx.skip RJ h2 a2 ho',λs1 bs1 ho1=>?_⟩;have hT:=h s1 bs1 ho1;rw[Dp]at hT;obtain⟨Dy1,aew,hk1⟩:=hT;have hsame:s1=s/\bs1=bs:=by
   obtain⟨_,hD⟩:=hDx;unfold iR.aay at h4;split at h4
   ·rename_i op hi;rw[hi]at hD;cases hp:mF st.tm x.g with
    |true=>obtain⟨_,_,rfl⟩:=hD.1 hp;exact⟨ho1.1.trans ho.1.symm,ho1.2.trans ho.2.symm⟩
    |false=>have:=hD.2 hp;subst this;exact⟨ho1.1.trans ho.1.symm,ho1.2.trans ho.2.symm⟩
   ·cases h4
  obtain⟨rfl,rfl⟩:=hsame;have:=hk s' bs' ho';show _/\K _ _ _ _ (app x (app y st s' bs') s1 bs1);rw[<- Q5 h3 (λb hb hb'=>a3 b (hDx.fst ho b hb) (RJ.fst ho' b hb'))];exact this
 ·
  obtain⟨s,bs,ho⟩:=hDx.ne;have hT:=h s bs ho;rw[Dp]at hT;obtain⟨Dy,hDy,hk⟩:=hT;obtain⟨s',bs',ho'⟩:=hDy.ne;obtain⟨a1,a2,a3⟩:=DJ (hk s' bs' ho').1;have RJ:Ie P y st Dy:=Ie.VQ hDy hDx h1 a1 ho;rw[Dp];refine⟨Dy,RJ,λs' bs' ho'=>?_⟩;rw[Dp];refine⟨Dx,hDx.skip RJ h2 a2 ho',λs1 bs1 ho1=>?_⟩;have hT:=h s1 bs1 ho1;rw[Dp]at hT;obtain⟨Dy1,aew,hk1⟩:=hT;have hsame:Dy1=Dy:=by obtain⟨s2,bs2,ho2⟩:=aew.ne;obtain⟨b1,_,_⟩:=DJ (hk1 s2 bs2 ho2).1;exact Ie.det h4 (Ie.VQ aew hDx h1 b1 ho1) RJ
  subst hsame;have:=hk1 s' bs' ho';show _/\K _ _ _ _ (app x (app y st s' bs') s1 bs1);rw[<- Q5 h3 (λb hb hb'=>a3 b (hDx.fst ho1 b hb) (RJ.fst ho' b hb'))];exact this
theorem Ij {x:iR}{K K':List Nat->List Nat->eH->Prop}(hk:∀rd wr st,K rd wr st->K' rd wr st)(h:T P x st K):T P x st K':=by rw[Dp]at h⊢;obtain⟨D,hD,h⟩:=h;exact⟨D,hD,λs bs ho=>hk _ _ _ (h s bs ho)⟩
abbrev Log :=List (Nat×List Nat×List Nat)
theorem BU {zO rd wr:List Nat}{log:Log} : x8 zO rd wr log=true<->∀e,e∈log->e.1∈zO\/apartB e.2.1 e.2.2 rd wr=true:=by
 induction log with
 |nil=>simp[x8]
 | cons e l ih=>obtain⟨j,r,w⟩:=e;simp only[x8,af,eX,ih,au,forall_eq_or_imp,apartB,eF]
structure rQ where
 i:Nat
 o:iR
 zO:List Nat
def Xv (P:Program):List rQ->Log->eH->(eH->Prop)->Prop
 |[],_,st,K=>K st
 |x::r,log,st,K=>T P x.o st λrd wr st'=>x8 x.zO rd wr log=true/\Xv P r ((x.i,rd,wr)::log) st' K
theorem Xw {K:eH->Prop} : ∀{l:List rQ} {log aeN:Log} {st:eH},(∀e,e∈aeN->e∈log)->Xv P l log st K->Xv P l aeN st K
 |[],_,_,_,_,h=>h
 | x::r,log,aeN,st,hl,h=>by
   refine Ij (λrd wr st' hk=>⟨?_,Xw (l:=r) ?_ hk.2⟩) h
   ·rw[BU]at hk⊢;exact λe he=>hk.1 e (hl e he)
   ·intro e he;rcases au.1 he with rfl|he
    ·exact aJ ..
    ·exact bU _ (hl e he)
theorem Jg {K:eH->Prop}{x:rQ}{post:List rQ} : ∀{pre:List rQ} {log:Log} {st:eH},(∀p,p∈pre->p.i ∉ x.zO/\CB p.o x.o=true)->Xv P (pre++x::post) log st K->Xv P (x::(pre++post)) log st K
 |[],_,_,_,h=>h
 | p::pre,log,st,hp,h=>by
   obtain⟨hn,hap⟩:=hp p (aJ ..);have h1:T P p.o st λrd wr st1=>T P x.o st1 λrd' wr' st2=>apartB rd wr rd' wr'=true /\
    (x8 p.zO rd wr log=true/\x8 x.zO rd' wr' log=true/\Xv P (pre++post) ((x.i,rd',wr')::(p.i,rd,wr)::log) st2 K):=by
    refine Ij (λrd wr st1 hk=>?_) h;have h2:=Jg (pre:=pre) (λq hq=>hp q (bU _ hq)) hk.2;refine Ij (λrd' wr' st2 hk2=>?_) h2;have age:=BU.1 hk2.1;refine⟨(age (p.i,rd,wr) (aJ ..)).resolve_left hn,hk.1,BU.2 λe he=>age e (bU _ he),hk2.2⟩
   refine Ij (λrd' wr' st2 hk=>?_) (aef hap h1);rw[Dp]at hk;obtain⟨D,hD,hk⟩:=hk;refine⟨?_,?_⟩
   ·obtain⟨s,bs,ho⟩:=hD.ne;exact(hk s bs ho).2.2.1
   ·show T P p.o st2 _;rw[Dp];refine⟨D,hD,λs bs ho=>?_⟩;obtain⟨k1,k2,k3,k4⟩:=hk s bs ho;refine⟨BU.2 λe he=>?_,Xw ?_ k4⟩
    ·rcases au.1 he with rfl|he
     ·right
      simp only[apartB,af,DY]at k1⊢;exact⟨⟨λb h1 h2=>k1.2 b h2 h1,λb h1 h2=>k1.1.2 b h2 h1⟩,λb h1 h2=>k1.1.1 b h2 h1⟩
     ·exact BU.1 k2 e he
    ·intro e he;simp only[au]at he⊢;rcases he with h|h|h
     ·exact .inr (.inl h)
     ·exact .inl h
     ·exact .inr (.inr h)
end
end
section
section
variable {P:Program} {E:Env P} {n:Nat} {ops:Array Oper} {Q:Exit->Act->World->Prop}
def Iy (P:Program)(n m:Nat)(ops:Array Oper):List Oper->List iR->Bool
 |[],[]=>true
 |o::os,x::xs=>CJ P n m ops o x&&Iy P n m ops os xs
 |_,_=>false
theorem ML (hm:E.m<=10):∀{os:List Oper} {xs:List iR} {K:eH->Prop} {a:Act} {w:World},Iy P n E.m ops os xs=true->AK E n (λst=>wpOps P xs st K) a w ->
 (∀a w,AK E n K a w->Q .normal a w)->wpList P ops Q os a w
 |[],[],K,a,w,_,h,hq=>hq a w h
 | o::os,x::xs,K,a,w,hc,h,hq=>by
   simp only[Iy,af]at hc;obtain⟨I,ρ,st,hT,hg⟩:=h;have h1:=V4 (Q:=Q) (ops:=ops) hg hm hc.1 (show T P x st λ_ _ st'=>wpOps P xs st' K from hT);unfold zq at h1;unfold wpList;have key:∀a w,AK E n (λst=>∃rd wr:List Nat,wpOps P xs st K) a w->wpList P ops Q os a w:=λa w hk=>ML hm hc.2 (hk.imp λst ⟨_,_,h⟩=>h) hq;split
   ·rename_i hw;rw[aF hw]at h1;exact h1.imp (uM key) id
   ·rename_i hw;rw[aj hw]at h1;exact key _ _ h1
 |[],_::_,_,_,_,hc,_,_=>by cases hc
 |_::_,[],_,_,_,hc,_,_=>by cases hc
def items : List (iR×List Nat)->Nat->List rQ
 |[],_=>[]
 |(o,zO)::r,i=>⟨i,o,zO⟩::items r (i+1)
theorem VT {K:eH->Prop} : ∀{l:List (iR×List Nat)} {i:Nat} {log:Log} {st:eH},wpD P l i log st K=Xv P (items l i) log st K
 |[],_,_,_=>rfl
 | (o,zO)::r,i,log,st=>by
   simp only[wpD,items,Xv]
   congr 1
   funext rd wr st'
   rw[VT (l:=r)]
def KQ (L:List rQ)(o:Oper)(x:rQ):Bool:=
 x.zO.all (λj=>o.after.toList.any λe=>Region.binds .any e&&(e.on==j||L.any λy=>y.i==e.on&&y.zO.contains j)) &&
 o.after.toList.all (λe=> !Region.binds .any e||decide (e.on<x.i))
def Gu : List rQ->Bool
 |[]=>true
 |x::r=>r.all (λy=>y.zO.contains x.i||CB x.o y.o)&&Gu r
def Gw (P:Program)(n m:Nat)(ops:Array Oper)(L:List rQ)(x:rQ):Bool:=
 match ops[x.i]? with
 |some o=>CJ P n m ops o x.o&&KQ L o x
 |none=>false
def Gy (P:Program)(n m:Nat)(ops:Array Oper)(l:List (iR×List Nat)):Bool:=
 l.length==ops.size&&(items l 0).all (Gw P n m ops (items l 0))&&Gu (items l 0)
theorem Ed : ∀{l:List (iR×List Nat)} {i:Nat},(∀x,x∈items l i->i<=x.i/\x.i<i+l.length)/\(items l i).Pairwise (λx y=>x.i<y.i)/\(∀j,j<l.length->∃x,x∈items l i/\x.i=i+j)
 |[],i=>⟨λx hx=>by simp[items]at hx,.nil,λj hj=>by simp at hj⟩
 | (o,zO)::r,i=>by
   obtain⟨h1,h2,h3⟩:=Ed (l:=r) (i:=i+1);simp only[items,jU];refine⟨λx hx=>?_,kC.2 ⟨λy hy=>?_,h2⟩,λj hj=>?_⟩
   ·rcases au.1 hx with rfl|hx
    ·exact⟨aA _,kY⟩
    ·have:=h1 x hx;omega
   ·have:=(h1 y hy).1;show i<y.i;omega
   ·cases j with
    |zero=>exact⟨_,aJ ..,rfl⟩
    | succ j=>obtain⟨x,hx,he⟩:=h3 j aQ;exact⟨x,bU _ hx,aQ⟩
theorem DV : ∀{l:List rQ},Gu l=true->l.Pairwise λx y=>x.i∈y.zO\/CB x.o y.o=true
 |[],_=>.nil
 | x::r,h=>by simp only[Gu,af,aB,eX,eF]at h;exact kC.2 ⟨h.1,DV h.2⟩
theorem Qd {l:Array Bool}{i:Nat}(h:l.getD i true=false):l.getD i false=false:=by
 simp only[dm]at *;cases hh:l[i]? with
 |none=>rw[hh]at h;cases h
 |some b=>rw[hh]at h;simpa using h
theorem XJ (hm:E.m<=10){L:List (iR×List Nat)}(hc:Gy P n E.m ops L=true){K:eH->Prop}(hq:∀a w,AK E n K a w->Q .normal a w) :
 ∀ (fuel:Nat) (l:List rQ) (listed:Array Bool) (log:Log) (a:Act) (w:World),l.length<=fuel->l.Sublist (items L 0)->listed.size=ops.size ->
   (∀x,x∈items L 0->(listed.getD x.i true=false<->x∈l)) ->
   (∀x,x∈items L 0->listed.getD x.i false=true->∀j,j∈x.zO->listed.getD j false=true) ->
   AK E n (λst=>Xv P l log st K) a w->wpAny P .any ops Q fuel listed a w:=by
 simp only[Gy,af,aK,aB]at hc;obtain⟨⟨hlen,hit⟩,hap⟩:=hc;obtain⟨i1,i2,i3⟩:=Ed (l:=L) (i:=0);have hpw:(items L 0).Pairwise λx y=>x.i<y.i/\(x.i∈y.zO\/CB x.o y.o=true):=i2.and (DV hap);have Ol:∀x y,x∈items L 0->y∈items L 0->x.i=y.i->x=y:=by
  intro x y hx hy e;obtain⟨p,hp,rfl⟩:=lX hx;obtain⟨q,hq',rfl⟩:=lX hy;have aar:=pq.1 i2;rcases tH p q with h|h|h
  ·have:=aar p q hp hq' h;omega
  ·subst h;rfl
  ·have:=aar q p hq' hp h;omega
 have U8:∀(l:List rQ) (listed:Array Bool),l.Sublist (items L 0)->listed.size=ops.size->(∀x,x∈items L 0->(listed.getD x.i true=false<->x∈l))->mG .any ops listed=[]->l=[]:=by
  intro l listed hsub hsz hl hr;cases l with
  |nil=>rfl
  | cons x r=>
    exfalso;have hx:=hsub.subset (aJ ..);have hc:=hit x hx;unfold Gw at hc;cases ho:ops[x.i]? with
    |none=>rw[ho]at hc;cases hc
    | some o=>
      rw[ho]at hc;simp only[af,KQ,aB,eX,gG,ak]at hc;have:x.i∈mG .any ops listed:=by
       rw[mem_ready];refine⟨(hl x hx).2 (aJ ..),o,ho,λe he hb=>?_⟩;have hlt:=(hc.2.2 e (by simpa using he)).resolve_left (by rw[hb];simp);have hxi:=i1 x hx;obtain⟨y,hy,hye⟩:=i3 e.on aQ;have hye:y.i=e.on:=(by omega);by_cases hyl:y∈x::r
       ·exfalso;rcases au.1 hyl with rfl|hyr
        ·omega
        ·have:=(kC.1 (i2.sublist hsub)).1 y hyr;omega
       ·have h1:¬listed.getD y.i true=false:=λh=>hyl ((hl y hy).1 h);have hin:y.i<listed.size:=(by rw[hsz,<- hlen];have:=i1 y hy;omega);rw[<- hye];simp only[dm,iE hin,jV]at h1⊢;simpa using h1
      rw[hr]at this;cases this
 intro fuel
 induction fuel with
 | zero=>
   intro l listed log a w hf hsub hsz hl _ h;have:l=[]:=qp.1 aQ;subst this;refine⟨?_,hq a w h⟩;cases hr:mG .any ops listed with
   |nil=>rfl
   | cons i r=>exfalso;have hi:i∈mG .any ops listed:=(by rw[hr];exact aJ ..);obtain⟨hu,o,ho,_⟩:=mem_ready.1 hi;have hlt:=(bY.1 ho).1;obtain⟨y,hy,hye⟩:=i3 i aQ;have hye:y.i=i:=(by omega);have:=(hl y hy).1 (by rw[hye];exact hu);cases this
 | succ fuel ih=>
   intro l listed log a w hf hsub hsz hl hdown h;refine⟨λhr=>?_,λi hi=>?_⟩
   ·have:=U8 l listed hsub hsz hl hr;subst this;exact hq a w h
   ·obtain⟨hu,o,ho,hall⟩:=mem_ready.1 hi;have hlt:=(bY.1 ho).1;obtain⟨x,hx,hxe⟩:=i3 i aQ;have hxe:x.i=i:=(by omega);subst hxe;have hxl:=(hl x hx).1 hu;have hcx:=hit x hx;unfold Gw at hcx;rw[ho]at hcx;simp only[af]at hcx;obtain⟨hco,hca⟩:=hcx;have haft:∀j,j∈x.zO->listed.getD j false=true:=by
     intro j hj;simp only[KQ,af,aB,oJ,eX,aK]at hca;obtain⟨e,he,hb,hej⟩:=hca.1 j hj;have hel:=hall e (by simpa using he) hb;rcases hej with rfl|⟨y,hy,hye,hyj⟩
     ·exact hel
     ·rw[<- hye]at hel;exact hdown y hy hel j (by simpa using hyj)
    obtain⟨pre,post,rfl⟩:=List.append_of_mem hxl;have Qg:=hpw.sublist hsub;rw[vJ]at Qg;have hpre:∀p,p∈pre->p.i ∉ x.zO/\CB p.o x.o=true:=by
     intro p hp;have h1:=Qg.2.2 p hp x (aJ ..);have hn:p.i ∉ x.zO:=by intro hm';have h2:=haft _ hm';have h3:=(hl p (hsub.subset (bF _ hp))).2 (bF _ hp);rw[Qd h3]at h2;cases h2
     exact⟨hn,h1.2.resolve_left hn⟩
    obtain⟨I,ρ,st,hT,hg⟩:=h;have hT:=Jg hpre hT;have h1:=V4 (Q:=Q) (ops:=ops) hg hm hco (show T P x.o st λrd wr st'=>x8 x.zO rd wr log=true/\Xv P (pre++post) ((x.i,rd,wr)::log) st' K from hT);have key:∀a w,AK E n (λst=>∃rd wr,x8 x.zO rd wr log=true/\Xv P (pre++post) ((x.i,rd,wr)::log) st K) a w->wpAny P .any ops Q fuel (listed.setIfInBounds x.i true) a w:=by
     rintro a w ⟨I,ρ,st,⟨rd,wr,_,hk⟩,hg⟩;have hnx:x ∉ pre++post:=by
      intro hxm;rcases bg.1 hxm with h|h
      ·have:=(Qg.2.2 x h x (aJ ..)).1;omega
      ·have:=((kC.1 Qg.2.1).1 x h).1;omega
     refine ih (pre++post) _ ((x.i,rd,wr)::log) a w (by simp at hf⊢;omega) ?_ (by simp[hsz]) ?_ ?_ ⟨I,ρ,st,hk,hg⟩
     ·exact(List.Sublist.append_left (List.sublist_cons_self x post) pre).trans hsub
     ·intro y hy;by_cases hyx:y=x
      ·subst hyx;constructor
       ·intro h;have hin:y.i<listed.size:=(by rw[hsz];exact hlt);simp[hin]at h
       ·intro h;exact dO h hnx
      ·have hne:x.i≠y.i:=λe=>hyx (Ol y x hy hx e.symm);rw[getD_set_ne true hne,hl y hy];simp only[bg,au,hyx,false_or]
     ·intro y hy hyl j hj;by_cases hyx:y=x
      ·subst hyx;exact getD_set_true (haft j hj)
      ·have hne:x.i≠y.i:=λe=>hyx (Ol y x hy hx e.symm);rw[getD_set_ne false hne]at hyl;exact getD_set_true (hdown y hy hyl j hj)
    unfold wpOp;rw[ho];unfold zq at h1;simp only;split
    ·rename_i hw;rw[aF hw]at h1;exact h1.imp (uM key) id
    ·rename_i hw;rw[aj hw]at h1;exact key _ _ h1
theorem VA (hm:E.m<=10)(hf:P.follows .mixedOrders=true){L:List (iR×List Nat)}(hc:Gy P n E.m ops L=true){K:eH->Prop}(hq:∀a w,AK E n K a w->Q .normal a w)
 {id:Nat} {a:Act} {w:World} (h:AK E n (λst=>wpD P L 0 [] st K) a w):(vg id ops true).wp P Q a w:=by
 refine wp_region_any hf ?_;have hlen:L.length=ops.size:=by simp only[Gy,af,aK]at hc;exact hc.1.1
 have i0:=Ed (l:=L) (i:=0);have hil:(items L 0).length=L.length:=by
  clear i0 hlen h hc;generalize 0=i
  induction L generalizing i with
  |nil=>rfl
  |cons x r ih=>obtain⟨o,zO⟩:=x;simp[items,ih]
 refine XJ hm hc hq ops.size (items L 0) (o5 ops.size false) [] a _ aQ (List.Sublist.refl _) kY ?_ ?_ ?_
 ·intro x hx;have:=i0.1 x hx;have hlt:x.i<ops.size:=by omega
  simp[hlt,hx]
 ·intro x hx h;exfalso;have:=i0.1 x hx;have hlt:x.i<ops.size:=by omega
  simp[hlt]at h
 ·obtain⟨I,ρ,st,hT,hg⟩:=h;exact⟨I,ρ,st,Eq.mp (VT (P:=P) (l:=L) (i:=0) (log:=[]) (st:=st) (K:=K)) hT,hg.drew⟩
end
end
section
section
variable {P:Program} {E:Env P} {I:IH} {ρ:Ren} {n:Nat} {st:eH} {a:Act} {w w':World} {Γ : List OF} {g0:Own} {dp:Nat} {lz:Bool}
def AO0 (E:Env P)(g0:Own)(dp n:Nat)(K:eH->Prop)(Γ : List OF)(a:Act)(w:World):Prop:=AK E n K a w/\LY E g0 dp Γ a w
theorem N9 (h:OW P FV g0 dp Γ a w){x:Operand}{b:Bool}{k:Knd}(hc:EH Γ x=some (b,k)){f:FuncId}{caps:Array Value}(hx:a.eval x = .func (.func f) #[] caps) :
 (b=false/\kindOf f=k/\caps.size=0)\/(b=true/\(k = .rd/\kindOf f = .rd\/∃sg,k = .ow sg/\kindOf f = .ow ⟨sg.ps++bG caps.size .any,sg.rs⟩)):=by
 unfold EH at hc;split at hc
 ·rename_i f';cases hc;simp only[Act.eval]at hx;cases hx;exact .inl ⟨rfl,rfl,rfl⟩
 ·rename_i t;have hm:=jO hc;rw[bK]at hm;obtain⟨f0,hf0,hm⟩:=hm;split at hm
  ·rename_i y s;split at hm
   ·rename_i e;subst e;obtain⟨f1,ais,h1,h2⟩:=h.fs _ hf0;have e1:a.eval (.tmp y)=a.tmps.getD y undef:=rfl;rw[e1,h1]at hx;cases hx
    right
    cases s with
    |zero=>cases hm;exact⟨rfl,.inl ⟨rfl,h2⟩⟩
    | succ s=>cases hm;obtain⟨sg,h3,h4,h5⟩:=h2;refine⟨rfl,.inr ⟨_,rfl,?_⟩⟩;rw[h3,<- h4,<- h5]
   ·cases hm
  ·cases hm
 ·cases hc
theorem Ir (h:GX E I ρ n st a w)(hm:E.m<=10)(BD:LY E g0 dp Γ a w){o:Oper}{uA:List OF}{x:Operand}{az:Array Operand}{ts:Array TypeId}(ho:o.op = .call ⟨.value x,az,ts⟩)(hs:MB P Γ o=some uA)(hdn:∀d,o.dst=some d->d<n)
 {f:FuncId} {caps:Array Value} (hx:a.eval x = .func (.func f) #[] caps) {pz:List AV} (hv:NF I ρ (az.toList.map a.eval++caps.toList) pz) {K:List Nat->List Nat->eH->Prop} (hT:E8 P f pz true o.dst st K) :
 Calls P f (az.toList.map a.eval++caps.toList).toArray w λe w'=>∃v,e = .returned v/\AO0 E g0 dp n (λst=>∃rd wr,K rd wr st) uA (a.put o.dst v) w':=by
 have rd:kindOf f = .rd->uA=zC o.dst Γ -> Calls P f (az.toList.map a.eval++caps.toList).toArray w λe w'=>∃v,e = .returned v/\AO0 E g0 dp n (λst=>∃rd wr,K rd wr st) uA (a.put o.dst v) w':=by intro hk Ue;refine(Bj h hm hdn hv hT (.rd hk)).mono ?_;rintro e w' ⟨⟨v,he,hak⟩,hF,hsz⟩;refine⟨v,he,hak,?_⟩;rw[Ue];exact(BD.world hsz hF).drop _ _
 have ow:∀{sg:QV} {C:CR},kindOf f = .ow sg->(az.toList.map a.eval++caps.toList).length=sg.ps.length->Js Γ sg az.toList o.dst=some C->uA=Oe Γ o.dst C->Calls P f (az.toList.map a.eval++caps.toList).toArray w λe w'=>∃v,e = .returned v/\AO0 E g0 dp n (λst=>∃rd wr,K rd wr st) uA (a.put o.dst v) w':=by intro sg C hk hl hC Ue;obtain⟨g,h1,h2⟩:=BD;obtain⟨X,hX,hXs⟩:=SI h2 h.ve.size hk hl hC (λd e=>by rw[h.size];exact hdn d e);refine(Bj h hm hdn hv hT hX).mono ?_;rintro e w' ⟨⟨v,he,hak⟩,hXe,hsz⟩;subst he;obtain⟨g',h3,h4⟩:=hXs v w' hsz hXe;exact⟨v,rfl,hak,g',h1.trans h3,by rw[Ue];exact h4⟩
 have base:∀{b:Bool} {sg:QV} {C:CR},EH Γ x=some (b,.ow sg)->az.size=sg.ps.length->Js Γ sg az.toList o.dst=some C->uA=Oe Γ o.dst C->Calls P f (az.toList.map a.eval++caps.toList).toArray w λe w'=>∃v,e = .returned v/\AO0 E g0 dp n (λst=>∃rd wr,K rd wr st) uA (a.put o.dst v) w':=by
  intro b sg C hk hsz hC Ue;obtain⟨g,h1,h2⟩:=BD;rcases N9 h2 hk hx with⟨rfl,h3,h4⟩|⟨rfl,⟨h3,_⟩|⟨sg',h3,h4⟩⟩
  ·exact ow h3 (by simp;omega) hC Ue
  ·cases h3
  ·cases h3;exact ow h4 (by simp;omega) (YD hC (by simpa using hsz)) Ue
 unfold MB at hs;rw[ho]at hs;simp only at hs;split at hs
 ·rename_i b hk;cases hs;obtain⟨g,h1,h2⟩:=BD;rcases N9 h2 hk hx with⟨rfl,h3,h4⟩|⟨rfl,⟨_,h3⟩|⟨sg',h3,h4⟩⟩
  ·exact rd h3 rfl
  ·exact rd h3 rfl
  ·cases h3
 ·rename_i b sg hk;split at hs
  ·rename_i hb;simp only[aU]at hs;obtain⟨C,hC,rfl⟩:=hs;exact base hk (by simpa using hb) hC rfl
  ·cases hs
 ·cases hs
theorem Ro (h:GX E I ρ n st a w)(hm:E.m<=10)(BD:LY E g0 dp Γ a w){o:Oper}{uA:List OF}{x:Operand}{az:Array Operand}{ts:Array TypeId}(ho:o.op = .call ⟨.value x,az,ts⟩)(hs:NK P lz Γ o=some uA)(hdn:∀d,o.dst=some d->d<n)
 {f:FuncId} {caps:Array Value} (hx:a.eval x = .func (.func f) #[] caps) {pz:List AV} (hv:NF I ρ (az.toList.map a.eval++caps.toList) pz) {K:List Nat->List Nat->eH->Prop} (hT:E8 P f pz true o.dst st K) :
 Calls P f (az.toList.map a.eval++caps.toList).toArray w λe w'=>∃v,e = .returned v/\AO0 E g0 dp n (λst=>∃rd wr,K rd wr st) uA (a.put o.dst v) w':=by
 unfold NK at hs;split at hs
 ·split at hs
  ·rename_i hq;cases hs;unfold I9 at hq;rw[ho]at hq;simp only at hq;unfold aeL at hq;split at hq
   ·rename_i b hk;exact Ir h hm BD ho (by unfold MB;rw[ho];simp only[hk]) hdn hx hv hT
   ·cases hq
  ·split at hs
   ·cases hs
   ·obtain⟨BC,h1,rfl⟩:=aU.1 hs;refine(Ir h hm BD ho h1 hdn hx hv hT).mono λe w' hq=>?_;obtain⟨v,he,hak,hl⟩:=hq;exact⟨v,he,hak,hl.weak λf hf=>eF.1 (aC.1 hf).2⟩
 ·exact Ir h hm BD ho hs hdn hx hv hT
end
end
section
section
variable {P:Program} {E:Env P} {I:IH} {ρ:Ren} {n:Nat} {st:eH} {a:Act} {w w':World} {Γ : List OF} {g0:Own} {dp:Nat} {lz:Bool}
theorem U4 {ops:Array Oper}{o:Oper}{g:Option (Nat×Bool)}(hc:DW n ops o.guard g=true)(hg:mF st.tm g=false):o.guard.isSome=true:=by
 unfold DW at hc;split at hc
 ·simp[mF]at hg
 ·rename_i e;rw[e];rfl
 ·cases hc
theorem Vs {o:Oper}{uA:List OF}(ho:NK P lz Γ o=some uA)(hg:o.guard.isSome=true):∀f,f∈uA->f∈zC o.dst Γ :=by
 unfold NK at ho;rw[aF (by rw[hg,Bool.or_true])]at ho;split at ho
 ·cases ho;exact λf h=>h
 ·split at ho
  ·cases ho
  ·obtain⟨BC,_,rfl⟩:=aU.1 ho;exact λf h=>(aC.1 h).1
theorem SK {o:Oper}{ao:iR}{uA:List OF}(ho:Jt P lz Γ o ao=some uA)(hg:o.guard.isSome=true):∀f,f∈uA->f∈zC o.dst Γ :=by
 unfold Jt at ho;split at ho
 ·cases ho;exact λf h=>h
 ·exact Vs ho hg
theorem XG (h:GX E I ρ n st a w)(hm:E.m<=10)(BD:LY E g0 dp Γ a w){ops:Array Oper}{Q:Exit->Act->World->Prop}{o:Oper}{ao:iR}{uA:List OF}(hc:CJ P n E.m ops o ao=true)(ho:Jt P lz Γ o ao=some uA){K:List Nat->List Nat->eH->Prop}(hT:T P ao st K) :
 zq P ops Q o (AO0 E g0 dp n (λst=>∃rd wr,K rd wr st) uA) a w:=by
 simp only[CJ,af]at hc;obtain⟨⟨hcg,hcd⟩,hci⟩:=hc;obtain⟨hdd,hdn⟩:=ZW hcd;obtain⟨hgv,hT⟩:=hT;have hw:=RH h hcg hgv;have aeA:∀d,o.dst=some d->d<n:=λd e=>hdn d (by rw[<- hdd];exact e);have skip:mF st.tm ao.g=false->∀r,(∃rd wr,K rd wr (st.uh ao.d (.v false r)))->AO0 E g0 dp n (λst=>∃rd wr,K rd wr st) uA (a.put o.dst undef) w:=λhp r hk=>⟨⟨I,ρ,_,hk,by rw[hdd];exact h.uh hdn ⟨(λe=>by cases e),λ_=>rfl⟩⟩,(BD.drop _ _).weak (SK ho (U4 hcg hp))⟩;unfold zq;rw[hw];cases hi:ao.i with
 | op op=>
   rw[hi]at hT hci;obtain⟨h1,h2⟩:=hT;cases hp:mF st.tm ao.g with
   |false=>simpa using skip hp _ ⟨_,_,h2 hp⟩
   | true=>
     obtain⟨hv,gI,h3⟩:=h1 hp;obtain⟨v,w',I',ρ',hr,hg,aeD,heff⟩:=SQ h hci hv gI;simp only[iT];refine .inl ?_;have ahD:LY E g0 dp uA (a.put o.dst v) w':=by
      unfold Jt at ho;split at ho
      ·rename_i x az ts hop;cases ho;have hw:=heff.quiet (by rw[hop];rfl);subst hw;exact BD.drop _ _
      ·rename_i hne;refine aeX h BD ho aeA (λc hc x hx=>?_) hr heff;obtain⟨callee,args,argTypes⟩:=c;simp only at hx;subst hx;exact hne op x args argTypes hi hc
     have key:AO0 E g0 dp n (λst=>∃rd wr,K rd wr st) uA (a.put o.dst v) w':=by
      refine⟨⟨I',ρ',_,⟨_,_,h3⟩,?_⟩,ahD⟩;rw[hdd];cases hd:ao.d with
      |none=>exact hg
      |some d=>exact hg.put (hdn d hd) ⟨λ_=>aeD (by rw[hdd,hd];simp),λe=>by cases e⟩
     unfold qR;rcases hr with hr|⟨hr,hnd⟩
     ·rw[hr];exact key
     ·rw[hr,wX];rw[hnd]at key⊢;exact key
 | call f args=>
   have ho:NK P lz Γ o=some uA:=(by unfold Jt at ho;rw[hi]at ho;exact ho);rw[hi]at hT hci;simp only[KY]at hci;split at hci
   ·rename_i f' az ts hop;simp only[af,aK]at hci;obtain⟨⟨rfl,hca⟩,hok⟩:=hci;obtain⟨h1,h2⟩:=hT;cases hp:mF st.tm ao.g with
    | false=>have h2':=h2;rw[hp]at h2';obtain⟨r,hk⟩:=Di h2';simpa using skip hp r hk
    | true=>rw[hp]at h1 h2;simp only[iT];refine .inl (Dj (y5 hop (x:=.func f') (caps:= #[]) rfl hok) ?_);have hvs:=Ho h hca (h1 rfl);rw[<- hdd]at h2;have:=Ro h hm BD hop ho aeA (f:=f') (caps:= #[]) rfl (by simpa using hvs) h2;simpa[<- Array.toList_map]using this
   ·cases hci
 | DR x args=>
   have ho:NK P lz Γ o=some uA:=(by unfold Jt at ho;rw[hi]at ho;exact ho);rw[hi]at hT hci;simp only[KY]at hci;split at hci
   ·rename_i x' az ts hop;simp only[af]at hci;obtain⟨hcx,hca⟩:=hci;obtain⟨hg0,h2⟩:=hT;cases hp:mF st.tm ao.g with
    | false=>have h2':=h2;rw[hp]at h2';obtain⟨r,hk⟩:=Di h2';simpa using skip hp r hk
    |true=>
    rw[hp]at h2;obtain⟨hg1,h1⟩:=hg0 hp;split at h2
    ·rename_i hb;cases hb
    ·rename_i f caps _ hf;obtain⟨hok,h2⟩:=h2;have hx:=jF h hcx hg1;rw[hf]at hx;obtain⟨ks,hk1,hk2,hk3⟩:=hx;simp only[iT];refine .inl (Dj (y5 hop hk3 hok) ?_);have hvs:=Ho h hca h1;have hvs':NF I ρ (az.toList.map a.eval++ks.map λk=>kV (some ⟨k,0,none⟩)) (args.map (bW st.tm)++caps.map λb=>AV.one (.ptr b 0)):=by
      refine⟨by have:=hvs.1;simp at this;simp[hk1,this],λj v z hv hz=>?_⟩;by_cases hj:j<(az.toList.map a.eval).length
      ·rw[aX hj]at hv;rw[aX (by rw[<- hvs.1];exact hj)]at hz;exact hvs.2 j v z hv hz
      ·rw[bZ aQ]at hv;rw[bZ (by rw[<- hvs.1];omega)]at hz;rw[hvs.1]at hv;generalize j-(args.map (bW st.tm)).length=i at hv hz;rw[aP]at hv hz;cases hki:ks[i]? with
       |none=>rw[hki]at hv;cases hv
       | some k=>
         cases hci:caps[i]? with
         |none=>rw[hci]at hz;cases hz
         | some b=>rw[hki]at hv;rw[hci]at hz;simp at hv hz;subst hv;subst hz;obtain⟨cap,hr⟩:=hk2 i b k hci hki;exact⟨k,cap,hr,rfl⟩
     rw[<- hdd]at h2;have:=Ro h hm BD hop ho aeA (f:=f) (caps:=(ks.map λk=>kV (some ⟨k,0,none⟩)).toArray) hk3 (by simpa using hvs') h2;have e:(az.map a.eval++(ks.map λk=>kV (some ⟨k,0,none⟩)).toArray)=(az.toList.map a.eval++(ks.map λk=>kV (some ⟨k,0,none⟩)).toArray.toList).toArray:=(by apply sS;simp);rw[e];exact this
    ·exact h2.elim
   ·cases hci
def PA (pa:List (Nat×Value))(a:Act):Prop:=∀e,e∈pa->a.tmps.getD e.1 undef=e.2
def AO (E:Env P)(g0:Own)(pa:List (Nat×Value))(dp n:Nat)(K:eH->Prop)(Γ : List OF)(a:Act)(w:World):Prop:=AO0 E g0 dp n K Γ a w/\PA pa a
theorem PA.put {pa:List (Nat×Value)}(h:PA pa a){d:Option Nat}(hd:∀e,e∈pa->d≠some e.1)(v:Value)(df:List Deferred):PA pa ({ a with defers:=df }.put d v):=λe he=>by
 cases d with
 |none=>exact h e he
 | some d=>have:e.1≠d:=λe'=>hd e he (by rw[e']);rw[<- h e he];exact jP (a:={ a with defers:=df }) this
theorem VU {pa:List (Nat×Value)}(hpa:PA pa a){ops:Array Oper}{Q:Exit->Act->World->Prop}{o:Oper}(hd:∀e,e∈pa->o.dst≠some e.1){K:Act->World->Prop}(h:zq P ops Q o K a w):zq P ops Q o (λa w=>K a w/\PA pa a) a w:=by
 have hput:∀v,PA pa (a.put o.dst v):=λv=>hpa.put hd v a.defers;unfold zq at h⊢;split
 ·rename_i hw;rw[aF hw]at h;refine h.imp (λh=>?_) id;unfold qR at h⊢;cases hr:(execOp a.eval o).run P w with
  | halt e w1=>rw[hr]at h;cases e<;>first|exact h|exact h.elim
  | ok nx w1=>
    rw[hr]at h;cases nx with
    |value v=>exact⟨h,hput v⟩
    |skip=>exact⟨h,hput undef⟩
    |defer d=>exact⟨h,hpa.put hd undef _⟩
    | enter f args=>
      refine Calls.mono h ?_;intro e w'' hq;cases e with
      |returned v=>exact⟨hq,hput v⟩
      |panicked c=>exact hq
      |outgrown=>exact hq
    |row r args=>exact Rows.mono h λv w'' hq=>⟨hq,hput v⟩
    |_=>exact h.elim
 ·rename_i hw;rw[aj hw]at h;exact⟨h,hput undef⟩
theorem QZ (h:GX E I ρ n st a w)(hm:E.m<=10)(BD:LY E g0 dp Γ a w){pa:List (Nat×Value)}{pl:List Nat}(hpa:PA pa a)(hpl:∀e,e∈pa->e.1∈pl){ops:Array Oper}{Q:Exit->Act->World->Prop}{o:Oper}{ao:iR}{uA:List OF}(hc:CJ P n E.m ops o ao=true)(ho:Fg P pl lz Γ o ao=some uA){K:List Nat->List Nat->eH->Prop}(hT:T P ao st K) :
 zq P ops Q o (AO E g0 pa dp n (λst=>∃rd wr,K rd wr st) uA) a w:=by
 unfold Fg at ho;split at ho
 ·cases ho
 ·rename_i hn;refine VU hpa (λe he e'=>hn ?_) (XG h hm BD hc ho hT);rw[oJ];exact⟨e.1,hpl e he,by rw[e'];simp⟩
end
end
section
def SL (P:Program)(pl:List Nat)(Γ : List OF)(o:Oper)(ao:iR):Option (List OF):=(Fg P pl false Γ o ao).bind λBC=>LC BC some
theorem SN {P:Program}{pl:List Nat}{Γ : List OF}{o:Oper}{ao:iR} : SL P pl Γ o ao=Fg P pl false Γ o ao:=by
 unfold SL;cases Fg P pl false Γ o ao with
 |none=>rfl
 |some BC=>simp[yO (fc:=P8) (λ_ _=>Oh)]
def SS (P:Program)(pl:List Nat):List Oper->List iR->List OF->Option (List OF)
 |o::os,x::xs,Γ =>(SL P pl Γ o x).bind (SS P pl os xs)
 |_,_,Γ =>some Γ
def WR : List (List OF)->List OF
 |[]=>[]
 |a::r=>a.filter λf=>r.all λb=>b.contains f
abbrev DS :=Nat×List Nat×List OF
def U2 {β:Type}(s:DS)(k:DS->β):β:=match s with
 |(a,l,Γ)=>rf a λa=>CO rf l λl=>LC Γ fun Γ =>k (a,l,Γ)
theorem X9 {β:Type}{s:DS}{k:DS->β} : U2 s k=k s:=by obtain⟨a,l,Γ⟩:=s;simp only[U2,zZ,yO (fc:=rf) (λ_ _=>zZ),IC]
def XH (s:DS):List DS->List DS
 |[]=>[s]
 |t::r=>if iV s.1 t.1&&s.2.1==t.2.1 then(t.1,t.2.1,t.2.2.filter s.2.2.contains)::r else t::XH s r
def LU (L:List rQ)(i:Nat):Option rQ:=L.find? λx=>x.i==i
def Lh (D:List Nat)(Γ : List OF):List OF:= Γ.filter λf=>D.all λd=>Ar d f
def adW (P:Program)(pl:List Nat)(ops:Array Oper)(L:List rQ)(D:List Nat)(s:DS):Option (List DS):=
 Il (λi=>match LU L i,ops[i]? with
  |some x,some o=>(SL P pl s.2.2 o x.o).map λBC=>(s.1-2^i,s.2.1.filter (· != i),Lh D BC)
  | _,_=>none) (s.2.1.filter λi=>match LU L i with
    |some x=>s.2.1.all λj=> !x.zO.contains j
    |none=>false)
def QC (P:Program)(pl:List Nat)(ops:Array Oper)(L:List rQ)(D:List Nat):Nat->List DS->Option (List OF)
 |0,S=>some (WR (S.map (·.2.2)))
 |m+1,S=>(Il (adW P pl ops L D) S).bind λSs=>CO U2 (Ss.flatten.foldr XH []) (QC P pl ops L D m)
def Qi (P:Program)(pl:List Nat)(ops:Array Oper)(x:rQ):Bool:=match ops[x.i]? with
 |some o=>(Fg P pl true [] o x.o).isSome
 |none=>false
def aer (P:Program)(pl:List Nat)(ops:Array Oper):List rQ->List OF->List (rQ×Bool)
 |[],_=>[]
 | x::r,Γ =>match ops[x.i]? with
   | some o=>(match SL P pl Γ o x.o with
     | some BC=>(x,match o.dst with
       |some d=>BC.any λf=> !Ar d f
       |none=>true)::aer P pl ops r BC
     |none=>(x::r).map λx=>(x,true))
   |none=>(x::r).map λx=>(x,true)
def ac3 (P:Program)(pl:List Nat)(ops:Array Oper):List (rQ×Bool)->List Nat->List Nat
 |[],_=>[]
 | (x,b)::r,nd=>if Qi P pl ops x && !(b&&(match x.o.d with
   |some d=>nd.contains d
   |none=>true))then x.i::ac3 P pl ops r nd else ac3 P pl ops r (x.o.slots++nd)
def CV (P:Program)(pl:List Nat)(ops:Array Oper)(J5:List Nat)(x:rQ):Bool:=J5.contains x.i&&Qi P pl ops x
def agU (P:Program)(pl:List Nat)(ops:Array Oper)(L:List rQ)(Γ : List OF)(J5:List Nat):Option (List OF):=
 let D:=(L.filter (CV P pl ops J5)).filterMap λx=>(ops[x.i]?).bind (·.dst)
 let l:=(L.filter λx=> !CV P pl ops J5 x).map (·.i)
 CO rf D λD=>CO rf l λl=>QC P pl ops L D l.length [(l.foldl (λa i=>a+2^i) 0,l,Lh D Γ)]
def afe (P:Program)(pl keep:List Nat)(ops:Array Oper)(L:List rQ)(Γ : List OF):Option (List OF):=
 CO rf (ac3 P pl ops (aer P pl ops L Γ).reverse (keep++pl)) (agU P pl ops L Γ)
theorem KF {s:DS} : ∀{l:List DS},(∃t,t∈XH s l/\t.2.1=s.2.1/\∀f,f∈t.2.2->f∈s.2.2)/\∀u,u∈l->∃t,t∈XH s l/\t.2.1=u.2.1/\∀f,f∈t.2.2->f∈u.2.2
 |[]=>⟨⟨s,aJ ..,rfl,λ_ h=>h⟩,λu h=>by cases h⟩
 | t::r=>by
   obtain⟨h1,h2⟩:=KF (s:=s) (l:=r);simp only[XH];split
   ·rename_i hc;simp only[af,aK]at hc;refine⟨⟨_,aJ ..,hc.2.symm,λf hf=>eF.1 (aC.1 hf).2⟩,λu hu=>?_⟩;rcases au.1 hu with rfl|hu
    ·exact⟨_,aJ ..,rfl,λf hf=>(aC.1 hf).1⟩
    ·exact⟨u,bU _ hu,rfl,λ_ h=>h⟩
   ·refine⟨?_,λu hu=>?_⟩
    ·obtain⟨t',h3,h4⟩:=h1;exact⟨t',bU _ h3,h4⟩
    ·rcases au.1 hu with rfl|hu
     ·exact⟨u,aJ ..,rfl,λ_ h=>h⟩
     ·obtain⟨t',h3,h4⟩:=h2 u hu;exact⟨t',bU _ h3,h4⟩
theorem Oy : ∀{l:List DS} {u:DS},u∈l->∃t,t∈l.foldr XH []/\t.2.1=u.2.1/\∀f,f∈t.2.2->f∈u.2.2
 | s::r,u,hu=>by
   simp only[List.foldr];rcases au.1 hu with rfl|hu
   ·exact KF.1
   ·obtain⟨t,h1,h2,h3⟩:=Oy hu;obtain⟨t',h4,h5,h6⟩:=(KF (s:=s)).2 t h1;exact⟨t',h4,h5.trans h2,λf hf=>h3 f (h6 f hf)⟩
theorem Vy {Γ : List OF}{op:Op}(h:I9 [] op=true):I9 Γ op=true:=by
 unfold I9 at h⊢;split at h
 ·rename_i x az ts;unfold aeL EH at h⊢;cases x<;>simp_all
 ·exact h
theorem ac4 {P:Program}{pl:List Nat}{ops:Array Oper}{x:rQ}{o:Oper}(h:Qi P pl ops x=true)(ho:ops[x.i]? = some o)(Γ : List OF):Fg P pl true Γ o x.o=some (zC o.dst Γ):=by
 unfold Qi at h;rw[ho]at h;simp only at h;unfold Fg at h⊢;split at h
 ·cases h
 ·rename_i hn;rw[aj hn];unfold Jt at h⊢;split
  ·rfl
  ·rename_i hne;split at h
   ·rename_i h1 h2;exact dO h2 (hne _ _ _ _ h1)
   ·unfold NK at h⊢;simp only[Bool.true_or,iT]at h⊢;split at h
    ·rename_i hq;rw[aF (Vy hq)]
    ·simp at h
theorem IY {Gs:List (List OF)}{f:OF}(h:f∈WR Gs){G:List OF}(hG:G∈Gs):f∈G:=by
 cases Gs with
 |nil=>cases hG
 | cons a r=>
   rw[WR,aC,aB]at h;rcases au.1 hG with rfl|hG
   ·exact h.1
   ·exact eF.1 (h.2 G hG)
section
variable {P:Program} {E:Env P} {n:Nat} {ops:Array Oper} {Q:Exit->Act->World->Prop} {Γ : List OF} {g0:Own} {dp:Nat} {pa:List (Nat×Value)} {pl:List Nat}
theorem AO.imp {K K':eH->Prop}{uA:List OF}(hk:∀st,K st->K' st){a:Act}{w:World}(h:AO E g0 pa dp n K Γ a w)(hs:∀f,f∈uA->f ∈ Γ):AO E g0 pa dp n K' uA a w:=
 ⟨⟨AK.imp hk h.1.1,h.1.2.weak hs⟩,h.2⟩
theorem Jv (hm:E.m<=10)(hpl:∀e,e∈pa->e.1∈pl):∀{os:List Oper} {xs:List iR} {K:eH->Prop} {Γ uA:List OF} {a:Act} {w:World},Iy P n E.m ops os xs=true->SS P pl os xs Γ = some uA->AO E g0 pa dp n (λst=>wpOps P xs st K) Γ a w ->
 (∀a w,AO E g0 pa dp n K uA a w->Q .normal a w)->wpList P ops Q os a w
 |[],[],K,Γ,uA,a,w,_,ho,h,hq=>by simp only[SS]at ho;cases ho;exact hq a w h
 | o::os,x::xs,K,Γ,uA,a,w,hc,ho,h,hq=>by
   simp only[Iy,af]at hc;simp only[SS,qx]at ho;obtain⟨BC,ho1,ho2⟩:=ho;rw[SN]at ho1;obtain⟨⟨⟨I,ρ,st,hT,hg⟩,BD⟩,hpa⟩:=h;have h1:=QZ (Q:=Q) (ops:=ops) hg hm BD hpa hpl hc.1 ho1 (show T P x st λ_ _ st'=>wpOps P xs st' K from hT);unfold zq at h1;unfold wpList;have key:∀a w,AO E g0 pa dp n (λst=>∃rd wr:List Nat,wpOps P xs st K) BC a w->wpList P ops Q os a w:=λa w hk=>Jv hm hpl hc.2 ho2 (hk.imp (λst ⟨_,_,h⟩=>h) λf hf=>hf) hq;split
   ·rename_i hw;rw[aF hw]at h1;exact h1.imp (uM key) id
   ·rename_i hw;rw[aj hw]at h1;exact key _ _ h1
 |[],_::_,_,_,_,_,_,hc,_,_,_=>by cases hc
 |_::_,[],_,_,_,_,_,hc,_,_,_=>by cases hc
theorem YL {m k:Nat}{L l:List rQ}{D:List Nat}{S:List DS}{G:List OF}{x:rQ}{o:Oper}(hD:QC P pl ops L D (m+1) S=some G)(hS:(k,l.map (·.i),Γ)∈S)(hx:x∈l)(hr:∀z,z∈l->¬z.i∈x.zO)(hL:LU L x.i=some x)(ho:ops[x.i]? = some o) :
 ∃BC S' k' Ug,Fg P pl false Γ o x.o=some BC/\(k',(l.filter λz=>z.i != x.i).map (·.i),Ug)∈S'/\(∀f,f∈Ug->f∈Lh D BC)/\QC P pl ops L D m S'=some G:=by
 simp only[QC,qx]at hD;obtain⟨Ss,h1,h2⟩:=hD;rw[yO (λ_ _=>X9)]at h2;obtain⟨T,h3,h4⟩:=xR h1 _ hS;unfold adW at h3;obtain⟨t,h5,h6⟩:=xR h3 x.i (aC.2 ⟨aG.2 ⟨x,hx,rfl⟩,by rw[hL];simp only[aB,aG];rintro j ⟨z,hz,rfl⟩;have:=hr z hz;simpa using this⟩)
 rw[hL,ho]at h5;simp only[aU]at h5;obtain⟨BC,h7,rfl⟩:=h5;rw[SN]at h7;obtain⟨⟨k',r',Ug⟩,h8,h9,h10⟩:=Oy (List.mem_flatten.2 ⟨T,h4,h6⟩);simp only at h9;subst h9;refine⟨BC,_,k',Ug,h7,?_,h10,h2⟩;rw[List.filter_map]at h8;exact h8
theorem U1 {pre post:List rQ}{x:rQ}(h:(pre++x::post).Pairwise λx y=>x.i<y.i):((pre++x::post).filter λz=>z.i != x.i)=pre++post:=by
 rw[vJ]at h;obtain⟨_,h2,h3⟩:=h;rw[kC]at h2;rw[pV,List.filter_cons_of_neg kY]
 congr 1
 ·rw[vY];intro z hz;have:=h3 z hz x (aJ ..);simp;omega
 ·rw[vY];intro z hz;have:=h2.1 z hz;simp;omega
theorem Ur (hm:E.m<=10)(hpl:∀e,e∈pa->e.1∈pl){L:List (iR×List Nat)}(hc:Gy P n E.m ops L=true){K:eH->Prop}{Γe:List OF}{J5 D:List Nat}(hDd:∀x o d,x∈items L 0->CV P pl ops J5 x=true->ops[x.i]? = some o->o.dst=some d->d∈D)(hq:∀a w,AO E g0 pa dp n K Γe a w->Q .normal a w) :
 ∀ (fuel:Nat) (l:List rQ) (listed:Array Bool) (log:Log) (Γ G:List OF) (a:Act) (w:World),(∃S k,(k,(l.filter λx=> !CV P pl ops J5 x).map (·.i),Γ)∈S/\QC P pl ops (items L 0) D (l.filter λx=> !CV P pl ops J5 x).length S=some G)->(∀f,f ∈ Γ -> ∀d,d∈D->Ar d f=true)->(∀f,f ∈ Γe->f∈G)->l.length<=fuel->l.Sublist (items L 0)->listed.size=ops.size ->
   (∀x,x∈items L 0->(listed.getD x.i true=false<->x∈l)) ->
   (∀x,x∈items L 0->listed.getD x.i false=true->∀j,j∈x.zO->listed.getD j false=true) ->
   AO E g0 pa dp n (λst=>Xv P l log st K) Γ a w->wpAny P .any ops Q fuel listed a w:=by
 simp only[Gy,af,aK,aB]at hc;obtain⟨⟨hlen,hit⟩,hap⟩:=hc;obtain⟨i1,i2,i3⟩:=Ed (l:=L) (i:=0);have hpw:(items L 0).Pairwise λx y=>x.i<y.i/\(x.i∈y.zO\/CB x.o y.o=true):=i2.and (DV hap);have Ol:∀x y,x∈items L 0->y∈items L 0->x.i=y.i->x=y:=by
  intro x y hx hy e;obtain⟨p,hp,rfl⟩:=lX hx;obtain⟨q,hq',rfl⟩:=lX hy;have aar:=pq.1 i2;rcases tH p q with h|h|h
  ·have:=aar p q hp hq' h;omega
  ·subst h;rfl
  ·have:=aar q p hq' hp h;omega
 have U8:∀(l:List rQ) (listed:Array Bool),l.Sublist (items L 0)->listed.size=ops.size->(∀x,x∈items L 0->(listed.getD x.i true=false<->x∈l))->mG .any ops listed=[]->l=[]:=by
  intro l listed hsub hsz hl hr;cases l with
  |nil=>rfl
  | cons x r=>
    exfalso;have hx:=hsub.subset (aJ ..);have hc:=hit x hx;unfold Gw at hc;cases ho:ops[x.i]? with
    |none=>rw[ho]at hc;cases hc
    | some o=>
      rw[ho]at hc;simp only[af,KQ,aB,eX,gG,ak]at hc;have:x.i∈mG .any ops listed:=by
       rw[mem_ready];refine⟨(hl x hx).2 (aJ ..),o,ho,λe he hb=>?_⟩;have hlt:=(hc.2.2 e (by simpa using he)).resolve_left (by rw[hb];simp);have hxi:=i1 x hx;obtain⟨y,hy,hye⟩:=i3 e.on aQ;have hye:y.i=e.on:=(by omega);by_cases hyl:y∈x::r
       ·exfalso;rcases au.1 hyl with rfl|hyr
        ·omega
        ·have:=(kC.1 (i2.sublist hsub)).1 y hyr;omega
       ·have h1:¬listed.getD y.i true=false:=λh=>hyl ((hl y hy).1 h);have hin:y.i<listed.size:=(by rw[hsz,<- hlen];have:=i1 y hy;omega);rw[<- hye];simp only[dm,iE hin,jV]at h1⊢;simpa using h1
      rw[hr]at this;cases this
 intro fuel
 induction fuel with
 | zero=>
   intro l listed log Γ G a w hD hcl hG hf hsub hsz hl _ h;have:l=[]:=qp.1 aQ;subst this;obtain⟨S,k,hS,hD⟩:=hD;simp only[List.filter_nil,lF,QC]at hD;cases hD;refine⟨?_,hq a w (h.imp (λ_ h=>h) λf hf=>IY (hG f hf) (aG.2 ⟨_,hS,rfl⟩))⟩;cases hr:mG .any ops listed with
   |nil=>rfl
   | cons i r=>exfalso;have hi:i∈mG .any ops listed:=(by rw[hr];exact aJ ..);obtain⟨hu,o,ho,_⟩:=mem_ready.1 hi;have hlt:=(bY.1 ho).1;obtain⟨y,hy,hye⟩:=i3 i aQ;have hye:y.i=i:=(by omega);have:=(hl y hy).1 (by rw[hye];exact hu);cases this
 | succ fuel ih=>
   intro l listed log Γ G a w hD hcl hG hf hsub hsz hl hdown h;refine⟨λhr=>?_,λi hi=>?_⟩
   ·have:=U8 l listed hsub hsz hl hr;subst this;obtain⟨S,k,hS,hD⟩:=hD;simp only[List.filter_nil,lF,QC]at hD;cases hD;exact hq a w (h.imp (λ_ h=>h) λf hf=>IY (hG f hf) (aG.2 ⟨_,hS,rfl⟩))
   ·obtain⟨hu,o,ho,hall⟩:=mem_ready.1 hi;have hlt:=(bY.1 ho).1;obtain⟨x,hx,hxe⟩:=i3 i aQ;have hxe:x.i=i:=(by omega);subst hxe;have hxl:=(hl x hx).1 hu;have hcx:=hit x hx;unfold Gw at hcx;rw[ho]at hcx;simp only[af]at hcx;obtain⟨hco,hca⟩:=hcx;have haft:∀j,j∈x.zO->listed.getD j false=true:=by
     intro j hj;simp only[KQ,af,aB,oJ,eX,aK]at hca;obtain⟨e,he,hb,hej⟩:=hca.1 j hj;have hel:=hall e (by simpa using he) hb;rcases hej with rfl|⟨y,hy,hye,hyj⟩
     ·exact hel
     ·rw[<- hye]at hel;exact hdown y hy hel j (by simpa using hyj)
    have agc:LU (items L 0) x.i=some x:=by
     unfold LU;cases hfind:(items L 0).find? (λz=>z.i==x.i)with
     |none=>exact dO kY (List.find?_eq_none.1 hfind x hx)
     | some z=>have h1:=List.find?_some hfind;have h2:=List.mem_of_find?_eq_some hfind;rw[Ol z x h2 hx (by simpa using h1)]
    have ahM:∀z,z∈l->¬z.i∈x.zO:=λz hz hm=>by have h2:=haft _ hm;rw[Qd ((hl z (hsub.subset hz)).2 hz)]at h2;cases h2
    obtain⟨pre,post,rfl⟩:=List.append_of_mem hxl;have ahI:((pre++x::post).filter λz=>z.i != x.i)=pre++post:=U1 (i2.sublist hsub);obtain⟨lz,BC,S1,k1,Ug,hO1,hO2,hO4,hO5,hO3⟩:∃lz BC S1 k1 Ug,Fg P pl lz Γ o x.o=some BC/\(k1,((pre++post).filter λx=> !CV P pl ops J5 x).map (·.i),Ug)∈S1/\(∀f,f∈Ug->f∈BC)/\(∀f,f∈Ug->∀d,d∈D->Ar d f=true)/\QC P pl ops (items L 0) D ((pre++post).filter λx=> !CV P pl ops J5 x).length S1=some G:=by
     obtain⟨S,k,hS,hD⟩:=hD;cases hz:CV P pl ops J5 x with
     | true=>
       have e:((pre++x::post).filter λx=> !CV P pl ops J5 x)=((pre++post).filter λx=> !CV P pl ops J5 x):=(by rw[pV,List.filter_cons_of_neg (by simp[hz]),<- pV]);rw[e]at hS hD;have hz':=hz;simp only[CV,af]at hz';refine⟨true,_,S,k,Γ,ac4 hz'.2 ho Γ,hS,λf hf=>?_,hcl,hD⟩;unfold zC;rw[aC];refine⟨hf,?_⟩;cases hd:o.dst with
       |none=>rfl
       |some d=>exact hcl f hf d (hDd x o d hx hz ho hd)
     | false=>
       have e:((pre++x::post).filter λx=> !CV P pl ops J5 x)=(pre.filter λx=> !CV P pl ops J5 x)++x::(post.filter λx=> !CV P pl ops J5 x):=(by rw[pV,List.filter_cons_of_pos (by simp[hz])]);have e2:((pre++x::post).filter λx=> !CV P pl ops J5 x).length=((pre++post).filter λx=> !CV P pl ops J5 x).length+1:=(by rw[e,pV];simp;omega);rw[e2]at hD;obtain⟨BC,S',k',Ug,h1,h2,h3,h4⟩:=YL hD hS (aC.2 ⟨hxl,by simp[hz]⟩) (λz hz=>ahM z (aC.1 hz).1) agc ho;refine⟨false,BC,S',k',Ug,h1,?_,λf hf=>(aC.1 (h3 f hf)).1,λf hf d hd=>aB.1 (aC.1 (h3 f hf)).2 d hd,h4⟩;have e3:(((pre++x::post).filter λx=> !CV P pl ops J5 x).filter λz=>z.i != x.i)=(pre++post).filter λx=> !CV P pl ops J5 x:=by
        rw[<- ahI,List.filter_filter,List.filter_filter]
        congr 1
        funext z
        exact Bool.and_comm _ _
       rw[e3]at h2;exact h2
    have Qg:=hpw.sublist hsub;rw[vJ]at Qg;have hpre:∀p,p∈pre->p.i ∉ x.zO/\CB p.o x.o=true:=by
     intro p hp;have h1:=Qg.2.2 p hp x (aJ ..);have hn:p.i ∉ x.zO:=by intro hm';have h2:=haft _ hm';have h3:=(hl p (hsub.subset (bF _ hp))).2 (bF _ hp);rw[Qd h3]at h2;cases h2
     exact⟨hn,h1.2.resolve_left hn⟩
    obtain⟨⟨⟨I,ρ,st,hT,hg⟩,BD⟩,hpa⟩:=h;have hT:=Jg hpre hT;have h1:=QZ (Q:=Q) (ops:=ops) hg hm BD hpa hpl hco hO1 (show T P x.o st λrd wr st'=>x8 x.zO rd wr log=true/\Xv P (pre++post) ((x.i,rd,wr)::log) st' K from hT);have key:∀a w,AO E g0 pa dp n (λst=>∃rd wr,x8 x.zO rd wr log=true/\Xv P (pre++post) ((x.i,rd,wr)::log) st K) BC a w->wpAny P .any ops Q fuel (listed.setIfInBounds x.i true) a w:=by
     rintro a w ⟨⟨⟨I,ρ,st,⟨rd,wr,_,hk⟩,hg⟩,BD⟩,hpa⟩;have BD:=BD.weak hO4;have hnx:x ∉ pre++post:=by
      intro hxm;rcases bg.1 hxm with h|h
      ·have:=(Qg.2.2 x h x (aJ ..)).1;omega
      ·have:=((kC.1 Qg.2.1).1 x h).1;omega
     refine ih (pre++post) _ ((x.i,rd,wr)::log) Ug G a w ⟨S1,k1,hO2,hO3⟩ hO5 hG (by simp at hf⊢;omega) ?_ (by simp[hsz]) ?_ ?_ ⟨⟨⟨I,ρ,st,hk,hg⟩,BD⟩,hpa⟩
     ·exact(List.Sublist.append_left (List.sublist_cons_self x post) pre).trans hsub
     ·intro y hy;by_cases hyx:y=x
      ·subst hyx;constructor
       ·intro h;have hin:y.i<listed.size:=(by rw[hsz];exact hlt);simp[hin]at h
       ·intro h;exact dO h hnx
      ·have hne:x.i≠y.i:=λe=>hyx (Ol y x hy hx e.symm);rw[getD_set_ne true hne,hl y hy];simp only[bg,au,hyx,false_or]
     ·intro y hy hyl j hj;by_cases hyx:y=x
      ·subst hyx;exact getD_set_true (haft j hj)
      ·have hne:x.i≠y.i:=λe=>hyx (Ol y x hy hx e.symm);rw[getD_set_ne false hne]at hyl;exact getD_set_true (hdown y hy hyl j hj)
    unfold wpOp;rw[ho];unfold zq at h1;simp only;split
    ·rename_i hw;rw[aF hw]at h1;exact h1.imp (uM key) id
    ·rename_i hw;rw[aj hw]at h1;exact key _ _ h1
theorem Tv (hm:E.m<=10)(hpl:∀e,e∈pa->e.1∈pl)(hf:P.follows .mixedOrders=true){L:List (iR×List Nat)}(hc:Gy P n E.m ops L=true){K:eH->Prop}{Γ Γe:List OF}{keep:List Nat}(hD:afe P pl keep ops (items L 0) Γ = some Γe)(hq:∀a w,AO E g0 pa dp n K Γe a w->Q .normal a w)
 {id:Nat} {a:Act} {w:World} (h:AO E g0 pa dp n (λst=>wpD P L 0 [] st K) Γ a w):(vg id ops true).wp P Q a w:=by
 refine wp_region_any hf ?_;have hlen:L.length=ops.size:=by simp only[Gy,af,aK]at hc;exact hc.1.1
 have i0:=Ed (l:=L) (i:=0);have hil:(items L 0).length=L.length:=by
  clear i0 hlen h hc hD;generalize 0=i
  induction L generalizing i with
  |nil=>rfl
  |cons x r ih=>obtain⟨o,zO⟩:=x;simp[items,ih]
 unfold afe at hD;rw[yO (λ_ _=>zZ)]at hD;generalize ac3 P pl ops (aer P pl ops (items L 0) Γ).reverse (keep++pl)=J5 at hD;unfold agU at hD;simp only[yO (fc:=rf) (λ_ _=>zZ),jM]at hD;generalize hDD:((items L 0).filter (CV P pl ops J5)).filterMap (λx=>(ops[x.i]?).bind (·.dst))=D at hD;refine Ur hm hpl hc (J5:=J5) (D:=D) ?_ hq ops.size (items L 0) (o5 ops.size false) [] (Lh D Γ) Γe a _ ⟨_,_,aJ ..,hD⟩ (λf hf d hd=>aB.1 (aC.1 hf).2 d hd) (λ_ h=>h) aQ (List.Sublist.refl _) kY ?_ ?_ ?_
 ·intro x o d hx hz ho hd;rw[<- hDD,bK];exact⟨x,aC.2 ⟨hx,hz⟩,by rw[ho];exact hd⟩
 ·intro x hx;have:=i0.1 x hx;have hlt:x.i<ops.size:=by omega
  simp[hlt,hx]
 ·intro x hx h;exfalso;have:=i0.1 x hx;have hlt:x.i<ops.size:=by omega
  simp[hlt]at h
 ·obtain⟨⟨⟨I,ρ,st,hT,hg⟩,g,hg1,hg2⟩,hpa⟩:=h;have hg3:=hg2.weak (uA:=Lh D Γ) λf hf=>(aC.1 hf).1;refine⟨⟨?_,g,hg1,hg3.world (aA _) λ_ _=>rfl⟩,hpa⟩;exact⟨I,ρ,st,Eq.mp (VT (P:=P) (l:=L) (i:=0) (log:=[]) (st:=st) (K:=K)) hT,hg.drew⟩
end
end
section
def F8 (zs:List Nat)(bx:Nat->Box)(π:Nat->Option Nat)(vs:List Nat):AC->AC->Prop
 |_,.Ee=>True
 |.c x,.c y=>x=y
 |.wC sz,.c y=>y = .sl sz []
 | .own b n sz,.c y=>b∈zs/\match(bx b).arr with
   |some (sz',es)=>sz'=sz/\n<=es.length/\y = .sl sz (es.take n)
   |none=>False
 |.wC sz,.wC sz'=>sz=sz'
 |.wC sz,.own b n sz'=>b∈vs/\n=0/\sz=sz'
 |.own b n sz,.own b' n' sz'=>π b'=some b/\n=n'/\sz=sz'
 |.sub b lo n _ sz,.own b' n' sz'=>π b'=some b/\lo=0/\n=n'/\sz=sz'
 |.sub b lo n c sz,.sub b' lo' n' c' sz'=>π b'=some b/\lo=lo'/\n=n'/\c=c'/\sz=sz'
 |.ptr b o,.ptr b' o'=>π b'=some b/\o=o'
 |.ug b i sz o,.ug b' i' sz' o'=>π b'=some b/\i=i'/\sz=sz'/\o=o'
 |.zQ cs,.zQ cs'=>cs=cs'
 |.fn f caps,.fn f' Wh=>f=f'/\Wh.map π=caps.map some
 |.opt T b,.opt T' b'=>T=T'/\π b'=some b
 |.FH b n,.FH b' n'=>π b'=some b/\n=n'
 |.err g,.err g'=>g=g'
 |_,_=>False
def F9 (zs:List Nat)(bx:Nat->Box)(π:Nat->Option Nat)(vs:List Nat):List AC->List AC->Prop
 |[],[]=>True
 |x::xs,y::ys=>F8 zs bx π vs x y/\F9 zs bx π vs xs ys
 |_,_=>False
def NT (zs:List Nat)(bx:Nat->Box)(π:Nat->Option Nat)(vs:List Nat):List (Bool×List AC)->List (Bool×List AC)->Prop
 |[],[]=>True
 |(g,x)::xs,(g',y)::ys=>g=g'/\F9 zs bx π vs x y/\NT zs bx π vs xs ys
 |_,_=>False
def Xu (zs:List Nat)(bx:Nat->Box)(π:Nat->Option Nat)(vs:List Nat):AV->AV->Prop
 |.one x,.one y=>F8 zs bx π vs x y
 |.agg xs,.agg ys=>F9 zs bx π vs xs ys
 |.Bl xs,.Bl ys=>NT zs bx π vs xs ys
 |_,_=>False
def Zo (zs:List Nat)(bx:Nat->Box)(π:Nat->Option Nat)(vs:List Nat)(b:Nat):Box->Prop
 |.absent=>π b=none/\b ∉ vs
 |.dead=>True
 | .var ys=>match π b with
   | some c=>match bx c with
     |.var xs=>F9 zs bx π vs xs ys
     |_=>False
   |none=>False
 | .dat sz es=>match π b with
   |some c=>c ∉ zs/\(bx c = .dat sz es\/∃t,bx c = .dat sz (es++t))
   |none=>b∈vs/\es=[]
 | .AU sz es=>match π b with
   |some c=>bx c = .AU sz es\/(c∈zs/\bx c = .dat sz es)
   |none=>False
 | .row e l=>match π b with
   |some c=>bx c = .row e l
   |none=>False
def Box.IM : Box->Bool
 |.dead=>true
 |_=>false
structure WkS (m:Nat)(bx bx':Nat->Box)(zs:List Nat)(π:Nat->Option Nat)(vs:List Nat):Prop where
 box:∀b,Zo zs bx π vs b (bx' b)
 inj:∀b b' c,(bx' b).IM=false->(bx' b').IM=false->π b=some c->π b'=some c->b=b'
 vir:∀b,b∈vs->π b=none
 fix:∀b,b<m->π b=some b\/(π b=none/\b ∉ vs/\bx b = .absent)
def NU (zs:List Nat)(bx:Nat->Box)(π:Nat->Option Nat)(vs:List Nat):Slot->Slot->Prop
 |_,.none=>True
 |.v g x,.v g' y=>g=g'/\(g=true->Xu zs bx π vs x y)
 |_,_=>False
def ER (m:Nat)(st S:eH):Prop:=∃zs π vs,WkS m st.bx S.bx zs π vs/\∀t,NU zs st.bx π vs (st.tm t) (S.tm t)
section
variable {P:Program} {E:Env P} {I:IH} {ρ:Ren} {n:Nat} {st:eH} {a:Act} {w:World}
def xy (ρ:Ren)(π:Nat->Option Nat)(vs:List Nat):Ren:=λb=>match π b with
 |some c=>ρ c
 |none=>if b∈vs then some (0,0)else none
theorem abU (h:GX E I ρ n st a w){zs vs:List Nat}{π:Nat->Option Nat}(hvs:∀b,b∈vs->π b=none){v:Value}{x y:AC}(hx:GC I ρ v x)(hy:F8 zs st.bx π vs x y):GC (wH I ρ w st.bx zs) (xy ρ π vs) v y:=by
 have hle:=zU h.bx zs;cases y with
 |Ee=>exact hx.one
 | c y=>
   cases x with
   |c x=>simp only[F8]at hy;subst hy;exact Rd.mono hle hx
   | wC sz=>simp only[F8]at hy;subst hy;simp only[GC]at hx;subst hx;exact Rd.sl none 0 0 _ [] (λ_ _=>undef) rfl (aA _) (by simp[maxLen]) kY kY (by intro ad h;cases h) kY
   | own b m sz=>
     simp only[F8]at hy;obtain⟨hb,hy⟩:=hy;split at hy
     ·rename_i sz' es harr;obtain⟨rfl,hm,rfl⟩:=hy;exact Qj h hb harr hm hx
     ·exact hy.elim
   |_=>simp[F8]at hy
 | wC sz=>cases x<;>simp only[F8]at hy;subst hy;exact hx
 | own b' m' sz'=>
   cases x with
   | wC sz=>simp only[F8]at hy;obtain⟨hb,rfl,rfl⟩:=hy;simp only[GC]at hx;subst hx;exact⟨0,0,none,0,by simp[xy,hvs b' hb,hb],rfl,aA _,aA _,λh=>dO rfl h⟩
   | own b m sz=>simp only[F8]at hy;obtain⟨hb,rfl,rfl⟩:=hy;obtain⟨k,cap,ad,c,hr,hrest⟩:=hx;exact⟨k,cap,ad,c,by simp only[xy,hb];exact hr,hrest⟩
   | sub b lo m c0 sz=>simp only[F8]at hy;obtain⟨hb,rfl,rfl,rfl⟩:=hy;obtain⟨k,cap,ad,c,hr,hv,hm,hcc,_,ha⟩:=hx;refine⟨k,cap,ad,c,by simp only[xy,hb];exact hr,hv,hm,aQ,λhc0=>?_⟩;have:=ha (.inr ⟨rfl,hc0⟩);rw[Nat.zero_mul]at this;exact this
   |_=>simp[F8]at hy
 | sub b' lo' m' c' sz'=>
   cases x with
   | sub b lo m c sz=>simp only[F8]at hy;obtain⟨hb,rfl,rfl,rfl,rfl⟩:=hy;obtain⟨k,cap,ad,c1,hr,hrest⟩:=hx;exact⟨k,cap,ad,c1,by simp only[xy,hb];exact hr,hrest⟩
   |_=>simp[F8]at hy
 | ptr b' o'=>
   cases x with
   | ptr b o=>simp only[F8]at hy;obtain⟨hb,rfl⟩:=hy;obtain⟨k,cap,hr,hrest⟩:=hx;exact⟨k,cap,by simp only[xy,hb];exact hr,hrest⟩
   |_=>simp[F8]at hy
 | ug b' i' sz' o'=>
   cases x with
   | ug b i sz o=>simp only[F8]at hy;obtain⟨hb,rfl,rfl,rfl⟩:=hy;obtain⟨k,cap,hr,hrest⟩:=hx;exact⟨k,cap,by simp only[xy,hb];exact hr,hrest⟩
   |_=>simp[F8]at hy
 | opt T' b'=>
   cases x with
   | opt T b=>simp only[F8]at hy;obtain⟨rfl,hb⟩:=hy;obtain⟨k,hr,hrest⟩:=hx;exact⟨k,by simp only[xy,hb];exact hr,hrest⟩
   |_=>simp[F8]at hy
 | FH b' n'=>
   cases x with
   | FH b n=>simp only[F8]at hy;obtain⟨hb,rfl⟩:=hy;obtain⟨k,cap,hr,hrest⟩:=hx;exact⟨k,cap,by simp only[xy,hb];exact hr,hrest⟩
   |_=>simp[F8]at hy
 | err g'=>
   cases x with
   |err g=>simp only[F8]at hy;subst hy;exact hx
   |_=>simp[F8]at hy
 | zQ cs'=>
   cases x with
   | zQ cs=>simp only[F8]at hy;subst hy;obtain⟨p,hv,hc⟩:=hx;exact⟨p,hv,λj c hj=>let ⟨u,h1,h2⟩:=hc j c hj;⟨u,IH.J6 hle h1,h2.mono hle⟩⟩
   |_=>simp[F8]at hy
 | fn f' Wh=>
   cases x with
   | fn f caps=>simp only[F8]at hy;obtain⟨rfl,hcs⟩:=hy;obtain⟨ks,hk1,hk2,hk3⟩:=hx;have hlen:Wh.length=caps.length:=(by have:=oW List.length hcs;simpa using this);refine⟨ks,by rw[hlen];exact hk1,λj b k hb hk=>?_,hk3⟩;have hj:j<caps.length:=(by have:=(ay.1 hb).1;omega);have h1:(Wh.map π)[j]? = (caps.map some)[j]?:=(by rw[hcs]);rw[aP,aP,hb,ai hj]at h1;simp only[iZ,aI]at h1;obtain⟨cap,hr⟩:=hk2 j _ k (ai hj) hk;exact⟨cap,by simp only[xy,h1];exact hr⟩
   |_=>simp[F8]at hy
theorem QT (h:GX E I ρ n st a w){zs vs:List Nat}{π:Nat->Option Nat}(hvs:∀b,b∈vs->π b=none):∀{us:List Value} {xs ys:List AC},EE I ρ us xs->F9 zs st.bx π vs xs ys->EE (wH I ρ w st.bx zs) (xy ρ π vs) us ys
 |us,[],[],hx,_=>⟨hx.1,λj v x hv hx=>by simp at hx⟩
 | u::us,x::xs,y::ys,hx,hy=>by
   have ih:=QT h hvs (us:=us) (xs:=xs) (ys:=ys) ⟨by simpa using hx.1,λj v z hv hz=>hx.2 (j+1) v z (by simpa using hv) (by simpa using hz)⟩ hy.2;refine⟨by simp[ih.1],λj v z hv hz=>?_⟩;cases j with
   | zero=>simp at hv hz;subst hv;subst hz;exact abU h hvs (hx.2 0 _ _ rfl rfl) hy.1
   |succ j=>exact ih.2 j v z (by simpa using hv) (by simpa using hz)
 |[],_::_,_,hx,_=>by have:=hx.1;simp at this
 |_,[],_::_,_,hy=>by simp[F9]at hy
 |_,_::_,[],_,hy=>by simp[F9]at hy
theorem TR {zs vs:List Nat}{bx:Nat->Box}{π:Nat->Option Nat} : ∀{xs ys:List (Bool×List AC)},NT zs bx π vs xs ys->xs.length=ys.length/\∀(j:Nat) (y:Bool×List AC),ys[j]? = some y->∃x:Bool×List AC,xs[j]? = some x/\x.1=y.1/\F9 zs bx π vs x.2 y.2
 |[],[],_=>⟨rfl,λj y hy=>by simp at hy⟩
 | (g,x)::xs,(g',y)::ys,h=>by
   obtain⟨h1,h2,h3⟩:=h;obtain⟨i1,i2⟩:=TR h3;refine⟨by simp[i1],λj z hz=>?_⟩;cases j with
   |zero=>simp at hz;subst hz;exact⟨(g,x),rfl,h1,h2⟩
   | succ j=>obtain⟨q,hq,hr⟩:=i2 j z (by simpa using hz);exact⟨q,by simpa using hq,hr⟩
 |[],_::_,h=>by simp[NT]at h
 |_::_,[],h=>by simp[NT]at h
theorem ad8 (h:GX E I ρ n st a w){zs vs:List Nat}{π:Nat->Option Nat}(hvs:∀b,b∈vs->π b=none){v:Value}{x y:AV}(hx:GV I ρ v x)(hy:Xu zs st.bx π vs x y):GV (wH I ρ w st.bx zs) (xy ρ π vs) v y:=by
 cases x with
 | one x=>cases y with
   |one y=>exact abU h hvs hx hy
   |_=>exact hy.elim
 | agg xs=>cases y with
   |agg ys=>obtain⟨cs,rfl,hg⟩:=hx;exact⟨cs,rfl,QT h hvs hg hy⟩
   |_=>exact hy.elim
 | Bl ps=>cases y with
   | Bl qs=>
     obtain⟨us,rfl,hl,hp⟩:=hx;obtain⟨i1,i2⟩:=TR (show NT zs st.bx π vs ps qs from hy);refine⟨us,rfl,by rw[hl,i1],λj v q hv hq=>?_⟩;obtain⟨p,hpj,e,hw⟩:=i2 j q hq;have h1:=hp j v p hv hpj;unfold GP at h1⊢;rw[e]at h1;split at h1
     ·rename_i hb;rw[aF hb];obtain⟨cs,rfl,hg⟩:=h1;exact⟨cs,rfl,QT h hvs hg hw⟩
     ·rename_i hb;rw[aj hb];obtain⟨x,hx,hg⟩:=h1;rw[hx]at hw;cases hq2:q.2 with
      |nil=>rw[hq2]at hw;exact hw.elim
      | cons y t=>
        rw[hq2]at hw;cases t with
        |nil=>exact⟨y,rfl,abU h hvs hg hw.1⟩
        |cons z t=>exact hw.2.elim
   |_=>exact hy.elim
theorem O8 (h:GX E I ρ n st a w){m:Nat}(hm:E.m<=m){bx':Nat->Box}{zs vs:List Nat}{π:Nat->Option Nat}(hw:WkS m st.bx bx' zs π vs) :
 GX E (wH I ρ w st.bx zs) (xy ρ π vs) n ⟨λ_=>.none,bx'⟩ a w:=by
 have hF:=h.freeze zs;generalize hJ:wH I ρ w st.bx zs=J at *;have hnd:∀b k,(bx' b).uses (xy ρ π vs b) k->(bx' b).IM=false:=λb k hu=>by
  cases hx:bx' b with
  |dead=>rw[hx]at hu;exact hu.elim
  |_=>rfl
 have Ai:∀b k,(bx' b).uses (xy ρ π vs b) k->∃c,π b=some c/\((st.AU zs).bx c).uses (ρ c) k:=by
  intro b k hu;have hb:=hw.box b;cases hx:bx' b with
  | var ys=>
    rw[hx]at hu hb;simp only[Zo]at hb;split at hb
    ·rename_i c hc;refine⟨c,hc,?_⟩;split at hb
     ·rename_i xs hxs;rw[uI,hxs];simp only[xy,hc]at hu;split<;>exact hu
     ·exact hb.elim
    ·exact hb.elim
  | dat sz es=>
    rw[hx]at hu hb;simp only[Zo]at hb;split at hb
    ·rename_i c hc;refine⟨c,hc,?_⟩;simp only[xy,hc]at hu;rcases hb.2 with hb2|⟨t,hb2⟩
     ·rw[uI,aj hb.1,hb2];exact hu
     ·rw[uI,aj hb.1,hb2];exact hu
    ·rename_i hc;obtain⟨cap,hu1,hu2⟩:=hu;simp only[xy,hc,hb.1,iT,aI,cZ]at hu1;exact dO hu1.2.symm hu2
  | row e l=>
    rw[hx]at hu hb;simp only[Zo]at hb;split at hb
    ·rename_i c hc;refine⟨c,hc,?_⟩;simp only[xy,hc]at hu;rw[uI,hb];split<;>exact hu
    ·exact hb.elim
  |absent=>rw[hx]at hu;exact hu.elim
  |dead=>rw[hx]at hu;exact hu.elim
  |AU sz es=>rw[hx]at hu;exact hu.elim
 refine{ agree:=hF.agree,bx:=⟨λb=>?_,λb b' k hb hb'=>?_,λb k hb=>?_⟩,tm:=λt ht=>trivial,size:=h.size,defers:=h.defers,ve:=h.ve,own:=λb k hu=>?_,Ec:=hF.Ec,Aj:=hF.Aj,ru:=λb hb=>?_ }
 ·have hb:=hw.box b;show vG J (xy ρ π vs) w b (bx' b);cases hx:bx' b with
  | absent=>rw[hx]at hb;show xy ρ π vs b=none;simp only[xy,hb.1,hb.2,if_false]
  |dead=>trivial
  | var ys=>
    rw[hx]at hb;simp only[Zo]at hb;split at hb
    ·rename_i c hc;split at hb
     ·rename_i xs hxs;have hok:=h.bx.ok c;rw[hxs]at hok;obtain⟨k,cap,cs,hr,hwk,hsz,hcs⟩:=hok;have hg:EE J (xy ρ π vs) cs.toList ys:=by
       subst hJ;exact QT h hw.vir ⟨by simpa using hsz,λj u x hu hx=>hcs j u x (by simpa using hu) hx⟩ hb
      refine⟨k,cap,cs,by simp only[xy,hc];exact hr,hwk,by simpa using hg.1,λj u x hu hx=>hg.2 j u x (by simpa using hu) hx⟩
     ·exact hb.elim
    ·exact hb.elim
  | dat sz es=>
    rw[hx]at hb;simp only[Zo]at hb;split at hb
    ·rename_i c hc;have hok:=hF.bx.ok c;rcases hb.2 with hb2|⟨t,hb2⟩
     ·rw[uI,aj hb.1,hb2]at hok;obtain⟨k,cap,hr,hrest⟩:=hok;exact⟨k,cap,by simp only[xy,hc];exact hr,hrest⟩
     ·rw[uI,aj hb.1,hb2]at hok;obtain⟨k,cap,hr,h1,h2,h3,h4⟩:=hok;refine⟨k,cap,by simp only[xy,hc];exact hr,by simp at h1;omega,h2,λe he=>h3 e (bF _ he),λh0=>?_⟩;obtain⟨cs,e,g1,g2,g3,g4⟩:=h4 h0;refine⟨cs,e,g1,g2,g3,λi j c' hc'=>g4 i j c' ?_⟩;have hi:=jd hc';rw[<- hc']
      congr 1
      simp only[List.getD];rw[aX hi]
    ·rename_i hc;obtain⟨hv,rfl⟩:=hb;exact⟨0,0,by simp only[xy,hc,hv,iT],kY,by simp[maxLen],kY,λh=>dO rfl h⟩
  | row e l=>
    rw[hx]at hb;simp only[Zo]at hb;split at hb
    ·rename_i c hc;have hok:=hF.bx.ok c;rw[uI,hb]at hok;have e1:(if c∈zs then Bq (.row e l)else .row e l)=Box.row e l:=(by split<;>rfl);rw[e1]at hok;obtain⟨k,cap,hr,hrest⟩:=hok;exact⟨k,cap,by simp only[xy,hc];exact hr,hrest⟩
    ·exact hb.elim
  | AU sz es=>
    rw[hx]at hb;simp only[Zo]at hb;split at hb
    ·rename_i c hc;have hok:=hF.bx.ok c;have e:(st.AU zs).bx c = .AU sz es:=by
      rw[uI];rcases hb with hb|⟨hz,hb⟩
      ·rw[hb];split<;>rfl
      ·rw[hb,aF hz];rfl
     rw[e]at hok;obtain⟨k,cap,hr,hrest⟩:=hok;exact⟨k,cap,by simp only[xy,hc];exact hr,hrest⟩
    ·exact hb.elim
 ·obtain⟨c,hc,hu⟩:=Ai b k hb;obtain⟨c',hc',hu'⟩:=Ai b' k hb';have:=hF.bx.inj c c' k hu hu';subst this;exact hw.inj b b' c (hnd b k hb) (hnd b' k hb') hc hc'
 ·obtain⟨c,hc,hu⟩:=Ai b k hb;exact hF.bx.fresh c k hu
 ·obtain⟨c,hc,hu'⟩:=Ai b k hu;exact hF.own c k hu'
 ·rcases hw.fix b aQ with hf|⟨hf,hv,hab⟩
  ·simp only[xy,hf];exact h.ru b hb
  ·have:=h.bx.ok b;rw[hab]at this;rw[<- h.ru b hb];simp only[xy,hf,hv,if_false];exact this.symm
theorem F6 (h:GX E I ρ n st a w){m:Nat}(hm:E.m<=m){S:eH}(hw:ER m st S):∃J σ,GX E J σ n S a w:=by
 obtain⟨zs,π,vs,hs,ht⟩:=hw;have h1:=O8 h hm hs;refine⟨_,_,{ h1 with tm:=λt htn=>?_,bx:=h1.bx,agree:=h1.agree,size:=h1.size,defers:=h1.defers,ve:=h1.ve,own:=h1.own }⟩;have h2:=ht t;have h3:=h.tm t htn;cases hS:S.tm t with
 |none=>trivial
 | v g y=>
   rw[hS]at h2;cases hst:st.tm t with
   |none=>rw[hst]at h2;exact h2.elim
   | v g' x=>rw[hst]at h2 h3;obtain⟨rfl,hv⟩:=h2;exact⟨λhg=>ad8 h hs.vir (h3.1 hg) (hv hg),h3.2⟩
theorem AK.weak {m:Nat}(hm:E.m<=m){K:eH->Prop}{X:Type}{J:X->Prop}{S:X->eH}(hk:∀st,K st->∃x,J x/\ER m st (S x)){a:Act}{w:World}(h:AK E n K a w):∃x,J x/\AK E n (λst=>st=S x) a w:=by obtain⟨I,ρ,st,hK,hg⟩:=h;obtain⟨x,hj,hw⟩:=hk st hK;obtain⟨I',ρ',hg'⟩:=F6 hg hm hw;exact⟨x,hj,I',ρ',_,rfl,hg'⟩
end
end
def eH.of (ts:List (Nat×Slot))(bs:List (Nat×Box)):eH:=
 ⟨λt=>match ts.find? (λp=>p.1==t)with|some p=>p.2|none=>.none,λb=>match bs.find? (λp=>p.1==b)with|some p=>p.2|none=>.absent⟩
def uF : List (Nat×Slot)->Nat->Slot
 |[],_=>.none
 |(t',s)::r,t=>if t'=t then s else uF r t
def l9 : List (Nat×Box)->Nat->Box
 |[],_=>.absent
 |(t',s)::r,t=>if t'=t then s else l9 r t
theorem BV (ts:List (Nat×Slot))(bs:List (Nat×Box))(t:Nat):(eH.of ts bs).tm t=uF ts t:=by
 simp only[eH.of]
 induction ts with
 |nil=>rfl
 | cons p r ih=>
   obtain⟨a,b⟩:=p;by_cases h:a=t
   ·subst h;simp[uF]
   ·simp[uF,h,ih]
theorem xG (ts:List (Nat×Slot))(bs:List (Nat×Box))(t:Nat):(eH.of ts bs).bx t=l9 bs t:=by
 simp only[eH.of]
 induction bs with
 |nil=>rfl
 | cons p r ih=>
   obtain⟨a,b⟩:=p;by_cases h:a=t
   ·subst h;simp[l9]
   ·simp[l9,h,ih]
theorem aeV (ts:List (Nat×Slot))(bs:List (Nat×Box))(t:Nat)(s:Slot):(eH.of ts bs).put t s=eH.of ((t,s)::ts) bs:=by
 apply eH.ext'
 ·funext t';rw[BV,eH.MJ,BV,uF];by_cases h:t'=t
  ·simp[h]
  ·rw[aj h,aj (λe=>h e.symm)]
 ·funext b;rw[eH.ae4,xG,xG]
def setB : List (Nat×Box)->Nat->Box->List (Nat×Box)
 |[],b,x=>[(b,x)]
 |(b',y)::r,b,x=>if b'=b then(b,x)::r else(b',y)::setB r b x
theorem Vj (bs:List (Nat×Box))(b b':Nat)(x:Box):l9 (setB bs b x) b'=if b'=b then x else l9 bs b':=by
 induction bs with
 | nil => simp only[setB,l9];by_cases h:b=b'
          ·simp[h]
          ·rw[aj h,aj (λe=>h e.symm)]
 | cons p r ih=>
   obtain⟨c,y⟩:=p;simp only[setB];by_cases h:c=b
   ·subst h;simp only[iT,l9];by_cases h':c=b'
    ·simp[h']
    ·rw[aj h',aj h',aj (λe=>h' e.symm)]
   ·rw[aj h];simp only[l9,ih];by_cases h':c=b'
    ·subst h';simp[h]
    ·simp[h']
theorem ade (ts:List (Nat×Slot))(bs:List (Nat×Box))(b:Nat)(x:Box):(eH.of ts bs).rX b x=eH.of ts (setB bs b x):=by
 apply eH.ext'
 ·funext t;rw[eH.adq,BV,BV]
 ·funext b';rw[eH.lC,xG,xG,Vj]
def Si (ts:List (Nat×Slot)):List Nat->List (Nat×Slot)
 |[]=>[]
 |t::r=>(t,uF ts t)::Si ts r
theorem adb (ts:List (Nat×Slot))(bs:List (Nat×Box))(l:List Nat):(eH.of ts bs).keep l=eH.of (Si ts l) bs:=by
 apply eH.ext'
 ·funext t
  simp only[eH.keep];rw[BV,BV]
  induction l with
  |nil=>rfl
  | cons a r ih=>
    simp only[Si,uF];by_cases h:a=t
    ·subst h;simp
    ·rw[aj h,<- ih];have h':¬t=a:=λe=>h e.symm;simp[h']
 ·funext b;simp only[eH.keep];rw[xG,xG]
theorem YH (st:eH)(s:Slot):st.uh none s=st:=rfl
theorem YI (st:eH)(t:Nat)(s:Slot):st.uh (some t) s=st.put t s:=rfl
theorem YX (st:eH):st.mW []=st:=rfl
theorem VF (st:eH)(b:Nat)(x:Box)(r:List (Nat×Box)):st.mW ((b,x)::r)=(st.rX b x).mW r:=rfl
theorem ahp (tm:Nat->Slot)(s:Nat):(jR.t s).ev tm=tm s:=rfl
theorem aho (tm:Nat->Slot)(x:AC):(jR.k x).ev tm = .v true (.one x):=rfl
theorem g_v (g:Bool)(x:AV):(Slot.v g x).g=g:=rfl
theorem x_v (g:Bool)(x:AV):(Slot.v g x).x=x:=rfl
section
inductive eG where
 |skip
 |reg (ops:List iR) (keep:List Nat)
 |wJ (ops:List (iR×List Nat)) (keep:List Nat)
 |seq (a b:eG)
 |cut (a b:eG)
 |cond (c:jR) (a b:eG)
 |block (id:Nat) (a:eG)
 |loop (a:eG)
 |exit (id:Nat)
 |ret
 deriving Inhabited
inductive oO where
 |normal
 |exit (id:Nat)
 |ret
abbrev AQ :=oO->eH->Prop
def oO.then (next:eH->Prop)(Q:AQ):AQ
 |.normal,st=>next st
 |.exit id,st=>Q (.exit id) st
 |.ret,st=>Q .ret st
def oO.inBlock (id:Nat)(Q:AQ):AQ
 |.exit id',st=>if id'=id then Q .normal st else Q (.exit id') st
 |.normal,st=>Q .normal st
 |.ret,st=>Q .ret st
def afO (body:AQ->eH->Prop)(Q:AQ)(st:eH):Prop:=
 ∃ (X:Type) (J:X->Prop) (S:X->eH) (μ:X->Nat),(∃x,J x/\ER 10 st (S x)) /\
   ∀x,J x->body (oO.then (λst'=>∃x',(J x'/\μ x'<μ x)/\ER 10 st' (S x')) Q) (S x)
def ahi (wa:AQ->eH->Prop)(wb:AQ->eH->Prop)(Q:AQ)(st:eH):Prop:=
 ∃(X:Type) (J:X->Prop) (S:X->eH),wa (oO.then (λst'=>∃x,J x/\ER 10 st' (S x)) Q) st/\∀x,J x->wb Q (S x)
def Cm (body:AQ->eH->Prop)(Q:AQ)(st:eH)(_:DU body)(_:DU Q):Prop:=afO body Q st
def Gi (wa wb:AQ->eH->Prop)(Q:AQ)(st:eH)(_:DU wa)(_:DU wb)(_:DU Q):Prop:=ahi wa wb Q st
def wpC (P:Program):eG->AQ->eH->Prop
 |.skip,Q,st=>Q .normal st
 |.reg ops keep,Q,st=>wpOps P ops st λst=>Q .normal (st.keep keep)
 |.wJ ops keep,Q,st=>wpD P ops 0 [] st λst=>Q .normal (st.keep keep)
 |.seq a b,Q,st=>wpC P a (oO.then (wpC P b Q) Q) st
 |.cut a b,Q,st=>Gi (wpC P a) (wpC P b) Q st .mk .mk .mk
 | .cond c a b,Q,st=>(c.ev st.tm).g=true/\match(c.ev st.tm).x with
   |.one (.c (.lit (.bool t)))=>(t=true->wpC P a Q st)/\(t=false->wpC P b Q st)
   |_=>False
 |.block id a,Q,st=>wpC P a (oO.inBlock id Q) st
 |.loop a,Q,st=>Cm (wpC P a) Q st .mk .mk
 |.exit id,Q,st=>Q (.exit id) st
 |.ret,Q,st=>Q .ret st
def oG (P:Program)(n m:Nat):Code->eG->Bool
 |.skip,.skip=>true
 |.region _ ops false,.reg xs _=>Iy P n m ops ops.toList xs
 |.region _ ops true,.wJ xs _=>Gy P n m ops xs&&P.follows .mixedOrders
 |.seq a b,.seq x y=>oG P n m a x&&oG P n m b y
 |.seq a b,.cut x y=>oG P n m a x&&oG P n m b y
 |.cond c a b,.cond d x y=>iM n c d&&oG P n m a x&&oG P n m b y
 |.block i a,.block j x=>i==j&&oG P n m a x
 |.loop a,.loop x=>oG P n m a x
 |.exit i,.exit j=>i==j
 |.ret,.ret=>true
 |_,_=>false
section
variable {P:Program} {E:Env P} {n:Nat}
def CQ (E:Env P)(n:Nat)(Q:AQ):Exit->Act->World->Prop
 |.normal,a,w=>AK E n (Q .normal) a w
 |.exit id,a,w=>AK E n (Q (.exit id)) a w
 |.ret,a,w=>AK E n (Q .ret) a w
 |_,_,_=>False
theorem Pj {Q:AQ}{next:eH->Prop}{nx:Act->World->Prop}(h:∀a w,AK E n next a w->nx a w)(e:Exit)(a:Act)(w:World)(hq:CQ E n (oO.then next Q) e a w):Exit.then nx (CQ E n Q) e a w:=by
 cases e with
 |normal=>exact h a w hq
 |exit id=>exact hq
 |ret=>exact hq
 |goto l=>exact hq
 |panic c=>exact hq
 |outgrown=>exact hq
theorem Ui {Q:AQ}{id:Nat}(e:Exit)(a:Act)(w:World)(hq:CQ E n (oO.inBlock id Q) e a w):rH id (CQ E n Q) e a w:=by
 cases e with
 |normal=>exact hq
 | exit id'=>
   simp only[rH];by_cases h:id'=id
   ·rw[aF h];exact AK.imp (λst (hs:oO.inBlock id Q (.exit id') st)=>by simp only[oO.inBlock,aF h]at hs;exact hs) hq
   ·rw[aj h];exact AK.imp (λst (hs:oO.inBlock id Q (.exit id') st)=>by simp only[oO.inBlock,aj h]at hs;exact hs) hq
 |ret=>exact hq
 |goto l=>exact hq
 |panic c=>exact hq
 |outgrown=>exact hq
theorem GX.keep {I:IH}{ρ:Ren}{st:eH}{a:Act}{w:World}(h:GX E I ρ n st a w)(ts:List Nat):GX E I ρ n (st.keep ts) a w:=
 have ht:∀t,t<n->Ub I ρ (a.tmps.getD t undef) ((st.keep ts).tm t):=λt ht=>by
  simp only[eH.keep];split
  ·exact h.tm t ht
  ·trivial
 { h with tm:=ht,bx:=h.bx,agree:=h.agree,size:=h.size,defers:=h.defers,ve:=h.ve,own:=h.own }
theorem BA {Q:Exit->Act->World->Prop}{a:Act}{w:World}{c:Code}(Inv:Nat->Act->World->Prop)(h0:∃k,Inv k a w)
 (round:∀k a w,Inv k a w->c.wp P (Exit.then (λa' w'=>∃k',k'<k/\Inv k' a' w') Q) a w):(Code.loop c).wp P Q a w:=by
 have hmin:∀a w,(∃k,Inv k a w)->∃k,Inv k a w/\∀j,j<k->¬Inv j a w:=by
  intro a w ⟨k,hk⟩
  induction k using Nat.strongRecOn with
  | _ k ih=>
    by_cases h:∃j,j<k/\Inv j a w
    ·obtain⟨j,hj,hi⟩:=h;exact ih j hj hi
    ·exact⟨k,hk,λj hj hi=>h ⟨j,hj,hi⟩⟩
 let μ:Act->World->Nat:=λa w=>open Classical in if h:∃k,Inv k a w then(hmin a w h).choose else 0
 have hμ:∀a w,(∃k,Inv k a w)->Inv (μ a w) a w/\∀j,Inv j a w->μ a w<=j:=by intro a w h;have hs:=(hmin a w h).choose_spec;simp only[μ,dif_pos h];exact⟨hs.1,λj hj=>Nat.le_of_not_lt λhlt=>hs.2 j hlt hj⟩
 refine wp_loop (λa w=>∃k,Inv k a w) μ h0 λa w h=>?_;refine wp_mono (round _ a w (hμ a w h).1) λe a' w' hq=>?_;cases e with
 | normal=>obtain⟨k',hlt,hk⟩:=hq;exact⟨⟨k',hk⟩,Nat.lt_of_le_of_lt ((hμ a' w' ⟨k',hk⟩).2 k' hk) hlt⟩
 |exit id=>exact hq
 |ret=>exact hq
 |goto l=>exact hq
 |panic c=>exact hq
 |outgrown=>exact hq
theorem qY (hm:E.m<=10):∀{ac:eG} {c:Code} {Q:AQ} {a:Act} {w:World},oG P n E.m c ac=true->AK E n (wpC P ac Q) a w->c.wp P (CQ E n Q) a w
 | .skip,c,Q,a,w,hc,h=>by
   unfold oG at hc;split at hc<;>first|contradiction|skip
   exact wp_skip h
 | .reg xs keep,c,Q,a,w,hc,h=>by
   unfold oG at hc;split at hc<;>first|contradiction|skip
   rename_i heq;cases heq;refine wp_region_list (ML hm hc h λa w hk=>?_);obtain⟨I,ρ,st,hk,hg⟩:=hk;exact⟨I,ρ,_,hk,hg.keep keep⟩
 | .wJ xs keep,c,Q,a,w,hc,h=>by
   unfold oG at hc;split at hc<;>first|contradiction|skip
   rename_i heq;cases heq;simp only[af]at hc;refine VA hm hc.2 hc.1 (λa w hk=>?_) h;obtain⟨I,ρ,st,hk,hg⟩:=hk;exact⟨I,ρ,_,hk,hg.keep keep⟩
 | .seq x y,c,Q,a,w,hc,h=>by
   unfold oG at hc;split at hc<;>first|contradiction|skip
   rename_i heq;cases heq;simp only[af]at hc;exact wp_seq (wp_mono (qY hm hc.1 h) (Pj λa w hk=>qY hm hc.2 hk))
 | .cut x y,c,Q,a,w,hc,h=>by
   unfold oG at hc;split at hc<;>first|contradiction|skip
   rename_i heq;cases heq;simp only[af]at hc;obtain⟨I,ρ,st,⟨X,J,S,h1,h2⟩,hg⟩:=h;refine wp_seq (wp_mono (qY hm hc.1 ⟨I,ρ,st,h1,hg⟩) (Pj λa w hk=>?_));obtain⟨x,hj,I',ρ',st',rfl,hg'⟩:=AK.weak hm (λst h=>h) hk;exact qY hm hc.2 ⟨I',ρ',_,h2 x hj,hg'⟩
 | .cond d x y,c,Q,a,w,hc,h=>by
   unfold oG at hc;split at hc<;>first|contradiction|skip
   rename_i heq;cases heq;simp only[af]at hc;obtain⟨I,ρ,st,⟨h1,h2⟩,hg⟩:=h;have hv:=jF hg hc.1.1 h1;unfold bW at hv;split at h2
   ·rename_i t ht;rw[ht]at hv;exact wp_cond_split (CS hv) (λe=>qY hm hc.1.2 ⟨I,ρ,st,h2.1 e,hg⟩) (λe=>qY hm hc.2 ⟨I,ρ,st,h2.2 e,hg⟩)
   ·exact h2.elim
 | .block id x,c,Q,a,w,hc,h=>by
   unfold oG at hc;split at hc<;>first|contradiction|skip
   rename_i heq;cases heq;simp only[af,aK]at hc;obtain⟨rfl,hc⟩:=hc;exact wp_block (wp_mono (qY hm hc h) Ui)
 | .loop x,c,Q,a,w,hc,h=>by
   unfold oG at hc;split at hc<;>first|contradiction|skip
   rename_i heq;cases heq;obtain⟨I,ρ,st,⟨X,J,S,μ,⟨x0,hj0,hw0⟩,hr⟩,hg⟩:=h;refine BA (λk a w=>∃x,J x/\μ x=k/\AK E n (λst=>st=S x) a w) ?_ ?_
   ·obtain⟨I',ρ',hg'⟩:=F6 hg hm hw0;exact⟨_,x0,hj0,rfl,I',ρ',_,rfl,hg'⟩
   ·rintro k a w ⟨x,hj,rfl,I,ρ,st,rfl,hg⟩;refine wp_mono (qY hm hc ⟨I,ρ,_,hr x hj,hg⟩) (Pj λa w hk=>?_);obtain⟨x',⟨hj',hlt⟩,hk'⟩:=AK.weak (J:=λx'=>J x'/\μ x'<μ x) hm (λst h=>h) hk;exact⟨_,hlt,x',hj',rfl,hk'⟩
 | .exit id,c,Q,a,w,hc,h=>by
   unfold oG at hc;split at hc<;>first|contradiction|skip
   rename_i heq;cases heq;simp only[aK]at hc;subst hc;exact wp_exit h
 | .ret,c,Q,a,w,hc,h=>by
   unfold oG at hc;split at hc<;>first|contradiction|skip
   exact wp_ret h
end
end
section
def Ref.rn (ρ:Nat->Nat)(r:Ref):Ref:=⟨r.off,r.ty,ρ r.m⟩
def OF.rn (ρ:Nat->Nat):OF->OF
 |.ref t r=>.ref t (r.rn ρ)
 |.xw t i r=>.xw t i (r.rn ρ)
 |.row b r=>.row b (r.rn ρ)
 |f=>f
def rnP (dp:Nat)(ρ:Nat->Nat):rC->rC
 |.tag d m=>if d=dp then .tag d (ρ m)else .tag d m
 |p=>p
def Own.rn (g:Own)(dp:Nat)(ρ:Nat->Nat):Own:=⟨λk=>match g k with
 |some (.arr T p)=>some (.arr T (rnP dp ρ p))
 |some (.var row d b)=>some (.var (if d=dp then row.map (Ref.rn ρ)else row) d b)
 |none=>none,g.bd⟩
theorem OM {g:Own}{dp k:Nat}{ρ:Nat->Nat} : (g.rn dp ρ) k=match g k with
 |some (.arr T p)=>some (.arr T (rnP dp ρ p))
 |some (.var row d b)=>some (.var (if d=dp then row.map (Ref.rn ρ)else row) d b)
 |none=>none:=rfl
def OF.loc : OF->Nat
 |.row b r=>100000+b*100+r.off
 |.ref t r=>200000+t*100+r.off
 |.xw t i r=>300000+t*1000+i*100+r.off
 |_=>0
def ZJ (Γ : List OF)(m:Nat):Nat:= Γ.foldl (λx f=>match f.afj with|some m'=>if iV m' m&&Nat.ble f.loc x then f.loc else x|none=>x) 1000000
def canon (Γ : List OF):List OF:= Γ.map (OF.rn (ZJ Γ))
section
variable {P:Program} {F:Jk} {g:Own} {dp N:Nat} {Γ : List OF} {a:Act} {w:World}
theorem GR.rn {u:Value}{T:Nat}{p:rC}(h:GR g u T p)(ρ:Nat->Nat):GR (g.rn dp ρ) u T (rnP dp ρ p):=by
 rcases h with h|⟨k,n,c,h1,h2⟩
 ·exact .inl h
 ·exact .inr ⟨k,n,c,h1,by rw[OM,h2.1],h2.2⟩
theorem GR.rnT {u:Value}{T m:Nat}(h:GR g u T (.tag dp m))(ρ:Nat->Nat):GR (g.rn dp ρ) u T (.tag dp (ρ m)):=by have:=h.rn (dp:=dp) ρ;simpa[rnP]using this
theorem VC {ρ:Nat->Nat}{k T:Nat}{p:rC}(h:g.rn dp ρ k=some (.arr T p)):∃q,g k=some (.arr T q)/\p=rnP dp ρ q:=by
 rw[OM]at h;split at h
 ·rename_i T0 q h0;cases h;exact⟨q,h0,rfl⟩
 ·cases h
 ·cases h
theorem VD {ρ:Nat->Nat}{k d b:Nat}{row:List Ref}(h:g.rn dp ρ k=some (.var row d b)):∃row0,g k=some (.var row0 d b)/\row=if d=dp then row0.map (Ref.rn ρ)else row0:=by
 rw[OM]at h;split at h
 ·cases h
 ·rename_i row0 d0 b0 h0;cases h;exact⟨row0,h0,rfl⟩
 ·cases h
theorem Good.rn (h:Good P g w)(ρ:Nat->Nat):Good P (g.rn dp ρ) w:=by
 refine⟨λk T p hk=>?_,λk row d b hk=>?_⟩
 ·obtain⟨q,h1,rfl⟩:=VC hk;obtain⟨cs,e,hw,hc⟩:=h.arr k T q h1;exact⟨cs,e,hw,λj u T' hb hu ht=>(hc j u T' hb hu ht).rn ρ⟩
 ·obtain⟨row0,h1,rfl⟩:=VD hk;obtain⟨cs,e,hw,hc⟩:=h.var k row0 d b h1;refine⟨cs,e,hw,λr hr=>?_⟩;by_cases hd:d=dp
  ·subst hd;rw[aF rfl,aG]at hr;obtain⟨r0,hr0,rfl⟩:=hr;obtain⟨u,hu,hg⟩:=hc r0 hr0;exact⟨u,hu,hg.rnT ρ⟩
  ·rw[aj hd]at hr;obtain⟨u,hu,hg⟩:=hc r hr;have:=hg.rn (dp:=dp) ρ;simp only[rnP,aj hd]at this;exact⟨u,hu,this⟩
theorem xq.rn {f:OF}(h:xq P F g dp a w f)(ρ:Nat->Nat):xq P F (g.rn dp ρ) dp a w (f.rn ρ):=by
 have old:∀{k T:Nat} {X:Prop},(∀B,g k=some B->(∃p,B = .arr T p)/\X)->∀B,g.rn dp ρ k=some B->(∃p,B = .arr T p)/\X:=by
  intro k T X hold B hB;cases B with
  | arr T' p=>obtain⟨q,h1,rfl⟩:=VC hB;obtain⟨⟨p',e⟩,hx⟩:=hold _ h1;cases e;exact⟨⟨_,rfl⟩,hx⟩
  | var row d b=>obtain⟨row0,h1,_⟩:=VD hB;obtain⟨⟨p',e⟩,_⟩:=hold _ h1;cases e
 have vv:∀{k row b},g k=some (.var row dp b)->g.rn dp ρ k=some (.var (row.map (Ref.rn ρ)) dp b):=λh1=>by rw[OM,h1];simp
 cases f with
 |sr t T=>intro ad n c hq0;obtain⟨k,o,h1,h2,h3⟩:=h ad n c hq0;exact⟨k,o,h1,h2,old h3⟩
 |ep t T off=>obtain⟨k,o,h1,h2,h3⟩:=h;exact⟨k,o,h1,h2,old h3⟩
 |vp t b off=>obtain⟨k,row,h1,h2,h3⟩:=h;exact⟨k,_,h1,h2,vv h3⟩
 |ref t r=>obtain⟨u,h1,h2⟩:=h;exact⟨u,h1,h2.rnT ρ⟩
 |xw t i r=>obtain⟨vs,x,u,h1,h2,h3,h4⟩:=h;exact⟨vs,x,u,h1,h2,h3,h4.rnT ρ⟩
 |row b r=>obtain⟨k,row,h1,h2,h3⟩:=h;exact⟨k,_,h1,vv h2,aG.2 ⟨r,h3,rfl⟩⟩
 |fn t s=>exact h
theorem Rel.rn (ρ:Nat->Nat):Rel dp N g (g.rn dp ρ):=by
 refine⟨λk T d m hd hk=>?_,λk row d b hd hk=>?_,λk B' _ hB=>?_⟩
 ·rw[OM,hk];simp only[rnP];rw[aj aQ];exact⟨rfl,rfl⟩
 ·rw[OM,hk];simp only;rw[aj aQ]
 ·cases B' with
  | arr T p=>obtain⟨q,h1,_⟩:=VC hB;exact⟨_,h1,λT' p' hb=>by rcases hb with e|e<;>cases e<;>exact⟨_,_,rfl,rfl⟩⟩
  | var row d b=>obtain⟨row0,h1,_⟩:=VD hB;exact⟨_,h1,λT' p' hb=>by rcases hb with e|e<;>cases e⟩
theorem LY.canon {E:Env P}{g0:Own}(h:LY E g0 dp Γ a w):LY E g0 dp (canon Γ) a w:=by obtain⟨g,h1,h2⟩:=h;refine⟨g.rn dp (ZJ Γ),h1.trans (Rel.rn _),h2.good.rn _,λf hf=>?_⟩;rw[Ab.canon,aG]at hf;obtain⟨f0,h3,rfl⟩:=hf;exact(h2.fs f0 h3).rn _
end
abbrev OX :=Option (List OF)×List (Nat×List OF)
def aaD (ts:List Nat)(Γ : List OF):List OF:= Γ.filter λf=>f.Xq.all ts.contains
def WN : Option (List OF)->Option (List OF)->Option (List OF)
 |none,x=>x
 |x,none=>x
 |some a,some b=>some (a.filter b.contains)
def JY (id:Nat)(l:List (Nat×List OF)):Option (List OF):=match(l.filter λe=>e.1==id).map (·.2)with
 |[]=>none
 |Gs=>some (WR Gs)
def adp (f g:List OF->Option OX)(Γ : List OF):Option OX:=match f Γ with
 |some (none,x1)=>some (none,x1)
 | some (some BC,x1)=>(match g BC with
   |some (n2,x2)=>some (n2,x1++x2)
   |none=>none)
 |none=>none
def adN (f g:List OF->Option OX)(Γ : List OF):Option OX:=match f Γ,g Γ with
 |some (n1,x1),some (n2,x2)=>some (WN n1 n2,x1++x2)
 |_,_=>none
def ZF (i:Nat)(f:List OF->Option OX)(Γ : List OF):Option OX:=match f Γ with
 |some (n1,x1)=>some (WN n1 (JY i x1),x1)
 |none=>none
def WM (f:List OF->Option OX):Nat->List OF->Option OX
 |0,_=>none
 | k+1,Γ =>match f Γ with
   |some (none,x1)=>some (none,x1)
   |some (some BC,x1)=>if Γ.all BC.contains then some (none,x1)else WM f k (Γ.filter BC.contains)
   |none=>none
def oC (P:Program)(pl:List Nat)(rk:List OF->Bool):Code->eG->List OF->Option OX
 |.skip,.skip=>fun Γ =>some (some Γ,[])
 |.region _ ops false,.reg xs keep=>fun Γ =>(SS P pl ops.toList xs Γ).bind λuA=>LC (canon (aaD (pl++keep) uA)) λG=>some (some G,[])
 |.region _ ops true,.wJ xs keep=>fun Γ =>(afe P pl keep ops (items xs 0) Γ).bind λuA=>LC (canon (aaD (pl++keep) uA)) λG=>some (some G,[])
 |.seq a b,.seq x y=>adp (oC P pl rk a x) (oC P pl rk b y)
 |.seq a b,.cut x y=>adp (oC P pl rk a x) (oC P pl rk b y)
 |.cond _ a b,.cond _ x y=>adN (oC P pl rk a x) (oC P pl rk b y)
 |.block i a,.block _ x=>ZF i (oC P pl rk a x)
 |.loop a,.loop x=>WM (oC P pl rk a x) 5
 |.exit i,.exit _=>fun Γ =>some (none,[(i,Γ)])
 |.ret,.ret=>fun Γ =>if rk Γ then some (none,[])else none
 |_,_=>λ_=>none
section
variable {P:Program} {E:Env P} {n:Nat} {g0:Own} {dp:Nat} {pa:List (Nat×Value)} {pl:List Nat} {rk:List OF->Bool}
theorem WO {a b:Option (List OF)}{Γ : List OF}(h:a=some Γ):∃M,WN a b=some M/\∀f,f∈M->f ∈ Γ :=by
 subst h;cases b with
 |none=>exact⟨Γ,rfl,λf hf=>hf⟩
 |some B=>exact⟨_,rfl,λf hf=>(aC.1 hf).1⟩
theorem WQ {a b:Option (List OF)}{Γ : List OF}(h:b=some Γ):∃M,WN a b=some M/\∀f,f∈M->f ∈ Γ :=by
 subst h;cases a with
 |none=>exact⟨Γ,rfl,λf hf=>hf⟩
 |some A=>exact⟨_,rfl,λf hf=>eF.1 (aC.1 hf).2⟩
theorem Ru {id:Nat}{l:List (Nat×List OF)}{Γ : List OF}(h:(id,Γ)∈l):∃M,JY id l=some M/\∀f,f∈M->f ∈ Γ :=by
 have hm : Γ ∈ (l.filter λe=>e.1==id).map (·.2):=aG.2 ⟨_,aC.2 ⟨h,kY⟩,rfl⟩;unfold JY;split
 ·rename_i e;rw[e]at hm;cases hm
 ·exact⟨_,rfl,λf hf=>IY hf hm⟩
def CQO (E:Env P)(g0:Own)(pa:List (Nat×Value))(dp n:Nat)(rk:List OF->Bool)(Q:AQ)(r:OX):Exit->Act->World->Prop
 |.normal,a,w=>∃ Γ,r.1=some Γ /\ AO E g0 pa dp n (Q .normal) Γ a w
 |.exit id,a,w=>∃ Γ,(id,Γ)∈r.2/\AO E g0 pa dp n (Q (.exit id)) Γ a w
 |.ret,a,w=>∃ Γ,rk Γ = true/\AO E g0 pa dp n (Q .ret) Γ a w
 |_,_,_=>False
theorem CQO.mono {Q Q':AQ}{r r':OX}(hn:∀ Γ a w,r.1=some Γ -> AO E g0 pa dp n (Q .normal) Γ a w->∃uA,r'.1=some uA/\AO E g0 pa dp n (Q' .normal) uA a w)(hx:∀e,e∈r.2->e∈r'.2)(hq:∀id st,Q (.exit id) st->Q' (.exit id) st)(hr:∀st,Q .ret st->Q' .ret st)(e:Exit)(a:Act)(w:World)(h:CQO E g0 pa dp n rk Q r e a w):CQO E g0 pa dp n rk Q' r' e a w:=by
 cases e with
 |normal=>obtain⟨Γ,h1,h2⟩:=h;exact hn Γ a w h1 h2
 |exit id=>obtain⟨Γ,h1,h2⟩:=h;exact⟨Γ,hx _ h1,h2.imp (hq id) λ_ h=>h⟩
 |ret=>obtain⟨Γ,h1,h2⟩:=h;exact⟨Γ,h1,h2.imp hr λ_ h=>h⟩
 |goto l=>exact h
 |panic c=>exact h
 |outgrown=>exact h
theorem AO.keep {K:eH->Prop}{Γ : List OF}{a:Act}{w:World}{ts us:List Nat}(h:AO E g0 pa dp n (λst=>K (st.keep ts)) Γ a w):AO E g0 pa dp n K (canon (aaD us Γ)) a w:=by obtain⟨⟨⟨I,ρ,st,hk,hg⟩,BD⟩,hpa⟩:=h;exact⟨⟨⟨I,ρ,_,hk,hg.keep ts⟩,(BD.weak λf hf=>(aC.1 hf).1).canon⟩,hpa⟩
theorem pI (hm:E.m<=10)(hpl:∀e,e∈pa->e.1∈pl):∀{ac:eG} {c:Code} {Q:AQ} {Γ : List OF} {r:OX} {a:Act} {w:World},oG P n E.m c ac=true->oC P pl rk c ac Γ = some r->AO E g0 pa dp n (wpC P ac Q) Γ a w->c.wp P (CQO E g0 pa dp n rk Q r) a w
 | .skip,c,Q,Γ,r,a,w,hc,ho,h=>by
   unfold oG at hc;split at hc<;>first|contradiction|skip
   simp only[oC]at ho;cases ho;exact wp_skip ⟨Γ,rfl,h⟩
 | .reg xs keep,c,Q,Γ,r,a,w,hc,ho,h=>by
   unfold oG at hc;split at hc<;>first|contradiction|skip
   rename_i heq;cases heq;simp only[oC,qx,IC]at ho;obtain⟨uA,h1,h2⟩:=ho;cases h2;exact wp_region_list (Jv hm hpl hc h1 h λa w hk=>⟨_,rfl,hk.keep⟩)
 | .wJ xs keep,c,Q,Γ,r,a,w,hc,ho,h=>by
   unfold oG at hc;split at hc<;>first|contradiction|skip
   rename_i heq;cases heq;simp only[af]at hc;simp only[oC,qx,IC]at ho;obtain⟨uA,h1,h2⟩:=ho;cases h2;exact Tv hm hpl hc.2 hc.1 h1 (λa w hk=>⟨_,rfl,hk.keep⟩) h
 | .seq x y,c,Q,Γ,r,a,w,hc,ho,h=>by
   unfold oG at hc;split at hc<;>first|contradiction|skip
   rename_i heq;cases heq;simp only[af]at hc;simp only[oC,adp]at ho;refine wp_seq ?_;split at ho
   ·rename_i x1 h1;cases ho;refine wp_mono (pI hm hpl hc.1 h1 h) λe a w hq=>?_;cases e with
    |normal=>obtain⟨_,h2,_⟩:=hq;cases h2
    |exit id=>exact hq
    |ret=>exact hq
    |goto l=>exact hq
    |panic c=>exact hq
    |outgrown=>exact hq
   ·rename_i BC x1 h1;split at ho
    ·rename_i n2 x2 h2;cases ho;refine wp_mono (pI hm hpl hc.1 h1 h) λe a w hq=>?_;cases e with
     | normal=>obtain⟨_,h3,h4⟩:=hq;cases h3;refine wp_mono (pI hm hpl hc.2 h2 h4) λe a w hq=>CQO.mono (r:=(n2,x2)) (r':=(n2,x1++x2)) (Q':=Q) (fun Γ a w h5 h6=>⟨Γ,h5,h6⟩) (λe he=>cu _ he) (λ_ _ h=>h) (λ_ h=>h) e a w hq
     |exit id=>obtain⟨uA,h3,h4⟩:=hq;exact⟨uA,bF _ h3,h4⟩
     |ret=>exact hq
     |goto l=>exact hq
     |panic c=>exact hq
     |outgrown=>exact hq
    ·cases ho
   ·cases ho
 | .cut x y,c,Q,Γ,r,a,w,hc,ho,h=>by
   unfold oG at hc;split at hc<;>first|contradiction|skip
   rename_i heq;cases heq;simp only[af]at hc;simp only[oC,adp]at ho;obtain⟨⟨⟨I,ρ,st,⟨X,J,S,hw1,hw2⟩,hg⟩,BD⟩,hpa⟩:=h;refine wp_seq ?_;split at ho
   ·rename_i x1 h1;cases ho;refine wp_mono (pI hm hpl hc.1 h1 ⟨⟨⟨I,ρ,st,hw1,hg⟩,BD⟩,hpa⟩) λe a w hq=>?_;cases e with
    |normal=>obtain⟨_,h2,_⟩:=hq;cases h2
    |exit id=>exact hq
    |ret=>exact hq
    |goto l=>exact hq
    |panic c=>exact hq
    |outgrown=>exact hq
   ·rename_i BC x1 h1;split at ho
    ·rename_i n2 x2 h2;cases ho;refine wp_mono (pI hm hpl hc.1 h1 ⟨⟨⟨I,ρ,st,hw1,hg⟩,BD⟩,hpa⟩) λe a w hq=>?_;cases e with
     | normal=>obtain⟨_,h3,⟨h4,ahG⟩,ahJ⟩:=hq;cases h3;obtain⟨x,hj,I',ρ',st',rfl,hg'⟩:=AK.weak hm (λst h=>h) h4;refine wp_mono (pI hm hpl hc.2 h2 ⟨⟨⟨I',ρ',_,hw2 x hj,hg'⟩,ahG⟩,ahJ⟩) λe a w hq=>CQO.mono (r:=(n2,x2)) (r':=(n2,x1++x2)) (Q':=Q) (fun Γ a w h5 h6=>⟨Γ,h5,h6⟩) (λe he=>cu _ he) (λ_ _ h=>h) (λ_ h=>h) e a w hq
     |exit id=>obtain⟨uA,h3,h4⟩:=hq;exact⟨uA,bF _ h3,h4⟩
     |ret=>exact hq
     |goto l=>exact hq
     |panic c=>exact hq
     |outgrown=>exact hq
    ·cases ho
   ·cases ho
 | .cond d x y,c,Q,Γ,r,a,w,hc,ho,h=>by
   unfold oG at hc;split at hc<;>first|contradiction|skip
   rename_i heq;cases heq;simp only[af]at hc;simp only[oC,adN]at ho;split at ho
   ·rename_i n1 x1 n2 x2 h1 h2;cases ho;obtain⟨⟨⟨I,ρ,st,⟨hv1,hv2⟩,hg⟩,BD⟩,hpa⟩:=h;have hv:=jF hg hc.1.1 hv1;unfold bW at hv;split at hv2
    ·rename_i t ht;rw[ht]at hv;refine wp_cond_split (CS hv) (λe=>?_) (λe=>?_)
     ·refine wp_mono (pI hm hpl hc.1.2 h1 ⟨⟨⟨I,ρ,st,hv2.1 e,hg⟩,BD⟩,hpa⟩) λe a w hq=>CQO.mono (fun Γ a w h5 h6=>?_) (λe he=>bF _ he) (λ_ _ h=>h) (λ_ h=>h) e a w hq;obtain⟨M,h7,h8⟩:=WO (b:=n2) h5;exact⟨M,h7,h6.imp (λ_ h=>h) h8⟩
     ·refine wp_mono (pI hm hpl hc.2 h2 ⟨⟨⟨I,ρ,st,hv2.2 e,hg⟩,BD⟩,hpa⟩) λe a w hq=>CQO.mono (fun Γ a w h5 h6=>?_) (λe he=>cu _ he) (λ_ _ h=>h) (λ_ h=>h) e a w hq;obtain⟨M,h7,h8⟩:=WQ (a:=n1) h5;exact⟨M,h7,h6.imp (λ_ h=>h) h8⟩
    ·exact hv2.elim
   ·cases ho
 | .block id x,c,Q,Γ,r,a,w,hc,ho,h=>by
   unfold oG at hc;split at hc<;>first|contradiction|skip
   rename_i heq;cases heq;simp only[af,aK]at hc;obtain⟨rfl,hc⟩:=hc;simp only[oC,ZF]at ho;split at ho
   ·rename_i n1 x1 h1;cases ho;refine wp_block (wp_mono (pI hm hpl hc h1 h) λe a w hq=>?_);cases e with
    | normal=>obtain⟨uA,h2,h3⟩:=hq;obtain⟨M,h7,h8⟩:=WO (b:=JY _ x1) h2;exact⟨M,h7,h3.imp (λ_ h=>h) h8⟩
    | exit id'=>
      obtain⟨uA,h2,h3⟩:=hq;simp only[rH];split
      ·rename_i e;subst e;obtain⟨M0,h4,h5⟩:=Ru h2;obtain⟨M,h7,h8⟩:=WQ (a:=n1) h4;exact⟨M,h7,h3.imp (λst (hs:oO.inBlock id' Q (.exit id') st)=>by simp only[oO.inBlock,iT]at hs;exact hs) λf hf=>h5 f (h8 f hf)⟩
      ·rename_i e;exact⟨uA,h2,h3.imp (λst hs=>by simp only[oO.inBlock,aj e]at hs;exact hs) λf hf=>hf⟩
    |ret=>exact hq
    |goto l=>exact hq
    |panic c=>exact hq
    |outgrown=>exact hq
   ·cases ho
 | .loop x,c,Q,Γ,r,a,w,hc,ho,h=>by
   unfold oG at hc;split at hc<;>first|contradiction|skip
   rename_i heq;cases heq;rename_i cc;simp only[oC]at ho;have inv:∀(k:Nat) (Γ : List OF),WM (oC P pl rk cc x) k Γ = some r->∃uA,(∀f,f∈uA->f ∈ Γ)/\∃n1 x1,oC P pl rk cc x uA=some (n1,x1)/\r=(none,x1)/\∀BC,n1=some BC->∀f,f∈uA->f∈BC:=by
    intro k
    induction k with
    |zero=>intro Γ h;cases h
    | succ k ih=>
      intro Γ h;simp only[WM]at h;split at h
      ·rename_i x1 h1;cases h;exact⟨Γ,λ_ h=>h,_,_,h1,rfl,λBC e=>by cases e⟩
      ·rename_i BC x1 h1;split at h
       ·rename_i hall;cases h;exact⟨Γ,λ_ h=>h,_,_,h1,rfl,λUg e f hf=>by cases e;exact eF.1 (aB.1 hall f hf)⟩
       ·obtain⟨uA,h2,h3⟩:=ih _ h;exact⟨uA,λf hf=>(aC.1 (h2 f hf)).1,h3⟩
      ·cases h
   obtain⟨uA,hsub,n1,x1,h1,rfl,hback⟩:=inv _ _ ho;obtain⟨⟨⟨I,ρ,st,⟨X,J,S,μ,⟨x0,hj0,hw0⟩,hr⟩,hg⟩,BD⟩,hpa⟩:=h;refine BA (λk a w=>∃x,J x/\μ x=k/\AO E g0 pa dp n (λst=>st=S x) uA a w) ?_ ?_
   ·obtain⟨I',ρ',hg'⟩:=F6 hg hm hw0;exact⟨_,x0,hj0,rfl,⟨⟨I',ρ',_,rfl,hg'⟩,BD.weak hsub⟩,hpa⟩
   ·rintro k a w ⟨x,hj,rfl,⟨⟨I,ρ,st,rfl,hg⟩,BD⟩,hpa⟩;refine wp_mono (pI hm hpl hc h1 ⟨⟨⟨I,ρ,_,hr x hj,hg⟩,BD⟩,hpa⟩) λe a w hq=>?_;cases e with
    | normal=>obtain⟨BC,h2,⟨hk,ahH⟩,ahK⟩:=hq;obtain⟨x',⟨hj',hlt⟩,hk'⟩:=AK.weak (J:=λx'=>J x'/\μ x'<μ x) hm (λst h=>h) hk;exact⟨_,hlt,x',hj',rfl,⟨hk',ahH.weak (hback BC h2)⟩,ahK⟩
    |exit id=>exact hq
    |ret=>exact hq
    |goto l=>exact hq
    |panic c=>exact hq
    |outgrown=>exact hq
 | .exit id,c,Q,Γ,r,a,w,hc,ho,h=>by
   unfold oG at hc;split at hc<;>first|contradiction|skip
   rename_i heq;cases heq;simp only[aK]at hc;subst hc;simp only[oC]at ho;cases ho;exact wp_exit ⟨Γ,aJ ..,h⟩
 | .ret,c,Q,Γ,r,a,w,hc,ho,h=>by
   unfold oG at hc;split at hc<;>first|contradiction|skip
   simp only[oC]at ho;split at ho
   ·rename_i hk;exact wp_ret ⟨Γ,hk,h⟩
   ·cases ho
end
end
section
inductive qW where
 |tmp (t:Nat)
 |cell (t:Nat) (agg:Bool) (k:Nat)
 deriving Inhabited
def qW.ok (st:eH):qW->Prop
 |.tmp t=>(st.tm t).g=true
 |.cell t agg k=>(st.tm t).g=true/\(tJ agg k (st.tm t).x st.bx).vc
def qW.val (st:eH):qW->AV
 |.tmp t=>(st.tm t).x
 |.cell t agg k=>(tJ agg k (st.tm t).x st.bx).v
def Au (st:eH):List qW->Prop
 |[]=>True
 |r::rs=>r.ok st/\(r.val st).flat/\Au st rs
def partOf : AV->Bool×List AC
 |.one x=>(false,[x])
 |.agg xs=>(true,xs)
 |.Bl _=>(false,[])
def uj (st:eH):List qW->List (Bool×List AC)
 |[]=>[]
 |r::rs=>partOf (r.val st)::uj st rs
def NP (st:eH):List qW->AV
 |[r]=>r.val st
 |rs=>.Bl (uj st rs)
def BF (rs:List qW)(m:Nat)(post:AV->List Box->Prop)(st:eH):Prop:=
 Au st rs/\∃r bs zs π vs,post r bs/\WkS m st.bx (yU bs) zs π vs/\Xu zs st.bx π vs (NP st rs) r
def xP (P:Program)(n:Nat):List ResultVar->List qW->Bool
 |[],[]=>true
 |.tmp t::xs,.tmp s::ys=>t==s&&decide (t<n)&&xP P n xs ys
 |.cell a t::xs,.cell s agg k::ys=>a==s&&decide (a<n)&&DF P t agg k&&xP P n xs ys
 |_,_=>false
section
variable {P:Program} {E:Env P} {I:IH} {ρ:Ren} {n:Nat} {st:eH} {a:Act} {w:World}
theorem Ym {agg:Bool}{k:Nat}{p:AV}{pv:Value}{bx:Nat->Box}(hp:GV I ρ pv p)(gI:(tJ agg k p bx).vc):∃q,pv = .pointer (some q):=by
 cases p with
 | one p=>
   cases p with
   |ptr b off=>obtain⟨k,cap,_,rfl⟩:=hp;exact⟨_,rfl⟩
   |ug b i sz off=>obtain⟨k,cap,_,rfl⟩:=hp;exact⟨_,rfl⟩
   |zQ cs=>obtain⟨q,rfl,_⟩:=hp;exact⟨_,rfl⟩
   |_=>exact gI.elim
 |_=>exact gI.elim
def JL (tmps:Array Value)(x:ResultVar):Sem Value:=match x with
 |ResultVar.tmp t=>pure (tmps.getD t undef)
 |ResultVar.cell b t=>do loadVar t (<- asAddr (tmps.getD b undef))
theorem CZ (fn:Func)(tmps:Array Value):results fn tmps=(do
 let vs <- fn.results.mapM (JL tmps)
 pure (if h:vs.size=1 then vs[0]else .tuple vs)):=by
 unfold results
 congr 1
theorem Tz (h:GX E I ρ n st a w):∀{xs:List ResultVar} {rs:List qW},xP P n xs rs=true->Au st rs ->
 ∃vs:List Value,(xs.mapM (JL a.tmps)).run P w = .ok vs w/\vs.length=rs.length/\∀(j:Nat) (v:Value) (r:qW),vs[j]? = some v->rs[j]? = some r->GV I ρ v (r.val st)
 |[],[],_,_=>⟨[],kY,rfl,λj v r hv=>by simp at hv⟩
 | x::xs,r::rs,hc,hok=>by
   obtain⟨h1,h2,h3⟩:=hok;have key:∃v,(JL a.tmps x).run P w = .ok v w/\GV I ρ v (r.val st)/\xP P n xs rs=true:=by
    cases x with
    | tmp t=>
      cases r with
      | tmp s=>
        simp only[xP,af,aK,ak]at hc;obtain⟨⟨rfl,hlt⟩,hc⟩:=hc;have ht:=h.tm t hlt;simp only[qW.ok]at h1;refine⟨a.tmps.getD t undef,rfl,?_,hc⟩;simp only[qW.val];cases hs:st.tm t with
        |none=>rw[hs]at h1;cases h1
        |v g x=>rw[hs]at h1 ht;exact ht.1 h1
      |cell s agg k=>simp[xP]at hc
    | cell b t=>
      cases r with
      |tmp s=>simp[xP]at hc
      | cell s agg k=>
        simp only[xP,af,aK,ak]at hc;obtain⟨⟨⟨rfl,hlt⟩,hty⟩,hc⟩:=hc;have ht:=h.tm b hlt;obtain⟨hg,gI⟩:=h1;have hv:GV I ρ (a.tmps.getD b undef) (st.tm b).x:=by
         cases hs:st.tm b with
         |none=>rw[hs]at hg;cases hg
         |v g x=>rw[hs]at hg ht;exact ht.1 hg
        obtain⟨q,hq⟩:=Ym hv gI;obtain⟨v,hrun,hgv⟩:=Ov (P:=P) h hty hv gI;refine⟨v,?_,hgv,hc⟩;unfold JL;simp only[hq]at hrun⊢;simpa[kN,iw,asAddr]using hrun
   obtain⟨v,hv,hg,hc'⟩:=key;obtain⟨vs,hvs,hl,hgs⟩:=Tz h hc' h3;refine⟨v::vs,?_,by simp[hl],λj u r' hu hr=>?_⟩
   ·rw[vC];simp[hv,hvs]
   ·cases j with
    |zero=>simp at hu hr;subst hu;subst hr;exact hg
    |succ j=>exact hgs j u r' (by simpa using hu) (by simpa using hr)
 |[],_::_,hc,_=>by simp[xP]at hc
 |x::_,[],hc,_=>by cases x<;>simp[xP]at hc
end
def Nk (Γ : List OF):qW->Nat->Nat->Option Nat
 |.tmp t,o,T=>Xp Γ t o T
 | .cell t agg k,o,T=>match(Γ.filterMap (VR t)).head? with
   |some (b,o0)=>if o<(if agg then k else 1)then Nl Γ b (o0+o) T else none
   |none=>none
def Ci (ps:List PK):List (Nat×List (Nat×Nat)):=(ps.zipIdx).filterMap λp=>match p.1 with
 |.var rs=>some (p.2,rs)
 |_=>none
def agL (Γ : List OF)(l:List (List (Nat×Nat)))(rs:List qW):Option (List (Nat×Nat)):=(Il (λp:List (Nat×Nat)×Nat=>match rs[p.2]? with
 |some x=>Il (λe:Nat×Nat=>(Nk Γ x e.1 e.2).map λm=>(m,20000+p.2*20+e.1)) p.1
 |none=>none) l.zipIdx).map zJ
def ae6 (Γ : List OF)(l:List (List (Nat×Nat)))(rs:List qW):Option (List (Nat×Nat)):=match l,rs with
 |[r],[x]=>Il (λe:Nat×Nat=>(Nk Γ x e.1 e.2).map λm=>(m,20000+e.1)) r
 |l,rs=>agL Γ l rs
def ad1 (Γ : List OF)(sg:QV)(rs:List qW):Option (List (Nat×Nat)):=
 match ae6 Γ sg.rs rs,(Il (λp:Nat×List (Nat×Nat)=>if Γ.contains (.vp p.1 p.1 0)then Il (λe:Nat×Nat=>(Nl Γ p.1 e.1 e.2).map λm=>(m,30000+p.1*20+e.1)) p.2 else none) (Ci sg.ps)).map zJ with
 |some a,some b=>if Am ((a++b).map (·.1))&&decide ((Ci sg.ps).length<=1)&&(sg.rs.length==rs.length)then some (a++b)else none
 |_,_=>none
def rkO (sg:QV)(rs:List qW)(Γ : List OF):Bool:=(ad1 Γ sg rs).isSome
section
variable {P:Program} {g:Own} {dp:Nat} {Γ : List OF} {a:Act} {w w':World} {v:Value}
theorem Su {f:ResultVar->Sem Value}(hf:∀x w r w',(f x).run P w = .ok r w'->w'=w):∀{xs:List ResultVar} {ws:List Value} {w w':World},(xs.mapM f).run P w = .ok ws w'->ws.length=xs.length/\w'=w/\∀(j:Nat) (x:ResultVar),xs[j]? = some x->∃y,ws[j]? = some y/\(f x).run P w = .ok y w
 | [],ws,w,w',h=>by rw[List.mapM_nil]at h;obtain⟨rfl,rfl⟩:=eY h;exact⟨rfl,rfl,λj x hx=>by simp at hx⟩
 | x::xs,ws,w,w',h=>by
   rw[vC]at h;obtain⟨y,w1,h1,h2⟩:=bM h;have:=hf _ _ _ _ h1;subst this;obtain⟨ys,w2,h3,h4⟩:=bM h2;obtain⟨rfl,rfl⟩:=eY h4;obtain⟨h5,rfl,h6⟩:=Su hf h3;refine⟨by simp[h5],rfl,λj z hz=>?_⟩;cases j with
   |zero=>simp at hz;subst hz;exact⟨y,rfl,h1⟩
   |succ j=>simpa using h6 j z (by simpa using hz)
theorem VB {tmps:Array Value}(x:ResultVar)(w:World)(r:Value)(w':World)(h:(JL tmps x).run P w = .ok r w'):w'=w:=by
 unfold JL at h;split at h
 ·exact(eY h).2
 ·obtain⟨p,w1,h1,h2⟩:=bM h;have:w1=w:=by
   unfold asAddr at h1;split at h1
   ·exact(eY h1).2
   ·exact(Ej h1).elim
   ·cases h1
  subst this;exact(Eh h2).1
theorem res_own {n:Nat}(h:OW P FV g dp Γ a w){fn:Func}(hr:(results fn a.tmps).run P w = .ok v w'){rs:List qW}(hc:xP P n fn.results.toList rs=true) :
 w'=w/\∃ws:List Value,ws.length=rs.length/\((∃y,ws=[y]/\v=y)\/ws.length≠1/\v = .tuple ws.toArray) /\
  ∀(j:Nat) (x:qW) (o T m:Nat),rs[j]? = some x->Nk Γ x o T=some m->∃y u:Value,ws[j]? = some y/\y.cells[o]? = some u/\GR g u T (.tag dp m):=by
 rw[CZ]at hr;obtain⟨vs,w1,h1,h2⟩:=bM hr;rw[oZ,yH]at h1;cases hq:(fn.results.toList.mapM (JL a.tmps)).run P w with
 |halt e w2=>rw[hq]at h1;cases h1
 | ok ws w2=>
   rw[hq]at h1;simp only[aO]at h1;cases h1;obtain⟨h3,rfl,h4⟩:=Su VB hq;have hlen:∀{xs:List ResultVar} {rs:List qW},xP P n xs rs=true->xs.length=rs.length:=by
    intro xs
    induction xs with
    |nil=>intro rs h;cases rs<;>simp[xP]at h⊢
    | cons x xs ih=>
      intro rs h;cases rs with
      |nil=>cases x<;>simp[xP]at h
      | cons r rs=>cases x<;>cases r<;>simp only[xP,af]at h<;>first|(simp[ih h.2];done)|cases h
   have hget:∀{xs:List ResultVar} {rs:List qW} {j:Nat} {r:qW},xP P n xs rs=true->rs[j]? = some r->∃x,xs[j]? = some x/\(match x,r with
    |.tmp t,.tmp s=>t=s
    |.cell b t,.cell s agg k=>b=s/\DF P t agg k=true
    |_,_=>False):=by
    intro xs
    induction xs with
    |nil=>intro rs j r h hr;cases rs<;>simp[xP]at h hr
    | cons x xs ih=>
      intro rs j r h hr;cases rs with
      |nil=>simp at hr
      | cons r0 rs=>
        cases j with
        | zero=>simp at hr;subst hr;refine⟨x,rfl,?_⟩;cases x<;>cases r0<;>simp only[xP,af,aK]at h<;>first|exact h.1.1|exact⟨h.1.1.1,h.1.2⟩|cases h
        | succ j=>
          have:xP P n xs rs=true:=by cases x<;>cases r0<;>simp only[xP,af]at h<;>first|exact h.2|cases h
          simpa using ih this (by simpa using hr)
   obtain⟨hv,rfl⟩:=eY h2;refine⟨rfl,ws,h3.trans (hlen hc),?_,λj x o T m hj hm=>?_⟩
   ·by_cases h1':ws.length=1
    ·match ws,h1' with
     |[y],_=>exact .inl ⟨y,rfl,by simpa using hv⟩
    ·exact .inr ⟨h1',by rw[hv,dif_neg (by simpa using h1')]⟩
   ·obtain⟨rv,hrv,IJ⟩:=hget hc hj;obtain⟨y,hy,hrun⟩:=h4 j rv hrv;refine⟨y,?_⟩;cases x with
    | tmp t=>
      cases rv with
      |cell _ _=>exact IJ.elim
      | tmp s=>simp only at IJ;subst IJ;simp only[Nk]at hm;obtain⟨u,hu,hg⟩:=Nj h hm;unfold JL at hrun;have hyv:=(eY hrun).1;subst hyv;exact⟨u,hy,hu,hg⟩
    | cell t agg k=>
      cases rv with
      |tmp _=>exact IJ.elim
      | cell s ty=>
        simp only at IJ;obtain⟨rfl,hty⟩:=IJ;unfold Nk at hm
        dsimp only at hm
        split at hm
        ·rename_i b o0 hvp;by_cases hlt:o<(if agg then k else 1)
         ·rw[aF hlt]at hm;have hmm:=jO hvp;rw[bK]at hmm;obtain⟨f0,hf0,hmm⟩:=hmm;unfold VR at hmm;split at hmm
          ·split at hmm
           ·rename_i e1;subst e1;cases hmm;obtain⟨kk,row,e2,e3,e4⟩:=h.fs _ hf0;obtain⟨Zl,row',e5,e6,e7⟩:=Je h hm;rw[e2]at e5;cases e5;obtain⟨cs,e,hw,hrow⟩:=h.good.var _ _ _ _ e6;obtain⟨u,hu,hg⟩:=hrow _ e7
            dsimp only at hu hg
            unfold JL at hrun;obtain⟨p,w3,h5,h6⟩:=bM hrun;rw[e3]at h5;unfold asAddr at h5;obtain⟨rfl,rfl⟩:=eY h5;have hc':∀j',o0+j'=o0+o->w3.cell? ((⟨kk,o0,none⟩:Addr).add j')=some u:=λj' e8=>by rw[Addr.mD,e8];simp[dY,hw,hu]
            refine⟨u,hy,?_,hg⟩;unfold DF at hty;obtain⟨_,hld⟩:=Eh h6;rcases hld with⟨de,i,h7,h8,h9,h10⟩|⟨de,h7,h8,h9⟩
            ·rw[h7,h9]at hty;simp only[af,aK]at hty;rw[h8]at hty;obtain⟨rfl,rfl⟩:=hty;exact h10 o u (by simpa using hlt) (hc' o rfl)
            ·have hagg:agg=false:=by
              split at hty
              ·rename_i d' i' hd' hi';rw[h7]at hd';cases hd';simp only[af,aK]at hty;rw[<- hty.1,h8]
              ·cases hty
             subst hagg;have ho:o=0:=(by simpa using hlt);subst ho;have:=h9 u (by have:=hc' 0 rfl;rwa[Addr.add_zero]at this);subst this;have hsl:∃b n c,y = .slice b n c:=(by rcases hg with e|⟨k,n,c,e,_⟩<;>exact⟨_,_,_,e⟩);rw[Es hsl];rfl
           ·cases hmm
          ·cases hmm
         ·rw[aj hlt]at hm;cases hm
        ·cases hm
theorem Sz {α β:Type}{f:α->Option (List β)}{l:List α}{ys:List β}(h:(Il f l).map zJ=some ys){x:α}(hx:x∈l):∃y,f x=some y/\∀e,e∈y->e∈ys:=by simp only[aU]at h;obtain⟨l',h1,rfl⟩:=h;obtain⟨y,h2,h3⟩:=xR h1 x hx;exact⟨y,h2,λe he=>List.mem_flatten.2 ⟨y,h3,he⟩⟩
theorem Xi {n N:Nat}(h:OW P FV g dp Γ a w){fn:Func}(hr:(results fn a.tmps).run P w = .ok v w'){rs:List qW}(hc:xP P n fn.results.toList rs=true){sg:QV}(hk:rkO sg rs Γ = true){vs:List Value}(hl:vs.length=sg.ps.length)
 (hpa:∀i r,(i,r)∈Ci sg.ps->a.tmps.getD i undef=vs.getD i undef):∃g',Rel dp N g g'/\OW P FV g' dp (MF sg vs.length) { tmps:=(vs++[v]).toArray,defers:=[] } w':=by
 obtain⟨rfl,ws,hw1,hw2,hres⟩:=res_own h hr hc;unfold rkO at hk;rw[jB]at hk;obtain⟨mv,hmv⟩:=hk;unfold ad1 at hmv;split at hmv
 ·rename_i A B hA hB;split at hmv
  ·rename_i hcond;cases hmv;simp only[af,ak,aK]at hcond;obtain⟨⟨hnd,hone⟩,hlen⟩:=hcond;have hn:=Ap hnd
   let mvL:List (Nat×rC):=(A++B).map λe=>(e.1,.tag dp e.2)
   have hkeys:mvL.map (·.1)=(A++B).map (·.1):=(by simp[mvL,Function.comp_def]);have hmov:∀{u:Value} {T m t:Nat},GR g u T (.tag dp m)->(m,t)∈A++B->GR (g.mv dp mvL) u T (.tag dp t):=λhg hm=>hg.mv (zV (by rw[hkeys];exact hn) (aG.2 ⟨_,hm,rfl⟩));have hv:((vs++[v]).toArray).getD vs.length undef=v:=by rw[dm,jY];simp
   have hrf:∀{g2:Own},(∀{u:Value} {T:Nat} {p:rC},GR (g.mv dp mvL) u T p->GR g2 u T p)->∀f,f∈Vt sg vs.length->xq P FV g2 dp { tmps:=(vs++[v]).toArray,defers:=[] } w' f:=by
    intro g2 hg2 f hf;by_cases hsg:∃r,sg.rs=[r]
    ·obtain⟨r,hsr⟩:=hsg;obtain⟨x,rfl⟩:∃x,rs=[x]:=by
      rw[hsr]at hlen
      match rs,hlen with
      |[x],_=>exact⟨x,rfl⟩
     rw[Vt,hsr]at hf;rw[hsr]at hA;simp only[ae6]at hA;simp only at hf;rw[aG]at hf;obtain⟨e,he,rfl⟩:=hf;obtain⟨y,hy,hyl⟩:=xR hA e he;simp only[aU]at hy;obtain⟨m,hm,rfl⟩:=hy;obtain⟨z,u,h1,h2,h3⟩:=hres 0 x e.1 e.2 m rfl hm;refine⟨u,?_,hg2 (hmov h3 (bF _ hyl))⟩;rw[hv];rcases hw2 with⟨y',e1,e2⟩|⟨e1,_⟩
     ·subst e1;simp at h1;subst h1;rw[e2];exact h2
     ·rw[hw1]at e1;simp at e1
    ·have hA:agL Γ sg.rs rs=some A:=by
      unfold ae6 at hA;split at hA
      ·rename_i r x hr;exact dO ⟨r,hr⟩ hsg
      ·exact hA
     unfold Vt at hf;split at hf
     ·rename_i r hr;exact dO ⟨r,hr⟩ hsg
     ·rw[gX]at hf;obtain⟨q,hq,hf⟩:=hf;rw[aG]at hf;obtain⟨e,he,rfl⟩:=hf;obtain⟨y,hy,hyl⟩:=Sz hA hq;split at hy
      ·rename_i x hx;obtain⟨z,hz,hzl⟩:=xR hy e he;simp only[aU]at hz;obtain⟨m,hm,rfl⟩:=hz;obtain⟨z',u,h1,h2,h3⟩:=hres q.2 x e.1 e.2 m hx hm;have hws:ws.length≠1:=by
        rw[hw1,<- hlen];intro h5
        match hsr:sg.rs,h5 with
        |[r],_=>exact hsg ⟨r,hsr⟩
       rcases hw2 with⟨y',e1,e2⟩|⟨_,e2⟩
       ·rw[e1]at hws;simp at hws
       ·refine⟨ws.toArray,z',u,by rw[hv,e2],by simpa using h1,h2,hg2 (hmov h3 (bF _ (hyl _ hzl)))⟩
      ·cases hy
   have hg1:=h.good.mv dp mvL;have hget:∀i,i<vs.length->((vs++[v]).toArray).getD i undef=vs.getD i undef:=λi hi=>(by rw[dm,jY,aX hi,aY]);have hidx:∀i r,(i,r)∈Ci sg.ps<->sg.ps[i]? = some (.var r):=λi r=>by
    unfold Ci;rw[bK];constructor
    ·rintro⟨⟨p,j⟩,h1,h2⟩;have h1:=kP.1 h1;simp only at h1 h2;cases p<;>simp at h2;obtain⟨rfl,rfl⟩:=h2;simpa using h1
    ·intro h1;exact⟨(.var r,i),kP.2 (by simpa using h1),rfl⟩
   have hvar:∀f,f∈YE sg->∃i r,(i,r)∈Ci sg.ps/\(f = .vp i i 0\/∃e,e∈r/\f = .row i ⟨e.1,e.2,30000+i*20+e.1⟩):=by
    intro f hf;rw[YE,gX]at hf;obtain⟨⟨p,i⟩,h1,h2⟩:=hf;have h1:=kP.1 h1;simp only at h1 h2;cases p with
    | var r=>
      simp only[au,aG]at h2;refine⟨i,r,(hidx i r).2 (by simpa using h1),?_⟩;rcases h2 with rfl|⟨e,he,rfl⟩
      ·exact .inl rfl
      ·exact .inr ⟨e,he,rfl⟩
    |_=>simp at h2
   match hvi:Ci sg.ps,hone with
   | [],_=>
     refine⟨g.mv dp mvL,Rel.mv _ _,hg1,λf hf=>?_⟩;rw[MF,bg]at hf;rcases hf with hf|hf
     ·exact hrf (λh=>h) f hf
     ·obtain⟨i,r,h1,_⟩:=hvar f hf;rw[hvi]at h1;cases h1
   | [(i,r)],_=>
     obtain⟨y,hy,hyl⟩:=Sz hB (show(i,r)∈Ci sg.ps by rw[hvi];exact aJ ..);split at hy
     ·rename_i hcon;obtain⟨k,row,e1,_,e3⟩:=h.fs _ (eF.1 hcon)
      dsimp only at e1 e3
      obtain⟨agN,hk1⟩:=Vm (mv:=mvL) (dp:=dp) e3;have hpi:=(hidx i r).1 (by rw[hvi];exact aJ ..);have hil:i<vs.length:=(by rw[hl];exact(ay.1 hpi).1);have hti:((vs++[v]).toArray).getD i undef = .pointer (some ⟨k,0,none⟩):=by rw[hget i hil,<- hpa i r (by rw[hvi];exact aJ ..)];exact e1
      have hgood:Good P ((g.mv dp mvL).upd k (.var (r.map λe=>⟨e.1,e.2,30000+i*20+e.1⟩) dp i)) w':=by refine hg1.Du hk1 λcs e hw rr hrr=>?_;rw[aG]at hrr;obtain⟨q,hq,rfl⟩:=hrr;obtain⟨z,hz,hzl⟩:=xR hy q hq;simp only[aU]at hz;obtain⟨m,hm,rfl⟩:=hz;obtain⟨k',row',e4,e5,e6⟩:=Je h hm;rw[e1]at e4;cases e4;obtain⟨cs',e',hw',hrow⟩:=h.good.var _ _ _ _ e5;rw[hw]at hw';cases hw';obtain⟨u,hu,hg⟩:=hrow _ e6;exact⟨u,hu,hmov hg (cu _ (hyl _ hzl))⟩
      refine⟨_,(Rel.mv N mvL).trans (Rel.Du hk1 (aA _)),hgood,λf hf=>?_⟩;rw[MF,bg]at hf;rcases hf with hf|hf
      ·exact hrf (λh=>h.EZ hk1) f hf
      ·obtain⟨i',r',h1,h2⟩:=hvar f hf;rw[hvi]at h1;simp only[au,fF,or_false,cZ]at h1;obtain⟨rfl,rfl⟩:=h1;rcases h2 with rfl|⟨e,he,rfl⟩
       ·exact⟨k,_,hti,hti,aF rfl⟩
       ·exact⟨k,_,hti,aF rfl,aG.2 ⟨e,he,rfl⟩⟩
     ·cases hy
   |_::_::_,hone=>simp at hone
  ·cases hmv
 ·cases hmv
end
section
variable {P:Program} {E:Env P} {I:IH} {ρ:Ren} {n:Nat} {st:eH} {a:Act} {w:World}
def FZ : List AV->Nat->List (Nat×Slot)
 |[],_=>[]
 |x::xs,i=>(i,.v true x)::FZ xs (i+1)
def xW : List Box->Nat->List (Nat×Box)
 |[],_=>[]
 |x::xs,i=>(i,x)::xW xs (i+1)
theorem Jp : ∀{xs:List AV} {i t:Nat},uF (FZ xs i) t=if i<=t then(match xs[t-i]? with|some x=>.v true x|none=>.none)else .none
 |[],i,t=>by simp[FZ,uF]
 | x::xs,i,t=>by
   simp only[FZ,uF];by_cases h:i=t
   ·subst h;simp
   ·rw[aj h,Jp (xs:=xs)];by_cases h':i<=t
    ·have e:t-i=(t-(i+1))+1:=(by omega);rw[aF h',aF aQ,e];simp
    ·rw[aj h',aj aQ]
theorem Ei : ∀{xs:List Box} {i t:Nat},l9 (xW xs i) t=if i<=t then xs.getD (t-i) .absent else .absent
 |[],i,t=>by simp[xW,l9]
 | x::xs,i,t=>by
   simp only[xW,l9];by_cases h:i=t
   ·subst h;simp
   ·rw[aj h,Ei (xs:=xs)];by_cases h':i<=t
    ·have e:t-i=(t-(i+1))+1:=(by omega);rw[aF h',aF aQ,e];simp
    ·rw[aj h',aj aQ]
def st0 (args:List AV)(fp:List Box):eH:=eH.of (FZ args 0) (xW fp 0)
theorem abE (args:List AV)(fp:List Box):(st0 args fp).bx=yU fp:=by
 funext b
 unfold st0;rw[xG,Ei];simp[yU]
def QF (rs:List qW)(m:Nat)(post:AV->List Box->Prop):AQ
 |.normal,st=>BF rs m post st
 |.ret,st=>BF rs m post st
 |.exit _,_=>False
def ae0 (P:Program)(c:Code)(ac:eG)(rs:List qW)(sg:QV):Bool:=match oC P ((Ci sg.ps).map (·.1)) (rkO sg rs) c ac (NL sg.ps)with
 |some (some Γ,_)=>rkO sg rs Γ
 |some (none,_)=>true
 |none=>false
def lvK (sg:QV):Bool:=match sg.ps with
 |.var []::r=>r.all (· == .any)&&sg.rs.all List.isEmpty
 |_=>false
def lvB (f:FuncId):Bool:=match kindOf f with
 |.ow sg=>lvK sg
 |_=>false
def aci (f:FuncId)(args:List AV)(m:Nat)(post:AV->List Box->Prop):Prop:=lvB f=true->m=1->args.head? = some (.one (.ptr 0 0))/\∀r bs,post r bs->∃cs,bs.head? = some (.var cs)
theorem agx {f:FuncId}{args:List AV}{m:Nat}{post:AV->List Box->Prop}(h:lvB f=false):aci f args m post:=λe=>by rw[h]at e;cases e
theorem ac5 {f:FuncId}{args:List AV}{post:AV->List Box->Prop} : aci f args 0 post:=λ_ e=>by cases e
theorem aeO {f:FuncId}{args:List AV}{m:Nat}{post:AV->List Box->Prop}(h:args.head? = some (.one (.ptr 0 0)))(k:∀r bs,post r bs->∃cs,bs.head? = some (.var cs)):aci f args m post:=λ_ _=>⟨h,k⟩
def aaE (P:Program)(f:FuncId)(c:Code)(ac:eG)(rs:List qW)(k m:Nat):Bool:=match kindOf f with
 |.none=>true
 |.rd=>m==0
 |.ow sg=>(lvK sg&&m==1||ae0 P c ac rs sg)&&k==sg.ps.length
def nI (P:Program)(f:FuncId)(k m:Nat)(ac:eG)(rs:List qW):Bool:=
 match P.funcs[f]? with
 | some fn=>match fn.body with
   |some c=>decide (k<=fn.ntmps)&&decide (m<=10)&&oG P fn.ntmps m c ac&&xP P fn.ntmps fn.results.toList rs&&aaE P f c ac rs k m
   |none=>false
 |none=>false
theorem IE {fn:Func}{args:List AV}{fp:List Box}{I:IH}{ρ:Ren}{w:World}{vs:List Value}(hk:args.length<=fn.ntmps)(hT:Tabs P I)(hA:Agree I w)(hB:BX I ρ w (yU fp))(hV:NF I ρ vs args) :
 GX (⟨w,I,λk=>∃b,(yU fp b).uses (ρ b) k,ρ,fp.length,hT⟩:Env P) I ρ fn.ntmps (st0 args fp) { tmps:=vs.toArray++o5 (fn.ntmps-vs.toArray.size) undef,defers:=[] } w:=by
 have hlen:vs.length=args.length:=hV.1;refine{ agree:=hA,bx:=by rw[abE];exact hB,tm:=λt ht=>?_,size:=by simp;omega,defers:=rfl,ve:=wZ.refl _ _,own:=λb k hu=>?_,Ec:=IH.le_refl _,Aj:=λk _ _=>rfl,ru:=λb _=>rfl }
 ·unfold st0;rw[BV,Jp];simp only[Nat.zero_le,iT,zL];cases hx:args[t]? with
  |none=>trivial
  | some x=>
    have hlt:=(ay.1 hx).1;have hvt:vs[t]? = some vs[t]:=ai aQ;refine⟨λ_=>?_,λe=>by cases e⟩;have hg:=hV.2 t _ x hvt hx;have e:((vs.toArray++o5 (fn.ntmps-vs.toArray.size) undef).getD t undef)=vs[t]:=by rw[dm,Array.getElem?_append_left (by simp;omega)];simp[hvt]
    rw[e];exact hg
 ·right
  rw[abE]at hu;exact⟨b,hu⟩
theorem Wx {fn:Func}{rs:List qW}{fp:List Box}{post:AV->List Box->Prop}{I:IH}{ρ:Ren}{w:World}{hT:Tabs P I}(hcr:xP P fn.ntmps fn.results.toList rs=true) :
 ∀ {a:Act} {w':World},AK (⟨w,I,λk=>∃b,(yU fp b).uses (ρ b) k,ρ,fp.length,hT⟩:Env P) fn.ntmps (BF rs fp.length post) a w'->a.defers=[]/\∃v,(results fn a.tmps).run P w' = .ok v w'/\∃(v':Value) (J:IH) (σ:Ren) (r:AV) (bs:List Box),Ending.returned v = .returned v'/\post r bs/\GV J σ v' r/\Agree J w'/\BX J σ w' (yU bs) /\
   I.le J/\wZ w w' (λk=>∃b,(yU fp b).uses (ρ b) k) /\
   (∀b k,(yU bs b).uses (σ b) k->w.heap.size<=k\/∃b',(yU fp b').uses (ρ b') k) /\
   (∀k,k<w.heap.size->(¬ ∃b,(yU fp b).uses (ρ b) k)->J k=I k) /\
   (∀b,b<fp.length->σ b=ρ b):=by
 rintro a w' ⟨I',ρ',st,⟨hok,r,bs,zs,π,us,hp,hws,hwv⟩,hg⟩;obtain⟨ws,hrun,hl,hgs⟩:=Tz hg hcr hok;have hv:∃v,(results fn a.tmps).run P w' = .ok v w'/\GV I' ρ' v (NP st rs):=by
  have hrun':(fn.results.mapM (JL a.tmps)).run P w' = .ok ws.toArray w':=by rw[oZ];simp[hrun]
  rw[CZ];by_cases h1:∃r0,rs=[r0]
  ·obtain⟨r0,rfl⟩:=h1
   match ws,hl,hgs,hrun' with
   |[v0],_,hgs,hrun'=>exact⟨v0,by simp[hrun'],hgs 0 v0 r0 rfl rfl⟩
  ·have hne:ws.length≠1:=by
    intro h;rw[hl]at h
    match rs,h,h1 with
    |[r0],_,h1=>exact h1 ⟨r0,rfl⟩
   have hrv:NP st rs = .Bl (uj st rs):=by
    match rs,h1 with
    |[],_=>rfl
    |[r0],h1=>exact dO ⟨r0,rfl⟩ h1
    |_::_::_,_=>rfl
   refine⟨.tuple ws.toArray,by simp[hrun',hne],?_⟩;rw[hrv];have hparts:∀{rs:List qW},Au st rs->(uj st rs).length=rs.length/\∀(j:Nat) (p:Bool×List AC),(uj st rs)[j]? = some p->∃r,rs[j]? = some r/\p=partOf (r.val st)/\(r.val st).flat:=by
    intro rs
    induction rs with
    |nil=>intro _;exact⟨rfl,λj p hp=>by simp[uj]at hp⟩
    | cons r0 rs ih=>
      rintro⟨_,h2,h3⟩;obtain⟨j1,j2⟩:=ih h3;refine⟨by simp[uj,j1],λj p hp=>?_⟩;cases j with
      |zero=>simp[uj]at hp;exact⟨r0,rfl,hp.symm,h2⟩
      |succ j=>obtain⟨r',hr',h'⟩:=j2 j p (by simpa[uj]using hp);exact⟨r',by simpa using hr',h'⟩
   obtain⟨p1,p2⟩:=hparts hok;refine⟨ws.toArray,rfl,by simp[hl,p1],λj v p hv hp=>?_⟩;obtain⟨r',hr',rfl,hfl⟩:=p2 j p hp;have hgv:=hgs j v r' (by simpa using hv) hr';unfold GP;cases hval:r'.val st with
   |one x=>rw[hval]at hgv;simp only[partOf];exact⟨x,rfl,hgv⟩
   |agg xs=>rw[hval]at hgv;simp only[partOf,iT];exact hgv
   |Bl q=>rw[hval]at hfl;exact hfl.elim
 obtain⟨v,hrv,hgv⟩:=hv;have hS:=O8 hg (aA _) hws;refine⟨hg.defers,v,hrv,v,_,_,r,bs,rfl,hp,ad8 hg hws.vir hgv hwv,hS.agree,hS.bx,hS.Ec,hS.ve,hS.own,hS.Aj,hS.ru⟩
theorem Yb {f:FuncId}{ac:eG}{rs:List qW}{args:List AV}{fp:List Box}{post:AV->List Box->Prop}(hc:nI P f args.length fp.length ac rs=true)
 (hwp:wpC P ac (QF rs fp.length post) (st0 args fp)) (hlv:aci f args fp.length post:=by first|exact aeO rfl (λ_ _ h=>by obtain⟨_,rfl⟩:=h;exact⟨_,rfl⟩)|exact agx (by kernel_rfl)):xm P f args fp post:=by
 unfold nI at hc;split at hc
 ·rename_i fn hf;split at hc
  ·rename_i c hb;simp only[Bool.and_eq_true,ak]at hc;obtain⟨⟨⟨⟨hk,hm⟩,hcc⟩,hcr⟩,hkn⟩:=hc;intro I ρ w vs hT hA hB hV X hX
   let E:Env P:=⟨w,I,λk=>∃b,(yU fp b).uses (ρ b) k,ρ,fp.length,hT⟩
   have hlen:vs.length=args.length:=hV.1;have hG:=IE (fn:=fn) hk hT hA hB hV;have key:=@Wx P fn rs fp post I ρ w hT hcr;cases hX with
   | QN=>
     refine calls_of_wp hf hb (wp_mono (qY (E:=E) hm hcc ⟨I,ρ,_,hwp,hG⟩) λe a w' hq=>?_);cases e with
     |normal=>obtain⟨h1,v,h2,h3⟩:=key hq;exact⟨h1,v,h2,h3,trivial⟩
     |ret=>obtain⟨h1,v,h2,h3⟩:=key hq;exact⟨h1,v,h2,h3,trivial⟩
     |exit id=>obtain⟨_,_,_,h,_⟩:=hq;exact h.elim
     |goto l=>exact hq.elim
     |panic ch=>exact hq.elim
     |outgrown=>exact hq.elim
   | rd hkd=>
     have hfp:fp=[]:=by unfold aaE at hkn;rw[hkd]at hkn;exact List.length_eq_zero_iff.1 (by simpa using hkn)
     refine calls_of_wp hf hb (wp_mono (qY (E:=E) hm hcc ⟨I,ρ,_,hwp,hG⟩) λe a w' hq=>?_);have fin:AK E fn.ntmps (BF rs fp.length post) a w'->_:=λhq=>key hq;cases e with
     | normal=>obtain⟨h1,v,h2,h3⟩:=key hq;have h3':=h3;obtain⟨_,_,_,_,_,_,_,_,_,_,_,hF,_⟩:=h3';exact⟨h1,v,h2,h3,hF.os,hF.tape,hF.output,hF.size,λk hk _=>hF.block k hk (by subst hfp;rintro⟨b,hb⟩;exact yV b k hb),hF.drawn⟩
     | ret=>obtain⟨h1,v,h2,h3⟩:=key hq;have h3':=h3;obtain⟨_,_,_,_,_,_,_,_,_,_,_,hF,_⟩:=h3';exact⟨h1,v,h2,h3,hF.os,hF.tape,hF.output,hF.size,λk hk _=>hF.block k hk (by subst hfp;rintro⟨b,hb⟩;exact yV b k hb),hF.drawn⟩
     |exit id=>obtain⟨_,_,_,h,_⟩:=hq;exact h.elim
     |goto l=>exact hq.elim
     |panic ch=>exact hq.elim
     |outgrown=>exact hq.elim
   | ow sg hkd hl g dp hin=>
     have hok:lvK sg=true/\fp.length=1\/ae0 P c ac rs sg=true:=by unfold aaE at hkn;rw[hkd]at hkn;simp only[Bool.and_eq_true,Bool.or_eq_true,aK]at hkn;exact hkn.1
     rcases hok with⟨hlk,hm1⟩|hok
     ·obtain⟨ha,hpost⟩:=hlv (by unfold lvB;rw[hkd];exact hlk) hm1;have fin:∀{a:Act} {w':World},AK E fn.ntmps (BF rs fp.length post) a w'->a.defers=[]/\∃v,(results fn a.tmps).run P w' = .ok v w'/\_/\∃v' g',Ending.returned v = .returned v'/\Rel dp w.heap.size g g'/\OW P FV g' dp (MF sg vs.length) { tmps:=(vs++[v']).toArray,defers:=[] } w':=λ{a w'} hq=>by
       obtain⟨h1,v,h2,h3⟩:=key hq;refine⟨h1,v,h2,h3,v,?_⟩;obtain⟨v',J,σ,r,bs,he,hp,_,_,hbx,_,hF,_,_,hσ⟩:=h3;obtain⟨ps,rs'⟩:=sg;unfold lvK at hlk;simp only at hlk hl hin;split at hlk
       ·rename_i r0;simp only[Bool.and_eq_true,List.all_eq_true]at hlk;have hvp:=hin.fs (.vp 0 0 0) (by rw[NL,List.mem_flatMap];exact⟨(.var [],0),by simp[List.zipIdx_cons],List.mem_cons_self ..⟩);obtain⟨k,row,hv0,_,hg0⟩:=hvp;obtain⟨x,xs,rfl⟩:∃x xs,args=x::xs:=by cases args with|nil=>cases ha|cons x xs=>exact⟨x,xs,rfl⟩
        cases ha;obtain⟨u,us,rfl⟩:∃u us,vs=u::us:=by cases vs with|nil=>simp at hlen|cons u us=>exact⟨u,us,rfl⟩
        obtain⟨k',cap,hρ,hu⟩:=hV.2 0 u _ rfl rfl;have hu':u = .pointer (some ⟨k,0,none⟩):=(by simpa using hv0);rw[hu']at hu;cases hu;obtain⟨cs,hcs⟩:=hpost r bs hp;have hb0:yU bs 0 = .var cs:=by
         cases bs with
         |nil=>cases hcs
         |cons b bs=>cases hcs;rfl
        have hok0:=hbx.ok 0;rw[hb0]at hok0;obtain⟨k2,cap2,cl,agp,hw0,_⟩:=hok0;rw[hσ 0 (by omega),hρ]at agp;cases agp;have hone:∀k'',(∃b,(yU fp b).uses (ρ b) k'')->k''=k:=by
         rintro k'' ⟨b,hb⟩;by_cases h0:b=0
         ·subst h0;rw[hρ]at hb;cases hx:yU fp 0 with
          |var _=>rw[hx]at hb;obtain⟨_,e⟩:=hb;cases e;rfl
          |dat _ _=>rw[hx]at hb;obtain⟨_,e,_⟩:=hb;cases e;rfl
          |row _ _=>rw[hx]at hb;obtain⟨_,e,_⟩:=hb;cases e;rfl
          |_=>rw[hx]at hb;exact hb.elim
         ·rw[KN (by omega)]at hb;exact hb.elim
        have keep:∀k'' B,g k''=some B->k''≠k->w'.heap[k'']? = w.heap[k'']?:= λk'' B hB hne=>hF.block k'' (hin.good.lt hB) λhx=>hne (hone k'' hx);refine⟨g.upd k (.var [] dp 0),rfl,Rel.Du hg0 (Nat.le_refl _),⟨λk'' T p hk=>?_,λk'' agM d'' b'' hk=>?_⟩,λf hf=>?_⟩
        ·have hne:k''≠k:=λe=>(by subst e;simp[qj]at hk);rw[qj,aj hne]at hk;obtain⟨cs',e',h4,h5⟩:=hin.good.arr k'' T p hk;exact⟨cs',e',by rw[keep _ _ hk hne];exact h4,λj u T' hb hu ht=>(h5 j u T' (by rwa[AA,aj hne]at hb) hu ht).EZ hg0⟩
        ·by_cases hkk:k''=k
         ·subst hkk;rw[qj,aF rfl]at hk;cases hk;exact⟨cl,cap,hw0,λr hr=>by cases hr⟩
         ·rw[qj,aj hkk]at hk;obtain⟨cs',e',h4,h5⟩:=hin.good.var k'' agM d'' b'' hk;exact⟨cs',e',by rw[keep _ _ hk hkk];exact h4,λr hr=>let ⟨u,hu,hgr⟩:=h5 r hr;⟨u,hu,hgr.EZ hg0⟩⟩
        ·have hfe:f = .vp 0 0 0:=by
          rw[MF,List.mem_append]at hf;rcases hf with hf|hf
          ·exfalso;have hrs:∀l,l∈rs'->l=[]:=λl hl=>List.isEmpty_iff.1 (hlk.2 l hl);unfold Vt at hf;split at hf
           ·rename_i rs0 agf;simp only at agf;rw[hrs rs0 (by rw[agf];exact List.mem_cons_self ..)]at hf;cases hf
           ·rw[List.mem_flatMap]at hf;obtain⟨q,hq,hf⟩:=hf;rw[List.mem_map]at hf;obtain⟨e,he,_⟩:=hf;have:=hrs q.1 (by
             have:=List.mem_zipIdx_iff_getElem?.1 hq;exact List.mem_of_getElem? this)
            rw[this]at he;cases he
          ·rw[YE,List.mem_flatMap]at hf;obtain⟨⟨p,i⟩,hq,hf⟩:=hf;have hq:=List.mem_zipIdx_iff_getElem?.1 hq;simp only at hq hf;cases i with
           |zero=>simp at hq;subst hq;simpa using hf
           | succ i=>have:p = .any:=(by simpa using hlk.1 p (List.mem_of_getElem? (by simpa using hq)));subst this;cases hf
         subst hfe;exact⟨k,[],by rw[hu'];rfl,by rw[hu'];rfl,by rw[qj,aF rfl]⟩
       ·cases hlk
      refine calls_of_wp hf hb (wp_mono (qY (E:=E) hm hcc ⟨I,ρ,_,hwp,hG⟩) λe a w' hq=>?_);cases e with
      |normal=>exact fin hq
      |ret=>exact fin hq
      |exit id=>obtain⟨_,_,_,h,_⟩:=hq;exact h.elim
      |goto l=>exact hq.elim
      |panic ch=>exact hq.elim
      |outgrown=>exact hq.elim
     unfold ae0 at hok;have hinit:OW P FV g dp (NL sg.ps) { tmps:=vs.toArray++Array.replicate (fn.ntmps-vs.toArray.size) undef,defers:=[] } w:=
      ⟨hin.good,λf hf=>(hin.fs f hf).put λt _=>by
       simp only[Array.getD_eq_getD_getElem?];by_cases ht:t<vs.toArray.size
       ·rw[Array.getElem?_append_left ht]
       ·have hnone:vs.toArray[t]? = none:=Array.getElem?_eq_none (by omega);rw[Array.getElem?_append_right (by omega),hnone];cases hq:(Array.replicate (fn.ntmps-vs.toArray.size) undef)[t-vs.toArray.size]? with
        |none=>rfl
        | some u=>have:=Array.getElem?_eq_some_iff.1 hq;obtain⟨h1,h2⟩:=this;rw[Array.getElem_replicate]at h2;rw[<- h2];rfl⟩
     let pa:List (Nat×Value):=(Ci sg.ps).map λe=>(e.1,vs.getD e.1 undef)
     have hpl:∀e,e∈pa->e.1∈(Ci sg.ps).map (·.1):=λe he=>by simp only[pa,List.mem_map]at he⊢;obtain⟨q,hq,rfl⟩:=he;exact⟨q,hq,rfl⟩
     have hPA:PA pa { tmps:=vs.toArray++Array.replicate (fn.ntmps-vs.toArray.size) undef,defers:=[] }:= λe he=>by
      simp only[pa,List.mem_map]at he;obtain⟨q,hq,rfl⟩:=he;have hqi:q.1<vs.length:=by rw[hl];unfold Ci at hq;rw[List.mem_filterMap]at hq;obtain⟨⟨p,i⟩,h1,h2⟩:=hq;have h1:=List.mem_zipIdx_iff_getElem?.1 h1;simp only at h1 h2;cases p<;>simp at h2;subst h2;exact(List.getElem?_eq_some_iff.1 h1).1
      simp only[Array.getD_eq_getD_getElem?,List.getD_eq_getElem?_getD];rw[Array.getElem?_append_left (by simpa using hqi)];simp
     cases hoc:oC P ((Ci sg.ps).map (·.1)) (rkO sg rs) c ac (NL sg.ps)with
     |none=>rw[hoc]at hok;cases hok
     | some r=>
       have ahQ:=pI (E:=E) (g0:=g) (dp:=dp) hm hpl hcc hoc ⟨⟨⟨I,ρ,_,hwp,hG⟩,g,Rel.refl _ _ _,hinit⟩,hPA⟩;refine calls_of_wp hf hb (wp_mono ahQ λe a w' hq=>?_);cases e with
       | normal=>
         obtain⟨Γ,h1,⟨hak,g1,hr1,how⟩,hpa⟩:=hq;have hrk:rkO sg rs Γ = true:=by rw[hoc]at hok;obtain⟨r1,r2⟩:=r;simp only at h1;subst h1;exact hok
         obtain⟨h1,v,h2,h3⟩:=key hak;obtain⟨g',hr2,aeF⟩:=Xi (N:=w.heap.size) how h2 hcr hrk hl (λi r hir=>hpa (i,vs.getD i undef) (List.mem_map.2 ⟨(i,r),hir,rfl⟩));exact⟨h1,v,h2,h3,v,g',rfl,hr1.trans hr2,aeF⟩
       | ret=>obtain⟨Γ,hrk,⟨hak,g1,hr1,how⟩,hpa⟩:=hq;obtain⟨h1,v,h2,h3⟩:=key hak;obtain⟨g',hr2,aeF⟩:=Xi (N:=w.heap.size) how h2 hcr hrk hl (λi r hir=>hpa (i,vs.getD i undef) (List.mem_map.2 ⟨(i,r),hir,rfl⟩));exact⟨h1,v,h2,h3,v,g',rfl,hr1.trans hr2,aeF⟩
       |exit id=>obtain⟨Γ,_,⟨⟨_,_,_,h,_⟩,_⟩,_⟩:=hq;exact h.elim
       |goto l=>exact hq.elim
       |panic ch=>exact hq.elim
       |outgrown=>exact hq.elim
  ·cases hc
 ·cases hc
end
end
def lits (l:List (List Value)):List (List Cell):=l.map λe=>e.map .lit
theorem aaI (l:List (List Value)):(lits l).length=l.length:=by simp[lits]
theorem lits_get (l:List (List Value))(i j:Nat):((lits l).getD i [])[j]? = ((l.getD i [])[j]?).map .lit:=by simp only[lits,aY,aP];cases l[i]? <;> simp
theorem acM {I:IH}{ρ:Ren}{w:World}{b sz:Nat}{es:List (List Cell)}(h:vG I ρ w b (.dat sz es)):∃ls:List (List Value),ls.length=es.length/\(∀e,e∈ls->e.length=sz)/\vG I ρ w b (.dat sz (lits ls)) /\
 ∀(i j:Nat) (c:Cell),(es.getD i [])[j]? = some c->∃u,(ls.getD i [])[j]? = some u/\Rd I u c:=by
 obtain⟨k,cap,h1,h2,h3,h4,h5⟩:=h;by_cases hc:cap=0
 ·have:es=[]:=qp.1 aQ;subst this;refine⟨[],rfl,(λe he=>by cases he),⟨k,cap,h1,by simp[lits],h3,(λe he=>by cases he),λh=>dO hc h⟩,(λi j c hx=>by simp at hx)⟩
 ·obtain⟨cs,e,hw,hs,h1c,hcell⟩:=h5 hc
  let ls:List (List Value):=(lG es.length).map λi=>(lG sz).map λj=>(cs[i*sz+j]?).getD undef
  have hget:∀i j,(ls.getD i [])[j]? = if i<es.length/\j<sz then some ((cs[i*sz+j]?).getD undef)else none:=by
   intro i j;simp only[ls,aY,aP];by_cases hi:i<es.length
   ·rw[o8 hi];simp only[iZ,jV,aP];by_cases hj:j<sz
    ·rw[o8 hj];simp[hi,hj]
    ·rw[iq (l:=lG sz) (by simpa using hj)];simp[hj]
   ·rw[iq (l:=lG es.length) (by simpa using hi)];simp[hi]
  have hin:∀i j,i<es.length->j<sz->∃u,cs[i*sz+j]? = some u:=λi j hi hj=>by
   have:i*sz+j<cs.size:=by
    rw[hs]
    calc i*sz+j<i*sz+sz:=by omega
     _=(i+1)*sz:=by rw[bJ,xC]
     _<=cap*sz:=aH _ aQ
   exact⟨_,iE this⟩
  refine⟨ls,by simp[ls],λe he=>?_,⟨k,cap,h1,by rw[aaI];simpa[ls]using h2,h3,λe he=>?_,λ_=>⟨cs,e,hw,hs,h1c,λi j c hc=>?_⟩⟩,λi j c hc=>?_⟩
  ·simp only[ls,aG]at he;obtain⟨i,_,rfl⟩:=he;simp
  ·simp only[lits,ls,aG]at he;obtain⟨_,⟨i,_,rfl⟩,rfl⟩:=he;simp
  ·rw[lits_get,hget]at hc;split at hc
   ·rename_i hij;obtain⟨u,hu⟩:=hin i j hij.1 hij.2;rw[hu]at hc;simp only[jV,iZ,aI]at hc;subst hc;exact⟨u,hu,.lit u (h1c _ _ hu)⟩
   ·cases hc
  ·obtain⟨u,hu,hr⟩:=hcell i j c hc;have hi:i<es.length:=by
    rcases zK i es.length with h|h
    ·exact h
    ·rw[aY,iq h]at hc;simp at hc
   have hj:j<sz:=by
    have h6:=(ay.1 hc).1;rw[aY,ai hi]at h6;simp only[jV]at h6
    rwa[h4 _ (dB hi)]at h6
   exact⟨u,by rw[hget,aF ⟨hi,hj⟩,hu];rfl,hr⟩
theorem Ak {q r sz:Nat}(h:r<sz):(q*sz+r)%sz=r:=by rw[pG,oM,oK h]
section
inductive Under (g:Own)(q:rC):Nat->Prop
 |here {k T:Nat} (h:g.b k=some (.arr T q)):Under g q k
 |deep {k T x y:Nat} (h:g.b k=some (.arr T (.blk x y))) (hu:Under g q x):Under g q k
section
variable {g:Own}
theorem Under.trans {q:rC}{b x c:Nat}(h:Under g (.blk b x) c)(hb:Under g q b):Under g q c:=by
 induction h with
 |here h=>exact .deep h hb
 |deep h _ ih=>exact .deep h ih
theorem Under.abL {d m d' m' b:Nat}(h:Under g (.tag d m) b)(h':Under g (.tag d' m') b):d=d'/\m=m':=by
 induction h with
 | here h=>
   cases h' with
   |here h2=>rw[h]at h2;cases h2;exact⟨rfl,rfl⟩
   |deep h2 _=>rw[h]at h2;cases h2
 | deep h _ ih=>
   cases h' with
   |here h2=>rw[h]at h2;cases h2
   |deep h2 u2=>rw[h]at h2;cases h2;exact ih u2
theorem Under.irrefl {d m b:Nat}(h:Under g (.tag d m) b):∀x,¬Under g (.blk b x) b:=by
 induction h with
 | here h=>
   intro x hx;cases hx with
   |here h2=>rw[h]at h2;cases h2
   |deep h2 _=>rw[h]at h2;cases h2
 | deep h _ ih=>
   intro x hx;cases hx with
   | here h2=>rw[h]at h2;cases h2;exact ih _ (.here h)
   | deep h2 u2=>rw[h]at h2;cases h2;exact ih _ (u2.trans (.here h))
theorem Under.abg {d m k x y b:Nat}(hk:Under g (.tag d m) k)(h:Under g (.blk k x) b)(h':Under g (.blk k y) b):x=y:=by
 induction h with
 | here h=>
   cases h' with
   |here h2=>rw[h]at h2;cases h2;rfl
   |deep h2 u2=>rw[h]at h2;cases h2;exact dO u2 (hk.irrefl _)
 | deep h u ih=>
   cases h' with
   |here h2=>rw[h]at h2;cases h2;exact dO u (hk.irrefl _)
   |deep h2 u2=>rw[h]at h2;cases h2;exact ih u2
theorem Under.owned {q:rC}{b:Nat}(h:Under g q b):∃T p,g b=some (.arr T p):=by
 cases h with
 |here h=>exact⟨_,_,h⟩
 |deep h _=>exact⟨_,_,h⟩
end
def Fv (g:Own)(q:rC):Prop:=(∃d m,q = .tag d m)\/∃k j d m,q = .blk k j/\Under g (.tag d m) k
theorem Fv.under {g:Own}{q:rC}(h:Fv g q){k:Nat}(hk:Under g q k):∃d m,Under g (.tag d m) k:=by
 rcases h with⟨d,m,rfl⟩|⟨k',j,d,m,rfl,hu⟩
 ·exact⟨d,m,hk⟩
 ·exact⟨d,m,hk.trans hu⟩
inductive Gh (P:Program):Nat->Cell->Prop
 | sl (T sz:Nat) (es:List (List Cell)) (t:Nat->Nat) (hs:oD P T=sz) (h1:∀i j sz' es',(es.getD i [])[j]? = some (.sl sz' es')->(j,t j)∈kD P T)
   (h2:∀i j sz' es',(es.getD i [])[j]? = some (.sl sz' es')->Gh P (t j) (.sl sz' es')):Gh P T (.sl sz es)
theorem UC {I J:IH}{a:Addr}(h:J a.block=I a.block):J.cell a=I.cell a:=by unfold IH.cell;rw[h]
theorem Rd.G8 {I J:IH}{v x:Value}(h:Rd I x (.lit v)):Rd J x (.lit v):=by cases h with|lit _ hv=>exact .lit _ hv
theorem Rd.H7 {I J:IH}{l:List UInt8}{x:Value}(h:Rd I x (.str l)):Rd J x (.str l):=by cases h with|str _ hl=>exact .str _ hl
section
variable {P:Program} {g:Own} {w:World} {I J J':IH}
theorem KP (hg:Good P g w)(hA:Agree J w){k n T sz i j:Nat}{q:rC}{u:Value}(hk:g.at k n T q)(hs:oD P T=sz)(hi:i<n)(hj:j<sz)(hc:J.cell ((⟨k,0,none⟩:Addr).add (i*sz+j))=some u){T':Nat}(ht:(j,T')∈kD P T) :
 GR g u T' (.blk k (i*sz+j)):=by
 obtain⟨cs,e,hw,hown⟩:=hg.arr _ _ _ hk.1;have hc':=hA.cell hc;rw[Addr.mD,dF]at hc';simp only[dY,hw]at hc';refine hown _ u T' ?_ (by simpa using hc') (by rw[hs,Ak hj];exact ht);rw[hs]
 calc i*sz+j<i*sz+sz:=by omega
  _=(i+1)*sz:=by rw[bJ,xC]
  _<=_:=aH _ (dh hi hk.2)
theorem aae {α:Type}{es:List (List α)}{i j sz:Nat}{c:α}(hs:∀e,e∈es->e.length=sz)(h:(es.getD i [])[j]? = some c):i<es.length/\j<sz:=by
 have hi:i<es.length:=by
  rcases zK i es.length with h'|h'
  ·exact h'
  ·rw[aY,iq h']at h;simp at h
 refine⟨hi,?_⟩;have h6:=(ay.1 h).1;rw[aY,ai hi]at h6;simp only[jV]at h6
 rwa[hs _ (dB hi)]at h6
theorem Rd.under (hg:Good P g w)(hA:Agree J w){v:Value}{c:Cell}(h:Rd J v c):∀{T:Nat} {q:rC},GR g v T q->Gh P T c->(∀b,Under g q b->J' b=J b)->Rd J' v c:=by
 induction h with
 |lit v hv=>intro _ _ _ _ _;exact .lit v hv
 |str l h=>intro _ _ _ _ _;exact .str l h
 | sl a len cap sz es u hlen hcap hmax hsz ha hcell hr ih=>
   intro T q hgr hty hJ;cases hty with
   |sl _ _ _ t hs h1 h2=>
   rcases hgr with e|⟨k,n',c',e,hk⟩
   ·cases e;have:es=[]:=qp.1 hlen;subst this;exact .sl none 0 0 sz [] u hlen hcap hmax hsz ha (λad e=>by cases e) (λi j c hc=>by simp at hc)
   ·cases e;have hJk:=hJ k (.here hk.1);refine .sl _ _ _ sz es u hlen hcap hmax hsz ha (λad e i j hi hj=>?_) (λi j c hc=>?_)
    ·cases e;have h0:=hcell _ rfl i j hi hj;rw[Addr.mD]at h0⊢;rw[UC (J:=J') (I:=J) hJk];exact h0
    ·obtain⟨hi,hj⟩:=aae hsz hc;cases c with
     |lit v'=>exact(hr i j _ hc).G8
     |str l=>exact(hr i j _ hc).H7
     | sl sz' es'=>exact ih i j _ hc (KP hg hA hk hs aQ hj (hcell _ rfl i j aQ hj) (h1 i j _ _ hc)) (h2 i j _ _ hc) (λb hb=>hJ b (hb.trans (.here hk.1)))
theorem Rd.upd (hg:Good P g w)(hA:Agree J w){k n cap T sz i j:Nat}{q:rC}{es:List (List Cell)}(hk:g.at k n T q)(hroot:Fv g q)(h:Rd J (.slice (some ⟨k,0,none⟩) n cap) (.sl sz es))(hty:Gh P T (.sl sz es))(hi:i<n)(hj:j<sz){u':Value}{c':Cell}
 (hcell:∀y,J'.cell ⟨k,y,none⟩=if y=i*sz+j then some u' else J.cell ⟨k,y,none⟩) (hother:∀y b,y≠i*sz+j->Under g (.blk k y) b->J' b=J b) (hc':Rd J' u' c') :
 Rd J' (.slice (some ⟨k,0,none⟩) n cap) (.sl sz (es.set i ((es.getD i []).set j c'))):=by
 cases h with
 |sl _ _ _ _ _ u hlen hcap hmax hsz ha hcl hr=>
 cases hty with
 |sl _ _ _ t hs h1 h2=>
 have inj:∀{i' j'},j'<sz->i'*sz+j'=i*sz+j->i'=i/\j'=j:=λ{i' j'} hj' e=>by
  have e1:(i'*sz+j')%sz=j':=Ak hj';have e2:(i*sz+j)%sz=j:=Ak hj;have e3:j'=j:=by rw[<- e1,<- e2,e]
  subst e3;have e4:i'*sz=i*sz:=by omega
  exact⟨Nat.eq_of_mul_eq_mul_right aQ e4,rfl⟩
 have hget:∀i' j',((es.set i ((es.getD i []).set j c')).getD i' [])[j']? = if i'=i/\j'=j then some c' else(es.getD i' [])[j']?:=by
  intro i' j';simp only[aY,lI];by_cases e:i=i'
  ·subst e;rw[aF rfl,aF aQ];simp only[jV,lI];by_cases e2:j=j'
   ·subst e2;have hl:j<(es[i]?.getD []).length:=(by rw[ai aQ,jV,hsz _ (dB _)];exact hj);rw[aF rfl,aF hl];simp
   ·rw[aj e2,aj (λh=>e2 h.2.symm)]
  ·rw[aj e,aj (λh=>e h.1.symm)]
 refine .sl _ _ _ sz _ (λi' j'=>if i'=i/\j'=j then u' else u i' j') (by simpa using hlen) hcap hmax (λe he=>?_) ha (λad e i' j' hi' hj'=>?_) (λi' j' c hc=>?_)
 ·rcases List.mem_or_eq_of_mem_set he with he|he
  ·exact hsz e he
  ·subst he;rw[List.length_set,aY,ai aQ,jV];exact hsz _ (dB _)
 ·cases e;have h0:=hcl _ rfl i' j' hi' hj';rw[Addr.mD,dF]at h0⊢;rw[hcell];by_cases e:i'=i/\j'=j
  ·obtain⟨rfl,rfl⟩:=e;simp
  ·rw[aj (λe2=>e (inj hj' e2)),h0];simp[e]
 ·rw[hget]at hc;by_cases e:i'=i/\j'=j
  ·rw[aF e]at hc;cases hc;simp only[aF e];exact hc'
  ·rw[aj e]at hc;simp only[aj e];obtain⟨hi',hj'⟩:=aae hsz hc;cases c with
   |lit v'=>exact(hr i' j' _ hc).G8
   |str l=>exact(hr i' j' _ hc).H7
   | sl sz' es'=>exact(hr i' j' _ hc).under hg hA (KP hg hA hk hs aQ hj' (hcl _ rfl i' j' aQ hj') (h1 i' j' _ _ hc)) (h2 i' j' _ _ hc) (λb hb=>hother _ b (λe2=>e (inj hj' e2)) hb)
end
end
section
inductive SV where
 |arr
 |idx
 |cnt
 |ptr (off:Nat)
 |txt
 |val (off:Nat)
 deriving DecidableEq
abbrev BG :=List (Nat×SV)
def BG.look (env:BG)(t:Nat):Option SV:=match env with
 |[]=>none
 |(x,v)::r=>if x==t then some v else BG.look r t
def qop (P:Program)(xx sz:Nat)(env:BG)(o:Oper):Option BG:=
 match o.guard,o.dst with
 | none,some d=>if d==0||d==1||d==5||(env.look d).isSome then none else(match o.op with
   |.move (.tmp s)=>(env.look s).map λv=>(d,v)::env
   |.indexAddr t (.tmp x) (.tmp y)=>if env.look x=some .arr/\env.look y=some .idx/\D5 P t sz=true then some ((d,.ptr 0)::env)else none
   | .fieldAddr s (.tmp x) f=>(match env.look x with
     | some (.ptr off)=>(match P.underlying s with
       | some (.struct fs)=>(match fs[f]? with
         |some Jo=>if xY P s f Jo.offset=true then some ((d,.ptr (off+Jo.offset))::env)else none
         |none=>none)
       |_=>none)
     |_=>none)
   | .load t (.tmp x)=>(match env.look x with
     |some (.ptr off)=>if DF P t false 1=true/\off<sz then some ((d,.val off)::env)else none
     |_=>none)
   |.call ⟨.value (.func f),⟨[.tmp x]⟩,_⟩=>if f=xx/\env.look x=some .cnt/\yN P f=true then some ((d,.txt)::env)else none
   |_=>none)
 |_,_=>none
def Dq (P:Program)(xx:Nat)(tx:Int->List UInt8):Prop:=∀k:Int,0<=k->k<4611686018427387904->gY P xx [.one (.c (.lit (.int .i64 k)))] (.one (.c (.str (tx k))))
section
variable {P:Program} {xx sz:Nat} {tx:Int->List UInt8} {kb i n c:Nat} {k:Int}
def SV.den (tx:Int->List UInt8)(sz kb i n c:Nat)(k:Int)(w:World)(v:Value):SV->Prop
 |.arr=>v = .slice (some ⟨kb,0,none⟩) n c
 |.idx=>v = .int .i64 (i:Int)
 |.cnt=>v = .int .i64 k
 |.ptr off=>v = .pointer (some ⟨kb,i*sz+off,none⟩)
 |.txt=>v = .string ⟨⟨tx k⟩⟩/\(tx k).length<=maxLen
 |.val off=>w.cell? ⟨kb,i*sz+off,none⟩=some v
structure ES (tx:Int->List UInt8)(sz kb i n c m:Nat)(k:Int)(env:BG)(a:Act)(w:World):Prop where
 size:a.tmps.size=m
 defers:a.defers=[]
 den:∀t v,env.look t=some v->v.den tx sz kb i n c k w (a.tmps.getD t undef)
theorem SV.X4 {w w':World}(hb:w'.heap[kb]? = w.heap[kb]?){v:SV}{x:Value}(h:v.den tx sz kb i n c k w x):v.den tx sz kb i n c k w' x:=by
 cases v with
 |val off=>simp only[SV.den,dY,hb]at h⊢;exact h
 |_=>exact h
theorem ES.put {m:Nat}{env:BG}{a:Act}{w:World}(h:ES tx sz kb i n c m k env a w){d:Nat}(hd:env.look d=none)(hm:d<m){v:Value}{s:SV}(hv:s.den tx sz kb i n c k w v):ES tx sz kb i n c m k ((d,s)::env) (a.put (some d) v) w:=by
 refine⟨by simp[Go.Act.put,h.size],h.defers,λt x hx=>?_⟩;simp only[BG.look]at hx;by_cases e:d=t
 ·subst e;simp only[beq_self_eq_true,iT,aI]at hx;subst hx;rw[dM (by rw[h.size];exact hm)];exact hv
 ·rw[aj (by simpa using e)]at hx;rw[jP (Ne.symm e)];exact h.den t x hx
theorem ES.world {m:Nat}{env:BG}{a:Act}{w w':World}(h:ES tx sz kb i n c m k env a w)(hb:w'.heap[kb]? = w.heap[kb]?):ES tx sz kb i n c m k env a w':=
 ⟨h.size,h.defers,λt v hv=>SV.X4 hb (h.den t v hv)⟩
variable {ops:Array Oper} {Q:Exit->Act->World->Prop} {rest:List Oper} {o:Oper} {a:Act} {w w':World} {v:Value}
theorem mX (hg:o.guard=none)(hr:(execOp a.eval o).run P w = .ok (.value v) w')(h:wpList P ops Q rest (a.put o.dst v) w'):wpList P ops Q (o::rest) a w:=
 wpList_plain hg λK hK=>by unfold qR;rw[hr,Oper.upon_value];exact hK _ _ h
theorem step_skip (hg:o.guard=none)(hr:(execOp a.eval o).run P w = .ok .skip w')(h:wpList P ops Q rest (a.put o.dst undef) w'):wpList P ops Q (o::rest) a w:=
 wpList_plain hg λK hK=>by unfold qR;rw[hr,wX];exact hK _ _ h
theorem EM (hg:o.guard=none){f:FuncId}{args:Array Value}(hr:(execOp a.eval o).run P w = .ok (.enter f args) w)
 (h:Calls P f args w λe w'=>∃v,e = .returned v/\wpList P ops Q rest (a.put o.dst v) w'):wpList P ops Q (o::rest) a w:=
 wpList_plain hg λK hK=>by unfold qR;rw[hr,Oper.upon_enter];refine h.mono ?_;rintro e w' ⟨v,rfl,h⟩;exact hK _ _ h
theorem Y6 (ht:Dq P xx tx)(h0:0<=k)(h1:k<4611686018427387904){I0:IH}(hT:Tabs P I0)(hA:Agree I0 w) :
 Calls P xx #[.int .i64 k] w λe w'=>e = .returned (.string ⟨⟨tx k⟩⟩)/\(tx k).length<=maxLen/\wZ w w' λ_=>False:=by
 refine(ht k h0 h1 I0 (λ_=>none) w [.int .i64 k] hT hA ⟨λb=>rfl,λb b' k h=>h.elim,λb k h=>h.elim⟩ ⟨rfl,λj v x hv hx=>?_⟩ _ .QN).mono ?_
 ·match j with
  |0=>cases hv;cases hx;exact Rd.lit _ rfl
  |j+1=>cases hv
 ·rintro e w' ⟨⟨v,J,σ,r,bs,rfl,⟨rfl,rfl⟩,hgv,_,_,_,hF,_⟩,_⟩;cases hgv with
  |str l hl=>exact⟨rfl,hl,hF.os,hF.tape,hF.output,hF.size,λb hb _=>hF.block b hb (by rintro⟨b,hb⟩;exact hb),hF.drawn⟩
theorem OI {m:Nat}{env env':BG}(hq:qop P xx sz env o=some env')(hm:∀d,o.dst=some d->d<m)(h:ES tx sz kb i n c m k env a w)(hi:i<n)(ht:Dq P xx tx)(h0:0<=k)(h1:k<4611686018427387904){I0:IH}(hT:Tabs P I0)(hA:Agree I0 w)(hkb:kb<w.heap.size)
 (hcell:∀off,off<sz->∃x,w.cell? ⟨kb,i*sz+off,none⟩=some x)
 (hk:∀a' w',ES tx sz kb i n c m k env' a' w'->wZ w w' (λ_=>False)->wpList P ops Q rest a' w'):wpList P ops Q (o::rest) a w:=by
 unfold qop at hq;split at hq
 ·rename_i d hg hd;split at hq
  ·cases hq
  ·rename_i hdd;simp only[eX,not_or,Bool.not_eq_true,Option.isSome_eq_false_iff,ni]at hdd;have hdn:=hdd.2;have hdm:=hm d hd;have fin:∀{v:Value} {s:SV},(execOp a.eval o).run P w = .ok (.value v) w->s.den tx sz kb i n c k w v->env'=(d,s)::env->wpList P ops Q (o::rest) a w:=λhr hs e=>by
    subst e;refine mX hg hr ?_;rw[hd];exact hk _ _ (h.put hdn hdm hs) (wZ.refl _ _)
   split at hq
   ·rename_i s ho;simp only[aU]at hq;obtain⟨x,hx,rfl⟩:=hq;exact fin (v:=a.tmps.getD s undef) (by unfold execOp;rw[ho];rfl) (h.den s x hx) rfl
   ·rename_i t x y ho;split at hq
    ·rename_i hc;cases hq;obtain⟨c1,c2,c3⟩:=hc;obtain⟨e,ti,ht,hti,hsz⟩:=vN c3;have v1:a.eval (.tmp x) = .slice (some ⟨kb,0,none⟩) n c:=h.den x _ c1;have v2:a.eval (.tmp y) = .int .i64 (i:Int):=h.den y _ c2;refine fin (v:=.pointer (some ((⟨kb,0,none⟩:Addr).add ((i:Int).toNat*sz)))) (s:=.ptr 0) ?_ ?_ rfl
     ·have e0:(0:Int)<=i:=(by omega);have e1:(i:Int)<n:=(by omega);simp[execOp,ho,Go.Instr.indexAt,v1,v2,asIntOf,run_underlying ht,e1,hi,sizeOf,typeInfo,hti,hsz]
     ·simp only[SV.den,Addr.mD,dF,Int.toNat_natCast,kG]
    ·cases hq
   ·rename_i s x f ho;split at hq
    ·rename_i off hx;split at hq
     ·rename_i fs hs;split at hq
      ·rename_i Jo hf;split at hq
       ·rename_i hfa;cases hq;have v1:a.eval (.tmp x) = .pointer (some ⟨kb,i*sz+off,none⟩):=h.den x _ hx;unfold xY at hfa;rw[hs]at hfa;simp only[hf,af]at hfa;obtain⟨_,hfa⟩:=hfa;split at hfa
        ·rename_i ti hti;simp at hfa;refine fin (v:=.pointer (some ((⟨kb,i*sz+off,none⟩:Addr).add Jo.offset))) (s:=.ptr (off+Jo.offset)) ?_ ?_ rfl
         ·simp[execOp,ho,Go.Instr.fieldAt,run_underlying hs,hf,v1,iw,fieldPlace,sizeOf,typeInfo,hti,hfa]
         ·simp only[SV.den,Addr.mD,Nat.add_assoc]
        ·cases hfa
       ·cases hq
      ·cases hq
     ·cases hq
    ·cases hq
   ·rename_i t x ho;split at hq
    ·rename_i off hx;split at hq
     ·rename_i hty;cases hq;obtain⟨hty,hlt⟩:=hty;have v1:a.eval (.tmp x) = .pointer (some ⟨kb,i*sz+off,none⟩):=h.den x _ hx;obtain⟨u,hu⟩:=hcell off hlt;refine fin (v:=u) (s:=.val off) ?_ hu rfl;simp[execOp,ho,v1,iw,kN,C9 hty hu]
     ·cases hq
    ·cases hq
   ·rename_i f x ts ho;split at hq
    ·rename_i hc;cases hq;obtain⟨rfl,hx,hok⟩:=hc;have v1:a.eval (.tmp x) = .int .i64 k:=h.den x _ hx;have he:=y5 (w:=w) (a:=a) ho (f:=f) (x:=.func f) (caps:= #[]) rfl hok;refine EM hg (f:=f) (args:= #[.int .i64 k]) (by simpa[v1]using he) ((Y6 ht h0 h1 hT hA).mono ?_);rintro e w' ⟨rfl,hl,hF⟩;refine⟨_,rfl,?_⟩;rw[hd];exact hk _ _ ((h.world (hF.block kb hkb (λh=>h))).put hdn hdm ⟨rfl,hl⟩) hF
    ·cases hq
   ·cases hq
 ·cases hq
theorem Tq {env env':BG}(hq:qop P xx sz env o=some env'){t:Nat}{v:SV}(h:env.look t=some v):env'.look t=some v:=by
 have fin:∀{d:Nat} {s:SV},env.look d=none->BG.look ((d,s)::env) t=some v:=λ{d s} hd=>by simp only[BG.look];rw[aj (by simp only[aK];rintro rfl;rw[hd]at h;cases h)];exact h
 unfold qop at hq;split at hq
 ·split at hq
  ·cases hq
  ·rename_i hdd;simp only[eX,not_or,Bool.not_eq_true,Option.isSome_eq_false_iff,ni]at hdd;have hd:=hdd.2;split at hq
   ·simp only[aU]at hq;obtain⟨x,_,rfl⟩:=hq;exact fin hd
   all_goals(repeat' split at hq)<;>first|(cases hq;exact fin hd)|cases hq
 ·cases hq
end
end
end Go.Ab
