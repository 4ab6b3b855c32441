/- What abstract values, states and codes of the program's language mean, and that they are sound (part 2). No conditions. -/
import Derived.Test.YtfengbmckcgbiaaGreatDoorX1
set_option linter.unusedVariables false
set_option linter.unusedSimpArgs false
open Array renaming getElem?_eq_some_iff->dK,getD_eq_getD_getElem?->dX,getElem?_eq_getElem->lK,length_toList->mY,getElem?_map->pO,getElem?_append_left->rU,replicate->sK,range->vC,mapM_eq_mapM_toList->xk,ext'->yI
open Bool renaming and_eq_true->ah,or_eq_true->gV,not_eq_true'->kH,and_eq_false_iff->pK,or_true->xC
open Go.Builtin renaming append_->gY,firstCells->iK,copy_->mg,lenOf->rH
open Go.Code renaming region->CZ
open Go.Exit renaming inBlock->zn
open Go.Instr renaming fill->uw
open Go.Oper renaming wp_mono->BU,upon_skip->Eu,wp->vZ
open Go.Region renaming wanted->Bo,ready->uD
open Go.Result renaming andThen_ok->bn
open Go.Sem renaming run_map->GH,run_pure->bQ,run_bind->cZ
open Go.Value renaming slice->Dh,cells->mO,pointer->rJ
open Go.World renaming cell?->gI
open List renaming zipIdx->BZ,mem_map_of_mem->DR,mapM_cons->Di,pairwise_append->Dl,mem_range->GK,flatten->Iw,getElem?_eq_some_iff->aK,all_eq_true->aP,mem_map->aS,mem_cons_self->aW,mem_filter->aX,mem_append->aY,map_cons->aZ,getElem?_eq_getElem->ax,mem_cons->ay,replicate->bC,getElem?_append_left->bF,getElem?_map->bP,getD_eq_getElem?_getD->bf,getElem?_append_right->dA,getElem_mem->dD,mem_filterMap->dJ,getElem?_cons_succ->dM,getElem?_cons_zero->dN,mem_append_right->dQ,mem_cons_of_mem->dY,mem_append_left->dh,not_mem_nil->dn,mem_of_mem_take->fD,getElem?_drop->fV,mem_of_getElem?->gQ,length_take->gW,length_cons->iC,length_nil->iy,map_nil->jH,flatMap_cons->jU,contains_iff_mem->kE,getElem?_eq_none->kF,mem_of_mem_drop->kN,map_toArray->lC,mem_flatMap->lD,getElem?_toArray->nH,mem_zipIdx_iff_getElem?->nP,mem_of_head?->oH,size_toArray->oI,getElem?_set->qG,pairwise_cons->rX,map_congr_left->rq,range->sQ,length_map->uF,map_append->uG,getElem_of_mem->vG,length_eq_zero_iff->vM,filter_append->vO,getElem?_take_of_lt->xM,filter_eq_self->xq,getElem?_range->xw,pairwise_iff_getElem->xx,any_eq_true->yM,cons_append->yN,contains_eq_mem->zx,nodup_cons->zy
open List.Sublist renaming refl->ED
open Nat renaming lt_succ_self->Bz,div_lt_iff_lt_mul->CJ,div_add_mod->Cb,le_max_left->Cc,lt_or_ge->Iy,mod_mod->Jv,le_refl->aA,mul_le_mul_right->aQ,le_trans->bH,add_mul->cO,zero_add->eU,lt_of_lt_of_le->kQ,sub_zero->oh,add_zero->rQ,mul_comm->vU,mod_eq_of_lt->wQ,add_mul_mod_self_right->wW,add_comm->xE,zero_mul->yY,add_mod->yh,one_mul->yj,lt_trichotomy->yw
open Option renaming map_eq_some_iff->bW,map_some->iR,isSome_iff_exists->iW,getD_some->jQ,bind_eq_some_iff->yl
open Option.some renaming injEq->aC
open Prod.mk renaming injEq->bI
namespace Go.Ab
open Go
section
def VD (P:Program)(t:TypeId):RR:=match P.info? t with
 | some i=>(match i.zero with
   |some z=>(match Sv z.cells (refsOf P 6 t 0)with|some R=>R|none=>[])
   |none=>[])
 |none=>[]
def placesOf (P:Program)(fs:Array Field):Nat->Option (Nat×Nat):=((fs.map λf=>(f.offset,P.cellsOf f.type))[·]?)
def Zb (P:Program)(Γ : List OF)(t:TypeId)(ps:List (Nat×Operand)):RR:=match P.underlying t,P.info? t with
 | some (.struct fs),some i=>if fs.toList.all (λf=>(P.info? f.type).isSome)then(match i.zero with
   | some z=>(match Sv z.cells (refsOf P 6 t 0)with
     |some R=>aa4 (placesOf P fs) Γ ps R
     |none=>[])
   |none=>[])else []
 |_,_=>[]
def Ho (P:Program)(T:TypeId):Bool:=match P.underlying T with
 | some (.slice e)=>(match P.info? e with
   | some i=>(match i.zero with
     |some z=>z.cells.size==i.size&&(Sv z.cells (refsOf P 6 e 0)).isSome
     |none=>false)
   |none=>false)
 |_=>false
section
variable {P:Program} {F:Ut} {g:Own} {dp:Nat} {Γ : List OF} {a:Act} {w w':World} {d N:Nat} {v:Value}
theorem aex {t:TypeId}{i:TypeInfo}{z:Value}(hi:P.info? t=some i)(hz:i.zero=some z):SH g dp z.cells (VD P t):=by
 unfold VD;rw[hi];simp only[hz];split
 ·rename_i R hR;exact acK hR
 ·intro e he;cases he
theorem afJ (h:OW P F g dp Γ a w)(hd:d<a.tmps.size)(hN:N<=w.heap.size){o:Oper}{t:TypeId}(ho:o.op = .alloc t)(hr:(execOp a.eval o).run P w = .ok (.value v) w') :
 ∃g',Rel dp N g g'/\OW P F g' dp (aaw d (rowOf d (VD P t)) ++ Γ.filter (Jm d)) (a.put (some d) v) w':=by
 simp only[execOp,ho]at hr;have hr:=Hf hr;unfold Go.Instr.alloc at hr;obtain⟨z,w1,h1,h2⟩:=dL hr;obtain⟨⟨i,hi,hz⟩,rfl⟩:=Sz h1
 dsimp only at h2
 obtain⟨p,w2,h3,h4⟩:=dL h2;obtain⟨rfl,rfl⟩:=Xb h3;obtain⟨rfl,rfl⟩:=iU h4;exact h.aaw hd (Xp (aex hi hz) d) hN
theorem akF (h:OW P F g dp Γ a w)(hd:d<a.tmps.size)(hN:N<=w.heap.size){o:Oper}{t:TypeId}{x:Operand}(ho:o.op = .box t x)(hr:(execOp a.eval o).run P w = .ok (.value v) w') :
 ∃g',Rel dp N g g'/\OW P F g' dp (aaw d (rowOf d (Gx Γ 0 1000 x)) ++ Γ.filter (Jm d)) (a.put (some d) v) w':=by
 simp only[execOp,ho]at hr;have hr:=Hf hr;unfold Go.Instr.box at hr;obtain⟨p,w2,h3,h4⟩:=dL hr;obtain⟨rfl,rfl⟩:=Xb h3;obtain⟨rfl,rfl⟩:=iU h4;refine h.aaw hd (Xp (λe he=>?_) d) hN;unfold Gx at he;split at he
 ·rename_i s;rw[dJ]at he;obtain⟨f,hf,he⟩:=he;split at he
  ·split at he
   ·rename_i y r hc;cases he;obtain⟨rfl,hlt⟩:=hc;obtain⟨u,hu,hg⟩:=h.fs _ hf;exact⟨u,by rw[eU];exact hu,hg⟩
   ·cases he
  ·cases he
 ·cases he
theorem afR (h:OW P F g dp Γ a w)(hd:d<a.tmps.size){o:Oper}{t:TypeId}{ps:Array (Nat×Operand)}(ho:o.op = .build t ps)(hr:(execOp a.eval o).run P w = .ok (.value v) w') :
 ∀f,f∈(rowOf d (Zb P Γ t ps.toList)).map (.ref d)->FI P F g dp (a.put (some d) v) w f:=by
 intro f hf;rw[aS]at hf;obtain⟨r,hr0,rfl⟩:=hf;simp only[execOp,ho]at hr;have hr:=Hf hr;have key:SH g dp v.cells (Zb P Γ t ps.toList):=by
  unfold Zb;split
  ·rename_i fs i hs hi;split
   ·rename_i hall;split
    ·rename_i z hz;split
     ·rename_i R hR;have hpl:=run_places (P:=P) w fs.toList hall;have hpl':(fs.mapM (m:=Sem) λf=>do pure (f.offset,<- sizeOf f.type)).run P w = .ok (fs.map λf=>(f.offset,P.cellsOf f.type)) w:=by
       rw[xk,GH,hpl];simp only[bn]
       congr 1
       apply yI;simp
      have hzr:(zeroValue t).run P w = .ok z w:=(by simp[zeroValue,typeInfo,hi,hz]);have hps:(ps.map λ(i,x)=>(i,a.eval x)).toList=ps.toList.map λp=>(p.1,a.eval p.2):=(by simp);unfold Instr.build at hr;obtain⟨z',w1,h1,h2⟩:=dL hr;rw[hzr]at h1;cases h1;obtain⟨de,w2,h3,h4⟩:=dL h2;rw[run_underlying hs]at h3;cases h3
      dsimp only at h4
      obtain⟨pl,w3,h5,h6⟩:=dL h4;rw[hpl']at h5;cases h5;split at h6
      ·rename_i out hout;have hv:=(iU h6).1;subst hv;rw[hps]at hout;exact(WB h.fs ps.toList _ out R (acK hR) hout).1
      ·cases h6
     ·intro e he;cases he
    ·intro e he;cases he
   ·intro e he;cases he
  ·intro e he;cases he
 obtain⟨u,hu,hg⟩:=Xp key d r hr0;exact⟨u,by rw[gB hd];exact hu,hg⟩
theorem aeD {n:Nat}{w1:World}{u:Unit}(h:(askRoom n).run P w = .ok u w1):w1=w:=by
 unfold askRoom at h;split at h
 ·rw[run_mark]at h;cases h;rfl
 ·exact(iU h).2
theorem Oe {α:Type}{e:RuntimeError}{r:α}{w1:World}(h:(runtimePanic e:Sem α).run P w = .ok r w1):False:=by
 unfold runtimePanic at h;obtain⟨p,w2,h1,h2⟩:=dL h
 dsimp only at h2
 split at h2<;>first
  |cases h2
  |(obtain⟨_,_,_,h3⟩:=dL h2;obtain⟨_,_,_,h4⟩:=dL h3;cases h4)
theorem Ko {T e:TypeId}{i:TypeInfo}{z:Value}(hz:Ho P T=true)(hu:P.underlying T=some (.slice e))(hi:P.info? e=some i)(hzero:i.zero=some z){cs:Array Value}(hcs:∀(j:Nat) (u:Value),cs[j]? = some u->u=z.cells[j%z.cells.size]!) :
 ∀j u T',cs[j]? = some u->(j%wz P T,T')∈lZ P T->ZV u:=by
 unfold Ho at hz;rw[hu]at hz;simp only[hi,hzero,ah,akg]at hz;intro j u T' hj ht;have:=hcs j u hj;obtain⟨h1,h2⟩:=hz;cases hR:Sv z.cells (refsOf P 6 e 0)with
 |none=>rw[hR]at h2;cases h2
 | some R=>
   have he:lZ P T=refsOf P 6 e 0:=(by simp[lZ,hu]);have hs:wz P T=i.size:=(by simp[wz,hu,hi]);rw[he,hs,<- h1]at ht;unfold Sv at hR;split at hR
   ·rename_i hall;rw[aP]at hall;have h3:=hall _ ht;cases hc:z.cells[j%z.cells.size]? with
    |none=>rw[hc]at h3;cases h3
    | some u'=>rw[hc]at h3;have:u=u':=(by rw[this,getElem!_def,hc]);rw[this];exact Vw h3
   ·cases hR
theorem OW.akC (h:OW P F g dp Γ a w)(hd:d<a.tmps.size)(hN:N<=w.heap.size){cs:Array Value}{e T n c m:Nat}
 (hc:∀j u T',cs[j]? = some u->(j%wz P T,T')∈lZ P T->GR g u T' (.blk w.heap.size j)) :
 ∃g',Rel dp N g g'/\OW P F g' dp (.ref d ⟨0,T,m⟩ :: Γ.filter (Jm d)) (a.put (some d) (.slice (some ⟨w.heap.size,0,none⟩) n c)) (w.alloc (.cells cs e)):=by
 have hn:g w.heap.size=none:=by
  cases hg:g w.heap.size with
  |none=>rfl
  |some B=>exact al7 (h.good.lt hg) (Nat.lt_irrefl _)
 have h1:=(h.drop d (.slice (some ⟨w.heap.size,0,none⟩) n c)).am6 (cs:=cs) (e:=e) (T:=T) (m:=n) (p:=.tag dp m) λj u T' _=>hc j u T';refine⟨_,Rel.new hn hN,h1.add ⟨.slice (some ⟨w.heap.size,0,none⟩) n c,?_,.inr ⟨w.heap.size,n,c,rfl,by simp[yc],by simp[EZ]⟩⟩⟩;rw[gB hd];rfl
theorem aiV (h:OW P F g dp Γ a w)(hd:d<a.tmps.size)(hN:N<=w.heap.size){o:Oper}{T:TypeId}{x y:Operand}(hz:Ho P T=true)(ho:o.op = .makeSlice T x y)(hr:(execOp a.eval o).run P w = .ok (.value v) w') :
 ∃g',Rel dp N g g'/\OW P F g' dp (.ref d ⟨0,T,mk d 0⟩ :: Γ.filter (Jm d)) (a.put (some d) v) w':=by
 simp only[execOp,ho]at hr;have hr:=Hf hr;have Yn:∀{v:Value} {i:Int} {w w':World},(asInt v).run P w = .ok i w'->w'=w:=by intro v i w w' h;unfold asInt at h;obtain⟨y,w1,h1,h2⟩:=dL h;have e1:=(iU h2).2;subst e1;unfold asIntOf at h1;split at h1<;>first|exact(iU h1).2|cases h1
 unfold Instr.makeSlice at hr;obtain⟨de,w1,h1,k1⟩:=dL hr;clear hr;obtain⟨hu,rfl⟩:=CW h1;split at k1
 ·rename_i e;obtain⟨l0,w2,h2,k2⟩:=dL k1;have:=Yn h2;subst this;obtain⟨c0,w3,h3,k3⟩:=dL k2;have:=Yn h3;subst this;obtain⟨i,w4,h4,k4⟩:=dL k3;obtain⟨hi,rfl⟩:=KO h4;clear k1 k2 k3
  dsimp only at k4
  split at k4
  ·exfalso;split at k4
   ·obtain⟨_,_,h5,_⟩:=dL k4;exact Oe h5
   ·split at k4
    ·obtain⟨_,_,h5,_⟩:=dL k4;exact Oe h5
    ·obtain⟨_,_,_,k5⟩:=dL k4;obtain⟨_,_,h5,_⟩:=dL k5;exact Oe h5
  ·obtain⟨_,w5,h5,k5⟩:=dL k4;have:=aeD h5;subst this;obtain⟨sz,w6,h6,k6⟩:=dL k5;obtain⟨i',hi',rfl,rfl⟩:=Gg h6;rw[hi]at hi';cases hi';clear k4 k5;split at k6
   ·rename_i h0;obtain⟨z,w7,h7,k7⟩:=dL k6;obtain⟨rfl,rfl⟩:=iU h7;obtain⟨p,w8,h8,k8⟩:=dL k7;unfold newRow at h8;obtain⟨q,w9,h9,h10⟩:=dL h8;rw[run_newObj]at h9;cases h9;obtain⟨rfl,rfl⟩:=iU h10;obtain⟨rfl,rfl⟩:=iU k8;refine h.akC hd hN λj u T' hj _=>?_;have hlt:=(dK.1 hj).1;simp only[Array.size_map,Array.size_range]at hlt;omega
   ·obtain⟨z,w7,h7,k7⟩:=dL k6;obtain⟨⟨i2,hi2,hzero⟩,rfl⟩:=Sz h7;rw[hi]at hi2;cases hi2;obtain⟨z',w8,h8,k8⟩:=dL k7;obtain⟨rfl,rfl⟩:=iU h8;obtain⟨p,w9,h9,k9⟩:=dL k8;unfold newRow at h9;obtain⟨q,w10,h10,h11⟩:=dL h9;rw[run_newObj]at h10;cases h10;obtain⟨rfl,rfl⟩:=iU h11;obtain⟨rfl,rfl⟩:=iU k9;refine h.akC hd hN λj u T' hj ht=>.inl (Ko hz hu hi hzero (λj u hj=>?_) j u T' hj ht);rw[pO]at hj;simp only[bW]at hj;obtain⟨j',hj',rfl⟩:=hj;have:=dK.1 hj';simp at this;rw[this.2]
 ·cases k1
end
end
section
def XL (R:RR):Bool:=R.all λe=>R.all λe'=>e.2.2.isNone||e.2.2 != e'.2.2||e==e'
def RZ (R:RR):List Nat:=R.filterMap (·.2.2)
def X9 (k off:Nat)(R:RR):List (Nat×yE):=R.filterMap λe=>e.2.2.map λm=>(m,.blk k (off+e.1))
def aic (R:RR)(o T:Nat):Bool:=R.any λe=>e.1==o&&e.2.1==T
theorem YM (k off:Nat)(R:RR):(X9 k off R).map (·.1)=RZ R:=by
 induction R with
 |nil=>rfl
 | cons e r ih=>
   obtain⟨o,T,m⟩:=e;cases m with
   |none=>simpa[X9,RZ]using ih
   |some m=>simp only[X9,RZ,List.filterMap_cons,iR,aZ]at ih⊢;rw[ih]
theorem WU {β:Type}{m:Nat}{q:β} : ∀{l:List (Nat×β)},(m,q)∈l->∃q',l.lookup m=some q'/\(m,q')∈l
 | (k,b)::r,h=>by
   simp only[List.lookup];cases hk:(m==k)with
   |true=>simp at hk;subst hk;exact⟨b,rfl,aW ..⟩
   | false=>
     rcases ay.1 h with e|h
     ·cases e;simp at hk
     ·obtain⟨q',h1,h2⟩:=WU h;exact⟨q',h1,dY _ h2⟩
theorem abA {k off:Nat}{R:RR}(ht:XL R=true){e:Nat×Nat×Option Nat}(he:e∈R){m:Nat}(hm:e.2.2=some m):(X9 k off R).lookup m=some (.blk k (off+e.1)):=by
 have h1:(m,yE.blk k (off+e.1))∈X9 k off R:=by rw[X9,dJ];exact⟨e,he,by rw[hm];rfl⟩
 obtain⟨q,hq,hm'⟩:=WU h1;rw[hq];rw[X9,dJ]at hm';obtain⟨e',he',h2⟩:=hm';cases h3:e'.2.2 with
 |none=>rw[h3]at h2;cases h2
 | some m'=>
   rw[h3]at h2;simp only[iR,aC,bI]at h2;obtain⟨rfl,rfl⟩:=h2;simp only[XL,aP,gV,Option.isNone_iff_eq_none,bne_iff_ne,akg]at ht;have:=ht e he e' he';rcases this with(h|h)|h
   ·rw[hm]at h;cases h
   ·rw[hm,h3]at h;exact al7 rfl h
   ·rw[h]
section
variable {P:Program} {F:Ut} {g:Own} {dp:Nat} {Γ : List OF} {a:Act} {w w':World} {d N:Nat} {v:Value}
theorem SH.mv {cs:Array Value}{R:RR}(h:SH g dp cs R)(ht:XL R=true)(k off:Nat){e:Nat×Nat×Option Nat}(he:e∈R):∃u,cs[e.1]? = some u/\GR (g.mv dp (X9 k off R)) u e.2.1 (.blk k (off+e.1)):=by
 obtain⟨u,hu,hg⟩:=h e he;refine⟨u,hu,?_⟩;cases hm:e.2.2 with
 |none=>rw[hm]at hg;exact .inl hg
 |some m=>rw[hm]at hg;exact GR.mv hg (abA ht he hm)
theorem aj3 (h:OW P F g dp Γ a w){x:Operand}{size:Nat} : SH g dp (a.eval x).cells (Gx Γ 0 size x):=by
 intro e he;unfold Gx at he;split at he
 ·rename_i s;rw[dJ]at he;obtain⟨f,hf,he⟩:=he;split at he
  ·split at he
   ·rename_i y r hc;cases he;obtain⟨rfl,hlt⟩:=hc;obtain⟨u,hu,hg⟩:=h.fs _ hf;exact⟨u,by rw[eU];exact hu,hg⟩
   ·cases he
  ·cases he
 ·cases he
def adX (P:Program)(T len:Nat):RR:=(sQ len).flatMap λi=>(lZ P T).map λe=>(i*wz P T+e.1,e.2,none)
def Lr (P:Program)(Γ : List OF)(T len:Nat)(ps:List (Nat×Operand)):RR:=aa4 (λi=>some (i*wz P T,wz P T)) Γ ps (adX P T len)
def VW (P:Program)(Γ : List OF)(T len:Nat)(ps:List (Nat×Operand)):Bool:=
 Ho P T&&XL (Lr P Γ T len ps)&&(sQ len).all (λi=>(lZ P T).all λe=>aic (Lr P Γ T len ps) (i*wz P T+e.1) e.2)&&decide (0<wz P T)
theorem adr {T e:TypeId}{i:TypeInfo}(hu:P.underlying T=some (.slice e))(hi:P.info? e=some i):wz P T=i.size:=by simp[wz,hu,hi]
theorem aiU {T e:TypeId}{i:TypeInfo}{z:Value}(hz:Ho P T=true)(hu:P.underlying T=some (.slice e))(hi:P.info? e=some i)(hzero:i.zero=some z){n:Nat}{cs:Array Value}(hcs:cs=(vC n).map (z.cells[· % z.cells.size]!)) :
 ∀j u T',cs[j]? = some u->(j%wz P T,T')∈lZ P T->ZV u:=by
 refine Ko hz hu hi hzero λj u hj=>?_;subst hcs;rw[pO]at hj;simp only[bW]at hj;obtain⟨j',hj',rfl⟩:=hj;have:=dK.1 hj';simp at this;rw[this.2]
theorem ahX {T e:TypeId}{i:TypeInfo}{z:Value}(hz:Ho P T=true)(hu:P.underlying T=some (.slice e))(hi:P.info? e=some i)(hzero:i.zero=some z){o T':Nat}(ho:(o,T')∈lZ P T):o<wz P T:=by
 unfold Ho at hz;rw[hu]at hz;simp only[hi,hzero,ah,akg]at hz;obtain⟨h1,h2⟩:=hz;have he:lZ P T=refsOf P 6 e 0:=by simp[lZ,hu]
 rw[he]at ho;cases hR:Sv z.cells (refsOf P 6 e 0)with
 |none=>rw[hR]at h2;cases h2
 | some R=>
   unfold Sv at hR;split at hR
   ·rename_i hall;rw[aP]at hall;have:=hall _ ho;cases hc:z.cells[o]? with
    |none=>dsimp only at this;rw[hc]at this;cases this
    | some u=>have:=(dK.1 hc).1;rw[adr hu hi,<- h1];exact this
   ·cases hR
theorem ac3 (h:OW P F g dp Γ a w)(hd:d<a.tmps.size)(hN:N<=w.heap.size){o:Oper}{T:TypeId}{len:Nat}{ps:Array (Nat×Operand)}(hok:VW P Γ T len ps.toList=true)(ho:o.op = .buildSlice T len ps)(hr:(execOp a.eval o).run P w = .ok (.value v) w') :
 ∃g',Rel dp N g g'/\OW P F g' dp (.ref d ⟨0,T,mk d 0⟩::(Γ.filter (F7 (RZ (Lr P Γ T len ps.toList)))).filter (Jm d)) (a.put (some d) v) w':=by
 simp only[VW,ah,aP,ahm]at hok;obtain⟨⟨⟨hz,ht⟩,hcov⟩,h0⟩:=hok;simp only[execOp,ho]at hr;have hr:=Hf hr;unfold Instr.buildSlice at hr;obtain⟨de,w1,h1,k1⟩:=dL hr;clear hr;obtain⟨hu,rfl⟩:=CW h1;split at k1
 ·rename_i e;obtain⟨size,w2,h2,k2⟩:=dL k1;obtain⟨i,hi,rfl,rfl⟩:=Gg h2;clear k1;have hes:=adr hu hi
  dsimp only at k2
  split at k2
  ·obtain⟨_,_,h3,_⟩:=dL k2;cases h3
  ·
   have key:∀(z:Value) (cells:Array Value),i.zero=some z->uw (λi'=>some (i'*i.size,i.size)) ((vC (len*i.size)).map (z.cells[· % z.cells.size]!)) (ps.map λ(i,x)=>(i,a.eval x)).toList=some cells ->
    ∃g',Rel dp N g g'/\OW P F g' dp (.ref d ⟨0,T,mk d 0⟩::(Γ.filter (F7 (RZ (Lr P Γ T len ps.toList)))).filter (Jm d)) (a.put (some d) (.slice (some ⟨w2.heap.size,0,none⟩) len len)) (w2.alloc (.cells cells e)):=by
    intro z cells hzero alS;have hps:(ps.map λ(i,x)=>(i,a.eval x)).toList=ps.toList.map λp=>(p.1,a.eval p.2):=(by simp);rw[hps,<- hes]at alS;have hnil:SH g dp ((vC (len*wz P T)).map (z.cells[· % z.cells.size]!)) (adX P T len):=by
     intro q hq;rw[adX,lD]at hq;obtain⟨ix,hix,hq⟩:=hq;rw[aS]at hq;obtain⟨r,hr,rfl⟩:=hq;rw[GK]at hix;have hlt:=ahX hz hu hi hzero (show(r.1,r.2)∈lZ P T from hr);have hj:ix*wz P T+r.1<len*wz P T:=by have:=aQ (wz P T) (show ix+1<=len from hix);rw[cO,yj]at this;omega
     have hget:((vC (len*wz P T)).map (z.cells[· % z.cells.size]!))[ix*wz P T+r.1]? = some (z.cells[(ix*wz P T+r.1)%z.cells.size]!):=(by rw[pO,Array.getElem?_range,ahl hj];rfl);refine⟨_,hget,?_⟩;refine aiU hz hu hi hzero rfl _ _ r.2 hget ?_;rw[xE,wW,wQ hlt];exact hr
    obtain⟨hR,hsz⟩:=WB h.fs ps.toList _ cells _ hnil alS;have h2:=h.mv (X9 w2.heap.size 0 (Lr P Γ T len ps.toList));rw[YM]at h2;obtain⟨g',hrel,how⟩:=h2.akC (d:=d) (N:=N) (cs:=cells) (e:=e) (T:=T) (n:=len) (c:=len) (m:=mk d 0) hd hN (λj u T' hj htt=>by have hjl:=(dK.1 hj).1;rw[hsz]at hjl;simp only[Array.size_map,Array.size_range]at hjl;have hdiv:j/wz P T<len:=Nat.div_lt_of_lt_mul (by rw[vU];exact hjl);have:=hcov (j/wz P T) (GK.2 hdiv) (j%wz P T,T') htt;simp only[aic,yM,ah,akg]at this;obtain⟨q,hq,e1,e2⟩:=this;obtain⟨u',hu',hg⟩:=hR.mv ht w2.heap.size 0 hq;have ej:q.1=j:=(by rw[e1,vU];exact Cb j _);rw[ej]at hu' hg;rw[hj]at hu';cases hu';rw[e2,eU]at hg;exact hg)
    exact⟨g',(Rel.mv N _).trans hrel,how⟩
   have hzz:∃z,i.zero=some z:=by
    unfold Ho at hz;rw[hu]at hz;simp only[hi]at hz;cases hq:i.zero with
    |none=>rw[hq]at hz;cases hz
    |some z=>exact⟨z,rfl⟩
   obtain⟨z0,hz0⟩:=hzz;have fin:∀(cells:Array Value),uw (λi'=>some (i'*i.size,i.size)) ((vC (len*i.size)).map (z0.cells[· % z0.cells.size]!)) (ps.map λ(i,x)=>(i,a.eval x)).toList=some cells ->
    (do pure (Dh (some (<- newRow e cells)) len len):Sem Value).run P w2 = .ok v w'->∃g',Rel dp N g g'/\OW P F g' dp (.ref d ⟨0,T,mk d 0⟩::(Γ.filter (F7 (RZ (Lr P Γ T len ps.toList)))).filter (Jm d)) (a.put (some d) v) w':=by
    intro cells hf hrun;obtain⟨p,w9,h9,k9⟩:=dL hrun;unfold newRow at h9;obtain⟨q,w10,h10,h11⟩:=dL h9;rw[run_newObj]at h10;cases h10;obtain⟨rfl,rfl⟩:=iU h11;obtain⟨rfl,rfl⟩:=iU k9;exact key z0 cells hz0 hf
   split at k2
   ·rename_i hl0;obtain⟨z,w7,h7,k7⟩:=dL k2;obtain⟨rfl,rfl⟩:=iU h7;split at k7
    ·rename_i cells hf;refine fin cells ?_ k7;rw[hl0]at hf⊢;simpa[Array.range_zero']using hf
    ·cases k7
   ·obtain⟨z,w7,h7,k7⟩:=dL k2;obtain⟨⟨i2,hi2,hzero⟩,rfl⟩:=Sz h7;rw[hi]at hi2;cases hi2;rw[hz0]at hzero;cases hzero;obtain⟨z',w8,h8,k8⟩:=dL k7;obtain⟨rfl,rfl⟩:=iU h8;split at k8
    ·rename_i cells hf;exact fin cells hf k8
    ·cases k8
 ·cases k1
end
end
section
def aat (P:Program)(Γ : List OF)(T o size:Nat)(x:Operand):Bool:=
 XL (Gx Γ 0 size x)&&(lZ P T).all (λe=> !(decide (o<=e.1)&&decide (e.1<o+size))||aic (Gx Γ 0 size x) (e.1-o) e.2)&&decide (o+size<=wz P T)
def abt (b o k:Nat):OF->Bool
 |.row b' r=>b'==b&&decide (o<=r.off)&&decide (r.off<o+k)
 |_=>false
def aem (Γ : List OF)(b o size:Nat)(x:Operand):List OF:=(rowOf 0 (Gx Γ o size x)).map (.row b)
section
variable {P:Program} {F:Ut} {g:Own} {dp:Nat} {Γ : List OF} {a:Act} {w w':World} {d N:Nat} {v:Value}
theorem XE {o:Oper}{t:TypeId}{p x:Operand}{r:Next}(ho:o.op = .store t p x)(hr:(execOp a.eval o).run P w = .ok r w'):∃i,P.info? t=some i/\(a.eval x).cells.size=i.size:=by
 simp only[execOp,ho]at hr;obtain⟨_,w1,h1,_⟩:=dL hr;unfold Go.Instr.storeAt at h1;obtain⟨q,w2,h2,h3⟩:=dL h1;obtain⟨_,rfl⟩:=VV h2;unfold storeVar at h3;obtain⟨k,w3,h4,h5⟩:=dL h3;obtain⟨i,hi,rfl,rfl⟩:=Gg h4
 dsimp only at h5
 split at h5
 ·obtain⟨_,_,h6,_⟩:=dL h5;cases h6
 ·rename_i hne;exact⟨i,hi,Decidable.not_not.1 hne⟩
theorem Js {cs:Array Value}{off:Nat}{vs:Array Value}(hfit:off+vs.size<=cs.size)(j:Nat):(splice cs.toList off vs.toList).toArray[j]? = if j<off then cs[j]? else if j<off+vs.size then vs[j-off]? else cs[j]?:=by rw[nH,qH _ _ _ _ (by simpa using hfit)];simp
theorem agY (h:OW P F g dp Γ a w){o:Oper}{t:TypeId}{p:Nat}{x:Operand}{T off:Nat}{i:TypeInfo}(ho:o.op = .store t (.tmp p) x){r:Next}(hr:(execOp a.eval o).run P w = .ok r w')(he:Eff o a w w')(hi:P.info? t=some i)(hp : .ep p T off ∈ Γ)(hok:aat P Γ T off i.size x=true) :
 ∃g',Rel dp N g g'/\OW P F g' dp (Γ.filter (F7 (RZ (Gx Γ 0 i.size x)))) a w':=by
 obtain⟨k,ad,cs,e,hpv,hw,hfit,rfl⟩:=he.store _ _ _ ho;obtain⟨i',hi',hsz⟩:=XE ho hr;rw[hi]at hi';cases hi';simp only[aat,ah,aP,ahm]at hok;obtain⟨⟨ht,hcov⟩,hle⟩:=hok;obtain⟨k',o',hq,_,hB⟩:=h.fs _ hp;have e1:a.eval (.tmp p)=a.tmps.getD p undef:=rfl;rw[e1,hq]at hpv;cases hpv;have h2:=h.mv (X9 k ad (Gx Γ 0 i.size x));rw[YM]at h2;refine⟨_,Rel.mv N _,h2.aam hw λB hB'=>?_⟩;cases B with
 | var row d b=>obtain⟨row0,h3,_⟩:=aai hB';obtain⟨⟨p0,e0⟩,_⟩:=hB _ h3;cases e0
 | arr T' p'=>
   obtain⟨q,h3,_,rfl⟩:=aah hB';obtain⟨⟨p0,e0⟩,hmod⟩:=hB _ h3;cases e0;refine⟨_,_,rfl,λj u T' hjb hj htt=>?_⟩;rw[Js hfit]at hj;by_cases hj1:j<ad
   ·rw[ahl hj1]at hj;obtain⟨cs',e',hw',hold⟩:=h2.good.arr _ _ _ hB';rw[hw]at hw';cases hw';exact hold j u T' hjb hj htt
   ·rw[ahk hj1]at hj;by_cases hj2:j<ad+(a.eval x).cells.size
    ·rw[ahl hj2]at hj;have hm:j%wz P T=off+(j-ad):=by
      have:j=ad+(j-ad):=(by omega);rw[this,yh,hmod,yh,Jv,<- yh];rw[wQ (by omega)];omega
     rw[hm]at htt;have:=hcov _ htt;simp only[gV,kH,pK,alR]at this;have hh:aic (Gx Γ 0 i.size x) (off+(j-ad)-off) T'=true:=by
      rcases this with(h5|h5)|h5
      ·omega
      ·omega
      ·exact h5
     simp only[aic,yM,ah,akg]at hh;obtain⟨en,hen,e4,e5⟩:=hh;obtain⟨u',hu',hg⟩:=(aj3 h (x:=x) (size:=i.size)).mv ht k ad hen;have e6:en.1=j-ad:=(by omega);rw[e6]at hu' hg;rw[hj]at hu';cases hu';rw[e5,show ad+(j-ad)=j by omega]at hg;exact hg
    ·rw[ahk hj2]at hj;obtain⟨cs',e',hw',hold⟩:=h2.good.arr _ _ _ hB';rw[hw]at hw';cases hw';exact hold j u T' hjb hj htt
theorem agZ (h:OW P F g dp Γ a w){o:Oper}{t:TypeId}{p:Nat}{x:Operand}{b off:Nat}{i:TypeInfo}(ho:o.op = .store t (.tmp p) x){r:Next}(hr:(execOp a.eval o).run P w = .ok r w')(he:Eff o a w w')(hi:P.info? t=some i)(hp : .vp p b off ∈ Γ) :
 ∃g',Rel dp N g g'/\OW P F g' dp (aem Γ b off i.size x ++ Γ.filter (λf=> !abt b off i.size f)) a w':=by
 obtain⟨k,ad,cs,e,hpv,hw,hfit,rfl⟩:=he.store _ _ _ ho;obtain⟨i',hi',hsz⟩:=XE ho hr;rw[hi]at hi';cases hi';obtain⟨k',row,hb,hq,hg⟩:=h.fs _ hp;have e1:a.eval (.tmp p)=a.tmps.getD p undef:=rfl;rw[e1,hq]at hpv;cases hpv;have hnew:∀r,r∈rowOf 0 (Gx Γ off i.size x)->∃u,(splice cs.toList off (a.eval x).cells.toList).toArray[r.off]? = some u/\GR g u r.ty (.tag dp r.m):=by
  intro r hr;rw[rowOf,aS]at hr;obtain⟨en,hen,rfl⟩:=hr;unfold Gx at hen;split at hen
  ·rename_i s;rw[dJ]at hen;obtain⟨f,hf,hen⟩:=hen;split at hen
   ·split at hen
    ·rename_i y r hc;cases hen;obtain⟨rfl,hlt⟩:=hc;obtain⟨u,hu,hgr⟩:=h.fs _ hf;refine⟨u,?_,hgr⟩
     dsimp only
     have e2:a.eval (.tmp y)=a.tmps.getD y undef:=rfl;rw[Js hfit,ahk (by omega),ahl (by omega),show off+r.off-off=r.off by omega,e2];exact hu
    ·cases hen
   ·cases hen
  ·cases hen
 have hrow:∀r,r∈rowOf 0 (Gx Γ off i.size x)++row.filter (λr=> !(decide (off<=r.off)&&decide (r.off<off+i.size)))->∃u,(splice cs.toList off (a.eval x).cells.toList).toArray[r.off]? = some u/\GR g u r.ty (.tag dp r.m):=by
  intro r hr;rw[aY]at hr;rcases hr with hr|hr
  ·exact hnew r hr
  ·rw[aX]at hr;obtain⟨h3,h4⟩:=hr;obtain⟨cs',e',hw',hold⟩:=h.good.var _ _ _ _ hg;rw[hw]at hw';cases hw';obtain⟨u,hu,hgr⟩:=hold r h3;refine⟨u,?_,hgr⟩;simp only[kH,pK,alR]at h4;rw[Js hfit];by_cases h5:r.off<off
   ·rw[ahl h5];exact hu
   ·rw[ahk h5,ahk (by rcases h4 with h4|h4<;>omega)];exact hu
 have h3:=h.setVar (cs':=(splice cs.toList off (a.eval x).cells.toList).toArray) hw hg hrow (CX:= Γ.filter (λf=> !abt b off i.size f)) (λf hf=>by
  rw[aX]at hf;refine⟨hf.1,λr hr=>?_⟩;subst hr;obtain⟨k2,Pn,e2,e3,e4⟩:=h.fs _ hf.1;rw[hb]at e2;cases e2;rw[hg]at e3;cases e3;rw[aY]
  right
  rw[aX];refine⟨e4,?_⟩;have:=hf.2;simpa[abt]using this)
 refine⟨_,Rel.setVar hg,h3.good,λf hf=>?_⟩;rw[aY]at hf;rcases hf with hf|hf
 ·rw[aem,aS]at hf;obtain⟨r,hr,rfl⟩:=hf;exact⟨k,_,hb,ahl rfl,dh _ hr⟩
 ·exact h3.fs f hf
end
end
section
section
variable {P:Program} {F:Ut} {g:Own} {dp:Nat} {Γ : List OF} {a:Act} {w w':World} {d N:Nat} {v:Value}
theorem adQ {k o:Nat}{cs:Array Value}{e:TypeId}{fr:Nat×Nat}(hw:w.heap[k]? = some (.cells cs e fr))(h:(load ⟨k,o,none⟩).run P w = .ok v w'):w'=w/\cs[o]? = some v:=by
 rw[run_load]at h;cases hc:w.cell? ⟨k,o,none⟩with
 | some u=>rw[hc]at h;cases h;refine⟨rfl,?_⟩;simpa[gI,hw]using hc
 | none=>rw[hc]at h;simp only[World.farLoad,hw]at h;cases h
theorem N8 {k o:Nat}{cs:Array Value}{e:TypeId}{fr:Nat×Nat} : ∀(n i:Nat) (acc:Array Value) (w:World) (r:Array Value) (w':World),w.heap[k]? = some (.cells cs e fr)->(loadCellsFrom ⟨k,o,none⟩ i n acc).run P w = .ok r w' ->
 w'=w/\r.size=acc.size+n/\(∀j,j<acc.size->r[j]? = acc[j]?)/\∀j,j<n->∃u,cs[o+i+j]? = some u/\r[acc.size+j]? = some u
 | 0,i,acc,w,r,w',hw,h=>by unfold loadCellsFrom at h;obtain⟨rfl,rfl⟩:=iU h;exact⟨rfl,rfl,λ_ _=>rfl,λj hj=>al7 hj (Nat.not_lt_zero _)⟩
 | n+1,i,acc,w,r,w',hw,h=>by
   unfold loadCellsFrom at h;obtain⟨v,w1,h1,h2⟩:=dL h;rw[Addr.tJ]at h1;obtain⟨rfl,hv⟩:=adQ hw h1;obtain⟨h3,h4,h5,h6⟩:=N8 n (i+1) (acc.push v) _ r w' hw h2;refine⟨h3,by rw[h4];simp;omega,λj hj=>?_,λj hj=>?_⟩
   ·rw[h5 j (by simp;omega),Array.getElem?_push,ahk (by omega)]
   ·cases j with
    | zero=>refine⟨v,hv,?_⟩;have:=h5 acc.size (by simp);simpa using this
    | succ j=>obtain⟨u,h7,h8⟩:=h6 j (by omega);simp only[Array.size_push]at h8;exact⟨u,by rw[show o+i+(j+1)=o+(i+1)+j by omega];exact h7,by rw[show acc.size+(j+1)=acc.size+1+j by omega];exact h8⟩
theorem NQ {size n m c:Nat}{k:Nat}{cs:Array Value}{e:TypeId}{fr:Nat×Nat}{r:Array Value}(hw:w.heap[k]? = some (.cells cs e fr))(h:(iK size n (.slice (some ⟨k,0,none⟩) m c)).run P w = .ok r w') :
 w'=w/\r.size=n*size/\∀(j:Nat) (u:Value),r[j]? = some u->cs[j]? = some u:=by
 unfold iK loadCells at h;obtain⟨h1,h2,_,h4⟩:=N8 _ _ _ _ _ _ hw h;simp only[oI,iy,eU]at h2 h4;refine⟨h1,h2,λj u hj=>?_⟩;have hlt:=(dK.1 hj).1;rw[h2]at hlt;obtain⟨u',h5,h6⟩:=h4 j hlt;rw[hj]at h6;cases h6;simpa using h5
theorem acn {k o:Nat}{cs:Array Value}{e:TypeId}{u:Unit}(hw:w.heap[k]? = some (.cells cs e (0,0)))(h:(store ⟨k,o,none⟩ v).run P w = .ok u w'):v.oneCell'=true/\o<cs.size:=by
 have hone:v.oneCell'=true:=by cases v<;>first|rfl|(exfalso;simp[store,Sem.run]at h;done)
 refine⟨hone,?_⟩;rw[run_store P w _ _ _ hone]at h;cases hc:w.cell? ⟨k,o,none⟩with
 | some u=>simp only[gI,hw]at hc;exact(dK.1 (by simpa using hc)).1
 | none=>rw[hc]at h;simp only[World.farStore,hw]at h;cases h
theorem Ov {k o:Nat}{cs:Array Value}{e:TypeId}{vs:List Value}{u:Unit}(hw:w.heap[k]? = some (.cells cs e (0,0)))(h:(storeCells ⟨k,o,none⟩ vs).run P w = .ok u w')(hn:vs≠[]) :
 o+vs.length<=cs.size/\w'=w.setRow k (splice cs.toList o vs).toArray:=by
 have key:∀(vs:List Value) (i:Nat) (cs:Array Value) (w w':World),w.heap[k]? = some (.cells cs e (0,0))->(storeCells ⟨k,o,none⟩ vs i).run P w = .ok u w'->(∀v,v∈vs->v.oneCell'=true)/\(vs≠[]->o+i+vs.length<=cs.size):=by
  intro vs
  induction vs with
  |nil=>intro i cs w w' _ _;exact⟨λv hv=>(by cases hv),λh=>al7 rfl h⟩
  | cons v r ih=>
    intro i cs w w' hw h;unfold storeCells at h;obtain⟨u1,w1,h1,h2⟩:=dL h;rw[Addr.tJ]at h1;obtain⟨hone,hlt⟩:=acn hw h1;have hst:=run_storeCells_at P k o e [v] i cs w hw (by simp;omega) (by simpa using hone);unfold storeCells at hst;rw[cZ,Addr.tJ,h1]at hst;simp only[bn,storeCells,bQ]at hst;cases hst;have hw1:=setRow_heap w k cs (cs.toList.take (o+i)++[v]++cs.toList.drop (o+i+1)).toArray e (0,0) hw;obtain⟨h3,h4⟩:=ih (i+1) _ _ w' hw1 h2;refine⟨λx hx=>(ay.1 hx).elim (λe=>e▸hone) (λhx=>h3 x hx),λ_=>?_⟩;by_cases hr:r=[]
    ·subst hr;simp;omega
    ·have:=h4 hr;simp only[oI,List.length_append,gW,List.length_drop,iC,iy,mY]at this;simp only[iC];omega
 obtain⟨h1,h2⟩:=key vs 0 cs w w' hw h;have h3:=h2 hn;have hst:=run_storeCells_at P k o e vs 0 cs w hw h3 h1;rw[h]at hst;cases hst;exact⟨by simpa using h3,by rw[zI]⟩
end
end
section
def Nw (dp ms md:Nat)(ks kx:Option Nat)(k off:Nat):yE->yE
 |.blk b j=>if some b=ks then .blk k j else if some b=kx then .blk k (off+j)else .blk b j
 |.tag d m=>if d=dp/\m=ms then .tag dp md else .tag d m
 |.dead=>.dead
def Ef (dp:Nat)(ms:List Nat):yE->Bool
 |.tag d m=>decide (d=dp)&&ms.contains m
 |_=>false
section
variable {P:Program} {F:Ut} {g:Own} {dp:Nat} {Γ : List OF} {a:Act} {w w':World} {d N:Nat} {v:Value}
theorem OW.ap (h:OW P F g dp Γ a w){ms md:Nat}{dr:List Nat}{ks kx:Option Nat}{k off:Nat}(hs:∀b,ks=some b->∃T m,g b=some (.arr T (.tag dp m))/\m∈dr)(hx:∀b,kx=some b->∃T m,g b=some (.arr T (.tag dp m))/\m∈dr) :
 OW P F (g.re (Ef dp dr) (Nw dp ms md ks kx k off)) dp (Γ.filter (F7 (ms::dr))) a w:=by
 refine⟨h.good.re λb T p hb hp j=>⟨rfl,?_⟩,λf hf=>?_⟩
 ·have no:∀c:Option Nat,(∀b,c=some b->∃T m,g b=some (.arr T (.tag dp m))/\m∈dr)->¬some b=c:=by
   intro c hc e;obtain⟨T',m,h1,h2⟩:=hc b e.symm;rw[hb]at h1;cases h1;simp[Ef,h2]at hp
  simp only[Nw];rw[ahk (no ks hs),ahk (no kx hx)]
 ·rw[aX]at hf;refine(h.fs f hf.1).re λm hm=>?_;have h1:=hf.2;simp only[F7,hm,kH,zx,ay,alR,not_or]at h1;refine⟨by simp[Ef,h1.2],?_⟩;simp only[Nw];rw[ahk (λe=>h1.1 e.2)]
theorem Rel.ap {ms md:Nat}{dr:List Nat}{ks kx:Option Nat}{k off:Nat} : Rel dp N g (g.re (Ef dp dr) (Nw dp ms md ks kx k off)):=
 Rel.re λd m hd=>⟨by simp only[Ef,pK,alR];left;omega,by simp only[Nw];rw[ahk (by omega)]⟩
def apX (P:Program)(Γ : List OF)(T:Nat)(x:Operand):Option (List Nat):=
 if(lZ P T).isEmpty then some []else match x with
 |.tmp s=>(Γ.filterMap λf=>match f with|.ref y r=>if y=s/\r.off=0/\r.ty=T then some [r.m]else none|_=>none).head?
 |_=>none
theorem acU (h:OW P F g dp Γ a w){T:Nat}{x:Operand}{ms:List Nat}(hx:apX P Γ T x=some ms):(lZ P T=[]/\ms=[])\/∃m u,ms=[m]/\(a.eval x).cells[0]? = some u/\GR g u T (.tag dp m):=by
 unfold apX at hx;split at hx
 ·rename_i he;cases hx;exact .inl ⟨List.isEmpty_iff.1 he,rfl⟩
 ·split at hx
  ·rename_i s;have:=oH hx;rw[dJ]at this;obtain⟨f,hf,hm⟩:=this;split at hm
   ·split at hm
    ·rename_i y r hc;obtain⟨rfl,h0,rfl⟩:=hc;cases hm;obtain⟨u,hu,hg⟩:=h.fs _ hf;rw[h0]at hu;exact .inr ⟨r.m,u,rfl,hu,hg⟩
    ·cases hm
   ·cases hm
  ·cases hx
def apS (Γ : List OF)(T s:Nat):Option Nat:=(Γ.filterMap λf=>match f with|.ref y r=>if y=s/\r.off=0/\r.ty=T then some r.m else none|_=>none).head?
theorem ahw (h:OW P F g dp Γ a w){T s m:Nat}(hx:apS Γ T s=some m):∃u,(a.tmps.getD s undef).cells[0]? = some u/\GR g u T (.tag dp m):=by
 have:=oH hx;rw[dJ]at this;obtain⟨f,hf,hm⟩:=this;split at hm
 ·split at hm
  ·rename_i y r hc;obtain⟨rfl,h0,rfl⟩:=hc;cases hm;obtain⟨u,hu,hg⟩:=h.fs _ hf;rw[h0]at hu;exact⟨u,hu,hg⟩
  ·cases hm
 ·cases hm
theorem Fj {b:Option Addr}{n c:Nat}{u:Value}(h:(Dh b n c).cells[0]? = some u):u = .slice b n c:=by simpa[mO]using h.symm
def amo (P:Program)(Γ : List OF)(T s:Nat)(x:Operand):Option (Nat×List Nat):=match apS Γ T s,apX P Γ T x with
 |some m,some ms=>if ms.contains m || !Ho P T then none else some (m,ms)
 |_,_=>none
theorem NR {size n m c:Nat}{r:Array Value}(h:(iK size n (.slice none m c)).run P w = .ok r w'):w'=w/\r = #[]:=by unfold iK at h;obtain⟨rfl,rfl⟩:=iU h;exact⟨rfl,rfl⟩
theorem YO (h:OW P F g dp Γ a w){T:Nat}{x:Operand}{ms:List Nat}(hx:apX P Γ T x=some ms){size n nx:Nat}{bx:Option Addr}{cx:Nat}(hxv:a.eval x = .slice bx nx cx){new:Array Value}(hn:(iK size n (a.eval x)).run P w = .ok new w')(hsz:size=wz P T)(hnx:n<=nx) :
 ∃kx:Option Nat,(∀b,kx=some b->∃T m,g b=some (.arr T (.tag dp m))/\m∈ms)/\(∀j u T',new[j]? = some u->(j%wz P T,T')∈lZ P T->∃b,kx=some b/\GR g u T' (.blk b j))/\(lZ P T=[]\/new.size=n*size):=by
 rcases acU h hx with⟨he,rfl⟩|⟨m,u,rfl,hu,hg⟩
 ·exact⟨none,λb hb=>(by cases hb),λj u T' _ ht=>(by rw[he]at ht;cases ht),.inl he⟩
 ·rw[hxv]at hu hn;have:=Fj hu;subst this;rcases hg with e|⟨k,n',c',e,hk⟩
  ·cases e;obtain⟨_,rfl⟩:=NR hn;exact⟨none,λb hb=>(by cases hb),λj u T' hj _=>(by simp at hj),.inr (by rw[Nat.le_zero.1 hnx];simp)⟩
  ·cases e;obtain⟨cs,e,hw,hc⟩:=h.good.arr _ _ _ hk.1;obtain⟨h1,h2,h3⟩:=NQ hw hn;exact⟨some k,λb hb=>(by cases hb;exact⟨T,m,hk.1,aW ..⟩),λj u T' hj ht=>⟨k,rfl,hc j u T' (by have hlt:=(dK.1 hj).1;rw[h2,hsz]at hlt;exact kQ hlt (aQ _ (bH hnx hk.2))) (h3 j u hj) ht⟩,.inr h2⟩
end
end
section
section
variable {P:Program} {F:Ut} {g:Own} {dp:Nat} {Γ : List OF} {a:Act} {w w':World} {d N:Nat} {v:Value}
theorem II {size n:Nat}{x:Value}{r:Array Value}(h:(iK size n x).run P w = .ok r w'):w'=w:=by
 unfold iK at h;split at h
 ·unfold loadCells at h;exact(LM _ _ _ _ _ _ h).1
 ·exact(iU h).2
 ·exact(iU h).2
 ·cases h
theorem OW.drew (h:OW P F g dp Γ a w):OW P F g dp Γ a w.drew:=h.world (aA _) λ_ _=>rfl
def Own.grow (g:Own)(k n:Nat):Own:=⟨g.b,λk'=>if k'=k then n else g.bd k'⟩
theorem GR.grow {u:Value}{T:Nat}{p:yE}{k n:Nat}(h:GR g u T p)(hn:g.bd k<=n):GR (g.grow k n) u T p:=by
 rcases h with h|⟨k',m,c,h1,h2,h3⟩
 ·exact .inl h
 ·refine .inr ⟨k',m,c,h1,h2,?_⟩;show m<=if k'=k then n else g.bd k'
  split
  ·rename_i e;subst e;exact bH h3 hn
  ·exact h3
theorem OW.grow (h:OW P F g dp Γ a w){k n T:Nat}{p:yE}{cs:Array Value}{e:TypeId}(hw:w.heap[k]? = some (.cells cs e (0,0)))(hk:g k=some (.arr T p))(hn:g.bd k<=n)
 (hc:∀j u T',j<n*wz P T->cs[j]? = some u->(j%wz P T,T')∈lZ P T->GR g u T' (.blk k j)):OW P F (g.grow k n) dp Γ a w:=by
 refine⟨⟨λk' T' p' hk'=>?_,λk' row d b hk'=>?_⟩,λf hf=>?_⟩
 ·by_cases e1:k'=k
  ·subst e1;have e2:g k'=some (.arr T' p'):=hk';rw[hk]at e2;cases e2;exact⟨cs,e,hw,λj u T' hb hu ht=>(hc j u T' (by simpa[Own.grow]using hb) hu ht).grow hn⟩
  ·obtain⟨cs',e',hw',h2⟩:=h.good.arr k' T' p' hk';exact⟨cs',e',hw',λj u T' hb hu ht=>(h2 j u T' (by simpa[Own.grow,e1]using hb) hu ht).grow hn⟩
 ·obtain⟨cs',e',hw',h2⟩:=h.good.var k' row d b hk';exact⟨cs',e',hw',λr hr=>let ⟨u,hu,hg⟩:=h2 r hr;⟨u,hu,hg.grow hn⟩⟩
 ·have h0:=h.fs f hf;cases f with
  |ref t r=>obtain⟨u,h1,h2⟩:=h0;exact⟨u,h1,h2.grow hn⟩
  |EO t i r=>obtain⟨vs,x,u,h1,h2,h3,h4⟩:=h0;exact⟨vs,x,u,h1,h2,h3,h4.grow hn⟩
  |_=>exact h0
theorem Rel.grow {k n T m:Nat}(hk:g k=some (.arr T (.tag dp m))):Rel dp N g (g.grow k n):=
 ⟨λk' T' d m' hd hk'=>⟨hk',by show(if k'=k then n else g.bd k')=g.bd k';rw[ahk];rintro rfl;rw[hk]at hk';cases hk';omega⟩,λ_ _ _ _ _ h=>h,(Rel.refl dp N g).old⟩
theorem akB (h:OW P F g dp Γ a w)(hd:d<a.tmps.size){T m:Nat}{ms:List Nat}(hm:m ∉ ms){s:Nat}{sLen sCap need:Nat}{base:Option Addr}(hsv:a.tmps.getD s undef = .slice base sLen sCap)(hs:GR g (.slice base sLen sCap) T (.tag dp m))
 {kx:Option Nat} {new:Array Value} (h1:∀b,kx=some b->∃T m,g b=some (.arr T (.tag dp m))/\m∈ms) (h2:∀j u T',new[j]? = some u->(j%wz P T,T')∈lZ P T->∃b,kx=some b/\GR g u T' (.blk b j)) (hnd:lZ P T=[]\/new.size=(need-sLen)*wz P T) (hnl:sLen<=need) (hnc:base=none->need=0/\sCap=0)
 (hst:(match base with|some a=>storeCells (a.add (sLen*wz P T)) new.toList|none=>pure ()).run P w = .ok () w') :
 ∃g',Rel dp N g g'/\OW P F g' dp (.ref d ⟨0,T,mk d 0⟩::(Γ.filter (F7 (m::ms))).filter (Jm d)) (a.put (some d) (.slice base need sCap)) w':=by
 rcases hs with e|⟨k,n',c',e,hk,hkb⟩
 ·cases e;obtain⟨rfl,_⟩:=hnc rfl;obtain⟨_,rfl⟩:=iU hst;have h3:=(h.ap (ms:=m) (md:=mk d 0) (dr:=ms) (ks:=none) (kx:=kx) (k:=0) (off:=0) (λb hb=>by cases hb) h1).drop d (.slice none 0 0);exact⟨_,Rel.ap,h3.add ⟨.slice none 0 0,by rw[gB hd];rfl,.inl rfl⟩⟩
 ·cases e
  dsimp only at hst
  rw[Addr.tJ,eU]at hst;have h3:=h.ap (ms:=m) (md:=mk d 0) (dr:=ms) (ks:=none) (kx:=kx) (k:=k) (off:=sLen*wz P T) (λb hb=>by cases hb) h1;have hk':(g.re (Ef dp ms) (Nw dp m (mk d 0) none kx k (sLen*wz P T))) k=some (.arr T (.tag dp (mk d 0))):=by simp[Own.re,hk,Ef,hm,Nw]
  obtain⟨cs,e,hw,hc⟩:=h.good.arr _ _ _ hk;have hlim:∀j T',j<max (g.bd k) need*wz P T->(j%wz P T,T')∈lZ P T->sLen*wz P T+new.size<=j->j<g.bd k*wz P T:=by
   intro j T' hj ht hge;rcases hnd with hnd|hnd
   ·rw[hnd]at ht;cases ht
   ·by_cases hm:need<=g.bd k
    ·rwa[Nat.max_eq_left hm]at hj
    ·rw[Nat.max_eq_right (by omega),show need=sLen+(need-sLen) by omega,cO]at hj;omega
  have aeS:∀j u T',j<g.bd k*wz P T->cs[j]? = some u->(j%wz P T,T')∈lZ P T->GR (g.re (Ef dp ms) (Nw dp m (mk d 0) none kx k (sLen*wz P T))) u T' (.blk k j):=by obtain⟨cs',e',hw',hold⟩:=h3.good.arr _ _ _ hk';rw[hw]at hw';cases hw';exact hold
  have fin:∀{w'':World} {cs2:Array Value},OW P F (g.re (Ef dp ms) (Nw dp m (mk d 0) none kx k (sLen*wz P T))) dp (Γ.filter (F7 (m::ms))) a w''->w''.heap[k]? = some (.cells cs2 e (0,0)) ->
   (∀j u T',j<max (g.bd k) need*wz P T->cs2[j]? = some u->(j%wz P T,T')∈lZ P T->GR (g.re (Ef dp ms) (Nw dp m (mk d 0) none kx k (sLen*wz P T))) u T' (.blk k j)) ->
   ∃g',Rel dp N g g'/\OW P F g' dp (.ref d ⟨0,T,mk d 0⟩::(Γ.filter (F7 (m::ms))).filter (Jm d)) (a.put (some d) (.slice (some ⟨k,0,none⟩) need sCap)) w'':=λh4 hw4 hc4=>
   ⟨_,Rel.ap.trans (Rel.grow hk'),((h4.grow hw4 hk' (Cc _ _) hc4).drop d _).add ⟨.slice (some ⟨k,0,none⟩) need sCap,by rw[gB hd];rfl,.inr ⟨k,_,_,rfl,hk',by
    show need<=if k=k then max (g.bd k) need else _
    rw[ahl rfl];exact Nat.le_max_right _ _⟩⟩⟩
  by_cases hne:new.toList=[]
  ·rw[hne]at hst;unfold storeCells at hst;obtain⟨_,rfl⟩:=iU hst;exact fin h3 hw λj u T' hj hu ht=>(by
    have hn0:new.size=0:=(by rw[<- mY,hne];rfl);by_cases hjs:j<sLen*wz P T
    ·exact aeS j u T' (kQ hjs (aQ _ hkb)) hu ht
    ·exact aeS j u T' (hlim j T' hj ht (by omega)) hu ht)
  ·obtain⟨hfit,rfl⟩:=Ov hw hst hne;have key:∀j u T',j<max (g.bd k) need*wz P T->(splice cs.toList (sLen*wz P T) new.toList).toArray[j]? = some u->(j%wz P T,T')∈lZ P T->GR (g.re (Ef dp ms) (Nw dp m (mk d 0) none kx k (sLen*wz P T))) u T' (.blk k j):=?_
   ·refine fin (h3.aam hw λB hB=>?_) (setRow_heap w k cs _ e (0,0) hw) key;rw[hk']at hB;cases hB;exact⟨_,_,rfl,λj u T' hb=>key j u T' (kQ hb (aQ _ (Cc _ _)))⟩
   intro j u T' hjm hj ht;rw[Js (by simpa using hfit)]at hj;by_cases hj1:j<sLen*wz P T
   ·rw[ahl hj1]at hj;exact aeS j u T' (kQ hj1 (aQ _ hkb)) hj ht
   ·rw[ahk hj1]at hj;by_cases hj2:j<sLen*wz P T+new.size
    ·rw[ahl hj2]at hj;have hmod:(j-sLen*wz P T)%wz P T=j%wz P T:=by
      conv=>rhs;rw[show j=(j-sLen*wz P T)+sLen*wz P T by omega]
      rw[wW]
     rw[<- hmod]at ht;obtain⟨b,rfl,hgr⟩:=h2 _ u T' hj ht;have:=hgr.re (dr:=Ef dp ms) rfl (Nw dp m (mk d 0) none (some b) k (sLen*wz P T));simp only[Nw,reduceCtorEq,if_false,amB]at this;rw[show sLen*wz P T+(j-sLen*wz P T)=j by omega]at this;exact this
    ·rw[ahk hj2]at hj;exact aeS j u T' (hlim j T' hjm ht (by omega)) hj ht
theorem akA (h:OW P F g dp Γ a w)(hd:d<a.tmps.size)(hN:N<=w.heap.size){T e m need newCap:Nat}{ms:List Nat}(hm:m ∉ ms){sLen sCap:Nat}{base:Option Addr}(hs:GR g (.slice base sLen sCap) T (.tag dp m))
 {kx:Option Nat} {old new rest:Array Value} (h1:∀b,kx=some b->∃T m,g b=some (.arr T (.tag dp m))/\m∈ms) (h2:∀j u T',new[j]? = some u->(j%wz P T,T')∈lZ P T->∃b,kx=some b/\GR g u T' (.blk b j))
 (hold:(iK (wz P T) sLen (.slice base sLen sCap)).run P w = .ok old w')
 (hrest:∀j u T',rest[j]? = some u->(j%wz P T,T')∈lZ P T->ZV u) (aim:lZ P T=[]\/new.size=(need-sLen)*wz P T) :
 ∃g',Rel dp N g g'/\OW P F g' dp (.ref d ⟨0,T,mk d 0⟩::(Γ.filter (F7 (m::m::ms))).filter (Jm d)) (a.put (some d) (.slice (some ⟨w.heap.size,0,none⟩) need newCap)) (w.alloc (.cells (old++new++rest) e)):=by
 have hks:∃ks:Option Nat,(∀b,ks=some b->∃T m',g b=some (.arr T (.tag dp m'))/\m'∈m::ms)/\(∀j u T',old[j]? = some u->(j%wz P T,T')∈lZ P T->∃b,ks=some b/\GR g u T' (.blk b j))/\old.size%wz P T=0/\(∀b,ks=some b->kx≠some b):=by
  rcases hs with e|⟨k,n',c',e,hk,hkb⟩
  ·cases e;obtain⟨_,rfl⟩:=NR hold;exact⟨none,λb hb=>(by cases hb),λj u T' hj _=>(by simp at hj),by simp,λb hb=>(by cases hb)⟩
  ·cases e;obtain⟨cs,e,hw,hc⟩:=h.good.arr _ _ _ hk;obtain⟨_,hsz,hget⟩:=NQ hw hold;refine⟨some k,λb hb=>(by cases hb;exact⟨T,m,hk,aW ..⟩),λj u T' hj ht=>⟨k,rfl,hc j u T' (by
    have hlt:=(dK.1 hj).1;rw[hsz]at hlt;exact kQ hlt (aQ _ hkb)) (hget j u hj) ht⟩,by rw[hsz];simp,λb hb e=>?_⟩
   cases hb;obtain⟨T',m',h3,h4⟩:=h1 _ e;rw[hk]at h3;cases h3;exact hm h4
 obtain⟨ks,k1,k2,k3,k4⟩:=hks;have h3:=h.ap (ms:=m) (md:=mk d 0) (dr:=m::ms) (ks:=ks) (kx:=kx) (k:=w.heap.size) (off:=old.size) k1 (λb hb=>let ⟨T,m',e1,e2⟩:=h1 b hb;⟨T,m',e1,dY _ e2⟩);obtain⟨g',hrel,how⟩:=h3.akC (d:=d) (N:=N) (cs:=old++new++rest) (e:=e) (T:=T) (n:=need) (c:=newCap) (m:=mk d 0) hd hN (λj u T' hj ht=>by
  rw[Array.getElem?_append]at hj;split at hj
  ·rename_i hlt;rw[Array.getElem?_append]at hj;split at hj
   ·obtain⟨b,rfl,hgr⟩:=k2 j u T' hj ht;have:=hgr.re (dr:=Ef dp (m::ms)) rfl (Nw dp m (mk d 0) (some b) kx w.heap.size old.size);simp only[Nw,amB]at this;exact this
   ·rename_i hge;have hmod:(j-old.size)%wz P T=j%wz P T:=by
     have e1:j=(j-old.size)+old.size:=by omega
     conv=>rhs;rw[e1]
     rw[yh,k3,rQ,Jv]
    rw[<- hmod]at ht;obtain⟨b,rfl,hgr⟩:=h2 _ u T' hj ht;have:=hgr.re (dr:=Ef dp (m::ms)) rfl (Nw dp m (mk d 0) ks (some b) w.heap.size old.size);simp only[Nw,amB]at this;rw[ahk (λe=>k4 b e.symm rfl),show old.size+(j-old.size)=j by omega]at this;exact this
  ·rename_i hge;rcases aim with aim|aim
   ·rw[aim]at ht;cases ht
   refine .inl (hrest _ u T' hj ?_);have e1:j=(j-(old++new).size)+(old++new).size:=(by omega);have hmod:(j-(old++new).size)%wz P T=j%wz P T:=by
    conv=>rhs;rw[e1]
    rw[yh,show(old++new).size%wz P T=0 by rw[Array.size_append,yh,k3,aim];simp,rQ,Jv]
   rw[hmod];exact ht)
 exact⟨g',Rel.ap.trans hrel,how⟩
theorem adl {q:Question}{n:Nat}(h:(choose q).run P w = .ok n w'):w'=w\/w'=w.drew:=by
 unfold choose at h;simp only[Sem.run]at h;split at h
 ·cases h;exact .inl rfl
 ·cases h;exact .inr rfl
theorem acV (h:OW P F g dp Γ a w)(hd:d<a.tmps.size)(hN:N<=w.heap.size){o:Oper}{s T t2:Nat}{x:Operand}{e2 m:Nat}{ms:List Nat}(ho:o.op = .call { callee:=.builtin .append,args:=⟨[.tmp s,x]⟩,argTypes:=⟨[T,t2]⟩ })(ht2:P.underlying t2=some (.slice e2))(hok:amo P Γ T s x=some (m,ms))
 (hr:(execOp a.eval o).run P w = .ok (.value v) w'):∃g',Rel dp N g g'/\OW P F g' dp (.ref d ⟨0,T,mk d 0⟩::(Γ.filter (F7 (m::m::ms))).filter (Jm d)) (a.put (some d) v) w':=by
 unfold amo at hok;split at hok
 ·rename_i m0 ms0 hs hx;split at hok
  ·cases hok
  ·rename_i hcond;cases hok;simp only[gV,zx,ahm,kH,not_or,Bool.not_eq_false]at hcond;obtain⟨hm,hz⟩:=hcond;have hA:(gY #[T,t2] o.type #[a.tmps.getD s undef,a.eval x]).run P w = .ok v w':=by
    simp only[execOp,ho,resolve,invoke,builtin,cZ,bQ,bn,lC,aZ,jH]at hr;have e1:a.eval (.tmp s)=a.tmps.getD s undef:=rfl;rw[e1]at hr;cases hq:(gY #[T,t2] o.type #[a.tmps.getD s undef,a.eval x]).run P w with
    |ok v1 w1=>rw[hq]at hr;cases hr;rfl
    |halt e w1=>rw[hq]at hr;cases hr
   clear hr;obtain⟨u,hu,hgs⟩:=ahw h hs;simp only[gY,nH,dN,dM]at hA;obtain⟨de,w1,h1,k1⟩:=dL hA;obtain⟨hut,rfl⟩:=CW h1;clear hA;split at k1
   ·rename_i elem;split at k1
    ·rename_i base sLen sCap hsv;obtain⟨size,w2,h2,k2⟩:=dL k1;obtain⟨i,hi,rfl,rfl⟩:=Gg h2;clear k1;have hes:=adr hut hi;obtain⟨de2,w3,h3,k3⟩:=dL k2;obtain⟨hu2,rfl⟩:=CW h3;rw[ht2]at hu2;cases hu2;clear k2;obtain⟨zeros,w4,h4,k4⟩:=dL k3;obtain⟨rfl,rfl⟩:=iU h4;clear k3;simp only[Bool.false_eq_true,if_false,Bool.not_false,amB]at k4;obtain⟨n,w5,h5,k5⟩:=dL k4;clear k4;rw[hsv]at hu;have hus:=Fj hu;subst hus;have hlx:w5=w4/\((∃bx cx,a.eval x = .slice bx n cx)\/∃st,a.eval x = .string st):=by
      unfold rH at h5;split at h5
      ·rename_i b n' c heq;obtain⟨rfl,rfl⟩:=iU h5;exact⟨rfl,.inl ⟨_,_,heq⟩⟩
      ·rename_i st heq;obtain⟨rfl,rfl⟩:=iU h5;exact⟨rfl,.inr ⟨_,heq⟩⟩
      ·cases h5
     obtain⟨rfl,hxs⟩:=hlx;have hnc:∀{new:Array Value} {wn:World},(iK i.size n (a.eval x)).run P w5 = .ok new wn->∃kx:Option Nat,(∀b,kx=some b->∃T m,g b=some (.arr T (.tag dp m))/\m∈ms)/\(∀(j:Nat) (u:Value) (T':Nat),new[j]? = some u->(j%wz P T,T')∈lZ P T->∃b,kx=some b/\GR g u T' (.blk b j))/\(lZ P T=[]\/new.size=n*i.size):=by
      intro new wn hn;rcases hxs with⟨bx,cx,hxv⟩|⟨st,hxv⟩
      ·exact YO h hx hxv hn hes.symm (aA _)
      ·rcases acU h hx with⟨he,rfl⟩|⟨m2,u2,rfl,hu2,hg2⟩
       ·exact⟨none,λb hb=>(by cases hb),λj u T' _ ht=>(by rw[he]at ht;cases ht),.inl he⟩
       ·rw[hxv]at hu2;simp only[mO]at hu2;have:u2 = .string st:=(by simpa using hu2.symm);subst this;rcases hg2 with e|⟨_,_,_,e,_⟩<;>cases e
     split at k5
     ·rename_i hcap;obtain⟨new,w6,h6,k6⟩:=dL k5;have e6:=II h6;subst e6;obtain⟨kx,c1,c2,c3⟩:=hnc h6;have hroom:=akB (N:=N) h hd (need:=sLen+n) hm hsv hgs c1 c2 (w':=w') (by rw[Nat.add_sub_cancel_left,hes];exact c3) (by omega) (λhb=>by
       subst hb;rcases hgs with e|⟨_,_,_,e,_⟩
       ·cases e;exact⟨by omega,rfl⟩
       ·cases e)
      cases base with
      | none=>
        dsimp only at k6
        obtain⟨rfl,rfl⟩:=iU k6;obtain⟨g',r1,r2⟩:=hroom (by dsimp only;rfl);refine⟨g',r1,r2.weak λf hf=>?_⟩;simp only[ay,aX]at hf⊢;rcases hf with hf|⟨⟨h7,h8⟩,h9⟩
        ·exact .inl hf
        ·refine .inr ⟨⟨h7,?_⟩,h9⟩;unfold F7 at h8⊢;split<;>simp_all
      | some ad=>
        dsimp only at k6
        obtain⟨u0,w7,h7,k7⟩:=dL k6;obtain⟨rfl,rfl⟩:=iU k7;rw[<- hes]at h7;obtain⟨g',r1,r2⟩:=hroom (by cases u0;exact h7);refine⟨g',r1,r2.weak λf hf=>?_⟩;simp only[ay,aX]at hf⊢;rcases hf with hf|⟨⟨h7,h8⟩,h9⟩
        ·exact .inl hf
        ·refine .inr ⟨⟨h7,?_⟩,h9⟩;unfold F7 at h8⊢;split<;>simp_all
     ·obtain⟨i1,w6,h6,k6⟩:=dL k5;obtain⟨_,rfl⟩:=KO h6;clear k5;split at k6
      ·obtain⟨_,_,h7,_⟩:=dL k6;exact(Oe h7).elim
      ·obtain⟨i2,w7,h7,k7⟩:=dL k6;obtain⟨_,rfl⟩:=KO h7;clear k6;split at k7
       ·obtain⟨_,_,h8,_⟩:=dL k7;obtain⟨_,_,_,h9⟩:=dL h8;split at h9
        ·obtain⟨_,_,_,h10⟩:=dL h9;cases h10
        ·cases h9
       ·obtain⟨newCap,w8,h8,k8⟩:=dL k7;have how:OW P F g dp Γ a w8/\w8.heap=w7.heap:=by
         rcases adl h8 with rfl|rfl
         ·exact⟨h,rfl⟩
         ·exact⟨h.drew,rfl⟩
        obtain⟨h',hheap⟩:=how;obtain⟨i3,w9,h9,k9⟩:=dL k8;obtain⟨_,rfl⟩:=KO h9;obtain⟨_,w10,h10,k10⟩:=dL k9;have:=aeD h10;subst this;obtain⟨old,w11,h11,k11⟩:=dL k10;have:=II h11;subst this;obtain⟨new,w12,h12,k12⟩:=dL k11;have:=II h12;subst this;obtain⟨z,w13,h13,k13⟩:=dL k12;obtain⟨⟨i4,hi4,hzero⟩,rfl⟩:=Sz h13;rw[hi]at hi4;cases hi4;obtain⟨p,w14,h14,k14⟩:=dL k13;unfold newRow at h14;obtain⟨q,w15,h15,h16⟩:=dL h14;rw[run_newObj]at h15;cases h15;obtain⟨rfl,rfl⟩:=iU h16;obtain⟨rfl,rfl⟩:=iU k14;have hnc':∃kx:Option Nat,(∀b,kx=some b->∃T m,g b=some (.arr T (.tag dp m))/\m∈ms)/\(∀(j:Nat) (u:Value) (T':Nat),new[j]? = some u->(j%wz P T,T')∈lZ P T->∃b,kx=some b/\GR g u T' (.blk b j))/\(lZ P T=[]\/new.size=n*i.size):=by
         rcases hxs with⟨bx,cx,hxv⟩|⟨st,hxv⟩
         ·exact YO h' hx hxv h12 hes.symm (aA _)
         ·rcases acU h' hx with⟨he,rfl⟩|⟨m2,u2,rfl,hu2,hg2⟩
          ·exact⟨none,λb hb=>(by cases hb),λj u T' _ ht=>(by rw[he]at ht;cases ht),.inl he⟩
          ·rw[hxv]at hu2;simp only[mO]at hu2;have:u2 = .string st:=(by simpa using hu2.symm);subst this;rcases hg2 with e|⟨_,_,_,e,_⟩<;>cases e
        obtain⟨kx,c1,c2,c3⟩:=hnc';rw[hsv,<- hes]at h11;rw[<- hes]at c3;exact akA h' hd (by rw[hheap];exact hN) hm hgs c1 c2 h11 (λj u T' hj ht=>Ko hz hut hi hzero (λj u hj=>by simp only[Go.Builtin.zeroCells]at hj;rw[pO]at hj;simp only[bW]at hj;obtain⟨j',hj',rfl⟩:=hj;have:=dK.1 hj';simp at this;rw[this.2]) j u T' hj ht) (by rw[Nat.add_sub_cancel_left];exact c3)
    ·cases k1
   ·cases k1
 ·cases hok
end
end
section
section
variable {P:Program} {F:Ut} {g:Own} {dp:Nat} {Γ : List OF} {a:Act} {w w':World} {d N:Nat} {v:Value}
theorem ahL (h:OW P F g dp Γ a w){o:Oper}{s T t2:Nat}{x:Operand}{m:Nat}(ho:o.op = .call { callee:=.builtin .copy,args:=⟨[.tmp s,x]⟩,argTypes:=⟨[T,t2]⟩ })(hs:apS Γ T s=some m)(he:lZ P T=[])
 (hr:(execOp a.eval o).run P w = .ok (.value v) w'):OW P F g dp Γ a w':=by
 have hA:(mg #[T,t2] o.type #[a.tmps.getD s undef,a.eval x]).run P w = .ok v w':=by
  simp only[execOp,ho,resolve,invoke,builtin,cZ,bQ,bn,lC,aZ,jH]at hr;have e1:a.eval (.tmp s)=a.tmps.getD s undef:=rfl;rw[e1]at hr;cases hq:(mg #[T,t2] o.type #[a.tmps.getD s undef,a.eval x]).run P w with
  |ok v1 w1=>rw[hq]at hr;cases hr;rfl
  |halt e w1=>rw[hq]at hr;cases hr
 clear hr;obtain⟨u,hu,hgs⟩:=ahw h hs;simp only[mg,nH,dN,dM]at hA;obtain⟨de,w1,h1,k1⟩:=dL hA;obtain⟨hut,rfl⟩:=CW h1;clear hA;split at k1
 ·rename_i elem;split at k1
  ·rename_i base dLen dCap hsv;rw[hsv]at hu;have hus:=Fj hu;subst hus;obtain⟨n,w2,h2,k2⟩:=dL k1;have:w2=w1:=by
    unfold rH at h2;split at h2
    ·exact(iU h2).2
    ·exact(iU h2).2
    ·cases h2
   subst this;obtain⟨sz,w3,h3,k3⟩:=dL k2;obtain⟨i,hi,rfl,rfl⟩:=Gg h3;obtain⟨cells,w4,h4,k4⟩:=dL k3;have:=II h4;subst this;clear k1 k2 k3;rcases hgs with e|⟨k,n',c',e,hk,_⟩
   ·cases e
    dsimp only at k4
    obtain⟨_,rfl⟩:=iU k4;exact h
   ·cases e
    dsimp only at k4
    obtain⟨u0,w5,h5,k5⟩:=dL k4;obtain⟨_,rfl⟩:=iU k5;obtain⟨cs,e,hw,hc⟩:=h.good.arr _ _ _ hk;by_cases hne:cells.toList=[]
    ·rw[hne]at h5;unfold storeCells at h5;obtain⟨_,rfl⟩:=iU h5;exact h
    ·obtain⟨_,rfl⟩:=Ov hw h5 hne;refine h.aam hw λB hB=>?_;rw[hk]at hB;cases hB;exact⟨_,_,rfl,λj u T' _ _ ht=>by rw[he]at ht;cases ht⟩
  ·cases k1
 ·cases k1
end
structure OR where
 kill:List Nat
 rm:Option (Nat×Nat×Nat)
 new:List OF
def aeU (d:Option Nat)(R:OR)(f:OF):Bool:=F7 R.kill f&&(match R.rm with|some (b,o,k)=> !abt b o k f|none=>true)&&(match d with|some d=>Jm d f|none=>true)
def ae8 (Γ : List OF)(d:Option Nat)(R:OR):List OF:=R.new ++ Γ.filter (aeU d R)
def aes (p:Nat):OF->Option (Nat×Nat)
 |.vp x b o=>if x=p then some (b,o)else none
 |_=>none
def an5 (p:Nat):OF->Option (Nat×Nat)
 |.ep x T o=>if x=p then some (T,o)else none
 |_=>none
def aoM (P:Program)(Γ : List OF)(t p:Nat)(x:Operand):Option OR:=match P.info? t with
 | some i=>(match(Γ.filterMap (aes p)).head? with
   |some (b,o)=>some ⟨[],some (b,o,i.size),aem Γ b o i.size x⟩
   | none=>(match(Γ.filterMap (an5 p)).head? with
     |some (T,o)=>if aat P Γ T o i.size x then some ⟨RZ (Gx Γ 0 i.size x),none,[]⟩else none
     |none=>none))
 |none=>none
def aoK (P:Program)(Γ : List OF)(d T s t2:Nat)(x:Operand):Option OR:=match P.underlying t2,amo P Γ T s x with
 |some (.slice _),some (m,ms)=>some ⟨m::m::ms,none,[.ref d ⟨0,T,mk d 0⟩]⟩
 |_,_=>none
def aoL (P:Program)(Γ : List OF)(T s:Nat):Option OR:=match apS Γ T s with
 |some _=>if(lZ P T).isEmpty then some ⟨[],none,[]⟩else none
 |none=>none
def ajg (P:Program)(Γ : List OF)(d:Option Nat)(op:Op):Option OR:=match op,d with
 |.store t (.tmp p) x,none=>aoM P Γ t p x
 |.alloc t,some d=>some ⟨[],none,aaw d (rowOf d (VD P t))⟩
 |.box _ x,some d=>some ⟨[],none,aaw d (rowOf d (Gx Γ 0 1000 x))⟩
 |.build t ps,some d=>some ⟨[],none,(rowOf d (Zb P Γ t ps.toList)).map (.ref d)⟩
 |.makeSlice T _ _,some d=>if Ho P T then some ⟨[],none,[.ref d ⟨0,T,mk d 0⟩]⟩else none
 |.buildSlice T len ps,some d=>if VW P Γ T len ps.toList then some ⟨RZ (Lr P Γ T len ps.toList),none,[.ref d ⟨0,T,mk d 0⟩]⟩else none
 |.call { callee:=.builtin .append,args:=⟨[.tmp s,x]⟩,argTypes:=⟨[T,t2]⟩ },some d=>aoK P Γ d T s t2 x
 |.call { callee:=.builtin .copy,args:=⟨[.tmp s,_]⟩,argTypes:=⟨[T,_]⟩ },_=>aoL P Γ T s
 |op,some d=>if DF op then some ⟨[],none,oq P Γ d op⟩else none
 |_,none=>none
section
variable {P:Program} {F:Ut} {g:Own} {dp:Nat} {Γ : List OF} {a:Act} {w w':World} {N:Nat} {v:Value}
theorem CS {d:Option Nat}{R:OR}{f:OF} : f∈ae8 Γ d R<->f∈R.new\/f ∈ Γ /\ aeU d R f=true:=by simp[ae8,aX]
theorem abW (h:OW P F g dp Γ a w)(hN:N<=w.heap.size){o:Oper}{R:OR}(hd:∀d,o.dst=some d->d<a.tmps.size)(hs:ajg P Γ o.dst o.op=some R)
 (hr:(execOp a.eval o).run P w = .ok (.value v) w'\/(execOp a.eval o).run P w = .ok .skip w'/\o.dst=none) (he:Eff o a w w') :
 ∃g',Rel dp N g g'/\OW P F g' dp (ae8 Γ o.dst R) (a.put o.dst v) w':=by
 have kp:∀{d:Option Nat} {R:OR} {f:OF},aeU d R f=true->F7 R.kill f=true/\(∀b o k,R.rm=some (b,o,k)->abt b o k f=false)/\(∀d',d=some d'->Jm d' f=true):=by
  intro d R f hk;simp only[aeU,ah]at hk;refine⟨hk.1.1,λb o k e=>?_,λd' e=>?_⟩
  ·have:=hk.1.2;rw[e]at this;simpa using this
  ·have:=hk.2;rw[e]at this;exact this
 generalize hop:o.op=op at hs;generalize hdst:o.dst=dst at hs hd⊢;rw[hdst]at hr;unfold ajg at hs;split at hs
 ·
  rename_i t p x;unfold aoM at hs;split at hs
  ·rename_i i hi;have hrun:∃r,(execOp a.eval o).run P w = .ok r w':=hr.elim (λhr=>⟨_,hr⟩) (λhr=>⟨_,hr.1⟩);obtain⟨r,hrun⟩:=hrun;split at hs
   ·rename_i b off hvp;cases hs;have hm:=oH hvp;rw[dJ]at hm;obtain⟨f,hf,hm⟩:=hm;unfold aes at hm;split at hm
    ·split at hm
     ·rename_i e;subst e;cases hm;obtain⟨g',h1,h2⟩:=agZ (N:=N) h hop hrun he hi hf;refine⟨g',h1,h2.weak λf hf=>?_⟩;rw[CS]at hf;rw[aY,aX];rcases hf with hf|⟨hf,hk⟩
      ·exact .inl hf
      ·exact .inr ⟨hf,by rw[(kp hk).2.1 _ _ _ rfl];rfl⟩
     ·cases hm
    ·cases hm
   ·split at hs
    ·rename_i T off hep;split at hs
     ·rename_i hok;cases hs;have hm:=oH hep;rw[dJ]at hm;obtain⟨f,hf,hm⟩:=hm;unfold an5 at hm;split at hm
      ·split at hm
       ·rename_i e;subst e;cases hm;obtain⟨g',h1,h2⟩:=agY (N:=N) h hop hrun he hi hf hok;refine⟨g',h1,h2.weak λf hf=>?_⟩;rw[CS]at hf;rw[aX];rcases hf with hf|⟨hf,hk⟩
        ·cases hf
        ·exact⟨hf,(kp hk).1⟩
       ·cases hm
      ·cases hm
     ·cases hs
    ·cases hs
  ·cases hs
 ·rename_i t d;cases hs;rcases hr with hr|hr
  ·obtain⟨g',h1,h2⟩:=afJ (N:=N) h (hd d rfl) hN hop hr;refine⟨g',h1,h2.weak λf hf=>?_⟩;rw[CS]at hf;rw[aY,aX];rcases hf with hf|⟨hf,hk⟩
   ·exact .inl hf
   ·exact .inr ⟨hf,(kp hk).2.2 _ rfl⟩
  ·cases hr.2
 ·rename_i t x d;cases hs;rcases hr with hr|hr
  ·obtain⟨g',h1,h2⟩:=akF (N:=N) h (hd d rfl) hN hop hr;refine⟨g',h1,h2.weak λf hf=>?_⟩;rw[CS]at hf;rw[aY,aX];rcases hf with hf|⟨hf,hk⟩
   ·exact .inl hf
   ·exact .inr ⟨hf,(kp hk).2.2 _ rfl⟩
  ·cases hr.2
 ·rename_i t ps d;cases hs;rcases hr with hr|hr
  ·have hw:w'=w:=he.quiet (by rw[hop];rfl);subst hw;refine⟨g,Rel.refl _ _ _,h.good,λf hf=>?_⟩;rw[CS]at hf;rcases hf with hf|⟨hf,hk⟩
   ·exact afR h (hd d rfl) hop hr f hf
   ·exact(h.fs f hf).put' ((kp hk).2.2 _ rfl)
  ·cases hr.2
 ·rename_i T l c d;split at hs
  ·rename_i hz;cases hs;rcases hr with hr|hr
   ·obtain⟨g',h1,h2⟩:=aiV (N:=N) h (hd d rfl) hN hz hop hr;refine⟨g',h1,h2.weak λf hf=>?_⟩;rw[CS]at hf;rw[ay,aX];rcases hf with hf|⟨hf,hk⟩
    ·exact .inl (by simpa using hf)
    ·exact .inr ⟨hf,(kp hk).2.2 _ rfl⟩
   ·cases hr.2
  ·cases hs
 ·rename_i T len ps d;split at hs
  ·rename_i hok;cases hs;rcases hr with hr|hr
   ·obtain⟨g',h1,h2⟩:=ac3 (N:=N) h (hd d rfl) hN hok hop hr;refine⟨g',h1,h2.weak λf hf=>?_⟩;rw[CS]at hf;rw[ay,aX,aX];rcases hf with hf|⟨hf,hk⟩
    ·exact .inl (by simpa using hf)
    ·exact .inr ⟨⟨hf,(kp hk).1⟩,(kp hk).2.2 _ rfl⟩
   ·cases hr.2
  ·cases hs
 ·rename_i s x T t2 d;unfold aoK at hs;split at hs
  ·rename_i e2 m ms ht2 hok;cases hs;rcases hr with hr|hr
   ·obtain⟨g',h1,h2⟩:=acV (N:=N) h (hd d rfl) hN hop ht2 hok hr;refine⟨g',h1,h2.weak λf hf=>?_⟩;rw[CS]at hf;rw[ay,aX,aX];rcases hf with hf|⟨hf,hk⟩
    ·exact .inl (by simpa using hf)
    ·exact .inr ⟨⟨hf,(kp hk).1⟩,(kp hk).2.2 _ rfl⟩
   ·cases hr.2
  ·cases hs
 ·rename_i d0 s x T t2;unfold aoL at hs;split at hs
  ·rename_i m hm;split at hs
   ·rename_i hemp;cases hs;have hcopy:(execOp a.eval o).run P w = .ok (.value v) w'->OW P F g dp Γ a w':=λhr=>ahL h hop hm (List.isEmpty_iff.1 hemp) hr;rcases hr with hr|hr
    ·have h2:=hcopy hr;refine⟨g,Rel.refl _ _ _,h2.good,λf hf=>?_⟩;rw[CS]at hf;rcases hf with hf|⟨hf,hk⟩
     ·cases hf
     ·cases dst with
      |none=>exact h2.fs f hf
      |some d=>exact(h2.fs f hf).put' ((kp hk).2.2 _ rfl)
    ·exfalso;have:=hr.1;simp only[execOp,hop,resolve,invoke,builtin,cZ,bQ,bn]at this;cases hq:(mg #[T,t2] o.type (Array.map a.eval #[.tmp s,x])).run P w<;>rw[hq]at this<;>cases this
   ·cases hs
  ·cases hs
 ·split at hs
  ·rename_i hq;cases hs;have hw:w'=w:=he.quiet (by rw[hop];exact hq);subst hw;rcases hr with hr|hr
   ·refine⟨g,Rel.refl _ _ _,h.good,λf hf=>?_⟩;rw[CS]at hf;rcases hf with hf|⟨hf,hk⟩
    ·exact ajf h (hd _ rfl) hr f (by rw[hop];exact hf)
    ·exact(h.fs f hf).put' ((kp hk).2.2 _ rfl)
   ·cases hr.2
  ·cases hs
 ·cases hs
end
end
section
section
variable {P:Program} {F:Ut} {g g':Own} {dp:Nat} {Γ : List OF} {a:Act} {w w':World} {N:Nat} {v:Value}
theorem FI.rel {f:OF}(h:FI P F g dp a w f)(hr:Rel (dp+1) w.heap.size g g')(hs:w.heap.size<=w'.heap.size):FI P F g' dp a w' f:=by
 have gr:∀{u T m},GR g u T (.tag dp m)->GR g' u T (.tag dp m):=λh=>by
  rcases h with h|⟨k,n,c,h1,h2⟩
  ·exact .inl h
  ·have q:=hr.tag _ _ _ _ (Bz _) h2.1;exact .inr ⟨k,n,c,h1,q.1,by rw[q.2];exact h2.2⟩
 have old:∀{k T:Nat} {X:Prop},k<w.heap.size->(∀B,g k=some B->(∃p,B = .arr T p)/\X)->∀B,g' k=some B->(∃p,B = .arr T p)/\X:=by intro k T X hk hold B' hB';obtain⟨B,h1,h2⟩:=hr.old k B' hk hB';obtain⟨⟨p,rfl⟩,hx⟩:=hold B h1;obtain⟨q,q',e1,e2⟩:=h2 T p (.inl rfl);exact⟨⟨q',e2⟩,hx⟩
 cases f with
 | sr t T=>
   rcases h with h|⟨k,o,n,c,h1,h2,h3⟩
   ·exact .inl h
   ·exact .inr ⟨k,o,n,c,h1,kQ h2 hs,old h2 h3⟩
 |ep t T off=>obtain⟨k,o,h1,h2,h3⟩:=h;exact⟨k,o,h1,kQ h2 hs,old h2 h3⟩
 |vp t b off=>obtain⟨k,row,h1,h2,h3⟩:=h;exact⟨k,row,h1,h2,hr.var _ _ _ _ (Bz _) h3⟩
 |ref t r=>obtain⟨u,h1,h2⟩:=h;exact⟨u,h1,gr h2⟩
 |EO t i r=>obtain⟨vs,x,u,h1,h2,h3,h4⟩:=h;exact⟨vs,x,u,h1,h2,h3,gr h4⟩
 |row b r=>obtain⟨k,row,h1,h2,h3⟩:=h;exact⟨k,row,h1,hr.var _ _ _ _ (Bz _) h2,h3⟩
 |fn t s=>exact h
theorem Rel.down (h:Rel (dp+1) N g g'):Rel dp N g g':=
 ⟨λk T d m hd=>h.tag k T d m (Nat.lt_succ_of_lt hd),λk row d b hd=>h.var k row d b (Nat.lt_succ_of_lt hd),h.old⟩
theorem Good.PM (h:Good P g w){k:Nat}{row row':List Ref}{d b d' b':Nat}(hk:g k=some (.var row d b))(hc:∀cs e,w.heap[k]? = some (.cells cs e (0,0))->∀r,r∈row'->∃u,cs[r.off]? = some u/\GR g u r.ty (.tag d' r.m)):Good P (g.upd k (.var row' d' b')) w:=by
 have ho:∀{k'},k'≠k->(g.upd k (.var row' d' b')) k'=g k':=λhne=>by simp[yc,hne]
 have hg:(g.upd k (.var row' d' b')) k=some (.var row' d' b'):=ahl rfl;refine⟨λk' T p hk'=>?_,λk' Pn d2 b2 hk'=>?_⟩
 ·by_cases hkk:k'=k
  ·subst hkk;rw[hg]at hk';cases hk'
  ·rw[ho hkk]at hk';obtain⟨c,e,h1,h2⟩:=h.arr k' T p hk';exact⟨c,e,h1,λj u T' hb hu ht=>(h2 j u T' (by rwa[EZ,ahk hkk]at hb) hu ht).Uk hk⟩
 ·by_cases hkk:k'=k
  ·subst hkk;rw[hg]at hk';cases hk';obtain⟨cs,e,h1,_⟩:=h.var _ _ _ _ hk;exact⟨cs,e,h1,λr hr=>let ⟨u,hu,hgr⟩:=hc cs e h1 r hr;⟨u,hu,hgr.Uk hk⟩⟩
  ·rw[ho hkk]at hk';obtain⟨c,e,h1,h2⟩:=h.var k' Pn d2 b2 hk';exact⟨c,e,h1,λr hr=>let ⟨u,hu,hgr⟩:=h2 r hr;⟨u,hu,hgr.Uk hk⟩⟩
def alg (b:Nat):OF->Bool
 |.vp _ b' _=>b' != b
 |.row b' _=>b' != b
 |_=>true
theorem FI.PM {f:OF}(h:FI P F g dp a w f){k:Nat}{row row':List Ref}{d b d' b':Nat}(hk:g k=some (.var row d b))(hf:d=dp->alg b f=true):FI P F (g.upd k (.var row' d' b')) dp a w f:=by
 have ho:∀{k'},k'≠k->(g.upd k (.var row' d' b')) k'=g k':=λhne=>by simp[yc,hne]
 have old:∀{k' T:Nat} {X:Prop},(∀B,g k'=some B->(∃p,B = .arr T p)/\X)->∀B,(g.upd k (.var row' d' b')) k'=some B->(∃p,B = .arr T p)/\X:=by
  intro k' T X hold B hB;by_cases hkk:k'=k
  ·subst hkk;obtain⟨⟨p,e⟩,_⟩:=hold _ hk;cases e
  ·rw[ho hkk]at hB;exact hold B hB
 cases f with
 | sr t T=>
   rcases h with h|⟨k',o,n,c,h1,h2,h3⟩
   ·exact .inl h
   ·exact .inr ⟨k',o,n,c,h1,h2,old h3⟩
 |ep t T off=>obtain⟨k',o,h1,h2,h3⟩:=h;exact⟨k',o,h1,h2,old h3⟩
 | vp t b2 off=>
   obtain⟨k',Pn,h1,h2,h3⟩:=h;refine⟨k',Pn,h1,h2,?_⟩;rw[ho]
   ·exact h3
   ·rintro rfl;rw[hk]at h3;cases h3;have:=hf rfl;simp[alg]at this
 |ref t r=>obtain⟨u,h1,h2⟩:=h;exact⟨u,h1,h2.Uk hk⟩
 |EO t i r=>obtain⟨vs,x,u,h1,h2,h3,h4⟩:=h;exact⟨vs,x,u,h1,h2,h3,h4.Uk hk⟩
 | row b2 r=>
   obtain⟨k',Pn,h1,h2,h3⟩:=h;refine⟨k',Pn,h1,?_,h3⟩;rw[ho]
   ·exact h2
   ·rintro rfl;rw[hk]at h2;cases h2;have:=hf rfl;simp[alg]at this
 |fn t s=>exact h
theorem Rel.PM {k:Nat}{row row':List Ref}{d b d' b':Nat}(hk:g k=some (.var row d b))(hd:dp<=d):Rel dp N g (g.upd k (.var row' d' b')):=by
 refine⟨λk' T d2 m hd2 hx=>?_,λk' Pn d2 b2 hd2 hx=>?_,λk' B' hlt hB=>?_⟩
 ·have hne:k'≠k:=λe=>by subst e;rw[hk]at hx;cases hx
  rw[yc,EZ,ahk hne,ahk hne];exact⟨hx,rfl⟩
 ·rw[yc];rw[ahk (λe=>by subst e;rw[hk]at hx;cases hx;omega)];exact hx
 ·rw[yc]at hB;split at hB
  ·rename_i e;subst e;cases hB;exact⟨_,hk,λT p hb=>by rcases hb with e|e<;>cases e⟩
  ·exact(Rel.refl dp N g).old k' B' hlt hB
end
def ajI (Γ : List OF)(s o T:Nat):Option Nat:=(Γ.filterMap λf=>match f with
 |.ref y r=>if y=s/\r.off=o/\r.ty=T then some r.m else none
 |_=>none).head?
def XK (Γ : List OF)(b o T:Nat):Option Nat:=(Γ.filterMap λf=>match f with
 |.row y r=>if y=b/\r.off=o/\r.ty=T then some r.m else none
 |_=>none).head?
def SL {α β:Type}(f:α->Option β):List α->Option (List β)
 |[]=>some []
 | x::r=>match f x,SL f r with
   |some y,some ys=>some (y::ys)
   |_,_=>none
theorem FN {α β:Type}{f:α->Option β} : ∀{l:List α} {ys:List β},SL f l=some ys->∀x,x∈l->∃y,f x=some y/\y∈ys
 | x::r,ys,h,z,hz=>by
   simp only[SL]at h;split at h
   ·rename_i y ys' h1 h2;cases h;rcases ay.1 hz with rfl|hz
    ·exact⟨y,h1,aW ..⟩
    ·obtain⟨y',h3,h4⟩:=FN h2 z hz;exact⟨y',h3,dY _ h4⟩
   ·cases h
def Y8 (Γ : List OF)(i:Nat)(x:Operand):PK->Option (List (Nat×Nat)×Option Nat)
 |.any=>some ([],none)
 | .own rs=>(match x with
   |.tmp s=>(SL (λe:Nat×Nat=>(ajI Γ s e.1 e.2).map λm=>(m,i*20+e.1)) rs).map λl=>(l,none)
   |_=>none)
 | .var rs=>(match x with
   | .tmp s=>(match(Γ.filterMap (aes s)).head? with
     |some (b,0)=>(SL (λe:Nat×Nat=>(XK Γ b e.1 e.2).map λm=>(m,i*20+e.1)) rs).map λl=>(l,some b)
     |_=>none)
   |_=>none)
 | .fn s=>(match x with
   |.tmp t=>if Γ.contains (.fn t s)then some ([],none)else none
   |.func f=>if kindOf f = .rd/\s=0 then some ([],none)else none
   |_=>none)
section
variable {P:Program} {F:Ut} {g g':Own} {dp:Nat} {Γ : List OF} {a:Act} {w w':World} {N:Nat} {v:Value}
theorem acp (h:OW P F g dp Γ a w){s o T m:Nat}(ht:ajI Γ s o T=some m):∃u,(a.tmps.getD s undef).cells[o]? = some u/\GR g u T (.tag dp m):=by
 have:=oH ht;rw[dJ]at this;obtain⟨f,hf,hm⟩:=this;split at hm
 ·split at hm
  ·rename_i y r hc;obtain⟨rfl,rfl,rfl⟩:=hc;cases hm;exact h.fs _ hf
  ·cases hm
 ·cases hm
theorem Ui (h:OW P F g dp Γ a w){b o T m:Nat}(ht:XK Γ b o T=some m):∃k row,a.tmps.getD b undef = .pointer (some ⟨k,0,none⟩)/\g k=some (.var row dp b)/\⟨o,T,m⟩∈row:=by
 have:=oH ht;rw[dJ]at this;obtain⟨f,hf,hm⟩:=this;split at hm
 ·split at hm
  ·rename_i y r hc;obtain⟨rfl,rfl,rfl⟩:=hc;cases hm;exact h.fs _ hf
  ·cases hm
 ·cases hm
end
end
section
def Ii (Γ : List OF):Nat->List Operand->List PK->Option (List (Nat×Nat)×List (Nat×Nat))
 |_,[],ps=>if ps.all (· == .any)then some ([],[])else none
 | i,x::xs,p::ps=>match Y8 Γ i x p,Ii Γ (i+1) xs ps with
   |some (l,o),some (l',o')=>some (l++l',(match o with|some b=>[(i,b)]|none=>[])++o')
   |_,_=>none
 |_,_::_,[]=>none
def Jk (l:List Nat):Bool:=match l with
 |[]=>true
 |x::r=> !r.contains x&&Jk r
def XP (ps:List PK)(i:Nat):List (Nat×Nat):=match ps[i]? with
 |some (.var rs)=>rs
 |_=>[]
structure CR where
 kill:List Nat
 rv:Option Nat
 new:List OF
def aiE (d:Option Nat)(R:CR)(f:OF):Bool:=F7 R.kill f&&(match R.rv with|some b=>alg b f|none=>true)&&(match d with|some d=>Jm d f|none=>true)
def Yw (Γ : List OF)(d:Option Nat)(R:CR):List OF:=R.new ++ Γ.filter (aiE d R)
def alm (rs:List (List (Nat×Nat)))(d:Nat):List OF:=match rs with
 |[r]=>r.map λe=>.ref d ⟨e.1,e.2,mk d e.1⟩
 |l=>(l.zipIdx).flatMap λp=>p.1.map λe=>.EO d p.2 ⟨e.1,e.2,mk d (p.2*20+e.1)⟩
def ajr (rs:List (Nat×Nat))(d:Nat):List Ref:=rs.map λe=>⟨e.1,e.2,mk d (60+e.1)⟩
def BK (dp:Nat)(rs:List (List (Nat×Nat)))(vr:List (Nat×Nat))(i d d':Nat):List (Nat×yE):=
 (match rs with
  |[r]=>r.map λe=>(20000+e.1,.tag dp (mk d e.1))
  |l=>(l.zipIdx).flatMap λp=>p.1.map λe=>(20000+p.2*20+e.1,.tag dp (mk d (p.2*20+e.1)))) ++
 vr.map λe=>(30000+i*20+e.1,.tag dp (mk d' (60+e.1)))
def UM (Γ : List OF)(sg:Sig)(xs:List Operand)(d:Option Nat):Option CR:=match Ii Γ 0 xs sg.ps with
 | some (mv,vars)=>if !Jk (mv.map (·.1))then none else match vars with
   |[]=>if !Jk ((BK 0 sg.rs [] 0 (d.getD 97) (d.getD 97)).map (·.1))then none else some ⟨mv.map (·.1),none,match d with|some d=>alm sg.rs d|none=>[]⟩
   |[(i,b)]=>if d==some b || !Jk ((BK 0 sg.rs (XP sg.ps i) i (d.getD 97) (d.getD 97)).map (·.1))then none else some ⟨mv.map (·.1),some b,.vp b b 0::(ajr (XP sg.ps i) (d.getD 97)).map (.row b)++match d with|some d=>alm sg.rs d|none=>[]⟩
   |_=>none
 |none=>none
section
variable {P:Program} {g g':Own} {dp:Nat} {Γ : List OF} {a:Act} {w w':World} {N:Nat} {v:Value}
theorem Jl {l:List Nat}(h:Jk l=true):l.Nodup:=by
 induction l with
 |nil=>exact List.nodup_nil
 | cons x r ih=>simp only[Jk,ah,kH,zx,alR]at h;exact zy.2 ⟨h.1,ih h.2⟩
theorem IK {β:Type}{m:Nat}{q:β} : ∀{l:List (Nat×β)},(l.map (·.1)).Nodup->(m,q)∈l->l.lookup m=some q
 | (k,b)::r,hn,h=>by
   simp only[aZ,zy]at hn;simp only[List.lookup];rcases ay.1 h with e|h'
   ·cases e;simp
   ·have hne:(m==k)=false:=by
     rw[beq_eq_false_iff_ne];intro e;exact hn.1 (aS.2 ⟨(m,q),h',e⟩)
    rw[hne];exact IK hn.2 h'
theorem aaO : ∀{xs:List Operand} {ps:List PK} {i:Nat} {mv vars:List (Nat×Nat)},Ii Γ i xs ps=some (mv,vars)->∀(j:Nat) (p:PK),ps[j]? = some p ->
 (p = .any)\/∃x l o,xs[j]? = some x/\Y8 Γ (i+j) x p=some (l,o)/\(∀e,e∈l->e∈mv)/\(∀b,o=some b->(i+j,b)∈vars)
 | [],ps,i,mv,vars,h,j,p,hp=>by
   simp only[Ii]at h;split at h
   ·rename_i hall;rw[aP]at hall;exact .inl (by simpa using hall p (gQ hp))
   ·cases h
 | x::xs,q::ps,i,mv,vars,h,j,p,hp=>by
   simp only[Ii]at h;split at h
   ·rename_i l o l' o' h1 h2;cases h;cases j with
    | zero=>simp at hp;subst hp;refine .inr ⟨x,l,o,rfl,h1,λe he=>dh _ he,λb hb=>?_⟩;subst hb;exact dh _ (aW ..)
    | succ j=>
      rcases aaO h2 j p (by simpa using hp)with h3|⟨y,l2,o2,h3,h4,h5,h6⟩
      ·exact .inl h3
      ·refine .inr ⟨y,l2,o2,by simpa using h3,by rw[show i+(j+1)=i+1+j by omega];exact h4,λe he=>dQ _ (h5 e he),λb hb=>?_⟩;rw[show i+(j+1)=i+1+j by omega];exact dQ _ (h6 b hb)
   ·cases h
 |_::_,[],i,mv,vars,h,j,p,hp=>by simp[Ii]at h
def He (dp:Nat)(mv:List (Nat×Nat)):List (Nat×yE):=mv.map λe=>(e.1,.tag (dp+1) e.2)
theorem XM (dp:Nat)(mv:List (Nat×Nat)):(He dp mv).map (·.1)=mv.map (·.1):=by simp[He]
theorem GR.there {mv:List (Nat×Nat)}(hn:(mv.map (·.1)).Nodup){u:Value}{T m t:Nat}(h:GR g u T (.tag dp m))(hm:(m,t)∈mv):GR (g.mv dp (He dp mv)) u T (.tag (dp+1) t):=
 h.mv (IK (by rw[XM];exact hn) (by rw[He,aS];exact⟨_,hm,rfl⟩))
theorem aiZ {ps:List PK}{f:OF}(h:f∈U6 ps):∃j p,ps[j]? = some p/\((∃rs,p = .own rs/\∃e,e∈rs/\f = .ref j ⟨e.1,e.2,j*20+e.1⟩) \/
 (∃rs,p = .var rs/\(f = .vp j j 0\/∃e,e∈rs/\f = .row j ⟨e.1,e.2,j*20+e.1⟩))\/∃s,p = .fn s/\f = .fn j s):=by
 rw[U6,lD]at h;obtain⟨q,hq,hf⟩:=h;obtain⟨p,j⟩:=q;have hj:=nP.1 hq;simp only at hj;refine⟨j,p,by simpa using hj,?_⟩;cases p with
 |any=>cases hf
 |own rs=>rw[aS]at hf;obtain⟨e,he,rfl⟩:=hf;exact .inl ⟨rs,rfl,e,he,rfl⟩
 | var rs=>
   rw[ay,aS]at hf;rcases hf with rfl|⟨e,he,rfl⟩
   ·exact .inr (.inl ⟨rs,rfl,.inl rfl⟩)
   ·exact .inr (.inl ⟨rs,rfl,.inr ⟨e,he,rfl⟩⟩)
 |fn s=>exact .inr (.inr ⟨s,rfl,by simpa using hf⟩)
theorem abu (h:OW P FV g dp Γ a w){xs:List Operand}{ps:List PK}{mv vars:List (Nat×Nat)}{ex:List Value}(ha:Ii Γ 0 xs ps=some (mv,vars))(hn:(mv.map (·.1)).Nodup){g2:Own}
 (hgr:∀{u:Value} {T:Nat} {p:yE},GR (g.mv dp (He dp mv)) u T p->GR g2 u T p)
 (hv:∀i b rs,(i,b)∈vars->ps[i]? = some (.var rs)->∃k row,a.tmps.getD b undef = .pointer (some ⟨k,0,none⟩)/\g2 k=some (.var row (dp+1) i)/\∀e,e∈rs->⟨e.1,e.2,i*20+e.1⟩∈row)
 (f:OF) (hf:f∈U6 ps):FI P FV g2 (dp+1) { tmps:=(xs.map a.eval++ex).toArray,defers:=[] } w f:=by
 obtain⟨j,p,hj,hf⟩:=aiZ hf;have hget:∀x,xs[j]? = some x->((xs.map a.eval++ex).toArray).getD j undef=a.eval x:=λx hx=>by rw[dX,nH,bF (by rw[uF];exact(aK.1 hx).1),bP,hx];rfl
 have hq:=aaO ha j p hj;rw[eU]at hq;rcases hf with⟨rs,rfl,e,he,rfl⟩|⟨rs,rfl,hf⟩|⟨s,rfl,rfl⟩
 ·rcases hq with hq|⟨x,l,o,hx,harg,hl,_⟩
  ·cases hq
  ·simp only[Y8]at harg;split at harg
   ·rename_i s;simp only[bW]at harg;obtain⟨l',hl',heq⟩:=harg;cases heq;obtain⟨y,hy,hyl⟩:=FN hl' e he;simp only[bW]at hy;obtain⟨m,hm,rfl⟩:=hy;obtain⟨u,hu,hg⟩:=acp h hm;refine⟨u,?_,hgr (hg.there hn (hl _ hyl))⟩;rw[hget _ hx];exact hu
   ·cases harg
 ·rcases hq with hq|⟨x,l,o,hx,harg,hl,ho⟩
  ·cases hq
  ·simp only[Y8]at harg;split at harg
   ·rename_i s;split at harg
    ·rename_i b hvp;simp only[bW]at harg;obtain⟨l',hl',heq⟩:=harg;cases heq;have hm:=oH hvp;rw[dJ]at hm;obtain⟨f0,hf0,hm⟩:=hm;unfold aes at hm;split at hm
     ·split at hm
      ·rename_i e1;subst e1;cases hm;obtain⟨k0,row0,e2,e3,e4⟩:=h.fs _ hf0;obtain⟨k,row,e5,e6,e7⟩:=hv j b rs (ho b rfl) hj;rw[e2]at e5;cases e5;have hx':=hget _ hx;have e8:((xs.map a.eval++ex).toArray).getD j undef = .pointer (some ⟨k0,0,none⟩):=(by rw[hx'];exact e3);rcases hf with rfl|⟨e,he,rfl⟩
       ·exact⟨k0,row,e8,e8,e6⟩
       ·exact⟨k0,row,e8,e6,e7 e he⟩
      ·cases hm
     ·cases hm
    ·cases harg
   ·cases harg
 ·rcases hq with hq|⟨x,l,o,hx,harg,_,_⟩
  ·cases hq
  ·simp only[Y8]at harg;split at harg
   ·rename_i t;split at harg
    ·rename_i hc;have hc:=kE.1 hc;obtain⟨f,caps,h1,h2⟩:=h.fs _ hc;exact⟨f,caps,by rw[hget _ hx];exact h1,h2⟩
    ·cases harg
   ·rename_i f;split at harg
    ·rename_i hc;exact⟨f,#[],by rw[hget _ hx];rfl,by rw[hc.2];exact hc.1⟩
    ·cases harg
   ·cases harg
end
end
section
section
variable {P:Program} {g g':Own} {dp:Nat} {Γ : List OF} {a:Act} {w w':World} {N:Nat} {v:Value}
theorem afO (dp:Nat)(rs:List (List (Nat×Nat)))(vr:List (Nat×Nat))(i d d':Nat):(BK dp rs vr i d d').map (·.1)=(BK 0 rs vr i d d').map (·.1):=by
 unfold BK;rw[uG,uG]
 congr 1
 ·split
  ·simp
  ·rw[List.map_flatMap,List.map_flatMap]
   congr 1
   funext p
   simp
 ·simp
theorem GR.back {rs:List (List (Nat×Nat))}{vr:List (Nat×Nat)}{i d d':Nat}(hn:Jk ((BK 0 rs vr i d d').map (·.1))=true){u:Value}{T m:Nat}{q:yE}(h:GR g u T (.tag (dp+1) m))(hm:(m,q)∈BK dp rs vr i d d') :
 GR (g.mv (dp+1) (BK dp rs vr i d d')) u T q:=
 h.mv (IK (by rw[afO];exact Jl hn) hm)
theorem YT {sg:Sig}{vs:List Value}(hout:OW P FV g' (dp+1) (Xe sg vs.length) { tmps:=(vs++[v]).toArray,defers:=[] } w'){vr:List (Nat×Nat)}{i d d':Nat}(hn:Jk ((BK 0 sg.rs vr i d d').map (·.1))=true)(hd:d<a.tmps.size){g4:Own}
 (hgr:∀{u:Value} {T:Nat} {p:yE},GR (g'.mv (dp+1) (BK dp sg.rs vr i d d')) u T p->GR g4 u T p) (f:OF) (hf:f∈alm sg.rs d):FI P FV g4 dp (a.put (some d) v) w' f:=by
 have hv:((vs++[v]).toArray).getD vs.length undef=v:=by rw[dX,nH];simp
 have hs:=gB (v:=v) hd;unfold alm at hf;split at hf
 ·rename_i r hrs;rw[aS]at hf;obtain⟨e,he,rfl⟩:=hf;have:=hout.fs (.ref vs.length ⟨e.1,e.2,20000+e.1⟩) (by
   rw[Xe,abX,hrs];exact dh _ (aS.2 ⟨e,he,rfl⟩))
  obtain⟨u,hu,hg⟩:=this;rw[hv]at hu;refine⟨u,by rw[hs];exact hu,hgr (hg.back hn ?_)⟩;unfold BK;rw[hrs];exact dh _ (aS.2 ⟨e,he,rfl⟩)
 ·rename_i hne;rw[lD]at hf;obtain⟨q,hq,hf⟩:=hf;rw[aS]at hf;obtain⟨e,he,rfl⟩:=hf;have:=hout.fs (.EO vs.length q.2 ⟨e.1,e.2,20000+q.2*20+e.1⟩) (by
   rw[Xe];refine dh _ ?_;unfold abX;split
   ·rename_i r hr;exact al7 hr (hne r)
   ·rw[lD];exact⟨q,hq,aS.2 ⟨e,he,rfl⟩⟩)
  obtain⟨us,x,u,h1,h2,h3,hg⟩:=this;rw[hv]at h1;refine⟨us,x,u,by rw[hs];exact h1,h2,h3,hgr (hg.back hn ?_)⟩;unfold BK;refine dh _ ?_;split
  ·rename_i r hr;exact al7 hr (hne r)
  ·rw[lD];exact⟨q,hq,aS.2 ⟨e,he,rfl⟩⟩
theorem abx {mv:List (Nat×yE)}{f:OF} : aiF dp (λ_=>false) (Rx (dp+1) mv) f:=λm _=>⟨rfl,by simp only[Rx];rw[ahk (by omega)]⟩
theorem Rel.aoH (mv:List (Nat×yE)):Rel dp N g (g.mv (dp+1) mv):=Rel.re λd m h=>⟨rfl,by simp only[Rx];rw[ahk (by omega)]⟩
theorem Good.mv (h:Good P g w)(dp:Nat)(mv:List (Nat×yE)):Good P (g.mv dp mv) w:=h.re λ_ _ _ _ _ _=>⟨rfl,rfl⟩
theorem adU {mv:List (Nat×yE)}{k d b:Nat}{row:List Ref}(h:g k=some (.var row d b)):∃row',(g.mv dp mv) k=some (.var row' d b):=by rw[Own.mv,Xm];rw[h];exact⟨_,rfl⟩
theorem ajQ {ps:List PK}{i:Nat}{rs:List (Nat×Nat)}(h:ps[i]? = some (.var rs)):XP ps i=rs:=by simp[XP,h]
theorem P7 : ∀{xs:List Operand} {ps:List PK} {i:Nat} {mv vars:List (Nat×Nat)},Ii Γ i xs ps=some (mv,vars)->∀j b,(j,b)∈vars->∃rs x s,ps[j-i]? = some (.var rs)/\i<=j/\xs[j-i]? = some x/\x = .tmp s/\OF.vp s b 0 ∈ Γ /\ ∀e,e∈rs->∃m,XK Γ b e.1 e.2=some m/\(m,j*20+e.1)∈mv
 | [],ps,i,mv,vars,h,j,b,hb=>by
   simp only[Ii]at h;split at h
   ·cases h;cases hb
   ·cases h
 | x::xs,q::ps,i,mv,vars,h,j,b,hb=>by
   simp only[Ii]at h;split at h
   ·rename_i l o l' o' h1 h2;cases h;rcases aY.1 hb with hb|hb
    ·cases o with
     |none=>cases hb
     | some b'=>
       simp only[ay,dn,or_false,bI]at hb;obtain⟨rfl,rfl⟩:=hb;rw[Nat.sub_self];cases q with
       |any=>simp[Y8]at h1
       | own rs=>
         simp only[Y8]at h1;split at h1
         ·simp only[bW]at h1;obtain⟨_,_,e⟩:=h1;cases e
         ·cases h1
       | fn s=>simp only[Y8]at h1;split at h1<;>(try split at h1)<;>cases h1
       | var rs=>
         simp only[Y8]at h1;split at h1
         ·rename_i s;split at h1
          ·rename_i b2 hvp;simp only[bW]at h1;obtain⟨l2,hl2,e⟩:=h1;cases e;have hm:=oH hvp;rw[dJ]at hm;obtain⟨f0,hf0,hm⟩:=hm;unfold aes at hm;split at hm
           ·split at hm
            ·rename_i e1;subst e1;cases hm;refine⟨rs,_,_,rfl,aA _,rfl,rfl,hf0,λe he=>?_⟩;obtain⟨y,hy,hyl⟩:=FN hl2 e he;simp only[bW]at hy;obtain⟨m,hm,rfl⟩:=hy;exact⟨m,hm,dh _ hyl⟩
            ·cases hm
           ·cases hm
          ·cases h1
         ·cases h1
    ·obtain⟨rs,y,s,h3,h4,h5,h6,h7,h8⟩:=P7 h2 j b hb;refine⟨rs,y,s,?_,by omega,?_,h6,h7,λe he=>let ⟨m,h9,h10⟩:=h8 e he;⟨m,h9,dQ _ h10⟩⟩
     ·rw[show j-i=(j-(i+1))+1 by omega,dM];exact h3
     ·rw[show j-i=(j-(i+1))+1 by omega,dM];exact h5
   ·cases h
 |_::_,[],i,mv,vars,h,j,b,hb=>by simp[Ii]at h
theorem abQ (h:OW P FV g dp Γ a w)(hN:N<=w.heap.size){f:FuncId}{sg:Sig}(hk:kindOf f = .ow sg){xs:List Operand}{ex:List Value}{d:Option Nat}{C:CR}(hl:(xs.map a.eval++ex).length=sg.ps.length)(hc:UM Γ sg xs d=some C)(hd:∀d',d=some d'->d'<a.tmps.size) :
 ∃X,Y3 P f (xs.map a.eval++ex) w X/\∀v w',w.heap.size<=w'.heap.size->X (.returned v) w'->∃g',Rel dp N g g'/\OW P FV g' dp (Yw Γ d C) (a.put d v) w':=by
 unfold UM at hc;split at hc
 ·rename_i mv vars ha;split at hc
  ·cases hc
  ·rename_i hnn;have hn:(mv.map (·.1)).Nodup:=Jl (by simpa using hnn);have h1:=h.mv (He dp mv);rw[XM]at h1;split at hc
   ·
    split at hc
    ·cases hc
    ·rename_i hbn;cases hc;have hin:OW P FV (g.mv dp (He dp mv)) (dp+1) (U6 sg.ps) { tmps:=(xs.map a.eval++ex).toArray,defers:=[] } w:=
      ⟨h1.good,abu h ha hn (λh=>h) (λi b rs hb _=>by cases hb)⟩
     refine⟨_,.ow sg hk hl _ (dp+1) hin,λv w' hs hX=>?_⟩;obtain⟨v',g',hv,hrel,hout⟩:=hX;cases hv;refine⟨g'.mv (dp+1) (BK dp sg.rs [] 0 (d.getD 97) (d.getD 97)),((Rel.mv N _).trans ((hrel.le hN).down)).trans (Rel.aoH _),hout.good.mv _ _,λf hf=>?_⟩;rw[Yw,aY,aX]at hf;rcases hf with hf|⟨hf,hkp⟩
     ·cases d with
      |none=>cases hf
      |some d=>exact YT hout (by simpa using hbn) (hd d rfl) (λh=>h) f hf
     ·simp only[aiE,ah]at hkp;have h2:=((h1.fs f (aX.2 ⟨hf,hkp.1.1⟩)).rel hrel hs).re (dr:=λ_=>false) (φ:=Rx (dp+1) (BK dp sg.rs [] 0 (d.getD 97) (d.getD 97))) abx;cases d with
      |none=>exact h2
      |some d=>exact h2.put' hkp.2
   ·
    rename_i i b;split at hc
    ·cases hc
    ·rename_i hbn;simp only[gV,not_or,kH,Bool.not_eq_false]at hbn;obtain⟨hdb,hbn⟩:=hbn;cases hc;obtain⟨rs,x,s,hp,_,hx,rfl,hvp,aon⟩:=P7 ha i b (aW ..);rw[oh]at hp hx;have hrs:=ajQ hp;obtain⟨k,row,hb1,hb2,hb3⟩:=h.fs _ hvp;obtain⟨apT,hk1⟩:=adU (mv:=He dp mv) (dp:=dp) hb3;have amP:Good P ((g.mv dp (He dp mv)).upd k (.var (rs.map λe=>⟨e.1,e.2,i*20+e.1⟩) (dp+1) i)) w:=by
      refine h1.good.PM hk1 λcs e hw r hr=>?_;rw[aS]at hr;obtain⟨q,hq,rfl⟩:=hr;obtain⟨m,hm1,hm2⟩:=aon q hq;obtain⟨k',row',e1,e2,e3⟩:=Ui h hm1;rw[hb1]at e1;cases e1;obtain⟨cs',e',hw',hrow⟩:=h.good.var _ _ _ _ e2;rw[hw]at hw';cases hw';obtain⟨u,hu,hg⟩:=hrow _ e3;exact⟨u,hu,hg.there hn hm2⟩
     have hin:OW P FV ((g.mv dp (He dp mv)).upd k (.var (rs.map λe=>⟨e.1,e.2,i*20+e.1⟩) (dp+1) i)) (dp+1) (U6 sg.ps) { tmps:=(xs.map a.eval++ex).toArray,defers:=[] } w:=
      ⟨amP,abu h ha hn (λh=>h.Uk hk1) (λi' b' rs' hb' hp'=>by simp only[ay,dn,or_false,bI]at hb';obtain⟨rfl,rfl⟩:=hb';rw[hp]at hp';cases hp';exact⟨k,_,hb1,ahl rfl,λe he=>aS.2 ⟨e,he,rfl⟩⟩)⟩
     refine⟨_,.ow sg hk hl _ (dp+1) hin,λv w' hs hX=>?_⟩;obtain⟨v',g',hv,hrel,hout⟩:=hX;cases hv;rw[hrs]at hbn;have apK:=hout.fs (.vp i i 0) (by rw[Xe];refine dQ _ ?_;rw[ad3,lD];exact⟨(.var rs,i),nP.2 (by simpa using hp),by simp⟩)
     obtain⟨k2,Pn,e1,_,e2⟩:=apK;have hlt:i<(xs.map a.eval++ex).length:=(by rw[hl];exact(aK.1 hp).1);have hti:((xs.map a.eval++ex)++[v]).toArray.getD i undef = .pointer (some ⟨k,0,none⟩):=by rw[dX,nH,bF hlt,bF (by rw[uF];exact(aK.1 hx).1),bP,hx];exact hb2
     rw[hti]at e1;cases e1;obtain⟨row3,hk3⟩:=adU (mv:=BK dp sg.rs rs i (d.getD 97) (d.getD 97)) (dp:=dp+1) e2;have amQ:Good P ((g'.mv (dp+1) (BK dp sg.rs rs i (d.getD 97) (d.getD 97))).upd k (.var (ajr rs (d.getD 97)) dp b)) w':=by
      refine(hout.good.mv _ _).PM hk3 λcs e hw r hr=>?_;rw[ajr,aS]at hr;obtain⟨q,hq,rfl⟩:=hr;have:=hout.fs (.row i ⟨q.1,q.2,30000+i*20+q.1⟩) (by rw[Xe];refine dQ _ ?_;rw[ad3,lD];exact⟨(.var rs,i),nP.2 (by simpa using hp),dY _ (aS.2 ⟨q,hq,rfl⟩)⟩)
      obtain⟨k',row',e4,e5,e6⟩:=this;rw[hti]at e4;cases e4;obtain⟨cs',e',hw',hrow⟩:=hout.good.var _ _ _ _ e5;rw[hw]at hw';cases hw';obtain⟨u,hu,hg⟩:=hrow _ e6;refine⟨u,hu,hg.back hbn ?_⟩;unfold BK;exact dQ _ (aS.2 ⟨q,hq,rfl⟩)
     refine⟨(g'.mv (dp+1) (BK dp sg.rs rs i (d.getD 97) (d.getD 97))).upd k (.var (ajr rs (d.getD 97)) dp b),
      ((((Rel.mv N _).trans (Rel.PM hk1 (aA _))).trans ((hrel.le hN).down)).trans (Rel.aoH _)).trans (Rel.PM hk3 (Nat.le_succ _)),amQ,λf hf=>?_⟩
     rw[Yw,aY,aX]at hf;have hb':∀d',d=some d'->b≠d':=λd' e e'=>(by subst e;subst e';simp at hdb);have htb:(a.put d v).tmps.getD b undef = .pointer (some ⟨k,0,none⟩):=by
      cases d with
      |none=>exact hb1
      |some d'=>rw[oK (hb' d' rfl)];exact hb1
     rcases hf with hf|⟨hf,hkp⟩
     ·simp only[yN,ay,aY,aS]at hf;rw[hrs]at hf;rcases hf with rfl|⟨r,hr,rfl⟩|hf
      ·exact⟨k,_,htb,htb,ahl rfl⟩
      ·exact⟨k,_,htb,ahl rfl,hr⟩
      ·cases d with
       |none=>cases hf
       |some d=>exact YT hout (by simpa using hbn) (hd d rfl) (λh=>h.Uk hk3) f hf
     ·simp only[aiE,ah]at hkp;have h2:=(((h1.fs f (aX.2 ⟨hf,hkp.1.1⟩)).PM (row':=rs.map λe=>⟨e.1,e.2,i*20+e.1⟩) (d':=dp+1) (b':=i) hk1 (λ_=>hkp.1.2)).rel hrel hs).re (dr:=λ_=>false) (φ:=Rx (dp+1) (BK dp sg.rs rs i (d.getD 97) (d.getD 97))) abx;have h3:=h2.PM (row':=ajr rs (d.getD 97)) (d':=dp) (b':=b) hk3 (λe=>by omega);cases d with
      |none=>exact h3
      |some d=>exact h3.put' hkp.2
   ·cases hc
 ·cases hc
end
end
section
section
variable {P:Program} {E:Env P} {I:IH} {ρ:Ren} {n:Nat} {st:fH} {a:Act} {w:World}
def AK (E:Env P)(n:Nat)(K:fH->Prop):Act->World->Prop:=λa w=>∃I ρ st,K st/\GX E I ρ n st a w
theorem alO (h:GX E I ρ n st a w){bs:List Nat}{v:Value}{x y:AC}(hx:GC I ρ v x)(hc:Cv st.bx x y)(hb:∀b,b∈qg [x]->b∈bs):GC (D8 I ρ w st.bx bs) ρ v y:=by
 have hle:=IJ (st:=st) h.bx bs;cases hc with
 |refl=>exact hx.mono hle (Ren.le_refl ρ)
 | lF sz=>simp only[GC]at hx;subst hx;exact Rd.sl none 0 0 _ [] (λ_ _=>undef) rfl (aA _) (by simp[maxLen]) (by simp) (by simp) (by intro ad h;cases h) (by simp)
 |own b m sz es harr hm=>exact ZO h (hb b (by simp[qg])) harr hm hx
theorem Fg {x:AC}{xs:List AC}{b:Nat} : b∈qg (x::xs)<->b∈qg [x]\/b∈qg xs:=by cases x<;>simp[qg]
theorem akO (h:GX E I ρ n st a w){bs:List Nat}{vs:List Value}{xs ys:List AC}(hx:OB I ρ vs xs)(hc:CvL st.bx xs ys)(hb:∀b,b∈qg xs->b∈bs):OB (D8 I ρ w st.bx bs) ρ vs ys:=by
 induction hc generalizing vs with
 |nil=>exact⟨hx.1,λj v x hv hx=>by simp at hx⟩
 | cons hxy ht ih=>
   rename_i x y xs ys;cases vs with
   |nil=>have:=hx.1;simp at this
   | cons v vs=>
     have i1:=ih (vs:=vs) ⟨by simpa using hx.1,λj u z hu hz=>hx.2 (j+1) u z (by simpa using hu) (by simpa using hz)⟩ (λb hb'=>hb b (Fg.2 (.inr hb')));have i0:=alO h (hx.2 0 v x rfl rfl) hxy (λb hb'=>hb b (Fg.2 (.inl hb')));refine⟨by simp[i1.1],λj u z hu hz=>?_⟩;cases j with
     |zero=>simp at hu hz;subst hu;subst hz;exact i0
     |succ j=>exact i1.2 j u z (by simpa using hu) (by simpa using hz)
theorem amw (h:GX E I ρ n st a w){bs:List Nat}{v:Value}{x y:AV}(hx:GV I ρ v x)(hc:CvA st.bx x y)(hb:∀b,b∈x.owns->b∈bs):GV (D8 I ρ w st.bx bs) ρ v y:=by
 cases hc with
 |one hxy=>exact alO h hx hxy hb
 |agg hxy=>obtain⟨cs,rfl,hg⟩:=hx;exact⟨cs,rfl,akO h hg hxy hb⟩
theorem Wp (h:GX E I ρ n st a w){bs:List Nat}{vs:List Value}{xs ys:List AV}(hx:VL I ρ vs xs)(hc:PR st.bx xs ys)(hb:∀b,b∈xs.flatMap AV.owns->b∈bs):VL (D8 I ρ w st.bx bs) ρ vs ys:=by
 induction hc generalizing vs with
 |nil=>exact⟨hx.1,λj v x hv hx=>by simp at hx⟩
 | cons hxy ht ih=>
   rename_i x y xs ys;cases vs with
   |nil=>have:=hx.1;simp at this
   | cons v vs=>
     have i1:=ih (vs:=vs) ⟨by simpa using hx.1,λj u z hu hz=>hx.2 (j+1) u z (by simpa using hu) (by simpa using hz)⟩ (λb hb'=>hb b (by rw[jU];exact dQ _ hb'));have i0:=amw h (hx.2 0 v x rfl rfl) hxy (λb hb'=>hb b (by rw[jU];exact dh _ hb'));refine⟨by simp[i1.1],λj u z hu hz=>?_⟩;cases j with
     |zero=>simp at hu hz;subst hu;subst hz;exact i0
     |succ j=>exact i1.2 j u z (by simpa using hu) (by simpa using hz)
theorem adz {I J:IH}{ρ σ:Ren}{v:Value}{x:AC}(h:GC I ρ v x)(hl:x.isLit=true):GC J σ v x:=by
 cases x with
 | c y=>
   cases y with
   |lit u=>cases h with|lit v hv=>exact Rd.lit _ hv
   |str l=>cases h with|str l hl=>exact Rd.str _ hl
   |sl sz es=>cases hl
 |_=>cases hl
theorem aeM {I J:IH}{ρ σ:Ren}{vs:List Value}{xs:List AC}(h:OB I ρ vs xs)(hl:xs.all AC.isLit=true):OB J σ vs xs:=
 ⟨h.1,λj v x hv hx=>adz (h.2 j v x hv hx) (aP.1 hl x (gQ hx))⟩
theorem amE {I J:IH}{ρ σ:Ren}{v:Value}{x:AV}(h:GV I ρ v x)(hl:x.all AC.isLit=true):GV J σ v x:=by
 cases x with
 |one x=>exact adz h hl
 |agg xs=>obtain⟨cs,rfl,hg⟩:=h;exact⟨cs,rfl,aeM hg hl⟩
 | zi ps=>
   obtain⟨vs,rfl,hs,hp⟩:=h;refine⟨vs,rfl,hs,λj v p hv hq=>?_⟩;have h1:=hp j v p hv hq;have h2:=aP.1 hl p (gQ hq);unfold GP at h1⊢;split at h1
   ·rename_i hb;rw[ahl hb];obtain⟨cs,rfl,hg⟩:=h1;exact⟨cs,rfl,aeM hg h2⟩
   ·rename_i hb;rw[ahk hb];obtain⟨x,hx,hg⟩:=h1;rw[hx]at h2;exact⟨x,hx,adz hg (by simpa using h2)⟩
theorem ZC {I:IH}{ρ σ:Ren}{v:Value}{x:AC}(h:GC I ρ v x)(hl:x.yA=true):GC I σ v x:=by
 cases x with
 |c y=>exact h
 |err g=>exact h
 |_=>cases hl
theorem abe {I:IH}{ρ σ:Ren}{vs:List Value}{xs:List AC}(h:OB I ρ vs xs)(hl:xs.all AC.yA=true):OB I σ vs xs:=
 ⟨h.1,λj v x hv hx=>ZC (h.2 j v x hv hx) (aP.1 hl x (gQ hx))⟩
theorem aeP {I:IH}{ρ σ:Ren}{v:Value}{x:AV}(h:GV I ρ v x)(hl:x.all AC.yA=true):GV I σ v x:=by
 cases x with
 |one x=>exact ZC h hl
 |agg xs=>obtain⟨cs,rfl,hg⟩:=h;exact⟨cs,rfl,abe hg hl⟩
 | zi ps=>
   obtain⟨vs,rfl,hs,hp⟩:=h;refine⟨vs,rfl,hs,λj v p hv hq=>?_⟩;have h1:=hp j v p hv hq;have h2:=aP.1 hl p (gQ hq);unfold GP at h1⊢;split at h1
   ·rename_i hb;rw[ahl hb];obtain⟨cs,rfl,hg⟩:=h1;exact⟨cs,rfl,abe hg h2⟩
   ·rename_i hb;rw[ahk hb];obtain⟨x,hx,hg⟩:=h1;rw[hx]at h2;exact⟨x,hx,ZC hg (by simpa using h2)⟩
theorem abj {I:IH}{ρ σ:Ren}{vs:List Value}{xs:List AV}(h:VL I ρ vs xs)(hl:xs.all (·.all AC.yA)=true):VL I σ vs xs:=
 ⟨h.1,λj v x hv hx=>aeP (h.2 j v x hv hx) (aP.1 hl x (gQ hx))⟩
theorem Zc (b:Nat):CO [] b = .absent:=by simp[CO]
theorem LV {x:Option (Nat×Nat)}(b k:Nat):¬(CO [] b).uses x k:=by rw[Zc];exact λh=>h
theorem GX.later (h:GX E I ρ n st a w){w':World}(hF:Dp w w' (λ_=>False)):GX E I ρ n st a w':=by have hk:∀k,k<w.heap.size->w'.heap[k]? = w.heap[k]?:= λk hk=>hF.block k hk (λh=>h);refine{ h with agree:=h.agree.other (λk c hc=>hk k (h.agree.lt hc)),bx:=?_,Be:=h.Be.trans hF (λ_ _ hf=>hf.elim),tm:=h.tm,size:=h.size,defers:=h.defers };exact BX.step (λ_=>False) h.bx (IH.le_refl I) (Ren.le_refl ρ) (λb _=>⟨rfl,rfl⟩) (λb k _ hu=>hk k ((h.bx.ok b).lt hu)) (λb hb=>hb.elim) (λb k hb=>hb.elim) (λb b' k hb=>hb.elim) (λb k _ hu=>h.bx.fresh b k hu)
theorem ZW (I:IH)(w:World):BX I (λ_=>none) w (CO []):=
 ⟨λb=>by rw[Zc];rfl,λb b' k h=>al7 h (LV b k),λb k h=>al7 h (LV b k)⟩
theorem ahI (h:GX E I ρ n st a w){f:FuncId}{vs:List Value}{wC ds:List AV}{r:AV}{d:Option Nat}{K:fH->Prop}(hd':∀x,d=some x->x<n)(hv:VL I ρ vs wC)(hc:PR st.bx wC ds)(hd:ds.all (·.all AC.yA)=true)(hp:dI P f ds r)(hr:r.all AC.isLit=true)
 (k:K (st.A8 d (.v true r))) {X:Ending->World->Prop} (hX:Y3 P f vs w X):Calls P f vs.toArray w λe w'=>(∃v,e = .returned v/\AK E n K (a.put d v) w')/\X e w'/\w.heap.size<=w'.heap.size:=by
 have hv1:=Wp h (bs:=wC.flatMap AV.owns) hv hc (λb hb=>hb);refine(hp (D8 I ρ w st.bx (wC.flatMap AV.owns)) (λ_=>none) w vs (h.tabs.mono (IJ h.bx _)) (Qe h.agree _) (ZW _ _) (abj hv1 hd) _ hX).mono ?_;rintro e w' ⟨⟨v,J,σ,r',bs,rfl,⟨rfl,rfl⟩,hg,hA,hB,hle,hF,_⟩,hXe⟩;have hF':Dp w w' (λ_=>False):=⟨hF.os,hF.tape,hF.output,hF.size,λk hk _=>hF.block k hk (λ⟨b,hb⟩=>LV b k hb)⟩;exact⟨⟨v,rfl,I,ρ,_,k,(h.later hF').A8 hd' ⟨λ_=>amE hg hr,λe=>by cases e⟩⟩,hXe,hF.size⟩
theorem afS (h:GX E I ρ n st a w){f:FuncId}{vs:List Value}{wC ds:List AV}{r:AV}{d:Option Nat}{K:fH->Prop}(hd':∀x,d=some x->x<n)(hv:VL I ρ vs wC)(hc:PR st.bx wC ds)(hd:ds.all (·.all AC.yA)=true)(hp:dI P f ds r)(hr:r.all AC.yA=true)
 (k:K ((st.Ik (wC.flatMap AV.owns)).A8 d (.v true r))) {X:Ending->World->Prop} (hX:Y3 P f vs w X):Calls P f vs.toArray w λe w'=>(∃v,e = .returned v/\AK E n K (a.put d v) w')/\X e w'/\w.heap.size<=w'.heap.size:=by
 have hv1:=Wp h (bs:=wC.flatMap AV.owns) hv hc (λb hb=>hb);refine(hp (D8 I ρ w st.bx (wC.flatMap AV.owns)) (λ_=>none) w vs (h.tabs.mono (IJ h.bx _)) (Qe h.agree _) (ZW _ _) (abj hv1 hd) _ hX).mono ?_;rintro e w' ⟨⟨v,J,σ,r',bs,rfl,⟨rfl,rfl⟩,hg,hA,hB,hle,hF,_,hJ,_⟩,hXe⟩;have hF':Dp w w' (λ_=>False):=⟨hF.os,hF.tape,hF.output,hF.size,λk hk _=>hF.block k hk (λ⟨b,hb⟩=>LV b k hb)⟩;have hJ':∀k,k<w.heap.size->J k=D8 I ρ w st.bx (wC.flatMap AV.owns) k:=λk hk=>hJ k hk (λ⟨b,hb⟩=>LV b k hb);refine⟨⟨v,rfl,J,ρ,_,k,?_⟩,hXe,hF.size⟩;generalize hBS:wC.flatMap AV.owns=BS at *;have hIJ:I.le J:=IH.le_trans (IJ h.bx BS) hle;have hk:∀k,k<w.heap.size->w'.heap[k]? = w.heap[k]?:= λk hk=>hF'.block k hk (λh=>h);have Ei:∀b k,((st.Ik BS).bx b).uses (ρ b) k->(st.bx b).uses (ρ b) k/\¬(∃b' sz es cap,b'∈BS/\st.bx b' = .dat sz es/\ρ b'=some (k,cap)/\cap≠0):=by
  intro b k hu;rw[BM]at hu;by_cases hb:b∈BS
  ·rw[ahl hb]at hu;cases hx:st.bx b with
   | var xs=>rw[hx]at hu;refine⟨hu,?_⟩;rintro⟨b',sz,es,cap,_,hb',hr',h0⟩;have:=h.bx.inj b b' k (by rw[hx];exact hu) (by rw[hb'];exact⟨cap,hr',h0⟩);subst this;rw[hx]at hb';cases hb'
   | row e l=>rw[hx]at hu;refine⟨hu,?_⟩;rintro⟨b',sz,es,cap,_,hb',hr',h0⟩;have:=h.bx.inj b b' k (by rw[hx];exact hu) (by rw[hb'];exact⟨cap,hr',h0⟩);subst this;rw[hx]at hb';cases hb'
   |dat sz es=>rw[hx]at hu;exact hu.elim
   |Ik sz es=>rw[hx]at hu;exact hu.elim
   |absent=>rw[hx]at hu;exact hu.elim
   |dead=>rw[hx]at hu;exact hu.elim
  ·rw[ahk hb]at hu;refine⟨hu,?_⟩;rintro⟨b',sz,es,cap,hm',hb',hr',h0⟩;have:=h.bx.inj b b' k hu (by rw[hb'];exact⟨cap,hr',h0⟩);subst this;exact hb hm'
 have hfr:∀b k,((st.Ik BS).bx b).uses (ρ b) k->J k=none:=λb k hu=>by obtain⟨h1,h2⟩:=Ei b k hu;rw[hJ' k ((h.bx.ok b).lt h1)];unfold D8;rw[ahk h2];exact h.bx.fresh b k h1
 have hgx:GX E J ρ n (st.Ik BS) a w':=by
  refine{ agree:=hA,bx:=⟨λb=>?_,λb b' k hb hb'=>h.bx.inj b b' k (Ei b k hb).1 (Ei b' k hb').1,hfr⟩,tm:=λt ht=>(h.tm t ht).mono hIJ (Ren.le_refl ρ),size:=h.size,defers:=h.defers,Be:=h.Be.trans hF' (λ_ _ hf=>hf.elim),own:=λb k hu=>h.own b k (Ei b k hu).1,Jw:=IH.le_trans h.Jw hIJ,Jg:=λk hk0 hM=>?_,yS:=h.yS }
  ·have hok:=(h.bx.ok b).keep hIJ (Ren.le_refl ρ) rfl (λk hu=>hk k ((h.bx.ok b).lt hu));rw[BM];by_cases hb:b∈BS
   ·rw[ahl hb];cases hx:st.bx b with
    | dat sz es=>rw[hx]at hok;obtain⟨kk,cap,hr',hl,hm,hsz,hcs⟩:=hok;refine⟨kk,cap,hr',hl,hm,hsz,λh0=>?_⟩;obtain⟨cs,e,hw,_,_,hrd⟩:=hcs h0;have hu:(st.bx b).uses (ρ b) kk:=(by rw[hx];exact⟨cap,hr',h0⟩);have hlt:=(h.bx.ok b).lt hu;refine⟨cs,?_,hrd⟩;rw[hJ' kk hlt];unfold D8;rw[ahl ⟨b,sz,es,cap,hb,hx,hr',h0⟩,<- hk kk hlt,hw]
    |var xs=>rw[hx]at hok;exact hok
    |row e l=>rw[hx]at hok;exact hok
    |Ik sz es=>rw[hx]at hok;exact hok
    |absent=>rw[hx]at hok;exact hok
    |dead=>rw[hx]at hok;exact hok
   ·rw[ahk hb];exact hok
  ·have hlt:k<w.heap.size:=kQ hk0 h.Be.size;rw[hJ' k hlt];unfold D8;rw[ahk]
   ·exact h.Jg k hk0 hM
   ·rintro⟨b',sz,es,cap,_,hb',hr',h0⟩;rcases h.own b' k (by rw[hb'];exact⟨cap,hr',h0⟩)with h1|h1
    ·omega
    ·exact hM h1
 exact hgx.A8 hd' ⟨λ_=>aeP hg hr,λe=>by cases e⟩
end
end
section
section
variable {P:Program} {E:Env P} {I:IH} {ρ:Ren} {n:Nat} {st:fH} {a:Act} {w:World}
theorem Oj (l:List (Nat×Box))(st:fH){b:Nat}(h:b ∉ l.map (·.1)):(st.uN l).bx b=st.bx b:=by
 induction l generalizing st with
 |nil=>rfl
 | cons x l ih=>obtain⟨c,x⟩:=x;simp only[aZ,ay,not_or]at h;simp only[fH.uN,ih _ h.2,fH.sJ];rw[ahk h.1]
theorem ajx (l:List (Nat×Box))(st:fH)(hn:(l.map (·.1)).Nodup){j b:Nat}{x:Box}(h:l[j]? = some (b,x)):(st.uN l).bx b=x:=by
 induction l generalizing st j with
 |nil=>simp at h
 | cons y l ih=>
   obtain⟨c,y⟩:=y;simp only[aZ,zy]at hn;cases j with
   | zero=>simp at h;obtain⟨rfl,rfl⟩:=h;simp only[fH.uN];rw[Oj _ _ hn.1,fH.sJ,ahl rfl]
   | succ j=>simp only[fH.uN];exact ih _ hn.2 (by simpa using h)
theorem ZF {π:Nat->Nat}{I:IH}{ρ σ:Ren}{m:Nat}{v:Value}{x:AC}(h:GC I ρ v (G5 π x))(hl:x.wV m=true)(hs:∀b y,b<m->ρ (π b)=some y->σ b=some y):GC I σ v x:=by
 cases x with
 |c y=>exact h
 |ptr b off=>obtain⟨k,cap,h1,h2⟩:=h;exact⟨k,cap,hs _ _ (by simpa[AC.wV]using hl) h1,h2⟩
 |own b n sz=>obtain⟨k,cap,a,c,h1,h2⟩:=h;exact⟨k,cap,a,c,hs _ _ (by simpa[AC.wV]using hl) h1,h2⟩
 |sub b lo n c sz=>obtain⟨k,cap,a,c',h1,h2⟩:=h;exact⟨k,cap,a,c',hs _ _ (by simpa[AC.wV]using hl) h1,h2⟩
 |opt T b=>obtain⟨k,h1,h2⟩:=h;exact⟨k,hs _ _ (by simpa[AC.wV]using hl) h1,h2⟩
 |yV b n=>obtain⟨k,cap,h1,h2⟩:=h;exact⟨k,cap,hs _ _ (by simpa[AC.wV]using hl) h1,h2⟩
 |Bc b i sz off=>obtain⟨k,cap,h1,h2⟩:=h;exact⟨k,cap,hs _ _ (by simpa[AC.wV]using hl) h1,h2⟩
 |lF sz=>exact h
 |Gu cs=>exact h
 |err g=>exact h
 |NV=>exact h
 | fn f caps=>obtain⟨ks,h1,h2,h3⟩:=h;refine⟨ks,by simpa using h1,λj b k hb hk=>?_,h3⟩;obtain⟨cap,hc⟩:=h2 j (π b) k (by simp[hb]) hk;refine⟨cap,hs _ _ ?_ hc⟩;have:=aP.1 hl b (gQ hb);simpa using this
theorem aeO {π:Nat->Nat}{I:IH}{ρ σ:Ren}{m:Nat}{vs:List Value}{xs:List AC}(h:OB I ρ vs (xs.map (G5 π)))(hl:xs.all (AC.wV m)=true)(hs:∀b y,b<m->ρ (π b)=some y->σ b=some y):OB I σ vs xs:=
 ⟨by simpa using h.1,λj v x hv hx=>ZF (h.2 j v (G5 π x) hv (by simp[hx])) (aP.1 hl x (gQ hx)) hs⟩
theorem amG {π:Nat->Nat}{I:IH}{ρ σ:Ren}{m:Nat}{v:Value}{x:AV}(h:GV I ρ v (FH π x))(hl:x.all (AC.wV m)=true)(hs:∀b y,b<m->ρ (π b)=some y->σ b=some y):GV I σ v x:=by
 cases x with
 |one x=>exact ZF h hl hs
 |agg xs=>obtain⟨cs,rfl,hg⟩:=h;exact⟨cs,rfl,aeO hg hl hs⟩
 | zi ps=>
   obtain⟨vs,rfl,hz,hp⟩:=h;refine⟨vs,rfl,by simpa using hz,λj v p hv hq=>?_⟩;have h1:=hp j v _ hv (by rw[bP,hq];rfl);have h2:=aP.1 hl p (gQ hq);unfold GP at h1⊢;simp only at h1;split at h1
   ·rename_i hb;rw[ahl hb];obtain⟨cs,rfl,hg⟩:=h1;exact⟨cs,rfl,aeO hg h2 hs⟩
   ·rename_i hb;rw[ahk hb];obtain⟨x,hx,hg⟩:=h1;cases hp2:p.2 with
    |nil=>rw[hp2]at hx;simp at hx
    | cons y t=>rw[hp2]at hx h2;simp at hx;obtain⟨rfl,rfl⟩:=hx;exact⟨y,rfl,ZF hg (by simpa using h2) hs⟩
theorem ZE {π:Nat->Nat}{I:IH}{ρ σ:Ren}{v:Value}{x:AC}(h:GC I σ v x)(hs:∀b y,σ b=some y->ρ (π b)=some y):GC I ρ v (G5 π x):=by
 cases x with
 |c y=>exact h
 |ptr b off=>obtain⟨k,cap,h1,h2⟩:=h;exact⟨k,cap,hs _ _ h1,h2⟩
 |own b n sz=>obtain⟨k,cap,a,c,h1,h2⟩:=h;exact⟨k,cap,a,c,hs _ _ h1,h2⟩
 |sub b lo n c sz=>obtain⟨k,cap,a,c',h1,h2⟩:=h;exact⟨k,cap,a,c',hs _ _ h1,h2⟩
 |opt T b=>obtain⟨k,h1,h2⟩:=h;exact⟨k,hs _ _ h1,h2⟩
 |yV b n=>obtain⟨k,cap,h1,h2⟩:=h;exact⟨k,cap,hs _ _ h1,h2⟩
 |Bc b i sz off=>obtain⟨k,cap,h1,h2⟩:=h;exact⟨k,cap,hs _ _ h1,h2⟩
 |lF sz=>exact h
 |Gu cs=>exact h
 |err g=>exact h
 |NV=>exact h
 | fn f caps=>
   obtain⟨ks,h1,h2,h3⟩:=h;refine⟨ks,by simpa using h1,λj b k hb hk=>?_,h3⟩;rw[bP]at hb;cases hc:caps[j]? with
   |none=>rw[hc]at hb;cases hb
   | some c=>rw[hc]at hb;simp at hb;subst hb;obtain⟨cap,hc'⟩:=h2 j c k hc hk;exact⟨cap,hs _ _ hc'⟩
theorem aeN {π:Nat->Nat}{I:IH}{ρ σ:Ren}{vs:List Value}{xs:List AC}(h:OB I σ vs xs)(hs:∀b y,σ b=some y->ρ (π b)=some y):OB I ρ vs (xs.map (G5 π)):=by
 refine⟨by simpa using h.1,λj v x hv hx=>?_⟩;rw[bP]at hx;cases hc:xs[j]? with
 |none=>rw[hc]at hx;cases hx
 | some c=>rw[hc]at hx;simp at hx;subst hx;exact ZE (h.2 j v c hv hc) hs
theorem amF {π:Nat->Nat}{I:IH}{ρ σ:Ren}{v:Value}{x:AV}(h:GV I σ v x)(hs:∀b y,σ b=some y->ρ (π b)=some y):GV I ρ v (FH π x):=by
 cases x with
 |one x=>exact ZE h hs
 |agg xs=>obtain⟨cs,rfl,hg⟩:=h;exact⟨cs,rfl,aeN hg hs⟩
 | zi ps=>
   obtain⟨vs,rfl,hz,hp⟩:=h;refine⟨vs,rfl,by simpa using hz,λj v p hv hq=>?_⟩;rw[bP]at hq;cases hc:ps[j]? with
   |none=>rw[hc]at hq;cases hq
   | some q=>
     rw[hc]at hq;simp at hq;subst hq;have h1:=hp j v q hv hc;unfold GP at h1⊢;simp only;split at h1
     ·rename_i hb;rw[ahl hb];obtain⟨cs,rfl,hg⟩:=h1;exact⟨cs,rfl,aeN hg hs⟩
     ·rename_i hb;rw[ahk hb];obtain⟨x,hx,hg⟩:=h1;exact⟨G5 π x,by rw[hx];rfl,ZE hg hs⟩
theorem afQ {π:Nat->Nat}{I:IH}{ρ σ:Ren}{m:Nat}{w:World}{b:Nat}{x:Box}(h:xP I ρ w (π b) (EU π x))(hl:x.wV m=true)(hb:σ b=ρ (π b))(hs:∀b y,b<m->ρ (π b)=some y->σ b=some y):xP I σ w b x:=by
 cases x with
 |absent=>exact hb.trans h
 |dead=>trivial
 | var xs=>obtain⟨k,cap,cs,hr,hw,hz,hc⟩:=h;refine⟨k,cap,cs,hb.trans hr,hw,by simpa using hz,λj u x hu hx=>ZF (hc j u (G5 π x) hu (by simp[hx])) (aP.1 hl x (gQ hx)) hs⟩
 |dat sz es=>obtain⟨k,cap,hr,h⟩:=h;exact⟨k,cap,hb.trans hr,h⟩
 |row e l=>obtain⟨k,cap,hr,h⟩:=h;exact⟨k,cap,hb.trans hr,h⟩
 |Ik sz es=>obtain⟨k,cap,hr,h⟩:=h;exact⟨k,cap,hb.trans hr,h⟩
theorem afP {π:Nat->Nat}{I:IH}{ρ σ:Ren}{w:World}{b:Nat}{x:Box}(h:xP I σ w b x)(hb:ρ (π b)=σ b)(hs:∀b y,σ b=some y->ρ (π b)=some y):xP I ρ w (π b) (EU π x):=by
 cases x with
 |absent=>exact hb.trans h
 |dead=>trivial
 | var xs=>
   obtain⟨k,cap,cs,hr,hw,hz,hc⟩:=h;refine⟨k,cap,cs,hb.trans hr,hw,by simpa using hz,λj u x hu hx=>?_⟩;rw[bP]at hx;cases hc':xs[j]? with
   |none=>rw[hc']at hx;cases hx
   | some c=>rw[hc']at hx;simp at hx;subst hx;exact ZE (hc j u c hu hc') hs
 |dat sz es=>obtain⟨k,cap,hr,h⟩:=h;exact⟨k,cap,hb.trans hr,h⟩
 |row e l=>obtain⟨k,cap,hr,h⟩:=h;exact⟨k,cap,hb.trans hr,h⟩
 |Ik sz es=>obtain⟨k,cap,hr,h⟩:=h;exact⟨k,cap,hb.trans hr,h⟩
theorem Lh {π:Nat->Nat}{x:Box}{p:Option (Nat×Nat)}{k:Nat} : (EU π x).uses p k<->x.uses p k:=by cases x<;>exact Iff.rfl
theorem aeF {l:List Box}{b:Nat}(h:b<l.length):l[b]? = some (CO l b):=by unfold CO;rw[bf,ax h];rfl
theorem JW {l:List Box}{b:Nat}(h:l.length<=b):CO l b = .absent:=by unfold CO;rw[bf,kF h];rfl
theorem aaZ (h:GX E I ρ n st a w)(hm:E.m<=10){f:FuncId}{vs:List Value}{wC ds:List AV}{d:Option Nat}{K:fH->Prop}{fp:List Box}{L nu:List Nat}{post:AV->List Box->Prop}{sg:List Nat}(hL:sg++nu=L)(hd':∀x,d=some x->x<n)(hv:VL I ρ vs wC)
 (hl:sg.length=fp.length) (hn:L.Nodup) (hf:∀i,i<fp.length->st.bx (L.getD i 0)=EU (λb=>L.getD b 0) (fp.getD i .absent))
 (hnu:∀b,b∈nu->st.bx b = .absent/\10<=b) (hra:(ds.all λx=>x.all (AC.wV fp.length))=true) (hrf:fp.all (Box.wV fp.length)=true) (ha:wC=ds.map (FH λb=>L.getD b 0)) (hp:oV P f ds fp post)
 (k:∀r bs,post r bs->bs.length=L.length/\K ((st.uN (L.zip (bs.map (EU λb=>L.getD b 0)))).A8 d (.v true (FH (λb=>L.getD b 0) r)))) {X:Ending->World->Prop} (hX:Y3 P f vs w X) :
 Calls P f vs.toArray w λe w'=>(∃v,e = .returned v/\AK E n K (a.put d v) w')/\X e w'/\w.heap.size<=w'.heap.size:=by
 generalize hπ:(λb=>L.getD b 0)=π at hf ha k;have aor:∀b,L.getD b 0=π b:=λb=>congrFun hπ b;have hLl:fp.length<=L.length:=by rw[<- hL];simp;omega
 have WO:∀b,b<L.length->L[b]? = some (π b):=λb hb=>by rw[<- aor,bf,ax hb];rfl
 have aiu:∀b,b<L.length->π b∈L:=λb hb=>gQ (WO b hb);have ait:∀b b',b<L.length->b'<L.length->π b=π b'->b=b':=λb b' hb hb' e=>by
  have h1:=WO b hb;have h2:=WO b' hb';rw[ax hb]at h1;rw[ax hb']at h2;simp at h1 h2;have hpw:=xx.1 hn;rcases yw b b' with hlt|heq|hlt
  ·exact al7 (by rw[h1,h2,e]) (hpw b b' hb hb' hlt)
  ·exact heq
  ·exact al7 (by rw[h1,h2,e]) (hpw b' b hb' hb hlt)
 let ρc:Ren:=λb=>if b<fp.length then ρ (π b)else none
 have hs:∀b y,b<fp.length->ρ (π b)=some y->ρc b=some y:=λb y hb e=>by simp[ρc,hb,e]
 have hfb:∀b,b<fp.length->st.bx (π b)=EU π (CO fp b):=λb hb=>by have:=hf b hb;rw[aor]at this;exact this
 have hub:∀b k,(CO fp b).uses (ρc b) k->b<fp.length/\(st.bx (π b)).uses (ρ (π b)) k:=λb k hu=>by
  by_cases hb:b<fp.length
  ·refine⟨hb,?_⟩;rw[hfb b hb,Lh];simpa[ρc,hb]using hu
  ·rw[JW (by omega)]at hu;exact hu.elim
 have hBX:BX I ρc w (CO fp):=by
  refine⟨λb=>?_,λb b' k hb hb'=>?_,λb k hb=>?_⟩
  ·by_cases hb:b<fp.length
   ·have:=h.bx.ok (π b);rw[hfb b hb]at this;exact afQ this (aP.1 hrf _ (gQ (aeF hb))) (by simp[ρc,hb]) hs
   ·rw[JW (by omega)];show ρc b=none;simp[ρc,hb]
  ·obtain⟨h1,h2⟩:=hub b k hb;obtain⟨h1',h2'⟩:=hub b' k hb';exact ait b b' (by omega) (by omega) (h.bx.inj _ _ _ h2 h2')
  ·exact h.bx.fresh _ _ (hub b k hb).2
 have hGV:VL I ρc vs ds:=by subst ha;refine⟨by simpa using hv.1,λj v x hv' hx=>?_⟩;exact amG (hv.2 j v (FH π x) hv' (by simp[hx])) (aP.1 hra x (gQ hx)) hs
 refine(hp I ρc w vs h.tabs h.agree hBX hGV _ hX).mono ?_;rintro e w' ⟨⟨v,J,σ,r,bs,rfl,hpost,hg,hA,hB,hle,hF,hbw,hJ,hσ⟩,hXe⟩;obtain⟨hbl,hk⟩:=k r bs hpost;refine⟨⟨v,rfl,?_⟩,hXe,hF.size⟩;have apN:∀b,L.length<=b->σ b=none:=λb hb=>by have:=hB.ok b;rw[JW (by omega)]at this;exact this
 let ρ':Ren:=λb=>open Classical in if b∈L then σ (L.idxOf b)else ρ b
 have Q4:∀b,b<L.length->ρ' (π b)=σ b:=λb hb=>by
  have h1:=aiu b hb;simp only[ρ',h1,amB];have hi:=List.idxOf_lt_length_of_mem h1;have h2:L[L.idxOf (π b)]? = some (π b):=by rw[ax hi];simp
  have h3:=WO _ hi;rw[h2]at h3;simp only[aC]at h3;rw[<- ait _ _ hb hi h3]
 have abp:∀b,b ∉ L->ρ' b=ρ b:=λb hb=>by simp[ρ',hb]
 have hin:∀b,b∈L->∃i,i<L.length/\π i=b:=λb hb=>by
  have hi:=List.idxOf_lt_length_of_mem hb;refine⟨_,hi,?_⟩;have h2:L[L.idxOf b]? = some b:=by rw[ax hi];simp
  have h3:=WO _ hi;rw[h2]at h3;simpa using h3.symm
 have alT:∀i,fp.length<=i->i<L.length->π i∈nu:=λi h1 h2=>by have h3:=WO i h2;rw[<- hL,dA (by omega)]at h3;exact gQ h3
 have hle':ρ.le ρ':=λb y hb=>by
  by_cases hm':b∈L
  ·obtain⟨i,hi,rfl⟩:=hin b hm';rw[Q4 i hi];by_cases hif:i<fp.length
   ·rw[hσ i hif];exact hs i y hif hb
   ·have h1:=(hnu _ (alT i (by omega) hi)).1;have h2:=h.bx.ok (π i);rw[h1]at h2;rw[show ρ (π i)=none from h2]at hb;cases hb
  ·rw[abp b hm'];exact hb
 have aom:∀b y,σ b=some y->ρ' (π b)=some y:=λb y hb=>by
  by_cases hbL:b<L.length
  ·rw[Q4 b hbL];exact hb
  ·rw[apN b (by omega)]at hb;cases hb
 have hlz:(L.zip (bs.map (EU π))).map (·.1)=L:=by rw[List.map_fst_zip];simp[hbl]
 have age:∀i,i<L.length->(st.uN (L.zip (bs.map (EU π)))).bx (π i)=EU π (CO bs i):=λi hi=>by refine ajx _ _ (by rw[hlz];exact hn) (j:=i) ?_;rw[List.getElem?_zip_eq_some];exact⟨WO i hi,by rw[bP,aeF (by omega)];rfl⟩
 have hbx2:∀b,b ∉ L->(st.uN (L.zip (bs.map (EU π)))).bx b=st.bx b:=λb hb=>Oj _ _ (by rw[hlz];exact hb);have hnot:∀b k,b ∉ L->(st.bx b).uses (ρ b) k->k<w.heap.size/\¬ ∃b',(CO fp b').uses (ρc b') k:=λb k hb hu=>by refine⟨(h.bx.ok b).lt hu,?_⟩;rintro⟨b',hb'⟩;obtain⟨h1,h2⟩:=hub b' k hb';have:=h.bx.inj _ _ _ hu h2;exact hb (this▸aiu b' (by omega))
 have hother:∀b k,b ∉ L->(st.bx b).uses (ρ b) k->w'.heap[k]? = w.heap[k]?:= λb k hb hu=>let ⟨h1,h2⟩:=hnot b k hb hu;hF.block k h1 h2;have aob:∀i k,i<L.length->(CO bs i).uses (σ i) k->∀b,b ∉ L->¬(st.bx b).uses (ρ b) k:=λi k hi hu b hb hu'=>by
  obtain⟨h1,h2⟩:=hnot b k hb hu';rcases hbw i k hu with h3|h3
  ·omega
  ·exact h2 h3
 generalize hst:st.uN (L.zip (bs.map (EU π)))=st' at *;have htm:st'.tm=st.tm:=by rw[<- hst,RS]
 have hgx:GX E J ρ' n st' a w':=by
  refine{ agree:=hA,bx:=⟨λb=>?_,λb b' k hb hb'=>?_,λb k hb=>?_⟩,tm:=λt ht=>?_,size:=h.size,defers:=h.defers,Be:=?_,own:=λb k hb=>?_,Jw:=IH.le_trans h.Jw hle,Jg:=λk hk0 hM=>?_,yS:=λb hb=>?_ }
  ·by_cases hb:b∈L
   ·obtain⟨i,hi,rfl⟩:=hin b hb;rw[age i hi];exact afP (hB.ok i) (Q4 i hi) aom
   ·rw[hbx2 b hb];exact(h.bx.ok b).keep hle hle' (abp b hb) (λk hu=>hother b k hb hu)
  ·by_cases hbL:b∈L
   ·obtain⟨i,hi,rfl⟩:=hin b hbL;rw[age i hi,Lh,Q4 i hi]at hb;by_cases abn:b'∈L
    ·obtain⟨i',hi',rfl⟩:=hin b' abn;rw[age i' hi',Lh,Q4 i' hi']at hb';rw[hB.inj _ _ _ hb hb']
    ·rw[hbx2 b' abn,abp b' abn]at hb';exact al7 hb' (aob i k hi hb b' abn)
   ·rw[hbx2 b hbL,abp b hbL]at hb;by_cases abn:b'∈L
    ·obtain⟨i',hi',rfl⟩:=hin b' abn;rw[age i' hi',Lh,Q4 i' hi']at hb';exact al7 hb (aob i' k hi' hb' b hbL)
    ·rw[hbx2 b' abn,abp b' abn]at hb';exact h.bx.inj _ _ _ hb hb'
  ·by_cases hbL:b∈L
   ·obtain⟨i,hi,rfl⟩:=hin b hbL;rw[age i hi,Lh,Q4 i hi]at hb;exact hB.fresh _ _ hb
   ·rw[hbx2 b hbL,abp b hbL]at hb;obtain⟨h1,h2⟩:=hnot b k hbL hb;rw[hJ k h1 h2];exact h.bx.fresh _ _ hb
  ·rw[htm];exact(h.tm t ht).mono hle hle'
  ·refine h.Be.trans hF ?_;rintro x hx ⟨b',hb'⟩;rcases h.own _ _ (hub b' x hb').2 with h1|h1
   ·omega
   ·exact h1
  ·by_cases hbL:b∈L
   ·obtain⟨i,hi,rfl⟩:=hin b hbL;rw[age i hi,Lh,Q4 i hi]at hb;rcases hbw i k hb with h1|⟨b',hb'⟩
    ·exact .inl (bH h.Be.size h1)
    ·exact h.own _ _ (hub b' k hb').2
   ·rw[hbx2 b hbL,abp b hbL]at hb;exact h.own _ _ hb
  ·rw[hJ k (kQ hk0 h.Be.size)]
   ·exact h.Jg k hk0 hM
   ·rintro⟨b',hb'⟩;rcases h.own _ _ (hub b' k hb').2 with h1|h1
    ·omega
    ·exact hM h1
  ·by_cases hbL:b∈L
   ·obtain⟨i,hi,rfl⟩:=hin b hbL;rw[Q4 i hi];by_cases hif:i<fp.length
    ·rw[hσ i hif,<- h.yS _ hb];simp[ρc,hif]
    ·have:=(hnu _ (alT i (by omega) hi)).2;omega
   ·rw[abp b hbL];exact h.yS b hb
 exact⟨J,ρ',_,hk,hgx.A8 hd' ⟨λ_=>amF hg aom,λe=>by cases e⟩⟩
end
end
section
section
variable {P:Program} {E:Env P} {I:IH} {ρ:Ren} {n:Nat} {st:fH} {a:Act} {w:World}
def QM (n:Nat):List Operand->List oW->Bool
 |[],[]=>true
 |x::xs,y::ys=>kW n x y&&QM n xs ys
 |_,_=>false
def NF (n:Nat)(ops:Array Oper):Option (Nat×Bool)->Option (Nat×Bool)->Bool
 |none,none=>true
 |some (j,w),some (s,w')=>w==w'&&decide (s<n)&&(match ops[j]? with|some o=>o.dst==some s|none=>false)
 |_,_=>false
def adb (n:Nat):Option Nat->Option Nat->Bool
 |none,none=>true
 |some x,some y=>x==y&&decide (x<n)
 |_,_=>false
def V7 (P:Program)(n m:Nat)(op:Op)(d:Option Nat):VF->Bool
 |.op ao=>U0 P n m op d ao
 | .call f args=>match op with
   |.call ⟨.value (.func f'),az,_⟩=>f'==f&&QM n az.toList args&&yO P f
   |_=>false
 | .Ja x args=>match op with
   |.call ⟨.value x',az,_⟩=>kW n x' x&&QM n az.toList args
   |_=>false
def Lt (P:Program)(n m:Nat)(ops:Array Oper)(o:Oper)(ao:kX):Bool:=
 NF n ops o.guard ao.g&&adb n o.dst ao.d&&V7 P n m o.op o.dst ao.i
theorem RD (h:GX E I ρ n st a w):∀{xs:List Operand} {ys:List oW},QM n xs ys=true->(∀y,y∈ys->(y.ev st.tm).g=true) ->
 VL I ρ (xs.map a.eval) (ys.map (dZ st.tm))
 |[],[],_,_=>⟨rfl,λj v x hv hx=>by simp at hv⟩
 | x::xs,y::ys,hc,hg=>by
   simp only[QM,ah]at hc;have ih:=RD h hc.2 (λy hy=>hg y (dY _ hy));refine⟨by simpa using ih.1,λj v z hv hz=>?_⟩;cases j with
   | zero=>simp at hv hz;subst hv;subst hz;exact nV h hc.1 (hg y (aW ..))
   |succ j=>exact ih.2 j v z (by simpa using hv) (by simpa using hz)
 |[],_::_,hc,_=>by cases hc
 |_::_,[],hc,_=>by cases hc
theorem ahW {d d':Option Nat}(h:adb n d d'=true):d=d'/\∀x,d'=some x->x<n:=by
 unfold adb at h;split at h
 ·exact⟨rfl,λx hx=>by cases hx⟩
 ·simp only[ah,akg,ahm]at h;obtain⟨rfl,h2⟩:=h;exact⟨rfl,λx hx=>by cases hx;exact h2⟩
 ·cases h
theorem abf (h:GX E I ρ n st a w){ops:Array Oper}{o:Oper}{g:Option (Nat×Bool)}(hc:NF n ops o.guard g=true)(hv:EH st.tm g) :
 Bo o (yielded ops a.tmps)=uA st.tm g:=by
 unfold NF at hc;split at hc
 ·rename_i e;simp[Bo,e,uA]
 ·rename_i j wnt s aq4 e;simp only[ah,akg,ahm]at hc;obtain⟨⟨rfl,hs⟩,hj⟩:=hc;have hb:(ops[j]?).bind (·.dst)=some s:=by
   cases hoj:ops[j]? with
   |none=>rw[hoj]at hj;cases hj
   |some o'=>rw[hoj]at hj;simpa using hj
  have ht:=h.tm s hs;have hsz:s<a.tmps.size:=by rw[h.size];exact hs
  have hget:a.tmps[s]? = some (a.tmps.getD s undef):=by simp[Array.getD,hsz]
  simp only[Bo,e,uA,yielded,hb,Option.bind_some,hget];simp only[EH]at hv;split at hv
  ·rename_i x hg;rw[hg]at ht;have:=ht.2 rfl;rw[this,hg];simp[undef]
  ·rename_i b hg;rw[hg]at ht;have:=LG (ht.1 rfl);rw[this,hg];simp
  ·exact hv.elim
 ·cases hc
theorem Ht {o:Oper}{x:Operand}{az:Array Operand}{ts:Array TypeId}{f:FuncId}{caps:Array Value}(ho:o.op = .call ⟨.value x,az,ts⟩)(hx:a.eval x = .func (.func f) #[] caps)(hf:yO P f=true) :
 (execOp a.eval o).run P w = .ok (.enter f (az.map a.eval++caps)) w:=by
 unfold yO at hf;cases hp:P.funcs[f]? with
 |none=>rw[hp]at hf;cases hf
 | some fn=>
   rw[hp]at hf;simp only[ah,kH]at hf;obtain⟨h1,h2⟩:=hf;have h1':¬fn.name = "runtime.NumGoroutine" :=by simpa using h1
   obtain⟨b,hb⟩:=iW.1 h2;simp[execOp,ho,resolve,hx,Go.Deferred.ofValue,invoke,callFunc,hp,h1',hb]
theorem Md {o:Oper}{f:FuncId}{args:Array Value}{K:Act->World->Prop}{Q:Exit->Act->World->Prop}(he:(execOp a.eval o).run P w = .ok (.enter f args) w)
 (h:Calls P f args w λe w'=>∃v,e = .returned v/\K (a.put o.dst v) w'):o.wp P a w K Q:=by
 unfold vZ;rw[he,Oper.upon_enter];refine h.mono ?_;rintro e w' ⟨v,rfl,hk⟩;exact hk
theorem JS (h:GX E I ρ n st a w)(hm:E.m<=10){f:FuncId}{vs:List Value}{wC:List AV}{d:Option Nat}{K:List Nat->List Nat->fH->Prop}(hd:∀x,d=some x->x<n)(hv:VL I ρ vs wC)
 (hT:Pv P f wC true d st K) {X:Ending->World->Prop} (hX:Y3 P f vs w X):Calls P f vs.toArray w λe w'=>(∃v,e = .returned v/\AK E n (λst=>∃rd wr,K rd wr st) (a.put d v) w')/\X e w'/\w.heap.size<=w'.heap.size:=by
 cases hT with
 |lit ds r hc hds hh hr k=>exact ahI h hd hv (hc rfl) hds (hh rfl) hr ⟨_,_,k⟩ hX
 |pure ds r hp hc hds hh hr k=>exact afS h hd hv hc hds hh hr ⟨_,_,k⟩ hX
 | U2 hp az hc ds fp sg nu post hl hn hf hne hnu hra hrf ha hh k=>have hv':=Wp h (bs:=wC.flatMap AV.owns) hv hc (λb hb=>hb);have h':=h.freeze (wC.flatMap AV.owns);refine aaZ h' hm rfl hd hv' hl hn hf (λb hb=>⟨?_,(hnu b hb).2⟩) hra hrf ha hh (λr bs hpo=>⟨(k r bs hpo).1,_,_,(k r bs hpo).2⟩) hX;rw[BM,(hnu b hb).1];split<;>rfl
 |gen hp ds fp sg nu post hl hn hf hne hnu hra hrf ha hh k=>exact aaZ h hm rfl hd hv hl hn hf hnu hra hrf ha hh (λr bs hpo=>⟨(k r bs hpo).1,_,_,(k r bs hpo).2⟩) hX
theorem Mc {f:FuncId}{wC:List AV}{d:Option Nat}{K:List Nat->List Nat->fH->Prop}(hT:Pv P f wC false d st K):∃r rd wr,K rd wr (st.A8 d (.v false r)):=by
 cases hT with
 |lit ds r hc hds hh hr k=>exact⟨_,_,_,k⟩
 |pure ds r hp=>cases hp
 |gen hp=>cases hp
 |U2 hp=>cases hp
def Ie (P:Program)(ops:Array Oper)(Q:Exit->Act->World->Prop)(o:Oper)(K:Act->World->Prop)(a:Act)(w:World):Prop:=
 if Bo o (yielded ops a.tmps)then o.wp P a w K Q\/(o.asks P a w/\LetsOut Q)else K (a.put o.dst undef) w
theorem AK.imp {K K':fH->Prop}(hk:∀st,K st->K' st){a:Act}{w:World}(h:AK E n K a w):AK E n K' a w:=
 let ⟨I,ρ,st,h1,h2⟩:=h;⟨I,ρ,st,hk _ h1,h2⟩
theorem aeB (h:GX E I ρ n st a w)(hm:E.m<=10){ops:Array Oper}{Q:Exit->Act->World->Prop}{o:Oper}{ao:kX}(hc:Lt P n E.m ops o ao=true){K:List Nat->List Nat->fH->Prop}(hT:T P ao st K) :
 Ie P ops Q o (AK E n λst=>∃rd wr,K rd wr st) a w:=by
 simp only[Lt,ah]at hc;obtain⟨⟨hcg,hcd⟩,hci⟩:=hc;obtain⟨hdd,hdn⟩:=ahW hcd;obtain⟨hgv,hT⟩:=hT;have hw:=abf h hcg hgv;have skip:∀r,(∃rd wr,K rd wr (st.A8 ao.d (.v false r)))->AK E n (λst=>∃rd wr,K rd wr st) (a.put o.dst undef) w:=λr hk=>⟨I,ρ,_,hk,by rw[hdd];exact h.A8 hdn ⟨(λe=>by cases e),λ_=>rfl⟩⟩;unfold Ie;rw[hw];cases hi:ao.i with
 | op op=>
   rw[hi]at hT hci;obtain⟨h1,h2⟩:=hT;cases hp:uA st.tm ao.g with
   | false=>simpa using skip _ ⟨_,_,h2 hp⟩
   | true=>
     obtain⟨hv,jV,h3⟩:=h1 hp;obtain⟨v,w',I',ρ',hr,hg,amR,heff⟩:=abU h hci hv jV;simp only[amB];refine .inl ?_;have key:AK E n (λst=>∃rd wr,K rd wr st) (a.put o.dst v) w':=by
      refine⟨I',ρ',_,⟨_,_,h3⟩,?_⟩;rw[hdd];cases hd:ao.d with
      |none=>exact hg
      |some d=>exact hg.put (hdn d hd) ⟨λ_=>amR (by rw[hdd,hd];simp),λe=>by cases e⟩
     unfold vZ;rcases hr with hr|⟨hr,hnd⟩
     ·rw[hr];exact key
     ·rw[hr,Eu];rw[hnd]at key⊢;exact key
 | call f args=>
   rw[hi]at hT hci;simp only[V7]at hci;split at hci
   ·rename_i f' az ts ho;simp only[ah,akg]at hci;obtain⟨⟨rfl,hca⟩,hok⟩:=hci;obtain⟨h1,h2⟩:=hT;cases hp:uA st.tm ao.g with
    | false=>rw[hp]at h2;obtain⟨r,hk⟩:=Mc h2;simpa using skip r hk
    | true=>rw[hp]at h1 h2;simp only[amB];refine .inl (Md (Ht ho (x:=.func f') (caps:= #[]) rfl hok) ?_);have hvs:=RD h hca (h1 rfl);have:=(JS h hm hdn hvs h2 .acs).mono λ_ _ h=>h.1;rw[hdd];simpa[<- Array.toList_map]using this
   ·cases hci
 | Ja x args=>
   rw[hi]at hT hci;simp only[V7]at hci;split at hci
   ·rename_i x' az ts ho;simp only[ah]at hci;obtain⟨hcx,hca⟩:=hci;obtain⟨hg0,h2⟩:=hT;cases hp:uA st.tm ao.g with
    | false=>rw[hp]at h2;obtain⟨r,hk⟩:=Mc h2;simpa using skip r hk
    |true=>
    rw[hp]at h2;obtain⟨hg1,h1⟩:=hg0 hp;split at h2
    ·rename_i hb;cases hb
    ·rename_i f caps _ hf;obtain⟨hok,h2⟩:=h2;have hx:=nV h hcx hg1;rw[hf]at hx;obtain⟨ks,hk1,hk2,hk3⟩:=hx
     ·skip
      simp only[amB];refine .inl (Md (Ht ho hk3 hok) ?_);have hvs:=RD h hca h1;have hvs':VL I ρ (az.toList.map a.eval++ks.map λk=>rJ (some ⟨k,0,none⟩)) (args.map (dZ st.tm)++caps.map λb=>AV.one (.ptr b 0)):=by
       refine⟨by have:=hvs.1;simp at this;simp[hk1,this],λj v z hv hz=>?_⟩;by_cases hj:j<(az.toList.map a.eval).length
       ·rw[bF hj]at hv;rw[bF (by rw[<- hvs.1];exact hj)]at hz;exact hvs.2 j v z hv hz
       ·rw[dA (by omega)]at hv;rw[dA (by rw[<- hvs.1];omega)]at hz;rw[hvs.1]at hv;generalize j-(args.map (dZ st.tm)).length=i at hv hz;rw[bP]at hv hz;cases hki:ks[i]? with
        |none=>rw[hki]at hv;cases hv
        | some k=>
          cases hci:caps[i]? with
          |none=>rw[hci]at hz;cases hz
          | some b=>rw[hki]at hv;rw[hci]at hz;simp at hv hz;subst hv;subst hz;obtain⟨cap,hr⟩:=hk2 i b k hci hki;exact⟨k,cap,hr,rfl⟩
      have:=(JS h hm hdn hvs' h2 .acs).mono λ_ _ h=>h.1;rw[hdd];have e:(az.map a.eval++(ks.map λk=>rJ (some ⟨k,0,none⟩)).toArray)=(az.toList.map a.eval++ks.map λk=>rJ (some ⟨k,0,none⟩)).toArray:=(by apply yI;simp);rw[e];exact this
    ·exact h2.elim
   ·cases hci
end
end
section
def Jd (d:Option Nat)(Γ : List OF):List OF:= Γ.filter λf=>match d with
 |some d=>Jm d f
 |none=>true
def OJ (Γ : List OF):Operand->Option (Bool×Knd)
 |.func f=>some (false,kindOf f)
 | .tmp t=>(Γ.filterMap λf=>match f with
   |.fn y s=>if y=t then some (true,match s with|0=>Knd.rd|s+1=>Knd.ow (ah3 s))else none
   |_=>none).head?
 |_=>none
def amY (Γ : List OF)(x:Operand):Bool:=match OJ Γ x with
 |some (_,.rd)=>true
 |_=>false
def Qm (Γ : List OF):Op->Bool
 |.call ⟨.value x,_,_⟩=>amY Γ x
 |op=>DF op
def amA (s f n:Nat):Bool:=match s with
 |0=>kindOf f == .rd
 |s+1=>(match kindOf f with|.ow sg=>sg.ps==(ah3 s).ps++bC n .any&&sg.rs==(ah3 s).rs|_=>false)
def Xd (P:Program)(lz:Bool)(Γ : List OF)(o:Oper):Option (List OF):=
 if lz||o.guard.isSome then(if Qm Γ o.op then some (Jd o.dst Γ)else none)else match o.op with
 | .call ⟨.value x,az,_⟩=>(match OJ Γ x with
   |some (_,.rd)=>some (Jd o.dst Γ)
   |some (_,.ow sg)=>if az.size==sg.ps.length then(UM Γ sg az.toList o.dst).map (Yw Γ o.dst)else none
   |_=>none)
 | .makeFunc (.func f) ⟨[]⟩ caps=>(match o.dst with
   |some d=>some ((([0,1,2,3,4].filter λs=>amA s f caps.size).map (.fn d))++Jd (some d) Γ)
   |none=>none)
 | .assign (.const v)=>(match o.dst with
   |some d=>some (if ald v then .ref d ⟨0,o.type,mk d 0⟩::Jd (some d) Γ else Jd (some d) Γ)
   |none=>none)
 |op=>(ajg P Γ o.dst op).map (ae8 Γ o.dst)
def UN (P:Program)(lz:Bool)(Γ : List OF)(o:Oper)(ao:kX):Option (List OF):=match ao.i,o.op with
 |.op _,.call ⟨.value _,_,_⟩=>some (Jd o.dst Γ)
 |_,_=>Xd P lz Γ o
def PI (P:Program)(pl:List Nat)(lz:Bool)(Γ : List OF)(o:Oper)(ao:kX):Option (List OF):=if(pl.any λi=>o.dst==some i)then none else UN P lz Γ o ao
theorem akU {s f n:Nat}(h:amA s f n=true):FV s f n:=by
 unfold amA at h;unfold FV;split at h
 ·simpa using h
 ·split at h
  ·rename_i sg hk;simp only[ah,akg]at h;exact⟨sg,hk,h.1,h.2⟩
  ·cases h
section
variable {P:Program} {E:Env P} {I:IH} {ρ:Ren} {n:Nat} {st:fH} {a:Act} {w w':World} {Γ : List OF} {g0:Own} {dp:Nat} {lz:Bool}
def LY (E:Env P)(g0:Own)(dp:Nat)(Γ : List OF)(a:Act)(w:World):Prop:=∃g,Rel dp E.w0.heap.size g0 g/\OW P FV g dp Γ a w
theorem LY.drop (h:LY E g0 dp Γ a w)(d:Option Nat)(v:Value):LY E g0 dp (Jd d Γ) (a.put d v) w:=by
 obtain⟨g,h1,h2⟩:=h;cases d with
 |none=>exact⟨g,h1,h2.weak λf hf=>(aX.1 hf).1⟩
 |some d=>exact⟨g,h1,h2.drop d v⟩
theorem LY.world (h:LY E g0 dp Γ a w)(hs:w.heap.size<=w'.heap.size)(hF:Dp w w' λ_=>False):LY E g0 dp Γ a w':=by
 obtain⟨g,h1,h2⟩:=h;refine⟨g,h1,h2.world hs λk hk=>hF.block k ?_ (λh=>h)⟩;cases hg:g k with
 |none=>exact al7 hg hk
 |some B=>exact h2.good.lt hg
theorem LY.weak {CX:List OF}(h:LY E g0 dp Γ a w)(hs:∀f,f∈CX->f ∈ Γ):LY E g0 dp CX a w:=
 let ⟨g,h1,h2⟩:=h;⟨g,h1,h2.weak hs⟩
theorem Ym : ∀{xs:List Operand} {ps:List PK} {i n:Nat} {r:List (Nat×Nat)×List (Nat×Nat)},Ii Γ i xs ps=some r->xs.length=ps.length->Ii Γ i xs (ps++bC n .any)=some r
 |[],[],i,n,r,h,_=>by simpa[Ii]using h
 | x::xs,p::ps,i,n,r,h,hl=>by
   simp only[Ii,yN]at h⊢;split at h
   ·rename_i l o l' o' h1 h2;rw[h1,Ym h2 (by simpa using hl)];exact h
   ·cases h
 |_::_,[],i,n,r,_,hl=>by simp at hl
 |[],_::_,i,n,r,_,hl=>by simp at hl
theorem afN : ∀{xs:List Operand} {ps:List PK} {i:Nat} {mv vars:List (Nat×Nat)},Ii Γ i xs ps=some (mv,vars)->∀j b,(j,b)∈vars->j-i<ps.length:=by intro xs ps i mv vars h j b hb;obtain⟨rs,x,s,h1,_⟩:=P7 h j b hb;exact(aK.1 h1).1
theorem agE {sg:Sig}{xs:List Operand}{d:Option Nat}{C:CR}{m:Nat}(h:UM Γ sg xs d=some C)(hl:xs.length=sg.ps.length):UM Γ ⟨sg.ps++bC m .any,sg.rs⟩ xs d=some C:=by
 unfold UM at h⊢;split at h
 ·rename_i mv vars ha;rw[Ym ha hl]
  dsimp only
  split at h
  ·cases h
  ·rename_i hn;rw[ahk hn];split at h
   ·exact h
   ·rename_i i b;have hi:i<sg.ps.length:=(by have:=afN ha i b (aW ..);omega);have:XP (sg.ps++bC m .any) i=XP sg.ps i:=by
     unfold XP;rw[bF hi]
    simp only[this];exact h
   ·cases h
 ·cases h
theorem am9 (h:GX E I ρ n st a w)(Nh:LY E g0 dp Γ a w){o:Oper}{CX:List OF}{v:Value}(hg:o.guard=none\/Qm Γ o.op=true)(ho:Xd P lz Γ o=some CX)(hd:∀d,o.dst=some d->d<n)(hnc:∀c,o.op = .call c->∀x,c.callee ≠ .value x)
 (hr:(execOp a.eval o).run P w = .ok (.value v) w'\/(execOp a.eval o).run P w = .ok .skip w'/\o.dst=none) (he:Eff o a w w'):LY E g0 dp CX (a.put o.dst v) w':=by
 unfold Xd at ho;split at ho
 ·rename_i hgs;split at ho
  ·rename_i hq;cases ho;have hq':DF o.op=true:=by
    unfold Qm at hq;split at hq
    ·rename_i x az ts hop;exact al7 rfl (hnc _ hop x)
    ·exact hq
   have hw:=he.quiet hq';subst hw;exact Nh.drop _ _
  ·cases ho
 ·obtain⟨g,h1,h2⟩:=Nh;split at ho
  ·rename_i x az ts hop;exact al7 rfl (hnc _ hop x)
  ·rename_i f caps hop;split at ho
   ·rename_i d hdst;cases ho;have hq':DF o.op=true:=(by rw[hop];rfl);have hw:=he.quiet hq';subst hw;rw[hdst]at hr⊢;rcases hr with hr|hr
    ·refine⟨g,h1,h2.good,λf' hf=>?_⟩;rw[aY]at hf;rcases hf with hf|hf
     ·rw[aS]at hf;obtain⟨s,hs,rfl⟩:=hf;have hs:=(aX.1 hs).2;simp only[execOp,hop,Instr.makeFunc,cZ,bQ,bn]at hr;have hv:v = .func (.func f) #[] (caps.map a.eval):=by
       have:=hr;simp at this;exact this.symm
      refine⟨f,caps.map a.eval,?_,by simpa using akU hs⟩;rw[gB (by rw[h.size];exact hd d hdst),hv]
     ·rw[Jd,aX]at hf;exact(h2.fs f' hf.1).put' hf.2
    ·cases hr.2
   ·cases ho
  ·rename_i cv hop;split at ho
   ·rename_i d hdst;have hq':DF o.op=true:=(by rw[hop];rfl);have hw:=he.quiet hq';subst hw;rw[hdst]at hr⊢;rcases hr with hr|hr
    ·simp only[execOp,hop,bQ]at hr;have hv:v=cv:=by
      have:=hr;simp[Act.eval]at this;exact this.symm
     cases ho;refine⟨g,h1,h2.good,λf' hf=>?_⟩;have hdrop:f'∈Jd (some d) Γ -> FI P FV g dp (a.put (some d) v) _ f':=λhf=>by rw[Jd,aX]at hf;exact(h2.fs f' hf.1).put' hf.2
     split at hf
     ·rename_i hnil;rcases ay.1 hf with rfl|hf
      ·refine⟨cv,?_,.inl (Vw hnil)⟩;rw[gB (by rw[h.size];exact hd d hdst),hv];have e:=Vw hnil;rw[ZV]at e;rw[e];rfl
      ·exact hdrop hf
     ·exact hdrop hf
    ·cases hr.2
   ·cases ho
  ·simp only[bW]at ho;obtain⟨R,hR,rfl⟩:=ho;obtain⟨g',h3,h4⟩:=abW h2 h.Be.size (λd e=>by rw[h.size];exact hd d e) hR hr he;exact⟨g',h1.trans h3,h4⟩
end
end
section
section
variable {ev ev':oW->AV} {bx bx':Nat->Box}
theorem IQ {o:Option oW}{k:Nat}(h:∀x,o=some x->ev x=ev' x):bnd ev o k=bnd ev' o k:=by
 cases o with
 |none=>rfl
 |some x=>simp only[bnd,h x rfl]
theorem Jc {n sz:Nat} : ∀{ps:List (Nat×oW)},(∀p,p∈ps->ev p.2=ev' p.2)->Az ev bx n sz ps=Az ev' bx n sz ps/\wB ev ps=wB ev' ps/\Ci ev bx ps=Ci ev' bx ps
 |[],_=>⟨rfl,rfl,rfl⟩
 | (i,x)::r,h=>by obtain⟨h1,h2,h3⟩:=Jc (n:=n) (sz:=sz) (ps:=r) (λp hp=>h p (dY _ hp));simp only[Az,wB,Ci,h (i,x) (aW ..),h1,h2,h3,and_self]
theorem apq (op:ny)(he:∀x,x∈op.pI->ev x=ev' x):op.f ev bx=op.f ev' bx:=by
 cases op
 case build zs ps=>
  have h1:∀p,p∈ps->ev p.2.2=ev' p.2.2:=λp hp=>he _ (DR hp);simp only[ny.f]
  congr 1
  ·apply propext;constructor
   ·intro h p hp;rw[<- h1 p hp];exact h p hp
   ·intro h p hp;rw[h1 p hp];exact h p hp
  ·congr 2
   exact rq λp hp=>by rw[h1 p hp]
 case sZ l sz n zs ps=>have h1:∀p,p∈ps->ev p.2=ev' p.2:=λp hp=>he _ (DR hp);obtain⟨c1,c2,c3⟩:=Jc (bx:=bx) (n:=n) (sz:=sz) h1;simp only[ny.f,c1,c2,c3]
 case ZU f cs=>have h1:cs.map ev=cs.map ev':=rq λx hx=>he x hx;simp only[ny.f,h1]
 case Xz x lo hi=>have h1:=he x (by simp[ny.pI]);have h2:∀y,lo=some y->ev y=ev' y:=λy hy=>he y (by simp[ny.pI,hy]);have h3:∀y,hi=some y->ev y=ev' y:=λy hy=>he y (by simp[ny.pI,hy]);simp only[ny.f,h1,IQ h2,IQ h3]
 case IM sz x lo hi=>have h1:=he x (by simp[ny.pI]);have h2:∀y,lo=some y->ev y=ev' y:=λy hy=>he y (by simp[ny.pI,hy]);have h3:∀y,hi=some y->ev y=ev' y:=λy hy=>he y (by simp[ny.pI,hy]);simp only[ny.f,h1,IQ h2,IQ h3]
 case Ah sz x lo hi=>have h1:=he x (by simp[ny.pI]);have h2:∀y,lo=some y->ev y=ev' y:=λy hy=>he y (by simp[ny.pI,hy]);have h3:∀y,hi=some y->ev y=ev' y:=λy hy=>he y (by simp[ny.pI,hy]);have h4:bnd ev hi=bnd ev' hi:=funext λk=>IQ h3;simp only[ny.f,h1,IQ h2,h4]
 all_goals
  simp only[ny.pI,ay,dn,or_false,forall_eq_or_imp,forall_eq]at he;simp only[ny.f,he]
theorem aoP (op:ny)(he:∀x,x∈op.pI->ev x=ev' x):op.rd ev=op.rd ev':=by
 cases op
 case build zs ps=>rfl
 case sZ l sz n zs ps=>have h1:∀p,p∈ps->ev p.2=ev' p.2:=λp hp=>he _ (DR hp);simp only[ny.rd,(Jc (bx:=λ_=>.absent) (n:=n) (sz:=sz) h1).2.1]
 case ZU f cs=>rfl
 case Xz x lo hi=>rfl
 case IM sz x lo hi=>rfl
 case Ah sz x lo hi=>rfl
 all_goals
  simp only[ny.pI,ay,dn,or_false,forall_eq_or_imp,forall_eq]at he;simp only[ny.rd,he]
theorem Ot {sz:Nat}{x:AV}(h:∀b,b∈lvl x->bx b=bx' b):yH sz x bx=yH sz x bx':=by
 cases x with
 | one x=>
   cases x
   case own b n sz'=>simp only[yH,h b (by simp[lvl])]
   case sub b lo n c sz'=>simp only[yH,h b (by simp[lvl])]
   case c y=>cases y<;>rfl
   all_goals rfl
 |_=>rfl
theorem aiN {agg:Bool}{k:Nat}{x:AV}(h:∀b,b∈lvl x->bx b=bx' b):Ba agg k x bx=Ba agg k x bx':=by
 cases x with
 | one x=>
   cases x
   case ptr b off=>simp only[Ba,h b (by simp[lvl])]
   case Bc b i sz off=>simp only[Ba,h b (by simp[lvl])]
   all_goals rfl
 |_=>rfl
theorem af2 {x:AC}(h:∀b,b∈qg [x]->bx b=bx' b):dataOf bx x=dataOf bx' x:=by
 cases x
 case own b n sz=>simp only[dataOf,h b (by simp[qg])]
 all_goals rfl
theorem YQ {x:AC}{r:List AC}{b:Nat} : b∈qg (x::r)<->b∈qg [x]\/b∈qg r:=by cases x<;>simp[qg]
theorem Wq : ∀{xs:List AC},(∀b,b∈qg xs->bx b=bx' b)->MQ bx xs=MQ bx' xs/\AZ bx xs=AZ bx' xs/\ZB bx (qg xs)=ZB bx' (qg xs)
 |[],_=>⟨rfl,rfl,rfl⟩
 | x::r,h=>by
   obtain⟨h1,h2,h3⟩:=Wq (xs:=r) (λb hb=>h b (YQ.2 (.inr hb)));refine⟨?_,?_,rq λb hb=>by rw[h b hb]⟩
   ·simp only[MQ,h1,af2 (x:=x) (λb hb=>h b (YQ.2 (.inl hb)))]
   ·cases x
    case own b n sz=>simp only[AZ,h2,h b (by simp[qg])]
    all_goals exact h2
theorem ag1 {agg:Bool}{k:Nat}{p x:AV}(h:∀b,b∈lvl p++(match p with|.one (.Bc _ _ _ _)=>qg x.cells|_=>[])->bx b=bx' b):Aj agg k p x bx=Aj agg k p x bx':=by
 cases p with
 | one p=>
   cases p
   case ptr b off=>simp only[Aj,h b (by simp[lvl])]
   case Bc b i sz off=>obtain⟨h1,h2,h3⟩:=Wq (bx:=bx) (bx':=bx') (xs:=x.cells) (λc hc=>h c (by simp only[lvl,aY];exact .inr hc));have h4:=h b (by simp[lvl]);cases x<;>cases agg<;>first|rfl|(simp only[Aj,h4,h1,h2,h3])
   all_goals rfl
 |_=>rfl
theorem UB {n sz:Nat} : ∀{ps:List (Nat×oW)},(∀b,b∈wB ev ps->bx b=bx' b)->Az ev bx n sz ps=Az ev bx' n sz ps/\Ci ev bx ps=Ci ev bx' ps
 |[],_=>⟨rfl,rfl⟩
 | (i,x)::r,h=>by obtain⟨h1,h2⟩:=UB (n:=n) (sz:=sz) (ps:=r) (λb hb=>h b (by simp only[wB,aY];exact .inr hb));obtain⟨g1,g2,g3⟩:=Wq (bx:=bx) (bx':=bx') (xs:=(ev x).cells) (λb hb=>h b (by simp only[wB,aY];exact .inl hb));simp only[Az,Ci,h1,h2,g1,g2,and_self]
theorem apo (op:ny)(hb:∀b,b∈op.rd ev->bx b=bx' b):op.f ev bx=op.f ev bx':=by
 cases op
 case load agg k p=>exact aiN hb
 case store agg k p x=>exact ag1 hb
 case alloc l zs=>simp only[ny.f,hb l (by simp[ny.rd])]
 case PZ T e l r=>simp only[ny.f,hb l (by simp[ny.rd]),hb r (by simp[ny.rd])]
 case PY l sz n zs=>simp only[ny.f,hb l (by simp[ny.rd])]
 case box l x=>simp only[ny.f,hb l (by simp[ny.rd])]
 case sZ l sz n zs ps=>
  obtain⟨h1,h2⟩:=UB (bx:=bx) (bx':=bx') (n:=n) (sz:=sz) (ps:=ps) (λb hm=>hb b (by simp only[ny.rd];exact dY _ hm));have h3:ZB bx (wB ev ps)=ZB bx' (wB ev ps):=rq λb hm=>by rw[hb b (by simp only[ny.rd];exact dY _ hm)]
  simp only[ny.f,hb l (by simp[ny.rd]),h1,h2,h3]
 case makes l sz bytes zs n m=>simp only[ny.f,hb l (by simp[ny.rd])]
 case Wn x=>simp only[ny.f,Ot hb]
 case Xx sz n x=>
  simp only[ny.f];cases hx:ev x with
  | one y=>
    cases y
    case Bc b i sz off=>have:=hb b (by simp[ny.rd,lvl,hx]);cases i<;>cases off<;>simp only[this]
    all_goals rfl
  |_=>rfl
 case append l sz bytes s x=>
  have h1:=hb l (by simp[ny.rd]);simp only[ny.f,Ot (x:=ev x) (λb hb'=>hb b (by simp[ny.rd,hb'])),h1];cases hs:ev s with
  | one y=>
    cases y
    case own b n sz'=>simp only[hb b (by simp[ny.rd,lvl,hs])]
    all_goals rfl
  |_=>rfl
 case copy sz d x=>
  simp only[ny.f,Ot (x:=ev x) (λb hb'=>hb b (by simp[ny.rd,hb']))];cases hs:ev d with
  | one y=>
    cases y
    case own b n sz'=>simp only[hb b (by simp[ny.rd,lvl,hs])]
    all_goals rfl
  |_=>rfl
 case acj l sz bytes s x=>
  have h1:=hb l (by simp[ny.rd]);simp only[ny.f,Io,Ot (x:=ev x) (λb hb'=>hb b (by simp[ny.rd,hb'])),h1];generalize yH sz (ev x) bx'=so;cases hs:ev s with
  | one y=>
    cases y
    case sub b lo n c sz'=>have h2:=hb b (by simp[ny.rd,lvl,hs]);cases c<;>rcases so with _|⟨p,ys⟩<;>first|rfl|(simp only[h2])
    all_goals(rcases so with _|⟨p,ys⟩<;>rfl)
  |_=>rcases so with _|⟨p,ys⟩<;>rfl
 case acW l sz bytes zs s x=>
  have h1:=hb l (by simp[ny.rd]);simp only[ny.f,Ih,h1];generalize ev x=y';have hb2:∀b,b∈lvl (ev s)->bx b=bx' b:=λb hb'=>hb b (by simp[ny.rd,hb']);rcases y' with x|x|x
  ·rcases x with c|_|_|_|_|_|_|_|_
   ·rcases c with v|_|_
    ·cases v
     case int k q=>
      cases hs:ev s with
      | one y=>
        cases y
        case sub b lo n c sz'=>have h2:=hb2 b (by simp[lvl,hs]);cases c<;>simp[h2]
        all_goals rfl
      |_=>rfl
     all_goals(generalize ev s=z;rcases z with(_|_|_|_|⟨b,lo,n,_|c,sz'⟩|_|_|_|_)|_|_<;>rfl)
    all_goals(generalize ev s=z;rcases z with(_|_|_|_|⟨b,lo,n,_|c,sz'⟩|_|_|_|_)|_|_<;>rfl)
   all_goals(generalize ev s=z;rcases z with(_|_|_|_|⟨b,lo,n,_|c,sz'⟩|_|_|_|_)|_|_<;>rfl)
  all_goals(generalize ev s=z;rcases z with(_|_|_|_|⟨b,lo,n,_|c,sz'⟩|_|_|_|_)|_|_<;>rfl)
 case Xu sz d x=>
  have ht:∀m,lvl (truncS m (ev x))=lvl (ev x):=λm=>by rcases ev x with(_|_|_|_|_|_|_|_|_)|_|_<;>rfl
  have hsrc:∀m,yH sz (truncS m (ev x)) bx=yH sz (truncS m (ev x)) bx':=λm=>Ot (λb hb'=>hb b (by rw[ht]at hb';simp[ny.rd,hb']));simp only[ny.f,Iq,hsrc];cases hs:ev d with
  | one y=>
    cases y
    case own b n sz'=>have h2:=hb b (by simp[ny.rd,lvl,hs]);simp only[FO];rcases yH sz (truncS n (ev x)) bx' with _|⟨p,ys⟩<;>first|rfl|(simp only[h2])
    case sub b lo n c sz'=>have h2:=hb b (by simp[ny.rd,lvl,hs]);simp only[FO];rcases yH sz (truncS n (ev x)) bx' with _|⟨p,ys⟩<;>first|rfl|(simp only[h2])
    all_goals rfl
  |_=>rfl
 case ovl x y=>
  have key:∀(u:AV),(∀b,b∈lvl u->bx b=bx' b)->∀b lo n c sz,FO u=some (b,lo,n,c,sz)->bx b=bx' b:=by
   intro u hu b lo n c sz hs;unfold FO at hs;split at hs
   ·cases hs;exact hu _ (by simp[lvl])
   ·cases hs;exact hu _ (by simp[lvl])
   ·cases hs
  have k1:=key (ev x) (λb hb'=>hb b (by simp[ny.rd,hb']));have k2:=key (ev y) (λb hb'=>hb b (by simp[ny.rd,hb']));simp only[ny.f,ZZ];generalize FO (ev x)=u at k1;generalize FO (ev y)=v at k2;rcases u with _|⟨b,lo,n,c,sz⟩<;>rcases v with _|⟨b',lo',n',c',sz'⟩<;>try rfl
  simp only[k1 b lo n c sz rfl,k2 b' lo' n' c' sz' rfl]
 case aef sz zs x=>
  simp only[ny.f,Ip];cases hs:ev x with
  | one y=>
    cases y
    case own b n sz'=>simp only[FO,hb b (by simp[ny.rd,lvl,hs])]
    case sub b lo n c sz'=>simp only[FO,hb b (by simp[ny.rd,lvl,hs])]
    all_goals rfl
  |_=>rfl
 all_goals rfl
theorem ajP {e e':oW->Slot}(op:ny)(he:∀x,x∈op.pI->e x=e' x)(h:op.valid e):op.valid e':=by
 cases op
 case pick c a b=>have h1:=he c (by simp[ny.pI]);have h2:=he a (by simp[ny.pI]);have h3:=he b (by simp[ny.pI]);simp only[ny.valid,h1,h2,h3]at h⊢;exact h
 all_goals exact λx hx=>he x hx▸h x hx
theorem alN {x y:AC}(h:Cv bx x y)(hb:∀b,b∈qg [x]->bx b=bx' b):Cv bx' x y:=by
 cases h with
 |refl=>exact .refl _
 |lF sz=>exact .lF sz
 |own b n sz es ha hn=>exact .own b n sz es (by rw[<- hb b (by simp[qg])];exact ha) hn
theorem amx {xs ys:List AC}(h:CvL bx xs ys)(hb:∀b,b∈qg xs->bx b=bx' b):CvL bx' xs ys:=by
 induction h with
 |nil=>exact .nil
 |cons h t ih=>exact .cons (alN h λb hb'=>hb b (Fg.2 (.inl hb'))) (ih λb hb'=>hb b (Fg.2 (.inr hb')))
theorem amv {x y:AV}(h:CvA bx x y)(hb:∀b,b∈x.owns->bx b=bx' b):CvA bx' x y:=by
 cases h with
 |one h=>exact .one (alN h hb)
 |agg h=>exact .agg (amx h hb)
theorem Zt {xs ys:List AV}(h:PR bx xs ys)(hb:∀b,b∈xs.flatMap AV.owns->bx b=bx' b):PR bx' xs ys:=by
 induction h with
 |nil=>exact .nil
 |cons h t ih=>exact .cons (amv h λb hb'=>hb b (by rw[jU];exact dh _ hb')) (ih λb hb'=>hb b (by rw[jU];exact dQ _ hb'))
end
structure VH where
 rd:List Nat
 wr:List Nat
 outs:Slot->List (Nat×Box)->Prop
inductive I7 (P:Program)(f:FuncId)(wC:List AV)(p:Bool)(bx:Nat->Box):VH->Prop
 |lit (ds:List AV) (r:AV) (hc:p=true->PR bx wC ds) (hd:ds.all (·.all AC.yA)=true) (h:p=true->dI P f ds r) (hr:r.all AC.isLit=true) :
  I7 P f wC p bx ⟨wC.flatMap AV.owns,[],λs bs=>s = .v p r/\bs=[]⟩
 |pure (ds:List AV) (r:AV) (hp:p=true) (hc:PR bx wC ds) (hd:ds.all (·.all AC.yA)=true) (h:dI P f ds r) (hr:r.all AC.yA=true) :
  I7 P f wC p bx ⟨wC.flatMap AV.owns,wC.flatMap AV.owns,λs bs=>s = .v true r/\bs=(wC.flatMap AV.owns).map λb=>(b,JY (bx b))⟩
 |gen (hp:p=true) (ds:List AV) (fp:List Box) (sg nu:List Nat) (post:AV->List Box->Prop)
  (hl:sg.length=fp.length) (hn:(sg++nu).Nodup) (hf:∀i,i<fp.length->bx ((sg++nu).getD i 0)=EU (λb=>(sg++nu).getD b 0) (fp.getD i .absent))
  (hne:∃r bs,post r bs) (hv:∀b,b∈nu->bx b = .absent/\10<=b) (hra:(ds.all λx=>x.all (AC.wV fp.length))=true) (hrf:fp.all (Box.wV fp.length)=true) (ha:wC=ds.map (FH λb=>(sg++nu).getD b 0)) (h:oV P f ds fp post)
  (hlen:∀r bs,post r bs->bs.length=(sg++nu).length) :
  I7 P f wC p bx ⟨sg++nu,sg++nu,λs bs=>∃r bs',post r bs'/\s = .v true (FH (λb=>(sg++nu).getD b 0) r)/\bs=(sg++nu).zip (bs'.map (EU λb=>(sg++nu).getD b 0))⟩
 |U2 (hp:p=true) (az:List AV) (hc:PR bx wC az) (ds:List AV) (fp:List Box) (sg nu:List Nat) (post:AV->List Box->Prop)
     (hl:sg.length=fp.length) (hn:(sg++nu).Nodup) (hf:∀i,i<fp.length->(if(sg++nu).getD i 0∈wC.flatMap AV.owns then JY (bx ((sg++nu).getD i 0))else bx ((sg++nu).getD i 0))=EU (λb=>(sg++nu).getD b 0) (fp.getD i .absent))
     (hne:∃r bs,post r bs) (hv:∀b,b∈nu->bx b = .absent/\10<=b) (hra:(ds.all λx=>x.all (AC.wV fp.length))=true) (hrf:fp.all (Box.wV fp.length)=true) (ha:az=ds.map (FH λb=>(sg++nu).getD b 0)) (h:oV P f ds fp post)
     (hlen:∀r bs,post r bs->bs.length=(sg++nu).length) :
     I7 P f wC p bx ⟨wC.flatMap AV.owns++(sg++nu),wC.flatMap AV.owns++(sg++nu),λs bs=>∃r bs',post r bs'/\s = .v true (FH (λb=>(sg++nu).getD b 0) r) /\
      bs=((wC.flatMap AV.owns).map λb=>(b,JY (bx b)))++(sg++nu).zip (bs'.map (EU λb=>(sg++nu).getD b 0))⟩
def SB (P:Program)(o:kX)(st:fH)(D:VH):Prop:=
 EH st.tm o.g/\match o.i with
  |.op op=>(uA st.tm o.g=true->op.valid (oW.ev st.tm)/\(op.f (dZ st.tm) st.bx).vc /\
   D=⟨op.rd (dZ st.tm),(op.f (dZ st.tm) st.bx).sets.map (·.1),λs bs=>s = .v true (op.f (dZ st.tm) st.bx).v/\bs=(op.f (dZ st.tm) st.bx).sets⟩) /\
   (uA st.tm o.g=false->D=⟨[],[],λs bs=>s = .v false (.one .NV)/\bs=[]⟩)
  |.call f args=>(uA st.tm o.g=true->∀x,x∈args->(x.ev st.tm).g=true)/\I7 P f (args.map (dZ st.tm)) (uA st.tm o.g) st.bx D
  | .Ja x args=>(uA st.tm o.g=true->(x.ev st.tm).g=true/\∀x,x∈args->(x.ev st.tm).g=true)/\match uA st.tm o.g,dZ st.tm x with
    |false,_=>I7 P 0 [] false st.bx D
    |true,.one (.fn f caps)=>yO P f=true/\I7 P f (args.map (dZ st.tm)++caps.map λb=>.one (.ptr b 0)) true st.bx D
    |true,_=>False
section
variable {P:Program} {st st':fH} {K:List Nat->List Nat->fH->Prop}
theorem Uj {f:FuncId}{wC:List AV}{p:Bool}{d:Option Nat} : Pv P f wC p d st K<->∃D,I7 P f wC p st.bx D/\∀s bs,D.outs s bs->K D.rd D.wr ((st.uN bs).A8 d s):=by
 constructor
 ·intro h;cases h with
  |lit ds r hc hd hh hr k=>exact⟨_,.lit ds r hc hd hh hr,λs bs ⟨h1,h2⟩=>by subst h1;subst h2;exact k⟩
  |pure ds r hp hc hd hh hr k=>exact⟨_,.pure ds r hp hc hd hh hr,λs bs ⟨h1,h2⟩=>by subst h1;subst h2;rw[Gf];exact k⟩
  | U2 hp az hc ds fp sg nu post hl hn hf hne hv hra hrf ha hh k=>exact⟨_,.U2 hp az hc ds fp sg nu post hl hn hf hne hv hra hrf ha hh (λr bs hp=>(k r bs hp).1),λs bs ⟨r,bs',hp,h1,h2⟩=>by subst h1;subst h2;rw[L9,Gf];exact(k r bs' hp).2⟩
  | gen hp ds fp sg nu post hl hn hf hne hv hra hrf ha hh k=>exact⟨_,.gen hp ds fp sg nu post hl hn hf hne hv hra hrf ha hh (λr bs hp=>(k r bs hp).1),λs bs ⟨r,bs',hp,h1,h2⟩=>by subst h1;subst h2;exact(k r bs' hp).2⟩
 ·rintro⟨D,hD,hk⟩;cases hD with
  |lit ds r hc hd hh hr=>exact .lit ds r hc hd hh hr (hk _ _ ⟨rfl,rfl⟩)
  |pure ds r hp hc hd hh hr=>exact .pure ds r hp hc hd hh hr (by have:=hk _ _ ⟨rfl,rfl⟩;rw[Gf]at this;exact this)
  | U2 hp az hc ds fp sg nu post hl hn hf hne hv hra hrf ha hh hlen=>exact .U2 hp az hc ds fp sg nu post hl hn hf hne hv hra hrf ha hh (λr bs hp=>⟨hlen r bs hp,by have:=hk _ _ ⟨r,bs,hp,rfl,rfl⟩;rw[L9,Gf]at this;exact this⟩)
  | gen hp ds fp sg nu post hl hn hf hne hv hra hrf ha hh hlen=>exact .gen hp ds fp sg nu post hl hn hf hne hv hra hrf ha hh (λr bs hp=>⟨hlen r bs hp,hk _ _ ⟨r,bs,hp,rfl,rfl⟩⟩)
theorem MM {o:kX} : T P o st K<->∃D,SB P o st D/\∀s bs,D.outs s bs->K D.rd D.wr ((st.uN bs).A8 o.d s):=by
 unfold T SB;cases o.i with
 | op op=>
   unfold TOp;cases hp:uA st.tm o.g with
   | true=>
     constructor
     ·rintro⟨hg,h1,_⟩;obtain⟨a1,a2,a3⟩:=h1 rfl;exact⟨_,⟨hg,λ_=>⟨a1,a2,rfl⟩,λe=>by cases e⟩,λs bs ⟨e1,e2⟩=>by subst e1;subst e2;exact a3⟩
     ·rintro⟨D,⟨hg,h1,_⟩,hk⟩;obtain⟨a1,a2,rfl⟩:=h1 rfl;exact⟨hg,λ_=>⟨a1,a2,hk _ _ ⟨rfl,rfl⟩⟩,λe=>by cases e⟩
   | false=>
     constructor
     ·rintro⟨hg,_,h2⟩;exact⟨_,⟨hg,(λe=>by cases e),λ_=>rfl⟩,λs bs ⟨e1,e2⟩=>by subst e1;subst e2;exact h2 rfl⟩
     ·rintro⟨D,⟨hg,_,h2⟩,hk⟩;have:=h2 rfl;subst this;exact⟨hg,(λe=>by cases e),λ_=>hk _ _ ⟨rfl,rfl⟩⟩
 | call f args=>
   simp only[wR,Uj];constructor
   ·rintro⟨hg,h1,D,h2,h3⟩;exact⟨D,⟨hg,h1,h2⟩,h3⟩
   ·rintro⟨D,⟨hg,h1,h2⟩,h3⟩;exact⟨hg,h1,D,h2,h3⟩
 | Ja x args=>
   simp only;cases uA st.tm o.g with
   | false=>
     simp only[wR,Uj];constructor
     ·rintro⟨hg,h1,D,h2,h3⟩;exact⟨D,⟨hg,h1,h2⟩,h3⟩
     ·rintro⟨D,⟨hg,h1,h2⟩,h3⟩;exact⟨hg,h1,D,h2,h3⟩
   |true=>
   cases dZ st.tm x with
   | one y=>
     cases y
     case fn f caps=>
      simp only[wR,Uj];constructor
      ·rintro⟨hg,h1,h0,D,h2,h3⟩;exact⟨D,⟨hg,h1,h0,h2⟩,h3⟩
      ·rintro⟨D,⟨hg,h1,h0,h2⟩,h3⟩;exact⟨hg,h1,h0,D,h2,h3⟩
     all_goals exact⟨λh=>h.2.2.elim,λ⟨D,h,_⟩=>h.2.2.elim⟩
   |_=>exact⟨λh=>h.2.2.elim,λ⟨D,h,_⟩=>h.2.2.elim⟩
theorem I7.bx {f:FuncId}{wC:List AV}{p:Bool}{bx bx':Nat->Box}{D:VH}(h:I7 P f wC p bx D)(hb:∀b,b∈D.rd->bx b=bx' b):I7 P f wC p bx' D:=by
 cases h with
 |lit ds r hc hd hh hr=>exact .lit ds r (λe=>Zt (hc e) hb) hd hh hr
 | pure ds r hp hc hd hh hr=>have e:((wC.flatMap AV.owns).map λb=>(b,JY (bx b)))=(wC.flatMap AV.owns).map λb=>(b,JY (bx' b)):=rq λb hb'=>(by rw[hb b hb']);simp only[e];exact .pure ds r hp (Zt hc hb) hd hh hr
 | U2 hp az hc ds fp sg nu post hl hn hf hne hv hra hrf ha hh hlen=>
   have e:((wC.flatMap AV.owns).map λb=>(b,JY (bx b)))=(wC.flatMap AV.owns).map λb=>(b,JY (bx' b)):=rq λb hb'=>(by rw[hb b (dh _ hb')]);simp only[e];refine .U2 hp az (Zt hc λb hm=>hb b (dh _ hm)) ds fp sg nu post hl hn (λi hi=>?_) hne (λb hm=>?_) hra hrf ha hh hlen
   ·rw[<- hb]
    ·exact hf i hi
    ·show(sg++nu).getD i 0∈wC.flatMap AV.owns++(sg++nu);have:i<(sg++nu).length:=(by simp;omega);rw[bf,ax this];exact dQ _ (dD this)
   ·rw[<- hb b (dQ _ (dQ _ hm))];exact hv b hm
 | gen hp ds fp sg nu post hl hn hf hne hv hra hrf ha hh hlen=>
   refine .gen hp ds fp sg nu post hl hn (λi hi=>?_) hne (λb hm=>?_) hra hrf ha hh hlen
   ·rw[<- hb]
    ·exact hf i hi
    ·show(sg++nu).getD i 0∈sg++nu;have:i<(sg++nu).length:=(by simp;omega);rw[bf,ax this];exact dD this
   ·rw[<- hb b (dQ _ hm)];exact hv b hm
theorem I7.ne {f:FuncId}{wC:List AV}{p:Bool}{bx:Nat->Box}{D:VH}(h:I7 P f wC p bx D):∃s bs,D.outs s bs:=by
 cases h with
 |lit=>exact⟨_,_,rfl,rfl⟩
 |pure=>exact⟨_,_,rfl,rfl⟩
 |gen hp ds fp sg nu post hl hn hf hne=>obtain⟨r,bs,h⟩:=hne;exact⟨_,_,r,bs,h,rfl,rfl⟩
 |U2 hp az hc ds fp sg nu post hl hn hf hne=>obtain⟨r,bs,h⟩:=hne;exact⟨_,_,r,bs,h,rfl,rfl⟩
theorem I7.fst {f:FuncId}{wC:List AV}{p:Bool}{bx:Nat->Box}{D:VH}(h:I7 P f wC p bx D){s:Slot}{bs:List (Nat×Box)}(ho:D.outs s bs):∀b,b∈bs.map (·.1)->b∈D.wr:=by
 cases h with
 |lit=>obtain⟨_,rfl⟩:=ho;intro b hb;simp at hb
 |pure=>obtain⟨_,rfl⟩:=ho;intro b hb;simpa using hb
 | U2 hp az hc ds fp sg nu post hl hn hf hne=>
   obtain⟨r,bs',_,_,rfl⟩:=ho;intro b hb;rw[uG,aY]at hb;rcases hb with hb|hb
   ·exact dh _ (by simpa using hb)
   ·obtain⟨x,hx,rfl⟩:=aS.1 hb;exact dQ _ (List.of_mem_zip (a:=x.1) (b:=x.2) hx).1
 | gen hp ds fp sg nu post hl hn hf hne=>obtain⟨r,bs',_,_,rfl⟩:=ho;intro b hb;obtain⟨x,hx,rfl⟩:=aS.1 hb;exact(List.of_mem_zip (a:=x.1) (b:=x.2) hx).1
theorem SB.ne {o:kX}{D:VH}(h:SB P o st D):∃s bs,D.outs s bs:=by
 obtain⟨_,h⟩:=h;split at h
 ·cases hp:uA st.tm o.g with
  |true=>obtain⟨_,_,rfl⟩:=h.1 hp;exact⟨_,_,rfl,rfl⟩
  |false=>have:=h.2 hp;subst this;exact⟨_,_,rfl,rfl⟩
 ·exact h.2.ne
 ·obtain⟨_,h⟩:=h;split at h
  ·exact h.ne
  ·exact h.2.ne
  ·exact h.elim
theorem SB.fst {o:kX}{D:VH}(h:SB P o st D){s:Slot}{bs:List (Nat×Box)}(ho:D.outs s bs):∀b,b∈bs.map (·.1)->b∈D.wr:=by
 obtain⟨_,h⟩:=h;split at h
 ·cases hp:uA st.tm o.g with
  |true=>obtain⟨_,_,rfl⟩:=h.1 hp;obtain⟨_,rfl⟩:=ho;exact λb hb=>hb
  |false=>have:=h.2 hp;subst this;obtain⟨_,rfl⟩:=ho;exact λb hb=>hb
 ·exact h.2.fst ho
 ·obtain⟨_,h⟩:=h;split at h
  ·exact h.fst ho
  ·exact h.2.fst ho
  ·exact h.elim
def VF.slots (i:VF):List Nat:=match i with
 |VF.op o=>o.pI.flatMap oW.slots
 |VF.call _ args=>args.flatMap oW.slots
 |VF.Ja x args=>x.slots++args.flatMap oW.slots
def kX.slots (o:kX):List Nat:=o.g.toList.map (·.1)++o.i.slots
def kX.aix (o:kX):Bool:=match o.i with
 |VF.op _=>true
 |_=>false
theorem aeK {tm tm':Nat->Slot}{x:oW}(h:∀t,t∈x.slots->tm t=tm' t):x.ev tm=x.ev tm':=by
 cases x with
 |t s=>exact h s (by simp[oW.slots])
 |k x=>rfl
theorem ah9 {tm tm':Nat->Slot}{g:Option (Nat×Bool)}(h:∀t,t∈g.toList.map (·.1)->tm t=tm' t):(EH tm g<->EH tm' g)/\uA tm g=uA tm' g:=by
 cases g with
 |none=>exact⟨Iff.rfl,rfl⟩
 | some p=>obtain⟨s,w⟩:=p;have:=h s (by simp);simp only[EH,uA,this,and_self,iff_self]
theorem SB.local {o:kX}{D:VH}(h:SB P o st D)(ht:∀t,t∈o.slots->st.tm t=st'.tm t)(hb:∀b,b∈D.rd->st.bx b=st'.bx b):SB P o st' D:=by
 unfold SB at h⊢;obtain⟨hg1,hg2⟩:=ah9 (tm:=st.tm) (tm':=st'.tm) (g:=o.g) (λt h'=>ht t (dh _ h'));have ht':∀t,t∈o.i.slots->st.tm t=st'.tm t:=λt h'=>ht t (dQ _ h');refine⟨hg1.1 h.1,?_⟩;obtain⟨_,h⟩:=h;rw[hg2]at h;cases hi:o.i with
 | op op=>simp only[hi,VF.slots]at h ht'⊢;have he:∀x,x∈op.pI->oW.ev st.tm x=oW.ev st'.tm x:=λx hx=>aeK λt hm=>ht' t (lD.2 ⟨x,hx,hm⟩);have hea:∀x,x∈op.pI->dZ st.tm x=dZ st'.tm x:=λx hx=>(by unfold dZ;rw[he x hx]);obtain⟨h1,h2⟩:=h;refine⟨λe=>?_,h2⟩;obtain⟨a1,a2,rfl⟩:=h1 e;have hf:op.f (dZ st.tm) st.bx=op.f (dZ st'.tm) st'.bx:=(apo op hb).trans (apq op hea);rw[hf]at a2;refine⟨ajP op he a1,a2,?_⟩;rw[hf,aoP op hea]
 | call f args=>simp only[hi,VF.slots]at h ht'⊢;have he:∀x,x∈args->oW.ev st.tm x=oW.ev st'.tm x:=λx hx=>aeK λt hm=>ht' t (lD.2 ⟨x,hx,hm⟩);have hm:args.map (dZ st.tm)=args.map (dZ st'.tm):=rq λx hx=>(by unfold dZ;rw[he x hx]);rw[hm]at h;exact⟨λe x hx=>he x hx▸h.1 e x hx,h.2.bx hb⟩
 | Ja x args=>
   simp only[hi,VF.slots]at h ht'⊢;have he:∀x,x∈args->oW.ev st.tm x=oW.ev st'.tm x:=λx hx=>aeK λt hm=>ht' t (dQ _ (lD.2 ⟨x,hx,hm⟩));have hex:oW.ev st.tm x=oW.ev st'.tm x:=aeK λt hm=>ht' t (dh _ hm);have hm:args.map (dZ st.tm)=args.map (dZ st'.tm):=rq λx hx=>(by unfold dZ;rw[he x hx]);have hmx:dZ st.tm x=dZ st'.tm x:=(by unfold dZ;rw[hex]);obtain⟨h1,h2⟩:=h;rw[hm,hmx]at h2;refine⟨λe=>⟨hex▸(h1 e).1,λy hy=>he y hy▸(h1 e).2 y hy⟩,?_⟩;split at h2
   ·exact h2.bx hb
   ·exact⟨h2.1,h2.2.bx hb⟩
   ·exact h2.elim
theorem SB.det {o:kX}{D D':VH}(hop:o.aix=true)(h:SB P o st D)(h':SB P o st D'):D=D':=by
 unfold SB at h h';unfold kX.aix at hop;cases hi:o.i with
 | op op=>
   rw[hi]at h h';cases hp:uA st.tm o.g with
   |true=>exact(h.2.1 hp).2.2.trans (h'.2.1 hp).2.2.symm
   |false=>exact(h.2.2 hp).trans (h'.2.2 hp).symm
 |call f args=>rw[hi]at hop;cases hop
 |Ja x args=>rw[hi]at hop;cases hop
end
end
section
section
variable {P:Program} {st st':fH}
theorem NK {a b:List Nat} : Qa a b=true<->∀x,x∈a->x ∉ b:=by simp[Qa,aP]
def Lp (x y:kX):Bool:=
 Qa x.d.toList y.slots&&Qa y.d.toList x.slots&&Qa x.d.toList y.d.toList&&(x.aix||y.aix)
def app (x:kX)(st:fH)(s:Slot)(bs:List (Nat×Box)):fH:=(st.uN bs).A8 x.d s
theorem P6 {x:kX}{s:Slot}{bs:List (Nat×Box)}{t:Nat}(h:t ∉ x.d.toList):(app x st s bs).tm t=st.tm t:=by
 unfold app;cases hd:x.d with
 |none=>simp only[fH.A8,RS]
 | some d=>simp only[fH.A8,fH.Xl,RS];rw[ahk];intro e;subst e;exact h (by simp[hd])
theorem RH (st:fH)(d:Option Nat)(s:Slot):(st.A8 d s).bx=st.bx:=by cases d<;>rfl
theorem P5 {x:kX}{s:Slot}{bs:List (Nat×Box)}{b:Nat}(h:b ∉ bs.map (·.1)):(app x st s bs).bx b=st.bx b:=by unfold app;rw[RH,Oj _ _ h]
theorem Xv (l:List (Nat×Box)){st st':fH}{b:Nat}(h:st.bx b=st'.bx b):(st.uN l).bx b=(st'.uN l).bx b:=by
 induction l generalizing st st' with
 |nil=>exact h
 | cons x l ih=>
   obtain⟨c,y⟩:=x;simp only[fH.uN];apply ih;simp only[fH.sJ];split
   ·rfl
   ·exact h
theorem Oi (l:List (Nat×Box)){st st':fH}{b:Nat}(h:b∈l.map (·.1)):(st.uN l).bx b=(st'.uN l).bx b:=by
 induction l generalizing st st' with
 |nil=>simp at h
 | cons x l ih=>
   obtain⟨c,y⟩:=x;simp only[fH.uN];by_cases hc:b=c
   ·apply Xv;simp[fH.sJ,hc]
   ·simp only[aZ,ay]at h;exact ih (h.resolve_left hc)
theorem aaM {x y:kX}{s s':Slot}{bs bs':List (Nat×Box)}(hd:Qa x.d.toList y.d.toList=true)(hb:∀b,b∈bs.map (·.1)->b ∉ bs'.map (·.1)) :
 app y (app x st s bs) s' bs'=app x (app y st s' bs') s bs:=by
 rw[NK]at hd;apply fH.ext'
 ·funext t
  by_cases h1:t∈x.d.toList
  ·have h2:=hd t h1;rw[P6 h2];cases hx:x.d with
   |none=>rw[hx]at h1;simp at h1
   | some d=>rw[hx]at h1;simp at h1;subst h1;simp[app,hx,fH.A8,fH.Xl]
  ·rw[P6 (x:=x) h1];by_cases h2:t∈y.d.toList
   ·cases hy:y.d with
    |none=>rw[hy]at h2;simp at h2
    | some d=>rw[hy]at h2;simp at h2;subst h2;simp[app,hy,fH.A8,fH.Xl]
   ·rw[P6 h2,P6 h2,P6 h1]
 ·funext b
  by_cases h1:b∈bs.map (·.1)
  ·rw[P5 (hb b h1)];unfold app;rw[RH,RH];exact Oi _ h1
  ·rw[P5 (x:=x) h1];by_cases h2:b∈bs'.map (·.1)
   ·unfold app;rw[RH,RH];exact Oi _ h2
   ·rw[P5 h2,P5 h2,P5 h1]
def apartB (rd wr rd' wr':List Nat):Bool:=Qa wr' rd&&Qa wr' wr&&Qa rd' wr
theorem SB.skip {x y:kX}{D Dx:VH}(h:SB P y st D)(hx:SB P x st Dx)(hs:Qa x.d.toList y.slots=true)(hb:∀b,b∈Dx.wr->b ∉ D.rd){s:Slot}{bs:List (Nat×Box)}(ho:Dx.outs s bs):SB P y (app x st s bs) D:=
 h.local (λt ht=>(P6 λhd=>(NK.1 hs) t hd ht).symm) (λb hr=>(P5 λhm=>hb b (hx.fst ho b hm) hr).symm)
theorem SB.aeq {x y:kX}{D Dx:VH}{s:Slot}{bs:List (Nat×Box)}(h:SB P y (app x st s bs) D)(hx:SB P x st Dx)(hs:Qa x.d.toList y.slots=true)(hb:∀b,b∈Dx.wr->b ∉ D.rd)(ho:Dx.outs s bs):SB P y st D:=
 h.local (λt ht=>P6 λhd=>(NK.1 hs) t hd ht) (λb hr=>P5 λhm=>hb b (hx.fst ho b hm) hr)
theorem Nv {rd wr rd' wr':List Nat}(h:apartB rd wr rd' wr'=true):(∀b,b∈wr->b ∉ rd')/\(∀b,b∈wr'->b ∉ rd)/\(∀b,b∈wr->b ∉ wr'):=by simp only[apartB,ah,NK]at h;exact⟨λb h1 h2=>h.2 b h2 h1,h.1.1,λb h1 h2=>h.1.2 b h2 h1⟩
theorem amm {x y:kX}(hap:Lp x y=true){K:List Nat->List Nat->List Nat->List Nat->fH->Prop}
 (h:T P x st λrd wr st1=>T P y st1 λrd' wr' st2=>apartB rd wr rd' wr'=true/\K rd wr rd' wr' st2) :
 T P y st λrd' wr' st2=>T P x st2 λrd wr st1=>apartB rd wr rd' wr'=true/\K rd wr rd' wr' st1:=by
 simp only[Lp,ah,gV]at hap;obtain⟨⟨⟨h1,h2⟩,h3⟩,h4⟩:=hap;rw[MM]at h;obtain⟨Dx,hDx,h⟩:=h;rcases h4 with h4|h4
 ·
  obtain⟨s,bs,ho⟩:=hDx.ne;have hT:=h s bs ho;rw[MM]at hT;obtain⟨Dy,hDy,hk⟩:=hT;obtain⟨s',bs',ho'⟩:=hDy.ne;obtain⟨a1,a2,a3⟩:=Nv (hk s' bs' ho').1;have abk:SB P y st Dy:=SB.aeq hDy hDx h1 a1 ho;rw[MM];refine⟨Dy,abk,λs' bs' ho'=>?_⟩;rw[MM];refine⟨Dx,hDx.skip abk h2 a2 ho',λs1 bs1 ho1=>?_⟩;have hT:=h s1 bs1 ho1;rw[MM]at hT;obtain⟨Dy1,amH,hk1⟩:=hT;have hsame:s1=s/\bs1=bs:=by
   obtain⟨_,hD⟩:=hDx;unfold kX.aix at h4;split at h4
   ·rename_i op hi;rw[hi]at hD;cases hp:uA st.tm x.g with
    |true=>obtain⟨_,_,rfl⟩:=hD.1 hp;exact⟨ho1.1.trans ho.1.symm,ho1.2.trans ho.2.symm⟩
    |false=>have:=hD.2 hp;subst this;exact⟨ho1.1.trans ho.1.symm,ho1.2.trans ho.2.symm⟩
   ·cases h4
  obtain⟨rfl,rfl⟩:=hsame;have:=hk s' bs' ho';show _/\K _ _ _ _ (app x (app y st s' bs') s1 bs1);rw[<- aaM h3 (λb hb hb'=>a3 b (hDx.fst ho b hb) (abk.fst ho' b hb'))];exact this
 ·
  obtain⟨s,bs,ho⟩:=hDx.ne;have hT:=h s bs ho;rw[MM]at hT;obtain⟨Dy,hDy,hk⟩:=hT;obtain⟨s',bs',ho'⟩:=hDy.ne;obtain⟨a1,a2,a3⟩:=Nv (hk s' bs' ho').1;have abk:SB P y st Dy:=SB.aeq hDy hDx h1 a1 ho;rw[MM];refine⟨Dy,abk,λs' bs' ho'=>?_⟩;rw[MM];refine⟨Dx,hDx.skip abk h2 a2 ho',λs1 bs1 ho1=>?_⟩;have hT:=h s1 bs1 ho1;rw[MM]at hT;obtain⟨Dy1,amH,hk1⟩:=hT;have hsame:Dy1=Dy:=by obtain⟨s2,bs2,ho2⟩:=amH.ne;obtain⟨b1,_,_⟩:=Nv (hk1 s2 bs2 ho2).1;exact SB.det h4 (SB.aeq amH hDx h1 b1 ho1) abk
  subst hsame;have:=hk1 s' bs' ho';show _/\K _ _ _ _ (app x (app y st s' bs') s1 bs1);rw[<- aaM h3 (λb hb hb'=>a3 b (hDx.fst ho1 b hb) (abk.fst ho' b hb'))];exact this
theorem SK {x:kX}{K K':List Nat->List Nat->fH->Prop}(hk:∀rd wr st,K rd wr st->K' rd wr st)(h:T P x st K):T P x st K':=by rw[MM]at h⊢;obtain⟨D,hD,h⟩:=h;exact⟨D,hD,λs bs ho=>hk _ _ _ (h s bs ho)⟩
abbrev Log :=List (Nat×List Nat×List Nat)
theorem KQ {IB rd wr:List Nat}{log:Log} : zO IB rd wr log=true<->∀e,e∈log->e.1∈IB\/apartB e.2.1 e.2.2 rd wr=true:=by
 induction log with
 |nil=>simp[zO]
 | cons e l ih=>obtain⟨j,r,w⟩:=e;simp only[zO,ah,gV,ih,ay,forall_eq_or_imp,apartB,kE]
structure zC where
 i:Nat
 o:kX
 IB:List Nat
def wpI (P:Program):List zC->Log->fH->(fH->Prop)->Prop
 |[],_,st,K=>K st
 |x::r,log,st,K=>T P x.o st λrd wr st'=>zO x.IB rd wr log=true/\wpI P r ((x.i,rd,wr)::log) st' K
theorem afq {K:fH->Prop} : ∀{l:List zC} {log am0:Log} {st:fH},(∀e,e∈am0->e∈log)->wpI P l log st K->wpI P l am0 st K
 |[],_,_,_,_,h=>h
 | x::r,log,am0,st,hl,h=>by
   refine SK (λrd wr st' hk=>⟨?_,afq (l:=r) ?_ hk.2⟩) h
   ·rw[KQ]at hk⊢;exact λe he=>hk.1 e (hl e he)
   ·intro e he;rcases ay.1 he with rfl|he
    ·exact aW ..
    ·exact dY _ (hl e he)
theorem Um {K:fH->Prop}{x:zC}{post:List zC} : ∀{pre:List zC} {log:Log} {st:fH},(∀p,p∈pre->p.i ∉ x.IB/\Lp p.o x.o=true)->wpI P (pre++x::post) log st K->wpI P (x::(pre++post)) log st K
 |[],_,_,_,h=>h
 | p::pre,log,st,hp,h=>by
   obtain⟨hn,hap⟩:=hp p (aW ..);have h1:T P p.o st λrd wr st1=>T P x.o st1 λrd' wr' st2=>apartB rd wr rd' wr'=true /\
    (zO p.IB rd wr log=true/\zO x.IB rd' wr' log=true/\wpI P (pre++post) ((x.i,rd',wr')::(p.i,rd,wr)::log) st2 K):=by
    refine SK (λrd wr st1 hk=>?_) h;have h2:=Um (pre:=pre) (λq hq=>hp q (dY _ hq)) hk.2;refine SK (λrd' wr' st2 hk2=>?_) h2;have aoh:=KQ.1 hk2.1;refine⟨(aoh (p.i,rd,wr) (aW ..)).resolve_left hn,hk.1,KQ.2 λe he=>aoh e (dY _ he),hk2.2⟩
   refine SK (λrd' wr' st2 hk=>?_) (amm hap h1);rw[MM]at hk;obtain⟨D,hD,hk⟩:=hk;refine⟨?_,?_⟩
   ·obtain⟨s,bs,ho⟩:=hD.ne;exact(hk s bs ho).2.2.1
   ·show T P p.o st2 _;rw[MM];refine⟨D,hD,λs bs ho=>?_⟩;obtain⟨k1,k2,k3,k4⟩:=hk s bs ho;refine⟨KQ.2 λe he=>?_,afq ?_ k4⟩
    ·rcases ay.1 he with rfl|he
     ·right
      simp only[apartB,ah,NK]at k1⊢;exact⟨⟨λb h1 h2=>k1.2 b h2 h1,λb h1 h2=>k1.1.2 b h2 h1⟩,λb h1 h2=>k1.1.1 b h2 h1⟩
     ·exact KQ.1 k2 e he
    ·intro e he;simp only[ay]at he⊢;rcases he with h|h|h
     ·exact .inr (.inl h)
     ·exact .inl h
     ·exact .inr (.inr h)
end
end
section
section
variable {P:Program} {E:Env P} {n:Nat} {ops:Array Oper} {Q:Exit->Act->World->Prop}
def Td (P:Program)(n m:Nat)(ops:Array Oper):List Oper->List kX->Bool
 |[],[]=>true
 |o::os,x::xs=>Lt P n m ops o x&&Td P n m ops os xs
 |_,_=>false
theorem Xn (hm:E.m<=10):∀{os:List Oper} {xs:List kX} {K:fH->Prop} {a:Act} {w:World},Td P n E.m ops os xs=true->AK E n (λst=>wpOps P xs st K) a w ->
 (∀a w,AK E n K a w->Q .normal a w)->wpList P ops Q os a w
 |[],[],K,a,w,_,h,hq=>hq a w h
 | o::os,x::xs,K,a,w,hc,h,hq=>by
   simp only[Td,ah]at hc;obtain⟨I,ρ,st,hT,hg⟩:=h;have h1:=aeB (Q:=Q) (ops:=ops) hg hm hc.1 (show T P x st λ_ _ st'=>wpOps P xs st' K from hT);unfold Ie at h1;unfold wpList;have key:∀a w,AK E n (λst=>∃rd wr:List Nat,wpOps P xs st K) a w->wpList P ops Q os a w:=λa w hk=>Xn hm hc.2 (hk.imp λst ⟨_,_,h⟩=>h) hq;split
   ·rename_i hw;rw[ahl hw]at h1;exact h1.imp (BU key) id
   ·rename_i hw;rw[ahk hw]at h1;exact key _ _ h1
 |[],_::_,_,_,_,hc,_,_=>by cases hc
 |_::_,[],_,_,_,hc,_,_=>by cases hc
def items : List (kX×List Nat)->Nat->List zC
 |[],_=>[]
 |(o,IB)::r,i=>⟨i,o,IB⟩::items r (i+1)
theorem aeu {K:fH->Prop} : ∀{l:List (kX×List Nat)} {i:Nat} {log:Log} {st:fH},wpD P l i log st K=wpI P (items l i) log st K
 |[],_,_,_=>rfl
 | (o,IB)::r,i,log,st=>by
   simp only[wpD,items,wpI]
   congr 1
   funext rd wr st'
   rw[aeu (l:=r)]
def VY (L:List zC)(o:Oper)(x:zC):Bool:=
 x.IB.all (λj=>o.after.toList.any λe=>Region.binds .any e&&(e.on==j||L.any λy=>y.i==e.on&&y.IB.contains j)) &&
 o.after.toList.all (λe=> !Region.binds .any e||decide (e.on<x.i))
def QI : List zC->Bool
 |[]=>true
 |x::r=>r.all (λy=>y.IB.contains x.i||Lp x.o y.o)&&QI r
def QL (P:Program)(n m:Nat)(ops:Array Oper)(L:List zC)(x:zC):Bool:=
 match ops[x.i]? with
 |some o=>Lt P n m ops o x.o&&VY L o x
 |none=>false
def QN (P:Program)(n m:Nat)(ops:Array Oper)(l:List (kX×List Nat)):Bool:=
 l.length==ops.size&&(items l 0).all (QL P n m ops (items l 0))&&QI (items l 0)
theorem NU : ∀{l:List (kX×List Nat)} {i:Nat},(∀x,x∈items l i->i<=x.i/\x.i<i+l.length)/\(items l i).Pairwise (λx y=>x.i<y.i)/\(∀j,j<l.length->∃x,x∈items l i/\x.i=i+j)
 |[],i=>⟨λx hx=>by simp[items]at hx,.nil,λj hj=>by simp at hj⟩
 | (o,IB)::r,i=>by
   obtain⟨h1,h2,h3⟩:=NU (l:=r) (i:=i+1);simp only[items,iC];refine⟨λx hx=>?_,rX.2 ⟨λy hy=>?_,h2⟩,λj hj=>?_⟩
   ·rcases ay.1 hx with rfl|hx
    ·exact⟨aA _,by simp⟩
    ·have:=h1 x hx;omega
   ·have:=(h1 y hy).1;show i<y.i;omega
   ·cases j with
    |zero=>exact⟨_,aW ..,rfl⟩
    | succ j=>obtain⟨x,hx,he⟩:=h3 j (by omega);exact⟨x,dY _ hx,by omega⟩
theorem ND : ∀{l:List zC},QI l=true->l.Pairwise λx y=>x.i∈y.IB\/Lp x.o y.o=true
 |[],_=>.nil
 | x::r,h=>by simp only[QI,ah,aP,gV,kE]at h;exact rX.2 ⟨h.1,ND h.2⟩
theorem ZG {l:Array Bool}{i:Nat}(h:l.getD i true=false):l.getD i false=false:=by
 simp only[dX]at *;cases hh:l[i]? with
 |none=>rw[hh]at h;cases h
 |some b=>rw[hh]at h;simpa using h
theorem afK (hm:E.m<=10){L:List (kX×List Nat)}(hc:QN P n E.m ops L=true){K:fH->Prop}(hq:∀a w,AK E n K a w->Q .normal a w) :
 ∀ (fuel:Nat) (l:List zC) (listed:Array Bool) (log:Log) (a:Act) (w:World),l.length<=fuel->l.Sublist (items L 0)->listed.size=ops.size ->
   (∀x,x∈items L 0->(listed.getD x.i true=false<->x∈l)) ->
   (∀x,x∈items L 0->listed.getD x.i false=true->∀j,j∈x.IB->listed.getD j false=true) ->
   AK E n (λst=>wpI P l log st K) a w->wpAny P .any ops Q fuel listed a w:=by
 simp only[QN,ah,akg,aP]at hc;obtain⟨⟨hlen,hit⟩,hap⟩:=hc;obtain⟨i1,i2,i3⟩:=NU (l:=L) (i:=0);have hpw:(items L 0).Pairwise λx y=>x.i<y.i/\(x.i∈y.IB\/Lp x.o y.o=true):=i2.and (ND hap);have YD:∀x y,x∈items L 0->y∈items L 0->x.i=y.i->x=y:=by
  intro x y hx hy e;obtain⟨p,hp,rfl⟩:=vG hx;obtain⟨q,hq',rfl⟩:=vG hy;have ain:=xx.1 i2;rcases yw p q with h|h|h
  ·have:=ain p q hp hq' h;omega
  ·subst h;rfl
  ·have:=ain q p hq' hp h;omega
 have adF:∀(l:List zC) (listed:Array Bool),l.Sublist (items L 0)->listed.size=ops.size->(∀x,x∈items L 0->(listed.getD x.i true=false<->x∈l))->uD .any ops listed=[]->l=[]:=by
  intro l listed hsub hsz hl hr;cases l with
  |nil=>rfl
  | cons x r=>
    exfalso;have hx:=hsub.subset (aW ..);have hc:=hit x hx;unfold QL at hc;cases ho:ops[x.i]? with
    |none=>rw[ho]at hc;cases hc
    | some o=>
      rw[ho]at hc;simp only[ah,VY,aP,gV,kH,ahm]at hc;have:x.i∈uD .any ops listed:=by
       rw[mem_ready];refine⟨(hl x hx).2 (aW ..),o,ho,λe he hb=>?_⟩;have hlt:=(hc.2.2 e (by simpa using he)).resolve_left (by rw[hb];simp);have hxi:=i1 x hx;obtain⟨y,hy,hye⟩:=i3 e.on (by omega);have hye:y.i=e.on:=(by omega);by_cases hyl:y∈x::r
       ·exfalso;rcases ay.1 hyl with rfl|hyr
        ·omega
        ·have:=(rX.1 (i2.sublist hsub)).1 y hyr;omega
       ·have h1:¬listed.getD y.i true=false:=λh=>hyl ((hl y hy).1 h);have hin:y.i<listed.size:=(by rw[hsz,<- hlen];have:=i1 y hy;omega);rw[<- hye];simp only[dX,lK hin,jQ]at h1⊢;simpa using h1
      rw[hr]at this;cases this
 intro fuel
 induction fuel with
 | zero=>
   intro l listed log a w hf hsub hsz hl _ h;have:l=[]:=vM.1 (by omega);subst this;refine⟨?_,hq a w h⟩;cases hr:uD .any ops listed with
   |nil=>rfl
   | cons i r=>exfalso;have hi:i∈uD .any ops listed:=(by rw[hr];exact aW ..);obtain⟨hu,o,ho,_⟩:=mem_ready.1 hi;have hlt:=(dK.1 ho).1;obtain⟨y,hy,hye⟩:=i3 i (by omega);have hye:y.i=i:=(by omega);have:=(hl y hy).1 (by rw[hye];exact hu);cases this
 | succ fuel ih=>
   intro l listed log a w hf hsub hsz hl hdown h;refine⟨λhr=>?_,λi hi=>?_⟩
   ·have:=adF l listed hsub hsz hl hr;subst this;exact hq a w h
   ·obtain⟨hu,o,ho,hall⟩:=mem_ready.1 hi;have hlt:=(dK.1 ho).1;obtain⟨x,hx,hxe⟩:=i3 i (by omega);have hxe:x.i=i:=(by omega);subst hxe;have hxl:=(hl x hx).1 hu;have hcx:=hit x hx;unfold QL at hcx;rw[ho]at hcx;simp only[ah]at hcx;obtain⟨hco,hca⟩:=hcx;have haft:∀j,j∈x.IB->listed.getD j false=true:=by
     intro j hj;simp only[VY,ah,aP,yM,gV,akg]at hca;obtain⟨e,he,hb,hej⟩:=hca.1 j hj;have hel:=hall e (by simpa using he) hb;rcases hej with rfl|⟨y,hy,hye,hyj⟩
     ·exact hel
     ·rw[<- hye]at hel;exact hdown y hy hel j (by simpa using hyj)
    obtain⟨pre,post,rfl⟩:=List.append_of_mem hxl;have ZK:=hpw.sublist hsub;rw[Dl]at ZK;have hpre:∀p,p∈pre->p.i ∉ x.IB/\Lp p.o x.o=true:=by
     intro p hp;have h1:=ZK.2.2 p hp x (aW ..);have hn:p.i ∉ x.IB:=by intro hm';have h2:=haft _ hm';have h3:=(hl p (hsub.subset (dh _ hp))).2 (dh _ hp);rw[ZG h3]at h2;cases h2
     exact⟨hn,h1.2.resolve_left hn⟩
    obtain⟨I,ρ,st,hT,hg⟩:=h;have hT:=Um hpre hT;have h1:=aeB (Q:=Q) (ops:=ops) hg hm hco (show T P x.o st λrd wr st'=>zO x.IB rd wr log=true/\wpI P (pre++post) ((x.i,rd,wr)::log) st' K from hT);have key:∀a w,AK E n (λst=>∃rd wr,zO x.IB rd wr log=true/\wpI P (pre++post) ((x.i,rd,wr)::log) st K) a w->wpAny P .any ops Q fuel (listed.setIfInBounds x.i true) a w:=by
     rintro a w ⟨I,ρ,st,⟨rd,wr,_,hk⟩,hg⟩;have hnx:x ∉ pre++post:=by
      intro hxm;rcases aY.1 hxm with h|h
      ·have:=(ZK.2.2 x h x (aW ..)).1;omega
      ·have:=((rX.1 ZK.2.1).1 x h).1;omega
     refine ih (pre++post) _ ((x.i,rd,wr)::log) a w (by simp at hf⊢;omega) ?_ (by simp[hsz]) ?_ ?_ ⟨I,ρ,st,hk,hg⟩
     ·exact(List.Sublist.append_left (List.sublist_cons_self x post) pre).trans hsub
     ·intro y hy;by_cases hyx:y=x
      ·subst hyx;constructor
       ·intro h;have hin:y.i<listed.size:=(by rw[hsz];exact hlt);simp[hin]at h
       ·intro h;exact al7 h hnx
      ·have hne:x.i≠y.i:=λe=>hyx (YD y x hy hx e.symm);rw[getD_set_ne true hne,hl y hy];simp only[aY,ay,hyx,false_or]
     ·intro y hy hyl j hj;by_cases hyx:y=x
      ·subst hyx;exact getD_set_true (haft j hj)
      ·have hne:x.i≠y.i:=λe=>hyx (YD y x hy hx e.symm);rw[getD_set_ne false hne]at hyl;exact getD_set_true (hdown y hy hyl j hj)
    unfold wpOp;rw[ho];unfold Ie at h1;simp only;split
    ·rename_i hw;rw[ahl hw]at h1;exact h1.imp (BU key) id
    ·rename_i hw;rw[ahk hw]at h1;exact key _ _ h1
theorem aeb (hm:E.m<=10)(hf:P.follows .mixedOrders=true){L:List (kX×List Nat)}(hc:QN P n E.m ops L=true){K:fH->Prop}(hq:∀a w,AK E n K a w->Q .normal a w)
 {id:Nat} {a:Act} {w:World} (h:AK E n (λst=>wpD P L 0 [] st K) a w):(CZ id ops true).wp P Q a w:=by
 refine wp_region_any hf ?_;have hlen:L.length=ops.size:=by simp only[QN,ah,akg]at hc;exact hc.1.1
 have i0:=NU (l:=L) (i:=0);have hil:(items L 0).length=L.length:=by
  clear i0 hlen h hc;generalize 0=i
  induction L generalizing i with
  |nil=>rfl
  |cons x r ih=>obtain⟨o,IB⟩:=x;simp[items,ih]
 refine afK hm hc hq ops.size (items L 0) (sK ops.size false) [] a _ (by omega) (ED _) (by simp) ?_ ?_ ?_
 ·intro x hx;have:=i0.1 x hx;have hlt:x.i<ops.size:=by omega
  simp[hlt,hx]
 ·intro x hx h;exfalso;have:=i0.1 x hx;have hlt:x.i<ops.size:=by omega
  simp[hlt]at h
 ·obtain⟨I,ρ,st,hT,hg⟩:=h;exact⟨I,ρ,st,Eq.mp (aeu (P:=P) (l:=L) (i:=0) (log:=[]) (st:=st) (K:=K)) hT,hg.drew⟩
end
end
section
section
variable {P:Program} {E:Env P} {I:IH} {ρ:Ren} {n:Nat} {st:fH} {a:Act} {w w':World} {Γ : List OF} {g0:Own} {dp:Nat} {lz:Bool}
def AO0 (E:Env P)(g0:Own)(dp n:Nat)(K:fH->Prop)(Γ : List OF)(a:Act)(w:World):Prop:=AK E n K a w/\LY E g0 dp Γ a w
theorem SS (h:OW P FV g0 dp Γ a w){x:Operand}{b:Bool}{k:Knd}(hc:OJ Γ x=some (b,k)){f:FuncId}{caps:Array Value}(hx:a.eval x = .func (.func f) #[] caps) :
 (b=false/\kindOf f=k/\caps.size=0)\/(b=true/\(k = .rd/\kindOf f = .rd\/∃sg,k = .ow sg/\kindOf f = .ow ⟨sg.ps++bC caps.size .any,sg.rs⟩)):=by
 unfold OJ at hc;split at hc
 ·rename_i f';cases hc;simp only[Act.eval]at hx;cases hx;exact .inl ⟨rfl,rfl,rfl⟩
 ·rename_i t;have hm:=oH hc;rw[dJ]at hm;obtain⟨f0,hf0,hm⟩:=hm;split at hm
  ·rename_i y s;split at hm
   ·rename_i e;subst e;obtain⟨f1,ap6,h1,h2⟩:=h.fs _ hf0;have e1:a.eval (.tmp y)=a.tmps.getD y undef:=rfl;rw[e1,h1]at hx;cases hx
    right
    cases s with
    |zero=>cases hm;exact⟨rfl,.inl ⟨rfl,h2⟩⟩
    | succ s=>cases hm;obtain⟨sg,h3,h4,h5⟩:=h2;refine⟨rfl,.inr ⟨_,rfl,?_⟩⟩;rw[h3,<- h4,<- h5]
   ·cases hm
  ·cases hm
 ·cases hc
theorem aa0 (h:GX E I ρ n st a w)(hm:E.m<=10)(Nh:LY E g0 dp Γ a w){o:Oper}{CX:List OF}{x:Operand}{az:Array Operand}{ts:Array TypeId}(ho:o.op = .call ⟨.value x,az,ts⟩)(hs:Xd P lz Γ o=some CX)(hdn:∀d,o.dst=some d->d<n)
 {f:FuncId} {caps:Array Value} (hx:a.eval x = .func (.func f) #[] caps) {wC:List AV} (hv:VL I ρ (az.toList.map a.eval++caps.toList) wC) {K:List Nat->List Nat->fH->Prop} (hT:Pv P f wC true o.dst st K) :
 Calls P f (az.toList.map a.eval++caps.toList).toArray w λe w'=>∃v,e = .returned v/\AO0 E g0 dp n (λst=>∃rd wr,K rd wr st) CX (a.put o.dst v) w':=by
 have rd:kindOf f = .rd->CX=Jd o.dst Γ -> Calls P f (az.toList.map a.eval++caps.toList).toArray w λe w'=>∃v,e = .returned v/\AO0 E g0 dp n (λst=>∃rd wr,K rd wr st) CX (a.put o.dst v) w':=by intro hk hΓ;refine(JS h hm hdn hv hT (.rd hk)).mono ?_;rintro e w' ⟨⟨v,he,hak⟩,hF,hsz⟩;refine⟨v,he,hak,?_⟩;rw[hΓ];exact(Nh.world hsz hF).drop _ _
 have ow:∀{sg:Sig} {C:CR},kindOf f = .ow sg->(az.toList.map a.eval++caps.toList).length=sg.ps.length->UM Γ sg az.toList o.dst=some C->CX=Yw Γ o.dst C->Calls P f (az.toList.map a.eval++caps.toList).toArray w λe w'=>∃v,e = .returned v/\AO0 E g0 dp n (λst=>∃rd wr,K rd wr st) CX (a.put o.dst v) w':=by intro sg C hk hl hC hΓ;obtain⟨g,h1,h2⟩:=Nh;obtain⟨X,hX,hXs⟩:=abQ h2 h.Be.size hk hl hC (λd e=>by rw[h.size];exact hdn d e);refine(JS h hm hdn hv hT hX).mono ?_;rintro e w' ⟨⟨v,he,hak⟩,hXe,hsz⟩;subst he;obtain⟨g',h3,h4⟩:=hXs v w' hsz hXe;exact⟨v,rfl,hak,g',h1.trans h3,by rw[hΓ];exact h4⟩
 have base:∀{b:Bool} {sg:Sig} {C:CR},OJ Γ x=some (b,.ow sg)->az.size=sg.ps.length->UM Γ sg az.toList o.dst=some C->CX=Yw Γ o.dst C->Calls P f (az.toList.map a.eval++caps.toList).toArray w λe w'=>∃v,e = .returned v/\AO0 E g0 dp n (λst=>∃rd wr,K rd wr st) CX (a.put o.dst v) w':=by
  intro b sg C hk hsz hC hΓ;obtain⟨g,h1,h2⟩:=Nh;rcases SS h2 hk hx with⟨rfl,h3,h4⟩|⟨rfl,⟨h3,_⟩|⟨sg',h3,h4⟩⟩
  ·exact ow h3 (by simp;omega) hC hΓ
  ·cases h3
  ·cases h3;exact ow h4 (by simp;omega) (agE hC (by simpa using hsz)) hΓ
 unfold Xd at hs;split at hs
 ·split at hs
  ·rename_i hq;cases hs;unfold Qm at hq;rw[ho]at hq;simp only at hq;unfold amY at hq;split at hq
   ·rename_i b hk;obtain⟨g,h1,h2⟩:=Nh;rcases SS h2 hk hx with⟨rfl,h3,h4⟩|⟨rfl,⟨_,h3⟩|⟨sg',h3,h4⟩⟩
    ·exact rd h3 rfl
    ·exact rd h3 rfl
    ·cases h3
   ·cases hq
  ·cases hs
 ·rw[ho]at hs;simp only at hs;split at hs
  ·rename_i b hk;cases hs;obtain⟨g,h1,h2⟩:=Nh;rcases SS h2 hk hx with⟨rfl,h3,h4⟩|⟨rfl,⟨_,h3⟩|⟨sg',h3,h4⟩⟩
   ·exact rd h3 rfl
   ·exact rd h3 rfl
   ·cases h3
  ·rename_i b sg hk;split at hs
   ·rename_i hb;simp only[bW]at hs;obtain⟨C,hC,rfl⟩:=hs;exact base hk (by simpa using hb) hC rfl
   ·cases hs
  ·cases hs
end
end
section
section
variable {P:Program} {E:Env P} {I:IH} {ρ:Ren} {n:Nat} {st:fH} {a:Act} {w w':World} {Γ : List OF} {g0:Own} {dp:Nat} {lz:Bool}
theorem adA {ops:Array Oper}{o:Oper}{g:Option (Nat×Bool)}(hc:NF n ops o.guard g=true)(hg:uA st.tm g=false):o.guard.isSome=true:=by
 unfold NF at hc;split at hc
 ·simp[uA]at hg
 ·rename_i e;rw[e];rfl
 ·cases hc
theorem ad2 {o:Oper}{CX:List OF}(ho:Xd P lz Γ o=some CX)(hg:o.guard.isSome=true):CX=Jd o.dst Γ :=by
 unfold Xd at ho;rw[ahl (by rw[hg,xC])]at ho;split at ho
 ·cases ho;rfl
 ·cases ho
theorem abR {o:Oper}{ao:kX}{CX:List OF}(ho:UN P lz Γ o ao=some CX)(hg:o.guard.isSome=true):CX=Jd o.dst Γ :=by
 unfold UN at ho;split at ho
 ·cases ho;rfl
 ·exact ad2 ho hg
theorem afG (h:GX E I ρ n st a w)(hm:E.m<=10)(Nh:LY E g0 dp Γ a w){ops:Array Oper}{Q:Exit->Act->World->Prop}{o:Oper}{ao:kX}{CX:List OF}(hc:Lt P n E.m ops o ao=true)(ho:UN P lz Γ o ao=some CX){K:List Nat->List Nat->fH->Prop}(hT:T P ao st K) :
 Ie P ops Q o (AO0 E g0 dp n (λst=>∃rd wr,K rd wr st) CX) a w:=by
 simp only[Lt,ah]at hc;obtain⟨⟨hcg,hcd⟩,hci⟩:=hc;obtain⟨hdd,hdn⟩:=ahW hcd;obtain⟨hgv,hT⟩:=hT;have hw:=abf h hcg hgv;have amM:∀d,o.dst=some d->d<n:=λd e=>hdn d (by rw[<- hdd];exact e);have skip:uA st.tm ao.g=false->∀r,(∃rd wr,K rd wr (st.A8 ao.d (.v false r)))->AO0 E g0 dp n (λst=>∃rd wr,K rd wr st) CX (a.put o.dst undef) w:=λhp r hk=>⟨⟨I,ρ,_,hk,by rw[hdd];exact h.A8 hdn ⟨(λe=>by cases e),λ_=>rfl⟩⟩,by rw[abR ho (adA hcg hp)];exact Nh.drop _ _⟩;unfold Ie;rw[hw];cases hi:ao.i with
 | op op=>
   rw[hi]at hT hci;obtain⟨h1,h2⟩:=hT;cases hp:uA st.tm ao.g with
   |false=>simpa using skip hp _ ⟨_,_,h2 hp⟩
   | true=>
     obtain⟨hv,jV,h3⟩:=h1 hp;obtain⟨v,w',I',ρ',hr,hg,amR,heff⟩:=abU h hci hv jV;simp only[amB];refine .inl ?_;have apA:LY E g0 dp CX (a.put o.dst v) w':=by
      unfold UN at ho;split at ho
      ·rename_i x az ts hop;cases ho;have hw:=heff.quiet (by rw[hop];rfl);subst hw;exact Nh.drop _ _
      ·rename_i hne;refine am9 h Nh ?_ ho amM (λc hc x hx=>?_) hr heff
       ·cases hgu:o.guard with
        |none=>exact .inl rfl
        | some q=>
          right
          unfold Xd at ho;rw[hgu]at ho;simp only[Option.isSome_some,xC,amB]at ho;split at ho
          ·assumption
          ·cases ho
       ·obtain⟨callee,args,argTypes⟩:=c;simp only at hx;subst hx;exact hne op x args argTypes hi hc
     have key:AO0 E g0 dp n (λst=>∃rd wr,K rd wr st) CX (a.put o.dst v) w':=by
      refine⟨⟨I',ρ',_,⟨_,_,h3⟩,?_⟩,apA⟩;rw[hdd];cases hd:ao.d with
      |none=>exact hg
      |some d=>exact hg.put (hdn d hd) ⟨λ_=>amR (by rw[hdd,hd];simp),λe=>by cases e⟩
     unfold vZ;rcases hr with hr|⟨hr,hnd⟩
     ·rw[hr];exact key
     ·rw[hr,Eu];rw[hnd]at key⊢;exact key
 | call f args=>
   have ho:Xd P lz Γ o=some CX:=(by unfold UN at ho;rw[hi]at ho;exact ho);rw[hi]at hT hci;simp only[V7]at hci;split at hci
   ·rename_i f' az ts hop;simp only[ah,akg]at hci;obtain⟨⟨rfl,hca⟩,hok⟩:=hci;obtain⟨h1,h2⟩:=hT;cases hp:uA st.tm ao.g with
    | false=>have h2':=h2;rw[hp]at h2';obtain⟨r,hk⟩:=Mc h2';simpa using skip hp r hk
    | true=>rw[hp]at h1 h2;simp only[amB];refine .inl (Md (Ht hop (x:=.func f') (caps:= #[]) rfl hok) ?_);have hvs:=RD h hca (h1 rfl);rw[<- hdd]at h2;have:=aa0 h hm Nh hop ho amM (f:=f') (caps:= #[]) rfl (by simpa using hvs) h2;simpa[<- Array.toList_map]using this
   ·cases hci
 | Ja x args=>
   have ho:Xd P lz Γ o=some CX:=(by unfold UN at ho;rw[hi]at ho;exact ho);rw[hi]at hT hci;simp only[V7]at hci;split at hci
   ·rename_i x' az ts hop;simp only[ah]at hci;obtain⟨hcx,hca⟩:=hci;obtain⟨hg0,h2⟩:=hT;cases hp:uA st.tm ao.g with
    | false=>have h2':=h2;rw[hp]at h2';obtain⟨r,hk⟩:=Mc h2';simpa using skip hp r hk
    |true=>
    rw[hp]at h2;obtain⟨hg1,h1⟩:=hg0 hp;split at h2
    ·rename_i hb;cases hb
    ·rename_i f caps _ hf;obtain⟨hok,h2⟩:=h2;have hx:=nV h hcx hg1;rw[hf]at hx;obtain⟨ks,hk1,hk2,hk3⟩:=hx;simp only[amB];refine .inl (Md (Ht hop hk3 hok) ?_);have hvs:=RD h hca h1;have hvs':VL I ρ (az.toList.map a.eval++ks.map λk=>rJ (some ⟨k,0,none⟩)) (args.map (dZ st.tm)++caps.map λb=>AV.one (.ptr b 0)):=by
      refine⟨by have:=hvs.1;simp at this;simp[hk1,this],λj v z hv hz=>?_⟩;by_cases hj:j<(az.toList.map a.eval).length
      ·rw[bF hj]at hv;rw[bF (by rw[<- hvs.1];exact hj)]at hz;exact hvs.2 j v z hv hz
      ·rw[dA (by omega)]at hv;rw[dA (by rw[<- hvs.1];omega)]at hz;rw[hvs.1]at hv;generalize j-(args.map (dZ st.tm)).length=i at hv hz;rw[bP]at hv hz;cases hki:ks[i]? with
       |none=>rw[hki]at hv;cases hv
       | some k=>
         cases hci:caps[i]? with
         |none=>rw[hci]at hz;cases hz
         | some b=>rw[hki]at hv;rw[hci]at hz;simp at hv hz;subst hv;subst hz;obtain⟨cap,hr⟩:=hk2 i b k hci hki;exact⟨k,cap,hr,rfl⟩
     rw[<- hdd]at h2;have:=aa0 h hm Nh hop ho amM (f:=f) (caps:=(ks.map λk=>rJ (some ⟨k,0,none⟩)).toArray) hk3 (by simpa using hvs') h2;have e:(az.map a.eval++(ks.map λk=>rJ (some ⟨k,0,none⟩)).toArray)=(az.toList.map a.eval++(ks.map λk=>rJ (some ⟨k,0,none⟩)).toArray.toList).toArray:=(by apply yI;simp);rw[e];exact this
    ·exact h2.elim
   ·cases hci
def PA (pa:List (Nat×Value))(a:Act):Prop:=∀e,e∈pa->a.tmps.getD e.1 undef=e.2
def AO (E:Env P)(g0:Own)(pa:List (Nat×Value))(dp n:Nat)(K:fH->Prop)(Γ : List OF)(a:Act)(w:World):Prop:=AO0 E g0 dp n K Γ a w/\PA pa a
theorem PA.put {pa:List (Nat×Value)}(h:PA pa a){d:Option Nat}(hd:∀e,e∈pa->d≠some e.1)(v:Value)(df:List Deferred):PA pa ({ a with defers:=df }.put d v):=λe he=>by
 cases d with
 |none=>exact h e he
 | some d=>have:e.1≠d:=λe'=>hd e he (by rw[e']);rw[<- h e he];exact oK (a:={ a with defers:=df }) this
theorem aev {pa:List (Nat×Value)}(hpa:PA pa a){ops:Array Oper}{Q:Exit->Act->World->Prop}{o:Oper}(hd:∀e,e∈pa->o.dst≠some e.1){K:Act->World->Prop}(h:Ie P ops Q o K a w):Ie P ops Q o (λa w=>K a w/\PA pa a) a w:=by
 have hput:∀v,PA pa (a.put o.dst v):=λv=>hpa.put hd v a.defers;unfold Ie at h⊢;split
 ·rename_i hw;rw[ahl hw]at h;refine h.imp (λh=>?_) id;unfold vZ at h⊢;cases hr:(execOp a.eval o).run P w with
  | halt e w1=>rw[hr]at h;cases e<;>first|exact h|exact h.elim
  | ok nx w1=>
    rw[hr]at h;cases nx with
    |value v=>exact⟨h,hput v⟩
    |skip=>exact⟨h,hput undef⟩
    |defer d=>exact⟨h,hpa.put hd undef _⟩
    | enter f args=>
      refine Calls.mono h ?_;intro e w'' hq;cases e with
      |returned v=>exact⟨hq,hput v⟩
      |panicked c=>exact hq
      |outgrown=>exact hq
    |row r args=>exact Rows.mono h λv w'' hq=>⟨hq,hput v⟩
    |_=>exact h.elim
 ·rename_i hw;rw[ahk hw]at h;exact⟨h,hput undef⟩
theorem aaG (h:GX E I ρ n st a w)(hm:E.m<=10)(Nh:LY E g0 dp Γ a w){pa:List (Nat×Value)}{pl:List Nat}(hpa:PA pa a)(hpl:∀e,e∈pa->e.1∈pl){ops:Array Oper}{Q:Exit->Act->World->Prop}{o:Oper}{ao:kX}{CX:List OF}(hc:Lt P n E.m ops o ao=true)(ho:PI P pl lz Γ o ao=some CX){K:List Nat->List Nat->fH->Prop}(hT:T P ao st K) :
 Ie P ops Q o (AO E g0 pa dp n (λst=>∃rd wr,K rd wr st) CX) a w:=by
 unfold PI at ho;split at ho
 ·cases ho
 ·rename_i hn;refine aev hpa (λe he e'=>hn ?_) (afG h hm Nh hc ho hT);rw[yM];exact⟨e.1,hpl e he,by rw[e'];simp⟩
end
end
section
def abS (P:Program)(pl:List Nat)(Γ : List OF)(o:Oper)(ao:kX):Option (List OF):=(PI P pl false Γ o ao).bind λMX=>WI MX some
theorem abT {P:Program}{pl:List Nat}{Γ : List OF}{o:Oper}{ao:kX} : abS P pl Γ o ao=PI P pl false Γ o ao:=by
 unfold abS;cases PI P pl false Γ o ao with
 |none=>rfl
 |some MX=>simp[GU (fc:=ZA) (λ_ _=>Yz)]
def abV (P:Program)(pl:List Nat):List Oper->List kX->List OF->Option (List OF)
 |o::os,x::xs,Γ =>(abS P pl Γ o x).bind (abV P pl os xs)
 |_,_,Γ =>some Γ
def ae0 : List (List OF)->List OF
 |[]=>[]
 |a::r=>a.filter λf=>r.all λb=>b.contains f
abbrev DS :=Nat×List Nat×List OF
def adx {β:Type}(s:DS)(k:DS->β):β:=match s with
 |(a,l,Γ)=>yQ a λa=>LC yQ l λl=>WI Γ fun Γ =>k (a,l,Γ)
theorem af9 {β:Type}{s:DS}{k:DS->β} : adx s k=k s:=by obtain⟨a,l,Γ⟩:=s;simp only[adx,IV,GU (fc:=yQ) (λ_ _=>IV),Tq]
def afI (s:DS):List DS->List DS
 |[]=>[s]
 |t::r=>if Nat.beq s.1 t.1&&s.2.1==t.2.1 then(t.1,t.2.1,t.2.2.filter s.2.2.contains)::r else t::afI s r
def WR (L:List zC)(i:Nat):Option zC:=L.find? λx=>x.i==i
def Wj (D:List Nat)(Γ : List OF):List OF:= Γ.filter λf=>D.all λd=>Jm d f
def alY (P:Program)(pl:List Nat)(ops:Array Oper)(L:List zC)(D:List Nat)(s:DS):Option (List DS):=
 SL (λi=>match WR L i,ops[i]? with
  |some x,some o=>(abS P pl s.2.2 o x.o).map λMX=>(s.1-2^i,s.2.1.filter (· != i),Wj D MX)
  | _,_=>none) (s.2.1.filter λi=>match WR L i with
    |some x=>s.2.1.all λj=> !x.IB.contains j
    |none=>false)
def aak (P:Program)(pl:List Nat)(ops:Array Oper)(L:List zC)(D:List Nat):Nat->List DS->Option (List OF)
 |0,S=>some (ae0 (S.map (·.2.2)))
 |m+1,S=>(SL (alY P pl ops L D) S).bind λSs=>LC adx (Ss.flatten.foldr afI []) (aak P pl ops L D m)
def ZN (P:Program)(pl:List Nat)(ops:Array Oper)(x:zC):Bool:=match ops[x.i]? with
 |some o=>(PI P pl true [] o x.o).isSome
 |none=>false
def amC (P:Program)(pl:List Nat)(ops:Array Oper):List zC->List OF->List (zC×Bool)
 |[],_=>[]
 | x::r,Γ =>match ops[x.i]? with
   | some o=>(match abS P pl Γ o x.o with
     | some MX=>(x,match o.dst with
       |some d=>MX.any λf=> !Jm d f
       |none=>true)::amC P pl ops r MX
     |none=>(x::r).map λx=>(x,true))
   |none=>(x::r).map λx=>(x,true)
def ak5 (P:Program)(pl:List Nat)(ops:Array Oper):List (zC×Bool)->List Nat->List Nat
 |[],_=>[]
 | (x,b)::r,nd=>if ZN P pl ops x && !(b&&(match x.o.d with
   |some d=>nd.contains d
   |none=>true))then x.i::ak5 P pl ops r nd else ak5 P pl ops r (x.o.slots++nd)
def LJ (P:Program)(pl:List Nat)(ops:Array Oper)(Vu:List Nat)(x:zC):Bool:=Vu.contains x.i&&ZN P pl ops x
def aoR (P:Program)(pl:List Nat)(ops:Array Oper)(L:List zC)(Γ : List OF)(Vu:List Nat):Option (List OF):=
 let D:=(L.filter (LJ P pl ops Vu)).filterMap λx=>(ops[x.i]?).bind (·.dst)
 let l:=(L.filter λx=> !LJ P pl ops Vu x).map (·.i)
 LC yQ D λD=>LC yQ l λl=>aak P pl ops L D l.length [(l.foldl (λa i=>a+2^i) 0,l,Wj D Γ)]
def anl (P:Program)(pl keep:List Nat)(ops:Array Oper)(L:List zC)(Γ : List OF):Option (List OF):=
 LC yQ (ak5 P pl ops (amC P pl ops L Γ).reverse (keep++pl)) (aoR P pl ops L Γ)
theorem VU {s:DS} : ∀{l:List DS},(∃t,t∈afI s l/\t.2.1=s.2.1/\∀f,f∈t.2.2->f∈s.2.2)/\∀u,u∈l->∃t,t∈afI s l/\t.2.1=u.2.1/\∀f,f∈t.2.2->f∈u.2.2
 |[]=>⟨⟨s,aW ..,rfl,λ_ h=>h⟩,λu h=>by cases h⟩
 | t::r=>by
   obtain⟨h1,h2⟩:=VU (s:=s) (l:=r);simp only[afI];split
   ·rename_i hc;simp only[ah,akg]at hc;refine⟨⟨_,aW ..,hc.2.symm,λf hf=>kE.1 (aX.1 hf).2⟩,λu hu=>?_⟩;rcases ay.1 hu with rfl|hu
    ·exact⟨_,aW ..,rfl,λf hf=>(aX.1 hf).1⟩
    ·exact⟨u,dY _ hu,rfl,λ_ h=>h⟩
   ·refine⟨?_,λu hu=>?_⟩
    ·obtain⟨t',h3,h4⟩:=h1;exact⟨t',dY _ h3,h4⟩
    ·rcases ay.1 hu with rfl|hu
     ·exact⟨u,aW ..,rfl,λ_ h=>h⟩
     ·obtain⟨t',h3,h4⟩:=h2 u hu;exact⟨t',dY _ h3,h4⟩
theorem YH : ∀{l:List DS} {u:DS},u∈l->∃t,t∈l.foldr afI []/\t.2.1=u.2.1/\∀f,f∈t.2.2->f∈u.2.2
 | s::r,u,hu=>by
   simp only[List.foldr];rcases ay.1 hu with rfl|hu
   ·exact VU.1
   ·obtain⟨t,h1,h2,h3⟩:=YH hu;obtain⟨t',h4,h5,h6⟩:=(VU (s:=s)).2 t h1;exact⟨t',h4,h5.trans h2,λf hf=>h3 f (h6 f hf)⟩
theorem aea {Γ : List OF}{op:Op}(h:Qm [] op=true):Qm Γ op=true:=by
 unfold Qm at h⊢;split at h
 ·rename_i x az ts;unfold amY OJ at h⊢;cases x<;>simp_all
 ·exact h
theorem ak6 {P:Program}{pl:List Nat}{ops:Array Oper}{x:zC}{o:Oper}(h:ZN P pl ops x=true)(ho:ops[x.i]? = some o)(Γ : List OF):PI P pl true Γ o x.o=some (Jd o.dst Γ):=by
 unfold ZN at h;rw[ho]at h;simp only at h;unfold PI at h⊢;split at h
 ·cases h
 ·rename_i hn;rw[ahk hn];unfold UN at h⊢;split
  ·rfl
  ·rename_i hne;split at h
   ·rename_i h1 h2;exact al7 h2 (hne _ _ _ _ h1)
   ·unfold Xd at h⊢;simp only[Bool.true_or,amB]at h⊢;split at h
    ·rename_i hq;rw[ahl (aea hq)]
    ·cases h
theorem TP {Gs:List (List OF)}{f:OF}(h:f∈ae0 Gs){G:List OF}(hG:G∈Gs):f∈G:=by
 cases Gs with
 |nil=>cases hG
 | cons a r=>
   rw[ae0,aX,aP]at h;rcases ay.1 hG with rfl|hG
   ·exact h.1
   ·exact kE.1 (h.2 G hG)
section
variable {P:Program} {E:Env P} {n:Nat} {ops:Array Oper} {Q:Exit->Act->World->Prop} {Γ : List OF} {g0:Own} {dp:Nat} {pa:List (Nat×Value)} {pl:List Nat}
theorem AO.imp {K K':fH->Prop}{CX:List OF}(hk:∀st,K st->K' st){a:Act}{w:World}(h:AO E g0 pa dp n K Γ a w)(hs:∀f,f∈CX->f ∈ Γ):AO E g0 pa dp n K' CX a w:=
 ⟨⟨AK.imp hk h.1.1,h.1.2.weak hs⟩,h.2⟩
theorem UQ (hm:E.m<=10)(hpl:∀e,e∈pa->e.1∈pl):∀{os:List Oper} {xs:List kX} {K:fH->Prop} {Γ CX:List OF} {a:Act} {w:World},Td P n E.m ops os xs=true->abV P pl os xs Γ = some CX->AO E g0 pa dp n (λst=>wpOps P xs st K) Γ a w ->
 (∀a w,AO E g0 pa dp n K CX a w->Q .normal a w)->wpList P ops Q os a w
 |[],[],K,Γ,CX,a,w,_,ho,h,hq=>by simp only[abV]at ho;cases ho;exact hq a w h
 | o::os,x::xs,K,Γ,CX,a,w,hc,ho,h,hq=>by
   simp only[Td,ah]at hc;simp only[abV,yl]at ho;obtain⟨MX,ho1,ho2⟩:=ho;rw[abT]at ho1;obtain⟨⟨⟨I,ρ,st,hT,hg⟩,Nh⟩,hpa⟩:=h;have h1:=aaG (Q:=Q) (ops:=ops) hg hm Nh hpa hpl hc.1 ho1 (show T P x st λ_ _ st'=>wpOps P xs st' K from hT);unfold Ie at h1;unfold wpList;have key:∀a w,AO E g0 pa dp n (λst=>∃rd wr:List Nat,wpOps P xs st K) MX a w->wpList P ops Q os a w:=λa w hk=>UQ hm hpl hc.2 ho2 (hk.imp (λst ⟨_,_,h⟩=>h) λf hf=>hf) hq;split
   ·rename_i hw;rw[ahl hw]at h1;exact h1.imp (BU key) id
   ·rename_i hw;rw[ahk hw]at h1;exact key _ _ h1
 |[],_::_,_,_,_,_,_,hc,_,_,_=>by cases hc
 |_::_,[],_,_,_,_,_,hc,_,_,_=>by cases hc
theorem agM {m k:Nat}{L l:List zC}{D:List Nat}{S:List DS}{G:List OF}{x:zC}{o:Oper}(hD:aak P pl ops L D (m+1) S=some G)(hS:(k,l.map (·.i),Γ)∈S)(hx:x∈l)(hr:∀z,z∈l->¬z.i∈x.IB)(hL:WR L x.i=some x)(ho:ops[x.i]? = some o) :
 ∃MX S' k' Γ2,PI P pl false Γ o x.o=some MX/\(k',(l.filter λz=>z.i != x.i).map (·.i),Γ2)∈S'/\(∀f,f ∈ Γ2->f∈Wj D MX)/\aak P pl ops L D m S'=some G:=by
 simp only[aak,yl]at hD;obtain⟨Ss,h1,h2⟩:=hD;rw[GU (λ_ _=>af9)]at h2;obtain⟨T,h3,h4⟩:=FN h1 _ hS;unfold alY at h3;obtain⟨t,h5,h6⟩:=FN h3 x.i (aX.2 ⟨aS.2 ⟨x,hx,rfl⟩,by rw[hL];simp only[aP,aS];rintro j ⟨z,hz,rfl⟩;have:=hr z hz;simpa using this⟩)
 rw[hL,ho]at h5;simp only[bW]at h5;obtain⟨MX,h7,rfl⟩:=h5;rw[abT]at h7;obtain⟨⟨k',r',Γ2⟩,h8,h9,h10⟩:=YH (List.mem_flatten.2 ⟨T,h4,h6⟩);simp only at h9;subst h9;refine⟨MX,_,k',Γ2,h7,?_,h10,h2⟩;rw[List.filter_map]at h8;exact h8
theorem adv {pre post:List zC}{x:zC}(h:(pre++x::post).Pairwise λx y=>x.i<y.i):((pre++x::post).filter λz=>z.i != x.i)=pre++post:=by
 rw[Dl]at h;obtain⟨_,h2,h3⟩:=h;rw[rX]at h2;rw[vO,List.filter_cons_of_neg (by simp)]
 congr 1
 ·rw[xq];intro z hz;have:=h3 z hz x (aW ..);simp;omega
 ·rw[xq];intro z hz;have:=h2.1 z hz;simp;omega
theorem acT (hm:E.m<=10)(hpl:∀e,e∈pa->e.1∈pl){L:List (kX×List Nat)}(hc:QN P n E.m ops L=true){K:fH->Prop}{Γe:List OF}{Vu D:List Nat}(hDd:∀x o d,x∈items L 0->LJ P pl ops Vu x=true->ops[x.i]? = some o->o.dst=some d->d∈D)(hq:∀a w,AO E g0 pa dp n K Γe a w->Q .normal a w) :
 ∀ (fuel:Nat) (l:List zC) (listed:Array Bool) (log:Log) (Γ G:List OF) (a:Act) (w:World),(∃S k,(k,(l.filter λx=> !LJ P pl ops Vu x).map (·.i),Γ)∈S/\aak P pl ops (items L 0) D (l.filter λx=> !LJ P pl ops Vu x).length S=some G)->(∀f,f ∈ Γ -> ∀d,d∈D->Jm d f=true)->(∀f,f ∈ Γe->f∈G)->l.length<=fuel->l.Sublist (items L 0)->listed.size=ops.size ->
   (∀x,x∈items L 0->(listed.getD x.i true=false<->x∈l)) ->
   (∀x,x∈items L 0->listed.getD x.i false=true->∀j,j∈x.IB->listed.getD j false=true) ->
   AO E g0 pa dp n (λst=>wpI P l log st K) Γ a w->wpAny P .any ops Q fuel listed a w:=by
 simp only[QN,ah,akg,aP]at hc;obtain⟨⟨hlen,hit⟩,hap⟩:=hc;obtain⟨i1,i2,i3⟩:=NU (l:=L) (i:=0);have hpw:(items L 0).Pairwise λx y=>x.i<y.i/\(x.i∈y.IB\/Lp x.o y.o=true):=i2.and (ND hap);have YD:∀x y,x∈items L 0->y∈items L 0->x.i=y.i->x=y:=by
  intro x y hx hy e;obtain⟨p,hp,rfl⟩:=vG hx;obtain⟨q,hq',rfl⟩:=vG hy;have ain:=xx.1 i2;rcases yw p q with h|h|h
  ·have:=ain p q hp hq' h;omega
  ·subst h;rfl
  ·have:=ain q p hq' hp h;omega
 have adF:∀(l:List zC) (listed:Array Bool),l.Sublist (items L 0)->listed.size=ops.size->(∀x,x∈items L 0->(listed.getD x.i true=false<->x∈l))->uD .any ops listed=[]->l=[]:=by
  intro l listed hsub hsz hl hr;cases l with
  |nil=>rfl
  | cons x r=>
    exfalso;have hx:=hsub.subset (aW ..);have hc:=hit x hx;unfold QL at hc;cases ho:ops[x.i]? with
    |none=>rw[ho]at hc;cases hc
    | some o=>
      rw[ho]at hc;simp only[ah,VY,aP,gV,kH,ahm]at hc;have:x.i∈uD .any ops listed:=by
       rw[mem_ready];refine⟨(hl x hx).2 (aW ..),o,ho,λe he hb=>?_⟩;have hlt:=(hc.2.2 e (by simpa using he)).resolve_left (by rw[hb];simp);have hxi:=i1 x hx;obtain⟨y,hy,hye⟩:=i3 e.on (by omega);have hye:y.i=e.on:=(by omega);by_cases hyl:y∈x::r
       ·exfalso;rcases ay.1 hyl with rfl|hyr
        ·omega
        ·have:=(rX.1 (i2.sublist hsub)).1 y hyr;omega
       ·have h1:¬listed.getD y.i true=false:=λh=>hyl ((hl y hy).1 h);have hin:y.i<listed.size:=(by rw[hsz,<- hlen];have:=i1 y hy;omega);rw[<- hye];simp only[dX,lK hin,jQ]at h1⊢;simpa using h1
      rw[hr]at this;cases this
 intro fuel
 induction fuel with
 | zero=>
   intro l listed log Γ G a w hD hcl hG hf hsub hsz hl _ h;have:l=[]:=vM.1 (by omega);subst this;obtain⟨S,k,hS,hD⟩:=hD;simp only[List.filter_nil,iy,aak]at hD;cases hD;refine⟨?_,hq a w (h.imp (λ_ h=>h) λf hf=>TP (hG f hf) (aS.2 ⟨_,hS,rfl⟩))⟩;cases hr:uD .any ops listed with
   |nil=>rfl
   | cons i r=>exfalso;have hi:i∈uD .any ops listed:=(by rw[hr];exact aW ..);obtain⟨hu,o,ho,_⟩:=mem_ready.1 hi;have hlt:=(dK.1 ho).1;obtain⟨y,hy,hye⟩:=i3 i (by omega);have hye:y.i=i:=(by omega);have:=(hl y hy).1 (by rw[hye];exact hu);cases this
 | succ fuel ih=>
   intro l listed log Γ G a w hD hcl hG hf hsub hsz hl hdown h;refine⟨λhr=>?_,λi hi=>?_⟩
   ·have:=adF l listed hsub hsz hl hr;subst this;obtain⟨S,k,hS,hD⟩:=hD;simp only[List.filter_nil,iy,aak]at hD;cases hD;exact hq a w (h.imp (λ_ h=>h) λf hf=>TP (hG f hf) (aS.2 ⟨_,hS,rfl⟩))
   ·obtain⟨hu,o,ho,hall⟩:=mem_ready.1 hi;have hlt:=(dK.1 ho).1;obtain⟨x,hx,hxe⟩:=i3 i (by omega);have hxe:x.i=i:=(by omega);subst hxe;have hxl:=(hl x hx).1 hu;have hcx:=hit x hx;unfold QL at hcx;rw[ho]at hcx;simp only[ah]at hcx;obtain⟨hco,hca⟩:=hcx;have haft:∀j,j∈x.IB->listed.getD j false=true:=by
     intro j hj;simp only[VY,ah,aP,yM,gV,akg]at hca;obtain⟨e,he,hb,hej⟩:=hca.1 j hj;have hel:=hall e (by simpa using he) hb;rcases hej with rfl|⟨y,hy,hye,hyj⟩
     ·exact hel
     ·rw[<- hye]at hel;exact hdown y hy hel j (by simpa using hyj)
    have aoe:WR (items L 0) x.i=some x:=by
     unfold WR;cases hfind:(items L 0).find? (λz=>z.i==x.i)with
     |none=>exact al7 (by simp) (List.find?_eq_none.1 hfind x hx)
     | some z=>have h1:=List.find?_some hfind;have h2:=List.mem_of_find?_eq_some hfind;rw[YD z x h2 hx (by simpa using h1)]
    have apH:∀z,z∈l->¬z.i∈x.IB:=λz hz hm=>by have h2:=haft _ hm;rw[ZG ((hl z (hsub.subset hz)).2 hz)]at h2;cases h2
    obtain⟨pre,post,rfl⟩:=List.append_of_mem hxl;have apD:((pre++x::post).filter λz=>z.i != x.i)=pre++post:=adv (i2.sublist hsub);obtain⟨lz,MX,S1,k1,Γ2,hO1,hO2,hO4,hO5,hO3⟩:∃lz MX S1 k1 Γ2,PI P pl lz Γ o x.o=some MX/\(k1,((pre++post).filter λx=> !LJ P pl ops Vu x).map (·.i),Γ2)∈S1/\(∀f,f ∈ Γ2->f∈MX)/\(∀f,f ∈ Γ2->∀d,d∈D->Jm d f=true)/\aak P pl ops (items L 0) D ((pre++post).filter λx=> !LJ P pl ops Vu x).length S1=some G:=by
     obtain⟨S,k,hS,hD⟩:=hD;cases hz:LJ P pl ops Vu x with
     | true=>
       have e:((pre++x::post).filter λx=> !LJ P pl ops Vu x)=((pre++post).filter λx=> !LJ P pl ops Vu x):=(by rw[vO,List.filter_cons_of_neg (by simp[hz]),<- vO]);rw[e]at hS hD;have hz':=hz;simp only[LJ,ah]at hz';refine⟨true,_,S,k,Γ,ak6 hz'.2 ho Γ,hS,λf hf=>?_,hcl,hD⟩;unfold Jd;rw[aX];refine⟨hf,?_⟩;cases hd:o.dst with
       |none=>rfl
       |some d=>exact hcl f hf d (hDd x o d hx hz ho hd)
     | false=>
       have e:((pre++x::post).filter λx=> !LJ P pl ops Vu x)=(pre.filter λx=> !LJ P pl ops Vu x)++x::(post.filter λx=> !LJ P pl ops Vu x):=(by rw[vO,List.filter_cons_of_pos (by simp[hz])]);have e2:((pre++x::post).filter λx=> !LJ P pl ops Vu x).length=((pre++post).filter λx=> !LJ P pl ops Vu x).length+1:=(by rw[e,vO];simp;omega);rw[e2]at hD;obtain⟨MX,S',k',Γ2,h1,h2,h3,h4⟩:=agM hD hS (aX.2 ⟨hxl,by simp[hz]⟩) (λz hz=>apH z (aX.1 hz).1) aoe ho;refine⟨false,MX,S',k',Γ2,h1,?_,λf hf=>(aX.1 (h3 f hf)).1,λf hf d hd=>aP.1 (aX.1 (h3 f hf)).2 d hd,h4⟩;have e3:(((pre++x::post).filter λx=> !LJ P pl ops Vu x).filter λz=>z.i != x.i)=(pre++post).filter λx=> !LJ P pl ops Vu x:=by
        rw[<- apD,List.filter_filter,List.filter_filter]
        congr 1
        funext z
        exact Bool.and_comm _ _
       rw[e3]at h2;exact h2
    have ZK:=hpw.sublist hsub;rw[Dl]at ZK;have hpre:∀p,p∈pre->p.i ∉ x.IB/\Lp p.o x.o=true:=by
     intro p hp;have h1:=ZK.2.2 p hp x (aW ..);have hn:p.i ∉ x.IB:=by intro hm';have h2:=haft _ hm';have h3:=(hl p (hsub.subset (dh _ hp))).2 (dh _ hp);rw[ZG h3]at h2;cases h2
     exact⟨hn,h1.2.resolve_left hn⟩
    obtain⟨⟨⟨I,ρ,st,hT,hg⟩,Nh⟩,hpa⟩:=h;have hT:=Um hpre hT;have h1:=aaG (Q:=Q) (ops:=ops) hg hm Nh hpa hpl hco hO1 (show T P x.o st λrd wr st'=>zO x.IB rd wr log=true/\wpI P (pre++post) ((x.i,rd,wr)::log) st' K from hT);have key:∀a w,AO E g0 pa dp n (λst=>∃rd wr,zO x.IB rd wr log=true/\wpI P (pre++post) ((x.i,rd,wr)::log) st K) MX a w->wpAny P .any ops Q fuel (listed.setIfInBounds x.i true) a w:=by
     rintro a w ⟨⟨⟨I,ρ,st,⟨rd,wr,_,hk⟩,hg⟩,Nh⟩,hpa⟩;have Nh:=Nh.weak hO4;have hnx:x ∉ pre++post:=by
      intro hxm;rcases aY.1 hxm with h|h
      ·have:=(ZK.2.2 x h x (aW ..)).1;omega
      ·have:=((rX.1 ZK.2.1).1 x h).1;omega
     refine ih (pre++post) _ ((x.i,rd,wr)::log) Γ2 G a w ⟨S1,k1,hO2,hO3⟩ hO5 hG (by simp at hf⊢;omega) ?_ (by simp[hsz]) ?_ ?_ ⟨⟨⟨I,ρ,st,hk,hg⟩,Nh⟩,hpa⟩
     ·exact(List.Sublist.append_left (List.sublist_cons_self x post) pre).trans hsub
     ·intro y hy;by_cases hyx:y=x
      ·subst hyx;constructor
       ·intro h;have hin:y.i<listed.size:=(by rw[hsz];exact hlt);simp[hin]at h
       ·intro h;exact al7 h hnx
      ·have hne:x.i≠y.i:=λe=>hyx (YD y x hy hx e.symm);rw[getD_set_ne true hne,hl y hy];simp only[aY,ay,hyx,false_or]
     ·intro y hy hyl j hj;by_cases hyx:y=x
      ·subst hyx;exact getD_set_true (haft j hj)
      ·have hne:x.i≠y.i:=λe=>hyx (YD y x hy hx e.symm);rw[getD_set_ne false hne]at hyl;exact getD_set_true (hdown y hy hyl j hj)
    unfold wpOp;rw[ho];unfold Ie at h1;simp only;split
    ·rename_i hw;rw[ahl hw]at h1;exact h1.imp (BU key) id
    ·rename_i hw;rw[ahk hw]at h1;exact key _ _ h1
theorem acd (hm:E.m<=10)(hpl:∀e,e∈pa->e.1∈pl)(hf:P.follows .mixedOrders=true){L:List (kX×List Nat)}(hc:QN P n E.m ops L=true){K:fH->Prop}{Γ Γe:List OF}{keep:List Nat}(hD:anl P pl keep ops (items L 0) Γ = some Γe)(hq:∀a w,AO E g0 pa dp n K Γe a w->Q .normal a w)
 {id:Nat} {a:Act} {w:World} (h:AO E g0 pa dp n (λst=>wpD P L 0 [] st K) Γ a w):(CZ id ops true).wp P Q a w:=by
 refine wp_region_any hf ?_;have hlen:L.length=ops.size:=by simp only[QN,ah,akg]at hc;exact hc.1.1
 have i0:=NU (l:=L) (i:=0);have hil:(items L 0).length=L.length:=by
  clear i0 hlen h hc hD;generalize 0=i
  induction L generalizing i with
  |nil=>rfl
  |cons x r ih=>obtain⟨o,IB⟩:=x;simp[items,ih]
 unfold anl at hD;rw[GU (λ_ _=>IV)]at hD;generalize ak5 P pl ops (amC P pl ops (items L 0) Γ).reverse (keep++pl)=Vu at hD;unfold aoR at hD;simp only[GU (fc:=yQ) (λ_ _=>IV),uF]at hD;generalize hDD:((items L 0).filter (LJ P pl ops Vu)).filterMap (λx=>(ops[x.i]?).bind (·.dst))=D at hD;refine acT hm hpl hc (Vu:=Vu) (D:=D) ?_ hq ops.size (items L 0) (sK ops.size false) [] (Wj D Γ) Γe a _ ⟨_,_,aW ..,hD⟩ (λf hf d hd=>aP.1 (aX.1 hf).2 d hd) (λ_ h=>h) (by omega) (ED _) (by simp) ?_ ?_ ?_
 ·intro x o d hx hz ho hd;rw[<- hDD,dJ];exact⟨x,aX.2 ⟨hx,hz⟩,by rw[ho];exact hd⟩
 ·intro x hx;have:=i0.1 x hx;have hlt:x.i<ops.size:=by omega
  simp[hlt,hx]
 ·intro x hx h;exfalso;have:=i0.1 x hx;have hlt:x.i<ops.size:=by omega
  simp[hlt]at h
 ·obtain⟨⟨⟨I,ρ,st,hT,hg⟩,g,hg1,hg2⟩,hpa⟩:=h;have hg3:=hg2.weak (CX:=Wj D Γ) λf hf=>(aX.1 hf).1;refine⟨⟨?_,g,hg1,hg3.world (aA _) λ_ _=>rfl⟩,hpa⟩;exact⟨I,ρ,st,Eq.mp (aeu (P:=P) (l:=L) (i:=0) (log:=[]) (st:=st) (K:=K)) hT,hg.drew⟩
end
end
section
def Nj (zs:List Nat)(bx:Nat->Box)(π:Nat->Option Nat)(vs:List Nat):AC->AC->Prop
 |_,.NV=>True
 |.c x,.c y=>x=y
 |.lF sz,.c y=>y = .sl sz []
 | .own b n sz,.c y=>b∈zs/\match(bx b).arr with
   |some (sz',es)=>sz'=sz/\n<=es.length/\y = .sl sz (es.take n)
   |none=>False
 |.lF sz,.lF sz'=>sz=sz'
 |.lF sz,.own b n sz'=>b∈vs/\n=0/\sz=sz'
 |.own b n sz,.own b' n' sz'=>π b'=some b/\n=n'/\sz=sz'
 |.sub b lo n _ sz,.own b' n' sz'=>π b'=some b/\lo=0/\n=n'/\sz=sz'
 |.sub b lo n c sz,.sub b' lo' n' c' sz'=>π b'=some b/\lo=lo'/\n=n'/\c=c'/\sz=sz'
 |.ptr b o,.ptr b' o'=>π b'=some b/\o=o'
 |.Bc b i sz o,.Bc b' i' sz' o'=>π b'=some b/\i=i'/\sz=sz'/\o=o'
 |.Gu cs,.Gu cs'=>cs=cs'
 |.fn f caps,.fn f' aeG=>f=f'/\aeG.map π=caps.map some
 |.opt T b,.opt T' b'=>T=T'/\π b'=some b
 |.yV b n,.yV b' n'=>π b'=some b/\n=n'
 |.err g,.err g'=>g=g'
 |_,_=>False
def Qu (zs:List Nat)(bx:Nat->Box)(π:Nat->Option Nat)(vs:List Nat):List AC->List AC->Prop
 |[],[]=>True
 |x::xs,y::ys=>Nj zs bx π vs x y/\Qu zs bx π vs xs ys
 |_,_=>False
def Yh (zs:List Nat)(bx:Nat->Box)(π:Nat->Option Nat)(vs:List Nat):List (Bool×List AC)->List (Bool×List AC)->Prop
 |[],[]=>True
 |(g,x)::xs,(g',y)::ys=>g=g'/\Qu zs bx π vs x y/\Yh zs bx π vs xs ys
 |_,_=>False
def wkV (zs:List Nat)(bx:Nat->Box)(π:Nat->Option Nat)(vs:List Nat):AV->AV->Prop
 |.one x,.one y=>Nj zs bx π vs x y
 |.agg xs,.agg ys=>Qu zs bx π vs xs ys
 |.zi xs,.zi ys=>Yh zs bx π vs xs ys
 |_,_=>False
def wkB (zs:List Nat)(bx:Nat->Box)(π:Nat->Option Nat)(vs:List Nat)(b:Nat):Box->Prop
 |.absent=>π b=none/\b ∉ vs
 |.dead=>True
 | .var ys=>match π b with
   | some c=>match bx c with
     |.var xs=>Qu zs bx π vs xs ys
     |_=>False
   |none=>False
 | .dat sz es=>match π b with
   |some c=>c ∉ zs/\(bx c = .dat sz es\/∃t,bx c = .dat sz (es++t))
   |none=>b∈vs/\es=[]
 | .Ik sz es=>match π b with
   |some c=>bx c = .Ik sz es\/(c∈zs/\bx c = .dat sz es)
   |none=>False
 | .row e l=>match π b with
   |some c=>bx c = .row e l
   |none=>False
def Box.TE : Box->Bool
 |.dead=>true
 |_=>false
structure WkS (m:Nat)(bx bx':Nat->Box)(zs:List Nat)(π:Nat->Option Nat)(vs:List Nat):Prop where
 box:∀b,wkB zs bx π vs b (bx' b)
 inj:∀b b' c,(bx' b).TE=false->(bx' b').TE=false->π b=some c->π b'=some c->b=b'
 vir:∀b,b∈vs->π b=none
 fix:∀b,b<m->π b=some b\/(π b=none/\b ∉ vs/\bx b = .absent)
def Yi (zs:List Nat)(bx:Nat->Box)(π:Nat->Option Nat)(vs:List Nat):Slot->Slot->Prop
 |_,.none=>True
 |.v g x,.v g' y=>g=g'/\(g=true->wkV zs bx π vs x y)
 |_,_=>False
def Ph (m:Nat)(st S:fH):Prop:=∃zs π vs,WkS m st.bx S.bx zs π vs/\∀t,Yi zs st.bx π vs (st.tm t) (S.tm t)
section
variable {P:Program} {E:Env P} {I:IH} {ρ:Ren} {n:Nat} {st:fH} {a:Act} {w:World}
def EW (ρ:Ren)(π:Nat->Option Nat)(vs:List Nat):Ren:=λb=>match π b with
 |some c=>ρ c
 |none=>if b∈vs then some (0,0)else none
theorem ajR (h:GX E I ρ n st a w){zs vs:List Nat}{π:Nat->Option Nat}(hvs:∀b,b∈vs->π b=none){v:Value}{x y:AC}(hx:GC I ρ v x)(hy:Nj zs st.bx π vs x y):GC (D8 I ρ w st.bx zs) (EW ρ π vs) v y:=by
 have hle:=IJ h.bx zs;cases y with
 |NV=>exact hx.one
 | c y=>
   cases x with
   |c x=>simp only[Nj]at hy;subst hy;exact Rd.mono hle hx
   | lF sz=>simp only[Nj]at hy;subst hy;simp only[GC]at hx;subst hx;exact Rd.sl none 0 0 _ [] (λ_ _=>undef) rfl (aA _) (by simp[maxLen]) (by simp) (by simp) (by intro ad h;cases h) (by simp)
   | own b m sz=>
     simp only[Nj]at hy;obtain⟨hb,hy⟩:=hy;split at hy
     ·rename_i sz' es harr;obtain⟨rfl,hm,rfl⟩:=hy;exact ZO h hb harr hm hx
     ·exact hy.elim
   |_=>simp[Nj]at hy
 | lF sz=>cases x<;>simp only[Nj]at hy;subst hy;exact hx
 | own b' m' sz'=>
   cases x with
   | lF sz=>simp only[Nj]at hy;obtain⟨hb,rfl,rfl⟩:=hy;simp only[GC]at hx;subst hx;exact⟨0,0,none,0,by simp[EW,hvs b' hb,hb],rfl,aA _,aA _,λh=>al7 rfl h⟩
   | own b m sz=>simp only[Nj]at hy;obtain⟨hb,rfl,rfl⟩:=hy;obtain⟨k,cap,ad,c,hr,hrest⟩:=hx;exact⟨k,cap,ad,c,by simp only[EW,hb];exact hr,hrest⟩
   | sub b lo m c0 sz=>simp only[Nj]at hy;obtain⟨hb,rfl,rfl,rfl⟩:=hy;obtain⟨k,cap,ad,c,hr,hv,hm,hcc,_,ha⟩:=hx;refine⟨k,cap,ad,c,by simp only[EW,hb];exact hr,hv,hm,by omega,λhc0=>?_⟩;have:=ha (.inr ⟨rfl,hc0⟩);rw[yY]at this;exact this
   |_=>simp[Nj]at hy
 | sub b' lo' m' c' sz'=>
   cases x with
   | sub b lo m c sz=>simp only[Nj]at hy;obtain⟨hb,rfl,rfl,rfl,rfl⟩:=hy;obtain⟨k,cap,ad,c1,hr,hrest⟩:=hx;exact⟨k,cap,ad,c1,by simp only[EW,hb];exact hr,hrest⟩
   |_=>simp[Nj]at hy
 | ptr b' o'=>
   cases x with
   | ptr b o=>simp only[Nj]at hy;obtain⟨hb,rfl⟩:=hy;obtain⟨k,cap,hr,hrest⟩:=hx;exact⟨k,cap,by simp only[EW,hb];exact hr,hrest⟩
   |_=>simp[Nj]at hy
 | Bc b' i' sz' o'=>
   cases x with
   | Bc b i sz o=>simp only[Nj]at hy;obtain⟨hb,rfl,rfl,rfl⟩:=hy;obtain⟨k,cap,hr,hrest⟩:=hx;exact⟨k,cap,by simp only[EW,hb];exact hr,hrest⟩
   |_=>simp[Nj]at hy
 | opt T' b'=>
   cases x with
   | opt T b=>simp only[Nj]at hy;obtain⟨rfl,hb⟩:=hy;obtain⟨k,hr,hrest⟩:=hx;exact⟨k,by simp only[EW,hb];exact hr,hrest⟩
   |_=>simp[Nj]at hy
 | yV b' n'=>
   cases x with
   | yV b n=>simp only[Nj]at hy;obtain⟨hb,rfl⟩:=hy;obtain⟨k,cap,hr,hrest⟩:=hx;exact⟨k,cap,by simp only[EW,hb];exact hr,hrest⟩
   |_=>simp[Nj]at hy
 | err g'=>
   cases x with
   |err g=>simp only[Nj]at hy;subst hy;exact hx
   |_=>simp[Nj]at hy
 | Gu cs'=>
   cases x with
   | Gu cs=>simp only[Nj]at hy;subst hy;obtain⟨p,hv,hc⟩:=hx;exact⟨p,hv,λj c hj=>let ⟨u,h1,h2⟩:=hc j c hj;⟨u,IH.OT hle h1,h2.mono hle⟩⟩
   |_=>simp[Nj]at hy
 | fn f' aeG=>
   cases x with
   | fn f caps=>simp only[Nj]at hy;obtain⟨rfl,hcs⟩:=hy;obtain⟨ks,hk1,hk2,hk3⟩:=hx;have hlen:aeG.length=caps.length:=(by have:=anr List.length hcs;simpa using this);refine⟨ks,by rw[hlen];exact hk1,λj b k hb hk=>?_,hk3⟩;have hj:j<caps.length:=(by have:=(aK.1 hb).1;omega);have h1:(aeG.map π)[j]? = (caps.map some)[j]?:=(by rw[hcs]);rw[bP,bP,hb,ax hj]at h1;simp only[iR,aC]at h1;obtain⟨cap,hr⟩:=hk2 j _ k (ax hj) hk;exact⟨cap,by simp only[EW,h1];exact hr⟩
   |_=>simp[Nj]at hy
theorem aax (h:GX E I ρ n st a w){zs vs:List Nat}{π:Nat->Option Nat}(hvs:∀b,b∈vs->π b=none):∀{us:List Value} {xs ys:List AC},OB I ρ us xs->Qu zs st.bx π vs xs ys->OB (D8 I ρ w st.bx zs) (EW ρ π vs) us ys
 |us,[],[],hx,_=>⟨hx.1,λj v x hv hx=>by simp at hx⟩
 | u::us,x::xs,y::ys,hx,hy=>by
   have ih:=aax h hvs (us:=us) (xs:=xs) (ys:=ys) ⟨by simpa using hx.1,λj v z hv hz=>hx.2 (j+1) v z (by simpa using hv) (by simpa using hz)⟩ hy.2;refine⟨by simp[ih.1],λj v z hv hz=>?_⟩;cases j with
   | zero=>simp at hv hz;subst hv;subst hz;exact ajR h hvs (hx.2 0 _ _ rfl rfl) hy.1
   |succ j=>exact ih.2 j v z (by simpa using hv) (by simpa using hz)
 |[],_::_,_,hx,_=>by have:=hx.1;simp at this
 |_,[],_::_,_,hy=>by simp[Qu]at hy
 |_,_::_,[],_,hy=>by simp[Qu]at hy
theorem acC {zs vs:List Nat}{bx:Nat->Box}{π:Nat->Option Nat} : ∀{xs ys:List (Bool×List AC)},Yh zs bx π vs xs ys->xs.length=ys.length/\∀(j:Nat) (y:Bool×List AC),ys[j]? = some y->∃x:Bool×List AC,xs[j]? = some x/\x.1=y.1/\Qu zs bx π vs x.2 y.2
 |[],[],_=>⟨rfl,λj y hy=>by simp at hy⟩
 | (g,x)::xs,(g',y)::ys,h=>by
   obtain⟨h1,h2,h3⟩:=h;obtain⟨i1,i2⟩:=acC h3;refine⟨by simp[i1],λj z hz=>?_⟩;cases j with
   |zero=>simp at hz;subst hz;exact⟨(g,x),rfl,h1,h2⟩
   | succ j=>obtain⟨q,hq,hr⟩:=i2 j z (by simpa using hz);exact⟨q,by simpa using hq,hr⟩
 |[],_::_,h=>by simp[Yh]at h
 |_::_,[],h=>by simp[Yh]at h
theorem ama (h:GX E I ρ n st a w){zs vs:List Nat}{π:Nat->Option Nat}(hvs:∀b,b∈vs->π b=none){v:Value}{x y:AV}(hx:GV I ρ v x)(hy:wkV zs st.bx π vs x y):GV (D8 I ρ w st.bx zs) (EW ρ π vs) v y:=by
 cases x with
 | one x=>cases y with
   |one y=>exact ajR h hvs hx hy
   |_=>exact hy.elim
 | agg xs=>cases y with
   |agg ys=>obtain⟨cs,rfl,hg⟩:=hx;exact⟨cs,rfl,aax h hvs hg hy⟩
   |_=>exact hy.elim
 | zi ps=>cases y with
   | zi qs=>
     obtain⟨us,rfl,hl,hp⟩:=hx;obtain⟨i1,i2⟩:=acC (show Yh zs st.bx π vs ps qs from hy);refine⟨us,rfl,by rw[hl,i1],λj v q hv hq=>?_⟩;obtain⟨p,hpj,e,hw⟩:=i2 j q hq;have h1:=hp j v p hv hpj;unfold GP at h1⊢;rw[e]at h1;split at h1
     ·rename_i hb;rw[ahl hb];obtain⟨cs,rfl,hg⟩:=h1;exact⟨cs,rfl,aax h hvs hg hw⟩
     ·rename_i hb;rw[ahk hb];obtain⟨x,hx,hg⟩:=h1;rw[hx]at hw;cases hq2:q.2 with
      |nil=>rw[hq2]at hw;exact hw.elim
      | cons y t=>
        rw[hq2]at hw;cases t with
        |nil=>exact⟨y,rfl,ajR h hvs hg hw.1⟩
        |cons z t=>exact hw.2.elim
   |_=>exact hy.elim
theorem Y0 (h:GX E I ρ n st a w){m:Nat}(hm:E.m<=m){bx':Nat->Box}{zs vs:List Nat}{π:Nat->Option Nat}(hw:WkS m st.bx bx' zs π vs) :
 GX E (D8 I ρ w st.bx zs) (EW ρ π vs) n ⟨λ_=>.none,bx'⟩ a w:=by
 have hF:=h.freeze zs;generalize hJ:D8 I ρ w st.bx zs=J at *;have hnd:∀b k,(bx' b).uses (EW ρ π vs b) k->(bx' b).TE=false:=λb k hu=>by
  cases hx:bx' b with
  |dead=>rw[hx]at hu;exact hu.elim
  |_=>rfl
 have Ei:∀b k,(bx' b).uses (EW ρ π vs b) k->∃c,π b=some c/\((st.Ik zs).bx c).uses (ρ c) k:=by
  intro b k hu;have hb:=hw.box b;cases hx:bx' b with
  | var ys=>
    rw[hx]at hu hb;simp only[wkB]at hb;split at hb
    ·rename_i c hc;refine⟨c,hc,?_⟩;split at hb
     ·rename_i xs hxs;rw[BM,hxs];simp only[EW,hc]at hu;split<;>exact hu
     ·exact hb.elim
    ·exact hb.elim
  | dat sz es=>
    rw[hx]at hu hb;simp only[wkB]at hb;split at hb
    ·rename_i c hc;refine⟨c,hc,?_⟩;simp only[EW,hc]at hu;rcases hb.2 with hb2|⟨t,hb2⟩
     ·rw[BM,ahk hb.1,hb2];exact hu
     ·rw[BM,ahk hb.1,hb2];exact hu
    ·rename_i hc;obtain⟨cap,hu1,hu2⟩:=hu;simp only[EW,hc,hb.1,amB,aC,bI]at hu1;exact al7 hu1.2.symm hu2
  | row e l=>
    rw[hx]at hu hb;simp only[wkB]at hb;split at hb
    ·rename_i c hc;refine⟨c,hc,?_⟩;simp only[EW,hc]at hu;rw[BM,hb];split<;>exact hu
    ·exact hb.elim
  |absent=>rw[hx]at hu;exact hu.elim
  |dead=>rw[hx]at hu;exact hu.elim
  |Ik sz es=>rw[hx]at hu;exact hu.elim
 refine{ agree:=hF.agree,bx:=⟨λb=>?_,λb b' k hb hb'=>?_,λb k hb=>?_⟩,tm:=λt ht=>trivial,size:=h.size,defers:=h.defers,Be:=h.Be,own:=λb k hu=>?_,Jw:=hF.Jw,Jg:=hF.Jg,yS:=λb hb=>?_ }
 ·have hb:=hw.box b;show xP J (EW ρ π vs) w b (bx' b);cases hx:bx' b with
  | absent=>rw[hx]at hb;show EW ρ π vs b=none;simp only[EW,hb.1,hb.2,if_false]
  |dead=>trivial
  | var ys=>
    rw[hx]at hb;simp only[wkB]at hb;split at hb
    ·rename_i c hc;split at hb
     ·rename_i xs hxs;have hok:=h.bx.ok c;rw[hxs]at hok;obtain⟨k,cap,cs,hr,hwk,hsz,hcs⟩:=hok;have hg:OB J (EW ρ π vs) cs.toList ys:=by
       subst hJ;exact aax h hw.vir ⟨by simpa using hsz,λj u x hu hx=>hcs j u x (by simpa using hu) hx⟩ hb
      refine⟨k,cap,cs,by simp only[EW,hc];exact hr,hwk,by simpa using hg.1,λj u x hu hx=>hg.2 j u x (by simpa using hu) hx⟩
     ·exact hb.elim
    ·exact hb.elim
  | dat sz es=>
    rw[hx]at hb;simp only[wkB]at hb;split at hb
    ·rename_i c hc;have hok:=hF.bx.ok c;rcases hb.2 with hb2|⟨t,hb2⟩
     ·rw[BM,ahk hb.1,hb2]at hok;obtain⟨k,cap,hr,hrest⟩:=hok;exact⟨k,cap,by simp only[EW,hc];exact hr,hrest⟩
     ·rw[BM,ahk hb.1,hb2]at hok;obtain⟨k,cap,hr,h1,h2,h3,h4⟩:=hok;refine⟨k,cap,by simp only[EW,hc];exact hr,by simp at h1;omega,h2,λe he=>h3 e (dh _ he),λh0=>?_⟩;obtain⟨cs,e,g1,g2,g3,g4⟩:=h4 h0;refine⟨cs,e,g1,g2,g3,λi j c' hc'=>g4 i j c' ?_⟩;have hi:=l7 hc';rw[<- hc']
      congr 1
      simp only[List.getD];rw[bF hi]
    ·rename_i hc;obtain⟨hv,rfl⟩:=hb;exact⟨0,0,by simp only[EW,hc,hv,amB],by simp,by simp[maxLen],by simp,λh=>al7 rfl h⟩
  | row e l=>
    rw[hx]at hb;simp only[wkB]at hb;split at hb
    ·rename_i c hc;have hok:=hF.bx.ok c;rw[BM,hb]at hok;have e1:(if c∈zs then JY (.row e l)else .row e l)=Box.row e l:=(by split<;>rfl);rw[e1]at hok;obtain⟨k,cap,hr,hrest⟩:=hok;exact⟨k,cap,by simp only[EW,hc];exact hr,hrest⟩
    ·exact hb.elim
  | Ik sz es=>
    rw[hx]at hb;simp only[wkB]at hb;split at hb
    ·rename_i c hc;have hok:=hF.bx.ok c;have e:(st.Ik zs).bx c = .Ik sz es:=by
      rw[BM];rcases hb with hb|⟨hz,hb⟩
      ·rw[hb];split<;>rfl
      ·rw[hb,ahl hz];rfl
     rw[e]at hok;obtain⟨k,cap,hr,hrest⟩:=hok;exact⟨k,cap,by simp only[EW,hc];exact hr,hrest⟩
    ·exact hb.elim
 ·obtain⟨c,hc,hu⟩:=Ei b k hb;obtain⟨c',hc',hu'⟩:=Ei b' k hb';have:=hF.bx.inj c c' k hu hu';subst this;exact hw.inj b b' c (hnd b k hb) (hnd b' k hb') hc hc'
 ·obtain⟨c,hc,hu⟩:=Ei b k hb;exact hF.bx.fresh c k hu
 ·obtain⟨c,hc,hu'⟩:=Ei b k hu;exact hF.own c k hu'
 ·rcases hw.fix b (by omega)with hf|⟨hf,hv,hab⟩
  ·simp only[EW,hf];exact h.yS b hb
  ·have:=h.bx.ok b;rw[hab]at this;rw[<- h.yS b hb];simp only[EW,hf,hv,if_false];exact this.symm
theorem Qs (h:GX E I ρ n st a w){m:Nat}(hm:E.m<=m){S:fH}(hw:Ph m st S):∃J σ,GX E J σ n S a w:=by
 obtain⟨zs,π,vs,hs,ht⟩:=hw;have h1:=Y0 h hm hs;refine⟨_,_,{ h1 with tm:=λt htn=>?_,bx:=h1.bx,agree:=h1.agree,size:=h1.size,defers:=h1.defers,Be:=h1.Be,own:=h1.own }⟩;have h2:=ht t;have h3:=h.tm t htn;cases hS:S.tm t with
 |none=>trivial
 | v g y=>
   rw[hS]at h2;cases hst:st.tm t with
   |none=>rw[hst]at h2;exact h2.elim
   | v g' x=>rw[hst]at h2 h3;obtain⟨rfl,hv⟩:=h2;exact⟨λhg=>ama h hs.vir (h3.1 hg) (hv hg),h3.2⟩
theorem AK.weak {m:Nat}(hm:E.m<=m){K:fH->Prop}{X:Type}{J:X->Prop}{S:X->fH}(hk:∀st,K st->∃x,J x/\Ph m st (S x)){a:Act}{w:World}(h:AK E n K a w):∃x,J x/\AK E n (λst=>st=S x) a w:=by obtain⟨I,ρ,st,hK,hg⟩:=h;obtain⟨x,hj,hw⟩:=hk st hK;obtain⟨I',ρ',hg'⟩:=Qs hg hm hw;exact⟨x,hj,I',ρ',_,rfl,hg'⟩
end
end
def fH.of (ts:List (Nat×Slot))(bs:List (Nat×Box)):fH:=
 ⟨λt=>match ts.find? (λp=>p.1==t)with|some p=>p.2|none=>.none,λb=>match bs.find? (λp=>p.1==b)with|some p=>p.2|none=>.absent⟩
def BF : List (Nat×Slot)->Nat->Slot
 |[],_=>.none
 |(t',s)::r,t=>if t'=t then s else BF r t
def uq : List (Nat×Box)->Nat->Box
 |[],_=>.absent
 |(t',s)::r,t=>if t'=t then s else uq r t
theorem KT (ts:List (Nat×Slot))(bs:List (Nat×Box))(t:Nat):(fH.of ts bs).tm t=BF ts t:=by
 simp only[fH.of]
 induction ts with
 |nil=>rfl
 | cons p r ih=>
   obtain⟨a,b⟩:=p;by_cases h:a=t
   ·subst h;simp[BF]
   ·simp[BF,h,ih]
theorem Ff (ts:List (Nat×Slot))(bs:List (Nat×Box))(t:Nat):(fH.of ts bs).bx t=uq bs t:=by
 simp only[fH.of]
 induction bs with
 |nil=>rfl
 | cons p r ih=>
   obtain⟨a,b⟩:=p;by_cases h:a=t
   ·subst h;simp[uq]
   ·simp[uq,h,ih]
theorem am7 (ts:List (Nat×Slot))(bs:List (Nat×Box))(t:Nat)(s:Slot):(fH.of ts bs).put t s=fH.of ((t,s)::ts) bs:=by
 apply fH.ext'
 ·funext t';rw[KT,fH.Xl,KT,BF];by_cases h:t'=t
  ·simp[h]
  ·rw[ahk h,ahk (λe=>h e.symm)]
 ·funext b;rw[fH.ane,Ff,Ff]
def setB : List (Nat×Box)->Nat->Box->List (Nat×Box)
 |[],b,x=>[(b,x)]
 |(b',y)::r,b,x=>if b'=b then(b,x)::r else(b',y)::setB r b x
theorem adR (bs:List (Nat×Box))(b b':Nat)(x:Box):uq (setB bs b x) b'=if b'=b then x else uq bs b':=by
 induction bs with
 | nil => simp only[setB,uq];by_cases h:b=b'
          ·simp[h]
          ·rw[ahk h,ahk (λe=>h e.symm)]
 | cons p r ih=>
   obtain⟨c,y⟩:=p;simp only[setB];by_cases h:c=b
   ·subst h;simp only[amB,uq];by_cases h':c=b'
    ·simp[h']
    ·rw[ahk h',ahk h',ahk (λe=>h' e.symm)]
   ·rw[ahk h];simp only[uq,ih];by_cases h':c=b'
    ·subst h';simp[h]
    ·simp[h']
theorem alf (ts:List (Nat×Slot))(bs:List (Nat×Box))(b:Nat)(x:Box):(fH.of ts bs).zH b x=fH.of ts (setB bs b x):=by
 apply fH.ext'
 ·funext t;rw[fH.als,KT,KT]
 ·funext b';rw[fH.sJ,Ff,Ff,adR]
def abw (ts:List (Nat×Slot)):List Nat->List (Nat×Slot)
 |[]=>[]
 |t::r=>(t,BF ts t)::abw ts r
theorem ale (ts:List (Nat×Slot))(bs:List (Nat×Box))(l:List Nat):(fH.of ts bs).keep l=fH.of (abw ts l) bs:=by
 apply fH.ext'
 ·funext t
  simp only[fH.keep];rw[KT,KT]
  induction l with
  |nil=>rfl
  | cons a r ih=>
    simp only[abw,BF];by_cases h:a=t
    ·subst h;simp
    ·rw[ahk h,<- ih];have h':¬t=a:=λe=>h e.symm;simp[h']
 ·funext b;simp only[fH.keep];rw[Ff,Ff]
theorem agH (st:fH)(s:Slot):st.A8 none s=st:=rfl
theorem agI (st:fH)(t:Nat)(s:Slot):st.A8 (some t) s=st.put t s:=rfl
theorem agV (st:fH):st.uN []=st:=rfl
theorem aeg (st:fH)(b:Nat)(x:Box)(r:List (Nat×Box)):st.uN ((b,x)::r)=(st.zH b x).uN r:=rfl
theorem apm (tm:Nat->Slot)(s:Nat):(oW.t s).ev tm=tm s:=rfl
theorem apl (tm:Nat->Slot)(x:AC):(oW.k x).ev tm = .v true (.one x):=rfl
theorem g_v (g:Bool)(x:AV):(Slot.v g x).g=g:=rfl
theorem x_v (g:Bool)(x:AV):(Slot.v g x).x=x:=rfl
section
inductive bU where
 |skip
 |reg (ops:List kX) (keep:List Nat)
 |sH (ops:List (kX×List Nat)) (keep:List Nat)
 |seq (a b:bU)
 |cut (a b:bU)
 |cond (c:oW) (a b:bU)
 |block (id:Nat) (a:bU)
 |loop (a:bU)
 |exit (id:Nat)
 |ret
 deriving Inhabited
inductive wX where
 |normal
 |exit (id:Nat)
 |ret
abbrev AQ :=wX->fH->Prop
def wX.then (next:fH->Prop)(Q:AQ):AQ
 |.normal,st=>next st
 |.exit id,st=>Q (.exit id) st
 |.ret,st=>Q .ret st
def wX.inBlock (id:Nat)(Q:AQ):AQ
 |.exit id',st=>if id'=id then Q .normal st else Q (.exit id') st
 |.normal,st=>Q .normal st
 |.ret,st=>Q .ret st
def anV (body:AQ->fH->Prop)(Q:AQ)(st:fH):Prop:=
 ∃ (X:Type) (J:X->Prop) (S:X->fH) (μ:X->Nat),(∃x,J x/\Ph 10 st (S x)) /\
   ∀x,J x->body (wX.then (λst'=>∃x',(J x'/\μ x'<μ x)/\Ph 10 st' (S x')) Q) (S x)
def apd (wa:AQ->fH->Prop)(wb:AQ->fH->Prop)(Q:AQ)(st:fH):Prop:=
 ∃(X:Type) (J:X->Prop) (S:X->fH),wa (wX.then (λst'=>∃x,J x/\Ph 10 st' (S x)) Q) st/\∀x,J x->wb Q (S x)
def Lm (body:AQ->fH->Prop)(Q:AQ)(st:fH)(_:DU body)(_:DU Q):Prop:=anV body Q st
def QB (wa wb:AQ->fH->Prop)(Q:AQ)(st:fH)(_:DU wa)(_:DU wb)(_:DU Q):Prop:=apd wa wb Q st
def wpC (P:Program):bU->AQ->fH->Prop
 |.skip,Q,st=>Q .normal st
 |.reg ops keep,Q,st=>wpOps P ops st λst=>Q .normal (st.keep keep)
 |.sH ops keep,Q,st=>wpD P ops 0 [] st λst=>Q .normal (st.keep keep)
 |.seq a b,Q,st=>wpC P a (wX.then (wpC P b Q) Q) st
 |.cut a b,Q,st=>QB (wpC P a) (wpC P b) Q st .mk .mk .mk
 | .cond c a b,Q,st=>(c.ev st.tm).g=true/\match(c.ev st.tm).x with
   |.one (.c (.lit (.bool t)))=>(t=true->wpC P a Q st)/\(t=false->wpC P b Q st)
   |_=>False
 |.block id a,Q,st=>wpC P a (wX.inBlock id Q) st
 |.loop a,Q,st=>Lm (wpC P a) Q st .mk .mk
 |.exit id,Q,st=>Q (.exit id) st
 |.ret,Q,st=>Q .ret st
def uO (P:Program)(n m:Nat):Code->bU->Bool
 |.skip,.skip=>true
 |.region _ ops false,.reg xs _=>Td P n m ops ops.toList xs
 |.region _ ops true,.sH xs _=>QN P n m ops xs&&P.follows .mixedOrders
 |.seq a b,.seq x y=>uO P n m a x&&uO P n m b y
 |.seq a b,.cut x y=>uO P n m a x&&uO P n m b y
 |.cond c a b,.cond d x y=>kW n c d&&uO P n m a x&&uO P n m b y
 |.block i a,.block j x=>i==j&&uO P n m a x
 |.loop a,.loop x=>uO P n m a x
 |.exit i,.exit j=>i==j
 |.ret,.ret=>true
 |_,_=>false
section
variable {P:Program} {E:Env P} {n:Nat}
def CQ (E:Env P)(n:Nat)(Q:AQ):Exit->Act->World->Prop
 |.normal,a,w=>AK E n (Q .normal) a w
 |.exit id,a,w=>AK E n (Q (.exit id)) a w
 |.ret,a,w=>AK E n (Q .ret) a w
 |_,_,_=>False
theorem Y1 {Q:AQ}{next:fH->Prop}{nx:Act->World->Prop}(h:∀a w,AK E n next a w->nx a w)(e:Exit)(a:Act)(w:World)(hq:CQ E n (wX.then next Q) e a w):Exit.then nx (CQ E n Q) e a w:=by
 cases e with
 |normal=>exact h a w hq
 |exit id=>exact hq
 |ret=>exact hq
 |goto l=>exact hq
 |panic c=>exact hq
 |outgrown=>exact hq
theorem acO {Q:AQ}{id:Nat}(e:Exit)(a:Act)(w:World)(hq:CQ E n (wX.inBlock id Q) e a w):zn id (CQ E n Q) e a w:=by
 cases e with
 |normal=>exact hq
 | exit id'=>
   simp only[zn];by_cases h:id'=id
   ·rw[ahl h];exact AK.imp (λst (hs:wX.inBlock id Q (.exit id') st)=>by simp only[wX.inBlock,ahl h]at hs;exact hs) hq
   ·rw[ahk h];exact AK.imp (λst (hs:wX.inBlock id Q (.exit id') st)=>by simp only[wX.inBlock,ahk h]at hs;exact hs) hq
 |ret=>exact hq
 |goto l=>exact hq
 |panic c=>exact hq
 |outgrown=>exact hq
theorem GX.keep {I:IH}{ρ:Ren}{st:fH}{a:Act}{w:World}(h:GX E I ρ n st a w)(ts:List Nat):GX E I ρ n (st.keep ts) a w:=
 have ht:∀t,t<n->XV I ρ (a.tmps.getD t undef) ((st.keep ts).tm t):=λt ht=>by
  simp only[fH.keep];split
  ·exact h.tm t ht
  ·trivial
 { h with tm:=ht,bx:=h.bx,agree:=h.agree,size:=h.size,defers:=h.defers,Be:=h.Be,own:=h.own }
theorem J9 {Q:Exit->Act->World->Prop}{a:Act}{w:World}{c:Code}(Inv:Nat->Act->World->Prop)(h0:∃k,Inv k a w)
 (round:∀k a w,Inv k a w->c.wp P (Exit.then (λa' w'=>∃k',k'<k/\Inv k' a' w') Q) a w):(Code.loop c).wp P Q a w:=by
 have hmin:∀a w,(∃k,Inv k a w)->∃k,Inv k a w/\∀j,j<k->¬Inv j a w:=by
  intro a w ⟨k,hk⟩
  induction k using Nat.strongRecOn with
  | _ k ih=>
    by_cases h:∃j,j<k/\Inv j a w
    ·obtain⟨j,hj,hi⟩:=h;exact ih j hj hi
    ·exact⟨k,hk,λj hj hi=>h ⟨j,hj,hi⟩⟩
 let μ:Act->World->Nat:=λa w=>open Classical in if h:∃k,Inv k a w then(hmin a w h).choose else 0
 have hμ:∀a w,(∃k,Inv k a w)->Inv (μ a w) a w/\∀j,Inv j a w->μ a w<=j:=by intro a w h;have hs:=(hmin a w h).choose_spec;simp only[μ,dif_pos h];exact⟨hs.1,λj hj=>Nat.le_of_not_lt λhlt=>hs.2 j hlt hj⟩
 refine wp_loop (λa w=>∃k,Inv k a w) μ h0 λa w h=>?_;refine wp_mono (round _ a w (hμ a w h).1) λe a' w' hq=>?_;cases e with
 | normal=>obtain⟨k',hlt,hk⟩:=hq;exact⟨⟨k',hk⟩,Nat.lt_of_le_of_lt ((hμ a' w' ⟨k',hk⟩).2 k' hk) hlt⟩
 |exit id=>exact hq
 |ret=>exact hq
 |goto l=>exact hq
 |panic c=>exact hq
 |outgrown=>exact hq
theorem yP (hm:E.m<=10):∀{ac:bU} {c:Code} {Q:AQ} {a:Act} {w:World},uO P n E.m c ac=true->AK E n (wpC P ac Q) a w->c.wp P (CQ E n Q) a w
 | .skip,c,Q,a,w,hc,h=>by
   unfold uO at hc;split at hc<;>first|contradiction|skip
   exact wp_skip h
 | .reg xs keep,c,Q,a,w,hc,h=>by
   unfold uO at hc;split at hc<;>first|contradiction|skip
   rename_i heq;cases heq;refine wp_region_list (Xn hm hc h λa w hk=>?_);obtain⟨I,ρ,st,hk,hg⟩:=hk;exact⟨I,ρ,_,hk,hg.keep keep⟩
 | .sH xs keep,c,Q,a,w,hc,h=>by
   unfold uO at hc;split at hc<;>first|contradiction|skip
   rename_i heq;cases heq;simp only[ah]at hc;refine aeb hm hc.2 hc.1 (λa w hk=>?_) h;obtain⟨I,ρ,st,hk,hg⟩:=hk;exact⟨I,ρ,_,hk,hg.keep keep⟩
 | .seq x y,c,Q,a,w,hc,h=>by
   unfold uO at hc;split at hc<;>first|contradiction|skip
   rename_i heq;cases heq;simp only[ah]at hc;exact wp_seq (wp_mono (yP hm hc.1 h) (Y1 λa w hk=>yP hm hc.2 hk))
 | .cut x y,c,Q,a,w,hc,h=>by
   unfold uO at hc;split at hc<;>first|contradiction|skip
   rename_i heq;cases heq;simp only[ah]at hc;obtain⟨I,ρ,st,⟨X,J,S,h1,h2⟩,hg⟩:=h;refine wp_seq (wp_mono (yP hm hc.1 ⟨I,ρ,st,h1,hg⟩) (Y1 λa w hk=>?_));obtain⟨x,hj,I',ρ',st',rfl,hg'⟩:=AK.weak hm (λst h=>h) hk;exact yP hm hc.2 ⟨I',ρ',_,h2 x hj,hg'⟩
 | .cond d x y,c,Q,a,w,hc,h=>by
   unfold uO at hc;split at hc<;>first|contradiction|skip
   rename_i heq;cases heq;simp only[ah]at hc;obtain⟨I,ρ,st,⟨h1,h2⟩,hg⟩:=h;have hv:=nV hg hc.1.1 h1;unfold dZ at hv;split at h2
   ·rename_i t ht;rw[ht]at hv;exact wp_cond_split (LG hv) (λe=>yP hm hc.1.2 ⟨I,ρ,st,h2.1 e,hg⟩) (λe=>yP hm hc.2 ⟨I,ρ,st,h2.2 e,hg⟩)
   ·exact h2.elim
 | .block id x,c,Q,a,w,hc,h=>by
   unfold uO at hc;split at hc<;>first|contradiction|skip
   rename_i heq;cases heq;simp only[ah,akg]at hc;obtain⟨rfl,hc⟩:=hc;exact wp_block (wp_mono (yP hm hc h) acO)
 | .loop x,c,Q,a,w,hc,h=>by
   unfold uO at hc;split at hc<;>first|contradiction|skip
   rename_i heq;cases heq;obtain⟨I,ρ,st,⟨X,J,S,μ,⟨x0,hj0,hw0⟩,hr⟩,hg⟩:=h;refine J9 (λk a w=>∃x,J x/\μ x=k/\AK E n (λst=>st=S x) a w) ?_ ?_
   ·obtain⟨I',ρ',hg'⟩:=Qs hg hm hw0;exact⟨_,x0,hj0,rfl,I',ρ',_,rfl,hg'⟩
   ·rintro k a w ⟨x,hj,rfl,I,ρ,st,rfl,hg⟩;refine wp_mono (yP hm hc ⟨I,ρ,_,hr x hj,hg⟩) (Y1 λa w hk=>?_);obtain⟨x',⟨hj',hlt⟩,hk'⟩:=AK.weak (J:=λx'=>J x'/\μ x'<μ x) hm (λst h=>h) hk;exact⟨_,hlt,x',hj',rfl,hk'⟩
 | .exit id,c,Q,a,w,hc,h=>by
   unfold uO at hc;split at hc<;>first|contradiction|skip
   rename_i heq;cases heq;simp only[akg]at hc;subst hc;exact wp_exit h
 | .ret,c,Q,a,w,hc,h=>by
   unfold uO at hc;split at hc<;>first|contradiction|skip
   exact wp_ret h
end
end
section
def Ref.rn (ρ:Nat->Nat)(r:Ref):Ref:=⟨r.off,r.ty,ρ r.m⟩
def OF.rn (ρ:Nat->Nat):OF->OF
 |.ref t r=>.ref t (r.rn ρ)
 |.EO t i r=>.EO t i (r.rn ρ)
 |.row b r=>.row b (r.rn ρ)
 |f=>f
def rnP (dp:Nat)(ρ:Nat->Nat):yE->yE
 |.tag d m=>if d=dp then .tag d (ρ m)else .tag d m
 |p=>p
def Own.rn (g:Own)(dp:Nat)(ρ:Nat->Nat):Own:=⟨λk=>match g k with
 |some (.arr T p)=>some (.arr T (rnP dp ρ p))
 |some (.var row d b)=>some (.var (if d=dp then row.map (Ref.rn ρ)else row) d b)
 |none=>none,g.bd⟩
theorem YU {g:Own}{dp k:Nat}{ρ:Nat->Nat} : (g.rn dp ρ) k=match g k with
 |some (.arr T p)=>some (.arr T (rnP dp ρ p))
 |some (.var row d b)=>some (.var (if d=dp then row.map (Ref.rn ρ)else row) d b)
 |none=>none:=rfl
def OF.loc : OF->Nat
 |.row b r=>100000+b*100+r.off
 |.ref t r=>200000+t*100+r.off
 |.EO t i r=>300000+t*1000+i*100+r.off
 |_=>0
def ahJ (Γ : List OF)(m:Nat):Nat:= Γ.foldl (λx f=>match f.anp with|some m'=>if Nat.beq m' m&&Nat.ble f.loc x then f.loc else x|none=>x) 1000000
def canon (Γ : List OF):List OF:= Γ.map (OF.rn (ahJ Γ))
section
variable {P:Program} {F:Ut} {g:Own} {dp N:Nat} {Γ : List OF} {a:Act} {w:World}
theorem GR.rn {u:Value}{T:Nat}{p:yE}(h:GR g u T p)(ρ:Nat->Nat):GR (g.rn dp ρ) u T (rnP dp ρ p):=by
 rcases h with h|⟨k,n,c,h1,h2⟩
 ·exact .inl h
 ·exact .inr ⟨k,n,c,h1,by rw[YU,h2.1],h2.2⟩
theorem GR.rnT {u:Value}{T m:Nat}(h:GR g u T (.tag dp m))(ρ:Nat->Nat):GR (g.rn dp ρ) u T (.tag dp (ρ m)):=by have:=h.rn (dp:=dp) ρ;simpa[rnP]using this
theorem aed {ρ:Nat->Nat}{k T:Nat}{p:yE}(h:g.rn dp ρ k=some (.arr T p)):∃q,g k=some (.arr T q)/\p=rnP dp ρ q:=by
 rw[YU]at h;split at h
 ·rename_i T0 q h0;cases h;exact⟨q,h0,rfl⟩
 ·cases h
 ·cases h
theorem aee {ρ:Nat->Nat}{k d b:Nat}{row:List Ref}(h:g.rn dp ρ k=some (.var row d b)):∃row0,g k=some (.var row0 d b)/\row=if d=dp then row0.map (Ref.rn ρ)else row0:=by
 rw[YU]at h;split at h
 ·cases h
 ·rename_i row0 d0 b0 h0;cases h;exact⟨row0,h0,rfl⟩
 ·cases h
theorem Good.rn (h:Good P g w)(ρ:Nat->Nat):Good P (g.rn dp ρ) w:=by
 refine⟨λk T p hk=>?_,λk row d b hk=>?_⟩
 ·obtain⟨q,h1,rfl⟩:=aed hk;obtain⟨cs,e,hw,hc⟩:=h.arr k T q h1;exact⟨cs,e,hw,λj u T' hb hu ht=>(hc j u T' hb hu ht).rn ρ⟩
 ·obtain⟨row0,h1,rfl⟩:=aee hk;obtain⟨cs,e,hw,hc⟩:=h.var k row0 d b h1;refine⟨cs,e,hw,λr hr=>?_⟩;by_cases hd:d=dp
  ·subst hd;rw[ahl rfl,aS]at hr;obtain⟨r0,hr0,rfl⟩:=hr;obtain⟨u,hu,hg⟩:=hc r0 hr0;exact⟨u,hu,hg.rnT ρ⟩
  ·rw[ahk hd]at hr;obtain⟨u,hu,hg⟩:=hc r hr;have:=hg.rn (dp:=dp) ρ;simp only[rnP,ahk hd]at this;exact⟨u,hu,this⟩
theorem FI.rn {f:OF}(h:FI P F g dp a w f)(ρ:Nat->Nat):FI P F (g.rn dp ρ) dp a w (f.rn ρ):=by
 have old:∀{k T:Nat} {X:Prop},(∀B,g k=some B->(∃p,B = .arr T p)/\X)->∀B,g.rn dp ρ k=some B->(∃p,B = .arr T p)/\X:=by
  intro k T X hold B hB;cases B with
  | arr T' p=>obtain⟨q,h1,rfl⟩:=aed hB;obtain⟨⟨p',e⟩,hx⟩:=hold _ h1;cases e;exact⟨⟨_,rfl⟩,hx⟩
  | var row d b=>obtain⟨row0,h1,_⟩:=aee hB;obtain⟨⟨p',e⟩,_⟩:=hold _ h1;cases e
 have vv:∀{k row b},g k=some (.var row dp b)->g.rn dp ρ k=some (.var (row.map (Ref.rn ρ)) dp b):=λh1=>by rw[YU,h1];simp
 cases f with
 | sr t T=>
   rcases h with h|⟨k,o,n,c,h1,h2,h3⟩
   ·exact .inl h
   ·exact .inr ⟨k,o,n,c,h1,h2,old h3⟩
 |ep t T off=>obtain⟨k,o,h1,h2,h3⟩:=h;exact⟨k,o,h1,h2,old h3⟩
 |vp t b off=>obtain⟨k,row,h1,h2,h3⟩:=h;exact⟨k,_,h1,h2,vv h3⟩
 |ref t r=>obtain⟨u,h1,h2⟩:=h;exact⟨u,h1,h2.rnT ρ⟩
 |EO t i r=>obtain⟨vs,x,u,h1,h2,h3,h4⟩:=h;exact⟨vs,x,u,h1,h2,h3,h4.rnT ρ⟩
 |row b r=>obtain⟨k,row,h1,h2,h3⟩:=h;exact⟨k,_,h1,vv h2,aS.2 ⟨r,h3,rfl⟩⟩
 |fn t s=>exact h
theorem Rel.rn (ρ:Nat->Nat):Rel dp N g (g.rn dp ρ):=by
 refine⟨λk T d m hd hk=>?_,λk row d b hd hk=>?_,λk B' _ hB=>?_⟩
 ·rw[YU,hk];simp only[rnP];rw[ahk (by omega)];exact⟨rfl,rfl⟩
 ·rw[YU,hk];simp only;rw[ahk (by omega)]
 ·cases B' with
  | arr T p=>obtain⟨q,h1,_⟩:=aed hB;exact⟨_,h1,λT' p' hb=>by rcases hb with e|e<;>cases e<;>exact⟨_,_,rfl,rfl⟩⟩
  | var row d b=>obtain⟨row0,h1,_⟩:=aee hB;exact⟨_,h1,λT' p' hb=>by rcases hb with e|e<;>cases e⟩
theorem LY.canon {E:Env P}{g0:Own}(h:LY E g0 dp Γ a w):LY E g0 dp (canon Γ) a w:=by obtain⟨g,h1,h2⟩:=h;refine⟨g.rn dp (ahJ Γ),h1.trans (Rel.rn _),h2.good.rn _,λf hf=>?_⟩;rw[Ab.canon,aS]at hf;obtain⟨f0,h3,rfl⟩:=hf;exact(h2.fs f0 h3).rn _
end
abbrev OX :=Option (List OF)×List (Nat×List OF)
def aiG (ts:List Nat)(Γ : List OF):List OF:= Γ.filter λf=>f.afj.all ts.contains
def aeX : Option (List OF)->Option (List OF)->Option (List OF)
 |none,x=>x
 |x,none=>x
 |some a,some b=>some (a.filter b.contains)
def Vr (id:Nat)(l:List (Nat×List OF)):Option (List OF):=match(l.filter λe=>e.1==id).map (·.2)with
 |[]=>none
 |Gs=>some (ae0 Gs)
def alr (f g:List OF->Option OX)(Γ : List OF):Option OX:=match f Γ with
 |some (none,x1)=>some (none,x1)
 | some (some MX,x1)=>(match g MX with
   |some (n2,x2)=>some (n2,x1++x2)
   |none=>none)
 |none=>none
def alM (f g:List OF->Option OX)(Γ : List OF):Option OX:=match f Γ,g Γ with
 |some (n1,x1),some (n2,x2)=>some (aeX n1 n2,x1++x2)
 |_,_=>none
def ahC (i:Nat)(f:List OF->Option OX)(Γ : List OF):Option OX:=match f Γ with
 |some (n1,x1)=>some (aeX n1 (Vr i x1),x1)
 |none=>none
def aeW (f:List OF->Option OX):Nat->List OF->Option OX
 |0,_=>none
 | k+1,Γ =>match f Γ with
   |some (none,x1)=>some (none,x1)
   |some (some MX,x1)=>if Γ.all MX.contains then some (none,x1)else aeW f k (Γ.filter MX.contains)
   |none=>none
def oC (P:Program)(pl:List Nat)(rk:List OF->Bool):Code->bU->List OF->Option OX
 |.skip,.skip=>fun Γ =>some (some Γ,[])
 |.region _ ops false,.reg xs keep=>fun Γ =>(abV P pl ops.toList xs Γ).bind λCX=>WI (canon (aiG (pl++keep) CX)) λG=>some (some G,[])
 |.region _ ops true,.sH xs keep=>fun Γ =>(anl P pl keep ops (items xs 0) Γ).bind λCX=>WI (canon (aiG (pl++keep) CX)) λG=>some (some G,[])
 |.seq a b,.seq x y=>alr (oC P pl rk a x) (oC P pl rk b y)
 |.seq a b,.cut x y=>alr (oC P pl rk a x) (oC P pl rk b y)
 |.cond _ a b,.cond _ x y=>alM (oC P pl rk a x) (oC P pl rk b y)
 |.block i a,.block _ x=>ahC i (oC P pl rk a x)
 |.loop a,.loop x=>aeW (oC P pl rk a x) 5
 |.exit i,.exit _=>fun Γ =>some (none,[(i,Γ)])
 |.ret,.ret=>fun Γ =>if rk Γ then some (none,[])else none
 |_,_=>λ_=>none
section
variable {P:Program} {E:Env P} {n:Nat} {g0:Own} {dp:Nat} {pa:List (Nat×Value)} {pl:List Nat} {rk:List OF->Bool}
theorem aeY {a b:Option (List OF)}{Γ : List OF}(h:a=some Γ):∃M,aeX a b=some M/\∀f,f∈M->f ∈ Γ :=by
 subst h;cases b with
 |none=>exact⟨Γ,rfl,λf hf=>hf⟩
 |some B=>exact⟨_,rfl,λf hf=>(aX.1 hf).1⟩
theorem aeZ {a b:Option (List OF)}{Γ : List OF}(h:b=some Γ):∃M,aeX a b=some M/\∀f,f∈M->f ∈ Γ :=by
 subst h;cases a with
 |none=>exact⟨Γ,rfl,λf hf=>hf⟩
 |some A=>exact⟨_,rfl,λf hf=>kE.1 (aX.1 hf).2⟩
theorem aa3 {id:Nat}{l:List (Nat×List OF)}{Γ : List OF}(h:(id,Γ)∈l):∃M,Vr id l=some M/\∀f,f∈M->f ∈ Γ :=by
 have hm : Γ ∈ (l.filter λe=>e.1==id).map (·.2):=aS.2 ⟨_,aX.2 ⟨h,by simp⟩,rfl⟩;unfold Vr;split
 ·rename_i e;rw[e]at hm;cases hm
 ·exact⟨_,rfl,λf hf=>TP hf hm⟩
def CQO (E:Env P)(g0:Own)(pa:List (Nat×Value))(dp n:Nat)(rk:List OF->Bool)(Q:AQ)(r:OX):Exit->Act->World->Prop
 |.normal,a,w=>∃ Γ,r.1=some Γ /\ AO E g0 pa dp n (Q .normal) Γ a w
 |.exit id,a,w=>∃ Γ,(id,Γ)∈r.2/\AO E g0 pa dp n (Q (.exit id)) Γ a w
 |.ret,a,w=>∃ Γ,rk Γ = true/\AO E g0 pa dp n (Q .ret) Γ a w
 |_,_,_=>False
theorem CQO.mono {Q Q':AQ}{r r':OX}(hn:∀ Γ a w,r.1=some Γ -> AO E g0 pa dp n (Q .normal) Γ a w->∃CX,r'.1=some CX/\AO E g0 pa dp n (Q' .normal) CX a w)(hx:∀e,e∈r.2->e∈r'.2)(hq:∀id st,Q (.exit id) st->Q' (.exit id) st)(hr:∀st,Q .ret st->Q' .ret st)(e:Exit)(a:Act)(w:World)(h:CQO E g0 pa dp n rk Q r e a w):CQO E g0 pa dp n rk Q' r' e a w:=by
 cases e with
 |normal=>obtain⟨Γ,h1,h2⟩:=h;exact hn Γ a w h1 h2
 |exit id=>obtain⟨Γ,h1,h2⟩:=h;exact⟨Γ,hx _ h1,h2.imp (hq id) λ_ h=>h⟩
 |ret=>obtain⟨Γ,h1,h2⟩:=h;exact⟨Γ,h1,h2.imp hr λ_ h=>h⟩
 |goto l=>exact h
 |panic c=>exact h
 |outgrown=>exact h
theorem AO.keep {K:fH->Prop}{Γ : List OF}{a:Act}{w:World}{ts us:List Nat}(h:AO E g0 pa dp n (λst=>K (st.keep ts)) Γ a w):AO E g0 pa dp n K (canon (aiG us Γ)) a w:=by obtain⟨⟨⟨I,ρ,st,hk,hg⟩,Nh⟩,hpa⟩:=h;exact⟨⟨⟨I,ρ,_,hk,hg.keep ts⟩,(Nh.weak λf hf=>(aX.1 hf).1).canon⟩,hpa⟩
theorem xH (hm:E.m<=10)(hpl:∀e,e∈pa->e.1∈pl):∀{ac:bU} {c:Code} {Q:AQ} {Γ : List OF} {r:OX} {a:Act} {w:World},uO P n E.m c ac=true->oC P pl rk c ac Γ = some r->AO E g0 pa dp n (wpC P ac Q) Γ a w->c.wp P (CQO E g0 pa dp n rk Q r) a w
 | .skip,c,Q,Γ,r,a,w,hc,ho,h=>by
   unfold uO at hc;split at hc<;>first|contradiction|skip
   simp only[oC]at ho;cases ho;exact wp_skip ⟨Γ,rfl,h⟩
 | .reg xs keep,c,Q,Γ,r,a,w,hc,ho,h=>by
   unfold uO at hc;split at hc<;>first|contradiction|skip
   rename_i heq;cases heq;simp only[oC,yl,Tq]at ho;obtain⟨CX,h1,h2⟩:=ho;cases h2;exact wp_region_list (UQ hm hpl hc h1 h λa w hk=>⟨_,rfl,hk.keep⟩)
 | .sH xs keep,c,Q,Γ,r,a,w,hc,ho,h=>by
   unfold uO at hc;split at hc<;>first|contradiction|skip
   rename_i heq;cases heq;simp only[ah]at hc;simp only[oC,yl,Tq]at ho;obtain⟨CX,h1,h2⟩:=ho;cases h2;exact acd hm hpl hc.2 hc.1 h1 (λa w hk=>⟨_,rfl,hk.keep⟩) h
 | .seq x y,c,Q,Γ,r,a,w,hc,ho,h=>by
   unfold uO at hc;split at hc<;>first|contradiction|skip
   rename_i heq;cases heq;simp only[ah]at hc;simp only[oC,alr]at ho;refine wp_seq ?_;split at ho
   ·rename_i x1 h1;cases ho;refine wp_mono (xH hm hpl hc.1 h1 h) λe a w hq=>?_;cases e with
    |normal=>obtain⟨_,h2,_⟩:=hq;cases h2
    |exit id=>exact hq
    |ret=>exact hq
    |goto l=>exact hq
    |panic c=>exact hq
    |outgrown=>exact hq
   ·rename_i MX x1 h1;split at ho
    ·rename_i n2 x2 h2;cases ho;refine wp_mono (xH hm hpl hc.1 h1 h) λe a w hq=>?_;cases e with
     | normal=>obtain⟨_,h3,h4⟩:=hq;cases h3;refine wp_mono (xH hm hpl hc.2 h2 h4) λe a w hq=>CQO.mono (r:=(n2,x2)) (r':=(n2,x1++x2)) (Q':=Q) (fun Γ a w h5 h6=>⟨Γ,h5,h6⟩) (λe he=>dQ _ he) (λ_ _ h=>h) (λ_ h=>h) e a w hq
     |exit id=>obtain⟨CX,h3,h4⟩:=hq;exact⟨CX,dh _ h3,h4⟩
     |ret=>exact hq
     |goto l=>exact hq
     |panic c=>exact hq
     |outgrown=>exact hq
    ·cases ho
   ·cases ho
 | .cut x y,c,Q,Γ,r,a,w,hc,ho,h=>by
   unfold uO at hc;split at hc<;>first|contradiction|skip
   rename_i heq;cases heq;simp only[ah]at hc;simp only[oC,alr]at ho;obtain⟨⟨⟨I,ρ,st,⟨X,J,S,hw1,hw2⟩,hg⟩,Nh⟩,hpa⟩:=h;refine wp_seq ?_;split at ho
   ·rename_i x1 h1;cases ho;refine wp_mono (xH hm hpl hc.1 h1 ⟨⟨⟨I,ρ,st,hw1,hg⟩,Nh⟩,hpa⟩) λe a w hq=>?_;cases e with
    |normal=>obtain⟨_,h2,_⟩:=hq;cases h2
    |exit id=>exact hq
    |ret=>exact hq
    |goto l=>exact hq
    |panic c=>exact hq
    |outgrown=>exact hq
   ·rename_i MX x1 h1;split at ho
    ·rename_i n2 x2 h2;cases ho;refine wp_mono (xH hm hpl hc.1 h1 ⟨⟨⟨I,ρ,st,hw1,hg⟩,Nh⟩,hpa⟩) λe a w hq=>?_;cases e with
     | normal=>obtain⟨_,h3,⟨h4,apB⟩,apE⟩:=hq;cases h3;obtain⟨x,hj,I',ρ',st',rfl,hg'⟩:=AK.weak hm (λst h=>h) h4;refine wp_mono (xH hm hpl hc.2 h2 ⟨⟨⟨I',ρ',_,hw2 x hj,hg'⟩,apB⟩,apE⟩) λe a w hq=>CQO.mono (r:=(n2,x2)) (r':=(n2,x1++x2)) (Q':=Q) (fun Γ a w h5 h6=>⟨Γ,h5,h6⟩) (λe he=>dQ _ he) (λ_ _ h=>h) (λ_ h=>h) e a w hq
     |exit id=>obtain⟨CX,h3,h4⟩:=hq;exact⟨CX,dh _ h3,h4⟩
     |ret=>exact hq
     |goto l=>exact hq
     |panic c=>exact hq
     |outgrown=>exact hq
    ·cases ho
   ·cases ho
 | .cond d x y,c,Q,Γ,r,a,w,hc,ho,h=>by
   unfold uO at hc;split at hc<;>first|contradiction|skip
   rename_i heq;cases heq;simp only[ah]at hc;simp only[oC,alM]at ho;split at ho
   ·rename_i n1 x1 n2 x2 h1 h2;cases ho;obtain⟨⟨⟨I,ρ,st,⟨hv1,hv2⟩,hg⟩,Nh⟩,hpa⟩:=h;have hv:=nV hg hc.1.1 hv1;unfold dZ at hv;split at hv2
    ·rename_i t ht;rw[ht]at hv;refine wp_cond_split (LG hv) (λe=>?_) (λe=>?_)
     ·refine wp_mono (xH hm hpl hc.1.2 h1 ⟨⟨⟨I,ρ,st,hv2.1 e,hg⟩,Nh⟩,hpa⟩) λe a w hq=>CQO.mono (fun Γ a w h5 h6=>?_) (λe he=>dh _ he) (λ_ _ h=>h) (λ_ h=>h) e a w hq;obtain⟨M,h7,h8⟩:=aeY (b:=n2) h5;exact⟨M,h7,h6.imp (λ_ h=>h) h8⟩
     ·refine wp_mono (xH hm hpl hc.2 h2 ⟨⟨⟨I,ρ,st,hv2.2 e,hg⟩,Nh⟩,hpa⟩) λe a w hq=>CQO.mono (fun Γ a w h5 h6=>?_) (λe he=>dQ _ he) (λ_ _ h=>h) (λ_ h=>h) e a w hq;obtain⟨M,h7,h8⟩:=aeZ (a:=n1) h5;exact⟨M,h7,h6.imp (λ_ h=>h) h8⟩
    ·exact hv2.elim
   ·cases ho
 | .block id x,c,Q,Γ,r,a,w,hc,ho,h=>by
   unfold uO at hc;split at hc<;>first|contradiction|skip
   rename_i heq;cases heq;simp only[ah,akg]at hc;obtain⟨rfl,hc⟩:=hc;simp only[oC,ahC]at ho;split at ho
   ·rename_i n1 x1 h1;cases ho;refine wp_block (wp_mono (xH hm hpl hc h1 h) λe a w hq=>?_);cases e with
    | normal=>obtain⟨CX,h2,h3⟩:=hq;obtain⟨M,h7,h8⟩:=aeY (b:=Vr _ x1) h2;exact⟨M,h7,h3.imp (λ_ h=>h) h8⟩
    | exit id'=>
      obtain⟨CX,h2,h3⟩:=hq;simp only[zn];split
      ·rename_i e;subst e;obtain⟨M0,h4,h5⟩:=aa3 h2;obtain⟨M,h7,h8⟩:=aeZ (a:=n1) h4;exact⟨M,h7,h3.imp (λst (hs:wX.inBlock id' Q (.exit id') st)=>by simp only[wX.inBlock,amB]at hs;exact hs) λf hf=>h5 f (h8 f hf)⟩
      ·rename_i e;exact⟨CX,h2,h3.imp (λst hs=>by simp only[wX.inBlock,ahk e]at hs;exact hs) λf hf=>hf⟩
    |ret=>exact hq
    |goto l=>exact hq
    |panic c=>exact hq
    |outgrown=>exact hq
   ·cases ho
 | .loop x,c,Q,Γ,r,a,w,hc,ho,h=>by
   unfold uO at hc;split at hc<;>first|contradiction|skip
   rename_i heq;cases heq;rename_i cc;simp only[oC]at ho;have inv:∀(k:Nat) (Γ : List OF),aeW (oC P pl rk cc x) k Γ = some r->∃CX,(∀f,f∈CX->f ∈ Γ)/\∃n1 x1,oC P pl rk cc x CX=some (n1,x1)/\r=(none,x1)/\∀MX,n1=some MX->∀f,f∈CX->f∈MX:=by
    intro k
    induction k with
    |zero=>intro Γ h;cases h
    | succ k ih=>
      intro Γ h;simp only[aeW]at h;split at h
      ·rename_i x1 h1;cases h;exact⟨Γ,λ_ h=>h,_,_,h1,rfl,λMX e=>by cases e⟩
      ·rename_i MX x1 h1;split at h
       ·rename_i hall;cases h;exact⟨Γ,λ_ h=>h,_,_,h1,rfl,fun Γ2 e f hf=>by cases e;exact kE.1 (aP.1 hall f hf)⟩
       ·obtain⟨CX,h2,h3⟩:=ih _ h;exact⟨CX,λf hf=>(aX.1 (h2 f hf)).1,h3⟩
      ·cases h
   obtain⟨CX,hsub,n1,x1,h1,rfl,hback⟩:=inv _ _ ho;obtain⟨⟨⟨I,ρ,st,⟨X,J,S,μ,⟨x0,hj0,hw0⟩,hr⟩,hg⟩,Nh⟩,hpa⟩:=h;refine J9 (λk a w=>∃x,J x/\μ x=k/\AO E g0 pa dp n (λst=>st=S x) CX a w) ?_ ?_
   ·obtain⟨I',ρ',hg'⟩:=Qs hg hm hw0;exact⟨_,x0,hj0,rfl,⟨⟨I',ρ',_,rfl,hg'⟩,Nh.weak hsub⟩,hpa⟩
   ·rintro k a w ⟨x,hj,rfl,⟨⟨I,ρ,st,rfl,hg⟩,Nh⟩,hpa⟩;refine wp_mono (xH hm hpl hc h1 ⟨⟨⟨I,ρ,_,hr x hj,hg⟩,Nh⟩,hpa⟩) λe a w hq=>?_;cases e with
    | normal=>obtain⟨MX,h2,⟨hk,apC⟩,apF⟩:=hq;obtain⟨x',⟨hj',hlt⟩,hk'⟩:=AK.weak (J:=λx'=>J x'/\μ x'<μ x) hm (λst h=>h) hk;exact⟨_,hlt,x',hj',rfl,⟨hk',apC.weak (hback MX h2)⟩,apF⟩
    |exit id=>exact hq
    |ret=>exact hq
    |goto l=>exact hq
    |panic c=>exact hq
    |outgrown=>exact hq
 | .exit id,c,Q,Γ,r,a,w,hc,ho,h=>by
   unfold uO at hc;split at hc<;>first|contradiction|skip
   rename_i heq;cases heq;simp only[akg]at hc;subst hc;simp only[oC]at ho;cases ho;exact wp_exit ⟨Γ,aW ..,h⟩
 | .ret,c,Q,Γ,r,a,w,hc,ho,h=>by
   unfold uO at hc;split at hc<;>first|contradiction|skip
   simp only[oC]at ho;split at ho
   ·rename_i hk;exact wp_ret ⟨Γ,hk,h⟩
   ·cases ho
end
end
section
inductive yx where
 |tmp (t:Nat)
 |cell (t:Nat) (agg:Bool) (k:Nat)
 deriving Inhabited
def yx.ok (st:fH):yx->Prop
 |.tmp t=>(st.tm t).g=true
 |.cell t agg k=>(st.tm t).g=true/\(Ba agg k (st.tm t).x st.bx).vc
def yx.val (st:fH):yx->AV
 |.tmp t=>(st.tm t).x
 |.cell t agg k=>(Ba agg k (st.tm t).x st.bx).v
def Jp (st:fH):List yx->Prop
 |[]=>True
 |r::rs=>r.ok st/\(r.val st).flat/\Jp st rs
def partOf : AV->Bool×List AC
 |.one x=>(false,[x])
 |.agg xs=>(true,xs)
 |.zi _=>(false,[])
def Bi (st:fH):List yx->List (Bool×List AC)
 |[]=>[]
 |r::rs=>partOf (r.val st)::Bi st rs
def Yb (st:fH):List yx->AV
 |[r]=>r.val st
 |rs=>.zi (Bi st rs)
def MJ (rs:List yx)(m:Nat)(post:AV->List Box->Prop)(st:fH):Prop:=
 Jp st rs/\∃r bs zs π vs,post r bs/\WkS m st.bx (CO bs) zs π vs/\wkV zs st.bx π vs (Yb st rs) r
def Dv (P:Program)(n:Nat):List ResultVar->List yx->Bool
 |[],[]=>true
 |.tmp t::xs,.tmp s::ys=>t==s&&decide (t<n)&&Dv P n xs ys
 |.cell a t::xs,.cell s agg k::ys=>a==s&&decide (a<n)&&Nc P t agg k&&Dv P n xs ys
 |_,_=>false
section
variable {P:Program} {E:Env P} {I:IH} {ρ:Ren} {n:Nat} {st:fH} {a:Act} {w:World}
theorem agp {agg:Bool}{k:Nat}{p:AV}{pv:Value}{bx:Nat->Box}(hp:GV I ρ pv p)(jV:(Ba agg k p bx).vc):∃q,pv = .pointer (some q):=by
 cases p with
 | one p=>
   cases p with
   |ptr b off=>obtain⟨k,cap,_,rfl⟩:=hp;exact⟨_,rfl⟩
   |Bc b i sz off=>obtain⟨k,cap,_,rfl⟩:=hp;exact⟨_,rfl⟩
   |Gu cs=>obtain⟨q,rfl,_⟩:=hp;exact⟨_,rfl⟩
   |_=>exact jV.elim
 |_=>exact jV.elim
def U8 (tmps:Array Value)(x:ResultVar):Sem Value:=match x with
 |ResultVar.tmp t=>pure (tmps.getD t undef)
 |ResultVar.cell b t=>do loadVar t (<- asAddr (tmps.getD b undef))
theorem LZ (fn:Func)(tmps:Array Value):results fn tmps=(do
 let vs <- fn.results.mapM (U8 tmps)
 pure (if h:vs.size=1 then vs[0]else .tuple vs)):=by
 unfold results
 congr 1
theorem ace (h:GX E I ρ n st a w):∀{xs:List ResultVar} {rs:List yx},Dv P n xs rs=true->Jp st rs ->
 ∃vs:List Value,(xs.mapM (U8 a.tmps)).run P w = .ok vs w/\vs.length=rs.length/\∀(j:Nat) (v:Value) (r:yx),vs[j]? = some v->rs[j]? = some r->GV I ρ v (r.val st)
 |[],[],_,_=>⟨[],by simp,rfl,λj v r hv=>by simp at hv⟩
 | x::xs,r::rs,hc,hok=>by
   obtain⟨h1,h2,h3⟩:=hok;have key:∃v,(U8 a.tmps x).run P w = .ok v w/\GV I ρ v (r.val st)/\Dv P n xs rs=true:=by
    cases x with
    | tmp t=>
      cases r with
      | tmp s=>
        simp only[Dv,ah,akg,ahm]at hc;obtain⟨⟨rfl,hlt⟩,hc⟩:=hc;have ht:=h.tm t hlt;simp only[yx.ok]at h1;refine⟨a.tmps.getD t undef,rfl,?_,hc⟩;simp only[yx.val];cases hs:st.tm t with
        |none=>rw[hs]at h1;cases h1
        |v g x=>rw[hs]at h1 ht;exact ht.1 h1
      |cell s agg k=>simp[Dv]at hc
    | cell b t=>
      cases r with
      |tmp s=>simp[Dv]at hc
      | cell s agg k=>
        simp only[Dv,ah,akg,ahm]at hc;obtain⟨⟨⟨rfl,hlt⟩,hty⟩,hc⟩:=hc;have ht:=h.tm b hlt;obtain⟨hg,jV⟩:=h1;have hv:GV I ρ (a.tmps.getD b undef) (st.tm b).x:=by
         cases hs:st.tm b with
         |none=>rw[hs]at hg;cases hg
         |v g x=>rw[hs]at hg ht;exact ht.1 hg
        obtain⟨q,hq⟩:=agp hv jV;obtain⟨v,hrun,hgv⟩:=YF (P:=P) h hty hv jV;refine⟨v,?_,hgv,hc⟩;unfold U8;simp only[hq]at hrun⊢;simpa[Go.Instr.loadAt,Go.Instr.sureAddr,asAddr]using hrun
   obtain⟨v,hv,hg,hc'⟩:=key;obtain⟨vs,hvs,hl,hgs⟩:=ace h hc' h3;refine⟨v::vs,?_,by simp[hl],λj u r' hu hr=>?_⟩
   ·rw[Di];simp[hv,hvs]
   ·cases j with
    |zero=>simp at hu hr;subst hu;subst hr;exact hg
    |succ j=>exact hgs j u r' (by simpa using hu) (by simpa using hr)
 |[],_::_,hc,_=>by simp[Dv]at hc
 |x::_,[],hc,_=>by cases x<;>simp[Dv]at hc
end
def XJ (Γ : List OF):yx->Nat->Nat->Option Nat
 |.tmp t,o,T=>ajI Γ t o T
 | .cell t agg k,o,T=>match(Γ.filterMap (aes t)).head? with
   |some (b,o0)=>if o<(if agg then k else 1)then XK Γ b (o0+o) T else none
   |none=>none
def Lj (ps:List PK):List (Nat×List (Nat×Nat)):=(ps.zipIdx).filterMap λp=>match p.1 with
 |.var rs=>some (p.2,rs)
 |_=>none
def aoQ (Γ : List OF)(l:List (List (Nat×Nat)))(rs:List yx):Option (List (Nat×Nat)):=(SL (λp:List (Nat×Nat)×Nat=>match rs[p.2]? with
 |some x=>SL (λe:Nat×Nat=>(XJ Γ x e.1 e.2).map λm=>(m,20000+p.2*20+e.1)) p.1
 |none=>none) l.zipIdx).map Iw
def anh (Γ : List OF)(l:List (List (Nat×Nat)))(rs:List yx):Option (List (Nat×Nat)):=match l,rs with
 |[r],[x]=>SL (λe:Nat×Nat=>(XJ Γ x e.1 e.2).map λm=>(m,20000+e.1)) r
 |l,rs=>aoQ Γ l rs
def al3 (Γ : List OF)(sg:Sig)(rs:List yx):Option (List (Nat×Nat)):=
 match anh Γ sg.rs rs,(SL (λp:Nat×List (Nat×Nat)=>if Γ.contains (.vp p.1 p.1 0)then SL (λe:Nat×Nat=>(XK Γ p.1 e.1 e.2).map λm=>(m,30000+p.1*20+e.1)) p.2 else none) (Lj sg.ps)).map Iw with
 |some a,some b=>if Jk ((a++b).map (·.1))&&decide ((Lj sg.ps).length<=1)&&(sg.rs.length==rs.length)then some (a++b)else none
 |_,_=>none
def rkO (sg:Sig)(rs:List yx)(Γ : List OF):Bool:=(al3 Γ sg rs).isSome
section
variable {P:Program} {g:Own} {dp:Nat} {Γ : List OF} {a:Act} {w w':World} {v:Value}
theorem abB {f:ResultVar->Sem Value}(hf:∀x w r w',(f x).run P w = .ok r w'->w'=w):∀{xs:List ResultVar} {ws:List Value} {w w':World},(xs.mapM f).run P w = .ok ws w'->ws.length=xs.length/\w'=w/\∀(j:Nat) (x:ResultVar),xs[j]? = some x->∃y,ws[j]? = some y/\(f x).run P w = .ok y w
 | [],ws,w,w',h=>by rw[List.mapM_nil]at h;obtain⟨rfl,rfl⟩:=iU h;exact⟨rfl,rfl,λj x hx=>by simp at hx⟩
 | x::xs,ws,w,w',h=>by
   rw[Di]at h;obtain⟨y,w1,h1,h2⟩:=dL h;have:=hf _ _ _ _ h1;subst this;obtain⟨ys,w2,h3,h4⟩:=dL h2;obtain⟨rfl,rfl⟩:=iU h4;obtain⟨h5,rfl,h6⟩:=abB hf h3;refine⟨by simp[h5],rfl,λj z hz=>?_⟩;cases j with
   |zero=>simp at hz;subst hz;exact⟨y,rfl,h1⟩
   |succ j=>simpa using h6 j z (by simpa using hz)
theorem aec {tmps:Array Value}(x:ResultVar)(w:World)(r:Value)(w':World)(h:(U8 tmps x).run P w = .ok r w'):w'=w:=by
 unfold U8 at h;split at h
 ·exact(iU h).2
 ·obtain⟨p,w1,h1,h2⟩:=dL h;have:w1=w:=by
   unfold asAddr at h1;split at h1
   ·exact(iU h1).2
   ·exact(Oe h1).elim
   ·cases h1
  subst this;exact(N9 h2).1
theorem res_own {n:Nat}(h:OW P FV g dp Γ a w){fn:Func}(hr:(results fn a.tmps).run P w = .ok v w'){rs:List yx}(hc:Dv P n fn.results.toList rs=true) :
 w'=w/\∃ws:List Value,ws.length=rs.length/\((∃y,ws=[y]/\v=y)\/ws.length≠1/\v = .tuple ws.toArray) /\
  ∀(j:Nat) (x:yx) (o T m:Nat),rs[j]? = some x->XJ Γ x o T=some m->∃y u:Value,ws[j]? = some y/\y.cells[o]? = some u/\GR g u T (.tag dp m):=by
 rw[LZ]at hr;obtain⟨vs,w1,h1,h2⟩:=dL hr;rw[xk,GH]at h1;cases hq:(fn.results.toList.mapM (U8 a.tmps)).run P w with
 |halt e w2=>rw[hq]at h1;cases h1
 | ok ws w2=>
   rw[hq]at h1;simp only[bn]at h1;cases h1;obtain⟨h3,rfl,h4⟩:=abB aec hq;have hlen:∀{xs:List ResultVar} {rs:List yx},Dv P n xs rs=true->xs.length=rs.length:=by
    intro xs
    induction xs with
    |nil=>intro rs h;cases rs<;>simp[Dv]at h⊢
    | cons x xs ih=>
      intro rs h;cases rs with
      |nil=>cases x<;>simp[Dv]at h
      | cons r rs=>cases x<;>cases r<;>simp only[Dv,ah]at h<;>first|(simp[ih h.2];done)|cases h
   have hget:∀{xs:List ResultVar} {rs:List yx} {j:Nat} {r:yx},Dv P n xs rs=true->rs[j]? = some r->∃x,xs[j]? = some x/\(match x,r with
    |.tmp t,.tmp s=>t=s
    |.cell b t,.cell s agg k=>b=s/\Nc P t agg k=true
    |_,_=>False):=by
    intro xs
    induction xs with
    |nil=>intro rs j r h hr;cases rs<;>simp[Dv]at h hr
    | cons x xs ih=>
      intro rs j r h hr;cases rs with
      |nil=>simp at hr
      | cons r0 rs=>
        cases j with
        | zero=>simp at hr;subst hr;refine⟨x,rfl,?_⟩;cases x<;>cases r0<;>simp only[Dv,ah,akg]at h<;>first|exact h.1.1|exact⟨h.1.1.1,h.1.2⟩|cases h
        | succ j=>
          have:Dv P n xs rs=true:=by cases x<;>cases r0<;>simp only[Dv,ah]at h<;>first|exact h.2|cases h
          simpa using ih this (by simpa using hr)
   obtain⟨hv,rfl⟩:=iU h2;refine⟨rfl,ws,h3.trans (hlen hc),?_,λj x o T m hj hm=>?_⟩
   ·by_cases h1':ws.length=1
    ·match ws,h1' with
     |[y],_=>exact .inl ⟨y,rfl,by simpa using hv⟩
    ·exact .inr ⟨h1',by rw[hv,dif_neg (by simpa using h1')]⟩
   ·obtain⟨rv,hrv,TB⟩:=hget hc hj;obtain⟨y,hy,hrun⟩:=h4 j rv hrv;refine⟨y,?_⟩;cases x with
    | tmp t=>
      cases rv with
      |cell _ _=>exact TB.elim
      | tmp s=>simp only at TB;subst TB;simp only[XJ]at hm;obtain⟨u,hu,hg⟩:=acp h hm;unfold U8 at hrun;have hyv:=(iU hrun).1;subst hyv;exact⟨u,hy,hu,hg⟩
    | cell t agg k=>
      cases rv with
      |tmp _=>exact TB.elim
      | cell s ty=>
        simp only at TB;obtain⟨rfl,hty⟩:=TB;unfold XJ at hm
        dsimp only at hm
        split at hm
        ·rename_i b o0 hvp;by_cases hlt:o<(if agg then k else 1)
         ·rw[ahl hlt]at hm;have hmm:=oH hvp;rw[dJ]at hmm;obtain⟨f0,hf0,hmm⟩:=hmm;unfold aes at hmm;split at hmm
          ·split at hmm
           ·rename_i e1;subst e1;cases hmm;obtain⟨kk,row,e2,e3,e4⟩:=h.fs _ hf0;obtain⟨kk',row',e5,e6,e7⟩:=Ui h hm;rw[e2]at e5;cases e5;obtain⟨cs,e,hw,hrow⟩:=h.good.var _ _ _ _ e6;obtain⟨u,hu,hg⟩:=hrow _ e7
            dsimp only at hu hg
            unfold U8 at hrun;obtain⟨p,w3,h5,h6⟩:=dL hrun;rw[e3]at h5;unfold asAddr at h5;obtain⟨rfl,rfl⟩:=iU h5;have hc':∀j',o0+j'=o0+o->w3.cell? ((⟨kk,o0,none⟩:Addr).add j')=some u:=λj' e8=>by rw[Addr.tJ,e8];simp[gI,hw,hu]
            refine⟨u,hy,?_,hg⟩;unfold Nc at hty;obtain⟨_,hld⟩:=N9 h6;rcases hld with⟨de,i,h7,h8,h9,h10⟩|⟨de,h7,h8,h9⟩
            ·rw[h7,h9]at hty;simp only[ah,akg]at hty;rw[h8]at hty;obtain⟨rfl,rfl⟩:=hty;exact h10 o u (by simpa using hlt) (hc' o rfl)
            ·have hagg:agg=false:=by
              split at hty
              ·rename_i d' i' hd' hi';rw[h7]at hd';cases hd';simp only[ah,akg]at hty;rw[<- hty.1,h8]
              ·cases hty
             subst hagg;have ho:o=0:=(by simpa using hlt);subst ho;have:=h9 u (by have:=hc' 0 rfl;rwa[Addr.add_zero]at this);subst this;have hsl:∃b n c,y = .slice b n c:=(by rcases hg with e|⟨k,n,c,e,_⟩<;>exact⟨_,_,_,e⟩);rw[Oo hsl];rfl
           ·cases hmm
          ·cases hmm
         ·rw[ahk hlt]at hm;cases hm
        ·cases hm
theorem abC {α β:Type}{f:α->Option (List β)}{l:List α}{ys:List β}(h:(SL f l).map Iw=some ys){x:α}(hx:x∈l):∃y,f x=some y/\∀e,e∈y->e∈ys:=by simp only[bW]at h;obtain⟨l',h1,rfl⟩:=h;obtain⟨y,h2,h3⟩:=FN h1 x hx;exact⟨y,h2,λe he=>List.mem_flatten.2 ⟨y,h3,he⟩⟩
theorem afe {n N:Nat}(h:OW P FV g dp Γ a w){fn:Func}(hr:(results fn a.tmps).run P w = .ok v w'){rs:List yx}(hc:Dv P n fn.results.toList rs=true){sg:Sig}(hk:rkO sg rs Γ = true){vs:List Value}(hl:vs.length=sg.ps.length)
 (hpa:∀i r,(i,r)∈Lj sg.ps->a.tmps.getD i undef=vs.getD i undef):∃g',Rel dp N g g'/\OW P FV g' dp (Xe sg vs.length) { tmps:=(vs++[v]).toArray,defers:=[] } w':=by
 obtain⟨rfl,ws,hw1,hw2,hres⟩:=res_own h hr hc;unfold rkO at hk;rw[iW]at hk;obtain⟨mv,hmv⟩:=hk;unfold al3 at hmv;split at hmv
 ·rename_i A B hA hB;split at hmv
  ·rename_i hcond;cases hmv;simp only[ah,ahm,akg]at hcond;obtain⟨⟨hnd,hone⟩,hlen⟩:=hcond;have hn:=Jl hnd
   let mvL:List (Nat×yE):=(A++B).map λe=>(e.1,.tag dp e.2)
   have hkeys:mvL.map (·.1)=(A++B).map (·.1):=(by simp[mvL,Function.comp_def]);have hmov:∀{u:Value} {T m t:Nat},GR g u T (.tag dp m)->(m,t)∈A++B->GR (g.mv dp mvL) u T (.tag dp t):=λhg hm=>hg.mv (IK (by rw[hkeys];exact hn) (aS.2 ⟨_,hm,rfl⟩));have hv:((vs++[v]).toArray).getD vs.length undef=v:=by rw[dX,nH];simp
   have hrf:∀{g2:Own},(∀{u:Value} {T:Nat} {p:yE},GR (g.mv dp mvL) u T p->GR g2 u T p)->∀f,f∈abX sg vs.length->FI P FV g2 dp { tmps:=(vs++[v]).toArray,defers:=[] } w' f:=by
    intro g2 hg2 f hf;by_cases hsg:∃r,sg.rs=[r]
    ·obtain⟨r,hsr⟩:=hsg;obtain⟨x,rfl⟩:∃x,rs=[x]:=by
      rw[hsr]at hlen
      match rs,hlen with
      |[x],_=>exact⟨x,rfl⟩
     rw[abX,hsr]at hf;rw[hsr]at hA;simp only[anh]at hA;simp only at hf;rw[aS]at hf;obtain⟨e,he,rfl⟩:=hf;obtain⟨y,hy,hyl⟩:=FN hA e he;simp only[bW]at hy;obtain⟨m,hm,rfl⟩:=hy;obtain⟨z,u,h1,h2,h3⟩:=hres 0 x e.1 e.2 m rfl hm;refine⟨u,?_,hg2 (hmov h3 (dh _ hyl))⟩;rw[hv];rcases hw2 with⟨y',e1,e2⟩|⟨e1,_⟩
     ·subst e1;simp at h1;subst h1;rw[e2];exact h2
     ·rw[hw1]at e1;simp at e1
    ·have hA:aoQ Γ sg.rs rs=some A:=by
      unfold anh at hA;split at hA
      ·rename_i r x hr;exact al7 ⟨r,hr⟩ hsg
      ·exact hA
     unfold abX at hf;split at hf
     ·rename_i r hr;exact al7 ⟨r,hr⟩ hsg
     ·rw[lD]at hf;obtain⟨q,hq,hf⟩:=hf;rw[aS]at hf;obtain⟨e,he,rfl⟩:=hf;obtain⟨y,hy,hyl⟩:=abC hA hq;split at hy
      ·rename_i x hx;obtain⟨z,hz,hzl⟩:=FN hy e he;simp only[bW]at hz;obtain⟨m,hm,rfl⟩:=hz;obtain⟨z',u,h1,h2,h3⟩:=hres q.2 x e.1 e.2 m hx hm;have hws:ws.length≠1:=by
        rw[hw1,<- hlen];intro h5
        match hsr:sg.rs,h5 with
        |[r],_=>exact hsg ⟨r,hsr⟩
       rcases hw2 with⟨y',e1,e2⟩|⟨_,e2⟩
       ·rw[e1]at hws;simp at hws
       ·refine⟨ws.toArray,z',u,by rw[hv,e2],by simpa using h1,h2,hg2 (hmov h3 (dh _ (hyl _ hzl)))⟩
      ·cases hy
   have hg1:=h.good.mv dp mvL;have hget:∀i,i<vs.length->((vs++[v]).toArray).getD i undef=vs.getD i undef:=λi hi=>(by rw[dX,nH,bF hi,bf]);have hidx:∀i r,(i,r)∈Lj sg.ps<->sg.ps[i]? = some (.var r):=λi r=>by
    unfold Lj;rw[dJ];constructor
    ·rintro⟨⟨p,j⟩,h1,h2⟩;have h1:=nP.1 h1;simp only at h1 h2;cases p<;>simp at h2;obtain⟨rfl,rfl⟩:=h2;simpa using h1
    ·intro h1;exact⟨(.var r,i),nP.2 (by simpa using h1),rfl⟩
   have hvar:∀f,f∈ad3 sg->∃i r,(i,r)∈Lj sg.ps/\(f = .vp i i 0\/∃e,e∈r/\f = .row i ⟨e.1,e.2,30000+i*20+e.1⟩):=by
    intro f hf;rw[ad3,lD]at hf;obtain⟨⟨p,i⟩,h1,h2⟩:=hf;have h1:=nP.1 h1;simp only at h1 h2;cases p with
    | var r=>
      simp only[ay,aS]at h2;refine⟨i,r,(hidx i r).2 (by simpa using h1),?_⟩;rcases h2 with rfl|⟨e,he,rfl⟩
      ·exact .inl rfl
      ·exact .inr ⟨e,he,rfl⟩
    |_=>simp at h2
   match hvi:Lj sg.ps,hone with
   | [],_=>
     refine⟨g.mv dp mvL,Rel.mv _ _,hg1,λf hf=>?_⟩;rw[Xe,aY]at hf;rcases hf with hf|hf
     ·exact hrf (λh=>h) f hf
     ·obtain⟨i,r,h1,_⟩:=hvar f hf;rw[hvi]at h1;cases h1
   | [(i,r)],_=>
     obtain⟨y,hy,hyl⟩:=abC hB (show(i,r)∈Lj sg.ps by rw[hvi];exact aW ..);split at hy
     ·rename_i hcon;obtain⟨k,row,e1,_,e3⟩:=h.fs _ (kE.1 hcon)
      dsimp only at e1 e3
      obtain⟨apT,hk1⟩:=adU (mv:=mvL) (dp:=dp) e3;have hpi:=(hidx i r).1 (by rw[hvi];exact aW ..);have hil:i<vs.length:=(by rw[hl];exact(aK.1 hpi).1);have hti:((vs++[v]).toArray).getD i undef = .pointer (some ⟨k,0,none⟩):=by rw[hget i hil,<- hpa i r (by rw[hvi];exact aW ..)];exact e1
      have hgood:Good P ((g.mv dp mvL).upd k (.var (r.map λe=>⟨e.1,e.2,30000+i*20+e.1⟩) dp i)) w':=by refine hg1.PM hk1 λcs e hw rr hrr=>?_;rw[aS]at hrr;obtain⟨q,hq,rfl⟩:=hrr;obtain⟨z,hz,hzl⟩:=FN hy q hq;simp only[bW]at hz;obtain⟨m,hm,rfl⟩:=hz;obtain⟨k',row',e4,e5,e6⟩:=Ui h hm;rw[e1]at e4;cases e4;obtain⟨cs',e',hw',hrow⟩:=h.good.var _ _ _ _ e5;rw[hw]at hw';cases hw';obtain⟨u,hu,hg⟩:=hrow _ e6;exact⟨u,hu,hmov hg (dQ _ (hyl _ hzl))⟩
      refine⟨_,(Rel.mv N mvL).trans (Rel.PM hk1 (aA _)),hgood,λf hf=>?_⟩;rw[Xe,aY]at hf;rcases hf with hf|hf
      ·exact hrf (λh=>h.Uk hk1) f hf
      ·obtain⟨i',r',h1,h2⟩:=hvar f hf;rw[hvi]at h1;simp only[ay,dn,or_false,bI]at h1;obtain⟨rfl,rfl⟩:=h1;rcases h2 with rfl|⟨e,he,rfl⟩
       ·exact⟨k,_,hti,hti,ahl rfl⟩
       ·exact⟨k,_,hti,ahl rfl,aS.2 ⟨e,he,rfl⟩⟩
     ·cases hy
   |_::_::_,hone=>simp at hone
  ·cases hmv
 ·cases hmv
end
section
variable {P:Program} {E:Env P} {I:IH} {ρ:Ren} {n:Nat} {st:fH} {a:Act} {w:World}
def Qr : List AV->Nat->List (Nat×Slot)
 |[],_=>[]
 |x::xs,i=>(i,.v true x)::Qr xs (i+1)
def FP : List Box->Nat->List (Nat×Box)
 |[],_=>[]
 |x::xs,i=>(i,x)::FP xs (i+1)
theorem UG : ∀{xs:List AV} {i t:Nat},BF (Qr xs i) t=if i<=t then(match xs[t-i]? with|some x=>.v true x|none=>.none)else .none
 |[],i,t=>by simp[Qr,BF]
 | x::xs,i,t=>by
   simp only[Qr,BF];by_cases h:i=t
   ·subst h;simp
   ·rw[ahk h,UG (xs:=xs)];by_cases h':i<=t
    ·have e:t-i=(t-(i+1))+1:=(by omega);rw[ahl h',ahl (by omega),e];simp
    ·rw[ahk h',ahk (by omega)]
theorem Oa : ∀{xs:List Box} {i t:Nat},uq (FP xs i) t=if i<=t then xs.getD (t-i) .absent else .absent
 |[],i,t=>by simp[FP,uq]
 | x::xs,i,t=>by
   simp only[FP,uq];by_cases h:i=t
   ·subst h;simp
   ·rw[ahk h,Oa (xs:=xs)];by_cases h':i<=t
    ·have e:t-i=(t-(i+1))+1:=(by omega);rw[ahl h',ahl (by omega),e];simp
    ·rw[ahk h',ahk (by omega)]
def st0 (args:List AV)(fp:List Box):fH:=fH.of (Qr args 0) (FP fp 0)
theorem ajD (args:List AV)(fp:List Box):(st0 args fp).bx=CO fp:=by
 funext b
 unfold st0;rw[Ff,Oa];simp[CO]
def QF (rs:List yx)(m:Nat)(post:AV->List Box->Prop):AQ
 |.normal,st=>MJ rs m post st
 |.ret,st=>MJ rs m post st
 |.exit _,_=>False
def anb (P:Program)(c:Code)(ac:bU)(rs:List yx)(sg:Sig):Bool:=match oC P ((Lj sg.ps).map (·.1)) (rkO sg rs) c ac (U6 sg.ps)with
 |some (some Γ,_)=>rkO sg rs Γ
 |some (none,_)=>true
 |none=>false
def aiI (P:Program)(f:FuncId)(c:Code)(ac:bU)(rs:List yx)(k m:Nat):Bool:=match kindOf f with
 |.none=>true
 |.rd=>m==0
 |.ow sg=>anb P c ac rs sg&&k==sg.ps.length
def jl (P:Program)(f:FuncId)(k m:Nat)(ac:bU)(rs:List yx):Bool:=
 match P.funcs[f]? with
 | some fn=>match fn.body with
   |some c=>decide (k<=fn.ntmps)&&decide (m<=10)&&uO P fn.ntmps m c ac&&Dv P fn.ntmps fn.results.toList rs&&aiI P f c ac rs k m
   |none=>false
 |none=>false
def MP (P:Program)(f:FuncId)(k m:Nat)(ac:bU)(rs:List yx):Bool:=
 match P.funcs[f]? with
 | some fn=>match fn.body with
   |some c=>decide (k<=fn.ntmps)&&decide (m<=10)&&uO P fn.ntmps m c ac&&Dv P fn.ntmps fn.results.toList rs
   |none=>false
 |none=>false
theorem OO {fn:Func}{args:List AV}{fp:List Box}{I:IH}{ρ:Ren}{w:World}{vs:List Value}(hk:args.length<=fn.ntmps)(hT:Tabs P I)(hA:Agree I w)(hB:BX I ρ w (CO fp))(hV:VL I ρ vs args) :
 GX (⟨w,I,λk=>∃b,(CO fp b).uses (ρ b) k,ρ,fp.length,hT⟩:Env P) I ρ fn.ntmps (st0 args fp) { tmps:=vs.toArray++sK (fn.ntmps-vs.toArray.size) undef,defers:=[] } w:=by
 have hlen:vs.length=args.length:=hV.1;refine{ agree:=hA,bx:=by rw[ajD];exact hB,tm:=λt ht=>?_,size:=by simp;omega,defers:=rfl,Be:=Dp.refl _ _,own:=λb k hu=>?_,Jw:=IH.le_refl _,Jg:=λk _ _=>rfl,yS:=λb _=>rfl }
 ·unfold st0;rw[KT,UG];simp only[Nat.zero_le,amB,oh];cases hx:args[t]? with
  |none=>trivial
  | some x=>
    have hlt:=(aK.1 hx).1;have hvt:vs[t]? = some vs[t]:=ax (by omega);refine⟨λ_=>?_,λe=>by cases e⟩;have hg:=hV.2 t _ x hvt hx;have e:((vs.toArray++sK (fn.ntmps-vs.toArray.size) undef).getD t undef)=vs[t]:=by rw[dX,rU (by simp;omega)];simp[hvt]
    rw[e];exact hg
 ·right
  rw[ajD]at hu;exact⟨b,hu⟩
theorem Vs {fn:Func}{rs:List yx}{fp:List Box}{post:AV->List Box->Prop}{I:IH}{ρ:Ren}{w:World}{hT:Tabs P I}(hcr:Dv P fn.ntmps fn.results.toList rs=true) :
 ∀ {a:Act} {w':World},AK (⟨w,I,λk=>∃b,(CO fp b).uses (ρ b) k,ρ,fp.length,hT⟩:Env P) fn.ntmps (MJ rs fp.length post) a w'->a.defers=[]/\∃v,(results fn a.tmps).run P w' = .ok v w'/\∃(v':Value) (J:IH) (σ:Ren) (r:AV) (bs:List Box),Ending.returned v = .returned v'/\post r bs/\GV J σ v' r/\Agree J w'/\BX J σ w' (CO bs) /\
   I.le J/\Dp w w' (λk=>∃b,(CO fp b).uses (ρ b) k) /\
   (∀b k,(CO bs b).uses (σ b) k->w.heap.size<=k\/∃b',(CO fp b').uses (ρ b') k) /\
   (∀k,k<w.heap.size->(¬ ∃b,(CO fp b).uses (ρ b) k)->J k=I k) /\
   (∀b,b<fp.length->σ b=ρ b):=by
 rintro a w' ⟨I',ρ',st,⟨hok,r,bs,zs,π,us,hp,hws,hwv⟩,hg⟩;obtain⟨ws,hrun,hl,hgs⟩:=ace hg hcr hok;have hv:∃v,(results fn a.tmps).run P w' = .ok v w'/\GV I' ρ' v (Yb st rs):=by
  have hrun':(fn.results.mapM (U8 a.tmps)).run P w' = .ok ws.toArray w':=by rw[xk];simp[hrun]
  rw[LZ];by_cases h1:∃r0,rs=[r0]
  ·obtain⟨r0,rfl⟩:=h1
   match ws,hl,hgs,hrun' with
   |[v0],_,hgs,hrun'=>exact⟨v0,by simp[hrun'],hgs 0 v0 r0 rfl rfl⟩
  ·have hne:ws.length≠1:=by
    intro h;rw[hl]at h
    match rs,h,h1 with
    |[r0],_,h1=>exact h1 ⟨r0,rfl⟩
   have hrv:Yb st rs = .zi (Bi st rs):=by
    match rs,h1 with
    |[],_=>rfl
    |[r0],h1=>exact al7 ⟨r0,rfl⟩ h1
    |_::_::_,_=>rfl
   refine⟨.tuple ws.toArray,by simp[hrun',hne],?_⟩;rw[hrv];have hparts:∀{rs:List yx},Jp st rs->(Bi st rs).length=rs.length/\∀(j:Nat) (p:Bool×List AC),(Bi st rs)[j]? = some p->∃r,rs[j]? = some r/\p=partOf (r.val st)/\(r.val st).flat:=by
    intro rs
    induction rs with
    |nil=>intro _;exact⟨rfl,λj p hp=>by simp[Bi]at hp⟩
    | cons r0 rs ih=>
      rintro⟨_,h2,h3⟩;obtain⟨j1,j2⟩:=ih h3;refine⟨by simp[Bi,j1],λj p hp=>?_⟩;cases j with
      |zero=>simp[Bi]at hp;exact⟨r0,rfl,hp.symm,h2⟩
      |succ j=>obtain⟨r',hr',h'⟩:=j2 j p (by simpa[Bi]using hp);exact⟨r',by simpa using hr',h'⟩
   obtain⟨p1,p2⟩:=hparts hok;refine⟨ws.toArray,rfl,by simp[hl,p1],λj v p hv hp=>?_⟩;obtain⟨r',hr',rfl,hfl⟩:=p2 j p hp;have hgv:=hgs j v r' (by simpa using hv) hr';unfold GP;cases hval:r'.val st with
   |one x=>rw[hval]at hgv;simp only[partOf];exact⟨x,rfl,hgv⟩
   |agg xs=>rw[hval]at hgv;simp only[partOf,amB];exact hgv
   |zi q=>rw[hval]at hfl;exact hfl.elim
 obtain⟨v,hrv,hgv⟩:=hv;have hS:=Y0 hg (aA _) hws;refine⟨hg.defers,v,hrv,v,_,_,r,bs,rfl,hp,ama hg hws.vir hgv hwv,hS.agree,hS.bx,hS.Jw,hS.Be,hS.own,hS.Jg,hS.yS⟩
theorem WM {f:FuncId}{ac:bU}{rs:List yx}{args:List AV}{fp:List Box}{post:AV->List Box->Prop}(hc:MP P f args.length fp.length ac rs=true)
 (hwp:wpC P ac (QF rs fp.length post) (st0 args fp)):OA P f args fp post:=by
 unfold MP at hc;split at hc
 ·rename_i fn hf;split at hc
  ·rename_i c hb;simp only[ah,ahm]at hc;obtain⟨⟨⟨hk,hm⟩,hcc⟩,hcr⟩:=hc;intro I ρ w vs hT hA hB hV;have hG:=OO (fn:=fn) hk hT hA hB hV;refine calls_of_wp hf hb (wp_mono (yP hm hcc ⟨I,ρ,_,hwp,hG⟩) λe a w' hq=>?_);cases e with
   |normal=>obtain⟨h1,v,h2,h3⟩:=Vs hcr hq;exact⟨h1,v,h2,h3⟩
   |ret=>obtain⟨h1,v,h2,h3⟩:=Vs hcr hq;exact⟨h1,v,h2,h3⟩
   |exit id=>obtain⟨_,_,_,h,_⟩:=hq;exact h.elim
   |goto l=>exact hq.elim
   |panic ch=>exact hq.elim
   |outgrown=>exact hq.elim
  ·cases hc
 ·cases hc
theorem x8 {f:FuncId}{ac:bU}{rs:List yx}{args:List AV}{fp:List Box}{post:AV->List Box->Prop}(hc:jl P f args.length fp.length ac rs=true)
 (hwp:wpC P ac (QF rs fp.length post) (st0 args fp)):oV P f args fp post:=by
 unfold jl at hc;split at hc
 ·rename_i fn hf;split at hc
  ·rename_i c hb;simp only[ah,ahm]at hc;obtain⟨⟨⟨⟨hk,hm⟩,hcc⟩,hcr⟩,hkn⟩:=hc;intro I ρ w vs hT hA hB hV X hX
   let E:Env P:=⟨w,I,λk=>∃b,(CO fp b).uses (ρ b) k,ρ,fp.length,hT⟩
   have hlen:vs.length=args.length:=hV.1;have hG:=OO (fn:=fn) hk hT hA hB hV;have key:=@Vs P fn rs fp post I ρ w hT hcr;cases hX with
   | acs=>
     refine calls_of_wp hf hb (wp_mono (yP (E:=E) hm hcc ⟨I,ρ,_,hwp,hG⟩) λe a w' hq=>?_);cases e with
     |normal=>obtain⟨h1,v,h2,h3⟩:=key hq;exact⟨h1,v,h2,h3,trivial⟩
     |ret=>obtain⟨h1,v,h2,h3⟩:=key hq;exact⟨h1,v,h2,h3,trivial⟩
     |exit id=>obtain⟨_,_,_,h,_⟩:=hq;exact h.elim
     |goto l=>exact hq.elim
     |panic ch=>exact hq.elim
     |outgrown=>exact hq.elim
   | rd hkd=>
     have hfp:fp=[]:=by unfold aiI at hkn;rw[hkd]at hkn;exact vM.1 (by simpa using hkn)
     refine calls_of_wp hf hb (wp_mono (yP (E:=E) hm hcc ⟨I,ρ,_,hwp,hG⟩) λe a w' hq=>?_);have fin:AK E fn.ntmps (MJ rs fp.length post) a w'->_:=λhq=>key hq;cases e with
     | normal=>obtain⟨h1,v,h2,h3⟩:=key hq;have h3':=h3;obtain⟨_,_,_,_,_,_,_,_,_,_,_,hF,_⟩:=h3';exact⟨h1,v,h2,h3,hF.os,hF.tape,hF.output,hF.size,λk hk _=>hF.block k hk (by subst hfp;rintro⟨b,hb⟩;exact LV b k hb)⟩
     | ret=>obtain⟨h1,v,h2,h3⟩:=key hq;have h3':=h3;obtain⟨_,_,_,_,_,_,_,_,_,_,_,hF,_⟩:=h3';exact⟨h1,v,h2,h3,hF.os,hF.tape,hF.output,hF.size,λk hk _=>hF.block k hk (by subst hfp;rintro⟨b,hb⟩;exact LV b k hb)⟩
     |exit id=>obtain⟨_,_,_,h,_⟩:=hq;exact h.elim
     |goto l=>exact hq.elim
     |panic ch=>exact hq.elim
     |outgrown=>exact hq.elim
   | ow sg hkd hl g dp hin=>
     have hok:anb P c ac rs sg=true:=by unfold aiI at hkn;rw[hkd]at hkn;simp only[ah]at hkn;exact hkn.1
     unfold anb at hok;have hinit:OW P FV g dp (U6 sg.ps) { tmps:=vs.toArray++sK (fn.ntmps-vs.toArray.size) undef,defers:=[] } w:=
      ⟨hin.good,λf hf=>(hin.fs f hf).put λt _=>by
       simp only[dX];by_cases ht:t<vs.toArray.size
       ·rw[rU ht]
       ·have hnone:vs.toArray[t]? = none:=Array.getElem?_eq_none (by omega);rw[Array.getElem?_append_right (by omega),hnone];cases hq:(sK (fn.ntmps-vs.toArray.size) undef)[t-vs.toArray.size]? with
        |none=>rfl
        | some u=>have:=dK.1 hq;obtain⟨h1,h2⟩:=this;rw[Array.getElem_replicate]at h2;rw[<- h2];rfl⟩
     let pa:List (Nat×Value):=(Lj sg.ps).map λe=>(e.1,vs.getD e.1 undef)
     have hpl:∀e,e∈pa->e.1∈(Lj sg.ps).map (·.1):=λe he=>by simp only[pa,aS]at he⊢;obtain⟨q,hq,rfl⟩:=he;exact⟨q,hq,rfl⟩
     have hPA:PA pa { tmps:=vs.toArray++sK (fn.ntmps-vs.toArray.size) undef,defers:=[] }:= λe he=>by
      simp only[pa,aS]at he;obtain⟨q,hq,rfl⟩:=he;have hqi:q.1<vs.length:=by rw[hl];unfold Lj at hq;rw[dJ]at hq;obtain⟨⟨p,i⟩,h1,h2⟩:=hq;have h1:=nP.1 h1;simp only at h1 h2;cases p<;>simp at h2;subst h2;exact(aK.1 h1).1
      simp only[dX,bf];rw[rU (by simpa using hqi)];simp
     cases hoc:oC P ((Lj sg.ps).map (·.1)) (rkO sg rs) c ac (U6 sg.ps)with
     |none=>rw[hoc]at hok;cases hok
     | some r=>
       have apL:=xH (E:=E) (g0:=g) (dp:=dp) hm hpl hcc hoc ⟨⟨⟨I,ρ,_,hwp,hG⟩,g,Rel.refl _ _ _,hinit⟩,hPA⟩;refine calls_of_wp hf hb (wp_mono apL λe a w' hq=>?_);cases e with
       | normal=>
         obtain⟨Γ,h1,⟨hak,g1,hr1,how⟩,hpa⟩:=hq;have hrk:rkO sg rs Γ = true:=by rw[hoc]at hok;obtain⟨r1,r2⟩:=r;simp only at h1;subst h1;exact hok
         obtain⟨h1,v,h2,h3⟩:=key hak;obtain⟨g',hr2,amU⟩:=afe (N:=w.heap.size) how h2 hcr hrk hl (λi r hir=>hpa (i,vs.getD i undef) (aS.2 ⟨(i,r),hir,rfl⟩));exact⟨h1,v,h2,h3,v,g',rfl,hr1.trans hr2,amU⟩
       | ret=>obtain⟨Γ,hrk,⟨hak,g1,hr1,how⟩,hpa⟩:=hq;obtain⟨h1,v,h2,h3⟩:=key hak;obtain⟨g',hr2,amU⟩:=afe (N:=w.heap.size) how h2 hcr hrk hl (λi r hir=>hpa (i,vs.getD i undef) (aS.2 ⟨(i,r),hir,rfl⟩));exact⟨h1,v,h2,h3,v,g',rfl,hr1.trans hr2,amU⟩
       |exit id=>obtain⟨Γ,_,⟨⟨_,_,_,h,_⟩,_⟩,_⟩:=hq;exact h.elim
       |goto l=>exact hq.elim
       |panic ch=>exact hq.elim
       |outgrown=>exact hq.elim
  ·cases hc
 ·cases hc
end
end
section
section
variable {P:Program} {g:Own} {w w':World} {dp N:Nat} {dr:yE->Bool} {φ:yE->yE}
theorem Good.perm (h:Good P g w)(hb:∀k T p,g k=some (.arr T p)->dr p=false->∀j,dr (.blk k j)=false/\φ (.blk k j) = .blk k j)
 {M:Nat->Prop} (hF:∀k,k<w.heap.size->¬M k->w'.heap[k]? = w.heap[k]?) (hM:∀k,M k->(g.re dr φ) k=none)
 {kr T n:Nat} {p:yE} {cs:Array Value} {e:TypeId} (hkr:(g.re dr φ) kr=none) (hw:w'.heap[kr]? = some (.cells cs e (0,0)))
 (hc:∀j u T',j<n*wz P T->cs[j]? = some u->(j%wz P T,T')∈lZ P T->GR (g.re dr φ) u T' (.blk kr j)):Good P ((g.re dr φ).upn kr (.arr T p) n) w':=by
 have h1:=h.re hb;have h2:Good P (g.re dr φ) w':=h1.world λk hk=>hF k (by
  cases hx:(g.re dr φ) k with
  |none=>exact al7 hx hk
  |some B=>exact h1.lt hx) (λhm=>hk (hM k hm))
 have hna:∀T' q,(g.re dr φ) kr≠some (.arr T' q):=λT' q e=>by rw[hkr]at e;cases e
 refine⟨λk T' q hk=>?_,λk row d b hk=>?_⟩
 ·rw[yc]at hk;split at hk
  ·rename_i e1;cases hk;subst e1;exact⟨cs,e,hw,λj u T' hb hu ht=>(hc j u T' (by rwa[EZ,ahl rfl]at hb) hu ht).upd hna⟩
  ·rename_i hne;obtain⟨cs',e',hw',h3⟩:=h2.arr k T' q hk;exact⟨cs',e',hw',λj u T' hb hu ht=>(h3 j u T' (by rwa[EZ,ahk hne]at hb) hu ht).upd hna⟩
 ·rw[yc]at hk;split at hk
  ·cases hk
  ·obtain⟨cs',e',hw',h3⟩:=h2.var k row d b hk;exact⟨cs',e',hw',λr hr=>let ⟨u,hu,hgr⟩:=h3 r hr;⟨u,hu,hgr.upd hna⟩⟩
theorem Rel.perm (h:Rel dp N g (g.re dr φ)){kr T n:Nat}{p:yE}(hkr:(g.re dr φ) kr=none)(ho:N<=kr\/∃q,g kr=some (.arr T q)):Rel dp N g ((g.re dr φ).upn kr (.arr T p) n):=by
 refine⟨λk T' d m hd hk=>?_,λk row d b hd hk=>?_,λk B' hlt hB=>?_⟩
 ·have h1:=h.tag k T' d m hd hk;have hne:k≠kr:=λe=>by subst e;rw[hkr]at h1;cases h1.1
  rw[yc,EZ,ahk hne,ahk hne];exact h1
 ·have h1:=h.var k row d b hd hk;have hne:k≠kr:=λe=>by subst e;rw[hkr]at h1;cases h1
  rw[yc,ahk hne];exact h1
 ·rw[yc]at hB;split at hB
  ·rename_i e;subst e;cases hB;rcases ho with ho|⟨q,ho⟩
   ·omega
   ·exact⟨_,ho,λT' p' hb=>by rcases hb with e|e<;>cases e<;>exact⟨_,_,rfl,rfl⟩⟩
  ·exact h.old k B' hlt hB
end
def lits (l:List (List Value)):List (List Cell):=l.map λe=>e.map .lit
theorem En (l:List (List Value)):(lits l).length=l.length:=by simp[lits]
theorem lits_get (l:List (List Value))(i j:Nat):((lits l).getD i [])[j]? = ((l.getD i [])[j]?).map .lit:=by simp only[lits,bf,bP];cases l[i]? <;> simp
theorem Zu {I:IH}{ρ:Ren}{w:World}{b sz:Nat}{es:List (List Cell)}(h:xP I ρ w b (.dat sz es)):∃ls:List (List Value),ls.length=es.length/\(∀e,e∈ls->e.length=sz)/\xP I ρ w b (.dat sz (lits ls)) /\
 ∀(i j:Nat) (c:Cell),(es.getD i [])[j]? = some c->∃u,(ls.getD i [])[j]? = some u/\Rd I u c:=by
 obtain⟨k,cap,h1,h2,h3,h4,h5⟩:=h;by_cases hc:cap=0
 ·have:es=[]:=vM.1 (by omega);subst this;refine⟨[],rfl,(λe he=>by cases he),⟨k,cap,h1,by simp[lits],h3,(λe he=>by cases he),λh=>al7 hc h⟩,(λi j c hx=>by simp at hx)⟩
 ·obtain⟨cs,e,hw,hs,h1c,hcell⟩:=h5 hc
  let ls:List (List Value):=(sQ es.length).map λi=>(sQ sz).map λj=>(cs[i*sz+j]?).getD undef
  have hget:∀i j,(ls.getD i [])[j]? = if i<es.length/\j<sz then some ((cs[i*sz+j]?).getD undef)else none:=by
   intro i j;simp only[ls,bf,bP];by_cases hi:i<es.length
   ·rw[xw hi];simp only[iR,jQ,bP];by_cases hj:j<sz
    ·rw[xw hj];simp[hi,hj]
    ·rw[kF (l:=sQ sz) (by simpa using hj)];simp[hj]
   ·rw[kF (l:=sQ es.length) (by simpa using hi)];simp[hi]
  have hin:∀i j,i<es.length->j<sz->∃u,cs[i*sz+j]? = some u:=λi j hi hj=>by
   have:i*sz+j<cs.size:=by
    rw[hs]
    calc i*sz+j<i*sz+sz:=by omega
     _=(i+1)*sz:=by rw[cO,yj]
     _<=cap*sz:=aQ _ (by omega)
   exact⟨_,lK this⟩
  refine⟨ls,by simp[ls],λe he=>?_,⟨k,cap,h1,by rw[En];simpa[ls]using h2,h3,λe he=>?_,λ_=>⟨cs,e,hw,hs,h1c,λi j c hc=>?_⟩⟩,λi j c hc=>?_⟩
  ·simp only[ls,aS]at he;obtain⟨i,_,rfl⟩:=he;simp
  ·simp only[lits,ls,aS]at he;obtain⟨_,⟨i,_,rfl⟩,rfl⟩:=he;simp
  ·rw[lits_get,hget]at hc;split at hc
   ·rename_i hij;obtain⟨u,hu⟩:=hin i j hij.1 hij.2;rw[hu]at hc;simp only[jQ,iR,aC]at hc;subst hc;exact⟨u,hu,.lit u (h1c _ _ hu)⟩
   ·cases hc
  ·obtain⟨u,hu,hr⟩:=hcell i j c hc;have hi:i<es.length:=by
    rcases Iy i es.length with h|h
    ·exact h
    ·rw[bf,kF h]at hc;simp at hc
   have hj:j<sz:=by
    have h6:=(aK.1 hc).1;rw[bf,ax hi]at h6;simp only[jQ]at h6
    rwa[h4 _ (dD hi)]at h6
   exact⟨u,by rw[hget,ahl ⟨hi,hj⟩,hu];rfl,hr⟩
theorem ZP {I:IH}{ρ:Ren}{w:World}{b sz:Nat}{es:List (List Cell)}{ls:List (List Value)}(h:xP I ρ w b (.dat sz (lits ls)))(hl:es.length=ls.length)(hs:∀e,e∈es->e.length=sz)
 (hr:∀(i j:Nat) (c:Cell),(es.getD i [])[j]? = some c->∃u,(ls.getD i [])[j]? = some u/\Rd I u c):xP I ρ w b (.dat sz es):=by
 obtain⟨k,cap,h1,h2,h3,h4,h5⟩:=h;rw[En]at h2;refine⟨k,cap,h1,by omega,h3,hs,λhc=>?_⟩;obtain⟨cs,e,hw,hsz,h1c,hcell⟩:=h5 hc;refine⟨cs,e,hw,hsz,h1c,λi j c hij=>?_⟩;obtain⟨u,hu,hrd⟩:=hr i j c hij;obtain⟨u',hu',amS⟩:=hcell i j (.lit u) (by rw[lits_get,hu];rfl);cases amS;exact⟨_,hu',hrd⟩
theorem WT {I:IH}{ρ:Ren}{w:World}{b sz k cap:Nat}{ls:List (List Value)}(h:xP I ρ w b (.dat sz (lits ls)))(hk:ρ b=some (k,cap))(hc:cap≠0):∃cs e,w.heap[k]? = some (.cells cs e (0,0)) /\
 ∀i j u,(ls.getD i [])[j]? = some u->cs[i*sz+j]? = some u:=by
 obtain⟨k',cap',h1,h2,h3,h4,h5⟩:=h;rw[hk]at h1;cases h1;obtain⟨cs,e,hw,hsz,h1c,hcell⟩:=h5 hc;refine⟨cs,e,hw,λi j u hu=>?_⟩;obtain⟨u',hu',amS⟩:=hcell i j (.lit u) (by rw[lits_get,hu];rfl);cases amS;exact hu'
theorem O0 {I J:IH}(hle:I.le J){es:List (List Cell)}{ls:List (List Value)}(h:∀(i j:Nat) (c:Cell),(es.getD i [])[j]? = some c->∃u,(ls.getD i [])[j]? = some u/\Rd I u c)(i j:Nat)(c:Cell)(hc:(es.getD i [])[j]? = some c) :
 ∃u,(ls.getD i [])[j]? = some u/\Rd J u c:=let ⟨u,h1,h2⟩:=h i j c hc;⟨u,h1,h2.mono hle⟩
end
section
def aiv (P:Program)(f sz:Nat):Bool:=match kindOf f with
 |.none=>true
 |.rd=>false
 | .ow sg=>(match sg.rs with
   |[[(0,T)]]=>decide (sg=⟨[.own [(0,T)],.any,.own [(0,T)]],[[(0,T)]]⟩)&&wz P T==sz
   |_=>false)
def ahR (P:Program)(f sz:Nat):Bool:=match kindOf f with
 |.none=>true
 |.rd=>false
 | .ow sg=>(match sg.rs with
   |[[(0,T)]]=>decide (sg=⟨[.own [(0,T)],.any,.any],[[(0,T)]]⟩)&&wz P T==sz
   |_=>false)
theorem ak3 {P:Program}{f sz:Nat}(h:aiv P f sz=true){sg:Sig}(hk:kindOf f = .ow sg):∃T,sg=⟨[.own [(0,T)],.any,.own [(0,T)]],[[(0,T)]]⟩/\wz P T=sz:=by
 unfold aiv at h;rw[hk]at h
 dsimp only at h
 split at h
 ·simp only[ah,ahm,akg]at h;exact⟨_,h.1,h.2⟩
 ·cases h
theorem akQ {P:Program}{f sz:Nat}(h:ahR P f sz=true){sg:Sig}(hk:kindOf f = .ow sg):∃T,sg=⟨[.own [(0,T)],.any,.any],[[(0,T)]]⟩/\wz P T=sz:=by
 unfold ahR at h;rw[hk]at h
 dsimp only at h
 split at h
 ·simp only[ah,ahm,akg]at h;exact⟨_,h.1,h.2⟩
 ·cases h
def Pz (ks:Option Nat)(kv kr a sz:Nat):yE->yE
 |.blk b j=>if some b=ks then(if j<a then .blk kr j else .blk kr (j+sz))else if b=kv then .blk kr (a+j)else .blk b j
 |p=>p
def UC (ks:Option Nat)(kr a b d:Nat):yE->yE
 |.blk k j=>if some k=ks then(if j<a then .blk kr j else if b<=j then .blk kr (j-d)else .dead)else .blk k j
 |p=>p
theorem Jj {q r sz:Nat}(h:r<sz):(q*sz+r)%sz=r:=by rw[xE,wW,wQ h]
section
variable {P:Program}
theorem Z5 {g:Own}{dp m sz n c T cap k0 b0:Nat}{w:World}{a:Option Addr}{I:IH}{ρ:Ren}{ls:List (List Value)}(hg:Good P g w)(hT:wz P T=sz)(hs:GR g (.slice a n c) T (.tag dp m))(hρ:ρ b0=some (k0,cap))(hn:n<=c)(hc:c<=cap)
 (ha:cap≠0->a=some ⟨k0,0,none⟩) (hl:ls.length=n) (hsz:∀e,e∈ls->e.length=sz) (hb:xP I ρ w b0 (.dat sz (lits ls))) :
 ∃ ks:Option Nat,(∀b,ks=some b->g b=some (.arr T (.tag dp m)))/\(cap≠0->ks=some k0) /\
   ∀q r u T',(ls.getD q [])[r]? = some u->(r,T')∈lZ P T->∃b,ks=some b/\GR g u T' (.blk b (q*sz+r)):=by
 have inr:∀{q r u},(ls.getD q [])[r]? = some u->q<n/\r<sz:=by
  intro q r u hu;have hq:q<ls.length:=by
   rcases Iy q ls.length with h|h
   ·exact h
   ·rw[bf,kF h]at hu;simp at hu
  refine⟨by omega,?_⟩;have h6:=(aK.1 hu).1;rw[bf,ax hq]at h6;simp only[jQ]at h6
  rwa[hsz _ (dD hq)]at h6
 rcases hs with e|⟨k,n',c',e,hk,hbd⟩
 ·cases e;refine⟨none,(λb hb=>by cases hb),λh=>(by have:=ha h;cases this),λq r u T' hu _=>?_⟩;have:=(inr hu).1;omega
 ·cases e;refine⟨some k,(λb hb=>by cases hb;exact hk),λh=>(by have:=ha h;cases this;rfl),λq r u T' hu ht=>⟨k,rfl,?_⟩⟩;obtain⟨h1,h2⟩:=inr hu;have hc0:cap≠0:=by omega
  have e1:=ha hc0;cases e1;obtain⟨cs,e,hw,hcell⟩:=WT hb hρ hc0;obtain⟨cs',e',hw',hown⟩:=hg.arr _ _ _ hk;rw[hw]at hw';cases hw';refine hown _ u T' ?_ (hcell q r u hu) ?_
  ·rw[hT]
   calc q*sz+r<q*sz+sz:=by omega
    _=(q+1)*sz:=by rw[cO,yj]
    _<=_:=aQ _ (by omega)
  ·rw[hT,Jj h2];exact ht
theorem aoy {g:Own}{dp m k T:Nat}{ks:Option Nat}(h:∀b,ks=some b->g b=some (.arr T (.tag dp m))){B:Blk}(hk:g k=some B)(hB:B ≠ .arr T (.tag dp m)):some k≠ks:=λe=>by have:=h k e.symm;rw[hk]at this;cases this;exact hB rfl
theorem ali {f sz:Nat}(hk:aiv P f sz=true){es:List (List Cell)}{v:List Cell}{i:Nat}(hi:i<=es.length)
 (hz:∀(ls:List (List Value)) (lv:List Value) (c:Nat),ls.length=es.length->es.length<=c->OA P f [.one (.sub 0 0 ls.length (some c) sz),.one (.c (.lit (.int .i64 (i:Int)))),.one (.own 1 1 sz)] [.dat sz (lits ls),.dat sz [lv.map .lit]]
  (λr b=>r = .one (.own 2 (ls.length+1) sz)/\b=[.dead,.dat sz [lv.map .lit],.dat sz (lits (ls.take i++lv::ls.drop i))])) :
 oV P f [.one (.own 0 es.length sz),.one (.c (.lit (.int .i64 (i:Int)))),.one (.own 1 1 sz)] [.dat sz es,.dat sz [v]]
  (λr b=>r = .one (.own 2 (es.length+1) sz)/\b=[.dead,.dat sz [v],.dat sz (es.take i++v::es.drop i)]):=by
 intro I ρ w vs hT hA hB hV X hX;obtain⟨ls,l1,l2,l3,l4⟩:=Zu (show xP I ρ w 0 (.dat sz es)from hB.ok 0);obtain⟨lv',m1,m2,m3,m4⟩:=Zu (show xP I ρ w 1 (.dat sz [v])from hB.ok 1);obtain⟨lv,rfl⟩:=List.length_eq_one_iff.1 m1;have hv:v.length=sz:=by obtain⟨_,_,_,_,_,h,_⟩:=(show xP I ρ w 1 (.dat sz [v])from hB.ok 1);exact h v (aW ..)
 have Ei:∀b x k,(CO [.dat sz (lits ls),.dat sz [lv.map .lit]] b).uses x k=(CO [.dat sz es,.dat sz [v]] b).uses x k:=λb x k=>match b with
  |0=>rfl
  |1=>rfl
  |b+2=>rfl
 have hB':BX I ρ w (CO [.dat sz (lits ls),.dat sz [lv.map .lit]]):=⟨λb=>match b with
  |0=>l3
  |1=>m3
  |b+2=>hB.ok (b+2),λb b' k h h'=>hB.inj b b' k (by rw[<- Ei];exact h) (by rw[<- Ei];exact h'),λb k h=>hB.fresh b k (by rw[<- Ei];exact h)⟩
 obtain⟨hvl,hvg⟩:=hV;obtain⟨v0,v1,v2,rfl⟩:∃v0 v1 v2,vs=[v0,v1,v2]:=by
  match vs,hvl with
  |[v0,v1,v2],_=>exact⟨v0,v1,v2,rfl⟩
 have q0:=hvg 0 v0 _ rfl rfl;have q1:=hvg 1 v1 _ rfl rfl;have q2:=hvg 2 v2 _ rfl rfl;obtain⟨k0,cap,a,c,ZL,rfl,hn,hc,ha⟩:=q0;have hV':VL I ρ [.slice a es.length c,v1,v2] [.one (.sub 0 0 ls.length (some c) sz),.one (.c (.lit (.int .i64 (i:Int)))),.one (.own 1 1 sz)]:=by
  refine⟨rfl,λj v x hv hx=>?_⟩
  match j with
  | 0=>cases hv;cases hx;exact⟨k0,cap,a,c,ZL,by rw[l1],by omega,by omega,λc0 h=>by cases h;rfl,λh=>by rw[yY];exact ha (by rcases h with h|⟨_,h⟩<;>omega)⟩
  |1=>cases hv;cases hx;exact q1
  |2=>cases hv;cases hx;exact q2
  |j+3=>cases hv
 refine(hz ls lv c l1 hn I ρ w _ hT hA hB' hV').mono ?_;rintro e w' ⟨v',J,σ,r,bs,rfl,⟨rfl,rfl⟩,hgv,hag,hbx,hle,hfr,hown,hnew,hkeep⟩;have hM:(λk=>∃b,(CO [.dat sz (lits ls),.dat sz [lv.map .lit]] b).uses (ρ b) k)=λk=>∃b,(CO [.dat sz es,.dat sz [v]] b).uses (ρ b) k:=by funext k;simp only[Ei]
 have Q3:∀b x k,(CO [.dead,.dat sz [lv.map .lit],.dat sz (lits (ls.take i++lv::ls.drop i))] b).uses x k=(CO [.dead,.dat sz [v],.dat sz (es.take i++v::es.drop i)] b).uses x k:=λb x k=>match b with
  |0=>rfl
  |1=>rfl
  |2=>rfl
  |b+3=>rfl
 have hes:∀e,e∈es->e.length=sz:=by obtain⟨_,_,_,_,_,h,_⟩:=(show xP I ρ w 0 (.dat sz es)from hB.ok 0);exact h
 have adE:∀{α:Type} (l:List (List α)) (x:List α) (q:Nat),l.length=es.length->(l.take i++x::l.drop i).getD q []=if q<i then l.getD q []else if q=i then x else l.getD (q-1) []:=by
  intro α l x q hl;have hti:(l.take i).length=i:=by rw[gW];omega
  simp only[bf];by_cases h1:q<i
  ·rw[ahl h1,bF (by omega),xM h1]
  ·rw[ahk h1,dA (by omega),hti];by_cases h2:q=i
   ·subst h2;simp
   ·rw[ahk h2,show q-i=(q-i-1)+1 by omega,dM,fV,show i+(q-i-1)=q-1 by omega]
 have hdat:BX J σ w' (CO [.dead,.dat sz [v],.dat sz (es.take i++v::es.drop i)]):=⟨λb=>match b with
  |0=>hbx.ok 0
  |1=>ZP (show xP J σ w' 1 (.dat sz (lits [lv]))from hbx.ok 1) rfl (λe he=>by rw[List.mem_singleton.1 he];exact hv) (O0 hle m4)
  | 2 =>ZP (show xP J σ w' 2 (.dat sz (lits (ls.take i++lv::ls.drop i)))from hbx.ok 2) (by simp[l1])
      (λe he=>by
       rcases aY.1 he with he|he
       ·exact hes e (fD he)
       ·rcases ay.1 he with rfl|he
        ·exact hv
        ·exact hes e (kN he))
      (λq j c hc=>by
       rw[adE _ _ _ rfl]at hc;rw[adE _ _ _ l1];split
       ·rename_i h1;rw[ahl h1]at hc;exact O0 hle l4 q j c hc
       ·rename_i h1;rw[ahk h1]at hc;split
        ·rename_i h2;rw[ahl h2]at hc;exact O0 hle m4 0 j c hc
        ·rename_i h2;rw[ahk h2]at hc;exact O0 hle l4 (q-1) j c hc)
  |b+3=>hbx.ok (b+3),λb b' k h h'=>hbx.inj b b' k (by rw[Q3];exact h) (by rw[Q3];exact h'),λb k h=>hbx.fresh b k (by rw[Q3];exact h)⟩
 refine⟨⟨v',J,σ,_,_,rfl,⟨rfl,rfl⟩,by rw[<- l1];exact hgv,hag,hdat,hle,hM▸hfr,λb k h=>by simp only[<- Ei];exact hown b k (by rw[Q3];exact h),λk hk hx=>hnew k hk (by simp only[Ei];exact hx),hkeep⟩,?_⟩;cases hX with
 |acs=>trivial
 |rd hr=>unfold aiv at hk;rw[hr]at hk;cases hk
 | ow sg hr hl g dp hin=>
   obtain⟨T,rfl,hT⟩:=ak3 hk hr;obtain⟨s0,e0,hs⟩:=hin.fs (.ref 0 ⟨0,T,0⟩) (by simp[U6,BZ]);obtain⟨s2,e2,hs2⟩:=hin.fs (.ref 2 ⟨0,T,40⟩) (by simp[U6,BZ]);have:s0 = .slice a es.length c:=Fj e0;subst this;obtain⟨kv,cap1,a1,c1,aos,rfl,hn1,hc1,ha1⟩:=q2;have:s2 = .slice a1 1 c1:=Fj e2;subst this;have ea1:=ha1 (by omega);subst ea1;obtain⟨ks,k1,k2,k3⟩:=Z5 hin.good hT hs ZL hn hc ha l1 l2 l3;obtain⟨kx,x1,x2,x3⟩:=Z5 hin.good hT hs2 aos hn1 hc1 (λ_=>rfl) rfl m2 m3;have hcap1:cap1≠0:=(by omega);have ekx:=x2 hcap1;subst ekx;have amO:=x1 kv rfl;obtain⟨kr,cap',a',c',hσ,rfl,hn',hc',ha'⟩:=hgv;have hcap':cap'≠0:=(by omega);have ea':=ha' hcap';subst ea';have hkr:w.heap.size<=kr\/ks=some kr:=by
    rcases hown 2 kr ⟨cap',hσ,hcap'⟩with h|⟨b',h⟩
    ·exact .inl h
    ·right
     match b',h with
     | 0,h=>obtain⟨cp,h1,h2⟩:=h;rw[ZL]at h1;cases h1;exact k2 h2
     | 1,h=>obtain⟨cp,h1,h2⟩:=h;have h3:=hkeep 1 (by simp);have:=hbx.inj 1 2 kr ⟨cp,by rw[h3];exact h1,h2⟩ ⟨cap',hσ,hcap'⟩;omega
     |b'+2,h=>exact h.elim
   obtain⟨cs,e,hw,hcell⟩:=WT (show xP J σ w' 2 (.dat sz (lits (ls.take i++lv::ls.drop i)))from hbx.ok 2) hσ hcap';have gone:∀{b m},g b=some (.arr T (.tag dp m))->m=0\/m=40->(g.re (Ef dp [0,40]) (Pz ks kv kr (i*sz) sz)) b=none:=λh hm=>by rw[Xm,h];simp only[Ef];rcases hm with rfl|rfl<;>simp
   have aik:(g.re (Ef dp [0,40]) (Pz ks kv kr (i*sz) sz)) kr=none:=by
    rcases hkr with h|h
    ·have:g kr=none:=by
      cases hx:g kr with
      |none=>rfl
      |some B=>have:=hin.good.lt hx;omega
     rw[Xm,this]
    ·exact gone (k1 kr h) (.inl rfl)
   have hgood:=hin.good.perm (w':=w') (dr:=Ef dp [0,40]) (φ:=Pz ks kv kr (i*sz) sz) (kr:=kr) (T:=T) (n:=ls.length+1) (p:=.tag dp 20000) (cs:=cs) (e:=e)
    (λk T' p hkk hp j=>⟨rfl,by
     simp only[Pz];rw[ahk,ahk]
     ·rintro rfl;rw[amO]at hkk;cases hkk;simp[Ef]at hp
     ·intro h;rw[k1 k h.symm]at hkk;cases hkk;simp[Ef]at hp⟩)
    (λk hk hx=>hfr.block k hk hx)
    (λk hx=>by
     obtain⟨b,hb⟩:=hx
     match b,hb with
     | 0,hb=>obtain⟨cp,h1,h2⟩:=hb;rw[ZL]at h1;cases h1;exact gone (k1 k0 (k2 h2)) (.inl rfl)
     | 1,hb=>obtain⟨cp,h1,h2⟩:=hb;rw[aos]at h1;cases h1;exact gone amO (.inr rfl)
     |b+2,hb=>exact hb.elim)
    aik hw
    (λj u T' hj hu ht=>by
     rw[hT]at hj ht;have hsz:0<sz:=by
      rcases Nat.eq_zero_or_pos sz with h|h
      ·rw[h]at hj;omega
      ·exact h
     have hr:=Nat.mod_lt j hsz;have hjq:j=j/sz*sz+j%sz:=(by rw[vU];exact(Cb j sz).symm);have hq:j/sz<ls.length+1:=(CJ hsz).2 hj;generalize j/sz=q at hjq hq;generalize hrr:j%sz=r at hjq hr ht;have look:∀{l:List Value},(ls.take i++lv::ls.drop i).getD q []=l->l.length=sz->l[r]? = some u:=λhl hlen=>by have h1:=ax (show r<_ by rw[hlen];exact hr);have h2:=hcell q r _ (by rw[hl];exact h1);rw[<- hjq,hu]at h2;cases h2;exact h1
     have hlen:∀q,q<ls.length->(ls.getD q []).length=sz:=λq hq=>by rw[bf,ax hq];exact l2 _ (dD hq)
     have hx:=adE ls lv q l1;by_cases h1:q<i
     ·rw[ahl h1]at hx;obtain⟨b,hb,hgr⟩:=k3 q r u T' (look hx (hlen q (by omega))) ht;have:=hgr.re (dr:=Ef dp [0,40]) rfl (Pz ks kv kr (i*sz) sz);have hlt:q*sz+r<i*sz:=by
       calc q*sz+r<q*sz+sz:=by omega
        _=(q+1)*sz:=by rw[cO,yj]
        _<=i*sz:=aQ _ h1
      rw[<- hjq]at this hlt;simp only[Pz,hb,amB,ahl hlt]at this;rw[hb];exact this
     ·rw[ahk h1]at hx;by_cases h2:q=i
      ·subst h2;rw[ahl rfl]at hx;obtain⟨b,hb,hgr⟩:=x3 0 r u T' (look hx (m2 lv (aW ..))) ht;cases hb;have:=hgr.re (dr:=Ef dp [0,40]) rfl (Pz ks kv kr (q*sz) sz);simp only[Pz]at this;rw[ahk (aoy k1 amO (λe=>by cases e)),amB,yY,eU,<- hjq]at this;exact this
      ·rw[ahk h2]at hx;obtain⟨b,hb,hgr⟩:=k3 (q-1) r u T' (look hx (hlen (q-1) (by omega))) ht;have:=hgr.re (dr:=Ef dp [0,40]) rfl (Pz ks kv kr (i*sz) sz);have hge:¬(q-1)*sz+r<i*sz:=by
        have:i*sz<=(q-1)*sz:=aQ _ (by omega);omega
       have e1:(q-1)*sz+r+sz=j:=by rw[hjq];have:(q-1)*sz+sz=q*sz:=(by conv=>rhs;rw[show q=(q-1)+1 by omega,cO,yj]);omega
       simp only[Pz,hb,amB,ahk hge,e1]at this;rw[hb];exact this)
   refine⟨_,_,rfl,Rel.perm (Rel.re λd m hd=>⟨by simp only[Ef,pK,alR];left;omega,rfl⟩) aik (hkr.imp id λh=>⟨_,k1 kr h⟩),hgood,λf hf=>?_⟩;have:f = .ref 3 ⟨0,T,20000⟩:=(by simpa[Xe,abX,ad3,BZ]using hf);subst this;exact⟨_,rfl,.inr ⟨kr,_,_,rfl,ahl rfl,by rw[EZ,ahl rfl];exact aA _⟩⟩
theorem alh {f sz:Nat}(hk:ahR P f sz=true){es:List (List Cell)}{i j:Nat}(hi:i<j)(hj:j<=es.length)
 (hz:∀(ls:List (List Value)) (c:Nat),ls.length=es.length->es.length<=c->OA P f [.one (.sub 0 0 ls.length (some c) sz),.one (.c (.lit (.int .i64 (i:Int)))),.one (.c (.lit (.int .i64 (j:Int))))] [.dat sz (lits ls)]
  (λr b=>r = .one (.sub 1 0 (i+(ls.length-j)) (some c) sz)/\b=[.dead,.dat sz (lits (ls.take i++ls.drop j))])) :
 oV P f [.one (.own 0 es.length sz),.one (.c (.lit (.int .i64 (i:Int)))),.one (.c (.lit (.int .i64 (j:Int))))] [.dat sz es]
  (λr b=>r = .one (.own 1 (i+(es.length-j)) sz)/\b=[.dead,.dat sz (es.take i++es.drop j)]):=by
 intro I ρ w vs hT hA hB hV X hX;obtain⟨ls,l1,l2,l3,l4⟩:=Zu (show xP I ρ w 0 (.dat sz es)from hB.ok 0);have Ei:∀b x k,(CO [.dat sz (lits ls)] b).uses x k=(CO [.dat sz es] b).uses x k:=λb x k=>match b with
  |0=>rfl
  |b+1=>rfl
 have hB':BX I ρ w (CO [.dat sz (lits ls)]):=⟨λb=>match b with
  |0=>l3
  |b+1=>hB.ok (b+1),λb b' k h h'=>hB.inj b b' k (by rw[<- Ei];exact h) (by rw[<- Ei];exact h'),λb k h=>hB.fresh b k (by rw[<- Ei];exact h)⟩
 obtain⟨hvl,hvg⟩:=hV;obtain⟨v0,v1,v2,rfl⟩:∃v0 v1 v2,vs=[v0,v1,v2]:=by
  match vs,hvl with
  |[v0,v1,v2],_=>exact⟨v0,v1,v2,rfl⟩
 have q0:=hvg 0 v0 _ rfl rfl;have q1:=hvg 1 v1 _ rfl rfl;have q2:=hvg 2 v2 _ rfl rfl;obtain⟨k0,cap,a,c,ZL,rfl,hn,hc,ha⟩:=q0;have hV':VL I ρ [.slice a es.length c,v1,v2] [.one (.sub 0 0 ls.length (some c) sz),.one (.c (.lit (.int .i64 (i:Int)))),.one (.c (.lit (.int .i64 (j:Int))))]:=by
  refine⟨rfl,λj v x hv hx=>?_⟩
  match j with
  | 0=>cases hv;cases hx;exact⟨k0,cap,a,c,ZL,by rw[l1],by omega,by omega,λc0 h=>by cases h;rfl,λh=>by rw[yY];exact ha (by rcases h with h|⟨_,h⟩<;>omega)⟩
  |1=>cases hv;cases hx;exact q1
  |2=>cases hv;cases hx;exact q2
  |j+3=>cases hv
 refine(hz ls c l1 hn I ρ w _ hT hA hB' hV').mono ?_;rintro e w' ⟨v',J,σ,r,bs,rfl,⟨rfl,rfl⟩,hgv,hag,hbx,hle,hfr,hown,hnew,hkeep⟩;have hM:(λk=>∃b,(CO [.dat sz (lits ls)] b).uses (ρ b) k)=λk=>∃b,(CO [.dat sz es] b).uses (ρ b) k:=by funext k;simp only[Ei]
 have Q3:∀b x k,(CO [.dead,.dat sz (lits (ls.take i++ls.drop j))] b).uses x k=(CO [.dead,.dat sz (es.take i++es.drop j)] b).uses x k:=λb x k=>match b with
  |0=>rfl
  |1=>rfl
  |b+2=>rfl
 have hes:∀e,e∈es->e.length=sz:=by obtain⟨_,_,_,_,_,h,_⟩:=(show xP I ρ w 0 (.dat sz es)from hB.ok 0);exact h
 have adE:∀{α:Type} (l:List (List α)) (q:Nat),l.length=es.length->(l.take i++l.drop j).getD q []=if q<i then l.getD q []else l.getD (q+(j-i)) []:=by
  intro α l q hl;have hti:(l.take i).length=i:=by rw[gW];omega
  simp only[bf];by_cases h1:q<i
  ·rw[ahl h1,bF (by omega),xM h1]
  ·rw[ahk h1,dA (by omega),hti,fV,show j+(q-i)=q+(j-i) by omega]
 have hdat:BX J σ w' (CO [.dead,.dat sz (es.take i++es.drop j)]):=⟨λb=>match b with
  |0=>hbx.ok 0
  | 1 =>ZP (show xP J σ w' 1 (.dat sz (lits (ls.take i++ls.drop j)))from hbx.ok 1) (by simp[l1])
      (λe he=>by
       rcases aY.1 he with he|he
       ·exact hes e (fD he)
       ·exact hes e (kN he))
      (λq j c hc=>by
       rw[adE _ _ rfl]at hc;rw[adE _ _ l1];split
       ·rename_i h1;rw[ahl h1]at hc;exact O0 hle l4 q _ c hc
       ·rename_i h1;rw[ahk h1]at hc;exact O0 hle l4 _ _ c hc)
  |b+2=>hbx.ok (b+2),λb b' k h h'=>hbx.inj b b' k (by rw[Q3];exact h) (by rw[Q3];exact h'),λb k h=>hbx.fresh b k (by rw[Q3];exact h)⟩
 obtain⟨kr,cap',a',c',hσ,rfl,hn',hc',hcc,ha'⟩:=hgv;have:=hcc c rfl;subst this;have hcap':cap'≠0:=by omega
 have ea':=ha' (.inr ⟨rfl,hcap'⟩);rw[yY]at ea';subst ea';refine⟨⟨_,J,σ,_,_,rfl,⟨rfl,rfl⟩,⟨kr,cap',_,c',hσ,by rw[l1],by omega,by omega,λ_=>rfl⟩,hag,hdat,hle,hM▸hfr,λb k h=>by simp only[<- Ei];exact hown b k (by rw[Q3];exact h),λk hk hx=>hnew k hk (by simp only[Ei];exact hx),hkeep⟩,?_⟩;cases hX with
 |acs=>trivial
 |rd hr=>unfold ahR at hk;rw[hr]at hk;cases hk
 | ow sg hr hl g dp hin=>
   obtain⟨T,rfl,hT⟩:=akQ hk hr;obtain⟨s0,e0,hs⟩:=hin.fs (.ref 0 ⟨0,T,0⟩) (by simp[U6,BZ]);have:s0 = .slice a es.length c':=Fj e0;subst this;obtain⟨ks,k1,k2,k3⟩:=Z5 hin.good hT hs ZL hn hc ha l1 l2 l3;have hkr:w.heap.size<=kr\/ks=some kr:=by
    rcases hown 1 kr ⟨cap',hσ,hcap'⟩with h|⟨b',h⟩
    ·exact .inl h
    ·right
     match b',h with
     | 0,h=>obtain⟨cp,h1,h2⟩:=h;rw[ZL]at h1;cases h1;exact k2 h2
     |b'+1,h=>exact h.elim
   obtain⟨cs,e,hw,hcell⟩:=WT (show xP J σ w' 1 (.dat sz (lits (ls.take i++ls.drop j)))from hbx.ok 1) hσ hcap';have gone:∀{b},g b=some (.arr T (.tag dp 0))->(g.re (Ef dp [0]) (UC ks kr (i*sz) (j*sz) ((j-i)*sz))) b=none:=λh=>by rw[Xm,h];simp[Ef]
   have aik:(g.re (Ef dp [0]) (UC ks kr (i*sz) (j*sz) ((j-i)*sz))) kr=none:=by
    rcases hkr with h|h
    ·have:g kr=none:=by
      cases hx:g kr with
      |none=>rfl
      |some B=>have:=hin.good.lt hx;omega
     rw[Xm,this]
    ·exact gone (k1 kr h)
   have hgood:=hin.good.perm (w':=w') (dr:=Ef dp [0]) (φ:=UC ks kr (i*sz) (j*sz) ((j-i)*sz)) (kr:=kr) (T:=T) (n:=i+(ls.length-j)) (p:=.tag dp 20000) (cs:=cs) (e:=e)
    (λk T' p hkk hp j=>⟨rfl,by simp only[UC];rw[ahk];intro h;rw[k1 k h.symm]at hkk;cases hkk;simp[Ef]at hp⟩)
    (λk hk hx=>hfr.block k hk hx)
    (λk hx=>by
     obtain⟨b,hb⟩:=hx
     match b,hb with
     | 0,hb=>obtain⟨cp,h1,h2⟩:=hb;rw[ZL]at h1;cases h1;exact gone (k1 k0 (k2 h2))
     |b+1,hb=>exact hb.elim)
    aik hw
    (λy u T' hy hu ht=>by
     rw[hT]at hy ht;have hsz:0<sz:=by
      rcases Nat.eq_zero_or_pos sz with h|h
      ·rw[h]at hy;omega
      ·exact h
     have hr:=Nat.mod_lt y hsz;have hyq:y=y/sz*sz+y%sz:=(by rw[vU];exact(Cb y sz).symm);have hq:y/sz<i+(ls.length-j):=(CJ hsz).2 hy;generalize y/sz=q at hyq hq;generalize hrr:y%sz=r at hyq hr ht;have look:∀{l:List Value},(ls.take i++ls.drop j).getD q []=l->l.length=sz->l[r]? = some u:=λhl hlen=>by have h1:=ax (show r<_ by rw[hlen];exact hr);have h2:=hcell q r _ (by rw[hl];exact h1);rw[<- hyq,hu]at h2;cases h2;exact h1
     have hlen:∀q,q<ls.length->(ls.getD q []).length=sz:=λq hq=>by rw[bf,ax hq];exact l2 _ (dD hq)
     have hx:=adE ls q l1;by_cases h1:q<i
     ·rw[ahl h1]at hx;obtain⟨b,hb,hgr⟩:=k3 q r u T' (look hx (hlen q (by omega))) ht;have:=hgr.re (dr:=Ef dp [0]) rfl (UC ks kr (i*sz) (j*sz) ((j-i)*sz));have hlt:q*sz+r<i*sz:=by
       calc q*sz+r<q*sz+sz:=by omega
        _=(q+1)*sz:=by rw[cO,yj]
        _<=i*sz:=aQ _ h1
      rw[<- hyq]at this hlt;simp only[UC,hb,amB,ahl hlt]at this;rw[hb];exact this
     ·rw[ahk h1]at hx;obtain⟨b,hb,hgr⟩:=k3 (q+(j-i)) r u T' (look hx (hlen _ (by omega))) ht;have:=hgr.re (dr:=Ef dp [0]) rfl (UC ks kr (i*sz) (j*sz) ((j-i)*sz));have e1:(q+(j-i))*sz+r=y+(j-i)*sz:=(by rw[hyq,cO];omega);have hge:j*sz<=y+(j-i)*sz:=by
       rw[<- e1];have:j*sz<=(q+(j-i))*sz:=aQ _ (by omega);omega
      have apz:¬y+(j-i)*sz<i*sz:=by have:i*sz<=j*sz:=aQ _ (by omega);omega
      rw[e1]at this;simp only[UC,hb,amB,ahk apz,ahl hge,Nat.add_sub_cancel]at this;rw[hb];exact this)
   refine⟨_,_,rfl,Rel.perm (Rel.re λd m hd=>⟨by simp only[Ef,pK,alR];left;omega,rfl⟩) aik (hkr.imp id λh=>⟨_,k1 kr h⟩),hgood,λf hf=>?_⟩;have:f = .ref 3 ⟨0,T,20000⟩:=(by simpa[Xe,abX,ad3,BZ]using hf);subst this;exact⟨_,rfl,.inr ⟨kr,_,_,rfl,ahl rfl,by rw[EZ,ahl rfl];exact aA _⟩⟩
end
end
section
inductive Under (g:Own)(q:yE):Nat->Prop
 |here {k T:Nat} (h:g.b k=some (.arr T q)):Under g q k
 |deep {k T x y:Nat} (h:g.b k=some (.arr T (.blk x y))) (hu:Under g q x):Under g q k
section
variable {g:Own}
theorem Under.trans {q:yE}{b x c:Nat}(h:Under g (.blk b x) c)(hb:Under g q b):Under g q c:=by
 induction h with
 |here h=>exact .deep h hb
 |deep h _ ih=>exact .deep h ih
theorem Under.ajK {d m d' m' b:Nat}(h:Under g (.tag d m) b)(h':Under g (.tag d' m') b):d=d'/\m=m':=by
 induction h with
 | here h=>
   cases h' with
   |here h2=>rw[h]at h2;cases h2;exact⟨rfl,rfl⟩
   |deep h2 _=>rw[h]at h2;cases h2
 | deep h _ ih=>
   cases h' with
   |here h2=>rw[h]at h2;cases h2
   |deep h2 u2=>rw[h]at h2;cases h2;exact ih u2
theorem Under.irrefl {d m b:Nat}(h:Under g (.tag d m) b):∀x,¬Under g (.blk b x) b:=by
 induction h with
 | here h=>
   intro x hx;cases hx with
   |here h2=>rw[h]at h2;cases h2
   |deep h2 _=>rw[h]at h2;cases h2
 | deep h _ ih=>
   intro x hx;cases hx with
   | here h2=>rw[h]at h2;cases h2;exact ih _ (.here h)
   | deep h2 u2=>rw[h]at h2;cases h2;exact ih _ (u2.trans (.here h))
theorem Under.ajk {d m k x y b:Nat}(hk:Under g (.tag d m) k)(h:Under g (.blk k x) b)(h':Under g (.blk k y) b):x=y:=by
 induction h with
 | here h=>
   cases h' with
   |here h2=>rw[h]at h2;cases h2;rfl
   |deep h2 u2=>rw[h]at h2;cases h2;exact al7 u2 (hk.irrefl _)
 | deep h u ih=>
   cases h' with
   |here h2=>rw[h]at h2;cases h2;exact al7 u (hk.irrefl _)
   |deep h2 u2=>rw[h]at h2;cases h2;exact ih u2
theorem Under.owned {q:yE}{b:Nat}(h:Under g q b):∃T p,g b=some (.arr T p):=by
 cases h with
 |here h=>exact⟨_,_,h⟩
 |deep h _=>exact⟨_,_,h⟩
end
def PW (g:Own)(q:yE):Prop:=(∃d m,q = .tag d m)\/∃k j d m,q = .blk k j/\Under g (.tag d m) k
theorem PW.under {g:Own}{q:yE}(h:PW g q){k:Nat}(hk:Under g q k):∃d m,Under g (.tag d m) k:=by
 rcases h with⟨d,m,rfl⟩|⟨k',j,d,m,rfl,hu⟩
 ·exact⟨d,m,hk⟩
 ·exact⟨d,m,hk.trans hu⟩
inductive OD (P:Program):Nat->Cell->Prop
 | sl (T sz:Nat) (es:List (List Cell)) (t:Nat->Nat) (hs:wz P T=sz) (h1:∀i j sz' es',(es.getD i [])[j]? = some (.sl sz' es')->(j,t j)∈lZ P T)
   (h2:∀i j sz' es',(es.getD i [])[j]? = some (.sl sz' es')->OD P (t j) (.sl sz' es')):OD P T (.sl sz es)
theorem ac6 {I J:IH}{a:Addr}(h:J a.block=I a.block):J.cell a=I.cell a:=by unfold IH.cell;rw[h]
theorem Rd.Rj {I J:IH}{v x:Value}(h:Rd I x (.lit v)):Rd J x (.lit v):=by cases h with|lit _ hv=>exact .lit _ hv
theorem Rd.RX {I J:IH}{l:List UInt8}{x:Value}(h:Rd I x (.str l)):Rd J x (.str l):=by cases h with|str _ hl=>exact .str _ hl
section
variable {P:Program} {g:Own} {w:World} {I J J':IH}
theorem VX (hg:Good P g w)(hA:Agree J w){k n T sz i j:Nat}{q:yE}{u:Value}(hk:g.at k n T q)(hs:wz P T=sz)(hi:i<n)(hj:j<sz)(hc:J.cell ((⟨k,0,none⟩:Addr).add (i*sz+j))=some u){T':Nat}(ht:(j,T')∈lZ P T) :
 GR g u T' (.blk k (i*sz+j)):=by
 obtain⟨cs,e,hw,hown⟩:=hg.arr _ _ _ hk.1;have hc':=hA.cell hc;rw[Addr.tJ,eU]at hc';simp only[gI,hw]at hc';refine hown _ u T' ?_ (by simpa using hc') (by rw[hs,Jj hj];exact ht);rw[hs]
 calc i*sz+j<i*sz+sz:=by omega
  _=(i+1)*sz:=by rw[cO,yj]
  _<=_:=aQ _ (bH hi hk.2)
theorem ah7 {α:Type}{es:List (List α)}{i j sz:Nat}{c:α}(hs:∀e,e∈es->e.length=sz)(h:(es.getD i [])[j]? = some c):i<es.length/\j<sz:=by
 have hi:i<es.length:=by
  rcases Iy i es.length with h'|h'
  ·exact h'
  ·rw[bf,kF h']at h;simp at h
 refine⟨hi,?_⟩;have h6:=(aK.1 h).1;rw[bf,ax hi]at h6;simp only[jQ]at h6
 rwa[hs _ (dD hi)]at h6
theorem Rd.under (hg:Good P g w)(hA:Agree J w){v:Value}{c:Cell}(h:Rd J v c):∀{T:Nat} {q:yE},GR g v T q->OD P T c->(∀b,Under g q b->J' b=J b)->Rd J' v c:=by
 induction h with
 |lit v hv=>intro _ _ _ _ _;exact .lit v hv
 |str l h=>intro _ _ _ _ _;exact .str l h
 | sl a len cap sz es u hlen hcap hmax hsz ha hcell hr ih=>
   intro T q hgr hty hJ;cases hty with
   |sl _ _ _ t hs h1 h2=>
   rcases hgr with e|⟨k,n',c',e,hk⟩
   ·cases e;have:es=[]:=vM.1 hlen;subst this;exact .sl none 0 0 sz [] u hlen hcap hmax hsz ha (λad e=>by cases e) (λi j c hc=>by simp at hc)
   ·cases e;have hJk:=hJ k (.here hk.1);refine .sl _ _ _ sz es u hlen hcap hmax hsz ha (λad e i j hi hj=>?_) (λi j c hc=>?_)
    ·cases e;have h0:=hcell _ rfl i j hi hj;rw[Addr.tJ]at h0⊢;rw[ac6 (J:=J') (I:=J) hJk];exact h0
    ·obtain⟨hi,hj⟩:=ah7 hsz hc;cases c with
     |lit v'=>exact(hr i j _ hc).Rj
     |str l=>exact(hr i j _ hc).RX
     | sl sz' es'=>exact ih i j _ hc (VX hg hA hk hs (by omega) hj (hcell _ rfl i j (by omega) hj) (h1 i j _ _ hc)) (h2 i j _ _ hc) (λb hb=>hJ b (hb.trans (.here hk.1)))
theorem Rd.upd (hg:Good P g w)(hA:Agree J w){k n cap T sz i j:Nat}{q:yE}{es:List (List Cell)}(hk:g.at k n T q)(hroot:PW g q)(h:Rd J (.slice (some ⟨k,0,none⟩) n cap) (.sl sz es))(hty:OD P T (.sl sz es))(hi:i<n)(hj:j<sz){u':Value}{c':Cell}
 (hcell:∀y,J'.cell ⟨k,y,none⟩=if y=i*sz+j then some u' else J.cell ⟨k,y,none⟩) (hother:∀y b,y≠i*sz+j->Under g (.blk k y) b->J' b=J b) (hc':Rd J' u' c') :
 Rd J' (.slice (some ⟨k,0,none⟩) n cap) (.sl sz (es.set i ((es.getD i []).set j c'))):=by
 cases h with
 |sl _ _ _ _ _ u hlen hcap hmax hsz ha hcl hr=>
 cases hty with
 |sl _ _ _ t hs h1 h2=>
 have inj:∀{i' j'},j'<sz->i'*sz+j'=i*sz+j->i'=i/\j'=j:=λ{i' j'} hj' e=>by
  have e1:(i'*sz+j')%sz=j':=Jj hj';have e2:(i*sz+j)%sz=j:=Jj hj;have e3:j'=j:=by rw[<- e1,<- e2,e]
  subst e3;have e4:i'*sz=i*sz:=by omega
  exact⟨Nat.eq_of_mul_eq_mul_right (by omega) e4,rfl⟩
 have hget:∀i' j',((es.set i ((es.getD i []).set j c')).getD i' [])[j']? = if i'=i/\j'=j then some c' else(es.getD i' [])[j']?:=by
  intro i' j';simp only[bf,qG];by_cases e:i=i'
  ·subst e;rw[ahl rfl,ahl (by omega)];simp only[jQ,qG];by_cases e2:j=j'
   ·subst e2;have hl:j<(es[i]?.getD []).length:=(by rw[ax (by omega),jQ,hsz _ (dD _)];exact hj);rw[ahl rfl,ahl hl];simp
   ·rw[ahk e2,ahk (λh=>e2 h.2.symm)]
  ·rw[ahk e,ahk (λh=>e h.1.symm)]
 refine .sl _ _ _ sz _ (λi' j'=>if i'=i/\j'=j then u' else u i' j') (by simpa using hlen) hcap hmax (λe he=>?_) ha (λad e i' j' hi' hj'=>?_) (λi' j' c hc=>?_)
 ·rcases List.mem_or_eq_of_mem_set he with he|he
  ·exact hsz e he
  ·subst he;rw[List.length_set,bf,ax (by omega),jQ];exact hsz _ (dD _)
 ·cases e;have h0:=hcl _ rfl i' j' hi' hj';rw[Addr.tJ,eU]at h0⊢;rw[hcell];by_cases e:i'=i/\j'=j
  ·obtain⟨rfl,rfl⟩:=e;simp
  ·rw[ahk (λe2=>e (inj hj' e2)),h0];simp[e]
 ·rw[hget]at hc;by_cases e:i'=i/\j'=j
  ·rw[ahl e]at hc;cases hc;simp only[ahl e];exact hc'
  ·rw[ahk e]at hc;simp only[ahk e];obtain⟨hi',hj'⟩:=ah7 hsz hc;cases c with
   |lit v'=>exact(hr i' j' _ hc).Rj
   |str l=>exact(hr i' j' _ hc).RX
   | sl sz' es'=>exact(hr i' j' _ hc).under hg hA (VX hg hA hk hs (by omega) hj' (hcl _ rfl i' j' (by omega) hj') (h1 i' j' _ _ hc)) (h2 i' j' _ _ hc) (λb hb=>hother _ b (λe2=>e (inj hj' e2)) hb)
end
end
end Go.Ab
