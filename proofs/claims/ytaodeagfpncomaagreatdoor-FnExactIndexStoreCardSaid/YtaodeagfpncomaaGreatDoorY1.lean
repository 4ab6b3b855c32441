/- What abstract codes mean (part 1). No conditions. -/
import Derived.Below
import Derived.OwnWalk
import Derived.Orders
import Derived.Lib.Bytealg
import Derived.Lib.Overlaps
import Derived.Laws.Externs
import Derived.KernelRfl
import Derived.Lib.ItoaNum
import Derived.Laws.Cells
import Derived.Lib.Strings
import Derived.Laws.BytesString
import Derived.Laws.MakeOwn
import Derived.Laws.Tables
import Derived.Laws.CopyRow
import Derived.Laws.AppendOwn
import Derived.Laws.OwnMore
import Derived.Tactics
import Derived.Shelf.Strings.Builder1
import Derived.Shelf.Strconv.Itoa3
import Derived.Lib.AppendIntMem
import Derived.Sort.LotA
import Derived.Shelf.SlSortCmp.SmallK
import Derived.Shelf.SlSortCmp.NoneTotal
import Derived.Test.YtaodeagfpncomaaGreatDoorProg
import Derived.Lib.ItoaLen
import Derived.ProofKit
import Derived.Lib.LaidTab
import Derived.OpenShut
import Derived.Carry
import Derived.Stop.LaidErr
import Derived.Shelf.Vars
import Derived.Test.YtaodeagfpncomaaGreatDoorCards
import Derived.Test.YtaodeagfpncomaaGreatDoorTie
import Derived.Deep.DeepHandedRow
import Derived.Deep.DeepWitnessRowRef
import Derived.Lay
set_option linter.unusedVariables false
set_option linter.unusedSimpArgs false
open Array renaming getElem?_eq_some_iff->bY,getD_eq_getD_getElem?->dm,length_toList->fE,getElem?_eq_getElem->iE,getElem?_map->jZ,getElem?_range->kM,range->nG,getElem?_eq_none->nS,getElem?_toList->ou,empty_append->pU,ext'->sS,size_append->tC,getElem?_push->vX
open BitVec renaming ofInt->wL
open Bool renaming and_eq_true->af,not_eq_true'->gG,false_eq_true->kz
open Go.Act renaming put->fO
open Go.Addr renaming add->xA
open Go.Builtin renaming zeroCells->bT,firstCells->dZ,append_->fQ,copy_->je,lenOf->lU,clear_->wV,len_->yj
open Go.Deferred renaming ofValue->rZ
open Go.Extern renaming findNext->nO,allNextRows->oz,allGenericRows->pO,allTypedRows->qJ,find->qg,allRows->wW
open Go.Extern.SlicesOverlaps renaming overlaps->qf
open Go.Instr renaming sureAddr->iw,loadAt->kN,fill->mg,indexAt->oH,sliceAt->qN,sliceBounds->rJ,fieldAt->uk,storeAt->um,alloc->vk,slice->vw,extract->xI,field->yE
open Go.IntKind renaming i64->qh
open Go.Lib renaming compareBytes->lV
open Go.Op renaming bytesLess->gu,equalIn->sU,intArith->yF
open Go.Result renaming andThen_ok->aO
open Go.Sem renaming run_pure->aZ,run_bind->bC
open Go.Value renaming cells->jD,pointer->kV,int->wO
open Go.World renaming cell?->dY,frozen?->xK
open Int renaming toNat_natCast->ax,natCast_mul->yl,ofNat_le->zI
open List renaming map_take->ED,all_eq_true->aB,mem_filter->aC,mem_map->aG,mem_cons_self->aJ,getElem?_map->aP,getElem?_append_left->aX,getElem?_eq_getElem->ai,mem_cons->au,getElem?_eq_some_iff->ay,replicate->bG,mem_filterMap->bK,getElem?_append_right->bZ,map_cons->bf,mem_append->bg,getElem?_take->bn,getD->bu,eq_nil_of_length_eq_zero->dL,getElem?_drop->dS,mem_of_getElem?->dX,mem_of_mem_take->fJ,getElem?_eq_none->iq,all_cons->iy,map_toArray->jC,foldl_cons->jL,length_map->jM,length_cons->jU,map_nil->kF,size_toArray->kQ,length_take->kW,length_append->kZ,length_nil->lF,getElem?_set->lI,append_nil->mJ,getElem?_of_mem->mY,mem_of_mem_drop->mZ,eq_of_mem_replicate->nC,nil_append->nN,append_assoc->nX,getElem?_range->o8,mem_or_eq_of_mem_set->o9,getElem?_zip_eq_some->sW,take_zero->vF,replicate_succ->wu,length_replicate->zB
open Nat renaming mul_one->AP,le_refl->aA,mul_le_mul_right->aH,add_mul->bJ,zero_add->dF,le_trans->dh,min->di,lt_of_lt_of_le->fU,beq->iV,add_zero->kG,add_assoc->lH,mul_comm->lN,mod_eq_of_lt->oK,add_comm->pG,mod_lt->qV,mul_add->sD,lt_irrefl->sZ,le_of_not_lt->uy,min_comm->wP,div_eq_of_lt->xO,mul_add_div->yu
open Option renaming map_some->iZ,isNone_iff_eq_none->ni,map_none->uO
open Option.some renaming injEq->aI
open Prod.mk renaming injEq->cZ
open UInt8 renaming ofNat->jv
namespace Go.Ab
open Go
theorem zx {p:Prop}(h:p:=by decide):p:=h
theorem kY {p:Prop}(h:p:=by simp):p:=h
theorem lY {p:Prop}(h:p:=by kernel_rfl):p:=h
theorem aQ {p:Prop}(h:p:=by omega):p:=h
abbrev dO :=@absurd
abbrev aK :=@beq_iff_eq
abbrev oW :=@congrArg
abbrev bP :=@decide_eq_false
abbrev bH :=@decide_eq_false_iff_not
abbrev dK :=@decide_eq_true
abbrev ak :=@decide_eq_true_eq
abbrev aj :=@if_neg
abbrev aF :=@if_pos
abbrev iT :=@if_true
abbrev IH :=Nat->Option (Array Value)
def IH.cell (I:IH)(a:Addr):Option Value:=
 if a.spot.isSome then none else match I a.block with
  |some c=>c[a.off]?
  |none=>none
def IH.le (I J:IH):Prop:=∀b c,I b=some c->J b=some c
theorem IH.le_refl (I:IH):I.le I:=λ_ _ h=>h
theorem IH.le_trans {I J K:IH}(h:I.le J)(k:J.le K):I.le K:=λb c e=>k b c (h b c e)
theorem IH.J6 {I J:IH}(h:I.le J){a:Addr}{v:Value}(hc:I.cell a=some v):J.cell a=some v:=by
 unfold IH.cell at *;split at hc
 ·cases hc
 ·cases hb:I a.block with
  |none=>simp[hb]at hc
  |some c=>simp[hb]at hc;rename_i hs;simp[hs,h _ _ hb,hc]
def Agree (I:IH)(w:World):Prop:=∀b c,I b=some c->∃e fr,w.heap[b]? = some (.cells c e fr)
theorem Agree.cell {I:IH}{w:World}(h:Agree I w){a:Addr}{v:Value}(hc:I.cell a=some v):w.cell? a=some v:=by
 unfold IH.cell at hc;split at hc
 ·cases hc
 ·cases hb:I a.block with
  |none=>simp[hb]at hc
  | some c=>obtain⟨e,fr,hw⟩:=h _ _ hb;rename_i hs;simp[hb]at hc;simp[dY,hw,hs,hc]
theorem qM {w:World}{b:Nat}{o:Obj}(h:w.heap[b]? = some o):b<w.heap.size:=(bY.1 h).1
theorem Agree.lt {I:IH}{w:World}(h:Agree I w){b:Nat}{c:Array Value}(hc:I b=some c):b<w.heap.size:=by obtain⟨e,fr,hw⟩:=h _ _ hc;exact qM hw
inductive Cell where
 |lit (v:Value)
 |str (l:List UInt8)
 |sl (sz:Nat) (es:List (List Cell))
 deriving Inhabited
inductive Rd (I:IH):Value->Cell->Prop
 |lit (v:Value) (hv:v.oneCell'=true):Rd I v (.lit v)
 |str (l:List UInt8) (h:l.length<=maxLen):Rd I (.string ⟨⟨l⟩⟩) (.str l)
 |sl (a:Option Addr) (len cap sz:Nat) (es:List (List Cell)) (u:Nat->Nat->Value)
     (hlen:es.length=len) (hcap:len<=cap) (hmax:cap<=maxLen) (hsz:∀e,e∈es->e.length=sz)
     (ha:0<len->a≠none)
     (hcell:∀ad,a=some ad->∀i j,i<len->j<sz->I.cell (ad.add (i*sz+j))=some (u i j))
     (hr:∀i j c,(es.getD i [])[j]? = some c->Rd I (u i j) c):Rd I (.slice a len cap) (.sl sz es)
theorem Rd.mono {I J:IH}(hle:I.le J){v:Value}{c:Cell}(h:Rd I v c):Rd J v c:=by
 induction h with
 |lit v hv=>exact .lit v hv
 |str l h=>exact .str l h
 | sl a len cap sz es u hlen hcap hmax hsz ha hcell hr ih=>exact .sl a len cap sz es u hlen hcap hmax hsz ha (λad e i j hi hj=>IH.J6 hle (hcell ad e i j hi hj)) ih
theorem Rd.one {I:IH}{v:Value}{c:Cell}(h:Rd I v c):v.oneCell'=true:=by
 cases h with
 |lit v hv=>exact hv
 |str l h=>rfl
 |sl=>rfl
inductive AC where
 |c (x:Cell)
 |ptr (b off:Nat)
 |own (b n sz:Nat)
 |ug (b i sz off:Nat)
 |sub (b lo n:Nat) (c:Option Nat) (sz:Nat)
 |wC (sz:Nat)
 |zQ (cs:List Cell)
 |fn (f:FuncId) (caps:List Nat)
 |opt (T b:Nat)
 |FH (b n:Nat)
 |err (g:Bool)
 |Ee
 deriving Inhabited
abbrev Ren :=Nat->Option (Nat×Nat)
def Ren.le (ρ σ:Ren):Prop:=∀b x,ρ b=some x->σ b=some x
theorem Ren.le_refl (ρ:Ren):ρ.le ρ:=λ_ _ h=>h
def GC (I:IH)(ρ:Ren)(v:Value):AC->Prop
 |.c x=>Rd I v x
 |.ptr b off=>∃k cap,ρ b=some (k,cap)/\v = .pointer (some ⟨k,off,none⟩)
 |.own b n _=>∃k cap a c,ρ b=some (k,cap)/\v = .slice a n c/\n<=c/\c<=cap/\(cap≠0->a=some ⟨k,0,none⟩)
 |.ug b i sz off=>∃k cap,ρ b=some (k,cap)/\v = .pointer (some ⟨k,i*sz+off,none⟩)
 |.sub b lo n c sz=>∃k cap a c',ρ b=some (k,cap)/\v = .slice a n c'/\n<=c'/\lo+c'<=cap/\(∀c0,c=some c0->c'=c0)/\(c'≠0\/(lo=0/\cap≠0)->a=some ⟨k,lo*sz,none⟩)
 |.wC _=>v = .slice none 0 0
 |.zQ cs=>∃p:Addr,v = .pointer (some p)/\∀(j:Nat) (c:Cell),cs[j]? = some c->∃u,I.cell (p.add j)=some u/\Rd I u c
 |.fn f caps=>∃ks:List Nat,ks.length=caps.length/\(∀(j b k:Nat),caps[j]? = some b->ks[j]? = some k->∃cap,ρ b=some (k,cap)) /\
  v = .func (.func f) #[] (ks.map λk=>kV (some ⟨k,0,none⟩)).toArray
 |.opt T b=>∃k,ρ b=some (k,T)/\(v = .pointer none\/v = .pointer (some ⟨k,0,none⟩))
 |.FH b n=>∃k cap,ρ b=some (k,cap)/\n<=cap/\((cap=0/\v = .slice none 0 0)\/(cap≠0/\v = .slice (some ⟨k,0,none⟩) n cap))
 |.err g=>if g=true then ∃t p,v = .iface t p else v = .nilIface
 |.Ee=>v.oneCell'=true
theorem GC.mono {I J:IH}(hle:I.le J){ρ σ:Ren}(hr:ρ.le σ){v:Value}{x:AC}(h:GC I ρ v x):GC J σ v x:=by
 cases x with
 |c x=>exact Rd.mono hle h
 |ptr b off=>obtain⟨k,cap,h1,h2⟩:=h;exact⟨k,cap,hr _ _ h1,h2⟩
 |own b n sz=>obtain⟨k,cap,a,c,h1,h2⟩:=h;exact⟨k,cap,a,c,hr _ _ h1,h2⟩
 |ug b i sz off=>obtain⟨k,cap,h1,h2⟩:=h;exact⟨k,cap,hr _ _ h1,h2⟩
 |sub b lo n c sz=>obtain⟨k,cap,a,c',h1,h2⟩:=h;exact⟨k,cap,a,c',hr _ _ h1,h2⟩
 |wC sz=>exact h
 | zQ cs=>obtain⟨p,hv,hc⟩:=h;exact⟨p,hv,λj c hj=>let ⟨u,h1,h2⟩:=hc j c hj;⟨u,IH.J6 hle h1,h2.mono hle⟩⟩
 | fn f caps=>obtain⟨ks,h1,h2,h3⟩:=h;exact⟨ks,h1,λj b k hb hk=>let ⟨cap,hc⟩:=h2 j b k hb hk;⟨cap,hr _ _ hc⟩,h3⟩
 |opt T b=>obtain⟨k,h1,h2⟩:=h;exact⟨k,hr _ _ h1,h2⟩
 |FH b n=>obtain⟨k,cap,h1,h2⟩:=h;exact⟨k,cap,hr _ _ h1,h2⟩
 |err g=>exact h
 |Ee=>exact h
theorem GC.one {I:IH}{ρ:Ren}{v:Value}{x:AC}(h:GC I ρ v x):v.oneCell'=true:=by
 cases x with
 |c x=>exact Rd.one h
 |ptr b off=>obtain⟨k,cap,h1,rfl⟩:=h;rfl
 |own b n sz=>obtain⟨k,cap,a,c,h1,rfl,_⟩:=h;rfl
 |ug b i sz off=>obtain⟨k,cap,h1,rfl⟩:=h;rfl
 |sub b lo n c sz=>obtain⟨k,cap,a,c',h1,rfl,_⟩:=h;rfl
 |wC sz=>simp only[GC]at h;subst h;rfl
 |zQ cs=>obtain⟨p,rfl,hc⟩:=h;rfl
 |fn f caps=>obtain⟨ks,h1,h2,rfl⟩:=h;rfl
 |opt T b=>obtain⟨k,h1,rfl|rfl⟩:=h<;>rfl
 |FH b n=>obtain⟨k,cap,h1,_,⟨_,rfl⟩|⟨_,rfl⟩⟩:=h<;>rfl
 | err g=>
   simp only[GC]at h;split at h
   ·obtain⟨t,p,rfl⟩:=h;rfl
   ·subst h;rfl
 |Ee=>exact h
inductive Box where
 |absent
 |dead
 |var (xs:List AC)
 |dat (sz:Nat) (es:List (List Cell))
 |AU (sz:Nat) (es:List (List Cell))
 |row (e:Nat) (l:List UInt8)
 deriving Inhabited
def Box.uses (x:Box)(p:Option (Nat×Nat))(k:Nat):Prop:=
 match x with
 |.var _=>∃cap,p=some (k,cap)
 |.dat _ _=>∃cap,p=some (k,cap)/\cap≠0
 |.row _ _=>∃cap,p=some (k,cap)/\cap≠0
 |_=>False
def vG (I:IH)(ρ:Ren)(w:World)(b:Nat):Box->Prop
 |.absent=>ρ b=none
 |.dead=>True
 |.var xs=>∃k cap cs,ρ b=some (k,cap)/\w.heap[k]? = some (.cells cs cap (0,0))/\cs.size=xs.length /\
  ∀(j:Nat) (u:Value) (x:AC),cs[j]? = some u->xs[j]? = some x->GC I ρ u x
 |.dat sz es=>∃k cap,ρ b=some (k,cap)/\es.length<=cap/\cap<=maxLen/\(∀e,e∈es->e.length=sz) /\
  (cap≠0->∃cs e,w.heap[k]? = some (.cells cs e (0,0))/\cs.size=cap*sz/\(∀(j:Nat) (u:Value),cs[j]? = some u->u.oneCell'=true) /\
   ∀(i j:Nat) (c:Cell),(es.getD i [])[j]? = some c->∃u,cs[i*sz+j]? = some u/\Rd I u c)
 |.AU sz es=>∃k cap,ρ b=some (k,cap)/\es.length<=cap/\cap<=maxLen/\(∀e,e∈es->e.length=sz) /\
  (cap≠0->∃cs,I k=some cs /\
   ∀(i j:Nat) (c:Cell),(es.getD i [])[j]? = some c->∃u,cs[i*sz+j]? = some u/\Rd I u c)
 |.row e l=>∃k cap,ρ b=some (k,cap)/\l.length<=cap/\cap<=maxLen /\
  (cap≠0->∃cs,w.heap[k]? = some (.cells cs e (0,0))/\cs.size=cap/\(∀(j:Nat) (u:Value),cs[j]? = some u->u.oneCell'=true) /\
   ∀(j:Nat) (x:UInt8),l[j]? = some x->cs[j]? = some (.int .u8 x.toNat))
structure BX (I:IH)(ρ:Ren)(w:World)(bx:Nat->Box):Prop where
 ok:∀b,vG I ρ w b (bx b)
 inj:∀b b' k,(bx b).uses (ρ b) k->(bx b').uses (ρ b') k->b=b'
 fresh:∀b k,(bx b).uses (ρ b) k->I k=none
theorem vG.lt {I:IH}{ρ:Ren}{w:World}{b k:Nat}{x:Box}(h:vG I ρ w b x)(hu:x.uses (ρ b) k):k<w.heap.size:=by
 cases x with
 |absent=>exact hu.elim
 |dead=>exact hu.elim
 | var xs=>obtain⟨k',cap,cs,hr,hw,_⟩:=h;obtain⟨cap',hu⟩:=hu;rw[hr]at hu;simp only[aI,cZ]at hu;rw[<- hu.1];exact qM hw
 |AU sz es=>exact hu.elim
 | row e l=>obtain⟨k',cap,hr,_,_,h⟩:=h;obtain⟨cap',hu,h0⟩:=hu;rw[hr]at hu;simp only[aI,cZ]at hu;obtain⟨rfl,rfl⟩:=hu;obtain⟨cs,hw,_⟩:=h h0;exact qM hw
 | dat sz es=>obtain⟨k',cap,hr,_,_,_,h⟩:=h;obtain⟨cap',hu,h0⟩:=hu;rw[hr]at hu;simp only[aI,cZ]at hu;obtain⟨rfl,rfl⟩:=hu;obtain⟨cs,e,hw,_⟩:=h h0;exact qM hw
inductive AV where
 |one (x:AC)
 |agg (xs:List AC)
 |Bl (xs:List (Bool×List AC))
 deriving Inhabited
def EE (I:IH)(ρ:Ren)(vs:List Value)(xs:List AC):Prop:=
 vs.length=xs.length/\∀(j:Nat) (v:Value) (x:AC),vs[j]? = some v->xs[j]? = some x->GC I ρ v x
theorem EE.mono {I J:IH}(hle:I.le J){ρ σ:Ren}(hr:ρ.le σ){vs:List Value}{xs:List AC}(h:EE I ρ vs xs):EE J σ vs xs:=
 ⟨h.1,λj v x hv hx=>(h.2 j v x hv hx).mono hle hr⟩
def GP (I:IH)(ρ:Ren)(v:Value)(p:Bool×List AC):Prop:=
 if p.1 then ∃cs:Array Value,v = .agg cs/\EE I ρ cs.toList p.2 else ∃x,p.2=[x]/\GC I ρ v x
def GV (I:IH)(ρ:Ren)(v:Value):AV->Prop
 |.one x=>GC I ρ v x
 |.agg xs=>∃cs:Array Value,v = .agg cs/\EE I ρ cs.toList xs
 |.Bl ps=>∃vs:Array Value,v = .tuple vs/\vs.size=ps.length/\∀(j:Nat) (v:Value) (p:Bool×List AC),vs[j]? = some v->ps[j]? = some p->GP I ρ v p
theorem GP.mono {I J:IH}(hle:I.le J){ρ σ:Ren}(hr:ρ.le σ){v:Value}{p:Bool×List AC}(h:GP I ρ v p):GP J σ v p:=by
 unfold GP at *;split<;>rename_i hp
 ·rw[aF hp]at h;obtain⟨cs,e,hc⟩:=h;exact⟨cs,e,hc.mono hle hr⟩
 ·rw[aj hp]at h;obtain⟨x,e,hc⟩:=h;exact⟨x,e,hc.mono hle hr⟩
theorem GV.mono {I J:IH}(hle:I.le J){ρ σ:Ren}(hr:ρ.le σ){v:Value}{x:AV}(h:GV I ρ v x):GV J σ v x:=by
 cases x with
 |one x=>exact GC.mono hle hr h
 |agg xs=>obtain⟨cs,e,hc⟩:=h;exact⟨cs,e,hc.mono hle hr⟩
 |Bl ps=>obtain⟨vs,e,hl,hc⟩:=h;exact⟨vs,e,hl,λj v p hv hp=>(hc j v p hv hp).mono hle hr⟩
inductive Slot where
 |none
 |v (g:Bool) (x:AV)
def Ub (I:IH)(ρ:Ren)(v:Value):Slot->Prop
 |.none=>True
 |.v g x=>(g=true->GV I ρ v x)/\(g=false->v=undef)
theorem Ub.mono {I J:IH}(hle:I.le J){ρ σ:Ren}(hr:ρ.le σ){v:Value}{s:Slot}(h:Ub I ρ v s):Ub J σ v s:=by
 cases s with
 |none=>trivial
 |v g x=>exact⟨λhg=>(h.1 hg).mono hle hr,h.2⟩
structure eH where
 tm:Nat->Slot
 bx:Nat->Box
theorem eH.ext' {s t:eH}(h1:s.tm=t.tm)(h2:s.bx=t.bx):s=t:=by cases s;cases t;simp at h1 h2;rw[h1,h2]
def eH.put (st:eH)(t:Nat)(s:Slot):eH:=⟨λt'=>if t'=t then s else st.tm t',st.bx⟩
def eH.rX (st:eH)(b:Nat)(x:Box):eH:=⟨st.tm,λb'=>if b'=b then x else st.bx b'⟩
theorem eH.MJ (st:eH)(t t':Nat)(s:Slot):(st.put t s).tm t'=if t'=t then s else st.tm t':=rfl
theorem eH.ae4 (st:eH)(t:Nat)(s:Slot):(st.put t s).bx=st.bx:=rfl
theorem eH.adq (st:eH)(b:Nat)(x:Box):(st.rX b x).tm=st.tm:=rfl
theorem eH.lC (st:eH)(b b':Nat)(x:Box):(st.rX b x).bx b'=if b'=b then x else st.bx b':=rfl
structure GS (I:IH)(ρ:Ren)(n:Nat)(st:eH)(a:Act)(w:World):Prop where
 agree:Agree I w
 bx:BX I ρ w st.bx
 tm:∀t,t<n->Ub I ρ (a.tmps.getD t undef) (st.tm t)
 size:a.tmps.size=n
 defers:a.defers=[]
structure wZ (w w':World)(M:Nat->Prop):Prop where
 os:w'.os=w.os
 tape:w'.tape=w.tape
 output:w'.output=w.output
 size:w.heap.size<=w'.heap.size
 block:∀k,k<w.heap.size->¬M k->w'.heap[k]? = w.heap[k]?
 drawn:w.drawn<=w'.drawn
theorem wZ.refl (w:World)(M:Nat->Prop):wZ w w M:=⟨rfl,rfl,rfl,aA _,λ_ _ _=>rfl,aA _⟩
theorem wZ.trans {a b c:World}{M N:Nat->Prop}(h:wZ a b M)(k:wZ b c N)(hN:∀x,x<a.heap.size->N x->M x):wZ a c M:=
 ⟨k.os.trans h.os,k.tape.trans h.tape,k.output.trans h.output,dh h.size k.size,
  λx hx hm=>(k.block x (fU hx h.size) (λhn=>hm (hN x hx hn))).trans (h.block x hx hm),dh h.drawn k.drawn⟩
inductive jR where
 |t (s:Nat)
 |k (x:AC)
 deriving Inhabited
def Slot.g : Slot->Bool
 |.none=>false
 |.v g _=>g
def Slot.x : Slot->AV
 |.none=>.one .Ee
 |.v _ x=>x
def jR.ev (tm:Nat->Slot):jR->Slot
 |.t s=>tm s
 |.k x=>.v true (.one x)
def jR.slots : jR->List Nat
 |.t s=>[s]
 |.k _=>[]
inductive kH where
 |mv (x:jR)
 |pick (c a b:jR)
 |load (agg:Bool) (k:Nat) (p:jR)
 |store (agg:Bool) (k:Nat) (p x:jR)
 |alloc (l:Nat) (zs:List AC)
 |Ip (T e l r:Nat)
 |Io (l sz n:Nat) (zs:List Cell)
 |box (l:Nat) (x:jR)
 |build (zs:List AC) (parts:List (Nat×Nat×jR))
 |uZ (l sz n:Nat) (zs:List Cell) (parts:List (Nat×jR))
 |makes (l sz bytes:Nat) (zs:List Cell) (n m:jR)
 |bin (o:BinOp) (x y:jR)
 |beq (ng:Bool) (x y:jR)
 |not (x:jR)
 |neg (x:jR)
 |JI (k:IntKind) (x:jR)
 |PW (x:jR)
 |same (x:jR)
 |YB (f:FuncId) (caps:List jR)
 |OZ (x:jR) (lo hi:Option jR)
 |VI (sz:Nat) (x:jR) (lo hi:Option jR)
 |OV (sz n:Nat) (x:jR)
 |SG (x:jR)
 |lS (off:Nat) (x:jR)
 |field (agg:Bool) (off k:Nat) (x:jR)
 |uP (sz:Nat) (x i:jR)
 |Qh (sz n:Nat) (x i:jR)
 |idxs (x i:jR)
 |extract (x:jR) (i:Nat)
 |len (x:jR)
 |lens (x:jR)
 |max (x y:jR)
 |min (x y:jR)
 |append (l sz bytes:Nat) (s x:jR)
 |copy (sz:Nat) (d x:jR)
 |shf (l:Bool) (x y:jR)
 |ZK (x:jR)
 |F5 (sz:Nat) (x:jR) (lo hi:Option jR)
 |sl3 (sz:Nat) (x lo hi mx:jR)
 |YQ (l sz bytes:Nat) (s x:jR)
 |YU (sz:Nat) (d x:jR)
 |YS (sz:Nat) (zs:List Cell) (x:jR)
 |XW (x y:jR)
 |RZ (ng:Bool) (x:jR)
 |ovl (x y:jR)
 |aav (x y:jR)
 |XK (l sz bytes:Nat) (zs:List Cell) (s x:jR)
 |stop
 deriving Inhabited
def kH.kX : kH->List jR
 |.mv x|.load _ _ x|.box _ x|.not x|.neg x|.JI _ x|.PW x|.same x|.OV _ _ x|.SG x|.lS _ x|.field _ _ _ x|.extract x _|.len x|.lens x|.ZK x|.YS _ _ x|.RZ _ x=>[x]
 |.pick c a b=>[c,a,b]
 |.store _ _ p x=>[p,x]
 |.alloc _ _|.Ip _ _ _ _|.Io _ _ _ _|.stop=>[]
 |.build _ ps=>ps.map (·.2.2)
 |.uZ _ _ _ _ ps=>ps.map (·.2)
 |.makes _ _ _ _ n m=>[n,m]
 |.bin _ x y|.beq _ x y|.uP _ x y|.Qh _ _ x y|.idxs x y|.max x y|.min x y|.append _ _ _ x y|.copy _ x y|.shf _ x y|.YQ _ _ _ x y|.YU _ x y|.XW x y|.aav x y|.ovl x y|.XK _ _ _ _ x y=>[x,y]
 |.sl3 _ x a b c=>[x,a,b,c]
 |.YB _ cs=>cs
 |.OZ x lo hi|.VI _ x lo hi|.F5 _ x lo hi=>x::(lo.toList++hi.toList)
structure FR where
 vc:Prop
 v:AV
 sets:List (Nat×Box)
abbrev pX (k:IntKind)(n:Int):AV:=.one (.c (.lit (.int k n)))
abbrev oV (b:Bool):AV:=.one (.c (.lit (.bool b)))
abbrev Dk (l:List UInt8):AV:=.one (.c (.str l))
abbrev vSl (sz:Nat)(es:List (List Cell)):AV:=.one (.c (.sl sz es))
def FR.bad : FR:=⟨False,.one .Ee,[]⟩
def FR.ok (v:AV):FR:=⟨True,v,[]⟩
def LP (o:BinOp)(k:IntKind)(a b:Int):FR:=
 match o with
 |.add=>.ok (pX k (k.wrap (a+b)))
 |.sub=>.ok (pX k (k.wrap (a-b)))
 |.mul=>.ok (pX k (k.wrap (a*b)))
 |.quo=>⟨b≠0,pX k (k.wrap (a.tdiv b)),[]⟩
 |.rem=>⟨b≠0,pX k (a.tmod b),[]⟩
 |.xor=>.ok (pX k (k.wrap (wL k.bits a ^^^ wL k.bits b).toNat))
 |.and=>.ok (pX k (k.wrap (wL k.bits a &&& wL k.bits b).toNat))
 |.eql=>.ok (oV (a==b))
 |.neq=>.ok (oV (a != b))
 |.lss=>.ok (oV (decide (a<b)))
 |.leq=>.ok (oV (decide (a<=b)))
 |.gtr=>.ok (oV (decide (b<a)))
 |.geq=>.ok (oV (decide (b<=a)))
 |_=>.bad
def Nb (o:BinOp)(a b:List UInt8):FR:=
 match o with
 |.add=>⟨a.length+b.length<=maxLen,Dk (a++b),[]⟩
 |.eql=>.ok (oV (a==b))
 |.neq=>.ok (oV (!(a==b)))
 |.lss=>.ok (oV (gu a b))
 |.leq=>.ok (oV (gu a b||a==b))
 |.gtr=>.ok (oV (!(gu a b||a==b)))
 |.geq=>.ok (oV (!(gu a b)))
 |_=>.bad
def JF (o:BinOp)(x y:AV):FR:=
 match x,y with
 |.one (.c (.lit (.int k a))),.one (.c (.lit (.int k' b)))=>⟨k=k'/\(LP o k a b).vc,(LP o k a b).v,[]⟩
 |.one (.c (.str a)),.one (.c (.str b))=>Nb o a b
 |_,_=>.bad
def Rf (neg:Bool)(x y:AV):FR:=
 match x,y with
 |.one (.c (.lit (.bool a))),.one (.c (.lit (.bool b)))=>.ok (oV (if neg then a != b else a==b))
 |_,_=>.bad
def Ju (t:Bool)(x y:AV):AV:=
 match x,y with
 |.one (.c (.lit (.bool a))),.one (.c (.lit (.bool b)))=>oV (bif t then a else b)
 |_,_=>if t then x else y
def Box.arr : Box->Option (Nat×List (List Cell))
 |.dat sz es=>some (sz,es)
 |.AU sz es=>some (sz,es)
 |_=>none
def dataOf (bx:Nat->Box):AC->Option Cell
 |.c x=>some x
 |.wC sz=>some (.sl sz [])
 | .own b n sz=>match(bx b).arr with
   |some (_,es)=>some (.sl sz (es.take n))
   |none=>none
 |_=>none
def Dt (bx:Nat->Box):List AC->Option (List Cell)
 |[]=>some []
 | x::r=>match dataOf bx x,Dt bx r with
   |some c,some cs=>some (c::cs)
   |_,_=>none
def kL : List AC->List Nat
 |[]=>[]
 |.own b _ _::r=>b::kL r
 |_::r=>kL r
def Bq : Box->Box
 |.dat sz es=>.AU sz es
 |x=>x
def tu (bx:Nat->Box):List AC->Prop
 |[]=>True
 | .own b n sz::r=>(match(bx b).arr with
   |some (sz',es)=>sz'=sz/\n<=es.length
   |none=>False)/\tu bx r
 |_::r=>tu bx r
def P9 (bx:Nat->Box)(l:List Nat):List (Nat×Box):=l.map λb=>(b,Bq (bx b))
def AV.cells : AV->List AC
 |.one x=>[x]
 |.agg xs=>xs
 |.Bl _=>[]
def AV.flat : AV->Prop
 |.Bl _=>False
 |_=>True
def splice {α:Type}(xs:List α)(off:Nat)(ys:List α):List α:=xs.take off++ys++xs.drop (off+ys.length)
def tJ (agg:Bool)(k:Nat)(p:AV)(bx:Nat->Box):FR:=
 match p with
 | .one (.ptr b off)=>match bx b with
   | .var xs=>if agg then⟨off+k<=xs.length,.agg ((xs.drop off).take k),[]⟩else match xs[off]? with
     |some x=>.ok (.one x)
     |none=>.bad
   |_=>.bad
 | .one (.ug b i sz off)=>match(bx b).arr with
   | some (sz',es)=>if agg then⟨sz'=sz/\i<es.length/\off+k<=sz,.agg ((((es.getD i []).drop off).take k).map .c),[]⟩
     else⟨sz'=sz/\i<es.length/\off<sz,.one (.c ((es.getD i []).getD off default)),[]⟩
   |_=>.bad
 |.one (.zQ cs)=>if agg then⟨k<=cs.length,.agg ((cs.take k).map .c),[]⟩else⟨0<cs.length,.one (.c (cs.getD 0 default)),[]⟩
 |_=>.bad
def Az (agg:Bool)(k:Nat)(p x:AV)(bx:Nat->Box):FR:=
 match x,agg with
 |.Bl _,_=>.bad
 |.one _,true=>.bad
 |.agg _,false=>.bad
 | x,_=>match p with
   | .one (.ptr b off)=>match bx b with
     |.var xs=>⟨x.cells.length=k/\off+k<=xs.length,.one .Ee,[(b,.var (splice xs off x.cells))]⟩
     |_=>.bad
   | .one (.ug b i sz off)=>match bx b,Dt bx x.cells with
     |.dat sz' es,some cs=>⟨sz'=sz/\cs.length=k/\i<es.length/\off+k<=sz/\tu bx x.cells/\(kL x.cells).contains b=false,.one .Ee,P9 bx (kL x.cells)++[(b,.dat sz (es.set i (splice (es.getD i []) off cs)))]⟩
     |_,_=>.bad
   |_=>.bad
def Ls {α:Type}(zs:List α):List (Nat×List α)->List α
 |[]=>zs
 |(off,xs)::r=>Ls (splice zs off xs) r
def Qu (n:Nat):Nat×Nat×AV->Prop
 |(off,sz,x)=>x.cells.length=sz/\off+sz<=n/\x.flat
def sO (ev:jR->AV)(bx:Nat->Box)(n sz:Nat):List (Nat×jR)->Option (List (Nat×List Cell))
 |[]=>some []
 | (i,x)::r=>match Dt bx (ev x).cells,sO ev bx n sz r with
   |some cs,some l=>some ((i,cs)::l)
   |_,_=>none
def nT (ev:jR->AV):List (Nat×jR)->List Nat
 |[]=>[]
 |(_,x)::r=>kL (ev x).cells++nT ev r
def uQ (ev:jR->AV)(bx:Nat->Box):List (Nat×jR)->Prop
 |[]=>True
 |(_,x)::r=>tu bx (ev x).cells/\uQ ev bx r
def GM (es:List (List Cell)):List (Nat×List Cell)->List (List Cell)
 |[]=>es
 |(i,cs)::r=>GM (es.set i cs) r
def bytesOf : List (List Cell)->Option (List UInt8)
 |[]=>some []
 | [.lit (.int .u8 n)]::r=>match bytesOf r with
   |some l=>some (jv n.toNat::l)
   |none=>none
 |_=>none
def Bo : List AV->Option (List Nat)
 |[]=>some []
 |.one (.ptr b 0)::r=>(Bo r).map (b :: ·)
 |_=>none
def bnd (ev:jR->AV)(o:Option jR)(dflt:Nat):Option Int:=
 match o with
 |none=>some dflt
 | some x=>match ev x with
   |.one (.c (.lit (.int _ n)))=>some n
   |_=>none
def vT (sz:Nat)(x:AV)(bx:Nat->Box):Option (Prop×List (List Cell)):=
 match x with
 |.one (.c (.sl sz' es))=>some (sz'=sz,es)
 |.one (.wC _)=>some (True,[])
 | .one (.own b n sz')=>match(bx b).arr with
   |some (vM,es)=>some (sz'=sz/\vM=sz/\n<=es.length,es.take n)
   |_=>none
 | .one (.sub b lo n _ sz')=>match(bx b).arr with
   |some (vM,es)=>some (sz'=sz/\vM=sz/\lo+n<=es.length,(es.drop lo).take n)
   |_=>none
 |_=>none
def xU : AV->Option (Nat×Nat×Nat×Option Nat×Nat)
 |.one (.own b n sz)=>some (b,0,n,none,sz)
 |.one (.sub b lo n c sz)=>some (b,lo,n,c,sz)
 |_=>none
def QG (l:Bool)(x y:AV):FR:=
 match x,y with
 |.one (.c (.lit (.int k a))),.one (.c (.lit (.int _ b)))=>⟨0<=b,pX k (if l then k.wrap (a*2^(min b.toNat k.bits))else a.fdiv (2^(min b.toNat k.bits))),[]⟩
 |_,_=>.bad
def NH (x:AV):FR:=
 match x with
 |.one (.sub _ _ _ (some c) _)=>.ok (pX .i64 c)
 |.one (.wC _)=>.ok (pX .i64 0)
 |_=>.bad
def Dh (sz:Nat)(x:AV)(lo:Option Int)(hi:Nat->Option Int):FR:=
 match xU x with
 | some (b,l,n,c,sz')=>match lo,hi n with
   |some p,some q=>⟨sz'=sz/\0<=p/\p<=q/\q<=(match c with|some c=>c|none=>n:Nat),.one (.sub b (l+p.toNat) (q-p).toNat (c.map (· - p.toNat)) sz),[]⟩
   |_,_=>.bad
 |none=>.bad
def VG (sz:Nat)(x p q m:AV):FR:=
 match xU x,p,q,m with
 |some (_,_,n,c,sz'),.one (.c (.lit (.int _ p))),.one (.c (.lit (.int _ q))),.one (.c (.lit (.int _ m)))=>⟨sz'=sz/\0<=p/\p<=q/\q<=m/\m<=(match c with|some c=>c|none=>n:Nat),.one .Ee,[]⟩
 |_,_,_,_=>.bad
def OO (l sz bytes:Nat)(s x:AV)(bx:Nat->Box):FR:=
 match vT sz x bx,s with
 | some (p,ys),.one (.sub b lo n (some c) sz')=>match bx b with
   | .dat vM es=>if n+ys.length<=c then⟨p/\sz'=sz/\vM=sz/\lo+n<=es.length,.one (.sub b lo (n+ys.length) (some c) sz),[(b,.dat sz (splice es (lo+n) ys))]⟩
     else⟨p/\sz'=sz/\vM=sz/\lo+n<=es.length/\(match bx l with|.absent=>True|_=>False)/\(n+ys.length)*(bytes+sz+1)<=2^46,.one (.own l (n+ys.length) sz),[(l,.dat sz ((es.drop lo).take n++ys))]⟩
   |_=>.bad
 |_,_=>.bad
def truncS (m:Nat):AV->AV
 |.one (.sub b lo n c sz)=>.one (.sub b lo (min n m) c sz)
 |x=>x
def OT (sz:Nat)(d x:AV)(bx:Nat->Box):FR:=
 match xU d with
 | some (b,lo,n,_,sz')=>match vT sz (truncS n x) bx with
   | some (p,ys)=>match bx b with
     |.dat vM es=>⟨p/\sz'=sz/\vM=sz/\lo<=es.length,pX .i64 (di ys.length n:Nat),[(b,.dat sz (splice es lo (ys.take n)))]⟩
     |_=>.bad
   |none=>.bad
 |none=>.bad
def NW (l sz bytes:Nat)(zs:List Cell)(s x:AV)(bx:Nat->Box):FR:=
 match s,x with
 | .one (.sub b lo n (some c) sz'),.one (.c (.lit (.int k q)))=>match bx b with
   |.dat vM es=>⟨k = .i64/\sz'=sz/\vM=sz/\lo+n<=es.length/\0<=q/\c<n+q.toNat/\(match bx l with|.absent=>True|_=>False)/\(n+q.toNat)*(bytes+sz+1)<=2^46,
    .one (.own l (n+q.toNat) sz),[(l,.dat sz ((es.drop lo).take n++bG q.toNat zs))]⟩
   |_=>.bad
 |.one (.wC _),.one (.c (.lit (.int k q)))=>⟨k = .i64/\0<q/\(match bx l with|.absent=>True|_=>False)/\q.toNat*(bytes+sz+1)<=2^46,.one (.own l q.toNat sz),[(l,.dat sz (bG q.toNat zs))]⟩
 |_,_=>.bad
def CW (ng:Bool)(x:AV):FR:=
 match x with
 |.one (.err g)=>.ok (oV (if ng then g else !g))
 |_=>.bad
def GG (x y:AV):FR:=
 match x,y with
 |.one (.c (.str a)),.one (.c (.str b))=>.ok (pX .i64 (lV a b))
 |_,_=>.bad
def GY (x y:AV):FR:=
 match x,y with
 |.one (.c (.str a)),.one (.c (.lit (.int k c)))=>⟨k = .u8,pX .i64 (Go.Lib.indexByte a c.toNat.toUInt8),[]⟩
 |_,_=>.bad
def Qr (x y:AV)(bx:Nat->Box):FR:=
 match xU x,xU y with
 | some (b,_,m,_,_),some (b',_,m',_,_)=>match bx b,bx b' with
   |.dat _ _,.dat sz _=>⟨b≠b'/\sz≠0/\0<m/\0<m',oV false,[]⟩
   |_,_=>.bad
 |_,_=>.bad
def OQ (sz:Nat)(zs:List Cell)(d:AV)(bx:Nat->Box):FR:=
 match xU d with
 | some (b,lo,n,_,sz')=>match bx b with
   |.dat vM es=>⟨sz'=sz/\vM=sz/\lo<=es.length,.Bl [],[(b,.dat sz (splice es lo (bG n zs)))]⟩
   |_=>.bad
 |none=>.bad
def kH.f (op:kH)(ev:jR->AV)(bx:Nat->Box):FR:=
 match op with
 |.mv x=>.ok (ev x)
 | .pick c a b=>match ev c with
   |.one (.c (.lit (.bool t)))=>.ok (Ju t (ev a) (ev b))
   |_=>.bad
 |.load agg k p=>tJ agg k (ev p) bx
 |.store agg k p x=>Az agg k (ev p) (ev x) bx
 |.alloc l zs=>⟨(match bx l with|.absent=>True|_=>False),.one (.ptr l 0),[(l,.var zs)]⟩
 |.Ip T e l r=>⟨(match bx l with|.absent=>True|_=>False)/\(match bx r with|.absent=>True|_=>False)/\l≠r,.one (.ptr l 0),[(r,.row e []),(l,.var [.opt T l,.FH r 0])]⟩
 |.Io l sz n zs=>⟨(match bx l with|.absent=>True|_=>False),.one (.ug l 0 sz 0),[(l,.dat sz (bG n zs))]⟩
 |.box l x=>⟨(match bx l with|.absent=>True|_=>False)/\(ev x).flat,.one (.ptr l 0),[(l,.var (ev x).cells)]⟩
 |.build zs ps=>⟨(∀p,p∈ps->Qu zs.length (p.1,p.2.1,ev p.2.2)),.agg (Ls zs (ps.map λp=>(p.1,(ev p.2.2).cells))),[]⟩
 | .uZ l sz n zs ps=>match sO ev bx n sz ps with
   |some l'=>⟨(match bx l with|.absent=>True|_=>False)/\(∀p,p∈l'->p.1<n/\p.2.length=sz)/\uQ ev bx ps,.one (.own l n sz),P9 bx (nT ev ps)++[(l,.dat sz (GM (bG n zs) l'))]⟩
   |none=>.bad
 | .makes l sz bytes zs n m=>match ev n,ev m with
   | .one (.c (.lit (.int _ n))),.one (.c (.lit (.int _ m)))=>⟨(match bx l with|.absent=>True|_=>False)/\0<=n/\n<=m/\bytes*m<=2^47/\m<=2^47,.one (.own l n.toNat sz),[(l,.dat sz (bG n.toNat zs))]⟩
   |_,_=>.bad
 |.bin o x y=>JF o (ev x) (ev y)
 |.beq ng x y=>Rf ng (ev x) (ev y)
 | .not x=>match ev x with
   |.one (.c (.lit (.bool b)))=>.ok (oV (!b))
   |_=>.bad
 | .neg x=>match ev x with
   |.one (.c (.lit (.int k n)))=>.ok (pX k (k.wrap (0-n)))
   |_=>.bad
 | .JI k x=>match ev x with
   |.one (.c (.lit (.int _ n)))=>.ok (pX k (k.wrap n))
   |_=>.bad
 | .PW x=>match vT 1 (ev x) bx with
   | some (p,es)=>match bytesOf es with
     |some l=>⟨p/\l.length<=maxLen,Dk l,[]⟩
     |none=>.bad
   |none=>.bad
 | .same x=>match ev x with
   |.one (.c (.str l))=>.ok (Dk l)
   |_=>.bad
 | .YB f cs=>match Bo (cs.map ev)with
   |some l=>.ok (.one (.fn f l))
   |none=>.bad
 | .OZ x lo hi=>match ev x with
   | .one (.c (.str s))=>match bnd ev lo 0,bnd ev hi s.length with
     |some a,some b=>⟨0<=a/\a<=b/\b<=s.length,Dk ((s.take b.toNat).drop a.toNat),[]⟩
     |_,_=>.bad
   |_=>.bad
 | .VI sz x lo hi=>match ev x with
   | .one (.c (.sl sz' es))=>match bnd ev lo 0,bnd ev hi es.length with
     |some a,some b=>⟨sz'=sz/\0<=a/\a<=b/\b<=es.length,vSl sz ((es.take b.toNat).drop a.toNat),[]⟩
     |_,_=>.bad
   | .one (.wC sz')=>match bnd ev lo 0,bnd ev hi 0 with
     |some a,some b=>⟨a=0/\b=0,.one (.wC sz'),[]⟩
     |_,_=>.bad
   | .one (.own l n sz')=>match bnd ev lo 0,bnd ev hi n with
     |some a,some b=>⟨a=0/\0<=b/\b<=n,.one (.own l b.toNat sz'),[]⟩
     |_,_=>.bad
   |_=>.bad
 | .OV sz n x=>match ev x with
   | .one (.ug b 0 sz' 0)=>match bx b with
     |.dat vM es=>⟨sz'=sz/\vM=sz/\es.length=n/\n≠0,.one (.own b n sz),[]⟩
     |_=>.bad
   |_=>.bad
 | .SG x=>match ev x with
   |.one (.ptr b o)=>.ok (.one (.ptr b o))
   |.one (.ug b i sz o)=>.ok (.one (.ug b i sz o))
   |.one (.zQ cs)=>.ok (.one (.zQ cs))
   |.one (.fn f cs)=>.ok (.one (.fn f cs))
   |_=>.bad
 | .lS off x=>match ev x with
   |.one (.ptr b o)=>.ok (.one (.ptr b (o+off)))
   |.one (.ug b i sz o)=>.ok (.one (.ug b i sz (o+off)))
   |.one (.zQ cs)=>.ok (.one (.zQ (cs.drop off)))
   |_=>.bad
 | .field agg off k x=>match ev x with
   | .agg xs=>if agg then⟨off+k<=xs.length,.agg ((xs.drop off).take k),[]⟩else match xs[off]? with
     |some x=>.ok (.one x)
     |none=>.bad
   |_=>.bad
 | .uP sz x i=>match ev x,ev i with
   |.one (.c (.sl sz' es)),.one (.c (.lit (.int _ i)))=>⟨sz'=sz/\0<=i/\i<es.length,.one (.zQ (es.getD i.toNat [])),[]⟩
   |.one (.own b n sz'),.one (.c (.lit (.int _ i)))=>⟨sz'=sz/\0<=i/\i<n,.one (.ug b i.toNat sz 0),[]⟩
   |.one (.sub b lo n _ sz'),.one (.c (.lit (.int _ i)))=>⟨sz'=sz/\0<=i/\i<n,.one (.ug b (lo+i.toNat) sz 0),[]⟩
   |_,_=>.bad
 | .Qh sz n x i=>match ev x,ev i with
   |.one (.ug b 0 sz' 0),.one (.c (.lit (.int _ i)))=>⟨sz'=sz/\0<=i/\i<n,.one (.ug b i.toNat sz 0),[]⟩
   |_,_=>.bad
 | .idxs x i=>match ev x,ev i with
   |.one (.c (.str s)),.one (.c (.lit (.int _ i)))=>⟨0<=i/\i<s.length,pX .u8 (s.getD i.toNat 0).toNat,[]⟩
   |_,_=>.bad
 | .extract x i=>match ev x with
   | .Bl ps=>match ps[i]? with
     |some (true,xs)=>.ok (.agg xs)
     |some (false,[x])=>.ok (.one x)
     |_=>.bad
   |_=>.bad
 | .lens x=>match ev x with
   |.one (.c (.str s))=>.ok (pX .i64 s.length)
   |_=>.bad
 | .len x=>match ev x with
   |.one (.c (.sl _ es))=>.ok (pX .i64 es.length)
   |.one (.wC _)=>.ok (pX .i64 0)
   |.one (.own _ n _)=>.ok (pX .i64 n)
   |.one (.sub _ _ n _ _)=>.ok (pX .i64 n)
   |_=>.bad
 | .max x y=>match ev x,ev y with
   |.one (.c (.lit (.int k a))),.one (.c (.lit (.int k' b)))=>⟨k=k',pX k (if b>a then b else a),[]⟩
   |_,_=>.bad
 | .min x y=>match ev x,ev y with
   |.one (.c (.lit (.int k a))),.one (.c (.lit (.int k' b)))=>⟨k=k',pX k (if b<a then b else a),[]⟩
   |_,_=>.bad
 | .append l sz bytes s x=>match vT sz (ev x) bx with
   | some (p,ys)=>match ev s with
     |.one (.wC _)=>⟨p/\(match bx l with|.absent=>True|_=>False)/\ys.length*(bytes+sz+1)<=2^46,.one (.own l ys.length sz),[(l,.dat sz ys)]⟩
     | .one (.own b n sz')=>match bx b with
       |.dat vM es=>⟨p/\(match bx l with|.absent=>True|_=>False)/\sz'=sz/\vM=sz/\n<=es.length/\(n+ys.length)*(bytes+sz+1)<=2^46/\b≠l,
        .one (.own l (n+ys.length) sz),[(b,.dead),(l,.dat sz (es.take n++ys))]⟩
       |_=>.bad
     |_=>.bad
   |none=>.bad
 | .copy sz d x=>match vT sz (ev x) bx with
   | some (p,ys)=>match ev d with
     | .one (.own b n sz')=>match bx b with
       |.dat vM es=>⟨p/\sz'=sz/\vM=sz/\n<=es.length,pX .i64 (di ys.length n:Nat),[(b,.dat sz (splice es 0 (ys.take n)))]⟩
       |_=>.bad
     |.one (.wC _)=>.ok (pX .i64 0)
     |_=>.bad
   |none=>.bad
 |.shf l x y=>QG l (ev x) (ev y)
 |.ZK x=>NH (ev x)
 |.F5 sz x lo hi=>Dh sz (ev x) (bnd ev lo 0) (bnd ev hi)
 |.sl3 sz x p q m=>VG sz (ev x) (ev p) (ev q) (ev m)
 |.YQ l sz bytes s x=>OO l sz bytes (ev s) (ev x) bx
 |.YU sz d x=>OT sz (ev d) (ev x) bx
 |.YS sz zs x=>OQ sz zs (ev x) bx
 |.XW x y=>GG (ev x) (ev y)
 |.RZ ng x=>CW ng (ev x)
 |.ovl x y=>Qr (ev x) (ev y) bx
 |.aav x y=>GY (ev x) (ev y)
 |.stop=>.bad
 |.XK l sz bytes zs s x=>NW l sz bytes zs (ev s) (ev x) bx
def lvl : AV->List Nat
 |.one (.ptr b _)=>[b]
 |.one (.own b _ _)=>[b]
 |.one (.ug b _ _ _)=>[b]
 |.one (.sub b _ _ _ _)=>[b]
 |_=>[]
def kH.rd (op:kH)(ev:jR->AV):List Nat:=
 match op with
 |.load _ _ p=>lvl (ev p)
 |.store _ _ p x=>lvl (ev p)++(match ev p with|.one (.ug _ _ _ _)=>kL (ev x).cells|_=>[])
 |.uZ l _ _ _ ps=>l::nT ev ps
 |.alloc l _|.Io l _ _ _|.box l _|.makes l _ _ _ _ _=>[l]
 |.Ip _ _ l r=>[l,r]
 |.PW x=>lvl (ev x)
 |.OV _ _ x=>lvl (ev x)
 |.append l _ _ s x=>l::(lvl (ev s)++lvl (ev x))
 |.copy _ d x=>lvl (ev d)++lvl (ev x)
 |.YQ l _ _ s x=>l::(lvl (ev s)++lvl (ev x))
 |.YU _ d x=>lvl (ev d)++lvl (ev x)
 |.YS _ _ x=>lvl (ev x)
 |.ovl x y=>lvl (ev x)++lvl (ev y)
 |.XK l _ _ _ s _=>l::lvl (ev s)
 |_=>[]
end Go.Ab
section
namespace Go.Ab
inductive PK where
 |any
 |own (rs:List (Nat×Nat))
 |var (rs:List (Nat×Nat))
 |fn (s:Nat)
 |sl (T:Nat)
 |slw (T:Nat)
 deriving DecidableEq
structure QV where
 ps:List PK
 rs:List (List (Nat×Nat))
 deriving DecidableEq
inductive Knd where
 |none
 |rd
 |ow (sg:QV)
 deriving DecidableEq
def kindOf : Nat->Knd
 |5=>.rd
 |6=>.rd
 |7=>.rd
 |8=>.ow ⟨[.any],[[(0,30)]]⟩
 |9=>.ow ⟨[.any],[[(0,25)]]⟩
 |10=>.ow ⟨[.any,.any],[[(0,28)]]⟩
 |11=>.rd
 |12=>.rd
 |13=>.rd
 |17=>.rd
 |19=>.ow ⟨[.any],[[(2,25),(3,25),(7,25),(8,41),(9,44)],[]]⟩
 |23=>.rd
 |24=>.rd
 |25=>.rd
 |26=>.rd
 |27=>.ow ⟨[.any],[[(0,30)]]⟩
 |28=>.rd
 |29=>.rd
 |30=>.rd
 |31=>.ow ⟨[.any],[[(3,25),(4,41)]]⟩
 |32=>.ow ⟨[.slw 28,.any],[]⟩
 |33=>.rd
 |34=>.rd
 |35=>.rd
 |36=>.rd
 |37=>.rd
 |38=>.rd
 |40=>.rd
 |42=>.rd
 |43=>.rd
 |50=>.rd
 |53=>.ow ⟨[.any],[[(0,25)],[]]⟩
 |54=>.ow ⟨[.any],[[(0,44)],[]]⟩
 |55=>.ow ⟨[.any],[[(3,25),(4,41)],[]]⟩
 |57=>.rd
 |63=>.rd
 |64=>.rd
 |65=>.rd
 |66=>.rd
 |67=>.rd
 |68=>.rd
 |69=>.rd
 |70=>.ow ⟨[.any],[[(5,25),(6,41)]]⟩
 |71=>.rd
 |72=>.rd
 |73=>.rd
 |74=>.rd
 |76=>.rd
 |77=>.rd
 |78=>.rd
 |79=>.rd
 |92=>.ow ⟨[.var [],.any],[[],[]]⟩
 |93=>.ow ⟨[.var [],.any],[[]]⟩
 |94=>.ow ⟨[.any],[[(1,25),(2,25),(6,25),(7,41)],[]]⟩
 |98=>.rd
 |100=>.rd
 |102=>.rd
 |103=>.rd
 |104=>.rd
 |105=>.rd
 |106=>.rd
 |107=>.rd
 |108=>.rd
 |109=>.ow ⟨[.any],[[(3,25),(4,41)]]⟩
 |110=>.rd
 |111=>.rd
 |112=>.rd
 |121=>.rd
 |122=>.rd
 |123=>.rd
 |133=>.rd
 |143=>.ow ⟨[.var []],[[],[]]⟩
 |144=>.ow ⟨[.var [],.any,.any,.any],[[],[]]⟩
 |145=>.ow ⟨[.var []],[[],[]]⟩
 |146=>.rd
 |148=>.ow ⟨[.any],[[(0,25)],[]]⟩
 |159=>.rd
 |160=>.rd
 |161=>.rd
 |162=>.rd
 |163=>.ow ⟨[.any],[[(0,41)]]⟩
 |164=>.rd
 |165=>.rd
 |166=>.rd
 |167=>.rd
 |180=>.rd
 |183=>.ow ⟨[.own [(3,25),(4,41)],.any],[[(3,25),(4,41)],[]]⟩
 |187=>.rd
 |188=>.rd
 |189=>.rd
 |200=>.rd
 |201=>.rd
 |202=>.rd
 |210=>.rd
 |211=>.rd
 |212=>.rd
 |213=>.rd
 |217=>.rd
 |218=>.rd
 |_=>.none
def Z9 : Nat->QV
 |0=>⟨[.any],[[(3,25),(4,41)],[]]⟩
 |_=>⟨[],[]⟩
end Go.Ab
end
namespace Go.Ab
open Go
inductive rC where
 |blk (k j:Nat)
 |tag (d m:Nat)
 |dead
 deriving DecidableEq
structure Ref where
 off:Nat
 ty:Nat
 m:Nat
def Ref.beq (r s:Ref):Bool:=iV r.off s.off&&(iV r.ty s.ty&&iV r.m s.m)
theorem Ref.beq_iff {r s:Ref} : r.beq s=true<->r=s:=by cases r;cases s;simp[Ref.beq]
inductive Zj where
 |arr (T:Nat) (p:rC)
 |var (row:List Ref) (d b:Nat)
structure Own where
 b:Nat->Option Zj
 bd:Nat->Nat
instance : CoeFun Own λ_=>Nat->Option Zj:=⟨Own.b⟩
def refsOf (P:Program):Nat->TypeId->Nat->List (Nat×Nat)
 |0,_,_=>[]
 | n+1,t,o=>match P.underlying t with
   |some (.slice _)=>[(o,t)]
   |some (.struct fs)=>fs.toList.flatMap λf=>refsOf P n f.type (o+f.offset)
   |_=>[]
def kD (P:Program)(T:Nat):List (Nat×Nat):=match P.underlying T with
 |some (.slice e)=>refsOf P 6 e 0
 |_=>[]
def oD (P:Program)(T:Nat):Nat:=match P.underlying T with
 |some (.slice e)=>(match P.info? e with|some i=>i.size|none=>0)
 |_=>0
def Vq (u:Value):Prop:=u = .slice none 0 0
def Own.at (g:Own)(k n T:Nat)(p:rC):Prop:=g k=some (.arr T p)/\n<=g.bd k
def GR (g:Own)(u:Value)(T:Nat)(p:rC):Prop:=Vq u\/∃k n c,u = .slice (some ⟨k,0,none⟩) n c/\g.at k n T p
structure Good (P:Program)(g:Own)(w:World):Prop where
 arr:∀k T p,g k=some (.arr T p)->∃cs e,w.heap[k]? = some (.cells cs e (0,0))/\∀j u T',j<g.bd k*oD P T->cs[j]? = some u->(j%oD P T,T')∈kD P T->GR g u T' (.blk k j)
 var:∀k row d b,g k=some (.var row d b)->∃cs e,w.heap[k]? = some (.cells cs e (0,0))/\∀r,r∈row->∃u,cs[r.off]? = some u/\GR g u r.ty (.tag d r.m)
inductive OF where
 |sr (t T:Nat)
 |ep (t T off:Nat)
 |vp (t b off:Nat)
 |ref (t:Nat) (r:Ref)
 |xw (t i:Nat) (r:Ref)
 |row (b:Nat) (r:Ref)
 |fn (t s:Nat)
def OF.beq : OF->OF->Bool
 |.sr t T,.sr t' T'=>iV t t'&&iV T T'
 |.ep t T o,.ep t' T' o'=>iV t t'&&(iV T T'&&iV o o')
 |.vp t b o,.vp t' b' o'=>iV t t'&&(iV b b'&&iV o o')
 |.ref t r,.ref t' r'=>iV t t'&&r.beq r'
 |.xw t i r,.xw t' i' r'=>iV t t'&&(iV i i'&&r.beq r')
 |.row b r,.row b' r'=>iV b b'&&r.beq r'
 |.fn t s,.fn t' s'=>iV t t'&&iV s s'
 |_,_=>false
theorem OF.beq_iff {f g:OF} : f.beq g=true<->f=g:=by cases f<;>cases g<;>simp[OF.beq,Ref.beq_iff]
instance : BEq OF:=⟨OF.beq⟩
instance : LawfulBEq OF where
 eq_of_beq h:=OF.beq_iff.1 h
 rfl:=OF.beq_iff.2 rfl
def rf {β:Type}(n:Nat)(k:Nat->β):β:=match n with
 |0=>k 0
 |m+1=>k (Nat.succ m)
def LD {β:Type}(r:Ref)(k:Ref->β):β:=match r with
 |⟨a,b,c⟩=>rf a λa=>rf b λb=>rf c λc=>k ⟨a,b,c⟩
def P8 {β:Type}(f:OF)(k:OF->β):β:=match f with
 |.sr t T=>rf t λt=>rf T λT=>k (.sr t T)
 |.ep t T o=>rf t λt=>rf T λT=>rf o λo=>k (.ep t T o)
 |.vp t b o=>rf t λt=>rf b λb=>rf o λo=>k (.vp t b o)
 |.ref t r=>rf t λt=>LD r λr=>k (.ref t r)
 |.xw t i r=>rf t λt=>rf i λi=>LD r λr=>k (.xw t i r)
 |.row b r=>rf b λb=>LD r λr=>k (.row b r)
 |.fn t s=>rf t λt=>rf s λs=>k (.fn t s)
def CO {α β:Type}(fc:α->(α->β)->β):List α->(List α->β)->β
 |[],k=>k []
 |x::r,k=>fc x λx=>CO fc r λr=>k (x::r)
abbrev LC {β:Type}(Γ : List OF)(k:List OF->β):β:=CO P8 Γ k
theorem zZ {β:Type}{n:Nat}{k:Nat->β} : rf n k=k n:=by cases n<;>rfl
theorem X8 {β:Type}{r:Ref}{k:Ref->β} : LD r k=k r:=by simp[LD,zZ]
theorem Oh {β:Type}{f:OF}{k:OF->β} : P8 f k=k f:=by cases f<;>simp[P8,zZ,X8]
theorem yO {α β:Type}{fc:α->(α->β)->β}(hf:∀x k,fc x k=k x):∀{l:List α} {k:List α->β},CO fc l k=k l
 |[],_=>rfl
 |x::r,k=>by rw[CO,hf,yO hf]
theorem IC {β:Type}{Γ : List OF}{k:List OF->β} : LC Γ k=k Γ :=yO λ_ _=>Oh
def OF.Xq : OF->List Nat
 |.sr t _=>[t]
 |.ep t _ _=>[t]
 |.vp t b _=>[t,b]
 |.ref t _=>[t]
 |.xw t _ _=>[t]
 |.row b _=>[b]
 |.fn t _=>[t]
def OF.afj : OF->Option Nat
 |.ref _ r=>some r.m
 |.xw _ _ r=>some r.m
 |.row _ r=>some r.m
 |_=>none
def Jk :=Nat->FuncId->Nat->Prop
def xq (P:Program)(F:Jk)(g:Own)(dp:Nat)(a:Act)(w:World):OF->Prop
 |.sr t T=>∀ad n c,a.tmps.getD t undef = .slice (some ad) n c->∃k o,ad=⟨k,o,none⟩/\k<w.heap.size/\∀B,g k=some B->(∃p,B = .arr T p)/\o%oD P T=0
 |.ep t T off=>∃k o,a.tmps.getD t undef = .pointer (some ⟨k,o,none⟩)/\k<w.heap.size/\∀B,g k=some B->(∃p,B = .arr T p)/\o%oD P T=off
 |.vp t b off=>∃k row,a.tmps.getD b undef = .pointer (some ⟨k,0,none⟩)/\a.tmps.getD t undef = .pointer (some ⟨k,off,none⟩)/\g k=some (.var row dp b)
 |.ref t r=>∃u,(a.tmps.getD t undef).cells[r.off]? = some u/\GR g u r.ty (.tag dp r.m)
 |.xw t i r=>∃vs x u,a.tmps.getD t undef = .tuple vs/\vs[i]? = some x/\x.cells[r.off]? = some u/\GR g u r.ty (.tag dp r.m)
 |.row b r=>∃k row,a.tmps.getD b undef = .pointer (some ⟨k,0,none⟩)/\g k=some (.var row dp b)/\r∈row
 |.fn t s=>∃f caps,a.tmps.getD t undef = .func (.func f) #[] caps/\F s f caps.size
structure OW (P:Program)(F:Jk)(g:Own)(dp:Nat)(Γ : List OF)(a:Act)(w:World):Prop where
 good:Good P g w
 fs:∀f,f ∈ Γ -> xq P F g dp a w f
structure Rel (dp N:Nat)(g g':Own):Prop where
 tag:∀k T d m,d<dp->g k=some (.arr T (.tag d m))->g' k=some (.arr T (.tag d m))/\g'.bd k=g.bd k
 var:∀k row d b,d<dp->g k=some (.var row d b)->g' k=some (.var row d b)
 old:∀k B',k<N->g' k=some B'->∃B,g k=some B/\∀T p,B = .arr T p\/B' = .arr T p->∃q q',B = .arr T q/\B' = .arr T q'
def NL (ps:List PK):List OF:=(ps.zipIdx).flatMap λp=>match p.1 with
 |.any=>[]
 |.own rs=>rs.map λe=>.ref p.2 ⟨e.1,e.2,p.2*20+e.1⟩
 |.var rs=>.vp p.2 p.2 0::rs.map λe=>.row p.2 ⟨e.1,e.2,p.2*20+e.1⟩
 |.fn s=>[.fn p.2 s]
 |.sl T=>[.sr p.2 T]
 |.slw _=>[]
def Vt (sg:QV)(n:Nat):List OF:=match sg.rs with
 |[rs]=>rs.map λe=>.ref n ⟨e.1,e.2,20000+e.1⟩
 |l=>(l.zipIdx).flatMap λp=>p.1.map λe=>.xw n p.2 ⟨e.1,e.2,20000+p.2*20+e.1⟩
def YE (sg:QV):List OF:=(sg.ps.zipIdx).flatMap λp=>match p.1 with
 |.var rs=>.vp p.2 p.2 0::rs.map λe=>.row p.2 ⟨e.1,e.2,30000+p.2*20+e.1⟩
 |_=>[]
def MF (sg:QV)(n:Nat):List OF:=Vt sg n++YE sg
def FV : Jk:=λs f n=>match s with
 |0=>kindOf f = .rd
 |s+1=>∃sg,kindOf f = .ow sg/\sg.ps=(Z9 s).ps++bG n .any/\sg.rs=(Z9 s).rs
def adE (g:Own)(ps:List PK)(vs:List Value):Prop:=∀(j T:Nat) (u:Value),ps[j]? = some (.slw T)->vs[j]? = some u->∃d m x,u.cells[0]? = some x/\GR g x T (.tag d m)
inductive Pq (P:Program)(f:FuncId)(vs:List Value)(w:World):(Ending->World->Prop)->Prop
 |QN:Pq P f vs w λ_ _=>True
 |rd (h:kindOf f = .rd):Pq P f vs w λ_ w'=>wZ w w' λ_=>False
 |ow (sg:QV) (h:kindOf f = .ow sg) (hl:vs.length=sg.ps.length) (g:Own) (dp:Nat) (hin:OW P FV g dp (NL sg.ps) { tmps:=vs.toArray,defers:=[] } w) (hlw:adE g sg.ps vs) :
     Pq P f vs w λe w'=>∃v g',e = .returned v/\Rel dp w.heap.size g g'/\OW P FV g' dp (MF sg vs.length) { tmps:=(vs++[v]).toArray,defers:=[] } w'
def NF (I:IH)(ρ:Ren)(vs:List Value)(xs:List AV):Prop:=
 vs.length=xs.length/\∀(j:Nat) (v:Value) (x:AV),vs[j]? = some v->xs[j]? = some x->GV I ρ v x
def yU (l:List Box):Nat->Box:=λb=>l.getD b .absent
structure Tabs (P:Program)(I:IH):Prop where
 pow:∀g,P.globalNamed "internal/strconv.uint64pow10" = some g->I g=some (Go.Lib.pow10Tab.map λz=>wO .u64 z).toArray
 mxl:∀g,P.globalNamed "internal/bytealg.MaxLen" = some g->∃m,I.cell ⟨g,0,none⟩=some (.int .i64 m)
theorem Tabs.mono {P:Program}{I J:IH}(h:Tabs P I)(hle:I.le J):Tabs P J:=
 ⟨λg hg=>hle _ _ (h.pow g hg),λg hg=>(h.mxl g hg).imp λ_ h=>IH.J6 hle h⟩
def xm (P:Program)(f:FuncId)(args:List AV)(fp:List Box)(post:AV->List Box->Prop):Prop:=
 ∀ (I:IH) (ρ:Ren) (w:World) (vs:List Value),Tabs P I->Agree I w->BX I ρ w (yU fp)->NF I ρ vs args ->
   ∀ X,Pq P f vs w X->Calls P f vs.toArray w λe w'=>(∃(v:Value) (J:IH) (σ:Ren) (r:AV) (bs:List Box),e = .returned v/\post r bs/\GV J σ v r/\Agree J w'/\BX J σ w' (yU bs) /\
     I.le J/\wZ w w' (λk=>∃b,(yU fp b).uses (ρ b) k) /\
     (∀b k,(yU bs b).uses (σ b) k->w.heap.size<=k\/∃b',(yU fp b').uses (ρ b') k) /\
     (∀k,k<w.heap.size->(¬ ∃b,(yU fp b).uses (ρ b) k)->J k=I k) /\
     (∀b,b<fp.length->σ b=ρ b))/\X e w'
def acg (P:Program)(f:FuncId)(args:List AV)(fp:List Box)(post:AV->List Box->Prop):Prop:=
 ∀ (I:IH) (ρ:Ren) (w:World) (vs:List Value),Tabs P I->Agree I w->BX I ρ w (yU fp)->NF I ρ vs args ->
   Calls P f vs.toArray w λe w'=>∃(v:Value) (J:IH) (σ:Ren) (r:AV) (bs:List Box),e = .returned v/\post r bs/\GV J σ v r/\Agree J w'/\BX J σ w' (yU bs) /\
    I.le J/\wZ w w' (λk=>∃b,(yU fp b).uses (ρ b) k) /\
    (∀b k,(yU bs b).uses (σ b) k->w.heap.size<=k\/∃b',(yU fp b').uses (ρ b') k) /\
    (∀k,k<w.heap.size->(¬ ∃b,(yU fp b).uses (ρ b) k)->J k=I k) /\
    (∀b,b<fp.length->σ b=ρ b)
def Vg (f:FuncId)(e:Bool):Bool:=match kindOf f with
 |.none=>true
 |.rd=>e
 |.ow _=>false
theorem xm.of0 {P:Program}{f:FuncId}{args:List AV}{fp:List Box}{post:AV->List Box->Prop}(hk:Vg f fp.isEmpty=true)(h:acg P f args fp post):xm P f args fp post:=by
 intro I ρ w vs hT hA hB hV X hX;have h0:=h I ρ w vs hT hA hB hV;cases hX with
 |QN=>exact h0.mono λe w' h=>⟨h,trivial⟩
 | rd hr=>refine h0.mono λe w' h=>⟨h,?_⟩;obtain⟨_,_,_,_,_,_,_,_,_,_,_,hF,_⟩:=h;refine⟨hF.os,hF.tape,hF.output,hF.size,λk hk' _=>hF.block k hk' ?_,hF.drawn⟩;rintro⟨b,hb⟩;unfold Vg at hk;rw[hr]at hk;have:fp=[]:=(by simpa using hk);subst this;simp[yU,Box.uses]at hb
 | ow sg hr=>unfold Vg at hk;rw[hr]at hk;cases hk
def gY (P:Program)(f:FuncId)(args:List AV)(r:AV):Prop:=xm P f args [] λr' bs=>r'=r/\bs=[]
inductive Cv (bx:Nat->Box):AC->AC->Prop
 |refl (x:AC):Cv bx x x
 |wC (sz:Nat):Cv bx (.wC sz) (.c (.sl sz []))
 |own (b n sz:Nat) (es:List (List Cell)) (h:(bx b).arr=some (sz,es)) (hn:n<=es.length):Cv bx (.own b n sz) (.c (.sl sz (es.take n)))
inductive CvL (bx:Nat->Box):List AC->List AC->Prop
 |nil:CvL bx [] []
 |cons {x y:AC} {xs ys:List AC} (h:Cv bx x y) (t:CvL bx xs ys):CvL bx (x::xs) (y::ys)
inductive CvA (bx:Nat->Box):AV->AV->Prop
 |one {x y:AC} (h:Cv bx x y):CvA bx (.one x) (.one y)
 |agg {xs ys:List AC} (h:CvL bx xs ys):CvA bx (.agg xs) (.agg ys)
inductive Fp (bx:Nat->Box):List AV->List AV->Prop
 |nil:Fp bx [] []
 |cons {x y:AV} {xs ys:List AV} (h:CvA bx x y) (t:Fp bx xs ys):Fp bx (x::xs) (y::ys)
def Cell.isLit : Cell->Bool
 |.sl _ _=>false
 |_=>true
def AC.qC : AC->Bool
 |.c _=>true
 |.err _=>true
 |_=>false
def AC.isLit : AC->Bool
 |.c x=>x.isLit
 |_=>false
def AV.all (p:AC->Bool):AV->Bool
 |.one x=>p x
 |.agg xs=>xs.all p
 |.Bl ps=>ps.all λq=>q.2.all p
def AV.owns : AV->List Nat
 |.one x=>kL [x]
 |.agg xs=>kL xs
 |.Bl ps=>ps.flatMap λq=>kL q.2
def eH.AU (st:eH)(bs:List Nat):eH:=⟨st.tm,λb=>if b∈bs then Bq (st.bx b)else st.bx b⟩
def eH.mW (st:eH):List (Nat×Box)->eH
 |[]=>st
 |(b,x)::r=>(st.rX b x).mW r
def eH.uh (st:eH):Option Nat->Slot->eH
 |none,_=>st
 |some t,s=>st.put t s
def EW (π:Nat->Nat):AC->AC
 |.ptr b off=>.ptr (π b) off
 |.own b n sz=>.own (π b) n sz
 |.sub b lo n c sz=>.sub (π b) lo n c sz
 |.ug b i sz off=>.ug (π b) i sz off
 |.fn f cs=>.fn f (cs.map π)
 |.opt T b=>.opt T (π b)
 |.FH b n=>.FH (π b) n
 |x=>x
def zi (π:Nat->Nat):AV->AV
 |.one x=>.one (EW π x)
 |.agg xs=>.agg (xs.map (EW π))
 |.Bl ps=>.Bl (ps.map λq=>(q.1,q.2.map (EW π)))
def yc (π:Nat->Nat):Box->Box
 |.var xs=>.var (xs.map (EW π))
 |x=>x
def AC.qG (m:Nat):AC->Bool
 |.ptr b _=>decide (b<m)
 |.own b _ _=>decide (b<m)
 |.sub b _ _ _ _=>decide (b<m)
 |.ug b _ _ _=>decide (b<m)
 |.fn _ cs=>cs.all λb=>decide (b<m)
 |.opt _ b=>decide (b<m)
 |.FH b _=>decide (b<m)
 |_=>true
def Box.qG (m:Nat):Box->Bool
 |.var xs=>xs.all (AC.qG m)
 |_=>true
inductive E8 (P:Program)(f:FuncId)(pz:List AV)(p:Bool)(d:Option Nat)(st:eH)(K:List Nat->List Nat->eH->Prop):Prop
 |lit (ds:List AV) (r:AV) (hc:p=true->Fp st.bx pz ds) (hd:ds.all (·.all AC.qC)=true) (h:p=true->gY P f ds r) (hr:r.all AC.isLit=true) (k:K (pz.flatMap AV.owns) [] (st.uh d (.v p r)))
 |pure (ds:List AV) (r:AV) (hp:p=true) (hc:Fp st.bx pz ds) (hd:ds.all (·.all AC.qC)=true) (h:gY P f ds r) (hr:r.all AC.qC=true) (k:K (pz.flatMap AV.owns) (pz.flatMap AV.owns) ((st.AU (pz.flatMap AV.owns)).uh d (.v true r)))
 |gen (hp:p=true) (ds:List AV) (fp:List Box) (sg nu:List Nat) (post:AV->List Box->Prop)
  (hl:sg.length=fp.length) (hn:(sg++nu).Nodup) (hf:∀i,i<fp.length->st.bx ((sg++nu).getD i 0)=yc (λb=>(sg++nu).getD b 0) (fp.getD i .absent))
  (hne:∃r bs,post r bs) (hv:∀b,b∈nu->st.bx b = .absent/\10<=b) (hra:(ds.all λx=>x.all (AC.qG fp.length))=true) (hrf:fp.all (Box.qG fp.length)=true) (ha:pz=ds.map (zi λb=>(sg++nu).getD b 0)) (h:xm P f ds fp post)
  (k:∀r bs,post r bs->bs.length=(sg++nu).length /\
   K (sg++nu) (sg++nu) ((st.mW ((sg++nu).zip (bs.map (yc λb=>(sg++nu).getD b 0)))).uh d (.v true (zi (λb=>(sg++nu).getD b 0) r))))
 |LJ (hp:p=true) (az:List AV) (hc:Fp st.bx pz az) (ds:List AV) (fp:List Box) (sg nu:List Nat) (post:AV->List Box->Prop)
     (hl:sg.length=fp.length) (hn:(sg++nu).Nodup) (hf:∀i,i<fp.length->(st.AU (pz.flatMap AV.owns)).bx ((sg++nu).getD i 0)=yc (λb=>(sg++nu).getD b 0) (fp.getD i .absent))
     (hne:∃r bs,post r bs) (hv:∀b,b∈nu->st.bx b = .absent/\10<=b) (hra:(ds.all λx=>x.all (AC.qG fp.length))=true) (hrf:fp.all (Box.qG fp.length)=true) (ha:az=ds.map (zi λb=>(sg++nu).getD b 0)) (h:xm P f ds fp post)
     (k:∀r bs,post r bs->bs.length=(sg++nu).length /\
      K (pz.flatMap AV.owns++(sg++nu)) (pz.flatMap AV.owns++(sg++nu)) (((st.AU (pz.flatMap AV.owns)).mW ((sg++nu).zip (bs.map (yc λb=>(sg++nu).getD b 0)))).uh d (.v true (zi (λb=>(sg++nu).getD b 0) r))))
inductive DU {α:Type}(x:α):Type
 |mk
def pM (P:Program)(f:FuncId)(pz:List AV)(p:Bool)(d:Option Nat)(st:eH)(K:List Nat->List Nat->eH->Prop)(_:DU K):Prop:=E8 P f pz p d st K
inductive Kv where
 |op (o:kH)
 |call (f:FuncId) (args:List jR)
 |DR (x:jR) (args:List jR)
 deriving Inhabited
structure iR where
 g:Option (Nat×Bool)
 d:Option Nat
 i:Kv
 deriving Inhabited
def yN (P:Program)(f:FuncId):Bool:=match P.funcs[f]? with
 |some fn=> !(fn.name == "runtime.NumGoroutine")&&fn.body.isSome
 |none=>false
def xe (tm:Nat->Slot):Option (Nat×Bool)->Prop
 |none=>True
 | some (s,_)=>match tm s with
   |.v false _=>True
   |.v true (.one (.c (.lit (.bool _))))=>True
   |_=>False
def mF (tm:Nat->Slot):Option (Nat×Bool)->Bool
 |none=>true
 | some (s,w)=>match tm s with
   |.v true (.one (.c (.lit (.bool b))))=>b==w
   |_=>false
def kH.valid (ev:jR->Slot):kH->Prop
 | .pick c a b=>(ev c).g=true/\(match(ev c).x with
   |.one (.c (.lit (.bool t)))=>(t=true->(ev a).g=true)/\(t=false->(ev b).g=true)
   |_=>False)
 |o=>∀x,x∈o.kX->(ev x).g=true
def bW (tm:Nat->Slot)(x:jR):AV:=(x.ev tm).x
def TOp (o:kH)(p:Bool)(d:Option Nat)(st:eH)(K:List Nat->List Nat->eH->Prop):Prop:=
 (p=true->o.valid (jR.ev st.tm)/\(o.f (bW st.tm) st.bx).vc /\
  K (o.rd (bW st.tm)) ((o.f (bW st.tm) st.bx).sets.map (·.1)) ((st.mW (o.f (bW st.tm) st.bx).sets).uh d (.v true (o.f (bW st.tm) st.bx).v))) /\
 (p=false->K [] [] (st.uh d (.v false (.one .Ee))))
def T (P:Program)(o:iR)(st:eH)(K:List Nat->List Nat->eH->Prop):Prop:=
 xe st.tm o.g/\match o.i with
  |.op op=>TOp op (mF st.tm o.g) o.d st K
  |.call f args=>(mF st.tm o.g=true->∀x,x∈args->(x.ev st.tm).g=true)/\pM P f (args.map (bW st.tm)) (mF st.tm o.g) o.d st K .mk
  | .DR x args=>(mF st.tm o.g=true->(x.ev st.tm).g=true/\∀x,x∈args->(x.ev st.tm).g=true)/\match mF st.tm o.g,bW st.tm x with
    |false,_=>pM P 0 [] false o.d st K .mk
    |true,.one (.fn f caps)=>yN P f=true/\pM P f (args.map (bW st.tm)++caps.map λb=>.one (.ptr b 0)) true o.d st K .mk
    |true,_=>False
def wpOps (P:Program):List iR->eH->(eH->Prop)->Prop
 |[],st,K=>K st
 |o::r,st,K=>T P o st λ_ _ st'=>wpOps P r st' K
def FM (a b:List Nat):Bool:=a.all λx=> !b.contains x
def x8 (zO:List Nat)(rd wr:List Nat):List (Nat×List Nat×List Nat)->Bool
 |[]=>true
 |(j,r,w)::l=>(zO.contains j||(FM wr r&&FM wr w&&FM rd w))&&x8 zO rd wr l
def wpD (P:Program):List (iR×List Nat)->Nat->List (Nat×List Nat×List Nat)->eH->(eH->Prop)->Prop
 |[],_,_,st,K=>K st
 |(o,zO)::r,i,log,st,K=>T P o st λrd wr st'=>x8 zO rd wr log=true/\wpD P r (i+1) ((i,rd,wr)::log) st' K
def eH.keep (st:eH)(ts:List Nat):eH:=⟨λt=>if t∈ts then st.tm t else .none,st.bx⟩
theorem Oj (w:World)(o:Obj)(r:Nat)(h:r<w.heap.size):(w.alloc o).heap[r]? = w.heap[r]?:=by show(w.heap.push o)[r]? = w.heap[r]?;rw[vX,aj (Nat.ne_of_lt h)]
theorem vG.keep {I J:IH}{ρ σ:Ren}{w w':World}{b:Nat}{x:Box}(h:vG I ρ w b x)(hI:I.le J)(hρ:ρ.le σ)(hb:σ b=ρ b)
 (hk:∀k,x.uses (ρ b) k->w'.heap[k]? = w.heap[k]?):vG J σ w' b x:=by
 cases x with
 |absent=>exact hb.trans h
 |dead=>trivial
 | var xs=>obtain⟨k,cap,cs,hr,hw,hs,hc⟩:=h;exact⟨k,cap,cs,hb.trans hr,(hk k ⟨cap,hr⟩).trans hw,hs,λj u x hu hx=>(hc j u x hu hx).mono hI hρ⟩
 | dat sz es=>obtain⟨k,cap,hr,hl,hm,hsz,hc⟩:=h;refine⟨k,cap,hb.trans hr,hl,hm,hsz,λh0=>?_⟩;obtain⟨cs,e,hw,hs,h1,hc⟩:=hc h0;exact⟨cs,e,(hk k ⟨cap,hr,h0⟩).trans hw,hs,h1,λi j c hj=>let ⟨u,hu,hr⟩:=hc i j c hj;⟨u,hu,hr.mono hI⟩⟩
 | AU sz es=>obtain⟨k,cap,hr,hl,hm,hsz,hc⟩:=h;refine⟨k,cap,hb.trans hr,hl,hm,hsz,λh0=>?_⟩;obtain⟨cs,hw,hc⟩:=hc h0;exact⟨cs,hI _ _ hw,λi j c hj=>let ⟨u,hu,hr⟩:=hc i j c hj;⟨u,hu,hr.mono hI⟩⟩
 | row e l=>obtain⟨k,cap,hr,hl,hm,hc⟩:=h;refine⟨k,cap,hb.trans hr,hl,hm,λh0=>?_⟩;obtain⟨cs,hw,hc⟩:=hc h0;exact⟨cs,(hk k ⟨cap,hr,h0⟩).trans hw,hc⟩
theorem BX.step {I J:IH}{ρ σ:Ren}{w w':World}{bx bx':Nat->Box}(D:Nat->Prop)(h:BX I ρ w bx)(hI:I.le J)(hρ:ρ.le σ)
 (hsame:∀b,¬D b->bx' b=bx b/\σ b=ρ b) (hkeep:∀b k,¬D b->(bx b).uses (ρ b) k->w'.heap[k]? = w.heap[k]?)
 (hok:∀b,D b->vG J σ w' b (bx' b)) (Ai:∀b k,D b->(bx' b).uses (σ b) k->(∀b',¬D b'->¬(bx b').uses (ρ b') k)/\J k=none)
 (hinj:∀b b' k,D b->D b'->(bx' b).uses (σ b) k->(bx' b').uses (σ b') k->b=b')
 (hJ:∀b k,¬D b->(bx b).uses (ρ b) k->J k=none):BX J σ w' bx':=by
 refine⟨λb=>?_,λb b' k hb hb'=>?_,λb k hb=>?_⟩
 ·by_cases hD:D b
  ·exact hok b hD
  ·obtain⟨e1,e2⟩:=hsame b hD;rw[e1];exact(h.ok b).keep hI hρ e2 λk hk=>hkeep b k hD hk
 ·by_cases hD:D b
  ·by_cases hD':D b'
   ·exact hinj b b' k hD hD' hb hb'
   ·obtain⟨e1,e2⟩:=hsame b' hD';rw[e1,e2]at hb';exact dO hb' ((Ai b k hD hb).1 b' hD')
  ·obtain⟨e1,e2⟩:=hsame b hD;rw[e1,e2]at hb;by_cases hD':D b'
   ·exact dO hb ((Ai b' k hD' hb').1 b hD)
   ·obtain⟨e1',e2'⟩:=hsame b' hD';rw[e1',e2']at hb';exact h.inj b b' k hb hb'
 ·by_cases hD:D b
  ·exact(Ai b k hD hb).2
  ·obtain⟨e1,e2⟩:=hsame b hD;rw[e1,e2]at hb;exact hJ b k hD hb
theorem Agree.alloc {I:IH}{w:World}(h:Agree I w)(o:Obj):Agree I (w.alloc o):=λb c hc=>by obtain⟨e,fr,hw⟩:=h b c hc;exact⟨e,fr,(Oj w o b (qM hw)).trans hw⟩
theorem Agree.other {I:IH}{w w':World}(h:Agree I w)(hk:∀k c,I k=some c->w'.heap[k]? = w.heap[k]?):Agree I w':=λb c hc=>by obtain⟨e,fr,hw⟩:=h b c hc;exact⟨e,fr,(hk b c hc).trans hw⟩
theorem Agree.aa7 {I:IH}{w:World}(h:Agree I w){k:Nat}(hk:w.heap.size<=k):I k=none:=by
 cases hc:I k with
 |none=>rfl
 |some c=>have:=h.lt hc;omega
def Ren.set (ρ:Ren)(l k cap:Nat):Ren:=λb=>if b=l then some (k,cap)else ρ b
theorem Ren.IW {ρ:Ren}{l k cap:Nat}(h:ρ l=none):ρ.le (ρ.set l k cap):=λb x hb=>by unfold Ren.set;rw[aj (λe=>by subst e;rw[h]at hb;cases hb)];exact hb
theorem Ren.jS (ρ:Ren)(l k cap:Nat):(ρ.set l k cap) l=some (k,cap):=by simp[Ren.set]
theorem Ren.rW {ρ:Ren}{l k cap b:Nat}(h:b≠l):(ρ.set l k cap) b=ρ b:=by simp[Ren.set,h]
theorem BX.new {I:IH}{ρ:Ren}{w:World}{bx:Nat->Box}(h:BX I ρ w bx)(hA:Agree I w){l:Nat}(hl:bx l = .absent)(cs:Array Value)(e:TypeId)(cap:Nat)(x:Box)
 (hx:vG I (ρ.set l w.heap.size cap) (w.alloc (.cells cs e)) l x) :
 BX I (ρ.set l w.heap.size cap) (w.alloc (.cells cs e)) (λb=>if b=l then x else bx b):=by
 have hrl:ρ l=none:=by have:=h.ok l;rwa[hl]at this
 refine BX.step (λb=>b=l) h (IH.le_refl I) (Ren.IW hrl) ?_ ?_ ?_ ?_ ?_ ?_
 ·intro b hb;exact⟨by simp[hb],Ren.rW hb⟩
 ·intro b k hb hk;exact Oj _ _ _ ((h.ok b).lt hk)
 ·rintro b rfl;simpa using hx
 ·rintro b k rfl hk;have hk':k=w.heap.size:=by
   simp only[iT,Ren.jS]at hk;cases x with
   |absent=>exact hk.elim
   |dead=>exact hk.elim
   |AU sz es=>exact hk.elim
   |var xs=>obtain⟨c,hc⟩:=hk;simp at hc;exact hc.1.symm
   |dat sz es=>obtain⟨c,hc,_⟩:=hk;simp at hc;exact hc.1.symm
   |row e l=>obtain⟨c,hc,_⟩:=hk;simp at hc;exact hc.1.symm
  subst hk';exact⟨λb' hb' hu=>by have:=(h.ok b').lt hu;omega,hA.aa7 (aA _)⟩
 ·rintro b b' k rfl rfl _ _;rfl
 ·intro b k hb hk;exact h.fresh b k hk
theorem BX.set {I:IH}{ρ:Ren}{w w':World}{bx:Nat->Box}(h:BX I ρ w bx){b k:Nat}(hu:(bx b).uses (ρ b) k)(x:Box)(hux:∀k',x.uses (ρ b) k'->k'=k)
 (hk:∀k',k'≠k->w'.heap[k']? = w.heap[k']?) (hx:vG I ρ w' b x):BX I ρ w' (λc=>if c=b then x else bx c):=by
 refine BX.step (λc=>c=b) h (IH.le_refl I) (Ren.le_refl ρ) ?_ ?_ ?_ ?_ ?_ ?_
 ·intro c hc;exact⟨by simp[hc],rfl⟩
 ·intro c k' hc hu';refine hk k' λe=>hc ?_;subst e;exact h.inj c b k' hu' hu
 ·rintro c rfl;simpa using hx
 ·rintro c k' rfl hk';simp only[iT]at hk';have:=hux k' hk';subst this;exact⟨λb' hb' hu'=>hb' (h.inj b' c k' hu' hu),h.fresh c k' hu⟩
 ·rintro c c' k' rfl rfl _ _;rfl
 ·intro c k' hc hu';exact h.fresh c k' hu'
structure Env (P:Program) where
 w0:World
 I0:IH
 M:Nat->Prop
 Ph:Ren
 m:Nat
 tab:Tabs P I0
structure GX {P:Program}(E:Env P)(I:IH)(ρ:Ren)(n:Nat)(st:eH)(a:Act)(w:World):Prop extends GS I ρ n st a w where
 ve:wZ E.w0 w E.M
 own:∀b k,(st.bx b).uses (ρ b) k->E.w0.heap.size<=k\/E.M k
 Ec:E.I0.le I
 Aj:∀k,k<E.w0.heap.size->¬E.M k->I k=E.I0 k
 ru:∀b,b<E.m->ρ b=E.Ph b
theorem GX.tabs {P:Program}{E:Env P}{I:IH}{ρ:Ren}{n:Nat}{st:eH}{a:Act}{w:World}(h:GX E I ρ n st a w):Tabs P I:=E.tab.mono h.Ec
theorem GX.put {P:Program}{E:Env P}{I:IH}{ρ:Ren}{n:Nat}{st:eH}{a:Act}{w:World}(h:GX E I ρ n st a w){d:Nat}(hd:d<n){v:Value}{s:Slot}(hv:Ub I ρ v s) :
 GX E I ρ n (st.put d s) (a.put (some d) v) w:=by
 refine{ h with tm:=λt ht=>?_,size:=by simp[fO,h.size],defers:=h.defers,agree:=h.agree,bx:=h.bx };have hdt:d<a.tmps.size:=by rw[h.size];exact hd
 simp only[fO,eH.MJ];by_cases e:t=d
 ·subst e;simpa[Array.getD,hdt]using hv
 ·have:=h.tm t ht;rw[aj e];have e':d≠t:=λx=>e x.symm;simpa[dm,Array.getElem?_setIfInBounds,e']using this
theorem GX.uh {P:Program}{E:Env P}{I:IH}{ρ:Ren}{n:Nat}{st:eH}{a:Act}{w:World}(h:GX E I ρ n st a w){d:Option Nat}(hd:∀x,d=some x->x<n){v:Value}{s:Slot}(hv:Ub I ρ v s) :
 GX E I ρ n (st.uh d s) (a.put d v) w:=by
 cases d with
 |none=>exact h
 |some d=>exact h.put (hd d rfl) hv
theorem GX.drew {P:Program}{E:Env P}{I:IH}{ρ:Ren}{n:Nat}{st:eH}{a:Act}{w:World}(h:GX E I ρ n st a w):GX E I ρ n st a w.drew:=
 { agree:=h.agree,bx:=⟨h.bx.ok,h.bx.inj,h.bx.fresh⟩,tm:=h.tm,size:=h.size,defers:=h.defers,ve:=⟨h.ve.os,h.ve.tape,h.ve.output,h.ve.size,h.ve.block,Nat.le_succ_of_le h.ve.drawn⟩,own:=h.own,Ec:=h.Ec,Aj:=h.Aj,ru:=h.ru }
theorem GX.lit {P:Program}{E:Env P}{I:IH}{ρ:Ren}{n:Nat}{st:eH}{a:Act}{w:World}(h:GX E I ρ n st a w):BX I ρ w st.bx:=h.bx
theorem GX.new {P:Program}{E:Env P}{I:IH}{ρ:Ren}{n:Nat}{st:eH}{a:Act}{w:World}(h:GX E I ρ n st a w){l:Nat}(hl:st.bx l = .absent)(hm:E.m<=l)(cs:Array Value)(e:TypeId)(cap:Nat)(x:Box)
 (hx:vG I (ρ.set l w.heap.size cap) (w.alloc (.cells cs e)) l x):GX E I (ρ.set l w.heap.size cap) n (st.rX l x) a (w.alloc (.cells cs e)):=by
 have hrl:ρ l=none:=by have:=h.bx.ok l;rwa[hl]at this
 have hle:=Ren.IW (ρ:=ρ) (k:=w.heap.size) (cap:=cap) hrl;refine{ agree:=h.agree.alloc _,bx:=BX.new h.bx h.agree hl cs e cap x hx,tm:=λt ht=>(h.tm t ht).mono (IH.le_refl _) hle,size:=h.size,defers:=h.defers,ve:=?_,own:=?_,Ec:=h.Ec,Aj:=h.Aj,ru:=?_ }
 ·exact h.ve.trans (N:=λ_=>False) ⟨rfl,rfl,rfl,kY,λk hk _=>Oj _ _ _ hk,aA _⟩ (λ_ _ hf=>hf.elim)
 ·intro b k hu;simp only[eH.lC]at hu;by_cases e:b=l
  ·subst e
   left
   have hs:=h.ve.size;have hk':k=w.heap.size:=by
    simp only[iT,Ren.jS]at hu;cases x with
    |absent=>exact hu.elim
    |dead=>exact hu.elim
    |AU sz es=>exact hu.elim
    |var xs=>obtain⟨c,hc⟩:=hu;simp at hc;exact hc.1.symm
    |dat sz es=>obtain⟨c,hc,_⟩:=hu;simp at hc;exact hc.1.symm
    |row e l=>obtain⟨c,hc,_⟩:=hu;simp at hc;exact hc.1.symm
   omega
  ·rw[aj e,Ren.rW e]at hu;exact h.own b k hu
 ·intro b hb;rw[Ren.rW aQ];exact h.ru b hb
theorem GX.rX {P:Program}{E:Env P}{I:IH}{ρ:Ren}{n:Nat}{st:eH}{a:Act}{w w':World}(h:GX E I ρ n st a w){b k:Nat}(hu:(st.bx b).uses (ρ b) k)(x:Box)(hux:∀k',x.uses (ρ b) k'->k'=k)
 (hF:wZ w w' (λk'=>k'=k)) (hx:vG I ρ w' b x) (hsz:w'.heap.size=w.heap.size):GX E I ρ n (st.rX b x) a w':=by
 have hk:∀k',k'≠k->w'.heap[k']? = w.heap[k']?:= λk' hne=>by
  by_cases hlt:k'<w.heap.size
  ·exact hF.block k' hlt hne
  ·rw[nS aQ,nS aQ]
 refine{ agree:=h.agree.other λk' c hc=>hk k' λe=>?_,bx:=BX.set h.bx hu x hux hk hx,tm:=h.tm,size:=h.size,defers:=h.defers,ve:=?_,own:=?_,Ec:=h.Ec,Aj:=h.Aj,ru:=h.ru }
 ·subst e;have:=h.bx.fresh b k' hu;rw[this]at hc;cases hc
 ·refine h.ve.trans hF λk' hlt e=>?_;subst e;rcases h.own b k' hu with h1|h1
  ·omega
  ·exact h1
 ·intro c k' hc;simp only[eH.lC]at hc;by_cases e:c=b
  ·subst e;simp only[iT]at hc;have:=hux k' hc;subst this;exact h.own c k' hu
  ·rw[aj e]at hc;exact h.own c k' hc
section
def acB : Value->AC->Bool
 |.int k n,.c (.lit (.int k' n'))=>k==k'&&n==n'
 |.bool b,.c (.lit (.bool b'))=>b==b'
 |.string s,.c (.str l)=>s.data.toList==l&&decide (l.length<=1000000)
 |.slice none 0 0,.wC _=>true
 |.slice none 0 0,.c (.sl _ [])=>true
 |.pointer none,.c (.lit (.pointer none))=>true
 |.nilFunc,.c (.lit .nilFunc)=>true
 |.nilIface,.c (.lit .nilIface)=>true
 |_,_=>false
theorem Wj {I:IH}{ρ:Ren}{v:Value}{x:AC}(h:acB v x=true):GC I ρ v x:=by
 unfold acB at h;split at h
 ·simp only[af,aK]at h;obtain⟨rfl,rfl⟩:=h;exact Rd.lit _ rfl
 ·simp only[aK]at h;subst h;exact Rd.lit _ rfl
 ·rename_i s l;simp only[af,aK,ak]at h;obtain⟨rfl,hl⟩:=h;have:s=⟨⟨s.data.toList⟩⟩:=by cases s;rfl
  exact this▸Rd.str _ (by simp only[maxLen];omega)
 ·rfl
 ·exact Rd.sl none 0 0 _ [] (λ_ _=>undef) rfl (aA _) (Nat.zero_le _) (λe h=>by cases h) (λh=>by omega) (λad h=>by cases h) (λi j c h=>by simp at h)
 ·exact Rd.lit _ rfl
 ·exact Rd.lit _ rfl
 ·exact Rd.lit _ rfl
 ·cases h
def iM (n:Nat):Operand->jR->Bool
 |.tmp t,.t s=>t==s&&decide (t<n)
 |.const v,.k x=>acB v x
 |.func f,.k (.fn g [])=>f==g
 |.global g,.k (.c (.lit (.pointer (some a))))=>a.block==g&&a.off==0&&a.spot.isNone
 |_,_=>false
section
variable {P:Program} {E:Env P} {I:IH} {ρ:Ren} {n:Nat} {st:eH} {a:Act} {w:World}
theorem aeY (h:GX E I ρ n st a w){x:Operand}{y:jR}(hc:iM n x y=true):Ub I ρ (a.eval x) (y.ev st.tm):=by
 unfold iM at hc;split at hc
 ·simp only[af,aK,ak]at hc;obtain⟨rfl,hlt⟩:=hc;exact h.tm _ hlt
 ·exact⟨λ_=>Wj hc,λe=>by cases e⟩
 ·simp only[aK]at hc;subst hc;exact⟨λ_=>⟨[],rfl,kY,rfl⟩,λe=>by cases e⟩
 ·rename_i g ad;simp only[af,aK]at hc;obtain⟨⟨h1,h2⟩,h3⟩:=hc;refine⟨λ_=>?_,λe=>by cases e⟩;have:ad=⟨g,0,none⟩:=by cases ad;simp at *;exact⟨h1,h2,h3⟩
  subst this;exact Rd.lit _ rfl
 ·cases hc
theorem jF (h:GX E I ρ n st a w){x:Operand}{y:jR}(hc:iM n x y=true)(hv:(y.ev st.tm).g=true):GV I ρ (a.eval x) (bW st.tm y):=by
 have:=aeY h hc;unfold bW;cases hs:y.ev st.tm with
 |none=>rw[hs]at hv;cases hv
 |v g x=>rw[hs]at hv this;exact this.1 hv
def nY (P:Program)(E:Env P)(n:Nat)(o:Oper)(a:Act)(w:World)(st:eH)(rv:AV):Prop:=
 ∃v w' I' ρ',((execOp a.eval o).run P w = .ok (.value v) w'\/(execOp a.eval o).run P w = .ok .skip w'/\o.dst=none)/\GX E I' ρ' n st a w'/\(o.dst≠none->GV I' ρ' v rv)
def vP : Op->Bool
 |.alloc _|.box _ _|.makeSlice _ _ _|.buildSlice _ _ _|.store _ _ _=>false
 |.call c=>(match c.callee with|.builtin .len|.builtin .cap|.builtin .max|.builtin .min|.value _=>true|_=>false)
 |_=>true
def IP : Op->Bool
 |.store _ _ _=>true
 |_=>false
structure Eff (o:Oper)(a:Act)(w w':World):Prop where
 quiet:vP o.op=true->w'=w
 store:∀t p x,o.op = .store t p x->∃k off cs e,a.eval p = .pointer (some ⟨k,off,none⟩)/\w.heap[k]? = some (.cells cs e (0,0))/\off+(a.eval x).cells.size<=cs.size /\
  w'=w.setRow k (splice cs.toList off (a.eval x).cells.toList).toArray
def oP (P:Program)(E:Env P)(n:Nat)(o:Oper)(a:Act)(w:World)(st:eH)(rv:AV):Prop:=
 ∃v w' I' ρ',((execOp a.eval o).run P w = .ok (.value v) w'\/(execOp a.eval o).run P w = .ok .skip w'/\o.dst=none)/\GX E I' ρ' n st a w'/\(o.dst≠none->GV I' ρ' v rv)/\Eff o a w w'
theorem UY {o:Oper}{a:Act}{w w':World}{v:Value}(hr:(execOp a.eval o).run P w = .ok (.value v) w')(hs:IP o.op=true):False:=by
 unfold IP at hs;split at hs
 ·rename_i t p x he;simp only[execOp,he,bC]at hr;cases h:(um t (a.eval p) (a.eval x)).run P w<;>rw[h]at hr<;>simp at hr
 ·cases hs
theorem nY.val {o:Oper}{v:Value}{rv:AV}(h:GX E I ρ n st a w)(hr:(execOp a.eval o).run P w = .ok (.value v) w)(hv:GV I ρ v rv):oP P E n o a w st rv:=
 ⟨v,w,I,ρ,.inl hr,h,λ_=>hv,{ quiet:=λ_=>rfl,store:=λt p x he=>(UY hr (by rw[he];rfl)).elim }⟩
theorem nY.Zn {o:Oper}{rv:AV}(h:nY P E n o a w st rv)(hq:vP o.op=false)(hs:IP o.op=false):oP P E n o a w st rv:=
 let ⟨v,w',I',ρ',h1,h2,h3⟩:=h
 ⟨v,w',I',ρ',h1,h2,h3,{ quiet:=λe=>(by rw[hq]at e;cases e),store:=λt p x he=>(by rw[he]at hs;cases hs) }⟩
def CU : TypeDesc->Bool
 |.struct _|.array _ _=>true
 |_=>false
def DF (P:Program)(t:TypeId)(agg:Bool)(k:Nat):Bool:=
 match P.underlying t,P.info? t with
 |some d,some i=>CU d==agg&&i.size==k
 |_,_=>false
theorem Ac {t:TypeId}{agg:Bool}{k:Nat}(h:DF P t agg k=true)(w:World):(isAgg t).run P w = .ok agg w/\(sizeOf t).run P w = .ok k w:=by
 unfold DF at h;split at h
 ·rename_i d i hd hi;simp only[af,aK]at h;obtain⟨rfl,rfl⟩:=h;refine⟨?_,by simp[sizeOf,typeInfo,hi]⟩;cases d<;>simp[isAgg,run_underlying hd,CU]
 ·cases h
def Jc (P:Program)(t:TypeId)(k:Nat):Bool:=match P.info? t with|some i=>i.size==k|none=>false
theorem Eo {t:TypeId}{k:Nat}(h:Jc P t k=true):∃i,P.info? t=some i/\i.size=k:=by
 unfold Jc at h;split at h
 ·rename_i i hi;exact⟨i,hi,by simpa using h⟩
 ·cases h
def ZL (n:Nat)(op:Op)(y:jR):Bool:=match op with|.move x|.assign x=>iM n x y|_=>false
theorem ac9 {o:Oper}{y:jR}(h:GX E I ρ n st a w)(hc:ZL n o.op y=true)(hv:(y.ev st.tm).g=true):oP P E n o a w st (bW st.tm y):=by
 unfold ZL at hc;split at hc
 ·rename_i x hx;exact nY.val h (v:=a.eval x) (by simp[execOp,hx]) (jF h hc hv)
 ·rename_i x hx;exact nY.val h (v:=a.eval x) (by simp[execOp,hx]) (jF h hc hv)
 ·cases hc
def PS (n:Nat)(op:Op)(c x y:jR):Bool:=match op with|.pick c' x' y'=>iM n c' c&&iM n x' x&&iM n y' y|_=>false
theorem CS {v:Value}{b:Bool}(h:GV I ρ v (oV b)):v = .bool b:=by cases h with|lit v hv=>rfl
theorem rq {v:Value}{k:IntKind}{m:Int}(h:GV I ρ v (pX k m)):v = .int k m:=by cases h with|lit v hv=>rfl
theorem Bv {v:Value}{l:List UInt8}(h:GV I ρ v (Dk l)):v = .string ⟨⟨l⟩⟩/\l.length<=maxLen:=by cases h with|str l hl=>exact⟨rfl,hl⟩
theorem Bh (b:Bool):GV I ρ (.bool b) (oV b):=Rd.lit _ rfl
theorem uJ (k:IntKind)(m:Int):GV I ρ (.int k m) (pX k m):=Rd.lit _ rfl
theorem Qn {l:List UInt8}(h:l.length<=maxLen):GV I ρ (.string ⟨⟨l⟩⟩) (Dk l):=Rd.str l h
theorem Vu (x y:AV){v:Value}(h:GV I ρ v x):GV I ρ v (Ju true x y):=by
 unfold Ju;split
 ·exact h
 ·exact h
theorem Tj (x y:AV){v:Value}(h:GV I ρ v y):GV I ρ v (Ju false x y):=by
 unfold Ju;split
 ·exact h
 ·simpa using h
theorem YG {o:Oper}{c x y:jR}{t:Bool}(h:GX E I ρ n st a w)(hc:PS n o.op c x y=true)(hg:(c.ev st.tm).g=true)(ht:bW st.tm c=oV t)
 (hx:t=true->(x.ev st.tm).g=true) (hy:t=false->(y.ev st.tm).g=true):oP P E n o a w st (Ju t (bW st.tm x) (bW st.tm y)):=by
 unfold PS at hc;split at hc
 ·rename_i c' x' y' he;simp only[af]at hc;have h1:=jF h hc.1.1 hg;rw[ht]at h1;have h1:=CS h1;cases t with
  |true=>exact nY.val h (v:=a.eval x') (by simp[execOp,he,h1,asBool]) (Vu _ _ (jF h hc.1.2 (hx rfl)))
  |false=>exact nY.val h (v:=a.eval y') (by simp[execOp,he,h1,asBool]) (Tj _ _ (jF h hc.2 (hy rfl)))
 ·cases hc
theorem toList_eq (l:List UInt8):(⟨⟨l⟩⟩:ByteArray).toList=l:=by rw[ByteArray.toList_eq]
theorem size_mk (l:List UInt8):(⟨⟨l⟩⟩:ByteArray).size=l.length:=rfl
theorem adm {b:BinOp}{t:TypeId}{x y:Value}{u v:AV}(w:World)(hx:GV I ρ x u)(hy:GV I ρ y v)(gI:(JF b u v).vc) :
 ∃r,(binOp b t x y).run P w = .ok r w/\GV I ρ r (JF b u v).v:=by
 unfold JF at *;split at gI
 ·rename_i k m k' m';obtain⟨rfl,gI⟩:=gI;have h1:=rq hx;have h2:=rq hy;subst h1;subst h2;cases b<;>simp only[LP,FR.bad,FR.ok]at gI⊢ <;>
   first
   |exact gI.elim
   |(refine⟨_,?_,uJ _ _⟩;simp[binOp,yF,Op.intDiv,Op.intBits,gI])
   |(refine⟨_,?_,Bh _⟩;simp[binOp,Op.intCmp])
 ·rename_i l l';obtain⟨h1,hl⟩:=Bv hx;obtain⟨h2,hl'⟩:=Bv hy;subst h1;subst h2;cases b<;>simp only[Nb,FR.bad,FR.ok]at gI⊢ <;>
   first
   |exact gI.elim
   |(refine⟨_,?_,Bh _⟩;simp only[binOp,Op.stringOp,toList_eq];rfl)
   |skip
  refine⟨.string ⟨⟨l++l'⟩⟩,?_,Qn (by simpa using gI)⟩;have h63:¬((l.length+l'.length:Nat):Int)>qh.max:=by simp only[maxLen]at gI;have e:qh.max=9223372036854775807:=(by decide);rw[e];omega
  have happ:(⟨⟨l⟩⟩:ByteArray)++⟨⟨l'⟩⟩=⟨⟨l++l'⟩⟩:=by apply ByteArray.ext;simp
  simp only[binOp,Op.stringOp,size_mk];rw[aj h63,happ];rfl
 ·exact gI.elim
def UF (n:Nat)(op:Op)(b:BinOp)(x y:jR):Bool:=match op with|.binOp b' _ x' y' _=>b'==b&&iM n x' x&&iM n y' y|_=>false
theorem xg (b:BinOp)(t:TypeId)(x y:Operand)(k:IntKind)(m:Int)(v:Value)(w:World):(eqGuard b t x y (.int k m) v).run P w = .ok () w:=by cases b<;>rfl
theorem JO (b:BinOp)(t:TypeId)(x y:Operand)(s:ByteArray)(v:Value)(w:World):(eqGuard b t x y (.string s) v).run P w = .ok () w:=by cases b<;>rfl
theorem Cb (b:BinOp)(t:TypeId)(x y:Operand)(s:Bool)(v:Value)(w:World):(eqGuard b t x y (.bool s) v).run P w = .ok () w:=by cases b<;>rfl
theorem ZE {o:Oper}{b:BinOp}{x y:jR}(h:GX E I ρ n st a w)(hc:UF n o.op b x y=true)(hx:(x.ev st.tm).g=true)(hy:(y.ev st.tm).g=true)
 (gI:(JF b (bW st.tm x) (bW st.tm y)).vc):oP P E n o a w st (JF b (bW st.tm x) (bW st.tm y)).v:=by
 unfold UF at hc;split at hc
 ·rename_i b' t x' y' t' he;simp only[af,aK]at hc;obtain⟨⟨rfl,h1⟩,h2⟩:=hc;have g1:=jF h h1 hx;have g2:=jF h h2 hy;obtain⟨r,hr,hg⟩:=adm (P:=P) (t:=t) w g1 g2 gI;refine nY.val h ?_ hg;have hq:(eqGuard b' t x' y' (a.eval x') (a.eval y')).run P w = .ok () w:=by
   unfold JF at gI;split at gI
   ·rename_i e1 e2;rw[e1]at g1;rw[rq g1];exact xg _ _ _ _ _ _ _ _
   ·rename_i e1 e2;rw[e1]at g1;rw[(Bv g1).1];exact JO _ _ _ _ _ _ _
   ·exact gI.elim
  simp[execOp,he,hq,hr]
 ·cases hc
def UE (P:Program)(n:Nat)(op:Op)(ng:Bool)(x y:jR):Bool:=
 match op with
 |.binOp b t x' y' _=>(match b with|.eql=> !ng|.neq=>ng|_=>false)&&(match P.underlying t with|some .bool=>true|_=>false)&&iM n x' x&&iM n y' y
 |_=>false
theorem ZC {o:Oper}{ng:Bool}{x y:jR}(h:GX E I ρ n st a w)(hc:UE P n o.op ng x y=true)(hx:(x.ev st.tm).g=true)(hy:(y.ev st.tm).g=true)
 (gI:(Rf ng (bW st.tm x) (bW st.tm y)).vc):oP P E n o a w st (Rf ng (bW st.tm x) (bW st.tm y)).v:=by
 unfold UE at hc;split at hc
 ·rename_i b t x' y' t' he;simp only[af]at hc;obtain⟨⟨⟨hb,ht⟩,h1⟩,h2⟩:=hc;have g1:=jF h h1 hx;have g2:=jF h h2 hy;unfold Rf at gI⊢;split at gI
  ·rename_i p q e1 e2;rw[e1]at g1;rw[e2]at g2;have hu:P.underlying t=some .bool:=by
    split at ht
    ·assumption
    ·cases ht
   have hd:∀d,(sU (d+1) t (.bool p) (.bool q)).run P w = .ok (p==q) w:=λd=>(by simp[sU,run_underlying hu]);have he':(Op.equal t (.bool p) (.bool q)).run P w = .ok (p==q) w:=hd 9999;have hp:=CS g1;have hq:=CS g2;simp only[FR.ok];cases b<;>simp at hb
   ·subst hb;refine nY.val h ?_ (Bh _);simp[execOp,he,hp,hq,Cb,binOp,he']
   ·subst hb;refine nY.val h ?_ (Bh _);simp[execOp,he,hp,hq,Cb,binOp,he',bne]
  ·exact gI.elim
 ·cases hc
def UK (n:Nat)(op:Op)(x:jR):Bool:=match op with|.unOp .not _ x'=>iM n x' x|_=>false
theorem aa8 {o:Oper}{x:jR}{b:Bool}(h:GX E I ρ n st a w)(hc:UK n o.op x=true)(hx:(x.ev st.tm).g=true)(hb:bW st.tm x=oV b):oP P E n o a w st (oV (!b)):=by
 unfold UK at hc;split at hc
 ·rename_i t x' he;have g1:=jF h hc hx;rw[hb]at g1;have hp:=CS g1;exact nY.val h (by simp[execOp,he,hp,Op.unary]) (Bh _)
 ·cases hc
def UJ (n:Nat)(op:Op)(x:jR):Bool:=match op with|.unOp .neg _ x'=>iM n x' x|_=>false
theorem aa5 {o:Oper}{x:jR}{k:IntKind}{m:Int}(h:GX E I ρ n st a w)(hc:UJ n o.op x=true)(hx:(x.ev st.tm).g=true)(hb:bW st.tm x=pX k m):oP P E n o a w st (pX k (k.wrap (0-m))):=by
 unfold UJ at hc;split at hc
 ·rename_i t x' he;have g1:=jF h hc hx;rw[hb]at g1;have hp:=rq g1;exact nY.val h (v:=.int k (k.wrap (0-m))) (by simp[execOp,he,hp,Op.unary,yF]) (uJ _ _)
 ·cases hc
def PE (P:Program)(n:Nat)(op:Op)(k:IntKind)(x:jR):Bool:=match op with|.convert s d x'=>(match P.underlying s with|some _=>true|none=>false)&&(match P.underlying d with|some (.int k')=>k'==k|_=>false)&&iM n x' x|_=>false
theorem XV {o:Oper}{x:jR}{k j:IntKind}{m:Int}(h:GX E I ρ n st a w)(hc:PE P n o.op k x=true)(hx:(x.ev st.tm).g=true)(hb:bW st.tm x=pX j m):oP P E n o a w st (pX k (k.wrap m)):=by
 unfold PE at hc;split at hc
 ·rename_i s d x' he;simp only[af]at hc;have g1:=jF h hc.2 hx;rw[hb]at g1;have hp:=rq g1;obtain⟨⟨h1,h2⟩,_⟩:=hc;split at h1
  ·rename_i ds hs;split at h2
   ·rename_i k' hd;simp only[aK]at h2;subst h2;exact nY.val h (v:=.int k' (k'.wrap m)) (by simp[execOp,he,hp,convert,run_underlying hs,run_underlying hd,Conv.intToInt]) (uJ _ _)
   ·cases h2
  ·cases h1
 ·cases hc
def PU (P:Program)(n:Nat)(op:Op)(x:jR):Bool:=match op with|.convert s d x'=>(match P.underlying s with|some .string=>true|_=>false)&&(match P.underlying d with|some .string=>true|_=>false)&&iM n x' x|_=>false
theorem YP {o:Oper}{x:jR}{l:List UInt8}(h:GX E I ρ n st a w)(hc:PU P n o.op x=true)(hx:(x.ev st.tm).g=true)(hb:bW st.tm x=Dk l):oP P E n o a w st (Dk l):=by
 unfold PU at hc;split at hc
 ·rename_i s d x' he;simp only[af]at hc;have g1:=jF h hc.2 hx;rw[hb]at g1;obtain⟨hp,hl⟩:=Bv g1;obtain⟨⟨h1,h2⟩,_⟩:=hc;split at h1
  ·rename_i hs;split at h2
   ·rename_i hd;exact nY.val h (by simp[execOp,he,hp,convert,run_underlying hs,run_underlying hd]) (Qn hl)
   ·cases h2
  ·cases h1
 ·cases hc
end
end
section
section
variable {P:Program} {E:Env P} {I:IH} {ρ:Ren} {n:Nat} {st:eH} {a:Act} {w:World}
theorem jd {α:Type}{es:List (List α)}{i j:Nat}{c:α}(h:(es.getD i [])[j]? = some c):i<es.length:=by
 by_cases hi:i<es.length
 ·exact hi
 ·simp[bu,iq (uy hi)]at h
theorem Addr.add_zero (p:Addr):p.add 0=p:=by simp[xA]
theorem Addr.mD (k o i:Nat):(⟨k,o,none⟩:Addr).add i=⟨k,o+i,none⟩:=by
 unfold xA;split
 ·simp_all
 ·rfl
theorem Addr.add_add (p:Addr)(i j:Nat):(p.add i).add j=p.add (i+j):=by unfold xA;by_cases hi:i=0<;>by_cases hj:j=0<;>simp[hi,hj,lH]
def wz (I:IH)(ρ:Ren)(w:World)(p:Addr)(xs:List AC):Prop:=
 ∀(j:Nat) (x:AC),xs[j]? = some x->∃u,w.cell? (p.add j)=some u/\GC I ρ u x
theorem wz.drop {p:Addr}{xs:List AC}(h:wz I ρ w p xs)(off:Nat):wz I ρ w (p.add off) (xs.drop off):=λj x hj=>by rw[dS]at hj;rw[Addr.add_add];exact h _ _ hj
theorem wz.take {p:Addr}{xs:List AC}(h:wz I ρ w p xs)(k:Nat):wz I ρ w p (xs.take k):=λj x hj=>by
 rw[bn]at hj;split at hj
 ·exact h _ _ hj
 ·cases hj
theorem wz.list {p:Addr}{xs:List AC}(h:wz I ρ w p xs):∃us:List Value,us.length=xs.length/\(∀(j:Nat) (u:Value),us[j]? = some u->w.cell? (p.add j)=some u)/\EE I ρ us xs:=by
 induction xs generalizing p with
 |nil=>exact⟨[],rfl,kY,rfl,kY⟩
 | cons x r ih=>
   obtain⟨u,hu,hg⟩:=h 0 x rfl;obtain⟨us,hl,hc,hgs⟩:=ih (p:=p.add 1) (λj y hj=>by rw[Addr.add_add];rw[pG];exact h (j+1) y (by simpa using hj));refine⟨u::us,by simp[hl],λj v hj=>?_,by simp[hl],λj v y hv hy=>?_⟩
   ·cases j with
    |zero=>simp at hj;subst hj;exact hu
    |succ j=>have:=hc j v (by simpa using hj);rwa[Addr.add_add,pG]at this
   ·cases j with
    |zero=>simp at hv hy;subst hv;subst hy;exact hg
    |succ j=>exact hgs.2 j v y (by simpa using hv) (by simpa using hy)
theorem QD {t:TypeId}{k:Nat}(ht:DF P t true k=true){p:Addr}{xs:List AC}(hl:xs.length=k)(h:wz I ρ w p xs) :
 ∃v,(loadVar t p).run P w = .ok v w/\GV I ρ v (.agg xs):=by
 obtain⟨us,hul,hc,hg⟩:=h.list;obtain⟨h1,h2⟩:=Ac ht w;have h3:=run_loadCells_list (P:=P) w p us hc;refine⟨.agg us.toArray,?_,us.toArray,rfl,by simpa using hg⟩;rw[hul,hl]at h3;simp[loadVar,h1,h2,h3]
theorem C9 {t:TypeId}{k:Nat}(ht:DF P t false k=true){p:Addr}{u:Value}(h:w.cell? p=some u):(loadVar t p).run P w = .ok u w:=by obtain⟨h1,h2⟩:=Ac ht w;simp[loadVar,h1,run_load,h]
theorem BX.Y8 (h:BX I ρ w st.bx){b k cap:Nat}{xs:List AC}(hb:st.bx b = .var xs)(hr:ρ b=some (k,cap)):wz I ρ w ⟨k,0,none⟩ xs:=λj x hj=>by
 have:=h.ok b;rw[hb]at this;obtain⟨k',cap',cs,hr',hw,hs,hc⟩:=this;rw[hr]at hr';simp at hr';obtain⟨rfl,rfl⟩:=hr';have hjl:j<cs.size:=by rw[hs];exact(ay.1 hj).1
 refine⟨cs[j],?_,hc j _ x (iE hjl) hj⟩;rw[Addr.mD];simp[dY,hw,iE hjl]
theorem GS.EF (h:GX E I ρ n st a w){b k cap sz:Nat}{es:List (List Cell)}(hb:(st.bx b).arr=some (sz,es))(hr:ρ b=some (k,cap))(hc:cap≠0){i:Nat}(hi:i<es.length) :
 wz I ρ w ⟨k,i*sz,none⟩ ((es.getD i []).map .c):=λj x hj=>by
 rw[aP]at hj;cases hq:(es.getD i [])[j]? with
 |none=>rw[hq]at hj;cases hj
 | some c=>
   rw[hq]at hj;simp at hj;subst hj;have hok:=h.bx.ok b;rw[Addr.mD];cases hx:st.bx b with
   | dat sz' es'=>rw[hx]at hok hb;simp[Box.arr]at hb;obtain⟨rfl,rfl⟩:=hb;obtain⟨k',cap',hr',_,_,_,hd⟩:=hok;rw[hr]at hr';simp at hr';obtain⟨rfl,rfl⟩:=hr';obtain⟨cs,e,hw,_,_,hcs⟩:=hd hc;obtain⟨u,hu,hrd⟩:=hcs i j c hq;exact⟨u,by simp[dY,hw,hu],hrd⟩
   | AU sz' es'=>rw[hx]at hok hb;simp[Box.arr]at hb;obtain⟨rfl,rfl⟩:=hb;obtain⟨k',cap',hr',_,_,_,hd⟩:=hok;rw[hr]at hr';simp at hr';obtain⟨rfl,rfl⟩:=hr';obtain⟨cs,hI,hcs⟩:=hd hc;obtain⟨u,hu,hrd⟩:=hcs i j c hq;obtain⟨e,fr,hw⟩:=h.agree _ _ hI;exact⟨u,by simp[dY,hw,hu],hrd⟩
   |absent=>rw[hx]at hb;cases hb
   |dead=>rw[hx]at hb;cases hb
   |var xs=>rw[hx]at hb;cases hb
   |row e l=>rw[hx]at hb;cases hb
theorem GS.BI (h:GX E I ρ n st a w){b k cap sz:Nat}{es:List (List Cell)}(hb:(st.bx b).arr=some (sz,es))(hr:ρ b=some (k,cap)):es.length<=cap/\cap<=maxLen/\∀e,e∈es->e.length=sz:=by
 have hok:=h.bx.ok b;cases hx:st.bx b with
 | dat sz' es'=>rw[hx]at hok hb;simp[Box.arr]at hb;obtain⟨rfl,rfl⟩:=hb;obtain⟨k',cap',hr',h1,h2,h3,hd⟩:=hok;rw[hr]at hr';simp at hr';obtain⟨rfl,rfl⟩:=hr';exact⟨h1,h2,h3⟩
 | AU sz' es'=>rw[hx]at hok hb;simp[Box.arr]at hb;obtain⟨rfl,rfl⟩:=hb;obtain⟨k',cap',hr',h1,h2,h3,hd⟩:=hok;rw[hr]at hr';simp at hr';obtain⟨rfl,rfl⟩:=hr';exact⟨h1,h2,h3⟩
 |absent=>rw[hx]at hb;cases hb
 |dead=>rw[hx]at hb;cases hb
 |var xs=>rw[hx]at hb;cases hb
 |row e l=>rw[hx]at hb;cases hb
def PO (P:Program)(n:Nat)(op:Op)(agg:Bool)(k:Nat)(p:jR):Bool:=match op with|.load t p'=>iM n p' p&&DF P t agg k&&(agg||k==1)|_=>false
theorem Ov {t:TypeId}{agg:Bool}{k:Nat}(h:GX E I ρ n st a w)(ht:DF P t agg k=true){pv:Value}{p:AV}(hp:GV I ρ pv p)(gI:(tJ agg k p st.bx).vc) :
 ∃v,(kN t pv).run P w = .ok v w/\GV I ρ v (tJ agg k p st.bx).v:=by
 have key:∀(q:Addr) (xs:List AC) (off:Nat),pv = .pointer (some (q.add off))->wz I ρ w q xs->(agg=true->off+k<=xs.length->∃v,(kN t pv).run P w = .ok v w/\GV I ρ v (.agg ((xs.drop off).take k))) /\
  (agg=false->∀x,xs[off]? = some x->∃v,(kN t pv).run P w = .ok v w/\GV I ρ v (.one x)):=by
  intro q xs off hq hc;refine⟨λhA hl=>?_,λhA x hx=>?_⟩
  ·subst hA;obtain⟨v,hv,hg⟩:=QD (P:=P) (xs:=(xs.drop off).take k) ht (by simp;omega) ((hc.drop off).take k);exact⟨v,by simp[kN,hq,iw,hv],hg⟩
  ·subst hA;obtain⟨u,hu,hg⟩:=hc off x hx;exact⟨u,by simp[kN,hq,iw,C9 (P:=P) ht hu],hg⟩
 unfold tJ at *;split at gI
 ·rename_i b off;obtain⟨kk,cap,hr,hv⟩:=hp;split at gI
  ·rename_i xs hb;have hc:=h.bx.Y8 hb hr;have hk:=key ⟨kk,0,none⟩ xs off (by rw[Addr.mD];simpa using hv) hc
   try simp only[hb]
   split at gI
   ·rename_i hA;rw[aF hA];exact hk.1 hA gI
   ·rename_i hA;rw[aj hA];split at gI
    ·rename_i x hx;simp only[FR.ok];exact hk.2 (by simpa using hA) x hx
    ·exact gI.elim
  ·exact gI.elim
 ·rename_i b i sz off;obtain⟨kk,cap,hr,hv⟩:=hp;split at gI
  ·rename_i sz' es hb
   try simp only[hb]
   have facts:=GS.BI h hb hr;split at gI
   ·rename_i hA;rw[aF hA];obtain⟨rfl,hi,hl⟩:=gI;have hc:=GS.EF h hb hr aQ hi;have hlen:(es.getD i []).length=sz':=facts.2.2 _ (by simp[bu,ai hi]);have:=(key ⟨kk,i*sz',none⟩ _ off (by rw[Addr.mD];exact hv) hc).1 hA (by rw[jM,hlen];exact hl);simpa[List.map_drop,ED]using this
   ·rename_i hA;rw[aj hA];obtain⟨rfl,hi,hl⟩:=gI;have hc:=GS.EF h hb hr aQ hi;have hlen:(es.getD i []).length=sz':=facts.2.2 _ (by simp[bu,ai hi]);have:=(key ⟨kk,i*sz',none⟩ _ off (by rw[Addr.mD];exact hv) hc).2 (by simpa using hA) (.c ((es.getD i []).getD off default))
     (by rw[aP,ai aQ];simp[bu,ai (show off<(es[i]?.getD []).length by simpa[bu]using(by omega:off<(es.getD i []).length))])
    exact this
  ·exact gI.elim
 ·rename_i cs;obtain⟨p,hv,hc⟩:=hp;have hcc:wz I ρ w p (cs.map .c):=λj x hj=>by
   rw[aP]at hj;cases hq:cs[j]? with
   |none=>rw[hq]at hj;cases hj
   |some c=>rw[hq]at hj;simp at hj;subst hj;obtain⟨u,hu,hr⟩:=hc j c hq;exact⟨u,h.agree.cell hu,hr⟩
  have hk:=key p _ 0 (by rw[Addr.add_zero];exact hv) hcc;split at gI
  ·rename_i hA;rw[aF hA];have:=hk.1 hA (by simpa using gI);simpa[ED]using this
  ·rename_i hA;rw[aj hA];have h0:cs[0]? = some (cs.getD 0 default):=(by simp[bu,ai gI]);exact hk.2 (by simpa using hA) _ (by rw[aP,h0];rfl)
 ·exact gI.elim
theorem Yn {o:Oper}{agg:Bool}{k:Nat}{p:jR}(h:GX E I ρ n st a w)(hc:PO P n o.op agg k p=true)(hx:(p.ev st.tm).g=true)(gI:(tJ agg k (bW st.tm p) st.bx).vc) :
 oP P E n o a w st (tJ agg k (bW st.tm p) st.bx).v:=by
 unfold PO at hc;split at hc
 ·rename_i t p' he;simp only[af]at hc;obtain⟨v,hv,hg⟩:=Ov (P:=P) h hc.1.2 (jF h hc.1.1 hx) gI;exact nY.val h (by simp[execOp,he,hv]) hg
 ·cases hc
end
end
section
section
variable {P:Program} {E:Env P} {I:IH} {ρ:Ren} {n:Nat} {st:eH} {a:Act} {w:World}
def G5 (P:Program)(t:TypeId):Bool:=match P.underlying t with|some (.slice _)=>true|_=>false
theorem Fe {t:TypeId}(h:G5 P t=true):∃e,P.underlying t=some (.slice e):=by
 unfold G5 at h;split at h
 ·rename_i e he;exact⟨e,he⟩
 ·cases h
def IQ (P:Program)(t:TypeId):Bool:=match P.underlying t with|some .string=>true|_=>false
theorem Be {t:TypeId}(h:IQ P t=true):P.underlying t=some .string:=by
 unfold IQ at h;split at h
 ·assumption
 ·cases h
theorem adR {v:Value}{sz:Nat}{es:List (List Cell)}(h:GV I ρ v (vSl sz es)):∃a cap,v = .slice a es.length cap/\es.length<=cap/\cap<=maxLen:=by cases h with|sl a len cap sz es u hlen hcap hmax=>subst hlen;exact⟨a,cap,rfl,hcap,hmax⟩
def lenV (x:AV):FR:=match x with
    |.one (.c (.sl _ es))=>.ok (pX .i64 es.length)
    |.one (.wC _)=>.ok (pX .i64 0)
    |.one (.own _ n _)=>.ok (pX .i64 n)
    |.one (.sub _ _ n _ _)=>.ok (pX .i64 n)
    |_=>.bad
theorem aes {v:Value}{x:AV}(h:GV I ρ v x)(gI:(lenV x).vc):∃b k c,v = .slice b k c/\(lenV x).v=pX .i64 k:=by
 unfold lenV at *;split at gI
 ·rename_i sz es;obtain⟨b,c,rfl,_⟩:=adR h;exact⟨b,_,c,rfl,rfl⟩
 ·simp only[GV,GC]at h;exact⟨none,0,0,h,rfl⟩
 ·obtain⟨k,cap,b,c,_,rfl,_⟩:=h;exact⟨b,_,c,rfl,rfl⟩
 ·obtain⟨k,cap,b,c,_,rfl,_⟩:=h;exact⟨b,_,c,rfl,rfl⟩
 ·exact gI.elim
def UH (P:Program)(n:Nat)(op:Op)(x:jR):Bool:=
 match op with
 |.call { callee:=.builtin .len,args:=⟨[x']⟩,argTypes:=⟨[t]⟩ }=>iM n x' x&&G5 P t
 |_=>false
theorem aaH {o:Oper}{x:jR}(h:GX E I ρ n st a w)(hc:UH P n o.op x=true)(hx:(x.ev st.tm).g=true)(gI:(lenV (bW st.tm x)).vc):oP P E n o a w st (lenV (bW st.tm x)).v:=by
 unfold UH at hc;split at hc
 ·rename_i x' t he;simp only[af]at hc;have g:=jF h hc.1 hx;obtain⟨e,ht⟩:=Fe hc.2;obtain⟨b,k,c,hv,hr⟩:=aes g gI;rw[hr];exact nY.val h (by simp[execOp,he,resolve,invoke,builtin,yj,run_underlying ht,hv,goInt]) (uJ _ _)
 ·cases hc
def PN (P:Program)(n:Nat)(op:Op)(x:jR):Bool:=
 match op with
 |.call { callee:=.builtin .len,args:=⟨[x']⟩,argTypes:=⟨[t]⟩ }=>iM n x' x&&IQ P t
 |_=>false
theorem Yl {o:Oper}{x:jR}{s:List UInt8}(h:GX E I ρ n st a w)(hc:PN P n o.op x=true)(hx:(x.ev st.tm).g=true)(hs:bW st.tm x=Dk s):oP P E n o a w st (pX .i64 s.length):=by
 unfold PN at hc;split at hc
 ·rename_i x' t he;simp only[af]at hc;have g:=jF h hc.1 hx;rw[hs]at g;have ht:=Be hc.2;obtain⟨hv,_⟩:=Bv g;exact nY.val h (v:=.int .i64 s.length) (by simp[execOp,he,resolve,invoke,builtin,yj,run_underlying ht,hv,goInt];rfl) (uJ _ _)
 ·cases hc
def Ob (mx:Bool)(n:Nat)(op:Op)(x y:jR):Bool:=
 match op with
 |.call { callee:=.builtin b,args:=⟨[x',y']⟩,argTypes:=_ }=>(match b with|.max=>mx|.min=> !mx|_=>false)&&iM n x' x&&iM n y' y
 |_=>false
theorem aaV {o:Oper}{x y:jR}{k:IntKind}{p q:Int}(h:GX E I ρ n st a w)(hc:Ob true n o.op x y=true)(hx:(x.ev st.tm).g=true)(hy:(y.ev st.tm).g=true)
 (e1:bW st.tm x=pX k p) (e2:bW st.tm y=pX k q):oP P E n o a w st (pX k (if q>p then q else p)):=by
 unfold Ob at hc;split at hc
 ·rename_i b x' y' ts he;simp only[af]at hc;have g1:=jF h hc.1.2 hx;have g2:=jF h hc.2 hy;rw[e1]at g1;rw[e2]at g2;have v1:=rq g1;have v2:=rq g2;obtain⟨⟨hb,_⟩,_⟩:=hc;cases b<;>simp at hb;refine nY.val h (v:=.int k (if q>p then q else p)) ?_ (uJ _ _);simp[execOp,he,resolve,invoke,builtin,Builtin.max_,v1,v2,Builtin.max2]
 ·cases hc
theorem aaY {o:Oper}{x y:jR}{k:IntKind}{p q:Int}(h:GX E I ρ n st a w)(hc:Ob false n o.op x y=true)(hx:(x.ev st.tm).g=true)(hy:(y.ev st.tm).g=true)
 (e1:bW st.tm x=pX k p) (e2:bW st.tm y=pX k q):oP P E n o a w st (pX k (if q<p then q else p)):=by
 unfold Ob at hc;split at hc
 ·rename_i b x' y' ts he;simp only[af]at hc;have g1:=jF h hc.1.2 hx;have g2:=jF h hc.2 hy;rw[e1]at g1;rw[e2]at g2;have v1:=rq g1;have v2:=rq g2;obtain⟨⟨hb,_⟩,_⟩:=hc;cases b<;>simp at hb;refine nY.val h (v:=.int k (if q<p then q else p)) ?_ (uJ _ _);simp[execOp,he,resolve,invoke,builtin,Builtin.min_,v1,v2,Builtin.min2]
 ·cases hc
theorem acU {v:Value}{xs:List AC}(h:GP I ρ v (true,xs)):GV I ρ v (.agg xs):=by simpa[GP,GV]using h
theorem aaf {v:Value}{x:AC}(h:GP I ρ v (false,[x])):GV I ρ v (.one x):=by simp only[GP]at h;obtain⟨y,hy,hg⟩:=h;simp at hy;subst hy;exact hg
def BQ (x:AV) (i:Nat):FR:=match x with
    | .Bl ps=>match ps[i]? with
      |some (true,xs)=>.ok (.agg xs)
      |some (false,[x])=>.ok (.one x)
      |_=>.bad
    |_=>.bad
def FI (n:Nat)(op:Op)(x:jR)(i:Nat):Bool:=match op with|.extract x' j=>iM n x' x&&j==i|_=>false
theorem P5 {o:Oper}{x:jR}{i:Nat}(h:GX E I ρ n st a w)(hc:FI n o.op x i=true)(hx:(x.ev st.tm).g=true)(gI:(BQ (bW st.tm x) i).vc):oP P E n o a w st (BQ (bW st.tm x) i).v:=by
 unfold FI at hc;split at hc
 ·rename_i x' j he;simp only[af,aK]at hc;obtain⟨h1,rfl⟩:=hc;have g:=jF h h1 hx;unfold BQ at gI⊢;split at gI
  ·rename_i ps e1;rw[e1]at g;obtain⟨vs,hv,hs,hp⟩:=g;have hj:∀p,ps[j]? = some p->∃v,vs[j]? = some v/\GP I ρ v p:=λp hq=>by
    have hl:j<vs.size:=(by rw[hs];exact(ay.1 hq).1);exact⟨vs[j],iE hl,hp j _ p (iE hl) hq⟩
   split at gI
   ·rename_i xs hq;obtain⟨v,hv',hg⟩:=hj _ hq;exact nY.val h (by simp[execOp,he,hv,xI,hv']) (acU hg)
   ·rename_i y hq;obtain⟨v,hv',hg⟩:=hj _ hq;exact nY.val h (by simp[execOp,he,hv,xI,hv']) (aaf hg)
   ·exact gI.elim
  ·exact gI.elim
 ·cases hc
def PM (P:Program)(n:Nat)(op:Op)(x i:jR):Bool:=match op with|.index t x' i'=>iM n x' x&&iM n i' i&&IQ P t|_=>false
theorem Yh {o:Oper}{x y:jR}{s:List UInt8}{k:IntKind}{i:Int}(h:GX E I ρ n st a w)(hc:PM P n o.op x y=true)(hx:(x.ev st.tm).g=true)(hy:(y.ev st.tm).g=true)
 (e1:bW st.tm x=Dk s) (e2:bW st.tm y=pX k i) (h0:0<=i) (h1:i<s.length):oP P E n o a w st (pX .u8 (s.getD i.toNat 0).toNat):=by
 unfold PM at hc;split at hc
 ·rename_i t x' y' he;simp only[af]at hc;have g1:=jF h hc.1.1 hx;have g2:=jF h hc.1.2 hy;rw[e1]at g1;rw[e2]at g2;obtain⟨v1,_⟩:=Bv g1;have v2:=rq g2;have ht:=Be hc.2;have hi:i.toNat<s.length:=by omega
  refine nY.val h (v:=.int .u8 (s.getD i.toNat 0).toNat) ?_ (uJ _ _);have hb:(⟨⟨s⟩⟩:ByteArray)[i.toNat]? = some (s.getD i.toNat 0):=by have:(⟨⟨s⟩⟩:ByteArray)[i.toNat]? = some ((⟨⟨s⟩⟩:ByteArray)[i.toNat]'(by simpa[ByteArray.size]using hi)):=getElem?_pos _ _ _;rw[this];simp[bu,ai hi];rfl
  simp[execOp,he,Instr.index,v1,v2,asIntOf,run_underlying ht,h0,hb]
 ·cases hc
def PR (n:Nat)(op:Op)(f:FuncId)(cs:List jR):Bool:=match op with|.makeFunc (.func g) ⟨[]⟩ caps=>g==f&&(caps.size==cs.length)&&(caps.toList.zip cs).all λp=>iM n p.1 p.2|_=>false
theorem acA {cs:List jR}{os:List Operand}{l:List Nat}(h:GX E I ρ n st a w)(hl:os.length=cs.length)(hc:(os.zip cs).all (λp=>iM n p.1 p.2)=true)(hg:∀x,x∈cs->(x.ev st.tm).g=true)
 (hk:Bo (cs.map (bW st.tm))=some l):∃ks:List Nat,ks.length=l.length/\(∀(j b k:Nat),l[j]? = some b->ks[j]? = some k->∃cap,ρ b=some (k,cap))/\os.map a.eval=ks.map λk=>kV (some ⟨k,0,none⟩):=by
 induction cs generalizing os l with
 | nil=>
   simp[Bo]at hk;subst hk;cases os with
   |nil=>exact⟨[],rfl,kY,rfl⟩
   |cons _ _=>simp at hl
 | cons c r ih=>
   cases os with
   |nil=>simp at hl
   | cons o os=>
     simp only[List.zip_cons_cons,iy,af]at hc;have g:=jF h hc.1 (hg c kY);simp only[bf]at hk;unfold Bo at hk;split at hk
     ·rename_i e;cases e
     ·rename_i b r' e;simp only[List.cons.injEq]at e;obtain⟨e1,rfl⟩:=e;cases hq:Bo (r.map (bW st.tm))with
      |none=>rw[hq]at hk;cases hk
      | some l'=>
        rw[hq]at hk;simp at hk;subst hk;obtain⟨ks,h1,h2,h3⟩:=ih (by simpa using hl) hc.2 (λx hx=>hg x (by simp[hx])) hq;rw[e1]at g;obtain⟨k,cap,hr,hv⟩:=g;refine⟨k::ks,by simp[h1],λj b' k' hb hk=>?_,by simp[hv,h3]⟩;cases j with
        |zero=>simp at hb hk;subst hb;subst hk;exact⟨cap,hr⟩
        |succ j=>exact h2 j b' k' (by simpa using hb) (by simpa using hk)
     ·cases hk
theorem YC {o:Oper}{f:FuncId}{cs:List jR}{l:List Nat}(h:GX E I ρ n st a w)(hc:PR n o.op f cs=true)(hg:∀x,x∈cs->(x.ev st.tm).g=true)
 (hk:Bo (cs.map (bW st.tm))=some l):oP P E n o a w st (.one (.fn f l)):=by
 unfold PR at hc;split at hc
 ·rename_i g caps he;simp only[af,aK]at hc;obtain⟨⟨rfl,hl⟩,hc⟩:=hc;obtain⟨ks,h1,h2,h3⟩:=acA h (by simpa using hl) hc hg hk;refine nY.val h (v:=.func (.func g) #[] (caps.map a.eval)) (by simp[execOp,he,Instr.makeFunc]) ⟨ks,h1,h2,?_⟩
  congr 1
  apply sS;simpa using h3
 ·cases hc
def D7 (off:Nat) (x:AV):FR:=match x with
    |.one (.ptr b o)=>.ok (.one (.ptr b (o+off)))
    |.one (.ug b i sz o)=>.ok (.one (.ug b i sz (o+off)))
    |.one (.zQ cs)=>.ok (.one (.zQ (cs.drop off)))
    |_=>.bad
theorem Z7 {v:Value}{x:AV}{off:Nat}(h:GV I ρ v x)(gI:(D7 off x).vc):∃p:Addr,v = .pointer (some p)/\GV I ρ (.pointer (some (p.add off))) (D7 off x).v:=by
 unfold D7 at *;split at gI
 ·rename_i b o;obtain⟨k,cap,hr,rfl⟩:=h;exact⟨_,rfl,k,cap,hr,by rw[Addr.mD]⟩
 ·rename_i b i sz o;obtain⟨k,cap,hr,rfl⟩:=h;exact⟨_,rfl,k,cap,hr,by rw[Addr.mD,lH]⟩
 ·rename_i cs;obtain⟨p,rfl,hc⟩:=h;exact⟨p,rfl,_,rfl,λj c hj=>by rw[dS]at hj;rw[Addr.add_add];exact hc _ c hj⟩
 ·exact gI.elim
def P6 (P:Program)(s:TypeId)(f off:Nat)(agg:Bool)(k:Nat):Bool:=
 match P.underlying s with
 | some (.struct fs)=>match fs[f]? with
   |some Jo=>Jo.offset==off&&DF P Jo.type agg k&&k != 0
   |none=>false
 |_=>false
theorem P7 {s:TypeId}{f off:Nat}{agg:Bool}{k:Nat}(h:P6 P s f off agg k=true):∃fs Jo,P.underlying s=some (.struct fs)/\fs[f]? = some Jo/\Jo.offset=off/\DF P Jo.type agg k=true/\k≠0:=by
 unfold P6 at h;split at h
 ·rename_i fs hs;split at h
  ·rename_i Jo hf;simp only[af,aK,bne_iff_ne]at h;exact⟨fs,Jo,hs,hf,h.1.1,h.1.2,h.2⟩
  ·cases h
 ·cases h
def xY (P:Program)(s:TypeId)(f off:Nat):Bool:=
 match P.underlying s with
 | some (.struct fs)=>match fs[f]? with
   |some Jo=>Jo.offset==off&&(match P.info? Jo.type with|some i=>i.size != 0|none=>false)
   |none=>false
 |_=>false
def KU (P:Program)(n:Nat)(op:Op)(off:Nat)(x:jR):Bool:=match op with|.fieldAddr s x' f=>iM n x' x&&xY P s f off|_=>false
theorem UZ {o:Oper}{x:jR}{off:Nat}(h:GX E I ρ n st a w)(hc:KU P n o.op off x=true)(hx:(x.ev st.tm).g=true)(gI:(D7 off (bW st.tm x)).vc):oP P E n o a w st (D7 off (bW st.tm x)).v:=by
 unfold KU at hc;split at hc
 ·rename_i s x' f he;simp only[af]at hc;have g:=jF h hc.1 hx;obtain⟨p,hp,hg⟩:=Z7 g gI;obtain⟨_,hf⟩:=hc;unfold xY at hf;split at hf
  ·rename_i fs hs;split at hf
   ·rename_i Jo hfld;simp only[af,aK]at hf;obtain⟨rfl,hf⟩:=hf;split at hf
    ·rename_i i hi;simp at hf;refine nY.val h ?_ hg;simp[execOp,he,uk,run_underlying hs,hfld,hp,iw,fieldPlace,sizeOf,typeInfo,hi,hf]
    ·cases hf
   ·cases hf
  ·cases hf
 ·cases hc
def I5 (x:AV):FR:=match x with
    |.one (.ptr b o)=>.ok (.one (.ptr b o))
    |.one (.ug b i sz o)=>.ok (.one (.ug b i sz o))
    |.one (.zQ cs)=>.ok (.one (.zQ cs))
    |.one (.fn f cs)=>.ok (.one (.fn f cs))
    |_=>.bad
def La (n:Nat)(op:Op)(x:jR):Bool:=match op with|.nilCheck x'=>iM n x' x|_=>false
theorem Vr {o:Oper}{x:jR}(h:GX E I ρ n st a w)(hc:La n o.op x=true)(hx:(x.ev st.tm).g=true)(gI:(I5 (bW st.tm x)).vc):oP P E n o a w st (I5 (bW st.tm x)).v:=by
 unfold La at hc;split at hc
 ·rename_i x' he;have g:=jF h hc hx;have key:(∃p,a.eval x' = .pointer (some p))\/(∃f b,a.eval x' = .func (.func f) #[] b)->(execOp a.eval o).run P w = .ok (.value (a.eval x')) w:=by rintro(⟨p,hp⟩|⟨f,b,hp⟩)<;>simp[execOp,he,hp]
  unfold I5 at gI⊢;split at gI
  ·rename_i b o' e1;rw[e1]at g;exact nY.val h (key (by obtain⟨k,cap,hr,hv⟩:=g;exact .inl ⟨_,hv⟩)) g
  ·rename_i b i sz o' e1;rw[e1]at g;exact nY.val h (key (by obtain⟨k,cap,hr,hv⟩:=g;exact .inl ⟨_,hv⟩)) g
  ·rename_i cs e1;rw[e1]at g;exact nY.val h (key (by obtain⟨p,hv,_⟩:=g;exact .inl ⟨_,hv⟩)) g
  ·rename_i f cs e1;rw[e1]at g;exact nY.val h (key (by obtain⟨ks,_,_,hv⟩:=g;exact .inr ⟨_,_,hv⟩)) g
  ·exact gI.elim
 ·cases hc
end
end
section
section
variable {P:Program} {E:Env P} {I:IH} {ρ:Ren} {n:Nat} {st:eH} {a:Act} {w:World}
def IB (agg:Bool) (off k:Nat) (x:AV):FR:=match x with
    | .agg xs=>if agg then⟨off+k<=xs.length,.agg ((xs.drop off).take k),[]⟩else match xs[off]? with
      |some x=>.ok (.one x)
      |none=>.bad
    |_=>.bad
def KW (P:Program)(n:Nat)(op:Op)(agg:Bool)(off k:Nat)(x:jR):Bool:=match op with|.field s x' f=>iM n x' x&&P6 P s f off agg k|_=>false
theorem aac {vs:List Value}{xs:List AC}(h:EE I ρ vs xs)(off k:Nat):EE I ρ ((vs.drop off).take k) ((xs.drop off).take k):=by
 refine⟨by simp[h.1],λj v x hv hx=>?_⟩;rw[bn]at hv hx;split at hv
 ·rename_i hj;rw[aF hj]at hx;rw[dS]at hv hx;exact h.2 _ v x hv hx
 ·cases hv
theorem U0 {o:Oper}{x:jR}{agg:Bool}{off k:Nat}(h:GX E I ρ n st a w)(hc:KW P n o.op agg off k x=true)(hx:(x.ev st.tm).g=true)(gI:(IB agg off k (bW st.tm x)).vc) :
 oP P E n o a w st (IB agg off k (bW st.tm x)).v:=by
 unfold KW at hc;split at hc
 ·rename_i s x' f he;simp only[af]at hc;have g:=jF h hc.1 hx;obtain⟨fs,Jo,hs,hf,rfl,ht,hk⟩:=P7 hc.2;obtain⟨t1,t2⟩:=Ac ht w;unfold IB at gI⊢;split at gI
  ·rename_i xs e1;rw[e1]at g;obtain⟨cs,hv,hg⟩:=g;split at gI
   ·rename_i hA;rw[aF hA];rw[hA]at t1;refine nY.val h (v:=.agg (cs.extract Jo.offset (Jo.offset+k))) (by simp[execOp,he,yE,run_underlying hs,hf,hv,asAgg,part,t1,t2]) ⟨_,rfl,?_⟩;have:=aac hg Jo.offset k;simpa[List.extract_eq_take_drop]using this
   ·rename_i hA;rw[aj hA];have hA':agg=false:=(by simpa using hA);rw[hA']at t1;split at gI
    ·rename_i y hy;have hl:Jo.offset<cs.size:=by
      have h1:=hg.1;have h2:=(ay.1 hy).1;simp at h1;omega
     refine nY.val h (v:=cs[Jo.offset]) (by simp[execOp,he,yE,run_underlying hs,hf,hv,asAgg,part,t1,iE hl]) (hg.2 Jo.offset _ y (by simp[hl]) hy)
    ·exact gI.elim
  ·exact gI.elim
 ·cases hc
def IK (sz:Nat) (x i:AV):FR:=match x,i with
    |.one (.c (.sl sz' es)),.one (.c (.lit (.int _ i)))=>⟨sz'=sz/\0<=i/\i<es.length,.one (.zQ (es.getD i.toNat [])),[]⟩
    |.one (.own b n sz'),.one (.c (.lit (.int _ i)))=>⟨sz'=sz/\0<=i/\i<n,.one (.ug b i.toNat sz 0),[]⟩
    |.one (.sub b lo n _ sz'),.one (.c (.lit (.int _ i)))=>⟨sz'=sz/\0<=i/\i<n,.one (.ug b (lo+i.toNat) sz 0),[]⟩
    |_,_=>.bad
def D5 (P:Program)(t:TypeId)(sz:Nat):Bool:=match P.underlying t with|some (.slice e)=>Jc P e sz|_=>false
theorem vN {t:TypeId}{sz:Nat}(h:D5 P t sz=true):∃e i,P.underlying t=some (.slice e)/\P.info? e=some i/\i.size=sz:=by
 unfold D5 at h;split at h
 ·rename_i e he;obtain⟨i,h1,h2⟩:=Eo h;exact⟨e,i,he,h1,h2⟩
 ·cases h
def KX (P:Program)(n:Nat)(op:Op)(sz:Nat)(x i:jR):Bool:=match op with|.indexAddr t x' i'=>iM n x' x&&iM n i' i&&D5 P t sz|_=>false
theorem U9 {o:Oper}{x y:jR}{sz:Nat}(h:GX E I ρ n st a w)(hc:KX P n o.op sz x y=true)(hx:(x.ev st.tm).g=true)(hy:(y.ev st.tm).g=true)
 (gI:(IK sz (bW st.tm x) (bW st.tm y)).vc):oP P E n o a w st (IK sz (bW st.tm x) (bW st.tm y)).v:=by
 unfold KX at hc;split at hc
 ·rename_i t x' y' he;simp only[af]at hc;have g1:=jF h hc.1.1 hx;have g2:=jF h hc.1.2 hy;obtain⟨e,ti,ht,hi,hsz⟩:=vN hc.2;unfold IK at gI⊢;split at gI
  ·rename_i sz' es k i e1 e2;obtain⟨rfl,h0,h1⟩:=gI;rw[e1]at g1;rw[e2]at g2;have v2:=rq g2;generalize hq:a.eval x'=v1 at g1;cases g1 with|sl b len cap _ _ u hlen hcap hmax ahN ha hcell hr=>
   subst hlen;have hpos:0<es.length:=(by omega);cases hb:b with
   |none=>exact dO hb (ha hpos)
   | some ad=>
     subst hb;refine nY.val h (v:=.pointer (some (ad.add (i.toNat*sz')))) (by simp[execOp,he,oH,v2,hq,asIntOf,run_underlying ht,h0,h1,sizeOf,typeInfo,hi,hsz]) ⟨_,rfl,λj c hj=>?_⟩;have hil:i.toNat<es.length:=(by omega);have hjl:j<sz':=by have:=ahN (es.getD i.toNat []) (by simp[bu,ai hil]);rw[<- this];exact(ay.1 hj).1
     exact⟨_,by rw[Addr.add_add];exact hcell ad rfl _ j hil hjl,hr _ j c hj⟩
  ·rename_i b m sz' k i e1 e2;obtain⟨rfl,h0,h1⟩:=gI;rw[e1]at g1;rw[e2]at g2;have v2:=rq g2;obtain⟨kk,cap,ad,c,hr,hv,hm,hcc,hcap⟩:=g1;have hc0:cap≠0:=(by omega);have had:=hcap hc0;subst had;refine nY.val h (v:=.pointer (some ((⟨kk,0,none⟩:Addr).add (i.toNat*sz')))) (by simp[execOp,he,oH,v2,hv,asIntOf,run_underlying ht,h0,h1,sizeOf,typeInfo,hi,hsz]) ⟨kk,cap,hr,?_⟩;rw[Addr.mD];simp
  ·rename_i b lo m c0 sz' k i e1 e2;obtain⟨rfl,h0,h1⟩:=gI;rw[e1]at g1;rw[e2]at g2;have v2:=rq g2;obtain⟨kk,cap,ad,c,hr,hv,hm,hcc,_,hcap⟩:=g1;have had:=hcap (.inl aQ);subst had;refine nY.val h (v:=.pointer (some ((⟨kk,lo*sz',none⟩:Addr).add (i.toNat*sz')))) (by simp[execOp,he,oH,v2,hv,asIntOf,run_underlying ht,h0,h1,sizeOf,typeInfo,hi,hsz]) ⟨kk,cap,hr,?_⟩;rw[Addr.mD,bJ,kG]
  ·exact gI.elim
 ·cases hc
def GK (P:Program)(t:TypeId)(sz n:Nat):Bool:=match P.underlying t with|some (.array m e)=>m==n&&Jc P e sz|_=>false
theorem GL {t:TypeId}{sz m:Nat}(h:GK P t sz m=true):∃e i,P.underlying t=some (.array m e)/\P.info? e=some i/\i.size=sz:=by
 unfold GK at h;split at h
 ·rename_i m' e he;simp only[af,aK]at h;obtain⟨rfl,h⟩:=h;obtain⟨i,h1,h2⟩:=Eo h;exact⟨e,i,he,h1,h2⟩
 ·cases h
def Iw (P:Program)(n:Nat)(op:Op)(sz m:Nat)(x i:jR):Bool:=match op with|.indexAddr t x' i'=>iM n x' x&&iM n i' i&&GK P t sz m|_=>false
theorem RU {o:Oper}{x y:jR}{sz m b:Nat}{k:IntKind}{i:Int}(h:GX E I ρ n st a w)(hc:Iw P n o.op sz m x y=true)(hx:(x.ev st.tm).g=true)(hy:(y.ev st.tm).g=true)
 (e1:bW st.tm x = .one (.ug b 0 sz 0)) (e2:bW st.tm y=pX k i) (h0:0<=i) (h1:i<m):oP P E n o a w st (.one (.ug b i.toNat sz 0)):=by
 unfold Iw at hc;split at hc
 ·rename_i t x' y' he;simp only[af]at hc;have g1:=jF h hc.1.1 hx;have g2:=jF h hc.1.2 hy;obtain⟨e,ti,ht,hi,hsz⟩:=GL hc.2;rw[e1]at g1;rw[e2]at g2;have v2:=rq g2;obtain⟨kk,cap,hr,hv⟩:=g1;refine nY.val h (v:=.pointer (some ((⟨kk,0*sz+0,none⟩:Addr).add (i.toNat*sz)))) (by simp[execOp,he,oH,v2,hv,asIntOf,run_underlying ht,iw,h0,h1,sizeOf,typeInfo,hi,hsz]) ⟨kk,cap,hr,?_⟩;rw[Addr.mD];simp
 ·cases hc
theorem BJ {lo:Option jR}{lo':Option Operand}{d:Nat}{q:Int}(h:GX E I ρ n st a w)(hc:(match lo',lo with|none,none=>true|some x',some x=>iM n x' x|_,_=>false)=true)
 (hg:∀x,x∈lo.toList->(x.ev st.tm).g=true) (hb:bnd (bW st.tm) lo d=some q):(lo'=none/\lo=none/\q=d)\/∃x' k,lo'=some x'/\a.eval x' = .int k q:=by
 unfold bnd at hb;split at hc
 ·simp at hb;exact .inl ⟨rfl,rfl,hb.symm⟩
 ·rename_i x' x;have g:=jF h hc (hg x kY);simp only at hb;split at hb
  ·rename_i k m e1;simp at hb;subst hb;rw[e1]at g;exact .inr ⟨x',k,rfl,rq g⟩
  ·cases hb
 ·cases hc
def Iu (n:Nat)(lo':Option Operand)(lo:Option jR):Bool:=match lo',lo with|none,none=>true|some x',some x=>iM n x' x|_,_=>false
theorem EG {lo:Option jR}{lo':Option Operand}{d:Nat}{q:Int}(h:(lo'=none/\lo=none/\q=d)\/∃x' k,lo'=some x'/\a.eval x' = .int k q) :
 lo'.map a.eval=none/\q=d\/∃k,lo'.map a.eval=some (.int k q):=by
 rcases h with⟨rfl,_,e⟩|⟨y,k,rfl,e⟩
 ·exact .inl ⟨rfl,e⟩
 ·exact .inr ⟨k,by simp[e]⟩
theorem run_sliceBound {k:IntKind}{i:Int}{y:Nat}{c:BoundsCode}(h0:0<=i)(h1:i<=y):(Instr.sliceBound (.int k i) y c).run P w = .ok i.toNat w:=by simp[Instr.sliceBound,asIntOf,h0,h1]
theorem xh (isS:Bool)(len cap:Nat)(lo' hi':Option Value){p q:Int}(hlo:lo'=none/\p=0\/∃k,lo'=some (.int k p))(hhi:hi'=none/\q=len\/∃k,hi'=some (.int k q))
 (h0:0<=p) (h1:p<=q) (h2:q<=cap):(rJ isS len cap lo' hi' none).run P w = .ok (p.toNat,q.toNat,cap) w:=by
 rcases hlo with⟨rfl,rfl⟩|⟨k,rfl⟩<;>rcases hhi with⟨rfl,rfl⟩|⟨k',rfl⟩<;>cases isS <;>
  simp (disch:=omega) [rJ,run_sliceBound]
def Ld (P:Program)(n:Nat)(op:Op)(x:jR)(lo hi:Option jR):Bool:=match op with|.slice t x' lo' hi' none=>iM n x' x&&Iu n lo' lo&&Iu n hi' hi&&IQ P t|_=>false
theorem VJ {o:Oper}{x:jR}{lo hi:Option jR}{s:List UInt8}{p q:Int}(h:GX E I ρ n st a w)(hc:Ld P n o.op x lo hi=true)(hx:(x.ev st.tm).g=true)
 (hgl:∀x,x∈lo.toList->(x.ev st.tm).g=true) (hgh:∀x,x∈hi.toList->(x.ev st.tm).g=true)
 (e1:bW st.tm x=Dk s) (e2:bnd (bW st.tm) lo 0=some p) (e3:bnd (bW st.tm) hi s.length=some q) (h0:0<=p) (h1:p<=q) (h2:q<=s.length) :
 oP P E n o a w st (Dk ((s.take q.toNat).drop p.toNat)):=by
 unfold Ld at hc;split at hc
 ·rename_i t x' lo' hi' he;simp only[af]at hc;have g1:=jF h hc.1.1.1 hx;have ht:=Be hc.2;rw[e1]at g1;obtain⟨v1,hl⟩:=Bv g1;have b1:=BJ h hc.1.1.2 hgl e2;have b2:=BJ h hc.1.2 hgh e3;have hb:=xh (P:=P) (w:=w) false s.length s.length (lo'.map a.eval) (hi'.map a.eval) (p:=p) (q:=q)
   (EG b1) (EG b2) h0 h1 h2
  have hx:(⟨⟨s⟩⟩:ByteArray).extract p.toNat q.toNat=⟨⟨(s.take q.toNat).drop p.toNat⟩⟩:=by rw[Lib.extract_eq];simp[List.drop_take]
  refine nY.val h (v:=.string ⟨⟨(s.take q.toNat).drop p.toNat⟩⟩) ?_ (Qn (by simp;omega));simp only[execOp,he,qN,vw,v1,uO];simp[run_underlying ht];rw[show(⟨⟨s⟩⟩:ByteArray).size=s.length from rfl,hb];simp[hx]
 ·cases hc
def OY (sz:Nat) (x:AV) (lo:Option Int) (hi:Nat->Option Int):FR:=match x with
    | .one (.c (.sl sz' es))=>match lo,hi es.length with
      |some a,some b=>⟨sz'=sz/\0<=a/\a<=b/\b<=es.length,vSl sz ((es.take b.toNat).drop a.toNat),[]⟩
      |_,_=>.bad
    | .one (.wC sz')=>match lo,hi 0 with
      |some a,some b=>⟨a=0/\b=0,.one (.wC sz'),[]⟩
      |_,_=>.bad
    | .one (.own l n sz')=>match lo,hi n with
      |some a,some b=>⟨a=0/\0<=b/\b<=n,.one (.own l b.toNat sz'),[]⟩
      |_,_=>.bad
    |_=>.bad
theorem ae5 {v:Value}{sz:Nat}{es:List (List Cell)}(h:Rd I v (.sl sz es)){p q:Nat}(hpq:p<=q)(hq:q<=es.length):∃a cap,v = .slice a es.length cap/\es.length<=cap /\
 Rd I (.slice (if cap=p then a else a.map (·.add (p*sz))) (q-p) (cap-p)) (.sl sz ((es.take q).drop p)):=by
 cases h with|sl a len cap sz es u hlen hcap hmax hsz ha hcell hr=>
 subst hlen;refine⟨a,cap,rfl,hcap,?_⟩;refine Rd.sl _ _ _ _ _ (λi j=>u (p+i) j) (by simp;omega) aQ aQ ?_ ?_ ?_ ?_
 ·intro e he;exact hsz e (fJ (mZ he))
 ·intro h0;rw[aj aQ];have:=ha aQ;cases a with
  |none=>exact dO rfl this
  |some ad=>simp
 ·intro ad had i j hi hj;rw[aj aQ]at had;cases a with
  |none=>simp at had
  | some ad'=>
    simp at had;subst had;rw[Addr.add_add,<- hcell ad' rfl (p+i) j aQ hj]
    congr 2
    rw[bJ,lH]
 ·intro i j c hc;have hi:=jd hc;simp at hi;refine hr (p+i) j c ?_;rw[<- hc]
  congr 1
  simp only[bu];rw[dS,bn,aF aQ]
def PV (P:Program)(n:Nat)(op:Op)(sz:Nat)(x:jR)(lo hi:Option jR):Bool:=match op with|.slice t x' lo' hi' none=>iM n x' x&&Iu n lo' lo&&Iu n hi' hi&&D5 P t sz|_=>false
theorem YZ {o:Oper}{sz:Nat}{x:jR}{lo hi:Option jR}(h:GX E I ρ n st a w)(hc:PV P n o.op sz x lo hi=true)(hx:(x.ev st.tm).g=true)
 (hgl:∀x,x∈lo.toList->(x.ev st.tm).g=true) (hgh:∀x,x∈hi.toList->(x.ev st.tm).g=true)
 (gI:(OY sz (bW st.tm x) (bnd (bW st.tm) lo 0) (bnd (bW st.tm) hi)).vc):oP P E n o a w st (OY sz (bW st.tm x) (bnd (bW st.tm) lo 0) (bnd (bW st.tm) hi)).v:=by
 unfold PV at hc;split at hc
 ·rename_i t x' lo' hi' he;simp only[af]at hc;have g1:=jF h hc.1.1.1 hx;obtain⟨e,ti,ht,hti,hsz⟩:=vN hc.2;have key:∀(b:Option Addr) (len cap:Nat) (p q:Int),a.eval x' = .slice b len cap->len<=cap->bnd (bW st.tm) lo 0=some p->bnd (bW st.tm) hi len=some q->0<=p->p<=q->q<=cap ->
   (execOp a.eval o).run P w = .ok (.value (.slice (if cap=p.toNat then b else b.map (·.add (p.toNat*sz))) (q.toNat-p.toNat) (cap-p.toNat))) w:=by
   intro b len cap p q hv hlc e2 e3 h0 h1 h2;have b1:=BJ h hc.1.1.2 hgl e2;have b2:=BJ h hc.1.2 hgh e3;have hb:=xh (P:=P) (w:=w) true len cap (lo'.map a.eval) (hi'.map a.eval) (p:=p) (q:=q)
    (EG b1) (EG b2) h0 h1 h2
   simp only[execOp,he,qN,vw,hv,uO];simp[run_underlying ht];rw[hb];simp[sizeOf,typeInfo,hti,hsz]
  unfold OY at gI⊢;split at gI
  ·rename_i sz' es e1;rw[e1]at g1;split at gI
   ·rename_i p q e2 e3;obtain⟨rfl,h0,h1,h2⟩:=gI;obtain⟨b,cap,hv,hcap,hr⟩:=ae5 g1 (p:=p.toNat) (q:=q.toNat) aQ aQ;exact nY.val h (key b _ cap p q hv hcap e2 e3 h0 h1 aQ) hr
   ·exact gI.elim
  ·rename_i sz' e1;rw[e1]at g1;split at gI
   ·rename_i p q e2 e3;obtain⟨rfl,rfl⟩:=gI;have:=key none 0 0 0 0 g1 (aA _) e2 e3 aQ aQ aQ;exact nY.val h this (by simp[GV,GC])
   ·exact gI.elim
  ·rename_i b m sz' e1;rw[e1]at g1;split at gI
   ·rename_i p q e2 e3;obtain⟨rfl,h1,h2⟩:=gI;obtain⟨kk,cap,ad,c,hr,hv,hm,hcc,hcap⟩:=g1;have:=key ad m c 0 q hv hm e2 e3 aQ aQ aQ;refine nY.val h this ⟨kk,cap,_,_,hr,rfl,aQ,aQ,λhc0=>?_⟩;rw[hcap hc0];simp[Addr.add_zero]
   ·exact gI.elim
  ·exact gI.elim
 ·cases hc
def Lc (P:Program)(n:Nat)(op:Op)(sz m:Nat)(x:jR):Bool:=match op with|.slice t x' none none none=>iM n x' x&&GK P t sz m|_=>false
theorem VH {o:Oper}{sz m b:Nat}{es:List (List Cell)}{x:jR}(h:GX E I ρ n st a w)(hc:Lc P n o.op sz m x=true)(hx:(x.ev st.tm).g=true)
 (e1:bW st.tm x = .one (.ug b 0 sz 0)) (e2:st.bx b = .dat sz es) (hm:es.length=m):oP P E n o a w st (.one (.own b m sz)):=by
 unfold Lc at hc;split at hc
 ·rename_i t x' he;simp only[af]at hc;have g1:=jF h hc.1 hx;rw[e1]at g1;obtain⟨kk,cap,hr,hv⟩:=g1;obtain⟨e,ti,ht,hi',hsz⟩:=GL hc.2;have facts:=GS.BI h (b:=b) (by rw[e2];rfl) hr;refine nY.val h (v:=.slice (some ⟨kk,0,none⟩) m m) ?_ ⟨kk,cap,_,_,hr,rfl,aA _,aQ,λ_=>rfl⟩;have hb:=xh (P:=P) (w:=w) false m m none none (p:=0) (q:=m) (.inl ⟨rfl,rfl⟩) (.inl ⟨rfl,rfl⟩) aQ aQ aQ;simp only[execOp,he,qN,hv,uO];simp[run_underlying ht,iw];rw[hb];simp[sizeOf,typeInfo,hi',Addr.add_zero]
 ·cases hc
end
end
section
section
variable {P:Program} {E:Env P} {I:IH} {ρ:Ren} {n:Nat} {st:eH} {a:Act} {w:World}
theorem kR {α:Type}(xs ys:List α)(off j:Nat)(h:off+ys.length<=xs.length):(splice xs off ys)[j]? = if j<off then xs[j]? else if j<off+ys.length then ys[j-off]? else xs[j]?:=by
 unfold splice;have h1:(xs.take off).length=off:=by simp;omega
 by_cases hj:j<off
 ·rw[aF hj,nX,aX aQ,bn,aF hj]
 ·rw[aj hj];by_cases hj2:j<off+ys.length
  ·rw[aF hj2,aX (by simp;omega),bZ aQ,h1]
  ·rw[aj hj2,bZ (by simp;omega),dS]
   congr 1
   simp;omega
theorem length_splice {α:Type}(xs ys:List α)(off:Nat)(h:off+ys.length<=xs.length):(splice xs off ys).length=xs.length:=by unfold splice;simp;omega
theorem Lu {α:Type}(vs:List α):∀(i off:Nat) (cs:Array α),off+i+vs.length<=cs.size ->
 ((vs.zipIdx i).foldl (λcs p=>cs.setIfInBounds (off+p.2) p.1) cs).toList=splice cs.toList (off+i) vs:=by
 induction vs with
 |nil=>intro i off cs h;simp[splice]
 | cons v r ih=>
   intro i off cs h;simp only[List.zipIdx_cons,jL];rw[ih (i+1) off _ (by simp at h⊢;omega)];apply List.ext_getElem?;intro j;simp only[jU]at h;rw[kR _ _ _ _ (by simp;omega),kR _ _ _ _ (by simp;omega)];simp only[Array.toList_setIfInBounds,lI,jU];by_cases h1:j<off+i
   ·rw[aF aQ,aj aQ,aF h1]
   ·rw[aj h1];by_cases h2:j=off+i
    ·subst h2;rw[aF aQ,aF rfl,aF (by simp;omega),aF aQ];simp
    ·rw[aj aQ];by_cases h3:j<off+(i+1)+r.length
     ·rw[aF h3,aF aQ];rw[show j-(off+i)=(j-(off+(i+1)))+1 by omega,List.getElem?_cons_succ]
     ·rw[aj h3,aj aQ,aj aQ]
theorem foldl_set (v:Array Value)(off:Nat)(cs:Array Value)(h:off+v.size<=cs.size) :
 (v.zipIdx.foldl (λcs (p:Value×Nat)=>cs.setIfInBounds (off+p.2) p.1) cs).toList=splice cs.toList off v.toList:=by
 have:=Lu v.toList 0 off cs (by simpa using h);rw[kG]at this;rw[<- this,<- Array.foldl_toList,Array.toList_zipIdx]
theorem EE.splice {vs us:List Value}{xs ys:List AC}(h:EE I ρ vs xs)(k:EE I ρ us ys)(off:Nat)(hl:off+ys.length<=xs.length):EE I ρ (splice vs off us) (splice xs off ys):=by
 have hlu:off+us.length<=vs.length:=by rw[h.1,k.1];exact hl
 refine⟨by rw[length_splice _ _ _ hlu,length_splice _ _ _ hl];exact h.1,λj v x hv hx=>?_⟩;rw[kR _ _ _ _ hlu]at hv;rw[kR _ _ _ _ hl]at hx;rw[k.1]at hv;by_cases h1:j<off
 ·rw[aF h1]at hv hx;exact h.2 j v x hv hx
 ·rw[aj h1]at hv hx;by_cases h2:j<off+ys.length
  ·rw[aF h2]at hv hx;exact k.2 _ v x hv hx
  ·rw[aj h2]at hv hx;exact h.2 j v x hv hx
theorem Ea {v:Value}{x:AV}(h:GV I ρ v x)(ht:x.flat):EE I ρ v.cells.toList x.cells:=by
 cases x with
 | one x=>
   have h1:=GC.one h;have hc:v.cells = #[v]:=by cases v<;>first|rfl|(simp[Value.oneCell']at h1;done)
   rw[hc];exact⟨rfl,λj u y hu hy=>by cases j with
    |zero=>simp at hu;simp[AV.cells]at hy;subst hu;subst hy;exact h
    |succ j=>simp at hu⟩
 |agg xs=>obtain⟨cs,rfl,hg⟩:=h;exact hg
 |Bl ps=>exact ht.elim
def Ic (zs:List Value)(xs:List AC):Bool:=zs.length==xs.length&&(zs.zip xs).all λp=>acB p.1 p.2
theorem Dn {zs:List Value}{xs:List AC}(h:Ic zs xs=true):EE I ρ zs xs:=by unfold Ic at h;simp only[af,aK,aB]at h;refine⟨h.1,λj v x hv hx=>Wj (h.2 (v,x) ?_)⟩;exact dX (i:=j) (by simp[sW,hv,hx])
def EJ (P:Program)(n:Nat)(fs:Array Field):List (Nat×Operand)->List (Nat×Nat×jR)->Bool
 |[],[]=>true
 |(i,x)::r,(off,sz,y)::r'=>(match fs[i]? with
  |some f=>f.offset==off&&Jc P f.type sz
  |none=>false)&&iM n x y&&EJ P n fs r r'
 |_,_=>false
theorem run_places (w:World)(fs:List Field)(h:fs.all (λf=>(P.info? f.type).isSome)=true) :
 (fs.mapM (m:=Sem) λf=>do pure (f.offset,<- sizeOf f.type)).run P w = .ok (fs.map λf=>(f.offset,P.cellsOf f.type)) w:=by
 induction fs with
 |nil=>rfl
 | cons f r ih=>
   simp only[iy,af]at h;cases hi:P.info? f.type with
   |none=>rw[hi]at h;cases h.1
   | some i=>have h1:(sizeOf f.type).run P w = .ok (P.cellsOf f.type) w:=(by simp[sizeOf,typeInfo,hi,Program.cellsOf]);simp only[List.mapM_cons,bC,h1,aO,aZ,ih h.2,bf]
def V9 (P:Program)(n:Nat)(t:TypeId)(zs:List AC)(ps:List (Nat×Operand))(ps':List (Nat×Nat×jR)):Bool:=
 match P.underlying t,P.info? t with
 |some (.struct fs),some i=>(match i.zero with|some (.agg cs)=>Ic cs.toList zs|_=>false)&&fs.toList.all (λf=>(P.info? f.type).isSome)&&EJ P n fs ps ps'
 |_,_=>false
def KT (P:Program)(n:Nat)(op:Op)(zs:List AC)(ps':List (Nat×Nat×jR)):Bool:=match op with|.build t ps=>V9 P n t zs ps.toList ps'|_=>false
theorem UD {t:TypeId}{k:Nat}(h:Jc P t k=true):P.cellsOf t=k:=by obtain⟨i,hi,hs⟩:=Eo h;simp[Program.cellsOf,hi,hs]
theorem Wv {fs:Array Field}(h:GX E I ρ n st a w):∀(ps:List (Nat×Operand)) (ps':List (Nat×Nat×jR)) (cs:Array Value) (xs:List AC),EJ P n fs ps ps'=true->EE I ρ cs.toList xs ->
 (∀p,p∈ps'->(p.2.2.ev st.tm).g=true)->(∀p,p∈ps'->Qu xs.length (p.1,p.2.1,bW st.tm p.2.2)) ->
 ∃cs',mg ((fs.map λf=>(f.offset,P.cellsOf f.type))[·]?) cs (ps.map λp=>(p.1,a.eval p.2))=some cs'/\EE I ρ cs'.toList (Ls xs (ps'.map λp=>(p.1,(bW st.tm p.2.2).cells)))
 |[],[],cs,xs,_,hg,_,_=>⟨cs,rfl,hg⟩
 |[],_::_,_,_,h,_,_,_=>by simp[EJ]at h
 |_::_,[],_,_,h,_,_,_=>by simp[EJ]at h
 | (i,x)::r,(off,sz,y)::r',cs,xs,hp,hg,hv,hq=>by
   simp only[EJ,af]at hp;obtain⟨⟨hf,hx⟩,hr⟩:=hp;split at hf
   ·rename_i f hfi;simp only[af,aK]at hf;obtain⟨rfl,hsz⟩:=hf;have hs:=UD hsz;have g:=jF h hx (hv _ (aJ ..));obtain⟨q1,q2,q3⟩:=hq _ (aJ ..);have gc:=Ea g q3;have hvs:(a.eval x).cells.size=sz:=(by have:=gc.1;simp at this;rw[this];exact q1);have hcs:cs.size=xs.length:=(by have:=hg.1;simpa using this);have q1:(bW st.tm y).cells.length=sz:=q1;have q2:f.offset+sz<=xs.length:=q2;have hgs:=hg.splice gc f.offset (by rw[q1];exact q2);have hfold:=foldl_set (a.eval x).cells f.offset cs aQ;have ih:=Wv h r r' ((a.eval x).cells.zipIdx.foldl (λcs (p:Value×Nat)=>cs.setIfInBounds (f.offset+p.2) p.1) cs) (splice xs f.offset (bW st.tm y).cells) hr (by rw[hfold];exact hgs)
     (λp hp=>hv p (by simp[hp])) (λp hp=>by rw[length_splice _ _ _ (by rw[q1];exact q2)];exact hq p (by simp[hp]))
    obtain⟨cs',h1,h2⟩:=ih;refine⟨cs',?_,?_⟩
    ·have hpl:(fs.map λf=>(f.offset,P.cellsOf f.type))[i]? = some (f.offset,sz):=(by rw[jZ,hfi,<- hs];rfl);simp only[bf,mg,hpl];rw[aj (by simp;omega)];exact h1
    ·simpa only[bf,Ls]using h2
   ·cases hf
theorem UA {o:Oper}{zs:List AC}{ps:List (Nat×Nat×jR)}(h:GX E I ρ n st a w)(hc:KT P n o.op zs ps=true)(hv:∀p,p∈ps->(p.2.2.ev st.tm).g=true)
 (hq:∀p,p∈ps->Qu zs.length (p.1,p.2.1,bW st.tm p.2.2)):oP P E n o a w st (.agg (Ls zs (ps.map λp=>(p.1,(bW st.tm p.2.2).cells)))):=by
 unfold KT at hc;split at hc
 ·rename_i t ps0 he;unfold V9 at hc;split at hc
  ·rename_i fs i hs hi;simp only[af]at hc;obtain⟨⟨hz,hall⟩,hp⟩:=hc;split at hz
   ·rename_i cs hzero;obtain⟨cs',h1,h2⟩:=Wv (P:=P) h ps0.toList ps cs zs hp (Dn hz) hv hq;refine nY.val h (v:=.agg cs') ?_ ⟨cs',rfl,h2⟩;have hpl:=run_places (P:=P) w fs.toList hall;have hpl':(fs.mapM (m:=Sem) λf=>do pure (f.offset,<- sizeOf f.type)).run P w = .ok (fs.map λf=>(f.offset,P.cellsOf f.type)) w:=by
     rw[Array.mapM_eq_mapM_toList,Go.Sem.run_map,hpl];simp only[aO]
     congr 1
     apply sS;simp
    have hzr:(zeroValue t).run P w = .ok (.agg cs) w:=(by simp[zeroValue,typeInfo,hi,hzero]);have hps:(ps0.map λ(i,x)=>(i,a.eval x)).toList=ps0.toList.map λp=>(p.1,a.eval p.2):=(by simp);simp only[execOp,he,Instr.build,bC,hzr,aO,jD,run_underlying hs,hpl',hps,h1,aZ]
   ·cases hz
  ·cases hc
 ·cases hc
def Src (I:IH)(w:World)(v:Value)(sz:Nat)(es:List (List Cell)):Prop:=
 ∃ (b:Option Addr) (cap:Nat),v = .slice b es.length cap/\es.length<=maxLen/\(∀e,e∈es->e.length=sz)/\(0<es.length->b≠none) /\
   ∀ad,b=some ad->∀i j c,(es.getD i [])[j]? = some c->∃u,w.cell? (ad.add (i*sz+j))=some u/\Rd I u c
theorem src_ok (h:GX E I ρ n st a w){v:Value}{x:AV}{sz:Nat}{p:Prop}{es:List (List Cell)}(hv:GV I ρ v x)(hs:vT sz x st.bx=some (p,es))(hp:p):Src I w v sz es:=by
 unfold vT at hs;split at hs
 ·rename_i sz' es';simp only[aI,cZ]at hs;obtain⟨rfl,rfl⟩:=hs;subst hp;cases hv with|sl b len cap _ _ u hlen hcap hmax hsz ha hcell hr=>
  subst hlen;refine⟨b,cap,rfl,aQ,hsz,ha,λad had i j c hc=>?_⟩;have hi:=jd hc;have hj:j<sz':=by have:=hsz (es'.getD i []) (by simp[bu,ai hi]);rw[<- this];exact(ay.1 hc).1
  exact⟨_,h.agree.cell (hcell ad had i j hi hj),hr i j c hc⟩
 ·simp at hs;obtain⟨_,rfl⟩:=hs;simp only[GV,GC]at hv;exact⟨none,0,hv,kY,kY,kY,λad had=>by cases had⟩
 ·rename_i b m sz';split at hs
  ·rename_i vM es' hb;simp only[aI,cZ]at hs;obtain⟨rfl,rfl⟩:=hs;obtain⟨rfl,rfl,hm⟩:=hp;obtain⟨k,cap,ad,c,hr,rfl,hmc,hcc,ha⟩:=hv;have facts:=GS.BI h hb hr;have hlen:(es'.take m).length=m:=(by simp;omega);refine⟨ad,c,by rw[hlen],aQ,λe he=>facts.2.2 e (fJ he),λh0=>by rw[ha aQ];simp,λq hq i j cc hc=>?_⟩;have hi:=jd hc;rw[hlen]at hi;have hq':q=⟨k,0,none⟩:=(by have:=ha aQ;rw[hq]at this;simpa using this);subst hq';have hc':(es'.getD i [])[j]? = some cc:=by
    rw[<- hc];congr 1;simp only[bu];rw[bn,aF hi]
   obtain⟨u,hu,hg⟩:=GS.EF h hb hr aQ (i:=i) aQ j (.c cc) (by rw[aP,hc'];rfl);refine⟨u,?_,hg⟩;rw[Addr.mD]at hu⊢;rw[<- hu];congr 2;simp
  ·cases hs
 ·rename_i b lo m c0 sz';split at hs
  ·rename_i vM es' hb;simp only[aI,cZ]at hs;obtain⟨rfl,rfl⟩:=hs;obtain⟨rfl,rfl,hm⟩:=hp;obtain⟨k,cap,ad,c,hr,rfl,hmc,hcc,_,ha⟩:=hv;have facts:=GS.BI h hb hr;have hlen:((es'.drop lo).take m).length=m:=(by simp;omega);refine⟨ad,c,by rw[hlen],aQ,λe he=>facts.2.2 e (mZ (fJ he)),λh0=>by rw[ha (.inl aQ)];simp,λq hq i j cc hc=>?_⟩;have hi:=jd hc;rw[hlen]at hi;have hq':q=⟨k,lo*vM,none⟩:=(by have:=ha (.inl aQ);rw[hq]at this;simpa using this);subst hq';have hc':(es'.getD (lo+i) [])[j]? = some cc:=by
    rw[<- hc];congr 1;simp only[bu];rw[bn,aF hi,dS]
   obtain⟨u,hu,hg⟩:=GS.EF h hb hr aQ (i:=lo+i) aQ j (.c cc) (by rw[aP,hc'];rfl);refine⟨u,?_,hg⟩;rw[Addr.mD]at hu⊢;rw[<- hu];congr 2;rw[bJ,lH]
  ·cases hs
 ·cases hs
theorem Pz {es:List (List Cell)}{l:List UInt8}(h:bytesOf es=some l):∃ns:List Int,es=ns.map (λm=>[Cell.lit (.int .u8 m)])/\l=ns.map λm=>jv m.toNat:=by
 induction es generalizing l with
 |nil=>simp[bytesOf]at h;exact⟨[],rfl,h⟩
 | cons e r ih=>
   unfold bytesOf at h;split at h
   ·rename_i e;cases e
   ·rename_i m r' e;simp only[List.cons.injEq]at e;obtain⟨rfl,rfl⟩:=e;split at h
    ·rename_i l' hl;obtain⟨ns,rfl,rfl⟩:=ih hl;simp at h;exact⟨m::ns,rfl,h.symm⟩
    ·cases h
   ·cases h
theorem foldl_push (ns:List Int):∀s:ByteArray,(ns.foldl (λr m=>r.push (jv m.toNat)) s).data.toList=s.data.toList++ns.map λm=>jv m.toNat:=by
 induction ns with
 |nil=>intro s;simp
 |cons m r ih=>intro s;rw[jL,ih,bf];simp[ByteArray.push]
theorem YM {b:Option Addr}{cap:Nat}{ns:List Int}{v:Value}(hv:v = .slice b ns.length cap)(h0:0<ns.length->b≠none)
 (hc:∀ad,b=some ad->∀j m,ns[j]? = some m->w.cell? (ad.add j)=some (.int .u8 m)):(Conv.bytesToString v).run P w = .ok (.string ⟨⟨ns.map λm=>jv m.toNat⟩⟩) w:=by
 subst hv;cases b with
 | none=>
   cases ns with
   |nil=>simp[Conv.bytesToString,aZ];rfl
   |cons m r=>exact dO rfl (h0 kY)
 | some ad=>
   have hl:=run_loadCells_list (P:=P) w ad (ns.map (wO .u8)) (λj v hj=>by
    rw[aP]at hj;cases hq:ns[j]? with
    |none=>rw[hq]at hj;cases hj
    |some m=>rw[hq]at hj;simp at hj;subst hj;exact hc ad rfl j m hq)
   rw[jM]at hl;rw[run_bytesToString w ad ns.length cap ns hl]
   congr 2
   apply ByteArray.ext;apply sS;rw[foldl_push];simp
def PI (P:Program)(n:Nat)(op:Op)(x:jR):Bool:=
 match op with
 |.convert s d x'=>iM n x' x&&IQ P d&&(match P.underlying s with|some (.slice e)=>(match P.underlying e with|some (.int .u8)=>true|_=>false)|_=>false)
 |_=>false
theorem X0 {o:Oper}{x:jR}{p:Prop}{es:List (List Cell)}{l:List UInt8}(h:GX E I ρ n st a w)(hc:PI P n o.op x=true)(hx:(x.ev st.tm).g=true)
 (hs:vT 1 (bW st.tm x) st.bx=some (p,es)) (hp:p) (hb:bytesOf es=some l) (hl:l.length<=maxLen):oP P E n o a w st (Dk l):=by
 unfold PI at hc;split at hc
 ·rename_i s d x' he;simp only[af]at hc;have g:=jF h hc.1.1 hx;have hd:=Be hc.1.2;obtain⟨_,ht⟩:=hc;split at ht
  ·rename_i e hse;split at ht
   ·rename_i hee;obtain⟨b,cap,hv,_,_,h0,hcell⟩:=src_ok h g hs hp;obtain⟨ns,rfl,rfl⟩:=Pz hb;have hr:=YM (P:=P) (w:=w) (b:=b) (cap:=cap) (ns:=ns) (v:=a.eval x') (by rw[hv];simp) (by simpa using h0) (λad had j m hj=>by
     obtain⟨u,hu,hrd⟩:=hcell ad had j 0 (.lit (.int .u8 m)) (by simp[bu,aP,hj]);cases hrd with|lit v hv=>
     simpa using hu)
    have hcv:=run_convert_bytes_string (P:=P) w s d e b (ns.map λm=>[Cell.lit (.int .u8 m)]).length cap hse hee hd;rw[<- hv]at hcv;exact nY.val h (by simp only[execOp,he,bC,hcv,hr,aO,aZ]) (Qn hl)
   ·cases ht
  ·cases ht
 ·cases hc
end
end
section
section
variable {P:Program} {E:Env P} {I:IH} {ρ:Ren} {n:Nat} {st:eH} {a:Act} {w:World}
def wQ : Box->Prop
 |.absent=>True
 |_=>False
theorem uD {x:Box}(h:wQ x):x = .absent:=by cases x<;>first|rfl|exact h.elim
theorem WX (h:GX E I ρ n st a w){l:Nat}(hl:st.bx l = .absent)(hm:E.m<=l)(cs:Array Value)(e:TypeId)(xs:List AC)(hg:EE I ρ cs.toList xs) :
 ∃ ρ',GX E I ρ' n (st.rX l (.var xs)) a (w.alloc (.cells cs e))/\GV I ρ' (.pointer (some ⟨w.heap.size,0,none⟩)) (.one (.ptr l 0)):=by
 have hrl:ρ l=none:=by have:=h.bx.ok l;rwa[hl]at this
 refine⟨ρ.set l w.heap.size e,GX.new h hl hm cs e e _ ?_,w.heap.size,e,Ren.jS _ _ _ _,rfl⟩;refine⟨w.heap.size,e,cs,Ren.jS _ _ _ _,heap_alloc_new w _,by simpa using hg.1,λj u x hu hx=>?_⟩;exact(hg.2 j u x (by simpa using hu) hx).mono (IH.le_refl I) (Ren.IW hrl)
theorem EI (h:GX E I ρ n st a w){l:Nat}(hl:st.bx l = .absent)(hm:E.m<=l)(cs:Array Value)(e:TypeId)(cap sz:Nat)(es:List (List Cell))(hcs:cs.size=cap*sz)(hle:es.length<=cap)(hcap:cap<=maxLen)
 (hsz:∀x,x∈es->x.length=sz) (h1:∀(j:Nat) (u:Value),cs[j]? = some u->u.oneCell'=true) (hd:∀(i j:Nat) (c:Cell),(es.getD i [])[j]? = some c->∃u,cs[i*sz+j]? = some u/\Rd I u c) :
 GX E I (ρ.set l w.heap.size cap) n (st.rX l (.dat sz es)) a (w.alloc (.cells cs e)):=by
 refine GX.new h hl hm cs e cap _ ⟨w.heap.size,cap,Ren.jS _ _ _ _,hle,hcap,hsz,λ_=>⟨cs,e,heap_alloc_new w _,hcs,h1,hd⟩⟩
def DT (P:Program)(op:Op)(zs:List AC):Bool:=match op with|.alloc t=>(match P.info? t with|some i=>(match i.zero with|some z=>Ic z.cells.toList zs|none=>false)|none=>false)|_=>false
theorem yP (w:World)(t:TypeId)(v:Value):(newVar t v).run P w = .ok ⟨w.heap.size,0,none⟩ (w.alloc (.cells v.cells t)):=by simp[newVar,newRow]
theorem Uo {o:Oper}{l:Nat}{zs:List AC}(h:GX E I ρ n st a w)(hc:DT P o.op zs=true)(hm:E.m<=l)(hl:wQ (st.bx l)):nY P E n o a w (st.rX l (.var zs)) (.one (.ptr l 0)):=by
 unfold DT at hc;split at hc
 ·rename_i t he;split at hc
  ·rename_i i hi;split at hc
   ·rename_i z hz;obtain⟨ρ',h1,h2⟩:=WX h (uD hl) hm z.cells t zs (Dn hc);have hzr:(zeroValue t).run P w = .ok z w:=(by simp[zeroValue,typeInfo,hi,hz]);exact⟨_,_,I,ρ',.inl (by simp only[execOp,he,vk,bC,hzr,aO,yP,aZ]),h1,λ_=>h2⟩
   ·cases hc
  ·cases hc
 ·cases hc
theorem GX.aih (h:GX E I ρ n st a w){r:Nat}(hr:st.bx r = .absent)(hm:E.m<=r)(e:Nat):GX E I (ρ.set r 0 0) n (st.rX r (.row e [])) a w:=by
 have hrl:ρ r=none:=by have:=h.bx.ok r;rwa[hr]at this
 have hle:=Ren.IW (ρ:=ρ) (k:=0) (cap:=0) hrl;have hu:∀k,¬(Box.row e []).uses ((ρ.set r 0 0) r) k:=λk hk=>by obtain⟨c,hc,h0⟩:=hk;rw[Ren.jS]at hc;simp only[aI,cZ]at hc;exact h0 hc.2.symm
 refine{ agree:=h.agree,bx:=BX.step (λb=>b=r) h.bx (IH.le_refl I) hle ?_ ?_ ?_ ?_ ?_ ?_,tm:=λt ht=>(h.tm t ht).mono (IH.le_refl _) hle,size:=h.size,defers:=h.defers,ve:=h.ve,own:=?_,Ec:=h.Ec,Aj:=h.Aj,ru:=?_ }
 ·intro b hb;exact⟨by simp[eH.rX,hb],Ren.rW hb⟩
 ·intro b k hb hk;rfl
 ·rintro b rfl;simp only[eH.lC,iT];exact⟨0,0,Ren.jS _ _ _ _,aA _,Nat.zero_le _,λh=>dO rfl h⟩
 ·rintro b k rfl hk;simp only[eH.lC,iT]at hk;exact(hu k hk).elim
 ·rintro b b' k rfl rfl _ _;rfl
 ·intro b k hb hk;exact h.bx.fresh b k hk
 ·intro b k hk;simp only[eH.lC]at hk;by_cases e:b=r
  ·subst e;rw[aF rfl]at hk;exact(hu k hk).elim
  ·rw[aj e,Ren.rW e]at hk;exact h.own b k hk
 ·intro b hb;rw[Ren.rW aQ];exact h.ru b hb
def BN (P:Program)(op:Op)(T:Nat):Bool:=match op with|.alloc t=>t==T&&(match P.info? t with|some i=>(match i.zero with|some z=>Ic z.cells.toList [.c (.lit (.pointer none)),.wC 1]|none=>false)|none=>false)|_=>false
theorem Q4 {o:Oper}{T e l r:Nat}(h:GX E I ρ n st a w)(hc:BN P o.op T=true)(hm:E.m<=l)(hm':E.m<=r)(hl:wQ (st.bx l))(hr:wQ (st.bx r))(hne:l≠r) :
 nY P E n o a w ((st.rX r (.row e [])).rX l (.var [.opt T l,.FH r 0])) (.one (.ptr l 0)):=by
 unfold BN at hc;split at hc
 ·rename_i t he;simp only[af,aK]at hc;obtain⟨rfl,hc⟩:=hc;split at hc
  ·rename_i i hi;split at hc
   ·rename_i z hz;have g:=h.aih (uD hr) hm' e;have hl':(st.rX r (.row e [])).bx l = .absent:=(by simp only[eH.lC,aj hne];exact uD hl);have hz2:EE I ρ z.cells.toList _:=Dn hc;have hsz:z.cells.size=2:=(by have:=hz2.1;simpa using this);have hg:=GX.new g hl' hm z.cells t t (.var [.opt t l,.FH r 0]) ⟨w.heap.size,t,z.cells,Ren.jS _ _ _ _,heap_alloc_new w _,hsz,λj u x hu hx=>by
     match j with
     | 0=>have h1:=hz2.2 0 u _ (by simpa using hu) rfl;simp at hx;subst hx;cases h1;exact⟨_,Ren.jS _ _ _ _,.inl rfl⟩
     | 1=>have h1:u = .slice none 0 0:=hz2.2 1 u _ (by simpa using hu) rfl;simp at hx;subst hx;exact⟨0,0,(Ren.rW hne.symm).trans (Ren.jS _ _ _ _),aA _,.inl ⟨rfl,h1⟩⟩
     |j+2=>simp at hx⟩
    have hzr:(zeroValue t).run P w = .ok z w:=(by simp[zeroValue,typeInfo,hi,hz]);exact⟨_,_,I,_,.inl (by simp only[execOp,he,vk,bC,hzr,aO,yP,aZ]),hg,λ_=>⟨_,_,Ren.jS _ _ _ _,rfl⟩⟩
   ·cases hc
  ·cases hc
 ·cases hc
def KR (n:Nat)(op:Op)(x:jR):Bool:=match op with|.box _ x'=>iM n x' x|_=>false
theorem ZG {o:Oper}{l:Nat}{x:jR}(h:GX E I ρ n st a w)(hc:KR n o.op x=true)(hx:(x.ev st.tm).g=true)(hm:E.m<=l)(hl:wQ (st.bx l))(hf:(bW st.tm x).flat) :
 nY P E n o a w (st.rX l (.var (bW st.tm x).cells)) (.one (.ptr l 0)):=by
 unfold KR at hc;split at hc
 ·rename_i t x' he;have g:=jF h hc hx;obtain⟨ρ',h1,h2⟩:=WX h (uD hl) hm (a.eval x').cells t _ (Ea g hf);exact⟨_,_,I,ρ',.inl (by simp only[execOp,he,Go.Instr.box,bC,aO,yP,aZ]),h1,λ_=>h2⟩
 ·cases hc
def aei : Value->Cell->Bool
 |.int k n,.lit (.int k' n')=>k==k'&&n==n'
 |.bool b,.lit (.bool b')=>b==b'
 |.string s,.str l=>s.data.toList==l&&decide (l.length<=1000000)
 |.slice none 0 0,.sl _ []=>true
 |.pointer none,.lit (.pointer none)=>true
 |.nilFunc,.lit .nilFunc=>true
 |.nilIface,.lit .nilIface=>true
 |_,_=>false
theorem acC {v:Value}{x:Cell}(h:aei v x=true):Rd I v x:=by
 unfold aei at h;split at h
 ·simp only[af,aK]at h;obtain⟨rfl,rfl⟩:=h;exact Rd.lit _ rfl
 ·simp only[aK]at h;subst h;exact Rd.lit _ rfl
 ·rename_i s l;simp only[af,aK,ak]at h;obtain⟨rfl,hl⟩:=h;have:s=⟨⟨s.data.toList⟩⟩:=by cases s;rfl
  exact this▸Rd.str _ (by simp only[maxLen];omega)
 ·exact Rd.sl none 0 0 _ [] (λ_ _=>undef) rfl (aA _) (by simp[maxLen]) kY kY (λad h=>by cases h) kY
 ·exact Rd.lit _ rfl
 ·exact Rd.lit _ rfl
 ·exact Rd.lit _ rfl
 ·cases h
def Dl (zs:List Value)(xs:List Cell):Bool:=zs.length==xs.length&&(zs.zip xs).all λp=>aei p.1 p.2
theorem Jz {zs:List Value}{xs:List Cell}(h:Dl zs xs=true):zs.length=xs.length/\∀(j:Nat) (c:Cell),xs[j]? = some c->∃u,zs[j]? = some u/\Rd I u c:=by
 unfold Dl at h;simp only[af,aK,aB]at h;refine⟨h.1,λj c hc=>?_⟩;have hj:j<zs.length:=by rw[h.1];exact(ay.1 hc).1
 refine⟨zs[j],ai hj,acC (h.2 (zs[j],c) ?_)⟩;exact dX (i:=j) (by simp[sW,hc,hj])
theorem Ja {z:Array Value}{zs:List Cell}{sz m N:Nat}(hz:Dl z.toList zs=true)(hs:zs.length=sz)(h0:0<sz)(hN:m*sz<=N){cs:Array Value}(hcs:cs=(nG N).map (z[· % z.size]!)) :
 (∀(j:Nat) (u:Value),cs[j]? = some u->u.oneCell'=true)/\∀(i j:Nat) (c:Cell),((bG m zs).getD i [])[j]? = some c->∃u,cs[i*sz+j]? = some u/\Rd I u c:=by
 obtain⟨hl,hd⟩:=Jz (I:=I) hz;have hzs:z.size=sz:=by rw[<- hs,<- hl];simp
 subst hcs;refine⟨λj u hu=>?_,λi j c hc=>?_⟩
 ·rw[jZ]at hu;by_cases hj:j<N
  ·rw[kM,aF hj]at hu;simp at hu;have hlt:j%z.size<z.size:=qV _ aQ;rw[getElem!_pos z _ hlt]at hu;obtain⟨c,hc⟩:∃c,zs[j%z.size]? = some c:=⟨_,ai aQ⟩;obtain⟨u',hu',hr⟩:=hd _ c hc;simp[hlt]at hu';rw[<- hu,hu'];exact hr.one
  ·rw[kM,aj hj]at hu;cases hu
 ·have hi:=jd hc;simp at hi;simp[bu,hi]at hc;have hj:j<sz:=by rw[<- hs];exact(ay.1 hc).1
  obtain⟨u,hu,hr⟩:=hd j c hc;refine⟨u,?_,hr⟩;have hlt:i*sz+j<N:=by have:(i+1)*sz<=m*sz:=aH _ hi;rw[bJ]at this;omega
  rw[jZ,kM,aF hlt];simp only[iZ,aI];have hmod:(i*sz+j)%z.size=j:=by rw[hzs,lN,Nat.mul_add_mod,oK hj]
  rw[hmod,getElem!_pos z _ aQ];have:z[j]? = some u:=by simpa using hu
  rw[iE aQ]at this;simpa using this
def BM (P:Program)(op:Op)(sz m:Nat)(zs:List Cell):Bool:=
 match op with
 |.alloc t=>GK P t sz m&&(match P.info? t with|some i=>(match i.zero with|some (.agg z)=>Dl z.toList (bG m zs).flatten|_=>false)|none=>false)&&zs.length==sz&&decide (0<sz)&&decide (m<=1000000)
 |_=>false
theorem Rx {zs:List Cell}{sz m i j:Nat}{c:Cell}(hs:zs.length=sz)(hc:((bG m zs).getD i [])[j]? = some c):((bG m zs).flatten)[i*sz+j]? = some c:=by
 induction m generalizing i with
 |zero=>simp[bu]at hc
 | succ m ih=>
   rw[wu,List.flatten_cons];cases i with
   | zero=>simp[bu,wu]at hc;rw[aX (by have:=(ay.1 hc).1;omega)];simpa using hc
   | succ i=>
     rw[bZ (by rw[hs,bJ];omega),hs];have:=ih (i:=i) (by simpa[bu,wu]using hc);rw[<- this]
     congr 1
     rw[bJ];omega
theorem Q3 {o:Oper}{l sz m:Nat}{zs:List Cell}(h:GX E I ρ n st a w)(hc:BM P o.op sz m zs=true)(hm:E.m<=l)(hl:wQ (st.bx l)) :
 nY P E n o a w (st.rX l (.dat sz (bG m zs))) (.one (.ug l 0 sz 0)):=by
 unfold BM at hc;split at hc
 ·rename_i t he;simp only[af,aK,ak]at hc;obtain⟨⟨⟨⟨_,hz⟩,hs⟩,h0⟩,hm6⟩:=hc;split at hz
  ·rename_i i hi;split at hz
   ·rename_i z hzero;obtain⟨hl1,hd⟩:=Jz (I:=I) hz;have hzs:z.size=m*sz:=(by have:=hl1;simp[hs]at this;exact this);have hzr:(zeroValue t).run P w = .ok (.agg z) w:=(by simp[zeroValue,typeInfo,hi,hzero]);have g:=EI h (uD hl) hm z t m sz (bG m zs) hzs kY (by simp only[maxLen];omega) (λx hx=>by rw[nC hx,hs])
     (λj u hu=>by have hj:j<((bG m zs).flatten).length:=(by rw[<- hl1];simpa using(bY.1 hu).1);obtain⟨u',hu',hr⟩:=hd j _ (ai hj);have:u'=u:=(by simp at hu';rw[hu]at hu';exact(Option.some.inj hu').symm);subst this;exact hr.one)
     (λi' j c hc=>by obtain⟨u,hu,hr⟩:=hd _ c (Rx hs hc);exact⟨u,by simpa using hu,hr⟩)
    refine⟨_,_,I,_,.inl (by simp only[execOp,he,vk,bC,hzr,aO,yP,aZ,jD];rfl),g,λ_=>⟨w.heap.size,m,Ren.jS _ _ _ _,kY⟩⟩
   ·cases hz
  ·cases hz
 ·cases hc
def DX (P:Program)(n:Nat)(op:Op)(sz bytes:Nat)(zs:List Cell)(x y:jR):Bool:=
 match op with
 | .makeSlice t x' y'=>iM n x' x&&iM n y' y&&zs.length==sz&&decide (0<sz)&&(match P.underlying t with
   |some (.slice e)=>(match P.info? e with|some i=>i.size==sz&&i.bytes==bytes&&(match i.zero with|some z=>Dl z.cells.toList zs|none=>false)|none=>false)
   |_=>false)
 |_=>false
theorem Vk {o:Oper}{l sz bytes:Nat}{zs:List Cell}{x y:jR}{k k':IntKind}{p q:Int}(h:GX E I ρ n st a w)(hc:DX P n o.op sz bytes zs x y=true)(hx:(x.ev st.tm).g=true)(hy:(y.ev st.tm).g=true)
 (e1:bW st.tm x=pX k p) (e2:bW st.tm y=pX k' q) (hm:E.m<=l) (hl:wQ (st.bx l)) (h0:0<=p) (h1:p<=q) (h2:bytes*q<=2^47) (h3:q<=2^47) :
 nY P E n o a w (st.rX l (.dat sz (bG p.toNat zs))) (.one (.own l p.toNat sz)):=by
 unfold DX at hc;split at hc
 ·rename_i t x' y' he;simp only[af,aK,ak]at hc;obtain⟨⟨⟨⟨c1,c2⟩,hs⟩,hs0⟩,ht⟩:=hc;have g1:=jF h c1 hx;have g2:=jF h c2 hy;rw[e1]at g1;rw[e2]at g2;have v1:=rq g1;have v2:=rq g2;split at ht
  ·rename_i e hte;split at ht
   ·rename_i i hi;simp only[af,aK]at ht;obtain⟨⟨rfl,rfl⟩,hz⟩:=ht;split at hz
    ·rename_i z hzero;have hr:=run_make (P:=P) w t e i z hte hi hzero k k' p q h0 h1 aQ aQ;have rc:=Ja (I:=I) (N:=q.toNat*i.size) (m:=p.toNat) hz hs hs0 (aH _ aQ) (cs:=madeCells z.cells (q.toNat*i.size)) rfl;have g:=EI h (uD hl) hm (madeCells z.cells (q.toNat*i.size)) e q.toNat i.size (bG p.toNat zs) (size_madeCells _ _) (by simp;omega) (by simp only[maxLen];omega)
      (λx hx=>by rw[nC hx,hs]) rc.1 rc.2
     refine⟨_,_,I,_,.inl (by simp only[execOp,he,v1,v2,bC,hr,aO,aZ];rfl),g,λ_=>⟨w.heap.size,q.toNat,_,_,Ren.jS _ _ _ _,rfl,aQ,aQ,λ_=>rfl⟩⟩
    ·cases hz
   ·cases ht
  ·cases ht
 ·cases hc
end
end
section
section
variable {P:Program} {E:Env P} {I:IH} {ρ:Ren} {n:Nat} {st:eH} {a:Act} {w:World}
noncomputable def wH (I:IH)(ρ:Ren)(w:World)(bx:Nat->Box)(bs:List Nat):IH:=λk=>
 open Classical in
 if ∃b sz es cap,b∈bs/\bx b = .dat sz es/\ρ b=some (k,cap)/\cap≠0 then(match w.heap[k]? with|some (.cells c _ _)=>some c|_=>none)else I k
theorem zU (hA:BX I ρ w st.bx)(bs:List Nat):I.le (wH I ρ w st.bx bs):=λk c hk=>by
 unfold wH;rw[aj]
 ·exact hk
 ·rintro⟨b,sz,es,cap,_,hb,hr,h0⟩;have:=hA.fresh b k (by rw[hb];exact⟨cap,hr,h0⟩);rw[this]at hk;cases hk
theorem FP (hA:Agree I w)(bs:List Nat):Agree (wH I ρ w st.bx bs) w:=λk c hk=>by
 unfold wH at hk;split at hk
 ·split at hk
  ·rename_i c' e fr hw;simp at hk;subst hk;exact⟨e,fr,hw⟩
  ·cases hk
 ·exact hA k c hk
theorem Qj (h:GX E I ρ n st a w){bs:List Nat}{v:Value}{b m sz:Nat}{es:List (List Cell)}(hb:b∈bs)(harr:(st.bx b).arr=some (sz,es))(hm:m<=es.length)(hv:GC I ρ v (.own b m sz)) :
 Rd (wH I ρ w st.bx bs) v (.sl sz (es.take m)):=by
 obtain⟨k,cap,ad,c,hr,hsv,hmc,hcc,hcap⟩:=hv;have facts:=GS.BI h harr hr;have hl:(es.take m).length=m:=by simp;omega
 subst hsv;have hI:cap≠0->∃cs,(wH I ρ w st.bx bs) k=some cs/\∀i j c,(es.getD i [])[j]? = some c->∃u,cs[i*sz+j]? = some u/\Rd I u c:=by
  intro hc0;have hok:=h.bx.ok b;cases hx:st.bx b with
  | dat sz' es'=>rw[hx]at hok harr;simp[Box.arr]at harr;obtain⟨rfl,rfl⟩:=harr;obtain⟨k',cap',hr',_,_,_,hd⟩:=hok;rw[hr]at hr';simp at hr';obtain⟨rfl,rfl⟩:=hr';obtain⟨cs,e,hw,_,_,hcs⟩:=hd hc0;refine⟨cs,?_,hcs⟩;unfold wH;rw[aF ⟨b,_,_,cap,hb,hx,hr,hc0⟩,hw]
  | AU sz' es'=>rw[hx]at hok harr;simp[Box.arr]at harr;obtain⟨rfl,rfl⟩:=harr;obtain⟨k',cap',hr',_,_,_,hd⟩:=hok;rw[hr]at hr';simp at hr';obtain⟨rfl,rfl⟩:=hr';obtain⟨cs,hw,hcs⟩:=hd hc0;exact⟨cs,zU h.bx bs _ _ hw,hcs⟩
  |absent=>rw[hx]at harr;cases harr
  |dead=>rw[hx]at harr;cases harr
  |var xs=>rw[hx]at harr;cases harr
  |row e l=>rw[hx]at harr;cases harr
 have hle:=zU (st:=st) h.bx bs;by_cases hc0:cap=0
 ·have hm0:m=0:=by omega
  subst hm0;simp only[vF];exact Rd.sl _ 0 c sz [] (λ_ _=>undef) rfl aQ aQ kY kY (by intro ad _ i j hi;omega) kY
 ·obtain⟨cs,hcs,hrd⟩:=hI hc0;have had:=hcap hc0;subst had;have key:∀i j c,((es.take m).getD i [])[j]? = some c->∃u,cs[i*sz+j]? = some u/\Rd I u c:=λi j c hc=>by
   have hi:=jd hc;rw[hl]at hi;refine hrd i j c ?_;rw[<- hc];congr 1;simp only[bu];rw[bn,aF hi]
  refine Rd.sl _ m c sz (es.take m) (λi j=>cs.getD (i*sz+j) undef) hl hmc aQ (λe he=>facts.2.2 e (fJ he)) kY ?_ ?_
  ·intro ad had i j hi hj;simp at had;subst had;have hlen:((es.take m).getD i []).length=sz:=by
    have:i<(es.take m).length:=(by omega);rw[List.getD_eq_getElem?_getD,ai this];exact facts.2.2 _ (fJ (List.getElem_mem this))
   obtain⟨u,hu,_⟩:=key i j _ (ai aQ);rw[Addr.mD];simp only[IH.cell,hcs];simp[hu,dm]
  ·intro i j c hc;obtain⟨u,hu,hr⟩:=key i j c hc;have:cs.getD (i*sz+j) undef=u:=(by simp[dm,hu]);rw[this];exact hr.mono hle
theorem uI {bs:List Nat}{b:Nat} : (st.AU bs).bx b=if b∈bs then Bq (st.bx b)else st.bx b:=rfl
theorem GX.freeze (h:GX E I ρ n st a w)(BS:List Nat):GX E (wH I ρ w st.bx BS) ρ n (st.AU BS) a w:=by
 have hIJ:=zU h.bx BS;have Ai:∀b k,((st.AU BS).bx b).uses (ρ b) k->(st.bx b).uses (ρ b) k/\¬(∃b' sz es cap,b'∈BS/\st.bx b' = .dat sz es/\ρ b'=some (k,cap)/\cap≠0):=by
  intro b k hu;rw[uI]at hu;by_cases hb:b∈BS
  ·rw[aF hb]at hu;cases hx:st.bx b with
   | var xs=>rw[hx]at hu;refine⟨hu,?_⟩;rintro⟨b',sz,es,cap,_,hb',hr',h0⟩;have:=h.bx.inj b b' k (by rw[hx];exact hu) (by rw[hb'];exact⟨cap,hr',h0⟩);subst this;rw[hx]at hb';cases hb'
   | row e l=>rw[hx]at hu;refine⟨hu,?_⟩;rintro⟨b',sz,es,cap,_,hb',hr',h0⟩;have:=h.bx.inj b b' k (by rw[hx];exact hu) (by rw[hb'];exact⟨cap,hr',h0⟩);subst this;rw[hx]at hb';cases hb'
   |dat sz es=>rw[hx]at hu;exact hu.elim
   |AU sz es=>rw[hx]at hu;exact hu.elim
   |absent=>rw[hx]at hu;exact hu.elim
   |dead=>rw[hx]at hu;exact hu.elim
  ·rw[aj hb]at hu;refine⟨hu,?_⟩;rintro⟨b',sz,es,cap,hm',hb',hr',h0⟩;have:=h.bx.inj b b' k hu (by rw[hb'];exact⟨cap,hr',h0⟩);subst this;exact hb hm'
 have hfr:∀b k,((st.AU BS).bx b).uses (ρ b) k->wH I ρ w st.bx BS k=none:=λb k hu=>by obtain⟨h1,h2⟩:=Ai b k hu;unfold wH;rw[aj h2];exact h.bx.fresh b k h1
 refine{ agree:=FP h.agree BS,bx:=⟨λb=>?_,λb b' k hb hb'=>h.bx.inj b b' k (Ai b k hb).1 (Ai b' k hb').1,hfr⟩,tm:=λt ht=>(h.tm t ht).mono hIJ (Ren.le_refl ρ),size:=h.size,defers:=h.defers,ve:=h.ve,own:=λb k hu=>h.own b k (Ai b k hu).1,Ec:=IH.le_trans h.Ec hIJ,Aj:=λk hk0 hM=>?_,ru:=h.ru }
 ·have hok:=(h.bx.ok b).keep hIJ (Ren.le_refl ρ) rfl (λk hu=>rfl);rw[uI];by_cases hb:b∈BS
  ·rw[aF hb];cases hx:st.bx b with
   | dat sz es=>rw[hx]at hok;obtain⟨kk,cap,hr',hl,hm,hsz,hcs⟩:=hok;refine⟨kk,cap,hr',hl,hm,hsz,λh0=>?_⟩;obtain⟨cs,e,hw,_,_,hrd⟩:=hcs h0;refine⟨cs,?_,hrd⟩;unfold wH;rw[aF ⟨b,sz,es,cap,hb,hx,hr',h0⟩,hw]
   |var xs=>rw[hx]at hok;exact hok
   |row e l=>rw[hx]at hok;exact hok
   |AU sz es=>rw[hx]at hok;exact hok
   |absent=>rw[hx]at hok;exact hok
   |dead=>rw[hx]at hok;exact hok
  ·rw[aj hb];exact hok
 ·unfold wH;rw[aj]
  ·exact h.Aj k hk0 hM
  ·rintro⟨b',sz,es,cap,_,hb',hr',h0⟩;rcases h.own b' k (by rw[hb'];exact⟨cap,hr',h0⟩)with h1|h1
   ·omega
   ·exact hM h1
theorem Hy (l:List (Nat×Box))(st:eH):(st.mW l).tm=st.tm:=by
 induction l generalizing st with
 |nil=>rfl
 |cons x l ih=>obtain⟨b,x⟩:=x;simp only[eH.mW,ih];rfl
theorem YW (st:eH)(l:List Nat)(bx:Nat->Box):(st.mW (l.map λb=>(b,Bq (bx b)))).bx=λb=>if b∈l then Bq (bx b)else st.bx b:=by
 induction l generalizing st with
 |nil=>rfl
 | cons c l ih=>
   simp only[bf,eH.mW,ih]
   funext b
   simp only[eH.lC,au];by_cases h:b∈l
   ·simp[h]
   ·by_cases h':b=c
    ·subst h';simp[h]
    ·simp[h,h']
theorem yf (st:eH)(l:List Nat):st.mW (l.map λb=>(b,Bq (st.bx b)))=st.AU l:=by
 apply eH.ext'
 ·rw[Hy];rfl
 ·rw[YW];rfl
theorem Df (l r:List (Nat×Box)):∀(st:eH),st.mW (l++r)=(st.mW l).mW r:=by
 induction l with
 |nil=>intro st;rfl
 |cons p l ih=>intro st;obtain⟨b,x⟩:=p;simp only[List.cons_append,eH.mW,ih]
theorem MR (st:eH)(l:List Nat)(r:List (Nat×Box)):st.mW (P9 st.bx l++r)=(st.AU l).mW r:=by rw[Df];unfold P9;rw[yf]
end
end
section
section
variable {P:Program} {E:Env P} {I:IH} {ρ:Ren} {n:Nat} {st:eH} {a:Act} {w:World}
theorem Rq (h:GX E I ρ n st a w){BS:List Nat}{vs:List Value}{xs:List AC}{cs:List Cell}(hg:EE I ρ vs xs)(hd:Dt st.bx xs=some cs)(hl:tu st.bx xs)(hb:∀b,b∈kL xs->b∈BS) :
 vs.length=cs.length/\∀(j:Nat) (c:Cell),cs[j]? = some c->∃u,vs[j]? = some u/\Rd (wH I ρ w st.bx BS) u c:=by
 have hle:=zU (st:=st) h.bx BS
 induction xs generalizing vs cs with
 | nil=>simp[Dt]at hd;subst hd;exact⟨hg.1,kY⟩
 | cons x r ih=>
   cases vs with
   |nil=>have:=hg.1;simp at this
   | cons v vs=>
     unfold Dt at hd;split at hd
     ·rename_i c cs' h1 h2;simp at hd;subst hd;have ht:EE I ρ vs r:=⟨by simpa using hg.1,λj u y hu hy=>hg.2 (j+1) u y (by simpa using hu) (by simpa using hy)⟩;have hv:=hg.2 0 v x rfl rfl;have hlr:tu st.bx r:=by
       cases x with
       |own b m sz=>exact hl.2
       |_=>exact hl
      have hbr:∀b,b∈kL r->b∈BS:=λb hm=>hb b (by
       cases x with
       |own b' m sz=>exact List.mem_cons_of_mem _ hm
       |_=>exact hm)
      obtain⟨hl',hc⟩:=ih ht h2 hlr hbr;have hr:Rd (wH I ρ w st.bx BS) v c:=by
       cases x with
       |c y=>simp[dataOf]at h1;subst h1;exact Rd.mono hle hv
       | wC sz=>simp[dataOf]at h1;subst h1;simp only[GC]at hv;subst hv;exact Rd.sl none 0 0 _ [] (λ_ _=>undef) rfl (aA _) (by simp[maxLen]) kY kY (λad h=>by cases h) kY
       | own b m sz=>
         simp only[dataOf]at h1;have hl1:=hl.1;cases harr:(st.bx b).arr with
         |none=>rw[harr]at h1;cases h1
         | some p=>obtain⟨sz',es⟩:=p;rw[harr]at h1 hl1;simp at h1;subst h1;obtain⟨rfl,hle'⟩:=hl1;exact Qj h (hb b (by simp[kL])) harr hle' hv
       |_=>simp[dataOf]at h1
      refine⟨by simp[hl'],λj c' hj=>?_⟩;cases j with
      |zero=>simp at hj;subst hj;exact⟨v,rfl,hr⟩
      |succ j=>obtain⟨u,hu,hr'⟩:=hc j c' (by simpa using hj);exact⟨u,by simpa using hu,hr'⟩
     ·cases hd
structure DC (I:IH)(cs:List Value)(sz:Nat)(es:List (List Cell)):Prop where
 one:∀(j:Nat) (u:Value),cs[j]? = some u->u.oneCell'=true
 rd:∀(i j:Nat) (c:Cell),(es.getD i [])[j]? = some c->∃u,cs[i*sz+j]? = some u/\Rd I u c
theorem aad {α:Type}(es:List (List α))(i i':Nat)(e:List α)(h:i<es.length):(es.set i e).getD i' []=if i'=i then e else es.getD i' []:=by
 simp only[bu,lI];by_cases hi:i=i'
 ·subst hi;simp[h]
 ·rw[aj hi,aj (λe=>hi e.symm)]
theorem adl {sz i i' j j':Nat}(hj:j<sz)(hj':j'<sz)(h:i*sz+j=i'*sz+j'):i=i'/\j=j':=by
 have h1:(i*sz+j)/sz=i:=by rw[lN,yu aQ,xO hj,kG]
 have h2:(i'*sz+j')/sz=i':=by rw[lN,yu aQ,xO hj',kG]
 rw[h]at h1;have:=h1.symm.trans h2;subst this;exact⟨rfl,aQ⟩
theorem DC.splice {cs:List Value}{sz:Nat}{es:List (List Cell)}(h:DC I cs sz es)(hsz:∀x,x∈es->x.length=sz){i off:Nat}(hi:i<es.length){vs:List Value}{ys:List Cell}(hl:off+ys.length<=sz)(hcs:(i+1)*sz<=cs.length)
 (hv:vs.length=ys.length) (h1:∀(j:Nat) (u:Value),vs[j]? = some u->u.oneCell'=true) (hd:∀(j:Nat) (c:Cell),ys[j]? = some c->∃u,vs[j]? = some u/\Rd I u c) :
 DC I (splice cs (i*sz+off) vs) sz (es.set i (Ab.splice (es.getD i []) off ys)):=by
 rw[bJ]at hcs;have hfit:i*sz+off+vs.length<=cs.length:=by omega
 have hei:(es.getD i []).length=sz:=hsz _ (by simp[bu,ai hi]);refine⟨λj u hu=>?_,λi' j c hc=>?_⟩
 ·rw[kR _ _ _ _ hfit]at hu;split at hu
  ·exact h.one j u hu
  ·split at hu
   ·exact h1 _ u hu
   ·exact h.one j u hu
 ·rw[aad _ _ _ _ hi]at hc;rw[kR _ _ _ _ hfit];by_cases e:i'=i
  ·subst e;rw[aF rfl,kR _ _ _ _ aQ]at hc;by_cases c1:j<off
   ·rw[aF c1]at hc;rw[aF aQ];exact h.rd i' j c hc
   ·rw[aj c1]at hc;rw[aj aQ];by_cases c2:j<off+ys.length
    ·rw[aF c2]at hc;rw[aF aQ];obtain⟨u,hu,hr⟩:=hd _ c hc;exact⟨u,by rw[<- hu];congr 1;omega,hr⟩
    ·rw[aj c2]at hc;rw[aj aQ];exact h.rd i' j c hc
  ·rw[aj e]at hc;have hj:j<sz:=by
    have hi':=jd hc;have:=hsz (es.getD i' []) (by simp[bu,ai hi']);rw[<- this];exact(ay.1 hc).1
   have hout:¬(i*sz+off<=i'*sz+j/\i'*sz+j<i*sz+off+vs.length):=by intro⟨c1,c2⟩;obtain⟨e1,_⟩:=adl (i:=i') (i':=i) (j:=j) (j':=i'*sz+j-i*sz) hj aQ aQ;exact e e1
   by_cases c1:i'*sz+j<i*sz+off
   ·rw[aF c1];exact h.rd i' j c hc
   ·rw[aj c1,aj aQ];exact h.rd i' j c hc
def BK (n:Nat):List (Nat×Operand)->List (Nat×jR)->Bool
 |[],[]=>true
 |(i,x)::r,(i',y)::r'=>i==i'&&iM n x y&&BK n r r'
 |_,_=>false
def BO (P:Program)(n:Nat)(op:Op)(sz m:Nat)(zs:List Cell)(ps:List (Nat×jR)):Bool:=
 match op with
 | .buildSlice t len ps'=>len==m&&zs.length==sz&&decide (0<sz)&&decide (len*sz<=16777216)&&BK n ps'.toList ps&&(match P.underlying t with
   |some (.slice e)=>(match P.info? e with|some i=>i.size==sz&&(match i.zero with|some z=>Dl z.cells.toList zs|none=>false)|none=>false)
   |_=>false)
 |_=>false
theorem Rh {sz:Nat}{BS:List Nat}(h:GX E I ρ n st a w)(hs0:0<sz):∀(ps:List (Nat×Operand)) (ps':List (Nat×jR)) (l':List (Nat×List Cell)) (cs:Array Value) (es:List (List Cell)),BK n ps ps'=true ->
 sO (bW st.tm) st.bx es.length sz ps'=some l'->uQ (bW st.tm) st.bx ps'->(∀b,b∈nT (bW st.tm) ps'->b∈BS)->(∀p,p∈l'->p.1<es.length/\p.2.length=sz)->(∀p,p∈ps'->(p.2.ev st.tm).g=true)->DC (wH I ρ w st.bx BS) cs.toList sz es->(∀x,x∈es->x.length=sz)->cs.size=es.length*sz ->
 ∃cs',mg (λi=>some (i*sz,sz)) cs (ps.map λp=>(p.1,a.eval p.2))=some cs'/\DC (wH I ρ w st.bx BS) cs'.toList sz (GM es l')/\(∀x,x∈GM es l'->x.length=sz)/\cs'.size=es.length*sz/\(GM es l').length=es.length
 | [],[],l',cs,es,_,hd,_,_,_,_,hg,hsz,hcs=>by simp[sO]at hd;subst hd;exact⟨cs,rfl,hg,hsz,hcs,rfl⟩
 |[],_::_,_,_,_,h,_,_,_,_,_,_,_,_=>by simp[BK]at h
 |_::_,[],_,_,_,h,_,_,_,_,_,_,_,_=>by simp[BK]at h
 | (i,x)::r,(i',y)::r',l',cs,es,hp,hd,hld,hbs,hq,hv,hg,hsz,hcs=>by
   simp only[BK,af,aK]at hp;obtain⟨⟨rfl,hx⟩,hr⟩:=hp;unfold sO at hd;split at hd
   ·rename_i ds l2 hd1 hd2;simp at hd;subst hd;obtain⟨q1,q2⟩:=hq (i,ds) kY;simp only at q1 q2;have g:=jF h hx (hv _ (aJ ..));have hf:(bW st.tm y).flat:=by
     cases hav:bW st.tm y with
     |Bl ps=>rw[hav]at hd1;simp[AV.cells,Dt]at hd1;rw[hd1]at q2;simp at q2;omega
     |one x=>trivial
     |agg xs=>trivial
    have gc:=Ea g hf;obtain⟨hl,hrd⟩:=Rq (BS:=BS) h gc hd1 hld.1 (λb hm=>hbs b (by simp only[nT,bg];exact .inl hm));have hvs:(a.eval x).cells.size=sz:=(by simp at hl;rw[hl];exact q2);have hone:∀(j:Nat) (u:Value),(a.eval x).cells.toList[j]? = some u->u.oneCell'=true:=λj u hu=>by have hj:j<(bW st.tm y).cells.length:=(by rw[<- gc.1];exact(ay.1 hu).1);exact(gc.2 j u _ hu (ai hj)).one
    have hi1:(i+1)*sz<=cs.toList.length:=(by simp;rw[hcs];exact aH _ q1);have hmul:(i+1)*sz=i*sz+sz:=(by rw[bJ];omega);have hsp:=hg.splice hsz q1 (off:=0) (ys:=ds) (vs:=(a.eval x).cells.toList) aQ hi1 (by simpa using hl) hone hrd;have hei:(es.getD i []).length=sz:=hsz _ (by simp[bu,ai q1]);have hse:Ab.splice (es.getD i []) 0 ds=ds:=(by unfold Ab.splice;rw[vF,nN,List.drop_of_length_le aQ,mJ]);rw[hse,kG]at hsp;have hfold:=foldl_set (a.eval x).cells (i*sz) cs (by simp at hi1;omega);have hlen2:(es.set i ds).length=es.length:=(by simp);have ih:=Rh h hs0 r r' l2 ((a.eval x).cells.zipIdx.foldl (λcs (p:Value×Nat)=>cs.setIfInBounds (i*sz+p.2) p.1) cs) (es.set i ds) hr (by rw[hlen2];exact hd2) hld.2 (λb hm=>hbs b (by simp only[nT,bg];exact .inr hm))
     (λp hp=>by rw[hlen2];exact hq p (by simp[hp])) (λp hp=>hv p (by simp[hp])) (by rw[hfold];exact hsp)
     (λx hx=>(o9 hx).elim (hsz x) (λh1=>by rw[h1];exact q2)) (by have:(cs.toList).length=cs.size:=(by simp);rw[<- fE,hfold,length_splice _ _ _ (by simp at hi1⊢;omega),hlen2];simpa using hcs)
    obtain⟨cs',h1,h2,h3,h4,h5⟩:=ih;rw[hlen2]at h4 h5;refine⟨cs',?_,h2,h3,h4,h5⟩;simp only[bf,mg];rw[aj (by simp at hi1⊢;omega)];exact h1
   ·cases hd
theorem Ri {o:Oper}{l sz m:Nat}{zs:List Cell}{ps:List (Nat×jR)}{l':List (Nat×List Cell)}(h:GX E I ρ n st a w)(hc:BO P n o.op sz m zs ps=true)(hv:∀p,p∈ps->(p.2.ev st.tm).g=true)
 (hm:E.m<=l) (hl:wQ (st.bx l)) (hd:sO (bW st.tm) st.bx m sz ps=some l') (hq:∀p,p∈l'->p.1<m/\p.2.length=sz) (hld:uQ (bW st.tm) st.bx ps) :
 nY P E n o a w ((st.AU (nT (bW st.tm) ps)).rX l (.dat sz (GM (bG m zs) l'))) (.one (.own l m sz)):=by
 have h':=h.freeze (nT (bW st.tm) ps);have hl':wQ ((st.AU (nT (bW st.tm) ps)).bx l):=by rw[uI,uD hl];split<;>trivial
 generalize hJ:wH I ρ w st.bx (nT (bW st.tm) ps)=J at h';unfold BO at hc;split at hc
 ·rename_i t len ps' he;simp only[af,aK,ak]at hc;obtain⟨⟨⟨⟨⟨rfl,hs⟩,hs0⟩,hbig⟩,hp⟩,ht⟩:=hc;split at ht
  ·rename_i e hte;split at ht
   ·rename_i i hi;simp only[af,aK]at ht;obtain⟨rfl,hz⟩:=ht;split at hz
    ·rename_i z hzero;generalize hz0:(if len*i.size=0 then(#[]:Array Value)else z.cells)=z0;generalize hcs0:(nG (len*i.size)).map (z0[· % z0.size]!)=cs0;have hdc:DC J cs0.toList i.size (bG len zs)/\cs0.size=len*i.size:=by
      refine⟨?_,by rw[<- hcs0];simp⟩;by_cases h0:len*i.size=0
      ·have hlen0:len=0:=by
        rcases Nat.mul_eq_zero.1 h0 with h1|h1
        ·exact h1
        ·omega
       subst hlen0;refine⟨λj u hu=>?_,λi' j c hc=>?_⟩
       ·rw[<- hcs0]at hu;simp at hu
       ·simp[bu]at hc
      ·rw[aj h0]at hz0;subst hz0;have rc:=Ja (I:=J) (N:=len*i.size) (m:=len) hz hs hs0 (aA _) (cs:=cs0) hcs0.symm;exact⟨λj u hu=>rc.1 j u (by simpa using hu),λi' j c hc=>by obtain⟨u,hu,hr⟩:=rc.2 i' j c hc;exact⟨u,by simpa using hu,hr⟩⟩
     obtain⟨cs',h1,h2,h3,h4,h5⟩:=Rh (BS:=nT (bW st.tm) ps) h hs0 ps'.toList ps l' cs0 (bG len zs) hp (by simpa using hd) hld (λb hb=>hb) (by simpa using hq) hv (by rw[hJ];exact hdc.1) (λx hx=>by rw[nC hx,hs]) (by simpa using hdc.2);rw[hJ]at h2;simp only[zB]at h4 h5;have g:=EI h' (uD hl') hm cs' e len i.size (GM (bG len zs) l') h4 aQ (by simp only[maxLen];have:=Nat.le_mul_of_pos_right len hs0;omega) h3
      (λj u hu=>h2.one j u (by simpa using hu)) (λi' j c hc=>by obtain⟨u,hu,hr⟩:=h2.rd i' j c hc;exact⟨u,by simpa using hu,hr⟩)
     refine⟨_,_,J,_,.inl ?_,g,λ_=>⟨w.heap.size,len,_,_,Ren.jS _ _ _ _,rfl,aA _,aA _,λ_=>rfl⟩⟩;have hps:(ps'.map λ(i,x)=>(i,a.eval x)).toList=ps'.toList.map λp=>(p.1,a.eval p.2):=(by simp);have hsz:(sizeOf e).run P w = .ok i.size w:=(by simp[sizeOf,typeInfo,hi]);have hzr:(zeroValue e).run P w = .ok z w:=(by simp[zeroValue,typeInfo,hi,hzero]);simp only[execOp,he,Instr.buildSlice,bC,run_underlying hte,aO,hsz];rw[aj aQ];by_cases h0:len*i.size=0
     ·rw[aF h0]at hz0⊢;subst hz0;simp only[bC,aZ,aO,hcs0,hps,h1,newRow,run_newObj];rfl
     ·rw[aj h0]at hz0⊢;subst hz0;simp only[bC,hzr,aZ,aO,hcs0,hps,h1,newRow,run_newObj];rfl
    ·cases hz
   ·cases ht
  ·cases ht
 ·cases hc
theorem Dc (w:World)(k:Nat)(cs:Array Value):wZ w (w.setRow k cs) (λk'=>k'=k):=
 ⟨rfl,rfl,rfl,kY,λk' _ hne=>setRow_other w k k' cs hne,aA _⟩
theorem rY (cs:Array Value)(off:Nat)(vs:List Value):(cs.toList.take (off+0)++vs++cs.toList.drop (off+0+vs.length)).toArray=(Ab.splice cs.toList off vs).toArray:=by unfold Ab.splice;simp
def Le (P:Program)(n:Nat)(op:Op)(agg:Bool)(k:Nat)(p x:jR):Bool:=match op with|.store t p' x'=>iM n p' p&&iM n x' x&&DF P t agg k&&(agg||k==1)|_=>false
theorem Hw {t:TypeId}{agg:Bool}{k kk off:Nat}(ht:DF P t agg k=true){v:Value}(hk:v.cells.size=k){cur:Array Value}{e:TypeId}(hw:w.heap[kk]? = some (.cells cur e (0,0)))
 (hfit:off+k<=cur.size) (h1:∀(j:Nat) (u:Value),v.cells.toList[j]? = some u->u.oneCell'=true) :
 (um t (.pointer (some ⟨kk,off,none⟩)) v).run P w = .ok () (w.setRow kk (Ab.splice cur.toList off v.cells.toList).toArray):=by
 have hst:=run_storeCells_at P kk off e v.cells.toList 0 cur w hw (by simp;omega) (λu hu=>by obtain⟨j,hj⟩:=mY hu;exact h1 j u hj)
 rw[rY]at hst;obtain⟨_,hs⟩:=Ac ht w;simp only[um,iw,bC,aZ,aO,storeVar,hs];rw[aj aQ];exact hst
theorem acV {v:Value}{x:AV}(h:GV I ρ v x)(hf:x.flat):∀(j:Nat) (u:Value),v.cells.toList[j]? = some u->u.oneCell'=true:=λj u hu=>by
 have gc:=Ea h hf;have hj:j<x.cells.length:=by rw[<- gc.1];exact(ay.1 hu).1
 exact(gc.2 j u _ hu (ai hj)).one
theorem VN {o:Oper}{agg:Bool}{k:Nat}{p x:jR}(h:GX E I ρ n st a w)(hc:Le P n o.op agg k p x=true)(hd:o.dst=none)(hp:(p.ev st.tm).g=true)(hx:(x.ev st.tm).g=true)
 (gI:(Az agg k (bW st.tm p) (bW st.tm x) st.bx).vc):oP P E n o a w (st.mW (Az agg k (bW st.tm p) (bW st.tm x) st.bx).sets) (Az agg k (bW st.tm p) (bW st.tm x) st.bx).v:=by
 unfold Le at hc;split at hc
 ·rename_i t p' x' he;simp only[af]at hc;obtain⟨⟨⟨c1,c2⟩,ht⟩,_⟩:=hc;have g1:=jF h c1 hp;have g2:=jF h c2 hx;have hf:(bW st.tm x).flat:=by
   cases hav:bW st.tm x with
   |one _=>trivial
   |agg _=>trivial
   |Bl ps=>rw[hav]at gI;exact gI.elim
  have gc:=Ea g2 hf;have h1:=acV g2 hf;have key:∀{J:IH} {st':eH} (h':GX E J ρ n st' a w) {b kk cap off:Nat} {cur:Array Value} {e:TypeId} {y:Box},a.eval p' = .pointer (some ⟨kk,off,none⟩)->(st'.bx b).uses (ρ b) kk->w.heap[kk]? = some (.cells cur e (0,0))->(bW st.tm x).cells.length=k->off+k<=cur.size ->
   (∀k',y.uses (ρ b) k'->k'=kk)->vG J ρ (w.setRow kk (Ab.splice cur.toList off (a.eval x').cells.toList).toArray) b y->ρ b=some (kk,cap)->oP P E n o a w (st'.mW [(b,y)]) (.one .Ee):=by
   intro J st' h' b kk cap off cur e y hpv hu hw hk hfit huy hok hr;have hkv:(a.eval x').cells.size=k:=(by have:=gc.1;simp at this;omega);have hrun:=Hw (P:=P) (w:=w) ht hkv hw hfit h1;refine⟨undef,w.setRow kk (Ab.splice cur.toList off (a.eval x').cells.toList).toArray,J,ρ,.inr ⟨by simp only[execOp,he,hpv,bC,hrun,aO,aZ],hd⟩,?_,λhn=>dO hd hn,{ quiet:=λe=>(by rw[he]at e;cases e),store:=λt1 p1 x1 he1=>(by rw[he]at he1;cases he1;exact⟨kk,off,cur,e,hpv,hw,aQ,rfl⟩) }⟩;exact h'.rX hu y huy (Dc _ _ _) hok kY
  unfold Az at gI⊢;split at gI
  ·exact gI.elim
  ·exact gI.elim
  ·exact gI.elim
  ·split at gI
   ·rename_i b off e1;rw[e1]at g1;obtain⟨kk,cap,hr,hv⟩:=g1;split at gI
    ·rename_i xs hb;obtain⟨hk,hfit⟩:=gI;have hok:=h.bx.ok b;rw[hb]at hok;obtain⟨Zl,cap',cs,hr',hw,hs,hcs⟩:=hok;rw[hr]at hr';simp only[aI,cZ]at hr';obtain⟨rfl,rfl⟩:=hr';refine key h hv (by rw[hb];exact⟨cap,hr⟩) hw hk aQ (λk' hk'=>?_) ?_ hr
     ·obtain⟨c,hc⟩:=hk';rw[hr]at hc;simp at hc;exact hc.1.symm
     ·have hsp:=EE.splice (vs:=cs.toList) (xs:=xs) ⟨by simpa using hs,λj v y hv hy=>hcs j v y (by simpa using hv) hy⟩ gc off aQ;refine⟨kk,cap,_,hr,setRow_heap w kk cs _ cap _ hw,?_,λj u y hu hy=>hsp.2 j u y (by simpa using hu) hy⟩;have:=hsp.1;simpa using this
    ·exact gI.elim
   ·rename_i b i sz off e1;rw[e1]at g1;obtain⟨kk,cap,hr,hv⟩:=g1;split at gI
    ·rename_i sz' es cs' hb hds;obtain⟨rfl,hk,hi,hfit,hlo,hnb⟩:=gI;obtain⟨hl,hrd⟩:=Rq (BS:=kL (bW st.tm x).cells) h gc hds hlo (λb hm=>hm);have h':=h.freeze (kL (bW st.tm x).cells);have hb':(st.AU (kL (bW st.tm x).cells)).bx b = .dat sz' es:=(by rw[uI,aj (λhm=>by rw[List.contains_iff_mem.2 hm]at hnb;cases hnb),hb]);rw[MR];generalize hJ:wH I ρ w st.bx (kL (bW st.tm x).cells)=J at h' hrd;have hok:=h'.bx.ok b;rw[hb']at hok;obtain⟨Zl,cap',hr',hle,hcm,hsz,hcs⟩:=hok;rw[hr]at hr';simp only[aI,cZ]at hr';obtain⟨rfl,rfl⟩:=hr';have hc0:cap≠0:=(by omega);obtain⟨cs,e,hw,hs,ho,ahL⟩:=hcs hc0;have hi1:(i+1)*sz'<=cs.size:=(by rw[hs];exact aH _ aQ);have hmul:(i+1)*sz'=i*sz'+sz':=(by rw[bJ];omega);have hei:(es.getD i []).length=sz':=hsz _ (by simp[bu,ai hi]);have hck:(bW st.tm x).cells.length=k:=(by rw[<- gc.1,hl];exact hk);have hdc:DC J cs.toList sz' es:=⟨λj u hu=>ho j u (by simpa using hu),λi j c hc=>by obtain⟨u,hu,hr⟩:=ahL i j c hc;exact⟨u,by simpa using hu,hr⟩⟩;have hsp:=hdc.splice hsz hi (off:=off) (ys:=cs') (vs:=(a.eval x').cells.toList) aQ (by simpa using hi1) hl h1 hrd;refine key h' hv (by rw[hb'];exact⟨cap,hr,hc0⟩) hw hck aQ (λk' hk'=>?_) ?_ hr
     ·obtain⟨c,hc,_⟩:=hk';rw[hr]at hc;simp at hc;exact hc.1.symm
     ·refine⟨kk,cap,hr,by simpa using hle,hcm,λy hy=>?_,λ_=>⟨_,e,setRow_heap w kk cs _ e _ hw,?_,λj u hu=>hsp.one j u (by simpa using hu),λi j c hc=>by obtain⟨u,hu,hr⟩:=hsp.rd i j c hc;exact⟨u,by simpa using hu,hr⟩⟩⟩
      ·rcases o9 hy with h1|h1
       ·exact hsz y h1
       ·rw[h1,length_splice _ _ _ aQ];exact hei
      ·have:(a.eval x').cells.toList.length=k:=(by rw[hl];exact hk);simp only[kQ];rw[length_splice _ _ _ (by rw[this,fE];omega)];simpa using hs
    ·exact gI.elim
   ·exact gI.elim
 ·cases hc
end
end
section
section
variable {P:Program} {E:Env P} {I:IH} {ρ:Ren} {n:Nat} {st:eH} {a:Act} {w:World}
theorem GX.kill (h:GX E I ρ n st a w)(b:Nat):GX E I ρ n (st.rX b .dead) a w:=by
 refine{ h with bx:=?_,own:=?_,agree:=h.agree,tm:=h.tm,size:=h.size,defers:=h.defers }
 ·refine BX.step (λc=>c=b) h.bx (IH.le_refl I) (Ren.le_refl ρ) (λc hc=>⟨by simp[eH.lC,hc],rfl⟩) (λc k _ _=>rfl) ?_ ?_ ?_ (λc k _ hu=>h.bx.fresh c k hu)
  ·rintro c rfl;simp[eH.lC,vG]
  ·rintro c k rfl hu;simp[eH.lC,Box.uses]at hu
  ·rintro c c' k rfl rfl _ _;rfl
 ·intro c k hu;simp only[eH.lC]at hu;by_cases e:c=b
  ·rw[aF e]at hu;exact hu.elim
  ·rw[aj e]at hu;exact h.own c k hu
theorem GX.move (h:GX E I ρ n st a w){w':World}{b l kk cap sz sz':Nat}{es es':List (List Cell)}(hb:st.bx b = .dat sz es)(hr:ρ b=some (kk,cap))(hl:st.bx l = .absent)(hm:E.m<=l)
 (hF:wZ w w' (λk=>k=kk)) (hsz:w'.heap.size=w.heap.size) (h0:cap=0->w'=w) (hx:vG I (ρ.set l kk cap) w' l (.dat sz' es')):GX E I (ρ.set l kk cap) n ((st.rX b .dead).rX l (.dat sz' es')) a w':=by
 have hrl:ρ l=none:=by have:=h.bx.ok l;rwa[hl]at this
 have hbl:b≠l:=by rintro rfl;rw[hl]at hb;cases hb
 have hle:=Ren.IW (ρ:=ρ) (k:=kk) (cap:=cap) hrl;have hk:∀k',k'≠kk->w'.heap[k']? = w.heap[k']?:= λk' hne=>by
  by_cases hlt:k'<w.heap.size
  ·exact hF.block k' hlt hne
  ·rw[nS aQ,nS aQ]
 have hub:cap≠0->(st.bx b).uses (ρ b) kk:=λhc=>by rw[hb];exact⟨cap,hr,hc⟩
 have hk2:∀k',(∀hc:cap≠0,k'≠kk)->w'.heap[k']? = w.heap[k']?:= λk' hne=>by
  by_cases hc:cap=0
  ·rw[h0 hc]
  ·exact hk k' (hne hc)
 refine{ agree:=h.agree.other λk' c hc=>hk2 k' λhc0 e=>?_,bx:=?_,tm:=λt ht=>(h.tm t ht).mono (IH.le_refl _) hle,size:=h.size,defers:=h.defers,ve:=?_,own:=?_,Ec:=h.Ec,Aj:=h.Aj,ru:=?_ }
 ·subst e;have:=h.bx.fresh b k' (hub hc0);rw[this]at hc;cases hc
 ·refine BX.step (λc=>c=b\/c=l) h.bx (IH.le_refl I) hle ?_ ?_ ?_ ?_ ?_ ?_
  ·intro c hc;have h1:¬c=b:=λe=>hc (.inl e);have h2:¬c=l:=λe=>hc (.inr e);exact⟨by simp[eH.lC,h1,h2],Ren.rW h2⟩
  ·intro c k' hc hu;refine hk2 k' λhc0 e=>hc (.inl ?_);subst e;exact h.bx.inj c b k' hu (hub hc0)
  ·rintro c (rfl|rfl)
   ·simp[eH.lC,hbl,vG]
   ·simpa[eH.lC]using hx
  ·rintro c k' (rfl|rfl) hu
   ·simp[eH.lC,hbl,Box.uses]at hu
   ·simp only[eH.lC,iT,Box.uses,Ren.jS]at hu;obtain⟨c',hc',hc0⟩:=hu;simp only[aI,cZ]at hc';obtain⟨rfl,rfl⟩:=hc';exact⟨λb' hb' hu'=>hb' (.inl (h.bx.inj b' b kk hu' (hub hc0))),h.bx.fresh b kk (hub hc0)⟩
  ·rintro c c' k' (rfl|rfl) (rfl|rfl) hu hu'
   ·rfl
   ·simp[eH.lC,hbl,Box.uses]at hu
   ·simp[eH.lC,hbl,Box.uses]at hu'
   ·rfl
  ·intro c k' hc hu;exact h.bx.fresh c k' hu
 ·by_cases hc:cap=0
  ·rw[h0 hc];exact h.ve
  ·refine h.ve.trans hF λk' hlt e=>?_;subst e;rcases h.own b k' (hub hc)with h1|h1
   ·omega
   ·exact h1
 ·intro c k' hu;simp only[eH.lC]at hu;by_cases e:c=l
  ·subst e;simp only[iT,Box.uses,Ren.jS]at hu;obtain⟨c',hc',hc0⟩:=hu;simp only[aI,cZ]at hc';obtain⟨rfl,rfl⟩:=hc';exact h.own b kk (hub hc0)
  ·rw[aj e,Ren.rW e]at hu;by_cases e2:c=b
   ·rw[aF e2]at hu;exact hu.elim
   ·rw[aj e2]at hu;exact h.own c k' hu
 ·intro c hc;rw[Ren.rW aQ];exact h.ru c hc
theorem Ey {v:Value}{sz:Nat}{es:List (List Cell)}(h:Src I w v sz es)(h0:0<sz):∃(b:Option Addr) (cap:Nat) (us:List Value),v = .slice b es.length cap/\us.length=es.length*sz /\
 (∀ad,b=some ad->∀(j:Nat) (u:Value),us[j]? = some u->w.cell? (ad.add j)=some u)/\(b=none->es=[])/\DC I us sz es:=by
 obtain⟨b,cap,hv,_,hsz,hb,hc⟩:=h;cases b with
 | none=>
   have:es=[]:=by
    cases es with
    |nil=>rfl
    |cons e r=>exact dO rfl (hb kY)
   subst this;exact⟨none,cap,[],hv,kY,(λad h=>by cases h),(λ_=>rfl),⟨kY,kY⟩⟩
 | some ad=>
   have key:∀j,j<es.length*sz->∃u,w.cell? (ad.add j)=some u/\∃c,(es.getD (j/sz) [])[j%sz]? = some c/\Rd I u c:=by intro j hj;have hi:j/sz<es.length:=(by rw[Nat.div_lt_iff_lt_mul h0];exact hj);have hl:(es.getD (j/sz) []).length=sz:=hsz _ (by simp[bu,ai hi]);have hm:j%sz<sz:=qV _ h0;obtain⟨u,hu,hr⟩:=hc ad rfl (j/sz) (j%sz) _ (ai aQ);have e:j/sz*sz+j%sz=j:=(by rw[lN];exact Nat.div_add_mod j sz);rw[e]at hu;exact⟨u,hu,_,ai aQ,hr⟩
   refine⟨some ad,cap,(List.range (es.length*sz)).map λj=>(w.cell? (ad.add j)).getD undef,hv,kY,?_,kY,?_⟩
   ·intro ad' had j u hu;simp at had;subst had;rw[aP]at hu;by_cases hj:j<es.length*sz
    ·rw[o8 hj]at hu;obtain⟨u',hu',_⟩:=key j hj;simp[hu']at hu;rw[<- hu];exact hu'
    ·rw[iq (by simpa using hj)]at hu;cases hu
   ·refine⟨λj u hu=>?_,λi j c hcc=>?_⟩
    ·rw[aP]at hu;by_cases hj:j<es.length*sz
     ·rw[o8 hj]at hu;obtain⟨u',hu',c,_,hr⟩:=key j hj;simp[hu']at hu;rw[<- hu];exact hr.one
     ·rw[iq (by simpa using hj)]at hu;cases hu
    ·have hi:=jd hcc;have hl:(es.getD i []).length=sz:=hsz _ (by simp[bu,ai hi]);have hj:j<sz:=(by rw[<- hl];exact(ay.1 hcc).1);obtain⟨u,hu,hr⟩:=hc ad rfl i j c hcc;have hlt:i*sz+j<es.length*sz:=by
      have:(i+1)*sz<=es.length*sz:=aH _ hi;rw[bJ]at this;omega
     exact⟨u,by rw[aP,o8 hlt];simp[hu],hr⟩
theorem DC.append {us vs:List Value}{sz:Nat}{es ys:List (List Cell)}(h:DC I us sz es)(k:DC I vs sz ys)(hl:us.length=es.length*sz):DC I (us++vs) sz (es++ys):=by
 refine⟨λj u hu=>?_,λi j c hc=>?_⟩
 ·by_cases hj:j<us.length
  ·rw[aX hj]at hu;exact h.one j u hu
  ·rw[bZ aQ]at hu;exact k.one _ u hu
 ·by_cases hi:i<es.length
  ·have e:(es++ys).getD i []=es.getD i []:=(by simp[bu,aX hi]);rw[e]at hc;obtain⟨u,hu,hr⟩:=h.rd i j c hc;exact⟨u,by rw[aX (ay.1 hu).1];exact hu,hr⟩
  ·have e:(es++ys).getD i []=ys.getD (i-es.length) []:=(by simp[bu,bZ (uy hi)]);rw[e]at hc;obtain⟨u,hu,hr⟩:=k.rd _ j c hc;have hmul:es.length*sz<=i*sz:=aH _ aQ;have hsub:(i-es.length)*sz=i*sz-es.length*sz:=Nat.sub_mul _ _ _;exact⟨u,by rw[bZ aQ,hl,<- hu];congr 1;omega,hr⟩
theorem DC.more {us vs:List Value}{sz:Nat}{es:List (List Cell)}(h:DC I us sz es)(hv:∀(j:Nat) (u:Value),vs[j]? = some u->u.oneCell'=true):DC I (us++vs) sz es:=by
 refine⟨λj u hu=>?_,λi j c hc=>?_⟩
 ·by_cases hj:j<us.length
  ·rw[aX hj]at hu;exact h.one j u hu
  ·rw[bZ aQ]at hu;exact hv _ u hu
 ·obtain⟨u,hu,hr⟩:=h.rd i j c hc;exact⟨u,by rw[aX (ay.1 hu).1];exact hu,hr⟩
theorem DC.Xt {us:List Value}{sz:Nat}{es:List (List Cell)}{cs:Array Value}(h:DC I us sz es)(e:cs.toList=us) :
 (∀(j:Nat) (u:Value),cs[j]? = some u->u.oneCell'=true)/\∀(i j:Nat) (c:Cell),(es.getD i [])[j]? = some c->∃u,cs[i*sz+j]? = some u/\Rd I u c:=by
 subst e;exact⟨λj u hu=>h.one j u (by simpa using hu),λi j c hc=>by obtain⟨u,hu,hr⟩:=h.rd i j c hc;exact⟨u,by simpa using hu,hr⟩⟩
def xE (P:Program)(n:Nat)(op:Op)(sz bytes:Nat)(s x:jR):Bool:=
 match op with
 | .call { callee:=.builtin .append,args:=⟨[s',x']⟩,argTypes:=⟨[t,t']⟩ }=>iM n s' s&&iM n x' x&&t==t'&&decide (0<sz)&&(match P.underlying t with
   |some (.slice e)=>(match P.info? e with|some i=>i.size==sz&&i.bytes==bytes&&(match i.zero with|some z=>z.cells.size==sz&&z.cells.toList.all (·.oneCell')|none=>false)|none=>false)
   |_=>false)
 |_=>false
theorem run_append_room' (t ty e tg:TypeId)(i:TypeInfo)(ht:P.underlying t=some (.slice e))(hi:P.info? e=some i)
 (g sLen sCap:Nat) (cur:Array Value) (hg:w.heap[g]? = some (.cells cur tg (0,0)))
 (ad:Addr) (m c:Nat) (news:List Value) (hl:news.length=m*i.size) (hnews:∀j u,news[j]? = some u->w.cell? (ad.add j)=some u) (h1:∀u∈news,u.oneCell'=true)
 (hroom:sLen+m<=sCap) (hfit:sLen*i.size+news.length<=cur.size) :
 (fQ #[t,t] ty #[.slice (some ⟨g,0,none⟩) sLen sCap,.slice (some ad) m c]).run P w =
  .ok (.slice (some ⟨g,0,none⟩) (sLen+m) sCap) (w.setRow g (cur.toList.take (sLen*i.size)++news++cur.toList.drop (sLen*i.size+news.length)).toArray):=by
 have hf:=run_firstCells_some (P:=P) w i.size m ad m c news hl hnews;have hst:=run_storeCells_at P g (sLen*i.size) tg news 0 cur w hg (by simpa using hfit) h1;simp only[kG]at hst;simp[fQ,run_underlying ht,sizeOf,typeInfo,hi,lU,hroom,hf,Go.Addr.add_lit,hst]
theorem zo (t ty e:TypeId)(i:TypeInfo)(ht:P.underlying t=some (.slice e))(hi:P.info? e=some i)(b:Option Addr)(sLen sCap:Nat)(hs:sLen<=sCap)(ad:Option Addr)(c:Nat) :
 (fQ #[t,t] ty #[.slice b sLen sCap,.slice ad 0 c]).run P w = .ok (.slice b sLen sCap) w:=by
 have hf:(dZ i.size 0 (.slice ad 0 c)).run P w = .ok #[] w:=by cases ad<;>simp[dZ,loadCells,loadCellsFrom,aZ]
 cases b<;>simp[fQ,run_underlying ht,sizeOf,typeInfo,hi,lU,hs,hf,storeCells]
theorem Jm (h:GX E I ρ n st a w){l sz bytes:Nat}{sv xv:Value}{es ys:List (List Cell)}{b:Option Nat}(t ty e:TypeId)(i:TypeInfo)(z:Value)(ht:P.underlying t=some (.slice e))(hi:P.info? e=some i)(hsz:i.size=sz)
 (hby:i.bytes=bytes) (hz:i.zero=some z) (hzs:z.cells.size=sz) (hz1:z.cells.toList.all (·.oneCell')=true) (h0:0<sz) (hl:st.bx l = .absent) (hm:E.m<=l)
 (hb:(b=none/\es=[]/\sv = .slice none 0 0)\/∃b',b=some b'/\st.bx b' = .dat sz es/\GC I ρ sv (.own b' es.length sz)) (hx:Src I w xv sz ys) (hbig:(es.length+ys.length)*(bytes+sz+1)<=2^46) :
 ∃v w' ρ',(fQ #[t,t] ty #[sv,xv]).run P w = .ok v w'/\GX E I ρ' n ((match b with|some b'=>st.rX b' .dead|none=>st).rX l (.dat sz (es++ys))) a w'/\GC I ρ' v (.own l (es.length+ys.length) sz):=by
 subst hsz;subst hby;have hmul:(es.length+ys.length)*(i.bytes+i.size+1)=(es.length+ys.length)*i.bytes+(es.length+ys.length)*i.size+(es.length+ys.length):=by rw[sD,sD,AP]
 have hbytes:(es.length+ys.length)*i.bytes<=140737488355328:=by omega
 have h63:es.length+ys.length<=maxLen:=by simp only[maxLen];omega
 obtain⟨xb,xc,us,hxv,Dw,hus,hxn,Ud⟩:=Ey hx h0;have hys:∀y,y∈ys->y.length=i.size:=by obtain⟨_,_,_,_,h4,_⟩:=hx;exact h4
 have hone:∀u∈us,u.oneCell'=true:=λu hu=>by obtain⟨j,hj⟩:=mY hu;exact Ud.one j u hj
 have hzc:∀(q:Nat) (j:Nat) (u:Value),(bT z.cells q).toList[j]? = some u->u.oneCell'=true:=by
  intro q j u hu;simp only[bT,ou,jZ]at hu;by_cases hj:j<q*z.cells.size
  ·rw[kM,aF hj]at hu;simp only[iZ,aI]at hu;have hlt:j%z.cells.size<z.cells.size:=qV _ aQ;rw[getElem!_pos z.cells _ hlt]at hu;rw[<- hu];exact aB.1 hz1 _ kY
  ·rw[kM,aj hj]at hu;cases hu
 have fresh:∀(st':eH) (old:Nat) (olds:List Value),GX E I ρ n st' a w->st'.bx l = .absent->old<es.length+ys.length->olds.length=es.length*i.size->DC I olds i.size es->(∀y,y∈es->y.length=i.size) ->
  GX E I (ρ.set l w.heap.size (grownCap w (es.length+ys.length) old e)) n (st'.rX l (.dat i.size (es++ys))) a
   (w.drew.alloc (.cells (olds.toArray++us.toArray++bT z.cells (grownCap w (es.length+ys.length) old e-(es.length+ys.length))) e)):=by
  intro st' old olds hst hl' ho hol hdo hes;have hge:=grownCap_ge w (es.length+ys.length) old e;have hcm:grownCap w (es.length+ys.length) old e<=maxLen:=grownCap_le_maxLen w _ old e h63;have hdc:=((hdo.append Ud hol).more (hzc (grownCap w (es.length+ys.length) old e-(es.length+ys.length)))).Xt (cs:=olds.toArray++us.toArray++bT z.cells (grownCap w (es.length+ys.length) old e-(es.length+ys.length))) kY;refine EI hst.drew hl' hm _ e _ i.size (es++ys) ?_ (by simpa using hge) hcm (λx hx=>?_) hdc.1 hdc.2
  ·simp only[tC,kQ,size_zeroCells,hzs,hol,Dw,<- bJ]
   congr 1
   omega
  ·rcases bg.1 hx with h1|h1
   ·exact hes x h1
   ·exact hys x h1
 rcases hb with⟨rfl,rfl,rfl⟩|⟨b',rfl,hb',hg⟩
 ·
  simp only[lF,dF,nN]at *;by_cases hm0:ys.length=0
  ·have hy0:ys=[]:=dL hm0;subst hy0;refine⟨.slice none 0 0,w,ρ.set l 0 0,?_,?_,0,0,none,0,Ren.jS _ _ _ _,rfl,aA _,aA _,λh=>dO rfl h⟩
   ·rw[hxv];exact zo t ty e i ht hi none 0 0 (aA _) xb xc
   ·have hrl:ρ l=none:=(by have:=h.bx.ok l;rwa[hl]at this);have hle:=Ren.IW (ρ:=ρ) (k:=0) (cap:=0) hrl;refine{ agree:=h.agree,bx:=?_,tm:=λt ht=>(h.tm t ht).mono (IH.le_refl _) hle,size:=h.size,defers:=h.defers,ve:=h.ve,own:=?_,Ec:=h.Ec,Aj:=h.Aj,ru:=λc hc=>by rw[Ren.rW aQ];exact h.ru c hc }
    ·refine BX.step (λc=>c=l) h.bx (IH.le_refl I) hle (λc hc=>⟨by simp[eH.lC,hc],Ren.rW hc⟩) (λc k _ _=>rfl) ?_ ?_ ?_ (λc k _ hu=>h.bx.fresh c k hu)
     ·rintro c rfl;simp only[eH.lC,iT];exact⟨0,0,Ren.jS _ _ _ _,kY,by simp[maxLen],kY,λh=>dO rfl h⟩
     ·rintro c k rfl hu;simp only[eH.lC,iT,Box.uses,Ren.jS]at hu;obtain⟨c',hc',hc0⟩:=hu;simp only[aI,cZ]at hc';exact dO hc'.2.symm hc0
     ·rintro c c' k rfl rfl _ _;rfl
    ·intro c k hu;simp only[eH.lC]at hu;by_cases e':c=l
     ·subst e';simp only[iT,Box.uses,Ren.jS]at hu;obtain⟨c',hc',hc0⟩:=hu;simp only[aI,cZ]at hc';exact dO hc'.2.symm hc0
     ·rw[aj e',Ren.rW e']at hu;exact h.own c k hu
  ·obtain⟨ad,had⟩:∃ad,xb=some ad:=by
    cases hq:xb with
    |none=>exact dO (by rw[hxn hq];rfl) hm0
    |some ad=>exact⟨ad,rfl⟩
   subst had;have hr:=run_append_nil (P:=P) w t ty e i z ht hi hz ad ys.length xc us Dw (hus ad rfl) aQ (by simp only[maxLen]at h63;omega) aQ;rw[<- hxv]at hr;have hf:=fresh st 0 [] h hl aQ kY ⟨kY,kY⟩ kY;simp only[pU]at hf;exact⟨_,_,_,hr,hf,w.heap.size,_,_,_,Ren.jS _ _ _ _,rfl,grownCap_ge w ys.length 0 e,aA _,λ_=>rfl⟩
 ·obtain⟨kk,cap,ad0,c,hr0,hsv,hnc,hcc,hcap⟩:=hg;have hbl:b'≠l:=by rintro rfl;rw[hl]at hb';cases hb'
  have hok:=h.bx.ok b';rw[hb']at hok;obtain⟨Zl,cap',hr',hle,hcm,hes,hcs⟩:=hok;rw[hr0]at hr';simp only[aI,cZ]at hr';obtain⟨rfl,rfl⟩:=hr';simp only;by_cases hm0:ys.length=0
  ·have hy0:ys=[]:=dL hm0;subst hy0;simp only[lF,kG,mJ]at *;refine⟨sv,w,ρ.set l kk cap,?_,?_,kk,cap,ad0,c,Ren.jS _ _ _ _,hsv,hnc,hcc,hcap⟩
   ·rw[hxv,hsv];exact zo t ty e i ht hi ad0 _ c hnc xb xc
   ·refine h.move hb' hr0 hl hm (wZ.refl _ _) rfl (λ_=>rfl) ⟨kk,cap,Ren.jS _ _ _ _,hle,hcm,hes,hcs⟩
  ·obtain⟨ad,had⟩:∃ad,xb=some ad:=by
    cases hq:xb with
    |none=>exact dO (by rw[hxn hq];rfl) hm0
    |some ad=>exact⟨ad,rfl⟩
   subst had;by_cases hroom:es.length+ys.length<=c
   ·have hc0:cap≠0:=(by omega);have FN:=hcap hc0;subst FN;obtain⟨cs,tg,hw,hs,ho,hrd⟩:=hcs hc0;have hfit:es.length*i.size+us.length<=cs.size:=(by rw[hs,Dw,<- bJ];exact aH _ aQ);have hr:=run_append_room' (P:=P) (w:=w) (ty:=ty) t e tg i ht hi kk es.length c cs hw ad ys.length xc us Dw (hus ad rfl) hone hroom hfit;rw[<- hxv,<- hsv]at hr;refine⟨_,_,ρ.set l kk cap,hr,?_,kk,cap,_,c,Ren.jS _ _ _ _,rfl,hroom,hcc,λ_=>rfl⟩;refine h.move hb' hr0 hl hm (Dc _ _ _) kY (λh=>dO h hc0) ⟨kk,cap,Ren.jS _ _ _ _,by simp;omega,hcm,λx hx=>?_,λ_=>⟨_,tg,setRow_heap w kk cs _ tg _ hw,?_,?_⟩⟩
    ·rcases bg.1 hx with h1|h1
     ·exact hes x h1
     ·exact hys x h1
    ·simp only[kQ,kZ,kW,List.length_drop,fE];omega
    ·have hd1:DC I (cs.toList.take (es.length*i.size)) i.size es:=by
      refine⟨λj u hu=>?_,λi' j c' hc'=>?_⟩
      ·rw[bn]at hu;split at hu
       ·exact ho j u (by simpa using hu)
       ·cases hu
      ·obtain⟨u,hu,hr⟩:=hrd i' j c' hc';have hi':=jd hc';have hj:j<i.size:=(by rw[<- hes (es.getD i' []) (by simp[bu,ai hi'])];exact(ay.1 hc').1);have:(i'+1)*i.size<=es.length*i.size:=aH _ hi';rw[bJ]at this;exact⟨u,by rw[bn,aF aQ];simpa using hu,hr⟩
     have hlen:(cs.toList.take (es.length*i.size)).length=es.length*i.size:=(by simp;omega);have:=((hd1.append Ud hlen).more (vs:=cs.toList.drop (es.length*i.size+us.length)) (λj u hu=>by rw[dS]at hu;exact ho _ u (by simpa using hu))).Xt (cs:=(cs.toList.take (es.length*i.size)++us++cs.toList.drop (es.length*i.size+us.length)).toArray) kY;exact this
   ·
    have hfit:=growslice_fits (need:=es.length+ys.length) (old:=c) (bytes:=i.bytes) aQ hbytes;have hk:=h.kill b';have hkl:(st.rX b' .dead).bx l = .absent:=(by rw[eH.lC,aj (λe=>hbl e.symm)];exact hl);by_cases hc0:cap=0
    ·
     have he0:es=[]:=dL aQ;subst he0;have hcz:c=0:=(by omega);subst hcz;simp only[lF,dF,nN]at *;have hf:=fresh (st.rX b' .dead) 0 [] hk hkl aQ kY ⟨kY,kY⟩ kY;simp only[pU]at hf;cases ad0 with
     | none=>have hr:=run_append_nil (P:=P) w t ty e i z ht hi hz ad ys.length xc us Dw (hus ad rfl) aQ (by simp only[maxLen]at h63;omega) aQ;rw[<- hxv,<- hsv]at hr;exact⟨_,_,_,hr,hf,w.heap.size,_,_,_,Ren.jS _ _ _ _,rfl,grownCap_ge w ys.length 0 e,aA _,λ_=>rfl⟩
     | some q=>have hr:=run_append_grow (P:=P) w t ty e i z ht hi hz q 0 0 [] kY kY ad ys.length xc us Dw (hus ad rfl) aQ (by simp only[maxLen]at h63;omega) (by simpa using hfit);rw[<- hxv,<- hsv]at hr;simp only[dF,pU]at hr;exact⟨_,_,_,hr,hf,w.heap.size,_,_,_,Ren.jS _ _ _ _,rfl,grownCap_ge w ys.length 0 e,aA _,λ_=>rfl⟩
    ·have FN:=hcap hc0;subst FN;obtain⟨cs,tg,hw,hs,ho,hrd⟩:=hcs hc0;have hmn:es.length*i.size<=cs.size:=(by rw[hs];exact aH _ hle);have RQ:(cs.toList.take (es.length*i.size)).length=es.length*i.size:=(by simp;omega);have holds:∀(j:Nat) (u:Value),(cs.toList.take (es.length*i.size))[j]? = some u->w.cell? ((⟨kk,0,none⟩:Addr).add j)=some u:=λj u hu=>by
      rw[bn]at hu;split at hu
      ·rw[Addr.mD];simp at hu;simp[dY,hw,hu]
      ·cases hu
     have hd1:DC I (cs.toList.take (es.length*i.size)) i.size es:=by
      refine⟨λj u hu=>?_,λi' j c' hc'=>?_⟩
      ·rw[bn]at hu;split at hu
       ·exact ho j u (by simpa using hu)
       ·cases hu
      ·obtain⟨u,hu,hr⟩:=hrd i' j c' hc';have hi':=jd hc';have hj:j<i.size:=(by rw[<- hes (es.getD i' []) (by simp[bu,ai hi'])];exact(ay.1 hc').1);have:(i'+1)*i.size<=es.length*i.size:=aH _ hi';rw[bJ]at this;exact⟨u,by rw[bn,aF aQ];simpa using hu,hr⟩
     have hr:=run_append_grow (P:=P) w t ty e i z ht hi hz ⟨kk,0,none⟩ es.length c _ RQ holds ad ys.length xc us Dw (hus ad rfl) aQ (by simp only[maxLen]at h63;omega) hfit;rw[<- hxv,<- hsv]at hr;have hf:=fresh (st.rX b' .dead) c _ hk hkl aQ RQ hd1 hes;exact⟨_,_,_,hr,hf,w.heap.size,_,_,_,Ren.jS _ _ _ _,rfl,grownCap_ge w _ c e,aA _,λ_=>rfl⟩
end
end
section
section
variable {P:Program} {E:Env P} {I:IH} {ρ:Ren} {n:Nat} {st:eH} {a:Act} {w:World}
def JU (l sz bytes:Nat) (s x:AV) (bx:Nat->Box):FR:=match vT sz x bx with
    | some (p,ys)=>match s with
      |.one (.wC _)=>⟨p/\(match bx l with|.absent=>True|_=>False)/\ys.length*(bytes+sz+1)<=2^46,.one (.own l ys.length sz),[(l,.dat sz ys)]⟩
      | .one (.own b n sz')=>match bx b with
        |.dat vM es=>⟨p/\(match bx l with|.absent=>True|_=>False)/\sz'=sz/\vM=sz/\n<=es.length/\(n+ys.length)*(bytes+sz+1)<=2^46/\b≠l,
         .one (.own l (n+ys.length) sz),[(b,.dead),(l,.dat sz (es.take n++ys))]⟩
        |_=>.bad
      |_=>.bad
    |none=>.bad
theorem BH {x:Box}(h:match x with|.absent=>True|_=>False):x = .absent:=by cases x<;>first|rfl|exact h.elim
theorem GX.pfx (h:GX E I ρ n st a w){b sz m:Nat}{es:List (List Cell)}(hb:st.bx b = .dat sz es):GX E I ρ n (st.rX b (.dat sz (es.take m))) a w:=by
 have hu:∀c k,((st.rX b (.dat sz (es.take m))).bx c).uses (ρ c) k->(st.bx c).uses (ρ c) k:=λc k hu=>by
  rw[eH.lC]at hu;split at hu
  ·rename_i e;subst e;rw[hb];exact hu
  ·exact hu
 refine{ h with bx:=⟨λc=>?_,λc c' k hc hc'=>h.bx.inj c c' k (hu c k hc) (hu c' k hc'),λc k hc=>h.bx.fresh c k (hu c k hc)⟩,own:=λc k hc=>h.own c k (hu c k hc),agree:=h.agree,tm:=h.tm,size:=h.size,defers:=h.defers,ve:=h.ve };rw[eH.lC];split
 ·rename_i e;subst e;have hok:=h.bx.ok c;rw[hb]at hok;obtain⟨k,cap,hr,h1,h2,h3,h4⟩:=hok;refine⟨k,cap,hr,by simp;omega,h2,λe he=>h3 e (fJ he),λh0=>?_⟩;obtain⟨cs,e,g1,g2,g3,g4⟩:=h4 h0;refine⟨cs,e,g1,g2,g3,λi j c' hc'=>g4 i j c' ?_⟩;have hi:=jd hc';simp at hi;rw[<- hc']
  congr 1
  simp only[bu];rw[bn,aF aQ]
 ·exact h.bx.ok c
theorem Q7 {o:Oper}{l sz bytes:Nat}{s x:jR}(h:GX E I ρ n st a w)(hc:xE P n o.op sz bytes s x=true)(hm:E.m<=l)(hs:(s.ev st.tm).g=true)(hx:(x.ev st.tm).g=true)
 (gI:(JU l sz bytes (bW st.tm s) (bW st.tm x) st.bx).vc):nY P E n o a w (st.mW (JU l sz bytes (bW st.tm s) (bW st.tm x) st.bx).sets) (JU l sz bytes (bW st.tm s) (bW st.tm x) st.bx).v:=by
 unfold xE at hc;split at hc
 ·rename_i s' x' t t' he;simp only[af,aK,ak]at hc;obtain⟨⟨⟨⟨c1,c2⟩,rfl⟩,h0⟩,ht⟩:=hc;have g1:=jF h c1 hs;have g2:=jF h c2 hx;split at ht
  ·rename_i e hte;split at ht
   ·rename_i i hi;simp only[af,aK]at ht;obtain⟨⟨rfl,rfl⟩,hz⟩:=ht;split at hz
    ·rename_i z hzero;simp only[af,aK]at hz;obtain⟨hzs,hz1⟩:=hz;have fin:∀{v:Value} {w':World},(fQ #[t,t] o.type #[a.eval s',a.eval x']).run P w = .ok v w'->(execOp a.eval o).run P w = .ok (.value v) w':=by
      intro v w' hr;simp only[execOp,he,resolve,invoke,builtin,bC,aZ,aO,jC,bf,kF,hr]
     unfold JU at gI⊢;split at gI
     ·rename_i p ys hsrc;split at gI
      ·rename_i sz' e1;obtain⟨hp,hl,hbig⟩:=gI;rw[e1]at g1;obtain⟨v,w',ρ',hr,hg,hv⟩:=Jm (P:=P) h (l:=l) (es:=[]) (ys:=ys) (b:=none) t o.type e i z hte hi rfl rfl hzero hzs hz1 h0 (BH hl) hm (.inl ⟨rfl,rfl,g1⟩) (src_ok h g2 hsrc hp) (by simpa using hbig);simp only[nN,lF,dF]at hg hv;exact⟨v,w',I,ρ',.inl (fin hr),hg,λ_=>hv⟩
      ·rename_i b m sz' e1;rw[e1]at g1;split at gI
       ·rename_i vM es hb;obtain⟨hp,hl,rfl,rfl,hmn,hbig,hbl⟩:=gI;have hlt:(es.take m).length=m:=(by simp;omega);have h':=h.pfx (m:=m) hb;have hl':(st.rX b (.dat i.size (es.take m))).bx l = .absent:=(by rw[eH.lC,aj (λe=>hbl e.symm)];exact BH hl);obtain⟨v,w',ρ',hr,hg,hv⟩:=Jm (P:=P) h' (l:=l) (es:=es.take m) (ys:=ys) (b:=some b) t o.type e i z hte hi rfl rfl hzero hzs hz1 h0 hl' hm (.inr ⟨b,rfl,by rw[eH.lC,aF rfl],by rw[hlt];exact g1⟩) (src_ok h g2 hsrc hp) (by rw[hlt];exact hbig);rw[hlt]at hv;have hst:(((st.rX b (.dat i.size (es.take m))).rX b .dead).rX l (.dat i.size (es.take m++ys)))=((st.rX b .dead).rX l (.dat i.size (es.take m++ys))):=by
         apply eH.ext'
         ·rfl
         ·funext c;simp only[eH.lC];split
          ·rfl
          ·split<;>rfl
        simp only[hst]at hg;exact⟨v,w',I,ρ',.inl (fin hr),hg,λ_=>hv⟩
       ·exact gI.elim
      ·exact gI.elim
     ·exact gI.elim
    ·cases hz
   ·cases ht
  ·cases ht
 ·cases hc
def copyV (sz:Nat) (d x:AV) (bx:Nat->Box):FR:=match vT sz x bx with
    | some (p,ys)=>match d with
      | .one (.own b n sz')=>match bx b with
        |.dat vM es=>⟨p/\sz'=sz/\vM=sz/\n<=es.length,pX .i64 (di ys.length n:Nat),[(b,.dat sz (splice es 0 (ys.take n)))]⟩
        |_=>.bad
      |.one (.wC _)=>.ok (pX .i64 0)
      |_=>.bad
    |none=>.bad
def A7 (P:Program)(n:Nat)(op:Op)(sz:Nat)(d x:jR):Bool:=
 match op with
 |.call { callee:=.builtin .copy,args:=⟨[d',x']⟩,argTypes:=⟨[t,_]⟩ }=>iM n d' d&&iM n x' x&&D5 P t sz&&decide (0<sz)
 |_=>false
theorem abq (t t' ty e:TypeId)(i:TypeInfo)(ht:P.underlying t=some (.slice e))(hi:P.info? e=some i)(kk m c:Nat)(cur:Array Value)(tg:TypeId)(hg:w.heap[kk]? = some (.cells cur tg (0,0)))
 (ad:Addr) (k c':Nat) (us:List Value) (hl:us.length=di k m*i.size) (hus:∀j u,us[j]? = some u->w.cell? (ad.add j)=some u) (h1:∀u∈us,u.oneCell'=true) (hfit:us.length<=cur.size) :
 (je #[t,t'] ty #[.slice (some ⟨kk,0,none⟩) m c,.slice (some ad) k c']).run P w = .ok (goInt (di k m:Nat)) (w.setRow kk (splice cur.toList 0 us).toArray):=by
 have hf:=run_firstCells_some (P:=P) w i.size (di k m) ad k c' us hl hus;have hst:=run_storeCells_at P kk 0 tg us 0 cur w hg (by simpa using hfit) h1;rw[rY]at hst;simp[je,run_underlying ht,sizeOf,typeInfo,hi,lU,hf,hst]
theorem Bz (t t' ty e:TypeId)(i:TypeInfo)(ht:P.underlying t=some (.slice e))(hi:P.info? e=some i)(b:Option Addr)(m c:Nat)(ad:Option Addr)(k c':Nat)(h:di k m=0) :
 (je #[t,t'] ty #[.slice b m c,.slice ad k c']).run P w = .ok (goInt 0) w:=by
 have hf:(dZ i.size 0 (.slice ad k c')).run P w = .ok #[] w:=by cases ad<;>simp[dZ,loadCells,loadCellsFrom,aZ]
 cases b<;>simp[je,run_underlying ht,sizeOf,typeInfo,hi,lU,h,hf,storeCells]
theorem VL {α:Type}(xs:List α):splice xs 0 []=xs:=by simp[splice]
theorem EK {b:Nat}{x:Box}(h:st.bx b=x):st.rX b x=st:=by
 apply eH.ext'
 ·rfl
 ·funext c;rw[eH.lC];split
  ·rename_i e;rw[e,h]
  ·rfl
theorem XZ {o:Oper}{sz:Nat}{d x:jR}(h:GX E I ρ n st a w)(hc:A7 P n o.op sz d x=true)(hd:(d.ev st.tm).g=true)(hx:(x.ev st.tm).g=true)
 (gI:(copyV sz (bW st.tm d) (bW st.tm x) st.bx).vc):nY P E n o a w (st.mW (copyV sz (bW st.tm d) (bW st.tm x) st.bx).sets) (copyV sz (bW st.tm d) (bW st.tm x) st.bx).v:=by
 unfold A7 at hc;split at hc
 ·rename_i d' x' t t' he;simp only[af,ak]at hc;obtain⟨⟨⟨c1,c2⟩,ht⟩,h0⟩:=hc;have g1:=jF h c1 hd;have g2:=jF h c2 hx;obtain⟨e,i,hte,hi,rfl⟩:=vN ht;have fin:∀{v:Value} {w':World},(je #[t,t'] o.type #[a.eval d',a.eval x']).run P w = .ok v w'->(execOp a.eval o).run P w = .ok (.value v) w':=by
   intro v w' hr;simp only[execOp,he,resolve,invoke,builtin,bC,aZ,aO,jC,bf,kF,hr]
  unfold copyV at gI⊢;split at gI
  ·rename_i p ys hsrc;split at gI
   ·rename_i b m sz' e1;rw[e1]at g1;split at gI
    ·rename_i vM es hb;obtain⟨hp,rfl,rfl,hmn⟩:=gI;have hsrc':=src_ok h g2 hsrc hp;have hys:∀y,y∈ys->y.length=i.size:=(by obtain⟨_,_,_,_,h4,_⟩:=hsrc';exact h4);obtain⟨xb,xc,us,hxv,Dw,hus,hxn,Ud⟩:=Ey hsrc' h0;obtain⟨kk,cap,ad0,c,hr0,hsv,hnc,hcc,hcap⟩:=g1;have hok:=h.bx.ok b;rw[hb]at hok;obtain⟨Zl,cap',hr',hle,hcm,hes,hcs⟩:=hok;rw[hr0]at hr';simp only[aI,cZ]at hr';obtain⟨rfl,rfl⟩:=hr';by_cases hm0:di ys.length m=0
     ·have hr:=Bz (P:=P) (w:=w) t t' o.type e i hte hi ad0 m c xb ys.length xc hm0;rw[<- hxv,<- hsv]at hr;have htk:ys.take m=[]:=by
       apply dL;rw[kW,wP];exact hm0
      rw[htk,VL];refine⟨_,w,I,ρ,.inl (fin hr),?_,λ_=>by rw[hm0];exact uJ _ _⟩;show GX E I ρ n (st.rX b (.dat i.size es)) a w;rw[EK hb];exact h
     ·have hmin:di ys.length m<=ys.length/\di ys.length m<=m:=⟨Nat.min_le_left _ _,Nat.min_le_right _ _⟩;have hc0:cap≠0:=(by omega);have FN:=hcap hc0;subst FN;obtain⟨ad,had⟩:∃ad,xb=some ad:=by
       cases hq:xb with
       |none=>have:=hxn hq;subst this;exact dO rfl hm0
       |some ad=>exact⟨ad,rfl⟩
      subst had;obtain⟨cs,tg,hw,hs,ho,hrd⟩:=hcs hc0;have hmul:di ys.length m*i.size<=ys.length*i.size:=aH _ hmin.1;have GN:di ys.length m*i.size<=cap*i.size:=aH _ aQ;have hul:(us.take (di ys.length m*i.size)).length=di ys.length m*i.size:=(by simp;omega);have aal:0+(us.take (di ys.length m*i.size)).length<=cs.toList.length:=(by have hq:cs.toList.length=cs.size:=fE;omega);have hr:=abq (P:=P) (w:=w) t t' o.type e i hte hi kk m c cs tg hw ad ys.length xc (us.take (di ys.length m*i.size)) hul
       (λj u hu=>by
        rw[bn]at hu;split at hu
        ·exact hus ad rfl j u hu
        ·cases hu)
       (λu hu=>by obtain⟨j,hj⟩:=mY (fJ hu);exact Ud.one j u hj) (by rw[hul];omega)
      rw[<- hxv,<- hsv]at hr;refine⟨_,_,I,ρ,.inl (fin hr),?_,λ_=>uJ _ _⟩;have htl:(ys.take m).length=di ys.length m:=(by rw[kW,wP]);refine h.rX (b:=b) (k:=kk) (by rw[hb];exact⟨cap,hr0,hc0⟩) (.dat i.size (splice es 0 (ys.take m))) (λk' hk'=>?_) (Dc _ _ _) ?_ kY
      ·obtain⟨c',hc',_⟩:=hk';rw[hr0]at hc';simp at hc';exact hc'.1.symm
      ·have hsl:(splice es 0 (ys.take m)).length=es.length:=length_splice _ _ _ (by rw[htl];omega);refine⟨kk,cap,hr0,by rw[hsl];exact hle,hcm,λy hy=>?_,λ_=>⟨_,tg,setRow_heap w kk cs _ tg _ hw,?_,?_,?_⟩⟩
       ·unfold splice at hy;simp only[vF,nN,bg]at hy;rcases hy with h1|h1
        ·exact hys y (fJ h1)
        ·exact hes y (mZ h1)
       ·simp only[kQ];rw[length_splice _ _ _ aal];simpa using hs
       ·intro j u hu;have hu:(splice cs.toList 0 (us.take (di ys.length m*i.size)))[j]? = some u:=(by simpa using hu);rw[kR _ _ _ _ aal,aj aQ]at hu;split at hu
        ·rw[bn]at hu;split at hu
         ·exact Ud.one _ u hu
         ·cases hu
        ·exact ho j u (by simpa using hu)
       ·intro i' j cc zh;have key:∃u,(splice cs.toList 0 (us.take (di ys.length m*i.size)))[i'*i.size+j]? = some u/\Rd I u cc:=by
         have hi':=jd zh;rw[hsl]at hi';rw[kR _ _ _ _ aal,aj aQ,hul];have hget:(splice es 0 (ys.take m)).getD i' []=if i'<di ys.length m then ys.getD i' []else es.getD i' []:=by
          simp only[bu];rw[kR _ _ _ _ (by rw[htl];omega),aj aQ,htl];by_cases hh:i'<di ys.length m
          ·rw[aF aQ,aF hh,bn,aF aQ];rfl
          ·rw[aj aQ,aj hh]
         rw[hget]at zh;by_cases hh:i'<di ys.length m
         ·rw[aF hh]at zh;obtain⟨u,hu,hr⟩:=Ud.rd i' j cc zh;have hj:j<i.size:=by
           have hyi:=jd zh;rw[<- hys (ys.getD i' []) (by simp[bu,ai hyi])];exact(ay.1 zh).1
          have:(i'+1)*i.size<=di ys.length m*i.size:=aH _ hh;rw[bJ]at this;exact⟨u,by rw[aF aQ,bn,aF aQ];simpa using hu,hr⟩
         ·rw[aj hh]at zh;obtain⟨u,hu,hr⟩:=hrd i' j cc zh;have:di ys.length m*i.size<=i'*i.size:=aH _ aQ;exact⟨u,by rw[aj aQ];simpa using hu,hr⟩
        obtain⟨u,hu,hr⟩:=key;exact⟨u,by simpa using hu,hr⟩
    ·exact gI.elim
   ·rename_i sz' e1;rw[e1]at g1;have g1:a.eval d' = .slice none 0 0:=g1;have hgx:∃xb k xc,a.eval x' = .slice xb k xc:=by
     unfold vT at hsrc;split at hsrc
     ·rename_i e2;rw[e2]at g2;obtain⟨b,c,hv,_⟩:=adR g2;exact⟨b,_,c,hv⟩
     ·rename_i e2;rw[e2]at g2;exact⟨none,0,0,g2⟩
     ·rename_i e2;rw[e2]at g2;obtain⟨k,cap,b,c,_,hv,_⟩:=g2;exact⟨b,_,c,hv⟩
     ·rename_i e2;rw[e2]at g2;obtain⟨k,cap,b,c,_,hv,_⟩:=g2;exact⟨b,_,c,hv⟩
     ·cases hsrc
    obtain⟨xb,k,xc,hxv⟩:=hgx;have hr:=Bz (P:=P) (w:=w) t t' o.type e i hte hi none 0 0 xb k xc (Nat.min_zero k);rw[<- hxv,<- g1]at hr;exact⟨_,w,I,ρ,.inl (fin hr),h,λ_=>uJ _ _⟩
   ·exact gI.elim
  ·exact gI.elim
 ·cases hc
end
end
section
section
variable {P:Program} {E:Env P} {I:IH} {ρ:Ren} {n:Nat} {st:eH} {a:Act} {w:World}
theorem Eb {v:Value}{x:AV}{b lo m sz:Nat}{c:Option Nat}(h:GV I ρ v x)(hs:xU x=some (b,lo,m,c,sz)) :
 ∃k cap ad c',ρ b=some (k,cap)/\v = .slice ad m c'/\m<=c'/\lo+c'<=cap/\(∀c0,c=some c0->c'=c0)/\(c'≠0\/(lo=0/\cap≠0)->ad=some ⟨k,lo*sz,none⟩):=by
 unfold xU at hs;split at hs
 ·simp only[aI,cZ]at hs;obtain⟨rfl,rfl,rfl,rfl,rfl⟩:=hs;obtain⟨k,cap,ad,c',h1,h2,h3,h4,h5⟩:=h;refine⟨k,cap,ad,c',h1,h2,h3,aQ,(λ_ e=>by cases e),λhc=>?_⟩;rw[Nat.zero_mul];refine h5 ?_;rcases hc with hc|hc
  ·omega
  ·exact hc.2
 ·simp only[aI,cZ]at hs;obtain⟨rfl,rfl,rfl,rfl,rfl⟩:=hs;exact h
 ·cases hs
def UM (n:Nat)(op:Op)(l:Bool)(x y:jR):Bool:=match op with|.binOp b _ x' y' _=>(match b with|.shl=>l|.shr=> !l|_=>false)&&iM n x' x&&iM n y' y|_=>false
theorem abu {o:Oper}{l:Bool}{x y:jR}(h:GX E I ρ n st a w)(hc:UM n o.op l x y=true)(hx:(x.ev st.tm).g=true)(hy:(y.ev st.tm).g=true)
 (gI:(QG l (bW st.tm x) (bW st.tm y)).vc):oP P E n o a w st (QG l (bW st.tm x) (bW st.tm y)).v:=by
 unfold UM at hc;split at hc
 ·rename_i b t x' y' t' he;simp only[af]at hc;obtain⟨⟨hb,h1⟩,h2⟩:=hc;have g1:=jF h h1 hx;have g2:=jF h h2 hy;unfold QG at gI⊢;split at gI
  ·rename_i k p k' q e1 e2;rw[e1]at g1;rw[e2]at g2;have v1:=rq g1;have v2:=rq g2;have hq:¬q<0:=(by simp only at gI;omega);have hg:=xg (P:=P) b t x' y' k p (.int k' q) w;cases b<;>simp only[kz]at hb
   ·subst hb;exact nY.val h (v:=.int k (k.wrap (p*2^(min q.toNat k.bits)))) (by simp[execOp,he,hg,v1,v2,binOp,Op.shift,hq]) (uJ _ _)
   ·cases l
    ·exact nY.val h (v:=.int k (p.fdiv (2^(min q.toNat k.bits)))) (by simp[execOp,he,hg,v1,v2,binOp,Op.shift,hq]) (uJ _ _)
    ·cases hb
  ·exact gI.elim
 ·cases hc
def PD (P:Program)(n:Nat)(op:Op)(x:jR):Bool:=
 match op with
 |.call { callee:=.builtin .cap,args:=⟨[x']⟩,argTypes:=⟨[t]⟩ }=>iM n x' x&&G5 P t
 |_=>false
theorem XU {o:Oper}{x:jR}(h:GX E I ρ n st a w)(hc:PD P n o.op x=true)(hx:(x.ev st.tm).g=true)(gI:(NH (bW st.tm x)).vc):oP P E n o a w st (NH (bW st.tm x)).v:=by
 unfold PD at hc;split at hc
 ·rename_i x' t he;simp only[af]at hc;have g:=jF h hc.1 hx;obtain⟨e,ht⟩:=Fe hc.2;unfold NH at gI⊢;split at gI
  ·rename_i b lo m c sz e1;rw[e1]at g;obtain⟨k,cap,ad,c',hr,hv,hm,hcc,hcx,ha⟩:=g;have:=hcx c rfl;subst this;exact nY.val h (by simp[execOp,he,resolve,invoke,builtin,Builtin.cap_,run_underlying ht,hv,goInt]) (uJ _ _)
  ·rename_i sz e1;rw[e1]at g;have g:a.eval x' = .slice none 0 0:=g;exact nY.val h (by simp[execOp,he,resolve,invoke,builtin,Builtin.cap_,run_underlying ht,g,goInt]) (uJ _ _)
  ·exact gI.elim
 ·cases hc
def Iz (P:Program)(n:Nat)(op:Op)(sz:Nat)(x:jR)(lo hi:Option jR):Bool:=match op with|.slice t x' lo' hi' none=>iM n x' x&&Iu n lo' lo&&Iu n hi' hi&&D5 P t sz|_=>false
theorem TI {o:Oper}{sz:Nat}{x:jR}{lo hi:Option jR}(h:GX E I ρ n st a w)(hc:Iz P n o.op sz x lo hi=true)(hx:(x.ev st.tm).g=true)
 (hgl:∀x,x∈lo.toList->(x.ev st.tm).g=true) (hgh:∀x,x∈hi.toList->(x.ev st.tm).g=true)
 (gI:(Dh sz (bW st.tm x) (bnd (bW st.tm) lo 0) (bnd (bW st.tm) hi)).vc):oP P E n o a w st (Dh sz (bW st.tm x) (bnd (bW st.tm) lo 0) (bnd (bW st.tm) hi)).v:=by
 unfold Iz at hc;split at hc
 ·rename_i t x' lo' hi' he;simp only[af]at hc;have g1:=jF h hc.1.1.1 hx;obtain⟨e,ti,ht,hti,hsz⟩:=vN hc.2;unfold Dh at gI⊢;split at gI
  ·rename_i b l m c sz' hsb;split at gI
   ·rename_i p q e2 e3;obtain⟨rfl,h0,h1,h2⟩:=gI;obtain⟨k,cap,ad,c',hr,hv,hm,hcc,hcx,ha⟩:=Eb g1 hsb;have hqc:q<=c':=by
     cases c with
     |none=>simp only at h2;omega
     |some c0=>have:=hcx c0 rfl;simp only at h2;omega
    have b1:=BJ h hc.1.1.2 hgl e2;have b2:=BJ h hc.1.2 hgh e3;have hb:=xh (P:=P) (w:=w) true m c' (lo'.map a.eval) (hi'.map a.eval) (p:=p) (q:=q) (EG b1) (EG b2) h0 h1 hqc;have hrun:(execOp a.eval o).run P w = .ok (.value (.slice (if c'=p.toNat then ad else ad.map (·.add (p.toNat*sz'))) (q.toNat-p.toNat) (c'-p.toNat))) w:=by simp only[execOp,he,qN,vw,hv,uO];simp[run_underlying ht];rw[hb];simp[sizeOf,typeInfo,hti,hsz]
    refine nY.val h hrun ⟨k,cap,_,_,hr,by congr 1;omega,aQ,aQ,λc0 hc0=>?_,λzh=>?_⟩
    ·cases c with
     |none=>cases hc0
     |some c1=>have:=hcx c1 rfl;simp at hc0;omega
    ·by_cases hcp:c'=p.toNat
     ·rw[aF hcp];have hl0:l=0/\p.toNat=0/\cap≠0:=(by omega);have:=ha (.inr ⟨hl0.1,hl0.2.2⟩);rw[this,hl0.1,hl0.2.1]
     ·rw[aj hcp,ha (.inl aQ)];simp only[iZ];rw[Addr.mD,bJ]
   ·exact gI.elim
  ·exact gI.elim
 ·cases hc
theorem TA (len cap:Nat){k1 k2 k3:IntKind}{p q m:Int}(h0:0<=p)(h1:p<=q)(h2:q<=m)(h3:m<=cap) :
 (rJ true len cap (some (.int k1 p)) (some (.int k2 q)) (some (.int k3 m))).run P w = .ok (p.toNat,q.toNat,m.toNat) w:=by
 simp (disch:=omega) [rJ,run_sliceBound]
def UN (P:Program)(n:Nat)(op:Op)(sz:Nat)(x p q m:jR):Bool:=match op with|.slice t x' (some p') (some q') (some m')=>iM n x' x&&iM n p' p&&iM n q' q&&iM n m' m&&D5 P t sz|_=>false
theorem abv {o:Oper}{sz:Nat}{x p q m:jR}(h:GX E I ρ n st a w)(hc:UN P n o.op sz x p q m=true)(hx:(x.ev st.tm).g=true)(hp:(p.ev st.tm).g=true)(hq:(q.ev st.tm).g=true)(hm:(m.ev st.tm).g=true)
 (gI:(VG sz (bW st.tm x) (bW st.tm p) (bW st.tm q) (bW st.tm m)).vc):oP P E n o a w st (VG sz (bW st.tm x) (bW st.tm p) (bW st.tm q) (bW st.tm m)).v:=by
 unfold UN at hc;split at hc
 ·rename_i t x' p' q' m' he;simp only[af]at hc;obtain⟨⟨⟨⟨c1,c2⟩,c3⟩,c4⟩,c5⟩:=hc;have g1:=jF h c1 hx;have g2:=jF h c2 hp;have g3:=jF h c3 hq;have g4:=jF h c4 hm;obtain⟨e,ti,ht,hti,hsz⟩:=vN c5;unfold VG at gI⊢;split at gI
  ·rename_i b l len c sz' k1 p0 k2 q0 k3 m0 hsb e2 e3 e4;obtain⟨rfl,h0,h1,h2,h3⟩:=gI;rw[e2]at g2;rw[e3]at g3;rw[e4]at g4;have v2:=rq g2;have v3:=rq g3;have v4:=rq g4;obtain⟨k,cap,ad,c',hr,hv,hlm,hcc,hcx,ha⟩:=Eb g1 hsb;have hmc:m0<=c':=by
    cases c with
    |none=>simp only at h3;omega
    |some c0=>have:=hcx c0 rfl;simp only at h3;omega
   have hb:=TA (P:=P) (w:=w) len c' (k1:=k1) (k2:=k2) (k3:=k3) h0 h1 h2 hmc;refine nY.val h (v:=.slice (if m0.toNat=p0.toNat then ad else ad.map (·.add (p0.toNat*sz'))) (q0.toNat-p0.toNat) (m0.toNat-p0.toNat)) ?_ rfl;simp only[execOp,he,qN,vw,hv,iZ,v2,v3,v4];simp[run_underlying ht];rw[hb];simp[sizeOf,typeInfo,hti,hsz]
  ·exact gI.elim
 ·cases hc
theorem II {α:Type}(xs ys:List α)(off j:Nat)(h:off<=xs.length):(splice xs off ys)[j]? = if j<off then xs[j]? else if j<off+ys.length then ys[j-off]? else xs[j]?:=by
 unfold splice;have h1:(xs.take off).length=off:=by simp;omega
 by_cases hj:j<off
 ·rw[aF hj,nX,aX aQ,bn,aF hj]
 ·rw[aj hj,nX,bZ aQ,h1];by_cases hk:j<off+ys.length
  ·rw[aF hk,aX aQ]
  ·rw[aj hk,bZ aQ,dS]
   congr 1;omega
theorem Qz (h:GX E I ρ n st a w){b kk cap sz lo:Nat}{es ys:List (List Cell)}{us:List Value}(hb:st.bx b = .dat sz es)(hr:ρ b=some (kk,cap))(h0:0<sz)(hlo:lo<=es.length)(hfit:lo+ys.length<=cap)
 (hc0:cap≠0) (hys:∀y,y∈ys->y.length=sz) (hul:us.length=ys.length*sz) (hd:DC I us sz ys) :
 ∃cs tg,w.heap[kk]? = some (.cells cs tg (0,0))/\cs.size=cap*sz/\GX E I ρ n (st.rX b (.dat sz (splice es lo ys))) a (w.setRow kk (splice cs.toList (lo*sz) us).toArray):=by
 have hok:=h.bx.ok b;rw[hb]at hok;obtain⟨Zl,cap',hr',hle,hcm,hes,hcs⟩:=hok;rw[hr]at hr';simp only[aI,cZ]at hr';obtain⟨rfl,rfl⟩:=hr';obtain⟨cs,tg,hw,hs,ho,hrd⟩:=hcs hc0;refine⟨cs,tg,hw,hs,?_⟩;have hmul:(lo+ys.length)*sz<=cap*sz:=aH _ hfit;rw[bJ]at hmul;have aam:lo*sz+us.length<=cs.toList.length:=by have hq:cs.toList.length=cs.size:=fE;omega
 have hlen:(splice es lo ys).length<=cap:=by unfold splice;simp;omega
 refine h.rX (b:=b) (k:=kk) (by rw[hb];exact⟨cap,hr,hc0⟩) (.dat sz (splice es lo ys)) (λk' hk'=>?_) (Dc _ _ _) ?_ kY
 ·obtain⟨c',hc',_⟩:=hk';rw[hr]at hc';simp at hc';exact hc'.1.symm
 ·refine⟨kk,cap,hr,hlen,hcm,λy hy=>?_,λ_=>⟨_,tg,setRow_heap w kk cs _ tg _ hw,?_,?_,?_⟩⟩
  ·unfold splice at hy;simp only[bg]at hy;rcases hy with(h1|h1)|h1
   ·exact hes y (fJ h1)
   ·exact hys y h1
   ·exact hes y (mZ h1)
  ·simp only[kQ];rw[length_splice _ _ _ aam];simpa using hs
  ·intro j u hu;have hu:(splice cs.toList (lo*sz) us)[j]? = some u:=(by simpa using hu);rw[kR _ _ _ _ aam]at hu;split at hu
   ·exact ho j u (by simpa using hu)
   ·split at hu
    ·exact hd.one _ u hu
    ·exact ho j u (by simpa using hu)
  ·intro i' j cc zh;have key:∃u,(splice cs.toList (lo*sz) us)[i'*sz+j]? = some u/\Rd I u cc:=by
    have hget:(splice es lo ys).getD i' []=if i'<lo then es.getD i' []else if i'<lo+ys.length then ys.getD (i'-lo) []else es.getD i' []:=by
     simp only[bu];rw[II _ _ _ _ hlo];split
     ·rfl
     ·split<;>rfl
    rw[hget]at zh;rw[kR _ _ _ _ aam];by_cases h1:i'<lo
    ·rw[aF h1]at zh;obtain⟨u,hu,hr'⟩:=hrd i' j cc zh;have hi':=jd zh;have hj:j<sz:=(by rw[<- hes (es.getD i' []) (by simp[bu,ai hi'])];exact(ay.1 zh).1);have:(i'+1)*sz<=lo*sz:=aH _ h1;rw[bJ]at this;exact⟨u,by rw[aF aQ];simpa using hu,hr'⟩
    ·rw[aj h1]at zh;by_cases h2:i'<lo+ys.length
     ·rw[aF h2]at zh;obtain⟨u,hu,hr'⟩:=hd.rd (i'-lo) j cc zh;have hyi:=jd zh;have hj:j<sz:=(by rw[<- hys (ys.getD (i'-lo) []) (by simp[bu,ai hyi])];exact(ay.1 zh).1);have e1:lo*sz<=i'*sz:=aH _ aQ;have e2:(i'-lo)*sz=i'*sz-lo*sz:=Nat.sub_mul _ _ _;have e3:(i'-lo+1)*sz<=ys.length*sz:=aH _ aQ;rw[bJ]at e3;exact⟨u,by rw[aj aQ,aF aQ,<- hu];congr 1;omega,hr'⟩
     ·rw[aj h2]at zh;obtain⟨u,hu,hr'⟩:=hrd i' j cc zh;have e1:(lo+ys.length)*sz<=i'*sz:=aH _ aQ;rw[bJ]at e1;exact⟨u,by rw[aj aQ,aj aQ];simpa using hu,hr'⟩
   obtain⟨u,hu,hr'⟩:=key;exact⟨u,by simpa using hu,hr'⟩
theorem Eu {α:Type}(xs:List α)(k:Nat)(h:k<=xs.length):splice xs k []=xs:=by simp[splice]
theorem YN (t t' ty e:TypeId)(i:TypeInfo)(ht:P.underlying t=some (.slice e))(hi:P.info? e=some i)(kk off m c:Nat)(cur:Array Value)(tg:TypeId)(hg:w.heap[kk]? = some (.cells cur tg (0,0)))
 (ad:Addr) (k c':Nat) (us:List Value) (hl:us.length=di k m*i.size) (hus:∀j u,us[j]? = some u->w.cell? (ad.add j)=some u) (h1:∀u∈us,u.oneCell'=true) (hfit:off+us.length<=cur.size) :
 (je #[t,t'] ty #[.slice (some ⟨kk,off,none⟩) m c,.slice (some ad) k c']).run P w = .ok (goInt (di k m:Nat)) (w.setRow kk (splice cur.toList off us).toArray):=by
 have hf:=run_firstCells_some (P:=P) w i.size (di k m) ad k c' us hl hus;have hst:=run_storeCells_at P kk off tg us 0 cur w hg (by simpa using hfit) h1;rw[rY]at hst;simp[je,run_underlying ht,sizeOf,typeInfo,hi,lU,hf,hst]
theorem Y5 (h:GX E I ρ n st a w){v:Value}{x:AV}{sz m:Nat}{p:Prop}{ys:List (List Cell)}(hv:GV I ρ v x)(hs:vT sz (truncS m x) st.bx=some (p,ys))(hp:p) :
 ∃xb kx xc,v = .slice xb kx xc/\di ys.length m=di kx m/\Src I w (.slice xb ys.length xc) sz ys:=by
 have other:truncS m x=x->∃xb kx xc,v = .slice xb kx xc/\di ys.length m=di kx m/\Src I w (.slice xb ys.length xc) sz ys:=by intro e;rw[e]at hs;have hS:=src_ok h hv hs hp;obtain⟨b,cap,hvv,hr⟩:=hS;exact⟨b,ys.length,cap,hvv,rfl,b,cap,rfl,hr⟩
 rcases x with c|_|_
 ·cases c
  case sub b lo n' c sz'=>obtain⟨k,cap,ad,c',h1,h2,h3,h4,h5⟩:=hv;subst h2;have hg:GV I ρ (.slice ad (min n' m) c') (.one (.sub b lo (min n' m) c sz')):=⟨k,cap,ad,c',h1,rfl,aQ,h4,h5⟩;have hS:=src_ok h hg hs hp;obtain⟨b',cap',hvv,hr⟩:=hS;simp only[Value.slice.injEq]at hvv;obtain⟨rfl,e2,rfl⟩:=hvv;refine⟨ad,n',c',rfl,?_,ad,c',rfl,hr⟩;show min ys.length m=min n' m;omega
  all_goals exact other rfl
 all_goals exact other rfl
theorem YV {o:Oper}{sz:Nat}{d x:jR}(h:GX E I ρ n st a w)(hc:A7 P n o.op sz d x=true)(hd:(d.ev st.tm).g=true)(hx:(x.ev st.tm).g=true)
 (gI:(OT sz (bW st.tm d) (bW st.tm x) st.bx).vc):nY P E n o a w (st.mW (OT sz (bW st.tm d) (bW st.tm x) st.bx).sets) (OT sz (bW st.tm d) (bW st.tm x) st.bx).v:=by
 unfold A7 at hc;split at hc
 ·rename_i d' x' t t' he;simp only[af,ak]at hc;obtain⟨⟨⟨c1,c2⟩,ht⟩,h0⟩:=hc;have g1:=jF h c1 hd;have g2:=jF h c2 hx;obtain⟨e,i,hte,hi,rfl⟩:=vN ht;have fin:∀{v:Value} {w':World},(je #[t,t'] o.type #[a.eval d',a.eval x']).run P w = .ok v w'->(execOp a.eval o).run P w = .ok (.value v) w':=by
   intro v w' hr;simp only[execOp,he,resolve,invoke,builtin,bC,aZ,aO,jC,bf,kF,hr]
  unfold OT at gI⊢;split at gI
  ·rename_i b lo m c0 sz' hsb;split at gI
   ·rename_i p ys hsrc;split at gI
    ·rename_i vM es hb;obtain⟨hp,rfl,rfl,hlo⟩:=gI;obtain⟨xb0,kx,xc0,agm,hmk,hsrc'⟩:=Y5 h g2 hsrc hp;have hys:∀y,y∈ys->y.length=i.size:=(by obtain⟨_,_,_,_,h4,_⟩:=hsrc';exact h4);obtain⟨xb,xc,us,hxv,Dw,hus,hxn,Ud⟩:=Ey hsrc' h0;cases hxv;obtain⟨kk,cap,ad0,c,hr0,hsv,hnc,hcc,_,hcap⟩:=Eb g1 hsb;by_cases hm0:di ys.length m=0
     ·have hr:=Bz (P:=P) (w:=w) t t' o.type e i hte hi ad0 m c xb0 kx xc0 (hmk.symm.trans hm0);rw[<- agm,<- hsv]at hr;have htk:ys.take m=[]:=by
       apply dL;rw[kW,wP];exact hm0
      rw[htk,Eu _ _ hlo];refine⟨_,w,I,ρ,.inl (fin hr),?_,λ_=>by rw[hm0];exact uJ _ _⟩;show GX E I ρ n (st.rX b (.dat i.size es)) a w;rw[EK hb];exact h
     ·have hmin:di ys.length m<=ys.length/\di ys.length m<=m:=⟨Nat.min_le_left _ _,Nat.min_le_right _ _⟩;have FN:=hcap (.inl aQ);subst FN;obtain⟨ad,had⟩:∃ad,xb0=some ad:=by
       cases hq:xb0 with
       |none=>have:=hxn hq;subst this;exact dO rfl hm0
       |some ad=>exact⟨ad,rfl⟩
      subst had;have htl:(ys.take m).length=di ys.length m:=(by rw[kW,wP]);have hmul:di ys.length m*i.size<=ys.length*i.size:=aH _ hmin.1;have hul:(us.take (di ys.length m*i.size)).length=di ys.length m*i.size:=(by simp;omega);have hdt:DC I (us.take (di ys.length m*i.size)) i.size (ys.take m):=by
       refine⟨λj u hu=>?_,λi' j cc zh=>?_⟩
       ·rw[bn]at hu;split at hu
        ·exact Ud.one _ u hu
        ·cases hu
       ·have hi':=jd zh;rw[htl]at hi';have aez:(ys.getD i' [])[j]? = some cc:=by
         rw[<- zh];congr 1;simp only[bu];rw[bn,aF aQ]
        obtain⟨u,hu,hr⟩:=Ud.rd i' j cc aez;have hyi:=jd aez;have hj:j<i.size:=(by rw[<- hys (ys.getD i' []) (by simp[bu,ai hyi])];exact(ay.1 aez).1);have:(i'+1)*i.size<=di ys.length m*i.size:=aH _ hi';rw[bJ]at this;exact⟨u,by rw[bn,aF aQ];exact hu,hr⟩
      obtain⟨cs,tg,hw,hs,hg⟩:=Qz h hb hr0 h0 hlo (ys:=ys.take m) (us:=us.take (di ys.length m*i.size)) (by rw[htl];omega) aQ (λy hy=>hys y (fJ hy)) (by rw[hul,htl]) hdt;have GN:(lo+di ys.length m)*i.size<=cap*i.size:=aH _ aQ;rw[bJ]at GN;have hr:=YN (P:=P) (w:=w) t t' o.type e i hte hi kk (lo*i.size) m c cs tg hw ad kx xc0 (us.take (di ys.length m*i.size)) (hmk▸hul)
       (λj u hu=>by
        rw[bn]at hu;split at hu
        ·exact hus ad rfl j u hu
        ·cases hu)
       (λu hu=>by obtain⟨j,hj⟩:=mY (fJ hu);exact Ud.one j u hj) (by rw[hul,hs];exact GN)
      rw[<- agm,<- hsv]at hr;exact⟨_,_,I,ρ,.inl (fin hr),hg,λ_=>by rw[<- hmk];exact uJ _ _⟩
    ·exact gI.elim
   ·exact gI.elim
  ·exact gI.elim
 ·cases hc
def Gz (P:Program)(n:Nat)(op:Op)(sz:Nat)(zs:List Cell)(x:jR):Bool:=
 match op with
 | .call { callee:=.builtin .clear,args:=⟨[x']⟩,argTypes:=⟨[t]⟩ }=>iM n x' x&&decide (0<sz)&&zs.length==sz&&(match P.underlying t with
   |some (.slice e)=>(match P.info? e with|some i=>i.size==sz&&(match i.zero with|some z=>z.cells.size==sz&&Dl z.cells.toList zs|none=>false)|none=>false)
   |_=>false)
 |_=>false
theorem Ji {zs:List Cell}{z:Array Value}{sz m:Nat}(hz:Dl z.toList zs=true)(hzs:z.size=sz)(hl:zs.length=sz)(h0:0<sz) :
 (bT z m).toList.length=m*sz/\DC I (bT z m).toList sz (bG m zs):=by
 have hsz:(bT z m).size=m*sz:=by simp[bT,hzs]
 refine⟨by simpa using hsz,?_⟩;have rc:=Ja (I:=I) (N:=m*sz) (m:=m) hz hl h0 (aA _) (cs:=(nG (m*sz)).map (z[· % z.size]!)) rfl;have he:(bT z m)=(nG (m*sz)).map (z[· % z.size]!):=by unfold bT;rw[hzs]
 rw[he];exact⟨λj u hu=>rc.1 j u (by rw[ou]at hu;exact hu),λi' j c hc=>by obtain⟨u,hu,hr⟩:=rc.2 i' j c hc;exact⟨u,by rw[ou];exact hu,hr⟩⟩
theorem YT {o:Oper}{sz:Nat}{zs:List Cell}{x:jR}(h:GX E I ρ n st a w)(hc:Gz P n o.op sz zs x=true)(hx:(x.ev st.tm).g=true)
 (gI:(OQ sz zs (bW st.tm x) st.bx).vc):nY P E n o a w (st.mW (OQ sz zs (bW st.tm x) st.bx).sets) (OQ sz zs (bW st.tm x) st.bx).v:=by
 unfold Gz at hc;split at hc
 ·rename_i x' t he;simp only[af,ak,aK]at hc;obtain⟨⟨⟨c1,h0⟩,hzl⟩,ht⟩:=hc;have g1:=jF h c1 hx;split at ht
  ·rename_i e hte;split at ht
   ·rename_i i hi;simp only[af,aK]at ht;obtain⟨hisz,hz⟩:=ht;split at hz
    ·rename_i z hzero;simp only[af,aK]at hz;obtain⟨hzs,hzd⟩:=hz;have fin:∀{v:Value} {w':World},(wV #[t] o.type #[a.eval x']).run P w = .ok v w'->(execOp a.eval o).run P w = .ok (.value v) w':=by
      intro v w' hr;simp only[execOp,he,resolve,invoke,builtin,bC,aZ,aO,jC,bf,kF,hr]
     unfold OQ at gI⊢;split at gI
     ·rename_i b lo m c0 sz' hsb;split at gI
      ·rename_i vM es hb;obtain⟨rfl,rfl,hlo⟩:=gI;obtain⟨kk,cap,ad0,c,hr0,hsv,hnc,hcc,_,hcap⟩:=Eb g1 hsb;have agk:∀{ρ':Ren},GV I ρ' (.tuple #[]) (.Bl []):=λ{ρ'}=>⟨#[],rfl,rfl,λj v p hv hp=>by simp at hp⟩;by_cases hm0:m=0
       ·subst hm0;rw[List.replicate_zero,Eu _ _ hlo];refine⟨.tuple #[],w,I,ρ,.inl (fin ?_),?_,λ_=>agk⟩
        ·rw[hsv];cases ad0<;>simp[wV,run_underlying hte]
        ·show GX E I ρ n (st.rX b (.dat vM es)) a w;rw[EK hb];exact h
       ·have FN:=hcap (.inl aQ);subst FN;obtain⟨aeH,acZ⟩:=Ji (I:=I) (m:=m) hzd hzs hzl h0;obtain⟨cs,tg,hw,hs,hg⟩:=Qz h hb hr0 h0 hlo (ys:=bG m zs) (us:=(bT z.cells m).toList) (by simp;omega) aQ (λy hy=>by rw[nC hy,hzl]) (by simpa using aeH) acZ;have GN:(lo+m)*vM<=cap*vM:=aH _ aQ;rw[bJ]at GN;have hst:=run_storeCells_at P kk (lo*vM) tg (bT z.cells m).toList 0 cs w hw (by rw[aeH];simpa[hs]using GN) (λu hu=>by obtain⟨j,hj⟩:=mY hu;exact acZ.one j u hj);rw[rY]at hst;obtain⟨m',rfl⟩:∃m',m=m'+1:=⟨m-1,aQ⟩;refine⟨.tuple #[],_,I,ρ,.inl (fin ?_),hg,λ_=>agk⟩;rw[hsv];simp[wV,run_underlying hte,zeroValue,typeInfo,hi,hzero,hst]
      ·exact gI.elim
     ·exact gI.elim
    ·cases hz
   ·cases ht
  ·cases ht
 ·cases hc
theorem NQ (t ty e tg:TypeId)(i:TypeInfo)(ht:P.underlying t=some (.slice e))(hi:P.info? e=some i)
 (g off sLen sCap:Nat) (cur:Array Value) (hg:w.heap[g]? = some (.cells cur tg (0,0)))
 (ad:Addr) (m c:Nat) (news:List Value) (hl:news.length=m*i.size) (hnews:∀j u,news[j]? = some u->w.cell? (ad.add j)=some u) (h1:∀u∈news,u.oneCell'=true)
 (hroom:sLen+m<=sCap) (hfit:off+sLen*i.size+news.length<=cur.size) :
 (fQ #[t,t] ty #[.slice (some ⟨g,off,none⟩) sLen sCap,.slice (some ad) m c]).run P w =
  .ok (.slice (some ⟨g,off,none⟩) (sLen+m) sCap) (w.setRow g (splice cur.toList (off+sLen*i.size) news).toArray):=by
 have hf:=run_firstCells_some (P:=P) w i.size m ad m c news hl hnews;have hst:=run_storeCells_at P g (off+sLen*i.size) tg news 0 cur w hg (by simpa using hfit) h1;rw[rY]at hst;simp[fQ,run_underlying ht,sizeOf,typeInfo,hi,lU,hroom,hf,Addr.mD,hst]
theorem YR {o:Oper}{l sz bytes:Nat}{s x:jR}(h:GX E I ρ n st a w)(hc:xE P n o.op sz bytes s x=true)(hm:E.m<=l)(hs:(s.ev st.tm).g=true)(hx:(x.ev st.tm).g=true)
 (gI:(OO l sz bytes (bW st.tm s) (bW st.tm x) st.bx).vc):nY P E n o a w (st.mW (OO l sz bytes (bW st.tm s) (bW st.tm x) st.bx).sets) (OO l sz bytes (bW st.tm s) (bW st.tm x) st.bx).v:=by
 unfold xE at hc;split at hc
 ·rename_i s' x' t t' he;simp only[af,aK,ak]at hc;obtain⟨⟨⟨⟨c1,c2⟩,rfl⟩,h0⟩,ht⟩:=hc;have g1:=jF h c1 hs;have g2:=jF h c2 hx;split at ht
  ·rename_i e hte;split at ht
   ·rename_i i hi;simp only[af,aK]at ht;obtain⟨⟨rfl,rfl⟩,hz⟩:=ht;split at hz
    ·rename_i z hzero;simp only[af,aK]at hz;obtain⟨hzs,hz1⟩:=hz;have fin:∀{v:Value} {w':World},(fQ #[t,t] o.type #[a.eval s',a.eval x']).run P w = .ok v w'->(execOp a.eval o).run P w = .ok (.value v) w':=by
      intro v w' hr;simp only[execOp,he,resolve,invoke,builtin,bC,aZ,aO,jC,bf,kF,hr]
     unfold OO at gI⊢;split at gI
     ·rename_i p ys b lo m c sz' hsrc e1;split at gI
      ·rename_i vM es hb;obtain⟨kk,cap,ad0,c',hr0,hsv,hnc,hcc,hcx,hcap⟩:=Eb (c:=some c) (b:=b) (lo:=lo) (m:=m) (sz:=sz') g1 (by rw[e1];rfl);have:=hcx c rfl;subst this;split at gI
       ·rename_i hroom;rw[aF hroom];obtain⟨hp,rfl,rfl,hlo⟩:=gI;have hsrc':=src_ok h g2 hsrc hp;have hys:∀y,y∈ys->y.length=i.size:=(by obtain⟨_,_,_,_,h4,_⟩:=hsrc';exact h4);obtain⟨xb,xc,us,hxv,Dw,hus,hxn,Ud⟩:=Ey hsrc' h0;by_cases hm0:ys.length=0
        ·have hy0:ys=[]:=dL hm0;subst hy0;rw[Eu _ _ hlo];have hr:=zo (P:=P) (w:=w) t o.type e i hte hi ad0 m c' hnc xb xc;rw[lF]at hxv;rw[<- hxv,<- hsv]at hr;refine⟨_,w,I,ρ,.inl (fin hr),?_,λ_=>⟨kk,cap,ad0,c',hr0,hsv,by simpa using hnc,hcc,(λc0 hc0=>by cases hc0;rfl),hcap⟩⟩;show GX E I ρ n (st.rX b (.dat i.size es)) a w;rw[EK hb];exact h
        ·have FN:=hcap (.inl aQ);subst FN;obtain⟨ad,had⟩:∃ad,xb=some ad:=by
          cases hq:xb with
          |none=>exact dO (by rw[hxn hq];rfl) hm0
          |some ad=>exact⟨ad,rfl⟩
         subst had;obtain⟨cs,tg,hw,hss,hg⟩:=Qz h hb hr0 h0 hlo (ys:=ys) (us:=us) aQ aQ hys Dw Ud;have GN:(lo+m+ys.length)*i.size<=cap*i.size:=aH _ aQ;simp only[bJ]at GN;have hr:=NQ (P:=P) (w:=w) t o.type e tg i hte hi kk (lo*i.size) m c' cs hw ad ys.length xc us Dw (hus ad rfl) (λu hu=>by obtain⟨j,hj⟩:=mY hu;exact Ud.one j u hj) hroom (by rw[Dw,hss];exact GN);rw[<- hxv,<- hsv,<- bJ]at hr;exact⟨_,_,I,ρ,.inl (fin hr),hg,λ_=>⟨kk,cap,_,c',hr0,rfl,hroom,hcc,(λc0 hc0=>by cases hc0;rfl),λ_=>rfl⟩⟩
       ·rename_i hroom;rw[aj hroom];obtain⟨hp,rfl,rfl,hlo,hl,hbig⟩:=gI;have hsrc':=src_ok h g2 hsrc hp;have hys:∀y,y∈ys->y.length=i.size:=(by obtain⟨_,_,_,_,h4,_⟩:=hsrc';exact h4);obtain⟨xb,xc,us,hxv,Dw,hus,hxn,Ud⟩:=Ey hsrc' h0;have hok:=h.bx.ok b;rw[hb]at hok;obtain⟨Zl,cap',hr',hle,hcm,hes,hcs⟩:=hok;rw[hr0]at hr';simp only[aI,cZ]at hr';obtain⟨rfl,rfl⟩:=hr';have hmul:(m+ys.length)*(i.bytes+i.size+1)=(m+ys.length)*i.bytes+(m+ys.length)*i.size+(m+ys.length):=(by rw[sD,sD,AP]);have hbytes:(m+ys.length)*i.bytes<=140737488355328:=(by omega);have h63:m+ys.length<=maxLen:=(by simp only[maxLen];omega);have hm0:ys.length≠0:=(by omega);obtain⟨ad,had⟩:∃ad,xb=some ad:=by
         cases hq:xb with
         |none=>exact dO (by rw[hxn hq];rfl) hm0
         |some ad=>exact⟨ad,rfl⟩
        subst had;have hzc:∀(q:Nat) (j:Nat) (u:Value),(bT z.cells q).toList[j]? = some u->u.oneCell'=true:=by
         intro q j u hu;simp only[bT,ou,jZ]at hu;by_cases hj:j<q*z.cells.size
         ·rw[kM,aF hj]at hu;simp only[iZ,aI]at hu;have hlt:j%z.cells.size<z.cells.size:=qV _ aQ;rw[getElem!_pos z.cells _ hlt]at hu;rw[<- hu];exact aB.1 hz1 _ kY
         ·rw[kM,aj hj]at hu;cases hu
        have hl':=BH hl;have hsub:∀y,y∈(es.drop lo).take m->y.length=i.size:=λy hy=>hes y (mZ (fJ hy));have hsl:((es.drop lo).take m).length=m:=(by simp;omega);have fresh:∀(old:Nat) (olds:List Value),old<m+ys.length->olds.length=m*i.size->DC I olds i.size ((es.drop lo).take m) ->
         GX E I (ρ.set l w.heap.size (grownCap w (m+ys.length) old e)) n (st.rX l (.dat i.size ((es.drop lo).take m++ys))) a
          (w.drew.alloc (.cells (olds.toArray++us.toArray++bT z.cells (grownCap w (m+ys.length) old e-(m+ys.length))) e)):=by
         intro old olds ho hol hdo;have hge:=grownCap_ge w (m+ys.length) old e;have hcm:grownCap w (m+ys.length) old e<=maxLen:=grownCap_le_maxLen w _ old e h63;have hdc:=((hdo.append Ud (by rw[hsl];exact hol)).more (hzc (grownCap w (m+ys.length) old e-(m+ys.length)))).Xt (cs:=olds.toArray++us.toArray++bT z.cells (grownCap w (m+ys.length) old e-(m+ys.length))) kY;refine EI h.drew hl' hm _ e _ i.size ((es.drop lo).take m++ys) ?_ (by rw[kZ,hsl];exact hge) hcm (λx hx=>?_) hdc.1 hdc.2
         ·simp only[tC,kQ,size_zeroCells,hzs,hol,Dw,<- bJ]
          congr 1
          omega
         ·rcases bg.1 hx with h1|h1
          ·exact hsub x h1
          ·exact hys x h1
        have hfit:=growslice_fits (need:=m+ys.length) (old:=c') (bytes:=i.bytes) aQ hbytes;by_cases hc0:c'=0
        ·
         have aeE:m=0:=(by omega);subst aeE;subst hc0;have hf:=fresh 0 [] aQ kY ⟨kY,kY⟩;simp only[dF,pU]at hf h63 hbytes hfit;cases ad0 with
         | none=>have hr:=run_append_nil (P:=P) w t o.type e i z hte hi hzero ad ys.length xc us Dw (hus ad rfl) aQ (by simp only[maxLen]at h63;omega) aQ;rw[<- hxv,<- hsv]at hr;refine⟨_,_,I,_,.inl (fin hr),hf,λ_=>⟨w.heap.size,_,_,_,Ren.jS _ _ _ _,by rw[dF],by rw[dF];exact grownCap_ge w ys.length 0 e,aA _,λ_=>rfl⟩⟩
         | some q=>have hr:=run_append_grow (P:=P) w t o.type e i z hte hi hzero q 0 0 [] kY kY ad ys.length xc us Dw (hus ad rfl) aQ (by simp only[maxLen]at h63;omega) (by simpa using hfit);rw[<- hxv,<- hsv]at hr;simp only[dF,pU]at hr;refine⟨_,_,I,_,.inl (fin hr),hf,λ_=>⟨w.heap.size,_,_,_,Ren.jS _ _ _ _,by rw[dF],by rw[dF];exact grownCap_ge w ys.length 0 e,aA _,λ_=>rfl⟩⟩
        ·have FN:=hcap (.inl hc0);subst FN;have hcap0:cap≠0:=(by omega);obtain⟨cs,tg,hw,hss,ho,hrd⟩:=hcs hcap0;have hmn:(lo+m)*i.size<=cs.size:=(by rw[hss];exact aH _ aQ);rw[bJ]at hmn;have RQ:((cs.toList.drop (lo*i.size)).take (m*i.size)).length=m*i.size:=(by simp;omega);have holds:∀(j:Nat) (u:Value),((cs.toList.drop (lo*i.size)).take (m*i.size))[j]? = some u->w.cell? ((⟨kk,lo*i.size,none⟩:Addr).add j)=some u:=λj u hu=>by
          rw[bn]at hu;split at hu
          ·rw[Addr.mD];rw[dS]at hu;simp at hu;simp[dY,hw,hu]
          ·cases hu
         have hd1:DC I ((cs.toList.drop (lo*i.size)).take (m*i.size)) i.size ((es.drop lo).take m):=by
          refine⟨λj u hu=>?_,λi' j c2 hc2=>?_⟩
          ·rw[bn]at hu;split at hu
           ·rw[dS]at hu;exact ho _ u (by simpa using hu)
           ·cases hu
          ·have hi':=jd hc2;rw[hsl]at hi';have hc3:(es.getD (lo+i') [])[j]? = some c2:=by
            rw[<- hc2];congr 1;simp only[bu];rw[bn,aF hi',dS]
           obtain⟨u,hu,hr⟩:=hrd (lo+i') j c2 hc3;have hi2:=jd hc3;have hj:j<i.size:=(by rw[<- hes (es.getD (lo+i') []) (by simp[bu,ai hi2])];exact(ay.1 hc3).1);have:(i'+1)*i.size<=m*i.size:=aH _ hi';rw[bJ]at this;refine⟨u,?_,hr⟩;rw[bn,aF aQ,dS];rw[bJ]at hu;rw[<- lH];simpa using hu
         have hr:=run_append_grow (P:=P) w t o.type e i z hte hi hzero ⟨kk,lo*i.size,none⟩ m c' _ RQ holds ad ys.length xc us Dw (hus ad rfl) aQ (by simp only[maxLen]at h63;omega) hfit;rw[<- hxv,<- hsv]at hr;have hf:=fresh c' _ aQ RQ hd1;exact⟨_,_,I,_,.inl (fin hr),hf,λ_=>⟨w.heap.size,_,_,_,Ren.jS _ _ _ _,rfl,grownCap_ge w _ c' e,aA _,λ_=>rfl⟩⟩
      ·exact gI.elim
     ·exact gI.elim
    ·cases hz
   ·cases ht
  ·cases ht
 ·cases hc
end
end
section
section
variable {P:Program} {E:Env P} {I:IH} {ρ:Ren} {n:Nat} {st:eH} {a:Act} {w:World}
theorem Yp : oz.lookup "internal/bytealg.abigen_runtime_cmpstring" = none:=lY
theorem Yq : pO.lookup "internal/bytealg.abigen_runtime_cmpstring" = none:=lY
theorem Yr : qJ.lookup "internal/bytealg.abigen_runtime_cmpstring" = none:=lY
theorem Yt : wW.lookup "internal/bytealg.abigen_runtime_cmpstring" = some Extern.BytealgCompare.compare:=lY
theorem aaM : oz.lookup "" = none:=lY
theorem aaN : oz.lookup "slices.overlaps" = none:=lY
theorem aaO : pO.lookup "slices.overlaps" = none:=lY
theorem aaP : qJ.lookup "slices.overlaps" = some qf:=lY
def PG (P:Program)(n:Nat)(op:Op)(x y:jR):Bool:=
 match op with
 |.call { callee:=.value (.func f),args:=⟨[x',y']⟩,argTypes:=_ }=>iM n x' x&&iM n y' y&&(match P.funcs[f]? with|some fn=>fn.name == "internal/bytealg.abigen_runtime_cmpstring" && fn.origin == "" && fn.body.isNone|none=>false)
 |_=>false
theorem XX {o:Oper}{x y:jR}(h:GX E I ρ n st a w)(hc:PG P n o.op x y=true)(hx:(x.ev st.tm).g=true)(hy:(y.ev st.tm).g=true)
 (gI:(GG (bW st.tm x) (bW st.tm y)).vc):oP P E n o a w st (GG (bW st.tm x) (bW st.tm y)).v:=by
 unfold PG at hc;split at hc
 ·rename_i f x' y' ts he;simp only[af]at hc;obtain⟨⟨c1,c2⟩,hf⟩:=hc;have g1:=jF h c1 hx;have g2:=jF h c2 hy;split at hf
  ·rename_i fn hfn;simp only[af,aK]at hf;obtain⟨⟨hname,Oi⟩,hbody⟩:=hf;have hn:nO fn=none:=by
    simp only[nO,hname,Oi,Yp,aaM];rfl
   have hd:qg fn=some Extern.BytealgCompare.compare:=by simp only[qg,hname,Yq,Yr,Yt];rfl
   unfold GG at gI⊢;split at gI
   ·rename_i s t e1 e2;rw[e1]at g1;rw[e2]at g2;obtain⟨v1,_⟩:=Bv g1;obtain⟨v2,_⟩:=Bv g2;have hr:=run_callFunc_extern (P:=P) hfn (by rw[hname];rfl) hbody hn hd #[.string ⟨⟨s⟩⟩,.string ⟨⟨t⟩⟩] w;rw[Lib.run_compareString]at hr;refine nY.val h (v:=.int .i64 (lV s t)) ?_ (uJ _ _);have hx2:a.eval (.func f) = .func (.func f) #[] #[]:=rfl;simp only[execOp,he,resolve,rZ,invoke,bC,aZ,aO,hx2,jC,bf,kF,v1,v2];simpa using hr
   ·exact gI.elim
  ·cases hf
 ·cases hc
def KZ (P:Program)(n:Nat)(op:Op)(ng:Bool)(x:jR):Bool:=
 match op with
 |.binOp b t x' (.const .nilIface) _=>(match b with|.eql=> !ng|.neq=>ng|_=>false)&&(match P.underlying t with|some (.interface _)=>true|_=>false)&&iM n x' x
 |_=>false
theorem Ve {o:Oper}{ng:Bool}{x:jR}(h:GX E I ρ n st a w)(hc:KZ P n o.op ng x=true)(hx:(x.ev st.tm).g=true)
 (gI:(CW ng (bW st.tm x)).vc):oP P E n o a w st (CW ng (bW st.tm x)).v:=by
 unfold KZ at hc;split at hc
 ·rename_i b t x' t' he;simp only[af]at hc;obtain⟨⟨hb,ht⟩,h1⟩:=hc;have g1:=jF h h1 hx;unfold CW at gI⊢;split at gI
  ·rename_i g e1;rw[e1]at g1;have g1:if g=true then ∃t p,a.eval x' = .iface t p else a.eval x' = .nilIface:=g1
   split at ht
   ·rename_i ms hu;have ev:a.eval (.const .nilIface) = .nilIface:=rfl;have hq:(eqGuard b t x' (.const .nilIface) (a.eval x') .nilIface).run P w = .ok () w:=by
     cases g with
     | true=>obtain⟨t1,p1,g1⟩:=g1;rw[g1];cases b<;>rfl
     | false=>have g1:a.eval x' = .nilIface:=g1;rw[g1];cases b<;>cases x'<;>first|rfl|simp[eqGuard]
    have hd:∀d,(sU (d+1) t (a.eval x') .nilIface).run P w = .ok (!g) w:=λd=>by
     cases g with
     | true=>obtain⟨t1,p1,g1⟩:=g1;rw[g1];simp[sU,run_underlying hu]
     | false=>have g1:a.eval x' = .nilIface:=g1;rw[g1];simp[sU,run_underlying hu]
    have he':(Op.equal t (a.eval x') .nilIface).run P w = .ok (!g) w:=hd 9999;have af6:∀c,(c = .eql\/c = .neq)->(binOp c t (a.eval x') .nilIface).run P w = .ok (.bool (if c = .neq then g else !g)) w:=λc hc=>by
     cases g with
     | true=>obtain⟨t1,p1,g1⟩:=g1;rw[g1]at he'⊢;rcases hc with rfl|rfl<;>simp[binOp,he']
     | false=>have g1:a.eval x' = .nilIface:=g1;rw[g1]at he'⊢;rcases hc with rfl|rfl<;>simp[binOp,he']
    simp only[FR.ok];cases b<;>simp at hb
    ·subst hb;refine nY.val h ?_ (Bh _);simp[execOp,he,ev,hq,af6 .eql (.inl rfl)]
    ·subst hb;refine nY.val h ?_ (Bh _);simp[execOp,he,ev,hq,af6 .neq (.inr rfl)]
   ·cases ht
  ·exact gI.elim
 ·cases hc
theorem Yu : oz.lookup "internal/bytealg.IndexByteString" = none:=lY
theorem Yv : pO.lookup "internal/bytealg.IndexByteString" = none:=lY
theorem Yw : qJ.lookup "internal/bytealg.IndexByteString" = none:=lY
theorem Yx : wW.lookup "internal/bytealg.IndexByteString" = some Extern.BytealgIndexByte.indexByte:=lY
def PL (P:Program)(n:Nat)(op:Op)(x y:jR):Bool:=
 match op with
 |.call { callee:=.value (.func f),args:=⟨[x',y']⟩,argTypes:=_ }=>iM n x' x&&iM n y' y&&(match P.funcs[f]? with|some fn=>fn.name == "internal/bytealg.IndexByteString" && fn.origin == "" && fn.body.isNone|none=>false)
 |_=>false
theorem Yg {o:Oper}{x y:jR}(h:GX E I ρ n st a w)(hc:PL P n o.op x y=true)(hx:(x.ev st.tm).g=true)(hy:(y.ev st.tm).g=true)
 (gI:(GY (bW st.tm x) (bW st.tm y)).vc):oP P E n o a w st (GY (bW st.tm x) (bW st.tm y)).v:=by
 unfold PL at hc;split at hc
 ·rename_i f x' y' ts he;simp only[af]at hc;obtain⟨⟨c1,c2⟩,hf⟩:=hc;have g1:=jF h c1 hx;have g2:=jF h c2 hy;split at hf
  ·rename_i fn hfn;simp only[af,aK]at hf;obtain⟨⟨hname,Oi⟩,hbody⟩:=hf;have hn:nO fn=none:=by
    simp only[nO,hname,Oi,Yu,aaM];rfl
   have hd:qg fn=some Extern.BytealgIndexByte.indexByte:=by simp only[qg,hname,Yv,Yw,Yx];rfl
   unfold GY at gI⊢;split at gI
   ·rename_i s k c e1 e2;rw[e1]at g1;rw[e2]at g2;have hk:k = .u8:=gI;subst hk;obtain⟨v1,_⟩:=Bv g1;have v2:=rq g2;have hr:=run_callFunc_extern (P:=P) hfn (by rw[hname];rfl) hbody hn hd #[.string ⟨⟨s⟩⟩,.int .u8 c] w;rw[Lib.run_indexByteString]at hr;refine nY.val h (v:=.int .i64 (Lib.indexByte s c.toNat.toUInt8)) ?_ (uJ _ _);have hx2:a.eval (.func f) = .func (.func f) #[] #[]:=rfl;simp only[execOp,he,resolve,rZ,invoke,bC,aZ,aO,hx2,jC,bf,kF,v1,v2];simpa using hr
   ·exact gI.elim
  ·cases hf
 ·cases hc
def UL (P:Program)(n:Nat)(op:Op)(x y:jR):Bool:=
 match op with
 | .call { callee:=.value (.func f),args:=⟨[x',y']⟩,argTypes:=_ }=>iM n x' x&&iM n y' y&&(match P.funcs[f]? with
   | some fn=>fn.origin == "slices.overlaps" && fn.body.isNone && !(fn.name == "runtime.NumGoroutine")&&(oz.lookup fn.name).isNone&&(pO.lookup fn.name).isNone&&(qJ.lookup fn.name).isNone&&(wW.lookup fn.name).isNone &&
     (match fn.params,fn.resultTypes with
      |⟨[t,t']⟩,⟨[_]⟩=>t==t'&&(match P.underlying t with|some (.slice e)=>(match P.info? e with|some _=>true|none=>false)|_=>false)
      |_,_=>false)
   |none=>false)
 |_=>false
theorem ZT (h:GX E I ρ n st a w){b kk cap sz:Nat}{es:List (List Cell)}(hb:st.bx b = .dat sz es)(hr:ρ b=some (kk,cap))(hc0:cap≠0):∃cs tg,w.heap[kk]? = some (.cells cs tg (0,0))/\cs.size=cap*sz:=by have hok:=h.bx.ok b;rw[hb]at hok;obtain⟨Zl,cap',hr',hle,hcm,hes,hcs⟩:=hok;rw[hr]at hr';simp only[aI,cZ]at hr';obtain⟨rfl,rfl⟩:=hr';obtain⟨cs,tg,hw,hs,_⟩:=hcs hc0;exact⟨cs,tg,hw,hs⟩
theorem abd {o:Oper}{x y:jR}(h:GX E I ρ n st a w)(hc:UL P n o.op x y=true)(hx:(x.ev st.tm).g=true)(hy:(y.ev st.tm).g=true)
 (gI:(Qr (bW st.tm x) (bW st.tm y) st.bx).vc):oP P E n o a w st (Qr (bW st.tm x) (bW st.tm y) st.bx).v:=by
 unfold UL at hc;split at hc
 ·rename_i f x' y' ts he;simp only[af]at hc;obtain⟨⟨c1,c2⟩,hf⟩:=hc;have g1:=jF h c1 hx;have g2:=jF h c2 hy;split at hf
  ·rename_i fn hfn;simp only[af,aK,gG,ni]at hf;obtain⟨⟨⟨⟨⟨⟨⟨Oi,hbody⟩,hname⟩,n1⟩,n2⟩,n3⟩,n4⟩,hp⟩:=hf;split at hp
   ·rename_i t t' tr hpar hres;simp only[af,aK]at hp;obtain⟨rfl,ht⟩:=hp;split at ht
    ·rename_i e hte;split at ht
     ·rename_i i hi;have hn:nO fn=none:=by
       simp only[nO,Oi,n1,aaN];rfl
      have hd:qg fn=some (qf #[t,t] #[tr]):=by simp only[qg,Oi,n2,n3,n4,aaO,aaP,hpar,hres];rfl
      unfold Qr at gI⊢;split at gI
      ·rename_i b lo m c sz b' lo' m' c' sz' e1 e2;obtain⟨kk,cap,ad,cc,hr,hv,hm,hcc,_,ha⟩:=Eb g1 e1;obtain⟨Zl,cap',ad',cc',hr',hv',hm',zh,_,ha'⟩:=Eb g2 e2;split at gI
       ·rename_i s1 es s2 es' hb hb';obtain⟨hbb,hs2,hm0,ai6⟩:b≠b'/\s2≠0/\0<m/\0<m':=gI;have hov:(qf #[t,t] #[tr] #[.slice ad m cc,.slice ad' m' cc']).run P w = .ok (.bool false) w:=by
         obtain⟨cs,tg,hw,hs⟩:=ZT h hb hr aQ;obtain⟨cs',tg',hw',hs'⟩:=ZT h hb' hr' aQ;have e1:=ha (.inl aQ);have e2:=ha' (.inl aQ);subst e1 e2;have hne:kk≠Zl:=λhk=>hbb (by subst hk;exact h.bx.inj b b' kk (by rw[hb];exact⟨cap,hr,aQ⟩) (by rw[hb'];exact⟨cap',hr',aQ⟩))
         have h0:cs'.size≠0:=(by rw[hs'];exact Nat.mul_ne_zero aQ hs2);exact Lib.run_overlaps_apart w t tr e hte i.size (λw=>by simp[sizeOf,typeInfo,hi]) ⟨kk,lo*sz,none⟩ ⟨Zl,lo'*sz',none⟩ m cc m' cc' hne tg tg' cs.size cs'.size
          (by simp[World.shape?,hw]) (by simp[World.shape?,hw']) h0 (by simp[xK,hw]) (by simp[xK,hw])
        have hr:=run_callFunc_extern (P:=P) hfn hname (by simpa using hbody) hn hd #[.slice ad m cc,.slice ad' m' cc'] w;rw[hov]at hr;refine nY.val h (v:=.bool false) ?_ (Bh _);have hx2:a.eval (.func f) = .func (.func f) #[] #[]:=rfl;simp only[execOp,he,resolve,rZ,invoke,bC,aZ,aO,hx2,jC,bf,kF,hv,hv'];simpa using hr
       ·exact gI.elim
      ·exact gI.elim
     ·cases ht
    ·cases ht
   ·cases hp
  ·cases hf
 ·cases hc
end
end
section
section
variable {P:Program} {E:Env P} {I:IH} {ρ:Ren} {n:Nat} {st:eH} {a:Act} {w:World}
def Gv (P:Program)(n:Nat)(op:Op)(sz bytes:Nat)(zs:List Cell)(s x:jR):Bool:=
 match op with
 | .call { callee:=.builtin .append,args:=⟨[s',x']⟩,argTypes:=⟨[t,t']⟩ }=>iM n s' s&&iM n x' x&&decide (0<sz)&&zs.length==sz&&(match P.underlying t' with|some (.int _)=>true|_=>false)&&(match P.underlying t with
   |some (.slice e)=>(match P.info? e with|some i=>i.size==sz&&i.bytes==bytes&&(match i.zero with|some z=>z.cells.size==sz&&Dl z.cells.toList zs&&z.cells.toList.all (·.oneCell')|none=>false)|none=>false)
   |_=>false)
 |_=>false
theorem MO (t u ty e:TypeId)(ku:IntKind)(i:TypeInfo)(z:Value)(ht:P.underlying t=some (.slice e))(hu:P.underlying u=some (.int ku))(hi:P.info? e=some i)(hz:i.zero=some z)
 (b:Option Addr) (sLen sCap:Nat) (olds:List Value) (hlo:olds.length=sLen*i.size) (hb0:b=none->sLen=0) (holds:∀ad,b=some ad->∀j v,olds[j]? = some v->w.cell? (ad.add j)=some v)
 (q:Nat) (hq:(q:Int)*i.bytes<=140737488355328) (h62:q<2^60) (hqp:0<q) (hs0:0<i.size)
 (hg:sCap<sLen+q) (h63:((sLen+q:Nat):Int)<=9223372036854775807) (hfit:Builtin.nextslicecap (sLen+q) sCap*i.bytes<=281474976710656) :
 (fQ #[t,u] ty #[.slice b sLen sCap,.int .i64 q]).run P w =
  .ok (.slice (some ⟨w.heap.size,0,none⟩) (sLen+q) (grownCap w (sLen+q) sCap e))
   (w.drew.alloc (.cells (olds.toArray++bT z.cells q++bT z.cells (grownCap w (sLen+q) sCap e-(sLen+q))) e)):=by
 have hn:¬(sLen+q<=sCap):=by omega
 have h63':¬(9223372036854775807<((sLen:Int)+(q:Int))):=by omega
 have h48':¬(281474976710656<Builtin.nextslicecap (sLen+q) sCap*i.bytes):=by omega
 have hw:qh.wrap (q:Int)=q:=by simp only[Go.IntKind.wrap,Go.IntKind.bits,Go.IntKind.signed];simp;omega
 have hq0:¬((q:Int)<0):=by omega
 have hqb:¬(281474976710656<(q:Int)*(i.bytes:Int)):=by omega
 have hfo:(dZ i.size sLen (.slice b sLen sCap)).run P w.drew = .ok olds.toArray w.drew:=by
  cases b with
  | none=>have h0:=hb0 rfl;subst h0;have:olds=[]:=dL (by simpa using hlo);subst this;simp[dZ]
  |some ad=>exact run_firstCells_some (P:=P) w.drew i.size sLen ad sLen sCap olds hlo (by simpa using holds ad rfl)
 have hq1:¬(q*i.size=0):=by intro h0;rcases Nat.mul_eq_zero.1 h0 with h|h<;>omega
 simp[fQ,run_underlying ht,run_underlying hu,sizeOf,typeInfo,zeroValue,hi,hz,asInt,asIntOf,hw,hq0,hqb,hq1,hn,h63',h48',Question.forced,hfo,newRow,grownCap]
theorem ZU (h:GX E I ρ n st a w){b kk cap sz lo m:Nat}{es:List (List Cell)}(hb:st.bx b = .dat sz es)(hr0:ρ b=some (kk,cap))(hc:lo+m<=cap)(hc0:cap≠0)(hl:lo+m<=es.length) :
 ∃ olds:List Value,olds.length=m*sz/\(∀(j:Nat) (u:Value),olds[j]? = some u->w.cell? ((⟨kk,lo*sz,none⟩:Addr).add j)=some u)/\DC I olds sz ((es.drop lo).take m) /\
   (∀y,y∈(es.drop lo).take m->y.length=sz)/\((es.drop lo).take m).length=m:=by
 have hok:=h.bx.ok b;rw[hb]at hok;obtain⟨Zl,cap',hr',hle,hcm,hes,hcs⟩:=hok;rw[hr0]at hr';simp only[aI,cZ]at hr';obtain⟨rfl,rfl⟩:=hr';obtain⟨cs,tg,hw,hss,ho,hrd⟩:=hcs hc0;have hmn:(lo+m)*sz<=cs.size:=by rw[hss];exact aH _ hc
 rw[bJ]at hmn;have hsl:((es.drop lo).take m).length=m:=by simp;omega
 refine⟨(cs.toList.drop (lo*sz)).take (m*sz),by simp;omega,λj u hu=>?_,⟨λj u hu=>?_,λi' j c2 hc2=>?_⟩,λy hy=>hes y (mZ (fJ hy)),hsl⟩
 ·rw[bn]at hu;split at hu
  ·rw[Addr.mD];rw[dS]at hu;simp at hu;simp[dY,hw,hu]
  ·cases hu
 ·rw[bn]at hu;split at hu
  ·rw[dS]at hu;exact ho _ u (by simpa using hu)
  ·cases hu
 ·have hi':=jd hc2;rw[hsl]at hi';have hc3:(es.getD (lo+i') [])[j]? = some c2:=by
   rw[<- hc2];congr 1;simp only[bu];rw[bn,aF hi',dS]
  obtain⟨u,hu,hr⟩:=hrd (lo+i') j c2 hc3;have hi2:=jd hc3;have hj:j<sz:=by rw[<- hes (es.getD (lo+i') []) (by simp[bu,ai hi2])];exact(ay.1 hc3).1
  have:(i'+1)*sz<=m*sz:=aH _ hi';rw[bJ]at this;refine⟨u,?_,hr⟩;rw[bn,aF aQ,dS];rw[bJ]at hu;rw[<- lH];simpa using hu
theorem XL {o:Oper}{l sz bytes:Nat}{zs:List Cell}{s x:jR}(h:GX E I ρ n st a w)(hc:Gv P n o.op sz bytes zs s x=true)(hm:E.m<=l)(hs:(s.ev st.tm).g=true)(hx:(x.ev st.tm).g=true)
 (gI:(NW l sz bytes zs (bW st.tm s) (bW st.tm x) st.bx).vc):nY P E n o a w (st.mW (NW l sz bytes zs (bW st.tm s) (bW st.tm x) st.bx).sets) (NW l sz bytes zs (bW st.tm s) (bW st.tm x) st.bx).v:=by
 unfold Gv at hc;split at hc
 ·rename_i s' x' t t' he;simp only[af,aK,ak]at hc;obtain⟨⟨⟨⟨⟨c1,c2⟩,h0⟩,hzl⟩,hti⟩,ht⟩:=hc;have g1:=jF h c1 hs;have g2:=jF h c2 hx;split at hti
  ·rename_i ku htu;split at ht
   ·rename_i e hte;split at ht
    ·rename_i i hi;simp only[af,aK]at ht;obtain⟨⟨rfl,rfl⟩,hz⟩:=ht;split at hz
     ·rename_i z hzero;simp only[af,aK]at hz;obtain⟨⟨hzs,hzd⟩,hz1⟩:=hz;have fin:∀{v:Value} {w':World},(fQ #[t,t'] o.type #[a.eval s',a.eval x']).run P w = .ok v w'->(execOp a.eval o).run P w = .ok (.value v) w':=by
       intro v w' hr;simp only[execOp,he,resolve,invoke,builtin,bC,aZ,aO,jC,bf,kF,hr]
      have hzc:∀(q:Nat) (j:Nat) (u:Value),(bT z.cells q).toList[j]? = some u->u.oneCell'=true:=by intro q j u hu;exact(Ji (I:=I) (m:=q) hzd hzs hzl h0).2.one j u hu
      have fresh:∀(old m q:Nat) (olds:List Value) (es':List (List Cell)),st.bx l = .absent->old<m+q->olds.length=m*i.size->es'.length=m->(∀y,y∈es'->y.length=i.size)->DC I olds i.size es'->m+q<=maxLen ->
       GX E I (ρ.set l w.heap.size (grownCap w (m+q) old e)) n (st.rX l (.dat i.size (es'++bG q zs))) a
        (w.drew.alloc (.cells (olds.toArray++bT z.cells q++bT z.cells (grownCap w (m+q) old e-(m+q))) e)):=by
       intro old m q olds es' hl' ho hol hel hes' hdo h63;have hge:=grownCap_ge w (m+q) old e;have hcm:grownCap w (m+q) old e<=maxLen:=grownCap_le_maxLen w _ old e h63;obtain⟨aeH,acZ⟩:=Ji (I:=I) (m:=q) hzd hzs hzl h0;have hdc:=((hdo.append acZ (by rw[hel];exact hol)).more (hzc (grownCap w (m+q) old e-(m+q)))).Xt (cs:=olds.toArray++bT z.cells q++bT z.cells (grownCap w (m+q) old e-(m+q))) kY;refine EI h.drew hl' hm _ e _ i.size (es'++bG q zs) ?_ (by rw[kZ,hel,zB];exact hge) hcm (λx hx=>?_) hdc.1 hdc.2
       ·simp only[tC,kQ,size_zeroCells,hzs,hol,<- bJ]
        congr 1
        omega
       ·rcases bg.1 hx with h1|h1
        ·exact hes' x h1
        ·rw[nC h1,hzl]
      have arith:∀(m q:Nat),(m+q)*(i.bytes+i.size+1)<=2^46->(m+q)*i.bytes<=140737488355328/\q*i.bytes<=140737488355328/\m+q<=2^46:=by intro m q hbig;have e1:(m+q)*(i.bytes+i.size+1)=(m+q)*i.bytes+(m+q)*i.size+(m+q):=(by rw[sD,sD,AP]);have e2:q*i.bytes<=(m+q)*i.bytes:=aH _ aQ;omega
      have hml:2^46<=maxLen:=(by decide);unfold NW at gI⊢;split at gI
      ·rename_i b lo m c sz' k q e1 e2;split at gI
       ·rename_i vM es hb;obtain⟨rfl,rfl,rfl,hlo,hq,hroom,hl,hbig⟩:=gI;obtain⟨kk,cap,ad0,c',hr0,hsv,hnc,hcc,hcx,hcap⟩:=Eb (c:=some c) (b:=b) (lo:=lo) (m:=m) (sz:=i.size) g1 (by rw[e1];rfl);have:=hcx c rfl;subst this;have hxv:a.eval x' = .int .i64 q:=(by exact rq (by rw[e2]at g2;exact g2));obtain⟨qn,rfl⟩:∃qn:Nat,q=qn:=⟨q.toNat,aQ⟩;simp only[ax]at hroom hbig⊢;obtain⟨a1,a2,a3⟩:=arith m qn hbig;have hl':=BH hl;have hfit:=growslice_fits (need:=m+qn) (old:=c') (bytes:=i.bytes) aQ a1;by_cases hc0:c'=0
        ·have aeE:m=0:=(by omega);subst aeE;subst hc0;have hf:=fresh 0 0 qn [] [] hl' aQ kY rfl kY ⟨kY,kY⟩ aQ;have hr:=MO (P:=P) (w:=w) t t' o.type e ku i z hte htu hi hzero ad0 0 0 [] kY (λ_=>rfl) kY qn (by rw[<- yl];exact zI.2 a2) aQ aQ h0 aQ aQ hfit;rw[<- hxv,<- hsv]at hr;simp only[vF];exact⟨_,_,I,_,.inl (fin hr),hf,λ_=>⟨w.heap.size,_,_,_,Ren.jS _ _ _ _,rfl,grownCap_ge w _ _ e,aA _,λ_=>rfl⟩⟩
        ·have FN:=hcap (.inl hc0);subst FN;obtain⟨olds,ho1,ho2,ho3,ho4,ho5⟩:=ZU h hb hr0 aQ aQ hlo;have hf:=fresh c' m qn olds _ hl' aQ ho1 ho5 ho4 ho3 aQ;have hr:=MO (P:=P) (w:=w) t t' o.type e ku i z hte htu hi hzero (some ⟨kk,lo*i.size,none⟩) m c' olds ho1 kY (λad had j u hu=>by cases had;exact ho2 j u hu) qn (by rw[<- yl];exact zI.2 a2) aQ aQ h0 aQ aQ hfit;rw[<- hxv,<- hsv]at hr;exact⟨_,_,I,_,.inl (fin hr),hf,λ_=>⟨w.heap.size,_,_,_,Ren.jS _ _ _ _,rfl,grownCap_ge w _ _ e,aA _,λ_=>rfl⟩⟩
       ·exact gI.elim
      ·rename_i sz' k q e1 e2;obtain⟨rfl,hq,hl,hbig⟩:=gI;have hsv:a.eval s' = .slice none 0 0:=(by rw[e1]at g1;exact g1);have hxv:a.eval x' = .int .i64 q:=(by exact rq (by rw[e2]at g2;exact g2));obtain⟨qn,rfl⟩:∃qn:Nat,q=qn:=⟨q.toNat,aQ⟩;simp only[ax]at hbig⊢;obtain⟨a1,a2,a3⟩:=arith 0 qn (by simpa using hbig);simp only[dF]at a1 a3;have hl':=BH hl;have hfit:=growslice_fits (need:=0+qn) (old:=0) (bytes:=i.bytes) aQ (by simpa using a1);have hf:=fresh 0 0 qn [] [] hl' aQ kY rfl kY ⟨kY,kY⟩ aQ;have hr:=MO (P:=P) (w:=w) t t' o.type e ku i z hte htu hi hzero none 0 0 [] kY (λ_=>rfl) kY qn (by rw[<- yl];exact zI.2 a2) aQ aQ h0 aQ aQ hfit;rw[<- hxv,<- hsv]at hr;simp only[nN]at hf;exact⟨_,_,I,_,.inl (fin hr),hf,λ_=>⟨w.heap.size,_,_,_,Ren.jS _ _ _ _,by rw[dF],by have:=grownCap_ge w (0+qn) 0 e;omega,aA _,λ_=>rfl⟩⟩
      ·exact gI.elim
     ·cases hz
    ·cases ht
   ·cases ht
  ·cases hti
 ·cases hc
end
end
section
def JG (P:Program)(n m:Nat)(op:Op)(d:Option Nat):kH->Bool
 |.mv x=>ZL n op x
 |.pick c a b=>PS n op c a b
 |.load agg k p=>PO P n op agg k p
 |.store agg k p x=>Le P n op agg k p x&&d.isNone
 |.alloc l zs=>DT P op zs&&decide (m<=l)
 |.Ip T _ l r=>BN P op T&&decide (m<=l)&&decide (m<=r)
 |.Io l sz c zs=>BM P op sz c zs&&decide (m<=l)
 |.box l x=>KR n op x&&decide (m<=l)
 |.build zs ps=>KT P n op zs ps
 |.uZ l sz c zs ps=>BO P n op sz c zs ps&&decide (m<=l)
 |.makes l sz bytes zs x y=>DX P n op sz bytes zs x y&&decide (m<=l)
 |.bin o x y=>UF n op o x y
 |.beq ng x y=>UE P n op ng x y
 |.not x=>UK n op x
 |.neg x=>UJ n op x
 |.JI k x=>PE P n op k x
 |.PW x=>PI P n op x
 |.same x=>PU P n op x
 |.YB f cs=>PR n op f cs
 |.OZ x lo hi=>Ld P n op x lo hi
 |.VI sz x lo hi=>PV P n op sz x lo hi
 |.OV sz c x=>Lc P n op sz c x
 |.SG x=>La n op x
 |.lS off x=>KU P n op off x
 |.field agg off k x=>KW P n op agg off k x
 |.uP sz x i=>KX P n op sz x i
 |.Qh sz c x i=>Iw P n op sz c x i
 |.idxs x i=>PM P n op x i
 |.extract x i=>FI n op x i
 |.len x=>UH P n op x
 |.lens x=>PN P n op x
 |.max x y=>Ob true n op x y
 |.min x y=>Ob false n op x y
 |.append l sz bytes s x=>xE P n op sz bytes s x&&decide (m<=l)
 |.copy sz x y=>A7 P n op sz x y
 |.shf l x y=>UM n op l x y
 |.ZK x=>PD P n op x
 |.F5 sz x lo hi=>Iz P n op sz x lo hi
 |.sl3 sz x p q m=>UN P n op sz x p q m
 |.YQ l sz bytes s x=>xE P n op sz bytes s x&&decide (m<=l)
 |.YU sz x y=>A7 P n op sz x y
 |.YS sz zs x=>Gz P n op sz zs x
 |.XK l sz bytes zs s x=>Gv P n op sz bytes zs s x&&decide (m<=l)
 |.XW x y=>PG P n op x y
 |.RZ ng x=>KZ P n op ng x
 |.ovl x y=>UL P n op x y
 |.aav x y=>PL P n op x y
 |.stop=>true
section
variable {P:Program} {n:Nat} {op:Op}
theorem abl {zs:List AC}(h:DT P op zs=true):vP op=false/\IP op=false:=by unfold DT at h;split at h<;>first|exact⟨rfl,rfl⟩|cases h
theorem Xf {T:Nat}(h:BN P op T=true):vP op=false/\IP op=false:=by unfold BN at h;split at h<;>first|exact⟨rfl,rfl⟩|cases h
theorem Xe {sz c:Nat}{zs:List Cell}(h:BM P op sz c zs=true):vP op=false/\IP op=false:=by unfold BM at h;split at h<;>first|exact⟨rfl,rfl⟩|cases h
theorem agI {x:jR}(h:KR n op x=true):vP op=false/\IP op=false:=by unfold KR at h;split at h<;>first|exact⟨rfl,rfl⟩|cases h
theorem Xg {sz c:Nat}{zs:List Cell}{ps:List (Nat×jR)}(h:BO P n op sz c zs ps=true):vP op=false/\IP op=false:=by unfold BO at h;split at h<;>first|exact⟨rfl,rfl⟩|cases h
theorem abm {sz bytes:Nat}{zs:List Cell}{x y:jR}(h:DX P n op sz bytes zs x y=true):vP op=false/\IP op=false:=by unfold DX at h;split at h<;>first|exact⟨rfl,rfl⟩|cases h
theorem Kr {sz bytes:Nat}{s x:jR}(h:xE P n op sz bytes s x=true):vP op=false/\IP op=false:=by unfold xE at h;split at h<;>first|exact⟨rfl,rfl⟩|cases h
theorem Xh {sz:Nat}{s x:jR}(h:A7 P n op sz s x=true):vP op=false/\IP op=false:=by unfold A7 at h;split at h<;>first|exact⟨rfl,rfl⟩|cases h
theorem adZ {sz:Nat}{zs:List Cell}{x:jR}(h:Gz P n op sz zs x=true):vP op=false/\IP op=false:=by unfold Gz at h;split at h<;>first|exact⟨rfl,rfl⟩|cases h
theorem adY {sz bytes:Nat}{zs:List Cell}{s x:jR}(h:Gv P n op sz bytes zs s x=true):vP op=false/\IP op=false:=by unfold Gv at h;split at h<;>first|exact⟨rfl,rfl⟩|cases h
end
section
variable {P:Program} {E:Env P} {I:IH} {ρ:Ren} {n:Nat} {st:eH} {a:Act} {w:World}
theorem yM {x:Box}(h:match x with|.absent=>True|_=>False):wQ x:=by cases x<;>first|trivial|exact h.elim
theorem SQ (h:GX E I ρ n st a w){o:Oper}{ao:kH}(hc:JG P n E.m o.op o.dst ao=true)(hv:ao.valid (jR.ev st.tm))(gI:(ao.f (bW st.tm) st.bx).vc) :
 oP P E n o a w (st.mW (ao.f (bW st.tm) st.bx).sets) (ao.f (bW st.tm) st.bx).v:=by
 cases ao with
 |mv x=>exact ac9 h hc (hv x (by simp[kH.kX]))
 | pick c x y=>
   simp only[kH.f]at gI⊢;obtain⟨hg,hxy⟩:=hv;split at gI
   ·rename_i t ht;have ht':((jR.ev st.tm c).x)=oV t:=ht;rw[ht']at hxy;exact YG h hc hg ht hxy.1 hxy.2
   ·exact gI.elim
 | load agg k p=> 
   have hs:(tJ agg k (bW st.tm p) st.bx).sets=[]:=by
    unfold tJ at *;simp only[kH.f]at gI;unfold tJ at gI;split at gI
    ·split at gI
     ·split at gI
      ·rename_i hA;rw[aF hA]
      ·rename_i hA;rw[aj hA];split at gI
       ·rfl
       ·exact gI.elim
     ·exact gI.elim
    ·split at gI
     ·split at gI
      ·rename_i hA;rw[aF hA]
      ·rename_i hA;rw[aj hA]
     ·exact gI.elim
    ·split at gI
     ·rename_i hA;rw[aF hA]
     ·rename_i hA;rw[aj hA]
    ·exact gI.elim
   have:=Yn (P:=P) h hc (hv p (by simp[kH.kX])) gI;simp only[kH.f,hs];exact this
 | store agg k p x=>simp only[JG,af,ni]at hc;exact VN h hc.1 hc.2 (hv p (by simp[kH.kX])) (hv x (by simp[kH.kX])) gI
 | alloc l zs=>simp only[JG,af,ak]at hc;exact(Uo h hc.1 hc.2 (yM gI)).Zn (abl hc.1).1 (abl hc.1).2
 | Ip T e l r=>simp only[JG,af,ak]at hc;exact(Q4 h hc.1.1 hc.1.2 hc.2 (yM gI.1) (yM gI.2.1) gI.2.2).Zn (Xf hc.1.1).1 (Xf hc.1.1).2
 | Io l sz c zs=>simp only[JG,af,ak]at hc;exact(Q3 h hc.1 hc.2 (yM gI)).Zn (Xe hc.1).1 (Xe hc.1).2
 | box l x=>simp only[JG,af,ak]at hc;exact(ZG h hc.1 (hv x (by simp[kH.kX])) hc.2 (yM gI.1) gI.2).Zn (agI hc.1).1 (agI hc.1).2
 |build zs ps=>exact UA h hc (λp hp=>hv p.2.2 (by simp only[kH.kX,aG];exact⟨p,hp,rfl⟩)) gI
 | uZ l sz c zs ps=>
   simp only[JG,af,ak]at hc;simp only[kH.f]at gI⊢;split at gI
   ·rename_i l' hl';rw[MR];exact(Ri h hc.1 (λp hp=>hv p.2 (by simp only[kH.kX,aG];exact⟨p,hp,rfl⟩)) hc.2 (yM gI.1) hl' gI.2.1 gI.2.2).Zn (Xg hc.1).1 (Xg hc.1).2
   ·exact gI.elim
 | makes l sz bytes zs x y=>
   simp only[JG,af,ak]at hc;simp only[kH.f]at gI⊢;split at gI
   ·rename_i k p k' q e1 e2;obtain⟨v1,v2,v3,v4,v5⟩:=gI;exact(Vk h hc.1 (hv x (by simp[kH.kX])) (hv y (by simp[kH.kX])) e1 e2 hc.2 (yM v1) v2 v3 v4 v5).Zn (abm hc.1).1 (abm hc.1).2
   ·exact gI.elim
 | bin b x y=>
   have hs:(JF b (bW st.tm x) (bW st.tm y)).sets=[]:=by
    unfold JF;split
    ·rfl
    ·unfold Nb;cases b<;>rfl
    ·rfl
   have:=ZE (P:=P) h hc (hv x (by simp[kH.kX])) (hv y (by simp[kH.kX])) gI;simp only[kH.f,hs];exact this
 | beq ng x y=>have hs:(Rf ng (bW st.tm x) (bW st.tm y)).sets=[]:=(by unfold Rf;split<;>rfl);have:=ZC (P:=P) h hc (hv x (by simp[kH.kX])) (hv y (by simp[kH.kX])) gI;simp only[kH.f,hs];exact this
 | not x=>
   simp only[kH.f]at gI⊢;split at gI
   ·rename_i b hb;exact aa8 h hc (hv x (by simp[kH.kX])) hb
   ·exact gI.elim
 | neg x=>
   simp only[kH.f]at gI⊢;split at gI
   ·rename_i k m hb;exact aa5 h hc (hv x (by simp[kH.kX])) hb
   ·exact gI.elim
 | JI k x=>
   simp only[kH.f]at gI⊢;split at gI
   ·rename_i j m hb;exact XV h hc (hv x (by simp[kH.kX])) hb
   ·exact gI.elim
 | PW x=>
   simp only[kH.f]at gI⊢;split at gI
   ·rename_i p es hs;split at gI
    ·rename_i l hl;exact X0 h hc (hv x (by simp[kH.kX])) hs gI.1 hl gI.2
    ·exact gI.elim
   ·exact gI.elim
 | same x=>
   simp only[kH.f]at gI⊢;split at gI
   ·rename_i l hb;exact YP h hc (hv x (by simp[kH.kX])) hb
   ·exact gI.elim
 | YB f cs=>
   simp only[kH.f]at gI⊢;split at gI
   ·rename_i l hl;exact YC h hc (λx hx=>hv x hx) hl
   ·exact gI.elim
 | OZ x lo hi=>
   simp only[kH.f]at gI⊢;split at gI
   ·rename_i s e1;split at gI
    ·rename_i p q e2 e3;exact VJ h hc (hv x (by simp[kH.kX])) (λy hy=>hv y (by simp only[kH.kX];simp at hy;simp[hy])) (λy hy=>hv y (by simp only[kH.kX];simp at hy;simp[hy])) e1 e2 e3 gI.1 gI.2.1 gI.2.2
    ·exact gI.elim
   ·exact gI.elim
 | VI sz x lo hi=>
   have hs:(OY sz (bW st.tm x) (bnd (bW st.tm) lo 0) (bnd (bW st.tm) hi)).sets=[]:=by
    unfold OY;split
    ·split<;>rfl
    ·split<;>rfl
    ·split<;>rfl
    ·rfl
   have:=YZ (P:=P) h hc (hv x (by simp[kH.kX])) (λy hy=>hv y (by simp only[kH.kX];simp at hy;simp[hy])) (λy hy=>hv y (by simp only[kH.kX];simp at hy;simp[hy])) gI;have e:((kH.VI sz x lo hi).f (bW st.tm) st.bx)=OY sz (bW st.tm x) (bnd (bW st.tm) lo 0) (bnd (bW st.tm) hi):=rfl;rw[e,hs];exact this
 | OV sz c x=>
   simp only[kH.f]at gI⊢;split at gI
   ·rename_i b sz' e1;split at gI
    ·rename_i vM es e2;obtain⟨rfl,rfl,h3,h4⟩:=gI;exact VH h hc (hv x (by simp[kH.kX])) e1 e2 h3
    ·exact gI.elim
   ·exact gI.elim
 | SG x=>have hs:(I5 (bW st.tm x)).sets=[]:=(by unfold I5;split<;>rfl);have:=Vr (P:=P) h hc (hv x (by simp[kH.kX])) gI;have e:((kH.SG x).f (bW st.tm) st.bx)=I5 (bW st.tm x):=rfl;rw[e,hs];exact this
 | lS off x=>have hs:(D7 off (bW st.tm x)).sets=[]:=(by unfold D7;split<;>rfl);have:=UZ (P:=P) h hc (hv x (by simp[kH.kX])) gI;have e:((kH.lS off x).f (bW st.tm) st.bx)=D7 off (bW st.tm x):=rfl;rw[e,hs];exact this
 | field agg off k x=>
   have hs:(IB agg off k (bW st.tm x)).sets=[]:=by
    unfold IB;split
    ·split
     ·rfl
     ·split<;>rfl
    ·rfl
   have:=U0 (P:=P) h hc (hv x (by simp[kH.kX])) gI;have e:((kH.field agg off k x).f (bW st.tm) st.bx)=IB agg off k (bW st.tm x):=rfl;rw[e,hs];exact this
 | uP sz x i=>have hs:(IK sz (bW st.tm x) (bW st.tm i)).sets=[]:=(by unfold IK;split<;>rfl);have:=U9 (P:=P) h hc (hv x (by simp[kH.kX])) (hv i (by simp[kH.kX])) gI;have e:((kH.uP sz x i).f (bW st.tm) st.bx)=IK sz (bW st.tm x) (bW st.tm i):=rfl;rw[e,hs];exact this
 | Qh sz c x i=>
   simp only[kH.f]at gI⊢;split at gI
   ·rename_i b sz' k m e1 e2;obtain⟨rfl,h1,h2⟩:=gI;exact RU h hc (hv x (by simp[kH.kX])) (hv i (by simp[kH.kX])) e1 e2 h1 h2
   ·exact gI.elim
 | idxs x i=>
   simp only[kH.f]at gI⊢;split at gI
   ·rename_i s k m e1 e2;exact Yh h hc (hv x (by simp[kH.kX])) (hv i (by simp[kH.kX])) e1 e2 gI.1 gI.2
   ·exact gI.elim
 | extract x i=>
   have hs:(BQ (bW st.tm x) i).sets=[]:=by
    unfold BQ;split
    ·split<;>rfl
    ·rfl
   have:=P5 (P:=P) h hc (hv x (by simp[kH.kX])) gI;have e:((kH.extract x i).f (bW st.tm) st.bx)=BQ (bW st.tm x) i:=rfl;rw[e,hs];exact this
 | len x=>have hs:(lenV (bW st.tm x)).sets=[]:=(by unfold lenV;split<;>rfl);have:=aaH (P:=P) h hc (hv x (by simp[kH.kX])) gI;have e:((kH.len x).f (bW st.tm) st.bx)=lenV (bW st.tm x):=rfl;rw[e,hs];exact this
 | lens x=>
   simp only[kH.f]at gI⊢;split at gI
   ·rename_i s e1;exact Yl h hc (hv x (by simp[kH.kX])) e1
   ·exact gI.elim
 | max x y=>
   simp only[kH.f]at gI⊢;split at gI
   ·rename_i k p k' q e1 e2;have gI:k=k':=gI;subst gI;exact aaV h hc (hv x (by simp[kH.kX])) (hv y (by simp[kH.kX])) e1 e2
   ·exact gI.elim
 | min x y=>
   simp only[kH.f]at gI⊢;split at gI
   ·rename_i k p k' q e1 e2;have gI:k=k':=gI;subst gI;exact aaY h hc (hv x (by simp[kH.kX])) (hv y (by simp[kH.kX])) e1 e2
   ·exact gI.elim
 | append l sz bytes s x=>simp only[JG,af,ak]at hc;exact(Q7 h hc.1 hc.2 (hv s (by simp[kH.kX])) (hv x (by simp[kH.kX])) gI).Zn (Kr hc.1).1 (Kr hc.1).2
 |copy sz d x=>exact(XZ h hc (hv d (by simp[kH.kX])) (hv x (by simp[kH.kX])) gI).Zn (Xh hc).1 (Xh hc).2
 | shf l x y=>have hs:(QG l (bW st.tm x) (bW st.tm y)).sets=[]:=(by unfold QG;(repeat' split)<;>rfl);have:=abu (P:=P) h hc (hv x (by simp[kH.kX])) (hv y (by simp[kH.kX])) gI;have e:((kH.shf l x y).f (bW st.tm) st.bx)=QG l (bW st.tm x) (bW st.tm y):=rfl;rw[e,hs];exact this
 | ZK x=>have hs:(NH (bW st.tm x)).sets=[]:=(by unfold NH;(repeat' split)<;>rfl);have:=XU (P:=P) h hc (hv x (by simp[kH.kX])) gI;have e:((kH.ZK x).f (bW st.tm) st.bx)=NH (bW st.tm x):=rfl;rw[e,hs];exact this
 | F5 sz x lo hi=>have hs:(Dh sz (bW st.tm x) (bnd (bW st.tm) lo 0) (bnd (bW st.tm) hi)).sets=[]:=(by unfold Dh;(repeat' split)<;>rfl);have:=TI (P:=P) h hc (hv x (by simp[kH.kX])) (λy hy=>hv y (by simp only[kH.kX,au,bg];exact .inr (.inl hy))) (λy hy=>hv y (by simp only[kH.kX,au,bg];exact .inr (.inr hy))) gI;have e:((kH.F5 sz x lo hi).f (bW st.tm) st.bx)=Dh sz (bW st.tm x) (bnd (bW st.tm) lo 0) (bnd (bW st.tm) hi):=rfl;rw[e,hs];exact this
 | sl3 sz x p q m=>have hs:(VG sz (bW st.tm x) (bW st.tm p) (bW st.tm q) (bW st.tm m)).sets=[]:=(by unfold VG;(repeat' split)<;>rfl);have:=abv (P:=P) h hc (hv x (by simp[kH.kX])) (hv p (by simp[kH.kX])) (hv q (by simp[kH.kX])) (hv m (by simp[kH.kX])) gI;have e:((kH.sl3 sz x p q m).f (bW st.tm) st.bx)=VG sz (bW st.tm x) (bW st.tm p) (bW st.tm q) (bW st.tm m):=rfl;rw[e,hs];exact this
 | YQ l sz bytes s x=>simp only[JG,af,ak]at hc;exact(YR h hc.1 hc.2 (hv s (by simp[kH.kX])) (hv x (by simp[kH.kX])) gI).Zn (Kr hc.1).1 (Kr hc.1).2
 | XK l sz bytes zs s x=>simp only[JG,af,ak]at hc;exact(XL h hc.1 hc.2 (hv s (by simp[kH.kX])) (hv x (by simp[kH.kX])) gI).Zn (adY hc.1).1 (adY hc.1).2
 |YU sz d x=>exact(YV h hc (hv d (by simp[kH.kX])) (hv x (by simp[kH.kX])) gI).Zn (Xh hc).1 (Xh hc).2
 |YS sz zs x=>exact(YT h hc (hv x (by simp[kH.kX])) gI).Zn (adZ hc).1 (adZ hc).2
 |stop=>exact gI.elim
 | RZ ng x=>have hs:(CW ng (bW st.tm x)).sets=[]:=(by unfold CW;split<;>rfl);have:=Ve (P:=P) h hc (hv x (by simp[kH.kX])) gI;have e:((kH.RZ ng x).f (bW st.tm) st.bx)=CW ng (bW st.tm x):=rfl;rw[e,hs];exact this
 | XW x y=>have hs:(GG (bW st.tm x) (bW st.tm y)).sets=[]:=(by unfold GG;(repeat' split)<;>rfl);have:=XX (P:=P) h hc (hv x (by simp[kH.kX])) (hv y (by simp[kH.kX])) gI;have e:((kH.XW x y).f (bW st.tm) st.bx)=GG (bW st.tm x) (bW st.tm y):=rfl;rw[e,hs];exact this
 | aav x y=>have hs:(GY (bW st.tm x) (bW st.tm y)).sets=[]:=(by unfold GY;(repeat' split)<;>rfl);have:=Yg (P:=P) h hc (hv x (by simp[kH.kX])) (hv y (by simp[kH.kX])) gI;have e:((kH.aav x y).f (bW st.tm) st.bx)=GY (bW st.tm x) (bW st.tm y):=rfl;rw[e,hs];exact this
 | ovl x y=>have hs:(Qr (bW st.tm x) (bW st.tm y) st.bx).sets=[]:=(by unfold Qr;(repeat' split)<;>rfl);have:=abd (P:=P) h hc (hv x (by simp[kH.kX])) (hv y (by simp[kH.kX])) gI;have e:((kH.ovl x y).f (bW st.tm) st.bx)=Qr (bW st.tm x) (bW st.tm y) st.bx:=rfl;rw[e,hs];exact this
end
end
theorem Rel.refl (dp N:Nat)(g:Own):Rel dp N g g:=
 ⟨λ_ _ _ _ _ h=>⟨h,rfl⟩,λ_ _ _ _ _ h=>h,λk B' _ h=>⟨B',h,λT p hb=>by rcases hb with rfl|rfl<;>exact⟨p,p,rfl,rfl⟩⟩⟩
theorem Rel.trans {dp N:Nat}{g g' g'':Own}(h:Rel dp N g g')(k:Rel dp N g' g''):Rel dp N g g'':=by
 refine⟨λx T d m hd hx=>let q:=h.tag _ _ _ _ hd hx;let r:=k.tag _ _ _ _ hd q.1;⟨r.1,r.2.trans q.2⟩,λx row d b hd hx=>k.var _ _ _ _ hd (h.var _ _ _ _ hd hx),λx B'' hx hB=>?_⟩;obtain⟨B',hB',h1⟩:=k.old x B'' hx hB;obtain⟨B,hB0,h2⟩:=h.old x B' hx hB';refine⟨B,hB0,λT p hb=>?_⟩;rcases hb with hb|hb
 ·obtain⟨q,q',e1,e2⟩:=h2 T p (.inl hb);obtain⟨r,r',e3,e4⟩:=h1 T q' (.inl e2);exact⟨q,r',e1,e4⟩
 ·obtain⟨q,q',e1,e2⟩:=h1 T p (.inr hb);obtain⟨r,r',e3,e4⟩:=h2 T q (.inr e1);exact⟨r,q',e3,e2⟩
theorem Rel.le {dp N N':Nat}{g g':Own}(h:Rel dp N g g')(hn:N'<=N):Rel dp N' g g':=⟨h.tag,h.var,λk B' hk=>h.old k B' (fU hk hn)⟩
theorem Good.lt {P:Program}{g:Own}{w:World}(h:Good P g w){k:Nat}{B:Zj}(hk:g k=some B):k<w.heap.size:=by
 cases B with
 |arr T p=>obtain⟨cs,e,hw,_⟩:=h.arr k T p hk;exact qM hw
 |var row d b=>obtain⟨cs,e,hw,_⟩:=h.var k row d b hk;exact qM hw
theorem Good.world {P:Program}{g:Own}{w w':World}(h:Good P g w)(hk:∀k,g k≠none->w'.heap[k]? = w.heap[k]?):Good P g w':=
 ⟨λk T p e=>by rw[hk k (by rw[e];simp)];exact h.arr k T p e,λk row d b e=>by rw[hk k (by rw[e];simp)];exact h.var k row d b e⟩
theorem xq.world {P:Program}{F:Jk}{g:Own}{dp:Nat}{a:Act}{w w':World}{f:OF}(h:xq P F g dp a w f)(hs:w.heap.size<=w'.heap.size):xq P F g dp a w' f:=by
 cases f with
 |sr t T=>intro ad n c hq0;obtain⟨k,o,h1,h2,h3⟩:=h ad n c hq0;exact⟨k,o,h1,fU h2 hs,h3⟩
 |ep t T off=>obtain⟨k,o,h1,h2,h3⟩:=h;exact⟨k,o,h1,fU h2 hs,h3⟩
 |vp t b off=>exact h
 |ref t r=>exact h
 |xw t i r=>exact h
 |row b r=>exact h
 |fn t s=>exact h
theorem OW.world {P:Program}{F:Jk}{g:Own}{dp:Nat}{Γ : List OF}{a:Act}{w w':World}(h:OW P F g dp Γ a w)(hs:w.heap.size<=w'.heap.size)(hk:∀k,g k≠none->w'.heap[k]? = w.heap[k]?):OW P F g dp Γ a w':=
 ⟨h.good.world hk,λf hf=>(h.fs f hf).world hs⟩
theorem OW.weak {P:Program}{F:Jk}{g:Own}{dp:Nat}{Γ uA:List OF}{a:Act}{w:World}(h:OW P F g dp Γ a w)(hs:∀f,f∈uA->f ∈ Γ):OW P F g dp uA a w:=
 ⟨h.good,λf hf=>h.fs f (hs f hf)⟩
theorem xq.put {P:Program}{F:Jk}{g:Own}{dp:Nat}{a a':Act}{w:World}{f:OF}(h:xq P F g dp a w f)(he:∀t,t∈f.Xq->a'.tmps.getD t undef=a.tmps.getD t undef):xq P F g dp a' w f:=by cases f<;>simp only[OF.Xq,au,List.not_mem_nil,or_false,forall_eq_or_imp,forall_eq]at he<;>simp only[xq,he]at h⊢ <;> exact h
def Ar (d:Nat)(f:OF):Bool:= !f.Xq.contains d
theorem jP {a:Act}{d t:Nat}{v:Value}(h:t≠d):(a.put (some d) v).tmps.getD t undef=a.tmps.getD t undef:=by simp only[fO,dm];rw[Array.getElem?_setIfInBounds_ne (Ne.symm h)]
theorem dM {a:Act}{d:Nat}{v:Value}(h:d<a.tmps.size):(a.put (some d) v).tmps.getD d undef=v:=by simp[fO,dm,h]
theorem xq.put' {P:Program}{F:Jk}{g:Own}{dp:Nat}{a:Act}{w:World}{f:OF}{d:Nat}{v:Value}(h:xq P F g dp a w f)(ho:Ar d f=true):xq P F g dp (a.put (some d) v) w f:=
 h.put λt ht=>jP λe=>by subst e;simp[Ar,ht]at ho
theorem OW.drop {P:Program}{F:Jk}{g:Own}{dp:Nat}{Γ : List OF}{a:Act}{w:World}(h:OW P F g dp Γ a w)(d:Nat)(v:Value):OW P F g dp (Γ.filter (Ar d)) (a.put (some d) v) w:=
 ⟨h.good,λf hf=>by rw[aC]at hf;exact(h.fs f hf.1).put' hf.2⟩
def Own.re (g:Own)(dr:rC->Bool)(φ:rC->rC):Own:=⟨λk=>match g k with
 |some (.arr T p)=>if dr p then none else some (.arr T (φ p))
 |some (.var row d b)=>some (.var (row.filter λr=> !dr (.tag d r.m)&&φ (.tag d r.m) == .tag d r.m) d b)
 |none=>none,g.bd⟩
theorem Tu {g:Own}{dr:rC->Bool}{φ:rC->rC}{k:Nat} : (g.re dr φ) k=match g k with
 |some (.arr T p)=>if dr p then none else some (.arr T (φ p))
 |some (.var row d b)=>some (.var (row.filter λr=> !dr (.tag d r.m)&&φ (.tag d r.m) == .tag d r.m) d b)
 |none=>none:=rfl
theorem GR.re {g:Own}{u:Value}{T:Nat}{p:rC}(h:GR g u T p){dr:rC->Bool}(hd:dr p=false)(φ:rC->rC):GR (g.re dr φ) u T (φ p):=by
 rcases h with h|⟨k,n,c,h1,h2⟩
 ·exact .inl h
 ·exact .inr ⟨k,n,c,h1,by simp[Own.re,h2.1,hd],h2.2⟩
theorem Qy {g:Own}{dr:rC->Bool}{φ:rC->rC}{k d b:Nat}{row:List Ref}(h:g.re dr φ k=some (.var row d b)):∃row0,g k=some (.var row0 d b)/\row=row0.filter λr=> !dr (.tag d r.m)&&φ (.tag d r.m) == .tag d r.m:=by
 rw[Tu]at h;split at h
 ·split at h<;>cases h
 ·rename_i row0 d0 b0 h0;cases h;exact⟨row0,h0,rfl⟩
 ·cases h
theorem Qx {g:Own}{dr:rC->Bool}{φ:rC->rC}{k T:Nat}{p:rC}(h:g.re dr φ k=some (.arr T p)):∃q,g k=some (.arr T q)/\dr q=false/\p=φ q:=by
 rw[Tu]at h;split at h
 ·rename_i T0 q h0;split at h
  ·cases h
  ·rename_i hd;cases h;exact⟨q,h0,by simpa using hd,rfl⟩
 ·cases h
 ·cases h
theorem Good.re {P:Program}{g:Own}{w:World}(h:Good P g w){dr:rC->Bool}{φ:rC->rC}(hb:∀k T p,g k=some (.arr T p)->dr p=false->∀j,dr (.blk k j)=false/\φ (.blk k j) = .blk k j):Good P (g.re dr φ) w:=by
 refine⟨λk T p hk=>?_,λk row d b hk=>?_⟩
 ·obtain⟨q,h1,h2,rfl⟩:=Qx hk;obtain⟨cs,e,hw,hc⟩:=h.arr k T q h1;refine⟨cs,e,hw,λj u T' hb' hu ht=>?_⟩;have:=(hc j u T' hb' hu ht).re (hb k T q h1 h2 j).1 φ
  rwa[(hb k T q h1 h2 j).2]at this
 ·obtain⟨row0,h1,rfl⟩:=Qy hk;obtain⟨cs,e,hw,hc⟩:=h.var k row0 d b h1;refine⟨cs,e,hw,λr hr=>?_⟩;rw[aC]at hr;simp only[af,gG,aK]at hr;obtain⟨u,hu,hg⟩:=hc r hr.1;refine⟨u,hu,?_⟩;have:=hg.re hr.2.1 φ
  rwa[hr.2.2]at this
def aaC (dp:Nat)(dr:rC->Bool)(φ:rC->rC)(f:OF):Prop:=∀m,f.afj=some m->dr (.tag dp m)=false/\φ (.tag dp m) = .tag dp m
theorem xq.re {P:Program}{F:Jk}{g:Own}{dp:Nat}{a:Act}{w:World}{f:OF}(h:xq P F g dp a w f){dr:rC->Bool}{φ:rC->rC}(hk:aaC dp dr φ f):xq P F (g.re dr φ) dp a w f:=by
 have gr:∀{u T m},GR g u T (.tag dp m)->dr (.tag dp m)=false/\φ (.tag dp m) = .tag dp m->GR (g.re dr φ) u T (.tag dp m):=λh1 h2=>by
  have:=h1.re h2.1 φ
  rwa[h2.2]at this
 have old:∀{k:Nat} {T:Nat} {X:Prop},(∀B,g k=some B->(∃p,B = .arr T p)/\X)->∀B,g.re dr φ k=some B->(∃p,B = .arr T p)/\X:=by
  intro k T X hold B hB;cases B with
  | arr T' p=>obtain⟨q,h1,_,rfl⟩:=Qx hB;obtain⟨⟨p',e⟩,hx⟩:=hold _ h1;cases e;exact⟨⟨_,rfl⟩,hx⟩
  | var row d b=>obtain⟨row0,h1,_⟩:=Qy hB;obtain⟨⟨p',e⟩,_⟩:=hold _ h1;cases e
 have vv:∀{k row b},g k=some (.var row dp b)->g.re dr φ k=some (.var (row.filter λr=> !dr (.tag dp r.m)&&φ (.tag dp r.m) == .tag dp r.m) dp b):=λh1=>by simp[Own.re,h1]
 cases f with
 |sr t T=>intro ad n c hq0;obtain⟨k,o,h1,h2,h3⟩:=h ad n c hq0;exact⟨k,o,h1,h2,old h3⟩
 |ep t T off=>obtain⟨k,o,h1,h2,h3⟩:=h;exact⟨k,o,h1,h2,old h3⟩
 |vp t b off=>obtain⟨k,row,h1,h2,h3⟩:=h;exact⟨k,_,h1,h2,vv h3⟩
 |ref t r=>obtain⟨u,h1,h2⟩:=h;exact⟨u,h1,gr h2 (hk _ rfl)⟩
 |xw t i r=>obtain⟨vs,x,u,h1,h2,h3,h4⟩:=h;exact⟨vs,x,u,h1,h2,h3,gr h4 (hk _ rfl)⟩
 | row b r=>obtain⟨k,row,h1,h2,h3⟩:=h;refine⟨k,_,h1,vv h2,?_⟩;rw[aC];have:=hk _ rfl;exact⟨h3,by simp[this.1,this.2]⟩
 |fn t s=>exact h
theorem Rel.re {dp N:Nat}{g:Own}{dr:rC->Bool}{φ:rC->rC}(h:∀d m,d<dp->dr (.tag d m)=false/\φ (.tag d m) = .tag d m):Rel dp N g (g.re dr φ):=by
 refine⟨λk T d m hd hk=>?_,λk row d b hd hk=>?_,λk B' _ hB=>?_⟩
 ·exact⟨by simp[Own.re,hk,(h d m hd).1,(h d m hd).2],rfl⟩
 ·have:row.filter (λr=> !dr (.tag d r.m)&&φ (.tag d r.m) == .tag d r.m)=row:=List.filter_eq_self.2 λr _=>by simp[(h d r.m hd).1,(h d r.m hd).2]
  simp[Own.re,hk,this]
 ·cases B' with
  | arr T p=>obtain⟨q,h1,_,rfl⟩:=Qx hB;exact⟨_,h1,λT' p' hb=>by rcases hb with e|e<;>cases e<;>exact⟨_,_,rfl,rfl⟩⟩
  | var row d b=>obtain⟨row0,h1,_⟩:=Qy hB;exact⟨_,h1,λT' p' hb=>by rcases hb with e|e<;>cases e⟩
def Own.upn (g:Own)(k:Nat)(B:Zj)(n:Nat):Own:=⟨λk'=>if k'=k then some B else g k',λk'=>if k'=k then n else g.bd k'⟩
abbrev Own.upd (g:Own)(k:Nat)(B:Zj):Own:=g.upn k B 0
theorem qj {g:Own}{k k' n:Nat}{B:Zj} : (g.upn k B n) k'=if k'=k then some B else g k':=rfl
theorem AA {g:Own}{k k' n:Nat}{B:Zj} : (g.upn k B n).bd k'=if k'=k then n else g.bd k':=rfl
theorem GR.upd {g:Own}{u:Value}{T:Nat}{p:rC}(h:GR g u T p){k m:Nat}{B:Zj}(hk:∀T' q,g k≠some (.arr T' q)):GR (g.upn k B m) u T p:=by
 rcases h with h|⟨k',n,c,h1,h2⟩
 ·exact .inl h
 ·have hne:k'≠k:=λe=>by subst e;exact hk _ _ h2.1
  exact .inr ⟨k',n,c,h1,by rw[qj,aj hne];exact h2.1,by rw[AA,aj hne];exact h2.2⟩
theorem xq.new {P:Program}{F:Jk}{g:Own}{dp:Nat}{a:Act}{w:World}{f:OF}(h:xq P F g dp a w f){k m:Nat}{B:Zj}(hk:g k=none)(hs:w.heap.size<=k):xq P F (g.upn k B m) dp a w f:=by
 have hk':∀T' q,g k≠some (.arr T' q):=λT' q e=>by rw[hk]at e;cases e
 have old:∀{k':Nat} {T:Nat} {X:Prop},k'<w.heap.size->(∀B,g k'=some B->(∃p,B = .arr T p)/\X)->∀B',(g.upn k B m) k'=some B'->(∃p,B' = .arr T p)/\X:=by intro k' T X hlt hold B' hB;rw[qj]at hB;rw[aj aQ]at hB;exact hold B' hB
 have vv:∀{k' row b},g k'=some (.var row dp b)->(g.upn k B m) k'=some (.var row dp b):=λh1=>by rw[qj];rw[aj (λe=>by subst e;rw[hk]at h1;cases h1)];exact h1
 cases f with
 |sr t T=>intro ad n c hq0;obtain⟨k,o,h1,h2,h3⟩:=h ad n c hq0;exact⟨k,o,h1,h2,old h2 h3⟩
 |ep t T off=>obtain⟨k,o,h1,h2,h3⟩:=h;exact⟨k,o,h1,h2,old h2 h3⟩
 |vp t b off=>obtain⟨k,row,h1,h2,h3⟩:=h;exact⟨k,_,h1,h2,vv h3⟩
 |ref t r=>obtain⟨u,h1,h2⟩:=h;exact⟨u,h1,h2.upd hk'⟩
 |xw t i r=>obtain⟨vs,x,u,h1,h2,h3,h4⟩:=h;exact⟨vs,x,u,h1,h2,h3,h4.upd hk'⟩
 |row b r=>obtain⟨k,row,h1,h2,h3⟩:=h;exact⟨k,_,h1,vv h2,h3⟩
 |fn t s=>exact h
theorem Rel.new {dp N:Nat}{g:Own}{k n:Nat}{B:Zj}(hk:g k=none)(hn:N<=k):Rel dp N g (g.upn k B n):=by
 refine⟨λk' T d m _ hx=>?_,λk' row d b _ hx=>?_,λk' B' hlt hB=>?_⟩
 ·have hne:k'≠k:=λe=>by subst e;rw[hk]at hx;cases hx
  rw[qj,AA,aj hne,aj hne];exact⟨hx,rfl⟩
 ·rw[qj];rw[aj (λe=>by subst e;rw[hk]at hx;cases hx)];exact hx
 ·rw[qj]at hB;rw[aj aQ]at hB;exact(Rel.refl dp N g).old k' B' hlt hB
section
section
variable {P:Program} {F:Jk} {g:Own} {dp:Nat} {Γ : List OF} {a:Act} {w:World}
def Dz (dp:Nat)(mv:List (Nat×rC)):rC->rC
 |.tag d m=>if d=dp then(match mv.lookup m with|some q=>q|none=>.tag d m)else .tag d m
 |p=>p
def x9 (ks:List Nat)(f:OF):Bool:=match f.afj with
 |some m=> !ks.contains m
 |none=>true
abbrev Own.mv (g:Own)(dp:Nat)(mv:List (Nat×rC)):Own:=g.re (λ_=>false) (Dz dp mv)
theorem Jq {β:Type}{m:Nat} : ∀{l:List (Nat×β)},m ∉ l.map (·.1)->l.lookup m=none
 |[],_=>rfl
 | (k,b)::r,h=>by simp only[bf,au,not_or]at h;simp only[List.lookup];rw[show(m==k)=false by simpa using h.1];exact Jq h.2
theorem Vo {mv:List (Nat×rC)}{m:Nat}(h:m ∉ mv.map (·.1)):Dz dp mv (.tag dp m) = .tag dp m:=by simp[Dz,Jq h]
theorem aa4 {mv:List (Nat×rC)}{d m:Nat}(h:d<dp):Dz dp mv (.tag d m) = .tag d m:=by simp only[Dz];rw[aj aQ]
theorem aa3 {mv:List (Nat×rC)}{m:Nat}{q:rC}(h:mv.lookup m=some q):Dz dp mv (.tag dp m)=q:=by simp[Dz,h]
theorem Vf {mv:List (Nat×rC)}{f:OF}(h:x9 (mv.map (·.1)) f=true):aaC dp (λ_=>false) (Dz dp mv) f:=λm hm=>by refine⟨rfl,Vo λhc=>?_⟩;simp only[x9,hm,gG,List.contains_eq_mem,bH]at h;exact h hc
theorem OW.mv (h:OW P F g dp Γ a w)(mv:List (Nat×rC)):OW P F (g.mv dp mv) dp (Γ.filter (x9 (mv.map (·.1)))) a w:=
 ⟨h.good.re λ_ _ _ _ _ _=>⟨rfl,rfl⟩,λf hf=>by rw[aC]at hf;exact(h.fs f hf.1).re (Vf hf.2)⟩
theorem Rel.mv (N:Nat)(mv:List (Nat×rC)):Rel dp N g (g.mv dp mv):=Rel.re λd m h=>⟨rfl,aa4 h⟩
theorem GR.mv {u:Value}{T m:Nat}{q:rC}{mv:List (Nat×rC)}(h:GR g u T (.tag dp m))(hl:mv.lookup m=some q):GR (g.mv dp mv) u T q:=by
 have:=h.re (dr:=λ_=>false) rfl (Dz dp mv)
 rwa[aa3 hl]at this
theorem OW.add (h:OW P F g dp Γ a w){f:OF}(hf:xq P F g dp a w f):OW P F g dp (f :: Γ) a w:=
 ⟨h.good,λx hx=>by exact(au.1 hx).elim (λe=>e▸hf) (λhx=>h.fs x hx)⟩
theorem OW.aeR (h:OW P F g dp Γ a w){cs:Array Value}{e T m:Nat}{p:rC}
 (hc:∀j u T',j<m*oD P T->cs[j]? = some u->(j%oD P T,T')∈kD P T->GR g u T' (.blk w.heap.size j)):OW P F (g.upn w.heap.size (.arr T p) m) dp Γ a (w.alloc (.cells cs e)):=by
 have hn:g w.heap.size=none:=by
  cases hg:g w.heap.size with
  |none=>rfl
  |some B=>exact dO (h.good.lt hg) (sZ _)
 have hna:∀T' q,g w.heap.size≠some (.arr T' q):=λT' q e=>by rw[hn]at e;cases e
 have hold:∀k,g k≠none->(w.alloc (.cells cs e)).heap[k]? = w.heap[k]?:= λk hk=>by
  cases hg:g k with
  |none=>exact dO hg hk
  |some B=>exact Oj w _ k (h.good.lt hg)
 have hg':=h.good.world hold;refine⟨⟨λk T' q hk=>?_,λk row d b hk=>?_⟩,λf hf=>?_⟩
 ·rw[qj]at hk;split at hk
  ·rename_i e1;cases hk;subst e1;exact⟨cs,e,heap_alloc_new w _,λj u T' hb hu ht=>(hc j u T' (by rwa[AA,aF rfl]at hb) hu ht).upd hna⟩
  ·rename_i hne;obtain⟨cs',e',hw,h2⟩:=hg'.arr k T' q hk;exact⟨cs',e',hw,λj u T' hb hu ht=>(h2 j u T' (by rwa[AA,aj hne]at hb) hu ht).upd hna⟩
 ·rw[qj]at hk;split at hk
  ·cases hk
  ·obtain⟨cs',e',hw,h2⟩:=hg'.var k row d b hk;exact⟨cs',e',hw,λr hr=>let ⟨u,hu,hgr⟩:=h2 r hr;⟨u,hu,hgr.upd hna⟩⟩
 ·exact((h.fs f hf).new hn (aA _)).world (by show _<=(w.heap.push _).size;simp)
theorem OW.newVar (h:OW P F g dp Γ a w){cs:Array Value}{e:Nat}{row:List Ref}{d b:Nat}
 (hc:∀r,r∈row->∃u,cs[r.off]? = some u/\GR g u r.ty (.tag d r.m)):OW P F (g.upd w.heap.size (.var row d b)) dp Γ a (w.alloc (.cells cs e)):=by
 have hn:g w.heap.size=none:=by
  cases hg:g w.heap.size with
  |none=>rfl
  |some B=>exact dO (h.good.lt hg) (sZ _)
 have hna:∀T' q,g w.heap.size≠some (.arr T' q):=λT' q e=>by rw[hn]at e;cases e
 have hold:∀k,g k≠none->(w.alloc (.cells cs e)).heap[k]? = w.heap[k]?:= λk hk=>by
  cases hg:g k with
  |none=>exact dO hg hk
  |some B=>exact Oj w _ k (h.good.lt hg)
 have hg':=h.good.world hold;refine⟨⟨λk T' q hk=>?_,λk row' d' b' hk=>?_⟩,λf hf=>?_⟩
 ·rw[qj]at hk;split at hk
  ·cases hk
  ·rename_i hne;obtain⟨cs',e',hw,h2⟩:=hg'.arr k T' q hk;exact⟨cs',e',hw,λj u T' hb hu ht=>(h2 j u T' (by rwa[AA,aj hne]at hb) hu ht).upd hna⟩
 ·rw[qj]at hk;split at hk
  ·rename_i e1;cases hk;subst e1;exact⟨cs,e,heap_alloc_new w _,λr hr=>let ⟨u,hu,hgr⟩:=hc r hr;⟨u,hu,hgr.upd hna⟩⟩
  ·obtain⟨cs',e',hw,h2⟩:=hg'.var k row' d' b' hk;exact⟨cs',e',hw,λr hr=>let ⟨u,hu,hgr⟩:=h2 r hr;⟨u,hu,hgr.upd hna⟩⟩
 ·exact((h.fs f hf).new hn (aA _)).world (by show _<=(w.heap.push _).size;simp)
theorem setRow_size (w:World)(k:Nat)(cs:Array Value):(w.setRow k cs).heap.size=w.heap.size:=by simp[World.setRow]
theorem yQ (w:World){k k':Nat}(cs:Array Value)(h:k'≠k):(w.setRow k cs).heap[k']? = w.heap[k']?:=by simp only[World.setRow];rw[Array.getElem?_modify];rw[aj (Ne.symm h)]
theorem OW.QE (h:OW P F g dp Γ a w){k:Nat}{cs cs':Array Value}{e:Nat}(hw:w.heap[k]? = some (.cells cs e (0,0)))
 (hc:∀B,g k=some B->∃T p,B = .arr T p/\∀j u T',j<g.bd k*oD P T->cs'[j]? = some u->(j%oD P T,T')∈kD P T->GR g u T' (.blk k j)):OW P F g dp Γ a (w.setRow k cs'):=by
 have hnew:=setRow_heap w k cs cs' e (0,0) hw;refine⟨⟨λk' T p hk=>?_,λk' row d b hk=>?_⟩,λf hf=>(h.fs f hf).world (by rw[setRow_size];exact aA _)⟩
 ·by_cases hkk:k'=k
  ·subst hkk;obtain⟨T',p',hB,h2⟩:=hc _ hk;cases hB;exact⟨cs',e,hnew,h2⟩
  ·rw[yQ w cs' hkk];exact h.good.arr k' T p hk
 ·by_cases hkk:k'=k
  ·subst hkk;obtain⟨T',p',hB,_⟩:=hc _ hk;cases hB
  ·rw[yQ w cs' hkk];exact h.good.var k' row d b hk
theorem GR.EZ {u:Value}{T:Nat}{p:rC}(h:GR g u T p){k m:Nat}{B:Zj}{row:List Ref}{d b:Nat}(hk:g k=some (.var row d b)):GR (g.upn k B m) u T p:=
 h.upd λT' q e=>by rw[hk]at e;cases e
theorem OW.setVar (h:OW P F g dp Γ a w){k:Nat}{cs cs':Array Value}{e b:Nat}{row row':List Ref}(hw:w.heap[k]? = some (.cells cs e (0,0)))(hk:g k=some (.var row dp b))
 (hc:∀r,r∈row'->∃u,cs'[r.off]? = some u/\GR g u r.ty (.tag dp r.m)) {uA:List OF} (Ue:∀f,f∈uA->f ∈ Γ /\ ∀r,f = .row b r->r∈row') :
 OW P F (g.upd k (.var row' dp b)) dp uA a (w.setRow k cs'):=by
 have hnew:=setRow_heap w k cs cs' e (0,0) hw;have hg:(g.upd k (.var row' dp b)) k=some (.var row' dp b):=by simp[qj]
 have ho:∀{k'},k'≠k->(g.upd k (.var row' dp b)) k'=g k':=λhne=>by simp[qj,hne]
 refine⟨⟨λk' T p hk'=>?_,λk' EY d b2 hk'=>?_⟩,λf hf=>?_⟩
 ·by_cases hkk:k'=k
  ·subst hkk;rw[hg]at hk';cases hk'
  ·rw[ho hkk]at hk';obtain⟨c,e',h1,h2⟩:=h.good.arr k' T p hk';exact⟨c,e',by rw[yQ w cs' hkk];exact h1,λj u T' hb hu ht=>(h2 j u T' (by rwa[AA,aj hkk]at hb) hu ht).EZ hk⟩
 ·by_cases hkk:k'=k
  ·subst hkk;rw[hg]at hk';cases hk';exact⟨cs',e,hnew,λr hr=>let ⟨u,hu,hgr⟩:=hc r hr;⟨u,hu,hgr.EZ hk⟩⟩
  ·rw[ho hkk]at hk';obtain⟨c,e',h1,h2⟩:=h.good.var k' EY d b2 hk';exact⟨c,e',by rw[yQ w cs' hkk];exact h1,λr hr=>let ⟨u,hu,hgr⟩:=h2 r hr;⟨u,hu,hgr.EZ hk⟩⟩
 ·obtain⟨hf,hr⟩:=Ue f hf;have h0:=h.fs f hf;have old:∀{k' T:Nat} {X:Prop},(∀B,g k'=some B->(∃p,B = .arr T p)/\X)->∀B,(g.upd k (.var row' dp b)) k'=some B->(∃p,B = .arr T p)/\X:=by
   intro k' T X hold B hB;by_cases hkk:k'=k
   ·subst hkk;obtain⟨⟨p,e⟩,_⟩:=hold _ hk;cases e
   ·rw[ho hkk]at hB;exact hold B hB
  have hsz:(w.setRow k cs').heap.size=w.heap.size:=setRow_size w k cs';cases f with
  |sr t T=>intro ad n c hq0;obtain⟨k',o,h1,h2,h3⟩:=h0 ad n c hq0;exact⟨k',o,h1,by rw[hsz];exact h2,old h3⟩
  |ep t T off=>obtain⟨k',o,h1,h2,h3⟩:=h0;exact⟨k',o,h1,by rw[hsz];exact h2,old h3⟩
  | vp t b' off=>
    obtain⟨k',EY,h1,h2,h3⟩:=h0;by_cases hkk:k'=k
    ·subst hkk;rw[hk]at h3;cases h3;exact⟨k',row',h1,h2,hg⟩
    ·exact⟨k',EY,h1,h2,by rw[ho hkk];exact h3⟩
  |ref t r=>obtain⟨u,h1,h2⟩:=h0;exact⟨u,h1,h2.EZ hk⟩
  |xw t i r=>obtain⟨vs,x,u,h1,h2,h3,h4⟩:=h0;exact⟨vs,x,u,h1,h2,h3,h4.EZ hk⟩
  | row b' r=>
    obtain⟨k',EY,h1,h2,h3⟩:=h0;by_cases hkk:k'=k
    ·subst hkk;rw[hk]at h2;cases h2;exact⟨k',row',h1,hg,hr r rfl⟩
    ·exact⟨k',EY,h1,by rw[ho hkk];exact h2,h3⟩
  |fn t s=>exact h0
theorem Rel.setVar {N k b:Nat}{row row':List Ref}(hk:g k=some (.var row dp b)):Rel dp N g (g.upd k (.var row' dp b)):=by
 refine⟨λk' T d m hd hx=>?_,λk' EY d b2 hd hx=>?_,λk' B' hlt hB=>?_⟩
 ·have hne:k'≠k:=λe=>by subst e;rw[hk]at hx;cases hx
  rw[qj,AA,aj hne,aj hne];exact⟨hx,rfl⟩
 ·rw[qj];rw[aj (λe=>by subst e;rw[hk]at hx;cases hx;omega)];exact hx
 ·rw[qj]at hB;split at hB
  ·rename_i e;subst e;cases hB;exact⟨_,hk,λT p hb=>by rcases hb with e|e<;>cases e⟩
  ·exact(Rel.refl dp N g).old k' B' hlt hB
end
end
section
section
variable {P:Program}
theorem bM {α β:Type}{x:Sem α}{f:α->Sem β}{w w':World}{r:β}(h:(x >>= f).run P w = .ok r w'):∃y w1,x.run P w = .ok y w1/\(f y).run P w1 = .ok r w':=by
 rw[bC]at h;cases hx:x.run P w with
 |ok y w1=>rw[hx]at h;exact⟨y,w1,rfl,h⟩
 |halt e w1=>rw[hx]at h;cases h
theorem eY {α:Type}{x r:α}{w w':World}(h:(pure x:Sem α).run P w = .ok r w'):r=x/\w'=w:=by rw[aZ]at h;cases h;exact⟨rfl,rfl⟩
theorem uY {t:TypeId}{d:TypeDesc}{w w':World}(h:(underlying t).run P w = .ok d w'):P.underlying t=some d/\w'=w:=by
 unfold underlying at h;obtain⟨p,w1,h1,h2⟩:=bM h;rw[run_program]at h1;cases h1;split at h2
 ·rename_i d' hd;obtain⟨rfl,rfl⟩:=eY h2;exact⟨hd,rfl⟩
 ·cases h2
theorem BR {t:TypeId}{i:TypeInfo}{w w':World}(h:(typeInfo t).run P w = .ok i w'):P.info? t=some i/\w'=w:=by
 unfold typeInfo at h;obtain⟨p,w1,h1,h2⟩:=bM h;rw[run_program]at h1;cases h1;split at h2
 ·rename_i d' hd;obtain⟨rfl,rfl⟩:=eY h2;exact⟨hd,rfl⟩
 ·cases h2
theorem yg {t:TypeId}{k:Nat}{w w':World}(h:(sizeOf t).run P w = .ok k w'):∃i,P.info? t=some i/\i.size=k/\w'=w:=by unfold sizeOf at h;obtain⟨i,w1,h1,h2⟩:=bM h;obtain⟨h3,rfl⟩:=BR h1;obtain⟨rfl,rfl⟩:=eY h2;exact⟨i,h3,rfl,rfl⟩
theorem V5 {t:TypeId}{b:Bool}{w w':World}(h:(isAgg t).run P w = .ok b w'):(∃d,P.underlying t=some d/\b=CU d)/\w'=w:=by unfold isAgg at h;obtain⟨d,w1,h1,h2⟩:=bM h;obtain⟨h3,rfl⟩:=uY h1;cases d<;>(obtain⟨rfl,rfl⟩:=eY h2;exact⟨⟨_,h3,rfl⟩,rfl⟩)
theorem KG {v:Value}{p:Addr}{w w':World}(h:(iw v).run P w = .ok p w'):v = .pointer (some p)/\w'=w:=by
 unfold iw at h;split at h
 ·obtain⟨rfl,rfl⟩:=eY h;exact⟨rfl,rfl⟩
 ·cases h
theorem yX {s:Sem Value}{v:Value}{w w':World}(h:((do pure (.value (<- s))):Sem Next).run P w = .ok (.value v) w'):s.run P w = .ok v w':=by obtain⟨y,w1,h1,h2⟩:=bM h;obtain⟨e,rfl⟩:=eY h2;cases e;exact h1
theorem Sl {p:Addr}{v:Value}{w w':World}(h:(load p).run P w = .ok v w'):w'=w/\∀u,w.cell? p=some u->v=u:=by
 rw[run_load]at h;split at h
 ·rename_i u hu;cases h;exact⟨rfl,λu' hu'=>by rw[hu]at hu';cases hu';rfl⟩
 ·rename_i hn;split at h
  ·cases h;exact⟨rfl,λu hu=>by rw[hn]at hu;cases hu⟩
  ·cases h
theorem CX {p:Addr} : ∀(n i:Nat) (acc:Array Value) (w:World) (r:Array Value) (w':World),(loadCellsFrom p i n acc).run P w = .ok r w' ->
 w'=w/\(∀j,j<acc.size->r[j]? = acc[j]?)/\∀j,j<n->∀u,w.cell? (p.add (i+j))=some u->r[acc.size+j]? = some u
 | 0,i,acc,w,r,w',h=>by unfold loadCellsFrom at h;obtain⟨rfl,rfl⟩:=eY h;exact⟨rfl,λ_ _=>rfl,λj hj=>dO hj (Nat.not_lt_zero _)⟩
 | n+1,i,acc,w,r,w',h=>by
   unfold loadCellsFrom at h;obtain⟨v,w1,h1,h2⟩:=bM h;obtain⟨rfl,hv⟩:=Sl h1;obtain⟨h3,h4,h5⟩:=CX n (i+1) (acc.push v) _ r w' h2;refine⟨h3,λj hj=>?_,λj hj u hu=>?_⟩
   ·rw[h4 j (by simp;omega),vX,aj aQ]
   ·cases j with
    | zero=>have:=hv u (by simpa using hu);subst this;have:=h4 acc.size kY;simpa using this
    | succ j=>
      have:=h5 j aQ u (by rw[show i+1+j=i+(j+1) by omega];exact hu);simp only[Array.size_push]at this
      rwa[show acc.size+1+j=acc.size+(j+1) by omega]at this
theorem Eh {t:TypeId}{p:Addr}{v:Value}{w w':World}(h:(loadVar t p).run P w = .ok v w') :
 w'=w/\((∃d i,P.underlying t=some d/\CU d=true/\P.info? t=some i/\∀j u,j<i.size->w.cell? (p.add j)=some u->v.cells[j]? = some u) \/
  (∃d,P.underlying t=some d/\CU d=false/\∀u,w.cell? p=some u->v=u)):=by
 unfold loadVar at h;obtain⟨b,w1,h1,h2⟩:=bM h;obtain⟨⟨d,hd,rfl⟩,rfl⟩:=V5 h1;cases hb:CU d with
 | true=>rw[hb]at h2;simp only[iT]at h2;obtain⟨k,w2,h3,h4⟩:=bM h2;obtain⟨i,hi,rfl,rfl⟩:=yg h3;obtain⟨r,w3,h5,h6⟩:=bM h4;unfold loadCells at h5;obtain⟨rfl,_,h7⟩:=CX _ _ _ _ _ _ h5;obtain⟨rfl,rfl⟩:=eY h6;refine⟨rfl,.inl ⟨d,i,hd,hb,hi,λj u hj hu=>?_⟩⟩;have:=h7 j hj u (by simpa using hu);simpa[jD]using this
 | false=>rw[hb]at h2;obtain⟨rfl,hv⟩:=Sl h2;exact⟨rfl,.inr ⟨d,hd,hb,hv⟩⟩
end
end
section
def OF.re (s d:Nat):OF->Option OF
 |.sr x T=>if x=s then some (.sr d T)else none
 |.ep x T o=>if x=s then some (.ep d T o)else none
 |.vp x b o=>if x=s/\b≠d then some (.vp d b o)else none
 |.ref x r=>if x=s then some (.ref d r)else none
 |.xw x i r=>if x=s then some (.xw d i r)else none
 |.fn x k=>if x=s then some (.fn d k)else none
 |.row _ _=>none
def OF.lS (P:Program)(s d off:Nat):OF->Option OF
 |.ep x T o=>if x=s/\o+off<oD P T then some (.ep d T (o+off))else none
 |.vp x b o=>if x=s/\b≠d then some (.vp d b (o+off))else none
 |_=>none
def OF.uP (P:Program)(s d sz:Nat):OF->Option OF
 |.sr x T=>if x=s/\oD P T=sz then some (.ep d T 0)else none
 |.ref x r=>if x=s/\r.off=0/\oD P r.ty=sz then some (.ep d r.ty 0)else none
 |_=>none
def OF.part (s d off k:Nat):OF->Option OF
 |.ref x r=>if x=s/\off<=r.off/\r.off<off+k then some (.ref d ⟨r.off-off,r.ty,r.m⟩)else none
 |_=>none
def OF.Z5 (s d i:Nat):OF->Option OF
 |.xw x j r=>if x=s/\j=i then some (.ref d r)else none
 |_=>none
def OF.rowP (b d off k:Nat):OF->Option OF
 |.row x r=>if x=b/\off<=r.off/\r.off<off+k then some (.ref d ⟨r.off-off,r.ty,r.m⟩)else none
 |_=>none
def OF.ldv (Γ : List OF)(s d k:Nat):OF->List OF
 |.vp x b o=>if x=s then Γ.filterMap (OF.rowP b d o k)else []
 |_=>[]
section
variable {P:Program} {F:Jk} {g:Own} {dp:Nat} {Γ : List OF} {a:Act} {w:World} {d s:Nat} {v:Value}
theorem xq.copy {f f':OF}(h:xq P F g dp a w f)(hr:f.re s d=some f')(hd:d<a.tmps.size)(hv:v=a.tmps.getD s undef):xq P F g dp (a.put (some d) v) w f':=by
 have hs:=dM (v:=v) hd;subst hv;cases f with
 |sr x T=>simp only[OF.re]at hr;split at hr<;>cases hr;rename_i e;subst e;simp only[xq,hs]at h⊢;exact h
 |ep x T o=>simp only[OF.re]at hr;split at hr<;>cases hr;rename_i e;subst e;simp only[xq,hs]at h⊢;exact h
 | vp x b o=>simp only[OF.re]at hr;split at hr<;>cases hr;rename_i e;obtain⟨rfl,hb⟩:=e;simp only[xq,hs,jP hb]at h⊢;exact h
 |ref x r=>simp only[OF.re]at hr;split at hr<;>cases hr;rename_i e;subst e;simp only[xq,hs]at h⊢;exact h
 |xw x i r=>simp only[OF.re]at hr;split at hr<;>cases hr;rename_i e;subst e;simp only[xq,hs]at h⊢;exact h
 |fn x k=>simp only[OF.re]at hr;split at hr<;>cases hr;rename_i e;subst e;simp only[xq,hs]at h⊢;exact h
 |row b r=>cases hr
theorem xq.lS {f f':OF}{off:Nat}{p:Addr}(h:xq P F g dp a w f)(hr:f.lS P s d off=some f')(hd:d<a.tmps.size)(hp:a.tmps.getD s undef = .pointer (some p))(hv:v = .pointer (some (p.add off))) :
 xq P F g dp (a.put (some d) v) w f':=by
 have hs:=dM (v:=v) hd;cases f with
 | ep x T o=>simp only[OF.lS]at hr;split at hr<;>cases hr;rename_i e;obtain⟨rfl,hlt⟩:=e;obtain⟨k,o',h1,h2,h3⟩:=h;rw[hp]at h1;cases h1;refine⟨k,o'+off,by rw[hs,hv,Addr.mD],h2,λB hB=>?_⟩;obtain⟨hB1,hB2⟩:=h3 B hB;refine⟨hB1,?_⟩;rw[Nat.add_mod,hB2,oK (show off<oD P T by omega),oK hlt]
 | vp x b o=>simp only[OF.lS]at hr;split at hr<;>cases hr;rename_i e;obtain⟨rfl,hb⟩:=e;obtain⟨k,row,h1,h2,h3⟩:=h;rw[hp]at h2;cases h2;exact⟨k,row,by rw[jP hb];exact h1,by rw[hs,hv,Addr.mD],h3⟩
 |sr _ _=>cases hr
 |ref _ _=>cases hr
 |xw _ _ _=>cases hr
 |row _ _=>cases hr
 |fn _ _=>cases hr
theorem xq.uP {f f':OF}{sz i:Nat}{p:Addr}{m c:Nat}(hg:Good P g w)(h:xq P F g dp a w f)(hr:f.uP P s d sz=some f')(hd:d<a.tmps.size)(hp:a.tmps.getD s undef = .slice (some p) m c)(hv:v = .pointer (some (p.add (i*sz)))) :
 xq P F g dp (a.put (some d) v) w f':=by
 have hs:=dM (v:=v) hd;cases f with
 | sr x T=>simp only[OF.uP]at hr;split at hr<;>cases hr;rename_i e;obtain⟨rfl,rfl⟩:=e;obtain⟨k,o',h1,h2,h3⟩:=h p m c hp;subst h1;refine⟨k,o'+i*oD P T,by rw[hs,hv,Addr.mD],h2,λB hB=>?_⟩;obtain⟨hB1,hB2⟩:=h3 B hB;exact⟨hB1,by rw[Nat.add_mul_mod_self_right];exact hB2⟩
 | ref x r=>
   simp only[OF.uP]at hr;split at hr<;>cases hr;rename_i e;obtain⟨rfl,h0,rfl⟩:=e;obtain⟨u,h1,h2⟩:=h;rw[hp,h0]at h1;simp[jD]at h1;subst h1;rcases h2 with h|⟨k,n,c',h3,h4⟩
   ·cases h
   ·cases h3;refine⟨k,0+i*oD P r.ty,by rw[hs,hv,Addr.mD],hg.lt h4.1,λB hB=>?_⟩;rw[h4.1]at hB;cases hB;exact⟨⟨_,rfl⟩,kY⟩
 |ep _ _ _=>cases hr
 |vp _ _ _=>cases hr
 |xw _ _ _=>cases hr
 |row _ _=>cases hr
 |fn _ _=>cases hr
theorem xq.part {f f':OF}{off k:Nat}(h:xq P F g dp a w f)(hr:f.part s d off k=some f')(hd:d<a.tmps.size)
 (hv:∀j u,j<k->(a.tmps.getD s undef).cells[off+j]? = some u->v.cells[j]? = some u\/¬ ∃b n c,u = .slice b n c):xq P F g dp (a.put (some d) v) w f':=by
 have hs:=dM (v:=v) hd;cases f with
 | ref x r=>
   simp only[OF.part]at hr;split at hr<;>cases hr;rename_i e;obtain⟨rfl,h1,h2⟩:=e;obtain⟨u,hu,hg⟩:=h;have:=hv (r.off-off) u aQ (by rw[show off+(r.off-off)=r.off by omega];exact hu);rcases this with h3|h3
   ·exact⟨u,by rw[hs];exact h3,hg⟩
   ·exact dO (by rcases hg with e|⟨k,n,c,e,_⟩<;>exact⟨_,_,_,e⟩) h3
 |sr _ _=>cases hr
 |ep _ _ _=>cases hr
 |vp _ _ _=>cases hr
 |xw _ _ _=>cases hr
 |row _ _=>cases hr
 |fn _ _=>cases hr
theorem xq.Z5 {f f':OF}{i:Nat}{vs:Array Value}(h:xq P F g dp a w f)(hr:f.Z5 s d i=some f')(hd:d<a.tmps.size)(hp:a.tmps.getD s undef = .tuple vs)(hv:vs[i]? = some v):xq P F g dp (a.put (some d) v) w f':=by
 have hs:=dM (v:=v) hd;cases f with
 | xw x j r=>simp only[OF.Z5]at hr;split at hr<;>cases hr;rename_i e;obtain⟨rfl,rfl⟩:=e;obtain⟨vs',y,u,h1,h2,h3,h4⟩:=h;rw[hp]at h1;cases h1;rw[hv]at h2;cases h2;exact⟨u,by rw[hs];exact h3,h4⟩
 |sr _ _=>cases hr
 |ep _ _ _=>cases hr
 |vp _ _ _=>cases hr
 |ref _ _=>cases hr
 |row _ _=>cases hr
 |fn _ _=>cases hr
theorem xq.ldv {f f':OF}{k:Nat}{p:Addr}(hg:Good P g w)(Ue:∀f,f ∈ Γ -> xq P F g dp a w f)(hf:f ∈ Γ)(hr:f'∈f.ldv Γ s d k)(hd:d<a.tmps.size)(hp:a.tmps.getD s undef = .pointer (some p))
 (hv:∀j u,j<k->w.cell? (p.add j)=some u->v.cells[j]? = some u\/¬ ∃b n c,u = .slice b n c):xq P F g dp (a.put (some d) v) w f':=by
 have hs:=dM (v:=v) hd;cases f with
 | vp x b o=>
   simp only[OF.ldv]at hr;split at hr
   ·rename_i e;subst e;rw[bK]at hr;obtain⟨f2,hf2,hr⟩:=hr;cases f2 with
    | row y r=>
      simp only[OF.rowP]at hr;split at hr<;>cases hr;rename_i e;obtain⟨rfl,h1,h2⟩:=e;obtain⟨kk,row,e1,e2,e3⟩:=Ue _ hf;obtain⟨Zl,row',e4,e5,e6⟩:=Ue _ hf2;rw[e1]at e4;cases e4;rw[e3]at e5;cases e5;rw[hp]at e2;cases e2;obtain⟨cs,e,hw,hrow⟩:=hg.var _ _ _ _ e3;obtain⟨u,hu,hgr⟩:=hrow r e6;have hc:w.cell? ((⟨kk,o,none⟩:Addr).add (r.off-o))=some u:=by rw[Addr.mD,show o+(r.off-o)=r.off by omega];simp[dY,hw,hu]
      rcases hv (r.off-o) u aQ hc with h3|h3
      ·exact⟨u,by rw[hs];exact h3,hgr⟩
      ·exact dO (by rcases hgr with e|⟨k,n,c,e,_⟩<;>exact⟨_,_,_,e⟩) h3
    |sr _ _=>cases hr
    |ep _ _ _=>cases hr
    |vp _ _ _=>cases hr
    |ref _ _=>cases hr
    |xw _ _ _=>cases hr
    |fn _ _=>cases hr
   ·cases hr
 |sr _ _=>cases hr
 |ep _ _ _=>cases hr
 |ref _ _=>cases hr
 |xw _ _ _=>cases hr
 |row _ _=>cases hr
 |fn _ _=>cases hr
end
end
section
def oq (P:Program)(Γ : List OF)(d:Nat):Op->List OF
 |.move (.tmp s)=> Γ.filterMap (OF.re s d)
 |.assign (.tmp s)=> Γ.filterMap (OF.re s d)
 |.nilCheck (.tmp s)=> Γ.filterMap (OF.re s d)
 | .fieldAddr t (.tmp s) f=>(match P.underlying t with
   | some (.struct fs)=>(match fs[f]? with
     | some fl=>(match P.info? fl.type with
       |some i=>if i.size=0 then []else Γ.filterMap (OF.lS P s d fl.offset)
       |none=>[])
     |none=>[])
   |_=>[])
 | .indexAddr t (.tmp s) _=>(match P.underlying t with
   | some (.slice e)=>(match P.info? e with
     |some i=> Γ.filterMap (OF.uP P s d i.size)
     |none=>[])
   |_=>[])
 | .field t (.tmp s) f=>(match P.underlying t with
   | some (.struct fs)=>(match fs[f]? with
     | some fl=>(match P.underlying fl.type,P.info? fl.type with
       |some de,some i=> Γ.filterMap (OF.part s d fl.offset (if CU de then i.size else 1))
       |_,_=>[])
     |none=>[])
   |_=>[])
 |.extract (.tmp s) i=> Γ.filterMap (OF.Z5 s d i)
 | .load t (.tmp s)=>(match P.underlying t,P.info? t with
   |some de,some i=> Γ.flatMap (OF.ldv Γ s d (if CU de then i.size else 1))
   |_,_=>[])
 |_=>[]
section
variable {P:Program} {F:Jk} {g:Own} {dp:Nat} {Γ : List OF} {a:Act} {w:World} {d:Nat} {v:Value}
theorem Es {u:Value}(h:∃b n c,u = .slice b n c):u.cells = #[u]:=by obtain⟨b,n,c,rfl⟩:=h;rfl
theorem N7 {α:Type}{k:IntKind}{i:Int}{n:Int}{c:BoundsCode}{r:α}{w w':World}(h:(boundsPanic k i n c:Sem α).run P w = .ok r w'):False:=by
 unfold boundsPanic at h;simp only at h;split at h
 ·obtain⟨_,_,_,h2⟩:=bM h;cases h2
 ·obtain⟨_,_,_,h2⟩:=bM h;cases h2
theorem aa9 (h:OW P F g dp Γ a w)(hd:d<a.tmps.size){o:Oper}{w':World}(hr:(execOp a.eval o).run P w = .ok (.value v) w'):∀f,f∈oq P Γ d o.op->xq P F g dp (a.put (some d) v) w f:=by
 intro f hf;have e1:∀t,a.eval (.tmp t)=a.tmps.getD t undef:=λt=>rfl;unfold oq at hf;split at hf
 ·rename_i s ho;rw[bK]at hf;obtain⟨f0,h0,h1⟩:=hf;simp only[execOp,ho,aZ]at hr;cases hr;exact(h.fs f0 h0).copy h1 hd (e1 s)
 ·rename_i s ho;rw[bK]at hf;obtain⟨f0,h0,h1⟩:=hf;simp only[execOp,ho,aZ]at hr;cases hr;exact(h.fs f0 h0).copy h1 hd (e1 s)
 ·rename_i s ho;rw[bK]at hf;obtain⟨f0,h0,h1⟩:=hf;have hv:v=a.tmps.getD s undef:=by
   simp only[execOp,ho,e1]at hr;split at hr
   ·cases hr
   ·cases hr
   ·cases hr
   ·split at hr
    ·cases hr
    ·obtain⟨y,w1,h2,h3⟩:=bM hr;obtain⟨_,w2,_,h5⟩:=bM h3;split at h5
     ·obtain⟨_,_,h6,_⟩:=bM h5;cases h6
     ·have:=(eY h5).1;cases this
      symm;assumption
    ·have:=(eY hr).1;cases this
     symm;assumption
   ·have:=(eY hr).1;cases this;rfl
  exact(h.fs f0 h0).copy h1 hd hv
 ·rename_i t s fi ho;simp only[execOp,ho]at hr;have hr:=yX hr;unfold uk at hr;obtain⟨de,w1,h1,h2⟩:=bM hr;obtain⟨hu,rfl⟩:=uY h1;rw[hu]at hf;split at hf
  ·rename_i fs heq;cases heq;simp only at h2;split at hf
   ·rename_i fl hfl;rw[hfl]at h2;simp only at h2;obtain⟨p,w2,h3,h4⟩:=bM h2;obtain⟨hp,rfl⟩:=KG h3;obtain⟨q,w3,h5,h6⟩:=bM h4;obtain⟨rfl,rfl⟩:=eY h6;unfold fieldPlace at h5;obtain⟨k,w4,h7,h8⟩:=bM h5;obtain⟨i,hi,rfl,rfl⟩:=yg h7;rw[hi]at hf;simp only at hf;split at hf
    ·cases hf
    ·rename_i hne;rw[aj hne]at h8;obtain⟨rfl,_⟩:=eY h8;rw[bK]at hf;obtain⟨f0,h9,h10⟩:=hf;exact(h.fs f0 h9).lS h10 hd hp rfl
   ·cases hf
  ·cases hf
 ·rename_i t s ix ho;simp only[execOp,ho]at hr;have hr:=yX hr;split at hf
  ·rename_i e hu;split at hf
   ·rename_i i hi;rw[bK]at hf;obtain⟨f0,h0,h1⟩:=hf;unfold oH at hr;obtain⟨ki,w1,h2,h3⟩:=bM hr;obtain⟨k,ii⟩:=ki;have hw1:w1=w:=by
     unfold asIntOf at h2;split at h2<;>first|(obtain⟨_,rfl⟩:=eY h2;rfl)|cases h2
    subst hw1;obtain⟨de,w2,h4,h5⟩:=bM h3;obtain⟨hu',rfl⟩:=uY h4;rw[hu]at hu';cases hu';rw[e1]at h5;cases hs:a.tmps.getD s undef with
    | slice base len cap=>
      rw[hs]at h5;obtain⟨bl,w3,h6,h7⟩:=bM h5;obtain⟨rfl,rfl⟩:=eY h6;simp only at h7;obtain⟨de2,w4,h8,h9⟩:=bM h7;obtain⟨hu2,rfl⟩:=uY h8;rw[hu]at hu2;cases hu2;cases base with
      | none=>simp only at h9;exact(N7 h9).elim
      | some p=>
        simp only at h9;split at h9
        ·obtain⟨sz,w5,h12,h13⟩:=bM h9;obtain⟨i',hi',rfl,rfl⟩:=yg h12;rw[hi]at hi';cases hi';have hv:=(eY h13).1;exact(h.fs f0 h0).uP h.good h1 hd hs hv
        ·split at h9
         ·cases h9
         ·exact(N7 h9).elim
    |_=>rw[hs]at h5;obtain⟨_,_,h6,_⟩:=bM h5;cases h6
   ·cases hf
  ·cases hf
 ·rename_i t s fi ho;simp only[execOp,ho,e1]at hr;have hr:=yX hr;unfold yE at hr;obtain⟨de,w1,h1,h2⟩:=bM hr;obtain⟨hu,rfl⟩:=uY h1;rw[hu]at hf;split at hf
  ·rename_i fs heq;cases heq;simp only at h2;split at hf
   ·rename_i fl hfl;rw[hfl]at h2;simp only at h2;obtain⟨cs,w2,h3,h4⟩:=bM h2;have hcs:a.tmps.getD s undef = .agg cs/\w2=w1:=by
     unfold asAgg at h3;split at h3
     ·rename_i heq;obtain⟨rfl,rfl⟩:=eY h3;exact⟨heq,rfl⟩
     ·cases h3
    obtain⟨hcs,rfl⟩:=hcs;unfold part at h4;obtain⟨b,w3,h5,h6⟩:=bM h4;obtain⟨⟨de',hde,rfl⟩,rfl⟩:=V5 h5;split at hf
    ·rename_i de2 i aga hi;rw[hde]at aga;cases aga;rw[bK]at hf;obtain⟨f0,h7,h8⟩:=hf;refine(h.fs f0 h7).part h8 hd λj u hj hu=>?_;rw[hcs]at hu;simp only[jD]at hu;cases hb:CU de' with
     | true=>
       rw[hb]at h6 hj;simp only[iT]at h6 hj;obtain⟨k,w4,h9,h10⟩:=bM h6;obtain⟨i',hi',rfl,rfl⟩:=yg h9;rw[hi]at hi';cases hi';have hv:=(eY h10).1;subst hv
       left
       simp only[jD];have hlt:=(bY.1 hu).1;rw[Array.getElem?_extract];rw[aF aQ];exact hu
     | false=>
       rw[hb]at h6 hj;simp only[kz,if_false]at h6 hj;have hj0:j=0:=(by omega);subst hj0;rw[kG]at hu;rw[hu]at h6;have hv:=(eY h6).1;subst hv;by_cases hs:∃b n c,v = .slice b n c
       ·left;rw[Es hs];rfl
       ·exact .inr hs
    ·cases hf
   ·cases hf
  ·cases hf
 ·rename_i s i ho;rw[bK]at hf;obtain⟨f0,h0,h1⟩:=hf;simp only[execOp,ho,e1]at hr;have hr:=yX hr;unfold xI at hr;split at hr
  ·rename_i vs heq;split at hr
   ·rename_i x hx;have hv:=(eY hr).1;subst hv;exact(h.fs f0 h0).Z5 h1 hd heq hx
   ·cases hr
  ·cases hr
 ·rename_i t s ho;simp only[execOp,ho,e1]at hr;have hr:=yX hr;unfold kN at hr;obtain⟨p,w1,h1,h2⟩:=bM hr;obtain⟨hp,rfl⟩:=KG h1;obtain⟨_,hld⟩:=Eh h2;split at hf
  ·rename_i de i hde hi;rw[List.mem_flatMap]at hf;obtain⟨f0,h3,h4⟩:=hf;refine xq.ldv h.good h.fs h3 h4 hd hp λj u hj hu=>?_;rcases hld with⟨de',i',h5,h6,h7,h8⟩|⟨de',h5,h6,h7⟩
   ·rw[hde]at h5;cases h5;rw[hi]at h7;cases h7;rw[h6]at hj;exact .inl (h8 j u hj hu)
   ·rw[hde]at h5;cases h5;rw[h6]at hj;simp only[kz,if_false]at hj;have hj0:j=0:=(by omega);subst hj0;rw[Addr.add_zero]at hu;have hv:=h7 u hu;subst hv;by_cases hs:∃b n c,v = .slice b n c
    ·left;rw[Es hs];rfl
    ·exact .inr hs
  ·cases hf
 ·cases hf
end
end
section
abbrev RR :=List (Nat×Nat×Option Nat)
def Ih (g:Own)(dp:Nat)(cs:Array Value)(R:RR):Prop:=∀e,e∈R->∃u,cs[e.1]? = some u/\match e.2.2 with
 |some m=>GR g u e.2.1 (.tag dp m)
 |none=>Vq u
def ada : Value->Bool
 |.slice none 0 0=>true
 |_=>false
theorem Ko {v:Value}(h:ada v=true):Vq v:=by
 unfold ada at h;split at h
 ·rfl
 ·cases h
def Ia (z:Array Value)(L:List (Nat×Nat)):Option RR:=if L.all λe=>(match z[e.1]? with|some v=>ada v|none=>false)then some (L.map λe=>(e.1,e.2,none))else none
def yC (Γ : List OF)(off size:Nat):Operand->RR
 | .tmp s=> Γ.filterMap λf=>match f with
   |.ref y r=>if y=s/\r.off<size then some (off+r.off,r.ty,some r.m)else none
   |_=>none
 |_=>[]
def Rw (place:Nat->Option (Nat×Nat))(Γ : List OF):List (Nat×Operand)->RR->RR
 |[],R=>R
 | (i,x)::r,R=>match place i with
   |some (off,size)=>Rw place Γ r ((R.filter λe=>decide (e.1<off)||decide (off+size<=e.1))++yC Γ off size x)
   |none=>R
section
variable {P:Program} {F:Jk} {g:Own} {dp:Nat} {Γ : List OF} {a:Act} {w:World}
theorem Ua {z:Array Value}{L:List (Nat×Nat)}{R:RR}(h:Ia z L=some R):Ih g dp z R:=by
 unfold Ia at h;split at h
 ·rename_i hz;cases h;intro e he;rw[aG]at he;obtain⟨e0,h0,rfl⟩:=he;rw[aB]at hz;have:=hz e0 h0;cases hc:z[e0.1]? with
  |none=>rw[hc]at this;cases this
  |some v=>rw[hc]at this;exact⟨v,rfl,Ko this⟩
 ·cases h
theorem Ih.splice {cs:Array Value}{R:RR}(h:Ih g dp cs R){off:Nat}{v:Value}(hfit:off+v.cells.size<=cs.size){x:Operand}(Ue:∀f,f ∈ Γ -> xq P F g dp a w f)(hv:a.eval x=v){cs':Array Value}(hcs:cs'.toList=splice cs.toList off v.cells.toList) :
 Ih g dp cs' ((R.filter λe=>decide (e.1<off)||decide (off+v.cells.size<=e.1))++yC Γ off v.cells.size x):=by
 have hget:∀j:Nat,cs'[j]? = if j<off then cs[j]? else if j<off+v.cells.size then v.cells[j-off]? else cs[j]?:= λj=>by rw[<- ou,hcs,kR _ _ _ _ (by simpa using hfit)];simp
 intro e he;rw[bg]at he;rcases he with he|he
 ·rw[aC]at he;obtain⟨h1,h2⟩:=he;obtain⟨u,hu,hg⟩:=h e h1;simp only[Bool.or_eq_true,ak]at h2;refine⟨u,?_,hg⟩;rw[hget];rcases h2 with h2|h2
  ·rw[aF h2];exact hu
  ·rw[aj aQ,aj aQ];exact hu
 ·unfold yC at he;split at he
  ·rename_i s;rw[bK]at he;obtain⟨f,hf,he⟩:=he;split at he
   ·rename_i y r;split at he
    ·rename_i hc;cases he;obtain⟨rfl,hlt⟩:=hc;obtain⟨u,hu,hg⟩:=Ue _ hf;have e1:a.eval (.tmp y)=a.tmps.getD y undef:=rfl;rw[e1]at hv;rw[hv]at hu;refine⟨u,?_,hg⟩;rw[hget,aj aQ,aF aQ,show off+r.off-off=r.off by omega];exact hu
    ·cases he
   ·cases he
  ·cases he
theorem Lr {place:Nat->Option (Nat×Nat)}(Ue:∀f,f ∈ Γ -> xq P F g dp a w f):∀(ps:List (Nat×Operand)) (cs out:Array Value) (R:RR),Ih g dp cs R->mg place cs (ps.map λp=>(p.1,a.eval p.2))=some out->Ih g dp out (Rw place Γ ps R)/\out.size=cs.size
 | [],cs,out,R,h,he=>by simp only[kF,mg]at he;cases he;exact⟨h,rfl⟩
 | (i,x)::r,cs,out,R,h,he=>by
   simp only[bf,mg]at he;simp only[Rw];cases hp:place i with
   |none=>rw[hp]at he;cases he
   | some q=>
     obtain⟨off,size⟩:=q;rw[hp]at he
     dsimp only at he⊢
     split at he
     ·cases he
     ·rename_i hc;have h1:(a.eval x).cells.size=size:=(by simp at hc;exact hc.1);have h2:off+(a.eval x).cells.size<=cs.size:=(by simp at hc;exact hc.2);have hf:=foldl_set (a.eval x).cells off cs h2;have:=Lr Ue r _ out _ (h.splice h2 Ue rfl hf) he;rw[h1]at this;refine⟨this.1,this.2.trans ?_⟩;rw[<- fE,hf,length_splice _ _ _ (by simpa using h2)];simp
def mk (d j:Nat):Nat:=1000+d*100+j
def rowOf (d:Nat)(R:RR):List Ref:=R.map λe=>⟨e.1,e.2.1,match e.2.2 with|some m=>m|none=>mk d e.1⟩
theorem MN {cs:Array Value}{R:RR}(h:Ih g dp cs R)(d:Nat):∀r,r∈rowOf d R->∃u,cs[r.off]? = some u/\GR g u r.ty (.tag dp r.m):=by
 intro r hr;rw[rowOf,aG]at hr;obtain⟨e,he,rfl⟩:=hr;obtain⟨u,hu,hg⟩:=h e he;refine⟨u,hu,?_⟩;cases hm:e.2.2 with
 |some m=>rw[hm]at hg;exact hg
 |none=>rw[hm]at hg;exact .inl hg
theorem Md {t:TypeId}{v:Value}{p:Addr}{w w':World}(h:(newVar t v).run P w = .ok p w'):p=⟨w.heap.size,0,none⟩/\w'=w.alloc (.cells v.cells t):=by rw[yP]at h;cases h;exact⟨rfl,rfl⟩
theorem Ib {t:TypeId}{z:Value}{w w':World}(h:(zeroValue t).run P w = .ok z w'):(∃i,P.info? t=some i/\i.zero=some z)/\w'=w:=by
 unfold zeroValue at h;obtain⟨i,w1,h1,h2⟩:=bM h;obtain⟨hi,rfl⟩:=BR h1;split at h2
 ·rename_i v hv;obtain⟨rfl,rfl⟩:=eY h2;exact⟨⟨i,hi,hv⟩,rfl⟩
 ·cases h2
def QS (d:Nat)(row:List Ref):List OF:=.vp d d 0::row.map (.row d)
theorem OW.QS (h:OW P F g dp Γ a w){d:Nat}(hd:d<a.tmps.size){cs:Array Value}{e:Nat}{row:List Ref}(hc:∀r,r∈row->∃u,cs[r.off]? = some u/\GR g u r.ty (.tag dp r.m)){N:Nat}(hN:N<=w.heap.size) :
 ∃g',Rel dp N g g'/\OW P F g' dp (QS d row ++ Γ.filter (Ar d)) (a.put (some d) (.pointer (some ⟨w.heap.size,0,none⟩))) (w.alloc (.cells cs e)):=by
 have hn:g w.heap.size=none:=by
  cases hg:g w.heap.size with
  |none=>rfl
  |some B=>exact dO (h.good.lt hg) (sZ _)
 have h1:=(h.drop d (.pointer (some ⟨w.heap.size,0,none⟩))).newVar (cs:=cs) (e:=e) (row:=row) (d:=dp) (b:=d) hc;refine⟨_,Rel.new hn hN,h1.good,λf hf=>?_⟩;rw[bg]at hf;have hs:=dM (v:=.pointer (some ⟨w.heap.size,0,none⟩)) hd;have hg:(g.upd w.heap.size (.var row dp d)) w.heap.size=some (.var row dp d):=by simp[qj]
 rcases hf with hf|hf
 ·simp only[Ab.QS,au,aG]at hf;rcases hf with rfl|⟨r,hr,rfl⟩
  ·exact⟨w.heap.size,row,hs,hs,hg⟩
  ·exact⟨w.heap.size,row,hs,hg,hr⟩
 ·exact h1.fs f hf
end
end
end Go.Ab
