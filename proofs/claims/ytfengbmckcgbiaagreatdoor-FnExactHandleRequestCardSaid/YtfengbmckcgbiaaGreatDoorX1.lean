/- What abstract values, states and codes of the program's language mean, and that they are sound (part 1). No conditions. -/
import Derived.Below
import Derived.OwnWalk
import Derived.Orders
import Derived.Lib.Bytealg
import Derived.Lib.Overlaps
import Derived.Laws.Externs
import Derived.KernelRfl
import Derived.Lib.ItoaNum
import Derived.Laws.Cells
import Derived.Lib.Strings
import Derived.Laws.BytesString
import Derived.Laws.MakeOwn
import Derived.Laws.Tables
import Derived.Laws.CopyRow
import Derived.Laws.AppendOwn
import Derived.Laws.OwnMore
import Derived.Tactics
import Derived.Shelf.Strings.Builder1
import Derived.Shelf.Strconv.Itoa3
import Derived.Lib.AppendIntMem
import Derived.Test.YtfengbmckcgbiaaGreatDoorProg
import Derived.Lib.ItoaLen
import Derived.ProofKit
import Derived.Lib.LaidTab
import Derived.OpenShut
import Derived.Carry
import Derived.Stop.LaidErr
import Derived.Shelf.Vars
import Derived.Test.YtfengbmckcgbiaaGreatDoorCards
import Derived.Test.YtfengbmckcgbiaaGreatDoorTie
import Derived.Deep.DeepHandedRow
import Derived.Deep.DeepWitnessRowRef
import Derived.Lay
set_option linter.unusedVariables false
set_option linter.unusedSimpArgs false
open Array renaming getElem?_push->DK,getElem?_eq_some_iff->dK,getD_eq_getD_getElem?->dX,getElem?_eq_getElem->lK,length_toList->mY,getElem?_map->pO,getElem?_range->qi,empty_append->uz,range->vC,getElem?_eq_none->vY,getElem?_toList->wG,ext'->yI,size_append->yt
open BitVec renaming ofInt->Ec
open Bool renaming and_eq_true->ah,not_eq_true'->kH,false_eq_true->pR
open Go.Act renaming put->jC
open Go.Addr renaming add->BR
open Go.Builtin renaming clear_->Ep,len_->Gj,zeroCells->bK,append_->gY,firstCells->iK,copy_->mg,lenOf->rH
open Go.Deferred renaming ofValue->zT
open Go.Extern renaming allRows->Es,findNext->vN,allNextRows->wH,allGenericRows->xK,find->xY,allTypedRows->yC
open Go.Extern.SlicesOverlaps renaming overlaps->xX
open Go.Instr renaming fieldAt->Bj,storeAt->Bl,alloc->C9,slice->Dc,extract->Fq,field->Gz,sureAddr->kJ,loadAt->qj,fill->uw,indexAt->wM,sliceAt->yJ,sliceBounds->zo
open Go.IntKind renaming i64->xZ
open Go.Lib renaming compareBytes->jO,indexByte->wO
open Go.Op renaming equalIn->AP,intArith->GG,bytesLess->iw
open Go.Result renaming andThen_ok->bn
open Go.Sem renaming run_pure->bQ,run_bind->cZ
open Go.Value renaming int->kT,cells->mO,pointer->rJ
open Go.World renaming shape?->BV,cell?->gI
open Int renaming natCast_mul->Gm,ofNat_le->Iu,toNat_natCast->aj
open List renaming getElem?_zip_eq_some->AX,take_zero->Aa,length_replicate->CE,getElem?_eq_some_iff->aK,all_eq_true->aP,mem_map->aS,mem_cons_self->aW,mem_filter->aX,mem_append->aY,map_cons->aZ,getElem?_eq_getElem->ax,mem_cons->ay,replicate->bC,length_append->bD,getElem?_append_left->bF,getElem?_map->bP,getD->bZ,getElem?_take->cu,getElem?_append_right->dA,all_cons->dH,mem_filterMap->dJ,mem_of_mem_take->fD,eq_nil_of_length_eq_zero->fO,getElem?_drop->fV,mem_of_getElem?->gQ,length_take->gW,append_assoc->gX,length_cons->iC,append_nil->iQ,length_nil->iy,map_nil->jH,nil_append->jI,getElem?_eq_none->kF,mem_of_mem_drop->kN,map_toArray->lC,size_toArray->oI,mem_or_eq_of_mem_set->pq,getElem?_set->qG,length_map->uF,getElem?_of_mem->uY,foldl_cons->vK,eq_of_mem_replicate->ve,map_take->wP,getElem?_range->xw,replicate_succ->xy
open List.cons renaming injEq->xm
open Nat renaming lt_irrefl->AY,le_of_not_lt->Bv,min_comm->Ee,le_refl->aA,mul_le_mul_right->aQ,add_mul->cO,zero_add->eU,min->eY,lt_of_lt_of_le->kQ,beq->nU,add_zero->rQ,add_assoc->sU,mul_comm->vU,mul_one->wJ,mod_eq_of_lt->wQ,mod_lt->wo,add_comm->xE,mul_add->zW
open Option renaming map_some->iR,map_none->lg,isNone_iff_eq_none->uZ
open Option.some renaming injEq->aC
open Prod.mk renaming injEq->bI
open UInt8 renaming ofNat->fB
namespace Go.Ab
open Go
abbrev al7 :=@absurd
abbrev akg :=@beq_iff_eq
abbrev anr :=@congrArg
abbrev aki :=@decide_eq_false
abbrev alR :=@decide_eq_false_iff_not
abbrev al6 :=@decide_eq_true
abbrev ahm :=@decide_eq_true_eq
abbrev ahk :=@if_neg
abbrev ahl :=@if_pos
abbrev amB :=@if_true
abbrev IH :=Nat->Option (Array Value)
def IH.cell (I:IH)(a:Addr):Option Value:=
 if a.spot.isSome then none else match I a.block with
  |some c=>c[a.off]?
  |none=>none
def IH.le (I J:IH):Prop:=∀b c,I b=some c->J b=some c
theorem IH.le_refl (I:IH):I.le I:=λ_ _ h=>h
theorem IH.le_trans {I J K:IH}(h:I.le J)(k:J.le K):I.le K:=λb c e=>k b c (h b c e)
theorem IH.OT {I J:IH}(h:I.le J){a:Addr}{v:Value}(hc:I.cell a=some v):J.cell a=some v:=by
 unfold IH.cell at *;split at hc
 ·cases hc
 ·cases hb:I a.block with
  |none=>simp[hb]at hc
  |some c=>simp[hb]at hc;rename_i hs;simp[hs,h _ _ hb,hc]
def Agree (I:IH)(w:World):Prop:=∀b c,I b=some c->∃e fr,w.heap[b]? = some (.cells c e fr)
theorem Agree.cell {I:IH}{w:World}(h:Agree I w){a:Addr}{v:Value}(hc:I.cell a=some v):w.cell? a=some v:=by
 unfold IH.cell at hc;split at hc
 ·cases hc
 ·cases hb:I a.block with
  |none=>simp[hb]at hc
  | some c=>obtain⟨e,fr,hw⟩:=h _ _ hb;rename_i hs;simp[hb]at hc;simp[gI,hw,hs,hc]
theorem xN {w:World}{b:Nat}{o:Obj}(h:w.heap[b]? = some o):b<w.heap.size:=(dK.1 h).1
theorem Agree.lt {I:IH}{w:World}(h:Agree I w){b:Nat}{c:Array Value}(hc:I b=some c):b<w.heap.size:=by obtain⟨e,fr,hw⟩:=h _ _ hc;exact xN hw
inductive Cell where
 |lit (v:Value)
 |str (l:List UInt8)
 |sl (sz:Nat) (es:List (List Cell))
 deriving Inhabited
inductive Rd (I:IH):Value->Cell->Prop
 |lit (v:Value) (hv:v.oneCell'=true):Rd I v (.lit v)
 |str (l:List UInt8) (h:l.length<=maxLen):Rd I (.string ⟨⟨l⟩⟩) (.str l)
 |sl (a:Option Addr) (len cap sz:Nat) (es:List (List Cell)) (u:Nat->Nat->Value)
     (hlen:es.length=len) (hcap:len<=cap) (hmax:cap<=maxLen) (hsz:∀e,e∈es->e.length=sz)
     (ha:0<len->a≠none)
     (hcell:∀ad,a=some ad->∀i j,i<len->j<sz->I.cell (ad.add (i*sz+j))=some (u i j))
     (hr:∀i j c,(es.getD i [])[j]? = some c->Rd I (u i j) c):Rd I (.slice a len cap) (.sl sz es)
theorem Rd.mono {I J:IH}(hle:I.le J){v:Value}{c:Cell}(h:Rd I v c):Rd J v c:=by
 induction h with
 |lit v hv=>exact .lit v hv
 |str l h=>exact .str l h
 | sl a len cap sz es u hlen hcap hmax hsz ha hcell hr ih=>exact .sl a len cap sz es u hlen hcap hmax hsz ha (λad e i j hi hj=>IH.OT hle (hcell ad e i j hi hj)) ih
theorem Rd.one {I:IH}{v:Value}{c:Cell}(h:Rd I v c):v.oneCell'=true:=by
 cases h with
 |lit v hv=>exact hv
 |str l h=>rfl
 |sl=>rfl
inductive AC where
 |c (x:Cell)
 |ptr (b off:Nat)
 |own (b n sz:Nat)
 |Bc (b i sz off:Nat)
 |sub (b lo n:Nat) (c:Option Nat) (sz:Nat)
 |lF (sz:Nat)
 |Gu (cs:List Cell)
 |fn (f:FuncId) (caps:List Nat)
 |opt (T b:Nat)
 |yV (b n:Nat)
 |err (g:Bool)
 |NV
 deriving Inhabited
abbrev Ren :=Nat->Option (Nat×Nat)
def Ren.le (ρ σ:Ren):Prop:=∀b x,ρ b=some x->σ b=some x
theorem Ren.le_refl (ρ:Ren):ρ.le ρ:=λ_ _ h=>h
def GC (I:IH)(ρ:Ren)(v:Value):AC->Prop
 |.c x=>Rd I v x
 |.ptr b off=>∃k cap,ρ b=some (k,cap)/\v = .pointer (some ⟨k,off,none⟩)
 |.own b n _=>∃k cap a c,ρ b=some (k,cap)/\v = .slice a n c/\n<=c/\c<=cap/\(cap≠0->a=some ⟨k,0,none⟩)
 |.Bc b i sz off=>∃k cap,ρ b=some (k,cap)/\v = .pointer (some ⟨k,i*sz+off,none⟩)
 |.sub b lo n c sz=>∃k cap a c',ρ b=some (k,cap)/\v = .slice a n c'/\n<=c'/\lo+c'<=cap/\(∀c0,c=some c0->c'=c0)/\(c'≠0\/(lo=0/\cap≠0)->a=some ⟨k,lo*sz,none⟩)
 |.lF _=>v = .slice none 0 0
 |.Gu cs=>∃p:Addr,v = .pointer (some p)/\∀(j:Nat) (c:Cell),cs[j]? = some c->∃u,I.cell (p.add j)=some u/\Rd I u c
 |.fn f caps=>∃ks:List Nat,ks.length=caps.length/\(∀(j b k:Nat),caps[j]? = some b->ks[j]? = some k->∃cap,ρ b=some (k,cap)) /\
  v = .func (.func f) #[] (ks.map λk=>rJ (some ⟨k,0,none⟩)).toArray
 |.opt T b=>∃k,ρ b=some (k,T)/\(v = .pointer none\/v = .pointer (some ⟨k,0,none⟩))
 |.yV b n=>∃k cap,ρ b=some (k,cap)/\n<=cap/\((cap=0/\v = .slice none 0 0)\/(cap≠0/\v = .slice (some ⟨k,0,none⟩) n cap))
 |.err g=>if g=true then ∃t p,v = .iface t p else v = .nilIface
 |.NV=>v.oneCell'=true
theorem GC.mono {I J:IH}(hle:I.le J){ρ σ:Ren}(hr:ρ.le σ){v:Value}{x:AC}(h:GC I ρ v x):GC J σ v x:=by
 cases x with
 |c x=>exact Rd.mono hle h
 |ptr b off=>obtain⟨k,cap,h1,h2⟩:=h;exact⟨k,cap,hr _ _ h1,h2⟩
 |own b n sz=>obtain⟨k,cap,a,c,h1,h2⟩:=h;exact⟨k,cap,a,c,hr _ _ h1,h2⟩
 |Bc b i sz off=>obtain⟨k,cap,h1,h2⟩:=h;exact⟨k,cap,hr _ _ h1,h2⟩
 |sub b lo n c sz=>obtain⟨k,cap,a,c',h1,h2⟩:=h;exact⟨k,cap,a,c',hr _ _ h1,h2⟩
 |lF sz=>exact h
 | Gu cs=>obtain⟨p,hv,hc⟩:=h;exact⟨p,hv,λj c hj=>let ⟨u,h1,h2⟩:=hc j c hj;⟨u,IH.OT hle h1,h2.mono hle⟩⟩
 | fn f caps=>obtain⟨ks,h1,h2,h3⟩:=h;exact⟨ks,h1,λj b k hb hk=>let ⟨cap,hc⟩:=h2 j b k hb hk;⟨cap,hr _ _ hc⟩,h3⟩
 |opt T b=>obtain⟨k,h1,h2⟩:=h;exact⟨k,hr _ _ h1,h2⟩
 |yV b n=>obtain⟨k,cap,h1,h2⟩:=h;exact⟨k,cap,hr _ _ h1,h2⟩
 |err g=>exact h
 |NV=>exact h
theorem GC.one {I:IH}{ρ:Ren}{v:Value}{x:AC}(h:GC I ρ v x):v.oneCell'=true:=by
 cases x with
 |c x=>exact Rd.one h
 |ptr b off=>obtain⟨k,cap,h1,rfl⟩:=h;rfl
 |own b n sz=>obtain⟨k,cap,a,c,h1,rfl,_⟩:=h;rfl
 |Bc b i sz off=>obtain⟨k,cap,h1,rfl⟩:=h;rfl
 |sub b lo n c sz=>obtain⟨k,cap,a,c',h1,rfl,_⟩:=h;rfl
 |lF sz=>simp only[GC]at h;subst h;rfl
 |Gu cs=>obtain⟨p,rfl,hc⟩:=h;rfl
 |fn f caps=>obtain⟨ks,h1,h2,rfl⟩:=h;rfl
 |opt T b=>obtain⟨k,h1,rfl|rfl⟩:=h<;>rfl
 |yV b n=>obtain⟨k,cap,h1,_,⟨_,rfl⟩|⟨_,rfl⟩⟩:=h<;>rfl
 | err g=>
   simp only[GC]at h;split at h
   ·obtain⟨t,p,rfl⟩:=h;rfl
   ·subst h;rfl
 |NV=>exact h
inductive Box where
 |absent
 |dead
 |var (xs:List AC)
 |dat (sz:Nat) (es:List (List Cell))
 |Ik (sz:Nat) (es:List (List Cell))
 |row (e:Nat) (l:List UInt8)
 deriving Inhabited
def Box.uses (x:Box)(p:Option (Nat×Nat))(k:Nat):Prop:=
 match x with
 |.var _=>∃cap,p=some (k,cap)
 |.dat _ _=>∃cap,p=some (k,cap)/\cap≠0
 |.row _ _=>∃cap,p=some (k,cap)/\cap≠0
 |_=>False
def xP (I:IH)(ρ:Ren)(w:World)(b:Nat):Box->Prop
 |.absent=>ρ b=none
 |.dead=>True
 |.var xs=>∃k cap cs,ρ b=some (k,cap)/\w.heap[k]? = some (.cells cs cap (0,0))/\cs.size=xs.length /\
  ∀(j:Nat) (u:Value) (x:AC),cs[j]? = some u->xs[j]? = some x->GC I ρ u x
 |.dat sz es=>∃k cap,ρ b=some (k,cap)/\es.length<=cap/\cap<=maxLen/\(∀e,e∈es->e.length=sz) /\
  (cap≠0->∃cs e,w.heap[k]? = some (.cells cs e (0,0))/\cs.size=cap*sz/\(∀(j:Nat) (u:Value),cs[j]? = some u->u.oneCell'=true) /\
   ∀(i j:Nat) (c:Cell),(es.getD i [])[j]? = some c->∃u,cs[i*sz+j]? = some u/\Rd I u c)
 |.Ik sz es=>∃k cap,ρ b=some (k,cap)/\es.length<=cap/\cap<=maxLen/\(∀e,e∈es->e.length=sz) /\
  (cap≠0->∃cs,I k=some cs /\
   ∀(i j:Nat) (c:Cell),(es.getD i [])[j]? = some c->∃u,cs[i*sz+j]? = some u/\Rd I u c)
 |.row e l=>∃k cap,ρ b=some (k,cap)/\l.length<=cap/\cap<=maxLen /\
  (cap≠0->∃cs,w.heap[k]? = some (.cells cs e (0,0))/\cs.size=cap/\(∀(j:Nat) (u:Value),cs[j]? = some u->u.oneCell'=true) /\
   ∀(j:Nat) (x:UInt8),l[j]? = some x->cs[j]? = some (.int .u8 x.toNat))
structure BX (I:IH)(ρ:Ren)(w:World)(bx:Nat->Box):Prop where
 ok:∀b,xP I ρ w b (bx b)
 inj:∀b b' k,(bx b).uses (ρ b) k->(bx b').uses (ρ b') k->b=b'
 fresh:∀b k,(bx b).uses (ρ b) k->I k=none
theorem xP.lt {I:IH}{ρ:Ren}{w:World}{b k:Nat}{x:Box}(h:xP I ρ w b x)(hu:x.uses (ρ b) k):k<w.heap.size:=by
 cases x with
 |absent=>exact hu.elim
 |dead=>exact hu.elim
 | var xs=>obtain⟨k',cap,cs,hr,hw,_⟩:=h;obtain⟨cap',hu⟩:=hu;rw[hr]at hu;simp only[aC,bI]at hu;rw[<- hu.1];exact xN hw
 |Ik sz es=>exact hu.elim
 | row e l=>obtain⟨k',cap,hr,_,_,h⟩:=h;obtain⟨cap',hu,h0⟩:=hu;rw[hr]at hu;simp only[aC,bI]at hu;obtain⟨rfl,rfl⟩:=hu;obtain⟨cs,hw,_⟩:=h h0;exact xN hw
 | dat sz es=>obtain⟨k',cap,hr,_,_,_,h⟩:=h;obtain⟨cap',hu,h0⟩:=hu;rw[hr]at hu;simp only[aC,bI]at hu;obtain⟨rfl,rfl⟩:=hu;obtain⟨cs,e,hw,_⟩:=h h0;exact xN hw
inductive AV where
 |one (x:AC)
 |agg (xs:List AC)
 |zi (xs:List (Bool×List AC))
 deriving Inhabited
def OB (I:IH)(ρ:Ren)(vs:List Value)(xs:List AC):Prop:=
 vs.length=xs.length/\∀(j:Nat) (v:Value) (x:AC),vs[j]? = some v->xs[j]? = some x->GC I ρ v x
theorem OB.mono {I J:IH}(hle:I.le J){ρ σ:Ren}(hr:ρ.le σ){vs:List Value}{xs:List AC}(h:OB I ρ vs xs):OB J σ vs xs:=
 ⟨h.1,λj v x hv hx=>(h.2 j v x hv hx).mono hle hr⟩
def GP (I:IH)(ρ:Ren)(v:Value)(p:Bool×List AC):Prop:=
 if p.1 then ∃cs:Array Value,v = .agg cs/\OB I ρ cs.toList p.2 else ∃x,p.2=[x]/\GC I ρ v x
def GV (I:IH)(ρ:Ren)(v:Value):AV->Prop
 |.one x=>GC I ρ v x
 |.agg xs=>∃cs:Array Value,v = .agg cs/\OB I ρ cs.toList xs
 |.zi ps=>∃vs:Array Value,v = .tuple vs/\vs.size=ps.length/\∀(j:Nat) (v:Value) (p:Bool×List AC),vs[j]? = some v->ps[j]? = some p->GP I ρ v p
theorem GP.mono {I J:IH}(hle:I.le J){ρ σ:Ren}(hr:ρ.le σ){v:Value}{p:Bool×List AC}(h:GP I ρ v p):GP J σ v p:=by
 unfold GP at *;split<;>rename_i hp
 ·rw[ahl hp]at h;obtain⟨cs,e,hc⟩:=h;exact⟨cs,e,hc.mono hle hr⟩
 ·rw[ahk hp]at h;obtain⟨x,e,hc⟩:=h;exact⟨x,e,hc.mono hle hr⟩
theorem GV.mono {I J:IH}(hle:I.le J){ρ σ:Ren}(hr:ρ.le σ){v:Value}{x:AV}(h:GV I ρ v x):GV J σ v x:=by
 cases x with
 |one x=>exact GC.mono hle hr h
 |agg xs=>obtain⟨cs,e,hc⟩:=h;exact⟨cs,e,hc.mono hle hr⟩
 |zi ps=>obtain⟨vs,e,hl,hc⟩:=h;exact⟨vs,e,hl,λj v p hv hp=>(hc j v p hv hp).mono hle hr⟩
inductive Slot where
 |none
 |v (g:Bool) (x:AV)
def XV (I:IH)(ρ:Ren)(v:Value):Slot->Prop
 |.none=>True
 |.v g x=>(g=true->GV I ρ v x)/\(g=false->v=undef)
theorem XV.mono {I J:IH}(hle:I.le J){ρ σ:Ren}(hr:ρ.le σ){v:Value}{s:Slot}(h:XV I ρ v s):XV J σ v s:=by
 cases s with
 |none=>trivial
 |v g x=>exact⟨λhg=>(h.1 hg).mono hle hr,h.2⟩
structure fH where
 tm:Nat->Slot
 bx:Nat->Box
theorem fH.ext' {s t:fH}(h1:s.tm=t.tm)(h2:s.bx=t.bx):s=t:=by cases s;cases t;simp at h1 h2;rw[h1,h2]
def fH.put (st:fH)(t:Nat)(s:Slot):fH:=⟨λt'=>if t'=t then s else st.tm t',st.bx⟩
def fH.zH (st:fH)(b:Nat)(x:Box):fH:=⟨st.tm,λb'=>if b'=b then x else st.bx b'⟩
theorem fH.Xl (st:fH)(t t':Nat)(s:Slot):(st.put t s).tm t'=if t'=t then s else st.tm t':=rfl
theorem fH.ane (st:fH)(t:Nat)(s:Slot):(st.put t s).bx=st.bx:=rfl
theorem fH.als (st:fH)(b:Nat)(x:Box):(st.zH b x).tm=st.tm:=rfl
theorem fH.sJ (st:fH)(b b':Nat)(x:Box):(st.zH b x).bx b'=if b'=b then x else st.bx b':=rfl
structure GS (I:IH)(ρ:Ren)(n:Nat)(st:fH)(a:Act)(w:World):Prop where
 agree:Agree I w
 bx:BX I ρ w st.bx
 tm:∀t,t<n->XV I ρ (a.tmps.getD t undef) (st.tm t)
 size:a.tmps.size=n
 defers:a.defers=[]
structure Dp (w w':World)(M:Nat->Prop):Prop where
 os:w'.os=w.os
 tape:w'.tape=w.tape
 output:w'.output=w.output
 size:w.heap.size<=w'.heap.size
 block:∀k,k<w.heap.size->¬M k->w'.heap[k]? = w.heap[k]?
theorem Dp.refl (w:World)(M:Nat->Prop):Dp w w M:=⟨rfl,rfl,rfl,aA _,λ_ _ _=>rfl⟩
theorem Dp.trans {a b c:World}{M N:Nat->Prop}(h:Dp a b M)(k:Dp b c N)(hN:∀x,x<a.heap.size->N x->M x):Dp a c M:=
 ⟨k.os.trans h.os,k.tape.trans h.tape,k.output.trans h.output,Nat.le_trans h.size k.size,
  λx hx hm=>(k.block x (kQ hx h.size) (λhn=>hm (hN x hx hn))).trans (h.block x hx hm)⟩
inductive oW where
 |t (s:Nat)
 |k (x:AC)
 deriving Inhabited
def Slot.g : Slot->Bool
 |.none=>false
 |.v g _=>g
def Slot.x : Slot->AV
 |.none=>.one .NV
 |.v _ x=>x
def oW.ev (tm:Nat->Slot):oW->Slot
 |.t s=>tm s
 |.k x=>.v true (.one x)
def oW.slots : oW->List Nat
 |.t s=>[s]
 |.k _=>[]
inductive ny where
 |mv (x:oW)
 |pick (c a b:oW)
 |load (agg:Bool) (k:Nat) (p:oW)
 |store (agg:Bool) (k:Nat) (p x:oW)
 |alloc (l:Nat) (zs:List AC)
 |PZ (T e l r:Nat)
 |PY (l sz n:Nat) (zs:List Cell)
 |box (l:Nat) (x:oW)
 |build (zs:List AC) (parts:List (Nat×Nat×oW))
 |sZ (l sz n:Nat) (zs:List Cell) (parts:List (Nat×oW))
 |makes (l sz bytes:Nat) (zs:List Cell) (n m:oW)
 |bin (o:BinOp) (x y:oW)
 |beq (ng:Bool) (x y:oW)
 |not (x:oW)
 |neg (x:oW)
 |MZ (k:IntKind) (x:oW)
 |Wn (x:oW)
 |same (x:oW)
 |ZU (f:FuncId) (caps:List oW)
 |Xz (x:oW) (lo hi:Option oW)
 |IM (sz:Nat) (x:oW) (lo hi:Option oW)
 |Xx (sz n:Nat) (x:oW)
 |YP (x:oW)
 |mW (off:Nat) (x:oW)
 |field (agg:Bool) (off k:Nat) (x:oW)
 |zD (sz:Nat) (x i:oW)
 |WQ (sz n:Nat) (x i:oW)
 |idxs (x i:oW)
 |extract (x:oW) (i:Nat)
 |len (x:oW)
 |lens (x:oW)
 |max (x y:oW)
 |min (x y:oW)
 |append (l sz bytes:Nat) (s x:oW)
 |copy (sz:Nat) (d x:oW)
 |shf (l:Bool) (x y:oW)
 |afT (x:oW)
 |Ah (sz:Nat) (x:oW) (lo hi:Option oW)
 |sl3 (sz:Nat) (x lo hi mx:oW)
 |acj (l sz bytes:Nat) (s x:oW)
 |Xu (sz:Nat) (d x:oW)
 |aef (sz:Nat) (zs:List Cell) (x:oW)
 |afX (x y:oW)
 |abv (ng:Bool) (x:oW)
 |ovl (x y:oW)
 |agj (x y:oW)
 |acW (l sz bytes:Nat) (zs:List Cell) (s x:oW)
 |stop
 deriving Inhabited
def ny.pI : ny->List oW
 |.mv x|.load _ _ x|.box _ x|.not x|.neg x|.MZ _ x|.Wn x|.same x|.Xx _ _ x|.YP x|.mW _ x|.field _ _ _ x|.extract x _|.len x|.lens x|.afT x|.aef _ _ x|.abv _ x=>[x]
 |.pick c a b=>[c,a,b]
 |.store _ _ p x=>[p,x]
 |.alloc _ _|.PZ _ _ _ _|.PY _ _ _ _|.stop=>[]
 |.build _ ps=>ps.map (·.2.2)
 |.sZ _ _ _ _ ps=>ps.map (·.2)
 |.makes _ _ _ _ n m=>[n,m]
 |.bin _ x y|.beq _ x y|.zD _ x y|.WQ _ _ x y|.idxs x y|.max x y|.min x y|.append _ _ _ x y|.copy _ x y|.shf _ x y|.acj _ _ _ x y|.Xu _ x y|.afX x y|.agj x y|.ovl x y|.acW _ _ _ _ x y=>[x,y]
 |.sl3 _ x a b c=>[x,a,b,c]
 |.ZU _ cs=>cs
 |.Xz x lo hi|.IM _ x lo hi|.Ah _ x lo hi=>x::(lo.toList++hi.toList)
structure FR where
 vc:Prop
 v:AV
 sets:List (Nat×Box)
abbrev xW (k:IntKind)(n:Int):AV:=.one (.c (.lit (.int k n)))
abbrev vz (b:Bool):AV:=.one (.c (.lit (.bool b)))
abbrev Me (l:List UInt8):AV:=.one (.c (.str l))
abbrev vSl (sz:Nat)(es:List (List Cell)):AV:=.one (.c (.sl sz es))
def FR.bad : FR:=⟨False,.one .NV,[]⟩
def FR.ok (v:AV):FR:=⟨True,v,[]⟩
def D7 (o:BinOp)(k:IntKind)(a b:Int):FR:=
 match o with
 |.add=>.ok (xW k (k.wrap (a+b)))
 |.sub=>.ok (xW k (k.wrap (a-b)))
 |.mul=>.ok (xW k (k.wrap (a*b)))
 |.quo=>⟨b≠0,xW k (k.wrap (a.tdiv b)),[]⟩
 |.rem=>⟨b≠0,xW k (a.tmod b),[]⟩
 |.xor=>.ok (xW k (k.wrap (Ec k.bits a ^^^ Ec k.bits b).toNat))
 |.and=>.ok (xW k (k.wrap (Ec k.bits a &&& Ec k.bits b).toNat))
 |.eql=>.ok (vz (a==b))
 |.neq=>.ok (vz (a != b))
 |.lss=>.ok (vz (decide (a<b)))
 |.leq=>.ok (vz (decide (a<=b)))
 |.gtr=>.ok (vz (decide (b<a)))
 |.geq=>.ok (vz (decide (b<=a)))
 |_=>.bad
def Ea (o:BinOp)(a b:List UInt8):FR:=
 match o with
 |.add=>⟨a.length+b.length<=maxLen,Me (a++b),[]⟩
 |.eql=>.ok (vz (a==b))
 |.neq=>.ok (vz (!(a==b)))
 |.lss=>.ok (vz (iw a b))
 |.leq=>.ok (vz (iw a b||a==b))
 |.gtr=>.ok (vz (!(iw a b||a==b)))
 |.geq=>.ok (vz (!(iw a b)))
 |_=>.bad
def UY (o:BinOp)(x y:AV):FR:=
 match x,y with
 |.one (.c (.lit (.int k a))),.one (.c (.lit (.int k' b)))=>⟨k=k'/\(D7 o k a b).vc,(D7 o k a b).v,[]⟩
 |.one (.c (.str a)),.one (.c (.str b))=>Ea o a b
 |_,_=>.bad
def aaT (neg:Bool)(x y:AV):FR:=
 match x,y with
 |.one (.c (.lit (.bool a))),.one (.c (.lit (.bool b)))=>.ok (vz (if neg then a != b else a==b))
 |_,_=>.bad
def UO (t:Bool)(x y:AV):AV:=
 match x,y with
 |.one (.c (.lit (.bool a))),.one (.c (.lit (.bool b)))=>vz (bif t then a else b)
 |_,_=>if t then x else y
def Box.arr : Box->Option (Nat×List (List Cell))
 |.dat sz es=>some (sz,es)
 |.Ik sz es=>some (sz,es)
 |_=>none
def dataOf (bx:Nat->Box):AC->Option Cell
 |.c x=>some x
 |.lF sz=>some (.sl sz [])
 | .own b n sz=>match(bx b).arr with
   |some (_,es)=>some (.sl sz (es.take n))
   |none=>none
 |_=>none
def MQ (bx:Nat->Box):List AC->Option (List Cell)
 |[]=>some []
 | x::r=>match dataOf bx x,MQ bx r with
   |some c,some cs=>some (c::cs)
   |_,_=>none
def qg : List AC->List Nat
 |[]=>[]
 |.own b _ _::r=>b::qg r
 |_::r=>qg r
def JY : Box->Box
 |.dat sz es=>.Ik sz es
 |x=>x
def AZ (bx:Nat->Box):List AC->Prop
 |[]=>True
 | .own b n sz::r=>(match(bx b).arr with
   |some (sz',es)=>sz'=sz/\n<=es.length
   |none=>False)/\AZ bx r
 |_::r=>AZ bx r
def ZB (bx:Nat->Box)(l:List Nat):List (Nat×Box):=l.map λb=>(b,JY (bx b))
def AV.cells : AV->List AC
 |.one x=>[x]
 |.agg xs=>xs
 |.zi _=>[]
def AV.flat : AV->Prop
 |.zi _=>False
 |_=>True
def splice {α:Type}(xs:List α)(off:Nat)(ys:List α):List α:=xs.take off++ys++xs.drop (off+ys.length)
def Ba (agg:Bool)(k:Nat)(p:AV)(bx:Nat->Box):FR:=
 match p with
 | .one (.ptr b off)=>match bx b with
   | .var xs=>if agg then⟨off+k<=xs.length,.agg ((xs.drop off).take k),[]⟩else match xs[off]? with
     |some x=>.ok (.one x)
     |none=>.bad
   |_=>.bad
 | .one (.Bc b i sz off)=>match(bx b).arr with
   | some (sz',es)=>if agg then⟨sz'=sz/\i<es.length/\off+k<=sz,.agg ((((es.getD i []).drop off).take k).map .c),[]⟩
     else⟨sz'=sz/\i<es.length/\off<sz,.one (.c ((es.getD i []).getD off default)),[]⟩
   |_=>.bad
 |.one (.Gu cs)=>if agg then⟨k<=cs.length,.agg ((cs.take k).map .c),[]⟩else⟨0<cs.length,.one (.c (cs.getD 0 default)),[]⟩
 |_=>.bad
def Aj (agg:Bool)(k:Nat)(p x:AV)(bx:Nat->Box):FR:=
 match x,agg with
 |.zi _,_=>.bad
 |.one _,true=>.bad
 |.agg _,false=>.bad
 | x,_=>match p with
   | .one (.ptr b off)=>match bx b with
     |.var xs=>⟨x.cells.length=k/\off+k<=xs.length,.one .NV,[(b,.var (splice xs off x.cells))]⟩
     |_=>.bad
   | .one (.Bc b i sz off)=>match bx b,MQ bx x.cells with
     |.dat sz' es,some cs=>⟨sz'=sz/\cs.length=k/\i<es.length/\off+k<=sz/\AZ bx x.cells/\(qg x.cells).contains b=false,.one .NV,ZB bx (qg x.cells)++[(b,.dat sz (es.set i (splice (es.getD i []) off cs)))]⟩
     |_,_=>.bad
   |_=>.bad
def WC {α:Type}(zs:List α):List (Nat×List α)->List α
 |[]=>zs
 |(off,xs)::r=>WC (splice zs off xs) r
def Z8 (n:Nat):Nat×Nat×AV->Prop
 |(off,sz,x)=>x.cells.length=sz/\off+sz<=n/\x.flat
def Az (ev:oW->AV)(bx:Nat->Box)(n sz:Nat):List (Nat×oW)->Option (List (Nat×List Cell))
 |[]=>some []
 | (i,x)::r=>match MQ bx (ev x).cells,Az ev bx n sz r with
   |some cs,some l=>some ((i,cs)::l)
   |_,_=>none
def wB (ev:oW->AV):List (Nat×oW)->List Nat
 |[]=>[]
 |(_,x)::r=>qg (ev x).cells++wB ev r
def Ci (ev:oW->AV)(bx:Nat->Box):List (Nat×oW)->Prop
 |[]=>True
 |(_,x)::r=>AZ bx (ev x).cells/\Ci ev bx r
def QW (es:List (List Cell)):List (Nat×List Cell)->List (List Cell)
 |[]=>es
 |(i,cs)::r=>QW (es.set i cs) r
def bytesOf : List (List Cell)->Option (List UInt8)
 |[]=>some []
 | [.lit (.int .u8 n)]::r=>match bytesOf r with
   |some l=>some (fB n.toNat::l)
   |none=>none
 |_=>none
def JX : List AV->Option (List Nat)
 |[]=>some []
 |.one (.ptr b 0)::r=>(JX r).map (b :: ·)
 |_=>none
def bnd (ev:oW->AV)(o:Option oW)(dflt:Nat):Option Int:=
 match o with
 |none=>some dflt
 | some x=>match ev x with
   |.one (.c (.lit (.int _ n)))=>some n
   |_=>none
def yH (sz:Nat)(x:AV)(bx:Nat->Box):Option (Prop×List (List Cell)):=
 match x with
 |.one (.c (.sl sz' es))=>some (sz'=sz,es)
 |.one (.lF _)=>some (True,[])
 | .one (.own b n sz')=>match(bx b).arr with
   |some (Dn,es)=>some (sz'=sz/\Dn=sz/\n<=es.length,es.take n)
   |_=>none
 | .one (.sub b lo n _ sz')=>match(bx b).arr with
   |some (Dn,es)=>some (sz'=sz/\Dn=sz/\lo+n<=es.length,(es.drop lo).take n)
   |_=>none
 |_=>none
def FO : AV->Option (Nat×Nat×Nat×Option Nat×Nat)
 |.one (.own b n sz)=>some (b,0,n,none,sz)
 |.one (.sub b lo n c sz)=>some (b,lo,n,c,sz)
 |_=>none
def aao (l:Bool)(x y:AV):FR:=
 match x,y with
 |.one (.c (.lit (.int k a))),.one (.c (.lit (.int _ b)))=>⟨0<=b,xW k (if l then k.wrap (a*2^(min b.toNat k.bits))else a.fdiv (2^(min b.toNat k.bits))),[]⟩
 |_,_=>.bad
def X5 (x:AV):FR:=
 match x with
 |.one (.sub _ _ _ (some c) _)=>.ok (xW .i64 c)
 |.one (.lF _)=>.ok (xW .i64 0)
 |_=>.bad
def AL (sz:Nat)(x:AV)(lo:Option Int)(hi:Nat->Option Int):FR:=
 match FO x with
 | some (b,l,n,c,sz')=>match lo,hi n with
   |some p,some q=>⟨sz'=sz/\0<=p/\p<=q/\q<=(match c with|some c=>c|none=>n:Nat),.one (.sub b (l+p.toNat) (q-p).toNat (c.map (· - p.toNat)) sz),[]⟩
   |_,_=>.bad
 |none=>.bad
def Om (sz:Nat)(x p q m:AV):FR:=
 match FO x,p,q,m with
 |some (_,_,n,c,sz'),.one (.c (.lit (.int _ p))),.one (.c (.lit (.int _ q))),.one (.c (.lit (.int _ m)))=>⟨sz'=sz/\0<=p/\p<=q/\q<=m/\m<=(match c with|some c=>c|none=>n:Nat),.one .NV,[]⟩
 |_,_,_,_=>.bad
def Io (l sz bytes:Nat)(s x:AV)(bx:Nat->Box):FR:=
 match yH sz x bx,s with
 | some (p,ys),.one (.sub b lo n (some c) sz')=>match bx b with
   | .dat Dn es=>if n+ys.length<=c then⟨p/\sz'=sz/\Dn=sz/\lo+n<=es.length,.one (.sub b lo (n+ys.length) (some c) sz),[(b,.dat sz (splice es (lo+n) ys))]⟩
     else⟨p/\sz'=sz/\Dn=sz/\lo+n<=es.length/\(match bx l with|.absent=>True|_=>False)/\(n+ys.length)*(bytes+sz+1)<=2^46,.one (.own l (n+ys.length) sz),[(l,.dat sz ((es.drop lo).take n++ys))]⟩
   |_=>.bad
 |_,_=>.bad
def truncS (m:Nat):AV->AV
 |.one (.sub b lo n c sz)=>.one (.sub b lo (min n m) c sz)
 |x=>x
def Iq (sz:Nat)(d x:AV)(bx:Nat->Box):FR:=
 match FO d with
 | some (b,lo,n,_,sz')=>match yH sz (truncS n x) bx with
   | some (p,ys)=>match bx b with
     |.dat Dn es=>⟨p/\sz'=sz/\Dn=sz/\lo<=es.length,xW .i64 (eY ys.length n:Nat),[(b,.dat sz (splice es lo (ys.take n)))]⟩
     |_=>.bad
   |none=>.bad
 |none=>.bad
def Ih (l sz bytes:Nat)(zs:List Cell)(s x:AV)(bx:Nat->Box):FR:=
 match s,x with
 | .one (.sub b lo n (some c) sz'),.one (.c (.lit (.int k q)))=>match bx b with
   |.dat Dn es=>⟨k = .i64/\sz'=sz/\Dn=sz/\lo+n<=es.length/\0<=q/\c<n+q.toNat/\(match bx l with|.absent=>True|_=>False)/\(n+q.toNat)*(bytes+sz+1)<=2^46,
    .one (.own l (n+q.toNat) sz),[(l,.dat sz ((es.drop lo).take n++bC q.toNat zs))]⟩
   |_=>.bad
 |.one (.lF _),.one (.c (.lit (.int k q)))=>⟨k = .i64/\0<q/\(match bx l with|.absent=>True|_=>False)/\q.toNat*(bytes+sz+1)<=2^46,.one (.own l q.toNat sz),[(l,.dat sz (bC q.toNat zs))]⟩
 |_,_=>.bad
def LK (ng:Bool)(x:AV):FR:=
 match x with
 |.one (.err g)=>.ok (vz (if ng then g else !g))
 |_=>.bad
def QS (x y:AV):FR:=
 match x,y with
 |.one (.c (.str a)),.one (.c (.str b))=>.ok (xW .i64 (jO a b))
 |_,_=>.bad
def Q5 (x y:AV):FR:=
 match x,y with
 |.one (.c (.str a)),.one (.c (.lit (.int k c)))=>⟨k = .u8,xW .i64 (wO a c.toNat.toUInt8),[]⟩
 |_,_=>.bad
def ZZ (x y:AV)(bx:Nat->Box):FR:=
 match FO x,FO y with
 | some (b,_,m,_,_),some (b',_,m',_,_)=>match bx b,bx b' with
   |.dat _ _,.dat sz _=>⟨b≠b'/\sz≠0/\0<m/\0<m',vz false,[]⟩
   |_,_=>.bad
 |_,_=>.bad
def Ip (sz:Nat)(zs:List Cell)(d:AV)(bx:Nat->Box):FR:=
 match FO d with
 | some (b,lo,n,_,sz')=>match bx b with
   |.dat Dn es=>⟨sz'=sz/\Dn=sz/\lo<=es.length,.zi [],[(b,.dat sz (splice es lo (bC n zs)))]⟩
   |_=>.bad
 |none=>.bad
def ny.f (op:ny)(ev:oW->AV)(bx:Nat->Box):FR:=
 match op with
 |.mv x=>.ok (ev x)
 | .pick c a b=>match ev c with
   |.one (.c (.lit (.bool t)))=>.ok (UO t (ev a) (ev b))
   |_=>.bad
 |.load agg k p=>Ba agg k (ev p) bx
 |.store agg k p x=>Aj agg k (ev p) (ev x) bx
 |.alloc l zs=>⟨(match bx l with|.absent=>True|_=>False),.one (.ptr l 0),[(l,.var zs)]⟩
 |.PZ T e l r=>⟨(match bx l with|.absent=>True|_=>False)/\(match bx r with|.absent=>True|_=>False)/\l≠r,.one (.ptr l 0),[(r,.row e []),(l,.var [.opt T l,.yV r 0])]⟩
 |.PY l sz n zs=>⟨(match bx l with|.absent=>True|_=>False),.one (.Bc l 0 sz 0),[(l,.dat sz (bC n zs))]⟩
 |.box l x=>⟨(match bx l with|.absent=>True|_=>False)/\(ev x).flat,.one (.ptr l 0),[(l,.var (ev x).cells)]⟩
 |.build zs ps=>⟨(∀p,p∈ps->Z8 zs.length (p.1,p.2.1,ev p.2.2)),.agg (WC zs (ps.map λp=>(p.1,(ev p.2.2).cells))),[]⟩
 | .sZ l sz n zs ps=>match Az ev bx n sz ps with
   |some l'=>⟨(match bx l with|.absent=>True|_=>False)/\(∀p,p∈l'->p.1<n/\p.2.length=sz)/\Ci ev bx ps,.one (.own l n sz),ZB bx (wB ev ps)++[(l,.dat sz (QW (bC n zs) l'))]⟩
   |none=>.bad
 | .makes l sz bytes zs n m=>match ev n,ev m with
   | .one (.c (.lit (.int _ n))),.one (.c (.lit (.int _ m)))=>⟨(match bx l with|.absent=>True|_=>False)/\0<=n/\n<=m/\bytes*m<=2^47/\m<=2^47,.one (.own l n.toNat sz),[(l,.dat sz (bC n.toNat zs))]⟩
   |_,_=>.bad
 |.bin o x y=>UY o (ev x) (ev y)
 |.beq ng x y=>aaT ng (ev x) (ev y)
 | .not x=>match ev x with
   |.one (.c (.lit (.bool b)))=>.ok (vz (!b))
   |_=>.bad
 | .neg x=>match ev x with
   |.one (.c (.lit (.int k n)))=>.ok (xW k (k.wrap (0-n)))
   |_=>.bad
 | .MZ k x=>match ev x with
   |.one (.c (.lit (.int _ n)))=>.ok (xW k (k.wrap n))
   |_=>.bad
 | .Wn x=>match yH 1 (ev x) bx with
   | some (p,es)=>match bytesOf es with
     |some l=>⟨p/\l.length<=maxLen,Me l,[]⟩
     |none=>.bad
   |none=>.bad
 | .same x=>match ev x with
   |.one (.c (.str l))=>.ok (Me l)
   |_=>.bad
 | .ZU f cs=>match JX (cs.map ev)with
   |some l=>.ok (.one (.fn f l))
   |none=>.bad
 | .Xz x lo hi=>match ev x with
   | .one (.c (.str s))=>match bnd ev lo 0,bnd ev hi s.length with
     |some a,some b=>⟨0<=a/\a<=b/\b<=s.length,Me ((s.take b.toNat).drop a.toNat),[]⟩
     |_,_=>.bad
   |_=>.bad
 | .IM sz x lo hi=>match ev x with
   | .one (.c (.sl sz' es))=>match bnd ev lo 0,bnd ev hi es.length with
     |some a,some b=>⟨sz'=sz/\0<=a/\a<=b/\b<=es.length,vSl sz ((es.take b.toNat).drop a.toNat),[]⟩
     |_,_=>.bad
   | .one (.lF sz')=>match bnd ev lo 0,bnd ev hi 0 with
     |some a,some b=>⟨a=0/\b=0,.one (.lF sz'),[]⟩
     |_,_=>.bad
   | .one (.own l n sz')=>match bnd ev lo 0,bnd ev hi n with
     |some a,some b=>⟨a=0/\0<=b/\b<=n,.one (.own l b.toNat sz'),[]⟩
     |_,_=>.bad
   |_=>.bad
 | .Xx sz n x=>match ev x with
   | .one (.Bc b 0 sz' 0)=>match bx b with
     |.dat Dn es=>⟨sz'=sz/\Dn=sz/\es.length=n/\n≠0,.one (.own b n sz),[]⟩
     |_=>.bad
   |_=>.bad
 | .YP x=>match ev x with
   |.one (.ptr b o)=>.ok (.one (.ptr b o))
   |.one (.Bc b i sz o)=>.ok (.one (.Bc b i sz o))
   |.one (.Gu cs)=>.ok (.one (.Gu cs))
   |.one (.fn f cs)=>.ok (.one (.fn f cs))
   |_=>.bad
 | .mW off x=>match ev x with
   |.one (.ptr b o)=>.ok (.one (.ptr b (o+off)))
   |.one (.Bc b i sz o)=>.ok (.one (.Bc b i sz (o+off)))
   |.one (.Gu cs)=>.ok (.one (.Gu (cs.drop off)))
   |_=>.bad
 | .field agg off k x=>match ev x with
   | .agg xs=>if agg then⟨off+k<=xs.length,.agg ((xs.drop off).take k),[]⟩else match xs[off]? with
     |some x=>.ok (.one x)
     |none=>.bad
   |_=>.bad
 | .zD sz x i=>match ev x,ev i with
   |.one (.c (.sl sz' es)),.one (.c (.lit (.int _ i)))=>⟨sz'=sz/\0<=i/\i<es.length,.one (.Gu (es.getD i.toNat [])),[]⟩
   |.one (.own b n sz'),.one (.c (.lit (.int _ i)))=>⟨sz'=sz/\0<=i/\i<n,.one (.Bc b i.toNat sz 0),[]⟩
   |.one (.sub b lo n _ sz'),.one (.c (.lit (.int _ i)))=>⟨sz'=sz/\0<=i/\i<n,.one (.Bc b (lo+i.toNat) sz 0),[]⟩
   |_,_=>.bad
 | .WQ sz n x i=>match ev x,ev i with
   |.one (.Bc b 0 sz' 0),.one (.c (.lit (.int _ i)))=>⟨sz'=sz/\0<=i/\i<n,.one (.Bc b i.toNat sz 0),[]⟩
   |_,_=>.bad
 | .idxs x i=>match ev x,ev i with
   |.one (.c (.str s)),.one (.c (.lit (.int _ i)))=>⟨0<=i/\i<s.length,xW .u8 (s.getD i.toNat 0).toNat,[]⟩
   |_,_=>.bad
 | .extract x i=>match ev x with
   | .zi ps=>match ps[i]? with
     |some (true,xs)=>.ok (.agg xs)
     |some (false,[x])=>.ok (.one x)
     |_=>.bad
   |_=>.bad
 | .lens x=>match ev x with
   |.one (.c (.str s))=>.ok (xW .i64 s.length)
   |_=>.bad
 | .len x=>match ev x with
   |.one (.c (.sl _ es))=>.ok (xW .i64 es.length)
   |.one (.lF _)=>.ok (xW .i64 0)
   |.one (.own _ n _)=>.ok (xW .i64 n)
   |.one (.sub _ _ n _ _)=>.ok (xW .i64 n)
   |_=>.bad
 | .max x y=>match ev x,ev y with
   |.one (.c (.lit (.int k a))),.one (.c (.lit (.int k' b)))=>⟨k=k',xW k (if b>a then b else a),[]⟩
   |_,_=>.bad
 | .min x y=>match ev x,ev y with
   |.one (.c (.lit (.int k a))),.one (.c (.lit (.int k' b)))=>⟨k=k',xW k (if b<a then b else a),[]⟩
   |_,_=>.bad
 | .append l sz bytes s x=>match yH sz (ev x) bx with
   | some (p,ys)=>match ev s with
     |.one (.lF _)=>⟨p/\(match bx l with|.absent=>True|_=>False)/\ys.length*(bytes+sz+1)<=2^46,.one (.own l ys.length sz),[(l,.dat sz ys)]⟩
     | .one (.own b n sz')=>match bx b with
       |.dat Dn es=>⟨p/\(match bx l with|.absent=>True|_=>False)/\sz'=sz/\Dn=sz/\n<=es.length/\(n+ys.length)*(bytes+sz+1)<=2^46/\b≠l,
        .one (.own l (n+ys.length) sz),[(b,.dead),(l,.dat sz (es.take n++ys))]⟩
       |_=>.bad
     |_=>.bad
   |none=>.bad
 | .copy sz d x=>match yH sz (ev x) bx with
   | some (p,ys)=>match ev d with
     | .one (.own b n sz')=>match bx b with
       |.dat Dn es=>⟨p/\sz'=sz/\Dn=sz/\n<=es.length,xW .i64 (eY ys.length n:Nat),[(b,.dat sz (splice es 0 (ys.take n)))]⟩
       |_=>.bad
     |.one (.lF _)=>.ok (xW .i64 0)
     |_=>.bad
   |none=>.bad
 |.shf l x y=>aao l (ev x) (ev y)
 |.afT x=>X5 (ev x)
 |.Ah sz x lo hi=>AL sz (ev x) (bnd ev lo 0) (bnd ev hi)
 |.sl3 sz x p q m=>Om sz (ev x) (ev p) (ev q) (ev m)
 |.acj l sz bytes s x=>Io l sz bytes (ev s) (ev x) bx
 |.Xu sz d x=>Iq sz (ev d) (ev x) bx
 |.aef sz zs x=>Ip sz zs (ev x) bx
 |.afX x y=>QS (ev x) (ev y)
 |.abv ng x=>LK ng (ev x)
 |.ovl x y=>ZZ (ev x) (ev y) bx
 |.agj x y=>Q5 (ev x) (ev y)
 |.stop=>.bad
 |.acW l sz bytes zs s x=>Ih l sz bytes zs (ev s) (ev x) bx
def lvl : AV->List Nat
 |.one (.ptr b _)=>[b]
 |.one (.own b _ _)=>[b]
 |.one (.Bc b _ _ _)=>[b]
 |.one (.sub b _ _ _ _)=>[b]
 |_=>[]
def ny.rd (op:ny)(ev:oW->AV):List Nat:=
 match op with
 |.load _ _ p=>lvl (ev p)
 |.store _ _ p x=>lvl (ev p)++(match ev p with|.one (.Bc _ _ _ _)=>qg (ev x).cells|_=>[])
 |.sZ l _ _ _ ps=>l::wB ev ps
 |.alloc l _|.PY l _ _ _|.box l _|.makes l _ _ _ _ _=>[l]
 |.PZ _ _ l r=>[l,r]
 |.Wn x=>lvl (ev x)
 |.Xx _ _ x=>lvl (ev x)
 |.append l _ _ s x=>l::(lvl (ev s)++lvl (ev x))
 |.copy _ d x=>lvl (ev d)++lvl (ev x)
 |.acj l _ _ s x=>l::(lvl (ev s)++lvl (ev x))
 |.Xu _ d x=>lvl (ev d)++lvl (ev x)
 |.aef _ _ x=>lvl (ev x)
 |.ovl x y=>lvl (ev x)++lvl (ev y)
 |.acW l _ _ _ s _=>l::lvl (ev s)
 |_=>[]
end Go.Ab
section
namespace Go.Ab
inductive PK where
 |any
 |own (rs:List (Nat×Nat))
 |var (rs:List (Nat×Nat))
 |fn (s:Nat)
 deriving DecidableEq
structure Sig where
 ps:List PK
 rs:List (List (Nat×Nat))
 deriving DecidableEq
inductive Knd where
 |none
 |rd
 |ow (sg:Sig)
 deriving DecidableEq
def kindOf : Nat->Knd
 |6=>.rd
 |7=>.rd
 |8=>.rd
 |9=>.ow ⟨[.any],[[(0,34)]]⟩
 |10=>.ow ⟨[.any],[[(2,25),(3,25),(7,25),(8,37),(9,45)]]⟩
 |11=>.ow ⟨[.any,.any],[[(0,34)],[(6,25),(7,37)]]⟩
 |12=>.rd
 |13=>.rd
 |14=>.rd
 |18=>.rd
 |19=>.rd
 |20=>.rd
 |21=>.rd
 |22=>.ow ⟨[.any],[[(0,61)]]⟩
 |23=>.ow ⟨[.any,.any],[[(0,34)],[(0,58)]]⟩
 |24=>.rd
 |25=>.rd
 |28=>.rd
 |29=>.rd
 |30=>.ow ⟨[.any,.any],[[(0,34)],[(0,58)],[]]⟩
 |31=>.rd
 |32=>.rd
 |33=>.rd
 |34=>.rd
 |35=>.rd
 |36=>.rd
 |37=>.rd
 |38=>.rd
 |39=>.ow ⟨[.any],[[(0,34)]]⟩
 |40=>.ow ⟨[.any],[[(0,25)]]⟩
 |41=>.ow ⟨[.any],[[(3,25),(4,37)]]⟩
 |42=>.ow ⟨[.any],[[(0,45)]]⟩
 |43=>.rd
 |44=>.rd
 |45=>.ow ⟨[.any,.any],[[(5,25),(6,37)],[]]⟩
 |46=>.ow ⟨[.any],[[(0,34)]]⟩
 |47=>.rd
 |48=>.rd
 |49=>.ow ⟨[.any,.any],[[(0,34)],[(6,25),(7,37)]]⟩
 |50=>.ow ⟨[.any,.any,.any,.any],[[(0,34)],[(6,25),(7,37)]]⟩
 |51=>.rd
 |52=>.rd
 |53=>.rd
 |54=>.rd
 |59=>.rd
 |60=>.rd
 |61=>.rd
 |63=>.rd
 |64=>.ow ⟨[.any,.any,.fn 0],[[(0,34)],[(0,58)]]⟩
 |65=>.rd
 |66=>.rd
 |68=>.rd
 |69=>.rd
 |70=>.rd
 |71=>.rd
 |72=>.rd
 |73=>.rd
 |74=>.rd
 |75=>.rd
 |76=>.rd
 |77=>.rd
 |78=>.rd
 |79=>.rd
 |80=>.rd
 |81=>.rd
 |82=>.rd
 |83=>.rd
 |84=>.rd
 |86=>.rd
 |87=>.rd
 |88=>.ow ⟨[.any],[[(5,25),(6,37)]]⟩
 |89=>.ow ⟨[.any],[[(0,37)]]⟩
 |90=>.ow ⟨[.any],[[(1,25),(2,25),(6,25),(7,37)]]⟩
 |91=>.rd
 |92=>.rd
 |93=>.rd
 |94=>.rd
 |95=>.rd
 |96=>.ow ⟨[.any],[[(5,25),(6,37)]]⟩
 |97=>.rd
 |98=>.rd
 |99=>.rd
 |100=>.rd
 |101=>.ow ⟨[.any,.any],[[(0,34)],[]]⟩
 |102=>.ow ⟨[.any,.any],[[],[]]⟩
 |103=>.ow ⟨[.any,.any,.any],[[(0,34)],[]]⟩
 |104=>.rd
 |105=>.rd
 |106=>.rd
 |107=>.rd
 |108=>.rd
 |109=>.rd
 |110=>.rd
 |111=>.rd
 |112=>.rd
 |113=>.rd
 |114=>.rd
 |116=>.rd
 |117=>.rd
 |118=>.rd
 |119=>.rd
 |120=>.rd
 |121=>.rd
 |122=>.rd
 |123=>.rd
 |124=>.ow ⟨[.any],[[(3,25),(4,37)]]⟩
 |127=>.rd
 |128=>.rd
 |129=>.ow ⟨[.own [(0,34)],.any,.any],[[(0,34)]]⟩
 |130=>.ow ⟨[.any,.any],[[(3,25),(4,37)],[]]⟩
 |131=>.rd
 |132=>.ow ⟨[.own [(0,34)],.own [(5,25),(6,37)]],[[(0,34)]]⟩
 |133=>.rd
 |134=>.rd
 |135=>.rd
 |136=>.rd
 |137=>.rd
 |138=>.rd
 |139=>.rd
 |140=>.rd
 |141=>.rd
 |142=>.rd
 |143=>.rd
 |144=>.rd
 |145=>.rd
 |146=>.rd
 |148=>.rd
 |151=>.rd
 |152=>.rd
 |153=>.ow ⟨[.any,.any],[[(3,25),(4,37)],[]]⟩
 |154=>.ow ⟨[.own [(3,25),(4,37)],.any],[[(3,25),(4,37)],[]]⟩
 |155=>.rd
 |156=>.ow ⟨[.own [(0,34)],.any,.own [(0,34)]],[[(0,34)]]⟩
 |157=>.rd
 |158=>.rd
 |159=>.rd
 |160=>.rd
 |161=>.rd
 |162=>.rd
 |163=>.rd
 |164=>.rd
 |167=>.rd
 |169=>.ow ⟨[.any,.any],[[(3,25),(4,37)],[]]⟩
 |170=>.ow ⟨[.var [(3,25),(4,37)],.any],[]⟩
 |171=>.rd
 |172=>.ow ⟨[.var [(3,25),(4,37)],.any,.own [(3,25),(4,37)]],[]⟩
 |175=>.rd
 |177=>.rd
 |178=>.ow ⟨[.any,.any,.any],[[(3,25),(4,37)],[]]⟩
 |179=>.ow ⟨[.any,.any],[[(3,25),(4,37)],[]]⟩
 |180=>.ow ⟨[.any,.any,.any],[[(3,25),(4,37)],[]]⟩
 |181=>.ow ⟨[.any,.any,.any],[[(3,25),(4,37)],[]]⟩
 |182=>.ow ⟨[.any,.any],[[(3,25),(4,37)],[]]⟩
 |183=>.ow ⟨[.any,.any,.any],[[(3,25),(4,37)],[]]⟩
 |184=>.ow ⟨[.own [(0,25)],.any,.any],[[(0,25)]]⟩
 |185=>.ow ⟨[.own [(0,37)],.any,.any],[[(0,37)]]⟩
 |186=>.rd
 |187=>.rd
 |188=>.ow ⟨[.own [(0,25)],.any,.own [(0,25)]],[[(0,25)]]⟩
 |189=>.ow ⟨[.own [(0,37)],.any,.own [(0,37)]],[[(0,37)]]⟩
 |191=>.rd
 |192=>.rd
 |193=>.rd
 |194=>.rd
 |195=>.rd
 |197=>.ow ⟨[.any,.any,.fn 1],[[(3,25),(4,37)],[]]⟩
 |198=>.ow ⟨[.any,.any,.any,.any],[[(3,25),(4,37)],[]]⟩
 |199=>.ow ⟨[.any,.any,.any],[[(3,25),(4,37)],[]]⟩
 |200=>.ow ⟨[.any,.any,.any],[[(3,25),(4,37)],[]]⟩
 |201=>.rd
 |202=>.ow ⟨[.any,.any],[[(3,25),(4,37)],[]]⟩
 |203=>.rd
 |204=>.rd
 |205=>.rd
 |206=>.rd
 |212=>.rd
 |213=>.rd
 |214=>.rd
 |215=>.rd
 |216=>.rd
 |217=>.rd
 |218=>.rd
 |221=>.rd
 |222=>.rd
 |223=>.rd
 |226=>.rd
 |_=>.none
def ah3 : Nat->Sig
 |0=>⟨[.any],[[(3,25),(4,37)],[]]⟩
 |_=>⟨[],[]⟩
end Go.Ab
end
namespace Go.Ab
open Go
inductive yE where
 |blk (k j:Nat)
 |tag (d m:Nat)
 |dead
 deriving DecidableEq
structure Ref where
 off:Nat
 ty:Nat
 m:Nat
def Ref.beq (r s:Ref):Bool:=nU r.off s.off&&(nU r.ty s.ty&&nU r.m s.m)
theorem Ref.beq_iff {r s:Ref} : r.beq s=true<->r=s:=by cases r;cases s;simp[Ref.beq]
inductive Blk where
 |arr (T:Nat) (p:yE)
 |var (row:List Ref) (d b:Nat)
structure Own where
 b:Nat->Option Blk
 bd:Nat->Nat
instance : CoeFun Own λ_=>Nat->Option Blk:=⟨Own.b⟩
def refsOf (P:Program):Nat->TypeId->Nat->List (Nat×Nat)
 |0,_,_=>[]
 | n+1,t,o=>match P.underlying t with
   |some (.slice _)=>[(o,t)]
   |some (.struct fs)=>fs.toList.flatMap λf=>refsOf P n f.type (o+f.offset)
   |_=>[]
def lZ (P:Program)(T:Nat):List (Nat×Nat):=match P.underlying T with
 |some (.slice e)=>refsOf P 6 e 0
 |_=>[]
def wz (P:Program)(T:Nat):Nat:=match P.underlying T with
 |some (.slice e)=>(match P.info? e with|some i=>i.size|none=>0)
 |_=>0
def ZV (u:Value):Prop:=u = .slice none 0 0
def Own.at (g:Own)(k n T:Nat)(p:yE):Prop:=g k=some (.arr T p)/\n<=g.bd k
def GR (g:Own)(u:Value)(T:Nat)(p:yE):Prop:=ZV u\/∃k n c,u = .slice (some ⟨k,0,none⟩) n c/\g.at k n T p
structure Good (P:Program)(g:Own)(w:World):Prop where
 arr:∀k T p,g k=some (.arr T p)->∃cs e,w.heap[k]? = some (.cells cs e (0,0))/\∀j u T',j<g.bd k*wz P T->cs[j]? = some u->(j%wz P T,T')∈lZ P T->GR g u T' (.blk k j)
 var:∀k row d b,g k=some (.var row d b)->∃cs e,w.heap[k]? = some (.cells cs e (0,0))/\∀r,r∈row->∃u,cs[r.off]? = some u/\GR g u r.ty (.tag d r.m)
inductive OF where
 |sr (t T:Nat)
 |ep (t T off:Nat)
 |vp (t b off:Nat)
 |ref (t:Nat) (r:Ref)
 |EO (t i:Nat) (r:Ref)
 |row (b:Nat) (r:Ref)
 |fn (t s:Nat)
def OF.beq : OF->OF->Bool
 |.sr t T,.sr t' T'=>nU t t'&&nU T T'
 |.ep t T o,.ep t' T' o'=>nU t t'&&(nU T T'&&nU o o')
 |.vp t b o,.vp t' b' o'=>nU t t'&&(nU b b'&&nU o o')
 |.ref t r,.ref t' r'=>nU t t'&&r.beq r'
 |.EO t i r,.EO t' i' r'=>nU t t'&&(nU i i'&&r.beq r')
 |.row b r,.row b' r'=>nU b b'&&r.beq r'
 |.fn t s,.fn t' s'=>nU t t'&&nU s s'
 |_,_=>false
theorem OF.beq_iff {f g:OF} : f.beq g=true<->f=g:=by cases f<;>cases g<;>simp[OF.beq,Ref.beq_iff]
instance : BEq OF:=⟨OF.beq⟩
instance : LawfulBEq OF where
 eq_of_beq h:=OF.beq_iff.1 h
 rfl:=OF.beq_iff.2 rfl
def yQ {β:Type}(n:Nat)(k:Nat->β):β:=match n with
 |0=>k 0
 |m+1=>k (Nat.succ m)
def WJ {β:Type}(r:Ref)(k:Ref->β):β:=match r with
 |⟨a,b,c⟩=>yQ a λa=>yQ b λb=>yQ c λc=>k ⟨a,b,c⟩
def ZA {β:Type}(f:OF)(k:OF->β):β:=match f with
 |.sr t T=>yQ t λt=>yQ T λT=>k (.sr t T)
 |.ep t T o=>yQ t λt=>yQ T λT=>yQ o λo=>k (.ep t T o)
 |.vp t b o=>yQ t λt=>yQ b λb=>yQ o λo=>k (.vp t b o)
 |.ref t r=>yQ t λt=>WJ r λr=>k (.ref t r)
 |.EO t i r=>yQ t λt=>yQ i λi=>WJ r λr=>k (.EO t i r)
 |.row b r=>yQ b λb=>WJ r λr=>k (.row b r)
 |.fn t s=>yQ t λt=>yQ s λs=>k (.fn t s)
def LC {α β:Type}(fc:α->(α->β)->β):List α->(List α->β)->β
 |[],k=>k []
 |x::r,k=>fc x λx=>LC fc r λr=>k (x::r)
abbrev WI {β:Type}(Γ : List OF)(k:List OF->β):β:=LC ZA Γ k
theorem IV {β:Type}{n:Nat}{k:Nat->β} : yQ n k=k n:=by cases n<;>rfl
theorem af8 {β:Type}{r:Ref}{k:Ref->β} : WJ r k=k r:=by simp[WJ,IV]
theorem Yz {β:Type}{f:OF}{k:OF->β} : ZA f k=k f:=by cases f<;>simp[ZA,IV,af8]
theorem GU {α β:Type}{fc:α->(α->β)->β}(hf:∀x k,fc x k=k x):∀{l:List α} {k:List α->β},LC fc l k=k l
 |[],_=>rfl
 |x::r,k=>by rw[LC,hf,GU hf]
theorem Tq {β:Type}{Γ : List OF}{k:List OF->β} : WI Γ k=k Γ :=GU λ_ _=>Yz
def OF.afj : OF->List Nat
 |.sr t _=>[t]
 |.ep t _ _=>[t]
 |.vp t b _=>[t,b]
 |.ref t _=>[t]
 |.EO t _ _=>[t]
 |.row b _=>[b]
 |.fn t _=>[t]
def OF.anp : OF->Option Nat
 |.ref _ r=>some r.m
 |.EO _ _ r=>some r.m
 |.row _ r=>some r.m
 |_=>none
def Ut :=Nat->FuncId->Nat->Prop
def FI (P:Program)(F:Ut)(g:Own)(dp:Nat)(a:Act)(w:World):OF->Prop
 |.sr t T=>ZV (a.tmps.getD t undef)\/∃k o n c,a.tmps.getD t undef = .slice (some ⟨k,o,none⟩) n c/\k<w.heap.size/\∀B,g k=some B->(∃p,B = .arr T p)/\o%wz P T=0
 |.ep t T off=>∃k o,a.tmps.getD t undef = .pointer (some ⟨k,o,none⟩)/\k<w.heap.size/\∀B,g k=some B->(∃p,B = .arr T p)/\o%wz P T=off
 |.vp t b off=>∃k row,a.tmps.getD b undef = .pointer (some ⟨k,0,none⟩)/\a.tmps.getD t undef = .pointer (some ⟨k,off,none⟩)/\g k=some (.var row dp b)
 |.ref t r=>∃u,(a.tmps.getD t undef).cells[r.off]? = some u/\GR g u r.ty (.tag dp r.m)
 |.EO t i r=>∃vs x u,a.tmps.getD t undef = .tuple vs/\vs[i]? = some x/\x.cells[r.off]? = some u/\GR g u r.ty (.tag dp r.m)
 |.row b r=>∃k row,a.tmps.getD b undef = .pointer (some ⟨k,0,none⟩)/\g k=some (.var row dp b)/\r∈row
 |.fn t s=>∃f caps,a.tmps.getD t undef = .func (.func f) #[] caps/\F s f caps.size
structure OW (P:Program)(F:Ut)(g:Own)(dp:Nat)(Γ : List OF)(a:Act)(w:World):Prop where
 good:Good P g w
 fs:∀f,f ∈ Γ -> FI P F g dp a w f
structure Rel (dp N:Nat)(g g':Own):Prop where
 tag:∀k T d m,d<dp->g k=some (.arr T (.tag d m))->g' k=some (.arr T (.tag d m))/\g'.bd k=g.bd k
 var:∀k row d b,d<dp->g k=some (.var row d b)->g' k=some (.var row d b)
 old:∀k B',k<N->g' k=some B'->∃B,g k=some B/\∀T p,B = .arr T p\/B' = .arr T p->∃q q',B = .arr T q/\B' = .arr T q'
def U6 (ps:List PK):List OF:=(ps.zipIdx).flatMap λp=>match p.1 with
 |.any=>[]
 |.own rs=>rs.map λe=>.ref p.2 ⟨e.1,e.2,p.2*20+e.1⟩
 |.var rs=>.vp p.2 p.2 0::rs.map λe=>.row p.2 ⟨e.1,e.2,p.2*20+e.1⟩
 |.fn s=>[.fn p.2 s]
def abX (sg:Sig)(n:Nat):List OF:=match sg.rs with
 |[rs]=>rs.map λe=>.ref n ⟨e.1,e.2,20000+e.1⟩
 |l=>(l.zipIdx).flatMap λp=>p.1.map λe=>.EO n p.2 ⟨e.1,e.2,20000+p.2*20+e.1⟩
def ad3 (sg:Sig):List OF:=(sg.ps.zipIdx).flatMap λp=>match p.1 with
 |.var rs=>.vp p.2 p.2 0::rs.map λe=>.row p.2 ⟨e.1,e.2,30000+p.2*20+e.1⟩
 |_=>[]
def Xe (sg:Sig)(n:Nat):List OF:=abX sg n++ad3 sg
def FV : Ut:=λs f n=>match s with
 |0=>kindOf f = .rd
 |s+1=>∃sg,kindOf f = .ow sg/\sg.ps=(ah3 s).ps++bC n .any/\sg.rs=(ah3 s).rs
inductive Y3 (P:Program)(f:FuncId)(vs:List Value)(w:World):(Ending->World->Prop)->Prop
 |acs:Y3 P f vs w λ_ _=>True
 |rd (h:kindOf f = .rd):Y3 P f vs w λ_ w'=>Dp w w' λ_=>False
 |ow (sg:Sig) (h:kindOf f = .ow sg) (hl:vs.length=sg.ps.length) (g:Own) (dp:Nat) (hin:OW P FV g dp (U6 sg.ps) { tmps:=vs.toArray,defers:=[] } w) :
     Y3 P f vs w λe w'=>∃v g',e = .returned v/\Rel dp w.heap.size g g'/\OW P FV g' dp (Xe sg vs.length) { tmps:=(vs++[v]).toArray,defers:=[] } w'
def VL (I:IH)(ρ:Ren)(vs:List Value)(xs:List AV):Prop:=
 vs.length=xs.length/\∀(j:Nat) (v:Value) (x:AV),vs[j]? = some v->xs[j]? = some x->GV I ρ v x
def CO (l:List Box):Nat->Box:=λb=>l.getD b .absent
structure Tabs (P:Program)(I:IH):Prop where
 pow:∀g,P.globalNamed "internal/strconv.uint64pow10" = some g->I g=some (Go.Lib.pow10Tab.map λz=>kT .u64 z).toArray
 mxl:∀g,P.globalNamed "internal/bytealg.MaxLen" = some g->∃m,I.cell ⟨g,0,none⟩=some (.int .i64 m)
 ers:∀g,P.globalNamed "strconv.ErrSyntax" = some g->∃v,I.cell ⟨g,0,none⟩=some v/\(v = .nilIface\/∃t p,v = .iface t p)
 err:∀g,P.globalNamed "strconv.ErrRange" = some g->∃v,I.cell ⟨g,0,none⟩=some v/\(v = .nilIface\/∃t p,v = .iface t p)
theorem Tabs.mono {P:Program}{I J:IH}(h:Tabs P I)(hle:I.le J):Tabs P J:=
 ⟨λg hg=>hle _ _ (h.pow g hg),λg hg=>(h.mxl g hg).imp λ_ h=>IH.OT hle h,λg hg=>(h.ers g hg).imp λ_ h=>⟨IH.OT hle h.1,h.2⟩,λg hg=>(h.err g hg).imp λ_ h=>⟨IH.OT hle h.1,h.2⟩⟩
def oV (P:Program)(f:FuncId)(args:List AV)(fp:List Box)(post:AV->List Box->Prop):Prop:=
 ∀ (I:IH) (ρ:Ren) (w:World) (vs:List Value),Tabs P I->Agree I w->BX I ρ w (CO fp)->VL I ρ vs args ->
   ∀ X,Y3 P f vs w X->Calls P f vs.toArray w λe w'=>(∃(v:Value) (J:IH) (σ:Ren) (r:AV) (bs:List Box),e = .returned v/\post r bs/\GV J σ v r/\Agree J w'/\BX J σ w' (CO bs) /\
     I.le J/\Dp w w' (λk=>∃b,(CO fp b).uses (ρ b) k) /\
     (∀b k,(CO bs b).uses (σ b) k->w.heap.size<=k\/∃b',(CO fp b').uses (ρ b') k) /\
     (∀k,k<w.heap.size->(¬ ∃b,(CO fp b).uses (ρ b) k)->J k=I k) /\
     (∀b,b<fp.length->σ b=ρ b))/\X e w'
def OA (P:Program)(f:FuncId)(args:List AV)(fp:List Box)(post:AV->List Box->Prop):Prop:=
 ∀ (I:IH) (ρ:Ren) (w:World) (vs:List Value),Tabs P I->Agree I w->BX I ρ w (CO fp)->VL I ρ vs args ->
   Calls P f vs.toArray w λe w'=>∃(v:Value) (J:IH) (σ:Ren) (r:AV) (bs:List Box),e = .returned v/\post r bs/\GV J σ v r/\Agree J w'/\BX J σ w' (CO bs) /\
    I.le J/\Dp w w' (λk=>∃b,(CO fp b).uses (ρ b) k) /\
    (∀b k,(CO bs b).uses (σ b) k->w.heap.size<=k\/∃b',(CO fp b').uses (ρ b') k) /\
    (∀k,k<w.heap.size->(¬ ∃b,(CO fp b).uses (ρ b) k)->J k=I k) /\
    (∀b,b<fp.length->σ b=ρ b)
def X7 (f:FuncId)(e:Bool):Bool:=match kindOf f with
 |.none=>true
 |.rd=>e
 |.ow _=>false
theorem oV.of0 {P:Program}{f:FuncId}{args:List AV}{fp:List Box}{post:AV->List Box->Prop}(hk:X7 f fp.isEmpty=true)(h:OA P f args fp post):oV P f args fp post:=by
 intro I ρ w vs hT hA hB hV X hX;have h0:=h I ρ w vs hT hA hB hV;cases hX with
 |acs=>exact h0.mono λe w' h=>⟨h,trivial⟩
 | rd hr=>refine h0.mono λe w' h=>⟨h,?_⟩;obtain⟨_,_,_,_,_,_,_,_,_,_,_,hF,_⟩:=h;refine⟨hF.os,hF.tape,hF.output,hF.size,λk hk' _=>hF.block k hk' ?_⟩;rintro⟨b,hb⟩;unfold X7 at hk;rw[hr]at hk;have:fp=[]:=(by simpa using hk);subst this;simp[CO,Box.uses]at hb
 | ow sg hr=>unfold X7 at hk;rw[hr]at hk;cases hk
def dI (P:Program)(f:FuncId)(args:List AV)(r:AV):Prop:=oV P f args [] λr' bs=>r'=r/\bs=[]
inductive Cv (bx:Nat->Box):AC->AC->Prop
 |refl (x:AC):Cv bx x x
 |lF (sz:Nat):Cv bx (.lF sz) (.c (.sl sz []))
 |own (b n sz:Nat) (es:List (List Cell)) (h:(bx b).arr=some (sz,es)) (hn:n<=es.length):Cv bx (.own b n sz) (.c (.sl sz (es.take n)))
inductive CvL (bx:Nat->Box):List AC->List AC->Prop
 |nil:CvL bx [] []
 |cons {x y:AC} {xs ys:List AC} (h:Cv bx x y) (t:CvL bx xs ys):CvL bx (x::xs) (y::ys)
inductive CvA (bx:Nat->Box):AV->AV->Prop
 |one {x y:AC} (h:Cv bx x y):CvA bx (.one x) (.one y)
 |agg {xs ys:List AC} (h:CvL bx xs ys):CvA bx (.agg xs) (.agg ys)
inductive PR (bx:Nat->Box):List AV->List AV->Prop
 |nil:PR bx [] []
 |cons {x y:AV} {xs ys:List AV} (h:CvA bx x y) (t:PR bx xs ys):PR bx (x::xs) (y::ys)
def Cell.isLit : Cell->Bool
 |.sl _ _=>false
 |_=>true
def AC.yA : AC->Bool
 |.c _=>true
 |.err _=>true
 |_=>false
def AC.isLit : AC->Bool
 |.c x=>x.isLit
 |_=>false
def AV.all (p:AC->Bool):AV->Bool
 |.one x=>p x
 |.agg xs=>xs.all p
 |.zi ps=>ps.all λq=>q.2.all p
def AV.owns : AV->List Nat
 |.one x=>qg [x]
 |.agg xs=>qg xs
 |.zi ps=>ps.flatMap λq=>qg q.2
def fH.Ik (st:fH)(bs:List Nat):fH:=⟨st.tm,λb=>if b∈bs then JY (st.bx b)else st.bx b⟩
def fH.uN (st:fH):List (Nat×Box)->fH
 |[]=>st
 |(b,x)::r=>(st.zH b x).uN r
def fH.A8 (st:fH):Option Nat->Slot->fH
 |none,_=>st
 |some t,s=>st.put t s
def G5 (π:Nat->Nat):AC->AC
 |.ptr b off=>.ptr (π b) off
 |.own b n sz=>.own (π b) n sz
 |.sub b lo n c sz=>.sub (π b) lo n c sz
 |.Bc b i sz off=>.Bc (π b) i sz off
 |.fn f cs=>.fn f (cs.map π)
 |.opt T b=>.opt T (π b)
 |.yV b n=>.yV (π b) n
 |x=>x
def FH (π:Nat->Nat):AV->AV
 |.one x=>.one (G5 π x)
 |.agg xs=>.agg (xs.map (G5 π))
 |.zi ps=>.zi (ps.map λq=>(q.1,q.2.map (G5 π)))
def EU (π:Nat->Nat):Box->Box
 |.var xs=>.var (xs.map (G5 π))
 |x=>x
def AC.wV (m:Nat):AC->Bool
 |.ptr b _=>decide (b<m)
 |.own b _ _=>decide (b<m)
 |.sub b _ _ _ _=>decide (b<m)
 |.Bc b _ _ _=>decide (b<m)
 |.fn _ cs=>cs.all λb=>decide (b<m)
 |.opt _ b=>decide (b<m)
 |.yV b _=>decide (b<m)
 |_=>true
def Box.wV (m:Nat):Box->Bool
 |.var xs=>xs.all (AC.wV m)
 |_=>true
inductive Pv (P:Program)(f:FuncId)(wC:List AV)(p:Bool)(d:Option Nat)(st:fH)(K:List Nat->List Nat->fH->Prop):Prop
 |lit (ds:List AV) (r:AV) (hc:p=true->PR st.bx wC ds) (hd:ds.all (·.all AC.yA)=true) (h:p=true->dI P f ds r) (hr:r.all AC.isLit=true) (k:K (wC.flatMap AV.owns) [] (st.A8 d (.v p r)))
 |pure (ds:List AV) (r:AV) (hp:p=true) (hc:PR st.bx wC ds) (hd:ds.all (·.all AC.yA)=true) (h:dI P f ds r) (hr:r.all AC.yA=true) (k:K (wC.flatMap AV.owns) (wC.flatMap AV.owns) ((st.Ik (wC.flatMap AV.owns)).A8 d (.v true r)))
 |gen (hp:p=true) (ds:List AV) (fp:List Box) (sg nu:List Nat) (post:AV->List Box->Prop)
  (hl:sg.length=fp.length) (hn:(sg++nu).Nodup) (hf:∀i,i<fp.length->st.bx ((sg++nu).getD i 0)=EU (λb=>(sg++nu).getD b 0) (fp.getD i .absent))
  (hne:∃r bs,post r bs) (hv:∀b,b∈nu->st.bx b = .absent/\10<=b) (hra:(ds.all λx=>x.all (AC.wV fp.length))=true) (hrf:fp.all (Box.wV fp.length)=true) (ha:wC=ds.map (FH λb=>(sg++nu).getD b 0)) (h:oV P f ds fp post)
  (k:∀r bs,post r bs->bs.length=(sg++nu).length /\
   K (sg++nu) (sg++nu) ((st.uN ((sg++nu).zip (bs.map (EU λb=>(sg++nu).getD b 0)))).A8 d (.v true (FH (λb=>(sg++nu).getD b 0) r))))
 |U2 (hp:p=true) (az:List AV) (hc:PR st.bx wC az) (ds:List AV) (fp:List Box) (sg nu:List Nat) (post:AV->List Box->Prop)
     (hl:sg.length=fp.length) (hn:(sg++nu).Nodup) (hf:∀i,i<fp.length->(st.Ik (wC.flatMap AV.owns)).bx ((sg++nu).getD i 0)=EU (λb=>(sg++nu).getD b 0) (fp.getD i .absent))
     (hne:∃r bs,post r bs) (hv:∀b,b∈nu->st.bx b = .absent/\10<=b) (hra:(ds.all λx=>x.all (AC.wV fp.length))=true) (hrf:fp.all (Box.wV fp.length)=true) (ha:az=ds.map (FH λb=>(sg++nu).getD b 0)) (h:oV P f ds fp post)
     (k:∀r bs,post r bs->bs.length=(sg++nu).length /\
      K (wC.flatMap AV.owns++(sg++nu)) (wC.flatMap AV.owns++(sg++nu)) (((st.Ik (wC.flatMap AV.owns)).uN ((sg++nu).zip (bs.map (EU λb=>(sg++nu).getD b 0)))).A8 d (.v true (FH (λb=>(sg++nu).getD b 0) r))))
inductive DU {α:Type}(x:α):Type
 |mk
def wR (P:Program)(f:FuncId)(wC:List AV)(p:Bool)(d:Option Nat)(st:fH)(K:List Nat->List Nat->fH->Prop)(_:DU K):Prop:=Pv P f wC p d st K
inductive VF where
 |op (o:ny)
 |call (f:FuncId) (args:List oW)
 |Ja (x:oW) (args:List oW)
 deriving Inhabited
structure kX where
 g:Option (Nat×Bool)
 d:Option Nat
 i:VF
 deriving Inhabited
def yO (P:Program)(f:FuncId):Bool:=match P.funcs[f]? with
 |some fn=> !(fn.name == "runtime.NumGoroutine")&&fn.body.isSome
 |none=>false
def EH (tm:Nat->Slot):Option (Nat×Bool)->Prop
 |none=>True
 | some (s,_)=>match tm s with
   |.v false _=>True
   |.v true (.one (.c (.lit (.bool _))))=>True
   |_=>False
def uA (tm:Nat->Slot):Option (Nat×Bool)->Bool
 |none=>true
 | some (s,w)=>match tm s with
   |.v true (.one (.c (.lit (.bool b))))=>b==w
   |_=>false
def ny.valid (ev:oW->Slot):ny->Prop
 | .pick c a b=>(ev c).g=true/\(match(ev c).x with
   |.one (.c (.lit (.bool t)))=>(t=true->(ev a).g=true)/\(t=false->(ev b).g=true)
   |_=>False)
 |o=>∀x,x∈o.pI->(ev x).g=true
def dZ (tm:Nat->Slot)(x:oW):AV:=(x.ev tm).x
def TOp (o:ny)(p:Bool)(d:Option Nat)(st:fH)(K:List Nat->List Nat->fH->Prop):Prop:=
 (p=true->o.valid (oW.ev st.tm)/\(o.f (dZ st.tm) st.bx).vc /\
  K (o.rd (dZ st.tm)) ((o.f (dZ st.tm) st.bx).sets.map (·.1)) ((st.uN (o.f (dZ st.tm) st.bx).sets).A8 d (.v true (o.f (dZ st.tm) st.bx).v))) /\
 (p=false->K [] [] (st.A8 d (.v false (.one .NV))))
def T (P:Program)(o:kX)(st:fH)(K:List Nat->List Nat->fH->Prop):Prop:=
 EH st.tm o.g/\match o.i with
  |.op op=>TOp op (uA st.tm o.g) o.d st K
  |.call f args=>(uA st.tm o.g=true->∀x,x∈args->(x.ev st.tm).g=true)/\wR P f (args.map (dZ st.tm)) (uA st.tm o.g) o.d st K .mk
  | .Ja x args=>(uA st.tm o.g=true->(x.ev st.tm).g=true/\∀x,x∈args->(x.ev st.tm).g=true)/\match uA st.tm o.g,dZ st.tm x with
    |false,_=>wR P 0 [] false o.d st K .mk
    |true,.one (.fn f caps)=>yO P f=true/\wR P f (args.map (dZ st.tm)++caps.map λb=>.one (.ptr b 0)) true o.d st K .mk
    |true,_=>False
def wpOps (P:Program):List kX->fH->(fH->Prop)->Prop
 |[],st,K=>K st
 |o::r,st,K=>T P o st λ_ _ st'=>wpOps P r st' K
def Qa (a b:List Nat):Bool:=a.all λx=> !b.contains x
def zO (IB:List Nat)(rd wr:List Nat):List (Nat×List Nat×List Nat)->Bool
 |[]=>true
 |(j,r,w)::l=>(IB.contains j||(Qa wr r&&Qa wr w&&Qa rd w))&&zO IB rd wr l
def wpD (P:Program):List (kX×List Nat)->Nat->List (Nat×List Nat×List Nat)->fH->(fH->Prop)->Prop
 |[],_,_,st,K=>K st
 |(o,IB)::r,i,log,st,K=>T P o st λrd wr st'=>zO IB rd wr log=true/\wpD P r (i+1) ((i,rd,wr)::log) st' K
def fH.keep (st:fH)(ts:List Nat):fH:=⟨λt=>if t∈ts then st.tm t else .none,st.bx⟩
theorem YC (w:World)(o:Obj)(r:Nat)(h:r<w.heap.size):(w.alloc o).heap[r]? = w.heap[r]?:=by show(w.heap.push o)[r]? = w.heap[r]?;rw[DK,ahk (Nat.ne_of_lt h)]
theorem xP.keep {I J:IH}{ρ σ:Ren}{w w':World}{b:Nat}{x:Box}(h:xP I ρ w b x)(hI:I.le J)(hρ:ρ.le σ)(hb:σ b=ρ b)
 (hk:∀k,x.uses (ρ b) k->w'.heap[k]? = w.heap[k]?):xP J σ w' b x:=by
 cases x with
 |absent=>exact hb.trans h
 |dead=>trivial
 | var xs=>obtain⟨k,cap,cs,hr,hw,hs,hc⟩:=h;exact⟨k,cap,cs,hb.trans hr,(hk k ⟨cap,hr⟩).trans hw,hs,λj u x hu hx=>(hc j u x hu hx).mono hI hρ⟩
 | dat sz es=>obtain⟨k,cap,hr,hl,hm,hsz,hc⟩:=h;refine⟨k,cap,hb.trans hr,hl,hm,hsz,λh0=>?_⟩;obtain⟨cs,e,hw,hs,h1,hc⟩:=hc h0;exact⟨cs,e,(hk k ⟨cap,hr,h0⟩).trans hw,hs,h1,λi j c hj=>let ⟨u,hu,hr⟩:=hc i j c hj;⟨u,hu,hr.mono hI⟩⟩
 | Ik sz es=>obtain⟨k,cap,hr,hl,hm,hsz,hc⟩:=h;refine⟨k,cap,hb.trans hr,hl,hm,hsz,λh0=>?_⟩;obtain⟨cs,hw,hc⟩:=hc h0;exact⟨cs,hI _ _ hw,λi j c hj=>let ⟨u,hu,hr⟩:=hc i j c hj;⟨u,hu,hr.mono hI⟩⟩
 | row e l=>obtain⟨k,cap,hr,hl,hm,hc⟩:=h;refine⟨k,cap,hb.trans hr,hl,hm,λh0=>?_⟩;obtain⟨cs,hw,hc⟩:=hc h0;exact⟨cs,(hk k ⟨cap,hr,h0⟩).trans hw,hc⟩
theorem BX.step {I J:IH}{ρ σ:Ren}{w w':World}{bx bx':Nat->Box}(D:Nat->Prop)(h:BX I ρ w bx)(hI:I.le J)(hρ:ρ.le σ)
 (hsame:∀b,¬D b->bx' b=bx b/\σ b=ρ b) (hkeep:∀b k,¬D b->(bx b).uses (ρ b) k->w'.heap[k]? = w.heap[k]?)
 (hok:∀b,D b->xP J σ w' b (bx' b)) (Ei:∀b k,D b->(bx' b).uses (σ b) k->(∀b',¬D b'->¬(bx b').uses (ρ b') k)/\J k=none)
 (hinj:∀b b' k,D b->D b'->(bx' b).uses (σ b) k->(bx' b').uses (σ b') k->b=b')
 (hJ:∀b k,¬D b->(bx b).uses (ρ b) k->J k=none):BX J σ w' bx':=by
 refine⟨λb=>?_,λb b' k hb hb'=>?_,λb k hb=>?_⟩
 ·by_cases hD:D b
  ·exact hok b hD
  ·obtain⟨e1,e2⟩:=hsame b hD;rw[e1];exact(h.ok b).keep hI hρ e2 λk hk=>hkeep b k hD hk
 ·by_cases hD:D b
  ·by_cases hD':D b'
   ·exact hinj b b' k hD hD' hb hb'
   ·obtain⟨e1,e2⟩:=hsame b' hD';rw[e1,e2]at hb';exact al7 hb' ((Ei b k hD hb).1 b' hD')
  ·obtain⟨e1,e2⟩:=hsame b hD;rw[e1,e2]at hb;by_cases hD':D b'
   ·exact al7 hb ((Ei b' k hD' hb').1 b hD)
   ·obtain⟨e1',e2'⟩:=hsame b' hD';rw[e1',e2']at hb';exact h.inj b b' k hb hb'
 ·by_cases hD:D b
  ·exact(Ei b k hD hb).2
  ·obtain⟨e1,e2⟩:=hsame b hD;rw[e1,e2]at hb;exact hJ b k hD hb
theorem Agree.alloc {I:IH}{w:World}(h:Agree I w)(o:Obj):Agree I (w.alloc o):=λb c hc=>by obtain⟨e,fr,hw⟩:=h b c hc;exact⟨e,fr,(YC w o b (xN hw)).trans hw⟩
theorem Agree.other {I:IH}{w w':World}(h:Agree I w)(hk:∀k c,I k=some c->w'.heap[k]? = w.heap[k]?):Agree I w':=λb c hc=>by obtain⟨e,fr,hw⟩:=h b c hc;exact⟨e,fr,(hk b c hc).trans hw⟩
theorem Agree.abO {I:IH}{w:World}(h:Agree I w){k:Nat}(hk:w.heap.size<=k):I k=none:=by
 cases hc:I k with
 |none=>rfl
 |some c=>have:=h.lt hc;omega
def Ren.set (ρ:Ren)(l k cap:Nat):Ren:=λb=>if b=l then some (k,cap)else ρ b
theorem Ren.Qd {ρ:Ren}{l k cap:Nat}(h:ρ l=none):ρ.le (ρ.set l k cap):=λb x hb=>by unfold Ren.set;rw[ahk (λe=>by subst e;rw[h]at hb;cases hb)];exact hb
theorem Ren.oN (ρ:Ren)(l k cap:Nat):(ρ.set l k cap) l=some (k,cap):=by simp[Ren.set]
theorem Ren.xB {ρ:Ren}{l k cap b:Nat}(h:b≠l):(ρ.set l k cap) b=ρ b:=by simp[Ren.set,h]
theorem BX.new {I:IH}{ρ:Ren}{w:World}{bx:Nat->Box}(h:BX I ρ w bx)(hA:Agree I w){l:Nat}(hl:bx l = .absent)(cs:Array Value)(e:TypeId)(cap:Nat)(x:Box)
 (hx:xP I (ρ.set l w.heap.size cap) (w.alloc (.cells cs e)) l x) :
 BX I (ρ.set l w.heap.size cap) (w.alloc (.cells cs e)) (λb=>if b=l then x else bx b):=by
 have hrl:ρ l=none:=by have:=h.ok l;rwa[hl]at this
 refine BX.step (λb=>b=l) h (IH.le_refl I) (Ren.Qd hrl) ?_ ?_ ?_ ?_ ?_ ?_
 ·intro b hb;exact⟨by simp[hb],Ren.xB hb⟩
 ·intro b k hb hk;exact YC _ _ _ ((h.ok b).lt hk)
 ·rintro b rfl;simpa using hx
 ·rintro b k rfl hk;have hk':k=w.heap.size:=by
   simp only[amB,Ren.oN]at hk;cases x with
   |absent=>exact hk.elim
   |dead=>exact hk.elim
   |Ik sz es=>exact hk.elim
   |var xs=>obtain⟨c,hc⟩:=hk;simp at hc;exact hc.1.symm
   |dat sz es=>obtain⟨c,hc,_⟩:=hk;simp at hc;exact hc.1.symm
   |row e l=>obtain⟨c,hc,_⟩:=hk;simp at hc;exact hc.1.symm
  subst hk';exact⟨λb' hb' hu=>by have:=(h.ok b').lt hu;omega,hA.abO (aA _)⟩
 ·rintro b b' k rfl rfl _ _;rfl
 ·intro b k hb hk;exact h.fresh b k hk
theorem BX.set {I:IH}{ρ:Ren}{w w':World}{bx:Nat->Box}(h:BX I ρ w bx){b k:Nat}(hu:(bx b).uses (ρ b) k)(x:Box)(hux:∀k',x.uses (ρ b) k'->k'=k)
 (hk:∀k',k'≠k->w'.heap[k']? = w.heap[k']?) (hx:xP I ρ w' b x):BX I ρ w' (λc=>if c=b then x else bx c):=by
 refine BX.step (λc=>c=b) h (IH.le_refl I) (Ren.le_refl ρ) ?_ ?_ ?_ ?_ ?_ ?_
 ·intro c hc;exact⟨by simp[hc],rfl⟩
 ·intro c k' hc hu';refine hk k' λe=>hc ?_;subst e;exact h.inj c b k' hu' hu
 ·rintro c rfl;simpa using hx
 ·rintro c k' rfl hk';simp only[amB]at hk';have:=hux k' hk';subst this;exact⟨λb' hb' hu'=>hb' (h.inj b' c k' hu' hu),h.fresh c k' hu⟩
 ·rintro c c' k' rfl rfl _ _;rfl
 ·intro c k' hc hu';exact h.fresh c k' hu'
structure Env (P:Program) where
 w0:World
 I0:IH
 M:Nat->Prop
 VE:Ren
 m:Nat
 tab:Tabs P I0
structure GX {P:Program}(E:Env P)(I:IH)(ρ:Ren)(n:Nat)(st:fH)(a:Act)(w:World):Prop extends GS I ρ n st a w where
 Be:Dp E.w0 w E.M
 own:∀b k,(st.bx b).uses (ρ b) k->E.w0.heap.size<=k\/E.M k
 Jw:E.I0.le I
 Jg:∀k,k<E.w0.heap.size->¬E.M k->I k=E.I0 k
 yS:∀b,b<E.m->ρ b=E.VE b
theorem GX.tabs {P:Program}{E:Env P}{I:IH}{ρ:Ren}{n:Nat}{st:fH}{a:Act}{w:World}(h:GX E I ρ n st a w):Tabs P I:=E.tab.mono h.Jw
theorem GX.put {P:Program}{E:Env P}{I:IH}{ρ:Ren}{n:Nat}{st:fH}{a:Act}{w:World}(h:GX E I ρ n st a w){d:Nat}(hd:d<n){v:Value}{s:Slot}(hv:XV I ρ v s) :
 GX E I ρ n (st.put d s) (a.put (some d) v) w:=by
 refine{ h with tm:=λt ht=>?_,size:=by simp[jC,h.size],defers:=h.defers,agree:=h.agree,bx:=h.bx };have hdt:d<a.tmps.size:=by rw[h.size];exact hd
 simp only[jC,fH.Xl];by_cases e:t=d
 ·subst e;simpa[Array.getD,hdt]using hv
 ·have:=h.tm t ht;rw[ahk e];have e':d≠t:=λx=>e x.symm;simpa[dX,Array.getElem?_setIfInBounds,e']using this
theorem GX.A8 {P:Program}{E:Env P}{I:IH}{ρ:Ren}{n:Nat}{st:fH}{a:Act}{w:World}(h:GX E I ρ n st a w){d:Option Nat}(hd:∀x,d=some x->x<n){v:Value}{s:Slot}(hv:XV I ρ v s) :
 GX E I ρ n (st.A8 d s) (a.put d v) w:=by
 cases d with
 |none=>exact h
 |some d=>exact h.put (hd d rfl) hv
theorem GX.drew {P:Program}{E:Env P}{I:IH}{ρ:Ren}{n:Nat}{st:fH}{a:Act}{w:World}(h:GX E I ρ n st a w):GX E I ρ n st a w.drew:=
 { agree:=h.agree,bx:=⟨h.bx.ok,h.bx.inj,h.bx.fresh⟩,tm:=h.tm,size:=h.size,defers:=h.defers,Be:=⟨h.Be.os,h.Be.tape,h.Be.output,h.Be.size,h.Be.block⟩,own:=h.own,Jw:=h.Jw,Jg:=h.Jg,yS:=h.yS }
theorem GX.lit {P:Program}{E:Env P}{I:IH}{ρ:Ren}{n:Nat}{st:fH}{a:Act}{w:World}(h:GX E I ρ n st a w):BX I ρ w st.bx:=h.bx
theorem GX.new {P:Program}{E:Env P}{I:IH}{ρ:Ren}{n:Nat}{st:fH}{a:Act}{w:World}(h:GX E I ρ n st a w){l:Nat}(hl:st.bx l = .absent)(hm:E.m<=l)(cs:Array Value)(e:TypeId)(cap:Nat)(x:Box)
 (hx:xP I (ρ.set l w.heap.size cap) (w.alloc (.cells cs e)) l x):GX E I (ρ.set l w.heap.size cap) n (st.zH l x) a (w.alloc (.cells cs e)):=by
 have hrl:ρ l=none:=by have:=h.bx.ok l;rwa[hl]at this
 have hle:=Ren.Qd (ρ:=ρ) (k:=w.heap.size) (cap:=cap) hrl;refine{ agree:=h.agree.alloc _,bx:=BX.new h.bx h.agree hl cs e cap x hx,tm:=λt ht=>(h.tm t ht).mono (IH.le_refl _) hle,size:=h.size,defers:=h.defers,Be:=?_,own:=?_,Jw:=h.Jw,Jg:=h.Jg,yS:=?_ }
 ·exact h.Be.trans (N:=λ_=>False) ⟨rfl,rfl,rfl,by simp,λk hk _=>YC _ _ _ hk⟩ (λ_ _ hf=>hf.elim)
 ·intro b k hu;simp only[fH.sJ]at hu;by_cases e:b=l
  ·subst e
   left
   have hs:=h.Be.size;have hk':k=w.heap.size:=by
    simp only[amB,Ren.oN]at hu;cases x with
    |absent=>exact hu.elim
    |dead=>exact hu.elim
    |Ik sz es=>exact hu.elim
    |var xs=>obtain⟨c,hc⟩:=hu;simp at hc;exact hc.1.symm
    |dat sz es=>obtain⟨c,hc,_⟩:=hu;simp at hc;exact hc.1.symm
    |row e l=>obtain⟨c,hc,_⟩:=hu;simp at hc;exact hc.1.symm
   omega
  ·rw[ahk e,Ren.xB e]at hu;exact h.own b k hu
 ·intro b hb;rw[Ren.xB (by omega)];exact h.yS b hb
theorem GX.zH {P:Program}{E:Env P}{I:IH}{ρ:Ren}{n:Nat}{st:fH}{a:Act}{w w':World}(h:GX E I ρ n st a w){b k:Nat}(hu:(st.bx b).uses (ρ b) k)(x:Box)(hux:∀k',x.uses (ρ b) k'->k'=k)
 (hF:Dp w w' (λk'=>k'=k)) (hx:xP I ρ w' b x) (hsz:w'.heap.size=w.heap.size):GX E I ρ n (st.zH b x) a w':=by
 have hk:∀k',k'≠k->w'.heap[k']? = w.heap[k']?:= λk' hne=>by
  by_cases hlt:k'<w.heap.size
  ·exact hF.block k' hlt hne
  ·rw[vY (by omega),vY (by omega)]
 refine{ agree:=h.agree.other λk' c hc=>hk k' λe=>?_,bx:=BX.set h.bx hu x hux hk hx,tm:=h.tm,size:=h.size,defers:=h.defers,Be:=?_,own:=?_,Jw:=h.Jw,Jg:=h.Jg,yS:=h.yS }
 ·subst e;have:=h.bx.fresh b k' hu;rw[this]at hc;cases hc
 ·refine h.Be.trans hF λk' hlt e=>?_;subst e;rcases h.own b k' hu with h1|h1
  ·omega
  ·exact h1
 ·intro c k' hc;simp only[fH.sJ]at hc;by_cases e:c=b
  ·subst e;simp only[amB]at hc;have:=hux k' hc;subst this;exact h.own c k' hu
  ·rw[ahk e]at hc;exact h.own c k' hc
section
def akH : Value->AC->Bool
 |.int k n,.c (.lit (.int k' n'))=>k==k'&&n==n'
 |.bool b,.c (.lit (.bool b'))=>b==b'
 |.string s,.c (.str l)=>s.data.toList==l&&decide (l.length<=1000000)
 |.slice none 0 0,.lF _=>true
 |.slice none 0 0,.c (.sl _ [])=>true
 |.pointer none,.c (.lit (.pointer none))=>true
 |.nilFunc,.c (.lit .nilFunc)=>true
 |.nilIface,.c (.lit .nilIface)=>true
 |_,_=>false
theorem aeI {I:IH}{ρ:Ren}{v:Value}{x:AC}(h:akH v x=true):GC I ρ v x:=by
 unfold akH at h;split at h
 ·simp only[ah,akg]at h;obtain⟨rfl,rfl⟩:=h;exact Rd.lit _ rfl
 ·simp only[akg]at h;subst h;exact Rd.lit _ rfl
 ·rename_i s l;simp only[ah,akg,ahm]at h;obtain⟨rfl,hl⟩:=h;have:s=⟨⟨s.data.toList⟩⟩:=by cases s;rfl
  exact this▸Rd.str _ (by simp only[maxLen];omega)
 ·rfl
 ·exact Rd.sl none 0 0 _ [] (λ_ _=>undef) rfl (aA _) (Nat.zero_le _) (λe h=>by cases h) (λh=>by omega) (λad h=>by cases h) (λi j c h=>by simp at h)
 ·exact Rd.lit _ rfl
 ·exact Rd.lit _ rfl
 ·exact Rd.lit _ rfl
 ·cases h
def kW (n:Nat):Operand->oW->Bool
 |.tmp t,.t s=>t==s&&decide (t<n)
 |.const v,.k x=>akH v x
 |.func f,.k (.fn g [])=>f==g
 |.global g,.k (.c (.lit (.pointer (some a))))=>a.block==g&&a.off==0&&a.spot.isNone
 |_,_=>false
section
variable {P:Program} {E:Env P} {I:IH} {ρ:Ren} {n:Nat} {st:fH} {a:Act} {w:World}
theorem ana (h:GX E I ρ n st a w){x:Operand}{y:oW}(hc:kW n x y=true):XV I ρ (a.eval x) (y.ev st.tm):=by
 unfold kW at hc;split at hc
 ·simp only[ah,akg,ahm]at hc;obtain⟨rfl,hlt⟩:=hc;exact h.tm _ hlt
 ·exact⟨λ_=>aeI hc,λe=>by cases e⟩
 ·simp only[akg]at hc;subst hc;exact⟨λ_=>⟨[],rfl,by simp,rfl⟩,λe=>by cases e⟩
 ·rename_i g ad;simp only[ah,akg]at hc;obtain⟨⟨h1,h2⟩,h3⟩:=hc;refine⟨λ_=>?_,λe=>by cases e⟩;have:ad=⟨g,0,none⟩:=by cases ad;simp at *;exact⟨h1,h2,h3⟩
  subst this;exact Rd.lit _ rfl
 ·cases hc
theorem nV (h:GX E I ρ n st a w){x:Operand}{y:oW}(hc:kW n x y=true)(hv:(y.ev st.tm).g=true):GV I ρ (a.eval x) (dZ st.tm y):=by
 have:=ana h hc;unfold dZ;cases hs:y.ev st.tm with
 |none=>rw[hs]at hv;cases hv
 |v g x=>rw[hs]at hv this;exact this.1 hv
def wE (P:Program)(E:Env P)(n:Nat)(o:Oper)(a:Act)(w:World)(st:fH)(rv:AV):Prop:=
 ∃v w' I' ρ',((execOp a.eval o).run P w = .ok (.value v) w'\/(execOp a.eval o).run P w = .ok .skip w'/\o.dst=none)/\GX E I' ρ' n st a w'/\(o.dst≠none->GV I' ρ' v rv)
def DF : Op->Bool
 |.alloc _|.box _ _|.makeSlice _ _ _|.buildSlice _ _ _|.store _ _ _=>false
 |.call c=>(match c.callee with|.builtin .len|.builtin .cap|.builtin .max|.builtin .min|.value _=>true|_=>false)
 |_=>true
def TF : Op->Bool
 |.store _ _ _=>true
 |_=>false
structure Eff (o:Oper)(a:Act)(w w':World):Prop where
 quiet:DF o.op=true->w'=w
 store:∀t p x,o.op = .store t p x->∃k off cs e,a.eval p = .pointer (some ⟨k,off,none⟩)/\w.heap[k]? = some (.cells cs e (0,0))/\off+(a.eval x).cells.size<=cs.size /\
  w'=w.setRow k (splice cs.toList off (a.eval x).cells.toList).toArray
def wZ (P:Program)(E:Env P)(n:Nat)(o:Oper)(a:Act)(w:World)(st:fH)(rv:AV):Prop:=
 ∃v w' I' ρ',((execOp a.eval o).run P w = .ok (.value v) w'\/(execOp a.eval o).run P w = .ok .skip w'/\o.dst=none)/\GX E I' ρ' n st a w'/\(o.dst≠none->GV I' ρ' v rv)/\Eff o a w w'
theorem ads {o:Oper}{a:Act}{w w':World}{v:Value}(hr:(execOp a.eval o).run P w = .ok (.value v) w')(hs:TF o.op=true):False:=by
 unfold TF at hs;split at hs
 ·rename_i t p x he;simp only[execOp,he,cZ]at hr;cases h:(Bl t (a.eval p) (a.eval x)).run P w<;>rw[h]at hr<;>simp at hr
 ·cases hs
theorem wE.val {o:Oper}{v:Value}{rv:AV}(h:GX E I ρ n st a w)(hr:(execOp a.eval o).run P w = .ok (.value v) w)(hv:GV I ρ v rv):wZ P E n o a w st rv:=
 ⟨v,w,I,ρ,.inl hr,h,λ_=>hv,{ quiet:=λ_=>rfl,store:=λt p x he=>(ads hr (by rw[he];rfl)).elim }⟩
theorem wE.toE {o:Oper}{rv:AV}(h:wE P E n o a w st rv)(hq:DF o.op=false)(hs:TF o.op=false):wZ P E n o a w st rv:=
 let ⟨v,w',I',ρ',h1,h2,h3⟩:=h
 ⟨v,w',I',ρ',h1,h2,h3,{ quiet:=λe=>(by rw[hq]at e;cases e),store:=λt p x he=>(by rw[he]at hs;cases hs) }⟩
def LH : TypeDesc->Bool
 |.struct _|.array _ _=>true
 |_=>false
def Nc (P:Program)(t:TypeId)(agg:Bool)(k:Nat):Bool:=
 match P.underlying t,P.info? t with
 |some d,some i=>LH d==agg&&i.size==k
 |_,_=>false
theorem IY {t:TypeId}{agg:Bool}{k:Nat}(h:Nc P t agg k=true)(w:World):(isAgg t).run P w = .ok agg w/\(sizeOf t).run P w = .ok k w:=by
 unfold Nc at h;split at h
 ·rename_i d i hd hi;simp only[ah,akg]at h;obtain⟨rfl,rfl⟩:=h;refine⟨?_,by simp[sizeOf,typeInfo,hi]⟩;cases d<;>simp[isAgg,run_underlying hd,LH]
 ·cases h
def Uh (P:Program)(t:TypeId)(k:Nat):Bool:=match P.info? t with|some i=>i.size==k|none=>false
theorem Ol {t:TypeId}{k:Nat}(h:Uh P t k=true):∃i,P.info? t=some i/\i.size=k:=by
 unfold Uh at h;split at h
 ·rename_i i hi;exact⟨i,hi,by simpa using h⟩
 ·cases h
def ahK (n:Nat)(op:Op)(y:oW):Bool:=match op with|.move x|.assign x=>kW n x y|_=>false
theorem alc {o:Oper}{y:oW}(h:GX E I ρ n st a w)(hc:ahK n o.op y=true)(hv:(y.ev st.tm).g=true):wZ P E n o a w st (dZ st.tm y):=by
 unfold ahK at hc;split at hc
 ·rename_i x hx;exact wE.val h (v:=a.eval x) (by simp[execOp,hx]) (nV h hc hv)
 ·rename_i x hx;exact wE.val h (v:=a.eval x) (by simp[execOp,hx]) (nV h hc hv)
 ·cases hc
def Zp (n:Nat)(op:Op)(c x y:oW):Bool:=match op with|.pick c' x' y'=>kW n c' c&&kW n x' x&&kW n y' y|_=>false
theorem LG {v:Value}{b:Bool}(h:GV I ρ v (vz b)):v = .bool b:=by cases h with|lit v hv=>rfl
theorem yR {v:Value}{k:IntKind}{m:Int}(h:GV I ρ v (xW k m)):v = .int k m:=by cases h with|lit v hv=>rfl
theorem JZ {v:Value}{l:List UInt8}(h:GV I ρ v (Me l)):v = .string ⟨⟨l⟩⟩/\l.length<=maxLen:=by cases h with|str l hl=>exact⟨rfl,hl⟩
theorem JR (b:Bool):GV I ρ (.bool b) (vz b):=Rd.lit _ rfl
theorem BN (k:IntKind)(m:Int):GV I ρ (.int k m) (xW k m):=Rd.lit _ rfl
theorem ZT {l:List UInt8}(h:l.length<=maxLen):GV I ρ (.string ⟨⟨l⟩⟩) (Me l):=Rd.str l h
theorem ad6 (x y:AV){v:Value}(h:GV I ρ v x):GV I ρ v (UO true x y):=by
 unfold UO;split
 ·exact h
 ·exact h
theorem ab3 (x y:AV){v:Value}(h:GV I ρ v y):GV I ρ v (UO false x y):=by
 unfold UO;split
 ·exact h
 ·simpa using h
theorem agG {o:Oper}{c x y:oW}{t:Bool}(h:GX E I ρ n st a w)(hc:Zp n o.op c x y=true)(hg:(c.ev st.tm).g=true)(ht:dZ st.tm c=vz t)
 (hx:t=true->(x.ev st.tm).g=true) (hy:t=false->(y.ev st.tm).g=true):wZ P E n o a w st (UO t (dZ st.tm x) (dZ st.tm y)):=by
 unfold Zp at hc;split at hc
 ·rename_i c' x' y' he;simp only[ah]at hc;have h1:=nV h hc.1.1 hg;rw[ht]at h1;have h1:=LG h1;cases t with
  |true=>exact wE.val h (v:=a.eval x') (by simp[execOp,he,h1,asBool]) (ad6 _ _ (nV h hc.1.2 (hx rfl)))
  |false=>exact wE.val h (v:=a.eval y') (by simp[execOp,he,h1,asBool]) (ab3 _ _ (nV h hc.2 (hy rfl)))
 ·cases hc
theorem toList_eq (l:List UInt8):(⟨⟨l⟩⟩:ByteArray).toList=l:=by rw[ByteArray.toList_eq]
theorem size_mk (l:List UInt8):(⟨⟨l⟩⟩:ByteArray).size=l.length:=rfl
theorem alp {b:BinOp}{t:TypeId}{x y:Value}{u v:AV}(w:World)(hx:GV I ρ x u)(hy:GV I ρ y v)(jV:(UY b u v).vc) :
 ∃r,(binOp b t x y).run P w = .ok r w/\GV I ρ r (UY b u v).v:=by
 unfold UY at *;split at jV
 ·rename_i k m k' m';obtain⟨rfl,jV⟩:=jV;have h1:=yR hx;have h2:=yR hy;subst h1;subst h2;cases b<;>simp only[D7,FR.bad,FR.ok]at jV⊢ <;>
   first
   |exact jV.elim
   |(refine⟨_,?_,BN _ _⟩;simp[binOp,GG,Op.intDiv,Op.intBits,jV])
   |(refine⟨_,?_,JR _⟩;simp[binOp,Op.intCmp])
 ·rename_i l l';obtain⟨h1,hl⟩:=JZ hx;obtain⟨h2,hl'⟩:=JZ hy;subst h1;subst h2;cases b<;>simp only[Ea,FR.bad,FR.ok]at jV⊢ <;>
   first
   |exact jV.elim
   |(refine⟨_,?_,JR _⟩;simp only[binOp,Op.stringOp,toList_eq];rfl)
   |skip
  refine⟨.string ⟨⟨l++l'⟩⟩,?_,ZT (by simpa using jV)⟩;have h63:¬((l.length+l'.length:Nat):Int)>xZ.max:=by simp only[maxLen]at jV;have e:xZ.max=9223372036854775807:=(by decide);rw[e];omega
  have happ:(⟨⟨l⟩⟩:ByteArray)++⟨⟨l'⟩⟩=⟨⟨l++l'⟩⟩:=by apply ByteArray.ext;simp
  simp only[binOp,Op.stringOp,size_mk];rw[ahk h63,happ];rfl
 ·exact jV.elim
def ada (n:Nat)(op:Op)(b:BinOp)(x y:oW):Bool:=match op with|.binOp b' _ x' y' _=>b'==b&&kW n x' x&&kW n y' y|_=>false
theorem EJ (b:BinOp)(t:TypeId)(x y:Operand)(k:IntKind)(m:Int)(v:Value)(w:World):(eqGuard b t x y (.int k m) v).run P w = .ok () w:=by cases b<;>rfl
theorem U9 (b:BinOp)(t:TypeId)(x y:Operand)(s:ByteArray)(v:Value)(w:World):(eqGuard b t x y (.string s) v).run P w = .ok () w:=by cases b<;>rfl
theorem KY (b:BinOp)(t:TypeId)(x y:Operand)(s:Bool)(v:Value)(w:World):(eqGuard b t x y (.bool s) v).run P w = .ok () w:=by cases b<;>rfl
theorem ahB {o:Oper}{b:BinOp}{x y:oW}(h:GX E I ρ n st a w)(hc:ada n o.op b x y=true)(hx:(x.ev st.tm).g=true)(hy:(y.ev st.tm).g=true)
 (jV:(UY b (dZ st.tm x) (dZ st.tm y)).vc):wZ P E n o a w st (UY b (dZ st.tm x) (dZ st.tm y)).v:=by
 unfold ada at hc;split at hc
 ·rename_i b' t x' y' t' he;simp only[ah,akg]at hc;obtain⟨⟨rfl,h1⟩,h2⟩:=hc;have g1:=nV h h1 hx;have g2:=nV h h2 hy;obtain⟨r,hr,hg⟩:=alp (P:=P) (t:=t) w g1 g2 jV;refine wE.val h ?_ hg;have hq:(eqGuard b' t x' y' (a.eval x') (a.eval y')).run P w = .ok () w:=by
   unfold UY at jV;split at jV
   ·rename_i e1 e2;rw[e1]at g1;rw[yR g1];exact EJ _ _ _ _ _ _ _ _
   ·rename_i e1 e2;rw[e1]at g1;rw[(JZ g1).1];exact U9 _ _ _ _ _ _ _
   ·exact jV.elim
  simp[execOp,he,hq,hr]
 ·cases hc
def ac9 (P:Program)(n:Nat)(op:Op)(ng:Bool)(x y:oW):Bool:=
 match op with
 |.binOp b t x' y' _=>(match b with|.eql=> !ng|.neq=>ng|_=>false)&&(match P.underlying t with|some .bool=>true|_=>false)&&kW n x' x&&kW n y' y
 |_=>false
theorem ahA {o:Oper}{ng:Bool}{x y:oW}(h:GX E I ρ n st a w)(hc:ac9 P n o.op ng x y=true)(hx:(x.ev st.tm).g=true)(hy:(y.ev st.tm).g=true)
 (jV:(aaT ng (dZ st.tm x) (dZ st.tm y)).vc):wZ P E n o a w st (aaT ng (dZ st.tm x) (dZ st.tm y)).v:=by
 unfold ac9 at hc;split at hc
 ·rename_i b t x' y' t' he;simp only[ah]at hc;obtain⟨⟨⟨hb,ht⟩,h1⟩,h2⟩:=hc;have g1:=nV h h1 hx;have g2:=nV h h2 hy;unfold aaT at jV⊢;split at jV
  ·rename_i p q e1 e2;rw[e1]at g1;rw[e2]at g2;have hu:P.underlying t=some .bool:=by
    split at ht
    ·assumption
    ·cases ht
   have hd:∀d,(AP (d+1) t (.bool p) (.bool q)).run P w = .ok (p==q) w:=λd=>(by simp[AP,run_underlying hu]);have he':(Op.equal t (.bool p) (.bool q)).run P w = .ok (p==q) w:=hd 9999;have hp:=LG g1;have hq:=LG g2;simp only[FR.ok];cases b<;>simp at hb
   ·subst hb;refine wE.val h ?_ (JR _);simp[execOp,he,hp,hq,KY,binOp,he']
   ·subst hb;refine wE.val h ?_ (JR _);simp[execOp,he,hp,hq,KY,binOp,he',bne]
  ·exact jV.elim
 ·cases hc
def adg (n:Nat)(op:Op)(x:oW):Bool:=match op with|.unOp .not _ x'=>kW n x' x|_=>false
theorem ai9 {o:Oper}{x:oW}{b:Bool}(h:GX E I ρ n st a w)(hc:adg n o.op x=true)(hx:(x.ev st.tm).g=true)(hb:dZ st.tm x=vz b):wZ P E n o a w st (vz (!b)):=by
 unfold adg at hc;split at hc
 ·rename_i t x' he;have g1:=nV h hc hx;rw[hb]at g1;have hp:=LG g1;exact wE.val h (by simp[execOp,he,hp,Op.unary]) (JR _)
 ·cases hc
def adf (n:Nat)(op:Op)(x:oW):Bool:=match op with|.unOp .neg _ x'=>kW n x' x|_=>false
theorem ai6 {o:Oper}{x:oW}{k:IntKind}{m:Int}(h:GX E I ρ n st a w)(hc:adf n o.op x=true)(hx:(x.ev st.tm).g=true)(hb:dZ st.tm x=xW k m):wZ P E n o a w st (xW k (k.wrap (0-m))):=by
 unfold adf at hc;split at hc
 ·rename_i t x' he;have g1:=nV h hc hx;rw[hb]at g1;have hp:=yR g1;exact wE.val h (v:=.int k (k.wrap (0-m))) (by simp[execOp,he,hp,Op.unary,GG]) (BN _ _)
 ·cases hc
def Zg (P:Program)(n:Nat)(op:Op)(k:IntKind)(x:oW):Bool:=match op with|.convert s d x'=>(match P.underlying s with|some _=>true|none=>false)&&(match P.underlying d with|some (.int k')=>k'==k|_=>false)&&kW n x' x|_=>false
theorem afW {o:Oper}{x:oW}{k j:IntKind}{m:Int}(h:GX E I ρ n st a w)(hc:Zg P n o.op k x=true)(hx:(x.ev st.tm).g=true)(hb:dZ st.tm x=xW j m):wZ P E n o a w st (xW k (k.wrap m)):=by
 unfold Zg at hc;split at hc
 ·rename_i s d x' he;simp only[ah]at hc;have g1:=nV h hc.2 hx;rw[hb]at g1;have hp:=yR g1;obtain⟨⟨h1,h2⟩,_⟩:=hc;split at h1
  ·rename_i ds hs;split at h2
   ·rename_i k' hd;simp only[akg]at h2;subst h2;exact wE.val h (v:=.int k' (k'.wrap m)) (by simp[execOp,he,hp,convert,run_underlying hs,run_underlying hd,Conv.intToInt]) (BN _ _)
   ·cases h2
  ·cases h1
 ·cases hc
def Zq (P:Program)(n:Nat)(op:Op)(x:oW):Bool:=match op with|.convert s d x'=>(match P.underlying s with|some .string=>true|_=>false)&&(match P.underlying d with|some .string=>true|_=>false)&&kW n x' x|_=>false
theorem agQ {o:Oper}{x:oW}{l:List UInt8}(h:GX E I ρ n st a w)(hc:Zq P n o.op x=true)(hx:(x.ev st.tm).g=true)(hb:dZ st.tm x=Me l):wZ P E n o a w st (Me l):=by
 unfold Zq at hc;split at hc
 ·rename_i s d x' he;simp only[ah]at hc;have g1:=nV h hc.2 hx;rw[hb]at g1;obtain⟨hp,hl⟩:=JZ g1;obtain⟨⟨h1,h2⟩,_⟩:=hc;split at h1
  ·rename_i hs;split at h2
   ·rename_i hd;exact wE.val h (by simp[execOp,he,hp,convert,run_underlying hs,run_underlying hd]) (ZT hl)
   ·cases h2
  ·cases h1
 ·cases hc
end
end
section
section
variable {P:Program} {E:Env P} {I:IH} {ρ:Ren} {n:Nat} {st:fH} {a:Act} {w:World}
theorem l7 {α:Type}{es:List (List α)}{i j:Nat}{c:α}(h:(es.getD i [])[j]? = some c):i<es.length:=by
 by_cases hi:i<es.length
 ·exact hi
 ·simp[bZ,kF (Bv hi)]at h
theorem Addr.add_zero (p:Addr):p.add 0=p:=by simp[BR]
theorem Addr.tJ (k o i:Nat):(⟨k,o,none⟩:Addr).add i=⟨k,o+i,none⟩:=by
 unfold BR;split
 ·simp_all
 ·rfl
theorem Addr.add_add (p:Addr)(i j:Nat):(p.add i).add j=p.add (i+j):=by unfold BR;by_cases hi:i=0<;>by_cases hj:j=0<;>simp[hi,hj,sU]
def DT (I:IH)(ρ:Ren)(w:World)(p:Addr)(xs:List AC):Prop:=
 ∀(j:Nat) (x:AC),xs[j]? = some x->∃u,w.cell? (p.add j)=some u/\GC I ρ u x
theorem DT.drop {p:Addr}{xs:List AC}(h:DT I ρ w p xs)(off:Nat):DT I ρ w (p.add off) (xs.drop off):=λj x hj=>by rw[fV]at hj;rw[Addr.add_add];exact h _ _ hj
theorem DT.take {p:Addr}{xs:List AC}(h:DT I ρ w p xs)(k:Nat):DT I ρ w p (xs.take k):=λj x hj=>by
 rw[cu]at hj;split at hj
 ·exact h _ _ hj
 ·cases hj
theorem DT.list {p:Addr}{xs:List AC}(h:DT I ρ w p xs):∃us:List Value,us.length=xs.length/\(∀(j:Nat) (u:Value),us[j]? = some u->w.cell? (p.add j)=some u)/\OB I ρ us xs:=by
 induction xs generalizing p with
 |nil=>exact⟨[],rfl,by simp,rfl,by simp⟩
 | cons x r ih=>
   obtain⟨u,hu,hg⟩:=h 0 x rfl;obtain⟨us,hl,hc,hgs⟩:=ih (p:=p.add 1) (λj y hj=>by rw[Addr.add_add];rw[xE];exact h (j+1) y (by simpa using hj));refine⟨u::us,by simp[hl],λj v hj=>?_,by simp[hl],λj v y hv hy=>?_⟩
   ·cases j with
    |zero=>simp at hj;subst hj;exact hu
    |succ j=>have:=hc j v (by simpa using hj);rwa[Addr.add_add,xE]at this
   ·cases j with
    |zero=>simp at hv hy;subst hv;subst hy;exact hg
    |succ j=>exact hgs.2 j v y (by simpa using hv) (by simpa using hy)
theorem aal {t:TypeId}{k:Nat}(ht:Nc P t true k=true){p:Addr}{xs:List AC}(hl:xs.length=k)(h:DT I ρ w p xs) :
 ∃v,(loadVar t p).run P w = .ok v w/\GV I ρ v (.agg xs):=by
 obtain⟨us,hul,hc,hg⟩:=h.list;obtain⟨h1,h2⟩:=IY ht w;have h3:=run_loadCells_list (P:=P) w p us hc;refine⟨.agg us.toArray,?_,us.toArray,rfl,by simpa using hg⟩;rw[hul,hl]at h3;simp[loadVar,h1,h2,h3]
theorem L6 {t:TypeId}{k:Nat}(ht:Nc P t false k=true){p:Addr}{u:Value}(h:w.cell? p=some u):(loadVar t p).run P w = .ok u w:=by obtain⟨h1,h2⟩:=IY ht w;simp[loadVar,h1,run_load,h]
theorem BX.ag7 (h:BX I ρ w st.bx){b k cap:Nat}{xs:List AC}(hb:st.bx b = .var xs)(hr:ρ b=some (k,cap)):DT I ρ w ⟨k,0,none⟩ xs:=λj x hj=>by
 have:=h.ok b;rw[hb]at this;obtain⟨k',cap',cs,hr',hw,hs,hc⟩:=this;rw[hr]at hr';simp at hr';obtain⟨rfl,rfl⟩:=hr';have hjl:j<cs.size:=by rw[hs];exact(aK.1 hj).1
 refine⟨cs[j],?_,hc j _ x (lK hjl) hj⟩;rw[Addr.tJ];simp[gI,hw,lK hjl]
theorem GS.OE (h:GX E I ρ n st a w){b k cap sz:Nat}{es:List (List Cell)}(hb:(st.bx b).arr=some (sz,es))(hr:ρ b=some (k,cap))(hc:cap≠0){i:Nat}(hi:i<es.length) :
 DT I ρ w ⟨k,i*sz,none⟩ ((es.getD i []).map .c):=λj x hj=>by
 rw[bP]at hj;cases hq:(es.getD i [])[j]? with
 |none=>rw[hq]at hj;cases hj
 | some c=>
   rw[hq]at hj;simp at hj;subst hj;have hok:=h.bx.ok b;rw[Addr.tJ];cases hx:st.bx b with
   | dat sz' es'=>rw[hx]at hok hb;simp[Box.arr]at hb;obtain⟨rfl,rfl⟩:=hb;obtain⟨k',cap',hr',_,_,_,hd⟩:=hok;rw[hr]at hr';simp at hr';obtain⟨rfl,rfl⟩:=hr';obtain⟨cs,e,hw,_,_,hcs⟩:=hd hc;obtain⟨u,hu,hrd⟩:=hcs i j c hq;exact⟨u,by simp[gI,hw,hu],hrd⟩
   | Ik sz' es'=>rw[hx]at hok hb;simp[Box.arr]at hb;obtain⟨rfl,rfl⟩:=hb;obtain⟨k',cap',hr',_,_,_,hd⟩:=hok;rw[hr]at hr';simp at hr';obtain⟨rfl,rfl⟩:=hr';obtain⟨cs,hI,hcs⟩:=hd hc;obtain⟨u,hu,hrd⟩:=hcs i j c hq;obtain⟨e,fr,hw⟩:=h.agree _ _ hI;exact⟨u,by simp[gI,hw,hu],hrd⟩
   |absent=>rw[hx]at hb;cases hb
   |dead=>rw[hx]at hb;cases hb
   |var xs=>rw[hx]at hb;cases hb
   |row e l=>rw[hx]at hb;cases hb
theorem GS.Kz (h:GX E I ρ n st a w){b k cap sz:Nat}{es:List (List Cell)}(hb:(st.bx b).arr=some (sz,es))(hr:ρ b=some (k,cap)):es.length<=cap/\cap<=maxLen/\∀e,e∈es->e.length=sz:=by
 have hok:=h.bx.ok b;cases hx:st.bx b with
 | dat sz' es'=>rw[hx]at hok hb;simp[Box.arr]at hb;obtain⟨rfl,rfl⟩:=hb;obtain⟨k',cap',hr',h1,h2,h3,hd⟩:=hok;rw[hr]at hr';simp at hr';obtain⟨rfl,rfl⟩:=hr';exact⟨h1,h2,h3⟩
 | Ik sz' es'=>rw[hx]at hok hb;simp[Box.arr]at hb;obtain⟨rfl,rfl⟩:=hb;obtain⟨k',cap',hr',h1,h2,h3,hd⟩:=hok;rw[hr]at hr';simp at hr';obtain⟨rfl,rfl⟩:=hr';exact⟨h1,h2,h3⟩
 |absent=>rw[hx]at hb;cases hb
 |dead=>rw[hx]at hb;cases hb
 |var xs=>rw[hx]at hb;cases hb
 |row e l=>rw[hx]at hb;cases hb
def Zm (P:Program)(n:Nat)(op:Op)(agg:Bool)(k:Nat)(p:oW):Bool:=match op with|.load t p'=>kW n p' p&&Nc P t agg k&&(agg||k==1)|_=>false
theorem YF {t:TypeId}{agg:Bool}{k:Nat}(h:GX E I ρ n st a w)(ht:Nc P t agg k=true){pv:Value}{p:AV}(hp:GV I ρ pv p)(jV:(Ba agg k p st.bx).vc) :
 ∃v,(qj t pv).run P w = .ok v w/\GV I ρ v (Ba agg k p st.bx).v:=by
 have key:∀(q:Addr) (xs:List AC) (off:Nat),pv = .pointer (some (q.add off))->DT I ρ w q xs->(agg=true->off+k<=xs.length->∃v,(qj t pv).run P w = .ok v w/\GV I ρ v (.agg ((xs.drop off).take k))) /\
  (agg=false->∀x,xs[off]? = some x->∃v,(qj t pv).run P w = .ok v w/\GV I ρ v (.one x)):=by
  intro q xs off hq hc;refine⟨λhA hl=>?_,λhA x hx=>?_⟩
  ·subst hA;obtain⟨v,hv,hg⟩:=aal (P:=P) (xs:=(xs.drop off).take k) ht (by simp;omega) ((hc.drop off).take k);exact⟨v,by simp[qj,hq,kJ,hv],hg⟩
  ·subst hA;obtain⟨u,hu,hg⟩:=hc off x hx;exact⟨u,by simp[qj,hq,kJ,L6 (P:=P) ht hu],hg⟩
 unfold Ba at *;split at jV
 ·rename_i b off;obtain⟨kk,cap,hr,hv⟩:=hp;split at jV
  ·rename_i xs hb;have hc:=h.bx.ag7 hb hr;have hk:=key ⟨kk,0,none⟩ xs off (by rw[Addr.tJ];simpa using hv) hc
   try simp only[hb]
   split at jV
   ·rename_i hA;rw[ahl hA];exact hk.1 hA jV
   ·rename_i hA;rw[ahk hA];split at jV
    ·rename_i x hx;simp only[FR.ok];exact hk.2 (by simpa using hA) x hx
    ·exact jV.elim
  ·exact jV.elim
 ·rename_i b i sz off;obtain⟨kk,cap,hr,hv⟩:=hp;split at jV
  ·rename_i sz' es hb
   try simp only[hb]
   have facts:=GS.Kz h hb hr;split at jV
   ·rename_i hA;rw[ahl hA];obtain⟨rfl,hi,hl⟩:=jV;have hc:=GS.OE h hb hr (by omega) hi;have hlen:(es.getD i []).length=sz':=facts.2.2 _ (by simp[bZ,ax hi]);have:=(key ⟨kk,i*sz',none⟩ _ off (by rw[Addr.tJ];exact hv) hc).1 hA (by rw[uF,hlen];exact hl);simpa[List.map_drop,wP]using this
   ·rename_i hA;rw[ahk hA];obtain⟨rfl,hi,hl⟩:=jV;have hc:=GS.OE h hb hr (by omega) hi;have hlen:(es.getD i []).length=sz':=facts.2.2 _ (by simp[bZ,ax hi]);have:=(key ⟨kk,i*sz',none⟩ _ off (by rw[Addr.tJ];exact hv) hc).2 (by simpa using hA) (.c ((es.getD i []).getD off default))
     (by rw[bP,ax (by omega)];simp[bZ,ax (show off<(es[i]?.getD []).length by simpa[bZ]using(by omega:off<(es.getD i []).length))])
    exact this
  ·exact jV.elim
 ·rename_i cs;obtain⟨p,hv,hc⟩:=hp;have hcc:DT I ρ w p (cs.map .c):=λj x hj=>by
   rw[bP]at hj;cases hq:cs[j]? with
   |none=>rw[hq]at hj;cases hj
   |some c=>rw[hq]at hj;simp at hj;subst hj;obtain⟨u,hu,hr⟩:=hc j c hq;exact⟨u,h.agree.cell hu,hr⟩
  have hk:=key p _ 0 (by rw[Addr.add_zero];exact hv) hcc;split at jV
  ·rename_i hA;rw[ahl hA];have:=hk.1 hA (by simpa using jV);simpa[wP]using this
  ·rename_i hA;rw[ahk hA];have h0:cs[0]? = some (cs.getD 0 default):=(by simp[bZ,ax jV]);exact hk.2 (by simpa using hA) _ (by rw[bP,h0];rfl)
 ·exact jV.elim
theorem agq {o:Oper}{agg:Bool}{k:Nat}{p:oW}(h:GX E I ρ n st a w)(hc:Zm P n o.op agg k p=true)(hx:(p.ev st.tm).g=true)(jV:(Ba agg k (dZ st.tm p) st.bx).vc) :
 wZ P E n o a w st (Ba agg k (dZ st.tm p) st.bx).v:=by
 unfold Zm at hc;split at hc
 ·rename_i t p' he;simp only[ah]at hc;obtain⟨v,hv,hg⟩:=YF (P:=P) h hc.1.2 (nV h hc.1.1 hx) jV;exact wE.val h (by simp[execOp,he,hv]) hg
 ·cases hc
end
end
section
section
variable {P:Program} {E:Env P} {I:IH} {ρ:Ren} {n:Nat} {st:fH} {a:Act} {w:World}
def Rh (P:Program)(t:TypeId):Bool:=match P.underlying t with|some (.slice _)=>true|_=>false
theorem PD {t:TypeId}(h:Rh P t=true):∃e,P.underlying t=some (.slice e):=by
 unfold Rh at h;split at h
 ·rename_i e he;exact⟨e,he⟩
 ·cases h
def TG (P:Program)(t:TypeId):Bool:=match P.underlying t with|some .string=>true|_=>false
theorem JP {t:TypeId}(h:TG P t=true):P.underlying t=some .string:=by
 unfold TG at h;split at h
 ·assumption
 ·cases h
theorem alQ {v:Value}{sz:Nat}{es:List (List Cell)}(h:GV I ρ v (vSl sz es)):∃a cap,v = .slice a es.length cap/\es.length<=cap/\cap<=maxLen:=by cases h with|sl a len cap sz es u hlen hcap hmax=>subst hlen;exact⟨a,cap,rfl,hcap,hmax⟩
def lenV (x:AV):FR:=match x with
    |.one (.c (.sl _ es))=>.ok (xW .i64 es.length)
    |.one (.lF _)=>.ok (xW .i64 0)
    |.one (.own _ n _)=>.ok (xW .i64 n)
    |.one (.sub _ _ n _ _)=>.ok (xW .i64 n)
    |_=>.bad
theorem amD {v:Value}{x:AV}(h:GV I ρ v x)(jV:(lenV x).vc):∃b k c,v = .slice b k c/\(lenV x).v=xW .i64 k:=by
 unfold lenV at *;split at jV
 ·rename_i sz es;obtain⟨b,c,rfl,_⟩:=alQ h;exact⟨b,_,c,rfl,rfl⟩
 ·simp only[GV,GC]at h;exact⟨none,0,0,h,rfl⟩
 ·obtain⟨k,cap,b,c,_,rfl,_⟩:=h;exact⟨b,_,c,rfl,rfl⟩
 ·obtain⟨k,cap,b,c,_,rfl,_⟩:=h;exact⟨b,_,c,rfl,rfl⟩
 ·exact jV.elim
def ade (P:Program)(n:Nat)(op:Op)(x:oW):Bool:=
 match op with
 |.call { callee:=.builtin .len,args:=⟨[x']⟩,argTypes:=⟨[t]⟩ }=>kW n x' x&&Rh P t
 |_=>false
theorem aiL {o:Oper}{x:oW}(h:GX E I ρ n st a w)(hc:ade P n o.op x=true)(hx:(x.ev st.tm).g=true)(jV:(lenV (dZ st.tm x)).vc):wZ P E n o a w st (lenV (dZ st.tm x)).v:=by
 unfold ade at hc;split at hc
 ·rename_i x' t he;simp only[ah]at hc;have g:=nV h hc.1 hx;obtain⟨e,ht⟩:=PD hc.2;obtain⟨b,k,c,hv,hr⟩:=amD g jV;rw[hr];exact wE.val h (by simp[execOp,he,resolve,invoke,builtin,Gj,run_underlying ht,hv,goInt]) (BN _ _)
 ·cases hc
def Zl (P:Program)(n:Nat)(op:Op)(x:oW):Bool:=
 match op with
 |.call { callee:=.builtin .len,args:=⟨[x']⟩,argTypes:=⟨[t]⟩ }=>kW n x' x&&TG P t
 |_=>false
theorem agn {o:Oper}{x:oW}{s:List UInt8}(h:GX E I ρ n st a w)(hc:Zl P n o.op x=true)(hx:(x.ev st.tm).g=true)(hs:dZ st.tm x=Me s):wZ P E n o a w st (xW .i64 s.length):=by
 unfold Zl at hc;split at hc
 ·rename_i x' t he;simp only[ah]at hc;have g:=nV h hc.1 hx;rw[hs]at g;have ht:=JP hc.2;obtain⟨hv,_⟩:=JZ g;exact wE.val h (v:=.int .i64 s.length) (by simp[execOp,he,resolve,invoke,builtin,Gj,run_underlying ht,hv,goInt];rfl) (BN _ _)
 ·cases hc
def Yt (mx:Bool)(n:Nat)(op:Op)(x y:oW):Bool:=
 match op with
 |.call { callee:=.builtin b,args:=⟨[x',y']⟩,argTypes:=_ }=>(match b with|.max=>mx|.min=> !mx|_=>false)&&kW n x' x&&kW n y' y
 |_=>false
theorem aiY {o:Oper}{x y:oW}{k:IntKind}{p q:Int}(h:GX E I ρ n st a w)(hc:Yt true n o.op x y=true)(hx:(x.ev st.tm).g=true)(hy:(y.ev st.tm).g=true)
 (e1:dZ st.tm x=xW k p) (e2:dZ st.tm y=xW k q):wZ P E n o a w st (xW k (if q>p then q else p)):=by
 unfold Yt at hc;split at hc
 ·rename_i b x' y' ts he;simp only[ah]at hc;have g1:=nV h hc.1.2 hx;have g2:=nV h hc.2 hy;rw[e1]at g1;rw[e2]at g2;have v1:=yR g1;have v2:=yR g2;obtain⟨⟨hb,_⟩,_⟩:=hc;cases b<;>simp at hb;refine wE.val h (v:=.int k (if q>p then q else p)) ?_ (BN _ _);simp[execOp,he,resolve,invoke,builtin,Builtin.max_,v1,v2,Builtin.max2]
 ·cases hc
theorem ai0 {o:Oper}{x y:oW}{k:IntKind}{p q:Int}(h:GX E I ρ n st a w)(hc:Yt false n o.op x y=true)(hx:(x.ev st.tm).g=true)(hy:(y.ev st.tm).g=true)
 (e1:dZ st.tm x=xW k p) (e2:dZ st.tm y=xW k q):wZ P E n o a w st (xW k (if q<p then q else p)):=by
 unfold Yt at hc;split at hc
 ·rename_i b x' y' ts he;simp only[ah]at hc;have g1:=nV h hc.1.2 hx;have g2:=nV h hc.2 hy;rw[e1]at g1;rw[e2]at g2;have v1:=yR g1;have v2:=yR g2;obtain⟨⟨hb,_⟩,_⟩:=hc;cases b<;>simp at hb;refine wE.val h (v:=.int k (if q<p then q else p)) ?_ (BN _ _);simp[execOp,he,resolve,invoke,builtin,Builtin.min_,v1,v2,Builtin.min2]
 ·cases hc
theorem akX {v:Value}{xs:List AC}(h:GP I ρ v (true,xs)):GV I ρ v (.agg xs):=by simpa[GP,GV]using h
theorem ah8 {v:Value}{x:AC}(h:GP I ρ v (false,[x])):GV I ρ v (.one x):=by simp only[GP]at h;obtain⟨y,hy,hg⟩:=h;simp at hy;subst hy;exact hg
def KI (x:AV) (i:Nat):FR:=match x with
    | .zi ps=>match ps[i]? with
      |some (true,xs)=>.ok (.agg xs)
      |some (false,[x])=>.ok (.one x)
      |_=>.bad
    |_=>.bad
def P9 (n:Nat)(op:Op)(x:oW)(i:Nat):Bool:=match op with|.extract x' j=>kW n x' x&&j==i|_=>false
theorem Zw {o:Oper}{x:oW}{i:Nat}(h:GX E I ρ n st a w)(hc:P9 n o.op x i=true)(hx:(x.ev st.tm).g=true)(jV:(KI (dZ st.tm x) i).vc):wZ P E n o a w st (KI (dZ st.tm x) i).v:=by
 unfold P9 at hc;split at hc
 ·rename_i x' j he;simp only[ah,akg]at hc;obtain⟨h1,rfl⟩:=hc;have g:=nV h h1 hx;unfold KI at jV⊢;split at jV
  ·rename_i ps e1;rw[e1]at g;obtain⟨vs,hv,hs,hp⟩:=g;have hj:∀p,ps[j]? = some p->∃v,vs[j]? = some v/\GP I ρ v p:=λp hq=>by
    have hl:j<vs.size:=(by rw[hs];exact(aK.1 hq).1);exact⟨vs[j],lK hl,hp j _ p (lK hl) hq⟩
   split at jV
   ·rename_i xs hq;obtain⟨v,hv',hg⟩:=hj _ hq;exact wE.val h (by simp[execOp,he,hv,Fq,hv']) (akX hg)
   ·rename_i y hq;obtain⟨v,hv',hg⟩:=hj _ hq;exact wE.val h (by simp[execOp,he,hv,Fq,hv']) (ah8 hg)
   ·exact jV.elim
  ·exact jV.elim
 ·cases hc
def Zk (P:Program)(n:Nat)(op:Op)(x i:oW):Bool:=match op with|.index t x' i'=>kW n x' x&&kW n i' i&&TG P t|_=>false
theorem agl {o:Oper}{x y:oW}{s:List UInt8}{k:IntKind}{i:Int}(h:GX E I ρ n st a w)(hc:Zk P n o.op x y=true)(hx:(x.ev st.tm).g=true)(hy:(y.ev st.tm).g=true)
 (e1:dZ st.tm x=Me s) (e2:dZ st.tm y=xW k i) (h0:0<=i) (h1:i<s.length):wZ P E n o a w st (xW .u8 (s.getD i.toNat 0).toNat):=by
 unfold Zk at hc;split at hc
 ·rename_i t x' y' he;simp only[ah]at hc;have g1:=nV h hc.1.1 hx;have g2:=nV h hc.1.2 hy;rw[e1]at g1;rw[e2]at g2;obtain⟨v1,_⟩:=JZ g1;have v2:=yR g2;have ht:=JP hc.2;have hi:i.toNat<s.length:=by omega
  refine wE.val h (v:=.int .u8 (s.getD i.toNat 0).toNat) ?_ (BN _ _);have hb:(⟨⟨s⟩⟩:ByteArray)[i.toNat]? = some (s.getD i.toNat 0):=by have:(⟨⟨s⟩⟩:ByteArray)[i.toNat]? = some ((⟨⟨s⟩⟩:ByteArray)[i.toNat]'(by simpa[ByteArray.size]using hi)):=getElem?_pos _ _ _;rw[this];simp[bZ,ax hi];rfl
  simp[execOp,he,Instr.index,v1,v2,asIntOf,run_underlying ht,h0,hb]
 ·cases hc
def Zo (n:Nat)(op:Op)(f:FuncId)(cs:List oW):Bool:=match op with|.makeFunc (.func g) ⟨[]⟩ caps=>g==f&&(caps.size==cs.length)&&(caps.toList.zip cs).all λp=>kW n p.1 p.2|_=>false
theorem akG {cs:List oW}{os:List Operand}{l:List Nat}(h:GX E I ρ n st a w)(hl:os.length=cs.length)(hc:(os.zip cs).all (λp=>kW n p.1 p.2)=true)(hg:∀x,x∈cs->(x.ev st.tm).g=true)
 (hk:JX (cs.map (dZ st.tm))=some l):∃ks:List Nat,ks.length=l.length/\(∀(j b k:Nat),l[j]? = some b->ks[j]? = some k->∃cap,ρ b=some (k,cap))/\os.map a.eval=ks.map λk=>rJ (some ⟨k,0,none⟩):=by
 induction cs generalizing os l with
 | nil=>
   simp[JX]at hk;subst hk;cases os with
   |nil=>exact⟨[],rfl,by simp,rfl⟩
   |cons _ _=>simp at hl
 | cons c r ih=>
   cases os with
   |nil=>simp at hl
   | cons o os=>
     simp only[List.zip_cons_cons,dH,ah]at hc;have g:=nV h hc.1 (hg c (by simp));simp only[aZ]at hk;unfold JX at hk;split at hk
     ·rename_i e;cases e
     ·rename_i b r' e;simp only[xm]at e;obtain⟨e1,rfl⟩:=e;cases hq:JX (r.map (dZ st.tm))with
      |none=>rw[hq]at hk;cases hk
      | some l'=>
        rw[hq]at hk;simp at hk;subst hk;obtain⟨ks,h1,h2,h3⟩:=ih (by simpa using hl) hc.2 (λx hx=>hg x (by simp[hx])) hq;rw[e1]at g;obtain⟨k,cap,hr,hv⟩:=g;refine⟨k::ks,by simp[h1],λj b' k' hb hk=>?_,by simp[hv,h3]⟩;cases j with
        |zero=>simp at hb hk;subst hb;subst hk;exact⟨cap,hr⟩
        |succ j=>exact h2 j b' k' (by simpa using hb) (by simpa using hk)
     ·cases hk
theorem agD {o:Oper}{f:FuncId}{cs:List oW}{l:List Nat}(h:GX E I ρ n st a w)(hc:Zo n o.op f cs=true)(hg:∀x,x∈cs->(x.ev st.tm).g=true)
 (hk:JX (cs.map (dZ st.tm))=some l):wZ P E n o a w st (.one (.fn f l)):=by
 unfold Zo at hc;split at hc
 ·rename_i g caps he;simp only[ah,akg]at hc;obtain⟨⟨rfl,hl⟩,hc⟩:=hc;obtain⟨ks,h1,h2,h3⟩:=akG h (by simpa using hl) hc hg hk;refine wE.val h (v:=.func (.func g) #[] (caps.map a.eval)) (by simp[execOp,he,Instr.makeFunc]) ⟨ks,h1,h2,?_⟩
  congr 1
  apply yI;simpa using h3
 ·cases hc
def NP (off:Nat) (x:AV):FR:=match x with
    |.one (.ptr b o)=>.ok (.one (.ptr b (o+off)))
    |.one (.Bc b i sz o)=>.ok (.one (.Bc b i sz (o+off)))
    |.one (.Gu cs)=>.ok (.one (.Gu (cs.drop off)))
    |_=>.bad
theorem ahZ {v:Value}{x:AV}{off:Nat}(h:GV I ρ v x)(jV:(NP off x).vc):∃p:Addr,v = .pointer (some p)/\GV I ρ (.pointer (some (p.add off))) (NP off x).v:=by
 unfold NP at *;split at jV
 ·rename_i b o;obtain⟨k,cap,hr,rfl⟩:=h;exact⟨_,rfl,k,cap,hr,by rw[Addr.tJ]⟩
 ·rename_i b i sz o;obtain⟨k,cap,hr,rfl⟩:=h;exact⟨_,rfl,k,cap,hr,by rw[Addr.tJ,sU]⟩
 ·rename_i cs;obtain⟨p,rfl,hc⟩:=h;exact⟨p,rfl,_,rfl,λj c hj=>by rw[fV]at hj;rw[Addr.add_add];exact hc _ c hj⟩
 ·exact jV.elim
def Zx (P:Program)(s:TypeId)(f off:Nat)(agg:Bool)(k:Nat):Bool:=
 match P.underlying s with
 | some (.struct fs)=>match fs[f]? with
   |some UF=>UF.offset==off&&Nc P UF.type agg k&&k != 0
   |none=>false
 |_=>false
theorem Zy {s:TypeId}{f off:Nat}{agg:Bool}{k:Nat}(h:Zx P s f off agg k=true):∃fs UF,P.underlying s=some (.struct fs)/\fs[f]? = some UF/\UF.offset=off/\Nc P UF.type agg k=true/\k≠0:=by
 unfold Zx at h;split at h
 ·rename_i fs hs;split at h
  ·rename_i UF hf;simp only[ah,akg,bne_iff_ne]at h;exact⟨fs,UF,hs,hf,h.1.1,h.1.2,h.2⟩
  ·cases h
 ·cases h
def FT (P:Program)(s:TypeId)(f off:Nat):Bool:=
 match P.underlying s with
 | some (.struct fs)=>match fs[f]? with
   |some UF=>UF.offset==off&&(match P.info? UF.type with|some i=>i.size != 0|none=>false)
   |none=>false
 |_=>false
def V4 (P:Program)(n:Nat)(op:Op)(off:Nat)(x:oW):Bool:=match op with|.fieldAddr s x' f=>kW n x' x&&FT P s f off|_=>false
theorem adt {o:Oper}{x:oW}{off:Nat}(h:GX E I ρ n st a w)(hc:V4 P n o.op off x=true)(hx:(x.ev st.tm).g=true)(jV:(NP off (dZ st.tm x)).vc):wZ P E n o a w st (NP off (dZ st.tm x)).v:=by
 unfold V4 at hc;split at hc
 ·rename_i s x' f he;simp only[ah]at hc;have g:=nV h hc.1 hx;obtain⟨p,hp,hg⟩:=ahZ g jV;obtain⟨_,hf⟩:=hc;unfold FT at hf;split at hf
  ·rename_i fs hs;split at hf
   ·rename_i UF hfld;simp only[ah,akg]at hf;obtain⟨rfl,hf⟩:=hf;split at hf
    ·rename_i i hi;simp at hf;refine wE.val h ?_ hg;simp[execOp,he,Bj,run_underlying hs,hfld,hp,kJ,fieldPlace,sizeOf,typeInfo,hi,hf]
    ·cases hf
   ·cases hf
  ·cases hf
 ·cases hc
def TW (x:AV):FR:=match x with
    |.one (.ptr b o)=>.ok (.one (.ptr b o))
    |.one (.Bc b i sz o)=>.ok (.one (.Bc b i sz o))
    |.one (.Gu cs)=>.ok (.one (.Gu cs))
    |.one (.fn f cs)=>.ok (.one (.fn f cs))
    |_=>.bad
def V9 (n:Nat)(op:Op)(x:oW):Bool:=match op with|.nilCheck x'=>kW n x' x|_=>false
theorem adY {o:Oper}{x:oW}(h:GX E I ρ n st a w)(hc:V9 n o.op x=true)(hx:(x.ev st.tm).g=true)(jV:(TW (dZ st.tm x)).vc):wZ P E n o a w st (TW (dZ st.tm x)).v:=by
 unfold V9 at hc;split at hc
 ·rename_i x' he;have g:=nV h hc hx;have key:(∃p,a.eval x' = .pointer (some p))\/(∃f b,a.eval x' = .func (.func f) #[] b)->(execOp a.eval o).run P w = .ok (.value (a.eval x')) w:=by rintro(⟨p,hp⟩|⟨f,b,hp⟩)<;>simp[execOp,he,hp]
  unfold TW at jV⊢;split at jV
  ·rename_i b o' e1;rw[e1]at g;exact wE.val h (key (by obtain⟨k,cap,hr,hv⟩:=g;exact .inl ⟨_,hv⟩)) g
  ·rename_i b i sz o' e1;rw[e1]at g;exact wE.val h (key (by obtain⟨k,cap,hr,hv⟩:=g;exact .inl ⟨_,hv⟩)) g
  ·rename_i cs e1;rw[e1]at g;exact wE.val h (key (by obtain⟨p,hv,_⟩:=g;exact .inl ⟨_,hv⟩)) g
  ·rename_i f cs e1;rw[e1]at g;exact wE.val h (key (by obtain⟨ks,_,_,hv⟩:=g;exact .inr ⟨_,_,hv⟩)) g
  ·exact jV.elim
 ·cases hc
end
end
section
section
variable {P:Program} {E:Env P} {I:IH} {ρ:Ren} {n:Nat} {st:fH} {a:Act} {w:World}
def Ti (agg:Bool) (off k:Nat) (x:AV):FR:=match x with
    | .agg xs=>if agg then⟨off+k<=xs.length,.agg ((xs.drop off).take k),[]⟩else match xs[off]? with
      |some x=>.ok (.one x)
      |none=>.bad
    |_=>.bad
def V5 (P:Program)(n:Nat)(op:Op)(agg:Bool)(off k:Nat)(x:oW):Bool:=match op with|.field s x' f=>kW n x' x&&Zx P s f off agg k|_=>false
theorem ah5 {vs:List Value}{xs:List AC}(h:OB I ρ vs xs)(off k:Nat):OB I ρ ((vs.drop off).take k) ((xs.drop off).take k):=by
 refine⟨by simp[h.1],λj v x hv hx=>?_⟩;rw[cu]at hv hx;split at hv
 ·rename_i hj;rw[ahl hj]at hx;rw[fV]at hv hx;exact h.2 _ v x hv hx
 ·cases hv
theorem adu {o:Oper}{x:oW}{agg:Bool}{off k:Nat}(h:GX E I ρ n st a w)(hc:V5 P n o.op agg off k x=true)(hx:(x.ev st.tm).g=true)(jV:(Ti agg off k (dZ st.tm x)).vc) :
 wZ P E n o a w st (Ti agg off k (dZ st.tm x)).v:=by
 unfold V5 at hc;split at hc
 ·rename_i s x' f he;simp only[ah]at hc;have g:=nV h hc.1 hx;obtain⟨fs,UF,hs,hf,rfl,ht,hk⟩:=Zy hc.2;obtain⟨t1,t2⟩:=IY ht w;unfold Ti at jV⊢;split at jV
  ·rename_i xs e1;rw[e1]at g;obtain⟨cs,hv,hg⟩:=g;split at jV
   ·rename_i hA;rw[ahl hA];rw[hA]at t1;refine wE.val h (v:=.agg (cs.extract UF.offset (UF.offset+k))) (by simp[execOp,he,Gz,run_underlying hs,hf,hv,asAgg,part,t1,t2]) ⟨_,rfl,?_⟩;have:=ah5 hg UF.offset k;simpa[List.extract_eq_take_drop]using this
   ·rename_i hA;rw[ahk hA];have hA':agg=false:=(by simpa using hA);rw[hA']at t1;split at jV
    ·rename_i y hy;have hl:UF.offset<cs.size:=by
      have h1:=hg.1;have h2:=(aK.1 hy).1;simp at h1;omega
     refine wE.val h (v:=cs[UF.offset]) (by simp[execOp,he,Gz,run_underlying hs,hf,hv,asAgg,part,t1,lK hl]) (hg.2 UF.offset _ y (by simp[hl]) hy)
    ·exact jV.elim
  ·exact jV.elim
 ·cases hc
def TC (sz:Nat) (x i:AV):FR:=match x,i with
    |.one (.c (.sl sz' es)),.one (.c (.lit (.int _ i)))=>⟨sz'=sz/\0<=i/\i<es.length,.one (.Gu (es.getD i.toNat [])),[]⟩
    |.one (.own b n sz'),.one (.c (.lit (.int _ i)))=>⟨sz'=sz/\0<=i/\i<n,.one (.Bc b i.toNat sz 0),[]⟩
    |.one (.sub b lo n _ sz'),.one (.c (.lit (.int _ i)))=>⟨sz'=sz/\0<=i/\i<n,.one (.Bc b (lo+i.toNat) sz 0),[]⟩
    |_,_=>.bad
def NL (P:Program)(t:TypeId)(sz:Nat):Bool:=match P.underlying t with|some (.slice e)=>Uh P e sz|_=>false
theorem Dw {t:TypeId}{sz:Nat}(h:NL P t sz=true):∃e i,P.underlying t=some (.slice e)/\P.info? e=some i/\i.size=sz:=by
 unfold NL at h;split at h
 ·rename_i e he;obtain⟨i,h1,h2⟩:=Ol h;exact⟨e,i,he,h1,h2⟩
 ·cases h
def V6 (P:Program)(n:Nat)(op:Op)(sz:Nat)(x i:oW):Bool:=match op with|.indexAddr t x' i'=>kW n x' x&&kW n i' i&&NL P t sz|_=>false
theorem adG {o:Oper}{x y:oW}{sz:Nat}(h:GX E I ρ n st a w)(hc:V6 P n o.op sz x y=true)(hx:(x.ev st.tm).g=true)(hy:(y.ev st.tm).g=true)
 (jV:(TC sz (dZ st.tm x) (dZ st.tm y)).vc):wZ P E n o a w st (TC sz (dZ st.tm x) (dZ st.tm y)).v:=by
 unfold V6 at hc;split at hc
 ·rename_i t x' y' he;simp only[ah]at hc;have g1:=nV h hc.1.1 hx;have g2:=nV h hc.1.2 hy;obtain⟨e,ti,ht,hi,hsz⟩:=Dw hc.2;unfold TC at jV⊢;split at jV
  ·rename_i sz' es k i e1 e2;obtain⟨rfl,h0,h1⟩:=jV;rw[e1]at g1;rw[e2]at g2;have v2:=yR g2;generalize hq:a.eval x'=v1 at g1;cases g1 with|sl b len cap _ _ u hlen hcap hmax apI ha hcell hr=>
   subst hlen;have hpos:0<es.length:=(by omega);cases hb:b with
   |none=>exact al7 hb (ha hpos)
   | some ad=>
     subst hb;refine wE.val h (v:=.pointer (some (ad.add (i.toNat*sz')))) (by simp[execOp,he,wM,v2,hq,asIntOf,run_underlying ht,h0,h1,sizeOf,typeInfo,hi,hsz]) ⟨_,rfl,λj c hj=>?_⟩;have hil:i.toNat<es.length:=(by omega);have hjl:j<sz':=by have:=apI (es.getD i.toNat []) (by simp[bZ,ax hil]);rw[<- this];exact(aK.1 hj).1
     exact⟨_,by rw[Addr.add_add];exact hcell ad rfl _ j hil hjl,hr _ j c hj⟩
  ·rename_i b m sz' k i e1 e2;obtain⟨rfl,h0,h1⟩:=jV;rw[e1]at g1;rw[e2]at g2;have v2:=yR g2;obtain⟨kk,cap,ad,c,hr,hv,hm,hcc,hcap⟩:=g1;have hc0:cap≠0:=(by omega);have had:=hcap hc0;subst had;refine wE.val h (v:=.pointer (some ((⟨kk,0,none⟩:Addr).add (i.toNat*sz')))) (by simp[execOp,he,wM,v2,hv,asIntOf,run_underlying ht,h0,h1,sizeOf,typeInfo,hi,hsz]) ⟨kk,cap,hr,?_⟩;rw[Addr.tJ];simp
  ·rename_i b lo m c0 sz' k i e1 e2;obtain⟨rfl,h0,h1⟩:=jV;rw[e1]at g1;rw[e2]at g2;have v2:=yR g2;obtain⟨kk,cap,ad,c,hr,hv,hm,hcc,_,hcap⟩:=g1;have had:=hcap (.inl (by omega));subst had;refine wE.val h (v:=.pointer (some ((⟨kk,lo*sz',none⟩:Addr).add (i.toNat*sz')))) (by simp[execOp,he,wM,v2,hv,asIntOf,run_underlying ht,h0,h1,sizeOf,typeInfo,hi,hsz]) ⟨kk,cap,hr,?_⟩;rw[Addr.tJ,cO,rQ]
  ·exact jV.elim
 ·cases hc
def QT (P:Program)(t:TypeId)(sz n:Nat):Bool:=match P.underlying t with|some (.array m e)=>m==n&&Uh P e sz|_=>false
theorem QU {t:TypeId}{sz m:Nat}(h:QT P t sz m=true):∃e i,P.underlying t=some (.array m e)/\P.info? e=some i/\i.size=sz:=by
 unfold QT at h;split at h
 ·rename_i m' e he;simp only[ah,akg]at h;obtain⟨rfl,h⟩:=h;obtain⟨i,h1,h2⟩:=Ol h;exact⟨e,i,he,h1,h2⟩
 ·cases h
def Tc (P:Program)(n:Nat)(op:Op)(sz m:Nat)(x i:oW):Bool:=match op with|.indexAddr t x' i'=>kW n x' x&&kW n i' i&&QT P t sz m|_=>false
theorem abq {o:Oper}{x y:oW}{sz m b:Nat}{k:IntKind}{i:Int}(h:GX E I ρ n st a w)(hc:Tc P n o.op sz m x y=true)(hx:(x.ev st.tm).g=true)(hy:(y.ev st.tm).g=true)
 (e1:dZ st.tm x = .one (.Bc b 0 sz 0)) (e2:dZ st.tm y=xW k i) (h0:0<=i) (h1:i<m):wZ P E n o a w st (.one (.Bc b i.toNat sz 0)):=by
 unfold Tc at hc;split at hc
 ·rename_i t x' y' he;simp only[ah]at hc;have g1:=nV h hc.1.1 hx;have g2:=nV h hc.1.2 hy;obtain⟨e,ti,ht,hi,hsz⟩:=QU hc.2;rw[e1]at g1;rw[e2]at g2;have v2:=yR g2;obtain⟨kk,cap,hr,hv⟩:=g1;refine wE.val h (v:=.pointer (some ((⟨kk,0*sz+0,none⟩:Addr).add (i.toNat*sz)))) (by simp[execOp,he,wM,v2,hv,asIntOf,run_underlying ht,kJ,h0,h1,sizeOf,typeInfo,hi,hsz]) ⟨kk,cap,hr,?_⟩;rw[Addr.tJ];simp
 ·cases hc
theorem KA {lo:Option oW}{lo':Option Operand}{d:Nat}{q:Int}(h:GX E I ρ n st a w)(hc:(match lo',lo with|none,none=>true|some x',some x=>kW n x' x|_,_=>false)=true)
 (hg:∀x,x∈lo.toList->(x.ev st.tm).g=true) (hb:bnd (dZ st.tm) lo d=some q):(lo'=none/\lo=none/\q=d)\/∃x' k,lo'=some x'/\a.eval x' = .int k q:=by
 unfold bnd at hb;split at hc
 ·simp at hb;exact .inl ⟨rfl,rfl,hb.symm⟩
 ·rename_i x' x;have g:=nV h hc (hg x (by simp));simp only at hb;split at hb
  ·rename_i k m e1;simp at hb;subst hb;rw[e1]at g;exact .inr ⟨x',k,rfl,yR g⟩
  ·cases hb
 ·cases hc
def SY (n:Nat)(lo':Option Operand)(lo:Option oW):Bool:=match lo',lo with|none,none=>true|some x',some x=>kW n x' x|_,_=>false
theorem OI {lo:Option oW}{lo':Option Operand}{d:Nat}{q:Int}(h:(lo'=none/\lo=none/\q=d)\/∃x' k,lo'=some x'/\a.eval x' = .int k q) :
 lo'.map a.eval=none/\q=d\/∃k,lo'.map a.eval=some (.int k q):=by
 rcases h with⟨rfl,_,e⟩|⟨y,k,rfl,e⟩
 ·exact .inl ⟨rfl,e⟩
 ·exact .inr ⟨k,by simp[e]⟩
theorem run_sliceBound {k:IntKind}{i:Int}{y:Nat}{c:BoundsCode}(h0:0<=i)(h1:i<=y):(Instr.sliceBound (.int k i) y c).run P w = .ok i.toNat w:=by simp[Instr.sliceBound,asIntOf,h0,h1]
theorem EK (isS:Bool)(len cap:Nat)(lo' hi':Option Value){p q:Int}(hlo:lo'=none/\p=0\/∃k,lo'=some (.int k p))(hhi:hi'=none/\q=len\/∃k,hi'=some (.int k q))
 (h0:0<=p) (h1:p<=q) (h2:q<=cap):(zo isS len cap lo' hi' none).run P w = .ok (p.toNat,q.toNat,cap) w:=by
 rcases hlo with⟨rfl,rfl⟩|⟨k,rfl⟩<;>rcases hhi with⟨rfl,rfl⟩|⟨k',rfl⟩<;>cases isS <;>
  simp (disch:=omega) [zo,run_sliceBound]
def Wh (P:Program)(n:Nat)(op:Op)(x:oW)(lo hi:Option oW):Bool:=match op with|.slice t x' lo' hi' none=>kW n x' x&&SY n lo' lo&&SY n hi' hi&&TG P t|_=>false
theorem aei {o:Oper}{x:oW}{lo hi:Option oW}{s:List UInt8}{p q:Int}(h:GX E I ρ n st a w)(hc:Wh P n o.op x lo hi=true)(hx:(x.ev st.tm).g=true)
 (hgl:∀x,x∈lo.toList->(x.ev st.tm).g=true) (hgh:∀x,x∈hi.toList->(x.ev st.tm).g=true)
 (e1:dZ st.tm x=Me s) (e2:bnd (dZ st.tm) lo 0=some p) (e3:bnd (dZ st.tm) hi s.length=some q) (h0:0<=p) (h1:p<=q) (h2:q<=s.length) :
 wZ P E n o a w st (Me ((s.take q.toNat).drop p.toNat)):=by
 unfold Wh at hc;split at hc
 ·rename_i t x' lo' hi' he;simp only[ah]at hc;have g1:=nV h hc.1.1.1 hx;have ht:=JP hc.2;rw[e1]at g1;obtain⟨v1,hl⟩:=JZ g1;have b1:=KA h hc.1.1.2 hgl e2;have b2:=KA h hc.1.2 hgh e3;have hb:=EK (P:=P) (w:=w) false s.length s.length (lo'.map a.eval) (hi'.map a.eval) (p:=p) (q:=q)
   (OI b1) (OI b2) h0 h1 h2
  have hx:(⟨⟨s⟩⟩:ByteArray).extract p.toNat q.toNat=⟨⟨(s.take q.toNat).drop p.toNat⟩⟩:=by rw[Lib.extract_eq];simp[List.drop_take]
  refine wE.val h (v:=.string ⟨⟨(s.take q.toNat).drop p.toNat⟩⟩) ?_ (ZT (by simp;omega));simp only[execOp,he,yJ,Dc,v1,lg];simp[run_underlying ht];rw[show(⟨⟨s⟩⟩:ByteArray).size=s.length from rfl,hb];simp[hx]
 ·cases hc
def YW (sz:Nat) (x:AV) (lo:Option Int) (hi:Nat->Option Int):FR:=match x with
    | .one (.c (.sl sz' es))=>match lo,hi es.length with
      |some a,some b=>⟨sz'=sz/\0<=a/\a<=b/\b<=es.length,vSl sz ((es.take b.toNat).drop a.toNat),[]⟩
      |_,_=>.bad
    | .one (.lF sz')=>match lo,hi 0 with
      |some a,some b=>⟨a=0/\b=0,.one (.lF sz'),[]⟩
      |_,_=>.bad
    | .one (.own l n sz')=>match lo,hi n with
      |some a,some b=>⟨a=0/\0<=b/\b<=n,.one (.own l b.toNat sz'),[]⟩
      |_,_=>.bad
    |_=>.bad
theorem anf {v:Value}{sz:Nat}{es:List (List Cell)}(h:Rd I v (.sl sz es)){p q:Nat}(hpq:p<=q)(hq:q<=es.length):∃a cap,v = .slice a es.length cap/\es.length<=cap /\
 Rd I (.slice (if cap=p then a else a.map (·.add (p*sz))) (q-p) (cap-p)) (.sl sz ((es.take q).drop p)):=by
 cases h with|sl a len cap sz es u hlen hcap hmax hsz ha hcell hr=>
 subst hlen;refine⟨a,cap,rfl,hcap,?_⟩;refine Rd.sl _ _ _ _ _ (λi j=>u (p+i) j) (by simp;omega) (by omega) (by omega) ?_ ?_ ?_ ?_
 ·intro e he;exact hsz e (fD (kN he))
 ·intro h0;rw[ahk (by omega)];have:=ha (by omega);cases a with
  |none=>exact al7 rfl this
  |some ad=>simp
 ·intro ad had i j hi hj;rw[ahk (by omega)]at had;cases a with
  |none=>simp at had
  | some ad'=>
    simp at had;subst had;rw[Addr.add_add,<- hcell ad' rfl (p+i) j (by omega) hj]
    congr 2
    rw[cO,sU]
 ·intro i j c hc;have hi:=l7 hc;simp at hi;refine hr (p+i) j c ?_;rw[<- hc]
  congr 1
  simp only[bZ];rw[fV,cu,ahl (by omega)]
def Zr (P:Program)(n:Nat)(op:Op)(sz:Nat)(x:oW)(lo hi:Option oW):Bool:=match op with|.slice t x' lo' hi' none=>kW n x' x&&SY n lo' lo&&SY n hi' hi&&NL P t sz|_=>false
theorem agW {o:Oper}{sz:Nat}{x:oW}{lo hi:Option oW}(h:GX E I ρ n st a w)(hc:Zr P n o.op sz x lo hi=true)(hx:(x.ev st.tm).g=true)
 (hgl:∀x,x∈lo.toList->(x.ev st.tm).g=true) (hgh:∀x,x∈hi.toList->(x.ev st.tm).g=true)
 (jV:(YW sz (dZ st.tm x) (bnd (dZ st.tm) lo 0) (bnd (dZ st.tm) hi)).vc):wZ P E n o a w st (YW sz (dZ st.tm x) (bnd (dZ st.tm) lo 0) (bnd (dZ st.tm) hi)).v:=by
 unfold Zr at hc;split at hc
 ·rename_i t x' lo' hi' he;simp only[ah]at hc;have g1:=nV h hc.1.1.1 hx;obtain⟨e,ti,ht,hti,hsz⟩:=Dw hc.2;have key:∀(b:Option Addr) (len cap:Nat) (p q:Int),a.eval x' = .slice b len cap->len<=cap->bnd (dZ st.tm) lo 0=some p->bnd (dZ st.tm) hi len=some q->0<=p->p<=q->q<=cap ->
   (execOp a.eval o).run P w = .ok (.value (.slice (if cap=p.toNat then b else b.map (·.add (p.toNat*sz))) (q.toNat-p.toNat) (cap-p.toNat))) w:=by
   intro b len cap p q hv hlc e2 e3 h0 h1 h2;have b1:=KA h hc.1.1.2 hgl e2;have b2:=KA h hc.1.2 hgh e3;have hb:=EK (P:=P) (w:=w) true len cap (lo'.map a.eval) (hi'.map a.eval) (p:=p) (q:=q)
    (OI b1) (OI b2) h0 h1 h2
   simp only[execOp,he,yJ,Dc,hv,lg];simp[run_underlying ht];rw[hb];simp[sizeOf,typeInfo,hti,hsz]
  unfold YW at jV⊢;split at jV
  ·rename_i sz' es e1;rw[e1]at g1;split at jV
   ·rename_i p q e2 e3;obtain⟨rfl,h0,h1,h2⟩:=jV;obtain⟨b,cap,hv,hcap,hr⟩:=anf g1 (p:=p.toNat) (q:=q.toNat) (by omega) (by omega);exact wE.val h (key b _ cap p q hv hcap e2 e3 h0 h1 (by omega)) hr
   ·exact jV.elim
  ·rename_i sz' e1;rw[e1]at g1;split at jV
   ·rename_i p q e2 e3;obtain⟨rfl,rfl⟩:=jV;have:=key none 0 0 0 0 g1 (aA _) e2 e3 (by omega) (by omega) (by omega);exact wE.val h this (by simp[GV,GC])
   ·exact jV.elim
  ·rename_i b m sz' e1;rw[e1]at g1;split at jV
   ·rename_i p q e2 e3;obtain⟨rfl,h1,h2⟩:=jV;obtain⟨kk,cap,ad,c,hr,hv,hm,hcc,hcap⟩:=g1;have:=key ad m c 0 q hv hm e2 e3 (by omega) (by omega) (by omega);refine wE.val h this ⟨kk,cap,_,_,hr,rfl,by omega,by omega,λhc0=>?_⟩;rw[hcap hc0];simp[Addr.add_zero]
   ·exact jV.elim
  ·exact jV.elim
 ·cases hc
def We (P:Program)(n:Nat)(op:Op)(sz m:Nat)(x:oW):Bool:=match op with|.slice t x' none none none=>kW n x' x&&QT P t sz m|_=>false
theorem aeh {o:Oper}{sz m b:Nat}{es:List (List Cell)}{x:oW}(h:GX E I ρ n st a w)(hc:We P n o.op sz m x=true)(hx:(x.ev st.tm).g=true)
 (e1:dZ st.tm x = .one (.Bc b 0 sz 0)) (e2:st.bx b = .dat sz es) (hm:es.length=m):wZ P E n o a w st (.one (.own b m sz)):=by
 unfold We at hc;split at hc
 ·rename_i t x' he;simp only[ah]at hc;have g1:=nV h hc.1 hx;rw[e1]at g1;obtain⟨kk,cap,hr,hv⟩:=g1;obtain⟨e,ti,ht,hi',hsz⟩:=QU hc.2;have facts:=GS.Kz h (b:=b) (by rw[e2];rfl) hr;refine wE.val h (v:=.slice (some ⟨kk,0,none⟩) m m) ?_ ⟨kk,cap,_,_,hr,rfl,aA _,by omega,λ_=>rfl⟩;have hb:=EK (P:=P) (w:=w) false m m none none (p:=0) (q:=m) (.inl ⟨rfl,rfl⟩) (.inl ⟨rfl,rfl⟩) (by omega) (by omega) (by omega);simp only[execOp,he,yJ,hv,lg];simp[run_underlying ht,kJ];rw[hb];simp[sizeOf,typeInfo,hi',Addr.add_zero]
 ·cases hc
end
end
section
section
variable {P:Program} {E:Env P} {I:IH} {ρ:Ren} {n:Nat} {st:fH} {a:Act} {w:World}
theorem qH {α:Type}(xs ys:List α)(off j:Nat)(h:off+ys.length<=xs.length):(splice xs off ys)[j]? = if j<off then xs[j]? else if j<off+ys.length then ys[j-off]? else xs[j]?:=by
 unfold splice;have h1:(xs.take off).length=off:=by simp;omega
 by_cases hj:j<off
 ·rw[ahl hj,gX,bF (by omega),cu,ahl hj]
 ·rw[ahk hj];by_cases hj2:j<off+ys.length
  ·rw[ahl hj2,bF (by simp;omega),dA (by omega),h1]
  ·rw[ahk hj2,dA (by simp;omega),fV]
   congr 1
   simp;omega
theorem length_splice {α:Type}(xs ys:List α)(off:Nat)(h:off+ys.length<=xs.length):(splice xs off ys).length=xs.length:=by unfold splice;simp;omega
theorem WH {α:Type}(vs:List α):∀(i off:Nat) (cs:Array α),off+i+vs.length<=cs.size ->
 ((vs.zipIdx i).foldl (λcs p=>cs.setIfInBounds (off+p.2) p.1) cs).toList=splice cs.toList (off+i) vs:=by
 induction vs with
 |nil=>intro i off cs h;simp[splice]
 | cons v r ih=>
   intro i off cs h;simp only[List.zipIdx_cons,vK];rw[ih (i+1) off _ (by simp at h⊢;omega)];apply List.ext_getElem?;intro j;simp only[iC]at h;rw[qH _ _ _ _ (by simp;omega),qH _ _ _ _ (by simp;omega)];simp only[Array.toList_setIfInBounds,qG,iC];by_cases h1:j<off+i
   ·rw[ahl (by omega),ahk (by omega),ahl h1]
   ·rw[ahk h1];by_cases h2:j=off+i
    ·subst h2;rw[ahl (by omega),ahl rfl,ahl (by simp;omega),ahl (by omega)];simp
    ·rw[ahk (by omega)];by_cases h3:j<off+(i+1)+r.length
     ·rw[ahl h3,ahl (by omega)];rw[show j-(off+i)=(j-(off+(i+1)))+1 by omega,List.getElem?_cons_succ]
     ·rw[ahk h3,ahk (by omega),ahk (by omega)]
theorem foldl_set (v:Array Value)(off:Nat)(cs:Array Value)(h:off+v.size<=cs.size) :
 (v.zipIdx.foldl (λcs (p:Value×Nat)=>cs.setIfInBounds (off+p.2) p.1) cs).toList=splice cs.toList off v.toList:=by
 have:=WH v.toList 0 off cs (by simpa using h);rw[rQ]at this;rw[<- this,<- Array.foldl_toList,Array.toList_zipIdx]
theorem OB.splice {vs us:List Value}{xs ys:List AC}(h:OB I ρ vs xs)(k:OB I ρ us ys)(off:Nat)(hl:off+ys.length<=xs.length):OB I ρ (splice vs off us) (splice xs off ys):=by
 have hlu:off+us.length<=vs.length:=by rw[h.1,k.1];exact hl
 refine⟨by rw[length_splice _ _ _ hlu,length_splice _ _ _ hl];exact h.1,λj v x hv hx=>?_⟩;rw[qH _ _ _ _ hlu]at hv;rw[qH _ _ _ _ hl]at hx;rw[k.1]at hv;by_cases h1:j<off
 ·rw[ahl h1]at hv hx;exact h.2 j v x hv hx
 ·rw[ahk h1]at hv hx;by_cases h2:j<off+ys.length
  ·rw[ahl h2]at hv hx;exact k.2 _ v x hv hx
  ·rw[ahk h2]at hv hx;exact h.2 j v x hv hx
theorem NS {v:Value}{x:AV}(h:GV I ρ v x)(ht:x.flat):OB I ρ v.cells.toList x.cells:=by
 cases x with
 | one x=>
   have h1:=GC.one h;have hc:v.cells = #[v]:=by cases v<;>first|rfl|(simp[Value.oneCell']at h1;done)
   rw[hc];exact⟨rfl,λj u y hu hy=>by cases j with
    |zero=>simp at hu;simp[AV.cells]at hy;subst hu;subst hy;exact h
    |succ j=>simp at hu⟩
 |agg xs=>obtain⟨cs,rfl,hg⟩:=h;exact hg
 |zi ps=>exact ht.elim
def SA (zs:List Value)(xs:List AC):Bool:=zs.length==xs.length&&(zs.zip xs).all λp=>akH p.1 p.2
theorem MH {zs:List Value}{xs:List AC}(h:SA zs xs=true):OB I ρ zs xs:=by unfold SA at h;simp only[ah,akg,aP]at h;refine⟨h.1,λj v x hv hx=>aeI (h.2 (v,x) ?_)⟩;exact gQ (i:=j) (by simp[AX,hv,hx])
def OY (P:Program)(n:Nat)(fs:Array Field):List (Nat×Operand)->List (Nat×Nat×oW)->Bool
 |[],[]=>true
 |(i,x)::r,(off,sz,y)::r'=>(match fs[i]? with
  |some f=>f.offset==off&&Uh P f.type sz
  |none=>false)&&kW n x y&&OY P n fs r r'
 |_,_=>false
theorem run_places (w:World)(fs:List Field)(h:fs.all (λf=>(P.info? f.type).isSome)=true) :
 (fs.mapM (m:=Sem) λf=>do pure (f.offset,<- sizeOf f.type)).run P w = .ok (fs.map λf=>(f.offset,P.cellsOf f.type)) w:=by
 induction fs with
 |nil=>rfl
 | cons f r ih=>
   simp only[dH,ah]at h;cases hi:P.info? f.type with
   |none=>rw[hi]at h;cases h.1
   | some i=>have h1:(sizeOf f.type).run P w = .ok (P.cellsOf f.type) w:=(by simp[sizeOf,typeInfo,hi,Program.cellsOf]);simp only[List.mapM_cons,cZ,h1,bn,bQ,ih h.2,aZ]
def aeE (P:Program)(n:Nat)(t:TypeId)(zs:List AC)(ps:List (Nat×Operand))(ps':List (Nat×Nat×oW)):Bool:=
 match P.underlying t,P.info? t with
 |some (.struct fs),some i=>(match i.zero with|some (.agg cs)=>SA cs.toList zs|_=>false)&&fs.toList.all (λf=>(P.info? f.type).isSome)&&OY P n fs ps ps'
 |_,_=>false
def V3 (P:Program)(n:Nat)(op:Op)(zs:List AC)(ps':List (Nat×Nat×oW)):Bool:=match op with|.build t ps=>aeE P n t zs ps.toList ps'|_=>false
theorem ac7 {t:TypeId}{k:Nat}(h:Uh P t k=true):P.cellsOf t=k:=by obtain⟨i,hi,hs⟩:=Ol h;simp[Program.cellsOf,hi,hs]
theorem aeL {fs:Array Field}(h:GX E I ρ n st a w):∀(ps:List (Nat×Operand)) (ps':List (Nat×Nat×oW)) (cs:Array Value) (xs:List AC),OY P n fs ps ps'=true->OB I ρ cs.toList xs ->
 (∀p,p∈ps'->(p.2.2.ev st.tm).g=true)->(∀p,p∈ps'->Z8 xs.length (p.1,p.2.1,dZ st.tm p.2.2)) ->
 ∃cs',uw ((fs.map λf=>(f.offset,P.cellsOf f.type))[·]?) cs (ps.map λp=>(p.1,a.eval p.2))=some cs'/\OB I ρ cs'.toList (WC xs (ps'.map λp=>(p.1,(dZ st.tm p.2.2).cells)))
 |[],[],cs,xs,_,hg,_,_=>⟨cs,rfl,hg⟩
 |[],_::_,_,_,h,_,_,_=>by simp[OY]at h
 |_::_,[],_,_,h,_,_,_=>by simp[OY]at h
 | (i,x)::r,(off,sz,y)::r',cs,xs,hp,hg,hv,hq=>by
   simp only[OY,ah]at hp;obtain⟨⟨hf,hx⟩,hr⟩:=hp;split at hf
   ·rename_i f hfi;simp only[ah,akg]at hf;obtain⟨rfl,hsz⟩:=hf;have hs:=ac7 hsz;have g:=nV h hx (hv _ (aW ..));obtain⟨q1,q2,q3⟩:=hq _ (aW ..);have gc:=NS g q3;have hvs:(a.eval x).cells.size=sz:=(by have:=gc.1;simp at this;rw[this];exact q1);have hcs:cs.size=xs.length:=(by have:=hg.1;simpa using this);have q1:(dZ st.tm y).cells.length=sz:=q1;have q2:f.offset+sz<=xs.length:=q2;have hgs:=hg.splice gc f.offset (by rw[q1];exact q2);have hfold:=foldl_set (a.eval x).cells f.offset cs (by omega);have ih:=aeL h r r' ((a.eval x).cells.zipIdx.foldl (λcs (p:Value×Nat)=>cs.setIfInBounds (f.offset+p.2) p.1) cs) (splice xs f.offset (dZ st.tm y).cells) hr (by rw[hfold];exact hgs)
     (λp hp=>hv p (by simp[hp])) (λp hp=>by rw[length_splice _ _ _ (by rw[q1];exact q2)];exact hq p (by simp[hp]))
    obtain⟨cs',h1,h2⟩:=ih;refine⟨cs',?_,?_⟩
    ·have hpl:(fs.map λf=>(f.offset,P.cellsOf f.type))[i]? = some (f.offset,sz):=(by rw[pO,hfi,<- hs];rfl);simp only[aZ,uw,hpl];rw[ahk (by simp;omega)];exact h1
    ·simpa only[aZ,WC]using h2
   ·cases hf
theorem ac4 {o:Oper}{zs:List AC}{ps:List (Nat×Nat×oW)}(h:GX E I ρ n st a w)(hc:V3 P n o.op zs ps=true)(hv:∀p,p∈ps->(p.2.2.ev st.tm).g=true)
 (hq:∀p,p∈ps->Z8 zs.length (p.1,p.2.1,dZ st.tm p.2.2)):wZ P E n o a w st (.agg (WC zs (ps.map λp=>(p.1,(dZ st.tm p.2.2).cells)))):=by
 unfold V3 at hc;split at hc
 ·rename_i t ps0 he;unfold aeE at hc;split at hc
  ·rename_i fs i hs hi;simp only[ah]at hc;obtain⟨⟨hz,hall⟩,hp⟩:=hc;split at hz
   ·rename_i cs hzero;obtain⟨cs',h1,h2⟩:=aeL (P:=P) h ps0.toList ps cs zs hp (MH hz) hv hq;refine wE.val h (v:=.agg cs') ?_ ⟨cs',rfl,h2⟩;have hpl:=run_places (P:=P) w fs.toList hall;have hpl':(fs.mapM (m:=Sem) λf=>do pure (f.offset,<- sizeOf f.type)).run P w = .ok (fs.map λf=>(f.offset,P.cellsOf f.type)) w:=by
     rw[Array.mapM_eq_mapM_toList,Go.Sem.run_map,hpl];simp only[bn]
     congr 1
     apply yI;simp
    have hzr:(zeroValue t).run P w = .ok (.agg cs) w:=(by simp[zeroValue,typeInfo,hi,hzero]);have hps:(ps0.map λ(i,x)=>(i,a.eval x)).toList=ps0.toList.map λp=>(p.1,a.eval p.2):=(by simp);simp only[execOp,he,Instr.build,cZ,hzr,bn,mO,run_underlying hs,hpl',hps,h1,bQ]
   ·cases hz
  ·cases hc
 ·cases hc
def Src (I:IH)(w:World)(v:Value)(sz:Nat)(es:List (List Cell)):Prop:=
 ∃ (b:Option Addr) (cap:Nat),v = .slice b es.length cap/\es.length<=maxLen/\(∀e,e∈es->e.length=sz)/\(0<es.length->b≠none) /\
   ∀ad,b=some ad->∀i j c,(es.getD i [])[j]? = some c->∃u,w.cell? (ad.add (i*sz+j))=some u/\Rd I u c
theorem src_ok (h:GX E I ρ n st a w){v:Value}{x:AV}{sz:Nat}{p:Prop}{es:List (List Cell)}(hv:GV I ρ v x)(hs:yH sz x st.bx=some (p,es))(hp:p):Src I w v sz es:=by
 unfold yH at hs;split at hs
 ·rename_i sz' es';simp only[aC,bI]at hs;obtain⟨rfl,rfl⟩:=hs;subst hp;cases hv with|sl b len cap _ _ u hlen hcap hmax hsz ha hcell hr=>
  subst hlen;refine⟨b,cap,rfl,by omega,hsz,ha,λad had i j c hc=>?_⟩;have hi:=l7 hc;have hj:j<sz':=by have:=hsz (es'.getD i []) (by simp[bZ,ax hi]);rw[<- this];exact(aK.1 hc).1
  exact⟨_,h.agree.cell (hcell ad had i j hi hj),hr i j c hc⟩
 ·simp at hs;obtain⟨_,rfl⟩:=hs;simp only[GV,GC]at hv;exact⟨none,0,hv,by simp,by simp,by simp,λad had=>by cases had⟩
 ·rename_i b m sz';split at hs
  ·rename_i Dn es' hb;simp only[aC,bI]at hs;obtain⟨rfl,rfl⟩:=hs;obtain⟨rfl,rfl,hm⟩:=hp;obtain⟨k,cap,ad,c,hr,rfl,hmc,hcc,ha⟩:=hv;have facts:=GS.Kz h hb hr;have hlen:(es'.take m).length=m:=(by simp;omega);refine⟨ad,c,by rw[hlen],by omega,λe he=>facts.2.2 e (fD he),λh0=>by rw[ha (by omega)];simp,λq hq i j cc hc=>?_⟩;have hi:=l7 hc;rw[hlen]at hi;have hq':q=⟨k,0,none⟩:=(by have:=ha (by omega);rw[hq]at this;simpa using this);subst hq';have hc':(es'.getD i [])[j]? = some cc:=by
    rw[<- hc];congr 1;simp only[bZ];rw[cu,ahl hi]
   obtain⟨u,hu,hg⟩:=GS.OE h hb hr (by omega) (i:=i) (by omega) j (.c cc) (by rw[bP,hc'];rfl);refine⟨u,?_,hg⟩;rw[Addr.tJ]at hu⊢;rw[<- hu];congr 2;simp
  ·cases hs
 ·rename_i b lo m c0 sz';split at hs
  ·rename_i Dn es' hb;simp only[aC,bI]at hs;obtain⟨rfl,rfl⟩:=hs;obtain⟨rfl,rfl,hm⟩:=hp;obtain⟨k,cap,ad,c,hr,rfl,hmc,hcc,_,ha⟩:=hv;have facts:=GS.Kz h hb hr;have hlen:((es'.drop lo).take m).length=m:=(by simp;omega);refine⟨ad,c,by rw[hlen],by omega,λe he=>facts.2.2 e (kN (fD he)),λh0=>by rw[ha (.inl (by omega))];simp,λq hq i j cc hc=>?_⟩;have hi:=l7 hc;rw[hlen]at hi;have hq':q=⟨k,lo*Dn,none⟩:=(by have:=ha (.inl (by omega));rw[hq]at this;simpa using this);subst hq';have hc':(es'.getD (lo+i) [])[j]? = some cc:=by
    rw[<- hc];congr 1;simp only[bZ];rw[cu,ahl hi,fV]
   obtain⟨u,hu,hg⟩:=GS.OE h hb hr (by omega) (i:=lo+i) (by omega) j (.c cc) (by rw[bP,hc'];rfl);refine⟨u,?_,hg⟩;rw[Addr.tJ]at hu⊢;rw[<- hu];congr 2;rw[cO,sU]
  ·cases hs
 ·cases hs
theorem Zd {es:List (List Cell)}{l:List UInt8}(h:bytesOf es=some l):∃ns:List Int,es=ns.map (λm=>[Cell.lit (.int .u8 m)])/\l=ns.map λm=>fB m.toNat:=by
 induction es generalizing l with
 |nil=>simp[bytesOf]at h;exact⟨[],rfl,h⟩
 | cons e r ih=>
   unfold bytesOf at h;split at h
   ·rename_i e;cases e
   ·rename_i m r' e;simp only[xm]at e;obtain⟨rfl,rfl⟩:=e;split at h
    ·rename_i l' hl;obtain⟨ns,rfl,rfl⟩:=ih hl;simp at h;exact⟨m::ns,rfl,h.symm⟩
    ·cases h
   ·cases h
theorem foldl_push (ns:List Int):∀s:ByteArray,(ns.foldl (λr m=>r.push (fB m.toNat)) s).data.toList=s.data.toList++ns.map λm=>fB m.toNat:=by
 induction ns with
 |nil=>intro s;simp
 |cons m r ih=>intro s;rw[vK,ih,aZ];simp[ByteArray.push]
theorem agN {b:Option Addr}{cap:Nat}{ns:List Int}{v:Value}(hv:v = .slice b ns.length cap)(h0:0<ns.length->b≠none)
 (hc:∀ad,b=some ad->∀j m,ns[j]? = some m->w.cell? (ad.add j)=some (.int .u8 m)):(Conv.bytesToString v).run P w = .ok (.string ⟨⟨ns.map λm=>fB m.toNat⟩⟩) w:=by
 subst hv;cases b with
 | none=>
   cases ns with
   |nil=>simp[Conv.bytesToString,bQ];rfl
   |cons m r=>exact al7 rfl (h0 (by simp))
 | some ad=>
   have hl:=run_loadCells_list (P:=P) w ad (ns.map (kT .u8)) (λj v hj=>by
    rw[bP]at hj;cases hq:ns[j]? with
    |none=>rw[hq]at hj;cases hj
    |some m=>rw[hq]at hj;simp at hj;subst hj;exact hc ad rfl j m hq)
   rw[uF]at hl;rw[run_bytesToString w ad ns.length cap ns hl]
   congr 2
   apply ByteArray.ext;apply yI;rw[foldl_push];simp
def Zi (P:Program)(n:Nat)(op:Op)(x:oW):Bool:=
 match op with
 |.convert s d x'=>kW n x' x&&TG P d&&(match P.underlying s with|some (.slice e)=>(match P.underlying e with|some (.int .u8)=>true|_=>false)|_=>false)
 |_=>false
theorem af1 {o:Oper}{x:oW}{p:Prop}{es:List (List Cell)}{l:List UInt8}(h:GX E I ρ n st a w)(hc:Zi P n o.op x=true)(hx:(x.ev st.tm).g=true)
 (hs:yH 1 (dZ st.tm x) st.bx=some (p,es)) (hp:p) (hb:bytesOf es=some l) (hl:l.length<=maxLen):wZ P E n o a w st (Me l):=by
 unfold Zi at hc;split at hc
 ·rename_i s d x' he;simp only[ah]at hc;have g:=nV h hc.1.1 hx;have hd:=JP hc.1.2;obtain⟨_,ht⟩:=hc;split at ht
  ·rename_i e hse;split at ht
   ·rename_i hee;obtain⟨b,cap,hv,_,_,h0,hcell⟩:=src_ok h g hs hp;obtain⟨ns,rfl,rfl⟩:=Zd hb;have hr:=agN (P:=P) (w:=w) (b:=b) (cap:=cap) (ns:=ns) (v:=a.eval x') (by rw[hv];simp) (by simpa using h0) (λad had j m hj=>by
     obtain⟨u,hu,hrd⟩:=hcell ad had j 0 (.lit (.int .u8 m)) (by simp[bZ,bP,hj]);cases hrd with|lit v hv=>
     simpa using hu)
    have hcv:=run_convert_bytes_string (P:=P) w s d e b (ns.map λm=>[Cell.lit (.int .u8 m)]).length cap hse hee hd;rw[<- hv]at hcv;exact wE.val h (by simp only[execOp,he,cZ,hcv,hr,bn,bQ]) (ZT hl)
   ·cases ht
  ·cases ht
 ·cases hc
end
end
section
section
variable {P:Program} {E:Env P} {I:IH} {ρ:Ren} {n:Nat} {st:fH} {a:Act} {w:World}
def Ej : Box->Prop
 |.absent=>True
 |_=>False
theorem BD {x:Box}(h:Ej x):x = .absent:=by cases x<;>first|rfl|exact h.elim
theorem ae5 (h:GX E I ρ n st a w){l:Nat}(hl:st.bx l = .absent)(hm:E.m<=l)(cs:Array Value)(e:TypeId)(xs:List AC)(hg:OB I ρ cs.toList xs) :
 ∃ ρ',GX E I ρ' n (st.zH l (.var xs)) a (w.alloc (.cells cs e))/\GV I ρ' (.pointer (some ⟨w.heap.size,0,none⟩)) (.one (.ptr l 0)):=by
 have hrl:ρ l=none:=by have:=h.bx.ok l;rwa[hl]at this
 refine⟨ρ.set l w.heap.size e,GX.new h hl hm cs e e _ ?_,w.heap.size,e,Ren.oN _ _ _ _,rfl⟩;refine⟨w.heap.size,e,cs,Ren.oN _ _ _ _,heap_alloc_new w _,by simpa using hg.1,λj u x hu hx=>?_⟩;exact(hg.2 j u x (by simpa using hu) hx).mono (IH.le_refl I) (Ren.Qd hrl)
theorem OV (h:GX E I ρ n st a w){l:Nat}(hl:st.bx l = .absent)(hm:E.m<=l)(cs:Array Value)(e:TypeId)(cap sz:Nat)(es:List (List Cell))(hcs:cs.size=cap*sz)(hle:es.length<=cap)(hcap:cap<=maxLen)
 (hsz:∀x,x∈es->x.length=sz) (h1:∀(j:Nat) (u:Value),cs[j]? = some u->u.oneCell'=true) (hd:∀(i j:Nat) (c:Cell),(es.getD i [])[j]? = some c->∃u,cs[i*sz+j]? = some u/\Rd I u c) :
 GX E I (ρ.set l w.heap.size cap) n (st.zH l (.dat sz es)) a (w.alloc (.cells cs e)):=by
 refine GX.new h hl hm cs e cap _ ⟨w.heap.size,cap,Ren.oN _ _ _ _,hle,hcap,hsz,λ_=>⟨cs,e,heap_alloc_new w _,hcs,h1,hd⟩⟩
def NC (P:Program)(op:Op)(zs:List AC):Bool:=match op with|.alloc t=>(match P.info? t with|some i=>(match i.zero with|some z=>SA z.cells.toList zs|none=>false)|none=>false)|_=>false
theorem G6 (w:World)(t:TypeId)(v:Value):(newVar t v).run P w = .ok ⟨w.heap.size,0,none⟩ (w.alloc (.cells v.cells t)):=by simp[newVar,newRow]
theorem acS {o:Oper}{l:Nat}{zs:List AC}(h:GX E I ρ n st a w)(hc:NC P o.op zs=true)(hm:E.m<=l)(hl:Ej (st.bx l)):wE P E n o a w (st.zH l (.var zs)) (.one (.ptr l 0)):=by
 unfold NC at hc;split at hc
 ·rename_i t he;split at hc
  ·rename_i i hi;split at hc
   ·rename_i z hz;obtain⟨ρ',h1,h2⟩:=ae5 h (BD hl) hm z.cells t zs (MH hc);have hzr:(zeroValue t).run P w = .ok z w:=(by simp[zeroValue,typeInfo,hi,hz]);exact⟨_,_,I,ρ',.inl (by simp only[execOp,he,C9,cZ,hzr,bn,G6,bQ]),h1,λ_=>h2⟩
   ·cases hc
  ·cases hc
 ·cases hc
theorem GX.apZ (h:GX E I ρ n st a w){r:Nat}(hr:st.bx r = .absent)(hm:E.m<=r)(e:Nat):GX E I (ρ.set r 0 0) n (st.zH r (.row e [])) a w:=by
 have hrl:ρ r=none:=by have:=h.bx.ok r;rwa[hr]at this
 have hle:=Ren.Qd (ρ:=ρ) (k:=0) (cap:=0) hrl;have hu:∀k,¬(Box.row e []).uses ((ρ.set r 0 0) r) k:=λk hk=>by obtain⟨c,hc,h0⟩:=hk;rw[Ren.oN]at hc;simp only[aC,bI]at hc;exact h0 hc.2.symm
 refine{ agree:=h.agree,bx:=BX.step (λb=>b=r) h.bx (IH.le_refl I) hle ?_ ?_ ?_ ?_ ?_ ?_,tm:=λt ht=>(h.tm t ht).mono (IH.le_refl _) hle,size:=h.size,defers:=h.defers,Be:=h.Be,own:=?_,Jw:=h.Jw,Jg:=h.Jg,yS:=?_ }
 ·intro b hb;exact⟨by simp[fH.zH,hb],Ren.xB hb⟩
 ·intro b k hb hk;rfl
 ·rintro b rfl;simp only[fH.sJ,amB];exact⟨0,0,Ren.oN _ _ _ _,aA _,Nat.zero_le _,λh=>al7 rfl h⟩
 ·rintro b k rfl hk;simp only[fH.sJ,amB]at hk;exact(hu k hk).elim
 ·rintro b b' k rfl rfl _ _;rfl
 ·intro b k hb hk;exact h.bx.fresh b k hk
 ·intro b k hk;simp only[fH.sJ]at hk;by_cases e:b=r
  ·subst e;rw[ahl rfl]at hk;exact(hu k hk).elim
  ·rw[ahk e,Ren.xB e]at hk;exact h.own b k hk
 ·intro b hb;rw[Ren.xB (by omega)];exact h.yS b hb
def KF (P:Program)(op:Op)(T:Nat):Bool:=match op with|.alloc t=>t==T&&(match P.info? t with|some i=>(match i.zero with|some z=>SA z.cells.toList [.c (.lit (.pointer none)),.lF 1]|none=>false)|none=>false)|_=>false
theorem aaL {o:Oper}{T e l r:Nat}(h:GX E I ρ n st a w)(hc:KF P o.op T=true)(hm:E.m<=l)(hm':E.m<=r)(hl:Ej (st.bx l))(hr:Ej (st.bx r))(hne:l≠r) :
 wE P E n o a w ((st.zH r (.row e [])).zH l (.var [.opt T l,.yV r 0])) (.one (.ptr l 0)):=by
 unfold KF at hc;split at hc
 ·rename_i t he;simp only[ah,akg]at hc;obtain⟨rfl,hc⟩:=hc;split at hc
  ·rename_i i hi;split at hc
   ·rename_i z hz;have g:=h.apZ (BD hr) hm' e;have hl':(st.zH r (.row e [])).bx l = .absent:=(by simp only[fH.sJ,ahk hne];exact BD hl);have hz2:OB I ρ z.cells.toList _:=MH hc;have hsz:z.cells.size=2:=(by have:=hz2.1;simpa using this);have hg:=GX.new g hl' hm z.cells t t (.var [.opt t l,.yV r 0]) ⟨w.heap.size,t,z.cells,Ren.oN _ _ _ _,heap_alloc_new w _,hsz,λj u x hu hx=>by
     match j with
     | 0=>have h1:=hz2.2 0 u _ (by simpa using hu) rfl;simp at hx;subst hx;cases h1;exact⟨_,Ren.oN _ _ _ _,.inl rfl⟩
     | 1=>have h1:u = .slice none 0 0:=hz2.2 1 u _ (by simpa using hu) rfl;simp at hx;subst hx;exact⟨0,0,(Ren.xB hne.symm).trans (Ren.oN _ _ _ _),aA _,.inl ⟨rfl,h1⟩⟩
     |j+2=>simp at hx⟩
    have hzr:(zeroValue t).run P w = .ok z w:=(by simp[zeroValue,typeInfo,hi,hz]);exact⟨_,_,I,_,.inl (by simp only[execOp,he,C9,cZ,hzr,bn,G6,bQ]),hg,λ_=>⟨_,_,Ren.oN _ _ _ _,rfl⟩⟩
   ·cases hc
  ·cases hc
 ·cases hc
def VZ (n:Nat)(op:Op)(x:oW):Bool:=match op with|.box _ x'=>kW n x' x|_=>false
theorem ahD {o:Oper}{l:Nat}{x:oW}(h:GX E I ρ n st a w)(hc:VZ n o.op x=true)(hx:(x.ev st.tm).g=true)(hm:E.m<=l)(hl:Ej (st.bx l))(hf:(dZ st.tm x).flat) :
 wE P E n o a w (st.zH l (.var (dZ st.tm x).cells)) (.one (.ptr l 0)):=by
 unfold VZ at hc;split at hc
 ·rename_i t x' he;have g:=nV h hc hx;obtain⟨ρ',h1,h2⟩:=ae5 h (BD hl) hm (a.eval x').cells t _ (NS g hf);exact⟨_,_,I,ρ',.inl (by simp only[execOp,he,Go.Instr.box,cZ,bn,G6,bQ]),h1,λ_=>h2⟩
 ·cases hc
def amr : Value->Cell->Bool
 |.int k n,.lit (.int k' n')=>k==k'&&n==n'
 |.bool b,.lit (.bool b')=>b==b'
 |.string s,.str l=>s.data.toList==l&&decide (l.length<=1000000)
 |.slice none 0 0,.sl _ []=>true
 |.pointer none,.lit (.pointer none)=>true
 |.nilFunc,.lit .nilFunc=>true
 |.nilIface,.lit .nilIface=>true
 |_,_=>false
theorem akI {v:Value}{x:Cell}(h:amr v x=true):Rd I v x:=by
 unfold amr at h;split at h
 ·simp only[ah,akg]at h;obtain⟨rfl,rfl⟩:=h;exact Rd.lit _ rfl
 ·simp only[akg]at h;subst h;exact Rd.lit _ rfl
 ·rename_i s l;simp only[ah,akg,ahm]at h;obtain⟨rfl,hl⟩:=h;have:s=⟨⟨s.data.toList⟩⟩:=by cases s;rfl
  exact this▸Rd.str _ (by simp only[maxLen];omega)
 ·exact Rd.sl none 0 0 _ [] (λ_ _=>undef) rfl (aA _) (by simp[maxLen]) (by simp) (by simp) (λad h=>by cases h) (by simp)
 ·exact Rd.lit _ rfl
 ·exact Rd.lit _ rfl
 ·exact Rd.lit _ rfl
 ·cases h
def MG (zs:List Value)(xs:List Cell):Bool:=zs.length==xs.length&&(zs.zip xs).all λp=>amr p.1 p.2
theorem UW {zs:List Value}{xs:List Cell}(h:MG zs xs=true):zs.length=xs.length/\∀(j:Nat) (c:Cell),xs[j]? = some c->∃u,zs[j]? = some u/\Rd I u c:=by
 unfold MG at h;simp only[ah,akg,aP]at h;refine⟨h.1,λj c hc=>?_⟩;have hj:j<zs.length:=by rw[h.1];exact(aK.1 hc).1
 refine⟨zs[j],ax hj,akI (h.2 (zs[j],c) ?_)⟩;exact gQ (i:=j) (by simp[AX,hc,hj])
theorem Ud {z:Array Value}{zs:List Cell}{sz m N:Nat}(hz:MG z.toList zs=true)(hs:zs.length=sz)(h0:0<sz)(hN:m*sz<=N){cs:Array Value}(hcs:cs=(vC N).map (z[· % z.size]!)) :
 (∀(j:Nat) (u:Value),cs[j]? = some u->u.oneCell'=true)/\∀(i j:Nat) (c:Cell),((bC m zs).getD i [])[j]? = some c->∃u,cs[i*sz+j]? = some u/\Rd I u c:=by
 obtain⟨hl,hd⟩:=UW (I:=I) hz;have hzs:z.size=sz:=by rw[<- hs,<- hl];simp
 subst hcs;refine⟨λj u hu=>?_,λi j c hc=>?_⟩
 ·rw[pO]at hu;by_cases hj:j<N
  ·rw[qi,ahl hj]at hu;simp at hu;have hlt:j%z.size<z.size:=wo _ (by omega);rw[getElem!_pos z _ hlt]at hu;obtain⟨c,hc⟩:∃c,zs[j%z.size]? = some c:=⟨_,ax (by omega)⟩;obtain⟨u',hu',hr⟩:=hd _ c hc;simp[hlt]at hu';rw[<- hu,hu'];exact hr.one
  ·rw[qi,ahk hj]at hu;cases hu
 ·have hi:=l7 hc;simp at hi;simp[bZ,hi]at hc;have hj:j<sz:=by rw[<- hs];exact(aK.1 hc).1
  obtain⟨u,hu,hr⟩:=hd j c hc;refine⟨u,?_,hr⟩;have hlt:i*sz+j<N:=by have:(i+1)*sz<=m*sz:=aQ _ hi;rw[cO]at this;omega
  rw[pO,qi,ahl hlt];simp only[iR,aC];have hmod:(i*sz+j)%z.size=j:=by rw[hzs,vU,Nat.mul_add_mod,wQ hj]
  rw[hmod,getElem!_pos z _ (by omega)];have:z[j]? = some u:=by simpa using hu
  rw[lK (by omega)]at this;simpa using this
def KE (P:Program)(op:Op)(sz m:Nat)(zs:List Cell):Bool:=
 match op with
 |.alloc t=>QT P t sz m&&(match P.info? t with|some i=>(match i.zero with|some (.agg z)=>MG z.toList (bC m zs).flatten|_=>false)|none=>false)&&zs.length==sz&&decide (0<sz)&&decide (m<=1000000)
 |_=>false
theorem aa9 {zs:List Cell}{sz m i j:Nat}{c:Cell}(hs:zs.length=sz)(hc:((bC m zs).getD i [])[j]? = some c):((bC m zs).flatten)[i*sz+j]? = some c:=by
 induction m generalizing i with
 |zero=>simp[bZ]at hc
 | succ m ih=>
   rw[xy,List.flatten_cons];cases i with
   | zero=>simp[bZ,xy]at hc;rw[bF (by have:=(aK.1 hc).1;omega)];simpa using hc
   | succ i=>
     rw[dA (by rw[hs,cO];omega),hs];have:=ih (i:=i) (by simpa[bZ,xy]using hc);rw[<- this]
     congr 1
     rw[cO];omega
theorem aaK {o:Oper}{l sz m:Nat}{zs:List Cell}(h:GX E I ρ n st a w)(hc:KE P o.op sz m zs=true)(hm:E.m<=l)(hl:Ej (st.bx l)) :
 wE P E n o a w (st.zH l (.dat sz (bC m zs))) (.one (.Bc l 0 sz 0)):=by
 unfold KE at hc;split at hc
 ·rename_i t he;simp only[ah,akg,ahm]at hc;obtain⟨⟨⟨⟨_,hz⟩,hs⟩,h0⟩,hm6⟩:=hc;split at hz
  ·rename_i i hi;split at hz
   ·rename_i z hzero;obtain⟨hl1,hd⟩:=UW (I:=I) hz;have hzs:z.size=m*sz:=(by have:=hl1;simp[hs]at this;exact this);have hzr:(zeroValue t).run P w = .ok (.agg z) w:=(by simp[zeroValue,typeInfo,hi,hzero]);have g:=OV h (BD hl) hm z t m sz (bC m zs) hzs (by simp) (by simp only[maxLen];omega) (λx hx=>by rw[ve hx,hs])
     (λj u hu=>by have hj:j<((bC m zs).flatten).length:=(by rw[<- hl1];simpa using(dK.1 hu).1);obtain⟨u',hu',hr⟩:=hd j _ (ax hj);have:u'=u:=(by simp at hu';rw[hu]at hu';exact(Option.some.inj hu').symm);subst this;exact hr.one)
     (λi' j c hc=>by obtain⟨u,hu,hr⟩:=hd _ c (aa9 hs hc);exact⟨u,by simpa using hu,hr⟩)
    refine⟨_,_,I,_,.inl (by simp only[execOp,he,C9,cZ,hzr,bn,G6,bQ,mO];rfl),g,λ_=>⟨w.heap.size,m,Ren.oN _ _ _ _,by simp⟩⟩
   ·cases hz
  ·cases hz
 ·cases hc
def NG (P:Program)(n:Nat)(op:Op)(sz bytes:Nat)(zs:List Cell)(x y:oW):Bool:=
 match op with
 | .makeSlice t x' y'=>kW n x' x&&kW n y' y&&zs.length==sz&&decide (0<sz)&&(match P.underlying t with
   |some (.slice e)=>(match P.info? e with|some i=>i.size==sz&&i.bytes==bytes&&(match i.zero with|some z=>MG z.cells.toList zs|none=>false)|none=>false)
   |_=>false)
 |_=>false
theorem adS {o:Oper}{l sz bytes:Nat}{zs:List Cell}{x y:oW}{k k':IntKind}{p q:Int}(h:GX E I ρ n st a w)(hc:NG P n o.op sz bytes zs x y=true)(hx:(x.ev st.tm).g=true)(hy:(y.ev st.tm).g=true)
 (e1:dZ st.tm x=xW k p) (e2:dZ st.tm y=xW k' q) (hm:E.m<=l) (hl:Ej (st.bx l)) (h0:0<=p) (h1:p<=q) (h2:bytes*q<=2^47) (h3:q<=2^47) :
 wE P E n o a w (st.zH l (.dat sz (bC p.toNat zs))) (.one (.own l p.toNat sz)):=by
 unfold NG at hc;split at hc
 ·rename_i t x' y' he;simp only[ah,akg,ahm]at hc;obtain⟨⟨⟨⟨c1,c2⟩,hs⟩,hs0⟩,ht⟩:=hc;have g1:=nV h c1 hx;have g2:=nV h c2 hy;rw[e1]at g1;rw[e2]at g2;have v1:=yR g1;have v2:=yR g2;split at ht
  ·rename_i e hte;split at ht
   ·rename_i i hi;simp only[ah,akg]at ht;obtain⟨⟨rfl,rfl⟩,hz⟩:=ht;split at hz
    ·rename_i z hzero;have hr:=run_make (P:=P) w t e i z hte hi hzero k k' p q h0 h1 (by omega) (by omega);have rc:=Ud (I:=I) (N:=q.toNat*i.size) (m:=p.toNat) hz hs hs0 (aQ _ (by omega)) (cs:=madeCells z.cells (q.toNat*i.size)) rfl;have g:=OV h (BD hl) hm (madeCells z.cells (q.toNat*i.size)) e q.toNat i.size (bC p.toNat zs) (size_madeCells _ _) (by simp;omega) (by simp only[maxLen];omega)
      (λx hx=>by rw[ve hx,hs]) rc.1 rc.2
     refine⟨_,_,I,_,.inl (by simp only[execOp,he,v1,v2,cZ,hr,bn,bQ];rfl),g,λ_=>⟨w.heap.size,q.toNat,_,_,Ren.oN _ _ _ _,rfl,by omega,by omega,λ_=>rfl⟩⟩
    ·cases hz
   ·cases ht
  ·cases ht
 ·cases hc
end
end
section
section
variable {P:Program} {E:Env P} {I:IH} {ρ:Ren} {n:Nat} {st:fH} {a:Act} {w:World}
noncomputable def D8 (I:IH)(ρ:Ren)(w:World)(bx:Nat->Box)(bs:List Nat):IH:=λk=>
 open Classical in
 if ∃b sz es cap,b∈bs/\bx b = .dat sz es/\ρ b=some (k,cap)/\cap≠0 then(match w.heap[k]? with|some (.cells c _ _)=>some c|_=>none)else I k
theorem IJ (hA:BX I ρ w st.bx)(bs:List Nat):I.le (D8 I ρ w st.bx bs):=λk c hk=>by
 unfold D8;rw[ahk]
 ·exact hk
 ·rintro⟨b,sz,es,cap,_,hb,hr,h0⟩;have:=hA.fresh b k (by rw[hb];exact⟨cap,hr,h0⟩);rw[this]at hk;cases hk
theorem Qe (hA:Agree I w)(bs:List Nat):Agree (D8 I ρ w st.bx bs) w:=λk c hk=>by
 unfold D8 at hk;split at hk
 ·split at hk
  ·rename_i c' e fr hw;simp at hk;subst hk;exact⟨e,fr,hw⟩
  ·cases hk
 ·exact hA k c hk
theorem ZO (h:GX E I ρ n st a w){bs:List Nat}{v:Value}{b m sz:Nat}{es:List (List Cell)}(hb:b∈bs)(harr:(st.bx b).arr=some (sz,es))(hm:m<=es.length)(hv:GC I ρ v (.own b m sz)) :
 Rd (D8 I ρ w st.bx bs) v (.sl sz (es.take m)):=by
 obtain⟨k,cap,ad,c,hr,hsv,hmc,hcc,hcap⟩:=hv;have facts:=GS.Kz h harr hr;have hl:(es.take m).length=m:=by simp;omega
 subst hsv;have hI:cap≠0->∃cs,(D8 I ρ w st.bx bs) k=some cs/\∀i j c,(es.getD i [])[j]? = some c->∃u,cs[i*sz+j]? = some u/\Rd I u c:=by
  intro hc0;have hok:=h.bx.ok b;cases hx:st.bx b with
  | dat sz' es'=>rw[hx]at hok harr;simp[Box.arr]at harr;obtain⟨rfl,rfl⟩:=harr;obtain⟨k',cap',hr',_,_,_,hd⟩:=hok;rw[hr]at hr';simp at hr';obtain⟨rfl,rfl⟩:=hr';obtain⟨cs,e,hw,_,_,hcs⟩:=hd hc0;refine⟨cs,?_,hcs⟩;unfold D8;rw[ahl ⟨b,_,_,cap,hb,hx,hr,hc0⟩,hw]
  | Ik sz' es'=>rw[hx]at hok harr;simp[Box.arr]at harr;obtain⟨rfl,rfl⟩:=harr;obtain⟨k',cap',hr',_,_,_,hd⟩:=hok;rw[hr]at hr';simp at hr';obtain⟨rfl,rfl⟩:=hr';obtain⟨cs,hw,hcs⟩:=hd hc0;exact⟨cs,IJ h.bx bs _ _ hw,hcs⟩
  |absent=>rw[hx]at harr;cases harr
  |dead=>rw[hx]at harr;cases harr
  |var xs=>rw[hx]at harr;cases harr
  |row e l=>rw[hx]at harr;cases harr
 have hle:=IJ (st:=st) h.bx bs;by_cases hc0:cap=0
 ·have hm0:m=0:=by omega
  subst hm0;simp only[Aa];exact Rd.sl _ 0 c sz [] (λ_ _=>undef) rfl (by omega) (by omega) (by simp) (by simp) (by intro ad _ i j hi;omega) (by simp)
 ·obtain⟨cs,hcs,hrd⟩:=hI hc0;have had:=hcap hc0;subst had;have key:∀i j c,((es.take m).getD i [])[j]? = some c->∃u,cs[i*sz+j]? = some u/\Rd I u c:=λi j c hc=>by
   have hi:=l7 hc;rw[hl]at hi;refine hrd i j c ?_;rw[<- hc];congr 1;simp only[bZ];rw[cu,ahl hi]
  refine Rd.sl _ m c sz (es.take m) (λi j=>cs.getD (i*sz+j) undef) hl hmc (by omega) (λe he=>facts.2.2 e (fD he)) (by simp) ?_ ?_
  ·intro ad had i j hi hj;simp at had;subst had;have hlen:((es.take m).getD i []).length=sz:=by
    have:i<(es.take m).length:=(by omega);rw[List.getD_eq_getElem?_getD,ax this];exact facts.2.2 _ (fD (List.getElem_mem this))
   obtain⟨u,hu,_⟩:=key i j _ (ax (by omega));rw[Addr.tJ];simp only[IH.cell,hcs];simp[hu,dX]
  ·intro i j c hc;obtain⟨u,hu,hr⟩:=key i j c hc;have:cs.getD (i*sz+j) undef=u:=(by simp[dX,hu]);rw[this];exact hr.mono hle
theorem BM {bs:List Nat}{b:Nat} : (st.Ik bs).bx b=if b∈bs then JY (st.bx b)else st.bx b:=rfl
theorem GX.freeze (h:GX E I ρ n st a w)(BS:List Nat):GX E (D8 I ρ w st.bx BS) ρ n (st.Ik BS) a w:=by
 have hIJ:=IJ h.bx BS;have Ei:∀b k,((st.Ik BS).bx b).uses (ρ b) k->(st.bx b).uses (ρ b) k/\¬(∃b' sz es cap,b'∈BS/\st.bx b' = .dat sz es/\ρ b'=some (k,cap)/\cap≠0):=by
  intro b k hu;rw[BM]at hu;by_cases hb:b∈BS
  ·rw[ahl hb]at hu;cases hx:st.bx b with
   | var xs=>rw[hx]at hu;refine⟨hu,?_⟩;rintro⟨b',sz,es,cap,_,hb',hr',h0⟩;have:=h.bx.inj b b' k (by rw[hx];exact hu) (by rw[hb'];exact⟨cap,hr',h0⟩);subst this;rw[hx]at hb';cases hb'
   | row e l=>rw[hx]at hu;refine⟨hu,?_⟩;rintro⟨b',sz,es,cap,_,hb',hr',h0⟩;have:=h.bx.inj b b' k (by rw[hx];exact hu) (by rw[hb'];exact⟨cap,hr',h0⟩);subst this;rw[hx]at hb';cases hb'
   |dat sz es=>rw[hx]at hu;exact hu.elim
   |Ik sz es=>rw[hx]at hu;exact hu.elim
   |absent=>rw[hx]at hu;exact hu.elim
   |dead=>rw[hx]at hu;exact hu.elim
  ·rw[ahk hb]at hu;refine⟨hu,?_⟩;rintro⟨b',sz,es,cap,hm',hb',hr',h0⟩;have:=h.bx.inj b b' k hu (by rw[hb'];exact⟨cap,hr',h0⟩);subst this;exact hb hm'
 have hfr:∀b k,((st.Ik BS).bx b).uses (ρ b) k->D8 I ρ w st.bx BS k=none:=λb k hu=>by obtain⟨h1,h2⟩:=Ei b k hu;unfold D8;rw[ahk h2];exact h.bx.fresh b k h1
 refine{ agree:=Qe h.agree BS,bx:=⟨λb=>?_,λb b' k hb hb'=>h.bx.inj b b' k (Ei b k hb).1 (Ei b' k hb').1,hfr⟩,tm:=λt ht=>(h.tm t ht).mono hIJ (Ren.le_refl ρ),size:=h.size,defers:=h.defers,Be:=h.Be,own:=λb k hu=>h.own b k (Ei b k hu).1,Jw:=IH.le_trans h.Jw hIJ,Jg:=λk hk0 hM=>?_,yS:=h.yS }
 ·have hok:=(h.bx.ok b).keep hIJ (Ren.le_refl ρ) rfl (λk hu=>rfl);rw[BM];by_cases hb:b∈BS
  ·rw[ahl hb];cases hx:st.bx b with
   | dat sz es=>rw[hx]at hok;obtain⟨kk,cap,hr',hl,hm,hsz,hcs⟩:=hok;refine⟨kk,cap,hr',hl,hm,hsz,λh0=>?_⟩;obtain⟨cs,e,hw,_,_,hrd⟩:=hcs h0;refine⟨cs,?_,hrd⟩;unfold D8;rw[ahl ⟨b,sz,es,cap,hb,hx,hr',h0⟩,hw]
   |var xs=>rw[hx]at hok;exact hok
   |row e l=>rw[hx]at hok;exact hok
   |Ik sz es=>rw[hx]at hok;exact hok
   |absent=>rw[hx]at hok;exact hok
   |dead=>rw[hx]at hok;exact hok
  ·rw[ahk hb];exact hok
 ·unfold D8;rw[ahk]
  ·exact h.Jg k hk0 hM
  ·rintro⟨b',sz,es,cap,_,hb',hr',h0⟩;rcases h.own b' k (by rw[hb'];exact⟨cap,hr',h0⟩)with h1|h1
   ·omega
   ·exact hM h1
theorem RS (l:List (Nat×Box))(st:fH):(st.uN l).tm=st.tm:=by
 induction l generalizing st with
 |nil=>rfl
 |cons x l ih=>obtain⟨b,x⟩:=x;simp only[fH.uN,ih];rfl
theorem agU (st:fH)(l:List Nat)(bx:Nat->Box):(st.uN (l.map λb=>(b,JY (bx b)))).bx=λb=>if b∈l then JY (bx b)else st.bx b:=by
 induction l generalizing st with
 |nil=>rfl
 | cons c l ih=>
   simp only[aZ,fH.uN,ih]
   funext b
   simp only[fH.sJ,ay];by_cases h:b∈l
   ·simp[h]
   ·by_cases h':b=c
    ·subst h';simp[h]
    ·simp[h,h']
theorem Gf (st:fH)(l:List Nat):st.uN (l.map λb=>(b,JY (st.bx b)))=st.Ik l:=by
 apply fH.ext'
 ·rw[RS];rfl
 ·rw[agU];rfl
theorem L9 (l r:List (Nat×Box)):∀(st:fH),st.uN (l++r)=(st.uN l).uN r:=by
 induction l with
 |nil=>intro st;rfl
 |cons p l ih=>intro st;obtain⟨b,x⟩:=p;simp only[List.cons_append,fH.uN,ih]
theorem Xw (st:fH)(l:List Nat)(r:List (Nat×Box)):st.uN (ZB st.bx l++r)=(st.Ik l).uN r:=by rw[L9];unfold ZB;rw[Gf]
end
end
section
section
variable {P:Program} {E:Env P} {I:IH} {ρ:Ren} {n:Nat} {st:fH} {a:Act} {w:World}
theorem aa2 (h:GX E I ρ n st a w){BS:List Nat}{vs:List Value}{xs:List AC}{cs:List Cell}(hg:OB I ρ vs xs)(hd:MQ st.bx xs=some cs)(hl:AZ st.bx xs)(hb:∀b,b∈qg xs->b∈BS) :
 vs.length=cs.length/\∀(j:Nat) (c:Cell),cs[j]? = some c->∃u,vs[j]? = some u/\Rd (D8 I ρ w st.bx BS) u c:=by
 have hle:=IJ (st:=st) h.bx BS
 induction xs generalizing vs cs with
 | nil=>simp[MQ]at hd;subst hd;exact⟨hg.1,by simp⟩
 | cons x r ih=>
   cases vs with
   |nil=>have:=hg.1;simp at this
   | cons v vs=>
     unfold MQ at hd;split at hd
     ·rename_i c cs' h1 h2;simp at hd;subst hd;have ht:OB I ρ vs r:=⟨by simpa using hg.1,λj u y hu hy=>hg.2 (j+1) u y (by simpa using hu) (by simpa using hy)⟩;have hv:=hg.2 0 v x rfl rfl;have hlr:AZ st.bx r:=by
       cases x with
       |own b m sz=>exact hl.2
       |_=>exact hl
      have hbr:∀b,b∈qg r->b∈BS:=λb hm=>hb b (by
       cases x with
       |own b' m sz=>exact List.mem_cons_of_mem _ hm
       |_=>exact hm)
      obtain⟨hl',hc⟩:=ih ht h2 hlr hbr;have hr:Rd (D8 I ρ w st.bx BS) v c:=by
       cases x with
       |c y=>simp[dataOf]at h1;subst h1;exact Rd.mono hle hv
       | lF sz=>simp[dataOf]at h1;subst h1;simp only[GC]at hv;subst hv;exact Rd.sl none 0 0 _ [] (λ_ _=>undef) rfl (aA _) (by simp[maxLen]) (by simp) (by simp) (λad h=>by cases h) (by simp)
       | own b m sz=>
         simp only[dataOf]at h1;have hl1:=hl.1;cases harr:(st.bx b).arr with
         |none=>rw[harr]at h1;cases h1
         | some p=>obtain⟨sz',es⟩:=p;rw[harr]at h1 hl1;simp at h1;subst h1;obtain⟨rfl,hle'⟩:=hl1;exact ZO h (hb b (by simp[qg])) harr hle' hv
       |_=>simp[dataOf]at h1
      refine⟨by simp[hl'],λj c' hj=>?_⟩;cases j with
      |zero=>simp at hj;subst hj;exact⟨v,rfl,hr⟩
      |succ j=>obtain⟨u,hu,hr'⟩:=hc j c' (by simpa using hj);exact⟨u,by simpa using hu,hr'⟩
     ·cases hd
structure DC (I:IH)(cs:List Value)(sz:Nat)(es:List (List Cell)):Prop where
 one:∀(j:Nat) (u:Value),cs[j]? = some u->u.oneCell'=true
 rd:∀(i j:Nat) (c:Cell),(es.getD i [])[j]? = some c->∃u,cs[i*sz+j]? = some u/\Rd I u c
theorem ah6 {α:Type}(es:List (List α))(i i':Nat)(e:List α)(h:i<es.length):(es.set i e).getD i' []=if i'=i then e else es.getD i' []:=by
 simp only[bZ,qG];by_cases hi:i=i'
 ·subst hi;simp[h]
 ·rw[ahk hi,ahk (λe=>hi e.symm)]
theorem aln {sz i i' j j':Nat}(hj:j<sz)(hj':j'<sz)(h:i*sz+j=i'*sz+j'):i=i'/\j=j':=by
 have h1:(i*sz+j)/sz=i:=by rw[vU,Nat.mul_add_div (by omega),Nat.div_eq_of_lt hj,rQ]
 have h2:(i'*sz+j')/sz=i':=by rw[vU,Nat.mul_add_div (by omega),Nat.div_eq_of_lt hj',rQ]
 rw[h]at h1;have:=h1.symm.trans h2;subst this;exact⟨rfl,by omega⟩
theorem DC.splice {cs:List Value}{sz:Nat}{es:List (List Cell)}(h:DC I cs sz es)(hsz:∀x,x∈es->x.length=sz){i off:Nat}(hi:i<es.length){vs:List Value}{ys:List Cell}(hl:off+ys.length<=sz)(hcs:(i+1)*sz<=cs.length)
 (hv:vs.length=ys.length) (h1:∀(j:Nat) (u:Value),vs[j]? = some u->u.oneCell'=true) (hd:∀(j:Nat) (c:Cell),ys[j]? = some c->∃u,vs[j]? = some u/\Rd I u c) :
 DC I (splice cs (i*sz+off) vs) sz (es.set i (Ab.splice (es.getD i []) off ys)):=by
 rw[cO]at hcs;have hfit:i*sz+off+vs.length<=cs.length:=by omega
 have hei:(es.getD i []).length=sz:=hsz _ (by simp[bZ,ax hi]);refine⟨λj u hu=>?_,λi' j c hc=>?_⟩
 ·rw[qH _ _ _ _ hfit]at hu;split at hu
  ·exact h.one j u hu
  ·split at hu
   ·exact h1 _ u hu
   ·exact h.one j u hu
 ·rw[ah6 _ _ _ _ hi]at hc;rw[qH _ _ _ _ hfit];by_cases e:i'=i
  ·subst e;rw[ahl rfl,qH _ _ _ _ (by omega)]at hc;by_cases c1:j<off
   ·rw[ahl c1]at hc;rw[ahl (by omega)];exact h.rd i' j c hc
   ·rw[ahk c1]at hc;rw[ahk (by omega)];by_cases c2:j<off+ys.length
    ·rw[ahl c2]at hc;rw[ahl (by omega)];obtain⟨u,hu,hr⟩:=hd _ c hc;exact⟨u,by rw[<- hu];congr 1;omega,hr⟩
    ·rw[ahk c2]at hc;rw[ahk (by omega)];exact h.rd i' j c hc
  ·rw[ahk e]at hc;have hj:j<sz:=by
    have hi':=l7 hc;have:=hsz (es.getD i' []) (by simp[bZ,ax hi']);rw[<- this];exact(aK.1 hc).1
   have hout:¬(i*sz+off<=i'*sz+j/\i'*sz+j<i*sz+off+vs.length):=by intro⟨c1,c2⟩;obtain⟨e1,_⟩:=aln (i:=i') (i':=i) (j:=j) (j':=i'*sz+j-i*sz) hj (by omega) (by omega);exact e e1
   by_cases c1:i'*sz+j<i*sz+off
   ·rw[ahl c1];exact h.rd i' j c hc
   ·rw[ahk c1,ahk (by omega)];exact h.rd i' j c hc
def KC (n:Nat):List (Nat×Operand)->List (Nat×oW)->Bool
 |[],[]=>true
 |(i,x)::r,(i',y)::r'=>i==i'&&kW n x y&&KC n r r'
 |_,_=>false
def KG (P:Program)(n:Nat)(op:Op)(sz m:Nat)(zs:List Cell)(ps:List (Nat×oW)):Bool:=
 match op with
 | .buildSlice t len ps'=>len==m&&zs.length==sz&&decide (0<sz)&&decide (len*sz<=16777216)&&KC n ps'.toList ps&&(match P.underlying t with
   |some (.slice e)=>(match P.info? e with|some i=>i.size==sz&&(match i.zero with|some z=>MG z.cells.toList zs|none=>false)|none=>false)
   |_=>false)
 |_=>false
theorem aaU {sz:Nat}{BS:List Nat}(h:GX E I ρ n st a w)(hs0:0<sz):∀(ps:List (Nat×Operand)) (ps':List (Nat×oW)) (l':List (Nat×List Cell)) (cs:Array Value) (es:List (List Cell)),KC n ps ps'=true ->
 Az (dZ st.tm) st.bx es.length sz ps'=some l'->Ci (dZ st.tm) st.bx ps'->(∀b,b∈wB (dZ st.tm) ps'->b∈BS)->(∀p,p∈l'->p.1<es.length/\p.2.length=sz)->(∀p,p∈ps'->(p.2.ev st.tm).g=true)->DC (D8 I ρ w st.bx BS) cs.toList sz es->(∀x,x∈es->x.length=sz)->cs.size=es.length*sz ->
 ∃cs',uw (λi=>some (i*sz,sz)) cs (ps.map λp=>(p.1,a.eval p.2))=some cs'/\DC (D8 I ρ w st.bx BS) cs'.toList sz (QW es l')/\(∀x,x∈QW es l'->x.length=sz)/\cs'.size=es.length*sz/\(QW es l').length=es.length
 | [],[],l',cs,es,_,hd,_,_,_,_,hg,hsz,hcs=>by simp[Az]at hd;subst hd;exact⟨cs,rfl,hg,hsz,hcs,rfl⟩
 |[],_::_,_,_,_,h,_,_,_,_,_,_,_,_=>by simp[KC]at h
 |_::_,[],_,_,_,h,_,_,_,_,_,_,_,_=>by simp[KC]at h
 | (i,x)::r,(i',y)::r',l',cs,es,hp,hd,hld,hbs,hq,hv,hg,hsz,hcs=>by
   simp only[KC,ah,akg]at hp;obtain⟨⟨rfl,hx⟩,hr⟩:=hp;unfold Az at hd;split at hd
   ·rename_i ds l2 hd1 hd2;simp at hd;subst hd;obtain⟨q1,q2⟩:=hq (i,ds) (by simp);simp only at q1 q2;have g:=nV h hx (hv _ (aW ..));have hf:(dZ st.tm y).flat:=by
     cases hav:dZ st.tm y with
     |zi ps=>rw[hav]at hd1;simp[AV.cells,MQ]at hd1;rw[hd1]at q2;simp at q2;omega
     |one x=>trivial
     |agg xs=>trivial
    have gc:=NS g hf;obtain⟨hl,hrd⟩:=aa2 (BS:=BS) h gc hd1 hld.1 (λb hm=>hbs b (by simp only[wB,aY];exact .inl hm));have hvs:(a.eval x).cells.size=sz:=(by simp at hl;rw[hl];exact q2);have hone:∀(j:Nat) (u:Value),(a.eval x).cells.toList[j]? = some u->u.oneCell'=true:=λj u hu=>by have hj:j<(dZ st.tm y).cells.length:=(by rw[<- gc.1];exact(aK.1 hu).1);exact(gc.2 j u _ hu (ax hj)).one
    have hi1:(i+1)*sz<=cs.toList.length:=(by simp;rw[hcs];exact aQ _ q1);have hmul:(i+1)*sz=i*sz+sz:=(by rw[cO];omega);have hsp:=hg.splice hsz q1 (off:=0) (ys:=ds) (vs:=(a.eval x).cells.toList) (by omega) hi1 (by simpa using hl) hone hrd;have hei:(es.getD i []).length=sz:=hsz _ (by simp[bZ,ax q1]);have hse:Ab.splice (es.getD i []) 0 ds=ds:=(by unfold Ab.splice;rw[Aa,jI,List.drop_of_length_le (by omega),iQ]);rw[hse,rQ]at hsp;have hfold:=foldl_set (a.eval x).cells (i*sz) cs (by simp at hi1;omega);have hlen2:(es.set i ds).length=es.length:=(by simp);have ih:=aaU h hs0 r r' l2 ((a.eval x).cells.zipIdx.foldl (λcs (p:Value×Nat)=>cs.setIfInBounds (i*sz+p.2) p.1) cs) (es.set i ds) hr (by rw[hlen2];exact hd2) hld.2 (λb hm=>hbs b (by simp only[wB,aY];exact .inr hm))
     (λp hp=>by rw[hlen2];exact hq p (by simp[hp])) (λp hp=>hv p (by simp[hp])) (by rw[hfold];exact hsp)
     (λx hx=>(pq hx).elim (hsz x) (λh1=>by rw[h1];exact q2)) (by have:(cs.toList).length=cs.size:=(by simp);rw[<- mY,hfold,length_splice _ _ _ (by simp at hi1⊢;omega),hlen2];simpa using hcs)
    obtain⟨cs',h1,h2,h3,h4,h5⟩:=ih;rw[hlen2]at h4 h5;refine⟨cs',?_,h2,h3,h4,h5⟩;simp only[aZ,uw];rw[ahk (by simp at hi1⊢;omega)];exact h1
   ·cases hd
theorem aaW {o:Oper}{l sz m:Nat}{zs:List Cell}{ps:List (Nat×oW)}{l':List (Nat×List Cell)}(h:GX E I ρ n st a w)(hc:KG P n o.op sz m zs ps=true)(hv:∀p,p∈ps->(p.2.ev st.tm).g=true)
 (hm:E.m<=l) (hl:Ej (st.bx l)) (hd:Az (dZ st.tm) st.bx m sz ps=some l') (hq:∀p,p∈l'->p.1<m/\p.2.length=sz) (hld:Ci (dZ st.tm) st.bx ps) :
 wE P E n o a w ((st.Ik (wB (dZ st.tm) ps)).zH l (.dat sz (QW (bC m zs) l'))) (.one (.own l m sz)):=by
 have h':=h.freeze (wB (dZ st.tm) ps);have hl':Ej ((st.Ik (wB (dZ st.tm) ps)).bx l):=by rw[BM,BD hl];split<;>trivial
 generalize hJ:D8 I ρ w st.bx (wB (dZ st.tm) ps)=J at h';unfold KG at hc;split at hc
 ·rename_i t len ps' he;simp only[ah,akg,ahm]at hc;obtain⟨⟨⟨⟨⟨rfl,hs⟩,hs0⟩,hbig⟩,hp⟩,ht⟩:=hc;split at ht
  ·rename_i e hte;split at ht
   ·rename_i i hi;simp only[ah,akg]at ht;obtain⟨rfl,hz⟩:=ht;split at hz
    ·rename_i z hzero;generalize hz0:(if len*i.size=0 then(#[]:Array Value)else z.cells)=z0;generalize hcs0:(vC (len*i.size)).map (z0[· % z0.size]!)=cs0;have hdc:DC J cs0.toList i.size (bC len zs)/\cs0.size=len*i.size:=by
      refine⟨?_,by rw[<- hcs0];simp⟩;by_cases h0:len*i.size=0
      ·have hlen0:len=0:=by
        rcases Nat.mul_eq_zero.1 h0 with h1|h1
        ·exact h1
        ·omega
       subst hlen0;refine⟨λj u hu=>?_,λi' j c hc=>?_⟩
       ·rw[<- hcs0]at hu;simp at hu
       ·simp[bZ]at hc
      ·rw[ahk h0]at hz0;subst hz0;have rc:=Ud (I:=J) (N:=len*i.size) (m:=len) hz hs hs0 (aA _) (cs:=cs0) hcs0.symm;exact⟨λj u hu=>rc.1 j u (by simpa using hu),λi' j c hc=>by obtain⟨u,hu,hr⟩:=rc.2 i' j c hc;exact⟨u,by simpa using hu,hr⟩⟩
     obtain⟨cs',h1,h2,h3,h4,h5⟩:=aaU (BS:=wB (dZ st.tm) ps) h hs0 ps'.toList ps l' cs0 (bC len zs) hp (by simpa using hd) hld (λb hb=>hb) (by simpa using hq) hv (by rw[hJ];exact hdc.1) (λx hx=>by rw[ve hx,hs]) (by simpa using hdc.2);rw[hJ]at h2;simp only[CE]at h4 h5;have g:=OV h' (BD hl') hm cs' e len i.size (QW (bC len zs) l') h4 (by omega) (by simp only[maxLen];have:=Nat.le_mul_of_pos_right len hs0;omega) h3
      (λj u hu=>h2.one j u (by simpa using hu)) (λi' j c hc=>by obtain⟨u,hu,hr⟩:=h2.rd i' j c hc;exact⟨u,by simpa using hu,hr⟩)
     refine⟨_,_,J,_,.inl ?_,g,λ_=>⟨w.heap.size,len,_,_,Ren.oN _ _ _ _,rfl,aA _,aA _,λ_=>rfl⟩⟩;have hps:(ps'.map λ(i,x)=>(i,a.eval x)).toList=ps'.toList.map λp=>(p.1,a.eval p.2):=(by simp);have hsz:(sizeOf e).run P w = .ok i.size w:=(by simp[sizeOf,typeInfo,hi]);have hzr:(zeroValue e).run P w = .ok z w:=(by simp[zeroValue,typeInfo,hi,hzero]);simp only[execOp,he,Instr.buildSlice,cZ,run_underlying hte,bn,hsz];rw[ahk (by omega)];by_cases h0:len*i.size=0
     ·rw[ahl h0]at hz0⊢;subst hz0;simp only[cZ,bQ,bn,hcs0,hps,h1,newRow,run_newObj];rfl
     ·rw[ahk h0]at hz0⊢;subst hz0;simp only[cZ,hzr,bQ,bn,hcs0,hps,h1,newRow,run_newObj];rfl
    ·cases hz
   ·cases ht
  ·cases ht
 ·cases hc
theorem L8 (w:World)(k:Nat)(cs:Array Value):Dp w (w.setRow k cs) (λk'=>k'=k):=
 ⟨rfl,rfl,rfl,by simp,λk' _ hne=>setRow_other w k k' cs hne⟩
theorem zI (cs:Array Value)(off:Nat)(vs:List Value):(cs.toList.take (off+0)++vs++cs.toList.drop (off+0+vs.length)).toArray=(Ab.splice cs.toList off vs).toArray:=by unfold Ab.splice;simp
def Wi (P:Program)(n:Nat)(op:Op)(agg:Bool)(k:Nat)(p x:oW):Bool:=match op with|.store t p' x'=>kW n p' p&&kW n x' x&&Nc P t agg k&&(agg||k==1)|_=>false
theorem RQ {t:TypeId}{agg:Bool}{k kk off:Nat}(ht:Nc P t agg k=true){v:Value}(hk:v.cells.size=k){cur:Array Value}{e:TypeId}(hw:w.heap[kk]? = some (.cells cur e (0,0)))
 (hfit:off+k<=cur.size) (h1:∀(j:Nat) (u:Value),v.cells.toList[j]? = some u->u.oneCell'=true) :
 (Bl t (.pointer (some ⟨kk,off,none⟩)) v).run P w = .ok () (w.setRow kk (Ab.splice cur.toList off v.cells.toList).toArray):=by
 have hst:=run_storeCells_at P kk off e v.cells.toList 0 cur w hw (by simp;omega) (λu hu=>by obtain⟨j,hj⟩:=uY hu;exact h1 j u hj)
 rw[zI]at hst;obtain⟨_,hs⟩:=IY ht w;simp only[Bl,kJ,cZ,bQ,bn,storeVar,hs];rw[ahk (by omega)];exact hst
theorem akY {v:Value}{x:AV}(h:GV I ρ v x)(hf:x.flat):∀(j:Nat) (u:Value),v.cells.toList[j]? = some u->u.oneCell'=true:=λj u hu=>by
 have gc:=NS h hf;have hj:j<x.cells.length:=by rw[<- gc.1];exact(aK.1 hu).1
 exact(gc.2 j u _ hu (ax hj)).one
theorem aep {o:Oper}{agg:Bool}{k:Nat}{p x:oW}(h:GX E I ρ n st a w)(hc:Wi P n o.op agg k p x=true)(hd:o.dst=none)(hp:(p.ev st.tm).g=true)(hx:(x.ev st.tm).g=true)
 (jV:(Aj agg k (dZ st.tm p) (dZ st.tm x) st.bx).vc):wZ P E n o a w (st.uN (Aj agg k (dZ st.tm p) (dZ st.tm x) st.bx).sets) (Aj agg k (dZ st.tm p) (dZ st.tm x) st.bx).v:=by
 unfold Wi at hc;split at hc
 ·rename_i t p' x' he;simp only[ah]at hc;obtain⟨⟨⟨c1,c2⟩,ht⟩,_⟩:=hc;have g1:=nV h c1 hp;have g2:=nV h c2 hx;have hf:(dZ st.tm x).flat:=by
   cases hav:dZ st.tm x with
   |one _=>trivial
   |agg _=>trivial
   |zi ps=>rw[hav]at jV;exact jV.elim
  have gc:=NS g2 hf;have h1:=akY g2 hf;have key:∀{J:IH} {st':fH} (h':GX E J ρ n st' a w) {b kk cap off:Nat} {cur:Array Value} {e:TypeId} {y:Box},a.eval p' = .pointer (some ⟨kk,off,none⟩)->(st'.bx b).uses (ρ b) kk->w.heap[kk]? = some (.cells cur e (0,0))->(dZ st.tm x).cells.length=k->off+k<=cur.size ->
   (∀k',y.uses (ρ b) k'->k'=kk)->xP J ρ (w.setRow kk (Ab.splice cur.toList off (a.eval x').cells.toList).toArray) b y->ρ b=some (kk,cap)->wZ P E n o a w (st'.uN [(b,y)]) (.one .NV):=by
   intro J st' h' b kk cap off cur e y hpv hu hw hk hfit huy hok hr;have hkv:(a.eval x').cells.size=k:=(by have:=gc.1;simp at this;omega);have hrun:=RQ (P:=P) (w:=w) ht hkv hw hfit h1;refine⟨undef,w.setRow kk (Ab.splice cur.toList off (a.eval x').cells.toList).toArray,J,ρ,.inr ⟨by simp only[execOp,he,hpv,cZ,hrun,bn,bQ],hd⟩,?_,λhn=>al7 hd hn,{ quiet:=λe=>(by rw[he]at e;cases e),store:=λt1 p1 x1 he1=>(by rw[he]at he1;cases he1;exact⟨kk,off,cur,e,hpv,hw,by omega,rfl⟩) }⟩;exact h'.zH hu y huy (L8 _ _ _) hok (by simp)
  unfold Aj at jV⊢;split at jV
  ·exact jV.elim
  ·exact jV.elim
  ·exact jV.elim
  ·split at jV
   ·rename_i b off e1;rw[e1]at g1;obtain⟨kk,cap,hr,hv⟩:=g1;split at jV
    ·rename_i xs hb;obtain⟨hk,hfit⟩:=jV;have hok:=h.bx.ok b;rw[hb]at hok;obtain⟨kk',cap',cs,hr',hw,hs,hcs⟩:=hok;rw[hr]at hr';simp only[aC,bI]at hr';obtain⟨rfl,rfl⟩:=hr';refine key h hv (by rw[hb];exact⟨cap,hr⟩) hw hk (by omega) (λk' hk'=>?_) ?_ hr
     ·obtain⟨c,hc⟩:=hk';rw[hr]at hc;simp at hc;exact hc.1.symm
     ·have hsp:=OB.splice (vs:=cs.toList) (xs:=xs) ⟨by simpa using hs,λj v y hv hy=>hcs j v y (by simpa using hv) hy⟩ gc off (by omega);refine⟨kk,cap,_,hr,setRow_heap w kk cs _ cap _ hw,?_,λj u y hu hy=>hsp.2 j u y (by simpa using hu) hy⟩;have:=hsp.1;simpa using this
    ·exact jV.elim
   ·rename_i b i sz off e1;rw[e1]at g1;obtain⟨kk,cap,hr,hv⟩:=g1;split at jV
    ·rename_i sz' es cs' hb hds;obtain⟨rfl,hk,hi,hfit,hlo,hnb⟩:=jV;obtain⟨hl,hrd⟩:=aa2 (BS:=qg (dZ st.tm x).cells) h gc hds hlo (λb hm=>hm);have h':=h.freeze (qg (dZ st.tm x).cells);have hb':(st.Ik (qg (dZ st.tm x).cells)).bx b = .dat sz' es:=(by rw[BM,ahk (λhm=>by rw[List.contains_iff_mem.2 hm]at hnb;cases hnb),hb]);rw[Xw];generalize hJ:D8 I ρ w st.bx (qg (dZ st.tm x).cells)=J at h' hrd;have hok:=h'.bx.ok b;rw[hb']at hok;obtain⟨kk',cap',hr',hle,hcm,hsz,hcs⟩:=hok;rw[hr]at hr';simp only[aC,bI]at hr';obtain⟨rfl,rfl⟩:=hr';have hc0:cap≠0:=(by omega);obtain⟨cs,e,hw,hs,ho,apG⟩:=hcs hc0;have hi1:(i+1)*sz'<=cs.size:=(by rw[hs];exact aQ _ (by omega));have hmul:(i+1)*sz'=i*sz'+sz':=(by rw[cO];omega);have hei:(es.getD i []).length=sz':=hsz _ (by simp[bZ,ax hi]);have hck:(dZ st.tm x).cells.length=k:=(by rw[<- gc.1,hl];exact hk);have hdc:DC J cs.toList sz' es:=⟨λj u hu=>ho j u (by simpa using hu),λi j c hc=>by obtain⟨u,hu,hr⟩:=apG i j c hc;exact⟨u,by simpa using hu,hr⟩⟩;have hsp:=hdc.splice hsz hi (off:=off) (ys:=cs') (vs:=(a.eval x').cells.toList) (by omega) (by simpa using hi1) hl h1 hrd;refine key h' hv (by rw[hb'];exact⟨cap,hr,hc0⟩) hw hck (by omega) (λk' hk'=>?_) ?_ hr
     ·obtain⟨c,hc,_⟩:=hk';rw[hr]at hc;simp at hc;exact hc.1.symm
     ·refine⟨kk,cap,hr,by simpa using hle,hcm,λy hy=>?_,λ_=>⟨_,e,setRow_heap w kk cs _ e _ hw,?_,λj u hu=>hsp.one j u (by simpa using hu),λi j c hc=>by obtain⟨u,hu,hr⟩:=hsp.rd i j c hc;exact⟨u,by simpa using hu,hr⟩⟩⟩
      ·rcases pq hy with h1|h1
       ·exact hsz y h1
       ·rw[h1,length_splice _ _ _ (by omega)];exact hei
      ·have:(a.eval x').cells.toList.length=k:=(by rw[hl];exact hk);simp only[oI];rw[length_splice _ _ _ (by rw[this,mY];omega)];simpa using hs
    ·exact jV.elim
   ·exact jV.elim
 ·cases hc
end
end
section
section
variable {P:Program} {E:Env P} {I:IH} {ρ:Ren} {n:Nat} {st:fH} {a:Act} {w:World}
theorem GX.kill (h:GX E I ρ n st a w)(b:Nat):GX E I ρ n (st.zH b .dead) a w:=by
 refine{ h with bx:=?_,own:=?_,agree:=h.agree,tm:=h.tm,size:=h.size,defers:=h.defers }
 ·refine BX.step (λc=>c=b) h.bx (IH.le_refl I) (Ren.le_refl ρ) (λc hc=>⟨by simp[fH.sJ,hc],rfl⟩) (λc k _ _=>rfl) ?_ ?_ ?_ (λc k _ hu=>h.bx.fresh c k hu)
  ·rintro c rfl;simp[fH.sJ,xP]
  ·rintro c k rfl hu;simp[fH.sJ,Box.uses]at hu
  ·rintro c c' k rfl rfl _ _;rfl
 ·intro c k hu;simp only[fH.sJ]at hu;by_cases e:c=b
  ·rw[ahl e]at hu;exact hu.elim
  ·rw[ahk e]at hu;exact h.own c k hu
theorem GX.move (h:GX E I ρ n st a w){w':World}{b l kk cap sz sz':Nat}{es es':List (List Cell)}(hb:st.bx b = .dat sz es)(hr:ρ b=some (kk,cap))(hl:st.bx l = .absent)(hm:E.m<=l)
 (hF:Dp w w' (λk=>k=kk)) (hsz:w'.heap.size=w.heap.size) (h0:cap=0->w'=w) (hx:xP I (ρ.set l kk cap) w' l (.dat sz' es')):GX E I (ρ.set l kk cap) n ((st.zH b .dead).zH l (.dat sz' es')) a w':=by
 have hrl:ρ l=none:=by have:=h.bx.ok l;rwa[hl]at this
 have hbl:b≠l:=by rintro rfl;rw[hl]at hb;cases hb
 have hle:=Ren.Qd (ρ:=ρ) (k:=kk) (cap:=cap) hrl;have hk:∀k',k'≠kk->w'.heap[k']? = w.heap[k']?:= λk' hne=>by
  by_cases hlt:k'<w.heap.size
  ·exact hF.block k' hlt hne
  ·rw[vY (by omega),vY (by omega)]
 have hub:cap≠0->(st.bx b).uses (ρ b) kk:=λhc=>by rw[hb];exact⟨cap,hr,hc⟩
 have hk2:∀k',(∀hc:cap≠0,k'≠kk)->w'.heap[k']? = w.heap[k']?:= λk' hne=>by
  by_cases hc:cap=0
  ·rw[h0 hc]
  ·exact hk k' (hne hc)
 refine{ agree:=h.agree.other λk' c hc=>hk2 k' λhc0 e=>?_,bx:=?_,tm:=λt ht=>(h.tm t ht).mono (IH.le_refl _) hle,size:=h.size,defers:=h.defers,Be:=?_,own:=?_,Jw:=h.Jw,Jg:=h.Jg,yS:=?_ }
 ·subst e;have:=h.bx.fresh b k' (hub hc0);rw[this]at hc;cases hc
 ·refine BX.step (λc=>c=b\/c=l) h.bx (IH.le_refl I) hle ?_ ?_ ?_ ?_ ?_ ?_
  ·intro c hc;have h1:¬c=b:=λe=>hc (.inl e);have h2:¬c=l:=λe=>hc (.inr e);exact⟨by simp[fH.sJ,h1,h2],Ren.xB h2⟩
  ·intro c k' hc hu;refine hk2 k' λhc0 e=>hc (.inl ?_);subst e;exact h.bx.inj c b k' hu (hub hc0)
  ·rintro c (rfl|rfl)
   ·simp[fH.sJ,hbl,xP]
   ·simpa[fH.sJ]using hx
  ·rintro c k' (rfl|rfl) hu
   ·simp[fH.sJ,hbl,Box.uses]at hu
   ·simp only[fH.sJ,amB,Box.uses,Ren.oN]at hu;obtain⟨c',hc',hc0⟩:=hu;simp only[aC,bI]at hc';obtain⟨rfl,rfl⟩:=hc';exact⟨λb' hb' hu'=>hb' (.inl (h.bx.inj b' b kk hu' (hub hc0))),h.bx.fresh b kk (hub hc0)⟩
  ·rintro c c' k' (rfl|rfl) (rfl|rfl) hu hu'
   ·rfl
   ·simp[fH.sJ,hbl,Box.uses]at hu
   ·simp[fH.sJ,hbl,Box.uses]at hu'
   ·rfl
  ·intro c k' hc hu;exact h.bx.fresh c k' hu
 ·by_cases hc:cap=0
  ·rw[h0 hc];exact h.Be
  ·refine h.Be.trans hF λk' hlt e=>?_;subst e;rcases h.own b k' (hub hc)with h1|h1
   ·omega
   ·exact h1
 ·intro c k' hu;simp only[fH.sJ]at hu;by_cases e:c=l
  ·subst e;simp only[amB,Box.uses,Ren.oN]at hu;obtain⟨c',hc',hc0⟩:=hu;simp only[aC,bI]at hc';obtain⟨rfl,rfl⟩:=hc';exact h.own b kk (hub hc0)
  ·rw[ahk e,Ren.xB e]at hu;by_cases e2:c=b
   ·rw[ahl e2]at hu;exact hu.elim
   ·rw[ahk e2]at hu;exact h.own c k' hu
 ·intro c hc;rw[Ren.xB (by omega)];exact h.yS c hc
theorem Ou {v:Value}{sz:Nat}{es:List (List Cell)}(h:Src I w v sz es)(h0:0<sz):∃(b:Option Addr) (cap:Nat) (us:List Value),v = .slice b es.length cap/\us.length=es.length*sz /\
 (∀ad,b=some ad->∀(j:Nat) (u:Value),us[j]? = some u->w.cell? (ad.add j)=some u)/\(b=none->es=[])/\DC I us sz es:=by
 obtain⟨b,cap,hv,_,hsz,hb,hc⟩:=h;cases b with
 | none=>
   have:es=[]:=by
    cases es with
    |nil=>rfl
    |cons e r=>exact al7 rfl (hb (by simp))
   subst this;exact⟨none,cap,[],hv,by simp,(λad h=>by cases h),(λ_=>rfl),⟨by simp,by simp⟩⟩
 | some ad=>
   have key:∀j,j<es.length*sz->∃u,w.cell? (ad.add j)=some u/\∃c,(es.getD (j/sz) [])[j%sz]? = some c/\Rd I u c:=by intro j hj;have hi:j/sz<es.length:=(by rw[Nat.div_lt_iff_lt_mul h0];exact hj);have hl:(es.getD (j/sz) []).length=sz:=hsz _ (by simp[bZ,ax hi]);have hm:j%sz<sz:=wo _ h0;obtain⟨u,hu,hr⟩:=hc ad rfl (j/sz) (j%sz) _ (ax (by omega));have e:j/sz*sz+j%sz=j:=(by rw[vU];exact Nat.div_add_mod j sz);rw[e]at hu;exact⟨u,hu,_,ax (by omega),hr⟩
   refine⟨some ad,cap,(List.range (es.length*sz)).map λj=>(w.cell? (ad.add j)).getD undef,hv,by simp,?_,by simp,?_⟩
   ·intro ad' had j u hu;simp at had;subst had;rw[bP]at hu;by_cases hj:j<es.length*sz
    ·rw[xw hj]at hu;obtain⟨u',hu',_⟩:=key j hj;simp[hu']at hu;rw[<- hu];exact hu'
    ·rw[kF (by simpa using hj)]at hu;cases hu
   ·refine⟨λj u hu=>?_,λi j c hcc=>?_⟩
    ·rw[bP]at hu;by_cases hj:j<es.length*sz
     ·rw[xw hj]at hu;obtain⟨u',hu',c,_,hr⟩:=key j hj;simp[hu']at hu;rw[<- hu];exact hr.one
     ·rw[kF (by simpa using hj)]at hu;cases hu
    ·have hi:=l7 hcc;have hl:(es.getD i []).length=sz:=hsz _ (by simp[bZ,ax hi]);have hj:j<sz:=(by rw[<- hl];exact(aK.1 hcc).1);obtain⟨u,hu,hr⟩:=hc ad rfl i j c hcc;have hlt:i*sz+j<es.length*sz:=by
      have:(i+1)*sz<=es.length*sz:=aQ _ hi;rw[cO]at this;omega
     exact⟨u,by rw[bP,xw hlt];simp[hu],hr⟩
theorem DC.append {us vs:List Value}{sz:Nat}{es ys:List (List Cell)}(h:DC I us sz es)(k:DC I vs sz ys)(hl:us.length=es.length*sz):DC I (us++vs) sz (es++ys):=by
 refine⟨λj u hu=>?_,λi j c hc=>?_⟩
 ·by_cases hj:j<us.length
  ·rw[bF hj]at hu;exact h.one j u hu
  ·rw[dA (by omega)]at hu;exact k.one _ u hu
 ·by_cases hi:i<es.length
  ·have e:(es++ys).getD i []=es.getD i []:=(by simp[bZ,bF hi]);rw[e]at hc;obtain⟨u,hu,hr⟩:=h.rd i j c hc;exact⟨u,by rw[bF (aK.1 hu).1];exact hu,hr⟩
  ·have e:(es++ys).getD i []=ys.getD (i-es.length) []:=(by simp[bZ,dA (Bv hi)]);rw[e]at hc;obtain⟨u,hu,hr⟩:=k.rd _ j c hc;have hmul:es.length*sz<=i*sz:=aQ _ (by omega);have hsub:(i-es.length)*sz=i*sz-es.length*sz:=Nat.sub_mul _ _ _;exact⟨u,by rw[dA (by omega),hl,<- hu];congr 1;omega,hr⟩
theorem DC.more {us vs:List Value}{sz:Nat}{es:List (List Cell)}(h:DC I us sz es)(hv:∀(j:Nat) (u:Value),vs[j]? = some u->u.oneCell'=true):DC I (us++vs) sz es:=by
 refine⟨λj u hu=>?_,λi j c hc=>?_⟩
 ·by_cases hj:j<us.length
  ·rw[bF hj]at hu;exact h.one j u hu
  ·rw[dA (by omega)]at hu;exact hv _ u hu
 ·obtain⟨u,hu,hr⟩:=h.rd i j c hc;exact⟨u,by rw[bF (aK.1 hu).1];exact hu,hr⟩
theorem DC.afk {us:List Value}{sz:Nat}{es:List (List Cell)}{cs:Array Value}(h:DC I us sz es)(e:cs.toList=us) :
 (∀(j:Nat) (u:Value),cs[j]? = some u->u.oneCell'=true)/\∀(i j:Nat) (c:Cell),(es.getD i [])[j]? = some c->∃u,cs[i*sz+j]? = some u/\Rd I u c:=by
 subst e;exact⟨λj u hu=>h.one j u (by simpa using hu),λi j c hc=>by obtain⟨u,hu,hr⟩:=h.rd i j c hc;exact⟨u,by simpa using hu,hr⟩⟩
def Fa (P:Program)(n:Nat)(op:Op)(sz bytes:Nat)(s x:oW):Bool:=
 match op with
 | .call { callee:=.builtin .append,args:=⟨[s',x']⟩,argTypes:=⟨[t,t']⟩ }=>kW n s' s&&kW n x' x&&t==t'&&decide (0<sz)&&(match P.underlying t with
   |some (.slice e)=>(match P.info? e with|some i=>i.size==sz&&i.bytes==bytes&&(match i.zero with|some z=>z.cells.size==sz&&z.cells.toList.all (·.oneCell')|none=>false)|none=>false)
   |_=>false)
 |_=>false
theorem run_append_room' (t ty e tg:TypeId)(i:TypeInfo)(ht:P.underlying t=some (.slice e))(hi:P.info? e=some i)
 (g sLen sCap:Nat) (cur:Array Value) (hg:w.heap[g]? = some (.cells cur tg (0,0)))
 (ad:Addr) (m c:Nat) (news:List Value) (hl:news.length=m*i.size) (hnews:∀j u,news[j]? = some u->w.cell? (ad.add j)=some u) (h1:∀u∈news,u.oneCell'=true)
 (hroom:sLen+m<=sCap) (hfit:sLen*i.size+news.length<=cur.size) :
 (gY #[t,t] ty #[.slice (some ⟨g,0,none⟩) sLen sCap,.slice (some ad) m c]).run P w =
  .ok (.slice (some ⟨g,0,none⟩) (sLen+m) sCap) (w.setRow g (cur.toList.take (sLen*i.size)++news++cur.toList.drop (sLen*i.size+news.length)).toArray):=by
 have hf:=run_firstCells_some (P:=P) w i.size m ad m c news hl hnews;have hst:=run_storeCells_at P g (sLen*i.size) tg news 0 cur w hg (by simpa using hfit) h1;simp only[rQ]at hst;simp[gY,run_underlying ht,sizeOf,typeInfo,hi,rH,hroom,hf,Go.Addr.add_lit,hst]
theorem Ic (t ty e:TypeId)(i:TypeInfo)(ht:P.underlying t=some (.slice e))(hi:P.info? e=some i)(b:Option Addr)(sLen sCap:Nat)(hs:sLen<=sCap)(ad:Option Addr)(c:Nat) :
 (gY #[t,t] ty #[.slice b sLen sCap,.slice ad 0 c]).run P w = .ok (.slice b sLen sCap) w:=by
 have hf:(iK i.size 0 (.slice ad 0 c)).run P w = .ok #[] w:=by cases ad<;>simp[iK,loadCells,loadCellsFrom,bQ]
 cases b<;>simp[gY,run_underlying ht,sizeOf,typeInfo,hi,rH,hs,hf,storeCells]
theorem Uu (h:GX E I ρ n st a w){l sz bytes:Nat}{sv xv:Value}{es ys:List (List Cell)}{b:Option Nat}(t ty e:TypeId)(i:TypeInfo)(z:Value)(ht:P.underlying t=some (.slice e))(hi:P.info? e=some i)(hsz:i.size=sz)
 (hby:i.bytes=bytes) (hz:i.zero=some z) (hzs:z.cells.size=sz) (hz1:z.cells.toList.all (·.oneCell')=true) (h0:0<sz) (hl:st.bx l = .absent) (hm:E.m<=l)
 (hb:(b=none/\es=[]/\sv = .slice none 0 0)\/∃b',b=some b'/\st.bx b' = .dat sz es/\GC I ρ sv (.own b' es.length sz)) (hx:Src I w xv sz ys) (hbig:(es.length+ys.length)*(bytes+sz+1)<=2^46) :
 ∃v w' ρ',(gY #[t,t] ty #[sv,xv]).run P w = .ok v w'/\GX E I ρ' n ((match b with|some b'=>st.zH b' .dead|none=>st).zH l (.dat sz (es++ys))) a w'/\GC I ρ' v (.own l (es.length+ys.length) sz):=by
 subst hsz;subst hby;have hmul:(es.length+ys.length)*(i.bytes+i.size+1)=(es.length+ys.length)*i.bytes+(es.length+ys.length)*i.size+(es.length+ys.length):=by rw[zW,zW,wJ]
 have hbytes:(es.length+ys.length)*i.bytes<=140737488355328:=by omega
 have h63:es.length+ys.length<=maxLen:=by simp only[maxLen];omega
 obtain⟨xb,xc,us,hxv,Nb,hus,hxn,hdx⟩:=Ou hx h0;have hys:∀y,y∈ys->y.length=i.size:=by obtain⟨_,_,_,_,h4,_⟩:=hx;exact h4
 have hone:∀u∈us,u.oneCell'=true:=λu hu=>by obtain⟨j,hj⟩:=uY hu;exact hdx.one j u hj
 have hzc:∀(q:Nat) (j:Nat) (u:Value),(bK z.cells q).toList[j]? = some u->u.oneCell'=true:=by
  intro q j u hu;simp only[bK,wG,pO]at hu;by_cases hj:j<q*z.cells.size
  ·rw[qi,ahl hj]at hu;simp only[iR,aC]at hu;have hlt:j%z.cells.size<z.cells.size:=wo _ (by omega);rw[getElem!_pos z.cells _ hlt]at hu;rw[<- hu];exact aP.1 hz1 _ (by simp)
  ·rw[qi,ahk hj]at hu;cases hu
 have fresh:∀(st':fH) (old:Nat) (olds:List Value),GX E I ρ n st' a w->st'.bx l = .absent->old<es.length+ys.length->olds.length=es.length*i.size->DC I olds i.size es->(∀y,y∈es->y.length=i.size) ->
  GX E I (ρ.set l w.heap.size (grownCap w (es.length+ys.length) old e)) n (st'.zH l (.dat i.size (es++ys))) a
   (w.drew.alloc (.cells (olds.toArray++us.toArray++bK z.cells (grownCap w (es.length+ys.length) old e-(es.length+ys.length))) e)):=by
  intro st' old olds hst hl' ho hol hdo hes;have hge:=grownCap_ge w (es.length+ys.length) old e;have hcm:grownCap w (es.length+ys.length) old e<=maxLen:=grownCap_le_maxLen w _ old e h63;have hdc:=((hdo.append hdx hol).more (hzc (grownCap w (es.length+ys.length) old e-(es.length+ys.length)))).afk (cs:=olds.toArray++us.toArray++bK z.cells (grownCap w (es.length+ys.length) old e-(es.length+ys.length))) (by simp);refine OV hst.drew hl' hm _ e _ i.size (es++ys) ?_ (by simpa using hge) hcm (λx hx=>?_) hdc.1 hdc.2
  ·simp only[yt,oI,size_zeroCells,hzs,hol,Nb,<- cO]
   congr 1
   omega
  ·rcases aY.1 hx with h1|h1
   ·exact hes x h1
   ·exact hys x h1
 rcases hb with⟨rfl,rfl,rfl⟩|⟨b',rfl,hb',hg⟩
 ·
  simp only[iy,eU,jI]at *;by_cases hm0:ys.length=0
  ·have hy0:ys=[]:=fO hm0;subst hy0;refine⟨.slice none 0 0,w,ρ.set l 0 0,?_,?_,0,0,none,0,Ren.oN _ _ _ _,rfl,aA _,aA _,λh=>al7 rfl h⟩
   ·rw[hxv];exact Ic t ty e i ht hi none 0 0 (aA _) xb xc
   ·have hrl:ρ l=none:=(by have:=h.bx.ok l;rwa[hl]at this);have hle:=Ren.Qd (ρ:=ρ) (k:=0) (cap:=0) hrl;refine{ agree:=h.agree,bx:=?_,tm:=λt ht=>(h.tm t ht).mono (IH.le_refl _) hle,size:=h.size,defers:=h.defers,Be:=h.Be,own:=?_,Jw:=h.Jw,Jg:=h.Jg,yS:=λc hc=>by rw[Ren.xB (by omega)];exact h.yS c hc }
    ·refine BX.step (λc=>c=l) h.bx (IH.le_refl I) hle (λc hc=>⟨by simp[fH.sJ,hc],Ren.xB hc⟩) (λc k _ _=>rfl) ?_ ?_ ?_ (λc k _ hu=>h.bx.fresh c k hu)
     ·rintro c rfl;simp only[fH.sJ,amB];exact⟨0,0,Ren.oN _ _ _ _,by simp,by simp[maxLen],by simp,λh=>al7 rfl h⟩
     ·rintro c k rfl hu;simp only[fH.sJ,amB,Box.uses,Ren.oN]at hu;obtain⟨c',hc',hc0⟩:=hu;simp only[aC,bI]at hc';exact al7 hc'.2.symm hc0
     ·rintro c c' k rfl rfl _ _;rfl
    ·intro c k hu;simp only[fH.sJ]at hu;by_cases e':c=l
     ·subst e';simp only[amB,Box.uses,Ren.oN]at hu;obtain⟨c',hc',hc0⟩:=hu;simp only[aC,bI]at hc';exact al7 hc'.2.symm hc0
     ·rw[ahk e',Ren.xB e']at hu;exact h.own c k hu
  ·obtain⟨ad,had⟩:∃ad,xb=some ad:=by
    cases hq:xb with
    |none=>exact al7 (by rw[hxn hq];rfl) hm0
    |some ad=>exact⟨ad,rfl⟩
   subst had;have hr:=run_append_nil (P:=P) w t ty e i z ht hi hz ad ys.length xc us Nb (hus ad rfl) (by omega) (by simp only[maxLen]at h63;omega) (by omega);rw[<- hxv]at hr;have hf:=fresh st 0 [] h hl (by omega) (by simp) ⟨by simp,by simp⟩ (by simp);simp only[uz]at hf;exact⟨_,_,_,hr,hf,w.heap.size,_,_,_,Ren.oN _ _ _ _,rfl,grownCap_ge w ys.length 0 e,aA _,λ_=>rfl⟩
 ·obtain⟨kk,cap,ad0,c,hr0,hsv,hnc,hcc,hcap⟩:=hg;have hbl:b'≠l:=by rintro rfl;rw[hl]at hb';cases hb'
  have hok:=h.bx.ok b';rw[hb']at hok;obtain⟨kk',cap',hr',hle,hcm,hes,hcs⟩:=hok;rw[hr0]at hr';simp only[aC,bI]at hr';obtain⟨rfl,rfl⟩:=hr';simp only;by_cases hm0:ys.length=0
  ·have hy0:ys=[]:=fO hm0;subst hy0;simp only[iy,rQ,iQ]at *;refine⟨sv,w,ρ.set l kk cap,?_,?_,kk,cap,ad0,c,Ren.oN _ _ _ _,hsv,hnc,hcc,hcap⟩
   ·rw[hxv,hsv];exact Ic t ty e i ht hi ad0 _ c hnc xb xc
   ·refine h.move hb' hr0 hl hm (Dp.refl _ _) rfl (λ_=>rfl) ⟨kk,cap,Ren.oN _ _ _ _,hle,hcm,hes,hcs⟩
  ·obtain⟨ad,had⟩:∃ad,xb=some ad:=by
    cases hq:xb with
    |none=>exact al7 (by rw[hxn hq];rfl) hm0
    |some ad=>exact⟨ad,rfl⟩
   subst had;by_cases hroom:es.length+ys.length<=c
   ·have hc0:cap≠0:=(by omega);have Qb:=hcap hc0;subst Qb;obtain⟨cs,tg,hw,hs,ho,hrd⟩:=hcs hc0;have hfit:es.length*i.size+us.length<=cs.size:=(by rw[hs,Nb,<- cO];exact aQ _ (by omega));have hr:=run_append_room' (P:=P) (w:=w) (ty:=ty) t e tg i ht hi kk es.length c cs hw ad ys.length xc us Nb (hus ad rfl) hone hroom hfit;rw[<- hxv,<- hsv]at hr;refine⟨_,_,ρ.set l kk cap,hr,?_,kk,cap,_,c,Ren.oN _ _ _ _,rfl,hroom,hcc,λ_=>rfl⟩;refine h.move hb' hr0 hl hm (L8 _ _ _) (by simp) (λh=>al7 h hc0) ⟨kk,cap,Ren.oN _ _ _ _,by simp;omega,hcm,λx hx=>?_,λ_=>⟨_,tg,setRow_heap w kk cs _ tg _ hw,?_,?_⟩⟩
    ·rcases aY.1 hx with h1|h1
     ·exact hes x h1
     ·exact hys x h1
    ·simp only[oI,bD,gW,List.length_drop,mY];omega
    ·have hd1:DC I (cs.toList.take (es.length*i.size)) i.size es:=by
      refine⟨λj u hu=>?_,λi' j c' hc'=>?_⟩
      ·rw[cu]at hu;split at hu
       ·exact ho j u (by simpa using hu)
       ·cases hu
      ·obtain⟨u,hu,hr⟩:=hrd i' j c' hc';have hi':=l7 hc';have hj:j<i.size:=(by rw[<- hes (es.getD i' []) (by simp[bZ,ax hi'])];exact(aK.1 hc').1);have:(i'+1)*i.size<=es.length*i.size:=aQ _ hi';rw[cO]at this;exact⟨u,by rw[cu,ahl (by omega)];simpa using hu,hr⟩
     have hlen:(cs.toList.take (es.length*i.size)).length=es.length*i.size:=(by simp;omega);have:=((hd1.append hdx hlen).more (vs:=cs.toList.drop (es.length*i.size+us.length)) (λj u hu=>by rw[fV]at hu;exact ho _ u (by simpa using hu))).afk (cs:=(cs.toList.take (es.length*i.size)++us++cs.toList.drop (es.length*i.size+us.length)).toArray) (by simp);exact this
   ·
    have hfit:=growslice_fits (need:=es.length+ys.length) (old:=c) (bytes:=i.bytes) (by omega) hbytes;have hk:=h.kill b';have hkl:(st.zH b' .dead).bx l = .absent:=(by rw[fH.sJ,ahk (λe=>hbl e.symm)];exact hl);by_cases hc0:cap=0
    ·
     have he0:es=[]:=fO (by omega);subst he0;have hcz:c=0:=(by omega);subst hcz;simp only[iy,eU,jI]at *;have hf:=fresh (st.zH b' .dead) 0 [] hk hkl (by omega) (by simp) ⟨by simp,by simp⟩ (by simp);simp only[uz]at hf;cases ad0 with
     | none=>have hr:=run_append_nil (P:=P) w t ty e i z ht hi hz ad ys.length xc us Nb (hus ad rfl) (by omega) (by simp only[maxLen]at h63;omega) (by omega);rw[<- hxv,<- hsv]at hr;exact⟨_,_,_,hr,hf,w.heap.size,_,_,_,Ren.oN _ _ _ _,rfl,grownCap_ge w ys.length 0 e,aA _,λ_=>rfl⟩
     | some q=>have hr:=run_append_grow (P:=P) w t ty e i z ht hi hz q 0 0 [] (by simp) (by simp) ad ys.length xc us Nb (hus ad rfl) (by omega) (by simp only[maxLen]at h63;omega) (by simpa using hfit);rw[<- hxv,<- hsv]at hr;simp only[eU,uz]at hr;exact⟨_,_,_,hr,hf,w.heap.size,_,_,_,Ren.oN _ _ _ _,rfl,grownCap_ge w ys.length 0 e,aA _,λ_=>rfl⟩
    ·have Qb:=hcap hc0;subst Qb;obtain⟨cs,tg,hw,hs,ho,hrd⟩:=hcs hc0;have hmn:es.length*i.size<=cs.size:=(by rw[hs];exact aQ _ hle);have abo:(cs.toList.take (es.length*i.size)).length=es.length*i.size:=(by simp;omega);have holds:∀(j:Nat) (u:Value),(cs.toList.take (es.length*i.size))[j]? = some u->w.cell? ((⟨kk,0,none⟩:Addr).add j)=some u:=λj u hu=>by
      rw[cu]at hu;split at hu
      ·rw[Addr.tJ];simp at hu;simp[gI,hw,hu]
      ·cases hu
     have hd1:DC I (cs.toList.take (es.length*i.size)) i.size es:=by
      refine⟨λj u hu=>?_,λi' j c' hc'=>?_⟩
      ·rw[cu]at hu;split at hu
       ·exact ho j u (by simpa using hu)
       ·cases hu
      ·obtain⟨u,hu,hr⟩:=hrd i' j c' hc';have hi':=l7 hc';have hj:j<i.size:=(by rw[<- hes (es.getD i' []) (by simp[bZ,ax hi'])];exact(aK.1 hc').1);have:(i'+1)*i.size<=es.length*i.size:=aQ _ hi';rw[cO]at this;exact⟨u,by rw[cu,ahl (by omega)];simpa using hu,hr⟩
     have hr:=run_append_grow (P:=P) w t ty e i z ht hi hz ⟨kk,0,none⟩ es.length c _ abo holds ad ys.length xc us Nb (hus ad rfl) (by omega) (by simp only[maxLen]at h63;omega) hfit;rw[<- hxv,<- hsv]at hr;have hf:=fresh (st.zH b' .dead) c _ hk hkl (by omega) abo hd1 hes;exact⟨_,_,_,hr,hf,w.heap.size,_,_,_,Ren.oN _ _ _ _,rfl,grownCap_ge w _ c e,aA _,λ_=>rfl⟩
end
end
section
section
variable {P:Program} {E:Env P} {I:IH} {ρ:Ren} {n:Nat} {st:fH} {a:Act} {w:World}
def Vm (l sz bytes:Nat) (s x:AV) (bx:Nat->Box):FR:=match yH sz x bx with
    | some (p,ys)=>match s with
      |.one (.lF _)=>⟨p/\(match bx l with|.absent=>True|_=>False)/\ys.length*(bytes+sz+1)<=2^46,.one (.own l ys.length sz),[(l,.dat sz ys)]⟩
      | .one (.own b n sz')=>match bx b with
        |.dat Dn es=>⟨p/\(match bx l with|.absent=>True|_=>False)/\sz'=sz/\Dn=sz/\n<=es.length/\(n+ys.length)*(bytes+sz+1)<=2^46/\b≠l,
         .one (.own l (n+ys.length) sz),[(b,.dead),(l,.dat sz (es.take n++ys))]⟩
        |_=>.bad
      |_=>.bad
    |none=>.bad
theorem Ky {x:Box}(h:match x with|.absent=>True|_=>False):x = .absent:=by cases x<;>first|rfl|exact h.elim
theorem GX.pfx (h:GX E I ρ n st a w){b sz m:Nat}{es:List (List Cell)}(hb:st.bx b = .dat sz es):GX E I ρ n (st.zH b (.dat sz (es.take m))) a w:=by
 have hu:∀c k,((st.zH b (.dat sz (es.take m))).bx c).uses (ρ c) k->(st.bx c).uses (ρ c) k:=λc k hu=>by
  rw[fH.sJ]at hu;split at hu
  ·rename_i e;subst e;rw[hb];exact hu
  ·exact hu
 refine{ h with bx:=⟨λc=>?_,λc c' k hc hc'=>h.bx.inj c c' k (hu c k hc) (hu c' k hc'),λc k hc=>h.bx.fresh c k (hu c k hc)⟩,own:=λc k hc=>h.own c k (hu c k hc),agree:=h.agree,tm:=h.tm,size:=h.size,defers:=h.defers,Be:=h.Be };rw[fH.sJ];split
 ·rename_i e;subst e;have hok:=h.bx.ok c;rw[hb]at hok;obtain⟨k,cap,hr,h1,h2,h3,h4⟩:=hok;refine⟨k,cap,hr,by simp;omega,h2,λe he=>h3 e (fD he),λh0=>?_⟩;obtain⟨cs,e,g1,g2,g3,g4⟩:=h4 h0;refine⟨cs,e,g1,g2,g3,λi j c' hc'=>g4 i j c' ?_⟩;have hi:=l7 hc';simp at hi;rw[<- hc']
  congr 1
  simp only[bZ];rw[cu,ahl (by omega)]
 ·exact h.bx.ok c
theorem aaN {o:Oper}{l sz bytes:Nat}{s x:oW}(h:GX E I ρ n st a w)(hc:Fa P n o.op sz bytes s x=true)(hm:E.m<=l)(hs:(s.ev st.tm).g=true)(hx:(x.ev st.tm).g=true)
 (jV:(Vm l sz bytes (dZ st.tm s) (dZ st.tm x) st.bx).vc):wE P E n o a w (st.uN (Vm l sz bytes (dZ st.tm s) (dZ st.tm x) st.bx).sets) (Vm l sz bytes (dZ st.tm s) (dZ st.tm x) st.bx).v:=by
 unfold Fa at hc;split at hc
 ·rename_i s' x' t t' he;simp only[ah,akg,ahm]at hc;obtain⟨⟨⟨⟨c1,c2⟩,rfl⟩,h0⟩,ht⟩:=hc;have g1:=nV h c1 hs;have g2:=nV h c2 hx;split at ht
  ·rename_i e hte;split at ht
   ·rename_i i hi;simp only[ah,akg]at ht;obtain⟨⟨rfl,rfl⟩,hz⟩:=ht;split at hz
    ·rename_i z hzero;simp only[ah,akg]at hz;obtain⟨hzs,hz1⟩:=hz;have fin:∀{v:Value} {w':World},(gY #[t,t] o.type #[a.eval s',a.eval x']).run P w = .ok v w'->(execOp a.eval o).run P w = .ok (.value v) w':=by
      intro v w' hr;simp only[execOp,he,resolve,invoke,builtin,cZ,bQ,bn,lC,aZ,jH,hr]
     unfold Vm at jV⊢;split at jV
     ·rename_i p ys hsrc;split at jV
      ·rename_i sz' e1;obtain⟨hp,hl,hbig⟩:=jV;rw[e1]at g1;obtain⟨v,w',ρ',hr,hg,hv⟩:=Uu (P:=P) h (l:=l) (es:=[]) (ys:=ys) (b:=none) t o.type e i z hte hi rfl rfl hzero hzs hz1 h0 (Ky hl) hm (.inl ⟨rfl,rfl,g1⟩) (src_ok h g2 hsrc hp) (by simpa using hbig);simp only[jI,iy,eU]at hg hv;exact⟨v,w',I,ρ',.inl (fin hr),hg,λ_=>hv⟩
      ·rename_i b m sz' e1;rw[e1]at g1;split at jV
       ·rename_i Dn es hb;obtain⟨hp,hl,rfl,rfl,hmn,hbig,hbl⟩:=jV;have hlt:(es.take m).length=m:=(by simp;omega);have h':=h.pfx (m:=m) hb;have hl':(st.zH b (.dat i.size (es.take m))).bx l = .absent:=(by rw[fH.sJ,ahk (λe=>hbl e.symm)];exact Ky hl);obtain⟨v,w',ρ',hr,hg,hv⟩:=Uu (P:=P) h' (l:=l) (es:=es.take m) (ys:=ys) (b:=some b) t o.type e i z hte hi rfl rfl hzero hzs hz1 h0 hl' hm (.inr ⟨b,rfl,by rw[fH.sJ,ahl rfl],by rw[hlt];exact g1⟩) (src_ok h g2 hsrc hp) (by rw[hlt];exact hbig);rw[hlt]at hv;have hst:(((st.zH b (.dat i.size (es.take m))).zH b .dead).zH l (.dat i.size (es.take m++ys)))=((st.zH b .dead).zH l (.dat i.size (es.take m++ys))):=by
         apply fH.ext'
         ·rfl
         ·funext c;simp only[fH.sJ];split
          ·rfl
          ·split<;>rfl
        simp only[hst]at hg;exact⟨v,w',I,ρ',.inl (fin hr),hg,λ_=>hv⟩
       ·exact jV.elim
      ·exact jV.elim
     ·exact jV.elim
    ·cases hz
   ·cases ht
  ·cases ht
 ·cases hc
def copyV (sz:Nat) (d x:AV) (bx:Nat->Box):FR:=match yH sz x bx with
    | some (p,ys)=>match d with
      | .one (.own b n sz')=>match bx b with
        |.dat Dn es=>⟨p/\sz'=sz/\Dn=sz/\n<=es.length,xW .i64 (eY ys.length n:Nat),[(b,.dat sz (splice es 0 (ys.take n)))]⟩
        |_=>.bad
      |.one (.lF _)=>.ok (xW .i64 0)
      |_=>.bad
    |none=>.bad
def JI (P:Program)(n:Nat)(op:Op)(sz:Nat)(d x:oW):Bool:=
 match op with
 |.call { callee:=.builtin .copy,args:=⟨[d',x']⟩,argTypes:=⟨[t,_]⟩ }=>kW n d' d&&kW n x' x&&NL P t sz&&decide (0<sz)
 |_=>false
theorem ajw (t t' ty e:TypeId)(i:TypeInfo)(ht:P.underlying t=some (.slice e))(hi:P.info? e=some i)(kk m c:Nat)(cur:Array Value)(tg:TypeId)(hg:w.heap[kk]? = some (.cells cur tg (0,0)))
 (ad:Addr) (k c':Nat) (us:List Value) (hl:us.length=eY k m*i.size) (hus:∀j u,us[j]? = some u->w.cell? (ad.add j)=some u) (h1:∀u∈us,u.oneCell'=true) (hfit:us.length<=cur.size) :
 (mg #[t,t'] ty #[.slice (some ⟨kk,0,none⟩) m c,.slice (some ad) k c']).run P w = .ok (goInt (eY k m:Nat)) (w.setRow kk (splice cur.toList 0 us).toArray):=by
 have hf:=run_firstCells_some (P:=P) w i.size (eY k m) ad k c' us hl hus;have hst:=run_storeCells_at P kk 0 tg us 0 cur w hg (by simpa using hfit) h1;rw[zI]at hst;simp[mg,run_underlying ht,sizeOf,typeInfo,hi,rH,hf,hst]
theorem J8 (t t' ty e:TypeId)(i:TypeInfo)(ht:P.underlying t=some (.slice e))(hi:P.info? e=some i)(b:Option Addr)(m c:Nat)(ad:Option Addr)(k c':Nat)(h:eY k m=0) :
 (mg #[t,t'] ty #[.slice b m c,.slice ad k c']).run P w = .ok (goInt 0) w:=by
 have hf:(iK i.size 0 (.slice ad k c')).run P w = .ok #[] w:=by cases ad<;>simp[iK,loadCells,loadCellsFrom,bQ]
 cases b<;>simp[mg,run_underlying ht,sizeOf,typeInfo,hi,rH,h,hf,storeCells]
theorem aek {α:Type}(xs:List α):splice xs 0 []=xs:=by simp[splice]
theorem O1 {b:Nat}{x:Box}(h:st.bx b=x):st.zH b x=st:=by
 apply fH.ext'
 ·rfl
 ·funext c;rw[fH.sJ];split
  ·rename_i e;rw[e,h]
  ·rfl
theorem af0 {o:Oper}{sz:Nat}{d x:oW}(h:GX E I ρ n st a w)(hc:JI P n o.op sz d x=true)(hd:(d.ev st.tm).g=true)(hx:(x.ev st.tm).g=true)
 (jV:(copyV sz (dZ st.tm d) (dZ st.tm x) st.bx).vc):wE P E n o a w (st.uN (copyV sz (dZ st.tm d) (dZ st.tm x) st.bx).sets) (copyV sz (dZ st.tm d) (dZ st.tm x) st.bx).v:=by
 unfold JI at hc;split at hc
 ·rename_i d' x' t t' he;simp only[ah,ahm]at hc;obtain⟨⟨⟨c1,c2⟩,ht⟩,h0⟩:=hc;have g1:=nV h c1 hd;have g2:=nV h c2 hx;obtain⟨e,i,hte,hi,rfl⟩:=Dw ht;have fin:∀{v:Value} {w':World},(mg #[t,t'] o.type #[a.eval d',a.eval x']).run P w = .ok v w'->(execOp a.eval o).run P w = .ok (.value v) w':=by
   intro v w' hr;simp only[execOp,he,resolve,invoke,builtin,cZ,bQ,bn,lC,aZ,jH,hr]
  unfold copyV at jV⊢;split at jV
  ·rename_i p ys hsrc;split at jV
   ·rename_i b m sz' e1;rw[e1]at g1;split at jV
    ·rename_i Dn es hb;obtain⟨hp,rfl,rfl,hmn⟩:=jV;have hsrc':=src_ok h g2 hsrc hp;have hys:∀y,y∈ys->y.length=i.size:=(by obtain⟨_,_,_,_,h4,_⟩:=hsrc';exact h4);obtain⟨xb,xc,us,hxv,Nb,hus,hxn,hdx⟩:=Ou hsrc' h0;obtain⟨kk,cap,ad0,c,hr0,hsv,hnc,hcc,hcap⟩:=g1;have hok:=h.bx.ok b;rw[hb]at hok;obtain⟨kk',cap',hr',hle,hcm,hes,hcs⟩:=hok;rw[hr0]at hr';simp only[aC,bI]at hr';obtain⟨rfl,rfl⟩:=hr';by_cases hm0:eY ys.length m=0
     ·have hr:=J8 (P:=P) (w:=w) t t' o.type e i hte hi ad0 m c xb ys.length xc hm0;rw[<- hxv,<- hsv]at hr;have htk:ys.take m=[]:=by
       apply fO;rw[gW,Ee];exact hm0
      rw[htk,aek];refine⟨_,w,I,ρ,.inl (fin hr),?_,λ_=>by rw[hm0];exact BN _ _⟩;show GX E I ρ n (st.zH b (.dat i.size es)) a w;rw[O1 hb];exact h
     ·have hmin:eY ys.length m<=ys.length/\eY ys.length m<=m:=⟨Nat.min_le_left _ _,Nat.min_le_right _ _⟩;have hc0:cap≠0:=(by omega);have Qb:=hcap hc0;subst Qb;obtain⟨ad,had⟩:∃ad,xb=some ad:=by
       cases hq:xb with
       |none=>have:=hxn hq;subst this;exact al7 rfl hm0
       |some ad=>exact⟨ad,rfl⟩
      subst had;obtain⟨cs,tg,hw,hs,ho,hrd⟩:=hcs hc0;have hmul:eY ys.length m*i.size<=ys.length*i.size:=aQ _ hmin.1;have QZ:eY ys.length m*i.size<=cap*i.size:=aQ _ (by omega);have hul:(us.take (eY ys.length m*i.size)).length=eY ys.length m*i.size:=(by simp;omega);have aih:0+(us.take (eY ys.length m*i.size)).length<=cs.toList.length:=(by have hq:cs.toList.length=cs.size:=mY;omega);have hr:=ajw (P:=P) (w:=w) t t' o.type e i hte hi kk m c cs tg hw ad ys.length xc (us.take (eY ys.length m*i.size)) hul
       (λj u hu=>by
        rw[cu]at hu;split at hu
        ·exact hus ad rfl j u hu
        ·cases hu)
       (λu hu=>by obtain⟨j,hj⟩:=uY (fD hu);exact hdx.one j u hj) (by rw[hul];omega)
      rw[<- hxv,<- hsv]at hr;refine⟨_,_,I,ρ,.inl (fin hr),?_,λ_=>BN _ _⟩;have htl:(ys.take m).length=eY ys.length m:=(by rw[gW,Ee]);refine h.zH (b:=b) (k:=kk) (by rw[hb];exact⟨cap,hr0,hc0⟩) (.dat i.size (splice es 0 (ys.take m))) (λk' hk'=>?_) (L8 _ _ _) ?_ (by simp)
      ·obtain⟨c',hc',_⟩:=hk';rw[hr0]at hc';simp at hc';exact hc'.1.symm
      ·have hsl:(splice es 0 (ys.take m)).length=es.length:=length_splice _ _ _ (by rw[htl];omega);refine⟨kk,cap,hr0,by rw[hsl];exact hle,hcm,λy hy=>?_,λ_=>⟨_,tg,setRow_heap w kk cs _ tg _ hw,?_,?_,?_⟩⟩
       ·unfold splice at hy;simp only[Aa,jI,aY]at hy;rcases hy with h1|h1
        ·exact hys y (fD h1)
        ·exact hes y (kN h1)
       ·simp only[oI];rw[length_splice _ _ _ aih];simpa using hs
       ·intro j u hu;have hu:(splice cs.toList 0 (us.take (eY ys.length m*i.size)))[j]? = some u:=(by simpa using hu);rw[qH _ _ _ _ aih,ahk (by omega)]at hu;split at hu
        ·rw[cu]at hu;split at hu
         ·exact hdx.one _ u hu
         ·cases hu
        ·exact ho j u (by simpa using hu)
       ·intro i' j cc Hu;have key:∃u,(splice cs.toList 0 (us.take (eY ys.length m*i.size)))[i'*i.size+j]? = some u/\Rd I u cc:=by
         have hi':=l7 Hu;rw[hsl]at hi';rw[qH _ _ _ _ aih,ahk (by omega),hul];have hget:(splice es 0 (ys.take m)).getD i' []=if i'<eY ys.length m then ys.getD i' []else es.getD i' []:=by
          simp only[bZ];rw[qH _ _ _ _ (by rw[htl];omega),ahk (by omega),htl];by_cases hh:i'<eY ys.length m
          ·rw[ahl (by omega),ahl hh,cu,ahl (by omega)];rfl
          ·rw[ahk (by omega),ahk hh]
         rw[hget]at Hu;by_cases hh:i'<eY ys.length m
         ·rw[ahl hh]at Hu;obtain⟨u,hu,hr⟩:=hdx.rd i' j cc Hu;have hj:j<i.size:=by
           have hyi:=l7 Hu;rw[<- hys (ys.getD i' []) (by simp[bZ,ax hyi])];exact(aK.1 Hu).1
          have:(i'+1)*i.size<=eY ys.length m*i.size:=aQ _ hh;rw[cO]at this;exact⟨u,by rw[ahl (by omega),cu,ahl (by omega)];simpa using hu,hr⟩
         ·rw[ahk hh]at Hu;obtain⟨u,hu,hr⟩:=hrd i' j cc Hu;have:eY ys.length m*i.size<=i'*i.size:=aQ _ (by omega);exact⟨u,by rw[ahk (by omega)];simpa using hu,hr⟩
        obtain⟨u,hu,hr⟩:=key;exact⟨u,by simpa using hu,hr⟩
    ·exact jV.elim
   ·rename_i sz' e1;rw[e1]at g1;have g1:a.eval d' = .slice none 0 0:=g1;have hgx:∃xb k xc,a.eval x' = .slice xb k xc:=by
     unfold yH at hsrc;split at hsrc
     ·rename_i e2;rw[e2]at g2;obtain⟨b,c,hv,_⟩:=alQ g2;exact⟨b,_,c,hv⟩
     ·rename_i e2;rw[e2]at g2;exact⟨none,0,0,g2⟩
     ·rename_i e2;rw[e2]at g2;obtain⟨k,cap,b,c,_,hv,_⟩:=g2;exact⟨b,_,c,hv⟩
     ·rename_i e2;rw[e2]at g2;obtain⟨k,cap,b,c,_,hv,_⟩:=g2;exact⟨b,_,c,hv⟩
     ·cases hsrc
    obtain⟨xb,k,xc,hxv⟩:=hgx;have hr:=J8 (P:=P) (w:=w) t t' o.type e i hte hi none 0 0 xb k xc (Nat.min_zero k);rw[<- hxv,<- g1]at hr;exact⟨_,w,I,ρ,.inl (fin hr),h,λ_=>BN _ _⟩
   ·exact jV.elim
  ·exact jV.elim
 ·cases hc
end
end
section
section
variable {P:Program} {E:Env P} {I:IH} {ρ:Ren} {n:Nat} {st:fH} {a:Act} {w:World}
theorem NT {v:Value}{x:AV}{b lo m sz:Nat}{c:Option Nat}(h:GV I ρ v x)(hs:FO x=some (b,lo,m,c,sz)) :
 ∃k cap ad c',ρ b=some (k,cap)/\v = .slice ad m c'/\m<=c'/\lo+c'<=cap/\(∀c0,c=some c0->c'=c0)/\(c'≠0\/(lo=0/\cap≠0)->ad=some ⟨k,lo*sz,none⟩):=by
 unfold FO at hs;split at hs
 ·simp only[aC,bI]at hs;obtain⟨rfl,rfl,rfl,rfl,rfl⟩:=hs;obtain⟨k,cap,ad,c',h1,h2,h3,h4,h5⟩:=h;refine⟨k,cap,ad,c',h1,h2,h3,by omega,(λ_ e=>by cases e),λhc=>?_⟩;rw[Nat.zero_mul];refine h5 ?_;rcases hc with hc|hc
  ·omega
  ·exact hc.2
 ·simp only[aC,bI]at hs;obtain⟨rfl,rfl,rfl,rfl,rfl⟩:=hs;exact h
 ·cases hs
def adi (n:Nat)(op:Op)(l:Bool)(x y:oW):Bool:=match op with|.binOp b _ x' y' _=>(match b with|.shl=>l|.shr=> !l|_=>false)&&kW n x' x&&kW n y' y|_=>false
theorem ajz {o:Oper}{l:Bool}{x y:oW}(h:GX E I ρ n st a w)(hc:adi n o.op l x y=true)(hx:(x.ev st.tm).g=true)(hy:(y.ev st.tm).g=true)
 (jV:(aao l (dZ st.tm x) (dZ st.tm y)).vc):wZ P E n o a w st (aao l (dZ st.tm x) (dZ st.tm y)).v:=by
 unfold adi at hc;split at hc
 ·rename_i b t x' y' t' he;simp only[ah]at hc;obtain⟨⟨hb,h1⟩,h2⟩:=hc;have g1:=nV h h1 hx;have g2:=nV h h2 hy;unfold aao at jV⊢;split at jV
  ·rename_i k p k' q e1 e2;rw[e1]at g1;rw[e2]at g2;have v1:=yR g1;have v2:=yR g2;have hq:¬q<0:=(by simp only at jV;omega);have hg:=EJ (P:=P) b t x' y' k p (.int k' q) w;cases b<;>simp only[pR]at hb
   ·subst hb;exact wE.val h (v:=.int k (k.wrap (p*2^(min q.toNat k.bits)))) (by simp[execOp,he,hg,v1,v2,binOp,Op.shift,hq]) (BN _ _)
   ·cases l
    ·exact wE.val h (v:=.int k (p.fdiv (2^(min q.toNat k.bits)))) (by simp[execOp,he,hg,v1,v2,binOp,Op.shift,hq]) (BN _ _)
    ·cases hb
  ·exact jV.elim
 ·cases hc
def Zf (P:Program)(n:Nat)(op:Op)(x:oW):Bool:=
 match op with
 |.call { callee:=.builtin .cap,args:=⟨[x']⟩,argTypes:=⟨[t]⟩ }=>kW n x' x&&Rh P t
 |_=>false
theorem afU {o:Oper}{x:oW}(h:GX E I ρ n st a w)(hc:Zf P n o.op x=true)(hx:(x.ev st.tm).g=true)(jV:(X5 (dZ st.tm x)).vc):wZ P E n o a w st (X5 (dZ st.tm x)).v:=by
 unfold Zf at hc;split at hc
 ·rename_i x' t he;simp only[ah]at hc;have g:=nV h hc.1 hx;obtain⟨e,ht⟩:=PD hc.2;unfold X5 at jV⊢;split at jV
  ·rename_i b lo m c sz e1;rw[e1]at g;obtain⟨k,cap,ad,c',hr,hv,hm,hcc,hcx,ha⟩:=g;have:=hcx c rfl;subst this;exact wE.val h (by simp[execOp,he,resolve,invoke,builtin,Builtin.cap_,run_underlying ht,hv,goInt]) (BN _ _)
  ·rename_i sz e1;rw[e1]at g;have g:a.eval x' = .slice none 0 0:=g;exact wE.val h (by simp[execOp,he,resolve,invoke,builtin,Builtin.cap_,run_underlying ht,g,goInt]) (BN _ _)
  ·exact jV.elim
 ·cases hc
def Tf (P:Program)(n:Nat)(op:Op)(sz:Nat)(x:oW)(lo hi:Option oW):Bool:=match op with|.slice t x' lo' hi' none=>kW n x' x&&SY n lo' lo&&SY n hi' hi&&NL P t sz|_=>false
theorem acm {o:Oper}{sz:Nat}{x:oW}{lo hi:Option oW}(h:GX E I ρ n st a w)(hc:Tf P n o.op sz x lo hi=true)(hx:(x.ev st.tm).g=true)
 (hgl:∀x,x∈lo.toList->(x.ev st.tm).g=true) (hgh:∀x,x∈hi.toList->(x.ev st.tm).g=true)
 (jV:(AL sz (dZ st.tm x) (bnd (dZ st.tm) lo 0) (bnd (dZ st.tm) hi)).vc):wZ P E n o a w st (AL sz (dZ st.tm x) (bnd (dZ st.tm) lo 0) (bnd (dZ st.tm) hi)).v:=by
 unfold Tf at hc;split at hc
 ·rename_i t x' lo' hi' he;simp only[ah]at hc;have g1:=nV h hc.1.1.1 hx;obtain⟨e,ti,ht,hti,hsz⟩:=Dw hc.2;unfold AL at jV⊢;split at jV
  ·rename_i b l m c sz' hsb;split at jV
   ·rename_i p q e2 e3;obtain⟨rfl,h0,h1,h2⟩:=jV;obtain⟨k,cap,ad,c',hr,hv,hm,hcc,hcx,ha⟩:=NT g1 hsb;have hqc:q<=c':=by
     cases c with
     |none=>simp only at h2;omega
     |some c0=>have:=hcx c0 rfl;simp only at h2;omega
    have b1:=KA h hc.1.1.2 hgl e2;have b2:=KA h hc.1.2 hgh e3;have hb:=EK (P:=P) (w:=w) true m c' (lo'.map a.eval) (hi'.map a.eval) (p:=p) (q:=q) (OI b1) (OI b2) h0 h1 hqc;have hrun:(execOp a.eval o).run P w = .ok (.value (.slice (if c'=p.toNat then ad else ad.map (·.add (p.toNat*sz'))) (q.toNat-p.toNat) (c'-p.toNat))) w:=by simp only[execOp,he,yJ,Dc,hv,lg];simp[run_underlying ht];rw[hb];simp[sizeOf,typeInfo,hti,hsz]
    refine wE.val h hrun ⟨k,cap,_,_,hr,by congr 1;omega,by omega,by omega,λc0 hc0=>?_,λHu=>?_⟩
    ·cases c with
     |none=>cases hc0
     |some c1=>have:=hcx c1 rfl;simp at hc0;omega
    ·by_cases hcp:c'=p.toNat
     ·rw[ahl hcp];have hl0:l=0/\p.toNat=0/\cap≠0:=(by omega);have:=ha (.inr ⟨hl0.1,hl0.2.2⟩);rw[this,hl0.1,hl0.2.1]
     ·rw[ahk hcp,ha (.inl (by omega))];simp only[iR];rw[Addr.tJ,cO]
   ·exact jV.elim
  ·exact jV.elim
 ·cases hc
theorem aci (len cap:Nat){k1 k2 k3:IntKind}{p q m:Int}(h0:0<=p)(h1:p<=q)(h2:q<=m)(h3:m<=cap) :
 (zo true len cap (some (.int k1 p)) (some (.int k2 q)) (some (.int k3 m))).run P w = .ok (p.toNat,q.toNat,m.toNat) w:=by
 simp (disch:=omega) [zo,run_sliceBound]
def adk (P:Program)(n:Nat)(op:Op)(sz:Nat)(x p q m:oW):Bool:=match op with|.slice t x' (some p') (some q') (some m')=>kW n x' x&&kW n p' p&&kW n q' q&&kW n m' m&&NL P t sz|_=>false
theorem ajA {o:Oper}{sz:Nat}{x p q m:oW}(h:GX E I ρ n st a w)(hc:adk P n o.op sz x p q m=true)(hx:(x.ev st.tm).g=true)(hp:(p.ev st.tm).g=true)(hq:(q.ev st.tm).g=true)(hm:(m.ev st.tm).g=true)
 (jV:(Om sz (dZ st.tm x) (dZ st.tm p) (dZ st.tm q) (dZ st.tm m)).vc):wZ P E n o a w st (Om sz (dZ st.tm x) (dZ st.tm p) (dZ st.tm q) (dZ st.tm m)).v:=by
 unfold adk at hc;split at hc
 ·rename_i t x' p' q' m' he;simp only[ah]at hc;obtain⟨⟨⟨⟨c1,c2⟩,c3⟩,c4⟩,c5⟩:=hc;have g1:=nV h c1 hx;have g2:=nV h c2 hp;have g3:=nV h c3 hq;have g4:=nV h c4 hm;obtain⟨e,ti,ht,hti,hsz⟩:=Dw c5;unfold Om at jV⊢;split at jV
  ·rename_i b l len c sz' k1 p0 k2 q0 k3 m0 hsb e2 e3 e4;obtain⟨rfl,h0,h1,h2,h3⟩:=jV;rw[e2]at g2;rw[e3]at g3;rw[e4]at g4;have v2:=yR g2;have v3:=yR g3;have v4:=yR g4;obtain⟨k,cap,ad,c',hr,hv,hlm,hcc,hcx,ha⟩:=NT g1 hsb;have hmc:m0<=c':=by
    cases c with
    |none=>simp only at h3;omega
    |some c0=>have:=hcx c0 rfl;simp only at h3;omega
   have hb:=aci (P:=P) (w:=w) len c' (k1:=k1) (k2:=k2) (k3:=k3) h0 h1 h2 hmc;refine wE.val h (v:=.slice (if m0.toNat=p0.toNat then ad else ad.map (·.add (p0.toNat*sz'))) (q0.toNat-p0.toNat) (m0.toNat-p0.toNat)) ?_ rfl;simp only[execOp,he,yJ,Dc,hv,iR,v2,v3,v4];simp[run_underlying ht];rw[hb];simp[sizeOf,typeInfo,hti,hsz]
  ·exact jV.elim
 ·cases hc
theorem Tv {α:Type}(xs ys:List α)(off j:Nat)(h:off<=xs.length):(splice xs off ys)[j]? = if j<off then xs[j]? else if j<off+ys.length then ys[j-off]? else xs[j]?:=by
 unfold splice;have h1:(xs.take off).length=off:=by simp;omega
 by_cases hj:j<off
 ·rw[ahl hj,gX,bF (by omega),cu,ahl hj]
 ·rw[ahk hj,gX,dA (by omega),h1];by_cases hk:j<off+ys.length
  ·rw[ahl hk,bF (by omega)]
  ·rw[ahk hk,dA (by omega),fV]
   congr 1;omega
theorem aaj (h:GX E I ρ n st a w){b kk cap sz lo:Nat}{es ys:List (List Cell)}{us:List Value}(hb:st.bx b = .dat sz es)(hr:ρ b=some (kk,cap))(h0:0<sz)(hlo:lo<=es.length)(hfit:lo+ys.length<=cap)
 (hc0:cap≠0) (hys:∀y,y∈ys->y.length=sz) (hul:us.length=ys.length*sz) (hd:DC I us sz ys) :
 ∃cs tg,w.heap[kk]? = some (.cells cs tg (0,0))/\cs.size=cap*sz/\GX E I ρ n (st.zH b (.dat sz (splice es lo ys))) a (w.setRow kk (splice cs.toList (lo*sz) us).toArray):=by
 have hok:=h.bx.ok b;rw[hb]at hok;obtain⟨kk',cap',hr',hle,hcm,hes,hcs⟩:=hok;rw[hr]at hr';simp only[aC,bI]at hr';obtain⟨rfl,rfl⟩:=hr';obtain⟨cs,tg,hw,hs,ho,hrd⟩:=hcs hc0;refine⟨cs,tg,hw,hs,?_⟩;have hmul:(lo+ys.length)*sz<=cap*sz:=aQ _ hfit;rw[cO]at hmul;have aii:lo*sz+us.length<=cs.toList.length:=by have hq:cs.toList.length=cs.size:=mY;omega
 have hlen:(splice es lo ys).length<=cap:=by unfold splice;simp;omega
 refine h.zH (b:=b) (k:=kk) (by rw[hb];exact⟨cap,hr,hc0⟩) (.dat sz (splice es lo ys)) (λk' hk'=>?_) (L8 _ _ _) ?_ (by simp)
 ·obtain⟨c',hc',_⟩:=hk';rw[hr]at hc';simp at hc';exact hc'.1.symm
 ·refine⟨kk,cap,hr,hlen,hcm,λy hy=>?_,λ_=>⟨_,tg,setRow_heap w kk cs _ tg _ hw,?_,?_,?_⟩⟩
  ·unfold splice at hy;simp only[aY]at hy;rcases hy with(h1|h1)|h1
   ·exact hes y (fD h1)
   ·exact hys y h1
   ·exact hes y (kN h1)
  ·simp only[oI];rw[length_splice _ _ _ aii];simpa using hs
  ·intro j u hu;have hu:(splice cs.toList (lo*sz) us)[j]? = some u:=(by simpa using hu);rw[qH _ _ _ _ aii]at hu;split at hu
   ·exact ho j u (by simpa using hu)
   ·split at hu
    ·exact hd.one _ u hu
    ·exact ho j u (by simpa using hu)
  ·intro i' j cc Hu;have key:∃u,(splice cs.toList (lo*sz) us)[i'*sz+j]? = some u/\Rd I u cc:=by
    have hget:(splice es lo ys).getD i' []=if i'<lo then es.getD i' []else if i'<lo+ys.length then ys.getD (i'-lo) []else es.getD i' []:=by
     simp only[bZ];rw[Tv _ _ _ _ hlo];split
     ·rfl
     ·split<;>rfl
    rw[hget]at Hu;rw[qH _ _ _ _ aii];by_cases h1:i'<lo
    ·rw[ahl h1]at Hu;obtain⟨u,hu,hr'⟩:=hrd i' j cc Hu;have hi':=l7 Hu;have hj:j<sz:=(by rw[<- hes (es.getD i' []) (by simp[bZ,ax hi'])];exact(aK.1 Hu).1);have:(i'+1)*sz<=lo*sz:=aQ _ h1;rw[cO]at this;exact⟨u,by rw[ahl (by omega)];simpa using hu,hr'⟩
    ·rw[ahk h1]at Hu;by_cases h2:i'<lo+ys.length
     ·rw[ahl h2]at Hu;obtain⟨u,hu,hr'⟩:=hd.rd (i'-lo) j cc Hu;have hyi:=l7 Hu;have hj:j<sz:=(by rw[<- hys (ys.getD (i'-lo) []) (by simp[bZ,ax hyi])];exact(aK.1 Hu).1);have e1:lo*sz<=i'*sz:=aQ _ (by omega);have e2:(i'-lo)*sz=i'*sz-lo*sz:=Nat.sub_mul _ _ _;have e3:(i'-lo+1)*sz<=ys.length*sz:=aQ _ (by omega);rw[cO]at e3;exact⟨u,by rw[ahk (by omega),ahl (by omega),<- hu];congr 1;omega,hr'⟩
     ·rw[ahk h2]at Hu;obtain⟨u,hu,hr'⟩:=hrd i' j cc Hu;have e1:(lo+ys.length)*sz<=i'*sz:=aQ _ (by omega);rw[cO]at e1;exact⟨u,by rw[ahk (by omega),ahk (by omega)];simpa using hu,hr'⟩
   obtain⟨u,hu,hr'⟩:=key;exact⟨u,by simpa using hu,hr'⟩
theorem Oq {α:Type}(xs:List α)(k:Nat)(h:k<=xs.length):splice xs k []=xs:=by simp[splice]
theorem agO (t t' ty e:TypeId)(i:TypeInfo)(ht:P.underlying t=some (.slice e))(hi:P.info? e=some i)(kk off m c:Nat)(cur:Array Value)(tg:TypeId)(hg:w.heap[kk]? = some (.cells cur tg (0,0)))
 (ad:Addr) (k c':Nat) (us:List Value) (hl:us.length=eY k m*i.size) (hus:∀j u,us[j]? = some u->w.cell? (ad.add j)=some u) (h1:∀u∈us,u.oneCell'=true) (hfit:off+us.length<=cur.size) :
 (mg #[t,t'] ty #[.slice (some ⟨kk,off,none⟩) m c,.slice (some ad) k c']).run P w = .ok (goInt (eY k m:Nat)) (w.setRow kk (splice cur.toList off us).toArray):=by
 have hf:=run_firstCells_some (P:=P) w i.size (eY k m) ad k c' us hl hus;have hst:=run_storeCells_at P kk off tg us 0 cur w hg (by simpa using hfit) h1;rw[zI]at hst;simp[mg,run_underlying ht,sizeOf,typeInfo,hi,rH,hf,hst]
theorem ag3 (h:GX E I ρ n st a w){v:Value}{x:AV}{sz m:Nat}{p:Prop}{ys:List (List Cell)}(hv:GV I ρ v x)(hs:yH sz (truncS m x) st.bx=some (p,ys))(hp:p) :
 ∃xb kx xc,v = .slice xb kx xc/\eY ys.length m=eY kx m/\Src I w (.slice xb ys.length xc) sz ys:=by
 have other:truncS m x=x->∃xb kx xc,v = .slice xb kx xc/\eY ys.length m=eY kx m/\Src I w (.slice xb ys.length xc) sz ys:=by intro e;rw[e]at hs;have hS:=src_ok h hv hs hp;obtain⟨b,cap,hvv,hr⟩:=hS;exact⟨b,ys.length,cap,hvv,rfl,b,cap,rfl,hr⟩
 rcases x with c|_|_
 ·cases c
  case sub b lo n' c sz'=>obtain⟨k,cap,ad,c',h1,h2,h3,h4,h5⟩:=hv;subst h2;have hg:GV I ρ (.slice ad (min n' m) c') (.one (.sub b lo (min n' m) c sz')):=⟨k,cap,ad,c',h1,rfl,by omega,h4,h5⟩;have hS:=src_ok h hg hs hp;obtain⟨b',cap',hvv,hr⟩:=hS;simp only[Value.slice.injEq]at hvv;obtain⟨rfl,e2,rfl⟩:=hvv;refine⟨ad,n',c',rfl,?_,ad,c',rfl,hr⟩;show min ys.length m=min n' m;omega
  all_goals exact other rfl
 all_goals exact other rfl
theorem agT {o:Oper}{sz:Nat}{d x:oW}(h:GX E I ρ n st a w)(hc:JI P n o.op sz d x=true)(hd:(d.ev st.tm).g=true)(hx:(x.ev st.tm).g=true)
 (jV:(Iq sz (dZ st.tm d) (dZ st.tm x) st.bx).vc):wE P E n o a w (st.uN (Iq sz (dZ st.tm d) (dZ st.tm x) st.bx).sets) (Iq sz (dZ st.tm d) (dZ st.tm x) st.bx).v:=by
 unfold JI at hc;split at hc
 ·rename_i d' x' t t' he;simp only[ah,ahm]at hc;obtain⟨⟨⟨c1,c2⟩,ht⟩,h0⟩:=hc;have g1:=nV h c1 hd;have g2:=nV h c2 hx;obtain⟨e,i,hte,hi,rfl⟩:=Dw ht;have fin:∀{v:Value} {w':World},(mg #[t,t'] o.type #[a.eval d',a.eval x']).run P w = .ok v w'->(execOp a.eval o).run P w = .ok (.value v) w':=by
   intro v w' hr;simp only[execOp,he,resolve,invoke,builtin,cZ,bQ,bn,lC,aZ,jH,hr]
  unfold Iq at jV⊢;split at jV
  ·rename_i b lo m c0 sz' hsb;split at jV
   ·rename_i p ys hsrc;split at jV
    ·rename_i Dn es hb;obtain⟨hp,rfl,rfl,hlo⟩:=jV;obtain⟨xb0,kx,xc0,aoq,hmk,hsrc'⟩:=ag3 h g2 hsrc hp;have hys:∀y,y∈ys->y.length=i.size:=(by obtain⟨_,_,_,_,h4,_⟩:=hsrc';exact h4);obtain⟨xb,xc,us,hxv,Nb,hus,hxn,hdx⟩:=Ou hsrc' h0;cases hxv;obtain⟨kk,cap,ad0,c,hr0,hsv,hnc,hcc,_,hcap⟩:=NT g1 hsb;by_cases hm0:eY ys.length m=0
     ·have hr:=J8 (P:=P) (w:=w) t t' o.type e i hte hi ad0 m c xb0 kx xc0 (hmk.symm.trans hm0);rw[<- aoq,<- hsv]at hr;have htk:ys.take m=[]:=by
       apply fO;rw[gW,Ee];exact hm0
      rw[htk,Oq _ _ hlo];refine⟨_,w,I,ρ,.inl (fin hr),?_,λ_=>by rw[hm0];exact BN _ _⟩;show GX E I ρ n (st.zH b (.dat i.size es)) a w;rw[O1 hb];exact h
     ·have hmin:eY ys.length m<=ys.length/\eY ys.length m<=m:=⟨Nat.min_le_left _ _,Nat.min_le_right _ _⟩;have Qb:=hcap (.inl (by omega));subst Qb;obtain⟨ad,had⟩:∃ad,xb0=some ad:=by
       cases hq:xb0 with
       |none=>have:=hxn hq;subst this;exact al7 rfl hm0
       |some ad=>exact⟨ad,rfl⟩
      subst had;have htl:(ys.take m).length=eY ys.length m:=(by rw[gW,Ee]);have hmul:eY ys.length m*i.size<=ys.length*i.size:=aQ _ hmin.1;have hul:(us.take (eY ys.length m*i.size)).length=eY ys.length m*i.size:=(by simp;omega);have hdt:DC I (us.take (eY ys.length m*i.size)) i.size (ys.take m):=by
       refine⟨λj u hu=>?_,λi' j cc Hu=>?_⟩
       ·rw[cu]at hu;split at hu
        ·exact hdx.one _ u hu
        ·cases hu
       ·have hi':=l7 Hu;rw[htl]at hi';have amL:(ys.getD i' [])[j]? = some cc:=by
         rw[<- Hu];congr 1;simp only[bZ];rw[cu,ahl (by omega)]
        obtain⟨u,hu,hr⟩:=hdx.rd i' j cc amL;have hyi:=l7 amL;have hj:j<i.size:=(by rw[<- hys (ys.getD i' []) (by simp[bZ,ax hyi])];exact(aK.1 amL).1);have:(i'+1)*i.size<=eY ys.length m*i.size:=aQ _ hi';rw[cO]at this;exact⟨u,by rw[cu,ahl (by omega)];exact hu,hr⟩
      obtain⟨cs,tg,hw,hs,hg⟩:=aaj h hb hr0 h0 hlo (ys:=ys.take m) (us:=us.take (eY ys.length m*i.size)) (by rw[htl];omega) (by omega) (λy hy=>hys y (fD hy)) (by rw[hul,htl]) hdt;have QZ:(lo+eY ys.length m)*i.size<=cap*i.size:=aQ _ (by omega);rw[cO]at QZ;have hr:=agO (P:=P) (w:=w) t t' o.type e i hte hi kk (lo*i.size) m c cs tg hw ad kx xc0 (us.take (eY ys.length m*i.size)) (hmk▸hul)
       (λj u hu=>by
        rw[cu]at hu;split at hu
        ·exact hus ad rfl j u hu
        ·cases hu)
       (λu hu=>by obtain⟨j,hj⟩:=uY (fD hu);exact hdx.one j u hj) (by rw[hul,hs];exact QZ)
      rw[<- aoq,<- hsv]at hr;exact⟨_,_,I,ρ,.inl (fin hr),hg,λ_=>by rw[<- hmk];exact BN _ _⟩
    ·exact jV.elim
   ·exact jV.elim
  ·exact jV.elim
 ·cases hc
def QO (P:Program)(n:Nat)(op:Op)(sz:Nat)(zs:List Cell)(x:oW):Bool:=
 match op with
 | .call { callee:=.builtin .clear,args:=⟨[x']⟩,argTypes:=⟨[t]⟩ }=>kW n x' x&&decide (0<sz)&&zs.length==sz&&(match P.underlying t with
   |some (.slice e)=>(match P.info? e with|some i=>i.size==sz&&(match i.zero with|some z=>z.cells.size==sz&&MG z.cells.toList zs|none=>false)|none=>false)
   |_=>false)
 |_=>false
theorem Uo {zs:List Cell}{z:Array Value}{sz m:Nat}(hz:MG z.toList zs=true)(hzs:z.size=sz)(hl:zs.length=sz)(h0:0<sz) :
 (bK z m).toList.length=m*sz/\DC I (bK z m).toList sz (bC m zs):=by
 have hsz:(bK z m).size=m*sz:=by simp[bK,hzs]
 refine⟨by simpa using hsz,?_⟩;have rc:=Ud (I:=I) (N:=m*sz) (m:=m) hz hl h0 (aA _) (cs:=(vC (m*sz)).map (z[· % z.size]!)) rfl;have he:(bK z m)=(vC (m*sz)).map (z[· % z.size]!):=by unfold bK;rw[hzs]
 rw[he];exact⟨λj u hu=>rc.1 j u (by rw[wG]at hu;exact hu),λi' j c hc=>by obtain⟨u,hu,hr⟩:=rc.2 i' j c hc;exact⟨u,by rw[wG];exact hu,hr⟩⟩
theorem agS {o:Oper}{sz:Nat}{zs:List Cell}{x:oW}(h:GX E I ρ n st a w)(hc:QO P n o.op sz zs x=true)(hx:(x.ev st.tm).g=true)
 (jV:(Ip sz zs (dZ st.tm x) st.bx).vc):wE P E n o a w (st.uN (Ip sz zs (dZ st.tm x) st.bx).sets) (Ip sz zs (dZ st.tm x) st.bx).v:=by
 unfold QO at hc;split at hc
 ·rename_i x' t he;simp only[ah,ahm,akg]at hc;obtain⟨⟨⟨c1,h0⟩,hzl⟩,ht⟩:=hc;have g1:=nV h c1 hx;split at ht
  ·rename_i e hte;split at ht
   ·rename_i i hi;simp only[ah,akg]at ht;obtain⟨hisz,hz⟩:=ht;split at hz
    ·rename_i z hzero;simp only[ah,akg]at hz;obtain⟨hzs,hzd⟩:=hz;have fin:∀{v:Value} {w':World},(Ep #[t] o.type #[a.eval x']).run P w = .ok v w'->(execOp a.eval o).run P w = .ok (.value v) w':=by
      intro v w' hr;simp only[execOp,he,resolve,invoke,builtin,cZ,bQ,bn,lC,aZ,jH,hr]
     unfold Ip at jV⊢;split at jV
     ·rename_i b lo m c0 sz' hsb;split at jV
      ·rename_i Dn es hb;obtain⟨rfl,rfl,hlo⟩:=jV;obtain⟨kk,cap,ad0,c,hr0,hsv,hnc,hcc,_,hcap⟩:=NT g1 hsb;have aoo:∀{ρ':Ren},GV I ρ' (.tuple #[]) (.zi []):=λ{ρ'}=>⟨#[],rfl,rfl,λj v p hv hp=>by simp at hp⟩;by_cases hm0:m=0
       ·subst hm0;rw[List.replicate_zero,Oq _ _ hlo];refine⟨.tuple #[],w,I,ρ,.inl (fin ?_),?_,λ_=>aoo⟩
        ·rw[hsv];cases ad0<;>simp[Ep,run_underlying hte]
        ·show GX E I ρ n (st.zH b (.dat Dn es)) a w;rw[O1 hb];exact h
       ·have Qb:=hcap (.inl (by omega));subst Qb;obtain⟨amW,ak2⟩:=Uo (I:=I) (m:=m) hzd hzs hzl h0;obtain⟨cs,tg,hw,hs,hg⟩:=aaj h hb hr0 h0 hlo (ys:=bC m zs) (us:=(bK z.cells m).toList) (by simp;omega) (by omega) (λy hy=>by rw[ve hy,hzl]) (by simpa using amW) ak2;have QZ:(lo+m)*Dn<=cap*Dn:=aQ _ (by omega);rw[cO]at QZ;have hst:=run_storeCells_at P kk (lo*Dn) tg (bK z.cells m).toList 0 cs w hw (by rw[amW];simpa[hs]using QZ) (λu hu=>by obtain⟨j,hj⟩:=uY hu;exact ak2.one j u hj);rw[zI]at hst;obtain⟨m',rfl⟩:∃m',m=m'+1:=⟨m-1,by omega⟩;refine⟨.tuple #[],_,I,ρ,.inl (fin ?_),hg,λ_=>aoo⟩;rw[hsv];simp[Ep,run_underlying hte,zeroValue,typeInfo,hi,hzero,hst]
      ·exact jV.elim
     ·exact jV.elim
    ·cases hz
   ·cases ht
  ·cases ht
 ·cases hc
theorem Yc (t ty e tg:TypeId)(i:TypeInfo)(ht:P.underlying t=some (.slice e))(hi:P.info? e=some i)
 (g off sLen sCap:Nat) (cur:Array Value) (hg:w.heap[g]? = some (.cells cur tg (0,0)))
 (ad:Addr) (m c:Nat) (news:List Value) (hl:news.length=m*i.size) (hnews:∀j u,news[j]? = some u->w.cell? (ad.add j)=some u) (h1:∀u∈news,u.oneCell'=true)
 (hroom:sLen+m<=sCap) (hfit:off+sLen*i.size+news.length<=cur.size) :
 (gY #[t,t] ty #[.slice (some ⟨g,off,none⟩) sLen sCap,.slice (some ad) m c]).run P w =
  .ok (.slice (some ⟨g,off,none⟩) (sLen+m) sCap) (w.setRow g (splice cur.toList (off+sLen*i.size) news).toArray):=by
 have hf:=run_firstCells_some (P:=P) w i.size m ad m c news hl hnews;have hst:=run_storeCells_at P g (off+sLen*i.size) tg news 0 cur w hg (by simpa using hfit) h1;rw[zI]at hst;simp[gY,run_underlying ht,sizeOf,typeInfo,hi,rH,hroom,hf,Addr.tJ,hst]
theorem agR {o:Oper}{l sz bytes:Nat}{s x:oW}(h:GX E I ρ n st a w)(hc:Fa P n o.op sz bytes s x=true)(hm:E.m<=l)(hs:(s.ev st.tm).g=true)(hx:(x.ev st.tm).g=true)
 (jV:(Io l sz bytes (dZ st.tm s) (dZ st.tm x) st.bx).vc):wE P E n o a w (st.uN (Io l sz bytes (dZ st.tm s) (dZ st.tm x) st.bx).sets) (Io l sz bytes (dZ st.tm s) (dZ st.tm x) st.bx).v:=by
 unfold Fa at hc;split at hc
 ·rename_i s' x' t t' he;simp only[ah,akg,ahm]at hc;obtain⟨⟨⟨⟨c1,c2⟩,rfl⟩,h0⟩,ht⟩:=hc;have g1:=nV h c1 hs;have g2:=nV h c2 hx;split at ht
  ·rename_i e hte;split at ht
   ·rename_i i hi;simp only[ah,akg]at ht;obtain⟨⟨rfl,rfl⟩,hz⟩:=ht;split at hz
    ·rename_i z hzero;simp only[ah,akg]at hz;obtain⟨hzs,hz1⟩:=hz;have fin:∀{v:Value} {w':World},(gY #[t,t] o.type #[a.eval s',a.eval x']).run P w = .ok v w'->(execOp a.eval o).run P w = .ok (.value v) w':=by
      intro v w' hr;simp only[execOp,he,resolve,invoke,builtin,cZ,bQ,bn,lC,aZ,jH,hr]
     unfold Io at jV⊢;split at jV
     ·rename_i p ys b lo m c sz' hsrc e1;split at jV
      ·rename_i Dn es hb;obtain⟨kk,cap,ad0,c',hr0,hsv,hnc,hcc,hcx,hcap⟩:=NT (c:=some c) (b:=b) (lo:=lo) (m:=m) (sz:=sz') g1 (by rw[e1];rfl);have:=hcx c rfl;subst this;split at jV
       ·rename_i hroom;rw[ahl hroom];obtain⟨hp,rfl,rfl,hlo⟩:=jV;have hsrc':=src_ok h g2 hsrc hp;have hys:∀y,y∈ys->y.length=i.size:=(by obtain⟨_,_,_,_,h4,_⟩:=hsrc';exact h4);obtain⟨xb,xc,us,hxv,Nb,hus,hxn,hdx⟩:=Ou hsrc' h0;by_cases hm0:ys.length=0
        ·have hy0:ys=[]:=fO hm0;subst hy0;rw[Oq _ _ hlo];have hr:=Ic (P:=P) (w:=w) t o.type e i hte hi ad0 m c' hnc xb xc;rw[iy]at hxv;rw[<- hxv,<- hsv]at hr;refine⟨_,w,I,ρ,.inl (fin hr),?_,λ_=>⟨kk,cap,ad0,c',hr0,hsv,by simpa using hnc,hcc,(λc0 hc0=>by cases hc0;rfl),hcap⟩⟩;show GX E I ρ n (st.zH b (.dat i.size es)) a w;rw[O1 hb];exact h
        ·have Qb:=hcap (.inl (by omega));subst Qb;obtain⟨ad,had⟩:∃ad,xb=some ad:=by
          cases hq:xb with
          |none=>exact al7 (by rw[hxn hq];rfl) hm0
          |some ad=>exact⟨ad,rfl⟩
         subst had;obtain⟨cs,tg,hw,hss,hg⟩:=aaj h hb hr0 h0 hlo (ys:=ys) (us:=us) (by omega) (by omega) hys Nb hdx;have QZ:(lo+m+ys.length)*i.size<=cap*i.size:=aQ _ (by omega);simp only[cO]at QZ;have hr:=Yc (P:=P) (w:=w) t o.type e tg i hte hi kk (lo*i.size) m c' cs hw ad ys.length xc us Nb (hus ad rfl) (λu hu=>by obtain⟨j,hj⟩:=uY hu;exact hdx.one j u hj) hroom (by rw[Nb,hss];exact QZ);rw[<- hxv,<- hsv,<- cO]at hr;exact⟨_,_,I,ρ,.inl (fin hr),hg,λ_=>⟨kk,cap,_,c',hr0,rfl,hroom,hcc,(λc0 hc0=>by cases hc0;rfl),λ_=>rfl⟩⟩
       ·rename_i hroom;rw[ahk hroom];obtain⟨hp,rfl,rfl,hlo,hl,hbig⟩:=jV;have hsrc':=src_ok h g2 hsrc hp;have hys:∀y,y∈ys->y.length=i.size:=(by obtain⟨_,_,_,_,h4,_⟩:=hsrc';exact h4);obtain⟨xb,xc,us,hxv,Nb,hus,hxn,hdx⟩:=Ou hsrc' h0;have hok:=h.bx.ok b;rw[hb]at hok;obtain⟨kk',cap',hr',hle,hcm,hes,hcs⟩:=hok;rw[hr0]at hr';simp only[aC,bI]at hr';obtain⟨rfl,rfl⟩:=hr';have hmul:(m+ys.length)*(i.bytes+i.size+1)=(m+ys.length)*i.bytes+(m+ys.length)*i.size+(m+ys.length):=(by rw[zW,zW,wJ]);have hbytes:(m+ys.length)*i.bytes<=140737488355328:=(by omega);have h63:m+ys.length<=maxLen:=(by simp only[maxLen];omega);have hm0:ys.length≠0:=(by omega);obtain⟨ad,had⟩:∃ad,xb=some ad:=by
         cases hq:xb with
         |none=>exact al7 (by rw[hxn hq];rfl) hm0
         |some ad=>exact⟨ad,rfl⟩
        subst had;have hzc:∀(q:Nat) (j:Nat) (u:Value),(bK z.cells q).toList[j]? = some u->u.oneCell'=true:=by
         intro q j u hu;simp only[bK,wG,pO]at hu;by_cases hj:j<q*z.cells.size
         ·rw[qi,ahl hj]at hu;simp only[iR,aC]at hu;have hlt:j%z.cells.size<z.cells.size:=wo _ (by omega);rw[getElem!_pos z.cells _ hlt]at hu;rw[<- hu];exact aP.1 hz1 _ (by simp)
         ·rw[qi,ahk hj]at hu;cases hu
        have hl':=Ky hl;have hsub:∀y,y∈(es.drop lo).take m->y.length=i.size:=λy hy=>hes y (kN (fD hy));have hsl:((es.drop lo).take m).length=m:=(by simp;omega);have fresh:∀(old:Nat) (olds:List Value),old<m+ys.length->olds.length=m*i.size->DC I olds i.size ((es.drop lo).take m) ->
         GX E I (ρ.set l w.heap.size (grownCap w (m+ys.length) old e)) n (st.zH l (.dat i.size ((es.drop lo).take m++ys))) a
          (w.drew.alloc (.cells (olds.toArray++us.toArray++bK z.cells (grownCap w (m+ys.length) old e-(m+ys.length))) e)):=by
         intro old olds ho hol hdo;have hge:=grownCap_ge w (m+ys.length) old e;have hcm:grownCap w (m+ys.length) old e<=maxLen:=grownCap_le_maxLen w _ old e h63;have hdc:=((hdo.append hdx (by rw[hsl];exact hol)).more (hzc (grownCap w (m+ys.length) old e-(m+ys.length)))).afk (cs:=olds.toArray++us.toArray++bK z.cells (grownCap w (m+ys.length) old e-(m+ys.length))) (by simp);refine OV h.drew hl' hm _ e _ i.size ((es.drop lo).take m++ys) ?_ (by rw[bD,hsl];exact hge) hcm (λx hx=>?_) hdc.1 hdc.2
         ·simp only[yt,oI,size_zeroCells,hzs,hol,Nb,<- cO]
          congr 1
          omega
         ·rcases aY.1 hx with h1|h1
          ·exact hsub x h1
          ·exact hys x h1
        have hfit:=growslice_fits (need:=m+ys.length) (old:=c') (bytes:=i.bytes) (by omega) hbytes;by_cases hc0:c'=0
        ·
         have amT:m=0:=(by omega);subst amT;subst hc0;have hf:=fresh 0 [] (by omega) (by simp) ⟨by simp,by simp⟩;simp only[eU,uz]at hf h63 hbytes hfit;cases ad0 with
         | none=>have hr:=run_append_nil (P:=P) w t o.type e i z hte hi hzero ad ys.length xc us Nb (hus ad rfl) (by omega) (by simp only[maxLen]at h63;omega) (by omega);rw[<- hxv,<- hsv]at hr;refine⟨_,_,I,_,.inl (fin hr),hf,λ_=>⟨w.heap.size,_,_,_,Ren.oN _ _ _ _,by rw[eU],by rw[eU];exact grownCap_ge w ys.length 0 e,aA _,λ_=>rfl⟩⟩
         | some q=>have hr:=run_append_grow (P:=P) w t o.type e i z hte hi hzero q 0 0 [] (by simp) (by simp) ad ys.length xc us Nb (hus ad rfl) (by omega) (by simp only[maxLen]at h63;omega) (by simpa using hfit);rw[<- hxv,<- hsv]at hr;simp only[eU,uz]at hr;refine⟨_,_,I,_,.inl (fin hr),hf,λ_=>⟨w.heap.size,_,_,_,Ren.oN _ _ _ _,by rw[eU],by rw[eU];exact grownCap_ge w ys.length 0 e,aA _,λ_=>rfl⟩⟩
        ·have Qb:=hcap (.inl hc0);subst Qb;have hcap0:cap≠0:=(by omega);obtain⟨cs,tg,hw,hss,ho,hrd⟩:=hcs hcap0;have hmn:(lo+m)*i.size<=cs.size:=(by rw[hss];exact aQ _ (by omega));rw[cO]at hmn;have abo:((cs.toList.drop (lo*i.size)).take (m*i.size)).length=m*i.size:=(by simp;omega);have holds:∀(j:Nat) (u:Value),((cs.toList.drop (lo*i.size)).take (m*i.size))[j]? = some u->w.cell? ((⟨kk,lo*i.size,none⟩:Addr).add j)=some u:=λj u hu=>by
          rw[cu]at hu;split at hu
          ·rw[Addr.tJ];rw[fV]at hu;simp at hu;simp[gI,hw,hu]
          ·cases hu
         have hd1:DC I ((cs.toList.drop (lo*i.size)).take (m*i.size)) i.size ((es.drop lo).take m):=by
          refine⟨λj u hu=>?_,λi' j c2 hc2=>?_⟩
          ·rw[cu]at hu;split at hu
           ·rw[fV]at hu;exact ho _ u (by simpa using hu)
           ·cases hu
          ·have hi':=l7 hc2;rw[hsl]at hi';have hc3:(es.getD (lo+i') [])[j]? = some c2:=by
            rw[<- hc2];congr 1;simp only[bZ];rw[cu,ahl hi',fV]
           obtain⟨u,hu,hr⟩:=hrd (lo+i') j c2 hc3;have hi2:=l7 hc3;have hj:j<i.size:=(by rw[<- hes (es.getD (lo+i') []) (by simp[bZ,ax hi2])];exact(aK.1 hc3).1);have:(i'+1)*i.size<=m*i.size:=aQ _ hi';rw[cO]at this;refine⟨u,?_,hr⟩;rw[cu,ahl (by omega),fV];rw[cO]at hu;rw[<- sU];simpa using hu
         have hr:=run_append_grow (P:=P) w t o.type e i z hte hi hzero ⟨kk,lo*i.size,none⟩ m c' _ abo holds ad ys.length xc us Nb (hus ad rfl) (by omega) (by simp only[maxLen]at h63;omega) hfit;rw[<- hxv,<- hsv]at hr;have hf:=fresh c' _ (by omega) abo hd1;exact⟨_,_,I,_,.inl (fin hr),hf,λ_=>⟨w.heap.size,_,_,_,Ren.oN _ _ _ _,rfl,grownCap_ge w _ c' e,aA _,λ_=>rfl⟩⟩
      ·exact jV.elim
     ·exact jV.elim
    ·cases hz
   ·cases ht
  ·cases ht
 ·cases hc
end
end
section
section
variable {P:Program} {E:Env P} {I:IH} {ρ:Ren} {n:Nat} {st:fH} {a:Act} {w:World}
theorem ags : wH.lookup "internal/bytealg.abigen_runtime_cmpstring" = none:=by kernel_rfl
theorem agt : xK.lookup "internal/bytealg.abigen_runtime_cmpstring" = none:=by kernel_rfl
theorem agu : yC.lookup "internal/bytealg.abigen_runtime_cmpstring" = none:=by kernel_rfl
theorem agv : Es.lookup "internal/bytealg.abigen_runtime_cmpstring" = some Extern.BytealgCompare.compare:=by kernel_rfl
theorem aiQ : wH.lookup "" = none:=by kernel_rfl
theorem aiR : wH.lookup "slices.overlaps" = none:=by kernel_rfl
theorem aiS : xK.lookup "slices.overlaps" = none:=by kernel_rfl
theorem aiT : yC.lookup "slices.overlaps" = some xX:=by kernel_rfl
def Zh (P:Program)(n:Nat)(op:Op)(x y:oW):Bool:=
 match op with
 |.call { callee:=.value (.func f),args:=⟨[x',y']⟩,argTypes:=_ }=>kW n x' x&&kW n y' y&&(match P.funcs[f]? with|some fn=>fn.name == "internal/bytealg.abigen_runtime_cmpstring" && fn.origin == "" && fn.body.isNone|none=>false)
 |_=>false
theorem afY {o:Oper}{x y:oW}(h:GX E I ρ n st a w)(hc:Zh P n o.op x y=true)(hx:(x.ev st.tm).g=true)(hy:(y.ev st.tm).g=true)
 (jV:(QS (dZ st.tm x) (dZ st.tm y)).vc):wZ P E n o a w st (QS (dZ st.tm x) (dZ st.tm y)).v:=by
 unfold Zh at hc;split at hc
 ·rename_i f x' y' ts he;simp only[ah]at hc;obtain⟨⟨c1,c2⟩,hf⟩:=hc;have g1:=nV h c1 hx;have g2:=nV h c2 hy;split at hf
  ·rename_i fn hfn;simp only[ah,akg]at hf;obtain⟨⟨hname,YB⟩,hbody⟩:=hf;have hn:vN fn=none:=by
    simp only[vN,hname,YB,ags,aiQ];rfl
   have hd:xY fn=some Extern.BytealgCompare.compare:=by simp only[xY,hname,agt,agu,agv];rfl
   unfold QS at jV⊢;split at jV
   ·rename_i s t e1 e2;rw[e1]at g1;rw[e2]at g2;obtain⟨v1,_⟩:=JZ g1;obtain⟨v2,_⟩:=JZ g2;have hr:=run_callFunc_extern (P:=P) hfn (by rw[hname];rfl) hbody hn hd #[.string ⟨⟨s⟩⟩,.string ⟨⟨t⟩⟩] w;rw[Lib.run_compareString]at hr;refine wE.val h (v:=.int .i64 (jO s t)) ?_ (BN _ _);have hx2:a.eval (.func f) = .func (.func f) #[] #[]:=rfl;simp only[execOp,he,resolve,zT,invoke,cZ,bQ,bn,hx2,lC,aZ,jH,v1,v2];simpa using hr
   ·exact jV.elim
  ·cases hf
 ·cases hc
def V8 (P:Program)(n:Nat)(op:Op)(ng:Bool)(x:oW):Bool:=
 match op with
 |.binOp b t x' (.const .nilIface) _=>(match b with|.eql=> !ng|.neq=>ng|_=>false)&&(match P.underlying t with|some (.interface _)=>true|_=>false)&&kW n x' x
 |_=>false
theorem adM {o:Oper}{ng:Bool}{x:oW}(h:GX E I ρ n st a w)(hc:V8 P n o.op ng x=true)(hx:(x.ev st.tm).g=true)
 (jV:(LK ng (dZ st.tm x)).vc):wZ P E n o a w st (LK ng (dZ st.tm x)).v:=by
 unfold V8 at hc;split at hc
 ·rename_i b t x' t' he;simp only[ah]at hc;obtain⟨⟨hb,ht⟩,h1⟩:=hc;have g1:=nV h h1 hx;unfold LK at jV⊢;split at jV
  ·rename_i g e1;rw[e1]at g1;have g1:if g=true then ∃t p,a.eval x' = .iface t p else a.eval x' = .nilIface:=g1
   split at ht
   ·rename_i ms hu;have ev:a.eval (.const .nilIface) = .nilIface:=rfl;have hq:(eqGuard b t x' (.const .nilIface) (a.eval x') .nilIface).run P w = .ok () w:=by
     cases g with
     | true=>obtain⟨t1,p1,g1⟩:=g1;rw[g1];cases b<;>rfl
     | false=>have g1:a.eval x' = .nilIface:=g1;rw[g1];cases b<;>cases x'<;>first|rfl|simp[eqGuard]
    have hd:∀d,(AP (d+1) t (a.eval x') .nilIface).run P w = .ok (!g) w:=λd=>by
     cases g with
     | true=>obtain⟨t1,p1,g1⟩:=g1;rw[g1];simp[AP,run_underlying hu]
     | false=>have g1:a.eval x' = .nilIface:=g1;rw[g1];simp[AP,run_underlying hu]
    have he':(Op.equal t (a.eval x') .nilIface).run P w = .ok (!g) w:=hd 9999;have aoa:∀c,(c = .eql\/c = .neq)->(binOp c t (a.eval x') .nilIface).run P w = .ok (.bool (if c = .neq then g else !g)) w:=λc hc=>by
     cases g with
     | true=>obtain⟨t1,p1,g1⟩:=g1;rw[g1]at he'⊢;rcases hc with rfl|rfl<;>simp[binOp,he']
     | false=>have g1:a.eval x' = .nilIface:=g1;rw[g1]at he'⊢;rcases hc with rfl|rfl<;>simp[binOp,he']
    simp only[FR.ok];cases b<;>simp at hb
    ·subst hb;refine wE.val h ?_ (JR _);simp[execOp,he,ev,hq,aoa .eql (.inl rfl)]
    ·subst hb;refine wE.val h ?_ (JR _);simp[execOp,he,ev,hq,aoa .neq (.inr rfl)]
   ·cases ht
  ·exact jV.elim
 ·cases hc
theorem agw : wH.lookup "internal/bytealg.IndexByteString" = none:=by kernel_rfl
theorem agx : xK.lookup "internal/bytealg.IndexByteString" = none:=by kernel_rfl
theorem agy : yC.lookup "internal/bytealg.IndexByteString" = none:=by kernel_rfl
theorem agz : Es.lookup "internal/bytealg.IndexByteString" = some Extern.BytealgIndexByte.indexByte:=by kernel_rfl
def Zj (P:Program)(n:Nat)(op:Op)(x y:oW):Bool:=
 match op with
 |.call { callee:=.value (.func f),args:=⟨[x',y']⟩,argTypes:=_ }=>kW n x' x&&kW n y' y&&(match P.funcs[f]? with|some fn=>fn.name == "internal/bytealg.IndexByteString" && fn.origin == "" && fn.body.isNone|none=>false)
 |_=>false
theorem agk {o:Oper}{x y:oW}(h:GX E I ρ n st a w)(hc:Zj P n o.op x y=true)(hx:(x.ev st.tm).g=true)(hy:(y.ev st.tm).g=true)
 (jV:(Q5 (dZ st.tm x) (dZ st.tm y)).vc):wZ P E n o a w st (Q5 (dZ st.tm x) (dZ st.tm y)).v:=by
 unfold Zj at hc;split at hc
 ·rename_i f x' y' ts he;simp only[ah]at hc;obtain⟨⟨c1,c2⟩,hf⟩:=hc;have g1:=nV h c1 hx;have g2:=nV h c2 hy;split at hf
  ·rename_i fn hfn;simp only[ah,akg]at hf;obtain⟨⟨hname,YB⟩,hbody⟩:=hf;have hn:vN fn=none:=by
    simp only[vN,hname,YB,agw,aiQ];rfl
   have hd:xY fn=some Extern.BytealgIndexByte.indexByte:=by simp only[xY,hname,agx,agy,agz];rfl
   unfold Q5 at jV⊢;split at jV
   ·rename_i s k c e1 e2;rw[e1]at g1;rw[e2]at g2;have hk:k = .u8:=jV;subst hk;obtain⟨v1,_⟩:=JZ g1;have v2:=yR g2;have hr:=run_callFunc_extern (P:=P) hfn (by rw[hname];rfl) hbody hn hd #[.string ⟨⟨s⟩⟩,.int .u8 c] w;rw[Lib.run_indexByteString]at hr;refine wE.val h (v:=.int .i64 (wO s c.toNat.toUInt8)) ?_ (BN _ _);have hx2:a.eval (.func f) = .func (.func f) #[] #[]:=rfl;simp only[execOp,he,resolve,zT,invoke,cZ,bQ,bn,hx2,lC,aZ,jH,v1,v2];simpa using hr
   ·exact jV.elim
  ·cases hf
 ·cases hc
def adh (P:Program)(n:Nat)(op:Op)(x y:oW):Bool:=
 match op with
 | .call { callee:=.value (.func f),args:=⟨[x',y']⟩,argTypes:=_ }=>kW n x' x&&kW n y' y&&(match P.funcs[f]? with
   | some fn=>fn.origin == "slices.overlaps" && fn.body.isNone && !(fn.name == "runtime.NumGoroutine")&&(wH.lookup fn.name).isNone&&(xK.lookup fn.name).isNone&&(yC.lookup fn.name).isNone&&(Es.lookup fn.name).isNone &&
     (match fn.params,fn.resultTypes with
      |⟨[t,t']⟩,⟨[_]⟩=>t==t'&&(match P.underlying t with|some (.slice e)=>(match P.info? e with|some _=>true|none=>false)|_=>false)
      |_,_=>false)
   |none=>false)
 |_=>false
theorem ahN (h:GX E I ρ n st a w){b kk cap sz:Nat}{es:List (List Cell)}(hb:st.bx b = .dat sz es)(hr:ρ b=some (kk,cap))(hc0:cap≠0):∃cs tg,w.heap[kk]? = some (.cells cs tg (0,0))/\cs.size=cap*sz:=by have hok:=h.bx.ok b;rw[hb]at hok;obtain⟨kk',cap',hr',hle,hcm,hes,hcs⟩:=hok;rw[hr]at hr';simp only[aC,bI]at hr';obtain⟨rfl,rfl⟩:=hr';obtain⟨cs,tg,hw,hs,_⟩:=hcs hc0;exact⟨cs,tg,hw,hs⟩
theorem ajh {o:Oper}{x y:oW}(h:GX E I ρ n st a w)(hc:adh P n o.op x y=true)(hx:(x.ev st.tm).g=true)(hy:(y.ev st.tm).g=true)
 (jV:(ZZ (dZ st.tm x) (dZ st.tm y) st.bx).vc):wZ P E n o a w st (ZZ (dZ st.tm x) (dZ st.tm y) st.bx).v:=by
 unfold adh at hc;split at hc
 ·rename_i f x' y' ts he;simp only[ah]at hc;obtain⟨⟨c1,c2⟩,hf⟩:=hc;have g1:=nV h c1 hx;have g2:=nV h c2 hy;split at hf
  ·rename_i fn hfn;simp only[ah,akg,kH,uZ]at hf;obtain⟨⟨⟨⟨⟨⟨⟨YB,hbody⟩,hname⟩,n1⟩,n2⟩,n3⟩,n4⟩,hp⟩:=hf;split at hp
   ·rename_i t t' tr hpar hres;simp only[ah,akg]at hp;obtain⟨rfl,ht⟩:=hp;split at ht
    ·rename_i e hte;split at ht
     ·rename_i i hi;have hn:vN fn=none:=by
       simp only[vN,YB,n1,aiR];rfl
      have hd:xY fn=some (xX #[t,t] #[tr]):=by simp only[xY,YB,n2,n3,n4,aiS,aiT,hpar,hres];rfl
      unfold ZZ at jV⊢;split at jV
      ·rename_i b lo m c sz b' lo' m' c' sz' e1 e2;obtain⟨kk,cap,ad,cc,hr,hv,hm,hcc,_,ha⟩:=NT g1 e1;obtain⟨kk',cap',ad',cc',hr',hv',hm',Hu,_,ha'⟩:=NT g2 e2;split at jV
       ·rename_i s1 es s2 es' hb hb';obtain⟨hbb,hs2,hm0,aqO⟩:b≠b'/\s2≠0/\0<m/\0<m':=jV;have hov:(xX #[t,t] #[tr] #[.slice ad m cc,.slice ad' m' cc']).run P w = .ok (.bool false) w:=by
         obtain⟨cs,tg,hw,hs⟩:=ahN h hb hr (by omega);obtain⟨cs',tg',hw',hs'⟩:=ahN h hb' hr' (by omega);have e1:=ha (.inl (by omega));have e2:=ha' (.inl (by omega));subst e1 e2;have hne:kk≠kk':=λhk=>hbb (by subst hk;exact h.bx.inj b b' kk (by rw[hb];exact⟨cap,hr,by omega⟩) (by rw[hb'];exact⟨cap',hr',by omega⟩))
         have h0:cs'.size≠0:=(by rw[hs'];exact Nat.mul_ne_zero (by omega) hs2);exact Lib.run_overlaps_apart w t tr e hte i.size (λw=>by simp[sizeOf,typeInfo,hi]) ⟨kk,lo*sz,none⟩ ⟨kk',lo'*sz',none⟩ m cc m' cc' hne tg tg' cs.size cs'.size
          (by simp[BV,hw]) (by simp[BV,hw']) h0 (by simp[World.frozen?,hw]) (by simp[World.frozen?,hw])
        have hr:=run_callFunc_extern (P:=P) hfn hname (by simpa using hbody) hn hd #[.slice ad m cc,.slice ad' m' cc'] w;rw[hov]at hr;refine wE.val h (v:=.bool false) ?_ (JR _);have hx2:a.eval (.func f) = .func (.func f) #[] #[]:=rfl;simp only[execOp,he,resolve,zT,invoke,cZ,bQ,bn,hx2,lC,aZ,jH,hv,hv'];simpa using hr
       ·exact jV.elim
      ·exact jV.elim
     ·cases ht
    ·cases ht
   ·cases hp
  ·cases hf
 ·cases hc
end
end
section
section
variable {P:Program} {E:Env P} {I:IH} {ρ:Ren} {n:Nat} {st:fH} {a:Act} {w:World}
def QJ (P:Program)(n:Nat)(op:Op)(sz bytes:Nat)(zs:List Cell)(s x:oW):Bool:=
 match op with
 | .call { callee:=.builtin .append,args:=⟨[s',x']⟩,argTypes:=⟨[t,t']⟩ }=>kW n s' s&&kW n x' x&&decide (0<sz)&&zs.length==sz&&(match P.underlying t' with|some (.int _)=>true|_=>false)&&(match P.underlying t with
   |some (.slice e)=>(match P.info? e with|some i=>i.size==sz&&i.bytes==bytes&&(match i.zero with|some z=>z.cells.size==sz&&MG z.cells.toList zs&&z.cells.toList.all (·.oneCell')|none=>false)|none=>false)
   |_=>false)
 |_=>false
theorem Xt (t u ty e:TypeId)(ku:IntKind)(i:TypeInfo)(z:Value)(ht:P.underlying t=some (.slice e))(hu:P.underlying u=some (.int ku))(hi:P.info? e=some i)(hz:i.zero=some z)
 (b:Option Addr) (sLen sCap:Nat) (olds:List Value) (hlo:olds.length=sLen*i.size) (hb0:b=none->sLen=0) (holds:∀ad,b=some ad->∀j v,olds[j]? = some v->w.cell? (ad.add j)=some v)
 (q:Nat) (hq:(q:Int)*i.bytes<=140737488355328) (h62:q<2^60) (hqp:0<q) (hs0:0<i.size)
 (hg:sCap<sLen+q) (h63:((sLen+q:Nat):Int)<=9223372036854775807) (hfit:Builtin.nextslicecap (sLen+q) sCap*i.bytes<=281474976710656) :
 (gY #[t,u] ty #[.slice b sLen sCap,.int .i64 q]).run P w =
  .ok (.slice (some ⟨w.heap.size,0,none⟩) (sLen+q) (grownCap w (sLen+q) sCap e))
   (w.drew.alloc (.cells (olds.toArray++bK z.cells q++bK z.cells (grownCap w (sLen+q) sCap e-(sLen+q))) e)):=by
 have hn:¬(sLen+q<=sCap):=by omega
 have h63':¬(9223372036854775807<((sLen:Int)+(q:Int))):=by omega
 have h48':¬(281474976710656<Builtin.nextslicecap (sLen+q) sCap*i.bytes):=by omega
 have hw:xZ.wrap (q:Int)=q:=by simp only[Go.IntKind.wrap,Go.IntKind.bits,Go.IntKind.signed];simp;omega
 have hq0:¬((q:Int)<0):=by omega
 have hqb:¬(281474976710656<(q:Int)*(i.bytes:Int)):=by omega
 have hfo:(iK i.size sLen (.slice b sLen sCap)).run P w.drew = .ok olds.toArray w.drew:=by
  cases b with
  | none=>have h0:=hb0 rfl;subst h0;have:olds=[]:=fO (by simpa using hlo);subst this;simp[iK]
  |some ad=>exact run_firstCells_some (P:=P) w.drew i.size sLen ad sLen sCap olds hlo (by simpa using holds ad rfl)
 have hq1:¬(q*i.size=0):=by intro h0;rcases Nat.mul_eq_zero.1 h0 with h|h<;>omega
 simp[gY,run_underlying ht,run_underlying hu,sizeOf,typeInfo,zeroValue,hi,hz,asInt,asIntOf,hw,hq0,hqb,hq1,hn,h63',h48',Question.forced,hfo,newRow,grownCap]
theorem ahO (h:GX E I ρ n st a w){b kk cap sz lo m:Nat}{es:List (List Cell)}(hb:st.bx b = .dat sz es)(hr0:ρ b=some (kk,cap))(hc:lo+m<=cap)(hc0:cap≠0)(hl:lo+m<=es.length) :
 ∃ olds:List Value,olds.length=m*sz/\(∀(j:Nat) (u:Value),olds[j]? = some u->w.cell? ((⟨kk,lo*sz,none⟩:Addr).add j)=some u)/\DC I olds sz ((es.drop lo).take m) /\
   (∀y,y∈(es.drop lo).take m->y.length=sz)/\((es.drop lo).take m).length=m:=by
 have hok:=h.bx.ok b;rw[hb]at hok;obtain⟨kk',cap',hr',hle,hcm,hes,hcs⟩:=hok;rw[hr0]at hr';simp only[aC,bI]at hr';obtain⟨rfl,rfl⟩:=hr';obtain⟨cs,tg,hw,hss,ho,hrd⟩:=hcs hc0;have hmn:(lo+m)*sz<=cs.size:=by rw[hss];exact aQ _ hc
 rw[cO]at hmn;have hsl:((es.drop lo).take m).length=m:=by simp;omega
 refine⟨(cs.toList.drop (lo*sz)).take (m*sz),by simp;omega,λj u hu=>?_,⟨λj u hu=>?_,λi' j c2 hc2=>?_⟩,λy hy=>hes y (kN (fD hy)),hsl⟩
 ·rw[cu]at hu;split at hu
  ·rw[Addr.tJ];rw[fV]at hu;simp at hu;simp[gI,hw,hu]
  ·cases hu
 ·rw[cu]at hu;split at hu
  ·rw[fV]at hu;exact ho _ u (by simpa using hu)
  ·cases hu
 ·have hi':=l7 hc2;rw[hsl]at hi';have hc3:(es.getD (lo+i') [])[j]? = some c2:=by
   rw[<- hc2];congr 1;simp only[bZ];rw[cu,ahl hi',fV]
  obtain⟨u,hu,hr⟩:=hrd (lo+i') j c2 hc3;have hi2:=l7 hc3;have hj:j<sz:=by rw[<- hes (es.getD (lo+i') []) (by simp[bZ,ax hi2])];exact(aK.1 hc3).1
  have:(i'+1)*sz<=m*sz:=aQ _ hi';rw[cO]at this;refine⟨u,?_,hr⟩;rw[cu,ahl (by omega),fV];rw[cO]at hu;rw[<- sU];simpa using hu
theorem afM {o:Oper}{l sz bytes:Nat}{zs:List Cell}{s x:oW}(h:GX E I ρ n st a w)(hc:QJ P n o.op sz bytes zs s x=true)(hm:E.m<=l)(hs:(s.ev st.tm).g=true)(hx:(x.ev st.tm).g=true)
 (jV:(Ih l sz bytes zs (dZ st.tm s) (dZ st.tm x) st.bx).vc):wE P E n o a w (st.uN (Ih l sz bytes zs (dZ st.tm s) (dZ st.tm x) st.bx).sets) (Ih l sz bytes zs (dZ st.tm s) (dZ st.tm x) st.bx).v:=by
 unfold QJ at hc;split at hc
 ·rename_i s' x' t t' he;simp only[ah,akg,ahm]at hc;obtain⟨⟨⟨⟨⟨c1,c2⟩,h0⟩,hzl⟩,hti⟩,ht⟩:=hc;have g1:=nV h c1 hs;have g2:=nV h c2 hx;split at hti
  ·rename_i ku htu;split at ht
   ·rename_i e hte;split at ht
    ·rename_i i hi;simp only[ah,akg]at ht;obtain⟨⟨rfl,rfl⟩,hz⟩:=ht;split at hz
     ·rename_i z hzero;simp only[ah,akg]at hz;obtain⟨⟨hzs,hzd⟩,hz1⟩:=hz;have fin:∀{v:Value} {w':World},(gY #[t,t'] o.type #[a.eval s',a.eval x']).run P w = .ok v w'->(execOp a.eval o).run P w = .ok (.value v) w':=by
       intro v w' hr;simp only[execOp,he,resolve,invoke,builtin,cZ,bQ,bn,lC,aZ,jH,hr]
      have hzc:∀(q:Nat) (j:Nat) (u:Value),(bK z.cells q).toList[j]? = some u->u.oneCell'=true:=by intro q j u hu;exact(Uo (I:=I) (m:=q) hzd hzs hzl h0).2.one j u hu
      have fresh:∀(old m q:Nat) (olds:List Value) (es':List (List Cell)),st.bx l = .absent->old<m+q->olds.length=m*i.size->es'.length=m->(∀y,y∈es'->y.length=i.size)->DC I olds i.size es'->m+q<=maxLen ->
       GX E I (ρ.set l w.heap.size (grownCap w (m+q) old e)) n (st.zH l (.dat i.size (es'++bC q zs))) a
        (w.drew.alloc (.cells (olds.toArray++bK z.cells q++bK z.cells (grownCap w (m+q) old e-(m+q))) e)):=by
       intro old m q olds es' hl' ho hol hel hes' hdo h63;have hge:=grownCap_ge w (m+q) old e;have hcm:grownCap w (m+q) old e<=maxLen:=grownCap_le_maxLen w _ old e h63;obtain⟨amW,ak2⟩:=Uo (I:=I) (m:=q) hzd hzs hzl h0;have hdc:=((hdo.append ak2 (by rw[hel];exact hol)).more (hzc (grownCap w (m+q) old e-(m+q)))).afk (cs:=olds.toArray++bK z.cells q++bK z.cells (grownCap w (m+q) old e-(m+q))) (by simp);refine OV h.drew hl' hm _ e _ i.size (es'++bC q zs) ?_ (by rw[bD,hel,CE];exact hge) hcm (λx hx=>?_) hdc.1 hdc.2
       ·simp only[yt,oI,size_zeroCells,hzs,hol,<- cO]
        congr 1
        omega
       ·rcases aY.1 hx with h1|h1
        ·exact hes' x h1
        ·rw[ve h1,hzl]
      have arith:∀(m q:Nat),(m+q)*(i.bytes+i.size+1)<=2^46->(m+q)*i.bytes<=140737488355328/\q*i.bytes<=140737488355328/\m+q<=2^46:=by intro m q hbig;have e1:(m+q)*(i.bytes+i.size+1)=(m+q)*i.bytes+(m+q)*i.size+(m+q):=(by rw[zW,zW,wJ]);have e2:q*i.bytes<=(m+q)*i.bytes:=aQ _ (by omega);omega
      have hml:2^46<=maxLen:=(by decide);unfold Ih at jV⊢;split at jV
      ·rename_i b lo m c sz' k q e1 e2;split at jV
       ·rename_i Dn es hb;obtain⟨rfl,rfl,rfl,hlo,hq,hroom,hl,hbig⟩:=jV;obtain⟨kk,cap,ad0,c',hr0,hsv,hnc,hcc,hcx,hcap⟩:=NT (c:=some c) (b:=b) (lo:=lo) (m:=m) (sz:=i.size) g1 (by rw[e1];rfl);have:=hcx c rfl;subst this;have hxv:a.eval x' = .int .i64 q:=(by exact yR (by rw[e2]at g2;exact g2));obtain⟨qn,rfl⟩:∃qn:Nat,q=qn:=⟨q.toNat,by omega⟩;simp only[aj]at hroom hbig⊢;obtain⟨a1,a2,a3⟩:=arith m qn hbig;have hl':=Ky hl;have hfit:=growslice_fits (need:=m+qn) (old:=c') (bytes:=i.bytes) (by omega) a1;by_cases hc0:c'=0
        ·have amT:m=0:=(by omega);subst amT;subst hc0;have hf:=fresh 0 0 qn [] [] hl' (by omega) (by simp) rfl (by simp) ⟨by simp,by simp⟩ (by omega);have hr:=Xt (P:=P) (w:=w) t t' o.type e ku i z hte htu hi hzero ad0 0 0 [] (by simp) (λ_=>rfl) (by simp) qn (by rw[<- Gm];exact Iu.2 a2) (by omega) (by omega) h0 (by omega) (by omega) hfit;rw[<- hxv,<- hsv]at hr;simp only[Aa];exact⟨_,_,I,_,.inl (fin hr),hf,λ_=>⟨w.heap.size,_,_,_,Ren.oN _ _ _ _,rfl,grownCap_ge w _ _ e,aA _,λ_=>rfl⟩⟩
        ·have Qb:=hcap (.inl hc0);subst Qb;obtain⟨olds,ho1,ho2,ho3,ho4,ho5⟩:=ahO h hb hr0 (by omega) (by omega) hlo;have hf:=fresh c' m qn olds _ hl' (by omega) ho1 ho5 ho4 ho3 (by omega);have hr:=Xt (P:=P) (w:=w) t t' o.type e ku i z hte htu hi hzero (some ⟨kk,lo*i.size,none⟩) m c' olds ho1 (by simp) (λad had j u hu=>by cases had;exact ho2 j u hu) qn (by rw[<- Gm];exact Iu.2 a2) (by omega) (by omega) h0 (by omega) (by omega) hfit;rw[<- hxv,<- hsv]at hr;exact⟨_,_,I,_,.inl (fin hr),hf,λ_=>⟨w.heap.size,_,_,_,Ren.oN _ _ _ _,rfl,grownCap_ge w _ _ e,aA _,λ_=>rfl⟩⟩
       ·exact jV.elim
      ·rename_i sz' k q e1 e2;obtain⟨rfl,hq,hl,hbig⟩:=jV;have hsv:a.eval s' = .slice none 0 0:=(by rw[e1]at g1;exact g1);have hxv:a.eval x' = .int .i64 q:=(by exact yR (by rw[e2]at g2;exact g2));obtain⟨qn,rfl⟩:∃qn:Nat,q=qn:=⟨q.toNat,by omega⟩;simp only[aj]at hbig⊢;obtain⟨a1,a2,a3⟩:=arith 0 qn (by simpa using hbig);simp only[eU]at a1 a3;have hl':=Ky hl;have hfit:=growslice_fits (need:=0+qn) (old:=0) (bytes:=i.bytes) (by omega) (by simpa using a1);have hf:=fresh 0 0 qn [] [] hl' (by omega) (by simp) rfl (by simp) ⟨by simp,by simp⟩ (by omega);have hr:=Xt (P:=P) (w:=w) t t' o.type e ku i z hte htu hi hzero none 0 0 [] (by simp) (λ_=>rfl) (by simp) qn (by rw[<- Gm];exact Iu.2 a2) (by omega) (by omega) h0 (by omega) (by omega) hfit;rw[<- hxv,<- hsv]at hr;simp only[jI]at hf;exact⟨_,_,I,_,.inl (fin hr),hf,λ_=>⟨w.heap.size,_,_,_,Ren.oN _ _ _ _,by rw[eU],by have:=grownCap_ge w (0+qn) 0 e;omega,aA _,λ_=>rfl⟩⟩
      ·exact jV.elim
     ·cases hz
    ·cases ht
   ·cases ht
  ·cases hti
 ·cases hc
end
end
section
def U0 (P:Program)(n m:Nat)(op:Op)(d:Option Nat):ny->Bool
 |.mv x=>ahK n op x
 |.pick c a b=>Zp n op c a b
 |.load agg k p=>Zm P n op agg k p
 |.store agg k p x=>Wi P n op agg k p x&&d.isNone
 |.alloc l zs=>NC P op zs&&decide (m<=l)
 |.PZ T _ l r=>KF P op T&&decide (m<=l)&&decide (m<=r)
 |.PY l sz c zs=>KE P op sz c zs&&decide (m<=l)
 |.box l x=>VZ n op x&&decide (m<=l)
 |.build zs ps=>V3 P n op zs ps
 |.sZ l sz c zs ps=>KG P n op sz c zs ps&&decide (m<=l)
 |.makes l sz bytes zs x y=>NG P n op sz bytes zs x y&&decide (m<=l)
 |.bin o x y=>ada n op o x y
 |.beq ng x y=>ac9 P n op ng x y
 |.not x=>adg n op x
 |.neg x=>adf n op x
 |.MZ k x=>Zg P n op k x
 |.Wn x=>Zi P n op x
 |.same x=>Zq P n op x
 |.ZU f cs=>Zo n op f cs
 |.Xz x lo hi=>Wh P n op x lo hi
 |.IM sz x lo hi=>Zr P n op sz x lo hi
 |.Xx sz c x=>We P n op sz c x
 |.YP x=>V9 n op x
 |.mW off x=>V4 P n op off x
 |.field agg off k x=>V5 P n op agg off k x
 |.zD sz x i=>V6 P n op sz x i
 |.WQ sz c x i=>Tc P n op sz c x i
 |.idxs x i=>Zk P n op x i
 |.extract x i=>P9 n op x i
 |.len x=>ade P n op x
 |.lens x=>Zl P n op x
 |.max x y=>Yt true n op x y
 |.min x y=>Yt false n op x y
 |.append l sz bytes s x=>Fa P n op sz bytes s x&&decide (m<=l)
 |.copy sz x y=>JI P n op sz x y
 |.shf l x y=>adi n op l x y
 |.afT x=>Zf P n op x
 |.Ah sz x lo hi=>Tf P n op sz x lo hi
 |.sl3 sz x p q m=>adk P n op sz x p q m
 |.acj l sz bytes s x=>Fa P n op sz bytes s x&&decide (m<=l)
 |.Xu sz x y=>JI P n op sz x y
 |.aef sz zs x=>QO P n op sz zs x
 |.acW l sz bytes zs s x=>QJ P n op sz bytes zs s x&&decide (m<=l)
 |.afX x y=>Zh P n op x y
 |.abv ng x=>V8 P n op ng x
 |.ovl x y=>adh P n op x y
 |.agj x y=>Zj P n op x y
 |.stop=>true
section
variable {P:Program} {n:Nat} {op:Op}
theorem ajo {zs:List AC}(h:NC P op zs=true):DF op=false/\TF op=false:=by unfold NC at h;split at h<;>first|exact⟨rfl,rfl⟩|cases h
theorem afb {T:Nat}(h:KF P op T=true):DF op=false/\TF op=false:=by unfold KF at h;split at h<;>first|exact⟨rfl,rfl⟩|cases h
theorem afa {sz c:Nat}{zs:List Cell}(h:KE P op sz c zs=true):DF op=false/\TF op=false:=by unfold KE at h;split at h<;>first|exact⟨rfl,rfl⟩|cases h
theorem aoO {x:oW}(h:VZ n op x=true):DF op=false/\TF op=false:=by unfold VZ at h;split at h<;>first|exact⟨rfl,rfl⟩|cases h
theorem afc {sz c:Nat}{zs:List Cell}{ps:List (Nat×oW)}(h:KG P n op sz c zs ps=true):DF op=false/\TF op=false:=by unfold KG at h;split at h<;>first|exact⟨rfl,rfl⟩|cases h
theorem ajp {sz bytes:Nat}{zs:List Cell}{x y:oW}(h:NG P n op sz bytes zs x y=true):DF op=false/\TF op=false:=by unfold NG at h;split at h<;>first|exact⟨rfl,rfl⟩|cases h
theorem Vy {sz bytes:Nat}{s x:oW}(h:Fa P n op sz bytes s x=true):DF op=false/\TF op=false:=by unfold Fa at h;split at h<;>first|exact⟨rfl,rfl⟩|cases h
theorem afd {sz:Nat}{s x:oW}(h:JI P n op sz s x=true):DF op=false/\TF op=false:=by unfold JI at h;split at h<;>first|exact⟨rfl,rfl⟩|cases h
theorem al1 {sz:Nat}{zs:List Cell}{x:oW}(h:QO P n op sz zs x=true):DF op=false/\TF op=false:=by unfold QO at h;split at h<;>first|exact⟨rfl,rfl⟩|cases h
theorem al0 {sz bytes:Nat}{zs:List Cell}{s x:oW}(h:QJ P n op sz bytes zs s x=true):DF op=false/\TF op=false:=by unfold QJ at h;split at h<;>first|exact⟨rfl,rfl⟩|cases h
end
section
variable {P:Program} {E:Env P} {I:IH} {ρ:Ren} {n:Nat} {st:fH} {a:Act} {w:World}
theorem GM {x:Box}(h:match x with|.absent=>True|_=>False):Ej x:=by cases x<;>first|trivial|exact h.elim
theorem abU (h:GX E I ρ n st a w){o:Oper}{ao:ny}(hc:U0 P n E.m o.op o.dst ao=true)(hv:ao.valid (oW.ev st.tm))(jV:(ao.f (dZ st.tm) st.bx).vc) :
 wZ P E n o a w (st.uN (ao.f (dZ st.tm) st.bx).sets) (ao.f (dZ st.tm) st.bx).v:=by
 cases ao with
 |mv x=>exact alc h hc (hv x (by simp[ny.pI]))
 | pick c x y=>
   simp only[ny.f]at jV⊢;obtain⟨hg,hxy⟩:=hv;split at jV
   ·rename_i t ht;have ht':((oW.ev st.tm c).x)=vz t:=ht;rw[ht']at hxy;exact agG h hc hg ht hxy.1 hxy.2
   ·exact jV.elim
 | load agg k p=> 
   have hs:(Ba agg k (dZ st.tm p) st.bx).sets=[]:=by
    unfold Ba at *;simp only[ny.f]at jV;unfold Ba at jV;split at jV
    ·split at jV
     ·split at jV
      ·rename_i hA;rw[ahl hA]
      ·rename_i hA;rw[ahk hA];split at jV
       ·rfl
       ·exact jV.elim
     ·exact jV.elim
    ·split at jV
     ·split at jV
      ·rename_i hA;rw[ahl hA]
      ·rename_i hA;rw[ahk hA]
     ·exact jV.elim
    ·split at jV
     ·rename_i hA;rw[ahl hA]
     ·rename_i hA;rw[ahk hA]
    ·exact jV.elim
   have:=agq (P:=P) h hc (hv p (by simp[ny.pI])) jV;simp only[ny.f,hs];exact this
 | store agg k p x=>simp only[U0,ah,uZ]at hc;exact aep h hc.1 hc.2 (hv p (by simp[ny.pI])) (hv x (by simp[ny.pI])) jV
 | alloc l zs=>simp only[U0,ah,ahm]at hc;exact(acS h hc.1 hc.2 (GM jV)).toE (ajo hc.1).1 (ajo hc.1).2
 | PZ T e l r=>simp only[U0,ah,ahm]at hc;exact(aaL h hc.1.1 hc.1.2 hc.2 (GM jV.1) (GM jV.2.1) jV.2.2).toE (afb hc.1.1).1 (afb hc.1.1).2
 | PY l sz c zs=>simp only[U0,ah,ahm]at hc;exact(aaK h hc.1 hc.2 (GM jV)).toE (afa hc.1).1 (afa hc.1).2
 | box l x=>simp only[U0,ah,ahm]at hc;exact(ahD h hc.1 (hv x (by simp[ny.pI])) hc.2 (GM jV.1) jV.2).toE (aoO hc.1).1 (aoO hc.1).2
 |build zs ps=>exact ac4 h hc (λp hp=>hv p.2.2 (by simp only[ny.pI,aS];exact⟨p,hp,rfl⟩)) jV
 | sZ l sz c zs ps=>
   simp only[U0,ah,ahm]at hc;simp only[ny.f]at jV⊢;split at jV
   ·rename_i l' hl';rw[Xw];exact(aaW h hc.1 (λp hp=>hv p.2 (by simp only[ny.pI,aS];exact⟨p,hp,rfl⟩)) hc.2 (GM jV.1) hl' jV.2.1 jV.2.2).toE (afc hc.1).1 (afc hc.1).2
   ·exact jV.elim
 | makes l sz bytes zs x y=>
   simp only[U0,ah,ahm]at hc;simp only[ny.f]at jV⊢;split at jV
   ·rename_i k p k' q e1 e2;obtain⟨v1,v2,v3,v4,v5⟩:=jV;exact(adS h hc.1 (hv x (by simp[ny.pI])) (hv y (by simp[ny.pI])) e1 e2 hc.2 (GM v1) v2 v3 v4 v5).toE (ajp hc.1).1 (ajp hc.1).2
   ·exact jV.elim
 | bin b x y=>
   have hs:(UY b (dZ st.tm x) (dZ st.tm y)).sets=[]:=by
    unfold UY;split
    ·rfl
    ·unfold Ea;cases b<;>rfl
    ·rfl
   have:=ahB (P:=P) h hc (hv x (by simp[ny.pI])) (hv y (by simp[ny.pI])) jV;simp only[ny.f,hs];exact this
 | beq ng x y=>have hs:(aaT ng (dZ st.tm x) (dZ st.tm y)).sets=[]:=(by unfold aaT;split<;>rfl);have:=ahA (P:=P) h hc (hv x (by simp[ny.pI])) (hv y (by simp[ny.pI])) jV;simp only[ny.f,hs];exact this
 | not x=>
   simp only[ny.f]at jV⊢;split at jV
   ·rename_i b hb;exact ai9 h hc (hv x (by simp[ny.pI])) hb
   ·exact jV.elim
 | neg x=>
   simp only[ny.f]at jV⊢;split at jV
   ·rename_i k m hb;exact ai6 h hc (hv x (by simp[ny.pI])) hb
   ·exact jV.elim
 | MZ k x=>
   simp only[ny.f]at jV⊢;split at jV
   ·rename_i j m hb;exact afW h hc (hv x (by simp[ny.pI])) hb
   ·exact jV.elim
 | Wn x=>
   simp only[ny.f]at jV⊢;split at jV
   ·rename_i p es hs;split at jV
    ·rename_i l hl;exact af1 h hc (hv x (by simp[ny.pI])) hs jV.1 hl jV.2
    ·exact jV.elim
   ·exact jV.elim
 | same x=>
   simp only[ny.f]at jV⊢;split at jV
   ·rename_i l hb;exact agQ h hc (hv x (by simp[ny.pI])) hb
   ·exact jV.elim
 | ZU f cs=>
   simp only[ny.f]at jV⊢;split at jV
   ·rename_i l hl;exact agD h hc (λx hx=>hv x hx) hl
   ·exact jV.elim
 | Xz x lo hi=>
   simp only[ny.f]at jV⊢;split at jV
   ·rename_i s e1;split at jV
    ·rename_i p q e2 e3;exact aei h hc (hv x (by simp[ny.pI])) (λy hy=>hv y (by simp only[ny.pI];simp at hy;simp[hy])) (λy hy=>hv y (by simp only[ny.pI];simp at hy;simp[hy])) e1 e2 e3 jV.1 jV.2.1 jV.2.2
    ·exact jV.elim
   ·exact jV.elim
 | IM sz x lo hi=>
   have hs:(YW sz (dZ st.tm x) (bnd (dZ st.tm) lo 0) (bnd (dZ st.tm) hi)).sets=[]:=by
    unfold YW;split
    ·split<;>rfl
    ·split<;>rfl
    ·split<;>rfl
    ·rfl
   have:=agW (P:=P) h hc (hv x (by simp[ny.pI])) (λy hy=>hv y (by simp only[ny.pI];simp at hy;simp[hy])) (λy hy=>hv y (by simp only[ny.pI];simp at hy;simp[hy])) jV;have e:((ny.IM sz x lo hi).f (dZ st.tm) st.bx)=YW sz (dZ st.tm x) (bnd (dZ st.tm) lo 0) (bnd (dZ st.tm) hi):=rfl;rw[e,hs];exact this
 | Xx sz c x=>
   simp only[ny.f]at jV⊢;split at jV
   ·rename_i b sz' e1;split at jV
    ·rename_i Dn es e2;obtain⟨rfl,rfl,h3,h4⟩:=jV;exact aeh h hc (hv x (by simp[ny.pI])) e1 e2 h3
    ·exact jV.elim
   ·exact jV.elim
 | YP x=>have hs:(TW (dZ st.tm x)).sets=[]:=(by unfold TW;split<;>rfl);have:=adY (P:=P) h hc (hv x (by simp[ny.pI])) jV;have e:((ny.YP x).f (dZ st.tm) st.bx)=TW (dZ st.tm x):=rfl;rw[e,hs];exact this
 | mW off x=>have hs:(NP off (dZ st.tm x)).sets=[]:=(by unfold NP;split<;>rfl);have:=adt (P:=P) h hc (hv x (by simp[ny.pI])) jV;have e:((ny.mW off x).f (dZ st.tm) st.bx)=NP off (dZ st.tm x):=rfl;rw[e,hs];exact this
 | field agg off k x=>
   have hs:(Ti agg off k (dZ st.tm x)).sets=[]:=by
    unfold Ti;split
    ·split
     ·rfl
     ·split<;>rfl
    ·rfl
   have:=adu (P:=P) h hc (hv x (by simp[ny.pI])) jV;have e:((ny.field agg off k x).f (dZ st.tm) st.bx)=Ti agg off k (dZ st.tm x):=rfl;rw[e,hs];exact this
 | zD sz x i=>have hs:(TC sz (dZ st.tm x) (dZ st.tm i)).sets=[]:=(by unfold TC;split<;>rfl);have:=adG (P:=P) h hc (hv x (by simp[ny.pI])) (hv i (by simp[ny.pI])) jV;have e:((ny.zD sz x i).f (dZ st.tm) st.bx)=TC sz (dZ st.tm x) (dZ st.tm i):=rfl;rw[e,hs];exact this
 | WQ sz c x i=>
   simp only[ny.f]at jV⊢;split at jV
   ·rename_i b sz' k m e1 e2;obtain⟨rfl,h1,h2⟩:=jV;exact abq h hc (hv x (by simp[ny.pI])) (hv i (by simp[ny.pI])) e1 e2 h1 h2
   ·exact jV.elim
 | idxs x i=>
   simp only[ny.f]at jV⊢;split at jV
   ·rename_i s k m e1 e2;exact agl h hc (hv x (by simp[ny.pI])) (hv i (by simp[ny.pI])) e1 e2 jV.1 jV.2
   ·exact jV.elim
 | extract x i=>
   have hs:(KI (dZ st.tm x) i).sets=[]:=by
    unfold KI;split
    ·split<;>rfl
    ·rfl
   have:=Zw (P:=P) h hc (hv x (by simp[ny.pI])) jV;have e:((ny.extract x i).f (dZ st.tm) st.bx)=KI (dZ st.tm x) i:=rfl;rw[e,hs];exact this
 | len x=>have hs:(lenV (dZ st.tm x)).sets=[]:=(by unfold lenV;split<;>rfl);have:=aiL (P:=P) h hc (hv x (by simp[ny.pI])) jV;have e:((ny.len x).f (dZ st.tm) st.bx)=lenV (dZ st.tm x):=rfl;rw[e,hs];exact this
 | lens x=>
   simp only[ny.f]at jV⊢;split at jV
   ·rename_i s e1;exact agn h hc (hv x (by simp[ny.pI])) e1
   ·exact jV.elim
 | max x y=>
   simp only[ny.f]at jV⊢;split at jV
   ·rename_i k p k' q e1 e2;have jV:k=k':=jV;subst jV;exact aiY h hc (hv x (by simp[ny.pI])) (hv y (by simp[ny.pI])) e1 e2
   ·exact jV.elim
 | min x y=>
   simp only[ny.f]at jV⊢;split at jV
   ·rename_i k p k' q e1 e2;have jV:k=k':=jV;subst jV;exact ai0 h hc (hv x (by simp[ny.pI])) (hv y (by simp[ny.pI])) e1 e2
   ·exact jV.elim
 | append l sz bytes s x=>simp only[U0,ah,ahm]at hc;exact(aaN h hc.1 hc.2 (hv s (by simp[ny.pI])) (hv x (by simp[ny.pI])) jV).toE (Vy hc.1).1 (Vy hc.1).2
 |copy sz d x=>exact(af0 h hc (hv d (by simp[ny.pI])) (hv x (by simp[ny.pI])) jV).toE (afd hc).1 (afd hc).2
 | shf l x y=>have hs:(aao l (dZ st.tm x) (dZ st.tm y)).sets=[]:=(by unfold aao;(repeat' split)<;>rfl);have:=ajz (P:=P) h hc (hv x (by simp[ny.pI])) (hv y (by simp[ny.pI])) jV;have e:((ny.shf l x y).f (dZ st.tm) st.bx)=aao l (dZ st.tm x) (dZ st.tm y):=rfl;rw[e,hs];exact this
 | afT x=>have hs:(X5 (dZ st.tm x)).sets=[]:=(by unfold X5;(repeat' split)<;>rfl);have:=afU (P:=P) h hc (hv x (by simp[ny.pI])) jV;have e:((ny.afT x).f (dZ st.tm) st.bx)=X5 (dZ st.tm x):=rfl;rw[e,hs];exact this
 | Ah sz x lo hi=>have hs:(AL sz (dZ st.tm x) (bnd (dZ st.tm) lo 0) (bnd (dZ st.tm) hi)).sets=[]:=(by unfold AL;(repeat' split)<;>rfl);have:=acm (P:=P) h hc (hv x (by simp[ny.pI])) (λy hy=>hv y (by simp only[ny.pI,ay,aY];exact .inr (.inl hy))) (λy hy=>hv y (by simp only[ny.pI,ay,aY];exact .inr (.inr hy))) jV;have e:((ny.Ah sz x lo hi).f (dZ st.tm) st.bx)=AL sz (dZ st.tm x) (bnd (dZ st.tm) lo 0) (bnd (dZ st.tm) hi):=rfl;rw[e,hs];exact this
 | sl3 sz x p q m=>have hs:(Om sz (dZ st.tm x) (dZ st.tm p) (dZ st.tm q) (dZ st.tm m)).sets=[]:=(by unfold Om;(repeat' split)<;>rfl);have:=ajA (P:=P) h hc (hv x (by simp[ny.pI])) (hv p (by simp[ny.pI])) (hv q (by simp[ny.pI])) (hv m (by simp[ny.pI])) jV;have e:((ny.sl3 sz x p q m).f (dZ st.tm) st.bx)=Om sz (dZ st.tm x) (dZ st.tm p) (dZ st.tm q) (dZ st.tm m):=rfl;rw[e,hs];exact this
 | acj l sz bytes s x=>simp only[U0,ah,ahm]at hc;exact(agR h hc.1 hc.2 (hv s (by simp[ny.pI])) (hv x (by simp[ny.pI])) jV).toE (Vy hc.1).1 (Vy hc.1).2
 | acW l sz bytes zs s x=>simp only[U0,ah,ahm]at hc;exact(afM h hc.1 hc.2 (hv s (by simp[ny.pI])) (hv x (by simp[ny.pI])) jV).toE (al0 hc.1).1 (al0 hc.1).2
 |Xu sz d x=>exact(agT h hc (hv d (by simp[ny.pI])) (hv x (by simp[ny.pI])) jV).toE (afd hc).1 (afd hc).2
 |aef sz zs x=>exact(agS h hc (hv x (by simp[ny.pI])) jV).toE (al1 hc).1 (al1 hc).2
 |stop=>exact jV.elim
 | abv ng x=>have hs:(LK ng (dZ st.tm x)).sets=[]:=(by unfold LK;split<;>rfl);have:=adM (P:=P) h hc (hv x (by simp[ny.pI])) jV;have e:((ny.abv ng x).f (dZ st.tm) st.bx)=LK ng (dZ st.tm x):=rfl;rw[e,hs];exact this
 | afX x y=>have hs:(QS (dZ st.tm x) (dZ st.tm y)).sets=[]:=(by unfold QS;(repeat' split)<;>rfl);have:=afY (P:=P) h hc (hv x (by simp[ny.pI])) (hv y (by simp[ny.pI])) jV;have e:((ny.afX x y).f (dZ st.tm) st.bx)=QS (dZ st.tm x) (dZ st.tm y):=rfl;rw[e,hs];exact this
 | agj x y=>have hs:(Q5 (dZ st.tm x) (dZ st.tm y)).sets=[]:=(by unfold Q5;(repeat' split)<;>rfl);have:=agk (P:=P) h hc (hv x (by simp[ny.pI])) (hv y (by simp[ny.pI])) jV;have e:((ny.agj x y).f (dZ st.tm) st.bx)=Q5 (dZ st.tm x) (dZ st.tm y):=rfl;rw[e,hs];exact this
 | ovl x y=>have hs:(ZZ (dZ st.tm x) (dZ st.tm y) st.bx).sets=[]:=(by unfold ZZ;(repeat' split)<;>rfl);have:=ajh (P:=P) h hc (hv x (by simp[ny.pI])) (hv y (by simp[ny.pI])) jV;have e:((ny.ovl x y).f (dZ st.tm) st.bx)=ZZ (dZ st.tm x) (dZ st.tm y) st.bx:=rfl;rw[e,hs];exact this
end
end
theorem Rel.refl (dp N:Nat)(g:Own):Rel dp N g g:=
 ⟨λ_ _ _ _ _ h=>⟨h,rfl⟩,λ_ _ _ _ _ h=>h,λk B' _ h=>⟨B',h,λT p hb=>by rcases hb with rfl|rfl<;>exact⟨p,p,rfl,rfl⟩⟩⟩
theorem Rel.trans {dp N:Nat}{g g' g'':Own}(h:Rel dp N g g')(k:Rel dp N g' g''):Rel dp N g g'':=by
 refine⟨λx T d m hd hx=>let q:=h.tag _ _ _ _ hd hx;let r:=k.tag _ _ _ _ hd q.1;⟨r.1,r.2.trans q.2⟩,λx row d b hd hx=>k.var _ _ _ _ hd (h.var _ _ _ _ hd hx),λx B'' hx hB=>?_⟩;obtain⟨B',hB',h1⟩:=k.old x B'' hx hB;obtain⟨B,hB0,h2⟩:=h.old x B' hx hB';refine⟨B,hB0,λT p hb=>?_⟩;rcases hb with hb|hb
 ·obtain⟨q,q',e1,e2⟩:=h2 T p (.inl hb);obtain⟨r,r',e3,e4⟩:=h1 T q' (.inl e2);exact⟨q,r',e1,e4⟩
 ·obtain⟨q,q',e1,e2⟩:=h1 T p (.inr hb);obtain⟨r,r',e3,e4⟩:=h2 T q (.inr e1);exact⟨r,q',e3,e2⟩
theorem Rel.le {dp N N':Nat}{g g':Own}(h:Rel dp N g g')(hn:N'<=N):Rel dp N' g g':=⟨h.tag,h.var,λk B' hk=>h.old k B' (kQ hk hn)⟩
theorem Good.lt {P:Program}{g:Own}{w:World}(h:Good P g w){k:Nat}{B:Blk}(hk:g k=some B):k<w.heap.size:=by
 cases B with
 |arr T p=>obtain⟨cs,e,hw,_⟩:=h.arr k T p hk;exact xN hw
 |var row d b=>obtain⟨cs,e,hw,_⟩:=h.var k row d b hk;exact xN hw
theorem Good.world {P:Program}{g:Own}{w w':World}(h:Good P g w)(hk:∀k,g k≠none->w'.heap[k]? = w.heap[k]?):Good P g w':=
 ⟨λk T p e=>by rw[hk k (by rw[e];simp)];exact h.arr k T p e,λk row d b e=>by rw[hk k (by rw[e];simp)];exact h.var k row d b e⟩
theorem FI.world {P:Program}{F:Ut}{g:Own}{dp:Nat}{a:Act}{w w':World}{f:OF}(h:FI P F g dp a w f)(hs:w.heap.size<=w'.heap.size):FI P F g dp a w' f:=by
 cases f with
 | sr t T=>
   rcases h with h|⟨k,o,n,c,h1,h2,h3⟩
   ·exact .inl h
   ·exact .inr ⟨k,o,n,c,h1,kQ h2 hs,h3⟩
 |ep t T off=>obtain⟨k,o,h1,h2,h3⟩:=h;exact⟨k,o,h1,kQ h2 hs,h3⟩
 |vp t b off=>exact h
 |ref t r=>exact h
 |EO t i r=>exact h
 |row b r=>exact h
 |fn t s=>exact h
theorem OW.world {P:Program}{F:Ut}{g:Own}{dp:Nat}{Γ : List OF}{a:Act}{w w':World}(h:OW P F g dp Γ a w)(hs:w.heap.size<=w'.heap.size)(hk:∀k,g k≠none->w'.heap[k]? = w.heap[k]?):OW P F g dp Γ a w':=
 ⟨h.good.world hk,λf hf=>(h.fs f hf).world hs⟩
theorem OW.weak {P:Program}{F:Ut}{g:Own}{dp:Nat}{Γ CX:List OF}{a:Act}{w:World}(h:OW P F g dp Γ a w)(hs:∀f,f∈CX->f ∈ Γ):OW P F g dp CX a w:=
 ⟨h.good,λf hf=>h.fs f (hs f hf)⟩
theorem FI.put {P:Program}{F:Ut}{g:Own}{dp:Nat}{a a':Act}{w:World}{f:OF}(h:FI P F g dp a w f)(he:∀t,t∈f.afj->a'.tmps.getD t undef=a.tmps.getD t undef):FI P F g dp a' w f:=by cases f<;>simp only[OF.afj,ay,List.not_mem_nil,or_false,forall_eq_or_imp,forall_eq]at he<;>simp only[FI,he]at h⊢ <;> exact h
def Jm (d:Nat)(f:OF):Bool:= !f.afj.contains d
theorem oK {a:Act}{d t:Nat}{v:Value}(h:t≠d):(a.put (some d) v).tmps.getD t undef=a.tmps.getD t undef:=by simp only[jC,dX];rw[Array.getElem?_setIfInBounds_ne (Ne.symm h)]
theorem gB {a:Act}{d:Nat}{v:Value}(h:d<a.tmps.size):(a.put (some d) v).tmps.getD d undef=v:=by simp[jC,dX,h]
theorem FI.put' {P:Program}{F:Ut}{g:Own}{dp:Nat}{a:Act}{w:World}{f:OF}{d:Nat}{v:Value}(h:FI P F g dp a w f)(ho:Jm d f=true):FI P F g dp (a.put (some d) v) w f:=
 h.put λt ht=>oK λe=>by subst e;simp[Jm,ht]at ho
theorem OW.drop {P:Program}{F:Ut}{g:Own}{dp:Nat}{Γ : List OF}{a:Act}{w:World}(h:OW P F g dp Γ a w)(d:Nat)(v:Value):OW P F g dp (Γ.filter (Jm d)) (a.put (some d) v) w:=
 ⟨h.good,λf hf=>by rw[aX]at hf;exact(h.fs f hf.1).put' hf.2⟩
def Own.re (g:Own)(dr:yE->Bool)(φ:yE->yE):Own:=⟨λk=>match g k with
 |some (.arr T p)=>if dr p then none else some (.arr T (φ p))
 |some (.var row d b)=>some (.var (row.filter λr=> !dr (.tag d r.m)&&φ (.tag d r.m) == .tag d r.m) d b)
 |none=>none,g.bd⟩
theorem Xm {g:Own}{dr:yE->Bool}{φ:yE->yE}{k:Nat} : (g.re dr φ) k=match g k with
 |some (.arr T p)=>if dr p then none else some (.arr T (φ p))
 |some (.var row d b)=>some (.var (row.filter λr=> !dr (.tag d r.m)&&φ (.tag d r.m) == .tag d r.m) d b)
 |none=>none:=rfl
theorem GR.re {g:Own}{u:Value}{T:Nat}{p:yE}(h:GR g u T p){dr:yE->Bool}(hd:dr p=false)(φ:yE->yE):GR (g.re dr φ) u T (φ p):=by
 rcases h with h|⟨k,n,c,h1,h2⟩
 ·exact .inl h
 ·exact .inr ⟨k,n,c,h1,by simp[Own.re,h2.1,hd],h2.2⟩
theorem aai {g:Own}{dr:yE->Bool}{φ:yE->yE}{k d b:Nat}{row:List Ref}(h:g.re dr φ k=some (.var row d b)):∃row0,g k=some (.var row0 d b)/\row=row0.filter λr=> !dr (.tag d r.m)&&φ (.tag d r.m) == .tag d r.m:=by
 rw[Xm]at h;split at h
 ·split at h<;>cases h
 ·rename_i row0 d0 b0 h0;cases h;exact⟨row0,h0,rfl⟩
 ·cases h
theorem aah {g:Own}{dr:yE->Bool}{φ:yE->yE}{k T:Nat}{p:yE}(h:g.re dr φ k=some (.arr T p)):∃q,g k=some (.arr T q)/\dr q=false/\p=φ q:=by
 rw[Xm]at h;split at h
 ·rename_i T0 q h0;split at h
  ·cases h
  ·rename_i hd;cases h;exact⟨q,h0,by simpa using hd,rfl⟩
 ·cases h
 ·cases h
theorem Good.re {P:Program}{g:Own}{w:World}(h:Good P g w){dr:yE->Bool}{φ:yE->yE}(hb:∀k T p,g k=some (.arr T p)->dr p=false->∀j,dr (.blk k j)=false/\φ (.blk k j) = .blk k j):Good P (g.re dr φ) w:=by
 refine⟨λk T p hk=>?_,λk row d b hk=>?_⟩
 ·obtain⟨q,h1,h2,rfl⟩:=aah hk;obtain⟨cs,e,hw,hc⟩:=h.arr k T q h1;refine⟨cs,e,hw,λj u T' hb' hu ht=>?_⟩;have:=(hc j u T' hb' hu ht).re (hb k T q h1 h2 j).1 φ
  rwa[(hb k T q h1 h2 j).2]at this
 ·obtain⟨row0,h1,rfl⟩:=aai hk;obtain⟨cs,e,hw,hc⟩:=h.var k row0 d b h1;refine⟨cs,e,hw,λr hr=>?_⟩;rw[aX]at hr;simp only[ah,kH,akg]at hr;obtain⟨u,hu,hg⟩:=hc r hr.1;refine⟨u,hu,?_⟩;have:=hg.re hr.2.1 φ
  rwa[hr.2.2]at this
def aiF (dp:Nat)(dr:yE->Bool)(φ:yE->yE)(f:OF):Prop:=∀m,f.anp=some m->dr (.tag dp m)=false/\φ (.tag dp m) = .tag dp m
theorem FI.re {P:Program}{F:Ut}{g:Own}{dp:Nat}{a:Act}{w:World}{f:OF}(h:FI P F g dp a w f){dr:yE->Bool}{φ:yE->yE}(hk:aiF dp dr φ f):FI P F (g.re dr φ) dp a w f:=by
 have gr:∀{u T m},GR g u T (.tag dp m)->dr (.tag dp m)=false/\φ (.tag dp m) = .tag dp m->GR (g.re dr φ) u T (.tag dp m):=λh1 h2=>by
  have:=h1.re h2.1 φ
  rwa[h2.2]at this
 have old:∀{k:Nat} {T:Nat} {X:Prop},(∀B,g k=some B->(∃p,B = .arr T p)/\X)->∀B,g.re dr φ k=some B->(∃p,B = .arr T p)/\X:=by
  intro k T X hold B hB;cases B with
  | arr T' p=>obtain⟨q,h1,_,rfl⟩:=aah hB;obtain⟨⟨p',e⟩,hx⟩:=hold _ h1;cases e;exact⟨⟨_,rfl⟩,hx⟩
  | var row d b=>obtain⟨row0,h1,_⟩:=aai hB;obtain⟨⟨p',e⟩,_⟩:=hold _ h1;cases e
 have vv:∀{k row b},g k=some (.var row dp b)->g.re dr φ k=some (.var (row.filter λr=> !dr (.tag dp r.m)&&φ (.tag dp r.m) == .tag dp r.m) dp b):=λh1=>by simp[Own.re,h1]
 cases f with
 | sr t T=>
   rcases h with h|⟨k,o,n,c,h1,h2,h3⟩
   ·exact .inl h
   ·exact .inr ⟨k,o,n,c,h1,h2,old h3⟩
 |ep t T off=>obtain⟨k,o,h1,h2,h3⟩:=h;exact⟨k,o,h1,h2,old h3⟩
 |vp t b off=>obtain⟨k,row,h1,h2,h3⟩:=h;exact⟨k,_,h1,h2,vv h3⟩
 |ref t r=>obtain⟨u,h1,h2⟩:=h;exact⟨u,h1,gr h2 (hk _ rfl)⟩
 |EO t i r=>obtain⟨vs,x,u,h1,h2,h3,h4⟩:=h;exact⟨vs,x,u,h1,h2,h3,gr h4 (hk _ rfl)⟩
 | row b r=>obtain⟨k,row,h1,h2,h3⟩:=h;refine⟨k,_,h1,vv h2,?_⟩;rw[aX];have:=hk _ rfl;exact⟨h3,by simp[this.1,this.2]⟩
 |fn t s=>exact h
theorem Rel.re {dp N:Nat}{g:Own}{dr:yE->Bool}{φ:yE->yE}(h:∀d m,d<dp->dr (.tag d m)=false/\φ (.tag d m) = .tag d m):Rel dp N g (g.re dr φ):=by
 refine⟨λk T d m hd hk=>?_,λk row d b hd hk=>?_,λk B' _ hB=>?_⟩
 ·exact⟨by simp[Own.re,hk,(h d m hd).1,(h d m hd).2],rfl⟩
 ·have:row.filter (λr=> !dr (.tag d r.m)&&φ (.tag d r.m) == .tag d r.m)=row:=List.filter_eq_self.2 λr _=>by simp[(h d r.m hd).1,(h d r.m hd).2]
  simp[Own.re,hk,this]
 ·cases B' with
  | arr T p=>obtain⟨q,h1,_,rfl⟩:=aah hB;exact⟨_,h1,λT' p' hb=>by rcases hb with e|e<;>cases e<;>exact⟨_,_,rfl,rfl⟩⟩
  | var row d b=>obtain⟨row0,h1,_⟩:=aai hB;exact⟨_,h1,λT' p' hb=>by rcases hb with e|e<;>cases e⟩
def Own.upn (g:Own)(k:Nat)(B:Blk)(n:Nat):Own:=⟨λk'=>if k'=k then some B else g k',λk'=>if k'=k then n else g.bd k'⟩
abbrev Own.upd (g:Own)(k:Nat)(B:Blk):Own:=g.upn k B 0
theorem yc {g:Own}{k k' n:Nat}{B:Blk} : (g.upn k B n) k'=if k'=k then some B else g k':=rfl
theorem EZ {g:Own}{k k' n:Nat}{B:Blk} : (g.upn k B n).bd k'=if k'=k then n else g.bd k':=rfl
theorem GR.upd {g:Own}{u:Value}{T:Nat}{p:yE}(h:GR g u T p){k m:Nat}{B:Blk}(hk:∀T' q,g k≠some (.arr T' q)):GR (g.upn k B m) u T p:=by
 rcases h with h|⟨k',n,c,h1,h2⟩
 ·exact .inl h
 ·have hne:k'≠k:=λe=>by subst e;exact hk _ _ h2.1
  exact .inr ⟨k',n,c,h1,by rw[yc,ahk hne];exact h2.1,by rw[EZ,ahk hne];exact h2.2⟩
theorem FI.new {P:Program}{F:Ut}{g:Own}{dp:Nat}{a:Act}{w:World}{f:OF}(h:FI P F g dp a w f){k m:Nat}{B:Blk}(hk:g k=none)(hs:w.heap.size<=k):FI P F (g.upn k B m) dp a w f:=by
 have hk':∀T' q,g k≠some (.arr T' q):=λT' q e=>by rw[hk]at e;cases e
 have old:∀{k':Nat} {T:Nat} {X:Prop},k'<w.heap.size->(∀B,g k'=some B->(∃p,B = .arr T p)/\X)->∀B',(g.upn k B m) k'=some B'->(∃p,B' = .arr T p)/\X:=by intro k' T X hlt hold B' hB;rw[yc]at hB;rw[ahk (by omega)]at hB;exact hold B' hB
 have vv:∀{k' row b},g k'=some (.var row dp b)->(g.upn k B m) k'=some (.var row dp b):=λh1=>by rw[yc];rw[ahk (λe=>by subst e;rw[hk]at h1;cases h1)];exact h1
 cases f with
 | sr t T=>
   rcases h with h|⟨k,o,n,c,h1,h2,h3⟩
   ·exact .inl h
   ·exact .inr ⟨k,o,n,c,h1,h2,old h2 h3⟩
 |ep t T off=>obtain⟨k,o,h1,h2,h3⟩:=h;exact⟨k,o,h1,h2,old h2 h3⟩
 |vp t b off=>obtain⟨k,row,h1,h2,h3⟩:=h;exact⟨k,_,h1,h2,vv h3⟩
 |ref t r=>obtain⟨u,h1,h2⟩:=h;exact⟨u,h1,h2.upd hk'⟩
 |EO t i r=>obtain⟨vs,x,u,h1,h2,h3,h4⟩:=h;exact⟨vs,x,u,h1,h2,h3,h4.upd hk'⟩
 |row b r=>obtain⟨k,row,h1,h2,h3⟩:=h;exact⟨k,_,h1,vv h2,h3⟩
 |fn t s=>exact h
theorem Rel.new {dp N:Nat}{g:Own}{k n:Nat}{B:Blk}(hk:g k=none)(hn:N<=k):Rel dp N g (g.upn k B n):=by
 refine⟨λk' T d m _ hx=>?_,λk' row d b _ hx=>?_,λk' B' hlt hB=>?_⟩
 ·have hne:k'≠k:=λe=>by subst e;rw[hk]at hx;cases hx
  rw[yc,EZ,ahk hne,ahk hne];exact⟨hx,rfl⟩
 ·rw[yc];rw[ahk (λe=>by subst e;rw[hk]at hx;cases hx)];exact hx
 ·rw[yc]at hB;rw[ahk (by omega)]at hB;exact(Rel.refl dp N g).old k' B' hlt hB
section
section
variable {P:Program} {F:Ut} {g:Own} {dp:Nat} {Γ : List OF} {a:Act} {w:World}
def Rx (dp:Nat)(mv:List (Nat×yE)):yE->yE
 |.tag d m=>if d=dp then(match mv.lookup m with|some q=>q|none=>.tag d m)else .tag d m
 |p=>p
def F7 (ks:List Nat)(f:OF):Bool:=match f.anp with
 |some m=> !ks.contains m
 |none=>true
abbrev Own.mv (g:Own)(dp:Nat)(mv:List (Nat×yE)):Own:=g.re (λ_=>false) (Rx dp mv)
theorem UH {β:Type}{m:Nat} : ∀{l:List (Nat×β)},m ∉ l.map (·.1)->l.lookup m=none
 |[],_=>rfl
 | (k,b)::r,h=>by simp only[aZ,ay,not_or]at h;simp only[List.lookup];rw[show(m==k)=false by simpa using h.1];exact UH h.2
theorem adV {mv:List (Nat×yE)}{m:Nat}(h:m ∉ mv.map (·.1)):Rx dp mv (.tag dp m) = .tag dp m:=by simp[Rx,UH h]
theorem ai5 {mv:List (Nat×yE)}{d m:Nat}(h:d<dp):Rx dp mv (.tag d m) = .tag d m:=by simp only[Rx];rw[ahk (by omega)]
theorem ai4 {mv:List (Nat×yE)}{m:Nat}{q:yE}(h:mv.lookup m=some q):Rx dp mv (.tag dp m)=q:=by simp[Rx,h]
theorem adN {mv:List (Nat×yE)}{f:OF}(h:F7 (mv.map (·.1)) f=true):aiF dp (λ_=>false) (Rx dp mv) f:=λm hm=>by refine⟨rfl,adV λhc=>?_⟩;simp only[F7,hm,kH,List.contains_eq_mem,alR]at h;exact h hc
theorem OW.mv (h:OW P F g dp Γ a w)(mv:List (Nat×yE)):OW P F (g.mv dp mv) dp (Γ.filter (F7 (mv.map (·.1)))) a w:=
 ⟨h.good.re λ_ _ _ _ _ _=>⟨rfl,rfl⟩,λf hf=>by rw[aX]at hf;exact(h.fs f hf.1).re (adN hf.2)⟩
theorem Rel.mv (N:Nat)(mv:List (Nat×yE)):Rel dp N g (g.mv dp mv):=Rel.re λd m h=>⟨rfl,ai5 h⟩
theorem GR.mv {u:Value}{T m:Nat}{q:yE}{mv:List (Nat×yE)}(h:GR g u T (.tag dp m))(hl:mv.lookup m=some q):GR (g.mv dp mv) u T q:=by
 have:=h.re (dr:=λ_=>false) rfl (Rx dp mv)
 rwa[ai4 hl]at this
theorem OW.add (h:OW P F g dp Γ a w){f:OF}(hf:FI P F g dp a w f):OW P F g dp (f :: Γ) a w:=
 ⟨h.good,λx hx=>by exact(ay.1 hx).elim (λe=>e▸hf) (λhx=>h.fs x hx)⟩
theorem OW.am6 (h:OW P F g dp Γ a w){cs:Array Value}{e T m:Nat}{p:yE}
 (hc:∀j u T',j<m*wz P T->cs[j]? = some u->(j%wz P T,T')∈lZ P T->GR g u T' (.blk w.heap.size j)):OW P F (g.upn w.heap.size (.arr T p) m) dp Γ a (w.alloc (.cells cs e)):=by
 have hn:g w.heap.size=none:=by
  cases hg:g w.heap.size with
  |none=>rfl
  |some B=>exact al7 (h.good.lt hg) (AY _)
 have hna:∀T' q,g w.heap.size≠some (.arr T' q):=λT' q e=>by rw[hn]at e;cases e
 have hold:∀k,g k≠none->(w.alloc (.cells cs e)).heap[k]? = w.heap[k]?:= λk hk=>by
  cases hg:g k with
  |none=>exact al7 hg hk
  |some B=>exact YC w _ k (h.good.lt hg)
 have hg':=h.good.world hold;refine⟨⟨λk T' q hk=>?_,λk row d b hk=>?_⟩,λf hf=>?_⟩
 ·rw[yc]at hk;split at hk
  ·rename_i e1;cases hk;subst e1;exact⟨cs,e,heap_alloc_new w _,λj u T' hb hu ht=>(hc j u T' (by rwa[EZ,ahl rfl]at hb) hu ht).upd hna⟩
  ·rename_i hne;obtain⟨cs',e',hw,h2⟩:=hg'.arr k T' q hk;exact⟨cs',e',hw,λj u T' hb hu ht=>(h2 j u T' (by rwa[EZ,ahk hne]at hb) hu ht).upd hna⟩
 ·rw[yc]at hk;split at hk
  ·cases hk
  ·obtain⟨cs',e',hw,h2⟩:=hg'.var k row d b hk;exact⟨cs',e',hw,λr hr=>let ⟨u,hu,hgr⟩:=h2 r hr;⟨u,hu,hgr.upd hna⟩⟩
 ·exact((h.fs f hf).new hn (aA _)).world (by show _<=(w.heap.push _).size;simp)
theorem OW.newVar (h:OW P F g dp Γ a w){cs:Array Value}{e:Nat}{row:List Ref}{d b:Nat}
 (hc:∀r,r∈row->∃u,cs[r.off]? = some u/\GR g u r.ty (.tag d r.m)):OW P F (g.upd w.heap.size (.var row d b)) dp Γ a (w.alloc (.cells cs e)):=by
 have hn:g w.heap.size=none:=by
  cases hg:g w.heap.size with
  |none=>rfl
  |some B=>exact al7 (h.good.lt hg) (AY _)
 have hna:∀T' q,g w.heap.size≠some (.arr T' q):=λT' q e=>by rw[hn]at e;cases e
 have hold:∀k,g k≠none->(w.alloc (.cells cs e)).heap[k]? = w.heap[k]?:= λk hk=>by
  cases hg:g k with
  |none=>exact al7 hg hk
  |some B=>exact YC w _ k (h.good.lt hg)
 have hg':=h.good.world hold;refine⟨⟨λk T' q hk=>?_,λk row' d' b' hk=>?_⟩,λf hf=>?_⟩
 ·rw[yc]at hk;split at hk
  ·cases hk
  ·rename_i hne;obtain⟨cs',e',hw,h2⟩:=hg'.arr k T' q hk;exact⟨cs',e',hw,λj u T' hb hu ht=>(h2 j u T' (by rwa[EZ,ahk hne]at hb) hu ht).upd hna⟩
 ·rw[yc]at hk;split at hk
  ·rename_i e1;cases hk;subst e1;exact⟨cs,e,heap_alloc_new w _,λr hr=>let ⟨u,hu,hgr⟩:=hc r hr;⟨u,hu,hgr.upd hna⟩⟩
  ·obtain⟨cs',e',hw,h2⟩:=hg'.var k row' d' b' hk;exact⟨cs',e',hw,λr hr=>let ⟨u,hu,hgr⟩:=h2 r hr;⟨u,hu,hgr.upd hna⟩⟩
 ·exact((h.fs f hf).new hn (aA _)).world (by show _<=(w.heap.push _).size;simp)
theorem setRow_size (w:World)(k:Nat)(cs:Array Value):(w.setRow k cs).heap.size=w.heap.size:=by simp[World.setRow]
theorem G7 (w:World){k k':Nat}(cs:Array Value)(h:k'≠k):(w.setRow k cs).heap[k']? = w.heap[k']?:=by simp only[World.setRow];rw[Array.getElem?_modify];rw[ahk (Ne.symm h)]
theorem OW.aam (h:OW P F g dp Γ a w){k:Nat}{cs cs':Array Value}{e:Nat}(hw:w.heap[k]? = some (.cells cs e (0,0)))
 (hc:∀B,g k=some B->∃T p,B = .arr T p/\∀j u T',j<g.bd k*wz P T->cs'[j]? = some u->(j%wz P T,T')∈lZ P T->GR g u T' (.blk k j)):OW P F g dp Γ a (w.setRow k cs'):=by
 have hnew:=setRow_heap w k cs cs' e (0,0) hw;refine⟨⟨λk' T p hk=>?_,λk' row d b hk=>?_⟩,λf hf=>(h.fs f hf).world (by rw[setRow_size];exact aA _)⟩
 ·by_cases hkk:k'=k
  ·subst hkk;obtain⟨T',p',hB,h2⟩:=hc _ hk;cases hB;exact⟨cs',e,hnew,h2⟩
  ·rw[G7 w cs' hkk];exact h.good.arr k' T p hk
 ·by_cases hkk:k'=k
  ·subst hkk;obtain⟨T',p',hB,_⟩:=hc _ hk;cases hB
  ·rw[G7 w cs' hkk];exact h.good.var k' row d b hk
theorem GR.Uk {u:Value}{T:Nat}{p:yE}(h:GR g u T p){k m:Nat}{B:Blk}{row:List Ref}{d b:Nat}(hk:g k=some (.var row d b)):GR (g.upn k B m) u T p:=
 h.upd λT' q e=>by rw[hk]at e;cases e
theorem OW.setVar (h:OW P F g dp Γ a w){k:Nat}{cs cs':Array Value}{e b:Nat}{row row':List Ref}(hw:w.heap[k]? = some (.cells cs e (0,0)))(hk:g k=some (.var row dp b))
 (hc:∀r,r∈row'->∃u,cs'[r.off]? = some u/\GR g u r.ty (.tag dp r.m)) {CX:List OF} (hΓ : ∀f,f∈CX->f ∈ Γ /\ ∀r,f = .row b r->r∈row') :
 OW P F (g.upd k (.var row' dp b)) dp CX a (w.setRow k cs'):=by
 have hnew:=setRow_heap w k cs cs' e (0,0) hw;have hg:(g.upd k (.var row' dp b)) k=some (.var row' dp b):=by simp[yc]
 have ho:∀{k'},k'≠k->(g.upd k (.var row' dp b)) k'=g k':=λhne=>by simp[yc,hne]
 refine⟨⟨λk' T p hk'=>?_,λk' Pn d b2 hk'=>?_⟩,λf hf=>?_⟩
 ·by_cases hkk:k'=k
  ·subst hkk;rw[hg]at hk';cases hk'
  ·rw[ho hkk]at hk';obtain⟨c,e',h1,h2⟩:=h.good.arr k' T p hk';exact⟨c,e',by rw[G7 w cs' hkk];exact h1,λj u T' hb hu ht=>(h2 j u T' (by rwa[EZ,ahk hkk]at hb) hu ht).Uk hk⟩
 ·by_cases hkk:k'=k
  ·subst hkk;rw[hg]at hk';cases hk';exact⟨cs',e,hnew,λr hr=>let ⟨u,hu,hgr⟩:=hc r hr;⟨u,hu,hgr.Uk hk⟩⟩
  ·rw[ho hkk]at hk';obtain⟨c,e',h1,h2⟩:=h.good.var k' Pn d b2 hk';exact⟨c,e',by rw[G7 w cs' hkk];exact h1,λr hr=>let ⟨u,hu,hgr⟩:=h2 r hr;⟨u,hu,hgr.Uk hk⟩⟩
 ·obtain⟨hf,hr⟩:=hΓ f hf;have h0:=h.fs f hf;have old:∀{k' T:Nat} {X:Prop},(∀B,g k'=some B->(∃p,B = .arr T p)/\X)->∀B,(g.upd k (.var row' dp b)) k'=some B->(∃p,B = .arr T p)/\X:=by
   intro k' T X hold B hB;by_cases hkk:k'=k
   ·subst hkk;obtain⟨⟨p,e⟩,_⟩:=hold _ hk;cases e
   ·rw[ho hkk]at hB;exact hold B hB
  have hsz:(w.setRow k cs').heap.size=w.heap.size:=setRow_size w k cs';cases f with
  | sr t T=>
    rcases h0 with h0|⟨k',o,n,c,h1,h2,h3⟩
    ·exact .inl h0
    ·exact .inr ⟨k',o,n,c,h1,by rw[hsz];exact h2,old h3⟩
  |ep t T off=>obtain⟨k',o,h1,h2,h3⟩:=h0;exact⟨k',o,h1,by rw[hsz];exact h2,old h3⟩
  | vp t b' off=>
    obtain⟨k',Pn,h1,h2,h3⟩:=h0;by_cases hkk:k'=k
    ·subst hkk;rw[hk]at h3;cases h3;exact⟨k',row',h1,h2,hg⟩
    ·exact⟨k',Pn,h1,h2,by rw[ho hkk];exact h3⟩
  |ref t r=>obtain⟨u,h1,h2⟩:=h0;exact⟨u,h1,h2.Uk hk⟩
  |EO t i r=>obtain⟨vs,x,u,h1,h2,h3,h4⟩:=h0;exact⟨vs,x,u,h1,h2,h3,h4.Uk hk⟩
  | row b' r=>
    obtain⟨k',Pn,h1,h2,h3⟩:=h0;by_cases hkk:k'=k
    ·subst hkk;rw[hk]at h2;cases h2;exact⟨k',row',h1,hg,hr r rfl⟩
    ·exact⟨k',Pn,h1,by rw[ho hkk];exact h2,h3⟩
  |fn t s=>exact h0
theorem Rel.setVar {N k b:Nat}{row row':List Ref}(hk:g k=some (.var row dp b)):Rel dp N g (g.upd k (.var row' dp b)):=by
 refine⟨λk' T d m hd hx=>?_,λk' Pn d b2 hd hx=>?_,λk' B' hlt hB=>?_⟩
 ·have hne:k'≠k:=λe=>by subst e;rw[hk]at hx;cases hx
  rw[yc,EZ,ahk hne,ahk hne];exact⟨hx,rfl⟩
 ·rw[yc];rw[ahk (λe=>by subst e;rw[hk]at hx;cases hx;omega)];exact hx
 ·rw[yc]at hB;split at hB
  ·rename_i e;subst e;cases hB;exact⟨_,hk,λT p hb=>by rcases hb with e|e<;>cases e⟩
  ·exact(Rel.refl dp N g).old k' B' hlt hB
end
end
section
section
variable {P:Program}
theorem dL {α β:Type}{x:Sem α}{f:α->Sem β}{w w':World}{r:β}(h:(x >>= f).run P w = .ok r w'):∃y w1,x.run P w = .ok y w1/\(f y).run P w1 = .ok r w':=by
 rw[cZ]at h;cases hx:x.run P w with
 |ok y w1=>rw[hx]at h;exact⟨y,w1,rfl,h⟩
 |halt e w1=>rw[hx]at h;cases h
theorem iU {α:Type}{x r:α}{w w':World}(h:(pure x:Sem α).run P w = .ok r w'):r=x/\w'=w:=by rw[bQ]at h;cases h;exact⟨rfl,rfl⟩
theorem CW {t:TypeId}{d:TypeDesc}{w w':World}(h:(underlying t).run P w = .ok d w'):P.underlying t=some d/\w'=w:=by
 unfold underlying at h;obtain⟨p,w1,h1,h2⟩:=dL h;rw[run_program]at h1;cases h1;split at h2
 ·rename_i d' hd;obtain⟨rfl,rfl⟩:=iU h2;exact⟨hd,rfl⟩
 ·cases h2
theorem KO {t:TypeId}{i:TypeInfo}{w w':World}(h:(typeInfo t).run P w = .ok i w'):P.info? t=some i/\w'=w:=by
 unfold typeInfo at h;obtain⟨p,w1,h1,h2⟩:=dL h;rw[run_program]at h1;cases h1;split at h2
 ·rename_i d' hd;obtain⟨rfl,rfl⟩:=iU h2;exact⟨hd,rfl⟩
 ·cases h2
theorem Gg {t:TypeId}{k:Nat}{w w':World}(h:(sizeOf t).run P w = .ok k w'):∃i,P.info? t=some i/\i.size=k/\w'=w:=by unfold sizeOf at h;obtain⟨i,w1,h1,h2⟩:=dL h;obtain⟨h3,rfl⟩:=KO h1;obtain⟨rfl,rfl⟩:=iU h2;exact⟨i,h3,rfl,rfl⟩
theorem aeC {t:TypeId}{b:Bool}{w w':World}(h:(isAgg t).run P w = .ok b w'):(∃d,P.underlying t=some d/\b=LH d)/\w'=w:=by unfold isAgg at h;obtain⟨d,w1,h1,h2⟩:=dL h;obtain⟨h3,rfl⟩:=CW h1;cases d<;>(obtain⟨rfl,rfl⟩:=iU h2;exact⟨⟨_,h3,rfl⟩,rfl⟩)
theorem VV {v:Value}{p:Addr}{w w':World}(h:(kJ v).run P w = .ok p w'):v = .pointer (some p)/\w'=w:=by
 unfold kJ at h;split at h
 ·obtain⟨rfl,rfl⟩:=iU h;exact⟨rfl,rfl⟩
 ·cases h
theorem Hf {s:Sem Value}{v:Value}{w w':World}(h:((do pure (.value (<- s))):Sem Next).run P w = .ok (.value v) w'):s.run P w = .ok v w':=by obtain⟨y,w1,h1,h2⟩:=dL h;obtain⟨e,rfl⟩:=iU h2;cases e;exact h1
theorem abz {p:Addr}{v:Value}{w w':World}(h:(load p).run P w = .ok v w'):w'=w/\∀u,w.cell? p=some u->v=u:=by
 rw[run_load]at h;split at h
 ·rename_i u hu;cases h;exact⟨rfl,λu' hu'=>by rw[hu]at hu';cases hu';rfl⟩
 ·rename_i hn;split at h
  ·cases h;exact⟨rfl,λu hu=>by rw[hn]at hu;cases hu⟩
  ·cases h
theorem LM {p:Addr} : ∀(n i:Nat) (acc:Array Value) (w:World) (r:Array Value) (w':World),(loadCellsFrom p i n acc).run P w = .ok r w' ->
 w'=w/\(∀j,j<acc.size->r[j]? = acc[j]?)/\∀j,j<n->∀u,w.cell? (p.add (i+j))=some u->r[acc.size+j]? = some u
 | 0,i,acc,w,r,w',h=>by unfold loadCellsFrom at h;obtain⟨rfl,rfl⟩:=iU h;exact⟨rfl,λ_ _=>rfl,λj hj=>al7 hj (Nat.not_lt_zero _)⟩
 | n+1,i,acc,w,r,w',h=>by
   unfold loadCellsFrom at h;obtain⟨v,w1,h1,h2⟩:=dL h;obtain⟨rfl,hv⟩:=abz h1;obtain⟨h3,h4,h5⟩:=LM n (i+1) (acc.push v) _ r w' h2;refine⟨h3,λj hj=>?_,λj hj u hu=>?_⟩
   ·rw[h4 j (by simp;omega),DK,ahk (by omega)]
   ·cases j with
    | zero=>have:=hv u (by simpa using hu);subst this;have:=h4 acc.size (by simp);simpa using this
    | succ j=>
      have:=h5 j (by omega) u (by rw[show i+1+j=i+(j+1) by omega];exact hu);simp only[Array.size_push]at this
      rwa[show acc.size+1+j=acc.size+(j+1) by omega]at this
theorem N9 {t:TypeId}{p:Addr}{v:Value}{w w':World}(h:(loadVar t p).run P w = .ok v w') :
 w'=w/\((∃d i,P.underlying t=some d/\LH d=true/\P.info? t=some i/\∀j u,j<i.size->w.cell? (p.add j)=some u->v.cells[j]? = some u) \/
  (∃d,P.underlying t=some d/\LH d=false/\∀u,w.cell? p=some u->v=u)):=by
 unfold loadVar at h;obtain⟨b,w1,h1,h2⟩:=dL h;obtain⟨⟨d,hd,rfl⟩,rfl⟩:=aeC h1;cases hb:LH d with
 | true=>rw[hb]at h2;simp only[amB]at h2;obtain⟨k,w2,h3,h4⟩:=dL h2;obtain⟨i,hi,rfl,rfl⟩:=Gg h3;obtain⟨r,w3,h5,h6⟩:=dL h4;unfold loadCells at h5;obtain⟨rfl,_,h7⟩:=LM _ _ _ _ _ _ h5;obtain⟨rfl,rfl⟩:=iU h6;refine⟨rfl,.inl ⟨d,i,hd,hb,hi,λj u hj hu=>?_⟩⟩;have:=h7 j hj u (by simpa using hu);simpa[mO]using this
 | false=>rw[hb]at h2;obtain⟨rfl,hv⟩:=abz h2;exact⟨rfl,.inr ⟨d,hd,hb,hv⟩⟩
end
end
section
def OF.re (s d:Nat):OF->Option OF
 |.sr x T=>if x=s then some (.sr d T)else none
 |.ep x T o=>if x=s then some (.ep d T o)else none
 |.vp x b o=>if x=s/\b≠d then some (.vp d b o)else none
 |.ref x r=>if x=s then some (.ref d r)else none
 |.EO x i r=>if x=s then some (.EO d i r)else none
 |.fn x k=>if x=s then some (.fn d k)else none
 |.row _ _=>none
def OF.mW (P:Program)(s d off:Nat):OF->Option OF
 |.ep x T o=>if x=s/\o+off<wz P T then some (.ep d T (o+off))else none
 |.vp x b o=>if x=s/\b≠d then some (.vp d b (o+off))else none
 |_=>none
def OF.zD (P:Program)(s d sz:Nat):OF->Option OF
 |.sr x T=>if x=s/\wz P T=sz then some (.ep d T 0)else none
 |.ref x r=>if x=s/\r.off=0/\wz P r.ty=sz then some (.ep d r.ty 0)else none
 |_=>none
def OF.part (s d off k:Nat):OF->Option OF
 |.ref x r=>if x=s/\off<=r.off/\r.off<off+k then some (.ref d ⟨r.off-off,r.ty,r.m⟩)else none
 |_=>none
def OF.ahY (s d i:Nat):OF->Option OF
 |.EO x j r=>if x=s/\j=i then some (.ref d r)else none
 |_=>none
def OF.rowP (b d off k:Nat):OF->Option OF
 |.row x r=>if x=b/\off<=r.off/\r.off<off+k then some (.ref d ⟨r.off-off,r.ty,r.m⟩)else none
 |_=>none
def OF.ldv (Γ : List OF)(s d k:Nat):OF->List OF
 |.vp x b o=>if x=s then Γ.filterMap (OF.rowP b d o k)else []
 |_=>[]
section
variable {P:Program} {F:Ut} {g:Own} {dp:Nat} {Γ : List OF} {a:Act} {w:World} {d s:Nat} {v:Value}
theorem FI.copy {f f':OF}(h:FI P F g dp a w f)(hr:f.re s d=some f')(hd:d<a.tmps.size)(hv:v=a.tmps.getD s undef):FI P F g dp (a.put (some d) v) w f':=by
 have hs:=gB (v:=v) hd;subst hv;cases f with
 |sr x T=>simp only[OF.re]at hr;split at hr<;>cases hr;rename_i e;subst e;simp only[FI,hs]at h⊢;exact h
 |ep x T o=>simp only[OF.re]at hr;split at hr<;>cases hr;rename_i e;subst e;simp only[FI,hs]at h⊢;exact h
 | vp x b o=>simp only[OF.re]at hr;split at hr<;>cases hr;rename_i e;obtain⟨rfl,hb⟩:=e;simp only[FI,hs,oK hb]at h⊢;exact h
 |ref x r=>simp only[OF.re]at hr;split at hr<;>cases hr;rename_i e;subst e;simp only[FI,hs]at h⊢;exact h
 |EO x i r=>simp only[OF.re]at hr;split at hr<;>cases hr;rename_i e;subst e;simp only[FI,hs]at h⊢;exact h
 |fn x k=>simp only[OF.re]at hr;split at hr<;>cases hr;rename_i e;subst e;simp only[FI,hs]at h⊢;exact h
 |row b r=>cases hr
theorem FI.mW {f f':OF}{off:Nat}{p:Addr}(h:FI P F g dp a w f)(hr:f.mW P s d off=some f')(hd:d<a.tmps.size)(hp:a.tmps.getD s undef = .pointer (some p))(hv:v = .pointer (some (p.add off))) :
 FI P F g dp (a.put (some d) v) w f':=by
 have hs:=gB (v:=v) hd;cases f with
 | ep x T o=>simp only[OF.mW]at hr;split at hr<;>cases hr;rename_i e;obtain⟨rfl,hlt⟩:=e;obtain⟨k,o',h1,h2,h3⟩:=h;rw[hp]at h1;cases h1;refine⟨k,o'+off,by rw[hs,hv,Addr.tJ],h2,λB hB=>?_⟩;obtain⟨hB1,hB2⟩:=h3 B hB;refine⟨hB1,?_⟩;rw[Nat.add_mod,hB2,wQ (show off<wz P T by omega),wQ hlt]
 | vp x b o=>simp only[OF.mW]at hr;split at hr<;>cases hr;rename_i e;obtain⟨rfl,hb⟩:=e;obtain⟨k,row,h1,h2,h3⟩:=h;rw[hp]at h2;cases h2;exact⟨k,row,by rw[oK hb];exact h1,by rw[hs,hv,Addr.tJ],h3⟩
 |sr _ _=>cases hr
 |ref _ _=>cases hr
 |EO _ _ _=>cases hr
 |row _ _=>cases hr
 |fn _ _=>cases hr
theorem FI.zD {f f':OF}{sz i:Nat}{p:Addr}{m c:Nat}(hg:Good P g w)(h:FI P F g dp a w f)(hr:f.zD P s d sz=some f')(hd:d<a.tmps.size)(hp:a.tmps.getD s undef = .slice (some p) m c)(hv:v = .pointer (some (p.add (i*sz)))) :
 FI P F g dp (a.put (some d) v) w f':=by
 have hs:=gB (v:=v) hd;cases f with
 | sr x T=>
   simp only[OF.zD]at hr;split at hr<;>cases hr;rename_i e;obtain⟨rfl,rfl⟩:=e;rcases h with h|⟨k,o',n,c',h1,h2,h3⟩
   ·rw[ZV,hp]at h;cases h
   ·rw[hp]at h1;cases h1;refine⟨k,o'+i*wz P T,by rw[hs,hv,Addr.tJ],h2,λB hB=>?_⟩;obtain⟨hB1,hB2⟩:=h3 B hB;exact⟨hB1,by rw[Nat.add_mul_mod_self_right];exact hB2⟩
 | ref x r=>
   simp only[OF.zD]at hr;split at hr<;>cases hr;rename_i e;obtain⟨rfl,h0,rfl⟩:=e;obtain⟨u,h1,h2⟩:=h;rw[hp,h0]at h1;simp[mO]at h1;subst h1;rcases h2 with h|⟨k,n,c',h3,h4⟩
   ·cases h
   ·cases h3;refine⟨k,0+i*wz P r.ty,by rw[hs,hv,Addr.tJ],hg.lt h4.1,λB hB=>?_⟩;rw[h4.1]at hB;cases hB;exact⟨⟨_,rfl⟩,by simp⟩
 |ep _ _ _=>cases hr
 |vp _ _ _=>cases hr
 |EO _ _ _=>cases hr
 |row _ _=>cases hr
 |fn _ _=>cases hr
theorem FI.part {f f':OF}{off k:Nat}(h:FI P F g dp a w f)(hr:f.part s d off k=some f')(hd:d<a.tmps.size)
 (hv:∀j u,j<k->(a.tmps.getD s undef).cells[off+j]? = some u->v.cells[j]? = some u\/¬ ∃b n c,u = .slice b n c):FI P F g dp (a.put (some d) v) w f':=by
 have hs:=gB (v:=v) hd;cases f with
 | ref x r=>
   simp only[OF.part]at hr;split at hr<;>cases hr;rename_i e;obtain⟨rfl,h1,h2⟩:=e;obtain⟨u,hu,hg⟩:=h;have:=hv (r.off-off) u (by omega) (by rw[show off+(r.off-off)=r.off by omega];exact hu);rcases this with h3|h3
   ·exact⟨u,by rw[hs];exact h3,hg⟩
   ·exact al7 (by rcases hg with e|⟨k,n,c,e,_⟩<;>exact⟨_,_,_,e⟩) h3
 |sr _ _=>cases hr
 |ep _ _ _=>cases hr
 |vp _ _ _=>cases hr
 |EO _ _ _=>cases hr
 |row _ _=>cases hr
 |fn _ _=>cases hr
theorem FI.ahY {f f':OF}{i:Nat}{vs:Array Value}(h:FI P F g dp a w f)(hr:f.ahY s d i=some f')(hd:d<a.tmps.size)(hp:a.tmps.getD s undef = .tuple vs)(hv:vs[i]? = some v):FI P F g dp (a.put (some d) v) w f':=by
 have hs:=gB (v:=v) hd;cases f with
 | EO x j r=>simp only[OF.ahY]at hr;split at hr<;>cases hr;rename_i e;obtain⟨rfl,rfl⟩:=e;obtain⟨vs',y,u,h1,h2,h3,h4⟩:=h;rw[hp]at h1;cases h1;rw[hv]at h2;cases h2;exact⟨u,by rw[hs];exact h3,h4⟩
 |sr _ _=>cases hr
 |ep _ _ _=>cases hr
 |vp _ _ _=>cases hr
 |ref _ _=>cases hr
 |row _ _=>cases hr
 |fn _ _=>cases hr
theorem FI.ldv {f f':OF}{k:Nat}{p:Addr}(hg:Good P g w)(hΓ : ∀f,f ∈ Γ -> FI P F g dp a w f)(hf:f ∈ Γ)(hr:f'∈f.ldv Γ s d k)(hd:d<a.tmps.size)(hp:a.tmps.getD s undef = .pointer (some p))
 (hv:∀j u,j<k->w.cell? (p.add j)=some u->v.cells[j]? = some u\/¬ ∃b n c,u = .slice b n c):FI P F g dp (a.put (some d) v) w f':=by
 have hs:=gB (v:=v) hd;cases f with
 | vp x b o=>
   simp only[OF.ldv]at hr;split at hr
   ·rename_i e;subst e;rw[dJ]at hr;obtain⟨f2,hf2,hr⟩:=hr;cases f2 with
    | row y r=>
      simp only[OF.rowP]at hr;split at hr<;>cases hr;rename_i e;obtain⟨rfl,h1,h2⟩:=e;obtain⟨kk,row,e1,e2,e3⟩:=hΓ _ hf;obtain⟨kk',row',e4,e5,e6⟩:=hΓ _ hf2;rw[e1]at e4;cases e4;rw[e3]at e5;cases e5;rw[hp]at e2;cases e2;obtain⟨cs,e,hw,hrow⟩:=hg.var _ _ _ _ e3;obtain⟨u,hu,hgr⟩:=hrow r e6;have hc:w.cell? ((⟨kk,o,none⟩:Addr).add (r.off-o))=some u:=by rw[Addr.tJ,show o+(r.off-o)=r.off by omega];simp[gI,hw,hu]
      rcases hv (r.off-o) u (by omega) hc with h3|h3
      ·exact⟨u,by rw[hs];exact h3,hgr⟩
      ·exact al7 (by rcases hgr with e|⟨k,n,c,e,_⟩<;>exact⟨_,_,_,e⟩) h3
    |sr _ _=>cases hr
    |ep _ _ _=>cases hr
    |vp _ _ _=>cases hr
    |ref _ _=>cases hr
    |EO _ _ _=>cases hr
    |fn _ _=>cases hr
   ·cases hr
 |sr _ _=>cases hr
 |ep _ _ _=>cases hr
 |ref _ _=>cases hr
 |EO _ _ _=>cases hr
 |row _ _=>cases hr
 |fn _ _=>cases hr
end
end
section
def oq (P:Program)(Γ : List OF)(d:Nat):Op->List OF
 |.move (.tmp s)=> Γ.filterMap (OF.re s d)
 |.assign (.tmp s)=> Γ.filterMap (OF.re s d)
 |.nilCheck (.tmp s)=> Γ.filterMap (OF.re s d)
 | .fieldAddr t (.tmp s) f=>(match P.underlying t with
   | some (.struct fs)=>(match fs[f]? with
     | some fl=>(match P.info? fl.type with
       |some i=>if i.size=0 then []else Γ.filterMap (OF.mW P s d fl.offset)
       |none=>[])
     |none=>[])
   |_=>[])
 | .indexAddr t (.tmp s) _=>(match P.underlying t with
   | some (.slice e)=>(match P.info? e with
     |some i=> Γ.filterMap (OF.zD P s d i.size)
     |none=>[])
   |_=>[])
 | .field t (.tmp s) f=>(match P.underlying t with
   | some (.struct fs)=>(match fs[f]? with
     | some fl=>(match P.underlying fl.type,P.info? fl.type with
       |some de,some i=> Γ.filterMap (OF.part s d fl.offset (if LH de then i.size else 1))
       |_,_=>[])
     |none=>[])
   |_=>[])
 |.extract (.tmp s) i=> Γ.filterMap (OF.ahY s d i)
 | .load t (.tmp s)=>(match P.underlying t,P.info? t with
   |some de,some i=> Γ.flatMap (OF.ldv Γ s d (if LH de then i.size else 1))
   |_,_=>[])
 |_=>[]
section
variable {P:Program} {F:Ut} {g:Own} {dp:Nat} {Γ : List OF} {a:Act} {w:World} {d:Nat} {v:Value}
theorem Oo {u:Value}(h:∃b n c,u = .slice b n c):u.cells = #[u]:=by obtain⟨b,n,c,rfl⟩:=h;rfl
theorem Yp {α:Type}{k:IntKind}{i:Int}{n:Int}{c:BoundsCode}{r:α}{w w':World}(h:(boundsPanic k i n c:Sem α).run P w = .ok r w'):False:=by
 unfold boundsPanic at h;simp only at h;split at h
 ·obtain⟨_,_,_,h2⟩:=dL h;cases h2
 ·obtain⟨_,_,_,h2⟩:=dL h;cases h2
theorem ajf (h:OW P F g dp Γ a w)(hd:d<a.tmps.size){o:Oper}{w':World}(hr:(execOp a.eval o).run P w = .ok (.value v) w'):∀f,f∈oq P Γ d o.op->FI P F g dp (a.put (some d) v) w f:=by
 intro f hf;have e1:∀t,a.eval (.tmp t)=a.tmps.getD t undef:=λt=>rfl;unfold oq at hf;split at hf
 ·rename_i s ho;rw[dJ]at hf;obtain⟨f0,h0,h1⟩:=hf;simp only[execOp,ho,bQ]at hr;cases hr;exact(h.fs f0 h0).copy h1 hd (e1 s)
 ·rename_i s ho;rw[dJ]at hf;obtain⟨f0,h0,h1⟩:=hf;simp only[execOp,ho,bQ]at hr;cases hr;exact(h.fs f0 h0).copy h1 hd (e1 s)
 ·rename_i s ho;rw[dJ]at hf;obtain⟨f0,h0,h1⟩:=hf;have hv:v=a.tmps.getD s undef:=by
   simp only[execOp,ho,e1]at hr;split at hr
   ·cases hr
   ·cases hr
   ·cases hr
   ·split at hr
    ·cases hr
    ·obtain⟨y,w1,h2,h3⟩:=dL hr;obtain⟨_,w2,_,h5⟩:=dL h3;split at h5
     ·obtain⟨_,_,h6,_⟩:=dL h5;cases h6
     ·have:=(iU h5).1;cases this
      symm;assumption
    ·have:=(iU hr).1;cases this
     symm;assumption
   ·have:=(iU hr).1;cases this;rfl
  exact(h.fs f0 h0).copy h1 hd hv
 ·rename_i t s fi ho;simp only[execOp,ho]at hr;have hr:=Hf hr;unfold Bj at hr;obtain⟨de,w1,h1,h2⟩:=dL hr;obtain⟨hu,rfl⟩:=CW h1;rw[hu]at hf;split at hf
  ·rename_i fs heq;cases heq;simp only at h2;split at hf
   ·rename_i fl hfl;rw[hfl]at h2;simp only at h2;obtain⟨p,w2,h3,h4⟩:=dL h2;obtain⟨hp,rfl⟩:=VV h3;obtain⟨q,w3,h5,h6⟩:=dL h4;obtain⟨rfl,rfl⟩:=iU h6;unfold fieldPlace at h5;obtain⟨k,w4,h7,h8⟩:=dL h5;obtain⟨i,hi,rfl,rfl⟩:=Gg h7;rw[hi]at hf;simp only at hf;split at hf
    ·cases hf
    ·rename_i hne;rw[ahk hne]at h8;obtain⟨rfl,_⟩:=iU h8;rw[dJ]at hf;obtain⟨f0,h9,h10⟩:=hf;exact(h.fs f0 h9).mW h10 hd hp rfl
   ·cases hf
  ·cases hf
 ·rename_i t s ix ho;simp only[execOp,ho]at hr;have hr:=Hf hr;split at hf
  ·rename_i e hu;split at hf
   ·rename_i i hi;rw[dJ]at hf;obtain⟨f0,h0,h1⟩:=hf;unfold wM at hr;obtain⟨ki,w1,h2,h3⟩:=dL hr;obtain⟨k,ii⟩:=ki;have hw1:w1=w:=by
     unfold asIntOf at h2;split at h2<;>first|(obtain⟨_,rfl⟩:=iU h2;rfl)|cases h2
    subst hw1;obtain⟨de,w2,h4,h5⟩:=dL h3;obtain⟨hu',rfl⟩:=CW h4;rw[hu]at hu';cases hu';rw[e1]at h5;cases hs:a.tmps.getD s undef with
    | slice base len cap=>
      rw[hs]at h5;obtain⟨bl,w3,h6,h7⟩:=dL h5;obtain⟨rfl,rfl⟩:=iU h6;simp only at h7;obtain⟨de2,w4,h8,h9⟩:=dL h7;obtain⟨hu2,rfl⟩:=CW h8;rw[hu]at hu2;cases hu2;cases base with
      | none=>simp only at h9;exact(Yp h9).elim
      | some p=>
        simp only at h9;split at h9
        ·obtain⟨sz,w5,h12,h13⟩:=dL h9;obtain⟨i',hi',rfl,rfl⟩:=Gg h12;rw[hi]at hi';cases hi';have hv:=(iU h13).1;exact(h.fs f0 h0).zD h.good h1 hd hs hv
        ·split at h9
         ·cases h9
         ·exact(Yp h9).elim
    |_=>rw[hs]at h5;obtain⟨_,_,h6,_⟩:=dL h5;cases h6
   ·cases hf
  ·cases hf
 ·rename_i t s fi ho;simp only[execOp,ho,e1]at hr;have hr:=Hf hr;unfold Gz at hr;obtain⟨de,w1,h1,h2⟩:=dL hr;obtain⟨hu,rfl⟩:=CW h1;rw[hu]at hf;split at hf
  ·rename_i fs heq;cases heq;simp only at h2;split at hf
   ·rename_i fl hfl;rw[hfl]at h2;simp only at h2;obtain⟨cs,w2,h3,h4⟩:=dL h2;have hcs:a.tmps.getD s undef = .agg cs/\w2=w1:=by
     unfold asAgg at h3;split at h3
     ·rename_i heq;obtain⟨rfl,rfl⟩:=iU h3;exact⟨heq,rfl⟩
     ·cases h3
    obtain⟨hcs,rfl⟩:=hcs;unfold part at h4;obtain⟨b,w3,h5,h6⟩:=dL h4;obtain⟨⟨de',hde,rfl⟩,rfl⟩:=aeC h5;split at hf
    ·rename_i de2 i aoc hi;rw[hde]at aoc;cases aoc;rw[dJ]at hf;obtain⟨f0,h7,h8⟩:=hf;refine(h.fs f0 h7).part h8 hd λj u hj hu=>?_;rw[hcs]at hu;simp only[mO]at hu;cases hb:LH de' with
     | true=>
       rw[hb]at h6 hj;simp only[amB]at h6 hj;obtain⟨k,w4,h9,h10⟩:=dL h6;obtain⟨i',hi',rfl,rfl⟩:=Gg h9;rw[hi]at hi';cases hi';have hv:=(iU h10).1;subst hv
       left
       simp only[mO];have hlt:=(dK.1 hu).1;rw[Array.getElem?_extract];rw[ahl (by omega)];exact hu
     | false=>
       rw[hb]at h6 hj;simp only[pR,if_false]at h6 hj;have hj0:j=0:=(by omega);subst hj0;rw[rQ]at hu;rw[hu]at h6;have hv:=(iU h6).1;subst hv;by_cases hs:∃b n c,v = .slice b n c
       ·left;rw[Oo hs];rfl
       ·exact .inr hs
    ·cases hf
   ·cases hf
  ·cases hf
 ·rename_i s i ho;rw[dJ]at hf;obtain⟨f0,h0,h1⟩:=hf;simp only[execOp,ho,e1]at hr;have hr:=Hf hr;unfold Fq at hr;split at hr
  ·rename_i vs heq;split at hr
   ·rename_i x hx;have hv:=(iU hr).1;subst hv;exact(h.fs f0 h0).ahY h1 hd heq hx
   ·cases hr
  ·cases hr
 ·rename_i t s ho;simp only[execOp,ho,e1]at hr;have hr:=Hf hr;unfold qj at hr;obtain⟨p,w1,h1,h2⟩:=dL hr;obtain⟨hp,rfl⟩:=VV h1;obtain⟨_,hld⟩:=N9 h2;split at hf
  ·rename_i de i hde hi;rw[List.mem_flatMap]at hf;obtain⟨f0,h3,h4⟩:=hf;refine FI.ldv h.good h.fs h3 h4 hd hp λj u hj hu=>?_;rcases hld with⟨de',i',h5,h6,h7,h8⟩|⟨de',h5,h6,h7⟩
   ·rw[hde]at h5;cases h5;rw[hi]at h7;cases h7;rw[h6]at hj;exact .inl (h8 j u hj hu)
   ·rw[hde]at h5;cases h5;rw[h6]at hj;simp only[pR,if_false]at hj;have hj0:j=0:=(by omega);subst hj0;rw[Addr.add_zero]at hu;have hv:=h7 u hu;subst hv;by_cases hs:∃b n c,v = .slice b n c
    ·left;rw[Oo hs];rfl
    ·exact .inr hs
  ·cases hf
 ·cases hf
end
end
section
abbrev RR :=List (Nat×Nat×Option Nat)
def SH (g:Own)(dp:Nat)(cs:Array Value)(R:RR):Prop:=∀e,e∈R->∃u,cs[e.1]? = some u/\match e.2.2 with
 |some m=>GR g u e.2.1 (.tag dp m)
 |none=>ZV u
def ald : Value->Bool
 |.slice none 0 0=>true
 |_=>false
theorem Vw {v:Value}(h:ald v=true):ZV v:=by
 unfold ald at h;split at h
 ·rfl
 ·cases h
def Sv (z:Array Value)(L:List (Nat×Nat)):Option RR:=if L.all λe=>(match z[e.1]? with|some v=>ald v|none=>false)then some (L.map λe=>(e.1,e.2,none))else none
def Gx (Γ : List OF)(off size:Nat):Operand->RR
 | .tmp s=> Γ.filterMap λf=>match f with
   |.ref y r=>if y=s/\r.off<size then some (off+r.off,r.ty,some r.m)else none
   |_=>none
 |_=>[]
def aa4 (place:Nat->Option (Nat×Nat))(Γ : List OF):List (Nat×Operand)->RR->RR
 |[],R=>R
 | (i,x)::r,R=>match place i with
   |some (off,size)=>aa4 place Γ r ((R.filter λe=>decide (e.1<off)||decide (off+size<=e.1))++Gx Γ off size x)
   |none=>R
section
variable {P:Program} {F:Ut} {g:Own} {dp:Nat} {Γ : List OF} {a:Act} {w:World}
theorem acK {z:Array Value}{L:List (Nat×Nat)}{R:RR}(h:Sv z L=some R):SH g dp z R:=by
 unfold Sv at h;split at h
 ·rename_i hz;cases h;intro e he;rw[aS]at he;obtain⟨e0,h0,rfl⟩:=he;rw[aP]at hz;have:=hz e0 h0;cases hc:z[e0.1]? with
  |none=>rw[hc]at this;cases this
  |some v=>rw[hc]at this;exact⟨v,rfl,Vw this⟩
 ·cases h
theorem SH.splice {cs:Array Value}{R:RR}(h:SH g dp cs R){off:Nat}{v:Value}(hfit:off+v.cells.size<=cs.size){x:Operand}(hΓ : ∀f,f ∈ Γ -> FI P F g dp a w f)(hv:a.eval x=v){cs':Array Value}(hcs:cs'.toList=splice cs.toList off v.cells.toList) :
 SH g dp cs' ((R.filter λe=>decide (e.1<off)||decide (off+v.cells.size<=e.1))++Gx Γ off v.cells.size x):=by
 have hget:∀j:Nat,cs'[j]? = if j<off then cs[j]? else if j<off+v.cells.size then v.cells[j-off]? else cs[j]?:= λj=>by rw[<- wG,hcs,qH _ _ _ _ (by simpa using hfit)];simp
 intro e he;rw[aY]at he;rcases he with he|he
 ·rw[aX]at he;obtain⟨h1,h2⟩:=he;obtain⟨u,hu,hg⟩:=h e h1;simp only[Bool.or_eq_true,ahm]at h2;refine⟨u,?_,hg⟩;rw[hget];rcases h2 with h2|h2
  ·rw[ahl h2];exact hu
  ·rw[ahk (by omega),ahk (by omega)];exact hu
 ·unfold Gx at he;split at he
  ·rename_i s;rw[dJ]at he;obtain⟨f,hf,he⟩:=he;split at he
   ·rename_i y r;split at he
    ·rename_i hc;cases he;obtain⟨rfl,hlt⟩:=hc;obtain⟨u,hu,hg⟩:=hΓ _ hf;have e1:a.eval (.tmp y)=a.tmps.getD y undef:=rfl;rw[e1]at hv;rw[hv]at hu;refine⟨u,?_,hg⟩;rw[hget,ahk (by omega),ahl (by omega),show off+r.off-off=r.off by omega];exact hu
    ·cases he
   ·cases he
  ·cases he
theorem WB {place:Nat->Option (Nat×Nat)}(hΓ : ∀f,f ∈ Γ -> FI P F g dp a w f):∀(ps:List (Nat×Operand)) (cs out:Array Value) (R:RR),SH g dp cs R->uw place cs (ps.map λp=>(p.1,a.eval p.2))=some out->SH g dp out (aa4 place Γ ps R)/\out.size=cs.size
 | [],cs,out,R,h,he=>by simp only[jH,uw]at he;cases he;exact⟨h,rfl⟩
 | (i,x)::r,cs,out,R,h,he=>by
   simp only[aZ,uw]at he;simp only[aa4];cases hp:place i with
   |none=>rw[hp]at he;cases he
   | some q=>
     obtain⟨off,size⟩:=q;rw[hp]at he
     dsimp only at he⊢
     split at he
     ·cases he
     ·rename_i hc;have h1:(a.eval x).cells.size=size:=(by simp at hc;exact hc.1);have h2:off+(a.eval x).cells.size<=cs.size:=(by simp at hc;exact hc.2);have hf:=foldl_set (a.eval x).cells off cs h2;have:=WB hΓ r _ out _ (h.splice h2 hΓ rfl hf) he;rw[h1]at this;refine⟨this.1,this.2.trans ?_⟩;rw[<- mY,hf,length_splice _ _ _ (by simpa using h2)];simp
def mk (d j:Nat):Nat:=1000+d*100+j
def rowOf (d:Nat)(R:RR):List Ref:=R.map λe=>⟨e.1,e.2.1,match e.2.2 with|some m=>m|none=>mk d e.1⟩
theorem Xp {cs:Array Value}{R:RR}(h:SH g dp cs R)(d:Nat):∀r,r∈rowOf d R->∃u,cs[r.off]? = some u/\GR g u r.ty (.tag dp r.m):=by
 intro r hr;rw[rowOf,aS]at hr;obtain⟨e,he,rfl⟩:=hr;obtain⟨u,hu,hg⟩:=h e he;refine⟨u,hu,?_⟩;cases hm:e.2.2 with
 |some m=>rw[hm]at hg;exact hg
 |none=>rw[hm]at hg;exact .inl hg
theorem Xb {t:TypeId}{v:Value}{p:Addr}{w w':World}(h:(newVar t v).run P w = .ok p w'):p=⟨w.heap.size,0,none⟩/\w'=w.alloc (.cells v.cells t):=by rw[G6]at h;cases h;exact⟨rfl,rfl⟩
theorem Sz {t:TypeId}{z:Value}{w w':World}(h:(zeroValue t).run P w = .ok z w'):(∃i,P.info? t=some i/\i.zero=some z)/\w'=w:=by
 unfold zeroValue at h;obtain⟨i,w1,h1,h2⟩:=dL h;obtain⟨hi,rfl⟩:=KO h1;split at h2
 ·rename_i v hv;obtain⟨rfl,rfl⟩:=iU h2;exact⟨⟨i,hi,hv⟩,rfl⟩
 ·cases h2
def aaw (d:Nat)(row:List Ref):List OF:=.vp d d 0::row.map (.row d)
theorem OW.aaw (h:OW P F g dp Γ a w){d:Nat}(hd:d<a.tmps.size){cs:Array Value}{e:Nat}{row:List Ref}(hc:∀r,r∈row->∃u,cs[r.off]? = some u/\GR g u r.ty (.tag dp r.m)){N:Nat}(hN:N<=w.heap.size) :
 ∃g',Rel dp N g g'/\OW P F g' dp (aaw d row ++ Γ.filter (Jm d)) (a.put (some d) (.pointer (some ⟨w.heap.size,0,none⟩))) (w.alloc (.cells cs e)):=by
 have hn:g w.heap.size=none:=by
  cases hg:g w.heap.size with
  |none=>rfl
  |some B=>exact al7 (h.good.lt hg) (AY _)
 have h1:=(h.drop d (.pointer (some ⟨w.heap.size,0,none⟩))).newVar (cs:=cs) (e:=e) (row:=row) (d:=dp) (b:=d) hc;refine⟨_,Rel.new hn hN,h1.good,λf hf=>?_⟩;rw[aY]at hf;have hs:=gB (v:=.pointer (some ⟨w.heap.size,0,none⟩)) hd;have hg:(g.upd w.heap.size (.var row dp d)) w.heap.size=some (.var row dp d):=by simp[yc]
 rcases hf with hf|hf
 ·simp only[Ab.aaw,ay,aS]at hf;rcases hf with rfl|⟨r,hr,rfl⟩
  ·exact⟨w.heap.size,row,hs,hs,hg⟩
  ·exact⟨w.heap.size,row,hs,hg,hr⟩
 ·exact h1.fs f hf
end
end
end Go.Ab
