/- What abstract values, states and codes of the program's language mean, and that they are sound (part 1). No conditions. -/
import Derived.Below
import Derived.OwnWalk
import Derived.Orders
import Derived.Lib.Bytealg
import Derived.Lib.Overlaps
import Derived.Laws.Externs
import Derived.KernelRfl
import Derived.Lib.ItoaNum
import Derived.Laws.Cells
import Derived.Lib.Strings
import Derived.Laws.BytesString
import Derived.Laws.MakeOwn
import Derived.Laws.Tables
import Derived.Laws.CopyRow
import Derived.Laws.AppendOwn
import Derived.Laws.OwnMore
import Derived.Tactics
import Derived.Shelf.Strings.Builder1
import Derived.Shelf.Strconv.Itoa3
import Derived.Lib.AppendIntMem
import Derived.Shelf.Strings.OnBuilder
import Derived.Shelf.Strings.Prefix
import Derived.Shelf.Strings.Split
import Derived.Shelf.Strconv.AtoiAll
import Derived.Test.YtghoohcdipegcaaGreatDoorProg
import Derived.Lib.ItoaLen
import Derived.Lib.AtoiAllCases
import Derived.Lib.IndexBytes
import Derived.RangeFuncNested
import Derived.RangeFuncBound
import Derived.RangeFuncCalls
import Derived.RangeFuncLeaves
import Derived.Shelf.Abstract
import Derived.Shelf.RegionOpen
import Derived.WalkKit
import Derived.OwnWalkIn
import Derived.TacticsInMore
import Derived.LoopNIn
import Derived.LoopIn
import Derived.RangeFuncBox
import Derived.Maps.AppendAt
import Derived.Deep.Onto
import Derived.ProofKit
import Derived.Lib.LaidTab
import Derived.OpenShut
import Derived.Carry
import Derived.Stop.LaidErr
import Derived.Shelf.Vars
import Derived.Test.YtghoohcdipegcaaGreatDoorCards
import Derived.Test.YtghoohcdipegcaaGreatDoorTie
import Derived.Deep.DeepHandedRow
import Derived.Deep.DeepWitnessRowRef
import Derived.Lay
set_option linter.unusedVariables false
set_option linter.unusedSimpArgs false
open Array renaming size_append->Af,ext'->BV,range->D9,getElem?_eq_some_iff->oC,getElem?_eq_getElem->oZ,getD_eq_getD_getElem?->qo,getElem?_range->rY,empty_append->tX,getElem?_toList->vW,length_toList->vg,getElem?_map->xw,getElem?_eq_none->yg
open BitVec renaming ofInt->pG
open Bool renaming and_eq_true->ai,not_eq_true'->xY
open Go.Addr renaming add->xO
open Go.Builtin renaming clear_->DI,zeroCells->bK,append_->jJ,copy_->sO,lenOf->uQ,firstCells->uw
open Go.Deferred renaming ofValue->yV
open Go.Extern renaming allRows->DJ,findNext->vG,allNextRows->vX,find->xK,allGenericRows->xu,allTypedRows->yj
open Go.Extern.SlicesOverlaps renaming overlaps->xJ
open Go.Instr renaming indexAt->AX,slice->BO,fill->CJ,alloc->ER,sureAddr->uB,loadAt->wR,sliceBounds->yQ,sliceAt->yz
open Go.IntKind renaming i64->ES
open Go.Lib renaming indexByte->eY,compareBytes->jU
open Go.Op renaming bytesLess->iU,equalIn->zV
open Go.Region renaming wanted->AY
open Go.Result renaming andThen_ok->dK
open Go.Sem renaming run_pure->fQ,run_bind->gQ
open Go.Value renaming int->kU,pointer->yB,cells->zo
open Go.World renaming shape?->Bv,cell?->o7
open Int renaming natCast_mul->EI,ofNat_le->F8,toNat_natCast->ah
open List renaming mem_flatMap->AZ,getElem?_range->CU,mem_map_of_mem->CV,getElem?_set->DL,getElem?_eq_getElem->aF,mem_append->aV,all_eq_true->aZ,length_append->au,mem_cons_self->bC,getElem?_eq_some_iff->bD,length_cons->bH,append_nil->bM,getElem?_take->bQ,map_cons->bf,getD->bu,flatMap_cons->bz,mem_cons->cu,append_assoc->dA,length_nil->dB,eq_nil_of_length_eq_zero->dD,all_cons->dI,getElem_mem->dJ,mem_cons_of_mem->dL,nil_append->dN,mem_of_mem_take->dS,replicate->dh,length_take->dm,getElem?_map->fD,getElem?_append_right->gX,getElem?_append_left->gm,map_nil->iD,length_map->iE,mem_of_getElem?->iV,getElem?_drop->jl,mem_append_right->kK,length_replicate->l7,size_toArray->lV,foldl_cons->lZ,mem_append_left->mW,mem_of_mem_drop->mX,map_take->nK,map_toArray->nV,mem_or_eq_of_mem_set->o5,mem_map->pI,getElem?_eq_none->pg,getD_eq_getElem?_getD->qY,map_congr_left->qp,replicate_succ->qw,take_zero->sD,getElem?_of_mem->uP,not_mem_nil->uT,eq_of_mem_replicate->uU,getElem?_zip_eq_some->zW
open List.cons renaming injEq->wU
open Nat renaming le_of_not_lt->A8,add_comm->Au,min_comm->Aw,mul_comm->Dq,le_refl->ax,mul_le_mul_right->bG,add_mul->eG,min->fU,zero_add->iI,le_trans->iP,add_zero->nG,mod_lt->tH,add_assoc->vw,mul_one->wB,mul_add->yZ,lt_of_lt_of_le->zI
open Option renaming map_none->lC,map_some->lD
open Option.some renaming injEq->aH
open Prod.mk renaming injEq->aJ
open UInt8 renaming ofNat->eU
namespace Go.Ab
open Go
abbrev IH :=Nat->Option (Array Value)
def IH.cell (I:IH)(a:Addr):Option Value:=
 if a.spot.isSome then none else match I a.block with
  |some c=>c[a.off]?
  |none=>none
def IH.le (I J:IH):Prop:=∀b c,I b=some c->J b=some c
theorem IH.le_refl (I:IH):I.le I:=λ_ _ h=>h
theorem IH.le_trans {I J K:IH}(h:I.le J)(k:J.le K):I.le K:=λb c e=>k b c (h b c e)
theorem IH.J6 {I J:IH}(h:I.le J){a:Addr}{v:Value}(hc:I.cell a=some v):J.cell a=some v:=by
 unfold IH.cell at *;split at hc
 ·cases hc
 ·cases hb:I a.block with
  |none=>simp[hb]at hc
  |some c=>simp[hb]at hc;rename_i hs;simp[hs,h _ _ hb,hc]
def Agree (I:IH)(w:World):Prop:=∀b c,I b=some c->∃e fr,w.heap[b]? = some (.cells c e fr)
theorem Agree.cell {I:IH}{w:World}(h:Agree I w){a:Addr}{v:Value}(hc:I.cell a=some v):w.cell? a=some v:=by
 unfold IH.cell at hc;split at hc
 ·cases hc
 ·cases hb:I a.block with
  |none=>simp[hb]at hc
  | some c=>obtain⟨e,fr,hw⟩:=h _ _ hb;rename_i hs;simp[hb]at hc;simp[o7,hw,hs,hc]
theorem Gg {w:World}{b:Nat}{o:Obj}(h:w.heap[b]? = some o):b<w.heap.size:=(oC.1 h).1
theorem Agree.lt {I:IH}{w:World}(h:Agree I w){b:Nat}{c:Array Value}(hc:I b=some c):b<w.heap.size:=by obtain⟨e,fr,hw⟩:=h _ _ hc;exact Gg hw
inductive Cell where
 |lit (v:Value)
 |str (l:List UInt8)
 |sl (sz:Nat) (es:List (List Cell))
 deriving Inhabited
inductive Rd (I:IH):Value->Cell->Prop
 |lit (v:Value) (hv:v.oneCell'=true):Rd I v (.lit v)
 |str (l:List UInt8) (h:l.length<=maxLen):Rd I (.string ⟨⟨l⟩⟩) (.str l)
 |sl (a:Option Addr) (len cap sz:Nat) (es:List (List Cell)) (u:Nat->Nat->Value)
     (hlen:es.length=len) (hcap:len<=cap) (hmax:cap<=maxLen) (hsz:∀e,e∈es->e.length=sz)
     (ha:0<len->a≠none)
     (hcell:∀ad,a=some ad->∀i j,i<len->j<sz->I.cell (ad.add (i*sz+j))=some (u i j))
     (hr:∀i j c,(es.getD i [])[j]? = some c->Rd I (u i j) c):Rd I (.slice a len cap) (.sl sz es)
theorem Rd.mono {I J:IH}(hle:I.le J){v:Value}{c:Cell}(h:Rd I v c):Rd J v c:=by
 induction h with
 |lit v hv=>exact .lit v hv
 |str l h=>exact .str l h
 | sl a len cap sz es u hlen hcap hmax hsz ha hcell hr ih=>exact .sl a len cap sz es u hlen hcap hmax hsz ha (λad e i j hi hj=>IH.J6 hle (hcell ad e i j hi hj)) ih
theorem Rd.one {I:IH}{v:Value}{c:Cell}(h:Rd I v c):v.oneCell'=true:=by
 cases h with
 |lit v hv=>exact hv
 |str l h=>rfl
 |sl=>rfl
inductive AC where
 |c (x:Cell)
 |ptr (b off:Nat)
 |own (b n sz:Nat)
 |Aq (b i sz off:Nat)
 |sub (b lo n:Nat) (c:Option Nat) (sz:Nat)
 |jI (sz:Nat)
 |G9 (cs:List Cell)
 |fn (f:FuncId) (caps:List Nat)
 |opt (T b:Nat)
 |wO (b n:Nat)
 |err (g:Bool)
 |JC
 deriving Inhabited
abbrev Ren :=Nat->Option (Nat×Nat)
def Ren.le (ρ σ:Ren):Prop:=∀b x,ρ b=some x->σ b=some x
theorem Ren.le_refl (ρ:Ren):ρ.le ρ:=λ_ _ h=>h
def GC (I:IH)(ρ:Ren)(v:Value):AC->Prop
 |.c x=>Rd I v x
 |.ptr b off=>∃k cap,ρ b=some (k,cap)/\v = .pointer (some ⟨k,off,none⟩)
 |.own b n _=>∃k cap a c,ρ b=some (k,cap)/\v = .slice a n c/\n<=c/\c<=cap/\(cap≠0->a=some ⟨k,0,none⟩)
 |.Aq b i sz off=>∃k cap,ρ b=some (k,cap)/\v = .pointer (some ⟨k,i*sz+off,none⟩)
 |.sub b lo n c sz=>∃k cap a c',ρ b=some (k,cap)/\v = .slice a n c'/\n<=c'/\lo+c'<=cap/\(∀c0,c=some c0->c'=c0)/\(c'≠0\/(lo=0/\cap≠0)->a=some ⟨k,lo*sz,none⟩)
 |.jI _=>v = .slice none 0 0
 |.G9 cs=>∃p:Addr,v = .pointer (some p)/\∀(j:Nat) (c:Cell),cs[j]? = some c->∃u,I.cell (p.add j)=some u/\Rd I u c
 |.fn f caps=>∃ks:List Nat,ks.length=caps.length/\(∀(j b k:Nat),caps[j]? = some b->ks[j]? = some k->∃cap,ρ b=some (k,cap)) /\
  v = .func (.func f) #[] (ks.map λk=>yB (some ⟨k,0,none⟩)).toArray
 |.opt T b=>∃k,ρ b=some (k,T)/\(v = .pointer none\/v = .pointer (some ⟨k,0,none⟩))
 |.wO b n=>∃k cap,ρ b=some (k,cap)/\n<=cap/\((cap=0/\v = .slice none 0 0)\/(cap≠0/\v = .slice (some ⟨k,0,none⟩) n cap))
 |.err g=>if g=true then ∃t p,v = .iface t p else v = .nilIface
 |.JC=>v.oneCell'=true
theorem GC.mono {I J:IH}(hle:I.le J){ρ σ:Ren}(hr:ρ.le σ){v:Value}{x:AC}(h:GC I ρ v x):GC J σ v x:=by
 cases x with
 |c x=>exact Rd.mono hle h
 |ptr b off=>obtain⟨k,cap,h1,h2⟩:=h;exact⟨k,cap,hr _ _ h1,h2⟩
 |own b n sz=>obtain⟨k,cap,a,c,h1,h2⟩:=h;exact⟨k,cap,a,c,hr _ _ h1,h2⟩
 |Aq b i sz off=>obtain⟨k,cap,h1,h2⟩:=h;exact⟨k,cap,hr _ _ h1,h2⟩
 |sub b lo n c sz=>obtain⟨k,cap,a,c',h1,h2⟩:=h;exact⟨k,cap,a,c',hr _ _ h1,h2⟩
 |jI sz=>exact h
 | G9 cs=>obtain⟨p,hv,hc⟩:=h;exact⟨p,hv,λj c hj=>let ⟨u,h1,h2⟩:=hc j c hj;⟨u,IH.J6 hle h1,h2.mono hle⟩⟩
 | fn f caps=>obtain⟨ks,h1,h2,h3⟩:=h;exact⟨ks,h1,λj b k hb hk=>let ⟨cap,hc⟩:=h2 j b k hb hk;⟨cap,hr _ _ hc⟩,h3⟩
 |opt T b=>obtain⟨k,h1,h2⟩:=h;exact⟨k,hr _ _ h1,h2⟩
 |wO b n=>obtain⟨k,cap,h1,h2⟩:=h;exact⟨k,cap,hr _ _ h1,h2⟩
 |err g=>exact h
 |JC=>exact h
theorem GC.one {I:IH}{ρ:Ren}{v:Value}{x:AC}(h:GC I ρ v x):v.oneCell'=true:=by
 cases x with
 |c x=>exact Rd.one h
 |ptr b off=>obtain⟨k,cap,h1,rfl⟩:=h;rfl
 |own b n sz=>obtain⟨k,cap,a,c,h1,rfl,_⟩:=h;rfl
 |Aq b i sz off=>obtain⟨k,cap,h1,rfl⟩:=h;rfl
 |sub b lo n c sz=>obtain⟨k,cap,a,c',h1,rfl,_⟩:=h;rfl
 |jI sz=>simp only[GC]at h;subst h;rfl
 |G9 cs=>obtain⟨p,rfl,hc⟩:=h;rfl
 |fn f caps=>obtain⟨ks,h1,h2,rfl⟩:=h;rfl
 |opt T b=>obtain⟨k,h1,rfl|rfl⟩:=h<;>rfl
 |wO b n=>obtain⟨k,cap,h1,_,⟨_,rfl⟩|⟨_,rfl⟩⟩:=h<;>rfl
 | err g=>
   simp only[GC]at h;split at h
   ·obtain⟨t,p,rfl⟩:=h;rfl
   ·subst h;rfl
 |JC=>exact h
inductive Box where
 |absent
 |dead
 |var (xs:List AC)
 |dat (sz:Nat) (es:List (List Cell))
 |FV (sz:Nat) (es:List (List Cell))
 |row (e:Nat) (l:List UInt8)
 deriving Inhabited
def Box.uses (x:Box)(p:Option (Nat×Nat))(k:Nat):Prop:=
 match x with
 |.var _=>∃cap,p=some (k,cap)
 |.dat _ _=>∃cap,p=some (k,cap)/\cap≠0
 |.row _ _=>∃cap,p=some (k,cap)/\cap≠0
 |_=>False
def Eb (I:IH)(ρ:Ren)(w:World)(b:Nat):Box->Prop
 |.absent=>ρ b=none
 |.dead=>True
 |.var xs=>∃k cap cs,ρ b=some (k,cap)/\w.heap[k]? = some (.cells cs cap (0,0))/\cs.size=xs.length /\
  ∀(j:Nat) (u:Value) (x:AC),cs[j]? = some u->xs[j]? = some x->GC I ρ u x
 |.dat sz es=>∃k cap,ρ b=some (k,cap)/\es.length<=cap/\cap<=maxLen/\(∀e,e∈es->e.length=sz) /\
  (cap≠0->∃cs e,w.heap[k]? = some (.cells cs e (0,0))/\cs.size=cap*sz/\(∀(j:Nat) (u:Value),cs[j]? = some u->u.oneCell'=true) /\
   ∀(i j:Nat) (c:Cell),(es.getD i [])[j]? = some c->∃u,cs[i*sz+j]? = some u/\Rd I u c)
 |.FV sz es=>∃k cap,ρ b=some (k,cap)/\es.length<=cap/\cap<=maxLen/\(∀e,e∈es->e.length=sz) /\
  (cap≠0->∃cs,I k=some cs /\
   ∀(i j:Nat) (c:Cell),(es.getD i [])[j]? = some c->∃u,cs[i*sz+j]? = some u/\Rd I u c)
 |.row e l=>∃k cap,ρ b=some (k,cap)/\l.length<=cap/\cap<=maxLen /\
  (cap≠0->∃cs,w.heap[k]? = some (.cells cs e (0,0))/\cs.size=cap/\(∀(j:Nat) (u:Value),cs[j]? = some u->u.oneCell'=true) /\
   ∀(j:Nat) (x:UInt8),l[j]? = some x->cs[j]? = some (.int .u8 x.toNat))
structure BX (I:IH)(ρ:Ren)(w:World)(bx:Nat->Box):Prop where
 ok:∀b,Eb I ρ w b (bx b)
 inj:∀b b' k,(bx b).uses (ρ b) k->(bx b').uses (ρ b') k->b=b'
 fresh:∀b k,(bx b).uses (ρ b) k->I k=none
theorem Eb.lt {I:IH}{ρ:Ren}{w:World}{b k:Nat}{x:Box}(h:Eb I ρ w b x)(hu:x.uses (ρ b) k):k<w.heap.size:=by
 cases x with
 |absent=>exact hu.elim
 |dead=>exact hu.elim
 | var xs=>obtain⟨k',cap,cs,hr,hw,_⟩:=h;obtain⟨cap',hu⟩:=hu;rw[hr]at hu;simp only[aH,aJ]at hu;rw[<- hu.1];exact Gg hw
 |FV sz es=>exact hu.elim
 | row e l=>obtain⟨k',cap,hr,_,_,h⟩:=h;obtain⟨cap',hu,h0⟩:=hu;rw[hr]at hu;simp only[aH,aJ]at hu;obtain⟨rfl,rfl⟩:=hu;obtain⟨cs,hw,_⟩:=h h0;exact Gg hw
 | dat sz es=>obtain⟨k',cap,hr,_,_,_,h⟩:=h;obtain⟨cap',hu,h0⟩:=hu;rw[hr]at hu;simp only[aH,aJ]at hu;obtain⟨rfl,rfl⟩:=hu;obtain⟨cs,e,hw,_⟩:=h h0;exact Gg hw
inductive AV where
 |one (x:AC)
 |agg (xs:List AC)
 |xg (xs:List (Bool×List AC))
 deriving Inhabited
def JW (I:IH)(ρ:Ren)(vs:List Value)(xs:List AC):Prop:=
 vs.length=xs.length/\∀(j:Nat) (v:Value) (x:AC),vs[j]? = some v->xs[j]? = some x->GC I ρ v x
theorem JW.mono {I J:IH}(hle:I.le J){ρ σ:Ren}(hr:ρ.le σ){vs:List Value}{xs:List AC}(h:JW I ρ vs xs):JW J σ vs xs:=
 ⟨h.1,λj v x hv hx=>(h.2 j v x hv hx).mono hle hr⟩
def GP (I:IH)(ρ:Ren)(v:Value)(p:Bool×List AC):Prop:=
 if p.1 then ∃cs:Array Value,v = .agg cs/\JW I ρ cs.toList p.2 else ∃x,p.2=[x]/\GC I ρ v x
def GV (I:IH)(ρ:Ren)(v:Value):AV->Prop
 |.one x=>GC I ρ v x
 |.agg xs=>∃cs:Array Value,v = .agg cs/\JW I ρ cs.toList xs
 |.xg ps=>∃vs:Array Value,v = .tuple vs/\vs.size=ps.length/\∀(j:Nat) (v:Value) (p:Bool×List AC),vs[j]? = some v->ps[j]? = some p->GP I ρ v p
theorem GP.mono {I J:IH}(hle:I.le J){ρ σ:Ren}(hr:ρ.le σ){v:Value}{p:Bool×List AC}(h:GP I ρ v p):GP J σ v p:=by
 unfold GP at *;split<;>rename_i hp
 ·rw[if_pos hp]at h;obtain⟨cs,e,hc⟩:=h;exact⟨cs,e,hc.mono hle hr⟩
 ·rw[if_neg hp]at h;obtain⟨x,e,hc⟩:=h;exact⟨x,e,hc.mono hle hr⟩
theorem GV.mono {I J:IH}(hle:I.le J){ρ σ:Ren}(hr:ρ.le σ){v:Value}{x:AV}(h:GV I ρ v x):GV J σ v x:=by
 cases x with
 |one x=>exact GC.mono hle hr h
 |agg xs=>obtain⟨cs,e,hc⟩:=h;exact⟨cs,e,hc.mono hle hr⟩
 |xg ps=>obtain⟨vs,e,hl,hc⟩:=h;exact⟨vs,e,hl,λj v p hv hp=>(hc j v p hv hp).mono hle hr⟩
inductive Slot where
 |none
 |v (g:Bool) (x:AV)
def GSl (I:IH)(ρ:Ren)(v:Value):Slot->Prop
 |.none=>True
 |.v g x=>(g=true->GV I ρ v x)/\(g=false->v=undef)
theorem GSl.mono {I J:IH}(hle:I.le J){ρ σ:Ren}(hr:ρ.le σ){v:Value}{s:Slot}(h:GSl I ρ v s):GSl J σ v s:=by
 cases s with
 |none=>trivial
 |v g x=>exact⟨λhg=>(h.1 hg).mono hle hr,h.2⟩
structure iH where
 tm:Nat->Slot
 bx:Nat->Box
theorem iH.ext' {s t:iH}(h1:s.tm=t.tm)(h2:s.bx=t.bx):s=t:=by cases s;cases t;simp at h1 h2;rw[h1,h2]
def iH.put (st:iH)(t:Nat)(s:Slot):iH:=⟨λt'=>if t'=t then s else st.tm t',st.bx⟩
def iH.yF (st:iH)(b:Nat)(x:Box):iH:=⟨st.tm,λb'=>if b'=b then x else st.bx b'⟩
theorem iH.Rj (st:iH)(t t':Nat)(s:Slot):(st.put t s).tm t'=if t'=t then s else st.tm t':=rfl
theorem iH.agk (st:iH)(t:Nat)(s:Slot):(st.put t s).bx=st.bx:=rfl
theorem iH.ae2 (st:iH)(b:Nat)(x:Box):(st.yF b x).tm=st.tm:=rfl
theorem iH.rM (st:iH)(b b':Nat)(x:Box):(st.yF b x).bx b'=if b'=b then x else st.bx b':=rfl
structure GS (I:IH)(ρ:Ren)(n:Nat)(st:iH)(a:Act)(w:World):Prop where
 agree:Agree I w
 bx:BX I ρ w st.bx
 tm:∀t,t<n->GSl I ρ (a.tmps.getD t undef) (st.tm t)
 size:a.tmps.size=n
 defers:a.defers=[]
structure LU (w w':World)(M:Nat->Prop):Prop where
 os:w'.os=w.os
 tape:w'.tape=w.tape
 output:w'.output=w.output
 size:w.heap.size<=w'.heap.size
 block:∀k,k<w.heap.size->¬M k->w'.heap[k]? = w.heap[k]?
theorem LU.refl (w:World)(M:Nat->Prop):LU w w M:=⟨rfl,rfl,rfl,ax _,λ_ _ _=>rfl⟩
theorem LU.trans {a b c:World}{M N:Nat->Prop}(h:LU a b M)(k:LU b c N)(hN:∀x,x<a.heap.size->N x->M x):LU a c M:=
 ⟨k.os.trans h.os,k.tape.trans h.tape,k.output.trans h.output,iP h.size k.size,
  λx hx hm=>(k.block x (zI hx h.size) (λhn=>hm (hN x hx hn))).trans (h.block x hx hm)⟩
inductive pF where
 |t (s:Nat)
 |k (x:AC)
 deriving Inhabited
def Slot.g : Slot->Bool
 |.none=>false
 |.v g _=>g
def Slot.x : Slot->AV
 |.none=>.one .JC
 |.v _ x=>x
def pF.ev (tm:Nat->Slot):pF->Slot
 |.t s=>tm s
 |.k x=>.v true (.one x)
def pF.slots : pF->List Nat
 |.t s=>[s]
 |.k _=>[]
inductive nM where
 |mv (x:pF)
 |pick (c a b:pF)
 |load (agg:Bool) (k:Nat) (p:pF)
 |store (agg:Bool) (k:Nat) (p x:pF)
 |alloc (l:Nat) (zs:List AC)
 |FO (T e l r:Nat)
 |KT (l sz n:Nat) (zs:List Cell)
 |box (l:Nat) (x:pF)
 |build (zs:List AC) (parts:List (Nat×Nat×pF))
 |jK (l sz n:Nat) (zs:List Cell) (parts:List (Nat×pF))
 |makes (l sz bytes:Nat) (zs:List Cell) (n m:pF)
 |bin (o:BinOp) (x y:pF)
 |beq (ng:Bool) (x y:pF)
 |not (x:pF)
 |neg (x:pF)
 |Gv (k:IntKind) (x:pF)
 |Qy (x:pF)
 |same (x:pF)
 |UO (f:FuncId) (caps:List pF)
 |Cm (x:pF) (lo hi:Option pF)
 |FD (sz:Nat) (x:pF) (lo hi:Option pF)
 |Rw (sz n:Nat) (x:pF)
 |Fq (x:pF)
 |kJ (off:Nat) (x:pF)
 |field (agg:Bool) (off k:Nat) (x:pF)
 |wJ (sz:Nat) (x i:pF)
 |QT (sz n:Nat) (x i:pF)
 |idxs (x i:pF)
 |extract (x:pF) (i:Nat)
 |len (x:pF)
 |lens (x:pF)
 |max (x y:pF)
 |min (x y:pF)
 |append (l sz bytes:Nat) (s x:pF)
 |copy (sz:Nat) (d x:pF)
 |shf (l:Bool) (x y:pF)
 |ZQ (x:pF)
 |zH (sz:Nat) (x:pF) (lo hi:Option pF)
 |sl3 (sz:Nat) (x lo hi mx:pF)
 |WV (l sz bytes:Nat) (s x:pF)
 |Ro (sz:Nat) (d x:pF)
 |Yu (sz:Nat) (zs:List Cell) (x:pF)
 |ZU (x y:pF)
 |Tu (ng:Bool) (x:pF)
 |ovl (x y:pF)
 |aaj (x y:pF)
 |Xx (l sz bytes:Nat) (zs:List Cell) (s x:pF)
 |stop
 deriving Inhabited
def nM.pz : nM->List pF
 |.mv x|.load _ _ x|.box _ x|.not x|.neg x|.Gv _ x|.Qy x|.same x|.Rw _ _ x|.Fq x|.kJ _ x|.field _ _ _ x|.extract x _|.len x|.lens x|.ZQ x|.Yu _ _ x|.Tu _ x=>[x]
 |.pick c a b=>[c,a,b]
 |.store _ _ p x=>[p,x]
 |.alloc _ _|.FO _ _ _ _|.KT _ _ _ _|.stop=>[]
 |.build _ ps=>ps.map (·.2.2)
 |.jK _ _ _ _ ps=>ps.map (·.2)
 |.makes _ _ _ _ n m=>[n,m]
 |.bin _ x y|.beq _ x y|.wJ _ x y|.QT _ _ x y|.idxs x y|.max x y|.min x y|.append _ _ _ x y|.copy _ x y|.shf _ x y|.WV _ _ _ x y|.Ro _ x y|.ZU x y|.aaj x y|.ovl x y|.Xx _ _ _ _ x y=>[x,y]
 |.sl3 _ x a b c=>[x,a,b,c]
 |.UO _ cs=>cs
 |.Cm x lo hi|.FD _ x lo hi|.zH _ x lo hi=>x::(lo.toList++hi.toList)
structure FR where
 vc:Prop
 v:AV
 sets:List (Nat×Box)
abbrev xI (k:IntKind)(n:Int):AV:=.one (.c (.lit (.int k n)))
abbrev yx (b:Bool):AV:=.one (.c (.lit (.bool b)))
abbrev IX (l:List UInt8):AV:=.one (.c (.str l))
abbrev vSl (sz:Nat)(es:List (List Cell)):AV:=.one (.c (.sl sz es))
def FR.bad : FR:=⟨False,.one .JC,[]⟩
def FR.ok (v:AV):FR:=⟨True,v,[]⟩
def DZ (o:BinOp)(k:IntKind)(a b:Int):FR:=
 match o with
 |.add=>.ok (xI k (k.wrap (a+b)))
 |.sub=>.ok (xI k (k.wrap (a-b)))
 |.mul=>.ok (xI k (k.wrap (a*b)))
 |.quo=>⟨b≠0,xI k (k.wrap (a.tdiv b)),[]⟩
 |.rem=>⟨b≠0,xI k (a.tmod b),[]⟩
 |.xor=>.ok (xI k (k.wrap (pG k.bits a ^^^ pG k.bits b).toNat))
 |.and=>.ok (xI k (k.wrap (pG k.bits a &&& pG k.bits b).toNat))
 |.eql=>.ok (yx (a==b))
 |.neq=>.ok (yx (a != b))
 |.lss=>.ok (yx (decide (a<b)))
 |.leq=>.ok (yx (decide (a<=b)))
 |.gtr=>.ok (yx (decide (b<a)))
 |.geq=>.ok (yx (decide (b<=a)))
 |_=>.bad
def D8 (o:BinOp)(a b:List UInt8):FR:=
 match o with
 |.add=>⟨a.length+b.length<=maxLen,IX (a++b),[]⟩
 |.eql=>.ok (yx (a==b))
 |.neq=>.ok (yx (!(a==b)))
 |.lss=>.ok (yx (iU a b))
 |.leq=>.ok (yx (iU a b||a==b))
 |.gtr=>.ok (yx (!(iU a b||a==b)))
 |.geq=>.ok (yx (!(iU a b)))
 |_=>.bad
def Pv (o:BinOp)(x y:AV):FR:=
 match x,y with
 |.one (.c (.lit (.int k a))),.one (.c (.lit (.int k' b)))=>⟨k=k'/\(DZ o k a b).vc,(DZ o k a b).v,[]⟩
 |.one (.c (.str a)),.one (.c (.str b))=>D8 o a b
 |_,_=>.bad
def VH (neg:Bool)(x y:AV):FR:=
 match x,y with
 |.one (.c (.lit (.bool a))),.one (.c (.lit (.bool b)))=>.ok (yx (if neg then a != b else a==b))
 |_,_=>.bad
def O9 (t:Bool)(x y:AV):AV:=
 match x,y with
 |.one (.c (.lit (.bool a))),.one (.c (.lit (.bool b)))=>yx (bif t then a else b)
 |_,_=>if t then x else y
def Box.arr : Box->Option (Nat×List (List Cell))
 |.dat sz es=>some (sz,es)
 |.FV sz es=>some (sz,es)
 |_=>none
def dataOf (bx:Nat->Box):AC->Option Cell
 |.c x=>some x
 |.jI sz=>some (.sl sz [])
 | .own b n sz=>match(bx b).arr with
   |some (_,es)=>some (.sl sz (es.take n))
   |none=>none
 |_=>none
def Ja (bx:Nat->Box):List AC->Option (List Cell)
 |[]=>some []
 | x::r=>match dataOf bx x,Ja bx r with
   |some c,some cs=>some (c::cs)
   |_,_=>none
def pO : List AC->List Nat
 |[]=>[]
 |.own b _ _::r=>b::pO r
 |_::r=>pO r
def He : Box->Box
 |.dat sz es=>.FV sz es
 |x=>x
def Ac (bx:Nat->Box):List AC->Prop
 |[]=>True
 | .own b n sz::r=>(match(bx b).arr with
   |some (sz',es)=>sz'=sz/\n<=es.length
   |none=>False)/\Ac bx r
 |_::r=>Ac bx r
def UD (bx:Nat->Box)(l:List Nat):List (Nat×Box):=l.map λb=>(b,He (bx b))
def AV.cells : AV->List AC
 |.one x=>[x]
 |.agg xs=>xs
 |.xg _=>[]
def AV.flat : AV->Prop
 |.xg _=>False
 |_=>True
def splice {α:Type}(xs:List α)(off:Nat)(ys:List α):List α:=xs.take off++ys++xs.drop (off+ys.length)
def Ak (agg:Bool)(k:Nat)(p:AV)(bx:Nat->Box):FR:=
 match p with
 | .one (.ptr b off)=>match bx b with
   | .var xs=>if agg then⟨off+k<=xs.length,.agg ((xs.drop off).take k),[]⟩else match xs[off]? with
     |some x=>.ok (.one x)
     |none=>.bad
   |_=>.bad
 | .one (.Aq b i sz off)=>match(bx b).arr with
   | some (sz',es)=>if agg then⟨sz'=sz/\i<es.length/\off+k<=sz,.agg ((((es.getD i []).drop off).take k).map .c),[]⟩
     else⟨sz'=sz/\i<es.length/\off<sz,.one (.c ((es.getD i []).getD off default)),[]⟩
   |_=>.bad
 |.one (.G9 cs)=>if agg then⟨k<=cs.length,.agg ((cs.take k).map .c),[]⟩else⟨0<cs.length,.one (.c (cs.getD 0 default)),[]⟩
 |_=>.bad
def Ae (agg:Bool)(k:Nat)(p x:AV)(bx:Nat->Box):FR:=
 match x,agg with
 |.xg _,_=>.bad
 |.one _,true=>.bad
 |.agg _,false=>.bad
 | x,_=>match p with
   | .one (.ptr b off)=>match bx b with
     |.var xs=>⟨x.cells.length=k/\off+k<=xs.length,.one .JC,[(b,.var (splice xs off x.cells))]⟩
     |_=>.bad
   | .one (.Aq b i sz off)=>match bx b,Ja bx x.cells with
     |.dat sz' es,some cs=>⟨sz'=sz/\cs.length=k/\i<es.length/\off+k<=sz/\Ac bx x.cells/\(pO x.cells).contains b=false,.one .JC,UD bx (pO x.cells)++[(b,.dat sz (es.set i (splice (es.getD i []) off cs)))]⟩
     |_,_=>.bad
   |_=>.bad
def QI {α:Type}(zs:List α):List (Nat×List α)->List α
 |[]=>zs
 |(off,xs)::r=>QI (splice zs off xs) r
def UY (n:Nat):Nat×Nat×AV->Prop
 |(off,sz,x)=>x.cells.length=sz/\off+sz<=n/\x.flat
def zL (ev:pF->AV)(bx:Nat->Box)(n sz:Nat):List (Nat×pF)->Option (List (Nat×List Cell))
 |[]=>some []
 | (i,x)::r=>match Ja bx (ev x).cells,zL ev bx n sz r with
   |some cs,some l=>some ((i,cs)::l)
   |_,_=>none
def vS (ev:pF->AV):List (Nat×pF)->List Nat
 |[]=>[]
 |(_,x)::r=>pO (ev x).cells++vS ev r
def BB (ev:pF->AV)(bx:Nat->Box):List (Nat×pF)->Prop
 |[]=>True
 |(_,x)::r=>Ac bx (ev x).cells/\BB ev bx r
def MO (es:List (List Cell)):List (Nat×List Cell)->List (List Cell)
 |[]=>es
 |(i,cs)::r=>MO (es.set i cs) r
def bytesOf : List (List Cell)->Option (List UInt8)
 |[]=>some []
 | [.lit (.int .u8 n)]::r=>match bytesOf r with
   |some l=>some (eU n.toNat::l)
   |none=>none
 |_=>none
def G8 : List AV->Option (List Nat)
 |[]=>some []
 |.one (.ptr b 0)::r=>(G8 r).map (b :: ·)
 |_=>none
def bnd (ev:pF->AV)(o:Option pF)(dflt:Nat):Option Int:=
 match o with
 |none=>some dflt
 | some x=>match ev x with
   |.one (.c (.lit (.int _ n)))=>some n
   |_=>none
def yG (sz:Nat)(x:AV)(bx:Nat->Box):Option (Prop×List (List Cell)):=
 match x with
 |.one (.c (.sl sz' es))=>some (sz'=sz,es)
 |.one (.jI _)=>some (True,[])
 | .one (.own b n sz')=>match(bx b).arr with
   |some (Cb,es)=>some (sz'=sz/\Cb=sz/\n<=es.length,es.take n)
   |_=>none
 | .one (.sub b lo n _ sz')=>match(bx b).arr with
   |some (Cb,es)=>some (sz'=sz/\Cb=sz/\lo+n<=es.length,(es.drop lo).take n)
   |_=>none
 |_=>none
def Et : AV->Option (Nat×Nat×Nat×Option Nat×Nat)
 |.one (.own b n sz)=>some (b,0,n,none,sz)
 |.one (.sub b lo n c sz)=>some (b,lo,n,c,sz)
 |_=>none
def Vb (l:Bool)(x y:AV):FR:=
 match x,y with
 |.one (.c (.lit (.int k a))),.one (.c (.lit (.int _ b)))=>⟨0<=b,xI k (if l then k.wrap (a*2^(min b.toNat k.bits))else a.fdiv (2^(min b.toNat k.bits))),[]⟩
 |_,_=>.bad
def Su (x:AV):FR:=
 match x with
 |.one (.sub _ _ _ (some c) _)=>.ok (xI .i64 c)
 |.one (.jI _)=>.ok (xI .i64 0)
 |_=>.bad
def zU (sz:Nat)(x:AV)(lo:Option Int)(hi:Nat->Option Int):FR:=
 match Et x with
 | some (b,l,n,c,sz')=>match lo,hi n with
   |some p,some q=>⟨sz'=sz/\0<=p/\p<=q/\q<=(match c with|some c=>c|none=>n:Nat),.one (.sub b (l+p.toNat) (q-p).toNat (c.map (· - p.toNat)) sz),[]⟩
   |_,_=>.bad
 |none=>.bad
def JP (sz:Nat)(x p q m:AV):FR:=
 match Et x,p,q,m with
 |some (_,_,n,c,sz'),.one (.c (.lit (.int _ p))),.one (.c (.lit (.int _ q))),.one (.c (.lit (.int _ m)))=>⟨sz'=sz/\0<=p/\p<=q/\q<=m/\m<=(match c with|some c=>c|none=>n:Nat),.one .JC,[]⟩
 |_,_,_,_=>.bad
def FY (l sz bytes:Nat)(s x:AV)(bx:Nat->Box):FR:=
 match yG sz x bx,s with
 | some (p,ys),.one (.sub b lo n (some c) sz')=>match bx b with
   | .dat Cb es=>if n+ys.length<=c then⟨p/\sz'=sz/\Cb=sz/\lo+n<=es.length,.one (.sub b lo (n+ys.length) (some c) sz),[(b,.dat sz (splice es (lo+n) ys))]⟩
     else⟨p/\sz'=sz/\Cb=sz/\lo+n<=es.length/\(match bx l with|.absent=>True|_=>False)/\(n+ys.length)*(bytes+sz+1)<=2^46,.one (.own l (n+ys.length) sz),[(l,.dat sz ((es.drop lo).take n++ys))]⟩
   |_=>.bad
 |_,_=>.bad
def truncS (m:Nat):AV->AV
 |.one (.sub b lo n c sz)=>.one (.sub b lo (min n m) c sz)
 |x=>x
def F6 (sz:Nat)(d x:AV)(bx:Nat->Box):FR:=
 match Et d with
 | some (b,lo,n,_,sz')=>match yG sz (truncS n x) bx with
   | some (p,ys)=>match bx b with
     |.dat Cb es=>⟨p/\sz'=sz/\Cb=sz/\lo<=es.length,xI .i64 (fU ys.length n:Nat),[(b,.dat sz (splice es lo (ys.take n)))]⟩
     |_=>.bad
   |none=>.bad
 |none=>.bad
def FU (l sz bytes:Nat)(zs:List Cell)(s x:AV)(bx:Nat->Box):FR:=
 match s,x with
 | .one (.sub b lo n (some c) sz'),.one (.c (.lit (.int k q)))=>match bx b with
   |.dat Cb es=>⟨k = .i64/\sz'=sz/\Cb=sz/\lo+n<=es.length/\0<=q/\c<n+q.toNat/\(match bx l with|.absent=>True|_=>False)/\(n+q.toNat)*(bytes+sz+1)<=2^46,
    .one (.own l (n+q.toNat) sz),[(l,.dat sz ((es.drop lo).take n++dh q.toNat zs))]⟩
   |_=>.bad
 |.one (.jI _),.one (.c (.lit (.int k q)))=>⟨k = .i64/\0<q/\(match bx l with|.absent=>True|_=>False)/\q.toNat*(bytes+sz+1)<=2^46,.one (.own l q.toNat sz),[(l,.dat sz (dh q.toNat zs))]⟩
 |_,_=>.bad
def IE (ng:Bool)(x:AV):FR:=
 match x with
 |.one (.err g)=>.ok (yx (if ng then g else !g))
 |_=>.bad
def MH (x y:AV):FR:=
 match x,y with
 |.one (.c (.str a)),.one (.c (.str b))=>.ok (xI .i64 (jU a b))
 |_,_=>.bad
def Na (x y:AV):FR:=
 match x,y with
 |.one (.c (.str a)),.one (.c (.lit (.int k c)))=>⟨k = .u8,xI .i64 (eY a c.toNat.toUInt8),[]⟩
 |_,_=>.bad
def UW (x y:AV)(bx:Nat->Box):FR:=
 match Et x,Et y with
 | some (b,_,m,_,_),some (b',_,m',_,_)=>match bx b,bx b' with
   |.dat _ _,.dat sz _=>⟨b≠b'/\sz≠0/\0<m/\0<m',yx false,[]⟩
   |_,_=>.bad
 |_,_=>.bad
def F5 (sz:Nat)(zs:List Cell)(d:AV)(bx:Nat->Box):FR:=
 match Et d with
 | some (b,lo,n,_,sz')=>match bx b with
   |.dat Cb es=>⟨sz'=sz/\Cb=sz/\lo<=es.length,.xg [],[(b,.dat sz (splice es lo (dh n zs)))]⟩
   |_=>.bad
 |none=>.bad
def nM.f (op:nM)(ev:pF->AV)(bx:Nat->Box):FR:=
 match op with
 |.mv x=>.ok (ev x)
 | .pick c a b=>match ev c with
   |.one (.c (.lit (.bool t)))=>.ok (O9 t (ev a) (ev b))
   |_=>.bad
 |.load agg k p=>Ak agg k (ev p) bx
 |.store agg k p x=>Ae agg k (ev p) (ev x) bx
 |.alloc l zs=>⟨(match bx l with|.absent=>True|_=>False),.one (.ptr l 0),[(l,.var zs)]⟩
 |.FO T e l r=>⟨(match bx l with|.absent=>True|_=>False)/\(match bx r with|.absent=>True|_=>False)/\l≠r,.one (.ptr l 0),[(r,.row e []),(l,.var [.opt T l,.wO r 0])]⟩
 |.KT l sz n zs=>⟨(match bx l with|.absent=>True|_=>False),.one (.Aq l 0 sz 0),[(l,.dat sz (dh n zs))]⟩
 |.box l x=>⟨(match bx l with|.absent=>True|_=>False)/\(ev x).flat,.one (.ptr l 0),[(l,.var (ev x).cells)]⟩
 |.build zs ps=>⟨(∀p,p∈ps->UY zs.length (p.1,p.2.1,ev p.2.2)),.agg (QI zs (ps.map λp=>(p.1,(ev p.2.2).cells))),[]⟩
 | .jK l sz n zs ps=>match zL ev bx n sz ps with
   |some l'=>⟨(match bx l with|.absent=>True|_=>False)/\(∀p,p∈l'->p.1<n/\p.2.length=sz)/\BB ev bx ps,.one (.own l n sz),UD bx (vS ev ps)++[(l,.dat sz (MO (dh n zs) l'))]⟩
   |none=>.bad
 | .makes l sz bytes zs n m=>match ev n,ev m with
   | .one (.c (.lit (.int _ n))),.one (.c (.lit (.int _ m)))=>⟨(match bx l with|.absent=>True|_=>False)/\0<=n/\n<=m/\bytes*m<=2^47/\m<=2^47,.one (.own l n.toNat sz),[(l,.dat sz (dh n.toNat zs))]⟩
   |_,_=>.bad
 |.bin o x y=>Pv o (ev x) (ev y)
 |.beq ng x y=>VH ng (ev x) (ev y)
 | .not x=>match ev x with
   |.one (.c (.lit (.bool b)))=>.ok (yx (!b))
   |_=>.bad
 | .neg x=>match ev x with
   |.one (.c (.lit (.int k n)))=>.ok (xI k (k.wrap (0-n)))
   |_=>.bad
 | .Gv k x=>match ev x with
   |.one (.c (.lit (.int _ n)))=>.ok (xI k (k.wrap n))
   |_=>.bad
 | .Qy x=>match yG 1 (ev x) bx with
   | some (p,es)=>match bytesOf es with
     |some l=>⟨p/\l.length<=maxLen,IX l,[]⟩
     |none=>.bad
   |none=>.bad
 | .same x=>match ev x with
   |.one (.c (.str l))=>.ok (IX l)
   |_=>.bad
 | .UO f cs=>match G8 (cs.map ev)with
   |some l=>.ok (.one (.fn f l))
   |none=>.bad
 | .Cm x lo hi=>match ev x with
   | .one (.c (.str s))=>match bnd ev lo 0,bnd ev hi s.length with
     |some a,some b=>⟨0<=a/\a<=b/\b<=s.length,IX ((s.take b.toNat).drop a.toNat),[]⟩
     |_,_=>.bad
   |_=>.bad
 | .FD sz x lo hi=>match ev x with
   | .one (.c (.sl sz' es))=>match bnd ev lo 0,bnd ev hi es.length with
     |some a,some b=>⟨sz'=sz/\0<=a/\a<=b/\b<=es.length,vSl sz ((es.take b.toNat).drop a.toNat),[]⟩
     |_,_=>.bad
   | .one (.jI sz')=>match bnd ev lo 0,bnd ev hi 0 with
     |some a,some b=>⟨a=0/\b=0,.one (.jI sz'),[]⟩
     |_,_=>.bad
   | .one (.own l n sz')=>match bnd ev lo 0,bnd ev hi n with
     |some a,some b=>⟨a=0/\0<=b/\b<=n,.one (.own l b.toNat sz'),[]⟩
     |_,_=>.bad
   |_=>.bad
 | .Rw sz n x=>match ev x with
   | .one (.Aq b 0 sz' 0)=>match bx b with
     |.dat Cb es=>⟨sz'=sz/\Cb=sz/\es.length=n/\n≠0,.one (.own b n sz),[]⟩
     |_=>.bad
   |_=>.bad
 | .Fq x=>match ev x with
   |.one (.ptr b o)=>.ok (.one (.ptr b o))
   |.one (.Aq b i sz o)=>.ok (.one (.Aq b i sz o))
   |.one (.G9 cs)=>.ok (.one (.G9 cs))
   |.one (.fn f cs)=>.ok (.one (.fn f cs))
   |_=>.bad
 | .kJ off x=>match ev x with
   |.one (.ptr b o)=>.ok (.one (.ptr b (o+off)))
   |.one (.Aq b i sz o)=>.ok (.one (.Aq b i sz (o+off)))
   |.one (.G9 cs)=>.ok (.one (.G9 (cs.drop off)))
   |_=>.bad
 | .field agg off k x=>match ev x with
   | .agg xs=>if agg then⟨off+k<=xs.length,.agg ((xs.drop off).take k),[]⟩else match xs[off]? with
     |some x=>.ok (.one x)
     |none=>.bad
   |_=>.bad
 | .wJ sz x i=>match ev x,ev i with
   |.one (.c (.sl sz' es)),.one (.c (.lit (.int _ i)))=>⟨sz'=sz/\0<=i/\i<es.length,.one (.G9 (es.getD i.toNat [])),[]⟩
   |.one (.own b n sz'),.one (.c (.lit (.int _ i)))=>⟨sz'=sz/\0<=i/\i<n,.one (.Aq b i.toNat sz 0),[]⟩
   |.one (.sub b lo n _ sz'),.one (.c (.lit (.int _ i)))=>⟨sz'=sz/\0<=i/\i<n,.one (.Aq b (lo+i.toNat) sz 0),[]⟩
   |_,_=>.bad
 | .QT sz n x i=>match ev x,ev i with
   |.one (.Aq b 0 sz' 0),.one (.c (.lit (.int _ i)))=>⟨sz'=sz/\0<=i/\i<n,.one (.Aq b i.toNat sz 0),[]⟩
   |_,_=>.bad
 | .idxs x i=>match ev x,ev i with
   |.one (.c (.str s)),.one (.c (.lit (.int _ i)))=>⟨0<=i/\i<s.length,xI .u8 (s.getD i.toNat 0).toNat,[]⟩
   |_,_=>.bad
 | .extract x i=>match ev x with
   | .xg ps=>match ps[i]? with
     |some (true,xs)=>.ok (.agg xs)
     |some (false,[x])=>.ok (.one x)
     |_=>.bad
   |_=>.bad
 | .lens x=>match ev x with
   |.one (.c (.str s))=>.ok (xI .i64 s.length)
   |_=>.bad
 | .len x=>match ev x with
   |.one (.c (.sl _ es))=>.ok (xI .i64 es.length)
   |.one (.jI _)=>.ok (xI .i64 0)
   |.one (.own _ n _)=>.ok (xI .i64 n)
   |.one (.sub _ _ n _ _)=>.ok (xI .i64 n)
   |_=>.bad
 | .max x y=>match ev x,ev y with
   |.one (.c (.lit (.int k a))),.one (.c (.lit (.int k' b)))=>⟨k=k',xI k (if b>a then b else a),[]⟩
   |_,_=>.bad
 | .min x y=>match ev x,ev y with
   |.one (.c (.lit (.int k a))),.one (.c (.lit (.int k' b)))=>⟨k=k',xI k (if b<a then b else a),[]⟩
   |_,_=>.bad
 | .append l sz bytes s x=>match yG sz (ev x) bx with
   | some (p,ys)=>match ev s with
     |.one (.jI _)=>⟨p/\(match bx l with|.absent=>True|_=>False)/\ys.length*(bytes+sz+1)<=2^46,.one (.own l ys.length sz),[(l,.dat sz ys)]⟩
     | .one (.own b n sz')=>match bx b with
       |.dat Cb es=>⟨p/\(match bx l with|.absent=>True|_=>False)/\sz'=sz/\Cb=sz/\n<=es.length/\(n+ys.length)*(bytes+sz+1)<=2^46/\b≠l,
        .one (.own l (n+ys.length) sz),[(b,.dead),(l,.dat sz (es.take n++ys))]⟩
       |_=>.bad
     |_=>.bad
   |none=>.bad
 | .copy sz d x=>match yG sz (ev x) bx with
   | some (p,ys)=>match ev d with
     | .one (.own b n sz')=>match bx b with
       |.dat Cb es=>⟨p/\sz'=sz/\Cb=sz/\n<=es.length,xI .i64 (fU ys.length n:Nat),[(b,.dat sz (splice es 0 (ys.take n)))]⟩
       |_=>.bad
     |.one (.jI _)=>.ok (xI .i64 0)
     |_=>.bad
   |none=>.bad
 |.shf l x y=>Vb l (ev x) (ev y)
 |.ZQ x=>Su (ev x)
 |.zH sz x lo hi=>zU sz (ev x) (bnd ev lo 0) (bnd ev hi)
 |.sl3 sz x p q m=>JP sz (ev x) (ev p) (ev q) (ev m)
 |.WV l sz bytes s x=>FY l sz bytes (ev s) (ev x) bx
 |.Ro sz d x=>F6 sz (ev d) (ev x) bx
 |.Yu sz zs x=>F5 sz zs (ev x) bx
 |.ZU x y=>MH (ev x) (ev y)
 |.Tu ng x=>IE ng (ev x)
 |.ovl x y=>UW (ev x) (ev y) bx
 |.aaj x y=>Na (ev x) (ev y)
 |.stop=>.bad
 |.Xx l sz bytes zs s x=>FU l sz bytes zs (ev s) (ev x) bx
def lvl : AV->List Nat
 |.one (.ptr b _)=>[b]
 |.one (.own b _ _)=>[b]
 |.one (.Aq b _ _ _)=>[b]
 |.one (.sub b _ _ _ _)=>[b]
 |_=>[]
def nM.rd (op:nM)(ev:pF->AV):List Nat:=
 match op with
 |.load _ _ p=>lvl (ev p)
 |.store _ _ p x=>lvl (ev p)++(match ev p with|.one (.Aq _ _ _ _)=>pO (ev x).cells|_=>[])
 |.jK l _ _ _ ps=>l::vS ev ps
 |.alloc l _|.KT l _ _ _|.box l _|.makes l _ _ _ _ _=>[l]
 |.FO _ _ l r=>[l,r]
 |.Qy x=>lvl (ev x)
 |.Rw _ _ x=>lvl (ev x)
 |.append l _ _ s x=>l::(lvl (ev s)++lvl (ev x))
 |.copy _ d x=>lvl (ev d)++lvl (ev x)
 |.WV l _ _ s x=>l::(lvl (ev s)++lvl (ev x))
 |.Ro _ d x=>lvl (ev d)++lvl (ev x)
 |.Yu _ _ x=>lvl (ev x)
 |.ovl x y=>lvl (ev x)++lvl (ev y)
 |.Xx l _ _ _ s _=>l::lvl (ev s)
 |_=>[]
def Xq (I:IH)(ρ:Ren)(vs:List Value)(xs:List AV):Prop:=
 vs.length=xs.length/\∀(j:Nat) (v:Value) (x:AV),vs[j]? = some v->xs[j]? = some x->GV I ρ v x
def Ew (l:List Box):Nat->Box:=λb=>l.getD b .absent
structure Tabs (P:Program)(I:IH):Prop where
 pow:∀g,P.globalNamed "internal/strconv.uint64pow10" = some g->I g=some (Go.Lib.pow10Tab.map λz=>kU .u64 z).toArray
 mxl:∀g,P.globalNamed "internal/bytealg.MaxLen" = some g->∃m,I.cell ⟨g,0,none⟩=some (.int .i64 m)
 ers:∀g,P.globalNamed "strconv.ErrSyntax" = some g->∃v,I.cell ⟨g,0,none⟩=some v/\(v = .nilIface\/∃t p,v = .iface t p)
 err:∀g,P.globalNamed "strconv.ErrRange" = some g->∃v,I.cell ⟨g,0,none⟩=some v/\(v = .nilIface\/∃t p,v = .iface t p)
theorem Tabs.mono {P:Program}{I J:IH}(h:Tabs P I)(hle:I.le J):Tabs P J:=
 ⟨λg hg=>hle _ _ (h.pow g hg),λg hg=>(h.mxl g hg).imp λ_ h=>IH.J6 hle h,λg hg=>(h.ers g hg).imp λ_ h=>⟨IH.J6 hle h.1,h.2⟩,λg hg=>(h.err g hg).imp λ_ h=>⟨IH.J6 hle h.1,h.2⟩⟩
def kV (P:Program)(f:FuncId)(args:List AV)(fp:List Box)(post:AV->List Box->Prop):Prop:=
 ∀ (I:IH) (ρ:Ren) (w:World) (vs:List Value),Tabs P I->Agree I w->BX I ρ w (Ew fp)->Xq I ρ vs args ->
   Calls P f vs.toArray w λe w'=>∃(v:Value) (J:IH) (σ:Ren) (r:AV) (bs:List Box),e = .returned v/\post r bs/\GV J σ v r/\Agree J w'/\BX J σ w' (Ew bs) /\
    I.le J/\LU w w' (λk=>∃b,(Ew fp b).uses (ρ b) k) /\
    (∀b k,(Ew bs b).uses (σ b) k->w.heap.size<=k\/∃b',(Ew fp b').uses (ρ b') k) /\
    (∀k,k<w.heap.size->(¬ ∃b,(Ew fp b).uses (ρ b) k)->J k=I k) /\
    (∀b,b<fp.length->σ b=ρ b)
def dY (P:Program)(f:FuncId)(args:List AV)(r:AV):Prop:=kV P f args [] λr' bs=>r'=r/\bs=[]
inductive Cv (bx:Nat->Box):AC->AC->Prop
 |refl (x:AC):Cv bx x x
 |jI (sz:Nat):Cv bx (.jI sz) (.c (.sl sz []))
 |own (b n sz:Nat) (es:List (List Cell)) (h:(bx b).arr=some (sz,es)) (hn:n<=es.length):Cv bx (.own b n sz) (.c (.sl sz (es.take n)))
inductive CvL (bx:Nat->Box):List AC->List AC->Prop
 |nil:CvL bx [] []
 |cons {x y:AC} {xs ys:List AC} (h:Cv bx x y) (t:CvL bx xs ys):CvL bx (x::xs) (y::ys)
inductive CvA (bx:Nat->Box):AV->AV->Prop
 |one {x y:AC} (h:Cv bx x y):CvA bx (.one x) (.one y)
 |agg {xs ys:List AC} (h:CvL bx xs ys):CvA bx (.agg xs) (.agg ys)
inductive KP (bx:Nat->Box):List AV->List AV->Prop
 |nil:KP bx [] []
 |cons {x y:AV} {xs ys:List AV} (h:CvA bx x y) (t:KP bx xs ys):KP bx (x::xs) (y::ys)
def Cell.isLit : Cell->Bool
 |.sl _ _=>false
 |_=>true
def AC.yf : AC->Bool
 |.c _=>true
 |.err _=>true
 |_=>false
def AC.isLit : AC->Bool
 |.c x=>x.isLit
 |_=>false
def AV.all (p:AC->Bool):AV->Bool
 |.one x=>p x
 |.agg xs=>xs.all p
 |.xg ps=>ps.all λq=>q.2.all p
def AV.owns : AV->List Nat
 |.one x=>pO [x]
 |.agg xs=>pO xs
 |.xg ps=>ps.flatMap λq=>pO q.2
def iH.FV (st:iH)(bs:List Nat):iH:=⟨st.tm,λb=>if b∈bs then He (st.bx b)else st.bx b⟩
def iH.um (st:iH):List (Nat×Box)->iH
 |[]=>st
 |(b,x)::r=>(st.yF b x).um r
def iH.AL (st:iH):Option Nat->Slot->iH
 |none,_=>st
 |some t,s=>st.put t s
def Fz (π:Nat->Nat):AC->AC
 |.ptr b off=>.ptr (π b) off
 |.own b n sz=>.own (π b) n sz
 |.sub b lo n c sz=>.sub (π b) lo n c sz
 |.Aq b i sz off=>.Aq (π b) i sz off
 |.fn f cs=>.fn f (cs.map π)
 |.opt T b=>.opt T (π b)
 |.wO b n=>.wO (π b) n
 |x=>x
def Es (π:Nat->Nat):AV->AV
 |.one x=>.one (Fz π x)
 |.agg xs=>.agg (xs.map (Fz π))
 |.xg ps=>.xg (ps.map λq=>(q.1,q.2.map (Fz π)))
def D6 (π:Nat->Nat):Box->Box
 |.var xs=>.var (xs.map (Fz π))
 |x=>x
def AC.wH (m:Nat):AC->Bool
 |.ptr b _=>decide (b<m)
 |.own b _ _=>decide (b<m)
 |.sub b _ _ _ _=>decide (b<m)
 |.Aq b _ _ _=>decide (b<m)
 |.fn _ cs=>cs.all λb=>decide (b<m)
 |.opt _ b=>decide (b<m)
 |.wO b _=>decide (b<m)
 |_=>true
def Box.wH (m:Nat):Box->Bool
 |.var xs=>xs.all (AC.wH m)
 |_=>true
inductive L8 (P:Program)(f:FuncId)(wo:List AV)(p:Bool)(d:Option Nat)(st:iH)(K:List Nat->List Nat->iH->Prop):Prop
 |lit (ds:List AV) (r:AV) (hc:p=true->KP st.bx wo ds) (hd:ds.all (·.all AC.yf)=true) (h:p=true->dY P f ds r) (hr:r.all AC.isLit=true) (k:K (wo.flatMap AV.owns) [] (st.AL d (.v p r)))
 |pure (ds:List AV) (r:AV) (hp:p=true) (hc:KP st.bx wo ds) (hd:ds.all (·.all AC.yf)=true) (h:dY P f ds r) (hr:r.all AC.yf=true) (k:K (wo.flatMap AV.owns) (wo.flatMap AV.owns) ((st.FV (wo.flatMap AV.owns)).AL d (.v true r)))
 |gen (hp:p=true) (ds:List AV) (fp:List Box) (sg nu:List Nat) (post:AV->List Box->Prop)
  (hl:sg.length=fp.length) (hn:(sg++nu).Nodup) (hf:∀i,i<fp.length->st.bx ((sg++nu).getD i 0)=D6 (λb=>(sg++nu).getD b 0) (fp.getD i .absent))
  (hne:∃r bs,post r bs) (hv:∀b,b∈nu->st.bx b = .absent/\10<=b) (hra:(ds.all λx=>x.all (AC.wH fp.length))=true) (hrf:fp.all (Box.wH fp.length)=true) (ha:wo=ds.map (Es λb=>(sg++nu).getD b 0)) (h:kV P f ds fp post)
  (k:∀r bs,post r bs->bs.length=(sg++nu).length /\
   K (sg++nu) (sg++nu) ((st.um ((sg++nu).zip (bs.map (D6 λb=>(sg++nu).getD b 0)))).AL d (.v true (Es (λb=>(sg++nu).getD b 0) r))))
 |Pz (hp:p=true) (az:List AV) (hc:KP st.bx wo az) (ds:List AV) (fp:List Box) (sg nu:List Nat) (post:AV->List Box->Prop)
     (hl:sg.length=fp.length) (hn:(sg++nu).Nodup) (hf:∀i,i<fp.length->(st.FV (wo.flatMap AV.owns)).bx ((sg++nu).getD i 0)=D6 (λb=>(sg++nu).getD b 0) (fp.getD i .absent))
     (hne:∃r bs,post r bs) (hv:∀b,b∈nu->st.bx b = .absent/\10<=b) (hra:(ds.all λx=>x.all (AC.wH fp.length))=true) (hrf:fp.all (Box.wH fp.length)=true) (ha:az=ds.map (Es λb=>(sg++nu).getD b 0)) (h:kV P f ds fp post)
     (k:∀r bs,post r bs->bs.length=(sg++nu).length /\
      K (wo.flatMap AV.owns++(sg++nu)) (wo.flatMap AV.owns++(sg++nu)) (((st.FV (wo.flatMap AV.owns)).um ((sg++nu).zip (bs.map (D6 λb=>(sg++nu).getD b 0)))).AL d (.v true (Es (λb=>(sg++nu).getD b 0) r))))
inductive DU {α:Type}(x:α):Type
 |mk
def wF (P:Program)(f:FuncId)(wo:List AV)(p:Bool)(d:Option Nat)(st:iH)(K:List Nat->List Nat->iH->Prop)(_:DU K):Prop:=L8 P f wo p d st K
inductive Qa where
 |op (o:nM)
 |call (f:FuncId) (args:List pF)
 |GN (x:pF) (args:List pF)
 deriving Inhabited
structure mY where
 g:Option (Nat×Bool)
 d:Option Nat
 i:Qa
 deriving Inhabited
def AA (P:Program)(f:FuncId):Bool:=match P.funcs[f]? with
 |some fn=> !(fn.name == "runtime.NumGoroutine")&&fn.body.isSome
 |none=>false
def DR (tm:Nat->Slot):Option (Nat×Bool)->Prop
 |none=>True
 | some (s,_)=>match tm s with
   |.v false _=>True
   |.v true (.one (.c (.lit (.bool _))))=>True
   |_=>False
def vI (tm:Nat->Slot):Option (Nat×Bool)->Bool
 |none=>true
 | some (s,w)=>match tm s with
   |.v true (.one (.c (.lit (.bool b))))=>b==w
   |_=>false
def nM.valid (ev:pF->Slot):nM->Prop
 | .pick c a b=>(ev c).g=true/\(match(ev c).x with
   |.one (.c (.lit (.bool t)))=>(t=true->(ev a).g=true)/\(t=false->(ev b).g=true)
   |_=>False)
 |o=>∀x,x∈o.pz->(ev x).g=true
def fA (tm:Nat->Slot)(x:pF):AV:=(x.ev tm).x
def TOp (o:nM)(p:Bool)(d:Option Nat)(st:iH)(K:List Nat->List Nat->iH->Prop):Prop:=
 (p=true->o.valid (pF.ev st.tm)/\(o.f (fA st.tm) st.bx).vc /\
  K (o.rd (fA st.tm)) ((o.f (fA st.tm) st.bx).sets.map (·.1)) ((st.um (o.f (fA st.tm) st.bx).sets).AL d (.v true (o.f (fA st.tm) st.bx).v))) /\
 (p=false->K [] [] (st.AL d (.v false (.one .JC))))
def T (P:Program)(o:mY)(st:iH)(K:List Nat->List Nat->iH->Prop):Prop:=
 DR st.tm o.g/\match o.i with
  |.op op=>TOp op (vI st.tm o.g) o.d st K
  |.call f args=>(vI st.tm o.g=true->∀x,x∈args->(x.ev st.tm).g=true)/\wF P f (args.map (fA st.tm)) (vI st.tm o.g) o.d st K .mk
  | .GN x args=>(vI st.tm o.g=true->(x.ev st.tm).g=true/\∀x,x∈args->(x.ev st.tm).g=true)/\match vI st.tm o.g,fA st.tm x with
    |false,_=>wF P 0 [] false o.d st K .mk
    |true,.one (.fn f caps)=>AA P f=true/\wF P f (args.map (fA st.tm)++caps.map λb=>.one (.ptr b 0)) true o.d st K .mk
    |true,_=>False
def wpOps (P:Program):List mY->iH->(iH->Prop)->Prop
 |[],st,K=>K st
 |o::r,st,K=>T P o st λ_ _ st'=>wpOps P r st' K
def Lc (a b:List Nat):Bool:=a.all λx=> !b.contains x
def Am (I9:List Nat)(rd wr:List Nat):List (Nat×List Nat×List Nat)->Bool
 |[]=>true
 |(j,r,w)::l=>(I9.contains j||(Lc wr r&&Lc wr w&&Lc rd w))&&Am I9 rd wr l
def wpD (P:Program):List (mY×List Nat)->Nat->List (Nat×List Nat×List Nat)->iH->(iH->Prop)->Prop
 |[],_,_,st,K=>K st
 |(o,I9)::r,i,log,st,K=>T P o st λrd wr st'=>Am I9 rd wr log=true/\wpD P r (i+1) ((i,rd,wr)::log) st' K
def iH.keep (st:iH)(ts:List Nat):iH:=⟨λt=>if t∈ts then st.tm t else .none,st.bx⟩
def iH.of (ts:List (Nat×Slot))(bs:List (Nat×Box)):iH:=
 ⟨λt=>match ts.find? (λp=>p.1==t)with|some p=>p.2|none=>.none,λb=>match bs.find? (λp=>p.1==b)with|some p=>p.2|none=>.absent⟩
def Cj : List (Nat×Slot)->Nat->Slot
 |[],_=>.none
 |(t',s)::r,t=>if t'=t then s else Cj r t
def tV : List (Nat×Box)->Nat->Box
 |[],_=>.absent
 |(t',s)::r,t=>if t'=t then s else tV r t
theorem Jb (ts:List (Nat×Slot))(bs:List (Nat×Box))(t:Nat):(iH.of ts bs).tm t=Cj ts t:=by
 simp only[iH.of]
 induction ts with
 |nil=>rfl
 | cons p r ih=>
   obtain⟨a,b⟩:=p;by_cases h:a=t
   ·subst h;simp[Cj]
   ·simp[Cj,h,ih]
theorem FX (ts:List (Nat×Slot))(bs:List (Nat×Box))(t:Nat):(iH.of ts bs).bx t=tV bs t:=by
 simp only[iH.of]
 induction bs with
 |nil=>rfl
 | cons p r ih=>
   obtain⟨a,b⟩:=p;by_cases h:a=t
   ·subst h;simp[tV]
   ·simp[tV,h,ih]
theorem agh (ts:List (Nat×Slot))(bs:List (Nat×Box))(t:Nat)(s:Slot):(iH.of ts bs).put t s=iH.of ((t,s)::ts) bs:=by
 apply iH.ext'
 ·funext t';rw[Jb,iH.Rj,Jb,Cj];by_cases h:t'=t
  ·simp[h]
  ·rw[if_neg h,if_neg (λe=>h e.symm)]
 ·funext b;rw[iH.agk,FX,FX]
def setB : List (Nat×Box)->Nat->Box->List (Nat×Box)
 |[],b,x=>[(b,x)]
 |(b',y)::r,b,x=>if b'=b then(b,x)::r else(b',y)::setB r b x
theorem Yh (bs:List (Nat×Box))(b b':Nat)(x:Box):tV (setB bs b x) b'=if b'=b then x else tV bs b':=by
 induction bs with
 | nil => simp only[setB,tV];by_cases h:b=b'
          ·simp[h]
          ·rw[if_neg h,if_neg (λe=>h e.symm)]
 | cons p r ih=>
   obtain⟨c,y⟩:=p;simp only[setB];by_cases h:c=b
   ·subst h;simp only[if_true,tV];by_cases h':c=b'
    ·simp[h']
    ·rw[if_neg h',if_neg h',if_neg (λe=>h' e.symm)]
   ·rw[if_neg h];simp only[tV,ih];by_cases h':c=b'
    ·subst h';simp[h]
    ·simp[h']
theorem aeT (ts:List (Nat×Slot))(bs:List (Nat×Box))(b:Nat)(x:Box):(iH.of ts bs).yF b x=iH.of ts (setB bs b x):=by
 apply iH.ext'
 ·funext t;rw[iH.ae2,Jb,Jb]
 ·funext b';rw[iH.rM,FX,FX,Yh]
def Wv (ts:List (Nat×Slot)):List Nat->List (Nat×Slot)
 |[]=>[]
 |t::r=>(t,Cj ts t)::Wv ts r
theorem aeS (ts:List (Nat×Slot))(bs:List (Nat×Box))(l:List Nat):(iH.of ts bs).keep l=iH.of (Wv ts l) bs:=by
 apply iH.ext'
 ·funext t
  simp only[iH.keep];rw[Jb,Jb]
  induction l with
  |nil=>rfl
  | cons a r ih=>
    simp only[Wv,Cj];by_cases h:a=t
    ·subst h;simp
    ·rw[if_neg h,<- ih];have h':¬t=a:=λe=>h e.symm;simp[h']
 ·funext b;simp only[iH.keep];rw[FX,FX]
theorem aaK (st:iH)(s:Slot):st.AL none s=st:=rfl
theorem aaL (st:iH)(t:Nat)(s:Slot):st.AL (some t) s=st.put t s:=rfl
theorem aaV (st:iH):st.um []=st:=rfl
theorem Yw (st:iH)(b:Nat)(x:Box)(r:List (Nat×Box)):st.um ((b,x)::r)=(st.yF b x).um r:=rfl
theorem ahx (tm:Nat->Slot)(s:Nat):(pF.t s).ev tm=tm s:=rfl
theorem ahw (tm:Nat->Slot)(x:AC):(pF.k x).ev tm = .v true (.one x):=rfl
theorem g_v (g:Bool)(x:AV):(Slot.v g x).g=g:=rfl
theorem x_v (g:Bool)(x:AV):(Slot.v g x).x=x:=rfl
theorem aco (w:World)(o:Obj)(r:Nat)(h:r<w.heap.size):(w.alloc o).heap[r]? = w.heap[r]?:=by show(w.heap.push o)[r]? = w.heap[r]?;rw[Array.getElem?_push,if_neg (Nat.ne_of_lt h)]
theorem Eb.keep {I J:IH}{ρ σ:Ren}{w w':World}{b:Nat}{x:Box}(h:Eb I ρ w b x)(hI:I.le J)(hρ:ρ.le σ)(hb:σ b=ρ b)
 (hk:∀k,x.uses (ρ b) k->w'.heap[k]? = w.heap[k]?):Eb J σ w' b x:=by
 cases x with
 |absent=>exact hb.trans h
 |dead=>trivial
 | var xs=>obtain⟨k,cap,cs,hr,hw,hs,hc⟩:=h;exact⟨k,cap,cs,hb.trans hr,(hk k ⟨cap,hr⟩).trans hw,hs,λj u x hu hx=>(hc j u x hu hx).mono hI hρ⟩
 | dat sz es=>obtain⟨k,cap,hr,hl,hm,hsz,hc⟩:=h;refine⟨k,cap,hb.trans hr,hl,hm,hsz,λh0=>?_⟩;obtain⟨cs,e,hw,hs,h1,hc⟩:=hc h0;exact⟨cs,e,(hk k ⟨cap,hr,h0⟩).trans hw,hs,h1,λi j c hj=>let ⟨u,hu,hr⟩:=hc i j c hj;⟨u,hu,hr.mono hI⟩⟩
 | FV sz es=>obtain⟨k,cap,hr,hl,hm,hsz,hc⟩:=h;refine⟨k,cap,hb.trans hr,hl,hm,hsz,λh0=>?_⟩;obtain⟨cs,hw,hc⟩:=hc h0;exact⟨cs,hI _ _ hw,λi j c hj=>let ⟨u,hu,hr⟩:=hc i j c hj;⟨u,hu,hr.mono hI⟩⟩
 | row e l=>obtain⟨k,cap,hr,hl,hm,hc⟩:=h;refine⟨k,cap,hb.trans hr,hl,hm,λh0=>?_⟩;obtain⟨cs,hw,hc⟩:=hc h0;exact⟨cs,(hk k ⟨cap,hr,h0⟩).trans hw,hc⟩
theorem BX.step {I J:IH}{ρ σ:Ren}{w w':World}{bx bx':Nat->Box}(D:Nat->Prop)(h:BX I ρ w bx)(hI:I.le J)(hρ:ρ.le σ)
 (hsame:∀b,¬D b->bx' b=bx b/\σ b=ρ b) (hkeep:∀b k,¬D b->(bx b).uses (ρ b) k->w'.heap[k]? = w.heap[k]?)
 (hok:∀b,D b->Eb J σ w' b (bx' b)) (Jh:∀b k,D b->(bx' b).uses (σ b) k->(∀b',¬D b'->¬(bx b').uses (ρ b') k)/\J k=none)
 (hinj:∀b b' k,D b->D b'->(bx' b).uses (σ b) k->(bx' b').uses (σ b') k->b=b')
 (hJ:∀b k,¬D b->(bx b).uses (ρ b) k->J k=none):BX J σ w' bx':=by
 refine⟨λb=>?_,λb b' k hb hb'=>?_,λb k hb=>?_⟩
 ·by_cases hD:D b
  ·exact hok b hD
  ·obtain⟨e1,e2⟩:=hsame b hD;rw[e1];exact(h.ok b).keep hI hρ e2 λk hk=>hkeep b k hD hk
 ·by_cases hD:D b
  ·by_cases hD':D b'
   ·exact hinj b b' k hD hD' hb hb'
   ·obtain⟨e1,e2⟩:=hsame b' hD';rw[e1,e2]at hb';exact absurd hb' ((Jh b k hD hb).1 b' hD')
  ·obtain⟨e1,e2⟩:=hsame b hD;rw[e1,e2]at hb;by_cases hD':D b'
   ·exact absurd hb ((Jh b' k hD' hb').1 b hD)
   ·obtain⟨e1',e2'⟩:=hsame b' hD';rw[e1',e2']at hb';exact h.inj b b' k hb hb'
 ·by_cases hD:D b
  ·exact(Jh b k hD hb).2
  ·obtain⟨e1,e2⟩:=hsame b hD;rw[e1,e2]at hb;exact hJ b k hD hb
theorem Agree.alloc {I:IH}{w:World}(h:Agree I w)(o:Obj):Agree I (w.alloc o):=λb c hc=>by obtain⟨e,fr,hw⟩:=h b c hc;exact⟨e,fr,(aco w o b (Gg hw)).trans hw⟩
theorem Agree.other {I:IH}{w w':World}(h:Agree I w)(hk:∀k c,I k=some c->w'.heap[k]? = w.heap[k]?):Agree I w':=λb c hc=>by obtain⟨e,fr,hw⟩:=h b c hc;exact⟨e,fr,(hk b c hc).trans hw⟩
theorem Agree.WC {I:IH}{w:World}(h:Agree I w){k:Nat}(hk:w.heap.size<=k):I k=none:=by
 cases hc:I k with
 |none=>rfl
 |some c=>have:=h.lt hc;omega
def Ren.set (ρ:Ren)(l k cap:Nat):Ren:=λb=>if b=l then some (k,cap)else ρ b
theorem Ren.Ll {ρ:Ren}{l k cap:Nat}(h:ρ l=none):ρ.le (ρ.set l k cap):=λb x hb=>by unfold Ren.set;rw[if_neg (λe=>by subst e;rw[h]at hb;cases hb)];exact hb
theorem Ren.oD (ρ:Ren)(l k cap:Nat):(ρ.set l k cap) l=some (k,cap):=by simp[Ren.set]
theorem Ren.xe {ρ:Ren}{l k cap b:Nat}(h:b≠l):(ρ.set l k cap) b=ρ b:=by simp[Ren.set,h]
theorem BX.new {I:IH}{ρ:Ren}{w:World}{bx:Nat->Box}(h:BX I ρ w bx)(hA:Agree I w){l:Nat}(hl:bx l = .absent)(cs:Array Value)(e:TypeId)(cap:Nat)(x:Box)
 (hx:Eb I (ρ.set l w.heap.size cap) (w.alloc (.cells cs e)) l x) :
 BX I (ρ.set l w.heap.size cap) (w.alloc (.cells cs e)) (λb=>if b=l then x else bx b):=by
 have hrl:ρ l=none:=by have:=h.ok l;rwa[hl]at this
 refine BX.step (λb=>b=l) h (IH.le_refl I) (Ren.Ll hrl) ?_ ?_ ?_ ?_ ?_ ?_
 ·intro b hb;exact⟨by simp[hb],Ren.xe hb⟩
 ·intro b k hb hk;exact aco _ _ _ ((h.ok b).lt hk)
 ·rintro b rfl;simpa using hx
 ·rintro b k rfl hk;have hk':k=w.heap.size:=by
   simp only[if_true,Ren.oD]at hk;cases x with
   |absent=>exact hk.elim
   |dead=>exact hk.elim
   |FV sz es=>exact hk.elim
   |var xs=>obtain⟨c,hc⟩:=hk;simp at hc;exact hc.1.symm
   |dat sz es=>obtain⟨c,hc,_⟩:=hk;simp at hc;exact hc.1.symm
   |row e l=>obtain⟨c,hc,_⟩:=hk;simp at hc;exact hc.1.symm
  subst hk';exact⟨λb' hb' hu=>by have:=(h.ok b').lt hu;omega,hA.WC (ax _)⟩
 ·rintro b b' k rfl rfl _ _;rfl
 ·intro b k hb hk;exact h.fresh b k hk
theorem BX.set {I:IH}{ρ:Ren}{w w':World}{bx:Nat->Box}(h:BX I ρ w bx){b k:Nat}(hu:(bx b).uses (ρ b) k)(x:Box)(hux:∀k',x.uses (ρ b) k'->k'=k)
 (hk:∀k',k'≠k->w'.heap[k']? = w.heap[k']?) (hx:Eb I ρ w' b x):BX I ρ w' (λc=>if c=b then x else bx c):=by
 refine BX.step (λc=>c=b) h (IH.le_refl I) (Ren.le_refl ρ) ?_ ?_ ?_ ?_ ?_ ?_
 ·intro c hc;exact⟨by simp[hc],rfl⟩
 ·intro c k' hc hu';refine hk k' λe=>hc ?_;subst e;exact h.inj c b k' hu' hu
 ·rintro c rfl;simpa using hx
 ·rintro c k' rfl hk';simp only[if_true]at hk';have:=hux k' hk';subst this;exact⟨λb' hb' hu'=>hb' (h.inj b' c k' hu' hu),h.fresh c k' hu⟩
 ·rintro c c' k' rfl rfl _ _;rfl
 ·intro c k' hc hu';exact h.fresh c k' hu'
structure Env (P:Program) where
 w0:World
 I0:IH
 M:Nat->Prop
 ρ0:Ren
 m:Nat
 tab:Tabs P I0
structure GX {P:Program}(E:Env P)(I:IH)(ρ:Ren)(n:Nat)(st:iH)(a:Act)(w:World):Prop extends GS I ρ n st a w where
 IC:LU E.w0 w E.M
 own:∀b k,(st.bx b).uses (ρ b) k->E.w0.heap.size<=k\/E.M k
 PX:E.I0.le I
 GI:∀k,k<E.w0.heap.size->¬E.M k->I k=E.I0 k
 yM:∀b,b<E.m->ρ b=E.ρ0 b
theorem GX.tabs {P:Program}{E:Env P}{I:IH}{ρ:Ren}{n:Nat}{st:iH}{a:Act}{w:World}(h:GX E I ρ n st a w):Tabs P I:=E.tab.mono h.PX
theorem GX.put {P:Program}{E:Env P}{I:IH}{ρ:Ren}{n:Nat}{st:iH}{a:Act}{w:World}(h:GX E I ρ n st a w){d:Nat}(hd:d<n){v:Value}{s:Slot}(hv:GSl I ρ v s) :
 GX E I ρ n (st.put d s) (a.put (some d) v) w:=by
 refine{ h with tm:=λt ht=>?_,size:=by simp[Act.put,h.size],defers:=h.defers,agree:=h.agree,bx:=h.bx };have hdt:d<a.tmps.size:=by rw[h.size];exact hd
 simp only[Act.put,iH.Rj];by_cases e:t=d
 ·subst e;simpa[Array.getD,hdt]using hv
 ·have:=h.tm t ht;rw[if_neg e];have e':d≠t:=λx=>e x.symm;simpa[qo,Array.getElem?_setIfInBounds,e']using this
theorem GX.AL {P:Program}{E:Env P}{I:IH}{ρ:Ren}{n:Nat}{st:iH}{a:Act}{w:World}(h:GX E I ρ n st a w){d:Option Nat}(hd:∀x,d=some x->x<n){v:Value}{s:Slot}(hv:GSl I ρ v s) :
 GX E I ρ n (st.AL d s) (a.put d v) w:=by
 cases d with
 |none=>exact h
 |some d=>exact h.put (hd d rfl) hv
theorem GX.drew {P:Program}{E:Env P}{I:IH}{ρ:Ren}{n:Nat}{st:iH}{a:Act}{w:World}(h:GX E I ρ n st a w):GX E I ρ n st a w.drew:=
 { agree:=h.agree,bx:=⟨h.bx.ok,h.bx.inj,h.bx.fresh⟩,tm:=h.tm,size:=h.size,defers:=h.defers,IC:=⟨h.IC.os,h.IC.tape,h.IC.output,h.IC.size,h.IC.block⟩,own:=h.own,PX:=h.PX,GI:=h.GI,yM:=h.yM }
theorem GX.lit {P:Program}{E:Env P}{I:IH}{ρ:Ren}{n:Nat}{st:iH}{a:Act}{w:World}(h:GX E I ρ n st a w):BX I ρ w st.bx:=h.bx
theorem GX.new {P:Program}{E:Env P}{I:IH}{ρ:Ren}{n:Nat}{st:iH}{a:Act}{w:World}(h:GX E I ρ n st a w){l:Nat}(hl:st.bx l = .absent)(hm:E.m<=l)(cs:Array Value)(e:TypeId)(cap:Nat)(x:Box)
 (hx:Eb I (ρ.set l w.heap.size cap) (w.alloc (.cells cs e)) l x):GX E I (ρ.set l w.heap.size cap) n (st.yF l x) a (w.alloc (.cells cs e)):=by
 have hrl:ρ l=none:=by have:=h.bx.ok l;rwa[hl]at this
 have hle:=Ren.Ll (ρ:=ρ) (k:=w.heap.size) (cap:=cap) hrl;refine{ agree:=h.agree.alloc _,bx:=BX.new h.bx h.agree hl cs e cap x hx,tm:=λt ht=>(h.tm t ht).mono (IH.le_refl _) hle,size:=h.size,defers:=h.defers,IC:=?_,own:=?_,PX:=h.PX,GI:=h.GI,yM:=?_ }
 ·exact h.IC.trans (N:=λ_=>False) ⟨rfl,rfl,rfl,by simp,λk hk _=>aco _ _ _ hk⟩ (λ_ _ hf=>hf.elim)
 ·intro b k hu;simp only[iH.rM]at hu;by_cases e:b=l
  ·subst e
   left
   have hs:=h.IC.size;have hk':k=w.heap.size:=by
    simp only[if_true,Ren.oD]at hu;cases x with
    |absent=>exact hu.elim
    |dead=>exact hu.elim
    |FV sz es=>exact hu.elim
    |var xs=>obtain⟨c,hc⟩:=hu;simp at hc;exact hc.1.symm
    |dat sz es=>obtain⟨c,hc,_⟩:=hu;simp at hc;exact hc.1.symm
    |row e l=>obtain⟨c,hc,_⟩:=hu;simp at hc;exact hc.1.symm
   omega
  ·rw[if_neg e,Ren.xe e]at hu;exact h.own b k hu
 ·intro b hb;rw[Ren.xe (by omega)];exact h.yM b hb
theorem GX.yF {P:Program}{E:Env P}{I:IH}{ρ:Ren}{n:Nat}{st:iH}{a:Act}{w w':World}(h:GX E I ρ n st a w){b k:Nat}(hu:(st.bx b).uses (ρ b) k)(x:Box)(hux:∀k',x.uses (ρ b) k'->k'=k)
 (hF:LU w w' (λk'=>k'=k)) (hx:Eb I ρ w' b x) (hsz:w'.heap.size=w.heap.size):GX E I ρ n (st.yF b x) a w':=by
 have hk:∀k',k'≠k->w'.heap[k']? = w.heap[k']?:= λk' hne=>by
  by_cases hlt:k'<w.heap.size
  ·exact hF.block k' hlt hne
  ·rw[yg (by omega),yg (by omega)]
 refine{ agree:=h.agree.other λk' c hc=>hk k' λe=>?_,bx:=BX.set h.bx hu x hux hk hx,tm:=h.tm,size:=h.size,defers:=h.defers,IC:=?_,own:=?_,PX:=h.PX,GI:=h.GI,yM:=h.yM }
 ·subst e;have:=h.bx.fresh b k' hu;rw[this]at hc;cases hc
 ·refine h.IC.trans hF λk' hlt e=>?_;subst e;rcases h.own b k' hu with h1|h1
  ·omega
  ·exact h1
 ·intro c k' hc;simp only[iH.rM]at hc;by_cases e:c=b
  ·subst e;simp only[if_true]at hc;have:=hux k' hc;subst this;exact h.own c k' hu
  ·rw[if_neg e]at hc;exact h.own c k' hc
section
def aep : Value->AC->Bool
 |.int k n,.c (.lit (.int k' n'))=>k==k'&&n==n'
 |.bool b,.c (.lit (.bool b'))=>b==b'
 |.string s,.c (.str l)=>s.data.toList==l&&decide (l.length<=1000000)
 |.slice none 0 0,.jI _=>true
 |.slice none 0 0,.c (.sl _ [])=>true
 |.pointer none,.c (.lit (.pointer none))=>true
 |.nilFunc,.c (.lit .nilFunc)=>true
 |.nilIface,.c (.lit .nilIface)=>true
 |_,_=>false
theorem YP {I:IH}{ρ:Ren}{v:Value}{x:AC}(h:aep v x=true):GC I ρ v x:=by
 unfold aep at h;split at h
 ·simp only[ai,beq_iff_eq]at h;obtain⟨rfl,rfl⟩:=h;exact Rd.lit _ rfl
 ·simp only[beq_iff_eq]at h;subst h;exact Rd.lit _ rfl
 ·rename_i s l;simp only[ai,beq_iff_eq,decide_eq_true_eq]at h;obtain⟨rfl,hl⟩:=h;have:s=⟨⟨s.data.toList⟩⟩:=by cases s;rfl
  exact this▸Rd.str _ (by simp only[maxLen];omega)
 ·rfl
 ·exact Rd.sl none 0 0 _ [] (λ_ _=>undef) rfl (ax _) (Nat.zero_le _) (λe h=>by cases h) (λh=>by omega) (λad h=>by cases h) (λi j c h=>by simp at h)
 ·exact Rd.lit _ rfl
 ·exact Rd.lit _ rfl
 ·exact Rd.lit _ rfl
 ·cases h
def kZ (n:Nat):Operand->pF->Bool
 |.tmp t,.t s=>t==s&&decide (t<n)
 |.const v,.k x=>aep v x
 |.func f,.k (.fn g [])=>f==g
 |.global g,.k (.c (.lit (.pointer (some a))))=>a.block==g&&a.off==0&&a.spot.isNone
 |_,_=>false
section
variable {P:Program} {E:Env P} {I:IH} {ρ:Ren} {n:Nat} {st:iH} {a:Act} {w:World}
theorem agj (h:GX E I ρ n st a w){x:Operand}{y:pF}(hc:kZ n x y=true):GSl I ρ (a.eval x) (y.ev st.tm):=by
 unfold kZ at hc;split at hc
 ·simp only[ai,beq_iff_eq,decide_eq_true_eq]at hc;obtain⟨rfl,hlt⟩:=hc;exact h.tm _ hlt
 ·exact⟨λ_=>YP hc,λe=>by cases e⟩
 ·simp only[beq_iff_eq]at hc;subst hc;exact⟨λ_=>⟨[],rfl,by simp,rfl⟩,λe=>by cases e⟩
 ·rename_i g ad;simp only[ai,beq_iff_eq]at hc;obtain⟨⟨h1,h2⟩,h3⟩:=hc;refine⟨λ_=>?_,λe=>by cases e⟩;have:ad=⟨g,0,none⟩:=by cases ad;simp at *;exact⟨h1,h2,h3⟩
  subst this;exact Rd.lit _ rfl
 ·cases hc
theorem ou (h:GX E I ρ n st a w){x:Operand}{y:pF}(hc:kZ n x y=true)(hv:(y.ev st.tm).g=true):GV I ρ (a.eval x) (fA st.tm y):=by
 have:=agj h hc;unfold fA;cases hs:y.ev st.tm with
 |none=>rw[hs]at hv;cases hv
 |v g x=>rw[hs]at hv this;exact this.1 hv
def pM (P:Program)(E:Env P)(n:Nat)(o:Oper)(a:Act)(w:World)(st:iH)(rv:AV):Prop:=
 ∃v w' I' ρ',((execOp a.eval o).run P w = .ok (.value v) w'\/(execOp a.eval o).run P w = .ok .skip w'/\o.dst=none)/\GX E I' ρ' n st a w'/\(o.dst≠none->GV I' ρ' v rv)
theorem pM.val {o:Oper}{v:Value}{rv:AV}(h:GX E I ρ n st a w)(hr:(execOp a.eval o).run P w = .ok (.value v) w)(hv:GV I ρ v rv):pM P E n o a w st rv:=
 ⟨v,w,I,ρ,.inl hr,h,λ_=>hv⟩
def acv : TypeDesc->Bool
 |.struct _|.array _ _=>true
 |_=>false
def RN (P:Program)(t:TypeId)(agg:Bool)(k:Nat):Bool:=
 match P.underlying t,P.info? t with
 |some d,some i=>acv d==agg&&i.size==k
 |_,_=>false
theorem Kz {t:TypeId}{agg:Bool}{k:Nat}(h:RN P t agg k=true)(w:World):(isAgg t).run P w = .ok agg w/\(sizeOf t).run P w = .ok k w:=by
 unfold RN at h;split at h
 ·rename_i d i hd hi;simp only[ai,beq_iff_eq]at h;obtain⟨rfl,rfl⟩:=h;refine⟨?_,by simp[sizeOf,typeInfo,hi]⟩;cases d<;>simp[isAgg,run_underlying hd,acv]
 ·cases h
def OU (P:Program)(t:TypeId)(k:Nat):Bool:=match P.info? t with|some i=>i.size==k|none=>false
theorem JO {t:TypeId}{k:Nat}(h:OU P t k=true):∃i,P.info? t=some i/\i.size=k:=by
 unfold OU at h;split at h
 ·rename_i i hi;exact⟨i,hi,by simpa using h⟩
 ·cases h
def abL (n:Nat)(op:Op)(y:pF):Bool:=match op with|.move x|.assign x=>kZ n x y|_=>false
theorem aeR {o:Oper}{y:pF}(h:GX E I ρ n st a w)(hc:abL n o.op y=true)(hv:(y.ev st.tm).g=true):pM P E n o a w st (fA st.tm y):=by
 unfold abL at hc;split at hc
 ·rename_i x hx;exact pM.val h (v:=a.eval x) (by simp[execOp,hx]) (ou h hc hv)
 ·rename_i x hx;exact pM.val h (v:=a.eval x) (by simp[execOp,hx]) (ou h hc hv)
 ·cases hc
def Us (n:Nat)(op:Op)(c x y:pF):Bool:=match op with|.pick c' x' y'=>kZ n c' c&&kZ n x' x&&kZ n y' y|_=>false
theorem J5 {v:Value}{b:Bool}(h:GV I ρ v (yx b)):v = .bool b:=by cases h with|lit v hv=>rfl
theorem yc {v:Value}{k:IntKind}{m:Int}(h:GV I ρ v (xI k m)):v = .int k m:=by cases h with|lit v hv=>rfl
theorem Hf {v:Value}{l:List UInt8}(h:GV I ρ v (IX l)):v = .string ⟨⟨l⟩⟩/\l.length<=maxLen:=by cases h with|str l hl=>exact⟨rfl,hl⟩
theorem GY (b:Bool):GV I ρ (.bool b) (yx b):=Rd.lit _ rfl
theorem Bl (k:IntKind)(m:Int):GV I ρ (.int k m) (xI k m):=Rd.lit _ rfl
theorem UN {l:List UInt8}(h:l.length<=maxLen):GV I ρ (.string ⟨⟨l⟩⟩) (IX l):=Rd.str l h
theorem Ym (x y:AV){v:Value}(h:GV I ρ v x):GV I ρ v (O9 true x y):=by
 unfold O9;split
 ·exact h
 ·exact h
theorem WL (x y:AV){v:Value}(h:GV I ρ v y):GV I ρ v (O9 false x y):=by
 unfold O9;split
 ·exact h
 ·simpa using h
theorem aaI {o:Oper}{c x y:pF}{t:Bool}(h:GX E I ρ n st a w)(hc:Us n o.op c x y=true)(hg:(c.ev st.tm).g=true)(ht:fA st.tm c=yx t)
 (hx:t=true->(x.ev st.tm).g=true) (hy:t=false->(y.ev st.tm).g=true):pM P E n o a w st (O9 t (fA st.tm x) (fA st.tm y)):=by
 unfold Us at hc;split at hc
 ·rename_i c' x' y' he;simp only[ai]at hc;have h1:=ou h hc.1.1 hg;rw[ht]at h1;have h1:=J5 h1;cases t with
  |true=>exact pM.val h (v:=a.eval x') (by simp[execOp,he,h1,asBool]) (Ym _ _ (ou h hc.1.2 (hx rfl)))
  |false=>exact pM.val h (v:=a.eval y') (by simp[execOp,he,h1,asBool]) (WL _ _ (ou h hc.2 (hy rfl)))
 ·cases hc
theorem toList_eq (l:List UInt8):(⟨⟨l⟩⟩:ByteArray).toList=l:=by rw[Go.ByteArray.toList_eq]
theorem size_mk (l:List UInt8):(⟨⟨l⟩⟩:ByteArray).size=l.length:=rfl
theorem ae1 {b:BinOp}{t:TypeId}{x y:Value}{u v:AV}(w:World)(hx:GV I ρ x u)(hy:GV I ρ y v)(jX:(Pv b u v).vc) :
 ∃r,(binOp b t x y).run P w = .ok r w/\GV I ρ r (Pv b u v).v:=by
 unfold Pv at *;split at jX
 ·rename_i k m k' m';obtain⟨rfl,jX⟩:=jX;have h1:=yc hx;have h2:=yc hy;subst h1;subst h2;cases b<;>simp only[DZ,FR.bad,FR.ok]at jX⊢ <;>
   first
   |exact jX.elim
   |(refine⟨_,?_,Bl _ _⟩;simp[binOp,Op.intArith,Op.intDiv,Op.intBits,jX])
   |(refine⟨_,?_,GY _⟩;simp[binOp,Op.intCmp])
 ·rename_i l l';obtain⟨h1,hl⟩:=Hf hx;obtain⟨h2,hl'⟩:=Hf hy;subst h1;subst h2;cases b<;>simp only[D8,FR.bad,FR.ok]at jX⊢ <;>
   first
   |exact jX.elim
   |(refine⟨_,?_,GY _⟩;simp only[binOp,Op.stringOp,toList_eq];rfl)
   |skip
  refine⟨.string ⟨⟨l++l'⟩⟩,?_,UN (by simpa using jX)⟩;have h63:¬((l.length+l'.length:Nat):Int)>ES.max:=by simp only[maxLen]at jX;have e:ES.max=9223372036854775807:=(by decide);rw[e];omega
  have happ:(⟨⟨l⟩⟩:ByteArray)++⟨⟨l'⟩⟩=⟨⟨l++l'⟩⟩:=by apply ByteArray.ext;simp
  simp only[binOp,Op.stringOp,size_mk];rw[if_neg h63,happ];rfl
 ·exact jX.elim
def XL (n:Nat)(op:Op)(b:BinOp)(x y:pF):Bool:=match op with|.binOp b' _ x' y' _=>b'==b&&kZ n x' x&&kZ n y' y|_=>false
theorem Jd (b:BinOp)(t:TypeId)(x y:Operand)(k:IntKind)(m:Int)(v:Value)(w:World):(eqGuard b t x y (.int k m) v).run P w = .ok () w:=by cases b<;>rfl
theorem PI (b:BinOp)(t:TypeId)(x y:Operand)(s:ByteArray)(v:Value)(w:World):(eqGuard b t x y (.string s) v).run P w = .ok () w:=by cases b<;>rfl
theorem Il (b:BinOp)(t:TypeId)(x y:Operand)(s:Bool)(v:Value)(w:World):(eqGuard b t x y (.bool s) v).run P w = .ok () w:=by cases b<;>rfl
theorem abH {o:Oper}{b:BinOp}{x y:pF}(h:GX E I ρ n st a w)(hc:XL n o.op b x y=true)(hx:(x.ev st.tm).g=true)(hy:(y.ev st.tm).g=true)
 (jX:(Pv b (fA st.tm x) (fA st.tm y)).vc):pM P E n o a w st (Pv b (fA st.tm x) (fA st.tm y)).v:=by
 unfold XL at hc;split at hc
 ·rename_i b' t x' y' t' he;simp only[ai,beq_iff_eq]at hc;obtain⟨⟨rfl,h1⟩,h2⟩:=hc;have g1:=ou h h1 hx;have g2:=ou h h2 hy;obtain⟨r,hr,hg⟩:=ae1 (P:=P) (t:=t) w g1 g2 jX;refine pM.val h ?_ hg;have hq:(eqGuard b' t x' y' (a.eval x') (a.eval y')).run P w = .ok () w:=by
   unfold Pv at jX;split at jX
   ·rename_i e1 e2;rw[e1]at g1;rw[yc g1];exact Jd _ _ _ _ _ _ _ _
   ·rename_i e1 e2;rw[e1]at g1;rw[(Hf g1).1];exact PI _ _ _ _ _ _ _
   ·exact jX.elim
  simp[execOp,he,hq,hr]
 ·cases hc
def XK (P:Program)(n:Nat)(op:Op)(ng:Bool)(x y:pF):Bool:=
 match op with
 |.binOp b t x' y' _=>(match b with|.eql=> !ng|.neq=>ng|_=>false)&&(match P.underlying t with|some .bool=>true|_=>false)&&kZ n x' x&&kZ n y' y
 |_=>false
theorem abG {o:Oper}{ng:Bool}{x y:pF}(h:GX E I ρ n st a w)(hc:XK P n o.op ng x y=true)(hx:(x.ev st.tm).g=true)(hy:(y.ev st.tm).g=true)
 (jX:(VH ng (fA st.tm x) (fA st.tm y)).vc):pM P E n o a w st (VH ng (fA st.tm x) (fA st.tm y)).v:=by
 unfold XK at hc;split at hc
 ·rename_i b t x' y' t' he;simp only[ai]at hc;obtain⟨⟨⟨hb,ht⟩,h1⟩,h2⟩:=hc;have g1:=ou h h1 hx;have g2:=ou h h2 hy;unfold VH at jX⊢;split at jX
  ·rename_i p q e1 e2;rw[e1]at g1;rw[e2]at g2;have hu:P.underlying t=some .bool:=by
    split at ht
    ·assumption
    ·cases ht
   have hd:∀d,(zV (d+1) t (.bool p) (.bool q)).run P w = .ok (p==q) w:=λd=>(by simp[zV,run_underlying hu]);have he':(Op.equal t (.bool p) (.bool q)).run P w = .ok (p==q) w:=hd 9999;have hp:=J5 g1;have hq:=J5 g2;simp only[FR.ok];cases b<;>simp at hb
   ·subst hb;refine pM.val h ?_ (GY _);simp[execOp,he,hp,hq,Il,binOp,he']
   ·subst hb;refine pM.val h ?_ (GY _);simp[execOp,he,hp,hq,Il,binOp,he',bne]
  ·exact jX.elim
 ·cases hc
def XR (n:Nat)(op:Op)(x:pF):Bool:=match op with|.unOp .not _ x'=>kZ n x' x|_=>false
theorem acV {o:Oper}{x:pF}{b:Bool}(h:GX E I ρ n st a w)(hc:XR n o.op x=true)(hx:(x.ev st.tm).g=true)(hb:fA st.tm x=yx b):pM P E n o a w st (yx (!b)):=by
 unfold XR at hc;split at hc
 ·rename_i t x' he;have g1:=ou h hc hx;rw[hb]at g1;have hp:=J5 g1;exact pM.val h (by simp[execOp,he,hp,Op.unary]) (GY _)
 ·cases hc
def XQ (n:Nat)(op:Op)(x:pF):Bool:=match op with|.unOp .neg _ x'=>kZ n x' x|_=>false
theorem acS {o:Oper}{x:pF}{k:IntKind}{m:Int}(h:GX E I ρ n st a w)(hc:XQ n o.op x=true)(hx:(x.ev st.tm).g=true)(hb:fA st.tm x=xI k m):pM P E n o a w st (xI k (k.wrap (0-m))):=by
 unfold XQ at hc;split at hc
 ·rename_i t x' he;have g1:=ou h hc hx;rw[hb]at g1;have hp:=yc g1;exact pM.val h (v:=.int k (k.wrap (0-m))) (by simp[execOp,he,hp,Op.unary,Op.intArith]) (Bl _ _)
 ·cases hc
def Ug (P:Program)(n:Nat)(op:Op)(k:IntKind)(x:pF):Bool:=match op with|.convert s d x'=>(match P.underlying s with|some _=>true|none=>false)&&(match P.underlying d with|some (.int k')=>k'==k|_=>false)&&kZ n x' x|_=>false
theorem ZT {o:Oper}{x:pF}{k j:IntKind}{m:Int}(h:GX E I ρ n st a w)(hc:Ug P n o.op k x=true)(hx:(x.ev st.tm).g=true)(hb:fA st.tm x=xI j m):pM P E n o a w st (xI k (k.wrap m)):=by
 unfold Ug at hc;split at hc
 ·rename_i s d x' he;simp only[ai]at hc;have g1:=ou h hc.2 hx;rw[hb]at g1;have hp:=yc g1;obtain⟨⟨h1,h2⟩,_⟩:=hc;split at h1
  ·rename_i ds hs;split at h2
   ·rename_i k' hd;simp only[beq_iff_eq]at h2;subst h2;exact pM.val h (v:=.int k' (k'.wrap m)) (by simp[execOp,he,hp,convert,run_underlying hs,run_underlying hd,Conv.intToInt]) (Bl _ _)
   ·cases h2
  ·cases h1
 ·cases hc
def Ut (P:Program)(n:Nat)(op:Op)(x:pF):Bool:=match op with|.convert s d x'=>(match P.underlying s with|some .string=>true|_=>false)&&(match P.underlying d with|some .string=>true|_=>false)&&kZ n x' x|_=>false
theorem aaQ {o:Oper}{x:pF}{l:List UInt8}(h:GX E I ρ n st a w)(hc:Ut P n o.op x=true)(hx:(x.ev st.tm).g=true)(hb:fA st.tm x=IX l):pM P E n o a w st (IX l):=by
 unfold Ut at hc;split at hc
 ·rename_i s d x' he;simp only[ai]at hc;have g1:=ou h hc.2 hx;rw[hb]at g1;obtain⟨hp,hl⟩:=Hf g1;obtain⟨⟨h1,h2⟩,_⟩:=hc;split at h1
  ·rename_i hs;split at h2
   ·rename_i hd;exact pM.val h (by simp[execOp,he,hp,convert,run_underlying hs,run_underlying hd]) (UN hl)
   ·cases h2
  ·cases h1
 ·cases hc
end
end
section
section
variable {P:Program} {E:Env P} {I:IH} {ρ:Ren} {n:Nat} {st:iH} {a:Act} {w:World}
theorem mF {α:Type}{es:List (List α)}{i j:Nat}{c:α}(h:(es.getD i [])[j]? = some c):i<es.length:=by
 by_cases hi:i<es.length
 ·exact hi
 ·simp[bu,pg (A8 hi)]at h
theorem Addr.add_zero (p:Addr):p.add 0=p:=by simp[xO]
theorem Addr.zY (k o i:Nat):(⟨k,o,none⟩:Addr).add i=⟨k,o+i,none⟩:=by
 unfold xO;split
 ·simp_all
 ·rfl
theorem Addr.add_add (p:Addr)(i j:Nat):(p.add i).add j=p.add (i+j):=by unfold xO;by_cases hi:i=0<;>by_cases hj:j=0<;>simp[hi,hj,vw]
def CX (I:IH)(ρ:Ren)(w:World)(p:Addr)(xs:List AC):Prop:=
 ∀(j:Nat) (x:AC),xs[j]? = some x->∃u,w.cell? (p.add j)=some u/\GC I ρ u x
theorem CX.drop {p:Addr}{xs:List AC}(h:CX I ρ w p xs)(off:Nat):CX I ρ w (p.add off) (xs.drop off):=λj x hj=>by rw[jl]at hj;rw[Addr.add_add];exact h _ _ hj
theorem CX.take {p:Addr}{xs:List AC}(h:CX I ρ w p xs)(k:Nat):CX I ρ w p (xs.take k):=λj x hj=>by
 rw[bQ]at hj;split at hj
 ·exact h _ _ hj
 ·cases hj
theorem CX.list {p:Addr}{xs:List AC}(h:CX I ρ w p xs):∃us:List Value,us.length=xs.length/\(∀(j:Nat) (u:Value),us[j]? = some u->w.cell? (p.add j)=some u)/\JW I ρ us xs:=by
 induction xs generalizing p with
 |nil=>exact⟨[],rfl,by simp,rfl,by simp⟩
 | cons x r ih=>
   obtain⟨u,hu,hg⟩:=h 0 x rfl;obtain⟨us,hl,hc,hgs⟩:=ih (p:=p.add 1) (λj y hj=>by rw[Addr.add_add];rw[Au];exact h (j+1) y (by simpa using hj));refine⟨u::us,by simp[hl],λj v hj=>?_,by simp[hl],λj v y hv hy=>?_⟩
   ·cases j with
    |zero=>simp at hj;subst hj;exact hu
    |succ j=>have:=hc j v (by simpa using hj);rwa[Addr.add_add,Au]at this
   ·cases j with
    |zero=>simp at hv hy;subst hv;subst hy;exact hg
    |succ j=>exact hgs.2 j v y (by simpa using hv) (by simpa using hy)
theorem U7 {t:TypeId}{k:Nat}(ht:RN P t true k=true){p:Addr}{xs:List AC}(hl:xs.length=k)(h:CX I ρ w p xs) :
 ∃v,(loadVar t p).run P w = .ok v w/\GV I ρ v (.agg xs):=by
 obtain⟨us,hul,hc,hg⟩:=h.list;obtain⟨h1,h2⟩:=Kz ht w;have h3:=run_loadCells_list (P:=P) w p us hc;refine⟨.agg us.toArray,?_,us.toArray,rfl,by simpa using hg⟩;rw[hul,hl]at h3;simp[loadVar,h1,h2,h3]
theorem U8 {t:TypeId}{k:Nat}(ht:RN P t false k=true){p:Addr}{u:Value}(h:w.cell? p=some u):(loadVar t p).run P w = .ok u w:=by obtain⟨h1,h2⟩:=Kz ht w;simp[loadVar,h1,run_load,h]
theorem BX.aa4 (h:BX I ρ w st.bx){b k cap:Nat}{xs:List AC}(hb:st.bx b = .var xs)(hr:ρ b=some (k,cap)):CX I ρ w ⟨k,0,none⟩ xs:=λj x hj=>by
 have:=h.ok b;rw[hb]at this;obtain⟨k',cap',cs,hr',hw,hs,hc⟩:=this;rw[hr]at hr';simp at hr';obtain⟨rfl,rfl⟩:=hr';have hjl:j<cs.size:=by rw[hs];exact(bD.1 hj).1
 refine⟨cs[j],?_,hc j _ x (oZ hjl) hj⟩;rw[Addr.zY];simp[o7,hw,oZ hjl]
theorem GS.JY (h:GX E I ρ n st a w){b k cap sz:Nat}{es:List (List Cell)}(hb:(st.bx b).arr=some (sz,es))(hr:ρ b=some (k,cap))(hc:cap≠0){i:Nat}(hi:i<es.length) :
 CX I ρ w ⟨k,i*sz,none⟩ ((es.getD i []).map .c):=λj x hj=>by
 rw[fD]at hj;cases hq:(es.getD i [])[j]? with
 |none=>rw[hq]at hj;cases hj
 | some c=>
   rw[hq]at hj;simp at hj;subst hj;have hok:=h.bx.ok b;rw[Addr.zY];cases hx:st.bx b with
   | dat sz' es'=>rw[hx]at hok hb;simp[Box.arr]at hb;obtain⟨rfl,rfl⟩:=hb;obtain⟨k',cap',hr',_,_,_,hd⟩:=hok;rw[hr]at hr';simp at hr';obtain⟨rfl,rfl⟩:=hr';obtain⟨cs,e,hw,_,_,hcs⟩:=hd hc;obtain⟨u,hu,hrd⟩:=hcs i j c hq;exact⟨u,by simp[o7,hw,hu],hrd⟩
   | FV sz' es'=>rw[hx]at hok hb;simp[Box.arr]at hb;obtain⟨rfl,rfl⟩:=hb;obtain⟨k',cap',hr',_,_,_,hd⟩:=hok;rw[hr]at hr';simp at hr';obtain⟨rfl,rfl⟩:=hr';obtain⟨cs,hI,hcs⟩:=hd hc;obtain⟨u,hu,hrd⟩:=hcs i j c hq;obtain⟨e,fr,hw⟩:=h.agree _ _ hI;exact⟨u,by simp[o7,hw,hu],hrd⟩
   |absent=>rw[hx]at hb;cases hb
   |dead=>rw[hx]at hb;cases hb
   |var xs=>rw[hx]at hb;cases hb
   |row e l=>rw[hx]at hb;cases hb
theorem GS.H6 (h:GX E I ρ n st a w){b k cap sz:Nat}{es:List (List Cell)}(hb:(st.bx b).arr=some (sz,es))(hr:ρ b=some (k,cap)):es.length<=cap/\cap<=maxLen/\∀e,e∈es->e.length=sz:=by
 have hok:=h.bx.ok b;cases hx:st.bx b with
 | dat sz' es'=>rw[hx]at hok hb;simp[Box.arr]at hb;obtain⟨rfl,rfl⟩:=hb;obtain⟨k',cap',hr',h1,h2,h3,hd⟩:=hok;rw[hr]at hr';simp at hr';obtain⟨rfl,rfl⟩:=hr';exact⟨h1,h2,h3⟩
 | FV sz' es'=>rw[hx]at hok hb;simp[Box.arr]at hb;obtain⟨rfl,rfl⟩:=hb;obtain⟨k',cap',hr',h1,h2,h3,hd⟩:=hok;rw[hr]at hr';simp at hr';obtain⟨rfl,rfl⟩:=hr';exact⟨h1,h2,h3⟩
 |absent=>rw[hx]at hb;cases hb
 |dead=>rw[hx]at hb;cases hb
 |var xs=>rw[hx]at hb;cases hb
 |row e l=>rw[hx]at hb;cases hb
def Un (P:Program)(n:Nat)(op:Op)(agg:Bool)(k:Nat)(p:pF):Bool:=match op with|.load t p'=>kZ n p' p&&RN P t agg k&&(agg||k==1)|_=>false
theorem TA {t:TypeId}{agg:Bool}{k:Nat}(h:GX E I ρ n st a w)(ht:RN P t agg k=true){pv:Value}{p:AV}(hp:GV I ρ pv p)(jX:(Ak agg k p st.bx).vc) :
 ∃v,(wR t pv).run P w = .ok v w/\GV I ρ v (Ak agg k p st.bx).v:=by
 have key:∀(q:Addr) (xs:List AC) (off:Nat),pv = .pointer (some (q.add off))->CX I ρ w q xs->(agg=true->off+k<=xs.length->∃v,(wR t pv).run P w = .ok v w/\GV I ρ v (.agg ((xs.drop off).take k))) /\
  (agg=false->∀x,xs[off]? = some x->∃v,(wR t pv).run P w = .ok v w/\GV I ρ v (.one x)):=by
  intro q xs off hq hc;refine⟨λhA hl=>?_,λhA x hx=>?_⟩
  ·subst hA;obtain⟨v,hv,hg⟩:=U7 (P:=P) (xs:=(xs.drop off).take k) ht (by simp;omega) ((hc.drop off).take k);exact⟨v,by simp[wR,hq,uB,hv],hg⟩
  ·subst hA;obtain⟨u,hu,hg⟩:=hc off x hx;exact⟨u,by simp[wR,hq,uB,U8 (P:=P) ht hu],hg⟩
 unfold Ak at *;split at jX
 ·rename_i b off;obtain⟨kk,cap,hr,hv⟩:=hp;split at jX
  ·rename_i xs hb;have hc:=h.bx.aa4 hb hr;have hk:=key ⟨kk,0,none⟩ xs off (by rw[Addr.zY];simpa using hv) hc
   try simp only[hb]
   split at jX
   ·rename_i hA;rw[if_pos hA];exact hk.1 hA jX
   ·rename_i hA;rw[if_neg hA];split at jX
    ·rename_i x hx;simp only[FR.ok];exact hk.2 (by simpa using hA) x hx
    ·exact jX.elim
  ·exact jX.elim
 ·rename_i b i sz off;obtain⟨kk,cap,hr,hv⟩:=hp;split at jX
  ·rename_i sz' es hb
   try simp only[hb]
   have facts:=GS.H6 h hb hr;split at jX
   ·rename_i hA;rw[if_pos hA];obtain⟨rfl,hi,hl⟩:=jX;have hc:=GS.JY h hb hr (by omega) hi;have hlen:(es.getD i []).length=sz':=facts.2.2 _ (by simp[bu,aF hi]);have:=(key ⟨kk,i*sz',none⟩ _ off (by rw[Addr.zY];exact hv) hc).1 hA (by rw[iE,hlen];exact hl);simpa[List.map_drop,nK]using this
   ·rename_i hA;rw[if_neg hA];obtain⟨rfl,hi,hl⟩:=jX;have hc:=GS.JY h hb hr (by omega) hi;have hlen:(es.getD i []).length=sz':=facts.2.2 _ (by simp[bu,aF hi]);have:=(key ⟨kk,i*sz',none⟩ _ off (by rw[Addr.zY];exact hv) hc).2 (by simpa using hA) (.c ((es.getD i []).getD off default))
     (by rw[fD,aF (by omega)];simp[bu,aF (show off<(es[i]?.getD []).length by simpa[bu]using(by omega:off<(es.getD i []).length))])
    exact this
  ·exact jX.elim
 ·rename_i cs;obtain⟨p,hv,hc⟩:=hp;have hcc:CX I ρ w p (cs.map .c):=λj x hj=>by
   rw[fD]at hj;cases hq:cs[j]? with
   |none=>rw[hq]at hj;cases hj
   |some c=>rw[hq]at hj;simp at hj;subst hj;obtain⟨u,hu,hr⟩:=hc j c hq;exact⟨u,h.agree.cell hu,hr⟩
  have hk:=key p _ 0 (by rw[Addr.add_zero];exact hv) hcc;split at jX
  ·rename_i hA;rw[if_pos hA];have:=hk.1 hA (by simpa using jX);simpa[nK]using this
  ·rename_i hA;rw[if_neg hA];have h0:cs[0]? = some (cs.getD 0 default):=(by simp[bu,aF jX]);exact hk.2 (by simpa using hA) _ (by rw[fD,h0];rfl)
 ·exact jX.elim
theorem aar {o:Oper}{agg:Bool}{k:Nat}{p:pF}(h:GX E I ρ n st a w)(hc:Un P n o.op agg k p=true)(hx:(p.ev st.tm).g=true)(jX:(Ak agg k (fA st.tm p) st.bx).vc) :
 pM P E n o a w st (Ak agg k (fA st.tm p) st.bx).v:=by
 unfold Un at hc;split at hc
 ·rename_i t p' he;simp only[ai]at hc;obtain⟨v,hv,hg⟩:=TA (P:=P) h hc.1.2 (ou h hc.1.1 hx) jX;exact pM.val h (by simp[execOp,he,hv]) hg
 ·cases hc
end
end
section
section
variable {P:Program} {E:Env P} {I:IH} {ρ:Ren} {n:Nat} {st:iH} {a:Act} {w:World}
def Nl (P:Program)(t:TypeId):Bool:=match P.underlying t with|some (.slice _)=>true|_=>false
theorem KJ {t:TypeId}(h:Nl P t=true):∃e,P.underlying t=some (.slice e):=by
 unfold Nl at h;split at h
 ·rename_i e he;exact⟨e,he⟩
 ·cases h
def OC (P:Program)(t:TypeId):Bool:=match P.underlying t with|some .string=>true|_=>false
theorem GR {t:TypeId}(h:OC P t=true):P.underlying t=some .string:=by
 unfold OC at h;split at h
 ·assumption
 ·cases h
theorem afp {v:Value}{sz:Nat}{es:List (List Cell)}(h:GV I ρ v (vSl sz es)):∃a cap,v = .slice a es.length cap/\es.length<=cap/\cap<=maxLen:=by cases h with|sl a len cap sz es u hlen hcap hmax=>subst hlen;exact⟨a,cap,rfl,hcap,hmax⟩
def lenV (x:AV):FR:=match x with
    |.one (.c (.sl _ es))=>.ok (xI .i64 es.length)
    |.one (.jI _)=>.ok (xI .i64 0)
    |.one (.own _ n _)=>.ok (xI .i64 n)
    |.one (.sub _ _ n _ _)=>.ok (xI .i64 n)
    |_=>.bad
theorem afV {v:Value}{x:AV}(h:GV I ρ v x)(jX:(lenV x).vc):∃b k c,v = .slice b k c/\(lenV x).v=xI .i64 k:=by
 unfold lenV at *;split at jX
 ·rename_i sz es;obtain⟨b,c,rfl,_⟩:=afp h;exact⟨b,_,c,rfl,rfl⟩
 ·simp only[GV,GC]at h;exact⟨none,0,0,h,rfl⟩
 ·obtain⟨k,cap,b,c,_,rfl,_⟩:=h;exact⟨b,_,c,rfl,rfl⟩
 ·obtain⟨k,cap,b,c,_,rfl,_⟩:=h;exact⟨b,_,c,rfl,rfl⟩
 ·exact jX.elim
def XP (P:Program)(n:Nat)(op:Op)(x:pF):Bool:=
 match op with
 |.call { callee:=.builtin .len,args:=⟨[x']⟩,argTypes:=⟨[t]⟩ }=>kZ n x' x&&Nl P t
 |_=>false
theorem acE {o:Oper}{x:pF}(h:GX E I ρ n st a w)(hc:XP P n o.op x=true)(hx:(x.ev st.tm).g=true)(jX:(lenV (fA st.tm x)).vc):pM P E n o a w st (lenV (fA st.tm x)).v:=by
 unfold XP at hc;split at hc
 ·rename_i x' t he;simp only[ai]at hc;have g:=ou h hc.1 hx;obtain⟨e,ht⟩:=KJ hc.2;obtain⟨b,k,c,hv,hr⟩:=afV g jX;rw[hr];exact pM.val h (by simp[execOp,he,resolve,invoke,builtin,Builtin.len_,run_underlying ht,hv,goInt]) (Bl _ _)
 ·cases hc
def Um (P:Program)(n:Nat)(op:Op)(x:pF):Bool:=
 match op with
 |.call { callee:=.builtin .len,args:=⟨[x']⟩,argTypes:=⟨[t]⟩ }=>kZ n x' x&&OC P t
 |_=>false
theorem aao {o:Oper}{x:pF}{s:List UInt8}(h:GX E I ρ n st a w)(hc:Um P n o.op x=true)(hx:(x.ev st.tm).g=true)(hs:fA st.tm x=IX s):pM P E n o a w st (xI .i64 s.length):=by
 unfold Um at hc;split at hc
 ·rename_i x' t he;simp only[ai]at hc;have g:=ou h hc.1 hx;rw[hs]at g;have ht:=GR hc.2;obtain⟨hv,_⟩:=Hf g;exact pM.val h (v:=.int .i64 s.length) (by simp[execOp,he,resolve,invoke,builtin,Builtin.len_,run_underlying ht,hv,goInt];rfl) (Bl _ _)
 ·cases hc
def Ti (mx:Bool)(n:Nat)(op:Op)(x y:pF):Bool:=
 match op with
 |.call { callee:=.builtin b,args:=⟨[x',y']⟩,argTypes:=_ }=>(match b with|.max=>mx|.min=> !mx|_=>false)&&kZ n x' x&&kZ n y' y
 |_=>false
theorem acP {o:Oper}{x y:pF}{k:IntKind}{p q:Int}(h:GX E I ρ n st a w)(hc:Ti true n o.op x y=true)(hx:(x.ev st.tm).g=true)(hy:(y.ev st.tm).g=true)
 (e1:fA st.tm x=xI k p) (e2:fA st.tm y=xI k q):pM P E n o a w st (xI k (if q>p then q else p)):=by
 unfold Ti at hc;split at hc
 ·rename_i b x' y' ts he;simp only[ai]at hc;have g1:=ou h hc.1.2 hx;have g2:=ou h hc.2 hy;rw[e1]at g1;rw[e2]at g2;have v1:=yc g1;have v2:=yc g2;obtain⟨⟨hb,_⟩,_⟩:=hc;cases b<;>simp at hb;refine pM.val h (v:=.int k (if q>p then q else p)) ?_ (Bl _ _);simp[execOp,he,resolve,invoke,builtin,Builtin.max_,v1,v2,Builtin.max2]
 ·cases hc
theorem acQ {o:Oper}{x y:pF}{k:IntKind}{p q:Int}(h:GX E I ρ n st a w)(hc:Ti false n o.op x y=true)(hx:(x.ev st.tm).g=true)(hy:(y.ev st.tm).g=true)
 (e1:fA st.tm x=xI k p) (e2:fA st.tm y=xI k q):pM P E n o a w st (xI k (if q<p then q else p)):=by
 unfold Ti at hc;split at hc
 ·rename_i b x' y' ts he;simp only[ai]at hc;have g1:=ou h hc.1.2 hx;have g2:=ou h hc.2 hy;rw[e1]at g1;rw[e2]at g2;have v1:=yc g1;have v2:=yc g2;obtain⟨⟨hb,_⟩,_⟩:=hc;cases b<;>simp at hb;refine pM.val h (v:=.int k (if q<p then q else p)) ?_ (Bl _ _);simp[execOp,he,resolve,invoke,builtin,Builtin.min_,v1,v2,Builtin.min2]
 ·cases hc
theorem aeD {v:Value}{xs:List AC}(h:GP I ρ v (true,xs)):GV I ρ v (.agg xs):=by simpa[GP,GV]using h
theorem ab7 {v:Value}{x:AC}(h:GP I ρ v (false,[x])):GV I ρ v (.one x):=by simp only[GP]at h;obtain⟨y,hy,hg⟩:=h;simp at hy;subst hy;exact hg
def Ib (x:AV) (i:Nat):FR:=match x with
    | .xg ps=>match ps[i]? with
      |some (true,xs)=>.ok (.agg xs)
      |some (false,[x])=>.ok (.one x)
      |_=>.bad
    |_=>.bad
def La (n:Nat)(op:Op)(x:pF)(i:Nat):Bool:=match op with|.extract x' j=>kZ n x' x&&j==i|_=>false
theorem Uy {o:Oper}{x:pF}{i:Nat}(h:GX E I ρ n st a w)(hc:La n o.op x i=true)(hx:(x.ev st.tm).g=true)(jX:(Ib (fA st.tm x) i).vc):pM P E n o a w st (Ib (fA st.tm x) i).v:=by
 unfold La at hc;split at hc
 ·rename_i x' j he;simp only[ai,beq_iff_eq]at hc;obtain⟨h1,rfl⟩:=hc;have g:=ou h h1 hx;unfold Ib at jX⊢;split at jX
  ·rename_i ps e1;rw[e1]at g;obtain⟨vs,hv,hs,hp⟩:=g;have hj:∀p,ps[j]? = some p->∃v,vs[j]? = some v/\GP I ρ v p:=λp hq=>by
    have hl:j<vs.size:=(by rw[hs];exact(bD.1 hq).1);exact⟨vs[j],oZ hl,hp j _ p (oZ hl) hq⟩
   split at jX
   ·rename_i xs hq;obtain⟨v,hv',hg⟩:=hj _ hq;exact pM.val h (by simp[execOp,he,hv,Instr.extract,hv']) (aeD hg)
   ·rename_i y hq;obtain⟨v,hv',hg⟩:=hj _ hq;exact pM.val h (by simp[execOp,he,hv,Instr.extract,hv']) (ab7 hg)
   ·exact jX.elim
  ·exact jX.elim
 ·cases hc
def Uk (P:Program)(n:Nat)(op:Op)(x i:pF):Bool:=match op with|.index t x' i'=>kZ n x' x&&kZ n i' i&&OC P t|_=>false
theorem aal {o:Oper}{x y:pF}{s:List UInt8}{k:IntKind}{i:Int}(h:GX E I ρ n st a w)(hc:Uk P n o.op x y=true)(hx:(x.ev st.tm).g=true)(hy:(y.ev st.tm).g=true)
 (e1:fA st.tm x=IX s) (e2:fA st.tm y=xI k i) (h0:0<=i) (h1:i<s.length):pM P E n o a w st (xI .u8 (s.getD i.toNat 0).toNat):=by
 unfold Uk at hc;split at hc
 ·rename_i t x' y' he;simp only[ai]at hc;have g1:=ou h hc.1.1 hx;have g2:=ou h hc.1.2 hy;rw[e1]at g1;rw[e2]at g2;obtain⟨v1,_⟩:=Hf g1;have v2:=yc g2;have ht:=GR hc.2;have hi:i.toNat<s.length:=by omega
  refine pM.val h (v:=.int .u8 (s.getD i.toNat 0).toNat) ?_ (Bl _ _);have hb:(⟨⟨s⟩⟩:ByteArray)[i.toNat]? = some (s.getD i.toNat 0):=by have:(⟨⟨s⟩⟩:ByteArray)[i.toNat]? = some ((⟨⟨s⟩⟩:ByteArray)[i.toNat]'(by simpa[ByteArray.size]using hi)):=getElem?_pos _ _ _;rw[this];simp[bu,aF hi];rfl
  simp[execOp,he,Instr.index,v1,v2,asIntOf,run_underlying ht,h0,hb]
 ·cases hc
def Uo (n:Nat)(op:Op)(f:FuncId)(cs:List pF):Bool:=match op with|.makeFunc (.func g) ⟨[]⟩ caps=>g==f&&(caps.size==cs.length)&&(caps.toList.zip cs).all λp=>kZ n p.1 p.2|_=>false
theorem aeo {cs:List pF}{os:List Operand}{l:List Nat}(h:GX E I ρ n st a w)(hl:os.length=cs.length)(hc:(os.zip cs).all (λp=>kZ n p.1 p.2)=true)(hg:∀x,x∈cs->(x.ev st.tm).g=true)
 (hk:G8 (cs.map (fA st.tm))=some l):∃ks:List Nat,ks.length=l.length/\(∀(j b k:Nat),l[j]? = some b->ks[j]? = some k->∃cap,ρ b=some (k,cap))/\os.map a.eval=ks.map λk=>yB (some ⟨k,0,none⟩):=by
 induction cs generalizing os l with
 | nil=>
   simp[G8]at hk;subst hk;cases os with
   |nil=>exact⟨[],rfl,by simp,rfl⟩
   |cons _ _=>simp at hl
 | cons c r ih=>
   cases os with
   |nil=>simp at hl
   | cons o os=>
     simp only[List.zip_cons_cons,dI,ai]at hc;have g:=ou h hc.1 (hg c (by simp));simp only[bf]at hk;unfold G8 at hk;split at hk
     ·rename_i e;cases e
     ·rename_i b r' e;simp only[wU]at e;obtain⟨e1,rfl⟩:=e;cases hq:G8 (r.map (fA st.tm))with
      |none=>rw[hq]at hk;cases hk
      | some l'=>
        rw[hq]at hk;simp at hk;subst hk;obtain⟨ks,h1,h2,h3⟩:=ih (by simpa using hl) hc.2 (λx hx=>hg x (by simp[hx])) hq;rw[e1]at g;obtain⟨k,cap,hr,hv⟩:=g;refine⟨k::ks,by simp[h1],λj b' k' hb hk=>?_,by simp[hv,h3]⟩;cases j with
        |zero=>simp at hb hk;subst hb;subst hk;exact⟨cap,hr⟩
        |succ j=>exact h2 j b' k' (by simpa using hb) (by simpa using hk)
     ·cases hk
theorem aaC {o:Oper}{f:FuncId}{cs:List pF}{l:List Nat}(h:GX E I ρ n st a w)(hc:Uo n o.op f cs=true)(hg:∀x,x∈cs->(x.ev st.tm).g=true)
 (hk:G8 (cs.map (fA st.tm))=some l):pM P E n o a w st (.one (.fn f l)):=by
 unfold Uo at hc;split at hc
 ·rename_i g caps he;simp only[ai,beq_iff_eq]at hc;obtain⟨⟨rfl,hl⟩,hc⟩:=hc;obtain⟨ks,h1,h2,h3⟩:=aeo h (by simpa using hl) hc hg hk;refine pM.val h (v:=.func (.func g) #[] (caps.map a.eval)) (by simp[execOp,he,Instr.makeFunc]) ⟨ks,h1,h2,?_⟩
  congr 1
  apply BV;simpa using h3
 ·cases hc
def Jw (off:Nat) (x:AV):FR:=match x with
    |.one (.ptr b o)=>.ok (.one (.ptr b (o+off)))
    |.one (.Aq b i sz o)=>.ok (.one (.Aq b i sz (o+off)))
    |.one (.G9 cs)=>.ok (.one (.G9 (cs.drop off)))
    |_=>.bad
theorem ab1 {v:Value}{x:AV}{off:Nat}(h:GV I ρ v x)(jX:(Jw off x).vc):∃p:Addr,v = .pointer (some p)/\GV I ρ (.pointer (some (p.add off))) (Jw off x).v:=by
 unfold Jw at *;split at jX
 ·rename_i b o;obtain⟨k,cap,hr,rfl⟩:=h;exact⟨_,rfl,k,cap,hr,by rw[Addr.zY]⟩
 ·rename_i b i sz o;obtain⟨k,cap,hr,rfl⟩:=h;exact⟨_,rfl,k,cap,hr,by rw[Addr.zY,vw]⟩
 ·rename_i cs;obtain⟨p,rfl,hc⟩:=h;exact⟨p,rfl,_,rfl,λj c hj=>by rw[jl]at hj;rw[Addr.add_add];exact hc _ c hj⟩
 ·exact jX.elim
def Uz (P:Program)(s:TypeId)(f off:Nat)(agg:Bool)(k:Nat):Bool:=
 match P.underlying s with
 | some (.struct fs)=>match fs[f]? with
   |some UB=>UB.offset==off&&RN P UB.type agg k&&k != 0
   |none=>false
 |_=>false
theorem UA {s:TypeId}{f off:Nat}{agg:Bool}{k:Nat}(h:Uz P s f off agg k=true):∃fs UB,P.underlying s=some (.struct fs)/\fs[f]? = some UB/\UB.offset=off/\RN P UB.type agg k=true/\k≠0:=by
 unfold Uz at h;split at h
 ·rename_i fs hs;split at h
  ·rename_i UB hf;simp only[ai,beq_iff_eq,bne_iff_ne]at h;exact⟨fs,UB,hs,hf,h.1.1,h.1.2,h.2⟩
  ·cases h
 ·cases h
def VX (P:Program)(s:TypeId)(f off:Nat):Bool:=
 match P.underlying s with
 | some (.struct fs)=>match fs[f]? with
   |some UB=>UB.offset==off&&(match P.info? UB.type with|some i=>i.size != 0|none=>false)
   |none=>false
 |_=>false
def Qm (P:Program)(n:Nat)(op:Op)(off:Nat)(x:pF):Bool:=match op with|.fieldAddr s x' f=>kZ n x' x&&VX P s f off|_=>false
theorem XZ {o:Oper}{x:pF}{off:Nat}(h:GX E I ρ n st a w)(hc:Qm P n o.op off x=true)(hx:(x.ev st.tm).g=true)(jX:(Jw off (fA st.tm x)).vc):pM P E n o a w st (Jw off (fA st.tm x)).v:=by
 unfold Qm at hc;split at hc
 ·rename_i s x' f he;simp only[ai]at hc;have g:=ou h hc.1 hx;obtain⟨p,hp,hg⟩:=ab1 g jX;obtain⟨_,hf⟩:=hc;unfold VX at hf;split at hf
  ·rename_i fs hs;split at hf
   ·rename_i UB hfld;simp only[ai,beq_iff_eq]at hf;obtain⟨rfl,hf⟩:=hf;split at hf
    ·rename_i i hi;simp at hf;refine pM.val h ?_ hg;simp[execOp,he,Instr.fieldAt,run_underlying hs,hfld,hp,uB,fieldPlace,sizeOf,typeInfo,hi,hf]
    ·cases hf
   ·cases hf
  ·cases hf
 ·cases hc
def OI (x:AV):FR:=match x with
    |.one (.ptr b o)=>.ok (.one (.ptr b o))
    |.one (.Aq b i sz o)=>.ok (.one (.Aq b i sz o))
    |.one (.G9 cs)=>.ok (.one (.G9 cs))
    |.one (.fn f cs)=>.ok (.one (.fn f cs))
    |_=>.bad
def Qs (n:Nat)(op:Op)(x:pF):Bool:=match op with|.nilCheck x'=>kZ n x' x|_=>false
theorem Yk {o:Oper}{x:pF}(h:GX E I ρ n st a w)(hc:Qs n o.op x=true)(hx:(x.ev st.tm).g=true)(jX:(OI (fA st.tm x)).vc):pM P E n o a w st (OI (fA st.tm x)).v:=by
 unfold Qs at hc;split at hc
 ·rename_i x' he;have g:=ou h hc hx;have key:(∃p,a.eval x' = .pointer (some p))\/(∃f b,a.eval x' = .func (.func f) #[] b)->(execOp a.eval o).run P w = .ok (.value (a.eval x')) w:=by rintro(⟨p,hp⟩|⟨f,b,hp⟩)<;>simp[execOp,he,hp]
  unfold OI at jX⊢;split at jX
  ·rename_i b o' e1;rw[e1]at g;exact pM.val h (key (by obtain⟨k,cap,hr,hv⟩:=g;exact .inl ⟨_,hv⟩)) g
  ·rename_i b i sz o' e1;rw[e1]at g;exact pM.val h (key (by obtain⟨k,cap,hr,hv⟩:=g;exact .inl ⟨_,hv⟩)) g
  ·rename_i cs e1;rw[e1]at g;exact pM.val h (key (by obtain⟨p,hv,_⟩:=g;exact .inl ⟨_,hv⟩)) g
  ·rename_i f cs e1;rw[e1]at g;exact pM.val h (key (by obtain⟨ks,_,_,hv⟩:=g;exact .inr ⟨_,_,hv⟩)) g
  ·exact jX.elim
 ·cases hc
end
end
section
section
variable {P:Program} {E:Env P} {I:IH} {ρ:Ren} {n:Nat} {st:iH} {a:Act} {w:World}
def Ot (agg:Bool) (off k:Nat) (x:AV):FR:=match x with
    | .agg xs=>if agg then⟨off+k<=xs.length,.agg ((xs.drop off).take k),[]⟩else match xs[off]? with
      |some x=>.ok (.one x)
      |none=>.bad
    |_=>.bad
def Qn (P:Program)(n:Nat)(op:Op)(agg:Bool)(off k:Nat)(x:pF):Bool:=match op with|.field s x' f=>kZ n x' x&&Uz P s f off agg k|_=>false
theorem ab5 {vs:List Value}{xs:List AC}(h:JW I ρ vs xs)(off k:Nat):JW I ρ ((vs.drop off).take k) ((xs.drop off).take k):=by
 refine⟨by simp[h.1],λj v x hv hx=>?_⟩;rw[bQ]at hv hx;split at hv
 ·rename_i hj;rw[if_pos hj]at hx;rw[jl]at hv hx;exact h.2 _ v x hv hx
 ·cases hv
theorem X0 {o:Oper}{x:pF}{agg:Bool}{off k:Nat}(h:GX E I ρ n st a w)(hc:Qn P n o.op agg off k x=true)(hx:(x.ev st.tm).g=true)(jX:(Ot agg off k (fA st.tm x)).vc) :
 pM P E n o a w st (Ot agg off k (fA st.tm x)).v:=by
 unfold Qn at hc;split at hc
 ·rename_i s x' f he;simp only[ai]at hc;have g:=ou h hc.1 hx;obtain⟨fs,UB,hs,hf,rfl,ht,hk⟩:=UA hc.2;obtain⟨t1,t2⟩:=Kz ht w;unfold Ot at jX⊢;split at jX
  ·rename_i xs e1;rw[e1]at g;obtain⟨cs,hv,hg⟩:=g;split at jX
   ·rename_i hA;rw[if_pos hA];rw[hA]at t1;refine pM.val h (v:=.agg (cs.extract UB.offset (UB.offset+k))) (by simp[execOp,he,Instr.field,run_underlying hs,hf,hv,asAgg,part,t1,t2]) ⟨_,rfl,?_⟩;have:=ab5 hg UB.offset k;simpa[List.extract_eq_take_drop]using this
   ·rename_i hA;rw[if_neg hA];have hA':agg=false:=(by simpa using hA);rw[hA']at t1;split at jX
    ·rename_i y hy;have hl:UB.offset<cs.size:=by
      have h1:=hg.1;have h2:=(bD.1 hy).1;simp at h1;omega
     refine pM.val h (v:=cs[UB.offset]) (by simp[execOp,he,Instr.field,run_underlying hs,hf,hv,asAgg,part,t1,oZ hl]) (hg.2 UB.offset _ y (by simp[hl]) hy)
    ·exact jX.elim
  ·exact jX.elim
 ·cases hc
def Oz (sz:Nat) (x i:AV):FR:=match x,i with
    |.one (.c (.sl sz' es)),.one (.c (.lit (.int _ i)))=>⟨sz'=sz/\0<=i/\i<es.length,.one (.G9 (es.getD i.toNat [])),[]⟩
    |.one (.own b n sz'),.one (.c (.lit (.int _ i)))=>⟨sz'=sz/\0<=i/\i<n,.one (.Aq b i.toNat sz 0),[]⟩
    |.one (.sub b lo n _ sz'),.one (.c (.lit (.int _ i)))=>⟨sz'=sz/\0<=i/\i<n,.one (.Aq b (lo+i.toNat) sz 0),[]⟩
    |_,_=>.bad
def Ld (P:Program)(t:TypeId)(sz:Nat):Bool:=match P.underlying t with|some (.slice e)=>OU P e sz|_=>false
theorem Ed {t:TypeId}{sz:Nat}(h:Ld P t sz=true):∃e i,P.underlying t=some (.slice e)/\P.info? e=some i/\i.size=sz:=by
 unfold Ld at h;split at h
 ·rename_i e he;obtain⟨i,h1,h2⟩:=JO h;exact⟨e,i,he,h1,h2⟩
 ·cases h
def Qp (P:Program)(n:Nat)(op:Op)(sz:Nat)(x i:pF):Bool:=match op with|.indexAddr t x' i'=>kZ n x' x&&kZ n i' i&&Ld P t sz|_=>false
theorem Ya {o:Oper}{x y:pF}{sz:Nat}(h:GX E I ρ n st a w)(hc:Qp P n o.op sz x y=true)(hx:(x.ev st.tm).g=true)(hy:(y.ev st.tm).g=true)
 (jX:(Oz sz (fA st.tm x) (fA st.tm y)).vc):pM P E n o a w st (Oz sz (fA st.tm x) (fA st.tm y)).v:=by
 unfold Qp at hc;split at hc
 ·rename_i t x' y' he;simp only[ai]at hc;have g1:=ou h hc.1.1 hx;have g2:=ou h hc.1.2 hy;obtain⟨e,ti,ht,hi,hsz⟩:=Ed hc.2;unfold Oz at jX⊢;split at jX
  ·rename_i sz' es k i e1 e2;obtain⟨rfl,h0,h1⟩:=jX;rw[e1]at g1;rw[e2]at g2;have v2:=yc g2;generalize hq:a.eval x'=v1 at g1;cases g1 with|sl b len cap _ _ u hlen hcap hmax ahM ha hcell hr=>
   subst hlen;have hpos:0<es.length:=(by omega);cases hb:b with
   |none=>exact absurd hb (ha hpos)
   | some ad=>
     subst hb;refine pM.val h (v:=.pointer (some (ad.add (i.toNat*sz')))) (by simp[execOp,he,AX,v2,hq,asIntOf,run_underlying ht,h0,h1,sizeOf,typeInfo,hi,hsz]) ⟨_,rfl,λj c hj=>?_⟩;have hil:i.toNat<es.length:=(by omega);have hjl:j<sz':=by have:=ahM (es.getD i.toNat []) (by simp[bu,aF hil]);rw[<- this];exact(bD.1 hj).1
     exact⟨_,by rw[Addr.add_add];exact hcell ad rfl _ j hil hjl,hr _ j c hj⟩
  ·rename_i b m sz' k i e1 e2;obtain⟨rfl,h0,h1⟩:=jX;rw[e1]at g1;rw[e2]at g2;have v2:=yc g2;obtain⟨kk,cap,ad,c,hr,hv,hm,hcc,hcap⟩:=g1;have hc0:cap≠0:=(by omega);have had:=hcap hc0;subst had;refine pM.val h (v:=.pointer (some ((⟨kk,0,none⟩:Addr).add (i.toNat*sz')))) (by simp[execOp,he,AX,v2,hv,asIntOf,run_underlying ht,h0,h1,sizeOf,typeInfo,hi,hsz]) ⟨kk,cap,hr,?_⟩;rw[Addr.zY];simp
  ·rename_i b lo m c0 sz' k i e1 e2;obtain⟨rfl,h0,h1⟩:=jX;rw[e1]at g1;rw[e2]at g2;have v2:=yc g2;obtain⟨kk,cap,ad,c,hr,hv,hm,hcc,_,hcap⟩:=g1;have had:=hcap (.inl (by omega));subst had;refine pM.val h (v:=.pointer (some ((⟨kk,lo*sz',none⟩:Addr).add (i.toNat*sz')))) (by simp[execOp,he,AX,v2,hv,asIntOf,run_underlying ht,h0,h1,sizeOf,typeInfo,hi,hsz]) ⟨kk,cap,hr,?_⟩;rw[Addr.zY,eG,nG]
  ·exact jX.elim
 ·cases hc
def MK (P:Program)(t:TypeId)(sz n:Nat):Bool:=match P.underlying t with|some (.array m e)=>m==n&&OU P e sz|_=>false
theorem ML {t:TypeId}{sz m:Nat}(h:MK P t sz m=true):∃e i,P.underlying t=some (.array m e)/\P.info? e=some i/\i.size=sz:=by
 unfold MK at h;split at h
 ·rename_i m' e he;simp only[ai,beq_iff_eq]at h;obtain⟨rfl,h⟩:=h;obtain⟨i,h1,h2⟩:=JO h;exact⟨e,i,he,h1,h2⟩
 ·cases h
def Ol (P:Program)(n:Nat)(op:Op)(sz m:Nat)(x i:pF):Bool:=match op with|.indexAddr t x' i'=>kZ n x' x&&kZ n i' i&&MK P t sz m|_=>false
theorem Wp {o:Oper}{x y:pF}{sz m b:Nat}{k:IntKind}{i:Int}(h:GX E I ρ n st a w)(hc:Ol P n o.op sz m x y=true)(hx:(x.ev st.tm).g=true)(hy:(y.ev st.tm).g=true)
 (e1:fA st.tm x = .one (.Aq b 0 sz 0)) (e2:fA st.tm y=xI k i) (h0:0<=i) (h1:i<m):pM P E n o a w st (.one (.Aq b i.toNat sz 0)):=by
 unfold Ol at hc;split at hc
 ·rename_i t x' y' he;simp only[ai]at hc;have g1:=ou h hc.1.1 hx;have g2:=ou h hc.1.2 hy;obtain⟨e,ti,ht,hi,hsz⟩:=ML hc.2;rw[e1]at g1;rw[e2]at g2;have v2:=yc g2;obtain⟨kk,cap,hr,hv⟩:=g1;refine pM.val h (v:=.pointer (some ((⟨kk,0*sz+0,none⟩:Addr).add (i.toNat*sz)))) (by simp[execOp,he,AX,v2,hv,asIntOf,run_underlying ht,uB,h0,h1,sizeOf,typeInfo,hi,hsz]) ⟨kk,cap,hr,?_⟩;rw[Addr.zY];simp
 ·cases hc
theorem H8 {lo:Option pF}{lo':Option Operand}{d:Nat}{q:Int}(h:GX E I ρ n st a w)(hc:(match lo',lo with|none,none=>true|some x',some x=>kZ n x' x|_,_=>false)=true)
 (hg:∀x,x∈lo.toList->(x.ev st.tm).g=true) (hb:bnd (fA st.tm) lo d=some q):(lo'=none/\lo=none/\q=d)\/∃x' k,lo'=some x'/\a.eval x' = .int k q:=by
 unfold bnd at hb;split at hc
 ·simp at hb;exact .inl ⟨rfl,rfl,hb.symm⟩
 ·rename_i x' x;have g:=ou h hc (hg x (by simp));simp only at hb;split at hb
  ·rename_i k m e1;simp at hb;subst hb;rw[e1]at g;exact .inr ⟨x',k,rfl,yc g⟩
  ·cases hb
 ·cases hc
def Oi (n:Nat)(lo':Option Operand)(lo:Option pF):Bool:=match lo',lo with|none,none=>true|some x',some x=>kZ n x' x|_,_=>false
theorem JZ {lo:Option pF}{lo':Option Operand}{d:Nat}{q:Int}(h:(lo'=none/\lo=none/\q=d)\/∃x' k,lo'=some x'/\a.eval x' = .int k q) :
 lo'.map a.eval=none/\q=d\/∃k,lo'.map a.eval=some (.int k q):=by
 rcases h with⟨rfl,_,e⟩|⟨y,k,rfl,e⟩
 ·exact .inl ⟨rfl,e⟩
 ·exact .inr ⟨k,by simp[e]⟩
theorem run_sliceBound {k:IntKind}{i:Int}{y:Nat}{c:BoundsCode}(h0:0<=i)(h1:i<=y):(Instr.sliceBound (.int k i) y c).run P w = .ok i.toNat w:=by simp[Instr.sliceBound,asIntOf,h0,h1]
theorem DT (isS:Bool)(len cap:Nat)(lo' hi':Option Value){p q:Int}(hlo:lo'=none/\p=0\/∃k,lo'=some (.int k p))(hhi:hi'=none/\q=len\/∃k,hi'=some (.int k q))
 (h0:0<=p) (h1:p<=q) (h2:q<=cap):(yQ isS len cap lo' hi' none).run P w = .ok (p.toNat,q.toNat,cap) w:=by
 rcases hlo with⟨rfl,rfl⟩|⟨k,rfl⟩<;>rcases hhi with⟨rfl,rfl⟩|⟨k',rfl⟩<;>cases isS <;>
  simp (disch:=omega) [yQ,run_sliceBound]
def Qw (P:Program)(n:Nat)(op:Op)(x:pF)(lo hi:Option pF):Bool:=match op with|.slice t x' lo' hi' none=>kZ n x' x&&Oi n lo' lo&&Oi n hi' hi&&OC P t|_=>false
theorem Yy {o:Oper}{x:pF}{lo hi:Option pF}{s:List UInt8}{p q:Int}(h:GX E I ρ n st a w)(hc:Qw P n o.op x lo hi=true)(hx:(x.ev st.tm).g=true)
 (hgl:∀x,x∈lo.toList->(x.ev st.tm).g=true) (hgh:∀x,x∈hi.toList->(x.ev st.tm).g=true)
 (e1:fA st.tm x=IX s) (e2:bnd (fA st.tm) lo 0=some p) (e3:bnd (fA st.tm) hi s.length=some q) (h0:0<=p) (h1:p<=q) (h2:q<=s.length) :
 pM P E n o a w st (IX ((s.take q.toNat).drop p.toNat)):=by
 unfold Qw at hc;split at hc
 ·rename_i t x' lo' hi' he;simp only[ai]at hc;have g1:=ou h hc.1.1.1 hx;have ht:=GR hc.2;rw[e1]at g1;obtain⟨v1,hl⟩:=Hf g1;have b1:=H8 h hc.1.1.2 hgl e2;have b2:=H8 h hc.1.2 hgh e3;have hb:=DT (P:=P) (w:=w) false s.length s.length (lo'.map a.eval) (hi'.map a.eval) (p:=p) (q:=q)
   (JZ b1) (JZ b2) h0 h1 h2
  have hx:(⟨⟨s⟩⟩:ByteArray).extract p.toNat q.toNat=⟨⟨(s.take q.toNat).drop p.toNat⟩⟩:=by rw[Lib.extract_eq];simp[List.drop_take]
  refine pM.val h (v:=.string ⟨⟨(s.take q.toNat).drop p.toNat⟩⟩) ?_ (UN (by simp;omega));simp only[execOp,he,yz,BO,v1,lC];simp[run_underlying ht];rw[show(⟨⟨s⟩⟩:ByteArray).size=s.length from rfl,hb];simp[hx]
 ·cases hc
def TF (sz:Nat) (x:AV) (lo:Option Int) (hi:Nat->Option Int):FR:=match x with
    | .one (.c (.sl sz' es))=>match lo,hi es.length with
      |some a,some b=>⟨sz'=sz/\0<=a/\a<=b/\b<=es.length,vSl sz ((es.take b.toNat).drop a.toNat),[]⟩
      |_,_=>.bad
    | .one (.jI sz')=>match lo,hi 0 with
      |some a,some b=>⟨a=0/\b=0,.one (.jI sz'),[]⟩
      |_,_=>.bad
    | .one (.own l n sz')=>match lo,hi n with
      |some a,some b=>⟨a=0/\0<=b/\b<=n,.one (.own l b.toNat sz'),[]⟩
      |_,_=>.bad
    |_=>.bad
theorem agl {v:Value}{sz:Nat}{es:List (List Cell)}(h:Rd I v (.sl sz es)){p q:Nat}(hpq:p<=q)(hq:q<=es.length):∃a cap,v = .slice a es.length cap/\es.length<=cap /\
 Rd I (.slice (if cap=p then a else a.map (·.add (p*sz))) (q-p) (cap-p)) (.sl sz ((es.take q).drop p)):=by
 cases h with|sl a len cap sz es u hlen hcap hmax hsz ha hcell hr=>
 subst hlen;refine⟨a,cap,rfl,hcap,?_⟩;refine Rd.sl _ _ _ _ _ (λi j=>u (p+i) j) (by simp;omega) (by omega) (by omega) ?_ ?_ ?_ ?_
 ·intro e he;exact hsz e (dS (mX he))
 ·intro h0;rw[if_neg (by omega)];have:=ha (by omega);cases a with
  |none=>exact absurd rfl this
  |some ad=>simp
 ·intro ad had i j hi hj;rw[if_neg (by omega)]at had;cases a with
  |none=>simp at had
  | some ad'=>
    simp at had;subst had;rw[Addr.add_add,<- hcell ad' rfl (p+i) j (by omega) hj]
    congr 2
    rw[eG,vw]
 ·intro i j c hc;have hi:=mF hc;simp at hi;refine hr (p+i) j c ?_;rw[<- hc]
  congr 1
  simp only[bu];rw[jl,bQ,if_pos (by omega)]
def Uw (P:Program)(n:Nat)(op:Op)(sz:Nat)(x:pF)(lo hi:Option pF):Bool:=match op with|.slice t x' lo' hi' none=>kZ n x' x&&Oi n lo' lo&&Oi n hi' hi&&Ld P t sz|_=>false
theorem aaW {o:Oper}{sz:Nat}{x:pF}{lo hi:Option pF}(h:GX E I ρ n st a w)(hc:Uw P n o.op sz x lo hi=true)(hx:(x.ev st.tm).g=true)
 (hgl:∀x,x∈lo.toList->(x.ev st.tm).g=true) (hgh:∀x,x∈hi.toList->(x.ev st.tm).g=true)
 (jX:(TF sz (fA st.tm x) (bnd (fA st.tm) lo 0) (bnd (fA st.tm) hi)).vc):pM P E n o a w st (TF sz (fA st.tm x) (bnd (fA st.tm) lo 0) (bnd (fA st.tm) hi)).v:=by
 unfold Uw at hc;split at hc
 ·rename_i t x' lo' hi' he;simp only[ai]at hc;have g1:=ou h hc.1.1.1 hx;obtain⟨e,ti,ht,hti,hsz⟩:=Ed hc.2;have key:∀(b:Option Addr) (len cap:Nat) (p q:Int),a.eval x' = .slice b len cap->len<=cap->bnd (fA st.tm) lo 0=some p->bnd (fA st.tm) hi len=some q->0<=p->p<=q->q<=cap ->
   (execOp a.eval o).run P w = .ok (.value (.slice (if cap=p.toNat then b else b.map (·.add (p.toNat*sz))) (q.toNat-p.toNat) (cap-p.toNat))) w:=by
   intro b len cap p q hv hlc e2 e3 h0 h1 h2;have b1:=H8 h hc.1.1.2 hgl e2;have b2:=H8 h hc.1.2 hgh e3;have hb:=DT (P:=P) (w:=w) true len cap (lo'.map a.eval) (hi'.map a.eval) (p:=p) (q:=q)
    (JZ b1) (JZ b2) h0 h1 h2
   simp only[execOp,he,yz,BO,hv,lC];simp[run_underlying ht];rw[hb];simp[sizeOf,typeInfo,hti,hsz]
  unfold TF at jX⊢;split at jX
  ·rename_i sz' es e1;rw[e1]at g1;split at jX
   ·rename_i p q e2 e3;obtain⟨rfl,h0,h1,h2⟩:=jX;obtain⟨b,cap,hv,hcap,hr⟩:=agl g1 (p:=p.toNat) (q:=q.toNat) (by omega) (by omega);exact pM.val h (key b _ cap p q hv hcap e2 e3 h0 h1 (by omega)) hr
   ·exact jX.elim
  ·rename_i sz' e1;rw[e1]at g1;split at jX
   ·rename_i p q e2 e3;obtain⟨rfl,rfl⟩:=jX;have:=key none 0 0 0 0 g1 (ax _) e2 e3 (by omega) (by omega) (by omega);exact pM.val h this (by simp[GV,GC])
   ·exact jX.elim
  ·rename_i b m sz' e1;rw[e1]at g1;split at jX
   ·rename_i p q e2 e3;obtain⟨rfl,h1,h2⟩:=jX;obtain⟨kk,cap,ad,c,hr,hv,hm,hcc,hcap⟩:=g1;have:=key ad m c 0 q hv hm e2 e3 (by omega) (by omega) (by omega);refine pM.val h this ⟨kk,cap,_,_,hr,rfl,by omega,by omega,λhc0=>?_⟩;rw[hcap hc0];simp[Addr.add_zero]
   ·exact jX.elim
  ·exact jX.elim
 ·cases hc
def Qv (P:Program)(n:Nat)(op:Op)(sz m:Nat)(x:pF):Bool:=match op with|.slice t x' none none none=>kZ n x' x&&MK P t sz m|_=>false
theorem Yx {o:Oper}{sz m b:Nat}{es:List (List Cell)}{x:pF}(h:GX E I ρ n st a w)(hc:Qv P n o.op sz m x=true)(hx:(x.ev st.tm).g=true)
 (e1:fA st.tm x = .one (.Aq b 0 sz 0)) (e2:st.bx b = .dat sz es) (hm:es.length=m):pM P E n o a w st (.one (.own b m sz)):=by
 unfold Qv at hc;split at hc
 ·rename_i t x' he;simp only[ai]at hc;have g1:=ou h hc.1 hx;rw[e1]at g1;obtain⟨kk,cap,hr,hv⟩:=g1;obtain⟨e,ti,ht,hi',hsz⟩:=ML hc.2;have facts:=GS.H6 h (b:=b) (by rw[e2];rfl) hr;refine pM.val h (v:=.slice (some ⟨kk,0,none⟩) m m) ?_ ⟨kk,cap,_,_,hr,rfl,ax _,by omega,λ_=>rfl⟩;have hb:=DT (P:=P) (w:=w) false m m none none (p:=0) (q:=m) (.inl ⟨rfl,rfl⟩) (.inl ⟨rfl,rfl⟩) (by omega) (by omega) (by omega);simp only[execOp,he,yz,hv,lC];simp[run_underlying ht,uB];rw[hb];simp[sizeOf,typeInfo,hi',Addr.add_zero]
 ·cases hc
end
end
section
section
variable {P:Program} {E:Env P} {I:IH} {ρ:Ren} {n:Nat} {st:iH} {a:Act} {w:World}
theorem sG {α:Type}(xs ys:List α)(off j:Nat)(h:off+ys.length<=xs.length):(splice xs off ys)[j]? = if j<off then xs[j]? else if j<off+ys.length then ys[j-off]? else xs[j]?:=by
 unfold splice;have h1:(xs.take off).length=off:=by simp;omega
 by_cases hj:j<off
 ·rw[if_pos hj,dA,gm (by omega),bQ,if_pos hj]
 ·rw[if_neg hj];by_cases hj2:j<off+ys.length
  ·rw[if_pos hj2,gm (by simp;omega),gX (by omega),h1]
  ·rw[if_neg hj2,gX (by simp;omega),jl]
   congr 1
   simp;omega
theorem length_splice {α:Type}(xs ys:List α)(off:Nat)(h:off+ys.length<=xs.length):(splice xs off ys).length=xs.length:=by unfold splice;simp;omega
theorem QN {α:Type}(vs:List α):∀(i off:Nat) (cs:Array α),off+i+vs.length<=cs.size ->
 ((vs.zipIdx i).foldl (λcs p=>cs.setIfInBounds (off+p.2) p.1) cs).toList=splice cs.toList (off+i) vs:=by
 induction vs with
 |nil=>intro i off cs h;simp[splice]
 | cons v r ih=>
   intro i off cs h;simp only[List.zipIdx_cons,lZ];rw[ih (i+1) off _ (by simp at h⊢;omega)];apply List.ext_getElem?;intro j;simp only[bH]at h;rw[sG _ _ _ _ (by simp;omega),sG _ _ _ _ (by simp;omega)];simp only[Array.toList_setIfInBounds,DL,bH];by_cases h1:j<off+i
   ·rw[if_pos (by omega),if_neg (by omega),if_pos h1]
   ·rw[if_neg h1];by_cases h2:j=off+i
    ·subst h2;rw[if_pos (by omega),if_pos rfl,if_pos (by simp;omega),if_pos (by omega)];simp
    ·rw[if_neg (by omega)];by_cases h3:j<off+(i+1)+r.length
     ·rw[if_pos h3,if_pos (by omega)];rw[show j-(off+i)=(j-(off+(i+1)))+1 by omega,List.getElem?_cons_succ]
     ·rw[if_neg h3,if_neg (by omega),if_neg (by omega)]
theorem foldl_set (v:Array Value)(off:Nat)(cs:Array Value)(h:off+v.size<=cs.size) :
 (v.zipIdx.foldl (λcs (p:Value×Nat)=>cs.setIfInBounds (off+p.2) p.1) cs).toList=splice cs.toList off v.toList:=by
 have:=QN v.toList 0 off cs (by simpa using h);rw[nG]at this;rw[<- this,<- Array.foldl_toList,Array.toList_zipIdx]
theorem JW.splice {vs us:List Value}{xs ys:List AC}(h:JW I ρ vs xs)(k:JW I ρ us ys)(off:Nat)(hl:off+ys.length<=xs.length):JW I ρ (splice vs off us) (splice xs off ys):=by
 have hlu:off+us.length<=vs.length:=by rw[h.1,k.1];exact hl
 refine⟨by rw[length_splice _ _ _ hlu,length_splice _ _ _ hl];exact h.1,λj v x hv hx=>?_⟩;rw[sG _ _ _ _ hlu]at hv;rw[sG _ _ _ _ hl]at hx;rw[k.1]at hv;by_cases h1:j<off
 ·rw[if_pos h1]at hv hx;exact h.2 j v x hv hx
 ·rw[if_neg h1]at hv hx;by_cases h2:j<off+ys.length
  ·rw[if_pos h2]at hv hx;exact k.2 _ v x hv hx
  ·rw[if_neg h2]at hv hx;exact h.2 j v x hv hx
theorem Jy {v:Value}{x:AV}(h:GV I ρ v x)(ht:x.flat):JW I ρ v.cells.toList x.cells:=by
 cases x with
 | one x=>
   have h1:=GC.one h;have hc:v.cells = #[v]:=by cases v<;>first|rfl|(simp[Value.oneCell']at h1;done)
   rw[hc];exact⟨rfl,λj u y hu hy=>by cases j with
    |zero=>simp at hu;simp[AV.cells]at hy;subst hu;subst hy;exact h
    |succ j=>simp at hu⟩
 |agg xs=>obtain⟨cs,rfl,hg⟩:=h;exact hg
 |xg ps=>exact ht.elim
def NY (zs:List Value)(xs:List AC):Bool:=zs.length==xs.length&&(zs.zip xs).all λp=>aep p.1 p.2
theorem I5 {zs:List Value}{xs:List AC}(h:NY zs xs=true):JW I ρ zs xs:=by unfold NY at h;simp only[ai,beq_iff_eq,aZ]at h;refine⟨h.1,λj v x hv hx=>YP (h.2 (v,x) ?_)⟩;exact iV (i:=j) (by simp[zW,hv,hx])
def J9 (P:Program)(n:Nat)(fs:Array Field):List (Nat×Operand)->List (Nat×Nat×pF)->Bool
 |[],[]=>true
 |(i,x)::r,(off,sz,y)::r'=>(match fs[i]? with
  |some f=>f.offset==off&&OU P f.type sz
  |none=>false)&&kZ n x y&&J9 P n fs r r'
 |_,_=>false
theorem run_places (w:World)(fs:List Field)(h:fs.all (λf=>(P.info? f.type).isSome)=true) :
 (fs.mapM (m:=Sem) λf=>do pure (f.offset,<- sizeOf f.type)).run P w = .ok (fs.map λf=>(f.offset,P.cellsOf f.type)) w:=by
 induction fs with
 |nil=>rfl
 | cons f r ih=>
   simp only[dI,ai]at h;cases hi:P.info? f.type with
   |none=>rw[hi]at h;cases h.1
   | some i=>have h1:(sizeOf f.type).run P w = .ok (P.cellsOf f.type) w:=(by simp[sizeOf,typeInfo,hi,Program.cellsOf]);simp only[List.mapM_cons,gQ,h1,dK,fQ,ih h.2,bf]
def YL (P:Program)(n:Nat)(t:TypeId)(zs:List AC)(ps:List (Nat×Operand))(ps':List (Nat×Nat×pF)):Bool:=
 match P.underlying t,P.info? t with
 |some (.struct fs),some i=>(match i.zero with|some (.agg cs)=>NY cs.toList zs|_=>false)&&fs.toList.all (λf=>(P.info? f.type).isSome)&&J9 P n fs ps ps'
 |_,_=>false
def Ql (P:Program)(n:Nat)(op:Op)(zs:List AC)(ps':List (Nat×Nat×pF)):Bool:=match op with|.build t ps=>YL P n t zs ps.toList ps'|_=>false
theorem XH {t:TypeId}{k:Nat}(h:OU P t k=true):P.cellsOf t=k:=by obtain⟨i,hi,hs⟩:=JO h;simp[Program.cellsOf,hi,hs]
theorem YV {fs:Array Field}(h:GX E I ρ n st a w):∀(ps:List (Nat×Operand)) (ps':List (Nat×Nat×pF)) (cs:Array Value) (xs:List AC),J9 P n fs ps ps'=true->JW I ρ cs.toList xs ->
 (∀p,p∈ps'->(p.2.2.ev st.tm).g=true)->(∀p,p∈ps'->UY xs.length (p.1,p.2.1,fA st.tm p.2.2)) ->
 ∃cs',CJ ((fs.map λf=>(f.offset,P.cellsOf f.type))[·]?) cs (ps.map λp=>(p.1,a.eval p.2))=some cs'/\JW I ρ cs'.toList (QI xs (ps'.map λp=>(p.1,(fA st.tm p.2.2).cells)))
 |[],[],cs,xs,_,hg,_,_=>⟨cs,rfl,hg⟩
 |[],_::_,_,_,h,_,_,_=>by simp[J9]at h
 |_::_,[],_,_,h,_,_,_=>by simp[J9]at h
 | (i,x)::r,(off,sz,y)::r',cs,xs,hp,hg,hv,hq=>by
   simp only[J9,ai]at hp;obtain⟨⟨hf,hx⟩,hr⟩:=hp;split at hf
   ·rename_i f hfi;simp only[ai,beq_iff_eq]at hf;obtain⟨rfl,hsz⟩:=hf;have hs:=XH hsz;have g:=ou h hx (hv _ (bC ..));obtain⟨q1,q2,q3⟩:=hq _ (bC ..);have gc:=Jy g q3;have hvs:(a.eval x).cells.size=sz:=(by have:=gc.1;simp at this;rw[this];exact q1);have hcs:cs.size=xs.length:=(by have:=hg.1;simpa using this);have q1:(fA st.tm y).cells.length=sz:=q1;have q2:f.offset+sz<=xs.length:=q2;have hgs:=hg.splice gc f.offset (by rw[q1];exact q2);have hfold:=foldl_set (a.eval x).cells f.offset cs (by omega);have ih:=YV h r r' ((a.eval x).cells.zipIdx.foldl (λcs (p:Value×Nat)=>cs.setIfInBounds (f.offset+p.2) p.1) cs) (splice xs f.offset (fA st.tm y).cells) hr (by rw[hfold];exact hgs)
     (λp hp=>hv p (by simp[hp])) (λp hp=>by rw[length_splice _ _ _ (by rw[q1];exact q2)];exact hq p (by simp[hp]))
    obtain⟨cs',h1,h2⟩:=ih;refine⟨cs',?_,?_⟩
    ·have hpl:(fs.map λf=>(f.offset,P.cellsOf f.type))[i]? = some (f.offset,sz):=(by rw[xw,hfi,<- hs];rfl);simp only[bf,CJ,hpl];rw[if_neg (by simp;omega)];exact h1
    ·simpa only[bf,QI]using h2
   ·cases hf
theorem XE {o:Oper}{zs:List AC}{ps:List (Nat×Nat×pF)}(h:GX E I ρ n st a w)(hc:Ql P n o.op zs ps=true)(hv:∀p,p∈ps->(p.2.2.ev st.tm).g=true)
 (hq:∀p,p∈ps->UY zs.length (p.1,p.2.1,fA st.tm p.2.2)):pM P E n o a w st (.agg (QI zs (ps.map λp=>(p.1,(fA st.tm p.2.2).cells)))):=by
 unfold Ql at hc;split at hc
 ·rename_i t ps0 he;unfold YL at hc;split at hc
  ·rename_i fs i hs hi;simp only[ai]at hc;obtain⟨⟨hz,hall⟩,hp⟩:=hc;split at hz
   ·rename_i cs hzero;obtain⟨cs',h1,h2⟩:=YV (P:=P) h ps0.toList ps cs zs hp (I5 hz) hv hq;refine pM.val h (v:=.agg cs') ?_ ⟨cs',rfl,h2⟩;have hpl:=run_places (P:=P) w fs.toList hall;have hpl':(fs.mapM (m:=Sem) λf=>do pure (f.offset,<- sizeOf f.type)).run P w = .ok (fs.map λf=>(f.offset,P.cellsOf f.type)) w:=by
     rw[Array.mapM_eq_mapM_toList,Sem.run_map,hpl];simp only[dK]
     congr 1
     apply BV;simp
    have hzr:(zeroValue t).run P w = .ok (.agg cs) w:=(by simp[zeroValue,typeInfo,hi,hzero]);have hps:(ps0.map λ(i,x)=>(i,a.eval x)).toList=ps0.toList.map λp=>(p.1,a.eval p.2):=(by simp);simp only[execOp,he,Instr.build,gQ,hzr,dK,zo,run_underlying hs,hpl',hps,h1,fQ]
   ·cases hz
  ·cases hc
 ·cases hc
def Src (I:IH)(w:World)(v:Value)(sz:Nat)(es:List (List Cell)):Prop:=
 ∃ (b:Option Addr) (cap:Nat),v = .slice b es.length cap/\es.length<=maxLen/\(∀e,e∈es->e.length=sz)/\(0<es.length->b≠none) /\
   ∀ad,b=some ad->∀i j c,(es.getD i [])[j]? = some c->∃u,w.cell? (ad.add (i*sz+j))=some u/\Rd I u c
theorem src_ok (h:GX E I ρ n st a w){v:Value}{x:AV}{sz:Nat}{p:Prop}{es:List (List Cell)}(hv:GV I ρ v x)(hs:yG sz x st.bx=some (p,es))(hp:p):Src I w v sz es:=by
 unfold yG at hs;split at hs
 ·rename_i sz' es';simp only[aH,aJ]at hs;obtain⟨rfl,rfl⟩:=hs;subst hp;cases hv with|sl b len cap _ _ u hlen hcap hmax hsz ha hcell hr=>
  subst hlen;refine⟨b,cap,rfl,by omega,hsz,ha,λad had i j c hc=>?_⟩;have hi:=mF hc;have hj:j<sz':=by have:=hsz (es'.getD i []) (by simp[bu,aF hi]);rw[<- this];exact(bD.1 hc).1
  exact⟨_,h.agree.cell (hcell ad had i j hi hj),hr i j c hc⟩
 ·simp at hs;obtain⟨_,rfl⟩:=hs;simp only[GV,GC]at hv;exact⟨none,0,hv,by simp,by simp,by simp,λad had=>by cases had⟩
 ·rename_i b m sz';split at hs
  ·rename_i Cb es' hb;simp only[aH,aJ]at hs;obtain⟨rfl,rfl⟩:=hs;obtain⟨rfl,rfl,hm⟩:=hp;obtain⟨k,cap,ad,c,hr,rfl,hmc,hcc,ha⟩:=hv;have facts:=GS.H6 h hb hr;have hlen:(es'.take m).length=m:=(by simp;omega);refine⟨ad,c,by rw[hlen],by omega,λe he=>facts.2.2 e (dS he),λh0=>by rw[ha (by omega)];simp,λq hq i j cc hc=>?_⟩;have hi:=mF hc;rw[hlen]at hi;have hq':q=⟨k,0,none⟩:=(by have:=ha (by omega);rw[hq]at this;simpa using this);subst hq';have hc':(es'.getD i [])[j]? = some cc:=by
    rw[<- hc];congr 1;simp only[bu];rw[bQ,if_pos hi]
   obtain⟨u,hu,hg⟩:=GS.JY h hb hr (by omega) (i:=i) (by omega) j (.c cc) (by rw[fD,hc'];rfl);refine⟨u,?_,hg⟩;rw[Addr.zY]at hu⊢;rw[<- hu];congr 2;simp
  ·cases hs
 ·rename_i b lo m c0 sz';split at hs
  ·rename_i Cb es' hb;simp only[aH,aJ]at hs;obtain⟨rfl,rfl⟩:=hs;obtain⟨rfl,rfl,hm⟩:=hp;obtain⟨k,cap,ad,c,hr,rfl,hmc,hcc,_,ha⟩:=hv;have facts:=GS.H6 h hb hr;have hlen:((es'.drop lo).take m).length=m:=(by simp;omega);refine⟨ad,c,by rw[hlen],by omega,λe he=>facts.2.2 e (mX (dS he)),λh0=>by rw[ha (.inl (by omega))];simp,λq hq i j cc hc=>?_⟩;have hi:=mF hc;rw[hlen]at hi;have hq':q=⟨k,lo*Cb,none⟩:=(by have:=ha (.inl (by omega));rw[hq]at this;simpa using this);subst hq';have hc':(es'.getD (lo+i) [])[j]? = some cc:=by
    rw[<- hc];congr 1;simp only[bu];rw[bQ,if_pos hi,jl]
   obtain⟨u,hu,hg⟩:=GS.JY h hb hr (by omega) (i:=lo+i) (by omega) j (.c cc) (by rw[fD,hc'];rfl);refine⟨u,?_,hg⟩;rw[Addr.zY]at hu⊢;rw[<- hu];congr 2;rw[eG,vw]
  ·cases hs
 ·cases hs
theorem Uc {es:List (List Cell)}{l:List UInt8}(h:bytesOf es=some l):∃ns:List Int,es=ns.map (λm=>[Cell.lit (.int .u8 m)])/\l=ns.map λm=>eU m.toNat:=by
 induction es generalizing l with
 |nil=>simp[bytesOf]at h;exact⟨[],rfl,h⟩
 | cons e r ih=>
   unfold bytesOf at h;split at h
   ·rename_i e;cases e
   ·rename_i m r' e;simp only[wU]at e;obtain⟨rfl,rfl⟩:=e;split at h
    ·rename_i l' hl;obtain⟨ns,rfl,rfl⟩:=ih hl;simp at h;exact⟨m::ns,rfl,h.symm⟩
    ·cases h
   ·cases h
theorem foldl_push (ns:List Int):∀s:ByteArray,(ns.foldl (λr m=>r.push (eU m.toNat)) s).data.toList=s.data.toList++ns.map λm=>eU m.toNat:=by
 induction ns with
 |nil=>intro s;simp
 |cons m r ih=>intro s;rw[lZ,ih,bf];simp[ByteArray.push]
theorem aaO {b:Option Addr}{cap:Nat}{ns:List Int}{v:Value}(hv:v = .slice b ns.length cap)(h0:0<ns.length->b≠none)
 (hc:∀ad,b=some ad->∀j m,ns[j]? = some m->w.cell? (ad.add j)=some (.int .u8 m)):(Conv.bytesToString v).run P w = .ok (.string ⟨⟨ns.map λm=>eU m.toNat⟩⟩) w:=by
 subst hv;cases b with
 | none=>
   cases ns with
   |nil=>simp[Conv.bytesToString,fQ];rfl
   |cons m r=>exact absurd rfl (h0 (by simp))
 | some ad=>
   have hl:=run_loadCells_list (P:=P) w ad (ns.map (kU .u8)) (λj v hj=>by
    rw[fD]at hj;cases hq:ns[j]? with
    |none=>rw[hq]at hj;cases hj
    |some m=>rw[hq]at hj;simp at hj;subst hj;exact hc ad rfl j m hq)
   rw[iE]at hl;rw[run_bytesToString w ad ns.length cap ns hl]
   congr 2
   apply ByteArray.ext;apply BV;rw[foldl_push];simp
def Ui (P:Program)(n:Nat)(op:Op)(x:pF):Bool:=
 match op with
 |.convert s d x'=>kZ n x' x&&OC P d&&(match P.underlying s with|some (.slice e)=>(match P.underlying e with|some (.int .u8)=>true|_=>false)|_=>false)
 |_=>false
theorem ZY {o:Oper}{x:pF}{p:Prop}{es:List (List Cell)}{l:List UInt8}(h:GX E I ρ n st a w)(hc:Ui P n o.op x=true)(hx:(x.ev st.tm).g=true)
 (hs:yG 1 (fA st.tm x) st.bx=some (p,es)) (hp:p) (hb:bytesOf es=some l) (hl:l.length<=maxLen):pM P E n o a w st (IX l):=by
 unfold Ui at hc;split at hc
 ·rename_i s d x' he;simp only[ai]at hc;have g:=ou h hc.1.1 hx;have hd:=GR hc.1.2;obtain⟨_,ht⟩:=hc;split at ht
  ·rename_i e hse;split at ht
   ·rename_i hee;obtain⟨b,cap,hv,_,_,h0,hcell⟩:=src_ok h g hs hp;obtain⟨ns,rfl,rfl⟩:=Uc hb;have hr:=aaO (P:=P) (w:=w) (b:=b) (cap:=cap) (ns:=ns) (v:=a.eval x') (by rw[hv];simp) (by simpa using h0) (λad had j m hj=>by
     obtain⟨u,hu,hrd⟩:=hcell ad had j 0 (.lit (.int .u8 m)) (by simp[bu,fD,hj]);cases hrd with|lit v hv=>
     simpa using hu)
    have hcv:=run_convert_bytes_string (P:=P) w s d e b (ns.map λm=>[Cell.lit (.int .u8 m)]).length cap hse hee hd;rw[<- hv]at hcv;exact pM.val h (by simp only[execOp,he,gQ,hcv,hr,dK,fQ]) (UN hl)
   ·cases ht
  ·cases ht
 ·cases hc
end
end
section
section
variable {P:Program} {E:Env P} {I:IH} {ρ:Ren} {n:Nat} {st:iH} {a:Act} {w:World}
def Dv : Box->Prop
 |.absent=>True
 |_=>False
theorem Bd {x:Box}(h:Dv x):x = .absent:=by cases x<;>first|rfl|exact h.elim
theorem Y7 (h:GX E I ρ n st a w){l:Nat}(hl:st.bx l = .absent)(hm:E.m<=l)(cs:Array Value)(e:TypeId)(xs:List AC)(hg:JW I ρ cs.toList xs) :
 ∃ ρ',GX E I ρ' n (st.yF l (.var xs)) a (w.alloc (.cells cs e))/\GV I ρ' (.pointer (some ⟨w.heap.size,0,none⟩)) (.one (.ptr l 0)):=by
 have hrl:ρ l=none:=by have:=h.bx.ok l;rwa[hl]at this
 refine⟨ρ.set l w.heap.size e,GX.new h hl hm cs e e _ ?_,w.heap.size,e,Ren.oD _ _ _ _,rfl⟩;refine⟨w.heap.size,e,cs,Ren.oD _ _ _ _,heap_alloc_new w _,by simpa using hg.1,λj u x hu hx=>?_⟩;exact(hg.2 j u x (by simpa using hu) hx).mono (IH.le_refl I) (Ren.Ll hrl)
theorem J8 (h:GX E I ρ n st a w){l:Nat}(hl:st.bx l = .absent)(hm:E.m<=l)(cs:Array Value)(e:TypeId)(cap sz:Nat)(es:List (List Cell))(hcs:cs.size=cap*sz)(hle:es.length<=cap)(hcap:cap<=maxLen)
 (hsz:∀x,x∈es->x.length=sz) (h1:∀(j:Nat) (u:Value),cs[j]? = some u->u.oneCell'=true) (hd:∀(i j:Nat) (c:Cell),(es.getD i [])[j]? = some c->∃u,cs[i*sz+j]? = some u/\Rd I u c) :
 GX E I (ρ.set l w.heap.size cap) n (st.yF l (.dat sz es)) a (w.alloc (.cells cs e)):=by
 refine GX.new h hl hm cs e cap _ ⟨w.heap.size,cap,Ren.oD _ _ _ _,hle,hcap,hsz,λ_=>⟨cs,e,heap_alloc_new w _,hcs,h1,hd⟩⟩
def Qk (P:Program)(op:Op)(zs:List AC):Bool:=match op with|.alloc t=>(match P.info? t with|some i=>(match i.zero with|some z=>NY z.cells.toList zs|none=>false)|none=>false)|_=>false
theorem IM (w:World)(t:TypeId)(v:Value):(newVar t v).run P w = .ok ⟨w.heap.size,0,none⟩ (w.alloc (.cells v.cells t)):=by simp[newVar,newRow]
theorem Xw {o:Oper}{l:Nat}{zs:List AC}(h:GX E I ρ n st a w)(hc:Qk P o.op zs=true)(hm:E.m<=l)(hl:Dv (st.bx l)):pM P E n o a w (st.yF l (.var zs)) (.one (.ptr l 0)):=by
 unfold Qk at hc;split at hc
 ·rename_i t he;split at hc
  ·rename_i i hi;split at hc
   ·rename_i z hz;obtain⟨ρ',h1,h2⟩:=Y7 h (Bd hl) hm z.cells t zs (I5 hc);have hzr:(zeroValue t).run P w = .ok z w:=(by simp[zeroValue,typeInfo,hi,hz]);exact⟨_,_,I,ρ',.inl (by simp only[execOp,he,ER,gQ,hzr,dK,IM,fQ]),h1,λ_=>h2⟩
   ·cases hc
  ·cases hc
 ·cases hc
theorem GX.ahV (h:GX E I ρ n st a w){r:Nat}(hr:st.bx r = .absent)(hm:E.m<=r)(e:Nat):GX E I (ρ.set r 0 0) n (st.yF r (.row e [])) a w:=by
 have hrl:ρ r=none:=by have:=h.bx.ok r;rwa[hr]at this
 have hle:=Ren.Ll (ρ:=ρ) (k:=0) (cap:=0) hrl;have hu:∀k,¬(Box.row e []).uses ((ρ.set r 0 0) r) k:=λk hk=>by obtain⟨c,hc,h0⟩:=hk;rw[Ren.oD]at hc;simp only[aH,aJ]at hc;exact h0 hc.2.symm
 refine{ agree:=h.agree,bx:=BX.step (λb=>b=r) h.bx (IH.le_refl I) hle ?_ ?_ ?_ ?_ ?_ ?_,tm:=λt ht=>(h.tm t ht).mono (IH.le_refl _) hle,size:=h.size,defers:=h.defers,IC:=h.IC,own:=?_,PX:=h.PX,GI:=h.GI,yM:=?_ }
 ·intro b hb;exact⟨by simp[iH.yF,hb],Ren.xe hb⟩
 ·intro b k hb hk;rfl
 ·rintro b rfl;simp only[iH.rM,if_true];exact⟨0,0,Ren.oD _ _ _ _,ax _,Nat.zero_le _,λh=>absurd rfl h⟩
 ·rintro b k rfl hk;simp only[iH.rM,if_true]at hk;exact(hu k hk).elim
 ·rintro b b' k rfl rfl _ _;rfl
 ·intro b k hb hk;exact h.bx.fresh b k hk
 ·intro b k hk;simp only[iH.rM]at hk;by_cases e:b=r
  ·subst e;rw[if_pos rfl]at hk;exact(hu k hk).elim
  ·rw[if_neg e,Ren.xe e]at hk;exact h.own b k hk
 ·intro b hb;rw[Ren.xe (by omega)];exact h.yM b hb
def Oh (P:Program)(op:Op)(T:Nat):Bool:=match op with|.alloc t=>t==T&&(match P.info? t with|some i=>(match i.zero with|some z=>NY z.cells.toList [.c (.lit (.pointer none)),.jI 1]|none=>false)|none=>false)|_=>false
theorem VA {o:Oper}{T e l r:Nat}(h:GX E I ρ n st a w)(hc:Oh P o.op T=true)(hm:E.m<=l)(hm':E.m<=r)(hl:Dv (st.bx l))(hr:Dv (st.bx r))(hne:l≠r) :
 pM P E n o a w ((st.yF r (.row e [])).yF l (.var [.opt T l,.wO r 0])) (.one (.ptr l 0)):=by
 unfold Oh at hc;split at hc
 ·rename_i t he;simp only[ai,beq_iff_eq]at hc;obtain⟨rfl,hc⟩:=hc;split at hc
  ·rename_i i hi;split at hc
   ·rename_i z hz;have g:=h.ahV (Bd hr) hm' e;have hl':(st.yF r (.row e [])).bx l = .absent:=(by simp only[iH.rM,if_neg hne];exact Bd hl);have hz2:JW I ρ z.cells.toList _:=I5 hc;have hsz:z.cells.size=2:=(by have:=hz2.1;simpa using this);have hg:=GX.new g hl' hm z.cells t t (.var [.opt t l,.wO r 0]) ⟨w.heap.size,t,z.cells,Ren.oD _ _ _ _,heap_alloc_new w _,hsz,λj u x hu hx=>by
     match j with
     | 0=>have h1:=hz2.2 0 u _ (by simpa using hu) rfl;simp at hx;subst hx;cases h1;exact⟨_,Ren.oD _ _ _ _,.inl rfl⟩
     | 1=>have h1:u = .slice none 0 0:=hz2.2 1 u _ (by simpa using hu) rfl;simp at hx;subst hx;exact⟨0,0,(Ren.xe hne.symm).trans (Ren.oD _ _ _ _),ax _,.inl ⟨rfl,h1⟩⟩
     |j+2=>simp at hx⟩
    have hzr:(zeroValue t).run P w = .ok z w:=(by simp[zeroValue,typeInfo,hi,hz]);exact⟨_,_,I,_,.inl (by simp only[execOp,he,ER,gQ,hzr,dK,IM,fQ]),hg,λ_=>⟨_,_,Ren.oD _ _ _ _,rfl⟩⟩
   ·cases hc
  ·cases hc
 ·cases hc
def XM (n:Nat)(op:Op)(x:pF):Bool:=match op with|.box _ x'=>kZ n x' x|_=>false
theorem abI {o:Oper}{l:Nat}{x:pF}(h:GX E I ρ n st a w)(hc:XM n o.op x=true)(hx:(x.ev st.tm).g=true)(hm:E.m<=l)(hl:Dv (st.bx l))(hf:(fA st.tm x).flat) :
 pM P E n o a w (st.yF l (.var (fA st.tm x).cells)) (.one (.ptr l 0)):=by
 unfold XM at hc;split at hc
 ·rename_i t x' he;have g:=ou h hc hx;obtain⟨ρ',h1,h2⟩:=Y7 h (Bd hl) hm (a.eval x').cells t _ (Jy g hf);exact⟨_,_,I,ρ',.inl (by simp only[execOp,he,Instr.box,gQ,dK,IM,fQ]),h1,λ_=>h2⟩
 ·cases hc
def afM : Value->Cell->Bool
 |.int k n,.lit (.int k' n')=>k==k'&&n==n'
 |.bool b,.lit (.bool b')=>b==b'
 |.string s,.str l=>s.data.toList==l&&decide (l.length<=1000000)
 |.slice none 0 0,.sl _ []=>true
 |.pointer none,.lit (.pointer none)=>true
 |.nilFunc,.lit .nilFunc=>true
 |.nilIface,.lit .nilIface=>true
 |_,_=>false
theorem aeq {v:Value}{x:Cell}(h:afM v x=true):Rd I v x:=by
 unfold afM at h;split at h
 ·simp only[ai,beq_iff_eq]at h;obtain⟨rfl,rfl⟩:=h;exact Rd.lit _ rfl
 ·simp only[beq_iff_eq]at h;subst h;exact Rd.lit _ rfl
 ·rename_i s l;simp only[ai,beq_iff_eq,decide_eq_true_eq]at h;obtain⟨rfl,hl⟩:=h;have:s=⟨⟨s.data.toList⟩⟩:=by cases s;rfl
  exact this▸Rd.str _ (by simp only[maxLen];omega)
 ·exact Rd.sl none 0 0 _ [] (λ_ _=>undef) rfl (ax _) (by simp[maxLen]) (by simp) (by simp) (λad h=>by cases h) (by simp)
 ·exact Rd.lit _ rfl
 ·exact Rd.lit _ rfl
 ·exact Rd.lit _ rfl
 ·cases h
def I4 (zs:List Value)(xs:List Cell):Bool:=zs.length==xs.length&&(zs.zip xs).all λp=>afM p.1 p.2
theorem Pn {zs:List Value}{xs:List Cell}(h:I4 zs xs=true):zs.length=xs.length/\∀(j:Nat) (c:Cell),xs[j]? = some c->∃u,zs[j]? = some u/\Rd I u c:=by
 unfold I4 at h;simp only[ai,beq_iff_eq,aZ]at h;refine⟨h.1,λj c hc=>?_⟩;have hj:j<zs.length:=by rw[h.1];exact(bD.1 hc).1
 refine⟨zs[j],aF hj,aeq (h.2 (zs[j],c) ?_)⟩;exact iV (i:=j) (by simp[zW,hc,hj])
theorem OO {z:Array Value}{zs:List Cell}{sz m N:Nat}(hz:I4 z.toList zs=true)(hs:zs.length=sz)(h0:0<sz)(hN:m*sz<=N){cs:Array Value}(hcs:cs=(D9 N).map (z[· % z.size]!)) :
 (∀(j:Nat) (u:Value),cs[j]? = some u->u.oneCell'=true)/\∀(i j:Nat) (c:Cell),((dh m zs).getD i [])[j]? = some c->∃u,cs[i*sz+j]? = some u/\Rd I u c:=by
 obtain⟨hl,hd⟩:=Pn (I:=I) hz;have hzs:z.size=sz:=by rw[<- hs,<- hl];simp
 subst hcs;refine⟨λj u hu=>?_,λi j c hc=>?_⟩
 ·rw[xw]at hu;by_cases hj:j<N
  ·rw[rY,if_pos hj]at hu;simp at hu;have hlt:j%z.size<z.size:=tH _ (by omega);rw[getElem!_pos z _ hlt]at hu;obtain⟨c,hc⟩:∃c,zs[j%z.size]? = some c:=⟨_,aF (by omega)⟩;obtain⟨u',hu',hr⟩:=hd _ c hc;simp[hlt]at hu';rw[<- hu,hu'];exact hr.one
  ·rw[rY,if_neg hj]at hu;cases hu
 ·have hi:=mF hc;simp at hi;simp[bu,hi]at hc;have hj:j<sz:=by rw[<- hs];exact(bD.1 hc).1
  obtain⟨u,hu,hr⟩:=hd j c hc;refine⟨u,?_,hr⟩;have hlt:i*sz+j<N:=by have:(i+1)*sz<=m*sz:=bG _ hi;rw[eG]at this;omega
  rw[xw,rY,if_pos hlt];simp only[lD,aH];have hmod:(i*sz+j)%z.size=j:=by rw[hzs,Dq,Nat.mul_add_mod,Nat.mod_eq_of_lt hj]
  rw[hmod,getElem!_pos z _ (by omega)];have:z[j]? = some u:=by simpa using hu
  rw[oZ (by omega)]at this;simpa using this
def Og (P:Program)(op:Op)(sz m:Nat)(zs:List Cell):Bool:=
 match op with
 |.alloc t=>MK P t sz m&&(match P.info? t with|some i=>(match i.zero with|some (.agg z)=>I4 z.toList (dh m zs).flatten|_=>false)|none=>false)&&zs.length==sz&&decide (0<sz)&&decide (m<=1000000)
 |_=>false
theorem V6 {zs:List Cell}{sz m i j:Nat}{c:Cell}(hs:zs.length=sz)(hc:((dh m zs).getD i [])[j]? = some c):((dh m zs).flatten)[i*sz+j]? = some c:=by
 induction m generalizing i with
 |zero=>simp[bu]at hc
 | succ m ih=>
   rw[qw,List.flatten_cons];cases i with
   | zero=>simp[bu,qw]at hc;rw[gm (by have:=(bD.1 hc).1;omega)];simpa using hc
   | succ i=>
     rw[gX (by rw[hs,eG];omega),hs];have:=ih (i:=i) (by simpa[bu,qw]using hc);rw[<- this]
     congr 1
     rw[eG];omega
theorem Vz {o:Oper}{l sz m:Nat}{zs:List Cell}(h:GX E I ρ n st a w)(hc:Og P o.op sz m zs=true)(hm:E.m<=l)(hl:Dv (st.bx l)) :
 pM P E n o a w (st.yF l (.dat sz (dh m zs))) (.one (.Aq l 0 sz 0)):=by
 unfold Og at hc;split at hc
 ·rename_i t he;simp only[ai,beq_iff_eq,decide_eq_true_eq]at hc;obtain⟨⟨⟨⟨_,hz⟩,hs⟩,h0⟩,hm6⟩:=hc;split at hz
  ·rename_i i hi;split at hz
   ·rename_i z hzero;obtain⟨hl1,hd⟩:=Pn (I:=I) hz;have hzs:z.size=m*sz:=(by have:=hl1;simp[hs]at this;exact this);have hzr:(zeroValue t).run P w = .ok (.agg z) w:=(by simp[zeroValue,typeInfo,hi,hzero]);have g:=J8 h (Bd hl) hm z t m sz (dh m zs) hzs (by simp) (by simp only[maxLen];omega) (λx hx=>by rw[uU hx,hs])
     (λj u hu=>by have hj:j<((dh m zs).flatten).length:=(by rw[<- hl1];simpa using(oC.1 hu).1);obtain⟨u',hu',hr⟩:=hd j _ (aF hj);have:u'=u:=(by simp at hu';rw[hu]at hu';exact(Option.some.inj hu').symm);subst this;exact hr.one)
     (λi' j c hc=>by obtain⟨u,hu,hr⟩:=hd _ c (V6 hs hc);exact⟨u,by simpa using hu,hr⟩)
    refine⟨_,_,I,_,.inl (by simp only[execOp,he,ER,gQ,hzr,dK,IM,fQ,zo];rfl),g,λ_=>⟨w.heap.size,m,Ren.oD _ _ _ _,by simp⟩⟩
   ·cases hz
  ·cases hz
 ·cases hc
def Qr (P:Program)(n:Nat)(op:Op)(sz bytes:Nat)(zs:List Cell)(x y:pF):Bool:=
 match op with
 | .makeSlice t x' y'=>kZ n x' x&&kZ n y' y&&zs.length==sz&&decide (0<sz)&&(match P.underlying t with
   |some (.slice e)=>(match P.info? e with|some i=>i.size==sz&&i.bytes==bytes&&(match i.zero with|some z=>I4 z.cells.toList zs|none=>false)|none=>false)
   |_=>false)
 |_=>false
theorem Yi {o:Oper}{l sz bytes:Nat}{zs:List Cell}{x y:pF}{k k':IntKind}{p q:Int}(h:GX E I ρ n st a w)(hc:Qr P n o.op sz bytes zs x y=true)(hx:(x.ev st.tm).g=true)(hy:(y.ev st.tm).g=true)
 (e1:fA st.tm x=xI k p) (e2:fA st.tm y=xI k' q) (hm:E.m<=l) (hl:Dv (st.bx l)) (h0:0<=p) (h1:p<=q) (h2:bytes*q<=2^47) (h3:q<=2^47) :
 pM P E n o a w (st.yF l (.dat sz (dh p.toNat zs))) (.one (.own l p.toNat sz)):=by
 unfold Qr at hc;split at hc
 ·rename_i t x' y' he;simp only[ai,beq_iff_eq,decide_eq_true_eq]at hc;obtain⟨⟨⟨⟨c1,c2⟩,hs⟩,hs0⟩,ht⟩:=hc;have g1:=ou h c1 hx;have g2:=ou h c2 hy;rw[e1]at g1;rw[e2]at g2;have v1:=yc g1;have v2:=yc g2;split at ht
  ·rename_i e hte;split at ht
   ·rename_i i hi;simp only[ai,beq_iff_eq]at ht;obtain⟨⟨rfl,rfl⟩,hz⟩:=ht;split at hz
    ·rename_i z hzero;have hr:=run_make (P:=P) w t e i z hte hi hzero k k' p q h0 h1 (by omega) (by omega);have rc:=OO (I:=I) (N:=q.toNat*i.size) (m:=p.toNat) hz hs hs0 (bG _ (by omega)) (cs:=madeCells z.cells (q.toNat*i.size)) rfl;have g:=J8 h (Bd hl) hm (madeCells z.cells (q.toNat*i.size)) e q.toNat i.size (dh p.toNat zs) (size_madeCells _ _) (by simp;omega) (by simp only[maxLen];omega)
      (λx hx=>by rw[uU hx,hs]) rc.1 rc.2
     refine⟨_,_,I,_,.inl (by simp only[execOp,he,v1,v2,gQ,hr,dK,fQ];rfl),g,λ_=>⟨w.heap.size,q.toNat,_,_,Ren.oD _ _ _ _,rfl,by omega,by omega,λ_=>rfl⟩⟩
    ·cases hz
   ·cases ht
  ·cases ht
 ·cases hc
end
end
section
section
variable {P:Program} {E:Env P} {I:IH} {ρ:Ren} {n:Nat} {st:iH} {a:Act} {w:World}
noncomputable def Dl (I:IH)(ρ:Ren)(w:World)(bx:Nat->Box)(bs:List Nat):IH:=λk=>
 open Classical in
 if ∃b sz es cap,b∈bs/\bx b = .dat sz es/\ρ b=some (k,cap)/\cap≠0 then(match w.heap[k]? with|some (.cells c _ _)=>some c|_=>none)else I k
theorem Gh (hA:BX I ρ w st.bx)(bs:List Nat):I.le (Dl I ρ w st.bx bs):=λk c hk=>by
 unfold Dl;rw[if_neg]
 ·exact hk
 ·rintro⟨b,sz,es,cap,_,hb,hr,h0⟩;have:=hA.fresh b k (by rw[hb];exact⟨cap,hr,h0⟩);rw[this]at hk;cases hk
theorem Lm (hA:Agree I w)(bs:List Nat):Agree (Dl I ρ w st.bx bs) w:=λk c hk=>by
 unfold Dl at hk;split at hk
 ·split at hk
  ·rename_i c' e fr hw;simp at hk;subst hk;exact⟨e,fr,hw⟩
  ·cases hk
 ·exact hA k c hk
theorem UL (h:GX E I ρ n st a w){bs:List Nat}{v:Value}{b m sz:Nat}{es:List (List Cell)}(hb:b∈bs)(harr:(st.bx b).arr=some (sz,es))(hm:m<=es.length)(hv:GC I ρ v (.own b m sz)) :
 Rd (Dl I ρ w st.bx bs) v (.sl sz (es.take m)):=by
 obtain⟨k,cap,ad,c,hr,hsv,hmc,hcc,hcap⟩:=hv;have facts:=GS.H6 h harr hr;have hl:(es.take m).length=m:=by simp;omega
 subst hsv;have hI:cap≠0->∃cs,(Dl I ρ w st.bx bs) k=some cs/\∀i j c,(es.getD i [])[j]? = some c->∃u,cs[i*sz+j]? = some u/\Rd I u c:=by
  intro hc0;have hok:=h.bx.ok b;cases hx:st.bx b with
  | dat sz' es'=>rw[hx]at hok harr;simp[Box.arr]at harr;obtain⟨rfl,rfl⟩:=harr;obtain⟨k',cap',hr',_,_,_,hd⟩:=hok;rw[hr]at hr';simp at hr';obtain⟨rfl,rfl⟩:=hr';obtain⟨cs,e,hw,_,_,hcs⟩:=hd hc0;refine⟨cs,?_,hcs⟩;unfold Dl;rw[if_pos ⟨b,_,_,cap,hb,hx,hr,hc0⟩,hw]
  | FV sz' es'=>rw[hx]at hok harr;simp[Box.arr]at harr;obtain⟨rfl,rfl⟩:=harr;obtain⟨k',cap',hr',_,_,_,hd⟩:=hok;rw[hr]at hr';simp at hr';obtain⟨rfl,rfl⟩:=hr';obtain⟨cs,hw,hcs⟩:=hd hc0;exact⟨cs,Gh h.bx bs _ _ hw,hcs⟩
  |absent=>rw[hx]at harr;cases harr
  |dead=>rw[hx]at harr;cases harr
  |var xs=>rw[hx]at harr;cases harr
  |row e l=>rw[hx]at harr;cases harr
 have hle:=Gh (st:=st) h.bx bs;by_cases hc0:cap=0
 ·have hm0:m=0:=by omega
  subst hm0;simp only[sD];exact Rd.sl _ 0 c sz [] (λ_ _=>undef) rfl (by omega) (by omega) (by simp) (by simp) (by intro ad _ i j hi;omega) (by simp)
 ·obtain⟨cs,hcs,hrd⟩:=hI hc0;have had:=hcap hc0;subst had;have key:∀i j c,((es.take m).getD i [])[j]? = some c->∃u,cs[i*sz+j]? = some u/\Rd I u c:=λi j c hc=>by
   have hi:=mF hc;rw[hl]at hi;refine hrd i j c ?_;rw[<- hc];congr 1;simp only[bu];rw[bQ,if_pos hi]
  refine Rd.sl _ m c sz (es.take m) (λi j=>cs.getD (i*sz+j) undef) hl hmc (by omega) (λe he=>facts.2.2 e (dS he)) (by simp) ?_ ?_
  ·intro ad had i j hi hj;simp at had;subst had;have hlen:((es.take m).getD i []).length=sz:=by
    have:i<(es.take m).length:=(by omega);rw[qY,aF this];exact facts.2.2 _ (dS (dJ this))
   obtain⟨u,hu,_⟩:=key i j _ (aF (by omega));rw[Addr.zY];simp only[IH.cell,hcs];simp[hu,qo]
  ·intro i j c hc;obtain⟨u,hu,hr⟩:=key i j c hc;have:cs.getD (i*sz+j) undef=u:=(by simp[qo,hu]);rw[this];exact hr.mono hle
theorem Bj {bs:List Nat}{b:Nat} : (st.FV bs).bx b=if b∈bs then He (st.bx b)else st.bx b:=rfl
theorem GX.freeze (h:GX E I ρ n st a w)(BS:List Nat):GX E (Dl I ρ w st.bx BS) ρ n (st.FV BS) a w:=by
 have hIJ:=Gh h.bx BS;have Jh:∀b k,((st.FV BS).bx b).uses (ρ b) k->(st.bx b).uses (ρ b) k/\¬(∃b' sz es cap,b'∈BS/\st.bx b' = .dat sz es/\ρ b'=some (k,cap)/\cap≠0):=by
  intro b k hu;rw[Bj]at hu;by_cases hb:b∈BS
  ·rw[if_pos hb]at hu;cases hx:st.bx b with
   | var xs=>rw[hx]at hu;refine⟨hu,?_⟩;rintro⟨b',sz,es,cap,_,hb',hr',h0⟩;have:=h.bx.inj b b' k (by rw[hx];exact hu) (by rw[hb'];exact⟨cap,hr',h0⟩);subst this;rw[hx]at hb';cases hb'
   | row e l=>rw[hx]at hu;refine⟨hu,?_⟩;rintro⟨b',sz,es,cap,_,hb',hr',h0⟩;have:=h.bx.inj b b' k (by rw[hx];exact hu) (by rw[hb'];exact⟨cap,hr',h0⟩);subst this;rw[hx]at hb';cases hb'
   |dat sz es=>rw[hx]at hu;exact hu.elim
   |FV sz es=>rw[hx]at hu;exact hu.elim
   |absent=>rw[hx]at hu;exact hu.elim
   |dead=>rw[hx]at hu;exact hu.elim
  ·rw[if_neg hb]at hu;refine⟨hu,?_⟩;rintro⟨b',sz,es,cap,hm',hb',hr',h0⟩;have:=h.bx.inj b b' k hu (by rw[hb'];exact⟨cap,hr',h0⟩);subst this;exact hb hm'
 have hfr:∀b k,((st.FV BS).bx b).uses (ρ b) k->Dl I ρ w st.bx BS k=none:=λb k hu=>by obtain⟨h1,h2⟩:=Jh b k hu;unfold Dl;rw[if_neg h2];exact h.bx.fresh b k h1
 refine{ agree:=Lm h.agree BS,bx:=⟨λb=>?_,λb b' k hb hb'=>h.bx.inj b b' k (Jh b k hb).1 (Jh b' k hb').1,hfr⟩,tm:=λt ht=>(h.tm t ht).mono hIJ (Ren.le_refl ρ),size:=h.size,defers:=h.defers,IC:=h.IC,own:=λb k hu=>h.own b k (Jh b k hu).1,PX:=IH.le_trans h.PX hIJ,GI:=λk hk0 hM=>?_,yM:=h.yM }
 ·have hok:=(h.bx.ok b).keep hIJ (Ren.le_refl ρ) rfl (λk hu=>rfl);rw[Bj];by_cases hb:b∈BS
  ·rw[if_pos hb];cases hx:st.bx b with
   | dat sz es=>rw[hx]at hok;obtain⟨kk,cap,hr',hl,hm,hsz,hcs⟩:=hok;refine⟨kk,cap,hr',hl,hm,hsz,λh0=>?_⟩;obtain⟨cs,e,hw,_,_,hrd⟩:=hcs h0;refine⟨cs,?_,hrd⟩;unfold Dl;rw[if_pos ⟨b,sz,es,cap,hb,hx,hr',h0⟩,hw]
   |var xs=>rw[hx]at hok;exact hok
   |row e l=>rw[hx]at hok;exact hok
   |FV sz es=>rw[hx]at hok;exact hok
   |absent=>rw[hx]at hok;exact hok
   |dead=>rw[hx]at hok;exact hok
  ·rw[if_neg hb];exact hok
 ·unfold Dl;rw[if_neg]
  ·exact h.GI k hk0 hM
  ·rintro⟨b',sz,es,cap,_,hb',hr',h0⟩;rcases h.own b' k (by rw[hb'];exact⟨cap,hr',h0⟩)with h1|h1
   ·omega
   ·exact hM h1
theorem NL (l:List (Nat×Box))(st:iH):(st.um l).tm=st.tm:=by
 induction l generalizing st with
 |nil=>rfl
 |cons x l ih=>obtain⟨b,x⟩:=x;simp only[iH.um,ih];rfl
theorem aaU (st:iH)(l:List Nat)(bx:Nat->Box):(st.um (l.map λb=>(b,He (bx b)))).bx=λb=>if b∈l then He (bx b)else st.bx b:=by
 induction l generalizing st with
 |nil=>rfl
 | cons c l ih=>
   simp only[bf,iH.um,ih]
   funext b
   simp only[iH.rM,cu];by_cases h:b∈l
   ·simp[h]
   ·by_cases h':b=c
    ·subst h';simp[h]
    ·simp[h,h']
theorem EE (st:iH)(l:List Nat):st.um (l.map λb=>(b,He (st.bx b)))=st.FV l:=by
 apply iH.ext'
 ·rw[NL];rfl
 ·rw[aaU];rfl
theorem IQ (l r:List (Nat×Box)):∀(st:iH),st.um (l++r)=(st.um l).um r:=by
 induction l with
 |nil=>intro st;rfl
 |cons p l ih=>intro st;obtain⟨b,x⟩:=p;simp only[List.cons_append,iH.um,ih]
theorem Ru (st:iH)(l:List Nat)(r:List (Nat×Box)):st.um (UD st.bx l++r)=(st.FV l).um r:=by rw[IQ];unfold UD;rw[EE]
end
end
section
section
variable {P:Program} {E:Env P} {I:IH} {ρ:Ren} {n:Nat} {st:iH} {a:Act} {w:World}
theorem VS (h:GX E I ρ n st a w){BS:List Nat}{vs:List Value}{xs:List AC}{cs:List Cell}(hg:JW I ρ vs xs)(hd:Ja st.bx xs=some cs)(hl:Ac st.bx xs)(hb:∀b,b∈pO xs->b∈BS) :
 vs.length=cs.length/\∀(j:Nat) (c:Cell),cs[j]? = some c->∃u,vs[j]? = some u/\Rd (Dl I ρ w st.bx BS) u c:=by
 have hle:=Gh (st:=st) h.bx BS
 induction xs generalizing vs cs with
 | nil=>simp[Ja]at hd;subst hd;exact⟨hg.1,by simp⟩
 | cons x r ih=>
   cases vs with
   |nil=>have:=hg.1;simp at this
   | cons v vs=>
     unfold Ja at hd;split at hd
     ·rename_i c cs' h1 h2;simp at hd;subst hd;have ht:JW I ρ vs r:=⟨by simpa using hg.1,λj u y hu hy=>hg.2 (j+1) u y (by simpa using hu) (by simpa using hy)⟩;have hv:=hg.2 0 v x rfl rfl;have hlr:Ac st.bx r:=by
       cases x with
       |own b m sz=>exact hl.2
       |_=>exact hl
      have hbr:∀b,b∈pO r->b∈BS:=λb hm=>hb b (by
       cases x with
       |own b' m sz=>exact dL _ hm
       |_=>exact hm)
      obtain⟨hl',hc⟩:=ih ht h2 hlr hbr;have hr:Rd (Dl I ρ w st.bx BS) v c:=by
       cases x with
       |c y=>simp[dataOf]at h1;subst h1;exact Rd.mono hle hv
       | jI sz=>simp[dataOf]at h1;subst h1;simp only[GC]at hv;subst hv;exact Rd.sl none 0 0 _ [] (λ_ _=>undef) rfl (ax _) (by simp[maxLen]) (by simp) (by simp) (λad h=>by cases h) (by simp)
       | own b m sz=>
         simp only[dataOf]at h1;have hl1:=hl.1;cases harr:(st.bx b).arr with
         |none=>rw[harr]at h1;cases h1
         | some p=>obtain⟨sz',es⟩:=p;rw[harr]at h1 hl1;simp at h1;subst h1;obtain⟨rfl,hle'⟩:=hl1;exact UL h (hb b (by simp[pO])) harr hle' hv
       |_=>simp[dataOf]at h1
      refine⟨by simp[hl'],λj c' hj=>?_⟩;cases j with
      |zero=>simp at hj;subst hj;exact⟨v,rfl,hr⟩
      |succ j=>obtain⟨u,hu,hr'⟩:=hc j c' (by simpa using hj);exact⟨u,by simpa using hu,hr'⟩
     ·cases hd
structure DC (I:IH)(cs:List Value)(sz:Nat)(es:List (List Cell)):Prop where
 one:∀(j:Nat) (u:Value),cs[j]? = some u->u.oneCell'=true
 rd:∀(i j:Nat) (c:Cell),(es.getD i [])[j]? = some c->∃u,cs[i*sz+j]? = some u/\Rd I u c
theorem ab6 {α:Type}(es:List (List α))(i i':Nat)(e:List α)(h:i<es.length):(es.set i e).getD i' []=if i'=i then e else es.getD i' []:=by
 simp only[bu,DL];by_cases hi:i=i'
 ·subst hi;simp[h]
 ·rw[if_neg hi,if_neg (λe=>hi e.symm)]
theorem ae0 {sz i i' j j':Nat}(hj:j<sz)(hj':j'<sz)(h:i*sz+j=i'*sz+j'):i=i'/\j=j':=by
 have h1:(i*sz+j)/sz=i:=by rw[Dq,Nat.mul_add_div (by omega),Nat.div_eq_of_lt hj,nG]
 have h2:(i'*sz+j')/sz=i':=by rw[Dq,Nat.mul_add_div (by omega),Nat.div_eq_of_lt hj',nG]
 rw[h]at h1;have:=h1.symm.trans h2;subst this;exact⟨rfl,by omega⟩
theorem DC.splice {cs:List Value}{sz:Nat}{es:List (List Cell)}(h:DC I cs sz es)(hsz:∀x,x∈es->x.length=sz){i off:Nat}(hi:i<es.length){vs:List Value}{ys:List Cell}(hl:off+ys.length<=sz)(hcs:(i+1)*sz<=cs.length)
 (hv:vs.length=ys.length) (h1:∀(j:Nat) (u:Value),vs[j]? = some u->u.oneCell'=true) (hd:∀(j:Nat) (c:Cell),ys[j]? = some c->∃u,vs[j]? = some u/\Rd I u c) :
 DC I (splice cs (i*sz+off) vs) sz (es.set i (Ab.splice (es.getD i []) off ys)):=by
 rw[eG]at hcs;have hfit:i*sz+off+vs.length<=cs.length:=by omega
 have hei:(es.getD i []).length=sz:=hsz _ (by simp[bu,aF hi]);refine⟨λj u hu=>?_,λi' j c hc=>?_⟩
 ·rw[sG _ _ _ _ hfit]at hu;split at hu
  ·exact h.one j u hu
  ·split at hu
   ·exact h1 _ u hu
   ·exact h.one j u hu
 ·rw[ab6 _ _ _ _ hi]at hc;rw[sG _ _ _ _ hfit];by_cases e:i'=i
  ·subst e;rw[if_pos rfl,sG _ _ _ _ (by omega)]at hc;by_cases c1:j<off
   ·rw[if_pos c1]at hc;rw[if_pos (by omega)];exact h.rd i' j c hc
   ·rw[if_neg c1]at hc;rw[if_neg (by omega)];by_cases c2:j<off+ys.length
    ·rw[if_pos c2]at hc;rw[if_pos (by omega)];obtain⟨u,hu,hr⟩:=hd _ c hc;exact⟨u,by rw[<- hu];congr 1;omega,hr⟩
    ·rw[if_neg c2]at hc;rw[if_neg (by omega)];exact h.rd i' j c hc
  ·rw[if_neg e]at hc;have hj:j<sz:=by
    have hi':=mF hc;have:=hsz (es.getD i' []) (by simp[bu,aF hi']);rw[<- this];exact(bD.1 hc).1
   have hout:¬(i*sz+off<=i'*sz+j/\i'*sz+j<i*sz+off+vs.length):=by intro⟨c1,c2⟩;obtain⟨e1,_⟩:=ae0 (i:=i') (i':=i) (j:=j) (j':=i'*sz+j-i*sz) hj (by omega) (by omega);exact e e1
   by_cases c1:i'*sz+j<i*sz+off
   ·rw[if_pos c1];exact h.rd i' j c hc
   ·rw[if_neg c1,if_neg (by omega)];exact h.rd i' j c hc
def H9 (n:Nat):List (Nat×Operand)->List (Nat×pF)->Bool
 |[],[]=>true
 |(i,x)::r,(i',y)::r'=>i==i'&&kZ n x y&&H9 n r r'
 |_,_=>false
def Oj (P:Program)(n:Nat)(op:Op)(sz m:Nat)(zs:List Cell)(ps:List (Nat×pF)):Bool:=
 match op with
 | .buildSlice t len ps'=>len==m&&zs.length==sz&&decide (0<sz)&&decide (len*sz<=16777216)&&H9 n ps'.toList ps&&(match P.underlying t with
   |some (.slice e)=>(match P.info? e with|some i=>i.size==sz&&(match i.zero with|some z=>I4 z.cells.toList zs|none=>false)|none=>false)
   |_=>false)
 |_=>false
theorem VI {sz:Nat}{BS:List Nat}(h:GX E I ρ n st a w)(hs0:0<sz):∀(ps:List (Nat×Operand)) (ps':List (Nat×pF)) (l':List (Nat×List Cell)) (cs:Array Value) (es:List (List Cell)),H9 n ps ps'=true ->
 zL (fA st.tm) st.bx es.length sz ps'=some l'->BB (fA st.tm) st.bx ps'->(∀b,b∈vS (fA st.tm) ps'->b∈BS)->(∀p,p∈l'->p.1<es.length/\p.2.length=sz)->(∀p,p∈ps'->(p.2.ev st.tm).g=true)->DC (Dl I ρ w st.bx BS) cs.toList sz es->(∀x,x∈es->x.length=sz)->cs.size=es.length*sz ->
 ∃cs',CJ (λi=>some (i*sz,sz)) cs (ps.map λp=>(p.1,a.eval p.2))=some cs'/\DC (Dl I ρ w st.bx BS) cs'.toList sz (MO es l')/\(∀x,x∈MO es l'->x.length=sz)/\cs'.size=es.length*sz/\(MO es l').length=es.length
 | [],[],l',cs,es,_,hd,_,_,_,_,hg,hsz,hcs=>by simp[zL]at hd;subst hd;exact⟨cs,rfl,hg,hsz,hcs,rfl⟩
 |[],_::_,_,_,_,h,_,_,_,_,_,_,_,_=>by simp[H9]at h
 |_::_,[],_,_,_,h,_,_,_,_,_,_,_,_=>by simp[H9]at h
 | (i,x)::r,(i',y)::r',l',cs,es,hp,hd,hld,hbs,hq,hv,hg,hsz,hcs=>by
   simp only[H9,ai,beq_iff_eq]at hp;obtain⟨⟨rfl,hx⟩,hr⟩:=hp;unfold zL at hd;split at hd
   ·rename_i ds l2 hd1 hd2;simp at hd;subst hd;obtain⟨q1,q2⟩:=hq (i,ds) (by simp);simp only at q1 q2;have g:=ou h hx (hv _ (bC ..));have hf:(fA st.tm y).flat:=by
     cases hav:fA st.tm y with
     |xg ps=>rw[hav]at hd1;simp[AV.cells,Ja]at hd1;rw[hd1]at q2;simp at q2;omega
     |one x=>trivial
     |agg xs=>trivial
    have gc:=Jy g hf;obtain⟨hl,hrd⟩:=VS (BS:=BS) h gc hd1 hld.1 (λb hm=>hbs b (by simp only[vS,aV];exact .inl hm));have hvs:(a.eval x).cells.size=sz:=(by simp at hl;rw[hl];exact q2);have hone:∀(j:Nat) (u:Value),(a.eval x).cells.toList[j]? = some u->u.oneCell'=true:=λj u hu=>by have hj:j<(fA st.tm y).cells.length:=(by rw[<- gc.1];exact(bD.1 hu).1);exact(gc.2 j u _ hu (aF hj)).one
    have hi1:(i+1)*sz<=cs.toList.length:=(by simp;rw[hcs];exact bG _ q1);have hmul:(i+1)*sz=i*sz+sz:=(by rw[eG];omega);have hsp:=hg.splice hsz q1 (off:=0) (ys:=ds) (vs:=(a.eval x).cells.toList) (by omega) hi1 (by simpa using hl) hone hrd;have hei:(es.getD i []).length=sz:=hsz _ (by simp[bu,aF q1]);have hse:Ab.splice (es.getD i []) 0 ds=ds:=(by unfold Ab.splice;rw[sD,dN,List.drop_of_length_le (by omega),bM]);rw[hse,nG]at hsp;have hfold:=foldl_set (a.eval x).cells (i*sz) cs (by simp at hi1;omega);have hlen2:(es.set i ds).length=es.length:=(by simp);have ih:=VI h hs0 r r' l2 ((a.eval x).cells.zipIdx.foldl (λcs (p:Value×Nat)=>cs.setIfInBounds (i*sz+p.2) p.1) cs) (es.set i ds) hr (by rw[hlen2];exact hd2) hld.2 (λb hm=>hbs b (by simp only[vS,aV];exact .inr hm))
     (λp hp=>by rw[hlen2];exact hq p (by simp[hp])) (λp hp=>hv p (by simp[hp])) (by rw[hfold];exact hsp)
     (λx hx=>(o5 hx).elim (hsz x) (λh1=>by rw[h1];exact q2)) (by have:(cs.toList).length=cs.size:=(by simp);rw[<- vg,hfold,length_splice _ _ _ (by simp at hi1⊢;omega),hlen2];simpa using hcs)
    obtain⟨cs',h1,h2,h3,h4,h5⟩:=ih;rw[hlen2]at h4 h5;refine⟨cs',?_,h2,h3,h4,h5⟩;simp only[bf,CJ];rw[if_neg (by simp at hi1⊢;omega)];exact h1
   ·cases hd
theorem VK {o:Oper}{l sz m:Nat}{zs:List Cell}{ps:List (Nat×pF)}{l':List (Nat×List Cell)}(h:GX E I ρ n st a w)(hc:Oj P n o.op sz m zs ps=true)(hv:∀p,p∈ps->(p.2.ev st.tm).g=true)
 (hm:E.m<=l) (hl:Dv (st.bx l)) (hd:zL (fA st.tm) st.bx m sz ps=some l') (hq:∀p,p∈l'->p.1<m/\p.2.length=sz) (hld:BB (fA st.tm) st.bx ps) :
 pM P E n o a w ((st.FV (vS (fA st.tm) ps)).yF l (.dat sz (MO (dh m zs) l'))) (.one (.own l m sz)):=by
 have h':=h.freeze (vS (fA st.tm) ps);have hl':Dv ((st.FV (vS (fA st.tm) ps)).bx l):=by rw[Bj,Bd hl];split<;>trivial
 generalize hJ:Dl I ρ w st.bx (vS (fA st.tm) ps)=J at h';unfold Oj at hc;split at hc
 ·rename_i t len ps' he;simp only[ai,beq_iff_eq,decide_eq_true_eq]at hc;obtain⟨⟨⟨⟨⟨rfl,hs⟩,hs0⟩,hbig⟩,hp⟩,ht⟩:=hc;split at ht
  ·rename_i e hte;split at ht
   ·rename_i i hi;simp only[ai,beq_iff_eq]at ht;obtain⟨rfl,hz⟩:=ht;split at hz
    ·rename_i z hzero;generalize hz0:(if len*i.size=0 then(#[]:Array Value)else z.cells)=z0;generalize hcs0:(D9 (len*i.size)).map (z0[· % z0.size]!)=cs0;have hdc:DC J cs0.toList i.size (dh len zs)/\cs0.size=len*i.size:=by
      refine⟨?_,by rw[<- hcs0];simp⟩;by_cases h0:len*i.size=0
      ·have hlen0:len=0:=by
        rcases Nat.mul_eq_zero.1 h0 with h1|h1
        ·exact h1
        ·omega
       subst hlen0;refine⟨λj u hu=>?_,λi' j c hc=>?_⟩
       ·rw[<- hcs0]at hu;simp at hu
       ·simp[bu]at hc
      ·rw[if_neg h0]at hz0;subst hz0;have rc:=OO (I:=J) (N:=len*i.size) (m:=len) hz hs hs0 (ax _) (cs:=cs0) hcs0.symm;exact⟨λj u hu=>rc.1 j u (by simpa using hu),λi' j c hc=>by obtain⟨u,hu,hr⟩:=rc.2 i' j c hc;exact⟨u,by simpa using hu,hr⟩⟩
     obtain⟨cs',h1,h2,h3,h4,h5⟩:=VI (BS:=vS (fA st.tm) ps) h hs0 ps'.toList ps l' cs0 (dh len zs) hp (by simpa using hd) hld (λb hb=>hb) (by simpa using hq) hv (by rw[hJ];exact hdc.1) (λx hx=>by rw[uU hx,hs]) (by simpa using hdc.2);rw[hJ]at h2;simp only[l7]at h4 h5;have g:=J8 h' (Bd hl') hm cs' e len i.size (MO (dh len zs) l') h4 (by omega) (by simp only[maxLen];have:=Nat.le_mul_of_pos_right len hs0;omega) h3
      (λj u hu=>h2.one j u (by simpa using hu)) (λi' j c hc=>by obtain⟨u,hu,hr⟩:=h2.rd i' j c hc;exact⟨u,by simpa using hu,hr⟩)
     refine⟨_,_,J,_,.inl ?_,g,λ_=>⟨w.heap.size,len,_,_,Ren.oD _ _ _ _,rfl,ax _,ax _,λ_=>rfl⟩⟩;have hps:(ps'.map λ(i,x)=>(i,a.eval x)).toList=ps'.toList.map λp=>(p.1,a.eval p.2):=(by simp);have hsz:(sizeOf e).run P w = .ok i.size w:=(by simp[sizeOf,typeInfo,hi]);have hzr:(zeroValue e).run P w = .ok z w:=(by simp[zeroValue,typeInfo,hi,hzero]);simp only[execOp,he,Instr.buildSlice,gQ,run_underlying hte,dK,hsz];rw[if_neg (by omega)];by_cases h0:len*i.size=0
     ·rw[if_pos h0]at hz0⊢;subst hz0;simp only[gQ,fQ,dK,hcs0,hps,h1,newRow,run_newObj];rfl
     ·rw[if_neg h0]at hz0⊢;subst hz0;simp only[gQ,hzr,fQ,dK,hcs0,hps,h1,newRow,run_newObj];rfl
    ·cases hz
   ·cases ht
  ·cases ht
 ·cases hc
theorem IP (w:World)(k:Nat)(cs:Array Value):LU w (w.setRow k cs) (λk'=>k'=k):=
 ⟨rfl,rfl,rfl,by simp,λk' _ hne=>setRow_other w k k' cs hne⟩
theorem AU (cs:Array Value)(off:Nat)(vs:List Value):(cs.toList.take (off+0)++vs++cs.toList.drop (off+0+vs.length)).toArray=(Ab.splice cs.toList off vs).toArray:=by unfold Ab.splice;simp
def Qx (P:Program)(n:Nat)(op:Op)(agg:Bool)(k:Nat)(p x:pF):Bool:=match op with|.store t p' x'=>kZ n p' p&&kZ n x' x&&RN P t agg k&&(agg||k==1)|_=>false
theorem U9 {t:TypeId}{agg:Bool}{k kk off:Nat}(ht:RN P t agg k=true){v:Value}(hk:v.cells.size=k){cur:Array Value}{e:TypeId}(hw:w.heap[kk]? = some (.cells cur e (0,0)))
 (hfit:off+k<=cur.size) (h1:∀(j:Nat) (u:Value),v.cells.toList[j]? = some u->u.oneCell'=true) :
 (Instr.storeAt t (.pointer (some ⟨kk,off,none⟩)) v).run P w = .ok () (w.setRow kk (Ab.splice cur.toList off v.cells.toList).toArray):=by
 have hst:=run_storeCells_at P kk off e v.cells.toList 0 cur w hw (by simp;omega) (λu hu=>by obtain⟨j,hj⟩:=uP hu;exact h1 j u hj)
 rw[AU]at hst;obtain⟨_,hs⟩:=Kz ht w;simp only[Instr.storeAt,uB,gQ,fQ,dK,storeVar,hs];rw[if_neg (by omega)];exact hst
theorem aeE {v:Value}{x:AV}(h:GV I ρ v x)(hf:x.flat):∀(j:Nat) (u:Value),v.cells.toList[j]? = some u->u.oneCell'=true:=λj u hu=>by
 have gc:=Jy h hf;have hj:j<x.cells.length:=by rw[<- gc.1];exact(bD.1 hu).1
 exact(gc.2 j u _ hu (aF hj)).one
theorem YD {o:Oper}{agg:Bool}{k:Nat}{p x:pF}(h:GX E I ρ n st a w)(hc:Qx P n o.op agg k p x=true)(hd:o.dst=none)(hp:(p.ev st.tm).g=true)(hx:(x.ev st.tm).g=true)
 (jX:(Ae agg k (fA st.tm p) (fA st.tm x) st.bx).vc):pM P E n o a w (st.um (Ae agg k (fA st.tm p) (fA st.tm x) st.bx).sets) (Ae agg k (fA st.tm p) (fA st.tm x) st.bx).v:=by
 unfold Qx at hc;split at hc
 ·rename_i t p' x' he;simp only[ai]at hc;obtain⟨⟨⟨c1,c2⟩,ht⟩,_⟩:=hc;have g1:=ou h c1 hp;have g2:=ou h c2 hx;have hf:(fA st.tm x).flat:=by
   cases hav:fA st.tm x with
   |one _=>trivial
   |agg _=>trivial
   |xg ps=>rw[hav]at jX;exact jX.elim
  have gc:=Jy g2 hf;have h1:=aeE g2 hf;have key:∀{J:IH} {st':iH} (h':GX E J ρ n st' a w) {b kk cap off:Nat} {cur:Array Value} {e:TypeId} {y:Box},a.eval p' = .pointer (some ⟨kk,off,none⟩)->(st'.bx b).uses (ρ b) kk->w.heap[kk]? = some (.cells cur e (0,0))->(fA st.tm x).cells.length=k->off+k<=cur.size ->
   (∀k',y.uses (ρ b) k'->k'=kk)->Eb J ρ (w.setRow kk (Ab.splice cur.toList off (a.eval x').cells.toList).toArray) b y->ρ b=some (kk,cap)->pM P E n o a w (st'.um [(b,y)]) (.one .JC):=by
   intro J st' h' b kk cap off cur e y hpv hu hw hk hfit huy hok hr;have hkv:(a.eval x').cells.size=k:=(by have:=gc.1;simp at this;omega);have hrun:=U9 (P:=P) (w:=w) ht hkv hw hfit h1;refine⟨undef,w.setRow kk (Ab.splice cur.toList off (a.eval x').cells.toList).toArray,J,ρ,.inr ⟨by simp only[execOp,he,hpv,gQ,hrun,dK,fQ],hd⟩,?_,λhn=>absurd hd hn⟩;exact h'.yF hu y huy (IP _ _ _) hok (by simp)
  unfold Ae at jX⊢;split at jX
  ·exact jX.elim
  ·exact jX.elim
  ·exact jX.elim
  ·split at jX
   ·rename_i b off e1;rw[e1]at g1;obtain⟨kk,cap,hr,hv⟩:=g1;split at jX
    ·rename_i xs hb;obtain⟨hk,hfit⟩:=jX;have hok:=h.bx.ok b;rw[hb]at hok;obtain⟨kk',cap',cs,hr',hw,hs,hcs⟩:=hok;rw[hr]at hr';simp only[aH,aJ]at hr';obtain⟨rfl,rfl⟩:=hr';refine key h hv (by rw[hb];exact⟨cap,hr⟩) hw hk (by omega) (λk' hk'=>?_) ?_ hr
     ·obtain⟨c,hc⟩:=hk';rw[hr]at hc;simp at hc;exact hc.1.symm
     ·have hsp:=JW.splice (vs:=cs.toList) (xs:=xs) ⟨by simpa using hs,λj v y hv hy=>hcs j v y (by simpa using hv) hy⟩ gc off (by omega);refine⟨kk,cap,_,hr,setRow_heap w kk cs _ cap _ hw,?_,λj u y hu hy=>hsp.2 j u y (by simpa using hu) hy⟩;have:=hsp.1;simpa using this
    ·exact jX.elim
   ·rename_i b i sz off e1;rw[e1]at g1;obtain⟨kk,cap,hr,hv⟩:=g1;split at jX
    ·rename_i sz' es cs' hb hds;obtain⟨rfl,hk,hi,hfit,hlo,hnb⟩:=jX;obtain⟨hl,hrd⟩:=VS (BS:=pO (fA st.tm x).cells) h gc hds hlo (λb hm=>hm);have h':=h.freeze (pO (fA st.tm x).cells);have hb':(st.FV (pO (fA st.tm x).cells)).bx b = .dat sz' es:=(by rw[Bj,if_neg (λhm=>by rw[List.contains_iff_mem.2 hm]at hnb;cases hnb),hb]);rw[Ru];generalize hJ:Dl I ρ w st.bx (pO (fA st.tm x).cells)=J at h' hrd;have hok:=h'.bx.ok b;rw[hb']at hok;obtain⟨kk',cap',hr',hle,hcm,hsz,hcs⟩:=hok;rw[hr]at hr';simp only[aH,aJ]at hr';obtain⟨rfl,rfl⟩:=hr';have hc0:cap≠0:=(by omega);obtain⟨cs,e,hw,hs,ho,ahJ⟩:=hcs hc0;have hi1:(i+1)*sz'<=cs.size:=(by rw[hs];exact bG _ (by omega));have hmul:(i+1)*sz'=i*sz'+sz':=(by rw[eG];omega);have hei:(es.getD i []).length=sz':=hsz _ (by simp[bu,aF hi]);have hck:(fA st.tm x).cells.length=k:=(by rw[<- gc.1,hl];exact hk);have hdc:DC J cs.toList sz' es:=⟨λj u hu=>ho j u (by simpa using hu),λi j c hc=>by obtain⟨u,hu,hr⟩:=ahJ i j c hc;exact⟨u,by simpa using hu,hr⟩⟩;have hsp:=hdc.splice hsz hi (off:=off) (ys:=cs') (vs:=(a.eval x').cells.toList) (by omega) (by simpa using hi1) hl h1 hrd;refine key h' hv (by rw[hb'];exact⟨cap,hr,hc0⟩) hw hck (by omega) (λk' hk'=>?_) ?_ hr
     ·obtain⟨c,hc,_⟩:=hk';rw[hr]at hc;simp at hc;exact hc.1.symm
     ·refine⟨kk,cap,hr,by simpa using hle,hcm,λy hy=>?_,λ_=>⟨_,e,setRow_heap w kk cs _ e _ hw,?_,λj u hu=>hsp.one j u (by simpa using hu),λi j c hc=>by obtain⟨u,hu,hr⟩:=hsp.rd i j c hc;exact⟨u,by simpa using hu,hr⟩⟩⟩
      ·rcases o5 hy with h1|h1
       ·exact hsz y h1
       ·rw[h1,length_splice _ _ _ (by omega)];exact hei
      ·have:(a.eval x').cells.toList.length=k:=(by rw[hl];exact hk);simp only[lV];rw[length_splice _ _ _ (by rw[this,vg];omega)];simpa using hs
    ·exact jX.elim
   ·exact jX.elim
 ·cases hc
end
end
section
section
variable {P:Program} {E:Env P} {I:IH} {ρ:Ren} {n:Nat} {st:iH} {a:Act} {w:World}
theorem GX.kill (h:GX E I ρ n st a w)(b:Nat):GX E I ρ n (st.yF b .dead) a w:=by
 refine{ h with bx:=?_,own:=?_,agree:=h.agree,tm:=h.tm,size:=h.size,defers:=h.defers }
 ·refine BX.step (λc=>c=b) h.bx (IH.le_refl I) (Ren.le_refl ρ) (λc hc=>⟨by simp[iH.rM,hc],rfl⟩) (λc k _ _=>rfl) ?_ ?_ ?_ (λc k _ hu=>h.bx.fresh c k hu)
  ·rintro c rfl;simp[iH.rM,Eb]
  ·rintro c k rfl hu;simp[iH.rM,Box.uses]at hu
  ·rintro c c' k rfl rfl _ _;rfl
 ·intro c k hu;simp only[iH.rM]at hu;by_cases e:c=b
  ·rw[if_pos e]at hu;exact hu.elim
  ·rw[if_neg e]at hu;exact h.own c k hu
theorem GX.move (h:GX E I ρ n st a w){w':World}{b l kk cap sz sz':Nat}{es es':List (List Cell)}(hb:st.bx b = .dat sz es)(hr:ρ b=some (kk,cap))(hl:st.bx l = .absent)(hm:E.m<=l)
 (hF:LU w w' (λk=>k=kk)) (hsz:w'.heap.size=w.heap.size) (h0:cap=0->w'=w) (hx:Eb I (ρ.set l kk cap) w' l (.dat sz' es')):GX E I (ρ.set l kk cap) n ((st.yF b .dead).yF l (.dat sz' es')) a w':=by
 have hrl:ρ l=none:=by have:=h.bx.ok l;rwa[hl]at this
 have hbl:b≠l:=by rintro rfl;rw[hl]at hb;cases hb
 have hle:=Ren.Ll (ρ:=ρ) (k:=kk) (cap:=cap) hrl;have hk:∀k',k'≠kk->w'.heap[k']? = w.heap[k']?:= λk' hne=>by
  by_cases hlt:k'<w.heap.size
  ·exact hF.block k' hlt hne
  ·rw[yg (by omega),yg (by omega)]
 have hub:cap≠0->(st.bx b).uses (ρ b) kk:=λhc=>by rw[hb];exact⟨cap,hr,hc⟩
 have hk2:∀k',(∀hc:cap≠0,k'≠kk)->w'.heap[k']? = w.heap[k']?:= λk' hne=>by
  by_cases hc:cap=0
  ·rw[h0 hc]
  ·exact hk k' (hne hc)
 refine{ agree:=h.agree.other λk' c hc=>hk2 k' λhc0 e=>?_,bx:=?_,tm:=λt ht=>(h.tm t ht).mono (IH.le_refl _) hle,size:=h.size,defers:=h.defers,IC:=?_,own:=?_,PX:=h.PX,GI:=h.GI,yM:=?_ }
 ·subst e;have:=h.bx.fresh b k' (hub hc0);rw[this]at hc;cases hc
 ·refine BX.step (λc=>c=b\/c=l) h.bx (IH.le_refl I) hle ?_ ?_ ?_ ?_ ?_ ?_
  ·intro c hc;have h1:¬c=b:=λe=>hc (.inl e);have h2:¬c=l:=λe=>hc (.inr e);exact⟨by simp[iH.rM,h1,h2],Ren.xe h2⟩
  ·intro c k' hc hu;refine hk2 k' λhc0 e=>hc (.inl ?_);subst e;exact h.bx.inj c b k' hu (hub hc0)
  ·rintro c (rfl|rfl)
   ·simp[iH.rM,hbl,Eb]
   ·simpa[iH.rM]using hx
  ·rintro c k' (rfl|rfl) hu
   ·simp[iH.rM,hbl,Box.uses]at hu
   ·simp only[iH.rM,if_true,Box.uses,Ren.oD]at hu;obtain⟨c',hc',hc0⟩:=hu;simp only[aH,aJ]at hc';obtain⟨rfl,rfl⟩:=hc';exact⟨λb' hb' hu'=>hb' (.inl (h.bx.inj b' b kk hu' (hub hc0))),h.bx.fresh b kk (hub hc0)⟩
  ·rintro c c' k' (rfl|rfl) (rfl|rfl) hu hu'
   ·rfl
   ·simp[iH.rM,hbl,Box.uses]at hu
   ·simp[iH.rM,hbl,Box.uses]at hu'
   ·rfl
  ·intro c k' hc hu;exact h.bx.fresh c k' hu
 ·by_cases hc:cap=0
  ·rw[h0 hc];exact h.IC
  ·refine h.IC.trans hF λk' hlt e=>?_;subst e;rcases h.own b k' (hub hc)with h1|h1
   ·omega
   ·exact h1
 ·intro c k' hu;simp only[iH.rM]at hu;by_cases e:c=l
  ·subst e;simp only[if_true,Box.uses,Ren.oD]at hu;obtain⟨c',hc',hc0⟩:=hu;simp only[aH,aJ]at hc';obtain⟨rfl,rfl⟩:=hc';exact h.own b kk (hub hc0)
  ·rw[if_neg e,Ren.xe e]at hu;by_cases e2:c=b
   ·rw[if_pos e2]at hu;exact hu.elim
   ·rw[if_neg e2]at hu;exact h.own c k' hu
 ·intro c hc;rw[Ren.xe (by omega)];exact h.yM c hc
theorem JS {v:Value}{sz:Nat}{es:List (List Cell)}(h:Src I w v sz es)(h0:0<sz):∃(b:Option Addr) (cap:Nat) (us:List Value),v = .slice b es.length cap/\us.length=es.length*sz /\
 (∀ad,b=some ad->∀(j:Nat) (u:Value),us[j]? = some u->w.cell? (ad.add j)=some u)/\(b=none->es=[])/\DC I us sz es:=by
 obtain⟨b,cap,hv,_,hsz,hb,hc⟩:=h;cases b with
 | none=>
   have:es=[]:=by
    cases es with
    |nil=>rfl
    |cons e r=>exact absurd rfl (hb (by simp))
   subst this;exact⟨none,cap,[],hv,by simp,(λad h=>by cases h),(λ_=>rfl),⟨by simp,by simp⟩⟩
 | some ad=>
   have key:∀j,j<es.length*sz->∃u,w.cell? (ad.add j)=some u/\∃c,(es.getD (j/sz) [])[j%sz]? = some c/\Rd I u c:=by intro j hj;have hi:j/sz<es.length:=(by rw[Nat.div_lt_iff_lt_mul h0];exact hj);have hl:(es.getD (j/sz) []).length=sz:=hsz _ (by simp[bu,aF hi]);have hm:j%sz<sz:=tH _ h0;obtain⟨u,hu,hr⟩:=hc ad rfl (j/sz) (j%sz) _ (aF (by omega));have e:j/sz*sz+j%sz=j:=(by rw[Dq];exact Nat.div_add_mod j sz);rw[e]at hu;exact⟨u,hu,_,aF (by omega),hr⟩
   refine⟨some ad,cap,(List.range (es.length*sz)).map λj=>(w.cell? (ad.add j)).getD undef,hv,by simp,?_,by simp,?_⟩
   ·intro ad' had j u hu;simp at had;subst had;rw[fD]at hu;by_cases hj:j<es.length*sz
    ·rw[CU hj]at hu;obtain⟨u',hu',_⟩:=key j hj;simp[hu']at hu;rw[<- hu];exact hu'
    ·rw[pg (by simpa using hj)]at hu;cases hu
   ·refine⟨λj u hu=>?_,λi j c hcc=>?_⟩
    ·rw[fD]at hu;by_cases hj:j<es.length*sz
     ·rw[CU hj]at hu;obtain⟨u',hu',c,_,hr⟩:=key j hj;simp[hu']at hu;rw[<- hu];exact hr.one
     ·rw[pg (by simpa using hj)]at hu;cases hu
    ·have hi:=mF hcc;have hl:(es.getD i []).length=sz:=hsz _ (by simp[bu,aF hi]);have hj:j<sz:=(by rw[<- hl];exact(bD.1 hcc).1);obtain⟨u,hu,hr⟩:=hc ad rfl i j c hcc;have hlt:i*sz+j<es.length*sz:=by
      have:(i+1)*sz<=es.length*sz:=bG _ hi;rw[eG]at this;omega
     exact⟨u,by rw[fD,CU hlt];simp[hu],hr⟩
theorem DC.append {us vs:List Value}{sz:Nat}{es ys:List (List Cell)}(h:DC I us sz es)(k:DC I vs sz ys)(hl:us.length=es.length*sz):DC I (us++vs) sz (es++ys):=by
 refine⟨λj u hu=>?_,λi j c hc=>?_⟩
 ·by_cases hj:j<us.length
  ·rw[gm hj]at hu;exact h.one j u hu
  ·rw[gX (by omega)]at hu;exact k.one _ u hu
 ·by_cases hi:i<es.length
  ·have e:(es++ys).getD i []=es.getD i []:=(by simp[bu,gm hi]);rw[e]at hc;obtain⟨u,hu,hr⟩:=h.rd i j c hc;exact⟨u,by rw[gm (bD.1 hu).1];exact hu,hr⟩
  ·have e:(es++ys).getD i []=ys.getD (i-es.length) []:=(by simp[bu,gX (A8 hi)]);rw[e]at hc;obtain⟨u,hu,hr⟩:=k.rd _ j c hc;have hmul:es.length*sz<=i*sz:=bG _ (by omega);have hsub:(i-es.length)*sz=i*sz-es.length*sz:=Nat.sub_mul _ _ _;exact⟨u,by rw[gX (by omega),hl,<- hu];congr 1;omega,hr⟩
theorem DC.more {us vs:List Value}{sz:Nat}{es:List (List Cell)}(h:DC I us sz es)(hv:∀(j:Nat) (u:Value),vs[j]? = some u->u.oneCell'=true):DC I (us++vs) sz es:=by
 refine⟨λj u hu=>?_,λi j c hc=>?_⟩
 ·by_cases hj:j<us.length
  ·rw[gm hj]at hu;exact h.one j u hu
  ·rw[gX (by omega)]at hu;exact hv _ u hu
 ·obtain⟨u,hu,hr⟩:=h.rd i j c hc;exact⟨u,by rw[gm (bD.1 hu).1];exact hu,hr⟩
theorem DC.Zk {us:List Value}{sz:Nat}{es:List (List Cell)}{cs:Array Value}(h:DC I us sz es)(e:cs.toList=us) :
 (∀(j:Nat) (u:Value),cs[j]? = some u->u.oneCell'=true)/\∀(i j:Nat) (c:Cell),(es.getD i [])[j]? = some c->∃u,cs[i*sz+j]? = some u/\Rd I u c:=by
 subst e;exact⟨λj u hu=>h.one j u (by simpa using hu),λi j c hc=>by obtain⟨u,hu,hr⟩:=h.rd i j c hc;exact⟨u,by simpa using hu,hr⟩⟩
def Gm (P:Program)(n:Nat)(op:Op)(sz bytes:Nat)(s x:pF):Bool:=
 match op with
 | .call { callee:=.builtin .append,args:=⟨[s',x']⟩,argTypes:=⟨[t,t']⟩ }=>kZ n s' s&&kZ n x' x&&t==t'&&decide (0<sz)&&(match P.underlying t with
   |some (.slice e)=>(match P.info? e with|some i=>i.size==sz&&i.bytes==bytes&&(match i.zero with|some z=>z.cells.size==sz&&z.cells.toList.all (·.oneCell')|none=>false)|none=>false)
   |_=>false)
 |_=>false
theorem run_append_room' (t ty e tg:TypeId)(i:TypeInfo)(ht:P.underlying t=some (.slice e))(hi:P.info? e=some i)
 (g sLen sCap:Nat) (cur:Array Value) (hg:w.heap[g]? = some (.cells cur tg (0,0)))
 (ad:Addr) (m c:Nat) (news:List Value) (hl:news.length=m*i.size) (hnews:∀j u,news[j]? = some u->w.cell? (ad.add j)=some u) (h1:∀u∈news,u.oneCell'=true)
 (hroom:sLen+m<=sCap) (hfit:sLen*i.size+news.length<=cur.size) :
 (jJ #[t,t] ty #[.slice (some ⟨g,0,none⟩) sLen sCap,.slice (some ad) m c]).run P w =
  .ok (.slice (some ⟨g,0,none⟩) (sLen+m) sCap) (w.setRow g (cur.toList.take (sLen*i.size)++news++cur.toList.drop (sLen*i.size+news.length)).toArray):=by
 have hf:=run_firstCells_some (P:=P) w i.size m ad m c news hl hnews;have hst:=run_storeCells_at P g (sLen*i.size) tg news 0 cur w hg (by simpa using hfit) h1;simp only[nG]at hst;simp[jJ,run_underlying ht,sizeOf,typeInfo,hi,uQ,hroom,hf,Go.Addr.add_lit,hst]
theorem FP (t ty e:TypeId)(i:TypeInfo)(ht:P.underlying t=some (.slice e))(hi:P.info? e=some i)(b:Option Addr)(sLen sCap:Nat)(hs:sLen<=sCap)(ad:Option Addr)(c:Nat) :
 (jJ #[t,t] ty #[.slice b sLen sCap,.slice ad 0 c]).run P w = .ok (.slice b sLen sCap) w:=by
 have hf:(uw i.size 0 (.slice ad 0 c)).run P w = .ok #[] w:=by cases ad<;>simp[uw,loadCells,loadCellsFrom,fQ]
 cases b<;>simp[jJ,run_underlying ht,sizeOf,typeInfo,hi,uQ,hs,hf,storeCells]
theorem O3 (h:GX E I ρ n st a w){l sz bytes:Nat}{sv xv:Value}{es ys:List (List Cell)}{b:Option Nat}(t ty e:TypeId)(i:TypeInfo)(z:Value)(ht:P.underlying t=some (.slice e))(hi:P.info? e=some i)(hsz:i.size=sz)
 (hby:i.bytes=bytes) (hz:i.zero=some z) (hzs:z.cells.size=sz) (hz1:z.cells.toList.all (·.oneCell')=true) (h0:0<sz) (hl:st.bx l = .absent) (hm:E.m<=l)
 (hb:(b=none/\es=[]/\sv = .slice none 0 0)\/∃b',b=some b'/\st.bx b' = .dat sz es/\GC I ρ sv (.own b' es.length sz)) (hx:Src I w xv sz ys) (hbig:(es.length+ys.length)*(bytes+sz+1)<=2^46) :
 ∃v w' ρ',(jJ #[t,t] ty #[sv,xv]).run P w = .ok v w'/\GX E I ρ' n ((match b with|some b'=>st.yF b' .dead|none=>st).yF l (.dat sz (es++ys))) a w'/\GC I ρ' v (.own l (es.length+ys.length) sz):=by
 subst hsz;subst hby;have hmul:(es.length+ys.length)*(i.bytes+i.size+1)=(es.length+ys.length)*i.bytes+(es.length+ys.length)*i.size+(es.length+ys.length):=by rw[yZ,yZ,wB]
 have hbytes:(es.length+ys.length)*i.bytes<=140737488355328:=by omega
 have h63:es.length+ys.length<=maxLen:=by simp only[maxLen];omega
 obtain⟨xb,xc,us,hxv,Ji,hus,hxn,Xo⟩:=JS hx h0;have hys:∀y,y∈ys->y.length=i.size:=by obtain⟨_,_,_,_,h4,_⟩:=hx;exact h4
 have hone:∀u∈us,u.oneCell'=true:=λu hu=>by obtain⟨j,hj⟩:=uP hu;exact Xo.one j u hj
 have hzc:∀(q:Nat) (j:Nat) (u:Value),(bK z.cells q).toList[j]? = some u->u.oneCell'=true:=by
  intro q j u hu;simp only[bK,vW,xw]at hu;by_cases hj:j<q*z.cells.size
  ·rw[rY,if_pos hj]at hu;simp only[lD,aH]at hu;have hlt:j%z.cells.size<z.cells.size:=tH _ (by omega);rw[getElem!_pos z.cells _ hlt]at hu;rw[<- hu];exact aZ.1 hz1 _ (by simp)
  ·rw[rY,if_neg hj]at hu;cases hu
 have fresh:∀(st':iH) (old:Nat) (olds:List Value),GX E I ρ n st' a w->st'.bx l = .absent->old<es.length+ys.length->olds.length=es.length*i.size->DC I olds i.size es->(∀y,y∈es->y.length=i.size) ->
  GX E I (ρ.set l w.heap.size (grownCap w (es.length+ys.length) old e)) n (st'.yF l (.dat i.size (es++ys))) a
   (w.drew.alloc (.cells (olds.toArray++us.toArray++bK z.cells (grownCap w (es.length+ys.length) old e-(es.length+ys.length))) e)):=by
  intro st' old olds hst hl' ho hol hdo hes;have hge:=grownCap_ge w (es.length+ys.length) old e;have hcm:grownCap w (es.length+ys.length) old e<=maxLen:=grownCap_le_maxLen w _ old e h63;have hdc:=((hdo.append Xo hol).more (hzc (grownCap w (es.length+ys.length) old e-(es.length+ys.length)))).Zk (cs:=olds.toArray++us.toArray++bK z.cells (grownCap w (es.length+ys.length) old e-(es.length+ys.length))) (by simp);refine J8 hst.drew hl' hm _ e _ i.size (es++ys) ?_ (by simpa using hge) hcm (λx hx=>?_) hdc.1 hdc.2
  ·simp only[Af,lV,size_zeroCells,hzs,hol,Ji,<- eG]
   congr 1
   omega
  ·rcases aV.1 hx with h1|h1
   ·exact hes x h1
   ·exact hys x h1
 rcases hb with⟨rfl,rfl,rfl⟩|⟨b',rfl,hb',hg⟩
 ·
  simp only[dB,iI,dN]at *;by_cases hm0:ys.length=0
  ·have hy0:ys=[]:=dD hm0;subst hy0;refine⟨.slice none 0 0,w,ρ.set l 0 0,?_,?_,0,0,none,0,Ren.oD _ _ _ _,rfl,ax _,ax _,λh=>absurd rfl h⟩
   ·rw[hxv];exact FP t ty e i ht hi none 0 0 (ax _) xb xc
   ·have hrl:ρ l=none:=(by have:=h.bx.ok l;rwa[hl]at this);have hle:=Ren.Ll (ρ:=ρ) (k:=0) (cap:=0) hrl;refine{ agree:=h.agree,bx:=?_,tm:=λt ht=>(h.tm t ht).mono (IH.le_refl _) hle,size:=h.size,defers:=h.defers,IC:=h.IC,own:=?_,PX:=h.PX,GI:=h.GI,yM:=λc hc=>by rw[Ren.xe (by omega)];exact h.yM c hc }
    ·refine BX.step (λc=>c=l) h.bx (IH.le_refl I) hle (λc hc=>⟨by simp[iH.rM,hc],Ren.xe hc⟩) (λc k _ _=>rfl) ?_ ?_ ?_ (λc k _ hu=>h.bx.fresh c k hu)
     ·rintro c rfl;simp only[iH.rM,if_true];exact⟨0,0,Ren.oD _ _ _ _,by simp,by simp[maxLen],by simp,λh=>absurd rfl h⟩
     ·rintro c k rfl hu;simp only[iH.rM,if_true,Box.uses,Ren.oD]at hu;obtain⟨c',hc',hc0⟩:=hu;simp only[aH,aJ]at hc';exact absurd hc'.2.symm hc0
     ·rintro c c' k rfl rfl _ _;rfl
    ·intro c k hu;simp only[iH.rM]at hu;by_cases e':c=l
     ·subst e';simp only[if_true,Box.uses,Ren.oD]at hu;obtain⟨c',hc',hc0⟩:=hu;simp only[aH,aJ]at hc';exact absurd hc'.2.symm hc0
     ·rw[if_neg e',Ren.xe e']at hu;exact h.own c k hu
  ·obtain⟨ad,had⟩:∃ad,xb=some ad:=by
    cases hq:xb with
    |none=>exact absurd (by rw[hxn hq];rfl) hm0
    |some ad=>exact⟨ad,rfl⟩
   subst had;have hr:=run_append_nil (P:=P) w t ty e i z ht hi hz ad ys.length xc us Ji (hus ad rfl) (by omega) (by simp only[maxLen]at h63;omega) (by omega);rw[<- hxv]at hr;have hf:=fresh st 0 [] h hl (by omega) (by simp) ⟨by simp,by simp⟩ (by simp);simp only[tX]at hf;exact⟨_,_,_,hr,hf,w.heap.size,_,_,_,Ren.oD _ _ _ _,rfl,grownCap_ge w ys.length 0 e,ax _,λ_=>rfl⟩
 ·obtain⟨kk,cap,ad0,c,hr0,hsv,hnc,hcc,hcap⟩:=hg;have hbl:b'≠l:=by rintro rfl;rw[hl]at hb';cases hb'
  have hok:=h.bx.ok b';rw[hb']at hok;obtain⟨kk',cap',hr',hle,hcm,hes,hcs⟩:=hok;rw[hr0]at hr';simp only[aH,aJ]at hr';obtain⟨rfl,rfl⟩:=hr';simp only;by_cases hm0:ys.length=0
  ·have hy0:ys=[]:=dD hm0;subst hy0;simp only[dB,nG,bM]at *;refine⟨sv,w,ρ.set l kk cap,?_,?_,kk,cap,ad0,c,Ren.oD _ _ _ _,hsv,hnc,hcc,hcap⟩
   ·rw[hxv,hsv];exact FP t ty e i ht hi ad0 _ c hnc xb xc
   ·refine h.move hb' hr0 hl hm (LU.refl _ _) rfl (λ_=>rfl) ⟨kk,cap,Ren.oD _ _ _ _,hle,hcm,hes,hcs⟩
  ·obtain⟨ad,had⟩:∃ad,xb=some ad:=by
    cases hq:xb with
    |none=>exact absurd (by rw[hxn hq];rfl) hm0
    |some ad=>exact⟨ad,rfl⟩
   subst had;by_cases hroom:es.length+ys.length<=c
   ·have hc0:cap≠0:=(by omega);have Le:=hcap hc0;subst Le;obtain⟨cs,tg,hw,hs,ho,hrd⟩:=hcs hc0;have hfit:es.length*i.size+us.length<=cs.size:=(by rw[hs,Ji,<- eG];exact bG _ (by omega));have hr:=run_append_room' (P:=P) (w:=w) (ty:=ty) t e tg i ht hi kk es.length c cs hw ad ys.length xc us Ji (hus ad rfl) hone hroom hfit;rw[<- hxv,<- hsv]at hr;refine⟨_,_,ρ.set l kk cap,hr,?_,kk,cap,_,c,Ren.oD _ _ _ _,rfl,hroom,hcc,λ_=>rfl⟩;refine h.move hb' hr0 hl hm (IP _ _ _) (by simp) (λh=>absurd h hc0) ⟨kk,cap,Ren.oD _ _ _ _,by simp;omega,hcm,λx hx=>?_,λ_=>⟨_,tg,setRow_heap w kk cs _ tg _ hw,?_,?_⟩⟩
    ·rcases aV.1 hx with h1|h1
     ·exact hes x h1
     ·exact hys x h1
    ·simp only[lV,au,dm,List.length_drop,vg];omega
    ·have hd1:DC I (cs.toList.take (es.length*i.size)) i.size es:=by
      refine⟨λj u hu=>?_,λi' j c' hc'=>?_⟩
      ·rw[bQ]at hu;split at hu
       ·exact ho j u (by simpa using hu)
       ·cases hu
      ·obtain⟨u,hu,hr⟩:=hrd i' j c' hc';have hi':=mF hc';have hj:j<i.size:=(by rw[<- hes (es.getD i' []) (by simp[bu,aF hi'])];exact(bD.1 hc').1);have:(i'+1)*i.size<=es.length*i.size:=bG _ hi';rw[eG]at this;exact⟨u,by rw[bQ,if_pos (by omega)];simpa using hu,hr⟩
     have hlen:(cs.toList.take (es.length*i.size)).length=es.length*i.size:=(by simp;omega);have:=((hd1.append Xo hlen).more (vs:=cs.toList.drop (es.length*i.size+us.length)) (λj u hu=>by rw[jl]at hu;exact ho _ u (by simpa using hu))).Zk (cs:=(cs.toList.take (es.length*i.size)++us++cs.toList.drop (es.length*i.size+us.length)).toArray) (by simp);exact this
   ·
    have hfit:=growslice_fits (need:=es.length+ys.length) (old:=c) (bytes:=i.bytes) (by omega) hbytes;have hk:=h.kill b';have hkl:(st.yF b' .dead).bx l = .absent:=(by rw[iH.rM,if_neg (λe=>hbl e.symm)];exact hl);by_cases hc0:cap=0
    ·
     have he0:es=[]:=dD (by omega);subst he0;have hcz:c=0:=(by omega);subst hcz;simp only[dB,iI,dN]at *;have hf:=fresh (st.yF b' .dead) 0 [] hk hkl (by omega) (by simp) ⟨by simp,by simp⟩ (by simp);simp only[tX]at hf;cases ad0 with
     | none=>have hr:=run_append_nil (P:=P) w t ty e i z ht hi hz ad ys.length xc us Ji (hus ad rfl) (by omega) (by simp only[maxLen]at h63;omega) (by omega);rw[<- hxv,<- hsv]at hr;exact⟨_,_,_,hr,hf,w.heap.size,_,_,_,Ren.oD _ _ _ _,rfl,grownCap_ge w ys.length 0 e,ax _,λ_=>rfl⟩
     | some q=>have hr:=run_append_grow (P:=P) w t ty e i z ht hi hz q 0 0 [] (by simp) (by simp) ad ys.length xc us Ji (hus ad rfl) (by omega) (by simp only[maxLen]at h63;omega) (by simpa using hfit);rw[<- hxv,<- hsv]at hr;simp only[iI,tX]at hr;exact⟨_,_,_,hr,hf,w.heap.size,_,_,_,Ren.oD _ _ _ _,rfl,grownCap_ge w ys.length 0 e,ax _,λ_=>rfl⟩
    ·have Le:=hcap hc0;subst Le;obtain⟨cs,tg,hw,hs,ho,hrd⟩:=hcs hc0;have hmn:es.length*i.size<=cs.size:=(by rw[hs];exact bG _ hle);have Wl:(cs.toList.take (es.length*i.size)).length=es.length*i.size:=(by simp;omega);have holds:∀(j:Nat) (u:Value),(cs.toList.take (es.length*i.size))[j]? = some u->w.cell? ((⟨kk,0,none⟩:Addr).add j)=some u:=λj u hu=>by
      rw[bQ]at hu;split at hu
      ·rw[Addr.zY];simp at hu;simp[o7,hw,hu]
      ·cases hu
     have hd1:DC I (cs.toList.take (es.length*i.size)) i.size es:=by
      refine⟨λj u hu=>?_,λi' j c' hc'=>?_⟩
      ·rw[bQ]at hu;split at hu
       ·exact ho j u (by simpa using hu)
       ·cases hu
      ·obtain⟨u,hu,hr⟩:=hrd i' j c' hc';have hi':=mF hc';have hj:j<i.size:=(by rw[<- hes (es.getD i' []) (by simp[bu,aF hi'])];exact(bD.1 hc').1);have:(i'+1)*i.size<=es.length*i.size:=bG _ hi';rw[eG]at this;exact⟨u,by rw[bQ,if_pos (by omega)];simpa using hu,hr⟩
     have hr:=run_append_grow (P:=P) w t ty e i z ht hi hz ⟨kk,0,none⟩ es.length c _ Wl holds ad ys.length xc us Ji (hus ad rfl) (by omega) (by simp only[maxLen]at h63;omega) hfit;rw[<- hxv,<- hsv]at hr;have hf:=fresh (st.yF b' .dead) c _ hk hkl (by omega) Wl hd1 hes;exact⟨_,_,_,hr,hf,w.heap.size,_,_,_,Ren.oD _ _ _ _,rfl,grownCap_ge w _ c e,ax _,λ_=>rfl⟩
end
end
section
section
variable {P:Program} {E:Env P} {I:IH} {ρ:Ren} {n:Nat} {st:iH} {a:Act} {w:World}
def PO (l sz bytes:Nat) (s x:AV) (bx:Nat->Box):FR:=match yG sz x bx with
    | some (p,ys)=>match s with
      |.one (.jI _)=>⟨p/\(match bx l with|.absent=>True|_=>False)/\ys.length*(bytes+sz+1)<=2^46,.one (.own l ys.length sz),[(l,.dat sz ys)]⟩
      | .one (.own b n sz')=>match bx b with
        |.dat Cb es=>⟨p/\(match bx l with|.absent=>True|_=>False)/\sz'=sz/\Cb=sz/\n<=es.length/\(n+ys.length)*(bytes+sz+1)<=2^46/\b≠l,
         .one (.own l (n+ys.length) sz),[(b,.dead),(l,.dat sz (es.take n++ys))]⟩
        |_=>.bad
      |_=>.bad
    |none=>.bad
theorem HY {x:Box}(h:match x with|.absent=>True|_=>False):x = .absent:=by cases x<;>first|rfl|exact h.elim
theorem GX.pfx (h:GX E I ρ n st a w){b sz m:Nat}{es:List (List Cell)}(hb:st.bx b = .dat sz es):GX E I ρ n (st.yF b (.dat sz (es.take m))) a w:=by
 have hu:∀c k,((st.yF b (.dat sz (es.take m))).bx c).uses (ρ c) k->(st.bx c).uses (ρ c) k:=λc k hu=>by
  rw[iH.rM]at hu;split at hu
  ·rename_i e;subst e;rw[hb];exact hu
  ·exact hu
 refine{ h with bx:=⟨λc=>?_,λc c' k hc hc'=>h.bx.inj c c' k (hu c k hc) (hu c' k hc'),λc k hc=>h.bx.fresh c k (hu c k hc)⟩,own:=λc k hc=>h.own c k (hu c k hc),agree:=h.agree,tm:=h.tm,size:=h.size,defers:=h.defers,IC:=h.IC };rw[iH.rM];split
 ·rename_i e;subst e;have hok:=h.bx.ok c;rw[hb]at hok;obtain⟨k,cap,hr,h1,h2,h3,h4⟩:=hok;refine⟨k,cap,hr,by simp;omega,h2,λe he=>h3 e (dS he),λh0=>?_⟩;obtain⟨cs,e,g1,g2,g3,g4⟩:=h4 h0;refine⟨cs,e,g1,g2,g3,λi j c' hc'=>g4 i j c' ?_⟩;have hi:=mF hc';simp at hi;rw[<- hc']
  congr 1
  simp only[bu];rw[bQ,if_pos (by omega)]
 ·exact h.bx.ok c
theorem VC {o:Oper}{l sz bytes:Nat}{s x:pF}(h:GX E I ρ n st a w)(hc:Gm P n o.op sz bytes s x=true)(hm:E.m<=l)(hs:(s.ev st.tm).g=true)(hx:(x.ev st.tm).g=true)
 (jX:(PO l sz bytes (fA st.tm s) (fA st.tm x) st.bx).vc):pM P E n o a w (st.um (PO l sz bytes (fA st.tm s) (fA st.tm x) st.bx).sets) (PO l sz bytes (fA st.tm s) (fA st.tm x) st.bx).v:=by
 unfold Gm at hc;split at hc
 ·rename_i s' x' t t' he;simp only[ai,beq_iff_eq,decide_eq_true_eq]at hc;obtain⟨⟨⟨⟨c1,c2⟩,rfl⟩,h0⟩,ht⟩:=hc;have g1:=ou h c1 hs;have g2:=ou h c2 hx;split at ht
  ·rename_i e hte;split at ht
   ·rename_i i hi;simp only[ai,beq_iff_eq]at ht;obtain⟨⟨rfl,rfl⟩,hz⟩:=ht;split at hz
    ·rename_i z hzero;simp only[ai,beq_iff_eq]at hz;obtain⟨hzs,hz1⟩:=hz;have fin:∀{v:Value} {w':World},(jJ #[t,t] o.type #[a.eval s',a.eval x']).run P w = .ok v w'->(execOp a.eval o).run P w = .ok (.value v) w':=by
      intro v w' hr;simp only[execOp,he,resolve,invoke,builtin,gQ,fQ,dK,nV,bf,iD,hr]
     unfold PO at jX⊢;split at jX
     ·rename_i p ys hsrc;split at jX
      ·rename_i sz' e1;obtain⟨hp,hl,hbig⟩:=jX;rw[e1]at g1;obtain⟨v,w',ρ',hr,hg,hv⟩:=O3 (P:=P) h (l:=l) (es:=[]) (ys:=ys) (b:=none) t o.type e i z hte hi rfl rfl hzero hzs hz1 h0 (HY hl) hm (.inl ⟨rfl,rfl,g1⟩) (src_ok h g2 hsrc hp) (by simpa using hbig);simp only[dN,dB,iI]at hg hv;exact⟨v,w',I,ρ',.inl (fin hr),hg,λ_=>hv⟩
      ·rename_i b m sz' e1;rw[e1]at g1;split at jX
       ·rename_i Cb es hb;obtain⟨hp,hl,rfl,rfl,hmn,hbig,hbl⟩:=jX;have hlt:(es.take m).length=m:=(by simp;omega);have h':=h.pfx (m:=m) hb;have hl':(st.yF b (.dat i.size (es.take m))).bx l = .absent:=(by rw[iH.rM,if_neg (λe=>hbl e.symm)];exact HY hl);obtain⟨v,w',ρ',hr,hg,hv⟩:=O3 (P:=P) h' (l:=l) (es:=es.take m) (ys:=ys) (b:=some b) t o.type e i z hte hi rfl rfl hzero hzs hz1 h0 hl' hm (.inr ⟨b,rfl,by rw[iH.rM,if_pos rfl],by rw[hlt];exact g1⟩) (src_ok h g2 hsrc hp) (by rw[hlt];exact hbig);rw[hlt]at hv;have hst:(((st.yF b (.dat i.size (es.take m))).yF b .dead).yF l (.dat i.size (es.take m++ys)))=((st.yF b .dead).yF l (.dat i.size (es.take m++ys))):=by
         apply iH.ext'
         ·rfl
         ·funext c;simp only[iH.rM];split
          ·rfl
          ·split<;>rfl
        simp only[hst]at hg;exact⟨v,w',I,ρ',.inl (fin hr),hg,λ_=>hv⟩
       ·exact jX.elim
      ·exact jX.elim
     ·exact jX.elim
    ·cases hz
   ·cases ht
  ·cases ht
 ·cases hc
def copyV (sz:Nat) (d x:AV) (bx:Nat->Box):FR:=match yG sz x bx with
    | some (p,ys)=>match d with
      | .one (.own b n sz')=>match bx b with
        |.dat Cb es=>⟨p/\sz'=sz/\Cb=sz/\n<=es.length,xI .i64 (fU ys.length n:Nat),[(b,.dat sz (splice es 0 (ys.take n)))]⟩
        |_=>.bad
      |.one (.jI _)=>.ok (xI .i64 0)
      |_=>.bad
    |none=>.bad
def J3 (P:Program)(n:Nat)(op:Op)(sz:Nat)(d x:pF):Bool:=
 match op with
 |.call { callee:=.builtin .copy,args:=⟨[d',x']⟩,argTypes:=⟨[t,_]⟩ }=>kZ n d' d&&kZ n x' x&&Ld P t sz&&decide (0<sz)
 |_=>false
theorem adh (t t' ty e:TypeId)(i:TypeInfo)(ht:P.underlying t=some (.slice e))(hi:P.info? e=some i)(kk m c:Nat)(cur:Array Value)(tg:TypeId)(hg:w.heap[kk]? = some (.cells cur tg (0,0)))
 (ad:Addr) (k c':Nat) (us:List Value) (hl:us.length=fU k m*i.size) (hus:∀j u,us[j]? = some u->w.cell? (ad.add j)=some u) (h1:∀u∈us,u.oneCell'=true) (hfit:us.length<=cur.size) :
 (sO #[t,t'] ty #[.slice (some ⟨kk,0,none⟩) m c,.slice (some ad) k c']).run P w = .ok (goInt (fU k m:Nat)) (w.setRow kk (splice cur.toList 0 us).toArray):=by
 have hf:=run_firstCells_some (P:=P) w i.size (fU k m) ad k c' us hl hus;have hst:=run_storeCells_at P kk 0 tg us 0 cur w hg (by simpa using hfit) h1;rw[AU]at hst;simp[sO,run_underlying ht,sizeOf,typeInfo,hi,uQ,hf,hst]
theorem Ho (t t' ty e:TypeId)(i:TypeInfo)(ht:P.underlying t=some (.slice e))(hi:P.info? e=some i)(b:Option Addr)(m c:Nat)(ad:Option Addr)(k c':Nat)(h:fU k m=0) :
 (sO #[t,t'] ty #[.slice b m c,.slice ad k c']).run P w = .ok (goInt 0) w:=by
 have hf:(uw i.size 0 (.slice ad k c')).run P w = .ok #[] w:=by cases ad<;>simp[uw,loadCells,loadCellsFrom,fQ]
 cases b<;>simp[sO,run_underlying ht,sizeOf,typeInfo,hi,uQ,h,hf,storeCells]
theorem YB {α:Type}(xs:List α):splice xs 0 []=xs:=by simp[splice]
theorem Kt {b:Nat}{x:Box}(h:st.bx b=x):st.yF b x=st:=by
 apply iH.ext'
 ·rfl
 ·funext c;rw[iH.rM];split
  ·rename_i e;rw[e,h]
  ·rfl
theorem ZX {o:Oper}{sz:Nat}{d x:pF}(h:GX E I ρ n st a w)(hc:J3 P n o.op sz d x=true)(hd:(d.ev st.tm).g=true)(hx:(x.ev st.tm).g=true)
 (jX:(copyV sz (fA st.tm d) (fA st.tm x) st.bx).vc):pM P E n o a w (st.um (copyV sz (fA st.tm d) (fA st.tm x) st.bx).sets) (copyV sz (fA st.tm d) (fA st.tm x) st.bx).v:=by
 unfold J3 at hc;split at hc
 ·rename_i d' x' t t' he;simp only[ai,decide_eq_true_eq]at hc;obtain⟨⟨⟨c1,c2⟩,ht⟩,h0⟩:=hc;have g1:=ou h c1 hd;have g2:=ou h c2 hx;obtain⟨e,i,hte,hi,rfl⟩:=Ed ht;have fin:∀{v:Value} {w':World},(sO #[t,t'] o.type #[a.eval d',a.eval x']).run P w = .ok v w'->(execOp a.eval o).run P w = .ok (.value v) w':=by
   intro v w' hr;simp only[execOp,he,resolve,invoke,builtin,gQ,fQ,dK,nV,bf,iD,hr]
  unfold copyV at jX⊢;split at jX
  ·rename_i p ys hsrc;split at jX
   ·rename_i b m sz' e1;rw[e1]at g1;split at jX
    ·rename_i Cb es hb;obtain⟨hp,rfl,rfl,hmn⟩:=jX;have hsrc':=src_ok h g2 hsrc hp;have hys:∀y,y∈ys->y.length=i.size:=(by obtain⟨_,_,_,_,h4,_⟩:=hsrc';exact h4);obtain⟨xb,xc,us,hxv,Ji,hus,hxn,Xo⟩:=JS hsrc' h0;obtain⟨kk,cap,ad0,c,hr0,hsv,hnc,hcc,hcap⟩:=g1;have hok:=h.bx.ok b;rw[hb]at hok;obtain⟨kk',cap',hr',hle,hcm,hes,hcs⟩:=hok;rw[hr0]at hr';simp only[aH,aJ]at hr';obtain⟨rfl,rfl⟩:=hr';by_cases hm0:fU ys.length m=0
     ·have hr:=Ho (P:=P) (w:=w) t t' o.type e i hte hi ad0 m c xb ys.length xc hm0;rw[<- hxv,<- hsv]at hr;have htk:ys.take m=[]:=by
       apply dD;rw[dm,Aw];exact hm0
      rw[htk,YB];refine⟨_,w,I,ρ,.inl (fin hr),?_,λ_=>by rw[hm0];exact Bl _ _⟩;show GX E I ρ n (st.yF b (.dat i.size es)) a w;rw[Kt hb];exact h
     ·have hmin:fU ys.length m<=ys.length/\fU ys.length m<=m:=⟨Nat.min_le_left _ _,Nat.min_le_right _ _⟩;have hc0:cap≠0:=(by omega);have Le:=hcap hc0;subst Le;obtain⟨ad,had⟩:∃ad,xb=some ad:=by
       cases hq:xb with
       |none=>have:=hxn hq;subst this;exact absurd rfl hm0
       |some ad=>exact⟨ad,rfl⟩
      subst had;obtain⟨cs,tg,hw,hs,ho,hrd⟩:=hcs hc0;have hmul:fU ys.length m*i.size<=ys.length*i.size:=bG _ hmin.1;have MX:fU ys.length m*i.size<=cap*i.size:=bG _ (by omega);have hul:(us.take (fU ys.length m*i.size)).length=fU ys.length m*i.size:=(by simp;omega);have aci:0+(us.take (fU ys.length m*i.size)).length<=cs.toList.length:=(by have hq:cs.toList.length=cs.size:=vg;omega);have hr:=adh (P:=P) (w:=w) t t' o.type e i hte hi kk m c cs tg hw ad ys.length xc (us.take (fU ys.length m*i.size)) hul
       (λj u hu=>by
        rw[bQ]at hu;split at hu
        ·exact hus ad rfl j u hu
        ·cases hu)
       (λu hu=>by obtain⟨j,hj⟩:=uP (dS hu);exact Xo.one j u hj) (by rw[hul];omega)
      rw[<- hxv,<- hsv]at hr;refine⟨_,_,I,ρ,.inl (fin hr),?_,λ_=>Bl _ _⟩;have htl:(ys.take m).length=fU ys.length m:=(by rw[dm,Aw]);refine h.yF (b:=b) (k:=kk) (by rw[hb];exact⟨cap,hr0,hc0⟩) (.dat i.size (splice es 0 (ys.take m))) (λk' hk'=>?_) (IP _ _ _) ?_ (by simp)
      ·obtain⟨c',hc',_⟩:=hk';rw[hr0]at hc';simp at hc';exact hc'.1.symm
      ·have hsl:(splice es 0 (ys.take m)).length=es.length:=length_splice _ _ _ (by rw[htl];omega);refine⟨kk,cap,hr0,by rw[hsl];exact hle,hcm,λy hy=>?_,λ_=>⟨_,tg,setRow_heap w kk cs _ tg _ hw,?_,?_,?_⟩⟩
       ·unfold splice at hy;simp only[sD,dN,aV]at hy;rcases hy with h1|h1
        ·exact hys y (dS h1)
        ·exact hes y (mX h1)
       ·simp only[lV];rw[length_splice _ _ _ aci];simpa using hs
       ·intro j u hu;have hu:(splice cs.toList 0 (us.take (fU ys.length m*i.size)))[j]? = some u:=(by simpa using hu);rw[sG _ _ _ _ aci,if_neg (by omega)]at hu;split at hu
        ·rw[bQ]at hu;split at hu
         ·exact Xo.one _ u hu
         ·cases hu
        ·exact ho j u (by simpa using hu)
       ·intro i' j cc Fp;have key:∃u,(splice cs.toList 0 (us.take (fU ys.length m*i.size)))[i'*i.size+j]? = some u/\Rd I u cc:=by
         have hi':=mF Fp;rw[hsl]at hi';rw[sG _ _ _ _ aci,if_neg (by omega),hul];have hget:(splice es 0 (ys.take m)).getD i' []=if i'<fU ys.length m then ys.getD i' []else es.getD i' []:=by
          simp only[bu];rw[sG _ _ _ _ (by rw[htl];omega),if_neg (by omega),htl];by_cases hh:i'<fU ys.length m
          ·rw[if_pos (by omega),if_pos hh,bQ,if_pos (by omega)];rfl
          ·rw[if_neg (by omega),if_neg hh]
         rw[hget]at Fp;by_cases hh:i'<fU ys.length m
         ·rw[if_pos hh]at Fp;obtain⟨u,hu,hr⟩:=Xo.rd i' j cc Fp;have hj:j<i.size:=by
           have hyi:=mF Fp;rw[<- hys (ys.getD i' []) (by simp[bu,aF hyi])];exact(bD.1 Fp).1
          have:(i'+1)*i.size<=fU ys.length m*i.size:=bG _ hh;rw[eG]at this;exact⟨u,by rw[if_pos (by omega),bQ,if_pos (by omega)];simpa using hu,hr⟩
         ·rw[if_neg hh]at Fp;obtain⟨u,hu,hr⟩:=hrd i' j cc Fp;have:fU ys.length m*i.size<=i'*i.size:=bG _ (by omega);exact⟨u,by rw[if_neg (by omega)];simpa using hu,hr⟩
        obtain⟨u,hu,hr⟩:=key;exact⟨u,by simpa using hu,hr⟩
    ·exact jX.elim
   ·rename_i sz' e1;rw[e1]at g1;have g1:a.eval d' = .slice none 0 0:=g1;have hgx:∃xb k xc,a.eval x' = .slice xb k xc:=by
     unfold yG at hsrc;split at hsrc
     ·rename_i e2;rw[e2]at g2;obtain⟨b,c,hv,_⟩:=afp g2;exact⟨b,_,c,hv⟩
     ·rename_i e2;rw[e2]at g2;exact⟨none,0,0,g2⟩
     ·rename_i e2;rw[e2]at g2;obtain⟨k,cap,b,c,_,hv,_⟩:=g2;exact⟨b,_,c,hv⟩
     ·rename_i e2;rw[e2]at g2;obtain⟨k,cap,b,c,_,hv,_⟩:=g2;exact⟨b,_,c,hv⟩
     ·cases hsrc
    obtain⟨xb,k,xc,hxv⟩:=hgx;have hr:=Ho (P:=P) (w:=w) t t' o.type e i hte hi none 0 0 xb k xc (Nat.min_zero k);rw[<- hxv,<- g1]at hr;exact⟨_,w,I,ρ,.inl (fin hr),h,λ_=>Bl _ _⟩
   ·exact jX.elim
  ·exact jX.elim
 ·cases hc
end
end
section
section
variable {P:Program} {E:Env P} {I:IH} {ρ:Ren} {n:Nat} {st:iH} {a:Act} {w:World}
theorem Jz {v:Value}{x:AV}{b lo m sz:Nat}{c:Option Nat}(h:GV I ρ v x)(hs:Et x=some (b,lo,m,c,sz)) :
 ∃k cap ad c',ρ b=some (k,cap)/\v = .slice ad m c'/\m<=c'/\lo+c'<=cap/\(∀c0,c=some c0->c'=c0)/\(c'≠0\/(lo=0/\cap≠0)->ad=some ⟨k,lo*sz,none⟩):=by
 unfold Et at hs;split at hs
 ·simp only[aH,aJ]at hs;obtain⟨rfl,rfl,rfl,rfl,rfl⟩:=hs;obtain⟨k,cap,ad,c',h1,h2,h3,h4,h5⟩:=h;refine⟨k,cap,ad,c',h1,h2,h3,by omega,(λ_ e=>by cases e),λhc=>?_⟩;rw[Nat.zero_mul];refine h5 ?_;rcases hc with hc|hc
  ·omega
  ·exact hc.2
 ·simp only[aH,aJ]at hs;obtain⟨rfl,rfl,rfl,rfl,rfl⟩:=hs;exact h
 ·cases hs
def XU (n:Nat)(op:Op)(l:Bool)(x y:pF):Bool:=match op with|.binOp b _ x' y' _=>(match b with|.shl=>l|.shr=> !l|_=>false)&&kZ n x' x&&kZ n y' y|_=>false
theorem adl {o:Oper}{l:Bool}{x y:pF}(h:GX E I ρ n st a w)(hc:XU n o.op l x y=true)(hx:(x.ev st.tm).g=true)(hy:(y.ev st.tm).g=true)
 (jX:(Vb l (fA st.tm x) (fA st.tm y)).vc):pM P E n o a w st (Vb l (fA st.tm x) (fA st.tm y)).v:=by
 unfold XU at hc;split at hc
 ·rename_i b t x' y' t' he;simp only[ai]at hc;obtain⟨⟨hb,h1⟩,h2⟩:=hc;have g1:=ou h h1 hx;have g2:=ou h h2 hy;unfold Vb at jX⊢;split at jX
  ·rename_i k p k' q e1 e2;rw[e1]at g1;rw[e2]at g2;have v1:=yc g1;have v2:=yc g2;have hq:¬q<0:=(by simp only at jX;omega);have hg:=Jd (P:=P) b t x' y' k p (.int k' q) w;cases b<;>simp only[Bool.false_eq_true]at hb
   ·subst hb;exact pM.val h (v:=.int k (k.wrap (p*2^(min q.toNat k.bits)))) (by simp[execOp,he,hg,v1,v2,binOp,Op.shift,hq]) (Bl _ _)
   ·cases l
    ·exact pM.val h (v:=.int k (p.fdiv (2^(min q.toNat k.bits)))) (by simp[execOp,he,hg,v1,v2,binOp,Op.shift,hq]) (Bl _ _)
    ·cases hb
  ·exact jX.elim
 ·cases hc
def Uf (P:Program)(n:Nat)(op:Op)(x:pF):Bool:=
 match op with
 |.call { callee:=.builtin .cap,args:=⟨[x']⟩,argTypes:=⟨[t]⟩ }=>kZ n x' x&&Nl P t
 |_=>false
theorem ZR {o:Oper}{x:pF}(h:GX E I ρ n st a w)(hc:Uf P n o.op x=true)(hx:(x.ev st.tm).g=true)(jX:(Su (fA st.tm x)).vc):pM P E n o a w st (Su (fA st.tm x)).v:=by
 unfold Uf at hc;split at hc
 ·rename_i x' t he;simp only[ai]at hc;have g:=ou h hc.1 hx;obtain⟨e,ht⟩:=KJ hc.2;unfold Su at jX⊢;split at jX
  ·rename_i b lo m c sz e1;rw[e1]at g;obtain⟨k,cap,ad,c',hr,hv,hm,hcc,hcx,ha⟩:=g;have:=hcx c rfl;subst this;exact pM.val h (by simp[execOp,he,resolve,invoke,builtin,Builtin.cap_,run_underlying ht,hv,goInt]) (Bl _ _)
  ·rename_i sz e1;rw[e1]at g;have g:a.eval x' = .slice none 0 0:=g;exact pM.val h (by simp[execOp,he,resolve,invoke,builtin,Builtin.cap_,run_underlying ht,g,goInt]) (Bl _ _)
  ·exact jX.elim
 ·cases hc
def Om (P:Program)(n:Nat)(op:Op)(sz:Nat)(x:pF)(lo hi:Option pF):Bool:=match op with|.slice t x' lo' hi' none=>kZ n x' x&&Oi n lo' lo&&Oi n hi' hi&&Ld P t sz|_=>false
theorem WX {o:Oper}{sz:Nat}{x:pF}{lo hi:Option pF}(h:GX E I ρ n st a w)(hc:Om P n o.op sz x lo hi=true)(hx:(x.ev st.tm).g=true)
 (hgl:∀x,x∈lo.toList->(x.ev st.tm).g=true) (hgh:∀x,x∈hi.toList->(x.ev st.tm).g=true)
 (jX:(zU sz (fA st.tm x) (bnd (fA st.tm) lo 0) (bnd (fA st.tm) hi)).vc):pM P E n o a w st (zU sz (fA st.tm x) (bnd (fA st.tm) lo 0) (bnd (fA st.tm) hi)).v:=by
 unfold Om at hc;split at hc
 ·rename_i t x' lo' hi' he;simp only[ai]at hc;have g1:=ou h hc.1.1.1 hx;obtain⟨e,ti,ht,hti,hsz⟩:=Ed hc.2;unfold zU at jX⊢;split at jX
  ·rename_i b l m c sz' hsb;split at jX
   ·rename_i p q e2 e3;obtain⟨rfl,h0,h1,h2⟩:=jX;obtain⟨k,cap,ad,c',hr,hv,hm,hcc,hcx,ha⟩:=Jz g1 hsb;have hqc:q<=c':=by
     cases c with
     |none=>simp only at h2;omega
     |some c0=>have:=hcx c0 rfl;simp only at h2;omega
    have b1:=H8 h hc.1.1.2 hgl e2;have b2:=H8 h hc.1.2 hgh e3;have hb:=DT (P:=P) (w:=w) true m c' (lo'.map a.eval) (hi'.map a.eval) (p:=p) (q:=q) (JZ b1) (JZ b2) h0 h1 hqc;have hrun:(execOp a.eval o).run P w = .ok (.value (.slice (if c'=p.toNat then ad else ad.map (·.add (p.toNat*sz'))) (q.toNat-p.toNat) (c'-p.toNat))) w:=by simp only[execOp,he,yz,BO,hv,lC];simp[run_underlying ht];rw[hb];simp[sizeOf,typeInfo,hti,hsz]
    refine pM.val h hrun ⟨k,cap,_,_,hr,by congr 1;omega,by omega,by omega,λc0 hc0=>?_,λFp=>?_⟩
    ·cases c with
     |none=>cases hc0
     |some c1=>have:=hcx c1 rfl;simp at hc0;omega
    ·by_cases hcp:c'=p.toNat
     ·rw[if_pos hcp];have hl0:l=0/\p.toNat=0/\cap≠0:=(by omega);have:=ha (.inr ⟨hl0.1,hl0.2.2⟩);rw[this,hl0.1,hl0.2.1]
     ·rw[if_neg hcp,ha (.inl (by omega))];simp only[lD];rw[Addr.zY,eG]
   ·exact jX.elim
  ·exact jX.elim
 ·cases hc
theorem WU (len cap:Nat){k1 k2 k3:IntKind}{p q m:Int}(h0:0<=p)(h1:p<=q)(h2:q<=m)(h3:m<=cap) :
 (yQ true len cap (some (.int k1 p)) (some (.int k2 q)) (some (.int k3 m))).run P w = .ok (p.toNat,q.toNat,m.toNat) w:=by
 simp (disch:=omega) [yQ,run_sliceBound]
def XV (P:Program)(n:Nat)(op:Op)(sz:Nat)(x p q m:pF):Bool:=match op with|.slice t x' (some p') (some q') (some m')=>kZ n x' x&&kZ n p' p&&kZ n q' q&&kZ n m' m&&Ld P t sz|_=>false
theorem adm {o:Oper}{sz:Nat}{x p q m:pF}(h:GX E I ρ n st a w)(hc:XV P n o.op sz x p q m=true)(hx:(x.ev st.tm).g=true)(hp:(p.ev st.tm).g=true)(hq:(q.ev st.tm).g=true)(hm:(m.ev st.tm).g=true)
 (jX:(JP sz (fA st.tm x) (fA st.tm p) (fA st.tm q) (fA st.tm m)).vc):pM P E n o a w st (JP sz (fA st.tm x) (fA st.tm p) (fA st.tm q) (fA st.tm m)).v:=by
 unfold XV at hc;split at hc
 ·rename_i t x' p' q' m' he;simp only[ai]at hc;obtain⟨⟨⟨⟨c1,c2⟩,c3⟩,c4⟩,c5⟩:=hc;have g1:=ou h c1 hx;have g2:=ou h c2 hp;have g3:=ou h c3 hq;have g4:=ou h c4 hm;obtain⟨e,ti,ht,hti,hsz⟩:=Ed c5;unfold JP at jX⊢;split at jX
  ·rename_i b l len c sz' k1 p0 k2 q0 k3 m0 hsb e2 e3 e4;obtain⟨rfl,h0,h1,h2,h3⟩:=jX;rw[e2]at g2;rw[e3]at g3;rw[e4]at g4;have v2:=yc g2;have v3:=yc g3;have v4:=yc g4;obtain⟨k,cap,ad,c',hr,hv,hlm,hcc,hcx,ha⟩:=Jz g1 hsb;have hmc:m0<=c':=by
    cases c with
    |none=>simp only at h3;omega
    |some c0=>have:=hcx c0 rfl;simp only at h3;omega
   have hb:=WU (P:=P) (w:=w) len c' (k1:=k1) (k2:=k2) (k3:=k3) h0 h1 h2 hmc;refine pM.val h (v:=.slice (if m0.toNat=p0.toNat then ad else ad.map (·.add (p0.toNat*sz'))) (q0.toNat-p0.toNat) (m0.toNat-p0.toNat)) ?_ rfl;simp only[execOp,he,yz,BO,hv,lD,v2,v3,v4];simp[run_underlying ht];rw[hb];simp[sizeOf,typeInfo,hti,hsz]
  ·exact jX.elim
 ·cases hc
theorem Ox {α:Type}(xs ys:List α)(off j:Nat)(h:off<=xs.length):(splice xs off ys)[j]? = if j<off then xs[j]? else if j<off+ys.length then ys[j-off]? else xs[j]?:=by
 unfold splice;have h1:(xs.take off).length=off:=by simp;omega
 by_cases hj:j<off
 ·rw[if_pos hj,dA,gm (by omega),bQ,if_pos hj]
 ·rw[if_neg hj,dA,gX (by omega),h1];by_cases hk:j<off+ys.length
  ·rw[if_pos hk,gm (by omega)]
  ·rw[if_neg hk,gX (by omega),jl]
   congr 1;omega
theorem U5 (h:GX E I ρ n st a w){b kk cap sz lo:Nat}{es ys:List (List Cell)}{us:List Value}(hb:st.bx b = .dat sz es)(hr:ρ b=some (kk,cap))(h0:0<sz)(hlo:lo<=es.length)(hfit:lo+ys.length<=cap)
 (hc0:cap≠0) (hys:∀y,y∈ys->y.length=sz) (hul:us.length=ys.length*sz) (hd:DC I us sz ys) :
 ∃cs tg,w.heap[kk]? = some (.cells cs tg (0,0))/\cs.size=cap*sz/\GX E I ρ n (st.yF b (.dat sz (splice es lo ys))) a (w.setRow kk (splice cs.toList (lo*sz) us).toArray):=by
 have hok:=h.bx.ok b;rw[hb]at hok;obtain⟨kk',cap',hr',hle,hcm,hes,hcs⟩:=hok;rw[hr]at hr';simp only[aH,aJ]at hr';obtain⟨rfl,rfl⟩:=hr';obtain⟨cs,tg,hw,hs,ho,hrd⟩:=hcs hc0;refine⟨cs,tg,hw,hs,?_⟩;have hmul:(lo+ys.length)*sz<=cap*sz:=bG _ hfit;rw[eG]at hmul;have acj:lo*sz+us.length<=cs.toList.length:=by have hq:cs.toList.length=cs.size:=vg;omega
 have hlen:(splice es lo ys).length<=cap:=by unfold splice;simp;omega
 refine h.yF (b:=b) (k:=kk) (by rw[hb];exact⟨cap,hr,hc0⟩) (.dat sz (splice es lo ys)) (λk' hk'=>?_) (IP _ _ _) ?_ (by simp)
 ·obtain⟨c',hc',_⟩:=hk';rw[hr]at hc';simp at hc';exact hc'.1.symm
 ·refine⟨kk,cap,hr,hlen,hcm,λy hy=>?_,λ_=>⟨_,tg,setRow_heap w kk cs _ tg _ hw,?_,?_,?_⟩⟩
  ·unfold splice at hy;simp only[aV]at hy;rcases hy with(h1|h1)|h1
   ·exact hes y (dS h1)
   ·exact hys y h1
   ·exact hes y (mX h1)
  ·simp only[lV];rw[length_splice _ _ _ acj];simpa using hs
  ·intro j u hu;have hu:(splice cs.toList (lo*sz) us)[j]? = some u:=(by simpa using hu);rw[sG _ _ _ _ acj]at hu;split at hu
   ·exact ho j u (by simpa using hu)
   ·split at hu
    ·exact hd.one _ u hu
    ·exact ho j u (by simpa using hu)
  ·intro i' j cc Fp;have key:∃u,(splice cs.toList (lo*sz) us)[i'*sz+j]? = some u/\Rd I u cc:=by
    have hget:(splice es lo ys).getD i' []=if i'<lo then es.getD i' []else if i'<lo+ys.length then ys.getD (i'-lo) []else es.getD i' []:=by
     simp only[bu];rw[Ox _ _ _ _ hlo];split
     ·rfl
     ·split<;>rfl
    rw[hget]at Fp;rw[sG _ _ _ _ acj];by_cases h1:i'<lo
    ·rw[if_pos h1]at Fp;obtain⟨u,hu,hr'⟩:=hrd i' j cc Fp;have hi':=mF Fp;have hj:j<sz:=(by rw[<- hes (es.getD i' []) (by simp[bu,aF hi'])];exact(bD.1 Fp).1);have:(i'+1)*sz<=lo*sz:=bG _ h1;rw[eG]at this;exact⟨u,by rw[if_pos (by omega)];simpa using hu,hr'⟩
    ·rw[if_neg h1]at Fp;by_cases h2:i'<lo+ys.length
     ·rw[if_pos h2]at Fp;obtain⟨u,hu,hr'⟩:=hd.rd (i'-lo) j cc Fp;have hyi:=mF Fp;have hj:j<sz:=(by rw[<- hys (ys.getD (i'-lo) []) (by simp[bu,aF hyi])];exact(bD.1 Fp).1);have e1:lo*sz<=i'*sz:=bG _ (by omega);have e2:(i'-lo)*sz=i'*sz-lo*sz:=Nat.sub_mul _ _ _;have e3:(i'-lo+1)*sz<=ys.length*sz:=bG _ (by omega);rw[eG]at e3;exact⟨u,by rw[if_neg (by omega),if_pos (by omega),<- hu];congr 1;omega,hr'⟩
     ·rw[if_neg h2]at Fp;obtain⟨u,hu,hr'⟩:=hrd i' j cc Fp;have e1:(lo+ys.length)*sz<=i'*sz:=bG _ (by omega);rw[eG]at e1;exact⟨u,by rw[if_neg (by omega),if_neg (by omega)];simpa using hu,hr'⟩
   obtain⟨u,hu,hr'⟩:=key;exact⟨u,by simpa using hu,hr'⟩
theorem JQ {α:Type}(xs:List α)(k:Nat)(h:k<=xs.length):splice xs k []=xs:=by simp[splice]
theorem aaP (t t' ty e:TypeId)(i:TypeInfo)(ht:P.underlying t=some (.slice e))(hi:P.info? e=some i)(kk off m c:Nat)(cur:Array Value)(tg:TypeId)(hg:w.heap[kk]? = some (.cells cur tg (0,0)))
 (ad:Addr) (k c':Nat) (us:List Value) (hl:us.length=fU k m*i.size) (hus:∀j u,us[j]? = some u->w.cell? (ad.add j)=some u) (h1:∀u∈us,u.oneCell'=true) (hfit:off+us.length<=cur.size) :
 (sO #[t,t'] ty #[.slice (some ⟨kk,off,none⟩) m c,.slice (some ad) k c']).run P w = .ok (goInt (fU k m:Nat)) (w.setRow kk (splice cur.toList off us).toArray):=by
 have hf:=run_firstCells_some (P:=P) w i.size (fU k m) ad k c' us hl hus;have hst:=run_storeCells_at P kk off tg us 0 cur w hg (by simpa using hfit) h1;rw[AU]at hst;simp[sO,run_underlying ht,sizeOf,typeInfo,hi,uQ,hf,hst]
theorem aa1 (h:GX E I ρ n st a w){v:Value}{x:AV}{sz m:Nat}{p:Prop}{ys:List (List Cell)}(hv:GV I ρ v x)(hs:yG sz (truncS m x) st.bx=some (p,ys))(hp:p) :
 ∃xb kx xc,v = .slice xb kx xc/\fU ys.length m=fU kx m/\Src I w (.slice xb ys.length xc) sz ys:=by
 have other:truncS m x=x->∃xb kx xc,v = .slice xb kx xc/\fU ys.length m=fU kx m/\Src I w (.slice xb ys.length xc) sz ys:=by intro e;rw[e]at hs;have hS:=src_ok h hv hs hp;obtain⟨b,cap,hvv,hr⟩:=hS;exact⟨b,ys.length,cap,hvv,rfl,b,cap,rfl,hr⟩
 rcases x with c|_|_
 ·cases c
  case sub b lo n' c sz'=>obtain⟨k,cap,ad,c',h1,h2,h3,h4,h5⟩:=hv;subst h2;have hg:GV I ρ (.slice ad (min n' m) c') (.one (.sub b lo (min n' m) c sz')):=⟨k,cap,ad,c',h1,rfl,by omega,h4,h5⟩;have hS:=src_ok h hg hs hp;obtain⟨b',cap',hvv,hr⟩:=hS;simp only[Value.slice.injEq]at hvv;obtain⟨rfl,e2,rfl⟩:=hvv;refine⟨ad,n',c',rfl,?_,ad,c',rfl,hr⟩;show min ys.length m=min n' m;omega
  all_goals exact other rfl
 all_goals exact other rfl
theorem aaT {o:Oper}{sz:Nat}{d x:pF}(h:GX E I ρ n st a w)(hc:J3 P n o.op sz d x=true)(hd:(d.ev st.tm).g=true)(hx:(x.ev st.tm).g=true)
 (jX:(F6 sz (fA st.tm d) (fA st.tm x) st.bx).vc):pM P E n o a w (st.um (F6 sz (fA st.tm d) (fA st.tm x) st.bx).sets) (F6 sz (fA st.tm d) (fA st.tm x) st.bx).v:=by
 unfold J3 at hc;split at hc
 ·rename_i d' x' t t' he;simp only[ai,decide_eq_true_eq]at hc;obtain⟨⟨⟨c1,c2⟩,ht⟩,h0⟩:=hc;have g1:=ou h c1 hd;have g2:=ou h c2 hx;obtain⟨e,i,hte,hi,rfl⟩:=Ed ht;have fin:∀{v:Value} {w':World},(sO #[t,t'] o.type #[a.eval d',a.eval x']).run P w = .ok v w'->(execOp a.eval o).run P w = .ok (.value v) w':=by
   intro v w' hr;simp only[execOp,he,resolve,invoke,builtin,gQ,fQ,dK,nV,bf,iD,hr]
  unfold F6 at jX⊢;split at jX
  ·rename_i b lo m c0 sz' hsb;split at jX
   ·rename_i p ys hsrc;split at jX
    ·rename_i Cb es hb;obtain⟨hp,rfl,rfl,hlo⟩:=jX;obtain⟨xb0,kx,xc0,agY,hmk,hsrc'⟩:=aa1 h g2 hsrc hp;have hys:∀y,y∈ys->y.length=i.size:=(by obtain⟨_,_,_,_,h4,_⟩:=hsrc';exact h4);obtain⟨xb,xc,us,hxv,Ji,hus,hxn,Xo⟩:=JS hsrc' h0;cases hxv;obtain⟨kk,cap,ad0,c,hr0,hsv,hnc,hcc,_,hcap⟩:=Jz g1 hsb;by_cases hm0:fU ys.length m=0
     ·have hr:=Ho (P:=P) (w:=w) t t' o.type e i hte hi ad0 m c xb0 kx xc0 (hmk.symm.trans hm0);rw[<- agY,<- hsv]at hr;have htk:ys.take m=[]:=by
       apply dD;rw[dm,Aw];exact hm0
      rw[htk,JQ _ _ hlo];refine⟨_,w,I,ρ,.inl (fin hr),?_,λ_=>by rw[hm0];exact Bl _ _⟩;show GX E I ρ n (st.yF b (.dat i.size es)) a w;rw[Kt hb];exact h
     ·have hmin:fU ys.length m<=ys.length/\fU ys.length m<=m:=⟨Nat.min_le_left _ _,Nat.min_le_right _ _⟩;have Le:=hcap (.inl (by omega));subst Le;obtain⟨ad,had⟩:∃ad,xb0=some ad:=by
       cases hq:xb0 with
       |none=>have:=hxn hq;subst this;exact absurd rfl hm0
       |some ad=>exact⟨ad,rfl⟩
      subst had;have htl:(ys.take m).length=fU ys.length m:=(by rw[dm,Aw]);have hmul:fU ys.length m*i.size<=ys.length*i.size:=bG _ hmin.1;have hul:(us.take (fU ys.length m*i.size)).length=fU ys.length m*i.size:=(by simp;omega);have hdt:DC I (us.take (fU ys.length m*i.size)) i.size (ys.take m):=by
       refine⟨λj u hu=>?_,λi' j cc Fp=>?_⟩
       ·rw[bQ]at hu;split at hu
        ·exact Xo.one _ u hu
        ·cases hu
       ·have hi':=mF Fp;rw[htl]at hi';have af1:(ys.getD i' [])[j]? = some cc:=by
         rw[<- Fp];congr 1;simp only[bu];rw[bQ,if_pos (by omega)]
        obtain⟨u,hu,hr⟩:=Xo.rd i' j cc af1;have hyi:=mF af1;have hj:j<i.size:=(by rw[<- hys (ys.getD i' []) (by simp[bu,aF hyi])];exact(bD.1 af1).1);have:(i'+1)*i.size<=fU ys.length m*i.size:=bG _ hi';rw[eG]at this;exact⟨u,by rw[bQ,if_pos (by omega)];exact hu,hr⟩
      obtain⟨cs,tg,hw,hs,hg⟩:=U5 h hb hr0 h0 hlo (ys:=ys.take m) (us:=us.take (fU ys.length m*i.size)) (by rw[htl];omega) (by omega) (λy hy=>hys y (dS hy)) (by rw[hul,htl]) hdt;have MX:(lo+fU ys.length m)*i.size<=cap*i.size:=bG _ (by omega);rw[eG]at MX;have hr:=aaP (P:=P) (w:=w) t t' o.type e i hte hi kk (lo*i.size) m c cs tg hw ad kx xc0 (us.take (fU ys.length m*i.size)) (hmk▸hul)
       (λj u hu=>by
        rw[bQ]at hu;split at hu
        ·exact hus ad rfl j u hu
        ·cases hu)
       (λu hu=>by obtain⟨j,hj⟩:=uP (dS hu);exact Xo.one j u hj) (by rw[hul,hs];exact MX)
      rw[<- agY,<- hsv]at hr;exact⟨_,_,I,ρ,.inl (fin hr),hg,λ_=>by rw[<- hmk];exact Bl _ _⟩
    ·exact jX.elim
   ·exact jX.elim
  ·exact jX.elim
 ·cases hc
def Uu (P:Program)(n:Nat)(op:Op)(sz:Nat)(zs:List Cell)(x:pF):Bool:=
 match op with
 | .call { callee:=.builtin .clear,args:=⟨[x']⟩,argTypes:=⟨[t]⟩ }=>kZ n x' x&&decide (0<sz)&&zs.length==sz&&(match P.underlying t with
   |some (.slice e)=>(match P.info? e with|some i=>i.size==sz&&(match i.zero with|some z=>z.cells.size==sz&&I4 z.cells.toList zs|none=>false)|none=>false)
   |_=>false)
 |_=>false
theorem O0 {zs:List Cell}{z:Array Value}{sz m:Nat}(hz:I4 z.toList zs=true)(hzs:z.size=sz)(hl:zs.length=sz)(h0:0<sz) :
 (bK z m).toList.length=m*sz/\DC I (bK z m).toList sz (dh m zs):=by
 have hsz:(bK z m).size=m*sz:=by simp[bK,hzs]
 refine⟨by simpa using hsz,?_⟩;have rc:=OO (I:=I) (N:=m*sz) (m:=m) hz hl h0 (ax _) (cs:=(D9 (m*sz)).map (z[· % z.size]!)) rfl;have he:(bK z m)=(D9 (m*sz)).map (z[· % z.size]!):=by unfold bK;rw[hzs]
 rw[he];exact⟨λj u hu=>rc.1 j u (by rw[vW]at hu;exact hu),λi' j c hc=>by obtain⟨u,hu,hr⟩:=rc.2 i' j c hc;exact⟨u,by rw[vW];exact hu,hr⟩⟩
theorem aaS {o:Oper}{sz:Nat}{zs:List Cell}{x:pF}(h:GX E I ρ n st a w)(hc:Uu P n o.op sz zs x=true)(hx:(x.ev st.tm).g=true)
 (jX:(F5 sz zs (fA st.tm x) st.bx).vc):pM P E n o a w (st.um (F5 sz zs (fA st.tm x) st.bx).sets) (F5 sz zs (fA st.tm x) st.bx).v:=by
 unfold Uu at hc;split at hc
 ·rename_i x' t he;simp only[ai,decide_eq_true_eq,beq_iff_eq]at hc;obtain⟨⟨⟨c1,h0⟩,hzl⟩,ht⟩:=hc;have g1:=ou h c1 hx;split at ht
  ·rename_i e hte;split at ht
   ·rename_i i hi;simp only[ai,beq_iff_eq]at ht;obtain⟨hisz,hz⟩:=ht;split at hz
    ·rename_i z hzero;simp only[ai,beq_iff_eq]at hz;obtain⟨hzs,hzd⟩:=hz;have fin:∀{v:Value} {w':World},(DI #[t] o.type #[a.eval x']).run P w = .ok v w'->(execOp a.eval o).run P w = .ok (.value v) w':=by
      intro v w' hr;simp only[execOp,he,resolve,invoke,builtin,gQ,fQ,dK,nV,bf,iD,hr]
     unfold F5 at jX⊢;split at jX
     ·rename_i b lo m c0 sz' hsb;split at jX
      ·rename_i Cb es hb;obtain⟨rfl,rfl,hlo⟩:=jX;obtain⟨kk,cap,ad0,c,hr0,hsv,hnc,hcc,_,hcap⟩:=Jz g1 hsb;have agX:∀{ρ':Ren},GV I ρ' (.tuple #[]) (.xg []):=λ{ρ'}=>⟨#[],rfl,rfl,λj v p hv hp=>by simp at hp⟩;by_cases hm0:m=0
       ·subst hm0;rw[List.replicate_zero,JQ _ _ hlo];refine⟨.tuple #[],w,I,ρ,.inl (fin ?_),?_,λ_=>agX⟩
        ·rw[hsv];cases ad0<;>simp[DI,run_underlying hte]
        ·show GX E I ρ n (st.yF b (.dat Cb es)) a w;rw[Kt hb];exact h
       ·have Le:=hcap (.inl (by omega));subst Le;obtain⟨af7,aeK⟩:=O0 (I:=I) (m:=m) hzd hzs hzl h0;obtain⟨cs,tg,hw,hs,hg⟩:=U5 h hb hr0 h0 hlo (ys:=dh m zs) (us:=(bK z.cells m).toList) (by simp;omega) (by omega) (λy hy=>by rw[uU hy,hzl]) (by simpa using af7) aeK;have MX:(lo+m)*Cb<=cap*Cb:=bG _ (by omega);rw[eG]at MX;have hst:=run_storeCells_at P kk (lo*Cb) tg (bK z.cells m).toList 0 cs w hw (by rw[af7];simpa[hs]using MX) (λu hu=>by obtain⟨j,hj⟩:=uP hu;exact aeK.one j u hj);rw[AU]at hst;obtain⟨m',rfl⟩:∃m',m=m'+1:=⟨m-1,by omega⟩;refine⟨.tuple #[],_,I,ρ,.inl (fin ?_),hg,λ_=>agX⟩;rw[hsv];simp[DI,run_underlying hte,zeroValue,typeInfo,hi,hzero,hst]
      ·exact jX.elim
     ·exact jX.elim
    ·cases hz
   ·cases ht
  ·cases ht
 ·cases hc
theorem SG (t ty e tg:TypeId)(i:TypeInfo)(ht:P.underlying t=some (.slice e))(hi:P.info? e=some i)
 (g off sLen sCap:Nat) (cur:Array Value) (hg:w.heap[g]? = some (.cells cur tg (0,0)))
 (ad:Addr) (m c:Nat) (news:List Value) (hl:news.length=m*i.size) (hnews:∀j u,news[j]? = some u->w.cell? (ad.add j)=some u) (h1:∀u∈news,u.oneCell'=true)
 (hroom:sLen+m<=sCap) (hfit:off+sLen*i.size+news.length<=cur.size) :
 (jJ #[t,t] ty #[.slice (some ⟨g,off,none⟩) sLen sCap,.slice (some ad) m c]).run P w =
  .ok (.slice (some ⟨g,off,none⟩) (sLen+m) sCap) (w.setRow g (splice cur.toList (off+sLen*i.size) news).toArray):=by
 have hf:=run_firstCells_some (P:=P) w i.size m ad m c news hl hnews;have hst:=run_storeCells_at P g (off+sLen*i.size) tg news 0 cur w hg (by simpa using hfit) h1;rw[AU]at hst;simp[jJ,run_underlying ht,sizeOf,typeInfo,hi,uQ,hroom,hf,Addr.zY,hst]
theorem aaR {o:Oper}{l sz bytes:Nat}{s x:pF}(h:GX E I ρ n st a w)(hc:Gm P n o.op sz bytes s x=true)(hm:E.m<=l)(hs:(s.ev st.tm).g=true)(hx:(x.ev st.tm).g=true)
 (jX:(FY l sz bytes (fA st.tm s) (fA st.tm x) st.bx).vc):pM P E n o a w (st.um (FY l sz bytes (fA st.tm s) (fA st.tm x) st.bx).sets) (FY l sz bytes (fA st.tm s) (fA st.tm x) st.bx).v:=by
 unfold Gm at hc;split at hc
 ·rename_i s' x' t t' he;simp only[ai,beq_iff_eq,decide_eq_true_eq]at hc;obtain⟨⟨⟨⟨c1,c2⟩,rfl⟩,h0⟩,ht⟩:=hc;have g1:=ou h c1 hs;have g2:=ou h c2 hx;split at ht
  ·rename_i e hte;split at ht
   ·rename_i i hi;simp only[ai,beq_iff_eq]at ht;obtain⟨⟨rfl,rfl⟩,hz⟩:=ht;split at hz
    ·rename_i z hzero;simp only[ai,beq_iff_eq]at hz;obtain⟨hzs,hz1⟩:=hz;have fin:∀{v:Value} {w':World},(jJ #[t,t] o.type #[a.eval s',a.eval x']).run P w = .ok v w'->(execOp a.eval o).run P w = .ok (.value v) w':=by
      intro v w' hr;simp only[execOp,he,resolve,invoke,builtin,gQ,fQ,dK,nV,bf,iD,hr]
     unfold FY at jX⊢;split at jX
     ·rename_i p ys b lo m c sz' hsrc e1;split at jX
      ·rename_i Cb es hb;obtain⟨kk,cap,ad0,c',hr0,hsv,hnc,hcc,hcx,hcap⟩:=Jz (c:=some c) (b:=b) (lo:=lo) (m:=m) (sz:=sz') g1 (by rw[e1];rfl);have:=hcx c rfl;subst this;split at jX
       ·rename_i hroom;rw[if_pos hroom];obtain⟨hp,rfl,rfl,hlo⟩:=jX;have hsrc':=src_ok h g2 hsrc hp;have hys:∀y,y∈ys->y.length=i.size:=(by obtain⟨_,_,_,_,h4,_⟩:=hsrc';exact h4);obtain⟨xb,xc,us,hxv,Ji,hus,hxn,Xo⟩:=JS hsrc' h0;by_cases hm0:ys.length=0
        ·have hy0:ys=[]:=dD hm0;subst hy0;rw[JQ _ _ hlo];have hr:=FP (P:=P) (w:=w) t o.type e i hte hi ad0 m c' hnc xb xc;rw[dB]at hxv;rw[<- hxv,<- hsv]at hr;refine⟨_,w,I,ρ,.inl (fin hr),?_,λ_=>⟨kk,cap,ad0,c',hr0,hsv,by simpa using hnc,hcc,(λc0 hc0=>by cases hc0;rfl),hcap⟩⟩;show GX E I ρ n (st.yF b (.dat i.size es)) a w;rw[Kt hb];exact h
        ·have Le:=hcap (.inl (by omega));subst Le;obtain⟨ad,had⟩:∃ad,xb=some ad:=by
          cases hq:xb with
          |none=>exact absurd (by rw[hxn hq];rfl) hm0
          |some ad=>exact⟨ad,rfl⟩
         subst had;obtain⟨cs,tg,hw,hss,hg⟩:=U5 h hb hr0 h0 hlo (ys:=ys) (us:=us) (by omega) (by omega) hys Ji Xo;have MX:(lo+m+ys.length)*i.size<=cap*i.size:=bG _ (by omega);simp only[eG]at MX;have hr:=SG (P:=P) (w:=w) t o.type e tg i hte hi kk (lo*i.size) m c' cs hw ad ys.length xc us Ji (hus ad rfl) (λu hu=>by obtain⟨j,hj⟩:=uP hu;exact Xo.one j u hj) hroom (by rw[Ji,hss];exact MX);rw[<- hxv,<- hsv,<- eG]at hr;exact⟨_,_,I,ρ,.inl (fin hr),hg,λ_=>⟨kk,cap,_,c',hr0,rfl,hroom,hcc,(λc0 hc0=>by cases hc0;rfl),λ_=>rfl⟩⟩
       ·rename_i hroom;rw[if_neg hroom];obtain⟨hp,rfl,rfl,hlo,hl,hbig⟩:=jX;have hsrc':=src_ok h g2 hsrc hp;have hys:∀y,y∈ys->y.length=i.size:=(by obtain⟨_,_,_,_,h4,_⟩:=hsrc';exact h4);obtain⟨xb,xc,us,hxv,Ji,hus,hxn,Xo⟩:=JS hsrc' h0;have hok:=h.bx.ok b;rw[hb]at hok;obtain⟨kk',cap',hr',hle,hcm,hes,hcs⟩:=hok;rw[hr0]at hr';simp only[aH,aJ]at hr';obtain⟨rfl,rfl⟩:=hr';have hmul:(m+ys.length)*(i.bytes+i.size+1)=(m+ys.length)*i.bytes+(m+ys.length)*i.size+(m+ys.length):=(by rw[yZ,yZ,wB]);have hbytes:(m+ys.length)*i.bytes<=140737488355328:=(by omega);have h63:m+ys.length<=maxLen:=(by simp only[maxLen];omega);have hm0:ys.length≠0:=(by omega);obtain⟨ad,had⟩:∃ad,xb=some ad:=by
         cases hq:xb with
         |none=>exact absurd (by rw[hxn hq];rfl) hm0
         |some ad=>exact⟨ad,rfl⟩
        subst had;have hzc:∀(q:Nat) (j:Nat) (u:Value),(bK z.cells q).toList[j]? = some u->u.oneCell'=true:=by
         intro q j u hu;simp only[bK,vW,xw]at hu;by_cases hj:j<q*z.cells.size
         ·rw[rY,if_pos hj]at hu;simp only[lD,aH]at hu;have hlt:j%z.cells.size<z.cells.size:=tH _ (by omega);rw[getElem!_pos z.cells _ hlt]at hu;rw[<- hu];exact aZ.1 hz1 _ (by simp)
         ·rw[rY,if_neg hj]at hu;cases hu
        have hl':=HY hl;have hsub:∀y,y∈(es.drop lo).take m->y.length=i.size:=λy hy=>hes y (mX (dS hy));have hsl:((es.drop lo).take m).length=m:=(by simp;omega);have fresh:∀(old:Nat) (olds:List Value),old<m+ys.length->olds.length=m*i.size->DC I olds i.size ((es.drop lo).take m) ->
         GX E I (ρ.set l w.heap.size (grownCap w (m+ys.length) old e)) n (st.yF l (.dat i.size ((es.drop lo).take m++ys))) a
          (w.drew.alloc (.cells (olds.toArray++us.toArray++bK z.cells (grownCap w (m+ys.length) old e-(m+ys.length))) e)):=by
         intro old olds ho hol hdo;have hge:=grownCap_ge w (m+ys.length) old e;have hcm:grownCap w (m+ys.length) old e<=maxLen:=grownCap_le_maxLen w _ old e h63;have hdc:=((hdo.append Xo (by rw[hsl];exact hol)).more (hzc (grownCap w (m+ys.length) old e-(m+ys.length)))).Zk (cs:=olds.toArray++us.toArray++bK z.cells (grownCap w (m+ys.length) old e-(m+ys.length))) (by simp);refine J8 h.drew hl' hm _ e _ i.size ((es.drop lo).take m++ys) ?_ (by rw[au,hsl];exact hge) hcm (λx hx=>?_) hdc.1 hdc.2
         ·simp only[Af,lV,size_zeroCells,hzs,hol,Ji,<- eG]
          congr 1
          omega
         ·rcases aV.1 hx with h1|h1
          ·exact hsub x h1
          ·exact hys x h1
        have hfit:=growslice_fits (need:=m+ys.length) (old:=c') (bytes:=i.bytes) (by omega) hbytes;by_cases hc0:c'=0
        ·
         have af5:m=0:=(by omega);subst af5;subst hc0;have hf:=fresh 0 [] (by omega) (by simp) ⟨by simp,by simp⟩;simp only[iI,tX]at hf h63 hbytes hfit;cases ad0 with
         | none=>have hr:=run_append_nil (P:=P) w t o.type e i z hte hi hzero ad ys.length xc us Ji (hus ad rfl) (by omega) (by simp only[maxLen]at h63;omega) (by omega);rw[<- hxv,<- hsv]at hr;refine⟨_,_,I,_,.inl (fin hr),hf,λ_=>⟨w.heap.size,_,_,_,Ren.oD _ _ _ _,by rw[iI],by rw[iI];exact grownCap_ge w ys.length 0 e,ax _,λ_=>rfl⟩⟩
         | some q=>have hr:=run_append_grow (P:=P) w t o.type e i z hte hi hzero q 0 0 [] (by simp) (by simp) ad ys.length xc us Ji (hus ad rfl) (by omega) (by simp only[maxLen]at h63;omega) (by simpa using hfit);rw[<- hxv,<- hsv]at hr;simp only[iI,tX]at hr;refine⟨_,_,I,_,.inl (fin hr),hf,λ_=>⟨w.heap.size,_,_,_,Ren.oD _ _ _ _,by rw[iI],by rw[iI];exact grownCap_ge w ys.length 0 e,ax _,λ_=>rfl⟩⟩
        ·have Le:=hcap (.inl hc0);subst Le;have hcap0:cap≠0:=(by omega);obtain⟨cs,tg,hw,hss,ho,hrd⟩:=hcs hcap0;have hmn:(lo+m)*i.size<=cs.size:=(by rw[hss];exact bG _ (by omega));rw[eG]at hmn;have Wl:((cs.toList.drop (lo*i.size)).take (m*i.size)).length=m*i.size:=(by simp;omega);have holds:∀(j:Nat) (u:Value),((cs.toList.drop (lo*i.size)).take (m*i.size))[j]? = some u->w.cell? ((⟨kk,lo*i.size,none⟩:Addr).add j)=some u:=λj u hu=>by
          rw[bQ]at hu;split at hu
          ·rw[Addr.zY];rw[jl]at hu;simp at hu;simp[o7,hw,hu]
          ·cases hu
         have hd1:DC I ((cs.toList.drop (lo*i.size)).take (m*i.size)) i.size ((es.drop lo).take m):=by
          refine⟨λj u hu=>?_,λi' j c2 hc2=>?_⟩
          ·rw[bQ]at hu;split at hu
           ·rw[jl]at hu;exact ho _ u (by simpa using hu)
           ·cases hu
          ·have hi':=mF hc2;rw[hsl]at hi';have hc3:(es.getD (lo+i') [])[j]? = some c2:=by
            rw[<- hc2];congr 1;simp only[bu];rw[bQ,if_pos hi',jl]
           obtain⟨u,hu,hr⟩:=hrd (lo+i') j c2 hc3;have hi2:=mF hc3;have hj:j<i.size:=(by rw[<- hes (es.getD (lo+i') []) (by simp[bu,aF hi2])];exact(bD.1 hc3).1);have:(i'+1)*i.size<=m*i.size:=bG _ hi';rw[eG]at this;refine⟨u,?_,hr⟩;rw[bQ,if_pos (by omega),jl];rw[eG]at hu;rw[<- vw];simpa using hu
         have hr:=run_append_grow (P:=P) w t o.type e i z hte hi hzero ⟨kk,lo*i.size,none⟩ m c' _ Wl holds ad ys.length xc us Ji (hus ad rfl) (by omega) (by simp only[maxLen]at h63;omega) hfit;rw[<- hxv,<- hsv]at hr;have hf:=fresh c' _ (by omega) Wl hd1;exact⟨_,_,I,_,.inl (fin hr),hf,λ_=>⟨w.heap.size,_,_,_,Ren.oD _ _ _ _,rfl,grownCap_ge w _ c' e,ax _,λ_=>rfl⟩⟩
      ·exact jX.elim
     ·exact jX.elim
    ·cases hz
   ·cases ht
  ·cases ht
 ·cases hc
end
end
section
section
variable {P:Program} {E:Env P} {I:IH} {ρ:Ren} {n:Nat} {st:iH} {a:Act} {w:World}
theorem aat : vX.lookup "internal/bytealg.abigen_runtime_cmpstring" = none:=by kernel_rfl
theorem aau : xu.lookup "internal/bytealg.abigen_runtime_cmpstring" = none:=by kernel_rfl
theorem aav : yj.lookup "internal/bytealg.abigen_runtime_cmpstring" = none:=by kernel_rfl
theorem aaw : DJ.lookup "internal/bytealg.abigen_runtime_cmpstring" = some Extern.BytealgCompare.compare:=by kernel_rfl
theorem acJ : vX.lookup "" = none:=by kernel_rfl
theorem acK : vX.lookup "slices.overlaps" = none:=by kernel_rfl
theorem acL : xu.lookup "slices.overlaps" = none:=by kernel_rfl
theorem acM : yj.lookup "slices.overlaps" = some xJ:=by kernel_rfl
def Uh (P:Program)(n:Nat)(op:Op)(x y:pF):Bool:=
 match op with
 |.call { callee:=.value (.func f),args:=⟨[x',y']⟩,argTypes:=_ }=>kZ n x' x&&kZ n y' y&&(match P.funcs[f]? with|some fn=>fn.name == "internal/bytealg.abigen_runtime_cmpstring" && fn.origin == "" && fn.body.isNone|none=>false)
 |_=>false
theorem ZV {o:Oper}{x y:pF}(h:GX E I ρ n st a w)(hc:Uh P n o.op x y=true)(hx:(x.ev st.tm).g=true)(hy:(y.ev st.tm).g=true)
 (jX:(MH (fA st.tm x) (fA st.tm y)).vc):pM P E n o a w st (MH (fA st.tm x) (fA st.tm y)).v:=by
 unfold Uh at hc;split at hc
 ·rename_i f x' y' ts he;simp only[ai]at hc;obtain⟨⟨c1,c2⟩,hf⟩:=hc;have g1:=ou h c1 hx;have g2:=ou h c2 hy;split at hf
  ·rename_i fn hfn;simp only[ai,beq_iff_eq]at hf;obtain⟨⟨hname,Tt⟩,hbody⟩:=hf;have hn:vG fn=none:=by
    simp only[vG,hname,Tt,aat,acJ];rfl
   have hd:xK fn=some Extern.BytealgCompare.compare:=by simp only[xK,hname,aau,aav,aaw];rfl
   unfold MH at jX⊢;split at jX
   ·rename_i s t e1 e2;rw[e1]at g1;rw[e2]at g2;obtain⟨v1,_⟩:=Hf g1;obtain⟨v2,_⟩:=Hf g2;have hr:=run_callFunc_extern (P:=P) hfn (by rw[hname];rfl) hbody hn hd #[.string ⟨⟨s⟩⟩,.string ⟨⟨t⟩⟩] w;rw[Lib.run_compareString]at hr;refine pM.val h (v:=.int .i64 (jU s t)) ?_ (Bl _ _);have hx2:a.eval (.func f) = .func (.func f) #[] #[]:=rfl;simp only[execOp,he,resolve,yV,invoke,gQ,fQ,dK,hx2,nV,bf,iD,v1,v2];simpa using hr
   ·exact jX.elim
  ·cases hf
 ·cases hc
def Qq (P:Program)(n:Nat)(op:Op)(ng:Bool)(x:pF):Bool:=
 match op with
 |.binOp b t x' (.const .nilIface) _=>(match b with|.eql=> !ng|.neq=>ng|_=>false)&&(match P.underlying t with|some (.interface _)=>true|_=>false)&&kZ n x' x
 |_=>false
theorem Yd {o:Oper}{ng:Bool}{x:pF}(h:GX E I ρ n st a w)(hc:Qq P n o.op ng x=true)(hx:(x.ev st.tm).g=true)
 (jX:(IE ng (fA st.tm x)).vc):pM P E n o a w st (IE ng (fA st.tm x)).v:=by
 unfold Qq at hc;split at hc
 ·rename_i b t x' t' he;simp only[ai]at hc;obtain⟨⟨hb,ht⟩,h1⟩:=hc;have g1:=ou h h1 hx;unfold IE at jX⊢;split at jX
  ·rename_i g e1;rw[e1]at g1;have g1:if g=true then ∃t p,a.eval x' = .iface t p else a.eval x' = .nilIface:=g1
   split at ht
   ·rename_i ms hu;have ev:a.eval (.const .nilIface) = .nilIface:=rfl;have hq:(eqGuard b t x' (.const .nilIface) (a.eval x') .nilIface).run P w = .ok () w:=by
     cases g with
     | true=>obtain⟨t1,p1,g1⟩:=g1;rw[g1];cases b<;>rfl
     | false=>have g1:a.eval x' = .nilIface:=g1;rw[g1];cases b<;>cases x'<;>first|rfl|simp[eqGuard]
    have hd:∀d,(zV (d+1) t (a.eval x') .nilIface).run P w = .ok (!g) w:=λd=>by
     cases g with
     | true=>obtain⟨t1,p1,g1⟩:=g1;rw[g1];simp[zV,run_underlying hu]
     | false=>have g1:a.eval x' = .nilIface:=g1;rw[g1];simp[zV,run_underlying hu]
    have he':(Op.equal t (a.eval x') .nilIface).run P w = .ok (!g) w:=hd 9999;have agO:∀c,(c = .eql\/c = .neq)->(binOp c t (a.eval x') .nilIface).run P w = .ok (.bool (if c = .neq then g else !g)) w:=λc hc=>by
     cases g with
     | true=>obtain⟨t1,p1,g1⟩:=g1;rw[g1]at he'⊢;rcases hc with rfl|rfl<;>simp[binOp,he']
     | false=>have g1:a.eval x' = .nilIface:=g1;rw[g1]at he'⊢;rcases hc with rfl|rfl<;>simp[binOp,he']
    simp only[FR.ok];cases b<;>simp at hb
    ·subst hb;refine pM.val h ?_ (GY _);simp[execOp,he,ev,hq,agO .eql (.inl rfl)]
    ·subst hb;refine pM.val h ?_ (GY _);simp[execOp,he,ev,hq,agO .neq (.inr rfl)]
   ·cases ht
  ·exact jX.elim
 ·cases hc
theorem aax : vX.lookup "internal/bytealg.IndexByteString" = none:=by kernel_rfl
theorem aay : xu.lookup "internal/bytealg.IndexByteString" = none:=by kernel_rfl
theorem aaz : yj.lookup "internal/bytealg.IndexByteString" = none:=by kernel_rfl
theorem aaA : DJ.lookup "internal/bytealg.IndexByteString" = some Extern.BytealgIndexByte.indexByte:=by kernel_rfl
def Uj (P:Program)(n:Nat)(op:Op)(x y:pF):Bool:=
 match op with
 |.call { callee:=.value (.func f),args:=⟨[x',y']⟩,argTypes:=_ }=>kZ n x' x&&kZ n y' y&&(match P.funcs[f]? with|some fn=>fn.name == "internal/bytealg.IndexByteString" && fn.origin == "" && fn.body.isNone|none=>false)
 |_=>false
theorem aak {o:Oper}{x y:pF}(h:GX E I ρ n st a w)(hc:Uj P n o.op x y=true)(hx:(x.ev st.tm).g=true)(hy:(y.ev st.tm).g=true)
 (jX:(Na (fA st.tm x) (fA st.tm y)).vc):pM P E n o a w st (Na (fA st.tm x) (fA st.tm y)).v:=by
 unfold Uj at hc;split at hc
 ·rename_i f x' y' ts he;simp only[ai]at hc;obtain⟨⟨c1,c2⟩,hf⟩:=hc;have g1:=ou h c1 hx;have g2:=ou h c2 hy;split at hf
  ·rename_i fn hfn;simp only[ai,beq_iff_eq]at hf;obtain⟨⟨hname,Tt⟩,hbody⟩:=hf;have hn:vG fn=none:=by
    simp only[vG,hname,Tt,aax,acJ];rfl
   have hd:xK fn=some Extern.BytealgIndexByte.indexByte:=by simp only[xK,hname,aay,aaz,aaA];rfl
   unfold Na at jX⊢;split at jX
   ·rename_i s k c e1 e2;rw[e1]at g1;rw[e2]at g2;have hk:k = .u8:=jX;subst hk;obtain⟨v1,_⟩:=Hf g1;have v2:=yc g2;have hr:=run_callFunc_extern (P:=P) hfn (by rw[hname];rfl) hbody hn hd #[.string ⟨⟨s⟩⟩,.int .u8 c] w;rw[Lib.run_indexByteString]at hr;refine pM.val h (v:=.int .i64 (eY s c.toNat.toUInt8)) ?_ (Bl _ _);have hx2:a.eval (.func f) = .func (.func f) #[] #[]:=rfl;simp only[execOp,he,resolve,yV,invoke,gQ,fQ,dK,hx2,nV,bf,iD,v1,v2];simpa using hr
   ·exact jX.elim
  ·cases hf
 ·cases hc
def XT (P:Program)(n:Nat)(op:Op)(x y:pF):Bool:=
 match op with
 | .call { callee:=.value (.func f),args:=⟨[x',y']⟩,argTypes:=_ }=>kZ n x' x&&kZ n y' y&&(match P.funcs[f]? with
   | some fn=>fn.origin == "slices.overlaps" && fn.body.isNone && !(fn.name == "runtime.NumGoroutine")&&(vX.lookup fn.name).isNone&&(xu.lookup fn.name).isNone&&(yj.lookup fn.name).isNone&&(DJ.lookup fn.name).isNone &&
     (match fn.params,fn.resultTypes with
      |⟨[t,t']⟩,⟨[_]⟩=>t==t'&&(match P.underlying t with|some (.slice e)=>(match P.info? e with|some _=>true|none=>false)|_=>false)
      |_,_=>false)
   |none=>false)
 |_=>false
theorem abQ (h:GX E I ρ n st a w){b kk cap sz:Nat}{es:List (List Cell)}(hb:st.bx b = .dat sz es)(hr:ρ b=some (kk,cap))(hc0:cap≠0):∃cs tg,w.heap[kk]? = some (.cells cs tg (0,0))/\cs.size=cap*sz:=by have hok:=h.bx.ok b;rw[hb]at hok;obtain⟨kk',cap',hr',hle,hcm,hes,hcs⟩:=hok;rw[hr]at hr';simp only[aH,aJ]at hr';obtain⟨rfl,rfl⟩:=hr';obtain⟨cs,tg,hw,hs,_⟩:=hcs hc0;exact⟨cs,tg,hw,hs⟩
theorem ac1 {o:Oper}{x y:pF}(h:GX E I ρ n st a w)(hc:XT P n o.op x y=true)(hx:(x.ev st.tm).g=true)(hy:(y.ev st.tm).g=true)
 (jX:(UW (fA st.tm x) (fA st.tm y) st.bx).vc):pM P E n o a w st (UW (fA st.tm x) (fA st.tm y) st.bx).v:=by
 unfold XT at hc;split at hc
 ·rename_i f x' y' ts he;simp only[ai]at hc;obtain⟨⟨c1,c2⟩,hf⟩:=hc;have g1:=ou h c1 hx;have g2:=ou h c2 hy;split at hf
  ·rename_i fn hfn;simp only[ai,beq_iff_eq,xY,Option.isNone_iff_eq_none]at hf;obtain⟨⟨⟨⟨⟨⟨⟨Tt,hbody⟩,hname⟩,n1⟩,n2⟩,n3⟩,n4⟩,hp⟩:=hf;split at hp
   ·rename_i t t' tr hpar hres;simp only[ai,beq_iff_eq]at hp;obtain⟨rfl,ht⟩:=hp;split at ht
    ·rename_i e hte;split at ht
     ·rename_i i hi;have hn:vG fn=none:=by
       simp only[vG,Tt,n1,acK];rfl
      have hd:xK fn=some (xJ #[t,t] #[tr]):=by simp only[xK,Tt,n2,n3,n4,acL,acM,hpar,hres];rfl
      unfold UW at jX⊢;split at jX
      ·rename_i b lo m c sz b' lo' m' c' sz' e1 e2;obtain⟨kk,cap,ad,cc,hr,hv,hm,hcc,_,ha⟩:=Jz g1 e1;obtain⟨kk',cap',ad',cc',hr',hv',hm',Fp,_,ha'⟩:=Jz g2 e2;split at jX
       ·rename_i s1 es s2 es' hb hb';obtain⟨hbb,hs2,hm0,aiI⟩:b≠b'/\s2≠0/\0<m/\0<m':=jX;have hov:(xJ #[t,t] #[tr] #[.slice ad m cc,.slice ad' m' cc']).run P w = .ok (.bool false) w:=by
         obtain⟨cs,tg,hw,hs⟩:=abQ h hb hr (by omega);obtain⟨cs',tg',hw',hs'⟩:=abQ h hb' hr' (by omega);have e1:=ha (.inl (by omega));have e2:=ha' (.inl (by omega));subst e1 e2;have hne:kk≠kk':=λhk=>hbb (by subst hk;exact h.bx.inj b b' kk (by rw[hb];exact⟨cap,hr,by omega⟩) (by rw[hb'];exact⟨cap',hr',by omega⟩))
         have h0:cs'.size≠0:=(by rw[hs'];exact Nat.mul_ne_zero (by omega) hs2);exact Lib.run_overlaps_apart w t tr e hte i.size (λw=>by simp[sizeOf,typeInfo,hi]) ⟨kk,lo*sz,none⟩ ⟨kk',lo'*sz',none⟩ m cc m' cc' hne tg tg' cs.size cs'.size
          (by simp[Bv,hw]) (by simp[Bv,hw']) h0 (by simp[World.frozen?,hw]) (by simp[World.frozen?,hw])
        have hr:=run_callFunc_extern (P:=P) hfn hname (by simpa using hbody) hn hd #[.slice ad m cc,.slice ad' m' cc'] w;rw[hov]at hr;refine pM.val h (v:=.bool false) ?_ (GY _);have hx2:a.eval (.func f) = .func (.func f) #[] #[]:=rfl;simp only[execOp,he,resolve,yV,invoke,gQ,fQ,dK,hx2,nV,bf,iD,hv,hv'];simpa using hr
       ·exact jX.elim
      ·exact jX.elim
     ·cases ht
    ·cases ht
   ·cases hp
  ·cases hf
 ·cases hc
end
end
section
section
variable {P:Program} {E:Env P} {I:IH} {ρ:Ren} {n:Nat} {st:iH} {a:Act} {w:World}
def Ue (P:Program)(n:Nat)(op:Op)(sz bytes:Nat)(zs:List Cell)(s x:pF):Bool:=
 match op with
 | .call { callee:=.builtin .append,args:=⟨[s',x']⟩,argTypes:=⟨[t,t']⟩ }=>kZ n s' s&&kZ n x' x&&decide (0<sz)&&zs.length==sz&&(match P.underlying t' with|some (.int _)=>true|_=>false)&&(match P.underlying t with
   |some (.slice e)=>(match P.info? e with|some i=>i.size==sz&&i.bytes==bytes&&(match i.zero with|some z=>z.cells.size==sz&&I4 z.cells.toList zs&&z.cells.toList.all (·.oneCell')|none=>false)|none=>false)
   |_=>false)
 |_=>false
theorem Rl (t u ty e:TypeId)(ku:IntKind)(i:TypeInfo)(z:Value)(ht:P.underlying t=some (.slice e))(hu:P.underlying u=some (.int ku))(hi:P.info? e=some i)(hz:i.zero=some z)
 (b:Option Addr) (sLen sCap:Nat) (olds:List Value) (hlo:olds.length=sLen*i.size) (hb0:b=none->sLen=0) (holds:∀ad,b=some ad->∀j v,olds[j]? = some v->w.cell? (ad.add j)=some v)
 (q:Nat) (hq:(q:Int)*i.bytes<=140737488355328) (h62:q<2^60) (hqp:0<q) (hs0:0<i.size)
 (hg:sCap<sLen+q) (h63:((sLen+q:Nat):Int)<=9223372036854775807) (hfit:Builtin.nextslicecap (sLen+q) sCap*i.bytes<=281474976710656) :
 (jJ #[t,u] ty #[.slice b sLen sCap,.int .i64 q]).run P w =
  .ok (.slice (some ⟨w.heap.size,0,none⟩) (sLen+q) (grownCap w (sLen+q) sCap e))
   (w.drew.alloc (.cells (olds.toArray++bK z.cells q++bK z.cells (grownCap w (sLen+q) sCap e-(sLen+q))) e)):=by
 have hn:¬(sLen+q<=sCap):=by omega
 have h63':¬(9223372036854775807<((sLen:Int)+(q:Int))):=by omega
 have h48':¬(281474976710656<Builtin.nextslicecap (sLen+q) sCap*i.bytes):=by omega
 have hw:ES.wrap (q:Int)=q:=by simp only[Go.IntKind.wrap,Go.IntKind.bits,Go.IntKind.signed];simp;omega
 have hq0:¬((q:Int)<0):=by omega
 have hqb:¬(281474976710656<(q:Int)*(i.bytes:Int)):=by omega
 have hfo:(uw i.size sLen (.slice b sLen sCap)).run P w.drew = .ok olds.toArray w.drew:=by
  cases b with
  | none=>have h0:=hb0 rfl;subst h0;have:olds=[]:=dD (by simpa using hlo);subst this;simp[uw]
  |some ad=>exact run_firstCells_some (P:=P) w.drew i.size sLen ad sLen sCap olds hlo (by simpa using holds ad rfl)
 have hq1:¬(q*i.size=0):=by intro h0;rcases Nat.mul_eq_zero.1 h0 with h|h<;>omega
 simp[jJ,run_underlying ht,run_underlying hu,sizeOf,typeInfo,zeroValue,hi,hz,asInt,asIntOf,hw,hq0,hqb,hq1,hn,h63',h48',Question.forced,hfo,newRow,grownCap]
theorem abR (h:GX E I ρ n st a w){b kk cap sz lo m:Nat}{es:List (List Cell)}(hb:st.bx b = .dat sz es)(hr0:ρ b=some (kk,cap))(hc:lo+m<=cap)(hc0:cap≠0)(hl:lo+m<=es.length) :
 ∃ olds:List Value,olds.length=m*sz/\(∀(j:Nat) (u:Value),olds[j]? = some u->w.cell? ((⟨kk,lo*sz,none⟩:Addr).add j)=some u)/\DC I olds sz ((es.drop lo).take m) /\
   (∀y,y∈(es.drop lo).take m->y.length=sz)/\((es.drop lo).take m).length=m:=by
 have hok:=h.bx.ok b;rw[hb]at hok;obtain⟨kk',cap',hr',hle,hcm,hes,hcs⟩:=hok;rw[hr0]at hr';simp only[aH,aJ]at hr';obtain⟨rfl,rfl⟩:=hr';obtain⟨cs,tg,hw,hss,ho,hrd⟩:=hcs hc0;have hmn:(lo+m)*sz<=cs.size:=by rw[hss];exact bG _ hc
 rw[eG]at hmn;have hsl:((es.drop lo).take m).length=m:=by simp;omega
 refine⟨(cs.toList.drop (lo*sz)).take (m*sz),by simp;omega,λj u hu=>?_,⟨λj u hu=>?_,λi' j c2 hc2=>?_⟩,λy hy=>hes y (mX (dS hy)),hsl⟩
 ·rw[bQ]at hu;split at hu
  ·rw[Addr.zY];rw[jl]at hu;simp at hu;simp[o7,hw,hu]
  ·cases hu
 ·rw[bQ]at hu;split at hu
  ·rw[jl]at hu;exact ho _ u (by simpa using hu)
  ·cases hu
 ·have hi':=mF hc2;rw[hsl]at hi';have hc3:(es.getD (lo+i') [])[j]? = some c2:=by
   rw[<- hc2];congr 1;simp only[bu];rw[bQ,if_pos hi',jl]
  obtain⟨u,hu,hr⟩:=hrd (lo+i') j c2 hc3;have hi2:=mF hc3;have hj:j<sz:=by rw[<- hes (es.getD (lo+i') []) (by simp[bu,aF hi2])];exact(bD.1 hc3).1
  have:(i'+1)*sz<=m*sz:=bG _ hi';rw[eG]at this;refine⟨u,?_,hr⟩;rw[bQ,if_pos (by omega),jl];rw[eG]at hu;rw[<- vw];simpa using hu
theorem ZK {o:Oper}{l sz bytes:Nat}{zs:List Cell}{s x:pF}(h:GX E I ρ n st a w)(hc:Ue P n o.op sz bytes zs s x=true)(hm:E.m<=l)(hs:(s.ev st.tm).g=true)(hx:(x.ev st.tm).g=true)
 (jX:(FU l sz bytes zs (fA st.tm s) (fA st.tm x) st.bx).vc):pM P E n o a w (st.um (FU l sz bytes zs (fA st.tm s) (fA st.tm x) st.bx).sets) (FU l sz bytes zs (fA st.tm s) (fA st.tm x) st.bx).v:=by
 unfold Ue at hc;split at hc
 ·rename_i s' x' t t' he;simp only[ai,beq_iff_eq,decide_eq_true_eq]at hc;obtain⟨⟨⟨⟨⟨c1,c2⟩,h0⟩,hzl⟩,hti⟩,ht⟩:=hc;have g1:=ou h c1 hs;have g2:=ou h c2 hx;split at hti
  ·rename_i ku htu;split at ht
   ·rename_i e hte;split at ht
    ·rename_i i hi;simp only[ai,beq_iff_eq]at ht;obtain⟨⟨rfl,rfl⟩,hz⟩:=ht;split at hz
     ·rename_i z hzero;simp only[ai,beq_iff_eq]at hz;obtain⟨⟨hzs,hzd⟩,hz1⟩:=hz;have fin:∀{v:Value} {w':World},(jJ #[t,t'] o.type #[a.eval s',a.eval x']).run P w = .ok v w'->(execOp a.eval o).run P w = .ok (.value v) w':=by
       intro v w' hr;simp only[execOp,he,resolve,invoke,builtin,gQ,fQ,dK,nV,bf,iD,hr]
      have hzc:∀(q:Nat) (j:Nat) (u:Value),(bK z.cells q).toList[j]? = some u->u.oneCell'=true:=by intro q j u hu;exact(O0 (I:=I) (m:=q) hzd hzs hzl h0).2.one j u hu
      have fresh:∀(old m q:Nat) (olds:List Value) (es':List (List Cell)),st.bx l = .absent->old<m+q->olds.length=m*i.size->es'.length=m->(∀y,y∈es'->y.length=i.size)->DC I olds i.size es'->m+q<=maxLen ->
       GX E I (ρ.set l w.heap.size (grownCap w (m+q) old e)) n (st.yF l (.dat i.size (es'++dh q zs))) a
        (w.drew.alloc (.cells (olds.toArray++bK z.cells q++bK z.cells (grownCap w (m+q) old e-(m+q))) e)):=by
       intro old m q olds es' hl' ho hol hel hes' hdo h63;have hge:=grownCap_ge w (m+q) old e;have hcm:grownCap w (m+q) old e<=maxLen:=grownCap_le_maxLen w _ old e h63;obtain⟨af7,aeK⟩:=O0 (I:=I) (m:=q) hzd hzs hzl h0;have hdc:=((hdo.append aeK (by rw[hel];exact hol)).more (hzc (grownCap w (m+q) old e-(m+q)))).Zk (cs:=olds.toArray++bK z.cells q++bK z.cells (grownCap w (m+q) old e-(m+q))) (by simp);refine J8 h.drew hl' hm _ e _ i.size (es'++dh q zs) ?_ (by rw[au,hel,l7];exact hge) hcm (λx hx=>?_) hdc.1 hdc.2
       ·simp only[Af,lV,size_zeroCells,hzs,hol,<- eG]
        congr 1
        omega
       ·rcases aV.1 hx with h1|h1
        ·exact hes' x h1
        ·rw[uU h1,hzl]
      have arith:∀(m q:Nat),(m+q)*(i.bytes+i.size+1)<=2^46->(m+q)*i.bytes<=140737488355328/\q*i.bytes<=140737488355328/\m+q<=2^46:=by intro m q hbig;have e1:(m+q)*(i.bytes+i.size+1)=(m+q)*i.bytes+(m+q)*i.size+(m+q):=(by rw[yZ,yZ,wB]);have e2:q*i.bytes<=(m+q)*i.bytes:=bG _ (by omega);omega
      have hml:2^46<=maxLen:=(by decide);unfold FU at jX⊢;split at jX
      ·rename_i b lo m c sz' k q e1 e2;split at jX
       ·rename_i Cb es hb;obtain⟨rfl,rfl,rfl,hlo,hq,hroom,hl,hbig⟩:=jX;obtain⟨kk,cap,ad0,c',hr0,hsv,hnc,hcc,hcx,hcap⟩:=Jz (c:=some c) (b:=b) (lo:=lo) (m:=m) (sz:=i.size) g1 (by rw[e1];rfl);have:=hcx c rfl;subst this;have hxv:a.eval x' = .int .i64 q:=(by exact yc (by rw[e2]at g2;exact g2));obtain⟨qn,rfl⟩:∃qn:Nat,q=qn:=⟨q.toNat,by omega⟩;simp only[ah]at hroom hbig⊢;obtain⟨a1,a2,a3⟩:=arith m qn hbig;have hl':=HY hl;have hfit:=growslice_fits (need:=m+qn) (old:=c') (bytes:=i.bytes) (by omega) a1;by_cases hc0:c'=0
        ·have af5:m=0:=(by omega);subst af5;subst hc0;have hf:=fresh 0 0 qn [] [] hl' (by omega) (by simp) rfl (by simp) ⟨by simp,by simp⟩ (by omega);have hr:=Rl (P:=P) (w:=w) t t' o.type e ku i z hte htu hi hzero ad0 0 0 [] (by simp) (λ_=>rfl) (by simp) qn (by rw[<- EI];exact F8.2 a2) (by omega) (by omega) h0 (by omega) (by omega) hfit;rw[<- hxv,<- hsv]at hr;simp only[sD];exact⟨_,_,I,_,.inl (fin hr),hf,λ_=>⟨w.heap.size,_,_,_,Ren.oD _ _ _ _,rfl,grownCap_ge w _ _ e,ax _,λ_=>rfl⟩⟩
        ·have Le:=hcap (.inl hc0);subst Le;obtain⟨olds,ho1,ho2,ho3,ho4,ho5⟩:=abR h hb hr0 (by omega) (by omega) hlo;have hf:=fresh c' m qn olds _ hl' (by omega) ho1 ho5 ho4 ho3 (by omega);have hr:=Rl (P:=P) (w:=w) t t' o.type e ku i z hte htu hi hzero (some ⟨kk,lo*i.size,none⟩) m c' olds ho1 (by simp) (λad had j u hu=>by cases had;exact ho2 j u hu) qn (by rw[<- EI];exact F8.2 a2) (by omega) (by omega) h0 (by omega) (by omega) hfit;rw[<- hxv,<- hsv]at hr;exact⟨_,_,I,_,.inl (fin hr),hf,λ_=>⟨w.heap.size,_,_,_,Ren.oD _ _ _ _,rfl,grownCap_ge w _ _ e,ax _,λ_=>rfl⟩⟩
       ·exact jX.elim
      ·rename_i sz' k q e1 e2;obtain⟨rfl,hq,hl,hbig⟩:=jX;have hsv:a.eval s' = .slice none 0 0:=(by rw[e1]at g1;exact g1);have hxv:a.eval x' = .int .i64 q:=(by exact yc (by rw[e2]at g2;exact g2));obtain⟨qn,rfl⟩:∃qn:Nat,q=qn:=⟨q.toNat,by omega⟩;simp only[ah]at hbig⊢;obtain⟨a1,a2,a3⟩:=arith 0 qn (by simpa using hbig);simp only[iI]at a1 a3;have hl':=HY hl;have hfit:=growslice_fits (need:=0+qn) (old:=0) (bytes:=i.bytes) (by omega) (by simpa using a1);have hf:=fresh 0 0 qn [] [] hl' (by omega) (by simp) rfl (by simp) ⟨by simp,by simp⟩ (by omega);have hr:=Rl (P:=P) (w:=w) t t' o.type e ku i z hte htu hi hzero none 0 0 [] (by simp) (λ_=>rfl) (by simp) qn (by rw[<- EI];exact F8.2 a2) (by omega) (by omega) h0 (by omega) (by omega) hfit;rw[<- hxv,<- hsv]at hr;simp only[dN]at hf;exact⟨_,_,I,_,.inl (fin hr),hf,λ_=>⟨w.heap.size,_,_,_,Ren.oD _ _ _ _,by rw[iI],by have:=grownCap_ge w (0+qn) 0 e;omega,ax _,λ_=>rfl⟩⟩
      ·exact jX.elim
     ·cases hz
    ·cases ht
   ·cases ht
  ·cases hti
 ·cases hc
end
end
section
def Py (P:Program)(n m:Nat)(op:Op)(d:Option Nat):nM->Bool
 |.mv x=>abL n op x
 |.pick c a b=>Us n op c a b
 |.load agg k p=>Un P n op agg k p
 |.store agg k p x=>Qx P n op agg k p x&&d.isNone
 |.alloc l zs=>Qk P op zs&&decide (m<=l)
 |.FO T _ l r=>Oh P op T&&decide (m<=l)&&decide (m<=r)
 |.KT l sz c zs=>Og P op sz c zs&&decide (m<=l)
 |.box l x=>XM n op x&&decide (m<=l)
 |.build zs ps=>Ql P n op zs ps
 |.jK l sz c zs ps=>Oj P n op sz c zs ps&&decide (m<=l)
 |.makes l sz bytes zs x y=>Qr P n op sz bytes zs x y&&decide (m<=l)
 |.bin o x y=>XL n op o x y
 |.beq ng x y=>XK P n op ng x y
 |.not x=>XR n op x
 |.neg x=>XQ n op x
 |.Gv k x=>Ug P n op k x
 |.Qy x=>Ui P n op x
 |.same x=>Ut P n op x
 |.UO f cs=>Uo n op f cs
 |.Cm x lo hi=>Qw P n op x lo hi
 |.FD sz x lo hi=>Uw P n op sz x lo hi
 |.Rw sz c x=>Qv P n op sz c x
 |.Fq x=>Qs n op x
 |.kJ off x=>Qm P n op off x
 |.field agg off k x=>Qn P n op agg off k x
 |.wJ sz x i=>Qp P n op sz x i
 |.QT sz c x i=>Ol P n op sz c x i
 |.idxs x i=>Uk P n op x i
 |.extract x i=>La n op x i
 |.len x=>XP P n op x
 |.lens x=>Um P n op x
 |.max x y=>Ti true n op x y
 |.min x y=>Ti false n op x y
 |.append l sz bytes s x=>Gm P n op sz bytes s x&&decide (m<=l)
 |.copy sz x y=>J3 P n op sz x y
 |.shf l x y=>XU n op l x y
 |.ZQ x=>Uf P n op x
 |.zH sz x lo hi=>Om P n op sz x lo hi
 |.sl3 sz x p q m=>XV P n op sz x p q m
 |.WV l sz bytes s x=>Gm P n op sz bytes s x&&decide (m<=l)
 |.Ro sz x y=>J3 P n op sz x y
 |.Yu sz zs x=>Uu P n op sz zs x
 |.Xx l sz bytes zs s x=>Ue P n op sz bytes zs s x&&decide (m<=l)
 |.ZU x y=>Uh P n op x y
 |.Tu ng x=>Qq P n op ng x
 |.ovl x y=>XT P n op x y
 |.aaj x y=>Uj P n op x y
 |.stop=>true
section
variable {P:Program} {E:Env P} {I:IH} {ρ:Ren} {n:Nat} {st:iH} {a:Act} {w:World}
theorem EZ {x:Box}(h:match x with|.absent=>True|_=>False):Dv x:=by cases x<;>first|trivial|exact h.elim
theorem ac0 (h:GX E I ρ n st a w){o:Oper}{ao:nM}(hc:Py P n E.m o.op o.dst ao=true)(hv:ao.valid (pF.ev st.tm))(jX:(ao.f (fA st.tm) st.bx).vc) :
 pM P E n o a w (st.um (ao.f (fA st.tm) st.bx).sets) (ao.f (fA st.tm) st.bx).v:=by
 cases ao with
 |mv x=>exact aeR h hc (hv x (by simp[nM.pz]))
 | pick c x y=>
   simp only[nM.f]at jX⊢;obtain⟨hg,hxy⟩:=hv;split at jX
   ·rename_i t ht;have ht':((pF.ev st.tm c).x)=yx t:=ht;rw[ht']at hxy;exact aaI h hc hg ht hxy.1 hxy.2
   ·exact jX.elim
 | load agg k p=> 
   have hs:(Ak agg k (fA st.tm p) st.bx).sets=[]:=by
    unfold Ak at *;simp only[nM.f]at jX;unfold Ak at jX;split at jX
    ·split at jX
     ·split at jX
      ·rename_i hA;rw[if_pos hA]
      ·rename_i hA;rw[if_neg hA];split at jX
       ·rfl
       ·exact jX.elim
     ·exact jX.elim
    ·split at jX
     ·split at jX
      ·rename_i hA;rw[if_pos hA]
      ·rename_i hA;rw[if_neg hA]
     ·exact jX.elim
    ·split at jX
     ·rename_i hA;rw[if_pos hA]
     ·rename_i hA;rw[if_neg hA]
    ·exact jX.elim
   have:=aar (P:=P) h hc (hv p (by simp[nM.pz])) jX;simp only[nM.f,hs];exact this
 | store agg k p x=>simp only[Py,ai,Option.isNone_iff_eq_none]at hc;exact YD h hc.1 hc.2 (hv p (by simp[nM.pz])) (hv x (by simp[nM.pz])) jX
 | alloc l zs=>simp only[Py,ai,decide_eq_true_eq]at hc;exact Xw h hc.1 hc.2 (EZ jX)
 | FO T e l r=>simp only[Py,ai,decide_eq_true_eq]at hc;exact VA h hc.1.1 hc.1.2 hc.2 (EZ jX.1) (EZ jX.2.1) jX.2.2
 | KT l sz c zs=>simp only[Py,ai,decide_eq_true_eq]at hc;exact Vz h hc.1 hc.2 (EZ jX)
 | box l x=>simp only[Py,ai,decide_eq_true_eq]at hc;exact abI h hc.1 (hv x (by simp[nM.pz])) hc.2 (EZ jX.1) jX.2
 |build zs ps=>exact XE h hc (λp hp=>hv p.2.2 (by simp only[nM.pz,pI];exact⟨p,hp,rfl⟩)) jX
 | jK l sz c zs ps=>
   simp only[Py,ai,decide_eq_true_eq]at hc;simp only[nM.f]at jX⊢;split at jX
   ·rename_i l' hl';rw[Ru];exact VK h hc.1 (λp hp=>hv p.2 (by simp only[nM.pz,pI];exact⟨p,hp,rfl⟩)) hc.2 (EZ jX.1) hl' jX.2.1 jX.2.2
   ·exact jX.elim
 | makes l sz bytes zs x y=>
   simp only[Py,ai,decide_eq_true_eq]at hc;simp only[nM.f]at jX⊢;split at jX
   ·rename_i k p k' q e1 e2;obtain⟨v1,v2,v3,v4,v5⟩:=jX;exact Yi h hc.1 (hv x (by simp[nM.pz])) (hv y (by simp[nM.pz])) e1 e2 hc.2 (EZ v1) v2 v3 v4 v5
   ·exact jX.elim
 | bin b x y=>
   have hs:(Pv b (fA st.tm x) (fA st.tm y)).sets=[]:=by
    unfold Pv;split
    ·rfl
    ·unfold D8;cases b<;>rfl
    ·rfl
   have:=abH (P:=P) h hc (hv x (by simp[nM.pz])) (hv y (by simp[nM.pz])) jX;simp only[nM.f,hs];exact this
 | beq ng x y=>have hs:(VH ng (fA st.tm x) (fA st.tm y)).sets=[]:=(by unfold VH;split<;>rfl);have:=abG (P:=P) h hc (hv x (by simp[nM.pz])) (hv y (by simp[nM.pz])) jX;simp only[nM.f,hs];exact this
 | not x=>
   simp only[nM.f]at jX⊢;split at jX
   ·rename_i b hb;exact acV h hc (hv x (by simp[nM.pz])) hb
   ·exact jX.elim
 | neg x=>
   simp only[nM.f]at jX⊢;split at jX
   ·rename_i k m hb;exact acS h hc (hv x (by simp[nM.pz])) hb
   ·exact jX.elim
 | Gv k x=>
   simp only[nM.f]at jX⊢;split at jX
   ·rename_i j m hb;exact ZT h hc (hv x (by simp[nM.pz])) hb
   ·exact jX.elim
 | Qy x=>
   simp only[nM.f]at jX⊢;split at jX
   ·rename_i p es hs;split at jX
    ·rename_i l hl;exact ZY h hc (hv x (by simp[nM.pz])) hs jX.1 hl jX.2
    ·exact jX.elim
   ·exact jX.elim
 | same x=>
   simp only[nM.f]at jX⊢;split at jX
   ·rename_i l hb;exact aaQ h hc (hv x (by simp[nM.pz])) hb
   ·exact jX.elim
 | UO f cs=>
   simp only[nM.f]at jX⊢;split at jX
   ·rename_i l hl;exact aaC h hc (λx hx=>hv x hx) hl
   ·exact jX.elim
 | Cm x lo hi=>
   simp only[nM.f]at jX⊢;split at jX
   ·rename_i s e1;split at jX
    ·rename_i p q e2 e3;exact Yy h hc (hv x (by simp[nM.pz])) (λy hy=>hv y (by simp only[nM.pz];simp at hy;simp[hy])) (λy hy=>hv y (by simp only[nM.pz];simp at hy;simp[hy])) e1 e2 e3 jX.1 jX.2.1 jX.2.2
    ·exact jX.elim
   ·exact jX.elim
 | FD sz x lo hi=>
   have hs:(TF sz (fA st.tm x) (bnd (fA st.tm) lo 0) (bnd (fA st.tm) hi)).sets=[]:=by
    unfold TF;split
    ·split<;>rfl
    ·split<;>rfl
    ·split<;>rfl
    ·rfl
   have:=aaW (P:=P) h hc (hv x (by simp[nM.pz])) (λy hy=>hv y (by simp only[nM.pz];simp at hy;simp[hy])) (λy hy=>hv y (by simp only[nM.pz];simp at hy;simp[hy])) jX;have e:((nM.FD sz x lo hi).f (fA st.tm) st.bx)=TF sz (fA st.tm x) (bnd (fA st.tm) lo 0) (bnd (fA st.tm) hi):=rfl;rw[e,hs];exact this
 | Rw sz c x=>
   simp only[nM.f]at jX⊢;split at jX
   ·rename_i b sz' e1;split at jX
    ·rename_i Cb es e2;obtain⟨rfl,rfl,h3,h4⟩:=jX;exact Yx h hc (hv x (by simp[nM.pz])) e1 e2 h3
    ·exact jX.elim
   ·exact jX.elim
 | Fq x=>have hs:(OI (fA st.tm x)).sets=[]:=(by unfold OI;split<;>rfl);have:=Yk (P:=P) h hc (hv x (by simp[nM.pz])) jX;have e:((nM.Fq x).f (fA st.tm) st.bx)=OI (fA st.tm x):=rfl;rw[e,hs];exact this
 | kJ off x=>have hs:(Jw off (fA st.tm x)).sets=[]:=(by unfold Jw;split<;>rfl);have:=XZ (P:=P) h hc (hv x (by simp[nM.pz])) jX;have e:((nM.kJ off x).f (fA st.tm) st.bx)=Jw off (fA st.tm x):=rfl;rw[e,hs];exact this
 | field agg off k x=>
   have hs:(Ot agg off k (fA st.tm x)).sets=[]:=by
    unfold Ot;split
    ·split
     ·rfl
     ·split<;>rfl
    ·rfl
   have:=X0 (P:=P) h hc (hv x (by simp[nM.pz])) jX;have e:((nM.field agg off k x).f (fA st.tm) st.bx)=Ot agg off k (fA st.tm x):=rfl;rw[e,hs];exact this
 | wJ sz x i=>have hs:(Oz sz (fA st.tm x) (fA st.tm i)).sets=[]:=(by unfold Oz;split<;>rfl);have:=Ya (P:=P) h hc (hv x (by simp[nM.pz])) (hv i (by simp[nM.pz])) jX;have e:((nM.wJ sz x i).f (fA st.tm) st.bx)=Oz sz (fA st.tm x) (fA st.tm i):=rfl;rw[e,hs];exact this
 | QT sz c x i=>
   simp only[nM.f]at jX⊢;split at jX
   ·rename_i b sz' k m e1 e2;obtain⟨rfl,h1,h2⟩:=jX;exact Wp h hc (hv x (by simp[nM.pz])) (hv i (by simp[nM.pz])) e1 e2 h1 h2
   ·exact jX.elim
 | idxs x i=>
   simp only[nM.f]at jX⊢;split at jX
   ·rename_i s k m e1 e2;exact aal h hc (hv x (by simp[nM.pz])) (hv i (by simp[nM.pz])) e1 e2 jX.1 jX.2
   ·exact jX.elim
 | extract x i=>
   have hs:(Ib (fA st.tm x) i).sets=[]:=by
    unfold Ib;split
    ·split<;>rfl
    ·rfl
   have:=Uy (P:=P) h hc (hv x (by simp[nM.pz])) jX;have e:((nM.extract x i).f (fA st.tm) st.bx)=Ib (fA st.tm x) i:=rfl;rw[e,hs];exact this
 | len x=>have hs:(lenV (fA st.tm x)).sets=[]:=(by unfold lenV;split<;>rfl);have:=acE (P:=P) h hc (hv x (by simp[nM.pz])) jX;have e:((nM.len x).f (fA st.tm) st.bx)=lenV (fA st.tm x):=rfl;rw[e,hs];exact this
 | lens x=>
   simp only[nM.f]at jX⊢;split at jX
   ·rename_i s e1;exact aao h hc (hv x (by simp[nM.pz])) e1
   ·exact jX.elim
 | max x y=>
   simp only[nM.f]at jX⊢;split at jX
   ·rename_i k p k' q e1 e2;have jX:k=k':=jX;subst jX;exact acP h hc (hv x (by simp[nM.pz])) (hv y (by simp[nM.pz])) e1 e2
   ·exact jX.elim
 | min x y=>
   simp only[nM.f]at jX⊢;split at jX
   ·rename_i k p k' q e1 e2;have jX:k=k':=jX;subst jX;exact acQ h hc (hv x (by simp[nM.pz])) (hv y (by simp[nM.pz])) e1 e2
   ·exact jX.elim
 | append l sz bytes s x=>simp only[Py,ai,decide_eq_true_eq]at hc;exact VC h hc.1 hc.2 (hv s (by simp[nM.pz])) (hv x (by simp[nM.pz])) jX
 |copy sz d x=>exact ZX h hc (hv d (by simp[nM.pz])) (hv x (by simp[nM.pz])) jX
 | shf l x y=>have hs:(Vb l (fA st.tm x) (fA st.tm y)).sets=[]:=(by unfold Vb;(repeat' split)<;>rfl);have:=adl (P:=P) h hc (hv x (by simp[nM.pz])) (hv y (by simp[nM.pz])) jX;have e:((nM.shf l x y).f (fA st.tm) st.bx)=Vb l (fA st.tm x) (fA st.tm y):=rfl;rw[e,hs];exact this
 | ZQ x=>have hs:(Su (fA st.tm x)).sets=[]:=(by unfold Su;(repeat' split)<;>rfl);have:=ZR (P:=P) h hc (hv x (by simp[nM.pz])) jX;have e:((nM.ZQ x).f (fA st.tm) st.bx)=Su (fA st.tm x):=rfl;rw[e,hs];exact this
 | zH sz x lo hi=>have hs:(zU sz (fA st.tm x) (bnd (fA st.tm) lo 0) (bnd (fA st.tm) hi)).sets=[]:=(by unfold zU;(repeat' split)<;>rfl);have:=WX (P:=P) h hc (hv x (by simp[nM.pz])) (λy hy=>hv y (by simp only[nM.pz,cu,aV];exact .inr (.inl hy))) (λy hy=>hv y (by simp only[nM.pz,cu,aV];exact .inr (.inr hy))) jX;have e:((nM.zH sz x lo hi).f (fA st.tm) st.bx)=zU sz (fA st.tm x) (bnd (fA st.tm) lo 0) (bnd (fA st.tm) hi):=rfl;rw[e,hs];exact this
 | sl3 sz x p q m=>have hs:(JP sz (fA st.tm x) (fA st.tm p) (fA st.tm q) (fA st.tm m)).sets=[]:=(by unfold JP;(repeat' split)<;>rfl);have:=adm (P:=P) h hc (hv x (by simp[nM.pz])) (hv p (by simp[nM.pz])) (hv q (by simp[nM.pz])) (hv m (by simp[nM.pz])) jX;have e:((nM.sl3 sz x p q m).f (fA st.tm) st.bx)=JP sz (fA st.tm x) (fA st.tm p) (fA st.tm q) (fA st.tm m):=rfl;rw[e,hs];exact this
 | WV l sz bytes s x=>simp only[Py,ai,decide_eq_true_eq]at hc;exact aaR h hc.1 hc.2 (hv s (by simp[nM.pz])) (hv x (by simp[nM.pz])) jX
 | Xx l sz bytes zs s x=>simp only[Py,ai,decide_eq_true_eq]at hc;exact ZK h hc.1 hc.2 (hv s (by simp[nM.pz])) (hv x (by simp[nM.pz])) jX
 |Ro sz d x=>exact aaT h hc (hv d (by simp[nM.pz])) (hv x (by simp[nM.pz])) jX
 |Yu sz zs x=>exact aaS h hc (hv x (by simp[nM.pz])) jX
 |stop=>exact jX.elim
 | Tu ng x=>have hs:(IE ng (fA st.tm x)).sets=[]:=(by unfold IE;split<;>rfl);have:=Yd (P:=P) h hc (hv x (by simp[nM.pz])) jX;have e:((nM.Tu ng x).f (fA st.tm) st.bx)=IE ng (fA st.tm x):=rfl;rw[e,hs];exact this
 | ZU x y=>have hs:(MH (fA st.tm x) (fA st.tm y)).sets=[]:=(by unfold MH;(repeat' split)<;>rfl);have:=ZV (P:=P) h hc (hv x (by simp[nM.pz])) (hv y (by simp[nM.pz])) jX;have e:((nM.ZU x y).f (fA st.tm) st.bx)=MH (fA st.tm x) (fA st.tm y):=rfl;rw[e,hs];exact this
 | aaj x y=>have hs:(Na (fA st.tm x) (fA st.tm y)).sets=[]:=(by unfold Na;(repeat' split)<;>rfl);have:=aak (P:=P) h hc (hv x (by simp[nM.pz])) (hv y (by simp[nM.pz])) jX;have e:((nM.aaj x y).f (fA st.tm) st.bx)=Na (fA st.tm x) (fA st.tm y):=rfl;rw[e,hs];exact this
 | ovl x y=>have hs:(UW (fA st.tm x) (fA st.tm y) st.bx).sets=[]:=(by unfold UW;(repeat' split)<;>rfl);have:=ac1 (P:=P) h hc (hv x (by simp[nM.pz])) (hv y (by simp[nM.pz])) jX;have e:((nM.ovl x y).f (fA st.tm) st.bx)=UW (fA st.tm x) (fA st.tm y) st.bx:=rfl;rw[e,hs];exact this
end
end
section
section
variable {P:Program} {E:Env P} {I:IH} {ρ:Ren} {n:Nat} {st:iH} {a:Act} {w:World}
def AK (E:Env P)(n:Nat)(K:iH->Prop):Act->World->Prop:=λa w=>∃I ρ st,K st/\GX E I ρ n st a w
theorem afm (h:GX E I ρ n st a w){bs:List Nat}{v:Value}{x y:AC}(hx:GC I ρ v x)(hc:Cv st.bx x y)(hb:∀b,b∈pO [x]->b∈bs):GC (Dl I ρ w st.bx bs) ρ v y:=by
 have hle:=Gh (st:=st) h.bx bs;cases hc with
 |refl=>exact hx.mono hle (Ren.le_refl ρ)
 | jI sz=>simp only[GC]at hx;subst hx;exact Rd.sl none 0 0 _ [] (λ_ _=>undef) rfl (ax _) (by simp[maxLen]) (by simp) (by simp) (by intro ad h;cases h) (by simp)
 |own b m sz es harr hm=>exact UL h (hb b (by simp[pO])) harr hm hx
theorem Eg {x:AC}{xs:List AC}{b:Nat} : b∈pO (x::xs)<->b∈pO [x]\/b∈pO xs:=by cases x<;>simp[pO]
theorem aew (h:GX E I ρ n st a w){bs:List Nat}{vs:List Value}{xs ys:List AC}(hx:JW I ρ vs xs)(hc:CvL st.bx xs ys)(hb:∀b,b∈pO xs->b∈bs):JW (Dl I ρ w st.bx bs) ρ vs ys:=by
 induction hc generalizing vs with
 |nil=>exact⟨hx.1,λj v x hv hx=>by simp at hx⟩
 | cons hxy ht ih=>
   rename_i x y xs ys;cases vs with
   |nil=>have:=hx.1;simp at this
   | cons v vs=>
     have i1:=ih (vs:=vs) ⟨by simpa using hx.1,λj u z hu hz=>hx.2 (j+1) u z (by simpa using hu) (by simpa using hz)⟩ (λb hb'=>hb b (Eg.2 (.inr hb')));have i0:=afm h (hx.2 0 v x rfl rfl) hxy (λb hb'=>hb b (Eg.2 (.inl hb')));refine⟨by simp[i1.1],λj u z hu hz=>?_⟩;cases j with
     |zero=>simp at hu hz;subst hu;subst hz;exact i0
     |succ j=>exact i1.2 j u z (by simpa using hu) (by simpa using hz)
theorem afQ (h:GX E I ρ n st a w){bs:List Nat}{v:Value}{x y:AV}(hx:GV I ρ v x)(hc:CvA st.bx x y)(hb:∀b,b∈x.owns->b∈bs):GV (Dl I ρ w st.bx bs) ρ v y:=by
 cases hc with
 |one hxy=>exact afm h hx hxy hb
 |agg hxy=>obtain⟨cs,rfl,hg⟩:=hx;exact⟨cs,rfl,aew h hg hxy hb⟩
theorem QA (h:GX E I ρ n st a w){bs:List Nat}{vs:List Value}{xs ys:List AV}(hx:Xq I ρ vs xs)(hc:KP st.bx xs ys)(hb:∀b,b∈xs.flatMap AV.owns->b∈bs):Xq (Dl I ρ w st.bx bs) ρ vs ys:=by
 induction hc generalizing vs with
 |nil=>exact⟨hx.1,λj v x hv hx=>by simp at hx⟩
 | cons hxy ht ih=>
   rename_i x y xs ys;cases vs with
   |nil=>have:=hx.1;simp at this
   | cons v vs=>
     have i1:=ih (vs:=vs) ⟨by simpa using hx.1,λj u z hu hz=>hx.2 (j+1) u z (by simpa using hu) (by simpa using hz)⟩ (λb hb'=>hb b (by rw[bz];exact kK _ hb'));have i0:=afQ h (hx.2 0 v x rfl rfl) hxy (λb hb'=>hb b (by rw[bz];exact mW _ hb'));refine⟨by simp[i1.1],λj u z hu hz=>?_⟩;cases j with
     |zero=>simp at hu hz;subst hu;subst hz;exact i0
     |succ j=>exact i1.2 j u z (by simpa using hu) (by simpa using hz)
theorem X6 {I J:IH}{ρ σ:Ren}{v:Value}{x:AC}(h:GC I ρ v x)(hl:x.isLit=true):GC J σ v x:=by
 cases x with
 | c y=>
   cases y with
   |lit u=>cases h with|lit v hv=>exact Rd.lit _ hv
   |str l=>cases h with|str l hl=>exact Rd.str _ hl
   |sl sz es=>cases hl
 |_=>cases hl
theorem YY {I J:IH}{ρ σ:Ren}{vs:List Value}{xs:List AC}(h:JW I ρ vs xs)(hl:xs.all AC.isLit=true):JW J σ vs xs:=
 ⟨h.1,λj v x hv hx=>X6 (h.2 j v x hv hx) (aZ.1 hl x (iV hx))⟩
theorem afW {I J:IH}{ρ σ:Ren}{v:Value}{x:AV}(h:GV I ρ v x)(hl:x.all AC.isLit=true):GV J σ v x:=by
 cases x with
 |one x=>exact X6 h hl
 |agg xs=>obtain⟨cs,rfl,hg⟩:=h;exact⟨cs,rfl,YY hg hl⟩
 | xg ps=>
   obtain⟨vs,rfl,hs,hp⟩:=h;refine⟨vs,rfl,hs,λj v p hv hq=>?_⟩;have h1:=hp j v p hv hq;have h2:=aZ.1 hl p (iV hq);unfold GP at h1⊢;split at h1
   ·rename_i hb;rw[if_pos hb];obtain⟨cs,rfl,hg⟩:=h1;exact⟨cs,rfl,YY hg h2⟩
   ·rename_i hb;rw[if_neg hb];obtain⟨x,hx,hg⟩:=h1;rw[hx]at h2;exact⟨x,hx,X6 hg (by simpa using h2)⟩
theorem UE {I:IH}{ρ σ:Ren}{v:Value}{x:AC}(h:GC I ρ v x)(hl:x.yf=true):GC I σ v x:=by
 cases x with
 |c y=>exact h
 |err g=>exact h
 |_=>cases hl
theorem V9 {I:IH}{ρ σ:Ren}{vs:List Value}{xs:List AC}(h:JW I ρ vs xs)(hl:xs.all AC.yf=true):JW I σ vs xs:=
 ⟨h.1,λj v x hv hx=>UE (h.2 j v x hv hx) (aZ.1 hl x (iV hx))⟩
theorem Y1 {I:IH}{ρ σ:Ren}{v:Value}{x:AV}(h:GV I ρ v x)(hl:x.all AC.yf=true):GV I σ v x:=by
 cases x with
 |one x=>exact UE h hl
 |agg xs=>obtain⟨cs,rfl,hg⟩:=h;exact⟨cs,rfl,V9 hg hl⟩
 | xg ps=>
   obtain⟨vs,rfl,hs,hp⟩:=h;refine⟨vs,rfl,hs,λj v p hv hq=>?_⟩;have h1:=hp j v p hv hq;have h2:=aZ.1 hl p (iV hq);unfold GP at h1⊢;split at h1
   ·rename_i hb;rw[if_pos hb];obtain⟨cs,rfl,hg⟩:=h1;exact⟨cs,rfl,V9 hg h2⟩
   ·rename_i hb;rw[if_neg hb];obtain⟨x,hx,hg⟩:=h1;rw[hx]at h2;exact⟨x,hx,UE hg (by simpa using h2)⟩
theorem We {I:IH}{ρ σ:Ren}{vs:List Value}{xs:List AV}(h:Xq I ρ vs xs)(hl:xs.all (·.all AC.yf)=true):Xq I σ vs xs:=
 ⟨h.1,λj v x hv hx=>Y1 (h.2 j v x hv hx) (aZ.1 hl x (iV hx))⟩
theorem Ua (b:Nat):Ew [] b = .absent:=by simp[Ew]
theorem Nz {x:Option (Nat×Nat)}(b k:Nat):¬(Ew [] b).uses x k:=by rw[Ua];exact λh=>h
theorem GX.later (h:GX E I ρ n st a w){w':World}(hF:LU w w' (λ_=>False)):GX E I ρ n st a w':=by have hk:∀k,k<w.heap.size->w'.heap[k]? = w.heap[k]?:= λk hk=>hF.block k hk (λh=>h);refine{ h with agree:=h.agree.other (λk c hc=>hk k (h.agree.lt hc)),bx:=?_,IC:=h.IC.trans hF (λ_ _ hf=>hf.elim),tm:=h.tm,size:=h.size,defers:=h.defers };exact BX.step (λ_=>False) h.bx (IH.le_refl I) (Ren.le_refl ρ) (λb _=>⟨rfl,rfl⟩) (λb k _ hu=>hk k ((h.bx.ok b).lt hu)) (λb hb=>hb.elim) (λb k hb=>hb.elim) (λb b' k hb=>hb.elim) (λb k _ hu=>h.bx.fresh b k hu)
theorem acT (I:IH)(w:World):BX I (λ_=>none) w (Ew []):=
 ⟨λb=>by rw[Ua];rfl,λb b' k h=>absurd h (Nz b k),λb k h=>absurd h (Nz b k)⟩
theorem abK (h:GX E I ρ n st a w){f:FuncId}{vs:List Value}{wo ds:List AV}{r:AV}{d:Option Nat}{K:iH->Prop}(hd':∀x,d=some x->x<n)(hv:Xq I ρ vs wo)(hc:KP st.bx wo ds)(hd:ds.all (·.all AC.yf)=true)(hp:dY P f ds r)(hr:r.all AC.isLit=true)
 (k:K (st.AL d (.v true r))):Calls P f vs.toArray w λe w'=>∃v,e = .returned v/\AK E n K (a.put d v) w':=by
 have hv1:=QA h (bs:=wo.flatMap AV.owns) hv hc (λb hb=>hb);refine(hp (Dl I ρ w st.bx (wo.flatMap AV.owns)) (λ_=>none) w vs (h.tabs.mono (Gh h.bx _)) (Lm h.agree _) (acT _ _) (We hv1 hd)).mono ?_;rintro e w' ⟨v,J,σ,r',bs,rfl,⟨rfl,rfl⟩,hg,hA,hB,hle,hF,_⟩;have hF':LU w w' (λ_=>False):=⟨hF.os,hF.tape,hF.output,hF.size,λk hk _=>hF.block k hk (λ⟨b,hb⟩=>Nz b k hb)⟩;exact⟨v,rfl,I,ρ,_,k,(h.later hF').AL hd' ⟨λ_=>afW hg hr,λe=>by cases e⟩⟩
theorem ZP (h:GX E I ρ n st a w){f:FuncId}{vs:List Value}{wo ds:List AV}{r:AV}{d:Option Nat}{K:iH->Prop}(hd':∀x,d=some x->x<n)(hv:Xq I ρ vs wo)(hc:KP st.bx wo ds)(hd:ds.all (·.all AC.yf)=true)(hp:dY P f ds r)(hr:r.all AC.yf=true)
 (k:K ((st.FV (wo.flatMap AV.owns)).AL d (.v true r))):Calls P f vs.toArray w λe w'=>∃v,e = .returned v/\AK E n K (a.put d v) w':=by
 have hv1:=QA h (bs:=wo.flatMap AV.owns) hv hc (λb hb=>hb);refine(hp (Dl I ρ w st.bx (wo.flatMap AV.owns)) (λ_=>none) w vs (h.tabs.mono (Gh h.bx _)) (Lm h.agree _) (acT _ _) (We hv1 hd)).mono ?_;rintro e w' ⟨v,J,σ,r',bs,rfl,⟨rfl,rfl⟩,hg,hA,hB,hle,hF,_,hJ,_⟩;have hF':LU w w' (λ_=>False):=⟨hF.os,hF.tape,hF.output,hF.size,λk hk _=>hF.block k hk (λ⟨b,hb⟩=>Nz b k hb)⟩;have hJ':∀k,k<w.heap.size->J k=Dl I ρ w st.bx (wo.flatMap AV.owns) k:=λk hk=>hJ k hk (λ⟨b,hb⟩=>Nz b k hb);refine⟨v,rfl,J,ρ,_,k,?_⟩;generalize hBS:wo.flatMap AV.owns=BS at *;have hIJ:I.le J:=IH.le_trans (Gh h.bx BS) hle;have hk:∀k,k<w.heap.size->w'.heap[k]? = w.heap[k]?:= λk hk=>hF'.block k hk (λh=>h);have Jh:∀b k,((st.FV BS).bx b).uses (ρ b) k->(st.bx b).uses (ρ b) k/\¬(∃b' sz es cap,b'∈BS/\st.bx b' = .dat sz es/\ρ b'=some (k,cap)/\cap≠0):=by
  intro b k hu;rw[Bj]at hu;by_cases hb:b∈BS
  ·rw[if_pos hb]at hu;cases hx:st.bx b with
   | var xs=>rw[hx]at hu;refine⟨hu,?_⟩;rintro⟨b',sz,es,cap,_,hb',hr',h0⟩;have:=h.bx.inj b b' k (by rw[hx];exact hu) (by rw[hb'];exact⟨cap,hr',h0⟩);subst this;rw[hx]at hb';cases hb'
   | row e l=>rw[hx]at hu;refine⟨hu,?_⟩;rintro⟨b',sz,es,cap,_,hb',hr',h0⟩;have:=h.bx.inj b b' k (by rw[hx];exact hu) (by rw[hb'];exact⟨cap,hr',h0⟩);subst this;rw[hx]at hb';cases hb'
   |dat sz es=>rw[hx]at hu;exact hu.elim
   |FV sz es=>rw[hx]at hu;exact hu.elim
   |absent=>rw[hx]at hu;exact hu.elim
   |dead=>rw[hx]at hu;exact hu.elim
  ·rw[if_neg hb]at hu;refine⟨hu,?_⟩;rintro⟨b',sz,es,cap,hm',hb',hr',h0⟩;have:=h.bx.inj b b' k hu (by rw[hb'];exact⟨cap,hr',h0⟩);subst this;exact hb hm'
 have hfr:∀b k,((st.FV BS).bx b).uses (ρ b) k->J k=none:=λb k hu=>by obtain⟨h1,h2⟩:=Jh b k hu;rw[hJ' k ((h.bx.ok b).lt h1)];unfold Dl;rw[if_neg h2];exact h.bx.fresh b k h1
 have hgx:GX E J ρ n (st.FV BS) a w':=by
  refine{ agree:=hA,bx:=⟨λb=>?_,λb b' k hb hb'=>h.bx.inj b b' k (Jh b k hb).1 (Jh b' k hb').1,hfr⟩,tm:=λt ht=>(h.tm t ht).mono hIJ (Ren.le_refl ρ),size:=h.size,defers:=h.defers,IC:=h.IC.trans hF' (λ_ _ hf=>hf.elim),own:=λb k hu=>h.own b k (Jh b k hu).1,PX:=IH.le_trans h.PX hIJ,GI:=λk hk0 hM=>?_,yM:=h.yM }
  ·have hok:=(h.bx.ok b).keep hIJ (Ren.le_refl ρ) rfl (λk hu=>hk k ((h.bx.ok b).lt hu));rw[Bj];by_cases hb:b∈BS
   ·rw[if_pos hb];cases hx:st.bx b with
    | dat sz es=>rw[hx]at hok;obtain⟨kk,cap,hr',hl,hm,hsz,hcs⟩:=hok;refine⟨kk,cap,hr',hl,hm,hsz,λh0=>?_⟩;obtain⟨cs,e,hw,_,_,hrd⟩:=hcs h0;have hu:(st.bx b).uses (ρ b) kk:=(by rw[hx];exact⟨cap,hr',h0⟩);have hlt:=(h.bx.ok b).lt hu;refine⟨cs,?_,hrd⟩;rw[hJ' kk hlt];unfold Dl;rw[if_pos ⟨b,sz,es,cap,hb,hx,hr',h0⟩,<- hk kk hlt,hw]
    |var xs=>rw[hx]at hok;exact hok
    |row e l=>rw[hx]at hok;exact hok
    |FV sz es=>rw[hx]at hok;exact hok
    |absent=>rw[hx]at hok;exact hok
    |dead=>rw[hx]at hok;exact hok
   ·rw[if_neg hb];exact hok
  ·have hlt:k<w.heap.size:=zI hk0 h.IC.size;rw[hJ' k hlt];unfold Dl;rw[if_neg]
   ·exact h.GI k hk0 hM
   ·rintro⟨b',sz,es,cap,_,hb',hr',h0⟩;rcases h.own b' k (by rw[hb'];exact⟨cap,hr',h0⟩)with h1|h1
    ·omega
    ·exact hM h1
 exact hgx.AL hd' ⟨λ_=>Y1 hg hr,λe=>by cases e⟩
end
end
section
section
variable {P:Program} {E:Env P} {I:IH} {ρ:Ren} {n:Nat} {st:iH} {a:Act} {w:World}
theorem JM (l:List (Nat×Box))(st:iH){b:Nat}(h:b ∉ l.map (·.1)):(st.um l).bx b=st.bx b:=by
 induction l generalizing st with
 |nil=>rfl
 | cons x l ih=>obtain⟨c,x⟩:=x;simp only[bf,cu,not_or]at h;simp only[iH.um,ih _ h.2,iH.rM];rw[if_neg h.1]
theorem adi (l:List (Nat×Box))(st:iH)(hn:(l.map (·.1)).Nodup){j b:Nat}{x:Box}(h:l[j]? = some (b,x)):(st.um l).bx b=x:=by
 induction l generalizing st j with
 |nil=>simp at h
 | cons y l ih=>
   obtain⟨c,y⟩:=y;simp only[bf,List.nodup_cons]at hn;cases j with
   | zero=>simp at h;obtain⟨rfl,rfl⟩:=h;simp only[iH.um];rw[JM _ _ hn.1,iH.rM,if_pos rfl]
   | succ j=>simp only[iH.um];exact ih _ hn.2 (by simpa using h)
theorem UG {π:Nat->Nat}{I:IH}{ρ σ:Ren}{m:Nat}{v:Value}{x:AC}(h:GC I ρ v (Fz π x))(hl:x.wH m=true)(hs:∀b y,b<m->ρ (π b)=some y->σ b=some y):GC I σ v x:=by
 cases x with
 |c y=>exact h
 |ptr b off=>obtain⟨k,cap,h1,h2⟩:=h;exact⟨k,cap,hs _ _ (by simpa[AC.wH]using hl) h1,h2⟩
 |own b n sz=>obtain⟨k,cap,a,c,h1,h2⟩:=h;exact⟨k,cap,a,c,hs _ _ (by simpa[AC.wH]using hl) h1,h2⟩
 |sub b lo n c sz=>obtain⟨k,cap,a,c',h1,h2⟩:=h;exact⟨k,cap,a,c',hs _ _ (by simpa[AC.wH]using hl) h1,h2⟩
 |opt T b=>obtain⟨k,h1,h2⟩:=h;exact⟨k,hs _ _ (by simpa[AC.wH]using hl) h1,h2⟩
 |wO b n=>obtain⟨k,cap,h1,h2⟩:=h;exact⟨k,cap,hs _ _ (by simpa[AC.wH]using hl) h1,h2⟩
 |Aq b i sz off=>obtain⟨k,cap,h1,h2⟩:=h;exact⟨k,cap,hs _ _ (by simpa[AC.wH]using hl) h1,h2⟩
 |jI sz=>exact h
 |G9 cs=>exact h
 |err g=>exact h
 |JC=>exact h
 | fn f caps=>obtain⟨ks,h1,h2,h3⟩:=h;refine⟨ks,by simpa using h1,λj b k hb hk=>?_,h3⟩;obtain⟨cap,hc⟩:=h2 j (π b) k (by simp[hb]) hk;refine⟨cap,hs _ _ ?_ hc⟩;have:=aZ.1 hl b (iV hb);simpa using this
theorem Y0 {π:Nat->Nat}{I:IH}{ρ σ:Ren}{m:Nat}{vs:List Value}{xs:List AC}(h:JW I ρ vs (xs.map (Fz π)))(hl:xs.all (AC.wH m)=true)(hs:∀b y,b<m->ρ (π b)=some y->σ b=some y):JW I σ vs xs:=
 ⟨by simpa using h.1,λj v x hv hx=>UG (h.2 j v (Fz π x) hv (by simp[hx])) (aZ.1 hl x (iV hx)) hs⟩
theorem afY {π:Nat->Nat}{I:IH}{ρ σ:Ren}{m:Nat}{v:Value}{x:AV}(h:GV I ρ v (Es π x))(hl:x.all (AC.wH m)=true)(hs:∀b y,b<m->ρ (π b)=some y->σ b=some y):GV I σ v x:=by
 cases x with
 |one x=>exact UG h hl hs
 |agg xs=>obtain⟨cs,rfl,hg⟩:=h;exact⟨cs,rfl,Y0 hg hl hs⟩
 | xg ps=>
   obtain⟨vs,rfl,hz,hp⟩:=h;refine⟨vs,rfl,by simpa using hz,λj v p hv hq=>?_⟩;have h1:=hp j v _ hv (by rw[fD,hq];rfl);have h2:=aZ.1 hl p (iV hq);unfold GP at h1⊢;simp only at h1;split at h1
   ·rename_i hb;rw[if_pos hb];obtain⟨cs,rfl,hg⟩:=h1;exact⟨cs,rfl,Y0 hg h2 hs⟩
   ·rename_i hb;rw[if_neg hb];obtain⟨x,hx,hg⟩:=h1;cases hp2:p.2 with
    |nil=>rw[hp2]at hx;simp at hx
    | cons y t=>rw[hp2]at hx h2;simp at hx;obtain⟨rfl,rfl⟩:=hx;exact⟨y,rfl,UG hg (by simpa using h2) hs⟩
theorem UF {π:Nat->Nat}{I:IH}{ρ σ:Ren}{v:Value}{x:AC}(h:GC I σ v x)(hs:∀b y,σ b=some y->ρ (π b)=some y):GC I ρ v (Fz π x):=by
 cases x with
 |c y=>exact h
 |ptr b off=>obtain⟨k,cap,h1,h2⟩:=h;exact⟨k,cap,hs _ _ h1,h2⟩
 |own b n sz=>obtain⟨k,cap,a,c,h1,h2⟩:=h;exact⟨k,cap,a,c,hs _ _ h1,h2⟩
 |sub b lo n c sz=>obtain⟨k,cap,a,c',h1,h2⟩:=h;exact⟨k,cap,a,c',hs _ _ h1,h2⟩
 |opt T b=>obtain⟨k,h1,h2⟩:=h;exact⟨k,hs _ _ h1,h2⟩
 |wO b n=>obtain⟨k,cap,h1,h2⟩:=h;exact⟨k,cap,hs _ _ h1,h2⟩
 |Aq b i sz off=>obtain⟨k,cap,h1,h2⟩:=h;exact⟨k,cap,hs _ _ h1,h2⟩
 |jI sz=>exact h
 |G9 cs=>exact h
 |err g=>exact h
 |JC=>exact h
 | fn f caps=>
   obtain⟨ks,h1,h2,h3⟩:=h;refine⟨ks,by simpa using h1,λj b k hb hk=>?_,h3⟩;rw[fD]at hb;cases hc:caps[j]? with
   |none=>rw[hc]at hb;cases hb
   | some c=>rw[hc]at hb;simp at hb;subst hb;obtain⟨cap,hc'⟩:=h2 j c k hc hk;exact⟨cap,hs _ _ hc'⟩
theorem YZ {π:Nat->Nat}{I:IH}{ρ σ:Ren}{vs:List Value}{xs:List AC}(h:JW I σ vs xs)(hs:∀b y,σ b=some y->ρ (π b)=some y):JW I ρ vs (xs.map (Fz π)):=by
 refine⟨by simpa using h.1,λj v x hv hx=>?_⟩;rw[fD]at hx;cases hc:xs[j]? with
 |none=>rw[hc]at hx;cases hx
 | some c=>rw[hc]at hx;simp at hx;subst hx;exact UF (h.2 j v c hv hc) hs
theorem afX {π:Nat->Nat}{I:IH}{ρ σ:Ren}{v:Value}{x:AV}(h:GV I σ v x)(hs:∀b y,σ b=some y->ρ (π b)=some y):GV I ρ v (Es π x):=by
 cases x with
 |one x=>exact UF h hs
 |agg xs=>obtain⟨cs,rfl,hg⟩:=h;exact⟨cs,rfl,YZ hg hs⟩
 | xg ps=>
   obtain⟨vs,rfl,hz,hp⟩:=h;refine⟨vs,rfl,by simpa using hz,λj v p hv hq=>?_⟩;rw[fD]at hq;cases hc:ps[j]? with
   |none=>rw[hc]at hq;cases hq
   | some q=>
     rw[hc]at hq;simp at hq;subst hq;have h1:=hp j v q hv hc;unfold GP at h1⊢;simp only;split at h1
     ·rename_i hb;rw[if_pos hb];obtain⟨cs,rfl,hg⟩:=h1;exact⟨cs,rfl,YZ hg hs⟩
     ·rename_i hb;rw[if_neg hb];obtain⟨x,hx,hg⟩:=h1;exact⟨Fz π x,by rw[hx];rfl,UF hg hs⟩
theorem ZO {π:Nat->Nat}{I:IH}{ρ σ:Ren}{m:Nat}{w:World}{b:Nat}{x:Box}(h:Eb I ρ w (π b) (D6 π x))(hl:x.wH m=true)(hb:σ b=ρ (π b))(hs:∀b y,b<m->ρ (π b)=some y->σ b=some y):Eb I σ w b x:=by
 cases x with
 |absent=>exact hb.trans h
 |dead=>trivial
 | var xs=>obtain⟨k,cap,cs,hr,hw,hz,hc⟩:=h;refine⟨k,cap,cs,hb.trans hr,hw,by simpa using hz,λj u x hu hx=>UG (hc j u (Fz π x) hu (by simp[hx])) (aZ.1 hl x (iV hx)) hs⟩
 |dat sz es=>obtain⟨k,cap,hr,h⟩:=h;exact⟨k,cap,hb.trans hr,h⟩
 |row e l=>obtain⟨k,cap,hr,h⟩:=h;exact⟨k,cap,hb.trans hr,h⟩
 |FV sz es=>obtain⟨k,cap,hr,h⟩:=h;exact⟨k,cap,hb.trans hr,h⟩
theorem ZN {π:Nat->Nat}{I:IH}{ρ σ:Ren}{w:World}{b:Nat}{x:Box}(h:Eb I σ w b x)(hb:ρ (π b)=σ b)(hs:∀b y,σ b=some y->ρ (π b)=some y):Eb I ρ w (π b) (D6 π x):=by
 cases x with
 |absent=>exact hb.trans h
 |dead=>trivial
 | var xs=>
   obtain⟨k,cap,cs,hr,hw,hz,hc⟩:=h;refine⟨k,cap,cs,hb.trans hr,hw,by simpa using hz,λj u x hu hx=>?_⟩;rw[fD]at hx;cases hc':xs[j]? with
   |none=>rw[hc']at hx;cases hx
   | some c=>rw[hc']at hx;simp at hx;subst hx;exact UF (hc j u c hu hc') hs
 |dat sz es=>obtain⟨k,cap,hr,h⟩:=h;exact⟨k,cap,hb.trans hr,h⟩
 |row e l=>obtain⟨k,cap,hr,h⟩:=h;exact⟨k,cap,hb.trans hr,h⟩
 |FV sz es=>obtain⟨k,cap,hr,h⟩:=h;exact⟨k,cap,hb.trans hr,h⟩
theorem Iy {π:Nat->Nat}{x:Box}{p:Option (Nat×Nat)}{k:Nat} : (D6 π x).uses p k<->x.uses p k:=by cases x<;>exact Iff.rfl
theorem YM {l:List Box}{b:Nat}(h:b<l.length):l[b]? = some (Ew l b):=by unfold Ew;rw[qY,aF h];rfl
theorem DX {l:List Box}{b:Nat}(h:l.length<=b):Ew l b = .absent:=by unfold Ew;rw[qY,pg h];rfl
theorem VN (h:GX E I ρ n st a w)(hm:E.m<=10){f:FuncId}{vs:List Value}{wo ds:List AV}{d:Option Nat}{K:iH->Prop}{fp:List Box}{L nu:List Nat}{post:AV->List Box->Prop}{sg:List Nat}(hL:sg++nu=L)(hd':∀x,d=some x->x<n)(hv:Xq I ρ vs wo)
 (hl:sg.length=fp.length) (hn:L.Nodup) (hf:∀i,i<fp.length->st.bx (L.getD i 0)=D6 (λb=>L.getD b 0) (fp.getD i .absent))
 (hnu:∀b,b∈nu->st.bx b = .absent/\10<=b) (hra:(ds.all λx=>x.all (AC.wH fp.length))=true) (hrf:fp.all (Box.wH fp.length)=true) (ha:wo=ds.map (Es λb=>L.getD b 0)) (hp:kV P f ds fp post)
 (k:∀r bs,post r bs->bs.length=L.length/\K ((st.um (L.zip (bs.map (D6 λb=>L.getD b 0)))).AL d (.v true (Es (λb=>L.getD b 0) r)))) :
 Calls P f vs.toArray w λe w'=>∃v,e = .returned v/\AK E n K (a.put d v) w':=by
 generalize hπ:(λb=>L.getD b 0)=π at hf ha k;have agZ:∀b,L.getD b 0=π b:=λb=>congrFun hπ b;have hLl:fp.length<=L.length:=by rw[<- hL];simp;omega
 have QS:∀b,b<L.length->L[b]? = some (π b):=λb hb=>by rw[<- agZ,qY,aF hb];rfl
 have acs:∀b,b<L.length->π b∈L:=λb hb=>iV (QS b hb);have acr:∀b b',b<L.length->b'<L.length->π b=π b'->b=b':=λb b' hb hb' e=>by
  have h1:=QS b hb;have h2:=QS b' hb';rw[aF hb]at h1;rw[aF hb']at h2;simp at h1 h2;have hpw:=List.pairwise_iff_getElem.1 hn;rcases Nat.lt_trichotomy b b' with hlt|heq|hlt
  ·exact absurd (by rw[h1,h2,e]) (hpw b b' hb hb' hlt)
  ·exact heq
  ·exact absurd (by rw[h1,h2,e]) (hpw b' b hb' hb hlt)
 let ρc:Ren:=λb=>if b<fp.length then ρ (π b)else none
 have hs:∀b y,b<fp.length->ρ (π b)=some y->ρc b=some y:=λb y hb e=>by simp[ρc,hb,e]
 have hfb:∀b,b<fp.length->st.bx (π b)=D6 π (Ew fp b):=λb hb=>by have:=hf b hb;rw[agZ]at this;exact this
 have hub:∀b k,(Ew fp b).uses (ρc b) k->b<fp.length/\(st.bx (π b)).uses (ρ (π b)) k:=λb k hu=>by
  by_cases hb:b<fp.length
  ·refine⟨hb,?_⟩;rw[hfb b hb,Iy];simpa[ρc,hb]using hu
  ·rw[DX (by omega)]at hu;exact hu.elim
 have hBX:BX I ρc w (Ew fp):=by
  refine⟨λb=>?_,λb b' k hb hb'=>?_,λb k hb=>?_⟩
  ·by_cases hb:b<fp.length
   ·have:=h.bx.ok (π b);rw[hfb b hb]at this;exact ZO this (aZ.1 hrf _ (iV (YM hb))) (by simp[ρc,hb]) hs
   ·rw[DX (by omega)];show ρc b=none;simp[ρc,hb]
  ·obtain⟨h1,h2⟩:=hub b k hb;obtain⟨h1',h2'⟩:=hub b' k hb';exact acr b b' (by omega) (by omega) (h.bx.inj _ _ _ h2 h2')
  ·exact h.bx.fresh _ _ (hub b k hb).2
 have hGV:Xq I ρc vs ds:=by subst ha;refine⟨by simpa using hv.1,λj v x hv' hx=>?_⟩;exact afY (hv.2 j v (Es π x) hv' (by simp[hx])) (aZ.1 hra x (iV hx)) hs
 refine(hp I ρc w vs h.tabs h.agree hBX hGV).mono ?_;rintro e w' ⟨v,J,σ,r,bs,rfl,hpost,hg,hA,hB,hle,hF,hbw,hJ,hσ⟩;obtain⟨hbl,hk⟩:=k r bs hpost;refine⟨v,rfl,?_⟩;have ahN:∀b,L.length<=b->σ b=none:=λb hb=>by have:=hB.ok b;rw[DX (by omega)]at this;exact this
 let ρ':Ren:=λb=>open Classical in if b∈L then σ (L.idxOf b)else ρ b
 have MZ:∀b,b<L.length->ρ' (π b)=σ b:=λb hb=>by
  have h1:=acs b hb;simp only[ρ',h1,if_true];have hi:=List.idxOf_lt_length_of_mem h1;have h2:L[L.idxOf (π b)]? = some (π b):=by rw[aF hi];simp
  have h3:=QS _ hi;rw[h2]at h3;simp only[aH]at h3;rw[<- acr _ _ hb hi h3]
 have Wn:∀b,b ∉ L->ρ' b=ρ b:=λb hb=>by simp[ρ',hb]
 have hin:∀b,b∈L->∃i,i<L.length/\π i=b:=λb hb=>by
  have hi:=List.idxOf_lt_length_of_mem hb;refine⟨_,hi,?_⟩;have h2:L[L.idxOf b]? = some b:=by rw[aF hi];simp
  have h3:=QS _ hi;rw[h2]at h3;simpa using h3.symm
 have afq:∀i,fp.length<=i->i<L.length->π i∈nu:=λi h1 h2=>by have h3:=QS i h2;rw[<- hL,gX (by omega)]at h3;exact iV h3
 have hle':ρ.le ρ':=λb y hb=>by
  by_cases hm':b∈L
  ·obtain⟨i,hi,rfl⟩:=hin b hm';rw[MZ i hi];by_cases hif:i<fp.length
   ·rw[hσ i hif];exact hs i y hif hb
   ·have h1:=(hnu _ (afq i (by omega) hi)).1;have h2:=h.bx.ok (π i);rw[h1]at h2;rw[show ρ (π i)=none from h2]at hb;cases hb
  ·rw[Wn b hm'];exact hb
 have agW:∀b y,σ b=some y->ρ' (π b)=some y:=λb y hb=>by
  by_cases hbL:b<L.length
  ·rw[MZ b hbL];exact hb
  ·rw[ahN b (by omega)]at hb;cases hb
 have hlz:(L.zip (bs.map (D6 π))).map (·.1)=L:=by rw[List.map_fst_zip];simp[hbl]
 have aah:∀i,i<L.length->(st.um (L.zip (bs.map (D6 π)))).bx (π i)=D6 π (Ew bs i):=λi hi=>by refine adi _ _ (by rw[hlz];exact hn) (j:=i) ?_;rw[zW];exact⟨QS i hi,by rw[fD,YM (by omega)];rfl⟩
 have hbx2:∀b,b ∉ L->(st.um (L.zip (bs.map (D6 π)))).bx b=st.bx b:=λb hb=>JM _ _ (by rw[hlz];exact hb);have hnot:∀b k,b ∉ L->(st.bx b).uses (ρ b) k->k<w.heap.size/\¬ ∃b',(Ew fp b').uses (ρc b') k:=λb k hb hu=>by refine⟨(h.bx.ok b).lt hu,?_⟩;rintro⟨b',hb'⟩;obtain⟨h1,h2⟩:=hub b' k hb';have:=h.bx.inj _ _ _ hu h2;exact hb (this▸acs b' (by omega))
 have hother:∀b k,b ∉ L->(st.bx b).uses (ρ b) k->w'.heap[k]? = w.heap[k]?:= λb k hb hu=>let ⟨h1,h2⟩:=hnot b k hb hu;hF.block k h1 h2;have agP:∀i k,i<L.length->(Ew bs i).uses (σ i) k->∀b,b ∉ L->¬(st.bx b).uses (ρ b) k:=λi k hi hu b hb hu'=>by
  obtain⟨h1,h2⟩:=hnot b k hb hu';rcases hbw i k hu with h3|h3
  ·omega
  ·exact h2 h3
 generalize hst:st.um (L.zip (bs.map (D6 π)))=st' at *;have htm:st'.tm=st.tm:=by rw[<- hst,NL]
 have hgx:GX E J ρ' n st' a w':=by
  refine{ agree:=hA,bx:=⟨λb=>?_,λb b' k hb hb'=>?_,λb k hb=>?_⟩,tm:=λt ht=>?_,size:=h.size,defers:=h.defers,IC:=?_,own:=λb k hb=>?_,PX:=IH.le_trans h.PX hle,GI:=λk hk0 hM=>?_,yM:=λb hb=>?_ }
  ·by_cases hb:b∈L
   ·obtain⟨i,hi,rfl⟩:=hin b hb;rw[aah i hi];exact ZN (hB.ok i) (MZ i hi) agW
   ·rw[hbx2 b hb];exact(h.bx.ok b).keep hle hle' (Wn b hb) (λk hu=>hother b k hb hu)
  ·by_cases hbL:b∈L
   ·obtain⟨i,hi,rfl⟩:=hin b hbL;rw[aah i hi,Iy,MZ i hi]at hb;by_cases Wj:b'∈L
    ·obtain⟨i',hi',rfl⟩:=hin b' Wj;rw[aah i' hi',Iy,MZ i' hi']at hb';rw[hB.inj _ _ _ hb hb']
    ·rw[hbx2 b' Wj,Wn b' Wj]at hb';exact absurd hb' (agP i k hi hb b' Wj)
   ·rw[hbx2 b hbL,Wn b hbL]at hb;by_cases Wj:b'∈L
    ·obtain⟨i',hi',rfl⟩:=hin b' Wj;rw[aah i' hi',Iy,MZ i' hi']at hb';exact absurd hb (agP i' k hi' hb' b hbL)
    ·rw[hbx2 b' Wj,Wn b' Wj]at hb';exact h.bx.inj _ _ _ hb hb'
  ·by_cases hbL:b∈L
   ·obtain⟨i,hi,rfl⟩:=hin b hbL;rw[aah i hi,Iy,MZ i hi]at hb;exact hB.fresh _ _ hb
   ·rw[hbx2 b hbL,Wn b hbL]at hb;obtain⟨h1,h2⟩:=hnot b k hbL hb;rw[hJ k h1 h2];exact h.bx.fresh _ _ hb
  ·rw[htm];exact(h.tm t ht).mono hle hle'
  ·refine h.IC.trans hF ?_;rintro x hx ⟨b',hb'⟩;rcases h.own _ _ (hub b' x hb').2 with h1|h1
   ·omega
   ·exact h1
  ·by_cases hbL:b∈L
   ·obtain⟨i,hi,rfl⟩:=hin b hbL;rw[aah i hi,Iy,MZ i hi]at hb;rcases hbw i k hb with h1|⟨b',hb'⟩
    ·exact .inl (iP h.IC.size h1)
    ·exact h.own _ _ (hub b' k hb').2
   ·rw[hbx2 b hbL,Wn b hbL]at hb;exact h.own _ _ hb
  ·rw[hJ k (zI hk0 h.IC.size)]
   ·exact h.GI k hk0 hM
   ·rintro⟨b',hb'⟩;rcases h.own _ _ (hub b' k hb').2 with h1|h1
    ·omega
    ·exact hM h1
  ·by_cases hbL:b∈L
   ·obtain⟨i,hi,rfl⟩:=hin b hbL;rw[MZ i hi];by_cases hif:i<fp.length
    ·rw[hσ i hif,<- h.yM _ hb];simp[ρc,hif]
    ·have:=(hnu _ (afq i (by omega) hi)).2;omega
   ·rw[Wn b hbL];exact h.yM b hb
 exact⟨J,ρ',_,hk,hgx.AL hd' ⟨λ_=>afX hg agW,λe=>by cases e⟩⟩
end
end
section
section
variable {P:Program} {E:Env P} {I:IH} {ρ:Ren} {n:Nat} {st:iH} {a:Act} {w:World}
def MG (n:Nat):List Operand->List pF->Bool
 |[],[]=>true
 |x::xs,y::ys=>kZ n x y&&MG n xs ys
 |_,_=>false
def Qo (n:Nat)(ops:Array Oper):Option (Nat×Bool)->Option (Nat×Bool)->Bool
 |none,none=>true
 |some (j,w),some (s,w')=>w==w'&&decide (s<n)&&(match ops[j]? with|some o=>o.dst==some s|none=>false)
 |_,_=>false
def XN (n:Nat):Option Nat->Option Nat->Bool
 |none,none=>true
 |some x,some y=>x==y&&decide (x<n)
 |_,_=>false
def XO (P:Program)(n m:Nat)(op:Op)(d:Option Nat):Qa->Bool
 |.op ao=>Py P n m op d ao
 | .call f args=>match op with
   |.call ⟨.value (.func f'),az,_⟩=>f'==f&&MG n az.toList args&&AA P f
   |_=>false
 | .GN x args=>match op with
   |.call ⟨.value x',az,_⟩=>kZ n x' x&&MG n az.toList args
   |_=>false
def PV (P:Program)(n m:Nat)(ops:Array Oper)(o:Oper)(ao:mY):Bool:=
 Qo n ops o.guard ao.g&&XN n o.dst ao.d&&XO P n m o.op o.dst ao.i
theorem UU (h:GX E I ρ n st a w):∀{xs:List Operand} {ys:List pF},MG n xs ys=true->(∀y,y∈ys->(y.ev st.tm).g=true) ->
 Xq I ρ (xs.map a.eval) (ys.map (fA st.tm))
 |[],[],_,_=>⟨rfl,λj v x hv hx=>by simp at hv⟩
 | x::xs,y::ys,hc,hg=>by
   simp only[MG,ai]at hc;have ih:=UU h hc.2 (λy hy=>hg y (dL _ hy));refine⟨by simpa using ih.1,λj v z hv hz=>?_⟩;cases j with
   | zero=>simp at hv hz;subst hv;subst hz;exact ou h hc.1 (hg y (bC ..))
   |succ j=>exact ih.2 j v z (by simpa using hv) (by simpa using hz)
 |[],_::_,hc,_=>by cases hc
 |_::_,[],hc,_=>by cases hc
theorem afU {d d':Option Nat}(h:XN n d d'=true):d=d'/\∀x,d'=some x->x<n:=by
 unfold XN at h;split at h
 ·exact⟨rfl,λx hx=>by cases hx⟩
 ·simp only[ai,beq_iff_eq,decide_eq_true_eq]at h;obtain⟨rfl,h2⟩:=h;exact⟨rfl,λx hx=>by cases hx;exact h2⟩
 ·cases h
theorem ab8 (h:GX E I ρ n st a w){ops:Array Oper}{o:Oper}{g:Option (Nat×Bool)}(hc:Qo n ops o.guard g=true)(hv:DR st.tm g) :
 AY o (yielded ops a.tmps)=vI st.tm g:=by
 unfold Qo at hc;split at hc
 ·rename_i e;simp[AY,e,vI]
 ·rename_i j wnt s ai6 e;simp only[ai,beq_iff_eq,decide_eq_true_eq]at hc;obtain⟨⟨rfl,hs⟩,hj⟩:=hc;have hb:(ops[j]?).bind (·.dst)=some s:=by
   cases hoj:ops[j]? with
   |none=>rw[hoj]at hj;cases hj
   |some o'=>rw[hoj]at hj;simpa using hj
  have ht:=h.tm s hs;have hsz:s<a.tmps.size:=by rw[h.size];exact hs
  have hget:a.tmps[s]? = some (a.tmps.getD s undef):=by simp[Array.getD,hsz]
  simp only[AY,e,vI,yielded,hb,Option.bind_some,hget];simp only[DR]at hv;split at hv
  ·rename_i x hg;rw[hg]at ht;have:=ht.2 rfl;rw[this,hg];simp[undef]
  ·rename_i b hg;rw[hg]at ht;have:=J5 (ht.1 rfl);rw[this,hg];simp
  ·exact hv.elim
 ·cases hc
theorem VW {o:Oper}{x:Operand}{az:Array Operand}{ts:Array TypeId}{f:FuncId}{caps:Array Value}(ho:o.op = .call ⟨.value x,az,ts⟩)(hx:a.eval x = .func (.func f) #[] caps)(hf:AA P f=true) :
 (execOp a.eval o).run P w = .ok (.enter f (az.map a.eval++caps)) w:=by
 unfold AA at hf;cases hp:P.funcs[f]? with
 |none=>rw[hp]at hf;cases hf
 | some fn=>
   rw[hp]at hf;simp only[ai,xY]at hf;obtain⟨h1,h2⟩:=hf;have h1':¬fn.name = "runtime.NumGoroutine" :=by simpa using h1
   obtain⟨b,hb⟩:=Option.isSome_iff_exists.1 h2;simp[execOp,ho,resolve,hx,yV,invoke,callFunc,hp,h1',hb]
theorem RP {o:Oper}{f:FuncId}{args:Array Value}{K:Act->World->Prop}{Q:Exit->Act->World->Prop}(he:(execOp a.eval o).run P w = .ok (.enter f args) w)
 (h:Calls P f args w λe w'=>∃v,e = .returned v/\K (a.put o.dst v) w'):o.wp P a w K Q:=by
 unfold Go.Oper.wp;rw[he,Oper.upon_enter];refine h.mono ?_;rintro e w' ⟨v,rfl,hk⟩;exact hk
theorem Pj (h:GX E I ρ n st a w)(hm:E.m<=10){f:FuncId}{vs:List Value}{wo:List AV}{d:Option Nat}{K:List Nat->List Nat->iH->Prop}(hd:∀x,d=some x->x<n)(hv:Xq I ρ vs wo)
 (hT:L8 P f wo true d st K):Calls P f vs.toArray w λe w'=>∃v,e = .returned v/\AK E n (λst=>∃rd wr,K rd wr st) (a.put d v) w':=by
 cases hT with
 |lit ds r hc hds hh hr k=>exact abK h hd hv (hc rfl) hds (hh rfl) hr ⟨_,_,k⟩
 |pure ds r hp hc hds hh hr k=>exact ZP h hd hv hc hds hh hr ⟨_,_,k⟩
 | Pz hp az hc ds fp sg nu post hl hn hf hne hnu hra hrf ha hh k=>have hv':=QA h (bs:=wo.flatMap AV.owns) hv hc (λb hb=>hb);have h':=h.freeze (wo.flatMap AV.owns);refine VN h' hm rfl hd hv' hl hn hf (λb hb=>⟨?_,(hnu b hb).2⟩) hra hrf ha hh (λr bs hpo=>⟨(k r bs hpo).1,_,_,(k r bs hpo).2⟩);rw[Bj,(hnu b hb).1];split<;>rfl
 |gen hp ds fp sg nu post hl hn hf hne hnu hra hrf ha hh k=>exact VN h hm rfl hd hv hl hn hf hnu hra hrf ha hh (λr bs hpo=>⟨(k r bs hpo).1,_,_,(k r bs hpo).2⟩)
theorem RI {f:FuncId}{wo:List AV}{d:Option Nat}{K:List Nat->List Nat->iH->Prop}(hT:L8 P f wo false d st K):∃r rd wr,K rd wr (st.AL d (.v false r)):=by
 cases hT with
 |lit ds r hc hds hh hr k=>exact⟨_,_,_,k⟩
 |pure ds r hp=>cases hp
 |gen hp=>cases hp
 |Pz hp=>cases hp
def Vp (P:Program)(ops:Array Oper)(Q:Exit->Act->World->Prop)(o:Oper)(K:Act->World->Prop)(a:Act)(w:World):Prop:=
 if AY o (yielded ops a.tmps)then o.wp P a w K Q\/(o.asks P a w/\LetsOut Q)else K (a.put o.dst undef) w
theorem AK.imp {K K':iH->Prop}(hk:∀st,K st->K' st){a:Act}{w:World}(h:AK E n K a w):AK E n K' a w:=
 let ⟨I,ρ,st,h1,h2⟩:=h;⟨I,ρ,st,hk _ h1,h2⟩
theorem YK (h:GX E I ρ n st a w)(hm:E.m<=10){ops:Array Oper}{Q:Exit->Act->World->Prop}{o:Oper}{ao:mY}(hc:PV P n E.m ops o ao=true){K:List Nat->List Nat->iH->Prop}(hT:T P ao st K) :
 Vp P ops Q o (AK E n λst=>∃rd wr,K rd wr st) a w:=by
 simp only[PV,ai]at hc;obtain⟨⟨hcg,hcd⟩,hci⟩:=hc;obtain⟨hdd,hdn⟩:=afU hcd;obtain⟨hgv,hT⟩:=hT;have hw:=ab8 h hcg hgv;have skip:∀r,(∃rd wr,K rd wr (st.AL ao.d (.v false r)))->AK E n (λst=>∃rd wr,K rd wr st) (a.put o.dst undef) w:=λr hk=>⟨I,ρ,_,hk,by rw[hdd];exact h.AL hdn ⟨(λe=>by cases e),λ_=>rfl⟩⟩;unfold Vp;rw[hw];cases hi:ao.i with
 | op op=>
   rw[hi]at hT hci;obtain⟨h1,h2⟩:=hT;cases hp:vI st.tm ao.g with
   | false=>simpa using skip _ ⟨_,_,h2 hp⟩
   | true=>
     obtain⟨hv,jX,h3⟩:=h1 hp;obtain⟨v,w',I',ρ',hr,hg,ahI⟩:=ac0 h hci hv jX;simp only[if_true];refine .inl ?_;have key:AK E n (λst=>∃rd wr,K rd wr st) (a.put o.dst v) w':=by
      refine⟨I',ρ',_,⟨_,_,h3⟩,?_⟩;rw[hdd];cases hd:ao.d with
      |none=>exact hg
      |some d=>exact hg.put (hdn d hd) ⟨λ_=>ahI (by rw[hdd,hd];simp),λe=>by cases e⟩
     unfold Go.Oper.wp;rcases hr with hr|⟨hr,hnd⟩
     ·rw[hr];exact key
     ·rw[hr,Oper.upon_skip];rw[hnd]at key⊢;exact key
 | call f args=>
   rw[hi]at hT hci;simp only[XO]at hci;split at hci
   ·rename_i f' az ts ho;simp only[ai,beq_iff_eq]at hci;obtain⟨⟨rfl,hca⟩,hok⟩:=hci;obtain⟨h1,h2⟩:=hT;cases hp:vI st.tm ao.g with
    | false=>rw[hp]at h2;obtain⟨r,hk⟩:=RI h2;simpa using skip r hk
    | true=>rw[hp]at h1 h2;simp only[if_true];refine .inl (RP (VW ho (x:=.func f') (caps:= #[]) rfl hok) ?_);have hvs:=UU h hca (h1 rfl);have:=Pj h hm hdn hvs h2;rw[hdd];simpa[<- Array.toList_map]using this
   ·cases hci
 | GN x args=>
   rw[hi]at hT hci;simp only[XO]at hci;split at hci
   ·rename_i x' az ts ho;simp only[ai]at hci;obtain⟨hcx,hca⟩:=hci;obtain⟨hg0,h2⟩:=hT;cases hp:vI st.tm ao.g with
    | false=>rw[hp]at h2;obtain⟨r,hk⟩:=RI h2;simpa using skip r hk
    |true=>
    rw[hp]at h2;obtain⟨hg1,h1⟩:=hg0 hp;split at h2
    ·rename_i hb;cases hb
    ·rename_i f caps _ hf;obtain⟨hok,h2⟩:=h2;have hx:=ou h hcx hg1;rw[hf]at hx;obtain⟨ks,hk1,hk2,hk3⟩:=hx
     ·skip
      simp only[if_true];refine .inl (RP (VW ho hk3 hok) ?_);have hvs:=UU h hca h1;have hvs':Xq I ρ (az.toList.map a.eval++ks.map λk=>yB (some ⟨k,0,none⟩)) (args.map (fA st.tm)++caps.map λb=>AV.one (.ptr b 0)):=by
       refine⟨by have:=hvs.1;simp at this;simp[hk1,this],λj v z hv hz=>?_⟩;by_cases hj:j<(az.toList.map a.eval).length
       ·rw[gm hj]at hv;rw[gm (by rw[<- hvs.1];exact hj)]at hz;exact hvs.2 j v z hv hz
       ·rw[gX (by omega)]at hv;rw[gX (by rw[<- hvs.1];omega)]at hz;rw[hvs.1]at hv;generalize j-(args.map (fA st.tm)).length=i at hv hz;rw[fD]at hv hz;cases hki:ks[i]? with
        |none=>rw[hki]at hv;cases hv
        | some k=>
          cases hci:caps[i]? with
          |none=>rw[hci]at hz;cases hz
          | some b=>rw[hki]at hv;rw[hci]at hz;simp at hv hz;subst hv;subst hz;obtain⟨cap,hr⟩:=hk2 i b k hci hki;exact⟨k,cap,hr,rfl⟩
      have:=Pj h hm hdn hvs' h2;rw[hdd];have e:(az.map a.eval++(ks.map λk=>yB (some ⟨k,0,none⟩)).toArray)=(az.toList.map a.eval++ks.map λk=>yB (some ⟨k,0,none⟩)).toArray:=(by apply BV;simp);rw[e];exact this
    ·exact h2.elim
   ·cases hci
end
end
section
section
variable {ev ev':pF->AV} {bx bx':Nat->Box}
theorem Gj {o:Option pF}{k:Nat}(h:∀x,o=some x->ev x=ev' x):bnd ev o k=bnd ev' o k:=by
 cases o with
 |none=>rfl
 |some x=>simp only[bnd,h x rfl]
theorem Gw {n sz:Nat} : ∀{ps:List (Nat×pF)},(∀p,p∈ps->ev p.2=ev' p.2)->zL ev bx n sz ps=zL ev' bx n sz ps/\vS ev ps=vS ev' ps/\BB ev bx ps=BB ev' bx ps
 |[],_=>⟨rfl,rfl,rfl⟩
 | (i,x)::r,h=>by obtain⟨h1,h2,h3⟩:=Gw (n:=n) (sz:=sz) (ps:=r) (λp hp=>h p (dL _ hp));simp only[zL,vS,BB,h (i,x) (bC ..),h1,h2,h3,and_self]
theorem ahz (op:nM)(he:∀x,x∈op.pz->ev x=ev' x):op.f ev bx=op.f ev' bx:=by
 cases op
 case build zs ps=>
  have h1:∀p,p∈ps->ev p.2.2=ev' p.2.2:=λp hp=>he _ (CV hp);simp only[nM.f]
  congr 1
  ·apply propext;constructor
   ·intro h p hp;rw[<- h1 p hp];exact h p hp
   ·intro h p hp;rw[h1 p hp];exact h p hp
  ·congr 2
   exact qp λp hp=>by rw[h1 p hp]
 case jK l sz n zs ps=>have h1:∀p,p∈ps->ev p.2=ev' p.2:=λp hp=>he _ (CV hp);obtain⟨c1,c2,c3⟩:=Gw (bx:=bx) (n:=n) (sz:=sz) h1;simp only[nM.f,c1,c2,c3]
 case UO f cs=>have h1:cs.map ev=cs.map ev':=qp λx hx=>he x hx;simp only[nM.f,h1]
 case Cm x lo hi=>have h1:=he x (by simp[nM.pz]);have h2:∀y,lo=some y->ev y=ev' y:=λy hy=>he y (by simp[nM.pz,hy]);have h3:∀y,hi=some y->ev y=ev' y:=λy hy=>he y (by simp[nM.pz,hy]);simp only[nM.f,h1,Gj h2,Gj h3]
 case FD sz x lo hi=>have h1:=he x (by simp[nM.pz]);have h2:∀y,lo=some y->ev y=ev' y:=λy hy=>he y (by simp[nM.pz,hy]);have h3:∀y,hi=some y->ev y=ev' y:=λy hy=>he y (by simp[nM.pz,hy]);simp only[nM.f,h1,Gj h2,Gj h3]
 case zH sz x lo hi=>have h1:=he x (by simp[nM.pz]);have h2:∀y,lo=some y->ev y=ev' y:=λy hy=>he y (by simp[nM.pz,hy]);have h3:∀y,hi=some y->ev y=ev' y:=λy hy=>he y (by simp[nM.pz,hy]);have h4:bnd ev hi=bnd ev' hi:=funext λk=>Gj h3;simp only[nM.f,h1,Gj h2,h4]
 all_goals
  simp only[nM.pz,cu,uT,or_false,forall_eq_or_imp,forall_eq]at he;simp only[nM.f,he]
theorem aha (op:nM)(he:∀x,x∈op.pz->ev x=ev' x):op.rd ev=op.rd ev':=by
 cases op
 case build zs ps=>rfl
 case jK l sz n zs ps=>have h1:∀p,p∈ps->ev p.2=ev' p.2:=λp hp=>he _ (CV hp);simp only[nM.rd,(Gw (bx:=λ_=>.absent) (n:=n) (sz:=sz) h1).2.1]
 case UO f cs=>rfl
 case Cm x lo hi=>rfl
 case FD sz x lo hi=>rfl
 case zH sz x lo hi=>rfl
 all_goals
  simp only[nM.pz,cu,uT,or_false,forall_eq_or_imp,forall_eq]at he;simp only[nM.rd,he]
theorem JR {sz:Nat}{x:AV}(h:∀b,b∈lvl x->bx b=bx' b):yG sz x bx=yG sz x bx':=by
 cases x with
 | one x=>
   cases x
   case own b n sz'=>simp only[yG,h b (by simp[lvl])]
   case sub b lo n c sz'=>simp only[yG,h b (by simp[lvl])]
   case c y=>cases y<;>rfl
   all_goals rfl
 |_=>rfl
theorem acG {agg:Bool}{k:Nat}{x:AV}(h:∀b,b∈lvl x->bx b=bx' b):Ak agg k x bx=Ak agg k x bx':=by
 cases x with
 | one x=>
   cases x
   case ptr b off=>simp only[Ak,h b (by simp[lvl])]
   case Aq b i sz off=>simp only[Ak,h b (by simp[lvl])]
   all_goals rfl
 |_=>rfl
theorem Z5 {x:AC}(h:∀b,b∈pO [x]->bx b=bx' b):dataOf bx x=dataOf bx' x:=by
 cases x
 case own b n sz=>simp only[dataOf,h b (by simp[pO])]
 all_goals rfl
theorem TC {x:AC}{r:List AC}{b:Nat} : b∈pO (x::r)<->b∈pO [x]\/b∈pO r:=by cases x<;>simp[pO]
theorem QB : ∀{xs:List AC},(∀b,b∈pO xs->bx b=bx' b)->Ja bx xs=Ja bx' xs/\Ac bx xs=Ac bx' xs/\UD bx (pO xs)=UD bx' (pO xs)
 |[],_=>⟨rfl,rfl,rfl⟩
 | x::r,h=>by
   obtain⟨h1,h2,h3⟩:=QB (xs:=r) (λb hb=>h b (TC.2 (.inr hb)));refine⟨?_,?_,qp λb hb=>by rw[h b hb]⟩
   ·simp only[Ja,h1,Z5 (x:=x) (λb hb=>h b (TC.2 (.inl hb)))]
   ·cases x
    case own b n sz=>simp only[Ac,h2,h b (by simp[pO])]
    all_goals exact h2
theorem aaZ {agg:Bool}{k:Nat}{p x:AV}(h:∀b,b∈lvl p++(match p with|.one (.Aq _ _ _ _)=>pO x.cells|_=>[])->bx b=bx' b):Ae agg k p x bx=Ae agg k p x bx':=by
 cases p with
 | one p=>
   cases p
   case ptr b off=>simp only[Ae,h b (by simp[lvl])]
   case Aq b i sz off=>obtain⟨h1,h2,h3⟩:=QB (bx:=bx) (bx':=bx') (xs:=x.cells) (λc hc=>h c (by simp only[lvl,aV];exact .inr hc));have h4:=h b (by simp[lvl]);cases x<;>cases agg<;>first|rfl|(simp only[Ae,h4,h1,h2,h3])
   all_goals rfl
 |_=>rfl
theorem O6 {n sz:Nat} : ∀{ps:List (Nat×pF)},(∀b,b∈vS ev ps->bx b=bx' b)->zL ev bx n sz ps=zL ev bx' n sz ps/\BB ev bx ps=BB ev bx' ps
 |[],_=>⟨rfl,rfl⟩
 | (i,x)::r,h=>by obtain⟨h1,h2⟩:=O6 (n:=n) (sz:=sz) (ps:=r) (λb hb=>h b (by simp only[vS,aV];exact .inr hb));obtain⟨g1,g2,g3⟩:=QB (bx:=bx) (bx':=bx') (xs:=(ev x).cells) (λb hb=>h b (by simp only[vS,aV];exact .inl hb));simp only[zL,BB,h1,h2,g1,g2,and_self]
theorem ahy (op:nM)(hb:∀b,b∈op.rd ev->bx b=bx' b):op.f ev bx=op.f ev bx':=by
 cases op
 case load agg k p=>exact acG hb
 case store agg k p x=>exact aaZ hb
 case alloc l zs=>simp only[nM.f,hb l (by simp[nM.rd])]
 case FO T e l r=>simp only[nM.f,hb l (by simp[nM.rd]),hb r (by simp[nM.rd])]
 case KT l sz n zs=>simp only[nM.f,hb l (by simp[nM.rd])]
 case box l x=>simp only[nM.f,hb l (by simp[nM.rd])]
 case jK l sz n zs ps=>
  obtain⟨h1,h2⟩:=O6 (bx:=bx) (bx':=bx') (n:=n) (sz:=sz) (ps:=ps) (λb hm=>hb b (by simp only[nM.rd];exact dL _ hm));have h3:UD bx (vS ev ps)=UD bx' (vS ev ps):=qp λb hm=>by rw[hb b (by simp only[nM.rd];exact dL _ hm)]
  simp only[nM.f,hb l (by simp[nM.rd]),h1,h2,h3]
 case makes l sz bytes zs n m=>simp only[nM.f,hb l (by simp[nM.rd])]
 case Qy x=>simp only[nM.f,JR hb]
 case Rw sz n x=>
  simp only[nM.f];cases hx:ev x with
  | one y=>
    cases y
    case Aq b i sz off=>have:=hb b (by simp[nM.rd,lvl,hx]);cases i<;>cases off<;>simp only[this]
    all_goals rfl
  |_=>rfl
 case append l sz bytes s x=>
  have h1:=hb l (by simp[nM.rd]);simp only[nM.f,JR (x:=ev x) (λb hb'=>hb b (by simp[nM.rd,hb'])),h1];cases hs:ev s with
  | one y=>
    cases y
    case own b n sz'=>simp only[hb b (by simp[nM.rd,lvl,hs])]
    all_goals rfl
  |_=>rfl
 case copy sz d x=>
  simp only[nM.f,JR (x:=ev x) (λb hb'=>hb b (by simp[nM.rd,hb']))];cases hs:ev d with
  | one y=>
    cases y
    case own b n sz'=>simp only[hb b (by simp[nM.rd,lvl,hs])]
    all_goals rfl
  |_=>rfl
 case WV l sz bytes s x=>
  have h1:=hb l (by simp[nM.rd]);simp only[nM.f,FY,JR (x:=ev x) (λb hb'=>hb b (by simp[nM.rd,hb'])),h1];generalize yG sz (ev x) bx'=so;cases hs:ev s with
  | one y=>
    cases y
    case sub b lo n c sz'=>have h2:=hb b (by simp[nM.rd,lvl,hs]);cases c<;>rcases so with _|⟨p,ys⟩<;>first|rfl|(simp only[h2])
    all_goals(rcases so with _|⟨p,ys⟩<;>rfl)
  |_=>rcases so with _|⟨p,ys⟩<;>rfl
 case Xx l sz bytes zs s x=>
  have h1:=hb l (by simp[nM.rd]);simp only[nM.f,FU,h1];generalize ev x=y';have hb2:∀b,b∈lvl (ev s)->bx b=bx' b:=λb hb'=>hb b (by simp[nM.rd,hb']);rcases y' with x|x|x
  ·rcases x with c|_|_|_|_|_|_|_|_
   ·rcases c with v|_|_
    ·cases v
     case int k q=>
      cases hs:ev s with
      | one y=>
        cases y
        case sub b lo n c sz'=>have h2:=hb2 b (by simp[lvl,hs]);cases c<;>simp[h2]
        all_goals rfl
      |_=>rfl
     all_goals(generalize ev s=z;rcases z with(_|_|_|_|⟨b,lo,n,_|c,sz'⟩|_|_|_|_)|_|_<;>rfl)
    all_goals(generalize ev s=z;rcases z with(_|_|_|_|⟨b,lo,n,_|c,sz'⟩|_|_|_|_)|_|_<;>rfl)
   all_goals(generalize ev s=z;rcases z with(_|_|_|_|⟨b,lo,n,_|c,sz'⟩|_|_|_|_)|_|_<;>rfl)
  all_goals(generalize ev s=z;rcases z with(_|_|_|_|⟨b,lo,n,_|c,sz'⟩|_|_|_|_)|_|_<;>rfl)
 case Ro sz d x=>
  have ht:∀m,lvl (truncS m (ev x))=lvl (ev x):=λm=>by rcases ev x with(_|_|_|_|_|_|_|_|_)|_|_<;>rfl
  have hsrc:∀m,yG sz (truncS m (ev x)) bx=yG sz (truncS m (ev x)) bx':=λm=>JR (λb hb'=>hb b (by rw[ht]at hb';simp[nM.rd,hb']));simp only[nM.f,F6,hsrc];cases hs:ev d with
  | one y=>
    cases y
    case own b n sz'=>have h2:=hb b (by simp[nM.rd,lvl,hs]);simp only[Et];rcases yG sz (truncS n (ev x)) bx' with _|⟨p,ys⟩<;>first|rfl|(simp only[h2])
    case sub b lo n c sz'=>have h2:=hb b (by simp[nM.rd,lvl,hs]);simp only[Et];rcases yG sz (truncS n (ev x)) bx' with _|⟨p,ys⟩<;>first|rfl|(simp only[h2])
    all_goals rfl
  |_=>rfl
 case ovl x y=>
  have key:∀(u:AV),(∀b,b∈lvl u->bx b=bx' b)->∀b lo n c sz,Et u=some (b,lo,n,c,sz)->bx b=bx' b:=by
   intro u hu b lo n c sz hs;unfold Et at hs;split at hs
   ·cases hs;exact hu _ (by simp[lvl])
   ·cases hs;exact hu _ (by simp[lvl])
   ·cases hs
  have k1:=key (ev x) (λb hb'=>hb b (by simp[nM.rd,hb']));have k2:=key (ev y) (λb hb'=>hb b (by simp[nM.rd,hb']));simp only[nM.f,UW];generalize Et (ev x)=u at k1;generalize Et (ev y)=v at k2;rcases u with _|⟨b,lo,n,c,sz⟩<;>rcases v with _|⟨b',lo',n',c',sz'⟩<;>try rfl
  simp only[k1 b lo n c sz rfl,k2 b' lo' n' c' sz' rfl]
 case Yu sz zs x=>
  simp only[nM.f,F5];cases hs:ev x with
  | one y=>
    cases y
    case own b n sz'=>simp only[Et,hb b (by simp[nM.rd,lvl,hs])]
    case sub b lo n c sz'=>simp only[Et,hb b (by simp[nM.rd,lvl,hs])]
    all_goals rfl
  |_=>rfl
 all_goals rfl
theorem adE {e e':pF->Slot}(op:nM)(he:∀x,x∈op.pz->e x=e' x)(h:op.valid e):op.valid e':=by
 cases op
 case pick c a b=>have h1:=he c (by simp[nM.pz]);have h2:=he a (by simp[nM.pz]);have h3:=he b (by simp[nM.pz]);simp only[nM.valid,h1,h2,h3]at h⊢;exact h
 all_goals exact λx hx=>he x hx▸h x hx
theorem afl {x y:AC}(h:Cv bx x y)(hb:∀b,b∈pO [x]->bx b=bx' b):Cv bx' x y:=by
 cases h with
 |refl=>exact .refl _
 |jI sz=>exact .jI sz
 |own b n sz es ha hn=>exact .own b n sz es (by rw[<- hb b (by simp[pO])];exact ha) hn
theorem afR {xs ys:List AC}(h:CvL bx xs ys)(hb:∀b,b∈pO xs->bx b=bx' b):CvL bx' xs ys:=by
 induction h with
 |nil=>exact .nil
 |cons h t ih=>exact .cons (afl h λb hb'=>hb b (Eg.2 (.inl hb'))) (ih λb hb'=>hb b (Eg.2 (.inr hb')))
theorem afP {x y:AV}(h:CvA bx x y)(hb:∀b,b∈x.owns->bx b=bx' b):CvA bx' x y:=by
 cases h with
 |one h=>exact .one (afl h hb)
 |agg h=>exact .agg (afR h hb)
theorem Ux {xs ys:List AV}(h:KP bx xs ys)(hb:∀b,b∈xs.flatMap AV.owns->bx b=bx' b):KP bx' xs ys:=by
 induction h with
 |nil=>exact .nil
 |cons h t ih=>exact .cons (afP h λb hb'=>hb b (by rw[bz];exact mW _ hb')) (ih λb hb'=>hb b (by rw[bz];exact kK _ hb'))
end
structure Qc where
 rd:List Nat
 wr:List Nat
 outs:Slot->List (Nat×Box)->Prop
inductive Gt (P:Program)(f:FuncId)(wo:List AV)(p:Bool)(bx:Nat->Box):Qc->Prop
 |lit (ds:List AV) (r:AV) (hc:p=true->KP bx wo ds) (hd:ds.all (·.all AC.yf)=true) (h:p=true->dY P f ds r) (hr:r.all AC.isLit=true) :
  Gt P f wo p bx ⟨wo.flatMap AV.owns,[],λs bs=>s = .v p r/\bs=[]⟩
 |pure (ds:List AV) (r:AV) (hp:p=true) (hc:KP bx wo ds) (hd:ds.all (·.all AC.yf)=true) (h:dY P f ds r) (hr:r.all AC.yf=true) :
  Gt P f wo p bx ⟨wo.flatMap AV.owns,wo.flatMap AV.owns,λs bs=>s = .v true r/\bs=(wo.flatMap AV.owns).map λb=>(b,He (bx b))⟩
 |gen (hp:p=true) (ds:List AV) (fp:List Box) (sg nu:List Nat) (post:AV->List Box->Prop)
  (hl:sg.length=fp.length) (hn:(sg++nu).Nodup) (hf:∀i,i<fp.length->bx ((sg++nu).getD i 0)=D6 (λb=>(sg++nu).getD b 0) (fp.getD i .absent))
  (hne:∃r bs,post r bs) (hv:∀b,b∈nu->bx b = .absent/\10<=b) (hra:(ds.all λx=>x.all (AC.wH fp.length))=true) (hrf:fp.all (Box.wH fp.length)=true) (ha:wo=ds.map (Es λb=>(sg++nu).getD b 0)) (h:kV P f ds fp post)
  (hlen:∀r bs,post r bs->bs.length=(sg++nu).length) :
  Gt P f wo p bx ⟨sg++nu,sg++nu,λs bs=>∃r bs',post r bs'/\s = .v true (Es (λb=>(sg++nu).getD b 0) r)/\bs=(sg++nu).zip (bs'.map (D6 λb=>(sg++nu).getD b 0))⟩
 |Pz (hp:p=true) (az:List AV) (hc:KP bx wo az) (ds:List AV) (fp:List Box) (sg nu:List Nat) (post:AV->List Box->Prop)
     (hl:sg.length=fp.length) (hn:(sg++nu).Nodup) (hf:∀i,i<fp.length->(if(sg++nu).getD i 0∈wo.flatMap AV.owns then He (bx ((sg++nu).getD i 0))else bx ((sg++nu).getD i 0))=D6 (λb=>(sg++nu).getD b 0) (fp.getD i .absent))
     (hne:∃r bs,post r bs) (hv:∀b,b∈nu->bx b = .absent/\10<=b) (hra:(ds.all λx=>x.all (AC.wH fp.length))=true) (hrf:fp.all (Box.wH fp.length)=true) (ha:az=ds.map (Es λb=>(sg++nu).getD b 0)) (h:kV P f ds fp post)
     (hlen:∀r bs,post r bs->bs.length=(sg++nu).length) :
     Gt P f wo p bx ⟨wo.flatMap AV.owns++(sg++nu),wo.flatMap AV.owns++(sg++nu),λs bs=>∃r bs',post r bs'/\s = .v true (Es (λb=>(sg++nu).getD b 0) r) /\
      bs=((wo.flatMap AV.owns).map λb=>(b,He (bx b)))++(sg++nu).zip (bs'.map (D6 λb=>(sg++nu).getD b 0))⟩
def NZ (P:Program)(o:mY)(st:iH)(D:Qc):Prop:=
 DR st.tm o.g/\match o.i with
  |.op op=>(vI st.tm o.g=true->op.valid (pF.ev st.tm)/\(op.f (fA st.tm) st.bx).vc /\
   D=⟨op.rd (fA st.tm),(op.f (fA st.tm) st.bx).sets.map (·.1),λs bs=>s = .v true (op.f (fA st.tm) st.bx).v/\bs=(op.f (fA st.tm) st.bx).sets⟩) /\
   (vI st.tm o.g=false->D=⟨[],[],λs bs=>s = .v false (.one .JC)/\bs=[]⟩)
  |.call f args=>(vI st.tm o.g=true->∀x,x∈args->(x.ev st.tm).g=true)/\Gt P f (args.map (fA st.tm)) (vI st.tm o.g) st.bx D
  | .GN x args=>(vI st.tm o.g=true->(x.ev st.tm).g=true/\∀x,x∈args->(x.ev st.tm).g=true)/\match vI st.tm o.g,fA st.tm x with
    |false,_=>Gt P 0 [] false st.bx D
    |true,.one (.fn f caps)=>AA P f=true/\Gt P f (args.map (fA st.tm)++caps.map λb=>.one (.ptr b 0)) true st.bx D
    |true,_=>False
section
variable {P:Program} {st st':iH} {K:List Nat->List Nat->iH->Prop}
theorem OW {f:FuncId}{wo:List AV}{p:Bool}{d:Option Nat} : L8 P f wo p d st K<->∃D,Gt P f wo p st.bx D/\∀s bs,D.outs s bs->K D.rd D.wr ((st.um bs).AL d s):=by
 constructor
 ·intro h;cases h with
  |lit ds r hc hd hh hr k=>exact⟨_,.lit ds r hc hd hh hr,λs bs ⟨h1,h2⟩=>by subst h1;subst h2;exact k⟩
  |pure ds r hp hc hd hh hr k=>exact⟨_,.pure ds r hp hc hd hh hr,λs bs ⟨h1,h2⟩=>by subst h1;subst h2;rw[EE];exact k⟩
  | Pz hp az hc ds fp sg nu post hl hn hf hne hv hra hrf ha hh k=>exact⟨_,.Pz hp az hc ds fp sg nu post hl hn hf hne hv hra hrf ha hh (λr bs hp=>(k r bs hp).1),λs bs ⟨r,bs',hp,h1,h2⟩=>by subst h1;subst h2;rw[IQ,EE];exact(k r bs' hp).2⟩
  | gen hp ds fp sg nu post hl hn hf hne hv hra hrf ha hh k=>exact⟨_,.gen hp ds fp sg nu post hl hn hf hne hv hra hrf ha hh (λr bs hp=>(k r bs hp).1),λs bs ⟨r,bs',hp,h1,h2⟩=>by subst h1;subst h2;exact(k r bs' hp).2⟩
 ·rintro⟨D,hD,hk⟩;cases hD with
  |lit ds r hc hd hh hr=>exact .lit ds r hc hd hh hr (hk _ _ ⟨rfl,rfl⟩)
  |pure ds r hp hc hd hh hr=>exact .pure ds r hp hc hd hh hr (by have:=hk _ _ ⟨rfl,rfl⟩;rw[EE]at this;exact this)
  | Pz hp az hc ds fp sg nu post hl hn hf hne hv hra hrf ha hh hlen=>exact .Pz hp az hc ds fp sg nu post hl hn hf hne hv hra hrf ha hh (λr bs hp=>⟨hlen r bs hp,by have:=hk _ _ ⟨r,bs,hp,rfl,rfl⟩;rw[IQ,EE]at this;exact this⟩)
  | gen hp ds fp sg nu post hl hn hf hne hv hra hrf ha hh hlen=>exact .gen hp ds fp sg nu post hl hn hf hne hv hra hrf ha hh (λr bs hp=>⟨hlen r bs hp,hk _ _ ⟨r,bs,hp,rfl,rfl⟩⟩)
theorem I7 {o:mY} : T P o st K<->∃D,NZ P o st D/\∀s bs,D.outs s bs->K D.rd D.wr ((st.um bs).AL o.d s):=by
 unfold T NZ;cases o.i with
 | op op=>
   unfold TOp;cases hp:vI st.tm o.g with
   | true=>
     constructor
     ·rintro⟨hg,h1,_⟩;obtain⟨a1,a2,a3⟩:=h1 rfl;exact⟨_,⟨hg,λ_=>⟨a1,a2,rfl⟩,λe=>by cases e⟩,λs bs ⟨e1,e2⟩=>by subst e1;subst e2;exact a3⟩
     ·rintro⟨D,⟨hg,h1,_⟩,hk⟩;obtain⟨a1,a2,rfl⟩:=h1 rfl;exact⟨hg,λ_=>⟨a1,a2,hk _ _ ⟨rfl,rfl⟩⟩,λe=>by cases e⟩
   | false=>
     constructor
     ·rintro⟨hg,_,h2⟩;exact⟨_,⟨hg,(λe=>by cases e),λ_=>rfl⟩,λs bs ⟨e1,e2⟩=>by subst e1;subst e2;exact h2 rfl⟩
     ·rintro⟨D,⟨hg,_,h2⟩,hk⟩;have:=h2 rfl;subst this;exact⟨hg,(λe=>by cases e),λ_=>hk _ _ ⟨rfl,rfl⟩⟩
 | call f args=>
   simp only[wF,OW];constructor
   ·rintro⟨hg,h1,D,h2,h3⟩;exact⟨D,⟨hg,h1,h2⟩,h3⟩
   ·rintro⟨D,⟨hg,h1,h2⟩,h3⟩;exact⟨hg,h1,D,h2,h3⟩
 | GN x args=>
   simp only;cases vI st.tm o.g with
   | false=>
     simp only[wF,OW];constructor
     ·rintro⟨hg,h1,D,h2,h3⟩;exact⟨D,⟨hg,h1,h2⟩,h3⟩
     ·rintro⟨D,⟨hg,h1,h2⟩,h3⟩;exact⟨hg,h1,D,h2,h3⟩
   |true=>
   cases fA st.tm x with
   | one y=>
     cases y
     case fn f caps=>
      simp only[wF,OW];constructor
      ·rintro⟨hg,h1,h0,D,h2,h3⟩;exact⟨D,⟨hg,h1,h0,h2⟩,h3⟩
      ·rintro⟨D,⟨hg,h1,h0,h2⟩,h3⟩;exact⟨hg,h1,h0,D,h2,h3⟩
     all_goals exact⟨λh=>h.2.2.elim,λ⟨D,h,_⟩=>h.2.2.elim⟩
   |_=>exact⟨λh=>h.2.2.elim,λ⟨D,h,_⟩=>h.2.2.elim⟩
theorem Gt.bx {f:FuncId}{wo:List AV}{p:Bool}{bx bx':Nat->Box}{D:Qc}(h:Gt P f wo p bx D)(hb:∀b,b∈D.rd->bx b=bx' b):Gt P f wo p bx' D:=by
 cases h with
 |lit ds r hc hd hh hr=>exact .lit ds r (λe=>Ux (hc e) hb) hd hh hr
 | pure ds r hp hc hd hh hr=>have e:((wo.flatMap AV.owns).map λb=>(b,He (bx b)))=(wo.flatMap AV.owns).map λb=>(b,He (bx' b)):=qp λb hb'=>(by rw[hb b hb']);simp only[e];exact .pure ds r hp (Ux hc hb) hd hh hr
 | Pz hp az hc ds fp sg nu post hl hn hf hne hv hra hrf ha hh hlen=>
   have e:((wo.flatMap AV.owns).map λb=>(b,He (bx b)))=(wo.flatMap AV.owns).map λb=>(b,He (bx' b)):=qp λb hb'=>(by rw[hb b (mW _ hb')]);simp only[e];refine .Pz hp az (Ux hc λb hm=>hb b (mW _ hm)) ds fp sg nu post hl hn (λi hi=>?_) hne (λb hm=>?_) hra hrf ha hh hlen
   ·rw[<- hb]
    ·exact hf i hi
    ·show(sg++nu).getD i 0∈wo.flatMap AV.owns++(sg++nu);have:i<(sg++nu).length:=(by simp;omega);rw[qY,aF this];exact kK _ (dJ this)
   ·rw[<- hb b (kK _ (kK _ hm))];exact hv b hm
 | gen hp ds fp sg nu post hl hn hf hne hv hra hrf ha hh hlen=>
   refine .gen hp ds fp sg nu post hl hn (λi hi=>?_) hne (λb hm=>?_) hra hrf ha hh hlen
   ·rw[<- hb]
    ·exact hf i hi
    ·show(sg++nu).getD i 0∈sg++nu;have:i<(sg++nu).length:=(by simp;omega);rw[qY,aF this];exact dJ this
   ·rw[<- hb b (kK _ hm)];exact hv b hm
theorem Gt.ne {f:FuncId}{wo:List AV}{p:Bool}{bx:Nat->Box}{D:Qc}(h:Gt P f wo p bx D):∃s bs,D.outs s bs:=by
 cases h with
 |lit=>exact⟨_,_,rfl,rfl⟩
 |pure=>exact⟨_,_,rfl,rfl⟩
 |gen hp ds fp sg nu post hl hn hf hne=>obtain⟨r,bs,h⟩:=hne;exact⟨_,_,r,bs,h,rfl,rfl⟩
 |Pz hp az hc ds fp sg nu post hl hn hf hne=>obtain⟨r,bs,h⟩:=hne;exact⟨_,_,r,bs,h,rfl,rfl⟩
theorem Gt.fst {f:FuncId}{wo:List AV}{p:Bool}{bx:Nat->Box}{D:Qc}(h:Gt P f wo p bx D){s:Slot}{bs:List (Nat×Box)}(ho:D.outs s bs):∀b,b∈bs.map (·.1)->b∈D.wr:=by
 cases h with
 |lit=>obtain⟨_,rfl⟩:=ho;intro b hb;simp at hb
 |pure=>obtain⟨_,rfl⟩:=ho;intro b hb;simpa using hb
 | Pz hp az hc ds fp sg nu post hl hn hf hne=>
   obtain⟨r,bs',_,_,rfl⟩:=ho;intro b hb;rw[List.map_append,aV]at hb;rcases hb with hb|hb
   ·exact mW _ (by simpa using hb)
   ·obtain⟨x,hx,rfl⟩:=pI.1 hb;exact kK _ (List.of_mem_zip (a:=x.1) (b:=x.2) hx).1
 | gen hp ds fp sg nu post hl hn hf hne=>obtain⟨r,bs',_,_,rfl⟩:=ho;intro b hb;obtain⟨x,hx,rfl⟩:=pI.1 hb;exact(List.of_mem_zip (a:=x.1) (b:=x.2) hx).1
theorem NZ.ne {o:mY}{D:Qc}(h:NZ P o st D):∃s bs,D.outs s bs:=by
 obtain⟨_,h⟩:=h;split at h
 ·cases hp:vI st.tm o.g with
  |true=>obtain⟨_,_,rfl⟩:=h.1 hp;exact⟨_,_,rfl,rfl⟩
  |false=>have:=h.2 hp;subst this;exact⟨_,_,rfl,rfl⟩
 ·exact h.2.ne
 ·obtain⟨_,h⟩:=h;split at h
  ·exact h.ne
  ·exact h.2.ne
  ·exact h.elim
theorem NZ.fst {o:mY}{D:Qc}(h:NZ P o st D){s:Slot}{bs:List (Nat×Box)}(ho:D.outs s bs):∀b,b∈bs.map (·.1)->b∈D.wr:=by
 obtain⟨_,h⟩:=h;split at h
 ·cases hp:vI st.tm o.g with
  |true=>obtain⟨_,_,rfl⟩:=h.1 hp;obtain⟨_,rfl⟩:=ho;exact λb hb=>hb
  |false=>have:=h.2 hp;subst this;obtain⟨_,rfl⟩:=ho;exact λb hb=>hb
 ·exact h.2.fst ho
 ·obtain⟨_,h⟩:=h;split at h
  ·exact h.fst ho
  ·exact h.2.fst ho
  ·exact h.elim
def Qa.slots (i:Qa):List Nat:=match i with
 |Qa.op o=>o.pz.flatMap pF.slots
 |Qa.call _ args=>args.flatMap pF.slots
 |Qa.GN x args=>x.slots++args.flatMap pF.slots
def mY.slots (o:mY):List Nat:=o.g.toList.map (·.1)++o.i.slots
def mY.acz (o:mY):Bool:=match o.i with
 |Qa.op _=>true
 |_=>false
theorem YU {tm tm':Nat->Slot}{x:pF}(h:∀t,t∈x.slots->tm t=tm' t):x.ev tm=x.ev tm':=by
 cases x with
 |t s=>exact h s (by simp[pF.slots])
 |k x=>rfl
theorem ab9 {tm tm':Nat->Slot}{g:Option (Nat×Bool)}(h:∀t,t∈g.toList.map (·.1)->tm t=tm' t):(DR tm g<->DR tm' g)/\vI tm g=vI tm' g:=by
 cases g with
 |none=>exact⟨Iff.rfl,rfl⟩
 | some p=>obtain⟨s,w⟩:=p;have:=h s (by simp);simp only[DR,vI,this,and_self,iff_self]
theorem NZ.local {o:mY}{D:Qc}(h:NZ P o st D)(ht:∀t,t∈o.slots->st.tm t=st'.tm t)(hb:∀b,b∈D.rd->st.bx b=st'.bx b):NZ P o st' D:=by
 unfold NZ at h⊢;obtain⟨hg1,hg2⟩:=ab9 (tm:=st.tm) (tm':=st'.tm) (g:=o.g) (λt h'=>ht t (mW _ h'));have ht':∀t,t∈o.i.slots->st.tm t=st'.tm t:=λt h'=>ht t (kK _ h');refine⟨hg1.1 h.1,?_⟩;obtain⟨_,h⟩:=h;rw[hg2]at h;cases hi:o.i with
 | op op=>simp only[hi,Qa.slots]at h ht'⊢;have he:∀x,x∈op.pz->pF.ev st.tm x=pF.ev st'.tm x:=λx hx=>YU λt hm=>ht' t (AZ.2 ⟨x,hx,hm⟩);have hea:∀x,x∈op.pz->fA st.tm x=fA st'.tm x:=λx hx=>(by unfold fA;rw[he x hx]);obtain⟨h1,h2⟩:=h;refine⟨λe=>?_,h2⟩;obtain⟨a1,a2,rfl⟩:=h1 e;have hf:op.f (fA st.tm) st.bx=op.f (fA st'.tm) st'.bx:=(ahy op hb).trans (ahz op hea);rw[hf]at a2;refine⟨adE op he a1,a2,?_⟩;rw[hf,aha op hea]
 | call f args=>simp only[hi,Qa.slots]at h ht'⊢;have he:∀x,x∈args->pF.ev st.tm x=pF.ev st'.tm x:=λx hx=>YU λt hm=>ht' t (AZ.2 ⟨x,hx,hm⟩);have hm:args.map (fA st.tm)=args.map (fA st'.tm):=qp λx hx=>(by unfold fA;rw[he x hx]);rw[hm]at h;exact⟨λe x hx=>he x hx▸h.1 e x hx,h.2.bx hb⟩
 | GN x args=>
   simp only[hi,Qa.slots]at h ht'⊢;have he:∀x,x∈args->pF.ev st.tm x=pF.ev st'.tm x:=λx hx=>YU λt hm=>ht' t (kK _ (AZ.2 ⟨x,hx,hm⟩));have hex:pF.ev st.tm x=pF.ev st'.tm x:=YU λt hm=>ht' t (mW _ hm);have hm:args.map (fA st.tm)=args.map (fA st'.tm):=qp λx hx=>(by unfold fA;rw[he x hx]);have hmx:fA st.tm x=fA st'.tm x:=(by unfold fA;rw[hex]);obtain⟨h1,h2⟩:=h;rw[hm,hmx]at h2;refine⟨λe=>⟨hex▸(h1 e).1,λy hy=>he y hy▸(h1 e).2 y hy⟩,?_⟩;split at h2
   ·exact h2.bx hb
   ·exact⟨h2.1,h2.2.bx hb⟩
   ·exact h2.elim
theorem NZ.det {o:mY}{D D':Qc}(hop:o.acz=true)(h:NZ P o st D)(h':NZ P o st D'):D=D':=by
 unfold NZ at h h';unfold mY.acz at hop;cases hi:o.i with
 | op op=>
   rw[hi]at h h';cases hp:vI st.tm o.g with
   |true=>exact(h.2.1 hp).2.2.trans (h'.2.1 hp).2.2.symm
   |false=>exact(h.2.2 hp).trans (h'.2.2 hp).symm
 |call f args=>rw[hi]at hop;cases hop
 |GN x args=>rw[hi]at hop;cases hop
end
end
end Go.Ab
