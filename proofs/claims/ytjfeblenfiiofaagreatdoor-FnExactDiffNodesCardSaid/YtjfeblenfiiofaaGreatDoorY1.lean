/- What abstract values, states and codes of the program's language mean, and that they are sound (part 1). No conditions. -/
import Derived.Below
import Derived.OwnWalk
import Derived.Orders
import Derived.Lib.Bytealg
import Derived.Lib.Overlaps
import Derived.Laws.Externs
import Derived.KernelRfl
import Derived.Lib.ItoaNum
import Derived.Laws.Cells
import Derived.Lib.Strings
import Derived.Laws.BytesString
import Derived.Laws.MakeOwn
import Derived.Laws.Tables
import Derived.Laws.CopyRow
import Derived.Laws.AppendOwn
import Derived.Laws.OwnMore
import Derived.Tactics
import Derived.Shelf.Strings.Builder1
import Derived.Shelf.Strconv.Itoa3
import Derived.Lib.AppendIntMem
import Derived.Test.YtjfeblenfiiofaaGreatDoorProg
import Derived.Lib.ItoaLen
import Derived.ProofKit
import Derived.Lib.LaidTab
import Derived.OpenShut
import Derived.Carry
import Derived.Stop.LaidErr
import Derived.Shelf.Vars
import Derived.Test.YtjfeblenfiiofaaGreatDoorCards
import Derived.Test.YtjfeblenfiiofaaGreatDoorTie
import Derived.Deep.DeepHandedRow
import Derived.Deep.DeepWitnessRowRef
import Derived.Lay
set_option linter.unusedVariables false
set_option linter.unusedSimpArgs false
open Array renaming getElem?_eq_some_iff->bP,getD_eq_getD_getElem?->bQ,getElem?_eq_getElem->iC,length_toList->iU,getElem?_map->jT,getElem?_range->kC,range->nP,getElem?_toList->oI,getElem?_eq_none->ou,empty_append->pX,size_append->uC,ext'->uo,getElem?_push->wJ
open BitVec renaming ofInt->wY
open Bool renaming and_eq_true->af,not_eq_true'->gy,false_eq_true->jU
open Go.Act renaming put->fA
open Go.Addr renaming add->x8
open Go.Builtin renaming zeroCells->bM,firstCells->dO,append_->fB,copy_->iQ,lenOf->lT,clear_->xx,len_->yJ
open Go.Deferred renaming ofValue->sQ
open Go.Extern renaming findNext->nZ,allNextRows->oJ,allGenericRows->pV,find->qj,allTypedRows->rf,allRows->xy
open Go.Extern.SlicesOverlaps renaming overlaps->qi
open Go.Instr renaming sureAddr->gz,loadAt->kD,fill->lZ,indexAt->oN,sliceAt->rE,sliceBounds->rZ,fieldAt->uK,storeAt->uM,alloc->vU,slice->vV,field->yS,extract->yl
open Go.IntKind renaming i64->qo
open Go.Lib renaming compareBytes->jI
open Go.Op renaming bytesLess->fC,equalIn->uq,intArith->yT
open Go.Result renaming andThen_ok->aN
open Go.Sem renaming run_pure->aX,run_bind->bF
open Go.Value renaming pointer->kL,cells->lM,int->xe
open Go.World renaming cell?->dR
open Int renaming toNat_natCast->ak,natCast_mul->yK,ofNat_le->zW
open List renaming mem_cons->aB,mem_map->aF,all_eq_true->aH,mem_filter->aJ,mem_cons_self->aK,map_cons->aP,getElem?_append_left->aU,mem_append->aV,replicate->aY,getElem?_eq_getElem->aj,getElem?_eq_some_iff->ax,mem_filterMap->bH,getElem?_append_right->bJ,getElem?_take->bf,getElem?_map->bn,getD->bu,getElem?_drop->dA,mem_of_mem_take->dG,eq_nil_of_length_eq_zero->dK,mem_of_getElem?->dL,length_take->dW,map_nil->gV,getElem?_eq_none->gp,all_cons->iD,length_append->iM,mem_of_mem_drop->iR,map_toArray->je,size_toArray->kF,length_nil->lC,mem_or_eq_of_mem_set->lD,getElem?_set->lI,length_cons->lU,getElem?_of_mem->nH,eq_of_mem_replicate->nK,length_map->nX,nil_append->nY,map_take->oO,append_nil->pI,getElem?_range->pK,append_assoc->qM,replicate_succ->sU,getElem?_zip_eq_some->uu,length_replicate->vG,take_zero->vY
open List.cons renaming injEq->pJ
open Nat renaming mul_one->Be,le_refl->aA,mul_le_mul_right->aC,min->bZ,add_mul->bg,zero_add->dh,lt_of_lt_of_le->gQ,beq->jk,add_zero->kN,add_assoc->lH,mod_eq_of_lt->oP,mul_comm->oh,add_comm->pR,mul_add->sV,le_of_not_lt->uQ,lt_irrefl->uw,mod_lt->uy,min_comm->xg
open Option renaming map_some->iH,map_none->ig,isNone_iff_eq_none->nI
open Option.some renaming injEq->aG
open Prod.mk renaming injEq->bV
open UInt8 renaming ofNat->iW
namespace Go.Ab
open Go
abbrev IH :=Nat->Option (Array Value)
def IH.cell (I:IH)(a:Addr):Option Value:=
 if a.spot.isSome then none else match I a.block with
  |some c=>c[a.off]?
  |none=>none
def IH.le (I J:IH):Prop:=∀b c,I b=some c->J b=some c
theorem IH.le_refl (I:IH):I.le I:=λ_ _ h=>h
theorem IH.le_trans {I J K:IH}(h:I.le J)(k:J.le K):I.le K:=λb c e=>k b c (h b c e)
theorem IH.EY {I J:IH}(h:I.le J){a:Addr}{v:Value}(hc:I.cell a=some v):J.cell a=some v:=by
 unfold IH.cell at *;split at hc
 ·cases hc
 ·cases hb:I a.block with
  |none=>simp[hb]at hc
  |some c=>simp[hb]at hc;rename_i hs;simp[hs,h _ _ hb,hc]
def Agree (I:IH)(w:World):Prop:=∀b c,I b=some c->∃e fr,w.heap[b]? = some (.cells c e fr)
theorem Agree.cell {I:IH}{w:World}(h:Agree I w){a:Addr}{v:Value}(hc:I.cell a=some v):w.cell? a=some v:=by
 unfold IH.cell at hc;split at hc
 ·cases hc
 ·cases hb:I a.block with
  |none=>simp[hb]at hc
  | some c=>obtain⟨e,fr,hw⟩:=h _ _ hb;rename_i hs;simp[hb]at hc;simp[dR,hw,hs,hc]
theorem uk {w:World}{b:Nat}{o:Obj}(h:w.heap[b]? = some o):b<w.heap.size:=(bP.1 h).1
theorem Agree.lt {I:IH}{w:World}(h:Agree I w){b:Nat}{c:Array Value}(hc:I b=some c):b<w.heap.size:=by obtain⟨e,fr,hw⟩:=h _ _ hc;exact uk hw
inductive Cell where
 |lit (v:Value)
 |str (l:List UInt8)
 |sl (sz:Nat) (es:List (List Cell))
 deriving Inhabited
inductive Rd (I:IH):Value->Cell->Prop
 |lit (v:Value) (hv:v.oneCell'=true):Rd I v (.lit v)
 |str (l:List UInt8) (h:l.length<=maxLen):Rd I (.string ⟨⟨l⟩⟩) (.str l)
 |sl (a:Option Addr) (len cap sz:Nat) (es:List (List Cell)) (u:Nat->Nat->Value)
     (hlen:es.length=len) (hcap:len<=cap) (hmax:cap<=maxLen) (hsz:∀e,e∈es->e.length=sz)
     (ha:0<len->a≠none)
     (hcell:∀ad,a=some ad->∀i j,i<len->j<sz->I.cell (ad.add (i*sz+j))=some (u i j))
     (hr:∀i j c,(es.getD i [])[j]? = some c->Rd I (u i j) c):Rd I (.slice a len cap) (.sl sz es)
theorem Rd.mono {I J:IH}(hle:I.le J){v:Value}{c:Cell}(h:Rd I v c):Rd J v c:=by
 induction h with
 |lit v hv=>exact .lit v hv
 |str l h=>exact .str l h
 | sl a len cap sz es u hlen hcap hmax hsz ha hcell hr ih=>exact .sl a len cap sz es u hlen hcap hmax hsz ha (λad e i j hi hj=>IH.EY hle (hcell ad e i j hi hj)) ih
theorem Rd.one {I:IH}{v:Value}{c:Cell}(h:Rd I v c):v.oneCell'=true:=by
 cases h with
 |lit v hv=>exact hv
 |str l h=>rfl
 |sl=>rfl
inductive AC where
 |c (x:Cell)
 |ptr (b off:Nat)
 |own (b n sz:Nat)
 |uI (b i sz off:Nat)
 |sub (b lo n:Nat) (c:Option Nat) (sz:Nat)
 |xh (sz:Nat)
 |zC (cs:List Cell)
 |fn (f:FuncId) (caps:List Nat)
 |opt (T b:Nat)
 |F9 (b n:Nat)
 |err (g:Bool)
 |Em
 deriving Inhabited
abbrev Ren :=Nat->Option (Nat×Nat)
def Ren.le (ρ σ:Ren):Prop:=∀b x,ρ b=some x->σ b=some x
theorem Ren.le_refl (ρ:Ren):ρ.le ρ:=λ_ _ h=>h
def GC (I:IH)(ρ:Ren)(v:Value):AC->Prop
 |.c x=>Rd I v x
 |.ptr b off=>∃k cap,ρ b=some (k,cap)/\v = .pointer (some ⟨k,off,none⟩)
 |.own b n _=>∃k cap a c,ρ b=some (k,cap)/\v = .slice a n c/\n<=c/\c<=cap/\(cap≠0->a=some ⟨k,0,none⟩)
 |.uI b i sz off=>∃k cap,ρ b=some (k,cap)/\v = .pointer (some ⟨k,i*sz+off,none⟩)
 |.sub b lo n c sz=>∃k cap a c',ρ b=some (k,cap)/\v = .slice a n c'/\n<=c'/\lo+c'<=cap/\(∀c0,c=some c0->c'=c0)/\(c'≠0\/(lo=0/\cap≠0)->a=some ⟨k,lo*sz,none⟩)
 |.xh _=>v = .slice none 0 0
 |.zC cs=>∃p:Addr,v = .pointer (some p)/\∀(j:Nat) (c:Cell),cs[j]? = some c->∃u,I.cell (p.add j)=some u/\Rd I u c
 |.fn f caps=>∃ks:List Nat,ks.length=caps.length/\(∀(j b k:Nat),caps[j]? = some b->ks[j]? = some k->∃cap,ρ b=some (k,cap)) /\
  v = .func (.func f) #[] (ks.map λk=>kL (some ⟨k,0,none⟩)).toArray
 |.opt T b=>∃k,ρ b=some (k,T)/\(v = .pointer none\/v = .pointer (some ⟨k,0,none⟩))
 |.F9 b n=>∃k cap,ρ b=some (k,cap)/\n<=cap/\((cap=0/\v = .slice none 0 0)\/(cap≠0/\v = .slice (some ⟨k,0,none⟩) n cap))
 |.err g=>if g=true then ∃t p,v = .iface t p else v = .nilIface
 |.Em=>v.oneCell'=true
theorem GC.mono {I J:IH}(hle:I.le J){ρ σ:Ren}(hr:ρ.le σ){v:Value}{x:AC}(h:GC I ρ v x):GC J σ v x:=by
 cases x with
 |c x=>exact Rd.mono hle h
 |ptr b off=>obtain⟨k,cap,h1,h2⟩:=h;exact⟨k,cap,hr _ _ h1,h2⟩
 |own b n sz=>obtain⟨k,cap,a,c,h1,h2⟩:=h;exact⟨k,cap,a,c,hr _ _ h1,h2⟩
 |uI b i sz off=>obtain⟨k,cap,h1,h2⟩:=h;exact⟨k,cap,hr _ _ h1,h2⟩
 |sub b lo n c sz=>obtain⟨k,cap,a,c',h1,h2⟩:=h;exact⟨k,cap,a,c',hr _ _ h1,h2⟩
 |xh sz=>exact h
 | zC cs=>obtain⟨p,hv,hc⟩:=h;exact⟨p,hv,λj c hj=>let ⟨u,h1,h2⟩:=hc j c hj;⟨u,IH.EY hle h1,h2.mono hle⟩⟩
 | fn f caps=>obtain⟨ks,h1,h2,h3⟩:=h;exact⟨ks,h1,λj b k hb hk=>let ⟨cap,hc⟩:=h2 j b k hb hk;⟨cap,hr _ _ hc⟩,h3⟩
 |opt T b=>obtain⟨k,h1,h2⟩:=h;exact⟨k,hr _ _ h1,h2⟩
 |F9 b n=>obtain⟨k,cap,h1,h2⟩:=h;exact⟨k,cap,hr _ _ h1,h2⟩
 |err g=>exact h
 |Em=>exact h
theorem GC.one {I:IH}{ρ:Ren}{v:Value}{x:AC}(h:GC I ρ v x):v.oneCell'=true:=by
 cases x with
 |c x=>exact Rd.one h
 |ptr b off=>obtain⟨k,cap,h1,rfl⟩:=h;rfl
 |own b n sz=>obtain⟨k,cap,a,c,h1,rfl,_⟩:=h;rfl
 |uI b i sz off=>obtain⟨k,cap,h1,rfl⟩:=h;rfl
 |sub b lo n c sz=>obtain⟨k,cap,a,c',h1,rfl,_⟩:=h;rfl
 |xh sz=>simp only[GC]at h;subst h;rfl
 |zC cs=>obtain⟨p,rfl,hc⟩:=h;rfl
 |fn f caps=>obtain⟨ks,h1,h2,rfl⟩:=h;rfl
 |opt T b=>obtain⟨k,h1,rfl|rfl⟩:=h<;>rfl
 |F9 b n=>obtain⟨k,cap,h1,_,⟨_,rfl⟩|⟨_,rfl⟩⟩:=h<;>rfl
 | err g=>
   simp only[GC]at h;split at h
   ·obtain⟨t,p,rfl⟩:=h;rfl
   ·subst h;rfl
 |Em=>exact h
inductive Box where
 |absent
 |dead
 |var (xs:List AC)
 |dat (sz:Nat) (es:List (List Cell))
 |zL (sz:Nat) (es:List (List Cell))
 |row (e:Nat) (l:List UInt8)
 deriving Inhabited
def Box.uses (x:Box)(p:Option (Nat×Nat))(k:Nat):Prop:=
 match x with
 |.var _=>∃cap,p=some (k,cap)
 |.dat _ _=>∃cap,p=some (k,cap)/\cap≠0
 |.row _ _=>∃cap,p=some (k,cap)/\cap≠0
 |_=>False
def qf (I:IH)(ρ:Ren)(w:World)(b:Nat):Box->Prop
 |.absent=>ρ b=none
 |.dead=>True
 |.var xs=>∃k cap cs,ρ b=some (k,cap)/\w.heap[k]? = some (.cells cs cap (0,0))/\cs.size=xs.length /\
  ∀(j:Nat) (u:Value) (x:AC),cs[j]? = some u->xs[j]? = some x->GC I ρ u x
 |.dat sz es=>∃k cap,ρ b=some (k,cap)/\es.length<=cap/\cap<=maxLen/\(∀e,e∈es->e.length=sz) /\
  (cap≠0->∃cs e,w.heap[k]? = some (.cells cs e (0,0))/\cs.size=cap*sz/\(∀(j:Nat) (u:Value),cs[j]? = some u->u.oneCell'=true) /\
   ∀(i j:Nat) (c:Cell),(es.getD i [])[j]? = some c->∃u,cs[i*sz+j]? = some u/\Rd I u c)
 |.zL sz es=>∃k cap,ρ b=some (k,cap)/\es.length<=cap/\cap<=maxLen/\(∀e,e∈es->e.length=sz) /\
  (cap≠0->∃cs,I k=some cs /\
   ∀(i j:Nat) (c:Cell),(es.getD i [])[j]? = some c->∃u,cs[i*sz+j]? = some u/\Rd I u c)
 |.row e l=>∃k cap,ρ b=some (k,cap)/\l.length<=cap/\cap<=maxLen /\
  (cap≠0->∃cs,w.heap[k]? = some (.cells cs e (0,0))/\cs.size=cap/\(∀(j:Nat) (u:Value),cs[j]? = some u->u.oneCell'=true) /\
   ∀(j:Nat) (x:UInt8),l[j]? = some x->cs[j]? = some (.int .u8 x.toNat))
structure BX (I:IH)(ρ:Ren)(w:World)(bx:Nat->Box):Prop where
 ok:∀b,qf I ρ w b (bx b)
 inj:∀b b' k,(bx b).uses (ρ b) k->(bx b').uses (ρ b') k->b=b'
 fresh:∀b k,(bx b).uses (ρ b) k->I k=none
theorem qf.lt {I:IH}{ρ:Ren}{w:World}{b k:Nat}{x:Box}(h:qf I ρ w b x)(hu:x.uses (ρ b) k):k<w.heap.size:=by
 cases x with
 |absent=>exact hu.elim
 |dead=>exact hu.elim
 | var xs=>obtain⟨k',cap,cs,hr,hw,_⟩:=h;obtain⟨cap',hu⟩:=hu;rw[hr]at hu;simp only[aG,bV]at hu;rw[<- hu.1];exact uk hw
 |zL sz es=>exact hu.elim
 | row e l=>obtain⟨k',cap,hr,_,_,h⟩:=h;obtain⟨cap',hu,h0⟩:=hu;rw[hr]at hu;simp only[aG,bV]at hu;obtain⟨rfl,rfl⟩:=hu;obtain⟨cs,hw,_⟩:=h h0;exact uk hw
 | dat sz es=>obtain⟨k',cap,hr,_,_,_,h⟩:=h;obtain⟨cap',hu,h0⟩:=hu;rw[hr]at hu;simp only[aG,bV]at hu;obtain⟨rfl,rfl⟩:=hu;obtain⟨cs,e,hw,_⟩:=h h0;exact uk hw
inductive AV where
 |one (x:AC)
 |agg (xs:List AC)
 |wF (xs:List (Bool×List AC))
 deriving Inhabited
def EN (I:IH)(ρ:Ren)(vs:List Value)(xs:List AC):Prop:=
 vs.length=xs.length/\∀(j:Nat) (v:Value) (x:AC),vs[j]? = some v->xs[j]? = some x->GC I ρ v x
theorem EN.mono {I J:IH}(hle:I.le J){ρ σ:Ren}(hr:ρ.le σ){vs:List Value}{xs:List AC}(h:EN I ρ vs xs):EN J σ vs xs:=
 ⟨h.1,λj v x hv hx=>(h.2 j v x hv hx).mono hle hr⟩
def GP (I:IH)(ρ:Ren)(v:Value)(p:Bool×List AC):Prop:=
 if p.1 then ∃cs:Array Value,v = .agg cs/\EN I ρ cs.toList p.2 else ∃x,p.2=[x]/\GC I ρ v x
def GV (I:IH)(ρ:Ren)(v:Value):AV->Prop
 |.one x=>GC I ρ v x
 |.agg xs=>∃cs:Array Value,v = .agg cs/\EN I ρ cs.toList xs
 |.wF ps=>∃vs:Array Value,v = .tuple vs/\vs.size=ps.length/\∀(j:Nat) (v:Value) (p:Bool×List AC),vs[j]? = some v->ps[j]? = some p->GP I ρ v p
theorem GP.mono {I J:IH}(hle:I.le J){ρ σ:Ren}(hr:ρ.le σ){v:Value}{p:Bool×List AC}(h:GP I ρ v p):GP J σ v p:=by
 unfold GP at *;split<;>rename_i hp
 ·rw[if_pos hp]at h;obtain⟨cs,e,hc⟩:=h;exact⟨cs,e,hc.mono hle hr⟩
 ·rw[if_neg hp]at h;obtain⟨x,e,hc⟩:=h;exact⟨x,e,hc.mono hle hr⟩
theorem GV.mono {I J:IH}(hle:I.le J){ρ σ:Ren}(hr:ρ.le σ){v:Value}{x:AV}(h:GV I ρ v x):GV J σ v x:=by
 cases x with
 |one x=>exact GC.mono hle hr h
 |agg xs=>obtain⟨cs,e,hc⟩:=h;exact⟨cs,e,hc.mono hle hr⟩
 |wF ps=>obtain⟨vs,e,hl,hc⟩:=h;exact⟨vs,e,hl,λj v p hv hp=>(hc j v p hv hp).mono hle hr⟩
inductive Slot where
 |none
 |v (g:Bool) (x:AV)
def Uh (I:IH)(ρ:Ren)(v:Value):Slot->Prop
 |.none=>True
 |.v g x=>(g=true->GV I ρ v x)/\(g=false->v=undef)
theorem Uh.mono {I J:IH}(hle:I.le J){ρ σ:Ren}(hr:ρ.le σ){v:Value}{s:Slot}(h:Uh I ρ v s):Uh J σ v s:=by
 cases s with
 |none=>trivial
 |v g x=>exact⟨λhg=>(h.1 hg).mono hle hr,h.2⟩
structure dP where
 tm:Nat->Slot
 bx:Nat->Box
theorem dP.ext' {s t:dP}(h1:s.tm=t.tm)(h2:s.bx=t.bx):s=t:=by cases s;cases t;simp at h1 h2;rw[h1,h2]
def dP.put (st:dP)(t:Nat)(s:Slot):dP:=⟨λt'=>if t'=t then s else st.tm t',st.bx⟩
def dP.sN (st:dP)(b:Nat)(x:Box):dP:=⟨st.tm,λb'=>if b'=b then x else st.bx b'⟩
theorem dP.MZ (st:dP)(t t':Nat)(s:Slot):(st.put t s).tm t'=if t'=t then s else st.tm t':=rfl
theorem dP.adO (st:dP)(t:Nat)(s:Slot):(st.put t s).bx=st.bx:=rfl
theorem dP.ace (st:dP)(b:Nat)(x:Box):(st.sN b x).tm=st.tm:=rfl
theorem dP.kX (st:dP)(b b':Nat)(x:Box):(st.sN b x).bx b'=if b'=b then x else st.bx b':=rfl
structure GS (I:IH)(ρ:Ren)(n:Nat)(st:dP)(a:Act)(w:World):Prop where
 agree:Agree I w
 bx:BX I ρ w st.bx
 tm:∀t,t<n->Uh I ρ (a.tmps.getD t undef) (st.tm t)
 size:a.tmps.size=n
 defers:a.defers=[]
structure xK (w w':World)(M:Nat->Prop):Prop where
 os:w'.os=w.os
 tape:w'.tape=w.tape
 output:w'.output=w.output
 size:w.heap.size<=w'.heap.size
 block:∀k,k<w.heap.size->¬M k->w'.heap[k]? = w.heap[k]?
theorem xK.refl (w:World)(M:Nat->Prop):xK w w M:=⟨rfl,rfl,rfl,aA _,λ_ _ _=>rfl⟩
theorem xK.trans {a b c:World}{M N:Nat->Prop}(h:xK a b M)(k:xK b c N)(hN:∀x,x<a.heap.size->N x->M x):xK a c M:=
 ⟨k.os.trans h.os,k.tape.trans h.tape,k.output.trans h.output,Nat.le_trans h.size k.size,
  λx hx hm=>(k.block x (gQ hx h.size) (λhn=>hm (hN x hx hn))).trans (h.block x hx hm)⟩
inductive jK where
 |t (s:Nat)
 |k (x:AC)
 deriving Inhabited
def Slot.g : Slot->Bool
 |.none=>false
 |.v g _=>g
def Slot.x : Slot->AV
 |.none=>.one .Em
 |.v _ x=>x
def jK.ev (tm:Nat->Slot):jK->Slot
 |.t s=>tm s
 |.k x=>.v true (.one x)
def jK.slots : jK->List Nat
 |.t s=>[s]
 |.k _=>[]
inductive jb where
 |mv (x:jK)
 |pick (c a b:jK)
 |load (agg:Bool) (k:Nat) (p:jK)
 |store (agg:Bool) (k:Nat) (p x:jK)
 |alloc (l:Nat) (zs:List AC)
 |IJ (T e l r:Nat)
 |II (l sz n:Nat) (zs:List Cell)
 |box (l:Nat) (x:jK)
 |build (zs:List AC) (parts:List (Nat×Nat×jK))
 |rH (l sz n:Nat) (zs:List Cell) (parts:List (Nat×jK))
 |makes (l sz bytes:Nat) (zs:List Cell) (n m:jK)
 |bin (o:BinOp) (x y:jK)
 |beq (ng:Bool) (x y:jK)
 |not (x:jK)
 |neg (x:jK)
 |N8 (k:IntKind) (x:jK)
 |P7 (x:jK)
 |same (x:jK)
 |Qy (f:FuncId) (caps:List jK)
 |Pe (x:jK) (lo hi:Option jK)
 |Af (sz:Nat) (x:jK) (lo hi:Option jK)
 |O8 (sz n:Nat) (x:jK)
 |OZ (x:jK)
 |ny (off:Nat) (x:jK)
 |field (agg:Bool) (off k:Nat) (x:jK)
 |uT (sz:Nat) (x i:jK)
 |Qq (sz n:Nat) (x i:jK)
 |idxs (x i:jK)
 |extract (x:jK) (i:Nat)
 |len (x:jK)
 |lens (x:jK)
 |max (x y:jK)
 |min (x y:jK)
 |append (l sz bytes:Nat) (s x:jK)
 |copy (sz:Nat) (d x:jK)
 |shf (l:Bool) (x y:jK)
 |Xv (x:jK)
 |tX (sz:Nat) (x:jK) (lo hi:Option jK)
 |sl3 (sz:Nat) (x lo hi mx:jK)
 |TJ (l sz bytes:Nat) (s x:jK)
 |Np (sz:Nat) (d x:jK)
 |Vz (sz:Nat) (zs:List Cell) (x:jK)
 |XA (x y:jK)
 |SH (ng:Bool) (x:jK)
 |ovl (x y:jK)
 |ZM (x y:jK)
 |Ur (l sz bytes:Nat) (zs:List Cell) (s x:jK)
 |stop
 deriving Inhabited
def jb.jV : jb->List jK
 |.mv x|.load _ _ x|.box _ x|.not x|.neg x|.N8 _ x|.P7 x|.same x|.O8 _ _ x|.OZ x|.ny _ x|.field _ _ _ x|.extract x _|.len x|.lens x|.Xv x|.Vz _ _ x|.SH _ x=>[x]
 |.pick c a b=>[c,a,b]
 |.store _ _ p x=>[p,x]
 |.alloc _ _|.IJ _ _ _ _|.II _ _ _ _|.stop=>[]
 |.build _ ps=>ps.map (·.2.2)
 |.rH _ _ _ _ ps=>ps.map (·.2)
 |.makes _ _ _ _ n m=>[n,m]
 |.bin _ x y|.beq _ x y|.uT _ x y|.Qq _ _ x y|.idxs x y|.max x y|.min x y|.append _ _ _ x y|.copy _ x y|.shf _ x y|.TJ _ _ _ x y|.Np _ x y|.XA x y|.ZM x y|.ovl x y|.Ur _ _ _ _ x y=>[x,y]
 |.sl3 _ x a b c=>[x,a,b,c]
 |.Qy _ cs=>cs
 |.Pe x lo hi|.Af _ x lo hi|.tX _ x lo hi=>x::(lo.toList++hi.toList)
structure FR where
 vc:Prop
 v:AV
 sets:List (Nat×Box)
abbrev qh (k:IntKind)(n:Int):AV:=.one (.c (.lit (.int k n)))
abbrev pq (b:Bool):AV:=.one (.c (.lit (.bool b)))
abbrev Dl (l:List UInt8):AV:=.one (.c (.str l))
abbrev vSl (sz:Nat)(es:List (List Cell)):AV:=.one (.c (.sl sz es))
def FR.bad : FR:=⟨False,.one .Em,[]⟩
def FR.ok (v:AV):FR:=⟨True,v,[]⟩
def xR (o:BinOp)(k:IntKind)(a b:Int):FR:=
 match o with
 |.add=>.ok (qh k (k.wrap (a+b)))
 |.sub=>.ok (qh k (k.wrap (a-b)))
 |.mul=>.ok (qh k (k.wrap (a*b)))
 |.quo=>⟨b≠0,qh k (k.wrap (a.tdiv b)),[]⟩
 |.rem=>⟨b≠0,qh k (a.tmod b),[]⟩
 |.xor=>.ok (qh k (k.wrap (wY k.bits a ^^^ wY k.bits b).toNat))
 |.and=>.ok (qh k (k.wrap (wY k.bits a &&& wY k.bits b).toNat))
 |.eql=>.ok (pq (a==b))
 |.neq=>.ok (pq (a != b))
 |.lss=>.ok (pq (decide (a<b)))
 |.leq=>.ok (pq (decide (a<=b)))
 |.gtr=>.ok (pq (decide (b<a)))
 |.geq=>.ok (pq (decide (b<=a)))
 |_=>.bad
def xY (o:BinOp)(a b:List UInt8):FR:=
 match o with
 |.add=>⟨a.length+b.length<=maxLen,Dl (a++b),[]⟩
 |.eql=>.ok (pq (a==b))
 |.neq=>.ok (pq (!(a==b)))
 |.lss=>.ok (pq (fC a b))
 |.leq=>.ok (pq (fC a b||a==b))
 |.gtr=>.ok (pq (!(fC a b||a==b)))
 |.geq=>.ok (pq (!(fC a b)))
 |_=>.bad
def J6 (o:BinOp)(x y:AV):FR:=
 match x,y with
 |.one (.c (.lit (.int k a))),.one (.c (.lit (.int k' b)))=>⟨k=k'/\(xR o k a b).vc,(xR o k a b).v,[]⟩
 |.one (.c (.str a)),.one (.c (.str b))=>xY o a b
 |_,_=>.bad
def RD (neg:Bool)(x y:AV):FR:=
 match x,y with
 |.one (.c (.lit (.bool a))),.one (.c (.lit (.bool b)))=>.ok (pq (if neg then a != b else a==b))
 |_,_=>.bad
def JU (t:Bool)(x y:AV):AV:=
 match x,y with
 |.one (.c (.lit (.bool a))),.one (.c (.lit (.bool b)))=>pq (bif t then a else b)
 |_,_=>if t then x else y
def Box.arr : Box->Option (Nat×List (List Cell))
 |.dat sz es=>some (sz,es)
 |.zL sz es=>some (sz,es)
 |_=>none
def dataOf (bx:Nat->Box):AC->Option Cell
 |.c x=>some x
 |.xh sz=>some (.sl sz [])
 | .own b n sz=>match(bx b).arr with
   |some (_,es)=>some (.sl sz (es.take n))
   |none=>none
 |_=>none
def Dw (bx:Nat->Box):List AC->Option (List Cell)
 |[]=>some []
 | x::r=>match dataOf bx x,Dw bx r with
   |some c,some cs=>some (c::cs)
   |_,_=>none
def kz : List AC->List Nat
 |[]=>[]
 |.own b _ _::r=>b::kz r
 |_::r=>kz r
def BD : Box->Box
 |.dat sz es=>.zL sz es
 |x=>x
def uz (bx:Nat->Box):List AC->Prop
 |[]=>True
 | .own b n sz::r=>(match(bx b).arr with
   |some (sz',es)=>sz'=sz/\n<=es.length
   |none=>False)/\uz bx r
 |_::r=>uz bx r
def Qh (bx:Nat->Box)(l:List Nat):List (Nat×Box):=l.map λb=>(b,BD (bx b))
def AV.cells : AV->List AC
 |.one x=>[x]
 |.agg xs=>xs
 |.wF _=>[]
def AV.flat : AV->Prop
 |.wF _=>False
 |_=>True
def splice {α:Type}(xs:List α)(off:Nat)(ys:List α):List α:=xs.take off++ys++xs.drop (off+ys.length)
def uF (agg:Bool)(k:Nat)(p:AV)(bx:Nat->Box):FR:=
 match p with
 | .one (.ptr b off)=>match bx b with
   | .var xs=>if agg then⟨off+k<=xs.length,.agg ((xs.drop off).take k),[]⟩else match xs[off]? with
     |some x=>.ok (.one x)
     |none=>.bad
   |_=>.bad
 | .one (.uI b i sz off)=>match(bx b).arr with
   | some (sz',es)=>if agg then⟨sz'=sz/\i<es.length/\off+k<=sz,.agg ((((es.getD i []).drop off).take k).map .c),[]⟩
     else⟨sz'=sz/\i<es.length/\off<sz,.one (.c ((es.getD i []).getD off default)),[]⟩
   |_=>.bad
 |.one (.zC cs)=>if agg then⟨k<=cs.length,.agg ((cs.take k).map .c),[]⟩else⟨0<cs.length,.one (.c (cs.getD 0 default)),[]⟩
 |_=>.bad
def uB (agg:Bool)(k:Nat)(p x:AV)(bx:Nat->Box):FR:=
 match x,agg with
 |.wF _,_=>.bad
 |.one _,true=>.bad
 |.agg _,false=>.bad
 | x,_=>match p with
   | .one (.ptr b off)=>match bx b with
     |.var xs=>⟨x.cells.length=k/\off+k<=xs.length,.one .Em,[(b,.var (splice xs off x.cells))]⟩
     |_=>.bad
   | .one (.uI b i sz off)=>match bx b,Dw bx x.cells with
     |.dat sz' es,some cs=>⟨sz'=sz/\cs.length=k/\i<es.length/\off+k<=sz/\uz bx x.cells/\(kz x.cells).contains b=false,.one .Em,Qh bx (kz x.cells)++[(b,.dat sz (es.set i (splice (es.getD i []) off cs)))]⟩
     |_,_=>.bad
   |_=>.bad
def LW {α:Type}(zs:List α):List (Nat×List α)->List α
 |[]=>zs
 |(off,xs)::r=>LW (splice zs off xs) r
def QI (n:Nat):Nat×Nat×AV->Prop
 |(off,sz,x)=>x.cells.length=sz/\off+sz<=n/\x.flat
def uj (ev:jK->AV)(bx:Nat->Box)(n sz:Nat):List (Nat×jK)->Option (List (Nat×List Cell))
 |[]=>some []
 | (i,x)::r=>match Dw bx (ev x).cells,uj ev bx n sz r with
   |some cs,some l=>some ((i,cs)::l)
   |_,_=>none
def oz (ev:jK->AV):List (Nat×jK)->List Nat
 |[]=>[]
 |(_,x)::r=>kz (ev x).cells++oz ev r
def vF (ev:jK->AV)(bx:Nat->Box):List (Nat×jK)->Prop
 |[]=>True
 |(_,x)::r=>uz bx (ev x).cells/\vF ev bx r
def Hl (es:List (List Cell)):List (Nat×List Cell)->List (List Cell)
 |[]=>es
 |(i,cs)::r=>Hl (es.set i cs) r
def bytesOf : List (List Cell)->Option (List UInt8)
 |[]=>some []
 | [.lit (.int .u8 n)]::r=>match bytesOf r with
   |some l=>some (iW n.toNat::l)
   |none=>none
 |_=>none
def BC : List AV->Option (List Nat)
 |[]=>some []
 |.one (.ptr b 0)::r=>(BC r).map (b :: ·)
 |_=>none
def bnd (ev:jK->AV)(o:Option jK)(dflt:Nat):Option Int:=
 match o with
 |none=>some dflt
 | some x=>match ev x with
   |.one (.c (.lit (.int _ n)))=>some n
   |_=>none
def rU (sz:Nat)(x:AV)(bx:Nat->Box):Option (Prop×List (List Cell)):=
 match x with
 |.one (.c (.sl sz' es))=>some (sz'=sz,es)
 |.one (.xh _)=>some (True,[])
 | .one (.own b n sz')=>match(bx b).arr with
   |some (wz,es)=>some (sz'=sz/\wz=sz/\n<=es.length,es.take n)
   |_=>none
 | .one (.sub b lo n _ sz')=>match(bx b).arr with
   |some (wz,es)=>some (sz'=sz/\wz=sz/\lo+n<=es.length,(es.drop lo).take n)
   |_=>none
 |_=>none
def yA : AV->Option (Nat×Nat×Nat×Option Nat×Nat)
 |.one (.own b n sz)=>some (b,0,n,none,sz)
 |.one (.sub b lo n c sz)=>some (b,lo,n,c,sz)
 |_=>none
def QW (l:Bool)(x y:AV):FR:=
 match x,y with
 |.one (.c (.lit (.int k a))),.one (.c (.lit (.int _ b)))=>⟨0<=b,qh k (if l then k.wrap (a*2^(min b.toNat k.bits))else a.fdiv (2^(min b.toNat k.bits))),[]⟩
 |_,_=>.bad
def N7 (x:AV):FR:=
 match x with
 |.one (.sub _ _ _ (some c) _)=>.ok (qh .i64 c)
 |.one (.xh _)=>.ok (qh .i64 0)
 |_=>.bad
def um (sz:Nat)(x:AV)(lo:Option Int)(hi:Nat->Option Int):FR:=
 match yA x with
 | some (b,l,n,c,sz')=>match lo,hi n with
   |some p,some q=>⟨sz'=sz/\0<=p/\p<=q/\q<=(match c with|some c=>c|none=>n:Nat),.one (.sub b (l+p.toNat) (q-p).toNat (c.map (· - p.toNat)) sz),[]⟩
   |_,_=>.bad
 |none=>.bad
def EE (sz:Nat)(x p q m:AV):FR:=
 match yA x,p,q,m with
 |some (_,_,n,c,sz'),.one (.c (.lit (.int _ p))),.one (.c (.lit (.int _ q))),.one (.c (.lit (.int _ m)))=>⟨sz'=sz/\0<=p/\p<=q/\q<=m/\m<=(match c with|some c=>c|none=>n:Nat),.one .Em,[]⟩
 |_,_,_,_=>.bad
def zQ (l sz bytes:Nat)(s x:AV)(bx:Nat->Box):FR:=
 match rU sz x bx,s with
 | some (p,ys),.one (.sub b lo n (some c) sz')=>match bx b with
   | .dat wz es=>if n+ys.length<=c then⟨p/\sz'=sz/\wz=sz/\lo+n<=es.length,.one (.sub b lo (n+ys.length) (some c) sz),[(b,.dat sz (splice es (lo+n) ys))]⟩
     else⟨p/\sz'=sz/\wz=sz/\lo+n<=es.length/\(match bx l with|.absent=>True|_=>False)/\(n+ys.length)*(bytes+sz+1)<=2^46,.one (.own l (n+ys.length) sz),[(l,.dat sz ((es.drop lo).take n++ys))]⟩
   |_=>.bad
 |_,_=>.bad
def truncS (m:Nat):AV->AV
 |.one (.sub b lo n c sz)=>.one (.sub b lo (min n m) c sz)
 |x=>x
def zU (sz:Nat)(d x:AV)(bx:Nat->Box):FR:=
 match yA d with
 | some (b,lo,n,_,sz')=>match rU sz (truncS n x) bx with
   | some (p,ys)=>match bx b with
     |.dat wz es=>⟨p/\sz'=sz/\wz=sz/\lo<=es.length,qh .i64 (bZ ys.length n:Nat),[(b,.dat sz (splice es lo (ys.take n)))]⟩
     |_=>.bad
   |none=>.bad
 |none=>.bad
def zI (l sz bytes:Nat)(zs:List Cell)(s x:AV)(bx:Nat->Box):FR:=
 match s,x with
 | .one (.sub b lo n (some c) sz'),.one (.c (.lit (.int k q)))=>match bx b with
   |.dat wz es=>⟨k = .i64/\sz'=sz/\wz=sz/\lo+n<=es.length/\0<=q/\c<n+q.toNat/\(match bx l with|.absent=>True|_=>False)/\(n+q.toNat)*(bytes+sz+1)<=2^46,
    .one (.own l (n+q.toNat) sz),[(l,.dat sz ((es.drop lo).take n++aY q.toNat zs))]⟩
   |_=>.bad
 |.one (.xh _),.one (.c (.lit (.int k q)))=>⟨k = .i64/\0<q/\(match bx l with|.absent=>True|_=>False)/\q.toNat*(bytes+sz+1)<=2^46,.one (.own l q.toNat sz),[(l,.dat sz (aY q.toNat zs))]⟩
 |_,_=>.bad
def CY (ng:Bool)(x:AV):FR:=
 match x with
 |.one (.err g)=>.ok (pq (if ng then g else !g))
 |_=>.bad
def G9 (x y:AV):FR:=
 match x,y with
 |.one (.c (.str a)),.one (.c (.str b))=>.ok (qh .i64 (jI a b))
 |_,_=>.bad
def Hu (x y:AV):FR:=
 match x,y with
 |.one (.c (.str a)),.one (.c (.lit (.int k c)))=>⟨k = .u8,qh .i64 (Go.Lib.indexByte a c.toNat.toUInt8),[]⟩
 |_,_=>.bad
def QE (x y:AV)(bx:Nat->Box):FR:=
 match yA x,yA y with
 | some (b,_,m,_,_),some (b',_,m',_,_)=>match bx b,bx b' with
   |.dat _ _,.dat sz _=>⟨b≠b'/\sz≠0/\0<m/\0<m',pq false,[]⟩
   |_,_=>.bad
 |_,_=>.bad
def zT (sz:Nat)(zs:List Cell)(d:AV)(bx:Nat->Box):FR:=
 match yA d with
 | some (b,lo,n,_,sz')=>match bx b with
   |.dat wz es=>⟨sz'=sz/\wz=sz/\lo<=es.length,.wF [],[(b,.dat sz (splice es lo (aY n zs)))]⟩
   |_=>.bad
 |none=>.bad
def jb.f (op:jb)(ev:jK->AV)(bx:Nat->Box):FR:=
 match op with
 |.mv x=>.ok (ev x)
 | .pick c a b=>match ev c with
   |.one (.c (.lit (.bool t)))=>.ok (JU t (ev a) (ev b))
   |_=>.bad
 |.load agg k p=>uF agg k (ev p) bx
 |.store agg k p x=>uB agg k (ev p) (ev x) bx
 |.alloc l zs=>⟨(match bx l with|.absent=>True|_=>False),.one (.ptr l 0),[(l,.var zs)]⟩
 |.IJ T e l r=>⟨(match bx l with|.absent=>True|_=>False)/\(match bx r with|.absent=>True|_=>False)/\l≠r,.one (.ptr l 0),[(r,.row e []),(l,.var [.opt T l,.F9 r 0])]⟩
 |.II l sz n zs=>⟨(match bx l with|.absent=>True|_=>False),.one (.uI l 0 sz 0),[(l,.dat sz (aY n zs))]⟩
 |.box l x=>⟨(match bx l with|.absent=>True|_=>False)/\(ev x).flat,.one (.ptr l 0),[(l,.var (ev x).cells)]⟩
 |.build zs ps=>⟨(∀p,p∈ps->QI zs.length (p.1,p.2.1,ev p.2.2)),.agg (LW zs (ps.map λp=>(p.1,(ev p.2.2).cells))),[]⟩
 | .rH l sz n zs ps=>match uj ev bx n sz ps with
   |some l'=>⟨(match bx l with|.absent=>True|_=>False)/\(∀p,p∈l'->p.1<n/\p.2.length=sz)/\vF ev bx ps,.one (.own l n sz),Qh bx (oz ev ps)++[(l,.dat sz (Hl (aY n zs) l'))]⟩
   |none=>.bad
 | .makes l sz bytes zs n m=>match ev n,ev m with
   | .one (.c (.lit (.int _ n))),.one (.c (.lit (.int _ m)))=>⟨(match bx l with|.absent=>True|_=>False)/\0<=n/\n<=m/\bytes*m<=2^47/\m<=2^47,.one (.own l n.toNat sz),[(l,.dat sz (aY n.toNat zs))]⟩
   |_,_=>.bad
 |.bin o x y=>J6 o (ev x) (ev y)
 |.beq ng x y=>RD ng (ev x) (ev y)
 | .not x=>match ev x with
   |.one (.c (.lit (.bool b)))=>.ok (pq (!b))
   |_=>.bad
 | .neg x=>match ev x with
   |.one (.c (.lit (.int k n)))=>.ok (qh k (k.wrap (0-n)))
   |_=>.bad
 | .N8 k x=>match ev x with
   |.one (.c (.lit (.int _ n)))=>.ok (qh k (k.wrap n))
   |_=>.bad
 | .P7 x=>match rU 1 (ev x) bx with
   | some (p,es)=>match bytesOf es with
     |some l=>⟨p/\l.length<=maxLen,Dl l,[]⟩
     |none=>.bad
   |none=>.bad
 | .same x=>match ev x with
   |.one (.c (.str l))=>.ok (Dl l)
   |_=>.bad
 | .Qy f cs=>match BC (cs.map ev)with
   |some l=>.ok (.one (.fn f l))
   |none=>.bad
 | .Pe x lo hi=>match ev x with
   | .one (.c (.str s))=>match bnd ev lo 0,bnd ev hi s.length with
     |some a,some b=>⟨0<=a/\a<=b/\b<=s.length,Dl ((s.take b.toNat).drop a.toNat),[]⟩
     |_,_=>.bad
   |_=>.bad
 | .Af sz x lo hi=>match ev x with
   | .one (.c (.sl sz' es))=>match bnd ev lo 0,bnd ev hi es.length with
     |some a,some b=>⟨sz'=sz/\0<=a/\a<=b/\b<=es.length,vSl sz ((es.take b.toNat).drop a.toNat),[]⟩
     |_,_=>.bad
   | .one (.xh sz')=>match bnd ev lo 0,bnd ev hi 0 with
     |some a,some b=>⟨a=0/\b=0,.one (.xh sz'),[]⟩
     |_,_=>.bad
   | .one (.own l n sz')=>match bnd ev lo 0,bnd ev hi n with
     |some a,some b=>⟨a=0/\0<=b/\b<=n,.one (.own l b.toNat sz'),[]⟩
     |_,_=>.bad
   |_=>.bad
 | .O8 sz n x=>match ev x with
   | .one (.uI b 0 sz' 0)=>match bx b with
     |.dat wz es=>⟨sz'=sz/\wz=sz/\es.length=n/\n≠0,.one (.own b n sz),[]⟩
     |_=>.bad
   |_=>.bad
 | .OZ x=>match ev x with
   |.one (.ptr b o)=>.ok (.one (.ptr b o))
   |.one (.uI b i sz o)=>.ok (.one (.uI b i sz o))
   |.one (.zC cs)=>.ok (.one (.zC cs))
   |.one (.fn f cs)=>.ok (.one (.fn f cs))
   |_=>.bad
 | .ny off x=>match ev x with
   |.one (.ptr b o)=>.ok (.one (.ptr b (o+off)))
   |.one (.uI b i sz o)=>.ok (.one (.uI b i sz (o+off)))
   |.one (.zC cs)=>.ok (.one (.zC (cs.drop off)))
   |_=>.bad
 | .field agg off k x=>match ev x with
   | .agg xs=>if agg then⟨off+k<=xs.length,.agg ((xs.drop off).take k),[]⟩else match xs[off]? with
     |some x=>.ok (.one x)
     |none=>.bad
   |_=>.bad
 | .uT sz x i=>match ev x,ev i with
   |.one (.c (.sl sz' es)),.one (.c (.lit (.int _ i)))=>⟨sz'=sz/\0<=i/\i<es.length,.one (.zC (es.getD i.toNat [])),[]⟩
   |.one (.own b n sz'),.one (.c (.lit (.int _ i)))=>⟨sz'=sz/\0<=i/\i<n,.one (.uI b i.toNat sz 0),[]⟩
   |.one (.sub b lo n _ sz'),.one (.c (.lit (.int _ i)))=>⟨sz'=sz/\0<=i/\i<n,.one (.uI b (lo+i.toNat) sz 0),[]⟩
   |_,_=>.bad
 | .Qq sz n x i=>match ev x,ev i with
   |.one (.uI b 0 sz' 0),.one (.c (.lit (.int _ i)))=>⟨sz'=sz/\0<=i/\i<n,.one (.uI b i.toNat sz 0),[]⟩
   |_,_=>.bad
 | .idxs x i=>match ev x,ev i with
   |.one (.c (.str s)),.one (.c (.lit (.int _ i)))=>⟨0<=i/\i<s.length,qh .u8 (s.getD i.toNat 0).toNat,[]⟩
   |_,_=>.bad
 | .extract x i=>match ev x with
   | .wF ps=>match ps[i]? with
     |some (true,xs)=>.ok (.agg xs)
     |some (false,[x])=>.ok (.one x)
     |_=>.bad
   |_=>.bad
 | .lens x=>match ev x with
   |.one (.c (.str s))=>.ok (qh .i64 s.length)
   |_=>.bad
 | .len x=>match ev x with
   |.one (.c (.sl _ es))=>.ok (qh .i64 es.length)
   |.one (.xh _)=>.ok (qh .i64 0)
   |.one (.own _ n _)=>.ok (qh .i64 n)
   |.one (.sub _ _ n _ _)=>.ok (qh .i64 n)
   |_=>.bad
 | .max x y=>match ev x,ev y with
   |.one (.c (.lit (.int k a))),.one (.c (.lit (.int k' b)))=>⟨k=k',qh k (if b>a then b else a),[]⟩
   |_,_=>.bad
 | .min x y=>match ev x,ev y with
   |.one (.c (.lit (.int k a))),.one (.c (.lit (.int k' b)))=>⟨k=k',qh k (if b<a then b else a),[]⟩
   |_,_=>.bad
 | .append l sz bytes s x=>match rU sz (ev x) bx with
   | some (p,ys)=>match ev s with
     |.one (.xh _)=>⟨p/\(match bx l with|.absent=>True|_=>False)/\ys.length*(bytes+sz+1)<=2^46,.one (.own l ys.length sz),[(l,.dat sz ys)]⟩
     | .one (.own b n sz')=>match bx b with
       |.dat wz es=>⟨p/\(match bx l with|.absent=>True|_=>False)/\sz'=sz/\wz=sz/\n<=es.length/\(n+ys.length)*(bytes+sz+1)<=2^46/\b≠l,
        .one (.own l (n+ys.length) sz),[(b,.dead),(l,.dat sz (es.take n++ys))]⟩
       |_=>.bad
     |_=>.bad
   |none=>.bad
 | .copy sz d x=>match rU sz (ev x) bx with
   | some (p,ys)=>match ev d with
     | .one (.own b n sz')=>match bx b with
       |.dat wz es=>⟨p/\sz'=sz/\wz=sz/\n<=es.length,qh .i64 (bZ ys.length n:Nat),[(b,.dat sz (splice es 0 (ys.take n)))]⟩
       |_=>.bad
     |.one (.xh _)=>.ok (qh .i64 0)
     |_=>.bad
   |none=>.bad
 |.shf l x y=>QW l (ev x) (ev y)
 |.Xv x=>N7 (ev x)
 |.tX sz x lo hi=>um sz (ev x) (bnd ev lo 0) (bnd ev hi)
 |.sl3 sz x p q m=>EE sz (ev x) (ev p) (ev q) (ev m)
 |.TJ l sz bytes s x=>zQ l sz bytes (ev s) (ev x) bx
 |.Np sz d x=>zU sz (ev d) (ev x) bx
 |.Vz sz zs x=>zT sz zs (ev x) bx
 |.XA x y=>G9 (ev x) (ev y)
 |.SH ng x=>CY ng (ev x)
 |.ovl x y=>QE (ev x) (ev y) bx
 |.ZM x y=>Hu (ev x) (ev y)
 |.stop=>.bad
 |.Ur l sz bytes zs s x=>zI l sz bytes zs (ev s) (ev x) bx
def lvl : AV->List Nat
 |.one (.ptr b _)=>[b]
 |.one (.own b _ _)=>[b]
 |.one (.uI b _ _ _)=>[b]
 |.one (.sub b _ _ _ _)=>[b]
 |_=>[]
def jb.rd (op:jb)(ev:jK->AV):List Nat:=
 match op with
 |.load _ _ p=>lvl (ev p)
 |.store _ _ p x=>lvl (ev p)++(match ev p with|.one (.uI _ _ _ _)=>kz (ev x).cells|_=>[])
 |.rH l _ _ _ ps=>l::oz ev ps
 |.alloc l _|.II l _ _ _|.box l _|.makes l _ _ _ _ _=>[l]
 |.IJ _ _ l r=>[l,r]
 |.P7 x=>lvl (ev x)
 |.O8 _ _ x=>lvl (ev x)
 |.append l _ _ s x=>l::(lvl (ev s)++lvl (ev x))
 |.copy _ d x=>lvl (ev d)++lvl (ev x)
 |.TJ l _ _ s x=>l::(lvl (ev s)++lvl (ev x))
 |.Np _ d x=>lvl (ev d)++lvl (ev x)
 |.Vz _ _ x=>lvl (ev x)
 |.ovl x y=>lvl (ev x)++lvl (ev y)
 |.Ur l _ _ _ s _=>l::lvl (ev s)
 |_=>[]
end Go.Ab
section
namespace Go.Ab
inductive PK where
 |any
 |own (rs:List (Nat×Nat))
 |var (rs:List (Nat×Nat))
 |fn (s:Nat)
 deriving DecidableEq
structure Rk where
 ps:List PK
 rs:List (List (Nat×Nat))
 deriving DecidableEq
inductive Knd where
 |none
 |rd
 |ow (sg:Rk)
 deriving DecidableEq
def kindOf : Nat->Knd
 |7=>.rd
 |8=>.rd
 |9=>.rd
 |10=>.ow ⟨[.any],[[(3,22),(4,30)]]⟩
 |11=>.ow ⟨[.any],[[(1,22),(2,22),(6,22),(7,30)]]⟩
 |12=>.ow ⟨[.any,.any],[[(3,22),(4,30)],[]]⟩
 |13=>.rd
 |14=>.rd
 |17=>.rd
 |18=>.rd
 |19=>.ow ⟨[.any,.any],[[(0,44)],[]]⟩
 |20=>.rd
 |22=>.rd
 |23=>.rd
 |24=>.rd
 |25=>.ow ⟨[.any],[[(0,44)]]⟩
 |26=>.ow ⟨[.any,.any],[[(3,22),(4,30)],[]]⟩
 |27=>.rd
 |28=>.ow ⟨[.any,.any],[[(0,44)],[]]⟩
 |29=>.rd
 |30=>.rd
 |31=>.rd
 |32=>.rd
 |33=>.rd
 |34=>.ow ⟨[.any],[[(0,22)]]⟩
 |35=>.ow ⟨[.any],[[(0,30)]]⟩
 |36=>.rd
 |37=>.rd
 |38=>.ow ⟨[.any,.any,.any],[[(3,22),(4,30)],[]]⟩
 |39=>.ow ⟨[.any,.any],[[(3,22),(4,30)],[]]⟩
 |40=>.ow ⟨[.any,.any,.any],[[(3,22),(4,30)],[]]⟩
 |41=>.ow ⟨[.any,.any,.any],[[(3,22),(4,30)],[]]⟩
 |42=>.ow ⟨[.any,.any],[[(3,22),(4,30)],[]]⟩
 |43=>.ow ⟨[.any,.any,.any],[[(3,22),(4,30)],[]]⟩
 |44=>.rd
 |45=>.rd
 |48=>.rd
 |49=>.rd
 |50=>.rd
 |51=>.rd
 |52=>.rd
 |53=>.ow ⟨[.any],[[(3,22),(4,30)]]⟩
 |54=>.rd
 |55=>.rd
 |56=>.rd
 |57=>.ow ⟨[.any,.any],[[(3,22),(4,30)],[]]⟩
 |58=>.rd
 |59=>.ow ⟨[.var [(0,44)],.any,.any,.any],[]⟩
 |60=>.rd
 |61=>.rd
 |62=>.rd
 |63=>.rd
 |64=>.rd
 |65=>.rd
 |66=>.rd
 |67=>.rd
 |68=>.ow ⟨[.own [(3,22),(4,30)],.any],[[(3,22),(4,30)],[]]⟩
 |69=>.ow ⟨[.any,.any,.fn 1],[[(3,22),(4,30)],[]]⟩
 |70=>.ow ⟨[.any,.any,.any,.any],[[(3,22),(4,30)],[]]⟩
 |71=>.ow ⟨[.any,.any,.any],[[(3,22),(4,30)],[]]⟩
 |72=>.ow ⟨[.any,.any,.any],[[(3,22),(4,30)],[]]⟩
 |73=>.rd
 |74=>.ow ⟨[.own [(0,22)],.any,.any],[[(0,22)]]⟩
 |75=>.ow ⟨[.own [(0,30)],.any,.any],[[(0,30)]]⟩
 |76=>.ow ⟨[.any,.any],[[(3,22),(4,30)],[]]⟩
 |77=>.rd
 |78=>.rd
 |79=>.rd
 |80=>.rd
 |81=>.rd
 |82=>.rd
 |83=>.rd
 |84=>.ow ⟨[.var [(0,44)],.any,.any,.any],[]⟩
 |85=>.ow ⟨[.var [(0,44)],.any,.any,.any],[]⟩
 |86=>.ow ⟨[.var [(0,44)],.any,.any,.any],[]⟩
 |87=>.rd
 |88=>.rd
 |89=>.rd
 |90=>.rd
 |91=>.rd
 |92=>.rd
 |93=>.rd
 |94=>.rd
 |95=>.rd
 |96=>.rd
 |97=>.ow ⟨[.var [(3,22),(4,30)],.any,.own [(3,22),(4,30)]],[]⟩
 |98=>.rd
 |99=>.ow ⟨[.own [(0,30)],.any,.own [(0,30)]],[[(0,30)]]⟩
 |100=>.rd
 |101=>.rd
 |102=>.rd
 |103=>.rd
 |104=>.rd
 |105=>.rd
 |106=>.rd
 |107=>.rd
 |108=>.rd
 |109=>.ow ⟨[.any],[[(0,22)]]⟩
 |110=>.rd
 |111=>.rd
 |112=>.rd
 |113=>.ow ⟨[.own [(0,22)],.any,.own [(0,22)]],[[(0,22)]]⟩
 |114=>.rd
 |117=>.rd
 |118=>.rd
 |119=>.rd
 |120=>.rd
 |121=>.rd
 |122=>.rd
 |125=>.rd
 |127=>.rd
 |130=>.rd
 |131=>.rd
 |132=>.rd
 |136=>.rd
 |137=>.rd
 |138=>.rd
 |139=>.rd
 |140=>.rd
 |141=>.rd
 |142=>.rd
 |_=>.none
def Zm : Nat->Rk
 |0=>⟨[.any],[[(3,22),(4,30)],[]]⟩
 |_=>⟨[],[]⟩
end Go.Ab
end
namespace Go.Ab
open Go
inductive ru where
 |blk (k j:Nat)
 |tag (d m:Nat)
 |dead
 deriving DecidableEq
structure Ref where
 off:Nat
 ty:Nat
 m:Nat
def Ref.beq (r s:Ref):Bool:=jk r.off s.off&&(jk r.ty s.ty&&jk r.m s.m)
theorem Ref.beq_iff {r s:Ref} : r.beq s=true<->r=s:=by cases r;cases s;simp[Ref.beq]
inductive YI where
 |arr (T:Nat) (p:ru)
 |var (row:List Ref) (d b:Nat)
structure Own where
 b:Nat->Option YI
 bd:Nat->Nat
instance : CoeFun Own λ_=>Nat->Option YI:=⟨Own.b⟩
def refsOf (P:Program):Nat->TypeId->Nat->List (Nat×Nat)
 |0,_,_=>[]
 | n+1,t,o=>match P.underlying t with
   |some (.slice _)=>[(o,t)]
   |some (.struct fs)=>fs.toList.flatMap λf=>refsOf P n f.type (o+f.offset)
   |_=>[]
def kP (P:Program)(T:Nat):List (Nat×Nat):=match P.underlying T with
 |some (.slice e)=>refsOf P 6 e 0
 |_=>[]
def qJ (P:Program)(T:Nat):Nat:=match P.underlying T with
 |some (.slice e)=>(match P.info? e with|some i=>i.size|none=>0)
 |_=>0
def QB (u:Value):Prop:=u = .slice none 0 0
def Own.at (g:Own)(k n T:Nat)(p:ru):Prop:=g k=some (.arr T p)/\n<=g.bd k
def GR (g:Own)(u:Value)(T:Nat)(p:ru):Prop:=QB u\/∃k n c,u = .slice (some ⟨k,0,none⟩) n c/\g.at k n T p
structure Good (P:Program)(g:Own)(w:World):Prop where
 arr:∀k T p,g k=some (.arr T p)->∃cs e,w.heap[k]? = some (.cells cs e (0,0))/\∀j u T',j<g.bd k*qJ P T->cs[j]? = some u->(j%qJ P T,T')∈kP P T->GR g u T' (.blk k j)
 var:∀k row d b,g k=some (.var row d b)->∃cs e,w.heap[k]? = some (.cells cs e (0,0))/\∀r,r∈row->∃u,cs[r.off]? = some u/\GR g u r.ty (.tag d r.m)
inductive OF where
 |sr (t T:Nat)
 |ep (t T off:Nat)
 |vp (t b off:Nat)
 |ref (t:Nat) (r:Ref)
 |xP (t i:Nat) (r:Ref)
 |row (b:Nat) (r:Ref)
 |fn (t s:Nat)
def OF.beq : OF->OF->Bool
 |.sr t T,.sr t' T'=>jk t t'&&jk T T'
 |.ep t T o,.ep t' T' o'=>jk t t'&&(jk T T'&&jk o o')
 |.vp t b o,.vp t' b' o'=>jk t t'&&(jk b b'&&jk o o')
 |.ref t r,.ref t' r'=>jk t t'&&r.beq r'
 |.xP t i r,.xP t' i' r'=>jk t t'&&(jk i i'&&r.beq r')
 |.row b r,.row b' r'=>jk b b'&&r.beq r'
 |.fn t s,.fn t' s'=>jk t t'&&jk s s'
 |_,_=>false
theorem OF.beq_iff {f g:OF} : f.beq g=true<->f=g:=by cases f<;>cases g<;>simp[OF.beq,Ref.beq_iff]
instance : BEq OF:=⟨OF.beq⟩
instance : LawfulBEq OF where
 eq_of_beq h:=OF.beq_iff.1 h
 rfl:=OF.beq_iff.2 rfl
def rM {β:Type}(n:Nat)(k:Nat->β):β:=match n with
 |0=>k 0
 |m+1=>k (Nat.succ m)
def L9 {β:Type}(r:Ref)(k:Ref->β):β:=match r with
 |⟨a,b,c⟩=>rM a λa=>rM b λb=>rM c λc=>k ⟨a,b,c⟩
def Qg {β:Type}(f:OF)(k:OF->β):β:=match f with
 |.sr t T=>rM t λt=>rM T λT=>k (.sr t T)
 |.ep t T o=>rM t λt=>rM T λT=>rM o λo=>k (.ep t T o)
 |.vp t b o=>rM t λt=>rM b λb=>rM o λo=>k (.vp t b o)
 |.ref t r=>rM t λt=>L9 r λr=>k (.ref t r)
 |.xP t i r=>rM t λt=>rM i λi=>L9 r λr=>k (.xP t i r)
 |.row b r=>rM b λb=>L9 r λr=>k (.row b r)
 |.fn t s=>rM t λt=>rM s λs=>k (.fn t s)
def CS {α β:Type}(fc:α->(α->β)->β):List α->(List α->β)->β
 |[],k=>k []
 |x::r,k=>fc x λx=>CS fc r λr=>k (x::r)
abbrev L8 {β:Type}(Γ : List OF)(k:List OF->β):β:=CS Qg Γ k
theorem Ai {β:Type}{n:Nat}{k:Nat->β} : rM n k=k n:=by cases n<;>rfl
theorem XI {β:Type}{r:Ref}{k:Ref->β} : L9 r k=k r:=by simp[L9,Ai]
theorem OC {β:Type}{f:OF}{k:OF->β} : Qg f k=k f:=by cases f<;>simp[Qg,Ai,XI]
theorem yZ {α β:Type}{fc:α->(α->β)->β}(hf:∀x k,fc x k=k x):∀{l:List α} {k:List α->β},CS fc l k=k l
 |[],_=>rfl
 |x::r,k=>by rw[CS,hf,yZ hf]
theorem IZ {β:Type}{Γ : List OF}{k:List OF->β} : L8 Γ k=k Γ :=yZ λ_ _=>OC
def OF.WU : OF->List Nat
 |.sr t _=>[t]
 |.ep t _ _=>[t]
 |.vp t b _=>[t,b]
 |.ref t _=>[t]
 |.xP t _ _=>[t]
 |.row b _=>[b]
 |.fn t _=>[t]
def OF.adY : OF->Option Nat
 |.ref _ r=>some r.m
 |.xP _ _ r=>some r.m
 |.row _ r=>some r.m
 |_=>none
def JH :=Nat->FuncId->Nat->Prop
def yw (P:Program)(F:JH)(g:Own)(dp:Nat)(a:Act)(w:World):OF->Prop
 |.sr t T=>QB (a.tmps.getD t undef)\/∃k o n c,a.tmps.getD t undef = .slice (some ⟨k,o,none⟩) n c/\k<w.heap.size/\∀B,g k=some B->(∃p,B = .arr T p)/\o%qJ P T=0
 |.ep t T off=>∃k o,a.tmps.getD t undef = .pointer (some ⟨k,o,none⟩)/\k<w.heap.size/\∀B,g k=some B->(∃p,B = .arr T p)/\o%qJ P T=off
 |.vp t b off=>∃k row,a.tmps.getD b undef = .pointer (some ⟨k,0,none⟩)/\a.tmps.getD t undef = .pointer (some ⟨k,off,none⟩)/\g k=some (.var row dp b)
 |.ref t r=>∃u,(a.tmps.getD t undef).cells[r.off]? = some u/\GR g u r.ty (.tag dp r.m)
 |.xP t i r=>∃vs x u,a.tmps.getD t undef = .tuple vs/\vs[i]? = some x/\x.cells[r.off]? = some u/\GR g u r.ty (.tag dp r.m)
 |.row b r=>∃k row,a.tmps.getD b undef = .pointer (some ⟨k,0,none⟩)/\g k=some (.var row dp b)/\r∈row
 |.fn t s=>∃f caps,a.tmps.getD t undef = .func (.func f) #[] caps/\F s f caps.size
structure OW (P:Program)(F:JH)(g:Own)(dp:Nat)(Γ : List OF)(a:Act)(w:World):Prop where
 good:Good P g w
 fs:∀f,f ∈ Γ -> yw P F g dp a w f
structure Rel (dp N:Nat)(g g':Own):Prop where
 tag:∀k T d m,d<dp->g k=some (.arr T (.tag d m))->g' k=some (.arr T (.tag d m))/\g'.bd k=g.bd k
 var:∀k row d b,d<dp->g k=some (.var row d b)->g' k=some (.var row d b)
 old:∀k B',k<N->g' k=some B'->∃B,g k=some B/\∀T p,B = .arr T p\/B' = .arr T p->∃q q',B = .arr T q/\B' = .arr T q'
def Kr (ps:List PK):List OF:=(ps.zipIdx).flatMap λp=>match p.1 with
 |.any=>[]
 |.own rs=>rs.map λe=>.ref p.2 ⟨e.1,e.2,p.2*20+e.1⟩
 |.var rs=>.vp p.2 p.2 0::rs.map λe=>.row p.2 ⟨e.1,e.2,p.2*20+e.1⟩
 |.fn s=>[.fn p.2 s]
def Tt (sg:Rk)(n:Nat):List OF:=match sg.rs with
 |[rs]=>rs.map λe=>.ref n ⟨e.1,e.2,20000+e.1⟩
 |l=>(l.zipIdx).flatMap λp=>p.1.map λe=>.xP n p.2 ⟨e.1,e.2,20000+p.2*20+e.1⟩
def Vq (sg:Rk):List OF:=(sg.ps.zipIdx).flatMap λp=>match p.1 with
 |.var rs=>.vp p.2 p.2 0::rs.map λe=>.row p.2 ⟨e.1,e.2,30000+p.2*20+e.1⟩
 |_=>[]
def MR (sg:Rk)(n:Nat):List OF:=Tt sg n++Vq sg
def FV : JH:=λs f n=>match s with
 |0=>kindOf f = .rd
 |s+1=>∃sg,kindOf f = .ow sg/\sg.ps=(Zm s).ps++aY n .any/\sg.rs=(Zm s).rs
inductive Pq (P:Program)(f:FuncId)(vs:List Value)(w:World):(Ending->World->Prop)->Prop
 |VK:Pq P f vs w λ_ _=>True
 |rd (h:kindOf f = .rd):Pq P f vs w λ_ w'=>xK w w' λ_=>False
 |ow (sg:Rk) (h:kindOf f = .ow sg) (hl:vs.length=sg.ps.length) (g:Own) (dp:Nat) (hin:OW P FV g dp (Kr sg.ps) { tmps:=vs.toArray,defers:=[] } w) :
     Pq P f vs w λe w'=>∃v g',e = .returned v/\Rel dp w.heap.size g g'/\OW P FV g' dp (MR sg vs.length) { tmps:=(vs++[v]).toArray,defers:=[] } w'
def NU (I:IH)(ρ:Ren)(vs:List Value)(xs:List AV):Prop:=
 vs.length=xs.length/\∀(j:Nat) (v:Value) (x:AV),vs[j]? = some v->xs[j]? = some x->GV I ρ v x
def xN (l:List Box):Nat->Box:=λb=>l.getD b .absent
structure Tabs (P:Program)(I:IH):Prop where
 pow:∀g,P.globalNamed "internal/strconv.uint64pow10" = some g->I g=some (Go.Lib.pow10Tab.map λz=>xe .u64 z).toArray
 mxl:∀g,P.globalNamed "internal/bytealg.MaxLen" = some g->∃m,I.cell ⟨g,0,none⟩=some (.int .i64 m)
 ers:∀g,P.globalNamed "strconv.ErrSyntax" = some g->∃v,I.cell ⟨g,0,none⟩=some v/\(v = .nilIface\/∃t p,v = .iface t p)
 err:∀g,P.globalNamed "strconv.ErrRange" = some g->∃v,I.cell ⟨g,0,none⟩=some v/\(v = .nilIface\/∃t p,v = .iface t p)
theorem Tabs.mono {P:Program}{I J:IH}(h:Tabs P I)(hle:I.le J):Tabs P J:=
 ⟨λg hg=>hle _ _ (h.pow g hg),λg hg=>(h.mxl g hg).imp λ_ h=>IH.EY hle h,λg hg=>(h.ers g hg).imp λ_ h=>⟨IH.EY hle h.1,h.2⟩,λg hg=>(h.err g hg).imp λ_ h=>⟨IH.EY hle h.1,h.2⟩⟩
def nN (P:Program)(f:FuncId)(args:List AV)(fp:List Box)(post:AV->List Box->Prop):Prop:=
 ∀ (I:IH) (ρ:Ren) (w:World) (vs:List Value),Tabs P I->Agree I w->BX I ρ w (xN fp)->NU I ρ vs args ->
   ∀ X,Pq P f vs w X->Calls P f vs.toArray w λe w'=>(∃(v:Value) (J:IH) (σ:Ren) (r:AV) (bs:List Box),e = .returned v/\post r bs/\GV J σ v r/\Agree J w'/\BX J σ w' (xN bs) /\
     I.le J/\xK w w' (λk=>∃b,(xN fp b).uses (ρ b) k) /\
     (∀b k,(xN bs b).uses (σ b) k->w.heap.size<=k\/∃b',(xN fp b').uses (ρ b') k) /\
     (∀k,k<w.heap.size->(¬ ∃b,(xN fp b).uses (ρ b) k)->J k=I k) /\
     (∀b,b<fp.length->σ b=ρ b))/\X e w'
def EM (P:Program)(f:FuncId)(args:List AV)(fp:List Box)(post:AV->List Box->Prop):Prop:=
 ∀ (I:IH) (ρ:Ren) (w:World) (vs:List Value),Tabs P I->Agree I w->BX I ρ w (xN fp)->NU I ρ vs args ->
   Calls P f vs.toArray w λe w'=>∃(v:Value) (J:IH) (σ:Ren) (r:AV) (bs:List Box),e = .returned v/\post r bs/\GV J σ v r/\Agree J w'/\BX J σ w' (xN bs) /\
    I.le J/\xK w w' (λk=>∃b,(xN fp b).uses (ρ b) k) /\
    (∀b k,(xN bs b).uses (σ b) k->w.heap.size<=k\/∃b',(xN fp b').uses (ρ b') k) /\
    (∀k,k<w.heap.size->(¬ ∃b,(xN fp b).uses (ρ b) k)->J k=I k) /\
    (∀b,b<fp.length->σ b=ρ b)
def Vd (f:FuncId)(e:Bool):Bool:=match kindOf f with
 |.none=>true
 |.rd=>e
 |.ow _=>false
theorem nN.of0 {P:Program}{f:FuncId}{args:List AV}{fp:List Box}{post:AV->List Box->Prop}(hk:Vd f fp.isEmpty=true)(h:EM P f args fp post):nN P f args fp post:=by
 intro I ρ w vs hT hA hB hV X hX;have h0:=h I ρ w vs hT hA hB hV;cases hX with
 |VK=>exact h0.mono λe w' h=>⟨h,trivial⟩
 | rd hr=>refine h0.mono λe w' h=>⟨h,?_⟩;obtain⟨_,_,_,_,_,_,_,_,_,_,_,hF,_⟩:=h;refine⟨hF.os,hF.tape,hF.output,hF.size,λk hk' _=>hF.block k hk' ?_⟩;rintro⟨b,hb⟩;unfold Vd at hk;rw[hr]at hk;have:fp=[]:=(by simpa using hk);subst this;simp[xN,Box.uses]at hb
 | ow sg hr=>unfold Vd at hk;rw[hr]at hk;cases hk
def fD (P:Program)(f:FuncId)(args:List AV)(r:AV):Prop:=nN P f args [] λr' bs=>r'=r/\bs=[]
inductive Cv (bx:Nat->Box):AC->AC->Prop
 |refl (x:AC):Cv bx x x
 |xh (sz:Nat):Cv bx (.xh sz) (.c (.sl sz []))
 |own (b n sz:Nat) (es:List (List Cell)) (h:(bx b).arr=some (sz,es)) (hn:n<=es.length):Cv bx (.own b n sz) (.c (.sl sz (es.take n)))
inductive CvL (bx:Nat->Box):List AC->List AC->Prop
 |nil:CvL bx [] []
 |cons {x y:AC} {xs ys:List AC} (h:Cv bx x y) (t:CvL bx xs ys):CvL bx (x::xs) (y::ys)
inductive CvA (bx:Nat->Box):AV->AV->Prop
 |one {x y:AC} (h:Cv bx x y):CvA bx (.one x) (.one y)
 |agg {xs ys:List AC} (h:CvL bx xs ys):CvA bx (.agg xs) (.agg ys)
inductive FW (bx:Nat->Box):List AV->List AV->Prop
 |nil:FW bx [] []
 |cons {x y:AV} {xs ys:List AV} (h:CvA bx x y) (t:FW bx xs ys):FW bx (x::xs) (y::ys)
def Cell.isLit : Cell->Bool
 |.sl _ _=>false
 |_=>true
def AC.qV : AC->Bool
 |.c _=>true
 |.err _=>true
 |_=>false
def AC.isLit : AC->Bool
 |.c x=>x.isLit
 |_=>false
def AV.all (p:AC->Bool):AV->Bool
 |.one x=>p x
 |.agg xs=>xs.all p
 |.wF ps=>ps.all λq=>q.2.all p
def AV.owns : AV->List Nat
 |.one x=>kz [x]
 |.agg xs=>kz xs
 |.wF ps=>ps.flatMap λq=>kz q.2
def dP.zL (st:dP)(bs:List Nat):dP:=⟨st.tm,λb=>if b∈bs then BD (st.bx b)else st.bx b⟩
def dP.mQ (st:dP):List (Nat×Box)->dP
 |[]=>st
 |(b,x)::r=>(st.sN b x).mQ r
def dP.uA (st:dP):Option Nat->Slot->dP
 |none,_=>st
 |some t,s=>st.put t s
def zy (π:Nat->Nat):AC->AC
 |.ptr b off=>.ptr (π b) off
 |.own b n sz=>.own (π b) n sz
 |.sub b lo n c sz=>.sub (π b) lo n c sz
 |.uI b i sz off=>.uI (π b) i sz off
 |.fn f cs=>.fn f (cs.map π)
 |.opt T b=>.opt T (π b)
 |.F9 b n=>.F9 (π b) n
 |x=>x
def yu (π:Nat->Nat):AV->AV
 |.one x=>.one (zy π x)
 |.agg xs=>.agg (xs.map (zy π))
 |.wF ps=>.wF (ps.map λq=>(q.1,q.2.map (zy π)))
def xW (π:Nat->Nat):Box->Box
 |.var xs=>.var (xs.map (zy π))
 |x=>x
def AC.oW (m:Nat):AC->Bool
 |.ptr b _=>decide (b<m)
 |.own b _ _=>decide (b<m)
 |.sub b _ _ _ _=>decide (b<m)
 |.uI b _ _ _=>decide (b<m)
 |.fn _ cs=>cs.all λb=>decide (b<m)
 |.opt _ b=>decide (b<m)
 |.F9 b _=>decide (b<m)
 |_=>true
def Box.oW (m:Nat):Box->Bool
 |.var xs=>xs.all (AC.oW m)
 |_=>true
inductive FH (P:Program)(f:FuncId)(oD:List AV)(p:Bool)(d:Option Nat)(st:dP)(K:List Nat->List Nat->dP->Prop):Prop
 |lit (ds:List AV) (r:AV) (hc:p=true->FW st.bx oD ds) (hd:ds.all (·.all AC.qV)=true) (h:p=true->fD P f ds r) (hr:r.all AC.isLit=true) (k:K (oD.flatMap AV.owns) [] (st.uA d (.v p r)))
 |pure (ds:List AV) (r:AV) (hp:p=true) (hc:FW st.bx oD ds) (hd:ds.all (·.all AC.qV)=true) (h:fD P f ds r) (hr:r.all AC.qV=true) (k:K (oD.flatMap AV.owns) (oD.flatMap AV.owns) ((st.zL (oD.flatMap AV.owns)).uA d (.v true r)))
 |gen (hp:p=true) (ds:List AV) (fp:List Box) (sg nu:List Nat) (post:AV->List Box->Prop)
  (hl:sg.length=fp.length) (hn:(sg++nu).Nodup) (hf:∀i,i<fp.length->st.bx ((sg++nu).getD i 0)=xW (λb=>(sg++nu).getD b 0) (fp.getD i .absent))
  (hne:∃r bs,post r bs) (hv:∀b,b∈nu->st.bx b = .absent/\10<=b) (hra:(ds.all λx=>x.all (AC.oW fp.length))=true) (hrf:fp.all (Box.oW fp.length)=true) (ha:oD=ds.map (yu λb=>(sg++nu).getD b 0)) (h:nN P f ds fp post)
  (k:∀r bs,post r bs->bs.length=(sg++nu).length /\
   K (sg++nu) (sg++nu) ((st.mQ ((sg++nu).zip (bs.map (xW λb=>(sg++nu).getD b 0)))).uA d (.v true (yu (λb=>(sg++nu).getD b 0) r))))
 |J9 (hp:p=true) (az:List AV) (hc:FW st.bx oD az) (ds:List AV) (fp:List Box) (sg nu:List Nat) (post:AV->List Box->Prop)
     (hl:sg.length=fp.length) (hn:(sg++nu).Nodup) (hf:∀i,i<fp.length->(st.zL (oD.flatMap AV.owns)).bx ((sg++nu).getD i 0)=xW (λb=>(sg++nu).getD b 0) (fp.getD i .absent))
     (hne:∃r bs,post r bs) (hv:∀b,b∈nu->st.bx b = .absent/\10<=b) (hra:(ds.all λx=>x.all (AC.oW fp.length))=true) (hrf:fp.all (Box.oW fp.length)=true) (ha:az=ds.map (yu λb=>(sg++nu).getD b 0)) (h:nN P f ds fp post)
     (k:∀r bs,post r bs->bs.length=(sg++nu).length /\
      K (oD.flatMap AV.owns++(sg++nu)) (oD.flatMap AV.owns++(sg++nu)) (((st.zL (oD.flatMap AV.owns)).mQ ((sg++nu).zip (bs.map (xW λb=>(sg++nu).getD b 0)))).uA d (.v true (yu (λb=>(sg++nu).getD b 0) r))))
inductive DU {α:Type}(x:α):Type
 |mk
def oV (P:Program)(f:FuncId)(oD:List AV)(p:Bool)(d:Option Nat)(st:dP)(K:List Nat->List Nat->dP->Prop)(_:DU K):Prop:=FH P f oD p d st K
inductive KP where
 |op (o:jb)
 |call (f:FuncId) (args:List jK)
 |Dv (x:jK) (args:List jK)
 deriving Inhabited
structure gX where
 g:Option (Nat×Bool)
 d:Option Nat
 i:KP
 deriving Inhabited
def rW (P:Program)(f:FuncId):Bool:=match P.funcs[f]? with
 |some fn=> !(fn.name == "runtime.NumGoroutine")&&fn.body.isSome
 |none=>false
def xG (tm:Nat->Slot):Option (Nat×Bool)->Prop
 |none=>True
 | some (s,_)=>match tm s with
   |.v false _=>True
   |.v true (.one (.c (.lit (.bool _))))=>True
   |_=>False
def l9 (tm:Nat->Slot):Option (Nat×Bool)->Bool
 |none=>true
 | some (s,w)=>match tm s with
   |.v true (.one (.c (.lit (.bool b))))=>b==w
   |_=>false
def jb.valid (ev:jK->Slot):jb->Prop
 | .pick c a b=>(ev c).g=true/\(match(ev c).x with
   |.one (.c (.lit (.bool t)))=>(t=true->(ev a).g=true)/\(t=false->(ev b).g=true)
   |_=>False)
 |o=>∀x,x∈o.jV->(ev x).g=true
def bT (tm:Nat->Slot)(x:jK):AV:=(x.ev tm).x
def TOp (o:jb)(p:Bool)(d:Option Nat)(st:dP)(K:List Nat->List Nat->dP->Prop):Prop:=
 (p=true->o.valid (jK.ev st.tm)/\(o.f (bT st.tm) st.bx).vc /\
  K (o.rd (bT st.tm)) ((o.f (bT st.tm) st.bx).sets.map (·.1)) ((st.mQ (o.f (bT st.tm) st.bx).sets).uA d (.v true (o.f (bT st.tm) st.bx).v))) /\
 (p=false->K [] [] (st.uA d (.v false (.one .Em))))
def T (P:Program)(o:gX)(st:dP)(K:List Nat->List Nat->dP->Prop):Prop:=
 xG st.tm o.g/\match o.i with
  |.op op=>TOp op (l9 st.tm o.g) o.d st K
  |.call f args=>(l9 st.tm o.g=true->∀x,x∈args->(x.ev st.tm).g=true)/\oV P f (args.map (bT st.tm)) (l9 st.tm o.g) o.d st K .mk
  | .Dv x args=>(l9 st.tm o.g=true->(x.ev st.tm).g=true/\∀x,x∈args->(x.ev st.tm).g=true)/\match l9 st.tm o.g,bT st.tm x with
    |false,_=>oV P 0 [] false o.d st K .mk
    |true,.one (.fn f caps)=>rW P f=true/\oV P f (args.map (bT st.tm)++caps.map λb=>.one (.ptr b 0)) true o.d st K .mk
    |true,_=>False
def wpOps (P:Program):List gX->dP->(dP->Prop)->Prop
 |[],st,K=>K st
 |o::r,st,K=>T P o st λ_ _ st'=>wpOps P r st' K
def Gh (a b:List Nat):Bool:=a.all λx=> !b.contains x
def tH (zZ:List Nat)(rd wr:List Nat):List (Nat×List Nat×List Nat)->Bool
 |[]=>true
 |(j,r,w)::l=>(zZ.contains j||(Gh wr r&&Gh wr w&&Gh rd w))&&tH zZ rd wr l
def wpD (P:Program):List (gX×List Nat)->Nat->List (Nat×List Nat×List Nat)->dP->(dP->Prop)->Prop
 |[],_,_,st,K=>K st
 |(o,zZ)::r,i,log,st,K=>T P o st λrd wr st'=>tH zZ rd wr log=true/\wpD P r (i+1) ((i,rd,wr)::log) st' K
def dP.keep (st:dP)(ts:List Nat):dP:=⟨λt=>if t∈ts then st.tm t else .none,st.bx⟩
theorem OE (w:World)(o:Obj)(r:Nat)(h:r<w.heap.size):(w.alloc o).heap[r]? = w.heap[r]?:=by show(w.heap.push o)[r]? = w.heap[r]?;rw[wJ,if_neg (Nat.ne_of_lt h)]
theorem qf.keep {I J:IH}{ρ σ:Ren}{w w':World}{b:Nat}{x:Box}(h:qf I ρ w b x)(hI:I.le J)(hρ:ρ.le σ)(hb:σ b=ρ b)
 (hk:∀k,x.uses (ρ b) k->w'.heap[k]? = w.heap[k]?):qf J σ w' b x:=by
 cases x with
 |absent=>exact hb.trans h
 |dead=>trivial
 | var xs=>obtain⟨k,cap,cs,hr,hw,hs,hc⟩:=h;exact⟨k,cap,cs,hb.trans hr,(hk k ⟨cap,hr⟩).trans hw,hs,λj u x hu hx=>(hc j u x hu hx).mono hI hρ⟩
 | dat sz es=>obtain⟨k,cap,hr,hl,hm,hsz,hc⟩:=h;refine⟨k,cap,hb.trans hr,hl,hm,hsz,λh0=>?_⟩;obtain⟨cs,e,hw,hs,h1,hc⟩:=hc h0;exact⟨cs,e,(hk k ⟨cap,hr,h0⟩).trans hw,hs,h1,λi j c hj=>let ⟨u,hu,hr⟩:=hc i j c hj;⟨u,hu,hr.mono hI⟩⟩
 | zL sz es=>obtain⟨k,cap,hr,hl,hm,hsz,hc⟩:=h;refine⟨k,cap,hb.trans hr,hl,hm,hsz,λh0=>?_⟩;obtain⟨cs,hw,hc⟩:=hc h0;exact⟨cs,hI _ _ hw,λi j c hj=>let ⟨u,hu,hr⟩:=hc i j c hj;⟨u,hu,hr.mono hI⟩⟩
 | row e l=>obtain⟨k,cap,hr,hl,hm,hc⟩:=h;refine⟨k,cap,hb.trans hr,hl,hm,λh0=>?_⟩;obtain⟨cs,hw,hc⟩:=hc h0;exact⟨cs,(hk k ⟨cap,hr,h0⟩).trans hw,hc⟩
theorem BX.step {I J:IH}{ρ σ:Ren}{w w':World}{bx bx':Nat->Box}(D:Nat->Prop)(h:BX I ρ w bx)(hI:I.le J)(hρ:ρ.le σ)
 (hsame:∀b,¬D b->bx' b=bx b/\σ b=ρ b) (hkeep:∀b k,¬D b->(bx b).uses (ρ b) k->w'.heap[k]? = w.heap[k]?)
 (hok:∀b,D b->qf J σ w' b (bx' b)) (xm:∀b k,D b->(bx' b).uses (σ b) k->(∀b',¬D b'->¬(bx b').uses (ρ b') k)/\J k=none)
 (hinj:∀b b' k,D b->D b'->(bx' b).uses (σ b) k->(bx' b').uses (σ b') k->b=b')
 (hJ:∀b k,¬D b->(bx b).uses (ρ b) k->J k=none):BX J σ w' bx':=by
 refine⟨λb=>?_,λb b' k hb hb'=>?_,λb k hb=>?_⟩
 ·by_cases hD:D b
  ·exact hok b hD
  ·obtain⟨e1,e2⟩:=hsame b hD;rw[e1];exact(h.ok b).keep hI hρ e2 λk hk=>hkeep b k hD hk
 ·by_cases hD:D b
  ·by_cases hD':D b'
   ·exact hinj b b' k hD hD' hb hb'
   ·obtain⟨e1,e2⟩:=hsame b' hD';rw[e1,e2]at hb';exact absurd hb' ((xm b k hD hb).1 b' hD')
  ·obtain⟨e1,e2⟩:=hsame b hD;rw[e1,e2]at hb;by_cases hD':D b'
   ·exact absurd hb ((xm b' k hD' hb').1 b hD)
   ·obtain⟨e1',e2'⟩:=hsame b' hD';rw[e1',e2']at hb';exact h.inj b b' k hb hb'
 ·by_cases hD:D b
  ·exact(xm b k hD hb).2
  ·obtain⟨e1,e2⟩:=hsame b hD;rw[e1,e2]at hb;exact hJ b k hD hb
theorem Agree.alloc {I:IH}{w:World}(h:Agree I w)(o:Obj):Agree I (w.alloc o):=λb c hc=>by obtain⟨e,fr,hw⟩:=h b c hc;exact⟨e,fr,(OE w o b (uk hw)).trans hw⟩
theorem Agree.other {I:IH}{w w':World}(h:Agree I w)(hk:∀k c,I k=some c->w'.heap[k]? = w.heap[k]?):Agree I w':=λb c hc=>by obtain⟨e,fr,hw⟩:=h b c hc;exact⟨e,fr,(hk b c hc).trans hw⟩
theorem Agree.aar {I:IH}{w:World}(h:Agree I w){k:Nat}(hk:w.heap.size<=k):I k=none:=by
 cases hc:I k with
 |none=>rfl
 |some c=>have:=h.lt hc;omega
def Ren.set (ρ:Ren)(l k cap:Nat):Ren:=λb=>if b=l then some (k,cap)else ρ b
theorem Ren.Jh {ρ:Ren}{l k cap:Nat}(h:ρ l=none):ρ.le (ρ.set l k cap):=λb x hb=>by unfold Ren.set;rw[if_neg (λe=>by subst e;rw[h]at hb;cases hb)];exact hb
theorem Ren.jM (ρ:Ren)(l k cap:Nat):(ρ.set l k cap) l=some (k,cap):=by simp[Ren.set]
theorem Ren.sK {ρ:Ren}{l k cap b:Nat}(h:b≠l):(ρ.set l k cap) b=ρ b:=by simp[Ren.set,h]
theorem BX.new {I:IH}{ρ:Ren}{w:World}{bx:Nat->Box}(h:BX I ρ w bx)(hA:Agree I w){l:Nat}(hl:bx l = .absent)(cs:Array Value)(e:TypeId)(cap:Nat)(x:Box)
 (hx:qf I (ρ.set l w.heap.size cap) (w.alloc (.cells cs e)) l x) :
 BX I (ρ.set l w.heap.size cap) (w.alloc (.cells cs e)) (λb=>if b=l then x else bx b):=by
 have hrl:ρ l=none:=by have:=h.ok l;rwa[hl]at this
 refine BX.step (λb=>b=l) h (IH.le_refl I) (Ren.Jh hrl) ?_ ?_ ?_ ?_ ?_ ?_
 ·intro b hb;exact⟨by simp[hb],Ren.sK hb⟩
 ·intro b k hb hk;exact OE _ _ _ ((h.ok b).lt hk)
 ·rintro b rfl;simpa using hx
 ·rintro b k rfl hk;have hk':k=w.heap.size:=by
   simp only[if_true,Ren.jM]at hk;cases x with
   |absent=>exact hk.elim
   |dead=>exact hk.elim
   |zL sz es=>exact hk.elim
   |var xs=>obtain⟨c,hc⟩:=hk;simp at hc;exact hc.1.symm
   |dat sz es=>obtain⟨c,hc,_⟩:=hk;simp at hc;exact hc.1.symm
   |row e l=>obtain⟨c,hc,_⟩:=hk;simp at hc;exact hc.1.symm
  subst hk';exact⟨λb' hb' hu=>by have:=(h.ok b').lt hu;omega,hA.aar (aA _)⟩
 ·rintro b b' k rfl rfl _ _;rfl
 ·intro b k hb hk;exact h.fresh b k hk
theorem BX.set {I:IH}{ρ:Ren}{w w':World}{bx:Nat->Box}(h:BX I ρ w bx){b k:Nat}(hu:(bx b).uses (ρ b) k)(x:Box)(hux:∀k',x.uses (ρ b) k'->k'=k)
 (hk:∀k',k'≠k->w'.heap[k']? = w.heap[k']?) (hx:qf I ρ w' b x):BX I ρ w' (λc=>if c=b then x else bx c):=by
 refine BX.step (λc=>c=b) h (IH.le_refl I) (Ren.le_refl ρ) ?_ ?_ ?_ ?_ ?_ ?_
 ·intro c hc;exact⟨by simp[hc],rfl⟩
 ·intro c k' hc hu';refine hk k' λe=>hc ?_;subst e;exact h.inj c b k' hu' hu
 ·rintro c rfl;simpa using hx
 ·rintro c k' rfl hk';simp only[if_true]at hk';have:=hux k' hk';subst this;exact⟨λb' hb' hu'=>hb' (h.inj b' c k' hu' hu),h.fresh c k' hu⟩
 ·rintro c c' k' rfl rfl _ _;rfl
 ·intro c k' hc hu';exact h.fresh c k' hu'
structure Env (P:Program) where
 w0:World
 I0:IH
 M:Nat->Prop
 Rj:Ren
 m:Nat
 tab:Tabs P I0
structure GX {P:Program}(E:Env P)(I:IH)(ρ:Ren)(n:Nat)(st:dP)(a:Act)(w:World):Prop extends GS I ρ n st a w where
 wu:xK E.w0 w E.M
 own:∀b k,(st.bx b).uses (ρ b) k->E.w0.heap.size<=k\/E.M k
 Ei:E.I0.le I
 Az:∀k,k<E.w0.heap.size->¬E.M k->I k=E.I0 k
 rQ:∀b,b<E.m->ρ b=E.Rj b
theorem GX.tabs {P:Program}{E:Env P}{I:IH}{ρ:Ren}{n:Nat}{st:dP}{a:Act}{w:World}(h:GX E I ρ n st a w):Tabs P I:=E.tab.mono h.Ei
theorem GX.put {P:Program}{E:Env P}{I:IH}{ρ:Ren}{n:Nat}{st:dP}{a:Act}{w:World}(h:GX E I ρ n st a w){d:Nat}(hd:d<n){v:Value}{s:Slot}(hv:Uh I ρ v s) :
 GX E I ρ n (st.put d s) (a.put (some d) v) w:=by
 refine{ h with tm:=λt ht=>?_,size:=by simp[fA,h.size],defers:=h.defers,agree:=h.agree,bx:=h.bx };have hdt:d<a.tmps.size:=by rw[h.size];exact hd
 simp only[fA,dP.MZ];by_cases e:t=d
 ·subst e;simpa[Array.getD,hdt]using hv
 ·have:=h.tm t ht;rw[if_neg e];have e':d≠t:=λx=>e x.symm;simpa[bQ,Array.getElem?_setIfInBounds,e']using this
theorem GX.uA {P:Program}{E:Env P}{I:IH}{ρ:Ren}{n:Nat}{st:dP}{a:Act}{w:World}(h:GX E I ρ n st a w){d:Option Nat}(hd:∀x,d=some x->x<n){v:Value}{s:Slot}(hv:Uh I ρ v s) :
 GX E I ρ n (st.uA d s) (a.put d v) w:=by
 cases d with
 |none=>exact h
 |some d=>exact h.put (hd d rfl) hv
theorem GX.drew {P:Program}{E:Env P}{I:IH}{ρ:Ren}{n:Nat}{st:dP}{a:Act}{w:World}(h:GX E I ρ n st a w):GX E I ρ n st a w.drew:=
 { agree:=h.agree,bx:=⟨h.bx.ok,h.bx.inj,h.bx.fresh⟩,tm:=h.tm,size:=h.size,defers:=h.defers,wu:=⟨h.wu.os,h.wu.tape,h.wu.output,h.wu.size,h.wu.block⟩,own:=h.own,Ei:=h.Ei,Az:=h.Az,rQ:=h.rQ }
theorem GX.lit {P:Program}{E:Env P}{I:IH}{ρ:Ren}{n:Nat}{st:dP}{a:Act}{w:World}(h:GX E I ρ n st a w):BX I ρ w st.bx:=h.bx
theorem GX.new {P:Program}{E:Env P}{I:IH}{ρ:Ren}{n:Nat}{st:dP}{a:Act}{w:World}(h:GX E I ρ n st a w){l:Nat}(hl:st.bx l = .absent)(hm:E.m<=l)(cs:Array Value)(e:TypeId)(cap:Nat)(x:Box)
 (hx:qf I (ρ.set l w.heap.size cap) (w.alloc (.cells cs e)) l x):GX E I (ρ.set l w.heap.size cap) n (st.sN l x) a (w.alloc (.cells cs e)):=by
 have hrl:ρ l=none:=by have:=h.bx.ok l;rwa[hl]at this
 have hle:=Ren.Jh (ρ:=ρ) (k:=w.heap.size) (cap:=cap) hrl;refine{ agree:=h.agree.alloc _,bx:=BX.new h.bx h.agree hl cs e cap x hx,tm:=λt ht=>(h.tm t ht).mono (IH.le_refl _) hle,size:=h.size,defers:=h.defers,wu:=?_,own:=?_,Ei:=h.Ei,Az:=h.Az,rQ:=?_ }
 ·exact h.wu.trans (N:=λ_=>False) ⟨rfl,rfl,rfl,by simp,λk hk _=>OE _ _ _ hk⟩ (λ_ _ hf=>hf.elim)
 ·intro b k hu;simp only[dP.kX]at hu;by_cases e:b=l
  ·subst e
   left
   have hs:=h.wu.size;have hk':k=w.heap.size:=by
    simp only[if_true,Ren.jM]at hu;cases x with
    |absent=>exact hu.elim
    |dead=>exact hu.elim
    |zL sz es=>exact hu.elim
    |var xs=>obtain⟨c,hc⟩:=hu;simp at hc;exact hc.1.symm
    |dat sz es=>obtain⟨c,hc,_⟩:=hu;simp at hc;exact hc.1.symm
    |row e l=>obtain⟨c,hc,_⟩:=hu;simp at hc;exact hc.1.symm
   omega
  ·rw[if_neg e,Ren.sK e]at hu;exact h.own b k hu
 ·intro b hb;rw[Ren.sK (by omega)];exact h.rQ b hb
theorem GX.sN {P:Program}{E:Env P}{I:IH}{ρ:Ren}{n:Nat}{st:dP}{a:Act}{w w':World}(h:GX E I ρ n st a w){b k:Nat}(hu:(st.bx b).uses (ρ b) k)(x:Box)(hux:∀k',x.uses (ρ b) k'->k'=k)
 (hF:xK w w' (λk'=>k'=k)) (hx:qf I ρ w' b x) (hsz:w'.heap.size=w.heap.size):GX E I ρ n (st.sN b x) a w':=by
 have hk:∀k',k'≠k->w'.heap[k']? = w.heap[k']?:= λk' hne=>by
  by_cases hlt:k'<w.heap.size
  ·exact hF.block k' hlt hne
  ·rw[ou (by omega),ou (by omega)]
 refine{ agree:=h.agree.other λk' c hc=>hk k' λe=>?_,bx:=BX.set h.bx hu x hux hk hx,tm:=h.tm,size:=h.size,defers:=h.defers,wu:=?_,own:=?_,Ei:=h.Ei,Az:=h.Az,rQ:=h.rQ }
 ·subst e;have:=h.bx.fresh b k' hu;rw[this]at hc;cases hc
 ·refine h.wu.trans hF λk' hlt e=>?_;subst e;rcases h.own b k' hu with h1|h1
  ·omega
  ·exact h1
 ·intro c k' hc;simp only[dP.kX]at hc;by_cases e:c=b
  ·subst e;simp only[if_true]at hc;have:=hux k' hc;subst this;exact h.own c k' hu
  ·rw[if_neg e]at hc;exact h.own c k' hc
section
def abv : Value->AC->Bool
 |.int k n,.c (.lit (.int k' n'))=>k==k'&&n==n'
 |.bool b,.c (.lit (.bool b'))=>b==b'
 |.string s,.c (.str l)=>s.data.toList==l&&decide (l.length<=1000000)
 |.slice none 0 0,.xh _=>true
 |.slice none 0 0,.c (.sl _ [])=>true
 |.pointer none,.c (.lit (.pointer none))=>true
 |.nilFunc,.c (.lit .nilFunc)=>true
 |.nilIface,.c (.lit .nilIface)=>true
 |_,_=>false
theorem V6 {I:IH}{ρ:Ren}{v:Value}{x:AC}(h:abv v x=true):GC I ρ v x:=by
 unfold abv at h;split at h
 ·simp only[af,beq_iff_eq]at h;obtain⟨rfl,rfl⟩:=h;exact Rd.lit _ rfl
 ·simp only[beq_iff_eq]at h;subst h;exact Rd.lit _ rfl
 ·rename_i s l;simp only[af,beq_iff_eq,decide_eq_true_eq]at h;obtain⟨rfl,hl⟩:=h;have:s=⟨⟨s.data.toList⟩⟩:=by cases s;rfl
  exact this▸Rd.str _ (by simp only[maxLen];omega)
 ·rfl
 ·exact Rd.sl none 0 0 _ [] (λ_ _=>undef) rfl (aA _) (Nat.zero_le _) (λe h=>by cases h) (λh=>by omega) (λad h=>by cases h) (λi j c h=>by simp at h)
 ·exact Rd.lit _ rfl
 ·exact Rd.lit _ rfl
 ·exact Rd.lit _ rfl
 ·cases h
def gW (n:Nat):Operand->jK->Bool
 |.tmp t,.t s=>t==s&&decide (t<n)
 |.const v,.k x=>abv v x
 |.func f,.k (.fn g [])=>f==g
 |.global g,.k (.c (.lit (.pointer (some a))))=>a.block==g&&a.off==0&&a.spot.isNone
 |_,_=>false
section
variable {P:Program} {E:Env P} {I:IH} {ρ:Ren} {n:Nat} {st:dP} {a:Act} {w:World}
theorem adJ (h:GX E I ρ n st a w){x:Operand}{y:jK}(hc:gW n x y=true):Uh I ρ (a.eval x) (y.ev st.tm):=by
 unfold gW at hc;split at hc
 ·simp only[af,beq_iff_eq,decide_eq_true_eq]at hc;obtain⟨rfl,hlt⟩:=hc;exact h.tm _ hlt
 ·exact⟨λ_=>V6 hc,λe=>by cases e⟩
 ·simp only[beq_iff_eq]at hc;subst hc;exact⟨λ_=>⟨[],rfl,by simp,rfl⟩,λe=>by cases e⟩
 ·rename_i g ad;simp only[af,beq_iff_eq]at hc;obtain⟨⟨h1,h2⟩,h3⟩:=hc;refine⟨λ_=>?_,λe=>by cases e⟩;have:ad=⟨g,0,none⟩:=by cases ad;simp at *;exact⟨h1,h2,h3⟩
  subst this;exact Rd.lit _ rfl
 ·cases hc
theorem jl (h:GX E I ρ n st a w){x:Operand}{y:jK}(hc:gW n x y=true)(hv:(y.ev st.tm).g=true):GV I ρ (a.eval x) (bT st.tm y):=by
 have:=adJ h hc;unfold bT;cases hs:y.ev st.tm with
 |none=>rw[hs]at hv;cases hv
 |v g x=>rw[hs]at hv this;exact this.1 hv
def oG (P:Program)(E:Env P)(n:Nat)(o:Oper)(a:Act)(w:World)(st:dP)(rv:AV):Prop:=
 ∃v w' I' ρ',((execOp a.eval o).run P w = .ok (.value v) w'\/(execOp a.eval o).run P w = .ok .skip w'/\o.dst=none)/\GX E I' ρ' n st a w'/\(o.dst≠none->GV I' ρ' v rv)
def wE : Op->Bool
 |.alloc _|.box _ _|.makeSlice _ _ _|.buildSlice _ _ _|.store _ _ _=>false
 |.call c=>(match c.callee with|.builtin .len|.builtin .cap|.builtin .max|.builtin .min|.value _=>true|_=>false)
 |_=>true
def Jd : Op->Bool
 |.store _ _ _=>true
 |_=>false
structure Eff (o:Oper)(a:Act)(w w':World):Prop where
 quiet:wE o.op=true->w'=w
 store:∀t p x,o.op = .store t p x->∃k off cs e,a.eval p = .pointer (some ⟨k,off,none⟩)/\w.heap[k]? = some (.cells cs e (0,0))/\off+(a.eval x).cells.size<=cs.size /\
  w'=w.setRow k (splice cs.toList off (a.eval x).cells.toList).toArray
def o8 (P:Program)(E:Env P)(n:Nat)(o:Oper)(a:Act)(w:World)(st:dP)(rv:AV):Prop:=
 ∃v w' I' ρ',((execOp a.eval o).run P w = .ok (.value v) w'\/(execOp a.eval o).run P w = .ok .skip w'/\o.dst=none)/\GX E I' ρ' n st a w'/\(o.dst≠none->GV I' ρ' v rv)/\Eff o a w w'
theorem UT {o:Oper}{a:Act}{w w':World}{v:Value}(hr:(execOp a.eval o).run P w = .ok (.value v) w')(hs:Jd o.op=true):False:=by
 unfold Jd at hs;split at hs
 ·rename_i t p x he;simp only[execOp,he,bF]at hr;cases h:(uM t (a.eval p) (a.eval x)).run P w<;>rw[h]at hr<;>simp at hr
 ·cases hs
theorem oG.val {o:Oper}{v:Value}{rv:AV}(h:GX E I ρ n st a w)(hr:(execOp a.eval o).run P w = .ok (.value v) w)(hv:GV I ρ v rv):o8 P E n o a w st rv:=
 ⟨v,w,I,ρ,.inl hr,h,λ_=>hv,{ quiet:=λ_=>rfl,store:=λt p x he=>(UT hr (by rw[he];rfl)).elim }⟩
theorem oG.YM {o:Oper}{rv:AV}(h:oG P E n o a w st rv)(hq:wE o.op=false)(hs:Jd o.op=false):o8 P E n o a w st rv:=
 let ⟨v,w',I',ρ',h1,h2,h3⟩:=h
 ⟨v,w',I',ρ',h1,h2,h3,{ quiet:=λe=>(by rw[hq]at e;cases e),store:=λt p x he=>(by rw[he]at hs;cases hs) }⟩
def CW : TypeDesc->Bool
 |.struct _|.array _ _=>true
 |_=>false
def DK (P:Program)(t:TypeId)(agg:Bool)(k:Nat):Bool:=
 match P.underlying t,P.info? t with
 |some d,some i=>CW d==agg&&i.size==k
 |_,_=>false
theorem Ak {t:TypeId}{agg:Bool}{k:Nat}(h:DK P t agg k=true)(w:World):(isAgg t).run P w = .ok agg w/\(sizeOf t).run P w = .ok k w:=by
 unfold DK at h;split at h
 ·rename_i d i hd hi;simp only[af,beq_iff_eq]at h;obtain⟨rfl,rfl⟩:=h;refine⟨?_,by simp[sizeOf,typeInfo,hi]⟩;cases d<;>simp[isAgg,run_underlying hd,CW]
 ·cases h
def Jt (P:Program)(t:TypeId)(k:Nat):Bool:=match P.info? t with|some i=>i.size==k|none=>false
theorem ED {t:TypeId}{k:Nat}(h:Jt P t k=true):∃i,P.info? t=some i/\i.size=k:=by
 unfold Jt at h;split at h
 ·rename_i i hi;exact⟨i,hi,by simpa using h⟩
 ·cases h
def Y6 (n:Nat)(op:Op)(y:jK):Bool:=match op with|.move x|.assign x=>gW n x y|_=>false
theorem abV {o:Oper}{y:jK}(h:GX E I ρ n st a w)(hc:Y6 n o.op y=true)(hv:(y.ev st.tm).g=true):o8 P E n o a w st (bT st.tm y):=by
 unfold Y6 at hc;split at hc
 ·rename_i x hx;exact oG.val h (v:=a.eval x) (by simp[execOp,hx]) (jl h hc hv)
 ·rename_i x hx;exact oG.val h (v:=a.eval x) (by simp[execOp,hx]) (jl h hc hv)
 ·cases hc
def PZ (n:Nat)(op:Op)(c x y:jK):Bool:=match op with|.pick c' x' y'=>gW n c' c&&gW n x' x&&gW n y' y|_=>false
theorem CV {v:Value}{b:Bool}(h:GV I ρ v (pq b)):v = .bool b:=by cases h with|lit v hv=>rfl
theorem rO {v:Value}{k:IntKind}{m:Int}(h:GV I ρ v (qh k m)):v = .int k m:=by cases h with|lit v hv=>rfl
theorem BF {v:Value}{l:List UInt8}(h:GV I ρ v (Dl l)):v = .string ⟨⟨l⟩⟩/\l.length<=maxLen:=by cases h with|str l hl=>exact⟨rfl,hl⟩
theorem Bz (b:Bool):GV I ρ (.bool b) (pq b):=Rd.lit _ rfl
theorem ve (k:IntKind)(m:Int):GV I ρ (.int k m) (qh k m):=Rd.lit _ rfl
theorem Qx {l:List UInt8}(h:l.length<=maxLen):GV I ρ (.string ⟨⟨l⟩⟩) (Dl l):=Rd.str l h
theorem Vr (x y:AV){v:Value}(h:GV I ρ v x):GV I ρ v (JU true x y):=by
 unfold JU;split
 ·exact h
 ·exact h
theorem Tz (x y:AV){v:Value}(h:GV I ρ v y):GV I ρ v (JU false x y):=by
 unfold JU;split
 ·exact h
 ·simpa using h
theorem Yf {o:Oper}{c x y:jK}{t:Bool}(h:GX E I ρ n st a w)(hc:PZ n o.op c x y=true)(hg:(c.ev st.tm).g=true)(ht:bT st.tm c=pq t)
 (hx:t=true->(x.ev st.tm).g=true) (hy:t=false->(y.ev st.tm).g=true):o8 P E n o a w st (JU t (bT st.tm x) (bT st.tm y)):=by
 unfold PZ at hc;split at hc
 ·rename_i c' x' y' he;simp only[af]at hc;have h1:=jl h hc.1.1 hg;rw[ht]at h1;have h1:=CV h1;cases t with
  |true=>exact oG.val h (v:=a.eval x') (by simp[execOp,he,h1,asBool]) (Vr _ _ (jl h hc.1.2 (hx rfl)))
  |false=>exact oG.val h (v:=a.eval y') (by simp[execOp,he,h1,asBool]) (Tz _ _ (jl h hc.2 (hy rfl)))
 ·cases hc
theorem toList_eq (l:List UInt8):(⟨⟨l⟩⟩:ByteArray).toList=l:=by rw[ByteArray.toList_eq]
theorem size_mk (l:List UInt8):(⟨⟨l⟩⟩:ByteArray).size=l.length:=rfl
theorem ab8 {b:BinOp}{t:TypeId}{x y:Value}{u v:AV}(w:World)(hx:GV I ρ x u)(hy:GV I ρ y v)(fH:(J6 b u v).vc) :
 ∃r,(binOp b t x y).run P w = .ok r w/\GV I ρ r (J6 b u v).v:=by
 unfold J6 at *;split at fH
 ·rename_i k m k' m';obtain⟨rfl,fH⟩:=fH;have h1:=rO hx;have h2:=rO hy;subst h1;subst h2;cases b<;>simp only[xR,FR.bad,FR.ok]at fH⊢ <;>
   first
   |exact fH.elim
   |(refine⟨_,?_,ve _ _⟩;simp[binOp,yT,Op.intDiv,Op.intBits,fH])
   |(refine⟨_,?_,Bz _⟩;simp[binOp,Op.intCmp])
 ·rename_i l l';obtain⟨h1,hl⟩:=BF hx;obtain⟨h2,hl'⟩:=BF hy;subst h1;subst h2;cases b<;>simp only[xY,FR.bad,FR.ok]at fH⊢ <;>
   first
   |exact fH.elim
   |(refine⟨_,?_,Bz _⟩;simp only[binOp,Op.stringOp,toList_eq];rfl)
   |skip
  refine⟨.string ⟨⟨l++l'⟩⟩,?_,Qx (by simpa using fH)⟩;have h63:¬((l.length+l'.length:Nat):Int)>qo.max:=by simp only[maxLen]at fH;have e:qo.max=9223372036854775807:=(by decide);rw[e];omega
  have happ:(⟨⟨l⟩⟩:ByteArray)++⟨⟨l'⟩⟩=⟨⟨l++l'⟩⟩:=by apply ByteArray.ext;simp
  simp only[binOp,Op.stringOp,size_mk];rw[if_neg h63,happ];rfl
 ·exact fH.elim
def UC (n:Nat)(op:Op)(b:BinOp)(x y:jK):Bool:=match op with|.binOp b' _ x' y' _=>b'==b&&gW n x' x&&gW n y' y|_=>false
theorem xH (b:BinOp)(t:TypeId)(x y:Operand)(k:IntKind)(m:Int)(v:Value)(w:World):(eqGuard b t x y (.int k m) v).run P w = .ok () w:=by cases b<;>rfl
theorem Ku (b:BinOp)(t:TypeId)(x y:Operand)(s:ByteArray)(v:Value)(w:World):(eqGuard b t x y (.string s) v).run P w = .ok () w:=by cases b<;>rfl
theorem Cc (b:BinOp)(t:TypeId)(x y:Operand)(s:Bool)(v:Value)(w:World):(eqGuard b t x y (.bool s) v).run P w = .ok () w:=by cases b<;>rfl
theorem Y0 {o:Oper}{b:BinOp}{x y:jK}(h:GX E I ρ n st a w)(hc:UC n o.op b x y=true)(hx:(x.ev st.tm).g=true)(hy:(y.ev st.tm).g=true)
 (fH:(J6 b (bT st.tm x) (bT st.tm y)).vc):o8 P E n o a w st (J6 b (bT st.tm x) (bT st.tm y)).v:=by
 unfold UC at hc;split at hc
 ·rename_i b' t x' y' t' he;simp only[af,beq_iff_eq]at hc;obtain⟨⟨rfl,h1⟩,h2⟩:=hc;have g1:=jl h h1 hx;have g2:=jl h h2 hy;obtain⟨r,hr,hg⟩:=ab8 (P:=P) (t:=t) w g1 g2 fH;refine oG.val h ?_ hg;have hq:(eqGuard b' t x' y' (a.eval x') (a.eval y')).run P w = .ok () w:=by
   unfold J6 at fH;split at fH
   ·rename_i e1 e2;rw[e1]at g1;rw[rO g1];exact xH _ _ _ _ _ _ _ _
   ·rename_i e1 e2;rw[e1]at g1;rw[(BF g1).1];exact Ku _ _ _ _ _ _ _
   ·exact fH.elim
  simp[execOp,he,hq,hr]
 ·cases hc
def UB (P:Program)(n:Nat)(op:Op)(ng:Bool)(x y:jK):Bool:=
 match op with
 |.binOp b t x' y' _=>(match b with|.eql=> !ng|.neq=>ng|_=>false)&&(match P.underlying t with|some .bool=>true|_=>false)&&gW n x' x&&gW n y' y
 |_=>false
theorem YZ {o:Oper}{ng:Bool}{x y:jK}(h:GX E I ρ n st a w)(hc:UB P n o.op ng x y=true)(hx:(x.ev st.tm).g=true)(hy:(y.ev st.tm).g=true)
 (fH:(RD ng (bT st.tm x) (bT st.tm y)).vc):o8 P E n o a w st (RD ng (bT st.tm x) (bT st.tm y)).v:=by
 unfold UB at hc;split at hc
 ·rename_i b t x' y' t' he;simp only[af]at hc;obtain⟨⟨⟨hb,ht⟩,h1⟩,h2⟩:=hc;have g1:=jl h h1 hx;have g2:=jl h h2 hy;unfold RD at fH⊢;split at fH
  ·rename_i p q e1 e2;rw[e1]at g1;rw[e2]at g2;have hu:P.underlying t=some .bool:=by
    split at ht
    ·assumption
    ·cases ht
   have hd:∀d,(uq (d+1) t (.bool p) (.bool q)).run P w = .ok (p==q) w:=λd=>(by simp[uq,run_underlying hu]);have he':(Op.equal t (.bool p) (.bool q)).run P w = .ok (p==q) w:=hd 9999;have hp:=CV g1;have hq:=CV g2;simp only[FR.ok];cases b<;>simp at hb
   ·subst hb;refine oG.val h ?_ (Bz _);simp[execOp,he,hp,hq,Cc,binOp,he']
   ·subst hb;refine oG.val h ?_ (Bz _);simp[execOp,he,hp,hq,Cc,binOp,he',bne]
  ·exact fH.elim
 ·cases hc
def UG (n:Nat)(op:Op)(x:jK):Bool:=match op with|.unOp .not _ x'=>gW n x' x|_=>false
theorem aas {o:Oper}{x:jK}{b:Bool}(h:GX E I ρ n st a w)(hc:UG n o.op x=true)(hx:(x.ev st.tm).g=true)(hb:bT st.tm x=pq b):o8 P E n o a w st (pq (!b)):=by
 unfold UG at hc;split at hc
 ·rename_i t x' he;have g1:=jl h hc hx;rw[hb]at g1;have hp:=CV g1;exact oG.val h (by simp[execOp,he,hp,Op.unary]) (Bz _)
 ·cases hc
def UF (n:Nat)(op:Op)(x:jK):Bool:=match op with|.unOp .neg _ x'=>gW n x' x|_=>false
theorem aap {o:Oper}{x:jK}{k:IntKind}{m:Int}(h:GX E I ρ n st a w)(hc:UF n o.op x=true)(hx:(x.ev st.tm).g=true)(hb:bT st.tm x=qh k m):o8 P E n o a w st (qh k (k.wrap (0-m))):=by
 unfold UF at hc;split at hc
 ·rename_i t x' he;have g1:=jl h hc hx;rw[hb]at g1;have hp:=rO g1;exact oG.val h (v:=.int k (k.wrap (0-m))) (by simp[execOp,he,hp,Op.unary,yT]) (ve _ _)
 ·cases hc
def PO (P:Program)(n:Nat)(op:Op)(k:IntKind)(x:jK):Bool:=match op with|.convert s d x'=>(match P.underlying s with|some _=>true|none=>false)&&(match P.underlying d with|some (.int k')=>k'==k|_=>false)&&gW n x' x|_=>false
theorem Xy {o:Oper}{x:jK}{k j:IntKind}{m:Int}(h:GX E I ρ n st a w)(hc:PO P n o.op k x=true)(hx:(x.ev st.tm).g=true)(hb:bT st.tm x=qh j m):o8 P E n o a w st (qh k (k.wrap m)):=by
 unfold PO at hc;split at hc
 ·rename_i s d x' he;simp only[af]at hc;have g1:=jl h hc.2 hx;rw[hb]at g1;have hp:=rO g1;obtain⟨⟨h1,h2⟩,_⟩:=hc;split at h1
  ·rename_i ds hs;split at h2
   ·rename_i k' hd;simp only[beq_iff_eq]at h2;subst h2;exact oG.val h (v:=.int k' (k'.wrap m)) (by simp[execOp,he,hp,convert,run_underlying hs,run_underlying hd,Conv.intToInt]) (ve _ _)
   ·cases h2
  ·cases h1
 ·cases hc
def P5 (P:Program)(n:Nat)(op:Op)(x:jK):Bool:=match op with|.convert s d x'=>(match P.underlying s with|some .string=>true|_=>false)&&(match P.underlying d with|some .string=>true|_=>false)&&gW n x' x|_=>false
theorem Yn {o:Oper}{x:jK}{l:List UInt8}(h:GX E I ρ n st a w)(hc:P5 P n o.op x=true)(hx:(x.ev st.tm).g=true)(hb:bT st.tm x=Dl l):o8 P E n o a w st (Dl l):=by
 unfold P5 at hc;split at hc
 ·rename_i s d x' he;simp only[af]at hc;have g1:=jl h hc.2 hx;rw[hb]at g1;obtain⟨hp,hl⟩:=BF g1;obtain⟨⟨h1,h2⟩,_⟩:=hc;split at h1
  ·rename_i hs;split at h2
   ·rename_i hd;exact oG.val h (by simp[execOp,he,hp,convert,run_underlying hs,run_underlying hd]) (Qx hl)
   ·cases h2
  ·cases h1
 ·cases hc
end
end
section
section
variable {P:Program} {E:Env P} {I:IH} {ρ:Ren} {n:Nat} {st:dP} {a:Act} {w:World}
theorem iL {α:Type}{es:List (List α)}{i j:Nat}{c:α}(h:(es.getD i [])[j]? = some c):i<es.length:=by
 by_cases hi:i<es.length
 ·exact hi
 ·simp[bu,gp (uQ hi)]at h
theorem Addr.add_zero (p:Addr):p.add 0=p:=by simp[x8]
theorem Addr.l7 (k o i:Nat):(⟨k,o,none⟩:Addr).add i=⟨k,o+i,none⟩:=by
 unfold x8;split
 ·simp_all
 ·rfl
theorem Addr.add_add (p:Addr)(i j:Nat):(p.add i).add j=p.add (i+j):=by unfold x8;by_cases hi:i=0<;>by_cases hj:j=0<;>simp[hi,hj,lH]
def wQ (I:IH)(ρ:Ren)(w:World)(p:Addr)(xs:List AC):Prop:=
 ∀(j:Nat) (x:AC),xs[j]? = some x->∃u,w.cell? (p.add j)=some u/\GC I ρ u x
theorem wQ.drop {p:Addr}{xs:List AC}(h:wQ I ρ w p xs)(off:Nat):wQ I ρ w (p.add off) (xs.drop off):=λj x hj=>by rw[dA]at hj;rw[Addr.add_add];exact h _ _ hj
theorem wQ.take {p:Addr}{xs:List AC}(h:wQ I ρ w p xs)(k:Nat):wQ I ρ w p (xs.take k):=λj x hj=>by
 rw[bf]at hj;split at hj
 ·exact h _ _ hj
 ·cases hj
theorem wQ.list {p:Addr}{xs:List AC}(h:wQ I ρ w p xs):∃us:List Value,us.length=xs.length/\(∀(j:Nat) (u:Value),us[j]? = some u->w.cell? (p.add j)=some u)/\EN I ρ us xs:=by
 induction xs generalizing p with
 |nil=>exact⟨[],rfl,by simp,rfl,by simp⟩
 | cons x r ih=>
   obtain⟨u,hu,hg⟩:=h 0 x rfl;obtain⟨us,hl,hc,hgs⟩:=ih (p:=p.add 1) (λj y hj=>by rw[Addr.add_add];rw[pR];exact h (j+1) y (by simpa using hj));refine⟨u::us,by simp[hl],λj v hj=>?_,by simp[hl],λj v y hv hy=>?_⟩
   ·cases j with
    |zero=>simp at hj;subst hj;exact hu
    |succ j=>have:=hc j v (by simpa using hj);rwa[Addr.add_add,pR]at this
   ·cases j with
    |zero=>simp at hv hy;subst hv;subst hy;exact hg
    |succ j=>exact hgs.2 j v y (by simpa using hv) (by simpa using hy)
theorem QT {t:TypeId}{k:Nat}(ht:DK P t true k=true){p:Addr}{xs:List AC}(hl:xs.length=k)(h:wQ I ρ w p xs) :
 ∃v,(loadVar t p).run P w = .ok v w/\GV I ρ v (.agg xs):=by
 obtain⟨us,hul,hc,hg⟩:=h.list;obtain⟨h1,h2⟩:=Ak ht w;have h3:=run_loadCells_list (P:=P) w p us hc;refine⟨.agg us.toArray,?_,us.toArray,rfl,by simpa using hg⟩;rw[hul,hl]at h3;simp[loadVar,h1,h2,h3]
theorem Df {t:TypeId}{k:Nat}(ht:DK P t false k=true){p:Addr}{u:Value}(h:w.cell? p=some u):(loadVar t p).run P w = .ok u w:=by obtain⟨h1,h2⟩:=Ak ht w;simp[loadVar,h1,run_load,h]
theorem BX.YA (h:BX I ρ w st.bx){b k cap:Nat}{xs:List AC}(hb:st.bx b = .var xs)(hr:ρ b=some (k,cap)):wQ I ρ w ⟨k,0,none⟩ xs:=λj x hj=>by
 have:=h.ok b;rw[hb]at this;obtain⟨k',cap',cs,hr',hw,hs,hc⟩:=this;rw[hr]at hr';simp at hr';obtain⟨rfl,rfl⟩:=hr';have hjl:j<cs.size:=by rw[hs];exact(ax.1 hj).1
 refine⟨cs[j],?_,hc j _ x (iC hjl) hj⟩;rw[Addr.l7];simp[dR,hw,iC hjl]
theorem GS.EP (h:GX E I ρ n st a w){b k cap sz:Nat}{es:List (List Cell)}(hb:(st.bx b).arr=some (sz,es))(hr:ρ b=some (k,cap))(hc:cap≠0){i:Nat}(hi:i<es.length) :
 wQ I ρ w ⟨k,i*sz,none⟩ ((es.getD i []).map .c):=λj x hj=>by
 rw[bn]at hj;cases hq:(es.getD i [])[j]? with
 |none=>rw[hq]at hj;cases hj
 | some c=>
   rw[hq]at hj;simp at hj;subst hj;have hok:=h.bx.ok b;rw[Addr.l7];cases hx:st.bx b with
   | dat sz' es'=>rw[hx]at hok hb;simp[Box.arr]at hb;obtain⟨rfl,rfl⟩:=hb;obtain⟨k',cap',hr',_,_,_,hd⟩:=hok;rw[hr]at hr';simp at hr';obtain⟨rfl,rfl⟩:=hr';obtain⟨cs,e,hw,_,_,hcs⟩:=hd hc;obtain⟨u,hu,hrd⟩:=hcs i j c hq;exact⟨u,by simp[dR,hw,hu],hrd⟩
   | zL sz' es'=>rw[hx]at hok hb;simp[Box.arr]at hb;obtain⟨rfl,rfl⟩:=hb;obtain⟨k',cap',hr',_,_,_,hd⟩:=hok;rw[hr]at hr';simp at hr';obtain⟨rfl,rfl⟩:=hr';obtain⟨cs,hI,hcs⟩:=hd hc;obtain⟨u,hu,hrd⟩:=hcs i j c hq;obtain⟨e,fr,hw⟩:=h.agree _ _ hI;exact⟨u,by simp[dR,hw,hu],hrd⟩
   |absent=>rw[hx]at hb;cases hb
   |dead=>rw[hx]at hb;cases hb
   |var xs=>rw[hx]at hb;cases hb
   |row e l=>rw[hx]at hb;cases hb
theorem GS.BL (h:GX E I ρ n st a w){b k cap sz:Nat}{es:List (List Cell)}(hb:(st.bx b).arr=some (sz,es))(hr:ρ b=some (k,cap)):es.length<=cap/\cap<=maxLen/\∀e,e∈es->e.length=sz:=by
 have hok:=h.bx.ok b;cases hx:st.bx b with
 | dat sz' es'=>rw[hx]at hok hb;simp[Box.arr]at hb;obtain⟨rfl,rfl⟩:=hb;obtain⟨k',cap',hr',h1,h2,h3,hd⟩:=hok;rw[hr]at hr';simp at hr';obtain⟨rfl,rfl⟩:=hr';exact⟨h1,h2,h3⟩
 | zL sz' es'=>rw[hx]at hok hb;simp[Box.arr]at hb;obtain⟨rfl,rfl⟩:=hb;obtain⟨k',cap',hr',h1,h2,h3,hd⟩:=hok;rw[hr]at hr';simp at hr';obtain⟨rfl,rfl⟩:=hr';exact⟨h1,h2,h3⟩
 |absent=>rw[hx]at hb;cases hb
 |dead=>rw[hx]at hb;cases hb
 |var xs=>rw[hx]at hb;cases hb
 |row e l=>rw[hx]at hb;cases hb
def PX (P:Program)(n:Nat)(op:Op)(agg:Bool)(k:Nat)(p:jK):Bool:=match op with|.load t p'=>gW n p' p&&DK P t agg k&&(agg||k==1)|_=>false
theorem OL {t:TypeId}{agg:Bool}{k:Nat}(h:GX E I ρ n st a w)(ht:DK P t agg k=true){pv:Value}{p:AV}(hp:GV I ρ pv p)(fH:(uF agg k p st.bx).vc) :
 ∃v,(kD t pv).run P w = .ok v w/\GV I ρ v (uF agg k p st.bx).v:=by
 have key:∀(q:Addr) (xs:List AC) (off:Nat),pv = .pointer (some (q.add off))->wQ I ρ w q xs->(agg=true->off+k<=xs.length->∃v,(kD t pv).run P w = .ok v w/\GV I ρ v (.agg ((xs.drop off).take k))) /\
  (agg=false->∀x,xs[off]? = some x->∃v,(kD t pv).run P w = .ok v w/\GV I ρ v (.one x)):=by
  intro q xs off hq hc;refine⟨λhA hl=>?_,λhA x hx=>?_⟩
  ·subst hA;obtain⟨v,hv,hg⟩:=QT (P:=P) (xs:=(xs.drop off).take k) ht (by simp;omega) ((hc.drop off).take k);exact⟨v,by simp[kD,hq,gz,hv],hg⟩
  ·subst hA;obtain⟨u,hu,hg⟩:=hc off x hx;exact⟨u,by simp[kD,hq,gz,Df (P:=P) ht hu],hg⟩
 unfold uF at *;split at fH
 ·rename_i b off;obtain⟨kk,cap,hr,hv⟩:=hp;split at fH
  ·rename_i xs hb;have hc:=h.bx.YA hb hr;have hk:=key ⟨kk,0,none⟩ xs off (by rw[Addr.l7];simpa using hv) hc
   try simp only[hb]
   split at fH
   ·rename_i hA;rw[if_pos hA];exact hk.1 hA fH
   ·rename_i hA;rw[if_neg hA];split at fH
    ·rename_i x hx;simp only[FR.ok];exact hk.2 (by simpa using hA) x hx
    ·exact fH.elim
  ·exact fH.elim
 ·rename_i b i sz off;obtain⟨kk,cap,hr,hv⟩:=hp;split at fH
  ·rename_i sz' es hb
   try simp only[hb]
   have facts:=GS.BL h hb hr;split at fH
   ·rename_i hA;rw[if_pos hA];obtain⟨rfl,hi,hl⟩:=fH;have hc:=GS.EP h hb hr (by omega) hi;have hlen:(es.getD i []).length=sz':=facts.2.2 _ (by simp[bu,aj hi]);have:=(key ⟨kk,i*sz',none⟩ _ off (by rw[Addr.l7];exact hv) hc).1 hA (by rw[nX,hlen];exact hl);simpa[List.map_drop,oO]using this
   ·rename_i hA;rw[if_neg hA];obtain⟨rfl,hi,hl⟩:=fH;have hc:=GS.EP h hb hr (by omega) hi;have hlen:(es.getD i []).length=sz':=facts.2.2 _ (by simp[bu,aj hi]);have:=(key ⟨kk,i*sz',none⟩ _ off (by rw[Addr.l7];exact hv) hc).2 (by simpa using hA) (.c ((es.getD i []).getD off default))
     (by rw[bn,aj (by omega)];simp[bu,aj (show off<(es[i]?.getD []).length by simpa[bu]using(by omega:off<(es.getD i []).length))])
    exact this
  ·exact fH.elim
 ·rename_i cs;obtain⟨p,hv,hc⟩:=hp;have hcc:wQ I ρ w p (cs.map .c):=λj x hj=>by
   rw[bn]at hj;cases hq:cs[j]? with
   |none=>rw[hq]at hj;cases hj
   |some c=>rw[hq]at hj;simp at hj;subst hj;obtain⟨u,hu,hr⟩:=hc j c hq;exact⟨u,h.agree.cell hu,hr⟩
  have hk:=key p _ 0 (by rw[Addr.add_zero];exact hv) hcc;split at fH
  ·rename_i hA;rw[if_pos hA];have:=hk.1 hA (by simpa using fH);simpa[oO]using this
  ·rename_i hA;rw[if_neg hA];have h0:cs[0]? = some (cs.getD 0 default):=(by simp[bu,aj fH]);exact hk.2 (by simpa using hA) _ (by rw[bn,h0];rfl)
 ·exact fH.elim
theorem XY {o:Oper}{agg:Bool}{k:Nat}{p:jK}(h:GX E I ρ n st a w)(hc:PX P n o.op agg k p=true)(hx:(p.ev st.tm).g=true)(fH:(uF agg k (bT st.tm p) st.bx).vc) :
 o8 P E n o a w st (uF agg k (bT st.tm p) st.bx).v:=by
 unfold PX at hc;split at hc
 ·rename_i t p' he;simp only[af]at hc;obtain⟨v,hv,hg⟩:=OL (P:=P) h hc.1.2 (jl h hc.1.1 hx) fH;exact oG.val h (by simp[execOp,he,hv]) hg
 ·cases hc
end
end
section
section
variable {P:Program} {E:Env P} {I:IH} {ρ:Ren} {n:Nat} {st:dP} {a:Act} {w:World}
def HY (P:Program)(t:TypeId):Bool:=match P.underlying t with|some (.slice _)=>true|_=>false
theorem FN {t:TypeId}(h:HY P t=true):∃e,P.underlying t=some (.slice e):=by
 unfold HY at h;split at h
 ·rename_i e he;exact⟨e,he⟩
 ·cases h
def Je (P:Program)(t:TypeId):Bool:=match P.underlying t with|some .string=>true|_=>false
theorem Bq {t:TypeId}(h:Je P t=true):P.underlying t=some .string:=by
 unfold Je at h;split at h
 ·assumption
 ·cases h
theorem acJ {v:Value}{sz:Nat}{es:List (List Cell)}(h:GV I ρ v (vSl sz es)):∃a cap,v = .slice a es.length cap/\es.length<=cap/\cap<=maxLen:=by cases h with|sl a len cap sz es u hlen hcap hmax=>subst hlen;exact⟨a,cap,rfl,hcap,hmax⟩
def lenV (x:AV):FR:=match x with
    |.one (.c (.sl _ es))=>.ok (qh .i64 es.length)
    |.one (.xh _)=>.ok (qh .i64 0)
    |.one (.own _ n _)=>.ok (qh .i64 n)
    |.one (.sub _ _ n _ _)=>.ok (qh .i64 n)
    |_=>.bad
theorem adb {v:Value}{x:AV}(h:GV I ρ v x)(fH:(lenV x).vc):∃b k c,v = .slice b k c/\(lenV x).v=qh .i64 k:=by
 unfold lenV at *;split at fH
 ·rename_i sz es;obtain⟨b,c,rfl,_⟩:=acJ h;exact⟨b,_,c,rfl,rfl⟩
 ·simp only[GV,GC]at h;exact⟨none,0,0,h,rfl⟩
 ·obtain⟨k,cap,b,c,_,rfl,_⟩:=h;exact⟨b,_,c,rfl,rfl⟩
 ·obtain⟨k,cap,b,c,_,rfl,_⟩:=h;exact⟨b,_,c,rfl,rfl⟩
 ·exact fH.elim
def UE (P:Program)(n:Nat)(op:Op)(x:jK):Bool:=
 match op with
 |.call { callee:=.builtin .len,args:=⟨[x']⟩,argTypes:=⟨[t]⟩ }=>gW n x' x&&HY P t
 |_=>false
theorem Z4 {o:Oper}{x:jK}(h:GX E I ρ n st a w)(hc:UE P n o.op x=true)(hx:(x.ev st.tm).g=true)(fH:(lenV (bT st.tm x)).vc):o8 P E n o a w st (lenV (bT st.tm x)).v:=by
 unfold UE at hc;split at hc
 ·rename_i x' t he;simp only[af]at hc;have g:=jl h hc.1 hx;obtain⟨e,ht⟩:=FN hc.2;obtain⟨b,k,c,hv,hr⟩:=adb g fH;rw[hr];exact oG.val h (by simp[execOp,he,resolve,invoke,builtin,yJ,run_underlying ht,hv,goInt]) (ve _ _)
 ·cases hc
def PW (P:Program)(n:Nat)(op:Op)(x:jK):Bool:=
 match op with
 |.call { callee:=.builtin .len,args:=⟨[x']⟩,argTypes:=⟨[t]⟩ }=>gW n x' x&&Je P t
 |_=>false
theorem XW {o:Oper}{x:jK}{s:List UInt8}(h:GX E I ρ n st a w)(hc:PW P n o.op x=true)(hx:(x.ev st.tm).g=true)(hs:bT st.tm x=Dl s):o8 P E n o a w st (qh .i64 s.length):=by
 unfold PW at hc;split at hc
 ·rename_i x' t he;simp only[af]at hc;have g:=jl h hc.1 hx;rw[hs]at g;have ht:=Bq hc.2;obtain⟨hv,_⟩:=BF g;exact oG.val h (v:=.int .i64 s.length) (by simp[execOp,he,resolve,invoke,builtin,yJ,run_underlying ht,hv,goInt];rfl) (ve _ _)
 ·cases hc
def Oy (mx:Bool)(n:Nat)(op:Op)(x y:jK):Bool:=
 match op with
 |.call { callee:=.builtin b,args:=⟨[x',y']⟩,argTypes:=_ }=>(match b with|.max=>mx|.min=> !mx|_=>false)&&gW n x' x&&gW n y' y
 |_=>false
theorem aai {o:Oper}{x y:jK}{k:IntKind}{p q:Int}(h:GX E I ρ n st a w)(hc:Oy true n o.op x y=true)(hx:(x.ev st.tm).g=true)(hy:(y.ev st.tm).g=true)
 (e1:bT st.tm x=qh k p) (e2:bT st.tm y=qh k q):o8 P E n o a w st (qh k (if q>p then q else p)):=by
 unfold Oy at hc;split at hc
 ·rename_i b x' y' ts he;simp only[af]at hc;have g1:=jl h hc.1.2 hx;have g2:=jl h hc.2 hy;rw[e1]at g1;rw[e2]at g2;have v1:=rO g1;have v2:=rO g2;obtain⟨⟨hb,_⟩,_⟩:=hc;cases b<;>simp at hb;refine oG.val h (v:=.int k (if q>p then q else p)) ?_ (ve _ _);simp[execOp,he,resolve,invoke,builtin,Builtin.max_,v1,v2,Builtin.max2]
 ·cases hc
theorem aak {o:Oper}{x y:jK}{k:IntKind}{p q:Int}(h:GX E I ρ n st a w)(hc:Oy false n o.op x y=true)(hx:(x.ev st.tm).g=true)(hy:(y.ev st.tm).g=true)
 (e1:bT st.tm x=qh k p) (e2:bT st.tm y=qh k q):o8 P E n o a w st (qh k (if q<p then q else p)):=by
 unfold Oy at hc;split at hc
 ·rename_i b x' y' ts he;simp only[af]at hc;have g1:=jl h hc.1.2 hx;have g2:=jl h hc.2 hy;rw[e1]at g1;rw[e2]at g2;have v1:=rO g1;have v2:=rO g2;obtain⟨⟨hb,_⟩,_⟩:=hc;cases b<;>simp at hb;refine oG.val h (v:=.int k (if q<p then q else p)) ?_ (ve _ _);simp[execOp,he,resolve,invoke,builtin,Builtin.min_,v1,v2,Builtin.min2]
 ·cases hc
theorem abK {v:Value}{xs:List AC}(h:GP I ρ v (true,xs)):GV I ρ v (.agg xs):=by simpa[GP,GV]using h
theorem Zr {v:Value}{x:AC}(h:GP I ρ v (false,[x])):GV I ρ v (.one x):=by simp only[GP]at h;obtain⟨y,hy,hg⟩:=h;simp at hy;subst hy;exact hg
def BR (x:AV) (i:Nat):FR:=match x with
    | .wF ps=>match ps[i]? with
      |some (true,xs)=>.ok (.agg xs)
      |some (false,[x])=>.ok (.one x)
      |_=>.bad
    |_=>.bad
def Gf (n:Nat)(op:Op)(x:jK)(i:Nat):Bool:=match op with|.extract x' j=>gW n x' x&&j==i|_=>false
theorem Qc {o:Oper}{x:jK}{i:Nat}(h:GX E I ρ n st a w)(hc:Gf n o.op x i=true)(hx:(x.ev st.tm).g=true)(fH:(BR (bT st.tm x) i).vc):o8 P E n o a w st (BR (bT st.tm x) i).v:=by
 unfold Gf at hc;split at hc
 ·rename_i x' j he;simp only[af,beq_iff_eq]at hc;obtain⟨h1,rfl⟩:=hc;have g:=jl h h1 hx;unfold BR at fH⊢;split at fH
  ·rename_i ps e1;rw[e1]at g;obtain⟨vs,hv,hs,hp⟩:=g;have hj:∀p,ps[j]? = some p->∃v,vs[j]? = some v/\GP I ρ v p:=λp hq=>by
    have hl:j<vs.size:=(by rw[hs];exact(ax.1 hq).1);exact⟨vs[j],iC hl,hp j _ p (iC hl) hq⟩
   split at fH
   ·rename_i xs hq;obtain⟨v,hv',hg⟩:=hj _ hq;exact oG.val h (by simp[execOp,he,hv,yl,hv']) (abK hg)
   ·rename_i y hq;obtain⟨v,hv',hg⟩:=hj _ hq;exact oG.val h (by simp[execOp,he,hv,yl,hv']) (Zr hg)
   ·exact fH.elim
  ·exact fH.elim
 ·cases hc
def PV (P:Program)(n:Nat)(op:Op)(x i:jK):Bool:=match op with|.index t x' i'=>gW n x' x&&gW n i' i&&Je P t|_=>false
theorem XQ {o:Oper}{x y:jK}{s:List UInt8}{k:IntKind}{i:Int}(h:GX E I ρ n st a w)(hc:PV P n o.op x y=true)(hx:(x.ev st.tm).g=true)(hy:(y.ev st.tm).g=true)
 (e1:bT st.tm x=Dl s) (e2:bT st.tm y=qh k i) (h0:0<=i) (h1:i<s.length):o8 P E n o a w st (qh .u8 (s.getD i.toNat 0).toNat):=by
 unfold PV at hc;split at hc
 ·rename_i t x' y' he;simp only[af]at hc;have g1:=jl h hc.1.1 hx;have g2:=jl h hc.1.2 hy;rw[e1]at g1;rw[e2]at g2;obtain⟨v1,_⟩:=BF g1;have v2:=rO g2;have ht:=Bq hc.2;have hi:i.toNat<s.length:=by omega
  refine oG.val h (v:=.int .u8 (s.getD i.toNat 0).toNat) ?_ (ve _ _);have hb:(⟨⟨s⟩⟩:ByteArray)[i.toNat]? = some (s.getD i.toNat 0):=by have:(⟨⟨s⟩⟩:ByteArray)[i.toNat]? = some ((⟨⟨s⟩⟩:ByteArray)[i.toNat]'(by simpa[ByteArray.size]using hi)):=getElem?_pos _ _ _;rw[this];simp[bu,aj hi];rfl
  simp[execOp,he,Instr.index,v1,v2,asIntOf,run_underlying ht,h0,hb]
 ·cases hc
def PY (n:Nat)(op:Op)(f:FuncId)(cs:List jK):Bool:=match op with|.makeFunc (.func g) ⟨[]⟩ caps=>g==f&&(caps.size==cs.length)&&(caps.toList.zip cs).all λp=>gW n p.1 p.2|_=>false
theorem abu {cs:List jK}{os:List Operand}{l:List Nat}(h:GX E I ρ n st a w)(hl:os.length=cs.length)(hc:(os.zip cs).all (λp=>gW n p.1 p.2)=true)(hg:∀x,x∈cs->(x.ev st.tm).g=true)
 (hk:BC (cs.map (bT st.tm))=some l):∃ks:List Nat,ks.length=l.length/\(∀(j b k:Nat),l[j]? = some b->ks[j]? = some k->∃cap,ρ b=some (k,cap))/\os.map a.eval=ks.map λk=>kL (some ⟨k,0,none⟩):=by
 induction cs generalizing os l with
 | nil=>
   simp[BC]at hk;subst hk;cases os with
   |nil=>exact⟨[],rfl,by simp,rfl⟩
   |cons _ _=>simp at hl
 | cons c r ih=>
   cases os with
   |nil=>simp at hl
   | cons o os=>
     simp only[List.zip_cons_cons,iD,af]at hc;have g:=jl h hc.1 (hg c (by simp));simp only[aP]at hk;unfold BC at hk;split at hk
     ·rename_i e;cases e
     ·rename_i b r' e;simp only[pJ]at e;obtain⟨e1,rfl⟩:=e;cases hq:BC (r.map (bT st.tm))with
      |none=>rw[hq]at hk;cases hk
      | some l'=>
        rw[hq]at hk;simp at hk;subst hk;obtain⟨ks,h1,h2,h3⟩:=ih (by simpa using hl) hc.2 (λx hx=>hg x (by simp[hx])) hq;rw[e1]at g;obtain⟨k,cap,hr,hv⟩:=g;refine⟨k::ks,by simp[h1],λj b' k' hb hk=>?_,by simp[hv,h3]⟩;cases j with
        |zero=>simp at hb hk;subst hb;subst hk;exact⟨cap,hr⟩
        |succ j=>exact h2 j b' k' (by simpa using hb) (by simpa using hk)
     ·cases hk
theorem Yb {o:Oper}{f:FuncId}{cs:List jK}{l:List Nat}(h:GX E I ρ n st a w)(hc:PY n o.op f cs=true)(hg:∀x,x∈cs->(x.ev st.tm).g=true)
 (hk:BC (cs.map (bT st.tm))=some l):o8 P E n o a w st (.one (.fn f l)):=by
 unfold PY at hc;split at hc
 ·rename_i g caps he;simp only[af,beq_iff_eq]at hc;obtain⟨⟨rfl,hl⟩,hc⟩:=hc;obtain⟨ks,h1,h2,h3⟩:=abu h (by simpa using hl) hc hg hk;refine oG.val h (v:=.func (.func g) #[] (caps.map a.eval)) (by simp[execOp,he,Instr.makeFunc]) ⟨ks,h1,h2,?_⟩
  congr 1
  apply uo;simpa using h3
 ·cases hc
def Ed (off:Nat) (x:AV):FR:=match x with
    |.one (.ptr b o)=>.ok (.one (.ptr b (o+off)))
    |.one (.uI b i sz o)=>.ok (.one (.uI b i sz (o+off)))
    |.one (.zC cs)=>.ok (.one (.zC (cs.drop off)))
    |_=>.bad
theorem Zi {v:Value}{x:AV}{off:Nat}(h:GV I ρ v x)(fH:(Ed off x).vc):∃p:Addr,v = .pointer (some p)/\GV I ρ (.pointer (some (p.add off))) (Ed off x).v:=by
 unfold Ed at *;split at fH
 ·rename_i b o;obtain⟨k,cap,hr,rfl⟩:=h;exact⟨_,rfl,k,cap,hr,by rw[Addr.l7]⟩
 ·rename_i b i sz o;obtain⟨k,cap,hr,rfl⟩:=h;exact⟨_,rfl,k,cap,hr,by rw[Addr.l7,lH]⟩
 ·rename_i cs;obtain⟨p,rfl,hc⟩:=h;exact⟨p,rfl,_,rfl,λj c hj=>by rw[dA]at hj;rw[Addr.add_add];exact hc _ c hj⟩
 ·exact fH.elim
def Qd (P:Program)(s:TypeId)(f off:Nat)(agg:Bool)(k:Nat):Bool:=
 match P.underlying s with
 | some (.struct fs)=>match fs[f]? with
   |some JM=>JM.offset==off&&DK P JM.type agg k&&k != 0
   |none=>false
 |_=>false
theorem Qe {s:TypeId}{f off:Nat}{agg:Bool}{k:Nat}(h:Qd P s f off agg k=true):∃fs JM,P.underlying s=some (.struct fs)/\fs[f]? = some JM/\JM.offset=off/\DK P JM.type agg k=true/\k≠0:=by
 unfold Qd at h;split at h
 ·rename_i fs hs;split at h
  ·rename_i JM hf;simp only[af,beq_iff_eq,bne_iff_ne]at h;exact⟨fs,JM,hs,hf,h.1.1,h.1.2,h.2⟩
  ·cases h
 ·cases h
def yE (P:Program)(s:TypeId)(f off:Nat):Bool:=
 match P.underlying s with
 | some (.struct fs)=>match fs[f]? with
   |some JM=>JM.offset==off&&(match P.info? JM.type with|some i=>i.size != 0|none=>false)
   |none=>false
 |_=>false
def Lr (P:Program)(n:Nat)(op:Op)(off:Nat)(x:jK):Bool:=match op with|.fieldAddr s x' f=>gW n x' x&&yE P s f off|_=>false
theorem UU {o:Oper}{x:jK}{off:Nat}(h:GX E I ρ n st a w)(hc:Lr P n o.op off x=true)(hx:(x.ev st.tm).g=true)(fH:(Ed off (bT st.tm x)).vc):o8 P E n o a w st (Ed off (bT st.tm x)).v:=by
 unfold Lr at hc;split at hc
 ·rename_i s x' f he;simp only[af]at hc;have g:=jl h hc.1 hx;obtain⟨p,hp,hg⟩:=Zi g fH;obtain⟨_,hf⟩:=hc;unfold yE at hf;split at hf
  ·rename_i fs hs;split at hf
   ·rename_i JM hfld;simp only[af,beq_iff_eq]at hf;obtain⟨rfl,hf⟩:=hf;split at hf
    ·rename_i i hi;simp at hf;refine oG.val h ?_ hg;simp[execOp,he,uK,run_underlying hs,hfld,hp,gz,fieldPlace,sizeOf,typeInfo,hi,hf]
    ·cases hf
   ·cases hf
  ·cases hf
 ·cases hc
def Jl (x:AV):FR:=match x with
    |.one (.ptr b o)=>.ok (.one (.ptr b o))
    |.one (.uI b i sz o)=>.ok (.one (.uI b i sz o))
    |.one (.zC cs)=>.ok (.one (.zC cs))
    |.one (.fn f cs)=>.ok (.one (.fn f cs))
    |_=>.bad
def LD (n:Nat)(op:Op)(x:jK):Bool:=match op with|.nilCheck x'=>gW n x' x|_=>false
theorem Vm {o:Oper}{x:jK}(h:GX E I ρ n st a w)(hc:LD n o.op x=true)(hx:(x.ev st.tm).g=true)(fH:(Jl (bT st.tm x)).vc):o8 P E n o a w st (Jl (bT st.tm x)).v:=by
 unfold LD at hc;split at hc
 ·rename_i x' he;have g:=jl h hc hx;have key:(∃p,a.eval x' = .pointer (some p))\/(∃f b,a.eval x' = .func (.func f) #[] b)->(execOp a.eval o).run P w = .ok (.value (a.eval x')) w:=by rintro(⟨p,hp⟩|⟨f,b,hp⟩)<;>simp[execOp,he,hp]
  unfold Jl at fH⊢;split at fH
  ·rename_i b o' e1;rw[e1]at g;exact oG.val h (key (by obtain⟨k,cap,hr,hv⟩:=g;exact .inl ⟨_,hv⟩)) g
  ·rename_i b i sz o' e1;rw[e1]at g;exact oG.val h (key (by obtain⟨k,cap,hr,hv⟩:=g;exact .inl ⟨_,hv⟩)) g
  ·rename_i cs e1;rw[e1]at g;exact oG.val h (key (by obtain⟨p,hv,_⟩:=g;exact .inl ⟨_,hv⟩)) g
  ·rename_i f cs e1;rw[e1]at g;exact oG.val h (key (by obtain⟨ks,_,_,hv⟩:=g;exact .inr ⟨_,_,hv⟩)) g
  ·exact fH.elim
 ·cases hc
end
end
section
section
variable {P:Program} {E:Env P} {I:IH} {ρ:Ren} {n:Nat} {st:dP} {a:Act} {w:World}
def IV (agg:Bool) (off k:Nat) (x:AV):FR:=match x with
    | .agg xs=>if agg then⟨off+k<=xs.length,.agg ((xs.drop off).take k),[]⟩else match xs[off]? with
      |some x=>.ok (.one x)
      |none=>.bad
    |_=>.bad
def Ls (P:Program)(n:Nat)(op:Op)(agg:Bool)(off k:Nat)(x:jK):Bool:=match op with|.field s x' f=>gW n x' x&&Qd P s f off agg k|_=>false
theorem Zo {vs:List Value}{xs:List AC}(h:EN I ρ vs xs)(off k:Nat):EN I ρ ((vs.drop off).take k) ((xs.drop off).take k):=by
 refine⟨by simp[h.1],λj v x hv hx=>?_⟩;rw[bf]at hv hx;split at hv
 ·rename_i hj;rw[if_pos hj]at hx;rw[dA]at hv hx;exact h.2 _ v x hv hx
 ·cases hv
theorem UW {o:Oper}{x:jK}{agg:Bool}{off k:Nat}(h:GX E I ρ n st a w)(hc:Ls P n o.op agg off k x=true)(hx:(x.ev st.tm).g=true)(fH:(IV agg off k (bT st.tm x)).vc) :
 o8 P E n o a w st (IV agg off k (bT st.tm x)).v:=by
 unfold Ls at hc;split at hc
 ·rename_i s x' f he;simp only[af]at hc;have g:=jl h hc.1 hx;obtain⟨fs,JM,hs,hf,rfl,ht,hk⟩:=Qe hc.2;obtain⟨t1,t2⟩:=Ak ht w;unfold IV at fH⊢;split at fH
  ·rename_i xs e1;rw[e1]at g;obtain⟨cs,hv,hg⟩:=g;split at fH
   ·rename_i hA;rw[if_pos hA];rw[hA]at t1;refine oG.val h (v:=.agg (cs.extract JM.offset (JM.offset+k))) (by simp[execOp,he,yS,run_underlying hs,hf,hv,asAgg,part,t1,t2]) ⟨_,rfl,?_⟩;have:=Zo hg JM.offset k;simpa[List.extract_eq_take_drop]using this
   ·rename_i hA;rw[if_neg hA];have hA':agg=false:=(by simpa using hA);rw[hA']at t1;split at fH
    ·rename_i y hy;have hl:JM.offset<cs.size:=by
      have h1:=hg.1;have h2:=(ax.1 hy).1;simp at h1;omega
     refine oG.val h (v:=cs[JM.offset]) (by simp[execOp,he,yS,run_underlying hs,hf,hv,asAgg,part,t1,iC hl]) (hg.2 JM.offset _ y (by simp[hl]) hy)
    ·exact fH.elim
  ·exact fH.elim
 ·cases hc
def I9 (sz:Nat) (x i:AV):FR:=match x,i with
    |.one (.c (.sl sz' es)),.one (.c (.lit (.int _ i)))=>⟨sz'=sz/\0<=i/\i<es.length,.one (.zC (es.getD i.toNat [])),[]⟩
    |.one (.own b n sz'),.one (.c (.lit (.int _ i)))=>⟨sz'=sz/\0<=i/\i<n,.one (.uI b i.toNat sz 0),[]⟩
    |.one (.sub b lo n _ sz'),.one (.c (.lit (.int _ i)))=>⟨sz'=sz/\0<=i/\i<n,.one (.uI b (lo+i.toNat) sz 0),[]⟩
    |_,_=>.bad
def Eb (P:Program)(t:TypeId)(sz:Nat):Bool:=match P.underlying t with|some (.slice e)=>Jt P e sz|_=>false
theorem wC {t:TypeId}{sz:Nat}(h:Eb P t sz=true):∃e i,P.underlying t=some (.slice e)/\P.info? e=some i/\i.size=sz:=by
 unfold Eb at h;split at h
 ·rename_i e he;obtain⟨i,h1,h2⟩:=ED h;exact⟨e,i,he,h1,h2⟩
 ·cases h
def Lt (P:Program)(n:Nat)(op:Op)(sz:Nat)(x i:jK):Bool:=match op with|.indexAddr t x' i'=>gW n x' x&&gW n i' i&&Eb P t sz|_=>false
theorem U7 {o:Oper}{x y:jK}{sz:Nat}(h:GX E I ρ n st a w)(hc:Lt P n o.op sz x y=true)(hx:(x.ev st.tm).g=true)(hy:(y.ev st.tm).g=true)
 (fH:(I9 sz (bT st.tm x) (bT st.tm y)).vc):o8 P E n o a w st (I9 sz (bT st.tm x) (bT st.tm y)).v:=by
 unfold Lt at hc;split at hc
 ·rename_i t x' y' he;simp only[af]at hc;have g1:=jl h hc.1.1 hx;have g2:=jl h hc.1.2 hy;obtain⟨e,ti,ht,hi,hsz⟩:=wC hc.2;unfold I9 at fH⊢;split at fH
  ·rename_i sz' es k i e1 e2;obtain⟨rfl,h0,h1⟩:=fH;rw[e1]at g1;rw[e2]at g2;have v2:=rO g2;generalize hq:a.eval x'=v1 at g1;cases g1 with|sl b len cap _ _ u hlen hcap hmax aga ha hcell hr=>
   subst hlen;have hpos:0<es.length:=(by omega);cases hb:b with
   |none=>exact absurd hb (ha hpos)
   | some ad=>
     subst hb;refine oG.val h (v:=.pointer (some (ad.add (i.toNat*sz')))) (by simp[execOp,he,oN,v2,hq,asIntOf,run_underlying ht,h0,h1,sizeOf,typeInfo,hi,hsz]) ⟨_,rfl,λj c hj=>?_⟩;have hil:i.toNat<es.length:=(by omega);have hjl:j<sz':=by have:=aga (es.getD i.toNat []) (by simp[bu,aj hil]);rw[<- this];exact(ax.1 hj).1
     exact⟨_,by rw[Addr.add_add];exact hcell ad rfl _ j hil hjl,hr _ j c hj⟩
  ·rename_i b m sz' k i e1 e2;obtain⟨rfl,h0,h1⟩:=fH;rw[e1]at g1;rw[e2]at g2;have v2:=rO g2;obtain⟨kk,cap,ad,c,hr,hv,hm,hcc,hcap⟩:=g1;have hc0:cap≠0:=(by omega);have had:=hcap hc0;subst had;refine oG.val h (v:=.pointer (some ((⟨kk,0,none⟩:Addr).add (i.toNat*sz')))) (by simp[execOp,he,oN,v2,hv,asIntOf,run_underlying ht,h0,h1,sizeOf,typeInfo,hi,hsz]) ⟨kk,cap,hr,?_⟩;rw[Addr.l7];simp
  ·rename_i b lo m c0 sz' k i e1 e2;obtain⟨rfl,h0,h1⟩:=fH;rw[e1]at g1;rw[e2]at g2;have v2:=rO g2;obtain⟨kk,cap,ad,c,hr,hv,hm,hcc,_,hcap⟩:=g1;have had:=hcap (.inl (by omega));subst had;refine oG.val h (v:=.pointer (some ((⟨kk,lo*sz',none⟩:Addr).add (i.toNat*sz')))) (by simp[execOp,he,oN,v2,hv,asIntOf,run_underlying ht,h0,h1,sizeOf,typeInfo,hi,hsz]) ⟨kk,cap,hr,?_⟩;rw[Addr.l7,bg,kN]
  ·exact fH.elim
 ·cases hc
def Hf (P:Program)(t:TypeId)(sz n:Nat):Bool:=match P.underlying t with|some (.array m e)=>m==n&&Jt P e sz|_=>false
theorem Hg {t:TypeId}{sz m:Nat}(h:Hf P t sz m=true):∃e i,P.underlying t=some (.array m e)/\P.info? e=some i/\i.size=sz:=by
 unfold Hf at h;split at h
 ·rename_i m' e he;simp only[af,beq_iff_eq]at h;obtain⟨rfl,h⟩:=h;obtain⟨i,h1,h2⟩:=ED h;exact⟨e,i,he,h1,h2⟩
 ·cases h
def IP (P:Program)(n:Nat)(op:Op)(sz m:Nat)(x i:jK):Bool:=match op with|.indexAddr t x' i'=>gW n x' x&&gW n i' i&&Hf P t sz m|_=>false
theorem SC {o:Oper}{x y:jK}{sz m b:Nat}{k:IntKind}{i:Int}(h:GX E I ρ n st a w)(hc:IP P n o.op sz m x y=true)(hx:(x.ev st.tm).g=true)(hy:(y.ev st.tm).g=true)
 (e1:bT st.tm x = .one (.uI b 0 sz 0)) (e2:bT st.tm y=qh k i) (h0:0<=i) (h1:i<m):o8 P E n o a w st (.one (.uI b i.toNat sz 0)):=by
 unfold IP at hc;split at hc
 ·rename_i t x' y' he;simp only[af]at hc;have g1:=jl h hc.1.1 hx;have g2:=jl h hc.1.2 hy;obtain⟨e,ti,ht,hi,hsz⟩:=Hg hc.2;rw[e1]at g1;rw[e2]at g2;have v2:=rO g2;obtain⟨kk,cap,hr,hv⟩:=g1;refine oG.val h (v:=.pointer (some ((⟨kk,0*sz+0,none⟩:Addr).add (i.toNat*sz)))) (by simp[execOp,he,oN,v2,hv,asIntOf,run_underlying ht,gz,h0,h1,sizeOf,typeInfo,hi,hsz]) ⟨kk,cap,hr,?_⟩;rw[Addr.l7];simp
 ·cases hc
theorem BM {lo:Option jK}{lo':Option Operand}{d:Nat}{q:Int}(h:GX E I ρ n st a w)(hc:(match lo',lo with|none,none=>true|some x',some x=>gW n x' x|_,_=>false)=true)
 (hg:∀x,x∈lo.toList->(x.ev st.tm).g=true) (hb:bnd (bT st.tm) lo d=some q):(lo'=none/\lo=none/\q=d)\/∃x' k,lo'=some x'/\a.eval x' = .int k q:=by
 unfold bnd at hb;split at hc
 ·simp at hb;exact .inl ⟨rfl,rfl,hb.symm⟩
 ·rename_i x' x;have g:=jl h hc (hg x (by simp));simp only at hb;split at hb
  ·rename_i k m e1;simp at hb;subst hb;rw[e1]at g;exact .inr ⟨x',k,rfl,rO g⟩
  ·cases hb
 ·cases hc
def IM (n:Nat)(lo':Option Operand)(lo:Option jK):Bool:=match lo',lo with|none,none=>true|some x',some x=>gW n x' x|_,_=>false
theorem ER {lo:Option jK}{lo':Option Operand}{d:Nat}{q:Int}(h:(lo'=none/\lo=none/\q=d)\/∃x' k,lo'=some x'/\a.eval x' = .int k q) :
 lo'.map a.eval=none/\q=d\/∃k,lo'.map a.eval=some (.int k q):=by
 rcases h with⟨rfl,_,e⟩|⟨y,k,rfl,e⟩
 ·exact .inl ⟨rfl,e⟩
 ·exact .inr ⟨k,by simp[e]⟩
theorem run_sliceBound {k:IntKind}{i:Int}{y:Nat}{c:BoundsCode}(h0:0<=i)(h1:i<=y):(Instr.sliceBound (.int k i) y c).run P w = .ok i.toNat w:=by simp[Instr.sliceBound,asIntOf,h0,h1]
theorem xI (isS:Bool)(len cap:Nat)(lo' hi':Option Value){p q:Int}(hlo:lo'=none/\p=0\/∃k,lo'=some (.int k p))(hhi:hi'=none/\q=len\/∃k,hi'=some (.int k q))
 (h0:0<=p) (h1:p<=q) (h2:q<=cap):(rZ isS len cap lo' hi' none).run P w = .ok (p.toNat,q.toNat,cap) w:=by
 rcases hlo with⟨rfl,rfl⟩|⟨k,rfl⟩<;>rcases hhi with⟨rfl,rfl⟩|⟨k',rfl⟩<;>cases isS <;>
  simp (disch:=omega) [rZ,run_sliceBound]
def LH (P:Program)(n:Nat)(op:Op)(x:jK)(lo hi:Option jK):Bool:=match op with|.slice t x' lo' hi' none=>gW n x' x&&IM n lo' lo&&IM n hi' hi&&Je P t|_=>false
theorem VC {o:Oper}{x:jK}{lo hi:Option jK}{s:List UInt8}{p q:Int}(h:GX E I ρ n st a w)(hc:LH P n o.op x lo hi=true)(hx:(x.ev st.tm).g=true)
 (hgl:∀x,x∈lo.toList->(x.ev st.tm).g=true) (hgh:∀x,x∈hi.toList->(x.ev st.tm).g=true)
 (e1:bT st.tm x=Dl s) (e2:bnd (bT st.tm) lo 0=some p) (e3:bnd (bT st.tm) hi s.length=some q) (h0:0<=p) (h1:p<=q) (h2:q<=s.length) :
 o8 P E n o a w st (Dl ((s.take q.toNat).drop p.toNat)):=by
 unfold LH at hc;split at hc
 ·rename_i t x' lo' hi' he;simp only[af]at hc;have g1:=jl h hc.1.1.1 hx;have ht:=Bq hc.2;rw[e1]at g1;obtain⟨v1,hl⟩:=BF g1;have b1:=BM h hc.1.1.2 hgl e2;have b2:=BM h hc.1.2 hgh e3;have hb:=xI (P:=P) (w:=w) false s.length s.length (lo'.map a.eval) (hi'.map a.eval) (p:=p) (q:=q)
   (ER b1) (ER b2) h0 h1 h2
  have hx:(⟨⟨s⟩⟩:ByteArray).extract p.toNat q.toNat=⟨⟨(s.take q.toNat).drop p.toNat⟩⟩:=by rw[Lib.extract_eq];simp[List.drop_take]
  refine oG.val h (v:=.string ⟨⟨(s.take q.toNat).drop p.toNat⟩⟩) ?_ (Qx (by simp;omega));simp only[execOp,he,rE,vV,v1,ig];simp[run_underlying ht];rw[show(⟨⟨s⟩⟩:ByteArray).size=s.length from rfl,hb];simp[hx]
 ·cases hc
def O9 (sz:Nat) (x:AV) (lo:Option Int) (hi:Nat->Option Int):FR:=match x with
    | .one (.c (.sl sz' es))=>match lo,hi es.length with
      |some a,some b=>⟨sz'=sz/\0<=a/\a<=b/\b<=es.length,vSl sz ((es.take b.toNat).drop a.toNat),[]⟩
      |_,_=>.bad
    | .one (.xh sz')=>match lo,hi 0 with
      |some a,some b=>⟨a=0/\b=0,.one (.xh sz'),[]⟩
      |_,_=>.bad
    | .one (.own l n sz')=>match lo,hi n with
      |some a,some b=>⟨a=0/\0<=b/\b<=n,.one (.own l b.toNat sz'),[]⟩
      |_,_=>.bad
    |_=>.bad
theorem adP {v:Value}{sz:Nat}{es:List (List Cell)}(h:Rd I v (.sl sz es)){p q:Nat}(hpq:p<=q)(hq:q<=es.length):∃a cap,v = .slice a es.length cap/\es.length<=cap /\
 Rd I (.slice (if cap=p then a else a.map (·.add (p*sz))) (q-p) (cap-p)) (.sl sz ((es.take q).drop p)):=by
 cases h with|sl a len cap sz es u hlen hcap hmax hsz ha hcell hr=>
 subst hlen;refine⟨a,cap,rfl,hcap,?_⟩;refine Rd.sl _ _ _ _ _ (λi j=>u (p+i) j) (by simp;omega) (by omega) (by omega) ?_ ?_ ?_ ?_
 ·intro e he;exact hsz e (dG (iR he))
 ·intro h0;rw[if_neg (by omega)];have:=ha (by omega);cases a with
  |none=>exact absurd rfl this
  |some ad=>simp
 ·intro ad had i j hi hj;rw[if_neg (by omega)]at had;cases a with
  |none=>simp at had
  | some ad'=>
    simp at had;subst had;rw[Addr.add_add,<- hcell ad' rfl (p+i) j (by omega) hj]
    congr 2
    rw[bg,lH]
 ·intro i j c hc;have hi:=iL hc;simp at hi;refine hr (p+i) j c ?_;rw[<- hc]
  congr 1
  simp only[bu];rw[dA,bf,if_pos (by omega)]
def P6 (P:Program)(n:Nat)(op:Op)(sz:Nat)(x:jK)(lo hi:Option jK):Bool:=match op with|.slice t x' lo' hi' none=>gW n x' x&&IM n lo' lo&&IM n hi' hi&&Eb P t sz|_=>false
theorem Yu {o:Oper}{sz:Nat}{x:jK}{lo hi:Option jK}(h:GX E I ρ n st a w)(hc:P6 P n o.op sz x lo hi=true)(hx:(x.ev st.tm).g=true)
 (hgl:∀x,x∈lo.toList->(x.ev st.tm).g=true) (hgh:∀x,x∈hi.toList->(x.ev st.tm).g=true)
 (fH:(O9 sz (bT st.tm x) (bnd (bT st.tm) lo 0) (bnd (bT st.tm) hi)).vc):o8 P E n o a w st (O9 sz (bT st.tm x) (bnd (bT st.tm) lo 0) (bnd (bT st.tm) hi)).v:=by
 unfold P6 at hc;split at hc
 ·rename_i t x' lo' hi' he;simp only[af]at hc;have g1:=jl h hc.1.1.1 hx;obtain⟨e,ti,ht,hti,hsz⟩:=wC hc.2;have key:∀(b:Option Addr) (len cap:Nat) (p q:Int),a.eval x' = .slice b len cap->len<=cap->bnd (bT st.tm) lo 0=some p->bnd (bT st.tm) hi len=some q->0<=p->p<=q->q<=cap ->
   (execOp a.eval o).run P w = .ok (.value (.slice (if cap=p.toNat then b else b.map (·.add (p.toNat*sz))) (q.toNat-p.toNat) (cap-p.toNat))) w:=by
   intro b len cap p q hv hlc e2 e3 h0 h1 h2;have b1:=BM h hc.1.1.2 hgl e2;have b2:=BM h hc.1.2 hgh e3;have hb:=xI (P:=P) (w:=w) true len cap (lo'.map a.eval) (hi'.map a.eval) (p:=p) (q:=q)
    (ER b1) (ER b2) h0 h1 h2
   simp only[execOp,he,rE,vV,hv,ig];simp[run_underlying ht];rw[hb];simp[sizeOf,typeInfo,hti,hsz]
  unfold O9 at fH⊢;split at fH
  ·rename_i sz' es e1;rw[e1]at g1;split at fH
   ·rename_i p q e2 e3;obtain⟨rfl,h0,h1,h2⟩:=fH;obtain⟨b,cap,hv,hcap,hr⟩:=adP g1 (p:=p.toNat) (q:=q.toNat) (by omega) (by omega);exact oG.val h (key b _ cap p q hv hcap e2 e3 h0 h1 (by omega)) hr
   ·exact fH.elim
  ·rename_i sz' e1;rw[e1]at g1;split at fH
   ·rename_i p q e2 e3;obtain⟨rfl,rfl⟩:=fH;have:=key none 0 0 0 0 g1 (aA _) e2 e3 (by omega) (by omega) (by omega);exact oG.val h this (by simp[GV,GC])
   ·exact fH.elim
  ·rename_i b m sz' e1;rw[e1]at g1;split at fH
   ·rename_i p q e2 e3;obtain⟨rfl,h1,h2⟩:=fH;obtain⟨kk,cap,ad,c,hr,hv,hm,hcc,hcap⟩:=g1;have:=key ad m c 0 q hv hm e2 e3 (by omega) (by omega) (by omega);refine oG.val h this ⟨kk,cap,_,_,hr,rfl,by omega,by omega,λhc0=>?_⟩;rw[hcap hc0];simp[Addr.add_zero]
   ·exact fH.elim
  ·exact fH.elim
 ·cases hc
def LG (P:Program)(n:Nat)(op:Op)(sz m:Nat)(x:jK):Bool:=match op with|.slice t x' none none none=>gW n x' x&&Hf P t sz m|_=>false
theorem VB {o:Oper}{sz m b:Nat}{es:List (List Cell)}{x:jK}(h:GX E I ρ n st a w)(hc:LG P n o.op sz m x=true)(hx:(x.ev st.tm).g=true)
 (e1:bT st.tm x = .one (.uI b 0 sz 0)) (e2:st.bx b = .dat sz es) (hm:es.length=m):o8 P E n o a w st (.one (.own b m sz)):=by
 unfold LG at hc;split at hc
 ·rename_i t x' he;simp only[af]at hc;have g1:=jl h hc.1 hx;rw[e1]at g1;obtain⟨kk,cap,hr,hv⟩:=g1;obtain⟨e,ti,ht,hi',hsz⟩:=Hg hc.2;have facts:=GS.BL h (b:=b) (by rw[e2];rfl) hr;refine oG.val h (v:=.slice (some ⟨kk,0,none⟩) m m) ?_ ⟨kk,cap,_,_,hr,rfl,aA _,by omega,λ_=>rfl⟩;have hb:=xI (P:=P) (w:=w) false m m none none (p:=0) (q:=m) (.inl ⟨rfl,rfl⟩) (.inl ⟨rfl,rfl⟩) (by omega) (by omega) (by omega);simp only[execOp,he,rE,hv,ig];simp[run_underlying ht,gz];rw[hb];simp[sizeOf,typeInfo,hi',Addr.add_zero]
 ·cases hc
end
end
section
section
variable {P:Program} {E:Env P} {I:IH} {ρ:Ren} {n:Nat} {st:dP} {a:Act} {w:World}
theorem kG {α:Type}(xs ys:List α)(off j:Nat)(h:off+ys.length<=xs.length):(splice xs off ys)[j]? = if j<off then xs[j]? else if j<off+ys.length then ys[j-off]? else xs[j]?:=by
 unfold splice;have h1:(xs.take off).length=off:=by simp;omega
 by_cases hj:j<off
 ·rw[if_pos hj,qM,aU (by omega),bf,if_pos hj]
 ·rw[if_neg hj];by_cases hj2:j<off+ys.length
  ·rw[if_pos hj2,aU (by simp;omega),bJ (by omega),h1]
  ·rw[if_neg hj2,bJ (by simp;omega),dA]
   congr 1
   simp;omega
theorem length_splice {α:Type}(xs ys:List α)(off:Nat)(h:off+ys.length<=xs.length):(splice xs off ys).length=xs.length:=by unfold splice;simp;omega
theorem L6 {α:Type}(vs:List α):∀(i off:Nat) (cs:Array α),off+i+vs.length<=cs.size ->
 ((vs.zipIdx i).foldl (λcs p=>cs.setIfInBounds (off+p.2) p.1) cs).toList=splice cs.toList (off+i) vs:=by
 induction vs with
 |nil=>intro i off cs h;simp[splice]
 | cons v r ih=>
   intro i off cs h;simp only[List.zipIdx_cons,List.foldl_cons];rw[ih (i+1) off _ (by simp at h⊢;omega)];apply List.ext_getElem?;intro j;simp only[lU]at h;rw[kG _ _ _ _ (by simp;omega),kG _ _ _ _ (by simp;omega)];simp only[Array.toList_setIfInBounds,lI,lU];by_cases h1:j<off+i
   ·rw[if_pos (by omega),if_neg (by omega),if_pos h1]
   ·rw[if_neg h1];by_cases h2:j=off+i
    ·subst h2;rw[if_pos (by omega),if_pos rfl,if_pos (by simp;omega),if_pos (by omega)];simp
    ·rw[if_neg (by omega)];by_cases h3:j<off+(i+1)+r.length
     ·rw[if_pos h3,if_pos (by omega)];rw[show j-(off+i)=(j-(off+(i+1)))+1 by omega,List.getElem?_cons_succ]
     ·rw[if_neg h3,if_neg (by omega),if_neg (by omega)]
theorem foldl_set (v:Array Value)(off:Nat)(cs:Array Value)(h:off+v.size<=cs.size) :
 (v.zipIdx.foldl (λcs (p:Value×Nat)=>cs.setIfInBounds (off+p.2) p.1) cs).toList=splice cs.toList off v.toList:=by
 have:=L6 v.toList 0 off cs (by simpa using h);rw[kN]at this;rw[<- this,<- Array.foldl_toList,Array.toList_zipIdx]
theorem EN.splice {vs us:List Value}{xs ys:List AC}(h:EN I ρ vs xs)(k:EN I ρ us ys)(off:Nat)(hl:off+ys.length<=xs.length):EN I ρ (splice vs off us) (splice xs off ys):=by
 have hlu:off+us.length<=vs.length:=by rw[h.1,k.1];exact hl
 refine⟨by rw[length_splice _ _ _ hlu,length_splice _ _ _ hl];exact h.1,λj v x hv hx=>?_⟩;rw[kG _ _ _ _ hlu]at hv;rw[kG _ _ _ _ hl]at hx;rw[k.1]at hv;by_cases h1:j<off
 ·rw[if_pos h1]at hv hx;exact h.2 j v x hv hx
 ·rw[if_neg h1]at hv hx;by_cases h2:j<off+ys.length
  ·rw[if_pos h2]at hv hx;exact k.2 _ v x hv hx
  ·rw[if_neg h2]at hv hx;exact h.2 j v x hv hx
theorem Eg {v:Value}{x:AV}(h:GV I ρ v x)(ht:x.flat):EN I ρ v.cells.toList x.cells:=by
 cases x with
 | one x=>
   have h1:=GC.one h;have hc:v.cells = #[v]:=by cases v<;>first|rfl|(simp[Value.oneCell']at h1;done)
   rw[hc];exact⟨rfl,λj u y hu hy=>by cases j with
    |zero=>simp at hu;simp[AV.cells]at hy;subst hu;subst hy;exact h
    |succ j=>simp at hu⟩
 |agg xs=>obtain⟨cs,rfl,hg⟩:=h;exact hg
 |wF ps=>exact ht.elim
def Iu (zs:List Value)(xs:List AC):Bool:=zs.length==xs.length&&(zs.zip xs).all λp=>abv p.1 p.2
theorem Dp {zs:List Value}{xs:List AC}(h:Iu zs xs=true):EN I ρ zs xs:=by unfold Iu at h;simp only[af,beq_iff_eq,aH]at h;refine⟨h.1,λj v x hv hx=>V6 (h.2 (v,x) ?_)⟩;exact dL (i:=j) (by simp[uu,hv,hx])
def E8 (P:Program)(n:Nat)(fs:Array Field):List (Nat×Operand)->List (Nat×Nat×jK)->Bool
 |[],[]=>true
 |(i,x)::r,(off,sz,y)::r'=>(match fs[i]? with
  |some f=>f.offset==off&&Jt P f.type sz
  |none=>false)&&gW n x y&&E8 P n fs r r'
 |_,_=>false
theorem run_places (w:World)(fs:List Field)(h:fs.all (λf=>(P.info? f.type).isSome)=true) :
 (fs.mapM (m:=Sem) λf=>do pure (f.offset,<- sizeOf f.type)).run P w = .ok (fs.map λf=>(f.offset,P.cellsOf f.type)) w:=by
 induction fs with
 |nil=>rfl
 | cons f r ih=>
   simp only[iD,af]at h;cases hi:P.info? f.type with
   |none=>rw[hi]at h;cases h.1
   | some i=>have h1:(sizeOf f.type).run P w = .ok (P.cellsOf f.type) w:=(by simp[sizeOf,typeInfo,hi,Program.cellsOf]);simp only[List.mapM_cons,bF,h1,aN,aX,ih h.2,aP]
def VZ (P:Program)(n:Nat)(t:TypeId)(zs:List AC)(ps:List (Nat×Operand))(ps':List (Nat×Nat×jK)):Bool:=
 match P.underlying t,P.info? t with
 |some (.struct fs),some i=>(match i.zero with|some (.agg cs)=>Iu cs.toList zs|_=>false)&&fs.toList.all (λf=>(P.info? f.type).isSome)&&E8 P n fs ps ps'
 |_,_=>false
def Lp (P:Program)(n:Nat)(op:Op)(zs:List AC)(ps':List (Nat×Nat×jK)):Bool:=match op with|.build t ps=>VZ P n t zs ps.toList ps'|_=>false
theorem UA {t:TypeId}{k:Nat}(h:Jt P t k=true):P.cellsOf t=k:=by obtain⟨i,hi,hs⟩:=ED h;simp[Program.cellsOf,hi,hs]
theorem We {fs:Array Field}(h:GX E I ρ n st a w):∀(ps:List (Nat×Operand)) (ps':List (Nat×Nat×jK)) (cs:Array Value) (xs:List AC),E8 P n fs ps ps'=true->EN I ρ cs.toList xs ->
 (∀p,p∈ps'->(p.2.2.ev st.tm).g=true)->(∀p,p∈ps'->QI xs.length (p.1,p.2.1,bT st.tm p.2.2)) ->
 ∃cs',lZ ((fs.map λf=>(f.offset,P.cellsOf f.type))[·]?) cs (ps.map λp=>(p.1,a.eval p.2))=some cs'/\EN I ρ cs'.toList (LW xs (ps'.map λp=>(p.1,(bT st.tm p.2.2).cells)))
 |[],[],cs,xs,_,hg,_,_=>⟨cs,rfl,hg⟩
 |[],_::_,_,_,h,_,_,_=>by simp[E8]at h
 |_::_,[],_,_,h,_,_,_=>by simp[E8]at h
 | (i,x)::r,(off,sz,y)::r',cs,xs,hp,hg,hv,hq=>by
   simp only[E8,af]at hp;obtain⟨⟨hf,hx⟩,hr⟩:=hp;split at hf
   ·rename_i f hfi;simp only[af,beq_iff_eq]at hf;obtain⟨rfl,hsz⟩:=hf;have hs:=UA hsz;have g:=jl h hx (hv _ (aK ..));obtain⟨q1,q2,q3⟩:=hq _ (aK ..);have gc:=Eg g q3;have hvs:(a.eval x).cells.size=sz:=(by have:=gc.1;simp at this;rw[this];exact q1);have hcs:cs.size=xs.length:=(by have:=hg.1;simpa using this);have q1:(bT st.tm y).cells.length=sz:=q1;have q2:f.offset+sz<=xs.length:=q2;have hgs:=hg.splice gc f.offset (by rw[q1];exact q2);have hfold:=foldl_set (a.eval x).cells f.offset cs (by omega);have ih:=We h r r' ((a.eval x).cells.zipIdx.foldl (λcs (p:Value×Nat)=>cs.setIfInBounds (f.offset+p.2) p.1) cs) (splice xs f.offset (bT st.tm y).cells) hr (by rw[hfold];exact hgs)
     (λp hp=>hv p (by simp[hp])) (λp hp=>by rw[length_splice _ _ _ (by rw[q1];exact q2)];exact hq p (by simp[hp]))
    obtain⟨cs',h1,h2⟩:=ih;refine⟨cs',?_,?_⟩
    ·have hpl:(fs.map λf=>(f.offset,P.cellsOf f.type))[i]? = some (f.offset,sz):=(by rw[jT,hfi,<- hs];rfl);simp only[aP,lZ,hpl];rw[if_neg (by simp;omega)];exact h1
    ·simpa only[aP,LW]using h2
   ·cases hf
theorem Ux {o:Oper}{zs:List AC}{ps:List (Nat×Nat×jK)}(h:GX E I ρ n st a w)(hc:Lp P n o.op zs ps=true)(hv:∀p,p∈ps->(p.2.2.ev st.tm).g=true)
 (hq:∀p,p∈ps->QI zs.length (p.1,p.2.1,bT st.tm p.2.2)):o8 P E n o a w st (.agg (LW zs (ps.map λp=>(p.1,(bT st.tm p.2.2).cells)))):=by
 unfold Lp at hc;split at hc
 ·rename_i t ps0 he;unfold VZ at hc;split at hc
  ·rename_i fs i hs hi;simp only[af]at hc;obtain⟨⟨hz,hall⟩,hp⟩:=hc;split at hz
   ·rename_i cs hzero;obtain⟨cs',h1,h2⟩:=We (P:=P) h ps0.toList ps cs zs hp (Dp hz) hv hq;refine oG.val h (v:=.agg cs') ?_ ⟨cs',rfl,h2⟩;have hpl:=run_places (P:=P) w fs.toList hall;have hpl':(fs.mapM (m:=Sem) λf=>do pure (f.offset,<- sizeOf f.type)).run P w = .ok (fs.map λf=>(f.offset,P.cellsOf f.type)) w:=by
     rw[Array.mapM_eq_mapM_toList,Go.Sem.run_map,hpl];simp only[aN]
     congr 1
     apply uo;simp
    have ZJ:(zeroValue t).run P w = .ok (.agg cs) w:=(by simp[zeroValue,typeInfo,hi,hzero]);have hps:(ps0.map λ(i,x)=>(i,a.eval x)).toList=ps0.toList.map λp=>(p.1,a.eval p.2):=(by simp);simp only[execOp,he,Instr.build,bF,ZJ,aN,lM,run_underlying hs,hpl',hps,h1,aX]
   ·cases hz
  ·cases hc
 ·cases hc
def Src (I:IH)(w:World)(v:Value)(sz:Nat)(es:List (List Cell)):Prop:=
 ∃ (b:Option Addr) (cap:Nat),v = .slice b es.length cap/\es.length<=maxLen/\(∀e,e∈es->e.length=sz)/\(0<es.length->b≠none) /\
   ∀ad,b=some ad->∀i j c,(es.getD i [])[j]? = some c->∃u,w.cell? (ad.add (i*sz+j))=some u/\Rd I u c
theorem src_ok (h:GX E I ρ n st a w){v:Value}{x:AV}{sz:Nat}{p:Prop}{es:List (List Cell)}(hv:GV I ρ v x)(hs:rU sz x st.bx=some (p,es))(hp:p):Src I w v sz es:=by
 unfold rU at hs;split at hs
 ·rename_i sz' es';simp only[aG,bV]at hs;obtain⟨rfl,rfl⟩:=hs;subst hp;cases hv with|sl b len cap _ _ u hlen hcap hmax hsz ha hcell hr=>
  subst hlen;refine⟨b,cap,rfl,by omega,hsz,ha,λad had i j c hc=>?_⟩;have hi:=iL hc;have hj:j<sz':=by have:=hsz (es'.getD i []) (by simp[bu,aj hi]);rw[<- this];exact(ax.1 hc).1
  exact⟨_,h.agree.cell (hcell ad had i j hi hj),hr i j c hc⟩
 ·simp at hs;obtain⟨_,rfl⟩:=hs;simp only[GV,GC]at hv;exact⟨none,0,hv,by simp,by simp,by simp,λad had=>by cases had⟩
 ·rename_i b m sz';split at hs
  ·rename_i wz es' hb;simp only[aG,bV]at hs;obtain⟨rfl,rfl⟩:=hs;obtain⟨rfl,rfl,hm⟩:=hp;obtain⟨k,cap,ad,c,hr,rfl,hmc,hcc,ha⟩:=hv;have facts:=GS.BL h hb hr;have hlen:(es'.take m).length=m:=(by simp;omega);refine⟨ad,c,by rw[hlen],by omega,λe he=>facts.2.2 e (dG he),λh0=>by rw[ha (by omega)];simp,λq hq i j cc hc=>?_⟩;have hi:=iL hc;rw[hlen]at hi;have hq':q=⟨k,0,none⟩:=(by have:=ha (by omega);rw[hq]at this;simpa using this);subst hq';have hc':(es'.getD i [])[j]? = some cc:=by
    rw[<- hc];congr 1;simp only[bu];rw[bf,if_pos hi]
   obtain⟨u,hu,hg⟩:=GS.EP h hb hr (by omega) (i:=i) (by omega) j (.c cc) (by rw[bn,hc'];rfl);refine⟨u,?_,hg⟩;rw[Addr.l7]at hu⊢;rw[<- hu];congr 2;simp
  ·cases hs
 ·rename_i b lo m c0 sz';split at hs
  ·rename_i wz es' hb;simp only[aG,bV]at hs;obtain⟨rfl,rfl⟩:=hs;obtain⟨rfl,rfl,hm⟩:=hp;obtain⟨k,cap,ad,c,hr,rfl,hmc,hcc,_,ha⟩:=hv;have facts:=GS.BL h hb hr;have hlen:((es'.drop lo).take m).length=m:=(by simp;omega);refine⟨ad,c,by rw[hlen],by omega,λe he=>facts.2.2 e (iR (dG he)),λh0=>by rw[ha (.inl (by omega))];simp,λq hq i j cc hc=>?_⟩;have hi:=iL hc;rw[hlen]at hi;have hq':q=⟨k,lo*wz,none⟩:=(by have:=ha (.inl (by omega));rw[hq]at this;simpa using this);subst hq';have hc':(es'.getD (lo+i) [])[j]? = some cc:=by
    rw[<- hc];congr 1;simp only[bu];rw[bf,if_pos hi,dA]
   obtain⟨u,hu,hg⟩:=GS.EP h hb hr (by omega) (i:=lo+i) (by omega) j (.c cc) (by rw[bn,hc'];rfl);refine⟨u,?_,hg⟩;rw[Addr.l7]at hu⊢;rw[<- hu];congr 2;rw[bg,lH]
  ·cases hs
 ·cases hs
theorem PI {es:List (List Cell)}{l:List UInt8}(h:bytesOf es=some l):∃ns:List Int,es=ns.map (λm=>[Cell.lit (.int .u8 m)])/\l=ns.map λm=>iW m.toNat:=by
 induction es generalizing l with
 |nil=>simp[bytesOf]at h;exact⟨[],rfl,h⟩
 | cons e r ih=>
   unfold bytesOf at h;split at h
   ·rename_i e;cases e
   ·rename_i m r' e;simp only[pJ]at e;obtain⟨rfl,rfl⟩:=e;split at h
    ·rename_i l' hl;obtain⟨ns,rfl,rfl⟩:=ih hl;simp at h;exact⟨m::ns,rfl,h.symm⟩
    ·cases h
   ·cases h
theorem foldl_push (ns:List Int):∀s:ByteArray,(ns.foldl (λr m=>r.push (iW m.toNat)) s).data.toList=s.data.toList++ns.map λm=>iW m.toNat:=by
 induction ns with
 |nil=>intro s;simp
 |cons m r ih=>intro s;rw[List.foldl_cons,ih,aP];simp[ByteArray.push]
theorem Yk {b:Option Addr}{cap:Nat}{ns:List Int}{v:Value}(hv:v = .slice b ns.length cap)(h0:0<ns.length->b≠none)
 (hc:∀ad,b=some ad->∀j m,ns[j]? = some m->w.cell? (ad.add j)=some (.int .u8 m)):(Conv.bytesToString v).run P w = .ok (.string ⟨⟨ns.map λm=>iW m.toNat⟩⟩) w:=by
 subst hv;cases b with
 | none=>
   cases ns with
   |nil=>simp[Conv.bytesToString,aX];rfl
   |cons m r=>exact absurd rfl (h0 (by simp))
 | some ad=>
   have hl:=run_loadCells_list (P:=P) w ad (ns.map (xe .u8)) (λj v hj=>by
    rw[bn]at hj;cases hq:ns[j]? with
    |none=>rw[hq]at hj;cases hj
    |some m=>rw[hq]at hj;simp at hj;subst hj;exact hc ad rfl j m hq)
   rw[nX]at hl;rw[run_bytesToString w ad ns.length cap ns hl]
   congr 2
   apply ByteArray.ext;apply uo;rw[foldl_push];simp
def PS (P:Program)(n:Nat)(op:Op)(x:jK):Bool:=
 match op with
 |.convert s d x'=>gW n x' x&&Je P d&&(match P.underlying s with|some (.slice e)=>(match P.underlying e with|some (.int .u8)=>true|_=>false)|_=>false)
 |_=>false
theorem XE {o:Oper}{x:jK}{p:Prop}{es:List (List Cell)}{l:List UInt8}(h:GX E I ρ n st a w)(hc:PS P n o.op x=true)(hx:(x.ev st.tm).g=true)
 (hs:rU 1 (bT st.tm x) st.bx=some (p,es)) (hp:p) (hb:bytesOf es=some l) (hl:l.length<=maxLen):o8 P E n o a w st (Dl l):=by
 unfold PS at hc;split at hc
 ·rename_i s d x' he;simp only[af]at hc;have g:=jl h hc.1.1 hx;have hd:=Bq hc.1.2;obtain⟨_,ht⟩:=hc;split at ht
  ·rename_i e hse;split at ht
   ·rename_i hee;obtain⟨b,cap,hv,_,_,h0,hcell⟩:=src_ok h g hs hp;obtain⟨ns,rfl,rfl⟩:=PI hb;have hr:=Yk (P:=P) (w:=w) (b:=b) (cap:=cap) (ns:=ns) (v:=a.eval x') (by rw[hv];simp) (by simpa using h0) (λad had j m hj=>by
     obtain⟨u,hu,hrd⟩:=hcell ad had j 0 (.lit (.int .u8 m)) (by simp[bu,bn,hj]);cases hrd with|lit v hv=>
     simpa using hu)
    have hcv:=run_convert_bytes_string (P:=P) w s d e b (ns.map λm=>[Cell.lit (.int .u8 m)]).length cap hse hee hd;rw[<- hv]at hcv;exact oG.val h (by simp only[execOp,he,bF,hcv,hr,aN,aX]) (Qx hl)
   ·cases ht
  ·cases ht
 ·cases hc
end
end
section
section
variable {P:Program} {E:Env P} {I:IH} {ρ:Ren} {n:Nat} {st:dP} {a:Act} {w:World}
def xq : Box->Prop
 |.absent=>True
 |_=>False
theorem uU {x:Box}(h:xq x):x = .absent:=by cases x<;>first|rfl|exact h.elim
theorem WC (h:GX E I ρ n st a w){l:Nat}(hl:st.bx l = .absent)(hm:E.m<=l)(cs:Array Value)(e:TypeId)(xs:List AC)(hg:EN I ρ cs.toList xs) :
 ∃ ρ',GX E I ρ' n (st.sN l (.var xs)) a (w.alloc (.cells cs e))/\GV I ρ' (.pointer (some ⟨w.heap.size,0,none⟩)) (.one (.ptr l 0)):=by
 have hrl:ρ l=none:=by have:=h.bx.ok l;rwa[hl]at this
 refine⟨ρ.set l w.heap.size e,GX.new h hl hm cs e e _ ?_,w.heap.size,e,Ren.jM _ _ _ _,rfl⟩;refine⟨w.heap.size,e,cs,Ren.jM _ _ _ _,heap_alloc_new w _,by simpa using hg.1,λj u x hu hx=>?_⟩;exact(hg.2 j u x (by simpa using hu) hx).mono (IH.le_refl I) (Ren.Jh hrl)
theorem EZ (h:GX E I ρ n st a w){l:Nat}(hl:st.bx l = .absent)(hm:E.m<=l)(cs:Array Value)(e:TypeId)(cap sz:Nat)(es:List (List Cell))(hcs:cs.size=cap*sz)(hle:es.length<=cap)(hcap:cap<=maxLen)
 (hsz:∀x,x∈es->x.length=sz) (h1:∀(j:Nat) (u:Value),cs[j]? = some u->u.oneCell'=true) (hd:∀(i j:Nat) (c:Cell),(es.getD i [])[j]? = some c->∃u,cs[i*sz+j]? = some u/\Rd I u c) :
 GX E I (ρ.set l w.heap.size cap) n (st.sN l (.dat sz es)) a (w.alloc (.cells cs e)):=by
 refine GX.new h hl hm cs e cap _ ⟨w.heap.size,cap,Ren.jM _ _ _ _,hle,hcap,hsz,λ_=>⟨cs,e,heap_alloc_new w _,hcs,h1,hd⟩⟩
def DZ (P:Program)(op:Op)(zs:List AC):Bool:=match op with|.alloc t=>(match P.info? t with|some i=>(match i.zero with|some z=>Iu z.cells.toList zs|none=>false)|none=>false)|_=>false
theorem zh (w:World)(t:TypeId)(v:Value):(newVar t v).run P w = .ok ⟨w.heap.size,0,none⟩ (w.alloc (.cells v.cells t)):=by simp[newVar,newRow]
theorem Ul {o:Oper}{l:Nat}{zs:List AC}(h:GX E I ρ n st a w)(hc:DZ P o.op zs=true)(hm:E.m<=l)(hl:xq (st.bx l)):oG P E n o a w (st.sN l (.var zs)) (.one (.ptr l 0)):=by
 unfold DZ at hc;split at hc
 ·rename_i t he;split at hc
  ·rename_i i hi;split at hc
   ·rename_i z hz;obtain⟨ρ',h1,h2⟩:=WC h (uU hl) hm z.cells t zs (Dp hc);have ZJ:(zeroValue t).run P w = .ok z w:=(by simp[zeroValue,typeInfo,hi,hz]);exact⟨_,_,I,ρ',.inl (by simp only[execOp,he,vU,bF,ZJ,aN,zh,aX]),h1,λ_=>h2⟩
   ·cases hc
  ·cases hc
 ·cases hc
theorem GX.agC (h:GX E I ρ n st a w){r:Nat}(hr:st.bx r = .absent)(hm:E.m<=r)(e:Nat):GX E I (ρ.set r 0 0) n (st.sN r (.row e [])) a w:=by
 have hrl:ρ r=none:=by have:=h.bx.ok r;rwa[hr]at this
 have hle:=Ren.Jh (ρ:=ρ) (k:=0) (cap:=0) hrl;have hu:∀k,¬(Box.row e []).uses ((ρ.set r 0 0) r) k:=λk hk=>by obtain⟨c,hc,h0⟩:=hk;rw[Ren.jM]at hc;simp only[aG,bV]at hc;exact h0 hc.2.symm
 refine{ agree:=h.agree,bx:=BX.step (λb=>b=r) h.bx (IH.le_refl I) hle ?_ ?_ ?_ ?_ ?_ ?_,tm:=λt ht=>(h.tm t ht).mono (IH.le_refl _) hle,size:=h.size,defers:=h.defers,wu:=h.wu,own:=?_,Ei:=h.Ei,Az:=h.Az,rQ:=?_ }
 ·intro b hb;exact⟨by simp[dP.sN,hb],Ren.sK hb⟩
 ·intro b k hb hk;rfl
 ·rintro b rfl;simp only[dP.kX,if_true];exact⟨0,0,Ren.jM _ _ _ _,aA _,Nat.zero_le _,λh=>absurd rfl h⟩
 ·rintro b k rfl hk;simp only[dP.kX,if_true]at hk;exact(hu k hk).elim
 ·rintro b b' k rfl rfl _ _;rfl
 ·intro b k hb hk;exact h.bx.fresh b k hk
 ·intro b k hk;simp only[dP.kX]at hk;by_cases e:b=r
  ·subst e;rw[if_pos rfl]at hk;exact(hu k hk).elim
  ·rw[if_neg e,Ren.sK e]at hk;exact h.own b k hk
 ·intro b hb;rw[Ren.sK (by omega)];exact h.rQ b hb
def BP (P:Program)(op:Op)(T:Nat):Bool:=match op with|.alloc t=>t==T&&(match P.info? t with|some i=>(match i.zero with|some z=>Iu z.cells.toList [.c (.lit (.pointer none)),.xh 1]|none=>false)|none=>false)|_=>false
theorem Ru {o:Oper}{T e l r:Nat}(h:GX E I ρ n st a w)(hc:BP P o.op T=true)(hm:E.m<=l)(hm':E.m<=r)(hl:xq (st.bx l))(hr:xq (st.bx r))(hne:l≠r) :
 oG P E n o a w ((st.sN r (.row e [])).sN l (.var [.opt T l,.F9 r 0])) (.one (.ptr l 0)):=by
 unfold BP at hc;split at hc
 ·rename_i t he;simp only[af,beq_iff_eq]at hc;obtain⟨rfl,hc⟩:=hc;split at hc
  ·rename_i i hi;split at hc
   ·rename_i z hz;have g:=h.agC (uU hr) hm' e;have hl':(st.sN r (.row e [])).bx l = .absent:=(by simp only[dP.kX,if_neg hne];exact uU hl);have hz2:EN I ρ z.cells.toList _:=Dp hc;have hsz:z.cells.size=2:=(by have:=hz2.1;simpa using this);have hg:=GX.new g hl' hm z.cells t t (.var [.opt t l,.F9 r 0]) ⟨w.heap.size,t,z.cells,Ren.jM _ _ _ _,heap_alloc_new w _,hsz,λj u x hu hx=>by
     match j with
     | 0=>have h1:=hz2.2 0 u _ (by simpa using hu) rfl;simp at hx;subst hx;cases h1;exact⟨_,Ren.jM _ _ _ _,.inl rfl⟩
     | 1=>have h1:u = .slice none 0 0:=hz2.2 1 u _ (by simpa using hu) rfl;simp at hx;subst hx;exact⟨0,0,(Ren.sK hne.symm).trans (Ren.jM _ _ _ _),aA _,.inl ⟨rfl,h1⟩⟩
     |j+2=>simp at hx⟩
    have ZJ:(zeroValue t).run P w = .ok z w:=(by simp[zeroValue,typeInfo,hi,hz]);exact⟨_,_,I,_,.inl (by simp only[execOp,he,vU,bF,ZJ,aN,zh,aX]),hg,λ_=>⟨_,_,Ren.jM _ _ _ _,rfl⟩⟩
   ·cases hc
  ·cases hc
 ·cases hc
def Lm (n:Nat)(op:Op)(x:jK):Bool:=match op with|.box _ x'=>gW n x' x|_=>false
theorem Y3 {o:Oper}{l:Nat}{x:jK}(h:GX E I ρ n st a w)(hc:Lm n o.op x=true)(hx:(x.ev st.tm).g=true)(hm:E.m<=l)(hl:xq (st.bx l))(hf:(bT st.tm x).flat) :
 oG P E n o a w (st.sN l (.var (bT st.tm x).cells)) (.one (.ptr l 0)):=by
 unfold Lm at hc;split at hc
 ·rename_i t x' he;have g:=jl h hc hx;obtain⟨ρ',h1,h2⟩:=WC h (uU hl) hm (a.eval x').cells t _ (Eg g hf);exact⟨_,_,I,ρ',.inl (by simp only[execOp,he,Go.Instr.box,bF,aN,zh,aX]),h1,λ_=>h2⟩
 ·cases hc
def ac1 : Value->Cell->Bool
 |.int k n,.lit (.int k' n')=>k==k'&&n==n'
 |.bool b,.lit (.bool b')=>b==b'
 |.string s,.str l=>s.data.toList==l&&decide (l.length<=1000000)
 |.slice none 0 0,.sl _ []=>true
 |.pointer none,.lit (.pointer none)=>true
 |.nilFunc,.lit .nilFunc=>true
 |.nilIface,.lit .nilIface=>true
 |_,_=>false
theorem abw {v:Value}{x:Cell}(h:ac1 v x=true):Rd I v x:=by
 unfold ac1 at h;split at h
 ·simp only[af,beq_iff_eq]at h;obtain⟨rfl,rfl⟩:=h;exact Rd.lit _ rfl
 ·simp only[beq_iff_eq]at h;subst h;exact Rd.lit _ rfl
 ·rename_i s l;simp only[af,beq_iff_eq,decide_eq_true_eq]at h;obtain⟨rfl,hl⟩:=h;have:s=⟨⟨s.data.toList⟩⟩:=by cases s;rfl
  exact this▸Rd.str _ (by simp only[maxLen];omega)
 ·exact Rd.sl none 0 0 _ [] (λ_ _=>undef) rfl (aA _) (by simp[maxLen]) (by simp) (by simp) (λad h=>by cases h) (by simp)
 ·exact Rd.lit _ rfl
 ·exact Rd.lit _ rfl
 ·exact Rd.lit _ rfl
 ·cases h
def Dn (zs:List Value)(xs:List Cell):Bool:=zs.length==xs.length&&(zs.zip xs).all λp=>ac1 p.1 p.2
theorem JY {zs:List Value}{xs:List Cell}(h:Dn zs xs=true):zs.length=xs.length/\∀(j:Nat) (c:Cell),xs[j]? = some c->∃u,zs[j]? = some u/\Rd I u c:=by
 unfold Dn at h;simp only[af,beq_iff_eq,aH]at h;refine⟨h.1,λj c hc=>?_⟩;have hj:j<zs.length:=by rw[h.1];exact(ax.1 hc).1
 refine⟨zs[j],aj hj,abw (h.2 (zs[j],c) ?_)⟩;exact dL (i:=j) (by simp[uu,hc,hj])
theorem Jq {z:Array Value}{zs:List Cell}{sz m N:Nat}(hz:Dn z.toList zs=true)(hs:zs.length=sz)(h0:0<sz)(hN:m*sz<=N){cs:Array Value}(hcs:cs=(nP N).map (z[· % z.size]!)) :
 (∀(j:Nat) (u:Value),cs[j]? = some u->u.oneCell'=true)/\∀(i j:Nat) (c:Cell),((aY m zs).getD i [])[j]? = some c->∃u,cs[i*sz+j]? = some u/\Rd I u c:=by
 obtain⟨hl,hd⟩:=JY (I:=I) hz;have hzs:z.size=sz:=by rw[<- hs,<- hl];simp
 subst hcs;refine⟨λj u hu=>?_,λi j c hc=>?_⟩
 ·rw[jT]at hu;by_cases hj:j<N
  ·rw[kC,if_pos hj]at hu;simp at hu;have hlt:j%z.size<z.size:=uy _ (by omega);rw[getElem!_pos z _ hlt]at hu;obtain⟨c,hc⟩:∃c,zs[j%z.size]? = some c:=⟨_,aj (by omega)⟩;obtain⟨u',hu',hr⟩:=hd _ c hc;simp[hlt]at hu';rw[<- hu,hu'];exact hr.one
  ·rw[kC,if_neg hj]at hu;cases hu
 ·have hi:=iL hc;simp at hi;simp[bu,hi]at hc;have hj:j<sz:=by rw[<- hs];exact(ax.1 hc).1
  obtain⟨u,hu,hr⟩:=hd j c hc;refine⟨u,?_,hr⟩;have hlt:i*sz+j<N:=by have:(i+1)*sz<=m*sz:=aC _ hi;rw[bg]at this;omega
  rw[jT,kC,if_pos hlt];simp only[iH,aG];have hmod:(i*sz+j)%z.size=j:=by rw[hzs,oh,Nat.mul_add_mod,oP hj]
  rw[hmod,getElem!_pos z _ (by omega)];have:z[j]? = some u:=by simpa using hu
  rw[iC (by omega)]at this;simpa using this
def BO (P:Program)(op:Op)(sz m:Nat)(zs:List Cell):Bool:=
 match op with
 |.alloc t=>Hf P t sz m&&(match P.info? t with|some i=>(match i.zero with|some (.agg z)=>Dn z.toList (aY m zs).flatten|_=>false)|none=>false)&&zs.length==sz&&decide (0<sz)&&decide (m<=1000000)
 |_=>false
theorem RZ {zs:List Cell}{sz m i j:Nat}{c:Cell}(hs:zs.length=sz)(hc:((aY m zs).getD i [])[j]? = some c):((aY m zs).flatten)[i*sz+j]? = some c:=by
 induction m generalizing i with
 |zero=>simp[bu]at hc
 | succ m ih=>
   rw[sU,List.flatten_cons];cases i with
   | zero=>simp[bu,sU]at hc;rw[aU (by have:=(ax.1 hc).1;omega)];simpa using hc
   | succ i=>
     rw[bJ (by rw[hs,bg];omega),hs];have:=ih (i:=i) (by simpa[bu,sU]using hc);rw[<- this]
     congr 1
     rw[bg];omega
theorem Rt {o:Oper}{l sz m:Nat}{zs:List Cell}(h:GX E I ρ n st a w)(hc:BO P o.op sz m zs=true)(hm:E.m<=l)(hl:xq (st.bx l)) :
 oG P E n o a w (st.sN l (.dat sz (aY m zs))) (.one (.uI l 0 sz 0)):=by
 unfold BO at hc;split at hc
 ·rename_i t he;simp only[af,beq_iff_eq,decide_eq_true_eq]at hc;obtain⟨⟨⟨⟨_,hz⟩,hs⟩,h0⟩,hm6⟩:=hc;split at hz
  ·rename_i i hi;split at hz
   ·rename_i z hzero;obtain⟨hl1,hd⟩:=JY (I:=I) hz;have hzs:z.size=m*sz:=(by have:=hl1;simp[hs]at this;exact this);have ZJ:(zeroValue t).run P w = .ok (.agg z) w:=(by simp[zeroValue,typeInfo,hi,hzero]);have g:=EZ h (uU hl) hm z t m sz (aY m zs) hzs (by simp) (by simp only[maxLen];omega) (λx hx=>by rw[nK hx,hs])
     (λj u hu=>by have hj:j<((aY m zs).flatten).length:=(by rw[<- hl1];simpa using(bP.1 hu).1);obtain⟨u',hu',hr⟩:=hd j _ (aj hj);have:u'=u:=(by simp at hu';rw[hu]at hu';exact(Option.some.inj hu').symm);subst this;exact hr.one)
     (λi' j c hc=>by obtain⟨u,hu,hr⟩:=hd _ c (RZ hs hc);exact⟨u,by simpa using hu,hr⟩)
    refine⟨_,_,I,_,.inl (by simp only[execOp,he,vU,bF,ZJ,aN,zh,aX,lM];rfl),g,λ_=>⟨w.heap.size,m,Ren.jM _ _ _ _,by simp⟩⟩
   ·cases hz
  ·cases hz
 ·cases hc
def D7 (P:Program)(n:Nat)(op:Op)(sz bytes:Nat)(zs:List Cell)(x y:jK):Bool:=
 match op with
 | .makeSlice t x' y'=>gW n x' x&&gW n y' y&&zs.length==sz&&decide (0<sz)&&(match P.underlying t with
   |some (.slice e)=>(match P.info? e with|some i=>i.size==sz&&i.bytes==bytes&&(match i.zero with|some z=>Dn z.cells.toList zs|none=>false)|none=>false)
   |_=>false)
 |_=>false
theorem Vg {o:Oper}{l sz bytes:Nat}{zs:List Cell}{x y:jK}{k k':IntKind}{p q:Int}(h:GX E I ρ n st a w)(hc:D7 P n o.op sz bytes zs x y=true)(hx:(x.ev st.tm).g=true)(hy:(y.ev st.tm).g=true)
 (e1:bT st.tm x=qh k p) (e2:bT st.tm y=qh k' q) (hm:E.m<=l) (hl:xq (st.bx l)) (h0:0<=p) (h1:p<=q) (h2:bytes*q<=2^47) (h3:q<=2^47) :
 oG P E n o a w (st.sN l (.dat sz (aY p.toNat zs))) (.one (.own l p.toNat sz)):=by
 unfold D7 at hc;split at hc
 ·rename_i t x' y' he;simp only[af,beq_iff_eq,decide_eq_true_eq]at hc;obtain⟨⟨⟨⟨c1,c2⟩,hs⟩,hs0⟩,ht⟩:=hc;have g1:=jl h c1 hx;have g2:=jl h c2 hy;rw[e1]at g1;rw[e2]at g2;have v1:=rO g1;have v2:=rO g2;split at ht
  ·rename_i e hte;split at ht
   ·rename_i i hi;simp only[af,beq_iff_eq]at ht;obtain⟨⟨rfl,rfl⟩,hz⟩:=ht;split at hz
    ·rename_i z hzero;have hr:=run_make (P:=P) w t e i z hte hi hzero k k' p q h0 h1 (by omega) (by omega);have rc:=Jq (I:=I) (N:=q.toNat*i.size) (m:=p.toNat) hz hs hs0 (aC _ (by omega)) (cs:=madeCells z.cells (q.toNat*i.size)) rfl;have g:=EZ h (uU hl) hm (madeCells z.cells (q.toNat*i.size)) e q.toNat i.size (aY p.toNat zs) (size_madeCells _ _) (by simp;omega) (by simp only[maxLen];omega)
      (λx hx=>by rw[nK hx,hs]) rc.1 rc.2
     refine⟨_,_,I,_,.inl (by simp only[execOp,he,v1,v2,bF,hr,aN,aX];rfl),g,λ_=>⟨w.heap.size,q.toNat,_,_,Ren.jM _ _ _ _,rfl,by omega,by omega,λ_=>rfl⟩⟩
    ·cases hz
   ·cases ht
  ·cases ht
 ·cases hc
end
end
section
section
variable {P:Program} {E:Env P} {I:IH} {ρ:Ren} {n:Nat} {st:dP} {a:Act} {w:World}
noncomputable def wW (I:IH)(ρ:Ren)(w:World)(bx:Nat->Box)(bs:List Nat):IH:=λk=>
 open Classical in
 if ∃b sz es cap,b∈bs/\bx b = .dat sz es/\ρ b=some (k,cap)/\cap≠0 then(match w.heap[k]? with|some (.cells c _ _)=>some c|_=>none)else I k
theorem Ac (hA:BX I ρ w st.bx)(bs:List Nat):I.le (wW I ρ w st.bx bs):=λk c hk=>by
 unfold wW;rw[if_neg]
 ·exact hk
 ·rintro⟨b,sz,es,cap,_,hb,hr,h0⟩;have:=hA.fresh b k (by rw[hb];exact⟨cap,hr,h0⟩);rw[this]at hk;cases hk
theorem Gl (hA:Agree I w)(bs:List Nat):Agree (wW I ρ w st.bx bs) w:=λk c hk=>by
 unfold wW at hk;split at hk
 ·split at hk
  ·rename_i c' e fr hw;simp at hk;subst hk;exact⟨e,fr,hw⟩
  ·cases hk
 ·exact hA k c hk
theorem Qs (h:GX E I ρ n st a w){bs:List Nat}{v:Value}{b m sz:Nat}{es:List (List Cell)}(hb:b∈bs)(harr:(st.bx b).arr=some (sz,es))(hm:m<=es.length)(hv:GC I ρ v (.own b m sz)) :
 Rd (wW I ρ w st.bx bs) v (.sl sz (es.take m)):=by
 obtain⟨k,cap,ad,c,hr,hsv,hmc,hcc,hcap⟩:=hv;have facts:=GS.BL h harr hr;have hl:(es.take m).length=m:=by simp;omega
 subst hsv;have hI:cap≠0->∃cs,(wW I ρ w st.bx bs) k=some cs/\∀i j c,(es.getD i [])[j]? = some c->∃u,cs[i*sz+j]? = some u/\Rd I u c:=by
  intro hc0;have hok:=h.bx.ok b;cases hx:st.bx b with
  | dat sz' es'=>rw[hx]at hok harr;simp[Box.arr]at harr;obtain⟨rfl,rfl⟩:=harr;obtain⟨k',cap',hr',_,_,_,hd⟩:=hok;rw[hr]at hr';simp at hr';obtain⟨rfl,rfl⟩:=hr';obtain⟨cs,e,hw,_,_,hcs⟩:=hd hc0;refine⟨cs,?_,hcs⟩;unfold wW;rw[if_pos ⟨b,_,_,cap,hb,hx,hr,hc0⟩,hw]
  | zL sz' es'=>rw[hx]at hok harr;simp[Box.arr]at harr;obtain⟨rfl,rfl⟩:=harr;obtain⟨k',cap',hr',_,_,_,hd⟩:=hok;rw[hr]at hr';simp at hr';obtain⟨rfl,rfl⟩:=hr';obtain⟨cs,hw,hcs⟩:=hd hc0;exact⟨cs,Ac h.bx bs _ _ hw,hcs⟩
  |absent=>rw[hx]at harr;cases harr
  |dead=>rw[hx]at harr;cases harr
  |var xs=>rw[hx]at harr;cases harr
  |row e l=>rw[hx]at harr;cases harr
 have hle:=Ac (st:=st) h.bx bs;by_cases hc0:cap=0
 ·have hm0:m=0:=by omega
  subst hm0;simp only[vY];exact Rd.sl _ 0 c sz [] (λ_ _=>undef) rfl (by omega) (by omega) (by simp) (by simp) (by intro ad _ i j hi;omega) (by simp)
 ·obtain⟨cs,hcs,hrd⟩:=hI hc0;have had:=hcap hc0;subst had;have key:∀i j c,((es.take m).getD i [])[j]? = some c->∃u,cs[i*sz+j]? = some u/\Rd I u c:=λi j c hc=>by
   have hi:=iL hc;rw[hl]at hi;refine hrd i j c ?_;rw[<- hc];congr 1;simp only[bu];rw[bf,if_pos hi]
  refine Rd.sl _ m c sz (es.take m) (λi j=>cs.getD (i*sz+j) undef) hl hmc (by omega) (λe he=>facts.2.2 e (dG he)) (by simp) ?_ ?_
  ·intro ad had i j hi hj;simp at had;subst had;have hlen:((es.take m).getD i []).length=sz:=by
    have:i<(es.take m).length:=(by omega);rw[List.getD_eq_getElem?_getD,aj this];exact facts.2.2 _ (dG (List.getElem_mem this))
   obtain⟨u,hu,_⟩:=key i j _ (aj (by omega));rw[Addr.l7];simp only[IH.cell,hcs];simp[hu,bQ]
  ·intro i j c hc;obtain⟨u,hu,hr⟩:=key i j c hc;have:cs.getD (i*sz+j) undef=u:=(by simp[bQ,hu]);rw[this];exact hr.mono hle
theorem uZ {bs:List Nat}{b:Nat} : (st.zL bs).bx b=if b∈bs then BD (st.bx b)else st.bx b:=rfl
theorem GX.freeze (h:GX E I ρ n st a w)(BS:List Nat):GX E (wW I ρ w st.bx BS) ρ n (st.zL BS) a w:=by
 have hIJ:=Ac h.bx BS;have xm:∀b k,((st.zL BS).bx b).uses (ρ b) k->(st.bx b).uses (ρ b) k/\¬(∃b' sz es cap,b'∈BS/\st.bx b' = .dat sz es/\ρ b'=some (k,cap)/\cap≠0):=by
  intro b k hu;rw[uZ]at hu;by_cases hb:b∈BS
  ·rw[if_pos hb]at hu;cases hx:st.bx b with
   | var xs=>rw[hx]at hu;refine⟨hu,?_⟩;rintro⟨b',sz,es,cap,_,hb',hr',h0⟩;have:=h.bx.inj b b' k (by rw[hx];exact hu) (by rw[hb'];exact⟨cap,hr',h0⟩);subst this;rw[hx]at hb';cases hb'
   | row e l=>rw[hx]at hu;refine⟨hu,?_⟩;rintro⟨b',sz,es,cap,_,hb',hr',h0⟩;have:=h.bx.inj b b' k (by rw[hx];exact hu) (by rw[hb'];exact⟨cap,hr',h0⟩);subst this;rw[hx]at hb';cases hb'
   |dat sz es=>rw[hx]at hu;exact hu.elim
   |zL sz es=>rw[hx]at hu;exact hu.elim
   |absent=>rw[hx]at hu;exact hu.elim
   |dead=>rw[hx]at hu;exact hu.elim
  ·rw[if_neg hb]at hu;refine⟨hu,?_⟩;rintro⟨b',sz,es,cap,hm',hb',hr',h0⟩;have:=h.bx.inj b b' k hu (by rw[hb'];exact⟨cap,hr',h0⟩);subst this;exact hb hm'
 have hfr:∀b k,((st.zL BS).bx b).uses (ρ b) k->wW I ρ w st.bx BS k=none:=λb k hu=>by obtain⟨h1,h2⟩:=xm b k hu;unfold wW;rw[if_neg h2];exact h.bx.fresh b k h1
 refine{ agree:=Gl h.agree BS,bx:=⟨λb=>?_,λb b' k hb hb'=>h.bx.inj b b' k (xm b k hb).1 (xm b' k hb').1,hfr⟩,tm:=λt ht=>(h.tm t ht).mono hIJ (Ren.le_refl ρ),size:=h.size,defers:=h.defers,wu:=h.wu,own:=λb k hu=>h.own b k (xm b k hu).1,Ei:=IH.le_trans h.Ei hIJ,Az:=λk hk0 hM=>?_,rQ:=h.rQ }
 ·have hok:=(h.bx.ok b).keep hIJ (Ren.le_refl ρ) rfl (λk hu=>rfl);rw[uZ];by_cases hb:b∈BS
  ·rw[if_pos hb];cases hx:st.bx b with
   | dat sz es=>rw[hx]at hok;obtain⟨kk,cap,hr',hl,hm,hsz,hcs⟩:=hok;refine⟨kk,cap,hr',hl,hm,hsz,λh0=>?_⟩;obtain⟨cs,e,hw,_,_,hrd⟩:=hcs h0;refine⟨cs,?_,hrd⟩;unfold wW;rw[if_pos ⟨b,sz,es,cap,hb,hx,hr',h0⟩,hw]
   |var xs=>rw[hx]at hok;exact hok
   |row e l=>rw[hx]at hok;exact hok
   |zL sz es=>rw[hx]at hok;exact hok
   |absent=>rw[hx]at hok;exact hok
   |dead=>rw[hx]at hok;exact hok
  ·rw[if_neg hb];exact hok
 ·unfold wW;rw[if_neg]
  ·exact h.Az k hk0 hM
  ·rintro⟨b',sz,es,cap,_,hb',hr',h0⟩;rcases h.own b' k (by rw[hb'];exact⟨cap,hr',h0⟩)with h1|h1
   ·omega
   ·exact hM h1
theorem Ii (l:List (Nat×Box))(st:dP):(st.mQ l).tm=st.tm:=by
 induction l generalizing st with
 |nil=>rfl
 |cons x l ih=>obtain⟨b,x⟩:=x;simp only[dP.mQ,ih];rfl
theorem Yr (st:dP)(l:List Nat)(bx:Nat->Box):(st.mQ (l.map λb=>(b,BD (bx b)))).bx=λb=>if b∈l then BD (bx b)else st.bx b:=by
 induction l generalizing st with
 |nil=>rfl
 | cons c l ih=>
   simp only[aP,dP.mQ,ih]
   funext b
   simp only[dP.kX,aB];by_cases h:b∈l
   ·simp[h]
   ·by_cases h':b=c
    ·subst h';simp[h]
    ·simp[h,h']
theorem yH (st:dP)(l:List Nat):st.mQ (l.map λb=>(b,BD (st.bx b)))=st.zL l:=by
 apply dP.ext'
 ·rw[Ii];rfl
 ·rw[Yr];rfl
theorem Di (l r:List (Nat×Box)):∀(st:dP),st.mQ (l++r)=(st.mQ l).mQ r:=by
 induction l with
 |nil=>intro st;rfl
 |cons p l ih=>intro st;obtain⟨b,x⟩:=p;simp only[List.cons_append,dP.mQ,ih]
theorem Ns (st:dP)(l:List Nat)(r:List (Nat×Box)):st.mQ (Qh st.bx l++r)=(st.zL l).mQ r:=by rw[Di];unfold Qh;rw[yH]
end
end
section
section
variable {P:Program} {E:Env P} {I:IH} {ρ:Ren} {n:Nat} {st:dP} {a:Act} {w:World}
theorem RS (h:GX E I ρ n st a w){BS:List Nat}{vs:List Value}{xs:List AC}{cs:List Cell}(hg:EN I ρ vs xs)(hd:Dw st.bx xs=some cs)(hl:uz st.bx xs)(hb:∀b,b∈kz xs->b∈BS) :
 vs.length=cs.length/\∀(j:Nat) (c:Cell),cs[j]? = some c->∃u,vs[j]? = some u/\Rd (wW I ρ w st.bx BS) u c:=by
 have hle:=Ac (st:=st) h.bx BS
 induction xs generalizing vs cs with
 | nil=>simp[Dw]at hd;subst hd;exact⟨hg.1,by simp⟩
 | cons x r ih=>
   cases vs with
   |nil=>have:=hg.1;simp at this
   | cons v vs=>
     unfold Dw at hd;split at hd
     ·rename_i c cs' h1 h2;simp at hd;subst hd;have ht:EN I ρ vs r:=⟨by simpa using hg.1,λj u y hu hy=>hg.2 (j+1) u y (by simpa using hu) (by simpa using hy)⟩;have hv:=hg.2 0 v x rfl rfl;have hlr:uz st.bx r:=by
       cases x with
       |own b m sz=>exact hl.2
       |_=>exact hl
      have hbr:∀b,b∈kz r->b∈BS:=λb hm=>hb b (by
       cases x with
       |own b' m sz=>exact List.mem_cons_of_mem _ hm
       |_=>exact hm)
      obtain⟨hl',hc⟩:=ih ht h2 hlr hbr;have hr:Rd (wW I ρ w st.bx BS) v c:=by
       cases x with
       |c y=>simp[dataOf]at h1;subst h1;exact Rd.mono hle hv
       | xh sz=>simp[dataOf]at h1;subst h1;simp only[GC]at hv;subst hv;exact Rd.sl none 0 0 _ [] (λ_ _=>undef) rfl (aA _) (by simp[maxLen]) (by simp) (by simp) (λad h=>by cases h) (by simp)
       | own b m sz=>
         simp only[dataOf]at h1;have hl1:=hl.1;cases harr:(st.bx b).arr with
         |none=>rw[harr]at h1;cases h1
         | some p=>obtain⟨sz',es⟩:=p;rw[harr]at h1 hl1;simp at h1;subst h1;obtain⟨rfl,hle'⟩:=hl1;exact Qs h (hb b (by simp[kz])) harr hle' hv
       |_=>simp[dataOf]at h1
      refine⟨by simp[hl'],λj c' hj=>?_⟩;cases j with
      |zero=>simp at hj;subst hj;exact⟨v,rfl,hr⟩
      |succ j=>obtain⟨u,hu,hr'⟩:=hc j c' (by simpa using hj);exact⟨u,by simpa using hu,hr'⟩
     ·cases hd
structure DC (I:IH)(cs:List Value)(sz:Nat)(es:List (List Cell)):Prop where
 one:∀(j:Nat) (u:Value),cs[j]? = some u->u.oneCell'=true
 rd:∀(i j:Nat) (c:Cell),(es.getD i [])[j]? = some c->∃u,cs[i*sz+j]? = some u/\Rd I u c
theorem Zp {α:Type}(es:List (List α))(i i':Nat)(e:List α)(h:i<es.length):(es.set i e).getD i' []=if i'=i then e else es.getD i' []:=by
 simp only[bu,lI];by_cases hi:i=i'
 ·subst hi;simp[h]
 ·rw[if_neg hi,if_neg (λe=>hi e.symm)]
theorem ab6 {sz i i' j j':Nat}(hj:j<sz)(hj':j'<sz)(h:i*sz+j=i'*sz+j'):i=i'/\j=j':=by
 have h1:(i*sz+j)/sz=i:=by rw[oh,Nat.mul_add_div (by omega),Nat.div_eq_of_lt hj,kN]
 have h2:(i'*sz+j')/sz=i':=by rw[oh,Nat.mul_add_div (by omega),Nat.div_eq_of_lt hj',kN]
 rw[h]at h1;have:=h1.symm.trans h2;subst this;exact⟨rfl,by omega⟩
theorem DC.splice {cs:List Value}{sz:Nat}{es:List (List Cell)}(h:DC I cs sz es)(hsz:∀x,x∈es->x.length=sz){i off:Nat}(hi:i<es.length){vs:List Value}{ys:List Cell}(hl:off+ys.length<=sz)(hcs:(i+1)*sz<=cs.length)
 (hv:vs.length=ys.length) (h1:∀(j:Nat) (u:Value),vs[j]? = some u->u.oneCell'=true) (hd:∀(j:Nat) (c:Cell),ys[j]? = some c->∃u,vs[j]? = some u/\Rd I u c) :
 DC I (splice cs (i*sz+off) vs) sz (es.set i (Ab.splice (es.getD i []) off ys)):=by
 rw[bg]at hcs;have hfit:i*sz+off+vs.length<=cs.length:=by omega
 have hei:(es.getD i []).length=sz:=hsz _ (by simp[bu,aj hi]);refine⟨λj u hu=>?_,λi' j c hc=>?_⟩
 ·rw[kG _ _ _ _ hfit]at hu;split at hu
  ·exact h.one j u hu
  ·split at hu
   ·exact h1 _ u hu
   ·exact h.one j u hu
 ·rw[Zp _ _ _ _ hi]at hc;rw[kG _ _ _ _ hfit];by_cases e:i'=i
  ·subst e;rw[if_pos rfl,kG _ _ _ _ (by omega)]at hc;by_cases c1:j<off
   ·rw[if_pos c1]at hc;rw[if_pos (by omega)];exact h.rd i' j c hc
   ·rw[if_neg c1]at hc;rw[if_neg (by omega)];by_cases c2:j<off+ys.length
    ·rw[if_pos c2]at hc;rw[if_pos (by omega)];obtain⟨u,hu,hr⟩:=hd _ c hc;exact⟨u,by rw[<- hu];congr 1;omega,hr⟩
    ·rw[if_neg c2]at hc;rw[if_neg (by omega)];exact h.rd i' j c hc
  ·rw[if_neg e]at hc;have hj:j<sz:=by
    have hi':=iL hc;have:=hsz (es.getD i' []) (by simp[bu,aj hi']);rw[<- this];exact(ax.1 hc).1
   have hout:¬(i*sz+off<=i'*sz+j/\i'*sz+j<i*sz+off+vs.length):=by intro⟨c1,c2⟩;obtain⟨e1,_⟩:=ab6 (i:=i') (i':=i) (j:=j) (j':=i'*sz+j-i*sz) hj (by omega) (by omega);exact e e1
   by_cases c1:i'*sz+j<i*sz+off
   ·rw[if_pos c1];exact h.rd i' j c hc
   ·rw[if_neg c1,if_neg (by omega)];exact h.rd i' j c hc
def BN (n:Nat):List (Nat×Operand)->List (Nat×jK)->Bool
 |[],[]=>true
 |(i,x)::r,(i',y)::r'=>i==i'&&gW n x y&&BN n r r'
 |_,_=>false
def BQ (P:Program)(n:Nat)(op:Op)(sz m:Nat)(zs:List Cell)(ps:List (Nat×jK)):Bool:=
 match op with
 | .buildSlice t len ps'=>len==m&&zs.length==sz&&decide (0<sz)&&decide (len*sz<=16777216)&&BN n ps'.toList ps&&(match P.underlying t with
   |some (.slice e)=>(match P.info? e with|some i=>i.size==sz&&(match i.zero with|some z=>Dn z.cells.toList zs|none=>false)|none=>false)
   |_=>false)
 |_=>false
theorem RF {sz:Nat}{BS:List Nat}(h:GX E I ρ n st a w)(hs0:0<sz):∀(ps:List (Nat×Operand)) (ps':List (Nat×jK)) (l':List (Nat×List Cell)) (cs:Array Value) (es:List (List Cell)),BN n ps ps'=true ->
 uj (bT st.tm) st.bx es.length sz ps'=some l'->vF (bT st.tm) st.bx ps'->(∀b,b∈oz (bT st.tm) ps'->b∈BS)->(∀p,p∈l'->p.1<es.length/\p.2.length=sz)->(∀p,p∈ps'->(p.2.ev st.tm).g=true)->DC (wW I ρ w st.bx BS) cs.toList sz es->(∀x,x∈es->x.length=sz)->cs.size=es.length*sz ->
 ∃cs',lZ (λi=>some (i*sz,sz)) cs (ps.map λp=>(p.1,a.eval p.2))=some cs'/\DC (wW I ρ w st.bx BS) cs'.toList sz (Hl es l')/\(∀x,x∈Hl es l'->x.length=sz)/\cs'.size=es.length*sz/\(Hl es l').length=es.length
 | [],[],l',cs,es,_,hd,_,_,_,_,hg,hsz,hcs=>by simp[uj]at hd;subst hd;exact⟨cs,rfl,hg,hsz,hcs,rfl⟩
 |[],_::_,_,_,_,h,_,_,_,_,_,_,_,_=>by simp[BN]at h
 |_::_,[],_,_,_,h,_,_,_,_,_,_,_,_=>by simp[BN]at h
 | (i,x)::r,(i',y)::r',l',cs,es,hp,hd,hld,hbs,hq,hv,hg,hsz,hcs=>by
   simp only[BN,af,beq_iff_eq]at hp;obtain⟨⟨rfl,hx⟩,hr⟩:=hp;unfold uj at hd;split at hd
   ·rename_i ds l2 hd1 hd2;simp at hd;subst hd;obtain⟨q1,q2⟩:=hq (i,ds) (by simp);simp only at q1 q2;have g:=jl h hx (hv _ (aK ..));have hf:(bT st.tm y).flat:=by
     cases hav:bT st.tm y with
     |wF ps=>rw[hav]at hd1;simp[AV.cells,Dw]at hd1;rw[hd1]at q2;simp at q2;omega
     |one x=>trivial
     |agg xs=>trivial
    have gc:=Eg g hf;obtain⟨hl,hrd⟩:=RS (BS:=BS) h gc hd1 hld.1 (λb hm=>hbs b (by simp only[oz,aV];exact .inl hm));have hvs:(a.eval x).cells.size=sz:=(by simp at hl;rw[hl];exact q2);have hone:∀(j:Nat) (u:Value),(a.eval x).cells.toList[j]? = some u->u.oneCell'=true:=λj u hu=>by have hj:j<(bT st.tm y).cells.length:=(by rw[<- gc.1];exact(ax.1 hu).1);exact(gc.2 j u _ hu (aj hj)).one
    have hi1:(i+1)*sz<=cs.toList.length:=(by simp;rw[hcs];exact aC _ q1);have hmul:(i+1)*sz=i*sz+sz:=(by rw[bg];omega);have hsp:=hg.splice hsz q1 (off:=0) (ys:=ds) (vs:=(a.eval x).cells.toList) (by omega) hi1 (by simpa using hl) hone hrd;have hei:(es.getD i []).length=sz:=hsz _ (by simp[bu,aj q1]);have hse:Ab.splice (es.getD i []) 0 ds=ds:=(by unfold Ab.splice;rw[vY,nY,List.drop_of_length_le (by omega),pI]);rw[hse,kN]at hsp;have hfold:=foldl_set (a.eval x).cells (i*sz) cs (by simp at hi1;omega);have hlen2:(es.set i ds).length=es.length:=(by simp);have ih:=RF h hs0 r r' l2 ((a.eval x).cells.zipIdx.foldl (λcs (p:Value×Nat)=>cs.setIfInBounds (i*sz+p.2) p.1) cs) (es.set i ds) hr (by rw[hlen2];exact hd2) hld.2 (λb hm=>hbs b (by simp only[oz,aV];exact .inr hm))
     (λp hp=>by rw[hlen2];exact hq p (by simp[hp])) (λp hp=>hv p (by simp[hp])) (by rw[hfold];exact hsp)
     (λx hx=>(lD hx).elim (hsz x) (λh1=>by rw[h1];exact q2)) (by have:(cs.toList).length=cs.size:=(by simp);rw[<- iU,hfold,length_splice _ _ _ (by simp at hi1⊢;omega),hlen2];simpa using hcs)
    obtain⟨cs',h1,h2,h3,h4,h5⟩:=ih;rw[hlen2]at h4 h5;refine⟨cs',?_,h2,h3,h4,h5⟩;simp only[aP,lZ];rw[if_neg (by simp at hi1⊢;omega)];exact h1
   ·cases hd
theorem RH {o:Oper}{l sz m:Nat}{zs:List Cell}{ps:List (Nat×jK)}{l':List (Nat×List Cell)}(h:GX E I ρ n st a w)(hc:BQ P n o.op sz m zs ps=true)(hv:∀p,p∈ps->(p.2.ev st.tm).g=true)
 (hm:E.m<=l) (hl:xq (st.bx l)) (hd:uj (bT st.tm) st.bx m sz ps=some l') (hq:∀p,p∈l'->p.1<m/\p.2.length=sz) (hld:vF (bT st.tm) st.bx ps) :
 oG P E n o a w ((st.zL (oz (bT st.tm) ps)).sN l (.dat sz (Hl (aY m zs) l'))) (.one (.own l m sz)):=by
 have h':=h.freeze (oz (bT st.tm) ps);have hl':xq ((st.zL (oz (bT st.tm) ps)).bx l):=by rw[uZ,uU hl];split<;>trivial
 generalize hJ:wW I ρ w st.bx (oz (bT st.tm) ps)=J at h';unfold BQ at hc;split at hc
 ·rename_i t len ps' he;simp only[af,beq_iff_eq,decide_eq_true_eq]at hc;obtain⟨⟨⟨⟨⟨rfl,hs⟩,hs0⟩,hbig⟩,hp⟩,ht⟩:=hc;split at ht
  ·rename_i e hte;split at ht
   ·rename_i i hi;simp only[af,beq_iff_eq]at ht;obtain⟨rfl,hz⟩:=ht;split at hz
    ·rename_i z hzero;generalize hz0:(if len*i.size=0 then(#[]:Array Value)else z.cells)=z0;generalize hcs0:(nP (len*i.size)).map (z0[· % z0.size]!)=cs0;have hdc:DC J cs0.toList i.size (aY len zs)/\cs0.size=len*i.size:=by
      refine⟨?_,by rw[<- hcs0];simp⟩;by_cases h0:len*i.size=0
      ·have hlen0:len=0:=by
        rcases Nat.mul_eq_zero.1 h0 with h1|h1
        ·exact h1
        ·omega
       subst hlen0;refine⟨λj u hu=>?_,λi' j c hc=>?_⟩
       ·rw[<- hcs0]at hu;simp at hu
       ·simp[bu]at hc
      ·rw[if_neg h0]at hz0;subst hz0;have rc:=Jq (I:=J) (N:=len*i.size) (m:=len) hz hs hs0 (aA _) (cs:=cs0) hcs0.symm;exact⟨λj u hu=>rc.1 j u (by simpa using hu),λi' j c hc=>by obtain⟨u,hu,hr⟩:=rc.2 i' j c hc;exact⟨u,by simpa using hu,hr⟩⟩
     obtain⟨cs',h1,h2,h3,h4,h5⟩:=RF (BS:=oz (bT st.tm) ps) h hs0 ps'.toList ps l' cs0 (aY len zs) hp (by simpa using hd) hld (λb hb=>hb) (by simpa using hq) hv (by rw[hJ];exact hdc.1) (λx hx=>by rw[nK hx,hs]) (by simpa using hdc.2);rw[hJ]at h2;simp only[vG]at h4 h5;have g:=EZ h' (uU hl') hm cs' e len i.size (Hl (aY len zs) l') h4 (by omega) (by simp only[maxLen];have:=Nat.le_mul_of_pos_right len hs0;omega) h3
      (λj u hu=>h2.one j u (by simpa using hu)) (λi' j c hc=>by obtain⟨u,hu,hr⟩:=h2.rd i' j c hc;exact⟨u,by simpa using hu,hr⟩)
     refine⟨_,_,J,_,.inl ?_,g,λ_=>⟨w.heap.size,len,_,_,Ren.jM _ _ _ _,rfl,aA _,aA _,λ_=>rfl⟩⟩;have hps:(ps'.map λ(i,x)=>(i,a.eval x)).toList=ps'.toList.map λp=>(p.1,a.eval p.2):=(by simp);have hsz:(sizeOf e).run P w = .ok i.size w:=(by simp[sizeOf,typeInfo,hi]);have ZJ:(zeroValue e).run P w = .ok z w:=(by simp[zeroValue,typeInfo,hi,hzero]);simp only[execOp,he,Instr.buildSlice,bF,run_underlying hte,aN,hsz];rw[if_neg (by omega)];by_cases h0:len*i.size=0
     ·rw[if_pos h0]at hz0⊢;subst hz0;simp only[bF,aX,aN,hcs0,hps,h1,newRow,run_newObj];rfl
     ·rw[if_neg h0]at hz0⊢;subst hz0;simp only[bF,ZJ,aX,aN,hcs0,hps,h1,newRow,run_newObj];rfl
    ·cases hz
   ·cases ht
  ·cases ht
 ·cases hc
theorem Dh (w:World)(k:Nat)(cs:Array Value):xK w (w.setRow k cs) (λk'=>k'=k):=
 ⟨rfl,rfl,rfl,by simp,λk' _ hne=>setRow_other w k k' cs hne⟩
theorem sO (cs:Array Value)(off:Nat)(vs:List Value):(cs.toList.take (off+0)++vs++cs.toList.drop (off+0+vs.length)).toArray=(Ab.splice cs.toList off vs).toArray:=by unfold Ab.splice;simp
def LJ (P:Program)(n:Nat)(op:Op)(agg:Bool)(k:Nat)(p x:jK):Bool:=match op with|.store t p' x'=>gW n p' p&&gW n x' x&&DK P t agg k&&(agg||k==1)|_=>false
theorem Ih {t:TypeId}{agg:Bool}{k kk off:Nat}(ht:DK P t agg k=true){v:Value}(hk:v.cells.size=k){cur:Array Value}{e:TypeId}(hw:w.heap[kk]? = some (.cells cur e (0,0)))
 (hfit:off+k<=cur.size) (h1:∀(j:Nat) (u:Value),v.cells.toList[j]? = some u->u.oneCell'=true) :
 (uM t (.pointer (some ⟨kk,off,none⟩)) v).run P w = .ok () (w.setRow kk (Ab.splice cur.toList off v.cells.toList).toArray):=by
 have hst:=run_storeCells_at P kk off e v.cells.toList 0 cur w hw (by simp;omega) (λu hu=>by obtain⟨j,hj⟩:=nH hu;exact h1 j u hj)
 rw[sO]at hst;obtain⟨_,hs⟩:=Ak ht w;simp only[uM,gz,bF,aX,aN,storeVar,hs];rw[if_neg (by omega)];exact hst
theorem abL {v:Value}{x:AV}(h:GV I ρ v x)(hf:x.flat):∀(j:Nat) (u:Value),v.cells.toList[j]? = some u->u.oneCell'=true:=λj u hu=>by
 have gc:=Eg h hf;have hj:j<x.cells.length:=by rw[<- gc.1];exact(ax.1 hu).1
 exact(gc.2 j u _ hu (aj hj)).one
theorem VF {o:Oper}{agg:Bool}{k:Nat}{p x:jK}(h:GX E I ρ n st a w)(hc:LJ P n o.op agg k p x=true)(hd:o.dst=none)(hp:(p.ev st.tm).g=true)(hx:(x.ev st.tm).g=true)
 (fH:(uB agg k (bT st.tm p) (bT st.tm x) st.bx).vc):o8 P E n o a w (st.mQ (uB agg k (bT st.tm p) (bT st.tm x) st.bx).sets) (uB agg k (bT st.tm p) (bT st.tm x) st.bx).v:=by
 unfold LJ at hc;split at hc
 ·rename_i t p' x' he;simp only[af]at hc;obtain⟨⟨⟨c1,c2⟩,ht⟩,_⟩:=hc;have g1:=jl h c1 hp;have g2:=jl h c2 hx;have hf:(bT st.tm x).flat:=by
   cases hav:bT st.tm x with
   |one _=>trivial
   |agg _=>trivial
   |wF ps=>rw[hav]at fH;exact fH.elim
  have gc:=Eg g2 hf;have h1:=abL g2 hf;have key:∀{J:IH} {st':dP} (h':GX E J ρ n st' a w) {b kk cap off:Nat} {cur:Array Value} {e:TypeId} {y:Box},a.eval p' = .pointer (some ⟨kk,off,none⟩)->(st'.bx b).uses (ρ b) kk->w.heap[kk]? = some (.cells cur e (0,0))->(bT st.tm x).cells.length=k->off+k<=cur.size ->
   (∀k',y.uses (ρ b) k'->k'=kk)->qf J ρ (w.setRow kk (Ab.splice cur.toList off (a.eval x').cells.toList).toArray) b y->ρ b=some (kk,cap)->o8 P E n o a w (st'.mQ [(b,y)]) (.one .Em):=by
   intro J st' h' b kk cap off cur e y hpv hu hw hk hfit huy hok hr;have hkv:(a.eval x').cells.size=k:=(by have:=gc.1;simp at this;omega);have hrun:=Ih (P:=P) (w:=w) ht hkv hw hfit h1;refine⟨undef,w.setRow kk (Ab.splice cur.toList off (a.eval x').cells.toList).toArray,J,ρ,.inr ⟨by simp only[execOp,he,hpv,bF,hrun,aN,aX],hd⟩,?_,λhn=>absurd hd hn,{ quiet:=λe=>(by rw[he]at e;cases e),store:=λt1 p1 x1 he1=>(by rw[he]at he1;cases he1;exact⟨kk,off,cur,e,hpv,hw,by omega,rfl⟩) }⟩;exact h'.sN hu y huy (Dh _ _ _) hok (by simp)
  unfold uB at fH⊢;split at fH
  ·exact fH.elim
  ·exact fH.elim
  ·exact fH.elim
  ·split at fH
   ·rename_i b off e1;rw[e1]at g1;obtain⟨kk,cap,hr,hv⟩:=g1;split at fH
    ·rename_i xs hb;obtain⟨hk,hfit⟩:=fH;have hok:=h.bx.ok b;rw[hb]at hok;obtain⟨YK,cap',cs,hr',hw,hs,hcs⟩:=hok;rw[hr]at hr';simp only[aG,bV]at hr';obtain⟨rfl,rfl⟩:=hr';refine key h hv (by rw[hb];exact⟨cap,hr⟩) hw hk (by omega) (λk' hk'=>?_) ?_ hr
     ·obtain⟨c,hc⟩:=hk';rw[hr]at hc;simp at hc;exact hc.1.symm
     ·have hsp:=EN.splice (vs:=cs.toList) (xs:=xs) ⟨by simpa using hs,λj v y hv hy=>hcs j v y (by simpa using hv) hy⟩ gc off (by omega);refine⟨kk,cap,_,hr,setRow_heap w kk cs _ cap _ hw,?_,λj u y hu hy=>hsp.2 j u y (by simpa using hu) hy⟩;have:=hsp.1;simpa using this
    ·exact fH.elim
   ·rename_i b i sz off e1;rw[e1]at g1;obtain⟨kk,cap,hr,hv⟩:=g1;split at fH
    ·rename_i sz' es cs' hb hds;obtain⟨rfl,hk,hi,hfit,hlo,hnb⟩:=fH;obtain⟨hl,hrd⟩:=RS (BS:=kz (bT st.tm x).cells) h gc hds hlo (λb hm=>hm);have h':=h.freeze (kz (bT st.tm x).cells);have hb':(st.zL (kz (bT st.tm x).cells)).bx b = .dat sz' es:=(by rw[uZ,if_neg (λhm=>by rw[List.contains_iff_mem.2 hm]at hnb;cases hnb),hb]);rw[Ns];generalize hJ:wW I ρ w st.bx (kz (bT st.tm x).cells)=J at h' hrd;have hok:=h'.bx.ok b;rw[hb']at hok;obtain⟨YK,cap',hr',hle,hcm,hsz,hcs⟩:=hok;rw[hr]at hr';simp only[aG,bV]at hr';obtain⟨rfl,rfl⟩:=hr';have hc0:cap≠0:=(by omega);obtain⟨cs,e,hw,hs,ho,af8⟩:=hcs hc0;have hi1:(i+1)*sz'<=cs.size:=(by rw[hs];exact aC _ (by omega));have hmul:(i+1)*sz'=i*sz'+sz':=(by rw[bg];omega);have hei:(es.getD i []).length=sz':=hsz _ (by simp[bu,aj hi]);have hck:(bT st.tm x).cells.length=k:=(by rw[<- gc.1,hl];exact hk);have hdc:DC J cs.toList sz' es:=⟨λj u hu=>ho j u (by simpa using hu),λi j c hc=>by obtain⟨u,hu,hr⟩:=af8 i j c hc;exact⟨u,by simpa using hu,hr⟩⟩;have hsp:=hdc.splice hsz hi (off:=off) (ys:=cs') (vs:=(a.eval x').cells.toList) (by omega) (by simpa using hi1) hl h1 hrd;refine key h' hv (by rw[hb'];exact⟨cap,hr,hc0⟩) hw hck (by omega) (λk' hk'=>?_) ?_ hr
     ·obtain⟨c,hc,_⟩:=hk';rw[hr]at hc;simp at hc;exact hc.1.symm
     ·refine⟨kk,cap,hr,by simpa using hle,hcm,λy hy=>?_,λ_=>⟨_,e,setRow_heap w kk cs _ e _ hw,?_,λj u hu=>hsp.one j u (by simpa using hu),λi j c hc=>by obtain⟨u,hu,hr⟩:=hsp.rd i j c hc;exact⟨u,by simpa using hu,hr⟩⟩⟩
      ·rcases lD hy with h1|h1
       ·exact hsz y h1
       ·rw[h1,length_splice _ _ _ (by omega)];exact hei
      ·have:(a.eval x').cells.toList.length=k:=(by rw[hl];exact hk);simp only[kF];rw[length_splice _ _ _ (by rw[this,iU];omega)];simpa using hs
    ·exact fH.elim
   ·exact fH.elim
 ·cases hc
end
end
section
section
variable {P:Program} {E:Env P} {I:IH} {ρ:Ren} {n:Nat} {st:dP} {a:Act} {w:World}
theorem GX.kill (h:GX E I ρ n st a w)(b:Nat):GX E I ρ n (st.sN b .dead) a w:=by
 refine{ h with bx:=?_,own:=?_,agree:=h.agree,tm:=h.tm,size:=h.size,defers:=h.defers }
 ·refine BX.step (λc=>c=b) h.bx (IH.le_refl I) (Ren.le_refl ρ) (λc hc=>⟨by simp[dP.kX,hc],rfl⟩) (λc k _ _=>rfl) ?_ ?_ ?_ (λc k _ hu=>h.bx.fresh c k hu)
  ·rintro c rfl;simp[dP.kX,qf]
  ·rintro c k rfl hu;simp[dP.kX,Box.uses]at hu
  ·rintro c c' k rfl rfl _ _;rfl
 ·intro c k hu;simp only[dP.kX]at hu;by_cases e:c=b
  ·rw[if_pos e]at hu;exact hu.elim
  ·rw[if_neg e]at hu;exact h.own c k hu
theorem GX.move (h:GX E I ρ n st a w){w':World}{b l kk cap sz sz':Nat}{es es':List (List Cell)}(hb:st.bx b = .dat sz es)(hr:ρ b=some (kk,cap))(hl:st.bx l = .absent)(hm:E.m<=l)
 (hF:xK w w' (λk=>k=kk)) (hsz:w'.heap.size=w.heap.size) (h0:cap=0->w'=w) (hx:qf I (ρ.set l kk cap) w' l (.dat sz' es')):GX E I (ρ.set l kk cap) n ((st.sN b .dead).sN l (.dat sz' es')) a w':=by
 have hrl:ρ l=none:=by have:=h.bx.ok l;rwa[hl]at this
 have hbl:b≠l:=by rintro rfl;rw[hl]at hb;cases hb
 have hle:=Ren.Jh (ρ:=ρ) (k:=kk) (cap:=cap) hrl;have hk:∀k',k'≠kk->w'.heap[k']? = w.heap[k']?:= λk' hne=>by
  by_cases hlt:k'<w.heap.size
  ·exact hF.block k' hlt hne
  ·rw[ou (by omega),ou (by omega)]
 have hub:cap≠0->(st.bx b).uses (ρ b) kk:=λhc=>by rw[hb];exact⟨cap,hr,hc⟩
 have hk2:∀k',(∀hc:cap≠0,k'≠kk)->w'.heap[k']? = w.heap[k']?:= λk' hne=>by
  by_cases hc:cap=0
  ·rw[h0 hc]
  ·exact hk k' (hne hc)
 refine{ agree:=h.agree.other λk' c hc=>hk2 k' λhc0 e=>?_,bx:=?_,tm:=λt ht=>(h.tm t ht).mono (IH.le_refl _) hle,size:=h.size,defers:=h.defers,wu:=?_,own:=?_,Ei:=h.Ei,Az:=h.Az,rQ:=?_ }
 ·subst e;have:=h.bx.fresh b k' (hub hc0);rw[this]at hc;cases hc
 ·refine BX.step (λc=>c=b\/c=l) h.bx (IH.le_refl I) hle ?_ ?_ ?_ ?_ ?_ ?_
  ·intro c hc;have h1:¬c=b:=λe=>hc (.inl e);have h2:¬c=l:=λe=>hc (.inr e);exact⟨by simp[dP.kX,h1,h2],Ren.sK h2⟩
  ·intro c k' hc hu;refine hk2 k' λhc0 e=>hc (.inl ?_);subst e;exact h.bx.inj c b k' hu (hub hc0)
  ·rintro c (rfl|rfl)
   ·simp[dP.kX,hbl,qf]
   ·simpa[dP.kX]using hx
  ·rintro c k' (rfl|rfl) hu
   ·simp[dP.kX,hbl,Box.uses]at hu
   ·simp only[dP.kX,if_true,Box.uses,Ren.jM]at hu;obtain⟨c',hc',hc0⟩:=hu;simp only[aG,bV]at hc';obtain⟨rfl,rfl⟩:=hc';exact⟨λb' hb' hu'=>hb' (.inl (h.bx.inj b' b kk hu' (hub hc0))),h.bx.fresh b kk (hub hc0)⟩
  ·rintro c c' k' (rfl|rfl) (rfl|rfl) hu hu'
   ·rfl
   ·simp[dP.kX,hbl,Box.uses]at hu
   ·simp[dP.kX,hbl,Box.uses]at hu'
   ·rfl
  ·intro c k' hc hu;exact h.bx.fresh c k' hu
 ·by_cases hc:cap=0
  ·rw[h0 hc];exact h.wu
  ·refine h.wu.trans hF λk' hlt e=>?_;subst e;rcases h.own b k' (hub hc)with h1|h1
   ·omega
   ·exact h1
 ·intro c k' hu;simp only[dP.kX]at hu;by_cases e:c=l
  ·subst e;simp only[if_true,Box.uses,Ren.jM]at hu;obtain⟨c',hc',hc0⟩:=hu;simp only[aG,bV]at hc';obtain⟨rfl,rfl⟩:=hc';exact h.own b kk (hub hc0)
  ·rw[if_neg e,Ren.sK e]at hu;by_cases e2:c=b
   ·rw[if_pos e2]at hu;exact hu.elim
   ·rw[if_neg e2]at hu;exact h.own c k' hu
 ·intro c hc;rw[Ren.sK (by omega)];exact h.rQ c hc
theorem EI {v:Value}{sz:Nat}{es:List (List Cell)}(h:Src I w v sz es)(h0:0<sz):∃(b:Option Addr) (cap:Nat) (us:List Value),v = .slice b es.length cap/\us.length=es.length*sz /\
 (∀ad,b=some ad->∀(j:Nat) (u:Value),us[j]? = some u->w.cell? (ad.add j)=some u)/\(b=none->es=[])/\DC I us sz es:=by
 obtain⟨b,cap,hv,_,hsz,hb,hc⟩:=h;cases b with
 | none=>
   have:es=[]:=by
    cases es with
    |nil=>rfl
    |cons e r=>exact absurd rfl (hb (by simp))
   subst this;exact⟨none,cap,[],hv,by simp,(λad h=>by cases h),(λ_=>rfl),⟨by simp,by simp⟩⟩
 | some ad=>
   have key:∀j,j<es.length*sz->∃u,w.cell? (ad.add j)=some u/\∃c,(es.getD (j/sz) [])[j%sz]? = some c/\Rd I u c:=by intro j hj;have hi:j/sz<es.length:=(by rw[Nat.div_lt_iff_lt_mul h0];exact hj);have hl:(es.getD (j/sz) []).length=sz:=hsz _ (by simp[bu,aj hi]);have hm:j%sz<sz:=uy _ h0;obtain⟨u,hu,hr⟩:=hc ad rfl (j/sz) (j%sz) _ (aj (by omega));have e:j/sz*sz+j%sz=j:=(by rw[oh];exact Nat.div_add_mod j sz);rw[e]at hu;exact⟨u,hu,_,aj (by omega),hr⟩
   refine⟨some ad,cap,(List.range (es.length*sz)).map λj=>(w.cell? (ad.add j)).getD undef,hv,by simp,?_,by simp,?_⟩
   ·intro ad' had j u hu;simp at had;subst had;rw[bn]at hu;by_cases hj:j<es.length*sz
    ·rw[pK hj]at hu;obtain⟨u',hu',_⟩:=key j hj;simp[hu']at hu;rw[<- hu];exact hu'
    ·rw[gp (by simpa using hj)]at hu;cases hu
   ·refine⟨λj u hu=>?_,λi j c hcc=>?_⟩
    ·rw[bn]at hu;by_cases hj:j<es.length*sz
     ·rw[pK hj]at hu;obtain⟨u',hu',c,_,hr⟩:=key j hj;simp[hu']at hu;rw[<- hu];exact hr.one
     ·rw[gp (by simpa using hj)]at hu;cases hu
    ·have hi:=iL hcc;have hl:(es.getD i []).length=sz:=hsz _ (by simp[bu,aj hi]);have hj:j<sz:=(by rw[<- hl];exact(ax.1 hcc).1);obtain⟨u,hu,hr⟩:=hc ad rfl i j c hcc;have hlt:i*sz+j<es.length*sz:=by
      have:(i+1)*sz<=es.length*sz:=aC _ hi;rw[bg]at this;omega
     exact⟨u,by rw[bn,pK hlt];simp[hu],hr⟩
theorem DC.append {us vs:List Value}{sz:Nat}{es ys:List (List Cell)}(h:DC I us sz es)(k:DC I vs sz ys)(hl:us.length=es.length*sz):DC I (us++vs) sz (es++ys):=by
 refine⟨λj u hu=>?_,λi j c hc=>?_⟩
 ·by_cases hj:j<us.length
  ·rw[aU hj]at hu;exact h.one j u hu
  ·rw[bJ (by omega)]at hu;exact k.one _ u hu
 ·by_cases hi:i<es.length
  ·have e:(es++ys).getD i []=es.getD i []:=(by simp[bu,aU hi]);rw[e]at hc;obtain⟨u,hu,hr⟩:=h.rd i j c hc;exact⟨u,by rw[aU (ax.1 hu).1];exact hu,hr⟩
  ·have e:(es++ys).getD i []=ys.getD (i-es.length) []:=(by simp[bu,bJ (uQ hi)]);rw[e]at hc;obtain⟨u,hu,hr⟩:=k.rd _ j c hc;have hmul:es.length*sz<=i*sz:=aC _ (by omega);have hsub:(i-es.length)*sz=i*sz-es.length*sz:=Nat.sub_mul _ _ _;exact⟨u,by rw[bJ (by omega),hl,<- hu];congr 1;omega,hr⟩
theorem DC.more {us vs:List Value}{sz:Nat}{es:List (List Cell)}(h:DC I us sz es)(hv:∀(j:Nat) (u:Value),vs[j]? = some u->u.oneCell'=true):DC I (us++vs) sz es:=by
 refine⟨λj u hu=>?_,λi j c hc=>?_⟩
 ·by_cases hj:j<us.length
  ·rw[aU hj]at hu;exact h.one j u hu
  ·rw[bJ (by omega)]at hu;exact hv _ u hu
 ·obtain⟨u,hu,hr⟩:=h.rd i j c hc;exact⟨u,by rw[aU (ax.1 hu).1];exact hu,hr⟩
theorem DC.WV {us:List Value}{sz:Nat}{es:List (List Cell)}{cs:Array Value}(h:DC I us sz es)(e:cs.toList=us) :
 (∀(j:Nat) (u:Value),cs[j]? = some u->u.oneCell'=true)/\∀(i j:Nat) (c:Cell),(es.getD i [])[j]? = some c->∃u,cs[i*sz+j]? = some u/\Rd I u c:=by
 subst e;exact⟨λj u hu=>h.one j u (by simpa using hu),λi j c hc=>by obtain⟨u,hu,hr⟩:=h.rd i j c hc;exact⟨u,by simpa using hu,hr⟩⟩
def x9 (P:Program)(n:Nat)(op:Op)(sz bytes:Nat)(s x:jK):Bool:=
 match op with
 | .call { callee:=.builtin .append,args:=⟨[s',x']⟩,argTypes:=⟨[t,t']⟩ }=>gW n s' s&&gW n x' x&&t==t'&&decide (0<sz)&&(match P.underlying t with
   |some (.slice e)=>(match P.info? e with|some i=>i.size==sz&&i.bytes==bytes&&(match i.zero with|some z=>z.cells.size==sz&&z.cells.toList.all (·.oneCell')|none=>false)|none=>false)
   |_=>false)
 |_=>false
theorem run_append_room' (t ty e tg:TypeId)(i:TypeInfo)(ht:P.underlying t=some (.slice e))(hi:P.info? e=some i)
 (g sLen sCap:Nat) (cur:Array Value) (hg:w.heap[g]? = some (.cells cur tg (0,0)))
 (ad:Addr) (m c:Nat) (news:List Value) (hl:news.length=m*i.size) (hnews:∀j u,news[j]? = some u->w.cell? (ad.add j)=some u) (h1:∀u∈news,u.oneCell'=true)
 (hroom:sLen+m<=sCap) (hfit:sLen*i.size+news.length<=cur.size) :
 (fB #[t,t] ty #[.slice (some ⟨g,0,none⟩) sLen sCap,.slice (some ad) m c]).run P w =
  .ok (.slice (some ⟨g,0,none⟩) (sLen+m) sCap) (w.setRow g (cur.toList.take (sLen*i.size)++news++cur.toList.drop (sLen*i.size+news.length)).toArray):=by
 have hf:=run_firstCells_some (P:=P) w i.size m ad m c news hl hnews;have hst:=run_storeCells_at P g (sLen*i.size) tg news 0 cur w hg (by simpa using hfit) h1;simp only[kN]at hst;simp[fB,run_underlying ht,sizeOf,typeInfo,hi,lT,hroom,hf,Go.Addr.add_lit,hst]
theorem zD (t ty e:TypeId)(i:TypeInfo)(ht:P.underlying t=some (.slice e))(hi:P.info? e=some i)(b:Option Addr)(sLen sCap:Nat)(hs:sLen<=sCap)(ad:Option Addr)(c:Nat) :
 (fB #[t,t] ty #[.slice b sLen sCap,.slice ad 0 c]).run P w = .ok (.slice b sLen sCap) w:=by
 have hf:(dO i.size 0 (.slice ad 0 c)).run P w = .ok #[] w:=by cases ad<;>simp[dO,loadCells,loadCellsFrom,aX]
 cases b<;>simp[fB,run_underlying ht,sizeOf,typeInfo,hi,lT,hs,hf,storeCells]
theorem JI (h:GX E I ρ n st a w){l sz bytes:Nat}{sv xv:Value}{es ys:List (List Cell)}{b:Option Nat}(t ty e:TypeId)(i:TypeInfo)(z:Value)(ht:P.underlying t=some (.slice e))(hi:P.info? e=some i)(hsz:i.size=sz)
 (hby:i.bytes=bytes) (hz:i.zero=some z) (hzs:z.cells.size=sz) (hz1:z.cells.toList.all (·.oneCell')=true) (h0:0<sz) (hl:st.bx l = .absent) (hm:E.m<=l)
 (hb:(b=none/\es=[]/\sv = .slice none 0 0)\/∃b',b=some b'/\st.bx b' = .dat sz es/\GC I ρ sv (.own b' es.length sz)) (hx:Src I w xv sz ys) (hbig:(es.length+ys.length)*(bytes+sz+1)<=2^46) :
 ∃v w' ρ',(fB #[t,t] ty #[sv,xv]).run P w = .ok v w'/\GX E I ρ' n ((match b with|some b'=>st.sN b' .dead|none=>st).sN l (.dat sz (es++ys))) a w'/\GC I ρ' v (.own l (es.length+ys.length) sz):=by
 subst hsz;subst hby;have hmul:(es.length+ys.length)*(i.bytes+i.size+1)=(es.length+ys.length)*i.bytes+(es.length+ys.length)*i.size+(es.length+ys.length):=by rw[sV,sV,Be]
 have hbytes:(es.length+ys.length)*i.bytes<=140737488355328:=by omega
 have h63:es.length+ys.length<=maxLen:=by simp only[maxLen];omega
 obtain⟨xb,xc,us,hxv,DI,hus,hxn,Ud⟩:=EI hx h0;have hys:∀y,y∈ys->y.length=i.size:=by obtain⟨_,_,_,_,h4,_⟩:=hx;exact h4
 have hone:∀u∈us,u.oneCell'=true:=λu hu=>by obtain⟨j,hj⟩:=nH hu;exact Ud.one j u hj
 have hzc:∀(q:Nat) (j:Nat) (u:Value),(bM z.cells q).toList[j]? = some u->u.oneCell'=true:=by
  intro q j u hu;simp only[bM,oI,jT]at hu;by_cases hj:j<q*z.cells.size
  ·rw[kC,if_pos hj]at hu;simp only[iH,aG]at hu;have hlt:j%z.cells.size<z.cells.size:=uy _ (by omega);rw[getElem!_pos z.cells _ hlt]at hu;rw[<- hu];exact aH.1 hz1 _ (by simp)
  ·rw[kC,if_neg hj]at hu;cases hu
 have fresh:∀(st':dP) (old:Nat) (olds:List Value),GX E I ρ n st' a w->st'.bx l = .absent->old<es.length+ys.length->olds.length=es.length*i.size->DC I olds i.size es->(∀y,y∈es->y.length=i.size) ->
  GX E I (ρ.set l w.heap.size (grownCap w (es.length+ys.length) old e)) n (st'.sN l (.dat i.size (es++ys))) a
   (w.drew.alloc (.cells (olds.toArray++us.toArray++bM z.cells (grownCap w (es.length+ys.length) old e-(es.length+ys.length))) e)):=by
  intro st' old olds hst hl' ho hol hdo hes;have hge:=grownCap_ge w (es.length+ys.length) old e;have hcm:grownCap w (es.length+ys.length) old e<=maxLen:=grownCap_le_maxLen w _ old e h63;have hdc:=((hdo.append Ud hol).more (hzc (grownCap w (es.length+ys.length) old e-(es.length+ys.length)))).WV (cs:=olds.toArray++us.toArray++bM z.cells (grownCap w (es.length+ys.length) old e-(es.length+ys.length))) (by simp);refine EZ hst.drew hl' hm _ e _ i.size (es++ys) ?_ (by simpa using hge) hcm (λx hx=>?_) hdc.1 hdc.2
  ·simp only[uC,kF,size_zeroCells,hzs,hol,DI,<- bg]
   congr 1
   omega
  ·rcases aV.1 hx with h1|h1
   ·exact hes x h1
   ·exact hys x h1
 rcases hb with⟨rfl,rfl,rfl⟩|⟨b',rfl,hb',hg⟩
 ·
  simp only[lC,dh,nY]at *;by_cases hm0:ys.length=0
  ·have hy0:ys=[]:=dK hm0;subst hy0;refine⟨.slice none 0 0,w,ρ.set l 0 0,?_,?_,0,0,none,0,Ren.jM _ _ _ _,rfl,aA _,aA _,λh=>absurd rfl h⟩
   ·rw[hxv];exact zD t ty e i ht hi none 0 0 (aA _) xb xc
   ·have hrl:ρ l=none:=(by have:=h.bx.ok l;rwa[hl]at this);have hle:=Ren.Jh (ρ:=ρ) (k:=0) (cap:=0) hrl;refine{ agree:=h.agree,bx:=?_,tm:=λt ht=>(h.tm t ht).mono (IH.le_refl _) hle,size:=h.size,defers:=h.defers,wu:=h.wu,own:=?_,Ei:=h.Ei,Az:=h.Az,rQ:=λc hc=>by rw[Ren.sK (by omega)];exact h.rQ c hc }
    ·refine BX.step (λc=>c=l) h.bx (IH.le_refl I) hle (λc hc=>⟨by simp[dP.kX,hc],Ren.sK hc⟩) (λc k _ _=>rfl) ?_ ?_ ?_ (λc k _ hu=>h.bx.fresh c k hu)
     ·rintro c rfl;simp only[dP.kX,if_true];exact⟨0,0,Ren.jM _ _ _ _,by simp,by simp[maxLen],by simp,λh=>absurd rfl h⟩
     ·rintro c k rfl hu;simp only[dP.kX,if_true,Box.uses,Ren.jM]at hu;obtain⟨c',hc',hc0⟩:=hu;simp only[aG,bV]at hc';exact absurd hc'.2.symm hc0
     ·rintro c c' k rfl rfl _ _;rfl
    ·intro c k hu;simp only[dP.kX]at hu;by_cases e':c=l
     ·subst e';simp only[if_true,Box.uses,Ren.jM]at hu;obtain⟨c',hc',hc0⟩:=hu;simp only[aG,bV]at hc';exact absurd hc'.2.symm hc0
     ·rw[if_neg e',Ren.sK e']at hu;exact h.own c k hu
  ·obtain⟨ad,had⟩:∃ad,xb=some ad:=by
    cases hq:xb with
    |none=>exact absurd (by rw[hxn hq];rfl) hm0
    |some ad=>exact⟨ad,rfl⟩
   subst had;have hr:=run_append_nil (P:=P) w t ty e i z ht hi hz ad ys.length xc us DI (hus ad rfl) (by omega) (by simp only[maxLen]at h63;omega) (by omega);rw[<- hxv]at hr;have hf:=fresh st 0 [] h hl (by omega) (by simp) ⟨by simp,by simp⟩ (by simp);simp only[pX]at hf;exact⟨_,_,_,hr,hf,w.heap.size,_,_,_,Ren.jM _ _ _ _,rfl,grownCap_ge w ys.length 0 e,aA _,λ_=>rfl⟩
 ·obtain⟨kk,cap,ad0,c,hr0,hsv,hnc,hcc,hcap⟩:=hg;have hbl:b'≠l:=by rintro rfl;rw[hl]at hb';cases hb'
  have hok:=h.bx.ok b';rw[hb']at hok;obtain⟨YK,cap',hr',hle,hcm,hes,hcs⟩:=hok;rw[hr0]at hr';simp only[aG,bV]at hr';obtain⟨rfl,rfl⟩:=hr';simp only;by_cases hm0:ys.length=0
  ·have hy0:ys=[]:=dK hm0;subst hy0;simp only[lC,kN,pI]at *;refine⟨sv,w,ρ.set l kk cap,?_,?_,kk,cap,ad0,c,Ren.jM _ _ _ _,hsv,hnc,hcc,hcap⟩
   ·rw[hxv,hsv];exact zD t ty e i ht hi ad0 _ c hnc xb xc
   ·refine h.move hb' hr0 hl hm (xK.refl _ _) rfl (λ_=>rfl) ⟨kk,cap,Ren.jM _ _ _ _,hle,hcm,hes,hcs⟩
  ·obtain⟨ad,had⟩:∃ad,xb=some ad:=by
    cases hq:xb with
    |none=>exact absurd (by rw[hxn hq];rfl) hm0
    |some ad=>exact⟨ad,rfl⟩
   subst had;by_cases hroom:es.length+ys.length<=c
   ·have hc0:cap≠0:=(by omega);have Gi:=hcap hc0;subst Gi;obtain⟨cs,tg,hw,hs,ho,hrd⟩:=hcs hc0;have hfit:es.length*i.size+us.length<=cs.size:=(by rw[hs,DI,<- bg];exact aC _ (by omega));have hr:=run_append_room' (P:=P) (w:=w) (ty:=ty) t e tg i ht hi kk es.length c cs hw ad ys.length xc us DI (hus ad rfl) hone hroom hfit;rw[<- hxv,<- hsv]at hr;refine⟨_,_,ρ.set l kk cap,hr,?_,kk,cap,_,c,Ren.jM _ _ _ _,rfl,hroom,hcc,λ_=>rfl⟩;refine h.move hb' hr0 hl hm (Dh _ _ _) (by simp) (λh=>absurd h hc0) ⟨kk,cap,Ren.jM _ _ _ _,by simp;omega,hcm,λx hx=>?_,λ_=>⟨_,tg,setRow_heap w kk cs _ tg _ hw,?_,?_⟩⟩
    ·rcases aV.1 hx with h1|h1
     ·exact hes x h1
     ·exact hys x h1
    ·simp only[kF,iM,dW,List.length_drop,iU];omega
    ·have hd1:DC I (cs.toList.take (es.length*i.size)) i.size es:=by
      refine⟨λj u hu=>?_,λi' j c' hc'=>?_⟩
      ·rw[bf]at hu;split at hu
       ·exact ho j u (by simpa using hu)
       ·cases hu
      ·obtain⟨u,hu,hr⟩:=hrd i' j c' hc';have hi':=iL hc';have hj:j<i.size:=(by rw[<- hes (es.getD i' []) (by simp[bu,aj hi'])];exact(ax.1 hc').1);have:(i'+1)*i.size<=es.length*i.size:=aC _ hi';rw[bg]at this;exact⟨u,by rw[bf,if_pos (by omega)];simpa using hu,hr⟩
     have hlen:(cs.toList.take (es.length*i.size)).length=es.length*i.size:=(by simp;omega);have:=((hd1.append Ud hlen).more (vs:=cs.toList.drop (es.length*i.size+us.length)) (λj u hu=>by rw[dA]at hu;exact ho _ u (by simpa using hu))).WV (cs:=(cs.toList.take (es.length*i.size)++us++cs.toList.drop (es.length*i.size+us.length)).toArray) (by simp);exact this
   ·
    have hfit:=growslice_fits (need:=es.length+ys.length) (old:=c) (bytes:=i.bytes) (by omega) hbytes;have hk:=h.kill b';have hkl:(st.sN b' .dead).bx l = .absent:=(by rw[dP.kX,if_neg (λe=>hbl e.symm)];exact hl);by_cases hc0:cap=0
    ·
     have he0:es=[]:=dK (by omega);subst he0;have hcz:c=0:=(by omega);subst hcz;simp only[lC,dh,nY]at *;have hf:=fresh (st.sN b' .dead) 0 [] hk hkl (by omega) (by simp) ⟨by simp,by simp⟩ (by simp);simp only[pX]at hf;cases ad0 with
     | none=>have hr:=run_append_nil (P:=P) w t ty e i z ht hi hz ad ys.length xc us DI (hus ad rfl) (by omega) (by simp only[maxLen]at h63;omega) (by omega);rw[<- hxv,<- hsv]at hr;exact⟨_,_,_,hr,hf,w.heap.size,_,_,_,Ren.jM _ _ _ _,rfl,grownCap_ge w ys.length 0 e,aA _,λ_=>rfl⟩
     | some q=>have hr:=run_append_grow (P:=P) w t ty e i z ht hi hz q 0 0 [] (by simp) (by simp) ad ys.length xc us DI (hus ad rfl) (by omega) (by simp only[maxLen]at h63;omega) (by simpa using hfit);rw[<- hxv,<- hsv]at hr;simp only[dh,pX]at hr;exact⟨_,_,_,hr,hf,w.heap.size,_,_,_,Ren.jM _ _ _ _,rfl,grownCap_ge w ys.length 0 e,aA _,λ_=>rfl⟩
    ·have Gi:=hcap hc0;subst Gi;obtain⟨cs,tg,hw,hs,ho,hrd⟩:=hcs hc0;have hmn:es.length*i.size<=cs.size:=(by rw[hs];exact aC _ hle);have SA:(cs.toList.take (es.length*i.size)).length=es.length*i.size:=(by simp;omega);have holds:∀(j:Nat) (u:Value),(cs.toList.take (es.length*i.size))[j]? = some u->w.cell? ((⟨kk,0,none⟩:Addr).add j)=some u:=λj u hu=>by
      rw[bf]at hu;split at hu
      ·rw[Addr.l7];simp at hu;simp[dR,hw,hu]
      ·cases hu
     have hd1:DC I (cs.toList.take (es.length*i.size)) i.size es:=by
      refine⟨λj u hu=>?_,λi' j c' hc'=>?_⟩
      ·rw[bf]at hu;split at hu
       ·exact ho j u (by simpa using hu)
       ·cases hu
      ·obtain⟨u,hu,hr⟩:=hrd i' j c' hc';have hi':=iL hc';have hj:j<i.size:=(by rw[<- hes (es.getD i' []) (by simp[bu,aj hi'])];exact(ax.1 hc').1);have:(i'+1)*i.size<=es.length*i.size:=aC _ hi';rw[bg]at this;exact⟨u,by rw[bf,if_pos (by omega)];simpa using hu,hr⟩
     have hr:=run_append_grow (P:=P) w t ty e i z ht hi hz ⟨kk,0,none⟩ es.length c _ SA holds ad ys.length xc us DI (hus ad rfl) (by omega) (by simp only[maxLen]at h63;omega) hfit;rw[<- hxv,<- hsv]at hr;have hf:=fresh (st.sN b' .dead) c _ hk hkl (by omega) SA hd1 hes;exact⟨_,_,_,hr,hf,w.heap.size,_,_,_,Ren.jM _ _ _ _,rfl,grownCap_ge w _ c e,aA _,λ_=>rfl⟩
end
end
section
section
variable {P:Program} {E:Env P} {I:IH} {ρ:Ren} {n:Nat} {st:dP} {a:Act} {w:World}
def KC (l sz bytes:Nat) (s x:AV) (bx:Nat->Box):FR:=match rU sz x bx with
    | some (p,ys)=>match s with
      |.one (.xh _)=>⟨p/\(match bx l with|.absent=>True|_=>False)/\ys.length*(bytes+sz+1)<=2^46,.one (.own l ys.length sz),[(l,.dat sz ys)]⟩
      | .one (.own b n sz')=>match bx b with
        |.dat wz es=>⟨p/\(match bx l with|.absent=>True|_=>False)/\sz'=sz/\wz=sz/\n<=es.length/\(n+ys.length)*(bytes+sz+1)<=2^46/\b≠l,
         .one (.own l (n+ys.length) sz),[(b,.dead),(l,.dat sz (es.take n++ys))]⟩
        |_=>.bad
      |_=>.bad
    |none=>.bad
theorem BK {x:Box}(h:match x with|.absent=>True|_=>False):x = .absent:=by cases x<;>first|rfl|exact h.elim
theorem GX.pfx (h:GX E I ρ n st a w){b sz m:Nat}{es:List (List Cell)}(hb:st.bx b = .dat sz es):GX E I ρ n (st.sN b (.dat sz (es.take m))) a w:=by
 have hu:∀c k,((st.sN b (.dat sz (es.take m))).bx c).uses (ρ c) k->(st.bx c).uses (ρ c) k:=λc k hu=>by
  rw[dP.kX]at hu;split at hu
  ·rename_i e;subst e;rw[hb];exact hu
  ·exact hu
 refine{ h with bx:=⟨λc=>?_,λc c' k hc hc'=>h.bx.inj c c' k (hu c k hc) (hu c' k hc'),λc k hc=>h.bx.fresh c k (hu c k hc)⟩,own:=λc k hc=>h.own c k (hu c k hc),agree:=h.agree,tm:=h.tm,size:=h.size,defers:=h.defers,wu:=h.wu };rw[dP.kX];split
 ·rename_i e;subst e;have hok:=h.bx.ok c;rw[hb]at hok;obtain⟨k,cap,hr,h1,h2,h3,h4⟩:=hok;refine⟨k,cap,hr,by simp;omega,h2,λe he=>h3 e (dG he),λh0=>?_⟩;obtain⟨cs,e,g1,g2,g3,g4⟩:=h4 h0;refine⟨cs,e,g1,g2,g3,λi j c' hc'=>g4 i j c' ?_⟩;have hi:=iL hc';simp at hi;rw[<- hc']
  congr 1
  simp only[bu];rw[bf,if_pos (by omega)]
 ·exact h.bx.ok c
theorem Rx {o:Oper}{l sz bytes:Nat}{s x:jK}(h:GX E I ρ n st a w)(hc:x9 P n o.op sz bytes s x=true)(hm:E.m<=l)(hs:(s.ev st.tm).g=true)(hx:(x.ev st.tm).g=true)
 (fH:(KC l sz bytes (bT st.tm s) (bT st.tm x) st.bx).vc):oG P E n o a w (st.mQ (KC l sz bytes (bT st.tm s) (bT st.tm x) st.bx).sets) (KC l sz bytes (bT st.tm s) (bT st.tm x) st.bx).v:=by
 unfold x9 at hc;split at hc
 ·rename_i s' x' t t' he;simp only[af,beq_iff_eq,decide_eq_true_eq]at hc;obtain⟨⟨⟨⟨c1,c2⟩,rfl⟩,h0⟩,ht⟩:=hc;have g1:=jl h c1 hs;have g2:=jl h c2 hx;split at ht
  ·rename_i e hte;split at ht
   ·rename_i i hi;simp only[af,beq_iff_eq]at ht;obtain⟨⟨rfl,rfl⟩,hz⟩:=ht;split at hz
    ·rename_i z hzero;simp only[af,beq_iff_eq]at hz;obtain⟨hzs,hz1⟩:=hz;have fin:∀{v:Value} {w':World},(fB #[t,t] o.type #[a.eval s',a.eval x']).run P w = .ok v w'->(execOp a.eval o).run P w = .ok (.value v) w':=by
      intro v w' hr;simp only[execOp,he,resolve,invoke,builtin,bF,aX,aN,je,aP,gV,hr]
     unfold KC at fH⊢;split at fH
     ·rename_i p ys hsrc;split at fH
      ·rename_i sz' e1;obtain⟨hp,hl,hbig⟩:=fH;rw[e1]at g1;obtain⟨v,w',ρ',hr,hg,hv⟩:=JI (P:=P) h (l:=l) (es:=[]) (ys:=ys) (b:=none) t o.type e i z hte hi rfl rfl hzero hzs hz1 h0 (BK hl) hm (.inl ⟨rfl,rfl,g1⟩) (src_ok h g2 hsrc hp) (by simpa using hbig);simp only[nY,lC,dh]at hg hv;exact⟨v,w',I,ρ',.inl (fin hr),hg,λ_=>hv⟩
      ·rename_i b m sz' e1;rw[e1]at g1;split at fH
       ·rename_i wz es hb;obtain⟨hp,hl,rfl,rfl,hmn,hbig,hbl⟩:=fH;have hlt:(es.take m).length=m:=(by simp;omega);have h':=h.pfx (m:=m) hb;have hl':(st.sN b (.dat i.size (es.take m))).bx l = .absent:=(by rw[dP.kX,if_neg (λe=>hbl e.symm)];exact BK hl);obtain⟨v,w',ρ',hr,hg,hv⟩:=JI (P:=P) h' (l:=l) (es:=es.take m) (ys:=ys) (b:=some b) t o.type e i z hte hi rfl rfl hzero hzs hz1 h0 hl' hm (.inr ⟨b,rfl,by rw[dP.kX,if_pos rfl],by rw[hlt];exact g1⟩) (src_ok h g2 hsrc hp) (by rw[hlt];exact hbig);rw[hlt]at hv;have hst:(((st.sN b (.dat i.size (es.take m))).sN b .dead).sN l (.dat i.size (es.take m++ys)))=((st.sN b .dead).sN l (.dat i.size (es.take m++ys))):=by
         apply dP.ext'
         ·rfl
         ·funext c;simp only[dP.kX];split
          ·rfl
          ·split<;>rfl
        simp only[hst]at hg;exact⟨v,w',I,ρ',.inl (fin hr),hg,λ_=>hv⟩
       ·exact fH.elim
      ·exact fH.elim
     ·exact fH.elim
    ·cases hz
   ·cases ht
  ·cases ht
 ·cases hc
def copyV (sz:Nat) (d x:AV) (bx:Nat->Box):FR:=match rU sz x bx with
    | some (p,ys)=>match d with
      | .one (.own b n sz')=>match bx b with
        |.dat wz es=>⟨p/\sz'=sz/\wz=sz/\n<=es.length,qh .i64 (bZ ys.length n:Nat),[(b,.dat sz (splice es 0 (ys.take n)))]⟩
        |_=>.bad
      |.one (.xh _)=>.ok (qh .i64 0)
      |_=>.bad
    |none=>.bad
def Bj (P:Program)(n:Nat)(op:Op)(sz:Nat)(d x:jK):Bool:=
 match op with
 |.call { callee:=.builtin .copy,args:=⟨[d',x']⟩,argTypes:=⟨[t,_]⟩ }=>gW n d' d&&gW n x' x&&Eb P t sz&&decide (0<sz)
 |_=>false
theorem aaF (t t' ty e:TypeId)(i:TypeInfo)(ht:P.underlying t=some (.slice e))(hi:P.info? e=some i)(kk m c:Nat)(cur:Array Value)(tg:TypeId)(hg:w.heap[kk]? = some (.cells cur tg (0,0)))
 (ad:Addr) (k c':Nat) (us:List Value) (hl:us.length=bZ k m*i.size) (hus:∀j u,us[j]? = some u->w.cell? (ad.add j)=some u) (h1:∀u∈us,u.oneCell'=true) (hfit:us.length<=cur.size) :
 (iQ #[t,t'] ty #[.slice (some ⟨kk,0,none⟩) m c,.slice (some ad) k c']).run P w = .ok (goInt (bZ k m:Nat)) (w.setRow kk (splice cur.toList 0 us).toArray):=by
 have hf:=run_firstCells_some (P:=P) w i.size (bZ k m) ad k c' us hl hus;have hst:=run_storeCells_at P kk 0 tg us 0 cur w hg (by simpa using hfit) h1;rw[sO]at hst;simp[iQ,run_underlying ht,sizeOf,typeInfo,hi,lT,hf,hst]
theorem BG (t t' ty e:TypeId)(i:TypeInfo)(ht:P.underlying t=some (.slice e))(hi:P.info? e=some i)(b:Option Addr)(m c:Nat)(ad:Option Addr)(k c':Nat)(h:bZ k m=0) :
 (iQ #[t,t'] ty #[.slice b m c,.slice ad k c']).run P w = .ok (goInt 0) w:=by
 have hf:(dO i.size 0 (.slice ad k c')).run P w = .ok #[] w:=by cases ad<;>simp[dO,loadCells,loadCellsFrom,aX]
 cases b<;>simp[iQ,run_underlying ht,sizeOf,typeInfo,hi,lT,h,hf,storeCells]
theorem VD {α:Type}(xs:List α):splice xs 0 []=xs:=by simp[splice]
theorem Fb {b:Nat}{x:Box}(h:st.bx b=x):st.sN b x=st:=by
 apply dP.ext'
 ·rfl
 ·funext c;rw[dP.kX];split
  ·rename_i e;rw[e,h]
  ·rfl
theorem XD {o:Oper}{sz:Nat}{d x:jK}(h:GX E I ρ n st a w)(hc:Bj P n o.op sz d x=true)(hd:(d.ev st.tm).g=true)(hx:(x.ev st.tm).g=true)
 (fH:(copyV sz (bT st.tm d) (bT st.tm x) st.bx).vc):oG P E n o a w (st.mQ (copyV sz (bT st.tm d) (bT st.tm x) st.bx).sets) (copyV sz (bT st.tm d) (bT st.tm x) st.bx).v:=by
 unfold Bj at hc;split at hc
 ·rename_i d' x' t t' he;simp only[af,decide_eq_true_eq]at hc;obtain⟨⟨⟨c1,c2⟩,ht⟩,h0⟩:=hc;have g1:=jl h c1 hd;have g2:=jl h c2 hx;obtain⟨e,i,hte,hi,rfl⟩:=wC ht;have fin:∀{v:Value} {w':World},(iQ #[t,t'] o.type #[a.eval d',a.eval x']).run P w = .ok v w'->(execOp a.eval o).run P w = .ok (.value v) w':=by
   intro v w' hr;simp only[execOp,he,resolve,invoke,builtin,bF,aX,aN,je,aP,gV,hr]
  unfold copyV at fH⊢;split at fH
  ·rename_i p ys hsrc;split at fH
   ·rename_i b m sz' e1;rw[e1]at g1;split at fH
    ·rename_i wz es hb;obtain⟨hp,rfl,rfl,hmn⟩:=fH;have hsrc':=src_ok h g2 hsrc hp;have hys:∀y,y∈ys->y.length=i.size:=(by obtain⟨_,_,_,_,h4,_⟩:=hsrc';exact h4);obtain⟨xb,xc,us,hxv,DI,hus,hxn,Ud⟩:=EI hsrc' h0;obtain⟨kk,cap,ad0,c,hr0,hsv,hnc,hcc,hcap⟩:=g1;have hok:=h.bx.ok b;rw[hb]at hok;obtain⟨YK,cap',hr',hle,hcm,hes,hcs⟩:=hok;rw[hr0]at hr';simp only[aG,bV]at hr';obtain⟨rfl,rfl⟩:=hr';by_cases hm0:bZ ys.length m=0
     ·have hr:=BG (P:=P) (w:=w) t t' o.type e i hte hi ad0 m c xb ys.length xc hm0;rw[<- hxv,<- hsv]at hr;have htk:ys.take m=[]:=by
       apply dK;rw[dW,xg];exact hm0
      rw[htk,VD];refine⟨_,w,I,ρ,.inl (fin hr),?_,λ_=>by rw[hm0];exact ve _ _⟩;show GX E I ρ n (st.sN b (.dat i.size es)) a w;rw[Fb hb];exact h
     ·have hmin:bZ ys.length m<=ys.length/\bZ ys.length m<=m:=⟨Nat.min_le_left _ _,Nat.min_le_right _ _⟩;have hc0:cap≠0:=(by omega);have Gi:=hcap hc0;subst Gi;obtain⟨ad,had⟩:∃ad,xb=some ad:=by
       cases hq:xb with
       |none=>have:=hxn hq;subst this;exact absurd rfl hm0
       |some ad=>exact⟨ad,rfl⟩
      subst had;obtain⟨cs,tg,hw,hs,ho,hrd⟩:=hcs hc0;have hmul:bZ ys.length m*i.size<=ys.length*i.size:=aC _ hmin.1;have Hq:bZ ys.length m*i.size<=cap*i.size:=aC _ (by omega);have hul:(us.take (bZ ys.length m*i.size)).length=bZ ys.length m*i.size:=(by simp;omega);have ZA:0+(us.take (bZ ys.length m*i.size)).length<=cs.toList.length:=(by have hq:cs.toList.length=cs.size:=iU;omega);have hr:=aaF (P:=P) (w:=w) t t' o.type e i hte hi kk m c cs tg hw ad ys.length xc (us.take (bZ ys.length m*i.size)) hul
       (λj u hu=>by
        rw[bf]at hu;split at hu
        ·exact hus ad rfl j u hu
        ·cases hu)
       (λu hu=>by obtain⟨j,hj⟩:=nH (dG hu);exact Ud.one j u hj) (by rw[hul];omega)
      rw[<- hxv,<- hsv]at hr;refine⟨_,_,I,ρ,.inl (fin hr),?_,λ_=>ve _ _⟩;have htl:(ys.take m).length=bZ ys.length m:=(by rw[dW,xg]);refine h.sN (b:=b) (k:=kk) (by rw[hb];exact⟨cap,hr0,hc0⟩) (.dat i.size (splice es 0 (ys.take m))) (λk' hk'=>?_) (Dh _ _ _) ?_ (by simp)
      ·obtain⟨c',hc',_⟩:=hk';rw[hr0]at hc';simp at hc';exact hc'.1.symm
      ·have hsl:(splice es 0 (ys.take m)).length=es.length:=length_splice _ _ _ (by rw[htl];omega);refine⟨kk,cap,hr0,by rw[hsl];exact hle,hcm,λy hy=>?_,λ_=>⟨_,tg,setRow_heap w kk cs _ tg _ hw,?_,?_,?_⟩⟩
       ·unfold splice at hy;simp only[vY,nY,aV]at hy;rcases hy with h1|h1
        ·exact hys y (dG h1)
        ·exact hes y (iR h1)
       ·simp only[kF];rw[length_splice _ _ _ ZA];simpa using hs
       ·intro j u hu;have hu:(splice cs.toList 0 (us.take (bZ ys.length m*i.size)))[j]? = some u:=(by simpa using hu);rw[kG _ _ _ _ ZA,if_neg (by omega)]at hu;split at hu
        ·rw[bf]at hu;split at hu
         ·exact Ud.one _ u hu
         ·cases hu
        ·exact ho j u (by simpa using hu)
       ·intro i' j cc zx;have key:∃u,(splice cs.toList 0 (us.take (bZ ys.length m*i.size)))[i'*i.size+j]? = some u/\Rd I u cc:=by
         have hi':=iL zx;rw[hsl]at hi';rw[kG _ _ _ _ ZA,if_neg (by omega),hul];have hget:(splice es 0 (ys.take m)).getD i' []=if i'<bZ ys.length m then ys.getD i' []else es.getD i' []:=by
          simp only[bu];rw[kG _ _ _ _ (by rw[htl];omega),if_neg (by omega),htl];by_cases hh:i'<bZ ys.length m
          ·rw[if_pos (by omega),if_pos hh,bf,if_pos (by omega)];rfl
          ·rw[if_neg (by omega),if_neg hh]
         rw[hget]at zx;by_cases hh:i'<bZ ys.length m
         ·rw[if_pos hh]at zx;obtain⟨u,hu,hr⟩:=Ud.rd i' j cc zx;have hj:j<i.size:=by
           have hyi:=iL zx;rw[<- hys (ys.getD i' []) (by simp[bu,aj hyi])];exact(ax.1 zx).1
          have:(i'+1)*i.size<=bZ ys.length m*i.size:=aC _ hh;rw[bg]at this;exact⟨u,by rw[if_pos (by omega),bf,if_pos (by omega)];simpa using hu,hr⟩
         ·rw[if_neg hh]at zx;obtain⟨u,hu,hr⟩:=hrd i' j cc zx;have:bZ ys.length m*i.size<=i'*i.size:=aC _ (by omega);exact⟨u,by rw[if_neg (by omega)];simpa using hu,hr⟩
        obtain⟨u,hu,hr⟩:=key;exact⟨u,by simpa using hu,hr⟩
    ·exact fH.elim
   ·rename_i sz' e1;rw[e1]at g1;have g1:a.eval d' = .slice none 0 0:=g1;have hgx:∃xb k xc,a.eval x' = .slice xb k xc:=by
     unfold rU at hsrc;split at hsrc
     ·rename_i e2;rw[e2]at g2;obtain⟨b,c,hv,_⟩:=acJ g2;exact⟨b,_,c,hv⟩
     ·rename_i e2;rw[e2]at g2;exact⟨none,0,0,g2⟩
     ·rename_i e2;rw[e2]at g2;obtain⟨k,cap,b,c,_,hv,_⟩:=g2;exact⟨b,_,c,hv⟩
     ·rename_i e2;rw[e2]at g2;obtain⟨k,cap,b,c,_,hv,_⟩:=g2;exact⟨b,_,c,hv⟩
     ·cases hsrc
    obtain⟨xb,k,xc,hxv⟩:=hgx;have hr:=BG (P:=P) (w:=w) t t' o.type e i hte hi none 0 0 xb k xc (Nat.min_zero k);rw[<- hxv,<- g1]at hr;exact⟨_,w,I,ρ,.inl (fin hr),h,λ_=>ve _ _⟩
   ·exact fH.elim
  ·exact fH.elim
 ·cases hc
end
end
section
section
variable {P:Program} {E:Env P} {I:IH} {ρ:Ren} {n:Nat} {st:dP} {a:Act} {w:World}
theorem Eh {v:Value}{x:AV}{b lo m sz:Nat}{c:Option Nat}(h:GV I ρ v x)(hs:yA x=some (b,lo,m,c,sz)) :
 ∃k cap ad c',ρ b=some (k,cap)/\v = .slice ad m c'/\m<=c'/\lo+c'<=cap/\(∀c0,c=some c0->c'=c0)/\(c'≠0\/(lo=0/\cap≠0)->ad=some ⟨k,lo*sz,none⟩):=by
 unfold yA at hs;split at hs
 ·simp only[aG,bV]at hs;obtain⟨rfl,rfl,rfl,rfl,rfl⟩:=hs;obtain⟨k,cap,ad,c',h1,h2,h3,h4,h5⟩:=h;refine⟨k,cap,ad,c',h1,h2,h3,by omega,(λ_ e=>by cases e),λhc=>?_⟩;rw[Nat.zero_mul];refine h5 ?_;rcases hc with hc|hc
  ·omega
  ·exact hc.2
 ·simp only[aG,bV]at hs;obtain⟨rfl,rfl,rfl,rfl,rfl⟩:=hs;exact h
 ·cases hs
def UI (n:Nat)(op:Op)(l:Bool)(x y:jK):Bool:=match op with|.binOp b _ x' y' _=>(match b with|.shl=>l|.shr=> !l|_=>false)&&gW n x' x&&gW n y' y|_=>false
theorem aaI {o:Oper}{l:Bool}{x y:jK}(h:GX E I ρ n st a w)(hc:UI n o.op l x y=true)(hx:(x.ev st.tm).g=true)(hy:(y.ev st.tm).g=true)
 (fH:(QW l (bT st.tm x) (bT st.tm y)).vc):o8 P E n o a w st (QW l (bT st.tm x) (bT st.tm y)).v:=by
 unfold UI at hc;split at hc
 ·rename_i b t x' y' t' he;simp only[af]at hc;obtain⟨⟨hb,h1⟩,h2⟩:=hc;have g1:=jl h h1 hx;have g2:=jl h h2 hy;unfold QW at fH⊢;split at fH
  ·rename_i k p k' q e1 e2;rw[e1]at g1;rw[e2]at g2;have v1:=rO g1;have v2:=rO g2;have hq:¬q<0:=(by simp only at fH;omega);have hg:=xH (P:=P) b t x' y' k p (.int k' q) w;cases b<;>simp only[jU]at hb
   ·subst hb;exact oG.val h (v:=.int k (k.wrap (p*2^(min q.toNat k.bits)))) (by simp[execOp,he,hg,v1,v2,binOp,Op.shift,hq]) (ve _ _)
   ·cases l
    ·exact oG.val h (v:=.int k (p.fdiv (2^(min q.toNat k.bits)))) (by simp[execOp,he,hg,v1,v2,binOp,Op.shift,hq]) (ve _ _)
    ·cases hb
  ·exact fH.elim
 ·cases hc
def PN (P:Program)(n:Nat)(op:Op)(x:jK):Bool:=
 match op with
 |.call { callee:=.builtin .cap,args:=⟨[x']⟩,argTypes:=⟨[t]⟩ }=>gW n x' x&&HY P t
 |_=>false
theorem Xw {o:Oper}{x:jK}(h:GX E I ρ n st a w)(hc:PN P n o.op x=true)(hx:(x.ev st.tm).g=true)(fH:(N7 (bT st.tm x)).vc):o8 P E n o a w st (N7 (bT st.tm x)).v:=by
 unfold PN at hc;split at hc
 ·rename_i x' t he;simp only[af]at hc;have g:=jl h hc.1 hx;obtain⟨e,ht⟩:=FN hc.2;unfold N7 at fH⊢;split at fH
  ·rename_i b lo m c sz e1;rw[e1]at g;obtain⟨k,cap,ad,c',hr,hv,hm,hcc,hcx,ha⟩:=g;have:=hcx c rfl;subst this;exact oG.val h (by simp[execOp,he,resolve,invoke,builtin,Builtin.cap_,run_underlying ht,hv,goInt]) (ve _ _)
  ·rename_i sz e1;rw[e1]at g;have g:a.eval x' = .slice none 0 0:=g;exact oG.val h (by simp[execOp,he,resolve,invoke,builtin,Builtin.cap_,run_underlying ht,g,goInt]) (ve _ _)
  ·exact fH.elim
 ·cases hc
def IU (P:Program)(n:Nat)(op:Op)(sz:Nat)(x:jK)(lo hi:Option jK):Bool:=match op with|.slice t x' lo' hi' none=>gW n x' x&&IM n lo' lo&&IM n hi' hi&&Eb P t sz|_=>false
theorem TM {o:Oper}{sz:Nat}{x:jK}{lo hi:Option jK}(h:GX E I ρ n st a w)(hc:IU P n o.op sz x lo hi=true)(hx:(x.ev st.tm).g=true)
 (hgl:∀x,x∈lo.toList->(x.ev st.tm).g=true) (hgh:∀x,x∈hi.toList->(x.ev st.tm).g=true)
 (fH:(um sz (bT st.tm x) (bnd (bT st.tm) lo 0) (bnd (bT st.tm) hi)).vc):o8 P E n o a w st (um sz (bT st.tm x) (bnd (bT st.tm) lo 0) (bnd (bT st.tm) hi)).v:=by
 unfold IU at hc;split at hc
 ·rename_i t x' lo' hi' he;simp only[af]at hc;have g1:=jl h hc.1.1.1 hx;obtain⟨e,ti,ht,hti,hsz⟩:=wC hc.2;unfold um at fH⊢;split at fH
  ·rename_i b l m c sz' hsb;split at fH
   ·rename_i p q e2 e3;obtain⟨rfl,h0,h1,h2⟩:=fH;obtain⟨k,cap,ad,c',hr,hv,hm,hcc,hcx,ha⟩:=Eh g1 hsb;have hqc:q<=c':=by
     cases c with
     |none=>simp only at h2;omega
     |some c0=>have:=hcx c0 rfl;simp only at h2;omega
    have b1:=BM h hc.1.1.2 hgl e2;have b2:=BM h hc.1.2 hgh e3;have hb:=xI (P:=P) (w:=w) true m c' (lo'.map a.eval) (hi'.map a.eval) (p:=p) (q:=q) (ER b1) (ER b2) h0 h1 hqc;have hrun:(execOp a.eval o).run P w = .ok (.value (.slice (if c'=p.toNat then ad else ad.map (·.add (p.toNat*sz'))) (q.toNat-p.toNat) (c'-p.toNat))) w:=by simp only[execOp,he,rE,vV,hv,ig];simp[run_underlying ht];rw[hb];simp[sizeOf,typeInfo,hti,hsz]
    refine oG.val h hrun ⟨k,cap,_,_,hr,by congr 1;omega,by omega,by omega,λc0 hc0=>?_,λzx=>?_⟩
    ·cases c with
     |none=>cases hc0
     |some c1=>have:=hcx c1 rfl;simp at hc0;omega
    ·by_cases hcp:c'=p.toNat
     ·rw[if_pos hcp];have hl0:l=0/\p.toNat=0/\cap≠0:=(by omega);have:=ha (.inr ⟨hl0.1,hl0.2.2⟩);rw[this,hl0.1,hl0.2.1]
     ·rw[if_neg hcp,ha (.inl (by omega))];simp only[iH];rw[Addr.l7,bg]
   ·exact fH.elim
  ·exact fH.elim
 ·cases hc
theorem TI (len cap:Nat){k1 k2 k3:IntKind}{p q m:Int}(h0:0<=p)(h1:p<=q)(h2:q<=m)(h3:m<=cap) :
 (rZ true len cap (some (.int k1 p)) (some (.int k2 q)) (some (.int k3 m))).run P w = .ok (p.toNat,q.toNat,m.toNat) w:=by
 simp (disch:=omega) [rZ,run_sliceBound]
def UJ (P:Program)(n:Nat)(op:Op)(sz:Nat)(x p q m:jK):Bool:=match op with|.slice t x' (some p') (some q') (some m')=>gW n x' x&&gW n p' p&&gW n q' q&&gW n m' m&&Eb P t sz|_=>false
theorem aaJ {o:Oper}{sz:Nat}{x p q m:jK}(h:GX E I ρ n st a w)(hc:UJ P n o.op sz x p q m=true)(hx:(x.ev st.tm).g=true)(hp:(p.ev st.tm).g=true)(hq:(q.ev st.tm).g=true)(hm:(m.ev st.tm).g=true)
 (fH:(EE sz (bT st.tm x) (bT st.tm p) (bT st.tm q) (bT st.tm m)).vc):o8 P E n o a w st (EE sz (bT st.tm x) (bT st.tm p) (bT st.tm q) (bT st.tm m)).v:=by
 unfold UJ at hc;split at hc
 ·rename_i t x' p' q' m' he;simp only[af]at hc;obtain⟨⟨⟨⟨c1,c2⟩,c3⟩,c4⟩,c5⟩:=hc;have g1:=jl h c1 hx;have g2:=jl h c2 hp;have g3:=jl h c3 hq;have g4:=jl h c4 hm;obtain⟨e,ti,ht,hti,hsz⟩:=wC c5;unfold EE at fH⊢;split at fH
  ·rename_i b l len c sz' k1 p0 k2 q0 k3 m0 hsb e2 e3 e4;obtain⟨rfl,h0,h1,h2,h3⟩:=fH;rw[e2]at g2;rw[e3]at g3;rw[e4]at g4;have v2:=rO g2;have v3:=rO g3;have v4:=rO g4;obtain⟨k,cap,ad,c',hr,hv,hlm,hcc,hcx,ha⟩:=Eh g1 hsb;have hmc:m0<=c':=by
    cases c with
    |none=>simp only at h3;omega
    |some c0=>have:=hcx c0 rfl;simp only at h3;omega
   have hb:=TI (P:=P) (w:=w) len c' (k1:=k1) (k2:=k2) (k3:=k3) h0 h1 h2 hmc;refine oG.val h (v:=.slice (if m0.toNat=p0.toNat then ad else ad.map (·.add (p0.toNat*sz'))) (q0.toNat-p0.toNat) (m0.toNat-p0.toNat)) ?_ rfl;simp only[execOp,he,rE,vV,hv,iH,v2,v3,v4];simp[run_underlying ht];rw[hb];simp[sizeOf,typeInfo,hti,hsz]
  ·exact fH.elim
 ·cases hc
theorem I7 {α:Type}(xs ys:List α)(off j:Nat)(h:off<=xs.length):(splice xs off ys)[j]? = if j<off then xs[j]? else if j<off+ys.length then ys[j-off]? else xs[j]?:=by
 unfold splice;have h1:(xs.take off).length=off:=by simp;omega
 by_cases hj:j<off
 ·rw[if_pos hj,qM,aU (by omega),bf,if_pos hj]
 ·rw[if_neg hj,qM,bJ (by omega),h1];by_cases hk:j<off+ys.length
  ·rw[if_pos hk,aU (by omega)]
  ·rw[if_neg hk,bJ (by omega),dA]
   congr 1;omega
theorem QO (h:GX E I ρ n st a w){b kk cap sz lo:Nat}{es ys:List (List Cell)}{us:List Value}(hb:st.bx b = .dat sz es)(hr:ρ b=some (kk,cap))(h0:0<sz)(hlo:lo<=es.length)(hfit:lo+ys.length<=cap)
 (hc0:cap≠0) (hys:∀y,y∈ys->y.length=sz) (hul:us.length=ys.length*sz) (hd:DC I us sz ys) :
 ∃cs tg,w.heap[kk]? = some (.cells cs tg (0,0))/\cs.size=cap*sz/\GX E I ρ n (st.sN b (.dat sz (splice es lo ys))) a (w.setRow kk (splice cs.toList (lo*sz) us).toArray):=by
 have hok:=h.bx.ok b;rw[hb]at hok;obtain⟨YK,cap',hr',hle,hcm,hes,hcs⟩:=hok;rw[hr]at hr';simp only[aG,bV]at hr';obtain⟨rfl,rfl⟩:=hr';obtain⟨cs,tg,hw,hs,ho,hrd⟩:=hcs hc0;refine⟨cs,tg,hw,hs,?_⟩;have hmul:(lo+ys.length)*sz<=cap*sz:=aC _ hfit;rw[bg]at hmul;have ZB:lo*sz+us.length<=cs.toList.length:=by have hq:cs.toList.length=cs.size:=iU;omega
 have hlen:(splice es lo ys).length<=cap:=by unfold splice;simp;omega
 refine h.sN (b:=b) (k:=kk) (by rw[hb];exact⟨cap,hr,hc0⟩) (.dat sz (splice es lo ys)) (λk' hk'=>?_) (Dh _ _ _) ?_ (by simp)
 ·obtain⟨c',hc',_⟩:=hk';rw[hr]at hc';simp at hc';exact hc'.1.symm
 ·refine⟨kk,cap,hr,hlen,hcm,λy hy=>?_,λ_=>⟨_,tg,setRow_heap w kk cs _ tg _ hw,?_,?_,?_⟩⟩
  ·unfold splice at hy;simp only[aV]at hy;rcases hy with(h1|h1)|h1
   ·exact hes y (dG h1)
   ·exact hys y h1
   ·exact hes y (iR h1)
  ·simp only[kF];rw[length_splice _ _ _ ZB];simpa using hs
  ·intro j u hu;have hu:(splice cs.toList (lo*sz) us)[j]? = some u:=(by simpa using hu);rw[kG _ _ _ _ ZB]at hu;split at hu
   ·exact ho j u (by simpa using hu)
   ·split at hu
    ·exact hd.one _ u hu
    ·exact ho j u (by simpa using hu)
  ·intro i' j cc zx;have key:∃u,(splice cs.toList (lo*sz) us)[i'*sz+j]? = some u/\Rd I u cc:=by
    have hget:(splice es lo ys).getD i' []=if i'<lo then es.getD i' []else if i'<lo+ys.length then ys.getD (i'-lo) []else es.getD i' []:=by
     simp only[bu];rw[I7 _ _ _ _ hlo];split
     ·rfl
     ·split<;>rfl
    rw[hget]at zx;rw[kG _ _ _ _ ZB];by_cases h1:i'<lo
    ·rw[if_pos h1]at zx;obtain⟨u,hu,hr'⟩:=hrd i' j cc zx;have hi':=iL zx;have hj:j<sz:=(by rw[<- hes (es.getD i' []) (by simp[bu,aj hi'])];exact(ax.1 zx).1);have:(i'+1)*sz<=lo*sz:=aC _ h1;rw[bg]at this;exact⟨u,by rw[if_pos (by omega)];simpa using hu,hr'⟩
    ·rw[if_neg h1]at zx;by_cases h2:i'<lo+ys.length
     ·rw[if_pos h2]at zx;obtain⟨u,hu,hr'⟩:=hd.rd (i'-lo) j cc zx;have hyi:=iL zx;have hj:j<sz:=(by rw[<- hys (ys.getD (i'-lo) []) (by simp[bu,aj hyi])];exact(ax.1 zx).1);have e1:lo*sz<=i'*sz:=aC _ (by omega);have e2:(i'-lo)*sz=i'*sz-lo*sz:=Nat.sub_mul _ _ _;have e3:(i'-lo+1)*sz<=ys.length*sz:=aC _ (by omega);rw[bg]at e3;exact⟨u,by rw[if_neg (by omega),if_pos (by omega),<- hu];congr 1;omega,hr'⟩
     ·rw[if_neg h2]at zx;obtain⟨u,hu,hr'⟩:=hrd i' j cc zx;have e1:(lo+ys.length)*sz<=i'*sz:=aC _ (by omega);rw[bg]at e1;exact⟨u,by rw[if_neg (by omega),if_neg (by omega)];simpa using hu,hr'⟩
   obtain⟨u,hu,hr'⟩:=key;exact⟨u,by simpa using hu,hr'⟩
theorem EG {α:Type}(xs:List α)(k:Nat)(h:k<=xs.length):splice xs k []=xs:=by simp[splice]
theorem Yl (t t' ty e:TypeId)(i:TypeInfo)(ht:P.underlying t=some (.slice e))(hi:P.info? e=some i)(kk off m c:Nat)(cur:Array Value)(tg:TypeId)(hg:w.heap[kk]? = some (.cells cur tg (0,0)))
 (ad:Addr) (k c':Nat) (us:List Value) (hl:us.length=bZ k m*i.size) (hus:∀j u,us[j]? = some u->w.cell? (ad.add j)=some u) (h1:∀u∈us,u.oneCell'=true) (hfit:off+us.length<=cur.size) :
 (iQ #[t,t'] ty #[.slice (some ⟨kk,off,none⟩) m c,.slice (some ad) k c']).run P w = .ok (goInt (bZ k m:Nat)) (w.setRow kk (splice cur.toList off us).toArray):=by
 have hf:=run_firstCells_some (P:=P) w i.size (bZ k m) ad k c' us hl hus;have hst:=run_storeCells_at P kk off tg us 0 cur w hg (by simpa using hfit) h1;rw[sO]at hst;simp[iQ,run_underlying ht,sizeOf,typeInfo,hi,lT,hf,hst]
theorem Yy (h:GX E I ρ n st a w){v:Value}{x:AV}{sz m:Nat}{p:Prop}{ys:List (List Cell)}(hv:GV I ρ v x)(hs:rU sz (truncS m x) st.bx=some (p,ys))(hp:p) :
 ∃xb kx xc,v = .slice xb kx xc/\bZ ys.length m=bZ kx m/\Src I w (.slice xb ys.length xc) sz ys:=by
 have other:truncS m x=x->∃xb kx xc,v = .slice xb kx xc/\bZ ys.length m=bZ kx m/\Src I w (.slice xb ys.length xc) sz ys:=by intro e;rw[e]at hs;have hS:=src_ok h hv hs hp;obtain⟨b,cap,hvv,hr⟩:=hS;exact⟨b,ys.length,cap,hvv,rfl,b,cap,rfl,hr⟩
 rcases x with c|_|_
 ·cases c
  case sub b lo n' c sz'=>obtain⟨k,cap,ad,c',h1,h2,h3,h4,h5⟩:=hv;subst h2;have hg:GV I ρ (.slice ad (min n' m) c') (.one (.sub b lo (min n' m) c sz')):=⟨k,cap,ad,c',h1,rfl,by omega,h4,h5⟩;have hS:=src_ok h hg hs hp;obtain⟨b',cap',hvv,hr⟩:=hS;simp only[Value.slice.injEq]at hvv;obtain⟨rfl,e2,rfl⟩:=hvv;refine⟨ad,n',c',rfl,?_,ad,c',rfl,hr⟩;show min ys.length m=min n' m;omega
  all_goals exact other rfl
 all_goals exact other rfl
theorem Yq {o:Oper}{sz:Nat}{d x:jK}(h:GX E I ρ n st a w)(hc:Bj P n o.op sz d x=true)(hd:(d.ev st.tm).g=true)(hx:(x.ev st.tm).g=true)
 (fH:(zU sz (bT st.tm d) (bT st.tm x) st.bx).vc):oG P E n o a w (st.mQ (zU sz (bT st.tm d) (bT st.tm x) st.bx).sets) (zU sz (bT st.tm d) (bT st.tm x) st.bx).v:=by
 unfold Bj at hc;split at hc
 ·rename_i d' x' t t' he;simp only[af,decide_eq_true_eq]at hc;obtain⟨⟨⟨c1,c2⟩,ht⟩,h0⟩:=hc;have g1:=jl h c1 hd;have g2:=jl h c2 hx;obtain⟨e,i,hte,hi,rfl⟩:=wC ht;have fin:∀{v:Value} {w':World},(iQ #[t,t'] o.type #[a.eval d',a.eval x']).run P w = .ok v w'->(execOp a.eval o).run P w = .ok (.value v) w':=by
   intro v w' hr;simp only[execOp,he,resolve,invoke,builtin,bF,aX,aN,je,aP,gV,hr]
  unfold zU at fH⊢;split at fH
  ·rename_i b lo m c0 sz' hsb;split at fH
   ·rename_i p ys hsrc;split at fH
    ·rename_i wz es hb;obtain⟨hp,rfl,rfl,hlo⟩:=fH;obtain⟨xb0,kx,xc0,aeW,hmk,hsrc'⟩:=Yy h g2 hsrc hp;have hys:∀y,y∈ys->y.length=i.size:=(by obtain⟨_,_,_,_,h4,_⟩:=hsrc';exact h4);obtain⟨xb,xc,us,hxv,DI,hus,hxn,Ud⟩:=EI hsrc' h0;cases hxv;obtain⟨kk,cap,ad0,c,hr0,hsv,hnc,hcc,_,hcap⟩:=Eh g1 hsb;by_cases hm0:bZ ys.length m=0
     ·have hr:=BG (P:=P) (w:=w) t t' o.type e i hte hi ad0 m c xb0 kx xc0 (hmk.symm.trans hm0);rw[<- aeW,<- hsv]at hr;have htk:ys.take m=[]:=by
       apply dK;rw[dW,xg];exact hm0
      rw[htk,EG _ _ hlo];refine⟨_,w,I,ρ,.inl (fin hr),?_,λ_=>by rw[hm0];exact ve _ _⟩;show GX E I ρ n (st.sN b (.dat i.size es)) a w;rw[Fb hb];exact h
     ·have hmin:bZ ys.length m<=ys.length/\bZ ys.length m<=m:=⟨Nat.min_le_left _ _,Nat.min_le_right _ _⟩;have Gi:=hcap (.inl (by omega));subst Gi;obtain⟨ad,had⟩:∃ad,xb0=some ad:=by
       cases hq:xb0 with
       |none=>have:=hxn hq;subst this;exact absurd rfl hm0
       |some ad=>exact⟨ad,rfl⟩
      subst had;have htl:(ys.take m).length=bZ ys.length m:=(by rw[dW,xg]);have hmul:bZ ys.length m*i.size<=ys.length*i.size:=aC _ hmin.1;have hul:(us.take (bZ ys.length m*i.size)).length=bZ ys.length m*i.size:=(by simp;omega);have hdt:DC I (us.take (bZ ys.length m*i.size)) i.size (ys.take m):=by
       refine⟨λj u hu=>?_,λi' j cc zx=>?_⟩
       ·rw[bf]at hu;split at hu
        ·exact Ud.one _ u hu
        ·cases hu
       ·have hi':=iL zx;rw[htl]at hi';have adl:(ys.getD i' [])[j]? = some cc:=by
         rw[<- zx];congr 1;simp only[bu];rw[bf,if_pos (by omega)]
        obtain⟨u,hu,hr⟩:=Ud.rd i' j cc adl;have hyi:=iL adl;have hj:j<i.size:=(by rw[<- hys (ys.getD i' []) (by simp[bu,aj hyi])];exact(ax.1 adl).1);have:(i'+1)*i.size<=bZ ys.length m*i.size:=aC _ hi';rw[bg]at this;exact⟨u,by rw[bf,if_pos (by omega)];exact hu,hr⟩
      obtain⟨cs,tg,hw,hs,hg⟩:=QO h hb hr0 h0 hlo (ys:=ys.take m) (us:=us.take (bZ ys.length m*i.size)) (by rw[htl];omega) (by omega) (λy hy=>hys y (dG hy)) (by rw[hul,htl]) hdt;have Hq:(lo+bZ ys.length m)*i.size<=cap*i.size:=aC _ (by omega);rw[bg]at Hq;have hr:=Yl (P:=P) (w:=w) t t' o.type e i hte hi kk (lo*i.size) m c cs tg hw ad kx xc0 (us.take (bZ ys.length m*i.size)) (hmk▸hul)
       (λj u hu=>by
        rw[bf]at hu;split at hu
        ·exact hus ad rfl j u hu
        ·cases hu)
       (λu hu=>by obtain⟨j,hj⟩:=nH (dG hu);exact Ud.one j u hj) (by rw[hul,hs];exact Hq)
      rw[<- aeW,<- hsv]at hr;exact⟨_,_,I,ρ,.inl (fin hr),hg,λ_=>by rw[<- hmk];exact ve _ _⟩
    ·exact fH.elim
   ·exact fH.elim
  ·exact fH.elim
 ·cases hc
def G8 (P:Program)(n:Nat)(op:Op)(sz:Nat)(zs:List Cell)(x:jK):Bool:=
 match op with
 | .call { callee:=.builtin .clear,args:=⟨[x']⟩,argTypes:=⟨[t]⟩ }=>gW n x' x&&decide (0<sz)&&zs.length==sz&&(match P.underlying t with
   |some (.slice e)=>(match P.info? e with|some i=>i.size==sz&&(match i.zero with|some z=>z.cells.size==sz&&Dn z.cells.toList zs|none=>false)|none=>false)
   |_=>false)
 |_=>false
theorem JG {zs:List Cell}{z:Array Value}{sz m:Nat}(hz:Dn z.toList zs=true)(hzs:z.size=sz)(hl:zs.length=sz)(h0:0<sz) :
 (bM z m).toList.length=m*sz/\DC I (bM z m).toList sz (aY m zs):=by
 have hsz:(bM z m).size=m*sz:=by simp[bM,hzs]
 refine⟨by simpa using hsz,?_⟩;have rc:=Jq (I:=I) (N:=m*sz) (m:=m) hz hl h0 (aA _) (cs:=(nP (m*sz)).map (z[· % z.size]!)) rfl;have he:(bM z m)=(nP (m*sz)).map (z[· % z.size]!):=by unfold bM;rw[hzs]
 rw[he];exact⟨λj u hu=>rc.1 j u (by rw[oI]at hu;exact hu),λi' j c hc=>by obtain⟨u,hu,hr⟩:=rc.2 i' j c hc;exact⟨u,by rw[oI];exact hu,hr⟩⟩
theorem Yp {o:Oper}{sz:Nat}{zs:List Cell}{x:jK}(h:GX E I ρ n st a w)(hc:G8 P n o.op sz zs x=true)(hx:(x.ev st.tm).g=true)
 (fH:(zT sz zs (bT st.tm x) st.bx).vc):oG P E n o a w (st.mQ (zT sz zs (bT st.tm x) st.bx).sets) (zT sz zs (bT st.tm x) st.bx).v:=by
 unfold G8 at hc;split at hc
 ·rename_i x' t he;simp only[af,decide_eq_true_eq,beq_iff_eq]at hc;obtain⟨⟨⟨c1,h0⟩,hzl⟩,ht⟩:=hc;have g1:=jl h c1 hx;split at ht
  ·rename_i e hte;split at ht
   ·rename_i i hi;simp only[af,beq_iff_eq]at ht;obtain⟨hisz,hz⟩:=ht;split at hz
    ·rename_i z hzero;simp only[af,beq_iff_eq]at hz;obtain⟨hzs,hzd⟩:=hz;have fin:∀{v:Value} {w':World},(xx #[t] o.type #[a.eval x']).run P w = .ok v w'->(execOp a.eval o).run P w = .ok (.value v) w':=by
      intro v w' hr;simp only[execOp,he,resolve,invoke,builtin,bF,aX,aN,je,aP,gV,hr]
     unfold zT at fH⊢;split at fH
     ·rename_i b lo m c0 sz' hsb;split at fH
      ·rename_i wz es hb;obtain⟨rfl,rfl,hlo⟩:=fH;obtain⟨kk,cap,ad0,c,hr0,hsv,hnc,hcc,_,hcap⟩:=Eh g1 hsb;have aeU:∀{ρ':Ren},GV I ρ' (.tuple #[]) (.wF []):=λ{ρ'}=>⟨#[],rfl,rfl,λj v p hv hp=>by simp at hp⟩;by_cases hm0:m=0
       ·subst hm0;rw[List.replicate_zero,EG _ _ hlo];refine⟨.tuple #[],w,I,ρ,.inl (fin ?_),?_,λ_=>aeU⟩
        ·rw[hsv];cases ad0<;>simp[xx,run_underlying hte]
        ·show GX E I ρ n (st.sN b (.dat wz es)) a w;rw[Fb hb];exact h
       ·have Gi:=hcap (.inl (by omega));subst Gi;obtain⟨adx,abO⟩:=JG (I:=I) (m:=m) hzd hzs hzl h0;obtain⟨cs,tg,hw,hs,hg⟩:=QO h hb hr0 h0 hlo (ys:=aY m zs) (us:=(bM z.cells m).toList) (by simp;omega) (by omega) (λy hy=>by rw[nK hy,hzl]) (by simpa using adx) abO;have Hq:(lo+m)*wz<=cap*wz:=aC _ (by omega);rw[bg]at Hq;have hst:=run_storeCells_at P kk (lo*wz) tg (bM z.cells m).toList 0 cs w hw (by rw[adx];simpa[hs]using Hq) (λu hu=>by obtain⟨j,hj⟩:=nH hu;exact abO.one j u hj);rw[sO]at hst;obtain⟨m',rfl⟩:∃m',m=m'+1:=⟨m-1,by omega⟩;refine⟨.tuple #[],_,I,ρ,.inl (fin ?_),hg,λ_=>aeU⟩;rw[hsv];simp[xx,run_underlying hte,zeroValue,typeInfo,hi,hzero,hst]
      ·exact fH.elim
     ·exact fH.elim
    ·cases hz
   ·cases ht
  ·cases ht
 ·cases hc
theorem Og (t ty e tg:TypeId)(i:TypeInfo)(ht:P.underlying t=some (.slice e))(hi:P.info? e=some i)
 (g off sLen sCap:Nat) (cur:Array Value) (hg:w.heap[g]? = some (.cells cur tg (0,0)))
 (ad:Addr) (m c:Nat) (news:List Value) (hl:news.length=m*i.size) (hnews:∀j u,news[j]? = some u->w.cell? (ad.add j)=some u) (h1:∀u∈news,u.oneCell'=true)
 (hroom:sLen+m<=sCap) (hfit:off+sLen*i.size+news.length<=cur.size) :
 (fB #[t,t] ty #[.slice (some ⟨g,off,none⟩) sLen sCap,.slice (some ad) m c]).run P w =
  .ok (.slice (some ⟨g,off,none⟩) (sLen+m) sCap) (w.setRow g (splice cur.toList (off+sLen*i.size) news).toArray):=by
 have hf:=run_firstCells_some (P:=P) w i.size m ad m c news hl hnews;have hst:=run_storeCells_at P g (off+sLen*i.size) tg news 0 cur w hg (by simpa using hfit) h1;rw[sO]at hst;simp[fB,run_underlying ht,sizeOf,typeInfo,hi,lT,hroom,hf,Addr.l7,hst]
theorem Yo {o:Oper}{l sz bytes:Nat}{s x:jK}(h:GX E I ρ n st a w)(hc:x9 P n o.op sz bytes s x=true)(hm:E.m<=l)(hs:(s.ev st.tm).g=true)(hx:(x.ev st.tm).g=true)
 (fH:(zQ l sz bytes (bT st.tm s) (bT st.tm x) st.bx).vc):oG P E n o a w (st.mQ (zQ l sz bytes (bT st.tm s) (bT st.tm x) st.bx).sets) (zQ l sz bytes (bT st.tm s) (bT st.tm x) st.bx).v:=by
 unfold x9 at hc;split at hc
 ·rename_i s' x' t t' he;simp only[af,beq_iff_eq,decide_eq_true_eq]at hc;obtain⟨⟨⟨⟨c1,c2⟩,rfl⟩,h0⟩,ht⟩:=hc;have g1:=jl h c1 hs;have g2:=jl h c2 hx;split at ht
  ·rename_i e hte;split at ht
   ·rename_i i hi;simp only[af,beq_iff_eq]at ht;obtain⟨⟨rfl,rfl⟩,hz⟩:=ht;split at hz
    ·rename_i z hzero;simp only[af,beq_iff_eq]at hz;obtain⟨hzs,hz1⟩:=hz;have fin:∀{v:Value} {w':World},(fB #[t,t] o.type #[a.eval s',a.eval x']).run P w = .ok v w'->(execOp a.eval o).run P w = .ok (.value v) w':=by
      intro v w' hr;simp only[execOp,he,resolve,invoke,builtin,bF,aX,aN,je,aP,gV,hr]
     unfold zQ at fH⊢;split at fH
     ·rename_i p ys b lo m c sz' hsrc e1;split at fH
      ·rename_i wz es hb;obtain⟨kk,cap,ad0,c',hr0,hsv,hnc,hcc,hcx,hcap⟩:=Eh (c:=some c) (b:=b) (lo:=lo) (m:=m) (sz:=sz') g1 (by rw[e1];rfl);have:=hcx c rfl;subst this;split at fH
       ·rename_i hroom;rw[if_pos hroom];obtain⟨hp,rfl,rfl,hlo⟩:=fH;have hsrc':=src_ok h g2 hsrc hp;have hys:∀y,y∈ys->y.length=i.size:=(by obtain⟨_,_,_,_,h4,_⟩:=hsrc';exact h4);obtain⟨xb,xc,us,hxv,DI,hus,hxn,Ud⟩:=EI hsrc' h0;by_cases hm0:ys.length=0
        ·have hy0:ys=[]:=dK hm0;subst hy0;rw[EG _ _ hlo];have hr:=zD (P:=P) (w:=w) t o.type e i hte hi ad0 m c' hnc xb xc;rw[lC]at hxv;rw[<- hxv,<- hsv]at hr;refine⟨_,w,I,ρ,.inl (fin hr),?_,λ_=>⟨kk,cap,ad0,c',hr0,hsv,by simpa using hnc,hcc,(λc0 hc0=>by cases hc0;rfl),hcap⟩⟩;show GX E I ρ n (st.sN b (.dat i.size es)) a w;rw[Fb hb];exact h
        ·have Gi:=hcap (.inl (by omega));subst Gi;obtain⟨ad,had⟩:∃ad,xb=some ad:=by
          cases hq:xb with
          |none=>exact absurd (by rw[hxn hq];rfl) hm0
          |some ad=>exact⟨ad,rfl⟩
         subst had;obtain⟨cs,tg,hw,hss,hg⟩:=QO h hb hr0 h0 hlo (ys:=ys) (us:=us) (by omega) (by omega) hys DI Ud;have Hq:(lo+m+ys.length)*i.size<=cap*i.size:=aC _ (by omega);simp only[bg]at Hq;have hr:=Og (P:=P) (w:=w) t o.type e tg i hte hi kk (lo*i.size) m c' cs hw ad ys.length xc us DI (hus ad rfl) (λu hu=>by obtain⟨j,hj⟩:=nH hu;exact Ud.one j u hj) hroom (by rw[DI,hss];exact Hq);rw[<- hxv,<- hsv,<- bg]at hr;exact⟨_,_,I,ρ,.inl (fin hr),hg,λ_=>⟨kk,cap,_,c',hr0,rfl,hroom,hcc,(λc0 hc0=>by cases hc0;rfl),λ_=>rfl⟩⟩
       ·rename_i hroom;rw[if_neg hroom];obtain⟨hp,rfl,rfl,hlo,hl,hbig⟩:=fH;have hsrc':=src_ok h g2 hsrc hp;have hys:∀y,y∈ys->y.length=i.size:=(by obtain⟨_,_,_,_,h4,_⟩:=hsrc';exact h4);obtain⟨xb,xc,us,hxv,DI,hus,hxn,Ud⟩:=EI hsrc' h0;have hok:=h.bx.ok b;rw[hb]at hok;obtain⟨YK,cap',hr',hle,hcm,hes,hcs⟩:=hok;rw[hr0]at hr';simp only[aG,bV]at hr';obtain⟨rfl,rfl⟩:=hr';have hmul:(m+ys.length)*(i.bytes+i.size+1)=(m+ys.length)*i.bytes+(m+ys.length)*i.size+(m+ys.length):=(by rw[sV,sV,Be]);have hbytes:(m+ys.length)*i.bytes<=140737488355328:=(by omega);have h63:m+ys.length<=maxLen:=(by simp only[maxLen];omega);have hm0:ys.length≠0:=(by omega);obtain⟨ad,had⟩:∃ad,xb=some ad:=by
         cases hq:xb with
         |none=>exact absurd (by rw[hxn hq];rfl) hm0
         |some ad=>exact⟨ad,rfl⟩
        subst had;have hzc:∀(q:Nat) (j:Nat) (u:Value),(bM z.cells q).toList[j]? = some u->u.oneCell'=true:=by
         intro q j u hu;simp only[bM,oI,jT]at hu;by_cases hj:j<q*z.cells.size
         ·rw[kC,if_pos hj]at hu;simp only[iH,aG]at hu;have hlt:j%z.cells.size<z.cells.size:=uy _ (by omega);rw[getElem!_pos z.cells _ hlt]at hu;rw[<- hu];exact aH.1 hz1 _ (by simp)
         ·rw[kC,if_neg hj]at hu;cases hu
        have hl':=BK hl;have hsub:∀y,y∈(es.drop lo).take m->y.length=i.size:=λy hy=>hes y (iR (dG hy));have hsl:((es.drop lo).take m).length=m:=(by simp;omega);have fresh:∀(old:Nat) (olds:List Value),old<m+ys.length->olds.length=m*i.size->DC I olds i.size ((es.drop lo).take m) ->
         GX E I (ρ.set l w.heap.size (grownCap w (m+ys.length) old e)) n (st.sN l (.dat i.size ((es.drop lo).take m++ys))) a
          (w.drew.alloc (.cells (olds.toArray++us.toArray++bM z.cells (grownCap w (m+ys.length) old e-(m+ys.length))) e)):=by
         intro old olds ho hol hdo;have hge:=grownCap_ge w (m+ys.length) old e;have hcm:grownCap w (m+ys.length) old e<=maxLen:=grownCap_le_maxLen w _ old e h63;have hdc:=((hdo.append Ud (by rw[hsl];exact hol)).more (hzc (grownCap w (m+ys.length) old e-(m+ys.length)))).WV (cs:=olds.toArray++us.toArray++bM z.cells (grownCap w (m+ys.length) old e-(m+ys.length))) (by simp);refine EZ h.drew hl' hm _ e _ i.size ((es.drop lo).take m++ys) ?_ (by rw[iM,hsl];exact hge) hcm (λx hx=>?_) hdc.1 hdc.2
         ·simp only[uC,kF,size_zeroCells,hzs,hol,DI,<- bg]
          congr 1
          omega
         ·rcases aV.1 hx with h1|h1
          ·exact hsub x h1
          ·exact hys x h1
        have hfit:=growslice_fits (need:=m+ys.length) (old:=c') (bytes:=i.bytes) (by omega) hbytes;by_cases hc0:c'=0
        ·
         have ads:m=0:=(by omega);subst ads;subst hc0;have hf:=fresh 0 [] (by omega) (by simp) ⟨by simp,by simp⟩;simp only[dh,pX]at hf h63 hbytes hfit;cases ad0 with
         | none=>have hr:=run_append_nil (P:=P) w t o.type e i z hte hi hzero ad ys.length xc us DI (hus ad rfl) (by omega) (by simp only[maxLen]at h63;omega) (by omega);rw[<- hxv,<- hsv]at hr;refine⟨_,_,I,_,.inl (fin hr),hf,λ_=>⟨w.heap.size,_,_,_,Ren.jM _ _ _ _,by rw[dh],by rw[dh];exact grownCap_ge w ys.length 0 e,aA _,λ_=>rfl⟩⟩
         | some q=>have hr:=run_append_grow (P:=P) w t o.type e i z hte hi hzero q 0 0 [] (by simp) (by simp) ad ys.length xc us DI (hus ad rfl) (by omega) (by simp only[maxLen]at h63;omega) (by simpa using hfit);rw[<- hxv,<- hsv]at hr;simp only[dh,pX]at hr;refine⟨_,_,I,_,.inl (fin hr),hf,λ_=>⟨w.heap.size,_,_,_,Ren.jM _ _ _ _,by rw[dh],by rw[dh];exact grownCap_ge w ys.length 0 e,aA _,λ_=>rfl⟩⟩
        ·have Gi:=hcap (.inl hc0);subst Gi;have hcap0:cap≠0:=(by omega);obtain⟨cs,tg,hw,hss,ho,hrd⟩:=hcs hcap0;have hmn:(lo+m)*i.size<=cs.size:=(by rw[hss];exact aC _ (by omega));rw[bg]at hmn;have SA:((cs.toList.drop (lo*i.size)).take (m*i.size)).length=m*i.size:=(by simp;omega);have holds:∀(j:Nat) (u:Value),((cs.toList.drop (lo*i.size)).take (m*i.size))[j]? = some u->w.cell? ((⟨kk,lo*i.size,none⟩:Addr).add j)=some u:=λj u hu=>by
          rw[bf]at hu;split at hu
          ·rw[Addr.l7];rw[dA]at hu;simp at hu;simp[dR,hw,hu]
          ·cases hu
         have hd1:DC I ((cs.toList.drop (lo*i.size)).take (m*i.size)) i.size ((es.drop lo).take m):=by
          refine⟨λj u hu=>?_,λi' j c2 hc2=>?_⟩
          ·rw[bf]at hu;split at hu
           ·rw[dA]at hu;exact ho _ u (by simpa using hu)
           ·cases hu
          ·have hi':=iL hc2;rw[hsl]at hi';have hc3:(es.getD (lo+i') [])[j]? = some c2:=by
            rw[<- hc2];congr 1;simp only[bu];rw[bf,if_pos hi',dA]
           obtain⟨u,hu,hr⟩:=hrd (lo+i') j c2 hc3;have hi2:=iL hc3;have hj:j<i.size:=(by rw[<- hes (es.getD (lo+i') []) (by simp[bu,aj hi2])];exact(ax.1 hc3).1);have:(i'+1)*i.size<=m*i.size:=aC _ hi';rw[bg]at this;refine⟨u,?_,hr⟩;rw[bf,if_pos (by omega),dA];rw[bg]at hu;rw[<- lH];simpa using hu
         have hr:=run_append_grow (P:=P) w t o.type e i z hte hi hzero ⟨kk,lo*i.size,none⟩ m c' _ SA holds ad ys.length xc us DI (hus ad rfl) (by omega) (by simp only[maxLen]at h63;omega) hfit;rw[<- hxv,<- hsv]at hr;have hf:=fresh c' _ (by omega) SA hd1;exact⟨_,_,I,_,.inl (fin hr),hf,λ_=>⟨w.heap.size,_,_,_,Ren.jM _ _ _ _,rfl,grownCap_ge w _ c' e,aA _,λ_=>rfl⟩⟩
      ·exact fH.elim
     ·exact fH.elim
    ·cases hz
   ·cases ht
  ·cases ht
 ·cases hc
end
end
section
section
variable {P:Program} {E:Env P} {I:IH} {ρ:Ren} {n:Nat} {st:dP} {a:Act} {w:World}
theorem X0 : oJ.lookup "internal/bytealg.abigen_runtime_cmpstring" = none:=by kernel_rfl
theorem X3 : pV.lookup "internal/bytealg.abigen_runtime_cmpstring" = none:=by kernel_rfl
theorem X4 : rf.lookup "internal/bytealg.abigen_runtime_cmpstring" = none:=by kernel_rfl
theorem X5 : xy.lookup "internal/bytealg.abigen_runtime_cmpstring" = some Extern.BytealgCompare.compare:=by kernel_rfl
theorem Z9 : oJ.lookup "" = none:=by kernel_rfl
theorem aab : oJ.lookup "slices.overlaps" = none:=by kernel_rfl
theorem aac : pV.lookup "slices.overlaps" = none:=by kernel_rfl
theorem aad : rf.lookup "slices.overlaps" = some qi:=by kernel_rfl
def PR (P:Program)(n:Nat)(op:Op)(x y:jK):Bool:=
 match op with
 |.call { callee:=.value (.func f),args:=⟨[x',y']⟩,argTypes:=_ }=>gW n x' x&&gW n y' y&&(match P.funcs[f]? with|some fn=>fn.name == "internal/bytealg.abigen_runtime_cmpstring" && fn.origin == "" && fn.body.isNone|none=>false)
 |_=>false
theorem XB {o:Oper}{x y:jK}(h:GX E I ρ n st a w)(hc:PR P n o.op x y=true)(hx:(x.ev st.tm).g=true)(hy:(y.ev st.tm).g=true)
 (fH:(G9 (bT st.tm x) (bT st.tm y)).vc):o8 P E n o a w st (G9 (bT st.tm x) (bT st.tm y)).v:=by
 unfold PR at hc;split at hc
 ·rename_i f x' y' ts he;simp only[af]at hc;obtain⟨⟨c1,c2⟩,hf⟩:=hc;have g1:=jl h c1 hx;have g2:=jl h c2 hy;split at hf
  ·rename_i fn hfn;simp only[af,beq_iff_eq]at hf;obtain⟨⟨hname,OD⟩,hbody⟩:=hf;have hn:nZ fn=none:=by
    simp only[nZ,hname,OD,X0,Z9];rfl
   have hd:qj fn=some Extern.BytealgCompare.compare:=by simp only[qj,hname,X3,X4,X5];rfl
   unfold G9 at fH⊢;split at fH
   ·rename_i s t e1 e2;rw[e1]at g1;rw[e2]at g2;obtain⟨v1,_⟩:=BF g1;obtain⟨v2,_⟩:=BF g2;have hr:=run_callFunc_extern (P:=P) hfn (by rw[hname];rfl) hbody hn hd #[.string ⟨⟨s⟩⟩,.string ⟨⟨t⟩⟩] w;rw[Lib.run_compareString]at hr;refine oG.val h (v:=.int .i64 (jI s t)) ?_ (ve _ _);have hx2:a.eval (.func f) = .func (.func f) #[] #[]:=rfl;simp only[execOp,he,resolve,sQ,invoke,bF,aX,aN,hx2,je,aP,gV,v1,v2];simpa using hr
   ·exact fH.elim
  ·cases hf
 ·cases hc
def LC (P:Program)(n:Nat)(op:Op)(ng:Bool)(x:jK):Bool:=
 match op with
 |.binOp b t x' (.const .nilIface) _=>(match b with|.eql=> !ng|.neq=>ng|_=>false)&&(match P.underlying t with|some (.interface _)=>true|_=>false)&&gW n x' x
 |_=>false
theorem Va {o:Oper}{ng:Bool}{x:jK}(h:GX E I ρ n st a w)(hc:LC P n o.op ng x=true)(hx:(x.ev st.tm).g=true)
 (fH:(CY ng (bT st.tm x)).vc):o8 P E n o a w st (CY ng (bT st.tm x)).v:=by
 unfold LC at hc;split at hc
 ·rename_i b t x' t' he;simp only[af]at hc;obtain⟨⟨hb,ht⟩,h1⟩:=hc;have g1:=jl h h1 hx;unfold CY at fH⊢;split at fH
  ·rename_i g e1;rw[e1]at g1;have g1:if g=true then ∃t p,a.eval x' = .iface t p else a.eval x' = .nilIface:=g1
   split at ht
   ·rename_i ms hu;have ev:a.eval (.const .nilIface) = .nilIface:=rfl;have hq:(eqGuard b t x' (.const .nilIface) (a.eval x') .nilIface).run P w = .ok () w:=by
     cases g with
     | true=>obtain⟨t1,p1,g1⟩:=g1;rw[g1];cases b<;>rfl
     | false=>have g1:a.eval x' = .nilIface:=g1;rw[g1];cases b<;>cases x'<;>first|rfl|simp[eqGuard]
    have hd:∀d,(uq (d+1) t (a.eval x') .nilIface).run P w = .ok (!g) w:=λd=>by
     cases g with
     | true=>obtain⟨t1,p1,g1⟩:=g1;rw[g1];simp[uq,run_underlying hu]
     | false=>have g1:a.eval x' = .nilIface:=g1;rw[g1];simp[uq,run_underlying hu]
    have he':(Op.equal t (a.eval x') .nilIface).run P w = .ok (!g) w:=hd 9999;have aeJ:∀c,(c = .eql\/c = .neq)->(binOp c t (a.eval x') .nilIface).run P w = .ok (.bool (if c = .neq then g else !g)) w:=λc hc=>by
     cases g with
     | true=>obtain⟨t1,p1,g1⟩:=g1;rw[g1]at he'⊢;rcases hc with rfl|rfl<;>simp[binOp,he']
     | false=>have g1:a.eval x' = .nilIface:=g1;rw[g1]at he'⊢;rcases hc with rfl|rfl<;>simp[binOp,he']
    simp only[FR.ok];cases b<;>simp at hb
    ·subst hb;refine oG.val h ?_ (Bz _);simp[execOp,he,ev,hq,aeJ .eql (.inl rfl)]
    ·subst hb;refine oG.val h ?_ (Bz _);simp[execOp,he,ev,hq,aeJ .neq (.inr rfl)]
   ·cases ht
  ·exact fH.elim
 ·cases hc
theorem X6 : oJ.lookup "internal/bytealg.IndexByteString" = none:=by kernel_rfl
theorem X7 : pV.lookup "internal/bytealg.IndexByteString" = none:=by kernel_rfl
theorem X8 : rf.lookup "internal/bytealg.IndexByteString" = none:=by kernel_rfl
theorem X9 : xy.lookup "internal/bytealg.IndexByteString" = some Extern.BytealgIndexByte.indexByte:=by kernel_rfl
def PU (P:Program)(n:Nat)(op:Op)(x y:jK):Bool:=
 match op with
 |.call { callee:=.value (.func f),args:=⟨[x',y']⟩,argTypes:=_ }=>gW n x' x&&gW n y' y&&(match P.funcs[f]? with|some fn=>fn.name == "internal/bytealg.IndexByteString" && fn.origin == "" && fn.body.isNone|none=>false)
 |_=>false
theorem XP {o:Oper}{x y:jK}(h:GX E I ρ n st a w)(hc:PU P n o.op x y=true)(hx:(x.ev st.tm).g=true)(hy:(y.ev st.tm).g=true)
 (fH:(Hu (bT st.tm x) (bT st.tm y)).vc):o8 P E n o a w st (Hu (bT st.tm x) (bT st.tm y)).v:=by
 unfold PU at hc;split at hc
 ·rename_i f x' y' ts he;simp only[af]at hc;obtain⟨⟨c1,c2⟩,hf⟩:=hc;have g1:=jl h c1 hx;have g2:=jl h c2 hy;split at hf
  ·rename_i fn hfn;simp only[af,beq_iff_eq]at hf;obtain⟨⟨hname,OD⟩,hbody⟩:=hf;have hn:nZ fn=none:=by
    simp only[nZ,hname,OD,X6,Z9];rfl
   have hd:qj fn=some Extern.BytealgIndexByte.indexByte:=by simp only[qj,hname,X7,X8,X9];rfl
   unfold Hu at fH⊢;split at fH
   ·rename_i s k c e1 e2;rw[e1]at g1;rw[e2]at g2;have hk:k = .u8:=fH;subst hk;obtain⟨v1,_⟩:=BF g1;have v2:=rO g2;have hr:=run_callFunc_extern (P:=P) hfn (by rw[hname];rfl) hbody hn hd #[.string ⟨⟨s⟩⟩,.int .u8 c] w;rw[Lib.run_indexByteString]at hr;refine oG.val h (v:=.int .i64 (Lib.indexByte s c.toNat.toUInt8)) ?_ (ve _ _);have hx2:a.eval (.func f) = .func (.func f) #[] #[]:=rfl;simp only[execOp,he,resolve,sQ,invoke,bF,aX,aN,hx2,je,aP,gV,v1,v2];simpa using hr
   ·exact fH.elim
  ·cases hf
 ·cases hc
def UH (P:Program)(n:Nat)(op:Op)(x y:jK):Bool:=
 match op with
 | .call { callee:=.value (.func f),args:=⟨[x',y']⟩,argTypes:=_ }=>gW n x' x&&gW n y' y&&(match P.funcs[f]? with
   | some fn=>fn.origin == "slices.overlaps" && fn.body.isNone && !(fn.name == "runtime.NumGoroutine")&&(oJ.lookup fn.name).isNone&&(pV.lookup fn.name).isNone&&(rf.lookup fn.name).isNone&&(xy.lookup fn.name).isNone &&
     (match fn.params,fn.resultTypes with
      |⟨[t,t']⟩,⟨[_]⟩=>t==t'&&(match P.underlying t with|some (.slice e)=>(match P.info? e with|some _=>true|none=>false)|_=>false)
      |_,_=>false)
   |none=>false)
 |_=>false
theorem Zb (h:GX E I ρ n st a w){b kk cap sz:Nat}{es:List (List Cell)}(hb:st.bx b = .dat sz es)(hr:ρ b=some (kk,cap))(hc0:cap≠0):∃cs tg,w.heap[kk]? = some (.cells cs tg (0,0))/\cs.size=cap*sz:=by have hok:=h.bx.ok b;rw[hb]at hok;obtain⟨YK,cap',hr',hle,hcm,hes,hcs⟩:=hok;rw[hr]at hr';simp only[aG,bV]at hr';obtain⟨rfl,rfl⟩:=hr';obtain⟨cs,tg,hw,hs,_⟩:=hcs hc0;exact⟨cs,tg,hw,hs⟩
theorem aav {o:Oper}{x y:jK}(h:GX E I ρ n st a w)(hc:UH P n o.op x y=true)(hx:(x.ev st.tm).g=true)(hy:(y.ev st.tm).g=true)
 (fH:(QE (bT st.tm x) (bT st.tm y) st.bx).vc):o8 P E n o a w st (QE (bT st.tm x) (bT st.tm y) st.bx).v:=by
 unfold UH at hc;split at hc
 ·rename_i f x' y' ts he;simp only[af]at hc;obtain⟨⟨c1,c2⟩,hf⟩:=hc;have g1:=jl h c1 hx;have g2:=jl h c2 hy;split at hf
  ·rename_i fn hfn;simp only[af,beq_iff_eq,gy,nI]at hf;obtain⟨⟨⟨⟨⟨⟨⟨OD,hbody⟩,hname⟩,n1⟩,n2⟩,n3⟩,n4⟩,hp⟩:=hf;split at hp
   ·rename_i t t' tr hpar hres;simp only[af,beq_iff_eq]at hp;obtain⟨rfl,ht⟩:=hp;split at ht
    ·rename_i e hte;split at ht
     ·rename_i i hi;have hn:nZ fn=none:=by
       simp only[nZ,OD,n1,aab];rfl
      have hd:qj fn=some (qi #[t,t] #[tr]):=by simp only[qj,OD,n2,n3,n4,aac,aad,hpar,hres];rfl
      unfold QE at fH⊢;split at fH
      ·rename_i b lo m c sz b' lo' m' c' sz' e1 e2;obtain⟨kk,cap,ad,cc,hr,hv,hm,hcc,_,ha⟩:=Eh g1 e1;obtain⟨YK,cap',ad',cc',hr',hv',hm',zx,_,ha'⟩:=Eh g2 e2;split at fH
       ·rename_i s1 es s2 es' hb hb';obtain⟨hbb,hs2,hm0,ahq⟩:b≠b'/\s2≠0/\0<m/\0<m':=fH;have hov:(qi #[t,t] #[tr] #[.slice ad m cc,.slice ad' m' cc']).run P w = .ok (.bool false) w:=by
         obtain⟨cs,tg,hw,hs⟩:=Zb h hb hr (by omega);obtain⟨cs',tg',hw',hs'⟩:=Zb h hb' hr' (by omega);have e1:=ha (.inl (by omega));have e2:=ha' (.inl (by omega));subst e1 e2;have hne:kk≠YK:=λhk=>hbb (by subst hk;exact h.bx.inj b b' kk (by rw[hb];exact⟨cap,hr,by omega⟩) (by rw[hb'];exact⟨cap',hr',by omega⟩))
         have h0:cs'.size≠0:=(by rw[hs'];exact Nat.mul_ne_zero (by omega) hs2);exact Lib.run_overlaps_apart w t tr e hte i.size (λw=>by simp[sizeOf,typeInfo,hi]) ⟨kk,lo*sz,none⟩ ⟨YK,lo'*sz',none⟩ m cc m' cc' hne tg tg' cs.size cs'.size
          (by simp[World.shape?,hw]) (by simp[World.shape?,hw']) h0 (by simp[World.frozen?,hw]) (by simp[World.frozen?,hw])
        have hr:=run_callFunc_extern (P:=P) hfn hname (by simpa using hbody) hn hd #[.slice ad m cc,.slice ad' m' cc'] w;rw[hov]at hr;refine oG.val h (v:=.bool false) ?_ (Bz _);have hx2:a.eval (.func f) = .func (.func f) #[] #[]:=rfl;simp only[execOp,he,resolve,sQ,invoke,bF,aX,aN,hx2,je,aP,gV,hv,hv'];simpa using hr
       ·exact fH.elim
      ·exact fH.elim
     ·cases ht
    ·cases ht
   ·cases hp
  ·cases hf
 ·cases hc
end
end
section
section
variable {P:Program} {E:Env P} {I:IH} {ρ:Ren} {n:Nat} {st:dP} {a:Act} {w:World}
def GZ (P:Program)(n:Nat)(op:Op)(sz bytes:Nat)(zs:List Cell)(s x:jK):Bool:=
 match op with
 | .call { callee:=.builtin .append,args:=⟨[s',x']⟩,argTypes:=⟨[t,t']⟩ }=>gW n s' s&&gW n x' x&&decide (0<sz)&&zs.length==sz&&(match P.underlying t' with|some (.int _)=>true|_=>false)&&(match P.underlying t with
   |some (.slice e)=>(match P.info? e with|some i=>i.size==sz&&i.bytes==bytes&&(match i.zero with|some z=>z.cells.size==sz&&Dn z.cells.toList zs&&z.cells.toList.all (·.oneCell')|none=>false)|none=>false)
   |_=>false)
 |_=>false
theorem Nl (t u ty e:TypeId)(ku:IntKind)(i:TypeInfo)(z:Value)(ht:P.underlying t=some (.slice e))(hu:P.underlying u=some (.int ku))(hi:P.info? e=some i)(hz:i.zero=some z)
 (b:Option Addr) (sLen sCap:Nat) (olds:List Value) (hlo:olds.length=sLen*i.size) (hb0:b=none->sLen=0) (holds:∀ad,b=some ad->∀j v,olds[j]? = some v->w.cell? (ad.add j)=some v)
 (q:Nat) (hq:(q:Int)*i.bytes<=140737488355328) (h62:q<2^60) (hqp:0<q) (hs0:0<i.size)
 (hg:sCap<sLen+q) (h63:((sLen+q:Nat):Int)<=9223372036854775807) (hfit:Builtin.nextslicecap (sLen+q) sCap*i.bytes<=281474976710656) :
 (fB #[t,u] ty #[.slice b sLen sCap,.int .i64 q]).run P w =
  .ok (.slice (some ⟨w.heap.size,0,none⟩) (sLen+q) (grownCap w (sLen+q) sCap e))
   (w.drew.alloc (.cells (olds.toArray++bM z.cells q++bM z.cells (grownCap w (sLen+q) sCap e-(sLen+q))) e)):=by
 have hn:¬(sLen+q<=sCap):=by omega
 have h63':¬(9223372036854775807<((sLen:Int)+(q:Int))):=by omega
 have h48':¬(281474976710656<Builtin.nextslicecap (sLen+q) sCap*i.bytes):=by omega
 have hw:qo.wrap (q:Int)=q:=by simp only[Go.IntKind.wrap,Go.IntKind.bits,Go.IntKind.signed];simp;omega
 have hq0:¬((q:Int)<0):=by omega
 have hqb:¬(281474976710656<(q:Int)*(i.bytes:Int)):=by omega
 have hfo:(dO i.size sLen (.slice b sLen sCap)).run P w.drew = .ok olds.toArray w.drew:=by
  cases b with
  | none=>have h0:=hb0 rfl;subst h0;have:olds=[]:=dK (by simpa using hlo);subst this;simp[dO]
  |some ad=>exact run_firstCells_some (P:=P) w.drew i.size sLen ad sLen sCap olds hlo (by simpa using holds ad rfl)
 have hq1:¬(q*i.size=0):=by intro h0;rcases Nat.mul_eq_zero.1 h0 with h|h<;>omega
 simp[fB,run_underlying ht,run_underlying hu,sizeOf,typeInfo,zeroValue,hi,hz,asInt,asIntOf,hw,hq0,hqb,hq1,hn,h63',h48',Question.forced,hfo,newRow,grownCap]
theorem Zc (h:GX E I ρ n st a w){b kk cap sz lo m:Nat}{es:List (List Cell)}(hb:st.bx b = .dat sz es)(hr0:ρ b=some (kk,cap))(hc:lo+m<=cap)(hc0:cap≠0)(hl:lo+m<=es.length) :
 ∃ olds:List Value,olds.length=m*sz/\(∀(j:Nat) (u:Value),olds[j]? = some u->w.cell? ((⟨kk,lo*sz,none⟩:Addr).add j)=some u)/\DC I olds sz ((es.drop lo).take m) /\
   (∀y,y∈(es.drop lo).take m->y.length=sz)/\((es.drop lo).take m).length=m:=by
 have hok:=h.bx.ok b;rw[hb]at hok;obtain⟨YK,cap',hr',hle,hcm,hes,hcs⟩:=hok;rw[hr0]at hr';simp only[aG,bV]at hr';obtain⟨rfl,rfl⟩:=hr';obtain⟨cs,tg,hw,hss,ho,hrd⟩:=hcs hc0;have hmn:(lo+m)*sz<=cs.size:=by rw[hss];exact aC _ hc
 rw[bg]at hmn;have hsl:((es.drop lo).take m).length=m:=by simp;omega
 refine⟨(cs.toList.drop (lo*sz)).take (m*sz),by simp;omega,λj u hu=>?_,⟨λj u hu=>?_,λi' j c2 hc2=>?_⟩,λy hy=>hes y (iR (dG hy)),hsl⟩
 ·rw[bf]at hu;split at hu
  ·rw[Addr.l7];rw[dA]at hu;simp at hu;simp[dR,hw,hu]
  ·cases hu
 ·rw[bf]at hu;split at hu
  ·rw[dA]at hu;exact ho _ u (by simpa using hu)
  ·cases hu
 ·have hi':=iL hc2;rw[hsl]at hi';have hc3:(es.getD (lo+i') [])[j]? = some c2:=by
   rw[<- hc2];congr 1;simp only[bu];rw[bf,if_pos hi',dA]
  obtain⟨u,hu,hr⟩:=hrd (lo+i') j c2 hc3;have hi2:=iL hc3;have hj:j<sz:=by rw[<- hes (es.getD (lo+i') []) (by simp[bu,aj hi2])];exact(ax.1 hc3).1
  have:(i'+1)*sz<=m*sz:=aC _ hi';rw[bg]at this;refine⟨u,?_,hr⟩;rw[bf,if_pos (by omega),dA];rw[bg]at hu;rw[<- lH];simpa using hu
theorem Xm {o:Oper}{l sz bytes:Nat}{zs:List Cell}{s x:jK}(h:GX E I ρ n st a w)(hc:GZ P n o.op sz bytes zs s x=true)(hm:E.m<=l)(hs:(s.ev st.tm).g=true)(hx:(x.ev st.tm).g=true)
 (fH:(zI l sz bytes zs (bT st.tm s) (bT st.tm x) st.bx).vc):oG P E n o a w (st.mQ (zI l sz bytes zs (bT st.tm s) (bT st.tm x) st.bx).sets) (zI l sz bytes zs (bT st.tm s) (bT st.tm x) st.bx).v:=by
 unfold GZ at hc;split at hc
 ·rename_i s' x' t t' he;simp only[af,beq_iff_eq,decide_eq_true_eq]at hc;obtain⟨⟨⟨⟨⟨c1,c2⟩,h0⟩,hzl⟩,hti⟩,ht⟩:=hc;have g1:=jl h c1 hs;have g2:=jl h c2 hx;split at hti
  ·rename_i ku htu;split at ht
   ·rename_i e hte;split at ht
    ·rename_i i hi;simp only[af,beq_iff_eq]at ht;obtain⟨⟨rfl,rfl⟩,hz⟩:=ht;split at hz
     ·rename_i z hzero;simp only[af,beq_iff_eq]at hz;obtain⟨⟨hzs,hzd⟩,hz1⟩:=hz;have fin:∀{v:Value} {w':World},(fB #[t,t'] o.type #[a.eval s',a.eval x']).run P w = .ok v w'->(execOp a.eval o).run P w = .ok (.value v) w':=by
       intro v w' hr;simp only[execOp,he,resolve,invoke,builtin,bF,aX,aN,je,aP,gV,hr]
      have hzc:∀(q:Nat) (j:Nat) (u:Value),(bM z.cells q).toList[j]? = some u->u.oneCell'=true:=by intro q j u hu;exact(JG (I:=I) (m:=q) hzd hzs hzl h0).2.one j u hu
      have fresh:∀(old m q:Nat) (olds:List Value) (es':List (List Cell)),st.bx l = .absent->old<m+q->olds.length=m*i.size->es'.length=m->(∀y,y∈es'->y.length=i.size)->DC I olds i.size es'->m+q<=maxLen ->
       GX E I (ρ.set l w.heap.size (grownCap w (m+q) old e)) n (st.sN l (.dat i.size (es'++aY q zs))) a
        (w.drew.alloc (.cells (olds.toArray++bM z.cells q++bM z.cells (grownCap w (m+q) old e-(m+q))) e)):=by
       intro old m q olds es' hl' ho hol hel hes' hdo h63;have hge:=grownCap_ge w (m+q) old e;have hcm:grownCap w (m+q) old e<=maxLen:=grownCap_le_maxLen w _ old e h63;obtain⟨adx,abO⟩:=JG (I:=I) (m:=q) hzd hzs hzl h0;have hdc:=((hdo.append abO (by rw[hel];exact hol)).more (hzc (grownCap w (m+q) old e-(m+q)))).WV (cs:=olds.toArray++bM z.cells q++bM z.cells (grownCap w (m+q) old e-(m+q))) (by simp);refine EZ h.drew hl' hm _ e _ i.size (es'++aY q zs) ?_ (by rw[iM,hel,vG];exact hge) hcm (λx hx=>?_) hdc.1 hdc.2
       ·simp only[uC,kF,size_zeroCells,hzs,hol,<- bg]
        congr 1
        omega
       ·rcases aV.1 hx with h1|h1
        ·exact hes' x h1
        ·rw[nK h1,hzl]
      have arith:∀(m q:Nat),(m+q)*(i.bytes+i.size+1)<=2^46->(m+q)*i.bytes<=140737488355328/\q*i.bytes<=140737488355328/\m+q<=2^46:=by intro m q hbig;have e1:(m+q)*(i.bytes+i.size+1)=(m+q)*i.bytes+(m+q)*i.size+(m+q):=(by rw[sV,sV,Be]);have e2:q*i.bytes<=(m+q)*i.bytes:=aC _ (by omega);omega
      have hml:2^46<=maxLen:=(by decide);unfold zI at fH⊢;split at fH
      ·rename_i b lo m c sz' k q e1 e2;split at fH
       ·rename_i wz es hb;obtain⟨rfl,rfl,rfl,hlo,hq,hroom,hl,hbig⟩:=fH;obtain⟨kk,cap,ad0,c',hr0,hsv,hnc,hcc,hcx,hcap⟩:=Eh (c:=some c) (b:=b) (lo:=lo) (m:=m) (sz:=i.size) g1 (by rw[e1];rfl);have:=hcx c rfl;subst this;have hxv:a.eval x' = .int .i64 q:=(by exact rO (by rw[e2]at g2;exact g2));obtain⟨qn,rfl⟩:∃qn:Nat,q=qn:=⟨q.toNat,by omega⟩;simp only[ak]at hroom hbig⊢;obtain⟨a1,a2,a3⟩:=arith m qn hbig;have hl':=BK hl;have hfit:=growslice_fits (need:=m+qn) (old:=c') (bytes:=i.bytes) (by omega) a1;by_cases hc0:c'=0
        ·have ads:m=0:=(by omega);subst ads;subst hc0;have hf:=fresh 0 0 qn [] [] hl' (by omega) (by simp) rfl (by simp) ⟨by simp,by simp⟩ (by omega);have hr:=Nl (P:=P) (w:=w) t t' o.type e ku i z hte htu hi hzero ad0 0 0 [] (by simp) (λ_=>rfl) (by simp) qn (by rw[<- yK];exact zW.2 a2) (by omega) (by omega) h0 (by omega) (by omega) hfit;rw[<- hxv,<- hsv]at hr;simp only[vY];exact⟨_,_,I,_,.inl (fin hr),hf,λ_=>⟨w.heap.size,_,_,_,Ren.jM _ _ _ _,rfl,grownCap_ge w _ _ e,aA _,λ_=>rfl⟩⟩
        ·have Gi:=hcap (.inl hc0);subst Gi;obtain⟨olds,ho1,ho2,ho3,ho4,ho5⟩:=Zc h hb hr0 (by omega) (by omega) hlo;have hf:=fresh c' m qn olds _ hl' (by omega) ho1 ho5 ho4 ho3 (by omega);have hr:=Nl (P:=P) (w:=w) t t' o.type e ku i z hte htu hi hzero (some ⟨kk,lo*i.size,none⟩) m c' olds ho1 (by simp) (λad had j u hu=>by cases had;exact ho2 j u hu) qn (by rw[<- yK];exact zW.2 a2) (by omega) (by omega) h0 (by omega) (by omega) hfit;rw[<- hxv,<- hsv]at hr;exact⟨_,_,I,_,.inl (fin hr),hf,λ_=>⟨w.heap.size,_,_,_,Ren.jM _ _ _ _,rfl,grownCap_ge w _ _ e,aA _,λ_=>rfl⟩⟩
       ·exact fH.elim
      ·rename_i sz' k q e1 e2;obtain⟨rfl,hq,hl,hbig⟩:=fH;have hsv:a.eval s' = .slice none 0 0:=(by rw[e1]at g1;exact g1);have hxv:a.eval x' = .int .i64 q:=(by exact rO (by rw[e2]at g2;exact g2));obtain⟨qn,rfl⟩:∃qn:Nat,q=qn:=⟨q.toNat,by omega⟩;simp only[ak]at hbig⊢;obtain⟨a1,a2,a3⟩:=arith 0 qn (by simpa using hbig);simp only[dh]at a1 a3;have hl':=BK hl;have hfit:=growslice_fits (need:=0+qn) (old:=0) (bytes:=i.bytes) (by omega) (by simpa using a1);have hf:=fresh 0 0 qn [] [] hl' (by omega) (by simp) rfl (by simp) ⟨by simp,by simp⟩ (by omega);have hr:=Nl (P:=P) (w:=w) t t' o.type e ku i z hte htu hi hzero none 0 0 [] (by simp) (λ_=>rfl) (by simp) qn (by rw[<- yK];exact zW.2 a2) (by omega) (by omega) h0 (by omega) (by omega) hfit;rw[<- hxv,<- hsv]at hr;simp only[nY]at hf;exact⟨_,_,I,_,.inl (fin hr),hf,λ_=>⟨w.heap.size,_,_,_,Ren.jM _ _ _ _,by rw[dh],by have:=grownCap_ge w (0+qn) 0 e;omega,aA _,λ_=>rfl⟩⟩
      ·exact fH.elim
     ·cases hz
    ·cases ht
   ·cases ht
  ·cases hti
 ·cases hc
end
end
section
def J7 (P:Program)(n m:Nat)(op:Op)(d:Option Nat):jb->Bool
 |.mv x=>Y6 n op x
 |.pick c a b=>PZ n op c a b
 |.load agg k p=>PX P n op agg k p
 |.store agg k p x=>LJ P n op agg k p x&&d.isNone
 |.alloc l zs=>DZ P op zs&&decide (m<=l)
 |.IJ T _ l r=>BP P op T&&decide (m<=l)&&decide (m<=r)
 |.II l sz c zs=>BO P op sz c zs&&decide (m<=l)
 |.box l x=>Lm n op x&&decide (m<=l)
 |.build zs ps=>Lp P n op zs ps
 |.rH l sz c zs ps=>BQ P n op sz c zs ps&&decide (m<=l)
 |.makes l sz bytes zs x y=>D7 P n op sz bytes zs x y&&decide (m<=l)
 |.bin o x y=>UC n op o x y
 |.beq ng x y=>UB P n op ng x y
 |.not x=>UG n op x
 |.neg x=>UF n op x
 |.N8 k x=>PO P n op k x
 |.P7 x=>PS P n op x
 |.same x=>P5 P n op x
 |.Qy f cs=>PY n op f cs
 |.Pe x lo hi=>LH P n op x lo hi
 |.Af sz x lo hi=>P6 P n op sz x lo hi
 |.O8 sz c x=>LG P n op sz c x
 |.OZ x=>LD n op x
 |.ny off x=>Lr P n op off x
 |.field agg off k x=>Ls P n op agg off k x
 |.uT sz x i=>Lt P n op sz x i
 |.Qq sz c x i=>IP P n op sz c x i
 |.idxs x i=>PV P n op x i
 |.extract x i=>Gf n op x i
 |.len x=>UE P n op x
 |.lens x=>PW P n op x
 |.max x y=>Oy true n op x y
 |.min x y=>Oy false n op x y
 |.append l sz bytes s x=>x9 P n op sz bytes s x&&decide (m<=l)
 |.copy sz x y=>Bj P n op sz x y
 |.shf l x y=>UI n op l x y
 |.Xv x=>PN P n op x
 |.tX sz x lo hi=>IU P n op sz x lo hi
 |.sl3 sz x p q m=>UJ P n op sz x p q m
 |.TJ l sz bytes s x=>x9 P n op sz bytes s x&&decide (m<=l)
 |.Np sz x y=>Bj P n op sz x y
 |.Vz sz zs x=>G8 P n op sz zs x
 |.Ur l sz bytes zs s x=>GZ P n op sz bytes zs s x&&decide (m<=l)
 |.XA x y=>PR P n op x y
 |.SH ng x=>LC P n op ng x
 |.ovl x y=>UH P n op x y
 |.ZM x y=>PU P n op x y
 |.stop=>true
section
variable {P:Program} {n:Nat} {op:Op}
theorem aaC {zs:List AC}(h:DZ P op zs=true):wE op=false/\Jd op=false:=by unfold DZ at h;split at h<;>first|exact⟨rfl,rfl⟩|cases h
theorem WJ {T:Nat}(h:BP P op T=true):wE op=false/\Jd op=false:=by unfold BP at h;split at h<;>first|exact⟨rfl,rfl⟩|cases h
theorem WI {sz c:Nat}{zs:List Cell}(h:BO P op sz c zs=true):wE op=false/\Jd op=false:=by unfold BO at h;split at h<;>first|exact⟨rfl,rfl⟩|cases h
theorem aff {x:jK}(h:Lm n op x=true):wE op=false/\Jd op=false:=by unfold Lm at h;split at h<;>first|exact⟨rfl,rfl⟩|cases h
theorem WL {sz c:Nat}{zs:List Cell}{ps:List (Nat×jK)}(h:BQ P n op sz c zs ps=true):wE op=false/\Jd op=false:=by unfold BQ at h;split at h<;>first|exact⟨rfl,rfl⟩|cases h
theorem aaD {sz bytes:Nat}{zs:List Cell}{x y:jK}(h:D7 P n op sz bytes zs x y=true):wE op=false/\Jd op=false:=by unfold D7 at h;split at h<;>first|exact⟨rfl,rfl⟩|cases h
theorem KL {sz bytes:Nat}{s x:jK}(h:x9 P n op sz bytes s x=true):wE op=false/\Jd op=false:=by unfold x9 at h;split at h<;>first|exact⟨rfl,rfl⟩|cases h
theorem WM {sz:Nat}{s x:jK}(h:Bj P n op sz s x=true):wE op=false/\Jd op=false:=by unfold Bj at h;split at h<;>first|exact⟨rfl,rfl⟩|cases h
theorem acQ {sz:Nat}{zs:List Cell}{x:jK}(h:G8 P n op sz zs x=true):wE op=false/\Jd op=false:=by unfold G8 at h;split at h<;>first|exact⟨rfl,rfl⟩|cases h
theorem acP {sz bytes:Nat}{zs:List Cell}{s x:jK}(h:GZ P n op sz bytes zs s x=true):wE op=false/\Jd op=false:=by unfold GZ at h;split at h<;>first|exact⟨rfl,rfl⟩|cases h
end
section
variable {P:Program} {E:Env P} {I:IH} {ρ:Ren} {n:Nat} {st:dP} {a:Act} {w:World}
theorem yY {x:Box}(h:match x with|.absent=>True|_=>False):xq x:=by cases x<;>first|trivial|exact h.elim
theorem Tm (h:GX E I ρ n st a w){o:Oper}{ao:jb}(hc:J7 P n E.m o.op o.dst ao=true)(hv:ao.valid (jK.ev st.tm))(fH:(ao.f (bT st.tm) st.bx).vc) :
 o8 P E n o a w (st.mQ (ao.f (bT st.tm) st.bx).sets) (ao.f (bT st.tm) st.bx).v:=by
 cases ao with
 |mv x=>exact abV h hc (hv x (by simp[jb.jV]))
 | pick c x y=>
   simp only[jb.f]at fH⊢;obtain⟨hg,hxy⟩:=hv;split at fH
   ·rename_i t ht;have ht':((jK.ev st.tm c).x)=pq t:=ht;rw[ht']at hxy;exact Yf h hc hg ht hxy.1 hxy.2
   ·exact fH.elim
 | load agg k p=> 
   have hs:(uF agg k (bT st.tm p) st.bx).sets=[]:=by
    unfold uF at *;simp only[jb.f]at fH;unfold uF at fH;split at fH
    ·split at fH
     ·split at fH
      ·rename_i hA;rw[if_pos hA]
      ·rename_i hA;rw[if_neg hA];split at fH
       ·rfl
       ·exact fH.elim
     ·exact fH.elim
    ·split at fH
     ·split at fH
      ·rename_i hA;rw[if_pos hA]
      ·rename_i hA;rw[if_neg hA]
     ·exact fH.elim
    ·split at fH
     ·rename_i hA;rw[if_pos hA]
     ·rename_i hA;rw[if_neg hA]
    ·exact fH.elim
   have:=XY (P:=P) h hc (hv p (by simp[jb.jV])) fH;simp only[jb.f,hs];exact this
 | store agg k p x=>simp only[J7,af,nI]at hc;exact VF h hc.1 hc.2 (hv p (by simp[jb.jV])) (hv x (by simp[jb.jV])) fH
 | alloc l zs=>simp only[J7,af,decide_eq_true_eq]at hc;exact(Ul h hc.1 hc.2 (yY fH)).YM (aaC hc.1).1 (aaC hc.1).2
 | IJ T e l r=>simp only[J7,af,decide_eq_true_eq]at hc;exact(Ru h hc.1.1 hc.1.2 hc.2 (yY fH.1) (yY fH.2.1) fH.2.2).YM (WJ hc.1.1).1 (WJ hc.1.1).2
 | II l sz c zs=>simp only[J7,af,decide_eq_true_eq]at hc;exact(Rt h hc.1 hc.2 (yY fH)).YM (WI hc.1).1 (WI hc.1).2
 | box l x=>simp only[J7,af,decide_eq_true_eq]at hc;exact(Y3 h hc.1 (hv x (by simp[jb.jV])) hc.2 (yY fH.1) fH.2).YM (aff hc.1).1 (aff hc.1).2
 |build zs ps=>exact Ux h hc (λp hp=>hv p.2.2 (by simp only[jb.jV,aF];exact⟨p,hp,rfl⟩)) fH
 | rH l sz c zs ps=>
   simp only[J7,af,decide_eq_true_eq]at hc;simp only[jb.f]at fH⊢;split at fH
   ·rename_i l' hl';rw[Ns];exact(RH h hc.1 (λp hp=>hv p.2 (by simp only[jb.jV,aF];exact⟨p,hp,rfl⟩)) hc.2 (yY fH.1) hl' fH.2.1 fH.2.2).YM (WL hc.1).1 (WL hc.1).2
   ·exact fH.elim
 | makes l sz bytes zs x y=>
   simp only[J7,af,decide_eq_true_eq]at hc;simp only[jb.f]at fH⊢;split at fH
   ·rename_i k p k' q e1 e2;obtain⟨v1,v2,v3,v4,v5⟩:=fH;exact(Vg h hc.1 (hv x (by simp[jb.jV])) (hv y (by simp[jb.jV])) e1 e2 hc.2 (yY v1) v2 v3 v4 v5).YM (aaD hc.1).1 (aaD hc.1).2
   ·exact fH.elim
 | bin b x y=>
   have hs:(J6 b (bT st.tm x) (bT st.tm y)).sets=[]:=by
    unfold J6;split
    ·rfl
    ·unfold xY;cases b<;>rfl
    ·rfl
   have:=Y0 (P:=P) h hc (hv x (by simp[jb.jV])) (hv y (by simp[jb.jV])) fH;simp only[jb.f,hs];exact this
 | beq ng x y=>have hs:(RD ng (bT st.tm x) (bT st.tm y)).sets=[]:=(by unfold RD;split<;>rfl);have:=YZ (P:=P) h hc (hv x (by simp[jb.jV])) (hv y (by simp[jb.jV])) fH;simp only[jb.f,hs];exact this
 | not x=>
   simp only[jb.f]at fH⊢;split at fH
   ·rename_i b hb;exact aas h hc (hv x (by simp[jb.jV])) hb
   ·exact fH.elim
 | neg x=>
   simp only[jb.f]at fH⊢;split at fH
   ·rename_i k m hb;exact aap h hc (hv x (by simp[jb.jV])) hb
   ·exact fH.elim
 | N8 k x=>
   simp only[jb.f]at fH⊢;split at fH
   ·rename_i j m hb;exact Xy h hc (hv x (by simp[jb.jV])) hb
   ·exact fH.elim
 | P7 x=>
   simp only[jb.f]at fH⊢;split at fH
   ·rename_i p es hs;split at fH
    ·rename_i l hl;exact XE h hc (hv x (by simp[jb.jV])) hs fH.1 hl fH.2
    ·exact fH.elim
   ·exact fH.elim
 | same x=>
   simp only[jb.f]at fH⊢;split at fH
   ·rename_i l hb;exact Yn h hc (hv x (by simp[jb.jV])) hb
   ·exact fH.elim
 | Qy f cs=>
   simp only[jb.f]at fH⊢;split at fH
   ·rename_i l hl;exact Yb h hc (λx hx=>hv x hx) hl
   ·exact fH.elim
 | Pe x lo hi=>
   simp only[jb.f]at fH⊢;split at fH
   ·rename_i s e1;split at fH
    ·rename_i p q e2 e3;exact VC h hc (hv x (by simp[jb.jV])) (λy hy=>hv y (by simp only[jb.jV];simp at hy;simp[hy])) (λy hy=>hv y (by simp only[jb.jV];simp at hy;simp[hy])) e1 e2 e3 fH.1 fH.2.1 fH.2.2
    ·exact fH.elim
   ·exact fH.elim
 | Af sz x lo hi=>
   have hs:(O9 sz (bT st.tm x) (bnd (bT st.tm) lo 0) (bnd (bT st.tm) hi)).sets=[]:=by
    unfold O9;split
    ·split<;>rfl
    ·split<;>rfl
    ·split<;>rfl
    ·rfl
   have:=Yu (P:=P) h hc (hv x (by simp[jb.jV])) (λy hy=>hv y (by simp only[jb.jV];simp at hy;simp[hy])) (λy hy=>hv y (by simp only[jb.jV];simp at hy;simp[hy])) fH;have e:((jb.Af sz x lo hi).f (bT st.tm) st.bx)=O9 sz (bT st.tm x) (bnd (bT st.tm) lo 0) (bnd (bT st.tm) hi):=rfl;rw[e,hs];exact this
 | O8 sz c x=>
   simp only[jb.f]at fH⊢;split at fH
   ·rename_i b sz' e1;split at fH
    ·rename_i wz es e2;obtain⟨rfl,rfl,h3,h4⟩:=fH;exact VB h hc (hv x (by simp[jb.jV])) e1 e2 h3
    ·exact fH.elim
   ·exact fH.elim
 | OZ x=>have hs:(Jl (bT st.tm x)).sets=[]:=(by unfold Jl;split<;>rfl);have:=Vm (P:=P) h hc (hv x (by simp[jb.jV])) fH;have e:((jb.OZ x).f (bT st.tm) st.bx)=Jl (bT st.tm x):=rfl;rw[e,hs];exact this
 | ny off x=>have hs:(Ed off (bT st.tm x)).sets=[]:=(by unfold Ed;split<;>rfl);have:=UU (P:=P) h hc (hv x (by simp[jb.jV])) fH;have e:((jb.ny off x).f (bT st.tm) st.bx)=Ed off (bT st.tm x):=rfl;rw[e,hs];exact this
 | field agg off k x=>
   have hs:(IV agg off k (bT st.tm x)).sets=[]:=by
    unfold IV;split
    ·split
     ·rfl
     ·split<;>rfl
    ·rfl
   have:=UW (P:=P) h hc (hv x (by simp[jb.jV])) fH;have e:((jb.field agg off k x).f (bT st.tm) st.bx)=IV agg off k (bT st.tm x):=rfl;rw[e,hs];exact this
 | uT sz x i=>have hs:(I9 sz (bT st.tm x) (bT st.tm i)).sets=[]:=(by unfold I9;split<;>rfl);have:=U7 (P:=P) h hc (hv x (by simp[jb.jV])) (hv i (by simp[jb.jV])) fH;have e:((jb.uT sz x i).f (bT st.tm) st.bx)=I9 sz (bT st.tm x) (bT st.tm i):=rfl;rw[e,hs];exact this
 | Qq sz c x i=>
   simp only[jb.f]at fH⊢;split at fH
   ·rename_i b sz' k m e1 e2;obtain⟨rfl,h1,h2⟩:=fH;exact SC h hc (hv x (by simp[jb.jV])) (hv i (by simp[jb.jV])) e1 e2 h1 h2
   ·exact fH.elim
 | idxs x i=>
   simp only[jb.f]at fH⊢;split at fH
   ·rename_i s k m e1 e2;exact XQ h hc (hv x (by simp[jb.jV])) (hv i (by simp[jb.jV])) e1 e2 fH.1 fH.2
   ·exact fH.elim
 | extract x i=>
   have hs:(BR (bT st.tm x) i).sets=[]:=by
    unfold BR;split
    ·split<;>rfl
    ·rfl
   have:=Qc (P:=P) h hc (hv x (by simp[jb.jV])) fH;have e:((jb.extract x i).f (bT st.tm) st.bx)=BR (bT st.tm x) i:=rfl;rw[e,hs];exact this
 | len x=>have hs:(lenV (bT st.tm x)).sets=[]:=(by unfold lenV;split<;>rfl);have:=Z4 (P:=P) h hc (hv x (by simp[jb.jV])) fH;have e:((jb.len x).f (bT st.tm) st.bx)=lenV (bT st.tm x):=rfl;rw[e,hs];exact this
 | lens x=>
   simp only[jb.f]at fH⊢;split at fH
   ·rename_i s e1;exact XW h hc (hv x (by simp[jb.jV])) e1
   ·exact fH.elim
 | max x y=>
   simp only[jb.f]at fH⊢;split at fH
   ·rename_i k p k' q e1 e2;have fH:k=k':=fH;subst fH;exact aai h hc (hv x (by simp[jb.jV])) (hv y (by simp[jb.jV])) e1 e2
   ·exact fH.elim
 | min x y=>
   simp only[jb.f]at fH⊢;split at fH
   ·rename_i k p k' q e1 e2;have fH:k=k':=fH;subst fH;exact aak h hc (hv x (by simp[jb.jV])) (hv y (by simp[jb.jV])) e1 e2
   ·exact fH.elim
 | append l sz bytes s x=>simp only[J7,af,decide_eq_true_eq]at hc;exact(Rx h hc.1 hc.2 (hv s (by simp[jb.jV])) (hv x (by simp[jb.jV])) fH).YM (KL hc.1).1 (KL hc.1).2
 |copy sz d x=>exact(XD h hc (hv d (by simp[jb.jV])) (hv x (by simp[jb.jV])) fH).YM (WM hc).1 (WM hc).2
 | shf l x y=>have hs:(QW l (bT st.tm x) (bT st.tm y)).sets=[]:=(by unfold QW;(repeat' split)<;>rfl);have:=aaI (P:=P) h hc (hv x (by simp[jb.jV])) (hv y (by simp[jb.jV])) fH;have e:((jb.shf l x y).f (bT st.tm) st.bx)=QW l (bT st.tm x) (bT st.tm y):=rfl;rw[e,hs];exact this
 | Xv x=>have hs:(N7 (bT st.tm x)).sets=[]:=(by unfold N7;(repeat' split)<;>rfl);have:=Xw (P:=P) h hc (hv x (by simp[jb.jV])) fH;have e:((jb.Xv x).f (bT st.tm) st.bx)=N7 (bT st.tm x):=rfl;rw[e,hs];exact this
 | tX sz x lo hi=>have hs:(um sz (bT st.tm x) (bnd (bT st.tm) lo 0) (bnd (bT st.tm) hi)).sets=[]:=(by unfold um;(repeat' split)<;>rfl);have:=TM (P:=P) h hc (hv x (by simp[jb.jV])) (λy hy=>hv y (by simp only[jb.jV,aB,aV];exact .inr (.inl hy))) (λy hy=>hv y (by simp only[jb.jV,aB,aV];exact .inr (.inr hy))) fH;have e:((jb.tX sz x lo hi).f (bT st.tm) st.bx)=um sz (bT st.tm x) (bnd (bT st.tm) lo 0) (bnd (bT st.tm) hi):=rfl;rw[e,hs];exact this
 | sl3 sz x p q m=>have hs:(EE sz (bT st.tm x) (bT st.tm p) (bT st.tm q) (bT st.tm m)).sets=[]:=(by unfold EE;(repeat' split)<;>rfl);have:=aaJ (P:=P) h hc (hv x (by simp[jb.jV])) (hv p (by simp[jb.jV])) (hv q (by simp[jb.jV])) (hv m (by simp[jb.jV])) fH;have e:((jb.sl3 sz x p q m).f (bT st.tm) st.bx)=EE sz (bT st.tm x) (bT st.tm p) (bT st.tm q) (bT st.tm m):=rfl;rw[e,hs];exact this
 | TJ l sz bytes s x=>simp only[J7,af,decide_eq_true_eq]at hc;exact(Yo h hc.1 hc.2 (hv s (by simp[jb.jV])) (hv x (by simp[jb.jV])) fH).YM (KL hc.1).1 (KL hc.1).2
 | Ur l sz bytes zs s x=>simp only[J7,af,decide_eq_true_eq]at hc;exact(Xm h hc.1 hc.2 (hv s (by simp[jb.jV])) (hv x (by simp[jb.jV])) fH).YM (acP hc.1).1 (acP hc.1).2
 |Np sz d x=>exact(Yq h hc (hv d (by simp[jb.jV])) (hv x (by simp[jb.jV])) fH).YM (WM hc).1 (WM hc).2
 |Vz sz zs x=>exact(Yp h hc (hv x (by simp[jb.jV])) fH).YM (acQ hc).1 (acQ hc).2
 |stop=>exact fH.elim
 | SH ng x=>have hs:(CY ng (bT st.tm x)).sets=[]:=(by unfold CY;split<;>rfl);have:=Va (P:=P) h hc (hv x (by simp[jb.jV])) fH;have e:((jb.SH ng x).f (bT st.tm) st.bx)=CY ng (bT st.tm x):=rfl;rw[e,hs];exact this
 | XA x y=>have hs:(G9 (bT st.tm x) (bT st.tm y)).sets=[]:=(by unfold G9;(repeat' split)<;>rfl);have:=XB (P:=P) h hc (hv x (by simp[jb.jV])) (hv y (by simp[jb.jV])) fH;have e:((jb.XA x y).f (bT st.tm) st.bx)=G9 (bT st.tm x) (bT st.tm y):=rfl;rw[e,hs];exact this
 | ZM x y=>have hs:(Hu (bT st.tm x) (bT st.tm y)).sets=[]:=(by unfold Hu;(repeat' split)<;>rfl);have:=XP (P:=P) h hc (hv x (by simp[jb.jV])) (hv y (by simp[jb.jV])) fH;have e:((jb.ZM x y).f (bT st.tm) st.bx)=Hu (bT st.tm x) (bT st.tm y):=rfl;rw[e,hs];exact this
 | ovl x y=>have hs:(QE (bT st.tm x) (bT st.tm y) st.bx).sets=[]:=(by unfold QE;(repeat' split)<;>rfl);have:=aav (P:=P) h hc (hv x (by simp[jb.jV])) (hv y (by simp[jb.jV])) fH;have e:((jb.ovl x y).f (bT st.tm) st.bx)=QE (bT st.tm x) (bT st.tm y) st.bx:=rfl;rw[e,hs];exact this
end
end
theorem Rel.refl (dp N:Nat)(g:Own):Rel dp N g g:=
 ⟨λ_ _ _ _ _ h=>⟨h,rfl⟩,λ_ _ _ _ _ h=>h,λk B' _ h=>⟨B',h,λT p hb=>by rcases hb with rfl|rfl<;>exact⟨p,p,rfl,rfl⟩⟩⟩
theorem Rel.trans {dp N:Nat}{g g' g'':Own}(h:Rel dp N g g')(k:Rel dp N g' g''):Rel dp N g g'':=by
 refine⟨λx T d m hd hx=>let q:=h.tag _ _ _ _ hd hx;let r:=k.tag _ _ _ _ hd q.1;⟨r.1,r.2.trans q.2⟩,λx row d b hd hx=>k.var _ _ _ _ hd (h.var _ _ _ _ hd hx),λx B'' hx hB=>?_⟩;obtain⟨B',hB',h1⟩:=k.old x B'' hx hB;obtain⟨B,hB0,h2⟩:=h.old x B' hx hB';refine⟨B,hB0,λT p hb=>?_⟩;rcases hb with hb|hb
 ·obtain⟨q,q',e1,e2⟩:=h2 T p (.inl hb);obtain⟨r,r',e3,e4⟩:=h1 T q' (.inl e2);exact⟨q,r',e1,e4⟩
 ·obtain⟨q,q',e1,e2⟩:=h1 T p (.inr hb);obtain⟨r,r',e3,e4⟩:=h2 T q (.inr e1);exact⟨r,q',e3,e2⟩
theorem Rel.le {dp N N':Nat}{g g':Own}(h:Rel dp N g g')(hn:N'<=N):Rel dp N' g g':=⟨h.tag,h.var,λk B' hk=>h.old k B' (gQ hk hn)⟩
theorem Good.lt {P:Program}{g:Own}{w:World}(h:Good P g w){k:Nat}{B:YI}(hk:g k=some B):k<w.heap.size:=by
 cases B with
 |arr T p=>obtain⟨cs,e,hw,_⟩:=h.arr k T p hk;exact uk hw
 |var row d b=>obtain⟨cs,e,hw,_⟩:=h.var k row d b hk;exact uk hw
theorem Good.world {P:Program}{g:Own}{w w':World}(h:Good P g w)(hk:∀k,g k≠none->w'.heap[k]? = w.heap[k]?):Good P g w':=
 ⟨λk T p e=>by rw[hk k (by rw[e];simp)];exact h.arr k T p e,λk row d b e=>by rw[hk k (by rw[e];simp)];exact h.var k row d b e⟩
theorem yw.world {P:Program}{F:JH}{g:Own}{dp:Nat}{a:Act}{w w':World}{f:OF}(h:yw P F g dp a w f)(hs:w.heap.size<=w'.heap.size):yw P F g dp a w' f:=by
 cases f with
 | sr t T=>
   rcases h with h|⟨k,o,n,c,h1,h2,h3⟩
   ·exact .inl h
   ·exact .inr ⟨k,o,n,c,h1,gQ h2 hs,h3⟩
 |ep t T off=>obtain⟨k,o,h1,h2,h3⟩:=h;exact⟨k,o,h1,gQ h2 hs,h3⟩
 |vp t b off=>exact h
 |ref t r=>exact h
 |xP t i r=>exact h
 |row b r=>exact h
 |fn t s=>exact h
theorem OW.world {P:Program}{F:JH}{g:Own}{dp:Nat}{Γ : List OF}{a:Act}{w w':World}(h:OW P F g dp Γ a w)(hs:w.heap.size<=w'.heap.size)(hk:∀k,g k≠none->w'.heap[k]? = w.heap[k]?):OW P F g dp Γ a w':=
 ⟨h.good.world hk,λf hf=>(h.fs f hf).world hs⟩
theorem OW.weak {P:Program}{F:JH}{g:Own}{dp:Nat}{Γ vO:List OF}{a:Act}{w:World}(h:OW P F g dp Γ a w)(hs:∀f,f∈vO->f ∈ Γ):OW P F g dp vO a w:=
 ⟨h.good,λf hf=>h.fs f (hs f hf)⟩
theorem yw.put {P:Program}{F:JH}{g:Own}{dp:Nat}{a a':Act}{w:World}{f:OF}(h:yw P F g dp a w f)(he:∀t,t∈f.WU->a'.tmps.getD t undef=a.tmps.getD t undef):yw P F g dp a' w f:=by cases f<;>simp only[OF.WU,aB,List.not_mem_nil,or_false,forall_eq_or_imp,forall_eq]at he<;>simp only[yw,he]at h⊢ <;> exact h
def AX (d:Nat)(f:OF):Bool:= !f.WU.contains d
theorem jD {a:Act}{d t:Nat}{v:Value}(h:t≠d):(a.put (some d) v).tmps.getD t undef=a.tmps.getD t undef:=by simp only[fA,bQ];rw[Array.getElem?_setIfInBounds_ne (Ne.symm h)]
theorem dF {a:Act}{d:Nat}{v:Value}(h:d<a.tmps.size):(a.put (some d) v).tmps.getD d undef=v:=by simp[fA,bQ,h]
theorem yw.put' {P:Program}{F:JH}{g:Own}{dp:Nat}{a:Act}{w:World}{f:OF}{d:Nat}{v:Value}(h:yw P F g dp a w f)(ho:AX d f=true):yw P F g dp (a.put (some d) v) w f:=
 h.put λt ht=>jD λe=>by subst e;simp[AX,ht]at ho
theorem OW.drop {P:Program}{F:JH}{g:Own}{dp:Nat}{Γ : List OF}{a:Act}{w:World}(h:OW P F g dp Γ a w)(d:Nat)(v:Value):OW P F g dp (Γ.filter (AX d)) (a.put (some d) v) w:=
 ⟨h.good,λf hf=>by rw[aJ]at hf;exact(h.fs f hf.1).put' hf.2⟩
def Own.re (g:Own)(dr:ru->Bool)(φ:ru->ru):Own:=⟨λk=>match g k with
 |some (.arr T p)=>if dr p then none else some (.arr T (φ p))
 |some (.var row d b)=>some (.var (row.filter λr=> !dr (.tag d r.m)&&φ (.tag d r.m) == .tag d r.m) d b)
 |none=>none,g.bd⟩
theorem Na {g:Own}{dr:ru->Bool}{φ:ru->ru}{k:Nat} : (g.re dr φ) k=match g k with
 |some (.arr T p)=>if dr p then none else some (.arr T (φ p))
 |some (.var row d b)=>some (.var (row.filter λr=> !dr (.tag d r.m)&&φ (.tag d r.m) == .tag d r.m) d b)
 |none=>none:=rfl
theorem GR.re {g:Own}{u:Value}{T:Nat}{p:ru}(h:GR g u T p){dr:ru->Bool}(hd:dr p=false)(φ:ru->ru):GR (g.re dr φ) u T (φ p):=by
 rcases h with h|⟨k,n,c,h1,h2⟩
 ·exact .inl h
 ·exact .inr ⟨k,n,c,h1,by simp[Own.re,h2.1,hd],h2.2⟩
theorem QN {g:Own}{dr:ru->Bool}{φ:ru->ru}{k d b:Nat}{row:List Ref}(h:g.re dr φ k=some (.var row d b)):∃row0,g k=some (.var row0 d b)/\row=row0.filter λr=> !dr (.tag d r.m)&&φ (.tag d r.m) == .tag d r.m:=by
 rw[Na]at h;split at h
 ·split at h<;>cases h
 ·rename_i row0 d0 b0 h0;cases h;exact⟨row0,h0,rfl⟩
 ·cases h
theorem QM {g:Own}{dr:ru->Bool}{φ:ru->ru}{k T:Nat}{p:ru}(h:g.re dr φ k=some (.arr T p)):∃q,g k=some (.arr T q)/\dr q=false/\p=φ q:=by
 rw[Na]at h;split at h
 ·rename_i T0 q h0;split at h
  ·cases h
  ·rename_i hd;cases h;exact⟨q,h0,by simpa using hd,rfl⟩
 ·cases h
 ·cases h
theorem Good.re {P:Program}{g:Own}{w:World}(h:Good P g w){dr:ru->Bool}{φ:ru->ru}(hb:∀k T p,g k=some (.arr T p)->dr p=false->∀j,dr (.blk k j)=false/\φ (.blk k j) = .blk k j):Good P (g.re dr φ) w:=by
 refine⟨λk T p hk=>?_,λk row d b hk=>?_⟩
 ·obtain⟨q,h1,h2,rfl⟩:=QM hk;obtain⟨cs,e,hw,hc⟩:=h.arr k T q h1;refine⟨cs,e,hw,λj u T' hb' hu ht=>?_⟩;have:=(hc j u T' hb' hu ht).re (hb k T q h1 h2 j).1 φ
  rwa[(hb k T q h1 h2 j).2]at this
 ·obtain⟨row0,h1,rfl⟩:=QN hk;obtain⟨cs,e,hw,hc⟩:=h.var k row0 d b h1;refine⟨cs,e,hw,λr hr=>?_⟩;rw[aJ]at hr;simp only[af,gy,beq_iff_eq]at hr;obtain⟨u,hu,hg⟩:=hc r hr.1;refine⟨u,hu,?_⟩;have:=hg.re hr.2.1 φ
  rwa[hr.2.2]at this
def ZV (dp:Nat)(dr:ru->Bool)(φ:ru->ru)(f:OF):Prop:=∀m,f.adY=some m->dr (.tag dp m)=false/\φ (.tag dp m) = .tag dp m
theorem yw.re {P:Program}{F:JH}{g:Own}{dp:Nat}{a:Act}{w:World}{f:OF}(h:yw P F g dp a w f){dr:ru->Bool}{φ:ru->ru}(hk:ZV dp dr φ f):yw P F (g.re dr φ) dp a w f:=by
 have gr:∀{u T m},GR g u T (.tag dp m)->dr (.tag dp m)=false/\φ (.tag dp m) = .tag dp m->GR (g.re dr φ) u T (.tag dp m):=λh1 h2=>by
  have:=h1.re h2.1 φ
  rwa[h2.2]at this
 have old:∀{k:Nat} {T:Nat} {X:Prop},(∀B,g k=some B->(∃p,B = .arr T p)/\X)->∀B,g.re dr φ k=some B->(∃p,B = .arr T p)/\X:=by
  intro k T X hold B hB;cases B with
  | arr T' p=>obtain⟨q,h1,_,rfl⟩:=QM hB;obtain⟨⟨p',e⟩,hx⟩:=hold _ h1;cases e;exact⟨⟨_,rfl⟩,hx⟩
  | var row d b=>obtain⟨row0,h1,_⟩:=QN hB;obtain⟨⟨p',e⟩,_⟩:=hold _ h1;cases e
 have vv:∀{k row b},g k=some (.var row dp b)->g.re dr φ k=some (.var (row.filter λr=> !dr (.tag dp r.m)&&φ (.tag dp r.m) == .tag dp r.m) dp b):=λh1=>by simp[Own.re,h1]
 cases f with
 | sr t T=>
   rcases h with h|⟨k,o,n,c,h1,h2,h3⟩
   ·exact .inl h
   ·exact .inr ⟨k,o,n,c,h1,h2,old h3⟩
 |ep t T off=>obtain⟨k,o,h1,h2,h3⟩:=h;exact⟨k,o,h1,h2,old h3⟩
 |vp t b off=>obtain⟨k,row,h1,h2,h3⟩:=h;exact⟨k,_,h1,h2,vv h3⟩
 |ref t r=>obtain⟨u,h1,h2⟩:=h;exact⟨u,h1,gr h2 (hk _ rfl)⟩
 |xP t i r=>obtain⟨vs,x,u,h1,h2,h3,h4⟩:=h;exact⟨vs,x,u,h1,h2,h3,gr h4 (hk _ rfl)⟩
 | row b r=>obtain⟨k,row,h1,h2,h3⟩:=h;refine⟨k,_,h1,vv h2,?_⟩;rw[aJ];have:=hk _ rfl;exact⟨h3,by simp[this.1,this.2]⟩
 |fn t s=>exact h
theorem Rel.re {dp N:Nat}{g:Own}{dr:ru->Bool}{φ:ru->ru}(h:∀d m,d<dp->dr (.tag d m)=false/\φ (.tag d m) = .tag d m):Rel dp N g (g.re dr φ):=by
 refine⟨λk T d m hd hk=>?_,λk row d b hd hk=>?_,λk B' _ hB=>?_⟩
 ·exact⟨by simp[Own.re,hk,(h d m hd).1,(h d m hd).2],rfl⟩
 ·have:row.filter (λr=> !dr (.tag d r.m)&&φ (.tag d r.m) == .tag d r.m)=row:=List.filter_eq_self.2 λr _=>by simp[(h d r.m hd).1,(h d r.m hd).2]
  simp[Own.re,hk,this]
 ·cases B' with
  | arr T p=>obtain⟨q,h1,_,rfl⟩:=QM hB;exact⟨_,h1,λT' p' hb=>by rcases hb with e|e<;>cases e<;>exact⟨_,_,rfl,rfl⟩⟩
  | var row d b=>obtain⟨row0,h1,_⟩:=QN hB;exact⟨_,h1,λT' p' hb=>by rcases hb with e|e<;>cases e⟩
def Own.YN (g:Own)(k:Nat)(B:YI)(n:Nat):Own:=⟨λk'=>if k'=k then some B else g k',λk'=>if k'=k then n else g.bd k'⟩
abbrev Own.upd (g:Own)(k:Nat)(B:YI):Own:=g.YN k B 0
theorem qw {g:Own}{k k' n:Nat}{B:YI} : (g.YN k B n) k'=if k'=k then some B else g k':=rfl
theorem xZ {g:Own}{k k' n:Nat}{B:YI} : (g.YN k B n).bd k'=if k'=k then n else g.bd k':=rfl
theorem GR.upd {g:Own}{u:Value}{T:Nat}{p:ru}(h:GR g u T p){k m:Nat}{B:YI}(hk:∀T' q,g k≠some (.arr T' q)):GR (g.YN k B m) u T p:=by
 rcases h with h|⟨k',n,c,h1,h2⟩
 ·exact .inl h
 ·have hne:k'≠k:=λe=>by subst e;exact hk _ _ h2.1
  exact .inr ⟨k',n,c,h1,by rw[qw,if_neg hne];exact h2.1,by rw[xZ,if_neg hne];exact h2.2⟩
theorem yw.new {P:Program}{F:JH}{g:Own}{dp:Nat}{a:Act}{w:World}{f:OF}(h:yw P F g dp a w f){k m:Nat}{B:YI}(hk:g k=none)(hs:w.heap.size<=k):yw P F (g.YN k B m) dp a w f:=by
 have hk':∀T' q,g k≠some (.arr T' q):=λT' q e=>by rw[hk]at e;cases e
 have old:∀{k':Nat} {T:Nat} {X:Prop},k'<w.heap.size->(∀B,g k'=some B->(∃p,B = .arr T p)/\X)->∀B',(g.YN k B m) k'=some B'->(∃p,B' = .arr T p)/\X:=by intro k' T X hlt hold B' hB;rw[qw]at hB;rw[if_neg (by omega)]at hB;exact hold B' hB
 have vv:∀{k' row b},g k'=some (.var row dp b)->(g.YN k B m) k'=some (.var row dp b):=λh1=>by rw[qw];rw[if_neg (λe=>by subst e;rw[hk]at h1;cases h1)];exact h1
 cases f with
 | sr t T=>
   rcases h with h|⟨k,o,n,c,h1,h2,h3⟩
   ·exact .inl h
   ·exact .inr ⟨k,o,n,c,h1,h2,old h2 h3⟩
 |ep t T off=>obtain⟨k,o,h1,h2,h3⟩:=h;exact⟨k,o,h1,h2,old h2 h3⟩
 |vp t b off=>obtain⟨k,row,h1,h2,h3⟩:=h;exact⟨k,_,h1,h2,vv h3⟩
 |ref t r=>obtain⟨u,h1,h2⟩:=h;exact⟨u,h1,h2.upd hk'⟩
 |xP t i r=>obtain⟨vs,x,u,h1,h2,h3,h4⟩:=h;exact⟨vs,x,u,h1,h2,h3,h4.upd hk'⟩
 |row b r=>obtain⟨k,row,h1,h2,h3⟩:=h;exact⟨k,_,h1,vv h2,h3⟩
 |fn t s=>exact h
theorem Rel.new {dp N:Nat}{g:Own}{k n:Nat}{B:YI}(hk:g k=none)(hn:N<=k):Rel dp N g (g.YN k B n):=by
 refine⟨λk' T d m _ hx=>?_,λk' row d b _ hx=>?_,λk' B' hlt hB=>?_⟩
 ·have hne:k'≠k:=λe=>by subst e;rw[hk]at hx;cases hx
  rw[qw,xZ,if_neg hne,if_neg hne];exact⟨hx,rfl⟩
 ·rw[qw];rw[if_neg (λe=>by subst e;rw[hk]at hx;cases hx)];exact hx
 ·rw[qw]at hB;rw[if_neg (by omega)]at hB;exact(Rel.refl dp N g).old k' B' hlt hB
section
section
variable {P:Program} {F:JH} {g:Own} {dp:Nat} {Γ : List OF} {a:Act} {w:World}
def H8 (dp:Nat)(mv:List (Nat×ru)):ru->ru
 |.tag d m=>if d=dp then(match mv.lookup m with|some q=>q|none=>.tag d m)else .tag d m
 |p=>p
def yF (ks:List Nat)(f:OF):Bool:=match f.adY with
 |some m=> !ks.contains m
 |none=>true
abbrev Own.mv (g:Own)(dp:Nat)(mv:List (Nat×ru)):Own:=g.re (λ_=>false) (H8 dp mv)
theorem JP {β:Type}{m:Nat} : ∀{l:List (Nat×β)},m ∉ l.map (·.1)->l.lookup m=none
 |[],_=>rfl
 | (k,b)::r,h=>by simp only[aP,aB,not_or]at h;simp only[List.lookup];rw[show(m==k)=false by simpa using h.1];exact JP h.2
theorem Vk {mv:List (Nat×ru)}{m:Nat}(h:m ∉ mv.map (·.1)):H8 dp mv (.tag dp m) = .tag dp m:=by simp[H8,JP h]
theorem aao {mv:List (Nat×ru)}{d m:Nat}(h:d<dp):H8 dp mv (.tag d m) = .tag d m:=by simp only[H8];rw[if_neg (by omega)]
theorem aan {mv:List (Nat×ru)}{m:Nat}{q:ru}(h:mv.lookup m=some q):H8 dp mv (.tag dp m)=q:=by simp[H8,h]
theorem Vb {mv:List (Nat×ru)}{f:OF}(h:yF (mv.map (·.1)) f=true):ZV dp (λ_=>false) (H8 dp mv) f:=λm hm=>by refine⟨rfl,Vk λhc=>?_⟩;simp only[yF,hm,gy,List.contains_eq_mem,decide_eq_false_iff_not]at h;exact h hc
theorem OW.mv (h:OW P F g dp Γ a w)(mv:List (Nat×ru)):OW P F (g.mv dp mv) dp (Γ.filter (yF (mv.map (·.1)))) a w:=
 ⟨h.good.re λ_ _ _ _ _ _=>⟨rfl,rfl⟩,λf hf=>by rw[aJ]at hf;exact(h.fs f hf.1).re (Vb hf.2)⟩
theorem Rel.mv (N:Nat)(mv:List (Nat×ru)):Rel dp N g (g.mv dp mv):=Rel.re λd m h=>⟨rfl,aao h⟩
theorem GR.mv {u:Value}{T m:Nat}{q:ru}{mv:List (Nat×ru)}(h:GR g u T (.tag dp m))(hl:mv.lookup m=some q):GR (g.mv dp mv) u T q:=by
 have:=h.re (dr:=λ_=>false) rfl (H8 dp mv)
 rwa[aan hl]at this
theorem OW.add (h:OW P F g dp Γ a w){f:OF}(hf:yw P F g dp a w f):OW P F g dp (f :: Γ) a w:=
 ⟨h.good,λx hx=>by exact(aB.1 hx).elim (λe=>e▸hf) (λhx=>h.fs x hx)⟩
theorem OW.adF (h:OW P F g dp Γ a w){cs:Array Value}{e T m:Nat}{p:ru}
 (hc:∀j u T',j<m*qJ P T->cs[j]? = some u->(j%qJ P T,T')∈kP P T->GR g u T' (.blk w.heap.size j)):OW P F (g.YN w.heap.size (.arr T p) m) dp Γ a (w.alloc (.cells cs e)):=by
 have hn:g w.heap.size=none:=by
  cases hg:g w.heap.size with
  |none=>rfl
  |some B=>exact absurd (h.good.lt hg) (uw _)
 have hna:∀T' q,g w.heap.size≠some (.arr T' q):=λT' q e=>by rw[hn]at e;cases e
 have hold:∀k,g k≠none->(w.alloc (.cells cs e)).heap[k]? = w.heap[k]?:= λk hk=>by
  cases hg:g k with
  |none=>exact absurd hg hk
  |some B=>exact OE w _ k (h.good.lt hg)
 have hg':=h.good.world hold;refine⟨⟨λk T' q hk=>?_,λk row d b hk=>?_⟩,λf hf=>?_⟩
 ·rw[qw]at hk;split at hk
  ·rename_i e1;cases hk;subst e1;exact⟨cs,e,heap_alloc_new w _,λj u T' hb hu ht=>(hc j u T' (by rwa[xZ,if_pos rfl]at hb) hu ht).upd hna⟩
  ·rename_i hne;obtain⟨cs',e',hw,h2⟩:=hg'.arr k T' q hk;exact⟨cs',e',hw,λj u T' hb hu ht=>(h2 j u T' (by rwa[xZ,if_neg hne]at hb) hu ht).upd hna⟩
 ·rw[qw]at hk;split at hk
  ·cases hk
  ·obtain⟨cs',e',hw,h2⟩:=hg'.var k row d b hk;exact⟨cs',e',hw,λr hr=>let ⟨u,hu,hgr⟩:=h2 r hr;⟨u,hu,hgr.upd hna⟩⟩
 ·exact((h.fs f hf).new hn (aA _)).world (by show _<=(w.heap.push _).size;simp)
theorem OW.newVar (h:OW P F g dp Γ a w){cs:Array Value}{e:Nat}{row:List Ref}{d b:Nat}
 (hc:∀r,r∈row->∃u,cs[r.off]? = some u/\GR g u r.ty (.tag d r.m)):OW P F (g.upd w.heap.size (.var row d b)) dp Γ a (w.alloc (.cells cs e)):=by
 have hn:g w.heap.size=none:=by
  cases hg:g w.heap.size with
  |none=>rfl
  |some B=>exact absurd (h.good.lt hg) (uw _)
 have hna:∀T' q,g w.heap.size≠some (.arr T' q):=λT' q e=>by rw[hn]at e;cases e
 have hold:∀k,g k≠none->(w.alloc (.cells cs e)).heap[k]? = w.heap[k]?:= λk hk=>by
  cases hg:g k with
  |none=>exact absurd hg hk
  |some B=>exact OE w _ k (h.good.lt hg)
 have hg':=h.good.world hold;refine⟨⟨λk T' q hk=>?_,λk row' d' b' hk=>?_⟩,λf hf=>?_⟩
 ·rw[qw]at hk;split at hk
  ·cases hk
  ·rename_i hne;obtain⟨cs',e',hw,h2⟩:=hg'.arr k T' q hk;exact⟨cs',e',hw,λj u T' hb hu ht=>(h2 j u T' (by rwa[xZ,if_neg hne]at hb) hu ht).upd hna⟩
 ·rw[qw]at hk;split at hk
  ·rename_i e1;cases hk;subst e1;exact⟨cs,e,heap_alloc_new w _,λr hr=>let ⟨u,hu,hgr⟩:=hc r hr;⟨u,hu,hgr.upd hna⟩⟩
  ·obtain⟨cs',e',hw,h2⟩:=hg'.var k row' d' b' hk;exact⟨cs',e',hw,λr hr=>let ⟨u,hu,hgr⟩:=h2 r hr;⟨u,hu,hgr.upd hna⟩⟩
 ·exact((h.fs f hf).new hn (aA _)).world (by show _<=(w.heap.push _).size;simp)
theorem setRow_size (w:World)(k:Nat)(cs:Array Value):(w.setRow k cs).heap.size=w.heap.size:=by simp[World.setRow]
theorem zi (w:World){k k':Nat}(cs:Array Value)(h:k'≠k):(w.setRow k cs).heap[k']? = w.heap[k']?:=by simp only[World.setRow];rw[Array.getElem?_modify];rw[if_neg (Ne.symm h)]
theorem OW.QU (h:OW P F g dp Γ a w){k:Nat}{cs cs':Array Value}{e:Nat}(hw:w.heap[k]? = some (.cells cs e (0,0)))
 (hc:∀B,g k=some B->∃T p,B = .arr T p/\∀j u T',j<g.bd k*qJ P T->cs'[j]? = some u->(j%qJ P T,T')∈kP P T->GR g u T' (.blk k j)):OW P F g dp Γ a (w.setRow k cs'):=by
 have hnew:=setRow_heap w k cs cs' e (0,0) hw;refine⟨⟨λk' T p hk=>?_,λk' row d b hk=>?_⟩,λf hf=>(h.fs f hf).world (by rw[setRow_size];exact aA _)⟩
 ·by_cases hkk:k'=k
  ·subst hkk;obtain⟨T',p',hB,h2⟩:=hc _ hk;cases hB;exact⟨cs',e,hnew,h2⟩
  ·rw[zi w cs' hkk];exact h.good.arr k' T p hk
 ·by_cases hkk:k'=k
  ·subst hkk;obtain⟨T',p',hB,_⟩:=hc _ hk;cases hB
  ·rw[zi w cs' hkk];exact h.good.var k' row d b hk
theorem GR.Jz {u:Value}{T:Nat}{p:ru}(h:GR g u T p){k m:Nat}{B:YI}{row:List Ref}{d b:Nat}(hk:g k=some (.var row d b)):GR (g.YN k B m) u T p:=
 h.upd λT' q e=>by rw[hk]at e;cases e
theorem OW.setVar (h:OW P F g dp Γ a w){k:Nat}{cs cs':Array Value}{e b:Nat}{row row':List Ref}(hw:w.heap[k]? = some (.cells cs e (0,0)))(hk:g k=some (.var row dp b))
 (hc:∀r,r∈row'->∃u,cs'[r.off]? = some u/\GR g u r.ty (.tag dp r.m)) {vO:List OF} (Ue:∀f,f∈vO->f ∈ Γ /\ ∀r,f = .row b r->r∈row') :
 OW P F (g.upd k (.var row' dp b)) dp vO a (w.setRow k cs'):=by
 have hnew:=setRow_heap w k cs cs' e (0,0) hw;have hg:(g.upd k (.var row' dp b)) k=some (.var row' dp b):=by simp[qw]
 have ho:∀{k'},k'≠k->(g.upd k (.var row' dp b)) k'=g k':=λhne=>by simp[qw,hne]
 refine⟨⟨λk' T p hk'=>?_,λk' FC d b2 hk'=>?_⟩,λf hf=>?_⟩
 ·by_cases hkk:k'=k
  ·subst hkk;rw[hg]at hk';cases hk'
  ·rw[ho hkk]at hk';obtain⟨c,e',h1,h2⟩:=h.good.arr k' T p hk';exact⟨c,e',by rw[zi w cs' hkk];exact h1,λj u T' hb hu ht=>(h2 j u T' (by rwa[xZ,if_neg hkk]at hb) hu ht).Jz hk⟩
 ·by_cases hkk:k'=k
  ·subst hkk;rw[hg]at hk';cases hk';exact⟨cs',e,hnew,λr hr=>let ⟨u,hu,hgr⟩:=hc r hr;⟨u,hu,hgr.Jz hk⟩⟩
  ·rw[ho hkk]at hk';obtain⟨c,e',h1,h2⟩:=h.good.var k' FC d b2 hk';exact⟨c,e',by rw[zi w cs' hkk];exact h1,λr hr=>let ⟨u,hu,hgr⟩:=h2 r hr;⟨u,hu,hgr.Jz hk⟩⟩
 ·obtain⟨hf,hr⟩:=Ue f hf;have h0:=h.fs f hf;have old:∀{k' T:Nat} {X:Prop},(∀B,g k'=some B->(∃p,B = .arr T p)/\X)->∀B,(g.upd k (.var row' dp b)) k'=some B->(∃p,B = .arr T p)/\X:=by
   intro k' T X hold B hB;by_cases hkk:k'=k
   ·subst hkk;obtain⟨⟨p,e⟩,_⟩:=hold _ hk;cases e
   ·rw[ho hkk]at hB;exact hold B hB
  have hsz:(w.setRow k cs').heap.size=w.heap.size:=setRow_size w k cs';cases f with
  | sr t T=>
    rcases h0 with h0|⟨k',o,n,c,h1,h2,h3⟩
    ·exact .inl h0
    ·exact .inr ⟨k',o,n,c,h1,by rw[hsz];exact h2,old h3⟩
  |ep t T off=>obtain⟨k',o,h1,h2,h3⟩:=h0;exact⟨k',o,h1,by rw[hsz];exact h2,old h3⟩
  | vp t b' off=>
    obtain⟨k',FC,h1,h2,h3⟩:=h0;by_cases hkk:k'=k
    ·subst hkk;rw[hk]at h3;cases h3;exact⟨k',row',h1,h2,hg⟩
    ·exact⟨k',FC,h1,h2,by rw[ho hkk];exact h3⟩
  |ref t r=>obtain⟨u,h1,h2⟩:=h0;exact⟨u,h1,h2.Jz hk⟩
  |xP t i r=>obtain⟨vs,x,u,h1,h2,h3,h4⟩:=h0;exact⟨vs,x,u,h1,h2,h3,h4.Jz hk⟩
  | row b' r=>
    obtain⟨k',FC,h1,h2,h3⟩:=h0;by_cases hkk:k'=k
    ·subst hkk;rw[hk]at h2;cases h2;exact⟨k',row',h1,hg,hr r rfl⟩
    ·exact⟨k',FC,h1,by rw[ho hkk];exact h2,h3⟩
  |fn t s=>exact h0
theorem Rel.setVar {N k b:Nat}{row row':List Ref}(hk:g k=some (.var row dp b)):Rel dp N g (g.upd k (.var row' dp b)):=by
 refine⟨λk' T d m hd hx=>?_,λk' FC d b2 hd hx=>?_,λk' B' hlt hB=>?_⟩
 ·have hne:k'≠k:=λe=>by subst e;rw[hk]at hx;cases hx
  rw[qw,xZ,if_neg hne,if_neg hne];exact⟨hx,rfl⟩
 ·rw[qw];rw[if_neg (λe=>by subst e;rw[hk]at hx;cases hx;omega)];exact hx
 ·rw[qw]at hB;split at hB
  ·rename_i e;subst e;cases hB;exact⟨_,hk,λT p hb=>by rcases hb with e|e<;>cases e⟩
  ·exact(Rel.refl dp N g).old k' B' hlt hB
end
end
section
section
variable {P:Program}
theorem bK {α β:Type}{x:Sem α}{f:α->Sem β}{w w':World}{r:β}(h:(x >>= f).run P w = .ok r w'):∃y w1,x.run P w = .ok y w1/\(f y).run P w1 = .ok r w':=by
 rw[bF]at h;cases hx:x.run P w with
 |ok y w1=>rw[hx]at h;exact⟨y,w1,rfl,h⟩
 |halt e w1=>rw[hx]at h;cases h
theorem dU {α:Type}{x r:α}{w w':World}(h:(pure x:Sem α).run P w = .ok r w'):r=x/\w'=w:=by rw[aX]at h;cases h;exact⟨rfl,rfl⟩
theorem vN {t:TypeId}{d:TypeDesc}{w w':World}(h:(underlying t).run P w = .ok d w'):P.underlying t=some d/\w'=w:=by
 unfold underlying at h;obtain⟨p,w1,h1,h2⟩:=bK h;rw[run_program]at h1;cases h1;split at h2
 ·rename_i d' hd;obtain⟨rfl,rfl⟩:=dU h2;exact⟨hd,rfl⟩
 ·cases h2
theorem BV {t:TypeId}{i:TypeInfo}{w w':World}(h:(typeInfo t).run P w = .ok i w'):P.info? t=some i/\w'=w:=by
 unfold typeInfo at h;obtain⟨p,w1,h1,h2⟩:=bK h;rw[run_program]at h1;cases h1;split at h2
 ·rename_i d' hd;obtain⟨rfl,rfl⟩:=dU h2;exact⟨hd,rfl⟩
 ·cases h2
theorem yI {t:TypeId}{k:Nat}{w w':World}(h:(sizeOf t).run P w = .ok k w'):∃i,P.info? t=some i/\i.size=k/\w'=w:=by unfold sizeOf at h;obtain⟨i,w1,h1,h2⟩:=bK h;obtain⟨h3,rfl⟩:=BV h1;obtain⟨rfl,rfl⟩:=dU h2;exact⟨i,h3,rfl,rfl⟩
theorem VX {t:TypeId}{b:Bool}{w w':World}(h:(isAgg t).run P w = .ok b w'):(∃d,P.underlying t=some d/\b=CW d)/\w'=w:=by unfold isAgg at h;obtain⟨d,w1,h1,h2⟩:=bK h;obtain⟨h3,rfl⟩:=vN h1;cases d<;>(obtain⟨rfl,rfl⟩:=dU h2;exact⟨⟨_,h3,rfl⟩,rfl⟩)
theorem Ld {v:Value}{p:Addr}{w w':World}(h:(gz v).run P w = .ok p w'):v = .pointer (some p)/\w'=w:=by
 unfold gz at h;split at h
 ·obtain⟨rfl,rfl⟩:=dU h;exact⟨rfl,rfl⟩
 ·cases h
theorem zn {s:Sem Value}{v:Value}{w w':World}(h:((do pure (.value (<- s))):Sem Next).run P w = .ok (.value v) w'):s.run P w = .ok v w':=by obtain⟨y,w1,h1,h2⟩:=bK h;obtain⟨e,rfl⟩:=dU h2;cases e;exact h1
theorem SL {p:Addr}{v:Value}{w w':World}(h:(load p).run P w = .ok v w'):w'=w/\∀u,w.cell? p=some u->v=u:=by
 rw[run_load]at h;split at h
 ·rename_i u hu;cases h;exact⟨rfl,λu' hu'=>by rw[hu]at hu';cases hu';rfl⟩
 ·rename_i hn;split at h
  ·cases h;exact⟨rfl,λu hu=>by rw[hn]at hu;cases hu⟩
  ·cases h
theorem CZ {p:Addr} : ∀(n i:Nat) (acc:Array Value) (w:World) (r:Array Value) (w':World),(loadCellsFrom p i n acc).run P w = .ok r w' ->
 w'=w/\(∀j,j<acc.size->r[j]? = acc[j]?)/\∀j,j<n->∀u,w.cell? (p.add (i+j))=some u->r[acc.size+j]? = some u
 | 0,i,acc,w,r,w',h=>by unfold loadCellsFrom at h;obtain⟨rfl,rfl⟩:=dU h;exact⟨rfl,λ_ _=>rfl,λj hj=>absurd hj (Nat.not_lt_zero _)⟩
 | n+1,i,acc,w,r,w',h=>by
   unfold loadCellsFrom at h;obtain⟨v,w1,h1,h2⟩:=bK h;obtain⟨rfl,hv⟩:=SL h1;obtain⟨h3,h4,h5⟩:=CZ n (i+1) (acc.push v) _ r w' h2;refine⟨h3,λj hj=>?_,λj hj u hu=>?_⟩
   ·rw[h4 j (by simp;omega),wJ,if_neg (by omega)]
   ·cases j with
    | zero=>have:=hv u (by simpa using hu);subst this;have:=h4 acc.size (by simp);simpa using this
    | succ j=>
      have:=h5 j (by omega) u (by rw[show i+1+j=i+(j+1) by omega];exact hu);simp only[Array.size_push]at this
      rwa[show acc.size+1+j=acc.size+(j+1) by omega]at this
theorem Et {t:TypeId}{p:Addr}{v:Value}{w w':World}(h:(loadVar t p).run P w = .ok v w') :
 w'=w/\((∃d i,P.underlying t=some d/\CW d=true/\P.info? t=some i/\∀j u,j<i.size->w.cell? (p.add j)=some u->v.cells[j]? = some u) \/
  (∃d,P.underlying t=some d/\CW d=false/\∀u,w.cell? p=some u->v=u)):=by
 unfold loadVar at h;obtain⟨b,w1,h1,h2⟩:=bK h;obtain⟨⟨d,hd,rfl⟩,rfl⟩:=VX h1;cases hb:CW d with
 | true=>rw[hb]at h2;simp only[if_true]at h2;obtain⟨k,w2,h3,h4⟩:=bK h2;obtain⟨i,hi,rfl,rfl⟩:=yI h3;obtain⟨r,w3,h5,h6⟩:=bK h4;unfold loadCells at h5;obtain⟨rfl,_,h7⟩:=CZ _ _ _ _ _ _ h5;obtain⟨rfl,rfl⟩:=dU h6;refine⟨rfl,.inl ⟨d,i,hd,hb,hi,λj u hj hu=>?_⟩⟩;have:=h7 j hj u (by simpa using hu);simpa[lM]using this
 | false=>rw[hb]at h2;obtain⟨rfl,hv⟩:=SL h2;exact⟨rfl,.inr ⟨d,hd,hb,hv⟩⟩
end
end
section
def OF.re (s d:Nat):OF->Option OF
 |.sr x T=>if x=s then some (.sr d T)else none
 |.ep x T o=>if x=s then some (.ep d T o)else none
 |.vp x b o=>if x=s/\b≠d then some (.vp d b o)else none
 |.ref x r=>if x=s then some (.ref d r)else none
 |.xP x i r=>if x=s then some (.xP d i r)else none
 |.fn x k=>if x=s then some (.fn d k)else none
 |.row _ _=>none
def OF.ny (P:Program)(s d off:Nat):OF->Option OF
 |.ep x T o=>if x=s/\o+off<qJ P T then some (.ep d T (o+off))else none
 |.vp x b o=>if x=s/\b≠d then some (.vp d b (o+off))else none
 |_=>none
def OF.uT (P:Program)(s d sz:Nat):OF->Option OF
 |.sr x T=>if x=s/\qJ P T=sz then some (.ep d T 0)else none
 |.ref x r=>if x=s/\r.off=0/\qJ P r.ty=sz then some (.ep d r.ty 0)else none
 |_=>none
def OF.part (s d off k:Nat):OF->Option OF
 |.ref x r=>if x=s/\off<=r.off/\r.off<off+k then some (.ref d ⟨r.off-off,r.ty,r.m⟩)else none
 |_=>none
def OF.Zh (s d i:Nat):OF->Option OF
 |.xP x j r=>if x=s/\j=i then some (.ref d r)else none
 |_=>none
def OF.rowP (b d off k:Nat):OF->Option OF
 |.row x r=>if x=b/\off<=r.off/\r.off<off+k then some (.ref d ⟨r.off-off,r.ty,r.m⟩)else none
 |_=>none
def OF.ldv (Γ : List OF)(s d k:Nat):OF->List OF
 |.vp x b o=>if x=s then Γ.filterMap (OF.rowP b d o k)else []
 |_=>[]
section
variable {P:Program} {F:JH} {g:Own} {dp:Nat} {Γ : List OF} {a:Act} {w:World} {d s:Nat} {v:Value}
theorem yw.copy {f f':OF}(h:yw P F g dp a w f)(hr:f.re s d=some f')(hd:d<a.tmps.size)(hv:v=a.tmps.getD s undef):yw P F g dp (a.put (some d) v) w f':=by
 have hs:=dF (v:=v) hd;subst hv;cases f with
 |sr x T=>simp only[OF.re]at hr;split at hr<;>cases hr;rename_i e;subst e;simp only[yw,hs]at h⊢;exact h
 |ep x T o=>simp only[OF.re]at hr;split at hr<;>cases hr;rename_i e;subst e;simp only[yw,hs]at h⊢;exact h
 | vp x b o=>simp only[OF.re]at hr;split at hr<;>cases hr;rename_i e;obtain⟨rfl,hb⟩:=e;simp only[yw,hs,jD hb]at h⊢;exact h
 |ref x r=>simp only[OF.re]at hr;split at hr<;>cases hr;rename_i e;subst e;simp only[yw,hs]at h⊢;exact h
 |xP x i r=>simp only[OF.re]at hr;split at hr<;>cases hr;rename_i e;subst e;simp only[yw,hs]at h⊢;exact h
 |fn x k=>simp only[OF.re]at hr;split at hr<;>cases hr;rename_i e;subst e;simp only[yw,hs]at h⊢;exact h
 |row b r=>cases hr
theorem yw.ny {f f':OF}{off:Nat}{p:Addr}(h:yw P F g dp a w f)(hr:f.ny P s d off=some f')(hd:d<a.tmps.size)(hp:a.tmps.getD s undef = .pointer (some p))(hv:v = .pointer (some (p.add off))) :
 yw P F g dp (a.put (some d) v) w f':=by
 have hs:=dF (v:=v) hd;cases f with
 | ep x T o=>simp only[OF.ny]at hr;split at hr<;>cases hr;rename_i e;obtain⟨rfl,hlt⟩:=e;obtain⟨k,o',h1,h2,h3⟩:=h;rw[hp]at h1;cases h1;refine⟨k,o'+off,by rw[hs,hv,Addr.l7],h2,λB hB=>?_⟩;obtain⟨hB1,hB2⟩:=h3 B hB;refine⟨hB1,?_⟩;rw[Nat.add_mod,hB2,oP (show off<qJ P T by omega),oP hlt]
 | vp x b o=>simp only[OF.ny]at hr;split at hr<;>cases hr;rename_i e;obtain⟨rfl,hb⟩:=e;obtain⟨k,row,h1,h2,h3⟩:=h;rw[hp]at h2;cases h2;exact⟨k,row,by rw[jD hb];exact h1,by rw[hs,hv,Addr.l7],h3⟩
 |sr _ _=>cases hr
 |ref _ _=>cases hr
 |xP _ _ _=>cases hr
 |row _ _=>cases hr
 |fn _ _=>cases hr
theorem yw.uT {f f':OF}{sz i:Nat}{p:Addr}{m c:Nat}(hg:Good P g w)(h:yw P F g dp a w f)(hr:f.uT P s d sz=some f')(hd:d<a.tmps.size)(hp:a.tmps.getD s undef = .slice (some p) m c)(hv:v = .pointer (some (p.add (i*sz)))) :
 yw P F g dp (a.put (some d) v) w f':=by
 have hs:=dF (v:=v) hd;cases f with
 | sr x T=>
   simp only[OF.uT]at hr;split at hr<;>cases hr;rename_i e;obtain⟨rfl,rfl⟩:=e;rcases h with h|⟨k,o',n,c',h1,h2,h3⟩
   ·rw[QB,hp]at h;cases h
   ·rw[hp]at h1;cases h1;refine⟨k,o'+i*qJ P T,by rw[hs,hv,Addr.l7],h2,λB hB=>?_⟩;obtain⟨hB1,hB2⟩:=h3 B hB;exact⟨hB1,by rw[Nat.add_mul_mod_self_right];exact hB2⟩
 | ref x r=>
   simp only[OF.uT]at hr;split at hr<;>cases hr;rename_i e;obtain⟨rfl,h0,rfl⟩:=e;obtain⟨u,h1,h2⟩:=h;rw[hp,h0]at h1;simp[lM]at h1;subst h1;rcases h2 with h|⟨k,n,c',h3,h4⟩
   ·cases h
   ·cases h3;refine⟨k,0+i*qJ P r.ty,by rw[hs,hv,Addr.l7],hg.lt h4.1,λB hB=>?_⟩;rw[h4.1]at hB;cases hB;exact⟨⟨_,rfl⟩,by simp⟩
 |ep _ _ _=>cases hr
 |vp _ _ _=>cases hr
 |xP _ _ _=>cases hr
 |row _ _=>cases hr
 |fn _ _=>cases hr
theorem yw.part {f f':OF}{off k:Nat}(h:yw P F g dp a w f)(hr:f.part s d off k=some f')(hd:d<a.tmps.size)
 (hv:∀j u,j<k->(a.tmps.getD s undef).cells[off+j]? = some u->v.cells[j]? = some u\/¬ ∃b n c,u = .slice b n c):yw P F g dp (a.put (some d) v) w f':=by
 have hs:=dF (v:=v) hd;cases f with
 | ref x r=>
   simp only[OF.part]at hr;split at hr<;>cases hr;rename_i e;obtain⟨rfl,h1,h2⟩:=e;obtain⟨u,hu,hg⟩:=h;have:=hv (r.off-off) u (by omega) (by rw[show off+(r.off-off)=r.off by omega];exact hu);rcases this with h3|h3
   ·exact⟨u,by rw[hs];exact h3,hg⟩
   ·exact absurd (by rcases hg with e|⟨k,n,c,e,_⟩<;>exact⟨_,_,_,e⟩) h3
 |sr _ _=>cases hr
 |ep _ _ _=>cases hr
 |vp _ _ _=>cases hr
 |xP _ _ _=>cases hr
 |row _ _=>cases hr
 |fn _ _=>cases hr
theorem yw.Zh {f f':OF}{i:Nat}{vs:Array Value}(h:yw P F g dp a w f)(hr:f.Zh s d i=some f')(hd:d<a.tmps.size)(hp:a.tmps.getD s undef = .tuple vs)(hv:vs[i]? = some v):yw P F g dp (a.put (some d) v) w f':=by
 have hs:=dF (v:=v) hd;cases f with
 | xP x j r=>simp only[OF.Zh]at hr;split at hr<;>cases hr;rename_i e;obtain⟨rfl,rfl⟩:=e;obtain⟨vs',y,u,h1,h2,h3,h4⟩:=h;rw[hp]at h1;cases h1;rw[hv]at h2;cases h2;exact⟨u,by rw[hs];exact h3,h4⟩
 |sr _ _=>cases hr
 |ep _ _ _=>cases hr
 |vp _ _ _=>cases hr
 |ref _ _=>cases hr
 |row _ _=>cases hr
 |fn _ _=>cases hr
theorem yw.ldv {f f':OF}{k:Nat}{p:Addr}(hg:Good P g w)(Ue:∀f,f ∈ Γ -> yw P F g dp a w f)(hf:f ∈ Γ)(hr:f'∈f.ldv Γ s d k)(hd:d<a.tmps.size)(hp:a.tmps.getD s undef = .pointer (some p))
 (hv:∀j u,j<k->w.cell? (p.add j)=some u->v.cells[j]? = some u\/¬ ∃b n c,u = .slice b n c):yw P F g dp (a.put (some d) v) w f':=by
 have hs:=dF (v:=v) hd;cases f with
 | vp x b o=>
   simp only[OF.ldv]at hr;split at hr
   ·rename_i e;subst e;rw[bH]at hr;obtain⟨f2,hf2,hr⟩:=hr;cases f2 with
    | row y r=>
      simp only[OF.rowP]at hr;split at hr<;>cases hr;rename_i e;obtain⟨rfl,h1,h2⟩:=e;obtain⟨kk,row,e1,e2,e3⟩:=Ue _ hf;obtain⟨YK,row',e4,e5,e6⟩:=Ue _ hf2;rw[e1]at e4;cases e4;rw[e3]at e5;cases e5;rw[hp]at e2;cases e2;obtain⟨cs,e,hw,hrow⟩:=hg.var _ _ _ _ e3;obtain⟨u,hu,hgr⟩:=hrow r e6;have hc:w.cell? ((⟨kk,o,none⟩:Addr).add (r.off-o))=some u:=by rw[Addr.l7,show o+(r.off-o)=r.off by omega];simp[dR,hw,hu]
      rcases hv (r.off-o) u (by omega) hc with h3|h3
      ·exact⟨u,by rw[hs];exact h3,hgr⟩
      ·exact absurd (by rcases hgr with e|⟨k,n,c,e,_⟩<;>exact⟨_,_,_,e⟩) h3
    |sr _ _=>cases hr
    |ep _ _ _=>cases hr
    |vp _ _ _=>cases hr
    |ref _ _=>cases hr
    |xP _ _ _=>cases hr
    |fn _ _=>cases hr
   ·cases hr
 |sr _ _=>cases hr
 |ep _ _ _=>cases hr
 |ref _ _=>cases hr
 |xP _ _ _=>cases hr
 |row _ _=>cases hr
 |fn _ _=>cases hr
end
end
section
def oq (P:Program)(Γ : List OF)(d:Nat):Op->List OF
 |.move (.tmp s)=> Γ.filterMap (OF.re s d)
 |.assign (.tmp s)=> Γ.filterMap (OF.re s d)
 |.nilCheck (.tmp s)=> Γ.filterMap (OF.re s d)
 | .fieldAddr t (.tmp s) f=>(match P.underlying t with
   | some (.struct fs)=>(match fs[f]? with
     | some fl=>(match P.info? fl.type with
       |some i=>if i.size=0 then []else Γ.filterMap (OF.ny P s d fl.offset)
       |none=>[])
     |none=>[])
   |_=>[])
 | .indexAddr t (.tmp s) _=>(match P.underlying t with
   | some (.slice e)=>(match P.info? e with
     |some i=> Γ.filterMap (OF.uT P s d i.size)
     |none=>[])
   |_=>[])
 | .field t (.tmp s) f=>(match P.underlying t with
   | some (.struct fs)=>(match fs[f]? with
     | some fl=>(match P.underlying fl.type,P.info? fl.type with
       |some de,some i=> Γ.filterMap (OF.part s d fl.offset (if CW de then i.size else 1))
       |_,_=>[])
     |none=>[])
   |_=>[])
 |.extract (.tmp s) i=> Γ.filterMap (OF.Zh s d i)
 | .load t (.tmp s)=>(match P.underlying t,P.info? t with
   |some de,some i=> Γ.flatMap (OF.ldv Γ s d (if CW de then i.size else 1))
   |_,_=>[])
 |_=>[]
section
variable {P:Program} {F:JH} {g:Own} {dp:Nat} {Γ : List OF} {a:Act} {w:World} {d:Nat} {v:Value}
theorem EF {u:Value}(h:∃b n c,u = .slice b n c):u.cells = #[u]:=by obtain⟨b,n,c,rfl⟩:=h;rfl
theorem Ou {α:Type}{k:IntKind}{i:Int}{n:Int}{c:BoundsCode}{r:α}{w w':World}(h:(boundsPanic k i n c:Sem α).run P w = .ok r w'):False:=by
 unfold boundsPanic at h;simp only at h;split at h
 ·obtain⟨_,_,_,h2⟩:=bK h;cases h2
 ·obtain⟨_,_,_,h2⟩:=bK h;cases h2
theorem aat (h:OW P F g dp Γ a w)(hd:d<a.tmps.size){o:Oper}{w':World}(hr:(execOp a.eval o).run P w = .ok (.value v) w'):∀f,f∈oq P Γ d o.op->yw P F g dp (a.put (some d) v) w f:=by
 intro f hf;have e1:∀t,a.eval (.tmp t)=a.tmps.getD t undef:=λt=>rfl;unfold oq at hf;split at hf
 ·rename_i s ho;rw[bH]at hf;obtain⟨f0,h0,h1⟩:=hf;simp only[execOp,ho,aX]at hr;cases hr;exact(h.fs f0 h0).copy h1 hd (e1 s)
 ·rename_i s ho;rw[bH]at hf;obtain⟨f0,h0,h1⟩:=hf;simp only[execOp,ho,aX]at hr;cases hr;exact(h.fs f0 h0).copy h1 hd (e1 s)
 ·rename_i s ho;rw[bH]at hf;obtain⟨f0,h0,h1⟩:=hf;have hv:v=a.tmps.getD s undef:=by
   simp only[execOp,ho,e1]at hr;split at hr
   ·cases hr
   ·cases hr
   ·cases hr
   ·split at hr
    ·cases hr
    ·obtain⟨y,w1,h2,h3⟩:=bK hr;obtain⟨_,w2,_,h5⟩:=bK h3;split at h5
     ·obtain⟨_,_,h6,_⟩:=bK h5;cases h6
     ·have:=(dU h5).1;cases this
      symm;assumption
    ·have:=(dU hr).1;cases this
     symm;assumption
   ·have:=(dU hr).1;cases this;rfl
  exact(h.fs f0 h0).copy h1 hd hv
 ·rename_i t s fi ho;simp only[execOp,ho]at hr;have hr:=zn hr;unfold uK at hr;obtain⟨de,w1,h1,h2⟩:=bK hr;obtain⟨hu,rfl⟩:=vN h1;rw[hu]at hf;split at hf
  ·rename_i fs heq;cases heq;simp only at h2;split at hf
   ·rename_i fl hfl;rw[hfl]at h2;simp only at h2;obtain⟨p,w2,h3,h4⟩:=bK h2;obtain⟨hp,rfl⟩:=Ld h3;obtain⟨q,w3,h5,h6⟩:=bK h4;obtain⟨rfl,rfl⟩:=dU h6;unfold fieldPlace at h5;obtain⟨k,w4,h7,h8⟩:=bK h5;obtain⟨i,hi,rfl,rfl⟩:=yI h7;rw[hi]at hf;simp only at hf;split at hf
    ·cases hf
    ·rename_i hne;rw[if_neg hne]at h8;obtain⟨rfl,_⟩:=dU h8;rw[bH]at hf;obtain⟨f0,h9,h10⟩:=hf;exact(h.fs f0 h9).ny h10 hd hp rfl
   ·cases hf
  ·cases hf
 ·rename_i t s ix ho;simp only[execOp,ho]at hr;have hr:=zn hr;split at hf
  ·rename_i e hu;split at hf
   ·rename_i i hi;rw[bH]at hf;obtain⟨f0,h0,h1⟩:=hf;unfold oN at hr;obtain⟨ki,w1,h2,h3⟩:=bK hr;obtain⟨k,ii⟩:=ki;have hw1:w1=w:=by
     unfold asIntOf at h2;split at h2<;>first|(obtain⟨_,rfl⟩:=dU h2;rfl)|cases h2
    subst hw1;obtain⟨de,w2,h4,h5⟩:=bK h3;obtain⟨hu',rfl⟩:=vN h4;rw[hu]at hu';cases hu';rw[e1]at h5;cases hs:a.tmps.getD s undef with
    | slice base len cap=>
      rw[hs]at h5;obtain⟨bl,w3,h6,h7⟩:=bK h5;obtain⟨rfl,rfl⟩:=dU h6;simp only at h7;obtain⟨de2,w4,h8,h9⟩:=bK h7;obtain⟨hu2,rfl⟩:=vN h8;rw[hu]at hu2;cases hu2;cases base with
      | none=>simp only at h9;exact(Ou h9).elim
      | some p=>
        simp only at h9;split at h9
        ·obtain⟨sz,w5,h12,h13⟩:=bK h9;obtain⟨i',hi',rfl,rfl⟩:=yI h12;rw[hi]at hi';cases hi';have hv:=(dU h13).1;exact(h.fs f0 h0).uT h.good h1 hd hs hv
        ·split at h9
         ·cases h9
         ·exact(Ou h9).elim
    |_=>rw[hs]at h5;obtain⟨_,_,h6,_⟩:=bK h5;cases h6
   ·cases hf
  ·cases hf
 ·rename_i t s fi ho;simp only[execOp,ho,e1]at hr;have hr:=zn hr;unfold yS at hr;obtain⟨de,w1,h1,h2⟩:=bK hr;obtain⟨hu,rfl⟩:=vN h1;rw[hu]at hf;split at hf
  ·rename_i fs heq;cases heq;simp only at h2;split at hf
   ·rename_i fl hfl;rw[hfl]at h2;simp only at h2;obtain⟨cs,w2,h3,h4⟩:=bK h2;have hcs:a.tmps.getD s undef = .agg cs/\w2=w1:=by
     unfold asAgg at h3;split at h3
     ·rename_i heq;obtain⟨rfl,rfl⟩:=dU h3;exact⟨heq,rfl⟩
     ·cases h3
    obtain⟨hcs,rfl⟩:=hcs;unfold part at h4;obtain⟨b,w3,h5,h6⟩:=bK h4;obtain⟨⟨de',hde,rfl⟩,rfl⟩:=VX h5;split at hf
    ·rename_i de2 i aeL hi;rw[hde]at aeL;cases aeL;rw[bH]at hf;obtain⟨f0,h7,h8⟩:=hf;refine(h.fs f0 h7).part h8 hd λj u hj hu=>?_;rw[hcs]at hu;simp only[lM]at hu;cases hb:CW de' with
     | true=>
       rw[hb]at h6 hj;simp only[if_true]at h6 hj;obtain⟨k,w4,h9,h10⟩:=bK h6;obtain⟨i',hi',rfl,rfl⟩:=yI h9;rw[hi]at hi';cases hi';have hv:=(dU h10).1;subst hv
       left
       simp only[lM];have hlt:=(bP.1 hu).1;rw[Array.getElem?_extract];rw[if_pos (by omega)];exact hu
     | false=>
       rw[hb]at h6 hj;simp only[jU,if_false]at h6 hj;have hj0:j=0:=(by omega);subst hj0;rw[kN]at hu;rw[hu]at h6;have hv:=(dU h6).1;subst hv;by_cases hs:∃b n c,v = .slice b n c
       ·left;rw[EF hs];rfl
       ·exact .inr hs
    ·cases hf
   ·cases hf
  ·cases hf
 ·rename_i s i ho;rw[bH]at hf;obtain⟨f0,h0,h1⟩:=hf;simp only[execOp,ho,e1]at hr;have hr:=zn hr;unfold yl at hr;split at hr
  ·rename_i vs heq;split at hr
   ·rename_i x hx;have hv:=(dU hr).1;subst hv;exact(h.fs f0 h0).Zh h1 hd heq hx
   ·cases hr
  ·cases hr
 ·rename_i t s ho;simp only[execOp,ho,e1]at hr;have hr:=zn hr;unfold kD at hr;obtain⟨p,w1,h1,h2⟩:=bK hr;obtain⟨hp,rfl⟩:=Ld h1;obtain⟨_,hld⟩:=Et h2;split at hf
  ·rename_i de i hde hi;rw[List.mem_flatMap]at hf;obtain⟨f0,h3,h4⟩:=hf;refine yw.ldv h.good h.fs h3 h4 hd hp λj u hj hu=>?_;rcases hld with⟨de',i',h5,h6,h7,h8⟩|⟨de',h5,h6,h7⟩
   ·rw[hde]at h5;cases h5;rw[hi]at h7;cases h7;rw[h6]at hj;exact .inl (h8 j u hj hu)
   ·rw[hde]at h5;cases h5;rw[h6]at hj;simp only[jU,if_false]at hj;have hj0:j=0:=(by omega);subst hj0;rw[Addr.add_zero]at hu;have hv:=h7 u hu;subst hv;by_cases hs:∃b n c,v = .slice b n c
    ·left;rw[EF hs];rfl
    ·exact .inr hs
  ·cases hf
 ·cases hf
end
end
section
abbrev RR :=List (Nat×Nat×Option Nat)
def IB (g:Own)(dp:Nat)(cs:Array Value)(R:RR):Prop:=∀e,e∈R->∃u,cs[e.1]? = some u/\match e.2.2 with
 |some m=>GR g u e.2.1 (.tag dp m)
 |none=>QB u
def abW : Value->Bool
 |.slice none 0 0=>true
 |_=>false
theorem KI {v:Value}(h:abW v=true):QB v:=by
 unfold abW at h;split at h
 ·rfl
 ·cases h
def Iq (z:Array Value)(L:List (Nat×Nat)):Option RR:=if L.all λe=>(match z[e.1]? with|some v=>abW v|none=>false)then some (L.map λe=>(e.1,e.2,none))else none
def yR (Γ : List OF)(off size:Nat):Operand->RR
 | .tmp s=> Γ.filterMap λf=>match f with
   |.ref y r=>if y=s/\r.off<size then some (off+r.off,r.ty,some r.m)else none
   |_=>none
 |_=>[]
def RV (place:Nat->Option (Nat×Nat))(Γ : List OF):List (Nat×Operand)->RR->RR
 |[],R=>R
 | (i,x)::r,R=>match place i with
   |some (off,size)=>RV place Γ r ((R.filter λe=>decide (e.1<off)||decide (off+size<=e.1))++yR Γ off size x)
   |none=>R
section
variable {P:Program} {F:JH} {g:Own} {dp:Nat} {Γ : List OF} {a:Act} {w:World}
theorem Uc {z:Array Value}{L:List (Nat×Nat)}{R:RR}(h:Iq z L=some R):IB g dp z R:=by
 unfold Iq at h;split at h
 ·rename_i hz;cases h;intro e he;rw[aF]at he;obtain⟨e0,h0,rfl⟩:=he;rw[aH]at hz;have:=hz e0 h0;cases hc:z[e0.1]? with
  |none=>rw[hc]at this;cases this
  |some v=>rw[hc]at this;exact⟨v,rfl,KI this⟩
 ·cases h
theorem IB.splice {cs:Array Value}{R:RR}(h:IB g dp cs R){off:Nat}{v:Value}(hfit:off+v.cells.size<=cs.size){x:Operand}(Ue:∀f,f ∈ Γ -> yw P F g dp a w f)(hv:a.eval x=v){cs':Array Value}(hcs:cs'.toList=splice cs.toList off v.cells.toList) :
 IB g dp cs' ((R.filter λe=>decide (e.1<off)||decide (off+v.cells.size<=e.1))++yR Γ off v.cells.size x):=by
 have hget:∀j:Nat,cs'[j]? = if j<off then cs[j]? else if j<off+v.cells.size then v.cells[j-off]? else cs[j]?:= λj=>by rw[<- oI,hcs,kG _ _ _ _ (by simpa using hfit)];simp
 intro e he;rw[aV]at he;rcases he with he|he
 ·rw[aJ]at he;obtain⟨h1,h2⟩:=he;obtain⟨u,hu,hg⟩:=h e h1;simp only[Bool.or_eq_true,decide_eq_true_eq]at h2;refine⟨u,?_,hg⟩;rw[hget];rcases h2 with h2|h2
  ·rw[if_pos h2];exact hu
  ·rw[if_neg (by omega),if_neg (by omega)];exact hu
 ·unfold yR at he;split at he
  ·rename_i s;rw[bH]at he;obtain⟨f,hf,he⟩:=he;split at he
   ·rename_i y r;split at he
    ·rename_i hc;cases he;obtain⟨rfl,hlt⟩:=hc;obtain⟨u,hu,hg⟩:=Ue _ hf;have e1:a.eval (.tmp y)=a.tmps.getD y undef:=rfl;rw[e1]at hv;rw[hv]at hu;refine⟨u,?_,hg⟩;rw[hget,if_neg (by omega),if_pos (by omega),show off+r.off-off=r.off by omega];exact hu
    ·cases he
   ·cases he
  ·cases he
theorem LV {place:Nat->Option (Nat×Nat)}(Ue:∀f,f ∈ Γ -> yw P F g dp a w f):∀(ps:List (Nat×Operand)) (cs out:Array Value) (R:RR),IB g dp cs R->lZ place cs (ps.map λp=>(p.1,a.eval p.2))=some out->IB g dp out (RV place Γ ps R)/\out.size=cs.size
 | [],cs,out,R,h,he=>by simp only[gV,lZ]at he;cases he;exact⟨h,rfl⟩
 | (i,x)::r,cs,out,R,h,he=>by
   simp only[aP,lZ]at he;simp only[RV];cases hp:place i with
   |none=>rw[hp]at he;cases he
   | some q=>
     obtain⟨off,size⟩:=q;rw[hp]at he
     dsimp only at he⊢
     split at he
     ·cases he
     ·rename_i hc;have h1:(a.eval x).cells.size=size:=(by simp at hc;exact hc.1);have h2:off+(a.eval x).cells.size<=cs.size:=(by simp at hc;exact hc.2);have hf:=foldl_set (a.eval x).cells off cs h2;have:=LV Ue r _ out _ (h.splice h2 Ue rfl hf) he;rw[h1]at this;refine⟨this.1,this.2.trans ?_⟩;rw[<- iU,hf,length_splice _ _ _ (by simpa using h2)];simp
def mk (d j:Nat):Nat:=1000+d*100+j
def rowOf (d:Nat)(R:RR):List Ref:=R.map λe=>⟨e.1,e.2.1,match e.2.2 with|some m=>m|none=>mk d e.1⟩
theorem Nk {cs:Array Value}{R:RR}(h:IB g dp cs R)(d:Nat):∀r,r∈rowOf d R->∃u,cs[r.off]? = some u/\GR g u r.ty (.tag dp r.m):=by
 intro r hr;rw[rowOf,aF]at hr;obtain⟨e,he,rfl⟩:=hr;obtain⟨u,hu,hg⟩:=h e he;refine⟨u,hu,?_⟩;cases hm:e.2.2 with
 |some m=>rw[hm]at hg;exact hg
 |none=>rw[hm]at hg;exact .inl hg
theorem MP {t:TypeId}{v:Value}{p:Addr}{w w':World}(h:(newVar t v).run P w = .ok p w'):p=⟨w.heap.size,0,none⟩/\w'=w.alloc (.cells v.cells t):=by rw[zh]at h;cases h;exact⟨rfl,rfl⟩
theorem Ir {t:TypeId}{z:Value}{w w':World}(h:(zeroValue t).run P w = .ok z w'):(∃i,P.info? t=some i/\i.zero=some z)/\w'=w:=by
 unfold zeroValue at h;obtain⟨i,w1,h1,h2⟩:=bK h;obtain⟨hi,rfl⟩:=BV h1;split at h2
 ·rename_i v hv;obtain⟨rfl,rfl⟩:=dU h2;exact⟨⟨i,hi,hv⟩,rfl⟩
 ·cases h2
def Rf (d:Nat)(row:List Ref):List OF:=.vp d d 0::row.map (.row d)
theorem OW.Rf (h:OW P F g dp Γ a w){d:Nat}(hd:d<a.tmps.size){cs:Array Value}{e:Nat}{row:List Ref}(hc:∀r,r∈row->∃u,cs[r.off]? = some u/\GR g u r.ty (.tag dp r.m)){N:Nat}(hN:N<=w.heap.size) :
 ∃g',Rel dp N g g'/\OW P F g' dp (Rf d row ++ Γ.filter (AX d)) (a.put (some d) (.pointer (some ⟨w.heap.size,0,none⟩))) (w.alloc (.cells cs e)):=by
 have hn:g w.heap.size=none:=by
  cases hg:g w.heap.size with
  |none=>rfl
  |some B=>exact absurd (h.good.lt hg) (uw _)
 have h1:=(h.drop d (.pointer (some ⟨w.heap.size,0,none⟩))).newVar (cs:=cs) (e:=e) (row:=row) (d:=dp) (b:=d) hc;refine⟨_,Rel.new hn hN,h1.good,λf hf=>?_⟩;rw[aV]at hf;have hs:=dF (v:=.pointer (some ⟨w.heap.size,0,none⟩)) hd;have hg:(g.upd w.heap.size (.var row dp d)) w.heap.size=some (.var row dp d):=by simp[qw]
 rcases hf with hf|hf
 ·simp only[Ab.Rf,aB,aF]at hf;rcases hf with rfl|⟨r,hr,rfl⟩
  ·exact⟨w.heap.size,row,hs,hs,hg⟩
  ·exact⟨w.heap.size,row,hs,hg,hr⟩
 ·exact h1.fs f hf
end
end
end Go.Ab
