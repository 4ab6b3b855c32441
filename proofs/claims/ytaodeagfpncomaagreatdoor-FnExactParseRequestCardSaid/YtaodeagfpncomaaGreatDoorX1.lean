/- What abstract codes mean (part 1). No conditions. -/
import Derived.Below
import Derived.OwnWalk
import Derived.Orders
import Derived.Lib.Bytealg
import Derived.Lib.Overlaps
import Derived.Laws.Externs
import Derived.KernelRfl
import Derived.Lib.ItoaNum
import Derived.Laws.Cells
import Derived.Lib.Strings
import Derived.Laws.BytesString
import Derived.Laws.MakeOwn
import Derived.Laws.Tables
import Derived.Laws.CopyRow
import Derived.Laws.AppendOwn
import Derived.Laws.OwnMore
import Derived.Tactics
import Derived.Shelf.Strings.Builder1
import Derived.Shelf.Strconv.Itoa3
import Derived.Lib.AppendIntMem
import Derived.Shelf.Strings.OnBuilder
import Derived.Shelf.Strings.Prefix
import Derived.Shelf.Strings.Split
import Derived.Shelf.Strconv.AtoiAll
import Derived.Test.YtaodeagfpncomaaGreatDoorProg
import Derived.Lib.ItoaLen
import Derived.Lib.AtoiAllCases
import Derived.Lib.IndexBytes
import Derived.RangeFuncNested
import Derived.RangeFuncBound
import Derived.RangeFuncCalls
import Derived.RangeFuncLeaves
import Derived.Shelf.Abstract
import Derived.Shelf.RegionOpen
import Derived.WalkKit
import Derived.OwnWalkIn
import Derived.TacticsInMore
import Derived.LoopNIn
import Derived.LoopIn
import Derived.RangeFuncBox
import Derived.Maps.AppendAt
import Derived.Deep.Onto
import Derived.ProofKit
import Derived.Lib.LaidTab
import Derived.OpenShut
import Derived.Carry
import Derived.Stop.LaidErr
import Derived.Shelf.Vars
import Derived.Test.YtaodeagfpncomaaGreatDoorCards
import Derived.Test.YtaodeagfpncomaaGreatDoorTie
import Derived.Deep.DeepHandedRow
import Derived.Deep.DeepWitnessRowRef
import Derived.Lay
set_option linter.unusedVariables false
set_option linter.unusedSimpArgs false
open Array renaming getElem?_push->Aq,getElem?_eq_some_iff->dm,getD_eq_getD_getElem?->fK,length_toList->kS,getElem?_eq_getElem->lJ,getElem?_map->nG,getElem?_range->nK,empty_append->pX,getElem?_toList->qw,range->ry,size_append->uZ,getElem?_eq_none->vF,ext'->vO
open BitVec renaming ofInt->Bl
open Bool renaming and_eq_true->ah,not_eq_true'->jM,false_eq_true->nH
open Go.Act renaming put->jv
open Go.Addr renaming add->sG
open Go.Builtin renaming clear_->BF,len_->Di,zeroCells->bI,append_->iK,firstCells->iQ,copy_->lF,lenOf->og
open Go.Deferred renaming ofValue->xq
open Go.Extern renaming allRows->BG,findNext->rM,allNextRows->sD,find->uK,allGenericRows->uz,allTypedRows->vH
open Go.Extern.SlicesOverlaps renaming overlaps->uJ
open Go.Instr renaming extract->Ci,field->Dt,sureAddr->jO,loadAt->nM,fill->pW,indexAt->sN,sliceAt->vP,sliceBounds->wY,fieldAt->yI,storeAt->yJ,alloc->zQ,slice->zT
open Go.IntKind renaming i64->zU
open Go.Lib renaming indexByte->eG
open Go.Op renaming intArith->Dv,bytesLess->jV,equalIn->xW
open Go.Result renaming andThen_ok->bu
open Go.Sem renaming run_pure->bM,run_bind->cu
open Go.Value renaming cells->lW,int->lg,pointer->oh
open Go.World renaming cell?->iy,shape?->zi
open Int renaming natCast_mul->Dj,ofNat_le->Ey,toNat_natCast->ax
open List renaming map_take->AA,replicate_succ->AL,getElem?_range->Az,length_replicate->Ei,getElem?_eq_getElem->aA,mem_cons_self->aG,all_eq_true->aN,mem_cons->aO,mem_append->aS,getElem?_eq_some_iff->aT,mem_filter->aU,length_append->ay,getElem?_append_left->bD,getD->bH,map_cons->bJ,getElem?_take->bW,mem_map->bf,append_assoc->dB,getElem?_map->dD,eq_nil_of_length_eq_zero->dN,mem_filterMap->dQ,replicate->dU,length_cons->dW,getElem?_append_right->dw,length_nil->fB,all_cons->fF,mem_of_getElem?->iE,getElem?_drop->iL,append_nil->iZ,size_toArray->jP,map_nil->jY,nil_append->ja,length_take->jc,mem_of_mem_take->jq,map_toArray->kP,getElem?_eq_none->kV,length_map->kX,getElem?_set->o5,mem_of_mem_drop->o8,getElem?_of_mem->qV,foldl_cons->qj,eq_of_mem_replicate->rq,mem_or_eq_of_mem_set->uk,take_zero->xH,getElem?_zip_eq_some->xY
open List.cons renaming injEq->uj
open Nat renaming min_comm->Bv,mod_lt->Dl,mul_le_mul_right->aW,le_refl->ak,add_mul->dK,zero_add->fE,min->fJ,lt_of_lt_of_le->jH,beq->kU,add_zero->oG,add_assoc->oW,mul_one->sJ,lt_irrefl->sQ,mod_eq_of_lt->sS,add_comm->uw,mul_comm->wG,mul_add->xx,le_of_not_lt->yM
open Option renaming map_some->mD,isNone_iff_eq_none->qW,map_none->zl
open Option.some renaming injEq->aC
open Prod.mk renaming injEq->aK
open UInt8 renaming ofNat->fA
namespace Go.Ab
open Go
theorem xR {p:Prop}(h:p:=by decide):p:=h
theorem nV {p:Prop}(h:p:=by simp):p:=h
theorem oK {p:Prop}(h:p:=by kernel_rfl):p:=h
theorem aI {p:Prop}(h:p:=by omega):p:=h
abbrev aY :=@absurd
abbrev aH :=@beq_iff_eq
abbrev kZ :=@congrArg
abbrev gW :=@decide_eq_false
abbrev aQ :=@decide_eq_false_iff_not
abbrev iH :=@decide_eq_true
abbrev aj :=@decide_eq_true_eq
abbrev ai :=@if_neg
abbrev aF :=@if_pos
abbrev kN :=@if_true
abbrev IH :=Nat->Option (Array Value)
def IH.cell (I:IH)(a:Addr):Option Value:=
 if a.spot.isSome then none else match I a.block with
  |some c=>c[a.off]?
  |none=>none
def IH.le (I J:IH):Prop:=∀b c,I b=some c->J b=some c
theorem IH.le_refl (I:IH):I.le I:=λ_ _ h=>h
theorem IH.le_trans {I J K:IH}(h:I.le J)(k:J.le K):I.le K:=λb c e=>k b c (h b c e)
theorem IH.JM {I J:IH}(h:I.le J){a:Addr}{v:Value}(hc:I.cell a=some v):J.cell a=some v:=by
 unfold IH.cell at *;split at hc
 ·cases hc
 ·cases hb:I a.block with
  |none=>simp[hb]at hc
  |some c=>simp[hb]at hc;rename_i hs;simp[hs,h _ _ hb,hc]
def Agree (I:IH)(w:World):Prop:=∀b c,I b=some c->∃e fr,w.heap[b]? = some (.cells c e fr)
theorem Agree.cell {I:IH}{w:World}(h:Agree I w){a:Addr}{v:Value}(hc:I.cell a=some v):w.cell? a=some v:=by
 unfold IH.cell at hc;split at hc
 ·cases hc
 ·cases hb:I a.block with
  |none=>simp[hb]at hc
  | some c=>obtain⟨e,fr,hw⟩:=h _ _ hb;rename_i hs;simp[hb]at hc;simp[iy,hw,hs,hc]
theorem xB {w:World}{b:Nat}{o:Obj}(h:w.heap[b]? = some o):b<w.heap.size:=(dm.1 h).1
theorem Agree.lt {I:IH}{w:World}(h:Agree I w){b:Nat}{c:Array Value}(hc:I b=some c):b<w.heap.size:=by obtain⟨e,fr,hw⟩:=h _ _ hc;exact xB hw
inductive Cell where
 |lit (v:Value)
 |str (l:List UInt8)
 |sl (sz:Nat) (es:List (List Cell))
 deriving Inhabited
inductive Rd (I:IH):Value->Cell->Prop
 |lit (v:Value) (hv:v.oneCell'=true):Rd I v (.lit v)
 |str (l:List UInt8) (h:l.length<=maxLen):Rd I (.string ⟨⟨l⟩⟩) (.str l)
 |sl (a:Option Addr) (len cap sz:Nat) (es:List (List Cell)) (u:Nat->Nat->Value)
     (hlen:es.length=len) (hcap:len<=cap) (hmax:cap<=maxLen) (hsz:∀e,e∈es->e.length=sz)
     (ha:0<len->a≠none)
     (hcell:∀ad,a=some ad->∀i j,i<len->j<sz->I.cell (ad.add (i*sz+j))=some (u i j))
     (hr:∀i j c,(es.getD i [])[j]? = some c->Rd I (u i j) c):Rd I (.slice a len cap) (.sl sz es)
theorem Rd.mono {I J:IH}(hle:I.le J){v:Value}{c:Cell}(h:Rd I v c):Rd J v c:=by
 induction h with
 |lit v hv=>exact .lit v hv
 |str l h=>exact .str l h
 | sl a len cap sz es u hlen hcap hmax hsz ha hcell hr ih=>exact .sl a len cap sz es u hlen hcap hmax hsz ha (λad e i j hi hj=>IH.JM hle (hcell ad e i j hi hj)) ih
theorem Rd.one {I:IH}{v:Value}{c:Cell}(h:Rd I v c):v.oneCell'=true:=by
 cases h with
 |lit v hv=>exact hv
 |str l h=>rfl
 |sl=>rfl
inductive AC where
 |c (x:Cell)
 |ptr (b off:Nat)
 |own (b n sz:Nat)
 |yE (b i sz off:Nat)
 |sub (b lo n:Nat) (c:Option Nat) (sz:Nat)
 |mM (sz:Nat)
 |EG (cs:List Cell)
 |fn (f:FuncId) (caps:List Nat)
 |opt (T b:Nat)
 |uM (b n:Nat)
 |err (g:Bool)
 |Jj
 deriving Inhabited
abbrev Ren :=Nat->Option (Nat×Nat)
def Ren.le (ρ σ:Ren):Prop:=∀b x,ρ b=some x->σ b=some x
theorem Ren.le_refl (ρ:Ren):ρ.le ρ:=λ_ _ h=>h
def GC (I:IH)(ρ:Ren)(v:Value):AC->Prop
 |.c x=>Rd I v x
 |.ptr b off=>∃k cap,ρ b=some (k,cap)/\v = .pointer (some ⟨k,off,none⟩)
 |.own b n _=>∃k cap a c,ρ b=some (k,cap)/\v = .slice a n c/\n<=c/\c<=cap/\(cap≠0->a=some ⟨k,0,none⟩)
 |.yE b i sz off=>∃k cap,ρ b=some (k,cap)/\v = .pointer (some ⟨k,i*sz+off,none⟩)
 |.sub b lo n c sz=>∃k cap a c',ρ b=some (k,cap)/\v = .slice a n c'/\n<=c'/\lo+c'<=cap/\(∀c0,c=some c0->c'=c0)/\(c'≠0\/(lo=0/\cap≠0)->a=some ⟨k,lo*sz,none⟩)
 |.mM _=>v = .slice none 0 0
 |.EG cs=>∃p:Addr,v = .pointer (some p)/\∀(j:Nat) (c:Cell),cs[j]? = some c->∃u,I.cell (p.add j)=some u/\Rd I u c
 |.fn f caps=>∃ks:List Nat,ks.length=caps.length/\(∀(j b k:Nat),caps[j]? = some b->ks[j]? = some k->∃cap,ρ b=some (k,cap)) /\
  v = .func (.func f) #[] (ks.map λk=>oh (some ⟨k,0,none⟩)).toArray
 |.opt T b=>∃k,ρ b=some (k,T)/\(v = .pointer none\/v = .pointer (some ⟨k,0,none⟩))
 |.uM b n=>∃k cap,ρ b=some (k,cap)/\n<=cap/\((cap=0/\v = .slice none 0 0)\/(cap≠0/\v = .slice (some ⟨k,0,none⟩) n cap))
 |.err g=>if g=true then ∃t p,v = .iface t p else v = .nilIface
 |.Jj=>v.oneCell'=true
theorem GC.mono {I J:IH}(hle:I.le J){ρ σ:Ren}(hr:ρ.le σ){v:Value}{x:AC}(h:GC I ρ v x):GC J σ v x:=by
 cases x with
 |c x=>exact Rd.mono hle h
 |ptr b off=>obtain⟨k,cap,h1,h2⟩:=h;exact⟨k,cap,hr _ _ h1,h2⟩
 |own b n sz=>obtain⟨k,cap,a,c,h1,h2⟩:=h;exact⟨k,cap,a,c,hr _ _ h1,h2⟩
 |yE b i sz off=>obtain⟨k,cap,h1,h2⟩:=h;exact⟨k,cap,hr _ _ h1,h2⟩
 |sub b lo n c sz=>obtain⟨k,cap,a,c',h1,h2⟩:=h;exact⟨k,cap,a,c',hr _ _ h1,h2⟩
 |mM sz=>exact h
 | EG cs=>obtain⟨p,hv,hc⟩:=h;exact⟨p,hv,λj c hj=>let ⟨u,h1,h2⟩:=hc j c hj;⟨u,IH.JM hle h1,h2.mono hle⟩⟩
 | fn f caps=>obtain⟨ks,h1,h2,h3⟩:=h;exact⟨ks,h1,λj b k hb hk=>let ⟨cap,hc⟩:=h2 j b k hb hk;⟨cap,hr _ _ hc⟩,h3⟩
 |opt T b=>obtain⟨k,h1,h2⟩:=h;exact⟨k,hr _ _ h1,h2⟩
 |uM b n=>obtain⟨k,cap,h1,h2⟩:=h;exact⟨k,cap,hr _ _ h1,h2⟩
 |err g=>exact h
 |Jj=>exact h
theorem GC.one {I:IH}{ρ:Ren}{v:Value}{x:AC}(h:GC I ρ v x):v.oneCell'=true:=by
 cases x with
 |c x=>exact Rd.one h
 |ptr b off=>obtain⟨k,cap,h1,rfl⟩:=h;rfl
 |own b n sz=>obtain⟨k,cap,a,c,h1,rfl,_⟩:=h;rfl
 |yE b i sz off=>obtain⟨k,cap,h1,rfl⟩:=h;rfl
 |sub b lo n c sz=>obtain⟨k,cap,a,c',h1,rfl,_⟩:=h;rfl
 |mM sz=>simp only[GC]at h;subst h;rfl
 |EG cs=>obtain⟨p,rfl,hc⟩:=h;rfl
 |fn f caps=>obtain⟨ks,h1,h2,rfl⟩:=h;rfl
 |opt T b=>obtain⟨k,h1,rfl|rfl⟩:=h<;>rfl
 |uM b n=>obtain⟨k,cap,h1,_,⟨_,rfl⟩|⟨_,rfl⟩⟩:=h<;>rfl
 | err g=>
   simp only[GC]at h;split at h
   ·obtain⟨t,p,rfl⟩:=h;rfl
   ·subst h;rfl
 |Jj=>exact h
inductive Box where
 |absent
 |dead
 |var (xs:List AC)
 |dat (sz:Nat) (es:List (List Cell))
 |Eo (sz:Nat) (es:List (List Cell))
 |row (e:Nat) (l:List UInt8)
 deriving Inhabited
def Box.uses (x:Box)(p:Option (Nat×Nat))(k:Nat):Prop:=
 match x with
 |.var _=>∃cap,p=some (k,cap)
 |.dat _ _=>∃cap,p=some (k,cap)/\cap≠0
 |.row _ _=>∃cap,p=some (k,cap)/\cap≠0
 |_=>False
def BZ (I:IH)(ρ:Ren)(w:World)(b:Nat):Box->Prop
 |.absent=>ρ b=none
 |.dead=>True
 |.var xs=>∃k cap cs,ρ b=some (k,cap)/\w.heap[k]? = some (.cells cs cap (0,0))/\cs.size=xs.length /\
  ∀(j:Nat) (u:Value) (x:AC),cs[j]? = some u->xs[j]? = some x->GC I ρ u x
 |.dat sz es=>∃k cap,ρ b=some (k,cap)/\es.length<=cap/\cap<=maxLen/\(∀e,e∈es->e.length=sz) /\
  (cap≠0->∃cs e,w.heap[k]? = some (.cells cs e (0,0))/\cs.size=cap*sz/\(∀(j:Nat) (u:Value),cs[j]? = some u->u.oneCell'=true) /\
   ∀(i j:Nat) (c:Cell),(es.getD i [])[j]? = some c->∃u,cs[i*sz+j]? = some u/\Rd I u c)
 |.Eo sz es=>∃k cap,ρ b=some (k,cap)/\es.length<=cap/\cap<=maxLen/\(∀e,e∈es->e.length=sz) /\
  (cap≠0->∃cs,I k=some cs /\
   ∀(i j:Nat) (c:Cell),(es.getD i [])[j]? = some c->∃u,cs[i*sz+j]? = some u/\Rd I u c)
 |.row e l=>∃k cap,ρ b=some (k,cap)/\l.length<=cap/\cap<=maxLen /\
  (cap≠0->∃cs,w.heap[k]? = some (.cells cs e (0,0))/\cs.size=cap/\(∀(j:Nat) (u:Value),cs[j]? = some u->u.oneCell'=true) /\
   ∀(j:Nat) (x:UInt8),l[j]? = some x->cs[j]? = some (.int .u8 x.toNat))
structure BX (I:IH)(ρ:Ren)(w:World)(bx:Nat->Box):Prop where
 ok:∀b,BZ I ρ w b (bx b)
 inj:∀b b' k,(bx b).uses (ρ b) k->(bx b').uses (ρ b') k->b=b'
 fresh:∀b k,(bx b).uses (ρ b) k->I k=none
theorem BZ.lt {I:IH}{ρ:Ren}{w:World}{b k:Nat}{x:Box}(h:BZ I ρ w b x)(hu:x.uses (ρ b) k):k<w.heap.size:=by
 cases x with
 |absent=>exact hu.elim
 |dead=>exact hu.elim
 | var xs=>obtain⟨k',cap,cs,hr,hw,_⟩:=h;obtain⟨cap',hu⟩:=hu;rw[hr]at hu;simp only[aC,aK]at hu;rw[<- hu.1];exact xB hw
 |Eo sz es=>exact hu.elim
 | row e l=>obtain⟨k',cap,hr,_,_,h⟩:=h;obtain⟨cap',hu,h0⟩:=hu;rw[hr]at hu;simp only[aC,aK]at hu;obtain⟨rfl,rfl⟩:=hu;obtain⟨cs,hw,_⟩:=h h0;exact xB hw
 | dat sz es=>obtain⟨k',cap,hr,_,_,_,h⟩:=h;obtain⟨cap',hu,h0⟩:=hu;rw[hr]at hu;simp only[aC,aK]at hu;obtain⟨rfl,rfl⟩:=hu;obtain⟨cs,e,hw,_⟩:=h h0;exact xB hw
inductive AV where
 |one (x:AC)
 |agg (xs:List AC)
 |AX (xs:List (Bool×List AC))
 deriving Inhabited
def JH (I:IH)(ρ:Ren)(vs:List Value)(xs:List AC):Prop:=
 vs.length=xs.length/\∀(j:Nat) (v:Value) (x:AC),vs[j]? = some v->xs[j]? = some x->GC I ρ v x
theorem JH.mono {I J:IH}(hle:I.le J){ρ σ:Ren}(hr:ρ.le σ){vs:List Value}{xs:List AC}(h:JH I ρ vs xs):JH J σ vs xs:=
 ⟨h.1,λj v x hv hx=>(h.2 j v x hv hx).mono hle hr⟩
def GP (I:IH)(ρ:Ren)(v:Value)(p:Bool×List AC):Prop:=
 if p.1 then ∃cs:Array Value,v = .agg cs/\JH I ρ cs.toList p.2 else ∃x,p.2=[x]/\GC I ρ v x
def GV (I:IH)(ρ:Ren)(v:Value):AV->Prop
 |.one x=>GC I ρ v x
 |.agg xs=>∃cs:Array Value,v = .agg cs/\JH I ρ cs.toList xs
 |.AX ps=>∃vs:Array Value,v = .tuple vs/\vs.size=ps.length/\∀(j:Nat) (v:Value) (p:Bool×List AC),vs[j]? = some v->ps[j]? = some p->GP I ρ v p
theorem GP.mono {I J:IH}(hle:I.le J){ρ σ:Ren}(hr:ρ.le σ){v:Value}{p:Bool×List AC}(h:GP I ρ v p):GP J σ v p:=by
 unfold GP at *;split<;>rename_i hp
 ·rw[aF hp]at h;obtain⟨cs,e,hc⟩:=h;exact⟨cs,e,hc.mono hle hr⟩
 ·rw[ai hp]at h;obtain⟨x,e,hc⟩:=h;exact⟨x,e,hc.mono hle hr⟩
theorem GV.mono {I J:IH}(hle:I.le J){ρ σ:Ren}(hr:ρ.le σ){v:Value}{x:AV}(h:GV I ρ v x):GV J σ v x:=by
 cases x with
 |one x=>exact GC.mono hle hr h
 |agg xs=>obtain⟨cs,e,hc⟩:=h;exact⟨cs,e,hc.mono hle hr⟩
 |AX ps=>obtain⟨vs,e,hl,hc⟩:=h;exact⟨vs,e,hl,λj v p hv hp=>(hc j v p hv hp).mono hle hr⟩
inductive Slot where
 |none
 |v (g:Bool) (x:AV)
def GSl (I:IH)(ρ:Ren)(v:Value):Slot->Prop
 |.none=>True
 |.v g x=>(g=true->GV I ρ v x)/\(g=false->v=undef)
theorem GSl.mono {I J:IH}(hle:I.le J){ρ σ:Ren}(hr:ρ.le σ){v:Value}{s:Slot}(h:GSl I ρ v s):GSl J σ v s:=by
 cases s with
 |none=>trivial
 |v g x=>exact⟨λhg=>(h.1 hg).mono hle hr,h.2⟩
structure iI where
 tm:Nat->Slot
 bx:Nat->Box
theorem iI.ext' {s t:iI}(h1:s.tm=t.tm)(h2:s.bx=t.bx):s=t:=by cases s;cases t;simp at h1 h2;rw[h1,h2]
def iI.put (st:iI)(t:Nat)(s:Slot):iI:=⟨λt'=>if t'=t then s else st.tm t',st.bx⟩
def iI.wu (st:iI)(b:Nat)(x:Box):iI:=⟨st.tm,λb'=>if b'=b then x else st.bx b'⟩
theorem iI.Rf (st:iI)(t t':Nat)(s:Slot):(st.put t s).tm t'=if t'=t then s else st.tm t':=rfl
theorem iI.ajk (st:iI)(t:Nat)(s:Slot):(st.put t s).bx=st.bx:=rfl
theorem iI.ahE (st:iI)(b:Nat)(x:Box):(st.wu b x).tm=st.tm:=rfl
theorem iI.oP (st:iI)(b b':Nat)(x:Box):(st.wu b x).bx b'=if b'=b then x else st.bx b':=rfl
structure GS (I:IH)(ρ:Ren)(n:Nat)(st:iI)(a:Act)(w:World):Prop where
 agree:Agree I w
 bx:BX I ρ w st.bx
 tm:∀t,t<n->GSl I ρ (a.tmps.getD t undef) (st.tm t)
 size:a.tmps.size=n
 defers:a.defers=[]
structure zK (w w':World)(M:Nat->Prop):Prop where
 os:w'.os=w.os
 tape:w'.tape=w.tape
 output:w'.output=w.output
 size:w.heap.size<=w'.heap.size
 block:∀k,k<w.heap.size->¬M k->w'.heap[k]? = w.heap[k]?
theorem zK.refl (w:World)(M:Nat->Prop):zK w w M:=⟨rfl,rfl,rfl,ak _,λ_ _ _=>rfl⟩
theorem zK.trans {a b c:World}{M N:Nat->Prop}(h:zK a b M)(k:zK b c N)(hN:∀x,x<a.heap.size->N x->M x):zK a c M:=
 ⟨k.os.trans h.os,k.tape.trans h.tape,k.output.trans h.output,Nat.le_trans h.size k.size,
  λx hx hm=>(k.block x (jH hx h.size) (λhn=>hm (hN x hx hn))).trans (h.block x hx hm)⟩
inductive mY where
 |t (s:Nat)
 |k (x:AC)
 deriving Inhabited
def Slot.g : Slot->Bool
 |.none=>false
 |.v g _=>g
def Slot.x : Slot->AV
 |.none=>.one .Jj
 |.v _ x=>x
def mY.ev (tm:Nat->Slot):mY->Slot
 |.t s=>tm s
 |.k x=>.v true (.one x)
def mY.slots : mY->List Nat
 |.t s=>[s]
 |.k _=>[]
inductive mG where
 |mv (x:mY)
 |pick (c a b:mY)
 |load (agg:Bool) (k:Nat) (p:mY)
 |store (agg:Bool) (k:Nat) (p x:mY)
 |alloc (l:Nat) (zs:List AC)
 |FP (T e l r:Nat)
 |Nz (l sz n:Nat) (zs:List Cell)
 |box (l:Nat) (x:mY)
 |build (zs:List AC) (parts:List (Nat×Nat×mY))
 |oD (l sz n:Nat) (zs:List Cell) (parts:List (Nat×mY))
 |makes (l sz bytes:Nat) (zs:List Cell) (n m:mY)
 |bin (o:BinOp) (x y:mY)
 |beq (ng:Bool) (x y:mY)
 |not (x:mY)
 |neg (x:mY)
 |KN (k:IntKind) (x:mY)
 |Sv (x:mY)
 |same (x:mY)
 |acz (f:FuncId) (caps:List mY)
 |GM (x:mY) (lo hi:Option mY)
 |ZM (sz:Nat) (x:mY) (lo hi:Option mY)
 |Um (sz n:Nat) (x:mY)
 |Es (x:mY)
 |lH (off:Nat) (x:mY)
 |field (agg:Bool) (off k:Nat) (x:mY)
 |vK (sz:Nat) (x i:mY)
 |Vf (sz n:Nat) (x i:mY)
 |idxs (x i:mY)
 |extract (x:mY) (i:Nat)
 |len (x:mY)
 |lens (x:mY)
 |max (x y:mY)
 |min (x y:mY)
 |append (l sz bytes:Nat) (s x:mY)
 |copy (sz:Nat) (d x:mY)
 |shf (l:Bool) (x y:mY)
 |adV (x:mY)
 |Lj (sz:Nat) (x:mY) (lo hi:Option mY)
 |sl3 (sz:Nat) (x lo hi mx:mY)
 |acR (l sz bytes:Nat) (s x:mY)
 |acV (sz:Nat) (d x:mY)
 |acT (sz:Nat) (zs:List Cell) (x:mY)
 |adX (x y:mY)
 |TM (ng:Bool) (x:mY)
 |ovl (x y:mY)
 |ab5 (x y:mY)
 |abC (l sz bytes:Nat) (zs:List Cell) (s x:mY)
 |stop
 deriving Inhabited
def mG.nT : mG->List mY
 |.mv x|.load _ _ x|.box _ x|.not x|.neg x|.KN _ x|.Sv x|.same x|.Um _ _ x|.Es x|.lH _ x|.field _ _ _ x|.extract x _|.len x|.lens x|.adV x|.acT _ _ x|.TM _ x=>[x]
 |.pick c a b=>[c,a,b]
 |.store _ _ p x=>[p,x]
 |.alloc _ _|.FP _ _ _ _|.Nz _ _ _ _|.stop=>[]
 |.build _ ps=>ps.map (·.2.2)
 |.oD _ _ _ _ ps=>ps.map (·.2)
 |.makes _ _ _ _ n m=>[n,m]
 |.bin _ x y|.beq _ x y|.vK _ x y|.Vf _ _ x y|.idxs x y|.max x y|.min x y|.append _ _ _ x y|.copy _ x y|.shf _ x y|.acR _ _ _ x y|.acV _ x y|.adX x y|.ab5 x y|.ovl x y|.abC _ _ _ _ x y=>[x,y]
 |.sl3 _ x a b c=>[x,a,b,c]
 |.acz _ cs=>cs
 |.GM x lo hi|.ZM _ x lo hi|.Lj _ x lo hi=>x::(lo.toList++hi.toList)
structure FR where
 vc:Prop
 v:AV
 sets:List (Nat×Box)
abbrev uI (k:IntKind)(n:Int):AV:=.one (.c (.lit (.int k n)))
abbrev tH (b:Bool):AV:=.one (.c (.lit (.bool b)))
abbrev Ip (l:List UInt8):AV:=.one (.c (.str l))
abbrev vSl (sz:Nat)(es:List (List Cell)):AV:=.one (.c (.sl sz es))
def FR.bad : FR:=⟨False,.one .Jj,[]⟩
def FR.ok (v:AV):FR:=⟨True,v,[]⟩
def FW (o:BinOp)(k:IntKind)(a b:Int):FR:=
 match o with
 |.add=>.ok (uI k (k.wrap (a+b)))
 |.sub=>.ok (uI k (k.wrap (a-b)))
 |.mul=>.ok (uI k (k.wrap (a*b)))
 |.quo=>⟨b≠0,uI k (k.wrap (a.tdiv b)),[]⟩
 |.rem=>⟨b≠0,uI k (a.tmod b),[]⟩
 |.xor=>.ok (uI k (k.wrap (Bl k.bits a ^^^ Bl k.bits b).toNat))
 |.and=>.ok (uI k (k.wrap (Bl k.bits a &&& Bl k.bits b).toNat))
 |.eql=>.ok (tH (a==b))
 |.neq=>.ok (tH (a != b))
 |.lss=>.ok (tH (decide (a<b)))
 |.leq=>.ok (tH (decide (a<=b)))
 |.gtr=>.ok (tH (decide (b<a)))
 |.geq=>.ok (tH (decide (b<=a)))
 |_=>.bad
def F6 (o:BinOp)(a b:List UInt8):FR:=
 match o with
 |.add=>⟨a.length+b.length<=maxLen,Ip (a++b),[]⟩
 |.eql=>.ok (tH (a==b))
 |.neq=>.ok (tH (!(a==b)))
 |.lss=>.ok (tH (jV a b))
 |.leq=>.ok (tH (jV a b||a==b))
 |.gtr=>.ok (tH (!(jV a b||a==b)))
 |.geq=>.ok (tH (!(jV a b)))
 |_=>.bad
def OU (o:BinOp)(x y:AV):FR:=
 match x,y with
 |.one (.c (.lit (.int k a))),.one (.c (.lit (.int k' b)))=>⟨k=k'/\(FW o k a b).vc,(FW o k a b).v,[]⟩
 |.one (.c (.str a)),.one (.c (.str b))=>F6 o a b
 |_,_=>.bad
def Wu (neg:Bool)(x y:AV):FR:=
 match x,y with
 |.one (.c (.lit (.bool a))),.one (.c (.lit (.bool b)))=>.ok (tH (if neg then a != b else a==b))
 |_,_=>.bad
def OI (t:Bool)(x y:AV):AV:=
 match x,y with
 |.one (.c (.lit (.bool a))),.one (.c (.lit (.bool b)))=>tH (bif t then a else b)
 |_,_=>if t then x else y
def Box.arr : Box->Option (Nat×List (List Cell))
 |.dat sz es=>some (sz,es)
 |.Eo sz es=>some (sz,es)
 |_=>none
def dataOf (bx:Nat->Box):AC->Option Cell
 |.c x=>some x
 |.mM sz=>some (.sl sz [])
 | .own b n sz=>match(bx b).arr with
   |some (_,es)=>some (.sl sz (es.take n))
   |none=>none
 |_=>none
def IB (bx:Nat->Box):List AC->Option (List Cell)
 |[]=>some []
 | x::r=>match dataOf bx x,IB bx r with
   |some c,some cs=>some (c::cs)
   |_,_=>none
def nJ : List AC->List Nat
 |[]=>[]
 |.own b _ _::r=>b::nJ r
 |_::r=>nJ r
def FT : Box->Box
 |.dat sz es=>.Eo sz es
 |x=>x
def x9 (bx:Nat->Box):List AC->Prop
 |[]=>True
 | .own b n sz::r=>(match(bx b).arr with
   |some (sz',es)=>sz'=sz/\n<=es.length
   |none=>False)/\x9 bx r
 |_::r=>x9 bx r
def U8 (bx:Nat->Box)(l:List Nat):List (Nat×Box):=l.map λb=>(b,FT (bx b))
def AV.cells : AV->List AC
 |.one x=>[x]
 |.agg xs=>xs
 |.AX _=>[]
def AV.flat : AV->Prop
 |.AX _=>False
 |_=>True
def splice {α:Type}(xs:List α)(off:Nat)(ys:List α):List α:=xs.take off++ys++xs.drop (off+ys.length)
def yw (agg:Bool)(k:Nat)(p:AV)(bx:Nat->Box):FR:=
 match p with
 | .one (.ptr b off)=>match bx b with
   | .var xs=>if agg then⟨off+k<=xs.length,.agg ((xs.drop off).take k),[]⟩else match xs[off]? with
     |some x=>.ok (.one x)
     |none=>.bad
   |_=>.bad
 | .one (.yE b i sz off)=>match(bx b).arr with
   | some (sz',es)=>if agg then⟨sz'=sz/\i<es.length/\off+k<=sz,.agg ((((es.getD i []).drop off).take k).map .c),[]⟩
     else⟨sz'=sz/\i<es.length/\off<sz,.one (.c ((es.getD i []).getD off default)),[]⟩
   |_=>.bad
 |.one (.EG cs)=>if agg then⟨k<=cs.length,.agg ((cs.take k).map .c),[]⟩else⟨0<cs.length,.one (.c (cs.getD 0 default)),[]⟩
 |_=>.bad
def Bi (agg:Bool)(k:Nat)(p x:AV)(bx:Nat->Box):FR:=
 match x,agg with
 |.AX _,_=>.bad
 |.one _,true=>.bad
 |.agg _,false=>.bad
 | x,_=>match p with
   | .one (.ptr b off)=>match bx b with
     |.var xs=>⟨x.cells.length=k/\off+k<=xs.length,.one .Jj,[(b,.var (splice xs off x.cells))]⟩
     |_=>.bad
   | .one (.yE b i sz off)=>match bx b,IB bx x.cells with
     |.dat sz' es,some cs=>⟨sz'=sz/\cs.length=k/\i<es.length/\off+k<=sz/\x9 bx x.cells/\(nJ x.cells).contains b=false,.one .Jj,U8 bx (nJ x.cells)++[(b,.dat sz (es.set i (splice (es.getD i []) off cs)))]⟩
     |_,_=>.bad
   |_=>.bad
def Qz {α:Type}(zs:List α):List (Nat×List α)->List α
 |[]=>zs
 |(off,xs)::r=>Qz (splice zs off xs) r
def VA (n:Nat):Nat×Nat×AV->Prop
 |(off,sz,x)=>x.cells.length=sz/\off+sz<=n/\x.flat
def xU (ev:mY->AV)(bx:Nat->Box)(n sz:Nat):List (Nat×mY)->Option (List (Nat×List Cell))
 |[]=>some []
 | (i,x)::r=>match IB bx (ev x).cells,xU ev bx n sz r with
   |some cs,some l=>some ((i,cs)::l)
   |_,_=>none
def rZ (ev:mY->AV):List (Nat×mY)->List Nat
 |[]=>[]
 |(_,x)::r=>nJ (ev x).cells++rZ ev r
def zC (ev:mY->AV)(bx:Nat->Box):List (Nat×mY)->Prop
 |[]=>True
 |(_,x)::r=>x9 bx (ev x).cells/\zC ev bx r
def LZ (es:List (List Cell)):List (Nat×List Cell)->List (List Cell)
 |[]=>es
 |(i,cs)::r=>LZ (es.set i cs) r
def bytesOf : List (List Cell)->Option (List UInt8)
 |[]=>some []
 | [.lit (.int .u8 n)]::r=>match bytesOf r with
   |some l=>some (fA n.toNat::l)
   |none=>none
 |_=>none
def FQ : List AV->Option (List Nat)
 |[]=>some []
 |.one (.ptr b 0)::r=>(FQ r).map (b :: ·)
 |_=>none
def bnd (ev:mY->AV)(o:Option mY)(dflt:Nat):Option Int:=
 match o with
 |none=>some dflt
 | some x=>match ev x with
   |.one (.c (.lit (.int _ n)))=>some n
   |_=>none
def yx (sz:Nat)(x:AV)(bx:Nat->Box):Option (Prop×List (List Cell)):=
 match x with
 |.one (.c (.sl sz' es))=>some (sz'=sz,es)
 |.one (.mM _)=>some (True,[])
 | .one (.own b n sz')=>match(bx b).arr with
   |some (Ae,es)=>some (sz'=sz/\Ae=sz/\n<=es.length,es.take n)
   |_=>none
 | .one (.sub b lo n _ sz')=>match(bx b).arr with
   |some (Ae,es)=>some (sz'=sz/\Ae=sz/\lo+n<=es.length,(es.drop lo).take n)
   |_=>none
 |_=>none
def CS : AV->Option (Nat×Nat×Nat×Option Nat×Nat)
 |.one (.own b n sz)=>some (b,0,n,none,sz)
 |.one (.sub b lo n c sz)=>some (b,lo,n,c,sz)
 |_=>none
def VM (l:Bool)(x y:AV):FR:=
 match x,y with
 |.one (.c (.lit (.int k a))),.one (.c (.lit (.int _ b)))=>⟨0<=b,uI k (if l then k.wrap (a*2^(min b.toNat k.bits))else a.fdiv (2^(min b.toNat k.bits))),[]⟩
 |_,_=>.bad
def Su (x:AV):FR:=
 match x with
 |.one (.sub _ _ _ (some c) _)=>.ok (uI .i64 c)
 |.one (.mM _)=>.ok (uI .i64 0)
 |_=>.bad
def Ih (sz:Nat)(x:AV)(lo:Option Int)(hi:Nat->Option Int):FR:=
 match CS x with
 | some (b,l,n,c,sz')=>match lo,hi n with
   |some p,some q=>⟨sz'=sz/\0<=p/\p<=q/\q<=(match c with|some c=>c|none=>n:Nat),.one (.sub b (l+p.toNat) (q-p).toNat (c.map (· - p.toNat)) sz),[]⟩
   |_,_=>.bad
 |none=>.bad
def ZK (sz:Nat)(x p q m:AV):FR:=
 match CS x,p,q,m with
 |some (_,_,n,c,sz'),.one (.c (.lit (.int _ p))),.one (.c (.lit (.int _ q))),.one (.c (.lit (.int _ m)))=>⟨sz'=sz/\0<=p/\p<=q/\q<=m/\m<=(match c with|some c=>c|none=>n:Nat),.one .Jj,[]⟩
 |_,_,_,_=>.bad
def Ui (l sz bytes:Nat)(s x:AV)(bx:Nat->Box):FR:=
 match yx sz x bx,s with
 | some (p,ys),.one (.sub b lo n (some c) sz')=>match bx b with
   | .dat Ae es=>if n+ys.length<=c then⟨p/\sz'=sz/\Ae=sz/\lo+n<=es.length,.one (.sub b lo (n+ys.length) (some c) sz),[(b,.dat sz (splice es (lo+n) ys))]⟩
     else⟨p/\sz'=sz/\Ae=sz/\lo+n<=es.length/\(match bx l with|.absent=>True|_=>False)/\(n+ys.length)*(bytes+sz+1)<=2^46,.one (.own l (n+ys.length) sz),[(l,.dat sz ((es.drop lo).take n++ys))]⟩
   |_=>.bad
 |_,_=>.bad
def truncS (m:Nat):AV->AV
 |.one (.sub b lo n c sz)=>.one (.sub b lo (min n m) c sz)
 |x=>x
def Uk (sz:Nat)(d x:AV)(bx:Nat->Box):FR:=
 match CS d with
 | some (b,lo,n,_,sz')=>match yx sz (truncS n x) bx with
   | some (p,ys)=>match bx b with
     |.dat Ae es=>⟨p/\sz'=sz/\Ae=sz/\lo<=es.length,uI .i64 (fJ ys.length n:Nat),[(b,.dat sz (splice es lo (ys.take n)))]⟩
     |_=>.bad
   |none=>.bad
 |none=>.bad
def Tf (l sz bytes:Nat)(zs:List Cell)(s x:AV)(bx:Nat->Box):FR:=
 match s,x with
 | .one (.sub b lo n (some c) sz'),.one (.c (.lit (.int k q)))=>match bx b with
   |.dat Ae es=>⟨k = .i64/\sz'=sz/\Ae=sz/\lo+n<=es.length/\0<=q/\c<n+q.toNat/\(match bx l with|.absent=>True|_=>False)/\(n+q.toNat)*(bytes+sz+1)<=2^46,
    .one (.own l (n+q.toNat) sz),[(l,.dat sz ((es.drop lo).take n++dU q.toNat zs))]⟩
   |_=>.bad
 |.one (.mM _),.one (.c (.lit (.int k q)))=>⟨k = .i64/\0<q/\(match bx l with|.absent=>True|_=>False)/\q.toNat*(bytes+sz+1)<=2^46,.one (.own l q.toNat sz),[(l,.dat sz (dU q.toNat zs))]⟩
 |_,_=>.bad
def Hu (ng:Bool)(x:AV):FR:=
 match x with
 |.one (.err g)=>.ok (tH (if ng then g else !g))
 |_=>.bad
def LQ (x y:AV):FR:=
 match x,y with
 |.one (.c (.str a)),.one (.c (.str b))=>.ok (uI .i64 (Go.Lib.compareBytes a b))
 |_,_=>.bad
def MB (x y:AV):FR:=
 match x,y with
 |.one (.c (.str a)),.one (.c (.lit (.int k c)))=>⟨k = .u8,uI .i64 (eG a c.toNat.toUInt8),[]⟩
 |_,_=>.bad
def Vy (x y:AV)(bx:Nat->Box):FR:=
 match CS x,CS y with
 | some (b,_,m,_,_),some (b',_,m',_,_)=>match bx b,bx b' with
   |.dat _ _,.dat sz _=>⟨b≠b'/\sz≠0/\0<m/\0<m',tH false,[]⟩
   |_,_=>.bad
 |_,_=>.bad
def Uj (sz:Nat)(zs:List Cell)(d:AV)(bx:Nat->Box):FR:=
 match CS d with
 | some (b,lo,n,_,sz')=>match bx b with
   |.dat Ae es=>⟨sz'=sz/\Ae=sz/\lo<=es.length,.AX [],[(b,.dat sz (splice es lo (dU n zs)))]⟩
   |_=>.bad
 |none=>.bad
def mG.f (op:mG)(ev:mY->AV)(bx:Nat->Box):FR:=
 match op with
 |.mv x=>.ok (ev x)
 | .pick c a b=>match ev c with
   |.one (.c (.lit (.bool t)))=>.ok (OI t (ev a) (ev b))
   |_=>.bad
 |.load agg k p=>yw agg k (ev p) bx
 |.store agg k p x=>Bi agg k (ev p) (ev x) bx
 |.alloc l zs=>⟨(match bx l with|.absent=>True|_=>False),.one (.ptr l 0),[(l,.var zs)]⟩
 |.FP T e l r=>⟨(match bx l with|.absent=>True|_=>False)/\(match bx r with|.absent=>True|_=>False)/\l≠r,.one (.ptr l 0),[(r,.row e []),(l,.var [.opt T l,.uM r 0])]⟩
 |.Nz l sz n zs=>⟨(match bx l with|.absent=>True|_=>False),.one (.yE l 0 sz 0),[(l,.dat sz (dU n zs))]⟩
 |.box l x=>⟨(match bx l with|.absent=>True|_=>False)/\(ev x).flat,.one (.ptr l 0),[(l,.var (ev x).cells)]⟩
 |.build zs ps=>⟨(∀p,p∈ps->VA zs.length (p.1,p.2.1,ev p.2.2)),.agg (Qz zs (ps.map λp=>(p.1,(ev p.2.2).cells))),[]⟩
 | .oD l sz n zs ps=>match xU ev bx n sz ps with
   |some l'=>⟨(match bx l with|.absent=>True|_=>False)/\(∀p,p∈l'->p.1<n/\p.2.length=sz)/\zC ev bx ps,.one (.own l n sz),U8 bx (rZ ev ps)++[(l,.dat sz (LZ (dU n zs) l'))]⟩
   |none=>.bad
 | .makes l sz bytes zs n m=>match ev n,ev m with
   | .one (.c (.lit (.int _ n))),.one (.c (.lit (.int _ m)))=>⟨(match bx l with|.absent=>True|_=>False)/\0<=n/\n<=m/\bytes*m<=2^47/\m<=2^47,.one (.own l n.toNat sz),[(l,.dat sz (dU n.toNat zs))]⟩
   |_,_=>.bad
 |.bin o x y=>OU o (ev x) (ev y)
 |.beq ng x y=>Wu ng (ev x) (ev y)
 | .not x=>match ev x with
   |.one (.c (.lit (.bool b)))=>.ok (tH (!b))
   |_=>.bad
 | .neg x=>match ev x with
   |.one (.c (.lit (.int k n)))=>.ok (uI k (k.wrap (0-n)))
   |_=>.bad
 | .KN k x=>match ev x with
   |.one (.c (.lit (.int _ n)))=>.ok (uI k (k.wrap n))
   |_=>.bad
 | .Sv x=>match yx 1 (ev x) bx with
   | some (p,es)=>match bytesOf es with
     |some l=>⟨p/\l.length<=maxLen,Ip l,[]⟩
     |none=>.bad
   |none=>.bad
 | .same x=>match ev x with
   |.one (.c (.str l))=>.ok (Ip l)
   |_=>.bad
 | .acz f cs=>match FQ (cs.map ev)with
   |some l=>.ok (.one (.fn f l))
   |none=>.bad
 | .GM x lo hi=>match ev x with
   | .one (.c (.str s))=>match bnd ev lo 0,bnd ev hi s.length with
     |some a,some b=>⟨0<=a/\a<=b/\b<=s.length,Ip ((s.take b.toNat).drop a.toNat),[]⟩
     |_,_=>.bad
   |_=>.bad
 | .ZM sz x lo hi=>match ev x with
   | .one (.c (.sl sz' es))=>match bnd ev lo 0,bnd ev hi es.length with
     |some a,some b=>⟨sz'=sz/\0<=a/\a<=b/\b<=es.length,vSl sz ((es.take b.toNat).drop a.toNat),[]⟩
     |_,_=>.bad
   | .one (.mM sz')=>match bnd ev lo 0,bnd ev hi 0 with
     |some a,some b=>⟨a=0/\b=0,.one (.mM sz'),[]⟩
     |_,_=>.bad
   | .one (.own l n sz')=>match bnd ev lo 0,bnd ev hi n with
     |some a,some b=>⟨a=0/\0<=b/\b<=n,.one (.own l b.toNat sz'),[]⟩
     |_,_=>.bad
   |_=>.bad
 | .Um sz n x=>match ev x with
   | .one (.yE b 0 sz' 0)=>match bx b with
     |.dat Ae es=>⟨sz'=sz/\Ae=sz/\es.length=n/\n≠0,.one (.own b n sz),[]⟩
     |_=>.bad
   |_=>.bad
 | .Es x=>match ev x with
   |.one (.ptr b o)=>.ok (.one (.ptr b o))
   |.one (.yE b i sz o)=>.ok (.one (.yE b i sz o))
   |.one (.EG cs)=>.ok (.one (.EG cs))
   |.one (.fn f cs)=>.ok (.one (.fn f cs))
   |_=>.bad
 | .lH off x=>match ev x with
   |.one (.ptr b o)=>.ok (.one (.ptr b (o+off)))
   |.one (.yE b i sz o)=>.ok (.one (.yE b i sz (o+off)))
   |.one (.EG cs)=>.ok (.one (.EG (cs.drop off)))
   |_=>.bad
 | .field agg off k x=>match ev x with
   | .agg xs=>if agg then⟨off+k<=xs.length,.agg ((xs.drop off).take k),[]⟩else match xs[off]? with
     |some x=>.ok (.one x)
     |none=>.bad
   |_=>.bad
 | .vK sz x i=>match ev x,ev i with
   |.one (.c (.sl sz' es)),.one (.c (.lit (.int _ i)))=>⟨sz'=sz/\0<=i/\i<es.length,.one (.EG (es.getD i.toNat [])),[]⟩
   |.one (.own b n sz'),.one (.c (.lit (.int _ i)))=>⟨sz'=sz/\0<=i/\i<n,.one (.yE b i.toNat sz 0),[]⟩
   |.one (.sub b lo n _ sz'),.one (.c (.lit (.int _ i)))=>⟨sz'=sz/\0<=i/\i<n,.one (.yE b (lo+i.toNat) sz 0),[]⟩
   |_,_=>.bad
 | .Vf sz n x i=>match ev x,ev i with
   |.one (.yE b 0 sz' 0),.one (.c (.lit (.int _ i)))=>⟨sz'=sz/\0<=i/\i<n,.one (.yE b i.toNat sz 0),[]⟩
   |_,_=>.bad
 | .idxs x i=>match ev x,ev i with
   |.one (.c (.str s)),.one (.c (.lit (.int _ i)))=>⟨0<=i/\i<s.length,uI .u8 (s.getD i.toNat 0).toNat,[]⟩
   |_,_=>.bad
 | .extract x i=>match ev x with
   | .AX ps=>match ps[i]? with
     |some (true,xs)=>.ok (.agg xs)
     |some (false,[x])=>.ok (.one x)
     |_=>.bad
   |_=>.bad
 | .lens x=>match ev x with
   |.one (.c (.str s))=>.ok (uI .i64 s.length)
   |_=>.bad
 | .len x=>match ev x with
   |.one (.c (.sl _ es))=>.ok (uI .i64 es.length)
   |.one (.mM _)=>.ok (uI .i64 0)
   |.one (.own _ n _)=>.ok (uI .i64 n)
   |.one (.sub _ _ n _ _)=>.ok (uI .i64 n)
   |_=>.bad
 | .max x y=>match ev x,ev y with
   |.one (.c (.lit (.int k a))),.one (.c (.lit (.int k' b)))=>⟨k=k',uI k (if b>a then b else a),[]⟩
   |_,_=>.bad
 | .min x y=>match ev x,ev y with
   |.one (.c (.lit (.int k a))),.one (.c (.lit (.int k' b)))=>⟨k=k',uI k (if b<a then b else a),[]⟩
   |_,_=>.bad
 | .append l sz bytes s x=>match yx sz (ev x) bx with
   | some (p,ys)=>match ev s with
     |.one (.mM _)=>⟨p/\(match bx l with|.absent=>True|_=>False)/\ys.length*(bytes+sz+1)<=2^46,.one (.own l ys.length sz),[(l,.dat sz ys)]⟩
     | .one (.own b n sz')=>match bx b with
       |.dat Ae es=>⟨p/\(match bx l with|.absent=>True|_=>False)/\sz'=sz/\Ae=sz/\n<=es.length/\(n+ys.length)*(bytes+sz+1)<=2^46/\b≠l,
        .one (.own l (n+ys.length) sz),[(b,.dead),(l,.dat sz (es.take n++ys))]⟩
       |_=>.bad
     |_=>.bad
   |none=>.bad
 | .copy sz d x=>match yx sz (ev x) bx with
   | some (p,ys)=>match ev d with
     | .one (.own b n sz')=>match bx b with
       |.dat Ae es=>⟨p/\sz'=sz/\Ae=sz/\n<=es.length,uI .i64 (fJ ys.length n:Nat),[(b,.dat sz (splice es 0 (ys.take n)))]⟩
       |_=>.bad
     |.one (.mM _)=>.ok (uI .i64 0)
     |_=>.bad
   |none=>.bad
 |.shf l x y=>VM l (ev x) (ev y)
 |.adV x=>Su (ev x)
 |.Lj sz x lo hi=>Ih sz (ev x) (bnd ev lo 0) (bnd ev hi)
 |.sl3 sz x p q m=>ZK sz (ev x) (ev p) (ev q) (ev m)
 |.acR l sz bytes s x=>Ui l sz bytes (ev s) (ev x) bx
 |.acV sz d x=>Uk sz (ev d) (ev x) bx
 |.acT sz zs x=>Uj sz zs (ev x) bx
 |.adX x y=>LQ (ev x) (ev y)
 |.TM ng x=>Hu ng (ev x)
 |.ovl x y=>Vy (ev x) (ev y) bx
 |.ab5 x y=>MB (ev x) (ev y)
 |.stop=>.bad
 |.abC l sz bytes zs s x=>Tf l sz bytes zs (ev s) (ev x) bx
def lvl : AV->List Nat
 |.one (.ptr b _)=>[b]
 |.one (.own b _ _)=>[b]
 |.one (.yE b _ _ _)=>[b]
 |.one (.sub b _ _ _ _)=>[b]
 |_=>[]
def mG.rd (op:mG)(ev:mY->AV):List Nat:=
 match op with
 |.load _ _ p=>lvl (ev p)
 |.store _ _ p x=>lvl (ev p)++(match ev p with|.one (.yE _ _ _ _)=>nJ (ev x).cells|_=>[])
 |.oD l _ _ _ ps=>l::rZ ev ps
 |.alloc l _|.Nz l _ _ _|.box l _|.makes l _ _ _ _ _=>[l]
 |.FP _ _ l r=>[l,r]
 |.Sv x=>lvl (ev x)
 |.Um _ _ x=>lvl (ev x)
 |.append l _ _ s x=>l::(lvl (ev s)++lvl (ev x))
 |.copy _ d x=>lvl (ev d)++lvl (ev x)
 |.acR l _ _ s x=>l::(lvl (ev s)++lvl (ev x))
 |.acV _ d x=>lvl (ev d)++lvl (ev x)
 |.acT _ _ x=>lvl (ev x)
 |.ovl x y=>lvl (ev x)++lvl (ev y)
 |.abC l _ _ _ s _=>l::lvl (ev s)
 |_=>[]
end Go.Ab
section
namespace Go.Ab
inductive PK where
 |any
 |own (rs:List (Nat×Nat))
 |var (rs:List (Nat×Nat))
 |fn (s:Nat)
 |sl (T:Nat)
 deriving DecidableEq
structure V6 where
 ps:List PK
 rs:List (List (Nat×Nat))
 deriving DecidableEq
inductive Knd where
 |none
 |rd
 |ow (sg:V6)
 deriving DecidableEq
def kindOf : Nat->Knd
 |5=>.rd
 |6=>.rd
 |7=>.rd
 |8=>.ow ⟨[.any],[[(0,30)]]⟩
 |9=>.ow ⟨[.any],[[(0,25)]]⟩
 |10=>.rd
 |11=>.rd
 |12=>.rd
 |13=>.rd
 |17=>.rd
 |18=>.rd
 |19=>.ow ⟨[.any],[[(2,25),(3,25),(7,25),(8,41),(9,44)],[]]⟩
 |20=>.rd
 |22=>.rd
 |23=>.rd
 |24=>.rd
 |25=>.rd
 |26=>.rd
 |27=>.ow ⟨[.any],[[(0,30)]]⟩
 |28=>.rd
 |29=>.rd
 |30=>.rd
 |31=>.ow ⟨[.any],[[(3,25),(4,41)]]⟩
 |33=>.rd
 |34=>.rd
 |35=>.rd
 |36=>.rd
 |37=>.rd
 |38=>.rd
 |40=>.rd
 |42=>.rd
 |43=>.rd
 |44=>.rd
 |45=>.rd
 |46=>.rd
 |47=>.rd
 |48=>.rd
 |49=>.rd
 |50=>.rd
 |51=>.rd
 |52=>.rd
 |53=>.ow ⟨[.any],[[(0,25)],[]]⟩
 |54=>.ow ⟨[.any],[[(0,44)],[]]⟩
 |55=>.ow ⟨[.any],[[(3,25),(4,41)],[]]⟩
 |56=>.rd
 |57=>.rd
 |58=>.rd
 |61=>.rd
 |62=>.rd
 |63=>.rd
 |64=>.rd
 |65=>.rd
 |66=>.rd
 |67=>.rd
 |68=>.rd
 |69=>.rd
 |70=>.ow ⟨[.any],[[(5,25),(6,41)]]⟩
 |71=>.rd
 |72=>.rd
 |73=>.rd
 |74=>.rd
 |76=>.rd
 |77=>.rd
 |78=>.rd
 |79=>.rd
 |80=>.rd
 |81=>.rd
 |83=>.rd
 |85=>.rd
 |86=>.rd
 |87=>.rd
 |88=>.rd
 |89=>.rd
 |91=>.rd
 |92=>.ow ⟨[.var [],.any],[[],[]]⟩
 |93=>.ow ⟨[.var [],.any],[[]]⟩
 |94=>.ow ⟨[.any],[[(1,25),(2,25),(6,25),(7,41)],[]]⟩
 |95=>.rd
 |96=>.rd
 |97=>.rd
 |98=>.rd
 |99=>.rd
 |100=>.rd
 |101=>.rd
 |102=>.rd
 |103=>.rd
 |104=>.rd
 |105=>.rd
 |106=>.rd
 |107=>.rd
 |108=>.rd
 |109=>.ow ⟨[.any],[[(3,25),(4,41)]]⟩
 |110=>.rd
 |111=>.rd
 |112=>.rd
 |121=>.rd
 |122=>.rd
 |123=>.rd
 |125=>.rd
 |129=>.rd
 |130=>.rd
 |131=>.rd
 |132=>.rd
 |133=>.rd
 |134=>.rd
 |135=>.rd
 |136=>.rd
 |137=>.rd
 |138=>.rd
 |139=>.rd
 |140=>.rd
 |142=>.rd
 |143=>.ow ⟨[.var []],[[],[]]⟩
 |144=>.ow ⟨[.var [],.any,.any,.any],[[],[]]⟩
 |145=>.ow ⟨[.var []],[[],[]]⟩
 |146=>.rd
 |147=>.rd
 |148=>.ow ⟨[.any],[[(0,25)],[]]⟩
 |149=>.rd
 |150=>.rd
 |151=>.rd
 |154=>.rd
 |159=>.rd
 |160=>.rd
 |161=>.rd
 |162=>.rd
 |163=>.ow ⟨[.any],[[(0,41)]]⟩
 |164=>.rd
 |165=>.rd
 |166=>.rd
 |167=>.rd
 |174=>.rd
 |175=>.rd
 |177=>.rd
 |179=>.rd
 |180=>.rd
 |181=>.rd
 |182=>.rd
 |183=>.ow ⟨[.own [(3,25),(4,41)],.any],[[(3,25),(4,41)],[]]⟩
 |184=>.rd
 |187=>.rd
 |188=>.rd
 |189=>.rd
 |191=>.rd
 |193=>.rd
 |194=>.rd
 |196=>.rd
 |197=>.rd
 |200=>.rd
 |201=>.rd
 |202=>.rd
 |204=>.rd
 |205=>.rd
 |206=>.rd
 |207=>.rd
 |208=>.rd
 |209=>.rd
 |210=>.rd
 |211=>.rd
 |212=>.rd
 |213=>.rd
 |214=>.rd
 |215=>.rd
 |216=>.rd
 |217=>.rd
 |218=>.rd
 |219=>.rd
 |220=>.rd
 |_=>.none
def aei : Nat->V6
 |0=>⟨[.any],[[(3,25),(4,41)],[]]⟩
 |_=>⟨[],[]⟩
end Go.Ab
end
namespace Go.Ab
open Go
inductive wL where
 |blk (k j:Nat)
 |tag (d m:Nat)
 |dead
 deriving DecidableEq
structure Ref where
 off:Nat
 ty:Nat
 m:Nat
def Ref.beq (r s:Ref):Bool:=kU r.off s.off&&(kU r.ty s.ty&&kU r.m s.m)
theorem Ref.beq_iff {r s:Ref} : r.beq s=true<->r=s:=by cases r;cases s;simp[Ref.beq]
inductive Blk where
 |arr (T:Nat) (p:wL)
 |var (row:List Ref) (d b:Nat)
structure Own where
 b:Nat->Option Blk
 bd:Nat->Nat
instance : CoeFun Own λ_=>Nat->Option Blk:=⟨Own.b⟩
def refsOf (P:Program):Nat->TypeId->Nat->List (Nat×Nat)
 |0,_,_=>[]
 | n+1,t,o=>match P.underlying t with
   |some (.slice _)=>[(o,t)]
   |some (.struct fs)=>fs.toList.flatMap λf=>refsOf P n f.type (o+f.offset)
   |_=>[]
def nP (P:Program)(T:Nat):List (Nat×Nat):=match P.underlying T with
 |some (.slice e)=>refsOf P 6 e 0
 |_=>[]
def vw (P:Program)(T:Nat):Nat:=match P.underlying T with
 |some (.slice e)=>(match P.info? e with|some i=>i.size|none=>0)
 |_=>0
def Zt (u:Value):Prop:=u = .slice none 0 0
def Own.at (g:Own)(k n T:Nat)(p:wL):Prop:=g k=some (.arr T p)/\n<=g.bd k
def GR (g:Own)(u:Value)(T:Nat)(p:wL):Prop:=Zt u\/∃k n c,u = .slice (some ⟨k,0,none⟩) n c/\g.at k n T p
structure Good (P:Program)(g:Own)(w:World):Prop where
 arr:∀k T p,g k=some (.arr T p)->∃cs e,w.heap[k]? = some (.cells cs e (0,0))/\∀j u T',j<g.bd k*vw P T->cs[j]? = some u->(j%vw P T,T')∈nP P T->GR g u T' (.blk k j)
 var:∀k row d b,g k=some (.var row d b)->∃cs e,w.heap[k]? = some (.cells cs e (0,0))/\∀r,r∈row->∃u,cs[r.off]? = some u/\GR g u r.ty (.tag d r.m)
inductive OF where
 |sr (t T:Nat)
 |ep (t T off:Nat)
 |vp (t b off:Nat)
 |ref (t:Nat) (r:Ref)
 |Bg (t i:Nat) (r:Ref)
 |row (b:Nat) (r:Ref)
 |fn (t s:Nat)
def OF.beq : OF->OF->Bool
 |.sr t T,.sr t' T'=>kU t t'&&kU T T'
 |.ep t T o,.ep t' T' o'=>kU t t'&&(kU T T'&&kU o o')
 |.vp t b o,.vp t' b' o'=>kU t t'&&(kU b b'&&kU o o')
 |.ref t r,.ref t' r'=>kU t t'&&r.beq r'
 |.Bg t i r,.Bg t' i' r'=>kU t t'&&(kU i i'&&r.beq r')
 |.row b r,.row b' r'=>kU b b'&&r.beq r'
 |.fn t s,.fn t' s'=>kU t t'&&kU s s'
 |_,_=>false
theorem OF.beq_iff {f g:OF} : f.beq g=true<->f=g:=by cases f<;>cases g<;>simp[OF.beq,Ref.beq_iff]
instance : BEq OF:=⟨OF.beq⟩
instance : LawfulBEq OF where
 eq_of_beq h:=OF.beq_iff.1 h
 rfl:=OF.beq_iff.2 rfl
def vV {β:Type}(n:Nat)(k:Nat->β):β:=match n with
 |0=>k 0
 |m+1=>k (Nat.succ m)
def QE {β:Type}(r:Ref)(k:Ref->β):β:=match r with
 |⟨a,b,c⟩=>vV a λa=>vV b λb=>vV c λc=>k ⟨a,b,c⟩
def U7 {β:Type}(f:OF)(k:OF->β):β:=match f with
 |.sr t T=>vV t λt=>vV T λT=>k (.sr t T)
 |.ep t T o=>vV t λt=>vV T λT=>vV o λo=>k (.ep t T o)
 |.vp t b o=>vV t λt=>vV b λb=>vV o λo=>k (.vp t b o)
 |.ref t r=>vV t λt=>QE r λr=>k (.ref t r)
 |.Bg t i r=>vV t λt=>vV i λi=>QE r λr=>k (.Bg t i r)
 |.row b r=>vV b λb=>QE r λr=>k (.row b r)
 |.fn t s=>vV t λt=>vV s λs=>k (.fn t s)
def Ho {α β:Type}(fc:α->(α->β)->β):List α->(List α->β)->β
 |[],k=>k []
 |x::r,k=>fc x λx=>Ho fc r λr=>k (x::r)
abbrev QD {β:Type}(Γ : List OF)(k:List OF->β):β:=Ho U7 Γ k
theorem EO {β:Type}{n:Nat}{k:Nat->β} : vV n k=k n:=by cases n<;>rfl
theorem abY {β:Type}{r:Ref}{k:Ref->β} : QE r k=k r:=by simp[QE,EO]
theorem TC {β:Type}{f:OF}{k:OF->β} : U7 f k=k f:=by cases f<;>simp[U7,EO,abY]
theorem DK {α β:Type}{fc:α->(α->β)->β}(hf:∀x k,fc x k=k x):∀{l:List α} {k:List α->β},Ho fc l k=k l
 |[],_=>rfl
 |x::r,k=>by rw[Ho,hf,DK hf]
theorem NK {β:Type}{Γ : List OF}{k:List OF->β} : QD Γ k=k Γ :=DK λ_ _=>TC
def OF.abb : OF->List Nat
 |.sr t _=>[t]
 |.ep t _ _=>[t]
 |.vp t b _=>[t,b]
 |.ref t _=>[t]
 |.Bg t _ _=>[t]
 |.row b _=>[b]
 |.fn t _=>[t]
def OF.ajw : OF->Option Nat
 |.ref _ r=>some r.m
 |.Bg _ _ r=>some r.m
 |.row _ r=>some r.m
 |_=>none
def Ov :=Nat->FuncId->Nat->Prop
def BP (P:Program)(F:Ov)(g:Own)(dp:Nat)(a:Act)(w:World):OF->Prop
 |.sr t T=>∀ad n c,a.tmps.getD t undef = .slice (some ad) n c->∃k o,ad=⟨k,o,none⟩/\k<w.heap.size/\∀B,g k=some B->(∃p,B = .arr T p)/\o%vw P T=0
 |.ep t T off=>∃k o,a.tmps.getD t undef = .pointer (some ⟨k,o,none⟩)/\k<w.heap.size/\∀B,g k=some B->(∃p,B = .arr T p)/\o%vw P T=off
 |.vp t b off=>∃k row,a.tmps.getD b undef = .pointer (some ⟨k,0,none⟩)/\a.tmps.getD t undef = .pointer (some ⟨k,off,none⟩)/\g k=some (.var row dp b)
 |.ref t r=>∃u,(a.tmps.getD t undef).cells[r.off]? = some u/\GR g u r.ty (.tag dp r.m)
 |.Bg t i r=>∃vs x u,a.tmps.getD t undef = .tuple vs/\vs[i]? = some x/\x.cells[r.off]? = some u/\GR g u r.ty (.tag dp r.m)
 |.row b r=>∃k row,a.tmps.getD b undef = .pointer (some ⟨k,0,none⟩)/\g k=some (.var row dp b)/\r∈row
 |.fn t s=>∃f caps,a.tmps.getD t undef = .func (.func f) #[] caps/\F s f caps.size
structure OW (P:Program)(F:Ov)(g:Own)(dp:Nat)(Γ : List OF)(a:Act)(w:World):Prop where
 good:Good P g w
 fs:∀f,f ∈ Γ -> BP P F g dp a w f
structure Rel (dp N:Nat)(g g':Own):Prop where
 tag:∀k T d m,d<dp->g k=some (.arr T (.tag d m))->g' k=some (.arr T (.tag d m))/\g'.bd k=g.bd k
 var:∀k row d b,d<dp->g k=some (.var row d b)->g' k=some (.var row d b)
 old:∀k B',k<N->g' k=some B'->∃B,g k=some B/\∀T p,B = .arr T p\/B' = .arr T p->∃q q',B = .arr T q/\B' = .arr T q'
def SE (ps:List PK):List OF:=(ps.zipIdx).flatMap λp=>match p.1 with
 |.any=>[]
 |.own rs=>rs.map λe=>.ref p.2 ⟨e.1,e.2,p.2*20+e.1⟩
 |.var rs=>.vp p.2 p.2 0::rs.map λe=>.row p.2 ⟨e.1,e.2,p.2*20+e.1⟩
 |.fn s=>[.fn p.2 s]
 |.sl T=>[.sr p.2 T]
def Vx (sg:V6)(n:Nat):List OF:=match sg.rs with
 |[rs]=>rs.map λe=>.ref n ⟨e.1,e.2,20000+e.1⟩
 |l=>(l.zipIdx).flatMap λp=>p.1.map λe=>.Bg n p.2 ⟨e.1,e.2,20000+p.2*20+e.1⟩
def XD (sg:V6):List OF:=(sg.ps.zipIdx).flatMap λp=>match p.1 with
 |.var rs=>.vp p.2 p.2 0::rs.map λe=>.row p.2 ⟨e.1,e.2,30000+p.2*20+e.1⟩
 |_=>[]
def Oe (sg:V6)(n:Nat):List OF:=Vx sg n++XD sg
def FV : Ov:=λs f n=>match s with
 |0=>kindOf f = .rd
 |s+1=>∃sg,kindOf f = .ow sg/\sg.ps=(aei s).ps++dU n .any/\sg.rs=(aei s).rs
inductive Sl (P:Program)(f:FuncId)(vs:List Value)(w:World):(Ending->World->Prop)->Prop
 |XZ:Sl P f vs w λ_ _=>True
 |rd (h:kindOf f = .rd):Sl P f vs w λ_ w'=>zK w w' λ_=>False
 |ow (sg:V6) (h:kindOf f = .ow sg) (hl:vs.length=sg.ps.length) (g:Own) (dp:Nat) (hin:OW P FV g dp (SE sg.ps) { tmps:=vs.toArray,defers:=[] } w) :
     Sl P f vs w λe w'=>∃v g',e = .returned v/\Rel dp w.heap.size g g'/\OW P FV g' dp (Oe sg vs.length) { tmps:=(vs++[v]).toArray,defers:=[] } w'
def PM (I:IH)(ρ:Ren)(vs:List Value)(xs:List AV):Prop:=
 vs.length=xs.length/\∀(j:Nat) (v:Value) (x:AV),vs[j]? = some v->xs[j]? = some x->GV I ρ v x
def zX (l:List Box):Nat->Box:=λb=>l.getD b .absent
structure Tabs (P:Program)(I:IH):Prop where
 pow:∀g,P.globalNamed "internal/strconv.uint64pow10" = some g->I g=some (Go.Lib.pow10Tab.map λz=>lg .u64 z).toArray
 mxl:∀g,P.globalNamed "internal/bytealg.MaxLen" = some g->∃m,I.cell ⟨g,0,none⟩=some (.int .i64 m)
 ers:∀g,P.globalNamed "strconv.ErrSyntax" = some g->∃v,I.cell ⟨g,0,none⟩=some v/\(v = .nilIface\/∃t p,v = .iface t p)
 err:∀g,P.globalNamed "strconv.ErrRange" = some g->∃v,I.cell ⟨g,0,none⟩=some v/\(v = .nilIface\/∃t p,v = .iface t p)
theorem Tabs.mono {P:Program}{I J:IH}(h:Tabs P I)(hle:I.le J):Tabs P J:=
 ⟨λg hg=>hle _ _ (h.pow g hg),λg hg=>(h.mxl g hg).imp λ_ h=>IH.JM hle h,λg hg=>(h.ers g hg).imp λ_ h=>⟨IH.JM hle h.1,h.2⟩,λg hg=>(h.err g hg).imp λ_ h=>⟨IH.JM hle h.1,h.2⟩⟩
def oN (P:Program)(f:FuncId)(args:List AV)(fp:List Box)(post:AV->List Box->Prop):Prop:=
 ∀ (I:IH) (ρ:Ren) (w:World) (vs:List Value),Tabs P I->Agree I w->BX I ρ w (zX fp)->PM I ρ vs args ->
   ∀ X,Sl P f vs w X->Calls P f vs.toArray w λe w'=>(∃(v:Value) (J:IH) (σ:Ren) (r:AV) (bs:List Box),e = .returned v/\post r bs/\GV J σ v r/\Agree J w'/\BX J σ w' (zX bs) /\
     I.le J/\zK w w' (λk=>∃b,(zX fp b).uses (ρ b) k) /\
     (∀b k,(zX bs b).uses (σ b) k->w.heap.size<=k\/∃b',(zX fp b').uses (ρ b') k) /\
     (∀k,k<w.heap.size->(¬ ∃b,(zX fp b).uses (ρ b) k)->J k=I k) /\
     (∀b,b<fp.length->σ b=ρ b))/\X e w'
def agl (P:Program)(f:FuncId)(args:List AV)(fp:List Box)(post:AV->List Box->Prop):Prop:=
 ∀ (I:IH) (ρ:Ren) (w:World) (vs:List Value),Tabs P I->Agree I w->BX I ρ w (zX fp)->PM I ρ vs args ->
   Calls P f vs.toArray w λe w'=>∃(v:Value) (J:IH) (σ:Ren) (r:AV) (bs:List Box),e = .returned v/\post r bs/\GV J σ v r/\Agree J w'/\BX J σ w' (zX bs) /\
    I.le J/\zK w w' (λk=>∃b,(zX fp b).uses (ρ b) k) /\
    (∀b k,(zX bs b).uses (σ b) k->w.heap.size<=k\/∃b',(zX fp b').uses (ρ b') k) /\
    (∀k,k<w.heap.size->(¬ ∃b,(zX fp b).uses (ρ b) k)->J k=I k) /\
    (∀b,b<fp.length->σ b=ρ b)
def MG (f:FuncId)(e:Bool):Bool:=match kindOf f with
 |.none=>true
 |.rd=>e
 |.ow _=>false
theorem oN.of0 {P:Program}{f:FuncId}{args:List AV}{fp:List Box}{post:AV->List Box->Prop}(hk:MG f fp.isEmpty=true)(h:agl P f args fp post):oN P f args fp post:=by
 intro I ρ w vs hT hA hB hV X hX;have h0:=h I ρ w vs hT hA hB hV;cases hX with
 |XZ=>exact h0.mono λe w' h=>⟨h,trivial⟩
 | rd hr=>refine h0.mono λe w' h=>⟨h,?_⟩;obtain⟨_,_,_,_,_,_,_,_,_,_,_,hF,_⟩:=h;refine⟨hF.os,hF.tape,hF.output,hF.size,λk hk' _=>hF.block k hk' ?_⟩;rintro⟨b,hb⟩;unfold MG at hk;rw[hr]at hk;have:fp=[]:=(by simpa using hk);subst this;simp[zX,Box.uses]at hb
 | ow sg hr=>unfold MG at hk;rw[hr]at hk;cases hk
def iW (P:Program)(f:FuncId)(args:List AV)(r:AV):Prop:=oN P f args [] λr' bs=>r'=r/\bs=[]
inductive Cv (bx:Nat->Box):AC->AC->Prop
 |refl (x:AC):Cv bx x x
 |mM (sz:Nat):Cv bx (.mM sz) (.c (.sl sz []))
 |own (b n sz:Nat) (es:List (List Cell)) (h:(bx b).arr=some (sz,es)) (hn:n<=es.length):Cv bx (.own b n sz) (.c (.sl sz (es.take n)))
inductive CvL (bx:Nat->Box):List AC->List AC->Prop
 |nil:CvL bx [] []
 |cons {x y:AC} {xs ys:List AC} (h:Cv bx x y) (t:CvL bx xs ys):CvL bx (x::xs) (y::ys)
inductive CvA (bx:Nat->Box):AV->AV->Prop
 |one {x y:AC} (h:Cv bx x y):CvA bx (.one x) (.one y)
 |agg {xs ys:List AC} (h:CvL bx xs ys):CvA bx (.agg xs) (.agg ys)
inductive KA (bx:Nat->Box):List AV->List AV->Prop
 |nil:KA bx [] []
 |cons {x y:AV} {xs ys:List AV} (h:CvA bx x y) (t:KA bx xs ys):KA bx (x::xs) (y::ys)
def Cell.isLit : Cell->Bool
 |.sl _ _=>false
 |_=>true
def AC.vC : AC->Bool
 |.c _=>true
 |.err _=>true
 |_=>false
def AC.isLit : AC->Bool
 |.c x=>x.isLit
 |_=>false
def AV.all (p:AC->Bool):AV->Bool
 |.one x=>p x
 |.agg xs=>xs.all p
 |.AX ps=>ps.all λq=>q.2.all p
def AV.owns : AV->List Nat
 |.one x=>nJ [x]
 |.agg xs=>nJ xs
 |.AX ps=>ps.flatMap λq=>nJ q.2
def iI.Eo (st:iI)(bs:List Nat):iI:=⟨st.tm,λb=>if b∈bs then FT (st.bx b)else st.bx b⟩
def iI.qo (st:iI):List (Nat×Box)->iI
 |[]=>st
 |(b,x)::r=>(st.wu b x).qo r
def iI.yf (st:iI):Option Nat->Slot->iI
 |none,_=>st
 |some t,s=>st.put t s
def FZ (π:Nat->Nat):AC->AC
 |.ptr b off=>.ptr (π b) off
 |.own b n sz=>.own (π b) n sz
 |.sub b lo n c sz=>.sub (π b) lo n c sz
 |.yE b i sz off=>.yE (π b) i sz off
 |.fn f cs=>.fn f (cs.map π)
 |.opt T b=>.opt T (π b)
 |.uM b n=>.uM (π b) n
 |x=>x
def CJ (π:Nat->Nat):AV->AV
 |.one x=>.one (FZ π x)
 |.agg xs=>.agg (xs.map (FZ π))
 |.AX ps=>.AX (ps.map λq=>(q.1,q.2.map (FZ π)))
def BU (π:Nat->Nat):Box->Box
 |.var xs=>.var (xs.map (FZ π))
 |x=>x
def AC.sW (m:Nat):AC->Bool
 |.ptr b _=>decide (b<m)
 |.own b _ _=>decide (b<m)
 |.sub b _ _ _ _=>decide (b<m)
 |.yE b _ _ _=>decide (b<m)
 |.fn _ cs=>cs.all λb=>decide (b<m)
 |.opt _ b=>decide (b<m)
 |.uM b _=>decide (b<m)
 |_=>true
def Box.sW (m:Nat):Box->Bool
 |.var xs=>xs.all (AC.sW m)
 |_=>true
inductive IQ (P:Program)(f:FuncId)(rX:List AV)(p:Bool)(d:Option Nat)(st:iI)(K:List Nat->List Nat->iI->Prop):Prop
 |lit (ds:List AV) (r:AV) (hc:p=true->KA st.bx rX ds) (hd:ds.all (·.all AC.vC)=true) (h:p=true->iW P f ds r) (hr:r.all AC.isLit=true) (k:K (rX.flatMap AV.owns) [] (st.yf d (.v p r)))
 |pure (ds:List AV) (r:AV) (hp:p=true) (hc:KA st.bx rX ds) (hd:ds.all (·.all AC.vC)=true) (h:iW P f ds r) (hr:r.all AC.vC=true) (k:K (rX.flatMap AV.owns) (rX.flatMap AV.owns) ((st.Eo (rX.flatMap AV.owns)).yf d (.v true r)))
 |gen (hp:p=true) (ds:List AV) (fp:List Box) (sg nu:List Nat) (post:AV->List Box->Prop)
  (hl:sg.length=fp.length) (hn:(sg++nu).Nodup) (hf:∀i,i<fp.length->st.bx ((sg++nu).getD i 0)=BU (λb=>(sg++nu).getD b 0) (fp.getD i .absent))
  (hne:∃r bs,post r bs) (hv:∀b,b∈nu->st.bx b = .absent/\10<=b) (hra:(ds.all λx=>x.all (AC.sW fp.length))=true) (hrf:fp.all (Box.sW fp.length)=true) (ha:rX=ds.map (CJ λb=>(sg++nu).getD b 0)) (h:oN P f ds fp post)
  (k:∀r bs,post r bs->bs.length=(sg++nu).length /\
   K (sg++nu) (sg++nu) ((st.qo ((sg++nu).zip (bs.map (BU λb=>(sg++nu).getD b 0)))).yf d (.v true (CJ (λb=>(sg++nu).getD b 0) r))))
 |O0 (hp:p=true) (az:List AV) (hc:KA st.bx rX az) (ds:List AV) (fp:List Box) (sg nu:List Nat) (post:AV->List Box->Prop)
     (hl:sg.length=fp.length) (hn:(sg++nu).Nodup) (hf:∀i,i<fp.length->(st.Eo (rX.flatMap AV.owns)).bx ((sg++nu).getD i 0)=BU (λb=>(sg++nu).getD b 0) (fp.getD i .absent))
     (hne:∃r bs,post r bs) (hv:∀b,b∈nu->st.bx b = .absent/\10<=b) (hra:(ds.all λx=>x.all (AC.sW fp.length))=true) (hrf:fp.all (Box.sW fp.length)=true) (ha:az=ds.map (CJ λb=>(sg++nu).getD b 0)) (h:oN P f ds fp post)
     (k:∀r bs,post r bs->bs.length=(sg++nu).length /\
      K (rX.flatMap AV.owns++(sg++nu)) (rX.flatMap AV.owns++(sg++nu)) (((st.Eo (rX.flatMap AV.owns)).qo ((sg++nu).zip (bs.map (BU λb=>(sg++nu).getD b 0)))).yf d (.v true (CJ (λb=>(sg++nu).getD b 0) r))))
inductive DU {α:Type}(x:α):Type
 |mk
def sV (P:Program)(f:FuncId)(rX:List AV)(p:Bool)(d:Option Nat)(st:iI)(K:List Nat->List Nat->iI->Prop)(_:DU K):Prop:=IQ P f rX p d st K
inductive PE where
 |op (o:mG)
 |call (f:FuncId) (args:List mY)
 |Iz (x:mY) (args:List mY)
 deriving Inhabited
structure kE where
 g:Option (Nat×Bool)
 d:Option Nat
 i:PE
 deriving Inhabited
def zL (P:Program)(f:FuncId):Bool:=match P.funcs[f]? with
 |some fn=> !(fn.name == "runtime.NumGoroutine")&&fn.body.isSome
 |none=>false
def BL (tm:Nat->Slot):Option (Nat×Bool)->Prop
 |none=>True
 | some (s,_)=>match tm s with
   |.v false _=>True
   |.v true (.one (.c (.lit (.bool _))))=>True
   |_=>False
def qf (tm:Nat->Slot):Option (Nat×Bool)->Bool
 |none=>true
 | some (s,w)=>match tm s with
   |.v true (.one (.c (.lit (.bool b))))=>b==w
   |_=>false
def mG.valid (ev:mY->Slot):mG->Prop
 | .pick c a b=>(ev c).g=true/\(match(ev c).x with
   |.one (.c (.lit (.bool t)))=>(t=true->(ev a).g=true)/\(t=false->(ev b).g=true)
   |_=>False)
 |o=>∀x,x∈o.nT->(ev x).g=true
def dY (tm:Nat->Slot)(x:mY):AV:=(x.ev tm).x
def TOp (o:mG)(p:Bool)(d:Option Nat)(st:iI)(K:List Nat->List Nat->iI->Prop):Prop:=
 (p=true->o.valid (mY.ev st.tm)/\(o.f (dY st.tm) st.bx).vc /\
  K (o.rd (dY st.tm)) ((o.f (dY st.tm) st.bx).sets.map (·.1)) ((st.qo (o.f (dY st.tm) st.bx).sets).yf d (.v true (o.f (dY st.tm) st.bx).v))) /\
 (p=false->K [] [] (st.yf d (.v false (.one .Jj))))
def T (P:Program)(o:kE)(st:iI)(K:List Nat->List Nat->iI->Prop):Prop:=
 BL st.tm o.g/\match o.i with
  |.op op=>TOp op (qf st.tm o.g) o.d st K
  |.call f args=>(qf st.tm o.g=true->∀x,x∈args->(x.ev st.tm).g=true)/\sV P f (args.map (dY st.tm)) (qf st.tm o.g) o.d st K .mk
  | .Iz x args=>(qf st.tm o.g=true->(x.ev st.tm).g=true/\∀x,x∈args->(x.ev st.tm).g=true)/\match qf st.tm o.g,dY st.tm x with
    |false,_=>sV P 0 [] false o.d st K .mk
    |true,.one (.fn f caps)=>zL P f=true/\sV P f (args.map (dY st.tm)++caps.map λb=>.one (.ptr b 0)) true o.d st K .mk
    |true,_=>False
def wpOps (P:Program):List kE->iI->(iI->Prop)->Prop
 |[],st,K=>K st
 |o::r,st,K=>T P o st λ_ _ st'=>wpOps P r st' K
def KO (a b:List Nat):Bool:=a.all λx=> !b.contains x
def zZ (EE:List Nat)(rd wr:List Nat):List (Nat×List Nat×List Nat)->Bool
 |[]=>true
 |(j,r,w)::l=>(EE.contains j||(KO wr r&&KO wr w&&KO rd w))&&zZ EE rd wr l
def wpD (P:Program):List (kE×List Nat)->Nat->List (Nat×List Nat×List Nat)->iI->(iI->Prop)->Prop
 |[],_,_,st,K=>K st
 |(o,EE)::r,i,log,st,K=>T P o st λrd wr st'=>zZ EE rd wr log=true/\wpD P r (i+1) ((i,rd,wr)::log) st' K
def iI.keep (st:iI)(ts:List Nat):iI:=⟨λt=>if t∈ts then st.tm t else .none,st.bx⟩
theorem TI (w:World)(o:Obj)(r:Nat)(h:r<w.heap.size):(w.alloc o).heap[r]? = w.heap[r]?:=by show(w.heap.push o)[r]? = w.heap[r]?;rw[Aq,ai (Nat.ne_of_lt h)]
theorem BZ.keep {I J:IH}{ρ σ:Ren}{w w':World}{b:Nat}{x:Box}(h:BZ I ρ w b x)(hI:I.le J)(hρ:ρ.le σ)(hb:σ b=ρ b)
 (hk:∀k,x.uses (ρ b) k->w'.heap[k]? = w.heap[k]?):BZ J σ w' b x:=by
 cases x with
 |absent=>exact hb.trans h
 |dead=>trivial
 | var xs=>obtain⟨k,cap,cs,hr,hw,hs,hc⟩:=h;exact⟨k,cap,cs,hb.trans hr,(hk k ⟨cap,hr⟩).trans hw,hs,λj u x hu hx=>(hc j u x hu hx).mono hI hρ⟩
 | dat sz es=>obtain⟨k,cap,hr,hl,hm,hsz,hc⟩:=h;refine⟨k,cap,hb.trans hr,hl,hm,hsz,λh0=>?_⟩;obtain⟨cs,e,hw,hs,h1,hc⟩:=hc h0;exact⟨cs,e,(hk k ⟨cap,hr,h0⟩).trans hw,hs,h1,λi j c hj=>let ⟨u,hu,hr⟩:=hc i j c hj;⟨u,hu,hr.mono hI⟩⟩
 | Eo sz es=>obtain⟨k,cap,hr,hl,hm,hsz,hc⟩:=h;refine⟨k,cap,hb.trans hr,hl,hm,hsz,λh0=>?_⟩;obtain⟨cs,hw,hc⟩:=hc h0;exact⟨cs,hI _ _ hw,λi j c hj=>let ⟨u,hu,hr⟩:=hc i j c hj;⟨u,hu,hr.mono hI⟩⟩
 | row e l=>obtain⟨k,cap,hr,hl,hm,hc⟩:=h;refine⟨k,cap,hb.trans hr,hl,hm,λh0=>?_⟩;obtain⟨cs,hw,hc⟩:=hc h0;exact⟨cs,(hk k ⟨cap,hr,h0⟩).trans hw,hc⟩
theorem BX.step {I J:IH}{ρ σ:Ren}{w w':World}{bx bx':Nat->Box}(D:Nat->Prop)(h:BX I ρ w bx)(hI:I.le J)(hρ:ρ.le σ)
 (hsame:∀b,¬D b->bx' b=bx b/\σ b=ρ b) (hkeep:∀b k,¬D b->(bx b).uses (ρ b) k->w'.heap[k]? = w.heap[k]?)
 (hok:∀b,D b->BZ J σ w' b (bx' b)) (IL:∀b k,D b->(bx' b).uses (σ b) k->(∀b',¬D b'->¬(bx b').uses (ρ b') k)/\J k=none)
 (hinj:∀b b' k,D b->D b'->(bx' b).uses (σ b) k->(bx' b').uses (σ b') k->b=b')
 (hJ:∀b k,¬D b->(bx b).uses (ρ b) k->J k=none):BX J σ w' bx':=by
 refine⟨λb=>?_,λb b' k hb hb'=>?_,λb k hb=>?_⟩
 ·by_cases hD:D b
  ·exact hok b hD
  ·obtain⟨e1,e2⟩:=hsame b hD;rw[e1];exact(h.ok b).keep hI hρ e2 λk hk=>hkeep b k hD hk
 ·by_cases hD:D b
  ·by_cases hD':D b'
   ·exact hinj b b' k hD hD' hb hb'
   ·obtain⟨e1,e2⟩:=hsame b' hD';rw[e1,e2]at hb';exact aY hb' ((IL b k hD hb).1 b' hD')
  ·obtain⟨e1,e2⟩:=hsame b hD;rw[e1,e2]at hb;by_cases hD':D b'
   ·exact aY hb ((IL b' k hD' hb').1 b hD)
   ·obtain⟨e1',e2'⟩:=hsame b' hD';rw[e1',e2']at hb';exact h.inj b b' k hb hb'
 ·by_cases hD:D b
  ·exact(IL b k hD hb).2
  ·obtain⟨e1,e2⟩:=hsame b hD;rw[e1,e2]at hb;exact hJ b k hD hb
theorem Agree.alloc {I:IH}{w:World}(h:Agree I w)(o:Obj):Agree I (w.alloc o):=λb c hc=>by obtain⟨e,fr,hw⟩:=h b c hc;exact⟨e,fr,(TI w o b (xB hw)).trans hw⟩
theorem Agree.other {I:IH}{w w':World}(h:Agree I w)(hk:∀k c,I k=some c->w'.heap[k]? = w.heap[k]?):Agree I w':=λb c hc=>by obtain⟨e,fr,hw⟩:=h b c hc;exact⟨e,fr,(hk b c hc).trans hw⟩
theorem Agree.Xt {I:IH}{w:World}(h:Agree I w){k:Nat}(hk:w.heap.size<=k):I k=none:=by
 cases hc:I k with
 |none=>rfl
 |some c=>have:=h.lt hc;omega
def Ren.set (ρ:Ren)(l k cap:Nat):Ren:=λb=>if b=l then some (k,cap)else ρ b
theorem Ren.KT {ρ:Ren}{l k cap:Nat}(h:ρ l=none):ρ.le (ρ.set l k cap):=λb x hb=>by unfold Ren.set;rw[ai (λe=>by subst e;rw[h]at hb;cases hb)];exact hb
theorem Ren.mO (ρ:Ren)(l k cap:Nat):(ρ.set l k cap) l=some (k,cap):=by simp[Ren.set]
theorem Ren.uq {ρ:Ren}{l k cap b:Nat}(h:b≠l):(ρ.set l k cap) b=ρ b:=by simp[Ren.set,h]
theorem BX.new {I:IH}{ρ:Ren}{w:World}{bx:Nat->Box}(h:BX I ρ w bx)(hA:Agree I w){l:Nat}(hl:bx l = .absent)(cs:Array Value)(e:TypeId)(cap:Nat)(x:Box)
 (hx:BZ I (ρ.set l w.heap.size cap) (w.alloc (.cells cs e)) l x) :
 BX I (ρ.set l w.heap.size cap) (w.alloc (.cells cs e)) (λb=>if b=l then x else bx b):=by
 have hrl:ρ l=none:=by have:=h.ok l;rwa[hl]at this
 refine BX.step (λb=>b=l) h (IH.le_refl I) (Ren.KT hrl) ?_ ?_ ?_ ?_ ?_ ?_
 ·intro b hb;exact⟨by simp[hb],Ren.uq hb⟩
 ·intro b k hb hk;exact TI _ _ _ ((h.ok b).lt hk)
 ·rintro b rfl;simpa using hx
 ·rintro b k rfl hk;have hk':k=w.heap.size:=by
   simp only[kN,Ren.mO]at hk;cases x with
   |absent=>exact hk.elim
   |dead=>exact hk.elim
   |Eo sz es=>exact hk.elim
   |var xs=>obtain⟨c,hc⟩:=hk;simp at hc;exact hc.1.symm
   |dat sz es=>obtain⟨c,hc,_⟩:=hk;simp at hc;exact hc.1.symm
   |row e l=>obtain⟨c,hc,_⟩:=hk;simp at hc;exact hc.1.symm
  subst hk';exact⟨λb' hb' hu=>by have:=(h.ok b').lt hu;omega,hA.Xt (ak _)⟩
 ·rintro b b' k rfl rfl _ _;rfl
 ·intro b k hb hk;exact h.fresh b k hk
theorem BX.set {I:IH}{ρ:Ren}{w w':World}{bx:Nat->Box}(h:BX I ρ w bx){b k:Nat}(hu:(bx b).uses (ρ b) k)(x:Box)(hux:∀k',x.uses (ρ b) k'->k'=k)
 (hk:∀k',k'≠k->w'.heap[k']? = w.heap[k']?) (hx:BZ I ρ w' b x):BX I ρ w' (λc=>if c=b then x else bx c):=by
 refine BX.step (λc=>c=b) h (IH.le_refl I) (Ren.le_refl ρ) ?_ ?_ ?_ ?_ ?_ ?_
 ·intro c hc;exact⟨by simp[hc],rfl⟩
 ·intro c k' hc hu';refine hk k' λe=>hc ?_;subst e;exact h.inj c b k' hu' hu
 ·rintro c rfl;simpa using hx
 ·rintro c k' rfl hk';simp only[kN]at hk';have:=hux k' hk';subst this;exact⟨λb' hb' hu'=>hb' (h.inj b' c k' hu' hu),h.fresh c k' hu⟩
 ·rintro c c' k' rfl rfl _ _;rfl
 ·intro c k' hc hu';exact h.fresh c k' hu'
structure Env (P:Program) where
 w0:World
 I0:IH
 M:Nat->Prop
 V3:Ren
 m:Nat
 tab:Tabs P I0
structure GX {P:Program}(E:Env P)(I:IH)(ρ:Ren)(n:Nat)(st:iI)(a:Act)(w:World):Prop extends GS I ρ n st a w where
 Aj:zK E.w0 w E.M
 own:∀b k,(st.bx b).uses (ρ b) k->E.w0.heap.size<=k\/E.M k
 Kq:E.I0.le I
 Fa:∀k,k<E.w0.heap.size->¬E.M k->I k=E.I0 k
 vW:∀b,b<E.m->ρ b=E.V3 b
theorem GX.tabs {P:Program}{E:Env P}{I:IH}{ρ:Ren}{n:Nat}{st:iI}{a:Act}{w:World}(h:GX E I ρ n st a w):Tabs P I:=E.tab.mono h.Kq
theorem GX.put {P:Program}{E:Env P}{I:IH}{ρ:Ren}{n:Nat}{st:iI}{a:Act}{w:World}(h:GX E I ρ n st a w){d:Nat}(hd:d<n){v:Value}{s:Slot}(hv:GSl I ρ v s) :
 GX E I ρ n (st.put d s) (a.put (some d) v) w:=by
 refine{ h with tm:=λt ht=>?_,size:=by simp[jv,h.size],defers:=h.defers,agree:=h.agree,bx:=h.bx };have hdt:d<a.tmps.size:=by rw[h.size];exact hd
 simp only[jv,iI.Rf];by_cases e:t=d
 ·subst e;simpa[Array.getD,hdt]using hv
 ·have:=h.tm t ht;rw[ai e];have e':d≠t:=λx=>e x.symm;simpa[fK,Array.getElem?_setIfInBounds,e']using this
theorem GX.yf {P:Program}{E:Env P}{I:IH}{ρ:Ren}{n:Nat}{st:iI}{a:Act}{w:World}(h:GX E I ρ n st a w){d:Option Nat}(hd:∀x,d=some x->x<n){v:Value}{s:Slot}(hv:GSl I ρ v s) :
 GX E I ρ n (st.yf d s) (a.put d v) w:=by
 cases d with
 |none=>exact h
 |some d=>exact h.put (hd d rfl) hv
theorem GX.drew {P:Program}{E:Env P}{I:IH}{ρ:Ren}{n:Nat}{st:iI}{a:Act}{w:World}(h:GX E I ρ n st a w):GX E I ρ n st a w.drew:=
 { agree:=h.agree,bx:=⟨h.bx.ok,h.bx.inj,h.bx.fresh⟩,tm:=h.tm,size:=h.size,defers:=h.defers,Aj:=⟨h.Aj.os,h.Aj.tape,h.Aj.output,h.Aj.size,h.Aj.block⟩,own:=h.own,Kq:=h.Kq,Fa:=h.Fa,vW:=h.vW }
theorem GX.lit {P:Program}{E:Env P}{I:IH}{ρ:Ren}{n:Nat}{st:iI}{a:Act}{w:World}(h:GX E I ρ n st a w):BX I ρ w st.bx:=h.bx
theorem GX.new {P:Program}{E:Env P}{I:IH}{ρ:Ren}{n:Nat}{st:iI}{a:Act}{w:World}(h:GX E I ρ n st a w){l:Nat}(hl:st.bx l = .absent)(hm:E.m<=l)(cs:Array Value)(e:TypeId)(cap:Nat)(x:Box)
 (hx:BZ I (ρ.set l w.heap.size cap) (w.alloc (.cells cs e)) l x):GX E I (ρ.set l w.heap.size cap) n (st.wu l x) a (w.alloc (.cells cs e)):=by
 have hrl:ρ l=none:=by have:=h.bx.ok l;rwa[hl]at this
 have hle:=Ren.KT (ρ:=ρ) (k:=w.heap.size) (cap:=cap) hrl;refine{ agree:=h.agree.alloc _,bx:=BX.new h.bx h.agree hl cs e cap x hx,tm:=λt ht=>(h.tm t ht).mono (IH.le_refl _) hle,size:=h.size,defers:=h.defers,Aj:=?_,own:=?_,Kq:=h.Kq,Fa:=h.Fa,vW:=?_ }
 ·exact h.Aj.trans (N:=λ_=>False) ⟨rfl,rfl,rfl,nV,λk hk _=>TI _ _ _ hk⟩ (λ_ _ hf=>hf.elim)
 ·intro b k hu;simp only[iI.oP]at hu;by_cases e:b=l
  ·subst e
   left
   have hs:=h.Aj.size;have hk':k=w.heap.size:=by
    simp only[kN,Ren.mO]at hu;cases x with
    |absent=>exact hu.elim
    |dead=>exact hu.elim
    |Eo sz es=>exact hu.elim
    |var xs=>obtain⟨c,hc⟩:=hu;simp at hc;exact hc.1.symm
    |dat sz es=>obtain⟨c,hc,_⟩:=hu;simp at hc;exact hc.1.symm
    |row e l=>obtain⟨c,hc,_⟩:=hu;simp at hc;exact hc.1.symm
   omega
  ·rw[ai e,Ren.uq e]at hu;exact h.own b k hu
 ·intro b hb;rw[Ren.uq aI];exact h.vW b hb
theorem GX.wu {P:Program}{E:Env P}{I:IH}{ρ:Ren}{n:Nat}{st:iI}{a:Act}{w w':World}(h:GX E I ρ n st a w){b k:Nat}(hu:(st.bx b).uses (ρ b) k)(x:Box)(hux:∀k',x.uses (ρ b) k'->k'=k)
 (hF:zK w w' (λk'=>k'=k)) (hx:BZ I ρ w' b x) (hsz:w'.heap.size=w.heap.size):GX E I ρ n (st.wu b x) a w':=by
 have hk:∀k',k'≠k->w'.heap[k']? = w.heap[k']?:= λk' hne=>by
  by_cases hlt:k'<w.heap.size
  ·exact hF.block k' hlt hne
  ·rw[vF aI,vF aI]
 refine{ agree:=h.agree.other λk' c hc=>hk k' λe=>?_,bx:=BX.set h.bx hu x hux hk hx,tm:=h.tm,size:=h.size,defers:=h.defers,Aj:=?_,own:=?_,Kq:=h.Kq,Fa:=h.Fa,vW:=h.vW }
 ·subst e;have:=h.bx.fresh b k' hu;rw[this]at hc;cases hc
 ·refine h.Aj.trans hF λk' hlt e=>?_;subst e;rcases h.own b k' hu with h1|h1
  ·omega
  ·exact h1
 ·intro c k' hc;simp only[iI.oP]at hc;by_cases e:c=b
  ·subst e;simp only[kN]at hc;have:=hux k' hc;subst this;exact h.own c k' hu
  ·rw[ai e]at hc;exact h.own c k' hc
section
def agL : Value->AC->Bool
 |.int k n,.c (.lit (.int k' n'))=>k==k'&&n==n'
 |.bool b,.c (.lit (.bool b'))=>b==b'
 |.string s,.c (.str l)=>s.data.toList==l&&decide (l.length<=1000000)
 |.slice none 0 0,.mM _=>true
 |.slice none 0 0,.c (.sl _ [])=>true
 |.pointer none,.c (.lit (.pointer none))=>true
 |.nilFunc,.c (.lit .nilFunc)=>true
 |.nilIface,.c (.lit .nilIface)=>true
 |_,_=>false
theorem aaq {I:IH}{ρ:Ren}{v:Value}{x:AC}(h:agL v x=true):GC I ρ v x:=by
 unfold agL at h;split at h
 ·simp only[ah,aH]at h;obtain⟨rfl,rfl⟩:=h;exact Rd.lit _ rfl
 ·simp only[aH]at h;subst h;exact Rd.lit _ rfl
 ·rename_i s l;simp only[ah,aH,aj]at h;obtain⟨rfl,hl⟩:=h;have:s=⟨⟨s.data.toList⟩⟩:=by cases s;rfl
  exact this▸Rd.str _ (by simp only[maxLen];omega)
 ·rfl
 ·exact Rd.sl none 0 0 _ [] (λ_ _=>undef) rfl (ak _) (Nat.zero_le _) (λe h=>by cases h) (λh=>by omega) (λad h=>by cases h) (λi j c h=>by simp at h)
 ·exact Rd.lit _ rfl
 ·exact Rd.lit _ rfl
 ·exact Rd.lit _ rfl
 ·cases h
def kD (n:Nat):Operand->mY->Bool
 |.tmp t,.t s=>t==s&&decide (t<n)
 |.const v,.k x=>agL v x
 |.func f,.k (.fn g [])=>f==g
 |.global g,.k (.c (.lit (.pointer (some a))))=>a.block==g&&a.off==0&&a.spot.isNone
 |_,_=>false
section
variable {P:Program} {E:Env P} {I:IH} {ρ:Ren} {n:Nat} {st:iI} {a:Act} {w:World}
theorem aje (h:GX E I ρ n st a w){x:Operand}{y:mY}(hc:kD n x y=true):GSl I ρ (a.eval x) (y.ev st.tm):=by
 unfold kD at hc;split at hc
 ·simp only[ah,aH,aj]at hc;obtain⟨rfl,hlt⟩:=hc;exact h.tm _ hlt
 ·exact⟨λ_=>aaq hc,λe=>by cases e⟩
 ·simp only[aH]at hc;subst hc;exact⟨λ_=>⟨[],rfl,nV,rfl⟩,λe=>by cases e⟩
 ·rename_i g ad;simp only[ah,aH]at hc;obtain⟨⟨h1,h2⟩,h3⟩:=hc;refine⟨λ_=>?_,λe=>by cases e⟩;have:ad=⟨g,0,none⟩:=by cases ad;simp at *;exact⟨h1,h2,h3⟩
  subst this;exact Rd.lit _ rfl
 ·cases hc
theorem lX (h:GX E I ρ n st a w){x:Operand}{y:mY}(hc:kD n x y=true)(hv:(y.ev st.tm).g=true):GV I ρ (a.eval x) (dY st.tm y):=by
 have:=aje h hc;unfold dY;cases hs:y.ev st.tm with
 |none=>rw[hs]at hv;cases hv
 |v g x=>rw[hs]at hv this;exact this.1 hv
def su (P:Program)(E:Env P)(n:Nat)(o:Oper)(a:Act)(w:World)(st:iI)(rv:AV):Prop:=
 ∃v w' I' ρ',((execOp a.eval o).run P w = .ok (.value v) w'\/(execOp a.eval o).run P w = .ok .skip w'/\o.dst=none)/\GX E I' ρ' n st a w'/\(o.dst≠none->GV I' ρ' v rv)
def Ak : Op->Bool
 |.alloc _|.box _ _|.makeSlice _ _ _|.buildSlice _ _ _|.store _ _ _=>false
 |.call c=>(match c.callee with|.builtin .len|.builtin .cap|.builtin .max|.builtin .min|.value _=>true|_=>false)
 |_=>true
def NV : Op->Bool
 |.store _ _ _=>true
 |_=>false
structure Eff (o:Oper)(a:Act)(w w':World):Prop where
 quiet:Ak o.op=true->w'=w
 store:∀t p x,o.op = .store t p x->∃k off cs e,a.eval p = .pointer (some ⟨k,off,none⟩)/\w.heap[k]? = some (.cells cs e (0,0))/\off+(a.eval x).cells.size<=cs.size /\
  w'=w.setRow k (splice cs.toList off (a.eval x).cells.toList).toArray
def tK (P:Program)(E:Env P)(n:Nat)(o:Oper)(a:Act)(w:World)(st:iI)(rv:AV):Prop:=
 ∃v w' I' ρ',((execOp a.eval o).run P w = .ok (.value v) w'\/(execOp a.eval o).run P w = .ok .skip w'/\o.dst=none)/\GX E I' ρ' n st a w'/\(o.dst≠none->GV I' ρ' v rv)/\Eff o a w w'
theorem YZ {o:Oper}{a:Act}{w w':World}{v:Value}(hr:(execOp a.eval o).run P w = .ok (.value v) w')(hs:NV o.op=true):False:=by
 unfold NV at hs;split at hs
 ·rename_i t p x he;simp only[execOp,he,cu]at hr;cases h:(yJ t (a.eval p) (a.eval x)).run P w<;>rw[h]at hr<;>simp at hr
 ·cases hs
theorem su.val {o:Oper}{v:Value}{rv:AV}(h:GX E I ρ n st a w)(hr:(execOp a.eval o).run P w = .ok (.value v) w)(hv:GV I ρ v rv):tK P E n o a w st rv:=
 ⟨v,w,I,ρ,.inl hr,h,λ_=>hv,{ quiet:=λ_=>rfl,store:=λt p x he=>(YZ hr (by rw[he];rfl)).elim }⟩
theorem su.toE {o:Oper}{rv:AV}(h:su P E n o a w st rv)(hq:Ak o.op=false)(hs:NV o.op=false):tK P E n o a w st rv:=
 let ⟨v,w',I',ρ',h1,h2,h3⟩:=h
 ⟨v,w',I',ρ',h1,h2,h3,{ quiet:=λe=>(by rw[hq]at e;cases e),store:=λt p x he=>(by rw[he]at hs;cases hs) }⟩
def Hr : TypeDesc->Bool
 |.struct _|.array _ _=>true
 |_=>false
def IP (P:Program)(t:TypeId)(agg:Bool)(k:Nat):Bool:=
 match P.underlying t,P.info? t with
 |some d,some i=>Hr d==agg&&i.size==k
 |_,_=>false
theorem EU {t:TypeId}{agg:Bool}{k:Nat}(h:IP P t agg k=true)(w:World):(isAgg t).run P w = .ok agg w/\(sizeOf t).run P w = .ok k w:=by
 unfold IP at h;split at h
 ·rename_i d i hd hi;simp only[ah,aH]at h;obtain⟨rfl,rfl⟩:=h;refine⟨?_,by simp[sizeOf,typeInfo,hi]⟩;cases d<;>simp[isAgg,run_underlying hd,Hr]
 ·cases h
def Oi (P:Program)(t:TypeId)(k:Nat):Bool:=match P.info? t with|some i=>i.size==k|none=>false
theorem Jt {t:TypeId}{k:Nat}(h:Oi P t k=true):∃i,P.info? t=some i/\i.size=k:=by
 unfold Oi at h;split at h
 ·rename_i i hi;exact⟨i,hi,by simpa using h⟩
 ·cases h
def adW (n:Nat)(op:Op)(y:mY):Bool:=match op with|.move x|.assign x=>kD n x y|_=>false
theorem ahj {o:Oper}{y:mY}(h:GX E I ρ n st a w)(hc:adW n o.op y=true)(hv:(y.ev st.tm).g=true):tK P E n o a w st (dY st.tm y):=by
 unfold adW at hc;split at hc
 ·rename_i x hx;exact su.val h (v:=a.eval x) (by simp[execOp,hx]) (lX h hc hv)
 ·rename_i x hx;exact su.val h (v:=a.eval x) (by simp[execOp,hx]) (lX h hc hv)
 ·cases hc
def UZ (n:Nat)(op:Op)(c x y:mY):Bool:=match op with|.pick c' x' y'=>kD n c' c&&kD n x' x&&kD n y' y|_=>false
theorem Hq {v:Value}{b:Bool}(h:GV I ρ v (tH b)):v = .bool b:=by cases h with|lit v hv=>rfl
theorem vz {v:Value}{k:IntKind}{m:Int}(h:GV I ρ v (uI k m)):v = .int k m:=by cases h with|lit v hv=>rfl
theorem FU {v:Value}{l:List UInt8}(h:GV I ρ v (Ip l)):v = .string ⟨⟨l⟩⟩/\l.length<=maxLen:=by cases h with|str l hl=>exact⟨rfl,hl⟩
theorem FM (b:Bool):GV I ρ (.bool b) (tH b):=Rd.lit _ rfl
theorem yY (k:IntKind)(m:Int):GV I ρ (.int k m) (uI k m):=Rd.lit _ rfl
theorem Vp {l:List UInt8}(h:l.length<=maxLen):GV I ρ (.string ⟨⟨l⟩⟩) (Ip l):=Rd.str l h
theorem ZA (x y:AV){v:Value}(h:GV I ρ v x):GV I ρ v (OI true x y):=by
 unfold OI;split
 ·exact h
 ·exact h
theorem XH (x y:AV){v:Value}(h:GV I ρ v y):GV I ρ v (OI false x y):=by
 unfold OI;split
 ·exact h
 ·simpa using h
theorem acF {o:Oper}{c x y:mY}{t:Bool}(h:GX E I ρ n st a w)(hc:UZ n o.op c x y=true)(hg:(c.ev st.tm).g=true)(ht:dY st.tm c=tH t)
 (hx:t=true->(x.ev st.tm).g=true) (hy:t=false->(y.ev st.tm).g=true):tK P E n o a w st (OI t (dY st.tm x) (dY st.tm y)):=by
 unfold UZ at hc;split at hc
 ·rename_i c' x' y' he;simp only[ah]at hc;have h1:=lX h hc.1.1 hg;rw[ht]at h1;have h1:=Hq h1;cases t with
  |true=>exact su.val h (v:=a.eval x') (by simp[execOp,he,h1,asBool]) (ZA _ _ (lX h hc.1.2 (hx rfl)))
  |false=>exact su.val h (v:=a.eval y') (by simp[execOp,he,h1,asBool]) (XH _ _ (lX h hc.2 (hy rfl)))
 ·cases hc
theorem toList_eq (l:List UInt8):(⟨⟨l⟩⟩:ByteArray).toList=l:=by rw[Go.ByteArray.toList_eq]
theorem size_mk (l:List UInt8):(⟨⟨l⟩⟩:ByteArray).size=l.length:=rfl
theorem ahB {b:BinOp}{t:TypeId}{x y:Value}{u v:AV}(w:World)(hx:GV I ρ x u)(hy:GV I ρ y v)(jG:(OU b u v).vc) :
 ∃r,(binOp b t x y).run P w = .ok r w/\GV I ρ r (OU b u v).v:=by
 unfold OU at *;split at jG
 ·rename_i k m k' m';obtain⟨rfl,jG⟩:=jG;have h1:=vz hx;have h2:=vz hy;subst h1;subst h2;cases b<;>simp only[FW,FR.bad,FR.ok]at jG⊢ <;>
   first
   |exact jG.elim
   |(refine⟨_,?_,yY _ _⟩;simp[binOp,Dv,Op.intDiv,Op.intBits,jG])
   |(refine⟨_,?_,FM _⟩;simp[binOp,Op.intCmp])
 ·rename_i l l';obtain⟨h1,hl⟩:=FU hx;obtain⟨h2,hl'⟩:=FU hy;subst h1;subst h2;cases b<;>simp only[F6,FR.bad,FR.ok]at jG⊢ <;>
   first
   |exact jG.elim
   |(refine⟨_,?_,FM _⟩;simp only[binOp,Op.stringOp,toList_eq];rfl)
   |skip
  refine⟨.string ⟨⟨l++l'⟩⟩,?_,Vp (by simpa using jG)⟩;have h63:¬((l.length+l'.length:Nat):Int)>zU.max:=by simp only[maxLen]at jG;have e:zU.max=9223372036854775807:=(by decide);rw[e];omega
  have happ:(⟨⟨l⟩⟩:ByteArray)++⟨⟨l'⟩⟩=⟨⟨l++l'⟩⟩:=by apply ByteArray.ext;simp
  simp only[binOp,Op.stringOp,size_mk];rw[ai h63,happ];rfl
 ·exact jG.elim
def YH (n:Nat)(op:Op)(b:BinOp)(x y:mY):Bool:=match op with|.binOp b' _ x' y' _=>b'==b&&kD n x' x&&kD n y' y|_=>false
theorem BM (b:BinOp)(t:TypeId)(x y:Operand)(k:IntKind)(m:Int)(v:Value)(w:World):(eqGuard b t x y (.int k m) v).run P w = .ok () w:=by cases b<;>rfl
theorem O5 (b:BinOp)(t:TypeId)(x y:Operand)(s:ByteArray)(v:Value)(w:World):(eqGuard b t x y (.string s) v).run P w = .ok () w:=by cases b<;>rfl
theorem GK (b:BinOp)(t:TypeId)(x y:Operand)(s:Bool)(v:Value)(w:World):(eqGuard b t x y (.bool s) v).run P w = .ok () w:=by cases b<;>rfl
theorem adM {o:Oper}{b:BinOp}{x y:mY}(h:GX E I ρ n st a w)(hc:YH n o.op b x y=true)(hx:(x.ev st.tm).g=true)(hy:(y.ev st.tm).g=true)
 (jG:(OU b (dY st.tm x) (dY st.tm y)).vc):tK P E n o a w st (OU b (dY st.tm x) (dY st.tm y)).v:=by
 unfold YH at hc;split at hc
 ·rename_i b' t x' y' t' he;simp only[ah,aH]at hc;obtain⟨⟨rfl,h1⟩,h2⟩:=hc;have g1:=lX h h1 hx;have g2:=lX h h2 hy;obtain⟨r,hr,hg⟩:=ahB (P:=P) (t:=t) w g1 g2 jG;refine su.val h ?_ hg;have hq:(eqGuard b' t x' y' (a.eval x') (a.eval y')).run P w = .ok () w:=by
   unfold OU at jG;split at jG
   ·rename_i e1 e2;rw[e1]at g1;rw[vz g1];exact BM _ _ _ _ _ _ _ _
   ·rename_i e1 e2;rw[e1]at g1;rw[(FU g1).1];exact O5 _ _ _ _ _ _ _
   ·exact jG.elim
  simp[execOp,he,hq,hr]
 ·cases hc
def YG (P:Program)(n:Nat)(op:Op)(ng:Bool)(x y:mY):Bool:=
 match op with
 |.binOp b t x' y' _=>(match b with|.eql=> !ng|.neq=>ng|_=>false)&&(match P.underlying t with|some .bool=>true|_=>false)&&kD n x' x&&kD n y' y
 |_=>false
theorem adL {o:Oper}{ng:Bool}{x y:mY}(h:GX E I ρ n st a w)(hc:YG P n o.op ng x y=true)(hx:(x.ev st.tm).g=true)(hy:(y.ev st.tm).g=true)
 (jG:(Wu ng (dY st.tm x) (dY st.tm y)).vc):tK P E n o a w st (Wu ng (dY st.tm x) (dY st.tm y)).v:=by
 unfold YG at hc;split at hc
 ·rename_i b t x' y' t' he;simp only[ah]at hc;obtain⟨⟨⟨hb,ht⟩,h1⟩,h2⟩:=hc;have g1:=lX h h1 hx;have g2:=lX h h2 hy;unfold Wu at jG⊢;split at jG
  ·rename_i p q e1 e2;rw[e1]at g1;rw[e2]at g2;have hu:P.underlying t=some .bool:=by
    split at ht
    ·assumption
    ·cases ht
   have hd:∀d,(xW (d+1) t (.bool p) (.bool q)).run P w = .ok (p==q) w:=λd=>(by simp[xW,run_underlying hu]);have he':(Op.equal t (.bool p) (.bool q)).run P w = .ok (p==q) w:=hd 9999;have hp:=Hq g1;have hq:=Hq g2;simp only[FR.ok];cases b<;>simp at hb
   ·subst hb;refine su.val h ?_ (FM _);simp[execOp,he,hp,hq,GK,binOp,he']
   ·subst hb;refine su.val h ?_ (FM _);simp[execOp,he,hp,hq,GK,binOp,he',bne]
  ·exact jG.elim
 ·cases hc
def YL (n:Nat)(op:Op)(x:mY):Bool:=match op with|.unOp .not _ x'=>kD n x' x|_=>false
theorem afg {o:Oper}{x:mY}{b:Bool}(h:GX E I ρ n st a w)(hc:YL n o.op x=true)(hx:(x.ev st.tm).g=true)(hb:dY st.tm x=tH b):tK P E n o a w st (tH (!b)):=by
 unfold YL at hc;split at hc
 ·rename_i t x' he;have g1:=lX h hc hx;rw[hb]at g1;have hp:=Hq g1;exact su.val h (by simp[execOp,he,hp,Op.unary]) (FM _)
 ·cases hc
def YK (n:Nat)(op:Op)(x:mY):Bool:=match op with|.unOp .neg _ x'=>kD n x' x|_=>false
theorem afd {o:Oper}{x:mY}{k:IntKind}{m:Int}(h:GX E I ρ n st a w)(hc:YK n o.op x=true)(hx:(x.ev st.tm).g=true)(hb:dY st.tm x=uI k m):tK P E n o a w st (uI k (k.wrap (0-m))):=by
 unfold YK at hc;split at hc
 ·rename_i t x' he;have g1:=lX h hc hx;rw[hb]at g1;have hp:=vz g1;exact su.val h (v:=.int k (k.wrap (0-m))) (by simp[execOp,he,hp,Op.unary,Dv]) (yY _ _)
 ·cases hc
def UO (P:Program)(n:Nat)(op:Op)(k:IntKind)(x:mY):Bool:=match op with|.convert s d x'=>(match P.underlying s with|some _=>true|none=>false)&&(match P.underlying d with|some (.int k')=>k'==k|_=>false)&&kD n x' x|_=>false
theorem abP {o:Oper}{x:mY}{k j:IntKind}{m:Int}(h:GX E I ρ n st a w)(hc:UO P n o.op k x=true)(hx:(x.ev st.tm).g=true)(hb:dY st.tm x=uI j m):tK P E n o a w st (uI k (k.wrap m)):=by
 unfold UO at hc;split at hc
 ·rename_i s d x' he;simp only[ah]at hc;have g1:=lX h hc.2 hx;rw[hb]at g1;have hp:=vz g1;obtain⟨⟨h1,h2⟩,_⟩:=hc;split at h1
  ·rename_i ds hs;split at h2
   ·rename_i k' hd;simp only[aH]at h2;subst h2;exact su.val h (v:=.int k' (k'.wrap m)) (by simp[execOp,he,hp,convert,run_underlying hs,run_underlying hd,Conv.intToInt]) (yY _ _)
   ·cases h2
  ·cases h1
 ·cases hc
def U0 (P:Program)(n:Nat)(op:Op)(x:mY):Bool:=match op with|.convert s d x'=>(match P.underlying s with|some .string=>true|_=>false)&&(match P.underlying d with|some .string=>true|_=>false)&&kD n x' x|_=>false
theorem acQ {o:Oper}{x:mY}{l:List UInt8}(h:GX E I ρ n st a w)(hc:U0 P n o.op x=true)(hx:(x.ev st.tm).g=true)(hb:dY st.tm x=Ip l):tK P E n o a w st (Ip l):=by
 unfold U0 at hc;split at hc
 ·rename_i s d x' he;simp only[ah]at hc;have g1:=lX h hc.2 hx;rw[hb]at g1;obtain⟨hp,hl⟩:=FU g1;obtain⟨⟨h1,h2⟩,_⟩:=hc;split at h1
  ·rename_i hs;split at h2
   ·rename_i hd;exact su.val h (by simp[execOp,he,hp,convert,run_underlying hs,run_underlying hd]) (Vp hl)
   ·cases h2
  ·cases h1
 ·cases hc
end
end
section
section
variable {P:Program} {E:Env P} {I:IH} {ρ:Ren} {n:Nat} {st:iI} {a:Act} {w:World}
theorem lq {α:Type}{es:List (List α)}{i j:Nat}{c:α}(h:(es.getD i [])[j]? = some c):i<es.length:=by
 by_cases hi:i<es.length
 ·exact hi
 ·simp[bH,kV (yM hi)]at h
theorem Addr.add_zero (p:Addr):p.add 0=p:=by simp[sG]
theorem Addr.o9 (k o i:Nat):(⟨k,o,none⟩:Addr).add i=⟨k,o+i,none⟩:=by
 unfold sG;split
 ·simp_all
 ·rfl
theorem Addr.add_add (p:Addr)(i j:Nat):(p.add i).add j=p.add (i+j):=by unfold sG;by_cases hi:i=0<;>by_cases hj:j=0<;>simp[hi,hj,oW]
def AY (I:IH)(ρ:Ren)(w:World)(p:Addr)(xs:List AC):Prop:=
 ∀(j:Nat) (x:AC),xs[j]? = some x->∃u,w.cell? (p.add j)=some u/\GC I ρ u x
theorem AY.drop {p:Addr}{xs:List AC}(h:AY I ρ w p xs)(off:Nat):AY I ρ w (p.add off) (xs.drop off):=λj x hj=>by rw[iL]at hj;rw[Addr.add_add];exact h _ _ hj
theorem AY.take {p:Addr}{xs:List AC}(h:AY I ρ w p xs)(k:Nat):AY I ρ w p (xs.take k):=λj x hj=>by
 rw[bW]at hj;split at hj
 ·exact h _ _ hj
 ·cases hj
theorem AY.list {p:Addr}{xs:List AC}(h:AY I ρ w p xs):∃us:List Value,us.length=xs.length/\(∀(j:Nat) (u:Value),us[j]? = some u->w.cell? (p.add j)=some u)/\JH I ρ us xs:=by
 induction xs generalizing p with
 |nil=>exact⟨[],rfl,nV,rfl,nV⟩
 | cons x r ih=>
   obtain⟨u,hu,hg⟩:=h 0 x rfl;obtain⟨us,hl,hc,hgs⟩:=ih (p:=p.add 1) (λj y hj=>by rw[Addr.add_add];rw[uw];exact h (j+1) y (by simpa using hj));refine⟨u::us,by simp[hl],λj v hj=>?_,by simp[hl],λj v y hv hy=>?_⟩
   ·cases j with
    |zero=>simp at hj;subst hj;exact hu
    |succ j=>have:=hc j v (by simpa using hj);rwa[Addr.add_add,uw]at this
   ·cases j with
    |zero=>simp at hv hy;subst hv;subst hy;exact hg
    |succ j=>exact hgs.2 j v y (by simpa using hv) (by simpa using hy)
theorem VJ {t:TypeId}{k:Nat}(ht:IP P t true k=true){p:Addr}{xs:List AC}(hl:xs.length=k)(h:AY I ρ w p xs) :
 ∃v,(loadVar t p).run P w = .ok v w/\GV I ρ v (.agg xs):=by
 obtain⟨us,hul,hc,hg⟩:=h.list;obtain⟨h1,h2⟩:=EU ht w;have h3:=run_loadCells_list (P:=P) w p us hc;refine⟨.agg us.toArray,?_,us.toArray,rfl,by simpa using hg⟩;rw[hul,hl]at h3;simp[loadVar,h1,h2,h3]
theorem Ib {t:TypeId}{k:Nat}(ht:IP P t false k=true){p:Addr}{u:Value}(h:w.cell? p=some u):(loadVar t p).run P w = .ok u w:=by obtain⟨h1,h2⟩:=EU ht w;simp[loadVar,h1,run_load,h]
theorem BX.ac8 (h:BX I ρ w st.bx){b k cap:Nat}{xs:List AC}(hb:st.bx b = .var xs)(hr:ρ b=some (k,cap)):AY I ρ w ⟨k,0,none⟩ xs:=λj x hj=>by
 have:=h.ok b;rw[hb]at this;obtain⟨k',cap',cs,hr',hw,hs,hc⟩:=this;rw[hr]at hr';simp at hr';obtain⟨rfl,rfl⟩:=hr';have hjl:j<cs.size:=by rw[hs];exact(aT.1 hj).1
 refine⟨cs[j],?_,hc j _ x (lJ hjl) hj⟩;rw[Addr.o9];simp[iy,hw,lJ hjl]
theorem GS.JI (h:GX E I ρ n st a w){b k cap sz:Nat}{es:List (List Cell)}(hb:(st.bx b).arr=some (sz,es))(hr:ρ b=some (k,cap))(hc:cap≠0){i:Nat}(hi:i<es.length) :
 AY I ρ w ⟨k,i*sz,none⟩ ((es.getD i []).map .c):=λj x hj=>by
 rw[dD]at hj;cases hq:(es.getD i [])[j]? with
 |none=>rw[hq]at hj;cases hj
 | some c=>
   rw[hq]at hj;simp at hj;subst hj;have hok:=h.bx.ok b;rw[Addr.o9];cases hx:st.bx b with
   | dat sz' es'=>rw[hx]at hok hb;simp[Box.arr]at hb;obtain⟨rfl,rfl⟩:=hb;obtain⟨k',cap',hr',_,_,_,hd⟩:=hok;rw[hr]at hr';simp at hr';obtain⟨rfl,rfl⟩:=hr';obtain⟨cs,e,hw,_,_,hcs⟩:=hd hc;obtain⟨u,hu,hrd⟩:=hcs i j c hq;exact⟨u,by simp[iy,hw,hu],hrd⟩
   | Eo sz' es'=>rw[hx]at hok hb;simp[Box.arr]at hb;obtain⟨rfl,rfl⟩:=hb;obtain⟨k',cap',hr',_,_,_,hd⟩:=hok;rw[hr]at hr';simp at hr';obtain⟨rfl,rfl⟩:=hr';obtain⟨cs,hI,hcs⟩:=hd hc;obtain⟨u,hu,hrd⟩:=hcs i j c hq;obtain⟨e,fr,hw⟩:=h.agree _ _ hI;exact⟨u,by simp[iy,hw,hu],hrd⟩
   |absent=>rw[hx]at hb;cases hb
   |dead=>rw[hx]at hb;cases hb
   |var xs=>rw[hx]at hb;cases hb
   |row e l=>rw[hx]at hb;cases hb
theorem GS.Gn (h:GX E I ρ n st a w){b k cap sz:Nat}{es:List (List Cell)}(hb:(st.bx b).arr=some (sz,es))(hr:ρ b=some (k,cap)):es.length<=cap/\cap<=maxLen/\∀e,e∈es->e.length=sz:=by
 have hok:=h.bx.ok b;cases hx:st.bx b with
 | dat sz' es'=>rw[hx]at hok hb;simp[Box.arr]at hb;obtain⟨rfl,rfl⟩:=hb;obtain⟨k',cap',hr',h1,h2,h3,hd⟩:=hok;rw[hr]at hr';simp at hr';obtain⟨rfl,rfl⟩:=hr';exact⟨h1,h2,h3⟩
 | Eo sz' es'=>rw[hx]at hok hb;simp[Box.arr]at hb;obtain⟨rfl,rfl⟩:=hb;obtain⟨k',cap',hr',h1,h2,h3,hd⟩:=hok;rw[hr]at hr';simp at hr';obtain⟨rfl,rfl⟩:=hr';exact⟨h1,h2,h3⟩
 |absent=>rw[hx]at hb;cases hb
 |dead=>rw[hx]at hb;cases hb
 |var xs=>rw[hx]at hb;cases hb
 |row e l=>rw[hx]at hb;cases hb
def UX (P:Program)(n:Nat)(op:Op)(agg:Bool)(k:Nat)(p:mY):Bool:=match op with|.load t p'=>kD n p' p&&IP P t agg k&&(agg||k==1)|_=>false
theorem TP {t:TypeId}{agg:Bool}{k:Nat}(h:GX E I ρ n st a w)(ht:IP P t agg k=true){pv:Value}{p:AV}(hp:GV I ρ pv p)(jG:(yw agg k p st.bx).vc) :
 ∃v,(nM t pv).run P w = .ok v w/\GV I ρ v (yw agg k p st.bx).v:=by
 have key:∀(q:Addr) (xs:List AC) (off:Nat),pv = .pointer (some (q.add off))->AY I ρ w q xs->(agg=true->off+k<=xs.length->∃v,(nM t pv).run P w = .ok v w/\GV I ρ v (.agg ((xs.drop off).take k))) /\
  (agg=false->∀x,xs[off]? = some x->∃v,(nM t pv).run P w = .ok v w/\GV I ρ v (.one x)):=by
  intro q xs off hq hc;refine⟨λhA hl=>?_,λhA x hx=>?_⟩
  ·subst hA;obtain⟨v,hv,hg⟩:=VJ (P:=P) (xs:=(xs.drop off).take k) ht (by simp;omega) ((hc.drop off).take k);exact⟨v,by simp[nM,hq,jO,hv],hg⟩
  ·subst hA;obtain⟨u,hu,hg⟩:=hc off x hx;exact⟨u,by simp[nM,hq,jO,Ib (P:=P) ht hu],hg⟩
 unfold yw at *;split at jG
 ·rename_i b off;obtain⟨kk,cap,hr,hv⟩:=hp;split at jG
  ·rename_i xs hb;have hc:=h.bx.ac8 hb hr;have hk:=key ⟨kk,0,none⟩ xs off (by rw[Addr.o9];simpa using hv) hc
   try simp only[hb]
   split at jG
   ·rename_i hA;rw[aF hA];exact hk.1 hA jG
   ·rename_i hA;rw[ai hA];split at jG
    ·rename_i x hx;simp only[FR.ok];exact hk.2 (by simpa using hA) x hx
    ·exact jG.elim
  ·exact jG.elim
 ·rename_i b i sz off;obtain⟨kk,cap,hr,hv⟩:=hp;split at jG
  ·rename_i sz' es hb
   try simp only[hb]
   have facts:=GS.Gn h hb hr;split at jG
   ·rename_i hA;rw[aF hA];obtain⟨rfl,hi,hl⟩:=jG;have hc:=GS.JI h hb hr aI hi;have hlen:(es.getD i []).length=sz':=facts.2.2 _ (by simp[bH,aA hi]);have:=(key ⟨kk,i*sz',none⟩ _ off (by rw[Addr.o9];exact hv) hc).1 hA (by rw[kX,hlen];exact hl);simpa[List.map_drop,AA]using this
   ·rename_i hA;rw[ai hA];obtain⟨rfl,hi,hl⟩:=jG;have hc:=GS.JI h hb hr aI hi;have hlen:(es.getD i []).length=sz':=facts.2.2 _ (by simp[bH,aA hi]);have:=(key ⟨kk,i*sz',none⟩ _ off (by rw[Addr.o9];exact hv) hc).2 (by simpa using hA) (.c ((es.getD i []).getD off default))
     (by rw[dD,aA aI];simp[bH,aA (show off<(es[i]?.getD []).length by simpa[bH]using(by omega:off<(es.getD i []).length))])
    exact this
  ·exact jG.elim
 ·rename_i cs;obtain⟨p,hv,hc⟩:=hp;have hcc:AY I ρ w p (cs.map .c):=λj x hj=>by
   rw[dD]at hj;cases hq:cs[j]? with
   |none=>rw[hq]at hj;cases hj
   |some c=>rw[hq]at hj;simp at hj;subst hj;obtain⟨u,hu,hr⟩:=hc j c hq;exact⟨u,h.agree.cell hu,hr⟩
  have hk:=key p _ 0 (by rw[Addr.add_zero];exact hv) hcc;split at jG
  ·rename_i hA;rw[aF hA];have:=hk.1 hA (by simpa using jG);simpa[AA]using this
  ·rename_i hA;rw[ai hA];have h0:cs[0]? = some (cs.getD 0 default):=(by simp[bH,aA jG]);exact hk.2 (by simpa using hA) _ (by rw[dD,h0];rfl)
 ·exact jG.elim
theorem ack {o:Oper}{agg:Bool}{k:Nat}{p:mY}(h:GX E I ρ n st a w)(hc:UX P n o.op agg k p=true)(hx:(p.ev st.tm).g=true)(jG:(yw agg k (dY st.tm p) st.bx).vc) :
 tK P E n o a w st (yw agg k (dY st.tm p) st.bx).v:=by
 unfold UX at hc;split at hc
 ·rename_i t p' he;simp only[ah]at hc;obtain⟨v,hv,hg⟩:=TP (P:=P) h hc.1.2 (lX h hc.1.1 hx) jG;exact su.val h (by simp[execOp,he,hv]) hg
 ·cases hc
end
end
section
section
variable {P:Program} {E:Env P} {I:IH} {ρ:Ren} {n:Nat} {st:iI} {a:Act} {w:World}
def MF (P:Program)(t:TypeId):Bool:=match P.underlying t with|some (.slice _)=>true|_=>false
theorem Kw {t:TypeId}(h:MF P t=true):∃e,P.underlying t=some (.slice e):=by
 unfold MF at h;split at h
 ·rename_i e he;exact⟨e,he⟩
 ·cases h
def NW (P:Program)(t:TypeId):Bool:=match P.underlying t with|some .string=>true|_=>false
theorem FK {t:TypeId}(h:NW P t=true):P.underlying t=some .string:=by
 unfold NW at h;split at h
 ·assumption
 ·cases h
theorem ah1 {v:Value}{sz:Nat}{es:List (List Cell)}(h:GV I ρ v (vSl sz es)):∃a cap,v = .slice a es.length cap/\es.length<=cap/\cap<=maxLen:=by cases h with|sl a len cap sz es u hlen hcap hmax=>subst hlen;exact⟨a,cap,rfl,hcap,hmax⟩
def lenV (x:AV):FR:=match x with
    |.one (.c (.sl _ es))=>.ok (uI .i64 es.length)
    |.one (.mM _)=>.ok (uI .i64 0)
    |.one (.own _ n _)=>.ok (uI .i64 n)
    |.one (.sub _ _ n _ _)=>.ok (uI .i64 n)
    |_=>.bad
theorem aiF {v:Value}{x:AV}(h:GV I ρ v x)(jG:(lenV x).vc):∃b k c,v = .slice b k c/\(lenV x).v=uI .i64 k:=by
 unfold lenV at *;split at jG
 ·rename_i sz es;obtain⟨b,c,rfl,_⟩:=ah1 h;exact⟨b,_,c,rfl,rfl⟩
 ·simp only[GV,GC]at h;exact⟨none,0,0,h,rfl⟩
 ·obtain⟨k,cap,b,c,_,rfl,_⟩:=h;exact⟨b,_,c,rfl,rfl⟩
 ·obtain⟨k,cap,b,c,_,rfl,_⟩:=h;exact⟨b,_,c,rfl,rfl⟩
 ·exact jG.elim
def YJ (P:Program)(n:Nat)(op:Op)(x:mY):Bool:=
 match op with
 |.call { callee:=.builtin .len,args:=⟨[x']⟩,argTypes:=⟨[t]⟩ }=>kD n x' x&&MF P t
 |_=>false
theorem aeP {o:Oper}{x:mY}(h:GX E I ρ n st a w)(hc:YJ P n o.op x=true)(hx:(x.ev st.tm).g=true)(jG:(lenV (dY st.tm x)).vc):tK P E n o a w st (lenV (dY st.tm x)).v:=by
 unfold YJ at hc;split at hc
 ·rename_i x' t he;simp only[ah]at hc;have g:=lX h hc.1 hx;obtain⟨e,ht⟩:=Kw hc.2;obtain⟨b,k,c,hv,hr⟩:=aiF g jG;rw[hr];exact su.val h (by simp[execOp,he,resolve,invoke,builtin,Di,run_underlying ht,hv,goInt]) (yY _ _)
 ·cases hc
def UW (P:Program)(n:Nat)(op:Op)(x:mY):Bool:=
 match op with
 |.call { callee:=.builtin .len,args:=⟨[x']⟩,argTypes:=⟨[t]⟩ }=>kD n x' x&&NW P t
 |_=>false
theorem ach {o:Oper}{x:mY}{s:List UInt8}(h:GX E I ρ n st a w)(hc:UW P n o.op x=true)(hx:(x.ev st.tm).g=true)(hs:dY st.tm x=Ip s):tK P E n o a w st (uI .i64 s.length):=by
 unfold UW at hc;split at hc
 ·rename_i x' t he;simp only[ah]at hc;have g:=lX h hc.1 hx;rw[hs]at g;have ht:=FK hc.2;obtain⟨hv,_⟩:=FU g;exact su.val h (v:=.int .i64 s.length) (by simp[execOp,he,resolve,invoke,builtin,Di,run_underlying ht,hv,goInt];rfl) (yY _ _)
 ·cases hc
def Tu (mx:Bool)(n:Nat)(op:Op)(x y:mY):Bool:=
 match op with
 |.call { callee:=.builtin b,args:=⟨[x',y']⟩,argTypes:=_ }=>(match b with|.max=>mx|.min=> !mx|_=>false)&&kD n x' x&&kD n y' y
 |_=>false
theorem ae1 {o:Oper}{x y:mY}{k:IntKind}{p q:Int}(h:GX E I ρ n st a w)(hc:Tu true n o.op x y=true)(hx:(x.ev st.tm).g=true)(hy:(y.ev st.tm).g=true)
 (e1:dY st.tm x=uI k p) (e2:dY st.tm y=uI k q):tK P E n o a w st (uI k (if q>p then q else p)):=by
 unfold Tu at hc;split at hc
 ·rename_i b x' y' ts he;simp only[ah]at hc;have g1:=lX h hc.1.2 hx;have g2:=lX h hc.2 hy;rw[e1]at g1;rw[e2]at g2;have v1:=vz g1;have v2:=vz g2;obtain⟨⟨hb,_⟩,_⟩:=hc;cases b<;>simp at hb;refine su.val h (v:=.int k (if q>p then q else p)) ?_ (yY _ _);simp[execOp,he,resolve,invoke,builtin,Builtin.max_,v1,v2,Builtin.max2]
 ·cases hc
theorem ae3 {o:Oper}{x y:mY}{k:IntKind}{p q:Int}(h:GX E I ρ n st a w)(hc:Tu false n o.op x y=true)(hx:(x.ev st.tm).g=true)(hy:(y.ev st.tm).g=true)
 (e1:dY st.tm x=uI k p) (e2:dY st.tm y=uI k q):tK P E n o a w st (uI k (if q<p then q else p)):=by
 unfold Tu at hc;split at hc
 ·rename_i b x' y' ts he;simp only[ah]at hc;have g1:=lX h hc.1.2 hx;have g2:=lX h hc.2 hy;rw[e1]at g1;rw[e2]at g2;have v1:=vz g1;have v2:=vz g2;obtain⟨⟨hb,_⟩,_⟩:=hc;cases b<;>simp at hb;refine su.val h (v:=.int k (if q<p then q else p)) ?_ (yY _ _);simp[execOp,he,resolve,invoke,builtin,Builtin.min_,v1,v2,Builtin.min2]
 ·cases hc
theorem ag3 {v:Value}{xs:List AC}(h:GP I ρ v (true,xs)):GV I ρ v (.agg xs):=by simpa[GP,GV]using h
theorem aen {v:Value}{x:AC}(h:GP I ρ v (false,[x])):GV I ρ v (.one x):=by simp only[GP]at h;obtain⟨y,hy,hg⟩:=h;simp at hy;subst hy;exact hg
def Gx (x:AV) (i:Nat):FR:=match x with
    | .AX ps=>match ps[i]? with
      |some (true,xs)=>.ok (.agg xs)
      |some (false,[x])=>.ok (.one x)
      |_=>.bad
    |_=>.bad
def KL (n:Nat)(op:Op)(x:mY)(i:Nat):Bool:=match op with|.extract x' j=>kD n x' x&&j==i|_=>false
theorem U3 {o:Oper}{x:mY}{i:Nat}(h:GX E I ρ n st a w)(hc:KL n o.op x i=true)(hx:(x.ev st.tm).g=true)(jG:(Gx (dY st.tm x) i).vc):tK P E n o a w st (Gx (dY st.tm x) i).v:=by
 unfold KL at hc;split at hc
 ·rename_i x' j he;simp only[ah,aH]at hc;obtain⟨h1,rfl⟩:=hc;have g:=lX h h1 hx;unfold Gx at jG⊢;split at jG
  ·rename_i ps e1;rw[e1]at g;obtain⟨vs,hv,hs,hp⟩:=g;have hj:∀p,ps[j]? = some p->∃v,vs[j]? = some v/\GP I ρ v p:=λp hq=>by
    have hl:j<vs.size:=(by rw[hs];exact(aT.1 hq).1);exact⟨vs[j],lJ hl,hp j _ p (lJ hl) hq⟩
   split at jG
   ·rename_i xs hq;obtain⟨v,hv',hg⟩:=hj _ hq;exact su.val h (by simp[execOp,he,hv,Ci,hv']) (ag3 hg)
   ·rename_i y hq;obtain⟨v,hv',hg⟩:=hj _ hq;exact su.val h (by simp[execOp,he,hv,Ci,hv']) (aen hg)
   ·exact jG.elim
  ·exact jG.elim
 ·cases hc
def UU (P:Program)(n:Nat)(op:Op)(x i:mY):Bool:=match op with|.index t x' i'=>kD n x' x&&kD n i' i&&NW P t|_=>false
theorem ab7 {o:Oper}{x y:mY}{s:List UInt8}{k:IntKind}{i:Int}(h:GX E I ρ n st a w)(hc:UU P n o.op x y=true)(hx:(x.ev st.tm).g=true)(hy:(y.ev st.tm).g=true)
 (e1:dY st.tm x=Ip s) (e2:dY st.tm y=uI k i) (h0:0<=i) (h1:i<s.length):tK P E n o a w st (uI .u8 (s.getD i.toNat 0).toNat):=by
 unfold UU at hc;split at hc
 ·rename_i t x' y' he;simp only[ah]at hc;have g1:=lX h hc.1.1 hx;have g2:=lX h hc.1.2 hy;rw[e1]at g1;rw[e2]at g2;obtain⟨v1,_⟩:=FU g1;have v2:=vz g2;have ht:=FK hc.2;have hi:i.toNat<s.length:=by omega
  refine su.val h (v:=.int .u8 (s.getD i.toNat 0).toNat) ?_ (yY _ _);have hb:(⟨⟨s⟩⟩:ByteArray)[i.toNat]? = some (s.getD i.toNat 0):=by have:(⟨⟨s⟩⟩:ByteArray)[i.toNat]? = some ((⟨⟨s⟩⟩:ByteArray)[i.toNat]'(by simpa[ByteArray.size]using hi)):=getElem?_pos _ _ _;rw[this];simp[bH,aA hi];rfl
  simp[execOp,he,Instr.index,v1,v2,asIntOf,run_underlying ht,h0,hb]
 ·cases hc
def UY (n:Nat)(op:Op)(f:FuncId)(cs:List mY):Bool:=match op with|.makeFunc (.func g) ⟨[]⟩ caps=>g==f&&(caps.size==cs.length)&&(caps.toList.zip cs).all λp=>kD n p.1 p.2|_=>false
theorem agK {cs:List mY}{os:List Operand}{l:List Nat}(h:GX E I ρ n st a w)(hl:os.length=cs.length)(hc:(os.zip cs).all (λp=>kD n p.1 p.2)=true)(hg:∀x,x∈cs->(x.ev st.tm).g=true)
 (hk:FQ (cs.map (dY st.tm))=some l):∃ks:List Nat,ks.length=l.length/\(∀(j b k:Nat),l[j]? = some b->ks[j]? = some k->∃cap,ρ b=some (k,cap))/\os.map a.eval=ks.map λk=>oh (some ⟨k,0,none⟩):=by
 induction cs generalizing os l with
 | nil=>
   simp[FQ]at hk;subst hk;cases os with
   |nil=>exact⟨[],rfl,nV,rfl⟩
   |cons _ _=>simp at hl
 | cons c r ih=>
   cases os with
   |nil=>simp at hl
   | cons o os=>
     simp only[List.zip_cons_cons,fF,ah]at hc;have g:=lX h hc.1 (hg c nV);simp only[bJ]at hk;unfold FQ at hk;split at hk
     ·rename_i e;cases e
     ·rename_i b r' e;simp only[uj]at e;obtain⟨e1,rfl⟩:=e;cases hq:FQ (r.map (dY st.tm))with
      |none=>rw[hq]at hk;cases hk
      | some l'=>
        rw[hq]at hk;simp at hk;subst hk;obtain⟨ks,h1,h2,h3⟩:=ih (by simpa using hl) hc.2 (λx hx=>hg x (by simp[hx])) hq;rw[e1]at g;obtain⟨k,cap,hr,hv⟩:=g;refine⟨k::ks,by simp[h1],λj b' k' hb hk=>?_,by simp[hv,h3]⟩;cases j with
        |zero=>simp at hb hk;subst hb;subst hk;exact⟨cap,hr⟩
        |succ j=>exact h2 j b' k' (by simpa using hb) (by simpa using hk)
     ·cases hk
theorem acA {o:Oper}{f:FuncId}{cs:List mY}{l:List Nat}(h:GX E I ρ n st a w)(hc:UY n o.op f cs=true)(hg:∀x,x∈cs->(x.ev st.tm).g=true)
 (hk:FQ (cs.map (dY st.tm))=some l):tK P E n o a w st (.one (.fn f l)):=by
 unfold UY at hc;split at hc
 ·rename_i g caps he;simp only[ah,aH]at hc;obtain⟨⟨rfl,hl⟩,hc⟩:=hc;obtain⟨ks,h1,h2,h3⟩:=agK h (by simpa using hl) hc hg hk;refine su.val h (v:=.func (.func g) #[] (caps.map a.eval)) (by simp[execOp,he,Instr.makeFunc]) ⟨ks,h1,h2,?_⟩
  congr 1
  apply vO;simpa using h3
 ·cases hc
def Ja (off:Nat) (x:AV):FR:=match x with
    |.one (.ptr b o)=>.ok (.one (.ptr b (o+off)))
    |.one (.yE b i sz o)=>.ok (.one (.yE b i sz (o+off)))
    |.one (.EG cs)=>.ok (.one (.EG (cs.drop off)))
    |_=>.bad
theorem aef {v:Value}{x:AV}{off:Nat}(h:GV I ρ v x)(jG:(Ja off x).vc):∃p:Addr,v = .pointer (some p)/\GV I ρ (.pointer (some (p.add off))) (Ja off x).v:=by
 unfold Ja at *;split at jG
 ·rename_i b o;obtain⟨k,cap,hr,rfl⟩:=h;exact⟨_,rfl,k,cap,hr,by rw[Addr.o9]⟩
 ·rename_i b i sz o;obtain⟨k,cap,hr,rfl⟩:=h;exact⟨_,rfl,k,cap,hr,by rw[Addr.o9,oW]⟩
 ·rename_i cs;obtain⟨p,rfl,hc⟩:=h;exact⟨p,rfl,_,rfl,λj c hj=>by rw[iL]at hj;rw[Addr.add_add];exact hc _ c hj⟩
 ·exact jG.elim
def U4 (P:Program)(s:TypeId)(f off:Nat)(agg:Bool)(k:Nat):Bool:=
 match P.underlying s with
 | some (.struct fs)=>match fs[f]? with
   |some OB=>OB.offset==off&&IP P OB.type agg k&&k != 0
   |none=>false
 |_=>false
theorem U5 {s:TypeId}{f off:Nat}{agg:Bool}{k:Nat}(h:U4 P s f off agg k=true):∃fs OB,P.underlying s=some (.struct fs)/\fs[f]? = some OB/\OB.offset=off/\IP P OB.type agg k=true/\k≠0:=by
 unfold U4 at h;split at h
 ·rename_i fs hs;split at h
  ·rename_i OB hf;simp only[ah,aH,bne_iff_ne]at h;exact⟨fs,OB,hs,hf,h.1.1,h.1.2,h.2⟩
  ·cases h
 ·cases h
def CX (P:Program)(s:TypeId)(f off:Nat):Bool:=
 match P.underlying s with
 | some (.struct fs)=>match fs[f]? with
   |some OB=>OB.offset==off&&(match P.info? OB.type with|some i=>i.size != 0|none=>false)
   |none=>false
 |_=>false
def Qd (P:Program)(n:Nat)(op:Op)(off:Nat)(x:mY):Bool:=match op with|.fieldAddr s x' f=>kD n x' x&&CX P s f off|_=>false
theorem Y0 {o:Oper}{x:mY}{off:Nat}(h:GX E I ρ n st a w)(hc:Qd P n o.op off x=true)(hx:(x.ev st.tm).g=true)(jG:(Ja off (dY st.tm x)).vc):tK P E n o a w st (Ja off (dY st.tm x)).v:=by
 unfold Qd at hc;split at hc
 ·rename_i s x' f he;simp only[ah]at hc;have g:=lX h hc.1 hx;obtain⟨p,hp,hg⟩:=aef g jG;obtain⟨_,hf⟩:=hc;unfold CX at hf;split at hf
  ·rename_i fs hs;split at hf
   ·rename_i OB hfld;simp only[ah,aH]at hf;obtain⟨rfl,hf⟩:=hf;split at hf
    ·rename_i i hi;simp at hf;refine su.val h ?_ hg;simp[execOp,he,yI,run_underlying hs,hfld,hp,jO,fieldPlace,sizeOf,typeInfo,hi,hf]
    ·cases hf
   ·cases hf
  ·cases hf
 ·cases hc
def Ob (x:AV):FR:=match x with
    |.one (.ptr b o)=>.ok (.one (.ptr b o))
    |.one (.yE b i sz o)=>.ok (.one (.yE b i sz o))
    |.one (.EG cs)=>.ok (.one (.EG cs))
    |.one (.fn f cs)=>.ok (.one (.fn f cs))
    |_=>.bad
def Qj (n:Nat)(op:Op)(x:mY):Bool:=match op with|.nilCheck x'=>kD n x' x|_=>false
theorem Zu {o:Oper}{x:mY}(h:GX E I ρ n st a w)(hc:Qj n o.op x=true)(hx:(x.ev st.tm).g=true)(jG:(Ob (dY st.tm x)).vc):tK P E n o a w st (Ob (dY st.tm x)).v:=by
 unfold Qj at hc;split at hc
 ·rename_i x' he;have g:=lX h hc hx;have key:(∃p,a.eval x' = .pointer (some p))\/(∃f b,a.eval x' = .func (.func f) #[] b)->(execOp a.eval o).run P w = .ok (.value (a.eval x')) w:=by rintro(⟨p,hp⟩|⟨f,b,hp⟩)<;>simp[execOp,he,hp]
  unfold Ob at jG⊢;split at jG
  ·rename_i b o' e1;rw[e1]at g;exact su.val h (key (by obtain⟨k,cap,hr,hv⟩:=g;exact .inl ⟨_,hv⟩)) g
  ·rename_i b i sz o' e1;rw[e1]at g;exact su.val h (key (by obtain⟨k,cap,hr,hv⟩:=g;exact .inl ⟨_,hv⟩)) g
  ·rename_i cs e1;rw[e1]at g;exact su.val h (key (by obtain⟨p,hv,_⟩:=g;exact .inl ⟨_,hv⟩)) g
  ·rename_i f cs e1;rw[e1]at g;exact su.val h (key (by obtain⟨ks,_,_,hv⟩:=g;exact .inr ⟨_,_,hv⟩)) g
  ·exact jG.elim
 ·cases hc
end
end
section
section
variable {P:Program} {E:Env P} {I:IH} {ρ:Ren} {n:Nat} {st:iI} {a:Act} {w:World}
def NJ (agg:Bool) (off k:Nat) (x:AV):FR:=match x with
    | .agg xs=>if agg then⟨off+k<=xs.length,.agg ((xs.drop off).take k),[]⟩else match xs[off]? with
      |some x=>.ok (.one x)
      |none=>.bad
    |_=>.bad
def Qe (P:Program)(n:Nat)(op:Op)(agg:Bool)(off k:Nat)(x:mY):Bool:=match op with|.field s x' f=>kD n x' x&&U4 P s f off agg k|_=>false
theorem aek {vs:List Value}{xs:List AC}(h:JH I ρ vs xs)(off k:Nat):JH I ρ ((vs.drop off).take k) ((xs.drop off).take k):=by
 refine⟨by simp[h.1],λj v x hv hx=>?_⟩;rw[bW]at hv hx;split at hv
 ·rename_i hj;rw[aF hj]at hx;rw[iL]at hv hx;exact h.2 _ v x hv hx
 ·cases hv
theorem Y1 {o:Oper}{x:mY}{agg:Bool}{off k:Nat}(h:GX E I ρ n st a w)(hc:Qe P n o.op agg off k x=true)(hx:(x.ev st.tm).g=true)(jG:(NJ agg off k (dY st.tm x)).vc) :
 tK P E n o a w st (NJ agg off k (dY st.tm x)).v:=by
 unfold Qe at hc;split at hc
 ·rename_i s x' f he;simp only[ah]at hc;have g:=lX h hc.1 hx;obtain⟨fs,OB,hs,hf,rfl,ht,hk⟩:=U5 hc.2;obtain⟨t1,t2⟩:=EU ht w;unfold NJ at jG⊢;split at jG
  ·rename_i xs e1;rw[e1]at g;obtain⟨cs,hv,hg⟩:=g;split at jG
   ·rename_i hA;rw[aF hA];rw[hA]at t1;refine su.val h (v:=.agg (cs.extract OB.offset (OB.offset+k))) (by simp[execOp,he,Dt,run_underlying hs,hf,hv,asAgg,part,t1,t2]) ⟨_,rfl,?_⟩;have:=aek hg OB.offset k;simpa[List.extract_eq_take_drop]using this
   ·rename_i hA;rw[ai hA];have hA':agg=false:=(by simpa using hA);rw[hA']at t1;split at jG
    ·rename_i y hy;have hl:OB.offset<cs.size:=by
      have h1:=hg.1;have h2:=(aT.1 hy).1;simp at h1;omega
     refine su.val h (v:=cs[OB.offset]) (by simp[execOp,he,Dt,run_underlying hs,hf,hv,asAgg,part,t1,lJ hl]) (hg.2 OB.offset _ y (by simp[hl]) hy)
    ·exact jG.elim
  ·exact jG.elim
 ·cases hc
def NS (sz:Nat) (x i:AV):FR:=match x,i with
    |.one (.c (.sl sz' es)),.one (.c (.lit (.int _ i)))=>⟨sz'=sz/\0<=i/\i<es.length,.one (.EG (es.getD i.toNat [])),[]⟩
    |.one (.own b n sz'),.one (.c (.lit (.int _ i)))=>⟨sz'=sz/\0<=i/\i<n,.one (.yE b i.toNat sz 0),[]⟩
    |.one (.sub b lo n _ sz'),.one (.c (.lit (.int _ i)))=>⟨sz'=sz/\0<=i/\i<n,.one (.yE b (lo+i.toNat) sz 0),[]⟩
    |_,_=>.bad
def I9 (P:Program)(t:TypeId)(sz:Nat):Bool:=match P.underlying t with|some (.slice e)=>Oi P e sz|_=>false
theorem Ah {t:TypeId}{sz:Nat}(h:I9 P t sz=true):∃e i,P.underlying t=some (.slice e)/\P.info? e=some i/\i.size=sz:=by
 unfold I9 at h;split at h
 ·rename_i e he;obtain⟨i,h1,h2⟩:=Jt h;exact⟨e,i,he,h1,h2⟩
 ·cases h
def Qg (P:Program)(n:Nat)(op:Op)(sz:Nat)(x i:mY):Bool:=match op with|.indexAddr t x' i'=>kD n x' x&&kD n i' i&&I9 P t sz|_=>false
theorem Zc {o:Oper}{x y:mY}{sz:Nat}(h:GX E I ρ n st a w)(hc:Qg P n o.op sz x y=true)(hx:(x.ev st.tm).g=true)(hy:(y.ev st.tm).g=true)
 (jG:(NS sz (dY st.tm x) (dY st.tm y)).vc):tK P E n o a w st (NS sz (dY st.tm x) (dY st.tm y)).v:=by
 unfold Qg at hc;split at hc
 ·rename_i t x' y' he;simp only[ah]at hc;have g1:=lX h hc.1.1 hx;have g2:=lX h hc.1.2 hy;obtain⟨e,ti,ht,hi,hsz⟩:=Ah hc.2;unfold NS at jG⊢;split at jG
  ·rename_i sz' es k i e1 e2;obtain⟨rfl,h0,h1⟩:=jG;rw[e1]at g1;rw[e2]at g2;have v2:=vz g2;generalize hq:a.eval x'=v1 at g1;cases g1 with|sl b len cap _ _ u hlen hcap hmax amc ha hcell hr=>
   subst hlen;have hpos:0<es.length:=(by omega);cases hb:b with
   |none=>exact aY hb (ha hpos)
   | some ad=>
     subst hb;refine su.val h (v:=.pointer (some (ad.add (i.toNat*sz')))) (by simp[execOp,he,sN,v2,hq,asIntOf,run_underlying ht,h0,h1,sizeOf,typeInfo,hi,hsz]) ⟨_,rfl,λj c hj=>?_⟩;have hil:i.toNat<es.length:=(by omega);have hjl:j<sz':=by have:=amc (es.getD i.toNat []) (by simp[bH,aA hil]);rw[<- this];exact(aT.1 hj).1
     exact⟨_,by rw[Addr.add_add];exact hcell ad rfl _ j hil hjl,hr _ j c hj⟩
  ·rename_i b m sz' k i e1 e2;obtain⟨rfl,h0,h1⟩:=jG;rw[e1]at g1;rw[e2]at g2;have v2:=vz g2;obtain⟨kk,cap,ad,c,hr,hv,hm,hcc,hcap⟩:=g1;have hc0:cap≠0:=(by omega);have had:=hcap hc0;subst had;refine su.val h (v:=.pointer (some ((⟨kk,0,none⟩:Addr).add (i.toNat*sz')))) (by simp[execOp,he,sN,v2,hv,asIntOf,run_underlying ht,h0,h1,sizeOf,typeInfo,hi,hsz]) ⟨kk,cap,hr,?_⟩;rw[Addr.o9];simp
  ·rename_i b lo m c0 sz' k i e1 e2;obtain⟨rfl,h0,h1⟩:=jG;rw[e1]at g1;rw[e2]at g2;have v2:=vz g2;obtain⟨kk,cap,ad,c,hr,hv,hm,hcc,_,hcap⟩:=g1;have had:=hcap (.inl aI);subst had;refine su.val h (v:=.pointer (some ((⟨kk,lo*sz',none⟩:Addr).add (i.toNat*sz')))) (by simp[execOp,he,sN,v2,hv,asIntOf,run_underlying ht,h0,h1,sizeOf,typeInfo,hi,hsz]) ⟨kk,cap,hr,?_⟩;rw[Addr.o9,dK,oG]
  ·exact jG.elim
 ·cases hc
def LW (P:Program)(t:TypeId)(sz n:Nat):Bool:=match P.underlying t with|some (.array m e)=>m==n&&Oi P e sz|_=>false
theorem LX {t:TypeId}{sz m:Nat}(h:LW P t sz m=true):∃e i,P.underlying t=some (.array m e)/\P.info? e=some i/\i.size=sz:=by
 unfold LW at h;split at h
 ·rename_i m' e he;simp only[ah,aH]at h;obtain⟨rfl,h⟩:=h;obtain⟨i,h1,h2⟩:=Jt h;exact⟨e,i,he,h1,h2⟩
 ·cases h
def NG (P:Program)(n:Nat)(op:Op)(sz m:Nat)(x i:mY):Bool:=match op with|.indexAddr t x' i'=>kD n x' x&&kD n i' i&&LW P t sz m|_=>false
theorem Xb {o:Oper}{x y:mY}{sz m b:Nat}{k:IntKind}{i:Int}(h:GX E I ρ n st a w)(hc:NG P n o.op sz m x y=true)(hx:(x.ev st.tm).g=true)(hy:(y.ev st.tm).g=true)
 (e1:dY st.tm x = .one (.yE b 0 sz 0)) (e2:dY st.tm y=uI k i) (h0:0<=i) (h1:i<m):tK P E n o a w st (.one (.yE b i.toNat sz 0)):=by
 unfold NG at hc;split at hc
 ·rename_i t x' y' he;simp only[ah]at hc;have g1:=lX h hc.1.1 hx;have g2:=lX h hc.1.2 hy;obtain⟨e,ti,ht,hi,hsz⟩:=LX hc.2;rw[e1]at g1;rw[e2]at g2;have v2:=vz g2;obtain⟨kk,cap,hr,hv⟩:=g1;refine su.val h (v:=.pointer (some ((⟨kk,0*sz+0,none⟩:Addr).add (i.toNat*sz)))) (by simp[execOp,he,sN,v2,hv,asIntOf,run_underlying ht,jO,h0,h1,sizeOf,typeInfo,hi,hsz]) ⟨kk,cap,hr,?_⟩;rw[Addr.o9];simp
 ·cases hc
theorem Gq {lo:Option mY}{lo':Option Operand}{d:Nat}{q:Int}(h:GX E I ρ n st a w)(hc:(match lo',lo with|none,none=>true|some x',some x=>kD n x' x|_,_=>false)=true)
 (hg:∀x,x∈lo.toList->(x.ev st.tm).g=true) (hb:bnd (dY st.tm) lo d=some q):(lo'=none/\lo=none/\q=d)\/∃x' k,lo'=some x'/\a.eval x' = .int k q:=by
 unfold bnd at hb;split at hc
 ·simp at hb;exact .inl ⟨rfl,rfl,hb.symm⟩
 ·rename_i x' x;have g:=lX h hc (hg x nV);simp only at hb;split at hb
  ·rename_i k m e1;simp at hb;subst hb;rw[e1]at g;exact .inr ⟨x',k,rfl,vz g⟩
  ·cases hb
 ·cases hc
def NF (n:Nat)(lo':Option Operand)(lo:Option mY):Bool:=match lo',lo with|none,none=>true|some x',some x=>kD n x' x|_,_=>false
theorem JJ {lo:Option mY}{lo':Option Operand}{d:Nat}{q:Int}(h:(lo'=none/\lo=none/\q=d)\/∃x' k,lo'=some x'/\a.eval x' = .int k q) :
 lo'.map a.eval=none/\q=d\/∃k,lo'.map a.eval=some (.int k q):=by
 rcases h with⟨rfl,_,e⟩|⟨y,k,rfl,e⟩
 ·exact .inl ⟨rfl,e⟩
 ·exact .inr ⟨k,by simp[e]⟩
theorem run_sliceBound {k:IntKind}{i:Int}{y:Nat}{c:BoundsCode}(h0:0<=i)(h1:i<=y):(Instr.sliceBound (.int k i) y c).run P w = .ok i.toNat w:=by simp[Instr.sliceBound,asIntOf,h0,h1]
theorem BN (isS:Bool)(len cap:Nat)(lo' hi':Option Value){p q:Int}(hlo:lo'=none/\p=0\/∃k,lo'=some (.int k p))(hhi:hi'=none/\q=len\/∃k,hi'=some (.int k q))
 (h0:0<=p) (h1:p<=q) (h2:q<=cap):(wY isS len cap lo' hi' none).run P w = .ok (p.toNat,q.toNat,cap) w:=by
 rcases hlo with⟨rfl,rfl⟩|⟨k,rfl⟩<;>rcases hhi with⟨rfl,rfl⟩|⟨k',rfl⟩<;>cases isS <;>
  simp (disch:=omega) [wY,run_sliceBound]
def Ql (P:Program)(n:Nat)(op:Op)(x:mY)(lo hi:Option mY):Bool:=match op with|.slice t x' lo' hi' none=>kD n x' x&&NF n lo' lo&&NF n hi' hi&&NW P t|_=>false
theorem ZN {o:Oper}{x:mY}{lo hi:Option mY}{s:List UInt8}{p q:Int}(h:GX E I ρ n st a w)(hc:Ql P n o.op x lo hi=true)(hx:(x.ev st.tm).g=true)
 (hgl:∀x,x∈lo.toList->(x.ev st.tm).g=true) (hgh:∀x,x∈hi.toList->(x.ev st.tm).g=true)
 (e1:dY st.tm x=Ip s) (e2:bnd (dY st.tm) lo 0=some p) (e3:bnd (dY st.tm) hi s.length=some q) (h0:0<=p) (h1:p<=q) (h2:q<=s.length) :
 tK P E n o a w st (Ip ((s.take q.toNat).drop p.toNat)):=by
 unfold Ql at hc;split at hc
 ·rename_i t x' lo' hi' he;simp only[ah]at hc;have g1:=lX h hc.1.1.1 hx;have ht:=FK hc.2;rw[e1]at g1;obtain⟨v1,hl⟩:=FU g1;have b1:=Gq h hc.1.1.2 hgl e2;have b2:=Gq h hc.1.2 hgh e3;have hb:=BN (P:=P) (w:=w) false s.length s.length (lo'.map a.eval) (hi'.map a.eval) (p:=p) (q:=q)
   (JJ b1) (JJ b2) h0 h1 h2
  have hx:(⟨⟨s⟩⟩:ByteArray).extract p.toNat q.toNat=⟨⟨(s.take q.toNat).drop p.toNat⟩⟩:=by rw[Lib.extract_eq];simp[List.drop_take]
  refine su.val h (v:=.string ⟨⟨(s.take q.toNat).drop p.toNat⟩⟩) ?_ (Vp (by simp;omega));simp only[execOp,he,vP,zT,v1,zl];simp[run_underlying ht];rw[show(⟨⟨s⟩⟩:ByteArray).size=s.length from rfl,hb];simp[hx]
 ·cases hc
def Uo (sz:Nat) (x:AV) (lo:Option Int) (hi:Nat->Option Int):FR:=match x with
    | .one (.c (.sl sz' es))=>match lo,hi es.length with
      |some a,some b=>⟨sz'=sz/\0<=a/\a<=b/\b<=es.length,vSl sz ((es.take b.toNat).drop a.toNat),[]⟩
      |_,_=>.bad
    | .one (.mM sz')=>match lo,hi 0 with
      |some a,some b=>⟨a=0/\b=0,.one (.mM sz'),[]⟩
      |_,_=>.bad
    | .one (.own l n sz')=>match lo,hi n with
      |some a,some b=>⟨a=0/\0<=b/\b<=n,.one (.own l b.toNat sz'),[]⟩
      |_,_=>.bad
    |_=>.bad
theorem ajl {v:Value}{sz:Nat}{es:List (List Cell)}(h:Rd I v (.sl sz es)){p q:Nat}(hpq:p<=q)(hq:q<=es.length):∃a cap,v = .slice a es.length cap/\es.length<=cap /\
 Rd I (.slice (if cap=p then a else a.map (·.add (p*sz))) (q-p) (cap-p)) (.sl sz ((es.take q).drop p)):=by
 cases h with|sl a len cap sz es u hlen hcap hmax hsz ha hcell hr=>
 subst hlen;refine⟨a,cap,rfl,hcap,?_⟩;refine Rd.sl _ _ _ _ _ (λi j=>u (p+i) j) (by simp;omega) aI aI ?_ ?_ ?_ ?_
 ·intro e he;exact hsz e (jq (o8 he))
 ·intro h0;rw[ai aI];have:=ha aI;cases a with
  |none=>exact aY rfl this
  |some ad=>simp
 ·intro ad had i j hi hj;rw[ai aI]at had;cases a with
  |none=>simp at had
  | some ad'=>
    simp at had;subst had;rw[Addr.add_add,<- hcell ad' rfl (p+i) j aI hj]
    congr 2
    rw[dK,oW]
 ·intro i j c hc;have hi:=lq hc;simp at hi;refine hr (p+i) j c ?_;rw[<- hc]
  congr 1
  simp only[bH];rw[iL,bW,aF aI]
def U1 (P:Program)(n:Nat)(op:Op)(sz:Nat)(x:mY)(lo hi:Option mY):Bool:=match op with|.slice t x' lo' hi' none=>kD n x' x&&NF n lo' lo&&NF n hi' hi&&I9 P t sz|_=>false
theorem acZ {o:Oper}{sz:Nat}{x:mY}{lo hi:Option mY}(h:GX E I ρ n st a w)(hc:U1 P n o.op sz x lo hi=true)(hx:(x.ev st.tm).g=true)
 (hgl:∀x,x∈lo.toList->(x.ev st.tm).g=true) (hgh:∀x,x∈hi.toList->(x.ev st.tm).g=true)
 (jG:(Uo sz (dY st.tm x) (bnd (dY st.tm) lo 0) (bnd (dY st.tm) hi)).vc):tK P E n o a w st (Uo sz (dY st.tm x) (bnd (dY st.tm) lo 0) (bnd (dY st.tm) hi)).v:=by
 unfold U1 at hc;split at hc
 ·rename_i t x' lo' hi' he;simp only[ah]at hc;have g1:=lX h hc.1.1.1 hx;obtain⟨e,ti,ht,hti,hsz⟩:=Ah hc.2;have key:∀(b:Option Addr) (len cap:Nat) (p q:Int),a.eval x' = .slice b len cap->len<=cap->bnd (dY st.tm) lo 0=some p->bnd (dY st.tm) hi len=some q->0<=p->p<=q->q<=cap ->
   (execOp a.eval o).run P w = .ok (.value (.slice (if cap=p.toNat then b else b.map (·.add (p.toNat*sz))) (q.toNat-p.toNat) (cap-p.toNat))) w:=by
   intro b len cap p q hv hlc e2 e3 h0 h1 h2;have b1:=Gq h hc.1.1.2 hgl e2;have b2:=Gq h hc.1.2 hgh e3;have hb:=BN (P:=P) (w:=w) true len cap (lo'.map a.eval) (hi'.map a.eval) (p:=p) (q:=q)
    (JJ b1) (JJ b2) h0 h1 h2
   simp only[execOp,he,vP,zT,hv,zl];simp[run_underlying ht];rw[hb];simp[sizeOf,typeInfo,hti,hsz]
  unfold Uo at jG⊢;split at jG
  ·rename_i sz' es e1;rw[e1]at g1;split at jG
   ·rename_i p q e2 e3;obtain⟨rfl,h0,h1,h2⟩:=jG;obtain⟨b,cap,hv,hcap,hr⟩:=ajl g1 (p:=p.toNat) (q:=q.toNat) aI aI;exact su.val h (key b _ cap p q hv hcap e2 e3 h0 h1 aI) hr
   ·exact jG.elim
  ·rename_i sz' e1;rw[e1]at g1;split at jG
   ·rename_i p q e2 e3;obtain⟨rfl,rfl⟩:=jG;have:=key none 0 0 0 0 g1 (ak _) e2 e3 aI aI aI;exact su.val h this (by simp[GV,GC])
   ·exact jG.elim
  ·rename_i b m sz' e1;rw[e1]at g1;split at jG
   ·rename_i p q e2 e3;obtain⟨rfl,h1,h2⟩:=jG;obtain⟨kk,cap,ad,c,hr,hv,hm,hcc,hcap⟩:=g1;have:=key ad m c 0 q hv hm e2 e3 aI aI aI;refine su.val h this ⟨kk,cap,_,_,hr,rfl,aI,aI,λhc0=>?_⟩;rw[hcap hc0];simp[Addr.add_zero]
   ·exact jG.elim
  ·exact jG.elim
 ·cases hc
def Qk (P:Program)(n:Nat)(op:Op)(sz m:Nat)(x:mY):Bool:=match op with|.slice t x' none none none=>kD n x' x&&LW P t sz m|_=>false
theorem ZL {o:Oper}{sz m b:Nat}{es:List (List Cell)}{x:mY}(h:GX E I ρ n st a w)(hc:Qk P n o.op sz m x=true)(hx:(x.ev st.tm).g=true)
 (e1:dY st.tm x = .one (.yE b 0 sz 0)) (e2:st.bx b = .dat sz es) (hm:es.length=m):tK P E n o a w st (.one (.own b m sz)):=by
 unfold Qk at hc;split at hc
 ·rename_i t x' he;simp only[ah]at hc;have g1:=lX h hc.1 hx;rw[e1]at g1;obtain⟨kk,cap,hr,hv⟩:=g1;obtain⟨e,ti,ht,hi',hsz⟩:=LX hc.2;have facts:=GS.Gn h (b:=b) (by rw[e2];rfl) hr;refine su.val h (v:=.slice (some ⟨kk,0,none⟩) m m) ?_ ⟨kk,cap,_,_,hr,rfl,ak _,aI,λ_=>rfl⟩;have hb:=BN (P:=P) (w:=w) false m m none none (p:=0) (q:=m) (.inl ⟨rfl,rfl⟩) (.inl ⟨rfl,rfl⟩) aI aI aI;simp only[execOp,he,vP,hv,zl];simp[run_underlying ht,jO];rw[hb];simp[sizeOf,typeInfo,hi',Addr.add_zero]
 ·cases hc
end
end
section
section
variable {P:Program} {E:Env P} {I:IH} {ρ:Ren} {n:Nat} {st:iI} {a:Act} {w:World}
theorem nU {α:Type}(xs ys:List α)(off j:Nat)(h:off+ys.length<=xs.length):(splice xs off ys)[j]? = if j<off then xs[j]? else if j<off+ys.length then ys[j-off]? else xs[j]?:=by
 unfold splice;have h1:(xs.take off).length=off:=by simp;omega
 by_cases hj:j<off
 ·rw[aF hj,dB,bD aI,bW,aF hj]
 ·rw[ai hj];by_cases hj2:j<off+ys.length
  ·rw[aF hj2,bD (by simp;omega),dw aI,h1]
  ·rw[ai hj2,dw (by simp;omega),iL]
   congr 1
   simp;omega
theorem length_splice {α:Type}(xs ys:List α)(off:Nat)(h:off+ys.length<=xs.length):(splice xs off ys).length=xs.length:=by unfold splice;simp;omega
theorem QC {α:Type}(vs:List α):∀(i off:Nat) (cs:Array α),off+i+vs.length<=cs.size ->
 ((vs.zipIdx i).foldl (λcs p=>cs.setIfInBounds (off+p.2) p.1) cs).toList=splice cs.toList (off+i) vs:=by
 induction vs with
 |nil=>intro i off cs h;simp[splice]
 | cons v r ih=>
   intro i off cs h;simp only[List.zipIdx_cons,qj];rw[ih (i+1) off _ (by simp at h⊢;omega)];apply List.ext_getElem?;intro j;simp only[dW]at h;rw[nU _ _ _ _ (by simp;omega),nU _ _ _ _ (by simp;omega)];simp only[Array.toList_setIfInBounds,o5,dW];by_cases h1:j<off+i
   ·rw[aF aI,ai aI,aF h1]
   ·rw[ai h1];by_cases h2:j=off+i
    ·subst h2;rw[aF aI,aF rfl,aF (by simp;omega),aF aI];simp
    ·rw[ai aI];by_cases h3:j<off+(i+1)+r.length
     ·rw[aF h3,aF aI];rw[show j-(off+i)=(j-(off+(i+1)))+1 by omega,List.getElem?_cons_succ]
     ·rw[ai h3,ai aI,ai aI]
theorem foldl_set (v:Array Value)(off:Nat)(cs:Array Value)(h:off+v.size<=cs.size) :
 (v.zipIdx.foldl (λcs (p:Value×Nat)=>cs.setIfInBounds (off+p.2) p.1) cs).toList=splice cs.toList off v.toList:=by
 have:=QC v.toList 0 off cs (by simpa using h);rw[oG]at this;rw[<- this,<- Array.foldl_toList,Array.toList_zipIdx]
theorem JH.splice {vs us:List Value}{xs ys:List AC}(h:JH I ρ vs xs)(k:JH I ρ us ys)(off:Nat)(hl:off+ys.length<=xs.length):JH I ρ (splice vs off us) (splice xs off ys):=by
 have hlu:off+us.length<=vs.length:=by rw[h.1,k.1];exact hl
 refine⟨by rw[length_splice _ _ _ hlu,length_splice _ _ _ hl];exact h.1,λj v x hv hx=>?_⟩;rw[nU _ _ _ _ hlu]at hv;rw[nU _ _ _ _ hl]at hx;rw[k.1]at hv;by_cases h1:j<off
 ·rw[aF h1]at hv hx;exact h.2 j v x hv hx
 ·rw[ai h1]at hv hx;by_cases h2:j<off+ys.length
  ·rw[aF h2]at hv hx;exact k.2 _ v x hv hx
  ·rw[ai h2]at hv hx;exact h.2 j v x hv hx
theorem Jf {v:Value}{x:AV}(h:GV I ρ v x)(ht:x.flat):JH I ρ v.cells.toList x.cells:=by
 cases x with
 | one x=>
   have h1:=GC.one h;have hc:v.cells = #[v]:=by cases v<;>first|rfl|(simp[Value.oneCell']at h1;done)
   rw[hc];exact⟨rfl,λj u y hu hy=>by cases j with
    |zero=>simp at hu;simp[AV.cells]at hy;subst hu;subst hy;exact h
    |succ j=>simp at hu⟩
 |agg xs=>obtain⟨cs,rfl,hg⟩:=h;exact hg
 |AX ps=>exact ht.elim
def Np (zs:List Value)(xs:List AC):Bool:=zs.length==xs.length&&(zs.zip xs).all λp=>agL p.1 p.2
theorem Iu {zs:List Value}{xs:List AC}(h:Np zs xs=true):JH I ρ zs xs:=by unfold Np at h;simp only[ah,aH,aN]at h;refine⟨h.1,λj v x hv hx=>aaq (h.2 (v,x) ?_)⟩;exact iE (i:=j) (by simp[xY,hv,hx])
def JP (P:Program)(n:Nat)(fs:Array Field):List (Nat×Operand)->List (Nat×Nat×mY)->Bool
 |[],[]=>true
 |(i,x)::r,(off,sz,y)::r'=>(match fs[i]? with
  |some f=>f.offset==off&&Oi P f.type sz
  |none=>false)&&kD n x y&&JP P n fs r r'
 |_,_=>false
theorem run_places (w:World)(fs:List Field)(h:fs.all (λf=>(P.info? f.type).isSome)=true) :
 (fs.mapM (m:=Sem) λf=>do pure (f.offset,<- sizeOf f.type)).run P w = .ok (fs.map λf=>(f.offset,P.cellsOf f.type)) w:=by
 induction fs with
 |nil=>rfl
 | cons f r ih=>
   simp only[fF,ah]at h;cases hi:P.info? f.type with
   |none=>rw[hi]at h;cases h.1
   | some i=>have h1:(sizeOf f.type).run P w = .ok (P.cellsOf f.type) w:=(by simp[sizeOf,typeInfo,hi,Program.cellsOf]);simp only[List.mapM_cons,cu,h1,bu,bM,ih h.2,bJ]
def aal (P:Program)(n:Nat)(t:TypeId)(zs:List AC)(ps:List (Nat×Operand))(ps':List (Nat×Nat×mY)):Bool:=
 match P.underlying t,P.info? t with
 |some (.struct fs),some i=>(match i.zero with|some (.agg cs)=>Np cs.toList zs|_=>false)&&fs.toList.all (λf=>(P.info? f.type).isSome)&&JP P n fs ps ps'
 |_,_=>false
def Qc (P:Program)(n:Nat)(op:Op)(zs:List AC)(ps':List (Nat×Nat×mY)):Bool:=match op with|.build t ps=>aal P n t zs ps.toList ps'|_=>false
theorem YF {t:TypeId}{k:Nat}(h:Oi P t k=true):P.cellsOf t=k:=by obtain⟨i,hi,hs⟩:=Jt h;simp[Program.cellsOf,hi,hs]
theorem aay {fs:Array Field}(h:GX E I ρ n st a w):∀(ps:List (Nat×Operand)) (ps':List (Nat×Nat×mY)) (cs:Array Value) (xs:List AC),JP P n fs ps ps'=true->JH I ρ cs.toList xs ->
 (∀p,p∈ps'->(p.2.2.ev st.tm).g=true)->(∀p,p∈ps'->VA xs.length (p.1,p.2.1,dY st.tm p.2.2)) ->
 ∃cs',pW ((fs.map λf=>(f.offset,P.cellsOf f.type))[·]?) cs (ps.map λp=>(p.1,a.eval p.2))=some cs'/\JH I ρ cs'.toList (Qz xs (ps'.map λp=>(p.1,(dY st.tm p.2.2).cells)))
 |[],[],cs,xs,_,hg,_,_=>⟨cs,rfl,hg⟩
 |[],_::_,_,_,h,_,_,_=>by simp[JP]at h
 |_::_,[],_,_,h,_,_,_=>by simp[JP]at h
 | (i,x)::r,(off,sz,y)::r',cs,xs,hp,hg,hv,hq=>by
   simp only[JP,ah]at hp;obtain⟨⟨hf,hx⟩,hr⟩:=hp;split at hf
   ·rename_i f hfi;simp only[ah,aH]at hf;obtain⟨rfl,hsz⟩:=hf;have hs:=YF hsz;have g:=lX h hx (hv _ (aG ..));obtain⟨q1,q2,q3⟩:=hq _ (aG ..);have gc:=Jf g q3;have hvs:(a.eval x).cells.size=sz:=(by have:=gc.1;simp at this;rw[this];exact q1);have hcs:cs.size=xs.length:=(by have:=hg.1;simpa using this);have q1:(dY st.tm y).cells.length=sz:=q1;have q2:f.offset+sz<=xs.length:=q2;have hgs:=hg.splice gc f.offset (by rw[q1];exact q2);have hfold:=foldl_set (a.eval x).cells f.offset cs aI;have ih:=aay h r r' ((a.eval x).cells.zipIdx.foldl (λcs (p:Value×Nat)=>cs.setIfInBounds (f.offset+p.2) p.1) cs) (splice xs f.offset (dY st.tm y).cells) hr (by rw[hfold];exact hgs)
     (λp hp=>hv p (by simp[hp])) (λp hp=>by rw[length_splice _ _ _ (by rw[q1];exact q2)];exact hq p (by simp[hp]))
    obtain⟨cs',h1,h2⟩:=ih;refine⟨cs',?_,?_⟩
    ·have hpl:(fs.map λf=>(f.offset,P.cellsOf f.type))[i]? = some (f.offset,sz):=(by rw[nG,hfi,<- hs];rfl);simp only[bJ,pW,hpl];rw[ai (by simp;omega)];exact h1
    ·simpa only[bJ,Qz]using h2
   ·cases hf
theorem YB {o:Oper}{zs:List AC}{ps:List (Nat×Nat×mY)}(h:GX E I ρ n st a w)(hc:Qc P n o.op zs ps=true)(hv:∀p,p∈ps->(p.2.2.ev st.tm).g=true)
 (hq:∀p,p∈ps->VA zs.length (p.1,p.2.1,dY st.tm p.2.2)):tK P E n o a w st (.agg (Qz zs (ps.map λp=>(p.1,(dY st.tm p.2.2).cells)))):=by
 unfold Qc at hc;split at hc
 ·rename_i t ps0 he;unfold aal at hc;split at hc
  ·rename_i fs i hs hi;simp only[ah]at hc;obtain⟨⟨hz,hall⟩,hp⟩:=hc;split at hz
   ·rename_i cs hzero;obtain⟨cs',h1,h2⟩:=aay (P:=P) h ps0.toList ps cs zs hp (Iu hz) hv hq;refine su.val h (v:=.agg cs') ?_ ⟨cs',rfl,h2⟩;have hpl:=run_places (P:=P) w fs.toList hall;have hpl':(fs.mapM (m:=Sem) λf=>do pure (f.offset,<- sizeOf f.type)).run P w = .ok (fs.map λf=>(f.offset,P.cellsOf f.type)) w:=by
     rw[Array.mapM_eq_mapM_toList,Go.Sem.run_map,hpl];simp only[bu]
     congr 1
     apply vO;simp
    have hzr:(zeroValue t).run P w = .ok (.agg cs) w:=(by simp[zeroValue,typeInfo,hi,hzero]);have hps:(ps0.map λ(i,x)=>(i,a.eval x)).toList=ps0.toList.map λp=>(p.1,a.eval p.2):=(by simp);simp only[execOp,he,Instr.build,cu,hzr,bu,lW,run_underlying hs,hpl',hps,h1,bM]
   ·cases hz
  ·cases hc
 ·cases hc
def Src (I:IH)(w:World)(v:Value)(sz:Nat)(es:List (List Cell)):Prop:=
 ∃ (b:Option Addr) (cap:Nat),v = .slice b es.length cap/\es.length<=maxLen/\(∀e,e∈es->e.length=sz)/\(0<es.length->b≠none) /\
   ∀ad,b=some ad->∀i j c,(es.getD i [])[j]? = some c->∃u,w.cell? (ad.add (i*sz+j))=some u/\Rd I u c
theorem src_ok (h:GX E I ρ n st a w){v:Value}{x:AV}{sz:Nat}{p:Prop}{es:List (List Cell)}(hv:GV I ρ v x)(hs:yx sz x st.bx=some (p,es))(hp:p):Src I w v sz es:=by
 unfold yx at hs;split at hs
 ·rename_i sz' es';simp only[aC,aK]at hs;obtain⟨rfl,rfl⟩:=hs;subst hp;cases hv with|sl b len cap _ _ u hlen hcap hmax hsz ha hcell hr=>
  subst hlen;refine⟨b,cap,rfl,aI,hsz,ha,λad had i j c hc=>?_⟩;have hi:=lq hc;have hj:j<sz':=by have:=hsz (es'.getD i []) (by simp[bH,aA hi]);rw[<- this];exact(aT.1 hc).1
  exact⟨_,h.agree.cell (hcell ad had i j hi hj),hr i j c hc⟩
 ·simp at hs;obtain⟨_,rfl⟩:=hs;simp only[GV,GC]at hv;exact⟨none,0,hv,nV,nV,nV,λad had=>by cases had⟩
 ·rename_i b m sz';split at hs
  ·rename_i Ae es' hb;simp only[aC,aK]at hs;obtain⟨rfl,rfl⟩:=hs;obtain⟨rfl,rfl,hm⟩:=hp;obtain⟨k,cap,ad,c,hr,rfl,hmc,hcc,ha⟩:=hv;have facts:=GS.Gn h hb hr;have hlen:(es'.take m).length=m:=(by simp;omega);refine⟨ad,c,by rw[hlen],aI,λe he=>facts.2.2 e (jq he),λh0=>by rw[ha aI];simp,λq hq i j cc hc=>?_⟩;have hi:=lq hc;rw[hlen]at hi;have hq':q=⟨k,0,none⟩:=(by have:=ha aI;rw[hq]at this;simpa using this);subst hq';have hc':(es'.getD i [])[j]? = some cc:=by
    rw[<- hc];congr 1;simp only[bH];rw[bW,aF hi]
   obtain⟨u,hu,hg⟩:=GS.JI h hb hr aI (i:=i) aI j (.c cc) (by rw[dD,hc'];rfl);refine⟨u,?_,hg⟩;rw[Addr.o9]at hu⊢;rw[<- hu];congr 2;simp
  ·cases hs
 ·rename_i b lo m c0 sz';split at hs
  ·rename_i Ae es' hb;simp only[aC,aK]at hs;obtain⟨rfl,rfl⟩:=hs;obtain⟨rfl,rfl,hm⟩:=hp;obtain⟨k,cap,ad,c,hr,rfl,hmc,hcc,_,ha⟩:=hv;have facts:=GS.Gn h hb hr;have hlen:((es'.drop lo).take m).length=m:=(by simp;omega);refine⟨ad,c,by rw[hlen],aI,λe he=>facts.2.2 e (o8 (jq he)),λh0=>by rw[ha (.inl aI)];simp,λq hq i j cc hc=>?_⟩;have hi:=lq hc;rw[hlen]at hi;have hq':q=⟨k,lo*Ae,none⟩:=(by have:=ha (.inl aI);rw[hq]at this;simpa using this);subst hq';have hc':(es'.getD (lo+i) [])[j]? = some cc:=by
    rw[<- hc];congr 1;simp only[bH];rw[bW,aF hi,iL]
   obtain⟨u,hu,hg⟩:=GS.JI h hb hr aI (i:=lo+i) aI j (.c cc) (by rw[dD,hc'];rfl);refine⟨u,?_,hg⟩;rw[Addr.o9]at hu⊢;rw[<- hu];congr 2;rw[dK,oW]
  ·cases hs
 ·cases hs
theorem UM {es:List (List Cell)}{l:List UInt8}(h:bytesOf es=some l):∃ns:List Int,es=ns.map (λm=>[Cell.lit (.int .u8 m)])/\l=ns.map λm=>fA m.toNat:=by
 induction es generalizing l with
 |nil=>simp[bytesOf]at h;exact⟨[],rfl,h⟩
 | cons e r ih=>
   unfold bytesOf at h;split at h
   ·rename_i e;cases e
   ·rename_i m r' e;simp only[uj]at e;obtain⟨rfl,rfl⟩:=e;split at h
    ·rename_i l' hl;obtain⟨ns,rfl,rfl⟩:=ih hl;simp at h;exact⟨m::ns,rfl,h.symm⟩
    ·cases h
   ·cases h
theorem foldl_push (ns:List Int):∀s:ByteArray,(ns.foldl (λr m=>r.push (fA m.toNat)) s).data.toList=s.data.toList++ns.map λm=>fA m.toNat:=by
 induction ns with
 |nil=>intro s;simp
 |cons m r ih=>intro s;rw[qj,ih,bJ];simp[ByteArray.push]
theorem acN {b:Option Addr}{cap:Nat}{ns:List Int}{v:Value}(hv:v = .slice b ns.length cap)(h0:0<ns.length->b≠none)
 (hc:∀ad,b=some ad->∀j m,ns[j]? = some m->w.cell? (ad.add j)=some (.int .u8 m)):(Conv.bytesToString v).run P w = .ok (.string ⟨⟨ns.map λm=>fA m.toNat⟩⟩) w:=by
 subst hv;cases b with
 | none=>
   cases ns with
   |nil=>simp[Conv.bytesToString,bM];rfl
   |cons m r=>exact aY rfl (h0 nV)
 | some ad=>
   have hl:=run_loadCells_list (P:=P) w ad (ns.map (lg .u8)) (λj v hj=>by
    rw[dD]at hj;cases hq:ns[j]? with
    |none=>rw[hq]at hj;cases hj
    |some m=>rw[hq]at hj;simp at hj;subst hj;exact hc ad rfl j m hq)
   rw[kX]at hl;rw[run_bytesToString w ad ns.length cap ns hl]
   congr 2
   apply ByteArray.ext;apply vO;rw[foldl_push];simp
def UR (P:Program)(n:Nat)(op:Op)(x:mY):Bool:=
 match op with
 |.convert s d x'=>kD n x' x&&NW P d&&(match P.underlying s with|some (.slice e)=>(match P.underlying e with|some (.int .u8)=>true|_=>false)|_=>false)
 |_=>false
theorem abS {o:Oper}{x:mY}{p:Prop}{es:List (List Cell)}{l:List UInt8}(h:GX E I ρ n st a w)(hc:UR P n o.op x=true)(hx:(x.ev st.tm).g=true)
 (hs:yx 1 (dY st.tm x) st.bx=some (p,es)) (hp:p) (hb:bytesOf es=some l) (hl:l.length<=maxLen):tK P E n o a w st (Ip l):=by
 unfold UR at hc;split at hc
 ·rename_i s d x' he;simp only[ah]at hc;have g:=lX h hc.1.1 hx;have hd:=FK hc.1.2;obtain⟨_,ht⟩:=hc;split at ht
  ·rename_i e hse;split at ht
   ·rename_i hee;obtain⟨b,cap,hv,_,_,h0,hcell⟩:=src_ok h g hs hp;obtain⟨ns,rfl,rfl⟩:=UM hb;have hr:=acN (P:=P) (w:=w) (b:=b) (cap:=cap) (ns:=ns) (v:=a.eval x') (by rw[hv];simp) (by simpa using h0) (λad had j m hj=>by
     obtain⟨u,hu,hrd⟩:=hcell ad had j 0 (.lit (.int .u8 m)) (by simp[bH,dD,hj]);cases hrd with|lit v hv=>
     simpa using hu)
    have hcv:=run_convert_bytes_string (P:=P) w s d e b (ns.map λm=>[Cell.lit (.int .u8 m)]).length cap hse hee hd;rw[<- hv]at hcv;exact su.val h (by simp only[execOp,he,cu,hcv,hr,bu,bM]) (Vp hl)
   ·cases ht
  ·cases ht
 ·cases hc
end
end
section
section
variable {P:Program} {E:Env P} {I:IH} {ρ:Ren} {n:Nat} {st:iI} {a:Act} {w:World}
def BA : Box->Prop
 |.absent=>True
 |_=>False
theorem yP {x:Box}(h:BA x):x = .absent:=by cases x<;>first|rfl|exact h.elim
theorem aaT (h:GX E I ρ n st a w){l:Nat}(hl:st.bx l = .absent)(hm:E.m<=l)(cs:Array Value)(e:TypeId)(xs:List AC)(hg:JH I ρ cs.toList xs) :
 ∃ ρ',GX E I ρ' n (st.wu l (.var xs)) a (w.alloc (.cells cs e))/\GV I ρ' (.pointer (some ⟨w.heap.size,0,none⟩)) (.one (.ptr l 0)):=by
 have hrl:ρ l=none:=by have:=h.bx.ok l;rwa[hl]at this
 refine⟨ρ.set l w.heap.size e,GX.new h hl hm cs e e _ ?_,w.heap.size,e,Ren.mO _ _ _ _,rfl⟩;refine⟨w.heap.size,e,cs,Ren.mO _ _ _ _,heap_alloc_new w _,by simpa using hg.1,λj u x hu hx=>?_⟩;exact(hg.2 j u x (by simpa using hu) hx).mono (IH.le_refl I) (Ren.KT hrl)
theorem JO (h:GX E I ρ n st a w){l:Nat}(hl:st.bx l = .absent)(hm:E.m<=l)(cs:Array Value)(e:TypeId)(cap sz:Nat)(es:List (List Cell))(hcs:cs.size=cap*sz)(hle:es.length<=cap)(hcap:cap<=maxLen)
 (hsz:∀x,x∈es->x.length=sz) (h1:∀(j:Nat) (u:Value),cs[j]? = some u->u.oneCell'=true) (hd:∀(i j:Nat) (c:Cell),(es.getD i [])[j]? = some c->∃u,cs[i*sz+j]? = some u/\Rd I u c) :
 GX E I (ρ.set l w.heap.size cap) n (st.wu l (.dat sz es)) a (w.alloc (.cells cs e)):=by
 refine GX.new h hl hm cs e cap _ ⟨w.heap.size,cap,Ren.mO _ _ _ _,hle,hcap,hsz,λ_=>⟨cs,e,heap_alloc_new w _,hcs,h1,hd⟩⟩
def IY (P:Program)(op:Op)(zs:List AC):Bool:=match op with|.alloc t=>(match P.info? t with|some i=>(match i.zero with|some z=>Np z.cells.toList zs|none=>false)|none=>false)|_=>false
theorem DL (w:World)(t:TypeId)(v:Value):(newVar t v).run P w = .ok ⟨w.heap.size,0,none⟩ (w.alloc (.cells v.cells t)):=by simp[newVar,newRow]
theorem Yq {o:Oper}{l:Nat}{zs:List AC}(h:GX E I ρ n st a w)(hc:IY P o.op zs=true)(hm:E.m<=l)(hl:BA (st.bx l)):su P E n o a w (st.wu l (.var zs)) (.one (.ptr l 0)):=by
 unfold IY at hc;split at hc
 ·rename_i t he;split at hc
  ·rename_i i hi;split at hc
   ·rename_i z hz;obtain⟨ρ',h1,h2⟩:=aaT h (yP hl) hm z.cells t zs (Iu hc);have hzr:(zeroValue t).run P w = .ok z w:=(by simp[zeroValue,typeInfo,hi,hz]);exact⟨_,_,I,ρ',.inl (by simp only[execOp,he,zQ,cu,hzr,bu,DL,bM]),h1,λ_=>h2⟩
   ·cases hc
  ·cases hc
 ·cases hc
theorem GX.amI (h:GX E I ρ n st a w){r:Nat}(hr:st.bx r = .absent)(hm:E.m<=r)(e:Nat):GX E I (ρ.set r 0 0) n (st.wu r (.row e [])) a w:=by
 have hrl:ρ r=none:=by have:=h.bx.ok r;rwa[hr]at this
 have hle:=Ren.KT (ρ:=ρ) (k:=0) (cap:=0) hrl;have hu:∀k,¬(Box.row e []).uses ((ρ.set r 0 0) r) k:=λk hk=>by obtain⟨c,hc,h0⟩:=hk;rw[Ren.mO]at hc;simp only[aC,aK]at hc;exact h0 hc.2.symm
 refine{ agree:=h.agree,bx:=BX.step (λb=>b=r) h.bx (IH.le_refl I) hle ?_ ?_ ?_ ?_ ?_ ?_,tm:=λt ht=>(h.tm t ht).mono (IH.le_refl _) hle,size:=h.size,defers:=h.defers,Aj:=h.Aj,own:=?_,Kq:=h.Kq,Fa:=h.Fa,vW:=?_ }
 ·intro b hb;exact⟨by simp[iI.wu,hb],Ren.uq hb⟩
 ·intro b k hb hk;rfl
 ·rintro b rfl;simp only[iI.oP,kN];exact⟨0,0,Ren.mO _ _ _ _,ak _,Nat.zero_le _,λh=>aY rfl h⟩
 ·rintro b k rfl hk;simp only[iI.oP,kN]at hk;exact(hu k hk).elim
 ·rintro b b' k rfl rfl _ _;rfl
 ·intro b k hb hk;exact h.bx.fresh b k hk
 ·intro b k hk;simp only[iI.oP]at hk;by_cases e:b=r
  ·subst e;rw[aF rfl]at hk;exact(hu k hk).elim
  ·rw[ai e,Ren.uq e]at hk;exact h.own b k hk
 ·intro b hb;rw[Ren.uq aI];exact h.vW b hb
def Gv (P:Program)(op:Op)(T:Nat):Bool:=match op with|.alloc t=>t==T&&(match P.info? t with|some i=>(match i.zero with|some z=>Np z.cells.toList [.c (.lit (.pointer none)),.mM 1]|none=>false)|none=>false)|_=>false
theorem Wl {o:Oper}{T e l r:Nat}(h:GX E I ρ n st a w)(hc:Gv P o.op T=true)(hm:E.m<=l)(hm':E.m<=r)(hl:BA (st.bx l))(hr:BA (st.bx r))(hne:l≠r) :
 su P E n o a w ((st.wu r (.row e [])).wu l (.var [.opt T l,.uM r 0])) (.one (.ptr l 0)):=by
 unfold Gv at hc;split at hc
 ·rename_i t he;simp only[ah,aH]at hc;obtain⟨rfl,hc⟩:=hc;split at hc
  ·rename_i i hi;split at hc
   ·rename_i z hz;have g:=h.amI (yP hr) hm' e;have hl':(st.wu r (.row e [])).bx l = .absent:=(by simp only[iI.oP,ai hne];exact yP hl);have hz2:JH I ρ z.cells.toList _:=Iu hc;have hsz:z.cells.size=2:=(by have:=hz2.1;simpa using this);have hg:=GX.new g hl' hm z.cells t t (.var [.opt t l,.uM r 0]) ⟨w.heap.size,t,z.cells,Ren.mO _ _ _ _,heap_alloc_new w _,hsz,λj u x hu hx=>by
     match j with
     | 0=>have h1:=hz2.2 0 u _ (by simpa using hu) rfl;simp at hx;subst hx;cases h1;exact⟨_,Ren.mO _ _ _ _,.inl rfl⟩
     | 1=>have h1:u = .slice none 0 0:=hz2.2 1 u _ (by simpa using hu) rfl;simp at hx;subst hx;exact⟨0,0,(Ren.uq hne.symm).trans (Ren.mO _ _ _ _),ak _,.inl ⟨rfl,h1⟩⟩
     |j+2=>simp at hx⟩
    have hzr:(zeroValue t).run P w = .ok z w:=(by simp[zeroValue,typeInfo,hi,hz]);exact⟨_,_,I,_,.inl (by simp only[execOp,he,zQ,cu,hzr,bu,DL,bM]),hg,λ_=>⟨_,_,Ren.mO _ _ _ _,rfl⟩⟩
   ·cases hc
  ·cases hc
 ·cases hc
def Qb (n:Nat)(op:Op)(x:mY):Bool:=match op with|.box _ x'=>kD n x' x|_=>false
theorem adP {o:Oper}{l:Nat}{x:mY}(h:GX E I ρ n st a w)(hc:Qb n o.op x=true)(hx:(x.ev st.tm).g=true)(hm:E.m<=l)(hl:BA (st.bx l))(hf:(dY st.tm x).flat) :
 su P E n o a w (st.wu l (.var (dY st.tm x).cells)) (.one (.ptr l 0)):=by
 unfold Qb at hc;split at hc
 ·rename_i t x' he;have g:=lX h hc hx;obtain⟨ρ',h1,h2⟩:=aaT h (yP hl) hm (a.eval x').cells t _ (Jf g hf);exact⟨_,_,I,ρ',.inl (by simp only[execOp,he,Go.Instr.box,cu,bu,DL,bM]),h1,λ_=>h2⟩
 ·cases hc
def ait : Value->Cell->Bool
 |.int k n,.lit (.int k' n')=>k==k'&&n==n'
 |.bool b,.lit (.bool b')=>b==b'
 |.string s,.str l=>s.data.toList==l&&decide (l.length<=1000000)
 |.slice none 0 0,.sl _ []=>true
 |.pointer none,.lit (.pointer none)=>true
 |.nilFunc,.lit .nilFunc=>true
 |.nilIface,.lit .nilIface=>true
 |_,_=>false
theorem agM {v:Value}{x:Cell}(h:ait v x=true):Rd I v x:=by
 unfold ait at h;split at h
 ·simp only[ah,aH]at h;obtain⟨rfl,rfl⟩:=h;exact Rd.lit _ rfl
 ·simp only[aH]at h;subst h;exact Rd.lit _ rfl
 ·rename_i s l;simp only[ah,aH,aj]at h;obtain⟨rfl,hl⟩:=h;have:s=⟨⟨s.data.toList⟩⟩:=by cases s;rfl
  exact this▸Rd.str _ (by simp only[maxLen];omega)
 ·exact Rd.sl none 0 0 _ [] (λ_ _=>undef) rfl (ak _) (by simp[maxLen]) nV nV (λad h=>by cases h) nV
 ·exact Rd.lit _ rfl
 ·exact Rd.lit _ rfl
 ·exact Rd.lit _ rfl
 ·cases h
def Ir (zs:List Value)(xs:List Cell):Bool:=zs.length==xs.length&&(zs.zip xs).all λp=>ait p.1 p.2
theorem OQ {zs:List Value}{xs:List Cell}(h:Ir zs xs=true):zs.length=xs.length/\∀(j:Nat) (c:Cell),xs[j]? = some c->∃u,zs[j]? = some u/\Rd I u c:=by
 unfold Ir at h;simp only[ah,aH,aN]at h;refine⟨h.1,λj c hc=>?_⟩;have hj:j<zs.length:=by rw[h.1];exact(aT.1 hc).1
 refine⟨zs[j],aA hj,agM (h.2 (zs[j],c) ?_)⟩;exact iE (i:=j) (by simp[xY,hc,hj])
theorem Oh {z:Array Value}{zs:List Cell}{sz m N:Nat}(hz:Ir z.toList zs=true)(hs:zs.length=sz)(h0:0<sz)(hN:m*sz<=N){cs:Array Value}(hcs:cs=(ry N).map (z[· % z.size]!)) :
 (∀(j:Nat) (u:Value),cs[j]? = some u->u.oneCell'=true)/\∀(i j:Nat) (c:Cell),((dU m zs).getD i [])[j]? = some c->∃u,cs[i*sz+j]? = some u/\Rd I u c:=by
 obtain⟨hl,hd⟩:=OQ (I:=I) hz;have hzs:z.size=sz:=by rw[<- hs,<- hl];simp
 subst hcs;refine⟨λj u hu=>?_,λi j c hc=>?_⟩
 ·rw[nG]at hu;by_cases hj:j<N
  ·rw[nK,aF hj]at hu;simp at hu;have hlt:j%z.size<z.size:=Dl _ aI;rw[getElem!_pos z _ hlt]at hu;obtain⟨c,hc⟩:∃c,zs[j%z.size]? = some c:=⟨_,aA aI⟩;obtain⟨u',hu',hr⟩:=hd _ c hc;simp[hlt]at hu';rw[<- hu,hu'];exact hr.one
  ·rw[nK,ai hj]at hu;cases hu
 ·have hi:=lq hc;simp at hi;simp[bH,hi]at hc;have hj:j<sz:=by rw[<- hs];exact(aT.1 hc).1
  obtain⟨u,hu,hr⟩:=hd j c hc;refine⟨u,?_,hr⟩;have hlt:i*sz+j<N:=by have:(i+1)*sz<=m*sz:=aW _ hi;rw[dK]at this;omega
  rw[nG,nK,aF hlt];simp only[mD,aC];have hmod:(i*sz+j)%z.size=j:=by rw[hzs,wG,Nat.mul_add_mod,sS hj]
  rw[hmod,getElem!_pos z _ aI];have:z[j]? = some u:=by simpa using hu
  rw[lJ aI]at this;simpa using this
def Gu (P:Program)(op:Op)(sz m:Nat)(zs:List Cell):Bool:=
 match op with
 |.alloc t=>LW P t sz m&&(match P.info? t with|some i=>(match i.zero with|some (.agg z)=>Ir z.toList (dU m zs).flatten|_=>false)|none=>false)&&zs.length==sz&&decide (0<sz)&&decide (m<=1000000)
 |_=>false
theorem WR {zs:List Cell}{sz m i j:Nat}{c:Cell}(hs:zs.length=sz)(hc:((dU m zs).getD i [])[j]? = some c):((dU m zs).flatten)[i*sz+j]? = some c:=by
 induction m generalizing i with
 |zero=>simp[bH]at hc
 | succ m ih=>
   rw[AL,List.flatten_cons];cases i with
   | zero=>simp[bH,AL]at hc;rw[bD (by have:=(aT.1 hc).1;omega)];simpa using hc
   | succ i=>
     rw[dw (by rw[hs,dK];omega),hs];have:=ih (i:=i) (by simpa[bH,AL]using hc);rw[<- this]
     congr 1
     rw[dK];omega
theorem Wj {o:Oper}{l sz m:Nat}{zs:List Cell}(h:GX E I ρ n st a w)(hc:Gu P o.op sz m zs=true)(hm:E.m<=l)(hl:BA (st.bx l)) :
 su P E n o a w (st.wu l (.dat sz (dU m zs))) (.one (.yE l 0 sz 0)):=by
 unfold Gu at hc;split at hc
 ·rename_i t he;simp only[ah,aH,aj]at hc;obtain⟨⟨⟨⟨_,hz⟩,hs⟩,h0⟩,hm6⟩:=hc;split at hz
  ·rename_i i hi;split at hz
   ·rename_i z hzero;obtain⟨hl1,hd⟩:=OQ (I:=I) hz;have hzs:z.size=m*sz:=(by have:=hl1;simp[hs]at this;exact this);have hzr:(zeroValue t).run P w = .ok (.agg z) w:=(by simp[zeroValue,typeInfo,hi,hzero]);have g:=JO h (yP hl) hm z t m sz (dU m zs) hzs nV (by simp only[maxLen];omega) (λx hx=>by rw[rq hx,hs])
     (λj u hu=>by have hj:j<((dU m zs).flatten).length:=(by rw[<- hl1];simpa using(dm.1 hu).1);obtain⟨u',hu',hr⟩:=hd j _ (aA hj);have:u'=u:=(by simp at hu';rw[hu]at hu';exact(Option.some.inj hu').symm);subst this;exact hr.one)
     (λi' j c hc=>by obtain⟨u,hu,hr⟩:=hd _ c (WR hs hc);exact⟨u,by simpa using hu,hr⟩)
    refine⟨_,_,I,_,.inl (by simp only[execOp,he,zQ,cu,hzr,bu,DL,bM,lW];rfl),g,λ_=>⟨w.heap.size,m,Ren.mO _ _ _ _,nV⟩⟩
   ·cases hz
  ·cases hz
 ·cases hc
def I5 (P:Program)(n:Nat)(op:Op)(sz bytes:Nat)(zs:List Cell)(x y:mY):Bool:=
 match op with
 | .makeSlice t x' y'=>kD n x' x&&kD n y' y&&zs.length==sz&&decide (0<sz)&&(match P.underlying t with
   |some (.slice e)=>(match P.info? e with|some i=>i.size==sz&&i.bytes==bytes&&(match i.zero with|some z=>Ir z.cells.toList zs|none=>false)|none=>false)
   |_=>false)
 |_=>false
theorem Zm {o:Oper}{l sz bytes:Nat}{zs:List Cell}{x y:mY}{k k':IntKind}{p q:Int}(h:GX E I ρ n st a w)(hc:I5 P n o.op sz bytes zs x y=true)(hx:(x.ev st.tm).g=true)(hy:(y.ev st.tm).g=true)
 (e1:dY st.tm x=uI k p) (e2:dY st.tm y=uI k' q) (hm:E.m<=l) (hl:BA (st.bx l)) (h0:0<=p) (h1:p<=q) (h2:bytes*q<=2^47) (h3:q<=2^47) :
 su P E n o a w (st.wu l (.dat sz (dU p.toNat zs))) (.one (.own l p.toNat sz)):=by
 unfold I5 at hc;split at hc
 ·rename_i t x' y' he;simp only[ah,aH,aj]at hc;obtain⟨⟨⟨⟨c1,c2⟩,hs⟩,hs0⟩,ht⟩:=hc;have g1:=lX h c1 hx;have g2:=lX h c2 hy;rw[e1]at g1;rw[e2]at g2;have v1:=vz g1;have v2:=vz g2;split at ht
  ·rename_i e hte;split at ht
   ·rename_i i hi;simp only[ah,aH]at ht;obtain⟨⟨rfl,rfl⟩,hz⟩:=ht;split at hz
    ·rename_i z hzero;have hr:=run_make (P:=P) w t e i z hte hi hzero k k' p q h0 h1 aI aI;have rc:=Oh (I:=I) (N:=q.toNat*i.size) (m:=p.toNat) hz hs hs0 (aW _ aI) (cs:=madeCells z.cells (q.toNat*i.size)) rfl;have g:=JO h (yP hl) hm (madeCells z.cells (q.toNat*i.size)) e q.toNat i.size (dU p.toNat zs) (size_madeCells _ _) (by simp;omega) (by simp only[maxLen];omega)
      (λx hx=>by rw[rq hx,hs]) rc.1 rc.2
     refine⟨_,_,I,_,.inl (by simp only[execOp,he,v1,v2,cu,hr,bu,bM];rfl),g,λ_=>⟨w.heap.size,q.toNat,_,_,Ren.mO _ _ _ _,rfl,aI,aI,λ_=>rfl⟩⟩
    ·cases hz
   ·cases ht
  ·cases ht
 ·cases hc
end
end
section
section
variable {P:Program} {E:Env P} {I:IH} {ρ:Ren} {n:Nat} {st:iI} {a:Act} {w:World}
noncomputable def Bh (I:IH)(ρ:Ren)(w:World)(bx:Nat->Box)(bs:List Nat):IH:=λk=>
 open Classical in
 if ∃b sz es cap,b∈bs/\bx b = .dat sz es/\ρ b=some (k,cap)/\cap≠0 then(match w.heap[k]? with|some (.cells c _ _)=>some c|_=>none)else I k
theorem EI (hA:BX I ρ w st.bx)(bs:List Nat):I.le (Bh I ρ w st.bx bs):=λk c hk=>by
 unfold Bh;rw[ai]
 ·exact hk
 ·rintro⟨b,sz,es,cap,_,hb,hr,h0⟩;have:=hA.fresh b k (by rw[hb];exact⟨cap,hr,h0⟩);rw[this]at hk;cases hk
theorem KU (hA:Agree I w)(bs:List Nat):Agree (Bh I ρ w st.bx bs) w:=λk c hk=>by
 unfold Bh at hk;split at hk
 ·split at hk
  ·rename_i c' e fr hw;simp at hk;subst hk;exact⟨e,fr,hw⟩
  ·cases hk
 ·exact hA k c hk
theorem Vh (h:GX E I ρ n st a w){bs:List Nat}{v:Value}{b m sz:Nat}{es:List (List Cell)}(hb:b∈bs)(harr:(st.bx b).arr=some (sz,es))(hm:m<=es.length)(hv:GC I ρ v (.own b m sz)) :
 Rd (Bh I ρ w st.bx bs) v (.sl sz (es.take m)):=by
 obtain⟨k,cap,ad,c,hr,hsv,hmc,hcc,hcap⟩:=hv;have facts:=GS.Gn h harr hr;have hl:(es.take m).length=m:=by simp;omega
 subst hsv;have hI:cap≠0->∃cs,(Bh I ρ w st.bx bs) k=some cs/\∀i j c,(es.getD i [])[j]? = some c->∃u,cs[i*sz+j]? = some u/\Rd I u c:=by
  intro hc0;have hok:=h.bx.ok b;cases hx:st.bx b with
  | dat sz' es'=>rw[hx]at hok harr;simp[Box.arr]at harr;obtain⟨rfl,rfl⟩:=harr;obtain⟨k',cap',hr',_,_,_,hd⟩:=hok;rw[hr]at hr';simp at hr';obtain⟨rfl,rfl⟩:=hr';obtain⟨cs,e,hw,_,_,hcs⟩:=hd hc0;refine⟨cs,?_,hcs⟩;unfold Bh;rw[aF ⟨b,_,_,cap,hb,hx,hr,hc0⟩,hw]
  | Eo sz' es'=>rw[hx]at hok harr;simp[Box.arr]at harr;obtain⟨rfl,rfl⟩:=harr;obtain⟨k',cap',hr',_,_,_,hd⟩:=hok;rw[hr]at hr';simp at hr';obtain⟨rfl,rfl⟩:=hr';obtain⟨cs,hw,hcs⟩:=hd hc0;exact⟨cs,EI h.bx bs _ _ hw,hcs⟩
  |absent=>rw[hx]at harr;cases harr
  |dead=>rw[hx]at harr;cases harr
  |var xs=>rw[hx]at harr;cases harr
  |row e l=>rw[hx]at harr;cases harr
 have hle:=EI (st:=st) h.bx bs;by_cases hc0:cap=0
 ·have hm0:m=0:=by omega
  subst hm0;simp only[xH];exact Rd.sl _ 0 c sz [] (λ_ _=>undef) rfl aI aI nV nV (by intro ad _ i j hi;omega) nV
 ·obtain⟨cs,hcs,hrd⟩:=hI hc0;have had:=hcap hc0;subst had;have key:∀i j c,((es.take m).getD i [])[j]? = some c->∃u,cs[i*sz+j]? = some u/\Rd I u c:=λi j c hc=>by
   have hi:=lq hc;rw[hl]at hi;refine hrd i j c ?_;rw[<- hc];congr 1;simp only[bH];rw[bW,aF hi]
  refine Rd.sl _ m c sz (es.take m) (λi j=>cs.getD (i*sz+j) undef) hl hmc aI (λe he=>facts.2.2 e (jq he)) nV ?_ ?_
  ·intro ad had i j hi hj;simp at had;subst had;have hlen:((es.take m).getD i []).length=sz:=by
    have:i<(es.take m).length:=(by omega);rw[List.getD_eq_getElem?_getD,aA this];exact facts.2.2 _ (jq (List.getElem_mem this))
   obtain⟨u,hu,_⟩:=key i j _ (aA aI);rw[Addr.o9];simp only[IH.cell,hcs];simp[hu,fK]
  ·intro i j c hc;obtain⟨u,hu,hr⟩:=key i j c hc;have:cs.getD (i*sz+j) undef=u:=(by simp[fK,hu]);rw[this];exact hr.mono hle
theorem yX {bs:List Nat}{b:Nat} : (st.Eo bs).bx b=if b∈bs then FT (st.bx b)else st.bx b:=rfl
theorem GX.freeze (h:GX E I ρ n st a w)(BS:List Nat):GX E (Bh I ρ w st.bx BS) ρ n (st.Eo BS) a w:=by
 have hIJ:=EI h.bx BS;have IL:∀b k,((st.Eo BS).bx b).uses (ρ b) k->(st.bx b).uses (ρ b) k/\¬(∃b' sz es cap,b'∈BS/\st.bx b' = .dat sz es/\ρ b'=some (k,cap)/\cap≠0):=by
  intro b k hu;rw[yX]at hu;by_cases hb:b∈BS
  ·rw[aF hb]at hu;cases hx:st.bx b with
   | var xs=>rw[hx]at hu;refine⟨hu,?_⟩;rintro⟨b',sz,es,cap,_,hb',hr',h0⟩;have:=h.bx.inj b b' k (by rw[hx];exact hu) (by rw[hb'];exact⟨cap,hr',h0⟩);subst this;rw[hx]at hb';cases hb'
   | row e l=>rw[hx]at hu;refine⟨hu,?_⟩;rintro⟨b',sz,es,cap,_,hb',hr',h0⟩;have:=h.bx.inj b b' k (by rw[hx];exact hu) (by rw[hb'];exact⟨cap,hr',h0⟩);subst this;rw[hx]at hb';cases hb'
   |dat sz es=>rw[hx]at hu;exact hu.elim
   |Eo sz es=>rw[hx]at hu;exact hu.elim
   |absent=>rw[hx]at hu;exact hu.elim
   |dead=>rw[hx]at hu;exact hu.elim
  ·rw[ai hb]at hu;refine⟨hu,?_⟩;rintro⟨b',sz,es,cap,hm',hb',hr',h0⟩;have:=h.bx.inj b b' k hu (by rw[hb'];exact⟨cap,hr',h0⟩);subst this;exact hb hm'
 have hfr:∀b k,((st.Eo BS).bx b).uses (ρ b) k->Bh I ρ w st.bx BS k=none:=λb k hu=>by obtain⟨h1,h2⟩:=IL b k hu;unfold Bh;rw[ai h2];exact h.bx.fresh b k h1
 refine{ agree:=KU h.agree BS,bx:=⟨λb=>?_,λb b' k hb hb'=>h.bx.inj b b' k (IL b k hb).1 (IL b' k hb').1,hfr⟩,tm:=λt ht=>(h.tm t ht).mono hIJ (Ren.le_refl ρ),size:=h.size,defers:=h.defers,Aj:=h.Aj,own:=λb k hu=>h.own b k (IL b k hu).1,Kq:=IH.le_trans h.Kq hIJ,Fa:=λk hk0 hM=>?_,vW:=h.vW }
 ·have hok:=(h.bx.ok b).keep hIJ (Ren.le_refl ρ) rfl (λk hu=>rfl);rw[yX];by_cases hb:b∈BS
  ·rw[aF hb];cases hx:st.bx b with
   | dat sz es=>rw[hx]at hok;obtain⟨kk,cap,hr',hl,hm,hsz,hcs⟩:=hok;refine⟨kk,cap,hr',hl,hm,hsz,λh0=>?_⟩;obtain⟨cs,e,hw,_,_,hrd⟩:=hcs h0;refine⟨cs,?_,hrd⟩;unfold Bh;rw[aF ⟨b,sz,es,cap,hb,hx,hr',h0⟩,hw]
   |var xs=>rw[hx]at hok;exact hok
   |row e l=>rw[hx]at hok;exact hok
   |Eo sz es=>rw[hx]at hok;exact hok
   |absent=>rw[hx]at hok;exact hok
   |dead=>rw[hx]at hok;exact hok
  ·rw[ai hb];exact hok
 ·unfold Bh;rw[ai]
  ·exact h.Fa k hk0 hM
  ·rintro⟨b',sz,es,cap,_,hb',hr',h0⟩;rcases h.own b' k (by rw[hb'];exact⟨cap,hr',h0⟩)with h1|h1
   ·omega
   ·exact hM h1
theorem MV (l:List (Nat×Box))(st:iI):(st.qo l).tm=st.tm:=by
 induction l generalizing st with
 |nil=>rfl
 |cons x l ih=>obtain⟨b,x⟩:=x;simp only[iI.qo,ih];rfl
theorem acX (st:iI)(l:List Nat)(bx:Nat->Box):(st.qo (l.map λb=>(b,FT (bx b)))).bx=λb=>if b∈l then FT (bx b)else st.bx b:=by
 induction l generalizing st with
 |nil=>rfl
 | cons c l ih=>
   simp only[bJ,iI.qo,ih]
   funext b
   simp only[iI.oP,aO];by_cases h:b∈l
   ·simp[h]
   ·by_cases h':b=c
    ·subst h';simp[h]
    ·simp[h,h']
theorem Dc (st:iI)(l:List Nat):st.qo (l.map λb=>(b,FT (st.bx b)))=st.Eo l:=by
 apply iI.ext'
 ·rw[MV];rfl
 ·rw[acX];rfl
theorem Ie (l r:List (Nat×Box)):∀(st:iI),st.qo (l++r)=(st.qo l).qo r:=by
 induction l with
 |nil=>intro st;rfl
 |cons p l ih=>intro st;obtain⟨b,x⟩:=p;simp only[List.cons_append,iI.qo,ih]
theorem Rt (st:iI)(l:List Nat)(r:List (Nat×Box)):st.qo (U8 st.bx l++r)=(st.Eo l).qo r:=by rw[Ie];unfold U8;rw[Dc]
end
end
section
section
variable {P:Program} {E:Env P} {I:IH} {ρ:Ren} {n:Nat} {st:iI} {a:Act} {w:World}
theorem WM (h:GX E I ρ n st a w){BS:List Nat}{vs:List Value}{xs:List AC}{cs:List Cell}(hg:JH I ρ vs xs)(hd:IB st.bx xs=some cs)(hl:x9 st.bx xs)(hb:∀b,b∈nJ xs->b∈BS) :
 vs.length=cs.length/\∀(j:Nat) (c:Cell),cs[j]? = some c->∃u,vs[j]? = some u/\Rd (Bh I ρ w st.bx BS) u c:=by
 have hle:=EI (st:=st) h.bx BS
 induction xs generalizing vs cs with
 | nil=>simp[IB]at hd;subst hd;exact⟨hg.1,nV⟩
 | cons x r ih=>
   cases vs with
   |nil=>have:=hg.1;simp at this
   | cons v vs=>
     unfold IB at hd;split at hd
     ·rename_i c cs' h1 h2;simp at hd;subst hd;have ht:JH I ρ vs r:=⟨by simpa using hg.1,λj u y hu hy=>hg.2 (j+1) u y (by simpa using hu) (by simpa using hy)⟩;have hv:=hg.2 0 v x rfl rfl;have hlr:x9 st.bx r:=by
       cases x with
       |own b m sz=>exact hl.2
       |_=>exact hl
      have hbr:∀b,b∈nJ r->b∈BS:=λb hm=>hb b (by
       cases x with
       |own b' m sz=>exact List.mem_cons_of_mem _ hm
       |_=>exact hm)
      obtain⟨hl',hc⟩:=ih ht h2 hlr hbr;have hr:Rd (Bh I ρ w st.bx BS) v c:=by
       cases x with
       |c y=>simp[dataOf]at h1;subst h1;exact Rd.mono hle hv
       | mM sz=>simp[dataOf]at h1;subst h1;simp only[GC]at hv;subst hv;exact Rd.sl none 0 0 _ [] (λ_ _=>undef) rfl (ak _) (by simp[maxLen]) nV nV (λad h=>by cases h) nV
       | own b m sz=>
         simp only[dataOf]at h1;have hl1:=hl.1;cases harr:(st.bx b).arr with
         |none=>rw[harr]at h1;cases h1
         | some p=>obtain⟨sz',es⟩:=p;rw[harr]at h1 hl1;simp at h1;subst h1;obtain⟨rfl,hle'⟩:=hl1;exact Vh h (hb b (by simp[nJ])) harr hle' hv
       |_=>simp[dataOf]at h1
      refine⟨by simp[hl'],λj c' hj=>?_⟩;cases j with
      |zero=>simp at hj;subst hj;exact⟨v,rfl,hr⟩
      |succ j=>obtain⟨u,hu,hr'⟩:=hc j c' (by simpa using hj);exact⟨u,by simpa using hu,hr'⟩
     ·cases hd
structure DC (I:IH)(cs:List Value)(sz:Nat)(es:List (List Cell)):Prop where
 one:∀(j:Nat) (u:Value),cs[j]? = some u->u.oneCell'=true
 rd:∀(i j:Nat) (c:Cell),(es.getD i [])[j]? = some c->∃u,cs[i*sz+j]? = some u/\Rd I u c
theorem ael {α:Type}(es:List (List α))(i i':Nat)(e:List α)(h:i<es.length):(es.set i e).getD i' []=if i'=i then e else es.getD i' []:=by
 simp only[bH,o5];by_cases hi:i=i'
 ·subst hi;simp[h]
 ·rw[ai hi,ai (λe=>hi e.symm)]
theorem ahx {sz i i' j j':Nat}(hj:j<sz)(hj':j'<sz)(h:i*sz+j=i'*sz+j'):i=i'/\j=j':=by
 have h1:(i*sz+j)/sz=i:=by rw[wG,Nat.mul_add_div aI,Nat.div_eq_of_lt hj,oG]
 have h2:(i'*sz+j')/sz=i':=by rw[wG,Nat.mul_add_div aI,Nat.div_eq_of_lt hj',oG]
 rw[h]at h1;have:=h1.symm.trans h2;subst this;exact⟨rfl,aI⟩
theorem DC.splice {cs:List Value}{sz:Nat}{es:List (List Cell)}(h:DC I cs sz es)(hsz:∀x,x∈es->x.length=sz){i off:Nat}(hi:i<es.length){vs:List Value}{ys:List Cell}(hl:off+ys.length<=sz)(hcs:(i+1)*sz<=cs.length)
 (hv:vs.length=ys.length) (h1:∀(j:Nat) (u:Value),vs[j]? = some u->u.oneCell'=true) (hd:∀(j:Nat) (c:Cell),ys[j]? = some c->∃u,vs[j]? = some u/\Rd I u c) :
 DC I (splice cs (i*sz+off) vs) sz (es.set i (Ab.splice (es.getD i []) off ys)):=by
 rw[dK]at hcs;have hfit:i*sz+off+vs.length<=cs.length:=by omega
 have hei:(es.getD i []).length=sz:=hsz _ (by simp[bH,aA hi]);refine⟨λj u hu=>?_,λi' j c hc=>?_⟩
 ·rw[nU _ _ _ _ hfit]at hu;split at hu
  ·exact h.one j u hu
  ·split at hu
   ·exact h1 _ u hu
   ·exact h.one j u hu
 ·rw[ael _ _ _ _ hi]at hc;rw[nU _ _ _ _ hfit];by_cases e:i'=i
  ·subst e;rw[aF rfl,nU _ _ _ _ aI]at hc;by_cases c1:j<off
   ·rw[aF c1]at hc;rw[aF aI];exact h.rd i' j c hc
   ·rw[ai c1]at hc;rw[ai aI];by_cases c2:j<off+ys.length
    ·rw[aF c2]at hc;rw[aF aI];obtain⟨u,hu,hr⟩:=hd _ c hc;exact⟨u,by rw[<- hu];congr 1;omega,hr⟩
    ·rw[ai c2]at hc;rw[ai aI];exact h.rd i' j c hc
  ·rw[ai e]at hc;have hj:j<sz:=by
    have hi':=lq hc;have:=hsz (es.getD i' []) (by simp[bH,aA hi']);rw[<- this];exact(aT.1 hc).1
   have hout:¬(i*sz+off<=i'*sz+j/\i'*sz+j<i*sz+off+vs.length):=by intro⟨c1,c2⟩;obtain⟨e1,_⟩:=ahx (i:=i') (i':=i) (j:=j) (j':=i'*sz+j-i*sz) hj aI aI;exact e e1
   by_cases c1:i'*sz+j<i*sz+off
   ·rw[aF c1];exact h.rd i' j c hc
   ·rw[ai c1,ai aI];exact h.rd i' j c hc
def Gt (n:Nat):List (Nat×Operand)->List (Nat×mY)->Bool
 |[],[]=>true
 |(i,x)::r,(i',y)::r'=>i==i'&&kD n x y&&Gt n r r'
 |_,_=>false
def Gw (P:Program)(n:Nat)(op:Op)(sz m:Nat)(zs:List Cell)(ps:List (Nat×mY)):Bool:=
 match op with
 | .buildSlice t len ps'=>len==m&&zs.length==sz&&decide (0<sz)&&decide (len*sz<=16777216)&&Gt n ps'.toList ps&&(match P.underlying t with
   |some (.slice e)=>(match P.info? e with|some i=>i.size==sz&&(match i.zero with|some z=>Ir z.cells.toList zs|none=>false)|none=>false)
   |_=>false)
 |_=>false
theorem Wv {sz:Nat}{BS:List Nat}(h:GX E I ρ n st a w)(hs0:0<sz):∀(ps:List (Nat×Operand)) (ps':List (Nat×mY)) (l':List (Nat×List Cell)) (cs:Array Value) (es:List (List Cell)),Gt n ps ps'=true ->
 xU (dY st.tm) st.bx es.length sz ps'=some l'->zC (dY st.tm) st.bx ps'->(∀b,b∈rZ (dY st.tm) ps'->b∈BS)->(∀p,p∈l'->p.1<es.length/\p.2.length=sz)->(∀p,p∈ps'->(p.2.ev st.tm).g=true)->DC (Bh I ρ w st.bx BS) cs.toList sz es->(∀x,x∈es->x.length=sz)->cs.size=es.length*sz ->
 ∃cs',pW (λi=>some (i*sz,sz)) cs (ps.map λp=>(p.1,a.eval p.2))=some cs'/\DC (Bh I ρ w st.bx BS) cs'.toList sz (LZ es l')/\(∀x,x∈LZ es l'->x.length=sz)/\cs'.size=es.length*sz/\(LZ es l').length=es.length
 | [],[],l',cs,es,_,hd,_,_,_,_,hg,hsz,hcs=>by simp[xU]at hd;subst hd;exact⟨cs,rfl,hg,hsz,hcs,rfl⟩
 |[],_::_,_,_,_,h,_,_,_,_,_,_,_,_=>by simp[Gt]at h
 |_::_,[],_,_,_,h,_,_,_,_,_,_,_,_=>by simp[Gt]at h
 | (i,x)::r,(i',y)::r',l',cs,es,hp,hd,hld,hbs,hq,hv,hg,hsz,hcs=>by
   simp only[Gt,ah,aH]at hp;obtain⟨⟨rfl,hx⟩,hr⟩:=hp;unfold xU at hd;split at hd
   ·rename_i ds l2 hd1 hd2;simp at hd;subst hd;obtain⟨q1,q2⟩:=hq (i,ds) nV;simp only at q1 q2;have g:=lX h hx (hv _ (aG ..));have hf:(dY st.tm y).flat:=by
     cases hav:dY st.tm y with
     |AX ps=>rw[hav]at hd1;simp[AV.cells,IB]at hd1;rw[hd1]at q2;simp at q2;omega
     |one x=>trivial
     |agg xs=>trivial
    have gc:=Jf g hf;obtain⟨hl,hrd⟩:=WM (BS:=BS) h gc hd1 hld.1 (λb hm=>hbs b (by simp only[rZ,aS];exact .inl hm));have hvs:(a.eval x).cells.size=sz:=(by simp at hl;rw[hl];exact q2);have hone:∀(j:Nat) (u:Value),(a.eval x).cells.toList[j]? = some u->u.oneCell'=true:=λj u hu=>by have hj:j<(dY st.tm y).cells.length:=(by rw[<- gc.1];exact(aT.1 hu).1);exact(gc.2 j u _ hu (aA hj)).one
    have hi1:(i+1)*sz<=cs.toList.length:=(by simp;rw[hcs];exact aW _ q1);have hmul:(i+1)*sz=i*sz+sz:=(by rw[dK];omega);have hsp:=hg.splice hsz q1 (off:=0) (ys:=ds) (vs:=(a.eval x).cells.toList) aI hi1 (by simpa using hl) hone hrd;have hei:(es.getD i []).length=sz:=hsz _ (by simp[bH,aA q1]);have hse:Ab.splice (es.getD i []) 0 ds=ds:=(by unfold Ab.splice;rw[xH,ja,List.drop_of_length_le aI,iZ]);rw[hse,oG]at hsp;have hfold:=foldl_set (a.eval x).cells (i*sz) cs (by simp at hi1;omega);have hlen2:(es.set i ds).length=es.length:=(by simp);have ih:=Wv h hs0 r r' l2 ((a.eval x).cells.zipIdx.foldl (λcs (p:Value×Nat)=>cs.setIfInBounds (i*sz+p.2) p.1) cs) (es.set i ds) hr (by rw[hlen2];exact hd2) hld.2 (λb hm=>hbs b (by simp only[rZ,aS];exact .inr hm))
     (λp hp=>by rw[hlen2];exact hq p (by simp[hp])) (λp hp=>hv p (by simp[hp])) (by rw[hfold];exact hsp)
     (λx hx=>(uk hx).elim (hsz x) (λh1=>by rw[h1];exact q2)) (by have:(cs.toList).length=cs.size:=(by simp);rw[<- kS,hfold,length_splice _ _ _ (by simp at hi1⊢;omega),hlen2];simpa using hcs)
    obtain⟨cs',h1,h2,h3,h4,h5⟩:=ih;rw[hlen2]at h4 h5;refine⟨cs',?_,h2,h3,h4,h5⟩;simp only[bJ,pW];rw[ai (by simp at hi1⊢;omega)];exact h1
   ·cases hd
theorem WB {o:Oper}{l sz m:Nat}{zs:List Cell}{ps:List (Nat×mY)}{l':List (Nat×List Cell)}(h:GX E I ρ n st a w)(hc:Gw P n o.op sz m zs ps=true)(hv:∀p,p∈ps->(p.2.ev st.tm).g=true)
 (hm:E.m<=l) (hl:BA (st.bx l)) (hd:xU (dY st.tm) st.bx m sz ps=some l') (hq:∀p,p∈l'->p.1<m/\p.2.length=sz) (hld:zC (dY st.tm) st.bx ps) :
 su P E n o a w ((st.Eo (rZ (dY st.tm) ps)).wu l (.dat sz (LZ (dU m zs) l'))) (.one (.own l m sz)):=by
 have h':=h.freeze (rZ (dY st.tm) ps);have hl':BA ((st.Eo (rZ (dY st.tm) ps)).bx l):=by rw[yX,yP hl];split<;>trivial
 generalize hJ:Bh I ρ w st.bx (rZ (dY st.tm) ps)=J at h';unfold Gw at hc;split at hc
 ·rename_i t len ps' he;simp only[ah,aH,aj]at hc;obtain⟨⟨⟨⟨⟨rfl,hs⟩,hs0⟩,hbig⟩,hp⟩,ht⟩:=hc;split at ht
  ·rename_i e hte;split at ht
   ·rename_i i hi;simp only[ah,aH]at ht;obtain⟨rfl,hz⟩:=ht;split at hz
    ·rename_i z hzero;generalize hz0:(if len*i.size=0 then(#[]:Array Value)else z.cells)=z0;generalize hcs0:(ry (len*i.size)).map (z0[· % z0.size]!)=cs0;have hdc:DC J cs0.toList i.size (dU len zs)/\cs0.size=len*i.size:=by
      refine⟨?_,by rw[<- hcs0];simp⟩;by_cases h0:len*i.size=0
      ·have hlen0:len=0:=by
        rcases Nat.mul_eq_zero.1 h0 with h1|h1
        ·exact h1
        ·omega
       subst hlen0;refine⟨λj u hu=>?_,λi' j c hc=>?_⟩
       ·rw[<- hcs0]at hu;simp at hu
       ·simp[bH]at hc
      ·rw[ai h0]at hz0;subst hz0;have rc:=Oh (I:=J) (N:=len*i.size) (m:=len) hz hs hs0 (ak _) (cs:=cs0) hcs0.symm;exact⟨λj u hu=>rc.1 j u (by simpa using hu),λi' j c hc=>by obtain⟨u,hu,hr⟩:=rc.2 i' j c hc;exact⟨u,by simpa using hu,hr⟩⟩
     obtain⟨cs',h1,h2,h3,h4,h5⟩:=Wv (BS:=rZ (dY st.tm) ps) h hs0 ps'.toList ps l' cs0 (dU len zs) hp (by simpa using hd) hld (λb hb=>hb) (by simpa using hq) hv (by rw[hJ];exact hdc.1) (λx hx=>by rw[rq hx,hs]) (by simpa using hdc.2);rw[hJ]at h2;simp only[Ei]at h4 h5;have g:=JO h' (yP hl') hm cs' e len i.size (LZ (dU len zs) l') h4 aI (by simp only[maxLen];have:=Nat.le_mul_of_pos_right len hs0;omega) h3
      (λj u hu=>h2.one j u (by simpa using hu)) (λi' j c hc=>by obtain⟨u,hu,hr⟩:=h2.rd i' j c hc;exact⟨u,by simpa using hu,hr⟩)
     refine⟨_,_,J,_,.inl ?_,g,λ_=>⟨w.heap.size,len,_,_,Ren.mO _ _ _ _,rfl,ak _,ak _,λ_=>rfl⟩⟩;have hps:(ps'.map λ(i,x)=>(i,a.eval x)).toList=ps'.toList.map λp=>(p.1,a.eval p.2):=(by simp);have hsz:(sizeOf e).run P w = .ok i.size w:=(by simp[sizeOf,typeInfo,hi]);have hzr:(zeroValue e).run P w = .ok z w:=(by simp[zeroValue,typeInfo,hi,hzero]);simp only[execOp,he,Instr.buildSlice,cu,run_underlying hte,bu,hsz];rw[ai aI];by_cases h0:len*i.size=0
     ·rw[aF h0]at hz0⊢;subst hz0;simp only[cu,bM,bu,hcs0,hps,h1,newRow,run_newObj];rfl
     ·rw[ai h0]at hz0⊢;subst hz0;simp only[cu,hzr,bM,bu,hcs0,hps,h1,newRow,run_newObj];rfl
    ·cases hz
   ·cases ht
  ·cases ht
 ·cases hc
theorem Ic (w:World)(k:Nat)(cs:Array Value):zK w (w.setRow k cs) (λk'=>k'=k):=
 ⟨rfl,rfl,rfl,nV,λk' _ hne=>setRow_other w k k' cs hne⟩
theorem xm (cs:Array Value)(off:Nat)(vs:List Value):(cs.toList.take (off+0)++vs++cs.toList.drop (off+0+vs.length)).toArray=(Ab.splice cs.toList off vs).toArray:=by unfold Ab.splice;simp
def Qm (P:Program)(n:Nat)(op:Op)(agg:Bool)(k:Nat)(p x:mY):Bool:=match op with|.store t p' x'=>kD n p' p&&kD n x' x&&IP P t agg k&&(agg||k==1)|_=>false
theorem MS {t:TypeId}{agg:Bool}{k kk off:Nat}(ht:IP P t agg k=true){v:Value}(hk:v.cells.size=k){cur:Array Value}{e:TypeId}(hw:w.heap[kk]? = some (.cells cur e (0,0)))
 (hfit:off+k<=cur.size) (h1:∀(j:Nat) (u:Value),v.cells.toList[j]? = some u->u.oneCell'=true) :
 (yJ t (.pointer (some ⟨kk,off,none⟩)) v).run P w = .ok () (w.setRow kk (Ab.splice cur.toList off v.cells.toList).toArray):=by
 have hst:=run_storeCells_at P kk off e v.cells.toList 0 cur w hw (by simp;omega) (λu hu=>by obtain⟨j,hj⟩:=qV hu;exact h1 j u hj)
 rw[xm]at hst;obtain⟨_,hs⟩:=EU ht w;simp only[yJ,jO,cu,bM,bu,storeVar,hs];rw[ai aI];exact hst
theorem ag4 {v:Value}{x:AV}(h:GV I ρ v x)(hf:x.flat):∀(j:Nat) (u:Value),v.cells.toList[j]? = some u->u.oneCell'=true:=λj u hu=>by
 have gc:=Jf h hf;have hj:j<x.cells.length:=by rw[<- gc.1];exact(aT.1 hu).1
 exact(gc.2 j u _ hu (aA hj)).one
theorem ZR {o:Oper}{agg:Bool}{k:Nat}{p x:mY}(h:GX E I ρ n st a w)(hc:Qm P n o.op agg k p x=true)(hd:o.dst=none)(hp:(p.ev st.tm).g=true)(hx:(x.ev st.tm).g=true)
 (jG:(Bi agg k (dY st.tm p) (dY st.tm x) st.bx).vc):tK P E n o a w (st.qo (Bi agg k (dY st.tm p) (dY st.tm x) st.bx).sets) (Bi agg k (dY st.tm p) (dY st.tm x) st.bx).v:=by
 unfold Qm at hc;split at hc
 ·rename_i t p' x' he;simp only[ah]at hc;obtain⟨⟨⟨c1,c2⟩,ht⟩,_⟩:=hc;have g1:=lX h c1 hp;have g2:=lX h c2 hx;have hf:(dY st.tm x).flat:=by
   cases hav:dY st.tm x with
   |one _=>trivial
   |agg _=>trivial
   |AX ps=>rw[hav]at jG;exact jG.elim
  have gc:=Jf g2 hf;have h1:=ag4 g2 hf;have key:∀{J:IH} {st':iI} (h':GX E J ρ n st' a w) {b kk cap off:Nat} {cur:Array Value} {e:TypeId} {y:Box},a.eval p' = .pointer (some ⟨kk,off,none⟩)->(st'.bx b).uses (ρ b) kk->w.heap[kk]? = some (.cells cur e (0,0))->(dY st.tm x).cells.length=k->off+k<=cur.size ->
   (∀k',y.uses (ρ b) k'->k'=kk)->BZ J ρ (w.setRow kk (Ab.splice cur.toList off (a.eval x').cells.toList).toArray) b y->ρ b=some (kk,cap)->tK P E n o a w (st'.qo [(b,y)]) (.one .Jj):=by
   intro J st' h' b kk cap off cur e y hpv hu hw hk hfit huy hok hr;have hkv:(a.eval x').cells.size=k:=(by have:=gc.1;simp at this;omega);have hrun:=MS (P:=P) (w:=w) ht hkv hw hfit h1;refine⟨undef,w.setRow kk (Ab.splice cur.toList off (a.eval x').cells.toList).toArray,J,ρ,.inr ⟨by simp only[execOp,he,hpv,cu,hrun,bu,bM],hd⟩,?_,λhn=>aY hd hn,{ quiet:=λe=>(by rw[he]at e;cases e),store:=λt1 p1 x1 he1=>(by rw[he]at he1;cases he1;exact⟨kk,off,cur,e,hpv,hw,aI,rfl⟩) }⟩;exact h'.wu hu y huy (Ic _ _ _) hok nV
  unfold Bi at jG⊢;split at jG
  ·exact jG.elim
  ·exact jG.elim
  ·exact jG.elim
  ·split at jG
   ·rename_i b off e1;rw[e1]at g1;obtain⟨kk,cap,hr,hv⟩:=g1;split at jG
    ·rename_i xs hb;obtain⟨hk,hfit⟩:=jG;have hok:=h.bx.ok b;rw[hb]at hok;obtain⟨kk',cap',cs,hr',hw,hs,hcs⟩:=hok;rw[hr]at hr';simp only[aC,aK]at hr';obtain⟨rfl,rfl⟩:=hr';refine key h hv (by rw[hb];exact⟨cap,hr⟩) hw hk aI (λk' hk'=>?_) ?_ hr
     ·obtain⟨c,hc⟩:=hk';rw[hr]at hc;simp at hc;exact hc.1.symm
     ·have hsp:=JH.splice (vs:=cs.toList) (xs:=xs) ⟨by simpa using hs,λj v y hv hy=>hcs j v y (by simpa using hv) hy⟩ gc off aI;refine⟨kk,cap,_,hr,setRow_heap w kk cs _ cap _ hw,?_,λj u y hu hy=>hsp.2 j u y (by simpa using hu) hy⟩;have:=hsp.1;simpa using this
    ·exact jG.elim
   ·rename_i b i sz off e1;rw[e1]at g1;obtain⟨kk,cap,hr,hv⟩:=g1;split at jG
    ·rename_i sz' es cs' hb hds;obtain⟨rfl,hk,hi,hfit,hlo,hnb⟩:=jG;obtain⟨hl,hrd⟩:=WM (BS:=nJ (dY st.tm x).cells) h gc hds hlo (λb hm=>hm);have h':=h.freeze (nJ (dY st.tm x).cells);have hb':(st.Eo (nJ (dY st.tm x).cells)).bx b = .dat sz' es:=(by rw[yX,ai (λhm=>by rw[List.contains_iff_mem.2 hm]at hnb;cases hnb),hb]);rw[Rt];generalize hJ:Bh I ρ w st.bx (nJ (dY st.tm x).cells)=J at h' hrd;have hok:=h'.bx.ok b;rw[hb']at hok;obtain⟨kk',cap',hr',hle,hcm,hsz,hcs⟩:=hok;rw[hr]at hr';simp only[aC,aK]at hr';obtain⟨rfl,rfl⟩:=hr';have hc0:cap≠0:=(by omega);obtain⟨cs,e,hw,hs,ho,al9⟩:=hcs hc0;have hi1:(i+1)*sz'<=cs.size:=(by rw[hs];exact aW _ aI);have hmul:(i+1)*sz'=i*sz'+sz':=(by rw[dK];omega);have hei:(es.getD i []).length=sz':=hsz _ (by simp[bH,aA hi]);have hck:(dY st.tm x).cells.length=k:=(by rw[<- gc.1,hl];exact hk);have hdc:DC J cs.toList sz' es:=⟨λj u hu=>ho j u (by simpa using hu),λi j c hc=>by obtain⟨u,hu,hr⟩:=al9 i j c hc;exact⟨u,by simpa using hu,hr⟩⟩;have hsp:=hdc.splice hsz hi (off:=off) (ys:=cs') (vs:=(a.eval x').cells.toList) aI (by simpa using hi1) hl h1 hrd;refine key h' hv (by rw[hb'];exact⟨cap,hr,hc0⟩) hw hck aI (λk' hk'=>?_) ?_ hr
     ·obtain⟨c,hc,_⟩:=hk';rw[hr]at hc;simp at hc;exact hc.1.symm
     ·refine⟨kk,cap,hr,by simpa using hle,hcm,λy hy=>?_,λ_=>⟨_,e,setRow_heap w kk cs _ e _ hw,?_,λj u hu=>hsp.one j u (by simpa using hu),λi j c hc=>by obtain⟨u,hu,hr⟩:=hsp.rd i j c hc;exact⟨u,by simpa using hu,hr⟩⟩⟩
      ·rcases uk hy with h1|h1
       ·exact hsz y h1
       ·rw[h1,length_splice _ _ _ aI];exact hei
      ·have:(a.eval x').cells.toList.length=k:=(by rw[hl];exact hk);simp only[jP];rw[length_splice _ _ _ (by rw[this,kS];omega)];simpa using hs
    ·exact jG.elim
   ·exact jG.elim
 ·cases hc
end
end
section
section
variable {P:Program} {E:Env P} {I:IH} {ρ:Ren} {n:Nat} {st:iI} {a:Act} {w:World}
theorem GX.kill (h:GX E I ρ n st a w)(b:Nat):GX E I ρ n (st.wu b .dead) a w:=by
 refine{ h with bx:=?_,own:=?_,agree:=h.agree,tm:=h.tm,size:=h.size,defers:=h.defers }
 ·refine BX.step (λc=>c=b) h.bx (IH.le_refl I) (Ren.le_refl ρ) (λc hc=>⟨by simp[iI.oP,hc],rfl⟩) (λc k _ _=>rfl) ?_ ?_ ?_ (λc k _ hu=>h.bx.fresh c k hu)
  ·rintro c rfl;simp[iI.oP,BZ]
  ·rintro c k rfl hu;simp[iI.oP,Box.uses]at hu
  ·rintro c c' k rfl rfl _ _;rfl
 ·intro c k hu;simp only[iI.oP]at hu;by_cases e:c=b
  ·rw[aF e]at hu;exact hu.elim
  ·rw[ai e]at hu;exact h.own c k hu
theorem GX.move (h:GX E I ρ n st a w){w':World}{b l kk cap sz sz':Nat}{es es':List (List Cell)}(hb:st.bx b = .dat sz es)(hr:ρ b=some (kk,cap))(hl:st.bx l = .absent)(hm:E.m<=l)
 (hF:zK w w' (λk=>k=kk)) (hsz:w'.heap.size=w.heap.size) (h0:cap=0->w'=w) (hx:BZ I (ρ.set l kk cap) w' l (.dat sz' es')):GX E I (ρ.set l kk cap) n ((st.wu b .dead).wu l (.dat sz' es')) a w':=by
 have hrl:ρ l=none:=by have:=h.bx.ok l;rwa[hl]at this
 have hbl:b≠l:=by rintro rfl;rw[hl]at hb;cases hb
 have hle:=Ren.KT (ρ:=ρ) (k:=kk) (cap:=cap) hrl;have hk:∀k',k'≠kk->w'.heap[k']? = w.heap[k']?:= λk' hne=>by
  by_cases hlt:k'<w.heap.size
  ·exact hF.block k' hlt hne
  ·rw[vF aI,vF aI]
 have hub:cap≠0->(st.bx b).uses (ρ b) kk:=λhc=>by rw[hb];exact⟨cap,hr,hc⟩
 have hk2:∀k',(∀hc:cap≠0,k'≠kk)->w'.heap[k']? = w.heap[k']?:= λk' hne=>by
  by_cases hc:cap=0
  ·rw[h0 hc]
  ·exact hk k' (hne hc)
 refine{ agree:=h.agree.other λk' c hc=>hk2 k' λhc0 e=>?_,bx:=?_,tm:=λt ht=>(h.tm t ht).mono (IH.le_refl _) hle,size:=h.size,defers:=h.defers,Aj:=?_,own:=?_,Kq:=h.Kq,Fa:=h.Fa,vW:=?_ }
 ·subst e;have:=h.bx.fresh b k' (hub hc0);rw[this]at hc;cases hc
 ·refine BX.step (λc=>c=b\/c=l) h.bx (IH.le_refl I) hle ?_ ?_ ?_ ?_ ?_ ?_
  ·intro c hc;have h1:¬c=b:=λe=>hc (.inl e);have h2:¬c=l:=λe=>hc (.inr e);exact⟨by simp[iI.oP,h1,h2],Ren.uq h2⟩
  ·intro c k' hc hu;refine hk2 k' λhc0 e=>hc (.inl ?_);subst e;exact h.bx.inj c b k' hu (hub hc0)
  ·rintro c (rfl|rfl)
   ·simp[iI.oP,hbl,BZ]
   ·simpa[iI.oP]using hx
  ·rintro c k' (rfl|rfl) hu
   ·simp[iI.oP,hbl,Box.uses]at hu
   ·simp only[iI.oP,kN,Box.uses,Ren.mO]at hu;obtain⟨c',hc',hc0⟩:=hu;simp only[aC,aK]at hc';obtain⟨rfl,rfl⟩:=hc';exact⟨λb' hb' hu'=>hb' (.inl (h.bx.inj b' b kk hu' (hub hc0))),h.bx.fresh b kk (hub hc0)⟩
  ·rintro c c' k' (rfl|rfl) (rfl|rfl) hu hu'
   ·rfl
   ·simp[iI.oP,hbl,Box.uses]at hu
   ·simp[iI.oP,hbl,Box.uses]at hu'
   ·rfl
  ·intro c k' hc hu;exact h.bx.fresh c k' hu
 ·by_cases hc:cap=0
  ·rw[h0 hc];exact h.Aj
  ·refine h.Aj.trans hF λk' hlt e=>?_;subst e;rcases h.own b k' (hub hc)with h1|h1
   ·omega
   ·exact h1
 ·intro c k' hu;simp only[iI.oP]at hu;by_cases e:c=l
  ·subst e;simp only[kN,Box.uses,Ren.mO]at hu;obtain⟨c',hc',hc0⟩:=hu;simp only[aC,aK]at hc';obtain⟨rfl,rfl⟩:=hc';exact h.own b kk (hub hc0)
  ·rw[ai e,Ren.uq e]at hu;by_cases e2:c=b
   ·rw[aF e2]at hu;exact hu.elim
   ·rw[ai e2]at hu;exact h.own c k' hu
 ·intro c hc;rw[Ren.uq aI];exact h.vW c hc
theorem Jz {v:Value}{sz:Nat}{es:List (List Cell)}(h:Src I w v sz es)(h0:0<sz):∃(b:Option Addr) (cap:Nat) (us:List Value),v = .slice b es.length cap/\us.length=es.length*sz /\
 (∀ad,b=some ad->∀(j:Nat) (u:Value),us[j]? = some u->w.cell? (ad.add j)=some u)/\(b=none->es=[])/\DC I us sz es:=by
 obtain⟨b,cap,hv,_,hsz,hb,hc⟩:=h;cases b with
 | none=>
   have:es=[]:=by
    cases es with
    |nil=>rfl
    |cons e r=>exact aY rfl (hb nV)
   subst this;exact⟨none,cap,[],hv,nV,(λad h=>by cases h),(λ_=>rfl),⟨nV,nV⟩⟩
 | some ad=>
   have key:∀j,j<es.length*sz->∃u,w.cell? (ad.add j)=some u/\∃c,(es.getD (j/sz) [])[j%sz]? = some c/\Rd I u c:=by intro j hj;have hi:j/sz<es.length:=(by rw[Nat.div_lt_iff_lt_mul h0];exact hj);have hl:(es.getD (j/sz) []).length=sz:=hsz _ (by simp[bH,aA hi]);have hm:j%sz<sz:=Dl _ h0;obtain⟨u,hu,hr⟩:=hc ad rfl (j/sz) (j%sz) _ (aA aI);have e:j/sz*sz+j%sz=j:=(by rw[wG];exact Nat.div_add_mod j sz);rw[e]at hu;exact⟨u,hu,_,aA aI,hr⟩
   refine⟨some ad,cap,(List.range (es.length*sz)).map λj=>(w.cell? (ad.add j)).getD undef,hv,nV,?_,nV,?_⟩
   ·intro ad' had j u hu;simp at had;subst had;rw[dD]at hu;by_cases hj:j<es.length*sz
    ·rw[Az hj]at hu;obtain⟨u',hu',_⟩:=key j hj;simp[hu']at hu;rw[<- hu];exact hu'
    ·rw[kV (by simpa using hj)]at hu;cases hu
   ·refine⟨λj u hu=>?_,λi j c hcc=>?_⟩
    ·rw[dD]at hu;by_cases hj:j<es.length*sz
     ·rw[Az hj]at hu;obtain⟨u',hu',c,_,hr⟩:=key j hj;simp[hu']at hu;rw[<- hu];exact hr.one
     ·rw[kV (by simpa using hj)]at hu;cases hu
    ·have hi:=lq hcc;have hl:(es.getD i []).length=sz:=hsz _ (by simp[bH,aA hi]);have hj:j<sz:=(by rw[<- hl];exact(aT.1 hcc).1);obtain⟨u,hu,hr⟩:=hc ad rfl i j c hcc;have hlt:i*sz+j<es.length*sz:=by
      have:(i+1)*sz<=es.length*sz:=aW _ hi;rw[dK]at this;omega
     exact⟨u,by rw[dD,Az hlt];simp[hu],hr⟩
theorem DC.append {us vs:List Value}{sz:Nat}{es ys:List (List Cell)}(h:DC I us sz es)(k:DC I vs sz ys)(hl:us.length=es.length*sz):DC I (us++vs) sz (es++ys):=by
 refine⟨λj u hu=>?_,λi j c hc=>?_⟩
 ·by_cases hj:j<us.length
  ·rw[bD hj]at hu;exact h.one j u hu
  ·rw[dw aI]at hu;exact k.one _ u hu
 ·by_cases hi:i<es.length
  ·have e:(es++ys).getD i []=es.getD i []:=(by simp[bH,bD hi]);rw[e]at hc;obtain⟨u,hu,hr⟩:=h.rd i j c hc;exact⟨u,by rw[bD (aT.1 hu).1];exact hu,hr⟩
  ·have e:(es++ys).getD i []=ys.getD (i-es.length) []:=(by simp[bH,dw (yM hi)]);rw[e]at hc;obtain⟨u,hu,hr⟩:=k.rd _ j c hc;have hmul:es.length*sz<=i*sz:=aW _ aI;have hsub:(i-es.length)*sz=i*sz-es.length*sz:=Nat.sub_mul _ _ _;exact⟨u,by rw[dw aI,hl,<- hu];congr 1;omega,hr⟩
theorem DC.more {us vs:List Value}{sz:Nat}{es:List (List Cell)}(h:DC I us sz es)(hv:∀(j:Nat) (u:Value),vs[j]? = some u->u.oneCell'=true):DC I (us++vs) sz es:=by
 refine⟨λj u hu=>?_,λi j c hc=>?_⟩
 ·by_cases hj:j<us.length
  ·rw[bD hj]at hu;exact h.one j u hu
  ·rw[dw aI]at hu;exact hv _ u hu
 ·obtain⟨u,hu,hr⟩:=h.rd i j c hc;exact⟨u,by rw[bD (aT.1 hu).1];exact hu,hr⟩
theorem DC.abd {us:List Value}{sz:Nat}{es:List (List Cell)}{cs:Array Value}(h:DC I us sz es)(e:cs.toList=us) :
 (∀(j:Nat) (u:Value),cs[j]? = some u->u.oneCell'=true)/\∀(i j:Nat) (c:Cell),(es.getD i [])[j]? = some c->∃u,cs[i*sz+j]? = some u/\Rd I u c:=by
 subst e;exact⟨λj u hu=>h.one j u (by simpa using hu),λi j c hc=>by obtain⟨u,hu,hr⟩:=h.rd i j c hc;exact⟨u,by simpa using hu,hr⟩⟩
def Cb (P:Program)(n:Nat)(op:Op)(sz bytes:Nat)(s x:mY):Bool:=
 match op with
 | .call { callee:=.builtin .append,args:=⟨[s',x']⟩,argTypes:=⟨[t,t']⟩ }=>kD n s' s&&kD n x' x&&t==t'&&decide (0<sz)&&(match P.underlying t with
   |some (.slice e)=>(match P.info? e with|some i=>i.size==sz&&i.bytes==bytes&&(match i.zero with|some z=>z.cells.size==sz&&z.cells.toList.all (·.oneCell')|none=>false)|none=>false)
   |_=>false)
 |_=>false
theorem run_append_room' (t ty e tg:TypeId)(i:TypeInfo)(ht:P.underlying t=some (.slice e))(hi:P.info? e=some i)
 (g sLen sCap:Nat) (cur:Array Value) (hg:w.heap[g]? = some (.cells cur tg (0,0)))
 (ad:Addr) (m c:Nat) (news:List Value) (hl:news.length=m*i.size) (hnews:∀j u,news[j]? = some u->w.cell? (ad.add j)=some u) (h1:∀u∈news,u.oneCell'=true)
 (hroom:sLen+m<=sCap) (hfit:sLen*i.size+news.length<=cur.size) :
 (iK #[t,t] ty #[.slice (some ⟨g,0,none⟩) sLen sCap,.slice (some ad) m c]).run P w =
  .ok (.slice (some ⟨g,0,none⟩) (sLen+m) sCap) (w.setRow g (cur.toList.take (sLen*i.size)++news++cur.toList.drop (sLen*i.size+news.length)).toArray):=by
 have hf:=run_firstCells_some (P:=P) w i.size m ad m c news hl hnews;have hst:=run_storeCells_at P g (sLen*i.size) tg news 0 cur w hg (by simpa using hfit) h1;simp only[oG]at hst;simp[iK,run_underlying ht,sizeOf,typeInfo,hi,og,hroom,hf,Go.Addr.add_lit,hst]
theorem Ee (t ty e:TypeId)(i:TypeInfo)(ht:P.underlying t=some (.slice e))(hi:P.info? e=some i)(b:Option Addr)(sLen sCap:Nat)(hs:sLen<=sCap)(ad:Option Addr)(c:Nat) :
 (iK #[t,t] ty #[.slice b sLen sCap,.slice ad 0 c]).run P w = .ok (.slice b sLen sCap) w:=by
 have hf:(iQ i.size 0 (.slice ad 0 c)).run P w = .ok #[] w:=by cases ad<;>simp[iQ,loadCells,loadCellsFrom,bM]
 cases b<;>simp[iK,run_underlying ht,sizeOf,typeInfo,hi,og,hs,hf,storeCells]
theorem Oy (h:GX E I ρ n st a w){l sz bytes:Nat}{sv xv:Value}{es ys:List (List Cell)}{b:Option Nat}(t ty e:TypeId)(i:TypeInfo)(z:Value)(ht:P.underlying t=some (.slice e))(hi:P.info? e=some i)(hsz:i.size=sz)
 (hby:i.bytes=bytes) (hz:i.zero=some z) (hzs:z.cells.size=sz) (hz1:z.cells.toList.all (·.oneCell')=true) (h0:0<sz) (hl:st.bx l = .absent) (hm:E.m<=l)
 (hb:(b=none/\es=[]/\sv = .slice none 0 0)\/∃b',b=some b'/\st.bx b' = .dat sz es/\GC I ρ sv (.own b' es.length sz)) (hx:Src I w xv sz ys) (hbig:(es.length+ys.length)*(bytes+sz+1)<=2^46) :
 ∃v w' ρ',(iK #[t,t] ty #[sv,xv]).run P w = .ok v w'/\GX E I ρ' n ((match b with|some b'=>st.wu b' .dead|none=>st).wu l (.dat sz (es++ys))) a w'/\GC I ρ' v (.own l (es.length+ys.length) sz):=by
 subst hsz;subst hby;have hmul:(es.length+ys.length)*(i.bytes+i.size+1)=(es.length+ys.length)*i.bytes+(es.length+ys.length)*i.size+(es.length+ys.length):=by rw[xx,xx,sJ]
 have hbytes:(es.length+ys.length)*i.bytes<=140737488355328:=by omega
 have h63:es.length+ys.length<=maxLen:=by simp only[maxLen];omega
 obtain⟨xb,xc,us,hxv,IM,hus,hxn,Yh⟩:=Jz hx h0;have hys:∀y,y∈ys->y.length=i.size:=by obtain⟨_,_,_,_,h4,_⟩:=hx;exact h4
 have hone:∀u∈us,u.oneCell'=true:=λu hu=>by obtain⟨j,hj⟩:=qV hu;exact Yh.one j u hj
 have hzc:∀(q:Nat) (j:Nat) (u:Value),(bI z.cells q).toList[j]? = some u->u.oneCell'=true:=by
  intro q j u hu;simp only[bI,qw,nG]at hu;by_cases hj:j<q*z.cells.size
  ·rw[nK,aF hj]at hu;simp only[mD,aC]at hu;have hlt:j%z.cells.size<z.cells.size:=Dl _ aI;rw[getElem!_pos z.cells _ hlt]at hu;rw[<- hu];exact aN.1 hz1 _ nV
  ·rw[nK,ai hj]at hu;cases hu
 have fresh:∀(st':iI) (old:Nat) (olds:List Value),GX E I ρ n st' a w->st'.bx l = .absent->old<es.length+ys.length->olds.length=es.length*i.size->DC I olds i.size es->(∀y,y∈es->y.length=i.size) ->
  GX E I (ρ.set l w.heap.size (grownCap w (es.length+ys.length) old e)) n (st'.wu l (.dat i.size (es++ys))) a
   (w.drew.alloc (.cells (olds.toArray++us.toArray++bI z.cells (grownCap w (es.length+ys.length) old e-(es.length+ys.length))) e)):=by
  intro st' old olds hst hl' ho hol hdo hes;have hge:=grownCap_ge w (es.length+ys.length) old e;have hcm:grownCap w (es.length+ys.length) old e<=maxLen:=grownCap_le_maxLen w _ old e h63;have hdc:=((hdo.append Yh hol).more (hzc (grownCap w (es.length+ys.length) old e-(es.length+ys.length)))).abd (cs:=olds.toArray++us.toArray++bI z.cells (grownCap w (es.length+ys.length) old e-(es.length+ys.length))) nV;refine JO hst.drew hl' hm _ e _ i.size (es++ys) ?_ (by simpa using hge) hcm (λx hx=>?_) hdc.1 hdc.2
  ·simp only[uZ,jP,size_zeroCells,hzs,hol,IM,<- dK]
   congr 1
   omega
  ·rcases aS.1 hx with h1|h1
   ·exact hes x h1
   ·exact hys x h1
 rcases hb with⟨rfl,rfl,rfl⟩|⟨b',rfl,hb',hg⟩
 ·
  simp only[fB,fE,ja]at *;by_cases hm0:ys.length=0
  ·have hy0:ys=[]:=dN hm0;subst hy0;refine⟨.slice none 0 0,w,ρ.set l 0 0,?_,?_,0,0,none,0,Ren.mO _ _ _ _,rfl,ak _,ak _,λh=>aY rfl h⟩
   ·rw[hxv];exact Ee t ty e i ht hi none 0 0 (ak _) xb xc
   ·have hrl:ρ l=none:=(by have:=h.bx.ok l;rwa[hl]at this);have hle:=Ren.KT (ρ:=ρ) (k:=0) (cap:=0) hrl;refine{ agree:=h.agree,bx:=?_,tm:=λt ht=>(h.tm t ht).mono (IH.le_refl _) hle,size:=h.size,defers:=h.defers,Aj:=h.Aj,own:=?_,Kq:=h.Kq,Fa:=h.Fa,vW:=λc hc=>by rw[Ren.uq aI];exact h.vW c hc }
    ·refine BX.step (λc=>c=l) h.bx (IH.le_refl I) hle (λc hc=>⟨by simp[iI.oP,hc],Ren.uq hc⟩) (λc k _ _=>rfl) ?_ ?_ ?_ (λc k _ hu=>h.bx.fresh c k hu)
     ·rintro c rfl;simp only[iI.oP,kN];exact⟨0,0,Ren.mO _ _ _ _,nV,by simp[maxLen],nV,λh=>aY rfl h⟩
     ·rintro c k rfl hu;simp only[iI.oP,kN,Box.uses,Ren.mO]at hu;obtain⟨c',hc',hc0⟩:=hu;simp only[aC,aK]at hc';exact aY hc'.2.symm hc0
     ·rintro c c' k rfl rfl _ _;rfl
    ·intro c k hu;simp only[iI.oP]at hu;by_cases e':c=l
     ·subst e';simp only[kN,Box.uses,Ren.mO]at hu;obtain⟨c',hc',hc0⟩:=hu;simp only[aC,aK]at hc';exact aY hc'.2.symm hc0
     ·rw[ai e',Ren.uq e']at hu;exact h.own c k hu
  ·obtain⟨ad,had⟩:∃ad,xb=some ad:=by
    cases hq:xb with
    |none=>exact aY (by rw[hxn hq];rfl) hm0
    |some ad=>exact⟨ad,rfl⟩
   subst had;have hr:=run_append_nil (P:=P) w t ty e i z ht hi hz ad ys.length xc us IM (hus ad rfl) aI (by simp only[maxLen]at h63;omega) aI;rw[<- hxv]at hr;have hf:=fresh st 0 [] h hl aI nV ⟨nV,nV⟩ nV;simp only[pX]at hf;exact⟨_,_,_,hr,hf,w.heap.size,_,_,_,Ren.mO _ _ _ _,rfl,grownCap_ge w ys.length 0 e,ak _,λ_=>rfl⟩
 ·obtain⟨kk,cap,ad0,c,hr0,hsv,hnc,hcc,hcap⟩:=hg;have hbl:b'≠l:=by rintro rfl;rw[hl]at hb';cases hb'
  have hok:=h.bx.ok b';rw[hb']at hok;obtain⟨kk',cap',hr',hle,hcm,hes,hcs⟩:=hok;rw[hr0]at hr';simp only[aC,aK]at hr';obtain⟨rfl,rfl⟩:=hr';simp only;by_cases hm0:ys.length=0
  ·have hy0:ys=[]:=dN hm0;subst hy0;simp only[fB,oG,iZ]at *;refine⟨sv,w,ρ.set l kk cap,?_,?_,kk,cap,ad0,c,Ren.mO _ _ _ _,hsv,hnc,hcc,hcap⟩
   ·rw[hxv,hsv];exact Ee t ty e i ht hi ad0 _ c hnc xb xc
   ·refine h.move hb' hr0 hl hm (zK.refl _ _) rfl (λ_=>rfl) ⟨kk,cap,Ren.mO _ _ _ _,hle,hcm,hes,hcs⟩
  ·obtain⟨ad,had⟩:∃ad,xb=some ad:=by
    cases hq:xb with
    |none=>exact aY (by rw[hxn hq];rfl) hm0
    |some ad=>exact⟨ad,rfl⟩
   subst had;by_cases hroom:es.length+ys.length<=c
   ·have hc0:cap≠0:=(by omega);have KP:=hcap hc0;subst KP;obtain⟨cs,tg,hw,hs,ho,hrd⟩:=hcs hc0;have hfit:es.length*i.size+us.length<=cs.size:=(by rw[hs,IM,<- dK];exact aW _ aI);have hr:=run_append_room' (P:=P) (w:=w) (ty:=ty) t e tg i ht hi kk es.length c cs hw ad ys.length xc us IM (hus ad rfl) hone hroom hfit;rw[<- hxv,<- hsv]at hr;refine⟨_,_,ρ.set l kk cap,hr,?_,kk,cap,_,c,Ren.mO _ _ _ _,rfl,hroom,hcc,λ_=>rfl⟩;refine h.move hb' hr0 hl hm (Ic _ _ _) nV (λh=>aY h hc0) ⟨kk,cap,Ren.mO _ _ _ _,by simp;omega,hcm,λx hx=>?_,λ_=>⟨_,tg,setRow_heap w kk cs _ tg _ hw,?_,?_⟩⟩
    ·rcases aS.1 hx with h1|h1
     ·exact hes x h1
     ·exact hys x h1
    ·simp only[jP,ay,jc,List.length_drop,kS];omega
    ·have hd1:DC I (cs.toList.take (es.length*i.size)) i.size es:=by
      refine⟨λj u hu=>?_,λi' j c' hc'=>?_⟩
      ·rw[bW]at hu;split at hu
       ·exact ho j u (by simpa using hu)
       ·cases hu
      ·obtain⟨u,hu,hr⟩:=hrd i' j c' hc';have hi':=lq hc';have hj:j<i.size:=(by rw[<- hes (es.getD i' []) (by simp[bH,aA hi'])];exact(aT.1 hc').1);have:(i'+1)*i.size<=es.length*i.size:=aW _ hi';rw[dK]at this;exact⟨u,by rw[bW,aF aI];simpa using hu,hr⟩
     have hlen:(cs.toList.take (es.length*i.size)).length=es.length*i.size:=(by simp;omega);have:=((hd1.append Yh hlen).more (vs:=cs.toList.drop (es.length*i.size+us.length)) (λj u hu=>by rw[iL]at hu;exact ho _ u (by simpa using hu))).abd (cs:=(cs.toList.take (es.length*i.size)++us++cs.toList.drop (es.length*i.size+us.length)).toArray) nV;exact this
   ·
    have hfit:=growslice_fits (need:=es.length+ys.length) (old:=c) (bytes:=i.bytes) aI hbytes;have hk:=h.kill b';have hkl:(st.wu b' .dead).bx l = .absent:=(by rw[iI.oP,ai (λe=>hbl e.symm)];exact hl);by_cases hc0:cap=0
    ·
     have he0:es=[]:=dN aI;subst he0;have hcz:c=0:=(by omega);subst hcz;simp only[fB,fE,ja]at *;have hf:=fresh (st.wu b' .dead) 0 [] hk hkl aI nV ⟨nV,nV⟩ nV;simp only[pX]at hf;cases ad0 with
     | none=>have hr:=run_append_nil (P:=P) w t ty e i z ht hi hz ad ys.length xc us IM (hus ad rfl) aI (by simp only[maxLen]at h63;omega) aI;rw[<- hxv,<- hsv]at hr;exact⟨_,_,_,hr,hf,w.heap.size,_,_,_,Ren.mO _ _ _ _,rfl,grownCap_ge w ys.length 0 e,ak _,λ_=>rfl⟩
     | some q=>have hr:=run_append_grow (P:=P) w t ty e i z ht hi hz q 0 0 [] nV nV ad ys.length xc us IM (hus ad rfl) aI (by simp only[maxLen]at h63;omega) (by simpa using hfit);rw[<- hxv,<- hsv]at hr;simp only[fE,pX]at hr;exact⟨_,_,_,hr,hf,w.heap.size,_,_,_,Ren.mO _ _ _ _,rfl,grownCap_ge w ys.length 0 e,ak _,λ_=>rfl⟩
    ·have KP:=hcap hc0;subst KP;obtain⟨cs,tg,hw,hs,ho,hrd⟩:=hcs hc0;have hmn:es.length*i.size<=cs.size:=(by rw[hs];exact aW _ hle);have W9:(cs.toList.take (es.length*i.size)).length=es.length*i.size:=(by simp;omega);have holds:∀(j:Nat) (u:Value),(cs.toList.take (es.length*i.size))[j]? = some u->w.cell? ((⟨kk,0,none⟩:Addr).add j)=some u:=λj u hu=>by
      rw[bW]at hu;split at hu
      ·rw[Addr.o9];simp at hu;simp[iy,hw,hu]
      ·cases hu
     have hd1:DC I (cs.toList.take (es.length*i.size)) i.size es:=by
      refine⟨λj u hu=>?_,λi' j c' hc'=>?_⟩
      ·rw[bW]at hu;split at hu
       ·exact ho j u (by simpa using hu)
       ·cases hu
      ·obtain⟨u,hu,hr⟩:=hrd i' j c' hc';have hi':=lq hc';have hj:j<i.size:=(by rw[<- hes (es.getD i' []) (by simp[bH,aA hi'])];exact(aT.1 hc').1);have:(i'+1)*i.size<=es.length*i.size:=aW _ hi';rw[dK]at this;exact⟨u,by rw[bW,aF aI];simpa using hu,hr⟩
     have hr:=run_append_grow (P:=P) w t ty e i z ht hi hz ⟨kk,0,none⟩ es.length c _ W9 holds ad ys.length xc us IM (hus ad rfl) aI (by simp only[maxLen]at h63;omega) hfit;rw[<- hxv,<- hsv]at hr;have hf:=fresh (st.wu b' .dead) c _ hk hkl aI W9 hd1 hes;exact⟨_,_,_,hr,hf,w.heap.size,_,_,_,Ren.mO _ _ _ _,rfl,grownCap_ge w _ c e,ak _,λ_=>rfl⟩
end
end
section
section
variable {P:Program} {E:Env P} {I:IH} {ρ:Ren} {n:Nat} {st:iI} {a:Act} {w:World}
def Pg (l sz bytes:Nat) (s x:AV) (bx:Nat->Box):FR:=match yx sz x bx with
    | some (p,ys)=>match s with
      |.one (.mM _)=>⟨p/\(match bx l with|.absent=>True|_=>False)/\ys.length*(bytes+sz+1)<=2^46,.one (.own l ys.length sz),[(l,.dat sz ys)]⟩
      | .one (.own b n sz')=>match bx b with
        |.dat Ae es=>⟨p/\(match bx l with|.absent=>True|_=>False)/\sz'=sz/\Ae=sz/\n<=es.length/\(n+ys.length)*(bytes+sz+1)<=2^46/\b≠l,
         .one (.own l (n+ys.length) sz),[(b,.dead),(l,.dat sz (es.take n++ys))]⟩
        |_=>.bad
      |_=>.bad
    |none=>.bad
theorem Gm {x:Box}(h:match x with|.absent=>True|_=>False):x = .absent:=by cases x<;>first|rfl|exact h.elim
theorem GX.pfx (h:GX E I ρ n st a w){b sz m:Nat}{es:List (List Cell)}(hb:st.bx b = .dat sz es):GX E I ρ n (st.wu b (.dat sz (es.take m))) a w:=by
 have hu:∀c k,((st.wu b (.dat sz (es.take m))).bx c).uses (ρ c) k->(st.bx c).uses (ρ c) k:=λc k hu=>by
  rw[iI.oP]at hu;split at hu
  ·rename_i e;subst e;rw[hb];exact hu
  ·exact hu
 refine{ h with bx:=⟨λc=>?_,λc c' k hc hc'=>h.bx.inj c c' k (hu c k hc) (hu c' k hc'),λc k hc=>h.bx.fresh c k (hu c k hc)⟩,own:=λc k hc=>h.own c k (hu c k hc),agree:=h.agree,tm:=h.tm,size:=h.size,defers:=h.defers,Aj:=h.Aj };rw[iI.oP];split
 ·rename_i e;subst e;have hok:=h.bx.ok c;rw[hb]at hok;obtain⟨k,cap,hr,h1,h2,h3,h4⟩:=hok;refine⟨k,cap,hr,by simp;omega,h2,λe he=>h3 e (jq he),λh0=>?_⟩;obtain⟨cs,e,g1,g2,g3,g4⟩:=h4 h0;refine⟨cs,e,g1,g2,g3,λi j c' hc'=>g4 i j c' ?_⟩;have hi:=lq hc';simp at hi;rw[<- hc']
  congr 1
  simp only[bH];rw[bW,aF aI]
 ·exact h.bx.ok c
theorem Wp {o:Oper}{l sz bytes:Nat}{s x:mY}(h:GX E I ρ n st a w)(hc:Cb P n o.op sz bytes s x=true)(hm:E.m<=l)(hs:(s.ev st.tm).g=true)(hx:(x.ev st.tm).g=true)
 (jG:(Pg l sz bytes (dY st.tm s) (dY st.tm x) st.bx).vc):su P E n o a w (st.qo (Pg l sz bytes (dY st.tm s) (dY st.tm x) st.bx).sets) (Pg l sz bytes (dY st.tm s) (dY st.tm x) st.bx).v:=by
 unfold Cb at hc;split at hc
 ·rename_i s' x' t t' he;simp only[ah,aH,aj]at hc;obtain⟨⟨⟨⟨c1,c2⟩,rfl⟩,h0⟩,ht⟩:=hc;have g1:=lX h c1 hs;have g2:=lX h c2 hx;split at ht
  ·rename_i e hte;split at ht
   ·rename_i i hi;simp only[ah,aH]at ht;obtain⟨⟨rfl,rfl⟩,hz⟩:=ht;split at hz
    ·rename_i z hzero;simp only[ah,aH]at hz;obtain⟨hzs,hz1⟩:=hz;have fin:∀{v:Value} {w':World},(iK #[t,t] o.type #[a.eval s',a.eval x']).run P w = .ok v w'->(execOp a.eval o).run P w = .ok (.value v) w':=by
      intro v w' hr;simp only[execOp,he,resolve,invoke,builtin,cu,bM,bu,kP,bJ,jY,hr]
     unfold Pg at jG⊢;split at jG
     ·rename_i p ys hsrc;split at jG
      ·rename_i sz' e1;obtain⟨hp,hl,hbig⟩:=jG;rw[e1]at g1;obtain⟨v,w',ρ',hr,hg,hv⟩:=Oy (P:=P) h (l:=l) (es:=[]) (ys:=ys) (b:=none) t o.type e i z hte hi rfl rfl hzero hzs hz1 h0 (Gm hl) hm (.inl ⟨rfl,rfl,g1⟩) (src_ok h g2 hsrc hp) (by simpa using hbig);simp only[ja,fB,fE]at hg hv;exact⟨v,w',I,ρ',.inl (fin hr),hg,λ_=>hv⟩
      ·rename_i b m sz' e1;rw[e1]at g1;split at jG
       ·rename_i Ae es hb;obtain⟨hp,hl,rfl,rfl,hmn,hbig,hbl⟩:=jG;have hlt:(es.take m).length=m:=(by simp;omega);have h':=h.pfx (m:=m) hb;have hl':(st.wu b (.dat i.size (es.take m))).bx l = .absent:=(by rw[iI.oP,ai (λe=>hbl e.symm)];exact Gm hl);obtain⟨v,w',ρ',hr,hg,hv⟩:=Oy (P:=P) h' (l:=l) (es:=es.take m) (ys:=ys) (b:=some b) t o.type e i z hte hi rfl rfl hzero hzs hz1 h0 hl' hm (.inr ⟨b,rfl,by rw[iI.oP,aF rfl],by rw[hlt];exact g1⟩) (src_ok h g2 hsrc hp) (by rw[hlt];exact hbig);rw[hlt]at hv;have hst:(((st.wu b (.dat i.size (es.take m))).wu b .dead).wu l (.dat i.size (es.take m++ys)))=((st.wu b .dead).wu l (.dat i.size (es.take m++ys))):=by
         apply iI.ext'
         ·rfl
         ·funext c;simp only[iI.oP];split
          ·rfl
          ·split<;>rfl
        simp only[hst]at hg;exact⟨v,w',I,ρ',.inl (fin hr),hg,λ_=>hv⟩
       ·exact jG.elim
      ·exact jG.elim
     ·exact jG.elim
    ·cases hz
   ·cases ht
  ·cases ht
 ·cases hc
def copyV (sz:Nat) (d x:AV) (bx:Nat->Box):FR:=match yx sz x bx with
    | some (p,ys)=>match d with
      | .one (.own b n sz')=>match bx b with
        |.dat Ae es=>⟨p/\sz'=sz/\Ae=sz/\n<=es.length,uI .i64 (fJ ys.length n:Nat),[(b,.dat sz (splice es 0 (ys.take n)))]⟩
        |_=>.bad
      |.one (.mM _)=>.ok (uI .i64 0)
      |_=>.bad
    |none=>.bad
def FH (P:Program)(n:Nat)(op:Op)(sz:Nat)(d x:mY):Bool:=
 match op with
 |.call { callee:=.builtin .copy,args:=⟨[d',x']⟩,argTypes:=⟨[t,_]⟩ }=>kD n d' d&&kD n x' x&&I9 P t sz&&decide (0<sz)
 |_=>false
theorem afE (t t' ty e:TypeId)(i:TypeInfo)(ht:P.underlying t=some (.slice e))(hi:P.info? e=some i)(kk m c:Nat)(cur:Array Value)(tg:TypeId)(hg:w.heap[kk]? = some (.cells cur tg (0,0)))
 (ad:Addr) (k c':Nat) (us:List Value) (hl:us.length=fJ k m*i.size) (hus:∀j u,us[j]? = some u->w.cell? (ad.add j)=some u) (h1:∀u∈us,u.oneCell'=true) (hfit:us.length<=cur.size) :
 (lF #[t,t'] ty #[.slice (some ⟨kk,0,none⟩) m c,.slice (some ad) k c']).run P w = .ok (goInt (fJ k m:Nat)) (w.setRow kk (splice cur.toList 0 us).toArray):=by
 have hf:=run_firstCells_some (P:=P) w i.size (fJ k m) ad k c' us hl hus;have hst:=run_storeCells_at P kk 0 tg us 0 cur w hg (by simpa using hfit) h1;rw[xm]at hst;simp[lF,run_underlying ht,sizeOf,typeInfo,hi,og,hf,hst]
theorem F5 (t t' ty e:TypeId)(i:TypeInfo)(ht:P.underlying t=some (.slice e))(hi:P.info? e=some i)(b:Option Addr)(m c:Nat)(ad:Option Addr)(k c':Nat)(h:fJ k m=0) :
 (lF #[t,t'] ty #[.slice b m c,.slice ad k c']).run P w = .ok (goInt 0) w:=by
 have hf:(iQ i.size 0 (.slice ad k c')).run P w = .ok #[] w:=by cases ad<;>simp[iQ,loadCells,loadCellsFrom,bM]
 cases b<;>simp[lF,run_underlying ht,sizeOf,typeInfo,hi,og,h,hf,storeCells]
theorem ZO {α:Type}(xs:List α):splice xs 0 []=xs:=by simp[splice]
theorem JS {b:Nat}{x:Box}(h:st.bx b=x):st.wu b x=st:=by
 apply iI.ext'
 ·rfl
 ·funext c;rw[iI.oP];split
  ·rename_i e;rw[e,h]
  ·rfl
theorem abR {o:Oper}{sz:Nat}{d x:mY}(h:GX E I ρ n st a w)(hc:FH P n o.op sz d x=true)(hd:(d.ev st.tm).g=true)(hx:(x.ev st.tm).g=true)
 (jG:(copyV sz (dY st.tm d) (dY st.tm x) st.bx).vc):su P E n o a w (st.qo (copyV sz (dY st.tm d) (dY st.tm x) st.bx).sets) (copyV sz (dY st.tm d) (dY st.tm x) st.bx).v:=by
 unfold FH at hc;split at hc
 ·rename_i d' x' t t' he;simp only[ah,aj]at hc;obtain⟨⟨⟨c1,c2⟩,ht⟩,h0⟩:=hc;have g1:=lX h c1 hd;have g2:=lX h c2 hx;obtain⟨e,i,hte,hi,rfl⟩:=Ah ht;have fin:∀{v:Value} {w':World},(lF #[t,t'] o.type #[a.eval d',a.eval x']).run P w = .ok v w'->(execOp a.eval o).run P w = .ok (.value v) w':=by
   intro v w' hr;simp only[execOp,he,resolve,invoke,builtin,cu,bM,bu,kP,bJ,jY,hr]
  unfold copyV at jG⊢;split at jG
  ·rename_i p ys hsrc;split at jG
   ·rename_i b m sz' e1;rw[e1]at g1;split at jG
    ·rename_i Ae es hb;obtain⟨hp,rfl,rfl,hmn⟩:=jG;have hsrc':=src_ok h g2 hsrc hp;have hys:∀y,y∈ys->y.length=i.size:=(by obtain⟨_,_,_,_,h4,_⟩:=hsrc';exact h4);obtain⟨xb,xc,us,hxv,IM,hus,hxn,Yh⟩:=Jz hsrc' h0;obtain⟨kk,cap,ad0,c,hr0,hsv,hnc,hcc,hcap⟩:=g1;have hok:=h.bx.ok b;rw[hb]at hok;obtain⟨kk',cap',hr',hle,hcm,hes,hcs⟩:=hok;rw[hr0]at hr';simp only[aC,aK]at hr';obtain⟨rfl,rfl⟩:=hr';by_cases hm0:fJ ys.length m=0
     ·have hr:=F5 (P:=P) (w:=w) t t' o.type e i hte hi ad0 m c xb ys.length xc hm0;rw[<- hxv,<- hsv]at hr;have htk:ys.take m=[]:=by
       apply dN;rw[jc,Bv];exact hm0
      rw[htk,ZO];refine⟨_,w,I,ρ,.inl (fin hr),?_,λ_=>by rw[hm0];exact yY _ _⟩;show GX E I ρ n (st.wu b (.dat i.size es)) a w;rw[JS hb];exact h
     ·have hmin:fJ ys.length m<=ys.length/\fJ ys.length m<=m:=⟨Nat.min_le_left _ _,Nat.min_le_right _ _⟩;have hc0:cap≠0:=(by omega);have KP:=hcap hc0;subst KP;obtain⟨ad,had⟩:∃ad,xb=some ad:=by
       cases hq:xb with
       |none=>have:=hxn hq;subst this;exact aY rfl hm0
       |some ad=>exact⟨ad,rfl⟩
      subst had;obtain⟨cs,tg,hw,hs,ho,hrd⟩:=hcs hc0;have hmul:fJ ys.length m*i.size<=ys.length*i.size:=aW _ hmin.1;have Md:fJ ys.length m*i.size<=cap*i.size:=aW _ aI;have hul:(us.take (fJ ys.length m*i.size)).length=fJ ys.length m*i.size:=(by simp;omega);have aet:0+(us.take (fJ ys.length m*i.size)).length<=cs.toList.length:=(by have hq:cs.toList.length=cs.size:=kS;omega);have hr:=afE (P:=P) (w:=w) t t' o.type e i hte hi kk m c cs tg hw ad ys.length xc (us.take (fJ ys.length m*i.size)) hul
       (λj u hu=>by
        rw[bW]at hu;split at hu
        ·exact hus ad rfl j u hu
        ·cases hu)
       (λu hu=>by obtain⟨j,hj⟩:=qV (jq hu);exact Yh.one j u hj) (by rw[hul];omega)
      rw[<- hxv,<- hsv]at hr;refine⟨_,_,I,ρ,.inl (fin hr),?_,λ_=>yY _ _⟩;have htl:(ys.take m).length=fJ ys.length m:=(by rw[jc,Bv]);refine h.wu (b:=b) (k:=kk) (by rw[hb];exact⟨cap,hr0,hc0⟩) (.dat i.size (splice es 0 (ys.take m))) (λk' hk'=>?_) (Ic _ _ _) ?_ nV
      ·obtain⟨c',hc',_⟩:=hk';rw[hr0]at hc';simp at hc';exact hc'.1.symm
      ·have hsl:(splice es 0 (ys.take m)).length=es.length:=length_splice _ _ _ (by rw[htl];omega);refine⟨kk,cap,hr0,by rw[hsl];exact hle,hcm,λy hy=>?_,λ_=>⟨_,tg,setRow_heap w kk cs _ tg _ hw,?_,?_,?_⟩⟩
       ·unfold splice at hy;simp only[xH,ja,aS]at hy;rcases hy with h1|h1
        ·exact hys y (jq h1)
        ·exact hes y (o8 h1)
       ·simp only[jP];rw[length_splice _ _ _ aet];simpa using hs
       ·intro j u hu;have hu:(splice cs.toList 0 (us.take (fJ ys.length m*i.size)))[j]? = some u:=(by simpa using hu);rw[nU _ _ _ _ aet,ai aI]at hu;split at hu
        ·rw[bW]at hu;split at hu
         ·exact Yh.one _ u hu
         ·cases hu
        ·exact ho j u (by simpa using hu)
       ·intro i' j cc D8;have key:∃u,(splice cs.toList 0 (us.take (fJ ys.length m*i.size)))[i'*i.size+j]? = some u/\Rd I u cc:=by
         have hi':=lq D8;rw[hsl]at hi';rw[nU _ _ _ _ aet,ai aI,hul];have hget:(splice es 0 (ys.take m)).getD i' []=if i'<fJ ys.length m then ys.getD i' []else es.getD i' []:=by
          simp only[bH];rw[nU _ _ _ _ (by rw[htl];omega),ai aI,htl];by_cases hh:i'<fJ ys.length m
          ·rw[aF aI,aF hh,bW,aF aI];rfl
          ·rw[ai aI,ai hh]
         rw[hget]at D8;by_cases hh:i'<fJ ys.length m
         ·rw[aF hh]at D8;obtain⟨u,hu,hr⟩:=Yh.rd i' j cc D8;have hj:j<i.size:=by
           have hyi:=lq D8;rw[<- hys (ys.getD i' []) (by simp[bH,aA hyi])];exact(aT.1 D8).1
          have:(i'+1)*i.size<=fJ ys.length m*i.size:=aW _ hh;rw[dK]at this;exact⟨u,by rw[aF aI,bW,aF aI];simpa using hu,hr⟩
         ·rw[ai hh]at D8;obtain⟨u,hu,hr⟩:=hrd i' j cc D8;have:fJ ys.length m*i.size<=i'*i.size:=aW _ aI;exact⟨u,by rw[ai aI];simpa using hu,hr⟩
        obtain⟨u,hu,hr⟩:=key;exact⟨u,by simpa using hu,hr⟩
    ·exact jG.elim
   ·rename_i sz' e1;rw[e1]at g1;have g1:a.eval d' = .slice none 0 0:=g1;have hgx:∃xb k xc,a.eval x' = .slice xb k xc:=by
     unfold yx at hsrc;split at hsrc
     ·rename_i e2;rw[e2]at g2;obtain⟨b,c,hv,_⟩:=ah1 g2;exact⟨b,_,c,hv⟩
     ·rename_i e2;rw[e2]at g2;exact⟨none,0,0,g2⟩
     ·rename_i e2;rw[e2]at g2;obtain⟨k,cap,b,c,_,hv,_⟩:=g2;exact⟨b,_,c,hv⟩
     ·rename_i e2;rw[e2]at g2;obtain⟨k,cap,b,c,_,hv,_⟩:=g2;exact⟨b,_,c,hv⟩
     ·cases hsrc
    obtain⟨xb,k,xc,hxv⟩:=hgx;have hr:=F5 (P:=P) (w:=w) t t' o.type e i hte hi none 0 0 xb k xc (Nat.min_zero k);rw[<- hxv,<- g1]at hr;exact⟨_,w,I,ρ,.inl (fin hr),h,λ_=>yY _ _⟩
   ·exact jG.elim
  ·exact jG.elim
 ·cases hc
end
end
section
section
variable {P:Program} {E:Env P} {I:IH} {ρ:Ren} {n:Nat} {st:iI} {a:Act} {w:World}
theorem Jg {v:Value}{x:AV}{b lo m sz:Nat}{c:Option Nat}(h:GV I ρ v x)(hs:CS x=some (b,lo,m,c,sz)) :
 ∃k cap ad c',ρ b=some (k,cap)/\v = .slice ad m c'/\m<=c'/\lo+c'<=cap/\(∀c0,c=some c0->c'=c0)/\(c'≠0\/(lo=0/\cap≠0)->ad=some ⟨k,lo*sz,none⟩):=by
 unfold CS at hs;split at hs
 ·simp only[aC,aK]at hs;obtain⟨rfl,rfl,rfl,rfl,rfl⟩:=hs;obtain⟨k,cap,ad,c',h1,h2,h3,h4,h5⟩:=h;refine⟨k,cap,ad,c',h1,h2,h3,aI,(λ_ e=>by cases e),λhc=>?_⟩;rw[Nat.zero_mul];refine h5 ?_;rcases hc with hc|hc
  ·omega
  ·exact hc.2
 ·simp only[aC,aK]at hs;obtain⟨rfl,rfl,rfl,rfl,rfl⟩:=hs;exact h
 ·cases hs
def YN (n:Nat)(op:Op)(l:Bool)(x y:mY):Bool:=match op with|.binOp b _ x' y' _=>(match b with|.shl=>l|.shr=> !l|_=>false)&&kD n x' x&&kD n y' y|_=>false
theorem afH {o:Oper}{l:Bool}{x y:mY}(h:GX E I ρ n st a w)(hc:YN n o.op l x y=true)(hx:(x.ev st.tm).g=true)(hy:(y.ev st.tm).g=true)
 (jG:(VM l (dY st.tm x) (dY st.tm y)).vc):tK P E n o a w st (VM l (dY st.tm x) (dY st.tm y)).v:=by
 unfold YN at hc;split at hc
 ·rename_i b t x' y' t' he;simp only[ah]at hc;obtain⟨⟨hb,h1⟩,h2⟩:=hc;have g1:=lX h h1 hx;have g2:=lX h h2 hy;unfold VM at jG⊢;split at jG
  ·rename_i k p k' q e1 e2;rw[e1]at g1;rw[e2]at g2;have v1:=vz g1;have v2:=vz g2;have hq:¬q<0:=(by simp only at jG;omega);have hg:=BM (P:=P) b t x' y' k p (.int k' q) w;cases b<;>simp only[nH]at hb
   ·subst hb;exact su.val h (v:=.int k (k.wrap (p*2^(min q.toNat k.bits)))) (by simp[execOp,he,hg,v1,v2,binOp,Op.shift,hq]) (yY _ _)
   ·cases l
    ·exact su.val h (v:=.int k (p.fdiv (2^(min q.toNat k.bits)))) (by simp[execOp,he,hg,v1,v2,binOp,Op.shift,hq]) (yY _ _)
    ·cases hb
  ·exact jG.elim
 ·cases hc
def UN (P:Program)(n:Nat)(op:Op)(x:mY):Bool:=
 match op with
 |.call { callee:=.builtin .cap,args:=⟨[x']⟩,argTypes:=⟨[t]⟩ }=>kD n x' x&&MF P t
 |_=>false
theorem abN {o:Oper}{x:mY}(h:GX E I ρ n st a w)(hc:UN P n o.op x=true)(hx:(x.ev st.tm).g=true)(jG:(Su (dY st.tm x)).vc):tK P E n o a w st (Su (dY st.tm x)).v:=by
 unfold UN at hc;split at hc
 ·rename_i x' t he;simp only[ah]at hc;have g:=lX h hc.1 hx;obtain⟨e,ht⟩:=Kw hc.2;unfold Su at jG⊢;split at jG
  ·rename_i b lo m c sz e1;rw[e1]at g;obtain⟨k,cap,ad,c',hr,hv,hm,hcc,hcx,ha⟩:=g;have:=hcx c rfl;subst this;exact su.val h (by simp[execOp,he,resolve,invoke,builtin,Builtin.cap_,run_underlying ht,hv,goInt]) (yY _ _)
  ·rename_i sz e1;rw[e1]at g;have g:a.eval x' = .slice none 0 0:=g;exact su.val h (by simp[execOp,he,resolve,invoke,builtin,Builtin.cap_,run_underlying ht,g,goInt]) (yY _ _)
  ·exact jG.elim
 ·cases hc
def NI (P:Program)(n:Nat)(op:Op)(sz:Nat)(x:mY)(lo hi:Option mY):Bool:=match op with|.slice t x' lo' hi' none=>kD n x' x&&NF n lo' lo&&NF n hi' hi&&I9 P t sz|_=>false
theorem XR {o:Oper}{sz:Nat}{x:mY}{lo hi:Option mY}(h:GX E I ρ n st a w)(hc:NI P n o.op sz x lo hi=true)(hx:(x.ev st.tm).g=true)
 (hgl:∀x,x∈lo.toList->(x.ev st.tm).g=true) (hgh:∀x,x∈hi.toList->(x.ev st.tm).g=true)
 (jG:(Ih sz (dY st.tm x) (bnd (dY st.tm) lo 0) (bnd (dY st.tm) hi)).vc):tK P E n o a w st (Ih sz (dY st.tm x) (bnd (dY st.tm) lo 0) (bnd (dY st.tm) hi)).v:=by
 unfold NI at hc;split at hc
 ·rename_i t x' lo' hi' he;simp only[ah]at hc;have g1:=lX h hc.1.1.1 hx;obtain⟨e,ti,ht,hti,hsz⟩:=Ah hc.2;unfold Ih at jG⊢;split at jG
  ·rename_i b l m c sz' hsb;split at jG
   ·rename_i p q e2 e3;obtain⟨rfl,h0,h1,h2⟩:=jG;obtain⟨k,cap,ad,c',hr,hv,hm,hcc,hcx,ha⟩:=Jg g1 hsb;have hqc:q<=c':=by
     cases c with
     |none=>simp only at h2;omega
     |some c0=>have:=hcx c0 rfl;simp only at h2;omega
    have b1:=Gq h hc.1.1.2 hgl e2;have b2:=Gq h hc.1.2 hgh e3;have hb:=BN (P:=P) (w:=w) true m c' (lo'.map a.eval) (hi'.map a.eval) (p:=p) (q:=q) (JJ b1) (JJ b2) h0 h1 hqc;have hrun:(execOp a.eval o).run P w = .ok (.value (.slice (if c'=p.toNat then ad else ad.map (·.add (p.toNat*sz'))) (q.toNat-p.toNat) (c'-p.toNat))) w:=by simp only[execOp,he,vP,zT,hv,zl];simp[run_underlying ht];rw[hb];simp[sizeOf,typeInfo,hti,hsz]
    refine su.val h hrun ⟨k,cap,_,_,hr,by congr 1;omega,aI,aI,λc0 hc0=>?_,λD8=>?_⟩
    ·cases c with
     |none=>cases hc0
     |some c1=>have:=hcx c1 rfl;simp at hc0;omega
    ·by_cases hcp:c'=p.toNat
     ·rw[aF hcp];have hl0:l=0/\p.toNat=0/\cap≠0:=(by omega);have:=ha (.inr ⟨hl0.1,hl0.2.2⟩);rw[this,hl0.1,hl0.2.1]
     ·rw[ai hcp,ha (.inl aI)];simp only[mD];rw[Addr.o9,dK]
   ·exact jG.elim
  ·exact jG.elim
 ·cases hc
theorem XP (len cap:Nat){k1 k2 k3:IntKind}{p q m:Int}(h0:0<=p)(h1:p<=q)(h2:q<=m)(h3:m<=cap) :
 (wY true len cap (some (.int k1 p)) (some (.int k2 q)) (some (.int k3 m))).run P w = .ok (p.toNat,q.toNat,m.toNat) w:=by
 simp (disch:=omega) [wY,run_sliceBound]
def YO (P:Program)(n:Nat)(op:Op)(sz:Nat)(x p q m:mY):Bool:=match op with|.slice t x' (some p') (some q') (some m')=>kD n x' x&&kD n p' p&&kD n q' q&&kD n m' m&&I9 P t sz|_=>false
theorem afI {o:Oper}{sz:Nat}{x p q m:mY}(h:GX E I ρ n st a w)(hc:YO P n o.op sz x p q m=true)(hx:(x.ev st.tm).g=true)(hp:(p.ev st.tm).g=true)(hq:(q.ev st.tm).g=true)(hm:(m.ev st.tm).g=true)
 (jG:(ZK sz (dY st.tm x) (dY st.tm p) (dY st.tm q) (dY st.tm m)).vc):tK P E n o a w st (ZK sz (dY st.tm x) (dY st.tm p) (dY st.tm q) (dY st.tm m)).v:=by
 unfold YO at hc;split at hc
 ·rename_i t x' p' q' m' he;simp only[ah]at hc;obtain⟨⟨⟨⟨c1,c2⟩,c3⟩,c4⟩,c5⟩:=hc;have g1:=lX h c1 hx;have g2:=lX h c2 hp;have g3:=lX h c3 hq;have g4:=lX h c4 hm;obtain⟨e,ti,ht,hti,hsz⟩:=Ah c5;unfold ZK at jG⊢;split at jG
  ·rename_i b l len c sz' k1 p0 k2 q0 k3 m0 hsb e2 e3 e4;obtain⟨rfl,h0,h1,h2,h3⟩:=jG;rw[e2]at g2;rw[e3]at g3;rw[e4]at g4;have v2:=vz g2;have v3:=vz g3;have v4:=vz g4;obtain⟨k,cap,ad,c',hr,hv,hlm,hcc,hcx,ha⟩:=Jg g1 hsb;have hmc:m0<=c':=by
    cases c with
    |none=>simp only at h3;omega
    |some c0=>have:=hcx c0 rfl;simp only at h3;omega
   have hb:=XP (P:=P) (w:=w) len c' (k1:=k1) (k2:=k2) (k3:=k3) h0 h1 h2 hmc;refine su.val h (v:=.slice (if m0.toNat=p0.toNat then ad else ad.map (·.add (p0.toNat*sz'))) (q0.toNat-p0.toNat) (m0.toNat-p0.toNat)) ?_ rfl;simp only[execOp,he,vP,zT,hv,mD,v2,v3,v4];simp[run_underlying ht];rw[hb];simp[sizeOf,typeInfo,hti,hsz]
  ·exact jG.elim
 ·cases hc
theorem NQ {α:Type}(xs ys:List α)(off j:Nat)(h:off<=xs.length):(splice xs off ys)[j]? = if j<off then xs[j]? else if j<off+ys.length then ys[j-off]? else xs[j]?:=by
 unfold splice;have h1:(xs.take off).length=off:=by simp;omega
 by_cases hj:j<off
 ·rw[aF hj,dB,bD aI,bW,aF hj]
 ·rw[ai hj,dB,dw aI,h1];by_cases hk:j<off+ys.length
  ·rw[aF hk,bD aI]
  ·rw[ai hk,dw aI,iL]
   congr 1;omega
theorem VH (h:GX E I ρ n st a w){b kk cap sz lo:Nat}{es ys:List (List Cell)}{us:List Value}(hb:st.bx b = .dat sz es)(hr:ρ b=some (kk,cap))(h0:0<sz)(hlo:lo<=es.length)(hfit:lo+ys.length<=cap)
 (hc0:cap≠0) (hys:∀y,y∈ys->y.length=sz) (hul:us.length=ys.length*sz) (hd:DC I us sz ys) :
 ∃cs tg,w.heap[kk]? = some (.cells cs tg (0,0))/\cs.size=cap*sz/\GX E I ρ n (st.wu b (.dat sz (splice es lo ys))) a (w.setRow kk (splice cs.toList (lo*sz) us).toArray):=by
 have hok:=h.bx.ok b;rw[hb]at hok;obtain⟨kk',cap',hr',hle,hcm,hes,hcs⟩:=hok;rw[hr]at hr';simp only[aC,aK]at hr';obtain⟨rfl,rfl⟩:=hr';obtain⟨cs,tg,hw,hs,ho,hrd⟩:=hcs hc0;refine⟨cs,tg,hw,hs,?_⟩;have hmul:(lo+ys.length)*sz<=cap*sz:=aW _ hfit;rw[dK]at hmul;have aeu:lo*sz+us.length<=cs.toList.length:=by have hq:cs.toList.length=cs.size:=kS;omega
 have hlen:(splice es lo ys).length<=cap:=by unfold splice;simp;omega
 refine h.wu (b:=b) (k:=kk) (by rw[hb];exact⟨cap,hr,hc0⟩) (.dat sz (splice es lo ys)) (λk' hk'=>?_) (Ic _ _ _) ?_ nV
 ·obtain⟨c',hc',_⟩:=hk';rw[hr]at hc';simp at hc';exact hc'.1.symm
 ·refine⟨kk,cap,hr,hlen,hcm,λy hy=>?_,λ_=>⟨_,tg,setRow_heap w kk cs _ tg _ hw,?_,?_,?_⟩⟩
  ·unfold splice at hy;simp only[aS]at hy;rcases hy with(h1|h1)|h1
   ·exact hes y (jq h1)
   ·exact hys y h1
   ·exact hes y (o8 h1)
  ·simp only[jP];rw[length_splice _ _ _ aeu];simpa using hs
  ·intro j u hu;have hu:(splice cs.toList (lo*sz) us)[j]? = some u:=(by simpa using hu);rw[nU _ _ _ _ aeu]at hu;split at hu
   ·exact ho j u (by simpa using hu)
   ·split at hu
    ·exact hd.one _ u hu
    ·exact ho j u (by simpa using hu)
  ·intro i' j cc D8;have key:∃u,(splice cs.toList (lo*sz) us)[i'*sz+j]? = some u/\Rd I u cc:=by
    have hget:(splice es lo ys).getD i' []=if i'<lo then es.getD i' []else if i'<lo+ys.length then ys.getD (i'-lo) []else es.getD i' []:=by
     simp only[bH];rw[NQ _ _ _ _ hlo];split
     ·rfl
     ·split<;>rfl
    rw[hget]at D8;rw[nU _ _ _ _ aeu];by_cases h1:i'<lo
    ·rw[aF h1]at D8;obtain⟨u,hu,hr'⟩:=hrd i' j cc D8;have hi':=lq D8;have hj:j<sz:=(by rw[<- hes (es.getD i' []) (by simp[bH,aA hi'])];exact(aT.1 D8).1);have:(i'+1)*sz<=lo*sz:=aW _ h1;rw[dK]at this;exact⟨u,by rw[aF aI];simpa using hu,hr'⟩
    ·rw[ai h1]at D8;by_cases h2:i'<lo+ys.length
     ·rw[aF h2]at D8;obtain⟨u,hu,hr'⟩:=hd.rd (i'-lo) j cc D8;have hyi:=lq D8;have hj:j<sz:=(by rw[<- hys (ys.getD (i'-lo) []) (by simp[bH,aA hyi])];exact(aT.1 D8).1);have e1:lo*sz<=i'*sz:=aW _ aI;have e2:(i'-lo)*sz=i'*sz-lo*sz:=Nat.sub_mul _ _ _;have e3:(i'-lo+1)*sz<=ys.length*sz:=aW _ aI;rw[dK]at e3;exact⟨u,by rw[ai aI,aF aI,<- hu];congr 1;omega,hr'⟩
     ·rw[ai h2]at D8;obtain⟨u,hu,hr'⟩:=hrd i' j cc D8;have e1:(lo+ys.length)*sz<=i'*sz:=aW _ aI;rw[dK]at e1;exact⟨u,by rw[ai aI,ai aI];simpa using hu,hr'⟩
   obtain⟨u,hu,hr'⟩:=key;exact⟨u,by simpa using hu,hr'⟩
theorem Jw {α:Type}(xs:List α)(k:Nat)(h:k<=xs.length):splice xs k []=xs:=by simp[splice]
theorem acO (t t' ty e:TypeId)(i:TypeInfo)(ht:P.underlying t=some (.slice e))(hi:P.info? e=some i)(kk off m c:Nat)(cur:Array Value)(tg:TypeId)(hg:w.heap[kk]? = some (.cells cur tg (0,0)))
 (ad:Addr) (k c':Nat) (us:List Value) (hl:us.length=fJ k m*i.size) (hus:∀j u,us[j]? = some u->w.cell? (ad.add j)=some u) (h1:∀u∈us,u.oneCell'=true) (hfit:off+us.length<=cur.size) :
 (lF #[t,t'] ty #[.slice (some ⟨kk,off,none⟩) m c,.slice (some ad) k c']).run P w = .ok (goInt (fJ k m:Nat)) (w.setRow kk (splice cur.toList off us).toArray):=by
 have hf:=run_firstCells_some (P:=P) w i.size (fJ k m) ad k c' us hl hus;have hst:=run_storeCells_at P kk off tg us 0 cur w hg (by simpa using hfit) h1;rw[xm]at hst;simp[lF,run_underlying ht,sizeOf,typeInfo,hi,og,hf,hst]
theorem ac5 (h:GX E I ρ n st a w){v:Value}{x:AV}{sz m:Nat}{p:Prop}{ys:List (List Cell)}(hv:GV I ρ v x)(hs:yx sz (truncS m x) st.bx=some (p,ys))(hp:p) :
 ∃xb kx xc,v = .slice xb kx xc/\fJ ys.length m=fJ kx m/\Src I w (.slice xb ys.length xc) sz ys:=by
 have other:truncS m x=x->∃xb kx xc,v = .slice xb kx xc/\fJ ys.length m=fJ kx m/\Src I w (.slice xb ys.length xc) sz ys:=by intro e;rw[e]at hs;have hS:=src_ok h hv hs hp;obtain⟨b,cap,hvv,hr⟩:=hS;exact⟨b,ys.length,cap,hvv,rfl,b,cap,rfl,hr⟩
 rcases x with c|_|_
 ·cases c
  case sub b lo n' c sz'=>obtain⟨k,cap,ad,c',h1,h2,h3,h4,h5⟩:=hv;subst h2;have hg:GV I ρ (.slice ad (min n' m) c') (.one (.sub b lo (min n' m) c sz')):=⟨k,cap,ad,c',h1,rfl,aI,h4,h5⟩;have hS:=src_ok h hg hs hp;obtain⟨b',cap',hvv,hr⟩:=hS;simp only[Value.slice.injEq]at hvv;obtain⟨rfl,e2,rfl⟩:=hvv;refine⟨ad,n',c',rfl,?_,ad,c',rfl,hr⟩;show min ys.length m=min n' m;omega
  all_goals exact other rfl
 all_goals exact other rfl
theorem acW {o:Oper}{sz:Nat}{d x:mY}(h:GX E I ρ n st a w)(hc:FH P n o.op sz d x=true)(hd:(d.ev st.tm).g=true)(hx:(x.ev st.tm).g=true)
 (jG:(Uk sz (dY st.tm d) (dY st.tm x) st.bx).vc):su P E n o a w (st.qo (Uk sz (dY st.tm d) (dY st.tm x) st.bx).sets) (Uk sz (dY st.tm d) (dY st.tm x) st.bx).v:=by
 unfold FH at hc;split at hc
 ·rename_i d' x' t t' he;simp only[ah,aj]at hc;obtain⟨⟨⟨c1,c2⟩,ht⟩,h0⟩:=hc;have g1:=lX h c1 hd;have g2:=lX h c2 hx;obtain⟨e,i,hte,hi,rfl⟩:=Ah ht;have fin:∀{v:Value} {w':World},(lF #[t,t'] o.type #[a.eval d',a.eval x']).run P w = .ok v w'->(execOp a.eval o).run P w = .ok (.value v) w':=by
   intro v w' hr;simp only[execOp,he,resolve,invoke,builtin,cu,bM,bu,kP,bJ,jY,hr]
  unfold Uk at jG⊢;split at jG
  ·rename_i b lo m c0 sz' hsb;split at jG
   ·rename_i p ys hsrc;split at jG
    ·rename_i Ae es hb;obtain⟨hp,rfl,rfl,hlo⟩:=jG;obtain⟨xb0,kx,xc0,akA,hmk,hsrc'⟩:=ac5 h g2 hsrc hp;have hys:∀y,y∈ys->y.length=i.size:=(by obtain⟨_,_,_,_,h4,_⟩:=hsrc';exact h4);obtain⟨xb,xc,us,hxv,IM,hus,hxn,Yh⟩:=Jz hsrc' h0;cases hxv;obtain⟨kk,cap,ad0,c,hr0,hsv,hnc,hcc,_,hcap⟩:=Jg g1 hsb;by_cases hm0:fJ ys.length m=0
     ·have hr:=F5 (P:=P) (w:=w) t t' o.type e i hte hi ad0 m c xb0 kx xc0 (hmk.symm.trans hm0);rw[<- akA,<- hsv]at hr;have htk:ys.take m=[]:=by
       apply dN;rw[jc,Bv];exact hm0
      rw[htk,Jw _ _ hlo];refine⟨_,w,I,ρ,.inl (fin hr),?_,λ_=>by rw[hm0];exact yY _ _⟩;show GX E I ρ n (st.wu b (.dat i.size es)) a w;rw[JS hb];exact h
     ·have hmin:fJ ys.length m<=ys.length/\fJ ys.length m<=m:=⟨Nat.min_le_left _ _,Nat.min_le_right _ _⟩;have KP:=hcap (.inl aI);subst KP;obtain⟨ad,had⟩:∃ad,xb0=some ad:=by
       cases hq:xb0 with
       |none=>have:=hxn hq;subst this;exact aY rfl hm0
       |some ad=>exact⟨ad,rfl⟩
      subst had;have htl:(ys.take m).length=fJ ys.length m:=(by rw[jc,Bv]);have hmul:fJ ys.length m*i.size<=ys.length*i.size:=aW _ hmin.1;have hul:(us.take (fJ ys.length m*i.size)).length=fJ ys.length m*i.size:=(by simp;omega);have hdt:DC I (us.take (fJ ys.length m*i.size)) i.size (ys.take m):=by
       refine⟨λj u hu=>?_,λi' j cc D8=>?_⟩
       ·rw[bW]at hu;split at hu
        ·exact Yh.one _ u hu
        ·cases hu
       ·have hi':=lq D8;rw[htl]at hi';have aiM:(ys.getD i' [])[j]? = some cc:=by
         rw[<- D8];congr 1;simp only[bH];rw[bW,aF aI]
        obtain⟨u,hu,hr⟩:=Yh.rd i' j cc aiM;have hyi:=lq aiM;have hj:j<i.size:=(by rw[<- hys (ys.getD i' []) (by simp[bH,aA hyi])];exact(aT.1 aiM).1);have:(i'+1)*i.size<=fJ ys.length m*i.size:=aW _ hi';rw[dK]at this;exact⟨u,by rw[bW,aF aI];exact hu,hr⟩
      obtain⟨cs,tg,hw,hs,hg⟩:=VH h hb hr0 h0 hlo (ys:=ys.take m) (us:=us.take (fJ ys.length m*i.size)) (by rw[htl];omega) aI (λy hy=>hys y (jq hy)) (by rw[hul,htl]) hdt;have Md:(lo+fJ ys.length m)*i.size<=cap*i.size:=aW _ aI;rw[dK]at Md;have hr:=acO (P:=P) (w:=w) t t' o.type e i hte hi kk (lo*i.size) m c cs tg hw ad kx xc0 (us.take (fJ ys.length m*i.size)) (hmk▸hul)
       (λj u hu=>by
        rw[bW]at hu;split at hu
        ·exact hus ad rfl j u hu
        ·cases hu)
       (λu hu=>by obtain⟨j,hj⟩:=qV (jq hu);exact Yh.one j u hj) (by rw[hul,hs];exact Md)
      rw[<- akA,<- hsv]at hr;exact⟨_,_,I,ρ,.inl (fin hr),hg,λ_=>by rw[<- hmk];exact yY _ _⟩
    ·exact jG.elim
   ·exact jG.elim
  ·exact jG.elim
 ·cases hc
def LP (P:Program)(n:Nat)(op:Op)(sz:Nat)(zs:List Cell)(x:mY):Bool:=
 match op with
 | .call { callee:=.builtin .clear,args:=⟨[x']⟩,argTypes:=⟨[t]⟩ }=>kD n x' x&&decide (0<sz)&&zs.length==sz&&(match P.underlying t with
   |some (.slice e)=>(match P.info? e with|some i=>i.size==sz&&(match i.zero with|some z=>z.cells.size==sz&&Ir z.cells.toList zs|none=>false)|none=>false)
   |_=>false)
 |_=>false
theorem Ot {zs:List Cell}{z:Array Value}{sz m:Nat}(hz:Ir z.toList zs=true)(hzs:z.size=sz)(hl:zs.length=sz)(h0:0<sz) :
 (bI z m).toList.length=m*sz/\DC I (bI z m).toList sz (dU m zs):=by
 have hsz:(bI z m).size=m*sz:=by simp[bI,hzs]
 refine⟨by simpa using hsz,?_⟩;have rc:=Oh (I:=I) (N:=m*sz) (m:=m) hz hl h0 (ak _) (cs:=(ry (m*sz)).map (z[· % z.size]!)) rfl;have he:(bI z m)=(ry (m*sz)).map (z[· % z.size]!):=by unfold bI;rw[hzs]
 rw[he];exact⟨λj u hu=>rc.1 j u (by rw[qw]at hu;exact hu),λi' j c hc=>by obtain⟨u,hu,hr⟩:=rc.2 i' j c hc;exact⟨u,by rw[qw];exact hu,hr⟩⟩
theorem acU {o:Oper}{sz:Nat}{zs:List Cell}{x:mY}(h:GX E I ρ n st a w)(hc:LP P n o.op sz zs x=true)(hx:(x.ev st.tm).g=true)
 (jG:(Uj sz zs (dY st.tm x) st.bx).vc):su P E n o a w (st.qo (Uj sz zs (dY st.tm x) st.bx).sets) (Uj sz zs (dY st.tm x) st.bx).v:=by
 unfold LP at hc;split at hc
 ·rename_i x' t he;simp only[ah,aj,aH]at hc;obtain⟨⟨⟨c1,h0⟩,hzl⟩,ht⟩:=hc;have g1:=lX h c1 hx;split at ht
  ·rename_i e hte;split at ht
   ·rename_i i hi;simp only[ah,aH]at ht;obtain⟨hisz,hz⟩:=ht;split at hz
    ·rename_i z hzero;simp only[ah,aH]at hz;obtain⟨hzs,hzd⟩:=hz;have fin:∀{v:Value} {w':World},(BF #[t] o.type #[a.eval x']).run P w = .ok v w'->(execOp a.eval o).run P w = .ok (.value v) w':=by
      intro v w' hr;simp only[execOp,he,resolve,invoke,builtin,cu,bM,bu,kP,bJ,jY,hr]
     unfold Uj at jG⊢;split at jG
     ·rename_i b lo m c0 sz' hsb;split at jG
      ·rename_i Ae es hb;obtain⟨rfl,rfl,hlo⟩:=jG;obtain⟨kk,cap,ad0,c,hr0,hsv,hnc,hcc,_,hcap⟩:=Jg g1 hsb;have aky:∀{ρ':Ren},GV I ρ' (.tuple #[]) (.AX []):=λ{ρ'}=>⟨#[],rfl,rfl,λj v p hv hp=>by simp at hp⟩;by_cases hm0:m=0
       ·subst hm0;rw[List.replicate_zero,Jw _ _ hlo];refine⟨.tuple #[],w,I,ρ,.inl (fin ?_),?_,λ_=>aky⟩
        ·rw[hsv];cases ad0<;>simp[BF,run_underlying hte]
        ·show GX E I ρ n (st.wu b (.dat Ae es)) a w;rw[JS hb];exact h
       ·have KP:=hcap (.inl aI);subst KP;obtain⟨aiX,ahb⟩:=Ot (I:=I) (m:=m) hzd hzs hzl h0;obtain⟨cs,tg,hw,hs,hg⟩:=VH h hb hr0 h0 hlo (ys:=dU m zs) (us:=(bI z.cells m).toList) (by simp;omega) aI (λy hy=>by rw[rq hy,hzl]) (by simpa using aiX) ahb;have Md:(lo+m)*Ae<=cap*Ae:=aW _ aI;rw[dK]at Md;have hst:=run_storeCells_at P kk (lo*Ae) tg (bI z.cells m).toList 0 cs w hw (by rw[aiX];simpa[hs]using Md) (λu hu=>by obtain⟨j,hj⟩:=qV hu;exact ahb.one j u hj);rw[xm]at hst;obtain⟨m',rfl⟩:∃m',m=m'+1:=⟨m-1,aI⟩;refine⟨.tuple #[],_,I,ρ,.inl (fin ?_),hg,λ_=>aky⟩;rw[hsv];simp[BF,run_underlying hte,zeroValue,typeInfo,hi,hzero,hst]
      ·exact jG.elim
     ·exact jG.elim
    ·cases hz
   ·cases ht
  ·cases ht
 ·cases hc
theorem SK (t ty e tg:TypeId)(i:TypeInfo)(ht:P.underlying t=some (.slice e))(hi:P.info? e=some i)
 (g off sLen sCap:Nat) (cur:Array Value) (hg:w.heap[g]? = some (.cells cur tg (0,0)))
 (ad:Addr) (m c:Nat) (news:List Value) (hl:news.length=m*i.size) (hnews:∀j u,news[j]? = some u->w.cell? (ad.add j)=some u) (h1:∀u∈news,u.oneCell'=true)
 (hroom:sLen+m<=sCap) (hfit:off+sLen*i.size+news.length<=cur.size) :
 (iK #[t,t] ty #[.slice (some ⟨g,off,none⟩) sLen sCap,.slice (some ad) m c]).run P w =
  .ok (.slice (some ⟨g,off,none⟩) (sLen+m) sCap) (w.setRow g (splice cur.toList (off+sLen*i.size) news).toArray):=by
 have hf:=run_firstCells_some (P:=P) w i.size m ad m c news hl hnews;have hst:=run_storeCells_at P g (off+sLen*i.size) tg news 0 cur w hg (by simpa using hfit) h1;rw[xm]at hst;simp[iK,run_underlying ht,sizeOf,typeInfo,hi,og,hroom,hf,Addr.o9,hst]
theorem acS {o:Oper}{l sz bytes:Nat}{s x:mY}(h:GX E I ρ n st a w)(hc:Cb P n o.op sz bytes s x=true)(hm:E.m<=l)(hs:(s.ev st.tm).g=true)(hx:(x.ev st.tm).g=true)
 (jG:(Ui l sz bytes (dY st.tm s) (dY st.tm x) st.bx).vc):su P E n o a w (st.qo (Ui l sz bytes (dY st.tm s) (dY st.tm x) st.bx).sets) (Ui l sz bytes (dY st.tm s) (dY st.tm x) st.bx).v:=by
 unfold Cb at hc;split at hc
 ·rename_i s' x' t t' he;simp only[ah,aH,aj]at hc;obtain⟨⟨⟨⟨c1,c2⟩,rfl⟩,h0⟩,ht⟩:=hc;have g1:=lX h c1 hs;have g2:=lX h c2 hx;split at ht
  ·rename_i e hte;split at ht
   ·rename_i i hi;simp only[ah,aH]at ht;obtain⟨⟨rfl,rfl⟩,hz⟩:=ht;split at hz
    ·rename_i z hzero;simp only[ah,aH]at hz;obtain⟨hzs,hz1⟩:=hz;have fin:∀{v:Value} {w':World},(iK #[t,t] o.type #[a.eval s',a.eval x']).run P w = .ok v w'->(execOp a.eval o).run P w = .ok (.value v) w':=by
      intro v w' hr;simp only[execOp,he,resolve,invoke,builtin,cu,bM,bu,kP,bJ,jY,hr]
     unfold Ui at jG⊢;split at jG
     ·rename_i p ys b lo m c sz' hsrc e1;split at jG
      ·rename_i Ae es hb;obtain⟨kk,cap,ad0,c',hr0,hsv,hnc,hcc,hcx,hcap⟩:=Jg (c:=some c) (b:=b) (lo:=lo) (m:=m) (sz:=sz') g1 (by rw[e1];rfl);have:=hcx c rfl;subst this;split at jG
       ·rename_i hroom;rw[aF hroom];obtain⟨hp,rfl,rfl,hlo⟩:=jG;have hsrc':=src_ok h g2 hsrc hp;have hys:∀y,y∈ys->y.length=i.size:=(by obtain⟨_,_,_,_,h4,_⟩:=hsrc';exact h4);obtain⟨xb,xc,us,hxv,IM,hus,hxn,Yh⟩:=Jz hsrc' h0;by_cases hm0:ys.length=0
        ·have hy0:ys=[]:=dN hm0;subst hy0;rw[Jw _ _ hlo];have hr:=Ee (P:=P) (w:=w) t o.type e i hte hi ad0 m c' hnc xb xc;rw[fB]at hxv;rw[<- hxv,<- hsv]at hr;refine⟨_,w,I,ρ,.inl (fin hr),?_,λ_=>⟨kk,cap,ad0,c',hr0,hsv,by simpa using hnc,hcc,(λc0 hc0=>by cases hc0;rfl),hcap⟩⟩;show GX E I ρ n (st.wu b (.dat i.size es)) a w;rw[JS hb];exact h
        ·have KP:=hcap (.inl aI);subst KP;obtain⟨ad,had⟩:∃ad,xb=some ad:=by
          cases hq:xb with
          |none=>exact aY (by rw[hxn hq];rfl) hm0
          |some ad=>exact⟨ad,rfl⟩
         subst had;obtain⟨cs,tg,hw,hss,hg⟩:=VH h hb hr0 h0 hlo (ys:=ys) (us:=us) aI aI hys IM Yh;have Md:(lo+m+ys.length)*i.size<=cap*i.size:=aW _ aI;simp only[dK]at Md;have hr:=SK (P:=P) (w:=w) t o.type e tg i hte hi kk (lo*i.size) m c' cs hw ad ys.length xc us IM (hus ad rfl) (λu hu=>by obtain⟨j,hj⟩:=qV hu;exact Yh.one j u hj) hroom (by rw[IM,hss];exact Md);rw[<- hxv,<- hsv,<- dK]at hr;exact⟨_,_,I,ρ,.inl (fin hr),hg,λ_=>⟨kk,cap,_,c',hr0,rfl,hroom,hcc,(λc0 hc0=>by cases hc0;rfl),λ_=>rfl⟩⟩
       ·rename_i hroom;rw[ai hroom];obtain⟨hp,rfl,rfl,hlo,hl,hbig⟩:=jG;have hsrc':=src_ok h g2 hsrc hp;have hys:∀y,y∈ys->y.length=i.size:=(by obtain⟨_,_,_,_,h4,_⟩:=hsrc';exact h4);obtain⟨xb,xc,us,hxv,IM,hus,hxn,Yh⟩:=Jz hsrc' h0;have hok:=h.bx.ok b;rw[hb]at hok;obtain⟨kk',cap',hr',hle,hcm,hes,hcs⟩:=hok;rw[hr0]at hr';simp only[aC,aK]at hr';obtain⟨rfl,rfl⟩:=hr';have hmul:(m+ys.length)*(i.bytes+i.size+1)=(m+ys.length)*i.bytes+(m+ys.length)*i.size+(m+ys.length):=(by rw[xx,xx,sJ]);have hbytes:(m+ys.length)*i.bytes<=140737488355328:=(by omega);have h63:m+ys.length<=maxLen:=(by simp only[maxLen];omega);have hm0:ys.length≠0:=(by omega);obtain⟨ad,had⟩:∃ad,xb=some ad:=by
         cases hq:xb with
         |none=>exact aY (by rw[hxn hq];rfl) hm0
         |some ad=>exact⟨ad,rfl⟩
        subst had;have hzc:∀(q:Nat) (j:Nat) (u:Value),(bI z.cells q).toList[j]? = some u->u.oneCell'=true:=by
         intro q j u hu;simp only[bI,qw,nG]at hu;by_cases hj:j<q*z.cells.size
         ·rw[nK,aF hj]at hu;simp only[mD,aC]at hu;have hlt:j%z.cells.size<z.cells.size:=Dl _ aI;rw[getElem!_pos z.cells _ hlt]at hu;rw[<- hu];exact aN.1 hz1 _ nV
         ·rw[nK,ai hj]at hu;cases hu
        have hl':=Gm hl;have hsub:∀y,y∈(es.drop lo).take m->y.length=i.size:=λy hy=>hes y (o8 (jq hy));have hsl:((es.drop lo).take m).length=m:=(by simp;omega);have fresh:∀(old:Nat) (olds:List Value),old<m+ys.length->olds.length=m*i.size->DC I olds i.size ((es.drop lo).take m) ->
         GX E I (ρ.set l w.heap.size (grownCap w (m+ys.length) old e)) n (st.wu l (.dat i.size ((es.drop lo).take m++ys))) a
          (w.drew.alloc (.cells (olds.toArray++us.toArray++bI z.cells (grownCap w (m+ys.length) old e-(m+ys.length))) e)):=by
         intro old olds ho hol hdo;have hge:=grownCap_ge w (m+ys.length) old e;have hcm:grownCap w (m+ys.length) old e<=maxLen:=grownCap_le_maxLen w _ old e h63;have hdc:=((hdo.append Yh (by rw[hsl];exact hol)).more (hzc (grownCap w (m+ys.length) old e-(m+ys.length)))).abd (cs:=olds.toArray++us.toArray++bI z.cells (grownCap w (m+ys.length) old e-(m+ys.length))) nV;refine JO h.drew hl' hm _ e _ i.size ((es.drop lo).take m++ys) ?_ (by rw[ay,hsl];exact hge) hcm (λx hx=>?_) hdc.1 hdc.2
         ·simp only[uZ,jP,size_zeroCells,hzs,hol,IM,<- dK]
          congr 1
          omega
         ·rcases aS.1 hx with h1|h1
          ·exact hsub x h1
          ·exact hys x h1
        have hfit:=growslice_fits (need:=m+ys.length) (old:=c') (bytes:=i.bytes) aI hbytes;by_cases hc0:c'=0
        ·
         have aiT:m=0:=(by omega);subst aiT;subst hc0;have hf:=fresh 0 [] aI nV ⟨nV,nV⟩;simp only[fE,pX]at hf h63 hbytes hfit;cases ad0 with
         | none=>have hr:=run_append_nil (P:=P) w t o.type e i z hte hi hzero ad ys.length xc us IM (hus ad rfl) aI (by simp only[maxLen]at h63;omega) aI;rw[<- hxv,<- hsv]at hr;refine⟨_,_,I,_,.inl (fin hr),hf,λ_=>⟨w.heap.size,_,_,_,Ren.mO _ _ _ _,by rw[fE],by rw[fE];exact grownCap_ge w ys.length 0 e,ak _,λ_=>rfl⟩⟩
         | some q=>have hr:=run_append_grow (P:=P) w t o.type e i z hte hi hzero q 0 0 [] nV nV ad ys.length xc us IM (hus ad rfl) aI (by simp only[maxLen]at h63;omega) (by simpa using hfit);rw[<- hxv,<- hsv]at hr;simp only[fE,pX]at hr;refine⟨_,_,I,_,.inl (fin hr),hf,λ_=>⟨w.heap.size,_,_,_,Ren.mO _ _ _ _,by rw[fE],by rw[fE];exact grownCap_ge w ys.length 0 e,ak _,λ_=>rfl⟩⟩
        ·have KP:=hcap (.inl hc0);subst KP;have hcap0:cap≠0:=(by omega);obtain⟨cs,tg,hw,hss,ho,hrd⟩:=hcs hcap0;have hmn:(lo+m)*i.size<=cs.size:=(by rw[hss];exact aW _ aI);rw[dK]at hmn;have W9:((cs.toList.drop (lo*i.size)).take (m*i.size)).length=m*i.size:=(by simp;omega);have holds:∀(j:Nat) (u:Value),((cs.toList.drop (lo*i.size)).take (m*i.size))[j]? = some u->w.cell? ((⟨kk,lo*i.size,none⟩:Addr).add j)=some u:=λj u hu=>by
          rw[bW]at hu;split at hu
          ·rw[Addr.o9];rw[iL]at hu;simp at hu;simp[iy,hw,hu]
          ·cases hu
         have hd1:DC I ((cs.toList.drop (lo*i.size)).take (m*i.size)) i.size ((es.drop lo).take m):=by
          refine⟨λj u hu=>?_,λi' j c2 hc2=>?_⟩
          ·rw[bW]at hu;split at hu
           ·rw[iL]at hu;exact ho _ u (by simpa using hu)
           ·cases hu
          ·have hi':=lq hc2;rw[hsl]at hi';have hc3:(es.getD (lo+i') [])[j]? = some c2:=by
            rw[<- hc2];congr 1;simp only[bH];rw[bW,aF hi',iL]
           obtain⟨u,hu,hr⟩:=hrd (lo+i') j c2 hc3;have hi2:=lq hc3;have hj:j<i.size:=(by rw[<- hes (es.getD (lo+i') []) (by simp[bH,aA hi2])];exact(aT.1 hc3).1);have:(i'+1)*i.size<=m*i.size:=aW _ hi';rw[dK]at this;refine⟨u,?_,hr⟩;rw[bW,aF aI,iL];rw[dK]at hu;rw[<- oW];simpa using hu
         have hr:=run_append_grow (P:=P) w t o.type e i z hte hi hzero ⟨kk,lo*i.size,none⟩ m c' _ W9 holds ad ys.length xc us IM (hus ad rfl) aI (by simp only[maxLen]at h63;omega) hfit;rw[<- hxv,<- hsv]at hr;have hf:=fresh c' _ aI W9 hd1;exact⟨_,_,I,_,.inl (fin hr),hf,λ_=>⟨w.heap.size,_,_,_,Ren.mO _ _ _ _,rfl,grownCap_ge w _ c' e,ak _,λ_=>rfl⟩⟩
      ·exact jG.elim
     ·exact jG.elim
    ·cases hz
   ·cases ht
  ·cases ht
 ·cases hc
end
end
section
section
variable {P:Program} {E:Env P} {I:IH} {ρ:Ren} {n:Nat} {st:iI} {a:Act} {w:World}
theorem acn : sD.lookup "internal/bytealg.abigen_runtime_cmpstring" = none:=oK
theorem aco : uz.lookup "internal/bytealg.abigen_runtime_cmpstring" = none:=oK
theorem acp : vH.lookup "internal/bytealg.abigen_runtime_cmpstring" = none:=oK
theorem acr : BG.lookup "internal/bytealg.abigen_runtime_cmpstring" = some Extern.BytealgCompare.compare:=oK
theorem aeT : sD.lookup "" = none:=oK
theorem aeU : sD.lookup "slices.overlaps" = none:=oK
theorem aeV : uz.lookup "slices.overlaps" = none:=oK
theorem aeW : vH.lookup "slices.overlaps" = some uJ:=oK
def UQ (P:Program)(n:Nat)(op:Op)(x y:mY):Bool:=
 match op with
 |.call { callee:=.value (.func f),args:=⟨[x',y']⟩,argTypes:=_ }=>kD n x' x&&kD n y' y&&(match P.funcs[f]? with|some fn=>fn.name == "internal/bytealg.abigen_runtime_cmpstring" && fn.origin == "" && fn.body.isNone|none=>false)
 |_=>false
theorem abQ {o:Oper}{x y:mY}(h:GX E I ρ n st a w)(hc:UQ P n o.op x y=true)(hx:(x.ev st.tm).g=true)(hy:(y.ev st.tm).g=true)
 (jG:(LQ (dY st.tm x) (dY st.tm y)).vc):tK P E n o a w st (LQ (dY st.tm x) (dY st.tm y)).v:=by
 unfold UQ at hc;split at hc
 ·rename_i f x' y' ts he;simp only[ah]at hc;obtain⟨⟨c1,c2⟩,hf⟩:=hc;have g1:=lX h c1 hx;have g2:=lX h c2 hy;split at hf
  ·rename_i fn hfn;simp only[ah,aH]at hf;obtain⟨⟨hname,TG⟩,hbody⟩:=hf;have hn:rM fn=none:=by
    simp only[rM,hname,TG,acn,aeT];rfl
   have hd:uK fn=some Extern.BytealgCompare.compare:=by simp only[uK,hname,aco,acp,acr];rfl
   unfold LQ at jG⊢;split at jG
   ·rename_i s t e1 e2;rw[e1]at g1;rw[e2]at g2;obtain⟨v1,_⟩:=FU g1;obtain⟨v2,_⟩:=FU g2;have hr:=run_callFunc_extern (P:=P) hfn (by rw[hname];rfl) hbody hn hd #[.string ⟨⟨s⟩⟩,.string ⟨⟨t⟩⟩] w;rw[Lib.run_compareString]at hr;refine su.val h (v:=.int .i64 (Lib.compareBytes s t)) ?_ (yY _ _);have hx2:a.eval (.func f) = .func (.func f) #[] #[]:=rfl;simp only[execOp,he,resolve,xq,invoke,cu,bM,bu,hx2,kP,bJ,jY,v1,v2];simpa using hr
   ·exact jG.elim
  ·cases hf
 ·cases hc
def Qi (P:Program)(n:Nat)(op:Op)(ng:Bool)(x:mY):Bool:=
 match op with
 |.binOp b t x' (.const .nilIface) _=>(match b with|.eql=> !ng|.neq=>ng|_=>false)&&(match P.underlying t with|some (.interface _)=>true|_=>false)&&kD n x' x
 |_=>false
theorem Zh {o:Oper}{ng:Bool}{x:mY}(h:GX E I ρ n st a w)(hc:Qi P n o.op ng x=true)(hx:(x.ev st.tm).g=true)
 (jG:(Hu ng (dY st.tm x)).vc):tK P E n o a w st (Hu ng (dY st.tm x)).v:=by
 unfold Qi at hc;split at hc
 ·rename_i b t x' t' he;simp only[ah]at hc;obtain⟨⟨hb,ht⟩,h1⟩:=hc;have g1:=lX h h1 hx;unfold Hu at jG⊢;split at jG
  ·rename_i g e1;rw[e1]at g1;have g1:if g=true then ∃t p,a.eval x' = .iface t p else a.eval x' = .nilIface:=g1
   split at ht
   ·rename_i ms hu;have ev:a.eval (.const .nilIface) = .nilIface:=rfl;have hq:(eqGuard b t x' (.const .nilIface) (a.eval x') .nilIface).run P w = .ok () w:=by
     cases g with
     | true=>obtain⟨t1,p1,g1⟩:=g1;rw[g1];cases b<;>rfl
     | false=>have g1:a.eval x' = .nilIface:=g1;rw[g1];cases b<;>cases x'<;>first|rfl|simp[eqGuard]
    have hd:∀d,(xW (d+1) t (a.eval x') .nilIface).run P w = .ok (!g) w:=λd=>by
     cases g with
     | true=>obtain⟨t1,p1,g1⟩:=g1;rw[g1];simp[xW,run_underlying hu]
     | false=>have g1:a.eval x' = .nilIface:=g1;rw[g1];simp[xW,run_underlying hu]
    have he':(Op.equal t (a.eval x') .nilIface).run P w = .ok (!g) w:=hd 9999;have akl:∀c,(c = .eql\/c = .neq)->(binOp c t (a.eval x') .nilIface).run P w = .ok (.bool (if c = .neq then g else !g)) w:=λc hc=>by
     cases g with
     | true=>obtain⟨t1,p1,g1⟩:=g1;rw[g1]at he'⊢;rcases hc with rfl|rfl<;>simp[binOp,he']
     | false=>have g1:a.eval x' = .nilIface:=g1;rw[g1]at he'⊢;rcases hc with rfl|rfl<;>simp[binOp,he']
    simp only[FR.ok];cases b<;>simp at hb
    ·subst hb;refine su.val h ?_ (FM _);simp[execOp,he,ev,hq,akl .eql (.inl rfl)]
    ·subst hb;refine su.val h ?_ (FM _);simp[execOp,he,ev,hq,akl .neq (.inr rfl)]
   ·cases ht
  ·exact jG.elim
 ·cases hc
theorem acs : sD.lookup "internal/bytealg.IndexByteString" = none:=oK
theorem acu : uz.lookup "internal/bytealg.IndexByteString" = none:=oK
theorem acv : vH.lookup "internal/bytealg.IndexByteString" = none:=oK
theorem acw : BG.lookup "internal/bytealg.IndexByteString" = some Extern.BytealgIndexByte.indexByte:=oK
def UT (P:Program)(n:Nat)(op:Op)(x y:mY):Bool:=
 match op with
 |.call { callee:=.value (.func f),args:=⟨[x',y']⟩,argTypes:=_ }=>kD n x' x&&kD n y' y&&(match P.funcs[f]? with|some fn=>fn.name == "internal/bytealg.IndexByteString" && fn.origin == "" && fn.body.isNone|none=>false)
 |_=>false
theorem ab6 {o:Oper}{x y:mY}(h:GX E I ρ n st a w)(hc:UT P n o.op x y=true)(hx:(x.ev st.tm).g=true)(hy:(y.ev st.tm).g=true)
 (jG:(MB (dY st.tm x) (dY st.tm y)).vc):tK P E n o a w st (MB (dY st.tm x) (dY st.tm y)).v:=by
 unfold UT at hc;split at hc
 ·rename_i f x' y' ts he;simp only[ah]at hc;obtain⟨⟨c1,c2⟩,hf⟩:=hc;have g1:=lX h c1 hx;have g2:=lX h c2 hy;split at hf
  ·rename_i fn hfn;simp only[ah,aH]at hf;obtain⟨⟨hname,TG⟩,hbody⟩:=hf;have hn:rM fn=none:=by
    simp only[rM,hname,TG,acs,aeT];rfl
   have hd:uK fn=some Extern.BytealgIndexByte.indexByte:=by simp only[uK,hname,acu,acv,acw];rfl
   unfold MB at jG⊢;split at jG
   ·rename_i s k c e1 e2;rw[e1]at g1;rw[e2]at g2;have hk:k = .u8:=jG;subst hk;obtain⟨v1,_⟩:=FU g1;have v2:=vz g2;have hr:=run_callFunc_extern (P:=P) hfn (by rw[hname];rfl) hbody hn hd #[.string ⟨⟨s⟩⟩,.int .u8 c] w;rw[Lib.run_indexByteString]at hr;refine su.val h (v:=.int .i64 (eG s c.toNat.toUInt8)) ?_ (yY _ _);have hx2:a.eval (.func f) = .func (.func f) #[] #[]:=rfl;simp only[execOp,he,resolve,xq,invoke,cu,bM,bu,hx2,kP,bJ,jY,v1,v2];simpa using hr
   ·exact jG.elim
  ·cases hf
 ·cases hc
def YM (P:Program)(n:Nat)(op:Op)(x y:mY):Bool:=
 match op with
 | .call { callee:=.value (.func f),args:=⟨[x',y']⟩,argTypes:=_ }=>kD n x' x&&kD n y' y&&(match P.funcs[f]? with
   | some fn=>fn.origin == "slices.overlaps" && fn.body.isNone && !(fn.name == "runtime.NumGoroutine")&&(sD.lookup fn.name).isNone&&(uz.lookup fn.name).isNone&&(vH.lookup fn.name).isNone&&(BG.lookup fn.name).isNone &&
     (match fn.params,fn.resultTypes with
      |⟨[t,t']⟩,⟨[_]⟩=>t==t'&&(match P.underlying t with|some (.slice e)=>(match P.info? e with|some _=>true|none=>false)|_=>false)
      |_,_=>false)
   |none=>false)
 |_=>false
theorem ad5 (h:GX E I ρ n st a w){b kk cap sz:Nat}{es:List (List Cell)}(hb:st.bx b = .dat sz es)(hr:ρ b=some (kk,cap))(hc0:cap≠0):∃cs tg,w.heap[kk]? = some (.cells cs tg (0,0))/\cs.size=cap*sz:=by have hok:=h.bx.ok b;rw[hb]at hok;obtain⟨kk',cap',hr',hle,hcm,hes,hcs⟩:=hok;rw[hr]at hr';simp only[aC,aK]at hr';obtain⟨rfl,rfl⟩:=hr';obtain⟨cs,tg,hw,hs,_⟩:=hcs hc0;exact⟨cs,tg,hw,hs⟩
theorem afm {o:Oper}{x y:mY}(h:GX E I ρ n st a w)(hc:YM P n o.op x y=true)(hx:(x.ev st.tm).g=true)(hy:(y.ev st.tm).g=true)
 (jG:(Vy (dY st.tm x) (dY st.tm y) st.bx).vc):tK P E n o a w st (Vy (dY st.tm x) (dY st.tm y) st.bx).v:=by
 unfold YM at hc;split at hc
 ·rename_i f x' y' ts he;simp only[ah]at hc;obtain⟨⟨c1,c2⟩,hf⟩:=hc;have g1:=lX h c1 hx;have g2:=lX h c2 hy;split at hf
  ·rename_i fn hfn;simp only[ah,aH,jM,qW]at hf;obtain⟨⟨⟨⟨⟨⟨⟨TG,hbody⟩,hname⟩,n1⟩,n2⟩,n3⟩,n4⟩,hp⟩:=hf;split at hp
   ·rename_i t t' tr hpar hres;simp only[ah,aH]at hp;obtain⟨rfl,ht⟩:=hp;split at ht
    ·rename_i e hte;split at ht
     ·rename_i i hi;have hn:rM fn=none:=by
       simp only[rM,TG,n1,aeU];rfl
      have hd:uK fn=some (uJ #[t,t] #[tr]):=by simp only[uK,TG,n2,n3,n4,aeV,aeW,hpar,hres];rfl
      unfold Vy at jG⊢;split at jG
      ·rename_i b lo m c sz b' lo' m' c' sz' e1 e2;obtain⟨kk,cap,ad,cc,hr,hv,hm,hcc,_,ha⟩:=Jg g1 e1;obtain⟨kk',cap',ad',cc',hr',hv',hm',D8,_,ha'⟩:=Jg g2 e2;split at jG
       ·rename_i s1 es s2 es' hb hb';obtain⟨hbb,hs2,hm0,an0⟩:b≠b'/\s2≠0/\0<m/\0<m':=jG;have hov:(uJ #[t,t] #[tr] #[.slice ad m cc,.slice ad' m' cc']).run P w = .ok (.bool false) w:=by
         obtain⟨cs,tg,hw,hs⟩:=ad5 h hb hr aI;obtain⟨cs',tg',hw',hs'⟩:=ad5 h hb' hr' aI;have e1:=ha (.inl aI);have e2:=ha' (.inl aI);subst e1 e2;have hne:kk≠kk':=λhk=>hbb (by subst hk;exact h.bx.inj b b' kk (by rw[hb];exact⟨cap,hr,aI⟩) (by rw[hb'];exact⟨cap',hr',aI⟩))
         have h0:cs'.size≠0:=(by rw[hs'];exact Nat.mul_ne_zero aI hs2);exact Lib.run_overlaps_apart w t tr e hte i.size (λw=>by simp[sizeOf,typeInfo,hi]) ⟨kk,lo*sz,none⟩ ⟨kk',lo'*sz',none⟩ m cc m' cc' hne tg tg' cs.size cs'.size
          (by simp[zi,hw]) (by simp[zi,hw']) h0 (by simp[World.frozen?,hw]) (by simp[World.frozen?,hw])
        have hr:=run_callFunc_extern (P:=P) hfn hname (by simpa using hbody) hn hd #[.slice ad m cc,.slice ad' m' cc'] w;rw[hov]at hr;refine su.val h (v:=.bool false) ?_ (FM _);have hx2:a.eval (.func f) = .func (.func f) #[] #[]:=rfl;simp only[execOp,he,resolve,xq,invoke,cu,bM,bu,hx2,kP,bJ,jY,hv,hv'];simpa using hr
       ·exact jG.elim
      ·exact jG.elim
     ·cases ht
    ·cases ht
   ·cases hp
  ·cases hf
 ·cases hc
end
end
section
section
variable {P:Program} {E:Env P} {I:IH} {ρ:Ren} {n:Nat} {st:iI} {a:Act} {w:World}
def LH (P:Program)(n:Nat)(op:Op)(sz bytes:Nat)(zs:List Cell)(s x:mY):Bool:=
 match op with
 | .call { callee:=.builtin .append,args:=⟨[s',x']⟩,argTypes:=⟨[t,t']⟩ }=>kD n s' s&&kD n x' x&&decide (0<sz)&&zs.length==sz&&(match P.underlying t' with|some (.int _)=>true|_=>false)&&(match P.underlying t with
   |some (.slice e)=>(match P.info? e with|some i=>i.size==sz&&i.bytes==bytes&&(match i.zero with|some z=>z.cells.size==sz&&Ir z.cells.toList zs&&z.cells.toList.all (·.oneCell')|none=>false)|none=>false)
   |_=>false)
 |_=>false
theorem Rn (t u ty e:TypeId)(ku:IntKind)(i:TypeInfo)(z:Value)(ht:P.underlying t=some (.slice e))(hu:P.underlying u=some (.int ku))(hi:P.info? e=some i)(hz:i.zero=some z)
 (b:Option Addr) (sLen sCap:Nat) (olds:List Value) (hlo:olds.length=sLen*i.size) (hb0:b=none->sLen=0) (holds:∀ad,b=some ad->∀j v,olds[j]? = some v->w.cell? (ad.add j)=some v)
 (q:Nat) (hq:(q:Int)*i.bytes<=140737488355328) (h62:q<2^60) (hqp:0<q) (hs0:0<i.size)
 (hg:sCap<sLen+q) (h63:((sLen+q:Nat):Int)<=9223372036854775807) (hfit:Builtin.nextslicecap (sLen+q) sCap*i.bytes<=281474976710656) :
 (iK #[t,u] ty #[.slice b sLen sCap,.int .i64 q]).run P w =
  .ok (.slice (some ⟨w.heap.size,0,none⟩) (sLen+q) (grownCap w (sLen+q) sCap e))
   (w.drew.alloc (.cells (olds.toArray++bI z.cells q++bI z.cells (grownCap w (sLen+q) sCap e-(sLen+q))) e)):=by
 have hn:¬(sLen+q<=sCap):=by omega
 have h63':¬(9223372036854775807<((sLen:Int)+(q:Int))):=by omega
 have h48':¬(281474976710656<Builtin.nextslicecap (sLen+q) sCap*i.bytes):=by omega
 have hw:zU.wrap (q:Int)=q:=by simp only[Go.IntKind.wrap,Go.IntKind.bits,Go.IntKind.signed];simp;omega
 have hq0:¬((q:Int)<0):=by omega
 have hqb:¬(281474976710656<(q:Int)*(i.bytes:Int)):=by omega
 have hfo:(iQ i.size sLen (.slice b sLen sCap)).run P w.drew = .ok olds.toArray w.drew:=by
  cases b with
  | none=>have h0:=hb0 rfl;subst h0;have:olds=[]:=dN (by simpa using hlo);subst this;simp[iQ]
  |some ad=>exact run_firstCells_some (P:=P) w.drew i.size sLen ad sLen sCap olds hlo (by simpa using holds ad rfl)
 have hq1:¬(q*i.size=0):=by intro h0;rcases Nat.mul_eq_zero.1 h0 with h|h<;>omega
 simp[iK,run_underlying ht,run_underlying hu,sizeOf,typeInfo,zeroValue,hi,hz,asInt,asIntOf,hw,hq0,hqb,hq1,hn,h63',h48',Question.forced,hfo,newRow,grownCap]
theorem ad6 (h:GX E I ρ n st a w){b kk cap sz lo m:Nat}{es:List (List Cell)}(hb:st.bx b = .dat sz es)(hr0:ρ b=some (kk,cap))(hc:lo+m<=cap)(hc0:cap≠0)(hl:lo+m<=es.length) :
 ∃ olds:List Value,olds.length=m*sz/\(∀(j:Nat) (u:Value),olds[j]? = some u->w.cell? ((⟨kk,lo*sz,none⟩:Addr).add j)=some u)/\DC I olds sz ((es.drop lo).take m) /\
   (∀y,y∈(es.drop lo).take m->y.length=sz)/\((es.drop lo).take m).length=m:=by
 have hok:=h.bx.ok b;rw[hb]at hok;obtain⟨kk',cap',hr',hle,hcm,hes,hcs⟩:=hok;rw[hr0]at hr';simp only[aC,aK]at hr';obtain⟨rfl,rfl⟩:=hr';obtain⟨cs,tg,hw,hss,ho,hrd⟩:=hcs hc0;have hmn:(lo+m)*sz<=cs.size:=by rw[hss];exact aW _ hc
 rw[dK]at hmn;have hsl:((es.drop lo).take m).length=m:=by simp;omega
 refine⟨(cs.toList.drop (lo*sz)).take (m*sz),by simp;omega,λj u hu=>?_,⟨λj u hu=>?_,λi' j c2 hc2=>?_⟩,λy hy=>hes y (o8 (jq hy)),hsl⟩
 ·rw[bW]at hu;split at hu
  ·rw[Addr.o9];rw[iL]at hu;simp at hu;simp[iy,hw,hu]
  ·cases hu
 ·rw[bW]at hu;split at hu
  ·rw[iL]at hu;exact ho _ u (by simpa using hu)
  ·cases hu
 ·have hi':=lq hc2;rw[hsl]at hi';have hc3:(es.getD (lo+i') [])[j]? = some c2:=by
   rw[<- hc2];congr 1;simp only[bH];rw[bW,aF hi',iL]
  obtain⟨u,hu,hr⟩:=hrd (lo+i') j c2 hc3;have hi2:=lq hc3;have hj:j<sz:=by rw[<- hes (es.getD (lo+i') []) (by simp[bH,aA hi2])];exact(aT.1 hc3).1
  have:(i'+1)*sz<=m*sz:=aW _ hi';rw[dK]at this;refine⟨u,?_,hr⟩;rw[bW,aF aI,iL];rw[dK]at hu;rw[<- oW];simpa using hu
theorem abD {o:Oper}{l sz bytes:Nat}{zs:List Cell}{s x:mY}(h:GX E I ρ n st a w)(hc:LH P n o.op sz bytes zs s x=true)(hm:E.m<=l)(hs:(s.ev st.tm).g=true)(hx:(x.ev st.tm).g=true)
 (jG:(Tf l sz bytes zs (dY st.tm s) (dY st.tm x) st.bx).vc):su P E n o a w (st.qo (Tf l sz bytes zs (dY st.tm s) (dY st.tm x) st.bx).sets) (Tf l sz bytes zs (dY st.tm s) (dY st.tm x) st.bx).v:=by
 unfold LH at hc;split at hc
 ·rename_i s' x' t t' he;simp only[ah,aH,aj]at hc;obtain⟨⟨⟨⟨⟨c1,c2⟩,h0⟩,hzl⟩,hti⟩,ht⟩:=hc;have g1:=lX h c1 hs;have g2:=lX h c2 hx;split at hti
  ·rename_i ku htu;split at ht
   ·rename_i e hte;split at ht
    ·rename_i i hi;simp only[ah,aH]at ht;obtain⟨⟨rfl,rfl⟩,hz⟩:=ht;split at hz
     ·rename_i z hzero;simp only[ah,aH]at hz;obtain⟨⟨hzs,hzd⟩,hz1⟩:=hz;have fin:∀{v:Value} {w':World},(iK #[t,t'] o.type #[a.eval s',a.eval x']).run P w = .ok v w'->(execOp a.eval o).run P w = .ok (.value v) w':=by
       intro v w' hr;simp only[execOp,he,resolve,invoke,builtin,cu,bM,bu,kP,bJ,jY,hr]
      have hzc:∀(q:Nat) (j:Nat) (u:Value),(bI z.cells q).toList[j]? = some u->u.oneCell'=true:=by intro q j u hu;exact(Ot (I:=I) (m:=q) hzd hzs hzl h0).2.one j u hu
      have fresh:∀(old m q:Nat) (olds:List Value) (es':List (List Cell)),st.bx l = .absent->old<m+q->olds.length=m*i.size->es'.length=m->(∀y,y∈es'->y.length=i.size)->DC I olds i.size es'->m+q<=maxLen ->
       GX E I (ρ.set l w.heap.size (grownCap w (m+q) old e)) n (st.wu l (.dat i.size (es'++dU q zs))) a
        (w.drew.alloc (.cells (olds.toArray++bI z.cells q++bI z.cells (grownCap w (m+q) old e-(m+q))) e)):=by
       intro old m q olds es' hl' ho hol hel hes' hdo h63;have hge:=grownCap_ge w (m+q) old e;have hcm:grownCap w (m+q) old e<=maxLen:=grownCap_le_maxLen w _ old e h63;obtain⟨aiX,ahb⟩:=Ot (I:=I) (m:=q) hzd hzs hzl h0;have hdc:=((hdo.append ahb (by rw[hel];exact hol)).more (hzc (grownCap w (m+q) old e-(m+q)))).abd (cs:=olds.toArray++bI z.cells q++bI z.cells (grownCap w (m+q) old e-(m+q))) nV;refine JO h.drew hl' hm _ e _ i.size (es'++dU q zs) ?_ (by rw[ay,hel,Ei];exact hge) hcm (λx hx=>?_) hdc.1 hdc.2
       ·simp only[uZ,jP,size_zeroCells,hzs,hol,<- dK]
        congr 1
        omega
       ·rcases aS.1 hx with h1|h1
        ·exact hes' x h1
        ·rw[rq h1,hzl]
      have arith:∀(m q:Nat),(m+q)*(i.bytes+i.size+1)<=2^46->(m+q)*i.bytes<=140737488355328/\q*i.bytes<=140737488355328/\m+q<=2^46:=by intro m q hbig;have e1:(m+q)*(i.bytes+i.size+1)=(m+q)*i.bytes+(m+q)*i.size+(m+q):=(by rw[xx,xx,sJ]);have e2:q*i.bytes<=(m+q)*i.bytes:=aW _ aI;omega
      have hml:2^46<=maxLen:=(by decide);unfold Tf at jG⊢;split at jG
      ·rename_i b lo m c sz' k q e1 e2;split at jG
       ·rename_i Ae es hb;obtain⟨rfl,rfl,rfl,hlo,hq,hroom,hl,hbig⟩:=jG;obtain⟨kk,cap,ad0,c',hr0,hsv,hnc,hcc,hcx,hcap⟩:=Jg (c:=some c) (b:=b) (lo:=lo) (m:=m) (sz:=i.size) g1 (by rw[e1];rfl);have:=hcx c rfl;subst this;have hxv:a.eval x' = .int .i64 q:=(by exact vz (by rw[e2]at g2;exact g2));obtain⟨qn,rfl⟩:∃qn:Nat,q=qn:=⟨q.toNat,aI⟩;simp only[ax]at hroom hbig⊢;obtain⟨a1,a2,a3⟩:=arith m qn hbig;have hl':=Gm hl;have hfit:=growslice_fits (need:=m+qn) (old:=c') (bytes:=i.bytes) aI a1;by_cases hc0:c'=0
        ·have aiT:m=0:=(by omega);subst aiT;subst hc0;have hf:=fresh 0 0 qn [] [] hl' aI nV rfl nV ⟨nV,nV⟩ aI;have hr:=Rn (P:=P) (w:=w) t t' o.type e ku i z hte htu hi hzero ad0 0 0 [] nV (λ_=>rfl) nV qn (by rw[<- Dj];exact Ey.2 a2) aI aI h0 aI aI hfit;rw[<- hxv,<- hsv]at hr;simp only[xH];exact⟨_,_,I,_,.inl (fin hr),hf,λ_=>⟨w.heap.size,_,_,_,Ren.mO _ _ _ _,rfl,grownCap_ge w _ _ e,ak _,λ_=>rfl⟩⟩
        ·have KP:=hcap (.inl hc0);subst KP;obtain⟨olds,ho1,ho2,ho3,ho4,ho5⟩:=ad6 h hb hr0 aI aI hlo;have hf:=fresh c' m qn olds _ hl' aI ho1 ho5 ho4 ho3 aI;have hr:=Rn (P:=P) (w:=w) t t' o.type e ku i z hte htu hi hzero (some ⟨kk,lo*i.size,none⟩) m c' olds ho1 nV (λad had j u hu=>by cases had;exact ho2 j u hu) qn (by rw[<- Dj];exact Ey.2 a2) aI aI h0 aI aI hfit;rw[<- hxv,<- hsv]at hr;exact⟨_,_,I,_,.inl (fin hr),hf,λ_=>⟨w.heap.size,_,_,_,Ren.mO _ _ _ _,rfl,grownCap_ge w _ _ e,ak _,λ_=>rfl⟩⟩
       ·exact jG.elim
      ·rename_i sz' k q e1 e2;obtain⟨rfl,hq,hl,hbig⟩:=jG;have hsv:a.eval s' = .slice none 0 0:=(by rw[e1]at g1;exact g1);have hxv:a.eval x' = .int .i64 q:=(by exact vz (by rw[e2]at g2;exact g2));obtain⟨qn,rfl⟩:∃qn:Nat,q=qn:=⟨q.toNat,aI⟩;simp only[ax]at hbig⊢;obtain⟨a1,a2,a3⟩:=arith 0 qn (by simpa using hbig);simp only[fE]at a1 a3;have hl':=Gm hl;have hfit:=growslice_fits (need:=0+qn) (old:=0) (bytes:=i.bytes) aI (by simpa using a1);have hf:=fresh 0 0 qn [] [] hl' aI nV rfl nV ⟨nV,nV⟩ aI;have hr:=Rn (P:=P) (w:=w) t t' o.type e ku i z hte htu hi hzero none 0 0 [] nV (λ_=>rfl) nV qn (by rw[<- Dj];exact Ey.2 a2) aI aI h0 aI aI hfit;rw[<- hxv,<- hsv]at hr;simp only[ja]at hf;exact⟨_,_,I,_,.inl (fin hr),hf,λ_=>⟨w.heap.size,_,_,_,Ren.mO _ _ _ _,by rw[fE],by have:=grownCap_ge w (0+qn) 0 e;omega,ak _,λ_=>rfl⟩⟩
      ·exact jG.elim
     ·cases hz
    ·cases ht
   ·cases ht
  ·cases hti
 ·cases hc
end
end
section
def OY (P:Program)(n m:Nat)(op:Op)(d:Option Nat):mG->Bool
 |.mv x=>adW n op x
 |.pick c a b=>UZ n op c a b
 |.load agg k p=>UX P n op agg k p
 |.store agg k p x=>Qm P n op agg k p x&&d.isNone
 |.alloc l zs=>IY P op zs&&decide (m<=l)
 |.FP T _ l r=>Gv P op T&&decide (m<=l)&&decide (m<=r)
 |.Nz l sz c zs=>Gu P op sz c zs&&decide (m<=l)
 |.box l x=>Qb n op x&&decide (m<=l)
 |.build zs ps=>Qc P n op zs ps
 |.oD l sz c zs ps=>Gw P n op sz c zs ps&&decide (m<=l)
 |.makes l sz bytes zs x y=>I5 P n op sz bytes zs x y&&decide (m<=l)
 |.bin o x y=>YH n op o x y
 |.beq ng x y=>YG P n op ng x y
 |.not x=>YL n op x
 |.neg x=>YK n op x
 |.KN k x=>UO P n op k x
 |.Sv x=>UR P n op x
 |.same x=>U0 P n op x
 |.acz f cs=>UY n op f cs
 |.GM x lo hi=>Ql P n op x lo hi
 |.ZM sz x lo hi=>U1 P n op sz x lo hi
 |.Um sz c x=>Qk P n op sz c x
 |.Es x=>Qj n op x
 |.lH off x=>Qd P n op off x
 |.field agg off k x=>Qe P n op agg off k x
 |.vK sz x i=>Qg P n op sz x i
 |.Vf sz c x i=>NG P n op sz c x i
 |.idxs x i=>UU P n op x i
 |.extract x i=>KL n op x i
 |.len x=>YJ P n op x
 |.lens x=>UW P n op x
 |.max x y=>Tu true n op x y
 |.min x y=>Tu false n op x y
 |.append l sz bytes s x=>Cb P n op sz bytes s x&&decide (m<=l)
 |.copy sz x y=>FH P n op sz x y
 |.shf l x y=>YN n op l x y
 |.adV x=>UN P n op x
 |.Lj sz x lo hi=>NI P n op sz x lo hi
 |.sl3 sz x p q m=>YO P n op sz x p q m
 |.acR l sz bytes s x=>Cb P n op sz bytes s x&&decide (m<=l)
 |.acV sz x y=>FH P n op sz x y
 |.acT sz zs x=>LP P n op sz zs x
 |.abC l sz bytes zs s x=>LH P n op sz bytes zs s x&&decide (m<=l)
 |.adX x y=>UQ P n op x y
 |.TM ng x=>Qi P n op ng x
 |.ovl x y=>YM P n op x y
 |.ab5 x y=>UT P n op x y
 |.stop=>true
section
variable {P:Program} {n:Nat} {op:Op}
theorem afy {zs:List AC}(h:IY P op zs=true):Ak op=false/\NV op=false:=by unfold IY at h;split at h<;>first|exact⟨rfl,rfl⟩|cases h
theorem aa3 {T:Nat}(h:Gv P op T=true):Ak op=false/\NV op=false:=by unfold Gv at h;split at h<;>first|exact⟨rfl,rfl⟩|cases h
theorem aa2 {sz c:Nat}{zs:List Cell}(h:Gu P op sz c zs=true):Ak op=false/\NV op=false:=by unfold Gu at h;split at h<;>first|exact⟨rfl,rfl⟩|cases h
theorem akV {x:mY}(h:Qb n op x=true):Ak op=false/\NV op=false:=by unfold Qb at h;split at h<;>first|exact⟨rfl,rfl⟩|cases h
theorem aa4 {sz c:Nat}{zs:List Cell}{ps:List (Nat×mY)}(h:Gw P n op sz c zs ps=true):Ak op=false/\NV op=false:=by unfold Gw at h;split at h<;>first|exact⟨rfl,rfl⟩|cases h
theorem afz {sz bytes:Nat}{zs:List Cell}{x y:mY}(h:I5 P n op sz bytes zs x y=true):Ak op=false/\NV op=false:=by unfold I5 at h;split at h<;>first|exact⟨rfl,rfl⟩|cases h
theorem Pv {sz bytes:Nat}{s x:mY}(h:Cb P n op sz bytes s x=true):Ak op=false/\NV op=false:=by unfold Cb at h;split at h<;>first|exact⟨rfl,rfl⟩|cases h
theorem aa5 {sz:Nat}{s x:mY}(h:FH P n op sz s x=true):Ak op=false/\NV op=false:=by unfold FH at h;split at h<;>first|exact⟨rfl,rfl⟩|cases h
theorem ah9 {sz:Nat}{zs:List Cell}{x:mY}(h:LP P n op sz zs x=true):Ak op=false/\NV op=false:=by unfold LP at h;split at h<;>first|exact⟨rfl,rfl⟩|cases h
theorem ah8 {sz bytes:Nat}{zs:List Cell}{s x:mY}(h:LH P n op sz bytes zs s x=true):Ak op=false/\NV op=false:=by unfold LH at h;split at h<;>first|exact⟨rfl,rfl⟩|cases h
end
section
variable {P:Program} {E:Env P} {I:IH} {ρ:Ren} {n:Nat} {st:iI} {a:Act} {w:World}
theorem DJ {x:Box}(h:match x with|.absent=>True|_=>False):BA x:=by cases x<;>first|trivial|exact h.elim
theorem XA (h:GX E I ρ n st a w){o:Oper}{ao:mG}(hc:OY P n E.m o.op o.dst ao=true)(hv:ao.valid (mY.ev st.tm))(jG:(ao.f (dY st.tm) st.bx).vc) :
 tK P E n o a w (st.qo (ao.f (dY st.tm) st.bx).sets) (ao.f (dY st.tm) st.bx).v:=by
 cases ao with
 |mv x=>exact ahj h hc (hv x (by simp[mG.nT]))
 | pick c x y=>
   simp only[mG.f]at jG⊢;obtain⟨hg,hxy⟩:=hv;split at jG
   ·rename_i t ht;have ht':((mY.ev st.tm c).x)=tH t:=ht;rw[ht']at hxy;exact acF h hc hg ht hxy.1 hxy.2
   ·exact jG.elim
 | load agg k p=> 
   have hs:(yw agg k (dY st.tm p) st.bx).sets=[]:=by
    unfold yw at *;simp only[mG.f]at jG;unfold yw at jG;split at jG
    ·split at jG
     ·split at jG
      ·rename_i hA;rw[aF hA]
      ·rename_i hA;rw[ai hA];split at jG
       ·rfl
       ·exact jG.elim
     ·exact jG.elim
    ·split at jG
     ·split at jG
      ·rename_i hA;rw[aF hA]
      ·rename_i hA;rw[ai hA]
     ·exact jG.elim
    ·split at jG
     ·rename_i hA;rw[aF hA]
     ·rename_i hA;rw[ai hA]
    ·exact jG.elim
   have:=ack (P:=P) h hc (hv p (by simp[mG.nT])) jG;simp only[mG.f,hs];exact this
 | store agg k p x=>simp only[OY,ah,qW]at hc;exact ZR h hc.1 hc.2 (hv p (by simp[mG.nT])) (hv x (by simp[mG.nT])) jG
 | alloc l zs=>simp only[OY,ah,aj]at hc;exact(Yq h hc.1 hc.2 (DJ jG)).toE (afy hc.1).1 (afy hc.1).2
 | FP T e l r=>simp only[OY,ah,aj]at hc;exact(Wl h hc.1.1 hc.1.2 hc.2 (DJ jG.1) (DJ jG.2.1) jG.2.2).toE (aa3 hc.1.1).1 (aa3 hc.1.1).2
 | Nz l sz c zs=>simp only[OY,ah,aj]at hc;exact(Wj h hc.1 hc.2 (DJ jG)).toE (aa2 hc.1).1 (aa2 hc.1).2
 | box l x=>simp only[OY,ah,aj]at hc;exact(adP h hc.1 (hv x (by simp[mG.nT])) hc.2 (DJ jG.1) jG.2).toE (akV hc.1).1 (akV hc.1).2
 |build zs ps=>exact YB h hc (λp hp=>hv p.2.2 (by simp only[mG.nT,bf];exact⟨p,hp,rfl⟩)) jG
 | oD l sz c zs ps=>
   simp only[OY,ah,aj]at hc;simp only[mG.f]at jG⊢;split at jG
   ·rename_i l' hl';rw[Rt];exact(WB h hc.1 (λp hp=>hv p.2 (by simp only[mG.nT,bf];exact⟨p,hp,rfl⟩)) hc.2 (DJ jG.1) hl' jG.2.1 jG.2.2).toE (aa4 hc.1).1 (aa4 hc.1).2
   ·exact jG.elim
 | makes l sz bytes zs x y=>
   simp only[OY,ah,aj]at hc;simp only[mG.f]at jG⊢;split at jG
   ·rename_i k p k' q e1 e2;obtain⟨v1,v2,v3,v4,v5⟩:=jG;exact(Zm h hc.1 (hv x (by simp[mG.nT])) (hv y (by simp[mG.nT])) e1 e2 hc.2 (DJ v1) v2 v3 v4 v5).toE (afz hc.1).1 (afz hc.1).2
   ·exact jG.elim
 | bin b x y=>
   have hs:(OU b (dY st.tm x) (dY st.tm y)).sets=[]:=by
    unfold OU;split
    ·rfl
    ·unfold F6;cases b<;>rfl
    ·rfl
   have:=adM (P:=P) h hc (hv x (by simp[mG.nT])) (hv y (by simp[mG.nT])) jG;simp only[mG.f,hs];exact this
 | beq ng x y=>have hs:(Wu ng (dY st.tm x) (dY st.tm y)).sets=[]:=(by unfold Wu;split<;>rfl);have:=adL (P:=P) h hc (hv x (by simp[mG.nT])) (hv y (by simp[mG.nT])) jG;simp only[mG.f,hs];exact this
 | not x=>
   simp only[mG.f]at jG⊢;split at jG
   ·rename_i b hb;exact afg h hc (hv x (by simp[mG.nT])) hb
   ·exact jG.elim
 | neg x=>
   simp only[mG.f]at jG⊢;split at jG
   ·rename_i k m hb;exact afd h hc (hv x (by simp[mG.nT])) hb
   ·exact jG.elim
 | KN k x=>
   simp only[mG.f]at jG⊢;split at jG
   ·rename_i j m hb;exact abP h hc (hv x (by simp[mG.nT])) hb
   ·exact jG.elim
 | Sv x=>
   simp only[mG.f]at jG⊢;split at jG
   ·rename_i p es hs;split at jG
    ·rename_i l hl;exact abS h hc (hv x (by simp[mG.nT])) hs jG.1 hl jG.2
    ·exact jG.elim
   ·exact jG.elim
 | same x=>
   simp only[mG.f]at jG⊢;split at jG
   ·rename_i l hb;exact acQ h hc (hv x (by simp[mG.nT])) hb
   ·exact jG.elim
 | acz f cs=>
   simp only[mG.f]at jG⊢;split at jG
   ·rename_i l hl;exact acA h hc (λx hx=>hv x hx) hl
   ·exact jG.elim
 | GM x lo hi=>
   simp only[mG.f]at jG⊢;split at jG
   ·rename_i s e1;split at jG
    ·rename_i p q e2 e3;exact ZN h hc (hv x (by simp[mG.nT])) (λy hy=>hv y (by simp only[mG.nT];simp at hy;simp[hy])) (λy hy=>hv y (by simp only[mG.nT];simp at hy;simp[hy])) e1 e2 e3 jG.1 jG.2.1 jG.2.2
    ·exact jG.elim
   ·exact jG.elim
 | ZM sz x lo hi=>
   have hs:(Uo sz (dY st.tm x) (bnd (dY st.tm) lo 0) (bnd (dY st.tm) hi)).sets=[]:=by
    unfold Uo;split
    ·split<;>rfl
    ·split<;>rfl
    ·split<;>rfl
    ·rfl
   have:=acZ (P:=P) h hc (hv x (by simp[mG.nT])) (λy hy=>hv y (by simp only[mG.nT];simp at hy;simp[hy])) (λy hy=>hv y (by simp only[mG.nT];simp at hy;simp[hy])) jG;have e:((mG.ZM sz x lo hi).f (dY st.tm) st.bx)=Uo sz (dY st.tm x) (bnd (dY st.tm) lo 0) (bnd (dY st.tm) hi):=rfl;rw[e,hs];exact this
 | Um sz c x=>
   simp only[mG.f]at jG⊢;split at jG
   ·rename_i b sz' e1;split at jG
    ·rename_i Ae es e2;obtain⟨rfl,rfl,h3,h4⟩:=jG;exact ZL h hc (hv x (by simp[mG.nT])) e1 e2 h3
    ·exact jG.elim
   ·exact jG.elim
 | Es x=>have hs:(Ob (dY st.tm x)).sets=[]:=(by unfold Ob;split<;>rfl);have:=Zu (P:=P) h hc (hv x (by simp[mG.nT])) jG;have e:((mG.Es x).f (dY st.tm) st.bx)=Ob (dY st.tm x):=rfl;rw[e,hs];exact this
 | lH off x=>have hs:(Ja off (dY st.tm x)).sets=[]:=(by unfold Ja;split<;>rfl);have:=Y0 (P:=P) h hc (hv x (by simp[mG.nT])) jG;have e:((mG.lH off x).f (dY st.tm) st.bx)=Ja off (dY st.tm x):=rfl;rw[e,hs];exact this
 | field agg off k x=>
   have hs:(NJ agg off k (dY st.tm x)).sets=[]:=by
    unfold NJ;split
    ·split
     ·rfl
     ·split<;>rfl
    ·rfl
   have:=Y1 (P:=P) h hc (hv x (by simp[mG.nT])) jG;have e:((mG.field agg off k x).f (dY st.tm) st.bx)=NJ agg off k (dY st.tm x):=rfl;rw[e,hs];exact this
 | vK sz x i=>have hs:(NS sz (dY st.tm x) (dY st.tm i)).sets=[]:=(by unfold NS;split<;>rfl);have:=Zc (P:=P) h hc (hv x (by simp[mG.nT])) (hv i (by simp[mG.nT])) jG;have e:((mG.vK sz x i).f (dY st.tm) st.bx)=NS sz (dY st.tm x) (dY st.tm i):=rfl;rw[e,hs];exact this
 | Vf sz c x i=>
   simp only[mG.f]at jG⊢;split at jG
   ·rename_i b sz' k m e1 e2;obtain⟨rfl,h1,h2⟩:=jG;exact Xb h hc (hv x (by simp[mG.nT])) (hv i (by simp[mG.nT])) e1 e2 h1 h2
   ·exact jG.elim
 | idxs x i=>
   simp only[mG.f]at jG⊢;split at jG
   ·rename_i s k m e1 e2;exact ab7 h hc (hv x (by simp[mG.nT])) (hv i (by simp[mG.nT])) e1 e2 jG.1 jG.2
   ·exact jG.elim
 | extract x i=>
   have hs:(Gx (dY st.tm x) i).sets=[]:=by
    unfold Gx;split
    ·split<;>rfl
    ·rfl
   have:=U3 (P:=P) h hc (hv x (by simp[mG.nT])) jG;have e:((mG.extract x i).f (dY st.tm) st.bx)=Gx (dY st.tm x) i:=rfl;rw[e,hs];exact this
 | len x=>have hs:(lenV (dY st.tm x)).sets=[]:=(by unfold lenV;split<;>rfl);have:=aeP (P:=P) h hc (hv x (by simp[mG.nT])) jG;have e:((mG.len x).f (dY st.tm) st.bx)=lenV (dY st.tm x):=rfl;rw[e,hs];exact this
 | lens x=>
   simp only[mG.f]at jG⊢;split at jG
   ·rename_i s e1;exact ach h hc (hv x (by simp[mG.nT])) e1
   ·exact jG.elim
 | max x y=>
   simp only[mG.f]at jG⊢;split at jG
   ·rename_i k p k' q e1 e2;have jG:k=k':=jG;subst jG;exact ae1 h hc (hv x (by simp[mG.nT])) (hv y (by simp[mG.nT])) e1 e2
   ·exact jG.elim
 | min x y=>
   simp only[mG.f]at jG⊢;split at jG
   ·rename_i k p k' q e1 e2;have jG:k=k':=jG;subst jG;exact ae3 h hc (hv x (by simp[mG.nT])) (hv y (by simp[mG.nT])) e1 e2
   ·exact jG.elim
 | append l sz bytes s x=>simp only[OY,ah,aj]at hc;exact(Wp h hc.1 hc.2 (hv s (by simp[mG.nT])) (hv x (by simp[mG.nT])) jG).toE (Pv hc.1).1 (Pv hc.1).2
 |copy sz d x=>exact(abR h hc (hv d (by simp[mG.nT])) (hv x (by simp[mG.nT])) jG).toE (aa5 hc).1 (aa5 hc).2
 | shf l x y=>have hs:(VM l (dY st.tm x) (dY st.tm y)).sets=[]:=(by unfold VM;(repeat' split)<;>rfl);have:=afH (P:=P) h hc (hv x (by simp[mG.nT])) (hv y (by simp[mG.nT])) jG;have e:((mG.shf l x y).f (dY st.tm) st.bx)=VM l (dY st.tm x) (dY st.tm y):=rfl;rw[e,hs];exact this
 | adV x=>have hs:(Su (dY st.tm x)).sets=[]:=(by unfold Su;(repeat' split)<;>rfl);have:=abN (P:=P) h hc (hv x (by simp[mG.nT])) jG;have e:((mG.adV x).f (dY st.tm) st.bx)=Su (dY st.tm x):=rfl;rw[e,hs];exact this
 | Lj sz x lo hi=>have hs:(Ih sz (dY st.tm x) (bnd (dY st.tm) lo 0) (bnd (dY st.tm) hi)).sets=[]:=(by unfold Ih;(repeat' split)<;>rfl);have:=XR (P:=P) h hc (hv x (by simp[mG.nT])) (λy hy=>hv y (by simp only[mG.nT,aO,aS];exact .inr (.inl hy))) (λy hy=>hv y (by simp only[mG.nT,aO,aS];exact .inr (.inr hy))) jG;have e:((mG.Lj sz x lo hi).f (dY st.tm) st.bx)=Ih sz (dY st.tm x) (bnd (dY st.tm) lo 0) (bnd (dY st.tm) hi):=rfl;rw[e,hs];exact this
 | sl3 sz x p q m=>have hs:(ZK sz (dY st.tm x) (dY st.tm p) (dY st.tm q) (dY st.tm m)).sets=[]:=(by unfold ZK;(repeat' split)<;>rfl);have:=afI (P:=P) h hc (hv x (by simp[mG.nT])) (hv p (by simp[mG.nT])) (hv q (by simp[mG.nT])) (hv m (by simp[mG.nT])) jG;have e:((mG.sl3 sz x p q m).f (dY st.tm) st.bx)=ZK sz (dY st.tm x) (dY st.tm p) (dY st.tm q) (dY st.tm m):=rfl;rw[e,hs];exact this
 | acR l sz bytes s x=>simp only[OY,ah,aj]at hc;exact(acS h hc.1 hc.2 (hv s (by simp[mG.nT])) (hv x (by simp[mG.nT])) jG).toE (Pv hc.1).1 (Pv hc.1).2
 | abC l sz bytes zs s x=>simp only[OY,ah,aj]at hc;exact(abD h hc.1 hc.2 (hv s (by simp[mG.nT])) (hv x (by simp[mG.nT])) jG).toE (ah8 hc.1).1 (ah8 hc.1).2
 |acV sz d x=>exact(acW h hc (hv d (by simp[mG.nT])) (hv x (by simp[mG.nT])) jG).toE (aa5 hc).1 (aa5 hc).2
 |acT sz zs x=>exact(acU h hc (hv x (by simp[mG.nT])) jG).toE (ah9 hc).1 (ah9 hc).2
 |stop=>exact jG.elim
 | TM ng x=>have hs:(Hu ng (dY st.tm x)).sets=[]:=(by unfold Hu;split<;>rfl);have:=Zh (P:=P) h hc (hv x (by simp[mG.nT])) jG;have e:((mG.TM ng x).f (dY st.tm) st.bx)=Hu ng (dY st.tm x):=rfl;rw[e,hs];exact this
 | adX x y=>have hs:(LQ (dY st.tm x) (dY st.tm y)).sets=[]:=(by unfold LQ;(repeat' split)<;>rfl);have:=abQ (P:=P) h hc (hv x (by simp[mG.nT])) (hv y (by simp[mG.nT])) jG;have e:((mG.adX x y).f (dY st.tm) st.bx)=LQ (dY st.tm x) (dY st.tm y):=rfl;rw[e,hs];exact this
 | ab5 x y=>have hs:(MB (dY st.tm x) (dY st.tm y)).sets=[]:=(by unfold MB;(repeat' split)<;>rfl);have:=ab6 (P:=P) h hc (hv x (by simp[mG.nT])) (hv y (by simp[mG.nT])) jG;have e:((mG.ab5 x y).f (dY st.tm) st.bx)=MB (dY st.tm x) (dY st.tm y):=rfl;rw[e,hs];exact this
 | ovl x y=>have hs:(Vy (dY st.tm x) (dY st.tm y) st.bx).sets=[]:=(by unfold Vy;(repeat' split)<;>rfl);have:=afm (P:=P) h hc (hv x (by simp[mG.nT])) (hv y (by simp[mG.nT])) jG;have e:((mG.ovl x y).f (dY st.tm) st.bx)=Vy (dY st.tm x) (dY st.tm y) st.bx:=rfl;rw[e,hs];exact this
end
end
theorem Rel.refl (dp N:Nat)(g:Own):Rel dp N g g:=
 ⟨λ_ _ _ _ _ h=>⟨h,rfl⟩,λ_ _ _ _ _ h=>h,λk B' _ h=>⟨B',h,λT p hb=>by rcases hb with rfl|rfl<;>exact⟨p,p,rfl,rfl⟩⟩⟩
theorem Rel.trans {dp N:Nat}{g g' g'':Own}(h:Rel dp N g g')(k:Rel dp N g' g''):Rel dp N g g'':=by
 refine⟨λx T d m hd hx=>let q:=h.tag _ _ _ _ hd hx;let r:=k.tag _ _ _ _ hd q.1;⟨r.1,r.2.trans q.2⟩,λx row d b hd hx=>k.var _ _ _ _ hd (h.var _ _ _ _ hd hx),λx B'' hx hB=>?_⟩;obtain⟨B',hB',h1⟩:=k.old x B'' hx hB;obtain⟨B,hB0,h2⟩:=h.old x B' hx hB';refine⟨B,hB0,λT p hb=>?_⟩;rcases hb with hb|hb
 ·obtain⟨q,q',e1,e2⟩:=h2 T p (.inl hb);obtain⟨r,r',e3,e4⟩:=h1 T q' (.inl e2);exact⟨q,r',e1,e4⟩
 ·obtain⟨q,q',e1,e2⟩:=h1 T p (.inr hb);obtain⟨r,r',e3,e4⟩:=h2 T q (.inr e1);exact⟨r,q',e3,e2⟩
theorem Rel.le {dp N N':Nat}{g g':Own}(h:Rel dp N g g')(hn:N'<=N):Rel dp N' g g':=⟨h.tag,h.var,λk B' hk=>h.old k B' (jH hk hn)⟩
theorem Good.lt {P:Program}{g:Own}{w:World}(h:Good P g w){k:Nat}{B:Blk}(hk:g k=some B):k<w.heap.size:=by
 cases B with
 |arr T p=>obtain⟨cs,e,hw,_⟩:=h.arr k T p hk;exact xB hw
 |var row d b=>obtain⟨cs,e,hw,_⟩:=h.var k row d b hk;exact xB hw
theorem Good.world {P:Program}{g:Own}{w w':World}(h:Good P g w)(hk:∀k,g k≠none->w'.heap[k]? = w.heap[k]?):Good P g w':=
 ⟨λk T p e=>by rw[hk k (by rw[e];simp)];exact h.arr k T p e,λk row d b e=>by rw[hk k (by rw[e];simp)];exact h.var k row d b e⟩
theorem BP.world {P:Program}{F:Ov}{g:Own}{dp:Nat}{a:Act}{w w':World}{f:OF}(h:BP P F g dp a w f)(hs:w.heap.size<=w'.heap.size):BP P F g dp a w' f:=by
 cases f with
 |sr t T=>intro ad n c hq0;obtain⟨k,o,h1,h2,h3⟩:=h ad n c hq0;exact⟨k,o,h1,jH h2 hs,h3⟩
 |ep t T off=>obtain⟨k,o,h1,h2,h3⟩:=h;exact⟨k,o,h1,jH h2 hs,h3⟩
 |vp t b off=>exact h
 |ref t r=>exact h
 |Bg t i r=>exact h
 |row b r=>exact h
 |fn t s=>exact h
theorem OW.world {P:Program}{F:Ov}{g:Own}{dp:Nat}{Γ : List OF}{a:Act}{w w':World}(h:OW P F g dp Γ a w)(hs:w.heap.size<=w'.heap.size)(hk:∀k,g k≠none->w'.heap[k]? = w.heap[k]?):OW P F g dp Γ a w':=
 ⟨h.good.world hk,λf hf=>(h.fs f hf).world hs⟩
theorem OW.weak {P:Program}{F:Ov}{g:Own}{dp:Nat}{Γ yN:List OF}{a:Act}{w:World}(h:OW P F g dp Γ a w)(hs:∀f,f∈yN->f ∈ Γ):OW P F g dp yN a w:=
 ⟨h.good,λf hf=>h.fs f (hs f hf)⟩
theorem BP.put {P:Program}{F:Ov}{g:Own}{dp:Nat}{a a':Act}{w:World}{f:OF}(h:BP P F g dp a w f)(he:∀t,t∈f.abb->a'.tmps.getD t undef=a.tmps.getD t undef):BP P F g dp a' w f:=by cases f<;>simp only[OF.abb,aO,List.not_mem_nil,or_false,forall_eq_or_imp,forall_eq]at he<;>simp only[BP,he]at h⊢ <;> exact h
def Ff (d:Nat)(f:OF):Bool:= !f.abb.contains d
theorem mJ {a:Act}{d t:Nat}{v:Value}(h:t≠d):(a.put (some d) v).tmps.getD t undef=a.tmps.getD t undef:=by simp only[jv,fK];rw[Array.getElem?_setIfInBounds_ne (Ne.symm h)]
theorem ig {a:Act}{d:Nat}{v:Value}(h:d<a.tmps.size):(a.put (some d) v).tmps.getD d undef=v:=by simp[jv,fK,h]
theorem BP.put' {P:Program}{F:Ov}{g:Own}{dp:Nat}{a:Act}{w:World}{f:OF}{d:Nat}{v:Value}(h:BP P F g dp a w f)(ho:Ff d f=true):BP P F g dp (a.put (some d) v) w f:=
 h.put λt ht=>mJ λe=>by subst e;simp[Ff,ht]at ho
theorem OW.drop {P:Program}{F:Ov}{g:Own}{dp:Nat}{Γ : List OF}{a:Act}{w:World}(h:OW P F g dp Γ a w)(d:Nat)(v:Value):OW P F g dp (Γ.filter (Ff d)) (a.put (some d) v) w:=
 ⟨h.good,λf hf=>by rw[aU]at hf;exact(h.fs f hf.1).put' hf.2⟩
def Own.re (g:Own)(dr:wL->Bool)(φ:wL->wL):Own:=⟨λk=>match g k with
 |some (.arr T p)=>if dr p then none else some (.arr T (φ p))
 |some (.var row d b)=>some (.var (row.filter λr=> !dr (.tag d r.m)&&φ (.tag d r.m) == .tag d r.m) d b)
 |none=>none,g.bd⟩
theorem afA {g:Own}{dr:wL->Bool}{φ:wL->wL}{k:Nat} : (g.re dr φ) k=match g k with
 |some (.arr T p)=>if dr p then none else some (.arr T (φ p))
 |some (.var row d b)=>some (.var (row.filter λr=> !dr (.tag d r.m)&&φ (.tag d r.m) == .tag d r.m) d b)
 |none=>none:=rfl
theorem GR.re {g:Own}{u:Value}{T:Nat}{p:wL}(h:GR g u T p){dr:wL->Bool}(hd:dr p=false)(φ:wL->wL):GR (g.re dr φ) u T (φ p):=by
 rcases h with h|⟨k,n,c,h1,h2⟩
 ·exact .inl h
 ·exact .inr ⟨k,n,c,h1,by simp[Own.re,h2.1,hd],h2.2⟩
theorem VG {g:Own}{dr:wL->Bool}{φ:wL->wL}{k d b:Nat}{row:List Ref}(h:g.re dr φ k=some (.var row d b)):∃row0,g k=some (.var row0 d b)/\row=row0.filter λr=> !dr (.tag d r.m)&&φ (.tag d r.m) == .tag d r.m:=by
 rw[afA]at h;split at h
 ·split at h<;>cases h
 ·rename_i row0 d0 b0 h0;cases h;exact⟨row0,h0,rfl⟩
 ·cases h
theorem VF {g:Own}{dr:wL->Bool}{φ:wL->wL}{k T:Nat}{p:wL}(h:g.re dr φ k=some (.arr T p)):∃q,g k=some (.arr T q)/\dr q=false/\p=φ q:=by
 rw[afA]at h;split at h
 ·rename_i T0 q h0;split at h
  ·cases h
  ·rename_i hd;cases h;exact⟨q,h0,by simpa using hd,rfl⟩
 ·cases h
 ·cases h
theorem Good.re {P:Program}{g:Own}{w:World}(h:Good P g w){dr:wL->Bool}{φ:wL->wL}(hb:∀k T p,g k=some (.arr T p)->dr p=false->∀j,dr (.blk k j)=false/\φ (.blk k j) = .blk k j):Good P (g.re dr φ) w:=by
 refine⟨λk T p hk=>?_,λk row d b hk=>?_⟩
 ·obtain⟨q,h1,h2,rfl⟩:=VF hk;obtain⟨cs,e,hw,hc⟩:=h.arr k T q h1;refine⟨cs,e,hw,λj u T' hb' hu ht=>?_⟩;have:=(hc j u T' hb' hu ht).re (hb k T q h1 h2 j).1 φ
  rwa[(hb k T q h1 h2 j).2]at this
 ·obtain⟨row0,h1,rfl⟩:=VG hk;obtain⟨cs,e,hw,hc⟩:=h.var k row0 d b h1;refine⟨cs,e,hw,λr hr=>?_⟩;rw[aU]at hr;simp only[ah,jM,aH]at hr;obtain⟨u,hu,hg⟩:=hc r hr.1;refine⟨u,hu,?_⟩;have:=hg.re hr.2.1 φ
  rwa[hr.2.2]at this
def aeJ (dp:Nat)(dr:wL->Bool)(φ:wL->wL)(f:OF):Prop:=∀m,f.ajw=some m->dr (.tag dp m)=false/\φ (.tag dp m) = .tag dp m
theorem BP.re {P:Program}{F:Ov}{g:Own}{dp:Nat}{a:Act}{w:World}{f:OF}(h:BP P F g dp a w f){dr:wL->Bool}{φ:wL->wL}(hk:aeJ dp dr φ f):BP P F (g.re dr φ) dp a w f:=by
 have gr:∀{u T m},GR g u T (.tag dp m)->dr (.tag dp m)=false/\φ (.tag dp m) = .tag dp m->GR (g.re dr φ) u T (.tag dp m):=λh1 h2=>by
  have:=h1.re h2.1 φ
  rwa[h2.2]at this
 have old:∀{k:Nat} {T:Nat} {X:Prop},(∀B,g k=some B->(∃p,B = .arr T p)/\X)->∀B,g.re dr φ k=some B->(∃p,B = .arr T p)/\X:=by
  intro k T X hold B hB;cases B with
  | arr T' p=>obtain⟨q,h1,_,rfl⟩:=VF hB;obtain⟨⟨p',e⟩,hx⟩:=hold _ h1;cases e;exact⟨⟨_,rfl⟩,hx⟩
  | var row d b=>obtain⟨row0,h1,_⟩:=VG hB;obtain⟨⟨p',e⟩,_⟩:=hold _ h1;cases e
 have vv:∀{k row b},g k=some (.var row dp b)->g.re dr φ k=some (.var (row.filter λr=> !dr (.tag dp r.m)&&φ (.tag dp r.m) == .tag dp r.m) dp b):=λh1=>by simp[Own.re,h1]
 cases f with
 |sr t T=>intro ad n c hq0;obtain⟨k,o,h1,h2,h3⟩:=h ad n c hq0;exact⟨k,o,h1,h2,old h3⟩
 |ep t T off=>obtain⟨k,o,h1,h2,h3⟩:=h;exact⟨k,o,h1,h2,old h3⟩
 |vp t b off=>obtain⟨k,row,h1,h2,h3⟩:=h;exact⟨k,_,h1,h2,vv h3⟩
 |ref t r=>obtain⟨u,h1,h2⟩:=h;exact⟨u,h1,gr h2 (hk _ rfl)⟩
 |Bg t i r=>obtain⟨vs,x,u,h1,h2,h3,h4⟩:=h;exact⟨vs,x,u,h1,h2,h3,gr h4 (hk _ rfl)⟩
 | row b r=>obtain⟨k,row,h1,h2,h3⟩:=h;refine⟨k,_,h1,vv h2,?_⟩;rw[aU];have:=hk _ rfl;exact⟨h3,by simp[this.1,this.2]⟩
 |fn t s=>exact h
theorem Rel.re {dp N:Nat}{g:Own}{dr:wL->Bool}{φ:wL->wL}(h:∀d m,d<dp->dr (.tag d m)=false/\φ (.tag d m) = .tag d m):Rel dp N g (g.re dr φ):=by
 refine⟨λk T d m hd hk=>?_,λk row d b hd hk=>?_,λk B' _ hB=>?_⟩
 ·exact⟨by simp[Own.re,hk,(h d m hd).1,(h d m hd).2],rfl⟩
 ·have:row.filter (λr=> !dr (.tag d r.m)&&φ (.tag d r.m) == .tag d r.m)=row:=List.filter_eq_self.2 λr _=>by simp[(h d r.m hd).1,(h d r.m hd).2]
  simp[Own.re,hk,this]
 ·cases B' with
  | arr T p=>obtain⟨q,h1,_,rfl⟩:=VF hB;exact⟨_,h1,λT' p' hb=>by rcases hb with e|e<;>cases e<;>exact⟨_,_,rfl,rfl⟩⟩
  | var row d b=>obtain⟨row0,h1,_⟩:=VG hB;exact⟨_,h1,λT' p' hb=>by rcases hb with e|e<;>cases e⟩
def Own.upn (g:Own)(k:Nat)(B:Blk)(n:Nat):Own:=⟨λk'=>if k'=k then some B else g k',λk'=>if k'=k then n else g.bd k'⟩
abbrev Own.upd (g:Own)(k:Nat)(B:Blk):Own:=g.upn k B 0
theorem tZ {g:Own}{k k' n:Nat}{B:Blk} : (g.upn k B n) k'=if k'=k then some B else g k':=rfl
theorem DV {g:Own}{k k' n:Nat}{B:Blk} : (g.upn k B n).bd k'=if k'=k then n else g.bd k':=rfl
theorem GR.upd {g:Own}{u:Value}{T:Nat}{p:wL}(h:GR g u T p){k m:Nat}{B:Blk}(hk:∀T' q,g k≠some (.arr T' q)):GR (g.upn k B m) u T p:=by
 rcases h with h|⟨k',n,c,h1,h2⟩
 ·exact .inl h
 ·have hne:k'≠k:=λe=>by subst e;exact hk _ _ h2.1
  exact .inr ⟨k',n,c,h1,by rw[tZ,ai hne];exact h2.1,by rw[DV,ai hne];exact h2.2⟩
theorem BP.new {P:Program}{F:Ov}{g:Own}{dp:Nat}{a:Act}{w:World}{f:OF}(h:BP P F g dp a w f){k m:Nat}{B:Blk}(hk:g k=none)(hs:w.heap.size<=k):BP P F (g.upn k B m) dp a w f:=by
 have hk':∀T' q,g k≠some (.arr T' q):=λT' q e=>by rw[hk]at e;cases e
 have old:∀{k':Nat} {T:Nat} {X:Prop},k'<w.heap.size->(∀B,g k'=some B->(∃p,B = .arr T p)/\X)->∀B',(g.upn k B m) k'=some B'->(∃p,B' = .arr T p)/\X:=by intro k' T X hlt hold B' hB;rw[tZ]at hB;rw[ai aI]at hB;exact hold B' hB
 have vv:∀{k' row b},g k'=some (.var row dp b)->(g.upn k B m) k'=some (.var row dp b):=λh1=>by rw[tZ];rw[ai (λe=>by subst e;rw[hk]at h1;cases h1)];exact h1
 cases f with
 |sr t T=>intro ad n c hq0;obtain⟨k,o,h1,h2,h3⟩:=h ad n c hq0;exact⟨k,o,h1,h2,old h2 h3⟩
 |ep t T off=>obtain⟨k,o,h1,h2,h3⟩:=h;exact⟨k,o,h1,h2,old h2 h3⟩
 |vp t b off=>obtain⟨k,row,h1,h2,h3⟩:=h;exact⟨k,_,h1,h2,vv h3⟩
 |ref t r=>obtain⟨u,h1,h2⟩:=h;exact⟨u,h1,h2.upd hk'⟩
 |Bg t i r=>obtain⟨vs,x,u,h1,h2,h3,h4⟩:=h;exact⟨vs,x,u,h1,h2,h3,h4.upd hk'⟩
 |row b r=>obtain⟨k,row,h1,h2,h3⟩:=h;exact⟨k,_,h1,vv h2,h3⟩
 |fn t s=>exact h
theorem Rel.new {dp N:Nat}{g:Own}{k n:Nat}{B:Blk}(hk:g k=none)(hn:N<=k):Rel dp N g (g.upn k B n):=by
 refine⟨λk' T d m _ hx=>?_,λk' row d b _ hx=>?_,λk' B' hlt hB=>?_⟩
 ·have hne:k'≠k:=λe=>by subst e;rw[hk]at hx;cases hx
  rw[tZ,DV,ai hne,ai hne];exact⟨hx,rfl⟩
 ·rw[tZ];rw[ai (λe=>by subst e;rw[hk]at hx;cases hx)];exact hx
 ·rw[tZ]at hB;rw[ai aI]at hB;exact(Rel.refl dp N g).old k' B' hlt hB
section
section
variable {P:Program} {F:Ov} {g:Own} {dp:Nat} {Γ : List OF} {a:Act} {w:World}
def KX (dp:Nat)(mv:List (Nat×wL)):wL->wL
 |.tag d m=>if d=dp then(match mv.lookup m with|some q=>q|none=>.tag d m)else .tag d m
 |p=>p
def CY (ks:List Nat)(f:OF):Bool:=match f.ajw with
 |some m=> !ks.contains m
 |none=>true
abbrev Own.mv (g:Own)(dp:Nat)(mv:List (Nat×wL)):Own:=g.re (λ_=>false) (KX dp mv)
theorem OD {β:Type}{m:Nat} : ∀{l:List (Nat×β)},m ∉ l.map (·.1)->l.lookup m=none
 |[],_=>rfl
 | (k,b)::r,h=>by simp only[bJ,aO,not_or]at h;simp only[List.lookup];rw[show(m==k)=false by simpa using h.1];exact OD h.2
theorem Zq {mv:List (Nat×wL)}{m:Nat}(h:m ∉ mv.map (·.1)):KX dp mv (.tag dp m) = .tag dp m:=by simp[KX,OD h]
theorem afb {mv:List (Nat×wL)}{d m:Nat}(h:d<dp):KX dp mv (.tag d m) = .tag d m:=by simp only[KX];rw[ai aI]
theorem afa {mv:List (Nat×wL)}{m:Nat}{q:wL}(h:mv.lookup m=some q):KX dp mv (.tag dp m)=q:=by simp[KX,h]
theorem Zi {mv:List (Nat×wL)}{f:OF}(h:CY (mv.map (·.1)) f=true):aeJ dp (λ_=>false) (KX dp mv) f:=λm hm=>by refine⟨rfl,Zq λhc=>?_⟩;simp only[CY,hm,jM,List.contains_eq_mem,aQ]at h;exact h hc
theorem OW.mv (h:OW P F g dp Γ a w)(mv:List (Nat×wL)):OW P F (g.mv dp mv) dp (Γ.filter (CY (mv.map (·.1)))) a w:=
 ⟨h.good.re λ_ _ _ _ _ _=>⟨rfl,rfl⟩,λf hf=>by rw[aU]at hf;exact(h.fs f hf.1).re (Zi hf.2)⟩
theorem Rel.mv (N:Nat)(mv:List (Nat×wL)):Rel dp N g (g.mv dp mv):=Rel.re λd m h=>⟨rfl,afb h⟩
theorem GR.mv {u:Value}{T m:Nat}{q:wL}{mv:List (Nat×wL)}(h:GR g u T (.tag dp m))(hl:mv.lookup m=some q):GR (g.mv dp mv) u T q:=by
 have:=h.re (dr:=λ_=>false) rfl (KX dp mv)
 rwa[afa hl]at this
theorem OW.add (h:OW P F g dp Γ a w){f:OF}(hf:BP P F g dp a w f):OW P F g dp (f :: Γ) a w:=
 ⟨h.good,λx hx=>by exact(aO.1 hx).elim (λe=>e▸hf) (λhx=>h.fs x hx)⟩
theorem OW.ai8 (h:OW P F g dp Γ a w){cs:Array Value}{e T m:Nat}{p:wL}
 (hc:∀j u T',j<m*vw P T->cs[j]? = some u->(j%vw P T,T')∈nP P T->GR g u T' (.blk w.heap.size j)):OW P F (g.upn w.heap.size (.arr T p) m) dp Γ a (w.alloc (.cells cs e)):=by
 have hn:g w.heap.size=none:=by
  cases hg:g w.heap.size with
  |none=>rfl
  |some B=>exact aY (h.good.lt hg) (sQ _)
 have hna:∀T' q,g w.heap.size≠some (.arr T' q):=λT' q e=>by rw[hn]at e;cases e
 have hold:∀k,g k≠none->(w.alloc (.cells cs e)).heap[k]? = w.heap[k]?:= λk hk=>by
  cases hg:g k with
  |none=>exact aY hg hk
  |some B=>exact TI w _ k (h.good.lt hg)
 have hg':=h.good.world hold;refine⟨⟨λk T' q hk=>?_,λk row d b hk=>?_⟩,λf hf=>?_⟩
 ·rw[tZ]at hk;split at hk
  ·rename_i e1;cases hk;subst e1;exact⟨cs,e,heap_alloc_new w _,λj u T' hb hu ht=>(hc j u T' (by rwa[DV,aF rfl]at hb) hu ht).upd hna⟩
  ·rename_i hne;obtain⟨cs',e',hw,h2⟩:=hg'.arr k T' q hk;exact⟨cs',e',hw,λj u T' hb hu ht=>(h2 j u T' (by rwa[DV,ai hne]at hb) hu ht).upd hna⟩
 ·rw[tZ]at hk;split at hk
  ·cases hk
  ·obtain⟨cs',e',hw,h2⟩:=hg'.var k row d b hk;exact⟨cs',e',hw,λr hr=>let ⟨u,hu,hgr⟩:=h2 r hr;⟨u,hu,hgr.upd hna⟩⟩
 ·exact((h.fs f hf).new hn (ak _)).world (by show _<=(w.heap.push _).size;simp)
theorem OW.newVar (h:OW P F g dp Γ a w){cs:Array Value}{e:Nat}{row:List Ref}{d b:Nat}
 (hc:∀r,r∈row->∃u,cs[r.off]? = some u/\GR g u r.ty (.tag d r.m)):OW P F (g.upd w.heap.size (.var row d b)) dp Γ a (w.alloc (.cells cs e)):=by
 have hn:g w.heap.size=none:=by
  cases hg:g w.heap.size with
  |none=>rfl
  |some B=>exact aY (h.good.lt hg) (sQ _)
 have hna:∀T' q,g w.heap.size≠some (.arr T' q):=λT' q e=>by rw[hn]at e;cases e
 have hold:∀k,g k≠none->(w.alloc (.cells cs e)).heap[k]? = w.heap[k]?:= λk hk=>by
  cases hg:g k with
  |none=>exact aY hg hk
  |some B=>exact TI w _ k (h.good.lt hg)
 have hg':=h.good.world hold;refine⟨⟨λk T' q hk=>?_,λk row' d' b' hk=>?_⟩,λf hf=>?_⟩
 ·rw[tZ]at hk;split at hk
  ·cases hk
  ·rename_i hne;obtain⟨cs',e',hw,h2⟩:=hg'.arr k T' q hk;exact⟨cs',e',hw,λj u T' hb hu ht=>(h2 j u T' (by rwa[DV,ai hne]at hb) hu ht).upd hna⟩
 ·rw[tZ]at hk;split at hk
  ·rename_i e1;cases hk;subst e1;exact⟨cs,e,heap_alloc_new w _,λr hr=>let ⟨u,hu,hgr⟩:=hc r hr;⟨u,hu,hgr.upd hna⟩⟩
  ·obtain⟨cs',e',hw,h2⟩:=hg'.var k row' d' b' hk;exact⟨cs',e',hw,λr hr=>let ⟨u,hu,hgr⟩:=h2 r hr;⟨u,hu,hgr.upd hna⟩⟩
 ·exact((h.fs f hf).new hn (ak _)).world (by show _<=(w.heap.push _).size;simp)
theorem setRow_size (w:World)(k:Nat)(cs:Array Value):(w.setRow k cs).heap.size=w.heap.size:=by simp[World.setRow]
theorem DN (w:World){k k':Nat}(cs:Array Value)(h:k'≠k):(w.setRow k cs).heap[k']? = w.heap[k']?:=by simp only[World.setRow];rw[Array.getElem?_modify];rw[ai (Ne.symm h)]
theorem OW.VK (h:OW P F g dp Γ a w){k:Nat}{cs cs':Array Value}{e:Nat}(hw:w.heap[k]? = some (.cells cs e (0,0)))
 (hc:∀B,g k=some B->∃T p,B = .arr T p/\∀j u T',j<g.bd k*vw P T->cs'[j]? = some u->(j%vw P T,T')∈nP P T->GR g u T' (.blk k j)):OW P F g dp Γ a (w.setRow k cs'):=by
 have hnew:=setRow_heap w k cs cs' e (0,0) hw;refine⟨⟨λk' T p hk=>?_,λk' row d b hk=>?_⟩,λf hf=>(h.fs f hf).world (by rw[setRow_size];exact ak _)⟩
 ·by_cases hkk:k'=k
  ·subst hkk;obtain⟨T',p',hB,h2⟩:=hc _ hk;cases hB;exact⟨cs',e,hnew,h2⟩
  ·rw[DN w cs' hkk];exact h.good.arr k' T p hk
 ·by_cases hkk:k'=k
  ·subst hkk;obtain⟨T',p',hB,_⟩:=hc _ hk;cases hB
  ·rw[DN w cs' hkk];exact h.good.var k' row d b hk
theorem GR.Ll {u:Value}{T:Nat}{p:wL}(h:GR g u T p){k m:Nat}{B:Blk}{row:List Ref}{d b:Nat}(hk:g k=some (.var row d b)):GR (g.upn k B m) u T p:=
 h.upd λT' q e=>by rw[hk]at e;cases e
theorem OW.setVar (h:OW P F g dp Γ a w){k:Nat}{cs cs':Array Value}{e b:Nat}{row row':List Ref}(hw:w.heap[k]? = some (.cells cs e (0,0)))(hk:g k=some (.var row dp b))
 (hc:∀r,r∈row'->∃u,cs'[r.off]? = some u/\GR g u r.ty (.tag dp r.m)) {yN:List OF} (Yi:∀f,f∈yN->f ∈ Γ /\ ∀r,f = .row b r->r∈row') :
 OW P F (g.upd k (.var row' dp b)) dp yN a (w.setRow k cs'):=by
 have hnew:=setRow_heap w k cs cs' e (0,0) hw;have hg:(g.upd k (.var row' dp b)) k=some (.var row' dp b):=by simp[tZ]
 have ho:∀{k'},k'≠k->(g.upd k (.var row' dp b)) k'=g k':=λhne=>by simp[tZ,hne]
 refine⟨⟨λk' T p hk'=>?_,λk' Kr d b2 hk'=>?_⟩,λf hf=>?_⟩
 ·by_cases hkk:k'=k
  ·subst hkk;rw[hg]at hk';cases hk'
  ·rw[ho hkk]at hk';obtain⟨c,e',h1,h2⟩:=h.good.arr k' T p hk';exact⟨c,e',by rw[DN w cs' hkk];exact h1,λj u T' hb hu ht=>(h2 j u T' (by rwa[DV,ai hkk]at hb) hu ht).Ll hk⟩
 ·by_cases hkk:k'=k
  ·subst hkk;rw[hg]at hk';cases hk';exact⟨cs',e,hnew,λr hr=>let ⟨u,hu,hgr⟩:=hc r hr;⟨u,hu,hgr.Ll hk⟩⟩
  ·rw[ho hkk]at hk';obtain⟨c,e',h1,h2⟩:=h.good.var k' Kr d b2 hk';exact⟨c,e',by rw[DN w cs' hkk];exact h1,λr hr=>let ⟨u,hu,hgr⟩:=h2 r hr;⟨u,hu,hgr.Ll hk⟩⟩
 ·obtain⟨hf,hr⟩:=Yi f hf;have h0:=h.fs f hf;have old:∀{k' T:Nat} {X:Prop},(∀B,g k'=some B->(∃p,B = .arr T p)/\X)->∀B,(g.upd k (.var row' dp b)) k'=some B->(∃p,B = .arr T p)/\X:=by
   intro k' T X hold B hB;by_cases hkk:k'=k
   ·subst hkk;obtain⟨⟨p,e⟩,_⟩:=hold _ hk;cases e
   ·rw[ho hkk]at hB;exact hold B hB
  have hsz:(w.setRow k cs').heap.size=w.heap.size:=setRow_size w k cs';cases f with
  |sr t T=>intro ad n c hq0;obtain⟨k',o,h1,h2,h3⟩:=h0 ad n c hq0;exact⟨k',o,h1,by rw[hsz];exact h2,old h3⟩
  |ep t T off=>obtain⟨k',o,h1,h2,h3⟩:=h0;exact⟨k',o,h1,by rw[hsz];exact h2,old h3⟩
  | vp t b' off=>
    obtain⟨k',Kr,h1,h2,h3⟩:=h0;by_cases hkk:k'=k
    ·subst hkk;rw[hk]at h3;cases h3;exact⟨k',row',h1,h2,hg⟩
    ·exact⟨k',Kr,h1,h2,by rw[ho hkk];exact h3⟩
  |ref t r=>obtain⟨u,h1,h2⟩:=h0;exact⟨u,h1,h2.Ll hk⟩
  |Bg t i r=>obtain⟨vs,x,u,h1,h2,h3,h4⟩:=h0;exact⟨vs,x,u,h1,h2,h3,h4.Ll hk⟩
  | row b' r=>
    obtain⟨k',Kr,h1,h2,h3⟩:=h0;by_cases hkk:k'=k
    ·subst hkk;rw[hk]at h2;cases h2;exact⟨k',row',h1,hg,hr r rfl⟩
    ·exact⟨k',Kr,h1,by rw[ho hkk];exact h2,h3⟩
  |fn t s=>exact h0
theorem Rel.setVar {N k b:Nat}{row row':List Ref}(hk:g k=some (.var row dp b)):Rel dp N g (g.upd k (.var row' dp b)):=by
 refine⟨λk' T d m hd hx=>?_,λk' Kr d b2 hd hx=>?_,λk' B' hlt hB=>?_⟩
 ·have hne:k'≠k:=λe=>by subst e;rw[hk]at hx;cases hx
  rw[tZ,DV,ai hne,ai hne];exact⟨hx,rfl⟩
 ·rw[tZ];rw[ai (λe=>by subst e;rw[hk]at hx;cases hx;omega)];exact hx
 ·rw[tZ]at hB;split at hB
  ·rename_i e;subst e;cases hB;exact⟨_,hk,λT p hb=>by rcases hb with e|e<;>cases e⟩
  ·exact(Rel.refl dp N g).old k' B' hlt hB
end
end
section
section
variable {P:Program}
theorem dM {α β:Type}{x:Sem α}{f:α->Sem β}{w w':World}{r:β}(h:(x >>= f).run P w = .ok r w'):∃y w1,x.run P w = .ok y w1/\(f y).run P w1 = .ok r w':=by
 rw[cu]at h;cases hx:x.run P w with
 |ok y w1=>rw[hx]at h;exact⟨y,w1,rfl,h⟩
 |halt e w1=>rw[hx]at h;cases h
theorem jb {α:Type}{x r:α}{w w':World}(h:(pure x:Sem α).run P w = .ok r w'):r=x/\w'=w:=by rw[bM]at h;cases h;exact⟨rfl,rfl⟩
theorem zJ {t:TypeId}{d:TypeDesc}{w w':World}(h:(underlying t).run P w = .ok d w'):P.underlying t=some d/\w'=w:=by
 unfold underlying at h;obtain⟨p,w1,h1,h2⟩:=dM h;rw[run_program]at h1;cases h1;split at h2
 ·rename_i d' hd;obtain⟨rfl,rfl⟩:=jb h2;exact⟨hd,rfl⟩
 ·cases h2
theorem Gy {t:TypeId}{i:TypeInfo}{w w':World}(h:(typeInfo t).run P w = .ok i w'):P.info? t=some i/\w'=w:=by
 unfold typeInfo at h;obtain⟨p,w1,h1,h2⟩:=dM h;rw[run_program]at h1;cases h1;split at h2
 ·rename_i d' hd;obtain⟨rfl,rfl⟩:=jb h2;exact⟨hd,rfl⟩
 ·cases h2
theorem Df {t:TypeId}{k:Nat}{w w':World}(h:(sizeOf t).run P w = .ok k w'):∃i,P.info? t=some i/\i.size=k/\w'=w:=by unfold sizeOf at h;obtain⟨i,w1,h1,h2⟩:=dM h;obtain⟨h3,rfl⟩:=Gy h1;obtain⟨rfl,rfl⟩:=jb h2;exact⟨i,h3,rfl,rfl⟩
theorem aai {t:TypeId}{b:Bool}{w w':World}(h:(isAgg t).run P w = .ok b w'):(∃d,P.underlying t=some d/\b=Hr d)/\w'=w:=by unfold isAgg at h;obtain⟨d,w1,h1,h2⟩:=dM h;obtain⟨h3,rfl⟩:=zJ h1;cases d<;>(obtain⟨rfl,rfl⟩:=jb h2;exact⟨⟨_,h3,rfl⟩,rfl⟩)
theorem PZ {v:Value}{p:Addr}{w w':World}(h:(jO v).run P w = .ok p w'):v = .pointer (some p)/\w'=w:=by
 unfold jO at h;split at h
 ·obtain⟨rfl,rfl⟩:=jb h;exact⟨rfl,rfl⟩
 ·cases h
theorem DZ {s:Sem Value}{v:Value}{w w':World}(h:((do pure (.value (<- s))):Sem Next).run P w = .ok (.value v) w'):s.run P w = .ok v w':=by obtain⟨y,w1,h1,h2⟩:=dM h;obtain⟨e,rfl⟩:=jb h2;cases e;exact h1
theorem Xl {p:Addr}{v:Value}{w w':World}(h:(load p).run P w = .ok v w'):w'=w/\∀u,w.cell? p=some u->v=u:=by
 rw[run_load]at h;split at h
 ·rename_i u hu;cases h;exact⟨rfl,λu' hu'=>by rw[hu]at hu';cases hu';rfl⟩
 ·rename_i hn;split at h
  ·cases h;exact⟨rfl,λu hu=>by rw[hn]at hu;cases hu⟩
  ·cases h
theorem Hw {p:Addr} : ∀(n i:Nat) (acc:Array Value) (w:World) (r:Array Value) (w':World),(loadCellsFrom p i n acc).run P w = .ok r w' ->
 w'=w/\(∀j,j<acc.size->r[j]? = acc[j]?)/\∀j,j<n->∀u,w.cell? (p.add (i+j))=some u->r[acc.size+j]? = some u
 | 0,i,acc,w,r,w',h=>by unfold loadCellsFrom at h;obtain⟨rfl,rfl⟩:=jb h;exact⟨rfl,λ_ _=>rfl,λj hj=>aY hj (Nat.not_lt_zero _)⟩
 | n+1,i,acc,w,r,w',h=>by
   unfold loadCellsFrom at h;obtain⟨v,w1,h1,h2⟩:=dM h;obtain⟨rfl,hv⟩:=Xl h1;obtain⟨h3,h4,h5⟩:=Hw n (i+1) (acc.push v) _ r w' h2;refine⟨h3,λj hj=>?_,λj hj u hu=>?_⟩
   ·rw[h4 j (by simp;omega),Aq,ai aI]
   ·cases j with
    | zero=>have:=hv u (by simpa using hu);subst this;have:=h4 acc.size nV;simpa using this
    | succ j=>
      have:=h5 j aI u (by rw[show i+1+j=i+(j+1) by omega];exact hu);simp only[Array.size_push]at this
      rwa[show acc.size+1+j=acc.size+(j+1) by omega]at this
theorem Jn {t:TypeId}{p:Addr}{v:Value}{w w':World}(h:(loadVar t p).run P w = .ok v w') :
 w'=w/\((∃d i,P.underlying t=some d/\Hr d=true/\P.info? t=some i/\∀j u,j<i.size->w.cell? (p.add j)=some u->v.cells[j]? = some u) \/
  (∃d,P.underlying t=some d/\Hr d=false/\∀u,w.cell? p=some u->v=u)):=by
 unfold loadVar at h;obtain⟨b,w1,h1,h2⟩:=dM h;obtain⟨⟨d,hd,rfl⟩,rfl⟩:=aai h1;cases hb:Hr d with
 | true=>rw[hb]at h2;simp only[kN]at h2;obtain⟨k,w2,h3,h4⟩:=dM h2;obtain⟨i,hi,rfl,rfl⟩:=Df h3;obtain⟨r,w3,h5,h6⟩:=dM h4;unfold loadCells at h5;obtain⟨rfl,_,h7⟩:=Hw _ _ _ _ _ _ h5;obtain⟨rfl,rfl⟩:=jb h6;refine⟨rfl,.inl ⟨d,i,hd,hb,hi,λj u hj hu=>?_⟩⟩;have:=h7 j hj u (by simpa using hu);simpa[lW]using this
 | false=>rw[hb]at h2;obtain⟨rfl,hv⟩:=Xl h2;exact⟨rfl,.inr ⟨d,hd,hb,hv⟩⟩
end
end
section
def OF.re (s d:Nat):OF->Option OF
 |.sr x T=>if x=s then some (.sr d T)else none
 |.ep x T o=>if x=s then some (.ep d T o)else none
 |.vp x b o=>if x=s/\b≠d then some (.vp d b o)else none
 |.ref x r=>if x=s then some (.ref d r)else none
 |.Bg x i r=>if x=s then some (.Bg d i r)else none
 |.fn x k=>if x=s then some (.fn d k)else none
 |.row _ _=>none
def OF.lH (P:Program)(s d off:Nat):OF->Option OF
 |.ep x T o=>if x=s/\o+off<vw P T then some (.ep d T (o+off))else none
 |.vp x b o=>if x=s/\b≠d then some (.vp d b (o+off))else none
 |_=>none
def OF.vK (P:Program)(s d sz:Nat):OF->Option OF
 |.sr x T=>if x=s/\vw P T=sz then some (.ep d T 0)else none
 |.ref x r=>if x=s/\r.off=0/\vw P r.ty=sz then some (.ep d r.ty 0)else none
 |_=>none
def OF.part (s d off k:Nat):OF->Option OF
 |.ref x r=>if x=s/\off<=r.off/\r.off<off+k then some (.ref d ⟨r.off-off,r.ty,r.m⟩)else none
 |_=>none
def OF.aee (s d i:Nat):OF->Option OF
 |.Bg x j r=>if x=s/\j=i then some (.ref d r)else none
 |_=>none
def OF.rowP (b d off k:Nat):OF->Option OF
 |.row x r=>if x=b/\off<=r.off/\r.off<off+k then some (.ref d ⟨r.off-off,r.ty,r.m⟩)else none
 |_=>none
def OF.ldv (Γ : List OF)(s d k:Nat):OF->List OF
 |.vp x b o=>if x=s then Γ.filterMap (OF.rowP b d o k)else []
 |_=>[]
section
variable {P:Program} {F:Ov} {g:Own} {dp:Nat} {Γ : List OF} {a:Act} {w:World} {d s:Nat} {v:Value}
theorem BP.copy {f f':OF}(h:BP P F g dp a w f)(hr:f.re s d=some f')(hd:d<a.tmps.size)(hv:v=a.tmps.getD s undef):BP P F g dp (a.put (some d) v) w f':=by
 have hs:=ig (v:=v) hd;subst hv;cases f with
 |sr x T=>simp only[OF.re]at hr;split at hr<;>cases hr;rename_i e;subst e;simp only[BP,hs]at h⊢;exact h
 |ep x T o=>simp only[OF.re]at hr;split at hr<;>cases hr;rename_i e;subst e;simp only[BP,hs]at h⊢;exact h
 | vp x b o=>simp only[OF.re]at hr;split at hr<;>cases hr;rename_i e;obtain⟨rfl,hb⟩:=e;simp only[BP,hs,mJ hb]at h⊢;exact h
 |ref x r=>simp only[OF.re]at hr;split at hr<;>cases hr;rename_i e;subst e;simp only[BP,hs]at h⊢;exact h
 |Bg x i r=>simp only[OF.re]at hr;split at hr<;>cases hr;rename_i e;subst e;simp only[BP,hs]at h⊢;exact h
 |fn x k=>simp only[OF.re]at hr;split at hr<;>cases hr;rename_i e;subst e;simp only[BP,hs]at h⊢;exact h
 |row b r=>cases hr
theorem BP.lH {f f':OF}{off:Nat}{p:Addr}(h:BP P F g dp a w f)(hr:f.lH P s d off=some f')(hd:d<a.tmps.size)(hp:a.tmps.getD s undef = .pointer (some p))(hv:v = .pointer (some (p.add off))) :
 BP P F g dp (a.put (some d) v) w f':=by
 have hs:=ig (v:=v) hd;cases f with
 | ep x T o=>simp only[OF.lH]at hr;split at hr<;>cases hr;rename_i e;obtain⟨rfl,hlt⟩:=e;obtain⟨k,o',h1,h2,h3⟩:=h;rw[hp]at h1;cases h1;refine⟨k,o'+off,by rw[hs,hv,Addr.o9],h2,λB hB=>?_⟩;obtain⟨hB1,hB2⟩:=h3 B hB;refine⟨hB1,?_⟩;rw[Nat.add_mod,hB2,sS (show off<vw P T by omega),sS hlt]
 | vp x b o=>simp only[OF.lH]at hr;split at hr<;>cases hr;rename_i e;obtain⟨rfl,hb⟩:=e;obtain⟨k,row,h1,h2,h3⟩:=h;rw[hp]at h2;cases h2;exact⟨k,row,by rw[mJ hb];exact h1,by rw[hs,hv,Addr.o9],h3⟩
 |sr _ _=>cases hr
 |ref _ _=>cases hr
 |Bg _ _ _=>cases hr
 |row _ _=>cases hr
 |fn _ _=>cases hr
theorem BP.vK {f f':OF}{sz i:Nat}{p:Addr}{m c:Nat}(hg:Good P g w)(h:BP P F g dp a w f)(hr:f.vK P s d sz=some f')(hd:d<a.tmps.size)(hp:a.tmps.getD s undef = .slice (some p) m c)(hv:v = .pointer (some (p.add (i*sz)))) :
 BP P F g dp (a.put (some d) v) w f':=by
 have hs:=ig (v:=v) hd;cases f with
 | sr x T=>simp only[OF.vK]at hr;split at hr<;>cases hr;rename_i e;obtain⟨rfl,rfl⟩:=e;obtain⟨k,o',h1,h2,h3⟩:=h p m c hp;subst h1;refine⟨k,o'+i*vw P T,by rw[hs,hv,Addr.o9],h2,λB hB=>?_⟩;obtain⟨hB1,hB2⟩:=h3 B hB;exact⟨hB1,by rw[Nat.add_mul_mod_self_right];exact hB2⟩
 | ref x r=>
   simp only[OF.vK]at hr;split at hr<;>cases hr;rename_i e;obtain⟨rfl,h0,rfl⟩:=e;obtain⟨u,h1,h2⟩:=h;rw[hp,h0]at h1;simp[lW]at h1;subst h1;rcases h2 with h|⟨k,n,c',h3,h4⟩
   ·cases h
   ·cases h3;refine⟨k,0+i*vw P r.ty,by rw[hs,hv,Addr.o9],hg.lt h4.1,λB hB=>?_⟩;rw[h4.1]at hB;cases hB;exact⟨⟨_,rfl⟩,nV⟩
 |ep _ _ _=>cases hr
 |vp _ _ _=>cases hr
 |Bg _ _ _=>cases hr
 |row _ _=>cases hr
 |fn _ _=>cases hr
theorem BP.part {f f':OF}{off k:Nat}(h:BP P F g dp a w f)(hr:f.part s d off k=some f')(hd:d<a.tmps.size)
 (hv:∀j u,j<k->(a.tmps.getD s undef).cells[off+j]? = some u->v.cells[j]? = some u\/¬ ∃b n c,u = .slice b n c):BP P F g dp (a.put (some d) v) w f':=by
 have hs:=ig (v:=v) hd;cases f with
 | ref x r=>
   simp only[OF.part]at hr;split at hr<;>cases hr;rename_i e;obtain⟨rfl,h1,h2⟩:=e;obtain⟨u,hu,hg⟩:=h;have:=hv (r.off-off) u aI (by rw[show off+(r.off-off)=r.off by omega];exact hu);rcases this with h3|h3
   ·exact⟨u,by rw[hs];exact h3,hg⟩
   ·exact aY (by rcases hg with e|⟨k,n,c,e,_⟩<;>exact⟨_,_,_,e⟩) h3
 |sr _ _=>cases hr
 |ep _ _ _=>cases hr
 |vp _ _ _=>cases hr
 |Bg _ _ _=>cases hr
 |row _ _=>cases hr
 |fn _ _=>cases hr
theorem BP.aee {f f':OF}{i:Nat}{vs:Array Value}(h:BP P F g dp a w f)(hr:f.aee s d i=some f')(hd:d<a.tmps.size)(hp:a.tmps.getD s undef = .tuple vs)(hv:vs[i]? = some v):BP P F g dp (a.put (some d) v) w f':=by
 have hs:=ig (v:=v) hd;cases f with
 | Bg x j r=>simp only[OF.aee]at hr;split at hr<;>cases hr;rename_i e;obtain⟨rfl,rfl⟩:=e;obtain⟨vs',y,u,h1,h2,h3,h4⟩:=h;rw[hp]at h1;cases h1;rw[hv]at h2;cases h2;exact⟨u,by rw[hs];exact h3,h4⟩
 |sr _ _=>cases hr
 |ep _ _ _=>cases hr
 |vp _ _ _=>cases hr
 |ref _ _=>cases hr
 |row _ _=>cases hr
 |fn _ _=>cases hr
theorem BP.ldv {f f':OF}{k:Nat}{p:Addr}(hg:Good P g w)(Yi:∀f,f ∈ Γ -> BP P F g dp a w f)(hf:f ∈ Γ)(hr:f'∈f.ldv Γ s d k)(hd:d<a.tmps.size)(hp:a.tmps.getD s undef = .pointer (some p))
 (hv:∀j u,j<k->w.cell? (p.add j)=some u->v.cells[j]? = some u\/¬ ∃b n c,u = .slice b n c):BP P F g dp (a.put (some d) v) w f':=by
 have hs:=ig (v:=v) hd;cases f with
 | vp x b o=>
   simp only[OF.ldv]at hr;split at hr
   ·rename_i e;subst e;rw[dQ]at hr;obtain⟨f2,hf2,hr⟩:=hr;cases f2 with
    | row y r=>
      simp only[OF.rowP]at hr;split at hr<;>cases hr;rename_i e;obtain⟨rfl,h1,h2⟩:=e;obtain⟨kk,row,e1,e2,e3⟩:=Yi _ hf;obtain⟨kk',row',e4,e5,e6⟩:=Yi _ hf2;rw[e1]at e4;cases e4;rw[e3]at e5;cases e5;rw[hp]at e2;cases e2;obtain⟨cs,e,hw,hrow⟩:=hg.var _ _ _ _ e3;obtain⟨u,hu,hgr⟩:=hrow r e6;have hc:w.cell? ((⟨kk,o,none⟩:Addr).add (r.off-o))=some u:=by rw[Addr.o9,show o+(r.off-o)=r.off by omega];simp[iy,hw,hu]
      rcases hv (r.off-o) u aI hc with h3|h3
      ·exact⟨u,by rw[hs];exact h3,hgr⟩
      ·exact aY (by rcases hgr with e|⟨k,n,c,e,_⟩<;>exact⟨_,_,_,e⟩) h3
    |sr _ _=>cases hr
    |ep _ _ _=>cases hr
    |vp _ _ _=>cases hr
    |ref _ _=>cases hr
    |Bg _ _ _=>cases hr
    |fn _ _=>cases hr
   ·cases hr
 |sr _ _=>cases hr
 |ep _ _ _=>cases hr
 |ref _ _=>cases hr
 |Bg _ _ _=>cases hr
 |row _ _=>cases hr
 |fn _ _=>cases hr
end
end
section
def oq (P:Program)(Γ : List OF)(d:Nat):Op->List OF
 |.move (.tmp s)=> Γ.filterMap (OF.re s d)
 |.assign (.tmp s)=> Γ.filterMap (OF.re s d)
 |.nilCheck (.tmp s)=> Γ.filterMap (OF.re s d)
 | .fieldAddr t (.tmp s) f=>(match P.underlying t with
   | some (.struct fs)=>(match fs[f]? with
     | some fl=>(match P.info? fl.type with
       |some i=>if i.size=0 then []else Γ.filterMap (OF.lH P s d fl.offset)
       |none=>[])
     |none=>[])
   |_=>[])
 | .indexAddr t (.tmp s) _=>(match P.underlying t with
   | some (.slice e)=>(match P.info? e with
     |some i=> Γ.filterMap (OF.vK P s d i.size)
     |none=>[])
   |_=>[])
 | .field t (.tmp s) f=>(match P.underlying t with
   | some (.struct fs)=>(match fs[f]? with
     | some fl=>(match P.underlying fl.type,P.info? fl.type with
       |some de,some i=> Γ.filterMap (OF.part s d fl.offset (if Hr de then i.size else 1))
       |_,_=>[])
     |none=>[])
   |_=>[])
 |.extract (.tmp s) i=> Γ.filterMap (OF.aee s d i)
 | .load t (.tmp s)=>(match P.underlying t,P.info? t with
   |some de,some i=> Γ.flatMap (OF.ldv Γ s d (if Hr de then i.size else 1))
   |_,_=>[])
 |_=>[]
section
variable {P:Program} {F:Ov} {g:Own} {dp:Nat} {Γ : List OF} {a:Act} {w:World} {d:Nat} {v:Value}
theorem Jv {u:Value}(h:∃b n c,u = .slice b n c):u.cells = #[u]:=by obtain⟨b,n,c,rfl⟩:=h;rfl
theorem Tn {α:Type}{k:IntKind}{i:Int}{n:Int}{c:BoundsCode}{r:α}{w w':World}(h:(boundsPanic k i n c:Sem α).run P w = .ok r w'):False:=by
 unfold boundsPanic at h;simp only at h;split at h
 ·obtain⟨_,_,_,h2⟩:=dM h;cases h2
 ·obtain⟨_,_,_,h2⟩:=dM h;cases h2
theorem afk (h:OW P F g dp Γ a w)(hd:d<a.tmps.size){o:Oper}{w':World}(hr:(execOp a.eval o).run P w = .ok (.value v) w'):∀f,f∈oq P Γ d o.op->BP P F g dp (a.put (some d) v) w f:=by
 intro f hf;have e1:∀t,a.eval (.tmp t)=a.tmps.getD t undef:=λt=>rfl;unfold oq at hf;split at hf
 ·rename_i s ho;rw[dQ]at hf;obtain⟨f0,h0,h1⟩:=hf;simp only[execOp,ho,bM]at hr;cases hr;exact(h.fs f0 h0).copy h1 hd (e1 s)
 ·rename_i s ho;rw[dQ]at hf;obtain⟨f0,h0,h1⟩:=hf;simp only[execOp,ho,bM]at hr;cases hr;exact(h.fs f0 h0).copy h1 hd (e1 s)
 ·rename_i s ho;rw[dQ]at hf;obtain⟨f0,h0,h1⟩:=hf;have hv:v=a.tmps.getD s undef:=by
   simp only[execOp,ho,e1]at hr;split at hr
   ·cases hr
   ·cases hr
   ·cases hr
   ·split at hr
    ·cases hr
    ·obtain⟨y,w1,h2,h3⟩:=dM hr;obtain⟨_,w2,_,h5⟩:=dM h3;split at h5
     ·obtain⟨_,_,h6,_⟩:=dM h5;cases h6
     ·have:=(jb h5).1;cases this
      symm;assumption
    ·have:=(jb hr).1;cases this
     symm;assumption
   ·have:=(jb hr).1;cases this;rfl
  exact(h.fs f0 h0).copy h1 hd hv
 ·rename_i t s fi ho;simp only[execOp,ho]at hr;have hr:=DZ hr;unfold yI at hr;obtain⟨de,w1,h1,h2⟩:=dM hr;obtain⟨hu,rfl⟩:=zJ h1;rw[hu]at hf;split at hf
  ·rename_i fs heq;cases heq;simp only at h2;split at hf
   ·rename_i fl hfl;rw[hfl]at h2;simp only at h2;obtain⟨p,w2,h3,h4⟩:=dM h2;obtain⟨hp,rfl⟩:=PZ h3;obtain⟨q,w3,h5,h6⟩:=dM h4;obtain⟨rfl,rfl⟩:=jb h6;unfold fieldPlace at h5;obtain⟨k,w4,h7,h8⟩:=dM h5;obtain⟨i,hi,rfl,rfl⟩:=Df h7;rw[hi]at hf;simp only at hf;split at hf
    ·cases hf
    ·rename_i hne;rw[ai hne]at h8;obtain⟨rfl,_⟩:=jb h8;rw[dQ]at hf;obtain⟨f0,h9,h10⟩:=hf;exact(h.fs f0 h9).lH h10 hd hp rfl
   ·cases hf
  ·cases hf
 ·rename_i t s ix ho;simp only[execOp,ho]at hr;have hr:=DZ hr;split at hf
  ·rename_i e hu;split at hf
   ·rename_i i hi;rw[dQ]at hf;obtain⟨f0,h0,h1⟩:=hf;unfold sN at hr;obtain⟨ki,w1,h2,h3⟩:=dM hr;obtain⟨k,ii⟩:=ki;have hw1:w1=w:=by
     unfold asIntOf at h2;split at h2<;>first|(obtain⟨_,rfl⟩:=jb h2;rfl)|cases h2
    subst hw1;obtain⟨de,w2,h4,h5⟩:=dM h3;obtain⟨hu',rfl⟩:=zJ h4;rw[hu]at hu';cases hu';rw[e1]at h5;cases hs:a.tmps.getD s undef with
    | slice base len cap=>
      rw[hs]at h5;obtain⟨bl,w3,h6,h7⟩:=dM h5;obtain⟨rfl,rfl⟩:=jb h6;simp only at h7;obtain⟨de2,w4,h8,h9⟩:=dM h7;obtain⟨hu2,rfl⟩:=zJ h8;rw[hu]at hu2;cases hu2;cases base with
      | none=>simp only at h9;exact(Tn h9).elim
      | some p=>
        simp only at h9;split at h9
        ·obtain⟨sz,w5,h12,h13⟩:=dM h9;obtain⟨i',hi',rfl,rfl⟩:=Df h12;rw[hi]at hi';cases hi';have hv:=(jb h13).1;exact(h.fs f0 h0).vK h.good h1 hd hs hv
        ·split at h9
         ·cases h9
         ·exact(Tn h9).elim
    |_=>rw[hs]at h5;obtain⟨_,_,h6,_⟩:=dM h5;cases h6
   ·cases hf
  ·cases hf
 ·rename_i t s fi ho;simp only[execOp,ho,e1]at hr;have hr:=DZ hr;unfold Dt at hr;obtain⟨de,w1,h1,h2⟩:=dM hr;obtain⟨hu,rfl⟩:=zJ h1;rw[hu]at hf;split at hf
  ·rename_i fs heq;cases heq;simp only at h2;split at hf
   ·rename_i fl hfl;rw[hfl]at h2;simp only at h2;obtain⟨cs,w2,h3,h4⟩:=dM h2;have hcs:a.tmps.getD s undef = .agg cs/\w2=w1:=by
     unfold asAgg at h3;split at h3
     ·rename_i heq;obtain⟨rfl,rfl⟩:=jb h3;exact⟨heq,rfl⟩
     ·cases h3
    obtain⟨hcs,rfl⟩:=hcs;unfold part at h4;obtain⟨b,w3,h5,h6⟩:=dM h4;obtain⟨⟨de',hde,rfl⟩,rfl⟩:=aai h5;split at hf
    ·rename_i de2 i akn hi;rw[hde]at akn;cases akn;rw[dQ]at hf;obtain⟨f0,h7,h8⟩:=hf;refine(h.fs f0 h7).part h8 hd λj u hj hu=>?_;rw[hcs]at hu;simp only[lW]at hu;cases hb:Hr de' with
     | true=>
       rw[hb]at h6 hj;simp only[kN]at h6 hj;obtain⟨k,w4,h9,h10⟩:=dM h6;obtain⟨i',hi',rfl,rfl⟩:=Df h9;rw[hi]at hi';cases hi';have hv:=(jb h10).1;subst hv
       left
       simp only[lW];have hlt:=(dm.1 hu).1;rw[Array.getElem?_extract];rw[aF aI];exact hu
     | false=>
       rw[hb]at h6 hj;simp only[nH,if_false]at h6 hj;have hj0:j=0:=(by omega);subst hj0;rw[oG]at hu;rw[hu]at h6;have hv:=(jb h6).1;subst hv;by_cases hs:∃b n c,v = .slice b n c
       ·left;rw[Jv hs];rfl
       ·exact .inr hs
    ·cases hf
   ·cases hf
  ·cases hf
 ·rename_i s i ho;rw[dQ]at hf;obtain⟨f0,h0,h1⟩:=hf;simp only[execOp,ho,e1]at hr;have hr:=DZ hr;unfold Ci at hr;split at hr
  ·rename_i vs heq;split at hr
   ·rename_i x hx;have hv:=(jb hr).1;subst hv;exact(h.fs f0 h0).aee h1 hd heq hx
   ·cases hr
  ·cases hr
 ·rename_i t s ho;simp only[execOp,ho,e1]at hr;have hr:=DZ hr;unfold nM at hr;obtain⟨p,w1,h1,h2⟩:=dM hr;obtain⟨hp,rfl⟩:=PZ h1;obtain⟨_,hld⟩:=Jn h2;split at hf
  ·rename_i de i hde hi;rw[List.mem_flatMap]at hf;obtain⟨f0,h3,h4⟩:=hf;refine BP.ldv h.good h.fs h3 h4 hd hp λj u hj hu=>?_;rcases hld with⟨de',i',h5,h6,h7,h8⟩|⟨de',h5,h6,h7⟩
   ·rw[hde]at h5;cases h5;rw[hi]at h7;cases h7;rw[h6]at hj;exact .inl (h8 j u hj hu)
   ·rw[hde]at h5;cases h5;rw[h6]at hj;simp only[nH,if_false]at hj;have hj0:j=0:=(by omega);subst hj0;rw[Addr.add_zero]at hu;have hv:=h7 u hu;subst hv;by_cases hs:∃b n c,v = .slice b n c
    ·left;rw[Jv hs];rfl
    ·exact .inr hs
  ·cases hf
 ·cases hf
end
end
section
abbrev RR :=List (Nat×Nat×Option Nat)
def Nu (g:Own)(dp:Nat)(cs:Array Value)(R:RR):Prop:=∀e,e∈R->∃u,cs[e.1]? = some u/\match e.2.2 with
 |some m=>GR g u e.2.1 (.tag dp m)
 |none=>Zt u
def ahk : Value->Bool
 |.slice none 0 0=>true
 |_=>false
theorem Pq {v:Value}(h:ahk v=true):Zt v:=by
 unfold ahk at h;split at h
 ·rfl
 ·cases h
def Nk (z:Array Value)(L:List (Nat×Nat)):Option RR:=if L.all λe=>(match z[e.1]? with|some v=>ahk v|none=>false)then some (L.map λe=>(e.1,e.2,none))else none
def Dq (Γ : List OF)(off size:Nat):Operand->RR
 | .tmp s=> Γ.filterMap λf=>match f with
   |.ref y r=>if y=s/\r.off<size then some (off+r.off,r.ty,some r.m)else none
   |_=>none
 |_=>[]
def WQ (place:Nat->Option (Nat×Nat))(Γ : List OF):List (Nat×Operand)->RR->RR
 |[],R=>R
 | (i,x)::r,R=>match place i with
   |some (off,size)=>WQ place Γ r ((R.filter λe=>decide (e.1<off)||decide (off+size<=e.1))++Dq Γ off size x)
   |none=>R
section
variable {P:Program} {F:Ov} {g:Own} {dp:Nat} {Γ : List OF} {a:Act} {w:World}
theorem Yd {z:Array Value}{L:List (Nat×Nat)}{R:RR}(h:Nk z L=some R):Nu g dp z R:=by
 unfold Nk at h;split at h
 ·rename_i hz;cases h;intro e he;rw[bf]at he;obtain⟨e0,h0,rfl⟩:=he;rw[aN]at hz;have:=hz e0 h0;cases hc:z[e0.1]? with
  |none=>rw[hc]at this;cases this
  |some v=>rw[hc]at this;exact⟨v,rfl,Pq this⟩
 ·cases h
theorem Nu.splice {cs:Array Value}{R:RR}(h:Nu g dp cs R){off:Nat}{v:Value}(hfit:off+v.cells.size<=cs.size){x:Operand}(Yi:∀f,f ∈ Γ -> BP P F g dp a w f)(hv:a.eval x=v){cs':Array Value}(hcs:cs'.toList=splice cs.toList off v.cells.toList) :
 Nu g dp cs' ((R.filter λe=>decide (e.1<off)||decide (off+v.cells.size<=e.1))++Dq Γ off v.cells.size x):=by
 have hget:∀j:Nat,cs'[j]? = if j<off then cs[j]? else if j<off+v.cells.size then v.cells[j-off]? else cs[j]?:= λj=>by rw[<- qw,hcs,nU _ _ _ _ (by simpa using hfit)];simp
 intro e he;rw[aS]at he;rcases he with he|he
 ·rw[aU]at he;obtain⟨h1,h2⟩:=he;obtain⟨u,hu,hg⟩:=h e h1;simp only[Bool.or_eq_true,aj]at h2;refine⟨u,?_,hg⟩;rw[hget];rcases h2 with h2|h2
  ·rw[aF h2];exact hu
  ·rw[ai aI,ai aI];exact hu
 ·unfold Dq at he;split at he
  ·rename_i s;rw[dQ]at he;obtain⟨f,hf,he⟩:=he;split at he
   ·rename_i y r;split at he
    ·rename_i hc;cases he;obtain⟨rfl,hlt⟩:=hc;obtain⟨u,hu,hg⟩:=Yi _ hf;have e1:a.eval (.tmp y)=a.tmps.getD y undef:=rfl;rw[e1]at hv;rw[hv]at hu;refine⟨u,?_,hg⟩;rw[hget,ai aI,aF aI,show off+r.off-off=r.off by omega];exact hu
    ·cases he
   ·cases he
  ·cases he
theorem Qy {place:Nat->Option (Nat×Nat)}(Yi:∀f,f ∈ Γ -> BP P F g dp a w f):∀(ps:List (Nat×Operand)) (cs out:Array Value) (R:RR),Nu g dp cs R->pW place cs (ps.map λp=>(p.1,a.eval p.2))=some out->Nu g dp out (WQ place Γ ps R)/\out.size=cs.size
 | [],cs,out,R,h,he=>by simp only[jY,pW]at he;cases he;exact⟨h,rfl⟩
 | (i,x)::r,cs,out,R,h,he=>by
   simp only[bJ,pW]at he;simp only[WQ];cases hp:place i with
   |none=>rw[hp]at he;cases he
   | some q=>
     obtain⟨off,size⟩:=q;rw[hp]at he
     dsimp only at he⊢
     split at he
     ·cases he
     ·rename_i hc;have h1:(a.eval x).cells.size=size:=(by simp at hc;exact hc.1);have h2:off+(a.eval x).cells.size<=cs.size:=(by simp at hc;exact hc.2);have hf:=foldl_set (a.eval x).cells off cs h2;have:=Qy Yi r _ out _ (h.splice h2 Yi rfl hf) he;rw[h1]at this;refine⟨this.1,this.2.trans ?_⟩;rw[<- kS,hf,length_splice _ _ _ (by simpa using h2)];simp
def mk (d j:Nat):Nat:=1000+d*100+j
def rowOf (d:Nat)(R:RR):List Ref:=R.map λe=>⟨e.1,e.2.1,match e.2.2 with|some m=>m|none=>mk d e.1⟩
theorem Rj {cs:Array Value}{R:RR}(h:Nu g dp cs R)(d:Nat):∀r,r∈rowOf d R->∃u,cs[r.off]? = some u/\GR g u r.ty (.tag dp r.m):=by
 intro r hr;rw[rowOf,bf]at hr;obtain⟨e,he,rfl⟩:=hr;obtain⟨u,hu,hg⟩:=h e he;refine⟨u,hu,?_⟩;cases hm:e.2.2 with
 |some m=>rw[hm]at hg;exact hg
 |none=>rw[hm]at hg;exact .inl hg
theorem QV {t:TypeId}{v:Value}{p:Addr}{w w':World}(h:(newVar t v).run P w = .ok p w'):p=⟨w.heap.size,0,none⟩/\w'=w.alloc (.cells v.cells t):=by rw[DL]at h;cases h;exact⟨rfl,rfl⟩
theorem Nl {t:TypeId}{z:Value}{w w':World}(h:(zeroValue t).run P w = .ok z w'):(∃i,P.info? t=some i/\i.zero=some z)/\w'=w:=by
 unfold zeroValue at h;obtain⟨i,w1,h1,h2⟩:=dM h;obtain⟨hi,rfl⟩:=Gy h1;split at h2
 ·rename_i v hv;obtain⟨rfl,rfl⟩:=jb h2;exact⟨⟨i,hi,hv⟩,rfl⟩
 ·cases h2
def VU (d:Nat)(row:List Ref):List OF:=.vp d d 0::row.map (.row d)
theorem OW.VU (h:OW P F g dp Γ a w){d:Nat}(hd:d<a.tmps.size){cs:Array Value}{e:Nat}{row:List Ref}(hc:∀r,r∈row->∃u,cs[r.off]? = some u/\GR g u r.ty (.tag dp r.m)){N:Nat}(hN:N<=w.heap.size) :
 ∃g',Rel dp N g g'/\OW P F g' dp (VU d row ++ Γ.filter (Ff d)) (a.put (some d) (.pointer (some ⟨w.heap.size,0,none⟩))) (w.alloc (.cells cs e)):=by
 have hn:g w.heap.size=none:=by
  cases hg:g w.heap.size with
  |none=>rfl
  |some B=>exact aY (h.good.lt hg) (sQ _)
 have h1:=(h.drop d (.pointer (some ⟨w.heap.size,0,none⟩))).newVar (cs:=cs) (e:=e) (row:=row) (d:=dp) (b:=d) hc;refine⟨_,Rel.new hn hN,h1.good,λf hf=>?_⟩;rw[aS]at hf;have hs:=ig (v:=.pointer (some ⟨w.heap.size,0,none⟩)) hd;have hg:(g.upd w.heap.size (.var row dp d)) w.heap.size=some (.var row dp d):=by simp[tZ]
 rcases hf with hf|hf
 ·simp only[Ab.VU,aO,bf]at hf;rcases hf with rfl|⟨r,hr,rfl⟩
  ·exact⟨w.heap.size,row,hs,hs,hg⟩
  ·exact⟨w.heap.size,row,hs,hg,hr⟩
 ·exact h1.fs f hf
end
end
end Go.Ab
