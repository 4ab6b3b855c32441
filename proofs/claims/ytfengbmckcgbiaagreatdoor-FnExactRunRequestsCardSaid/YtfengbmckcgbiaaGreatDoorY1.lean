/- What abstract codes mean (part 1). No conditions. -/
import Derived.Below
import Derived.OwnWalk
import Derived.Orders
import Derived.Lib.Bytealg
import Derived.Lib.Overlaps
import Derived.Laws.Externs
import Derived.KernelRfl
import Derived.Lib.ItoaNum
import Derived.Laws.Cells
import Derived.Lib.Strings
import Derived.Laws.BytesString
import Derived.Laws.MakeOwn
import Derived.Laws.Tables
import Derived.Laws.CopyRow
import Derived.Laws.AppendOwn
import Derived.Laws.OwnMore
import Derived.Tactics
import Derived.Shelf.Strings.Builder1
import Derived.Shelf.Strconv.Itoa3
import Derived.Lib.AppendIntMem
import Derived.Test.YtfengbmckcgbiaaGreatDoorProg
import Derived.Lib.ItoaLen
import Derived.ProofKit
import Derived.Lib.LaidTab
import Derived.OpenShut
import Derived.Carry
import Derived.Stop.LaidErr
import Derived.Shelf.Vars
import Derived.Test.YtfengbmckcgbiaaGreatDoorCards
import Derived.Test.YtfengbmckcgbiaaGreatDoorTie
import Derived.Deep.DeepHandedRow
import Derived.Deep.DeepWitnessRowRef
import Derived.Lay
set_option linter.unusedVariables false
set_option linter.unusedSimpArgs false
open Array renaming getElem?_push->D6,getElem?_eq_some_iff->eH,getD_eq_getD_getElem?->fH,getElem?_eq_getElem->lZ,length_toList->nN,getElem?_range->qK,getElem?_map->qp,empty_append->uT,getElem?_eq_none->wZ,range->wz,getElem?_toList->xu,size_append->yV,ext'->zB
open BitVec renaming ofInt->Eh
open Bool renaming and_eq_true->ah,not_eq_true'->kW,false_eq_true->qw
open Go.Act renaming put->jI
open Go.Addr renaming add->Cm
open Go.Builtin renaming clear_->Ey,len_->F7,zeroCells->di,append_->iM,firstCells->jc,copy_->ni,lenOf->rX
open Go.Deferred renaming ofValue->AB
open Go.Extern renaming allRows->Ez,findNext->wL,allNextRows->xw,allGenericRows->yA,find->yI,allTypedRows->zi
open Go.Extern.SlicesOverlaps renaming overlaps->yH
open Go.Instr renaming sliceBounds->Ad,fieldAt->BJ,storeAt->BK,alloc->Du,slice->Dv,extract->Fp,field->Gp,sureAddr->kX,loadAt->qM,fill->uS,indexAt->xA,sliceAt->zC
open Go.IntKind renaming i64->yJ
open Go.Lib renaming compareBytes->jZ,indexByte->xB
open Go.Op renaming equalIn->Bo,intArith->Gq,bytesLess->iT
open Go.Result renaming andThen_ok->bQ
open Go.Sem renaming run_bind->dN,run_pure->dw
open Go.Value renaming int->mX,cells->oH,pointer->rY
open Go.World renaming shape?->CE,cell?->iy
open Int renaming natCast_mul->F8,ofNat_le->Ia,toNat_natCast->ai
open List renaming take_zero->AZ,getElem?_zip_eq_some->Bv,length_replicate->CX,getElem?_eq_getElem->aB,mem_cons->aK,getElem?_eq_some_iff->aS,mem_cons_self->bD,mem_filter->bF,mem_append->bG,map_cons->bT,replicate->bW,length_append->bZ,all_eq_true->bf,mem_map->bu,getElem?_append_left->cu,getElem?_map->dG,getD->dI,getElem?_take->dJ,getElem?_append_right->dU,mem_filterMap->eG,mem_of_mem_take->gG,eq_nil_of_length_eq_zero->gJ,all_cons->gU,getElem?_drop->gW,mem_of_getElem?->iF,length_take->iK,length_nil->iU,length_cons->iV,map_nil->jP,append_assoc->ji,getElem?_eq_none->kU,map_toArray->lU,mem_of_mem_drop->lq,nil_append->lu,append_nil->mM,size_toArray->o6,mem_or_eq_of_mem_set->qf,getElem?_set->rq,getElem?_of_mem->vW,eq_of_mem_replicate->vY,length_map->vg,foldl_cons->wG,map_take->xC,getElem?_range->yc,replicate_succ->yg
open List.cons renaming injEq->xZ
open Nat renaming mul_add->AP,le_of_not_lt->BN,lt_irrefl->Bz,min_comm->Ej,le_refl->aF,mul_le_mul_right->aX,add_mul->dL,zero_add->fV,min->gm,lt_of_lt_of_le->lD,beq->oJ,add_zero->sF,add_assoc->tZ,mul_comm->wX,mod_eq_of_lt->xE,mod_lt->xg,mul_one->xy,add_comm->yt
open Option renaming map_some->kL,map_none->lQ,isNone_iff_eq_none->vX
open Option.some renaming injEq->aH
open Prod.mk renaming injEq->dF
open UInt8 renaming ofNat->gy
namespace Go.Ab
open Go
theorem xM {p:Prop}(h:p:=by decide):p:=h
theorem mD {p:Prop}(h:p:=by simp):p:=h
theorem lT {p:Prop}(h:p:=by kernel_rfl):p:=h
theorem aI {p:Prop}(h:p:=by omega):p:=h
abbrev eF :=@absurd
abbrev aY :=@beq_iff_eq
abbrev sN :=@congrArg
abbrev bg :=@decide_eq_false
abbrev dn :=@decide_eq_false_iff_not
abbrev dW :=@decide_eq_true
abbrev aC :=@decide_eq_true_eq
abbrev au :=@if_neg
abbrev aA :=@if_pos
abbrev jY :=@if_true
abbrev IH :=Nat->Option (Array Value)
def IH.cell (I:IH)(a:Addr):Option Value:=
 if a.spot.isSome then none else match I a.block with
  |some c=>c[a.off]?
  |none=>none
def IH.le (I J:IH):Prop:=∀b c,I b=some c->J b=some c
theorem IH.le_refl (I:IH):I.le I:=λ_ _ h=>h
theorem IH.le_trans {I J K:IH}(h:I.le J)(k:J.le K):I.le K:=λb c e=>k b c (h b c e)
theorem IH.N8 {I J:IH}(h:I.le J){a:Addr}{v:Value}(hc:I.cell a=some v):J.cell a=some v:=by
 unfold IH.cell at *;split at hc
 ·cases hc
 ·cases hb:I a.block with
  |none=>simp[hb]at hc
  |some c=>simp[hb]at hc;rename_i hs;simp[hs,h _ _ hb,hc]
def Agree (I:IH)(w:World):Prop:=∀b c,I b=some c->∃e fr,w.heap[b]? = some (.cells c e fr)
theorem Agree.cell {I:IH}{w:World}(h:Agree I w){a:Addr}{v:Value}(hc:I.cell a=some v):w.cell? a=some v:=by
 unfold IH.cell at hc;split at hc
 ·cases hc
 ·cases hb:I a.block with
  |none=>simp[hb]at hc
  | some c=>obtain⟨e,fr,hw⟩:=h _ _ hb;rename_i hs;simp[hb]at hc;simp[iy,hw,hs,hc]
theorem Aa {w:World}{b:Nat}{o:Obj}(h:w.heap[b]? = some o):b<w.heap.size:=(eH.1 h).1
theorem Agree.lt {I:IH}{w:World}(h:Agree I w){b:Nat}{c:Array Value}(hc:I b=some c):b<w.heap.size:=by obtain⟨e,fr,hw⟩:=h _ _ hc;exact Aa hw
inductive Cell where
 |lit (v:Value)
 |str (l:List UInt8)
 |sl (sz:Nat) (es:List (List Cell))
 deriving Inhabited
inductive Rd (I:IH):Value->Cell->Prop
 |lit (v:Value) (hv:v.oneCell'=true):Rd I v (.lit v)
 |str (l:List UInt8) (h:l.length<=maxLen):Rd I (.string ⟨⟨l⟩⟩) (.str l)
 |sl (a:Option Addr) (len cap sz:Nat) (es:List (List Cell)) (u:Nat->Nat->Value)
     (hlen:es.length=len) (hcap:len<=cap) (hmax:cap<=maxLen) (hsz:∀e,e∈es->e.length=sz)
     (ha:0<len->a≠none)
     (hcell:∀ad,a=some ad->∀i j,i<len->j<sz->I.cell (ad.add (i*sz+j))=some (u i j))
     (hr:∀i j c,(es.getD i [])[j]? = some c->Rd I (u i j) c):Rd I (.slice a len cap) (.sl sz es)
theorem Rd.mono {I J:IH}(hle:I.le J){v:Value}{c:Cell}(h:Rd I v c):Rd J v c:=by
 induction h with
 |lit v hv=>exact .lit v hv
 |str l h=>exact .str l h
 | sl a len cap sz es u hlen hcap hmax hsz ha hcell hr ih=>exact .sl a len cap sz es u hlen hcap hmax hsz ha (λad e i j hi hj=>IH.N8 hle (hcell ad e i j hi hj)) ih
theorem Rd.one {I:IH}{v:Value}{c:Cell}(h:Rd I v c):v.oneCell'=true:=by
 cases h with
 |lit v hv=>exact hv
 |str l h=>rfl
 |sl=>rfl
inductive AC where
 |c (x:Cell)
 |ptr (b off:Nat)
 |own (b n sz:Nat)
 |BF (b i sz off:Nat)
 |sub (b lo n:Nat) (c:Option Nat) (sz:Nat)
 |og (sz:Nat)
 |Ik (cs:List Cell)
 |fn (f:FuncId) (caps:List Nat)
 |opt (T b:Nat)
 |zV (b n:Nat)
 |err (g:Bool)
 |Nk
 deriving Inhabited
abbrev Ren :=Nat->Option (Nat×Nat)
def Ren.le (ρ σ:Ren):Prop:=∀b x,ρ b=some x->σ b=some x
theorem Ren.le_refl (ρ:Ren):ρ.le ρ:=λ_ _ h=>h
def GC (I:IH)(ρ:Ren)(v:Value):AC->Prop
 |.c x=>Rd I v x
 |.ptr b off=>∃k cap,ρ b=some (k,cap)/\v = .pointer (some ⟨k,off,none⟩)
 |.own b n _=>∃k cap a c,ρ b=some (k,cap)/\v = .slice a n c/\n<=c/\c<=cap/\(cap≠0->a=some ⟨k,0,none⟩)
 |.BF b i sz off=>∃k cap,ρ b=some (k,cap)/\v = .pointer (some ⟨k,i*sz+off,none⟩)
 |.sub b lo n c sz=>∃k cap a c',ρ b=some (k,cap)/\v = .slice a n c'/\n<=c'/\lo+c'<=cap/\(∀c0,c=some c0->c'=c0)/\(c'≠0\/(lo=0/\cap≠0)->a=some ⟨k,lo*sz,none⟩)
 |.og _=>v = .slice none 0 0
 |.Ik cs=>∃p:Addr,v = .pointer (some p)/\∀(j:Nat) (c:Cell),cs[j]? = some c->∃u,I.cell (p.add j)=some u/\Rd I u c
 |.fn f caps=>∃ks:List Nat,ks.length=caps.length/\(∀(j b k:Nat),caps[j]? = some b->ks[j]? = some k->∃cap,ρ b=some (k,cap)) /\
  v = .func (.func f) #[] (ks.map λk=>rY (some ⟨k,0,none⟩)).toArray
 |.opt T b=>∃k,ρ b=some (k,T)/\(v = .pointer none\/v = .pointer (some ⟨k,0,none⟩))
 |.zV b n=>∃k cap,ρ b=some (k,cap)/\n<=cap/\((cap=0/\v = .slice none 0 0)\/(cap≠0/\v = .slice (some ⟨k,0,none⟩) n cap))
 |.err g=>if g=true then ∃t p,v = .iface t p else v = .nilIface
 |.Nk=>v.oneCell'=true
theorem GC.mono {I J:IH}(hle:I.le J){ρ σ:Ren}(hr:ρ.le σ){v:Value}{x:AC}(h:GC I ρ v x):GC J σ v x:=by
 cases x with
 |c x=>exact Rd.mono hle h
 |ptr b off=>obtain⟨k,cap,h1,h2⟩:=h;exact⟨k,cap,hr _ _ h1,h2⟩
 |own b n sz=>obtain⟨k,cap,a,c,h1,h2⟩:=h;exact⟨k,cap,a,c,hr _ _ h1,h2⟩
 |BF b i sz off=>obtain⟨k,cap,h1,h2⟩:=h;exact⟨k,cap,hr _ _ h1,h2⟩
 |sub b lo n c sz=>obtain⟨k,cap,a,c',h1,h2⟩:=h;exact⟨k,cap,a,c',hr _ _ h1,h2⟩
 |og sz=>exact h
 | Ik cs=>obtain⟨p,hv,hc⟩:=h;exact⟨p,hv,λj c hj=>let ⟨u,h1,h2⟩:=hc j c hj;⟨u,IH.N8 hle h1,h2.mono hle⟩⟩
 | fn f caps=>obtain⟨ks,h1,h2,h3⟩:=h;exact⟨ks,h1,λj b k hb hk=>let ⟨cap,hc⟩:=h2 j b k hb hk;⟨cap,hr _ _ hc⟩,h3⟩
 |opt T b=>obtain⟨k,h1,h2⟩:=h;exact⟨k,hr _ _ h1,h2⟩
 |zV b n=>obtain⟨k,cap,h1,h2⟩:=h;exact⟨k,cap,hr _ _ h1,h2⟩
 |err g=>exact h
 |Nk=>exact h
theorem GC.one {I:IH}{ρ:Ren}{v:Value}{x:AC}(h:GC I ρ v x):v.oneCell'=true:=by
 cases x with
 |c x=>exact Rd.one h
 |ptr b off=>obtain⟨k,cap,h1,rfl⟩:=h;rfl
 |own b n sz=>obtain⟨k,cap,a,c,h1,rfl,_⟩:=h;rfl
 |BF b i sz off=>obtain⟨k,cap,h1,rfl⟩:=h;rfl
 |sub b lo n c sz=>obtain⟨k,cap,a,c',h1,rfl,_⟩:=h;rfl
 |og sz=>simp only[GC]at h;subst h;rfl
 |Ik cs=>obtain⟨p,rfl,hc⟩:=h;rfl
 |fn f caps=>obtain⟨ks,h1,h2,rfl⟩:=h;rfl
 |opt T b=>obtain⟨k,h1,rfl|rfl⟩:=h<;>rfl
 |zV b n=>obtain⟨k,cap,h1,_,⟨_,rfl⟩|⟨_,rfl⟩⟩:=h<;>rfl
 | err g=>
   simp only[GC]at h;split at h
   ·obtain⟨t,p,rfl⟩:=h;rfl
   ·subst h;rfl
 |Nk=>exact h
inductive Box where
 |absent
 |dead
 |var (xs:List AC)
 |dat (sz:Nat) (es:List (List Cell))
 |Hz (sz:Nat) (es:List (List Cell))
 |row (e:Nat) (l:List UInt8)
 deriving Inhabited
def Box.uses (x:Box)(p:Option (Nat×Nat))(k:Nat):Prop:=
 match x with
 |.var _=>∃cap,p=some (k,cap)
 |.dat _ _=>∃cap,p=some (k,cap)/\cap≠0
 |.row _ _=>∃cap,p=some (k,cap)/\cap≠0
 |_=>False
def yD (I:IH)(ρ:Ren)(w:World)(b:Nat):Box->Prop
 |.absent=>ρ b=none
 |.dead=>True
 |.var xs=>∃k cap cs,ρ b=some (k,cap)/\w.heap[k]? = some (.cells cs cap (0,0))/\cs.size=xs.length /\
  ∀(j:Nat) (u:Value) (x:AC),cs[j]? = some u->xs[j]? = some x->GC I ρ u x
 |.dat sz es=>∃k cap,ρ b=some (k,cap)/\es.length<=cap/\cap<=maxLen/\(∀e,e∈es->e.length=sz) /\
  (cap≠0->∃cs e,w.heap[k]? = some (.cells cs e (0,0))/\cs.size=cap*sz/\(∀(j:Nat) (u:Value),cs[j]? = some u->u.oneCell'=true) /\
   ∀(i j:Nat) (c:Cell),(es.getD i [])[j]? = some c->∃u,cs[i*sz+j]? = some u/\Rd I u c)
 |.Hz sz es=>∃k cap,ρ b=some (k,cap)/\es.length<=cap/\cap<=maxLen/\(∀e,e∈es->e.length=sz) /\
  (cap≠0->∃cs,I k=some cs /\
   ∀(i j:Nat) (c:Cell),(es.getD i [])[j]? = some c->∃u,cs[i*sz+j]? = some u/\Rd I u c)
 |.row e l=>∃k cap,ρ b=some (k,cap)/\l.length<=cap/\cap<=maxLen /\
  (cap≠0->∃cs,w.heap[k]? = some (.cells cs e (0,0))/\cs.size=cap/\(∀(j:Nat) (u:Value),cs[j]? = some u->u.oneCell'=true) /\
   ∀(j:Nat) (x:UInt8),l[j]? = some x->cs[j]? = some (.int .u8 x.toNat))
structure BX (I:IH)(ρ:Ren)(w:World)(bx:Nat->Box):Prop where
 ok:∀b,yD I ρ w b (bx b)
 inj:∀b b' k,(bx b).uses (ρ b) k->(bx b').uses (ρ b') k->b=b'
 fresh:∀b k,(bx b).uses (ρ b) k->I k=none
theorem yD.lt {I:IH}{ρ:Ren}{w:World}{b k:Nat}{x:Box}(h:yD I ρ w b x)(hu:x.uses (ρ b) k):k<w.heap.size:=by
 cases x with
 |absent=>exact hu.elim
 |dead=>exact hu.elim
 | var xs=>obtain⟨k',cap,cs,hr,hw,_⟩:=h;obtain⟨cap',hu⟩:=hu;rw[hr]at hu;simp only[aH,dF]at hu;rw[<- hu.1];exact Aa hw
 |Hz sz es=>exact hu.elim
 | row e l=>obtain⟨k',cap,hr,_,_,h⟩:=h;obtain⟨cap',hu,h0⟩:=hu;rw[hr]at hu;simp only[aH,dF]at hu;obtain⟨rfl,rfl⟩:=hu;obtain⟨cs,hw,_⟩:=h h0;exact Aa hw
 | dat sz es=>obtain⟨k',cap,hr,_,_,_,h⟩:=h;obtain⟨cap',hu,h0⟩:=hu;rw[hr]at hu;simp only[aH,dF]at hu;obtain⟨rfl,rfl⟩:=hu;obtain⟨cs,e,hw,_⟩:=h h0;exact Aa hw
inductive AV where
 |one (x:AC)
 |agg (xs:List AC)
 |AA (xs:List (Bool×List AC))
 deriving Inhabited
def NT (I:IH)(ρ:Ren)(vs:List Value)(xs:List AC):Prop:=
 vs.length=xs.length/\∀(j:Nat) (v:Value) (x:AC),vs[j]? = some v->xs[j]? = some x->GC I ρ v x
theorem NT.mono {I J:IH}(hle:I.le J){ρ σ:Ren}(hr:ρ.le σ){vs:List Value}{xs:List AC}(h:NT I ρ vs xs):NT J σ vs xs:=
 ⟨h.1,λj v x hv hx=>(h.2 j v x hv hx).mono hle hr⟩
def GP (I:IH)(ρ:Ren)(v:Value)(p:Bool×List AC):Prop:=
 if p.1 then ∃cs:Array Value,v = .agg cs/\NT I ρ cs.toList p.2 else ∃x,p.2=[x]/\GC I ρ v x
def GV (I:IH)(ρ:Ren)(v:Value):AV->Prop
 |.one x=>GC I ρ v x
 |.agg xs=>∃cs:Array Value,v = .agg cs/\NT I ρ cs.toList xs
 |.AA ps=>∃vs:Array Value,v = .tuple vs/\vs.size=ps.length/\∀(j:Nat) (v:Value) (p:Bool×List AC),vs[j]? = some v->ps[j]? = some p->GP I ρ v p
theorem GP.mono {I J:IH}(hle:I.le J){ρ σ:Ren}(hr:ρ.le σ){v:Value}{p:Bool×List AC}(h:GP I ρ v p):GP J σ v p:=by
 unfold GP at *;split<;>rename_i hp
 ·rw[aA hp]at h;obtain⟨cs,e,hc⟩:=h;exact⟨cs,e,hc.mono hle hr⟩
 ·rw[au hp]at h;obtain⟨x,e,hc⟩:=h;exact⟨x,e,hc.mono hle hr⟩
theorem GV.mono {I J:IH}(hle:I.le J){ρ σ:Ren}(hr:ρ.le σ){v:Value}{x:AV}(h:GV I ρ v x):GV J σ v x:=by
 cases x with
 |one x=>exact GC.mono hle hr h
 |agg xs=>obtain⟨cs,e,hc⟩:=h;exact⟨cs,e,hc.mono hle hr⟩
 |AA ps=>obtain⟨vs,e,hl,hc⟩:=h;exact⟨vs,e,hl,λj v p hv hp=>(hc j v p hv hp).mono hle hr⟩
inductive Slot where
 |none
 |v (g:Bool) (x:AV)
def GSl (I:IH)(ρ:Ren)(v:Value):Slot->Prop
 |.none=>True
 |.v g x=>(g=true->GV I ρ v x)/\(g=false->v=undef)
theorem GSl.mono {I J:IH}(hle:I.le J){ρ σ:Ren}(hr:ρ.le σ){v:Value}{s:Slot}(h:GSl I ρ v s):GSl J σ v s:=by
 cases s with
 |none=>trivial
 |v g x=>exact⟨λhg=>(h.1 hg).mono hle hr,h.2⟩
structure gZ where
 tm:Nat->Slot
 bx:Nat->Box
theorem gZ.ext' {s t:gZ}(h1:s.tm=t.tm)(h2:s.bx=t.bx):s=t:=by cases s;cases t;simp at h1 h2;rw[h1,h2]
def gZ.put (st:gZ)(t:Nat)(s:Slot):gZ:=⟨λt'=>if t'=t then s else st.tm t',st.bx⟩
def gZ.Am (st:gZ)(b:Nat)(x:Box):gZ:=⟨st.tm,λb'=>if b'=b then x else st.bx b'⟩
theorem gZ.V4 (st:gZ)(t t':Nat)(s:Slot):(st.put t s).tm t'=if t'=t then s else st.tm t':=rfl
theorem gZ.am6 (st:gZ)(t:Nat)(s:Slot):(st.put t s).bx=st.bx:=rfl
theorem gZ.alf (st:gZ)(b:Nat)(x:Box):(st.Am b x).tm=st.tm:=rfl
theorem gZ.tq (st:gZ)(b b':Nat)(x:Box):(st.Am b x).bx b'=if b'=b then x else st.bx b':=rfl
structure GS (I:IH)(ρ:Ren)(n:Nat)(st:gZ)(a:Act)(w:World):Prop where
 agree:Agree I w
 bx:BX I ρ w st.bx
 tm:∀t,t<n->GSl I ρ (a.tmps.getD t undef) (st.tm t)
 size:a.tmps.size=n
 defers:a.defers=[]
structure DN (w w':World)(M:Nat->Prop):Prop where
 os:w'.os=w.os
 tape:w'.tape=w.tape
 output:w'.output=w.output
 size:w.heap.size<=w'.heap.size
 block:∀k,k<w.heap.size->¬M k->w'.heap[k]? = w.heap[k]?
theorem DN.refl (w:World)(M:Nat->Prop):DN w w M:=⟨rfl,rfl,rfl,aF _,λ_ _ _=>rfl⟩
theorem DN.trans {a b c:World}{M N:Nat->Prop}(h:DN a b M)(k:DN b c N)(hN:∀x,x<a.heap.size->N x->M x):DN a c M:=
 ⟨k.os.trans h.os,k.tape.trans h.tape,k.output.trans h.output,Nat.le_trans h.size k.size,
  λx hx hm=>(k.block x (lD hx h.size) (λhn=>hm (hN x hx hn))).trans (h.block x hx hm)⟩
inductive pR where
 |t (s:Nat)
 |k (x:AC)
 deriving Inhabited
def Slot.g : Slot->Bool
 |.none=>false
 |.v g _=>g
def Slot.x : Slot->AV
 |.none=>.one .Nk
 |.v _ x=>x
def pR.ev (tm:Nat->Slot):pR->Slot
 |.t s=>tm s
 |.k x=>.v true (.one x)
def pR.slots : pR->List Nat
 |.t s=>[s]
 |.k _=>[]
inductive nR where
 |mv (x:pR)
 |pick (c a b:pR)
 |load (agg:Bool) (k:Nat) (p:pR)
 |store (agg:Bool) (k:Nat) (p x:pR)
 |alloc (l:Nat) (zs:List AC)
 |O3 (T e l r:Nat)
 |O1 (l sz n:Nat) (zs:List Cell)
 |box (l:Nat) (x:pR)
 |build (zs:List AC) (parts:List (Nat×Nat×pR))
 |uB (l sz n:Nat) (zs:List Cell) (parts:List (Nat×pR))
 |makes (l sz bytes:Nat) (zs:List Cell) (n m:pR)
 |bin (o:BinOp) (x y:pR)
 |beq (ng:Bool) (x y:pR)
 |not (x:pR)
 |neg (x:pR)
 |L6 (k:IntKind) (x:pR)
 |Vl (x:pR)
 |same (x:pR)
 |Y6 (f:FuncId) (caps:List pR)
 |Wn (x:pR) (lo hi:Option pR)
 |Iu (sz:Nat) (x:pR) (lo hi:Option pR)
 |Wl (sz n:Nat) (x:pR)
 |XY (x:pR)
 |nK (off:Nat) (x:pR)
 |field (agg:Bool) (off k:Nat) (x:pR)
 |Ai (sz:Nat) (x i:pR)
 |VH (sz n:Nat) (x i:pR)
 |idxs (x i:pR)
 |extract (x:pR) (i:Nat)
 |len (x:pR)
 |lens (x:pR)
 |max (x y:pR)
 |min (x y:pR)
 |append (l sz bytes:Nat) (s x:pR)
 |copy (sz:Nat) (d x:pR)
 |shf (l:Bool) (x y:pR)
 |afz (x:pR)
 |Ba (sz:Nat) (x:pR) (lo hi:Option pR)
 |sl3 (sz:Nat) (x lo hi mx:pR)
 |abv (l sz bytes:Nat) (s x:pR)
 |Wh (sz:Nat) (d x:pR)
 |adF (sz:Nat) (zs:List Cell) (x:pR)
 |afC (x y:pR)
 |aaN (ng:Bool) (x:pR)
 |ovl (x y:pR)
 |af0 (x y:pR)
 |ace (l sz bytes:Nat) (zs:List Cell) (s x:pR)
 |stop
 deriving Inhabited
def nR.qi : nR->List pR
 |.mv x|.load _ _ x|.box _ x|.not x|.neg x|.L6 _ x|.Vl x|.same x|.Wl _ _ x|.XY x|.nK _ x|.field _ _ _ x|.extract x _|.len x|.lens x|.afz x|.adF _ _ x|.aaN _ x=>[x]
 |.pick c a b=>[c,a,b]
 |.store _ _ p x=>[p,x]
 |.alloc _ _|.O3 _ _ _ _|.O1 _ _ _ _|.stop=>[]
 |.build _ ps=>ps.map (·.2.2)
 |.uB _ _ _ _ ps=>ps.map (·.2)
 |.makes _ _ _ _ n m=>[n,m]
 |.bin _ x y|.beq _ x y|.Ai _ x y|.VH _ _ x y|.idxs x y|.max x y|.min x y|.append _ _ _ x y|.copy _ x y|.shf _ x y|.abv _ _ _ x y|.Wh _ x y|.afC x y|.af0 x y|.ovl x y|.ace _ _ _ _ x y=>[x,y]
 |.sl3 _ x a b c=>[x,a,b,c]
 |.Y6 _ cs=>cs
 |.Wn x lo hi|.Iu _ x lo hi|.Ba _ x lo hi=>x::(lo.toList++hi.toList)
structure FR where
 vc:Prop
 v:AV
 sets:List (Nat×Box)
abbrev yG (k:IntKind)(n:Int):AV:=.one (.c (.lit (.int k n)))
abbrev xW (b:Bool):AV:=.one (.c (.lit (.bool b)))
abbrev LD (l:List UInt8):AV:=.one (.c (.str l))
abbrev vSl (sz:Nat)(es:List (List Cell)):AV:=.one (.c (.sl sz es))
def FR.bad : FR:=⟨False,.one .Nk,[]⟩
def FR.ok (v:AV):FR:=⟨True,v,[]⟩
def Ec (o:BinOp)(k:IntKind)(a b:Int):FR:=
 match o with
 |.add=>.ok (yG k (k.wrap (a+b)))
 |.sub=>.ok (yG k (k.wrap (a-b)))
 |.mul=>.ok (yG k (k.wrap (a*b)))
 |.quo=>⟨b≠0,yG k (k.wrap (a.tdiv b)),[]⟩
 |.rem=>⟨b≠0,yG k (a.tmod b),[]⟩
 |.xor=>.ok (yG k (k.wrap (Eh k.bits a ^^^ Eh k.bits b).toNat))
 |.and=>.ok (yG k (k.wrap (Eh k.bits a &&& Eh k.bits b).toNat))
 |.eql=>.ok (xW (a==b))
 |.neq=>.ok (xW (a != b))
 |.lss=>.ok (xW (decide (a<b)))
 |.leq=>.ok (xW (decide (a<=b)))
 |.gtr=>.ok (xW (decide (b<a)))
 |.geq=>.ok (xW (decide (b<=a)))
 |_=>.bad
def Ef (o:BinOp)(a b:List UInt8):FR:=
 match o with
 |.add=>⟨a.length+b.length<=maxLen,LD (a++b),[]⟩
 |.eql=>.ok (xW (a==b))
 |.neq=>.ok (xW (!(a==b)))
 |.lss=>.ok (xW (iT a b))
 |.leq=>.ok (xW (iT a b||a==b))
 |.gtr=>.ok (xW (!(iT a b||a==b)))
 |.geq=>.ok (xW (!(iT a b)))
 |_=>.bad
def Ub (o:BinOp)(x y:AV):FR:=
 match x,y with
 |.one (.c (.lit (.int k a))),.one (.c (.lit (.int k' b)))=>⟨k=k'/\(Ec o k a b).vc,(Ec o k a b).v,[]⟩
 |.one (.c (.str a)),.one (.c (.str b))=>Ef o a b
 |_,_=>.bad
def aae (neg:Bool)(x y:AV):FR:=
 match x,y with
 |.one (.c (.lit (.bool a))),.one (.c (.lit (.bool b)))=>.ok (xW (if neg then a != b else a==b))
 |_,_=>.bad
def TQ (t:Bool)(x y:AV):AV:=
 match x,y with
 |.one (.c (.lit (.bool a))),.one (.c (.lit (.bool b)))=>xW (bif t then a else b)
 |_,_=>if t then x else y
def Box.arr : Box->Option (Nat×List (List Cell))
 |.dat sz es=>some (sz,es)
 |.Hz sz es=>some (sz,es)
 |_=>none
def dataOf (bx:Nat->Box):AC->Option Cell
 |.c x=>some x
 |.og sz=>some (.sl sz [])
 | .own b n sz=>match(bx b).arr with
   |some (_,es)=>some (.sl sz (es.take n))
   |none=>none
 |_=>none
def LV (bx:Nat->Box):List AC->Option (List Cell)
 |[]=>some []
 | x::r=>match dataOf bx x,LV bx r with
   |some c,some cs=>some (c::cs)
   |_,_=>none
def qH : List AC->List Nat
 |[]=>[]
 |.own b _ _::r=>b::qH r
 |_::r=>qH r
def JF : Box->Box
 |.dat sz es=>.Hz sz es
 |x=>x
def BA (bx:Nat->Box):List AC->Prop
 |[]=>True
 | .own b n sz::r=>(match(bx b).arr with
   |some (sz',es)=>sz'=sz/\n<=es.length
   |none=>False)/\BA bx r
 |_::r=>BA bx r
def YR (bx:Nat->Box)(l:List Nat):List (Nat×Box):=l.map λb=>(b,JF (bx b))
def AV.cells : AV->List AC
 |.one x=>[x]
 |.agg xs=>xs
 |.AA _=>[]
def AV.flat : AV->Prop
 |.AA _=>False
 |_=>True
def splice {α:Type}(xs:List α)(off:Nat)(ys:List α):List α:=xs.take off++ys++xs.drop (off+ys.length)
def BC (agg:Bool)(k:Nat)(p:AV)(bx:Nat->Box):FR:=
 match p with
 | .one (.ptr b off)=>match bx b with
   | .var xs=>if agg then⟨off+k<=xs.length,.agg ((xs.drop off).take k),[]⟩else match xs[off]? with
     |some x=>.ok (.one x)
     |none=>.bad
   |_=>.bad
 | .one (.BF b i sz off)=>match(bx b).arr with
   | some (sz',es)=>if agg then⟨sz'=sz/\i<es.length/\off+k<=sz,.agg ((((es.getD i []).drop off).take k).map .c),[]⟩
     else⟨sz'=sz/\i<es.length/\off<sz,.one (.c ((es.getD i []).getD off default)),[]⟩
   |_=>.bad
 |.one (.Ik cs)=>if agg then⟨k<=cs.length,.agg ((cs.take k).map .c),[]⟩else⟨0<cs.length,.one (.c (cs.getD 0 default)),[]⟩
 |_=>.bad
def Bc (agg:Bool)(k:Nat)(p x:AV)(bx:Nat->Box):FR:=
 match x,agg with
 |.AA _,_=>.bad
 |.one _,true=>.bad
 |.agg _,false=>.bad
 | x,_=>match p with
   | .one (.ptr b off)=>match bx b with
     |.var xs=>⟨x.cells.length=k/\off+k<=xs.length,.one .Nk,[(b,.var (splice xs off x.cells))]⟩
     |_=>.bad
   | .one (.BF b i sz off)=>match bx b,LV bx x.cells with
     |.dat sz' es,some cs=>⟨sz'=sz/\cs.length=k/\i<es.length/\off+k<=sz/\BA bx x.cells/\(qH x.cells).contains b=false,.one .Nk,YR bx (qH x.cells)++[(b,.dat sz (es.set i (splice (es.getD i []) off cs)))]⟩
     |_,_=>.bad
   |_=>.bad
def Vu {α:Type}(zs:List α):List (Nat×List α)->List α
 |[]=>zs
 |(off,xs)::r=>Vu (splice zs off xs) r
def Zg (n:Nat):Nat×Nat×AV->Prop
 |(off,sz,x)=>x.cells.length=sz/\off+sz<=n/\x.flat
def Bi (ev:pR->AV)(bx:Nat->Box)(n sz:Nat):List (Nat×pR)->Option (List (Nat×List Cell))
 |[]=>some []
 | (i,x)::r=>match LV bx (ev x).cells,Bi ev bx n sz r with
   |some cs,some l=>some ((i,cs)::l)
   |_,_=>none
def xh (ev:pR->AV):List (Nat×pR)->List Nat
 |[]=>[]
 |(_,x)::r=>qH (ev x).cells++xh ev r
def CU (ev:pR->AV)(bx:Nat->Box):List (Nat×pR)->Prop
 |[]=>True
 |(_,x)::r=>BA bx (ev x).cells/\CU ev bx r
def Qk (es:List (List Cell)):List (Nat×List Cell)->List (List Cell)
 |[]=>es
 |(i,cs)::r=>Qk (es.set i cs) r
def bytesOf : List (List Cell)->Option (List UInt8)
 |[]=>some []
 | [.lit (.int .u8 n)]::r=>match bytesOf r with
   |some l=>some (gy n.toNat::l)
   |none=>none
 |_=>none
def JE : List AV->Option (List Nat)
 |[]=>some []
 |.one (.ptr b 0)::r=>(JE r).map (b :: ·)
 |_=>none
def bnd (ev:pR->AV)(o:Option pR)(dflt:Nat):Option Int:=
 match o with
 |none=>some dflt
 | some x=>match ev x with
   |.one (.c (.lit (.int _ n)))=>some n
   |_=>none
def zy (sz:Nat)(x:AV)(bx:Nat->Box):Option (Prop×List (List Cell)):=
 match x with
 |.one (.c (.sl sz' es))=>some (sz'=sz,es)
 |.one (.og _)=>some (True,[])
 | .one (.own b n sz')=>match(bx b).arr with
   |some (DL,es)=>some (sz'=sz/\DL=sz/\n<=es.length,es.take n)
   |_=>none
 | .one (.sub b lo n _ sz')=>match(bx b).arr with
   |some (DL,es)=>some (sz'=sz/\DL=sz/\lo+n<=es.length,(es.drop lo).take n)
   |_=>none
 |_=>none
def FN : AV->Option (Nat×Nat×Nat×Option Nat×Nat)
 |.one (.own b n sz)=>some (b,0,n,none,sz)
 |.one (.sub b lo n c sz)=>some (b,lo,n,c,sz)
 |_=>none
def Zw (l:Bool)(x y:AV):FR:=
 match x,y with
 |.one (.c (.lit (.int k a))),.one (.c (.lit (.int _ b)))=>⟨0<=b,yG k (if l then k.wrap (a*2^(min b.toNat k.bits))else a.fdiv (2^(min b.toNat k.bits))),[]⟩
 |_,_=>.bad
def WX (x:AV):FR:=
 match x with
 |.one (.sub _ _ _ (some c) _)=>.ok (yG .i64 c)
 |.one (.og _)=>.ok (yG .i64 0)
 |_=>.bad
def Bl (sz:Nat)(x:AV)(lo:Option Int)(hi:Nat->Option Int):FR:=
 match FN x with
 | some (b,l,n,c,sz')=>match lo,hi n with
   |some p,some q=>⟨sz'=sz/\0<=p/\p<=q/\q<=(match c with|some c=>c|none=>n:Nat),.one (.sub b (l+p.toNat) (q-p).toNat (c.map (· - p.toNat)) sz),[]⟩
   |_,_=>.bad
 |none=>.bad
def NH (sz:Nat)(x p q m:AV):FR:=
 match FN x,p,q,m with
 |some (_,_,n,c,sz'),.one (.c (.lit (.int _ p))),.one (.c (.lit (.int _ q))),.one (.c (.lit (.int _ m)))=>⟨sz'=sz/\0<=p/\p<=q/\q<=m/\m<=(match c with|some c=>c|none=>n:Nat),.one .Nk,[]⟩
 |_,_,_,_=>.bad
def H6 (l sz bytes:Nat)(s x:AV)(bx:Nat->Box):FR:=
 match zy sz x bx,s with
 | some (p,ys),.one (.sub b lo n (some c) sz')=>match bx b with
   | .dat DL es=>if n+ys.length<=c then⟨p/\sz'=sz/\DL=sz/\lo+n<=es.length,.one (.sub b lo (n+ys.length) (some c) sz),[(b,.dat sz (splice es (lo+n) ys))]⟩
     else⟨p/\sz'=sz/\DL=sz/\lo+n<=es.length/\(match bx l with|.absent=>True|_=>False)/\(n+ys.length)*(bytes+sz+1)<=2^46,.one (.own l (n+ys.length) sz),[(l,.dat sz ((es.drop lo).take n++ys))]⟩
   |_=>.bad
 |_,_=>.bad
def truncS (m:Nat):AV->AV
 |.one (.sub b lo n c sz)=>.one (.sub b lo (min n m) c sz)
 |x=>x
def H8 (sz:Nat)(d x:AV)(bx:Nat->Box):FR:=
 match FN d with
 | some (b,lo,n,_,sz')=>match zy sz (truncS n x) bx with
   | some (p,ys)=>match bx b with
     |.dat DL es=>⟨p/\sz'=sz/\DL=sz/\lo<=es.length,yG .i64 (gm ys.length n:Nat),[(b,.dat sz (splice es lo (ys.take n)))]⟩
     |_=>.bad
   |none=>.bad
 |none=>.bad
def Hu (l sz bytes:Nat)(zs:List Cell)(s x:AV)(bx:Nat->Box):FR:=
 match s,x with
 | .one (.sub b lo n (some c) sz'),.one (.c (.lit (.int k q)))=>match bx b with
   |.dat DL es=>⟨k = .i64/\sz'=sz/\DL=sz/\lo+n<=es.length/\0<=q/\c<n+q.toNat/\(match bx l with|.absent=>True|_=>False)/\(n+q.toNat)*(bytes+sz+1)<=2^46,
    .one (.own l (n+q.toNat) sz),[(l,.dat sz ((es.drop lo).take n++bW q.toNat zs))]⟩
   |_=>.bad
 |.one (.og _),.one (.c (.lit (.int k q)))=>⟨k = .i64/\0<q/\(match bx l with|.absent=>True|_=>False)/\q.toNat*(bytes+sz+1)<=2^46,.one (.own l q.toNat sz),[(l,.dat sz (bW q.toNat zs))]⟩
 |_,_=>.bad
def Lc (ng:Bool)(x:AV):FR:=
 match x with
 |.one (.err g)=>.ok (xW (if ng then g else !g))
 |_=>.bad
def Qe (x y:AV):FR:=
 match x,y with
 |.one (.c (.str a)),.one (.c (.str b))=>.ok (yG .i64 (jZ a b))
 |_,_=>.bad
def Qp (x y:AV):FR:=
 match x,y with
 |.one (.c (.str a)),.one (.c (.lit (.int k c)))=>⟨k = .u8,yG .i64 (xB a c.toNat.toUInt8),[]⟩
 |_,_=>.bad
def Zc (x y:AV)(bx:Nat->Box):FR:=
 match FN x,FN y with
 | some (b,_,m,_,_),some (b',_,m',_,_)=>match bx b,bx b' with
   |.dat _ _,.dat sz _=>⟨b≠b'/\sz≠0/\0<m/\0<m',xW false,[]⟩
   |_,_=>.bad
 |_,_=>.bad
def H7 (sz:Nat)(zs:List Cell)(d:AV)(bx:Nat->Box):FR:=
 match FN d with
 | some (b,lo,n,_,sz')=>match bx b with
   |.dat DL es=>⟨sz'=sz/\DL=sz/\lo<=es.length,.AA [],[(b,.dat sz (splice es lo (bW n zs)))]⟩
   |_=>.bad
 |none=>.bad
def nR.f (op:nR)(ev:pR->AV)(bx:Nat->Box):FR:=
 match op with
 |.mv x=>.ok (ev x)
 | .pick c a b=>match ev c with
   |.one (.c (.lit (.bool t)))=>.ok (TQ t (ev a) (ev b))
   |_=>.bad
 |.load agg k p=>BC agg k (ev p) bx
 |.store agg k p x=>Bc agg k (ev p) (ev x) bx
 |.alloc l zs=>⟨(match bx l with|.absent=>True|_=>False),.one (.ptr l 0),[(l,.var zs)]⟩
 |.O3 T e l r=>⟨(match bx l with|.absent=>True|_=>False)/\(match bx r with|.absent=>True|_=>False)/\l≠r,.one (.ptr l 0),[(r,.row e []),(l,.var [.opt T l,.zV r 0])]⟩
 |.O1 l sz n zs=>⟨(match bx l with|.absent=>True|_=>False),.one (.BF l 0 sz 0),[(l,.dat sz (bW n zs))]⟩
 |.box l x=>⟨(match bx l with|.absent=>True|_=>False)/\(ev x).flat,.one (.ptr l 0),[(l,.var (ev x).cells)]⟩
 |.build zs ps=>⟨(∀p,p∈ps->Zg zs.length (p.1,p.2.1,ev p.2.2)),.agg (Vu zs (ps.map λp=>(p.1,(ev p.2.2).cells))),[]⟩
 | .uB l sz n zs ps=>match Bi ev bx n sz ps with
   |some l'=>⟨(match bx l with|.absent=>True|_=>False)/\(∀p,p∈l'->p.1<n/\p.2.length=sz)/\CU ev bx ps,.one (.own l n sz),YR bx (xh ev ps)++[(l,.dat sz (Qk (bW n zs) l'))]⟩
   |none=>.bad
 | .makes l sz bytes zs n m=>match ev n,ev m with
   | .one (.c (.lit (.int _ n))),.one (.c (.lit (.int _ m)))=>⟨(match bx l with|.absent=>True|_=>False)/\0<=n/\n<=m/\bytes*m<=2^47/\m<=2^47,.one (.own l n.toNat sz),[(l,.dat sz (bW n.toNat zs))]⟩
   |_,_=>.bad
 |.bin o x y=>Ub o (ev x) (ev y)
 |.beq ng x y=>aae ng (ev x) (ev y)
 | .not x=>match ev x with
   |.one (.c (.lit (.bool b)))=>.ok (xW (!b))
   |_=>.bad
 | .neg x=>match ev x with
   |.one (.c (.lit (.int k n)))=>.ok (yG k (k.wrap (0-n)))
   |_=>.bad
 | .L6 k x=>match ev x with
   |.one (.c (.lit (.int _ n)))=>.ok (yG k (k.wrap n))
   |_=>.bad
 | .Vl x=>match zy 1 (ev x) bx with
   | some (p,es)=>match bytesOf es with
     |some l=>⟨p/\l.length<=maxLen,LD l,[]⟩
     |none=>.bad
   |none=>.bad
 | .same x=>match ev x with
   |.one (.c (.str l))=>.ok (LD l)
   |_=>.bad
 | .Y6 f cs=>match JE (cs.map ev)with
   |some l=>.ok (.one (.fn f l))
   |none=>.bad
 | .Wn x lo hi=>match ev x with
   | .one (.c (.str s))=>match bnd ev lo 0,bnd ev hi s.length with
     |some a,some b=>⟨0<=a/\a<=b/\b<=s.length,LD ((s.take b.toNat).drop a.toNat),[]⟩
     |_,_=>.bad
   |_=>.bad
 | .Iu sz x lo hi=>match ev x with
   | .one (.c (.sl sz' es))=>match bnd ev lo 0,bnd ev hi es.length with
     |some a,some b=>⟨sz'=sz/\0<=a/\a<=b/\b<=es.length,vSl sz ((es.take b.toNat).drop a.toNat),[]⟩
     |_,_=>.bad
   | .one (.og sz')=>match bnd ev lo 0,bnd ev hi 0 with
     |some a,some b=>⟨a=0/\b=0,.one (.og sz'),[]⟩
     |_,_=>.bad
   | .one (.own l n sz')=>match bnd ev lo 0,bnd ev hi n with
     |some a,some b=>⟨a=0/\0<=b/\b<=n,.one (.own l b.toNat sz'),[]⟩
     |_,_=>.bad
   |_=>.bad
 | .Wl sz n x=>match ev x with
   | .one (.BF b 0 sz' 0)=>match bx b with
     |.dat DL es=>⟨sz'=sz/\DL=sz/\es.length=n/\n≠0,.one (.own b n sz),[]⟩
     |_=>.bad
   |_=>.bad
 | .XY x=>match ev x with
   |.one (.ptr b o)=>.ok (.one (.ptr b o))
   |.one (.BF b i sz o)=>.ok (.one (.BF b i sz o))
   |.one (.Ik cs)=>.ok (.one (.Ik cs))
   |.one (.fn f cs)=>.ok (.one (.fn f cs))
   |_=>.bad
 | .nK off x=>match ev x with
   |.one (.ptr b o)=>.ok (.one (.ptr b (o+off)))
   |.one (.BF b i sz o)=>.ok (.one (.BF b i sz (o+off)))
   |.one (.Ik cs)=>.ok (.one (.Ik (cs.drop off)))
   |_=>.bad
 | .field agg off k x=>match ev x with
   | .agg xs=>if agg then⟨off+k<=xs.length,.agg ((xs.drop off).take k),[]⟩else match xs[off]? with
     |some x=>.ok (.one x)
     |none=>.bad
   |_=>.bad
 | .Ai sz x i=>match ev x,ev i with
   |.one (.c (.sl sz' es)),.one (.c (.lit (.int _ i)))=>⟨sz'=sz/\0<=i/\i<es.length,.one (.Ik (es.getD i.toNat [])),[]⟩
   |.one (.own b n sz'),.one (.c (.lit (.int _ i)))=>⟨sz'=sz/\0<=i/\i<n,.one (.BF b i.toNat sz 0),[]⟩
   |.one (.sub b lo n _ sz'),.one (.c (.lit (.int _ i)))=>⟨sz'=sz/\0<=i/\i<n,.one (.BF b (lo+i.toNat) sz 0),[]⟩
   |_,_=>.bad
 | .VH sz n x i=>match ev x,ev i with
   |.one (.BF b 0 sz' 0),.one (.c (.lit (.int _ i)))=>⟨sz'=sz/\0<=i/\i<n,.one (.BF b i.toNat sz 0),[]⟩
   |_,_=>.bad
 | .idxs x i=>match ev x,ev i with
   |.one (.c (.str s)),.one (.c (.lit (.int _ i)))=>⟨0<=i/\i<s.length,yG .u8 (s.getD i.toNat 0).toNat,[]⟩
   |_,_=>.bad
 | .extract x i=>match ev x with
   | .AA ps=>match ps[i]? with
     |some (true,xs)=>.ok (.agg xs)
     |some (false,[x])=>.ok (.one x)
     |_=>.bad
   |_=>.bad
 | .lens x=>match ev x with
   |.one (.c (.str s))=>.ok (yG .i64 s.length)
   |_=>.bad
 | .len x=>match ev x with
   |.one (.c (.sl _ es))=>.ok (yG .i64 es.length)
   |.one (.og _)=>.ok (yG .i64 0)
   |.one (.own _ n _)=>.ok (yG .i64 n)
   |.one (.sub _ _ n _ _)=>.ok (yG .i64 n)
   |_=>.bad
 | .max x y=>match ev x,ev y with
   |.one (.c (.lit (.int k a))),.one (.c (.lit (.int k' b)))=>⟨k=k',yG k (if b>a then b else a),[]⟩
   |_,_=>.bad
 | .min x y=>match ev x,ev y with
   |.one (.c (.lit (.int k a))),.one (.c (.lit (.int k' b)))=>⟨k=k',yG k (if b<a then b else a),[]⟩
   |_,_=>.bad
 | .append l sz bytes s x=>match zy sz (ev x) bx with
   | some (p,ys)=>match ev s with
     |.one (.og _)=>⟨p/\(match bx l with|.absent=>True|_=>False)/\ys.length*(bytes+sz+1)<=2^46,.one (.own l ys.length sz),[(l,.dat sz ys)]⟩
     | .one (.own b n sz')=>match bx b with
       |.dat DL es=>⟨p/\(match bx l with|.absent=>True|_=>False)/\sz'=sz/\DL=sz/\n<=es.length/\(n+ys.length)*(bytes+sz+1)<=2^46/\b≠l,
        .one (.own l (n+ys.length) sz),[(b,.dead),(l,.dat sz (es.take n++ys))]⟩
       |_=>.bad
     |_=>.bad
   |none=>.bad
 | .copy sz d x=>match zy sz (ev x) bx with
   | some (p,ys)=>match ev d with
     | .one (.own b n sz')=>match bx b with
       |.dat DL es=>⟨p/\sz'=sz/\DL=sz/\n<=es.length,yG .i64 (gm ys.length n:Nat),[(b,.dat sz (splice es 0 (ys.take n)))]⟩
       |_=>.bad
     |.one (.og _)=>.ok (yG .i64 0)
     |_=>.bad
   |none=>.bad
 |.shf l x y=>Zw l (ev x) (ev y)
 |.afz x=>WX (ev x)
 |.Ba sz x lo hi=>Bl sz (ev x) (bnd ev lo 0) (bnd ev hi)
 |.sl3 sz x p q m=>NH sz (ev x) (ev p) (ev q) (ev m)
 |.abv l sz bytes s x=>H6 l sz bytes (ev s) (ev x) bx
 |.Wh sz d x=>H8 sz (ev d) (ev x) bx
 |.adF sz zs x=>H7 sz zs (ev x) bx
 |.afC x y=>Qe (ev x) (ev y)
 |.aaN ng x=>Lc ng (ev x)
 |.ovl x y=>Zc (ev x) (ev y) bx
 |.af0 x y=>Qp (ev x) (ev y)
 |.stop=>.bad
 |.ace l sz bytes zs s x=>Hu l sz bytes zs (ev s) (ev x) bx
def lvl : AV->List Nat
 |.one (.ptr b _)=>[b]
 |.one (.own b _ _)=>[b]
 |.one (.BF b _ _ _)=>[b]
 |.one (.sub b _ _ _ _)=>[b]
 |_=>[]
def nR.rd (op:nR)(ev:pR->AV):List Nat:=
 match op with
 |.load _ _ p=>lvl (ev p)
 |.store _ _ p x=>lvl (ev p)++(match ev p with|.one (.BF _ _ _ _)=>qH (ev x).cells|_=>[])
 |.uB l _ _ _ ps=>l::xh ev ps
 |.alloc l _|.O1 l _ _ _|.box l _|.makes l _ _ _ _ _=>[l]
 |.O3 _ _ l r=>[l,r]
 |.Vl x=>lvl (ev x)
 |.Wl _ _ x=>lvl (ev x)
 |.append l _ _ s x=>l::(lvl (ev s)++lvl (ev x))
 |.copy _ d x=>lvl (ev d)++lvl (ev x)
 |.abv l _ _ s x=>l::(lvl (ev s)++lvl (ev x))
 |.Wh _ d x=>lvl (ev d)++lvl (ev x)
 |.adF _ _ x=>lvl (ev x)
 |.ovl x y=>lvl (ev x)++lvl (ev y)
 |.ace l _ _ _ s _=>l::lvl (ev s)
 |_=>[]
end Go.Ab
section
namespace Go.Ab
inductive PK where
 |any
 |own (rs:List (Nat×Nat))
 |var (rs:List (Nat×Nat))
 |fn (s:Nat)
 deriving DecidableEq
structure ZN where
 ps:List PK
 rs:List (List (Nat×Nat))
 deriving DecidableEq
inductive Knd where
 |none
 |rd
 |ow (sg:ZN)
 deriving DecidableEq
def kindOf : Nat->Knd
 |6=>.rd
 |7=>.rd
 |8=>.rd
 |9=>.ow ⟨[.any],[[(0,34)]]⟩
 |10=>.ow ⟨[.any],[[(2,25),(3,25),(7,25),(8,37),(9,45)]]⟩
 |11=>.ow ⟨[.any,.any],[[(0,34)],[(6,25),(7,37)]]⟩
 |12=>.rd
 |13=>.rd
 |14=>.rd
 |18=>.rd
 |19=>.rd
 |20=>.rd
 |21=>.rd
 |22=>.ow ⟨[.any],[[(0,61)]]⟩
 |23=>.ow ⟨[.any,.any],[[(0,34)],[(0,58)]]⟩
 |24=>.rd
 |25=>.rd
 |28=>.rd
 |29=>.rd
 |30=>.ow ⟨[.any,.any],[[(0,34)],[(0,58)],[]]⟩
 |31=>.rd
 |32=>.rd
 |33=>.rd
 |34=>.rd
 |35=>.rd
 |36=>.rd
 |37=>.rd
 |38=>.rd
 |39=>.ow ⟨[.any],[[(0,34)]]⟩
 |40=>.ow ⟨[.any],[[(0,25)]]⟩
 |41=>.ow ⟨[.any],[[(3,25),(4,37)]]⟩
 |42=>.ow ⟨[.any],[[(0,45)]]⟩
 |43=>.rd
 |44=>.rd
 |45=>.ow ⟨[.any,.any],[[(5,25),(6,37)],[]]⟩
 |46=>.ow ⟨[.any],[[(0,34)]]⟩
 |47=>.rd
 |48=>.rd
 |49=>.ow ⟨[.any,.any],[[(0,34)],[(6,25),(7,37)]]⟩
 |50=>.ow ⟨[.any,.any,.any,.any],[[(0,34)],[(6,25),(7,37)]]⟩
 |51=>.rd
 |52=>.rd
 |53=>.rd
 |54=>.rd
 |59=>.rd
 |60=>.rd
 |61=>.rd
 |63=>.rd
 |64=>.ow ⟨[.any,.any,.fn 0],[[(0,34)],[(0,58)]]⟩
 |65=>.rd
 |66=>.rd
 |68=>.rd
 |69=>.rd
 |70=>.rd
 |71=>.rd
 |72=>.rd
 |73=>.rd
 |74=>.rd
 |75=>.rd
 |76=>.rd
 |77=>.rd
 |78=>.rd
 |79=>.rd
 |80=>.rd
 |81=>.rd
 |82=>.rd
 |83=>.rd
 |84=>.rd
 |86=>.rd
 |87=>.rd
 |88=>.ow ⟨[.any],[[(5,25),(6,37)]]⟩
 |89=>.ow ⟨[.any],[[(0,37)]]⟩
 |90=>.ow ⟨[.any],[[(1,25),(2,25),(6,25),(7,37)]]⟩
 |91=>.rd
 |92=>.rd
 |93=>.rd
 |94=>.rd
 |95=>.rd
 |96=>.ow ⟨[.any],[[(5,25),(6,37)]]⟩
 |97=>.rd
 |98=>.rd
 |99=>.rd
 |100=>.rd
 |101=>.ow ⟨[.any,.any],[[(0,34)],[]]⟩
 |102=>.ow ⟨[.any,.any],[[],[]]⟩
 |103=>.ow ⟨[.any,.any,.any],[[(0,34)],[]]⟩
 |104=>.rd
 |105=>.rd
 |106=>.rd
 |107=>.rd
 |108=>.rd
 |109=>.rd
 |110=>.rd
 |111=>.rd
 |112=>.rd
 |113=>.rd
 |114=>.rd
 |116=>.rd
 |117=>.rd
 |118=>.rd
 |119=>.rd
 |120=>.rd
 |121=>.rd
 |122=>.rd
 |123=>.rd
 |124=>.ow ⟨[.any],[[(3,25),(4,37)]]⟩
 |127=>.rd
 |128=>.rd
 |129=>.ow ⟨[.own [(0,34)],.any,.any],[[(0,34)]]⟩
 |130=>.ow ⟨[.any,.any],[[(3,25),(4,37)],[]]⟩
 |131=>.rd
 |132=>.ow ⟨[.own [(0,34)],.own [(5,25),(6,37)]],[[(0,34)]]⟩
 |133=>.rd
 |134=>.rd
 |135=>.rd
 |136=>.rd
 |137=>.rd
 |138=>.rd
 |139=>.rd
 |140=>.rd
 |141=>.rd
 |142=>.rd
 |143=>.rd
 |144=>.rd
 |145=>.rd
 |146=>.rd
 |148=>.rd
 |151=>.rd
 |152=>.rd
 |153=>.ow ⟨[.any,.any],[[(3,25),(4,37)],[]]⟩
 |154=>.ow ⟨[.own [(3,25),(4,37)],.any],[[(3,25),(4,37)],[]]⟩
 |155=>.rd
 |156=>.ow ⟨[.own [(0,34)],.any,.own [(0,34)]],[[(0,34)]]⟩
 |157=>.rd
 |158=>.rd
 |159=>.rd
 |160=>.rd
 |161=>.rd
 |162=>.rd
 |163=>.rd
 |164=>.rd
 |167=>.rd
 |169=>.ow ⟨[.any,.any],[[(3,25),(4,37)],[]]⟩
 |170=>.ow ⟨[.var [(3,25),(4,37)],.any],[]⟩
 |171=>.rd
 |172=>.ow ⟨[.var [(3,25),(4,37)],.any,.own [(3,25),(4,37)]],[]⟩
 |175=>.rd
 |177=>.rd
 |178=>.ow ⟨[.any,.any,.any],[[(3,25),(4,37)],[]]⟩
 |179=>.ow ⟨[.any,.any],[[(3,25),(4,37)],[]]⟩
 |180=>.ow ⟨[.any,.any,.any],[[(3,25),(4,37)],[]]⟩
 |181=>.ow ⟨[.any,.any,.any],[[(3,25),(4,37)],[]]⟩
 |182=>.ow ⟨[.any,.any],[[(3,25),(4,37)],[]]⟩
 |183=>.ow ⟨[.any,.any,.any],[[(3,25),(4,37)],[]]⟩
 |184=>.ow ⟨[.own [(0,25)],.any,.any],[[(0,25)]]⟩
 |185=>.ow ⟨[.own [(0,37)],.any,.any],[[(0,37)]]⟩
 |186=>.rd
 |187=>.rd
 |188=>.ow ⟨[.own [(0,25)],.any,.own [(0,25)]],[[(0,25)]]⟩
 |189=>.ow ⟨[.own [(0,37)],.any,.own [(0,37)]],[[(0,37)]]⟩
 |191=>.rd
 |192=>.rd
 |193=>.rd
 |194=>.rd
 |195=>.rd
 |197=>.ow ⟨[.any,.any,.fn 1],[[(3,25),(4,37)],[]]⟩
 |198=>.ow ⟨[.any,.any,.any,.any],[[(3,25),(4,37)],[]]⟩
 |199=>.ow ⟨[.any,.any,.any],[[(3,25),(4,37)],[]]⟩
 |200=>.ow ⟨[.any,.any,.any],[[(3,25),(4,37)],[]]⟩
 |201=>.rd
 |202=>.ow ⟨[.any,.any],[[(3,25),(4,37)],[]]⟩
 |203=>.rd
 |204=>.rd
 |205=>.rd
 |206=>.rd
 |212=>.rd
 |213=>.rd
 |214=>.rd
 |215=>.rd
 |216=>.rd
 |217=>.rd
 |218=>.rd
 |221=>.rd
 |222=>.rd
 |223=>.rd
 |226=>.rd
 |_=>.none
def ahZ : Nat->ZN
 |0=>⟨[.any],[[(3,25),(4,37)],[]]⟩
 |_=>⟨[],[]⟩
end Go.Ab
end
namespace Go.Ab
open Go
inductive zn where
 |blk (k j:Nat)
 |tag (d m:Nat)
 |dead
 deriving DecidableEq
structure Ref where
 off:Nat
 ty:Nat
 m:Nat
def Ref.beq (r s:Ref):Bool:=oJ r.off s.off&&(oJ r.ty s.ty&&oJ r.m s.m)
theorem Ref.beq_iff {r s:Ref} : r.beq s=true<->r=s:=by cases r;cases s;simp[Ref.beq]
inductive Blk where
 |arr (T:Nat) (p:zn)
 |var (row:List Ref) (d b:Nat)
structure Own where
 b:Nat->Option Blk
 bd:Nat->Nat
instance : CoeFun Own λ_=>Nat->Option Blk:=⟨Own.b⟩
def refsOf (P:Program):Nat->TypeId->Nat->List (Nat×Nat)
 |0,_,_=>[]
 | n+1,t,o=>match P.underlying t with
   |some (.slice _)=>[(o,t)]
   |some (.struct fs)=>fs.toList.flatMap λf=>refsOf P n f.type (o+f.offset)
   |_=>[]
def oD (P:Program)(T:Nat):List (Nat×Nat):=match P.underlying T with
 |some (.slice e)=>refsOf P 6 e 0
 |_=>[]
def xO (P:Program)(T:Nat):Nat:=match P.underlying T with
 |some (.slice e)=>(match P.info? e with|some i=>i.size|none=>0)
 |_=>0
def Y9 (u:Value):Prop:=u = .slice none 0 0
def Own.at (g:Own)(k n T:Nat)(p:zn):Prop:=g k=some (.arr T p)/\n<=g.bd k
def GR (g:Own)(u:Value)(T:Nat)(p:zn):Prop:=Y9 u\/∃k n c,u = .slice (some ⟨k,0,none⟩) n c/\g.at k n T p
structure Good (P:Program)(g:Own)(w:World):Prop where
 arr:∀k T p,g k=some (.arr T p)->∃cs e,w.heap[k]? = some (.cells cs e (0,0))/\∀j u T',j<g.bd k*xO P T->cs[j]? = some u->(j%xO P T,T')∈oD P T->GR g u T' (.blk k j)
 var:∀k row d b,g k=some (.var row d b)->∃cs e,w.heap[k]? = some (.cells cs e (0,0))/\∀r,r∈row->∃u,cs[r.off]? = some u/\GR g u r.ty (.tag d r.m)
inductive OF where
 |sr (t T:Nat)
 |ep (t T off:Nat)
 |vp (t b off:Nat)
 |ref (t:Nat) (r:Ref)
 |ER (t i:Nat) (r:Ref)
 |row (b:Nat) (r:Ref)
 |fn (t s:Nat)
def OF.beq : OF->OF->Bool
 |.sr t T,.sr t' T'=>oJ t t'&&oJ T T'
 |.ep t T o,.ep t' T' o'=>oJ t t'&&(oJ T T'&&oJ o o')
 |.vp t b o,.vp t' b' o'=>oJ t t'&&(oJ b b'&&oJ o o')
 |.ref t r,.ref t' r'=>oJ t t'&&r.beq r'
 |.ER t i r,.ER t' i' r'=>oJ t t'&&(oJ i i'&&r.beq r')
 |.row b r,.row b' r'=>oJ b b'&&r.beq r'
 |.fn t s,.fn t' s'=>oJ t t'&&oJ s s'
 |_,_=>false
theorem OF.beq_iff {f g:OF} : f.beq g=true<->f=g:=by cases f<;>cases g<;>simp[OF.beq,Ref.beq_iff]
instance : BEq OF:=⟨OF.beq⟩
instance : LawfulBEq OF where
 eq_of_beq h:=OF.beq_iff.1 h
 rfl:=OF.beq_iff.2 rfl
def zO {β:Type}(n:Nat)(k:Nat->β):β:=match n with
 |0=>k 0
 |m+1=>k (Nat.succ m)
def VA {β:Type}(r:Ref)(k:Ref->β):β:=match r with
 |⟨a,b,c⟩=>zO a λa=>zO b λb=>zO c λc=>k ⟨a,b,c⟩
def YQ {β:Type}(f:OF)(k:OF->β):β:=match f with
 |.sr t T=>zO t λt=>zO T λT=>k (.sr t T)
 |.ep t T o=>zO t λt=>zO T λT=>zO o λo=>k (.ep t T o)
 |.vp t b o=>zO t λt=>zO b λb=>zO o λo=>k (.vp t b o)
 |.ref t r=>zO t λt=>VA r λr=>k (.ref t r)
 |.ER t i r=>zO t λt=>zO i λi=>VA r λr=>k (.ER t i r)
 |.row b r=>zO b λb=>VA r λr=>k (.row b r)
 |.fn t s=>zO t λt=>zO s λs=>k (.fn t s)
def KX {α β:Type}(fc:α->(α->β)->β):List α->(List α->β)->β
 |[],k=>k []
 |x::r,k=>fc x λx=>KX fc r λr=>k (x::r)
abbrev Vz {β:Type}(Γ : List OF)(k:List OF->β):β:=KX YQ Γ k
theorem Iz {β:Type}{n:Nat}{k:Nat->β} : zO n k=k n:=by cases n<;>rfl
theorem afO {β:Type}{r:Ref}{k:Ref->β} : VA r k=k r:=by simp[VA,Iz]
theorem XE {β:Type}{f:OF}{k:OF->β} : YQ f k=k f:=by cases f<;>simp[YQ,Iz,afO]
theorem Gy {α β:Type}{fc:α->(α->β)->β}(hf:∀x k,fc x k=k x):∀{l:List α} {k:List α->β},KX fc l k=k l
 |[],_=>rfl
 |x::r,k=>by rw[KX,hf,Gy hf]
theorem RN {β:Type}{Γ : List OF}{k:List OF->β} : Vz Γ k=k Γ :=Gy λ_ _=>XE
def OF.aeW : OF->List Nat
 |.sr t _=>[t]
 |.ep t _ _=>[t]
 |.vp t b _=>[t,b]
 |.ref t _=>[t]
 |.ER t _ _=>[t]
 |.row b _=>[b]
 |.fn t _=>[t]
def OF.anh : OF->Option Nat
 |.ref _ r=>some r.m
 |.ER _ _ r=>some r.m
 |.row _ r=>some r.m
 |_=>none
def TA :=Nat->FuncId->Nat->Prop
def FD (P:Program)(F:TA)(g:Own)(dp:Nat)(a:Act)(w:World):OF->Prop
 |.sr t T=>Y9 (a.tmps.getD t undef)\/∃k o n c,a.tmps.getD t undef = .slice (some ⟨k,o,none⟩) n c/\k<w.heap.size/\∀B,g k=some B->(∃p,B = .arr T p)/\o%xO P T=0
 |.ep t T off=>∃k o,a.tmps.getD t undef = .pointer (some ⟨k,o,none⟩)/\k<w.heap.size/\∀B,g k=some B->(∃p,B = .arr T p)/\o%xO P T=off
 |.vp t b off=>∃k row,a.tmps.getD b undef = .pointer (some ⟨k,0,none⟩)/\a.tmps.getD t undef = .pointer (some ⟨k,off,none⟩)/\g k=some (.var row dp b)
 |.ref t r=>∃u,(a.tmps.getD t undef).cells[r.off]? = some u/\GR g u r.ty (.tag dp r.m)
 |.ER t i r=>∃vs x u,a.tmps.getD t undef = .tuple vs/\vs[i]? = some x/\x.cells[r.off]? = some u/\GR g u r.ty (.tag dp r.m)
 |.row b r=>∃k row,a.tmps.getD b undef = .pointer (some ⟨k,0,none⟩)/\g k=some (.var row dp b)/\r∈row
 |.fn t s=>∃f caps,a.tmps.getD t undef = .func (.func f) #[] caps/\F s f caps.size
structure OW (P:Program)(F:TA)(g:Own)(dp:Nat)(Γ : List OF)(a:Act)(w:World):Prop where
 good:Good P g w
 fs:∀f,f ∈ Γ -> FD P F g dp a w f
structure Rel (dp N:Nat)(g g':Own):Prop where
 tag:∀k T d m,d<dp->g k=some (.arr T (.tag d m))->g' k=some (.arr T (.tag d m))/\g'.bd k=g.bd k
 var:∀k row d b,d<dp->g k=some (.var row d b)->g' k=some (.var row d b)
 old:∀k B',k<N->g' k=some B'->∃B,g k=some B/\∀T p,B = .arr T p\/B' = .arr T p->∃q q',B = .arr T q/\B' = .arr T q'
def Ui (ps:List PK):List OF:=(ps.zipIdx).flatMap λp=>match p.1 with
 |.any=>[]
 |.own rs=>rs.map λe=>.ref p.2 ⟨e.1,e.2,p.2*20+e.1⟩
 |.var rs=>.vp p.2 p.2 0::rs.map λe=>.row p.2 ⟨e.1,e.2,p.2*20+e.1⟩
 |.fn s=>[.fn p.2 s]
def aa9 (sg:ZN)(n:Nat):List OF:=match sg.rs with
 |[rs]=>rs.map λe=>.ref n ⟨e.1,e.2,20000+e.1⟩
 |l=>(l.zipIdx).flatMap λp=>p.1.map λe=>.ER n p.2 ⟨e.1,e.2,20000+p.2*20+e.1⟩
def ads (sg:ZN):List OF:=(sg.ps.zipIdx).flatMap λp=>match p.1 with
 |.var rs=>.vp p.2 p.2 0::rs.map λe=>.row p.2 ⟨e.1,e.2,30000+p.2*20+e.1⟩
 |_=>[]
def VU (sg:ZN)(n:Nat):List OF:=aa9 sg n++ads sg
def FV : TA:=λs f n=>match s with
 |0=>kindOf f = .rd
 |s+1=>∃sg,kindOf f = .ow sg/\sg.ps=(ahZ s).ps++bW n .any/\sg.rs=(ahZ s).rs
inductive Ym (P:Program)(f:FuncId)(vs:List Value)(w:World):(Ending->World->Prop)->Prop
 |abH:Ym P f vs w λ_ _=>True
 |rd (h:kindOf f = .rd):Ym P f vs w λ_ w'=>DN w w' λ_=>False
 |ow (sg:ZN) (h:kindOf f = .ow sg) (hl:vs.length=sg.ps.length) (g:Own) (dp:Nat) (hin:OW P FV g dp (Ui sg.ps) { tmps:=vs.toArray,defers:=[] } w) :
     Ym P f vs w λe w'=>∃v g',e = .returned v/\Rel dp w.heap.size g g'/\OW P FV g' dp (VU sg vs.length) { tmps:=(vs++[v]).toArray,defers:=[] } w'
def UR (I:IH)(ρ:Ren)(vs:List Value)(xs:List AV):Prop:=
 vs.length=xs.length/\∀(j:Nat) (v:Value) (x:AV),vs[j]? = some v->xs[j]? = some x->GV I ρ v x
def C9 (l:List Box):Nat->Box:=λb=>l.getD b .absent
structure Tabs (P:Program)(I:IH):Prop where
 pow:∀g,P.globalNamed "internal/strconv.uint64pow10" = some g->I g=some (Go.Lib.pow10Tab.map λz=>mX .u64 z).toArray
 mxl:∀g,P.globalNamed "internal/bytealg.MaxLen" = some g->∃m,I.cell ⟨g,0,none⟩=some (.int .i64 m)
 ers:∀g,P.globalNamed "strconv.ErrSyntax" = some g->∃v,I.cell ⟨g,0,none⟩=some v/\(v = .nilIface\/∃t p,v = .iface t p)
 err:∀g,P.globalNamed "strconv.ErrRange" = some g->∃v,I.cell ⟨g,0,none⟩=some v/\(v = .nilIface\/∃t p,v = .iface t p)
theorem Tabs.mono {P:Program}{I J:IH}(h:Tabs P I)(hle:I.le J):Tabs P J:=
 ⟨λg hg=>hle _ _ (h.pow g hg),λg hg=>(h.mxl g hg).imp λ_ h=>IH.N8 hle h,λg hg=>(h.ers g hg).imp λ_ h=>⟨IH.N8 hle h.1,h.2⟩,λg hg=>(h.err g hg).imp λ_ h=>⟨IH.N8 hle h.1,h.2⟩⟩
def pM (P:Program)(f:FuncId)(args:List AV)(fp:List Box)(post:AV->List Box->Prop):Prop:=
 ∀ (I:IH) (ρ:Ren) (w:World) (vs:List Value),Tabs P I->Agree I w->BX I ρ w (C9 fp)->UR I ρ vs args ->
   ∀ X,Ym P f vs w X->Calls P f vs.toArray w λe w'=>(∃(v:Value) (J:IH) (σ:Ren) (r:AV) (bs:List Box),e = .returned v/\post r bs/\GV J σ v r/\Agree J w'/\BX J σ w' (C9 bs) /\
     I.le J/\DN w w' (λk=>∃b,(C9 fp b).uses (ρ b) k) /\
     (∀b k,(C9 bs b).uses (σ b) k->w.heap.size<=k\/∃b',(C9 fp b').uses (ρ b') k) /\
     (∀k,k<w.heap.size->(¬ ∃b,(C9 fp b).uses (ρ b) k)->J k=I k) /\
     (∀b,b<fp.length->σ b=ρ b))/\X e w'
def NS (P:Program)(f:FuncId)(args:List AV)(fp:List Box)(post:AV->List Box->Prop):Prop:=
 ∀ (I:IH) (ρ:Ren) (w:World) (vs:List Value),Tabs P I->Agree I w->BX I ρ w (C9 fp)->UR I ρ vs args ->
   Calls P f vs.toArray w λe w'=>∃(v:Value) (J:IH) (σ:Ren) (r:AV) (bs:List Box),e = .returned v/\post r bs/\GV J σ v r/\Agree J w'/\BX J σ w' (C9 bs) /\
    I.le J/\DN w w' (λk=>∃b,(C9 fp b).uses (ρ b) k) /\
    (∀b k,(C9 bs b).uses (σ b) k->w.heap.size<=k\/∃b',(C9 fp b').uses (ρ b') k) /\
    (∀k,k<w.heap.size->(¬ ∃b,(C9 fp b).uses (ρ b) k)->J k=I k) /\
    (∀b,b<fp.length->σ b=ρ b)
def W9 (f:FuncId)(e:Bool):Bool:=match kindOf f with
 |.none=>true
 |.rd=>e
 |.ow _=>false
theorem pM.of0 {P:Program}{f:FuncId}{args:List AV}{fp:List Box}{post:AV->List Box->Prop}(hk:W9 f fp.isEmpty=true)(h:NS P f args fp post):pM P f args fp post:=by
 intro I ρ w vs hT hA hB hV X hX;have h0:=h I ρ w vs hT hA hB hV;cases hX with
 |abH=>exact h0.mono λe w' h=>⟨h,trivial⟩
 | rd hr=>refine h0.mono λe w' h=>⟨h,?_⟩;obtain⟨_,_,_,_,_,_,_,_,_,_,_,hF,_⟩:=h;refine⟨hF.os,hF.tape,hF.output,hF.size,λk hk' _=>hF.block k hk' ?_⟩;rintro⟨b,hb⟩;unfold W9 at hk;rw[hr]at hk;have:fp=[]:=(by simpa using hk);subst this;simp[C9,Box.uses]at hb
 | ow sg hr=>unfold W9 at hk;rw[hr]at hk;cases hk
def fE (P:Program)(f:FuncId)(args:List AV)(r:AV):Prop:=pM P f args [] λr' bs=>r'=r/\bs=[]
inductive Cv (bx:Nat->Box):AC->AC->Prop
 |refl (x:AC):Cv bx x x
 |og (sz:Nat):Cv bx (.og sz) (.c (.sl sz []))
 |own (b n sz:Nat) (es:List (List Cell)) (h:(bx b).arr=some (sz,es)) (hn:n<=es.length):Cv bx (.own b n sz) (.c (.sl sz (es.take n)))
inductive CvL (bx:Nat->Box):List AC->List AC->Prop
 |nil:CvL bx [] []
 |cons {x y:AC} {xs ys:List AC} (h:Cv bx x y) (t:CvL bx xs ys):CvL bx (x::xs) (y::ys)
inductive CvA (bx:Nat->Box):AV->AV->Prop
 |one {x y:AC} (h:Cv bx x y):CvA bx (.one x) (.one y)
 |agg {xs ys:List AC} (h:CvL bx xs ys):CvA bx (.agg xs) (.agg ys)
inductive OU (bx:Nat->Box):List AV->List AV->Prop
 |nil:OU bx [] []
 |cons {x y:AV} {xs ys:List AV} (h:CvA bx x y) (t:OU bx xs ys):OU bx (x::xs) (y::ys)
def Cell.isLit : Cell->Bool
 |.sl _ _=>false
 |_=>true
def AC.zh : AC->Bool
 |.c _=>true
 |.err _=>true
 |_=>false
def AC.isLit : AC->Bool
 |.c x=>x.isLit
 |_=>false
def AV.all (p:AC->Bool):AV->Bool
 |.one x=>p x
 |.agg xs=>xs.all p
 |.AA ps=>ps.all λq=>q.2.all p
def AV.owns : AV->List Nat
 |.one x=>qH [x]
 |.agg xs=>qH xs
 |.AA ps=>ps.flatMap λq=>qH q.2
def gZ.Hz (st:gZ)(bs:List Nat):gZ:=⟨st.tm,λb=>if b∈bs then JF (st.bx b)else st.bx b⟩
def gZ.vJ (st:gZ):List (Nat×Box)->gZ
 |[]=>st
 |(b,x)::r=>(st.Am b x).vJ r
def gZ.BB (st:gZ):Option Nat->Slot->gZ
 |none,_=>st
 |some t,s=>st.put t s
def GI (π:Nat->Nat):AC->AC
 |.ptr b off=>.ptr (π b) off
 |.own b n sz=>.own (π b) n sz
 |.sub b lo n c sz=>.sub (π b) lo n c sz
 |.BF b i sz off=>.BF (π b) i sz off
 |.fn f cs=>.fn f (cs.map π)
 |.opt T b=>.opt T (π b)
 |.zV b n=>.zV (π b) n
 |x=>x
def Fz (π:Nat->Nat):AV->AV
 |.one x=>.one (GI π x)
 |.agg xs=>.agg (xs.map (GI π))
 |.AA ps=>.AA (ps.map λq=>(q.1,q.2.map (GI π)))
def EY (π:Nat->Nat):Box->Box
 |.var xs=>.var (xs.map (GI π))
 |x=>x
def AC.xK (m:Nat):AC->Bool
 |.ptr b _=>decide (b<m)
 |.own b _ _=>decide (b<m)
 |.sub b _ _ _ _=>decide (b<m)
 |.BF b _ _ _=>decide (b<m)
 |.fn _ cs=>cs.all λb=>decide (b<m)
 |.opt _ b=>decide (b<m)
 |.zV b _=>decide (b<m)
 |_=>true
def Box.xK (m:Nat):Box->Bool
 |.var xs=>xs.all (AC.xK m)
 |_=>true
inductive OE (P:Program)(f:FuncId)(xk:List AV)(p:Bool)(d:Option Nat)(st:gZ)(K:List Nat->List Nat->gZ->Prop):Prop
 |lit (ds:List AV) (r:AV) (hc:p=true->OU st.bx xk ds) (hd:ds.all (·.all AC.zh)=true) (h:p=true->fE P f ds r) (hr:r.all AC.isLit=true) (k:K (xk.flatMap AV.owns) [] (st.BB d (.v p r)))
 |pure (ds:List AV) (r:AV) (hp:p=true) (hc:OU st.bx xk ds) (hd:ds.all (·.all AC.zh)=true) (h:fE P f ds r) (hr:r.all AC.zh=true) (k:K (xk.flatMap AV.owns) (xk.flatMap AV.owns) ((st.Hz (xk.flatMap AV.owns)).BB d (.v true r)))
 |gen (hp:p=true) (ds:List AV) (fp:List Box) (sg nu:List Nat) (post:AV->List Box->Prop)
  (hl:sg.length=fp.length) (hn:(sg++nu).Nodup) (hf:∀i,i<fp.length->st.bx ((sg++nu).getD i 0)=EY (λb=>(sg++nu).getD b 0) (fp.getD i .absent))
  (hne:∃r bs,post r bs) (hv:∀b,b∈nu->st.bx b = .absent/\10<=b) (hra:(ds.all λx=>x.all (AC.xK fp.length))=true) (hrf:fp.all (Box.xK fp.length)=true) (ha:xk=ds.map (Fz λb=>(sg++nu).getD b 0)) (h:pM P f ds fp post)
  (k:∀r bs,post r bs->bs.length=(sg++nu).length /\
   K (sg++nu) (sg++nu) ((st.vJ ((sg++nu).zip (bs.map (EY λb=>(sg++nu).getD b 0)))).BB d (.v true (Fz (λb=>(sg++nu).getD b 0) r))))
 |Uf (hp:p=true) (az:List AV) (hc:OU st.bx xk az) (ds:List AV) (fp:List Box) (sg nu:List Nat) (post:AV->List Box->Prop)
     (hl:sg.length=fp.length) (hn:(sg++nu).Nodup) (hf:∀i,i<fp.length->(st.Hz (xk.flatMap AV.owns)).bx ((sg++nu).getD i 0)=EY (λb=>(sg++nu).getD b 0) (fp.getD i .absent))
     (hne:∃r bs,post r bs) (hv:∀b,b∈nu->st.bx b = .absent/\10<=b) (hra:(ds.all λx=>x.all (AC.xK fp.length))=true) (hrf:fp.all (Box.xK fp.length)=true) (ha:az=ds.map (Fz λb=>(sg++nu).getD b 0)) (h:pM P f ds fp post)
     (k:∀r bs,post r bs->bs.length=(sg++nu).length /\
      K (xk.flatMap AV.owns++(sg++nu)) (xk.flatMap AV.owns++(sg++nu)) (((st.Hz (xk.flatMap AV.owns)).vJ ((sg++nu).zip (bs.map (EY λb=>(sg++nu).getD b 0)))).BB d (.v true (Fz (λb=>(sg++nu).getD b 0) r))))
inductive DU {α:Type}(x:α):Type
 |mk
def xI (P:Program)(f:FuncId)(xk:List AV)(p:Bool)(d:Option Nat)(st:gZ)(K:List Nat->List Nat->gZ->Prop)(_:DU K):Prop:=OE P f xk p d st K
inductive UN where
 |op (o:nR)
 |call (f:FuncId) (args:List pR)
 |IP (x:pR) (args:List pR)
 deriving Inhabited
structure lK where
 g:Option (Nat×Bool)
 d:Option Nat
 i:UN
 deriving Inhabited
def zK (P:Program)(f:FuncId):Bool:=match P.funcs[f]? with
 |some fn=> !(fn.name == "runtime.NumGoroutine")&&fn.body.isSome
 |none=>false
def EJ (tm:Nat->Slot):Option (Nat×Bool)->Prop
 |none=>True
 | some (s,_)=>match tm s with
   |.v false _=>True
   |.v true (.one (.c (.lit (.bool _))))=>True
   |_=>False
def uV (tm:Nat->Slot):Option (Nat×Bool)->Bool
 |none=>true
 | some (s,w)=>match tm s with
   |.v true (.one (.c (.lit (.bool b))))=>b==w
   |_=>false
def nR.valid (ev:pR->Slot):nR->Prop
 | .pick c a b=>(ev c).g=true/\(match(ev c).x with
   |.one (.c (.lit (.bool t)))=>(t=true->(ev a).g=true)/\(t=false->(ev b).g=true)
   |_=>False)
 |o=>∀x,x∈o.qi->(ev x).g=true
def fK (tm:Nat->Slot)(x:pR):AV:=(x.ev tm).x
def TOp (o:nR)(p:Bool)(d:Option Nat)(st:gZ)(K:List Nat->List Nat->gZ->Prop):Prop:=
 (p=true->o.valid (pR.ev st.tm)/\(o.f (fK st.tm) st.bx).vc /\
  K (o.rd (fK st.tm)) ((o.f (fK st.tm) st.bx).sets.map (·.1)) ((st.vJ (o.f (fK st.tm) st.bx).sets).BB d (.v true (o.f (fK st.tm) st.bx).v))) /\
 (p=false->K [] [] (st.BB d (.v false (.one .Nk))))
def T (P:Program)(o:lK)(st:gZ)(K:List Nat->List Nat->gZ->Prop):Prop:=
 EJ st.tm o.g/\match o.i with
  |.op op=>TOp op (uV st.tm o.g) o.d st K
  |.call f args=>(uV st.tm o.g=true->∀x,x∈args->(x.ev st.tm).g=true)/\xI P f (args.map (fK st.tm)) (uV st.tm o.g) o.d st K .mk
  | .IP x args=>(uV st.tm o.g=true->(x.ev st.tm).g=true/\∀x,x∈args->(x.ev st.tm).g=true)/\match uV st.tm o.g,fK st.tm x with
    |false,_=>xI P 0 [] false o.d st K .mk
    |true,.one (.fn f caps)=>zK P f=true/\xI P f (args.map (fK st.tm)++caps.map λb=>.one (.ptr b 0)) true o.d st K .mk
    |true,_=>False
def wpOps (P:Program):List lK->gZ->(gZ->Prop)->Prop
 |[],st,K=>K st
 |o::r,st,K=>T P o st λ_ _ st'=>wpOps P r st' K
def O9 (a b:List Nat):Bool:=a.all λx=> !b.contains x
def Aw (Ig:List Nat)(rd wr:List Nat):List (Nat×List Nat×List Nat)->Bool
 |[]=>true
 |(j,r,w)::l=>(Ig.contains j||(O9 wr r&&O9 wr w&&O9 rd w))&&Aw Ig rd wr l
def wpD (P:Program):List (lK×List Nat)->Nat->List (Nat×List Nat×List Nat)->gZ->(gZ->Prop)->Prop
 |[],_,_,st,K=>K st
 |(o,Ig)::r,i,log,st,K=>T P o st λrd wr st'=>Aw Ig rd wr log=true/\wpD P r (i+1) ((i,rd,wr)::log) st' K
def gZ.keep (st:gZ)(ts:List Nat):gZ:=⟨λt=>if t∈ts then st.tm t else .none,st.bx⟩
theorem XI (w:World)(o:Obj)(r:Nat)(h:r<w.heap.size):(w.alloc o).heap[r]? = w.heap[r]?:=by show(w.heap.push o)[r]? = w.heap[r]?;rw[D6,au (Nat.ne_of_lt h)]
theorem yD.keep {I J:IH}{ρ σ:Ren}{w w':World}{b:Nat}{x:Box}(h:yD I ρ w b x)(hI:I.le J)(hρ:ρ.le σ)(hb:σ b=ρ b)
 (hk:∀k,x.uses (ρ b) k->w'.heap[k]? = w.heap[k]?):yD J σ w' b x:=by
 cases x with
 |absent=>exact hb.trans h
 |dead=>trivial
 | var xs=>obtain⟨k,cap,cs,hr,hw,hs,hc⟩:=h;exact⟨k,cap,cs,hb.trans hr,(hk k ⟨cap,hr⟩).trans hw,hs,λj u x hu hx=>(hc j u x hu hx).mono hI hρ⟩
 | dat sz es=>obtain⟨k,cap,hr,hl,hm,hsz,hc⟩:=h;refine⟨k,cap,hb.trans hr,hl,hm,hsz,λh0=>?_⟩;obtain⟨cs,e,hw,hs,h1,hc⟩:=hc h0;exact⟨cs,e,(hk k ⟨cap,hr,h0⟩).trans hw,hs,h1,λi j c hj=>let ⟨u,hu,hr⟩:=hc i j c hj;⟨u,hu,hr.mono hI⟩⟩
 | Hz sz es=>obtain⟨k,cap,hr,hl,hm,hsz,hc⟩:=h;refine⟨k,cap,hb.trans hr,hl,hm,hsz,λh0=>?_⟩;obtain⟨cs,hw,hc⟩:=hc h0;exact⟨cs,hI _ _ hw,λi j c hj=>let ⟨u,hu,hr⟩:=hc i j c hj;⟨u,hu,hr.mono hI⟩⟩
 | row e l=>obtain⟨k,cap,hr,hl,hm,hc⟩:=h;refine⟨k,cap,hb.trans hr,hl,hm,λh0=>?_⟩;obtain⟨cs,hw,hc⟩:=hc h0;exact⟨cs,(hk k ⟨cap,hr,h0⟩).trans hw,hc⟩
theorem BX.step {I J:IH}{ρ σ:Ren}{w w':World}{bx bx':Nat->Box}(D:Nat->Prop)(h:BX I ρ w bx)(hI:I.le J)(hρ:ρ.le σ)
 (hsame:∀b,¬D b->bx' b=bx b/\σ b=ρ b) (hkeep:∀b k,¬D b->(bx b).uses (ρ b) k->w'.heap[k]? = w.heap[k]?)
 (hok:∀b,D b->yD J σ w' b (bx' b)) (Ep:∀b k,D b->(bx' b).uses (σ b) k->(∀b',¬D b'->¬(bx b').uses (ρ b') k)/\J k=none)
 (hinj:∀b b' k,D b->D b'->(bx' b).uses (σ b) k->(bx' b').uses (σ b') k->b=b')
 (hJ:∀b k,¬D b->(bx b).uses (ρ b) k->J k=none):BX J σ w' bx':=by
 refine⟨λb=>?_,λb b' k hb hb'=>?_,λb k hb=>?_⟩
 ·by_cases hD:D b
  ·exact hok b hD
  ·obtain⟨e1,e2⟩:=hsame b hD;rw[e1];exact(h.ok b).keep hI hρ e2 λk hk=>hkeep b k hD hk
 ·by_cases hD:D b
  ·by_cases hD':D b'
   ·exact hinj b b' k hD hD' hb hb'
   ·obtain⟨e1,e2⟩:=hsame b' hD';rw[e1,e2]at hb';exact eF hb' ((Ep b k hD hb).1 b' hD')
  ·obtain⟨e1,e2⟩:=hsame b hD;rw[e1,e2]at hb;by_cases hD':D b'
   ·exact eF hb ((Ep b' k hD' hb').1 b hD)
   ·obtain⟨e1',e2'⟩:=hsame b' hD';rw[e1',e2']at hb';exact h.inj b b' k hb hb'
 ·by_cases hD:D b
  ·exact(Ep b k hD hb).2
  ·obtain⟨e1,e2⟩:=hsame b hD;rw[e1,e2]at hb;exact hJ b k hD hb
theorem Agree.alloc {I:IH}{w:World}(h:Agree I w)(o:Obj):Agree I (w.alloc o):=λb c hc=>by obtain⟨e,fr,hw⟩:=h b c hc;exact⟨e,fr,(XI w o b (Aa hw)).trans hw⟩
theorem Agree.other {I:IH}{w w':World}(h:Agree I w)(hk:∀k c,I k=some c->w'.heap[k]? = w.heap[k]?):Agree I w':=λb c hc=>by obtain⟨e,fr,hw⟩:=h b c hc;exact⟨e,fr,(hk b c hc).trans hw⟩
theorem Agree.aa1 {I:IH}{w:World}(h:Agree I w){k:Nat}(hk:w.heap.size<=k):I k=none:=by
 cases hc:I k with
 |none=>rfl
 |some c=>have:=h.lt hc;omega
def Ren.set (ρ:Ren)(l k cap:Nat):Ren:=λb=>if b=l then some (k,cap)else ρ b
theorem Ren.Pj {ρ:Ren}{l k cap:Nat}(h:ρ l=none):ρ.le (ρ.set l k cap):=λb x hb=>by unfold Ren.set;rw[au (λe=>by subst e;rw[h]at hb;cases hb)];exact hb
theorem Ren.pq (ρ:Ren)(l k cap:Nat):(ρ.set l k cap) l=some (k,cap):=by simp[Ren.set]
theorem Ren.yj {ρ:Ren}{l k cap b:Nat}(h:b≠l):(ρ.set l k cap) b=ρ b:=by simp[Ren.set,h]
theorem BX.new {I:IH}{ρ:Ren}{w:World}{bx:Nat->Box}(h:BX I ρ w bx)(hA:Agree I w){l:Nat}(hl:bx l = .absent)(cs:Array Value)(e:TypeId)(cap:Nat)(x:Box)
 (hx:yD I (ρ.set l w.heap.size cap) (w.alloc (.cells cs e)) l x) :
 BX I (ρ.set l w.heap.size cap) (w.alloc (.cells cs e)) (λb=>if b=l then x else bx b):=by
 have hrl:ρ l=none:=by have:=h.ok l;rwa[hl]at this
 refine BX.step (λb=>b=l) h (IH.le_refl I) (Ren.Pj hrl) ?_ ?_ ?_ ?_ ?_ ?_
 ·intro b hb;exact⟨by simp[hb],Ren.yj hb⟩
 ·intro b k hb hk;exact XI _ _ _ ((h.ok b).lt hk)
 ·rintro b rfl;simpa using hx
 ·rintro b k rfl hk;have hk':k=w.heap.size:=by
   simp only[jY,Ren.pq]at hk;cases x with
   |absent=>exact hk.elim
   |dead=>exact hk.elim
   |Hz sz es=>exact hk.elim
   |var xs=>obtain⟨c,hc⟩:=hk;simp at hc;exact hc.1.symm
   |dat sz es=>obtain⟨c,hc,_⟩:=hk;simp at hc;exact hc.1.symm
   |row e l=>obtain⟨c,hc,_⟩:=hk;simp at hc;exact hc.1.symm
  subst hk';exact⟨λb' hb' hu=>by have:=(h.ok b').lt hu;omega,hA.aa1 (aF _)⟩
 ·rintro b b' k rfl rfl _ _;rfl
 ·intro b k hb hk;exact h.fresh b k hk
theorem BX.set {I:IH}{ρ:Ren}{w w':World}{bx:Nat->Box}(h:BX I ρ w bx){b k:Nat}(hu:(bx b).uses (ρ b) k)(x:Box)(hux:∀k',x.uses (ρ b) k'->k'=k)
 (hk:∀k',k'≠k->w'.heap[k']? = w.heap[k']?) (hx:yD I ρ w' b x):BX I ρ w' (λc=>if c=b then x else bx c):=by
 refine BX.step (λc=>c=b) h (IH.le_refl I) (Ren.le_refl ρ) ?_ ?_ ?_ ?_ ?_ ?_
 ·intro c hc;exact⟨by simp[hc],rfl⟩
 ·intro c k' hc hu';refine hk k' λe=>hc ?_;subst e;exact h.inj c b k' hu' hu
 ·rintro c rfl;simpa using hx
 ·rintro c k' rfl hk';simp only[jY]at hk';have:=hux k' hk';subst this;exact⟨λb' hb' hu'=>hb' (h.inj b' c k' hu' hu),h.fresh c k' hu⟩
 ·rintro c c' k' rfl rfl _ _;rfl
 ·intro c k' hc hu';exact h.fresh c k' hu'
structure Env (P:Program) where
 w0:World
 I0:IH
 M:Nat->Prop
 Yi:Ren
 m:Nat
 tab:Tabs P I0
structure GX {P:Program}(E:Env P)(I:IH)(ρ:Ren)(n:Nat)(st:gZ)(a:Act)(w:World):Prop extends GS I ρ n st a w where
 DK:DN E.w0 w E.M
 own:∀b k,(st.bx b).uses (ρ b) k->E.w0.heap.size<=k\/E.M k
 Nh:E.I0.le I
 IW:∀k,k<E.w0.heap.size->¬E.M k->I k=E.I0 k
 zT:∀b,b<E.m->ρ b=E.Yi b
theorem GX.tabs {P:Program}{E:Env P}{I:IH}{ρ:Ren}{n:Nat}{st:gZ}{a:Act}{w:World}(h:GX E I ρ n st a w):Tabs P I:=E.tab.mono h.Nh
theorem GX.put {P:Program}{E:Env P}{I:IH}{ρ:Ren}{n:Nat}{st:gZ}{a:Act}{w:World}(h:GX E I ρ n st a w){d:Nat}(hd:d<n){v:Value}{s:Slot}(hv:GSl I ρ v s) :
 GX E I ρ n (st.put d s) (a.put (some d) v) w:=by
 refine{ h with tm:=λt ht=>?_,size:=by simp[jI,h.size],defers:=h.defers,agree:=h.agree,bx:=h.bx };have hdt:d<a.tmps.size:=by rw[h.size];exact hd
 simp only[jI,gZ.V4];by_cases e:t=d
 ·subst e;simpa[Array.getD,hdt]using hv
 ·have:=h.tm t ht;rw[au e];have e':d≠t:=λx=>e x.symm;simpa[fH,Array.getElem?_setIfInBounds,e']using this
theorem GX.BB {P:Program}{E:Env P}{I:IH}{ρ:Ren}{n:Nat}{st:gZ}{a:Act}{w:World}(h:GX E I ρ n st a w){d:Option Nat}(hd:∀x,d=some x->x<n){v:Value}{s:Slot}(hv:GSl I ρ v s) :
 GX E I ρ n (st.BB d s) (a.put d v) w:=by
 cases d with
 |none=>exact h
 |some d=>exact h.put (hd d rfl) hv
theorem GX.drew {P:Program}{E:Env P}{I:IH}{ρ:Ren}{n:Nat}{st:gZ}{a:Act}{w:World}(h:GX E I ρ n st a w):GX E I ρ n st a w.drew:=
 { agree:=h.agree,bx:=⟨h.bx.ok,h.bx.inj,h.bx.fresh⟩,tm:=h.tm,size:=h.size,defers:=h.defers,DK:=⟨h.DK.os,h.DK.tape,h.DK.output,h.DK.size,h.DK.block⟩,own:=h.own,Nh:=h.Nh,IW:=h.IW,zT:=h.zT }
theorem GX.lit {P:Program}{E:Env P}{I:IH}{ρ:Ren}{n:Nat}{st:gZ}{a:Act}{w:World}(h:GX E I ρ n st a w):BX I ρ w st.bx:=h.bx
theorem GX.new {P:Program}{E:Env P}{I:IH}{ρ:Ren}{n:Nat}{st:gZ}{a:Act}{w:World}(h:GX E I ρ n st a w){l:Nat}(hl:st.bx l = .absent)(hm:E.m<=l)(cs:Array Value)(e:TypeId)(cap:Nat)(x:Box)
 (hx:yD I (ρ.set l w.heap.size cap) (w.alloc (.cells cs e)) l x):GX E I (ρ.set l w.heap.size cap) n (st.Am l x) a (w.alloc (.cells cs e)):=by
 have hrl:ρ l=none:=by have:=h.bx.ok l;rwa[hl]at this
 have hle:=Ren.Pj (ρ:=ρ) (k:=w.heap.size) (cap:=cap) hrl;refine{ agree:=h.agree.alloc _,bx:=BX.new h.bx h.agree hl cs e cap x hx,tm:=λt ht=>(h.tm t ht).mono (IH.le_refl _) hle,size:=h.size,defers:=h.defers,DK:=?_,own:=?_,Nh:=h.Nh,IW:=h.IW,zT:=?_ }
 ·exact h.DK.trans (N:=λ_=>False) ⟨rfl,rfl,rfl,mD,λk hk _=>XI _ _ _ hk⟩ (λ_ _ hf=>hf.elim)
 ·intro b k hu;simp only[gZ.tq]at hu;by_cases e:b=l
  ·subst e
   left
   have hs:=h.DK.size;have hk':k=w.heap.size:=by
    simp only[jY,Ren.pq]at hu;cases x with
    |absent=>exact hu.elim
    |dead=>exact hu.elim
    |Hz sz es=>exact hu.elim
    |var xs=>obtain⟨c,hc⟩:=hu;simp at hc;exact hc.1.symm
    |dat sz es=>obtain⟨c,hc,_⟩:=hu;simp at hc;exact hc.1.symm
    |row e l=>obtain⟨c,hc,_⟩:=hu;simp at hc;exact hc.1.symm
   omega
  ·rw[au e,Ren.yj e]at hu;exact h.own b k hu
 ·intro b hb;rw[Ren.yj aI];exact h.zT b hb
theorem GX.Am {P:Program}{E:Env P}{I:IH}{ρ:Ren}{n:Nat}{st:gZ}{a:Act}{w w':World}(h:GX E I ρ n st a w){b k:Nat}(hu:(st.bx b).uses (ρ b) k)(x:Box)(hux:∀k',x.uses (ρ b) k'->k'=k)
 (hF:DN w w' (λk'=>k'=k)) (hx:yD I ρ w' b x) (hsz:w'.heap.size=w.heap.size):GX E I ρ n (st.Am b x) a w':=by
 have hk:∀k',k'≠k->w'.heap[k']? = w.heap[k']?:= λk' hne=>by
  by_cases hlt:k'<w.heap.size
  ·exact hF.block k' hlt hne
  ·rw[wZ aI,wZ aI]
 refine{ agree:=h.agree.other λk' c hc=>hk k' λe=>?_,bx:=BX.set h.bx hu x hux hk hx,tm:=h.tm,size:=h.size,defers:=h.defers,DK:=?_,own:=?_,Nh:=h.Nh,IW:=h.IW,zT:=h.zT }
 ·subst e;have:=h.bx.fresh b k' hu;rw[this]at hc;cases hc
 ·refine h.DK.trans hF λk' hlt e=>?_;subst e;rcases h.own b k' hu with h1|h1
  ·omega
  ·exact h1
 ·intro c k' hc;simp only[gZ.tq]at hc;by_cases e:c=b
  ·subst e;simp only[jY]at hc;have:=hux k' hc;subst this;exact h.own c k' hu
  ·rw[au e]at hc;exact h.own c k' hc
section
def akq : Value->AC->Bool
 |.int k n,.c (.lit (.int k' n'))=>k==k'&&n==n'
 |.bool b,.c (.lit (.bool b'))=>b==b'
 |.string s,.c (.str l)=>s.data.toList==l&&decide (l.length<=1000000)
 |.slice none 0 0,.og _=>true
 |.slice none 0 0,.c (.sl _ [])=>true
 |.pointer none,.c (.lit (.pointer none))=>true
 |.nilFunc,.c (.lit .nilFunc)=>true
 |.nilIface,.c (.lit .nilIface)=>true
 |_,_=>false
theorem aed {I:IH}{ρ:Ren}{v:Value}{x:AC}(h:akq v x=true):GC I ρ v x:=by
 unfold akq at h;split at h
 ·simp only[ah,aY]at h;obtain⟨rfl,rfl⟩:=h;exact Rd.lit _ rfl
 ·simp only[aY]at h;subst h;exact Rd.lit _ rfl
 ·rename_i s l;simp only[ah,aY,aC]at h;obtain⟨rfl,hl⟩:=h;have:s=⟨⟨s.data.toList⟩⟩:=by cases s;rfl
  exact this▸Rd.str _ (by simp only[maxLen];omega)
 ·rfl
 ·exact Rd.sl none 0 0 _ [] (λ_ _=>undef) rfl (aF _) (Nat.zero_le _) (λe h=>by cases h) (λh=>by omega) (λad h=>by cases h) (λi j c h=>by simp at h)
 ·exact Rd.lit _ rfl
 ·exact Rd.lit _ rfl
 ·exact Rd.lit _ rfl
 ·cases h
def lJ (n:Nat):Operand->pR->Bool
 |.tmp t,.t s=>t==s&&decide (t<n)
 |.const v,.k x=>akq v x
 |.func f,.k (.fn g [])=>f==g
 |.global g,.k (.c (.lit (.pointer (some a))))=>a.block==g&&a.off==0&&a.spot.isNone
 |_,_=>false
section
variable {P:Program} {E:Env P} {I:IH} {ρ:Ren} {n:Nat} {st:gZ} {a:Act} {w:World}
theorem am2 (h:GX E I ρ n st a w){x:Operand}{y:pR}(hc:lJ n x y=true):GSl I ρ (a.eval x) (y.ev st.tm):=by
 unfold lJ at hc;split at hc
 ·simp only[ah,aY,aC]at hc;obtain⟨rfl,hlt⟩:=hc;exact h.tm _ hlt
 ·exact⟨λ_=>aed hc,λe=>by cases e⟩
 ·simp only[aY]at hc;subst hc;exact⟨λ_=>⟨[],rfl,mD,rfl⟩,λe=>by cases e⟩
 ·rename_i g ad;simp only[ah,aY]at hc;obtain⟨⟨h1,h2⟩,h3⟩:=hc;refine⟨λ_=>?_,λe=>by cases e⟩;have:ad=⟨g,0,none⟩:=by cases ad;simp at *;exact⟨h1,h2,h3⟩
  subst this;exact Rd.lit _ rfl
 ·cases hc
theorem oK (h:GX E I ρ n st a w){x:Operand}{y:pR}(hc:lJ n x y=true)(hv:(y.ev st.tm).g=true):GV I ρ (a.eval x) (fK st.tm y):=by
 have:=am2 h hc;unfold fK;cases hs:y.ev st.tm with
 |none=>rw[hs]at hv;cases hv
 |v g x=>rw[hs]at hv this;exact this.1 hv
def xm (P:Program)(E:Env P)(n:Nat)(o:Oper)(a:Act)(w:World)(st:gZ)(rv:AV):Prop:=
 ∃v w' I' ρ',((execOp a.eval o).run P w = .ok (.value v) w'\/(execOp a.eval o).run P w = .ok .skip w'/\o.dst=none)/\GX E I' ρ' n st a w'/\(o.dst≠none->GV I' ρ' v rv)
def DY : Op->Bool
 |.alloc _|.box _ _|.makeSlice _ _ _|.buildSlice _ _ _|.store _ _ _=>false
 |.call c=>(match c.callee with|.builtin .len|.builtin .cap|.builtin .max|.builtin .min|.value _=>true|_=>false)
 |_=>true
def Si : Op->Bool
 |.store _ _ _=>true
 |_=>false
structure Eff (o:Oper)(a:Act)(w w':World):Prop where
 quiet:DY o.op=true->w'=w
 store:∀t p x,o.op = .store t p x->∃k off cs e,a.eval p = .pointer (some ⟨k,off,none⟩)/\w.heap[k]? = some (.cells cs e (0,0))/\off+(a.eval x).cells.size<=cs.size /\
  w'=w.setRow k (splice cs.toList off (a.eval x).cells.toList).toArray
def xQ (P:Program)(E:Env P)(n:Nat)(o:Oper)(a:Act)(w:World)(st:gZ)(rv:AV):Prop:=
 ∃v w' I' ρ',((execOp a.eval o).run P w = .ok (.value v) w'\/(execOp a.eval o).run P w = .ok .skip w'/\o.dst=none)/\GX E I' ρ' n st a w'/\(o.dst≠none->GV I' ρ' v rv)/\Eff o a w w'
theorem acP {o:Oper}{a:Act}{w w':World}{v:Value}(hr:(execOp a.eval o).run P w = .ok (.value v) w')(hs:Si o.op=true):False:=by
 unfold Si at hs;split at hs
 ·rename_i t p x he;simp only[execOp,he,dN]at hr;cases h:(BK t (a.eval p) (a.eval x)).run P w<;>rw[h]at hr<;>simp at hr
 ·cases hs
theorem xm.val {o:Oper}{v:Value}{rv:AV}(h:GX E I ρ n st a w)(hr:(execOp a.eval o).run P w = .ok (.value v) w)(hv:GV I ρ v rv):xQ P E n o a w st rv:=
 ⟨v,w,I,ρ,.inl hr,h,λ_=>hv,{ quiet:=λ_=>rfl,store:=λt p x he=>(acP hr (by rw[he];rfl)).elim }⟩
theorem xm.toE {o:Oper}{rv:AV}(h:xm P E n o a w st rv)(hq:DY o.op=false)(hs:Si o.op=false):xQ P E n o a w st rv:=
 let ⟨v,w',I',ρ',h1,h2,h3⟩:=h
 ⟨v,w',I',ρ',h1,h2,h3,{ quiet:=λe=>(by rw[hq]at e;cases e),store:=λt p x he=>(by rw[he]at hs;cases hs) }⟩
def KZ : TypeDesc->Bool
 |.struct _|.array _ _=>true
 |_=>false
def Md (P:Program)(t:TypeId)(agg:Bool)(k:Nat):Bool:=
 match P.underlying t,P.info? t with
 |some d,some i=>KZ d==agg&&i.size==k
 |_,_=>false
theorem IE {t:TypeId}{agg:Bool}{k:Nat}(h:Md P t agg k=true)(w:World):(isAgg t).run P w = .ok agg w/\(sizeOf t).run P w = .ok k w:=by
 unfold Md at h;split at h
 ·rename_i d i hd hi;simp only[ah,aY]at h;obtain⟨rfl,rfl⟩:=h;refine⟨?_,by simp[sizeOf,typeInfo,hi]⟩;cases d<;>simp[isAgg,run_underlying hd,KZ]
 ·cases h
def Tc (P:Program)(t:TypeId)(k:Nat):Bool:=match P.info? t with|some i=>i.size==k|none=>false
theorem NG {t:TypeId}{k:Nat}(h:Tc P t k=true):∃i,P.info? t=some i/\i.size=k:=by
 unfold Tc at h;split at h
 ·rename_i i hi;exact⟨i,hi,by simpa using h⟩
 ·cases h
def ahE (n:Nat)(op:Op)(y:pR):Bool:=match op with|.move x|.assign x=>lJ n x y|_=>false
theorem akY {o:Oper}{y:pR}(h:GX E I ρ n st a w)(hc:ahE n o.op y=true)(hv:(y.ev st.tm).g=true):xQ P E n o a w st (fK st.tm y):=by
 unfold ahE at hc;split at hc
 ·rename_i x hx;exact xm.val h (v:=a.eval x) (by simp[execOp,hx]) (oK h hc hv)
 ·rename_i x hx;exact xm.val h (v:=a.eval x) (by simp[execOp,hx]) (oK h hc hv)
 ·cases hc
def YG (n:Nat)(op:Op)(c x y:pR):Bool:=match op with|.pick c' x' y'=>lJ n c' c&&lJ n x' x&&lJ n y' y|_=>false
theorem KY {v:Value}{b:Bool}(h:GV I ρ v (xW b)):v = .bool b:=by cases h with|lit v hv=>rfl
theorem zQ {v:Value}{k:IntKind}{m:Int}(h:GV I ρ v (yG k m)):v = .int k m:=by cases h with|lit v hv=>rfl
theorem JG {v:Value}{l:List UInt8}(h:GV I ρ v (LD l)):v = .string ⟨⟨l⟩⟩/\l.length<=maxLen:=by cases h with|str l hl=>exact⟨rfl,hl⟩
theorem Jt (b:Bool):GV I ρ (.bool b) (xW b):=Rd.lit _ rfl
theorem Ce (k:IntKind)(m:Int):GV I ρ (.int k m) (yG k m):=Rd.lit _ rfl
theorem Y5 {l:List UInt8}(h:l.length<=maxLen):GV I ρ (.string ⟨⟨l⟩⟩) (LD l):=Rd.str l h
theorem adv (x y:AV){v:Value}(h:GV I ρ v x):GV I ρ v (TQ true x y):=by
 unfold TQ;split
 ·exact h
 ·exact h
theorem abf (x y:AV){v:Value}(h:GV I ρ v y):GV I ρ v (TQ false x y):=by
 unfold TQ;split
 ·exact h
 ·simpa using h
theorem ags {o:Oper}{c x y:pR}{t:Bool}(h:GX E I ρ n st a w)(hc:YG n o.op c x y=true)(hg:(c.ev st.tm).g=true)(ht:fK st.tm c=xW t)
 (hx:t=true->(x.ev st.tm).g=true) (hy:t=false->(y.ev st.tm).g=true):xQ P E n o a w st (TQ t (fK st.tm x) (fK st.tm y)):=by
 unfold YG at hc;split at hc
 ·rename_i c' x' y' he;simp only[ah]at hc;have h1:=oK h hc.1.1 hg;rw[ht]at h1;have h1:=KY h1;cases t with
  |true=>exact xm.val h (v:=a.eval x') (by simp[execOp,he,h1,asBool]) (adv _ _ (oK h hc.1.2 (hx rfl)))
  |false=>exact xm.val h (v:=a.eval y') (by simp[execOp,he,h1,asBool]) (abf _ _ (oK h hc.2 (hy rfl)))
 ·cases hc
theorem toList_eq (l:List UInt8):(⟨⟨l⟩⟩:ByteArray).toList=l:=by rw[ByteArray.toList_eq]
theorem size_mk (l:List UInt8):(⟨⟨l⟩⟩:ByteArray).size=l.length:=rfl
theorem alc {b:BinOp}{t:TypeId}{x y:Value}{u v:AV}(w:World)(hx:GV I ρ x u)(hy:GV I ρ y v)(kF:(Ub b u v).vc) :
 ∃r,(binOp b t x y).run P w = .ok r w/\GV I ρ r (Ub b u v).v:=by
 unfold Ub at *;split at kF
 ·rename_i k m k' m';obtain⟨rfl,kF⟩:=kF;have h1:=zQ hx;have h2:=zQ hy;subst h1;subst h2;cases b<;>simp only[Ec,FR.bad,FR.ok]at kF⊢ <;>
   first
   |exact kF.elim
   |(refine⟨_,?_,Ce _ _⟩;simp[binOp,Gq,Op.intDiv,Op.intBits,kF])
   |(refine⟨_,?_,Jt _⟩;simp[binOp,Op.intCmp])
 ·rename_i l l';obtain⟨h1,hl⟩:=JG hx;obtain⟨h2,hl'⟩:=JG hy;subst h1;subst h2;cases b<;>simp only[Ef,FR.bad,FR.ok]at kF⊢ <;>
   first
   |exact kF.elim
   |(refine⟨_,?_,Jt _⟩;simp only[binOp,Op.stringOp,toList_eq];rfl)
   |skip
  refine⟨.string ⟨⟨l++l'⟩⟩,?_,Y5 (by simpa using kF)⟩;have h63:¬((l.length+l'.length:Nat):Int)>yJ.max:=by simp only[maxLen]at kF;have e:yJ.max=9223372036854775807:=(by decide);rw[e];omega
  have happ:(⟨⟨l⟩⟩:ByteArray)++⟨⟨l'⟩⟩=⟨⟨l++l'⟩⟩:=by apply ByteArray.ext;simp
  simp only[binOp,Op.stringOp,size_mk];rw[au h63,happ];rfl
 ·exact kF.elim
def acv (n:Nat)(op:Op)(b:BinOp)(x y:pR):Bool:=match op with|.binOp b' _ x' y' _=>b'==b&&lJ n x' x&&lJ n y' y|_=>false
theorem EK (b:BinOp)(t:TypeId)(x y:Operand)(k:IntKind)(m:Int)(v:Value)(w:World):(eqGuard b t x y (.int k m) v).run P w = .ok () w:=by cases b<;>rfl
theorem Um (b:BinOp)(t:TypeId)(x y:Operand)(s:ByteArray)(v:Value)(w:World):(eqGuard b t x y (.string s) v).run P w = .ok () w:=by cases b<;>rfl
theorem KE (b:BinOp)(t:TypeId)(x y:Operand)(s:Bool)(v:Value)(w:World):(eqGuard b t x y (.bool s) v).run P w = .ok () w:=by cases b<;>rfl
theorem ahv {o:Oper}{b:BinOp}{x y:pR}(h:GX E I ρ n st a w)(hc:acv n o.op b x y=true)(hx:(x.ev st.tm).g=true)(hy:(y.ev st.tm).g=true)
 (kF:(Ub b (fK st.tm x) (fK st.tm y)).vc):xQ P E n o a w st (Ub b (fK st.tm x) (fK st.tm y)).v:=by
 unfold acv at hc;split at hc
 ·rename_i b' t x' y' t' he;simp only[ah,aY]at hc;obtain⟨⟨rfl,h1⟩,h2⟩:=hc;have g1:=oK h h1 hx;have g2:=oK h h2 hy;obtain⟨r,hr,hg⟩:=alc (P:=P) (t:=t) w g1 g2 kF;refine xm.val h ?_ hg;have hq:(eqGuard b' t x' y' (a.eval x') (a.eval y')).run P w = .ok () w:=by
   unfold Ub at kF;split at kF
   ·rename_i e1 e2;rw[e1]at g1;rw[zQ g1];exact EK _ _ _ _ _ _ _ _
   ·rename_i e1 e2;rw[e1]at g1;rw[(JG g1).1];exact Um _ _ _ _ _ _ _
   ·exact kF.elim
  simp[execOp,he,hq,hr]
 ·cases hc
def acu (P:Program)(n:Nat)(op:Op)(ng:Bool)(x y:pR):Bool:=
 match op with
 |.binOp b t x' y' _=>(match b with|.eql=> !ng|.neq=>ng|_=>false)&&(match P.underlying t with|some .bool=>true|_=>false)&&lJ n x' x&&lJ n y' y
 |_=>false
theorem ahu {o:Oper}{ng:Bool}{x y:pR}(h:GX E I ρ n st a w)(hc:acu P n o.op ng x y=true)(hx:(x.ev st.tm).g=true)(hy:(y.ev st.tm).g=true)
 (kF:(aae ng (fK st.tm x) (fK st.tm y)).vc):xQ P E n o a w st (aae ng (fK st.tm x) (fK st.tm y)).v:=by
 unfold acu at hc;split at hc
 ·rename_i b t x' y' t' he;simp only[ah]at hc;obtain⟨⟨⟨hb,ht⟩,h1⟩,h2⟩:=hc;have g1:=oK h h1 hx;have g2:=oK h h2 hy;unfold aae at kF⊢;split at kF
  ·rename_i p q e1 e2;rw[e1]at g1;rw[e2]at g2;have hu:P.underlying t=some .bool:=by
    split at ht
    ·assumption
    ·cases ht
   have hd:∀d,(Bo (d+1) t (.bool p) (.bool q)).run P w = .ok (p==q) w:=λd=>(by simp[Bo,run_underlying hu]);have he':(Op.equal t (.bool p) (.bool q)).run P w = .ok (p==q) w:=hd 9999;have hp:=KY g1;have hq:=KY g2;simp only[FR.ok];cases b<;>simp at hb
   ·subst hb;refine xm.val h ?_ (Jt _);simp[execOp,he,hp,hq,KE,binOp,he']
   ·subst hb;refine xm.val h ?_ (Jt _);simp[execOp,he,hp,hq,KE,binOp,he',bne]
  ·exact kF.elim
 ·cases hc
def acB (n:Nat)(op:Op)(x:pR):Bool:=match op with|.unOp .not _ x'=>lJ n x' x|_=>false
theorem aiY {o:Oper}{x:pR}{b:Bool}(h:GX E I ρ n st a w)(hc:acB n o.op x=true)(hx:(x.ev st.tm).g=true)(hb:fK st.tm x=xW b):xQ P E n o a w st (xW (!b)):=by
 unfold acB at hc;split at hc
 ·rename_i t x' he;have g1:=oK h hc hx;rw[hb]at g1;have hp:=KY g1;exact xm.val h (by simp[execOp,he,hp,Op.unary]) (Jt _)
 ·cases hc
def acA (n:Nat)(op:Op)(x:pR):Bool:=match op with|.unOp .neg _ x'=>lJ n x' x|_=>false
theorem aiW {o:Oper}{x:pR}{k:IntKind}{m:Int}(h:GX E I ρ n st a w)(hc:acA n o.op x=true)(hx:(x.ev st.tm).g=true)(hb:fK st.tm x=yG k m):xQ P E n o a w st (yG k (k.wrap (0-m))):=by
 unfold acA at hc;split at hc
 ·rename_i t x' he;have g1:=oK h hc hx;rw[hb]at g1;have hp:=zQ g1;exact xm.val h (v:=.int k (k.wrap (0-m))) (by simp[execOp,he,hp,Op.unary,Gq]) (Ce _ _)
 ·cases hc
def Yy (P:Program)(n:Nat)(op:Op)(k:IntKind)(x:pR):Bool:=match op with|.convert s d x'=>(match P.underlying s with|some _=>true|none=>false)&&(match P.underlying d with|some (.int k')=>k'==k|_=>false)&&lJ n x' x|_=>false
theorem afB {o:Oper}{x:pR}{k j:IntKind}{m:Int}(h:GX E I ρ n st a w)(hc:Yy P n o.op k x=true)(hx:(x.ev st.tm).g=true)(hb:fK st.tm x=yG j m):xQ P E n o a w st (yG k (k.wrap m)):=by
 unfold Yy at hc;split at hc
 ·rename_i s d x' he;simp only[ah]at hc;have g1:=oK h hc.2 hx;rw[hb]at g1;have hp:=zQ g1;obtain⟨⟨h1,h2⟩,_⟩:=hc;split at h1
  ·rename_i ds hs;split at h2
   ·rename_i k' hd;simp only[aY]at h2;subst h2;exact xm.val h (v:=.int k' (k'.wrap m)) (by simp[execOp,he,hp,convert,run_underlying hs,run_underlying hd,Conv.intToInt]) (Ce _ _)
   ·cases h2
  ·cases h1
 ·cases hc
def YH (P:Program)(n:Nat)(op:Op)(x:pR):Bool:=match op with|.convert s d x'=>(match P.underlying s with|some .string=>true|_=>false)&&(match P.underlying d with|some .string=>true|_=>false)&&lJ n x' x|_=>false
theorem agD {o:Oper}{x:pR}{l:List UInt8}(h:GX E I ρ n st a w)(hc:YH P n o.op x=true)(hx:(x.ev st.tm).g=true)(hb:fK st.tm x=LD l):xQ P E n o a w st (LD l):=by
 unfold YH at hc;split at hc
 ·rename_i s d x' he;simp only[ah]at hc;have g1:=oK h hc.2 hx;rw[hb]at g1;obtain⟨hp,hl⟩:=JG g1;obtain⟨⟨h1,h2⟩,_⟩:=hc;split at h1
  ·rename_i hs;split at h2
   ·rename_i hd;exact xm.val h (by simp[execOp,he,hp,convert,run_underlying hs,run_underlying hd]) (Y5 hl)
   ·cases h2
  ·cases h1
 ·cases hc
end
end
section
section
variable {P:Program} {E:Env P} {I:IH} {ρ:Ren} {n:Nat} {st:gZ} {a:Act} {w:World}
theorem mY {α:Type}{es:List (List α)}{i j:Nat}{c:α}(h:(es.getD i [])[j]? = some c):i<es.length:=by
 by_cases hi:i<es.length
 ·exact hi
 ·simp[dI,kU (BN hi)]at h
theorem Addr.add_zero (p:Addr):p.add 0=p:=by simp[Cm]
theorem Addr.uw (k o i:Nat):(⟨k,o,none⟩:Addr).add i=⟨k,o+i,none⟩:=by
 unfold Cm;split
 ·simp_all
 ·rfl
theorem Addr.add_add (p:Addr)(i j:Nat):(p.add i).add j=p.add (i+j):=by unfold Cm;by_cases hi:i=0<;>by_cases hj:j=0<;>simp[hi,hj,tZ]
def D8 (I:IH)(ρ:Ren)(w:World)(p:Addr)(xs:List AC):Prop:=
 ∀(j:Nat) (x:AC),xs[j]? = some x->∃u,w.cell? (p.add j)=some u/\GC I ρ u x
theorem D8.drop {p:Addr}{xs:List AC}(h:D8 I ρ w p xs)(off:Nat):D8 I ρ w (p.add off) (xs.drop off):=λj x hj=>by rw[gW]at hj;rw[Addr.add_add];exact h _ _ hj
theorem D8.take {p:Addr}{xs:List AC}(h:D8 I ρ w p xs)(k:Nat):D8 I ρ w p (xs.take k):=λj x hj=>by
 rw[dJ]at hj;split at hj
 ·exact h _ _ hj
 ·cases hj
theorem D8.list {p:Addr}{xs:List AC}(h:D8 I ρ w p xs):∃us:List Value,us.length=xs.length/\(∀(j:Nat) (u:Value),us[j]? = some u->w.cell? (p.add j)=some u)/\NT I ρ us xs:=by
 induction xs generalizing p with
 |nil=>exact⟨[],rfl,mD,rfl,mD⟩
 | cons x r ih=>
   obtain⟨u,hu,hg⟩:=h 0 x rfl;obtain⟨us,hl,hc,hgs⟩:=ih (p:=p.add 1) (λj y hj=>by rw[Addr.add_add];rw[yt];exact h (j+1) y (by simpa using hj));refine⟨u::us,by simp[hl],λj v hj=>?_,by simp[hl],λj v y hv hy=>?_⟩
   ·cases j with
    |zero=>simp at hj;subst hj;exact hu
    |succ j=>have:=hc j v (by simpa using hj);rwa[Addr.add_add,yt]at this
   ·cases j with
    |zero=>simp at hv hy;subst hv;subst hy;exact hg
    |succ j=>exact hgs.2 j v y (by simpa using hv) (by simpa using hy)
theorem Zt {t:TypeId}{k:Nat}(ht:Md P t true k=true){p:Addr}{xs:List AC}(hl:xs.length=k)(h:D8 I ρ w p xs) :
 ∃v,(loadVar t p).run P w = .ok v w/\GV I ρ v (.agg xs):=by
 obtain⟨us,hul,hc,hg⟩:=h.list;obtain⟨h1,h2⟩:=IE ht w;have h3:=run_loadCells_list (P:=P) w p us hc;refine⟨.agg us.toArray,?_,us.toArray,rfl,by simpa using hg⟩;rw[hul,hl]at h3;simp[loadVar,h1,h2,h3]
theorem Lr {t:TypeId}{k:Nat}(ht:Md P t false k=true){p:Addr}{u:Value}(h:w.cell? p=some u):(loadVar t p).run P w = .ok u w:=by obtain⟨h1,h2⟩:=IE ht w;simp[loadVar,h1,run_load,h]
theorem BX.agU (h:BX I ρ w st.bx){b k cap:Nat}{xs:List AC}(hb:st.bx b = .var xs)(hr:ρ b=some (k,cap)):D8 I ρ w ⟨k,0,none⟩ xs:=λj x hj=>by
 have:=h.ok b;rw[hb]at this;obtain⟨k',cap',cs,hr',hw,hs,hc⟩:=this;rw[hr]at hr';simp at hr';obtain⟨rfl,rfl⟩:=hr';have hjl:j<cs.size:=by rw[hs];exact(aS.1 hj).1
 refine⟨cs[j],?_,hc j _ x (lZ hjl) hj⟩;rw[Addr.uw];simp[iy,hw,lZ hjl]
theorem GS.NV (h:GX E I ρ n st a w){b k cap sz:Nat}{es:List (List Cell)}(hb:(st.bx b).arr=some (sz,es))(hr:ρ b=some (k,cap))(hc:cap≠0){i:Nat}(hi:i<es.length) :
 D8 I ρ w ⟨k,i*sz,none⟩ ((es.getD i []).map .c):=λj x hj=>by
 rw[dG]at hj;cases hq:(es.getD i [])[j]? with
 |none=>rw[hq]at hj;cases hj
 | some c=>
   rw[hq]at hj;simp at hj;subst hj;have hok:=h.bx.ok b;rw[Addr.uw];cases hx:st.bx b with
   | dat sz' es'=>rw[hx]at hok hb;simp[Box.arr]at hb;obtain⟨rfl,rfl⟩:=hb;obtain⟨k',cap',hr',_,_,_,hd⟩:=hok;rw[hr]at hr';simp at hr';obtain⟨rfl,rfl⟩:=hr';obtain⟨cs,e,hw,_,_,hcs⟩:=hd hc;obtain⟨u,hu,hrd⟩:=hcs i j c hq;exact⟨u,by simp[iy,hw,hu],hrd⟩
   | Hz sz' es'=>rw[hx]at hok hb;simp[Box.arr]at hb;obtain⟨rfl,rfl⟩:=hb;obtain⟨k',cap',hr',_,_,_,hd⟩:=hok;rw[hr]at hr';simp at hr';obtain⟨rfl,rfl⟩:=hr';obtain⟨cs,hI,hcs⟩:=hd hc;obtain⟨u,hu,hrd⟩:=hcs i j c hq;obtain⟨e,fr,hw⟩:=h.agree _ _ hI;exact⟨u,by simp[iy,hw,hu],hrd⟩
   |absent=>rw[hx]at hb;cases hb
   |dead=>rw[hx]at hb;cases hb
   |var xs=>rw[hx]at hb;cases hb
   |row e l=>rw[hx]at hb;cases hb
theorem GS.JX (h:GX E I ρ n st a w){b k cap sz:Nat}{es:List (List Cell)}(hb:(st.bx b).arr=some (sz,es))(hr:ρ b=some (k,cap)):es.length<=cap/\cap<=maxLen/\∀e,e∈es->e.length=sz:=by
 have hok:=h.bx.ok b;cases hx:st.bx b with
 | dat sz' es'=>rw[hx]at hok hb;simp[Box.arr]at hb;obtain⟨rfl,rfl⟩:=hb;obtain⟨k',cap',hr',h1,h2,h3,hd⟩:=hok;rw[hr]at hr';simp at hr';obtain⟨rfl,rfl⟩:=hr';exact⟨h1,h2,h3⟩
 | Hz sz' es'=>rw[hx]at hok hb;simp[Box.arr]at hb;obtain⟨rfl,rfl⟩:=hb;obtain⟨k',cap',hr',h1,h2,h3,hd⟩:=hok;rw[hr]at hr';simp at hr';obtain⟨rfl,rfl⟩:=hr';exact⟨h1,h2,h3⟩
 |absent=>rw[hx]at hb;cases hb
 |dead=>rw[hx]at hb;cases hb
 |var xs=>rw[hx]at hb;cases hb
 |row e l=>rw[hx]at hb;cases hb
def YE (P:Program)(n:Nat)(op:Op)(agg:Bool)(k:Nat)(p:pR):Bool:=match op with|.load t p'=>lJ n p' p&&Md P t agg k&&(agg||k==1)|_=>false
theorem XN {t:TypeId}{agg:Bool}{k:Nat}(h:GX E I ρ n st a w)(ht:Md P t agg k=true){pv:Value}{p:AV}(hp:GV I ρ pv p)(kF:(BC agg k p st.bx).vc) :
 ∃v,(qM t pv).run P w = .ok v w/\GV I ρ v (BC agg k p st.bx).v:=by
 have key:∀(q:Addr) (xs:List AC) (off:Nat),pv = .pointer (some (q.add off))->D8 I ρ w q xs->(agg=true->off+k<=xs.length->∃v,(qM t pv).run P w = .ok v w/\GV I ρ v (.agg ((xs.drop off).take k))) /\
  (agg=false->∀x,xs[off]? = some x->∃v,(qM t pv).run P w = .ok v w/\GV I ρ v (.one x)):=by
  intro q xs off hq hc;refine⟨λhA hl=>?_,λhA x hx=>?_⟩
  ·subst hA;obtain⟨v,hv,hg⟩:=Zt (P:=P) (xs:=(xs.drop off).take k) ht (by simp;omega) ((hc.drop off).take k);exact⟨v,by simp[qM,hq,kX,hv],hg⟩
  ·subst hA;obtain⟨u,hu,hg⟩:=hc off x hx;exact⟨u,by simp[qM,hq,kX,Lr (P:=P) ht hu],hg⟩
 unfold BC at *;split at kF
 ·rename_i b off;obtain⟨kk,cap,hr,hv⟩:=hp;split at kF
  ·rename_i xs hb;have hc:=h.bx.agU hb hr;have hk:=key ⟨kk,0,none⟩ xs off (by rw[Addr.uw];simpa using hv) hc
   try simp only[hb]
   split at kF
   ·rename_i hA;rw[aA hA];exact hk.1 hA kF
   ·rename_i hA;rw[au hA];split at kF
    ·rename_i x hx;simp only[FR.ok];exact hk.2 (by simpa using hA) x hx
    ·exact kF.elim
  ·exact kF.elim
 ·rename_i b i sz off;obtain⟨kk,cap,hr,hv⟩:=hp;split at kF
  ·rename_i sz' es hb
   try simp only[hb]
   have facts:=GS.JX h hb hr;split at kF
   ·rename_i hA;rw[aA hA];obtain⟨rfl,hi,hl⟩:=kF;have hc:=GS.NV h hb hr aI hi;have hlen:(es.getD i []).length=sz':=facts.2.2 _ (by simp[dI,aB hi]);have:=(key ⟨kk,i*sz',none⟩ _ off (by rw[Addr.uw];exact hv) hc).1 hA (by rw[vg,hlen];exact hl);simpa[List.map_drop,xC]using this
   ·rename_i hA;rw[au hA];obtain⟨rfl,hi,hl⟩:=kF;have hc:=GS.NV h hb hr aI hi;have hlen:(es.getD i []).length=sz':=facts.2.2 _ (by simp[dI,aB hi]);have:=(key ⟨kk,i*sz',none⟩ _ off (by rw[Addr.uw];exact hv) hc).2 (by simpa using hA) (.c ((es.getD i []).getD off default))
     (by rw[dG,aB aI];simp[dI,aB (show off<(es[i]?.getD []).length by simpa[dI]using(by omega:off<(es.getD i []).length))])
    exact this
  ·exact kF.elim
 ·rename_i cs;obtain⟨p,hv,hc⟩:=hp;have hcc:D8 I ρ w p (cs.map .c):=λj x hj=>by
   rw[dG]at hj;cases hq:cs[j]? with
   |none=>rw[hq]at hj;cases hj
   |some c=>rw[hq]at hj;simp at hj;subst hj;obtain⟨u,hu,hr⟩:=hc j c hq;exact⟨u,h.agree.cell hu,hr⟩
  have hk:=key p _ 0 (by rw[Addr.add_zero];exact hv) hcc;split at kF
  ·rename_i hA;rw[aA hA];have:=hk.1 hA (by simpa using kF);simpa[xC]using this
  ·rename_i hA;rw[au hA];have h0:cs[0]? = some (cs.getD 0 default):=(by simp[dI,aB kF]);exact hk.2 (by simpa using hA) _ (by rw[dG,h0];rfl)
 ·exact kF.elim
theorem af9 {o:Oper}{agg:Bool}{k:Nat}{p:pR}(h:GX E I ρ n st a w)(hc:YE P n o.op agg k p=true)(hx:(p.ev st.tm).g=true)(kF:(BC agg k (fK st.tm p) st.bx).vc) :
 xQ P E n o a w st (BC agg k (fK st.tm p) st.bx).v:=by
 unfold YE at hc;split at hc
 ·rename_i t p' he;simp only[ah]at hc;obtain⟨v,hv,hg⟩:=XN (P:=P) h hc.1.2 (oK h hc.1.1 hx) kF;exact xm.val h (by simp[execOp,he,hv]) hg
 ·cases hc
end
end
section
section
variable {P:Program} {E:Env P} {I:IH} {ρ:Ren} {n:Nat} {st:gZ} {a:Act} {w:World}
def Qv (P:Program)(t:TypeId):Bool:=match P.underlying t with|some (.slice _)=>true|_=>false
theorem OJ {t:TypeId}(h:Qv P t=true):∃e,P.underlying t=some (.slice e):=by
 unfold Qv at h;split at h
 ·rename_i e he;exact⟨e,he⟩
 ·cases h
def Sj (P:Program)(t:TypeId):Bool:=match P.underlying t with|some .string=>true|_=>false
theorem Jq {t:TypeId}(h:Sj P t=true):P.underlying t=some .string:=by
 unfold Sj at h;split at h
 ·assumption
 ·cases h
theorem alM {v:Value}{sz:Nat}{es:List (List Cell)}(h:GV I ρ v (vSl sz es)):∃a cap,v = .slice a es.length cap/\es.length<=cap/\cap<=maxLen:=by cases h with|sl a len cap sz es u hlen hcap hmax=>subst hlen;exact⟨a,cap,rfl,hcap,hmax⟩
def lenV (x:AV):FR:=match x with
    |.one (.c (.sl _ es))=>.ok (yG .i64 es.length)
    |.one (.og _)=>.ok (yG .i64 0)
    |.one (.own _ n _)=>.ok (yG .i64 n)
    |.one (.sub _ _ n _ _)=>.ok (yG .i64 n)
    |_=>.bad
theorem amq {v:Value}{x:AV}(h:GV I ρ v x)(kF:(lenV x).vc):∃b k c,v = .slice b k c/\(lenV x).v=yG .i64 k:=by
 unfold lenV at *;split at kF
 ·rename_i sz es;obtain⟨b,c,rfl,_⟩:=alM h;exact⟨b,_,c,rfl,rfl⟩
 ·simp only[GV,GC]at h;exact⟨none,0,0,h,rfl⟩
 ·obtain⟨k,cap,b,c,_,rfl,_⟩:=h;exact⟨b,_,c,rfl,rfl⟩
 ·obtain⟨k,cap,b,c,_,rfl,_⟩:=h;exact⟨b,_,c,rfl,rfl⟩
 ·exact kF.elim
def acy (P:Program)(n:Nat)(op:Op)(x:pR):Bool:=
 match op with
 |.call { callee:=.builtin .len,args:=⟨[x']⟩,argTypes:=⟨[t]⟩ }=>lJ n x' x&&Qv P t
 |_=>false
theorem aiC {o:Oper}{x:pR}(h:GX E I ρ n st a w)(hc:acy P n o.op x=true)(hx:(x.ev st.tm).g=true)(kF:(lenV (fK st.tm x)).vc):xQ P E n o a w st (lenV (fK st.tm x)).v:=by
 unfold acy at hc;split at hc
 ·rename_i x' t he;simp only[ah]at hc;have g:=oK h hc.1 hx;obtain⟨e,ht⟩:=OJ hc.2;obtain⟨b,k,c,hv,hr⟩:=amq g kF;rw[hr];exact xm.val h (by simp[execOp,he,resolve,invoke,builtin,F7,run_underlying ht,hv,goInt]) (Ce _ _)
 ·cases hc
def YD (P:Program)(n:Nat)(op:Op)(x:pR):Bool:=
 match op with
 |.call { callee:=.builtin .len,args:=⟨[x']⟩,argTypes:=⟨[t]⟩ }=>lJ n x' x&&Sj P t
 |_=>false
theorem af7 {o:Oper}{x:pR}{s:List UInt8}(h:GX E I ρ n st a w)(hc:YD P n o.op x=true)(hx:(x.ev st.tm).g=true)(hs:fK st.tm x=LD s):xQ P E n o a w st (yG .i64 s.length):=by
 unfold YD at hc;split at hc
 ·rename_i x' t he;simp only[ah]at hc;have g:=oK h hc.1 hx;rw[hs]at g;have ht:=Jq hc.2;obtain⟨hv,_⟩:=JG g;exact xm.val h (v:=.int .i64 s.length) (by simp[execOp,he,resolve,invoke,builtin,F7,run_underlying ht,hv,goInt];rfl) (Ce _ _)
 ·cases hc
def Xz (mx:Bool)(n:Nat)(op:Op)(x y:pR):Bool:=
 match op with
 |.call { callee:=.builtin b,args:=⟨[x',y']⟩,argTypes:=_ }=>(match b with|.max=>mx|.min=> !mx|_=>false)&&lJ n x' x&&lJ n y' y
 |_=>false
theorem aiP {o:Oper}{x y:pR}{k:IntKind}{p q:Int}(h:GX E I ρ n st a w)(hc:Xz true n o.op x y=true)(hx:(x.ev st.tm).g=true)(hy:(y.ev st.tm).g=true)
 (e1:fK st.tm x=yG k p) (e2:fK st.tm y=yG k q):xQ P E n o a w st (yG k (if q>p then q else p)):=by
 unfold Xz at hc;split at hc
 ·rename_i b x' y' ts he;simp only[ah]at hc;have g1:=oK h hc.1.2 hx;have g2:=oK h hc.2 hy;rw[e1]at g1;rw[e2]at g2;have v1:=zQ g1;have v2:=zQ g2;obtain⟨⟨hb,_⟩,_⟩:=hc;cases b<;>simp at hb;refine xm.val h (v:=.int k (if q>p then q else p)) ?_ (Ce _ _);simp[execOp,he,resolve,invoke,builtin,Builtin.max_,v1,v2,Builtin.max2]
 ·cases hc
theorem aiR {o:Oper}{x y:pR}{k:IntKind}{p q:Int}(h:GX E I ρ n st a w)(hc:Xz false n o.op x y=true)(hx:(x.ev st.tm).g=true)(hy:(y.ev st.tm).g=true)
 (e1:fK st.tm x=yG k p) (e2:fK st.tm y=yG k q):xQ P E n o a w st (yG k (if q<p then q else p)):=by
 unfold Xz at hc;split at hc
 ·rename_i b x' y' ts he;simp only[ah]at hc;have g1:=oK h hc.1.2 hx;have g2:=oK h hc.2 hy;rw[e1]at g1;rw[e2]at g2;have v1:=zQ g1;have v2:=zQ g2;obtain⟨⟨hb,_⟩,_⟩:=hc;cases b<;>simp at hb;refine xm.val h (v:=.int k (if q<p then q else p)) ?_ (Ce _ _);simp[execOp,he,resolve,invoke,builtin,Builtin.min_,v1,v2,Builtin.min2]
 ·cases hc
theorem akH {v:Value}{xs:List AC}(h:GP I ρ v (true,xs)):GV I ρ v (.agg xs):=by simpa[GP,GV]using h
theorem ah4 {v:Value}{x:AC}(h:GP I ρ v (false,[x])):GV I ρ v (.one x):=by simp only[GP]at h;obtain⟨y,hy,hg⟩:=h;simp at hy;subst hy;exact hg
def Ko (x:AV) (i:Nat):FR:=match x with
    | .AA ps=>match ps[i]? with
      |some (true,xs)=>.ok (.agg xs)
      |some (false,[x])=>.ok (.one x)
      |_=>.bad
    |_=>.bad
def O8 (n:Nat)(op:Op)(x:pR)(i:Nat):Bool:=match op with|.extract x' j=>lJ n x' x&&j==i|_=>false
theorem YM {o:Oper}{x:pR}{i:Nat}(h:GX E I ρ n st a w)(hc:O8 n o.op x i=true)(hx:(x.ev st.tm).g=true)(kF:(Ko (fK st.tm x) i).vc):xQ P E n o a w st (Ko (fK st.tm x) i).v:=by
 unfold O8 at hc;split at hc
 ·rename_i x' j he;simp only[ah,aY]at hc;obtain⟨h1,rfl⟩:=hc;have g:=oK h h1 hx;unfold Ko at kF⊢;split at kF
  ·rename_i ps e1;rw[e1]at g;obtain⟨vs,hv,hs,hp⟩:=g;have hj:∀p,ps[j]? = some p->∃v,vs[j]? = some v/\GP I ρ v p:=λp hq=>by
    have hl:j<vs.size:=(by rw[hs];exact(aS.1 hq).1);exact⟨vs[j],lZ hl,hp j _ p (lZ hl) hq⟩
   split at kF
   ·rename_i xs hq;obtain⟨v,hv',hg⟩:=hj _ hq;exact xm.val h (by simp[execOp,he,hv,Fp,hv']) (akH hg)
   ·rename_i y hq;obtain⟨v,hv',hg⟩:=hj _ hq;exact xm.val h (by simp[execOp,he,hv,Fp,hv']) (ah4 hg)
   ·exact kF.elim
  ·exact kF.elim
 ·cases hc
def YC (P:Program)(n:Nat)(op:Op)(x i:pR):Bool:=match op with|.index t x' i'=>lJ n x' x&&lJ n i' i&&Sj P t|_=>false
theorem af2 {o:Oper}{x y:pR}{s:List UInt8}{k:IntKind}{i:Int}(h:GX E I ρ n st a w)(hc:YC P n o.op x y=true)(hx:(x.ev st.tm).g=true)(hy:(y.ev st.tm).g=true)
 (e1:fK st.tm x=LD s) (e2:fK st.tm y=yG k i) (h0:0<=i) (h1:i<s.length):xQ P E n o a w st (yG .u8 (s.getD i.toNat 0).toNat):=by
 unfold YC at hc;split at hc
 ·rename_i t x' y' he;simp only[ah]at hc;have g1:=oK h hc.1.1 hx;have g2:=oK h hc.1.2 hy;rw[e1]at g1;rw[e2]at g2;obtain⟨v1,_⟩:=JG g1;have v2:=zQ g2;have ht:=Jq hc.2;have hi:i.toNat<s.length:=by omega
  refine xm.val h (v:=.int .u8 (s.getD i.toNat 0).toNat) ?_ (Ce _ _);have hb:(⟨⟨s⟩⟩:ByteArray)[i.toNat]? = some (s.getD i.toNat 0):=by have:(⟨⟨s⟩⟩:ByteArray)[i.toNat]? = some ((⟨⟨s⟩⟩:ByteArray)[i.toNat]'(by simpa[ByteArray.size]using hi)):=getElem?_pos _ _ _;rw[this];simp[dI,aB hi];rfl
  simp[execOp,he,Instr.index,v1,v2,asIntOf,run_underlying ht,h0,hb]
 ·cases hc
def YF (n:Nat)(op:Op)(f:FuncId)(cs:List pR):Bool:=match op with|.makeFunc (.func g) ⟨[]⟩ caps=>g==f&&(caps.size==cs.length)&&(caps.toList.zip cs).all λp=>lJ n p.1 p.2|_=>false
theorem akp {cs:List pR}{os:List Operand}{l:List Nat}(h:GX E I ρ n st a w)(hl:os.length=cs.length)(hc:(os.zip cs).all (λp=>lJ n p.1 p.2)=true)(hg:∀x,x∈cs->(x.ev st.tm).g=true)
 (hk:JE (cs.map (fK st.tm))=some l):∃ks:List Nat,ks.length=l.length/\(∀(j b k:Nat),l[j]? = some b->ks[j]? = some k->∃cap,ρ b=some (k,cap))/\os.map a.eval=ks.map λk=>rY (some ⟨k,0,none⟩):=by
 induction cs generalizing os l with
 | nil=>
   simp[JE]at hk;subst hk;cases os with
   |nil=>exact⟨[],rfl,mD,rfl⟩
   |cons _ _=>simp at hl
 | cons c r ih=>
   cases os with
   |nil=>simp at hl
   | cons o os=>
     simp only[List.zip_cons_cons,gU,ah]at hc;have g:=oK h hc.1 (hg c mD);simp only[bT]at hk;unfold JE at hk;split at hk
     ·rename_i e;cases e
     ·rename_i b r' e;simp only[xZ]at e;obtain⟨e1,rfl⟩:=e;cases hq:JE (r.map (fK st.tm))with
      |none=>rw[hq]at hk;cases hk
      | some l'=>
        rw[hq]at hk;simp at hk;subst hk;obtain⟨ks,h1,h2,h3⟩:=ih (by simpa using hl) hc.2 (λx hx=>hg x (by simp[hx])) hq;rw[e1]at g;obtain⟨k,cap,hr,hv⟩:=g;refine⟨k::ks,by simp[h1],λj b' k' hb hk=>?_,by simp[hv,h3]⟩;cases j with
        |zero=>simp at hb hk;subst hb;subst hk;exact⟨cap,hr⟩
        |succ j=>exact h2 j b' k' (by simpa using hb) (by simpa using hk)
     ·cases hk
theorem agn {o:Oper}{f:FuncId}{cs:List pR}{l:List Nat}(h:GX E I ρ n st a w)(hc:YF n o.op f cs=true)(hg:∀x,x∈cs->(x.ev st.tm).g=true)
 (hk:JE (cs.map (fK st.tm))=some l):xQ P E n o a w st (.one (.fn f l)):=by
 unfold YF at hc;split at hc
 ·rename_i g caps he;simp only[ah,aY]at hc;obtain⟨⟨rfl,hl⟩,hc⟩:=hc;obtain⟨ks,h1,h2,h3⟩:=akp h (by simpa using hl) hc hg hk;refine xm.val h (v:=.func (.func g) #[] (caps.map a.eval)) (by simp[execOp,he,Instr.makeFunc]) ⟨ks,h1,h2,?_⟩
  congr 1
  apply zB;simpa using h3
 ·cases hc
def MX (off:Nat) (x:AV):FR:=match x with
    |.one (.ptr b o)=>.ok (.one (.ptr b (o+off)))
    |.one (.BF b i sz o)=>.ok (.one (.BF b i sz (o+off)))
    |.one (.Ik cs)=>.ok (.one (.Ik (cs.drop off)))
    |_=>.bad
theorem ahV {v:Value}{x:AV}{off:Nat}(h:GV I ρ v x)(kF:(MX off x).vc):∃p:Addr,v = .pointer (some p)/\GV I ρ (.pointer (some (p.add off))) (MX off x).v:=by
 unfold MX at *;split at kF
 ·rename_i b o;obtain⟨k,cap,hr,rfl⟩:=h;exact⟨_,rfl,k,cap,hr,by rw[Addr.uw]⟩
 ·rename_i b i sz o;obtain⟨k,cap,hr,rfl⟩:=h;exact⟨_,rfl,k,cap,hr,by rw[Addr.uw,tZ]⟩
 ·rename_i cs;obtain⟨p,rfl,hc⟩:=h;exact⟨p,rfl,_,rfl,λj c hj=>by rw[gW]at hj;rw[Addr.add_add];exact hc _ c hj⟩
 ·exact kF.elim
def YN (P:Program)(s:TypeId)(f off:Nat)(agg:Bool)(k:Nat):Bool:=
 match P.underlying s with
 | some (.struct fs)=>match fs[f]? with
   |some TF=>TF.offset==off&&Md P TF.type agg k&&k != 0
   |none=>false
 |_=>false
theorem YO {s:TypeId}{f off:Nat}{agg:Bool}{k:Nat}(h:YN P s f off agg k=true):∃fs TF,P.underlying s=some (.struct fs)/\fs[f]? = some TF/\TF.offset=off/\Md P TF.type agg k=true/\k≠0:=by
 unfold YN at h;split at h
 ·rename_i fs hs;split at h
  ·rename_i TF hf;simp only[ah,aY,bne_iff_ne]at h;exact⟨fs,TF,hs,hf,h.1.1,h.1.2,h.2⟩
  ·cases h
 ·cases h
def FQ (P:Program)(s:TypeId)(f off:Nat):Bool:=
 match P.underlying s with
 | some (.struct fs)=>match fs[f]? with
   |some TF=>TF.offset==off&&(match P.info? TF.type with|some i=>i.size != 0|none=>false)
   |none=>false
 |_=>false
def U9 (P:Program)(n:Nat)(op:Op)(off:Nat)(x:pR):Bool:=match op with|.fieldAddr s x' f=>lJ n x' x&&FQ P s f off|_=>false
theorem acQ {o:Oper}{x:pR}{off:Nat}(h:GX E I ρ n st a w)(hc:U9 P n o.op off x=true)(hx:(x.ev st.tm).g=true)(kF:(MX off (fK st.tm x)).vc):xQ P E n o a w st (MX off (fK st.tm x)).v:=by
 unfold U9 at hc;split at hc
 ·rename_i s x' f he;simp only[ah]at hc;have g:=oK h hc.1 hx;obtain⟨p,hp,hg⟩:=ahV g kF;obtain⟨_,hf⟩:=hc;unfold FQ at hf;split at hf
  ·rename_i fs hs;split at hf
   ·rename_i TF hfld;simp only[ah,aY]at hf;obtain⟨rfl,hf⟩:=hf;split at hf
    ·rename_i i hi;simp at hf;refine xm.val h ?_ hg;simp[execOp,he,BJ,run_underlying hs,hfld,hp,kX,fieldPlace,sizeOf,typeInfo,hi,hf]
    ·cases hf
   ·cases hf
  ·cases hf
 ·cases hc
def SG (x:AV):FR:=match x with
    |.one (.ptr b o)=>.ok (.one (.ptr b o))
    |.one (.BF b i sz o)=>.ok (.one (.BF b i sz o))
    |.one (.Ik cs)=>.ok (.one (.Ik cs))
    |.one (.fn f cs)=>.ok (.one (.fn f cs))
    |_=>.bad
def Vf (n:Nat)(op:Op)(x:pR):Bool:=match op with|.nilCheck x'=>lJ n x' x|_=>false
theorem adp {o:Oper}{x:pR}(h:GX E I ρ n st a w)(hc:Vf n o.op x=true)(hx:(x.ev st.tm).g=true)(kF:(SG (fK st.tm x)).vc):xQ P E n o a w st (SG (fK st.tm x)).v:=by
 unfold Vf at hc;split at hc
 ·rename_i x' he;have g:=oK h hc hx;have key:(∃p,a.eval x' = .pointer (some p))\/(∃f b,a.eval x' = .func (.func f) #[] b)->(execOp a.eval o).run P w = .ok (.value (a.eval x')) w:=by rintro(⟨p,hp⟩|⟨f,b,hp⟩)<;>simp[execOp,he,hp]
  unfold SG at kF⊢;split at kF
  ·rename_i b o' e1;rw[e1]at g;exact xm.val h (key (by obtain⟨k,cap,hr,hv⟩:=g;exact .inl ⟨_,hv⟩)) g
  ·rename_i b i sz o' e1;rw[e1]at g;exact xm.val h (key (by obtain⟨k,cap,hr,hv⟩:=g;exact .inl ⟨_,hv⟩)) g
  ·rename_i cs e1;rw[e1]at g;exact xm.val h (key (by obtain⟨p,hv,_⟩:=g;exact .inl ⟨_,hv⟩)) g
  ·rename_i f cs e1;rw[e1]at g;exact xm.val h (key (by obtain⟨ks,_,_,hv⟩:=g;exact .inr ⟨_,_,hv⟩)) g
  ·exact kF.elim
 ·cases hc
end
end
section
section
variable {P:Program} {E:Env P} {I:IH} {ρ:Ren} {n:Nat} {st:gZ} {a:Act} {w:World}
def RG (agg:Bool) (off k:Nat) (x:AV):FR:=match x with
    | .agg xs=>if agg then⟨off+k<=xs.length,.agg ((xs.drop off).take k),[]⟩else match xs[off]? with
      |some x=>.ok (.one x)
      |none=>.bad
    |_=>.bad
def Va (P:Program)(n:Nat)(op:Op)(agg:Bool)(off k:Nat)(x:pR):Bool:=match op with|.field s x' f=>lJ n x' x&&YN P s f off agg k|_=>false
theorem ah1 {vs:List Value}{xs:List AC}(h:NT I ρ vs xs)(off k:Nat):NT I ρ ((vs.drop off).take k) ((xs.drop off).take k):=by
 refine⟨by simp[h.1],λj v x hv hx=>?_⟩;rw[dJ]at hv hx;split at hv
 ·rename_i hj;rw[aA hj]at hx;rw[gW]at hv hx;exact h.2 _ v x hv hx
 ·cases hv
theorem acR {o:Oper}{x:pR}{agg:Bool}{off k:Nat}(h:GX E I ρ n st a w)(hc:Va P n o.op agg off k x=true)(hx:(x.ev st.tm).g=true)(kF:(RG agg off k (fK st.tm x)).vc) :
 xQ P E n o a w st (RG agg off k (fK st.tm x)).v:=by
 unfold Va at hc;split at hc
 ·rename_i s x' f he;simp only[ah]at hc;have g:=oK h hc.1 hx;obtain⟨fs,TF,hs,hf,rfl,ht,hk⟩:=YO hc.2;obtain⟨t1,t2⟩:=IE ht w;unfold RG at kF⊢;split at kF
  ·rename_i xs e1;rw[e1]at g;obtain⟨cs,hv,hg⟩:=g;split at kF
   ·rename_i hA;rw[aA hA];rw[hA]at t1;refine xm.val h (v:=.agg (cs.extract TF.offset (TF.offset+k))) (by simp[execOp,he,Gp,run_underlying hs,hf,hv,asAgg,part,t1,t2]) ⟨_,rfl,?_⟩;have:=ah1 hg TF.offset k;simpa[List.extract_eq_take_drop]using this
   ·rename_i hA;rw[au hA];have hA':agg=false:=(by simpa using hA);rw[hA']at t1;split at kF
    ·rename_i y hy;have hl:TF.offset<cs.size:=by
      have h1:=hg.1;have h2:=(aS.1 hy).1;simp at h1;omega
     refine xm.val h (v:=cs[TF.offset]) (by simp[execOp,he,Gp,run_underlying hs,hf,hv,asAgg,part,t1,lZ hl]) (hg.2 TF.offset _ y (by simp[hl]) hy)
    ·exact kF.elim
  ·exact kF.elim
 ·cases hc
def RV (sz:Nat) (x i:AV):FR:=match x,i with
    |.one (.c (.sl sz' es)),.one (.c (.lit (.int _ i)))=>⟨sz'=sz/\0<=i/\i<es.length,.one (.Ik (es.getD i.toNat [])),[]⟩
    |.one (.own b n sz'),.one (.c (.lit (.int _ i)))=>⟨sz'=sz/\0<=i/\i<n,.one (.BF b i.toNat sz 0),[]⟩
    |.one (.sub b lo n _ sz'),.one (.c (.lit (.int _ i)))=>⟨sz'=sz/\0<=i/\i<n,.one (.BF b (lo+i.toNat) sz 0),[]⟩
    |_,_=>.bad
def MW (P:Program)(t:TypeId)(sz:Nat):Bool:=match P.underlying t with|some (.slice e)=>Tc P e sz|_=>false
theorem DT {t:TypeId}{sz:Nat}(h:MW P t sz=true):∃e i,P.underlying t=some (.slice e)/\P.info? e=some i/\i.size=sz:=by
 unfold MW at h;split at h
 ·rename_i e he;obtain⟨i,h1,h2⟩:=NG h;exact⟨e,i,he,h1,h2⟩
 ·cases h
def Vb (P:Program)(n:Nat)(op:Op)(sz:Nat)(x i:pR):Bool:=match op with|.indexAddr t x' i'=>lJ n x' x&&lJ n i' i&&MW P t sz|_=>false
theorem ac3 {o:Oper}{x y:pR}{sz:Nat}(h:GX E I ρ n st a w)(hc:Vb P n o.op sz x y=true)(hx:(x.ev st.tm).g=true)(hy:(y.ev st.tm).g=true)
 (kF:(RV sz (fK st.tm x) (fK st.tm y)).vc):xQ P E n o a w st (RV sz (fK st.tm x) (fK st.tm y)).v:=by
 unfold Vb at hc;split at hc
 ·rename_i t x' y' he;simp only[ah]at hc;have g1:=oK h hc.1.1 hx;have g2:=oK h hc.1.2 hy;obtain⟨e,ti,ht,hi,hsz⟩:=DT hc.2;unfold RV at kF⊢;split at kF
  ·rename_i sz' es k i e1 e2;obtain⟨rfl,h0,h1⟩:=kF;rw[e1]at g1;rw[e2]at g2;have v2:=zQ g2;generalize hq:a.eval x'=v1 at g1;cases g1 with|sl b len cap _ _ u hlen hcap hmax apN ha hcell hr=>
   subst hlen;have hpos:0<es.length:=(by omega);cases hb:b with
   |none=>exact eF hb (ha hpos)
   | some ad=>
     subst hb;refine xm.val h (v:=.pointer (some (ad.add (i.toNat*sz')))) (by simp[execOp,he,xA,v2,hq,asIntOf,run_underlying ht,h0,h1,sizeOf,typeInfo,hi,hsz]) ⟨_,rfl,λj c hj=>?_⟩;have hil:i.toNat<es.length:=(by omega);have hjl:j<sz':=by have:=apN (es.getD i.toNat []) (by simp[dI,aB hil]);rw[<- this];exact(aS.1 hj).1
     exact⟨_,by rw[Addr.add_add];exact hcell ad rfl _ j hil hjl,hr _ j c hj⟩
  ·rename_i b m sz' k i e1 e2;obtain⟨rfl,h0,h1⟩:=kF;rw[e1]at g1;rw[e2]at g2;have v2:=zQ g2;obtain⟨kk,cap,ad,c,hr,hv,hm,hcc,hcap⟩:=g1;have hc0:cap≠0:=(by omega);have had:=hcap hc0;subst had;refine xm.val h (v:=.pointer (some ((⟨kk,0,none⟩:Addr).add (i.toNat*sz')))) (by simp[execOp,he,xA,v2,hv,asIntOf,run_underlying ht,h0,h1,sizeOf,typeInfo,hi,hsz]) ⟨kk,cap,hr,?_⟩;rw[Addr.uw];simp
  ·rename_i b lo m c0 sz' k i e1 e2;obtain⟨rfl,h0,h1⟩:=kF;rw[e1]at g1;rw[e2]at g2;have v2:=zQ g2;obtain⟨kk,cap,ad,c,hr,hv,hm,hcc,_,hcap⟩:=g1;have had:=hcap (.inl aI);subst had;refine xm.val h (v:=.pointer (some ((⟨kk,lo*sz',none⟩:Addr).add (i.toNat*sz')))) (by simp[execOp,he,xA,v2,hv,asIntOf,run_underlying ht,h0,h1,sizeOf,typeInfo,hi,hsz]) ⟨kk,cap,hr,?_⟩;rw[Addr.uw,dL,sF]
  ·exact kF.elim
 ·cases hc
def Qh (P:Program)(t:TypeId)(sz n:Nat):Bool:=match P.underlying t with|some (.array m e)=>m==n&&Tc P e sz|_=>false
theorem Qi {t:TypeId}{sz m:Nat}(h:Qh P t sz m=true):∃e i,P.underlying t=some (.array m e)/\P.info? e=some i/\i.size=sz:=by
 unfold Qh at h;split at h
 ·rename_i m' e he;simp only[ah,aY]at h;obtain⟨rfl,h⟩:=h;obtain⟨i,h1,h2⟩:=NG h;exact⟨e,i,he,h1,h2⟩
 ·cases h
def Rz (P:Program)(n:Nat)(op:Op)(sz m:Nat)(x i:pR):Bool:=match op with|.indexAddr t x' i'=>lJ n x' x&&lJ n i' i&&Qh P t sz m|_=>false
theorem aaK {o:Oper}{x y:pR}{sz m b:Nat}{k:IntKind}{i:Int}(h:GX E I ρ n st a w)(hc:Rz P n o.op sz m x y=true)(hx:(x.ev st.tm).g=true)(hy:(y.ev st.tm).g=true)
 (e1:fK st.tm x = .one (.BF b 0 sz 0)) (e2:fK st.tm y=yG k i) (h0:0<=i) (h1:i<m):xQ P E n o a w st (.one (.BF b i.toNat sz 0)):=by
 unfold Rz at hc;split at hc
 ·rename_i t x' y' he;simp only[ah]at hc;have g1:=oK h hc.1.1 hx;have g2:=oK h hc.1.2 hy;obtain⟨e,ti,ht,hi,hsz⟩:=Qi hc.2;rw[e1]at g1;rw[e2]at g2;have v2:=zQ g2;obtain⟨kk,cap,hr,hv⟩:=g1;refine xm.val h (v:=.pointer (some ((⟨kk,0*sz+0,none⟩:Addr).add (i.toNat*sz)))) (by simp[execOp,he,xA,v2,hv,asIntOf,run_underlying ht,kX,h0,h1,sizeOf,typeInfo,hi,hsz]) ⟨kk,cap,hr,?_⟩;rw[Addr.uw];simp
 ·cases hc
theorem JY {lo:Option pR}{lo':Option Operand}{d:Nat}{q:Int}(h:GX E I ρ n st a w)(hc:(match lo',lo with|none,none=>true|some x',some x=>lJ n x' x|_,_=>false)=true)
 (hg:∀x,x∈lo.toList->(x.ev st.tm).g=true) (hb:bnd (fK st.tm) lo d=some q):(lo'=none/\lo=none/\q=d)\/∃x' k,lo'=some x'/\a.eval x' = .int k q:=by
 unfold bnd at hb;split at hc
 ·simp at hb;exact .inl ⟨rfl,rfl,hb.symm⟩
 ·rename_i x' x;have g:=oK h hc (hg x mD);simp only at hb;split at hb
  ·rename_i k m e1;simp at hb;subst hb;rw[e1]at g;exact .inr ⟨x',k,rfl,zQ g⟩
  ·cases hb
 ·cases hc
def Ry (n:Nat)(lo':Option Operand)(lo:Option pR):Bool:=match lo',lo with|none,none=>true|some x',some x=>lJ n x' x|_,_=>false
theorem NW {lo:Option pR}{lo':Option Operand}{d:Nat}{q:Int}(h:(lo'=none/\lo=none/\q=d)\/∃x' k,lo'=some x'/\a.eval x' = .int k q) :
 lo'.map a.eval=none/\q=d\/∃k,lo'.map a.eval=some (.int k q):=by
 rcases h with⟨rfl,_,e⟩|⟨y,k,rfl,e⟩
 ·exact .inl ⟨rfl,e⟩
 ·exact .inr ⟨k,by simp[e]⟩
theorem run_sliceBound {k:IntKind}{i:Int}{y:Nat}{c:BoundsCode}(h0:0<=i)(h1:i<=y):(Instr.sliceBound (.int k i) y c).run P w = .ok i.toNat w:=by simp[Instr.sliceBound,asIntOf,h0,h1]
theorem EL (isS:Bool)(len cap:Nat)(lo' hi':Option Value){p q:Int}(hlo:lo'=none/\p=0\/∃k,lo'=some (.int k p))(hhi:hi'=none/\q=len\/∃k,hi'=some (.int k q))
 (h0:0<=p) (h1:p<=q) (h2:q<=cap):(Ad isS len cap lo' hi' none).run P w = .ok (p.toNat,q.toNat,cap) w:=by
 rcases hlo with⟨rfl,rfl⟩|⟨k,rfl⟩<;>rcases hhi with⟨rfl,rfl⟩|⟨k',rfl⟩<;>cases isS <;>
  simp (disch:=omega) [Ad,run_sliceBound]
def Vh (P:Program)(n:Nat)(op:Op)(x:pR)(lo hi:Option pR):Bool:=match op with|.slice t x' lo' hi' none=>lJ n x' x&&Ry n lo' lo&&Ry n hi' hi&&Sj P t|_=>false
theorem adI {o:Oper}{x:pR}{lo hi:Option pR}{s:List UInt8}{p q:Int}(h:GX E I ρ n st a w)(hc:Vh P n o.op x lo hi=true)(hx:(x.ev st.tm).g=true)
 (hgl:∀x,x∈lo.toList->(x.ev st.tm).g=true) (hgh:∀x,x∈hi.toList->(x.ev st.tm).g=true)
 (e1:fK st.tm x=LD s) (e2:bnd (fK st.tm) lo 0=some p) (e3:bnd (fK st.tm) hi s.length=some q) (h0:0<=p) (h1:p<=q) (h2:q<=s.length) :
 xQ P E n o a w st (LD ((s.take q.toNat).drop p.toNat)):=by
 unfold Vh at hc;split at hc
 ·rename_i t x' lo' hi' he;simp only[ah]at hc;have g1:=oK h hc.1.1.1 hx;have ht:=Jq hc.2;rw[e1]at g1;obtain⟨v1,hl⟩:=JG g1;have b1:=JY h hc.1.1.2 hgl e2;have b2:=JY h hc.1.2 hgh e3;have hb:=EL (P:=P) (w:=w) false s.length s.length (lo'.map a.eval) (hi'.map a.eval) (p:=p) (q:=q)
   (NW b1) (NW b2) h0 h1 h2
  have hx:(⟨⟨s⟩⟩:ByteArray).extract p.toNat q.toNat=⟨⟨(s.take q.toNat).drop p.toNat⟩⟩:=by rw[Lib.extract_eq];simp[List.drop_take]
  refine xm.val h (v:=.string ⟨⟨(s.take q.toNat).drop p.toNat⟩⟩) ?_ (Y5 (by simp;omega));simp only[execOp,he,zC,Dv,v1,lQ];simp[run_underlying ht];rw[show(⟨⟨s⟩⟩:ByteArray).size=s.length from rfl,hb];simp[hx]
 ·cases hc
def X8 (sz:Nat) (x:AV) (lo:Option Int) (hi:Nat->Option Int):FR:=match x with
    | .one (.c (.sl sz' es))=>match lo,hi es.length with
      |some a,some b=>⟨sz'=sz/\0<=a/\a<=b/\b<=es.length,vSl sz ((es.take b.toNat).drop a.toNat),[]⟩
      |_,_=>.bad
    | .one (.og sz')=>match lo,hi 0 with
      |some a,some b=>⟨a=0/\b=0,.one (.og sz'),[]⟩
      |_,_=>.bad
    | .one (.own l n sz')=>match lo,hi n with
      |some a,some b=>⟨a=0/\0<=b/\b<=n,.one (.own l b.toNat sz'),[]⟩
      |_,_=>.bad
    |_=>.bad
theorem am7 {v:Value}{sz:Nat}{es:List (List Cell)}(h:Rd I v (.sl sz es)){p q:Nat}(hpq:p<=q)(hq:q<=es.length):∃a cap,v = .slice a es.length cap/\es.length<=cap /\
 Rd I (.slice (if cap=p then a else a.map (·.add (p*sz))) (q-p) (cap-p)) (.sl sz ((es.take q).drop p)):=by
 cases h with|sl a len cap sz es u hlen hcap hmax hsz ha hcell hr=>
 subst hlen;refine⟨a,cap,rfl,hcap,?_⟩;refine Rd.sl _ _ _ _ _ (λi j=>u (p+i) j) (by simp;omega) aI aI ?_ ?_ ?_ ?_
 ·intro e he;exact hsz e (gG (lq he))
 ·intro h0;rw[au aI];have:=ha aI;cases a with
  |none=>exact eF rfl this
  |some ad=>simp
 ·intro ad had i j hi hj;rw[au aI]at had;cases a with
  |none=>simp at had
  | some ad'=>
    simp at had;subst had;rw[Addr.add_add,<- hcell ad' rfl (p+i) j aI hj]
    congr 2
    rw[dL,tZ]
 ·intro i j c hc;have hi:=mY hc;simp at hi;refine hr (p+i) j c ?_;rw[<- hc]
  congr 1
  simp only[dI];rw[gW,dJ,aA aI]
def YI (P:Program)(n:Nat)(op:Op)(sz:Nat)(x:pR)(lo hi:Option pR):Bool:=match op with|.slice t x' lo' hi' none=>lJ n x' x&&Ry n lo' lo&&Ry n hi' hi&&MW P t sz|_=>false
theorem agJ {o:Oper}{sz:Nat}{x:pR}{lo hi:Option pR}(h:GX E I ρ n st a w)(hc:YI P n o.op sz x lo hi=true)(hx:(x.ev st.tm).g=true)
 (hgl:∀x,x∈lo.toList->(x.ev st.tm).g=true) (hgh:∀x,x∈hi.toList->(x.ev st.tm).g=true)
 (kF:(X8 sz (fK st.tm x) (bnd (fK st.tm) lo 0) (bnd (fK st.tm) hi)).vc):xQ P E n o a w st (X8 sz (fK st.tm x) (bnd (fK st.tm) lo 0) (bnd (fK st.tm) hi)).v:=by
 unfold YI at hc;split at hc
 ·rename_i t x' lo' hi' he;simp only[ah]at hc;have g1:=oK h hc.1.1.1 hx;obtain⟨e,ti,ht,hti,hsz⟩:=DT hc.2;have key:∀(b:Option Addr) (len cap:Nat) (p q:Int),a.eval x' = .slice b len cap->len<=cap->bnd (fK st.tm) lo 0=some p->bnd (fK st.tm) hi len=some q->0<=p->p<=q->q<=cap ->
   (execOp a.eval o).run P w = .ok (.value (.slice (if cap=p.toNat then b else b.map (·.add (p.toNat*sz))) (q.toNat-p.toNat) (cap-p.toNat))) w:=by
   intro b len cap p q hv hlc e2 e3 h0 h1 h2;have b1:=JY h hc.1.1.2 hgl e2;have b2:=JY h hc.1.2 hgh e3;have hb:=EL (P:=P) (w:=w) true len cap (lo'.map a.eval) (hi'.map a.eval) (p:=p) (q:=q)
    (NW b1) (NW b2) h0 h1 h2
   simp only[execOp,he,zC,Dv,hv,lQ];simp[run_underlying ht];rw[hb];simp[sizeOf,typeInfo,hti,hsz]
  unfold X8 at kF⊢;split at kF
  ·rename_i sz' es e1;rw[e1]at g1;split at kF
   ·rename_i p q e2 e3;obtain⟨rfl,h0,h1,h2⟩:=kF;obtain⟨b,cap,hv,hcap,hr⟩:=am7 g1 (p:=p.toNat) (q:=q.toNat) aI aI;exact xm.val h (key b _ cap p q hv hcap e2 e3 h0 h1 aI) hr
   ·exact kF.elim
  ·rename_i sz' e1;rw[e1]at g1;split at kF
   ·rename_i p q e2 e3;obtain⟨rfl,rfl⟩:=kF;have:=key none 0 0 0 0 g1 (aF _) e2 e3 aI aI aI;exact xm.val h this (by simp[GV,GC])
   ·exact kF.elim
  ·rename_i b m sz' e1;rw[e1]at g1;split at kF
   ·rename_i p q e2 e3;obtain⟨rfl,h1,h2⟩:=kF;obtain⟨kk,cap,ad,c,hr,hv,hm,hcc,hcap⟩:=g1;have:=key ad m c 0 q hv hm e2 e3 aI aI aI;refine xm.val h this ⟨kk,cap,_,_,hr,rfl,aI,aI,λhc0=>?_⟩;rw[hcap hc0];simp[Addr.add_zero]
   ·exact kF.elim
  ·exact kF.elim
 ·cases hc
def Vg (P:Program)(n:Nat)(op:Op)(sz m:Nat)(x:pR):Bool:=match op with|.slice t x' none none none=>lJ n x' x&&Qh P t sz m|_=>false
theorem adH {o:Oper}{sz m b:Nat}{es:List (List Cell)}{x:pR}(h:GX E I ρ n st a w)(hc:Vg P n o.op sz m x=true)(hx:(x.ev st.tm).g=true)
 (e1:fK st.tm x = .one (.BF b 0 sz 0)) (e2:st.bx b = .dat sz es) (hm:es.length=m):xQ P E n o a w st (.one (.own b m sz)):=by
 unfold Vg at hc;split at hc
 ·rename_i t x' he;simp only[ah]at hc;have g1:=oK h hc.1 hx;rw[e1]at g1;obtain⟨kk,cap,hr,hv⟩:=g1;obtain⟨e,ti,ht,hi',hsz⟩:=Qi hc.2;have facts:=GS.JX h (b:=b) (by rw[e2];rfl) hr;refine xm.val h (v:=.slice (some ⟨kk,0,none⟩) m m) ?_ ⟨kk,cap,_,_,hr,rfl,aF _,aI,λ_=>rfl⟩;have hb:=EL (P:=P) (w:=w) false m m none none (p:=0) (q:=m) (.inl ⟨rfl,rfl⟩) (.inl ⟨rfl,rfl⟩) aI aI aI;simp only[execOp,he,zC,hv,lQ];simp[run_underlying ht,kX];rw[hb];simp[sizeOf,typeInfo,hi',Addr.add_zero]
 ·cases hc
end
end
section
section
variable {P:Program} {E:Env P} {I:IH} {ρ:Ren} {n:Nat} {st:gZ} {a:Act} {w:World}
theorem ru {α:Type}(xs ys:List α)(off j:Nat)(h:off+ys.length<=xs.length):(splice xs off ys)[j]? = if j<off then xs[j]? else if j<off+ys.length then ys[j-off]? else xs[j]?:=by
 unfold splice;have h1:(xs.take off).length=off:=by simp;omega
 by_cases hj:j<off
 ·rw[aA hj,ji,cu aI,dJ,aA hj]
 ·rw[au hj];by_cases hj2:j<off+ys.length
  ·rw[aA hj2,cu (by simp;omega),dU aI,h1]
  ·rw[au hj2,dU (by simp;omega),gW]
   congr 1
   simp;omega
theorem length_splice {α:Type}(xs ys:List α)(off:Nat)(h:off+ys.length<=xs.length):(splice xs off ys).length=xs.length:=by unfold splice;simp;omega
theorem Vy {α:Type}(vs:List α):∀(i off:Nat) (cs:Array α),off+i+vs.length<=cs.size ->
 ((vs.zipIdx i).foldl (λcs p=>cs.setIfInBounds (off+p.2) p.1) cs).toList=splice cs.toList (off+i) vs:=by
 induction vs with
 |nil=>intro i off cs h;simp[splice]
 | cons v r ih=>
   intro i off cs h;simp only[List.zipIdx_cons,wG];rw[ih (i+1) off _ (by simp at h⊢;omega)];apply List.ext_getElem?;intro j;simp only[iV]at h;rw[ru _ _ _ _ (by simp;omega),ru _ _ _ _ (by simp;omega)];simp only[Array.toList_setIfInBounds,rq,iV];by_cases h1:j<off+i
   ·rw[aA aI,au aI,aA h1]
   ·rw[au h1];by_cases h2:j=off+i
    ·subst h2;rw[aA aI,aA rfl,aA (by simp;omega),aA aI];simp
    ·rw[au aI];by_cases h3:j<off+(i+1)+r.length
     ·rw[aA h3,aA aI];rw[show j-(off+i)=(j-(off+(i+1)))+1 by omega,List.getElem?_cons_succ]
     ·rw[au h3,au aI,au aI]
theorem foldl_set (v:Array Value)(off:Nat)(cs:Array Value)(h:off+v.size<=cs.size) :
 (v.zipIdx.foldl (λcs (p:Value×Nat)=>cs.setIfInBounds (off+p.2) p.1) cs).toList=splice cs.toList off v.toList:=by
 have:=Vy v.toList 0 off cs (by simpa using h);rw[sF]at this;rw[<- this,<- Array.foldl_toList,Array.toList_zipIdx]
theorem NT.splice {vs us:List Value}{xs ys:List AC}(h:NT I ρ vs xs)(k:NT I ρ us ys)(off:Nat)(hl:off+ys.length<=xs.length):NT I ρ (splice vs off us) (splice xs off ys):=by
 have hlu:off+us.length<=vs.length:=by rw[h.1,k.1];exact hl
 refine⟨by rw[length_splice _ _ _ hlu,length_splice _ _ _ hl];exact h.1,λj v x hv hx=>?_⟩;rw[ru _ _ _ _ hlu]at hv;rw[ru _ _ _ _ hl]at hx;rw[k.1]at hv;by_cases h1:j<off
 ·rw[aA h1]at hv hx;exact h.2 j v x hv hx
 ·rw[au h1]at hv hx;by_cases h2:j<off+ys.length
  ·rw[aA h2]at hv hx;exact k.2 _ v x hv hx
  ·rw[au h2]at hv hx;exact h.2 j v x hv hx
theorem Nb {v:Value}{x:AV}(h:GV I ρ v x)(ht:x.flat):NT I ρ v.cells.toList x.cells:=by
 cases x with
 | one x=>
   have h1:=GC.one h;have hc:v.cells = #[v]:=by cases v<;>first|rfl|(simp[Value.oneCell']at h1;done)
   rw[hc];exact⟨rfl,λj u y hu hy=>by cases j with
    |zero=>simp at hu;simp[AV.cells]at hy;subst hu;subst hy;exact h
    |succ j=>simp at hu⟩
 |agg xs=>obtain⟨cs,rfl,hg⟩:=h;exact hg
 |AA ps=>exact ht.elim
def Rf (zs:List Value)(xs:List AC):Bool:=zs.length==xs.length&&(zs.zip xs).all λp=>akq p.1 p.2
theorem LJ {zs:List Value}{xs:List AC}(h:Rf zs xs=true):NT I ρ zs xs:=by unfold Rf at h;simp only[ah,aY,bf]at h;refine⟨h.1,λj v x hv hx=>aed (h.2 (v,x) ?_)⟩;exact iF (i:=j) (by simp[Bv,hv,hx])
def Oc (P:Program)(n:Nat)(fs:Array Field):List (Nat×Operand)->List (Nat×Nat×pR)->Bool
 |[],[]=>true
 |(i,x)::r,(off,sz,y)::r'=>(match fs[i]? with
  |some f=>f.offset==off&&Tc P f.type sz
  |none=>false)&&lJ n x y&&Oc P n fs r r'
 |_,_=>false
theorem run_places (w:World)(fs:List Field)(h:fs.all (λf=>(P.info? f.type).isSome)=true) :
 (fs.mapM (m:=Sem) λf=>do pure (f.offset,<- sizeOf f.type)).run P w = .ok (fs.map λf=>(f.offset,P.cellsOf f.type)) w:=by
 induction fs with
 |nil=>rfl
 | cons f r ih=>
   simp only[gU,ah]at h;cases hi:P.info? f.type with
   |none=>rw[hi]at h;cases h.1
   | some i=>have h1:(sizeOf f.type).run P w = .ok (P.cellsOf f.type) w:=(by simp[sizeOf,typeInfo,hi,Program.cellsOf]);simp only[List.mapM_cons,dN,h1,bQ,dw,ih h.2,bT]
def ad9 (P:Program)(n:Nat)(t:TypeId)(zs:List AC)(ps:List (Nat×Operand))(ps':List (Nat×Nat×pR)):Bool:=
 match P.underlying t,P.info? t with
 |some (.struct fs),some i=>(match i.zero with|some (.agg cs)=>Rf cs.toList zs|_=>false)&&fs.toList.all (λf=>(P.info? f.type).isSome)&&Oc P n fs ps ps'
 |_,_=>false
def U8 (P:Program)(n:Nat)(op:Op)(zs:List AC)(ps':List (Nat×Nat×pR)):Bool:=match op with|.build t ps=>ad9 P n t zs ps.toList ps'|_=>false
theorem acr {t:TypeId}{k:Nat}(h:Tc P t k=true):P.cellsOf t=k:=by obtain⟨i,hi,hs⟩:=NG h;simp[Program.cellsOf,hi,hs]
theorem aek {fs:Array Field}(h:GX E I ρ n st a w):∀(ps:List (Nat×Operand)) (ps':List (Nat×Nat×pR)) (cs:Array Value) (xs:List AC),Oc P n fs ps ps'=true->NT I ρ cs.toList xs ->
 (∀p,p∈ps'->(p.2.2.ev st.tm).g=true)->(∀p,p∈ps'->Zg xs.length (p.1,p.2.1,fK st.tm p.2.2)) ->
 ∃cs',uS ((fs.map λf=>(f.offset,P.cellsOf f.type))[·]?) cs (ps.map λp=>(p.1,a.eval p.2))=some cs'/\NT I ρ cs'.toList (Vu xs (ps'.map λp=>(p.1,(fK st.tm p.2.2).cells)))
 |[],[],cs,xs,_,hg,_,_=>⟨cs,rfl,hg⟩
 |[],_::_,_,_,h,_,_,_=>by simp[Oc]at h
 |_::_,[],_,_,h,_,_,_=>by simp[Oc]at h
 | (i,x)::r,(off,sz,y)::r',cs,xs,hp,hg,hv,hq=>by
   simp only[Oc,ah]at hp;obtain⟨⟨hf,hx⟩,hr⟩:=hp;split at hf
   ·rename_i f hfi;simp only[ah,aY]at hf;obtain⟨rfl,hsz⟩:=hf;have hs:=acr hsz;have g:=oK h hx (hv _ (bD ..));obtain⟨q1,q2,q3⟩:=hq _ (bD ..);have gc:=Nb g q3;have hvs:(a.eval x).cells.size=sz:=(by have:=gc.1;simp at this;rw[this];exact q1);have hcs:cs.size=xs.length:=(by have:=hg.1;simpa using this);have q1:(fK st.tm y).cells.length=sz:=q1;have q2:f.offset+sz<=xs.length:=q2;have hgs:=hg.splice gc f.offset (by rw[q1];exact q2);have hfold:=foldl_set (a.eval x).cells f.offset cs aI;have ih:=aek h r r' ((a.eval x).cells.zipIdx.foldl (λcs (p:Value×Nat)=>cs.setIfInBounds (f.offset+p.2) p.1) cs) (splice xs f.offset (fK st.tm y).cells) hr (by rw[hfold];exact hgs)
     (λp hp=>hv p (by simp[hp])) (λp hp=>by rw[length_splice _ _ _ (by rw[q1];exact q2)];exact hq p (by simp[hp]))
    obtain⟨cs',h1,h2⟩:=ih;refine⟨cs',?_,?_⟩
    ·have hpl:(fs.map λf=>(f.offset,P.cellsOf f.type))[i]? = some (f.offset,sz):=(by rw[qp,hfi,<- hs];rfl);simp only[bT,uS,hpl];rw[au (by simp;omega)];exact h1
    ·simpa only[bT,Vu]using h2
   ·cases hf
theorem acn {o:Oper}{zs:List AC}{ps:List (Nat×Nat×pR)}(h:GX E I ρ n st a w)(hc:U8 P n o.op zs ps=true)(hv:∀p,p∈ps->(p.2.2.ev st.tm).g=true)
 (hq:∀p,p∈ps->Zg zs.length (p.1,p.2.1,fK st.tm p.2.2)):xQ P E n o a w st (.agg (Vu zs (ps.map λp=>(p.1,(fK st.tm p.2.2).cells)))):=by
 unfold U8 at hc;split at hc
 ·rename_i t ps0 he;unfold ad9 at hc;split at hc
  ·rename_i fs i hs hi;simp only[ah]at hc;obtain⟨⟨hz,hall⟩,hp⟩:=hc;split at hz
   ·rename_i cs hzero;obtain⟨cs',h1,h2⟩:=aek (P:=P) h ps0.toList ps cs zs hp (LJ hz) hv hq;refine xm.val h (v:=.agg cs') ?_ ⟨cs',rfl,h2⟩;have hpl:=run_places (P:=P) w fs.toList hall;have hpl':(fs.mapM (m:=Sem) λf=>do pure (f.offset,<- sizeOf f.type)).run P w = .ok (fs.map λf=>(f.offset,P.cellsOf f.type)) w:=by
     rw[Array.mapM_eq_mapM_toList,Go.Sem.run_map,hpl];simp only[bQ]
     congr 1
     apply zB;simp
    have hzr:(zeroValue t).run P w = .ok (.agg cs) w:=(by simp[zeroValue,typeInfo,hi,hzero]);have hps:(ps0.map λ(i,x)=>(i,a.eval x)).toList=ps0.toList.map λp=>(p.1,a.eval p.2):=(by simp);simp only[execOp,he,Instr.build,dN,hzr,bQ,oH,run_underlying hs,hpl',hps,h1,dw]
   ·cases hz
  ·cases hc
 ·cases hc
def Src (I:IH)(w:World)(v:Value)(sz:Nat)(es:List (List Cell)):Prop:=
 ∃ (b:Option Addr) (cap:Nat),v = .slice b es.length cap/\es.length<=maxLen/\(∀e,e∈es->e.length=sz)/\(0<es.length->b≠none) /\
   ∀ad,b=some ad->∀i j c,(es.getD i [])[j]? = some c->∃u,w.cell? (ad.add (i*sz+j))=some u/\Rd I u c
theorem src_ok (h:GX E I ρ n st a w){v:Value}{x:AV}{sz:Nat}{p:Prop}{es:List (List Cell)}(hv:GV I ρ v x)(hs:zy sz x st.bx=some (p,es))(hp:p):Src I w v sz es:=by
 unfold zy at hs;split at hs
 ·rename_i sz' es';simp only[aH,dF]at hs;obtain⟨rfl,rfl⟩:=hs;subst hp;cases hv with|sl b len cap _ _ u hlen hcap hmax hsz ha hcell hr=>
  subst hlen;refine⟨b,cap,rfl,aI,hsz,ha,λad had i j c hc=>?_⟩;have hi:=mY hc;have hj:j<sz':=by have:=hsz (es'.getD i []) (by simp[dI,aB hi]);rw[<- this];exact(aS.1 hc).1
  exact⟨_,h.agree.cell (hcell ad had i j hi hj),hr i j c hc⟩
 ·simp at hs;obtain⟨_,rfl⟩:=hs;simp only[GV,GC]at hv;exact⟨none,0,hv,mD,mD,mD,λad had=>by cases had⟩
 ·rename_i b m sz';split at hs
  ·rename_i DL es' hb;simp only[aH,dF]at hs;obtain⟨rfl,rfl⟩:=hs;obtain⟨rfl,rfl,hm⟩:=hp;obtain⟨k,cap,ad,c,hr,rfl,hmc,hcc,ha⟩:=hv;have facts:=GS.JX h hb hr;have hlen:(es'.take m).length=m:=(by simp;omega);refine⟨ad,c,by rw[hlen],aI,λe he=>facts.2.2 e (gG he),λh0=>by rw[ha aI];simp,λq hq i j cc hc=>?_⟩;have hi:=mY hc;rw[hlen]at hi;have hq':q=⟨k,0,none⟩:=(by have:=ha aI;rw[hq]at this;simpa using this);subst hq';have hc':(es'.getD i [])[j]? = some cc:=by
    rw[<- hc];congr 1;simp only[dI];rw[dJ,aA hi]
   obtain⟨u,hu,hg⟩:=GS.NV h hb hr aI (i:=i) aI j (.c cc) (by rw[dG,hc'];rfl);refine⟨u,?_,hg⟩;rw[Addr.uw]at hu⊢;rw[<- hu];congr 2;simp
  ·cases hs
 ·rename_i b lo m c0 sz';split at hs
  ·rename_i DL es' hb;simp only[aH,dF]at hs;obtain⟨rfl,rfl⟩:=hs;obtain⟨rfl,rfl,hm⟩:=hp;obtain⟨k,cap,ad,c,hr,rfl,hmc,hcc,_,ha⟩:=hv;have facts:=GS.JX h hb hr;have hlen:((es'.drop lo).take m).length=m:=(by simp;omega);refine⟨ad,c,by rw[hlen],aI,λe he=>facts.2.2 e (lq (gG he)),λh0=>by rw[ha (.inl aI)];simp,λq hq i j cc hc=>?_⟩;have hi:=mY hc;rw[hlen]at hi;have hq':q=⟨k,lo*DL,none⟩:=(by have:=ha (.inl aI);rw[hq]at this;simpa using this);subst hq';have hc':(es'.getD (lo+i) [])[j]? = some cc:=by
    rw[<- hc];congr 1;simp only[dI];rw[dJ,aA hi,gW]
   obtain⟨u,hu,hg⟩:=GS.NV h hb hr aI (i:=lo+i) aI j (.c cc) (by rw[dG,hc'];rfl);refine⟨u,?_,hg⟩;rw[Addr.uw]at hu⊢;rw[<- hu];congr 2;rw[dL,tZ]
  ·cases hs
 ·cases hs
theorem Yv {es:List (List Cell)}{l:List UInt8}(h:bytesOf es=some l):∃ns:List Int,es=ns.map (λm=>[Cell.lit (.int .u8 m)])/\l=ns.map λm=>gy m.toNat:=by
 induction es generalizing l with
 |nil=>simp[bytesOf]at h;exact⟨[],rfl,h⟩
 | cons e r ih=>
   unfold bytesOf at h;split at h
   ·rename_i e;cases e
   ·rename_i m r' e;simp only[xZ]at e;obtain⟨rfl,rfl⟩:=e;split at h
    ·rename_i l' hl;obtain⟨ns,rfl,rfl⟩:=ih hl;simp at h;exact⟨m::ns,rfl,h.symm⟩
    ·cases h
   ·cases h
theorem foldl_push (ns:List Int):∀s:ByteArray,(ns.foldl (λr m=>r.push (gy m.toNat)) s).data.toList=s.data.toList++ns.map λm=>gy m.toNat:=by
 induction ns with
 |nil=>intro s;simp
 |cons m r ih=>intro s;rw[wG,ih,bT];simp[ByteArray.push]
theorem agA {b:Option Addr}{cap:Nat}{ns:List Int}{v:Value}(hv:v = .slice b ns.length cap)(h0:0<ns.length->b≠none)
 (hc:∀ad,b=some ad->∀j m,ns[j]? = some m->w.cell? (ad.add j)=some (.int .u8 m)):(Conv.bytesToString v).run P w = .ok (.string ⟨⟨ns.map λm=>gy m.toNat⟩⟩) w:=by
 subst hv;cases b with
 | none=>
   cases ns with
   |nil=>simp[Conv.bytesToString,dw];rfl
   |cons m r=>exact eF rfl (h0 mD)
 | some ad=>
   have hl:=run_loadCells_list (P:=P) w ad (ns.map (mX .u8)) (λj v hj=>by
    rw[dG]at hj;cases hq:ns[j]? with
    |none=>rw[hq]at hj;cases hj
    |some m=>rw[hq]at hj;simp at hj;subst hj;exact hc ad rfl j m hq)
   rw[vg]at hl;rw[run_bytesToString w ad ns.length cap ns hl]
   congr 2
   apply ByteArray.ext;apply zB;rw[foldl_push];simp
def YA (P:Program)(n:Nat)(op:Op)(x:pR):Bool:=
 match op with
 |.convert s d x'=>lJ n x' x&&Sj P d&&(match P.underlying s with|some (.slice e)=>(match P.underlying e with|some (.int .u8)=>true|_=>false)|_=>false)
 |_=>false
theorem afG {o:Oper}{x:pR}{p:Prop}{es:List (List Cell)}{l:List UInt8}(h:GX E I ρ n st a w)(hc:YA P n o.op x=true)(hx:(x.ev st.tm).g=true)
 (hs:zy 1 (fK st.tm x) st.bx=some (p,es)) (hp:p) (hb:bytesOf es=some l) (hl:l.length<=maxLen):xQ P E n o a w st (LD l):=by
 unfold YA at hc;split at hc
 ·rename_i s d x' he;simp only[ah]at hc;have g:=oK h hc.1.1 hx;have hd:=Jq hc.1.2;obtain⟨_,ht⟩:=hc;split at ht
  ·rename_i e hse;split at ht
   ·rename_i hee;obtain⟨b,cap,hv,_,_,h0,hcell⟩:=src_ok h g hs hp;obtain⟨ns,rfl,rfl⟩:=Yv hb;have hr:=agA (P:=P) (w:=w) (b:=b) (cap:=cap) (ns:=ns) (v:=a.eval x') (by rw[hv];simp) (by simpa using h0) (λad had j m hj=>by
     obtain⟨u,hu,hrd⟩:=hcell ad had j 0 (.lit (.int .u8 m)) (by simp[dI,dG,hj]);cases hrd with|lit v hv=>
     simpa using hu)
    have hcv:=run_convert_bytes_string (P:=P) w s d e b (ns.map λm=>[Cell.lit (.int .u8 m)]).length cap hse hee hd;rw[<- hv]at hcv;exact xm.val h (by simp only[execOp,he,dN,hcv,hr,bQ,dw]) (Y5 hl)
   ·cases ht
  ·cases ht
 ·cases hc
end
end
section
section
variable {P:Program} {E:Env P} {I:IH} {ρ:Ren} {n:Nat} {st:gZ} {a:Act} {w:World}
def Es : Box->Prop
 |.absent=>True
 |_=>False
theorem BQ {x:Box}(h:Es x):x = .absent:=by cases x<;>first|rfl|exact h.elim
theorem aeG (h:GX E I ρ n st a w){l:Nat}(hl:st.bx l = .absent)(hm:E.m<=l)(cs:Array Value)(e:TypeId)(xs:List AC)(hg:NT I ρ cs.toList xs) :
 ∃ ρ',GX E I ρ' n (st.Am l (.var xs)) a (w.alloc (.cells cs e))/\GV I ρ' (.pointer (some ⟨w.heap.size,0,none⟩)) (.one (.ptr l 0)):=by
 have hrl:ρ l=none:=by have:=h.bx.ok l;rwa[hl]at this
 refine⟨ρ.set l w.heap.size e,GX.new h hl hm cs e e _ ?_,w.heap.size,e,Ren.pq _ _ _ _,rfl⟩;refine⟨w.heap.size,e,cs,Ren.pq _ _ _ _,heap_alloc_new w _,by simpa using hg.1,λj u x hu hx=>?_⟩;exact(hg.2 j u x (by simpa using hu) hx).mono (IH.le_refl I) (Ren.Pj hrl)
theorem Ob (h:GX E I ρ n st a w){l:Nat}(hl:st.bx l = .absent)(hm:E.m<=l)(cs:Array Value)(e:TypeId)(cap sz:Nat)(es:List (List Cell))(hcs:cs.size=cap*sz)(hle:es.length<=cap)(hcap:cap<=maxLen)
 (hsz:∀x,x∈es->x.length=sz) (h1:∀(j:Nat) (u:Value),cs[j]? = some u->u.oneCell'=true) (hd:∀(i j:Nat) (c:Cell),(es.getD i [])[j]? = some c->∃u,cs[i*sz+j]? = some u/\Rd I u c) :
 GX E I (ρ.set l w.heap.size cap) n (st.Am l (.dat sz es)) a (w.alloc (.cells cs e)):=by
 refine GX.new h hl hm cs e cap _ ⟨w.heap.size,cap,Ren.pq _ _ _ _,hle,hcap,hsz,λ_=>⟨cs,e,heap_alloc_new w _,hcs,h1,hd⟩⟩
def MN (P:Program)(op:Op)(zs:List AC):Bool:=match op with|.alloc t=>(match P.info? t with|some i=>(match i.zero with|some z=>Rf z.cells.toList zs|none=>false)|none=>false)|_=>false
theorem GK (w:World)(t:TypeId)(v:Value):(newVar t v).run P w = .ok ⟨w.heap.size,0,none⟩ (w.alloc (.cells v.cells t)):=by simp[newVar,newRow]
theorem ab7 {o:Oper}{l:Nat}{zs:List AC}(h:GX E I ρ n st a w)(hc:MN P o.op zs=true)(hm:E.m<=l)(hl:Es (st.bx l)):xm P E n o a w (st.Am l (.var zs)) (.one (.ptr l 0)):=by
 unfold MN at hc;split at hc
 ·rename_i t he;split at hc
  ·rename_i i hi;split at hc
   ·rename_i z hz;obtain⟨ρ',h1,h2⟩:=aeG h (BQ hl) hm z.cells t zs (LJ hc);have hzr:(zeroValue t).run P w = .ok z w:=(by simp[zeroValue,typeInfo,hi,hz]);exact⟨_,_,I,ρ',.inl (by simp only[execOp,he,Du,dN,hzr,bQ,GK,dw]),h1,λ_=>h2⟩
   ·cases hc
  ·cases hc
 ·cases hc
theorem GX.aqh (h:GX E I ρ n st a w){r:Nat}(hr:st.bx r = .absent)(hm:E.m<=r)(e:Nat):GX E I (ρ.set r 0 0) n (st.Am r (.row e [])) a w:=by
 have hrl:ρ r=none:=by have:=h.bx.ok r;rwa[hr]at this
 have hle:=Ren.Pj (ρ:=ρ) (k:=0) (cap:=0) hrl;have hu:∀k,¬(Box.row e []).uses ((ρ.set r 0 0) r) k:=λk hk=>by obtain⟨c,hc,h0⟩:=hk;rw[Ren.pq]at hc;simp only[aH,dF]at hc;exact h0 hc.2.symm
 refine{ agree:=h.agree,bx:=BX.step (λb=>b=r) h.bx (IH.le_refl I) hle ?_ ?_ ?_ ?_ ?_ ?_,tm:=λt ht=>(h.tm t ht).mono (IH.le_refl _) hle,size:=h.size,defers:=h.defers,DK:=h.DK,own:=?_,Nh:=h.Nh,IW:=h.IW,zT:=?_ }
 ·intro b hb;exact⟨by simp[gZ.Am,hb],Ren.yj hb⟩
 ·intro b k hb hk;rfl
 ·rintro b rfl;simp only[gZ.tq,jY];exact⟨0,0,Ren.pq _ _ _ _,aF _,Nat.zero_le _,λh=>eF rfl h⟩
 ·rintro b k rfl hk;simp only[gZ.tq,jY]at hk;exact(hu k hk).elim
 ·rintro b b' k rfl rfl _ _;rfl
 ·intro b k hb hk;exact h.bx.fresh b k hk
 ·intro b k hk;simp only[gZ.tq]at hk;by_cases e:b=r
  ·subst e;rw[aA rfl]at hk;exact(hu k hk).elim
  ·rw[au e,Ren.yj e]at hk;exact h.own b k hk
 ·intro b hb;rw[Ren.yj aI];exact h.zT b hb
def J8 (P:Program)(op:Op)(T:Nat):Bool:=match op with|.alloc t=>t==T&&(match P.info? t with|some i=>(match i.zero with|some z=>Rf z.cells.toList [.c (.lit (.pointer none)),.og 1]|none=>false)|none=>false)|_=>false
theorem ZZ {o:Oper}{T e l r:Nat}(h:GX E I ρ n st a w)(hc:J8 P o.op T=true)(hm:E.m<=l)(hm':E.m<=r)(hl:Es (st.bx l))(hr:Es (st.bx r))(hne:l≠r) :
 xm P E n o a w ((st.Am r (.row e [])).Am l (.var [.opt T l,.zV r 0])) (.one (.ptr l 0)):=by
 unfold J8 at hc;split at hc
 ·rename_i t he;simp only[ah,aY]at hc;obtain⟨rfl,hc⟩:=hc;split at hc
  ·rename_i i hi;split at hc
   ·rename_i z hz;have g:=h.aqh (BQ hr) hm' e;have hl':(st.Am r (.row e [])).bx l = .absent:=(by simp only[gZ.tq,au hne];exact BQ hl);have hz2:NT I ρ z.cells.toList _:=LJ hc;have hsz:z.cells.size=2:=(by have:=hz2.1;simpa using this);have hg:=GX.new g hl' hm z.cells t t (.var [.opt t l,.zV r 0]) ⟨w.heap.size,t,z.cells,Ren.pq _ _ _ _,heap_alloc_new w _,hsz,λj u x hu hx=>by
     match j with
     | 0=>have h1:=hz2.2 0 u _ (by simpa using hu) rfl;simp at hx;subst hx;cases h1;exact⟨_,Ren.pq _ _ _ _,.inl rfl⟩
     | 1=>have h1:u = .slice none 0 0:=hz2.2 1 u _ (by simpa using hu) rfl;simp at hx;subst hx;exact⟨0,0,(Ren.yj hne.symm).trans (Ren.pq _ _ _ _),aF _,.inl ⟨rfl,h1⟩⟩
     |j+2=>simp at hx⟩
    have hzr:(zeroValue t).run P w = .ok z w:=(by simp[zeroValue,typeInfo,hi,hz]);exact⟨_,_,I,_,.inl (by simp only[execOp,he,Du,dN,hzr,bQ,GK,dw]),hg,λ_=>⟨_,_,Ren.pq _ _ _ _,rfl⟩⟩
   ·cases hc
  ·cases hc
 ·cases hc
def U7 (n:Nat)(op:Op)(x:pR):Bool:=match op with|.box _ x'=>lJ n x' x|_=>false
theorem ahx {o:Oper}{l:Nat}{x:pR}(h:GX E I ρ n st a w)(hc:U7 n o.op x=true)(hx:(x.ev st.tm).g=true)(hm:E.m<=l)(hl:Es (st.bx l))(hf:(fK st.tm x).flat) :
 xm P E n o a w (st.Am l (.var (fK st.tm x).cells)) (.one (.ptr l 0)):=by
 unfold U7 at hc;split at hc
 ·rename_i t x' he;have g:=oK h hc hx;obtain⟨ρ',h1,h2⟩:=aeG h (BQ hl) hm (a.eval x').cells t _ (Nb g hf);exact⟨_,_,I,ρ',.inl (by simp only[execOp,he,Go.Instr.box,dN,bQ,GK,dw]),h1,λ_=>h2⟩
 ·cases hc
def amf : Value->Cell->Bool
 |.int k n,.lit (.int k' n')=>k==k'&&n==n'
 |.bool b,.lit (.bool b')=>b==b'
 |.string s,.str l=>s.data.toList==l&&decide (l.length<=1000000)
 |.slice none 0 0,.sl _ []=>true
 |.pointer none,.lit (.pointer none)=>true
 |.nilFunc,.lit .nilFunc=>true
 |.nilIface,.lit .nilIface=>true
 |_,_=>false
theorem akr {v:Value}{x:Cell}(h:amf v x=true):Rd I v x:=by
 unfold amf at h;split at h
 ·simp only[ah,aY]at h;obtain⟨rfl,rfl⟩:=h;exact Rd.lit _ rfl
 ·simp only[aY]at h;subst h;exact Rd.lit _ rfl
 ·rename_i s l;simp only[ah,aY,aC]at h;obtain⟨rfl,hl⟩:=h;have:s=⟨⟨s.data.toList⟩⟩:=by cases s;rfl
  exact this▸Rd.str _ (by simp only[maxLen];omega)
 ·exact Rd.sl none 0 0 _ [] (λ_ _=>undef) rfl (aF _) (by simp[maxLen]) mD mD (λad h=>by cases h) mD
 ·exact Rd.lit _ rfl
 ·exact Rd.lit _ rfl
 ·exact Rd.lit _ rfl
 ·cases h
def LH (zs:List Value)(xs:List Cell):Bool:=zs.length==xs.length&&(zs.zip xs).all λp=>amf p.1 p.2
theorem TW {zs:List Value}{xs:List Cell}(h:LH zs xs=true):zs.length=xs.length/\∀(j:Nat) (c:Cell),xs[j]? = some c->∃u,zs[j]? = some u/\Rd I u c:=by
 unfold LH at h;simp only[ah,aY,bf]at h;refine⟨h.1,λj c hc=>?_⟩;have hj:j<zs.length:=by rw[h.1];exact(aS.1 hc).1
 refine⟨zs[j],aB hj,akr (h.2 (zs[j],c) ?_)⟩;exact iF (i:=j) (by simp[Bv,hc,hj])
theorem SQ {z:Array Value}{zs:List Cell}{sz m N:Nat}(hz:LH z.toList zs=true)(hs:zs.length=sz)(h0:0<sz)(hN:m*sz<=N){cs:Array Value}(hcs:cs=(wz N).map (z[· % z.size]!)) :
 (∀(j:Nat) (u:Value),cs[j]? = some u->u.oneCell'=true)/\∀(i j:Nat) (c:Cell),((bW m zs).getD i [])[j]? = some c->∃u,cs[i*sz+j]? = some u/\Rd I u c:=by
 obtain⟨hl,hd⟩:=TW (I:=I) hz;have hzs:z.size=sz:=by rw[<- hs,<- hl];simp
 subst hcs;refine⟨λj u hu=>?_,λi j c hc=>?_⟩
 ·rw[qp]at hu;by_cases hj:j<N
  ·rw[qK,aA hj]at hu;simp at hu;have hlt:j%z.size<z.size:=xg _ aI;rw[getElem!_pos z _ hlt]at hu;obtain⟨c,hc⟩:∃c,zs[j%z.size]? = some c:=⟨_,aB aI⟩;obtain⟨u',hu',hr⟩:=hd _ c hc;simp[hlt]at hu';rw[<- hu,hu'];exact hr.one
  ·rw[qK,au hj]at hu;cases hu
 ·have hi:=mY hc;simp at hi;simp[dI,hi]at hc;have hj:j<sz:=by rw[<- hs];exact(aS.1 hc).1
  obtain⟨u,hu,hr⟩:=hd j c hc;refine⟨u,?_,hr⟩;have hlt:i*sz+j<N:=by have:(i+1)*sz<=m*sz:=aX _ hi;rw[dL]at this;omega
  rw[qp,qK,aA hlt];simp only[kL,aH];have hmod:(i*sz+j)%z.size=j:=by rw[hzs,wX,Nat.mul_add_mod,xE hj]
  rw[hmod,getElem!_pos z _ aI];have:z[j]? = some u:=by simpa using hu
  rw[lZ aI]at this;simpa using this
def J7 (P:Program)(op:Op)(sz m:Nat)(zs:List Cell):Bool:=
 match op with
 |.alloc t=>Qh P t sz m&&(match P.info? t with|some i=>(match i.zero with|some (.agg z)=>LH z.toList (bW m zs).flatten|_=>false)|none=>false)&&zs.length==sz&&decide (0<sz)&&decide (m<=1000000)
 |_=>false
theorem aaw {zs:List Cell}{sz m i j:Nat}{c:Cell}(hs:zs.length=sz)(hc:((bW m zs).getD i [])[j]? = some c):((bW m zs).flatten)[i*sz+j]? = some c:=by
 induction m generalizing i with
 |zero=>simp[dI]at hc
 | succ m ih=>
   rw[yg,List.flatten_cons];cases i with
   | zero=>simp[dI,yg]at hc;rw[cu (by have:=(aS.1 hc).1;omega)];simpa using hc
   | succ i=>
     rw[dU (by rw[hs,dL];omega),hs];have:=ih (i:=i) (by simpa[dI,yg]using hc);rw[<- this]
     congr 1
     rw[dL];omega
theorem ZY {o:Oper}{l sz m:Nat}{zs:List Cell}(h:GX E I ρ n st a w)(hc:J7 P o.op sz m zs=true)(hm:E.m<=l)(hl:Es (st.bx l)) :
 xm P E n o a w (st.Am l (.dat sz (bW m zs))) (.one (.BF l 0 sz 0)):=by
 unfold J7 at hc;split at hc
 ·rename_i t he;simp only[ah,aY,aC]at hc;obtain⟨⟨⟨⟨_,hz⟩,hs⟩,h0⟩,hm6⟩:=hc;split at hz
  ·rename_i i hi;split at hz
   ·rename_i z hzero;obtain⟨hl1,hd⟩:=TW (I:=I) hz;have hzs:z.size=m*sz:=(by have:=hl1;simp[hs]at this;exact this);have hzr:(zeroValue t).run P w = .ok (.agg z) w:=(by simp[zeroValue,typeInfo,hi,hzero]);have g:=Ob h (BQ hl) hm z t m sz (bW m zs) hzs mD (by simp only[maxLen];omega) (λx hx=>by rw[vY hx,hs])
     (λj u hu=>by have hj:j<((bW m zs).flatten).length:=(by rw[<- hl1];simpa using(eH.1 hu).1);obtain⟨u',hu',hr⟩:=hd j _ (aB hj);have:u'=u:=(by simp at hu';rw[hu]at hu';exact(Option.some.inj hu').symm);subst this;exact hr.one)
     (λi' j c hc=>by obtain⟨u,hu,hr⟩:=hd _ c (aaw hs hc);exact⟨u,by simpa using hu,hr⟩)
    refine⟨_,_,I,_,.inl (by simp only[execOp,he,Du,dN,hzr,bQ,GK,dw,oH];rfl),g,λ_=>⟨w.heap.size,m,Ren.pq _ _ _ _,mD⟩⟩
   ·cases hz
  ·cases hz
 ·cases hc
def MQ (P:Program)(n:Nat)(op:Op)(sz bytes:Nat)(zs:List Cell)(x y:pR):Bool:=
 match op with
 | .makeSlice t x' y'=>lJ n x' x&&lJ n y' y&&zs.length==sz&&decide (0<sz)&&(match P.underlying t with
   |some (.slice e)=>(match P.info? e with|some i=>i.size==sz&&i.bytes==bytes&&(match i.zero with|some z=>LH z.cells.toList zs|none=>false)|none=>false)
   |_=>false)
 |_=>false
theorem adg {o:Oper}{l sz bytes:Nat}{zs:List Cell}{x y:pR}{k k':IntKind}{p q:Int}(h:GX E I ρ n st a w)(hc:MQ P n o.op sz bytes zs x y=true)(hx:(x.ev st.tm).g=true)(hy:(y.ev st.tm).g=true)
 (e1:fK st.tm x=yG k p) (e2:fK st.tm y=yG k' q) (hm:E.m<=l) (hl:Es (st.bx l)) (h0:0<=p) (h1:p<=q) (h2:bytes*q<=2^47) (h3:q<=2^47) :
 xm P E n o a w (st.Am l (.dat sz (bW p.toNat zs))) (.one (.own l p.toNat sz)):=by
 unfold MQ at hc;split at hc
 ·rename_i t x' y' he;simp only[ah,aY,aC]at hc;obtain⟨⟨⟨⟨c1,c2⟩,hs⟩,hs0⟩,ht⟩:=hc;have g1:=oK h c1 hx;have g2:=oK h c2 hy;rw[e1]at g1;rw[e2]at g2;have v1:=zQ g1;have v2:=zQ g2;split at ht
  ·rename_i e hte;split at ht
   ·rename_i i hi;simp only[ah,aY]at ht;obtain⟨⟨rfl,rfl⟩,hz⟩:=ht;split at hz
    ·rename_i z hzero;have hr:=run_make (P:=P) w t e i z hte hi hzero k k' p q h0 h1 aI aI;have rc:=SQ (I:=I) (N:=q.toNat*i.size) (m:=p.toNat) hz hs hs0 (aX _ aI) (cs:=madeCells z.cells (q.toNat*i.size)) rfl;have g:=Ob h (BQ hl) hm (madeCells z.cells (q.toNat*i.size)) e q.toNat i.size (bW p.toNat zs) (size_madeCells _ _) (by simp;omega) (by simp only[maxLen];omega)
      (λx hx=>by rw[vY hx,hs]) rc.1 rc.2
     refine⟨_,_,I,_,.inl (by simp only[execOp,he,v1,v2,dN,hr,bQ,dw];rfl),g,λ_=>⟨w.heap.size,q.toNat,_,_,Ren.pq _ _ _ _,rfl,aI,aI,λ_=>rfl⟩⟩
    ·cases hz
   ·cases ht
  ·cases ht
 ·cases hc
end
end
section
section
variable {P:Program} {E:Env P} {I:IH} {ρ:Ren} {n:Nat} {st:gZ} {a:Act} {w:World}
noncomputable def Ed (I:IH)(ρ:Ren)(w:World)(bx:Nat->Box)(bs:List Nat):IH:=λk=>
 open Classical in
 if ∃b sz es cap,b∈bs/\bx b = .dat sz es/\ρ b=some (k,cap)/\cap≠0 then(match w.heap[k]? with|some (.cells c _ _)=>some c|_=>none)else I k
theorem Io (hA:BX I ρ w st.bx)(bs:List Nat):I.le (Ed I ρ w st.bx bs):=λk c hk=>by
 unfold Ed;rw[au]
 ·exact hk
 ·rintro⟨b,sz,es,cap,_,hb,hr,h0⟩;have:=hA.fresh b k (by rw[hb];exact⟨cap,hr,h0⟩);rw[this]at hk;cases hk
theorem Pm (hA:Agree I w)(bs:List Nat):Agree (Ed I ρ w st.bx bs) w:=λk c hk=>by
 unfold Ed at hk;split at hk
 ·split at hk
  ·rename_i c' e fr hw;simp at hk;subst hk;exact⟨e,fr,hw⟩
  ·cases hk
 ·exact hA k c hk
theorem Y0 (h:GX E I ρ n st a w){bs:List Nat}{v:Value}{b m sz:Nat}{es:List (List Cell)}(hb:b∈bs)(harr:(st.bx b).arr=some (sz,es))(hm:m<=es.length)(hv:GC I ρ v (.own b m sz)) :
 Rd (Ed I ρ w st.bx bs) v (.sl sz (es.take m)):=by
 obtain⟨k,cap,ad,c,hr,hsv,hmc,hcc,hcap⟩:=hv;have facts:=GS.JX h harr hr;have hl:(es.take m).length=m:=by simp;omega
 subst hsv;have hI:cap≠0->∃cs,(Ed I ρ w st.bx bs) k=some cs/\∀i j c,(es.getD i [])[j]? = some c->∃u,cs[i*sz+j]? = some u/\Rd I u c:=by
  intro hc0;have hok:=h.bx.ok b;cases hx:st.bx b with
  | dat sz' es'=>rw[hx]at hok harr;simp[Box.arr]at harr;obtain⟨rfl,rfl⟩:=harr;obtain⟨k',cap',hr',_,_,_,hd⟩:=hok;rw[hr]at hr';simp at hr';obtain⟨rfl,rfl⟩:=hr';obtain⟨cs,e,hw,_,_,hcs⟩:=hd hc0;refine⟨cs,?_,hcs⟩;unfold Ed;rw[aA ⟨b,_,_,cap,hb,hx,hr,hc0⟩,hw]
  | Hz sz' es'=>rw[hx]at hok harr;simp[Box.arr]at harr;obtain⟨rfl,rfl⟩:=harr;obtain⟨k',cap',hr',_,_,_,hd⟩:=hok;rw[hr]at hr';simp at hr';obtain⟨rfl,rfl⟩:=hr';obtain⟨cs,hw,hcs⟩:=hd hc0;exact⟨cs,Io h.bx bs _ _ hw,hcs⟩
  |absent=>rw[hx]at harr;cases harr
  |dead=>rw[hx]at harr;cases harr
  |var xs=>rw[hx]at harr;cases harr
  |row e l=>rw[hx]at harr;cases harr
 have hle:=Io (st:=st) h.bx bs;by_cases hc0:cap=0
 ·have hm0:m=0:=by omega
  subst hm0;simp only[AZ];exact Rd.sl _ 0 c sz [] (λ_ _=>undef) rfl aI aI mD mD (by intro ad _ i j hi;omega) mD
 ·obtain⟨cs,hcs,hrd⟩:=hI hc0;have had:=hcap hc0;subst had;have key:∀i j c,((es.take m).getD i [])[j]? = some c->∃u,cs[i*sz+j]? = some u/\Rd I u c:=λi j c hc=>by
   have hi:=mY hc;rw[hl]at hi;refine hrd i j c ?_;rw[<- hc];congr 1;simp only[dI];rw[dJ,aA hi]
  refine Rd.sl _ m c sz (es.take m) (λi j=>cs.getD (i*sz+j) undef) hl hmc aI (λe he=>facts.2.2 e (gG he)) mD ?_ ?_
  ·intro ad had i j hi hj;simp at had;subst had;have hlen:((es.take m).getD i []).length=sz:=by
    have:i<(es.take m).length:=(by omega);rw[List.getD_eq_getElem?_getD,aB this];exact facts.2.2 _ (gG (List.getElem_mem this))
   obtain⟨u,hu,_⟩:=key i j _ (aB aI);rw[Addr.uw];simp only[IH.cell,hcs];simp[hu,fH]
  ·intro i j c hc;obtain⟨u,hu,hr⟩:=key i j c hc;have:cs.getD (i*sz+j) undef=u:=(by simp[fH,hu]);rw[this];exact hr.mono hle
theorem Cc {bs:List Nat}{b:Nat} : (st.Hz bs).bx b=if b∈bs then JF (st.bx b)else st.bx b:=rfl
theorem GX.freeze (h:GX E I ρ n st a w)(BS:List Nat):GX E (Ed I ρ w st.bx BS) ρ n (st.Hz BS) a w:=by
 have hIJ:=Io h.bx BS;have Ep:∀b k,((st.Hz BS).bx b).uses (ρ b) k->(st.bx b).uses (ρ b) k/\¬(∃b' sz es cap,b'∈BS/\st.bx b' = .dat sz es/\ρ b'=some (k,cap)/\cap≠0):=by
  intro b k hu;rw[Cc]at hu;by_cases hb:b∈BS
  ·rw[aA hb]at hu;cases hx:st.bx b with
   | var xs=>rw[hx]at hu;refine⟨hu,?_⟩;rintro⟨b',sz,es,cap,_,hb',hr',h0⟩;have:=h.bx.inj b b' k (by rw[hx];exact hu) (by rw[hb'];exact⟨cap,hr',h0⟩);subst this;rw[hx]at hb';cases hb'
   | row e l=>rw[hx]at hu;refine⟨hu,?_⟩;rintro⟨b',sz,es,cap,_,hb',hr',h0⟩;have:=h.bx.inj b b' k (by rw[hx];exact hu) (by rw[hb'];exact⟨cap,hr',h0⟩);subst this;rw[hx]at hb';cases hb'
   |dat sz es=>rw[hx]at hu;exact hu.elim
   |Hz sz es=>rw[hx]at hu;exact hu.elim
   |absent=>rw[hx]at hu;exact hu.elim
   |dead=>rw[hx]at hu;exact hu.elim
  ·rw[au hb]at hu;refine⟨hu,?_⟩;rintro⟨b',sz,es,cap,hm',hb',hr',h0⟩;have:=h.bx.inj b b' k hu (by rw[hb'];exact⟨cap,hr',h0⟩);subst this;exact hb hm'
 have hfr:∀b k,((st.Hz BS).bx b).uses (ρ b) k->Ed I ρ w st.bx BS k=none:=λb k hu=>by obtain⟨h1,h2⟩:=Ep b k hu;unfold Ed;rw[au h2];exact h.bx.fresh b k h1
 refine{ agree:=Pm h.agree BS,bx:=⟨λb=>?_,λb b' k hb hb'=>h.bx.inj b b' k (Ep b k hb).1 (Ep b' k hb').1,hfr⟩,tm:=λt ht=>(h.tm t ht).mono hIJ (Ren.le_refl ρ),size:=h.size,defers:=h.defers,DK:=h.DK,own:=λb k hu=>h.own b k (Ep b k hu).1,Nh:=IH.le_trans h.Nh hIJ,IW:=λk hk0 hM=>?_,zT:=h.zT }
 ·have hok:=(h.bx.ok b).keep hIJ (Ren.le_refl ρ) rfl (λk hu=>rfl);rw[Cc];by_cases hb:b∈BS
  ·rw[aA hb];cases hx:st.bx b with
   | dat sz es=>rw[hx]at hok;obtain⟨kk,cap,hr',hl,hm,hsz,hcs⟩:=hok;refine⟨kk,cap,hr',hl,hm,hsz,λh0=>?_⟩;obtain⟨cs,e,hw,_,_,hrd⟩:=hcs h0;refine⟨cs,?_,hrd⟩;unfold Ed;rw[aA ⟨b,sz,es,cap,hb,hx,hr',h0⟩,hw]
   |var xs=>rw[hx]at hok;exact hok
   |row e l=>rw[hx]at hok;exact hok
   |Hz sz es=>rw[hx]at hok;exact hok
   |absent=>rw[hx]at hok;exact hok
   |dead=>rw[hx]at hok;exact hok
  ·rw[au hb];exact hok
 ·unfold Ed;rw[au]
  ·exact h.IW k hk0 hM
  ·rintro⟨b',sz,es,cap,_,hb',hr',h0⟩;rcases h.own b' k (by rw[hb'];exact⟨cap,hr',h0⟩)with h1|h1
   ·omega
   ·exact hM h1
theorem QX (l:List (Nat×Box))(st:gZ):(st.vJ l).tm=st.tm:=by
 induction l generalizing st with
 |nil=>rfl
 |cons x l ih=>obtain⟨b,x⟩:=x;simp only[gZ.vJ,ih];rfl
theorem agH (st:gZ)(l:List Nat)(bx:Nat->Box):(st.vJ (l.map λb=>(b,JF (bx b)))).bx=λb=>if b∈l then JF (bx b)else st.bx b:=by
 induction l generalizing st with
 |nil=>rfl
 | cons c l ih=>
   simp only[bT,gZ.vJ,ih]
   funext b
   simp only[gZ.tq,aK];by_cases h:b∈l
   ·simp[h]
   ·by_cases h':b=c
    ·subst h';simp[h]
    ·simp[h,h']
theorem FY (st:gZ)(l:List Nat):st.vJ (l.map λb=>(b,JF (st.bx b)))=st.Hz l:=by
 apply gZ.ext'
 ·rw[QX];rfl
 ·rw[agH];rfl
theorem Lt (l r:List (Nat×Box)):∀(st:gZ),st.vJ (l++r)=(st.vJ l).vJ r:=by
 induction l with
 |nil=>intro st;rfl
 |cons p l ih=>intro st;obtain⟨b,x⟩:=p;simp only[List.cons_append,gZ.vJ,ih]
theorem Wj (st:gZ)(l:List Nat)(r:List (Nat×Box)):st.vJ (YR st.bx l++r)=(st.Hz l).vJ r:=by rw[Lt];unfold YR;rw[FY]
end
end
section
section
variable {P:Program} {E:Env P} {I:IH} {ρ:Ren} {n:Nat} {st:gZ} {a:Act} {w:World}
theorem aao (h:GX E I ρ n st a w){BS:List Nat}{vs:List Value}{xs:List AC}{cs:List Cell}(hg:NT I ρ vs xs)(hd:LV st.bx xs=some cs)(hl:BA st.bx xs)(hb:∀b,b∈qH xs->b∈BS) :
 vs.length=cs.length/\∀(j:Nat) (c:Cell),cs[j]? = some c->∃u,vs[j]? = some u/\Rd (Ed I ρ w st.bx BS) u c:=by
 have hle:=Io (st:=st) h.bx BS
 induction xs generalizing vs cs with
 | nil=>simp[LV]at hd;subst hd;exact⟨hg.1,mD⟩
 | cons x r ih=>
   cases vs with
   |nil=>have:=hg.1;simp at this
   | cons v vs=>
     unfold LV at hd;split at hd
     ·rename_i c cs' h1 h2;simp at hd;subst hd;have ht:NT I ρ vs r:=⟨by simpa using hg.1,λj u y hu hy=>hg.2 (j+1) u y (by simpa using hu) (by simpa using hy)⟩;have hv:=hg.2 0 v x rfl rfl;have hlr:BA st.bx r:=by
       cases x with
       |own b m sz=>exact hl.2
       |_=>exact hl
      have hbr:∀b,b∈qH r->b∈BS:=λb hm=>hb b (by
       cases x with
       |own b' m sz=>exact List.mem_cons_of_mem _ hm
       |_=>exact hm)
      obtain⟨hl',hc⟩:=ih ht h2 hlr hbr;have hr:Rd (Ed I ρ w st.bx BS) v c:=by
       cases x with
       |c y=>simp[dataOf]at h1;subst h1;exact Rd.mono hle hv
       | og sz=>simp[dataOf]at h1;subst h1;simp only[GC]at hv;subst hv;exact Rd.sl none 0 0 _ [] (λ_ _=>undef) rfl (aF _) (by simp[maxLen]) mD mD (λad h=>by cases h) mD
       | own b m sz=>
         simp only[dataOf]at h1;have hl1:=hl.1;cases harr:(st.bx b).arr with
         |none=>rw[harr]at h1;cases h1
         | some p=>obtain⟨sz',es⟩:=p;rw[harr]at h1 hl1;simp at h1;subst h1;obtain⟨rfl,hle'⟩:=hl1;exact Y0 h (hb b (by simp[qH])) harr hle' hv
       |_=>simp[dataOf]at h1
      refine⟨by simp[hl'],λj c' hj=>?_⟩;cases j with
      |zero=>simp at hj;subst hj;exact⟨v,rfl,hr⟩
      |succ j=>obtain⟨u,hu,hr'⟩:=hc j c' (by simpa using hj);exact⟨u,by simpa using hu,hr'⟩
     ·cases hd
structure DC (I:IH)(cs:List Value)(sz:Nat)(es:List (List Cell)):Prop where
 one:∀(j:Nat) (u:Value),cs[j]? = some u->u.oneCell'=true
 rd:∀(i j:Nat) (c:Cell),(es.getD i [])[j]? = some c->∃u,cs[i*sz+j]? = some u/\Rd I u c
theorem ah2 {α:Type}(es:List (List α))(i i':Nat)(e:List α)(h:i<es.length):(es.set i e).getD i' []=if i'=i then e else es.getD i' []:=by
 simp only[dI,rq];by_cases hi:i=i'
 ·subst hi;simp[h]
 ·rw[au hi,au (λe=>hi e.symm)]
theorem ak9 {sz i i' j j':Nat}(hj:j<sz)(hj':j'<sz)(h:i*sz+j=i'*sz+j'):i=i'/\j=j':=by
 have h1:(i*sz+j)/sz=i:=by rw[wX,Nat.mul_add_div aI,Nat.div_eq_of_lt hj,sF]
 have h2:(i'*sz+j')/sz=i':=by rw[wX,Nat.mul_add_div aI,Nat.div_eq_of_lt hj',sF]
 rw[h]at h1;have:=h1.symm.trans h2;subst this;exact⟨rfl,aI⟩
theorem DC.splice {cs:List Value}{sz:Nat}{es:List (List Cell)}(h:DC I cs sz es)(hsz:∀x,x∈es->x.length=sz){i off:Nat}(hi:i<es.length){vs:List Value}{ys:List Cell}(hl:off+ys.length<=sz)(hcs:(i+1)*sz<=cs.length)
 (hv:vs.length=ys.length) (h1:∀(j:Nat) (u:Value),vs[j]? = some u->u.oneCell'=true) (hd:∀(j:Nat) (c:Cell),ys[j]? = some c->∃u,vs[j]? = some u/\Rd I u c) :
 DC I (splice cs (i*sz+off) vs) sz (es.set i (Ab.splice (es.getD i []) off ys)):=by
 rw[dL]at hcs;have hfit:i*sz+off+vs.length<=cs.length:=by omega
 have hei:(es.getD i []).length=sz:=hsz _ (by simp[dI,aB hi]);refine⟨λj u hu=>?_,λi' j c hc=>?_⟩
 ·rw[ru _ _ _ _ hfit]at hu;split at hu
  ·exact h.one j u hu
  ·split at hu
   ·exact h1 _ u hu
   ·exact h.one j u hu
 ·rw[ah2 _ _ _ _ hi]at hc;rw[ru _ _ _ _ hfit];by_cases e:i'=i
  ·subst e;rw[aA rfl,ru _ _ _ _ aI]at hc;by_cases c1:j<off
   ·rw[aA c1]at hc;rw[aA aI];exact h.rd i' j c hc
   ·rw[au c1]at hc;rw[au aI];by_cases c2:j<off+ys.length
    ·rw[aA c2]at hc;rw[aA aI];obtain⟨u,hu,hr⟩:=hd _ c hc;exact⟨u,by rw[<- hu];congr 1;omega,hr⟩
    ·rw[au c2]at hc;rw[au aI];exact h.rd i' j c hc
  ·rw[au e]at hc;have hj:j<sz:=by
    have hi':=mY hc;have:=hsz (es.getD i' []) (by simp[dI,aB hi']);rw[<- this];exact(aS.1 hc).1
   have hout:¬(i*sz+off<=i'*sz+j/\i'*sz+j<i*sz+off+vs.length):=by intro⟨c1,c2⟩;obtain⟨e1,_⟩:=ak9 (i:=i') (i':=i) (j:=j) (j':=i'*sz+j-i*sz) hj aI aI;exact e e1
   by_cases c1:i'*sz+j<i*sz+off
   ·rw[aA c1];exact h.rd i' j c hc
   ·rw[au c1,au aI];exact h.rd i' j c hc
def JZ (n:Nat):List (Nat×Operand)->List (Nat×pR)->Bool
 |[],[]=>true
 |(i,x)::r,(i',y)::r'=>i==i'&&lJ n x y&&JZ n r r'
 |_,_=>false
def J9 (P:Program)(n:Nat)(op:Op)(sz m:Nat)(zs:List Cell)(ps:List (Nat×pR)):Bool:=
 match op with
 | .buildSlice t len ps'=>len==m&&zs.length==sz&&decide (0<sz)&&decide (len*sz<=16777216)&&JZ n ps'.toList ps&&(match P.underlying t with
   |some (.slice e)=>(match P.info? e with|some i=>i.size==sz&&(match i.zero with|some z=>LH z.cells.toList zs|none=>false)|none=>false)
   |_=>false)
 |_=>false
theorem aaf {sz:Nat}{BS:List Nat}(h:GX E I ρ n st a w)(hs0:0<sz):∀(ps:List (Nat×Operand)) (ps':List (Nat×pR)) (l':List (Nat×List Cell)) (cs:Array Value) (es:List (List Cell)),JZ n ps ps'=true ->
 Bi (fK st.tm) st.bx es.length sz ps'=some l'->CU (fK st.tm) st.bx ps'->(∀b,b∈xh (fK st.tm) ps'->b∈BS)->(∀p,p∈l'->p.1<es.length/\p.2.length=sz)->(∀p,p∈ps'->(p.2.ev st.tm).g=true)->DC (Ed I ρ w st.bx BS) cs.toList sz es->(∀x,x∈es->x.length=sz)->cs.size=es.length*sz ->
 ∃cs',uS (λi=>some (i*sz,sz)) cs (ps.map λp=>(p.1,a.eval p.2))=some cs'/\DC (Ed I ρ w st.bx BS) cs'.toList sz (Qk es l')/\(∀x,x∈Qk es l'->x.length=sz)/\cs'.size=es.length*sz/\(Qk es l').length=es.length
 | [],[],l',cs,es,_,hd,_,_,_,_,hg,hsz,hcs=>by simp[Bi]at hd;subst hd;exact⟨cs,rfl,hg,hsz,hcs,rfl⟩
 |[],_::_,_,_,_,h,_,_,_,_,_,_,_,_=>by simp[JZ]at h
 |_::_,[],_,_,_,h,_,_,_,_,_,_,_,_=>by simp[JZ]at h
 | (i,x)::r,(i',y)::r',l',cs,es,hp,hd,hld,hbs,hq,hv,hg,hsz,hcs=>by
   simp only[JZ,ah,aY]at hp;obtain⟨⟨rfl,hx⟩,hr⟩:=hp;unfold Bi at hd;split at hd
   ·rename_i ds l2 hd1 hd2;simp at hd;subst hd;obtain⟨q1,q2⟩:=hq (i,ds) mD;simp only at q1 q2;have g:=oK h hx (hv _ (bD ..));have hf:(fK st.tm y).flat:=by
     cases hav:fK st.tm y with
     |AA ps=>rw[hav]at hd1;simp[AV.cells,LV]at hd1;rw[hd1]at q2;simp at q2;omega
     |one x=>trivial
     |agg xs=>trivial
    have gc:=Nb g hf;obtain⟨hl,hrd⟩:=aao (BS:=BS) h gc hd1 hld.1 (λb hm=>hbs b (by simp only[xh,bG];exact .inl hm));have hvs:(a.eval x).cells.size=sz:=(by simp at hl;rw[hl];exact q2);have hone:∀(j:Nat) (u:Value),(a.eval x).cells.toList[j]? = some u->u.oneCell'=true:=λj u hu=>by have hj:j<(fK st.tm y).cells.length:=(by rw[<- gc.1];exact(aS.1 hu).1);exact(gc.2 j u _ hu (aB hj)).one
    have hi1:(i+1)*sz<=cs.toList.length:=(by simp;rw[hcs];exact aX _ q1);have hmul:(i+1)*sz=i*sz+sz:=(by rw[dL];omega);have hsp:=hg.splice hsz q1 (off:=0) (ys:=ds) (vs:=(a.eval x).cells.toList) aI hi1 (by simpa using hl) hone hrd;have hei:(es.getD i []).length=sz:=hsz _ (by simp[dI,aB q1]);have hse:Ab.splice (es.getD i []) 0 ds=ds:=(by unfold Ab.splice;rw[AZ,lu,List.drop_of_length_le aI,mM]);rw[hse,sF]at hsp;have hfold:=foldl_set (a.eval x).cells (i*sz) cs (by simp at hi1;omega);have hlen2:(es.set i ds).length=es.length:=(by simp);have ih:=aaf h hs0 r r' l2 ((a.eval x).cells.zipIdx.foldl (λcs (p:Value×Nat)=>cs.setIfInBounds (i*sz+p.2) p.1) cs) (es.set i ds) hr (by rw[hlen2];exact hd2) hld.2 (λb hm=>hbs b (by simp only[xh,bG];exact .inr hm))
     (λp hp=>by rw[hlen2];exact hq p (by simp[hp])) (λp hp=>hv p (by simp[hp])) (by rw[hfold];exact hsp)
     (λx hx=>(qf hx).elim (hsz x) (λh1=>by rw[h1];exact q2)) (by have:(cs.toList).length=cs.size:=(by simp);rw[<- nN,hfold,length_splice _ _ _ (by simp at hi1⊢;omega),hlen2];simpa using hcs)
    obtain⟨cs',h1,h2,h3,h4,h5⟩:=ih;rw[hlen2]at h4 h5;refine⟨cs',?_,h2,h3,h4,h5⟩;simp only[bT,uS];rw[au (by simp at hi1⊢;omega)];exact h1
   ·cases hd
theorem aah {o:Oper}{l sz m:Nat}{zs:List Cell}{ps:List (Nat×pR)}{l':List (Nat×List Cell)}(h:GX E I ρ n st a w)(hc:J9 P n o.op sz m zs ps=true)(hv:∀p,p∈ps->(p.2.ev st.tm).g=true)
 (hm:E.m<=l) (hl:Es (st.bx l)) (hd:Bi (fK st.tm) st.bx m sz ps=some l') (hq:∀p,p∈l'->p.1<m/\p.2.length=sz) (hld:CU (fK st.tm) st.bx ps) :
 xm P E n o a w ((st.Hz (xh (fK st.tm) ps)).Am l (.dat sz (Qk (bW m zs) l'))) (.one (.own l m sz)):=by
 have h':=h.freeze (xh (fK st.tm) ps);have hl':Es ((st.Hz (xh (fK st.tm) ps)).bx l):=by rw[Cc,BQ hl];split<;>trivial
 generalize hJ:Ed I ρ w st.bx (xh (fK st.tm) ps)=J at h';unfold J9 at hc;split at hc
 ·rename_i t len ps' he;simp only[ah,aY,aC]at hc;obtain⟨⟨⟨⟨⟨rfl,hs⟩,hs0⟩,hbig⟩,hp⟩,ht⟩:=hc;split at ht
  ·rename_i e hte;split at ht
   ·rename_i i hi;simp only[ah,aY]at ht;obtain⟨rfl,hz⟩:=ht;split at hz
    ·rename_i z hzero;generalize hz0:(if len*i.size=0 then(#[]:Array Value)else z.cells)=z0;generalize hcs0:(wz (len*i.size)).map (z0[· % z0.size]!)=cs0;have hdc:DC J cs0.toList i.size (bW len zs)/\cs0.size=len*i.size:=by
      refine⟨?_,by rw[<- hcs0];simp⟩;by_cases h0:len*i.size=0
      ·have hlen0:len=0:=by
        rcases Nat.mul_eq_zero.1 h0 with h1|h1
        ·exact h1
        ·omega
       subst hlen0;refine⟨λj u hu=>?_,λi' j c hc=>?_⟩
       ·rw[<- hcs0]at hu;simp at hu
       ·simp[dI]at hc
      ·rw[au h0]at hz0;subst hz0;have rc:=SQ (I:=J) (N:=len*i.size) (m:=len) hz hs hs0 (aF _) (cs:=cs0) hcs0.symm;exact⟨λj u hu=>rc.1 j u (by simpa using hu),λi' j c hc=>by obtain⟨u,hu,hr⟩:=rc.2 i' j c hc;exact⟨u,by simpa using hu,hr⟩⟩
     obtain⟨cs',h1,h2,h3,h4,h5⟩:=aaf (BS:=xh (fK st.tm) ps) h hs0 ps'.toList ps l' cs0 (bW len zs) hp (by simpa using hd) hld (λb hb=>hb) (by simpa using hq) hv (by rw[hJ];exact hdc.1) (λx hx=>by rw[vY hx,hs]) (by simpa using hdc.2);rw[hJ]at h2;simp only[CX]at h4 h5;have g:=Ob h' (BQ hl') hm cs' e len i.size (Qk (bW len zs) l') h4 aI (by simp only[maxLen];have:=Nat.le_mul_of_pos_right len hs0;omega) h3
      (λj u hu=>h2.one j u (by simpa using hu)) (λi' j c hc=>by obtain⟨u,hu,hr⟩:=h2.rd i' j c hc;exact⟨u,by simpa using hu,hr⟩)
     refine⟨_,_,J,_,.inl ?_,g,λ_=>⟨w.heap.size,len,_,_,Ren.pq _ _ _ _,rfl,aF _,aF _,λ_=>rfl⟩⟩;have hps:(ps'.map λ(i,x)=>(i,a.eval x)).toList=ps'.toList.map λp=>(p.1,a.eval p.2):=(by simp);have hsz:(sizeOf e).run P w = .ok i.size w:=(by simp[sizeOf,typeInfo,hi]);have hzr:(zeroValue e).run P w = .ok z w:=(by simp[zeroValue,typeInfo,hi,hzero]);simp only[execOp,he,Instr.buildSlice,dN,run_underlying hte,bQ,hsz];rw[au aI];by_cases h0:len*i.size=0
     ·rw[aA h0]at hz0⊢;subst hz0;simp only[dN,dw,bQ,hcs0,hps,h1,newRow,run_newObj];rfl
     ·rw[au h0]at hz0⊢;subst hz0;simp only[dN,hzr,dw,bQ,hcs0,hps,h1,newRow,run_newObj];rfl
    ·cases hz
   ·cases ht
  ·cases ht
 ·cases hc
theorem Ls (w:World)(k:Nat)(cs:Array Value):DN w (w.setRow k cs) (λk'=>k'=k):=
 ⟨rfl,rfl,rfl,mD,λk' _ hne=>setRow_other w k k' cs hne⟩
theorem Ap (cs:Array Value)(off:Nat)(vs:List Value):(cs.toList.take (off+0)++vs++cs.toList.drop (off+0+vs.length)).toArray=(Ab.splice cs.toList off vs).toArray:=by unfold Ab.splice;simp
def Vj (P:Program)(n:Nat)(op:Op)(agg:Bool)(k:Nat)(p x:pR):Bool:=match op with|.store t p' x'=>lJ n p' p&&lJ n x' x&&Md P t agg k&&(agg||k==1)|_=>false
theorem QW {t:TypeId}{agg:Bool}{k kk off:Nat}(ht:Md P t agg k=true){v:Value}(hk:v.cells.size=k){cur:Array Value}{e:TypeId}(hw:w.heap[kk]? = some (.cells cur e (0,0)))
 (hfit:off+k<=cur.size) (h1:∀(j:Nat) (u:Value),v.cells.toList[j]? = some u->u.oneCell'=true) :
 (BK t (.pointer (some ⟨kk,off,none⟩)) v).run P w = .ok () (w.setRow kk (Ab.splice cur.toList off v.cells.toList).toArray):=by
 have hst:=run_storeCells_at P kk off e v.cells.toList 0 cur w hw (by simp;omega) (λu hu=>by obtain⟨j,hj⟩:=vW hu;exact h1 j u hj)
 rw[Ap]at hst;obtain⟨_,hs⟩:=IE ht w;simp only[BK,kX,dN,dw,bQ,storeVar,hs];rw[au aI];exact hst
theorem akI {v:Value}{x:AV}(h:GV I ρ v x)(hf:x.flat):∀(j:Nat) (u:Value),v.cells.toList[j]? = some u->u.oneCell'=true:=λj u hu=>by
 have gc:=Nb h hf;have hj:j<x.cells.length:=by rw[<- gc.1];exact(aS.1 hu).1
 exact(gc.2 j u _ hu (aB hj)).one
theorem adN {o:Oper}{agg:Bool}{k:Nat}{p x:pR}(h:GX E I ρ n st a w)(hc:Vj P n o.op agg k p x=true)(hd:o.dst=none)(hp:(p.ev st.tm).g=true)(hx:(x.ev st.tm).g=true)
 (kF:(Bc agg k (fK st.tm p) (fK st.tm x) st.bx).vc):xQ P E n o a w (st.vJ (Bc agg k (fK st.tm p) (fK st.tm x) st.bx).sets) (Bc agg k (fK st.tm p) (fK st.tm x) st.bx).v:=by
 unfold Vj at hc;split at hc
 ·rename_i t p' x' he;simp only[ah]at hc;obtain⟨⟨⟨c1,c2⟩,ht⟩,_⟩:=hc;have g1:=oK h c1 hp;have g2:=oK h c2 hx;have hf:(fK st.tm x).flat:=by
   cases hav:fK st.tm x with
   |one _=>trivial
   |agg _=>trivial
   |AA ps=>rw[hav]at kF;exact kF.elim
  have gc:=Nb g2 hf;have h1:=akI g2 hf;have key:∀{J:IH} {st':gZ} (h':GX E J ρ n st' a w) {b kk cap off:Nat} {cur:Array Value} {e:TypeId} {y:Box},a.eval p' = .pointer (some ⟨kk,off,none⟩)->(st'.bx b).uses (ρ b) kk->w.heap[kk]? = some (.cells cur e (0,0))->(fK st.tm x).cells.length=k->off+k<=cur.size ->
   (∀k',y.uses (ρ b) k'->k'=kk)->yD J ρ (w.setRow kk (Ab.splice cur.toList off (a.eval x').cells.toList).toArray) b y->ρ b=some (kk,cap)->xQ P E n o a w (st'.vJ [(b,y)]) (.one .Nk):=by
   intro J st' h' b kk cap off cur e y hpv hu hw hk hfit huy hok hr;have hkv:(a.eval x').cells.size=k:=(by have:=gc.1;simp at this;omega);have hrun:=QW (P:=P) (w:=w) ht hkv hw hfit h1;refine⟨undef,w.setRow kk (Ab.splice cur.toList off (a.eval x').cells.toList).toArray,J,ρ,.inr ⟨by simp only[execOp,he,hpv,dN,hrun,bQ,dw],hd⟩,?_,λhn=>eF hd hn,{ quiet:=λe=>(by rw[he]at e;cases e),store:=λt1 p1 x1 he1=>(by rw[he]at he1;cases he1;exact⟨kk,off,cur,e,hpv,hw,aI,rfl⟩) }⟩;exact h'.Am hu y huy (Ls _ _ _) hok mD
  unfold Bc at kF⊢;split at kF
  ·exact kF.elim
  ·exact kF.elim
  ·exact kF.elim
  ·split at kF
   ·rename_i b off e1;rw[e1]at g1;obtain⟨kk,cap,hr,hv⟩:=g1;split at kF
    ·rename_i xs hb;obtain⟨hk,hfit⟩:=kF;have hok:=h.bx.ok b;rw[hb]at hok;obtain⟨kk',cap',cs,hr',hw,hs,hcs⟩:=hok;rw[hr]at hr';simp only[aH,dF]at hr';obtain⟨rfl,rfl⟩:=hr';refine key h hv (by rw[hb];exact⟨cap,hr⟩) hw hk aI (λk' hk'=>?_) ?_ hr
     ·obtain⟨c,hc⟩:=hk';rw[hr]at hc;simp at hc;exact hc.1.symm
     ·have hsp:=NT.splice (vs:=cs.toList) (xs:=xs) ⟨by simpa using hs,λj v y hv hy=>hcs j v y (by simpa using hv) hy⟩ gc off aI;refine⟨kk,cap,_,hr,setRow_heap w kk cs _ cap _ hw,?_,λj u y hu hy=>hsp.2 j u y (by simpa using hu) hy⟩;have:=hsp.1;simpa using this
    ·exact kF.elim
   ·rename_i b i sz off e1;rw[e1]at g1;obtain⟨kk,cap,hr,hv⟩:=g1;split at kF
    ·rename_i sz' es cs' hb hds;obtain⟨rfl,hk,hi,hfit,hlo,hnb⟩:=kF;obtain⟨hl,hrd⟩:=aao (BS:=qH (fK st.tm x).cells) h gc hds hlo (λb hm=>hm);have h':=h.freeze (qH (fK st.tm x).cells);have hb':(st.Hz (qH (fK st.tm x).cells)).bx b = .dat sz' es:=(by rw[Cc,au (λhm=>by rw[List.contains_iff_mem.2 hm]at hnb;cases hnb),hb]);rw[Wj];generalize hJ:Ed I ρ w st.bx (qH (fK st.tm x).cells)=J at h' hrd;have hok:=h'.bx.ok b;rw[hb']at hok;obtain⟨kk',cap',hr',hle,hcm,hsz,hcs⟩:=hok;rw[hr]at hr';simp only[aH,dF]at hr';obtain⟨rfl,rfl⟩:=hr';have hc0:cap≠0:=(by omega);obtain⟨cs,e,hw,hs,ho,apL⟩:=hcs hc0;have hi1:(i+1)*sz'<=cs.size:=(by rw[hs];exact aX _ aI);have hmul:(i+1)*sz'=i*sz'+sz':=(by rw[dL];omega);have hei:(es.getD i []).length=sz':=hsz _ (by simp[dI,aB hi]);have hck:(fK st.tm x).cells.length=k:=(by rw[<- gc.1,hl];exact hk);have hdc:DC J cs.toList sz' es:=⟨λj u hu=>ho j u (by simpa using hu),λi j c hc=>by obtain⟨u,hu,hr⟩:=apL i j c hc;exact⟨u,by simpa using hu,hr⟩⟩;have hsp:=hdc.splice hsz hi (off:=off) (ys:=cs') (vs:=(a.eval x').cells.toList) aI (by simpa using hi1) hl h1 hrd;refine key h' hv (by rw[hb'];exact⟨cap,hr,hc0⟩) hw hck aI (λk' hk'=>?_) ?_ hr
     ·obtain⟨c,hc,_⟩:=hk';rw[hr]at hc;simp at hc;exact hc.1.symm
     ·refine⟨kk,cap,hr,by simpa using hle,hcm,λy hy=>?_,λ_=>⟨_,e,setRow_heap w kk cs _ e _ hw,?_,λj u hu=>hsp.one j u (by simpa using hu),λi j c hc=>by obtain⟨u,hu,hr⟩:=hsp.rd i j c hc;exact⟨u,by simpa using hu,hr⟩⟩⟩
      ·rcases qf hy with h1|h1
       ·exact hsz y h1
       ·rw[h1,length_splice _ _ _ aI];exact hei
      ·have:(a.eval x').cells.toList.length=k:=(by rw[hl];exact hk);simp only[o6];rw[length_splice _ _ _ (by rw[this,nN];omega)];simpa using hs
    ·exact kF.elim
   ·exact kF.elim
 ·cases hc
end
end
section
section
variable {P:Program} {E:Env P} {I:IH} {ρ:Ren} {n:Nat} {st:gZ} {a:Act} {w:World}
theorem GX.kill (h:GX E I ρ n st a w)(b:Nat):GX E I ρ n (st.Am b .dead) a w:=by
 refine{ h with bx:=?_,own:=?_,agree:=h.agree,tm:=h.tm,size:=h.size,defers:=h.defers }
 ·refine BX.step (λc=>c=b) h.bx (IH.le_refl I) (Ren.le_refl ρ) (λc hc=>⟨by simp[gZ.tq,hc],rfl⟩) (λc k _ _=>rfl) ?_ ?_ ?_ (λc k _ hu=>h.bx.fresh c k hu)
  ·rintro c rfl;simp[gZ.tq,yD]
  ·rintro c k rfl hu;simp[gZ.tq,Box.uses]at hu
  ·rintro c c' k rfl rfl _ _;rfl
 ·intro c k hu;simp only[gZ.tq]at hu;by_cases e:c=b
  ·rw[aA e]at hu;exact hu.elim
  ·rw[au e]at hu;exact h.own c k hu
theorem GX.move (h:GX E I ρ n st a w){w':World}{b l kk cap sz sz':Nat}{es es':List (List Cell)}(hb:st.bx b = .dat sz es)(hr:ρ b=some (kk,cap))(hl:st.bx l = .absent)(hm:E.m<=l)
 (hF:DN w w' (λk=>k=kk)) (hsz:w'.heap.size=w.heap.size) (h0:cap=0->w'=w) (hx:yD I (ρ.set l kk cap) w' l (.dat sz' es')):GX E I (ρ.set l kk cap) n ((st.Am b .dead).Am l (.dat sz' es')) a w':=by
 have hrl:ρ l=none:=by have:=h.bx.ok l;rwa[hl]at this
 have hbl:b≠l:=by rintro rfl;rw[hl]at hb;cases hb
 have hle:=Ren.Pj (ρ:=ρ) (k:=kk) (cap:=cap) hrl;have hk:∀k',k'≠kk->w'.heap[k']? = w.heap[k']?:= λk' hne=>by
  by_cases hlt:k'<w.heap.size
  ·exact hF.block k' hlt hne
  ·rw[wZ aI,wZ aI]
 have hub:cap≠0->(st.bx b).uses (ρ b) kk:=λhc=>by rw[hb];exact⟨cap,hr,hc⟩
 have hk2:∀k',(∀hc:cap≠0,k'≠kk)->w'.heap[k']? = w.heap[k']?:= λk' hne=>by
  by_cases hc:cap=0
  ·rw[h0 hc]
  ·exact hk k' (hne hc)
 refine{ agree:=h.agree.other λk' c hc=>hk2 k' λhc0 e=>?_,bx:=?_,tm:=λt ht=>(h.tm t ht).mono (IH.le_refl _) hle,size:=h.size,defers:=h.defers,DK:=?_,own:=?_,Nh:=h.Nh,IW:=h.IW,zT:=?_ }
 ·subst e;have:=h.bx.fresh b k' (hub hc0);rw[this]at hc;cases hc
 ·refine BX.step (λc=>c=b\/c=l) h.bx (IH.le_refl I) hle ?_ ?_ ?_ ?_ ?_ ?_
  ·intro c hc;have h1:¬c=b:=λe=>hc (.inl e);have h2:¬c=l:=λe=>hc (.inr e);exact⟨by simp[gZ.tq,h1,h2],Ren.yj h2⟩
  ·intro c k' hc hu;refine hk2 k' λhc0 e=>hc (.inl ?_);subst e;exact h.bx.inj c b k' hu (hub hc0)
  ·rintro c (rfl|rfl)
   ·simp[gZ.tq,hbl,yD]
   ·simpa[gZ.tq]using hx
  ·rintro c k' (rfl|rfl) hu
   ·simp[gZ.tq,hbl,Box.uses]at hu
   ·simp only[gZ.tq,jY,Box.uses,Ren.pq]at hu;obtain⟨c',hc',hc0⟩:=hu;simp only[aH,dF]at hc';obtain⟨rfl,rfl⟩:=hc';exact⟨λb' hb' hu'=>hb' (.inl (h.bx.inj b' b kk hu' (hub hc0))),h.bx.fresh b kk (hub hc0)⟩
  ·rintro c c' k' (rfl|rfl) (rfl|rfl) hu hu'
   ·rfl
   ·simp[gZ.tq,hbl,Box.uses]at hu
   ·simp[gZ.tq,hbl,Box.uses]at hu'
   ·rfl
  ·intro c k' hc hu;exact h.bx.fresh c k' hu
 ·by_cases hc:cap=0
  ·rw[h0 hc];exact h.DK
  ·refine h.DK.trans hF λk' hlt e=>?_;subst e;rcases h.own b k' (hub hc)with h1|h1
   ·omega
   ·exact h1
 ·intro c k' hu;simp only[gZ.tq]at hu;by_cases e:c=l
  ·subst e;simp only[jY,Box.uses,Ren.pq]at hu;obtain⟨c',hc',hc0⟩:=hu;simp only[aH,dF]at hc';obtain⟨rfl,rfl⟩:=hc';exact h.own b kk (hub hc0)
  ·rw[au e,Ren.yj e]at hu;by_cases e2:c=b
   ·rw[aA e2]at hu;exact hu.elim
   ·rw[au e2]at hu;exact h.own c k' hu
 ·intro c hc;rw[Ren.yj aI];exact h.zT c hc
theorem NL {v:Value}{sz:Nat}{es:List (List Cell)}(h:Src I w v sz es)(h0:0<sz):∃(b:Option Addr) (cap:Nat) (us:List Value),v = .slice b es.length cap/\us.length=es.length*sz /\
 (∀ad,b=some ad->∀(j:Nat) (u:Value),us[j]? = some u->w.cell? (ad.add j)=some u)/\(b=none->es=[])/\DC I us sz es:=by
 obtain⟨b,cap,hv,_,hsz,hb,hc⟩:=h;cases b with
 | none=>
   have:es=[]:=by
    cases es with
    |nil=>rfl
    |cons e r=>exact eF rfl (hb mD)
   subst this;exact⟨none,cap,[],hv,mD,(λad h=>by cases h),(λ_=>rfl),⟨mD,mD⟩⟩
 | some ad=>
   have key:∀j,j<es.length*sz->∃u,w.cell? (ad.add j)=some u/\∃c,(es.getD (j/sz) [])[j%sz]? = some c/\Rd I u c:=by intro j hj;have hi:j/sz<es.length:=(by rw[Nat.div_lt_iff_lt_mul h0];exact hj);have hl:(es.getD (j/sz) []).length=sz:=hsz _ (by simp[dI,aB hi]);have hm:j%sz<sz:=xg _ h0;obtain⟨u,hu,hr⟩:=hc ad rfl (j/sz) (j%sz) _ (aB aI);have e:j/sz*sz+j%sz=j:=(by rw[wX];exact Nat.div_add_mod j sz);rw[e]at hu;exact⟨u,hu,_,aB aI,hr⟩
   refine⟨some ad,cap,(List.range (es.length*sz)).map λj=>(w.cell? (ad.add j)).getD undef,hv,mD,?_,mD,?_⟩
   ·intro ad' had j u hu;simp at had;subst had;rw[dG]at hu;by_cases hj:j<es.length*sz
    ·rw[yc hj]at hu;obtain⟨u',hu',_⟩:=key j hj;simp[hu']at hu;rw[<- hu];exact hu'
    ·rw[kU (by simpa using hj)]at hu;cases hu
   ·refine⟨λj u hu=>?_,λi j c hcc=>?_⟩
    ·rw[dG]at hu;by_cases hj:j<es.length*sz
     ·rw[yc hj]at hu;obtain⟨u',hu',c,_,hr⟩:=key j hj;simp[hu']at hu;rw[<- hu];exact hr.one
     ·rw[kU (by simpa using hj)]at hu;cases hu
    ·have hi:=mY hcc;have hl:(es.getD i []).length=sz:=hsz _ (by simp[dI,aB hi]);have hj:j<sz:=(by rw[<- hl];exact(aS.1 hcc).1);obtain⟨u,hu,hr⟩:=hc ad rfl i j c hcc;have hlt:i*sz+j<es.length*sz:=by
      have:(i+1)*sz<=es.length*sz:=aX _ hi;rw[dL]at this;omega
     exact⟨u,by rw[dG,yc hlt];simp[hu],hr⟩
theorem DC.append {us vs:List Value}{sz:Nat}{es ys:List (List Cell)}(h:DC I us sz es)(k:DC I vs sz ys)(hl:us.length=es.length*sz):DC I (us++vs) sz (es++ys):=by
 refine⟨λj u hu=>?_,λi j c hc=>?_⟩
 ·by_cases hj:j<us.length
  ·rw[cu hj]at hu;exact h.one j u hu
  ·rw[dU aI]at hu;exact k.one _ u hu
 ·by_cases hi:i<es.length
  ·have e:(es++ys).getD i []=es.getD i []:=(by simp[dI,cu hi]);rw[e]at hc;obtain⟨u,hu,hr⟩:=h.rd i j c hc;exact⟨u,by rw[cu (aS.1 hu).1];exact hu,hr⟩
  ·have e:(es++ys).getD i []=ys.getD (i-es.length) []:=(by simp[dI,dU (BN hi)]);rw[e]at hc;obtain⟨u,hu,hr⟩:=k.rd _ j c hc;have hmul:es.length*sz<=i*sz:=aX _ aI;have hsub:(i-es.length)*sz=i*sz-es.length*sz:=Nat.sub_mul _ _ _;exact⟨u,by rw[dU aI,hl,<- hu];congr 1;omega,hr⟩
theorem DC.more {us vs:List Value}{sz:Nat}{es:List (List Cell)}(h:DC I us sz es)(hv:∀(j:Nat) (u:Value),vs[j]? = some u->u.oneCell'=true):DC I (us++vs) sz es:=by
 refine⟨λj u hu=>?_,λi j c hc=>?_⟩
 ·by_cases hj:j<us.length
  ·rw[cu hj]at hu;exact h.one j u hu
  ·rw[dU aI]at hu;exact hv _ u hu
 ·obtain⟨u,hu,hr⟩:=h.rd i j c hc;exact⟨u,by rw[cu (aS.1 hu).1];exact hu,hr⟩
theorem DC.aeY {us:List Value}{sz:Nat}{es:List (List Cell)}{cs:Array Value}(h:DC I us sz es)(e:cs.toList=us) :
 (∀(j:Nat) (u:Value),cs[j]? = some u->u.oneCell'=true)/\∀(i j:Nat) (c:Cell),(es.getD i [])[j]? = some c->∃u,cs[i*sz+j]? = some u/\Rd I u c:=by
 subst e;exact⟨λj u hu=>h.one j u (by simpa using hu),λi j c hc=>by obtain⟨u,hu,hr⟩:=h.rd i j c hc;exact⟨u,by simpa using hu,hr⟩⟩
def Fa (P:Program)(n:Nat)(op:Op)(sz bytes:Nat)(s x:pR):Bool:=
 match op with
 | .call { callee:=.builtin .append,args:=⟨[s',x']⟩,argTypes:=⟨[t,t']⟩ }=>lJ n s' s&&lJ n x' x&&t==t'&&decide (0<sz)&&(match P.underlying t with
   |some (.slice e)=>(match P.info? e with|some i=>i.size==sz&&i.bytes==bytes&&(match i.zero with|some z=>z.cells.size==sz&&z.cells.toList.all (·.oneCell')|none=>false)|none=>false)
   |_=>false)
 |_=>false
theorem run_append_room' (t ty e tg:TypeId)(i:TypeInfo)(ht:P.underlying t=some (.slice e))(hi:P.info? e=some i)
 (g sLen sCap:Nat) (cur:Array Value) (hg:w.heap[g]? = some (.cells cur tg (0,0)))
 (ad:Addr) (m c:Nat) (news:List Value) (hl:news.length=m*i.size) (hnews:∀j u,news[j]? = some u->w.cell? (ad.add j)=some u) (h1:∀u∈news,u.oneCell'=true)
 (hroom:sLen+m<=sCap) (hfit:sLen*i.size+news.length<=cur.size) :
 (iM #[t,t] ty #[.slice (some ⟨g,0,none⟩) sLen sCap,.slice (some ad) m c]).run P w =
  .ok (.slice (some ⟨g,0,none⟩) (sLen+m) sCap) (w.setRow g (cur.toList.take (sLen*i.size)++news++cur.toList.drop (sLen*i.size+news.length)).toArray):=by
 have hf:=run_firstCells_some (P:=P) w i.size m ad m c news hl hnews;have hst:=run_storeCells_at P g (sLen*i.size) tg news 0 cur w hg (by simpa using hfit) h1;simp only[sF]at hst;simp[iM,run_underlying ht,sizeOf,typeInfo,hi,rX,hroom,hf,Go.Addr.add_lit,hst]
theorem Ho (t ty e:TypeId)(i:TypeInfo)(ht:P.underlying t=some (.slice e))(hi:P.info? e=some i)(b:Option Addr)(sLen sCap:Nat)(hs:sLen<=sCap)(ad:Option Addr)(c:Nat) :
 (iM #[t,t] ty #[.slice b sLen sCap,.slice ad 0 c]).run P w = .ok (.slice b sLen sCap) w:=by
 have hf:(jc i.size 0 (.slice ad 0 c)).run P w = .ok #[] w:=by cases ad<;>simp[jc,loadCells,loadCellsFrom,dw]
 cases b<;>simp[iM,run_underlying ht,sizeOf,typeInfo,hi,rX,hs,hf,storeCells]
theorem TB (h:GX E I ρ n st a w){l sz bytes:Nat}{sv xv:Value}{es ys:List (List Cell)}{b:Option Nat}(t ty e:TypeId)(i:TypeInfo)(z:Value)(ht:P.underlying t=some (.slice e))(hi:P.info? e=some i)(hsz:i.size=sz)
 (hby:i.bytes=bytes) (hz:i.zero=some z) (hzs:z.cells.size=sz) (hz1:z.cells.toList.all (·.oneCell')=true) (h0:0<sz) (hl:st.bx l = .absent) (hm:E.m<=l)
 (hb:(b=none/\es=[]/\sv = .slice none 0 0)\/∃b',b=some b'/\st.bx b' = .dat sz es/\GC I ρ sv (.own b' es.length sz)) (hx:Src I w xv sz ys) (hbig:(es.length+ys.length)*(bytes+sz+1)<=2^46) :
 ∃v w' ρ',(iM #[t,t] ty #[sv,xv]).run P w = .ok v w'/\GX E I ρ' n ((match b with|some b'=>st.Am b' .dead|none=>st).Am l (.dat sz (es++ys))) a w'/\GC I ρ' v (.own l (es.length+ys.length) sz):=by
 subst hsz;subst hby;have hmul:(es.length+ys.length)*(i.bytes+i.size+1)=(es.length+ys.length)*i.bytes+(es.length+ys.length)*i.size+(es.length+ys.length):=by rw[AP,AP,xy]
 have hbytes:(es.length+ys.length)*i.bytes<=140737488355328:=by omega
 have h63:es.length+ys.length<=maxLen:=by simp only[maxLen];omega
 obtain⟨xb,xc,us,hxv,L8,hus,hxn,hdx⟩:=NL hx h0;have hys:∀y,y∈ys->y.length=i.size:=by obtain⟨_,_,_,_,h4,_⟩:=hx;exact h4
 have hone:∀u∈us,u.oneCell'=true:=λu hu=>by obtain⟨j,hj⟩:=vW hu;exact hdx.one j u hj
 have hzc:∀(q:Nat) (j:Nat) (u:Value),(di z.cells q).toList[j]? = some u->u.oneCell'=true:=by
  intro q j u hu;simp only[di,xu,qp]at hu;by_cases hj:j<q*z.cells.size
  ·rw[qK,aA hj]at hu;simp only[kL,aH]at hu;have hlt:j%z.cells.size<z.cells.size:=xg _ aI;rw[getElem!_pos z.cells _ hlt]at hu;rw[<- hu];exact bf.1 hz1 _ mD
  ·rw[qK,au hj]at hu;cases hu
 have fresh:∀(st':gZ) (old:Nat) (olds:List Value),GX E I ρ n st' a w->st'.bx l = .absent->old<es.length+ys.length->olds.length=es.length*i.size->DC I olds i.size es->(∀y,y∈es->y.length=i.size) ->
  GX E I (ρ.set l w.heap.size (grownCap w (es.length+ys.length) old e)) n (st'.Am l (.dat i.size (es++ys))) a
   (w.drew.alloc (.cells (olds.toArray++us.toArray++di z.cells (grownCap w (es.length+ys.length) old e-(es.length+ys.length))) e)):=by
  intro st' old olds hst hl' ho hol hdo hes;have hge:=grownCap_ge w (es.length+ys.length) old e;have hcm:grownCap w (es.length+ys.length) old e<=maxLen:=grownCap_le_maxLen w _ old e h63;have hdc:=((hdo.append hdx hol).more (hzc (grownCap w (es.length+ys.length) old e-(es.length+ys.length)))).aeY (cs:=olds.toArray++us.toArray++di z.cells (grownCap w (es.length+ys.length) old e-(es.length+ys.length))) mD;refine Ob hst.drew hl' hm _ e _ i.size (es++ys) ?_ (by simpa using hge) hcm (λx hx=>?_) hdc.1 hdc.2
  ·simp only[yV,o6,size_zeroCells,hzs,hol,L8,<- dL]
   congr 1
   omega
  ·rcases bG.1 hx with h1|h1
   ·exact hes x h1
   ·exact hys x h1
 rcases hb with⟨rfl,rfl,rfl⟩|⟨b',rfl,hb',hg⟩
 ·
  simp only[iU,fV,lu]at *;by_cases hm0:ys.length=0
  ·have hy0:ys=[]:=gJ hm0;subst hy0;refine⟨.slice none 0 0,w,ρ.set l 0 0,?_,?_,0,0,none,0,Ren.pq _ _ _ _,rfl,aF _,aF _,λh=>eF rfl h⟩
   ·rw[hxv];exact Ho t ty e i ht hi none 0 0 (aF _) xb xc
   ·have hrl:ρ l=none:=(by have:=h.bx.ok l;rwa[hl]at this);have hle:=Ren.Pj (ρ:=ρ) (k:=0) (cap:=0) hrl;refine{ agree:=h.agree,bx:=?_,tm:=λt ht=>(h.tm t ht).mono (IH.le_refl _) hle,size:=h.size,defers:=h.defers,DK:=h.DK,own:=?_,Nh:=h.Nh,IW:=h.IW,zT:=λc hc=>by rw[Ren.yj aI];exact h.zT c hc }
    ·refine BX.step (λc=>c=l) h.bx (IH.le_refl I) hle (λc hc=>⟨by simp[gZ.tq,hc],Ren.yj hc⟩) (λc k _ _=>rfl) ?_ ?_ ?_ (λc k _ hu=>h.bx.fresh c k hu)
     ·rintro c rfl;simp only[gZ.tq,jY];exact⟨0,0,Ren.pq _ _ _ _,mD,by simp[maxLen],mD,λh=>eF rfl h⟩
     ·rintro c k rfl hu;simp only[gZ.tq,jY,Box.uses,Ren.pq]at hu;obtain⟨c',hc',hc0⟩:=hu;simp only[aH,dF]at hc';exact eF hc'.2.symm hc0
     ·rintro c c' k rfl rfl _ _;rfl
    ·intro c k hu;simp only[gZ.tq]at hu;by_cases e':c=l
     ·subst e';simp only[jY,Box.uses,Ren.pq]at hu;obtain⟨c',hc',hc0⟩:=hu;simp only[aH,dF]at hc';exact eF hc'.2.symm hc0
     ·rw[au e',Ren.yj e']at hu;exact h.own c k hu
  ·obtain⟨ad,had⟩:∃ad,xb=some ad:=by
    cases hq:xb with
    |none=>exact eF (by rw[hxn hq];rfl) hm0
    |some ad=>exact⟨ad,rfl⟩
   subst had;have hr:=run_append_nil (P:=P) w t ty e i z ht hi hz ad ys.length xc us L8 (hus ad rfl) aI (by simp only[maxLen]at h63;omega) aI;rw[<- hxv]at hr;have hf:=fresh st 0 [] h hl aI mD ⟨mD,mD⟩ mD;simp only[uT]at hf;exact⟨_,_,_,hr,hf,w.heap.size,_,_,_,Ren.pq _ _ _ _,rfl,grownCap_ge w ys.length 0 e,aF _,λ_=>rfl⟩
 ·obtain⟨kk,cap,ad0,c,hr0,hsv,hnc,hcc,hcap⟩:=hg;have hbl:b'≠l:=by rintro rfl;rw[hl]at hb';cases hb'
  have hok:=h.bx.ok b';rw[hb']at hok;obtain⟨kk',cap',hr',hle,hcm,hes,hcs⟩:=hok;rw[hr0]at hr';simp only[aH,dF]at hr';obtain⟨rfl,rfl⟩:=hr';simp only;by_cases hm0:ys.length=0
  ·have hy0:ys=[]:=gJ hm0;subst hy0;simp only[iU,sF,mM]at *;refine⟨sv,w,ρ.set l kk cap,?_,?_,kk,cap,ad0,c,Ren.pq _ _ _ _,hsv,hnc,hcc,hcap⟩
   ·rw[hxv,hsv];exact Ho t ty e i ht hi ad0 _ c hnc xb xc
   ·refine h.move hb' hr0 hl hm (DN.refl _ _) rfl (λ_=>rfl) ⟨kk,cap,Ren.pq _ _ _ _,hle,hcm,hes,hcs⟩
  ·obtain⟨ad,had⟩:∃ad,xb=some ad:=by
    cases hq:xb with
    |none=>exact eF (by rw[hxn hq];rfl) hm0
    |some ad=>exact⟨ad,rfl⟩
   subst had;by_cases hroom:es.length+ys.length<=c
   ·have hc0:cap≠0:=(by omega);have Pg:=hcap hc0;subst Pg;obtain⟨cs,tg,hw,hs,ho,hrd⟩:=hcs hc0;have hfit:es.length*i.size+us.length<=cs.size:=(by rw[hs,L8,<- dL];exact aX _ aI);have hr:=run_append_room' (P:=P) (w:=w) (ty:=ty) t e tg i ht hi kk es.length c cs hw ad ys.length xc us L8 (hus ad rfl) hone hroom hfit;rw[<- hxv,<- hsv]at hr;refine⟨_,_,ρ.set l kk cap,hr,?_,kk,cap,_,c,Ren.pq _ _ _ _,rfl,hroom,hcc,λ_=>rfl⟩;refine h.move hb' hr0 hl hm (Ls _ _ _) mD (λh=>eF h hc0) ⟨kk,cap,Ren.pq _ _ _ _,by simp;omega,hcm,λx hx=>?_,λ_=>⟨_,tg,setRow_heap w kk cs _ tg _ hw,?_,?_⟩⟩
    ·rcases bG.1 hx with h1|h1
     ·exact hes x h1
     ·exact hys x h1
    ·simp only[o6,bZ,iK,List.length_drop,nN];omega
    ·have hd1:DC I (cs.toList.take (es.length*i.size)) i.size es:=by
      refine⟨λj u hu=>?_,λi' j c' hc'=>?_⟩
      ·rw[dJ]at hu;split at hu
       ·exact ho j u (by simpa using hu)
       ·cases hu
      ·obtain⟨u,hu,hr⟩:=hrd i' j c' hc';have hi':=mY hc';have hj:j<i.size:=(by rw[<- hes (es.getD i' []) (by simp[dI,aB hi'])];exact(aS.1 hc').1);have:(i'+1)*i.size<=es.length*i.size:=aX _ hi';rw[dL]at this;exact⟨u,by rw[dJ,aA aI];simpa using hu,hr⟩
     have hlen:(cs.toList.take (es.length*i.size)).length=es.length*i.size:=(by simp;omega);have:=((hd1.append hdx hlen).more (vs:=cs.toList.drop (es.length*i.size+us.length)) (λj u hu=>by rw[gW]at hu;exact ho _ u (by simpa using hu))).aeY (cs:=(cs.toList.take (es.length*i.size)++us++cs.toList.drop (es.length*i.size+us.length)).toArray) mD;exact this
   ·
    have hfit:=growslice_fits (need:=es.length+ys.length) (old:=c) (bytes:=i.bytes) aI hbytes;have hk:=h.kill b';have hkl:(st.Am b' .dead).bx l = .absent:=(by rw[gZ.tq,au (λe=>hbl e.symm)];exact hl);by_cases hc0:cap=0
    ·
     have he0:es=[]:=gJ aI;subst he0;have hcz:c=0:=(by omega);subst hcz;simp only[iU,fV,lu]at *;have hf:=fresh (st.Am b' .dead) 0 [] hk hkl aI mD ⟨mD,mD⟩ mD;simp only[uT]at hf;cases ad0 with
     | none=>have hr:=run_append_nil (P:=P) w t ty e i z ht hi hz ad ys.length xc us L8 (hus ad rfl) aI (by simp only[maxLen]at h63;omega) aI;rw[<- hxv,<- hsv]at hr;exact⟨_,_,_,hr,hf,w.heap.size,_,_,_,Ren.pq _ _ _ _,rfl,grownCap_ge w ys.length 0 e,aF _,λ_=>rfl⟩
     | some q=>have hr:=run_append_grow (P:=P) w t ty e i z ht hi hz q 0 0 [] mD mD ad ys.length xc us L8 (hus ad rfl) aI (by simp only[maxLen]at h63;omega) (by simpa using hfit);rw[<- hxv,<- hsv]at hr;simp only[fV,uT]at hr;exact⟨_,_,_,hr,hf,w.heap.size,_,_,_,Ren.pq _ _ _ _,rfl,grownCap_ge w ys.length 0 e,aF _,λ_=>rfl⟩
    ·have Pg:=hcap hc0;subst Pg;obtain⟨cs,tg,hw,hs,ho,hrd⟩:=hcs hc0;have hmn:es.length*i.size<=cs.size:=(by rw[hs];exact aX _ hle);have aaI:(cs.toList.take (es.length*i.size)).length=es.length*i.size:=(by simp;omega);have holds:∀(j:Nat) (u:Value),(cs.toList.take (es.length*i.size))[j]? = some u->w.cell? ((⟨kk,0,none⟩:Addr).add j)=some u:=λj u hu=>by
      rw[dJ]at hu;split at hu
      ·rw[Addr.uw];simp at hu;simp[iy,hw,hu]
      ·cases hu
     have hd1:DC I (cs.toList.take (es.length*i.size)) i.size es:=by
      refine⟨λj u hu=>?_,λi' j c' hc'=>?_⟩
      ·rw[dJ]at hu;split at hu
       ·exact ho j u (by simpa using hu)
       ·cases hu
      ·obtain⟨u,hu,hr⟩:=hrd i' j c' hc';have hi':=mY hc';have hj:j<i.size:=(by rw[<- hes (es.getD i' []) (by simp[dI,aB hi'])];exact(aS.1 hc').1);have:(i'+1)*i.size<=es.length*i.size:=aX _ hi';rw[dL]at this;exact⟨u,by rw[dJ,aA aI];simpa using hu,hr⟩
     have hr:=run_append_grow (P:=P) w t ty e i z ht hi hz ⟨kk,0,none⟩ es.length c _ aaI holds ad ys.length xc us L8 (hus ad rfl) aI (by simp only[maxLen]at h63;omega) hfit;rw[<- hxv,<- hsv]at hr;have hf:=fresh (st.Am b' .dead) c _ hk hkl aI aaI hd1 hes;exact⟨_,_,_,hr,hf,w.heap.size,_,_,_,Ren.pq _ _ _ _,rfl,grownCap_ge w _ c e,aF _,λ_=>rfl⟩
end
end
section
section
variable {P:Program} {E:Env P} {I:IH} {ρ:Ren} {n:Nat} {st:gZ} {a:Act} {w:World}
def UA (l sz bytes:Nat) (s x:AV) (bx:Nat->Box):FR:=match zy sz x bx with
    | some (p,ys)=>match s with
      |.one (.og _)=>⟨p/\(match bx l with|.absent=>True|_=>False)/\ys.length*(bytes+sz+1)<=2^46,.one (.own l ys.length sz),[(l,.dat sz ys)]⟩
      | .one (.own b n sz')=>match bx b with
        |.dat DL es=>⟨p/\(match bx l with|.absent=>True|_=>False)/\sz'=sz/\DL=sz/\n<=es.length/\(n+ys.length)*(bytes+sz+1)<=2^46/\b≠l,
         .one (.own l (n+ys.length) sz),[(b,.dead),(l,.dat sz (es.take n++ys))]⟩
        |_=>.bad
      |_=>.bad
    |none=>.bad
theorem JW {x:Box}(h:match x with|.absent=>True|_=>False):x = .absent:=by cases x<;>first|rfl|exact h.elim
theorem GX.pfx (h:GX E I ρ n st a w){b sz m:Nat}{es:List (List Cell)}(hb:st.bx b = .dat sz es):GX E I ρ n (st.Am b (.dat sz (es.take m))) a w:=by
 have hu:∀c k,((st.Am b (.dat sz (es.take m))).bx c).uses (ρ c) k->(st.bx c).uses (ρ c) k:=λc k hu=>by
  rw[gZ.tq]at hu;split at hu
  ·rename_i e;subst e;rw[hb];exact hu
  ·exact hu
 refine{ h with bx:=⟨λc=>?_,λc c' k hc hc'=>h.bx.inj c c' k (hu c k hc) (hu c' k hc'),λc k hc=>h.bx.fresh c k (hu c k hc)⟩,own:=λc k hc=>h.own c k (hu c k hc),agree:=h.agree,tm:=h.tm,size:=h.size,defers:=h.defers,DK:=h.DK };rw[gZ.tq];split
 ·rename_i e;subst e;have hok:=h.bx.ok c;rw[hb]at hok;obtain⟨k,cap,hr,h1,h2,h3,h4⟩:=hok;refine⟨k,cap,hr,by simp;omega,h2,λe he=>h3 e (gG he),λh0=>?_⟩;obtain⟨cs,e,g1,g2,g3,g4⟩:=h4 h0;refine⟨cs,e,g1,g2,g3,λi j c' hc'=>g4 i j c' ?_⟩;have hi:=mY hc';simp at hi;rw[<- hc']
  congr 1
  simp only[dI];rw[dJ,aA aI]
 ·exact h.bx.ok c
theorem Z5 {o:Oper}{l sz bytes:Nat}{s x:pR}(h:GX E I ρ n st a w)(hc:Fa P n o.op sz bytes s x=true)(hm:E.m<=l)(hs:(s.ev st.tm).g=true)(hx:(x.ev st.tm).g=true)
 (kF:(UA l sz bytes (fK st.tm s) (fK st.tm x) st.bx).vc):xm P E n o a w (st.vJ (UA l sz bytes (fK st.tm s) (fK st.tm x) st.bx).sets) (UA l sz bytes (fK st.tm s) (fK st.tm x) st.bx).v:=by
 unfold Fa at hc;split at hc
 ·rename_i s' x' t t' he;simp only[ah,aY,aC]at hc;obtain⟨⟨⟨⟨c1,c2⟩,rfl⟩,h0⟩,ht⟩:=hc;have g1:=oK h c1 hs;have g2:=oK h c2 hx;split at ht
  ·rename_i e hte;split at ht
   ·rename_i i hi;simp only[ah,aY]at ht;obtain⟨⟨rfl,rfl⟩,hz⟩:=ht;split at hz
    ·rename_i z hzero;simp only[ah,aY]at hz;obtain⟨hzs,hz1⟩:=hz;have fin:∀{v:Value} {w':World},(iM #[t,t] o.type #[a.eval s',a.eval x']).run P w = .ok v w'->(execOp a.eval o).run P w = .ok (.value v) w':=by
      intro v w' hr;simp only[execOp,he,resolve,invoke,builtin,dN,dw,bQ,lU,bT,jP,hr]
     unfold UA at kF⊢;split at kF
     ·rename_i p ys hsrc;split at kF
      ·rename_i sz' e1;obtain⟨hp,hl,hbig⟩:=kF;rw[e1]at g1;obtain⟨v,w',ρ',hr,hg,hv⟩:=TB (P:=P) h (l:=l) (es:=[]) (ys:=ys) (b:=none) t o.type e i z hte hi rfl rfl hzero hzs hz1 h0 (JW hl) hm (.inl ⟨rfl,rfl,g1⟩) (src_ok h g2 hsrc hp) (by simpa using hbig);simp only[lu,iU,fV]at hg hv;exact⟨v,w',I,ρ',.inl (fin hr),hg,λ_=>hv⟩
      ·rename_i b m sz' e1;rw[e1]at g1;split at kF
       ·rename_i DL es hb;obtain⟨hp,hl,rfl,rfl,hmn,hbig,hbl⟩:=kF;have hlt:(es.take m).length=m:=(by simp;omega);have h':=h.pfx (m:=m) hb;have hl':(st.Am b (.dat i.size (es.take m))).bx l = .absent:=(by rw[gZ.tq,au (λe=>hbl e.symm)];exact JW hl);obtain⟨v,w',ρ',hr,hg,hv⟩:=TB (P:=P) h' (l:=l) (es:=es.take m) (ys:=ys) (b:=some b) t o.type e i z hte hi rfl rfl hzero hzs hz1 h0 hl' hm (.inr ⟨b,rfl,by rw[gZ.tq,aA rfl],by rw[hlt];exact g1⟩) (src_ok h g2 hsrc hp) (by rw[hlt];exact hbig);rw[hlt]at hv;have hst:(((st.Am b (.dat i.size (es.take m))).Am b .dead).Am l (.dat i.size (es.take m++ys)))=((st.Am b .dead).Am l (.dat i.size (es.take m++ys))):=by
         apply gZ.ext'
         ·rfl
         ·funext c;simp only[gZ.tq];split
          ·rfl
          ·split<;>rfl
        simp only[hst]at hg;exact⟨v,w',I,ρ',.inl (fin hr),hg,λ_=>hv⟩
       ·exact kF.elim
      ·exact kF.elim
     ·exact kF.elim
    ·cases hz
   ·cases ht
  ·cases ht
 ·cases hc
def copyV (sz:Nat) (d x:AV) (bx:Nat->Box):FR:=match zy sz x bx with
    | some (p,ys)=>match d with
      | .one (.own b n sz')=>match bx b with
        |.dat DL es=>⟨p/\sz'=sz/\DL=sz/\n<=es.length,yG .i64 (gm ys.length n:Nat),[(b,.dat sz (splice es 0 (ys.take n)))]⟩
        |_=>.bad
      |.one (.og _)=>.ok (yG .i64 0)
      |_=>.bad
    |none=>.bad
def Jn (P:Program)(n:Nat)(op:Op)(sz:Nat)(d x:pR):Bool:=
 match op with
 |.call { callee:=.builtin .copy,args:=⟨[d',x']⟩,argTypes:=⟨[t,_]⟩ }=>lJ n d' d&&lJ n x' x&&MW P t sz&&decide (0<sz)
 |_=>false
theorem ajk (t t' ty e:TypeId)(i:TypeInfo)(ht:P.underlying t=some (.slice e))(hi:P.info? e=some i)(kk m c:Nat)(cur:Array Value)(tg:TypeId)(hg:w.heap[kk]? = some (.cells cur tg (0,0)))
 (ad:Addr) (k c':Nat) (us:List Value) (hl:us.length=gm k m*i.size) (hus:∀j u,us[j]? = some u->w.cell? (ad.add j)=some u) (h1:∀u∈us,u.oneCell'=true) (hfit:us.length<=cur.size) :
 (ni #[t,t'] ty #[.slice (some ⟨kk,0,none⟩) m c,.slice (some ad) k c']).run P w = .ok (goInt (gm k m:Nat)) (w.setRow kk (splice cur.toList 0 us).toArray):=by
 have hf:=run_firstCells_some (P:=P) w i.size (gm k m) ad k c' us hl hus;have hst:=run_storeCells_at P kk 0 tg us 0 cur w hg (by simpa using hfit) h1;rw[Ap]at hst;simp[ni,run_underlying ht,sizeOf,typeInfo,hi,rX,hf,hst]
theorem JK (t t' ty e:TypeId)(i:TypeInfo)(ht:P.underlying t=some (.slice e))(hi:P.info? e=some i)(b:Option Addr)(m c:Nat)(ad:Option Addr)(k c':Nat)(h:gm k m=0) :
 (ni #[t,t'] ty #[.slice b m c,.slice ad k c']).run P w = .ok (goInt 0) w:=by
 have hf:(jc i.size 0 (.slice ad k c')).run P w = .ok #[] w:=by cases ad<;>simp[jc,loadCells,loadCellsFrom,dw]
 cases b<;>simp[ni,run_underlying ht,sizeOf,typeInfo,hi,rX,h,hf,storeCells]
theorem adK {α:Type}(xs:List α):splice xs 0 []=xs:=by simp[splice]
theorem Oi {b:Nat}{x:Box}(h:st.bx b=x):st.Am b x=st:=by
 apply gZ.ext'
 ·rfl
 ·funext c;rw[gZ.tq];split
  ·rename_i e;rw[e,h]
  ·rfl
theorem afF {o:Oper}{sz:Nat}{d x:pR}(h:GX E I ρ n st a w)(hc:Jn P n o.op sz d x=true)(hd:(d.ev st.tm).g=true)(hx:(x.ev st.tm).g=true)
 (kF:(copyV sz (fK st.tm d) (fK st.tm x) st.bx).vc):xm P E n o a w (st.vJ (copyV sz (fK st.tm d) (fK st.tm x) st.bx).sets) (copyV sz (fK st.tm d) (fK st.tm x) st.bx).v:=by
 unfold Jn at hc;split at hc
 ·rename_i d' x' t t' he;simp only[ah,aC]at hc;obtain⟨⟨⟨c1,c2⟩,ht⟩,h0⟩:=hc;have g1:=oK h c1 hd;have g2:=oK h c2 hx;obtain⟨e,i,hte,hi,rfl⟩:=DT ht;have fin:∀{v:Value} {w':World},(ni #[t,t'] o.type #[a.eval d',a.eval x']).run P w = .ok v w'->(execOp a.eval o).run P w = .ok (.value v) w':=by
   intro v w' hr;simp only[execOp,he,resolve,invoke,builtin,dN,dw,bQ,lU,bT,jP,hr]
  unfold copyV at kF⊢;split at kF
  ·rename_i p ys hsrc;split at kF
   ·rename_i b m sz' e1;rw[e1]at g1;split at kF
    ·rename_i DL es hb;obtain⟨hp,rfl,rfl,hmn⟩:=kF;have hsrc':=src_ok h g2 hsrc hp;have hys:∀y,y∈ys->y.length=i.size:=(by obtain⟨_,_,_,_,h4,_⟩:=hsrc';exact h4);obtain⟨xb,xc,us,hxv,L8,hus,hxn,hdx⟩:=NL hsrc' h0;obtain⟨kk,cap,ad0,c,hr0,hsv,hnc,hcc,hcap⟩:=g1;have hok:=h.bx.ok b;rw[hb]at hok;obtain⟨kk',cap',hr',hle,hcm,hes,hcs⟩:=hok;rw[hr0]at hr';simp only[aH,dF]at hr';obtain⟨rfl,rfl⟩:=hr';by_cases hm0:gm ys.length m=0
     ·have hr:=JK (P:=P) (w:=w) t t' o.type e i hte hi ad0 m c xb ys.length xc hm0;rw[<- hxv,<- hsv]at hr;have htk:ys.take m=[]:=by
       apply gJ;rw[iK,Ej];exact hm0
      rw[htk,adK];refine⟨_,w,I,ρ,.inl (fin hr),?_,λ_=>by rw[hm0];exact Ce _ _⟩;show GX E I ρ n (st.Am b (.dat i.size es)) a w;rw[Oi hb];exact h
     ·have hmin:gm ys.length m<=ys.length/\gm ys.length m<=m:=⟨Nat.min_le_left _ _,Nat.min_le_right _ _⟩;have hc0:cap≠0:=(by omega);have Pg:=hcap hc0;subst Pg;obtain⟨ad,had⟩:∃ad,xb=some ad:=by
       cases hq:xb with
       |none=>have:=hxn hq;subst this;exact eF rfl hm0
       |some ad=>exact⟨ad,rfl⟩
      subst had;obtain⟨cs,tg,hw,hs,ho,hrd⟩:=hcs hc0;have hmul:gm ys.length m*i.size<=ys.length*i.size:=aX _ hmin.1;have Qm:gm ys.length m*i.size<=cap*i.size:=aX _ aI;have hul:(us.take (gm ys.length m*i.size)).length=gm ys.length m*i.size:=(by simp;omega);have aic:0+(us.take (gm ys.length m*i.size)).length<=cs.toList.length:=(by have hq:cs.toList.length=cs.size:=nN;omega);have hr:=ajk (P:=P) (w:=w) t t' o.type e i hte hi kk m c cs tg hw ad ys.length xc (us.take (gm ys.length m*i.size)) hul
       (λj u hu=>by
        rw[dJ]at hu;split at hu
        ·exact hus ad rfl j u hu
        ·cases hu)
       (λu hu=>by obtain⟨j,hj⟩:=vW (gG hu);exact hdx.one j u hj) (by rw[hul];omega)
      rw[<- hxv,<- hsv]at hr;refine⟨_,_,I,ρ,.inl (fin hr),?_,λ_=>Ce _ _⟩;have htl:(ys.take m).length=gm ys.length m:=(by rw[iK,Ej]);refine h.Am (b:=b) (k:=kk) (by rw[hb];exact⟨cap,hr0,hc0⟩) (.dat i.size (splice es 0 (ys.take m))) (λk' hk'=>?_) (Ls _ _ _) ?_ mD
      ·obtain⟨c',hc',_⟩:=hk';rw[hr0]at hc';simp at hc';exact hc'.1.symm
      ·have hsl:(splice es 0 (ys.take m)).length=es.length:=length_splice _ _ _ (by rw[htl];omega);refine⟨kk,cap,hr0,by rw[hsl];exact hle,hcm,λy hy=>?_,λ_=>⟨_,tg,setRow_heap w kk cs _ tg _ hw,?_,?_,?_⟩⟩
       ·unfold splice at hy;simp only[AZ,lu,bG]at hy;rcases hy with h1|h1
        ·exact hys y (gG h1)
        ·exact hes y (lq h1)
       ·simp only[o6];rw[length_splice _ _ _ aic];simpa using hs
       ·intro j u hu;have hu:(splice cs.toList 0 (us.take (gm ys.length m*i.size)))[j]? = some u:=(by simpa using hu);rw[ru _ _ _ _ aic,au aI]at hu;split at hu
        ·rw[dJ]at hu;split at hu
         ·exact hdx.one _ u hu
         ·cases hu
        ·exact ho j u (by simpa using hu)
       ·intro i' j cc G8;have key:∃u,(splice cs.toList 0 (us.take (gm ys.length m*i.size)))[i'*i.size+j]? = some u/\Rd I u cc:=by
         have hi':=mY G8;rw[hsl]at hi';rw[ru _ _ _ _ aic,au aI,hul];have hget:(splice es 0 (ys.take m)).getD i' []=if i'<gm ys.length m then ys.getD i' []else es.getD i' []:=by
          simp only[dI];rw[ru _ _ _ _ (by rw[htl];omega),au aI,htl];by_cases hh:i'<gm ys.length m
          ·rw[aA aI,aA hh,dJ,aA aI];rfl
          ·rw[au aI,au hh]
         rw[hget]at G8;by_cases hh:i'<gm ys.length m
         ·rw[aA hh]at G8;obtain⟨u,hu,hr⟩:=hdx.rd i' j cc G8;have hj:j<i.size:=by
           have hyi:=mY G8;rw[<- hys (ys.getD i' []) (by simp[dI,aB hyi])];exact(aS.1 G8).1
          have:(i'+1)*i.size<=gm ys.length m*i.size:=aX _ hh;rw[dL]at this;exact⟨u,by rw[aA aI,dJ,aA aI];simpa using hu,hr⟩
         ·rw[au hh]at G8;obtain⟨u,hu,hr⟩:=hrd i' j cc G8;have:gm ys.length m*i.size<=i'*i.size:=aX _ aI;exact⟨u,by rw[au aI];simpa using hu,hr⟩
        obtain⟨u,hu,hr⟩:=key;exact⟨u,by simpa using hu,hr⟩
    ·exact kF.elim
   ·rename_i sz' e1;rw[e1]at g1;have g1:a.eval d' = .slice none 0 0:=g1;have hgx:∃xb k xc,a.eval x' = .slice xb k xc:=by
     unfold zy at hsrc;split at hsrc
     ·rename_i e2;rw[e2]at g2;obtain⟨b,c,hv,_⟩:=alM g2;exact⟨b,_,c,hv⟩
     ·rename_i e2;rw[e2]at g2;exact⟨none,0,0,g2⟩
     ·rename_i e2;rw[e2]at g2;obtain⟨k,cap,b,c,_,hv,_⟩:=g2;exact⟨b,_,c,hv⟩
     ·rename_i e2;rw[e2]at g2;obtain⟨k,cap,b,c,_,hv,_⟩:=g2;exact⟨b,_,c,hv⟩
     ·cases hsrc
    obtain⟨xb,k,xc,hxv⟩:=hgx;have hr:=JK (P:=P) (w:=w) t t' o.type e i hte hi none 0 0 xb k xc (Nat.min_zero k);rw[<- hxv,<- g1]at hr;exact⟨_,w,I,ρ,.inl (fin hr),h,λ_=>Ce _ _⟩
   ·exact kF.elim
  ·exact kF.elim
 ·cases hc
end
end
section
section
variable {P:Program} {E:Env P} {I:IH} {ρ:Ren} {n:Nat} {st:gZ} {a:Act} {w:World}
theorem Nc {v:Value}{x:AV}{b lo m sz:Nat}{c:Option Nat}(h:GV I ρ v x)(hs:FN x=some (b,lo,m,c,sz)) :
 ∃k cap ad c',ρ b=some (k,cap)/\v = .slice ad m c'/\m<=c'/\lo+c'<=cap/\(∀c0,c=some c0->c'=c0)/\(c'≠0\/(lo=0/\cap≠0)->ad=some ⟨k,lo*sz,none⟩):=by
 unfold FN at hs;split at hs
 ·simp only[aH,dF]at hs;obtain⟨rfl,rfl,rfl,rfl,rfl⟩:=hs;obtain⟨k,cap,ad,c',h1,h2,h3,h4,h5⟩:=h;refine⟨k,cap,ad,c',h1,h2,h3,aI,(λ_ e=>by cases e),λhc=>?_⟩;rw[Nat.zero_mul];refine h5 ?_;rcases hc with hc|hc
  ·omega
  ·exact hc.2
 ·simp only[aH,dF]at hs;obtain⟨rfl,rfl,rfl,rfl,rfl⟩:=hs;exact h
 ·cases hs
def acD (n:Nat)(op:Op)(l:Bool)(x y:pR):Bool:=match op with|.binOp b _ x' y' _=>(match b with|.shl=>l|.shr=> !l|_=>false)&&lJ n x' x&&lJ n y' y|_=>false
theorem ajn {o:Oper}{l:Bool}{x y:pR}(h:GX E I ρ n st a w)(hc:acD n o.op l x y=true)(hx:(x.ev st.tm).g=true)(hy:(y.ev st.tm).g=true)
 (kF:(Zw l (fK st.tm x) (fK st.tm y)).vc):xQ P E n o a w st (Zw l (fK st.tm x) (fK st.tm y)).v:=by
 unfold acD at hc;split at hc
 ·rename_i b t x' y' t' he;simp only[ah]at hc;obtain⟨⟨hb,h1⟩,h2⟩:=hc;have g1:=oK h h1 hx;have g2:=oK h h2 hy;unfold Zw at kF⊢;split at kF
  ·rename_i k p k' q e1 e2;rw[e1]at g1;rw[e2]at g2;have v1:=zQ g1;have v2:=zQ g2;have hq:¬q<0:=(by simp only at kF;omega);have hg:=EK (P:=P) b t x' y' k p (.int k' q) w;cases b<;>simp only[qw]at hb
   ·subst hb;exact xm.val h (v:=.int k (k.wrap (p*2^(min q.toNat k.bits)))) (by simp[execOp,he,hg,v1,v2,binOp,Op.shift,hq]) (Ce _ _)
   ·cases l
    ·exact xm.val h (v:=.int k (p.fdiv (2^(min q.toNat k.bits)))) (by simp[execOp,he,hg,v1,v2,binOp,Op.shift,hq]) (Ce _ _)
    ·cases hb
  ·exact kF.elim
 ·cases hc
def Yx (P:Program)(n:Nat)(op:Op)(x:pR):Bool:=
 match op with
 |.call { callee:=.builtin .cap,args:=⟨[x']⟩,argTypes:=⟨[t]⟩ }=>lJ n x' x&&Qv P t
 |_=>false
theorem afA {o:Oper}{x:pR}(h:GX E I ρ n st a w)(hc:Yx P n o.op x=true)(hx:(x.ev st.tm).g=true)(kF:(WX (fK st.tm x)).vc):xQ P E n o a w st (WX (fK st.tm x)).v:=by
 unfold Yx at hc;split at hc
 ·rename_i x' t he;simp only[ah]at hc;have g:=oK h hc.1 hx;obtain⟨e,ht⟩:=OJ hc.2;unfold WX at kF⊢;split at kF
  ·rename_i b lo m c sz e1;rw[e1]at g;obtain⟨k,cap,ad,c',hr,hv,hm,hcc,hcx,ha⟩:=g;have:=hcx c rfl;subst this;exact xm.val h (by simp[execOp,he,resolve,invoke,builtin,Builtin.cap_,run_underlying ht,hv,goInt]) (Ce _ _)
  ·rename_i sz e1;rw[e1]at g;have g:a.eval x' = .slice none 0 0:=g;exact xm.val h (by simp[execOp,he,resolve,invoke,builtin,Builtin.cap_,run_underlying ht,g,goInt]) (Ce _ _)
  ·exact kF.elim
 ·cases hc
def RF (P:Program)(n:Nat)(op:Op)(sz:Nat)(x:pR)(lo hi:Option pR):Bool:=match op with|.slice t x' lo' hi' none=>lJ n x' x&&Ry n lo' lo&&Ry n hi' hi&&MW P t sz|_=>false
theorem abA {o:Oper}{sz:Nat}{x:pR}{lo hi:Option pR}(h:GX E I ρ n st a w)(hc:RF P n o.op sz x lo hi=true)(hx:(x.ev st.tm).g=true)
 (hgl:∀x,x∈lo.toList->(x.ev st.tm).g=true) (hgh:∀x,x∈hi.toList->(x.ev st.tm).g=true)
 (kF:(Bl sz (fK st.tm x) (bnd (fK st.tm) lo 0) (bnd (fK st.tm) hi)).vc):xQ P E n o a w st (Bl sz (fK st.tm x) (bnd (fK st.tm) lo 0) (bnd (fK st.tm) hi)).v:=by
 unfold RF at hc;split at hc
 ·rename_i t x' lo' hi' he;simp only[ah]at hc;have g1:=oK h hc.1.1.1 hx;obtain⟨e,ti,ht,hti,hsz⟩:=DT hc.2;unfold Bl at kF⊢;split at kF
  ·rename_i b l m c sz' hsb;split at kF
   ·rename_i p q e2 e3;obtain⟨rfl,h0,h1,h2⟩:=kF;obtain⟨k,cap,ad,c',hr,hv,hm,hcc,hcx,ha⟩:=Nc g1 hsb;have hqc:q<=c':=by
     cases c with
     |none=>simp only at h2;omega
     |some c0=>have:=hcx c0 rfl;simp only at h2;omega
    have b1:=JY h hc.1.1.2 hgl e2;have b2:=JY h hc.1.2 hgh e3;have hb:=EL (P:=P) (w:=w) true m c' (lo'.map a.eval) (hi'.map a.eval) (p:=p) (q:=q) (NW b1) (NW b2) h0 h1 hqc;have hrun:(execOp a.eval o).run P w = .ok (.value (.slice (if c'=p.toNat then ad else ad.map (·.add (p.toNat*sz'))) (q.toNat-p.toNat) (c'-p.toNat))) w:=by simp only[execOp,he,zC,Dv,hv,lQ];simp[run_underlying ht];rw[hb];simp[sizeOf,typeInfo,hti,hsz]
    refine xm.val h hrun ⟨k,cap,_,_,hr,by congr 1;omega,aI,aI,λc0 hc0=>?_,λG8=>?_⟩
    ·cases c with
     |none=>cases hc0
     |some c1=>have:=hcx c1 rfl;simp at hc0;omega
    ·by_cases hcp:c'=p.toNat
     ·rw[aA hcp];have hl0:l=0/\p.toNat=0/\cap≠0:=(by omega);have:=ha (.inr ⟨hl0.1,hl0.2.2⟩);rw[this,hl0.1,hl0.2.1]
     ·rw[au hcp,ha (.inl aI)];simp only[kL];rw[Addr.uw,dL]
   ·exact kF.elim
  ·exact kF.elim
 ·cases hc
theorem abu (len cap:Nat){k1 k2 k3:IntKind}{p q m:Int}(h0:0<=p)(h1:p<=q)(h2:q<=m)(h3:m<=cap) :
 (Ad true len cap (some (.int k1 p)) (some (.int k2 q)) (some (.int k3 m))).run P w = .ok (p.toNat,q.toNat,m.toNat) w:=by
 simp (disch:=omega) [Ad,run_sliceBound]
def acE (P:Program)(n:Nat)(op:Op)(sz:Nat)(x p q m:pR):Bool:=match op with|.slice t x' (some p') (some q') (some m')=>lJ n x' x&&lJ n p' p&&lJ n q' q&&lJ n m' m&&MW P t sz|_=>false
theorem ajo {o:Oper}{sz:Nat}{x p q m:pR}(h:GX E I ρ n st a w)(hc:acE P n o.op sz x p q m=true)(hx:(x.ev st.tm).g=true)(hp:(p.ev st.tm).g=true)(hq:(q.ev st.tm).g=true)(hm:(m.ev st.tm).g=true)
 (kF:(NH sz (fK st.tm x) (fK st.tm p) (fK st.tm q) (fK st.tm m)).vc):xQ P E n o a w st (NH sz (fK st.tm x) (fK st.tm p) (fK st.tm q) (fK st.tm m)).v:=by
 unfold acE at hc;split at hc
 ·rename_i t x' p' q' m' he;simp only[ah]at hc;obtain⟨⟨⟨⟨c1,c2⟩,c3⟩,c4⟩,c5⟩:=hc;have g1:=oK h c1 hx;have g2:=oK h c2 hp;have g3:=oK h c3 hq;have g4:=oK h c4 hm;obtain⟨e,ti,ht,hti,hsz⟩:=DT c5;unfold NH at kF⊢;split at kF
  ·rename_i b l len c sz' k1 p0 k2 q0 k3 m0 hsb e2 e3 e4;obtain⟨rfl,h0,h1,h2,h3⟩:=kF;rw[e2]at g2;rw[e3]at g3;rw[e4]at g4;have v2:=zQ g2;have v3:=zQ g3;have v4:=zQ g4;obtain⟨k,cap,ad,c',hr,hv,hlm,hcc,hcx,ha⟩:=Nc g1 hsb;have hmc:m0<=c':=by
    cases c with
    |none=>simp only at h3;omega
    |some c0=>have:=hcx c0 rfl;simp only at h3;omega
   have hb:=abu (P:=P) (w:=w) len c' (k1:=k1) (k2:=k2) (k3:=k3) h0 h1 h2 hmc;refine xm.val h (v:=.slice (if m0.toNat=p0.toNat then ad else ad.map (·.add (p0.toNat*sz'))) (q0.toNat-p0.toNat) (m0.toNat-p0.toNat)) ?_ rfl;simp only[execOp,he,zC,Dv,hv,kL,v2,v3,v4];simp[run_underlying ht];rw[hb];simp[sizeOf,typeInfo,hti,hsz]
  ·exact kF.elim
 ·cases hc
theorem RS {α:Type}(xs ys:List α)(off j:Nat)(h:off<=xs.length):(splice xs off ys)[j]? = if j<off then xs[j]? else if j<off+ys.length then ys[j-off]? else xs[j]?:=by
 unfold splice;have h1:(xs.take off).length=off:=by simp;omega
 by_cases hj:j<off
 ·rw[aA hj,ji,cu aI,dJ,aA hj]
 ·rw[au hj,ji,dU aI,h1];by_cases hk:j<off+ys.length
  ·rw[aA hk,cu aI]
  ·rw[au hk,dU aI,gW]
   congr 1;omega
theorem Zq (h:GX E I ρ n st a w){b kk cap sz lo:Nat}{es ys:List (List Cell)}{us:List Value}(hb:st.bx b = .dat sz es)(hr:ρ b=some (kk,cap))(h0:0<sz)(hlo:lo<=es.length)(hfit:lo+ys.length<=cap)
 (hc0:cap≠0) (hys:∀y,y∈ys->y.length=sz) (hul:us.length=ys.length*sz) (hd:DC I us sz ys) :
 ∃cs tg,w.heap[kk]? = some (.cells cs tg (0,0))/\cs.size=cap*sz/\GX E I ρ n (st.Am b (.dat sz (splice es lo ys))) a (w.setRow kk (splice cs.toList (lo*sz) us).toArray):=by
 have hok:=h.bx.ok b;rw[hb]at hok;obtain⟨kk',cap',hr',hle,hcm,hes,hcs⟩:=hok;rw[hr]at hr';simp only[aH,dF]at hr';obtain⟨rfl,rfl⟩:=hr';obtain⟨cs,tg,hw,hs,ho,hrd⟩:=hcs hc0;refine⟨cs,tg,hw,hs,?_⟩;have hmul:(lo+ys.length)*sz<=cap*sz:=aX _ hfit;rw[dL]at hmul;have aid:lo*sz+us.length<=cs.toList.length:=by have hq:cs.toList.length=cs.size:=nN;omega
 have hlen:(splice es lo ys).length<=cap:=by unfold splice;simp;omega
 refine h.Am (b:=b) (k:=kk) (by rw[hb];exact⟨cap,hr,hc0⟩) (.dat sz (splice es lo ys)) (λk' hk'=>?_) (Ls _ _ _) ?_ mD
 ·obtain⟨c',hc',_⟩:=hk';rw[hr]at hc';simp at hc';exact hc'.1.symm
 ·refine⟨kk,cap,hr,hlen,hcm,λy hy=>?_,λ_=>⟨_,tg,setRow_heap w kk cs _ tg _ hw,?_,?_,?_⟩⟩
  ·unfold splice at hy;simp only[bG]at hy;rcases hy with(h1|h1)|h1
   ·exact hes y (gG h1)
   ·exact hys y h1
   ·exact hes y (lq h1)
  ·simp only[o6];rw[length_splice _ _ _ aid];simpa using hs
  ·intro j u hu;have hu:(splice cs.toList (lo*sz) us)[j]? = some u:=(by simpa using hu);rw[ru _ _ _ _ aid]at hu;split at hu
   ·exact ho j u (by simpa using hu)
   ·split at hu
    ·exact hd.one _ u hu
    ·exact ho j u (by simpa using hu)
  ·intro i' j cc G8;have key:∃u,(splice cs.toList (lo*sz) us)[i'*sz+j]? = some u/\Rd I u cc:=by
    have hget:(splice es lo ys).getD i' []=if i'<lo then es.getD i' []else if i'<lo+ys.length then ys.getD (i'-lo) []else es.getD i' []:=by
     simp only[dI];rw[RS _ _ _ _ hlo];split
     ·rfl
     ·split<;>rfl
    rw[hget]at G8;rw[ru _ _ _ _ aid];by_cases h1:i'<lo
    ·rw[aA h1]at G8;obtain⟨u,hu,hr'⟩:=hrd i' j cc G8;have hi':=mY G8;have hj:j<sz:=(by rw[<- hes (es.getD i' []) (by simp[dI,aB hi'])];exact(aS.1 G8).1);have:(i'+1)*sz<=lo*sz:=aX _ h1;rw[dL]at this;exact⟨u,by rw[aA aI];simpa using hu,hr'⟩
    ·rw[au h1]at G8;by_cases h2:i'<lo+ys.length
     ·rw[aA h2]at G8;obtain⟨u,hu,hr'⟩:=hd.rd (i'-lo) j cc G8;have hyi:=mY G8;have hj:j<sz:=(by rw[<- hys (ys.getD (i'-lo) []) (by simp[dI,aB hyi])];exact(aS.1 G8).1);have e1:lo*sz<=i'*sz:=aX _ aI;have e2:(i'-lo)*sz=i'*sz-lo*sz:=Nat.sub_mul _ _ _;have e3:(i'-lo+1)*sz<=ys.length*sz:=aX _ aI;rw[dL]at e3;exact⟨u,by rw[au aI,aA aI,<- hu];congr 1;omega,hr'⟩
     ·rw[au h2]at G8;obtain⟨u,hu,hr'⟩:=hrd i' j cc G8;have e1:(lo+ys.length)*sz<=i'*sz:=aX _ aI;rw[dL]at e1;exact⟨u,by rw[au aI,au aI];simpa using hu,hr'⟩
   obtain⟨u,hu,hr'⟩:=key;exact⟨u,by simpa using hu,hr'⟩
theorem NJ {α:Type}(xs:List α)(k:Nat)(h:k<=xs.length):splice xs k []=xs:=by simp[splice]
theorem agB (t t' ty e:TypeId)(i:TypeInfo)(ht:P.underlying t=some (.slice e))(hi:P.info? e=some i)(kk off m c:Nat)(cur:Array Value)(tg:TypeId)(hg:w.heap[kk]? = some (.cells cur tg (0,0)))
 (ad:Addr) (k c':Nat) (us:List Value) (hl:us.length=gm k m*i.size) (hus:∀j u,us[j]? = some u->w.cell? (ad.add j)=some u) (h1:∀u∈us,u.oneCell'=true) (hfit:off+us.length<=cur.size) :
 (ni #[t,t'] ty #[.slice (some ⟨kk,off,none⟩) m c,.slice (some ad) k c']).run P w = .ok (goInt (gm k m:Nat)) (w.setRow kk (splice cur.toList off us).toArray):=by
 have hf:=run_firstCells_some (P:=P) w i.size (gm k m) ad k c' us hl hus;have hst:=run_storeCells_at P kk off tg us 0 cur w hg (by simpa using hfit) h1;rw[Ap]at hst;simp[ni,run_underlying ht,sizeOf,typeInfo,hi,rX,hf,hst]
theorem agQ (h:GX E I ρ n st a w){v:Value}{x:AV}{sz m:Nat}{p:Prop}{ys:List (List Cell)}(hv:GV I ρ v x)(hs:zy sz (truncS m x) st.bx=some (p,ys))(hp:p) :
 ∃xb kx xc,v = .slice xb kx xc/\gm ys.length m=gm kx m/\Src I w (.slice xb ys.length xc) sz ys:=by
 have other:truncS m x=x->∃xb kx xc,v = .slice xb kx xc/\gm ys.length m=gm kx m/\Src I w (.slice xb ys.length xc) sz ys:=by intro e;rw[e]at hs;have hS:=src_ok h hv hs hp;obtain⟨b,cap,hvv,hr⟩:=hS;exact⟨b,ys.length,cap,hvv,rfl,b,cap,rfl,hr⟩
 rcases x with c|_|_
 ·cases c
  case sub b lo n' c sz'=>obtain⟨k,cap,ad,c',h1,h2,h3,h4,h5⟩:=hv;subst h2;have hg:GV I ρ (.slice ad (min n' m) c') (.one (.sub b lo (min n' m) c sz')):=⟨k,cap,ad,c',h1,rfl,aI,h4,h5⟩;have hS:=src_ok h hg hs hp;obtain⟨b',cap',hvv,hr⟩:=hS;simp only[Value.slice.injEq]at hvv;obtain⟨rfl,e2,rfl⟩:=hvv;refine⟨ad,n',c',rfl,?_,ad,c',rfl,hr⟩;show min ys.length m=min n' m;omega
  all_goals exact other rfl
 all_goals exact other rfl
theorem agG {o:Oper}{sz:Nat}{d x:pR}(h:GX E I ρ n st a w)(hc:Jn P n o.op sz d x=true)(hd:(d.ev st.tm).g=true)(hx:(x.ev st.tm).g=true)
 (kF:(H8 sz (fK st.tm d) (fK st.tm x) st.bx).vc):xm P E n o a w (st.vJ (H8 sz (fK st.tm d) (fK st.tm x) st.bx).sets) (H8 sz (fK st.tm d) (fK st.tm x) st.bx).v:=by
 unfold Jn at hc;split at hc
 ·rename_i d' x' t t' he;simp only[ah,aC]at hc;obtain⟨⟨⟨c1,c2⟩,ht⟩,h0⟩:=hc;have g1:=oK h c1 hd;have g2:=oK h c2 hx;obtain⟨e,i,hte,hi,rfl⟩:=DT ht;have fin:∀{v:Value} {w':World},(ni #[t,t'] o.type #[a.eval d',a.eval x']).run P w = .ok v w'->(execOp a.eval o).run P w = .ok (.value v) w':=by
   intro v w' hr;simp only[execOp,he,resolve,invoke,builtin,dN,dw,bQ,lU,bT,jP,hr]
  unfold H8 at kF⊢;split at kF
  ·rename_i b lo m c0 sz' hsb;split at kF
   ·rename_i p ys hsrc;split at kF
    ·rename_i DL es hb;obtain⟨hp,rfl,rfl,hlo⟩:=kF;obtain⟨xb0,kx,xc0,aol,hmk,hsrc'⟩:=agQ h g2 hsrc hp;have hys:∀y,y∈ys->y.length=i.size:=(by obtain⟨_,_,_,_,h4,_⟩:=hsrc';exact h4);obtain⟨xb,xc,us,hxv,L8,hus,hxn,hdx⟩:=NL hsrc' h0;cases hxv;obtain⟨kk,cap,ad0,c,hr0,hsv,hnc,hcc,_,hcap⟩:=Nc g1 hsb;by_cases hm0:gm ys.length m=0
     ·have hr:=JK (P:=P) (w:=w) t t' o.type e i hte hi ad0 m c xb0 kx xc0 (hmk.symm.trans hm0);rw[<- aol,<- hsv]at hr;have htk:ys.take m=[]:=by
       apply gJ;rw[iK,Ej];exact hm0
      rw[htk,NJ _ _ hlo];refine⟨_,w,I,ρ,.inl (fin hr),?_,λ_=>by rw[hm0];exact Ce _ _⟩;show GX E I ρ n (st.Am b (.dat i.size es)) a w;rw[Oi hb];exact h
     ·have hmin:gm ys.length m<=ys.length/\gm ys.length m<=m:=⟨Nat.min_le_left _ _,Nat.min_le_right _ _⟩;have Pg:=hcap (.inl aI);subst Pg;obtain⟨ad,had⟩:∃ad,xb0=some ad:=by
       cases hq:xb0 with
       |none=>have:=hxn hq;subst this;exact eF rfl hm0
       |some ad=>exact⟨ad,rfl⟩
      subst had;have htl:(ys.take m).length=gm ys.length m:=(by rw[iK,Ej]);have hmul:gm ys.length m*i.size<=ys.length*i.size:=aX _ hmin.1;have hul:(us.take (gm ys.length m*i.size)).length=gm ys.length m*i.size:=(by simp;omega);have hdt:DC I (us.take (gm ys.length m*i.size)) i.size (ys.take m):=by
       refine⟨λj u hu=>?_,λi' j cc G8=>?_⟩
       ·rw[dJ]at hu;split at hu
        ·exact hdx.one _ u hu
        ·cases hu
       ·have hi':=mY G8;rw[htl]at hi';have amz:(ys.getD i' [])[j]? = some cc:=by
         rw[<- G8];congr 1;simp only[dI];rw[dJ,aA aI]
        obtain⟨u,hu,hr⟩:=hdx.rd i' j cc amz;have hyi:=mY amz;have hj:j<i.size:=(by rw[<- hys (ys.getD i' []) (by simp[dI,aB hyi])];exact(aS.1 amz).1);have:(i'+1)*i.size<=gm ys.length m*i.size:=aX _ hi';rw[dL]at this;exact⟨u,by rw[dJ,aA aI];exact hu,hr⟩
      obtain⟨cs,tg,hw,hs,hg⟩:=Zq h hb hr0 h0 hlo (ys:=ys.take m) (us:=us.take (gm ys.length m*i.size)) (by rw[htl];omega) aI (λy hy=>hys y (gG hy)) (by rw[hul,htl]) hdt;have Qm:(lo+gm ys.length m)*i.size<=cap*i.size:=aX _ aI;rw[dL]at Qm;have hr:=agB (P:=P) (w:=w) t t' o.type e i hte hi kk (lo*i.size) m c cs tg hw ad kx xc0 (us.take (gm ys.length m*i.size)) (hmk▸hul)
       (λj u hu=>by
        rw[dJ]at hu;split at hu
        ·exact hus ad rfl j u hu
        ·cases hu)
       (λu hu=>by obtain⟨j,hj⟩:=vW (gG hu);exact hdx.one j u hj) (by rw[hul,hs];exact Qm)
      rw[<- aol,<- hsv]at hr;exact⟨_,_,I,ρ,.inl (fin hr),hg,λ_=>by rw[<- hmk];exact Ce _ _⟩
    ·exact kF.elim
   ·exact kF.elim
  ·exact kF.elim
 ·cases hc
def Qd (P:Program)(n:Nat)(op:Op)(sz:Nat)(zs:List Cell)(x:pR):Bool:=
 match op with
 | .call { callee:=.builtin .clear,args:=⟨[x']⟩,argTypes:=⟨[t]⟩ }=>lJ n x' x&&decide (0<sz)&&zs.length==sz&&(match P.underlying t with
   |some (.slice e)=>(match P.info? e with|some i=>i.size==sz&&(match i.zero with|some z=>z.cells.size==sz&&LH z.cells.toList zs|none=>false)|none=>false)
   |_=>false)
 |_=>false
theorem Tt {zs:List Cell}{z:Array Value}{sz m:Nat}(hz:LH z.toList zs=true)(hzs:z.size=sz)(hl:zs.length=sz)(h0:0<sz) :
 (di z m).toList.length=m*sz/\DC I (di z m).toList sz (bW m zs):=by
 have hsz:(di z m).size=m*sz:=by simp[di,hzs]
 refine⟨by simpa using hsz,?_⟩;have rc:=SQ (I:=I) (N:=m*sz) (m:=m) hz hl h0 (aF _) (cs:=(wz (m*sz)).map (z[· % z.size]!)) rfl;have he:(di z m)=(wz (m*sz)).map (z[· % z.size]!):=by unfold di;rw[hzs]
 rw[he];exact⟨λj u hu=>rc.1 j u (by rw[xu]at hu;exact hu),λi' j c hc=>by obtain⟨u,hu,hr⟩:=rc.2 i' j c hc;exact⟨u,by rw[xu];exact hu,hr⟩⟩
theorem agF {o:Oper}{sz:Nat}{zs:List Cell}{x:pR}(h:GX E I ρ n st a w)(hc:Qd P n o.op sz zs x=true)(hx:(x.ev st.tm).g=true)
 (kF:(H7 sz zs (fK st.tm x) st.bx).vc):xm P E n o a w (st.vJ (H7 sz zs (fK st.tm x) st.bx).sets) (H7 sz zs (fK st.tm x) st.bx).v:=by
 unfold Qd at hc;split at hc
 ·rename_i x' t he;simp only[ah,aC,aY]at hc;obtain⟨⟨⟨c1,h0⟩,hzl⟩,ht⟩:=hc;have g1:=oK h c1 hx;split at ht
  ·rename_i e hte;split at ht
   ·rename_i i hi;simp only[ah,aY]at ht;obtain⟨hisz,hz⟩:=ht;split at hz
    ·rename_i z hzero;simp only[ah,aY]at hz;obtain⟨hzs,hzd⟩:=hz;have fin:∀{v:Value} {w':World},(Ey #[t] o.type #[a.eval x']).run P w = .ok v w'->(execOp a.eval o).run P w = .ok (.value v) w':=by
      intro v w' hr;simp only[execOp,he,resolve,invoke,builtin,dN,dw,bQ,lU,bT,jP,hr]
     unfold H7 at kF⊢;split at kF
     ·rename_i b lo m c0 sz' hsb;split at kF
      ·rename_i DL es hb;obtain⟨rfl,rfl,hlo⟩:=kF;obtain⟨kk,cap,ad0,c,hr0,hsv,hnc,hcc,_,hcap⟩:=Nc g1 hsb;have aoi:∀{ρ':Ren},GV I ρ' (.tuple #[]) (.AA []):=λ{ρ'}=>⟨#[],rfl,rfl,λj v p hv hp=>by simp at hp⟩;by_cases hm0:m=0
       ·subst hm0;rw[List.replicate_zero,NJ _ _ hlo];refine⟨.tuple #[],w,I,ρ,.inl (fin ?_),?_,λ_=>aoi⟩
        ·rw[hsv];cases ad0<;>simp[Ey,run_underlying hte]
        ·show GX E I ρ n (st.Am b (.dat DL es)) a w;rw[Oi hb];exact h
       ·have Pg:=hcap (.inl aI);subst Pg;obtain⟨amK,akO⟩:=Tt (I:=I) (m:=m) hzd hzs hzl h0;obtain⟨cs,tg,hw,hs,hg⟩:=Zq h hb hr0 h0 hlo (ys:=bW m zs) (us:=(di z.cells m).toList) (by simp;omega) aI (λy hy=>by rw[vY hy,hzl]) (by simpa using amK) akO;have Qm:(lo+m)*DL<=cap*DL:=aX _ aI;rw[dL]at Qm;have hst:=run_storeCells_at P kk (lo*DL) tg (di z.cells m).toList 0 cs w hw (by rw[amK];simpa[hs]using Qm) (λu hu=>by obtain⟨j,hj⟩:=vW hu;exact akO.one j u hj);rw[Ap]at hst;obtain⟨m',rfl⟩:∃m',m=m'+1:=⟨m-1,aI⟩;refine⟨.tuple #[],_,I,ρ,.inl (fin ?_),hg,λ_=>aoi⟩;rw[hsv];simp[Ey,run_underlying hte,zeroValue,typeInfo,hi,hzero,hst]
      ·exact kF.elim
     ·exact kF.elim
    ·cases hz
   ·cases ht
  ·cases ht
 ·cases hc
theorem Xf (t ty e tg:TypeId)(i:TypeInfo)(ht:P.underlying t=some (.slice e))(hi:P.info? e=some i)
 (g off sLen sCap:Nat) (cur:Array Value) (hg:w.heap[g]? = some (.cells cur tg (0,0)))
 (ad:Addr) (m c:Nat) (news:List Value) (hl:news.length=m*i.size) (hnews:∀j u,news[j]? = some u->w.cell? (ad.add j)=some u) (h1:∀u∈news,u.oneCell'=true)
 (hroom:sLen+m<=sCap) (hfit:off+sLen*i.size+news.length<=cur.size) :
 (iM #[t,t] ty #[.slice (some ⟨g,off,none⟩) sLen sCap,.slice (some ad) m c]).run P w =
  .ok (.slice (some ⟨g,off,none⟩) (sLen+m) sCap) (w.setRow g (splice cur.toList (off+sLen*i.size) news).toArray):=by
 have hf:=run_firstCells_some (P:=P) w i.size m ad m c news hl hnews;have hst:=run_storeCells_at P g (off+sLen*i.size) tg news 0 cur w hg (by simpa using hfit) h1;rw[Ap]at hst;simp[iM,run_underlying ht,sizeOf,typeInfo,hi,rX,hroom,hf,Addr.uw,hst]
theorem agE {o:Oper}{l sz bytes:Nat}{s x:pR}(h:GX E I ρ n st a w)(hc:Fa P n o.op sz bytes s x=true)(hm:E.m<=l)(hs:(s.ev st.tm).g=true)(hx:(x.ev st.tm).g=true)
 (kF:(H6 l sz bytes (fK st.tm s) (fK st.tm x) st.bx).vc):xm P E n o a w (st.vJ (H6 l sz bytes (fK st.tm s) (fK st.tm x) st.bx).sets) (H6 l sz bytes (fK st.tm s) (fK st.tm x) st.bx).v:=by
 unfold Fa at hc;split at hc
 ·rename_i s' x' t t' he;simp only[ah,aY,aC]at hc;obtain⟨⟨⟨⟨c1,c2⟩,rfl⟩,h0⟩,ht⟩:=hc;have g1:=oK h c1 hs;have g2:=oK h c2 hx;split at ht
  ·rename_i e hte;split at ht
   ·rename_i i hi;simp only[ah,aY]at ht;obtain⟨⟨rfl,rfl⟩,hz⟩:=ht;split at hz
    ·rename_i z hzero;simp only[ah,aY]at hz;obtain⟨hzs,hz1⟩:=hz;have fin:∀{v:Value} {w':World},(iM #[t,t] o.type #[a.eval s',a.eval x']).run P w = .ok v w'->(execOp a.eval o).run P w = .ok (.value v) w':=by
      intro v w' hr;simp only[execOp,he,resolve,invoke,builtin,dN,dw,bQ,lU,bT,jP,hr]
     unfold H6 at kF⊢;split at kF
     ·rename_i p ys b lo m c sz' hsrc e1;split at kF
      ·rename_i DL es hb;obtain⟨kk,cap,ad0,c',hr0,hsv,hnc,hcc,hcx,hcap⟩:=Nc (c:=some c) (b:=b) (lo:=lo) (m:=m) (sz:=sz') g1 (by rw[e1];rfl);have:=hcx c rfl;subst this;split at kF
       ·rename_i hroom;rw[aA hroom];obtain⟨hp,rfl,rfl,hlo⟩:=kF;have hsrc':=src_ok h g2 hsrc hp;have hys:∀y,y∈ys->y.length=i.size:=(by obtain⟨_,_,_,_,h4,_⟩:=hsrc';exact h4);obtain⟨xb,xc,us,hxv,L8,hus,hxn,hdx⟩:=NL hsrc' h0;by_cases hm0:ys.length=0
        ·have hy0:ys=[]:=gJ hm0;subst hy0;rw[NJ _ _ hlo];have hr:=Ho (P:=P) (w:=w) t o.type e i hte hi ad0 m c' hnc xb xc;rw[iU]at hxv;rw[<- hxv,<- hsv]at hr;refine⟨_,w,I,ρ,.inl (fin hr),?_,λ_=>⟨kk,cap,ad0,c',hr0,hsv,by simpa using hnc,hcc,(λc0 hc0=>by cases hc0;rfl),hcap⟩⟩;show GX E I ρ n (st.Am b (.dat i.size es)) a w;rw[Oi hb];exact h
        ·have Pg:=hcap (.inl aI);subst Pg;obtain⟨ad,had⟩:∃ad,xb=some ad:=by
          cases hq:xb with
          |none=>exact eF (by rw[hxn hq];rfl) hm0
          |some ad=>exact⟨ad,rfl⟩
         subst had;obtain⟨cs,tg,hw,hss,hg⟩:=Zq h hb hr0 h0 hlo (ys:=ys) (us:=us) aI aI hys L8 hdx;have Qm:(lo+m+ys.length)*i.size<=cap*i.size:=aX _ aI;simp only[dL]at Qm;have hr:=Xf (P:=P) (w:=w) t o.type e tg i hte hi kk (lo*i.size) m c' cs hw ad ys.length xc us L8 (hus ad rfl) (λu hu=>by obtain⟨j,hj⟩:=vW hu;exact hdx.one j u hj) hroom (by rw[L8,hss];exact Qm);rw[<- hxv,<- hsv,<- dL]at hr;exact⟨_,_,I,ρ,.inl (fin hr),hg,λ_=>⟨kk,cap,_,c',hr0,rfl,hroom,hcc,(λc0 hc0=>by cases hc0;rfl),λ_=>rfl⟩⟩
       ·rename_i hroom;rw[au hroom];obtain⟨hp,rfl,rfl,hlo,hl,hbig⟩:=kF;have hsrc':=src_ok h g2 hsrc hp;have hys:∀y,y∈ys->y.length=i.size:=(by obtain⟨_,_,_,_,h4,_⟩:=hsrc';exact h4);obtain⟨xb,xc,us,hxv,L8,hus,hxn,hdx⟩:=NL hsrc' h0;have hok:=h.bx.ok b;rw[hb]at hok;obtain⟨kk',cap',hr',hle,hcm,hes,hcs⟩:=hok;rw[hr0]at hr';simp only[aH,dF]at hr';obtain⟨rfl,rfl⟩:=hr';have hmul:(m+ys.length)*(i.bytes+i.size+1)=(m+ys.length)*i.bytes+(m+ys.length)*i.size+(m+ys.length):=(by rw[AP,AP,xy]);have hbytes:(m+ys.length)*i.bytes<=140737488355328:=(by omega);have h63:m+ys.length<=maxLen:=(by simp only[maxLen];omega);have hm0:ys.length≠0:=(by omega);obtain⟨ad,had⟩:∃ad,xb=some ad:=by
         cases hq:xb with
         |none=>exact eF (by rw[hxn hq];rfl) hm0
         |some ad=>exact⟨ad,rfl⟩
        subst had;have hzc:∀(q:Nat) (j:Nat) (u:Value),(di z.cells q).toList[j]? = some u->u.oneCell'=true:=by
         intro q j u hu;simp only[di,xu,qp]at hu;by_cases hj:j<q*z.cells.size
         ·rw[qK,aA hj]at hu;simp only[kL,aH]at hu;have hlt:j%z.cells.size<z.cells.size:=xg _ aI;rw[getElem!_pos z.cells _ hlt]at hu;rw[<- hu];exact bf.1 hz1 _ mD
         ·rw[qK,au hj]at hu;cases hu
        have hl':=JW hl;have hsub:∀y,y∈(es.drop lo).take m->y.length=i.size:=λy hy=>hes y (lq (gG hy));have hsl:((es.drop lo).take m).length=m:=(by simp;omega);have fresh:∀(old:Nat) (olds:List Value),old<m+ys.length->olds.length=m*i.size->DC I olds i.size ((es.drop lo).take m) ->
         GX E I (ρ.set l w.heap.size (grownCap w (m+ys.length) old e)) n (st.Am l (.dat i.size ((es.drop lo).take m++ys))) a
          (w.drew.alloc (.cells (olds.toArray++us.toArray++di z.cells (grownCap w (m+ys.length) old e-(m+ys.length))) e)):=by
         intro old olds ho hol hdo;have hge:=grownCap_ge w (m+ys.length) old e;have hcm:grownCap w (m+ys.length) old e<=maxLen:=grownCap_le_maxLen w _ old e h63;have hdc:=((hdo.append hdx (by rw[hsl];exact hol)).more (hzc (grownCap w (m+ys.length) old e-(m+ys.length)))).aeY (cs:=olds.toArray++us.toArray++di z.cells (grownCap w (m+ys.length) old e-(m+ys.length))) mD;refine Ob h.drew hl' hm _ e _ i.size ((es.drop lo).take m++ys) ?_ (by rw[bZ,hsl];exact hge) hcm (λx hx=>?_) hdc.1 hdc.2
         ·simp only[yV,o6,size_zeroCells,hzs,hol,L8,<- dL]
          congr 1
          omega
         ·rcases bG.1 hx with h1|h1
          ·exact hsub x h1
          ·exact hys x h1
        have hfit:=growslice_fits (need:=m+ys.length) (old:=c') (bytes:=i.bytes) aI hbytes;by_cases hc0:c'=0
        ·
         have amH:m=0:=(by omega);subst amH;subst hc0;have hf:=fresh 0 [] aI mD ⟨mD,mD⟩;simp only[fV,uT]at hf h63 hbytes hfit;cases ad0 with
         | none=>have hr:=run_append_nil (P:=P) w t o.type e i z hte hi hzero ad ys.length xc us L8 (hus ad rfl) aI (by simp only[maxLen]at h63;omega) aI;rw[<- hxv,<- hsv]at hr;refine⟨_,_,I,_,.inl (fin hr),hf,λ_=>⟨w.heap.size,_,_,_,Ren.pq _ _ _ _,by rw[fV],by rw[fV];exact grownCap_ge w ys.length 0 e,aF _,λ_=>rfl⟩⟩
         | some q=>have hr:=run_append_grow (P:=P) w t o.type e i z hte hi hzero q 0 0 [] mD mD ad ys.length xc us L8 (hus ad rfl) aI (by simp only[maxLen]at h63;omega) (by simpa using hfit);rw[<- hxv,<- hsv]at hr;simp only[fV,uT]at hr;refine⟨_,_,I,_,.inl (fin hr),hf,λ_=>⟨w.heap.size,_,_,_,Ren.pq _ _ _ _,by rw[fV],by rw[fV];exact grownCap_ge w ys.length 0 e,aF _,λ_=>rfl⟩⟩
        ·have Pg:=hcap (.inl hc0);subst Pg;have hcap0:cap≠0:=(by omega);obtain⟨cs,tg,hw,hss,ho,hrd⟩:=hcs hcap0;have hmn:(lo+m)*i.size<=cs.size:=(by rw[hss];exact aX _ aI);rw[dL]at hmn;have aaI:((cs.toList.drop (lo*i.size)).take (m*i.size)).length=m*i.size:=(by simp;omega);have holds:∀(j:Nat) (u:Value),((cs.toList.drop (lo*i.size)).take (m*i.size))[j]? = some u->w.cell? ((⟨kk,lo*i.size,none⟩:Addr).add j)=some u:=λj u hu=>by
          rw[dJ]at hu;split at hu
          ·rw[Addr.uw];rw[gW]at hu;simp at hu;simp[iy,hw,hu]
          ·cases hu
         have hd1:DC I ((cs.toList.drop (lo*i.size)).take (m*i.size)) i.size ((es.drop lo).take m):=by
          refine⟨λj u hu=>?_,λi' j c2 hc2=>?_⟩
          ·rw[dJ]at hu;split at hu
           ·rw[gW]at hu;exact ho _ u (by simpa using hu)
           ·cases hu
          ·have hi':=mY hc2;rw[hsl]at hi';have hc3:(es.getD (lo+i') [])[j]? = some c2:=by
            rw[<- hc2];congr 1;simp only[dI];rw[dJ,aA hi',gW]
           obtain⟨u,hu,hr⟩:=hrd (lo+i') j c2 hc3;have hi2:=mY hc3;have hj:j<i.size:=(by rw[<- hes (es.getD (lo+i') []) (by simp[dI,aB hi2])];exact(aS.1 hc3).1);have:(i'+1)*i.size<=m*i.size:=aX _ hi';rw[dL]at this;refine⟨u,?_,hr⟩;rw[dJ,aA aI,gW];rw[dL]at hu;rw[<- tZ];simpa using hu
         have hr:=run_append_grow (P:=P) w t o.type e i z hte hi hzero ⟨kk,lo*i.size,none⟩ m c' _ aaI holds ad ys.length xc us L8 (hus ad rfl) aI (by simp only[maxLen]at h63;omega) hfit;rw[<- hxv,<- hsv]at hr;have hf:=fresh c' _ aI aaI hd1;exact⟨_,_,I,_,.inl (fin hr),hf,λ_=>⟨w.heap.size,_,_,_,Ren.pq _ _ _ _,rfl,grownCap_ge w _ c' e,aF _,λ_=>rfl⟩⟩
      ·exact kF.elim
     ·exact kF.elim
    ·cases hz
   ·cases ht
  ·cases ht
 ·cases hc
end
end
section
section
variable {P:Program} {E:Env P} {I:IH} {ρ:Ren} {n:Nat} {st:gZ} {a:Act} {w:World}
theorem agb : xw.lookup "internal/bytealg.abigen_runtime_cmpstring" = none:=lT
theorem agc : yA.lookup "internal/bytealg.abigen_runtime_cmpstring" = none:=lT
theorem agd : zi.lookup "internal/bytealg.abigen_runtime_cmpstring" = none:=lT
theorem age : Ez.lookup "internal/bytealg.abigen_runtime_cmpstring" = some Extern.BytealgCompare.compare:=lT
theorem aiH : xw.lookup "" = none:=lT
theorem aiI : xw.lookup "slices.overlaps" = none:=lT
theorem aiJ : yA.lookup "slices.overlaps" = none:=lT
theorem aiK : zi.lookup "slices.overlaps" = some yH:=lT
def Yz (P:Program)(n:Nat)(op:Op)(x y:pR):Bool:=
 match op with
 |.call { callee:=.value (.func f),args:=⟨[x',y']⟩,argTypes:=_ }=>lJ n x' x&&lJ n y' y&&(match P.funcs[f]? with|some fn=>fn.name == "internal/bytealg.abigen_runtime_cmpstring" && fn.origin == "" && fn.body.isNone|none=>false)
 |_=>false
theorem afD {o:Oper}{x y:pR}(h:GX E I ρ n st a w)(hc:Yz P n o.op x y=true)(hx:(x.ev st.tm).g=true)(hy:(y.ev st.tm).g=true)
 (kF:(Qe (fK st.tm x) (fK st.tm y)).vc):xQ P E n o a w st (Qe (fK st.tm x) (fK st.tm y)).v:=by
 unfold Yz at hc;split at hc
 ·rename_i f x' y' ts he;simp only[ah]at hc;obtain⟨⟨c1,c2⟩,hf⟩:=hc;have g1:=oK h c1 hx;have g2:=oK h c2 hy;split at hf
  ·rename_i fn hfn;simp only[ah,aY]at hf;obtain⟨⟨hname,XH⟩,hbody⟩:=hf;have hn:wL fn=none:=by
    simp only[wL,hname,XH,agb,aiH];rfl
   have hd:yI fn=some Extern.BytealgCompare.compare:=by simp only[yI,hname,agc,agd,age];rfl
   unfold Qe at kF⊢;split at kF
   ·rename_i s t e1 e2;rw[e1]at g1;rw[e2]at g2;obtain⟨v1,_⟩:=JG g1;obtain⟨v2,_⟩:=JG g2;have hr:=run_callFunc_extern (P:=P) hfn (by rw[hname];rfl) hbody hn hd #[.string ⟨⟨s⟩⟩,.string ⟨⟨t⟩⟩] w;rw[Lib.run_compareString]at hr;refine xm.val h (v:=.int .i64 (jZ s t)) ?_ (Ce _ _);have hx2:a.eval (.func f) = .func (.func f) #[] #[]:=rfl;simp only[execOp,he,resolve,AB,invoke,dN,dw,bQ,hx2,lU,bT,jP,v1,v2];simpa using hr
   ·exact kF.elim
  ·cases hf
 ·cases hc
def Ve (P:Program)(n:Nat)(op:Op)(ng:Bool)(x:pR):Bool:=
 match op with
 |.binOp b t x' (.const .nilIface) _=>(match b with|.eql=> !ng|.neq=>ng|_=>false)&&(match P.underlying t with|some (.interface _)=>true|_=>false)&&lJ n x' x
 |_=>false
theorem ac9 {o:Oper}{ng:Bool}{x:pR}(h:GX E I ρ n st a w)(hc:Ve P n o.op ng x=true)(hx:(x.ev st.tm).g=true)
 (kF:(Lc ng (fK st.tm x)).vc):xQ P E n o a w st (Lc ng (fK st.tm x)).v:=by
 unfold Ve at hc;split at hc
 ·rename_i b t x' t' he;simp only[ah]at hc;obtain⟨⟨hb,ht⟩,h1⟩:=hc;have g1:=oK h h1 hx;unfold Lc at kF⊢;split at kF
  ·rename_i g e1;rw[e1]at g1;have g1:if g=true then ∃t p,a.eval x' = .iface t p else a.eval x' = .nilIface:=g1
   split at ht
   ·rename_i ms hu;have ev:a.eval (.const .nilIface) = .nilIface:=rfl;have hq:(eqGuard b t x' (.const .nilIface) (a.eval x') .nilIface).run P w = .ok () w:=by
     cases g with
     | true=>obtain⟨t1,p1,g1⟩:=g1;rw[g1];cases b<;>rfl
     | false=>have g1:a.eval x' = .nilIface:=g1;rw[g1];cases b<;>cases x'<;>first|rfl|simp[eqGuard]
    have hd:∀d,(Bo (d+1) t (a.eval x') .nilIface).run P w = .ok (!g) w:=λd=>by
     cases g with
     | true=>obtain⟨t1,p1,g1⟩:=g1;rw[g1];simp[Bo,run_underlying hu]
     | false=>have g1:a.eval x' = .nilIface:=g1;rw[g1];simp[Bo,run_underlying hu]
    have he':(Op.equal t (a.eval x') .nilIface).run P w = .ok (!g) w:=hd 9999;have an4:∀c,(c = .eql\/c = .neq)->(binOp c t (a.eval x') .nilIface).run P w = .ok (.bool (if c = .neq then g else !g)) w:=λc hc=>by
     cases g with
     | true=>obtain⟨t1,p1,g1⟩:=g1;rw[g1]at he'⊢;rcases hc with rfl|rfl<;>simp[binOp,he']
     | false=>have g1:a.eval x' = .nilIface:=g1;rw[g1]at he'⊢;rcases hc with rfl|rfl<;>simp[binOp,he']
    simp only[FR.ok];cases b<;>simp at hb
    ·subst hb;refine xm.val h ?_ (Jt _);simp[execOp,he,ev,hq,an4 .eql (.inl rfl)]
    ·subst hb;refine xm.val h ?_ (Jt _);simp[execOp,he,ev,hq,an4 .neq (.inr rfl)]
   ·cases ht
  ·exact kF.elim
 ·cases hc
theorem agf : xw.lookup "internal/bytealg.IndexByteString" = none:=lT
theorem agh : yA.lookup "internal/bytealg.IndexByteString" = none:=lT
theorem agi : zi.lookup "internal/bytealg.IndexByteString" = none:=lT
theorem agj : Ez.lookup "internal/bytealg.IndexByteString" = some Extern.BytealgIndexByte.indexByte:=lT
def YB (P:Program)(n:Nat)(op:Op)(x y:pR):Bool:=
 match op with
 |.call { callee:=.value (.func f),args:=⟨[x',y']⟩,argTypes:=_ }=>lJ n x' x&&lJ n y' y&&(match P.funcs[f]? with|some fn=>fn.name == "internal/bytealg.IndexByteString" && fn.origin == "" && fn.body.isNone|none=>false)
 |_=>false
theorem af1 {o:Oper}{x y:pR}(h:GX E I ρ n st a w)(hc:YB P n o.op x y=true)(hx:(x.ev st.tm).g=true)(hy:(y.ev st.tm).g=true)
 (kF:(Qp (fK st.tm x) (fK st.tm y)).vc):xQ P E n o a w st (Qp (fK st.tm x) (fK st.tm y)).v:=by
 unfold YB at hc;split at hc
 ·rename_i f x' y' ts he;simp only[ah]at hc;obtain⟨⟨c1,c2⟩,hf⟩:=hc;have g1:=oK h c1 hx;have g2:=oK h c2 hy;split at hf
  ·rename_i fn hfn;simp only[ah,aY]at hf;obtain⟨⟨hname,XH⟩,hbody⟩:=hf;have hn:wL fn=none:=by
    simp only[wL,hname,XH,agf,aiH];rfl
   have hd:yI fn=some Extern.BytealgIndexByte.indexByte:=by simp only[yI,hname,agh,agi,agj];rfl
   unfold Qp at kF⊢;split at kF
   ·rename_i s k c e1 e2;rw[e1]at g1;rw[e2]at g2;have hk:k = .u8:=kF;subst hk;obtain⟨v1,_⟩:=JG g1;have v2:=zQ g2;have hr:=run_callFunc_extern (P:=P) hfn (by rw[hname];rfl) hbody hn hd #[.string ⟨⟨s⟩⟩,.int .u8 c] w;rw[Lib.run_indexByteString]at hr;refine xm.val h (v:=.int .i64 (xB s c.toNat.toUInt8)) ?_ (Ce _ _);have hx2:a.eval (.func f) = .func (.func f) #[] #[]:=rfl;simp only[execOp,he,resolve,AB,invoke,dN,dw,bQ,hx2,lU,bT,jP,v1,v2];simpa using hr
   ·exact kF.elim
  ·cases hf
 ·cases hc
def acC (P:Program)(n:Nat)(op:Op)(x y:pR):Bool:=
 match op with
 | .call { callee:=.value (.func f),args:=⟨[x',y']⟩,argTypes:=_ }=>lJ n x' x&&lJ n y' y&&(match P.funcs[f]? with
   | some fn=>fn.origin == "slices.overlaps" && fn.body.isNone && !(fn.name == "runtime.NumGoroutine")&&(xw.lookup fn.name).isNone&&(yA.lookup fn.name).isNone&&(zi.lookup fn.name).isNone&&(Ez.lookup fn.name).isNone &&
     (match fn.params,fn.resultTypes with
      |⟨[t,t']⟩,⟨[_]⟩=>t==t'&&(match P.underlying t with|some (.slice e)=>(match P.info? e with|some _=>true|none=>false)|_=>false)
      |_,_=>false)
   |none=>false)
 |_=>false
theorem ahJ (h:GX E I ρ n st a w){b kk cap sz:Nat}{es:List (List Cell)}(hb:st.bx b = .dat sz es)(hr:ρ b=some (kk,cap))(hc0:cap≠0):∃cs tg,w.heap[kk]? = some (.cells cs tg (0,0))/\cs.size=cap*sz:=by have hok:=h.bx.ok b;rw[hb]at hok;obtain⟨kk',cap',hr',hle,hcm,hes,hcs⟩:=hok;rw[hr]at hr';simp only[aH,dF]at hr';obtain⟨rfl,rfl⟩:=hr';obtain⟨cs,tg,hw,hs,_⟩:=hcs hc0;exact⟨cs,tg,hw,hs⟩
theorem ai4 {o:Oper}{x y:pR}(h:GX E I ρ n st a w)(hc:acC P n o.op x y=true)(hx:(x.ev st.tm).g=true)(hy:(y.ev st.tm).g=true)
 (kF:(Zc (fK st.tm x) (fK st.tm y) st.bx).vc):xQ P E n o a w st (Zc (fK st.tm x) (fK st.tm y) st.bx).v:=by
 unfold acC at hc;split at hc
 ·rename_i f x' y' ts he;simp only[ah]at hc;obtain⟨⟨c1,c2⟩,hf⟩:=hc;have g1:=oK h c1 hx;have g2:=oK h c2 hy;split at hf
  ·rename_i fn hfn;simp only[ah,aY,kW,vX]at hf;obtain⟨⟨⟨⟨⟨⟨⟨XH,hbody⟩,hname⟩,n1⟩,n2⟩,n3⟩,n4⟩,hp⟩:=hf;split at hp
   ·rename_i t t' tr hpar hres;simp only[ah,aY]at hp;obtain⟨rfl,ht⟩:=hp;split at ht
    ·rename_i e hte;split at ht
     ·rename_i i hi;have hn:wL fn=none:=by
       simp only[wL,XH,n1,aiI];rfl
      have hd:yI fn=some (yH #[t,t] #[tr]):=by simp only[yI,XH,n2,n3,n4,aiJ,aiK,hpar,hres];rfl
      unfold Zc at kF⊢;split at kF
      ·rename_i b lo m c sz b' lo' m' c' sz' e1 e2;obtain⟨kk,cap,ad,cc,hr,hv,hm,hcc,_,ha⟩:=Nc g1 e1;obtain⟨kk',cap',ad',cc',hr',hv',hm',G8,_,ha'⟩:=Nc g2 e2;split at kF
       ·rename_i s1 es s2 es' hb hb';obtain⟨hbb,hs2,hm0,ari⟩:b≠b'/\s2≠0/\0<m/\0<m':=kF;have hov:(yH #[t,t] #[tr] #[.slice ad m cc,.slice ad' m' cc']).run P w = .ok (.bool false) w:=by
         obtain⟨cs,tg,hw,hs⟩:=ahJ h hb hr aI;obtain⟨cs',tg',hw',hs'⟩:=ahJ h hb' hr' aI;have e1:=ha (.inl aI);have e2:=ha' (.inl aI);subst e1 e2;have hne:kk≠kk':=λhk=>hbb (by subst hk;exact h.bx.inj b b' kk (by rw[hb];exact⟨cap,hr,aI⟩) (by rw[hb'];exact⟨cap',hr',aI⟩))
         have h0:cs'.size≠0:=(by rw[hs'];exact Nat.mul_ne_zero aI hs2);exact Lib.run_overlaps_apart w t tr e hte i.size (λw=>by simp[sizeOf,typeInfo,hi]) ⟨kk,lo*sz,none⟩ ⟨kk',lo'*sz',none⟩ m cc m' cc' hne tg tg' cs.size cs'.size
          (by simp[CE,hw]) (by simp[CE,hw']) h0 (by simp[World.frozen?,hw]) (by simp[World.frozen?,hw])
        have hr:=run_callFunc_extern (P:=P) hfn hname (by simpa using hbody) hn hd #[.slice ad m cc,.slice ad' m' cc'] w;rw[hov]at hr;refine xm.val h (v:=.bool false) ?_ (Jt _);have hx2:a.eval (.func f) = .func (.func f) #[] #[]:=rfl;simp only[execOp,he,resolve,AB,invoke,dN,dw,bQ,hx2,lU,bT,jP,hv,hv'];simpa using hr
       ·exact kF.elim
      ·exact kF.elim
     ·cases ht
    ·cases ht
   ·cases hp
  ·cases hf
 ·cases hc
end
end
section
section
variable {P:Program} {E:Env P} {I:IH} {ρ:Ren} {n:Nat} {st:gZ} {a:Act} {w:World}
def P9 (P:Program)(n:Nat)(op:Op)(sz bytes:Nat)(zs:List Cell)(s x:pR):Bool:=
 match op with
 | .call { callee:=.builtin .append,args:=⟨[s',x']⟩,argTypes:=⟨[t,t']⟩ }=>lJ n s' s&&lJ n x' x&&decide (0<sz)&&zs.length==sz&&(match P.underlying t' with|some (.int _)=>true|_=>false)&&(match P.underlying t with
   |some (.slice e)=>(match P.info? e with|some i=>i.size==sz&&i.bytes==bytes&&(match i.zero with|some z=>z.cells.size==sz&&LH z.cells.toList zs&&z.cells.toList.all (·.oneCell')|none=>false)|none=>false)
   |_=>false)
 |_=>false
theorem We (t u ty e:TypeId)(ku:IntKind)(i:TypeInfo)(z:Value)(ht:P.underlying t=some (.slice e))(hu:P.underlying u=some (.int ku))(hi:P.info? e=some i)(hz:i.zero=some z)
 (b:Option Addr) (sLen sCap:Nat) (olds:List Value) (hlo:olds.length=sLen*i.size) (hb0:b=none->sLen=0) (holds:∀ad,b=some ad->∀j v,olds[j]? = some v->w.cell? (ad.add j)=some v)
 (q:Nat) (hq:(q:Int)*i.bytes<=140737488355328) (h62:q<2^60) (hqp:0<q) (hs0:0<i.size)
 (hg:sCap<sLen+q) (h63:((sLen+q:Nat):Int)<=9223372036854775807) (hfit:Builtin.nextslicecap (sLen+q) sCap*i.bytes<=281474976710656) :
 (iM #[t,u] ty #[.slice b sLen sCap,.int .i64 q]).run P w =
  .ok (.slice (some ⟨w.heap.size,0,none⟩) (sLen+q) (grownCap w (sLen+q) sCap e))
   (w.drew.alloc (.cells (olds.toArray++di z.cells q++di z.cells (grownCap w (sLen+q) sCap e-(sLen+q))) e)):=by
 have hn:¬(sLen+q<=sCap):=by omega
 have h63':¬(9223372036854775807<((sLen:Int)+(q:Int))):=by omega
 have h48':¬(281474976710656<Builtin.nextslicecap (sLen+q) sCap*i.bytes):=by omega
 have hw:yJ.wrap (q:Int)=q:=by simp only[Go.IntKind.wrap,Go.IntKind.bits,Go.IntKind.signed];simp;omega
 have hq0:¬((q:Int)<0):=by omega
 have hqb:¬(281474976710656<(q:Int)*(i.bytes:Int)):=by omega
 have hfo:(jc i.size sLen (.slice b sLen sCap)).run P w.drew = .ok olds.toArray w.drew:=by
  cases b with
  | none=>have h0:=hb0 rfl;subst h0;have:olds=[]:=gJ (by simpa using hlo);subst this;simp[jc]
  |some ad=>exact run_firstCells_some (P:=P) w.drew i.size sLen ad sLen sCap olds hlo (by simpa using holds ad rfl)
 have hq1:¬(q*i.size=0):=by intro h0;rcases Nat.mul_eq_zero.1 h0 with h|h<;>omega
 simp[iM,run_underlying ht,run_underlying hu,sizeOf,typeInfo,zeroValue,hi,hz,asInt,asIntOf,hw,hq0,hqb,hq1,hn,h63',h48',Question.forced,hfo,newRow,grownCap]
theorem ahK (h:GX E I ρ n st a w){b kk cap sz lo m:Nat}{es:List (List Cell)}(hb:st.bx b = .dat sz es)(hr0:ρ b=some (kk,cap))(hc:lo+m<=cap)(hc0:cap≠0)(hl:lo+m<=es.length) :
 ∃ olds:List Value,olds.length=m*sz/\(∀(j:Nat) (u:Value),olds[j]? = some u->w.cell? ((⟨kk,lo*sz,none⟩:Addr).add j)=some u)/\DC I olds sz ((es.drop lo).take m) /\
   (∀y,y∈(es.drop lo).take m->y.length=sz)/\((es.drop lo).take m).length=m:=by
 have hok:=h.bx.ok b;rw[hb]at hok;obtain⟨kk',cap',hr',hle,hcm,hes,hcs⟩:=hok;rw[hr0]at hr';simp only[aH,dF]at hr';obtain⟨rfl,rfl⟩:=hr';obtain⟨cs,tg,hw,hss,ho,hrd⟩:=hcs hc0;have hmn:(lo+m)*sz<=cs.size:=by rw[hss];exact aX _ hc
 rw[dL]at hmn;have hsl:((es.drop lo).take m).length=m:=by simp;omega
 refine⟨(cs.toList.drop (lo*sz)).take (m*sz),by simp;omega,λj u hu=>?_,⟨λj u hu=>?_,λi' j c2 hc2=>?_⟩,λy hy=>hes y (lq (gG hy)),hsl⟩
 ·rw[dJ]at hu;split at hu
  ·rw[Addr.uw];rw[gW]at hu;simp at hu;simp[iy,hw,hu]
  ·cases hu
 ·rw[dJ]at hu;split at hu
  ·rw[gW]at hu;exact ho _ u (by simpa using hu)
  ·cases hu
 ·have hi':=mY hc2;rw[hsl]at hi';have hc3:(es.getD (lo+i') [])[j]? = some c2:=by
   rw[<- hc2];congr 1;simp only[dI];rw[dJ,aA hi',gW]
  obtain⟨u,hu,hr⟩:=hrd (lo+i') j c2 hc3;have hi2:=mY hc3;have hj:j<sz:=by rw[<- hes (es.getD (lo+i') []) (by simp[dI,aB hi2])];exact(aS.1 hc3).1
  have:(i'+1)*sz<=m*sz:=aX _ hi';rw[dL]at this;refine⟨u,?_,hr⟩;rw[dJ,aA aI,gW];rw[dL]at hu;rw[<- tZ];simpa using hu
theorem afr {o:Oper}{l sz bytes:Nat}{zs:List Cell}{s x:pR}(h:GX E I ρ n st a w)(hc:P9 P n o.op sz bytes zs s x=true)(hm:E.m<=l)(hs:(s.ev st.tm).g=true)(hx:(x.ev st.tm).g=true)
 (kF:(Hu l sz bytes zs (fK st.tm s) (fK st.tm x) st.bx).vc):xm P E n o a w (st.vJ (Hu l sz bytes zs (fK st.tm s) (fK st.tm x) st.bx).sets) (Hu l sz bytes zs (fK st.tm s) (fK st.tm x) st.bx).v:=by
 unfold P9 at hc;split at hc
 ·rename_i s' x' t t' he;simp only[ah,aY,aC]at hc;obtain⟨⟨⟨⟨⟨c1,c2⟩,h0⟩,hzl⟩,hti⟩,ht⟩:=hc;have g1:=oK h c1 hs;have g2:=oK h c2 hx;split at hti
  ·rename_i ku htu;split at ht
   ·rename_i e hte;split at ht
    ·rename_i i hi;simp only[ah,aY]at ht;obtain⟨⟨rfl,rfl⟩,hz⟩:=ht;split at hz
     ·rename_i z hzero;simp only[ah,aY]at hz;obtain⟨⟨hzs,hzd⟩,hz1⟩:=hz;have fin:∀{v:Value} {w':World},(iM #[t,t'] o.type #[a.eval s',a.eval x']).run P w = .ok v w'->(execOp a.eval o).run P w = .ok (.value v) w':=by
       intro v w' hr;simp only[execOp,he,resolve,invoke,builtin,dN,dw,bQ,lU,bT,jP,hr]
      have hzc:∀(q:Nat) (j:Nat) (u:Value),(di z.cells q).toList[j]? = some u->u.oneCell'=true:=by intro q j u hu;exact(Tt (I:=I) (m:=q) hzd hzs hzl h0).2.one j u hu
      have fresh:∀(old m q:Nat) (olds:List Value) (es':List (List Cell)),st.bx l = .absent->old<m+q->olds.length=m*i.size->es'.length=m->(∀y,y∈es'->y.length=i.size)->DC I olds i.size es'->m+q<=maxLen ->
       GX E I (ρ.set l w.heap.size (grownCap w (m+q) old e)) n (st.Am l (.dat i.size (es'++bW q zs))) a
        (w.drew.alloc (.cells (olds.toArray++di z.cells q++di z.cells (grownCap w (m+q) old e-(m+q))) e)):=by
       intro old m q olds es' hl' ho hol hel hes' hdo h63;have hge:=grownCap_ge w (m+q) old e;have hcm:grownCap w (m+q) old e<=maxLen:=grownCap_le_maxLen w _ old e h63;obtain⟨amK,akO⟩:=Tt (I:=I) (m:=q) hzd hzs hzl h0;have hdc:=((hdo.append akO (by rw[hel];exact hol)).more (hzc (grownCap w (m+q) old e-(m+q)))).aeY (cs:=olds.toArray++di z.cells q++di z.cells (grownCap w (m+q) old e-(m+q))) mD;refine Ob h.drew hl' hm _ e _ i.size (es'++bW q zs) ?_ (by rw[bZ,hel,CX];exact hge) hcm (λx hx=>?_) hdc.1 hdc.2
       ·simp only[yV,o6,size_zeroCells,hzs,hol,<- dL]
        congr 1
        omega
       ·rcases bG.1 hx with h1|h1
        ·exact hes' x h1
        ·rw[vY h1,hzl]
      have arith:∀(m q:Nat),(m+q)*(i.bytes+i.size+1)<=2^46->(m+q)*i.bytes<=140737488355328/\q*i.bytes<=140737488355328/\m+q<=2^46:=by intro m q hbig;have e1:(m+q)*(i.bytes+i.size+1)=(m+q)*i.bytes+(m+q)*i.size+(m+q):=(by rw[AP,AP,xy]);have e2:q*i.bytes<=(m+q)*i.bytes:=aX _ aI;omega
      have hml:2^46<=maxLen:=(by decide);unfold Hu at kF⊢;split at kF
      ·rename_i b lo m c sz' k q e1 e2;split at kF
       ·rename_i DL es hb;obtain⟨rfl,rfl,rfl,hlo,hq,hroom,hl,hbig⟩:=kF;obtain⟨kk,cap,ad0,c',hr0,hsv,hnc,hcc,hcx,hcap⟩:=Nc (c:=some c) (b:=b) (lo:=lo) (m:=m) (sz:=i.size) g1 (by rw[e1];rfl);have:=hcx c rfl;subst this;have hxv:a.eval x' = .int .i64 q:=(by exact zQ (by rw[e2]at g2;exact g2));obtain⟨qn,rfl⟩:∃qn:Nat,q=qn:=⟨q.toNat,aI⟩;simp only[ai]at hroom hbig⊢;obtain⟨a1,a2,a3⟩:=arith m qn hbig;have hl':=JW hl;have hfit:=growslice_fits (need:=m+qn) (old:=c') (bytes:=i.bytes) aI a1;by_cases hc0:c'=0
        ·have amH:m=0:=(by omega);subst amH;subst hc0;have hf:=fresh 0 0 qn [] [] hl' aI mD rfl mD ⟨mD,mD⟩ aI;have hr:=We (P:=P) (w:=w) t t' o.type e ku i z hte htu hi hzero ad0 0 0 [] mD (λ_=>rfl) mD qn (by rw[<- F8];exact Ia.2 a2) aI aI h0 aI aI hfit;rw[<- hxv,<- hsv]at hr;simp only[AZ];exact⟨_,_,I,_,.inl (fin hr),hf,λ_=>⟨w.heap.size,_,_,_,Ren.pq _ _ _ _,rfl,grownCap_ge w _ _ e,aF _,λ_=>rfl⟩⟩
        ·have Pg:=hcap (.inl hc0);subst Pg;obtain⟨olds,ho1,ho2,ho3,ho4,ho5⟩:=ahK h hb hr0 aI aI hlo;have hf:=fresh c' m qn olds _ hl' aI ho1 ho5 ho4 ho3 aI;have hr:=We (P:=P) (w:=w) t t' o.type e ku i z hte htu hi hzero (some ⟨kk,lo*i.size,none⟩) m c' olds ho1 mD (λad had j u hu=>by cases had;exact ho2 j u hu) qn (by rw[<- F8];exact Ia.2 a2) aI aI h0 aI aI hfit;rw[<- hxv,<- hsv]at hr;exact⟨_,_,I,_,.inl (fin hr),hf,λ_=>⟨w.heap.size,_,_,_,Ren.pq _ _ _ _,rfl,grownCap_ge w _ _ e,aF _,λ_=>rfl⟩⟩
       ·exact kF.elim
      ·rename_i sz' k q e1 e2;obtain⟨rfl,hq,hl,hbig⟩:=kF;have hsv:a.eval s' = .slice none 0 0:=(by rw[e1]at g1;exact g1);have hxv:a.eval x' = .int .i64 q:=(by exact zQ (by rw[e2]at g2;exact g2));obtain⟨qn,rfl⟩:∃qn:Nat,q=qn:=⟨q.toNat,aI⟩;simp only[ai]at hbig⊢;obtain⟨a1,a2,a3⟩:=arith 0 qn (by simpa using hbig);simp only[fV]at a1 a3;have hl':=JW hl;have hfit:=growslice_fits (need:=0+qn) (old:=0) (bytes:=i.bytes) aI (by simpa using a1);have hf:=fresh 0 0 qn [] [] hl' aI mD rfl mD ⟨mD,mD⟩ aI;have hr:=We (P:=P) (w:=w) t t' o.type e ku i z hte htu hi hzero none 0 0 [] mD (λ_=>rfl) mD qn (by rw[<- F8];exact Ia.2 a2) aI aI h0 aI aI hfit;rw[<- hxv,<- hsv]at hr;simp only[lu]at hf;exact⟨_,_,I,_,.inl (fin hr),hf,λ_=>⟨w.heap.size,_,_,_,Ren.pq _ _ _ _,by rw[fV],by have:=grownCap_ge w (0+qn) 0 e;omega,aF _,λ_=>rfl⟩⟩
      ·exact kF.elim
     ·cases hz
    ·cases ht
   ·cases ht
  ·cases hti
 ·cases hc
end
end
section
def Ud (P:Program)(n m:Nat)(op:Op)(d:Option Nat):nR->Bool
 |.mv x=>ahE n op x
 |.pick c a b=>YG n op c a b
 |.load agg k p=>YE P n op agg k p
 |.store agg k p x=>Vj P n op agg k p x&&d.isNone
 |.alloc l zs=>MN P op zs&&decide (m<=l)
 |.O3 T _ l r=>J8 P op T&&decide (m<=l)&&decide (m<=r)
 |.O1 l sz c zs=>J7 P op sz c zs&&decide (m<=l)
 |.box l x=>U7 n op x&&decide (m<=l)
 |.build zs ps=>U8 P n op zs ps
 |.uB l sz c zs ps=>J9 P n op sz c zs ps&&decide (m<=l)
 |.makes l sz bytes zs x y=>MQ P n op sz bytes zs x y&&decide (m<=l)
 |.bin o x y=>acv n op o x y
 |.beq ng x y=>acu P n op ng x y
 |.not x=>acB n op x
 |.neg x=>acA n op x
 |.L6 k x=>Yy P n op k x
 |.Vl x=>YA P n op x
 |.same x=>YH P n op x
 |.Y6 f cs=>YF n op f cs
 |.Wn x lo hi=>Vh P n op x lo hi
 |.Iu sz x lo hi=>YI P n op sz x lo hi
 |.Wl sz c x=>Vg P n op sz c x
 |.XY x=>Vf n op x
 |.nK off x=>U9 P n op off x
 |.field agg off k x=>Va P n op agg off k x
 |.Ai sz x i=>Vb P n op sz x i
 |.VH sz c x i=>Rz P n op sz c x i
 |.idxs x i=>YC P n op x i
 |.extract x i=>O8 n op x i
 |.len x=>acy P n op x
 |.lens x=>YD P n op x
 |.max x y=>Xz true n op x y
 |.min x y=>Xz false n op x y
 |.append l sz bytes s x=>Fa P n op sz bytes s x&&decide (m<=l)
 |.copy sz x y=>Jn P n op sz x y
 |.shf l x y=>acD n op l x y
 |.afz x=>Yx P n op x
 |.Ba sz x lo hi=>RF P n op sz x lo hi
 |.sl3 sz x p q m=>acE P n op sz x p q m
 |.abv l sz bytes s x=>Fa P n op sz bytes s x&&decide (m<=l)
 |.Wh sz x y=>Jn P n op sz x y
 |.adF sz zs x=>Qd P n op sz zs x
 |.ace l sz bytes zs s x=>P9 P n op sz bytes zs s x&&decide (m<=l)
 |.afC x y=>Yz P n op x y
 |.aaN ng x=>Ve P n op ng x
 |.ovl x y=>acC P n op x y
 |.af0 x y=>YB P n op x y
 |.stop=>true
section
variable {P:Program} {n:Nat} {op:Op}
theorem ajb {zs:List AC}(h:MN P op zs=true):DY op=false/\Si op=false:=by unfold MN at h;split at h<;>first|exact⟨rfl,rfl⟩|cases h
theorem aeM {T:Nat}(h:J8 P op T=true):DY op=false/\Si op=false:=by unfold J8 at h;split at h<;>first|exact⟨rfl,rfl⟩|cases h
theorem aeL {sz c:Nat}{zs:List Cell}(h:J7 P op sz c zs=true):DY op=false/\Si op=false:=by unfold J7 at h;split at h<;>first|exact⟨rfl,rfl⟩|cases h
theorem aoM {x:pR}(h:U7 n op x=true):DY op=false/\Si op=false:=by unfold U7 at h;split at h<;>first|exact⟨rfl,rfl⟩|cases h
theorem aeN {sz c:Nat}{zs:List Cell}{ps:List (Nat×pR)}(h:J9 P n op sz c zs ps=true):DY op=false/\Si op=false:=by unfold J9 at h;split at h<;>first|exact⟨rfl,rfl⟩|cases h
theorem ajc {sz bytes:Nat}{zs:List Cell}{x y:pR}(h:MQ P n op sz bytes zs x y=true):DY op=false/\Si op=false:=by unfold MQ at h;split at h<;>first|exact⟨rfl,rfl⟩|cases h
theorem UH {sz bytes:Nat}{s x:pR}(h:Fa P n op sz bytes s x=true):DY op=false/\Si op=false:=by unfold Fa at h;split at h<;>first|exact⟨rfl,rfl⟩|cases h
theorem aeO {sz:Nat}{s x:pR}(h:Jn P n op sz s x=true):DY op=false/\Si op=false:=by unfold Jn at h;split at h<;>first|exact⟨rfl,rfl⟩|cases h
theorem alV {sz:Nat}{zs:List Cell}{x:pR}(h:Qd P n op sz zs x=true):DY op=false/\Si op=false:=by unfold Qd at h;split at h<;>first|exact⟨rfl,rfl⟩|cases h
theorem alU {sz bytes:Nat}{zs:List Cell}{s x:pR}(h:P9 P n op sz bytes zs s x=true):DY op=false/\Si op=false:=by unfold P9 at h;split at h<;>first|exact⟨rfl,rfl⟩|cases h
end
section
variable {P:Program} {E:Env P} {I:IH} {ρ:Ren} {n:Nat} {st:gZ} {a:Act} {w:World}
theorem Gw {x:Box}(h:match x with|.absent=>True|_=>False):Es x:=by cases x<;>first|trivial|exact h.elim
theorem aa6 (h:GX E I ρ n st a w){o:Oper}{ao:nR}(hc:Ud P n E.m o.op o.dst ao=true)(hv:ao.valid (pR.ev st.tm))(kF:(ao.f (fK st.tm) st.bx).vc) :
 xQ P E n o a w (st.vJ (ao.f (fK st.tm) st.bx).sets) (ao.f (fK st.tm) st.bx).v:=by
 cases ao with
 |mv x=>exact akY h hc (hv x (by simp[nR.qi]))
 | pick c x y=>
   simp only[nR.f]at kF⊢;obtain⟨hg,hxy⟩:=hv;split at kF
   ·rename_i t ht;have ht':((pR.ev st.tm c).x)=xW t:=ht;rw[ht']at hxy;exact ags h hc hg ht hxy.1 hxy.2
   ·exact kF.elim
 | load agg k p=> 
   have hs:(BC agg k (fK st.tm p) st.bx).sets=[]:=by
    unfold BC at *;simp only[nR.f]at kF;unfold BC at kF;split at kF
    ·split at kF
     ·split at kF
      ·rename_i hA;rw[aA hA]
      ·rename_i hA;rw[au hA];split at kF
       ·rfl
       ·exact kF.elim
     ·exact kF.elim
    ·split at kF
     ·split at kF
      ·rename_i hA;rw[aA hA]
      ·rename_i hA;rw[au hA]
     ·exact kF.elim
    ·split at kF
     ·rename_i hA;rw[aA hA]
     ·rename_i hA;rw[au hA]
    ·exact kF.elim
   have:=af9 (P:=P) h hc (hv p (by simp[nR.qi])) kF;simp only[nR.f,hs];exact this
 | store agg k p x=>simp only[Ud,ah,vX]at hc;exact adN h hc.1 hc.2 (hv p (by simp[nR.qi])) (hv x (by simp[nR.qi])) kF
 | alloc l zs=>simp only[Ud,ah,aC]at hc;exact(ab7 h hc.1 hc.2 (Gw kF)).toE (ajb hc.1).1 (ajb hc.1).2
 | O3 T e l r=>simp only[Ud,ah,aC]at hc;exact(ZZ h hc.1.1 hc.1.2 hc.2 (Gw kF.1) (Gw kF.2.1) kF.2.2).toE (aeM hc.1.1).1 (aeM hc.1.1).2
 | O1 l sz c zs=>simp only[Ud,ah,aC]at hc;exact(ZY h hc.1 hc.2 (Gw kF)).toE (aeL hc.1).1 (aeL hc.1).2
 | box l x=>simp only[Ud,ah,aC]at hc;exact(ahx h hc.1 (hv x (by simp[nR.qi])) hc.2 (Gw kF.1) kF.2).toE (aoM hc.1).1 (aoM hc.1).2
 |build zs ps=>exact acn h hc (λp hp=>hv p.2.2 (by simp only[nR.qi,bu];exact⟨p,hp,rfl⟩)) kF
 | uB l sz c zs ps=>
   simp only[Ud,ah,aC]at hc;simp only[nR.f]at kF⊢;split at kF
   ·rename_i l' hl';rw[Wj];exact(aah h hc.1 (λp hp=>hv p.2 (by simp only[nR.qi,bu];exact⟨p,hp,rfl⟩)) hc.2 (Gw kF.1) hl' kF.2.1 kF.2.2).toE (aeN hc.1).1 (aeN hc.1).2
   ·exact kF.elim
 | makes l sz bytes zs x y=>
   simp only[Ud,ah,aC]at hc;simp only[nR.f]at kF⊢;split at kF
   ·rename_i k p k' q e1 e2;obtain⟨v1,v2,v3,v4,v5⟩:=kF;exact(adg h hc.1 (hv x (by simp[nR.qi])) (hv y (by simp[nR.qi])) e1 e2 hc.2 (Gw v1) v2 v3 v4 v5).toE (ajc hc.1).1 (ajc hc.1).2
   ·exact kF.elim
 | bin b x y=>
   have hs:(Ub b (fK st.tm x) (fK st.tm y)).sets=[]:=by
    unfold Ub;split
    ·rfl
    ·unfold Ef;cases b<;>rfl
    ·rfl
   have:=ahv (P:=P) h hc (hv x (by simp[nR.qi])) (hv y (by simp[nR.qi])) kF;simp only[nR.f,hs];exact this
 | beq ng x y=>have hs:(aae ng (fK st.tm x) (fK st.tm y)).sets=[]:=(by unfold aae;split<;>rfl);have:=ahu (P:=P) h hc (hv x (by simp[nR.qi])) (hv y (by simp[nR.qi])) kF;simp only[nR.f,hs];exact this
 | not x=>
   simp only[nR.f]at kF⊢;split at kF
   ·rename_i b hb;exact aiY h hc (hv x (by simp[nR.qi])) hb
   ·exact kF.elim
 | neg x=>
   simp only[nR.f]at kF⊢;split at kF
   ·rename_i k m hb;exact aiW h hc (hv x (by simp[nR.qi])) hb
   ·exact kF.elim
 | L6 k x=>
   simp only[nR.f]at kF⊢;split at kF
   ·rename_i j m hb;exact afB h hc (hv x (by simp[nR.qi])) hb
   ·exact kF.elim
 | Vl x=>
   simp only[nR.f]at kF⊢;split at kF
   ·rename_i p es hs;split at kF
    ·rename_i l hl;exact afG h hc (hv x (by simp[nR.qi])) hs kF.1 hl kF.2
    ·exact kF.elim
   ·exact kF.elim
 | same x=>
   simp only[nR.f]at kF⊢;split at kF
   ·rename_i l hb;exact agD h hc (hv x (by simp[nR.qi])) hb
   ·exact kF.elim
 | Y6 f cs=>
   simp only[nR.f]at kF⊢;split at kF
   ·rename_i l hl;exact agn h hc (λx hx=>hv x hx) hl
   ·exact kF.elim
 | Wn x lo hi=>
   simp only[nR.f]at kF⊢;split at kF
   ·rename_i s e1;split at kF
    ·rename_i p q e2 e3;exact adI h hc (hv x (by simp[nR.qi])) (λy hy=>hv y (by simp only[nR.qi];simp at hy;simp[hy])) (λy hy=>hv y (by simp only[nR.qi];simp at hy;simp[hy])) e1 e2 e3 kF.1 kF.2.1 kF.2.2
    ·exact kF.elim
   ·exact kF.elim
 | Iu sz x lo hi=>
   have hs:(X8 sz (fK st.tm x) (bnd (fK st.tm) lo 0) (bnd (fK st.tm) hi)).sets=[]:=by
    unfold X8;split
    ·split<;>rfl
    ·split<;>rfl
    ·split<;>rfl
    ·rfl
   have:=agJ (P:=P) h hc (hv x (by simp[nR.qi])) (λy hy=>hv y (by simp only[nR.qi];simp at hy;simp[hy])) (λy hy=>hv y (by simp only[nR.qi];simp at hy;simp[hy])) kF;have e:((nR.Iu sz x lo hi).f (fK st.tm) st.bx)=X8 sz (fK st.tm x) (bnd (fK st.tm) lo 0) (bnd (fK st.tm) hi):=rfl;rw[e,hs];exact this
 | Wl sz c x=>
   simp only[nR.f]at kF⊢;split at kF
   ·rename_i b sz' e1;split at kF
    ·rename_i DL es e2;obtain⟨rfl,rfl,h3,h4⟩:=kF;exact adH h hc (hv x (by simp[nR.qi])) e1 e2 h3
    ·exact kF.elim
   ·exact kF.elim
 | XY x=>have hs:(SG (fK st.tm x)).sets=[]:=(by unfold SG;split<;>rfl);have:=adp (P:=P) h hc (hv x (by simp[nR.qi])) kF;have e:((nR.XY x).f (fK st.tm) st.bx)=SG (fK st.tm x):=rfl;rw[e,hs];exact this
 | nK off x=>have hs:(MX off (fK st.tm x)).sets=[]:=(by unfold MX;split<;>rfl);have:=acQ (P:=P) h hc (hv x (by simp[nR.qi])) kF;have e:((nR.nK off x).f (fK st.tm) st.bx)=MX off (fK st.tm x):=rfl;rw[e,hs];exact this
 | field agg off k x=>
   have hs:(RG agg off k (fK st.tm x)).sets=[]:=by
    unfold RG;split
    ·split
     ·rfl
     ·split<;>rfl
    ·rfl
   have:=acR (P:=P) h hc (hv x (by simp[nR.qi])) kF;have e:((nR.field agg off k x).f (fK st.tm) st.bx)=RG agg off k (fK st.tm x):=rfl;rw[e,hs];exact this
 | Ai sz x i=>have hs:(RV sz (fK st.tm x) (fK st.tm i)).sets=[]:=(by unfold RV;split<;>rfl);have:=ac3 (P:=P) h hc (hv x (by simp[nR.qi])) (hv i (by simp[nR.qi])) kF;have e:((nR.Ai sz x i).f (fK st.tm) st.bx)=RV sz (fK st.tm x) (fK st.tm i):=rfl;rw[e,hs];exact this
 | VH sz c x i=>
   simp only[nR.f]at kF⊢;split at kF
   ·rename_i b sz' k m e1 e2;obtain⟨rfl,h1,h2⟩:=kF;exact aaK h hc (hv x (by simp[nR.qi])) (hv i (by simp[nR.qi])) e1 e2 h1 h2
   ·exact kF.elim
 | idxs x i=>
   simp only[nR.f]at kF⊢;split at kF
   ·rename_i s k m e1 e2;exact af2 h hc (hv x (by simp[nR.qi])) (hv i (by simp[nR.qi])) e1 e2 kF.1 kF.2
   ·exact kF.elim
 | extract x i=>
   have hs:(Ko (fK st.tm x) i).sets=[]:=by
    unfold Ko;split
    ·split<;>rfl
    ·rfl
   have:=YM (P:=P) h hc (hv x (by simp[nR.qi])) kF;have e:((nR.extract x i).f (fK st.tm) st.bx)=Ko (fK st.tm x) i:=rfl;rw[e,hs];exact this
 | len x=>have hs:(lenV (fK st.tm x)).sets=[]:=(by unfold lenV;split<;>rfl);have:=aiC (P:=P) h hc (hv x (by simp[nR.qi])) kF;have e:((nR.len x).f (fK st.tm) st.bx)=lenV (fK st.tm x):=rfl;rw[e,hs];exact this
 | lens x=>
   simp only[nR.f]at kF⊢;split at kF
   ·rename_i s e1;exact af7 h hc (hv x (by simp[nR.qi])) e1
   ·exact kF.elim
 | max x y=>
   simp only[nR.f]at kF⊢;split at kF
   ·rename_i k p k' q e1 e2;have kF:k=k':=kF;subst kF;exact aiP h hc (hv x (by simp[nR.qi])) (hv y (by simp[nR.qi])) e1 e2
   ·exact kF.elim
 | min x y=>
   simp only[nR.f]at kF⊢;split at kF
   ·rename_i k p k' q e1 e2;have kF:k=k':=kF;subst kF;exact aiR h hc (hv x (by simp[nR.qi])) (hv y (by simp[nR.qi])) e1 e2
   ·exact kF.elim
 | append l sz bytes s x=>simp only[Ud,ah,aC]at hc;exact(Z5 h hc.1 hc.2 (hv s (by simp[nR.qi])) (hv x (by simp[nR.qi])) kF).toE (UH hc.1).1 (UH hc.1).2
 |copy sz d x=>exact(afF h hc (hv d (by simp[nR.qi])) (hv x (by simp[nR.qi])) kF).toE (aeO hc).1 (aeO hc).2
 | shf l x y=>have hs:(Zw l (fK st.tm x) (fK st.tm y)).sets=[]:=(by unfold Zw;(repeat' split)<;>rfl);have:=ajn (P:=P) h hc (hv x (by simp[nR.qi])) (hv y (by simp[nR.qi])) kF;have e:((nR.shf l x y).f (fK st.tm) st.bx)=Zw l (fK st.tm x) (fK st.tm y):=rfl;rw[e,hs];exact this
 | afz x=>have hs:(WX (fK st.tm x)).sets=[]:=(by unfold WX;(repeat' split)<;>rfl);have:=afA (P:=P) h hc (hv x (by simp[nR.qi])) kF;have e:((nR.afz x).f (fK st.tm) st.bx)=WX (fK st.tm x):=rfl;rw[e,hs];exact this
 | Ba sz x lo hi=>have hs:(Bl sz (fK st.tm x) (bnd (fK st.tm) lo 0) (bnd (fK st.tm) hi)).sets=[]:=(by unfold Bl;(repeat' split)<;>rfl);have:=abA (P:=P) h hc (hv x (by simp[nR.qi])) (λy hy=>hv y (by simp only[nR.qi,aK,bG];exact .inr (.inl hy))) (λy hy=>hv y (by simp only[nR.qi,aK,bG];exact .inr (.inr hy))) kF;have e:((nR.Ba sz x lo hi).f (fK st.tm) st.bx)=Bl sz (fK st.tm x) (bnd (fK st.tm) lo 0) (bnd (fK st.tm) hi):=rfl;rw[e,hs];exact this
 | sl3 sz x p q m=>have hs:(NH sz (fK st.tm x) (fK st.tm p) (fK st.tm q) (fK st.tm m)).sets=[]:=(by unfold NH;(repeat' split)<;>rfl);have:=ajo (P:=P) h hc (hv x (by simp[nR.qi])) (hv p (by simp[nR.qi])) (hv q (by simp[nR.qi])) (hv m (by simp[nR.qi])) kF;have e:((nR.sl3 sz x p q m).f (fK st.tm) st.bx)=NH sz (fK st.tm x) (fK st.tm p) (fK st.tm q) (fK st.tm m):=rfl;rw[e,hs];exact this
 | abv l sz bytes s x=>simp only[Ud,ah,aC]at hc;exact(agE h hc.1 hc.2 (hv s (by simp[nR.qi])) (hv x (by simp[nR.qi])) kF).toE (UH hc.1).1 (UH hc.1).2
 | ace l sz bytes zs s x=>simp only[Ud,ah,aC]at hc;exact(afr h hc.1 hc.2 (hv s (by simp[nR.qi])) (hv x (by simp[nR.qi])) kF).toE (alU hc.1).1 (alU hc.1).2
 |Wh sz d x=>exact(agG h hc (hv d (by simp[nR.qi])) (hv x (by simp[nR.qi])) kF).toE (aeO hc).1 (aeO hc).2
 |adF sz zs x=>exact(agF h hc (hv x (by simp[nR.qi])) kF).toE (alV hc).1 (alV hc).2
 |stop=>exact kF.elim
 | aaN ng x=>have hs:(Lc ng (fK st.tm x)).sets=[]:=(by unfold Lc;split<;>rfl);have:=ac9 (P:=P) h hc (hv x (by simp[nR.qi])) kF;have e:((nR.aaN ng x).f (fK st.tm) st.bx)=Lc ng (fK st.tm x):=rfl;rw[e,hs];exact this
 | afC x y=>have hs:(Qe (fK st.tm x) (fK st.tm y)).sets=[]:=(by unfold Qe;(repeat' split)<;>rfl);have:=afD (P:=P) h hc (hv x (by simp[nR.qi])) (hv y (by simp[nR.qi])) kF;have e:((nR.afC x y).f (fK st.tm) st.bx)=Qe (fK st.tm x) (fK st.tm y):=rfl;rw[e,hs];exact this
 | af0 x y=>have hs:(Qp (fK st.tm x) (fK st.tm y)).sets=[]:=(by unfold Qp;(repeat' split)<;>rfl);have:=af1 (P:=P) h hc (hv x (by simp[nR.qi])) (hv y (by simp[nR.qi])) kF;have e:((nR.af0 x y).f (fK st.tm) st.bx)=Qp (fK st.tm x) (fK st.tm y):=rfl;rw[e,hs];exact this
 | ovl x y=>have hs:(Zc (fK st.tm x) (fK st.tm y) st.bx).sets=[]:=(by unfold Zc;(repeat' split)<;>rfl);have:=ai4 (P:=P) h hc (hv x (by simp[nR.qi])) (hv y (by simp[nR.qi])) kF;have e:((nR.ovl x y).f (fK st.tm) st.bx)=Zc (fK st.tm x) (fK st.tm y) st.bx:=rfl;rw[e,hs];exact this
end
end
theorem Rel.refl (dp N:Nat)(g:Own):Rel dp N g g:=
 ⟨λ_ _ _ _ _ h=>⟨h,rfl⟩,λ_ _ _ _ _ h=>h,λk B' _ h=>⟨B',h,λT p hb=>by rcases hb with rfl|rfl<;>exact⟨p,p,rfl,rfl⟩⟩⟩
theorem Rel.trans {dp N:Nat}{g g' g'':Own}(h:Rel dp N g g')(k:Rel dp N g' g''):Rel dp N g g'':=by
 refine⟨λx T d m hd hx=>let q:=h.tag _ _ _ _ hd hx;let r:=k.tag _ _ _ _ hd q.1;⟨r.1,r.2.trans q.2⟩,λx row d b hd hx=>k.var _ _ _ _ hd (h.var _ _ _ _ hd hx),λx B'' hx hB=>?_⟩;obtain⟨B',hB',h1⟩:=k.old x B'' hx hB;obtain⟨B,hB0,h2⟩:=h.old x B' hx hB';refine⟨B,hB0,λT p hb=>?_⟩;rcases hb with hb|hb
 ·obtain⟨q,q',e1,e2⟩:=h2 T p (.inl hb);obtain⟨r,r',e3,e4⟩:=h1 T q' (.inl e2);exact⟨q,r',e1,e4⟩
 ·obtain⟨q,q',e1,e2⟩:=h1 T p (.inr hb);obtain⟨r,r',e3,e4⟩:=h2 T q (.inr e1);exact⟨r,q',e3,e2⟩
theorem Rel.le {dp N N':Nat}{g g':Own}(h:Rel dp N g g')(hn:N'<=N):Rel dp N' g g':=⟨h.tag,h.var,λk B' hk=>h.old k B' (lD hk hn)⟩
theorem Good.lt {P:Program}{g:Own}{w:World}(h:Good P g w){k:Nat}{B:Blk}(hk:g k=some B):k<w.heap.size:=by
 cases B with
 |arr T p=>obtain⟨cs,e,hw,_⟩:=h.arr k T p hk;exact Aa hw
 |var row d b=>obtain⟨cs,e,hw,_⟩:=h.var k row d b hk;exact Aa hw
theorem Good.world {P:Program}{g:Own}{w w':World}(h:Good P g w)(hk:∀k,g k≠none->w'.heap[k]? = w.heap[k]?):Good P g w':=
 ⟨λk T p e=>by rw[hk k (by rw[e];simp)];exact h.arr k T p e,λk row d b e=>by rw[hk k (by rw[e];simp)];exact h.var k row d b e⟩
theorem FD.world {P:Program}{F:TA}{g:Own}{dp:Nat}{a:Act}{w w':World}{f:OF}(h:FD P F g dp a w f)(hs:w.heap.size<=w'.heap.size):FD P F g dp a w' f:=by
 cases f with
 | sr t T=>
   rcases h with h|⟨k,o,n,c,h1,h2,h3⟩
   ·exact .inl h
   ·exact .inr ⟨k,o,n,c,h1,lD h2 hs,h3⟩
 |ep t T off=>obtain⟨k,o,h1,h2,h3⟩:=h;exact⟨k,o,h1,lD h2 hs,h3⟩
 |vp t b off=>exact h
 |ref t r=>exact h
 |ER t i r=>exact h
 |row b r=>exact h
 |fn t s=>exact h
theorem OW.world {P:Program}{F:TA}{g:Own}{dp:Nat}{Γ : List OF}{a:Act}{w w':World}(h:OW P F g dp Γ a w)(hs:w.heap.size<=w'.heap.size)(hk:∀k,g k≠none->w'.heap[k]? = w.heap[k]?):OW P F g dp Γ a w':=
 ⟨h.good.world hk,λf hf=>(h.fs f hf).world hs⟩
theorem OW.weak {P:Program}{F:TA}{g:Own}{dp:Nat}{Γ Dl:List OF}{a:Act}{w:World}(h:OW P F g dp Γ a w)(hs:∀f,f∈Dl->f ∈ Γ):OW P F g dp Dl a w:=
 ⟨h.good,λf hf=>h.fs f (hs f hf)⟩
theorem FD.put {P:Program}{F:TA}{g:Own}{dp:Nat}{a a':Act}{w:World}{f:OF}(h:FD P F g dp a w f)(he:∀t,t∈f.aeW->a'.tmps.getD t undef=a.tmps.getD t undef):FD P F g dp a' w f:=by cases f<;>simp only[OF.aeW,aK,List.not_mem_nil,or_false,forall_eq_or_imp,forall_eq]at he<;>simp only[FD,he]at h⊢ <;> exact h
def I8 (d:Nat)(f:OF):Bool:= !f.aeW.contains d
theorem o7 {a:Act}{d t:Nat}{v:Value}(h:t≠d):(a.put (some d) v).tmps.getD t undef=a.tmps.getD t undef:=by simp only[jI,fH];rw[Array.getElem?_setIfInBounds_ne (Ne.symm h)]
theorem iq {a:Act}{d:Nat}{v:Value}(h:d<a.tmps.size):(a.put (some d) v).tmps.getD d undef=v:=by simp[jI,fH,h]
theorem FD.put' {P:Program}{F:TA}{g:Own}{dp:Nat}{a:Act}{w:World}{f:OF}{d:Nat}{v:Value}(h:FD P F g dp a w f)(ho:I8 d f=true):FD P F g dp (a.put (some d) v) w f:=
 h.put λt ht=>o7 λe=>by subst e;simp[I8,ht]at ho
theorem OW.drop {P:Program}{F:TA}{g:Own}{dp:Nat}{Γ : List OF}{a:Act}{w:World}(h:OW P F g dp Γ a w)(d:Nat)(v:Value):OW P F g dp (Γ.filter (I8 d)) (a.put (some d) v) w:=
 ⟨h.good,λf hf=>by rw[bF]at hf;exact(h.fs f hf.1).put' hf.2⟩
def Own.re (g:Own)(dr:zn->Bool)(φ:zn->zn):Own:=⟨λk=>match g k with
 |some (.arr T p)=>if dr p then none else some (.arr T (φ p))
 |some (.var row d b)=>some (.var (row.filter λr=> !dr (.tag d r.m)&&φ (.tag d r.m) == .tag d r.m) d b)
 |none=>none,g.bd⟩
theorem V5 {g:Own}{dr:zn->Bool}{φ:zn->zn}{k:Nat} : (g.re dr φ) k=match g k with
 |some (.arr T p)=>if dr p then none else some (.arr T (φ p))
 |some (.var row d b)=>some (.var (row.filter λr=> !dr (.tag d r.m)&&φ (.tag d r.m) == .tag d r.m) d b)
 |none=>none:=rfl
theorem GR.re {g:Own}{u:Value}{T:Nat}{p:zn}(h:GR g u T p){dr:zn->Bool}(hd:dr p=false)(φ:zn->zn):GR (g.re dr φ) u T (φ p):=by
 rcases h with h|⟨k,n,c,h1,h2⟩
 ·exact .inl h
 ·exact .inr ⟨k,n,c,h1,by simp[Own.re,h2.1,hd],h2.2⟩
theorem Zo {g:Own}{dr:zn->Bool}{φ:zn->zn}{k d b:Nat}{row:List Ref}(h:g.re dr φ k=some (.var row d b)):∃row0,g k=some (.var row0 d b)/\row=row0.filter λr=> !dr (.tag d r.m)&&φ (.tag d r.m) == .tag d r.m:=by
 rw[V5]at h;split at h
 ·split at h<;>cases h
 ·rename_i row0 d0 b0 h0;cases h;exact⟨row0,h0,rfl⟩
 ·cases h
theorem Zn {g:Own}{dr:zn->Bool}{φ:zn->zn}{k T:Nat}{p:zn}(h:g.re dr φ k=some (.arr T p)):∃q,g k=some (.arr T q)/\dr q=false/\p=φ q:=by
 rw[V5]at h;split at h
 ·rename_i T0 q h0;split at h
  ·cases h
  ·rename_i hd;cases h;exact⟨q,h0,by simpa using hd,rfl⟩
 ·cases h
 ·cases h
theorem Good.re {P:Program}{g:Own}{w:World}(h:Good P g w){dr:zn->Bool}{φ:zn->zn}(hb:∀k T p,g k=some (.arr T p)->dr p=false->∀j,dr (.blk k j)=false/\φ (.blk k j) = .blk k j):Good P (g.re dr φ) w:=by
 refine⟨λk T p hk=>?_,λk row d b hk=>?_⟩
 ·obtain⟨q,h1,h2,rfl⟩:=Zn hk;obtain⟨cs,e,hw,hc⟩:=h.arr k T q h1;refine⟨cs,e,hw,λj u T' hb' hu ht=>?_⟩;have:=(hc j u T' hb' hu ht).re (hb k T q h1 h2 j).1 φ
  rwa[(hb k T q h1 h2 j).2]at this
 ·obtain⟨row0,h1,rfl⟩:=Zo hk;obtain⟨cs,e,hw,hc⟩:=h.var k row0 d b h1;refine⟨cs,e,hw,λr hr=>?_⟩;rw[bF]at hr;simp only[ah,kW,aY]at hr;obtain⟨u,hu,hg⟩:=hc r hr.1;refine⟨u,hu,?_⟩;have:=hg.re hr.2.1 φ
  rwa[hr.2.2]at this
def aiw (dp:Nat)(dr:zn->Bool)(φ:zn->zn)(f:OF):Prop:=∀m,f.anh=some m->dr (.tag dp m)=false/\φ (.tag dp m) = .tag dp m
theorem FD.re {P:Program}{F:TA}{g:Own}{dp:Nat}{a:Act}{w:World}{f:OF}(h:FD P F g dp a w f){dr:zn->Bool}{φ:zn->zn}(hk:aiw dp dr φ f):FD P F (g.re dr φ) dp a w f:=by
 have gr:∀{u T m},GR g u T (.tag dp m)->dr (.tag dp m)=false/\φ (.tag dp m) = .tag dp m->GR (g.re dr φ) u T (.tag dp m):=λh1 h2=>by
  have:=h1.re h2.1 φ
  rwa[h2.2]at this
 have old:∀{k:Nat} {T:Nat} {X:Prop},(∀B,g k=some B->(∃p,B = .arr T p)/\X)->∀B,g.re dr φ k=some B->(∃p,B = .arr T p)/\X:=by
  intro k T X hold B hB;cases B with
  | arr T' p=>obtain⟨q,h1,_,rfl⟩:=Zn hB;obtain⟨⟨p',e⟩,hx⟩:=hold _ h1;cases e;exact⟨⟨_,rfl⟩,hx⟩
  | var row d b=>obtain⟨row0,h1,_⟩:=Zo hB;obtain⟨⟨p',e⟩,_⟩:=hold _ h1;cases e
 have vv:∀{k row b},g k=some (.var row dp b)->g.re dr φ k=some (.var (row.filter λr=> !dr (.tag dp r.m)&&φ (.tag dp r.m) == .tag dp r.m) dp b):=λh1=>by simp[Own.re,h1]
 cases f with
 | sr t T=>
   rcases h with h|⟨k,o,n,c,h1,h2,h3⟩
   ·exact .inl h
   ·exact .inr ⟨k,o,n,c,h1,h2,old h3⟩
 |ep t T off=>obtain⟨k,o,h1,h2,h3⟩:=h;exact⟨k,o,h1,h2,old h3⟩
 |vp t b off=>obtain⟨k,row,h1,h2,h3⟩:=h;exact⟨k,_,h1,h2,vv h3⟩
 |ref t r=>obtain⟨u,h1,h2⟩:=h;exact⟨u,h1,gr h2 (hk _ rfl)⟩
 |ER t i r=>obtain⟨vs,x,u,h1,h2,h3,h4⟩:=h;exact⟨vs,x,u,h1,h2,h3,gr h4 (hk _ rfl)⟩
 | row b r=>obtain⟨k,row,h1,h2,h3⟩:=h;refine⟨k,_,h1,vv h2,?_⟩;rw[bF];have:=hk _ rfl;exact⟨h3,by simp[this.1,this.2]⟩
 |fn t s=>exact h
theorem Rel.re {dp N:Nat}{g:Own}{dr:zn->Bool}{φ:zn->zn}(h:∀d m,d<dp->dr (.tag d m)=false/\φ (.tag d m) = .tag d m):Rel dp N g (g.re dr φ):=by
 refine⟨λk T d m hd hk=>?_,λk row d b hd hk=>?_,λk B' _ hB=>?_⟩
 ·exact⟨by simp[Own.re,hk,(h d m hd).1,(h d m hd).2],rfl⟩
 ·have:row.filter (λr=> !dr (.tag d r.m)&&φ (.tag d r.m) == .tag d r.m)=row:=List.filter_eq_self.2 λr _=>by simp[(h d r.m hd).1,(h d r.m hd).2]
  simp[Own.re,hk,this]
 ·cases B' with
  | arr T p=>obtain⟨q,h1,_,rfl⟩:=Zn hB;exact⟨_,h1,λT' p' hb=>by rcases hb with e|e<;>cases e<;>exact⟨_,_,rfl,rfl⟩⟩
  | var row d b=>obtain⟨row0,h1,_⟩:=Zo hB;exact⟨_,h1,λT' p' hb=>by rcases hb with e|e<;>cases e⟩
def Own.upn (g:Own)(k:Nat)(B:Blk)(n:Nat):Own:=⟨λk'=>if k'=k then some B else g k',λk'=>if k'=k then n else g.bd k'⟩
abbrev Own.upd (g:Own)(k:Nat)(B:Blk):Own:=g.upn k B 0
theorem yN {g:Own}{k k' n:Nat}{B:Blk} : (g.upn k B n) k'=if k'=k then some B else g k':=rfl
theorem E5 {g:Own}{k k' n:Nat}{B:Blk} : (g.upn k B n).bd k'=if k'=k then n else g.bd k':=rfl
theorem GR.upd {g:Own}{u:Value}{T:Nat}{p:zn}(h:GR g u T p){k m:Nat}{B:Blk}(hk:∀T' q,g k≠some (.arr T' q)):GR (g.upn k B m) u T p:=by
 rcases h with h|⟨k',n,c,h1,h2⟩
 ·exact .inl h
 ·have hne:k'≠k:=λe=>by subst e;exact hk _ _ h2.1
  exact .inr ⟨k',n,c,h1,by rw[yN,au hne];exact h2.1,by rw[E5,au hne];exact h2.2⟩
theorem FD.new {P:Program}{F:TA}{g:Own}{dp:Nat}{a:Act}{w:World}{f:OF}(h:FD P F g dp a w f){k m:Nat}{B:Blk}(hk:g k=none)(hs:w.heap.size<=k):FD P F (g.upn k B m) dp a w f:=by
 have hk':∀T' q,g k≠some (.arr T' q):=λT' q e=>by rw[hk]at e;cases e
 have old:∀{k':Nat} {T:Nat} {X:Prop},k'<w.heap.size->(∀B,g k'=some B->(∃p,B = .arr T p)/\X)->∀B',(g.upn k B m) k'=some B'->(∃p,B' = .arr T p)/\X:=by intro k' T X hlt hold B' hB;rw[yN]at hB;rw[au aI]at hB;exact hold B' hB
 have vv:∀{k' row b},g k'=some (.var row dp b)->(g.upn k B m) k'=some (.var row dp b):=λh1=>by rw[yN];rw[au (λe=>by subst e;rw[hk]at h1;cases h1)];exact h1
 cases f with
 | sr t T=>
   rcases h with h|⟨k,o,n,c,h1,h2,h3⟩
   ·exact .inl h
   ·exact .inr ⟨k,o,n,c,h1,h2,old h2 h3⟩
 |ep t T off=>obtain⟨k,o,h1,h2,h3⟩:=h;exact⟨k,o,h1,h2,old h2 h3⟩
 |vp t b off=>obtain⟨k,row,h1,h2,h3⟩:=h;exact⟨k,_,h1,h2,vv h3⟩
 |ref t r=>obtain⟨u,h1,h2⟩:=h;exact⟨u,h1,h2.upd hk'⟩
 |ER t i r=>obtain⟨vs,x,u,h1,h2,h3,h4⟩:=h;exact⟨vs,x,u,h1,h2,h3,h4.upd hk'⟩
 |row b r=>obtain⟨k,row,h1,h2,h3⟩:=h;exact⟨k,_,h1,vv h2,h3⟩
 |fn t s=>exact h
theorem Rel.new {dp N:Nat}{g:Own}{k n:Nat}{B:Blk}(hk:g k=none)(hn:N<=k):Rel dp N g (g.upn k B n):=by
 refine⟨λk' T d m _ hx=>?_,λk' row d b _ hx=>?_,λk' B' hlt hB=>?_⟩
 ·have hne:k'≠k:=λe=>by subst e;rw[hk]at hx;cases hx
  rw[yN,E5,au hne,au hne];exact⟨hx,rfl⟩
 ·rw[yN];rw[au (λe=>by subst e;rw[hk]at hx;cases hx)];exact hx
 ·rw[yN]at hB;rw[au aI]at hB;exact(Rel.refl dp N g).old k' B' hlt hB
section
section
variable {P:Program} {F:TA} {g:Own} {dp:Nat} {Γ : List OF} {a:Act} {w:World}
def QI (dp:Nat)(mv:List (Nat×zn)):zn->zn
 |.tag d m=>if d=dp then(match mv.lookup m with|some q=>q|none=>.tag d m)else .tag d m
 |p=>p
def FU (ks:List Nat)(f:OF):Bool:=match f.anh with
 |some m=> !ks.contains m
 |none=>true
abbrev Own.mv (g:Own)(dp:Nat)(mv:List (Nat×zn)):Own:=g.re (λ_=>false) (QI dp mv)
theorem TI {β:Type}{m:Nat} : ∀{l:List (Nat×β)},m ∉ l.map (·.1)->l.lookup m=none
 |[],_=>rfl
 | (k,b)::r,h=>by simp only[bT,aK,not_or]at h;simp only[List.lookup];rw[show(m==k)=false by simpa using h.1];exact TI h.2
theorem adn {mv:List (Nat×zn)}{m:Nat}(h:m ∉ mv.map (·.1)):QI dp mv (.tag dp m) = .tag dp m:=by simp[QI,TI h]
theorem aiV {mv:List (Nat×zn)}{d m:Nat}(h:d<dp):QI dp mv (.tag d m) = .tag d m:=by simp only[QI];rw[au aI]
theorem aiU {mv:List (Nat×zn)}{m:Nat}{q:zn}(h:mv.lookup m=some q):QI dp mv (.tag dp m)=q:=by simp[QI,h]
theorem ada {mv:List (Nat×zn)}{f:OF}(h:FU (mv.map (·.1)) f=true):aiw dp (λ_=>false) (QI dp mv) f:=λm hm=>by refine⟨rfl,adn λhc=>?_⟩;simp only[FU,hm,kW,List.contains_eq_mem,dn]at h;exact h hc
theorem OW.mv (h:OW P F g dp Γ a w)(mv:List (Nat×zn)):OW P F (g.mv dp mv) dp (Γ.filter (FU (mv.map (·.1)))) a w:=
 ⟨h.good.re λ_ _ _ _ _ _=>⟨rfl,rfl⟩,λf hf=>by rw[bF]at hf;exact(h.fs f hf.1).re (ada hf.2)⟩
theorem Rel.mv (N:Nat)(mv:List (Nat×zn)):Rel dp N g (g.mv dp mv):=Rel.re λd m h=>⟨rfl,aiV h⟩
theorem GR.mv {u:Value}{T m:Nat}{q:zn}{mv:List (Nat×zn)}(h:GR g u T (.tag dp m))(hl:mv.lookup m=some q):GR (g.mv dp mv) u T q:=by
 have:=h.re (dr:=λ_=>false) rfl (QI dp mv)
 rwa[aiU hl]at this
theorem OW.add (h:OW P F g dp Γ a w){f:OF}(hf:FD P F g dp a w f):OW P F g dp (f :: Γ) a w:=
 ⟨h.good,λx hx=>by exact(aK.1 hx).elim (λe=>e▸hf) (λhx=>h.fs x hx)⟩
theorem OW.amY (h:OW P F g dp Γ a w){cs:Array Value}{e T m:Nat}{p:zn}
 (hc:∀j u T',j<m*xO P T->cs[j]? = some u->(j%xO P T,T')∈oD P T->GR g u T' (.blk w.heap.size j)):OW P F (g.upn w.heap.size (.arr T p) m) dp Γ a (w.alloc (.cells cs e)):=by
 have hn:g w.heap.size=none:=by
  cases hg:g w.heap.size with
  |none=>rfl
  |some B=>exact eF (h.good.lt hg) (Bz _)
 have hna:∀T' q,g w.heap.size≠some (.arr T' q):=λT' q e=>by rw[hn]at e;cases e
 have hold:∀k,g k≠none->(w.alloc (.cells cs e)).heap[k]? = w.heap[k]?:= λk hk=>by
  cases hg:g k with
  |none=>exact eF hg hk
  |some B=>exact XI w _ k (h.good.lt hg)
 have hg':=h.good.world hold;refine⟨⟨λk T' q hk=>?_,λk row d b hk=>?_⟩,λf hf=>?_⟩
 ·rw[yN]at hk;split at hk
  ·rename_i e1;cases hk;subst e1;exact⟨cs,e,heap_alloc_new w _,λj u T' hb hu ht=>(hc j u T' (by rwa[E5,aA rfl]at hb) hu ht).upd hna⟩
  ·rename_i hne;obtain⟨cs',e',hw,h2⟩:=hg'.arr k T' q hk;exact⟨cs',e',hw,λj u T' hb hu ht=>(h2 j u T' (by rwa[E5,au hne]at hb) hu ht).upd hna⟩
 ·rw[yN]at hk;split at hk
  ·cases hk
  ·obtain⟨cs',e',hw,h2⟩:=hg'.var k row d b hk;exact⟨cs',e',hw,λr hr=>let ⟨u,hu,hgr⟩:=h2 r hr;⟨u,hu,hgr.upd hna⟩⟩
 ·exact((h.fs f hf).new hn (aF _)).world (by show _<=(w.heap.push _).size;simp)
theorem OW.newVar (h:OW P F g dp Γ a w){cs:Array Value}{e:Nat}{row:List Ref}{d b:Nat}
 (hc:∀r,r∈row->∃u,cs[r.off]? = some u/\GR g u r.ty (.tag d r.m)):OW P F (g.upd w.heap.size (.var row d b)) dp Γ a (w.alloc (.cells cs e)):=by
 have hn:g w.heap.size=none:=by
  cases hg:g w.heap.size with
  |none=>rfl
  |some B=>exact eF (h.good.lt hg) (Bz _)
 have hna:∀T' q,g w.heap.size≠some (.arr T' q):=λT' q e=>by rw[hn]at e;cases e
 have hold:∀k,g k≠none->(w.alloc (.cells cs e)).heap[k]? = w.heap[k]?:= λk hk=>by
  cases hg:g k with
  |none=>exact eF hg hk
  |some B=>exact XI w _ k (h.good.lt hg)
 have hg':=h.good.world hold;refine⟨⟨λk T' q hk=>?_,λk row' d' b' hk=>?_⟩,λf hf=>?_⟩
 ·rw[yN]at hk;split at hk
  ·cases hk
  ·rename_i hne;obtain⟨cs',e',hw,h2⟩:=hg'.arr k T' q hk;exact⟨cs',e',hw,λj u T' hb hu ht=>(h2 j u T' (by rwa[E5,au hne]at hb) hu ht).upd hna⟩
 ·rw[yN]at hk;split at hk
  ·rename_i e1;cases hk;subst e1;exact⟨cs,e,heap_alloc_new w _,λr hr=>let ⟨u,hu,hgr⟩:=hc r hr;⟨u,hu,hgr.upd hna⟩⟩
  ·obtain⟨cs',e',hw,h2⟩:=hg'.var k row' d' b' hk;exact⟨cs',e',hw,λr hr=>let ⟨u,hu,hgr⟩:=h2 r hr;⟨u,hu,hgr.upd hna⟩⟩
 ·exact((h.fs f hf).new hn (aF _)).world (by show _<=(w.heap.push _).size;simp)
theorem setRow_size (w:World)(k:Nat)(cs:Array Value):(w.setRow k cs).heap.size=w.heap.size:=by simp[World.setRow]
theorem GL (w:World){k k':Nat}(cs:Array Value)(h:k'≠k):(w.setRow k cs).heap[k']? = w.heap[k']?:=by simp only[World.setRow];rw[Array.getElem?_modify];rw[au (Ne.symm h)]
theorem OW.Zu (h:OW P F g dp Γ a w){k:Nat}{cs cs':Array Value}{e:Nat}(hw:w.heap[k]? = some (.cells cs e (0,0)))
 (hc:∀B,g k=some B->∃T p,B = .arr T p/\∀j u T',j<g.bd k*xO P T->cs'[j]? = some u->(j%xO P T,T')∈oD P T->GR g u T' (.blk k j)):OW P F g dp Γ a (w.setRow k cs'):=by
 have hnew:=setRow_heap w k cs cs' e (0,0) hw;refine⟨⟨λk' T p hk=>?_,λk' row d b hk=>?_⟩,λf hf=>(h.fs f hf).world (by rw[setRow_size];exact aF _)⟩
 ·by_cases hkk:k'=k
  ·subst hkk;obtain⟨T',p',hB,h2⟩:=hc _ hk;cases hB;exact⟨cs',e,hnew,h2⟩
  ·rw[GL w cs' hkk];exact h.good.arr k' T p hk
 ·by_cases hkk:k'=k
  ·subst hkk;obtain⟨T',p',hB,_⟩:=hc _ hk;cases hB
  ·rw[GL w cs' hkk];exact h.good.var k' row d b hk
theorem GR.Tj {u:Value}{T:Nat}{p:zn}(h:GR g u T p){k m:Nat}{B:Blk}{row:List Ref}{d b:Nat}(hk:g k=some (.var row d b)):GR (g.upn k B m) u T p:=
 h.upd λT' q e=>by rw[hk]at e;cases e
theorem OW.setVar (h:OW P F g dp Γ a w){k:Nat}{cs cs':Array Value}{e b:Nat}{row row':List Ref}(hw:w.heap[k]? = some (.cells cs e (0,0)))(hk:g k=some (.var row dp b))
 (hc:∀r,r∈row'->∃u,cs'[r.off]? = some u/\GR g u r.ty (.tag dp r.m)) {Dl:List OF} (hΓ : ∀f,f∈Dl->f ∈ Γ /\ ∀r,f = .row b r->r∈row') :
 OW P F (g.upd k (.var row' dp b)) dp Dl a (w.setRow k cs'):=by
 have hnew:=setRow_heap w k cs cs' e (0,0) hw;have hg:(g.upd k (.var row' dp b)) k=some (.var row' dp b):=by simp[yN]
 have ho:∀{k'},k'≠k->(g.upd k (.var row' dp b)) k'=g k':=λhne=>by simp[yN,hne]
 refine⟨⟨λk' T p hk'=>?_,λk' Oy d b2 hk'=>?_⟩,λf hf=>?_⟩
 ·by_cases hkk:k'=k
  ·subst hkk;rw[hg]at hk';cases hk'
  ·rw[ho hkk]at hk';obtain⟨c,e',h1,h2⟩:=h.good.arr k' T p hk';exact⟨c,e',by rw[GL w cs' hkk];exact h1,λj u T' hb hu ht=>(h2 j u T' (by rwa[E5,au hkk]at hb) hu ht).Tj hk⟩
 ·by_cases hkk:k'=k
  ·subst hkk;rw[hg]at hk';cases hk';exact⟨cs',e,hnew,λr hr=>let ⟨u,hu,hgr⟩:=hc r hr;⟨u,hu,hgr.Tj hk⟩⟩
  ·rw[ho hkk]at hk';obtain⟨c,e',h1,h2⟩:=h.good.var k' Oy d b2 hk';exact⟨c,e',by rw[GL w cs' hkk];exact h1,λr hr=>let ⟨u,hu,hgr⟩:=h2 r hr;⟨u,hu,hgr.Tj hk⟩⟩
 ·obtain⟨hf,hr⟩:=hΓ f hf;have h0:=h.fs f hf;have old:∀{k' T:Nat} {X:Prop},(∀B,g k'=some B->(∃p,B = .arr T p)/\X)->∀B,(g.upd k (.var row' dp b)) k'=some B->(∃p,B = .arr T p)/\X:=by
   intro k' T X hold B hB;by_cases hkk:k'=k
   ·subst hkk;obtain⟨⟨p,e⟩,_⟩:=hold _ hk;cases e
   ·rw[ho hkk]at hB;exact hold B hB
  have hsz:(w.setRow k cs').heap.size=w.heap.size:=setRow_size w k cs';cases f with
  | sr t T=>
    rcases h0 with h0|⟨k',o,n,c,h1,h2,h3⟩
    ·exact .inl h0
    ·exact .inr ⟨k',o,n,c,h1,by rw[hsz];exact h2,old h3⟩
  |ep t T off=>obtain⟨k',o,h1,h2,h3⟩:=h0;exact⟨k',o,h1,by rw[hsz];exact h2,old h3⟩
  | vp t b' off=>
    obtain⟨k',Oy,h1,h2,h3⟩:=h0;by_cases hkk:k'=k
    ·subst hkk;rw[hk]at h3;cases h3;exact⟨k',row',h1,h2,hg⟩
    ·exact⟨k',Oy,h1,h2,by rw[ho hkk];exact h3⟩
  |ref t r=>obtain⟨u,h1,h2⟩:=h0;exact⟨u,h1,h2.Tj hk⟩
  |ER t i r=>obtain⟨vs,x,u,h1,h2,h3,h4⟩:=h0;exact⟨vs,x,u,h1,h2,h3,h4.Tj hk⟩
  | row b' r=>
    obtain⟨k',Oy,h1,h2,h3⟩:=h0;by_cases hkk:k'=k
    ·subst hkk;rw[hk]at h2;cases h2;exact⟨k',row',h1,hg,hr r rfl⟩
    ·exact⟨k',Oy,h1,by rw[ho hkk];exact h2,h3⟩
  |fn t s=>exact h0
theorem Rel.setVar {N k b:Nat}{row row':List Ref}(hk:g k=some (.var row dp b)):Rel dp N g (g.upd k (.var row' dp b)):=by
 refine⟨λk' T d m hd hx=>?_,λk' Oy d b2 hd hx=>?_,λk' B' hlt hB=>?_⟩
 ·have hne:k'≠k:=λe=>by subst e;rw[hk]at hx;cases hx
  rw[yN,E5,au hne,au hne];exact⟨hx,rfl⟩
 ·rw[yN];rw[au (λe=>by subst e;rw[hk]at hx;cases hx;omega)];exact hx
 ·rw[yN]at hB;split at hB
  ·rename_i e;subst e;cases hB;exact⟨_,hk,λT p hb=>by rcases hb with e|e<;>cases e⟩
  ·exact(Rel.refl dp N g).old k' B' hlt hB
end
end
section
section
variable {P:Program}
theorem eU {α β:Type}{x:Sem α}{f:α->Sem β}{w w':World}{r:β}(h:(x >>= f).run P w = .ok r w'):∃y w1,x.run P w = .ok y w1/\(f y).run P w1 = .ok r w':=by
 rw[dN]at h;cases hx:x.run P w with
 |ok y w1=>rw[hx]at h;exact⟨y,w1,rfl,h⟩
 |halt e w1=>rw[hx]at h;cases h
theorem je {α:Type}{x r:α}{w w':World}(h:(pure x:Sem α).run P w = .ok r w'):r=x/\w'=w:=by rw[dw]at h;cases h;exact⟨rfl,rfl⟩
theorem Dj {t:TypeId}{d:TypeDesc}{w w':World}(h:(underlying t).run P w = .ok d w'):P.underlying t=some d/\w'=w:=by
 unfold underlying at h;obtain⟨p,w1,h1,h2⟩:=eU h;rw[run_program]at h1;cases h1;split at h2
 ·rename_i d' hd;obtain⟨rfl,rfl⟩:=je h2;exact⟨hd,rfl⟩
 ·cases h2
theorem Kv {t:TypeId}{i:TypeInfo}{w w':World}(h:(typeInfo t).run P w = .ok i w'):P.info? t=some i/\w'=w:=by
 unfold typeInfo at h;obtain⟨p,w1,h1,h2⟩:=eU h;rw[run_program]at h1;cases h1;split at h2
 ·rename_i d' hd;obtain⟨rfl,rfl⟩:=je h2;exact⟨hd,rfl⟩
 ·cases h2
theorem F5 {t:TypeId}{k:Nat}{w w':World}(h:(sizeOf t).run P w = .ok k w'):∃i,P.info? t=some i/\i.size=k/\w'=w:=by unfold sizeOf at h;obtain⟨i,w1,h1,h2⟩:=eU h;obtain⟨h3,rfl⟩:=Kv h1;obtain⟨rfl,rfl⟩:=je h2;exact⟨i,h3,rfl,rfl⟩
theorem ad6 {t:TypeId}{b:Bool}{w w':World}(h:(isAgg t).run P w = .ok b w'):(∃d,P.underlying t=some d/\b=KZ d)/\w'=w:=by unfold isAgg at h;obtain⟨d,w1,h1,h2⟩:=eU h;obtain⟨h3,rfl⟩:=Dj h1;cases d<;>(obtain⟨rfl,rfl⟩:=je h2;exact⟨⟨_,h3,rfl⟩,rfl⟩)
theorem U1 {v:Value}{p:Addr}{w w':World}(h:(kX v).run P w = .ok p w'):v = .pointer (some p)/\w'=w:=by
 unfold kX at h;split at h
 ·obtain⟨rfl,rfl⟩:=je h;exact⟨rfl,rfl⟩
 ·cases h
theorem GY {s:Sem Value}{v:Value}{w w':World}(h:((do pure (.value (<- s))):Sem Next).run P w = .ok (.value v) w'):s.run P w = .ok v w':=by obtain⟨y,w1,h1,h2⟩:=eU h;obtain⟨e,rfl⟩:=je h2;cases e;exact h1
theorem aaQ {p:Addr}{v:Value}{w w':World}(h:(load p).run P w = .ok v w'):w'=w/\∀u,w.cell? p=some u->v=u:=by
 rw[run_load]at h;split at h
 ·rename_i u hu;cases h;exact⟨rfl,λu' hu'=>by rw[hu]at hu';cases hu';rfl⟩
 ·rename_i hn;split at h
  ·cases h;exact⟨rfl,λu hu=>by rw[hn]at hu;cases hu⟩
  ·cases h
theorem Ld {p:Addr} : ∀(n i:Nat) (acc:Array Value) (w:World) (r:Array Value) (w':World),(loadCellsFrom p i n acc).run P w = .ok r w' ->
 w'=w/\(∀j,j<acc.size->r[j]? = acc[j]?)/\∀j,j<n->∀u,w.cell? (p.add (i+j))=some u->r[acc.size+j]? = some u
 | 0,i,acc,w,r,w',h=>by unfold loadCellsFrom at h;obtain⟨rfl,rfl⟩:=je h;exact⟨rfl,λ_ _=>rfl,λj hj=>eF hj (Nat.not_lt_zero _)⟩
 | n+1,i,acc,w,r,w',h=>by
   unfold loadCellsFrom at h;obtain⟨v,w1,h1,h2⟩:=eU h;obtain⟨rfl,hv⟩:=aaQ h1;obtain⟨h3,h4,h5⟩:=Ld n (i+1) (acc.push v) _ r w' h2;refine⟨h3,λj hj=>?_,λj hj u hu=>?_⟩
   ·rw[h4 j (by simp;omega),D6,au aI]
   ·cases j with
    | zero=>have:=hv u (by simpa using hu);subst this;have:=h4 acc.size mD;simpa using this
    | succ j=>
      have:=h5 j aI u (by rw[show i+1+j=i+(j+1) by omega];exact hu);simp only[Array.size_push]at this
      rwa[show acc.size+1+j=acc.size+(j+1) by omega]at this
theorem Ns {t:TypeId}{p:Addr}{v:Value}{w w':World}(h:(loadVar t p).run P w = .ok v w') :
 w'=w/\((∃d i,P.underlying t=some d/\KZ d=true/\P.info? t=some i/\∀j u,j<i.size->w.cell? (p.add j)=some u->v.cells[j]? = some u) \/
  (∃d,P.underlying t=some d/\KZ d=false/\∀u,w.cell? p=some u->v=u)):=by
 unfold loadVar at h;obtain⟨b,w1,h1,h2⟩:=eU h;obtain⟨⟨d,hd,rfl⟩,rfl⟩:=ad6 h1;cases hb:KZ d with
 | true=>rw[hb]at h2;simp only[jY]at h2;obtain⟨k,w2,h3,h4⟩:=eU h2;obtain⟨i,hi,rfl,rfl⟩:=F5 h3;obtain⟨r,w3,h5,h6⟩:=eU h4;unfold loadCells at h5;obtain⟨rfl,_,h7⟩:=Ld _ _ _ _ _ _ h5;obtain⟨rfl,rfl⟩:=je h6;refine⟨rfl,.inl ⟨d,i,hd,hb,hi,λj u hj hu=>?_⟩⟩;have:=h7 j hj u (by simpa using hu);simpa[oH]using this
 | false=>rw[hb]at h2;obtain⟨rfl,hv⟩:=aaQ h2;exact⟨rfl,.inr ⟨d,hd,hb,hv⟩⟩
end
end
section
def OF.re (s d:Nat):OF->Option OF
 |.sr x T=>if x=s then some (.sr d T)else none
 |.ep x T o=>if x=s then some (.ep d T o)else none
 |.vp x b o=>if x=s/\b≠d then some (.vp d b o)else none
 |.ref x r=>if x=s then some (.ref d r)else none
 |.ER x i r=>if x=s then some (.ER d i r)else none
 |.fn x k=>if x=s then some (.fn d k)else none
 |.row _ _=>none
def OF.nK (P:Program)(s d off:Nat):OF->Option OF
 |.ep x T o=>if x=s/\o+off<xO P T then some (.ep d T (o+off))else none
 |.vp x b o=>if x=s/\b≠d then some (.vp d b (o+off))else none
 |_=>none
def OF.Ai (P:Program)(s d sz:Nat):OF->Option OF
 |.sr x T=>if x=s/\xO P T=sz then some (.ep d T 0)else none
 |.ref x r=>if x=s/\r.off=0/\xO P r.ty=sz then some (.ep d r.ty 0)else none
 |_=>none
def OF.part (s d off k:Nat):OF->Option OF
 |.ref x r=>if x=s/\off<=r.off/\r.off<off+k then some (.ref d ⟨r.off-off,r.ty,r.m⟩)else none
 |_=>none
def OF.ahU (s d i:Nat):OF->Option OF
 |.ER x j r=>if x=s/\j=i then some (.ref d r)else none
 |_=>none
def OF.rowP (b d off k:Nat):OF->Option OF
 |.row x r=>if x=b/\off<=r.off/\r.off<off+k then some (.ref d ⟨r.off-off,r.ty,r.m⟩)else none
 |_=>none
def OF.ldv (Γ : List OF)(s d k:Nat):OF->List OF
 |.vp x b o=>if x=s then Γ.filterMap (OF.rowP b d o k)else []
 |_=>[]
section
variable {P:Program} {F:TA} {g:Own} {dp:Nat} {Γ : List OF} {a:Act} {w:World} {d s:Nat} {v:Value}
theorem FD.copy {f f':OF}(h:FD P F g dp a w f)(hr:f.re s d=some f')(hd:d<a.tmps.size)(hv:v=a.tmps.getD s undef):FD P F g dp (a.put (some d) v) w f':=by
 have hs:=iq (v:=v) hd;subst hv;cases f with
 |sr x T=>simp only[OF.re]at hr;split at hr<;>cases hr;rename_i e;subst e;simp only[FD,hs]at h⊢;exact h
 |ep x T o=>simp only[OF.re]at hr;split at hr<;>cases hr;rename_i e;subst e;simp only[FD,hs]at h⊢;exact h
 | vp x b o=>simp only[OF.re]at hr;split at hr<;>cases hr;rename_i e;obtain⟨rfl,hb⟩:=e;simp only[FD,hs,o7 hb]at h⊢;exact h
 |ref x r=>simp only[OF.re]at hr;split at hr<;>cases hr;rename_i e;subst e;simp only[FD,hs]at h⊢;exact h
 |ER x i r=>simp only[OF.re]at hr;split at hr<;>cases hr;rename_i e;subst e;simp only[FD,hs]at h⊢;exact h
 |fn x k=>simp only[OF.re]at hr;split at hr<;>cases hr;rename_i e;subst e;simp only[FD,hs]at h⊢;exact h
 |row b r=>cases hr
theorem FD.nK {f f':OF}{off:Nat}{p:Addr}(h:FD P F g dp a w f)(hr:f.nK P s d off=some f')(hd:d<a.tmps.size)(hp:a.tmps.getD s undef = .pointer (some p))(hv:v = .pointer (some (p.add off))) :
 FD P F g dp (a.put (some d) v) w f':=by
 have hs:=iq (v:=v) hd;cases f with
 | ep x T o=>simp only[OF.nK]at hr;split at hr<;>cases hr;rename_i e;obtain⟨rfl,hlt⟩:=e;obtain⟨k,o',h1,h2,h3⟩:=h;rw[hp]at h1;cases h1;refine⟨k,o'+off,by rw[hs,hv,Addr.uw],h2,λB hB=>?_⟩;obtain⟨hB1,hB2⟩:=h3 B hB;refine⟨hB1,?_⟩;rw[Nat.add_mod,hB2,xE (show off<xO P T by omega),xE hlt]
 | vp x b o=>simp only[OF.nK]at hr;split at hr<;>cases hr;rename_i e;obtain⟨rfl,hb⟩:=e;obtain⟨k,row,h1,h2,h3⟩:=h;rw[hp]at h2;cases h2;exact⟨k,row,by rw[o7 hb];exact h1,by rw[hs,hv,Addr.uw],h3⟩
 |sr _ _=>cases hr
 |ref _ _=>cases hr
 |ER _ _ _=>cases hr
 |row _ _=>cases hr
 |fn _ _=>cases hr
theorem FD.Ai {f f':OF}{sz i:Nat}{p:Addr}{m c:Nat}(hg:Good P g w)(h:FD P F g dp a w f)(hr:f.Ai P s d sz=some f')(hd:d<a.tmps.size)(hp:a.tmps.getD s undef = .slice (some p) m c)(hv:v = .pointer (some (p.add (i*sz)))) :
 FD P F g dp (a.put (some d) v) w f':=by
 have hs:=iq (v:=v) hd;cases f with
 | sr x T=>
   simp only[OF.Ai]at hr;split at hr<;>cases hr;rename_i e;obtain⟨rfl,rfl⟩:=e;rcases h with h|⟨k,o',n,c',h1,h2,h3⟩
   ·rw[Y9,hp]at h;cases h
   ·rw[hp]at h1;cases h1;refine⟨k,o'+i*xO P T,by rw[hs,hv,Addr.uw],h2,λB hB=>?_⟩;obtain⟨hB1,hB2⟩:=h3 B hB;exact⟨hB1,by rw[Nat.add_mul_mod_self_right];exact hB2⟩
 | ref x r=>
   simp only[OF.Ai]at hr;split at hr<;>cases hr;rename_i e;obtain⟨rfl,h0,rfl⟩:=e;obtain⟨u,h1,h2⟩:=h;rw[hp,h0]at h1;simp[oH]at h1;subst h1;rcases h2 with h|⟨k,n,c',h3,h4⟩
   ·cases h
   ·cases h3;refine⟨k,0+i*xO P r.ty,by rw[hs,hv,Addr.uw],hg.lt h4.1,λB hB=>?_⟩;rw[h4.1]at hB;cases hB;exact⟨⟨_,rfl⟩,mD⟩
 |ep _ _ _=>cases hr
 |vp _ _ _=>cases hr
 |ER _ _ _=>cases hr
 |row _ _=>cases hr
 |fn _ _=>cases hr
theorem FD.part {f f':OF}{off k:Nat}(h:FD P F g dp a w f)(hr:f.part s d off k=some f')(hd:d<a.tmps.size)
 (hv:∀j u,j<k->(a.tmps.getD s undef).cells[off+j]? = some u->v.cells[j]? = some u\/¬ ∃b n c,u = .slice b n c):FD P F g dp (a.put (some d) v) w f':=by
 have hs:=iq (v:=v) hd;cases f with
 | ref x r=>
   simp only[OF.part]at hr;split at hr<;>cases hr;rename_i e;obtain⟨rfl,h1,h2⟩:=e;obtain⟨u,hu,hg⟩:=h;have:=hv (r.off-off) u aI (by rw[show off+(r.off-off)=r.off by omega];exact hu);rcases this with h3|h3
   ·exact⟨u,by rw[hs];exact h3,hg⟩
   ·exact eF (by rcases hg with e|⟨k,n,c,e,_⟩<;>exact⟨_,_,_,e⟩) h3
 |sr _ _=>cases hr
 |ep _ _ _=>cases hr
 |vp _ _ _=>cases hr
 |ER _ _ _=>cases hr
 |row _ _=>cases hr
 |fn _ _=>cases hr
theorem FD.ahU {f f':OF}{i:Nat}{vs:Array Value}(h:FD P F g dp a w f)(hr:f.ahU s d i=some f')(hd:d<a.tmps.size)(hp:a.tmps.getD s undef = .tuple vs)(hv:vs[i]? = some v):FD P F g dp (a.put (some d) v) w f':=by
 have hs:=iq (v:=v) hd;cases f with
 | ER x j r=>simp only[OF.ahU]at hr;split at hr<;>cases hr;rename_i e;obtain⟨rfl,rfl⟩:=e;obtain⟨vs',y,u,h1,h2,h3,h4⟩:=h;rw[hp]at h1;cases h1;rw[hv]at h2;cases h2;exact⟨u,by rw[hs];exact h3,h4⟩
 |sr _ _=>cases hr
 |ep _ _ _=>cases hr
 |vp _ _ _=>cases hr
 |ref _ _=>cases hr
 |row _ _=>cases hr
 |fn _ _=>cases hr
theorem FD.ldv {f f':OF}{k:Nat}{p:Addr}(hg:Good P g w)(hΓ : ∀f,f ∈ Γ -> FD P F g dp a w f)(hf:f ∈ Γ)(hr:f'∈f.ldv Γ s d k)(hd:d<a.tmps.size)(hp:a.tmps.getD s undef = .pointer (some p))
 (hv:∀j u,j<k->w.cell? (p.add j)=some u->v.cells[j]? = some u\/¬ ∃b n c,u = .slice b n c):FD P F g dp (a.put (some d) v) w f':=by
 have hs:=iq (v:=v) hd;cases f with
 | vp x b o=>
   simp only[OF.ldv]at hr;split at hr
   ·rename_i e;subst e;rw[eG]at hr;obtain⟨f2,hf2,hr⟩:=hr;cases f2 with
    | row y r=>
      simp only[OF.rowP]at hr;split at hr<;>cases hr;rename_i e;obtain⟨rfl,h1,h2⟩:=e;obtain⟨kk,row,e1,e2,e3⟩:=hΓ _ hf;obtain⟨kk',row',e4,e5,e6⟩:=hΓ _ hf2;rw[e1]at e4;cases e4;rw[e3]at e5;cases e5;rw[hp]at e2;cases e2;obtain⟨cs,e,hw,hrow⟩:=hg.var _ _ _ _ e3;obtain⟨u,hu,hgr⟩:=hrow r e6;have hc:w.cell? ((⟨kk,o,none⟩:Addr).add (r.off-o))=some u:=by rw[Addr.uw,show o+(r.off-o)=r.off by omega];simp[iy,hw,hu]
      rcases hv (r.off-o) u aI hc with h3|h3
      ·exact⟨u,by rw[hs];exact h3,hgr⟩
      ·exact eF (by rcases hgr with e|⟨k,n,c,e,_⟩<;>exact⟨_,_,_,e⟩) h3
    |sr _ _=>cases hr
    |ep _ _ _=>cases hr
    |vp _ _ _=>cases hr
    |ref _ _=>cases hr
    |ER _ _ _=>cases hr
    |fn _ _=>cases hr
   ·cases hr
 |sr _ _=>cases hr
 |ep _ _ _=>cases hr
 |ref _ _=>cases hr
 |ER _ _ _=>cases hr
 |row _ _=>cases hr
 |fn _ _=>cases hr
end
end
section
def oq (P:Program)(Γ : List OF)(d:Nat):Op->List OF
 |.move (.tmp s)=> Γ.filterMap (OF.re s d)
 |.assign (.tmp s)=> Γ.filterMap (OF.re s d)
 |.nilCheck (.tmp s)=> Γ.filterMap (OF.re s d)
 | .fieldAddr t (.tmp s) f=>(match P.underlying t with
   | some (.struct fs)=>(match fs[f]? with
     | some fl=>(match P.info? fl.type with
       |some i=>if i.size=0 then []else Γ.filterMap (OF.nK P s d fl.offset)
       |none=>[])
     |none=>[])
   |_=>[])
 | .indexAddr t (.tmp s) _=>(match P.underlying t with
   | some (.slice e)=>(match P.info? e with
     |some i=> Γ.filterMap (OF.Ai P s d i.size)
     |none=>[])
   |_=>[])
 | .field t (.tmp s) f=>(match P.underlying t with
   | some (.struct fs)=>(match fs[f]? with
     | some fl=>(match P.underlying fl.type,P.info? fl.type with
       |some de,some i=> Γ.filterMap (OF.part s d fl.offset (if KZ de then i.size else 1))
       |_,_=>[])
     |none=>[])
   |_=>[])
 |.extract (.tmp s) i=> Γ.filterMap (OF.ahU s d i)
 | .load t (.tmp s)=>(match P.underlying t,P.info? t with
   |some de,some i=> Γ.flatMap (OF.ldv Γ s d (if KZ de then i.size else 1))
   |_,_=>[])
 |_=>[]
section
variable {P:Program} {F:TA} {g:Own} {dp:Nat} {Γ : List OF} {a:Act} {w:World} {d:Nat} {v:Value}
theorem NI {u:Value}(h:∃b n c,u = .slice b n c):u.cells = #[u]:=by obtain⟨b,n,c,rfl⟩:=h;rfl
theorem Xw {α:Type}{k:IntKind}{i:Int}{n:Int}{c:BoundsCode}{r:α}{w w':World}(h:(boundsPanic k i n c:Sem α).run P w = .ok r w'):False:=by
 unfold boundsPanic at h;simp only at h;split at h
 ·obtain⟨_,_,_,h2⟩:=eU h;cases h2
 ·obtain⟨_,_,_,h2⟩:=eU h;cases h2
theorem ai2 (h:OW P F g dp Γ a w)(hd:d<a.tmps.size){o:Oper}{w':World}(hr:(execOp a.eval o).run P w = .ok (.value v) w'):∀f,f∈oq P Γ d o.op->FD P F g dp (a.put (some d) v) w f:=by
 intro f hf;have e1:∀t,a.eval (.tmp t)=a.tmps.getD t undef:=λt=>rfl;unfold oq at hf;split at hf
 ·rename_i s ho;rw[eG]at hf;obtain⟨f0,h0,h1⟩:=hf;simp only[execOp,ho,dw]at hr;cases hr;exact(h.fs f0 h0).copy h1 hd (e1 s)
 ·rename_i s ho;rw[eG]at hf;obtain⟨f0,h0,h1⟩:=hf;simp only[execOp,ho,dw]at hr;cases hr;exact(h.fs f0 h0).copy h1 hd (e1 s)
 ·rename_i s ho;rw[eG]at hf;obtain⟨f0,h0,h1⟩:=hf;have hv:v=a.tmps.getD s undef:=by
   simp only[execOp,ho,e1]at hr;split at hr
   ·cases hr
   ·cases hr
   ·cases hr
   ·split at hr
    ·cases hr
    ·obtain⟨y,w1,h2,h3⟩:=eU hr;obtain⟨_,w2,_,h5⟩:=eU h3;split at h5
     ·obtain⟨_,_,h6,_⟩:=eU h5;cases h6
     ·have:=(je h5).1;cases this
      symm;assumption
    ·have:=(je hr).1;cases this
     symm;assumption
   ·have:=(je hr).1;cases this;rfl
  exact(h.fs f0 h0).copy h1 hd hv
 ·rename_i t s fi ho;simp only[execOp,ho]at hr;have hr:=GY hr;unfold BJ at hr;obtain⟨de,w1,h1,h2⟩:=eU hr;obtain⟨hu,rfl⟩:=Dj h1;rw[hu]at hf;split at hf
  ·rename_i fs heq;cases heq;simp only at h2;split at hf
   ·rename_i fl hfl;rw[hfl]at h2;simp only at h2;obtain⟨p,w2,h3,h4⟩:=eU h2;obtain⟨hp,rfl⟩:=U1 h3;obtain⟨q,w3,h5,h6⟩:=eU h4;obtain⟨rfl,rfl⟩:=je h6;unfold fieldPlace at h5;obtain⟨k,w4,h7,h8⟩:=eU h5;obtain⟨i,hi,rfl,rfl⟩:=F5 h7;rw[hi]at hf;simp only at hf;split at hf
    ·cases hf
    ·rename_i hne;rw[au hne]at h8;obtain⟨rfl,_⟩:=je h8;rw[eG]at hf;obtain⟨f0,h9,h10⟩:=hf;exact(h.fs f0 h9).nK h10 hd hp rfl
   ·cases hf
  ·cases hf
 ·rename_i t s ix ho;simp only[execOp,ho]at hr;have hr:=GY hr;split at hf
  ·rename_i e hu;split at hf
   ·rename_i i hi;rw[eG]at hf;obtain⟨f0,h0,h1⟩:=hf;unfold xA at hr;obtain⟨ki,w1,h2,h3⟩:=eU hr;obtain⟨k,ii⟩:=ki;have hw1:w1=w:=by
     unfold asIntOf at h2;split at h2<;>first|(obtain⟨_,rfl⟩:=je h2;rfl)|cases h2
    subst hw1;obtain⟨de,w2,h4,h5⟩:=eU h3;obtain⟨hu',rfl⟩:=Dj h4;rw[hu]at hu';cases hu';rw[e1]at h5;cases hs:a.tmps.getD s undef with
    | slice base len cap=>
      rw[hs]at h5;obtain⟨bl,w3,h6,h7⟩:=eU h5;obtain⟨rfl,rfl⟩:=je h6;simp only at h7;obtain⟨de2,w4,h8,h9⟩:=eU h7;obtain⟨hu2,rfl⟩:=Dj h8;rw[hu]at hu2;cases hu2;cases base with
      | none=>simp only at h9;exact(Xw h9).elim
      | some p=>
        simp only at h9;split at h9
        ·obtain⟨sz,w5,h12,h13⟩:=eU h9;obtain⟨i',hi',rfl,rfl⟩:=F5 h12;rw[hi]at hi';cases hi';have hv:=(je h13).1;exact(h.fs f0 h0).Ai h.good h1 hd hs hv
        ·split at h9
         ·cases h9
         ·exact(Xw h9).elim
    |_=>rw[hs]at h5;obtain⟨_,_,h6,_⟩:=eU h5;cases h6
   ·cases hf
  ·cases hf
 ·rename_i t s fi ho;simp only[execOp,ho,e1]at hr;have hr:=GY hr;unfold Gp at hr;obtain⟨de,w1,h1,h2⟩:=eU hr;obtain⟨hu,rfl⟩:=Dj h1;rw[hu]at hf;split at hf
  ·rename_i fs heq;cases heq;simp only at h2;split at hf
   ·rename_i fl hfl;rw[hfl]at h2;simp only at h2;obtain⟨cs,w2,h3,h4⟩:=eU h2;have hcs:a.tmps.getD s undef = .agg cs/\w2=w1:=by
     unfold asAgg at h3;split at h3
     ·rename_i heq;obtain⟨rfl,rfl⟩:=je h3;exact⟨heq,rfl⟩
     ·cases h3
    obtain⟨hcs,rfl⟩:=hcs;unfold part at h4;obtain⟨b,w3,h5,h6⟩:=eU h4;obtain⟨⟨de',hde,rfl⟩,rfl⟩:=ad6 h5;split at hf
    ·rename_i de2 i an6 hi;rw[hde]at an6;cases an6;rw[eG]at hf;obtain⟨f0,h7,h8⟩:=hf;refine(h.fs f0 h7).part h8 hd λj u hj hu=>?_;rw[hcs]at hu;simp only[oH]at hu;cases hb:KZ de' with
     | true=>
       rw[hb]at h6 hj;simp only[jY]at h6 hj;obtain⟨k,w4,h9,h10⟩:=eU h6;obtain⟨i',hi',rfl,rfl⟩:=F5 h9;rw[hi]at hi';cases hi';have hv:=(je h10).1;subst hv
       left
       simp only[oH];have hlt:=(eH.1 hu).1;rw[Array.getElem?_extract];rw[aA aI];exact hu
     | false=>
       rw[hb]at h6 hj;simp only[qw,if_false]at h6 hj;have hj0:j=0:=(by omega);subst hj0;rw[sF]at hu;rw[hu]at h6;have hv:=(je h6).1;subst hv;by_cases hs:∃b n c,v = .slice b n c
       ·left;rw[NI hs];rfl
       ·exact .inr hs
    ·cases hf
   ·cases hf
  ·cases hf
 ·rename_i s i ho;rw[eG]at hf;obtain⟨f0,h0,h1⟩:=hf;simp only[execOp,ho,e1]at hr;have hr:=GY hr;unfold Fp at hr;split at hr
  ·rename_i vs heq;split at hr
   ·rename_i x hx;have hv:=(je hr).1;subst hv;exact(h.fs f0 h0).ahU h1 hd heq hx
   ·cases hr
  ·cases hr
 ·rename_i t s ho;simp only[execOp,ho,e1]at hr;have hr:=GY hr;unfold qM at hr;obtain⟨p,w1,h1,h2⟩:=eU hr;obtain⟨hp,rfl⟩:=U1 h1;obtain⟨_,hld⟩:=Ns h2;split at hf
  ·rename_i de i hde hi;rw[List.mem_flatMap]at hf;obtain⟨f0,h3,h4⟩:=hf;refine FD.ldv h.good h.fs h3 h4 hd hp λj u hj hu=>?_;rcases hld with⟨de',i',h5,h6,h7,h8⟩|⟨de',h5,h6,h7⟩
   ·rw[hde]at h5;cases h5;rw[hi]at h7;cases h7;rw[h6]at hj;exact .inl (h8 j u hj hu)
   ·rw[hde]at h5;cases h5;rw[h6]at hj;simp only[qw,if_false]at hj;have hj0:j=0:=(by omega);subst hj0;rw[Addr.add_zero]at hu;have hv:=h7 u hu;subst hv;by_cases hs:∃b n c,v = .slice b n c
    ·left;rw[NI hs];rfl
    ·exact .inr hs
  ·cases hf
 ·cases hf
end
end
section
abbrev RR :=List (Nat×Nat×Option Nat)
def Rk (g:Own)(dp:Nat)(cs:Array Value)(R:RR):Prop:=∀e,e∈R->∃u,cs[e.1]? = some u/\match e.2.2 with
 |some m=>GR g u e.2.1 (.tag dp m)
 |none=>Y9 u
def akZ : Value->Bool
 |.slice none 0 0=>true
 |_=>false
theorem UF {v:Value}(h:akZ v=true):Y9 v:=by
 unfold akZ at h;split at h
 ·rfl
 ·cases h
def Q8 (z:Array Value)(L:List (Nat×Nat)):Option RR:=if L.all λe=>(match z[e.1]? with|some v=>akZ v|none=>false)then some (L.map λe=>(e.1,e.2,none))else none
def Gn (Γ : List OF)(off size:Nat):Operand->RR
 | .tmp s=> Γ.filterMap λf=>match f with
   |.ref y r=>if y=s/\r.off<size then some (off+r.off,r.ty,some r.m)else none
   |_=>none
 |_=>[]
def aar (place:Nat->Option (Nat×Nat))(Γ : List OF):List (Nat×Operand)->RR->RR
 |[],R=>R
 | (i,x)::r,R=>match place i with
   |some (off,size)=>aar place Γ r ((R.filter λe=>decide (e.1<off)||decide (off+size<=e.1))++Gn Γ off size x)
   |none=>R
section
variable {P:Program} {F:TA} {g:Own} {dp:Nat} {Γ : List OF} {a:Act} {w:World}
theorem abS {z:Array Value}{L:List (Nat×Nat)}{R:RR}(h:Q8 z L=some R):Rk g dp z R:=by
 unfold Q8 at h;split at h
 ·rename_i hz;cases h;intro e he;rw[bu]at he;obtain⟨e0,h0,rfl⟩:=he;rw[bf]at hz;have:=hz e0 h0;cases hc:z[e0.1]? with
  |none=>rw[hc]at this;cases this
  |some v=>rw[hc]at this;exact⟨v,rfl,UF this⟩
 ·cases h
theorem Rk.splice {cs:Array Value}{R:RR}(h:Rk g dp cs R){off:Nat}{v:Value}(hfit:off+v.cells.size<=cs.size){x:Operand}(hΓ : ∀f,f ∈ Γ -> FD P F g dp a w f)(hv:a.eval x=v){cs':Array Value}(hcs:cs'.toList=splice cs.toList off v.cells.toList) :
 Rk g dp cs' ((R.filter λe=>decide (e.1<off)||decide (off+v.cells.size<=e.1))++Gn Γ off v.cells.size x):=by
 have hget:∀j:Nat,cs'[j]? = if j<off then cs[j]? else if j<off+v.cells.size then v.cells[j-off]? else cs[j]?:= λj=>by rw[<- xu,hcs,ru _ _ _ _ (by simpa using hfit)];simp
 intro e he;rw[bG]at he;rcases he with he|he
 ·rw[bF]at he;obtain⟨h1,h2⟩:=he;obtain⟨u,hu,hg⟩:=h e h1;simp only[Bool.or_eq_true,aC]at h2;refine⟨u,?_,hg⟩;rw[hget];rcases h2 with h2|h2
  ·rw[aA h2];exact hu
  ·rw[au aI,au aI];exact hu
 ·unfold Gn at he;split at he
  ·rename_i s;rw[eG]at he;obtain⟨f,hf,he⟩:=he;split at he
   ·rename_i y r;split at he
    ·rename_i hc;cases he;obtain⟨rfl,hlt⟩:=hc;obtain⟨u,hu,hg⟩:=hΓ _ hf;have e1:a.eval (.tmp y)=a.tmps.getD y undef:=rfl;rw[e1]at hv;rw[hv]at hu;refine⟨u,?_,hg⟩;rw[hget,au aI,aA aI,show off+r.off-off=r.off by omega];exact hu
    ·cases he
   ·cases he
  ·cases he
theorem Vt {place:Nat->Option (Nat×Nat)}(hΓ : ∀f,f ∈ Γ -> FD P F g dp a w f):∀(ps:List (Nat×Operand)) (cs out:Array Value) (R:RR),Rk g dp cs R->uS place cs (ps.map λp=>(p.1,a.eval p.2))=some out->Rk g dp out (aar place Γ ps R)/\out.size=cs.size
 | [],cs,out,R,h,he=>by simp only[jP,uS]at he;cases he;exact⟨h,rfl⟩
 | (i,x)::r,cs,out,R,h,he=>by
   simp only[bT,uS]at he;simp only[aar];cases hp:place i with
   |none=>rw[hp]at he;cases he
   | some q=>
     obtain⟨off,size⟩:=q;rw[hp]at he
     dsimp only at he⊢
     split at he
     ·cases he
     ·rename_i hc;have h1:(a.eval x).cells.size=size:=(by simp at hc;exact hc.1);have h2:off+(a.eval x).cells.size<=cs.size:=(by simp at hc;exact hc.2);have hf:=foldl_set (a.eval x).cells off cs h2;have:=Vt hΓ r _ out _ (h.splice h2 hΓ rfl hf) he;rw[h1]at this;refine⟨this.1,this.2.trans ?_⟩;rw[<- nN,hf,length_splice _ _ _ (by simpa using h2)];simp
def mk (d j:Nat):Nat:=1000+d*100+j
def rowOf (d:Nat)(R:RR):List Ref:=R.map λe=>⟨e.1,e.2.1,match e.2.2 with|some m=>m|none=>mk d e.1⟩
theorem V8 {cs:Array Value}{R:RR}(h:Rk g dp cs R)(d:Nat):∀r,r∈rowOf d R->∃u,cs[r.off]? = some u/\GR g u r.ty (.tag dp r.m):=by
 intro r hr;rw[rowOf,bu]at hr;obtain⟨e,he,rfl⟩:=hr;obtain⟨u,hu,hg⟩:=h e he;refine⟨u,hu,?_⟩;cases hm:e.2.2 with
 |some m=>rw[hm]at hg;exact hg
 |none=>rw[hm]at hg;exact .inl hg
theorem VQ {t:TypeId}{v:Value}{p:Addr}{w w':World}(h:(newVar t v).run P w = .ok p w'):p=⟨w.heap.size,0,none⟩/\w'=w.alloc (.cells v.cells t):=by rw[GK]at h;cases h;exact⟨rfl,rfl⟩
theorem Q9 {t:TypeId}{z:Value}{w w':World}(h:(zeroValue t).run P w = .ok z w'):(∃i,P.info? t=some i/\i.zero=some z)/\w'=w:=by
 unfold zeroValue at h;obtain⟨i,w1,h1,h2⟩:=eU h;obtain⟨hi,rfl⟩:=Kv h1;split at h2
 ·rename_i v hv;obtain⟨rfl,rfl⟩:=je h2;exact⟨⟨i,hi,hv⟩,rfl⟩
 ·cases h2
def ZG (d:Nat)(row:List Ref):List OF:=.vp d d 0::row.map (.row d)
theorem OW.ZG (h:OW P F g dp Γ a w){d:Nat}(hd:d<a.tmps.size){cs:Array Value}{e:Nat}{row:List Ref}(hc:∀r,r∈row->∃u,cs[r.off]? = some u/\GR g u r.ty (.tag dp r.m)){N:Nat}(hN:N<=w.heap.size) :
 ∃g',Rel dp N g g'/\OW P F g' dp (ZG d row ++ Γ.filter (I8 d)) (a.put (some d) (.pointer (some ⟨w.heap.size,0,none⟩))) (w.alloc (.cells cs e)):=by
 have hn:g w.heap.size=none:=by
  cases hg:g w.heap.size with
  |none=>rfl
  |some B=>exact eF (h.good.lt hg) (Bz _)
 have h1:=(h.drop d (.pointer (some ⟨w.heap.size,0,none⟩))).newVar (cs:=cs) (e:=e) (row:=row) (d:=dp) (b:=d) hc;refine⟨_,Rel.new hn hN,h1.good,λf hf=>?_⟩;rw[bG]at hf;have hs:=iq (v:=.pointer (some ⟨w.heap.size,0,none⟩)) hd;have hg:(g.upd w.heap.size (.var row dp d)) w.heap.size=some (.var row dp d):=by simp[yN]
 rcases hf with hf|hf
 ·simp only[Ab.ZG,aK,bu]at hf;rcases hf with rfl|⟨r,hr,rfl⟩
  ·exact⟨w.heap.size,row,hs,hs,hg⟩
  ·exact⟨w.heap.size,row,hs,hg,hr⟩
 ·exact h1.fs f hf
end
end
end Go.Ab
