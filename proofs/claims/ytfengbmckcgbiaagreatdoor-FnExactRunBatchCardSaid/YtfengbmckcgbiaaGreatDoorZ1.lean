/- What abstract codes mean (part 1). No conditions. -/
import Derived.Below
import Derived.OwnWalk
import Derived.Orders
import Derived.Lib.Bytealg
import Derived.Lib.Overlaps
import Derived.Laws.Externs
import Derived.KernelRfl
import Derived.Lib.ItoaNum
import Derived.Laws.Cells
import Derived.Lib.Strings
import Derived.Laws.BytesString
import Derived.Laws.MakeOwn
import Derived.Laws.Tables
import Derived.Laws.CopyRow
import Derived.Laws.AppendOwn
import Derived.Laws.OwnMore
import Derived.Tactics
import Derived.Shelf.Strings.Builder1
import Derived.Shelf.Strconv.Itoa3
import Derived.Lib.AppendIntMem
import Derived.Test.YtfengbmckcgbiaaGreatDoorProg
import Derived.Lib.ItoaLen
import Derived.ProofKit
import Derived.Lib.LaidTab
import Derived.OpenShut
import Derived.Carry
import Derived.Stop.LaidErr
import Derived.Shelf.Vars
import Derived.Test.YtfengbmckcgbiaaGreatDoorCards
import Derived.Test.YtfengbmckcgbiaaGreatDoorTie
import Derived.Deep.DeepHandedRow
import Derived.Deep.DeepWitnessRowRef
import Derived.Lay
set_option linter.unusedVariables false
set_option linter.unusedSimpArgs false
open Array renaming getElem?_push->D9,getElem?_eq_some_iff->eH,getD_eq_getD_getElem?->fH,getElem?_eq_getElem->lZ,length_toList->nN,getElem?_range->qK,getElem?_map->qp,empty_append->uU,range->wz,getElem?_eq_none->xe,getElem?_toList->xw,size_append->yX,ext'->zC
open BitVec renaming ofInt->Em
open Bool renaming and_eq_true->ah,not_eq_true'->kX,false_eq_true->qw
open Go.Act renaming put->jH
open Go.Addr renaming add->CJ
open Go.Builtin renaming clear_->ED,len_->Gh,zeroCells->di,append_->iM,firstCells->jb,copy_->ni,lenOf->rY
open Go.Deferred renaming ofValue->AL
open Go.Extern renaming allRows->EE,findNext->wP,allNextRows->xx,allGenericRows->yB,find->yJ,allTypedRows->zl
open Go.Extern.SlicesOverlaps renaming overlaps->yI
open Go.Instr renaming sliceBounds->Ae,fieldAt->BM,storeAt->BN,alloc->DD,slice->DF,extract->FD,field->Gv,sureAddr->kY,loadAt->qM,fill->uT,indexAt->xC,sliceAt->zD
open Go.IntKind renaming i64->yK
open Go.Lib renaming compareBytes->jZ,indexByte->xE
open Go.Op renaming equalIn->Bv,intArith->Gw,bytesLess->iR
open Go.Result renaming andThen_ok->bT
open Go.Sem renaming run_pure->dA,run_bind->dN
open Go.Value renaming int->mX,cells->oH,pointer->rZ
open Go.World renaming shape?->CP,cell?->iy
open Int renaming natCast_mul->Gi,ofNat_le->Ig,toNat_natCast->ai
open List renaming take_zero->A7,getElem?_zip_eq_some->BA,length_replicate->Df,getElem?_eq_getElem->aB,mem_cons->aK,getElem?_eq_some_iff->aT,mem_cons_self->bD,mem_filter->bF,mem_append->bG,map_cons->bU,replicate->bY,length_append->bZ,all_eq_true->bf,mem_map->bu,getElem?_append_left->cu,getElem?_map->dG,getD->dJ,getElem?_take->dK,getElem?_append_right->dU,mem_filterMap->eG,all_cons->fZ,mem_of_mem_take->gI,eq_nil_of_length_eq_zero->gQ,getElem?_drop->gW,mem_of_getElem?->iF,length_take->iK,length_nil->iT,length_cons->iU,map_nil->jP,append_assoc->jh,getElem?_eq_none->kV,nil_append->lC,map_toArray->lU,mem_of_mem_drop->lu,append_nil->mM,size_toArray->o6,mem_or_eq_of_mem_set->qg,getElem?_set->rq,getElem?_of_mem->vW,eq_of_mem_replicate->vY,length_map->vg,foldl_cons->wH,map_take->xG,getElem?_range->yf,replicate_succ->yh
open List.cons renaming injEq->x8
open Nat renaming mul_add->AU,lt_irrefl->BB,le_of_not_lt->BQ,min_comm->Eo,le_refl->aC,mul_le_mul_right->aY,add_mul->dL,zero_add->fV,min->gu,lt_of_lt_of_le->lF,beq->oJ,add_zero->sG,add_assoc->uf,mul_comm->wY,mul_one->xA,mod_eq_of_lt->xH,mod_lt->xh,add_comm->yu
open Option renaming map_some->kL,map_none->lQ,isNone_iff_eq_none->vX
open Option.some renaming injEq->aH
open Prod.mk renaming injEq->dF
open UInt8 renaming ofNat->gz
namespace Go.Ab
open Go
theorem xB {p:Prop}(h:p:=by decide):p:=h
theorem mg {p:Prop}(h:p:=by simp):p:=h
theorem lS {p:Prop}(h:p:=by kernel_rfl):p:=h
theorem aI {p:Prop}(h:p:=by omega):p:=h
abbrev eF :=@absurd
abbrev aZ :=@beq_iff_eq
abbrev sK :=@congrArg
abbrev bg :=@decide_eq_false
abbrev dn :=@decide_eq_false_iff_not
abbrev dW :=@decide_eq_true
abbrev aF :=@decide_eq_true_eq
abbrev au :=@if_neg
abbrev aA :=@if_pos
abbrev jY :=@if_true
abbrev IH :=Nat->Option (Array Value)
def IH.cell (I:IH)(a:Addr):Option Value:=
 if a.spot.isSome then none else match I a.block with
  |some c=>c[a.off]?
  |none=>none
def IH.le (I J:IH):Prop:=∀b c,I b=some c->J b=some c
theorem IH.le_refl (I:IH):I.le I:=λ_ _ h=>h
theorem IH.le_trans {I J K:IH}(h:I.le J)(k:J.le K):I.le K:=λb c e=>k b c (h b c e)
theorem IH.Oe {I J:IH}(h:I.le J){a:Addr}{v:Value}(hc:I.cell a=some v):J.cell a=some v:=by
 unfold IH.cell at *;split at hc
 ·cases hc
 ·cases hb:I a.block with
  |none=>simp[hb]at hc
  |some c=>simp[hb]at hc;rename_i hs;simp[hs,h _ _ hb,hc]
def Agree (I:IH)(w:World):Prop:=∀b c,I b=some c->∃e fr,w.heap[b]? = some (.cells c e fr)
theorem Agree.cell {I:IH}{w:World}(h:Agree I w){a:Addr}{v:Value}(hc:I.cell a=some v):w.cell? a=some v:=by
 unfold IH.cell at hc;split at hc
 ·cases hc
 ·cases hb:I a.block with
  |none=>simp[hb]at hc
  | some c=>obtain⟨e,fr,hw⟩:=h _ _ hb;rename_i hs;simp[hb]at hc;simp[iy,hw,hs,hc]
theorem Ac {w:World}{b:Nat}{o:Obj}(h:w.heap[b]? = some o):b<w.heap.size:=(eH.1 h).1
theorem Agree.lt {I:IH}{w:World}(h:Agree I w){b:Nat}{c:Array Value}(hc:I b=some c):b<w.heap.size:=by obtain⟨e,fr,hw⟩:=h _ _ hc;exact Ac hw
inductive Cell where
 |lit (v:Value)
 |str (l:List UInt8)
 |sl (sz:Nat) (es:List (List Cell))
 deriving Inhabited
inductive Rd (I:IH):Value->Cell->Prop
 |lit (v:Value) (hv:v.oneCell'=true):Rd I v (.lit v)
 |str (l:List UInt8) (h:l.length<=maxLen):Rd I (.string ⟨⟨l⟩⟩) (.str l)
 |sl (a:Option Addr) (len cap sz:Nat) (es:List (List Cell)) (u:Nat->Nat->Value)
     (hlen:es.length=len) (hcap:len<=cap) (hmax:cap<=maxLen) (hsz:∀e,e∈es->e.length=sz)
     (ha:0<len->a≠none)
     (hcell:∀ad,a=some ad->∀i j,i<len->j<sz->I.cell (ad.add (i*sz+j))=some (u i j))
     (hr:∀i j c,(es.getD i [])[j]? = some c->Rd I (u i j) c):Rd I (.slice a len cap) (.sl sz es)
theorem Rd.mono {I J:IH}(hle:I.le J){v:Value}{c:Cell}(h:Rd I v c):Rd J v c:=by
 induction h with
 |lit v hv=>exact .lit v hv
 |str l h=>exact .str l h
 | sl a len cap sz es u hlen hcap hmax hsz ha hcell hr ih=>exact .sl a len cap sz es u hlen hcap hmax hsz ha (λad e i j hi hj=>IH.Oe hle (hcell ad e i j hi hj)) ih
theorem Rd.one {I:IH}{v:Value}{c:Cell}(h:Rd I v c):v.oneCell'=true:=by
 cases h with
 |lit v hv=>exact hv
 |str l h=>rfl
 |sl=>rfl
inductive AC where
 |c (x:Cell)
 |ptr (b off:Nat)
 |own (b n sz:Nat)
 |BH (b i sz off:Nat)
 |sub (b lo n:Nat) (c:Option Nat) (sz:Nat)
 |nS (sz:Nat)
 |Iq (cs:List Cell)
 |fn (f:FuncId) (caps:List Nat)
 |opt (T b:Nat)
 |zW (b n:Nat)
 |err (g:Bool)
 |Ns
 deriving Inhabited
abbrev Ren :=Nat->Option (Nat×Nat)
def Ren.le (ρ σ:Ren):Prop:=∀b x,ρ b=some x->σ b=some x
theorem Ren.le_refl (ρ:Ren):ρ.le ρ:=λ_ _ h=>h
def GC (I:IH)(ρ:Ren)(v:Value):AC->Prop
 |.c x=>Rd I v x
 |.ptr b off=>∃k cap,ρ b=some (k,cap)/\v = .pointer (some ⟨k,off,none⟩)
 |.own b n _=>∃k cap a c,ρ b=some (k,cap)/\v = .slice a n c/\n<=c/\c<=cap/\(cap≠0->a=some ⟨k,0,none⟩)
 |.BH b i sz off=>∃k cap,ρ b=some (k,cap)/\v = .pointer (some ⟨k,i*sz+off,none⟩)
 |.sub b lo n c sz=>∃k cap a c',ρ b=some (k,cap)/\v = .slice a n c'/\n<=c'/\lo+c'<=cap/\(∀c0,c=some c0->c'=c0)/\(c'≠0\/(lo=0/\cap≠0)->a=some ⟨k,lo*sz,none⟩)
 |.nS _=>v = .slice none 0 0
 |.Iq cs=>∃p:Addr,v = .pointer (some p)/\∀(j:Nat) (c:Cell),cs[j]? = some c->∃u,I.cell (p.add j)=some u/\Rd I u c
 |.fn f caps=>∃ks:List Nat,ks.length=caps.length/\(∀(j b k:Nat),caps[j]? = some b->ks[j]? = some k->∃cap,ρ b=some (k,cap)) /\
  v = .func (.func f) #[] (ks.map λk=>rZ (some ⟨k,0,none⟩)).toArray
 |.opt T b=>∃k,ρ b=some (k,T)/\(v = .pointer none\/v = .pointer (some ⟨k,0,none⟩))
 |.zW b n=>∃k cap,ρ b=some (k,cap)/\n<=cap/\((cap=0/\v = .slice none 0 0)\/(cap≠0/\v = .slice (some ⟨k,0,none⟩) n cap))
 |.err g=>if g=true then ∃t p,v = .iface t p else v = .nilIface
 |.Ns=>v.oneCell'=true
theorem GC.mono {I J:IH}(hle:I.le J){ρ σ:Ren}(hr:ρ.le σ){v:Value}{x:AC}(h:GC I ρ v x):GC J σ v x:=by
 cases x with
 |c x=>exact Rd.mono hle h
 |ptr b off=>obtain⟨k,cap,h1,h2⟩:=h;exact⟨k,cap,hr _ _ h1,h2⟩
 |own b n sz=>obtain⟨k,cap,a,c,h1,h2⟩:=h;exact⟨k,cap,a,c,hr _ _ h1,h2⟩
 |BH b i sz off=>obtain⟨k,cap,h1,h2⟩:=h;exact⟨k,cap,hr _ _ h1,h2⟩
 |sub b lo n c sz=>obtain⟨k,cap,a,c',h1,h2⟩:=h;exact⟨k,cap,a,c',hr _ _ h1,h2⟩
 |nS sz=>exact h
 | Iq cs=>obtain⟨p,hv,hc⟩:=h;exact⟨p,hv,λj c hj=>let ⟨u,h1,h2⟩:=hc j c hj;⟨u,IH.Oe hle h1,h2.mono hle⟩⟩
 | fn f caps=>obtain⟨ks,h1,h2,h3⟩:=h;exact⟨ks,h1,λj b k hb hk=>let ⟨cap,hc⟩:=h2 j b k hb hk;⟨cap,hr _ _ hc⟩,h3⟩
 |opt T b=>obtain⟨k,h1,h2⟩:=h;exact⟨k,hr _ _ h1,h2⟩
 |zW b n=>obtain⟨k,cap,h1,h2⟩:=h;exact⟨k,cap,hr _ _ h1,h2⟩
 |err g=>exact h
 |Ns=>exact h
theorem GC.one {I:IH}{ρ:Ren}{v:Value}{x:AC}(h:GC I ρ v x):v.oneCell'=true:=by
 cases x with
 |c x=>exact Rd.one h
 |ptr b off=>obtain⟨k,cap,h1,rfl⟩:=h;rfl
 |own b n sz=>obtain⟨k,cap,a,c,h1,rfl,_⟩:=h;rfl
 |BH b i sz off=>obtain⟨k,cap,h1,rfl⟩:=h;rfl
 |sub b lo n c sz=>obtain⟨k,cap,a,c',h1,rfl,_⟩:=h;rfl
 |nS sz=>simp only[GC]at h;subst h;rfl
 |Iq cs=>obtain⟨p,rfl,hc⟩:=h;rfl
 |fn f caps=>obtain⟨ks,h1,h2,rfl⟩:=h;rfl
 |opt T b=>obtain⟨k,h1,rfl|rfl⟩:=h<;>rfl
 |zW b n=>obtain⟨k,cap,h1,_,⟨_,rfl⟩|⟨_,rfl⟩⟩:=h<;>rfl
 | err g=>
   simp only[GC]at h;split at h
   ·obtain⟨t,p,rfl⟩:=h;rfl
   ·subst h;rfl
 |Ns=>exact h
inductive Box where
 |absent
 |dead
 |var (xs:List AC)
 |dat (sz:Nat) (es:List (List Cell))
 |H8 (sz:Nat) (es:List (List Cell))
 |row (e:Nat) (l:List UInt8)
 deriving Inhabited
def Box.uses (x:Box)(p:Option (Nat×Nat))(k:Nat):Prop:=
 match x with
 |.var _=>∃cap,p=some (k,cap)
 |.dat _ _=>∃cap,p=some (k,cap)/\cap≠0
 |.row _ _=>∃cap,p=some (k,cap)/\cap≠0
 |_=>False
def yE (I:IH)(ρ:Ren)(w:World)(b:Nat):Box->Prop
 |.absent=>ρ b=none
 |.dead=>True
 |.var xs=>∃k cap cs,ρ b=some (k,cap)/\w.heap[k]? = some (.cells cs cap (0,0))/\cs.size=xs.length /\
  ∀(j:Nat) (u:Value) (x:AC),cs[j]? = some u->xs[j]? = some x->GC I ρ u x
 |.dat sz es=>∃k cap,ρ b=some (k,cap)/\es.length<=cap/\cap<=maxLen/\(∀e,e∈es->e.length=sz) /\
  (cap≠0->∃cs e,w.heap[k]? = some (.cells cs e (0,0))/\cs.size=cap*sz/\(∀(j:Nat) (u:Value),cs[j]? = some u->u.oneCell'=true) /\
   ∀(i j:Nat) (c:Cell),(es.getD i [])[j]? = some c->∃u,cs[i*sz+j]? = some u/\Rd I u c)
 |.H8 sz es=>∃k cap,ρ b=some (k,cap)/\es.length<=cap/\cap<=maxLen/\(∀e,e∈es->e.length=sz) /\
  (cap≠0->∃cs,I k=some cs /\
   ∀(i j:Nat) (c:Cell),(es.getD i [])[j]? = some c->∃u,cs[i*sz+j]? = some u/\Rd I u c)
 |.row e l=>∃k cap,ρ b=some (k,cap)/\l.length<=cap/\cap<=maxLen /\
  (cap≠0->∃cs,w.heap[k]? = some (.cells cs e (0,0))/\cs.size=cap/\(∀(j:Nat) (u:Value),cs[j]? = some u->u.oneCell'=true) /\
   ∀(j:Nat) (x:UInt8),l[j]? = some x->cs[j]? = some (.int .u8 x.toNat))
structure BX (I:IH)(ρ:Ren)(w:World)(bx:Nat->Box):Prop where
 ok:∀b,yE I ρ w b (bx b)
 inj:∀b b' k,(bx b).uses (ρ b) k->(bx b').uses (ρ b') k->b=b'
 fresh:∀b k,(bx b).uses (ρ b) k->I k=none
theorem yE.lt {I:IH}{ρ:Ren}{w:World}{b k:Nat}{x:Box}(h:yE I ρ w b x)(hu:x.uses (ρ b) k):k<w.heap.size:=by
 cases x with
 |absent=>exact hu.elim
 |dead=>exact hu.elim
 | var xs=>obtain⟨k',cap,cs,hr,hw,_⟩:=h;obtain⟨cap',hu⟩:=hu;rw[hr]at hu;simp only[aH,dF]at hu;rw[<- hu.1];exact Ac hw
 |H8 sz es=>exact hu.elim
 | row e l=>obtain⟨k',cap,hr,_,_,h⟩:=h;obtain⟨cap',hu,h0⟩:=hu;rw[hr]at hu;simp only[aH,dF]at hu;obtain⟨rfl,rfl⟩:=hu;obtain⟨cs,hw,_⟩:=h h0;exact Ac hw
 | dat sz es=>obtain⟨k',cap,hr,_,_,_,h⟩:=h;obtain⟨cap',hu,h0⟩:=hu;rw[hr]at hu;simp only[aH,dF]at hu;obtain⟨rfl,rfl⟩:=hu;obtain⟨cs,e,hw,_⟩:=h h0;exact Ac hw
inductive AV where
 |one (x:AC)
 |agg (xs:List AC)
 |AB (xs:List (Bool×List AC))
 deriving Inhabited
def NZ (I:IH)(ρ:Ren)(vs:List Value)(xs:List AC):Prop:=
 vs.length=xs.length/\∀(j:Nat) (v:Value) (x:AC),vs[j]? = some v->xs[j]? = some x->GC I ρ v x
theorem NZ.mono {I J:IH}(hle:I.le J){ρ σ:Ren}(hr:ρ.le σ){vs:List Value}{xs:List AC}(h:NZ I ρ vs xs):NZ J σ vs xs:=
 ⟨h.1,λj v x hv hx=>(h.2 j v x hv hx).mono hle hr⟩
def GP (I:IH)(ρ:Ren)(v:Value)(p:Bool×List AC):Prop:=
 if p.1 then ∃cs:Array Value,v = .agg cs/\NZ I ρ cs.toList p.2 else ∃x,p.2=[x]/\GC I ρ v x
def GV (I:IH)(ρ:Ren)(v:Value):AV->Prop
 |.one x=>GC I ρ v x
 |.agg xs=>∃cs:Array Value,v = .agg cs/\NZ I ρ cs.toList xs
 |.AB ps=>∃vs:Array Value,v = .tuple vs/\vs.size=ps.length/\∀(j:Nat) (v:Value) (p:Bool×List AC),vs[j]? = some v->ps[j]? = some p->GP I ρ v p
theorem GP.mono {I J:IH}(hle:I.le J){ρ σ:Ren}(hr:ρ.le σ){v:Value}{p:Bool×List AC}(h:GP I ρ v p):GP J σ v p:=by
 unfold GP at *;split<;>rename_i hp
 ·rw[aA hp]at h;obtain⟨cs,e,hc⟩:=h;exact⟨cs,e,hc.mono hle hr⟩
 ·rw[au hp]at h;obtain⟨x,e,hc⟩:=h;exact⟨x,e,hc.mono hle hr⟩
theorem GV.mono {I J:IH}(hle:I.le J){ρ σ:Ren}(hr:ρ.le σ){v:Value}{x:AV}(h:GV I ρ v x):GV J σ v x:=by
 cases x with
 |one x=>exact GC.mono hle hr h
 |agg xs=>obtain⟨cs,e,hc⟩:=h;exact⟨cs,e,hc.mono hle hr⟩
 |AB ps=>obtain⟨vs,e,hl,hc⟩:=h;exact⟨vs,e,hl,λj v p hv hp=>(hc j v p hv hp).mono hle hr⟩
inductive Slot where
 |none
 |v (g:Bool) (x:AV)
def GSl (I:IH)(ρ:Ren)(v:Value):Slot->Prop
 |.none=>True
 |.v g x=>(g=true->GV I ρ v x)/\(g=false->v=undef)
theorem GSl.mono {I J:IH}(hle:I.le J){ρ σ:Ren}(hr:ρ.le σ){v:Value}{s:Slot}(h:GSl I ρ v s):GSl J σ v s:=by
 cases s with
 |none=>trivial
 |v g x=>exact⟨λhg=>(h.1 hg).mono hle hr,h.2⟩
structure gY where
 tm:Nat->Slot
 bx:Nat->Box
theorem gY.ext' {s t:gY}(h1:s.tm=t.tm)(h2:s.bx=t.bx):s=t:=by cases s;cases t;simp at h1 h2;rw[h1,h2]
def gY.put (st:gY)(t:Nat)(s:Slot):gY:=⟨λt'=>if t'=t then s else st.tm t',st.bx⟩
def gY.Ap (st:gY)(b:Nat)(x:Box):gY:=⟨st.tm,λb'=>if b'=b then x else st.bx b'⟩
theorem gY.V8 (st:gY)(t t':Nat)(s:Slot):(st.put t s).tm t'=if t'=t then s else st.tm t':=rfl
theorem gY.anb (st:gY)(t:Nat)(s:Slot):(st.put t s).bx=st.bx:=rfl
theorem gY.alk (st:gY)(b:Nat)(x:Box):(st.Ap b x).tm=st.tm:=rfl
theorem gY.tu (st:gY)(b b':Nat)(x:Box):(st.Ap b x).bx b'=if b'=b then x else st.bx b':=rfl
structure GS (I:IH)(ρ:Ren)(n:Nat)(st:gY)(a:Act)(w:World):Prop where
 agree:Agree I w
 bx:BX I ρ w st.bx
 tm:∀t,t<n->GSl I ρ (a.tmps.getD t undef) (st.tm t)
 size:a.tmps.size=n
 defers:a.defers=[]
structure DW (w w':World)(M:Nat->Prop):Prop where
 os:w'.os=w.os
 tape:w'.tape=w.tape
 output:w'.output=w.output
 size:w.heap.size<=w'.heap.size
 block:∀k,k<w.heap.size->¬M k->w'.heap[k]? = w.heap[k]?
theorem DW.refl (w:World)(M:Nat->Prop):DW w w M:=⟨rfl,rfl,rfl,aC _,λ_ _ _=>rfl⟩
theorem DW.trans {a b c:World}{M N:Nat->Prop}(h:DW a b M)(k:DW b c N)(hN:∀x,x<a.heap.size->N x->M x):DW a c M:=
 ⟨k.os.trans h.os,k.tape.trans h.tape,k.output.trans h.output,Nat.le_trans h.size k.size,
  λx hx hm=>(k.block x (lF hx h.size) (λhn=>hm (hN x hx hn))).trans (h.block x hx hm)⟩
inductive pU where
 |t (s:Nat)
 |k (x:AC)
 deriving Inhabited
def Slot.g : Slot->Bool
 |.none=>false
 |.v g _=>g
def Slot.x : Slot->AV
 |.none=>.one .Ns
 |.v _ x=>x
def pU.ev (tm:Nat->Slot):pU->Slot
 |.t s=>tm s
 |.k x=>.v true (.one x)
def pU.slots : pU->List Nat
 |.t s=>[s]
 |.k _=>[]
inductive nR where
 |mv (x:pU)
 |pick (c a b:pU)
 |load (agg:Bool) (k:Nat) (p:pU)
 |store (agg:Bool) (k:Nat) (p x:pU)
 |alloc (l:Nat) (zs:List AC)
 |O7 (T e l r:Nat)
 |O6 (l sz n:Nat) (zs:List Cell)
 |box (l:Nat) (x:pU)
 |build (zs:List AC) (parts:List (Nat×Nat×pU))
 |uB (l sz n:Nat) (zs:List Cell) (parts:List (Nat×pU))
 |makes (l sz bytes:Nat) (zs:List Cell) (n m:pU)
 |bin (o:BinOp) (x y:pU)
 |beq (ng:Bool) (x y:pU)
 |not (x:pU)
 |neg (x:pU)
 |Md (k:IntKind) (x:pU)
 |Vq (x:pU)
 |same (x:pU)
 |Zb (f:FuncId) (caps:List pU)
 |Wv (x:pU) (lo hi:Option pU)
 |IB (sz:Nat) (x:pU) (lo hi:Option pU)
 |Wu (sz n:Nat) (x:pU)
 |X5 (x:pU)
 |nK (off:Nat) (x:pU)
 |field (agg:Bool) (off k:Nat) (x:pU)
 |Aj (sz:Nat) (x i:pU)
 |VL (sz n:Nat) (x i:pU)
 |idxs (x i:pU)
 |extract (x:pU) (i:Nat)
 |len (x:pU)
 |lens (x:pU)
 |max (x y:pU)
 |min (x y:pU)
 |append (l sz bytes:Nat) (s x:pU)
 |copy (sz:Nat) (d x:pU)
 |shf (l:Bool) (x y:pU)
 |afF (x:pU)
 |Bc (sz:Nat) (x:pU) (lo hi:Option pU)
 |sl3 (sz:Nat) (x lo hi mx:pU)
 |abB (l sz bytes:Nat) (s x:pU)
 |Wp (sz:Nat) (d x:pU)
 |adM (sz:Nat) (zs:List Cell) (x:pU)
 |afI (x y:pU)
 |aaU (ng:Bool) (x:pU)
 |ovl (x y:pU)
 |af7 (x y:pU)
 |acm (l sz bytes:Nat) (zs:List Cell) (s x:pU)
 |stop
 deriving Inhabited
def nR.qi : nR->List pU
 |.mv x|.load _ _ x|.box _ x|.not x|.neg x|.Md _ x|.Vq x|.same x|.Wu _ _ x|.X5 x|.nK _ x|.field _ _ _ x|.extract x _|.len x|.lens x|.afF x|.adM _ _ x|.aaU _ x=>[x]
 |.pick c a b=>[c,a,b]
 |.store _ _ p x=>[p,x]
 |.alloc _ _|.O7 _ _ _ _|.O6 _ _ _ _|.stop=>[]
 |.build _ ps=>ps.map (·.2.2)
 |.uB _ _ _ _ ps=>ps.map (·.2)
 |.makes _ _ _ _ n m=>[n,m]
 |.bin _ x y|.beq _ x y|.Aj _ x y|.VL _ _ x y|.idxs x y|.max x y|.min x y|.append _ _ _ x y|.copy _ x y|.shf _ x y|.abB _ _ _ x y|.Wp _ x y|.afI x y|.af7 x y|.ovl x y|.acm _ _ _ _ x y=>[x,y]
 |.sl3 _ x a b c=>[x,a,b,c]
 |.Zb _ cs=>cs
 |.Wv x lo hi|.IB _ x lo hi|.Bc _ x lo hi=>x::(lo.toList++hi.toList)
structure FR where
 vc:Prop
 v:AV
 sets:List (Nat×Box)
abbrev yH (k:IntKind)(n:Int):AV:=.one (.c (.lit (.int k n)))
abbrev xX (b:Bool):AV:=.one (.c (.lit (.bool b)))
abbrev LK (l:List UInt8):AV:=.one (.c (.str l))
abbrev vSl (sz:Nat)(es:List (List Cell)):AV:=.one (.c (.sl sz es))
def FR.bad : FR:=⟨False,.one .Ns,[]⟩
def FR.ok (v:AV):FR:=⟨True,v,[]⟩
def Ef (o:BinOp)(k:IntKind)(a b:Int):FR:=
 match o with
 |.add=>.ok (yH k (k.wrap (a+b)))
 |.sub=>.ok (yH k (k.wrap (a-b)))
 |.mul=>.ok (yH k (k.wrap (a*b)))
 |.quo=>⟨b≠0,yH k (k.wrap (a.tdiv b)),[]⟩
 |.rem=>⟨b≠0,yH k (a.tmod b),[]⟩
 |.xor=>.ok (yH k (k.wrap (Em k.bits a ^^^ Em k.bits b).toNat))
 |.and=>.ok (yH k (k.wrap (Em k.bits a &&& Em k.bits b).toNat))
 |.eql=>.ok (xX (a==b))
 |.neq=>.ok (xX (a != b))
 |.lss=>.ok (xX (decide (a<b)))
 |.leq=>.ok (xX (decide (a<=b)))
 |.gtr=>.ok (xX (decide (b<a)))
 |.geq=>.ok (xX (decide (b<=a)))
 |_=>.bad
def Ei (o:BinOp)(a b:List UInt8):FR:=
 match o with
 |.add=>⟨a.length+b.length<=maxLen,LK (a++b),[]⟩
 |.eql=>.ok (xX (a==b))
 |.neq=>.ok (xX (!(a==b)))
 |.lss=>.ok (xX (iR a b))
 |.leq=>.ok (xX (iR a b||a==b))
 |.gtr=>.ok (xX (!(iR a b||a==b)))
 |.geq=>.ok (xX (!(iR a b)))
 |_=>.bad
def Uf (o:BinOp)(x y:AV):FR:=
 match x,y with
 |.one (.c (.lit (.int k a))),.one (.c (.lit (.int k' b)))=>⟨k=k'/\(Ef o k a b).vc,(Ef o k a b).v,[]⟩
 |.one (.c (.str a)),.one (.c (.str b))=>Ei o a b
 |_,_=>.bad
def aal (neg:Bool)(x y:AV):FR:=
 match x,y with
 |.one (.c (.lit (.bool a))),.one (.c (.lit (.bool b)))=>.ok (xX (if neg then a != b else a==b))
 |_,_=>.bad
def TV (t:Bool)(x y:AV):AV:=
 match x,y with
 |.one (.c (.lit (.bool a))),.one (.c (.lit (.bool b)))=>xX (bif t then a else b)
 |_,_=>if t then x else y
def Box.arr : Box->Option (Nat×List (List Cell))
 |.dat sz es=>some (sz,es)
 |.H8 sz es=>some (sz,es)
 |_=>none
def dataOf (bx:Nat->Box):AC->Option Cell
 |.c x=>some x
 |.nS sz=>some (.sl sz [])
 | .own b n sz=>match(bx b).arr with
   |some (_,es)=>some (.sl sz (es.take n))
   |none=>none
 |_=>none
def L6 (bx:Nat->Box):List AC->Option (List Cell)
 |[]=>some []
 | x::r=>match dataOf bx x,L6 bx r with
   |some c,some cs=>some (c::cs)
   |_,_=>none
def qH : List AC->List Nat
 |[]=>[]
 |.own b _ _::r=>b::qH r
 |_::r=>qH r
def JK : Box->Box
 |.dat sz es=>.H8 sz es
 |x=>x
def BC (bx:Nat->Box):List AC->Prop
 |[]=>True
 | .own b n sz::r=>(match(bx b).arr with
   |some (sz',es)=>sz'=sz/\n<=es.length
   |none=>False)/\BC bx r
 |_::r=>BC bx r
def YW (bx:Nat->Box)(l:List Nat):List (Nat×Box):=l.map λb=>(b,JK (bx b))
def AV.cells : AV->List AC
 |.one x=>[x]
 |.agg xs=>xs
 |.AB _=>[]
def AV.flat : AV->Prop
 |.AB _=>False
 |_=>True
def splice {α:Type}(xs:List α)(off:Nat)(ys:List α):List α:=xs.take off++ys++xs.drop (off+ys.length)
def BF (agg:Bool)(k:Nat)(p:AV)(bx:Nat->Box):FR:=
 match p with
 | .one (.ptr b off)=>match bx b with
   | .var xs=>if agg then⟨off+k<=xs.length,.agg ((xs.drop off).take k),[]⟩else match xs[off]? with
     |some x=>.ok (.one x)
     |none=>.bad
   |_=>.bad
 | .one (.BH b i sz off)=>match(bx b).arr with
   | some (sz',es)=>if agg then⟨sz'=sz/\i<es.length/\off+k<=sz,.agg ((((es.getD i []).drop off).take k).map .c),[]⟩
     else⟨sz'=sz/\i<es.length/\off<sz,.one (.c ((es.getD i []).getD off default)),[]⟩
   |_=>.bad
 |.one (.Iq cs)=>if agg then⟨k<=cs.length,.agg ((cs.take k).map .c),[]⟩else⟨0<cs.length,.one (.c (cs.getD 0 default)),[]⟩
 |_=>.bad
def Be (agg:Bool)(k:Nat)(p x:AV)(bx:Nat->Box):FR:=
 match x,agg with
 |.AB _,_=>.bad
 |.one _,true=>.bad
 |.agg _,false=>.bad
 | x,_=>match p with
   | .one (.ptr b off)=>match bx b with
     |.var xs=>⟨x.cells.length=k/\off+k<=xs.length,.one .Ns,[(b,.var (splice xs off x.cells))]⟩
     |_=>.bad
   | .one (.BH b i sz off)=>match bx b,L6 bx x.cells with
     |.dat sz' es,some cs=>⟨sz'=sz/\cs.length=k/\i<es.length/\off+k<=sz/\BC bx x.cells/\(qH x.cells).contains b=false,.one .Ns,YW bx (qH x.cells)++[(b,.dat sz (es.set i (splice (es.getD i []) off cs)))]⟩
     |_,_=>.bad
   |_=>.bad
def Vz {α:Type}(zs:List α):List (Nat×List α)->List α
 |[]=>zs
 |(off,xs)::r=>Vz (splice zs off xs) r
def Zl (n:Nat):Nat×Nat×AV->Prop
 |(off,sz,x)=>x.cells.length=sz/\off+sz<=n/\x.flat
def Bl (ev:pU->AV)(bx:Nat->Box)(n sz:Nat):List (Nat×pU)->Option (List (Nat×List Cell))
 |[]=>some []
 | (i,x)::r=>match L6 bx (ev x).cells,Bl ev bx n sz r with
   |some cs,some l=>some ((i,cs)::l)
   |_,_=>none
def xk (ev:pU->AV):List (Nat×pU)->List Nat
 |[]=>[]
 |(_,x)::r=>qH (ev x).cells++xk ev r
def CZ (ev:pU->AV)(bx:Nat->Box):List (Nat×pU)->Prop
 |[]=>True
 |(_,x)::r=>BC bx (ev x).cells/\CZ ev bx r
def Qo (es:List (List Cell)):List (Nat×List Cell)->List (List Cell)
 |[]=>es
 |(i,cs)::r=>Qo (es.set i cs) r
def bytesOf : List (List Cell)->Option (List UInt8)
 |[]=>some []
 | [.lit (.int .u8 n)]::r=>match bytesOf r with
   |some l=>some (gz n.toNat::l)
   |none=>none
 |_=>none
def JJ : List AV->Option (List Nat)
 |[]=>some []
 |.one (.ptr b 0)::r=>(JJ r).map (b :: ·)
 |_=>none
def bnd (ev:pU->AV)(o:Option pU)(dflt:Nat):Option Int:=
 match o with
 |none=>some dflt
 | some x=>match ev x with
   |.one (.c (.lit (.int _ n)))=>some n
   |_=>none
def zB (sz:Nat)(x:AV)(bx:Nat->Box):Option (Prop×List (List Cell)):=
 match x with
 |.one (.c (.sl sz' es))=>some (sz'=sz,es)
 |.one (.nS _)=>some (True,[])
 | .one (.own b n sz')=>match(bx b).arr with
   |some (DV,es)=>some (sz'=sz/\DV=sz/\n<=es.length,es.take n)
   |_=>none
 | .one (.sub b lo n _ sz')=>match(bx b).arr with
   |some (DV,es)=>some (sz'=sz/\DV=sz/\lo+n<=es.length,(es.drop lo).take n)
   |_=>none
 |_=>none
def FU : AV->Option (Nat×Nat×Nat×Option Nat×Nat)
 |.one (.own b n sz)=>some (b,0,n,none,sz)
 |.one (.sub b lo n c sz)=>some (b,lo,n,c,sz)
 |_=>none
def ZB (l:Bool)(x y:AV):FR:=
 match x,y with
 |.one (.c (.lit (.int k a))),.one (.c (.lit (.int _ b)))=>⟨0<=b,yH k (if l then k.wrap (a*2^(min b.toNat k.bits))else a.fdiv (2^(min b.toNat k.bits))),[]⟩
 |_,_=>.bad
def Xb (x:AV):FR:=
 match x with
 |.one (.sub _ _ _ (some c) _)=>.ok (yH .i64 c)
 |.one (.nS _)=>.ok (yH .i64 0)
 |_=>.bad
def Bq (sz:Nat)(x:AV)(lo:Option Int)(hi:Nat->Option Int):FR:=
 match FU x with
 | some (b,l,n,c,sz')=>match lo,hi n with
   |some p,some q=>⟨sz'=sz/\0<=p/\p<=q/\q<=(match c with|some c=>c|none=>n:Nat),.one (.sub b (l+p.toNat) (q-p).toNat (c.map (· - p.toNat)) sz),[]⟩
   |_,_=>.bad
 |none=>.bad
def NP (sz:Nat)(x p q m:AV):FR:=
 match FU x,p,q,m with
 |some (_,_,n,c,sz'),.one (.c (.lit (.int _ p))),.one (.c (.lit (.int _ q))),.one (.c (.lit (.int _ m)))=>⟨sz'=sz/\0<=p/\p<=q/\q<=m/\m<=(match c with|some c=>c|none=>n:Nat),.one .Ns,[]⟩
 |_,_,_,_=>.bad
def Ia (l sz bytes:Nat)(s x:AV)(bx:Nat->Box):FR:=
 match zB sz x bx,s with
 | some (p,ys),.one (.sub b lo n (some c) sz')=>match bx b with
   | .dat DV es=>if n+ys.length<=c then⟨p/\sz'=sz/\DV=sz/\lo+n<=es.length,.one (.sub b lo (n+ys.length) (some c) sz),[(b,.dat sz (splice es (lo+n) ys))]⟩
     else⟨p/\sz'=sz/\DV=sz/\lo+n<=es.length/\(match bx l with|.absent=>True|_=>False)/\(n+ys.length)*(bytes+sz+1)<=2^46,.one (.own l (n+ys.length) sz),[(l,.dat sz ((es.drop lo).take n++ys))]⟩
   |_=>.bad
 |_,_=>.bad
def truncS (m:Nat):AV->AV
 |.one (.sub b lo n c sz)=>.one (.sub b lo (min n m) c sz)
 |x=>x
def Ic (sz:Nat)(d x:AV)(bx:Nat->Box):FR:=
 match FU d with
 | some (b,lo,n,_,sz')=>match zB sz (truncS n x) bx with
   | some (p,ys)=>match bx b with
     |.dat DV es=>⟨p/\sz'=sz/\DV=sz/\lo<=es.length,yH .i64 (gu ys.length n:Nat),[(b,.dat sz (splice es lo (ys.take n)))]⟩
     |_=>.bad
   |none=>.bad
 |none=>.bad
def HY (l sz bytes:Nat)(zs:List Cell)(s x:AV)(bx:Nat->Box):FR:=
 match s,x with
 | .one (.sub b lo n (some c) sz'),.one (.c (.lit (.int k q)))=>match bx b with
   |.dat DV es=>⟨k = .i64/\sz'=sz/\DV=sz/\lo+n<=es.length/\0<=q/\c<n+q.toNat/\(match bx l with|.absent=>True|_=>False)/\(n+q.toNat)*(bytes+sz+1)<=2^46,
    .one (.own l (n+q.toNat) sz),[(l,.dat sz ((es.drop lo).take n++bY q.toNat zs))]⟩
   |_=>.bad
 |.one (.nS _),.one (.c (.lit (.int k q)))=>⟨k = .i64/\0<q/\(match bx l with|.absent=>True|_=>False)/\q.toNat*(bytes+sz+1)<=2^46,.one (.own l q.toNat sz),[(l,.dat sz (bY q.toNat zs))]⟩
 |_,_=>.bad
def Lj (ng:Bool)(x:AV):FR:=
 match x with
 |.one (.err g)=>.ok (xX (if ng then g else !g))
 |_=>.bad
def Qj (x y:AV):FR:=
 match x,y with
 |.one (.c (.str a)),.one (.c (.str b))=>.ok (yH .i64 (jZ a b))
 |_,_=>.bad
def Qu (x y:AV):FR:=
 match x,y with
 |.one (.c (.str a)),.one (.c (.lit (.int k c)))=>⟨k = .u8,yH .i64 (xE a c.toNat.toUInt8),[]⟩
 |_,_=>.bad
def Zh (x y:AV)(bx:Nat->Box):FR:=
 match FU x,FU y with
 | some (b,_,m,_,_),some (b',_,m',_,_)=>match bx b,bx b' with
   |.dat _ _,.dat sz _=>⟨b≠b'/\sz≠0/\0<m/\0<m',xX false,[]⟩
   |_,_=>.bad
 |_,_=>.bad
def Ib (sz:Nat)(zs:List Cell)(d:AV)(bx:Nat->Box):FR:=
 match FU d with
 | some (b,lo,n,_,sz')=>match bx b with
   |.dat DV es=>⟨sz'=sz/\DV=sz/\lo<=es.length,.AB [],[(b,.dat sz (splice es lo (bY n zs)))]⟩
   |_=>.bad
 |none=>.bad
def nR.f (op:nR)(ev:pU->AV)(bx:Nat->Box):FR:=
 match op with
 |.mv x=>.ok (ev x)
 | .pick c a b=>match ev c with
   |.one (.c (.lit (.bool t)))=>.ok (TV t (ev a) (ev b))
   |_=>.bad
 |.load agg k p=>BF agg k (ev p) bx
 |.store agg k p x=>Be agg k (ev p) (ev x) bx
 |.alloc l zs=>⟨(match bx l with|.absent=>True|_=>False),.one (.ptr l 0),[(l,.var zs)]⟩
 |.O7 T e l r=>⟨(match bx l with|.absent=>True|_=>False)/\(match bx r with|.absent=>True|_=>False)/\l≠r,.one (.ptr l 0),[(r,.row e []),(l,.var [.opt T l,.zW r 0])]⟩
 |.O6 l sz n zs=>⟨(match bx l with|.absent=>True|_=>False),.one (.BH l 0 sz 0),[(l,.dat sz (bY n zs))]⟩
 |.box l x=>⟨(match bx l with|.absent=>True|_=>False)/\(ev x).flat,.one (.ptr l 0),[(l,.var (ev x).cells)]⟩
 |.build zs ps=>⟨(∀p,p∈ps->Zl zs.length (p.1,p.2.1,ev p.2.2)),.agg (Vz zs (ps.map λp=>(p.1,(ev p.2.2).cells))),[]⟩
 | .uB l sz n zs ps=>match Bl ev bx n sz ps with
   |some l'=>⟨(match bx l with|.absent=>True|_=>False)/\(∀p,p∈l'->p.1<n/\p.2.length=sz)/\CZ ev bx ps,.one (.own l n sz),YW bx (xk ev ps)++[(l,.dat sz (Qo (bY n zs) l'))]⟩
   |none=>.bad
 | .makes l sz bytes zs n m=>match ev n,ev m with
   | .one (.c (.lit (.int _ n))),.one (.c (.lit (.int _ m)))=>⟨(match bx l with|.absent=>True|_=>False)/\0<=n/\n<=m/\bytes*m<=2^47/\m<=2^47,.one (.own l n.toNat sz),[(l,.dat sz (bY n.toNat zs))]⟩
   |_,_=>.bad
 |.bin o x y=>Uf o (ev x) (ev y)
 |.beq ng x y=>aal ng (ev x) (ev y)
 | .not x=>match ev x with
   |.one (.c (.lit (.bool b)))=>.ok (xX (!b))
   |_=>.bad
 | .neg x=>match ev x with
   |.one (.c (.lit (.int k n)))=>.ok (yH k (k.wrap (0-n)))
   |_=>.bad
 | .Md k x=>match ev x with
   |.one (.c (.lit (.int _ n)))=>.ok (yH k (k.wrap n))
   |_=>.bad
 | .Vq x=>match zB 1 (ev x) bx with
   | some (p,es)=>match bytesOf es with
     |some l=>⟨p/\l.length<=maxLen,LK l,[]⟩
     |none=>.bad
   |none=>.bad
 | .same x=>match ev x with
   |.one (.c (.str l))=>.ok (LK l)
   |_=>.bad
 | .Zb f cs=>match JJ (cs.map ev)with
   |some l=>.ok (.one (.fn f l))
   |none=>.bad
 | .Wv x lo hi=>match ev x with
   | .one (.c (.str s))=>match bnd ev lo 0,bnd ev hi s.length with
     |some a,some b=>⟨0<=a/\a<=b/\b<=s.length,LK ((s.take b.toNat).drop a.toNat),[]⟩
     |_,_=>.bad
   |_=>.bad
 | .IB sz x lo hi=>match ev x with
   | .one (.c (.sl sz' es))=>match bnd ev lo 0,bnd ev hi es.length with
     |some a,some b=>⟨sz'=sz/\0<=a/\a<=b/\b<=es.length,vSl sz ((es.take b.toNat).drop a.toNat),[]⟩
     |_,_=>.bad
   | .one (.nS sz')=>match bnd ev lo 0,bnd ev hi 0 with
     |some a,some b=>⟨a=0/\b=0,.one (.nS sz'),[]⟩
     |_,_=>.bad
   | .one (.own l n sz')=>match bnd ev lo 0,bnd ev hi n with
     |some a,some b=>⟨a=0/\0<=b/\b<=n,.one (.own l b.toNat sz'),[]⟩
     |_,_=>.bad
   |_=>.bad
 | .Wu sz n x=>match ev x with
   | .one (.BH b 0 sz' 0)=>match bx b with
     |.dat DV es=>⟨sz'=sz/\DV=sz/\es.length=n/\n≠0,.one (.own b n sz),[]⟩
     |_=>.bad
   |_=>.bad
 | .X5 x=>match ev x with
   |.one (.ptr b o)=>.ok (.one (.ptr b o))
   |.one (.BH b i sz o)=>.ok (.one (.BH b i sz o))
   |.one (.Iq cs)=>.ok (.one (.Iq cs))
   |.one (.fn f cs)=>.ok (.one (.fn f cs))
   |_=>.bad
 | .nK off x=>match ev x with
   |.one (.ptr b o)=>.ok (.one (.ptr b (o+off)))
   |.one (.BH b i sz o)=>.ok (.one (.BH b i sz (o+off)))
   |.one (.Iq cs)=>.ok (.one (.Iq (cs.drop off)))
   |_=>.bad
 | .field agg off k x=>match ev x with
   | .agg xs=>if agg then⟨off+k<=xs.length,.agg ((xs.drop off).take k),[]⟩else match xs[off]? with
     |some x=>.ok (.one x)
     |none=>.bad
   |_=>.bad
 | .Aj sz x i=>match ev x,ev i with
   |.one (.c (.sl sz' es)),.one (.c (.lit (.int _ i)))=>⟨sz'=sz/\0<=i/\i<es.length,.one (.Iq (es.getD i.toNat [])),[]⟩
   |.one (.own b n sz'),.one (.c (.lit (.int _ i)))=>⟨sz'=sz/\0<=i/\i<n,.one (.BH b i.toNat sz 0),[]⟩
   |.one (.sub b lo n _ sz'),.one (.c (.lit (.int _ i)))=>⟨sz'=sz/\0<=i/\i<n,.one (.BH b (lo+i.toNat) sz 0),[]⟩
   |_,_=>.bad
 | .VL sz n x i=>match ev x,ev i with
   |.one (.BH b 0 sz' 0),.one (.c (.lit (.int _ i)))=>⟨sz'=sz/\0<=i/\i<n,.one (.BH b i.toNat sz 0),[]⟩
   |_,_=>.bad
 | .idxs x i=>match ev x,ev i with
   |.one (.c (.str s)),.one (.c (.lit (.int _ i)))=>⟨0<=i/\i<s.length,yH .u8 (s.getD i.toNat 0).toNat,[]⟩
   |_,_=>.bad
 | .extract x i=>match ev x with
   | .AB ps=>match ps[i]? with
     |some (true,xs)=>.ok (.agg xs)
     |some (false,[x])=>.ok (.one x)
     |_=>.bad
   |_=>.bad
 | .lens x=>match ev x with
   |.one (.c (.str s))=>.ok (yH .i64 s.length)
   |_=>.bad
 | .len x=>match ev x with
   |.one (.c (.sl _ es))=>.ok (yH .i64 es.length)
   |.one (.nS _)=>.ok (yH .i64 0)
   |.one (.own _ n _)=>.ok (yH .i64 n)
   |.one (.sub _ _ n _ _)=>.ok (yH .i64 n)
   |_=>.bad
 | .max x y=>match ev x,ev y with
   |.one (.c (.lit (.int k a))),.one (.c (.lit (.int k' b)))=>⟨k=k',yH k (if b>a then b else a),[]⟩
   |_,_=>.bad
 | .min x y=>match ev x,ev y with
   |.one (.c (.lit (.int k a))),.one (.c (.lit (.int k' b)))=>⟨k=k',yH k (if b<a then b else a),[]⟩
   |_,_=>.bad
 | .append l sz bytes s x=>match zB sz (ev x) bx with
   | some (p,ys)=>match ev s with
     |.one (.nS _)=>⟨p/\(match bx l with|.absent=>True|_=>False)/\ys.length*(bytes+sz+1)<=2^46,.one (.own l ys.length sz),[(l,.dat sz ys)]⟩
     | .one (.own b n sz')=>match bx b with
       |.dat DV es=>⟨p/\(match bx l with|.absent=>True|_=>False)/\sz'=sz/\DV=sz/\n<=es.length/\(n+ys.length)*(bytes+sz+1)<=2^46/\b≠l,
        .one (.own l (n+ys.length) sz),[(b,.dead),(l,.dat sz (es.take n++ys))]⟩
       |_=>.bad
     |_=>.bad
   |none=>.bad
 | .copy sz d x=>match zB sz (ev x) bx with
   | some (p,ys)=>match ev d with
     | .one (.own b n sz')=>match bx b with
       |.dat DV es=>⟨p/\sz'=sz/\DV=sz/\n<=es.length,yH .i64 (gu ys.length n:Nat),[(b,.dat sz (splice es 0 (ys.take n)))]⟩
       |_=>.bad
     |.one (.nS _)=>.ok (yH .i64 0)
     |_=>.bad
   |none=>.bad
 |.shf l x y=>ZB l (ev x) (ev y)
 |.afF x=>Xb (ev x)
 |.Bc sz x lo hi=>Bq sz (ev x) (bnd ev lo 0) (bnd ev hi)
 |.sl3 sz x p q m=>NP sz (ev x) (ev p) (ev q) (ev m)
 |.abB l sz bytes s x=>Ia l sz bytes (ev s) (ev x) bx
 |.Wp sz d x=>Ic sz (ev d) (ev x) bx
 |.adM sz zs x=>Ib sz zs (ev x) bx
 |.afI x y=>Qj (ev x) (ev y)
 |.aaU ng x=>Lj ng (ev x)
 |.ovl x y=>Zh (ev x) (ev y) bx
 |.af7 x y=>Qu (ev x) (ev y)
 |.stop=>.bad
 |.acm l sz bytes zs s x=>HY l sz bytes zs (ev s) (ev x) bx
def lvl : AV->List Nat
 |.one (.ptr b _)=>[b]
 |.one (.own b _ _)=>[b]
 |.one (.BH b _ _ _)=>[b]
 |.one (.sub b _ _ _ _)=>[b]
 |_=>[]
def nR.rd (op:nR)(ev:pU->AV):List Nat:=
 match op with
 |.load _ _ p=>lvl (ev p)
 |.store _ _ p x=>lvl (ev p)++(match ev p with|.one (.BH _ _ _ _)=>qH (ev x).cells|_=>[])
 |.uB l _ _ _ ps=>l::xk ev ps
 |.alloc l _|.O6 l _ _ _|.box l _|.makes l _ _ _ _ _=>[l]
 |.O7 _ _ l r=>[l,r]
 |.Vq x=>lvl (ev x)
 |.Wu _ _ x=>lvl (ev x)
 |.append l _ _ s x=>l::(lvl (ev s)++lvl (ev x))
 |.copy _ d x=>lvl (ev d)++lvl (ev x)
 |.abB l _ _ s x=>l::(lvl (ev s)++lvl (ev x))
 |.Wp _ d x=>lvl (ev d)++lvl (ev x)
 |.adM _ _ x=>lvl (ev x)
 |.ovl x y=>lvl (ev x)++lvl (ev y)
 |.acm l _ _ _ s _=>l::lvl (ev s)
 |_=>[]
end Go.Ab
section
namespace Go.Ab
inductive PK where
 |any
 |own (rs:List (Nat×Nat))
 |var (rs:List (Nat×Nat))
 |fn (s:Nat)
 deriving DecidableEq
structure ZV where
 ps:List PK
 rs:List (List (Nat×Nat))
 deriving DecidableEq
inductive Knd where
 |none
 |rd
 |ow (sg:ZV)
 deriving DecidableEq
def kindOf : Nat->Knd
 |6=>.rd
 |7=>.rd
 |8=>.rd
 |9=>.ow ⟨[.any],[[(0,34)]]⟩
 |10=>.ow ⟨[.any],[[(2,25),(3,25),(7,25),(8,37),(9,45)]]⟩
 |11=>.ow ⟨[.any,.any],[[(0,34)],[(6,25),(7,37)]]⟩
 |12=>.rd
 |13=>.rd
 |14=>.rd
 |18=>.rd
 |19=>.rd
 |20=>.rd
 |21=>.rd
 |22=>.ow ⟨[.any],[[(0,61)]]⟩
 |23=>.ow ⟨[.any,.any],[[(0,34)],[(0,58)]]⟩
 |24=>.rd
 |25=>.rd
 |28=>.rd
 |29=>.rd
 |30=>.ow ⟨[.any,.any],[[(0,34)],[(0,58)],[]]⟩
 |31=>.rd
 |32=>.rd
 |33=>.rd
 |34=>.rd
 |35=>.rd
 |36=>.rd
 |37=>.rd
 |38=>.rd
 |39=>.ow ⟨[.any],[[(0,34)]]⟩
 |40=>.ow ⟨[.any],[[(0,25)]]⟩
 |41=>.ow ⟨[.any],[[(3,25),(4,37)]]⟩
 |42=>.ow ⟨[.any],[[(0,45)]]⟩
 |43=>.rd
 |44=>.rd
 |45=>.ow ⟨[.any,.any],[[(5,25),(6,37)],[]]⟩
 |46=>.ow ⟨[.any],[[(0,34)]]⟩
 |47=>.rd
 |48=>.rd
 |49=>.ow ⟨[.any,.any],[[(0,34)],[(6,25),(7,37)]]⟩
 |50=>.ow ⟨[.any,.any,.any,.any],[[(0,34)],[(6,25),(7,37)]]⟩
 |51=>.rd
 |52=>.rd
 |53=>.rd
 |54=>.rd
 |59=>.rd
 |60=>.rd
 |61=>.rd
 |63=>.rd
 |64=>.ow ⟨[.any,.any,.fn 0],[[(0,34)],[(0,58)]]⟩
 |65=>.rd
 |66=>.rd
 |68=>.rd
 |69=>.rd
 |70=>.rd
 |71=>.rd
 |72=>.rd
 |73=>.rd
 |74=>.rd
 |75=>.rd
 |76=>.rd
 |77=>.rd
 |78=>.rd
 |79=>.rd
 |80=>.rd
 |81=>.rd
 |82=>.rd
 |83=>.rd
 |84=>.rd
 |86=>.rd
 |87=>.rd
 |88=>.ow ⟨[.any],[[(5,25),(6,37)]]⟩
 |89=>.ow ⟨[.any],[[(0,37)]]⟩
 |90=>.ow ⟨[.any],[[(1,25),(2,25),(6,25),(7,37)]]⟩
 |91=>.rd
 |92=>.rd
 |93=>.rd
 |94=>.rd
 |95=>.rd
 |96=>.ow ⟨[.any],[[(5,25),(6,37)]]⟩
 |97=>.rd
 |98=>.rd
 |99=>.rd
 |100=>.rd
 |101=>.ow ⟨[.any,.any],[[(0,34)],[]]⟩
 |102=>.ow ⟨[.any,.any],[[],[]]⟩
 |103=>.ow ⟨[.any,.any,.any],[[(0,34)],[]]⟩
 |104=>.rd
 |105=>.rd
 |106=>.rd
 |107=>.rd
 |108=>.rd
 |109=>.rd
 |110=>.rd
 |111=>.rd
 |112=>.rd
 |113=>.rd
 |114=>.rd
 |116=>.rd
 |117=>.rd
 |118=>.rd
 |119=>.rd
 |120=>.rd
 |121=>.rd
 |122=>.rd
 |123=>.rd
 |124=>.ow ⟨[.any],[[(3,25),(4,37)]]⟩
 |127=>.rd
 |128=>.rd
 |129=>.ow ⟨[.own [(0,34)],.any,.any],[[(0,34)]]⟩
 |130=>.ow ⟨[.any,.any],[[(3,25),(4,37)],[]]⟩
 |131=>.rd
 |132=>.ow ⟨[.own [(0,34)],.own [(5,25),(6,37)]],[[(0,34)]]⟩
 |133=>.rd
 |134=>.rd
 |135=>.rd
 |136=>.rd
 |137=>.rd
 |138=>.rd
 |139=>.rd
 |140=>.rd
 |141=>.rd
 |142=>.rd
 |143=>.rd
 |144=>.rd
 |145=>.rd
 |146=>.rd
 |148=>.rd
 |151=>.rd
 |152=>.rd
 |153=>.ow ⟨[.any,.any],[[(3,25),(4,37)],[]]⟩
 |154=>.ow ⟨[.own [(3,25),(4,37)],.any],[[(3,25),(4,37)],[]]⟩
 |155=>.rd
 |156=>.ow ⟨[.own [(0,34)],.any,.own [(0,34)]],[[(0,34)]]⟩
 |157=>.rd
 |158=>.rd
 |159=>.rd
 |160=>.rd
 |161=>.rd
 |162=>.rd
 |163=>.rd
 |164=>.rd
 |167=>.rd
 |169=>.ow ⟨[.any,.any],[[(3,25),(4,37)],[]]⟩
 |170=>.ow ⟨[.var [(3,25),(4,37)],.any],[]⟩
 |171=>.rd
 |172=>.ow ⟨[.var [(3,25),(4,37)],.any,.own [(3,25),(4,37)]],[]⟩
 |175=>.rd
 |177=>.rd
 |178=>.ow ⟨[.any,.any,.any],[[(3,25),(4,37)],[]]⟩
 |179=>.ow ⟨[.any,.any],[[(3,25),(4,37)],[]]⟩
 |180=>.ow ⟨[.any,.any,.any],[[(3,25),(4,37)],[]]⟩
 |181=>.ow ⟨[.any,.any,.any],[[(3,25),(4,37)],[]]⟩
 |182=>.ow ⟨[.any,.any],[[(3,25),(4,37)],[]]⟩
 |183=>.ow ⟨[.any,.any,.any],[[(3,25),(4,37)],[]]⟩
 |184=>.ow ⟨[.own [(0,25)],.any,.any],[[(0,25)]]⟩
 |185=>.ow ⟨[.own [(0,37)],.any,.any],[[(0,37)]]⟩
 |186=>.rd
 |187=>.rd
 |188=>.ow ⟨[.own [(0,25)],.any,.own [(0,25)]],[[(0,25)]]⟩
 |189=>.ow ⟨[.own [(0,37)],.any,.own [(0,37)]],[[(0,37)]]⟩
 |191=>.rd
 |192=>.rd
 |193=>.rd
 |194=>.rd
 |195=>.rd
 |197=>.ow ⟨[.any,.any,.fn 1],[[(3,25),(4,37)],[]]⟩
 |198=>.ow ⟨[.any,.any,.any,.any],[[(3,25),(4,37)],[]]⟩
 |199=>.ow ⟨[.any,.any,.any],[[(3,25),(4,37)],[]]⟩
 |200=>.ow ⟨[.any,.any,.any],[[(3,25),(4,37)],[]]⟩
 |201=>.rd
 |202=>.ow ⟨[.any,.any],[[(3,25),(4,37)],[]]⟩
 |203=>.rd
 |204=>.rd
 |205=>.rd
 |206=>.rd
 |212=>.rd
 |213=>.rd
 |214=>.rd
 |215=>.rd
 |216=>.rd
 |217=>.rd
 |218=>.rd
 |221=>.rd
 |222=>.rd
 |223=>.rd
 |226=>.rd
 |_=>.none
def ah6 : Nat->ZV
 |0=>⟨[.any],[[(3,25),(4,37)],[]]⟩
 |_=>⟨[],[]⟩
end Go.Ab
end
namespace Go.Ab
open Go
inductive zo where
 |blk (k j:Nat)
 |tag (d m:Nat)
 |dead
 deriving DecidableEq
structure Ref where
 off:Nat
 ty:Nat
 m:Nat
def Ref.beq (r s:Ref):Bool:=oJ r.off s.off&&(oJ r.ty s.ty&&oJ r.m s.m)
theorem Ref.beq_iff {r s:Ref} : r.beq s=true<->r=s:=by cases r;cases s;simp[Ref.beq]
inductive Blk where
 |arr (T:Nat) (p:zo)
 |var (row:List Ref) (d b:Nat)
structure Own where
 b:Nat->Option Blk
 bd:Nat->Nat
instance : CoeFun Own λ_=>Nat->Option Blk:=⟨Own.b⟩
def refsOf (P:Program):Nat->TypeId->Nat->List (Nat×Nat)
 |0,_,_=>[]
 | n+1,t,o=>match P.underlying t with
   |some (.slice _)=>[(o,t)]
   |some (.struct fs)=>fs.toList.flatMap λf=>refsOf P n f.type (o+f.offset)
   |_=>[]
def oD (P:Program)(T:Nat):List (Nat×Nat):=match P.underlying T with
 |some (.slice e)=>refsOf P 6 e 0
 |_=>[]
def xP (P:Program)(T:Nat):Nat:=match P.underlying T with
 |some (.slice e)=>(match P.info? e with|some i=>i.size|none=>0)
 |_=>0
def Ze (u:Value):Prop:=u = .slice none 0 0
def Own.at (g:Own)(k n T:Nat)(p:zo):Prop:=g k=some (.arr T p)/\n<=g.bd k
def GR (g:Own)(u:Value)(T:Nat)(p:zo):Prop:=Ze u\/∃k n c,u = .slice (some ⟨k,0,none⟩) n c/\g.at k n T p
structure Good (P:Program)(g:Own)(w:World):Prop where
 arr:∀k T p,g k=some (.arr T p)->∃cs e,w.heap[k]? = some (.cells cs e (0,0))/\∀j u T',j<g.bd k*xP P T->cs[j]? = some u->(j%xP P T,T')∈oD P T->GR g u T' (.blk k j)
 var:∀k row d b,g k=some (.var row d b)->∃cs e,w.heap[k]? = some (.cells cs e (0,0))/\∀r,r∈row->∃u,cs[r.off]? = some u/\GR g u r.ty (.tag d r.m)
inductive OF where
 |sr (t T:Nat)
 |ep (t T off:Nat)
 |vp (t b off:Nat)
 |ref (t:Nat) (r:Ref)
 |EY (t i:Nat) (r:Ref)
 |row (b:Nat) (r:Ref)
 |fn (t s:Nat)
def OF.beq : OF->OF->Bool
 |.sr t T,.sr t' T'=>oJ t t'&&oJ T T'
 |.ep t T o,.ep t' T' o'=>oJ t t'&&(oJ T T'&&oJ o o')
 |.vp t b o,.vp t' b' o'=>oJ t t'&&(oJ b b'&&oJ o o')
 |.ref t r,.ref t' r'=>oJ t t'&&r.beq r'
 |.EY t i r,.EY t' i' r'=>oJ t t'&&(oJ i i'&&r.beq r')
 |.row b r,.row b' r'=>oJ b b'&&r.beq r'
 |.fn t s,.fn t' s'=>oJ t t'&&oJ s s'
 |_,_=>false
theorem OF.beq_iff {f g:OF} : f.beq g=true<->f=g:=by cases f<;>cases g<;>simp[OF.beq,Ref.beq_iff]
instance : BEq OF:=⟨OF.beq⟩
instance : LawfulBEq OF where
 eq_of_beq h:=OF.beq_iff.1 h
 rfl:=OF.beq_iff.2 rfl
def zQ {β:Type}(n:Nat)(k:Nat->β):β:=match n with
 |0=>k 0
 |m+1=>k (Nat.succ m)
def VE {β:Type}(r:Ref)(k:Ref->β):β:=match r with
 |⟨a,b,c⟩=>zQ a λa=>zQ b λb=>zQ c λc=>k ⟨a,b,c⟩
def YV {β:Type}(f:OF)(k:OF->β):β:=match f with
 |.sr t T=>zQ t λt=>zQ T λT=>k (.sr t T)
 |.ep t T o=>zQ t λt=>zQ T λT=>zQ o λo=>k (.ep t T o)
 |.vp t b o=>zQ t λt=>zQ b λb=>zQ o λo=>k (.vp t b o)
 |.ref t r=>zQ t λt=>VE r λr=>k (.ref t r)
 |.EY t i r=>zQ t λt=>zQ i λi=>VE r λr=>k (.EY t i r)
 |.row b r=>zQ b λb=>VE r λr=>k (.row b r)
 |.fn t s=>zQ t λt=>zQ s λs=>k (.fn t s)
def Lc {α β:Type}(fc:α->(α->β)->β):List α->(List α->β)->β
 |[],k=>k []
 |x::r,k=>fc x λx=>Lc fc r λr=>k (x::r)
abbrev VD {β:Type}(Γ : List OF)(k:List OF->β):β:=Lc YV Γ k
theorem IG {β:Type}{n:Nat}{k:Nat->β} : zQ n k=k n:=by cases n<;>rfl
theorem afU {β:Type}{r:Ref}{k:Ref->β} : VE r k=k r:=by simp[VE,IG]
theorem XJ {β:Type}{f:OF}{k:OF->β} : YV f k=k f:=by cases f<;>simp[YV,IG,afU]
theorem GK {α β:Type}{fc:α->(α->β)->β}(hf:∀x k,fc x k=k x):∀{l:List α} {k:List α->β},Lc fc l k=k l
 |[],_=>rfl
 |x::r,k=>by rw[Lc,hf,GK hf]
theorem RU {β:Type}{Γ : List OF}{k:List OF->β} : VD Γ k=k Γ :=GK λ_ _=>XJ
def OF.ae3 : OF->List Nat
 |.sr t _=>[t]
 |.ep t _ _=>[t]
 |.vp t b _=>[t,b]
 |.ref t _=>[t]
 |.EY t _ _=>[t]
 |.row b _=>[b]
 |.fn t _=>[t]
def OF.anm : OF->Option Nat
 |.ref _ r=>some r.m
 |.EY _ _ r=>some r.m
 |.row _ r=>some r.m
 |_=>none
def TE :=Nat->FuncId->Nat->Prop
def FN (P:Program)(F:TE)(g:Own)(dp:Nat)(a:Act)(w:World):OF->Prop
 |.sr t T=>Ze (a.tmps.getD t undef)\/∃k o n c,a.tmps.getD t undef = .slice (some ⟨k,o,none⟩) n c/\k<w.heap.size/\∀B,g k=some B->(∃p,B = .arr T p)/\o%xP P T=0
 |.ep t T off=>∃k o,a.tmps.getD t undef = .pointer (some ⟨k,o,none⟩)/\k<w.heap.size/\∀B,g k=some B->(∃p,B = .arr T p)/\o%xP P T=off
 |.vp t b off=>∃k row,a.tmps.getD b undef = .pointer (some ⟨k,0,none⟩)/\a.tmps.getD t undef = .pointer (some ⟨k,off,none⟩)/\g k=some (.var row dp b)
 |.ref t r=>∃u,(a.tmps.getD t undef).cells[r.off]? = some u/\GR g u r.ty (.tag dp r.m)
 |.EY t i r=>∃vs x u,a.tmps.getD t undef = .tuple vs/\vs[i]? = some x/\x.cells[r.off]? = some u/\GR g u r.ty (.tag dp r.m)
 |.row b r=>∃k row,a.tmps.getD b undef = .pointer (some ⟨k,0,none⟩)/\g k=some (.var row dp b)/\r∈row
 |.fn t s=>∃f caps,a.tmps.getD t undef = .func (.func f) #[] caps/\F s f caps.size
structure OW (P:Program)(F:TE)(g:Own)(dp:Nat)(Γ : List OF)(a:Act)(w:World):Prop where
 good:Good P g w
 fs:∀f,f ∈ Γ -> FN P F g dp a w f
structure Rel (dp N:Nat)(g g':Own):Prop where
 tag:∀k T d m,d<dp->g k=some (.arr T (.tag d m))->g' k=some (.arr T (.tag d m))/\g'.bd k=g.bd k
 var:∀k row d b,d<dp->g k=some (.var row d b)->g' k=some (.var row d b)
 old:∀k B',k<N->g' k=some B'->∃B,g k=some B/\∀T p,B = .arr T p\/B' = .arr T p->∃q q',B = .arr T q/\B' = .arr T q'
def Um (ps:List PK):List OF:=(ps.zipIdx).flatMap λp=>match p.1 with
 |.any=>[]
 |.own rs=>rs.map λe=>.ref p.2 ⟨e.1,e.2,p.2*20+e.1⟩
 |.var rs=>.vp p.2 p.2 0::rs.map λe=>.row p.2 ⟨e.1,e.2,p.2*20+e.1⟩
 |.fn s=>[.fn p.2 s]
def abh (sg:ZV)(n:Nat):List OF:=match sg.rs with
 |[rs]=>rs.map λe=>.ref n ⟨e.1,e.2,20000+e.1⟩
 |l=>(l.zipIdx).flatMap λp=>p.1.map λe=>.EY n p.2 ⟨e.1,e.2,20000+p.2*20+e.1⟩
def adz (sg:ZV):List OF:=(sg.ps.zipIdx).flatMap λp=>match p.1 with
 |.var rs=>.vp p.2 p.2 0::rs.map λe=>.row p.2 ⟨e.1,e.2,30000+p.2*20+e.1⟩
 |_=>[]
def VY (sg:ZV)(n:Nat):List OF:=abh sg n++adz sg
def FV : TE:=λs f n=>match s with
 |0=>kindOf f = .rd
 |s+1=>∃sg,kindOf f = .ow sg/\sg.ps=(ah6 s).ps++bY n .any/\sg.rs=(ah6 s).rs
inductive Yr (P:Program)(f:FuncId)(vs:List Value)(w:World):(Ending->World->Prop)->Prop
 |abN:Yr P f vs w λ_ _=>True
 |rd (h:kindOf f = .rd):Yr P f vs w λ_ w'=>DW w w' λ_=>False
 |ow (sg:ZV) (h:kindOf f = .ow sg) (hl:vs.length=sg.ps.length) (g:Own) (dp:Nat) (hin:OW P FV g dp (Um sg.ps) { tmps:=vs.toArray,defers:=[] } w) :
     Yr P f vs w λe w'=>∃v g',e = .returned v/\Rel dp w.heap.size g g'/\OW P FV g' dp (VY sg vs.length) { tmps:=(vs++[v]).toArray,defers:=[] } w'
def UX (I:IH)(ρ:Ren)(vs:List Value)(xs:List AV):Prop:=
 vs.length=xs.length/\∀(j:Nat) (v:Value) (x:AV),vs[j]? = some v->xs[j]? = some x->GV I ρ v x
def Dj (l:List Box):Nat->Box:=λb=>l.getD b .absent
structure Tabs (P:Program)(I:IH):Prop where
 pow:∀g,P.globalNamed "internal/strconv.uint64pow10" = some g->I g=some (Go.Lib.pow10Tab.map λz=>mX .u64 z).toArray
 mxl:∀g,P.globalNamed "internal/bytealg.MaxLen" = some g->∃m,I.cell ⟨g,0,none⟩=some (.int .i64 m)
 ers:∀g,P.globalNamed "strconv.ErrSyntax" = some g->∃v,I.cell ⟨g,0,none⟩=some v/\(v = .nilIface\/∃t p,v = .iface t p)
 err:∀g,P.globalNamed "strconv.ErrRange" = some g->∃v,I.cell ⟨g,0,none⟩=some v/\(v = .nilIface\/∃t p,v = .iface t p)
theorem Tabs.mono {P:Program}{I J:IH}(h:Tabs P I)(hle:I.le J):Tabs P J:=
 ⟨λg hg=>hle _ _ (h.pow g hg),λg hg=>(h.mxl g hg).imp λ_ h=>IH.Oe hle h,λg hg=>(h.ers g hg).imp λ_ h=>⟨IH.Oe hle h.1,h.2⟩,λg hg=>(h.err g hg).imp λ_ h=>⟨IH.Oe hle h.1,h.2⟩⟩
def pO (P:Program)(f:FuncId)(args:List AV)(fp:List Box)(post:AV->List Box->Prop):Prop:=
 ∀ (I:IH) (ρ:Ren) (w:World) (vs:List Value),Tabs P I->Agree I w->BX I ρ w (Dj fp)->UX I ρ vs args ->
   ∀ X,Yr P f vs w X->Calls P f vs.toArray w λe w'=>(∃(v:Value) (J:IH) (σ:Ren) (r:AV) (bs:List Box),e = .returned v/\post r bs/\GV J σ v r/\Agree J w'/\BX J σ w' (Dj bs) /\
     I.le J/\DW w w' (λk=>∃b,(Dj fp b).uses (ρ b) k) /\
     (∀b k,(Dj bs b).uses (σ b) k->w.heap.size<=k\/∃b',(Dj fp b').uses (ρ b') k) /\
     (∀k,k<w.heap.size->(¬ ∃b,(Dj fp b).uses (ρ b) k)->J k=I k) /\
     (∀b,b<fp.length->σ b=ρ b))/\X e w'
def NY (P:Program)(f:FuncId)(args:List AV)(fp:List Box)(post:AV->List Box->Prop):Prop:=
 ∀ (I:IH) (ρ:Ren) (w:World) (vs:List Value),Tabs P I->Agree I w->BX I ρ w (Dj fp)->UX I ρ vs args ->
   Calls P f vs.toArray w λe w'=>∃(v:Value) (J:IH) (σ:Ren) (r:AV) (bs:List Box),e = .returned v/\post r bs/\GV J σ v r/\Agree J w'/\BX J σ w' (Dj bs) /\
    I.le J/\DW w w' (λk=>∃b,(Dj fp b).uses (ρ b) k) /\
    (∀b k,(Dj bs b).uses (σ b) k->w.heap.size<=k\/∃b',(Dj fp b').uses (ρ b') k) /\
    (∀k,k<w.heap.size->(¬ ∃b,(Dj fp b).uses (ρ b) k)->J k=I k) /\
    (∀b,b<fp.length->σ b=ρ b)
def Xe (f:FuncId)(e:Bool):Bool:=match kindOf f with
 |.none=>true
 |.rd=>e
 |.ow _=>false
theorem pO.of0 {P:Program}{f:FuncId}{args:List AV}{fp:List Box}{post:AV->List Box->Prop}(hk:Xe f fp.isEmpty=true)(h:NY P f args fp post):pO P f args fp post:=by
 intro I ρ w vs hT hA hB hV X hX;have h0:=h I ρ w vs hT hA hB hV;cases hX with
 |abN=>exact h0.mono λe w' h=>⟨h,trivial⟩
 | rd hr=>refine h0.mono λe w' h=>⟨h,?_⟩;obtain⟨_,_,_,_,_,_,_,_,_,_,_,hF,_⟩:=h;refine⟨hF.os,hF.tape,hF.output,hF.size,λk hk' _=>hF.block k hk' ?_⟩;rintro⟨b,hb⟩;unfold Xe at hk;rw[hr]at hk;have:fp=[]:=(by simpa using hk);subst this;simp[Dj,Box.uses]at hb
 | ow sg hr=>unfold Xe at hk;rw[hr]at hk;cases hk
def fF (P:Program)(f:FuncId)(args:List AV)(r:AV):Prop:=pO P f args [] λr' bs=>r'=r/\bs=[]
inductive Cv (bx:Nat->Box):AC->AC->Prop
 |refl (x:AC):Cv bx x x
 |nS (sz:Nat):Cv bx (.nS sz) (.c (.sl sz []))
 |own (b n sz:Nat) (es:List (List Cell)) (h:(bx b).arr=some (sz,es)) (hn:n<=es.length):Cv bx (.own b n sz) (.c (.sl sz (es.take n)))
inductive CvL (bx:Nat->Box):List AC->List AC->Prop
 |nil:CvL bx [] []
 |cons {x y:AC} {xs ys:List AC} (h:Cv bx x y) (t:CvL bx xs ys):CvL bx (x::xs) (y::ys)
inductive CvA (bx:Nat->Box):AV->AV->Prop
 |one {x y:AC} (h:Cv bx x y):CvA bx (.one x) (.one y)
 |agg {xs ys:List AC} (h:CvL bx xs ys):CvA bx (.agg xs) (.agg ys)
inductive O0 (bx:Nat->Box):List AV->List AV->Prop
 |nil:O0 bx [] []
 |cons {x y:AV} {xs ys:List AV} (h:CvA bx x y) (t:O0 bx xs ys):O0 bx (x::xs) (y::ys)
def Cell.isLit : Cell->Bool
 |.sl _ _=>false
 |_=>true
def AC.zi : AC->Bool
 |.c _=>true
 |.err _=>true
 |_=>false
def AC.isLit : AC->Bool
 |.c x=>x.isLit
 |_=>false
def AV.all (p:AC->Bool):AV->Bool
 |.one x=>p x
 |.agg xs=>xs.all p
 |.AB ps=>ps.all λq=>q.2.all p
def AV.owns : AV->List Nat
 |.one x=>qH [x]
 |.agg xs=>qH xs
 |.AB ps=>ps.flatMap λq=>qH q.2
def gY.H8 (st:gY)(bs:List Nat):gY:=⟨st.tm,λb=>if b∈bs then JK (st.bx b)else st.bx b⟩
def gY.vJ (st:gY):List (Nat×Box)->gY
 |[]=>st
 |(b,x)::r=>(st.Ap b x).vJ r
def gY.BD (st:gY):Option Nat->Slot->gY
 |none,_=>st
 |some t,s=>st.put t s
def GU (π:Nat->Nat):AC->AC
 |.ptr b off=>.ptr (π b) off
 |.own b n sz=>.own (π b) n sz
 |.sub b lo n c sz=>.sub (π b) lo n c sz
 |.BH b i sz off=>.BH (π b) i sz off
 |.fn f cs=>.fn f (cs.map π)
 |.opt T b=>.opt T (π b)
 |.zW b n=>.zW (π b) n
 |x=>x
def FK (π:Nat->Nat):AV->AV
 |.one x=>.one (GU π x)
 |.agg xs=>.agg (xs.map (GU π))
 |.AB ps=>.AB (ps.map λq=>(q.1,q.2.map (GU π)))
def Fa (π:Nat->Nat):Box->Box
 |.var xs=>.var (xs.map (GU π))
 |x=>x
def AC.xN (m:Nat):AC->Bool
 |.ptr b _=>decide (b<m)
 |.own b _ _=>decide (b<m)
 |.sub b _ _ _ _=>decide (b<m)
 |.BH b _ _ _=>decide (b<m)
 |.fn _ cs=>cs.all λb=>decide (b<m)
 |.opt _ b=>decide (b<m)
 |.zW b _=>decide (b<m)
 |_=>true
def Box.xN (m:Nat):Box->Bool
 |.var xs=>xs.all (AC.xN m)
 |_=>true
inductive OJ (P:Program)(f:FuncId)(xm:List AV)(p:Bool)(d:Option Nat)(st:gY)(K:List Nat->List Nat->gY->Prop):Prop
 |lit (ds:List AV) (r:AV) (hc:p=true->O0 st.bx xm ds) (hd:ds.all (·.all AC.zi)=true) (h:p=true->fF P f ds r) (hr:r.all AC.isLit=true) (k:K (xm.flatMap AV.owns) [] (st.BD d (.v p r)))
 |pure (ds:List AV) (r:AV) (hp:p=true) (hc:O0 st.bx xm ds) (hd:ds.all (·.all AC.zi)=true) (h:fF P f ds r) (hr:r.all AC.zi=true) (k:K (xm.flatMap AV.owns) (xm.flatMap AV.owns) ((st.H8 (xm.flatMap AV.owns)).BD d (.v true r)))
 |gen (hp:p=true) (ds:List AV) (fp:List Box) (sg nu:List Nat) (post:AV->List Box->Prop)
  (hl:sg.length=fp.length) (hn:(sg++nu).Nodup) (hf:∀i,i<fp.length->st.bx ((sg++nu).getD i 0)=Fa (λb=>(sg++nu).getD b 0) (fp.getD i .absent))
  (hne:∃r bs,post r bs) (hv:∀b,b∈nu->st.bx b = .absent/\10<=b) (hra:(ds.all λx=>x.all (AC.xN fp.length))=true) (hrf:fp.all (Box.xN fp.length)=true) (ha:xm=ds.map (FK λb=>(sg++nu).getD b 0)) (h:pO P f ds fp post)
  (k:∀r bs,post r bs->bs.length=(sg++nu).length /\
   K (sg++nu) (sg++nu) ((st.vJ ((sg++nu).zip (bs.map (Fa λb=>(sg++nu).getD b 0)))).BD d (.v true (FK (λb=>(sg++nu).getD b 0) r))))
 |Uj (hp:p=true) (az:List AV) (hc:O0 st.bx xm az) (ds:List AV) (fp:List Box) (sg nu:List Nat) (post:AV->List Box->Prop)
     (hl:sg.length=fp.length) (hn:(sg++nu).Nodup) (hf:∀i,i<fp.length->(st.H8 (xm.flatMap AV.owns)).bx ((sg++nu).getD i 0)=Fa (λb=>(sg++nu).getD b 0) (fp.getD i .absent))
     (hne:∃r bs,post r bs) (hv:∀b,b∈nu->st.bx b = .absent/\10<=b) (hra:(ds.all λx=>x.all (AC.xN fp.length))=true) (hrf:fp.all (Box.xN fp.length)=true) (ha:az=ds.map (FK λb=>(sg++nu).getD b 0)) (h:pO P f ds fp post)
     (k:∀r bs,post r bs->bs.length=(sg++nu).length /\
      K (xm.flatMap AV.owns++(sg++nu)) (xm.flatMap AV.owns++(sg++nu)) (((st.H8 (xm.flatMap AV.owns)).vJ ((sg++nu).zip (bs.map (Fa λb=>(sg++nu).getD b 0)))).BD d (.v true (FK (λb=>(sg++nu).getD b 0) r))))
inductive DU {α:Type}(x:α):Type
 |mk
def xK (P:Program)(f:FuncId)(xm:List AV)(p:Bool)(d:Option Nat)(st:gY)(K:List Nat->List Nat->gY->Prop)(_:DU K):Prop:=OJ P f xm p d st K
inductive UT where
 |op (o:nR)
 |call (f:FuncId) (args:List pU)
 |IX (x:pU) (args:List pU)
 deriving Inhabited
structure lK where
 g:Option (Nat×Bool)
 d:Option Nat
 i:UT
 deriving Inhabited
def zL (P:Program)(f:FuncId):Bool:=match P.funcs[f]? with
 |some fn=> !(fn.name == "runtime.NumGoroutine")&&fn.body.isSome
 |none=>false
def EM (tm:Nat->Slot):Option (Nat×Bool)->Prop
 |none=>True
 | some (s,_)=>match tm s with
   |.v false _=>True
   |.v true (.one (.c (.lit (.bool _))))=>True
   |_=>False
def uV (tm:Nat->Slot):Option (Nat×Bool)->Bool
 |none=>true
 | some (s,w)=>match tm s with
   |.v true (.one (.c (.lit (.bool b))))=>b==w
   |_=>false
def nR.valid (ev:pU->Slot):nR->Prop
 | .pick c a b=>(ev c).g=true/\(match(ev c).x with
   |.one (.c (.lit (.bool t)))=>(t=true->(ev a).g=true)/\(t=false->(ev b).g=true)
   |_=>False)
 |o=>∀x,x∈o.qi->(ev x).g=true
def fK (tm:Nat->Slot)(x:pU):AV:=(x.ev tm).x
def TOp (o:nR)(p:Bool)(d:Option Nat)(st:gY)(K:List Nat->List Nat->gY->Prop):Prop:=
 (p=true->o.valid (pU.ev st.tm)/\(o.f (fK st.tm) st.bx).vc /\
  K (o.rd (fK st.tm)) ((o.f (fK st.tm) st.bx).sets.map (·.1)) ((st.vJ (o.f (fK st.tm) st.bx).sets).BD d (.v true (o.f (fK st.tm) st.bx).v))) /\
 (p=false->K [] [] (st.BD d (.v false (.one .Ns))))
def T (P:Program)(o:lK)(st:gY)(K:List Nat->List Nat->gY->Prop):Prop:=
 EM st.tm o.g/\match o.i with
  |.op op=>TOp op (uV st.tm o.g) o.d st K
  |.call f args=>(uV st.tm o.g=true->∀x,x∈args->(x.ev st.tm).g=true)/\xK P f (args.map (fK st.tm)) (uV st.tm o.g) o.d st K .mk
  | .IX x args=>(uV st.tm o.g=true->(x.ev st.tm).g=true/\∀x,x∈args->(x.ev st.tm).g=true)/\match uV st.tm o.g,fK st.tm x with
    |false,_=>xK P 0 [] false o.d st K .mk
    |true,.one (.fn f caps)=>zL P f=true/\xK P f (args.map (fK st.tm)++caps.map λb=>.one (.ptr b 0)) true o.d st K .mk
    |true,_=>False
def wpOps (P:Program):List lK->gY->(gY->Prop)->Prop
 |[],st,K=>K st
 |o::r,st,K=>T P o st λ_ _ st'=>wpOps P r st' K
def Pj (a b:List Nat):Bool:=a.all λx=> !b.contains x
def Az (Ik:List Nat)(rd wr:List Nat):List (Nat×List Nat×List Nat)->Bool
 |[]=>true
 |(j,r,w)::l=>(Ik.contains j||(Pj wr r&&Pj wr w&&Pj rd w))&&Az Ik rd wr l
def wpD (P:Program):List (lK×List Nat)->Nat->List (Nat×List Nat×List Nat)->gY->(gY->Prop)->Prop
 |[],_,_,st,K=>K st
 |(o,Ik)::r,i,log,st,K=>T P o st λrd wr st'=>Az Ik rd wr log=true/\wpD P r (i+1) ((i,rd,wr)::log) st' K
def gY.keep (st:gY)(ts:List Nat):gY:=⟨λt=>if t∈ts then st.tm t else .none,st.bx⟩
theorem XN (w:World)(o:Obj)(r:Nat)(h:r<w.heap.size):(w.alloc o).heap[r]? = w.heap[r]?:=by show(w.heap.push o)[r]? = w.heap[r]?;rw[D9,au (Nat.ne_of_lt h)]
theorem yE.keep {I J:IH}{ρ σ:Ren}{w w':World}{b:Nat}{x:Box}(h:yE I ρ w b x)(hI:I.le J)(hρ:ρ.le σ)(hb:σ b=ρ b)
 (hk:∀k,x.uses (ρ b) k->w'.heap[k]? = w.heap[k]?):yE J σ w' b x:=by
 cases x with
 |absent=>exact hb.trans h
 |dead=>trivial
 | var xs=>obtain⟨k,cap,cs,hr,hw,hs,hc⟩:=h;exact⟨k,cap,cs,hb.trans hr,(hk k ⟨cap,hr⟩).trans hw,hs,λj u x hu hx=>(hc j u x hu hx).mono hI hρ⟩
 | dat sz es=>obtain⟨k,cap,hr,hl,hm,hsz,hc⟩:=h;refine⟨k,cap,hb.trans hr,hl,hm,hsz,λh0=>?_⟩;obtain⟨cs,e,hw,hs,h1,hc⟩:=hc h0;exact⟨cs,e,(hk k ⟨cap,hr,h0⟩).trans hw,hs,h1,λi j c hj=>let ⟨u,hu,hr⟩:=hc i j c hj;⟨u,hu,hr.mono hI⟩⟩
 | H8 sz es=>obtain⟨k,cap,hr,hl,hm,hsz,hc⟩:=h;refine⟨k,cap,hb.trans hr,hl,hm,hsz,λh0=>?_⟩;obtain⟨cs,hw,hc⟩:=hc h0;exact⟨cs,hI _ _ hw,λi j c hj=>let ⟨u,hu,hr⟩:=hc i j c hj;⟨u,hu,hr.mono hI⟩⟩
 | row e l=>obtain⟨k,cap,hr,hl,hm,hc⟩:=h;refine⟨k,cap,hb.trans hr,hl,hm,λh0=>?_⟩;obtain⟨cs,hw,hc⟩:=hc h0;exact⟨cs,(hk k ⟨cap,hr,h0⟩).trans hw,hc⟩
theorem BX.step {I J:IH}{ρ σ:Ren}{w w':World}{bx bx':Nat->Box}(D:Nat->Prop)(h:BX I ρ w bx)(hI:I.le J)(hρ:ρ.le σ)
 (hsame:∀b,¬D b->bx' b=bx b/\σ b=ρ b) (hkeep:∀b k,¬D b->(bx b).uses (ρ b) k->w'.heap[k]? = w.heap[k]?)
 (hok:∀b,D b->yE J σ w' b (bx' b)) (Eu:∀b k,D b->(bx' b).uses (σ b) k->(∀b',¬D b'->¬(bx b').uses (ρ b') k)/\J k=none)
 (hinj:∀b b' k,D b->D b'->(bx' b).uses (σ b) k->(bx' b').uses (σ b') k->b=b')
 (hJ:∀b k,¬D b->(bx b).uses (ρ b) k->J k=none):BX J σ w' bx':=by
 refine⟨λb=>?_,λb b' k hb hb'=>?_,λb k hb=>?_⟩
 ·by_cases hD:D b
  ·exact hok b hD
  ·obtain⟨e1,e2⟩:=hsame b hD;rw[e1];exact(h.ok b).keep hI hρ e2 λk hk=>hkeep b k hD hk
 ·by_cases hD:D b
  ·by_cases hD':D b'
   ·exact hinj b b' k hD hD' hb hb'
   ·obtain⟨e1,e2⟩:=hsame b' hD';rw[e1,e2]at hb';exact eF hb' ((Eu b k hD hb).1 b' hD')
  ·obtain⟨e1,e2⟩:=hsame b hD;rw[e1,e2]at hb;by_cases hD':D b'
   ·exact eF hb ((Eu b' k hD' hb').1 b hD)
   ·obtain⟨e1',e2'⟩:=hsame b' hD';rw[e1',e2']at hb';exact h.inj b b' k hb hb'
 ·by_cases hD:D b
  ·exact(Eu b k hD hb).2
  ·obtain⟨e1,e2⟩:=hsame b hD;rw[e1,e2]at hb;exact hJ b k hD hb
theorem Agree.alloc {I:IH}{w:World}(h:Agree I w)(o:Obj):Agree I (w.alloc o):=λb c hc=>by obtain⟨e,fr,hw⟩:=h b c hc;exact⟨e,fr,(XN w o b (Ac hw)).trans hw⟩
theorem Agree.other {I:IH}{w w':World}(h:Agree I w)(hk:∀k c,I k=some c->w'.heap[k]? = w.heap[k]?):Agree I w':=λb c hc=>by obtain⟨e,fr,hw⟩:=h b c hc;exact⟨e,fr,(hk b c hc).trans hw⟩
theorem Agree.aa8 {I:IH}{w:World}(h:Agree I w){k:Nat}(hk:w.heap.size<=k):I k=none:=by
 cases hc:I k with
 |none=>rfl
 |some c=>have:=h.lt hc;omega
def Ren.set (ρ:Ren)(l k cap:Nat):Ren:=λb=>if b=l then some (k,cap)else ρ b
theorem Ren.Pq {ρ:Ren}{l k cap:Nat}(h:ρ l=none):ρ.le (ρ.set l k cap):=λb x hb=>by unfold Ren.set;rw[au (λe=>by subst e;rw[h]at hb;cases hb)];exact hb
theorem Ren.pz (ρ:Ren)(l k cap:Nat):(ρ.set l k cap) l=some (k,cap):=by simp[Ren.set]
theorem Ren.yl {ρ:Ren}{l k cap b:Nat}(h:b≠l):(ρ.set l k cap) b=ρ b:=by simp[Ren.set,h]
theorem BX.new {I:IH}{ρ:Ren}{w:World}{bx:Nat->Box}(h:BX I ρ w bx)(hA:Agree I w){l:Nat}(hl:bx l = .absent)(cs:Array Value)(e:TypeId)(cap:Nat)(x:Box)
 (hx:yE I (ρ.set l w.heap.size cap) (w.alloc (.cells cs e)) l x) :
 BX I (ρ.set l w.heap.size cap) (w.alloc (.cells cs e)) (λb=>if b=l then x else bx b):=by
 have hrl:ρ l=none:=by have:=h.ok l;rwa[hl]at this
 refine BX.step (λb=>b=l) h (IH.le_refl I) (Ren.Pq hrl) ?_ ?_ ?_ ?_ ?_ ?_
 ·intro b hb;exact⟨by simp[hb],Ren.yl hb⟩
 ·intro b k hb hk;exact XN _ _ _ ((h.ok b).lt hk)
 ·rintro b rfl;simpa using hx
 ·rintro b k rfl hk;have hk':k=w.heap.size:=by
   simp only[jY,Ren.pz]at hk;cases x with
   |absent=>exact hk.elim
   |dead=>exact hk.elim
   |H8 sz es=>exact hk.elim
   |var xs=>obtain⟨c,hc⟩:=hk;simp at hc;exact hc.1.symm
   |dat sz es=>obtain⟨c,hc,_⟩:=hk;simp at hc;exact hc.1.symm
   |row e l=>obtain⟨c,hc,_⟩:=hk;simp at hc;exact hc.1.symm
  subst hk';exact⟨λb' hb' hu=>by have:=(h.ok b').lt hu;omega,hA.aa8 (aC _)⟩
 ·rintro b b' k rfl rfl _ _;rfl
 ·intro b k hb hk;exact h.fresh b k hk
theorem BX.set {I:IH}{ρ:Ren}{w w':World}{bx:Nat->Box}(h:BX I ρ w bx){b k:Nat}(hu:(bx b).uses (ρ b) k)(x:Box)(hux:∀k',x.uses (ρ b) k'->k'=k)
 (hk:∀k',k'≠k->w'.heap[k']? = w.heap[k']?) (hx:yE I ρ w' b x):BX I ρ w' (λc=>if c=b then x else bx c):=by
 refine BX.step (λc=>c=b) h (IH.le_refl I) (Ren.le_refl ρ) ?_ ?_ ?_ ?_ ?_ ?_
 ·intro c hc;exact⟨by simp[hc],rfl⟩
 ·intro c k' hc hu';refine hk k' λe=>hc ?_;subst e;exact h.inj c b k' hu' hu
 ·rintro c rfl;simpa using hx
 ·rintro c k' rfl hk';simp only[jY]at hk';have:=hux k' hk';subst this;exact⟨λb' hb' hu'=>hb' (h.inj b' c k' hu' hu),h.fresh c k' hu⟩
 ·rintro c c' k' rfl rfl _ _;rfl
 ·intro c k' hc hu';exact h.fresh c k' hu'
structure Env (P:Program) where
 w0:World
 I0:IH
 M:Nat->Prop
 Yn:Ren
 m:Nat
 tab:Tabs P I0
structure GX {P:Program}(E:Env P)(I:IH)(ρ:Ren)(n:Nat)(st:gY)(a:Act)(w:World):Prop extends GS I ρ n st a w where
 DT:DW E.w0 w E.M
 own:∀b k,(st.bx b).uses (ρ b) k->E.w0.heap.size<=k\/E.M k
 Nq:E.I0.le I
 I7:∀k,k<E.w0.heap.size->¬E.M k->I k=E.I0 k
 zU:∀b,b<E.m->ρ b=E.Yn b
theorem GX.tabs {P:Program}{E:Env P}{I:IH}{ρ:Ren}{n:Nat}{st:gY}{a:Act}{w:World}(h:GX E I ρ n st a w):Tabs P I:=E.tab.mono h.Nq
theorem GX.put {P:Program}{E:Env P}{I:IH}{ρ:Ren}{n:Nat}{st:gY}{a:Act}{w:World}(h:GX E I ρ n st a w){d:Nat}(hd:d<n){v:Value}{s:Slot}(hv:GSl I ρ v s) :
 GX E I ρ n (st.put d s) (a.put (some d) v) w:=by
 refine{ h with tm:=λt ht=>?_,size:=by simp[jH,h.size],defers:=h.defers,agree:=h.agree,bx:=h.bx };have hdt:d<a.tmps.size:=by rw[h.size];exact hd
 simp only[jH,gY.V8];by_cases e:t=d
 ·subst e;simpa[Array.getD,hdt]using hv
 ·have:=h.tm t ht;rw[au e];have e':d≠t:=λx=>e x.symm;simpa[fH,Array.getElem?_setIfInBounds,e']using this
theorem GX.BD {P:Program}{E:Env P}{I:IH}{ρ:Ren}{n:Nat}{st:gY}{a:Act}{w:World}(h:GX E I ρ n st a w){d:Option Nat}(hd:∀x,d=some x->x<n){v:Value}{s:Slot}(hv:GSl I ρ v s) :
 GX E I ρ n (st.BD d s) (a.put d v) w:=by
 cases d with
 |none=>exact h
 |some d=>exact h.put (hd d rfl) hv
theorem GX.drew {P:Program}{E:Env P}{I:IH}{ρ:Ren}{n:Nat}{st:gY}{a:Act}{w:World}(h:GX E I ρ n st a w):GX E I ρ n st a w.drew:=
 { agree:=h.agree,bx:=⟨h.bx.ok,h.bx.inj,h.bx.fresh⟩,tm:=h.tm,size:=h.size,defers:=h.defers,DT:=⟨h.DT.os,h.DT.tape,h.DT.output,h.DT.size,h.DT.block⟩,own:=h.own,Nq:=h.Nq,I7:=h.I7,zU:=h.zU }
theorem GX.lit {P:Program}{E:Env P}{I:IH}{ρ:Ren}{n:Nat}{st:gY}{a:Act}{w:World}(h:GX E I ρ n st a w):BX I ρ w st.bx:=h.bx
theorem GX.new {P:Program}{E:Env P}{I:IH}{ρ:Ren}{n:Nat}{st:gY}{a:Act}{w:World}(h:GX E I ρ n st a w){l:Nat}(hl:st.bx l = .absent)(hm:E.m<=l)(cs:Array Value)(e:TypeId)(cap:Nat)(x:Box)
 (hx:yE I (ρ.set l w.heap.size cap) (w.alloc (.cells cs e)) l x):GX E I (ρ.set l w.heap.size cap) n (st.Ap l x) a (w.alloc (.cells cs e)):=by
 have hrl:ρ l=none:=by have:=h.bx.ok l;rwa[hl]at this
 have hle:=Ren.Pq (ρ:=ρ) (k:=w.heap.size) (cap:=cap) hrl;refine{ agree:=h.agree.alloc _,bx:=BX.new h.bx h.agree hl cs e cap x hx,tm:=λt ht=>(h.tm t ht).mono (IH.le_refl _) hle,size:=h.size,defers:=h.defers,DT:=?_,own:=?_,Nq:=h.Nq,I7:=h.I7,zU:=?_ }
 ·exact h.DT.trans (N:=λ_=>False) ⟨rfl,rfl,rfl,mg,λk hk _=>XN _ _ _ hk⟩ (λ_ _ hf=>hf.elim)
 ·intro b k hu;simp only[gY.tu]at hu;by_cases e:b=l
  ·subst e
   left
   have hs:=h.DT.size;have hk':k=w.heap.size:=by
    simp only[jY,Ren.pz]at hu;cases x with
    |absent=>exact hu.elim
    |dead=>exact hu.elim
    |H8 sz es=>exact hu.elim
    |var xs=>obtain⟨c,hc⟩:=hu;simp at hc;exact hc.1.symm
    |dat sz es=>obtain⟨c,hc,_⟩:=hu;simp at hc;exact hc.1.symm
    |row e l=>obtain⟨c,hc,_⟩:=hu;simp at hc;exact hc.1.symm
   omega
  ·rw[au e,Ren.yl e]at hu;exact h.own b k hu
 ·intro b hb;rw[Ren.yl aI];exact h.zU b hb
theorem GX.Ap {P:Program}{E:Env P}{I:IH}{ρ:Ren}{n:Nat}{st:gY}{a:Act}{w w':World}(h:GX E I ρ n st a w){b k:Nat}(hu:(st.bx b).uses (ρ b) k)(x:Box)(hux:∀k',x.uses (ρ b) k'->k'=k)
 (hF:DW w w' (λk'=>k'=k)) (hx:yE I ρ w' b x) (hsz:w'.heap.size=w.heap.size):GX E I ρ n (st.Ap b x) a w':=by
 have hk:∀k',k'≠k->w'.heap[k']? = w.heap[k']?:= λk' hne=>by
  by_cases hlt:k'<w.heap.size
  ·exact hF.block k' hlt hne
  ·rw[xe aI,xe aI]
 refine{ agree:=h.agree.other λk' c hc=>hk k' λe=>?_,bx:=BX.set h.bx hu x hux hk hx,tm:=h.tm,size:=h.size,defers:=h.defers,DT:=?_,own:=?_,Nq:=h.Nq,I7:=h.I7,zU:=h.zU }
 ·subst e;have:=h.bx.fresh b k' hu;rw[this]at hc;cases hc
 ·refine h.DT.trans hF λk' hlt e=>?_;subst e;rcases h.own b k' hu with h1|h1
  ·omega
  ·exact h1
 ·intro c k' hc;simp only[gY.tu]at hc;by_cases e:c=b
  ·subst e;simp only[jY]at hc;have:=hux k' hc;subst this;exact h.own c k' hu
  ·rw[au e]at hc;exact h.own c k' hc
section
def akv : Value->AC->Bool
 |.int k n,.c (.lit (.int k' n'))=>k==k'&&n==n'
 |.bool b,.c (.lit (.bool b'))=>b==b'
 |.string s,.c (.str l)=>s.data.toList==l&&decide (l.length<=1000000)
 |.slice none 0 0,.nS _=>true
 |.slice none 0 0,.c (.sl _ [])=>true
 |.pointer none,.c (.lit (.pointer none))=>true
 |.nilFunc,.c (.lit .nilFunc)=>true
 |.nilIface,.c (.lit .nilIface)=>true
 |_,_=>false
theorem ael {I:IH}{ρ:Ren}{v:Value}{x:AC}(h:akv v x=true):GC I ρ v x:=by
 unfold akv at h;split at h
 ·simp only[ah,aZ]at h;obtain⟨rfl,rfl⟩:=h;exact Rd.lit _ rfl
 ·simp only[aZ]at h;subst h;exact Rd.lit _ rfl
 ·rename_i s l;simp only[ah,aZ,aF]at h;obtain⟨rfl,hl⟩:=h;have:s=⟨⟨s.data.toList⟩⟩:=by cases s;rfl
  exact this▸Rd.str _ (by simp only[maxLen];omega)
 ·rfl
 ·exact Rd.sl none 0 0 _ [] (λ_ _=>undef) rfl (aC _) (Nat.zero_le _) (λe h=>by cases h) (λh=>by omega) (λad h=>by cases h) (λi j c h=>by simp at h)
 ·exact Rd.lit _ rfl
 ·exact Rd.lit _ rfl
 ·exact Rd.lit _ rfl
 ·cases h
def lJ (n:Nat):Operand->pU->Bool
 |.tmp t,.t s=>t==s&&decide (t<n)
 |.const v,.k x=>akv v x
 |.func f,.k (.fn g [])=>f==g
 |.global g,.k (.c (.lit (.pointer (some a))))=>a.block==g&&a.off==0&&a.spot.isNone
 |_,_=>false
section
variable {P:Program} {E:Env P} {I:IH} {ρ:Ren} {n:Nat} {st:gY} {a:Act} {w:World}
theorem am7 (h:GX E I ρ n st a w){x:Operand}{y:pU}(hc:lJ n x y=true):GSl I ρ (a.eval x) (y.ev st.tm):=by
 unfold lJ at hc;split at hc
 ·simp only[ah,aZ,aF]at hc;obtain⟨rfl,hlt⟩:=hc;exact h.tm _ hlt
 ·exact⟨λ_=>ael hc,λe=>by cases e⟩
 ·simp only[aZ]at hc;subst hc;exact⟨λ_=>⟨[],rfl,mg,rfl⟩,λe=>by cases e⟩
 ·rename_i g ad;simp only[ah,aZ]at hc;obtain⟨⟨h1,h2⟩,h3⟩:=hc;refine⟨λ_=>?_,λe=>by cases e⟩;have:ad=⟨g,0,none⟩:=by cases ad;simp at *;exact⟨h1,h2,h3⟩
  subst this;exact Rd.lit _ rfl
 ·cases hc
theorem oK (h:GX E I ρ n st a w){x:Operand}{y:pU}(hc:lJ n x y=true)(hv:(y.ev st.tm).g=true):GV I ρ (a.eval x) (fK st.tm y):=by
 have:=am7 h hc;unfold fK;cases hs:y.ev st.tm with
 |none=>rw[hs]at hv;cases hv
 |v g x=>rw[hs]at hv this;exact this.1 hv
def xq (P:Program)(E:Env P)(n:Nat)(o:Oper)(a:Act)(w:World)(st:gY)(rv:AV):Prop:=
 ∃v w' I' ρ',((execOp a.eval o).run P w = .ok (.value v) w'\/(execOp a.eval o).run P w = .ok .skip w'/\o.dst=none)/\GX E I' ρ' n st a w'/\(o.dst≠none->GV I' ρ' v rv)
def D6 : Op->Bool
 |.alloc _|.box _ _|.makeSlice _ _ _|.buildSlice _ _ _|.store _ _ _=>false
 |.call c=>(match c.callee with|.builtin .len|.builtin .cap|.builtin .max|.builtin .min|.value _=>true|_=>false)
 |_=>true
def Su : Op->Bool
 |.store _ _ _=>true
 |_=>false
structure Eff (o:Oper)(a:Act)(w w':World):Prop where
 quiet:D6 o.op=true->w'=w
 store:∀t p x,o.op = .store t p x->∃k off cs e,a.eval p = .pointer (some ⟨k,off,none⟩)/\w.heap[k]? = some (.cells cs e (0,0))/\off+(a.eval x).cells.size<=cs.size /\
  w'=w.setRow k (splice cs.toList off (a.eval x).cells.toList).toArray
def xR (P:Program)(E:Env P)(n:Nat)(o:Oper)(a:Act)(w:World)(st:gY)(rv:AV):Prop:=
 ∃v w' I' ρ',((execOp a.eval o).run P w = .ok (.value v) w'\/(execOp a.eval o).run P w = .ok .skip w'/\o.dst=none)/\GX E I' ρ' n st a w'/\(o.dst≠none->GV I' ρ' v rv)/\Eff o a w w'
theorem acW {o:Oper}{a:Act}{w w':World}{v:Value}(hr:(execOp a.eval o).run P w = .ok (.value v) w')(hs:Su o.op=true):False:=by
 unfold Su at hs;split at hs
 ·rename_i t p x he;simp only[execOp,he,dN]at hr;cases h:(BN t (a.eval p) (a.eval x)).run P w<;>rw[h]at hr<;>simp at hr
 ·cases hs
theorem xq.val {o:Oper}{v:Value}{rv:AV}(h:GX E I ρ n st a w)(hr:(execOp a.eval o).run P w = .ok (.value v) w)(hv:GV I ρ v rv):xR P E n o a w st rv:=
 ⟨v,w,I,ρ,.inl hr,h,λ_=>hv,{ quiet:=λ_=>rfl,store:=λt p x he=>(acW hr (by rw[he];rfl)).elim }⟩
theorem xq.toE {o:Oper}{rv:AV}(h:xq P E n o a w st rv)(hq:D6 o.op=false)(hs:Su o.op=false):xR P E n o a w st rv:=
 let ⟨v,w',I',ρ',h1,h2,h3⟩:=h
 ⟨v,w',I',ρ',h1,h2,h3,{ quiet:=λe=>(by rw[hq]at e;cases e),store:=λt p x he=>(by rw[he]at hs;cases hs) }⟩
def Le : TypeDesc->Bool
 |.struct _|.array _ _=>true
 |_=>false
def MG (P:Program)(t:TypeId)(agg:Bool)(k:Nat):Bool:=
 match P.underlying t,P.info? t with
 |some d,some i=>Le d==agg&&i.size==k
 |_,_=>false
theorem IK {t:TypeId}{agg:Bool}{k:Nat}(h:MG P t agg k=true)(w:World):(isAgg t).run P w = .ok agg w/\(sizeOf t).run P w = .ok k w:=by
 unfold MG at h;split at h
 ·rename_i d i hd hi;simp only[ah,aZ]at h;obtain⟨rfl,rfl⟩:=h;refine⟨?_,by simp[sizeOf,typeInfo,hi]⟩;cases d<;>simp[isAgg,run_underlying hd,Le]
 ·cases h
def Tj (P:Program)(t:TypeId)(k:Nat):Bool:=match P.info? t with|some i=>i.size==k|none=>false
theorem NL {t:TypeId}{k:Nat}(h:Tj P t k=true):∃i,P.info? t=some i/\i.size=k:=by
 unfold Tj at h;split at h
 ·rename_i i hi;exact⟨i,hi,by simpa using h⟩
 ·cases h
def ahL (n:Nat)(op:Op)(y:pU):Bool:=match op with|.move x|.assign x=>lJ n x y|_=>false
theorem ak3 {o:Oper}{y:pU}(h:GX E I ρ n st a w)(hc:ahL n o.op y=true)(hv:(y.ev st.tm).g=true):xR P E n o a w st (fK st.tm y):=by
 unfold ahL at hc;split at hc
 ·rename_i x hx;exact xq.val h (v:=a.eval x) (by simp[execOp,hx]) (oK h hc hv)
 ·rename_i x hx;exact xq.val h (v:=a.eval x) (by simp[execOp,hx]) (oK h hc hv)
 ·cases hc
def YL (n:Nat)(op:Op)(c x y:pU):Bool:=match op with|.pick c' x' y'=>lJ n c' c&&lJ n x' x&&lJ n y' y|_=>false
theorem Ld {v:Value}{b:Bool}(h:GV I ρ v (xX b)):v = .bool b:=by cases h with|lit v hv=>rfl
theorem zT {v:Value}{k:IntKind}{m:Int}(h:GV I ρ v (yH k m)):v = .int k m:=by cases h with|lit v hv=>rfl
theorem JL {v:Value}{l:List UInt8}(h:GV I ρ v (LK l)):v = .string ⟨⟨l⟩⟩/\l.length<=maxLen:=by cases h with|str l hl=>exact⟨rfl,hl⟩
theorem JE (b:Bool):GV I ρ (.bool b) (xX b):=Rd.lit _ rfl
theorem Cm (k:IntKind)(m:Int):GV I ρ (.int k m) (yH k m):=Rd.lit _ rfl
theorem Za {l:List UInt8}(h:l.length<=maxLen):GV I ρ (.string ⟨⟨l⟩⟩) (LK l):=Rd.str l h
theorem adC (x y:AV){v:Value}(h:GV I ρ v x):GV I ρ v (TV true x y):=by
 unfold TV;split
 ·exact h
 ·exact h
theorem abn (x y:AV){v:Value}(h:GV I ρ v y):GV I ρ v (TV false x y):=by
 unfold TV;split
 ·exact h
 ·simpa using h
theorem agy {o:Oper}{c x y:pU}{t:Bool}(h:GX E I ρ n st a w)(hc:YL n o.op c x y=true)(hg:(c.ev st.tm).g=true)(ht:fK st.tm c=xX t)
 (hx:t=true->(x.ev st.tm).g=true) (hy:t=false->(y.ev st.tm).g=true):xR P E n o a w st (TV t (fK st.tm x) (fK st.tm y)):=by
 unfold YL at hc;split at hc
 ·rename_i c' x' y' he;simp only[ah]at hc;have h1:=oK h hc.1.1 hg;rw[ht]at h1;have h1:=Ld h1;cases t with
  |true=>exact xq.val h (v:=a.eval x') (by simp[execOp,he,h1,asBool]) (adC _ _ (oK h hc.1.2 (hx rfl)))
  |false=>exact xq.val h (v:=a.eval y') (by simp[execOp,he,h1,asBool]) (abn _ _ (oK h hc.2 (hy rfl)))
 ·cases hc
theorem toList_eq (l:List UInt8):(⟨⟨l⟩⟩:ByteArray).toList=l:=by rw[ByteArray.toList_eq]
theorem size_mk (l:List UInt8):(⟨⟨l⟩⟩:ByteArray).size=l.length:=rfl
theorem alh {b:BinOp}{t:TypeId}{x y:Value}{u v:AV}(w:World)(hx:GV I ρ x u)(hy:GV I ρ y v)(kF:(Uf b u v).vc) :
 ∃r,(binOp b t x y).run P w = .ok r w/\GV I ρ r (Uf b u v).v:=by
 unfold Uf at *;split at kF
 ·rename_i k m k' m';obtain⟨rfl,kF⟩:=kF;have h1:=zT hx;have h2:=zT hy;subst h1;subst h2;cases b<;>simp only[Ef,FR.bad,FR.ok]at kF⊢ <;>
   first
   |exact kF.elim
   |(refine⟨_,?_,Cm _ _⟩;simp[binOp,Gw,Op.intDiv,Op.intBits,kF])
   |(refine⟨_,?_,JE _⟩;simp[binOp,Op.intCmp])
 ·rename_i l l';obtain⟨h1,hl⟩:=JL hx;obtain⟨h2,hl'⟩:=JL hy;subst h1;subst h2;cases b<;>simp only[Ei,FR.bad,FR.ok]at kF⊢ <;>
   first
   |exact kF.elim
   |(refine⟨_,?_,JE _⟩;simp only[binOp,Op.stringOp,toList_eq];rfl)
   |skip
  refine⟨.string ⟨⟨l++l'⟩⟩,?_,Za (by simpa using kF)⟩;have h63:¬((l.length+l'.length:Nat):Int)>yK.max:=by simp only[maxLen]at kF;have e:yK.max=9223372036854775807:=(by decide);rw[e];omega
  have happ:(⟨⟨l⟩⟩:ByteArray)++⟨⟨l'⟩⟩=⟨⟨l++l'⟩⟩:=by apply ByteArray.ext;simp
  simp only[binOp,Op.stringOp,size_mk];rw[au h63,happ];rfl
 ·exact kF.elim
def acD (n:Nat)(op:Op)(b:BinOp)(x y:pU):Bool:=match op with|.binOp b' _ x' y' _=>b'==b&&lJ n x' x&&lJ n y' y|_=>false
theorem EN (b:BinOp)(t:TypeId)(x y:Operand)(k:IntKind)(m:Int)(v:Value)(w:World):(eqGuard b t x y (.int k m) v).run P w = .ok () w:=by cases b<;>rfl
theorem Us (b:BinOp)(t:TypeId)(x y:Operand)(s:ByteArray)(v:Value)(w:World):(eqGuard b t x y (.string s) v).run P w = .ok () w:=by cases b<;>rfl
theorem KI (b:BinOp)(t:TypeId)(x y:Operand)(s:Bool)(v:Value)(w:World):(eqGuard b t x y (.bool s) v).run P w = .ok () w:=by cases b<;>rfl
theorem ahC {o:Oper}{b:BinOp}{x y:pU}(h:GX E I ρ n st a w)(hc:acD n o.op b x y=true)(hx:(x.ev st.tm).g=true)(hy:(y.ev st.tm).g=true)
 (kF:(Uf b (fK st.tm x) (fK st.tm y)).vc):xR P E n o a w st (Uf b (fK st.tm x) (fK st.tm y)).v:=by
 unfold acD at hc;split at hc
 ·rename_i b' t x' y' t' he;simp only[ah,aZ]at hc;obtain⟨⟨rfl,h1⟩,h2⟩:=hc;have g1:=oK h h1 hx;have g2:=oK h h2 hy;obtain⟨r,hr,hg⟩:=alh (P:=P) (t:=t) w g1 g2 kF;refine xq.val h ?_ hg;have hq:(eqGuard b' t x' y' (a.eval x') (a.eval y')).run P w = .ok () w:=by
   unfold Uf at kF;split at kF
   ·rename_i e1 e2;rw[e1]at g1;rw[zT g1];exact EN _ _ _ _ _ _ _ _
   ·rename_i e1 e2;rw[e1]at g1;rw[(JL g1).1];exact Us _ _ _ _ _ _ _
   ·exact kF.elim
  simp[execOp,he,hq,hr]
 ·cases hc
def acC (P:Program)(n:Nat)(op:Op)(ng:Bool)(x y:pU):Bool:=
 match op with
 |.binOp b t x' y' _=>(match b with|.eql=> !ng|.neq=>ng|_=>false)&&(match P.underlying t with|some .bool=>true|_=>false)&&lJ n x' x&&lJ n y' y
 |_=>false
theorem ahB {o:Oper}{ng:Bool}{x y:pU}(h:GX E I ρ n st a w)(hc:acC P n o.op ng x y=true)(hx:(x.ev st.tm).g=true)(hy:(y.ev st.tm).g=true)
 (kF:(aal ng (fK st.tm x) (fK st.tm y)).vc):xR P E n o a w st (aal ng (fK st.tm x) (fK st.tm y)).v:=by
 unfold acC at hc;split at hc
 ·rename_i b t x' y' t' he;simp only[ah]at hc;obtain⟨⟨⟨hb,ht⟩,h1⟩,h2⟩:=hc;have g1:=oK h h1 hx;have g2:=oK h h2 hy;unfold aal at kF⊢;split at kF
  ·rename_i p q e1 e2;rw[e1]at g1;rw[e2]at g2;have hu:P.underlying t=some .bool:=by
    split at ht
    ·assumption
    ·cases ht
   have hd:∀d,(Bv (d+1) t (.bool p) (.bool q)).run P w = .ok (p==q) w:=λd=>(by simp[Bv,run_underlying hu]);have he':(Op.equal t (.bool p) (.bool q)).run P w = .ok (p==q) w:=hd 9999;have hp:=Ld g1;have hq:=Ld g2;simp only[FR.ok];cases b<;>simp at hb
   ·subst hb;refine xq.val h ?_ (JE _);simp[execOp,he,hp,hq,KI,binOp,he']
   ·subst hb;refine xq.val h ?_ (JE _);simp[execOp,he,hp,hq,KI,binOp,he',bne]
  ·exact kF.elim
 ·cases hc
def acI (n:Nat)(op:Op)(x:pU):Bool:=match op with|.unOp .not _ x'=>lJ n x' x|_=>false
theorem ai5 {o:Oper}{x:pU}{b:Bool}(h:GX E I ρ n st a w)(hc:acI n o.op x=true)(hx:(x.ev st.tm).g=true)(hb:fK st.tm x=xX b):xR P E n o a w st (xX (!b)):=by
 unfold acI at hc;split at hc
 ·rename_i t x' he;have g1:=oK h hc hx;rw[hb]at g1;have hp:=Ld g1;exact xq.val h (by simp[execOp,he,hp,Op.unary]) (JE _)
 ·cases hc
def acH (n:Nat)(op:Op)(x:pU):Bool:=match op with|.unOp .neg _ x'=>lJ n x' x|_=>false
theorem ai3 {o:Oper}{x:pU}{k:IntKind}{m:Int}(h:GX E I ρ n st a w)(hc:acH n o.op x=true)(hx:(x.ev st.tm).g=true)(hb:fK st.tm x=yH k m):xR P E n o a w st (yH k (k.wrap (0-m))):=by
 unfold acH at hc;split at hc
 ·rename_i t x' he;have g1:=oK h hc hx;rw[hb]at g1;have hp:=zT g1;exact xq.val h (v:=.int k (k.wrap (0-m))) (by simp[execOp,he,hp,Op.unary,Gw]) (Cm _ _)
 ·cases hc
def YD (P:Program)(n:Nat)(op:Op)(k:IntKind)(x:pU):Bool:=match op with|.convert s d x'=>(match P.underlying s with|some _=>true|none=>false)&&(match P.underlying d with|some (.int k')=>k'==k|_=>false)&&lJ n x' x|_=>false
theorem afH {o:Oper}{x:pU}{k j:IntKind}{m:Int}(h:GX E I ρ n st a w)(hc:YD P n o.op k x=true)(hx:(x.ev st.tm).g=true)(hb:fK st.tm x=yH j m):xR P E n o a w st (yH k (k.wrap m)):=by
 unfold YD at hc;split at hc
 ·rename_i s d x' he;simp only[ah]at hc;have g1:=oK h hc.2 hx;rw[hb]at g1;have hp:=zT g1;obtain⟨⟨h1,h2⟩,_⟩:=hc;split at h1
  ·rename_i ds hs;split at h2
   ·rename_i k' hd;simp only[aZ]at h2;subst h2;exact xq.val h (v:=.int k' (k'.wrap m)) (by simp[execOp,he,hp,convert,run_underlying hs,run_underlying hd,Conv.intToInt]) (Cm _ _)
   ·cases h2
  ·cases h1
 ·cases hc
def YM (P:Program)(n:Nat)(op:Op)(x:pU):Bool:=match op with|.convert s d x'=>(match P.underlying s with|some .string=>true|_=>false)&&(match P.underlying d with|some .string=>true|_=>false)&&lJ n x' x|_=>false
theorem agJ {o:Oper}{x:pU}{l:List UInt8}(h:GX E I ρ n st a w)(hc:YM P n o.op x=true)(hx:(x.ev st.tm).g=true)(hb:fK st.tm x=LK l):xR P E n o a w st (LK l):=by
 unfold YM at hc;split at hc
 ·rename_i s d x' he;simp only[ah]at hc;have g1:=oK h hc.2 hx;rw[hb]at g1;obtain⟨hp,hl⟩:=JL g1;obtain⟨⟨h1,h2⟩,_⟩:=hc;split at h1
  ·rename_i hs;split at h2
   ·rename_i hd;exact xq.val h (by simp[execOp,he,hp,convert,run_underlying hs,run_underlying hd]) (Za hl)
   ·cases h2
  ·cases h1
 ·cases hc
end
end
section
section
variable {P:Program} {E:Env P} {I:IH} {ρ:Ren} {n:Nat} {st:gY} {a:Act} {w:World}
theorem mY {α:Type}{es:List (List α)}{i j:Nat}{c:α}(h:(es.getD i [])[j]? = some c):i<es.length:=by
 by_cases hi:i<es.length
 ·exact hi
 ·simp[dJ,kV (BQ hi)]at h
theorem Addr.add_zero (p:Addr):p.add 0=p:=by simp[CJ]
theorem Addr.uw (k o i:Nat):(⟨k,o,none⟩:Addr).add i=⟨k,o+i,none⟩:=by
 unfold CJ;split
 ·simp_all
 ·rfl
theorem Addr.add_add (p:Addr)(i j:Nat):(p.add i).add j=p.add (i+j):=by unfold CJ;by_cases hi:i=0<;>by_cases hj:j=0<;>simp[hi,hj,uf]
def Eb (I:IH)(ρ:Ren)(w:World)(p:Addr)(xs:List AC):Prop:=
 ∀(j:Nat) (x:AC),xs[j]? = some x->∃u,w.cell? (p.add j)=some u/\GC I ρ u x
theorem Eb.drop {p:Addr}{xs:List AC}(h:Eb I ρ w p xs)(off:Nat):Eb I ρ w (p.add off) (xs.drop off):=λj x hj=>by rw[gW]at hj;rw[Addr.add_add];exact h _ _ hj
theorem Eb.take {p:Addr}{xs:List AC}(h:Eb I ρ w p xs)(k:Nat):Eb I ρ w p (xs.take k):=λj x hj=>by
 rw[dK]at hj;split at hj
 ·exact h _ _ hj
 ·cases hj
theorem Eb.list {p:Addr}{xs:List AC}(h:Eb I ρ w p xs):∃us:List Value,us.length=xs.length/\(∀(j:Nat) (u:Value),us[j]? = some u->w.cell? (p.add j)=some u)/\NZ I ρ us xs:=by
 induction xs generalizing p with
 |nil=>exact⟨[],rfl,mg,rfl,mg⟩
 | cons x r ih=>
   obtain⟨u,hu,hg⟩:=h 0 x rfl;obtain⟨us,hl,hc,hgs⟩:=ih (p:=p.add 1) (λj y hj=>by rw[Addr.add_add];rw[yu];exact h (j+1) y (by simpa using hj));refine⟨u::us,by simp[hl],λj v hj=>?_,by simp[hl],λj v y hv hy=>?_⟩
   ·cases j with
    |zero=>simp at hj;subst hj;exact hu
    |succ j=>have:=hc j v (by simpa using hj);rwa[Addr.add_add,yu]at this
   ·cases j with
    |zero=>simp at hv hy;subst hv;subst hy;exact hg
    |succ j=>exact hgs.2 j v y (by simpa using hv) (by simpa using hy)
theorem Zy {t:TypeId}{k:Nat}(ht:MG P t true k=true){p:Addr}{xs:List AC}(hl:xs.length=k)(h:Eb I ρ w p xs) :
 ∃v,(loadVar t p).run P w = .ok v w/\GV I ρ v (.agg xs):=by
 obtain⟨us,hul,hc,hg⟩:=h.list;obtain⟨h1,h2⟩:=IK ht w;have h3:=run_loadCells_list (P:=P) w p us hc;refine⟨.agg us.toArray,?_,us.toArray,rfl,by simpa using hg⟩;rw[hul,hl]at h3;simp[loadVar,h1,h2,h3]
theorem LC {t:TypeId}{k:Nat}(ht:MG P t false k=true){p:Addr}{u:Value}(h:w.cell? p=some u):(loadVar t p).run P w = .ok u w:=by obtain⟨h1,h2⟩:=IK ht w;simp[loadVar,h1,run_load,h]
theorem BX.ag1 (h:BX I ρ w st.bx){b k cap:Nat}{xs:List AC}(hb:st.bx b = .var xs)(hr:ρ b=some (k,cap)):Eb I ρ w ⟨k,0,none⟩ xs:=λj x hj=>by
 have:=h.ok b;rw[hb]at this;obtain⟨k',cap',cs,hr',hw,hs,hc⟩:=this;rw[hr]at hr';simp at hr';obtain⟨rfl,rfl⟩:=hr';have hjl:j<cs.size:=by rw[hs];exact(aT.1 hj).1
 refine⟨cs[j],?_,hc j _ x (lZ hjl) hj⟩;rw[Addr.uw];simp[iy,hw,lZ hjl]
theorem GS.N8 (h:GX E I ρ n st a w){b k cap sz:Nat}{es:List (List Cell)}(hb:(st.bx b).arr=some (sz,es))(hr:ρ b=some (k,cap))(hc:cap≠0){i:Nat}(hi:i<es.length) :
 Eb I ρ w ⟨k,i*sz,none⟩ ((es.getD i []).map .c):=λj x hj=>by
 rw[dG]at hj;cases hq:(es.getD i [])[j]? with
 |none=>rw[hq]at hj;cases hj
 | some c=>
   rw[hq]at hj;simp at hj;subst hj;have hok:=h.bx.ok b;rw[Addr.uw];cases hx:st.bx b with
   | dat sz' es'=>rw[hx]at hok hb;simp[Box.arr]at hb;obtain⟨rfl,rfl⟩:=hb;obtain⟨k',cap',hr',_,_,_,hd⟩:=hok;rw[hr]at hr';simp at hr';obtain⟨rfl,rfl⟩:=hr';obtain⟨cs,e,hw,_,_,hcs⟩:=hd hc;obtain⟨u,hu,hrd⟩:=hcs i j c hq;exact⟨u,by simp[iy,hw,hu],hrd⟩
   | H8 sz' es'=>rw[hx]at hok hb;simp[Box.arr]at hb;obtain⟨rfl,rfl⟩:=hb;obtain⟨k',cap',hr',_,_,_,hd⟩:=hok;rw[hr]at hr';simp at hr';obtain⟨rfl,rfl⟩:=hr';obtain⟨cs,hI,hcs⟩:=hd hc;obtain⟨u,hu,hrd⟩:=hcs i j c hq;obtain⟨e,fr,hw⟩:=h.agree _ _ hI;exact⟨u,by simp[iy,hw,hu],hrd⟩
   |absent=>rw[hx]at hb;cases hb
   |dead=>rw[hx]at hb;cases hb
   |var xs=>rw[hx]at hb;cases hb
   |row e l=>rw[hx]at hb;cases hb
theorem GS.J7 (h:GX E I ρ n st a w){b k cap sz:Nat}{es:List (List Cell)}(hb:(st.bx b).arr=some (sz,es))(hr:ρ b=some (k,cap)):es.length<=cap/\cap<=maxLen/\∀e,e∈es->e.length=sz:=by
 have hok:=h.bx.ok b;cases hx:st.bx b with
 | dat sz' es'=>rw[hx]at hok hb;simp[Box.arr]at hb;obtain⟨rfl,rfl⟩:=hb;obtain⟨k',cap',hr',h1,h2,h3,hd⟩:=hok;rw[hr]at hr';simp at hr';obtain⟨rfl,rfl⟩:=hr';exact⟨h1,h2,h3⟩
 | H8 sz' es'=>rw[hx]at hok hb;simp[Box.arr]at hb;obtain⟨rfl,rfl⟩:=hb;obtain⟨k',cap',hr',h1,h2,h3,hd⟩:=hok;rw[hr]at hr';simp at hr';obtain⟨rfl,rfl⟩:=hr';exact⟨h1,h2,h3⟩
 |absent=>rw[hx]at hb;cases hb
 |dead=>rw[hx]at hb;cases hb
 |var xs=>rw[hx]at hb;cases hb
 |row e l=>rw[hx]at hb;cases hb
def YJ (P:Program)(n:Nat)(op:Op)(agg:Bool)(k:Nat)(p:pU):Bool:=match op with|.load t p'=>lJ n p' p&&MG P t agg k&&(agg||k==1)|_=>false
theorem XT {t:TypeId}{agg:Bool}{k:Nat}(h:GX E I ρ n st a w)(ht:MG P t agg k=true){pv:Value}{p:AV}(hp:GV I ρ pv p)(kF:(BF agg k p st.bx).vc) :
 ∃v,(qM t pv).run P w = .ok v w/\GV I ρ v (BF agg k p st.bx).v:=by
 have key:∀(q:Addr) (xs:List AC) (off:Nat),pv = .pointer (some (q.add off))->Eb I ρ w q xs->(agg=true->off+k<=xs.length->∃v,(qM t pv).run P w = .ok v w/\GV I ρ v (.agg ((xs.drop off).take k))) /\
  (agg=false->∀x,xs[off]? = some x->∃v,(qM t pv).run P w = .ok v w/\GV I ρ v (.one x)):=by
  intro q xs off hq hc;refine⟨λhA hl=>?_,λhA x hx=>?_⟩
  ·subst hA;obtain⟨v,hv,hg⟩:=Zy (P:=P) (xs:=(xs.drop off).take k) ht (by simp;omega) ((hc.drop off).take k);exact⟨v,by simp[qM,hq,kY,hv],hg⟩
  ·subst hA;obtain⟨u,hu,hg⟩:=hc off x hx;exact⟨u,by simp[qM,hq,kY,LC (P:=P) ht hu],hg⟩
 unfold BF at *;split at kF
 ·rename_i b off;obtain⟨kk,cap,hr,hv⟩:=hp;split at kF
  ·rename_i xs hb;have hc:=h.bx.ag1 hb hr;have hk:=key ⟨kk,0,none⟩ xs off (by rw[Addr.uw];simpa using hv) hc
   try simp only[hb]
   split at kF
   ·rename_i hA;rw[aA hA];exact hk.1 hA kF
   ·rename_i hA;rw[au hA];split at kF
    ·rename_i x hx;simp only[FR.ok];exact hk.2 (by simpa using hA) x hx
    ·exact kF.elim
  ·exact kF.elim
 ·rename_i b i sz off;obtain⟨kk,cap,hr,hv⟩:=hp;split at kF
  ·rename_i sz' es hb
   try simp only[hb]
   have facts:=GS.J7 h hb hr;split at kF
   ·rename_i hA;rw[aA hA];obtain⟨rfl,hi,hl⟩:=kF;have hc:=GS.N8 h hb hr aI hi;have hlen:(es.getD i []).length=sz':=facts.2.2 _ (by simp[dJ,aB hi]);have:=(key ⟨kk,i*sz',none⟩ _ off (by rw[Addr.uw];exact hv) hc).1 hA (by rw[vg,hlen];exact hl);simpa[List.map_drop,xG]using this
   ·rename_i hA;rw[au hA];obtain⟨rfl,hi,hl⟩:=kF;have hc:=GS.N8 h hb hr aI hi;have hlen:(es.getD i []).length=sz':=facts.2.2 _ (by simp[dJ,aB hi]);have:=(key ⟨kk,i*sz',none⟩ _ off (by rw[Addr.uw];exact hv) hc).2 (by simpa using hA) (.c ((es.getD i []).getD off default))
     (by rw[dG,aB aI];simp[dJ,aB (show off<(es[i]?.getD []).length by simpa[dJ]using(by omega:off<(es.getD i []).length))])
    exact this
  ·exact kF.elim
 ·rename_i cs;obtain⟨p,hv,hc⟩:=hp;have hcc:Eb I ρ w p (cs.map .c):=λj x hj=>by
   rw[dG]at hj;cases hq:cs[j]? with
   |none=>rw[hq]at hj;cases hj
   |some c=>rw[hq]at hj;simp at hj;subst hj;obtain⟨u,hu,hr⟩:=hc j c hq;exact⟨u,h.agree.cell hu,hr⟩
  have hk:=key p _ 0 (by rw[Addr.add_zero];exact hv) hcc;split at kF
  ·rename_i hA;rw[aA hA];have:=hk.1 hA (by simpa using kF);simpa[xG]using this
  ·rename_i hA;rw[au hA];have h0:cs[0]? = some (cs.getD 0 default):=(by simp[dJ,aB kF]);exact hk.2 (by simpa using hA) _ (by rw[dG,h0];rfl)
 ·exact kF.elim
theorem agf {o:Oper}{agg:Bool}{k:Nat}{p:pU}(h:GX E I ρ n st a w)(hc:YJ P n o.op agg k p=true)(hx:(p.ev st.tm).g=true)(kF:(BF agg k (fK st.tm p) st.bx).vc) :
 xR P E n o a w st (BF agg k (fK st.tm p) st.bx).v:=by
 unfold YJ at hc;split at hc
 ·rename_i t p' he;simp only[ah]at hc;obtain⟨v,hv,hg⟩:=XT (P:=P) h hc.1.2 (oK h hc.1.1 hx) kF;exact xq.val h (by simp[execOp,he,hv]) hg
 ·cases hc
end
end
section
section
variable {P:Program} {E:Env P} {I:IH} {ρ:Ren} {n:Nat} {st:gY} {a:Act} {w:World}
def Qz (P:Program)(t:TypeId):Bool:=match P.underlying t with|some (.slice _)=>true|_=>false
theorem OQ {t:TypeId}(h:Qz P t=true):∃e,P.underlying t=some (.slice e):=by
 unfold Qz at h;split at h
 ·rename_i e he;exact⟨e,he⟩
 ·cases h
def Sv (P:Program)(t:TypeId):Bool:=match P.underlying t with|some .string=>true|_=>false
theorem Jw {t:TypeId}(h:Sv P t=true):P.underlying t=some .string:=by
 unfold Sv at h;split at h
 ·assumption
 ·cases h
theorem alR {v:Value}{sz:Nat}{es:List (List Cell)}(h:GV I ρ v (vSl sz es)):∃a cap,v = .slice a es.length cap/\es.length<=cap/\cap<=maxLen:=by cases h with|sl a len cap sz es u hlen hcap hmax=>subst hlen;exact⟨a,cap,rfl,hcap,hmax⟩
def lenV (x:AV):FR:=match x with
    |.one (.c (.sl _ es))=>.ok (yH .i64 es.length)
    |.one (.nS _)=>.ok (yH .i64 0)
    |.one (.own _ n _)=>.ok (yH .i64 n)
    |.one (.sub _ _ n _ _)=>.ok (yH .i64 n)
    |_=>.bad
theorem amw {v:Value}{x:AV}(h:GV I ρ v x)(kF:(lenV x).vc):∃b k c,v = .slice b k c/\(lenV x).v=yH .i64 k:=by
 unfold lenV at *;split at kF
 ·rename_i sz es;obtain⟨b,c,rfl,_⟩:=alR h;exact⟨b,_,c,rfl,rfl⟩
 ·simp only[GV,GC]at h;exact⟨none,0,0,h,rfl⟩
 ·obtain⟨k,cap,b,c,_,rfl,_⟩:=h;exact⟨b,_,c,rfl,rfl⟩
 ·obtain⟨k,cap,b,c,_,rfl,_⟩:=h;exact⟨b,_,c,rfl,rfl⟩
 ·exact kF.elim
def acF (P:Program)(n:Nat)(op:Op)(x:pU):Bool:=
 match op with
 |.call { callee:=.builtin .len,args:=⟨[x']⟩,argTypes:=⟨[t]⟩ }=>lJ n x' x&&Qz P t
 |_=>false
theorem aiJ {o:Oper}{x:pU}(h:GX E I ρ n st a w)(hc:acF P n o.op x=true)(hx:(x.ev st.tm).g=true)(kF:(lenV (fK st.tm x)).vc):xR P E n o a w st (lenV (fK st.tm x)).v:=by
 unfold acF at hc;split at hc
 ·rename_i x' t he;simp only[ah]at hc;have g:=oK h hc.1 hx;obtain⟨e,ht⟩:=OQ hc.2;obtain⟨b,k,c,hv,hr⟩:=amw g kF;rw[hr];exact xq.val h (by simp[execOp,he,resolve,invoke,builtin,Gh,run_underlying ht,hv,goInt]) (Cm _ _)
 ·cases hc
def YI (P:Program)(n:Nat)(op:Op)(x:pU):Bool:=
 match op with
 |.call { callee:=.builtin .len,args:=⟨[x']⟩,argTypes:=⟨[t]⟩ }=>lJ n x' x&&Sv P t
 |_=>false
theorem agd {o:Oper}{x:pU}{s:List UInt8}(h:GX E I ρ n st a w)(hc:YI P n o.op x=true)(hx:(x.ev st.tm).g=true)(hs:fK st.tm x=LK s):xR P E n o a w st (yH .i64 s.length):=by
 unfold YI at hc;split at hc
 ·rename_i x' t he;simp only[ah]at hc;have g:=oK h hc.1 hx;rw[hs]at g;have ht:=Jw hc.2;obtain⟨hv,_⟩:=JL g;exact xq.val h (v:=.int .i64 s.length) (by simp[execOp,he,resolve,invoke,builtin,Gh,run_underlying ht,hv,goInt];rfl) (Cm _ _)
 ·cases hc
def XE (mx:Bool)(n:Nat)(op:Op)(x y:pU):Bool:=
 match op with
 |.call { callee:=.builtin b,args:=⟨[x',y']⟩,argTypes:=_ }=>(match b with|.max=>mx|.min=> !mx|_=>false)&&lJ n x' x&&lJ n y' y
 |_=>false
theorem aiW {o:Oper}{x y:pU}{k:IntKind}{p q:Int}(h:GX E I ρ n st a w)(hc:XE true n o.op x y=true)(hx:(x.ev st.tm).g=true)(hy:(y.ev st.tm).g=true)
 (e1:fK st.tm x=yH k p) (e2:fK st.tm y=yH k q):xR P E n o a w st (yH k (if q>p then q else p)):=by
 unfold XE at hc;split at hc
 ·rename_i b x' y' ts he;simp only[ah]at hc;have g1:=oK h hc.1.2 hx;have g2:=oK h hc.2 hy;rw[e1]at g1;rw[e2]at g2;have v1:=zT g1;have v2:=zT g2;obtain⟨⟨hb,_⟩,_⟩:=hc;cases b<;>simp at hb;refine xq.val h (v:=.int k (if q>p then q else p)) ?_ (Cm _ _);simp[execOp,he,resolve,invoke,builtin,Builtin.max_,v1,v2,Builtin.max2]
 ·cases hc
theorem aiY {o:Oper}{x y:pU}{k:IntKind}{p q:Int}(h:GX E I ρ n st a w)(hc:XE false n o.op x y=true)(hx:(x.ev st.tm).g=true)(hy:(y.ev st.tm).g=true)
 (e1:fK st.tm x=yH k p) (e2:fK st.tm y=yH k q):xR P E n o a w st (yH k (if q<p then q else p)):=by
 unfold XE at hc;split at hc
 ·rename_i b x' y' ts he;simp only[ah]at hc;have g1:=oK h hc.1.2 hx;have g2:=oK h hc.2 hy;rw[e1]at g1;rw[e2]at g2;have v1:=zT g1;have v2:=zT g2;obtain⟨⟨hb,_⟩,_⟩:=hc;cases b<;>simp at hb;refine xq.val h (v:=.int k (if q<p then q else p)) ?_ (Cm _ _);simp[execOp,he,resolve,invoke,builtin,Builtin.min_,v1,v2,Builtin.min2]
 ·cases hc
theorem akM {v:Value}{xs:List AC}(h:GP I ρ v (true,xs)):GV I ρ v (.agg xs):=by simpa[GP,GV]using h
theorem aib {v:Value}{x:AC}(h:GP I ρ v (false,[x])):GV I ρ v (.one x):=by simp only[GP]at h;obtain⟨y,hy,hg⟩:=h;simp at hy;subst hy;exact hg
def Ku (x:AV) (i:Nat):FR:=match x with
    | .AB ps=>match ps[i]? with
      |some (true,xs)=>.ok (.agg xs)
      |some (false,[x])=>.ok (.one x)
      |_=>.bad
    |_=>.bad
def Ph (n:Nat)(op:Op)(x:pU)(i:Nat):Bool:=match op with|.extract x' j=>lJ n x' x&&j==i|_=>false
theorem YR {o:Oper}{x:pU}{i:Nat}(h:GX E I ρ n st a w)(hc:Ph n o.op x i=true)(hx:(x.ev st.tm).g=true)(kF:(Ku (fK st.tm x) i).vc):xR P E n o a w st (Ku (fK st.tm x) i).v:=by
 unfold Ph at hc;split at hc
 ·rename_i x' j he;simp only[ah,aZ]at hc;obtain⟨h1,rfl⟩:=hc;have g:=oK h h1 hx;unfold Ku at kF⊢;split at kF
  ·rename_i ps e1;rw[e1]at g;obtain⟨vs,hv,hs,hp⟩:=g;have hj:∀p,ps[j]? = some p->∃v,vs[j]? = some v/\GP I ρ v p:=λp hq=>by
    have hl:j<vs.size:=(by rw[hs];exact(aT.1 hq).1);exact⟨vs[j],lZ hl,hp j _ p (lZ hl) hq⟩
   split at kF
   ·rename_i xs hq;obtain⟨v,hv',hg⟩:=hj _ hq;exact xq.val h (by simp[execOp,he,hv,FD,hv']) (akM hg)
   ·rename_i y hq;obtain⟨v,hv',hg⟩:=hj _ hq;exact xq.val h (by simp[execOp,he,hv,FD,hv']) (aib hg)
   ·exact kF.elim
  ·exact kF.elim
 ·cases hc
def YH (P:Program)(n:Nat)(op:Op)(x i:pU):Bool:=match op with|.index t x' i'=>lJ n x' x&&lJ n i' i&&Sv P t|_=>false
theorem af9 {o:Oper}{x y:pU}{s:List UInt8}{k:IntKind}{i:Int}(h:GX E I ρ n st a w)(hc:YH P n o.op x y=true)(hx:(x.ev st.tm).g=true)(hy:(y.ev st.tm).g=true)
 (e1:fK st.tm x=LK s) (e2:fK st.tm y=yH k i) (h0:0<=i) (h1:i<s.length):xR P E n o a w st (yH .u8 (s.getD i.toNat 0).toNat):=by
 unfold YH at hc;split at hc
 ·rename_i t x' y' he;simp only[ah]at hc;have g1:=oK h hc.1.1 hx;have g2:=oK h hc.1.2 hy;rw[e1]at g1;rw[e2]at g2;obtain⟨v1,_⟩:=JL g1;have v2:=zT g2;have ht:=Jw hc.2;have hi:i.toNat<s.length:=by omega
  refine xq.val h (v:=.int .u8 (s.getD i.toNat 0).toNat) ?_ (Cm _ _);have hb:(⟨⟨s⟩⟩:ByteArray)[i.toNat]? = some (s.getD i.toNat 0):=by have:(⟨⟨s⟩⟩:ByteArray)[i.toNat]? = some ((⟨⟨s⟩⟩:ByteArray)[i.toNat]'(by simpa[ByteArray.size]using hi)):=getElem?_pos _ _ _;rw[this];simp[dJ,aB hi];rfl
  simp[execOp,he,Instr.index,v1,v2,asIntOf,run_underlying ht,h0,hb]
 ·cases hc
def YK (n:Nat)(op:Op)(f:FuncId)(cs:List pU):Bool:=match op with|.makeFunc (.func g) ⟨[]⟩ caps=>g==f&&(caps.size==cs.length)&&(caps.toList.zip cs).all λp=>lJ n p.1 p.2|_=>false
theorem aku {cs:List pU}{os:List Operand}{l:List Nat}(h:GX E I ρ n st a w)(hl:os.length=cs.length)(hc:(os.zip cs).all (λp=>lJ n p.1 p.2)=true)(hg:∀x,x∈cs->(x.ev st.tm).g=true)
 (hk:JJ (cs.map (fK st.tm))=some l):∃ks:List Nat,ks.length=l.length/\(∀(j b k:Nat),l[j]? = some b->ks[j]? = some k->∃cap,ρ b=some (k,cap))/\os.map a.eval=ks.map λk=>rZ (some ⟨k,0,none⟩):=by
 induction cs generalizing os l with
 | nil=>
   simp[JJ]at hk;subst hk;cases os with
   |nil=>exact⟨[],rfl,mg,rfl⟩
   |cons _ _=>simp at hl
 | cons c r ih=>
   cases os with
   |nil=>simp at hl
   | cons o os=>
     simp only[List.zip_cons_cons,fZ,ah]at hc;have g:=oK h hc.1 (hg c mg);simp only[bU]at hk;unfold JJ at hk;split at hk
     ·rename_i e;cases e
     ·rename_i b r' e;simp only[x8]at e;obtain⟨e1,rfl⟩:=e;cases hq:JJ (r.map (fK st.tm))with
      |none=>rw[hq]at hk;cases hk
      | some l'=>
        rw[hq]at hk;simp at hk;subst hk;obtain⟨ks,h1,h2,h3⟩:=ih (by simpa using hl) hc.2 (λx hx=>hg x (by simp[hx])) hq;rw[e1]at g;obtain⟨k,cap,hr,hv⟩:=g;refine⟨k::ks,by simp[h1],λj b' k' hb hk=>?_,by simp[hv,h3]⟩;cases j with
        |zero=>simp at hb hk;subst hb;subst hk;exact⟨cap,hr⟩
        |succ j=>exact h2 j b' k' (by simpa using hb) (by simpa using hk)
     ·cases hk
theorem agu {o:Oper}{f:FuncId}{cs:List pU}{l:List Nat}(h:GX E I ρ n st a w)(hc:YK n o.op f cs=true)(hg:∀x,x∈cs->(x.ev st.tm).g=true)
 (hk:JJ (cs.map (fK st.tm))=some l):xR P E n o a w st (.one (.fn f l)):=by
 unfold YK at hc;split at hc
 ·rename_i g caps he;simp only[ah,aZ]at hc;obtain⟨⟨rfl,hl⟩,hc⟩:=hc;obtain⟨ks,h1,h2,h3⟩:=aku h (by simpa using hl) hc hg hk;refine xq.val h (v:=.func (.func g) #[] (caps.map a.eval)) (by simp[execOp,he,Instr.makeFunc]) ⟨ks,h1,h2,?_⟩
  congr 1
  apply zC;simpa using h3
 ·cases hc
def Nh (off:Nat) (x:AV):FR:=match x with
    |.one (.ptr b o)=>.ok (.one (.ptr b (o+off)))
    |.one (.BH b i sz o)=>.ok (.one (.BH b i sz (o+off)))
    |.one (.Iq cs)=>.ok (.one (.Iq (cs.drop off)))
    |_=>.bad
theorem ah2 {v:Value}{x:AV}{off:Nat}(h:GV I ρ v x)(kF:(Nh off x).vc):∃p:Addr,v = .pointer (some p)/\GV I ρ (.pointer (some (p.add off))) (Nh off x).v:=by
 unfold Nh at *;split at kF
 ·rename_i b o;obtain⟨k,cap,hr,rfl⟩:=h;exact⟨_,rfl,k,cap,hr,by rw[Addr.uw]⟩
 ·rename_i b i sz o;obtain⟨k,cap,hr,rfl⟩:=h;exact⟨_,rfl,k,cap,hr,by rw[Addr.uw,uf]⟩
 ·rename_i cs;obtain⟨p,rfl,hc⟩:=h;exact⟨p,rfl,_,rfl,λj c hj=>by rw[gW]at hj;rw[Addr.add_add];exact hc _ c hj⟩
 ·exact kF.elim
def YS (P:Program)(s:TypeId)(f off:Nat)(agg:Bool)(k:Nat):Bool:=
 match P.underlying s with
 | some (.struct fs)=>match fs[f]? with
   |some TL=>TL.offset==off&&MG P TL.type agg k&&k != 0
   |none=>false
 |_=>false
theorem YT {s:TypeId}{f off:Nat}{agg:Bool}{k:Nat}(h:YS P s f off agg k=true):∃fs TL,P.underlying s=some (.struct fs)/\fs[f]? = some TL/\TL.offset=off/\MG P TL.type agg k=true/\k≠0:=by
 unfold YS at h;split at h
 ·rename_i fs hs;split at h
  ·rename_i TL hf;simp only[ah,aZ,bne_iff_ne]at h;exact⟨fs,TL,hs,hf,h.1.1,h.1.2,h.2⟩
  ·cases h
 ·cases h
def FY (P:Program)(s:TypeId)(f off:Nat):Bool:=
 match P.underlying s with
 | some (.struct fs)=>match fs[f]? with
   |some TL=>TL.offset==off&&(match P.info? TL.type with|some i=>i.size != 0|none=>false)
   |none=>false
 |_=>false
def Ve (P:Program)(n:Nat)(op:Op)(off:Nat)(x:pU):Bool:=match op with|.fieldAddr s x' f=>lJ n x' x&&FY P s f off|_=>false
theorem acX {o:Oper}{x:pU}{off:Nat}(h:GX E I ρ n st a w)(hc:Ve P n o.op off x=true)(hx:(x.ev st.tm).g=true)(kF:(Nh off (fK st.tm x)).vc):xR P E n o a w st (Nh off (fK st.tm x)).v:=by
 unfold Ve at hc;split at hc
 ·rename_i s x' f he;simp only[ah]at hc;have g:=oK h hc.1 hx;obtain⟨p,hp,hg⟩:=ah2 g kF;obtain⟨_,hf⟩:=hc;unfold FY at hf;split at hf
  ·rename_i fs hs;split at hf
   ·rename_i TL hfld;simp only[ah,aZ]at hf;obtain⟨rfl,hf⟩:=hf;split at hf
    ·rename_i i hi;simp at hf;refine xq.val h ?_ hg;simp[execOp,he,BM,run_underlying hs,hfld,hp,kY,fieldPlace,sizeOf,typeInfo,hi,hf]
    ·cases hf
   ·cases hf
  ·cases hf
 ·cases hc
def SL (x:AV):FR:=match x with
    |.one (.ptr b o)=>.ok (.one (.ptr b o))
    |.one (.BH b i sz o)=>.ok (.one (.BH b i sz o))
    |.one (.Iq cs)=>.ok (.one (.Iq cs))
    |.one (.fn f cs)=>.ok (.one (.fn f cs))
    |_=>.bad
def Vk (n:Nat)(op:Op)(x:pU):Bool:=match op with|.nilCheck x'=>lJ n x' x|_=>false
theorem adw {o:Oper}{x:pU}(h:GX E I ρ n st a w)(hc:Vk n o.op x=true)(hx:(x.ev st.tm).g=true)(kF:(SL (fK st.tm x)).vc):xR P E n o a w st (SL (fK st.tm x)).v:=by
 unfold Vk at hc;split at hc
 ·rename_i x' he;have g:=oK h hc hx;have key:(∃p,a.eval x' = .pointer (some p))\/(∃f b,a.eval x' = .func (.func f) #[] b)->(execOp a.eval o).run P w = .ok (.value (a.eval x')) w:=by rintro(⟨p,hp⟩|⟨f,b,hp⟩)<;>simp[execOp,he,hp]
  unfold SL at kF⊢;split at kF
  ·rename_i b o' e1;rw[e1]at g;exact xq.val h (key (by obtain⟨k,cap,hr,hv⟩:=g;exact .inl ⟨_,hv⟩)) g
  ·rename_i b i sz o' e1;rw[e1]at g;exact xq.val h (key (by obtain⟨k,cap,hr,hv⟩:=g;exact .inl ⟨_,hv⟩)) g
  ·rename_i cs e1;rw[e1]at g;exact xq.val h (key (by obtain⟨p,hv,_⟩:=g;exact .inl ⟨_,hv⟩)) g
  ·rename_i f cs e1;rw[e1]at g;exact xq.val h (key (by obtain⟨ks,_,_,hv⟩:=g;exact .inr ⟨_,_,hv⟩)) g
  ·exact kF.elim
 ·cases hc
end
end
section
section
variable {P:Program} {E:Env P} {I:IH} {ρ:Ren} {n:Nat} {st:gY} {a:Act} {w:World}
def RN (agg:Bool) (off k:Nat) (x:AV):FR:=match x with
    | .agg xs=>if agg then⟨off+k<=xs.length,.agg ((xs.drop off).take k),[]⟩else match xs[off]? with
      |some x=>.ok (.one x)
      |none=>.bad
    |_=>.bad
def Vf (P:Program)(n:Nat)(op:Op)(agg:Bool)(off k:Nat)(x:pU):Bool:=match op with|.field s x' f=>lJ n x' x&&YS P s f off agg k|_=>false
theorem ah8 {vs:List Value}{xs:List AC}(h:NZ I ρ vs xs)(off k:Nat):NZ I ρ ((vs.drop off).take k) ((xs.drop off).take k):=by
 refine⟨by simp[h.1],λj v x hv hx=>?_⟩;rw[dK]at hv hx;split at hv
 ·rename_i hj;rw[aA hj]at hx;rw[gW]at hv hx;exact h.2 _ v x hv hx
 ·cases hv
theorem acY {o:Oper}{x:pU}{agg:Bool}{off k:Nat}(h:GX E I ρ n st a w)(hc:Vf P n o.op agg off k x=true)(hx:(x.ev st.tm).g=true)(kF:(RN agg off k (fK st.tm x)).vc) :
 xR P E n o a w st (RN agg off k (fK st.tm x)).v:=by
 unfold Vf at hc;split at hc
 ·rename_i s x' f he;simp only[ah]at hc;have g:=oK h hc.1 hx;obtain⟨fs,TL,hs,hf,rfl,ht,hk⟩:=YT hc.2;obtain⟨t1,t2⟩:=IK ht w;unfold RN at kF⊢;split at kF
  ·rename_i xs e1;rw[e1]at g;obtain⟨cs,hv,hg⟩:=g;split at kF
   ·rename_i hA;rw[aA hA];rw[hA]at t1;refine xq.val h (v:=.agg (cs.extract TL.offset (TL.offset+k))) (by simp[execOp,he,Gv,run_underlying hs,hf,hv,asAgg,part,t1,t2]) ⟨_,rfl,?_⟩;have:=ah8 hg TL.offset k;simpa[List.extract_eq_take_drop]using this
   ·rename_i hA;rw[au hA];have hA':agg=false:=(by simpa using hA);rw[hA']at t1;split at kF
    ·rename_i y hy;have hl:TL.offset<cs.size:=by
      have h1:=hg.1;have h2:=(aT.1 hy).1;simp at h1;omega
     refine xq.val h (v:=cs[TL.offset]) (by simp[execOp,he,Gv,run_underlying hs,hf,hv,asAgg,part,t1,lZ hl]) (hg.2 TL.offset _ y (by simp[hl]) hy)
    ·exact kF.elim
  ·exact kF.elim
 ·cases hc
def Si (sz:Nat) (x i:AV):FR:=match x,i with
    |.one (.c (.sl sz' es)),.one (.c (.lit (.int _ i)))=>⟨sz'=sz/\0<=i/\i<es.length,.one (.Iq (es.getD i.toNat [])),[]⟩
    |.one (.own b n sz'),.one (.c (.lit (.int _ i)))=>⟨sz'=sz/\0<=i/\i<n,.one (.BH b i.toNat sz 0),[]⟩
    |.one (.sub b lo n _ sz'),.one (.c (.lit (.int _ i)))=>⟨sz'=sz/\0<=i/\i<n,.one (.BH b (lo+i.toNat) sz 0),[]⟩
    |_,_=>.bad
def Nc (P:Program)(t:TypeId)(sz:Nat):Bool:=match P.underlying t with|some (.slice e)=>Tj P e sz|_=>false
theorem DY {t:TypeId}{sz:Nat}(h:Nc P t sz=true):∃e i,P.underlying t=some (.slice e)/\P.info? e=some i/\i.size=sz:=by
 unfold Nc at h;split at h
 ·rename_i e he;obtain⟨i,h1,h2⟩:=NL h;exact⟨e,i,he,h1,h2⟩
 ·cases h
def Vg (P:Program)(n:Nat)(op:Op)(sz:Nat)(x i:pU):Bool:=match op with|.indexAddr t x' i'=>lJ n x' x&&lJ n i' i&&Nc P t sz|_=>false
theorem ada {o:Oper}{x y:pU}{sz:Nat}(h:GX E I ρ n st a w)(hc:Vg P n o.op sz x y=true)(hx:(x.ev st.tm).g=true)(hy:(y.ev st.tm).g=true)
 (kF:(Si sz (fK st.tm x) (fK st.tm y)).vc):xR P E n o a w st (Si sz (fK st.tm x) (fK st.tm y)).v:=by
 unfold Vg at hc;split at hc
 ·rename_i t x' y' he;simp only[ah]at hc;have g1:=oK h hc.1.1 hx;have g2:=oK h hc.1.2 hy;obtain⟨e,ti,ht,hi,hsz⟩:=DY hc.2;unfold Si at kF⊢;split at kF
  ·rename_i sz' es k i e1 e2;obtain⟨rfl,h0,h1⟩:=kF;rw[e1]at g1;rw[e2]at g2;have v2:=zT g2;generalize hq:a.eval x'=v1 at g1;cases g1 with|sl b len cap _ _ u hlen hcap hmax apT ha hcell hr=>
   subst hlen;have hpos:0<es.length:=(by omega);cases hb:b with
   |none=>exact eF hb (ha hpos)
   | some ad=>
     subst hb;refine xq.val h (v:=.pointer (some (ad.add (i.toNat*sz')))) (by simp[execOp,he,xC,v2,hq,asIntOf,run_underlying ht,h0,h1,sizeOf,typeInfo,hi,hsz]) ⟨_,rfl,λj c hj=>?_⟩;have hil:i.toNat<es.length:=(by omega);have hjl:j<sz':=by have:=apT (es.getD i.toNat []) (by simp[dJ,aB hil]);rw[<- this];exact(aT.1 hj).1
     exact⟨_,by rw[Addr.add_add];exact hcell ad rfl _ j hil hjl,hr _ j c hj⟩
  ·rename_i b m sz' k i e1 e2;obtain⟨rfl,h0,h1⟩:=kF;rw[e1]at g1;rw[e2]at g2;have v2:=zT g2;obtain⟨kk,cap,ad,c,hr,hv,hm,hcc,hcap⟩:=g1;have hc0:cap≠0:=(by omega);have had:=hcap hc0;subst had;refine xq.val h (v:=.pointer (some ((⟨kk,0,none⟩:Addr).add (i.toNat*sz')))) (by simp[execOp,he,xC,v2,hv,asIntOf,run_underlying ht,h0,h1,sizeOf,typeInfo,hi,hsz]) ⟨kk,cap,hr,?_⟩;rw[Addr.uw];simp
  ·rename_i b lo m c0 sz' k i e1 e2;obtain⟨rfl,h0,h1⟩:=kF;rw[e1]at g1;rw[e2]at g2;have v2:=zT g2;obtain⟨kk,cap,ad,c,hr,hv,hm,hcc,_,hcap⟩:=g1;have had:=hcap (.inl aI);subst had;refine xq.val h (v:=.pointer (some ((⟨kk,lo*sz',none⟩:Addr).add (i.toNat*sz')))) (by simp[execOp,he,xC,v2,hv,asIntOf,run_underlying ht,h0,h1,sizeOf,typeInfo,hi,hsz]) ⟨kk,cap,hr,?_⟩;rw[Addr.uw,dL,sG]
  ·exact kF.elim
 ·cases hc
def Ql (P:Program)(t:TypeId)(sz n:Nat):Bool:=match P.underlying t with|some (.array m e)=>m==n&&Tj P e sz|_=>false
theorem Qm {t:TypeId}{sz m:Nat}(h:Ql P t sz m=true):∃e i,P.underlying t=some (.array m e)/\P.info? e=some i/\i.size=sz:=by
 unfold Ql at h;split at h
 ·rename_i m' e he;simp only[ah,aZ]at h;obtain⟨rfl,h⟩:=h;obtain⟨i,h1,h2⟩:=NL h;exact⟨e,i,he,h1,h2⟩
 ·cases h
def RH (P:Program)(n:Nat)(op:Op)(sz m:Nat)(x i:pU):Bool:=match op with|.indexAddr t x' i'=>lJ n x' x&&lJ n i' i&&Ql P t sz m|_=>false
theorem aaR {o:Oper}{x y:pU}{sz m b:Nat}{k:IntKind}{i:Int}(h:GX E I ρ n st a w)(hc:RH P n o.op sz m x y=true)(hx:(x.ev st.tm).g=true)(hy:(y.ev st.tm).g=true)
 (e1:fK st.tm x = .one (.BH b 0 sz 0)) (e2:fK st.tm y=yH k i) (h0:0<=i) (h1:i<m):xR P E n o a w st (.one (.BH b i.toNat sz 0)):=by
 unfold RH at hc;split at hc
 ·rename_i t x' y' he;simp only[ah]at hc;have g1:=oK h hc.1.1 hx;have g2:=oK h hc.1.2 hy;obtain⟨e,ti,ht,hi,hsz⟩:=Qm hc.2;rw[e1]at g1;rw[e2]at g2;have v2:=zT g2;obtain⟨kk,cap,hr,hv⟩:=g1;refine xq.val h (v:=.pointer (some ((⟨kk,0*sz+0,none⟩:Addr).add (i.toNat*sz)))) (by simp[execOp,he,xC,v2,hv,asIntOf,run_underlying ht,kY,h0,h1,sizeOf,typeInfo,hi,hsz]) ⟨kk,cap,hr,?_⟩;rw[Addr.uw];simp
 ·cases hc
theorem J8 {lo:Option pU}{lo':Option Operand}{d:Nat}{q:Int}(h:GX E I ρ n st a w)(hc:(match lo',lo with|none,none=>true|some x',some x=>lJ n x' x|_,_=>false)=true)
 (hg:∀x,x∈lo.toList->(x.ev st.tm).g=true) (hb:bnd (fK st.tm) lo d=some q):(lo'=none/\lo=none/\q=d)\/∃x' k,lo'=some x'/\a.eval x' = .int k q:=by
 unfold bnd at hb;split at hc
 ·simp at hb;exact .inl ⟨rfl,rfl,hb.symm⟩
 ·rename_i x' x;have g:=oK h hc (hg x mg);simp only at hb;split at hb
  ·rename_i k m e1;simp at hb;subst hb;rw[e1]at g;exact .inr ⟨x',k,rfl,zT g⟩
  ·cases hb
 ·cases hc
def RG (n:Nat)(lo':Option Operand)(lo:Option pU):Bool:=match lo',lo with|none,none=>true|some x',some x=>lJ n x' x|_,_=>false
theorem N9 {lo:Option pU}{lo':Option Operand}{d:Nat}{q:Int}(h:(lo'=none/\lo=none/\q=d)\/∃x' k,lo'=some x'/\a.eval x' = .int k q) :
 lo'.map a.eval=none/\q=d\/∃k,lo'.map a.eval=some (.int k q):=by
 rcases h with⟨rfl,_,e⟩|⟨y,k,rfl,e⟩
 ·exact .inl ⟨rfl,e⟩
 ·exact .inr ⟨k,by simp[e]⟩
theorem run_sliceBound {k:IntKind}{i:Int}{y:Nat}{c:BoundsCode}(h0:0<=i)(h1:i<=y):(Instr.sliceBound (.int k i) y c).run P w = .ok i.toNat w:=by simp[Instr.sliceBound,asIntOf,h0,h1]
theorem EO (isS:Bool)(len cap:Nat)(lo' hi':Option Value){p q:Int}(hlo:lo'=none/\p=0\/∃k,lo'=some (.int k p))(hhi:hi'=none/\q=len\/∃k,hi'=some (.int k q))
 (h0:0<=p) (h1:p<=q) (h2:q<=cap):(Ae isS len cap lo' hi' none).run P w = .ok (p.toNat,q.toNat,cap) w:=by
 rcases hlo with⟨rfl,rfl⟩|⟨k,rfl⟩<;>rcases hhi with⟨rfl,rfl⟩|⟨k',rfl⟩<;>cases isS <;>
  simp (disch:=omega) [Ae,run_sliceBound]
def Vm (P:Program)(n:Nat)(op:Op)(x:pU)(lo hi:Option pU):Bool:=match op with|.slice t x' lo' hi' none=>lJ n x' x&&RG n lo' lo&&RG n hi' hi&&Sv P t|_=>false
theorem adQ {o:Oper}{x:pU}{lo hi:Option pU}{s:List UInt8}{p q:Int}(h:GX E I ρ n st a w)(hc:Vm P n o.op x lo hi=true)(hx:(x.ev st.tm).g=true)
 (hgl:∀x,x∈lo.toList->(x.ev st.tm).g=true) (hgh:∀x,x∈hi.toList->(x.ev st.tm).g=true)
 (e1:fK st.tm x=LK s) (e2:bnd (fK st.tm) lo 0=some p) (e3:bnd (fK st.tm) hi s.length=some q) (h0:0<=p) (h1:p<=q) (h2:q<=s.length) :
 xR P E n o a w st (LK ((s.take q.toNat).drop p.toNat)):=by
 unfold Vm at hc;split at hc
 ·rename_i t x' lo' hi' he;simp only[ah]at hc;have g1:=oK h hc.1.1.1 hx;have ht:=Jw hc.2;rw[e1]at g1;obtain⟨v1,hl⟩:=JL g1;have b1:=J8 h hc.1.1.2 hgl e2;have b2:=J8 h hc.1.2 hgh e3;have hb:=EO (P:=P) (w:=w) false s.length s.length (lo'.map a.eval) (hi'.map a.eval) (p:=p) (q:=q)
   (N9 b1) (N9 b2) h0 h1 h2
  have hx:(⟨⟨s⟩⟩:ByteArray).extract p.toNat q.toNat=⟨⟨(s.take q.toNat).drop p.toNat⟩⟩:=by rw[Lib.extract_eq];simp[List.drop_take]
  refine xq.val h (v:=.string ⟨⟨(s.take q.toNat).drop p.toNat⟩⟩) ?_ (Za (by simp;omega));simp only[execOp,he,zD,DF,v1,lQ];simp[run_underlying ht];rw[show(⟨⟨s⟩⟩:ByteArray).size=s.length from rfl,hb];simp[hx]
 ·cases hc
def Yd (sz:Nat) (x:AV) (lo:Option Int) (hi:Nat->Option Int):FR:=match x with
    | .one (.c (.sl sz' es))=>match lo,hi es.length with
      |some a,some b=>⟨sz'=sz/\0<=a/\a<=b/\b<=es.length,vSl sz ((es.take b.toNat).drop a.toNat),[]⟩
      |_,_=>.bad
    | .one (.nS sz')=>match lo,hi 0 with
      |some a,some b=>⟨a=0/\b=0,.one (.nS sz'),[]⟩
      |_,_=>.bad
    | .one (.own l n sz')=>match lo,hi n with
      |some a,some b=>⟨a=0/\0<=b/\b<=n,.one (.own l b.toNat sz'),[]⟩
      |_,_=>.bad
    |_=>.bad
theorem anc {v:Value}{sz:Nat}{es:List (List Cell)}(h:Rd I v (.sl sz es)){p q:Nat}(hpq:p<=q)(hq:q<=es.length):∃a cap,v = .slice a es.length cap/\es.length<=cap /\
 Rd I (.slice (if cap=p then a else a.map (·.add (p*sz))) (q-p) (cap-p)) (.sl sz ((es.take q).drop p)):=by
 cases h with|sl a len cap sz es u hlen hcap hmax hsz ha hcell hr=>
 subst hlen;refine⟨a,cap,rfl,hcap,?_⟩;refine Rd.sl _ _ _ _ _ (λi j=>u (p+i) j) (by simp;omega) aI aI ?_ ?_ ?_ ?_
 ·intro e he;exact hsz e (gI (lu he))
 ·intro h0;rw[au aI];have:=ha aI;cases a with
  |none=>exact eF rfl this
  |some ad=>simp
 ·intro ad had i j hi hj;rw[au aI]at had;cases a with
  |none=>simp at had
  | some ad'=>
    simp at had;subst had;rw[Addr.add_add,<- hcell ad' rfl (p+i) j aI hj]
    congr 2
    rw[dL,uf]
 ·intro i j c hc;have hi:=mY hc;simp at hi;refine hr (p+i) j c ?_;rw[<- hc]
  congr 1
  simp only[dJ];rw[gW,dK,aA aI]
def YN (P:Program)(n:Nat)(op:Op)(sz:Nat)(x:pU)(lo hi:Option pU):Bool:=match op with|.slice t x' lo' hi' none=>lJ n x' x&&RG n lo' lo&&RG n hi' hi&&Nc P t sz|_=>false
theorem agP {o:Oper}{sz:Nat}{x:pU}{lo hi:Option pU}(h:GX E I ρ n st a w)(hc:YN P n o.op sz x lo hi=true)(hx:(x.ev st.tm).g=true)
 (hgl:∀x,x∈lo.toList->(x.ev st.tm).g=true) (hgh:∀x,x∈hi.toList->(x.ev st.tm).g=true)
 (kF:(Yd sz (fK st.tm x) (bnd (fK st.tm) lo 0) (bnd (fK st.tm) hi)).vc):xR P E n o a w st (Yd sz (fK st.tm x) (bnd (fK st.tm) lo 0) (bnd (fK st.tm) hi)).v:=by
 unfold YN at hc;split at hc
 ·rename_i t x' lo' hi' he;simp only[ah]at hc;have g1:=oK h hc.1.1.1 hx;obtain⟨e,ti,ht,hti,hsz⟩:=DY hc.2;have key:∀(b:Option Addr) (len cap:Nat) (p q:Int),a.eval x' = .slice b len cap->len<=cap->bnd (fK st.tm) lo 0=some p->bnd (fK st.tm) hi len=some q->0<=p->p<=q->q<=cap ->
   (execOp a.eval o).run P w = .ok (.value (.slice (if cap=p.toNat then b else b.map (·.add (p.toNat*sz))) (q.toNat-p.toNat) (cap-p.toNat))) w:=by
   intro b len cap p q hv hlc e2 e3 h0 h1 h2;have b1:=J8 h hc.1.1.2 hgl e2;have b2:=J8 h hc.1.2 hgh e3;have hb:=EO (P:=P) (w:=w) true len cap (lo'.map a.eval) (hi'.map a.eval) (p:=p) (q:=q)
    (N9 b1) (N9 b2) h0 h1 h2
   simp only[execOp,he,zD,DF,hv,lQ];simp[run_underlying ht];rw[hb];simp[sizeOf,typeInfo,hti,hsz]
  unfold Yd at kF⊢;split at kF
  ·rename_i sz' es e1;rw[e1]at g1;split at kF
   ·rename_i p q e2 e3;obtain⟨rfl,h0,h1,h2⟩:=kF;obtain⟨b,cap,hv,hcap,hr⟩:=anc g1 (p:=p.toNat) (q:=q.toNat) aI aI;exact xq.val h (key b _ cap p q hv hcap e2 e3 h0 h1 aI) hr
   ·exact kF.elim
  ·rename_i sz' e1;rw[e1]at g1;split at kF
   ·rename_i p q e2 e3;obtain⟨rfl,rfl⟩:=kF;have:=key none 0 0 0 0 g1 (aC _) e2 e3 aI aI aI;exact xq.val h this (by simp[GV,GC])
   ·exact kF.elim
  ·rename_i b m sz' e1;rw[e1]at g1;split at kF
   ·rename_i p q e2 e3;obtain⟨rfl,h1,h2⟩:=kF;obtain⟨kk,cap,ad,c,hr,hv,hm,hcc,hcap⟩:=g1;have:=key ad m c 0 q hv hm e2 e3 aI aI aI;refine xq.val h this ⟨kk,cap,_,_,hr,rfl,aI,aI,λhc0=>?_⟩;rw[hcap hc0];simp[Addr.add_zero]
   ·exact kF.elim
  ·exact kF.elim
 ·cases hc
def Vl (P:Program)(n:Nat)(op:Op)(sz m:Nat)(x:pU):Bool:=match op with|.slice t x' none none none=>lJ n x' x&&Ql P t sz m|_=>false
theorem adO {o:Oper}{sz m b:Nat}{es:List (List Cell)}{x:pU}(h:GX E I ρ n st a w)(hc:Vl P n o.op sz m x=true)(hx:(x.ev st.tm).g=true)
 (e1:fK st.tm x = .one (.BH b 0 sz 0)) (e2:st.bx b = .dat sz es) (hm:es.length=m):xR P E n o a w st (.one (.own b m sz)):=by
 unfold Vl at hc;split at hc
 ·rename_i t x' he;simp only[ah]at hc;have g1:=oK h hc.1 hx;rw[e1]at g1;obtain⟨kk,cap,hr,hv⟩:=g1;obtain⟨e,ti,ht,hi',hsz⟩:=Qm hc.2;have facts:=GS.J7 h (b:=b) (by rw[e2];rfl) hr;refine xq.val h (v:=.slice (some ⟨kk,0,none⟩) m m) ?_ ⟨kk,cap,_,_,hr,rfl,aC _,aI,λ_=>rfl⟩;have hb:=EO (P:=P) (w:=w) false m m none none (p:=0) (q:=m) (.inl ⟨rfl,rfl⟩) (.inl ⟨rfl,rfl⟩) aI aI aI;simp only[execOp,he,zD,hv,lQ];simp[run_underlying ht,kY];rw[hb];simp[sizeOf,typeInfo,hi',Addr.add_zero]
 ·cases hc
end
end
section
section
variable {P:Program} {E:Env P} {I:IH} {ρ:Ren} {n:Nat} {st:gY} {a:Act} {w:World}
theorem ru {α:Type}(xs ys:List α)(off j:Nat)(h:off+ys.length<=xs.length):(splice xs off ys)[j]? = if j<off then xs[j]? else if j<off+ys.length then ys[j-off]? else xs[j]?:=by
 unfold splice;have h1:(xs.take off).length=off:=by simp;omega
 by_cases hj:j<off
 ·rw[aA hj,jh,cu aI,dK,aA hj]
 ·rw[au hj];by_cases hj2:j<off+ys.length
  ·rw[aA hj2,cu (by simp;omega),dU aI,h1]
  ·rw[au hj2,dU (by simp;omega),gW]
   congr 1
   simp;omega
theorem length_splice {α:Type}(xs ys:List α)(off:Nat)(h:off+ys.length<=xs.length):(splice xs off ys).length=xs.length:=by unfold splice;simp;omega
theorem VC {α:Type}(vs:List α):∀(i off:Nat) (cs:Array α),off+i+vs.length<=cs.size ->
 ((vs.zipIdx i).foldl (λcs p=>cs.setIfInBounds (off+p.2) p.1) cs).toList=splice cs.toList (off+i) vs:=by
 induction vs with
 |nil=>intro i off cs h;simp[splice]
 | cons v r ih=>
   intro i off cs h;simp only[List.zipIdx_cons,wH];rw[ih (i+1) off _ (by simp at h⊢;omega)];apply List.ext_getElem?;intro j;simp only[iU]at h;rw[ru _ _ _ _ (by simp;omega),ru _ _ _ _ (by simp;omega)];simp only[Array.toList_setIfInBounds,rq,iU];by_cases h1:j<off+i
   ·rw[aA aI,au aI,aA h1]
   ·rw[au h1];by_cases h2:j=off+i
    ·subst h2;rw[aA aI,aA rfl,aA (by simp;omega),aA aI];simp
    ·rw[au aI];by_cases h3:j<off+(i+1)+r.length
     ·rw[aA h3,aA aI];rw[show j-(off+i)=(j-(off+(i+1)))+1 by omega,List.getElem?_cons_succ]
     ·rw[au h3,au aI,au aI]
theorem foldl_set (v:Array Value)(off:Nat)(cs:Array Value)(h:off+v.size<=cs.size) :
 (v.zipIdx.foldl (λcs (p:Value×Nat)=>cs.setIfInBounds (off+p.2) p.1) cs).toList=splice cs.toList off v.toList:=by
 have:=VC v.toList 0 off cs (by simpa using h);rw[sG]at this;rw[<- this,<- Array.foldl_toList,Array.toList_zipIdx]
theorem NZ.splice {vs us:List Value}{xs ys:List AC}(h:NZ I ρ vs xs)(k:NZ I ρ us ys)(off:Nat)(hl:off+ys.length<=xs.length):NZ I ρ (splice vs off us) (splice xs off ys):=by
 have hlu:off+us.length<=vs.length:=by rw[h.1,k.1];exact hl
 refine⟨by rw[length_splice _ _ _ hlu,length_splice _ _ _ hl];exact h.1,λj v x hv hx=>?_⟩;rw[ru _ _ _ _ hlu]at hv;rw[ru _ _ _ _ hl]at hx;rw[k.1]at hv;by_cases h1:j<off
 ·rw[aA h1]at hv hx;exact h.2 j v x hv hx
 ·rw[au h1]at hv hx;by_cases h2:j<off+ys.length
  ·rw[aA h2]at hv hx;exact k.2 _ v x hv hx
  ·rw[au h2]at hv hx;exact h.2 j v x hv hx
theorem Nl {v:Value}{x:AV}(h:GV I ρ v x)(ht:x.flat):NZ I ρ v.cells.toList x.cells:=by
 cases x with
 | one x=>
   have h1:=GC.one h;have hc:v.cells = #[v]:=by cases v<;>first|rfl|(simp[Value.oneCell']at h1;done)
   rw[hc];exact⟨rfl,λj u y hu hy=>by cases j with
    |zero=>simp at hu;simp[AV.cells]at hy;subst hu;subst hy;exact h
    |succ j=>simp at hu⟩
 |agg xs=>obtain⟨cs,rfl,hg⟩:=h;exact hg
 |AB ps=>exact ht.elim
def Rk (zs:List Value)(xs:List AC):Bool:=zs.length==xs.length&&(zs.zip xs).all λp=>akv p.1 p.2
theorem LQ {zs:List Value}{xs:List AC}(h:Rk zs xs=true):NZ I ρ zs xs:=by unfold Rk at h;simp only[ah,aZ,bf]at h;refine⟨h.1,λj v x hv hx=>ael (h.2 (v,x) ?_)⟩;exact iF (i:=j) (by simp[BA,hv,hx])
def Oj (P:Program)(n:Nat)(fs:Array Field):List (Nat×Operand)->List (Nat×Nat×pU)->Bool
 |[],[]=>true
 |(i,x)::r,(off,sz,y)::r'=>(match fs[i]? with
  |some f=>f.offset==off&&Tj P f.type sz
  |none=>false)&&lJ n x y&&Oj P n fs r r'
 |_,_=>false
theorem run_places (w:World)(fs:List Field)(h:fs.all (λf=>(P.info? f.type).isSome)=true) :
 (fs.mapM (m:=Sem) λf=>do pure (f.offset,<- sizeOf f.type)).run P w = .ok (fs.map λf=>(f.offset,P.cellsOf f.type)) w:=by
 induction fs with
 |nil=>rfl
 | cons f r ih=>
   simp only[fZ,ah]at h;cases hi:P.info? f.type with
   |none=>rw[hi]at h;cases h.1
   | some i=>have h1:(sizeOf f.type).run P w = .ok (P.cellsOf f.type) w:=(by simp[sizeOf,typeInfo,hi,Program.cellsOf]);simp only[List.mapM_cons,dN,h1,bT,dA,ih h.2,bU]
def aeh (P:Program)(n:Nat)(t:TypeId)(zs:List AC)(ps:List (Nat×Operand))(ps':List (Nat×Nat×pU)):Bool:=
 match P.underlying t,P.info? t with
 |some (.struct fs),some i=>(match i.zero with|some (.agg cs)=>Rk cs.toList zs|_=>false)&&fs.toList.all (λf=>(P.info? f.type).isSome)&&Oj P n fs ps ps'
 |_,_=>false
def Vd (P:Program)(n:Nat)(op:Op)(zs:List AC)(ps':List (Nat×Nat×pU)):Bool:=match op with|.build t ps=>aeh P n t zs ps.toList ps'|_=>false
theorem acA {t:TypeId}{k:Nat}(h:Tj P t k=true):P.cellsOf t=k:=by obtain⟨i,hi,hs⟩:=NL h;simp[Program.cellsOf,hi,hs]
theorem aes {fs:Array Field}(h:GX E I ρ n st a w):∀(ps:List (Nat×Operand)) (ps':List (Nat×Nat×pU)) (cs:Array Value) (xs:List AC),Oj P n fs ps ps'=true->NZ I ρ cs.toList xs ->
 (∀p,p∈ps'->(p.2.2.ev st.tm).g=true)->(∀p,p∈ps'->Zl xs.length (p.1,p.2.1,fK st.tm p.2.2)) ->
 ∃cs',uT ((fs.map λf=>(f.offset,P.cellsOf f.type))[·]?) cs (ps.map λp=>(p.1,a.eval p.2))=some cs'/\NZ I ρ cs'.toList (Vz xs (ps'.map λp=>(p.1,(fK st.tm p.2.2).cells)))
 |[],[],cs,xs,_,hg,_,_=>⟨cs,rfl,hg⟩
 |[],_::_,_,_,h,_,_,_=>by simp[Oj]at h
 |_::_,[],_,_,h,_,_,_=>by simp[Oj]at h
 | (i,x)::r,(off,sz,y)::r',cs,xs,hp,hg,hv,hq=>by
   simp only[Oj,ah]at hp;obtain⟨⟨hf,hx⟩,hr⟩:=hp;split at hf
   ·rename_i f hfi;simp only[ah,aZ]at hf;obtain⟨rfl,hsz⟩:=hf;have hs:=acA hsz;have g:=oK h hx (hv _ (bD ..));obtain⟨q1,q2,q3⟩:=hq _ (bD ..);have gc:=Nl g q3;have hvs:(a.eval x).cells.size=sz:=(by have:=gc.1;simp at this;rw[this];exact q1);have hcs:cs.size=xs.length:=(by have:=hg.1;simpa using this);have q1:(fK st.tm y).cells.length=sz:=q1;have q2:f.offset+sz<=xs.length:=q2;have hgs:=hg.splice gc f.offset (by rw[q1];exact q2);have hfold:=foldl_set (a.eval x).cells f.offset cs aI;have ih:=aes h r r' ((a.eval x).cells.zipIdx.foldl (λcs (p:Value×Nat)=>cs.setIfInBounds (f.offset+p.2) p.1) cs) (splice xs f.offset (fK st.tm y).cells) hr (by rw[hfold];exact hgs)
     (λp hp=>hv p (by simp[hp])) (λp hp=>by rw[length_splice _ _ _ (by rw[q1];exact q2)];exact hq p (by simp[hp]))
    obtain⟨cs',h1,h2⟩:=ih;refine⟨cs',?_,?_⟩
    ·have hpl:(fs.map λf=>(f.offset,P.cellsOf f.type))[i]? = some (f.offset,sz):=(by rw[qp,hfi,<- hs];rfl);simp only[bU,uT,hpl];rw[au (by simp;omega)];exact h1
    ·simpa only[bU,Vz]using h2
   ·cases hf
theorem acw {o:Oper}{zs:List AC}{ps:List (Nat×Nat×pU)}(h:GX E I ρ n st a w)(hc:Vd P n o.op zs ps=true)(hv:∀p,p∈ps->(p.2.2.ev st.tm).g=true)
 (hq:∀p,p∈ps->Zl zs.length (p.1,p.2.1,fK st.tm p.2.2)):xR P E n o a w st (.agg (Vz zs (ps.map λp=>(p.1,(fK st.tm p.2.2).cells)))):=by
 unfold Vd at hc;split at hc
 ·rename_i t ps0 he;unfold aeh at hc;split at hc
  ·rename_i fs i hs hi;simp only[ah]at hc;obtain⟨⟨hz,hall⟩,hp⟩:=hc;split at hz
   ·rename_i cs hzero;obtain⟨cs',h1,h2⟩:=aes (P:=P) h ps0.toList ps cs zs hp (LQ hz) hv hq;refine xq.val h (v:=.agg cs') ?_ ⟨cs',rfl,h2⟩;have hpl:=run_places (P:=P) w fs.toList hall;have hpl':(fs.mapM (m:=Sem) λf=>do pure (f.offset,<- sizeOf f.type)).run P w = .ok (fs.map λf=>(f.offset,P.cellsOf f.type)) w:=by
     rw[Array.mapM_eq_mapM_toList,Go.Sem.run_map,hpl];simp only[bT]
     congr 1
     apply zC;simp
    have hzr:(zeroValue t).run P w = .ok (.agg cs) w:=(by simp[zeroValue,typeInfo,hi,hzero]);have hps:(ps0.map λ(i,x)=>(i,a.eval x)).toList=ps0.toList.map λp=>(p.1,a.eval p.2):=(by simp);simp only[execOp,he,Instr.build,dN,hzr,bT,oH,run_underlying hs,hpl',hps,h1,dA]
   ·cases hz
  ·cases hc
 ·cases hc
def Src (I:IH)(w:World)(v:Value)(sz:Nat)(es:List (List Cell)):Prop:=
 ∃ (b:Option Addr) (cap:Nat),v = .slice b es.length cap/\es.length<=maxLen/\(∀e,e∈es->e.length=sz)/\(0<es.length->b≠none) /\
   ∀ad,b=some ad->∀i j c,(es.getD i [])[j]? = some c->∃u,w.cell? (ad.add (i*sz+j))=some u/\Rd I u c
theorem src_ok (h:GX E I ρ n st a w){v:Value}{x:AV}{sz:Nat}{p:Prop}{es:List (List Cell)}(hv:GV I ρ v x)(hs:zB sz x st.bx=some (p,es))(hp:p):Src I w v sz es:=by
 unfold zB at hs;split at hs
 ·rename_i sz' es';simp only[aH,dF]at hs;obtain⟨rfl,rfl⟩:=hs;subst hp;cases hv with|sl b len cap _ _ u hlen hcap hmax hsz ha hcell hr=>
  subst hlen;refine⟨b,cap,rfl,aI,hsz,ha,λad had i j c hc=>?_⟩;have hi:=mY hc;have hj:j<sz':=by have:=hsz (es'.getD i []) (by simp[dJ,aB hi]);rw[<- this];exact(aT.1 hc).1
  exact⟨_,h.agree.cell (hcell ad had i j hi hj),hr i j c hc⟩
 ·simp at hs;obtain⟨_,rfl⟩:=hs;simp only[GV,GC]at hv;exact⟨none,0,hv,mg,mg,mg,λad had=>by cases had⟩
 ·rename_i b m sz';split at hs
  ·rename_i DV es' hb;simp only[aH,dF]at hs;obtain⟨rfl,rfl⟩:=hs;obtain⟨rfl,rfl,hm⟩:=hp;obtain⟨k,cap,ad,c,hr,rfl,hmc,hcc,ha⟩:=hv;have facts:=GS.J7 h hb hr;have hlen:(es'.take m).length=m:=(by simp;omega);refine⟨ad,c,by rw[hlen],aI,λe he=>facts.2.2 e (gI he),λh0=>by rw[ha aI];simp,λq hq i j cc hc=>?_⟩;have hi:=mY hc;rw[hlen]at hi;have hq':q=⟨k,0,none⟩:=(by have:=ha aI;rw[hq]at this;simpa using this);subst hq';have hc':(es'.getD i [])[j]? = some cc:=by
    rw[<- hc];congr 1;simp only[dJ];rw[dK,aA hi]
   obtain⟨u,hu,hg⟩:=GS.N8 h hb hr aI (i:=i) aI j (.c cc) (by rw[dG,hc'];rfl);refine⟨u,?_,hg⟩;rw[Addr.uw]at hu⊢;rw[<- hu];congr 2;simp
  ·cases hs
 ·rename_i b lo m c0 sz';split at hs
  ·rename_i DV es' hb;simp only[aH,dF]at hs;obtain⟨rfl,rfl⟩:=hs;obtain⟨rfl,rfl,hm⟩:=hp;obtain⟨k,cap,ad,c,hr,rfl,hmc,hcc,_,ha⟩:=hv;have facts:=GS.J7 h hb hr;have hlen:((es'.drop lo).take m).length=m:=(by simp;omega);refine⟨ad,c,by rw[hlen],aI,λe he=>facts.2.2 e (lu (gI he)),λh0=>by rw[ha (.inl aI)];simp,λq hq i j cc hc=>?_⟩;have hi:=mY hc;rw[hlen]at hi;have hq':q=⟨k,lo*DV,none⟩:=(by have:=ha (.inl aI);rw[hq]at this;simpa using this);subst hq';have hc':(es'.getD (lo+i) [])[j]? = some cc:=by
    rw[<- hc];congr 1;simp only[dJ];rw[dK,aA hi,gW]
   obtain⟨u,hu,hg⟩:=GS.N8 h hb hr aI (i:=lo+i) aI j (.c cc) (by rw[dG,hc'];rfl);refine⟨u,?_,hg⟩;rw[Addr.uw]at hu⊢;rw[<- hu];congr 2;rw[dL,uf]
  ·cases hs
 ·cases hs
theorem YA {es:List (List Cell)}{l:List UInt8}(h:bytesOf es=some l):∃ns:List Int,es=ns.map (λm=>[Cell.lit (.int .u8 m)])/\l=ns.map λm=>gz m.toNat:=by
 induction es generalizing l with
 |nil=>simp[bytesOf]at h;exact⟨[],rfl,h⟩
 | cons e r ih=>
   unfold bytesOf at h;split at h
   ·rename_i e;cases e
   ·rename_i m r' e;simp only[x8]at e;obtain⟨rfl,rfl⟩:=e;split at h
    ·rename_i l' hl;obtain⟨ns,rfl,rfl⟩:=ih hl;simp at h;exact⟨m::ns,rfl,h.symm⟩
    ·cases h
   ·cases h
theorem foldl_push (ns:List Int):∀s:ByteArray,(ns.foldl (λr m=>r.push (gz m.toNat)) s).data.toList=s.data.toList++ns.map λm=>gz m.toNat:=by
 induction ns with
 |nil=>intro s;simp
 |cons m r ih=>intro s;rw[wH,ih,bU];simp[ByteArray.push]
theorem agG {b:Option Addr}{cap:Nat}{ns:List Int}{v:Value}(hv:v = .slice b ns.length cap)(h0:0<ns.length->b≠none)
 (hc:∀ad,b=some ad->∀j m,ns[j]? = some m->w.cell? (ad.add j)=some (.int .u8 m)):(Conv.bytesToString v).run P w = .ok (.string ⟨⟨ns.map λm=>gz m.toNat⟩⟩) w:=by
 subst hv;cases b with
 | none=>
   cases ns with
   |nil=>simp[Conv.bytesToString,dA];rfl
   |cons m r=>exact eF rfl (h0 mg)
 | some ad=>
   have hl:=run_loadCells_list (P:=P) w ad (ns.map (mX .u8)) (λj v hj=>by
    rw[dG]at hj;cases hq:ns[j]? with
    |none=>rw[hq]at hj;cases hj
    |some m=>rw[hq]at hj;simp at hj;subst hj;exact hc ad rfl j m hq)
   rw[vg]at hl;rw[run_bytesToString w ad ns.length cap ns hl]
   congr 2
   apply ByteArray.ext;apply zC;rw[foldl_push];simp
def YF (P:Program)(n:Nat)(op:Op)(x:pU):Bool:=
 match op with
 |.convert s d x'=>lJ n x' x&&Sv P d&&(match P.underlying s with|some (.slice e)=>(match P.underlying e with|some (.int .u8)=>true|_=>false)|_=>false)
 |_=>false
theorem afM {o:Oper}{x:pU}{p:Prop}{es:List (List Cell)}{l:List UInt8}(h:GX E I ρ n st a w)(hc:YF P n o.op x=true)(hx:(x.ev st.tm).g=true)
 (hs:zB 1 (fK st.tm x) st.bx=some (p,es)) (hp:p) (hb:bytesOf es=some l) (hl:l.length<=maxLen):xR P E n o a w st (LK l):=by
 unfold YF at hc;split at hc
 ·rename_i s d x' he;simp only[ah]at hc;have g:=oK h hc.1.1 hx;have hd:=Jw hc.1.2;obtain⟨_,ht⟩:=hc;split at ht
  ·rename_i e hse;split at ht
   ·rename_i hee;obtain⟨b,cap,hv,_,_,h0,hcell⟩:=src_ok h g hs hp;obtain⟨ns,rfl,rfl⟩:=YA hb;have hr:=agG (P:=P) (w:=w) (b:=b) (cap:=cap) (ns:=ns) (v:=a.eval x') (by rw[hv];simp) (by simpa using h0) (λad had j m hj=>by
     obtain⟨u,hu,hrd⟩:=hcell ad had j 0 (.lit (.int .u8 m)) (by simp[dJ,dG,hj]);cases hrd with|lit v hv=>
     simpa using hu)
    have hcv:=run_convert_bytes_string (P:=P) w s d e b (ns.map λm=>[Cell.lit (.int .u8 m)]).length cap hse hee hd;rw[<- hv]at hcv;exact xq.val h (by simp only[execOp,he,dN,hcv,hr,bT,dA]) (Za hl)
   ·cases ht
  ·cases ht
 ·cases hc
end
end
section
section
variable {P:Program} {E:Env P} {I:IH} {ρ:Ren} {n:Nat} {st:gY} {a:Act} {w:World}
def Ew : Box->Prop
 |.absent=>True
 |_=>False
theorem BZ {x:Box}(h:Ew x):x = .absent:=by cases x<;>first|rfl|exact h.elim
theorem aeO (h:GX E I ρ n st a w){l:Nat}(hl:st.bx l = .absent)(hm:E.m<=l)(cs:Array Value)(e:TypeId)(xs:List AC)(hg:NZ I ρ cs.toList xs) :
 ∃ ρ',GX E I ρ' n (st.Ap l (.var xs)) a (w.alloc (.cells cs e))/\GV I ρ' (.pointer (some ⟨w.heap.size,0,none⟩)) (.one (.ptr l 0)):=by
 have hrl:ρ l=none:=by have:=h.bx.ok l;rwa[hl]at this
 refine⟨ρ.set l w.heap.size e,GX.new h hl hm cs e e _ ?_,w.heap.size,e,Ren.pz _ _ _ _,rfl⟩;refine⟨w.heap.size,e,cs,Ren.pz _ _ _ _,heap_alloc_new w _,by simpa using hg.1,λj u x hu hx=>?_⟩;exact(hg.2 j u x (by simpa using hu) hx).mono (IH.le_refl I) (Ren.Pq hrl)
theorem Oi (h:GX E I ρ n st a w){l:Nat}(hl:st.bx l = .absent)(hm:E.m<=l)(cs:Array Value)(e:TypeId)(cap sz:Nat)(es:List (List Cell))(hcs:cs.size=cap*sz)(hle:es.length<=cap)(hcap:cap<=maxLen)
 (hsz:∀x,x∈es->x.length=sz) (h1:∀(j:Nat) (u:Value),cs[j]? = some u->u.oneCell'=true) (hd:∀(i j:Nat) (c:Cell),(es.getD i [])[j]? = some c->∃u,cs[i*sz+j]? = some u/\Rd I u c) :
 GX E I (ρ.set l w.heap.size cap) n (st.Ap l (.dat sz es)) a (w.alloc (.cells cs e)):=by
 refine GX.new h hl hm cs e cap _ ⟨w.heap.size,cap,Ren.pz _ _ _ _,hle,hcap,hsz,λ_=>⟨cs,e,heap_alloc_new w _,hcs,h1,hd⟩⟩
def MV (P:Program)(op:Op)(zs:List AC):Bool:=match op with|.alloc t=>(match P.info? t with|some i=>(match i.zero with|some z=>Rk z.cells.toList zs|none=>false)|none=>false)|_=>false
theorem GY (w:World)(t:TypeId)(v:Value):(newVar t v).run P w = .ok ⟨w.heap.size,0,none⟩ (w.alloc (.cells v.cells t)):=by simp[newVar,newRow]
theorem ach {o:Oper}{l:Nat}{zs:List AC}(h:GX E I ρ n st a w)(hc:MV P o.op zs=true)(hm:E.m<=l)(hl:Ew (st.bx l)):xq P E n o a w (st.Ap l (.var zs)) (.one (.ptr l 0)):=by
 unfold MV at hc;split at hc
 ·rename_i t he;split at hc
  ·rename_i i hi;split at hc
   ·rename_i z hz;obtain⟨ρ',h1,h2⟩:=aeO h (BZ hl) hm z.cells t zs (LQ hc);have hzr:(zeroValue t).run P w = .ok z w:=(by simp[zeroValue,typeInfo,hi,hz]);exact⟨_,_,I,ρ',.inl (by simp only[execOp,he,DD,dN,hzr,bT,GY,dA]),h1,λ_=>h2⟩
   ·cases hc
  ·cases hc
 ·cases hc
theorem GX.aqm (h:GX E I ρ n st a w){r:Nat}(hr:st.bx r = .absent)(hm:E.m<=r)(e:Nat):GX E I (ρ.set r 0 0) n (st.Ap r (.row e [])) a w:=by
 have hrl:ρ r=none:=by have:=h.bx.ok r;rwa[hr]at this
 have hle:=Ren.Pq (ρ:=ρ) (k:=0) (cap:=0) hrl;have hu:∀k,¬(Box.row e []).uses ((ρ.set r 0 0) r) k:=λk hk=>by obtain⟨c,hc,h0⟩:=hk;rw[Ren.pz]at hc;simp only[aH,dF]at hc;exact h0 hc.2.symm
 refine{ agree:=h.agree,bx:=BX.step (λb=>b=r) h.bx (IH.le_refl I) hle ?_ ?_ ?_ ?_ ?_ ?_,tm:=λt ht=>(h.tm t ht).mono (IH.le_refl _) hle,size:=h.size,defers:=h.defers,DT:=h.DT,own:=?_,Nq:=h.Nq,I7:=h.I7,zU:=?_ }
 ·intro b hb;exact⟨by simp[gY.Ap,hb],Ren.yl hb⟩
 ·intro b k hb hk;rfl
 ·rintro b rfl;simp only[gY.tu,jY];exact⟨0,0,Ren.pz _ _ _ _,aC _,Nat.zero_le _,λh=>eF rfl h⟩
 ·rintro b k rfl hk;simp only[gY.tu,jY]at hk;exact(hu k hk).elim
 ·rintro b b' k rfl rfl _ _;rfl
 ·intro b k hb hk;exact h.bx.fresh b k hk
 ·intro b k hk;simp only[gY.tu]at hk;by_cases e:b=r
  ·subst e;rw[aA rfl]at hk;exact(hu k hk).elim
  ·rw[au e,Ren.yl e]at hk;exact h.own b k hk
 ·intro b hb;rw[Ren.yl aI];exact h.zU b hb
def Kr (P:Program)(op:Op)(T:Nat):Bool:=match op with|.alloc t=>t==T&&(match P.info? t with|some i=>(match i.zero with|some z=>Rk z.cells.toList [.c (.lit (.pointer none)),.nS 1]|none=>false)|none=>false)|_=>false
theorem aac {o:Oper}{T e l r:Nat}(h:GX E I ρ n st a w)(hc:Kr P o.op T=true)(hm:E.m<=l)(hm':E.m<=r)(hl:Ew (st.bx l))(hr:Ew (st.bx r))(hne:l≠r) :
 xq P E n o a w ((st.Ap r (.row e [])).Ap l (.var [.opt T l,.zW r 0])) (.one (.ptr l 0)):=by
 unfold Kr at hc;split at hc
 ·rename_i t he;simp only[ah,aZ]at hc;obtain⟨rfl,hc⟩:=hc;split at hc
  ·rename_i i hi;split at hc
   ·rename_i z hz;have g:=h.aqm (BZ hr) hm' e;have hl':(st.Ap r (.row e [])).bx l = .absent:=(by simp only[gY.tu,au hne];exact BZ hl);have hz2:NZ I ρ z.cells.toList _:=LQ hc;have hsz:z.cells.size=2:=(by have:=hz2.1;simpa using this);have hg:=GX.new g hl' hm z.cells t t (.var [.opt t l,.zW r 0]) ⟨w.heap.size,t,z.cells,Ren.pz _ _ _ _,heap_alloc_new w _,hsz,λj u x hu hx=>by
     match j with
     | 0=>have h1:=hz2.2 0 u _ (by simpa using hu) rfl;simp at hx;subst hx;cases h1;exact⟨_,Ren.pz _ _ _ _,.inl rfl⟩
     | 1=>have h1:u = .slice none 0 0:=hz2.2 1 u _ (by simpa using hu) rfl;simp at hx;subst hx;exact⟨0,0,(Ren.yl hne.symm).trans (Ren.pz _ _ _ _),aC _,.inl ⟨rfl,h1⟩⟩
     |j+2=>simp at hx⟩
    have hzr:(zeroValue t).run P w = .ok z w:=(by simp[zeroValue,typeInfo,hi,hz]);exact⟨_,_,I,_,.inl (by simp only[execOp,he,DD,dN,hzr,bT,GY,dA]),hg,λ_=>⟨_,_,Ren.pz _ _ _ _,rfl⟩⟩
   ·cases hc
  ·cases hc
 ·cases hc
def Vb (n:Nat)(op:Op)(x:pU):Bool:=match op with|.box _ x'=>lJ n x' x|_=>false
theorem ahE {o:Oper}{l:Nat}{x:pU}(h:GX E I ρ n st a w)(hc:Vb n o.op x=true)(hx:(x.ev st.tm).g=true)(hm:E.m<=l)(hl:Ew (st.bx l))(hf:(fK st.tm x).flat) :
 xq P E n o a w (st.Ap l (.var (fK st.tm x).cells)) (.one (.ptr l 0)):=by
 unfold Vb at hc;split at hc
 ·rename_i t x' he;have g:=oK h hc hx;obtain⟨ρ',h1,h2⟩:=aeO h (BZ hl) hm (a.eval x').cells t _ (Nl g hf);exact⟨_,_,I,ρ',.inl (by simp only[execOp,he,Go.Instr.box,dN,bT,GY,dA]),h1,λ_=>h2⟩
 ·cases hc
def amk : Value->Cell->Bool
 |.int k n,.lit (.int k' n')=>k==k'&&n==n'
 |.bool b,.lit (.bool b')=>b==b'
 |.string s,.str l=>s.data.toList==l&&decide (l.length<=1000000)
 |.slice none 0 0,.sl _ []=>true
 |.pointer none,.lit (.pointer none)=>true
 |.nilFunc,.lit .nilFunc=>true
 |.nilIface,.lit .nilIface=>true
 |_,_=>false
theorem akw {v:Value}{x:Cell}(h:amk v x=true):Rd I v x:=by
 unfold amk at h;split at h
 ·simp only[ah,aZ]at h;obtain⟨rfl,rfl⟩:=h;exact Rd.lit _ rfl
 ·simp only[aZ]at h;subst h;exact Rd.lit _ rfl
 ·rename_i s l;simp only[ah,aZ,aF]at h;obtain⟨rfl,hl⟩:=h;have:s=⟨⟨s.data.toList⟩⟩:=by cases s;rfl
  exact this▸Rd.str _ (by simp only[maxLen];omega)
 ·exact Rd.sl none 0 0 _ [] (λ_ _=>undef) rfl (aC _) (by simp[maxLen]) mg mg (λad h=>by cases h) mg
 ·exact Rd.lit _ rfl
 ·exact Rd.lit _ rfl
 ·exact Rd.lit _ rfl
 ·cases h
def LP (zs:List Value)(xs:List Cell):Bool:=zs.length==xs.length&&(zs.zip xs).all λp=>amk p.1 p.2
theorem Ub {zs:List Value}{xs:List Cell}(h:LP zs xs=true):zs.length=xs.length/\∀(j:Nat) (c:Cell),xs[j]? = some c->∃u,zs[j]? = some u/\Rd I u c:=by
 unfold LP at h;simp only[ah,aZ,bf]at h;refine⟨h.1,λj c hc=>?_⟩;have hj:j<zs.length:=by rw[h.1];exact(aT.1 hc).1
 refine⟨zs[j],aB hj,akw (h.2 (zs[j],c) ?_)⟩;exact iF (i:=j) (by simp[BA,hc,hj])
theorem Td {z:Array Value}{zs:List Cell}{sz m N:Nat}(hz:LP z.toList zs=true)(hs:zs.length=sz)(h0:0<sz)(hN:m*sz<=N){cs:Array Value}(hcs:cs=(wz N).map (z[· % z.size]!)) :
 (∀(j:Nat) (u:Value),cs[j]? = some u->u.oneCell'=true)/\∀(i j:Nat) (c:Cell),((bY m zs).getD i [])[j]? = some c->∃u,cs[i*sz+j]? = some u/\Rd I u c:=by
 obtain⟨hl,hd⟩:=Ub (I:=I) hz;have hzs:z.size=sz:=by rw[<- hs,<- hl];simp
 subst hcs;refine⟨λj u hu=>?_,λi j c hc=>?_⟩
 ·rw[qp]at hu;by_cases hj:j<N
  ·rw[qK,aA hj]at hu;simp at hu;have hlt:j%z.size<z.size:=xh _ aI;rw[getElem!_pos z _ hlt]at hu;obtain⟨c,hc⟩:∃c,zs[j%z.size]? = some c:=⟨_,aB aI⟩;obtain⟨u',hu',hr⟩:=hd _ c hc;simp[hlt]at hu';rw[<- hu,hu'];exact hr.one
  ·rw[qK,au hj]at hu;cases hu
 ·have hi:=mY hc;simp at hi;simp[dJ,hi]at hc;have hj:j<sz:=by rw[<- hs];exact(aT.1 hc).1
  obtain⟨u,hu,hr⟩:=hd j c hc;refine⟨u,?_,hr⟩;have hlt:i*sz+j<N:=by have:(i+1)*sz<=m*sz:=aY _ hi;rw[dL]at this;omega
  rw[qp,qK,aA hlt];simp only[kL,aH];have hmod:(i*sz+j)%z.size=j:=by rw[hzs,wY,Nat.mul_add_mod,xH hj]
  rw[hmod,getElem!_pos z _ aI];have:z[j]? = some u:=by simpa using hu
  rw[lZ aI]at this;simpa using this
def Kq (P:Program)(op:Op)(sz m:Nat)(zs:List Cell):Bool:=
 match op with
 |.alloc t=>Ql P t sz m&&(match P.info? t with|some i=>(match i.zero with|some (.agg z)=>LP z.toList (bY m zs).flatten|_=>false)|none=>false)&&zs.length==sz&&decide (0<sz)&&decide (m<=1000000)
 |_=>false
theorem aaD {zs:List Cell}{sz m i j:Nat}{c:Cell}(hs:zs.length=sz)(hc:((bY m zs).getD i [])[j]? = some c):((bY m zs).flatten)[i*sz+j]? = some c:=by
 induction m generalizing i with
 |zero=>simp[dJ]at hc
 | succ m ih=>
   rw[yh,List.flatten_cons];cases i with
   | zero=>simp[dJ,yh]at hc;rw[cu (by have:=(aT.1 hc).1;omega)];simpa using hc
   | succ i=>
     rw[dU (by rw[hs,dL];omega),hs];have:=ih (i:=i) (by simpa[dJ,yh]using hc);rw[<- this]
     congr 1
     rw[dL];omega
theorem aab {o:Oper}{l sz m:Nat}{zs:List Cell}(h:GX E I ρ n st a w)(hc:Kq P o.op sz m zs=true)(hm:E.m<=l)(hl:Ew (st.bx l)) :
 xq P E n o a w (st.Ap l (.dat sz (bY m zs))) (.one (.BH l 0 sz 0)):=by
 unfold Kq at hc;split at hc
 ·rename_i t he;simp only[ah,aZ,aF]at hc;obtain⟨⟨⟨⟨_,hz⟩,hs⟩,h0⟩,hm6⟩:=hc;split at hz
  ·rename_i i hi;split at hz
   ·rename_i z hzero;obtain⟨hl1,hd⟩:=Ub (I:=I) hz;have hzs:z.size=m*sz:=(by have:=hl1;simp[hs]at this;exact this);have hzr:(zeroValue t).run P w = .ok (.agg z) w:=(by simp[zeroValue,typeInfo,hi,hzero]);have g:=Oi h (BZ hl) hm z t m sz (bY m zs) hzs mg (by simp only[maxLen];omega) (λx hx=>by rw[vY hx,hs])
     (λj u hu=>by have hj:j<((bY m zs).flatten).length:=(by rw[<- hl1];simpa using(eH.1 hu).1);obtain⟨u',hu',hr⟩:=hd j _ (aB hj);have:u'=u:=(by simp at hu';rw[hu]at hu';exact(Option.some.inj hu').symm);subst this;exact hr.one)
     (λi' j c hc=>by obtain⟨u,hu,hr⟩:=hd _ c (aaD hs hc);exact⟨u,by simpa using hu,hr⟩)
    refine⟨_,_,I,_,.inl (by simp only[execOp,he,DD,dN,hzr,bT,GY,dA,oH];rfl),g,λ_=>⟨w.heap.size,m,Ren.pz _ _ _ _,mg⟩⟩
   ·cases hz
  ·cases hz
 ·cases hc
def MZ (P:Program)(n:Nat)(op:Op)(sz bytes:Nat)(zs:List Cell)(x y:pU):Bool:=
 match op with
 | .makeSlice t x' y'=>lJ n x' x&&lJ n y' y&&zs.length==sz&&decide (0<sz)&&(match P.underlying t with
   |some (.slice e)=>(match P.info? e with|some i=>i.size==sz&&i.bytes==bytes&&(match i.zero with|some z=>LP z.cells.toList zs|none=>false)|none=>false)
   |_=>false)
 |_=>false
theorem ado {o:Oper}{l sz bytes:Nat}{zs:List Cell}{x y:pU}{k k':IntKind}{p q:Int}(h:GX E I ρ n st a w)(hc:MZ P n o.op sz bytes zs x y=true)(hx:(x.ev st.tm).g=true)(hy:(y.ev st.tm).g=true)
 (e1:fK st.tm x=yH k p) (e2:fK st.tm y=yH k' q) (hm:E.m<=l) (hl:Ew (st.bx l)) (h0:0<=p) (h1:p<=q) (h2:bytes*q<=2^47) (h3:q<=2^47) :
 xq P E n o a w (st.Ap l (.dat sz (bY p.toNat zs))) (.one (.own l p.toNat sz)):=by
 unfold MZ at hc;split at hc
 ·rename_i t x' y' he;simp only[ah,aZ,aF]at hc;obtain⟨⟨⟨⟨c1,c2⟩,hs⟩,hs0⟩,ht⟩:=hc;have g1:=oK h c1 hx;have g2:=oK h c2 hy;rw[e1]at g1;rw[e2]at g2;have v1:=zT g1;have v2:=zT g2;split at ht
  ·rename_i e hte;split at ht
   ·rename_i i hi;simp only[ah,aZ]at ht;obtain⟨⟨rfl,rfl⟩,hz⟩:=ht;split at hz
    ·rename_i z hzero;have hr:=run_make (P:=P) w t e i z hte hi hzero k k' p q h0 h1 aI aI;have rc:=Td (I:=I) (N:=q.toNat*i.size) (m:=p.toNat) hz hs hs0 (aY _ aI) (cs:=madeCells z.cells (q.toNat*i.size)) rfl;have g:=Oi h (BZ hl) hm (madeCells z.cells (q.toNat*i.size)) e q.toNat i.size (bY p.toNat zs) (size_madeCells _ _) (by simp;omega) (by simp only[maxLen];omega)
      (λx hx=>by rw[vY hx,hs]) rc.1 rc.2
     refine⟨_,_,I,_,.inl (by simp only[execOp,he,v1,v2,dN,hr,bT,dA];rfl),g,λ_=>⟨w.heap.size,q.toNat,_,_,Ren.pz _ _ _ _,rfl,aI,aI,λ_=>rfl⟩⟩
    ·cases hz
   ·cases ht
  ·cases ht
 ·cases hc
end
end
section
section
variable {P:Program} {E:Env P} {I:IH} {ρ:Ren} {n:Nat} {st:gY} {a:Act} {w:World}
noncomputable def Eg (I:IH)(ρ:Ren)(w:World)(bx:Nat->Box)(bs:List Nat):IH:=λk=>
 open Classical in
 if ∃b sz es cap,b∈bs/\bx b = .dat sz es/\ρ b=some (k,cap)/\cap≠0 then(match w.heap[k]? with|some (.cells c _ _)=>some c|_=>none)else I k
theorem Iu (hA:BX I ρ w st.bx)(bs:List Nat):I.le (Eg I ρ w st.bx bs):=λk c hk=>by
 unfold Eg;rw[au]
 ·exact hk
 ·rintro⟨b,sz,es,cap,_,hb,hr,h0⟩;have:=hA.fresh b k (by rw[hb];exact⟨cap,hr,h0⟩);rw[this]at hk;cases hk
theorem Pv (hA:Agree I w)(bs:List Nat):Agree (Eg I ρ w st.bx bs) w:=λk c hk=>by
 unfold Eg at hk;split at hk
 ·split at hk
  ·rename_i c' e fr hw;simp at hk;subst hk;exact⟨e,fr,hw⟩
  ·cases hk
 ·exact hA k c hk
theorem Y5 (h:GX E I ρ n st a w){bs:List Nat}{v:Value}{b m sz:Nat}{es:List (List Cell)}(hb:b∈bs)(harr:(st.bx b).arr=some (sz,es))(hm:m<=es.length)(hv:GC I ρ v (.own b m sz)) :
 Rd (Eg I ρ w st.bx bs) v (.sl sz (es.take m)):=by
 obtain⟨k,cap,ad,c,hr,hsv,hmc,hcc,hcap⟩:=hv;have facts:=GS.J7 h harr hr;have hl:(es.take m).length=m:=by simp;omega
 subst hsv;have hI:cap≠0->∃cs,(Eg I ρ w st.bx bs) k=some cs/\∀i j c,(es.getD i [])[j]? = some c->∃u,cs[i*sz+j]? = some u/\Rd I u c:=by
  intro hc0;have hok:=h.bx.ok b;cases hx:st.bx b with
  | dat sz' es'=>rw[hx]at hok harr;simp[Box.arr]at harr;obtain⟨rfl,rfl⟩:=harr;obtain⟨k',cap',hr',_,_,_,hd⟩:=hok;rw[hr]at hr';simp at hr';obtain⟨rfl,rfl⟩:=hr';obtain⟨cs,e,hw,_,_,hcs⟩:=hd hc0;refine⟨cs,?_,hcs⟩;unfold Eg;rw[aA ⟨b,_,_,cap,hb,hx,hr,hc0⟩,hw]
  | H8 sz' es'=>rw[hx]at hok harr;simp[Box.arr]at harr;obtain⟨rfl,rfl⟩:=harr;obtain⟨k',cap',hr',_,_,_,hd⟩:=hok;rw[hr]at hr';simp at hr';obtain⟨rfl,rfl⟩:=hr';obtain⟨cs,hw,hcs⟩:=hd hc0;exact⟨cs,Iu h.bx bs _ _ hw,hcs⟩
  |absent=>rw[hx]at harr;cases harr
  |dead=>rw[hx]at harr;cases harr
  |var xs=>rw[hx]at harr;cases harr
  |row e l=>rw[hx]at harr;cases harr
 have hle:=Iu (st:=st) h.bx bs;by_cases hc0:cap=0
 ·have hm0:m=0:=by omega
  subst hm0;simp only[A7];exact Rd.sl _ 0 c sz [] (λ_ _=>undef) rfl aI aI mg mg (by intro ad _ i j hi;omega) mg
 ·obtain⟨cs,hcs,hrd⟩:=hI hc0;have had:=hcap hc0;subst had;have key:∀i j c,((es.take m).getD i [])[j]? = some c->∃u,cs[i*sz+j]? = some u/\Rd I u c:=λi j c hc=>by
   have hi:=mY hc;rw[hl]at hi;refine hrd i j c ?_;rw[<- hc];congr 1;simp only[dJ];rw[dK,aA hi]
  refine Rd.sl _ m c sz (es.take m) (λi j=>cs.getD (i*sz+j) undef) hl hmc aI (λe he=>facts.2.2 e (gI he)) mg ?_ ?_
  ·intro ad had i j hi hj;simp at had;subst had;have hlen:((es.take m).getD i []).length=sz:=by
    have:i<(es.take m).length:=(by omega);rw[List.getD_eq_getElem?_getD,aB this];exact facts.2.2 _ (gI (List.getElem_mem this))
   obtain⟨u,hu,_⟩:=key i j _ (aB aI);rw[Addr.uw];simp only[IH.cell,hcs];simp[hu,fH]
  ·intro i j c hc;obtain⟨u,hu,hr⟩:=key i j c hc;have:cs.getD (i*sz+j) undef=u:=(by simp[fH,hu]);rw[this];exact hr.mono hle
theorem Cj {bs:List Nat}{b:Nat} : (st.H8 bs).bx b=if b∈bs then JK (st.bx b)else st.bx b:=rfl
theorem GX.freeze (h:GX E I ρ n st a w)(BS:List Nat):GX E (Eg I ρ w st.bx BS) ρ n (st.H8 BS) a w:=by
 have hIJ:=Iu h.bx BS;have Eu:∀b k,((st.H8 BS).bx b).uses (ρ b) k->(st.bx b).uses (ρ b) k/\¬(∃b' sz es cap,b'∈BS/\st.bx b' = .dat sz es/\ρ b'=some (k,cap)/\cap≠0):=by
  intro b k hu;rw[Cj]at hu;by_cases hb:b∈BS
  ·rw[aA hb]at hu;cases hx:st.bx b with
   | var xs=>rw[hx]at hu;refine⟨hu,?_⟩;rintro⟨b',sz,es,cap,_,hb',hr',h0⟩;have:=h.bx.inj b b' k (by rw[hx];exact hu) (by rw[hb'];exact⟨cap,hr',h0⟩);subst this;rw[hx]at hb';cases hb'
   | row e l=>rw[hx]at hu;refine⟨hu,?_⟩;rintro⟨b',sz,es,cap,_,hb',hr',h0⟩;have:=h.bx.inj b b' k (by rw[hx];exact hu) (by rw[hb'];exact⟨cap,hr',h0⟩);subst this;rw[hx]at hb';cases hb'
   |dat sz es=>rw[hx]at hu;exact hu.elim
   |H8 sz es=>rw[hx]at hu;exact hu.elim
   |absent=>rw[hx]at hu;exact hu.elim
   |dead=>rw[hx]at hu;exact hu.elim
  ·rw[au hb]at hu;refine⟨hu,?_⟩;rintro⟨b',sz,es,cap,hm',hb',hr',h0⟩;have:=h.bx.inj b b' k hu (by rw[hb'];exact⟨cap,hr',h0⟩);subst this;exact hb hm'
 have hfr:∀b k,((st.H8 BS).bx b).uses (ρ b) k->Eg I ρ w st.bx BS k=none:=λb k hu=>by obtain⟨h1,h2⟩:=Eu b k hu;unfold Eg;rw[au h2];exact h.bx.fresh b k h1
 refine{ agree:=Pv h.agree BS,bx:=⟨λb=>?_,λb b' k hb hb'=>h.bx.inj b b' k (Eu b k hb).1 (Eu b' k hb').1,hfr⟩,tm:=λt ht=>(h.tm t ht).mono hIJ (Ren.le_refl ρ),size:=h.size,defers:=h.defers,DT:=h.DT,own:=λb k hu=>h.own b k (Eu b k hu).1,Nq:=IH.le_trans h.Nq hIJ,I7:=λk hk0 hM=>?_,zU:=h.zU }
 ·have hok:=(h.bx.ok b).keep hIJ (Ren.le_refl ρ) rfl (λk hu=>rfl);rw[Cj];by_cases hb:b∈BS
  ·rw[aA hb];cases hx:st.bx b with
   | dat sz es=>rw[hx]at hok;obtain⟨kk,cap,hr',hl,hm,hsz,hcs⟩:=hok;refine⟨kk,cap,hr',hl,hm,hsz,λh0=>?_⟩;obtain⟨cs,e,hw,_,_,hrd⟩:=hcs h0;refine⟨cs,?_,hrd⟩;unfold Eg;rw[aA ⟨b,sz,es,cap,hb,hx,hr',h0⟩,hw]
   |var xs=>rw[hx]at hok;exact hok
   |row e l=>rw[hx]at hok;exact hok
   |H8 sz es=>rw[hx]at hok;exact hok
   |absent=>rw[hx]at hok;exact hok
   |dead=>rw[hx]at hok;exact hok
  ·rw[au hb];exact hok
 ·unfold Eg;rw[au]
  ·exact h.I7 k hk0 hM
  ·rintro⟨b',sz,es,cap,_,hb',hr',h0⟩;rcases h.own b' k (by rw[hb'];exact⟨cap,hr',h0⟩)with h1|h1
   ·omega
   ·exact hM h1
theorem Q4 (l:List (Nat×Box))(st:gY):(st.vJ l).tm=st.tm:=by
 induction l generalizing st with
 |nil=>rfl
 |cons x l ih=>obtain⟨b,x⟩:=x;simp only[gY.vJ,ih];rfl
theorem agN (st:gY)(l:List Nat)(bx:Nat->Box):(st.vJ (l.map λb=>(b,JK (bx b)))).bx=λb=>if b∈l then JK (bx b)else st.bx b:=by
 induction l generalizing st with
 |nil=>rfl
 | cons c l ih=>
   simp only[bU,gY.vJ,ih]
   funext b
   simp only[gY.tu,aK];by_cases h:b∈l
   ·simp[h]
   ·by_cases h':b=c
    ·subst h';simp[h]
    ·simp[h,h']
theorem F9 (st:gY)(l:List Nat):st.vJ (l.map λb=>(b,JK (st.bx b)))=st.H8 l:=by
 apply gY.ext'
 ·rw[Q4];rfl
 ·rw[agN];rfl
theorem LG (l r:List (Nat×Box)):∀(st:gY),st.vJ (l++r)=(st.vJ l).vJ r:=by
 induction l with
 |nil=>intro st;rfl
 |cons p l ih=>intro st;obtain⟨b,x⟩:=p;simp only[List.cons_append,gY.vJ,ih]
theorem Ws (st:gY)(l:List Nat)(r:List (Nat×Box)):st.vJ (YW st.bx l++r)=(st.H8 l).vJ r:=by rw[LG];unfold YW;rw[F9]
end
end
section
section
variable {P:Program} {E:Env P} {I:IH} {ρ:Ren} {n:Nat} {st:gY} {a:Act} {w:World}
theorem aav (h:GX E I ρ n st a w){BS:List Nat}{vs:List Value}{xs:List AC}{cs:List Cell}(hg:NZ I ρ vs xs)(hd:L6 st.bx xs=some cs)(hl:BC st.bx xs)(hb:∀b,b∈qH xs->b∈BS) :
 vs.length=cs.length/\∀(j:Nat) (c:Cell),cs[j]? = some c->∃u,vs[j]? = some u/\Rd (Eg I ρ w st.bx BS) u c:=by
 have hle:=Iu (st:=st) h.bx BS
 induction xs generalizing vs cs with
 | nil=>simp[L6]at hd;subst hd;exact⟨hg.1,mg⟩
 | cons x r ih=>
   cases vs with
   |nil=>have:=hg.1;simp at this
   | cons v vs=>
     unfold L6 at hd;split at hd
     ·rename_i c cs' h1 h2;simp at hd;subst hd;have ht:NZ I ρ vs r:=⟨by simpa using hg.1,λj u y hu hy=>hg.2 (j+1) u y (by simpa using hu) (by simpa using hy)⟩;have hv:=hg.2 0 v x rfl rfl;have hlr:BC st.bx r:=by
       cases x with
       |own b m sz=>exact hl.2
       |_=>exact hl
      have hbr:∀b,b∈qH r->b∈BS:=λb hm=>hb b (by
       cases x with
       |own b' m sz=>exact List.mem_cons_of_mem _ hm
       |_=>exact hm)
      obtain⟨hl',hc⟩:=ih ht h2 hlr hbr;have hr:Rd (Eg I ρ w st.bx BS) v c:=by
       cases x with
       |c y=>simp[dataOf]at h1;subst h1;exact Rd.mono hle hv
       | nS sz=>simp[dataOf]at h1;subst h1;simp only[GC]at hv;subst hv;exact Rd.sl none 0 0 _ [] (λ_ _=>undef) rfl (aC _) (by simp[maxLen]) mg mg (λad h=>by cases h) mg
       | own b m sz=>
         simp only[dataOf]at h1;have hl1:=hl.1;cases harr:(st.bx b).arr with
         |none=>rw[harr]at h1;cases h1
         | some p=>obtain⟨sz',es⟩:=p;rw[harr]at h1 hl1;simp at h1;subst h1;obtain⟨rfl,hle'⟩:=hl1;exact Y5 h (hb b (by simp[qH])) harr hle' hv
       |_=>simp[dataOf]at h1
      refine⟨by simp[hl'],λj c' hj=>?_⟩;cases j with
      |zero=>simp at hj;subst hj;exact⟨v,rfl,hr⟩
      |succ j=>obtain⟨u,hu,hr'⟩:=hc j c' (by simpa using hj);exact⟨u,by simpa using hu,hr'⟩
     ·cases hd
structure DC (I:IH)(cs:List Value)(sz:Nat)(es:List (List Cell)):Prop where
 one:∀(j:Nat) (u:Value),cs[j]? = some u->u.oneCell'=true
 rd:∀(i j:Nat) (c:Cell),(es.getD i [])[j]? = some c->∃u,cs[i*sz+j]? = some u/\Rd I u c
theorem ah9 {α:Type}(es:List (List α))(i i':Nat)(e:List α)(h:i<es.length):(es.set i e).getD i' []=if i'=i then e else es.getD i' []:=by
 simp only[dJ,rq];by_cases hi:i=i'
 ·subst hi;simp[h]
 ·rw[au hi,au (λe=>hi e.symm)]
theorem ale {sz i i' j j':Nat}(hj:j<sz)(hj':j'<sz)(h:i*sz+j=i'*sz+j'):i=i'/\j=j':=by
 have h1:(i*sz+j)/sz=i:=by rw[wY,Nat.mul_add_div aI,Nat.div_eq_of_lt hj,sG]
 have h2:(i'*sz+j')/sz=i':=by rw[wY,Nat.mul_add_div aI,Nat.div_eq_of_lt hj',sG]
 rw[h]at h1;have:=h1.symm.trans h2;subst this;exact⟨rfl,aI⟩
theorem DC.splice {cs:List Value}{sz:Nat}{es:List (List Cell)}(h:DC I cs sz es)(hsz:∀x,x∈es->x.length=sz){i off:Nat}(hi:i<es.length){vs:List Value}{ys:List Cell}(hl:off+ys.length<=sz)(hcs:(i+1)*sz<=cs.length)
 (hv:vs.length=ys.length) (h1:∀(j:Nat) (u:Value),vs[j]? = some u->u.oneCell'=true) (hd:∀(j:Nat) (c:Cell),ys[j]? = some c->∃u,vs[j]? = some u/\Rd I u c) :
 DC I (splice cs (i*sz+off) vs) sz (es.set i (Ab.splice (es.getD i []) off ys)):=by
 rw[dL]at hcs;have hfit:i*sz+off+vs.length<=cs.length:=by omega
 have hei:(es.getD i []).length=sz:=hsz _ (by simp[dJ,aB hi]);refine⟨λj u hu=>?_,λi' j c hc=>?_⟩
 ·rw[ru _ _ _ _ hfit]at hu;split at hu
  ·exact h.one j u hu
  ·split at hu
   ·exact h1 _ u hu
   ·exact h.one j u hu
 ·rw[ah9 _ _ _ _ hi]at hc;rw[ru _ _ _ _ hfit];by_cases e:i'=i
  ·subst e;rw[aA rfl,ru _ _ _ _ aI]at hc;by_cases c1:j<off
   ·rw[aA c1]at hc;rw[aA aI];exact h.rd i' j c hc
   ·rw[au c1]at hc;rw[au aI];by_cases c2:j<off+ys.length
    ·rw[aA c2]at hc;rw[aA aI];obtain⟨u,hu,hr⟩:=hd _ c hc;exact⟨u,by rw[<- hu];congr 1;omega,hr⟩
    ·rw[au c2]at hc;rw[au aI];exact h.rd i' j c hc
  ·rw[au e]at hc;have hj:j<sz:=by
    have hi':=mY hc;have:=hsz (es.getD i' []) (by simp[dJ,aB hi']);rw[<- this];exact(aT.1 hc).1
   have hout:¬(i*sz+off<=i'*sz+j/\i'*sz+j<i*sz+off+vs.length):=by intro⟨c1,c2⟩;obtain⟨e1,_⟩:=ale (i:=i') (i':=i) (j:=j) (j':=i'*sz+j-i*sz) hj aI aI;exact e e1
   by_cases c1:i'*sz+j<i*sz+off
   ·rw[aA c1];exact h.rd i' j c hc
   ·rw[au c1,au aI];exact h.rd i' j c hc
def J9 (n:Nat):List (Nat×Operand)->List (Nat×pU)->Bool
 |[],[]=>true
 |(i,x)::r,(i',y)::r'=>i==i'&&lJ n x y&&J9 n r r'
 |_,_=>false
def Kt (P:Program)(n:Nat)(op:Op)(sz m:Nat)(zs:List Cell)(ps:List (Nat×pU)):Bool:=
 match op with
 | .buildSlice t len ps'=>len==m&&zs.length==sz&&decide (0<sz)&&decide (len*sz<=16777216)&&J9 n ps'.toList ps&&(match P.underlying t with
   |some (.slice e)=>(match P.info? e with|some i=>i.size==sz&&(match i.zero with|some z=>LP z.cells.toList zs|none=>false)|none=>false)
   |_=>false)
 |_=>false
theorem aam {sz:Nat}{BS:List Nat}(h:GX E I ρ n st a w)(hs0:0<sz):∀(ps:List (Nat×Operand)) (ps':List (Nat×pU)) (l':List (Nat×List Cell)) (cs:Array Value) (es:List (List Cell)),J9 n ps ps'=true ->
 Bl (fK st.tm) st.bx es.length sz ps'=some l'->CZ (fK st.tm) st.bx ps'->(∀b,b∈xk (fK st.tm) ps'->b∈BS)->(∀p,p∈l'->p.1<es.length/\p.2.length=sz)->(∀p,p∈ps'->(p.2.ev st.tm).g=true)->DC (Eg I ρ w st.bx BS) cs.toList sz es->(∀x,x∈es->x.length=sz)->cs.size=es.length*sz ->
 ∃cs',uT (λi=>some (i*sz,sz)) cs (ps.map λp=>(p.1,a.eval p.2))=some cs'/\DC (Eg I ρ w st.bx BS) cs'.toList sz (Qo es l')/\(∀x,x∈Qo es l'->x.length=sz)/\cs'.size=es.length*sz/\(Qo es l').length=es.length
 | [],[],l',cs,es,_,hd,_,_,_,_,hg,hsz,hcs=>by simp[Bl]at hd;subst hd;exact⟨cs,rfl,hg,hsz,hcs,rfl⟩
 |[],_::_,_,_,_,h,_,_,_,_,_,_,_,_=>by simp[J9]at h
 |_::_,[],_,_,_,h,_,_,_,_,_,_,_,_=>by simp[J9]at h
 | (i,x)::r,(i',y)::r',l',cs,es,hp,hd,hld,hbs,hq,hv,hg,hsz,hcs=>by
   simp only[J9,ah,aZ]at hp;obtain⟨⟨rfl,hx⟩,hr⟩:=hp;unfold Bl at hd;split at hd
   ·rename_i ds l2 hd1 hd2;simp at hd;subst hd;obtain⟨q1,q2⟩:=hq (i,ds) mg;simp only at q1 q2;have g:=oK h hx (hv _ (bD ..));have hf:(fK st.tm y).flat:=by
     cases hav:fK st.tm y with
     |AB ps=>rw[hav]at hd1;simp[AV.cells,L6]at hd1;rw[hd1]at q2;simp at q2;omega
     |one x=>trivial
     |agg xs=>trivial
    have gc:=Nl g hf;obtain⟨hl,hrd⟩:=aav (BS:=BS) h gc hd1 hld.1 (λb hm=>hbs b (by simp only[xk,bG];exact .inl hm));have hvs:(a.eval x).cells.size=sz:=(by simp at hl;rw[hl];exact q2);have hone:∀(j:Nat) (u:Value),(a.eval x).cells.toList[j]? = some u->u.oneCell'=true:=λj u hu=>by have hj:j<(fK st.tm y).cells.length:=(by rw[<- gc.1];exact(aT.1 hu).1);exact(gc.2 j u _ hu (aB hj)).one
    have hi1:(i+1)*sz<=cs.toList.length:=(by simp;rw[hcs];exact aY _ q1);have hmul:(i+1)*sz=i*sz+sz:=(by rw[dL];omega);have hsp:=hg.splice hsz q1 (off:=0) (ys:=ds) (vs:=(a.eval x).cells.toList) aI hi1 (by simpa using hl) hone hrd;have hei:(es.getD i []).length=sz:=hsz _ (by simp[dJ,aB q1]);have hse:Ab.splice (es.getD i []) 0 ds=ds:=(by unfold Ab.splice;rw[A7,lC,List.drop_of_length_le aI,mM]);rw[hse,sG]at hsp;have hfold:=foldl_set (a.eval x).cells (i*sz) cs (by simp at hi1;omega);have hlen2:(es.set i ds).length=es.length:=(by simp);have ih:=aam h hs0 r r' l2 ((a.eval x).cells.zipIdx.foldl (λcs (p:Value×Nat)=>cs.setIfInBounds (i*sz+p.2) p.1) cs) (es.set i ds) hr (by rw[hlen2];exact hd2) hld.2 (λb hm=>hbs b (by simp only[xk,bG];exact .inr hm))
     (λp hp=>by rw[hlen2];exact hq p (by simp[hp])) (λp hp=>hv p (by simp[hp])) (by rw[hfold];exact hsp)
     (λx hx=>(qg hx).elim (hsz x) (λh1=>by rw[h1];exact q2)) (by have:(cs.toList).length=cs.size:=(by simp);rw[<- nN,hfold,length_splice _ _ _ (by simp at hi1⊢;omega),hlen2];simpa using hcs)
    obtain⟨cs',h1,h2,h3,h4,h5⟩:=ih;rw[hlen2]at h4 h5;refine⟨cs',?_,h2,h3,h4,h5⟩;simp only[bU,uT];rw[au (by simp at hi1⊢;omega)];exact h1
   ·cases hd
theorem aao {o:Oper}{l sz m:Nat}{zs:List Cell}{ps:List (Nat×pU)}{l':List (Nat×List Cell)}(h:GX E I ρ n st a w)(hc:Kt P n o.op sz m zs ps=true)(hv:∀p,p∈ps->(p.2.ev st.tm).g=true)
 (hm:E.m<=l) (hl:Ew (st.bx l)) (hd:Bl (fK st.tm) st.bx m sz ps=some l') (hq:∀p,p∈l'->p.1<m/\p.2.length=sz) (hld:CZ (fK st.tm) st.bx ps) :
 xq P E n o a w ((st.H8 (xk (fK st.tm) ps)).Ap l (.dat sz (Qo (bY m zs) l'))) (.one (.own l m sz)):=by
 have h':=h.freeze (xk (fK st.tm) ps);have hl':Ew ((st.H8 (xk (fK st.tm) ps)).bx l):=by rw[Cj,BZ hl];split<;>trivial
 generalize hJ:Eg I ρ w st.bx (xk (fK st.tm) ps)=J at h';unfold Kt at hc;split at hc
 ·rename_i t len ps' he;simp only[ah,aZ,aF]at hc;obtain⟨⟨⟨⟨⟨rfl,hs⟩,hs0⟩,hbig⟩,hp⟩,ht⟩:=hc;split at ht
  ·rename_i e hte;split at ht
   ·rename_i i hi;simp only[ah,aZ]at ht;obtain⟨rfl,hz⟩:=ht;split at hz
    ·rename_i z hzero;generalize hz0:(if len*i.size=0 then(#[]:Array Value)else z.cells)=z0;generalize hcs0:(wz (len*i.size)).map (z0[· % z0.size]!)=cs0;have hdc:DC J cs0.toList i.size (bY len zs)/\cs0.size=len*i.size:=by
      refine⟨?_,by rw[<- hcs0];simp⟩;by_cases h0:len*i.size=0
      ·have hlen0:len=0:=by
        rcases Nat.mul_eq_zero.1 h0 with h1|h1
        ·exact h1
        ·omega
       subst hlen0;refine⟨λj u hu=>?_,λi' j c hc=>?_⟩
       ·rw[<- hcs0]at hu;simp at hu
       ·simp[dJ]at hc
      ·rw[au h0]at hz0;subst hz0;have rc:=Td (I:=J) (N:=len*i.size) (m:=len) hz hs hs0 (aC _) (cs:=cs0) hcs0.symm;exact⟨λj u hu=>rc.1 j u (by simpa using hu),λi' j c hc=>by obtain⟨u,hu,hr⟩:=rc.2 i' j c hc;exact⟨u,by simpa using hu,hr⟩⟩
     obtain⟨cs',h1,h2,h3,h4,h5⟩:=aam (BS:=xk (fK st.tm) ps) h hs0 ps'.toList ps l' cs0 (bY len zs) hp (by simpa using hd) hld (λb hb=>hb) (by simpa using hq) hv (by rw[hJ];exact hdc.1) (λx hx=>by rw[vY hx,hs]) (by simpa using hdc.2);rw[hJ]at h2;simp only[Df]at h4 h5;have g:=Oi h' (BZ hl') hm cs' e len i.size (Qo (bY len zs) l') h4 aI (by simp only[maxLen];have:=Nat.le_mul_of_pos_right len hs0;omega) h3
      (λj u hu=>h2.one j u (by simpa using hu)) (λi' j c hc=>by obtain⟨u,hu,hr⟩:=h2.rd i' j c hc;exact⟨u,by simpa using hu,hr⟩)
     refine⟨_,_,J,_,.inl ?_,g,λ_=>⟨w.heap.size,len,_,_,Ren.pz _ _ _ _,rfl,aC _,aC _,λ_=>rfl⟩⟩;have hps:(ps'.map λ(i,x)=>(i,a.eval x)).toList=ps'.toList.map λp=>(p.1,a.eval p.2):=(by simp);have hsz:(sizeOf e).run P w = .ok i.size w:=(by simp[sizeOf,typeInfo,hi]);have hzr:(zeroValue e).run P w = .ok z w:=(by simp[zeroValue,typeInfo,hi,hzero]);simp only[execOp,he,Instr.buildSlice,dN,run_underlying hte,bT,hsz];rw[au aI];by_cases h0:len*i.size=0
     ·rw[aA h0]at hz0⊢;subst hz0;simp only[dN,dA,bT,hcs0,hps,h1,newRow,run_newObj];rfl
     ·rw[au h0]at hz0⊢;subst hz0;simp only[dN,hzr,dA,bT,hcs0,hps,h1,newRow,run_newObj];rfl
    ·cases hz
   ·cases ht
  ·cases ht
 ·cases hc
theorem LD (w:World)(k:Nat)(cs:Array Value):DW w (w.setRow k cs) (λk'=>k'=k):=
 ⟨rfl,rfl,rfl,mg,λk' _ hne=>setRow_other w k k' cs hne⟩
theorem Aq (cs:Array Value)(off:Nat)(vs:List Value):(cs.toList.take (off+0)++vs++cs.toList.drop (off+0+vs.length)).toArray=(Ab.splice cs.toList off vs).toArray:=by unfold Ab.splice;simp
def Vo (P:Program)(n:Nat)(op:Op)(agg:Bool)(k:Nat)(p x:pU):Bool:=match op with|.store t p' x'=>lJ n p' p&&lJ n x' x&&MG P t agg k&&(agg||k==1)|_=>false
theorem Q3 {t:TypeId}{agg:Bool}{k kk off:Nat}(ht:MG P t agg k=true){v:Value}(hk:v.cells.size=k){cur:Array Value}{e:TypeId}(hw:w.heap[kk]? = some (.cells cur e (0,0)))
 (hfit:off+k<=cur.size) (h1:∀(j:Nat) (u:Value),v.cells.toList[j]? = some u->u.oneCell'=true) :
 (BN t (.pointer (some ⟨kk,off,none⟩)) v).run P w = .ok () (w.setRow kk (Ab.splice cur.toList off v.cells.toList).toArray):=by
 have hst:=run_storeCells_at P kk off e v.cells.toList 0 cur w hw (by simp;omega) (λu hu=>by obtain⟨j,hj⟩:=vW hu;exact h1 j u hj)
 rw[Aq]at hst;obtain⟨_,hs⟩:=IK ht w;simp only[BN,kY,dN,dA,bT,storeVar,hs];rw[au aI];exact hst
theorem akN {v:Value}{x:AV}(h:GV I ρ v x)(hf:x.flat):∀(j:Nat) (u:Value),v.cells.toList[j]? = some u->u.oneCell'=true:=λj u hu=>by
 have gc:=Nl h hf;have hj:j<x.cells.length:=by rw[<- gc.1];exact(aT.1 hu).1
 exact(gc.2 j u _ hu (aB hj)).one
theorem adV {o:Oper}{agg:Bool}{k:Nat}{p x:pU}(h:GX E I ρ n st a w)(hc:Vo P n o.op agg k p x=true)(hd:o.dst=none)(hp:(p.ev st.tm).g=true)(hx:(x.ev st.tm).g=true)
 (kF:(Be agg k (fK st.tm p) (fK st.tm x) st.bx).vc):xR P E n o a w (st.vJ (Be agg k (fK st.tm p) (fK st.tm x) st.bx).sets) (Be agg k (fK st.tm p) (fK st.tm x) st.bx).v:=by
 unfold Vo at hc;split at hc
 ·rename_i t p' x' he;simp only[ah]at hc;obtain⟨⟨⟨c1,c2⟩,ht⟩,_⟩:=hc;have g1:=oK h c1 hp;have g2:=oK h c2 hx;have hf:(fK st.tm x).flat:=by
   cases hav:fK st.tm x with
   |one _=>trivial
   |agg _=>trivial
   |AB ps=>rw[hav]at kF;exact kF.elim
  have gc:=Nl g2 hf;have h1:=akN g2 hf;have key:∀{J:IH} {st':gY} (h':GX E J ρ n st' a w) {b kk cap off:Nat} {cur:Array Value} {e:TypeId} {y:Box},a.eval p' = .pointer (some ⟨kk,off,none⟩)->(st'.bx b).uses (ρ b) kk->w.heap[kk]? = some (.cells cur e (0,0))->(fK st.tm x).cells.length=k->off+k<=cur.size ->
   (∀k',y.uses (ρ b) k'->k'=kk)->yE J ρ (w.setRow kk (Ab.splice cur.toList off (a.eval x').cells.toList).toArray) b y->ρ b=some (kk,cap)->xR P E n o a w (st'.vJ [(b,y)]) (.one .Ns):=by
   intro J st' h' b kk cap off cur e y hpv hu hw hk hfit huy hok hr;have hkv:(a.eval x').cells.size=k:=(by have:=gc.1;simp at this;omega);have hrun:=Q3 (P:=P) (w:=w) ht hkv hw hfit h1;refine⟨undef,w.setRow kk (Ab.splice cur.toList off (a.eval x').cells.toList).toArray,J,ρ,.inr ⟨by simp only[execOp,he,hpv,dN,hrun,bT,dA],hd⟩,?_,λhn=>eF hd hn,{ quiet:=λe=>(by rw[he]at e;cases e),store:=λt1 p1 x1 he1=>(by rw[he]at he1;cases he1;exact⟨kk,off,cur,e,hpv,hw,aI,rfl⟩) }⟩;exact h'.Ap hu y huy (LD _ _ _) hok mg
  unfold Be at kF⊢;split at kF
  ·exact kF.elim
  ·exact kF.elim
  ·exact kF.elim
  ·split at kF
   ·rename_i b off e1;rw[e1]at g1;obtain⟨kk,cap,hr,hv⟩:=g1;split at kF
    ·rename_i xs hb;obtain⟨hk,hfit⟩:=kF;have hok:=h.bx.ok b;rw[hb]at hok;obtain⟨kk',cap',cs,hr',hw,hs,hcs⟩:=hok;rw[hr]at hr';simp only[aH,dF]at hr';obtain⟨rfl,rfl⟩:=hr';refine key h hv (by rw[hb];exact⟨cap,hr⟩) hw hk aI (λk' hk'=>?_) ?_ hr
     ·obtain⟨c,hc⟩:=hk';rw[hr]at hc;simp at hc;exact hc.1.symm
     ·have hsp:=NZ.splice (vs:=cs.toList) (xs:=xs) ⟨by simpa using hs,λj v y hv hy=>hcs j v y (by simpa using hv) hy⟩ gc off aI;refine⟨kk,cap,_,hr,setRow_heap w kk cs _ cap _ hw,?_,λj u y hu hy=>hsp.2 j u y (by simpa using hu) hy⟩;have:=hsp.1;simpa using this
    ·exact kF.elim
   ·rename_i b i sz off e1;rw[e1]at g1;obtain⟨kk,cap,hr,hv⟩:=g1;split at kF
    ·rename_i sz' es cs' hb hds;obtain⟨rfl,hk,hi,hfit,hlo,hnb⟩:=kF;obtain⟨hl,hrd⟩:=aav (BS:=qH (fK st.tm x).cells) h gc hds hlo (λb hm=>hm);have h':=h.freeze (qH (fK st.tm x).cells);have hb':(st.H8 (qH (fK st.tm x).cells)).bx b = .dat sz' es:=(by rw[Cj,au (λhm=>by rw[List.contains_iff_mem.2 hm]at hnb;cases hnb),hb]);rw[Ws];generalize hJ:Eg I ρ w st.bx (qH (fK st.tm x).cells)=J at h' hrd;have hok:=h'.bx.ok b;rw[hb']at hok;obtain⟨kk',cap',hr',hle,hcm,hsz,hcs⟩:=hok;rw[hr]at hr';simp only[aH,dF]at hr';obtain⟨rfl,rfl⟩:=hr';have hc0:cap≠0:=(by omega);obtain⟨cs,e,hw,hs,ho,apQ⟩:=hcs hc0;have hi1:(i+1)*sz'<=cs.size:=(by rw[hs];exact aY _ aI);have hmul:(i+1)*sz'=i*sz'+sz':=(by rw[dL];omega);have hei:(es.getD i []).length=sz':=hsz _ (by simp[dJ,aB hi]);have hck:(fK st.tm x).cells.length=k:=(by rw[<- gc.1,hl];exact hk);have hdc:DC J cs.toList sz' es:=⟨λj u hu=>ho j u (by simpa using hu),λi j c hc=>by obtain⟨u,hu,hr⟩:=apQ i j c hc;exact⟨u,by simpa using hu,hr⟩⟩;have hsp:=hdc.splice hsz hi (off:=off) (ys:=cs') (vs:=(a.eval x').cells.toList) aI (by simpa using hi1) hl h1 hrd;refine key h' hv (by rw[hb'];exact⟨cap,hr,hc0⟩) hw hck aI (λk' hk'=>?_) ?_ hr
     ·obtain⟨c,hc,_⟩:=hk';rw[hr]at hc;simp at hc;exact hc.1.symm
     ·refine⟨kk,cap,hr,by simpa using hle,hcm,λy hy=>?_,λ_=>⟨_,e,setRow_heap w kk cs _ e _ hw,?_,λj u hu=>hsp.one j u (by simpa using hu),λi j c hc=>by obtain⟨u,hu,hr⟩:=hsp.rd i j c hc;exact⟨u,by simpa using hu,hr⟩⟩⟩
      ·rcases qg hy with h1|h1
       ·exact hsz y h1
       ·rw[h1,length_splice _ _ _ aI];exact hei
      ·have:(a.eval x').cells.toList.length=k:=(by rw[hl];exact hk);simp only[o6];rw[length_splice _ _ _ (by rw[this,nN];omega)];simpa using hs
    ·exact kF.elim
   ·exact kF.elim
 ·cases hc
end
end
section
section
variable {P:Program} {E:Env P} {I:IH} {ρ:Ren} {n:Nat} {st:gY} {a:Act} {w:World}
theorem GX.kill (h:GX E I ρ n st a w)(b:Nat):GX E I ρ n (st.Ap b .dead) a w:=by
 refine{ h with bx:=?_,own:=?_,agree:=h.agree,tm:=h.tm,size:=h.size,defers:=h.defers }
 ·refine BX.step (λc=>c=b) h.bx (IH.le_refl I) (Ren.le_refl ρ) (λc hc=>⟨by simp[gY.tu,hc],rfl⟩) (λc k _ _=>rfl) ?_ ?_ ?_ (λc k _ hu=>h.bx.fresh c k hu)
  ·rintro c rfl;simp[gY.tu,yE]
  ·rintro c k rfl hu;simp[gY.tu,Box.uses]at hu
  ·rintro c c' k rfl rfl _ _;rfl
 ·intro c k hu;simp only[gY.tu]at hu;by_cases e:c=b
  ·rw[aA e]at hu;exact hu.elim
  ·rw[au e]at hu;exact h.own c k hu
theorem GX.move (h:GX E I ρ n st a w){w':World}{b l kk cap sz sz':Nat}{es es':List (List Cell)}(hb:st.bx b = .dat sz es)(hr:ρ b=some (kk,cap))(hl:st.bx l = .absent)(hm:E.m<=l)
 (hF:DW w w' (λk=>k=kk)) (hsz:w'.heap.size=w.heap.size) (h0:cap=0->w'=w) (hx:yE I (ρ.set l kk cap) w' l (.dat sz' es')):GX E I (ρ.set l kk cap) n ((st.Ap b .dead).Ap l (.dat sz' es')) a w':=by
 have hrl:ρ l=none:=by have:=h.bx.ok l;rwa[hl]at this
 have hbl:b≠l:=by rintro rfl;rw[hl]at hb;cases hb
 have hle:=Ren.Pq (ρ:=ρ) (k:=kk) (cap:=cap) hrl;have hk:∀k',k'≠kk->w'.heap[k']? = w.heap[k']?:= λk' hne=>by
  by_cases hlt:k'<w.heap.size
  ·exact hF.block k' hlt hne
  ·rw[xe aI,xe aI]
 have hub:cap≠0->(st.bx b).uses (ρ b) kk:=λhc=>by rw[hb];exact⟨cap,hr,hc⟩
 have hk2:∀k',(∀hc:cap≠0,k'≠kk)->w'.heap[k']? = w.heap[k']?:= λk' hne=>by
  by_cases hc:cap=0
  ·rw[h0 hc]
  ·exact hk k' (hne hc)
 refine{ agree:=h.agree.other λk' c hc=>hk2 k' λhc0 e=>?_,bx:=?_,tm:=λt ht=>(h.tm t ht).mono (IH.le_refl _) hle,size:=h.size,defers:=h.defers,DT:=?_,own:=?_,Nq:=h.Nq,I7:=h.I7,zU:=?_ }
 ·subst e;have:=h.bx.fresh b k' (hub hc0);rw[this]at hc;cases hc
 ·refine BX.step (λc=>c=b\/c=l) h.bx (IH.le_refl I) hle ?_ ?_ ?_ ?_ ?_ ?_
  ·intro c hc;have h1:¬c=b:=λe=>hc (.inl e);have h2:¬c=l:=λe=>hc (.inr e);exact⟨by simp[gY.tu,h1,h2],Ren.yl h2⟩
  ·intro c k' hc hu;refine hk2 k' λhc0 e=>hc (.inl ?_);subst e;exact h.bx.inj c b k' hu (hub hc0)
  ·rintro c (rfl|rfl)
   ·simp[gY.tu,hbl,yE]
   ·simpa[gY.tu]using hx
  ·rintro c k' (rfl|rfl) hu
   ·simp[gY.tu,hbl,Box.uses]at hu
   ·simp only[gY.tu,jY,Box.uses,Ren.pz]at hu;obtain⟨c',hc',hc0⟩:=hu;simp only[aH,dF]at hc';obtain⟨rfl,rfl⟩:=hc';exact⟨λb' hb' hu'=>hb' (.inl (h.bx.inj b' b kk hu' (hub hc0))),h.bx.fresh b kk (hub hc0)⟩
  ·rintro c c' k' (rfl|rfl) (rfl|rfl) hu hu'
   ·rfl
   ·simp[gY.tu,hbl,Box.uses]at hu
   ·simp[gY.tu,hbl,Box.uses]at hu'
   ·rfl
  ·intro c k' hc hu;exact h.bx.fresh c k' hu
 ·by_cases hc:cap=0
  ·rw[h0 hc];exact h.DT
  ·refine h.DT.trans hF λk' hlt e=>?_;subst e;rcases h.own b k' (hub hc)with h1|h1
   ·omega
   ·exact h1
 ·intro c k' hu;simp only[gY.tu]at hu;by_cases e:c=l
  ·subst e;simp only[jY,Box.uses,Ren.pz]at hu;obtain⟨c',hc',hc0⟩:=hu;simp only[aH,dF]at hc';obtain⟨rfl,rfl⟩:=hc';exact h.own b kk (hub hc0)
  ·rw[au e,Ren.yl e]at hu;by_cases e2:c=b
   ·rw[aA e2]at hu;exact hu.elim
   ·rw[au e2]at hu;exact h.own c k' hu
 ·intro c hc;rw[Ren.yl aI];exact h.zU c hc
theorem NT {v:Value}{sz:Nat}{es:List (List Cell)}(h:Src I w v sz es)(h0:0<sz):∃(b:Option Addr) (cap:Nat) (us:List Value),v = .slice b es.length cap/\us.length=es.length*sz /\
 (∀ad,b=some ad->∀(j:Nat) (u:Value),us[j]? = some u->w.cell? (ad.add j)=some u)/\(b=none->es=[])/\DC I us sz es:=by
 obtain⟨b,cap,hv,_,hsz,hb,hc⟩:=h;cases b with
 | none=>
   have:es=[]:=by
    cases es with
    |nil=>rfl
    |cons e r=>exact eF rfl (hb mg)
   subst this;exact⟨none,cap,[],hv,mg,(λad h=>by cases h),(λ_=>rfl),⟨mg,mg⟩⟩
 | some ad=>
   have key:∀j,j<es.length*sz->∃u,w.cell? (ad.add j)=some u/\∃c,(es.getD (j/sz) [])[j%sz]? = some c/\Rd I u c:=by intro j hj;have hi:j/sz<es.length:=(by rw[Nat.div_lt_iff_lt_mul h0];exact hj);have hl:(es.getD (j/sz) []).length=sz:=hsz _ (by simp[dJ,aB hi]);have hm:j%sz<sz:=xh _ h0;obtain⟨u,hu,hr⟩:=hc ad rfl (j/sz) (j%sz) _ (aB aI);have e:j/sz*sz+j%sz=j:=(by rw[wY];exact Nat.div_add_mod j sz);rw[e]at hu;exact⟨u,hu,_,aB aI,hr⟩
   refine⟨some ad,cap,(List.range (es.length*sz)).map λj=>(w.cell? (ad.add j)).getD undef,hv,mg,?_,mg,?_⟩
   ·intro ad' had j u hu;simp at had;subst had;rw[dG]at hu;by_cases hj:j<es.length*sz
    ·rw[yf hj]at hu;obtain⟨u',hu',_⟩:=key j hj;simp[hu']at hu;rw[<- hu];exact hu'
    ·rw[kV (by simpa using hj)]at hu;cases hu
   ·refine⟨λj u hu=>?_,λi j c hcc=>?_⟩
    ·rw[dG]at hu;by_cases hj:j<es.length*sz
     ·rw[yf hj]at hu;obtain⟨u',hu',c,_,hr⟩:=key j hj;simp[hu']at hu;rw[<- hu];exact hr.one
     ·rw[kV (by simpa using hj)]at hu;cases hu
    ·have hi:=mY hcc;have hl:(es.getD i []).length=sz:=hsz _ (by simp[dJ,aB hi]);have hj:j<sz:=(by rw[<- hl];exact(aT.1 hcc).1);obtain⟨u,hu,hr⟩:=hc ad rfl i j c hcc;have hlt:i*sz+j<es.length*sz:=by
      have:(i+1)*sz<=es.length*sz:=aY _ hi;rw[dL]at this;omega
     exact⟨u,by rw[dG,yf hlt];simp[hu],hr⟩
theorem DC.append {us vs:List Value}{sz:Nat}{es ys:List (List Cell)}(h:DC I us sz es)(k:DC I vs sz ys)(hl:us.length=es.length*sz):DC I (us++vs) sz (es++ys):=by
 refine⟨λj u hu=>?_,λi j c hc=>?_⟩
 ·by_cases hj:j<us.length
  ·rw[cu hj]at hu;exact h.one j u hu
  ·rw[dU aI]at hu;exact k.one _ u hu
 ·by_cases hi:i<es.length
  ·have e:(es++ys).getD i []=es.getD i []:=(by simp[dJ,cu hi]);rw[e]at hc;obtain⟨u,hu,hr⟩:=h.rd i j c hc;exact⟨u,by rw[cu (aT.1 hu).1];exact hu,hr⟩
  ·have e:(es++ys).getD i []=ys.getD (i-es.length) []:=(by simp[dJ,dU (BQ hi)]);rw[e]at hc;obtain⟨u,hu,hr⟩:=k.rd _ j c hc;have hmul:es.length*sz<=i*sz:=aY _ aI;have hsub:(i-es.length)*sz=i*sz-es.length*sz:=Nat.sub_mul _ _ _;exact⟨u,by rw[dU aI,hl,<- hu];congr 1;omega,hr⟩
theorem DC.more {us vs:List Value}{sz:Nat}{es:List (List Cell)}(h:DC I us sz es)(hv:∀(j:Nat) (u:Value),vs[j]? = some u->u.oneCell'=true):DC I (us++vs) sz es:=by
 refine⟨λj u hu=>?_,λi j c hc=>?_⟩
 ·by_cases hj:j<us.length
  ·rw[cu hj]at hu;exact h.one j u hu
  ·rw[dU aI]at hu;exact hv _ u hu
 ·obtain⟨u,hu,hr⟩:=h.rd i j c hc;exact⟨u,by rw[cu (aT.1 hu).1];exact hu,hr⟩
theorem DC.ae4 {us:List Value}{sz:Nat}{es:List (List Cell)}{cs:Array Value}(h:DC I us sz es)(e:cs.toList=us) :
 (∀(j:Nat) (u:Value),cs[j]? = some u->u.oneCell'=true)/\∀(i j:Nat) (c:Cell),(es.getD i [])[j]? = some c->∃u,cs[i*sz+j]? = some u/\Rd I u c:=by
 subst e;exact⟨λj u hu=>h.one j u (by simpa using hu),λi j c hc=>by obtain⟨u,hu,hr⟩:=h.rd i j c hc;exact⟨u,by simpa using hu,hr⟩⟩
def Fh (P:Program)(n:Nat)(op:Op)(sz bytes:Nat)(s x:pU):Bool:=
 match op with
 | .call { callee:=.builtin .append,args:=⟨[s',x']⟩,argTypes:=⟨[t,t']⟩ }=>lJ n s' s&&lJ n x' x&&t==t'&&decide (0<sz)&&(match P.underlying t with
   |some (.slice e)=>(match P.info? e with|some i=>i.size==sz&&i.bytes==bytes&&(match i.zero with|some z=>z.cells.size==sz&&z.cells.toList.all (·.oneCell')|none=>false)|none=>false)
   |_=>false)
 |_=>false
theorem run_append_room' (t ty e tg:TypeId)(i:TypeInfo)(ht:P.underlying t=some (.slice e))(hi:P.info? e=some i)
 (g sLen sCap:Nat) (cur:Array Value) (hg:w.heap[g]? = some (.cells cur tg (0,0)))
 (ad:Addr) (m c:Nat) (news:List Value) (hl:news.length=m*i.size) (hnews:∀j u,news[j]? = some u->w.cell? (ad.add j)=some u) (h1:∀u∈news,u.oneCell'=true)
 (hroom:sLen+m<=sCap) (hfit:sLen*i.size+news.length<=cur.size) :
 (iM #[t,t] ty #[.slice (some ⟨g,0,none⟩) sLen sCap,.slice (some ad) m c]).run P w =
  .ok (.slice (some ⟨g,0,none⟩) (sLen+m) sCap) (w.setRow g (cur.toList.take (sLen*i.size)++news++cur.toList.drop (sLen*i.size+news.length)).toArray):=by
 have hf:=run_firstCells_some (P:=P) w i.size m ad m c news hl hnews;have hst:=run_storeCells_at P g (sLen*i.size) tg news 0 cur w hg (by simpa using hfit) h1;simp only[sG]at hst;simp[iM,run_underlying ht,sizeOf,typeInfo,hi,rY,hroom,hf,Go.Addr.add_lit,hst]
theorem Hu (t ty e:TypeId)(i:TypeInfo)(ht:P.underlying t=some (.slice e))(hi:P.info? e=some i)(b:Option Addr)(sLen sCap:Nat)(hs:sLen<=sCap)(ad:Option Addr)(c:Nat) :
 (iM #[t,t] ty #[.slice b sLen sCap,.slice ad 0 c]).run P w = .ok (.slice b sLen sCap) w:=by
 have hf:(jb i.size 0 (.slice ad 0 c)).run P w = .ok #[] w:=by cases ad<;>simp[jb,loadCells,loadCellsFrom,dA]
 cases b<;>simp[iM,run_underlying ht,sizeOf,typeInfo,hi,rY,hs,hf,storeCells]
theorem TF (h:GX E I ρ n st a w){l sz bytes:Nat}{sv xv:Value}{es ys:List (List Cell)}{b:Option Nat}(t ty e:TypeId)(i:TypeInfo)(z:Value)(ht:P.underlying t=some (.slice e))(hi:P.info? e=some i)(hsz:i.size=sz)
 (hby:i.bytes=bytes) (hz:i.zero=some z) (hzs:z.cells.size=sz) (hz1:z.cells.toList.all (·.oneCell')=true) (h0:0<sz) (hl:st.bx l = .absent) (hm:E.m<=l)
 (hb:(b=none/\es=[]/\sv = .slice none 0 0)\/∃b',b=some b'/\st.bx b' = .dat sz es/\GC I ρ sv (.own b' es.length sz)) (hx:Src I w xv sz ys) (hbig:(es.length+ys.length)*(bytes+sz+1)<=2^46) :
 ∃v w' ρ',(iM #[t,t] ty #[sv,xv]).run P w = .ok v w'/\GX E I ρ' n ((match b with|some b'=>st.Ap b' .dead|none=>st).Ap l (.dat sz (es++ys))) a w'/\GC I ρ' v (.own l (es.length+ys.length) sz):=by
 subst hsz;subst hby;have hmul:(es.length+ys.length)*(i.bytes+i.size+1)=(es.length+ys.length)*i.bytes+(es.length+ys.length)*i.size+(es.length+ys.length):=by rw[AU,AU,xA]
 have hbytes:(es.length+ys.length)*i.bytes<=140737488355328:=by omega
 have h63:es.length+ys.length<=maxLen:=by simp only[maxLen];omega
 obtain⟨xb,xc,us,hxv,Me,hus,hxn,hdx⟩:=NT hx h0;have hys:∀y,y∈ys->y.length=i.size:=by obtain⟨_,_,_,_,h4,_⟩:=hx;exact h4
 have hone:∀u∈us,u.oneCell'=true:=λu hu=>by obtain⟨j,hj⟩:=vW hu;exact hdx.one j u hj
 have hzc:∀(q:Nat) (j:Nat) (u:Value),(di z.cells q).toList[j]? = some u->u.oneCell'=true:=by
  intro q j u hu;simp only[di,xw,qp]at hu;by_cases hj:j<q*z.cells.size
  ·rw[qK,aA hj]at hu;simp only[kL,aH]at hu;have hlt:j%z.cells.size<z.cells.size:=xh _ aI;rw[getElem!_pos z.cells _ hlt]at hu;rw[<- hu];exact bf.1 hz1 _ mg
  ·rw[qK,au hj]at hu;cases hu
 have fresh:∀(st':gY) (old:Nat) (olds:List Value),GX E I ρ n st' a w->st'.bx l = .absent->old<es.length+ys.length->olds.length=es.length*i.size->DC I olds i.size es->(∀y,y∈es->y.length=i.size) ->
  GX E I (ρ.set l w.heap.size (grownCap w (es.length+ys.length) old e)) n (st'.Ap l (.dat i.size (es++ys))) a
   (w.drew.alloc (.cells (olds.toArray++us.toArray++di z.cells (grownCap w (es.length+ys.length) old e-(es.length+ys.length))) e)):=by
  intro st' old olds hst hl' ho hol hdo hes;have hge:=grownCap_ge w (es.length+ys.length) old e;have hcm:grownCap w (es.length+ys.length) old e<=maxLen:=grownCap_le_maxLen w _ old e h63;have hdc:=((hdo.append hdx hol).more (hzc (grownCap w (es.length+ys.length) old e-(es.length+ys.length)))).ae4 (cs:=olds.toArray++us.toArray++di z.cells (grownCap w (es.length+ys.length) old e-(es.length+ys.length))) mg;refine Oi hst.drew hl' hm _ e _ i.size (es++ys) ?_ (by simpa using hge) hcm (λx hx=>?_) hdc.1 hdc.2
  ·simp only[yX,o6,size_zeroCells,hzs,hol,Me,<- dL]
   congr 1
   omega
  ·rcases bG.1 hx with h1|h1
   ·exact hes x h1
   ·exact hys x h1
 rcases hb with⟨rfl,rfl,rfl⟩|⟨b',rfl,hb',hg⟩
 ·
  simp only[iT,fV,lC]at *;by_cases hm0:ys.length=0
  ·have hy0:ys=[]:=gQ hm0;subst hy0;refine⟨.slice none 0 0,w,ρ.set l 0 0,?_,?_,0,0,none,0,Ren.pz _ _ _ _,rfl,aC _,aC _,λh=>eF rfl h⟩
   ·rw[hxv];exact Hu t ty e i ht hi none 0 0 (aC _) xb xc
   ·have hrl:ρ l=none:=(by have:=h.bx.ok l;rwa[hl]at this);have hle:=Ren.Pq (ρ:=ρ) (k:=0) (cap:=0) hrl;refine{ agree:=h.agree,bx:=?_,tm:=λt ht=>(h.tm t ht).mono (IH.le_refl _) hle,size:=h.size,defers:=h.defers,DT:=h.DT,own:=?_,Nq:=h.Nq,I7:=h.I7,zU:=λc hc=>by rw[Ren.yl aI];exact h.zU c hc }
    ·refine BX.step (λc=>c=l) h.bx (IH.le_refl I) hle (λc hc=>⟨by simp[gY.tu,hc],Ren.yl hc⟩) (λc k _ _=>rfl) ?_ ?_ ?_ (λc k _ hu=>h.bx.fresh c k hu)
     ·rintro c rfl;simp only[gY.tu,jY];exact⟨0,0,Ren.pz _ _ _ _,mg,by simp[maxLen],mg,λh=>eF rfl h⟩
     ·rintro c k rfl hu;simp only[gY.tu,jY,Box.uses,Ren.pz]at hu;obtain⟨c',hc',hc0⟩:=hu;simp only[aH,dF]at hc';exact eF hc'.2.symm hc0
     ·rintro c c' k rfl rfl _ _;rfl
    ·intro c k hu;simp only[gY.tu]at hu;by_cases e':c=l
     ·subst e';simp only[jY,Box.uses,Ren.pz]at hu;obtain⟨c',hc',hc0⟩:=hu;simp only[aH,dF]at hc';exact eF hc'.2.symm hc0
     ·rw[au e',Ren.yl e']at hu;exact h.own c k hu
  ·obtain⟨ad,had⟩:∃ad,xb=some ad:=by
    cases hq:xb with
    |none=>exact eF (by rw[hxn hq];rfl) hm0
    |some ad=>exact⟨ad,rfl⟩
   subst had;have hr:=run_append_nil (P:=P) w t ty e i z ht hi hz ad ys.length xc us Me (hus ad rfl) aI (by simp only[maxLen]at h63;omega) aI;rw[<- hxv]at hr;have hf:=fresh st 0 [] h hl aI mg ⟨mg,mg⟩ mg;simp only[uU]at hf;exact⟨_,_,_,hr,hf,w.heap.size,_,_,_,Ren.pz _ _ _ _,rfl,grownCap_ge w ys.length 0 e,aC _,λ_=>rfl⟩
 ·obtain⟨kk,cap,ad0,c,hr0,hsv,hnc,hcc,hcap⟩:=hg;have hbl:b'≠l:=by rintro rfl;rw[hl]at hb';cases hb'
  have hok:=h.bx.ok b';rw[hb']at hok;obtain⟨kk',cap',hr',hle,hcm,hes,hcs⟩:=hok;rw[hr0]at hr';simp only[aH,dF]at hr';obtain⟨rfl,rfl⟩:=hr';simp only;by_cases hm0:ys.length=0
  ·have hy0:ys=[]:=gQ hm0;subst hy0;simp only[iT,sG,mM]at *;refine⟨sv,w,ρ.set l kk cap,?_,?_,kk,cap,ad0,c,Ren.pz _ _ _ _,hsv,hnc,hcc,hcap⟩
   ·rw[hxv,hsv];exact Hu t ty e i ht hi ad0 _ c hnc xb xc
   ·refine h.move hb' hr0 hl hm (DW.refl _ _) rfl (λ_=>rfl) ⟨kk,cap,Ren.pz _ _ _ _,hle,hcm,hes,hcs⟩
  ·obtain⟨ad,had⟩:∃ad,xb=some ad:=by
    cases hq:xb with
    |none=>exact eF (by rw[hxn hq];rfl) hm0
    |some ad=>exact⟨ad,rfl⟩
   subst had;by_cases hroom:es.length+ys.length<=c
   ·have hc0:cap≠0:=(by omega);have Pn:=hcap hc0;subst Pn;obtain⟨cs,tg,hw,hs,ho,hrd⟩:=hcs hc0;have hfit:es.length*i.size+us.length<=cs.size:=(by rw[hs,Me,<- dL];exact aY _ aI);have hr:=run_append_room' (P:=P) (w:=w) (ty:=ty) t e tg i ht hi kk es.length c cs hw ad ys.length xc us Me (hus ad rfl) hone hroom hfit;rw[<- hxv,<- hsv]at hr;refine⟨_,_,ρ.set l kk cap,hr,?_,kk,cap,_,c,Ren.pz _ _ _ _,rfl,hroom,hcc,λ_=>rfl⟩;refine h.move hb' hr0 hl hm (LD _ _ _) mg (λh=>eF h hc0) ⟨kk,cap,Ren.pz _ _ _ _,by simp;omega,hcm,λx hx=>?_,λ_=>⟨_,tg,setRow_heap w kk cs _ tg _ hw,?_,?_⟩⟩
    ·rcases bG.1 hx with h1|h1
     ·exact hes x h1
     ·exact hys x h1
    ·simp only[o6,bZ,iK,List.length_drop,nN];omega
    ·have hd1:DC I (cs.toList.take (es.length*i.size)) i.size es:=by
      refine⟨λj u hu=>?_,λi' j c' hc'=>?_⟩
      ·rw[dK]at hu;split at hu
       ·exact ho j u (by simpa using hu)
       ·cases hu
      ·obtain⟨u,hu,hr⟩:=hrd i' j c' hc';have hi':=mY hc';have hj:j<i.size:=(by rw[<- hes (es.getD i' []) (by simp[dJ,aB hi'])];exact(aT.1 hc').1);have:(i'+1)*i.size<=es.length*i.size:=aY _ hi';rw[dL]at this;exact⟨u,by rw[dK,aA aI];simpa using hu,hr⟩
     have hlen:(cs.toList.take (es.length*i.size)).length=es.length*i.size:=(by simp;omega);have:=((hd1.append hdx hlen).more (vs:=cs.toList.drop (es.length*i.size+us.length)) (λj u hu=>by rw[gW]at hu;exact ho _ u (by simpa using hu))).ae4 (cs:=(cs.toList.take (es.length*i.size)++us++cs.toList.drop (es.length*i.size+us.length)).toArray) mg;exact this
   ·
    have hfit:=growslice_fits (need:=es.length+ys.length) (old:=c) (bytes:=i.bytes) aI hbytes;have hk:=h.kill b';have hkl:(st.Ap b' .dead).bx l = .absent:=(by rw[gY.tu,au (λe=>hbl e.symm)];exact hl);by_cases hc0:cap=0
    ·
     have he0:es=[]:=gQ aI;subst he0;have hcz:c=0:=(by omega);subst hcz;simp only[iT,fV,lC]at *;have hf:=fresh (st.Ap b' .dead) 0 [] hk hkl aI mg ⟨mg,mg⟩ mg;simp only[uU]at hf;cases ad0 with
     | none=>have hr:=run_append_nil (P:=P) w t ty e i z ht hi hz ad ys.length xc us Me (hus ad rfl) aI (by simp only[maxLen]at h63;omega) aI;rw[<- hxv,<- hsv]at hr;exact⟨_,_,_,hr,hf,w.heap.size,_,_,_,Ren.pz _ _ _ _,rfl,grownCap_ge w ys.length 0 e,aC _,λ_=>rfl⟩
     | some q=>have hr:=run_append_grow (P:=P) w t ty e i z ht hi hz q 0 0 [] mg mg ad ys.length xc us Me (hus ad rfl) aI (by simp only[maxLen]at h63;omega) (by simpa using hfit);rw[<- hxv,<- hsv]at hr;simp only[fV,uU]at hr;exact⟨_,_,_,hr,hf,w.heap.size,_,_,_,Ren.pz _ _ _ _,rfl,grownCap_ge w ys.length 0 e,aC _,λ_=>rfl⟩
    ·have Pn:=hcap hc0;subst Pn;obtain⟨cs,tg,hw,hs,ho,hrd⟩:=hcs hc0;have hmn:es.length*i.size<=cs.size:=(by rw[hs];exact aY _ hle);have aaP:(cs.toList.take (es.length*i.size)).length=es.length*i.size:=(by simp;omega);have holds:∀(j:Nat) (u:Value),(cs.toList.take (es.length*i.size))[j]? = some u->w.cell? ((⟨kk,0,none⟩:Addr).add j)=some u:=λj u hu=>by
      rw[dK]at hu;split at hu
      ·rw[Addr.uw];simp at hu;simp[iy,hw,hu]
      ·cases hu
     have hd1:DC I (cs.toList.take (es.length*i.size)) i.size es:=by
      refine⟨λj u hu=>?_,λi' j c' hc'=>?_⟩
      ·rw[dK]at hu;split at hu
       ·exact ho j u (by simpa using hu)
       ·cases hu
      ·obtain⟨u,hu,hr⟩:=hrd i' j c' hc';have hi':=mY hc';have hj:j<i.size:=(by rw[<- hes (es.getD i' []) (by simp[dJ,aB hi'])];exact(aT.1 hc').1);have:(i'+1)*i.size<=es.length*i.size:=aY _ hi';rw[dL]at this;exact⟨u,by rw[dK,aA aI];simpa using hu,hr⟩
     have hr:=run_append_grow (P:=P) w t ty e i z ht hi hz ⟨kk,0,none⟩ es.length c _ aaP holds ad ys.length xc us Me (hus ad rfl) aI (by simp only[maxLen]at h63;omega) hfit;rw[<- hxv,<- hsv]at hr;have hf:=fresh (st.Ap b' .dead) c _ hk hkl aI aaP hd1 hes;exact⟨_,_,_,hr,hf,w.heap.size,_,_,_,Ren.pz _ _ _ _,rfl,grownCap_ge w _ c e,aC _,λ_=>rfl⟩
end
end
section
section
variable {P:Program} {E:Env P} {I:IH} {ρ:Ren} {n:Nat} {st:gY} {a:Act} {w:World}
def UE (l sz bytes:Nat) (s x:AV) (bx:Nat->Box):FR:=match zB sz x bx with
    | some (p,ys)=>match s with
      |.one (.nS _)=>⟨p/\(match bx l with|.absent=>True|_=>False)/\ys.length*(bytes+sz+1)<=2^46,.one (.own l ys.length sz),[(l,.dat sz ys)]⟩
      | .one (.own b n sz')=>match bx b with
        |.dat DV es=>⟨p/\(match bx l with|.absent=>True|_=>False)/\sz'=sz/\DV=sz/\n<=es.length/\(n+ys.length)*(bytes+sz+1)<=2^46/\b≠l,
         .one (.own l (n+ys.length) sz),[(b,.dead),(l,.dat sz (es.take n++ys))]⟩
        |_=>.bad
      |_=>.bad
    |none=>.bad
theorem J6 {x:Box}(h:match x with|.absent=>True|_=>False):x = .absent:=by cases x<;>first|rfl|exact h.elim
theorem GX.pfx (h:GX E I ρ n st a w){b sz m:Nat}{es:List (List Cell)}(hb:st.bx b = .dat sz es):GX E I ρ n (st.Ap b (.dat sz (es.take m))) a w:=by
 have hu:∀c k,((st.Ap b (.dat sz (es.take m))).bx c).uses (ρ c) k->(st.bx c).uses (ρ c) k:=λc k hu=>by
  rw[gY.tu]at hu;split at hu
  ·rename_i e;subst e;rw[hb];exact hu
  ·exact hu
 refine{ h with bx:=⟨λc=>?_,λc c' k hc hc'=>h.bx.inj c c' k (hu c k hc) (hu c' k hc'),λc k hc=>h.bx.fresh c k (hu c k hc)⟩,own:=λc k hc=>h.own c k (hu c k hc),agree:=h.agree,tm:=h.tm,size:=h.size,defers:=h.defers,DT:=h.DT };rw[gY.tu];split
 ·rename_i e;subst e;have hok:=h.bx.ok c;rw[hb]at hok;obtain⟨k,cap,hr,h1,h2,h3,h4⟩:=hok;refine⟨k,cap,hr,by simp;omega,h2,λe he=>h3 e (gI he),λh0=>?_⟩;obtain⟨cs,e,g1,g2,g3,g4⟩:=h4 h0;refine⟨cs,e,g1,g2,g3,λi j c' hc'=>g4 i j c' ?_⟩;have hi:=mY hc';simp at hi;rw[<- hc']
  congr 1
  simp only[dJ];rw[dK,aA aI]
 ·exact h.bx.ok c
theorem aae {o:Oper}{l sz bytes:Nat}{s x:pU}(h:GX E I ρ n st a w)(hc:Fh P n o.op sz bytes s x=true)(hm:E.m<=l)(hs:(s.ev st.tm).g=true)(hx:(x.ev st.tm).g=true)
 (kF:(UE l sz bytes (fK st.tm s) (fK st.tm x) st.bx).vc):xq P E n o a w (st.vJ (UE l sz bytes (fK st.tm s) (fK st.tm x) st.bx).sets) (UE l sz bytes (fK st.tm s) (fK st.tm x) st.bx).v:=by
 unfold Fh at hc;split at hc
 ·rename_i s' x' t t' he;simp only[ah,aZ,aF]at hc;obtain⟨⟨⟨⟨c1,c2⟩,rfl⟩,h0⟩,ht⟩:=hc;have g1:=oK h c1 hs;have g2:=oK h c2 hx;split at ht
  ·rename_i e hte;split at ht
   ·rename_i i hi;simp only[ah,aZ]at ht;obtain⟨⟨rfl,rfl⟩,hz⟩:=ht;split at hz
    ·rename_i z hzero;simp only[ah,aZ]at hz;obtain⟨hzs,hz1⟩:=hz;have fin:∀{v:Value} {w':World},(iM #[t,t] o.type #[a.eval s',a.eval x']).run P w = .ok v w'->(execOp a.eval o).run P w = .ok (.value v) w':=by
      intro v w' hr;simp only[execOp,he,resolve,invoke,builtin,dN,dA,bT,lU,bU,jP,hr]
     unfold UE at kF⊢;split at kF
     ·rename_i p ys hsrc;split at kF
      ·rename_i sz' e1;obtain⟨hp,hl,hbig⟩:=kF;rw[e1]at g1;obtain⟨v,w',ρ',hr,hg,hv⟩:=TF (P:=P) h (l:=l) (es:=[]) (ys:=ys) (b:=none) t o.type e i z hte hi rfl rfl hzero hzs hz1 h0 (J6 hl) hm (.inl ⟨rfl,rfl,g1⟩) (src_ok h g2 hsrc hp) (by simpa using hbig);simp only[lC,iT,fV]at hg hv;exact⟨v,w',I,ρ',.inl (fin hr),hg,λ_=>hv⟩
      ·rename_i b m sz' e1;rw[e1]at g1;split at kF
       ·rename_i DV es hb;obtain⟨hp,hl,rfl,rfl,hmn,hbig,hbl⟩:=kF;have hlt:(es.take m).length=m:=(by simp;omega);have h':=h.pfx (m:=m) hb;have hl':(st.Ap b (.dat i.size (es.take m))).bx l = .absent:=(by rw[gY.tu,au (λe=>hbl e.symm)];exact J6 hl);obtain⟨v,w',ρ',hr,hg,hv⟩:=TF (P:=P) h' (l:=l) (es:=es.take m) (ys:=ys) (b:=some b) t o.type e i z hte hi rfl rfl hzero hzs hz1 h0 hl' hm (.inr ⟨b,rfl,by rw[gY.tu,aA rfl],by rw[hlt];exact g1⟩) (src_ok h g2 hsrc hp) (by rw[hlt];exact hbig);rw[hlt]at hv;have hst:(((st.Ap b (.dat i.size (es.take m))).Ap b .dead).Ap l (.dat i.size (es.take m++ys)))=((st.Ap b .dead).Ap l (.dat i.size (es.take m++ys))):=by
         apply gY.ext'
         ·rfl
         ·funext c;simp only[gY.tu];split
          ·rfl
          ·split<;>rfl
        simp only[hst]at hg;exact⟨v,w',I,ρ',.inl (fin hr),hg,λ_=>hv⟩
       ·exact kF.elim
      ·exact kF.elim
     ·exact kF.elim
    ·cases hz
   ·cases ht
  ·cases ht
 ·cases hc
def copyV (sz:Nat) (d x:AV) (bx:Nat->Box):FR:=match zB sz x bx with
    | some (p,ys)=>match d with
      | .one (.own b n sz')=>match bx b with
        |.dat DV es=>⟨p/\sz'=sz/\DV=sz/\n<=es.length,yH .i64 (gu ys.length n:Nat),[(b,.dat sz (splice es 0 (ys.take n)))]⟩
        |_=>.bad
      |.one (.nS _)=>.ok (yH .i64 0)
      |_=>.bad
    |none=>.bad
def Js (P:Program)(n:Nat)(op:Op)(sz:Nat)(d x:pU):Bool:=
 match op with
 |.call { callee:=.builtin .copy,args:=⟨[d',x']⟩,argTypes:=⟨[t,_]⟩ }=>lJ n d' d&&lJ n x' x&&Nc P t sz&&decide (0<sz)
 |_=>false
theorem ajr (t t' ty e:TypeId)(i:TypeInfo)(ht:P.underlying t=some (.slice e))(hi:P.info? e=some i)(kk m c:Nat)(cur:Array Value)(tg:TypeId)(hg:w.heap[kk]? = some (.cells cur tg (0,0)))
 (ad:Addr) (k c':Nat) (us:List Value) (hl:us.length=gu k m*i.size) (hus:∀j u,us[j]? = some u->w.cell? (ad.add j)=some u) (h1:∀u∈us,u.oneCell'=true) (hfit:us.length<=cur.size) :
 (ni #[t,t'] ty #[.slice (some ⟨kk,0,none⟩) m c,.slice (some ad) k c']).run P w = .ok (goInt (gu k m:Nat)) (w.setRow kk (splice cur.toList 0 us).toArray):=by
 have hf:=run_firstCells_some (P:=P) w i.size (gu k m) ad k c' us hl hus;have hst:=run_storeCells_at P kk 0 tg us 0 cur w hg (by simpa using hfit) h1;rw[Aq]at hst;simp[ni,run_underlying ht,sizeOf,typeInfo,hi,rY,hf,hst]
theorem JQ (t t' ty e:TypeId)(i:TypeInfo)(ht:P.underlying t=some (.slice e))(hi:P.info? e=some i)(b:Option Addr)(m c:Nat)(ad:Option Addr)(k c':Nat)(h:gu k m=0) :
 (ni #[t,t'] ty #[.slice b m c,.slice ad k c']).run P w = .ok (goInt 0) w:=by
 have hf:(jb i.size 0 (.slice ad k c')).run P w = .ok #[] w:=by cases ad<;>simp[jb,loadCells,loadCellsFrom,dA]
 cases b<;>simp[ni,run_underlying ht,sizeOf,typeInfo,hi,rY,h,hf,storeCells]
theorem adS {α:Type}(xs:List α):splice xs 0 []=xs:=by simp[splice]
theorem Oq {b:Nat}{x:Box}(h:st.bx b=x):st.Ap b x=st:=by
 apply gY.ext'
 ·rfl
 ·funext c;rw[gY.tu];split
  ·rename_i e;rw[e,h]
  ·rfl
theorem afL {o:Oper}{sz:Nat}{d x:pU}(h:GX E I ρ n st a w)(hc:Js P n o.op sz d x=true)(hd:(d.ev st.tm).g=true)(hx:(x.ev st.tm).g=true)
 (kF:(copyV sz (fK st.tm d) (fK st.tm x) st.bx).vc):xq P E n o a w (st.vJ (copyV sz (fK st.tm d) (fK st.tm x) st.bx).sets) (copyV sz (fK st.tm d) (fK st.tm x) st.bx).v:=by
 unfold Js at hc;split at hc
 ·rename_i d' x' t t' he;simp only[ah,aF]at hc;obtain⟨⟨⟨c1,c2⟩,ht⟩,h0⟩:=hc;have g1:=oK h c1 hd;have g2:=oK h c2 hx;obtain⟨e,i,hte,hi,rfl⟩:=DY ht;have fin:∀{v:Value} {w':World},(ni #[t,t'] o.type #[a.eval d',a.eval x']).run P w = .ok v w'->(execOp a.eval o).run P w = .ok (.value v) w':=by
   intro v w' hr;simp only[execOp,he,resolve,invoke,builtin,dN,dA,bT,lU,bU,jP,hr]
  unfold copyV at kF⊢;split at kF
  ·rename_i p ys hsrc;split at kF
   ·rename_i b m sz' e1;rw[e1]at g1;split at kF
    ·rename_i DV es hb;obtain⟨hp,rfl,rfl,hmn⟩:=kF;have hsrc':=src_ok h g2 hsrc hp;have hys:∀y,y∈ys->y.length=i.size:=(by obtain⟨_,_,_,_,h4,_⟩:=hsrc';exact h4);obtain⟨xb,xc,us,hxv,Me,hus,hxn,hdx⟩:=NT hsrc' h0;obtain⟨kk,cap,ad0,c,hr0,hsv,hnc,hcc,hcap⟩:=g1;have hok:=h.bx.ok b;rw[hb]at hok;obtain⟨kk',cap',hr',hle,hcm,hes,hcs⟩:=hok;rw[hr0]at hr';simp only[aH,dF]at hr';obtain⟨rfl,rfl⟩:=hr';by_cases hm0:gu ys.length m=0
     ·have hr:=JQ (P:=P) (w:=w) t t' o.type e i hte hi ad0 m c xb ys.length xc hm0;rw[<- hxv,<- hsv]at hr;have htk:ys.take m=[]:=by
       apply gQ;rw[iK,Eo];exact hm0
      rw[htk,adS];refine⟨_,w,I,ρ,.inl (fin hr),?_,λ_=>by rw[hm0];exact Cm _ _⟩;show GX E I ρ n (st.Ap b (.dat i.size es)) a w;rw[Oq hb];exact h
     ·have hmin:gu ys.length m<=ys.length/\gu ys.length m<=m:=⟨Nat.min_le_left _ _,Nat.min_le_right _ _⟩;have hc0:cap≠0:=(by omega);have Pn:=hcap hc0;subst Pn;obtain⟨ad,had⟩:∃ad,xb=some ad:=by
       cases hq:xb with
       |none=>have:=hxn hq;subst this;exact eF rfl hm0
       |some ad=>exact⟨ad,rfl⟩
      subst had;obtain⟨cs,tg,hw,hs,ho,hrd⟩:=hcs hc0;have hmul:gu ys.length m*i.size<=ys.length*i.size:=aY _ hmin.1;have Qq:gu ys.length m*i.size<=cap*i.size:=aY _ aI;have hul:(us.take (gu ys.length m*i.size)).length=gu ys.length m*i.size:=(by simp;omega);have aik:0+(us.take (gu ys.length m*i.size)).length<=cs.toList.length:=(by have hq:cs.toList.length=cs.size:=nN;omega);have hr:=ajr (P:=P) (w:=w) t t' o.type e i hte hi kk m c cs tg hw ad ys.length xc (us.take (gu ys.length m*i.size)) hul
       (λj u hu=>by
        rw[dK]at hu;split at hu
        ·exact hus ad rfl j u hu
        ·cases hu)
       (λu hu=>by obtain⟨j,hj⟩:=vW (gI hu);exact hdx.one j u hj) (by rw[hul];omega)
      rw[<- hxv,<- hsv]at hr;refine⟨_,_,I,ρ,.inl (fin hr),?_,λ_=>Cm _ _⟩;have htl:(ys.take m).length=gu ys.length m:=(by rw[iK,Eo]);refine h.Ap (b:=b) (k:=kk) (by rw[hb];exact⟨cap,hr0,hc0⟩) (.dat i.size (splice es 0 (ys.take m))) (λk' hk'=>?_) (LD _ _ _) ?_ mg
      ·obtain⟨c',hc',_⟩:=hk';rw[hr0]at hc';simp at hc';exact hc'.1.symm
      ·have hsl:(splice es 0 (ys.take m)).length=es.length:=length_splice _ _ _ (by rw[htl];omega);refine⟨kk,cap,hr0,by rw[hsl];exact hle,hcm,λy hy=>?_,λ_=>⟨_,tg,setRow_heap w kk cs _ tg _ hw,?_,?_,?_⟩⟩
       ·unfold splice at hy;simp only[A7,lC,bG]at hy;rcases hy with h1|h1
        ·exact hys y (gI h1)
        ·exact hes y (lu h1)
       ·simp only[o6];rw[length_splice _ _ _ aik];simpa using hs
       ·intro j u hu;have hu:(splice cs.toList 0 (us.take (gu ys.length m*i.size)))[j]? = some u:=(by simpa using hu);rw[ru _ _ _ _ aik,au aI]at hu;split at hu
        ·rw[dK]at hu;split at hu
         ·exact hdx.one _ u hu
         ·cases hu
        ·exact ho j u (by simpa using hu)
       ·intro i' j cc Hg;have key:∃u,(splice cs.toList 0 (us.take (gu ys.length m*i.size)))[i'*i.size+j]? = some u/\Rd I u cc:=by
         have hi':=mY Hg;rw[hsl]at hi';rw[ru _ _ _ _ aik,au aI,hul];have hget:(splice es 0 (ys.take m)).getD i' []=if i'<gu ys.length m then ys.getD i' []else es.getD i' []:=by
          simp only[dJ];rw[ru _ _ _ _ (by rw[htl];omega),au aI,htl];by_cases hh:i'<gu ys.length m
          ·rw[aA aI,aA hh,dK,aA aI];rfl
          ·rw[au aI,au hh]
         rw[hget]at Hg;by_cases hh:i'<gu ys.length m
         ·rw[aA hh]at Hg;obtain⟨u,hu,hr⟩:=hdx.rd i' j cc Hg;have hj:j<i.size:=by
           have hyi:=mY Hg;rw[<- hys (ys.getD i' []) (by simp[dJ,aB hyi])];exact(aT.1 Hg).1
          have:(i'+1)*i.size<=gu ys.length m*i.size:=aY _ hh;rw[dL]at this;exact⟨u,by rw[aA aI,dK,aA aI];simpa using hu,hr⟩
         ·rw[au hh]at Hg;obtain⟨u,hu,hr⟩:=hrd i' j cc Hg;have:gu ys.length m*i.size<=i'*i.size:=aY _ aI;exact⟨u,by rw[au aI];simpa using hu,hr⟩
        obtain⟨u,hu,hr⟩:=key;exact⟨u,by simpa using hu,hr⟩
    ·exact kF.elim
   ·rename_i sz' e1;rw[e1]at g1;have g1:a.eval d' = .slice none 0 0:=g1;have hgx:∃xb k xc,a.eval x' = .slice xb k xc:=by
     unfold zB at hsrc;split at hsrc
     ·rename_i e2;rw[e2]at g2;obtain⟨b,c,hv,_⟩:=alR g2;exact⟨b,_,c,hv⟩
     ·rename_i e2;rw[e2]at g2;exact⟨none,0,0,g2⟩
     ·rename_i e2;rw[e2]at g2;obtain⟨k,cap,b,c,_,hv,_⟩:=g2;exact⟨b,_,c,hv⟩
     ·rename_i e2;rw[e2]at g2;obtain⟨k,cap,b,c,_,hv,_⟩:=g2;exact⟨b,_,c,hv⟩
     ·cases hsrc
    obtain⟨xb,k,xc,hxv⟩:=hgx;have hr:=JQ (P:=P) (w:=w) t t' o.type e i hte hi none 0 0 xb k xc (Nat.min_zero k);rw[<- hxv,<- g1]at hr;exact⟨_,w,I,ρ,.inl (fin hr),h,λ_=>Cm _ _⟩
   ·exact kF.elim
  ·exact kF.elim
 ·cases hc
end
end
section
section
variable {P:Program} {E:Env P} {I:IH} {ρ:Ren} {n:Nat} {st:gY} {a:Act} {w:World}
theorem Np {v:Value}{x:AV}{b lo m sz:Nat}{c:Option Nat}(h:GV I ρ v x)(hs:FU x=some (b,lo,m,c,sz)) :
 ∃k cap ad c',ρ b=some (k,cap)/\v = .slice ad m c'/\m<=c'/\lo+c'<=cap/\(∀c0,c=some c0->c'=c0)/\(c'≠0\/(lo=0/\cap≠0)->ad=some ⟨k,lo*sz,none⟩):=by
 unfold FU at hs;split at hs
 ·simp only[aH,dF]at hs;obtain⟨rfl,rfl,rfl,rfl,rfl⟩:=hs;obtain⟨k,cap,ad,c',h1,h2,h3,h4,h5⟩:=h;refine⟨k,cap,ad,c',h1,h2,h3,aI,(λ_ e=>by cases e),λhc=>?_⟩;rw[Nat.zero_mul];refine h5 ?_;rcases hc with hc|hc
  ·omega
  ·exact hc.2
 ·simp only[aH,dF]at hs;obtain⟨rfl,rfl,rfl,rfl,rfl⟩:=hs;exact h
 ·cases hs
def acK (n:Nat)(op:Op)(l:Bool)(x y:pU):Bool:=match op with|.binOp b _ x' y' _=>(match b with|.shl=>l|.shr=> !l|_=>false)&&lJ n x' x&&lJ n y' y|_=>false
theorem aju {o:Oper}{l:Bool}{x y:pU}(h:GX E I ρ n st a w)(hc:acK n o.op l x y=true)(hx:(x.ev st.tm).g=true)(hy:(y.ev st.tm).g=true)
 (kF:(ZB l (fK st.tm x) (fK st.tm y)).vc):xR P E n o a w st (ZB l (fK st.tm x) (fK st.tm y)).v:=by
 unfold acK at hc;split at hc
 ·rename_i b t x' y' t' he;simp only[ah]at hc;obtain⟨⟨hb,h1⟩,h2⟩:=hc;have g1:=oK h h1 hx;have g2:=oK h h2 hy;unfold ZB at kF⊢;split at kF
  ·rename_i k p k' q e1 e2;rw[e1]at g1;rw[e2]at g2;have v1:=zT g1;have v2:=zT g2;have hq:¬q<0:=(by simp only at kF;omega);have hg:=EN (P:=P) b t x' y' k p (.int k' q) w;cases b<;>simp only[qw]at hb
   ·subst hb;exact xq.val h (v:=.int k (k.wrap (p*2^(min q.toNat k.bits)))) (by simp[execOp,he,hg,v1,v2,binOp,Op.shift,hq]) (Cm _ _)
   ·cases l
    ·exact xq.val h (v:=.int k (p.fdiv (2^(min q.toNat k.bits)))) (by simp[execOp,he,hg,v1,v2,binOp,Op.shift,hq]) (Cm _ _)
    ·cases hb
  ·exact kF.elim
 ·cases hc
def YC (P:Program)(n:Nat)(op:Op)(x:pU):Bool:=
 match op with
 |.call { callee:=.builtin .cap,args:=⟨[x']⟩,argTypes:=⟨[t]⟩ }=>lJ n x' x&&Qz P t
 |_=>false
theorem afG {o:Oper}{x:pU}(h:GX E I ρ n st a w)(hc:YC P n o.op x=true)(hx:(x.ev st.tm).g=true)(kF:(Xb (fK st.tm x)).vc):xR P E n o a w st (Xb (fK st.tm x)).v:=by
 unfold YC at hc;split at hc
 ·rename_i x' t he;simp only[ah]at hc;have g:=oK h hc.1 hx;obtain⟨e,ht⟩:=OQ hc.2;unfold Xb at kF⊢;split at kF
  ·rename_i b lo m c sz e1;rw[e1]at g;obtain⟨k,cap,ad,c',hr,hv,hm,hcc,hcx,ha⟩:=g;have:=hcx c rfl;subst this;exact xq.val h (by simp[execOp,he,resolve,invoke,builtin,Builtin.cap_,run_underlying ht,hv,goInt]) (Cm _ _)
  ·rename_i sz e1;rw[e1]at g;have g:a.eval x' = .slice none 0 0:=g;exact xq.val h (by simp[execOp,he,resolve,invoke,builtin,Builtin.cap_,run_underlying ht,g,goInt]) (Cm _ _)
  ·exact kF.elim
 ·cases hc
def RJ (P:Program)(n:Nat)(op:Op)(sz:Nat)(x:pU)(lo hi:Option pU):Bool:=match op with|.slice t x' lo' hi' none=>lJ n x' x&&RG n lo' lo&&RG n hi' hi&&Nc P t sz|_=>false
theorem abH {o:Oper}{sz:Nat}{x:pU}{lo hi:Option pU}(h:GX E I ρ n st a w)(hc:RJ P n o.op sz x lo hi=true)(hx:(x.ev st.tm).g=true)
 (hgl:∀x,x∈lo.toList->(x.ev st.tm).g=true) (hgh:∀x,x∈hi.toList->(x.ev st.tm).g=true)
 (kF:(Bq sz (fK st.tm x) (bnd (fK st.tm) lo 0) (bnd (fK st.tm) hi)).vc):xR P E n o a w st (Bq sz (fK st.tm x) (bnd (fK st.tm) lo 0) (bnd (fK st.tm) hi)).v:=by
 unfold RJ at hc;split at hc
 ·rename_i t x' lo' hi' he;simp only[ah]at hc;have g1:=oK h hc.1.1.1 hx;obtain⟨e,ti,ht,hti,hsz⟩:=DY hc.2;unfold Bq at kF⊢;split at kF
  ·rename_i b l m c sz' hsb;split at kF
   ·rename_i p q e2 e3;obtain⟨rfl,h0,h1,h2⟩:=kF;obtain⟨k,cap,ad,c',hr,hv,hm,hcc,hcx,ha⟩:=Np g1 hsb;have hqc:q<=c':=by
     cases c with
     |none=>simp only at h2;omega
     |some c0=>have:=hcx c0 rfl;simp only at h2;omega
    have b1:=J8 h hc.1.1.2 hgl e2;have b2:=J8 h hc.1.2 hgh e3;have hb:=EO (P:=P) (w:=w) true m c' (lo'.map a.eval) (hi'.map a.eval) (p:=p) (q:=q) (N9 b1) (N9 b2) h0 h1 hqc;have hrun:(execOp a.eval o).run P w = .ok (.value (.slice (if c'=p.toNat then ad else ad.map (·.add (p.toNat*sz'))) (q.toNat-p.toNat) (c'-p.toNat))) w:=by simp only[execOp,he,zD,DF,hv,lQ];simp[run_underlying ht];rw[hb];simp[sizeOf,typeInfo,hti,hsz]
    refine xq.val h hrun ⟨k,cap,_,_,hr,by congr 1;omega,aI,aI,λc0 hc0=>?_,λHg=>?_⟩
    ·cases c with
     |none=>cases hc0
     |some c1=>have:=hcx c1 rfl;simp at hc0;omega
    ·by_cases hcp:c'=p.toNat
     ·rw[aA hcp];have hl0:l=0/\p.toNat=0/\cap≠0:=(by omega);have:=ha (.inr ⟨hl0.1,hl0.2.2⟩);rw[this,hl0.1,hl0.2.1]
     ·rw[au hcp,ha (.inl aI)];simp only[kL];rw[Addr.uw,dL]
   ·exact kF.elim
  ·exact kF.elim
 ·cases hc
theorem abA (len cap:Nat){k1 k2 k3:IntKind}{p q m:Int}(h0:0<=p)(h1:p<=q)(h2:q<=m)(h3:m<=cap) :
 (Ae true len cap (some (.int k1 p)) (some (.int k2 q)) (some (.int k3 m))).run P w = .ok (p.toNat,q.toNat,m.toNat) w:=by
 simp (disch:=omega) [Ae,run_sliceBound]
def acL (P:Program)(n:Nat)(op:Op)(sz:Nat)(x p q m:pU):Bool:=match op with|.slice t x' (some p') (some q') (some m')=>lJ n x' x&&lJ n p' p&&lJ n q' q&&lJ n m' m&&Nc P t sz|_=>false
theorem ajv {o:Oper}{sz:Nat}{x p q m:pU}(h:GX E I ρ n st a w)(hc:acL P n o.op sz x p q m=true)(hx:(x.ev st.tm).g=true)(hp:(p.ev st.tm).g=true)(hq:(q.ev st.tm).g=true)(hm:(m.ev st.tm).g=true)
 (kF:(NP sz (fK st.tm x) (fK st.tm p) (fK st.tm q) (fK st.tm m)).vc):xR P E n o a w st (NP sz (fK st.tm x) (fK st.tm p) (fK st.tm q) (fK st.tm m)).v:=by
 unfold acL at hc;split at hc
 ·rename_i t x' p' q' m' he;simp only[ah]at hc;obtain⟨⟨⟨⟨c1,c2⟩,c3⟩,c4⟩,c5⟩:=hc;have g1:=oK h c1 hx;have g2:=oK h c2 hp;have g3:=oK h c3 hq;have g4:=oK h c4 hm;obtain⟨e,ti,ht,hti,hsz⟩:=DY c5;unfold NP at kF⊢;split at kF
  ·rename_i b l len c sz' k1 p0 k2 q0 k3 m0 hsb e2 e3 e4;obtain⟨rfl,h0,h1,h2,h3⟩:=kF;rw[e2]at g2;rw[e3]at g3;rw[e4]at g4;have v2:=zT g2;have v3:=zT g3;have v4:=zT g4;obtain⟨k,cap,ad,c',hr,hv,hlm,hcc,hcx,ha⟩:=Np g1 hsb;have hmc:m0<=c':=by
    cases c with
    |none=>simp only at h3;omega
    |some c0=>have:=hcx c0 rfl;simp only at h3;omega
   have hb:=abA (P:=P) (w:=w) len c' (k1:=k1) (k2:=k2) (k3:=k3) h0 h1 h2 hmc;refine xq.val h (v:=.slice (if m0.toNat=p0.toNat then ad else ad.map (·.add (p0.toNat*sz'))) (q0.toNat-p0.toNat) (m0.toNat-p0.toNat)) ?_ rfl;simp only[execOp,he,zD,DF,hv,kL,v2,v3,v4];simp[run_underlying ht];rw[hb];simp[sizeOf,typeInfo,hti,hsz]
  ·exact kF.elim
 ·cases hc
theorem RY {α:Type}(xs ys:List α)(off j:Nat)(h:off<=xs.length):(splice xs off ys)[j]? = if j<off then xs[j]? else if j<off+ys.length then ys[j-off]? else xs[j]?:=by
 unfold splice;have h1:(xs.take off).length=off:=by simp;omega
 by_cases hj:j<off
 ·rw[aA hj,jh,cu aI,dK,aA hj]
 ·rw[au hj,jh,dU aI,h1];by_cases hk:j<off+ys.length
  ·rw[aA hk,cu aI]
  ·rw[au hk,dU aI,gW]
   congr 1;omega
theorem Zw (h:GX E I ρ n st a w){b kk cap sz lo:Nat}{es ys:List (List Cell)}{us:List Value}(hb:st.bx b = .dat sz es)(hr:ρ b=some (kk,cap))(h0:0<sz)(hlo:lo<=es.length)(hfit:lo+ys.length<=cap)
 (hc0:cap≠0) (hys:∀y,y∈ys->y.length=sz) (hul:us.length=ys.length*sz) (hd:DC I us sz ys) :
 ∃cs tg,w.heap[kk]? = some (.cells cs tg (0,0))/\cs.size=cap*sz/\GX E I ρ n (st.Ap b (.dat sz (splice es lo ys))) a (w.setRow kk (splice cs.toList (lo*sz) us).toArray):=by
 have hok:=h.bx.ok b;rw[hb]at hok;obtain⟨kk',cap',hr',hle,hcm,hes,hcs⟩:=hok;rw[hr]at hr';simp only[aH,dF]at hr';obtain⟨rfl,rfl⟩:=hr';obtain⟨cs,tg,hw,hs,ho,hrd⟩:=hcs hc0;refine⟨cs,tg,hw,hs,?_⟩;have hmul:(lo+ys.length)*sz<=cap*sz:=aY _ hfit;rw[dL]at hmul;have ail:lo*sz+us.length<=cs.toList.length:=by have hq:cs.toList.length=cs.size:=nN;omega
 have hlen:(splice es lo ys).length<=cap:=by unfold splice;simp;omega
 refine h.Ap (b:=b) (k:=kk) (by rw[hb];exact⟨cap,hr,hc0⟩) (.dat sz (splice es lo ys)) (λk' hk'=>?_) (LD _ _ _) ?_ mg
 ·obtain⟨c',hc',_⟩:=hk';rw[hr]at hc';simp at hc';exact hc'.1.symm
 ·refine⟨kk,cap,hr,hlen,hcm,λy hy=>?_,λ_=>⟨_,tg,setRow_heap w kk cs _ tg _ hw,?_,?_,?_⟩⟩
  ·unfold splice at hy;simp only[bG]at hy;rcases hy with(h1|h1)|h1
   ·exact hes y (gI h1)
   ·exact hys y h1
   ·exact hes y (lu h1)
  ·simp only[o6];rw[length_splice _ _ _ ail];simpa using hs
  ·intro j u hu;have hu:(splice cs.toList (lo*sz) us)[j]? = some u:=(by simpa using hu);rw[ru _ _ _ _ ail]at hu;split at hu
   ·exact ho j u (by simpa using hu)
   ·split at hu
    ·exact hd.one _ u hu
    ·exact ho j u (by simpa using hu)
  ·intro i' j cc Hg;have key:∃u,(splice cs.toList (lo*sz) us)[i'*sz+j]? = some u/\Rd I u cc:=by
    have hget:(splice es lo ys).getD i' []=if i'<lo then es.getD i' []else if i'<lo+ys.length then ys.getD (i'-lo) []else es.getD i' []:=by
     simp only[dJ];rw[RY _ _ _ _ hlo];split
     ·rfl
     ·split<;>rfl
    rw[hget]at Hg;rw[ru _ _ _ _ ail];by_cases h1:i'<lo
    ·rw[aA h1]at Hg;obtain⟨u,hu,hr'⟩:=hrd i' j cc Hg;have hi':=mY Hg;have hj:j<sz:=(by rw[<- hes (es.getD i' []) (by simp[dJ,aB hi'])];exact(aT.1 Hg).1);have:(i'+1)*sz<=lo*sz:=aY _ h1;rw[dL]at this;exact⟨u,by rw[aA aI];simpa using hu,hr'⟩
    ·rw[au h1]at Hg;by_cases h2:i'<lo+ys.length
     ·rw[aA h2]at Hg;obtain⟨u,hu,hr'⟩:=hd.rd (i'-lo) j cc Hg;have hyi:=mY Hg;have hj:j<sz:=(by rw[<- hys (ys.getD (i'-lo) []) (by simp[dJ,aB hyi])];exact(aT.1 Hg).1);have e1:lo*sz<=i'*sz:=aY _ aI;have e2:(i'-lo)*sz=i'*sz-lo*sz:=Nat.sub_mul _ _ _;have e3:(i'-lo+1)*sz<=ys.length*sz:=aY _ aI;rw[dL]at e3;exact⟨u,by rw[au aI,aA aI,<- hu];congr 1;omega,hr'⟩
     ·rw[au h2]at Hg;obtain⟨u,hu,hr'⟩:=hrd i' j cc Hg;have e1:(lo+ys.length)*sz<=i'*sz:=aY _ aI;rw[dL]at e1;exact⟨u,by rw[au aI,au aI];simpa using hu,hr'⟩
   obtain⟨u,hu,hr'⟩:=key;exact⟨u,by simpa using hu,hr'⟩
theorem NR {α:Type}(xs:List α)(k:Nat)(h:k<=xs.length):splice xs k []=xs:=by simp[splice]
theorem agH (t t' ty e:TypeId)(i:TypeInfo)(ht:P.underlying t=some (.slice e))(hi:P.info? e=some i)(kk off m c:Nat)(cur:Array Value)(tg:TypeId)(hg:w.heap[kk]? = some (.cells cur tg (0,0)))
 (ad:Addr) (k c':Nat) (us:List Value) (hl:us.length=gu k m*i.size) (hus:∀j u,us[j]? = some u->w.cell? (ad.add j)=some u) (h1:∀u∈us,u.oneCell'=true) (hfit:off+us.length<=cur.size) :
 (ni #[t,t'] ty #[.slice (some ⟨kk,off,none⟩) m c,.slice (some ad) k c']).run P w = .ok (goInt (gu k m:Nat)) (w.setRow kk (splice cur.toList off us).toArray):=by
 have hf:=run_firstCells_some (P:=P) w i.size (gu k m) ad k c' us hl hus;have hst:=run_storeCells_at P kk off tg us 0 cur w hg (by simpa using hfit) h1;rw[Aq]at hst;simp[ni,run_underlying ht,sizeOf,typeInfo,hi,rY,hf,hst]
theorem agW (h:GX E I ρ n st a w){v:Value}{x:AV}{sz m:Nat}{p:Prop}{ys:List (List Cell)}(hv:GV I ρ v x)(hs:zB sz (truncS m x) st.bx=some (p,ys))(hp:p) :
 ∃xb kx xc,v = .slice xb kx xc/\gu ys.length m=gu kx m/\Src I w (.slice xb ys.length xc) sz ys:=by
 have other:truncS m x=x->∃xb kx xc,v = .slice xb kx xc/\gu ys.length m=gu kx m/\Src I w (.slice xb ys.length xc) sz ys:=by intro e;rw[e]at hs;have hS:=src_ok h hv hs hp;obtain⟨b,cap,hvv,hr⟩:=hS;exact⟨b,ys.length,cap,hvv,rfl,b,cap,rfl,hr⟩
 rcases x with c|_|_
 ·cases c
  case sub b lo n' c sz'=>obtain⟨k,cap,ad,c',h1,h2,h3,h4,h5⟩:=hv;subst h2;have hg:GV I ρ (.slice ad (min n' m) c') (.one (.sub b lo (min n' m) c sz')):=⟨k,cap,ad,c',h1,rfl,aI,h4,h5⟩;have hS:=src_ok h hg hs hp;obtain⟨b',cap',hvv,hr⟩:=hS;simp only[Value.slice.injEq]at hvv;obtain⟨rfl,e2,rfl⟩:=hvv;refine⟨ad,n',c',rfl,?_,ad,c',rfl,hr⟩;show min ys.length m=min n' m;omega
  all_goals exact other rfl
 all_goals exact other rfl
theorem agM {o:Oper}{sz:Nat}{d x:pU}(h:GX E I ρ n st a w)(hc:Js P n o.op sz d x=true)(hd:(d.ev st.tm).g=true)(hx:(x.ev st.tm).g=true)
 (kF:(Ic sz (fK st.tm d) (fK st.tm x) st.bx).vc):xq P E n o a w (st.vJ (Ic sz (fK st.tm d) (fK st.tm x) st.bx).sets) (Ic sz (fK st.tm d) (fK st.tm x) st.bx).v:=by
 unfold Js at hc;split at hc
 ·rename_i d' x' t t' he;simp only[ah,aF]at hc;obtain⟨⟨⟨c1,c2⟩,ht⟩,h0⟩:=hc;have g1:=oK h c1 hd;have g2:=oK h c2 hx;obtain⟨e,i,hte,hi,rfl⟩:=DY ht;have fin:∀{v:Value} {w':World},(ni #[t,t'] o.type #[a.eval d',a.eval x']).run P w = .ok v w'->(execOp a.eval o).run P w = .ok (.value v) w':=by
   intro v w' hr;simp only[execOp,he,resolve,invoke,builtin,dN,dA,bT,lU,bU,jP,hr]
  unfold Ic at kF⊢;split at kF
  ·rename_i b lo m c0 sz' hsb;split at kF
   ·rename_i p ys hsrc;split at kF
    ·rename_i DV es hb;obtain⟨hp,rfl,rfl,hlo⟩:=kF;obtain⟨xb0,kx,xc0,aoq,hmk,hsrc'⟩:=agW h g2 hsrc hp;have hys:∀y,y∈ys->y.length=i.size:=(by obtain⟨_,_,_,_,h4,_⟩:=hsrc';exact h4);obtain⟨xb,xc,us,hxv,Me,hus,hxn,hdx⟩:=NT hsrc' h0;cases hxv;obtain⟨kk,cap,ad0,c,hr0,hsv,hnc,hcc,_,hcap⟩:=Np g1 hsb;by_cases hm0:gu ys.length m=0
     ·have hr:=JQ (P:=P) (w:=w) t t' o.type e i hte hi ad0 m c xb0 kx xc0 (hmk.symm.trans hm0);rw[<- aoq,<- hsv]at hr;have htk:ys.take m=[]:=by
       apply gQ;rw[iK,Eo];exact hm0
      rw[htk,NR _ _ hlo];refine⟨_,w,I,ρ,.inl (fin hr),?_,λ_=>by rw[hm0];exact Cm _ _⟩;show GX E I ρ n (st.Ap b (.dat i.size es)) a w;rw[Oq hb];exact h
     ·have hmin:gu ys.length m<=ys.length/\gu ys.length m<=m:=⟨Nat.min_le_left _ _,Nat.min_le_right _ _⟩;have Pn:=hcap (.inl aI);subst Pn;obtain⟨ad,had⟩:∃ad,xb0=some ad:=by
       cases hq:xb0 with
       |none=>have:=hxn hq;subst this;exact eF rfl hm0
       |some ad=>exact⟨ad,rfl⟩
      subst had;have htl:(ys.take m).length=gu ys.length m:=(by rw[iK,Eo]);have hmul:gu ys.length m*i.size<=ys.length*i.size:=aY _ hmin.1;have hul:(us.take (gu ys.length m*i.size)).length=gu ys.length m*i.size:=(by simp;omega);have hdt:DC I (us.take (gu ys.length m*i.size)) i.size (ys.take m):=by
       refine⟨λj u hu=>?_,λi' j cc Hg=>?_⟩
       ·rw[dK]at hu;split at hu
        ·exact hdx.one _ u hu
        ·cases hu
       ·have hi':=mY Hg;rw[htl]at hi';have amE:(ys.getD i' [])[j]? = some cc:=by
         rw[<- Hg];congr 1;simp only[dJ];rw[dK,aA aI]
        obtain⟨u,hu,hr⟩:=hdx.rd i' j cc amE;have hyi:=mY amE;have hj:j<i.size:=(by rw[<- hys (ys.getD i' []) (by simp[dJ,aB hyi])];exact(aT.1 amE).1);have:(i'+1)*i.size<=gu ys.length m*i.size:=aY _ hi';rw[dL]at this;exact⟨u,by rw[dK,aA aI];exact hu,hr⟩
      obtain⟨cs,tg,hw,hs,hg⟩:=Zw h hb hr0 h0 hlo (ys:=ys.take m) (us:=us.take (gu ys.length m*i.size)) (by rw[htl];omega) aI (λy hy=>hys y (gI hy)) (by rw[hul,htl]) hdt;have Qq:(lo+gu ys.length m)*i.size<=cap*i.size:=aY _ aI;rw[dL]at Qq;have hr:=agH (P:=P) (w:=w) t t' o.type e i hte hi kk (lo*i.size) m c cs tg hw ad kx xc0 (us.take (gu ys.length m*i.size)) (hmk▸hul)
       (λj u hu=>by
        rw[dK]at hu;split at hu
        ·exact hus ad rfl j u hu
        ·cases hu)
       (λu hu=>by obtain⟨j,hj⟩:=vW (gI hu);exact hdx.one j u hj) (by rw[hul,hs];exact Qq)
      rw[<- aoq,<- hsv]at hr;exact⟨_,_,I,ρ,.inl (fin hr),hg,λ_=>by rw[<- hmk];exact Cm _ _⟩
    ·exact kF.elim
   ·exact kF.elim
  ·exact kF.elim
 ·cases hc
def Qi (P:Program)(n:Nat)(op:Op)(sz:Nat)(zs:List Cell)(x:pU):Bool:=
 match op with
 | .call { callee:=.builtin .clear,args:=⟨[x']⟩,argTypes:=⟨[t]⟩ }=>lJ n x' x&&decide (0<sz)&&zs.length==sz&&(match P.underlying t with
   |some (.slice e)=>(match P.info? e with|some i=>i.size==sz&&(match i.zero with|some z=>z.cells.size==sz&&LP z.cells.toList zs|none=>false)|none=>false)
   |_=>false)
 |_=>false
theorem TA {zs:List Cell}{z:Array Value}{sz m:Nat}(hz:LP z.toList zs=true)(hzs:z.size=sz)(hl:zs.length=sz)(h0:0<sz) :
 (di z m).toList.length=m*sz/\DC I (di z m).toList sz (bY m zs):=by
 have hsz:(di z m).size=m*sz:=by simp[di,hzs]
 refine⟨by simpa using hsz,?_⟩;have rc:=Td (I:=I) (N:=m*sz) (m:=m) hz hl h0 (aC _) (cs:=(wz (m*sz)).map (z[· % z.size]!)) rfl;have he:(di z m)=(wz (m*sz)).map (z[· % z.size]!):=by unfold di;rw[hzs]
 rw[he];exact⟨λj u hu=>rc.1 j u (by rw[xw]at hu;exact hu),λi' j c hc=>by obtain⟨u,hu,hr⟩:=rc.2 i' j c hc;exact⟨u,by rw[xw];exact hu,hr⟩⟩
theorem agL {o:Oper}{sz:Nat}{zs:List Cell}{x:pU}(h:GX E I ρ n st a w)(hc:Qi P n o.op sz zs x=true)(hx:(x.ev st.tm).g=true)
 (kF:(Ib sz zs (fK st.tm x) st.bx).vc):xq P E n o a w (st.vJ (Ib sz zs (fK st.tm x) st.bx).sets) (Ib sz zs (fK st.tm x) st.bx).v:=by
 unfold Qi at hc;split at hc
 ·rename_i x' t he;simp only[ah,aF,aZ]at hc;obtain⟨⟨⟨c1,h0⟩,hzl⟩,ht⟩:=hc;have g1:=oK h c1 hx;split at ht
  ·rename_i e hte;split at ht
   ·rename_i i hi;simp only[ah,aZ]at ht;obtain⟨hisz,hz⟩:=ht;split at hz
    ·rename_i z hzero;simp only[ah,aZ]at hz;obtain⟨hzs,hzd⟩:=hz;have fin:∀{v:Value} {w':World},(ED #[t] o.type #[a.eval x']).run P w = .ok v w'->(execOp a.eval o).run P w = .ok (.value v) w':=by
      intro v w' hr;simp only[execOp,he,resolve,invoke,builtin,dN,dA,bT,lU,bU,jP,hr]
     unfold Ib at kF⊢;split at kF
     ·rename_i b lo m c0 sz' hsb;split at kF
      ·rename_i DV es hb;obtain⟨rfl,rfl,hlo⟩:=kF;obtain⟨kk,cap,ad0,c,hr0,hsv,hnc,hcc,_,hcap⟩:=Np g1 hsb;have aon:∀{ρ':Ren},GV I ρ' (.tuple #[]) (.AB []):=λ{ρ'}=>⟨#[],rfl,rfl,λj v p hv hp=>by simp at hp⟩;by_cases hm0:m=0
       ·subst hm0;rw[List.replicate_zero,NR _ _ hlo];refine⟨.tuple #[],w,I,ρ,.inl (fin ?_),?_,λ_=>aon⟩
        ·rw[hsv];cases ad0<;>simp[ED,run_underlying hte]
        ·show GX E I ρ n (st.Ap b (.dat DV es)) a w;rw[Oq hb];exact h
       ·have Pn:=hcap (.inl aI);subst Pn;obtain⟨amP,akT⟩:=TA (I:=I) (m:=m) hzd hzs hzl h0;obtain⟨cs,tg,hw,hs,hg⟩:=Zw h hb hr0 h0 hlo (ys:=bY m zs) (us:=(di z.cells m).toList) (by simp;omega) aI (λy hy=>by rw[vY hy,hzl]) (by simpa using amP) akT;have Qq:(lo+m)*DV<=cap*DV:=aY _ aI;rw[dL]at Qq;have hst:=run_storeCells_at P kk (lo*DV) tg (di z.cells m).toList 0 cs w hw (by rw[amP];simpa[hs]using Qq) (λu hu=>by obtain⟨j,hj⟩:=vW hu;exact akT.one j u hj);rw[Aq]at hst;obtain⟨m',rfl⟩:∃m',m=m'+1:=⟨m-1,aI⟩;refine⟨.tuple #[],_,I,ρ,.inl (fin ?_),hg,λ_=>aon⟩;rw[hsv];simp[ED,run_underlying hte,zeroValue,typeInfo,hi,hzero,hst]
      ·exact kF.elim
     ·exact kF.elim
    ·cases hz
   ·cases ht
  ·cases ht
 ·cases hc
theorem Xk (t ty e tg:TypeId)(i:TypeInfo)(ht:P.underlying t=some (.slice e))(hi:P.info? e=some i)
 (g off sLen sCap:Nat) (cur:Array Value) (hg:w.heap[g]? = some (.cells cur tg (0,0)))
 (ad:Addr) (m c:Nat) (news:List Value) (hl:news.length=m*i.size) (hnews:∀j u,news[j]? = some u->w.cell? (ad.add j)=some u) (h1:∀u∈news,u.oneCell'=true)
 (hroom:sLen+m<=sCap) (hfit:off+sLen*i.size+news.length<=cur.size) :
 (iM #[t,t] ty #[.slice (some ⟨g,off,none⟩) sLen sCap,.slice (some ad) m c]).run P w =
  .ok (.slice (some ⟨g,off,none⟩) (sLen+m) sCap) (w.setRow g (splice cur.toList (off+sLen*i.size) news).toArray):=by
 have hf:=run_firstCells_some (P:=P) w i.size m ad m c news hl hnews;have hst:=run_storeCells_at P g (off+sLen*i.size) tg news 0 cur w hg (by simpa using hfit) h1;rw[Aq]at hst;simp[iM,run_underlying ht,sizeOf,typeInfo,hi,rY,hroom,hf,Addr.uw,hst]
theorem agK {o:Oper}{l sz bytes:Nat}{s x:pU}(h:GX E I ρ n st a w)(hc:Fh P n o.op sz bytes s x=true)(hm:E.m<=l)(hs:(s.ev st.tm).g=true)(hx:(x.ev st.tm).g=true)
 (kF:(Ia l sz bytes (fK st.tm s) (fK st.tm x) st.bx).vc):xq P E n o a w (st.vJ (Ia l sz bytes (fK st.tm s) (fK st.tm x) st.bx).sets) (Ia l sz bytes (fK st.tm s) (fK st.tm x) st.bx).v:=by
 unfold Fh at hc;split at hc
 ·rename_i s' x' t t' he;simp only[ah,aZ,aF]at hc;obtain⟨⟨⟨⟨c1,c2⟩,rfl⟩,h0⟩,ht⟩:=hc;have g1:=oK h c1 hs;have g2:=oK h c2 hx;split at ht
  ·rename_i e hte;split at ht
   ·rename_i i hi;simp only[ah,aZ]at ht;obtain⟨⟨rfl,rfl⟩,hz⟩:=ht;split at hz
    ·rename_i z hzero;simp only[ah,aZ]at hz;obtain⟨hzs,hz1⟩:=hz;have fin:∀{v:Value} {w':World},(iM #[t,t] o.type #[a.eval s',a.eval x']).run P w = .ok v w'->(execOp a.eval o).run P w = .ok (.value v) w':=by
      intro v w' hr;simp only[execOp,he,resolve,invoke,builtin,dN,dA,bT,lU,bU,jP,hr]
     unfold Ia at kF⊢;split at kF
     ·rename_i p ys b lo m c sz' hsrc e1;split at kF
      ·rename_i DV es hb;obtain⟨kk,cap,ad0,c',hr0,hsv,hnc,hcc,hcx,hcap⟩:=Np (c:=some c) (b:=b) (lo:=lo) (m:=m) (sz:=sz') g1 (by rw[e1];rfl);have:=hcx c rfl;subst this;split at kF
       ·rename_i hroom;rw[aA hroom];obtain⟨hp,rfl,rfl,hlo⟩:=kF;have hsrc':=src_ok h g2 hsrc hp;have hys:∀y,y∈ys->y.length=i.size:=(by obtain⟨_,_,_,_,h4,_⟩:=hsrc';exact h4);obtain⟨xb,xc,us,hxv,Me,hus,hxn,hdx⟩:=NT hsrc' h0;by_cases hm0:ys.length=0
        ·have hy0:ys=[]:=gQ hm0;subst hy0;rw[NR _ _ hlo];have hr:=Hu (P:=P) (w:=w) t o.type e i hte hi ad0 m c' hnc xb xc;rw[iT]at hxv;rw[<- hxv,<- hsv]at hr;refine⟨_,w,I,ρ,.inl (fin hr),?_,λ_=>⟨kk,cap,ad0,c',hr0,hsv,by simpa using hnc,hcc,(λc0 hc0=>by cases hc0;rfl),hcap⟩⟩;show GX E I ρ n (st.Ap b (.dat i.size es)) a w;rw[Oq hb];exact h
        ·have Pn:=hcap (.inl aI);subst Pn;obtain⟨ad,had⟩:∃ad,xb=some ad:=by
          cases hq:xb with
          |none=>exact eF (by rw[hxn hq];rfl) hm0
          |some ad=>exact⟨ad,rfl⟩
         subst had;obtain⟨cs,tg,hw,hss,hg⟩:=Zw h hb hr0 h0 hlo (ys:=ys) (us:=us) aI aI hys Me hdx;have Qq:(lo+m+ys.length)*i.size<=cap*i.size:=aY _ aI;simp only[dL]at Qq;have hr:=Xk (P:=P) (w:=w) t o.type e tg i hte hi kk (lo*i.size) m c' cs hw ad ys.length xc us Me (hus ad rfl) (λu hu=>by obtain⟨j,hj⟩:=vW hu;exact hdx.one j u hj) hroom (by rw[Me,hss];exact Qq);rw[<- hxv,<- hsv,<- dL]at hr;exact⟨_,_,I,ρ,.inl (fin hr),hg,λ_=>⟨kk,cap,_,c',hr0,rfl,hroom,hcc,(λc0 hc0=>by cases hc0;rfl),λ_=>rfl⟩⟩
       ·rename_i hroom;rw[au hroom];obtain⟨hp,rfl,rfl,hlo,hl,hbig⟩:=kF;have hsrc':=src_ok h g2 hsrc hp;have hys:∀y,y∈ys->y.length=i.size:=(by obtain⟨_,_,_,_,h4,_⟩:=hsrc';exact h4);obtain⟨xb,xc,us,hxv,Me,hus,hxn,hdx⟩:=NT hsrc' h0;have hok:=h.bx.ok b;rw[hb]at hok;obtain⟨kk',cap',hr',hle,hcm,hes,hcs⟩:=hok;rw[hr0]at hr';simp only[aH,dF]at hr';obtain⟨rfl,rfl⟩:=hr';have hmul:(m+ys.length)*(i.bytes+i.size+1)=(m+ys.length)*i.bytes+(m+ys.length)*i.size+(m+ys.length):=(by rw[AU,AU,xA]);have hbytes:(m+ys.length)*i.bytes<=140737488355328:=(by omega);have h63:m+ys.length<=maxLen:=(by simp only[maxLen];omega);have hm0:ys.length≠0:=(by omega);obtain⟨ad,had⟩:∃ad,xb=some ad:=by
         cases hq:xb with
         |none=>exact eF (by rw[hxn hq];rfl) hm0
         |some ad=>exact⟨ad,rfl⟩
        subst had;have hzc:∀(q:Nat) (j:Nat) (u:Value),(di z.cells q).toList[j]? = some u->u.oneCell'=true:=by
         intro q j u hu;simp only[di,xw,qp]at hu;by_cases hj:j<q*z.cells.size
         ·rw[qK,aA hj]at hu;simp only[kL,aH]at hu;have hlt:j%z.cells.size<z.cells.size:=xh _ aI;rw[getElem!_pos z.cells _ hlt]at hu;rw[<- hu];exact bf.1 hz1 _ mg
         ·rw[qK,au hj]at hu;cases hu
        have hl':=J6 hl;have hsub:∀y,y∈(es.drop lo).take m->y.length=i.size:=λy hy=>hes y (lu (gI hy));have hsl:((es.drop lo).take m).length=m:=(by simp;omega);have fresh:∀(old:Nat) (olds:List Value),old<m+ys.length->olds.length=m*i.size->DC I olds i.size ((es.drop lo).take m) ->
         GX E I (ρ.set l w.heap.size (grownCap w (m+ys.length) old e)) n (st.Ap l (.dat i.size ((es.drop lo).take m++ys))) a
          (w.drew.alloc (.cells (olds.toArray++us.toArray++di z.cells (grownCap w (m+ys.length) old e-(m+ys.length))) e)):=by
         intro old olds ho hol hdo;have hge:=grownCap_ge w (m+ys.length) old e;have hcm:grownCap w (m+ys.length) old e<=maxLen:=grownCap_le_maxLen w _ old e h63;have hdc:=((hdo.append hdx (by rw[hsl];exact hol)).more (hzc (grownCap w (m+ys.length) old e-(m+ys.length)))).ae4 (cs:=olds.toArray++us.toArray++di z.cells (grownCap w (m+ys.length) old e-(m+ys.length))) mg;refine Oi h.drew hl' hm _ e _ i.size ((es.drop lo).take m++ys) ?_ (by rw[bZ,hsl];exact hge) hcm (λx hx=>?_) hdc.1 hdc.2
         ·simp only[yX,o6,size_zeroCells,hzs,hol,Me,<- dL]
          congr 1
          omega
         ·rcases bG.1 hx with h1|h1
          ·exact hsub x h1
          ·exact hys x h1
        have hfit:=growslice_fits (need:=m+ys.length) (old:=c') (bytes:=i.bytes) aI hbytes;by_cases hc0:c'=0
        ·
         have amM:m=0:=(by omega);subst amM;subst hc0;have hf:=fresh 0 [] aI mg ⟨mg,mg⟩;simp only[fV,uU]at hf h63 hbytes hfit;cases ad0 with
         | none=>have hr:=run_append_nil (P:=P) w t o.type e i z hte hi hzero ad ys.length xc us Me (hus ad rfl) aI (by simp only[maxLen]at h63;omega) aI;rw[<- hxv,<- hsv]at hr;refine⟨_,_,I,_,.inl (fin hr),hf,λ_=>⟨w.heap.size,_,_,_,Ren.pz _ _ _ _,by rw[fV],by rw[fV];exact grownCap_ge w ys.length 0 e,aC _,λ_=>rfl⟩⟩
         | some q=>have hr:=run_append_grow (P:=P) w t o.type e i z hte hi hzero q 0 0 [] mg mg ad ys.length xc us Me (hus ad rfl) aI (by simp only[maxLen]at h63;omega) (by simpa using hfit);rw[<- hxv,<- hsv]at hr;simp only[fV,uU]at hr;refine⟨_,_,I,_,.inl (fin hr),hf,λ_=>⟨w.heap.size,_,_,_,Ren.pz _ _ _ _,by rw[fV],by rw[fV];exact grownCap_ge w ys.length 0 e,aC _,λ_=>rfl⟩⟩
        ·have Pn:=hcap (.inl hc0);subst Pn;have hcap0:cap≠0:=(by omega);obtain⟨cs,tg,hw,hss,ho,hrd⟩:=hcs hcap0;have hmn:(lo+m)*i.size<=cs.size:=(by rw[hss];exact aY _ aI);rw[dL]at hmn;have aaP:((cs.toList.drop (lo*i.size)).take (m*i.size)).length=m*i.size:=(by simp;omega);have holds:∀(j:Nat) (u:Value),((cs.toList.drop (lo*i.size)).take (m*i.size))[j]? = some u->w.cell? ((⟨kk,lo*i.size,none⟩:Addr).add j)=some u:=λj u hu=>by
          rw[dK]at hu;split at hu
          ·rw[Addr.uw];rw[gW]at hu;simp at hu;simp[iy,hw,hu]
          ·cases hu
         have hd1:DC I ((cs.toList.drop (lo*i.size)).take (m*i.size)) i.size ((es.drop lo).take m):=by
          refine⟨λj u hu=>?_,λi' j c2 hc2=>?_⟩
          ·rw[dK]at hu;split at hu
           ·rw[gW]at hu;exact ho _ u (by simpa using hu)
           ·cases hu
          ·have hi':=mY hc2;rw[hsl]at hi';have hc3:(es.getD (lo+i') [])[j]? = some c2:=by
            rw[<- hc2];congr 1;simp only[dJ];rw[dK,aA hi',gW]
           obtain⟨u,hu,hr⟩:=hrd (lo+i') j c2 hc3;have hi2:=mY hc3;have hj:j<i.size:=(by rw[<- hes (es.getD (lo+i') []) (by simp[dJ,aB hi2])];exact(aT.1 hc3).1);have:(i'+1)*i.size<=m*i.size:=aY _ hi';rw[dL]at this;refine⟨u,?_,hr⟩;rw[dK,aA aI,gW];rw[dL]at hu;rw[<- uf];simpa using hu
         have hr:=run_append_grow (P:=P) w t o.type e i z hte hi hzero ⟨kk,lo*i.size,none⟩ m c' _ aaP holds ad ys.length xc us Me (hus ad rfl) aI (by simp only[maxLen]at h63;omega) hfit;rw[<- hxv,<- hsv]at hr;have hf:=fresh c' _ aI aaP hd1;exact⟨_,_,I,_,.inl (fin hr),hf,λ_=>⟨w.heap.size,_,_,_,Ren.pz _ _ _ _,rfl,grownCap_ge w _ c' e,aC _,λ_=>rfl⟩⟩
      ·exact kF.elim
     ·exact kF.elim
    ·cases hz
   ·cases ht
  ·cases ht
 ·cases hc
end
end
section
section
variable {P:Program} {E:Env P} {I:IH} {ρ:Ren} {n:Nat} {st:gY} {a:Act} {w:World}
theorem agi : xx.lookup "internal/bytealg.abigen_runtime_cmpstring" = none:=lS
theorem agj : yB.lookup "internal/bytealg.abigen_runtime_cmpstring" = none:=lS
theorem agk : zl.lookup "internal/bytealg.abigen_runtime_cmpstring" = none:=lS
theorem agl : EE.lookup "internal/bytealg.abigen_runtime_cmpstring" = some Extern.BytealgCompare.compare:=lS
theorem aiO : xx.lookup "" = none:=lS
theorem aiP : xx.lookup "slices.overlaps" = none:=lS
theorem aiQ : yB.lookup "slices.overlaps" = none:=lS
theorem aiR : zl.lookup "slices.overlaps" = some yI:=lS
def YE (P:Program)(n:Nat)(op:Op)(x y:pU):Bool:=
 match op with
 |.call { callee:=.value (.func f),args:=⟨[x',y']⟩,argTypes:=_ }=>lJ n x' x&&lJ n y' y&&(match P.funcs[f]? with|some fn=>fn.name == "internal/bytealg.abigen_runtime_cmpstring" && fn.origin == "" && fn.body.isNone|none=>false)
 |_=>false
theorem afJ {o:Oper}{x y:pU}(h:GX E I ρ n st a w)(hc:YE P n o.op x y=true)(hx:(x.ev st.tm).g=true)(hy:(y.ev st.tm).g=true)
 (kF:(Qj (fK st.tm x) (fK st.tm y)).vc):xR P E n o a w st (Qj (fK st.tm x) (fK st.tm y)).v:=by
 unfold YE at hc;split at hc
 ·rename_i f x' y' ts he;simp only[ah]at hc;obtain⟨⟨c1,c2⟩,hf⟩:=hc;have g1:=oK h c1 hx;have g2:=oK h c2 hy;split at hf
  ·rename_i fn hfn;simp only[ah,aZ]at hf;obtain⟨⟨hname,XM⟩,hbody⟩:=hf;have hn:wP fn=none:=by
    simp only[wP,hname,XM,agi,aiO];rfl
   have hd:yJ fn=some Extern.BytealgCompare.compare:=by simp only[yJ,hname,agj,agk,agl];rfl
   unfold Qj at kF⊢;split at kF
   ·rename_i s t e1 e2;rw[e1]at g1;rw[e2]at g2;obtain⟨v1,_⟩:=JL g1;obtain⟨v2,_⟩:=JL g2;have hr:=run_callFunc_extern (P:=P) hfn (by rw[hname];rfl) hbody hn hd #[.string ⟨⟨s⟩⟩,.string ⟨⟨t⟩⟩] w;rw[Lib.run_compareString]at hr;refine xq.val h (v:=.int .i64 (jZ s t)) ?_ (Cm _ _);have hx2:a.eval (.func f) = .func (.func f) #[] #[]:=rfl;simp only[execOp,he,resolve,AL,invoke,dN,dA,bT,hx2,lU,bU,jP,v1,v2];simpa using hr
   ·exact kF.elim
  ·cases hf
 ·cases hc
def Vj (P:Program)(n:Nat)(op:Op)(ng:Bool)(x:pU):Bool:=
 match op with
 |.binOp b t x' (.const .nilIface) _=>(match b with|.eql=> !ng|.neq=>ng|_=>false)&&(match P.underlying t with|some (.interface _)=>true|_=>false)&&lJ n x' x
 |_=>false
theorem adi {o:Oper}{ng:Bool}{x:pU}(h:GX E I ρ n st a w)(hc:Vj P n o.op ng x=true)(hx:(x.ev st.tm).g=true)
 (kF:(Lj ng (fK st.tm x)).vc):xR P E n o a w st (Lj ng (fK st.tm x)).v:=by
 unfold Vj at hc;split at hc
 ·rename_i b t x' t' he;simp only[ah]at hc;obtain⟨⟨hb,ht⟩,h1⟩:=hc;have g1:=oK h h1 hx;unfold Lj at kF⊢;split at kF
  ·rename_i g e1;rw[e1]at g1;have g1:if g=true then ∃t p,a.eval x' = .iface t p else a.eval x' = .nilIface:=g1
   split at ht
   ·rename_i ms hu;have ev:a.eval (.const .nilIface) = .nilIface:=rfl;have hq:(eqGuard b t x' (.const .nilIface) (a.eval x') .nilIface).run P w = .ok () w:=by
     cases g with
     | true=>obtain⟨t1,p1,g1⟩:=g1;rw[g1];cases b<;>rfl
     | false=>have g1:a.eval x' = .nilIface:=g1;rw[g1];cases b<;>cases x'<;>first|rfl|simp[eqGuard]
    have hd:∀d,(Bv (d+1) t (a.eval x') .nilIface).run P w = .ok (!g) w:=λd=>by
     cases g with
     | true=>obtain⟨t1,p1,g1⟩:=g1;rw[g1];simp[Bv,run_underlying hu]
     | false=>have g1:a.eval x' = .nilIface:=g1;rw[g1];simp[Bv,run_underlying hu]
    have he':(Op.equal t (a.eval x') .nilIface).run P w = .ok (!g) w:=hd 9999;have an9:∀c,(c = .eql\/c = .neq)->(binOp c t (a.eval x') .nilIface).run P w = .ok (.bool (if c = .neq then g else !g)) w:=λc hc=>by
     cases g with
     | true=>obtain⟨t1,p1,g1⟩:=g1;rw[g1]at he'⊢;rcases hc with rfl|rfl<;>simp[binOp,he']
     | false=>have g1:a.eval x' = .nilIface:=g1;rw[g1]at he'⊢;rcases hc with rfl|rfl<;>simp[binOp,he']
    simp only[FR.ok];cases b<;>simp at hb
    ·subst hb;refine xq.val h ?_ (JE _);simp[execOp,he,ev,hq,an9 .eql (.inl rfl)]
    ·subst hb;refine xq.val h ?_ (JE _);simp[execOp,he,ev,hq,an9 .neq (.inr rfl)]
   ·cases ht
  ·exact kF.elim
 ·cases hc
theorem agm : xx.lookup "internal/bytealg.IndexByteString" = none:=lS
theorem agn : yB.lookup "internal/bytealg.IndexByteString" = none:=lS
theorem agp : zl.lookup "internal/bytealg.IndexByteString" = none:=lS
theorem agq : EE.lookup "internal/bytealg.IndexByteString" = some Extern.BytealgIndexByte.indexByte:=lS
def YG (P:Program)(n:Nat)(op:Op)(x y:pU):Bool:=
 match op with
 |.call { callee:=.value (.func f),args:=⟨[x',y']⟩,argTypes:=_ }=>lJ n x' x&&lJ n y' y&&(match P.funcs[f]? with|some fn=>fn.name == "internal/bytealg.IndexByteString" && fn.origin == "" && fn.body.isNone|none=>false)
 |_=>false
theorem af8 {o:Oper}{x y:pU}(h:GX E I ρ n st a w)(hc:YG P n o.op x y=true)(hx:(x.ev st.tm).g=true)(hy:(y.ev st.tm).g=true)
 (kF:(Qu (fK st.tm x) (fK st.tm y)).vc):xR P E n o a w st (Qu (fK st.tm x) (fK st.tm y)).v:=by
 unfold YG at hc;split at hc
 ·rename_i f x' y' ts he;simp only[ah]at hc;obtain⟨⟨c1,c2⟩,hf⟩:=hc;have g1:=oK h c1 hx;have g2:=oK h c2 hy;split at hf
  ·rename_i fn hfn;simp only[ah,aZ]at hf;obtain⟨⟨hname,XM⟩,hbody⟩:=hf;have hn:wP fn=none:=by
    simp only[wP,hname,XM,agm,aiO];rfl
   have hd:yJ fn=some Extern.BytealgIndexByte.indexByte:=by simp only[yJ,hname,agn,agp,agq];rfl
   unfold Qu at kF⊢;split at kF
   ·rename_i s k c e1 e2;rw[e1]at g1;rw[e2]at g2;have hk:k = .u8:=kF;subst hk;obtain⟨v1,_⟩:=JL g1;have v2:=zT g2;have hr:=run_callFunc_extern (P:=P) hfn (by rw[hname];rfl) hbody hn hd #[.string ⟨⟨s⟩⟩,.int .u8 c] w;rw[Lib.run_indexByteString]at hr;refine xq.val h (v:=.int .i64 (xE s c.toNat.toUInt8)) ?_ (Cm _ _);have hx2:a.eval (.func f) = .func (.func f) #[] #[]:=rfl;simp only[execOp,he,resolve,AL,invoke,dN,dA,bT,hx2,lU,bU,jP,v1,v2];simpa using hr
   ·exact kF.elim
  ·cases hf
 ·cases hc
def acJ (P:Program)(n:Nat)(op:Op)(x y:pU):Bool:=
 match op with
 | .call { callee:=.value (.func f),args:=⟨[x',y']⟩,argTypes:=_ }=>lJ n x' x&&lJ n y' y&&(match P.funcs[f]? with
   | some fn=>fn.origin == "slices.overlaps" && fn.body.isNone && !(fn.name == "runtime.NumGoroutine")&&(xx.lookup fn.name).isNone&&(yB.lookup fn.name).isNone&&(zl.lookup fn.name).isNone&&(EE.lookup fn.name).isNone &&
     (match fn.params,fn.resultTypes with
      |⟨[t,t']⟩,⟨[_]⟩=>t==t'&&(match P.underlying t with|some (.slice e)=>(match P.info? e with|some _=>true|none=>false)|_=>false)
      |_,_=>false)
   |none=>false)
 |_=>false
theorem ahQ (h:GX E I ρ n st a w){b kk cap sz:Nat}{es:List (List Cell)}(hb:st.bx b = .dat sz es)(hr:ρ b=some (kk,cap))(hc0:cap≠0):∃cs tg,w.heap[kk]? = some (.cells cs tg (0,0))/\cs.size=cap*sz:=by have hok:=h.bx.ok b;rw[hb]at hok;obtain⟨kk',cap',hr',hle,hcm,hes,hcs⟩:=hok;rw[hr]at hr';simp only[aH,dF]at hr';obtain⟨rfl,rfl⟩:=hr';obtain⟨cs,tg,hw,hs,_⟩:=hcs hc0;exact⟨cs,tg,hw,hs⟩
theorem ajb {o:Oper}{x y:pU}(h:GX E I ρ n st a w)(hc:acJ P n o.op x y=true)(hx:(x.ev st.tm).g=true)(hy:(y.ev st.tm).g=true)
 (kF:(Zh (fK st.tm x) (fK st.tm y) st.bx).vc):xR P E n o a w st (Zh (fK st.tm x) (fK st.tm y) st.bx).v:=by
 unfold acJ at hc;split at hc
 ·rename_i f x' y' ts he;simp only[ah]at hc;obtain⟨⟨c1,c2⟩,hf⟩:=hc;have g1:=oK h c1 hx;have g2:=oK h c2 hy;split at hf
  ·rename_i fn hfn;simp only[ah,aZ,kX,vX]at hf;obtain⟨⟨⟨⟨⟨⟨⟨XM,hbody⟩,hname⟩,n1⟩,n2⟩,n3⟩,n4⟩,hp⟩:=hf;split at hp
   ·rename_i t t' tr hpar hres;simp only[ah,aZ]at hp;obtain⟨rfl,ht⟩:=hp;split at ht
    ·rename_i e hte;split at ht
     ·rename_i i hi;have hn:wP fn=none:=by
       simp only[wP,XM,n1,aiP];rfl
      have hd:yJ fn=some (yI #[t,t] #[tr]):=by simp only[yJ,XM,n2,n3,n4,aiQ,aiR,hpar,hres];rfl
      unfold Zh at kF⊢;split at kF
      ·rename_i b lo m c sz b' lo' m' c' sz' e1 e2;obtain⟨kk,cap,ad,cc,hr,hv,hm,hcc,_,ha⟩:=Np g1 e1;obtain⟨kk',cap',ad',cc',hr',hv',hm',Hg,_,ha'⟩:=Np g2 e2;split at kF
       ·rename_i s1 es s2 es' hb hb';obtain⟨hbb,hs2,hm0,aro⟩:b≠b'/\s2≠0/\0<m/\0<m':=kF;have hov:(yI #[t,t] #[tr] #[.slice ad m cc,.slice ad' m' cc']).run P w = .ok (.bool false) w:=by
         obtain⟨cs,tg,hw,hs⟩:=ahQ h hb hr aI;obtain⟨cs',tg',hw',hs'⟩:=ahQ h hb' hr' aI;have e1:=ha (.inl aI);have e2:=ha' (.inl aI);subst e1 e2;have hne:kk≠kk':=λhk=>hbb (by subst hk;exact h.bx.inj b b' kk (by rw[hb];exact⟨cap,hr,aI⟩) (by rw[hb'];exact⟨cap',hr',aI⟩))
         have h0:cs'.size≠0:=(by rw[hs'];exact Nat.mul_ne_zero aI hs2);exact Lib.run_overlaps_apart w t tr e hte i.size (λw=>by simp[sizeOf,typeInfo,hi]) ⟨kk,lo*sz,none⟩ ⟨kk',lo'*sz',none⟩ m cc m' cc' hne tg tg' cs.size cs'.size
          (by simp[CP,hw]) (by simp[CP,hw']) h0 (by simp[World.frozen?,hw]) (by simp[World.frozen?,hw])
        have hr:=run_callFunc_extern (P:=P) hfn hname (by simpa using hbody) hn hd #[.slice ad m cc,.slice ad' m' cc'] w;rw[hov]at hr;refine xq.val h (v:=.bool false) ?_ (JE _);have hx2:a.eval (.func f) = .func (.func f) #[] #[]:=rfl;simp only[execOp,he,resolve,AL,invoke,dN,dA,bT,hx2,lU,bU,jP,hv,hv'];simpa using hr
       ·exact kF.elim
      ·exact kF.elim
     ·cases ht
    ·cases ht
   ·cases hp
  ·cases hf
 ·cases hc
end
end
section
section
variable {P:Program} {E:Env P} {I:IH} {ρ:Ren} {n:Nat} {st:gY} {a:Act} {w:World}
def Qd (P:Program)(n:Nat)(op:Op)(sz bytes:Nat)(zs:List Cell)(s x:pU):Bool:=
 match op with
 | .call { callee:=.builtin .append,args:=⟨[s',x']⟩,argTypes:=⟨[t,t']⟩ }=>lJ n s' s&&lJ n x' x&&decide (0<sz)&&zs.length==sz&&(match P.underlying t' with|some (.int _)=>true|_=>false)&&(match P.underlying t with
   |some (.slice e)=>(match P.info? e with|some i=>i.size==sz&&i.bytes==bytes&&(match i.zero with|some z=>z.cells.size==sz&&LP z.cells.toList zs&&z.cells.toList.all (·.oneCell')|none=>false)|none=>false)
   |_=>false)
 |_=>false
theorem Wn (t u ty e:TypeId)(ku:IntKind)(i:TypeInfo)(z:Value)(ht:P.underlying t=some (.slice e))(hu:P.underlying u=some (.int ku))(hi:P.info? e=some i)(hz:i.zero=some z)
 (b:Option Addr) (sLen sCap:Nat) (olds:List Value) (hlo:olds.length=sLen*i.size) (hb0:b=none->sLen=0) (holds:∀ad,b=some ad->∀j v,olds[j]? = some v->w.cell? (ad.add j)=some v)
 (q:Nat) (hq:(q:Int)*i.bytes<=140737488355328) (h62:q<2^60) (hqp:0<q) (hs0:0<i.size)
 (hg:sCap<sLen+q) (h63:((sLen+q:Nat):Int)<=9223372036854775807) (hfit:Builtin.nextslicecap (sLen+q) sCap*i.bytes<=281474976710656) :
 (iM #[t,u] ty #[.slice b sLen sCap,.int .i64 q]).run P w =
  .ok (.slice (some ⟨w.heap.size,0,none⟩) (sLen+q) (grownCap w (sLen+q) sCap e))
   (w.drew.alloc (.cells (olds.toArray++di z.cells q++di z.cells (grownCap w (sLen+q) sCap e-(sLen+q))) e)):=by
 have hn:¬(sLen+q<=sCap):=by omega
 have h63':¬(9223372036854775807<((sLen:Int)+(q:Int))):=by omega
 have h48':¬(281474976710656<Builtin.nextslicecap (sLen+q) sCap*i.bytes):=by omega
 have hw:yK.wrap (q:Int)=q:=by simp only[Go.IntKind.wrap,Go.IntKind.bits,Go.IntKind.signed];simp;omega
 have hq0:¬((q:Int)<0):=by omega
 have hqb:¬(281474976710656<(q:Int)*(i.bytes:Int)):=by omega
 have hfo:(jb i.size sLen (.slice b sLen sCap)).run P w.drew = .ok olds.toArray w.drew:=by
  cases b with
  | none=>have h0:=hb0 rfl;subst h0;have:olds=[]:=gQ (by simpa using hlo);subst this;simp[jb]
  |some ad=>exact run_firstCells_some (P:=P) w.drew i.size sLen ad sLen sCap olds hlo (by simpa using holds ad rfl)
 have hq1:¬(q*i.size=0):=by intro h0;rcases Nat.mul_eq_zero.1 h0 with h|h<;>omega
 simp[iM,run_underlying ht,run_underlying hu,sizeOf,typeInfo,zeroValue,hi,hz,asInt,asIntOf,hw,hq0,hqb,hq1,hn,h63',h48',Question.forced,hfo,newRow,grownCap]
theorem ahR (h:GX E I ρ n st a w){b kk cap sz lo m:Nat}{es:List (List Cell)}(hb:st.bx b = .dat sz es)(hr0:ρ b=some (kk,cap))(hc:lo+m<=cap)(hc0:cap≠0)(hl:lo+m<=es.length) :
 ∃ olds:List Value,olds.length=m*sz/\(∀(j:Nat) (u:Value),olds[j]? = some u->w.cell? ((⟨kk,lo*sz,none⟩:Addr).add j)=some u)/\DC I olds sz ((es.drop lo).take m) /\
   (∀y,y∈(es.drop lo).take m->y.length=sz)/\((es.drop lo).take m).length=m:=by
 have hok:=h.bx.ok b;rw[hb]at hok;obtain⟨kk',cap',hr',hle,hcm,hes,hcs⟩:=hok;rw[hr0]at hr';simp only[aH,dF]at hr';obtain⟨rfl,rfl⟩:=hr';obtain⟨cs,tg,hw,hss,ho,hrd⟩:=hcs hc0;have hmn:(lo+m)*sz<=cs.size:=by rw[hss];exact aY _ hc
 rw[dL]at hmn;have hsl:((es.drop lo).take m).length=m:=by simp;omega
 refine⟨(cs.toList.drop (lo*sz)).take (m*sz),by simp;omega,λj u hu=>?_,⟨λj u hu=>?_,λi' j c2 hc2=>?_⟩,λy hy=>hes y (lu (gI hy)),hsl⟩
 ·rw[dK]at hu;split at hu
  ·rw[Addr.uw];rw[gW]at hu;simp at hu;simp[iy,hw,hu]
  ·cases hu
 ·rw[dK]at hu;split at hu
  ·rw[gW]at hu;exact ho _ u (by simpa using hu)
  ·cases hu
 ·have hi':=mY hc2;rw[hsl]at hi';have hc3:(es.getD (lo+i') [])[j]? = some c2:=by
   rw[<- hc2];congr 1;simp only[dJ];rw[dK,aA hi',gW]
  obtain⟨u,hu,hr⟩:=hrd (lo+i') j c2 hc3;have hi2:=mY hc3;have hj:j<sz:=by rw[<- hes (es.getD (lo+i') []) (by simp[dJ,aB hi2])];exact(aT.1 hc3).1
  have:(i'+1)*sz<=m*sz:=aY _ hi';rw[dL]at this;refine⟨u,?_,hr⟩;rw[dK,aA aI,gW];rw[dL]at hu;rw[<- uf];simpa using hu
theorem afy {o:Oper}{l sz bytes:Nat}{zs:List Cell}{s x:pU}(h:GX E I ρ n st a w)(hc:Qd P n o.op sz bytes zs s x=true)(hm:E.m<=l)(hs:(s.ev st.tm).g=true)(hx:(x.ev st.tm).g=true)
 (kF:(HY l sz bytes zs (fK st.tm s) (fK st.tm x) st.bx).vc):xq P E n o a w (st.vJ (HY l sz bytes zs (fK st.tm s) (fK st.tm x) st.bx).sets) (HY l sz bytes zs (fK st.tm s) (fK st.tm x) st.bx).v:=by
 unfold Qd at hc;split at hc
 ·rename_i s' x' t t' he;simp only[ah,aZ,aF]at hc;obtain⟨⟨⟨⟨⟨c1,c2⟩,h0⟩,hzl⟩,hti⟩,ht⟩:=hc;have g1:=oK h c1 hs;have g2:=oK h c2 hx;split at hti
  ·rename_i ku htu;split at ht
   ·rename_i e hte;split at ht
    ·rename_i i hi;simp only[ah,aZ]at ht;obtain⟨⟨rfl,rfl⟩,hz⟩:=ht;split at hz
     ·rename_i z hzero;simp only[ah,aZ]at hz;obtain⟨⟨hzs,hzd⟩,hz1⟩:=hz;have fin:∀{v:Value} {w':World},(iM #[t,t'] o.type #[a.eval s',a.eval x']).run P w = .ok v w'->(execOp a.eval o).run P w = .ok (.value v) w':=by
       intro v w' hr;simp only[execOp,he,resolve,invoke,builtin,dN,dA,bT,lU,bU,jP,hr]
      have hzc:∀(q:Nat) (j:Nat) (u:Value),(di z.cells q).toList[j]? = some u->u.oneCell'=true:=by intro q j u hu;exact(TA (I:=I) (m:=q) hzd hzs hzl h0).2.one j u hu
      have fresh:∀(old m q:Nat) (olds:List Value) (es':List (List Cell)),st.bx l = .absent->old<m+q->olds.length=m*i.size->es'.length=m->(∀y,y∈es'->y.length=i.size)->DC I olds i.size es'->m+q<=maxLen ->
       GX E I (ρ.set l w.heap.size (grownCap w (m+q) old e)) n (st.Ap l (.dat i.size (es'++bY q zs))) a
        (w.drew.alloc (.cells (olds.toArray++di z.cells q++di z.cells (grownCap w (m+q) old e-(m+q))) e)):=by
       intro old m q olds es' hl' ho hol hel hes' hdo h63;have hge:=grownCap_ge w (m+q) old e;have hcm:grownCap w (m+q) old e<=maxLen:=grownCap_le_maxLen w _ old e h63;obtain⟨amP,akT⟩:=TA (I:=I) (m:=q) hzd hzs hzl h0;have hdc:=((hdo.append akT (by rw[hel];exact hol)).more (hzc (grownCap w (m+q) old e-(m+q)))).ae4 (cs:=olds.toArray++di z.cells q++di z.cells (grownCap w (m+q) old e-(m+q))) mg;refine Oi h.drew hl' hm _ e _ i.size (es'++bY q zs) ?_ (by rw[bZ,hel,Df];exact hge) hcm (λx hx=>?_) hdc.1 hdc.2
       ·simp only[yX,o6,size_zeroCells,hzs,hol,<- dL]
        congr 1
        omega
       ·rcases bG.1 hx with h1|h1
        ·exact hes' x h1
        ·rw[vY h1,hzl]
      have arith:∀(m q:Nat),(m+q)*(i.bytes+i.size+1)<=2^46->(m+q)*i.bytes<=140737488355328/\q*i.bytes<=140737488355328/\m+q<=2^46:=by intro m q hbig;have e1:(m+q)*(i.bytes+i.size+1)=(m+q)*i.bytes+(m+q)*i.size+(m+q):=(by rw[AU,AU,xA]);have e2:q*i.bytes<=(m+q)*i.bytes:=aY _ aI;omega
      have hml:2^46<=maxLen:=(by decide);unfold HY at kF⊢;split at kF
      ·rename_i b lo m c sz' k q e1 e2;split at kF
       ·rename_i DV es hb;obtain⟨rfl,rfl,rfl,hlo,hq,hroom,hl,hbig⟩:=kF;obtain⟨kk,cap,ad0,c',hr0,hsv,hnc,hcc,hcx,hcap⟩:=Np (c:=some c) (b:=b) (lo:=lo) (m:=m) (sz:=i.size) g1 (by rw[e1];rfl);have:=hcx c rfl;subst this;have hxv:a.eval x' = .int .i64 q:=(by exact zT (by rw[e2]at g2;exact g2));obtain⟨qn,rfl⟩:∃qn:Nat,q=qn:=⟨q.toNat,aI⟩;simp only[ai]at hroom hbig⊢;obtain⟨a1,a2,a3⟩:=arith m qn hbig;have hl':=J6 hl;have hfit:=growslice_fits (need:=m+qn) (old:=c') (bytes:=i.bytes) aI a1;by_cases hc0:c'=0
        ·have amM:m=0:=(by omega);subst amM;subst hc0;have hf:=fresh 0 0 qn [] [] hl' aI mg rfl mg ⟨mg,mg⟩ aI;have hr:=Wn (P:=P) (w:=w) t t' o.type e ku i z hte htu hi hzero ad0 0 0 [] mg (λ_=>rfl) mg qn (by rw[<- Gi];exact Ig.2 a2) aI aI h0 aI aI hfit;rw[<- hxv,<- hsv]at hr;simp only[A7];exact⟨_,_,I,_,.inl (fin hr),hf,λ_=>⟨w.heap.size,_,_,_,Ren.pz _ _ _ _,rfl,grownCap_ge w _ _ e,aC _,λ_=>rfl⟩⟩
        ·have Pn:=hcap (.inl hc0);subst Pn;obtain⟨olds,ho1,ho2,ho3,ho4,ho5⟩:=ahR h hb hr0 aI aI hlo;have hf:=fresh c' m qn olds _ hl' aI ho1 ho5 ho4 ho3 aI;have hr:=Wn (P:=P) (w:=w) t t' o.type e ku i z hte htu hi hzero (some ⟨kk,lo*i.size,none⟩) m c' olds ho1 mg (λad had j u hu=>by cases had;exact ho2 j u hu) qn (by rw[<- Gi];exact Ig.2 a2) aI aI h0 aI aI hfit;rw[<- hxv,<- hsv]at hr;exact⟨_,_,I,_,.inl (fin hr),hf,λ_=>⟨w.heap.size,_,_,_,Ren.pz _ _ _ _,rfl,grownCap_ge w _ _ e,aC _,λ_=>rfl⟩⟩
       ·exact kF.elim
      ·rename_i sz' k q e1 e2;obtain⟨rfl,hq,hl,hbig⟩:=kF;have hsv:a.eval s' = .slice none 0 0:=(by rw[e1]at g1;exact g1);have hxv:a.eval x' = .int .i64 q:=(by exact zT (by rw[e2]at g2;exact g2));obtain⟨qn,rfl⟩:∃qn:Nat,q=qn:=⟨q.toNat,aI⟩;simp only[ai]at hbig⊢;obtain⟨a1,a2,a3⟩:=arith 0 qn (by simpa using hbig);simp only[fV]at a1 a3;have hl':=J6 hl;have hfit:=growslice_fits (need:=0+qn) (old:=0) (bytes:=i.bytes) aI (by simpa using a1);have hf:=fresh 0 0 qn [] [] hl' aI mg rfl mg ⟨mg,mg⟩ aI;have hr:=Wn (P:=P) (w:=w) t t' o.type e ku i z hte htu hi hzero none 0 0 [] mg (λ_=>rfl) mg qn (by rw[<- Gi];exact Ig.2 a2) aI aI h0 aI aI hfit;rw[<- hxv,<- hsv]at hr;simp only[lC]at hf;exact⟨_,_,I,_,.inl (fin hr),hf,λ_=>⟨w.heap.size,_,_,_,Ren.pz _ _ _ _,by rw[fV],by have:=grownCap_ge w (0+qn) 0 e;omega,aC _,λ_=>rfl⟩⟩
      ·exact kF.elim
     ·cases hz
    ·cases ht
   ·cases ht
  ·cases hti
 ·cases hc
end
end
section
def Uh (P:Program)(n m:Nat)(op:Op)(d:Option Nat):nR->Bool
 |.mv x=>ahL n op x
 |.pick c a b=>YL n op c a b
 |.load agg k p=>YJ P n op agg k p
 |.store agg k p x=>Vo P n op agg k p x&&d.isNone
 |.alloc l zs=>MV P op zs&&decide (m<=l)
 |.O7 T _ l r=>Kr P op T&&decide (m<=l)&&decide (m<=r)
 |.O6 l sz c zs=>Kq P op sz c zs&&decide (m<=l)
 |.box l x=>Vb n op x&&decide (m<=l)
 |.build zs ps=>Vd P n op zs ps
 |.uB l sz c zs ps=>Kt P n op sz c zs ps&&decide (m<=l)
 |.makes l sz bytes zs x y=>MZ P n op sz bytes zs x y&&decide (m<=l)
 |.bin o x y=>acD n op o x y
 |.beq ng x y=>acC P n op ng x y
 |.not x=>acI n op x
 |.neg x=>acH n op x
 |.Md k x=>YD P n op k x
 |.Vq x=>YF P n op x
 |.same x=>YM P n op x
 |.Zb f cs=>YK n op f cs
 |.Wv x lo hi=>Vm P n op x lo hi
 |.IB sz x lo hi=>YN P n op sz x lo hi
 |.Wu sz c x=>Vl P n op sz c x
 |.X5 x=>Vk n op x
 |.nK off x=>Ve P n op off x
 |.field agg off k x=>Vf P n op agg off k x
 |.Aj sz x i=>Vg P n op sz x i
 |.VL sz c x i=>RH P n op sz c x i
 |.idxs x i=>YH P n op x i
 |.extract x i=>Ph n op x i
 |.len x=>acF P n op x
 |.lens x=>YI P n op x
 |.max x y=>XE true n op x y
 |.min x y=>XE false n op x y
 |.append l sz bytes s x=>Fh P n op sz bytes s x&&decide (m<=l)
 |.copy sz x y=>Js P n op sz x y
 |.shf l x y=>acK n op l x y
 |.afF x=>YC P n op x
 |.Bc sz x lo hi=>RJ P n op sz x lo hi
 |.sl3 sz x p q m=>acL P n op sz x p q m
 |.abB l sz bytes s x=>Fh P n op sz bytes s x&&decide (m<=l)
 |.Wp sz x y=>Js P n op sz x y
 |.adM sz zs x=>Qi P n op sz zs x
 |.acm l sz bytes zs s x=>Qd P n op sz bytes zs s x&&decide (m<=l)
 |.afI x y=>YE P n op x y
 |.aaU ng x=>Vj P n op ng x
 |.ovl x y=>acJ P n op x y
 |.af7 x y=>YG P n op x y
 |.stop=>true
section
variable {P:Program} {n:Nat} {op:Op}
theorem aji {zs:List AC}(h:MV P op zs=true):D6 op=false/\Su op=false:=by unfold MV at h;split at h<;>first|exact⟨rfl,rfl⟩|cases h
theorem aeU {T:Nat}(h:Kr P op T=true):D6 op=false/\Su op=false:=by unfold Kr at h;split at h<;>first|exact⟨rfl,rfl⟩|cases h
theorem aeT {sz c:Nat}{zs:List Cell}(h:Kq P op sz c zs=true):D6 op=false/\Su op=false:=by unfold Kq at h;split at h<;>first|exact⟨rfl,rfl⟩|cases h
theorem aoR {x:pU}(h:Vb n op x=true):D6 op=false/\Su op=false:=by unfold Vb at h;split at h<;>first|exact⟨rfl,rfl⟩|cases h
theorem aeV {sz c:Nat}{zs:List Cell}{ps:List (Nat×pU)}(h:Kt P n op sz c zs ps=true):D6 op=false/\Su op=false:=by unfold Kt at h;split at h<;>first|exact⟨rfl,rfl⟩|cases h
theorem ajj {sz bytes:Nat}{zs:List Cell}{x y:pU}(h:MZ P n op sz bytes zs x y=true):D6 op=false/\Su op=false:=by unfold MZ at h;split at h<;>first|exact⟨rfl,rfl⟩|cases h
theorem UL {sz bytes:Nat}{s x:pU}(h:Fh P n op sz bytes s x=true):D6 op=false/\Su op=false:=by unfold Fh at h;split at h<;>first|exact⟨rfl,rfl⟩|cases h
theorem aeW {sz:Nat}{s x:pU}(h:Js P n op sz s x=true):D6 op=false/\Su op=false:=by unfold Js at h;split at h<;>first|exact⟨rfl,rfl⟩|cases h
theorem al0 {sz:Nat}{zs:List Cell}{x:pU}(h:Qi P n op sz zs x=true):D6 op=false/\Su op=false:=by unfold Qi at h;split at h<;>first|exact⟨rfl,rfl⟩|cases h
theorem alZ {sz bytes:Nat}{zs:List Cell}{s x:pU}(h:Qd P n op sz bytes zs s x=true):D6 op=false/\Su op=false:=by unfold Qd at h;split at h<;>first|exact⟨rfl,rfl⟩|cases h
end
section
variable {P:Program} {E:Env P} {I:IH} {ρ:Ren} {n:Nat} {st:gY} {a:Act} {w:World}
theorem GH {x:Box}(h:match x with|.absent=>True|_=>False):Ew x:=by cases x<;>first|trivial|exact h.elim
theorem abe (h:GX E I ρ n st a w){o:Oper}{ao:nR}(hc:Uh P n E.m o.op o.dst ao=true)(hv:ao.valid (pU.ev st.tm))(kF:(ao.f (fK st.tm) st.bx).vc) :
 xR P E n o a w (st.vJ (ao.f (fK st.tm) st.bx).sets) (ao.f (fK st.tm) st.bx).v:=by
 cases ao with
 |mv x=>exact ak3 h hc (hv x (by simp[nR.qi]))
 | pick c x y=>
   simp only[nR.f]at kF⊢;obtain⟨hg,hxy⟩:=hv;split at kF
   ·rename_i t ht;have ht':((pU.ev st.tm c).x)=xX t:=ht;rw[ht']at hxy;exact agy h hc hg ht hxy.1 hxy.2
   ·exact kF.elim
 | load agg k p=> 
   have hs:(BF agg k (fK st.tm p) st.bx).sets=[]:=by
    unfold BF at *;simp only[nR.f]at kF;unfold BF at kF;split at kF
    ·split at kF
     ·split at kF
      ·rename_i hA;rw[aA hA]
      ·rename_i hA;rw[au hA];split at kF
       ·rfl
       ·exact kF.elim
     ·exact kF.elim
    ·split at kF
     ·split at kF
      ·rename_i hA;rw[aA hA]
      ·rename_i hA;rw[au hA]
     ·exact kF.elim
    ·split at kF
     ·rename_i hA;rw[aA hA]
     ·rename_i hA;rw[au hA]
    ·exact kF.elim
   have:=agf (P:=P) h hc (hv p (by simp[nR.qi])) kF;simp only[nR.f,hs];exact this
 | store agg k p x=>simp only[Uh,ah,vX]at hc;exact adV h hc.1 hc.2 (hv p (by simp[nR.qi])) (hv x (by simp[nR.qi])) kF
 | alloc l zs=>simp only[Uh,ah,aF]at hc;exact(ach h hc.1 hc.2 (GH kF)).toE (aji hc.1).1 (aji hc.1).2
 | O7 T e l r=>simp only[Uh,ah,aF]at hc;exact(aac h hc.1.1 hc.1.2 hc.2 (GH kF.1) (GH kF.2.1) kF.2.2).toE (aeU hc.1.1).1 (aeU hc.1.1).2
 | O6 l sz c zs=>simp only[Uh,ah,aF]at hc;exact(aab h hc.1 hc.2 (GH kF)).toE (aeT hc.1).1 (aeT hc.1).2
 | box l x=>simp only[Uh,ah,aF]at hc;exact(ahE h hc.1 (hv x (by simp[nR.qi])) hc.2 (GH kF.1) kF.2).toE (aoR hc.1).1 (aoR hc.1).2
 |build zs ps=>exact acw h hc (λp hp=>hv p.2.2 (by simp only[nR.qi,bu];exact⟨p,hp,rfl⟩)) kF
 | uB l sz c zs ps=>
   simp only[Uh,ah,aF]at hc;simp only[nR.f]at kF⊢;split at kF
   ·rename_i l' hl';rw[Ws];exact(aao h hc.1 (λp hp=>hv p.2 (by simp only[nR.qi,bu];exact⟨p,hp,rfl⟩)) hc.2 (GH kF.1) hl' kF.2.1 kF.2.2).toE (aeV hc.1).1 (aeV hc.1).2
   ·exact kF.elim
 | makes l sz bytes zs x y=>
   simp only[Uh,ah,aF]at hc;simp only[nR.f]at kF⊢;split at kF
   ·rename_i k p k' q e1 e2;obtain⟨v1,v2,v3,v4,v5⟩:=kF;exact(ado h hc.1 (hv x (by simp[nR.qi])) (hv y (by simp[nR.qi])) e1 e2 hc.2 (GH v1) v2 v3 v4 v5).toE (ajj hc.1).1 (ajj hc.1).2
   ·exact kF.elim
 | bin b x y=>
   have hs:(Uf b (fK st.tm x) (fK st.tm y)).sets=[]:=by
    unfold Uf;split
    ·rfl
    ·unfold Ei;cases b<;>rfl
    ·rfl
   have:=ahC (P:=P) h hc (hv x (by simp[nR.qi])) (hv y (by simp[nR.qi])) kF;simp only[nR.f,hs];exact this
 | beq ng x y=>have hs:(aal ng (fK st.tm x) (fK st.tm y)).sets=[]:=(by unfold aal;split<;>rfl);have:=ahB (P:=P) h hc (hv x (by simp[nR.qi])) (hv y (by simp[nR.qi])) kF;simp only[nR.f,hs];exact this
 | not x=>
   simp only[nR.f]at kF⊢;split at kF
   ·rename_i b hb;exact ai5 h hc (hv x (by simp[nR.qi])) hb
   ·exact kF.elim
 | neg x=>
   simp only[nR.f]at kF⊢;split at kF
   ·rename_i k m hb;exact ai3 h hc (hv x (by simp[nR.qi])) hb
   ·exact kF.elim
 | Md k x=>
   simp only[nR.f]at kF⊢;split at kF
   ·rename_i j m hb;exact afH h hc (hv x (by simp[nR.qi])) hb
   ·exact kF.elim
 | Vq x=>
   simp only[nR.f]at kF⊢;split at kF
   ·rename_i p es hs;split at kF
    ·rename_i l hl;exact afM h hc (hv x (by simp[nR.qi])) hs kF.1 hl kF.2
    ·exact kF.elim
   ·exact kF.elim
 | same x=>
   simp only[nR.f]at kF⊢;split at kF
   ·rename_i l hb;exact agJ h hc (hv x (by simp[nR.qi])) hb
   ·exact kF.elim
 | Zb f cs=>
   simp only[nR.f]at kF⊢;split at kF
   ·rename_i l hl;exact agu h hc (λx hx=>hv x hx) hl
   ·exact kF.elim
 | Wv x lo hi=>
   simp only[nR.f]at kF⊢;split at kF
   ·rename_i s e1;split at kF
    ·rename_i p q e2 e3;exact adQ h hc (hv x (by simp[nR.qi])) (λy hy=>hv y (by simp only[nR.qi];simp at hy;simp[hy])) (λy hy=>hv y (by simp only[nR.qi];simp at hy;simp[hy])) e1 e2 e3 kF.1 kF.2.1 kF.2.2
    ·exact kF.elim
   ·exact kF.elim
 | IB sz x lo hi=>
   have hs:(Yd sz (fK st.tm x) (bnd (fK st.tm) lo 0) (bnd (fK st.tm) hi)).sets=[]:=by
    unfold Yd;split
    ·split<;>rfl
    ·split<;>rfl
    ·split<;>rfl
    ·rfl
   have:=agP (P:=P) h hc (hv x (by simp[nR.qi])) (λy hy=>hv y (by simp only[nR.qi];simp at hy;simp[hy])) (λy hy=>hv y (by simp only[nR.qi];simp at hy;simp[hy])) kF;have e:((nR.IB sz x lo hi).f (fK st.tm) st.bx)=Yd sz (fK st.tm x) (bnd (fK st.tm) lo 0) (bnd (fK st.tm) hi):=rfl;rw[e,hs];exact this
 | Wu sz c x=>
   simp only[nR.f]at kF⊢;split at kF
   ·rename_i b sz' e1;split at kF
    ·rename_i DV es e2;obtain⟨rfl,rfl,h3,h4⟩:=kF;exact adO h hc (hv x (by simp[nR.qi])) e1 e2 h3
    ·exact kF.elim
   ·exact kF.elim
 | X5 x=>have hs:(SL (fK st.tm x)).sets=[]:=(by unfold SL;split<;>rfl);have:=adw (P:=P) h hc (hv x (by simp[nR.qi])) kF;have e:((nR.X5 x).f (fK st.tm) st.bx)=SL (fK st.tm x):=rfl;rw[e,hs];exact this
 | nK off x=>have hs:(Nh off (fK st.tm x)).sets=[]:=(by unfold Nh;split<;>rfl);have:=acX (P:=P) h hc (hv x (by simp[nR.qi])) kF;have e:((nR.nK off x).f (fK st.tm) st.bx)=Nh off (fK st.tm x):=rfl;rw[e,hs];exact this
 | field agg off k x=>
   have hs:(RN agg off k (fK st.tm x)).sets=[]:=by
    unfold RN;split
    ·split
     ·rfl
     ·split<;>rfl
    ·rfl
   have:=acY (P:=P) h hc (hv x (by simp[nR.qi])) kF;have e:((nR.field agg off k x).f (fK st.tm) st.bx)=RN agg off k (fK st.tm x):=rfl;rw[e,hs];exact this
 | Aj sz x i=>have hs:(Si sz (fK st.tm x) (fK st.tm i)).sets=[]:=(by unfold Si;split<;>rfl);have:=ada (P:=P) h hc (hv x (by simp[nR.qi])) (hv i (by simp[nR.qi])) kF;have e:((nR.Aj sz x i).f (fK st.tm) st.bx)=Si sz (fK st.tm x) (fK st.tm i):=rfl;rw[e,hs];exact this
 | VL sz c x i=>
   simp only[nR.f]at kF⊢;split at kF
   ·rename_i b sz' k m e1 e2;obtain⟨rfl,h1,h2⟩:=kF;exact aaR h hc (hv x (by simp[nR.qi])) (hv i (by simp[nR.qi])) e1 e2 h1 h2
   ·exact kF.elim
 | idxs x i=>
   simp only[nR.f]at kF⊢;split at kF
   ·rename_i s k m e1 e2;exact af9 h hc (hv x (by simp[nR.qi])) (hv i (by simp[nR.qi])) e1 e2 kF.1 kF.2
   ·exact kF.elim
 | extract x i=>
   have hs:(Ku (fK st.tm x) i).sets=[]:=by
    unfold Ku;split
    ·split<;>rfl
    ·rfl
   have:=YR (P:=P) h hc (hv x (by simp[nR.qi])) kF;have e:((nR.extract x i).f (fK st.tm) st.bx)=Ku (fK st.tm x) i:=rfl;rw[e,hs];exact this
 | len x=>have hs:(lenV (fK st.tm x)).sets=[]:=(by unfold lenV;split<;>rfl);have:=aiJ (P:=P) h hc (hv x (by simp[nR.qi])) kF;have e:((nR.len x).f (fK st.tm) st.bx)=lenV (fK st.tm x):=rfl;rw[e,hs];exact this
 | lens x=>
   simp only[nR.f]at kF⊢;split at kF
   ·rename_i s e1;exact agd h hc (hv x (by simp[nR.qi])) e1
   ·exact kF.elim
 | max x y=>
   simp only[nR.f]at kF⊢;split at kF
   ·rename_i k p k' q e1 e2;have kF:k=k':=kF;subst kF;exact aiW h hc (hv x (by simp[nR.qi])) (hv y (by simp[nR.qi])) e1 e2
   ·exact kF.elim
 | min x y=>
   simp only[nR.f]at kF⊢;split at kF
   ·rename_i k p k' q e1 e2;have kF:k=k':=kF;subst kF;exact aiY h hc (hv x (by simp[nR.qi])) (hv y (by simp[nR.qi])) e1 e2
   ·exact kF.elim
 | append l sz bytes s x=>simp only[Uh,ah,aF]at hc;exact(aae h hc.1 hc.2 (hv s (by simp[nR.qi])) (hv x (by simp[nR.qi])) kF).toE (UL hc.1).1 (UL hc.1).2
 |copy sz d x=>exact(afL h hc (hv d (by simp[nR.qi])) (hv x (by simp[nR.qi])) kF).toE (aeW hc).1 (aeW hc).2
 | shf l x y=>have hs:(ZB l (fK st.tm x) (fK st.tm y)).sets=[]:=(by unfold ZB;(repeat' split)<;>rfl);have:=aju (P:=P) h hc (hv x (by simp[nR.qi])) (hv y (by simp[nR.qi])) kF;have e:((nR.shf l x y).f (fK st.tm) st.bx)=ZB l (fK st.tm x) (fK st.tm y):=rfl;rw[e,hs];exact this
 | afF x=>have hs:(Xb (fK st.tm x)).sets=[]:=(by unfold Xb;(repeat' split)<;>rfl);have:=afG (P:=P) h hc (hv x (by simp[nR.qi])) kF;have e:((nR.afF x).f (fK st.tm) st.bx)=Xb (fK st.tm x):=rfl;rw[e,hs];exact this
 | Bc sz x lo hi=>have hs:(Bq sz (fK st.tm x) (bnd (fK st.tm) lo 0) (bnd (fK st.tm) hi)).sets=[]:=(by unfold Bq;(repeat' split)<;>rfl);have:=abH (P:=P) h hc (hv x (by simp[nR.qi])) (λy hy=>hv y (by simp only[nR.qi,aK,bG];exact .inr (.inl hy))) (λy hy=>hv y (by simp only[nR.qi,aK,bG];exact .inr (.inr hy))) kF;have e:((nR.Bc sz x lo hi).f (fK st.tm) st.bx)=Bq sz (fK st.tm x) (bnd (fK st.tm) lo 0) (bnd (fK st.tm) hi):=rfl;rw[e,hs];exact this
 | sl3 sz x p q m=>have hs:(NP sz (fK st.tm x) (fK st.tm p) (fK st.tm q) (fK st.tm m)).sets=[]:=(by unfold NP;(repeat' split)<;>rfl);have:=ajv (P:=P) h hc (hv x (by simp[nR.qi])) (hv p (by simp[nR.qi])) (hv q (by simp[nR.qi])) (hv m (by simp[nR.qi])) kF;have e:((nR.sl3 sz x p q m).f (fK st.tm) st.bx)=NP sz (fK st.tm x) (fK st.tm p) (fK st.tm q) (fK st.tm m):=rfl;rw[e,hs];exact this
 | abB l sz bytes s x=>simp only[Uh,ah,aF]at hc;exact(agK h hc.1 hc.2 (hv s (by simp[nR.qi])) (hv x (by simp[nR.qi])) kF).toE (UL hc.1).1 (UL hc.1).2
 | acm l sz bytes zs s x=>simp only[Uh,ah,aF]at hc;exact(afy h hc.1 hc.2 (hv s (by simp[nR.qi])) (hv x (by simp[nR.qi])) kF).toE (alZ hc.1).1 (alZ hc.1).2
 |Wp sz d x=>exact(agM h hc (hv d (by simp[nR.qi])) (hv x (by simp[nR.qi])) kF).toE (aeW hc).1 (aeW hc).2
 |adM sz zs x=>exact(agL h hc (hv x (by simp[nR.qi])) kF).toE (al0 hc).1 (al0 hc).2
 |stop=>exact kF.elim
 | aaU ng x=>have hs:(Lj ng (fK st.tm x)).sets=[]:=(by unfold Lj;split<;>rfl);have:=adi (P:=P) h hc (hv x (by simp[nR.qi])) kF;have e:((nR.aaU ng x).f (fK st.tm) st.bx)=Lj ng (fK st.tm x):=rfl;rw[e,hs];exact this
 | afI x y=>have hs:(Qj (fK st.tm x) (fK st.tm y)).sets=[]:=(by unfold Qj;(repeat' split)<;>rfl);have:=afJ (P:=P) h hc (hv x (by simp[nR.qi])) (hv y (by simp[nR.qi])) kF;have e:((nR.afI x y).f (fK st.tm) st.bx)=Qj (fK st.tm x) (fK st.tm y):=rfl;rw[e,hs];exact this
 | af7 x y=>have hs:(Qu (fK st.tm x) (fK st.tm y)).sets=[]:=(by unfold Qu;(repeat' split)<;>rfl);have:=af8 (P:=P) h hc (hv x (by simp[nR.qi])) (hv y (by simp[nR.qi])) kF;have e:((nR.af7 x y).f (fK st.tm) st.bx)=Qu (fK st.tm x) (fK st.tm y):=rfl;rw[e,hs];exact this
 | ovl x y=>have hs:(Zh (fK st.tm x) (fK st.tm y) st.bx).sets=[]:=(by unfold Zh;(repeat' split)<;>rfl);have:=ajb (P:=P) h hc (hv x (by simp[nR.qi])) (hv y (by simp[nR.qi])) kF;have e:((nR.ovl x y).f (fK st.tm) st.bx)=Zh (fK st.tm x) (fK st.tm y) st.bx:=rfl;rw[e,hs];exact this
end
end
theorem Rel.refl (dp N:Nat)(g:Own):Rel dp N g g:=
 ⟨λ_ _ _ _ _ h=>⟨h,rfl⟩,λ_ _ _ _ _ h=>h,λk B' _ h=>⟨B',h,λT p hb=>by rcases hb with rfl|rfl<;>exact⟨p,p,rfl,rfl⟩⟩⟩
theorem Rel.trans {dp N:Nat}{g g' g'':Own}(h:Rel dp N g g')(k:Rel dp N g' g''):Rel dp N g g'':=by
 refine⟨λx T d m hd hx=>let q:=h.tag _ _ _ _ hd hx;let r:=k.tag _ _ _ _ hd q.1;⟨r.1,r.2.trans q.2⟩,λx row d b hd hx=>k.var _ _ _ _ hd (h.var _ _ _ _ hd hx),λx B'' hx hB=>?_⟩;obtain⟨B',hB',h1⟩:=k.old x B'' hx hB;obtain⟨B,hB0,h2⟩:=h.old x B' hx hB';refine⟨B,hB0,λT p hb=>?_⟩;rcases hb with hb|hb
 ·obtain⟨q,q',e1,e2⟩:=h2 T p (.inl hb);obtain⟨r,r',e3,e4⟩:=h1 T q' (.inl e2);exact⟨q,r',e1,e4⟩
 ·obtain⟨q,q',e1,e2⟩:=h1 T p (.inr hb);obtain⟨r,r',e3,e4⟩:=h2 T q (.inr e1);exact⟨r,q',e3,e2⟩
theorem Rel.le {dp N N':Nat}{g g':Own}(h:Rel dp N g g')(hn:N'<=N):Rel dp N' g g':=⟨h.tag,h.var,λk B' hk=>h.old k B' (lF hk hn)⟩
theorem Good.lt {P:Program}{g:Own}{w:World}(h:Good P g w){k:Nat}{B:Blk}(hk:g k=some B):k<w.heap.size:=by
 cases B with
 |arr T p=>obtain⟨cs,e,hw,_⟩:=h.arr k T p hk;exact Ac hw
 |var row d b=>obtain⟨cs,e,hw,_⟩:=h.var k row d b hk;exact Ac hw
theorem Good.world {P:Program}{g:Own}{w w':World}(h:Good P g w)(hk:∀k,g k≠none->w'.heap[k]? = w.heap[k]?):Good P g w':=
 ⟨λk T p e=>by rw[hk k (by rw[e];simp)];exact h.arr k T p e,λk row d b e=>by rw[hk k (by rw[e];simp)];exact h.var k row d b e⟩
theorem FN.world {P:Program}{F:TE}{g:Own}{dp:Nat}{a:Act}{w w':World}{f:OF}(h:FN P F g dp a w f)(hs:w.heap.size<=w'.heap.size):FN P F g dp a w' f:=by
 cases f with
 | sr t T=>
   rcases h with h|⟨k,o,n,c,h1,h2,h3⟩
   ·exact .inl h
   ·exact .inr ⟨k,o,n,c,h1,lF h2 hs,h3⟩
 |ep t T off=>obtain⟨k,o,h1,h2,h3⟩:=h;exact⟨k,o,h1,lF h2 hs,h3⟩
 |vp t b off=>exact h
 |ref t r=>exact h
 |EY t i r=>exact h
 |row b r=>exact h
 |fn t s=>exact h
theorem OW.world {P:Program}{F:TE}{g:Own}{dp:Nat}{Γ : List OF}{a:Act}{w w':World}(h:OW P F g dp Γ a w)(hs:w.heap.size<=w'.heap.size)(hk:∀k,g k≠none->w'.heap[k]? = w.heap[k]?):OW P F g dp Γ a w':=
 ⟨h.good.world hk,λf hf=>(h.fs f hf).world hs⟩
theorem OW.weak {P:Program}{F:TE}{g:Own}{dp:Nat}{Γ Dt:List OF}{a:Act}{w:World}(h:OW P F g dp Γ a w)(hs:∀f,f∈Dt->f ∈ Γ):OW P F g dp Dt a w:=
 ⟨h.good,λf hf=>h.fs f (hs f hf)⟩
theorem FN.put {P:Program}{F:TE}{g:Own}{dp:Nat}{a a':Act}{w:World}{f:OF}(h:FN P F g dp a w f)(he:∀t,t∈f.ae3->a'.tmps.getD t undef=a.tmps.getD t undef):FN P F g dp a' w f:=by cases f<;>simp only[OF.ae3,aK,List.not_mem_nil,or_false,forall_eq_or_imp,forall_eq]at he<;>simp only[FN,he]at h⊢ <;> exact h
def Je (d:Nat)(f:OF):Bool:= !f.ae3.contains d
theorem o7 {a:Act}{d t:Nat}{v:Value}(h:t≠d):(a.put (some d) v).tmps.getD t undef=a.tmps.getD t undef:=by simp only[jH,fH];rw[Array.getElem?_setIfInBounds_ne (Ne.symm h)]
theorem iq {a:Act}{d:Nat}{v:Value}(h:d<a.tmps.size):(a.put (some d) v).tmps.getD d undef=v:=by simp[jH,fH,h]
theorem FN.put' {P:Program}{F:TE}{g:Own}{dp:Nat}{a:Act}{w:World}{f:OF}{d:Nat}{v:Value}(h:FN P F g dp a w f)(ho:Je d f=true):FN P F g dp (a.put (some d) v) w f:=
 h.put λt ht=>o7 λe=>by subst e;simp[Je,ht]at ho
theorem OW.drop {P:Program}{F:TE}{g:Own}{dp:Nat}{Γ : List OF}{a:Act}{w:World}(h:OW P F g dp Γ a w)(d:Nat)(v:Value):OW P F g dp (Γ.filter (Je d)) (a.put (some d) v) w:=
 ⟨h.good,λf hf=>by rw[bF]at hf;exact(h.fs f hf.1).put' hf.2⟩
def Own.re (g:Own)(dr:zo->Bool)(φ:zo->zo):Own:=⟨λk=>match g k with
 |some (.arr T p)=>if dr p then none else some (.arr T (φ p))
 |some (.var row d b)=>some (.var (row.filter λr=> !dr (.tag d r.m)&&φ (.tag d r.m) == .tag d r.m) d b)
 |none=>none,g.bd⟩
theorem V9 {g:Own}{dr:zo->Bool}{φ:zo->zo}{k:Nat} : (g.re dr φ) k=match g k with
 |some (.arr T p)=>if dr p then none else some (.arr T (φ p))
 |some (.var row d b)=>some (.var (row.filter λr=> !dr (.tag d r.m)&&φ (.tag d r.m) == .tag d r.m) d b)
 |none=>none:=rfl
theorem GR.re {g:Own}{u:Value}{T:Nat}{p:zo}(h:GR g u T p){dr:zo->Bool}(hd:dr p=false)(φ:zo->zo):GR (g.re dr φ) u T (φ p):=by
 rcases h with h|⟨k,n,c,h1,h2⟩
 ·exact .inl h
 ·exact .inr ⟨k,n,c,h1,by simp[Own.re,h2.1,hd],h2.2⟩
theorem Zu {g:Own}{dr:zo->Bool}{φ:zo->zo}{k d b:Nat}{row:List Ref}(h:g.re dr φ k=some (.var row d b)):∃row0,g k=some (.var row0 d b)/\row=row0.filter λr=> !dr (.tag d r.m)&&φ (.tag d r.m) == .tag d r.m:=by
 rw[V9]at h;split at h
 ·split at h<;>cases h
 ·rename_i row0 d0 b0 h0;cases h;exact⟨row0,h0,rfl⟩
 ·cases h
theorem Zt {g:Own}{dr:zo->Bool}{φ:zo->zo}{k T:Nat}{p:zo}(h:g.re dr φ k=some (.arr T p)):∃q,g k=some (.arr T q)/\dr q=false/\p=φ q:=by
 rw[V9]at h;split at h
 ·rename_i T0 q h0;split at h
  ·cases h
  ·rename_i hd;cases h;exact⟨q,h0,by simpa using hd,rfl⟩
 ·cases h
 ·cases h
theorem Good.re {P:Program}{g:Own}{w:World}(h:Good P g w){dr:zo->Bool}{φ:zo->zo}(hb:∀k T p,g k=some (.arr T p)->dr p=false->∀j,dr (.blk k j)=false/\φ (.blk k j) = .blk k j):Good P (g.re dr φ) w:=by
 refine⟨λk T p hk=>?_,λk row d b hk=>?_⟩
 ·obtain⟨q,h1,h2,rfl⟩:=Zt hk;obtain⟨cs,e,hw,hc⟩:=h.arr k T q h1;refine⟨cs,e,hw,λj u T' hb' hu ht=>?_⟩;have:=(hc j u T' hb' hu ht).re (hb k T q h1 h2 j).1 φ
  rwa[(hb k T q h1 h2 j).2]at this
 ·obtain⟨row0,h1,rfl⟩:=Zu hk;obtain⟨cs,e,hw,hc⟩:=h.var k row0 d b h1;refine⟨cs,e,hw,λr hr=>?_⟩;rw[bF]at hr;simp only[ah,kX,aZ]at hr;obtain⟨u,hu,hg⟩:=hc r hr.1;refine⟨u,hu,?_⟩;have:=hg.re hr.2.1 φ
  rwa[hr.2.2]at this
def aiD (dp:Nat)(dr:zo->Bool)(φ:zo->zo)(f:OF):Prop:=∀m,f.anm=some m->dr (.tag dp m)=false/\φ (.tag dp m) = .tag dp m
theorem FN.re {P:Program}{F:TE}{g:Own}{dp:Nat}{a:Act}{w:World}{f:OF}(h:FN P F g dp a w f){dr:zo->Bool}{φ:zo->zo}(hk:aiD dp dr φ f):FN P F (g.re dr φ) dp a w f:=by
 have gr:∀{u T m},GR g u T (.tag dp m)->dr (.tag dp m)=false/\φ (.tag dp m) = .tag dp m->GR (g.re dr φ) u T (.tag dp m):=λh1 h2=>by
  have:=h1.re h2.1 φ
  rwa[h2.2]at this
 have old:∀{k:Nat} {T:Nat} {X:Prop},(∀B,g k=some B->(∃p,B = .arr T p)/\X)->∀B,g.re dr φ k=some B->(∃p,B = .arr T p)/\X:=by
  intro k T X hold B hB;cases B with
  | arr T' p=>obtain⟨q,h1,_,rfl⟩:=Zt hB;obtain⟨⟨p',e⟩,hx⟩:=hold _ h1;cases e;exact⟨⟨_,rfl⟩,hx⟩
  | var row d b=>obtain⟨row0,h1,_⟩:=Zu hB;obtain⟨⟨p',e⟩,_⟩:=hold _ h1;cases e
 have vv:∀{k row b},g k=some (.var row dp b)->g.re dr φ k=some (.var (row.filter λr=> !dr (.tag dp r.m)&&φ (.tag dp r.m) == .tag dp r.m) dp b):=λh1=>by simp[Own.re,h1]
 cases f with
 | sr t T=>
   rcases h with h|⟨k,o,n,c,h1,h2,h3⟩
   ·exact .inl h
   ·exact .inr ⟨k,o,n,c,h1,h2,old h3⟩
 |ep t T off=>obtain⟨k,o,h1,h2,h3⟩:=h;exact⟨k,o,h1,h2,old h3⟩
 |vp t b off=>obtain⟨k,row,h1,h2,h3⟩:=h;exact⟨k,_,h1,h2,vv h3⟩
 |ref t r=>obtain⟨u,h1,h2⟩:=h;exact⟨u,h1,gr h2 (hk _ rfl)⟩
 |EY t i r=>obtain⟨vs,x,u,h1,h2,h3,h4⟩:=h;exact⟨vs,x,u,h1,h2,h3,gr h4 (hk _ rfl)⟩
 | row b r=>obtain⟨k,row,h1,h2,h3⟩:=h;refine⟨k,_,h1,vv h2,?_⟩;rw[bF];have:=hk _ rfl;exact⟨h3,by simp[this.1,this.2]⟩
 |fn t s=>exact h
theorem Rel.re {dp N:Nat}{g:Own}{dr:zo->Bool}{φ:zo->zo}(h:∀d m,d<dp->dr (.tag d m)=false/\φ (.tag d m) = .tag d m):Rel dp N g (g.re dr φ):=by
 refine⟨λk T d m hd hk=>?_,λk row d b hd hk=>?_,λk B' _ hB=>?_⟩
 ·exact⟨by simp[Own.re,hk,(h d m hd).1,(h d m hd).2],rfl⟩
 ·have:row.filter (λr=> !dr (.tag d r.m)&&φ (.tag d r.m) == .tag d r.m)=row:=List.filter_eq_self.2 λr _=>by simp[(h d r.m hd).1,(h d r.m hd).2]
  simp[Own.re,hk,this]
 ·cases B' with
  | arr T p=>obtain⟨q,h1,_,rfl⟩:=Zt hB;exact⟨_,h1,λT' p' hb=>by rcases hb with e|e<;>cases e<;>exact⟨_,_,rfl,rfl⟩⟩
  | var row d b=>obtain⟨row0,h1,_⟩:=Zu hB;exact⟨_,h1,λT' p' hb=>by rcases hb with e|e<;>cases e⟩
def Own.upn (g:Own)(k:Nat)(B:Blk)(n:Nat):Own:=⟨λk'=>if k'=k then some B else g k',λk'=>if k'=k then n else g.bd k'⟩
abbrev Own.upd (g:Own)(k:Nat)(B:Blk):Own:=g.upn k B 0
theorem yO {g:Own}{k k' n:Nat}{B:Blk} : (g.upn k B n) k'=if k'=k then some B else g k':=rfl
theorem Ff {g:Own}{k k' n:Nat}{B:Blk} : (g.upn k B n).bd k'=if k'=k then n else g.bd k':=rfl
theorem GR.upd {g:Own}{u:Value}{T:Nat}{p:zo}(h:GR g u T p){k m:Nat}{B:Blk}(hk:∀T' q,g k≠some (.arr T' q)):GR (g.upn k B m) u T p:=by
 rcases h with h|⟨k',n,c,h1,h2⟩
 ·exact .inl h
 ·have hne:k'≠k:=λe=>by subst e;exact hk _ _ h2.1
  exact .inr ⟨k',n,c,h1,by rw[yO,au hne];exact h2.1,by rw[Ff,au hne];exact h2.2⟩
theorem FN.new {P:Program}{F:TE}{g:Own}{dp:Nat}{a:Act}{w:World}{f:OF}(h:FN P F g dp a w f){k m:Nat}{B:Blk}(hk:g k=none)(hs:w.heap.size<=k):FN P F (g.upn k B m) dp a w f:=by
 have hk':∀T' q,g k≠some (.arr T' q):=λT' q e=>by rw[hk]at e;cases e
 have old:∀{k':Nat} {T:Nat} {X:Prop},k'<w.heap.size->(∀B,g k'=some B->(∃p,B = .arr T p)/\X)->∀B',(g.upn k B m) k'=some B'->(∃p,B' = .arr T p)/\X:=by intro k' T X hlt hold B' hB;rw[yO]at hB;rw[au aI]at hB;exact hold B' hB
 have vv:∀{k' row b},g k'=some (.var row dp b)->(g.upn k B m) k'=some (.var row dp b):=λh1=>by rw[yO];rw[au (λe=>by subst e;rw[hk]at h1;cases h1)];exact h1
 cases f with
 | sr t T=>
   rcases h with h|⟨k,o,n,c,h1,h2,h3⟩
   ·exact .inl h
   ·exact .inr ⟨k,o,n,c,h1,h2,old h2 h3⟩
 |ep t T off=>obtain⟨k,o,h1,h2,h3⟩:=h;exact⟨k,o,h1,h2,old h2 h3⟩
 |vp t b off=>obtain⟨k,row,h1,h2,h3⟩:=h;exact⟨k,_,h1,h2,vv h3⟩
 |ref t r=>obtain⟨u,h1,h2⟩:=h;exact⟨u,h1,h2.upd hk'⟩
 |EY t i r=>obtain⟨vs,x,u,h1,h2,h3,h4⟩:=h;exact⟨vs,x,u,h1,h2,h3,h4.upd hk'⟩
 |row b r=>obtain⟨k,row,h1,h2,h3⟩:=h;exact⟨k,_,h1,vv h2,h3⟩
 |fn t s=>exact h
theorem Rel.new {dp N:Nat}{g:Own}{k n:Nat}{B:Blk}(hk:g k=none)(hn:N<=k):Rel dp N g (g.upn k B n):=by
 refine⟨λk' T d m _ hx=>?_,λk' row d b _ hx=>?_,λk' B' hlt hB=>?_⟩
 ·have hne:k'≠k:=λe=>by subst e;rw[hk]at hx;cases hx
  rw[yO,Ff,au hne,au hne];exact⟨hx,rfl⟩
 ·rw[yO];rw[au (λe=>by subst e;rw[hk]at hx;cases hx)];exact hx
 ·rw[yO]at hB;rw[au aI]at hB;exact(Rel.refl dp N g).old k' B' hlt hB
section
section
variable {P:Program} {F:TE} {g:Own} {dp:Nat} {Γ : List OF} {a:Act} {w:World}
def QN (dp:Nat)(mv:List (Nat×zo)):zo->zo
 |.tag d m=>if d=dp then(match mv.lookup m with|some q=>q|none=>.tag d m)else .tag d m
 |p=>p
def F6 (ks:List Nat)(f:OF):Bool:=match f.anm with
 |some m=> !ks.contains m
 |none=>true
abbrev Own.mv (g:Own)(dp:Nat)(mv:List (Nat×zo)):Own:=g.re (λ_=>false) (QN dp mv)
theorem TN {β:Type}{m:Nat} : ∀{l:List (Nat×β)},m ∉ l.map (·.1)->l.lookup m=none
 |[],_=>rfl
 | (k,b)::r,h=>by simp only[bU,aK,not_or]at h;simp only[List.lookup];rw[show(m==k)=false by simpa using h.1];exact TN h.2
theorem adu {mv:List (Nat×zo)}{m:Nat}(h:m ∉ mv.map (·.1)):QN dp mv (.tag dp m) = .tag dp m:=by simp[QN,TN h]
theorem ai2 {mv:List (Nat×zo)}{d m:Nat}(h:d<dp):QN dp mv (.tag d m) = .tag d m:=by simp only[QN];rw[au aI]
theorem ai1 {mv:List (Nat×zo)}{m:Nat}{q:zo}(h:mv.lookup m=some q):QN dp mv (.tag dp m)=q:=by simp[QN,h]
theorem adk {mv:List (Nat×zo)}{f:OF}(h:F6 (mv.map (·.1)) f=true):aiD dp (λ_=>false) (QN dp mv) f:=λm hm=>by refine⟨rfl,adu λhc=>?_⟩;simp only[F6,hm,kX,List.contains_eq_mem,dn]at h;exact h hc
theorem OW.mv (h:OW P F g dp Γ a w)(mv:List (Nat×zo)):OW P F (g.mv dp mv) dp (Γ.filter (F6 (mv.map (·.1)))) a w:=
 ⟨h.good.re λ_ _ _ _ _ _=>⟨rfl,rfl⟩,λf hf=>by rw[bF]at hf;exact(h.fs f hf.1).re (adk hf.2)⟩
theorem Rel.mv (N:Nat)(mv:List (Nat×zo)):Rel dp N g (g.mv dp mv):=Rel.re λd m h=>⟨rfl,ai2 h⟩
theorem GR.mv {u:Value}{T m:Nat}{q:zo}{mv:List (Nat×zo)}(h:GR g u T (.tag dp m))(hl:mv.lookup m=some q):GR (g.mv dp mv) u T q:=by
 have:=h.re (dr:=λ_=>false) rfl (QN dp mv)
 rwa[ai1 hl]at this
theorem OW.add (h:OW P F g dp Γ a w){f:OF}(hf:FN P F g dp a w f):OW P F g dp (f :: Γ) a w:=
 ⟨h.good,λx hx=>by exact(aK.1 hx).elim (λe=>e▸hf) (λhx=>h.fs x hx)⟩
theorem OW.am3 (h:OW P F g dp Γ a w){cs:Array Value}{e T m:Nat}{p:zo}
 (hc:∀j u T',j<m*xP P T->cs[j]? = some u->(j%xP P T,T')∈oD P T->GR g u T' (.blk w.heap.size j)):OW P F (g.upn w.heap.size (.arr T p) m) dp Γ a (w.alloc (.cells cs e)):=by
 have hn:g w.heap.size=none:=by
  cases hg:g w.heap.size with
  |none=>rfl
  |some B=>exact eF (h.good.lt hg) (BB _)
 have hna:∀T' q,g w.heap.size≠some (.arr T' q):=λT' q e=>by rw[hn]at e;cases e
 have hold:∀k,g k≠none->(w.alloc (.cells cs e)).heap[k]? = w.heap[k]?:= λk hk=>by
  cases hg:g k with
  |none=>exact eF hg hk
  |some B=>exact XN w _ k (h.good.lt hg)
 have hg':=h.good.world hold;refine⟨⟨λk T' q hk=>?_,λk row d b hk=>?_⟩,λf hf=>?_⟩
 ·rw[yO]at hk;split at hk
  ·rename_i e1;cases hk;subst e1;exact⟨cs,e,heap_alloc_new w _,λj u T' hb hu ht=>(hc j u T' (by rwa[Ff,aA rfl]at hb) hu ht).upd hna⟩
  ·rename_i hne;obtain⟨cs',e',hw,h2⟩:=hg'.arr k T' q hk;exact⟨cs',e',hw,λj u T' hb hu ht=>(h2 j u T' (by rwa[Ff,au hne]at hb) hu ht).upd hna⟩
 ·rw[yO]at hk;split at hk
  ·cases hk
  ·obtain⟨cs',e',hw,h2⟩:=hg'.var k row d b hk;exact⟨cs',e',hw,λr hr=>let ⟨u,hu,hgr⟩:=h2 r hr;⟨u,hu,hgr.upd hna⟩⟩
 ·exact((h.fs f hf).new hn (aC _)).world (by show _<=(w.heap.push _).size;simp)
theorem OW.newVar (h:OW P F g dp Γ a w){cs:Array Value}{e:Nat}{row:List Ref}{d b:Nat}
 (hc:∀r,r∈row->∃u,cs[r.off]? = some u/\GR g u r.ty (.tag d r.m)):OW P F (g.upd w.heap.size (.var row d b)) dp Γ a (w.alloc (.cells cs e)):=by
 have hn:g w.heap.size=none:=by
  cases hg:g w.heap.size with
  |none=>rfl
  |some B=>exact eF (h.good.lt hg) (BB _)
 have hna:∀T' q,g w.heap.size≠some (.arr T' q):=λT' q e=>by rw[hn]at e;cases e
 have hold:∀k,g k≠none->(w.alloc (.cells cs e)).heap[k]? = w.heap[k]?:= λk hk=>by
  cases hg:g k with
  |none=>exact eF hg hk
  |some B=>exact XN w _ k (h.good.lt hg)
 have hg':=h.good.world hold;refine⟨⟨λk T' q hk=>?_,λk row' d' b' hk=>?_⟩,λf hf=>?_⟩
 ·rw[yO]at hk;split at hk
  ·cases hk
  ·rename_i hne;obtain⟨cs',e',hw,h2⟩:=hg'.arr k T' q hk;exact⟨cs',e',hw,λj u T' hb hu ht=>(h2 j u T' (by rwa[Ff,au hne]at hb) hu ht).upd hna⟩
 ·rw[yO]at hk;split at hk
  ·rename_i e1;cases hk;subst e1;exact⟨cs,e,heap_alloc_new w _,λr hr=>let ⟨u,hu,hgr⟩:=hc r hr;⟨u,hu,hgr.upd hna⟩⟩
  ·obtain⟨cs',e',hw,h2⟩:=hg'.var k row' d' b' hk;exact⟨cs',e',hw,λr hr=>let ⟨u,hu,hgr⟩:=h2 r hr;⟨u,hu,hgr.upd hna⟩⟩
 ·exact((h.fs f hf).new hn (aC _)).world (by show _<=(w.heap.push _).size;simp)
theorem setRow_size (w:World)(k:Nat)(cs:Array Value):(w.setRow k cs).heap.size=w.heap.size:=by simp[World.setRow]
theorem GZ (w:World){k k':Nat}(cs:Array Value)(h:k'≠k):(w.setRow k cs).heap[k']? = w.heap[k']?:=by simp only[World.setRow];rw[Array.getElem?_modify];rw[au (Ne.symm h)]
theorem OW.Zz (h:OW P F g dp Γ a w){k:Nat}{cs cs':Array Value}{e:Nat}(hw:w.heap[k]? = some (.cells cs e (0,0)))
 (hc:∀B,g k=some B->∃T p,B = .arr T p/\∀j u T',j<g.bd k*xP P T->cs'[j]? = some u->(j%xP P T,T')∈oD P T->GR g u T' (.blk k j)):OW P F g dp Γ a (w.setRow k cs'):=by
 have hnew:=setRow_heap w k cs cs' e (0,0) hw;refine⟨⟨λk' T p hk=>?_,λk' row d b hk=>?_⟩,λf hf=>(h.fs f hf).world (by rw[setRow_size];exact aC _)⟩
 ·by_cases hkk:k'=k
  ·subst hkk;obtain⟨T',p',hB,h2⟩:=hc _ hk;cases hB;exact⟨cs',e,hnew,h2⟩
  ·rw[GZ w cs' hkk];exact h.good.arr k' T p hk
 ·by_cases hkk:k'=k
  ·subst hkk;obtain⟨T',p',hB,_⟩:=hc _ hk;cases hB
  ·rw[GZ w cs' hkk];exact h.good.var k' row d b hk
theorem GR.Tt {u:Value}{T:Nat}{p:zo}(h:GR g u T p){k m:Nat}{B:Blk}{row:List Ref}{d b:Nat}(hk:g k=some (.var row d b)):GR (g.upn k B m) u T p:=
 h.upd λT' q e=>by rw[hk]at e;cases e
theorem OW.setVar (h:OW P F g dp Γ a w){k:Nat}{cs cs':Array Value}{e b:Nat}{row row':List Ref}(hw:w.heap[k]? = some (.cells cs e (0,0)))(hk:g k=some (.var row dp b))
 (hc:∀r,r∈row'->∃u,cs'[r.off]? = some u/\GR g u r.ty (.tag dp r.m)) {Dt:List OF} (hΓ : ∀f,f∈Dt->f ∈ Γ /\ ∀r,f = .row b r->r∈row') :
 OW P F (g.upd k (.var row' dp b)) dp Dt a (w.setRow k cs'):=by
 have hnew:=setRow_heap w k cs cs' e (0,0) hw;have hg:(g.upd k (.var row' dp b)) k=some (.var row' dp b):=by simp[yO]
 have ho:∀{k'},k'≠k->(g.upd k (.var row' dp b)) k'=g k':=λhne=>by simp[yO,hne]
 refine⟨⟨λk' T p hk'=>?_,λk' OC d b2 hk'=>?_⟩,λf hf=>?_⟩
 ·by_cases hkk:k'=k
  ·subst hkk;rw[hg]at hk';cases hk'
  ·rw[ho hkk]at hk';obtain⟨c,e',h1,h2⟩:=h.good.arr k' T p hk';exact⟨c,e',by rw[GZ w cs' hkk];exact h1,λj u T' hb hu ht=>(h2 j u T' (by rwa[Ff,au hkk]at hb) hu ht).Tt hk⟩
 ·by_cases hkk:k'=k
  ·subst hkk;rw[hg]at hk';cases hk';exact⟨cs',e,hnew,λr hr=>let ⟨u,hu,hgr⟩:=hc r hr;⟨u,hu,hgr.Tt hk⟩⟩
  ·rw[ho hkk]at hk';obtain⟨c,e',h1,h2⟩:=h.good.var k' OC d b2 hk';exact⟨c,e',by rw[GZ w cs' hkk];exact h1,λr hr=>let ⟨u,hu,hgr⟩:=h2 r hr;⟨u,hu,hgr.Tt hk⟩⟩
 ·obtain⟨hf,hr⟩:=hΓ f hf;have h0:=h.fs f hf;have old:∀{k' T:Nat} {X:Prop},(∀B,g k'=some B->(∃p,B = .arr T p)/\X)->∀B,(g.upd k (.var row' dp b)) k'=some B->(∃p,B = .arr T p)/\X:=by
   intro k' T X hold B hB;by_cases hkk:k'=k
   ·subst hkk;obtain⟨⟨p,e⟩,_⟩:=hold _ hk;cases e
   ·rw[ho hkk]at hB;exact hold B hB
  have hsz:(w.setRow k cs').heap.size=w.heap.size:=setRow_size w k cs';cases f with
  | sr t T=>
    rcases h0 with h0|⟨k',o,n,c,h1,h2,h3⟩
    ·exact .inl h0
    ·exact .inr ⟨k',o,n,c,h1,by rw[hsz];exact h2,old h3⟩
  |ep t T off=>obtain⟨k',o,h1,h2,h3⟩:=h0;exact⟨k',o,h1,by rw[hsz];exact h2,old h3⟩
  | vp t b' off=>
    obtain⟨k',OC,h1,h2,h3⟩:=h0;by_cases hkk:k'=k
    ·subst hkk;rw[hk]at h3;cases h3;exact⟨k',row',h1,h2,hg⟩
    ·exact⟨k',OC,h1,h2,by rw[ho hkk];exact h3⟩
  |ref t r=>obtain⟨u,h1,h2⟩:=h0;exact⟨u,h1,h2.Tt hk⟩
  |EY t i r=>obtain⟨vs,x,u,h1,h2,h3,h4⟩:=h0;exact⟨vs,x,u,h1,h2,h3,h4.Tt hk⟩
  | row b' r=>
    obtain⟨k',OC,h1,h2,h3⟩:=h0;by_cases hkk:k'=k
    ·subst hkk;rw[hk]at h2;cases h2;exact⟨k',row',h1,hg,hr r rfl⟩
    ·exact⟨k',OC,h1,by rw[ho hkk];exact h2,h3⟩
  |fn t s=>exact h0
theorem Rel.setVar {N k b:Nat}{row row':List Ref}(hk:g k=some (.var row dp b)):Rel dp N g (g.upd k (.var row' dp b)):=by
 refine⟨λk' T d m hd hx=>?_,λk' OC d b2 hd hx=>?_,λk' B' hlt hB=>?_⟩
 ·have hne:k'≠k:=λe=>by subst e;rw[hk]at hx;cases hx
  rw[yO,Ff,au hne,au hne];exact⟨hx,rfl⟩
 ·rw[yO];rw[au (λe=>by subst e;rw[hk]at hx;cases hx;omega)];exact hx
 ·rw[yO]at hB;split at hB
  ·rename_i e;subst e;cases hB;exact⟨_,hk,λT p hb=>by rcases hb with e|e<;>cases e⟩
  ·exact(Rel.refl dp N g).old k' B' hlt hB
end
end
section
section
variable {P:Program}
theorem eU {α β:Type}{x:Sem α}{f:α->Sem β}{w w':World}{r:β}(h:(x >>= f).run P w = .ok r w'):∃y w1,x.run P w = .ok y w1/\(f y).run P w1 = .ok r w':=by
 rw[dN]at h;cases hx:x.run P w with
 |ok y w1=>rw[hx]at h;exact⟨y,w1,rfl,h⟩
 |halt e w1=>rw[hx]at h;cases h
theorem jd {α:Type}{x r:α}{w w':World}(h:(pure x:Sem α).run P w = .ok r w'):r=x/\w'=w:=by rw[dA]at h;cases h;exact⟨rfl,rfl⟩
theorem Dq {t:TypeId}{d:TypeDesc}{w w':World}(h:(underlying t).run P w = .ok d w'):P.underlying t=some d/\w'=w:=by
 unfold underlying at h;obtain⟨p,w1,h1,h2⟩:=eU h;rw[run_program]at h1;cases h1;split at h2
 ·rename_i d' hd;obtain⟨rfl,rfl⟩:=jd h2;exact⟨hd,rfl⟩
 ·cases h2
theorem KA {t:TypeId}{i:TypeInfo}{w w':World}(h:(typeInfo t).run P w = .ok i w'):P.info? t=some i/\w'=w:=by
 unfold typeInfo at h;obtain⟨p,w1,h1,h2⟩:=eU h;rw[run_program]at h1;cases h1;split at h2
 ·rename_i d' hd;obtain⟨rfl,rfl⟩:=jd h2;exact⟨hd,rfl⟩
 ·cases h2
theorem Gf {t:TypeId}{k:Nat}{w w':World}(h:(sizeOf t).run P w = .ok k w'):∃i,P.info? t=some i/\i.size=k/\w'=w:=by unfold sizeOf at h;obtain⟨i,w1,h1,h2⟩:=eU h;obtain⟨h3,rfl⟩:=KA h1;obtain⟨rfl,rfl⟩:=jd h2;exact⟨i,h3,rfl,rfl⟩
theorem aee {t:TypeId}{b:Bool}{w w':World}(h:(isAgg t).run P w = .ok b w'):(∃d,P.underlying t=some d/\b=Le d)/\w'=w:=by unfold isAgg at h;obtain⟨d,w1,h1,h2⟩:=eU h;obtain⟨h3,rfl⟩:=Dq h1;cases d<;>(obtain⟨rfl,rfl⟩:=jd h2;exact⟨⟨_,h3,rfl⟩,rfl⟩)
theorem U5 {v:Value}{p:Addr}{w w':World}(h:(kY v).run P w = .ok p w'):v = .pointer (some p)/\w'=w:=by
 unfold kY at h;split at h
 ·obtain⟨rfl,rfl⟩:=jd h;exact⟨rfl,rfl⟩
 ·cases h
theorem G7 {s:Sem Value}{v:Value}{w w':World}(h:((do pure (.value (<- s))):Sem Next).run P w = .ok (.value v) w'):s.run P w = .ok v w':=by obtain⟨y,w1,h1,h2⟩:=eU h;obtain⟨e,rfl⟩:=jd h2;cases e;exact h1
theorem aaX {p:Addr}{v:Value}{w w':World}(h:(load p).run P w = .ok v w'):w'=w/\∀u,w.cell? p=some u->v=u:=by
 rw[run_load]at h;split at h
 ·rename_i u hu;cases h;exact⟨rfl,λu' hu'=>by rw[hu]at hu';cases hu';rfl⟩
 ·rename_i hn;split at h
  ·cases h;exact⟨rfl,λu hu=>by rw[hn]at hu;cases hu⟩
  ·cases h
theorem Ll {p:Addr} : ∀(n i:Nat) (acc:Array Value) (w:World) (r:Array Value) (w':World),(loadCellsFrom p i n acc).run P w = .ok r w' ->
 w'=w/\(∀j,j<acc.size->r[j]? = acc[j]?)/\∀j,j<n->∀u,w.cell? (p.add (i+j))=some u->r[acc.size+j]? = some u
 | 0,i,acc,w,r,w',h=>by unfold loadCellsFrom at h;obtain⟨rfl,rfl⟩:=jd h;exact⟨rfl,λ_ _=>rfl,λj hj=>eF hj (Nat.not_lt_zero _)⟩
 | n+1,i,acc,w,r,w',h=>by
   unfold loadCellsFrom at h;obtain⟨v,w1,h1,h2⟩:=eU h;obtain⟨rfl,hv⟩:=aaX h1;obtain⟨h3,h4,h5⟩:=Ll n (i+1) (acc.push v) _ r w' h2;refine⟨h3,λj hj=>?_,λj hj u hu=>?_⟩
   ·rw[h4 j (by simp;omega),D9,au aI]
   ·cases j with
    | zero=>have:=hv u (by simpa using hu);subst this;have:=h4 acc.size mg;simpa using this
    | succ j=>
      have:=h5 j aI u (by rw[show i+1+j=i+(j+1) by omega];exact hu);simp only[Array.size_push]at this
      rwa[show acc.size+1+j=acc.size+(j+1) by omega]at this
theorem Nz {t:TypeId}{p:Addr}{v:Value}{w w':World}(h:(loadVar t p).run P w = .ok v w') :
 w'=w/\((∃d i,P.underlying t=some d/\Le d=true/\P.info? t=some i/\∀j u,j<i.size->w.cell? (p.add j)=some u->v.cells[j]? = some u) \/
  (∃d,P.underlying t=some d/\Le d=false/\∀u,w.cell? p=some u->v=u)):=by
 unfold loadVar at h;obtain⟨b,w1,h1,h2⟩:=eU h;obtain⟨⟨d,hd,rfl⟩,rfl⟩:=aee h1;cases hb:Le d with
 | true=>rw[hb]at h2;simp only[jY]at h2;obtain⟨k,w2,h3,h4⟩:=eU h2;obtain⟨i,hi,rfl,rfl⟩:=Gf h3;obtain⟨r,w3,h5,h6⟩:=eU h4;unfold loadCells at h5;obtain⟨rfl,_,h7⟩:=Ll _ _ _ _ _ _ h5;obtain⟨rfl,rfl⟩:=jd h6;refine⟨rfl,.inl ⟨d,i,hd,hb,hi,λj u hj hu=>?_⟩⟩;have:=h7 j hj u (by simpa using hu);simpa[oH]using this
 | false=>rw[hb]at h2;obtain⟨rfl,hv⟩:=aaX h2;exact⟨rfl,.inr ⟨d,hd,hb,hv⟩⟩
end
end
section
def OF.re (s d:Nat):OF->Option OF
 |.sr x T=>if x=s then some (.sr d T)else none
 |.ep x T o=>if x=s then some (.ep d T o)else none
 |.vp x b o=>if x=s/\b≠d then some (.vp d b o)else none
 |.ref x r=>if x=s then some (.ref d r)else none
 |.EY x i r=>if x=s then some (.EY d i r)else none
 |.fn x k=>if x=s then some (.fn d k)else none
 |.row _ _=>none
def OF.nK (P:Program)(s d off:Nat):OF->Option OF
 |.ep x T o=>if x=s/\o+off<xP P T then some (.ep d T (o+off))else none
 |.vp x b o=>if x=s/\b≠d then some (.vp d b (o+off))else none
 |_=>none
def OF.Aj (P:Program)(s d sz:Nat):OF->Option OF
 |.sr x T=>if x=s/\xP P T=sz then some (.ep d T 0)else none
 |.ref x r=>if x=s/\r.off=0/\xP P r.ty=sz then some (.ep d r.ty 0)else none
 |_=>none
def OF.part (s d off k:Nat):OF->Option OF
 |.ref x r=>if x=s/\off<=r.off/\r.off<off+k then some (.ref d ⟨r.off-off,r.ty,r.m⟩)else none
 |_=>none
def OF.ah1 (s d i:Nat):OF->Option OF
 |.EY x j r=>if x=s/\j=i then some (.ref d r)else none
 |_=>none
def OF.rowP (b d off k:Nat):OF->Option OF
 |.row x r=>if x=b/\off<=r.off/\r.off<off+k then some (.ref d ⟨r.off-off,r.ty,r.m⟩)else none
 |_=>none
def OF.ldv (Γ : List OF)(s d k:Nat):OF->List OF
 |.vp x b o=>if x=s then Γ.filterMap (OF.rowP b d o k)else []
 |_=>[]
section
variable {P:Program} {F:TE} {g:Own} {dp:Nat} {Γ : List OF} {a:Act} {w:World} {d s:Nat} {v:Value}
theorem FN.copy {f f':OF}(h:FN P F g dp a w f)(hr:f.re s d=some f')(hd:d<a.tmps.size)(hv:v=a.tmps.getD s undef):FN P F g dp (a.put (some d) v) w f':=by
 have hs:=iq (v:=v) hd;subst hv;cases f with
 |sr x T=>simp only[OF.re]at hr;split at hr<;>cases hr;rename_i e;subst e;simp only[FN,hs]at h⊢;exact h
 |ep x T o=>simp only[OF.re]at hr;split at hr<;>cases hr;rename_i e;subst e;simp only[FN,hs]at h⊢;exact h
 | vp x b o=>simp only[OF.re]at hr;split at hr<;>cases hr;rename_i e;obtain⟨rfl,hb⟩:=e;simp only[FN,hs,o7 hb]at h⊢;exact h
 |ref x r=>simp only[OF.re]at hr;split at hr<;>cases hr;rename_i e;subst e;simp only[FN,hs]at h⊢;exact h
 |EY x i r=>simp only[OF.re]at hr;split at hr<;>cases hr;rename_i e;subst e;simp only[FN,hs]at h⊢;exact h
 |fn x k=>simp only[OF.re]at hr;split at hr<;>cases hr;rename_i e;subst e;simp only[FN,hs]at h⊢;exact h
 |row b r=>cases hr
theorem FN.nK {f f':OF}{off:Nat}{p:Addr}(h:FN P F g dp a w f)(hr:f.nK P s d off=some f')(hd:d<a.tmps.size)(hp:a.tmps.getD s undef = .pointer (some p))(hv:v = .pointer (some (p.add off))) :
 FN P F g dp (a.put (some d) v) w f':=by
 have hs:=iq (v:=v) hd;cases f with
 | ep x T o=>simp only[OF.nK]at hr;split at hr<;>cases hr;rename_i e;obtain⟨rfl,hlt⟩:=e;obtain⟨k,o',h1,h2,h3⟩:=h;rw[hp]at h1;cases h1;refine⟨k,o'+off,by rw[hs,hv,Addr.uw],h2,λB hB=>?_⟩;obtain⟨hB1,hB2⟩:=h3 B hB;refine⟨hB1,?_⟩;rw[Nat.add_mod,hB2,xH (show off<xP P T by omega),xH hlt]
 | vp x b o=>simp only[OF.nK]at hr;split at hr<;>cases hr;rename_i e;obtain⟨rfl,hb⟩:=e;obtain⟨k,row,h1,h2,h3⟩:=h;rw[hp]at h2;cases h2;exact⟨k,row,by rw[o7 hb];exact h1,by rw[hs,hv,Addr.uw],h3⟩
 |sr _ _=>cases hr
 |ref _ _=>cases hr
 |EY _ _ _=>cases hr
 |row _ _=>cases hr
 |fn _ _=>cases hr
theorem FN.Aj {f f':OF}{sz i:Nat}{p:Addr}{m c:Nat}(hg:Good P g w)(h:FN P F g dp a w f)(hr:f.Aj P s d sz=some f')(hd:d<a.tmps.size)(hp:a.tmps.getD s undef = .slice (some p) m c)(hv:v = .pointer (some (p.add (i*sz)))) :
 FN P F g dp (a.put (some d) v) w f':=by
 have hs:=iq (v:=v) hd;cases f with
 | sr x T=>
   simp only[OF.Aj]at hr;split at hr<;>cases hr;rename_i e;obtain⟨rfl,rfl⟩:=e;rcases h with h|⟨k,o',n,c',h1,h2,h3⟩
   ·rw[Ze,hp]at h;cases h
   ·rw[hp]at h1;cases h1;refine⟨k,o'+i*xP P T,by rw[hs,hv,Addr.uw],h2,λB hB=>?_⟩;obtain⟨hB1,hB2⟩:=h3 B hB;exact⟨hB1,by rw[Nat.add_mul_mod_self_right];exact hB2⟩
 | ref x r=>
   simp only[OF.Aj]at hr;split at hr<;>cases hr;rename_i e;obtain⟨rfl,h0,rfl⟩:=e;obtain⟨u,h1,h2⟩:=h;rw[hp,h0]at h1;simp[oH]at h1;subst h1;rcases h2 with h|⟨k,n,c',h3,h4⟩
   ·cases h
   ·cases h3;refine⟨k,0+i*xP P r.ty,by rw[hs,hv,Addr.uw],hg.lt h4.1,λB hB=>?_⟩;rw[h4.1]at hB;cases hB;exact⟨⟨_,rfl⟩,mg⟩
 |ep _ _ _=>cases hr
 |vp _ _ _=>cases hr
 |EY _ _ _=>cases hr
 |row _ _=>cases hr
 |fn _ _=>cases hr
theorem FN.part {f f':OF}{off k:Nat}(h:FN P F g dp a w f)(hr:f.part s d off k=some f')(hd:d<a.tmps.size)
 (hv:∀j u,j<k->(a.tmps.getD s undef).cells[off+j]? = some u->v.cells[j]? = some u\/¬ ∃b n c,u = .slice b n c):FN P F g dp (a.put (some d) v) w f':=by
 have hs:=iq (v:=v) hd;cases f with
 | ref x r=>
   simp only[OF.part]at hr;split at hr<;>cases hr;rename_i e;obtain⟨rfl,h1,h2⟩:=e;obtain⟨u,hu,hg⟩:=h;have:=hv (r.off-off) u aI (by rw[show off+(r.off-off)=r.off by omega];exact hu);rcases this with h3|h3
   ·exact⟨u,by rw[hs];exact h3,hg⟩
   ·exact eF (by rcases hg with e|⟨k,n,c,e,_⟩<;>exact⟨_,_,_,e⟩) h3
 |sr _ _=>cases hr
 |ep _ _ _=>cases hr
 |vp _ _ _=>cases hr
 |EY _ _ _=>cases hr
 |row _ _=>cases hr
 |fn _ _=>cases hr
theorem FN.ah1 {f f':OF}{i:Nat}{vs:Array Value}(h:FN P F g dp a w f)(hr:f.ah1 s d i=some f')(hd:d<a.tmps.size)(hp:a.tmps.getD s undef = .tuple vs)(hv:vs[i]? = some v):FN P F g dp (a.put (some d) v) w f':=by
 have hs:=iq (v:=v) hd;cases f with
 | EY x j r=>simp only[OF.ah1]at hr;split at hr<;>cases hr;rename_i e;obtain⟨rfl,rfl⟩:=e;obtain⟨vs',y,u,h1,h2,h3,h4⟩:=h;rw[hp]at h1;cases h1;rw[hv]at h2;cases h2;exact⟨u,by rw[hs];exact h3,h4⟩
 |sr _ _=>cases hr
 |ep _ _ _=>cases hr
 |vp _ _ _=>cases hr
 |ref _ _=>cases hr
 |row _ _=>cases hr
 |fn _ _=>cases hr
theorem FN.ldv {f f':OF}{k:Nat}{p:Addr}(hg:Good P g w)(hΓ : ∀f,f ∈ Γ -> FN P F g dp a w f)(hf:f ∈ Γ)(hr:f'∈f.ldv Γ s d k)(hd:d<a.tmps.size)(hp:a.tmps.getD s undef = .pointer (some p))
 (hv:∀j u,j<k->w.cell? (p.add j)=some u->v.cells[j]? = some u\/¬ ∃b n c,u = .slice b n c):FN P F g dp (a.put (some d) v) w f':=by
 have hs:=iq (v:=v) hd;cases f with
 | vp x b o=>
   simp only[OF.ldv]at hr;split at hr
   ·rename_i e;subst e;rw[eG]at hr;obtain⟨f2,hf2,hr⟩:=hr;cases f2 with
    | row y r=>
      simp only[OF.rowP]at hr;split at hr<;>cases hr;rename_i e;obtain⟨rfl,h1,h2⟩:=e;obtain⟨kk,row,e1,e2,e3⟩:=hΓ _ hf;obtain⟨kk',row',e4,e5,e6⟩:=hΓ _ hf2;rw[e1]at e4;cases e4;rw[e3]at e5;cases e5;rw[hp]at e2;cases e2;obtain⟨cs,e,hw,hrow⟩:=hg.var _ _ _ _ e3;obtain⟨u,hu,hgr⟩:=hrow r e6;have hc:w.cell? ((⟨kk,o,none⟩:Addr).add (r.off-o))=some u:=by rw[Addr.uw,show o+(r.off-o)=r.off by omega];simp[iy,hw,hu]
      rcases hv (r.off-o) u aI hc with h3|h3
      ·exact⟨u,by rw[hs];exact h3,hgr⟩
      ·exact eF (by rcases hgr with e|⟨k,n,c,e,_⟩<;>exact⟨_,_,_,e⟩) h3
    |sr _ _=>cases hr
    |ep _ _ _=>cases hr
    |vp _ _ _=>cases hr
    |ref _ _=>cases hr
    |EY _ _ _=>cases hr
    |fn _ _=>cases hr
   ·cases hr
 |sr _ _=>cases hr
 |ep _ _ _=>cases hr
 |ref _ _=>cases hr
 |EY _ _ _=>cases hr
 |row _ _=>cases hr
 |fn _ _=>cases hr
end
end
section
def oq (P:Program)(Γ : List OF)(d:Nat):Op->List OF
 |.move (.tmp s)=> Γ.filterMap (OF.re s d)
 |.assign (.tmp s)=> Γ.filterMap (OF.re s d)
 |.nilCheck (.tmp s)=> Γ.filterMap (OF.re s d)
 | .fieldAddr t (.tmp s) f=>(match P.underlying t with
   | some (.struct fs)=>(match fs[f]? with
     | some fl=>(match P.info? fl.type with
       |some i=>if i.size=0 then []else Γ.filterMap (OF.nK P s d fl.offset)
       |none=>[])
     |none=>[])
   |_=>[])
 | .indexAddr t (.tmp s) _=>(match P.underlying t with
   | some (.slice e)=>(match P.info? e with
     |some i=> Γ.filterMap (OF.Aj P s d i.size)
     |none=>[])
   |_=>[])
 | .field t (.tmp s) f=>(match P.underlying t with
   | some (.struct fs)=>(match fs[f]? with
     | some fl=>(match P.underlying fl.type,P.info? fl.type with
       |some de,some i=> Γ.filterMap (OF.part s d fl.offset (if Le de then i.size else 1))
       |_,_=>[])
     |none=>[])
   |_=>[])
 |.extract (.tmp s) i=> Γ.filterMap (OF.ah1 s d i)
 | .load t (.tmp s)=>(match P.underlying t,P.info? t with
   |some de,some i=> Γ.flatMap (OF.ldv Γ s d (if Le de then i.size else 1))
   |_,_=>[])
 |_=>[]
section
variable {P:Program} {F:TE} {g:Own} {dp:Nat} {Γ : List OF} {a:Act} {w:World} {d:Nat} {v:Value}
theorem NQ {u:Value}(h:∃b n c,u = .slice b n c):u.cells = #[u]:=by obtain⟨b,n,c,rfl⟩:=h;rfl
theorem XB {α:Type}{k:IntKind}{i:Int}{n:Int}{c:BoundsCode}{r:α}{w w':World}(h:(boundsPanic k i n c:Sem α).run P w = .ok r w'):False:=by
 unfold boundsPanic at h;simp only at h;split at h
 ·obtain⟨_,_,_,h2⟩:=eU h;cases h2
 ·obtain⟨_,_,_,h2⟩:=eU h;cases h2
theorem ai9 (h:OW P F g dp Γ a w)(hd:d<a.tmps.size){o:Oper}{w':World}(hr:(execOp a.eval o).run P w = .ok (.value v) w'):∀f,f∈oq P Γ d o.op->FN P F g dp (a.put (some d) v) w f:=by
 intro f hf;have e1:∀t,a.eval (.tmp t)=a.tmps.getD t undef:=λt=>rfl;unfold oq at hf;split at hf
 ·rename_i s ho;rw[eG]at hf;obtain⟨f0,h0,h1⟩:=hf;simp only[execOp,ho,dA]at hr;cases hr;exact(h.fs f0 h0).copy h1 hd (e1 s)
 ·rename_i s ho;rw[eG]at hf;obtain⟨f0,h0,h1⟩:=hf;simp only[execOp,ho,dA]at hr;cases hr;exact(h.fs f0 h0).copy h1 hd (e1 s)
 ·rename_i s ho;rw[eG]at hf;obtain⟨f0,h0,h1⟩:=hf;have hv:v=a.tmps.getD s undef:=by
   simp only[execOp,ho,e1]at hr;split at hr
   ·cases hr
   ·cases hr
   ·cases hr
   ·split at hr
    ·cases hr
    ·obtain⟨y,w1,h2,h3⟩:=eU hr;obtain⟨_,w2,_,h5⟩:=eU h3;split at h5
     ·obtain⟨_,_,h6,_⟩:=eU h5;cases h6
     ·have:=(jd h5).1;cases this
      symm;assumption
    ·have:=(jd hr).1;cases this
     symm;assumption
   ·have:=(jd hr).1;cases this;rfl
  exact(h.fs f0 h0).copy h1 hd hv
 ·rename_i t s fi ho;simp only[execOp,ho]at hr;have hr:=G7 hr;unfold BM at hr;obtain⟨de,w1,h1,h2⟩:=eU hr;obtain⟨hu,rfl⟩:=Dq h1;rw[hu]at hf;split at hf
  ·rename_i fs heq;cases heq;simp only at h2;split at hf
   ·rename_i fl hfl;rw[hfl]at h2;simp only at h2;obtain⟨p,w2,h3,h4⟩:=eU h2;obtain⟨hp,rfl⟩:=U5 h3;obtain⟨q,w3,h5,h6⟩:=eU h4;obtain⟨rfl,rfl⟩:=jd h6;unfold fieldPlace at h5;obtain⟨k,w4,h7,h8⟩:=eU h5;obtain⟨i,hi,rfl,rfl⟩:=Gf h7;rw[hi]at hf;simp only at hf;split at hf
    ·cases hf
    ·rename_i hne;rw[au hne]at h8;obtain⟨rfl,_⟩:=jd h8;rw[eG]at hf;obtain⟨f0,h9,h10⟩:=hf;exact(h.fs f0 h9).nK h10 hd hp rfl
   ·cases hf
  ·cases hf
 ·rename_i t s ix ho;simp only[execOp,ho]at hr;have hr:=G7 hr;split at hf
  ·rename_i e hu;split at hf
   ·rename_i i hi;rw[eG]at hf;obtain⟨f0,h0,h1⟩:=hf;unfold xC at hr;obtain⟨ki,w1,h2,h3⟩:=eU hr;obtain⟨k,ii⟩:=ki;have hw1:w1=w:=by
     unfold asIntOf at h2;split at h2<;>first|(obtain⟨_,rfl⟩:=jd h2;rfl)|cases h2
    subst hw1;obtain⟨de,w2,h4,h5⟩:=eU h3;obtain⟨hu',rfl⟩:=Dq h4;rw[hu]at hu';cases hu';rw[e1]at h5;cases hs:a.tmps.getD s undef with
    | slice base len cap=>
      rw[hs]at h5;obtain⟨bl,w3,h6,h7⟩:=eU h5;obtain⟨rfl,rfl⟩:=jd h6;simp only at h7;obtain⟨de2,w4,h8,h9⟩:=eU h7;obtain⟨hu2,rfl⟩:=Dq h8;rw[hu]at hu2;cases hu2;cases base with
      | none=>simp only at h9;exact(XB h9).elim
      | some p=>
        simp only at h9;split at h9
        ·obtain⟨sz,w5,h12,h13⟩:=eU h9;obtain⟨i',hi',rfl,rfl⟩:=Gf h12;rw[hi]at hi';cases hi';have hv:=(jd h13).1;exact(h.fs f0 h0).Aj h.good h1 hd hs hv
        ·split at h9
         ·cases h9
         ·exact(XB h9).elim
    |_=>rw[hs]at h5;obtain⟨_,_,h6,_⟩:=eU h5;cases h6
   ·cases hf
  ·cases hf
 ·rename_i t s fi ho;simp only[execOp,ho,e1]at hr;have hr:=G7 hr;unfold Gv at hr;obtain⟨de,w1,h1,h2⟩:=eU hr;obtain⟨hu,rfl⟩:=Dq h1;rw[hu]at hf;split at hf
  ·rename_i fs heq;cases heq;simp only at h2;split at hf
   ·rename_i fl hfl;rw[hfl]at h2;simp only at h2;obtain⟨cs,w2,h3,h4⟩:=eU h2;have hcs:a.tmps.getD s undef = .agg cs/\w2=w1:=by
     unfold asAgg at h3;split at h3
     ·rename_i heq;obtain⟨rfl,rfl⟩:=jd h3;exact⟨heq,rfl⟩
     ·cases h3
    obtain⟨hcs,rfl⟩:=hcs;unfold part at h4;obtain⟨b,w3,h5,h6⟩:=eU h4;obtain⟨⟨de',hde,rfl⟩,rfl⟩:=aee h5;split at hf
    ·rename_i de2 i aob hi;rw[hde]at aob;cases aob;rw[eG]at hf;obtain⟨f0,h7,h8⟩:=hf;refine(h.fs f0 h7).part h8 hd λj u hj hu=>?_;rw[hcs]at hu;simp only[oH]at hu;cases hb:Le de' with
     | true=>
       rw[hb]at h6 hj;simp only[jY]at h6 hj;obtain⟨k,w4,h9,h10⟩:=eU h6;obtain⟨i',hi',rfl,rfl⟩:=Gf h9;rw[hi]at hi';cases hi';have hv:=(jd h10).1;subst hv
       left
       simp only[oH];have hlt:=(eH.1 hu).1;rw[Array.getElem?_extract];rw[aA aI];exact hu
     | false=>
       rw[hb]at h6 hj;simp only[qw,if_false]at h6 hj;have hj0:j=0:=(by omega);subst hj0;rw[sG]at hu;rw[hu]at h6;have hv:=(jd h6).1;subst hv;by_cases hs:∃b n c,v = .slice b n c
       ·left;rw[NQ hs];rfl
       ·exact .inr hs
    ·cases hf
   ·cases hf
  ·cases hf
 ·rename_i s i ho;rw[eG]at hf;obtain⟨f0,h0,h1⟩:=hf;simp only[execOp,ho,e1]at hr;have hr:=G7 hr;unfold FD at hr;split at hr
  ·rename_i vs heq;split at hr
   ·rename_i x hx;have hv:=(jd hr).1;subst hv;exact(h.fs f0 h0).ah1 h1 hd heq hx
   ·cases hr
  ·cases hr
 ·rename_i t s ho;simp only[execOp,ho,e1]at hr;have hr:=G7 hr;unfold qM at hr;obtain⟨p,w1,h1,h2⟩:=eU hr;obtain⟨hp,rfl⟩:=U5 h1;obtain⟨_,hld⟩:=Nz h2;split at hf
  ·rename_i de i hde hi;rw[List.mem_flatMap]at hf;obtain⟨f0,h3,h4⟩:=hf;refine FN.ldv h.good h.fs h3 h4 hd hp λj u hj hu=>?_;rcases hld with⟨de',i',h5,h6,h7,h8⟩|⟨de',h5,h6,h7⟩
   ·rw[hde]at h5;cases h5;rw[hi]at h7;cases h7;rw[h6]at hj;exact .inl (h8 j u hj hu)
   ·rw[hde]at h5;cases h5;rw[h6]at hj;simp only[qw,if_false]at hj;have hj0:j=0:=(by omega);subst hj0;rw[Addr.add_zero]at hu;have hv:=h7 u hu;subst hv;by_cases hs:∃b n c,v = .slice b n c
    ·left;rw[NQ hs];rfl
    ·exact .inr hs
  ·cases hf
 ·cases hf
end
end
section
abbrev RR :=List (Nat×Nat×Option Nat)
def Rq (g:Own)(dp:Nat)(cs:Array Value)(R:RR):Prop:=∀e,e∈R->∃u,cs[e.1]? = some u/\match e.2.2 with
 |some m=>GR g u e.2.1 (.tag dp m)
 |none=>Ze u
def ak4 : Value->Bool
 |.slice none 0 0=>true
 |_=>false
theorem UJ {v:Value}(h:ak4 v=true):Ze v:=by
 unfold ak4 at h;split at h
 ·rfl
 ·cases h
def Ri (z:Array Value)(L:List (Nat×Nat)):Option RR:=if L.all λe=>(match z[e.1]? with|some v=>ak4 v|none=>false)then some (L.map λe=>(e.1,e.2,none))else none
def Gu (Γ : List OF)(off size:Nat):Operand->RR
 | .tmp s=> Γ.filterMap λf=>match f with
   |.ref y r=>if y=s/\r.off<size then some (off+r.off,r.ty,some r.m)else none
   |_=>none
 |_=>[]
def aay (place:Nat->Option (Nat×Nat))(Γ : List OF):List (Nat×Operand)->RR->RR
 |[],R=>R
 | (i,x)::r,R=>match place i with
   |some (off,size)=>aay place Γ r ((R.filter λe=>decide (e.1<off)||decide (off+size<=e.1))++Gu Γ off size x)
   |none=>R
section
variable {P:Program} {F:TE} {g:Own} {dp:Nat} {Γ : List OF} {a:Act} {w:World}
theorem abZ {z:Array Value}{L:List (Nat×Nat)}{R:RR}(h:Ri z L=some R):Rq g dp z R:=by
 unfold Ri at h;split at h
 ·rename_i hz;cases h;intro e he;rw[bu]at he;obtain⟨e0,h0,rfl⟩:=he;rw[bf]at hz;have:=hz e0 h0;cases hc:z[e0.1]? with
  |none=>rw[hc]at this;cases this
  |some v=>rw[hc]at this;exact⟨v,rfl,UJ this⟩
 ·cases h
theorem Rq.splice {cs:Array Value}{R:RR}(h:Rq g dp cs R){off:Nat}{v:Value}(hfit:off+v.cells.size<=cs.size){x:Operand}(hΓ : ∀f,f ∈ Γ -> FN P F g dp a w f)(hv:a.eval x=v){cs':Array Value}(hcs:cs'.toList=splice cs.toList off v.cells.toList) :
 Rq g dp cs' ((R.filter λe=>decide (e.1<off)||decide (off+v.cells.size<=e.1))++Gu Γ off v.cells.size x):=by
 have hget:∀j:Nat,cs'[j]? = if j<off then cs[j]? else if j<off+v.cells.size then v.cells[j-off]? else cs[j]?:= λj=>by rw[<- xw,hcs,ru _ _ _ _ (by simpa using hfit)];simp
 intro e he;rw[bG]at he;rcases he with he|he
 ·rw[bF]at he;obtain⟨h1,h2⟩:=he;obtain⟨u,hu,hg⟩:=h e h1;simp only[Bool.or_eq_true,aF]at h2;refine⟨u,?_,hg⟩;rw[hget];rcases h2 with h2|h2
  ·rw[aA h2];exact hu
  ·rw[au aI,au aI];exact hu
 ·unfold Gu at he;split at he
  ·rename_i s;rw[eG]at he;obtain⟨f,hf,he⟩:=he;split at he
   ·rename_i y r;split at he
    ·rename_i hc;cases he;obtain⟨rfl,hlt⟩:=hc;obtain⟨u,hu,hg⟩:=hΓ _ hf;have e1:a.eval (.tmp y)=a.tmps.getD y undef:=rfl;rw[e1]at hv;rw[hv]at hu;refine⟨u,?_,hg⟩;rw[hget,au aI,aA aI,show off+r.off-off=r.off by omega];exact hu
    ·cases he
   ·cases he
  ·cases he
theorem Vy {place:Nat->Option (Nat×Nat)}(hΓ : ∀f,f ∈ Γ -> FN P F g dp a w f):∀(ps:List (Nat×Operand)) (cs out:Array Value) (R:RR),Rq g dp cs R->uT place cs (ps.map λp=>(p.1,a.eval p.2))=some out->Rq g dp out (aay place Γ ps R)/\out.size=cs.size
 | [],cs,out,R,h,he=>by simp only[jP,uT]at he;cases he;exact⟨h,rfl⟩
 | (i,x)::r,cs,out,R,h,he=>by
   simp only[bU,uT]at he;simp only[aay];cases hp:place i with
   |none=>rw[hp]at he;cases he
   | some q=>
     obtain⟨off,size⟩:=q;rw[hp]at he
     dsimp only at he⊢
     split at he
     ·cases he
     ·rename_i hc;have h1:(a.eval x).cells.size=size:=(by simp at hc;exact hc.1);have h2:off+(a.eval x).cells.size<=cs.size:=(by simp at hc;exact hc.2);have hf:=foldl_set (a.eval x).cells off cs h2;have:=Vy hΓ r _ out _ (h.splice h2 hΓ rfl hf) he;rw[h1]at this;refine⟨this.1,this.2.trans ?_⟩;rw[<- nN,hf,length_splice _ _ _ (by simpa using h2)];simp
def mk (d j:Nat):Nat:=1000+d*100+j
def rowOf (d:Nat)(R:RR):List Ref:=R.map λe=>⟨e.1,e.2.1,match e.2.2 with|some m=>m|none=>mk d e.1⟩
theorem Wi {cs:Array Value}{R:RR}(h:Rq g dp cs R)(d:Nat):∀r,r∈rowOf d R->∃u,cs[r.off]? = some u/\GR g u r.ty (.tag dp r.m):=by
 intro r hr;rw[rowOf,bu]at hr;obtain⟨e,he,rfl⟩:=hr;obtain⟨u,hu,hg⟩:=h e he;refine⟨u,hu,?_⟩;cases hm:e.2.2 with
 |some m=>rw[hm]at hg;exact hg
 |none=>rw[hm]at hg;exact .inl hg
theorem VU {t:TypeId}{v:Value}{p:Addr}{w w':World}(h:(newVar t v).run P w = .ok p w'):p=⟨w.heap.size,0,none⟩/\w'=w.alloc (.cells v.cells t):=by rw[GY]at h;cases h;exact⟨rfl,rfl⟩
theorem Rj {t:TypeId}{z:Value}{w w':World}(h:(zeroValue t).run P w = .ok z w'):(∃i,P.info? t=some i/\i.zero=some z)/\w'=w:=by
 unfold zeroValue at h;obtain⟨i,w1,h1,h2⟩:=eU h;obtain⟨hi,rfl⟩:=KA h1;split at h2
 ·rename_i v hv;obtain⟨rfl,rfl⟩:=jd h2;exact⟨⟨i,hi,hv⟩,rfl⟩
 ·cases h2
def ZN (d:Nat)(row:List Ref):List OF:=.vp d d 0::row.map (.row d)
theorem OW.ZN (h:OW P F g dp Γ a w){d:Nat}(hd:d<a.tmps.size){cs:Array Value}{e:Nat}{row:List Ref}(hc:∀r,r∈row->∃u,cs[r.off]? = some u/\GR g u r.ty (.tag dp r.m)){N:Nat}(hN:N<=w.heap.size) :
 ∃g',Rel dp N g g'/\OW P F g' dp (ZN d row ++ Γ.filter (Je d)) (a.put (some d) (.pointer (some ⟨w.heap.size,0,none⟩))) (w.alloc (.cells cs e)):=by
 have hn:g w.heap.size=none:=by
  cases hg:g w.heap.size with
  |none=>rfl
  |some B=>exact eF (h.good.lt hg) (BB _)
 have h1:=(h.drop d (.pointer (some ⟨w.heap.size,0,none⟩))).newVar (cs:=cs) (e:=e) (row:=row) (d:=dp) (b:=d) hc;refine⟨_,Rel.new hn hN,h1.good,λf hf=>?_⟩;rw[bG]at hf;have hs:=iq (v:=.pointer (some ⟨w.heap.size,0,none⟩)) hd;have hg:(g.upd w.heap.size (.var row dp d)) w.heap.size=some (.var row dp d):=by simp[yO]
 rcases hf with hf|hf
 ·simp only[Ab.ZN,aK,bu]at hf;rcases hf with rfl|⟨r,hr,rfl⟩
  ·exact⟨w.heap.size,row,hs,hs,hg⟩
  ·exact⟨w.heap.size,row,hs,hg,hr⟩
 ·exact h1.fs f hf
end
end
end Go.Ab
