/- What abstract values, states and codes of the program's language mean, and that they are sound (part 1). No conditions. -/
import Derived.Below
import Derived.OwnWalk
import Derived.Orders
import Derived.Lib.Bytealg
import Derived.Lib.Overlaps
import Derived.Laws.Externs
import Derived.KernelRfl
import Derived.Lib.ItoaNum
import Derived.Laws.Cells
import Derived.Lib.Strings
import Derived.Laws.BytesString
import Derived.Laws.MakeOwn
import Derived.Laws.Tables
import Derived.Laws.CopyRow
import Derived.Laws.AppendOwn
import Derived.Laws.OwnMore
import Derived.Tactics
import Derived.Shelf.Strings.Builder1
import Derived.Shelf.Strconv.Itoa3
import Derived.Lib.AppendIntMem
import Derived.Shelf.Strings.OnBuilder
import Derived.Shelf.Strings.Prefix
import Derived.Shelf.Strings.Split
import Derived.Shelf.Strconv.AtoiAll
import Derived.Test.YtcoolhkhnglfgaaGreatDoorProg
import Derived.Lib.ItoaLen
import Derived.Lib.AtoiAllCases
import Derived.Lib.IndexBytes
import Derived.RangeFuncNested
import Derived.RangeFuncBound
import Derived.RangeFuncCalls
import Derived.RangeFuncLeaves
import Derived.Shelf.Abstract
import Derived.Shelf.RegionOpen
import Derived.WalkKit
import Derived.OwnWalkIn
import Derived.TacticsInMore
import Derived.LoopNIn
import Derived.LoopIn
import Derived.RangeFuncBox
import Derived.Maps.AppendAt
import Derived.Deep.Onto
import Derived.ProofKit
import Derived.Lib.LaidTab
import Derived.OpenShut
import Derived.Carry
import Derived.Stop.LaidErr
import Derived.Shelf.Vars
import Derived.Test.YtcoolhkhnglfgaaGreatDoorCards
import Derived.Test.YtcoolhkhnglfgaaGreatDoorTie
import Derived.Deep.DeepHandedRow
import Derived.Deep.DeepWitnessRowRef
import Derived.Lay
set_option linter.unusedVariables false
set_option linter.unusedSimpArgs false
open Array renaming ext'->Bi,range->Dk,getElem?_eq_getElem->oO,getElem?_eq_some_iff->oq,getD_eq_getD_getElem?->pM,getElem?_range->ry,empty_append->sF,getElem?_toList->uV,length_toList->uw,getElem?_map->wG,getElem?_eq_none->xy,size_append->zo
open BitVec renaming ofInt->BZ
open Bool renaming and_eq_true->ah,not_eq_true'->xk
open Go.Addr renaming add->vg
open Go.Builtin renaming clear_->CO,zeroCells->bH,append_->jB,copy_->rO,firstCells->sV,lenOf->uh
open Go.Deferred renaming ofValue->yA
open Go.Extern renaming allRows->CP,findNext->uG,allNextRows->uX,allGenericRows->wF,find->wV,allTypedRows->xB
open Go.Extern.SlicesOverlaps renaming overlaps->wU
open Go.Instr renaming fill->BD,slice->Be,alloc->Ec,sureAddr->tu,loadAt->vV,sliceAt->xI,sliceBounds->yh,indexAt->zY
open Go.IntKind renaming i64->Ed
open Go.Lib renaming indexByte->dX,compareBytes->jI
open Go.Op renaming bytesLess->iL,equalIn->yV
open Go.Region renaming wanted->zZ
open Go.Result renaming andThen_ok->dD
open Go.Sem renaming run_pure->fM,run_bind->gG
open Go.Value renaming cells->Ef,int->lY,pointer->xK
open Go.World renaming shape?->AA,cell?->oQ
open Int renaming natCast_mul->D6,ofNat_le->EY,toNat_natCast->ai
open List renaming length_replicate->AY,mem_flatMap->Ac,not_mem_nil->Ad,getElem?_range->BH,mem_map_of_mem->BI,getElem?_set->CS,getElem?_eq_getElem->aB,mem_append->aW,length_append->ay,flatMap_cons->bF,map_cons->bJ,getElem?_take->bT,replicate->bU,all_eq_true->bg,getElem?_eq_some_iff->bn,getD->bu,mem_cons_self->bz,mem_cons->cO,length_cons->dB,mem_cons_of_mem->dF,all_cons->dJ,getElem_mem->dO,getElem?_append_left->dU,length_take->dZ,append_assoc->dh,eq_nil_of_length_eq_zero->di,append_nil->eX,getElem?_append_right->fF,mem_of_mem_take->fJ,getElem?_map->fQ,length_nil->gI,nil_append->gJ,mem_of_getElem?->iM,mem_append_right->jX,getElem?_drop->ja,length_map->kJ,map_nil->kM,size_toArray->lM,foldl_cons->lT,mem_append_left->mO,mem_of_mem_drop->mP,getElem?_eq_none->nG,map_toArray->nS,mem_map->oZ,map_congr_left->pO,mem_or_eq_of_mem_set->qR,getD_eq_getElem?_getD->qh,getElem?_of_mem->ug,eq_of_mem_replicate->uk,map_take->vF,replicate_succ->vY,take_zero->wW,getElem?_zip_eq_some->yY
open List.cons renaming injEq->vX
open Nat renaming le_of_not_lt->Af,min_comm->Cc,mul_comm->Ce,le_refl->au,mul_le_mul_right->bD,add_mul->dQ,min->fO,le_trans->ig,zero_add->kD,add_assoc->sD,mul_one->vw,add_zero->wB,mod_lt->xN,mul_add->yE,lt_of_lt_of_le->yN,add_comm->zO
open Option renaming map_none->kX,map_some->lU
open Option.some renaming injEq->aJ
open Prod.mk renaming injEq->aI
open UInt8 renaming ofNat->dR
namespace Go.Ab
open Go
abbrev IH :=Nat->Option (Array Value)
def IH.cell (I:IH)(a:Addr):Option Value:=
 if a.spot.isSome then none else match I a.block with
  |some c=>c[a.off]?
  |none=>none
def IH.le (I J:IH):Prop:=∀b c,I b=some c->J b=some c
theorem IH.le_refl (I:IH):I.le I:=λ_ _ h=>h
theorem IH.le_trans {I J K:IH}(h:I.le J)(k:J.le K):I.le K:=λb c e=>k b c (h b c e)
theorem IH.Jy {I J:IH}(h:I.le J){a:Addr}{v:Value}(hc:I.cell a=some v):J.cell a=some v:=by
 unfold IH.cell at *;split at hc
 ·cases hc
 ·cases hb:I a.block with
  |none=>simp[hb]at hc
  |some c=>simp[hb]at hc;rename_i hs;simp[hs,h _ _ hb,hc]
def Agree (I:IH)(w:World):Prop:=∀b c,I b=some c->∃e fr,w.heap[b]? = some (.cells c e fr)
theorem Agree.cell {I:IH}{w:World}(h:Agree I w){a:Addr}{v:Value}(hc:I.cell a=some v):w.cell? a=some v:=by
 unfold IH.cell at hc;split at hc
 ·cases hc
 ·cases hb:I a.block with
  |none=>simp[hb]at hc
  | some c=>obtain⟨e,fr,hw⟩:=h _ _ hb;rename_i hs;simp[hb]at hc;simp[oQ,hw,hs,hc]
theorem E8 {w:World}{b:Nat}{o:Obj}(h:w.heap[b]? = some o):b<w.heap.size:=(oq.1 h).1
theorem Agree.lt {I:IH}{w:World}(h:Agree I w){b:Nat}{c:Array Value}(hc:I b=some c):b<w.heap.size:=by obtain⟨e,fr,hw⟩:=h _ _ hc;exact E8 hw
inductive Cell where
 |lit (v:Value)
 |str (l:List UInt8)
 |sl (sz:Nat) (es:List (List Cell))
 deriving Inhabited
inductive Rd (I:IH):Value->Cell->Prop
 |lit (v:Value) (hv:v.oneCell'=true):Rd I v (.lit v)
 |str (l:List UInt8) (h:l.length<=maxLen):Rd I (.string ⟨⟨l⟩⟩) (.str l)
 |sl (a:Option Addr) (len cap sz:Nat) (es:List (List Cell)) (u:Nat->Nat->Value)
     (hlen:es.length=len) (hcap:len<=cap) (hmax:cap<=maxLen) (hsz:∀e,e∈es->e.length=sz)
     (ha:0<len->a≠none)
     (hcell:∀ad,a=some ad->∀i j,i<len->j<sz->I.cell (ad.add (i*sz+j))=some (u i j))
     (hr:∀i j c,(es.getD i [])[j]? = some c->Rd I (u i j) c):Rd I (.slice a len cap) (.sl sz es)
theorem Rd.mono {I J:IH}(hle:I.le J){v:Value}{c:Cell}(h:Rd I v c):Rd J v c:=by
 induction h with
 |lit v hv=>exact .lit v hv
 |str l h=>exact .str l h
 | sl a len cap sz es u hlen hcap hmax hsz ha hcell hr ih=>exact .sl a len cap sz es u hlen hcap hmax hsz ha (λad e i j hi hj=>IH.Jy hle (hcell ad e i j hi hj)) ih
theorem Rd.one {I:IH}{v:Value}{c:Cell}(h:Rd I v c):v.oneCell'=true:=by
 cases h with
 |lit v hv=>exact hv
 |str l h=>rfl
 |sl=>rfl
inductive AC where
 |c (x:Cell)
 |ptr (b off:Nat)
 |own (b n sz:Nat)
 |zI (b i sz off:Nat)
 |sub (b lo n:Nat) (c:Option Nat) (sz:Nat)
 |jC (sz:Nat)
 |Gh (cs:List Cell)
 |fn (f:FuncId) (caps:List Nat)
 |opt (T b:Nat)
 |vS (b n:Nat)
 |err (g:Bool)
 |IZ
 deriving Inhabited
abbrev Ren :=Nat->Option (Nat×Nat)
def Ren.le (ρ σ:Ren):Prop:=∀b x,ρ b=some x->σ b=some x
theorem Ren.le_refl (ρ:Ren):ρ.le ρ:=λ_ _ h=>h
def GC (I:IH)(ρ:Ren)(v:Value):AC->Prop
 |.c x=>Rd I v x
 |.ptr b off=>∃k cap,ρ b=some (k,cap)/\v = .pointer (some ⟨k,off,none⟩)
 |.own b n _=>∃k cap a c,ρ b=some (k,cap)/\v = .slice a n c/\n<=c/\c<=cap/\(cap≠0->a=some ⟨k,0,none⟩)
 |.zI b i sz off=>∃k cap,ρ b=some (k,cap)/\v = .pointer (some ⟨k,i*sz+off,none⟩)
 |.sub b lo n c sz=>∃k cap a c',ρ b=some (k,cap)/\v = .slice a n c'/\n<=c'/\lo+c'<=cap/\(∀c0,c=some c0->c'=c0)/\(c'≠0\/(lo=0/\cap≠0)->a=some ⟨k,lo*sz,none⟩)
 |.jC _=>v = .slice none 0 0
 |.Gh cs=>∃p:Addr,v = .pointer (some p)/\∀(j:Nat) (c:Cell),cs[j]? = some c->∃u,I.cell (p.add j)=some u/\Rd I u c
 |.fn f caps=>∃ks:List Nat,ks.length=caps.length/\(∀(j b k:Nat),caps[j]? = some b->ks[j]? = some k->∃cap,ρ b=some (k,cap)) /\
  v = .func (.func f) #[] (ks.map λk=>xK (some ⟨k,0,none⟩)).toArray
 |.opt T b=>∃k,ρ b=some (k,T)/\(v = .pointer none\/v = .pointer (some ⟨k,0,none⟩))
 |.vS b n=>∃k cap,ρ b=some (k,cap)/\n<=cap/\((cap=0/\v = .slice none 0 0)\/(cap≠0/\v = .slice (some ⟨k,0,none⟩) n cap))
 |.err g=>if g=true then ∃t p,v = .iface t p else v = .nilIface
 |.IZ=>v.oneCell'=true
theorem GC.mono {I J:IH}(hle:I.le J){ρ σ:Ren}(hr:ρ.le σ){v:Value}{x:AC}(h:GC I ρ v x):GC J σ v x:=by
 cases x with
 |c x=>exact Rd.mono hle h
 |ptr b off=>obtain⟨k,cap,h1,h2⟩:=h;exact⟨k,cap,hr _ _ h1,h2⟩
 |own b n sz=>obtain⟨k,cap,a,c,h1,h2⟩:=h;exact⟨k,cap,a,c,hr _ _ h1,h2⟩
 |zI b i sz off=>obtain⟨k,cap,h1,h2⟩:=h;exact⟨k,cap,hr _ _ h1,h2⟩
 |sub b lo n c sz=>obtain⟨k,cap,a,c',h1,h2⟩:=h;exact⟨k,cap,a,c',hr _ _ h1,h2⟩
 |jC sz=>exact h
 | Gh cs=>obtain⟨p,hv,hc⟩:=h;exact⟨p,hv,λj c hj=>let ⟨u,h1,h2⟩:=hc j c hj;⟨u,IH.Jy hle h1,h2.mono hle⟩⟩
 | fn f caps=>obtain⟨ks,h1,h2,h3⟩:=h;exact⟨ks,h1,λj b k hb hk=>let ⟨cap,hc⟩:=h2 j b k hb hk;⟨cap,hr _ _ hc⟩,h3⟩
 |opt T b=>obtain⟨k,h1,h2⟩:=h;exact⟨k,hr _ _ h1,h2⟩
 |vS b n=>obtain⟨k,cap,h1,h2⟩:=h;exact⟨k,cap,hr _ _ h1,h2⟩
 |err g=>exact h
 |IZ=>exact h
theorem GC.one {I:IH}{ρ:Ren}{v:Value}{x:AC}(h:GC I ρ v x):v.oneCell'=true:=by
 cases x with
 |c x=>exact Rd.one h
 |ptr b off=>obtain⟨k,cap,h1,rfl⟩:=h;rfl
 |own b n sz=>obtain⟨k,cap,a,c,h1,rfl,_⟩:=h;rfl
 |zI b i sz off=>obtain⟨k,cap,h1,rfl⟩:=h;rfl
 |sub b lo n c sz=>obtain⟨k,cap,a,c',h1,rfl,_⟩:=h;rfl
 |jC sz=>simp only[GC]at h;subst h;rfl
 |Gh cs=>obtain⟨p,rfl,hc⟩:=h;rfl
 |fn f caps=>obtain⟨ks,h1,h2,rfl⟩:=h;rfl
 |opt T b=>obtain⟨k,h1,rfl|rfl⟩:=h<;>rfl
 |vS b n=>obtain⟨k,cap,h1,_,⟨_,rfl⟩|⟨_,rfl⟩⟩:=h<;>rfl
 | err g=>
   simp only[GC]at h;split at h
   ·obtain⟨t,p,rfl⟩:=h;rfl
   ·subst h;rfl
 |IZ=>exact h
inductive Box where
 |absent
 |dead
 |var (xs:List AC)
 |dat (sz:Nat) (es:List (List Cell))
 |EP (sz:Nat) (es:List (List Cell))
 |row (e:Nat) (l:List UInt8)
 deriving Inhabited
def Box.uses (x:Box)(p:Option (Nat×Nat))(k:Nat):Prop:=
 match x with
 |.var _=>∃cap,p=some (k,cap)
 |.dat _ _=>∃cap,p=some (k,cap)/\cap≠0
 |.row _ _=>∃cap,p=some (k,cap)/\cap≠0
 |_=>False
def Dl (I:IH)(ρ:Ren)(w:World)(b:Nat):Box->Prop
 |.absent=>ρ b=none
 |.dead=>True
 |.var xs=>∃k cap cs,ρ b=some (k,cap)/\w.heap[k]? = some (.cells cs cap (0,0))/\cs.size=xs.length /\
  ∀(j:Nat) (u:Value) (x:AC),cs[j]? = some u->xs[j]? = some x->GC I ρ u x
 |.dat sz es=>∃k cap,ρ b=some (k,cap)/\es.length<=cap/\cap<=maxLen/\(∀e,e∈es->e.length=sz) /\
  (cap≠0->∃cs e,w.heap[k]? = some (.cells cs e (0,0))/\cs.size=cap*sz/\(∀(j:Nat) (u:Value),cs[j]? = some u->u.oneCell'=true) /\
   ∀(i j:Nat) (c:Cell),(es.getD i [])[j]? = some c->∃u,cs[i*sz+j]? = some u/\Rd I u c)
 |.EP sz es=>∃k cap,ρ b=some (k,cap)/\es.length<=cap/\cap<=maxLen/\(∀e,e∈es->e.length=sz) /\
  (cap≠0->∃cs,I k=some cs /\
   ∀(i j:Nat) (c:Cell),(es.getD i [])[j]? = some c->∃u,cs[i*sz+j]? = some u/\Rd I u c)
 |.row e l=>∃k cap,ρ b=some (k,cap)/\l.length<=cap/\cap<=maxLen /\
  (cap≠0->∃cs,w.heap[k]? = some (.cells cs e (0,0))/\cs.size=cap/\(∀(j:Nat) (u:Value),cs[j]? = some u->u.oneCell'=true) /\
   ∀(j:Nat) (x:UInt8),l[j]? = some x->cs[j]? = some (.int .u8 x.toNat))
structure BX (I:IH)(ρ:Ren)(w:World)(bx:Nat->Box):Prop where
 ok:∀b,Dl I ρ w b (bx b)
 inj:∀b b' k,(bx b).uses (ρ b) k->(bx b').uses (ρ b') k->b=b'
 fresh:∀b k,(bx b).uses (ρ b) k->I k=none
theorem Dl.lt {I:IH}{ρ:Ren}{w:World}{b k:Nat}{x:Box}(h:Dl I ρ w b x)(hu:x.uses (ρ b) k):k<w.heap.size:=by
 cases x with
 |absent=>exact hu.elim
 |dead=>exact hu.elim
 | var xs=>obtain⟨k',cap,cs,hr,hw,_⟩:=h;obtain⟨cap',hu⟩:=hu;rw[hr]at hu;simp only[aJ,aI]at hu;rw[<- hu.1];exact E8 hw
 |EP sz es=>exact hu.elim
 | row e l=>obtain⟨k',cap,hr,_,_,h⟩:=h;obtain⟨cap',hu,h0⟩:=hu;rw[hr]at hu;simp only[aJ,aI]at hu;obtain⟨rfl,rfl⟩:=hu;obtain⟨cs,hw,_⟩:=h h0;exact E8 hw
 | dat sz es=>obtain⟨k',cap,hr,_,_,_,h⟩:=h;obtain⟨cap',hu,h0⟩:=hu;rw[hr]at hu;simp only[aJ,aI]at hu;obtain⟨rfl,rfl⟩:=hu;obtain⟨cs,e,hw,_⟩:=h h0;exact E8 hw
inductive AV where
 |one (x:AC)
 |agg (xs:List AC)
 |wu (xs:List (Bool×List AC))
 deriving Inhabited
def Jo (I:IH)(ρ:Ren)(vs:List Value)(xs:List AC):Prop:=
 vs.length=xs.length/\∀(j:Nat) (v:Value) (x:AC),vs[j]? = some v->xs[j]? = some x->GC I ρ v x
theorem Jo.mono {I J:IH}(hle:I.le J){ρ σ:Ren}(hr:ρ.le σ){vs:List Value}{xs:List AC}(h:Jo I ρ vs xs):Jo J σ vs xs:=
 ⟨h.1,λj v x hv hx=>(h.2 j v x hv hx).mono hle hr⟩
def GP (I:IH)(ρ:Ren)(v:Value)(p:Bool×List AC):Prop:=
 if p.1 then ∃cs:Array Value,v = .agg cs/\Jo I ρ cs.toList p.2 else ∃x,p.2=[x]/\GC I ρ v x
def GV (I:IH)(ρ:Ren)(v:Value):AV->Prop
 |.one x=>GC I ρ v x
 |.agg xs=>∃cs:Array Value,v = .agg cs/\Jo I ρ cs.toList xs
 |.wu ps=>∃vs:Array Value,v = .tuple vs/\vs.size=ps.length/\∀(j:Nat) (v:Value) (p:Bool×List AC),vs[j]? = some v->ps[j]? = some p->GP I ρ v p
theorem GP.mono {I J:IH}(hle:I.le J){ρ σ:Ren}(hr:ρ.le σ){v:Value}{p:Bool×List AC}(h:GP I ρ v p):GP J σ v p:=by
 unfold GP at *;split<;>rename_i hp
 ·rw[if_pos hp]at h;obtain⟨cs,e,hc⟩:=h;exact⟨cs,e,hc.mono hle hr⟩
 ·rw[if_neg hp]at h;obtain⟨x,e,hc⟩:=h;exact⟨x,e,hc.mono hle hr⟩
theorem GV.mono {I J:IH}(hle:I.le J){ρ σ:Ren}(hr:ρ.le σ){v:Value}{x:AV}(h:GV I ρ v x):GV J σ v x:=by
 cases x with
 |one x=>exact GC.mono hle hr h
 |agg xs=>obtain⟨cs,e,hc⟩:=h;exact⟨cs,e,hc.mono hle hr⟩
 |wu ps=>obtain⟨vs,e,hl,hc⟩:=h;exact⟨vs,e,hl,λj v p hv hp=>(hc j v p hv hp).mono hle hr⟩
inductive Slot where
 |none
 |v (g:Bool) (x:AV)
def GSl (I:IH)(ρ:Ren)(v:Value):Slot->Prop
 |.none=>True
 |.v g x=>(g=true->GV I ρ v x)/\(g=false->v=undef)
theorem GSl.mono {I J:IH}(hle:I.le J){ρ σ:Ren}(hr:ρ.le σ){v:Value}{s:Slot}(h:GSl I ρ v s):GSl J σ v s:=by
 cases s with
 |none=>trivial
 |v g x=>exact⟨λhg=>(h.1 hg).mono hle hr,h.2⟩
structure iy where
 tm:Nat->Slot
 bx:Nat->Box
theorem iy.ext' {s t:iy}(h1:s.tm=t.tm)(h2:s.bx=t.bx):s=t:=by cases s;cases t;simp at h1 h2;rw[h1,h2]
def iy.put (st:iy)(t:Nat)(s:Slot):iy:=⟨λt'=>if t'=t then s else st.tm t',st.bx⟩
def iy.xU (st:iy)(b:Nat)(x:Box):iy:=⟨st.tm,λb'=>if b'=b then x else st.bx b'⟩
theorem iy.Qv (st:iy)(t t':Nat)(s:Slot):(st.put t s).tm t'=if t'=t then s else st.tm t':=rfl
theorem iy.afD (st:iy)(t:Nat)(s:Slot):(st.put t s).bx=st.bx:=rfl
theorem iy.aej (st:iy)(b:Nat)(x:Box):(st.xU b x).tm=st.tm:=rfl
theorem iy.qH (st:iy)(b b':Nat)(x:Box):(st.xU b x).bx b'=if b'=b then x else st.bx b':=rfl
structure GS (I:IH)(ρ:Ren)(n:Nat)(st:iy)(a:Act)(w:World):Prop where
 agree:Agree I w
 bx:BX I ρ w st.bx
 tm:∀t,t<n->GSl I ρ (a.tmps.getD t undef) (st.tm t)
 size:a.tmps.size=n
 defers:a.defers=[]
structure KR (w w':World)(M:Nat->Prop):Prop where
 os:w'.os=w.os
 tape:w'.tape=w.tape
 output:w'.output=w.output
 size:w.heap.size<=w'.heap.size
 block:∀k,k<w.heap.size->¬M k->w'.heap[k]? = w.heap[k]?
theorem KR.refl (w:World)(M:Nat->Prop):KR w w M:=⟨rfl,rfl,rfl,au _,λ_ _ _=>rfl⟩
theorem KR.trans {a b c:World}{M N:Nat->Prop}(h:KR a b M)(k:KR b c N)(hN:∀x,x<a.heap.size->N x->M x):KR a c M:=
 ⟨k.os.trans h.os,k.tape.trans h.tape,k.output.trans h.output,ig h.size k.size,
  λx hx hm=>(k.block x (yN hx h.size) (λhn=>hm (hN x hx hn))).trans (h.block x hx hm)⟩
inductive oW where
 |t (s:Nat)
 |k (x:AC)
 deriving Inhabited
def Slot.g : Slot->Bool
 |.none=>false
 |.v g _=>g
def Slot.x : Slot->AV
 |.none=>.one .IZ
 |.v _ x=>x
def oW.ev (tm:Nat->Slot):oW->Slot
 |.t s=>tm s
 |.k x=>.v true (.one x)
def oW.slots : oW->List Nat
 |.t s=>[s]
 |.k _=>[]
inductive nH where
 |mv (x:oW)
 |pick (c a b:oW)
 |load (agg:Bool) (k:Nat) (p:oW)
 |store (agg:Bool) (k:Nat) (p x:oW)
 |alloc (l:Nat) (zs:List AC)
 |EJ (T e l r:Nat)
 |J6 (l sz n:Nat) (zs:List Cell)
 |box (l:Nat) (x:oW)
 |build (zs:List AC) (parts:List (Nat×Nat×oW))
 |kT (l sz n:Nat) (zs:List Cell) (parts:List (Nat×oW))
 |makes (l sz bytes:Nat) (zs:List Cell) (n m:oW)
 |bin (o:BinOp) (x y:oW)
 |beq (ng:Bool) (x y:oW)
 |not (x:oW)
 |neg (x:oW)
 |GH (k:IntKind) (x:oW)
 |PS (x:oW)
 |same (x:oW)
 |Ua (f:FuncId) (caps:List oW)
 |G7 (x:oW) (lo hi:Option oW)
 |Fe (sz:Nat) (x:oW) (lo hi:Option oW)
 |QC (sz n:Nat) (x:oW)
 |ES (x:oW)
 |jZ (off:Nat) (x:oW)
 |field (agg:Bool) (off k:Nat) (x:oW)
 |vN (sz:Nat) (x i:oW)
 |Qe (sz n:Nat) (x i:oW)
 |idxs (x i:oW)
 |extract (x:oW) (i:Nat)
 |len (x:oW)
 |lens (x:oW)
 |max (x y:oW)
 |min (x y:oW)
 |append (l sz bytes:Nat) (s x:oW)
 |copy (sz:Nat) (d x:oW)
 |shf (l:Bool) (x y:oW)
 |Za (x:oW)
 |yM (sz:Nat) (x:oW) (lo hi:Option oW)
 |sl3 (sz:Nat) (x lo hi mx:oW)
 |V7 (l sz bytes:Nat) (s x:oW)
 |Qz (sz:Nat) (d x:oW)
 |XP (sz:Nat) (zs:List Cell) (x:oW)
 |Zd (x y:oW)
 |RQ (ng:Bool) (x:oW)
 |ovl (x y:oW)
 |Zx (x y:oW)
 |WN (l sz bytes:Nat) (zs:List Cell) (s x:oW)
 |stop
 deriving Inhabited
def nH.oV : nH->List oW
 |.mv x|.load _ _ x|.box _ x|.not x|.neg x|.GH _ x|.PS x|.same x|.QC _ _ x|.ES x|.jZ _ x|.field _ _ _ x|.extract x _|.len x|.lens x|.Za x|.XP _ _ x|.RQ _ x=>[x]
 |.pick c a b=>[c,a,b]
 |.store _ _ p x=>[p,x]
 |.alloc _ _|.EJ _ _ _ _|.J6 _ _ _ _|.stop=>[]
 |.build _ ps=>ps.map (·.2.2)
 |.kT _ _ _ _ ps=>ps.map (·.2)
 |.makes _ _ _ _ n m=>[n,m]
 |.bin _ x y|.beq _ x y|.vN _ x y|.Qe _ _ x y|.idxs x y|.max x y|.min x y|.append _ _ _ x y|.copy _ x y|.shf _ x y|.V7 _ _ _ x y|.Qz _ x y|.Zd x y|.Zx x y|.ovl x y|.WN _ _ _ _ x y=>[x,y]
 |.sl3 _ x a b c=>[x,a,b,c]
 |.Ua _ cs=>cs
 |.G7 x lo hi|.Fe _ x lo hi|.yM _ x lo hi=>x::(lo.toList++hi.toList)
structure FR where
 vc:Prop
 v:AV
 sets:List (Nat×Box)
abbrev wR (k:IntKind)(n:Int):AV:=.one (.c (.lit (.int k n)))
abbrev yz (b:Bool):AV:=.one (.c (.lit (.bool b)))
abbrev Ie (l:List UInt8):AV:=.one (.c (.str l))
abbrev vSl (sz:Nat)(es:List (List Cell)):AV:=.one (.c (.sl sz es))
def FR.bad : FR:=⟨False,.one .IZ,[]⟩
def FR.ok (v:AV):FR:=⟨True,v,[]⟩
def Dc (o:BinOp)(k:IntKind)(a b:Int):FR:=
 match o with
 |.add=>.ok (wR k (k.wrap (a+b)))
 |.sub=>.ok (wR k (k.wrap (a-b)))
 |.mul=>.ok (wR k (k.wrap (a*b)))
 |.quo=>⟨b≠0,wR k (k.wrap (a.tdiv b)),[]⟩
 |.rem=>⟨b≠0,wR k (a.tmod b),[]⟩
 |.xor=>.ok (wR k (k.wrap (BZ k.bits a ^^^ BZ k.bits b).toNat))
 |.and=>.ok (wR k (k.wrap (BZ k.bits a &&& BZ k.bits b).toNat))
 |.eql=>.ok (yz (a==b))
 |.neq=>.ok (yz (a != b))
 |.lss=>.ok (yz (decide (a<b)))
 |.leq=>.ok (yz (decide (a<=b)))
 |.gtr=>.ok (yz (decide (b<a)))
 |.geq=>.ok (yz (decide (b<=a)))
 |_=>.bad
def Dj (o:BinOp)(a b:List UInt8):FR:=
 match o with
 |.add=>⟨a.length+b.length<=maxLen,Ie (a++b),[]⟩
 |.eql=>.ok (yz (a==b))
 |.neq=>.ok (yz (!(a==b)))
 |.lss=>.ok (yz (iL a b))
 |.leq=>.ok (yz (iL a b||a==b))
 |.gtr=>.ok (yz (!(iL a b||a==b)))
 |.geq=>.ok (yz (!(iL a b)))
 |_=>.bad
def OD (o:BinOp)(x y:AV):FR:=
 match x,y with
 |.one (.c (.lit (.int k a))),.one (.c (.lit (.int k' b)))=>⟨k=k'/\(Dc o k a b).vc,(Dc o k a b).v,[]⟩
 |.one (.c (.str a)),.one (.c (.str b))=>Dj o a b
 |_,_=>.bad
def U5 (neg:Bool)(x y:AV):FR:=
 match x,y with
 |.one (.c (.lit (.bool a))),.one (.c (.lit (.bool b)))=>.ok (yz (if neg then a != b else a==b))
 |_,_=>.bad
def Ou (t:Bool)(x y:AV):AV:=
 match x,y with
 |.one (.c (.lit (.bool a))),.one (.c (.lit (.bool b)))=>yz (bif t then a else b)
 |_,_=>if t then x else y
def Box.arr : Box->Option (Nat×List (List Cell))
 |.dat sz es=>some (sz,es)
 |.EP sz es=>some (sz,es)
 |_=>none
def dataOf (bx:Nat->Box):AC->Option Cell
 |.c x=>some x
 |.jC sz=>some (.sl sz [])
 | .own b n sz=>match(bx b).arr with
   |some (_,es)=>some (.sl sz (es.take n))
   |none=>none
 |_=>none
def Io (bx:Nat->Box):List AC->Option (List Cell)
 |[]=>some []
 | x::r=>match dataOf bx x,Io bx r with
   |some c,some cs=>some (c::cs)
   |_,_=>none
def o8 : List AC->List Nat
 |[]=>[]
 |.own b _ _::r=>b::o8 r
 |_::r=>o8 r
def Gi : Box->Box
 |.dat sz es=>.EP sz es
 |x=>x
def zi (bx:Nat->Box):List AC->Prop
 |[]=>True
 | .own b n sz::r=>(match(bx b).arr with
   |some (sz',es)=>sz'=sz/\n<=es.length
   |none=>False)/\zi bx r
 |_::r=>zi bx r
def TN (bx:Nat->Box)(l:List Nat):List (Nat×Box):=l.map λb=>(b,Gi (bx b))
def AV.cells : AV->List AC
 |.one x=>[x]
 |.agg xs=>xs
 |.wu _=>[]
def AV.flat : AV->Prop
 |.wu _=>False
 |_=>True
def splice {α:Type}(xs:List α)(off:Nat)(ys:List α):List α:=xs.take off++ys++xs.drop (off+ys.length)
def zD (agg:Bool)(k:Nat)(p:AV)(bx:Nat->Box):FR:=
 match p with
 | .one (.ptr b off)=>match bx b with
   | .var xs=>if agg then⟨off+k<=xs.length,.agg ((xs.drop off).take k),[]⟩else match xs[off]? with
     |some x=>.ok (.one x)
     |none=>.bad
   |_=>.bad
 | .one (.zI b i sz off)=>match(bx b).arr with
   | some (sz',es)=>if agg then⟨sz'=sz/\i<es.length/\off+k<=sz,.agg ((((es.getD i []).drop off).take k).map .c),[]⟩
     else⟨sz'=sz/\i<es.length/\off<sz,.one (.c ((es.getD i []).getD off default)),[]⟩
   |_=>.bad
 |.one (.Gh cs)=>if agg then⟨k<=cs.length,.agg ((cs.take k).map .c),[]⟩else⟨0<cs.length,.one (.c (cs.getD 0 default)),[]⟩
 |_=>.bad
def zn (agg:Bool)(k:Nat)(p x:AV)(bx:Nat->Box):FR:=
 match x,agg with
 |.wu _,_=>.bad
 |.one _,true=>.bad
 |.agg _,false=>.bad
 | x,_=>match p with
   | .one (.ptr b off)=>match bx b with
     |.var xs=>⟨x.cells.length=k/\off+k<=xs.length,.one .IZ,[(b,.var (splice xs off x.cells))]⟩
     |_=>.bad
   | .one (.zI b i sz off)=>match bx b,Io bx x.cells with
     |.dat sz' es,some cs=>⟨sz'=sz/\cs.length=k/\i<es.length/\off+k<=sz/\zi bx x.cells/\(o8 x.cells).contains b=false,.one .IZ,TN bx (o8 x.cells)++[(b,.dat sz (es.set i (splice (es.getD i []) off cs)))]⟩
     |_,_=>.bad
   |_=>.bad
def P7 {α:Type}(zs:List α):List (Nat×List α)->List α
 |[]=>zs
 |(off,xs)::r=>P7 (splice zs off xs) r
def Uh (n:Nat):Nat×Nat×AV->Prop
 |(off,sz,x)=>x.cells.length=sz/\off+sz<=n/\x.flat
def yQ (ev:oW->AV)(bx:Nat->Box)(n sz:Nat):List (Nat×oW)->Option (List (Nat×List Cell))
 |[]=>some []
 | (i,x)::r=>match Io bx (ev x).cells,yQ ev bx n sz r with
   |some cs,some l=>some ((i,cs)::l)
   |_,_=>none
def uQ (ev:oW->AV):List (Nat×oW)->List Nat
 |[]=>[]
 |(_,x)::r=>o8 (ev x).cells++uQ ev r
def AO (ev:oW->AV)(bx:Nat->Box):List (Nat×oW)->Prop
 |[]=>True
 |(_,x)::r=>zi bx (ev x).cells/\AO ev bx r
def LD (es:List (List Cell)):List (Nat×List Cell)->List (List Cell)
 |[]=>es
 |(i,cs)::r=>LD (es.set i cs) r
def bytesOf : List (List Cell)->Option (List UInt8)
 |[]=>some []
 | [.lit (.int .u8 n)]::r=>match bytesOf r with
   |some l=>some (dR n.toNat::l)
   |none=>none
 |_=>none
def Gg : List AV->Option (List Nat)
 |[]=>some []
 |.one (.ptr b 0)::r=>(Gg r).map (b :: ·)
 |_=>none
def bnd (ev:oW->AV)(o:Option oW)(dflt:Nat):Option Int:=
 match o with
 |none=>some dflt
 | some x=>match ev x with
   |.one (.c (.lit (.int _ n)))=>some n
   |_=>none
def xW (sz:Nat)(x:AV)(bx:Nat->Box):Option (Prop×List (List Cell)):=
 match x with
 |.one (.c (.sl sz' es))=>some (sz'=sz,es)
 |.one (.jC _)=>some (True,[])
 | .one (.own b n sz')=>match(bx b).arr with
   |some (Bo,es)=>some (sz'=sz/\Bo=sz/\n<=es.length,es.take n)
   |_=>none
 | .one (.sub b lo n _ sz')=>match(bx b).arr with
   |some (Bo,es)=>some (sz'=sz/\Bo=sz/\lo+n<=es.length,(es.drop lo).take n)
   |_=>none
 |_=>none
def DK : AV->Option (Nat×Nat×Nat×Option Nat×Nat)
 |.one (.own b n sz)=>some (b,0,n,none,sz)
 |.one (.sub b lo n c sz)=>some (b,lo,n,c,sz)
 |_=>none
def Ux (l:Bool)(x y:AV):FR:=
 match x,y with
 |.one (.c (.lit (.int k a))),.one (.c (.lit (.int _ b)))=>⟨0<=b,wR k (if l then k.wrap (a*2^(min b.toNat k.bits))else a.fdiv (2^(min b.toNat k.bits))),[]⟩
 |_,_=>.bad
def Q7 (x:AV):FR:=
 match x with
 |.one (.sub _ _ _ (some c) _)=>.ok (wR .i64 c)
 |.one (.jC _)=>.ok (wR .i64 0)
 |_=>.bad
def yU (sz:Nat)(x:AV)(lo:Option Int)(hi:Nat->Option Int):FR:=
 match DK x with
 | some (b,l,n,c,sz')=>match lo,hi n with
   |some p,some q=>⟨sz'=sz/\0<=p/\p<=q/\q<=(match c with|some c=>c|none=>n:Nat),.one (.sub b (l+p.toNat) (q-p).toNat (c.map (· - p.toNat)) sz),[]⟩
   |_,_=>.bad
 |none=>.bad
def Jg (sz:Nat)(x p q m:AV):FR:=
 match DK x,p,q,m with
 |some (_,_,n,c,sz'),.one (.c (.lit (.int _ p))),.one (.c (.lit (.int _ q))),.one (.c (.lit (.int _ m)))=>⟨sz'=sz/\0<=p/\p<=q/\q<=m/\m<=(match c with|some c=>c|none=>n:Nat),.one .IZ,[]⟩
 |_,_,_,_=>.bad
def EU (l sz bytes:Nat)(s x:AV)(bx:Nat->Box):FR:=
 match xW sz x bx,s with
 | some (p,ys),.one (.sub b lo n (some c) sz')=>match bx b with
   | .dat Bo es=>if n+ys.length<=c then⟨p/\sz'=sz/\Bo=sz/\lo+n<=es.length,.one (.sub b lo (n+ys.length) (some c) sz),[(b,.dat sz (splice es (lo+n) ys))]⟩
     else⟨p/\sz'=sz/\Bo=sz/\lo+n<=es.length/\(match bx l with|.absent=>True|_=>False)/\(n+ys.length)*(bytes+sz+1)<=2^46,.one (.own l (n+ys.length) sz),[(l,.dat sz ((es.drop lo).take n++ys))]⟩
   |_=>.bad
 |_,_=>.bad
def truncS (m:Nat):AV->AV
 |.one (.sub b lo n c sz)=>.one (.sub b lo (min n m) c sz)
 |x=>x
def EX (sz:Nat)(d x:AV)(bx:Nat->Box):FR:=
 match DK d with
 | some (b,lo,n,_,sz')=>match xW sz (truncS n x) bx with
   | some (p,ys)=>match bx b with
     |.dat Bo es=>⟨p/\sz'=sz/\Bo=sz/\lo<=es.length,wR .i64 (fO ys.length n:Nat),[(b,.dat sz (splice es lo (ys.take n)))]⟩
     |_=>.bad
   |none=>.bad
 |none=>.bad
def EO (l sz bytes:Nat)(zs:List Cell)(s x:AV)(bx:Nat->Box):FR:=
 match s,x with
 | .one (.sub b lo n (some c) sz'),.one (.c (.lit (.int k q)))=>match bx b with
   |.dat Bo es=>⟨k = .i64/\sz'=sz/\Bo=sz/\lo+n<=es.length/\0<=q/\c<n+q.toNat/\(match bx l with|.absent=>True|_=>False)/\(n+q.toNat)*(bytes+sz+1)<=2^46,
    .one (.own l (n+q.toNat) sz),[(l,.dat sz ((es.drop lo).take n++bU q.toNat zs))]⟩
   |_=>.bad
 |.one (.jC _),.one (.c (.lit (.int k q)))=>⟨k = .i64/\0<q/\(match bx l with|.absent=>True|_=>False)/\q.toNat*(bytes+sz+1)<=2^46,.one (.own l q.toNat sz),[(l,.dat sz (bU q.toNat zs))]⟩
 |_,_=>.bad
def Hu (ng:Bool)(x:AV):FR:=
 match x with
 |.one (.err g)=>.ok (yz (if ng then g else !g))
 |_=>.bad
def Lp (x y:AV):FR:=
 match x,y with
 |.one (.c (.str a)),.one (.c (.str b))=>.ok (wR .i64 (jI a b))
 |_,_=>.bad
def LU (x y:AV):FR:=
 match x,y with
 |.one (.c (.str a)),.one (.c (.lit (.int k c)))=>⟨k = .u8,wR .i64 (dX a c.toNat.toUInt8),[]⟩
 |_,_=>.bad
def Uf (x y:AV)(bx:Nat->Box):FR:=
 match DK x,DK y with
 | some (b,_,m,_,_),some (b',_,m',_,_)=>match bx b,bx b' with
   |.dat _ _,.dat sz _=>⟨b≠b'/\sz≠0/\0<m/\0<m',yz false,[]⟩
   |_,_=>.bad
 |_,_=>.bad
def EW (sz:Nat)(zs:List Cell)(d:AV)(bx:Nat->Box):FR:=
 match DK d with
 | some (b,lo,n,_,sz')=>match bx b with
   |.dat Bo es=>⟨sz'=sz/\Bo=sz/\lo<=es.length,.wu [],[(b,.dat sz (splice es lo (bU n zs)))]⟩
   |_=>.bad
 |none=>.bad
def nH.f (op:nH)(ev:oW->AV)(bx:Nat->Box):FR:=
 match op with
 |.mv x=>.ok (ev x)
 | .pick c a b=>match ev c with
   |.one (.c (.lit (.bool t)))=>.ok (Ou t (ev a) (ev b))
   |_=>.bad
 |.load agg k p=>zD agg k (ev p) bx
 |.store agg k p x=>zn agg k (ev p) (ev x) bx
 |.alloc l zs=>⟨(match bx l with|.absent=>True|_=>False),.one (.ptr l 0),[(l,.var zs)]⟩
 |.EJ T e l r=>⟨(match bx l with|.absent=>True|_=>False)/\(match bx r with|.absent=>True|_=>False)/\l≠r,.one (.ptr l 0),[(r,.row e []),(l,.var [.opt T l,.vS r 0])]⟩
 |.J6 l sz n zs=>⟨(match bx l with|.absent=>True|_=>False),.one (.zI l 0 sz 0),[(l,.dat sz (bU n zs))]⟩
 |.box l x=>⟨(match bx l with|.absent=>True|_=>False)/\(ev x).flat,.one (.ptr l 0),[(l,.var (ev x).cells)]⟩
 |.build zs ps=>⟨(∀p,p∈ps->Uh zs.length (p.1,p.2.1,ev p.2.2)),.agg (P7 zs (ps.map λp=>(p.1,(ev p.2.2).cells))),[]⟩
 | .kT l sz n zs ps=>match yQ ev bx n sz ps with
   |some l'=>⟨(match bx l with|.absent=>True|_=>False)/\(∀p,p∈l'->p.1<n/\p.2.length=sz)/\AO ev bx ps,.one (.own l n sz),TN bx (uQ ev ps)++[(l,.dat sz (LD (bU n zs) l'))]⟩
   |none=>.bad
 | .makes l sz bytes zs n m=>match ev n,ev m with
   | .one (.c (.lit (.int _ n))),.one (.c (.lit (.int _ m)))=>⟨(match bx l with|.absent=>True|_=>False)/\0<=n/\n<=m/\bytes*m<=2^47/\m<=2^47,.one (.own l n.toNat sz),[(l,.dat sz (bU n.toNat zs))]⟩
   |_,_=>.bad
 |.bin o x y=>OD o (ev x) (ev y)
 |.beq ng x y=>U5 ng (ev x) (ev y)
 | .not x=>match ev x with
   |.one (.c (.lit (.bool b)))=>.ok (yz (!b))
   |_=>.bad
 | .neg x=>match ev x with
   |.one (.c (.lit (.int k n)))=>.ok (wR k (k.wrap (0-n)))
   |_=>.bad
 | .GH k x=>match ev x with
   |.one (.c (.lit (.int _ n)))=>.ok (wR k (k.wrap n))
   |_=>.bad
 | .PS x=>match xW 1 (ev x) bx with
   | some (p,es)=>match bytesOf es with
     |some l=>⟨p/\l.length<=maxLen,Ie l,[]⟩
     |none=>.bad
   |none=>.bad
 | .same x=>match ev x with
   |.one (.c (.str l))=>.ok (Ie l)
   |_=>.bad
 | .Ua f cs=>match Gg (cs.map ev)with
   |some l=>.ok (.one (.fn f l))
   |none=>.bad
 | .G7 x lo hi=>match ev x with
   | .one (.c (.str s))=>match bnd ev lo 0,bnd ev hi s.length with
     |some a,some b=>⟨0<=a/\a<=b/\b<=s.length,Ie ((s.take b.toNat).drop a.toNat),[]⟩
     |_,_=>.bad
   |_=>.bad
 | .Fe sz x lo hi=>match ev x with
   | .one (.c (.sl sz' es))=>match bnd ev lo 0,bnd ev hi es.length with
     |some a,some b=>⟨sz'=sz/\0<=a/\a<=b/\b<=es.length,vSl sz ((es.take b.toNat).drop a.toNat),[]⟩
     |_,_=>.bad
   | .one (.jC sz')=>match bnd ev lo 0,bnd ev hi 0 with
     |some a,some b=>⟨a=0/\b=0,.one (.jC sz'),[]⟩
     |_,_=>.bad
   | .one (.own l n sz')=>match bnd ev lo 0,bnd ev hi n with
     |some a,some b=>⟨a=0/\0<=b/\b<=n,.one (.own l b.toNat sz'),[]⟩
     |_,_=>.bad
   |_=>.bad
 | .QC sz n x=>match ev x with
   | .one (.zI b 0 sz' 0)=>match bx b with
     |.dat Bo es=>⟨sz'=sz/\Bo=sz/\es.length=n/\n≠0,.one (.own b n sz),[]⟩
     |_=>.bad
   |_=>.bad
 | .ES x=>match ev x with
   |.one (.ptr b o)=>.ok (.one (.ptr b o))
   |.one (.zI b i sz o)=>.ok (.one (.zI b i sz o))
   |.one (.Gh cs)=>.ok (.one (.Gh cs))
   |.one (.fn f cs)=>.ok (.one (.fn f cs))
   |_=>.bad
 | .jZ off x=>match ev x with
   |.one (.ptr b o)=>.ok (.one (.ptr b (o+off)))
   |.one (.zI b i sz o)=>.ok (.one (.zI b i sz (o+off)))
   |.one (.Gh cs)=>.ok (.one (.Gh (cs.drop off)))
   |_=>.bad
 | .field agg off k x=>match ev x with
   | .agg xs=>if agg then⟨off+k<=xs.length,.agg ((xs.drop off).take k),[]⟩else match xs[off]? with
     |some x=>.ok (.one x)
     |none=>.bad
   |_=>.bad
 | .vN sz x i=>match ev x,ev i with
   |.one (.c (.sl sz' es)),.one (.c (.lit (.int _ i)))=>⟨sz'=sz/\0<=i/\i<es.length,.one (.Gh (es.getD i.toNat [])),[]⟩
   |.one (.own b n sz'),.one (.c (.lit (.int _ i)))=>⟨sz'=sz/\0<=i/\i<n,.one (.zI b i.toNat sz 0),[]⟩
   |.one (.sub b lo n _ sz'),.one (.c (.lit (.int _ i)))=>⟨sz'=sz/\0<=i/\i<n,.one (.zI b (lo+i.toNat) sz 0),[]⟩
   |_,_=>.bad
 | .Qe sz n x i=>match ev x,ev i with
   |.one (.zI b 0 sz' 0),.one (.c (.lit (.int _ i)))=>⟨sz'=sz/\0<=i/\i<n,.one (.zI b i.toNat sz 0),[]⟩
   |_,_=>.bad
 | .idxs x i=>match ev x,ev i with
   |.one (.c (.str s)),.one (.c (.lit (.int _ i)))=>⟨0<=i/\i<s.length,wR .u8 (s.getD i.toNat 0).toNat,[]⟩
   |_,_=>.bad
 | .extract x i=>match ev x with
   | .wu ps=>match ps[i]? with
     |some (true,xs)=>.ok (.agg xs)
     |some (false,[x])=>.ok (.one x)
     |_=>.bad
   |_=>.bad
 | .lens x=>match ev x with
   |.one (.c (.str s))=>.ok (wR .i64 s.length)
   |_=>.bad
 | .len x=>match ev x with
   |.one (.c (.sl _ es))=>.ok (wR .i64 es.length)
   |.one (.jC _)=>.ok (wR .i64 0)
   |.one (.own _ n _)=>.ok (wR .i64 n)
   |.one (.sub _ _ n _ _)=>.ok (wR .i64 n)
   |_=>.bad
 | .max x y=>match ev x,ev y with
   |.one (.c (.lit (.int k a))),.one (.c (.lit (.int k' b)))=>⟨k=k',wR k (if b>a then b else a),[]⟩
   |_,_=>.bad
 | .min x y=>match ev x,ev y with
   |.one (.c (.lit (.int k a))),.one (.c (.lit (.int k' b)))=>⟨k=k',wR k (if b<a then b else a),[]⟩
   |_,_=>.bad
 | .append l sz bytes s x=>match xW sz (ev x) bx with
   | some (p,ys)=>match ev s with
     |.one (.jC _)=>⟨p/\(match bx l with|.absent=>True|_=>False)/\ys.length*(bytes+sz+1)<=2^46,.one (.own l ys.length sz),[(l,.dat sz ys)]⟩
     | .one (.own b n sz')=>match bx b with
       |.dat Bo es=>⟨p/\(match bx l with|.absent=>True|_=>False)/\sz'=sz/\Bo=sz/\n<=es.length/\(n+ys.length)*(bytes+sz+1)<=2^46/\b≠l,
        .one (.own l (n+ys.length) sz),[(b,.dead),(l,.dat sz (es.take n++ys))]⟩
       |_=>.bad
     |_=>.bad
   |none=>.bad
 | .copy sz d x=>match xW sz (ev x) bx with
   | some (p,ys)=>match ev d with
     | .one (.own b n sz')=>match bx b with
       |.dat Bo es=>⟨p/\sz'=sz/\Bo=sz/\n<=es.length,wR .i64 (fO ys.length n:Nat),[(b,.dat sz (splice es 0 (ys.take n)))]⟩
       |_=>.bad
     |.one (.jC _)=>.ok (wR .i64 0)
     |_=>.bad
   |none=>.bad
 |.shf l x y=>Ux l (ev x) (ev y)
 |.Za x=>Q7 (ev x)
 |.yM sz x lo hi=>yU sz (ev x) (bnd ev lo 0) (bnd ev hi)
 |.sl3 sz x p q m=>Jg sz (ev x) (ev p) (ev q) (ev m)
 |.V7 l sz bytes s x=>EU l sz bytes (ev s) (ev x) bx
 |.Qz sz d x=>EX sz (ev d) (ev x) bx
 |.XP sz zs x=>EW sz zs (ev x) bx
 |.Zd x y=>Lp (ev x) (ev y)
 |.RQ ng x=>Hu ng (ev x)
 |.ovl x y=>Uf (ev x) (ev y) bx
 |.Zx x y=>LU (ev x) (ev y)
 |.stop=>.bad
 |.WN l sz bytes zs s x=>EO l sz bytes zs (ev s) (ev x) bx
def lvl : AV->List Nat
 |.one (.ptr b _)=>[b]
 |.one (.own b _ _)=>[b]
 |.one (.zI b _ _ _)=>[b]
 |.one (.sub b _ _ _ _)=>[b]
 |_=>[]
def nH.rd (op:nH)(ev:oW->AV):List Nat:=
 match op with
 |.load _ _ p=>lvl (ev p)
 |.store _ _ p x=>lvl (ev p)++(match ev p with|.one (.zI _ _ _ _)=>o8 (ev x).cells|_=>[])
 |.kT l _ _ _ ps=>l::uQ ev ps
 |.alloc l _|.J6 l _ _ _|.box l _|.makes l _ _ _ _ _=>[l]
 |.EJ _ _ l r=>[l,r]
 |.PS x=>lvl (ev x)
 |.QC _ _ x=>lvl (ev x)
 |.append l _ _ s x=>l::(lvl (ev s)++lvl (ev x))
 |.copy _ d x=>lvl (ev d)++lvl (ev x)
 |.V7 l _ _ s x=>l::(lvl (ev s)++lvl (ev x))
 |.Qz _ d x=>lvl (ev d)++lvl (ev x)
 |.XP _ _ x=>lvl (ev x)
 |.ovl x y=>lvl (ev x)++lvl (ev y)
 |.WN l _ _ _ s _=>l::lvl (ev s)
 |_=>[]
def UQ (I:IH)(ρ:Ren)(vs:List Value)(xs:List AV):Prop:=
 vs.length=xs.length/\∀(j:Nat) (v:Value) (x:AV),vs[j]? = some v->xs[j]? = some x->GV I ρ v x
def DN (l:List Box):Nat->Box:=λb=>l.getD b .absent
structure Tabs (P:Program)(I:IH):Prop where
 pow:∀g,P.globalNamed "internal/strconv.uint64pow10" = some g->I g=some (Go.Lib.pow10Tab.map λz=>lY .u64 z).toArray
 mxl:∀g,P.globalNamed "internal/bytealg.MaxLen" = some g->∃m,I.cell ⟨g,0,none⟩=some (.int .i64 m)
 ers:∀g,P.globalNamed "strconv.ErrSyntax" = some g->∃v,I.cell ⟨g,0,none⟩=some v/\(v = .nilIface\/∃t p,v = .iface t p)
 err:∀g,P.globalNamed "strconv.ErrRange" = some g->∃v,I.cell ⟨g,0,none⟩=some v/\(v = .nilIface\/∃t p,v = .iface t p)
theorem Tabs.mono {P:Program}{I J:IH}(h:Tabs P I)(hle:I.le J):Tabs P J:=
 ⟨λg hg=>hle _ _ (h.pow g hg),λg hg=>(h.mxl g hg).imp λ_ h=>IH.Jy hle h,λg hg=>(h.ers g hg).imp λ_ h=>⟨IH.Jy hle h.1,h.2⟩,λg hg=>(h.err g hg).imp λ_ h=>⟨IH.Jy hle h.1,h.2⟩⟩
def lD (P:Program)(f:FuncId)(args:List AV)(fp:List Box)(post:AV->List Box->Prop):Prop:=
 ∀ (I:IH) (ρ:Ren) (w:World) (vs:List Value),Tabs P I->Agree I w->BX I ρ w (DN fp)->UQ I ρ vs args ->
   Calls P f vs.toArray w λe w'=>∃(v:Value) (J:IH) (σ:Ren) (r:AV) (bs:List Box),e = .returned v/\post r bs/\GV J σ v r/\Agree J w'/\BX J σ w' (DN bs) /\
    I.le J/\KR w w' (λk=>∃b,(DN fp b).uses (ρ b) k) /\
    (∀b k,(DN bs b).uses (σ b) k->w.heap.size<=k\/∃b',(DN fp b').uses (ρ b') k) /\
    (∀k,k<w.heap.size->(¬ ∃b,(DN fp b).uses (ρ b) k)->J k=I k) /\
    (∀b,b<fp.length->σ b=ρ b)
def dS (P:Program)(f:FuncId)(args:List AV)(r:AV):Prop:=lD P f args [] λr' bs=>r'=r/\bs=[]
inductive Cv (bx:Nat->Box):AC->AC->Prop
 |refl (x:AC):Cv bx x x
 |jC (sz:Nat):Cv bx (.jC sz) (.c (.sl sz []))
 |own (b n sz:Nat) (es:List (List Cell)) (h:(bx b).arr=some (sz,es)) (hn:n<=es.length):Cv bx (.own b n sz) (.c (.sl sz (es.take n)))
inductive CvL (bx:Nat->Box):List AC->List AC->Prop
 |nil:CvL bx [] []
 |cons {x y:AC} {xs ys:List AC} (h:Cv bx x y) (t:CvL bx xs ys):CvL bx (x::xs) (y::ys)
inductive CvA (bx:Nat->Box):AV->AV->Prop
 |one {x y:AC} (h:Cv bx x y):CvA bx (.one x) (.one y)
 |agg {xs ys:List AC} (h:CvL bx xs ys):CvA bx (.agg xs) (.agg ys)
inductive J3 (bx:Nat->Box):List AV->List AV->Prop
 |nil:J3 bx [] []
 |cons {x y:AV} {xs ys:List AV} (h:CvA bx x y) (t:J3 bx xs ys):J3 bx (x::xs) (y::ys)
def Cell.isLit : Cell->Bool
 |.sl _ _=>false
 |_=>true
def AC.xx : AC->Bool
 |.c _=>true
 |.err _=>true
 |_=>false
def AC.isLit : AC->Bool
 |.c x=>x.isLit
 |_=>false
def AV.all (p:AC->Bool):AV->Bool
 |.one x=>p x
 |.agg xs=>xs.all p
 |.wu ps=>ps.all λq=>q.2.all p
def AV.owns : AV->List Nat
 |.one x=>o8 [x]
 |.agg xs=>o8 xs
 |.wu ps=>ps.flatMap λq=>o8 q.2
def iy.EP (st:iy)(bs:List Nat):iy:=⟨st.tm,λb=>if b∈bs then Gi (st.bx b)else st.bx b⟩
def iy.sS (st:iy):List (Nat×Box)->iy
 |[]=>st
 |(b,x)::r=>(st.xU b x).sS r
def iy.zU (st:iy):Option Nat->Slot->iy
 |none,_=>st
 |some t,s=>st.put t s
def ED (π:Nat->Nat):AC->AC
 |.ptr b off=>.ptr (π b) off
 |.own b n sz=>.own (π b) n sz
 |.sub b lo n c sz=>.sub (π b) lo n c sz
 |.zI b i sz off=>.zI (π b) i sz off
 |.fn f cs=>.fn f (cs.map π)
 |.opt T b=>.opt T (π b)
 |.vS b n=>.vS (π b) n
 |x=>x
def DJ (π:Nat->Nat):AV->AV
 |.one x=>.one (ED π x)
 |.agg xs=>.agg (xs.map (ED π))
 |.wu ps=>.wu (ps.map λq=>(q.1,q.2.map (ED π)))
def Dh (π:Nat->Nat):Box->Box
 |.var xs=>.var (xs.map (ED π))
 |x=>x
def AC.vM (m:Nat):AC->Bool
 |.ptr b _=>decide (b<m)
 |.own b _ _=>decide (b<m)
 |.sub b _ _ _ _=>decide (b<m)
 |.zI b _ _ _=>decide (b<m)
 |.fn _ cs=>cs.all λb=>decide (b<m)
 |.opt _ b=>decide (b<m)
 |.vS b _=>decide (b<m)
 |_=>true
def Box.vM (m:Nat):Box->Bool
 |.var xs=>xs.all (AC.vM m)
 |_=>true
inductive La (P:Program)(f:FuncId)(uZ:List AV)(p:Bool)(d:Option Nat)(st:iy)(K:List Nat->List Nat->iy->Prop):Prop
 |lit (ds:List AV) (r:AV) (hc:p=true->J3 st.bx uZ ds) (hd:ds.all (·.all AC.xx)=true) (h:p=true->dS P f ds r) (hr:r.all AC.isLit=true) (k:K (uZ.flatMap AV.owns) [] (st.zU d (.v p r)))
 |pure (ds:List AV) (r:AV) (hp:p=true) (hc:J3 st.bx uZ ds) (hd:ds.all (·.all AC.xx)=true) (h:dS P f ds r) (hr:r.all AC.xx=true) (k:K (uZ.flatMap AV.owns) (uZ.flatMap AV.owns) ((st.EP (uZ.flatMap AV.owns)).zU d (.v true r)))
 |gen (hp:p=true) (ds:List AV) (fp:List Box) (sg nu:List Nat) (post:AV->List Box->Prop)
  (hl:sg.length=fp.length) (hn:(sg++nu).Nodup) (hf:∀i,i<fp.length->st.bx ((sg++nu).getD i 0)=Dh (λb=>(sg++nu).getD b 0) (fp.getD i .absent))
  (hne:∃r bs,post r bs) (hv:∀b,b∈nu->st.bx b = .absent/\10<=b) (hra:(ds.all λx=>x.all (AC.vM fp.length))=true) (hrf:fp.all (Box.vM fp.length)=true) (ha:uZ=ds.map (DJ λb=>(sg++nu).getD b 0)) (h:lD P f ds fp post)
  (k:∀r bs,post r bs->bs.length=(sg++nu).length /\
   K (sg++nu) (sg++nu) ((st.sS ((sg++nu).zip (bs.map (Dh λb=>(sg++nu).getD b 0)))).zU d (.v true (DJ (λb=>(sg++nu).getD b 0) r))))
 |OH (hp:p=true) (az:List AV) (hc:J3 st.bx uZ az) (ds:List AV) (fp:List Box) (sg nu:List Nat) (post:AV->List Box->Prop)
     (hl:sg.length=fp.length) (hn:(sg++nu).Nodup) (hf:∀i,i<fp.length->(st.EP (uZ.flatMap AV.owns)).bx ((sg++nu).getD i 0)=Dh (λb=>(sg++nu).getD b 0) (fp.getD i .absent))
     (hne:∃r bs,post r bs) (hv:∀b,b∈nu->st.bx b = .absent/\10<=b) (hra:(ds.all λx=>x.all (AC.vM fp.length))=true) (hrf:fp.all (Box.vM fp.length)=true) (ha:az=ds.map (DJ λb=>(sg++nu).getD b 0)) (h:lD P f ds fp post)
     (k:∀r bs,post r bs->bs.length=(sg++nu).length /\
      K (uZ.flatMap AV.owns++(sg++nu)) (uZ.flatMap AV.owns++(sg++nu)) (((st.EP (uZ.flatMap AV.owns)).sS ((sg++nu).zip (bs.map (Dh λb=>(sg++nu).getD b 0)))).zU d (.v true (DJ (λb=>(sg++nu).getD b 0) r))))
inductive DU {α:Type}(x:α):Type
 |mk
def vI (P:Program)(f:FuncId)(uZ:List AV)(p:Bool)(d:Option Nat)(st:iy)(K:List Nat->List Nat->iy->Prop)(_:DU K):Prop:=La P f uZ p d st K
inductive O9 where
 |op (o:nH)
 |call (f:FuncId) (args:List oW)
 |FX (x:oW) (args:List oW)
 deriving Inhabited
structure mQ where
 g:Option (Nat×Bool)
 d:Option Nat
 i:O9
 deriving Inhabited
def zT (P:Program)(f:FuncId):Bool:=match P.funcs[f]? with
 |some fn=> !(fn.name == "runtime.NumGoroutine")&&fn.body.isSome
 |none=>false
def CV (tm:Nat->Slot):Option (Nat×Bool)->Prop
 |none=>True
 | some (s,_)=>match tm s with
   |.v false _=>True
   |.v true (.one (.c (.lit (.bool _))))=>True
   |_=>False
def uI (tm:Nat->Slot):Option (Nat×Bool)->Bool
 |none=>true
 | some (s,w)=>match tm s with
   |.v true (.one (.c (.lit (.bool b))))=>b==w
   |_=>false
def nH.valid (ev:oW->Slot):nH->Prop
 | .pick c a b=>(ev c).g=true/\(match(ev c).x with
   |.one (.c (.lit (.bool t)))=>(t=true->(ev a).g=true)/\(t=false->(ev b).g=true)
   |_=>False)
 |o=>∀x,x∈o.oV->(ev x).g=true
def eu (tm:Nat->Slot)(x:oW):AV:=(x.ev tm).x
def TOp (o:nH)(p:Bool)(d:Option Nat)(st:iy)(K:List Nat->List Nat->iy->Prop):Prop:=
 (p=true->o.valid (oW.ev st.tm)/\(o.f (eu st.tm) st.bx).vc /\
  K (o.rd (eu st.tm)) ((o.f (eu st.tm) st.bx).sets.map (·.1)) ((st.sS (o.f (eu st.tm) st.bx).sets).zU d (.v true (o.f (eu st.tm) st.bx).v))) /\
 (p=false->K [] [] (st.zU d (.v false (.one .IZ))))
def T (P:Program)(o:mQ)(st:iy)(K:List Nat->List Nat->iy->Prop):Prop:=
 CV st.tm o.g/\match o.i with
  |.op op=>TOp op (uI st.tm o.g) o.d st K
  |.call f args=>(uI st.tm o.g=true->∀x,x∈args->(x.ev st.tm).g=true)/\vI P f (args.map (eu st.tm)) (uI st.tm o.g) o.d st K .mk
  | .FX x args=>(uI st.tm o.g=true->(x.ev st.tm).g=true/\∀x,x∈args->(x.ev st.tm).g=true)/\match uI st.tm o.g,eu st.tm x with
    |false,_=>vI P 0 [] false o.d st K .mk
    |true,.one (.fn f caps)=>zT P f=true/\vI P f (args.map (eu st.tm)++caps.map λb=>.one (.ptr b 0)) true o.d st K .mk
    |true,_=>False
def wpOps (P:Program):List mQ->iy->(iy->Prop)->Prop
 |[],st,K=>K st
 |o::r,st,K=>T P o st λ_ _ st'=>wpOps P r st' K
def Kt (a b:List Nat):Bool:=a.all λx=> !b.contains x
def zF (Il:List Nat)(rd wr:List Nat):List (Nat×List Nat×List Nat)->Bool
 |[]=>true
 |(j,r,w)::l=>(Il.contains j||(Kt wr r&&Kt wr w&&Kt rd w))&&zF Il rd wr l
def wpD (P:Program):List (mQ×List Nat)->Nat->List (Nat×List Nat×List Nat)->iy->(iy->Prop)->Prop
 |[],_,_,st,K=>K st
 |(o,Il)::r,i,log,st,K=>T P o st λrd wr st'=>zF Il rd wr log=true/\wpD P r (i+1) ((i,rd,wr)::log) st' K
def iy.keep (st:iy)(ts:List Nat):iy:=⟨λt=>if t∈ts then st.tm t else .none,st.bx⟩
def iy.of (ts:List (Nat×Slot))(bs:List (Nat×Box)):iy:=
 ⟨λt=>match ts.find? (λp=>p.1==t)with|some p=>p.2|none=>.none,λb=>match bs.find? (λp=>p.1==b)with|some p=>p.2|none=>.absent⟩
def BA : List (Nat×Slot)->Nat->Slot
 |[],_=>.none
 |(t',s)::r,t=>if t'=t then s else BA r t
def su : List (Nat×Box)->Nat->Box
 |[],_=>.absent
 |(t',s)::r,t=>if t'=t then s else su r t
theorem Ip (ts:List (Nat×Slot))(bs:List (Nat×Box))(t:Nat):(iy.of ts bs).tm t=BA ts t:=by
 simp only[iy.of]
 induction ts with
 |nil=>rfl
 | cons p r ih=>
   obtain⟨a,b⟩:=p;by_cases h:a=t
   ·subst h;simp[BA]
   ·simp[BA,h,ih]
theorem ET (ts:List (Nat×Slot))(bs:List (Nat×Box))(t:Nat):(iy.of ts bs).bx t=su bs t:=by
 simp only[iy.of]
 induction bs with
 |nil=>rfl
 | cons p r ih=>
   obtain⟨a,b⟩:=p;by_cases h:a=t
   ·subst h;simp[su]
   ·simp[su,h,ih]
theorem afz (ts:List (Nat×Slot))(bs:List (Nat×Box))(t:Nat)(s:Slot):(iy.of ts bs).put t s=iy.of ((t,s)::ts) bs:=by
 apply iy.ext'
 ·funext t';rw[Ip,iy.Qv,Ip,BA];by_cases h:t'=t
  ·simp[h]
  ·rw[if_neg h,if_neg (λe=>h e.symm)]
 ·funext b;rw[iy.afD,ET,ET]
def setB : List (Nat×Box)->Nat->Box->List (Nat×Box)
 |[],b,x=>[(b,x)]
 |(b',y)::r,b,x=>if b'=b then(b,x)::r else(b',y)::setB r b x
theorem XE (bs:List (Nat×Box))(b b':Nat)(x:Box):su (setB bs b x) b'=if b'=b then x else su bs b':=by
 induction bs with
 | nil => simp only[setB,su];by_cases h:b=b'
          ·simp[h]
          ·rw[if_neg h,if_neg (λe=>h e.symm)]
 | cons p r ih=>
   obtain⟨c,y⟩:=p;simp only[setB];by_cases h:c=b
   ·subst h;simp only[if_true,su];by_cases h':c=b'
    ·simp[h']
    ·rw[if_neg h',if_neg h',if_neg (λe=>h' e.symm)]
   ·rw[if_neg h];simp only[su,ih];by_cases h':c=b'
    ·subst h';simp[h]
    ·simp[h']
theorem aea (ts:List (Nat×Slot))(bs:List (Nat×Box))(b:Nat)(x:Box):(iy.of ts bs).xU b x=iy.of ts (setB bs b x):=by
 apply iy.ext'
 ·funext t;rw[iy.aej,Ip,Ip]
 ·funext b';rw[iy.qH,ET,ET,XE]
def VJ (ts:List (Nat×Slot)):List Nat->List (Nat×Slot)
 |[]=>[]
 |t::r=>(t,BA ts t)::VJ ts r
theorem ad9 (ts:List (Nat×Slot))(bs:List (Nat×Box))(l:List Nat):(iy.of ts bs).keep l=iy.of (VJ ts l) bs:=by
 apply iy.ext'
 ·funext t
  simp only[iy.keep];rw[Ip,Ip]
  induction l with
  |nil=>rfl
  | cons a r ih=>
    simp only[VJ,BA];by_cases h:a=t
    ·subst h;simp
    ·rw[if_neg h,<- ih];have h':¬t=a:=λe=>h e.symm;simp[h']
 ·funext b;simp only[iy.keep];rw[ET,ET]
theorem ZZ (st:iy)(s:Slot):st.zU none s=st:=rfl
theorem Z4 (st:iy)(t:Nat)(s:Slot):st.zU (some t) s=st.put t s:=rfl
theorem aah (st:iy):st.sS []=st:=rfl
theorem XQ (st:iy)(b:Nat)(x:Box)(r:List (Nat×Box)):st.sS ((b,x)::r)=(st.xU b x).sS r:=rfl
theorem agX (tm:Nat->Slot)(s:Nat):(oW.t s).ev tm=tm s:=rfl
theorem agW (tm:Nat->Slot)(x:AC):(oW.k x).ev tm = .v true (.one x):=rfl
theorem g_v (g:Bool)(x:AV):(Slot.v g x).g=g:=rfl
theorem x_v (g:Bool)(x:AV):(Slot.v g x).x=x:=rfl
theorem abz (w:World)(o:Obj)(r:Nat)(h:r<w.heap.size):(w.alloc o).heap[r]? = w.heap[r]?:=by show(w.heap.push o)[r]? = w.heap[r]?;rw[Array.getElem?_push,if_neg (Nat.ne_of_lt h)]
theorem Dl.keep {I J:IH}{ρ σ:Ren}{w w':World}{b:Nat}{x:Box}(h:Dl I ρ w b x)(hI:I.le J)(hρ:ρ.le σ)(hb:σ b=ρ b)
 (hk:∀k,x.uses (ρ b) k->w'.heap[k]? = w.heap[k]?):Dl J σ w' b x:=by
 cases x with
 |absent=>exact hb.trans h
 |dead=>trivial
 | var xs=>obtain⟨k,cap,cs,hr,hw,hs,hc⟩:=h;exact⟨k,cap,cs,hb.trans hr,(hk k ⟨cap,hr⟩).trans hw,hs,λj u x hu hx=>(hc j u x hu hx).mono hI hρ⟩
 | dat sz es=>obtain⟨k,cap,hr,hl,hm,hsz,hc⟩:=h;refine⟨k,cap,hb.trans hr,hl,hm,hsz,λh0=>?_⟩;obtain⟨cs,e,hw,hs,h1,hc⟩:=hc h0;exact⟨cs,e,(hk k ⟨cap,hr,h0⟩).trans hw,hs,h1,λi j c hj=>let ⟨u,hu,hr⟩:=hc i j c hj;⟨u,hu,hr.mono hI⟩⟩
 | EP sz es=>obtain⟨k,cap,hr,hl,hm,hsz,hc⟩:=h;refine⟨k,cap,hb.trans hr,hl,hm,hsz,λh0=>?_⟩;obtain⟨cs,hw,hc⟩:=hc h0;exact⟨cs,hI _ _ hw,λi j c hj=>let ⟨u,hu,hr⟩:=hc i j c hj;⟨u,hu,hr.mono hI⟩⟩
 | row e l=>obtain⟨k,cap,hr,hl,hm,hc⟩:=h;refine⟨k,cap,hb.trans hr,hl,hm,λh0=>?_⟩;obtain⟨cs,hw,hc⟩:=hc h0;exact⟨cs,(hk k ⟨cap,hr,h0⟩).trans hw,hc⟩
theorem BX.step {I J:IH}{ρ σ:Ren}{w w':World}{bx bx':Nat->Box}(D:Nat->Prop)(h:BX I ρ w bx)(hI:I.le J)(hρ:ρ.le σ)
 (hsame:∀b,¬D b->bx' b=bx b/\σ b=ρ b) (hkeep:∀b k,¬D b->(bx b).uses (ρ b) k->w'.heap[k]? = w.heap[k]?)
 (hok:∀b,D b->Dl J σ w' b (bx' b)) (Iz:∀b k,D b->(bx' b).uses (σ b) k->(∀b',¬D b'->¬(bx b').uses (ρ b') k)/\J k=none)
 (hinj:∀b b' k,D b->D b'->(bx' b).uses (σ b) k->(bx' b').uses (σ b') k->b=b')
 (hJ:∀b k,¬D b->(bx b).uses (ρ b) k->J k=none):BX J σ w' bx':=by
 refine⟨λb=>?_,λb b' k hb hb'=>?_,λb k hb=>?_⟩
 ·by_cases hD:D b
  ·exact hok b hD
  ·obtain⟨e1,e2⟩:=hsame b hD;rw[e1];exact(h.ok b).keep hI hρ e2 λk hk=>hkeep b k hD hk
 ·by_cases hD:D b
  ·by_cases hD':D b'
   ·exact hinj b b' k hD hD' hb hb'
   ·obtain⟨e1,e2⟩:=hsame b' hD';rw[e1,e2]at hb';exact absurd hb' ((Iz b k hD hb).1 b' hD')
  ·obtain⟨e1,e2⟩:=hsame b hD;rw[e1,e2]at hb;by_cases hD':D b'
   ·exact absurd hb ((Iz b' k hD' hb').1 b hD)
   ·obtain⟨e1',e2'⟩:=hsame b' hD';rw[e1',e2']at hb';exact h.inj b b' k hb hb'
 ·by_cases hD:D b
  ·exact(Iz b k hD hb).2
  ·obtain⟨e1,e2⟩:=hsame b hD;rw[e1,e2]at hb;exact hJ b k hD hb
theorem Agree.alloc {I:IH}{w:World}(h:Agree I w)(o:Obj):Agree I (w.alloc o):=λb c hc=>by obtain⟨e,fr,hw⟩:=h b c hc;exact⟨e,fr,(abz w o b (E8 hw)).trans hw⟩
theorem Agree.other {I:IH}{w w':World}(h:Agree I w)(hk:∀k c,I k=some c->w'.heap[k]? = w.heap[k]?):Agree I w':=λb c hc=>by obtain⟨e,fr,hw⟩:=h b c hc;exact⟨e,fr,(hk b c hc).trans hw⟩
theorem Agree.VO {I:IH}{w:World}(h:Agree I w){k:Nat}(hk:w.heap.size<=k):I k=none:=by
 cases hc:I k with
 |none=>rfl
 |some c=>have:=h.lt hc;omega
def Ren.set (ρ:Ren)(l k cap:Nat):Ren:=λb=>if b=l then some (k,cap)else ρ b
theorem Ren.Kz {ρ:Ren}{l k cap:Nat}(h:ρ l=none):ρ.le (ρ.set l k cap):=λb x hb=>by unfold Ren.set;rw[if_neg (λe=>by subst e;rw[h]at hb;cases hb)];exact hb
theorem Ren.ou (ρ:Ren)(l k cap:Nat):(ρ.set l k cap) l=some (k,cap):=by simp[Ren.set]
theorem Ren.wo {ρ:Ren}{l k cap b:Nat}(h:b≠l):(ρ.set l k cap) b=ρ b:=by simp[Ren.set,h]
theorem BX.new {I:IH}{ρ:Ren}{w:World}{bx:Nat->Box}(h:BX I ρ w bx)(hA:Agree I w){l:Nat}(hl:bx l = .absent)(cs:Array Value)(e:TypeId)(cap:Nat)(x:Box)
 (hx:Dl I (ρ.set l w.heap.size cap) (w.alloc (.cells cs e)) l x) :
 BX I (ρ.set l w.heap.size cap) (w.alloc (.cells cs e)) (λb=>if b=l then x else bx b):=by
 have hrl:ρ l=none:=by have:=h.ok l;rwa[hl]at this
 refine BX.step (λb=>b=l) h (IH.le_refl I) (Ren.Kz hrl) ?_ ?_ ?_ ?_ ?_ ?_
 ·intro b hb;exact⟨by simp[hb],Ren.wo hb⟩
 ·intro b k hb hk;exact abz _ _ _ ((h.ok b).lt hk)
 ·rintro b rfl;simpa using hx
 ·rintro b k rfl hk;have hk':k=w.heap.size:=by
   simp only[if_true,Ren.ou]at hk;cases x with
   |absent=>exact hk.elim
   |dead=>exact hk.elim
   |EP sz es=>exact hk.elim
   |var xs=>obtain⟨c,hc⟩:=hk;simp at hc;exact hc.1.symm
   |dat sz es=>obtain⟨c,hc,_⟩:=hk;simp at hc;exact hc.1.symm
   |row e l=>obtain⟨c,hc,_⟩:=hk;simp at hc;exact hc.1.symm
  subst hk';exact⟨λb' hb' hu=>by have:=(h.ok b').lt hu;omega,hA.VO (au _)⟩
 ·rintro b b' k rfl rfl _ _;rfl
 ·intro b k hb hk;exact h.fresh b k hk
theorem BX.set {I:IH}{ρ:Ren}{w w':World}{bx:Nat->Box}(h:BX I ρ w bx){b k:Nat}(hu:(bx b).uses (ρ b) k)(x:Box)(hux:∀k',x.uses (ρ b) k'->k'=k)
 (hk:∀k',k'≠k->w'.heap[k']? = w.heap[k']?) (hx:Dl I ρ w' b x):BX I ρ w' (λc=>if c=b then x else bx c):=by
 refine BX.step (λc=>c=b) h (IH.le_refl I) (Ren.le_refl ρ) ?_ ?_ ?_ ?_ ?_ ?_
 ·intro c hc;exact⟨by simp[hc],rfl⟩
 ·intro c k' hc hu';refine hk k' λe=>hc ?_;subst e;exact h.inj c b k' hu' hu
 ·rintro c rfl;simpa using hx
 ·rintro c k' rfl hk';simp only[if_true]at hk';have:=hux k' hk';subst this;exact⟨λb' hb' hu'=>hb' (h.inj b' c k' hu' hu),h.fresh c k' hu⟩
 ·rintro c c' k' rfl rfl _ _;rfl
 ·intro c k' hc hu';exact h.fresh c k' hu'
structure Env (P:Program) where
 w0:World
 I0:IH
 M:Nat->Prop
 ρ0:Ren
 m:Nat
 tab:Tabs P I0
structure GX {P:Program}(E:Env P)(I:IH)(ρ:Ren)(n:Nat)(st:iy)(a:Act)(w:World):Prop extends GS I ρ n st a w where
 Ht:KR E.w0 w E.M
 own:∀b k,(st.bx b).uses (ρ b) k->E.w0.heap.size<=k\/E.M k
 O0:E.I0.le I
 FQ:∀k,k<E.w0.heap.size->¬E.M k->I k=E.I0 k
 x8:∀b,b<E.m->ρ b=E.ρ0 b
theorem GX.tabs {P:Program}{E:Env P}{I:IH}{ρ:Ren}{n:Nat}{st:iy}{a:Act}{w:World}(h:GX E I ρ n st a w):Tabs P I:=E.tab.mono h.O0
theorem GX.put {P:Program}{E:Env P}{I:IH}{ρ:Ren}{n:Nat}{st:iy}{a:Act}{w:World}(h:GX E I ρ n st a w){d:Nat}(hd:d<n){v:Value}{s:Slot}(hv:GSl I ρ v s) :
 GX E I ρ n (st.put d s) (a.put (some d) v) w:=by
 refine{ h with tm:=λt ht=>?_,size:=by simp[Act.put,h.size],defers:=h.defers,agree:=h.agree,bx:=h.bx };have hdt:d<a.tmps.size:=by rw[h.size];exact hd
 simp only[Act.put,iy.Qv];by_cases e:t=d
 ·subst e;simpa[Array.getD,hdt]using hv
 ·have:=h.tm t ht;rw[if_neg e];have e':d≠t:=λx=>e x.symm;simpa[pM,Array.getElem?_setIfInBounds,e']using this
theorem GX.zU {P:Program}{E:Env P}{I:IH}{ρ:Ren}{n:Nat}{st:iy}{a:Act}{w:World}(h:GX E I ρ n st a w){d:Option Nat}(hd:∀x,d=some x->x<n){v:Value}{s:Slot}(hv:GSl I ρ v s) :
 GX E I ρ n (st.zU d s) (a.put d v) w:=by
 cases d with
 |none=>exact h
 |some d=>exact h.put (hd d rfl) hv
theorem GX.drew {P:Program}{E:Env P}{I:IH}{ρ:Ren}{n:Nat}{st:iy}{a:Act}{w:World}(h:GX E I ρ n st a w):GX E I ρ n st a w.drew:=
 { agree:=h.agree,bx:=⟨h.bx.ok,h.bx.inj,h.bx.fresh⟩,tm:=h.tm,size:=h.size,defers:=h.defers,Ht:=⟨h.Ht.os,h.Ht.tape,h.Ht.output,h.Ht.size,h.Ht.block⟩,own:=h.own,O0:=h.O0,FQ:=h.FQ,x8:=h.x8 }
theorem GX.lit {P:Program}{E:Env P}{I:IH}{ρ:Ren}{n:Nat}{st:iy}{a:Act}{w:World}(h:GX E I ρ n st a w):BX I ρ w st.bx:=h.bx
theorem GX.new {P:Program}{E:Env P}{I:IH}{ρ:Ren}{n:Nat}{st:iy}{a:Act}{w:World}(h:GX E I ρ n st a w){l:Nat}(hl:st.bx l = .absent)(hm:E.m<=l)(cs:Array Value)(e:TypeId)(cap:Nat)(x:Box)
 (hx:Dl I (ρ.set l w.heap.size cap) (w.alloc (.cells cs e)) l x):GX E I (ρ.set l w.heap.size cap) n (st.xU l x) a (w.alloc (.cells cs e)):=by
 have hrl:ρ l=none:=by have:=h.bx.ok l;rwa[hl]at this
 have hle:=Ren.Kz (ρ:=ρ) (k:=w.heap.size) (cap:=cap) hrl;refine{ agree:=h.agree.alloc _,bx:=BX.new h.bx h.agree hl cs e cap x hx,tm:=λt ht=>(h.tm t ht).mono (IH.le_refl _) hle,size:=h.size,defers:=h.defers,Ht:=?_,own:=?_,O0:=h.O0,FQ:=h.FQ,x8:=?_ }
 ·exact h.Ht.trans (N:=λ_=>False) ⟨rfl,rfl,rfl,by simp,λk hk _=>abz _ _ _ hk⟩ (λ_ _ hf=>hf.elim)
 ·intro b k hu;simp only[iy.qH]at hu;by_cases e:b=l
  ·subst e
   left
   have hs:=h.Ht.size;have hk':k=w.heap.size:=by
    simp only[if_true,Ren.ou]at hu;cases x with
    |absent=>exact hu.elim
    |dead=>exact hu.elim
    |EP sz es=>exact hu.elim
    |var xs=>obtain⟨c,hc⟩:=hu;simp at hc;exact hc.1.symm
    |dat sz es=>obtain⟨c,hc,_⟩:=hu;simp at hc;exact hc.1.symm
    |row e l=>obtain⟨c,hc,_⟩:=hu;simp at hc;exact hc.1.symm
   omega
  ·rw[if_neg e,Ren.wo e]at hu;exact h.own b k hu
 ·intro b hb;rw[Ren.wo (by omega)];exact h.x8 b hb
theorem GX.xU {P:Program}{E:Env P}{I:IH}{ρ:Ren}{n:Nat}{st:iy}{a:Act}{w w':World}(h:GX E I ρ n st a w){b k:Nat}(hu:(st.bx b).uses (ρ b) k)(x:Box)(hux:∀k',x.uses (ρ b) k'->k'=k)
 (hF:KR w w' (λk'=>k'=k)) (hx:Dl I ρ w' b x) (hsz:w'.heap.size=w.heap.size):GX E I ρ n (st.xU b x) a w':=by
 have hk:∀k',k'≠k->w'.heap[k']? = w.heap[k']?:= λk' hne=>by
  by_cases hlt:k'<w.heap.size
  ·exact hF.block k' hlt hne
  ·rw[xy (by omega),xy (by omega)]
 refine{ agree:=h.agree.other λk' c hc=>hk k' λe=>?_,bx:=BX.set h.bx hu x hux hk hx,tm:=h.tm,size:=h.size,defers:=h.defers,Ht:=?_,own:=?_,O0:=h.O0,FQ:=h.FQ,x8:=h.x8 }
 ·subst e;have:=h.bx.fresh b k' hu;rw[this]at hc;cases hc
 ·refine h.Ht.trans hF λk' hlt e=>?_;subst e;rcases h.own b k' hu with h1|h1
  ·omega
  ·exact h1
 ·intro c k' hc;simp only[iy.qH]at hc;by_cases e:c=b
  ·subst e;simp only[if_true]at hc;have:=hux k' hc;subst this;exact h.own c k' hu
  ·rw[if_neg e]at hc;exact h.own c k' hc
section
def adG : Value->AC->Bool
 |.int k n,.c (.lit (.int k' n'))=>k==k'&&n==n'
 |.bool b,.c (.lit (.bool b'))=>b==b'
 |.string s,.c (.str l)=>s.data.toList==l&&decide (l.length<=1000000)
 |.slice none 0 0,.jC _=>true
 |.slice none 0 0,.c (.sl _ [])=>true
 |.pointer none,.c (.lit (.pointer none))=>true
 |.nilFunc,.c (.lit .nilFunc)=>true
 |.nilIface,.c (.lit .nilIface)=>true
 |_,_=>false
theorem Yc {I:IH}{ρ:Ren}{v:Value}{x:AC}(h:adG v x=true):GC I ρ v x:=by
 unfold adG at h;split at h
 ·simp only[ah,beq_iff_eq]at h;obtain⟨rfl,rfl⟩:=h;exact Rd.lit _ rfl
 ·simp only[beq_iff_eq]at h;subst h;exact Rd.lit _ rfl
 ·rename_i s l;simp only[ah,beq_iff_eq,decide_eq_true_eq]at h;obtain⟨rfl,hl⟩:=h;have:s=⟨⟨s.data.toList⟩⟩:=by cases s;rfl
  exact this▸Rd.str _ (by simp only[maxLen];omega)
 ·rfl
 ·exact Rd.sl none 0 0 _ [] (λ_ _=>undef) rfl (au _) (Nat.zero_le _) (λe h=>by cases h) (λh=>by omega) (λad h=>by cases h) (λi j c h=>by simp at h)
 ·exact Rd.lit _ rfl
 ·exact Rd.lit _ rfl
 ·exact Rd.lit _ rfl
 ·cases h
def kU (n:Nat):Operand->oW->Bool
 |.tmp t,.t s=>t==s&&decide (t<n)
 |.const v,.k x=>adG v x
 |.func f,.k (.fn g [])=>f==g
 |.global g,.k (.c (.lit (.pointer (some a))))=>a.block==g&&a.off==0&&a.spot.isNone
 |_,_=>false
section
variable {P:Program} {E:Env P} {I:IH} {ρ:Ren} {n:Nat} {st:iy} {a:Act} {w:World}
theorem afB (h:GX E I ρ n st a w){x:Operand}{y:oW}(hc:kU n x y=true):GSl I ρ (a.eval x) (y.ev st.tm):=by
 unfold kU at hc;split at hc
 ·simp only[ah,beq_iff_eq,decide_eq_true_eq]at hc;obtain⟨rfl,hlt⟩:=hc;exact h.tm _ hlt
 ·exact⟨λ_=>Yc hc,λe=>by cases e⟩
 ·simp only[beq_iff_eq]at hc;subst hc;exact⟨λ_=>⟨[],rfl,by simp,rfl⟩,λe=>by cases e⟩
 ·rename_i g ad;simp only[ah,beq_iff_eq]at hc;obtain⟨⟨h1,h2⟩,h3⟩:=hc;refine⟨λ_=>?_,λe=>by cases e⟩;have:ad=⟨g,0,none⟩:=by cases ad;simp at *;exact⟨h1,h2,h3⟩
  subst this;exact Rd.lit _ rfl
 ·cases hc
theorem og (h:GX E I ρ n st a w){x:Operand}{y:oW}(hc:kU n x y=true)(hv:(y.ev st.tm).g=true):GV I ρ (a.eval x) (eu st.tm y):=by
 have:=afB h hc;unfold eu;cases hs:y.ev st.tm with
 |none=>rw[hs]at hv;cases hv
 |v g x=>rw[hs]at hv this;exact this.1 hv
def o7 (P:Program)(E:Env P)(n:Nat)(o:Oper)(a:Act)(w:World)(st:iy)(rv:AV):Prop:=
 ∃v w' I' ρ',((execOp a.eval o).run P w = .ok (.value v) w'\/(execOp a.eval o).run P w = .ok .skip w'/\o.dst=none)/\GX E I' ρ' n st a w'/\(o.dst≠none->GV I' ρ' v rv)
theorem o7.val {o:Oper}{v:Value}{rv:AV}(h:GX E I ρ n st a w)(hr:(execOp a.eval o).run P w = .ok (.value v) w)(hv:GV I ρ v rv):o7 P E n o a w st rv:=
 ⟨v,w,I,ρ,.inl hr,h,λ_=>hv⟩
def abE : TypeDesc->Bool
 |.struct _|.array _ _=>true
 |_=>false
def QO (P:Program)(t:TypeId)(agg:Bool)(k:Nat):Bool:=
 match P.underlying t,P.info? t with
 |some d,some i=>abE d==agg&&i.size==k
 |_,_=>false
theorem JK {t:TypeId}{agg:Bool}{k:Nat}(h:QO P t agg k=true)(w:World):(isAgg t).run P w = .ok agg w/\(sizeOf t).run P w = .ok k w:=by
 unfold QO at h;split at h
 ·rename_i d i hd hi;simp only[ah,beq_iff_eq]at h;obtain⟨rfl,rfl⟩:=h;refine⟨?_,by simp[sizeOf,typeInfo,hi]⟩;cases d<;>simp[isAgg,run_underlying hd,abE]
 ·cases h
def N9 (P:Program)(t:TypeId)(k:Nat):Bool:=match P.info? t with|some i=>i.size==k|none=>false
theorem Jf {t:TypeId}{k:Nat}(h:N9 P t k=true):∃i,P.info? t=some i/\i.size=k:=by
 unfold N9 at h;split at h
 ·rename_i i hi;exact⟨i,hi,by simpa using h⟩
 ·cases h
def aa2 (n:Nat)(op:Op)(y:oW):Bool:=match op with|.move x|.assign x=>kU n x y|_=>false
theorem ad8 {o:Oper}{y:oW}(h:GX E I ρ n st a w)(hc:aa2 n o.op y=true)(hv:(y.ev st.tm).g=true):o7 P E n o a w st (eu st.tm y):=by
 unfold aa2 at hc;split at hc
 ·rename_i x hx;exact o7.val h (v:=a.eval x) (by simp[execOp,hx]) (og h hc hv)
 ·rename_i x hx;exact o7.val h (v:=a.eval x) (by simp[execOp,hx]) (og h hc hv)
 ·cases hc
def TB (n:Nat)(op:Op)(c x y:oW):Bool:=match op with|.pick c' x' y'=>kU n c' c&&kU n x' x&&kU n y' y|_=>false
theorem Jv {v:Value}{b:Bool}(h:GV I ρ v (yz b)):v = .bool b:=by cases h with|lit v hv=>rfl
theorem xw {v:Value}{k:IntKind}{m:Int}(h:GV I ρ v (wR k m)):v = .int k m:=by cases h with|lit v hv=>rfl
theorem Gj {v:Value}{l:List UInt8}(h:GV I ρ v (Ie l)):v = .string ⟨⟨l⟩⟩/\l.length<=maxLen:=by cases h with|str l hl=>exact⟨rfl,hl⟩
theorem F6 (b:Bool):GV I ρ (.bool b) (yz b):=Rd.lit _ rfl
theorem Aw (k:IntKind)(m:Int):GV I ρ (.int k m) (wR k m):=Rd.lit _ rfl
theorem TZ {l:List UInt8}(h:l.length<=maxLen):GV I ρ (.string ⟨⟨l⟩⟩) (Ie l):=Rd.str l h
theorem XI (x y:AV){v:Value}(h:GV I ρ v x):GV I ρ v (Ou true x y):=by
 unfold Ou;split
 ·exact h
 ·exact h
theorem VU (x y:AV){v:Value}(h:GV I ρ v y):GV I ρ v (Ou false x y):=by
 unfold Ou;split
 ·exact h
 ·simpa using h
theorem ZX {o:Oper}{c x y:oW}{t:Bool}(h:GX E I ρ n st a w)(hc:TB n o.op c x y=true)(hg:(c.ev st.tm).g=true)(ht:eu st.tm c=yz t)
 (hx:t=true->(x.ev st.tm).g=true) (hy:t=false->(y.ev st.tm).g=true):o7 P E n o a w st (Ou t (eu st.tm x) (eu st.tm y)):=by
 unfold TB at hc;split at hc
 ·rename_i c' x' y' he;simp only[ah]at hc;have h1:=og h hc.1.1 hg;rw[ht]at h1;have h1:=Jv h1;cases t with
  |true=>exact o7.val h (v:=a.eval x') (by simp[execOp,he,h1,asBool]) (XI _ _ (og h hc.1.2 (hx rfl)))
  |false=>exact o7.val h (v:=a.eval y') (by simp[execOp,he,h1,asBool]) (VU _ _ (og h hc.2 (hy rfl)))
 ·cases hc
theorem toList_eq (l:List UInt8):(⟨⟨l⟩⟩:ByteArray).toList=l:=by rw[Go.ByteArray.toList_eq]
theorem size_mk (l:List UInt8):(⟨⟨l⟩⟩:ByteArray).size=l.length:=rfl
theorem aei {b:BinOp}{t:TypeId}{x y:Value}{u v:AV}(w:World)(hx:GV I ρ x u)(hy:GV I ρ y v)(jK:(OD b u v).vc) :
 ∃r,(binOp b t x y).run P w = .ok r w/\GV I ρ r (OD b u v).v:=by
 unfold OD at *;split at jK
 ·rename_i k m k' m';obtain⟨rfl,jK⟩:=jK;have h1:=xw hx;have h2:=xw hy;subst h1;subst h2;cases b<;>simp only[Dc,FR.bad,FR.ok]at jK⊢ <;>
   first
   |exact jK.elim
   |(refine⟨_,?_,Aw _ _⟩;simp[binOp,Op.intArith,Op.intDiv,Op.intBits,jK])
   |(refine⟨_,?_,F6 _⟩;simp[binOp,Op.intCmp])
 ·rename_i l l';obtain⟨h1,hl⟩:=Gj hx;obtain⟨h2,hl'⟩:=Gj hy;subst h1;subst h2;cases b<;>simp only[Dj,FR.bad,FR.ok]at jK⊢ <;>
   first
   |exact jK.elim
   |(refine⟨_,?_,F6 _⟩;simp only[binOp,Op.stringOp,toList_eq];rfl)
   |skip
  refine⟨.string ⟨⟨l++l'⟩⟩,?_,TZ (by simpa using jK)⟩;have h63:¬((l.length+l'.length:Nat):Int)>Ed.max:=by simp only[maxLen]at jK;have e:Ed.max=9223372036854775807:=(by decide);rw[e];omega
  have happ:(⟨⟨l⟩⟩:ByteArray)++⟨⟨l'⟩⟩=⟨⟨l++l'⟩⟩:=by apply ByteArray.ext;simp
  simp only[binOp,Op.stringOp,size_mk];rw[if_neg h63,happ];rfl
 ·exact jK.elim
def Xb (n:Nat)(op:Op)(b:BinOp)(x y:oW):Bool:=match op with|.binOp b' _ x' y' _=>b'==b&&kU n x' x&&kU n y' y|_=>false
theorem Ir (b:BinOp)(t:TypeId)(x y:Operand)(k:IntKind)(m:Int)(v:Value)(w:World):(eqGuard b t x y (.int k m) v).run P w = .ok () w:=by cases b<;>rfl
theorem OL (b:BinOp)(t:TypeId)(x y:Operand)(s:ByteArray)(v:Value)(w:World):(eqGuard b t x y (.string s) v).run P w = .ok () w:=by cases b<;>rfl
theorem GZ (b:BinOp)(t:TypeId)(x y:Operand)(s:Bool)(v:Value)(w:World):(eqGuard b t x y (.bool s) v).run P w = .ok () w:=by cases b<;>rfl
theorem aaY {o:Oper}{b:BinOp}{x y:oW}(h:GX E I ρ n st a w)(hc:Xb n o.op b x y=true)(hx:(x.ev st.tm).g=true)(hy:(y.ev st.tm).g=true)
 (jK:(OD b (eu st.tm x) (eu st.tm y)).vc):o7 P E n o a w st (OD b (eu st.tm x) (eu st.tm y)).v:=by
 unfold Xb at hc;split at hc
 ·rename_i b' t x' y' t' he;simp only[ah,beq_iff_eq]at hc;obtain⟨⟨rfl,h1⟩,h2⟩:=hc;have g1:=og h h1 hx;have g2:=og h h2 hy;obtain⟨r,hr,hg⟩:=aei (P:=P) (t:=t) w g1 g2 jK;refine o7.val h ?_ hg;have hq:(eqGuard b' t x' y' (a.eval x') (a.eval y')).run P w = .ok () w:=by
   unfold OD at jK;split at jK
   ·rename_i e1 e2;rw[e1]at g1;rw[xw g1];exact Ir _ _ _ _ _ _ _ _
   ·rename_i e1 e2;rw[e1]at g1;rw[(Gj g1).1];exact OL _ _ _ _ _ _ _
   ·exact jK.elim
  simp[execOp,he,hq,hr]
 ·cases hc
def Xa (P:Program)(n:Nat)(op:Op)(ng:Bool)(x y:oW):Bool:=
 match op with
 |.binOp b t x' y' _=>(match b with|.eql=> !ng|.neq=>ng|_=>false)&&(match P.underlying t with|some .bool=>true|_=>false)&&kU n x' x&&kU n y' y
 |_=>false
theorem aaX {o:Oper}{ng:Bool}{x y:oW}(h:GX E I ρ n st a w)(hc:Xa P n o.op ng x y=true)(hx:(x.ev st.tm).g=true)(hy:(y.ev st.tm).g=true)
 (jK:(U5 ng (eu st.tm x) (eu st.tm y)).vc):o7 P E n o a w st (U5 ng (eu st.tm x) (eu st.tm y)).v:=by
 unfold Xa at hc;split at hc
 ·rename_i b t x' y' t' he;simp only[ah]at hc;obtain⟨⟨⟨hb,ht⟩,h1⟩,h2⟩:=hc;have g1:=og h h1 hx;have g2:=og h h2 hy;unfold U5 at jK⊢;split at jK
  ·rename_i p q e1 e2;rw[e1]at g1;rw[e2]at g2;have hu:P.underlying t=some .bool:=by
    split at ht
    ·assumption
    ·cases ht
   have hd:∀d,(yV (d+1) t (.bool p) (.bool q)).run P w = .ok (p==q) w:=λd=>(by simp[yV,run_underlying hu]);have he':(Op.equal t (.bool p) (.bool q)).run P w = .ok (p==q) w:=hd 9999;have hp:=Jv g1;have hq:=Jv g2;simp only[FR.ok];cases b<;>simp at hb
   ·subst hb;refine o7.val h ?_ (F6 _);simp[execOp,he,hp,hq,GZ,binOp,he']
   ·subst hb;refine o7.val h ?_ (F6 _);simp[execOp,he,hp,hq,GZ,binOp,he',bne]
  ·exact jK.elim
 ·cases hc
def Xh (n:Nat)(op:Op)(x:oW):Bool:=match op with|.unOp .not _ x'=>kU n x' x|_=>false
theorem ab5 {o:Oper}{x:oW}{b:Bool}(h:GX E I ρ n st a w)(hc:Xh n o.op x=true)(hx:(x.ev st.tm).g=true)(hb:eu st.tm x=yz b):o7 P E n o a w st (yz (!b)):=by
 unfold Xh at hc;split at hc
 ·rename_i t x' he;have g1:=og h hc hx;rw[hb]at g1;have hp:=Jv g1;exact o7.val h (by simp[execOp,he,hp,Op.unary]) (F6 _)
 ·cases hc
def Xg (n:Nat)(op:Op)(x:oW):Bool:=match op with|.unOp .neg _ x'=>kU n x' x|_=>false
theorem ab2 {o:Oper}{x:oW}{k:IntKind}{m:Int}(h:GX E I ρ n st a w)(hc:Xg n o.op x=true)(hx:(x.ev st.tm).g=true)(hb:eu st.tm x=wR k m):o7 P E n o a w st (wR k (k.wrap (0-m))):=by
 unfold Xg at hc;split at hc
 ·rename_i t x' he;have g1:=og h hc hx;rw[hb]at g1;have hp:=xw g1;exact o7.val h (v:=.int k (k.wrap (0-m))) (by simp[execOp,he,hp,Op.unary,Op.intArith]) (Aw _ _)
 ·cases hc
def Ti (P:Program)(n:Nat)(op:Op)(k:IntKind)(x:oW):Bool:=match op with|.convert s d x'=>(match P.underlying s with|some _=>true|none=>false)&&(match P.underlying d with|some (.int k')=>k'==k|_=>false)&&kU n x' x|_=>false
theorem Zc {o:Oper}{x:oW}{k j:IntKind}{m:Int}(h:GX E I ρ n st a w)(hc:Ti P n o.op k x=true)(hx:(x.ev st.tm).g=true)(hb:eu st.tm x=wR j m):o7 P E n o a w st (wR k (k.wrap m)):=by
 unfold Ti at hc;split at hc
 ·rename_i s d x' he;simp only[ah]at hc;have g1:=og h hc.2 hx;rw[hb]at g1;have hp:=xw g1;obtain⟨⟨h1,h2⟩,_⟩:=hc;split at h1
  ·rename_i ds hs;split at h2
   ·rename_i k' hd;simp only[beq_iff_eq]at h2;subst h2;exact o7.val h (v:=.int k' (k'.wrap m)) (by simp[execOp,he,hp,convert,run_underlying hs,run_underlying hd,Conv.intToInt]) (Aw _ _)
   ·cases h2
  ·cases h1
 ·cases hc
def TC (P:Program)(n:Nat)(op:Op)(x:oW):Bool:=match op with|.convert s d x'=>(match P.underlying s with|some .string=>true|_=>false)&&(match P.underlying d with|some .string=>true|_=>false)&&kU n x' x|_=>false
theorem aac {o:Oper}{x:oW}{l:List UInt8}(h:GX E I ρ n st a w)(hc:TC P n o.op x=true)(hx:(x.ev st.tm).g=true)(hb:eu st.tm x=Ie l):o7 P E n o a w st (Ie l):=by
 unfold TC at hc;split at hc
 ·rename_i s d x' he;simp only[ah]at hc;have g1:=og h hc.2 hx;rw[hb]at g1;obtain⟨hp,hl⟩:=Gj g1;obtain⟨⟨h1,h2⟩,_⟩:=hc;split at h1
  ·rename_i hs;split at h2
   ·rename_i hd;exact o7.val h (by simp[execOp,he,hp,convert,run_underlying hs,run_underlying hd]) (TZ hl)
   ·cases h2
  ·cases h1
 ·cases hc
end
end
section
section
variable {P:Program} {E:Env P} {I:IH} {ρ:Ren} {n:Nat} {st:iy} {a:Act} {w:World}
theorem lZ {α:Type}{es:List (List α)}{i j:Nat}{c:α}(h:(es.getD i [])[j]? = some c):i<es.length:=by
 by_cases hi:i<es.length
 ·exact hi
 ·simp[bu,nG (Af hi)]at h
theorem Addr.add_zero (p:Addr):p.add 0=p:=by simp[vg]
theorem Addr.zf (k o i:Nat):(⟨k,o,none⟩:Addr).add i=⟨k,o+i,none⟩:=by
 unfold vg;split
 ·simp_all
 ·rfl
theorem Addr.add_add (p:Addr)(i j:Nat):(p.add i).add j=p.add (i+j):=by unfold vg;by_cases hi:i=0<;>by_cases hj:j=0<;>simp[hi,hj,sD]
def BK (I:IH)(ρ:Ren)(w:World)(p:Addr)(xs:List AC):Prop:=
 ∀(j:Nat) (x:AC),xs[j]? = some x->∃u,w.cell? (p.add j)=some u/\GC I ρ u x
theorem BK.drop {p:Addr}{xs:List AC}(h:BK I ρ w p xs)(off:Nat):BK I ρ w (p.add off) (xs.drop off):=λj x hj=>by rw[ja]at hj;rw[Addr.add_add];exact h _ _ hj
theorem BK.take {p:Addr}{xs:List AC}(h:BK I ρ w p xs)(k:Nat):BK I ρ w p (xs.take k):=λj x hj=>by
 rw[bT]at hj;split at hj
 ·exact h _ _ hj
 ·cases hj
theorem BK.list {p:Addr}{xs:List AC}(h:BK I ρ w p xs):∃us:List Value,us.length=xs.length/\(∀(j:Nat) (u:Value),us[j]? = some u->w.cell? (p.add j)=some u)/\Jo I ρ us xs:=by
 induction xs generalizing p with
 |nil=>exact⟨[],rfl,by simp,rfl,by simp⟩
 | cons x r ih=>
   obtain⟨u,hu,hg⟩:=h 0 x rfl;obtain⟨us,hl,hc,hgs⟩:=ih (p:=p.add 1) (λj y hj=>by rw[Addr.add_add];rw[zO];exact h (j+1) y (by simpa using hj));refine⟨u::us,by simp[hl],λj v hj=>?_,by simp[hl],λj v y hv hy=>?_⟩
   ·cases j with
    |zero=>simp at hj;subst hj;exact hu
    |succ j=>have:=hc j v (by simpa using hj);rwa[Addr.add_add,zO]at this
   ·cases j with
    |zero=>simp at hv hy;subst hv;subst hy;exact hg
    |succ j=>exact hgs.2 j v y (by simpa using hv) (by simpa using hy)
theorem Us {t:TypeId}{k:Nat}(ht:QO P t true k=true){p:Addr}{xs:List AC}(hl:xs.length=k)(h:BK I ρ w p xs) :
 ∃v,(loadVar t p).run P w = .ok v w/\GV I ρ v (.agg xs):=by
 obtain⟨us,hul,hc,hg⟩:=h.list;obtain⟨h1,h2⟩:=JK ht w;have h3:=run_loadCells_list (P:=P) w p us hc;refine⟨.agg us.toArray,?_,us.toArray,rfl,by simpa using hg⟩;rw[hul,hl]at h3;simp[loadVar,h1,h2,h3]
theorem Ut {t:TypeId}{k:Nat}(ht:QO P t false k=true){p:Addr}{u:Value}(h:w.cell? p=some u):(loadVar t p).run P w = .ok u w:=by obtain⟨h1,h2⟩:=JK ht w;simp[loadVar,h1,run_load,h]
theorem BX.aap (h:BX I ρ w st.bx){b k cap:Nat}{xs:List AC}(hb:st.bx b = .var xs)(hr:ρ b=some (k,cap)):BK I ρ w ⟨k,0,none⟩ xs:=λj x hj=>by
 have:=h.ok b;rw[hb]at this;obtain⟨k',cap',cs,hr',hw,hs,hc⟩:=this;rw[hr]at hr';simp at hr';obtain⟨rfl,rfl⟩:=hr';have hjl:j<cs.size:=by rw[hs];exact(bn.1 hj).1
 refine⟨cs[j],?_,hc j _ x (oO hjl) hj⟩;rw[Addr.zf];simp[oQ,hw,oO hjl]
theorem GS.Jr (h:GX E I ρ n st a w){b k cap sz:Nat}{es:List (List Cell)}(hb:(st.bx b).arr=some (sz,es))(hr:ρ b=some (k,cap))(hc:cap≠0){i:Nat}(hi:i<es.length) :
 BK I ρ w ⟨k,i*sz,none⟩ ((es.getD i []).map .c):=λj x hj=>by
 rw[fQ]at hj;cases hq:(es.getD i [])[j]? with
 |none=>rw[hq]at hj;cases hj
 | some c=>
   rw[hq]at hj;simp at hj;subst hj;have hok:=h.bx.ok b;rw[Addr.zf];cases hx:st.bx b with
   | dat sz' es'=>rw[hx]at hok hb;simp[Box.arr]at hb;obtain⟨rfl,rfl⟩:=hb;obtain⟨k',cap',hr',_,_,_,hd⟩:=hok;rw[hr]at hr';simp at hr';obtain⟨rfl,rfl⟩:=hr';obtain⟨cs,e,hw,_,_,hcs⟩:=hd hc;obtain⟨u,hu,hrd⟩:=hcs i j c hq;exact⟨u,by simp[oQ,hw,hu],hrd⟩
   | EP sz' es'=>rw[hx]at hok hb;simp[Box.arr]at hb;obtain⟨rfl,rfl⟩:=hb;obtain⟨k',cap',hr',_,_,_,hd⟩:=hok;rw[hr]at hr';simp at hr';obtain⟨rfl,rfl⟩:=hr';obtain⟨cs,hI,hcs⟩:=hd hc;obtain⟨u,hu,hrd⟩:=hcs i j c hq;obtain⟨e,fr,hw⟩:=h.agree _ _ hI;exact⟨u,by simp[oQ,hw,hu],hrd⟩
   |absent=>rw[hx]at hb;cases hb
   |dead=>rw[hx]at hb;cases hb
   |var xs=>rw[hx]at hb;cases hb
   |row e l=>rw[hx]at hb;cases hb
theorem GS.Gw (h:GX E I ρ n st a w){b k cap sz:Nat}{es:List (List Cell)}(hb:(st.bx b).arr=some (sz,es))(hr:ρ b=some (k,cap)):es.length<=cap/\cap<=maxLen/\∀e,e∈es->e.length=sz:=by
 have hok:=h.bx.ok b;cases hx:st.bx b with
 | dat sz' es'=>rw[hx]at hok hb;simp[Box.arr]at hb;obtain⟨rfl,rfl⟩:=hb;obtain⟨k',cap',hr',h1,h2,h3,hd⟩:=hok;rw[hr]at hr';simp at hr';obtain⟨rfl,rfl⟩:=hr';exact⟨h1,h2,h3⟩
 | EP sz' es'=>rw[hx]at hok hb;simp[Box.arr]at hb;obtain⟨rfl,rfl⟩:=hb;obtain⟨k',cap',hr',h1,h2,h3,hd⟩:=hok;rw[hr]at hr';simp at hr';obtain⟨rfl,rfl⟩:=hr';exact⟨h1,h2,h3⟩
 |absent=>rw[hx]at hb;cases hb
 |dead=>rw[hx]at hb;cases hb
 |var xs=>rw[hx]at hb;cases hb
 |row e l=>rw[hx]at hb;cases hb
def Tv (P:Program)(n:Nat)(op:Op)(agg:Bool)(k:Nat)(p:oW):Bool:=match op with|.load t p'=>kU n p' p&&QO P t agg k&&(agg||k==1)|_=>false
theorem RU {t:TypeId}{agg:Bool}{k:Nat}(h:GX E I ρ n st a w)(ht:QO P t agg k=true){pv:Value}{p:AV}(hp:GV I ρ pv p)(jK:(zD agg k p st.bx).vc) :
 ∃v,(vV t pv).run P w = .ok v w/\GV I ρ v (zD agg k p st.bx).v:=by
 have key:∀(q:Addr) (xs:List AC) (off:Nat),pv = .pointer (some (q.add off))->BK I ρ w q xs->(agg=true->off+k<=xs.length->∃v,(vV t pv).run P w = .ok v w/\GV I ρ v (.agg ((xs.drop off).take k))) /\
  (agg=false->∀x,xs[off]? = some x->∃v,(vV t pv).run P w = .ok v w/\GV I ρ v (.one x)):=by
  intro q xs off hq hc;refine⟨λhA hl=>?_,λhA x hx=>?_⟩
  ·subst hA;obtain⟨v,hv,hg⟩:=Us (P:=P) (xs:=(xs.drop off).take k) ht (by simp;omega) ((hc.drop off).take k);exact⟨v,by simp[vV,hq,tu,hv],hg⟩
  ·subst hA;obtain⟨u,hu,hg⟩:=hc off x hx;exact⟨u,by simp[vV,hq,tu,Ut (P:=P) ht hu],hg⟩
 unfold zD at *;split at jK
 ·rename_i b off;obtain⟨kk,cap,hr,hv⟩:=hp;split at jK
  ·rename_i xs hb;have hc:=h.bx.aap hb hr;have hk:=key ⟨kk,0,none⟩ xs off (by rw[Addr.zf];simpa using hv) hc
   try simp only[hb]
   split at jK
   ·rename_i hA;rw[if_pos hA];exact hk.1 hA jK
   ·rename_i hA;rw[if_neg hA];split at jK
    ·rename_i x hx;simp only[FR.ok];exact hk.2 (by simpa using hA) x hx
    ·exact jK.elim
  ·exact jK.elim
 ·rename_i b i sz off;obtain⟨kk,cap,hr,hv⟩:=hp;split at jK
  ·rename_i sz' es hb
   try simp only[hb]
   have facts:=GS.Gw h hb hr;split at jK
   ·rename_i hA;rw[if_pos hA];obtain⟨rfl,hi,hl⟩:=jK;have hc:=GS.Jr h hb hr (by omega) hi;have hlen:(es.getD i []).length=sz':=facts.2.2 _ (by simp[bu,aB hi]);have:=(key ⟨kk,i*sz',none⟩ _ off (by rw[Addr.zf];exact hv) hc).1 hA (by rw[kJ,hlen];exact hl);simpa[List.map_drop,vF]using this
   ·rename_i hA;rw[if_neg hA];obtain⟨rfl,hi,hl⟩:=jK;have hc:=GS.Jr h hb hr (by omega) hi;have hlen:(es.getD i []).length=sz':=facts.2.2 _ (by simp[bu,aB hi]);have:=(key ⟨kk,i*sz',none⟩ _ off (by rw[Addr.zf];exact hv) hc).2 (by simpa using hA) (.c ((es.getD i []).getD off default))
     (by rw[fQ,aB (by omega)];simp[bu,aB (show off<(es[i]?.getD []).length by simpa[bu]using(by omega:off<(es.getD i []).length))])
    exact this
  ·exact jK.elim
 ·rename_i cs;obtain⟨p,hv,hc⟩:=hp;have hcc:BK I ρ w p (cs.map .c):=λj x hj=>by
   rw[fQ]at hj;cases hq:cs[j]? with
   |none=>rw[hq]at hj;cases hj
   |some c=>rw[hq]at hj;simp at hj;subst hj;obtain⟨u,hu,hr⟩:=hc j c hq;exact⟨u,h.agree.cell hu,hr⟩
  have hk:=key p _ 0 (by rw[Addr.add_zero];exact hv) hcc;split at jK
  ·rename_i hA;rw[if_pos hA];have:=hk.1 hA (by simpa using jK);simpa[vF]using this
  ·rename_i hA;rw[if_neg hA];have h0:cs[0]? = some (cs.getD 0 default):=(by simp[bu,aB jK]);exact hk.2 (by simpa using hA) _ (by rw[fQ,h0];rfl)
 ·exact jK.elim
theorem ZG {o:Oper}{agg:Bool}{k:Nat}{p:oW}(h:GX E I ρ n st a w)(hc:Tv P n o.op agg k p=true)(hx:(p.ev st.tm).g=true)(jK:(zD agg k (eu st.tm p) st.bx).vc) :
 o7 P E n o a w st (zD agg k (eu st.tm p) st.bx).v:=by
 unfold Tv at hc;split at hc
 ·rename_i t p' he;simp only[ah]at hc;obtain⟨v,hv,hg⟩:=RU (P:=P) h hc.1.2 (og h hc.1.1 hx) jK;exact o7.val h (by simp[execOp,he,hv]) hg
 ·cases hc
end
end
section
section
variable {P:Program} {E:Env P} {I:IH} {ρ:Ren} {n:Nat} {st:iy} {a:Act} {w:World}
def L6 (P:Program)(t:TypeId):Bool:=match P.underlying t with|some (.slice _)=>true|_=>false
theorem JW {t:TypeId}(h:L6 P t=true):∃e,P.underlying t=some (.slice e):=by
 unfold L6 at h;split at h
 ·rename_i e he;exact⟨e,he⟩
 ·cases h
def NQ (P:Program)(t:TypeId):Bool:=match P.underlying t with|some .string=>true|_=>false
theorem FY {t:TypeId}(h:NQ P t=true):P.underlying t=some .string:=by
 unfold NQ at h;split at h
 ·assumption
 ·cases h
theorem aeF {v:Value}{sz:Nat}{es:List (List Cell)}(h:GV I ρ v (vSl sz es)):∃a cap,v = .slice a es.length cap/\es.length<=cap/\cap<=maxLen:=by cases h with|sl a len cap sz es u hlen hcap hmax=>subst hlen;exact⟨a,cap,rfl,hcap,hmax⟩
def lenV (x:AV):FR:=match x with
    |.one (.c (.sl _ es))=>.ok (wR .i64 es.length)
    |.one (.jC _)=>.ok (wR .i64 0)
    |.one (.own _ n _)=>.ok (wR .i64 n)
    |.one (.sub _ _ n _ _)=>.ok (wR .i64 n)
    |_=>.bad
theorem afd {v:Value}{x:AV}(h:GV I ρ v x)(jK:(lenV x).vc):∃b k c,v = .slice b k c/\(lenV x).v=wR .i64 k:=by
 unfold lenV at *;split at jK
 ·rename_i sz es;obtain⟨b,c,rfl,_⟩:=aeF h;exact⟨b,_,c,rfl,rfl⟩
 ·simp only[GV,GC]at h;exact⟨none,0,0,h,rfl⟩
 ·obtain⟨k,cap,b,c,_,rfl,_⟩:=h;exact⟨b,_,c,rfl,rfl⟩
 ·obtain⟨k,cap,b,c,_,rfl,_⟩:=h;exact⟨b,_,c,rfl,rfl⟩
 ·exact jK.elim
def Xf (P:Program)(n:Nat)(op:Op)(x:oW):Bool:=
 match op with
 |.call { callee:=.builtin .len,args:=⟨[x']⟩,argTypes:=⟨[t]⟩ }=>kU n x' x&&L6 P t
 |_=>false
theorem abN {o:Oper}{x:oW}(h:GX E I ρ n st a w)(hc:Xf P n o.op x=true)(hx:(x.ev st.tm).g=true)(jK:(lenV (eu st.tm x)).vc):o7 P E n o a w st (lenV (eu st.tm x)).v:=by
 unfold Xf at hc;split at hc
 ·rename_i x' t he;simp only[ah]at hc;have g:=og h hc.1 hx;obtain⟨e,ht⟩:=JW hc.2;obtain⟨b,k,c,hv,hr⟩:=afd g jK;rw[hr];exact o7.val h (by simp[execOp,he,resolve,invoke,builtin,Builtin.len_,run_underlying ht,hv,goInt]) (Aw _ _)
 ·cases hc
def Tu (P:Program)(n:Nat)(op:Op)(x:oW):Bool:=
 match op with
 |.call { callee:=.builtin .len,args:=⟨[x']⟩,argTypes:=⟨[t]⟩ }=>kU n x' x&&NQ P t
 |_=>false
theorem ZC {o:Oper}{x:oW}{s:List UInt8}(h:GX E I ρ n st a w)(hc:Tu P n o.op x=true)(hx:(x.ev st.tm).g=true)(hs:eu st.tm x=Ie s):o7 P E n o a w st (wR .i64 s.length):=by
 unfold Tu at hc;split at hc
 ·rename_i x' t he;simp only[ah]at hc;have g:=og h hc.1 hx;rw[hs]at g;have ht:=FY hc.2;obtain⟨hv,_⟩:=Gj g;exact o7.val h (v:=.int .i64 s.length) (by simp[execOp,he,resolve,invoke,builtin,Builtin.len_,run_underlying ht,hv,goInt];rfl) (Aw _ _)
 ·cases hc
def RG (mx:Bool)(n:Nat)(op:Op)(x y:oW):Bool:=
 match op with
 |.call { callee:=.builtin b,args:=⟨[x',y']⟩,argTypes:=_ }=>(match b with|.max=>mx|.min=> !mx|_=>false)&&kU n x' x&&kU n y' y
 |_=>false
theorem abY {o:Oper}{x y:oW}{k:IntKind}{p q:Int}(h:GX E I ρ n st a w)(hc:RG true n o.op x y=true)(hx:(x.ev st.tm).g=true)(hy:(y.ev st.tm).g=true)
 (e1:eu st.tm x=wR k p) (e2:eu st.tm y=wR k q):o7 P E n o a w st (wR k (if q>p then q else p)):=by
 unfold RG at hc;split at hc
 ·rename_i b x' y' ts he;simp only[ah]at hc;have g1:=og h hc.1.2 hx;have g2:=og h hc.2 hy;rw[e1]at g1;rw[e2]at g2;have v1:=xw g1;have v2:=xw g2;obtain⟨⟨hb,_⟩,_⟩:=hc;cases b<;>simp at hb;refine o7.val h (v:=.int k (if q>p then q else p)) ?_ (Aw _ _);simp[execOp,he,resolve,invoke,builtin,Builtin.max_,v1,v2,Builtin.max2]
 ·cases hc
theorem abZ {o:Oper}{x y:oW}{k:IntKind}{p q:Int}(h:GX E I ρ n st a w)(hc:RG false n o.op x y=true)(hx:(x.ev st.tm).g=true)(hy:(y.ev st.tm).g=true)
 (e1:eu st.tm x=wR k p) (e2:eu st.tm y=wR k q):o7 P E n o a w st (wR k (if q<p then q else p)):=by
 unfold RG at hc;split at hc
 ·rename_i b x' y' ts he;simp only[ah]at hc;have g1:=og h hc.1.2 hx;have g2:=og h hc.2 hy;rw[e1]at g1;rw[e2]at g2;have v1:=xw g1;have v2:=xw g2;obtain⟨⟨hb,_⟩,_⟩:=hc;cases b<;>simp at hb;refine o7.val h (v:=.int k (if q<p then q else p)) ?_ (Aw _ _);simp[execOp,he,resolve,invoke,builtin,Builtin.min_,v1,v2,Builtin.min2]
 ·cases hc
theorem adS {v:Value}{xs:List AC}(h:GP I ρ v (true,xs)):GV I ρ v (.agg xs):=by simpa[GP,GV]using h
theorem abn {v:Value}{x:AC}(h:GP I ρ v (false,[x])):GV I ρ v (.one x):=by simp only[GP]at h;obtain⟨y,hy,hg⟩:=h;simp at hy;subst hy;exact hg
def GI (x:AV) (i:Nat):FR:=match x with
    | .wu ps=>match ps[i]? with
      |some (true,xs)=>.ok (.agg xs)
      |some (false,[x])=>.ok (.one x)
      |_=>.bad
    |_=>.bad
def Kr (n:Nat)(op:Op)(x:oW)(i:Nat):Bool:=match op with|.extract x' j=>kU n x' x&&j==i|_=>false
theorem TG {o:Oper}{x:oW}{i:Nat}(h:GX E I ρ n st a w)(hc:Kr n o.op x i=true)(hx:(x.ev st.tm).g=true)(jK:(GI (eu st.tm x) i).vc):o7 P E n o a w st (GI (eu st.tm x) i).v:=by
 unfold Kr at hc;split at hc
 ·rename_i x' j he;simp only[ah,beq_iff_eq]at hc;obtain⟨h1,rfl⟩:=hc;have g:=og h h1 hx;unfold GI at jK⊢;split at jK
  ·rename_i ps e1;rw[e1]at g;obtain⟨vs,hv,hs,hp⟩:=g;have hj:∀p,ps[j]? = some p->∃v,vs[j]? = some v/\GP I ρ v p:=λp hq=>by
    have hl:j<vs.size:=(by rw[hs];exact(bn.1 hq).1);exact⟨vs[j],oO hl,hp j _ p (oO hl) hq⟩
   split at jK
   ·rename_i xs hq;obtain⟨v,hv',hg⟩:=hj _ hq;exact o7.val h (by simp[execOp,he,hv,Instr.extract,hv']) (adS hg)
   ·rename_i y hq;obtain⟨v,hv',hg⟩:=hj _ hq;exact o7.val h (by simp[execOp,he,hv,Instr.extract,hv']) (abn hg)
   ·exact jK.elim
  ·exact jK.elim
 ·cases hc
def Tq (P:Program)(n:Nat)(op:Op)(x i:oW):Bool:=match op with|.index t x' i'=>kU n x' x&&kU n i' i&&NQ P t|_=>false
theorem Zz {o:Oper}{x y:oW}{s:List UInt8}{k:IntKind}{i:Int}(h:GX E I ρ n st a w)(hc:Tq P n o.op x y=true)(hx:(x.ev st.tm).g=true)(hy:(y.ev st.tm).g=true)
 (e1:eu st.tm x=Ie s) (e2:eu st.tm y=wR k i) (h0:0<=i) (h1:i<s.length):o7 P E n o a w st (wR .u8 (s.getD i.toNat 0).toNat):=by
 unfold Tq at hc;split at hc
 ·rename_i t x' y' he;simp only[ah]at hc;have g1:=og h hc.1.1 hx;have g2:=og h hc.1.2 hy;rw[e1]at g1;rw[e2]at g2;obtain⟨v1,_⟩:=Gj g1;have v2:=xw g2;have ht:=FY hc.2;have hi:i.toNat<s.length:=by omega
  refine o7.val h (v:=.int .u8 (s.getD i.toNat 0).toNat) ?_ (Aw _ _);have hb:(⟨⟨s⟩⟩:ByteArray)[i.toNat]? = some (s.getD i.toNat 0):=by have:(⟨⟨s⟩⟩:ByteArray)[i.toNat]? = some ((⟨⟨s⟩⟩:ByteArray)[i.toNat]'(by simpa[ByteArray.size]using hi)):=getElem?_pos _ _ _;rw[this];simp[bu,aB hi];rfl
  simp[execOp,he,Instr.index,v1,v2,asIntOf,run_underlying ht,h0,hb]
 ·cases hc
def Tz (n:Nat)(op:Op)(f:FuncId)(cs:List oW):Bool:=match op with|.makeFunc (.func g) ⟨[]⟩ caps=>g==f&&(caps.size==cs.length)&&(caps.toList.zip cs).all λp=>kU n p.1 p.2|_=>false
theorem adF {cs:List oW}{os:List Operand}{l:List Nat}(h:GX E I ρ n st a w)(hl:os.length=cs.length)(hc:(os.zip cs).all (λp=>kU n p.1 p.2)=true)(hg:∀x,x∈cs->(x.ev st.tm).g=true)
 (hk:Gg (cs.map (eu st.tm))=some l):∃ks:List Nat,ks.length=l.length/\(∀(j b k:Nat),l[j]? = some b->ks[j]? = some k->∃cap,ρ b=some (k,cap))/\os.map a.eval=ks.map λk=>xK (some ⟨k,0,none⟩):=by
 induction cs generalizing os l with
 | nil=>
   simp[Gg]at hk;subst hk;cases os with
   |nil=>exact⟨[],rfl,by simp,rfl⟩
   |cons _ _=>simp at hl
 | cons c r ih=>
   cases os with
   |nil=>simp at hl
   | cons o os=>
     simp only[List.zip_cons_cons,dJ,ah]at hc;have g:=og h hc.1 (hg c (by simp));simp only[bJ]at hk;unfold Gg at hk;split at hk
     ·rename_i e;cases e
     ·rename_i b r' e;simp only[vX]at e;obtain⟨e1,rfl⟩:=e;cases hq:Gg (r.map (eu st.tm))with
      |none=>rw[hq]at hk;cases hk
      | some l'=>
        rw[hq]at hk;simp at hk;subst hk;obtain⟨ks,h1,h2,h3⟩:=ih (by simpa using hl) hc.2 (λx hx=>hg x (by simp[hx])) hq;rw[e1]at g;obtain⟨k,cap,hr,hv⟩:=g;refine⟨k::ks,by simp[h1],λj b' k' hb hk=>?_,by simp[hv,h3]⟩;cases j with
        |zero=>simp at hb hk;subst hb;subst hk;exact⟨cap,hr⟩
        |succ j=>exact h2 j b' k' (by simpa using hb) (by simpa using hk)
     ·cases hk
theorem ZR {o:Oper}{f:FuncId}{cs:List oW}{l:List Nat}(h:GX E I ρ n st a w)(hc:Tz n o.op f cs=true)(hg:∀x,x∈cs->(x.ev st.tm).g=true)
 (hk:Gg (cs.map (eu st.tm))=some l):o7 P E n o a w st (.one (.fn f l)):=by
 unfold Tz at hc;split at hc
 ·rename_i g caps he;simp only[ah,beq_iff_eq]at hc;obtain⟨⟨rfl,hl⟩,hc⟩:=hc;obtain⟨ks,h1,h2,h3⟩:=adF h (by simpa using hl) hc hg hk;refine o7.val h (v:=.func (.func g) #[] (caps.map a.eval)) (by simp[execOp,he,Instr.makeFunc]) ⟨ks,h1,h2,?_⟩
  congr 1
  apply Bi;simpa using h3
 ·cases hc
def IU (off:Nat) (x:AV):FR:=match x with
    |.one (.ptr b o)=>.ok (.one (.ptr b (o+off)))
    |.one (.zI b i sz o)=>.ok (.one (.zI b i sz (o+off)))
    |.one (.Gh cs)=>.ok (.one (.Gh (cs.drop off)))
    |_=>.bad
theorem abg {v:Value}{x:AV}{off:Nat}(h:GV I ρ v x)(jK:(IU off x).vc):∃p:Addr,v = .pointer (some p)/\GV I ρ (.pointer (some (p.add off))) (IU off x).v:=by
 unfold IU at *;split at jK
 ·rename_i b o;obtain⟨k,cap,hr,rfl⟩:=h;exact⟨_,rfl,k,cap,hr,by rw[Addr.zf]⟩
 ·rename_i b i sz o;obtain⟨k,cap,hr,rfl⟩:=h;exact⟨_,rfl,k,cap,hr,by rw[Addr.zf,sD]⟩
 ·rename_i cs;obtain⟨p,rfl,hc⟩:=h;exact⟨p,rfl,_,rfl,λj c hj=>by rw[ja]at hj;rw[Addr.add_add];exact hc _ c hj⟩
 ·exact jK.elim
def TI (P:Program)(s:TypeId)(f off:Nat)(agg:Bool)(k:Nat):Bool:=
 match P.underlying s with
 | some (.struct fs)=>match fs[f]? with
   |some TL=>TL.offset==off&&QO P TL.type agg k&&k != 0
   |none=>false
 |_=>false
theorem TJ {s:TypeId}{f off:Nat}{agg:Bool}{k:Nat}(h:TI P s f off agg k=true):∃fs TL,P.underlying s=some (.struct fs)/\fs[f]? = some TL/\TL.offset=off/\QO P TL.type agg k=true/\k≠0:=by
 unfold TI at h;split at h
 ·rename_i fs hs;split at h
  ·rename_i TL hf;simp only[ah,beq_iff_eq,bne_iff_ne]at h;exact⟨fs,TL,hs,hf,h.1.1,h.1.2,h.2⟩
  ·cases h
 ·cases h
def Vo (P:Program)(s:TypeId)(f off:Nat):Bool:=
 match P.underlying s with
 | some (.struct fs)=>match fs[f]? with
   |some TL=>TL.offset==off&&(match P.info? TL.type with|some i=>i.size != 0|none=>false)
   |none=>false
 |_=>false
def Py (P:Program)(n:Nat)(op:Op)(off:Nat)(x:oW):Bool:=match op with|.fieldAddr s x' f=>kU n x' x&&Vo P s f off|_=>false
theorem Xo {o:Oper}{x:oW}{off:Nat}(h:GX E I ρ n st a w)(hc:Py P n o.op off x=true)(hx:(x.ev st.tm).g=true)(jK:(IU off (eu st.tm x)).vc):o7 P E n o a w st (IU off (eu st.tm x)).v:=by
 unfold Py at hc;split at hc
 ·rename_i s x' f he;simp only[ah]at hc;have g:=og h hc.1 hx;obtain⟨p,hp,hg⟩:=abg g jK;obtain⟨_,hf⟩:=hc;unfold Vo at hf;split at hf
  ·rename_i fs hs;split at hf
   ·rename_i TL hfld;simp only[ah,beq_iff_eq]at hf;obtain⟨rfl,hf⟩:=hf;split at hf
    ·rename_i i hi;simp at hf;refine o7.val h ?_ hg;simp[execOp,he,Instr.fieldAt,run_underlying hs,hfld,hp,tu,fieldPlace,sizeOf,typeInfo,hi,hf]
    ·cases hf
   ·cases hf
  ·cases hf
 ·cases hc
def NU (x:AV):FR:=match x with
    |.one (.ptr b o)=>.ok (.one (.ptr b o))
    |.one (.zI b i sz o)=>.ok (.one (.zI b i sz o))
    |.one (.Gh cs)=>.ok (.one (.Gh cs))
    |.one (.fn f cs)=>.ok (.one (.fn f cs))
    |_=>.bad
def PK (n:Nat)(op:Op)(x:oW):Bool:=match op with|.nilCheck x'=>kU n x' x|_=>false
theorem XG {o:Oper}{x:oW}(h:GX E I ρ n st a w)(hc:PK n o.op x=true)(hx:(x.ev st.tm).g=true)(jK:(NU (eu st.tm x)).vc):o7 P E n o a w st (NU (eu st.tm x)).v:=by
 unfold PK at hc;split at hc
 ·rename_i x' he;have g:=og h hc hx;have key:(∃p,a.eval x' = .pointer (some p))\/(∃f b,a.eval x' = .func (.func f) #[] b)->(execOp a.eval o).run P w = .ok (.value (a.eval x')) w:=by rintro(⟨p,hp⟩|⟨f,b,hp⟩)<;>simp[execOp,he,hp]
  unfold NU at jK⊢;split at jK
  ·rename_i b o' e1;rw[e1]at g;exact o7.val h (key (by obtain⟨k,cap,hr,hv⟩:=g;exact .inl ⟨_,hv⟩)) g
  ·rename_i b i sz o' e1;rw[e1]at g;exact o7.val h (key (by obtain⟨k,cap,hr,hv⟩:=g;exact .inl ⟨_,hv⟩)) g
  ·rename_i cs e1;rw[e1]at g;exact o7.val h (key (by obtain⟨p,hv,_⟩:=g;exact .inl ⟨_,hv⟩)) g
  ·rename_i f cs e1;rw[e1]at g;exact o7.val h (key (by obtain⟨ks,_,_,hv⟩:=g;exact .inr ⟨_,_,hv⟩)) g
  ·exact jK.elim
 ·cases hc
end
end
section
section
variable {P:Program} {E:Env P} {I:IH} {ρ:Ren} {n:Nat} {st:iy} {a:Act} {w:World}
def NF (agg:Bool) (off k:Nat) (x:AV):FR:=match x with
    | .agg xs=>if agg then⟨off+k<=xs.length,.agg ((xs.drop off).take k),[]⟩else match xs[off]? with
      |some x=>.ok (.one x)
      |none=>.bad
    |_=>.bad
def Pz (P:Program)(n:Nat)(op:Op)(agg:Bool)(off k:Nat)(x:oW):Bool:=match op with|.field s x' f=>kU n x' x&&TI P s f off agg k|_=>false
theorem abl {vs:List Value}{xs:List AC}(h:Jo I ρ vs xs)(off k:Nat):Jo I ρ ((vs.drop off).take k) ((xs.drop off).take k):=by
 refine⟨by simp[h.1],λj v x hv hx=>?_⟩;rw[bT]at hv hx;split at hv
 ·rename_i hj;rw[if_pos hj]at hx;rw[ja]at hv hx;exact h.2 _ v x hv hx
 ·cases hv
theorem Xp {o:Oper}{x:oW}{agg:Bool}{off k:Nat}(h:GX E I ρ n st a w)(hc:Pz P n o.op agg off k x=true)(hx:(x.ev st.tm).g=true)(jK:(NF agg off k (eu st.tm x)).vc) :
 o7 P E n o a w st (NF agg off k (eu st.tm x)).v:=by
 unfold Pz at hc;split at hc
 ·rename_i s x' f he;simp only[ah]at hc;have g:=og h hc.1 hx;obtain⟨fs,TL,hs,hf,rfl,ht,hk⟩:=TJ hc.2;obtain⟨t1,t2⟩:=JK ht w;unfold NF at jK⊢;split at jK
  ·rename_i xs e1;rw[e1]at g;obtain⟨cs,hv,hg⟩:=g;split at jK
   ·rename_i hA;rw[if_pos hA];rw[hA]at t1;refine o7.val h (v:=.agg (cs.extract TL.offset (TL.offset+k))) (by simp[execOp,he,Instr.field,run_underlying hs,hf,hv,asAgg,part,t1,t2]) ⟨_,rfl,?_⟩;have:=abl hg TL.offset k;simpa[List.extract_eq_take_drop]using this
   ·rename_i hA;rw[if_neg hA];have hA':agg=false:=(by simpa using hA);rw[hA']at t1;split at jK
    ·rename_i y hy;have hl:TL.offset<cs.size:=by
      have h1:=hg.1;have h2:=(bn.1 hy).1;simp at h1;omega
     refine o7.val h (v:=cs[TL.offset]) (by simp[execOp,he,Instr.field,run_underlying hs,hf,hv,asAgg,part,t1,oO hl]) (hg.2 TL.offset _ y (by simp[hl]) hy)
    ·exact jK.elim
  ·exact jK.elim
 ·cases hc
def NK (sz:Nat) (x i:AV):FR:=match x,i with
    |.one (.c (.sl sz' es)),.one (.c (.lit (.int _ i)))=>⟨sz'=sz/\0<=i/\i<es.length,.one (.Gh (es.getD i.toNat [])),[]⟩
    |.one (.own b n sz'),.one (.c (.lit (.int _ i)))=>⟨sz'=sz/\0<=i/\i<n,.one (.zI b i.toNat sz 0),[]⟩
    |.one (.sub b lo n _ sz'),.one (.c (.lit (.int _ i)))=>⟨sz'=sz/\0<=i/\i<n,.one (.zI b (lo+i.toNat) sz 0),[]⟩
    |_,_=>.bad
def Ku (P:Program)(t:TypeId)(sz:Nat):Bool:=match P.underlying t with|some (.slice e)=>N9 P e sz|_=>false
theorem Dq {t:TypeId}{sz:Nat}(h:Ku P t sz=true):∃e i,P.underlying t=some (.slice e)/\P.info? e=some i/\i.size=sz:=by
 unfold Ku at h;split at h
 ·rename_i e he;obtain⟨i,h1,h2⟩:=Jf h;exact⟨e,i,he,h1,h2⟩
 ·cases h
def PE (P:Program)(n:Nat)(op:Op)(sz:Nat)(x i:oW):Bool:=match op with|.indexAddr t x' i'=>kU n x' x&&kU n i' i&&Ku P t sz|_=>false
theorem Xx {o:Oper}{x y:oW}{sz:Nat}(h:GX E I ρ n st a w)(hc:PE P n o.op sz x y=true)(hx:(x.ev st.tm).g=true)(hy:(y.ev st.tm).g=true)
 (jK:(NK sz (eu st.tm x) (eu st.tm y)).vc):o7 P E n o a w st (NK sz (eu st.tm x) (eu st.tm y)).v:=by
 unfold PE at hc;split at hc
 ·rename_i t x' y' he;simp only[ah]at hc;have g1:=og h hc.1.1 hx;have g2:=og h hc.1.2 hy;obtain⟨e,ti,ht,hi,hsz⟩:=Dq hc.2;unfold NK at jK⊢;split at jK
  ·rename_i sz' es k i e1 e2;obtain⟨rfl,h0,h1⟩:=jK;rw[e1]at g1;rw[e2]at g2;have v2:=xw g2;generalize hq:a.eval x'=v1 at g1;cases g1 with|sl b len cap _ _ u hlen hcap hmax ahc ha hcell hr=>
   subst hlen;have hpos:0<es.length:=(by omega);cases hb:b with
   |none=>exact absurd hb (ha hpos)
   | some ad=>
     subst hb;refine o7.val h (v:=.pointer (some (ad.add (i.toNat*sz')))) (by simp[execOp,he,zY,v2,hq,asIntOf,run_underlying ht,h0,h1,sizeOf,typeInfo,hi,hsz]) ⟨_,rfl,λj c hj=>?_⟩;have hil:i.toNat<es.length:=(by omega);have hjl:j<sz':=by have:=ahc (es.getD i.toNat []) (by simp[bu,aB hil]);rw[<- this];exact(bn.1 hj).1
     exact⟨_,by rw[Addr.add_add];exact hcell ad rfl _ j hil hjl,hr _ j c hj⟩
  ·rename_i b m sz' k i e1 e2;obtain⟨rfl,h0,h1⟩:=jK;rw[e1]at g1;rw[e2]at g2;have v2:=xw g2;obtain⟨kk,cap,ad,c,hr,hv,hm,hcc,hcap⟩:=g1;have hc0:cap≠0:=(by omega);have had:=hcap hc0;subst had;refine o7.val h (v:=.pointer (some ((⟨kk,0,none⟩:Addr).add (i.toNat*sz')))) (by simp[execOp,he,zY,v2,hv,asIntOf,run_underlying ht,h0,h1,sizeOf,typeInfo,hi,hsz]) ⟨kk,cap,hr,?_⟩;rw[Addr.zf];simp
  ·rename_i b lo m c0 sz' k i e1 e2;obtain⟨rfl,h0,h1⟩:=jK;rw[e1]at g1;rw[e2]at g2;have v2:=xw g2;obtain⟨kk,cap,ad,c,hr,hv,hm,hcc,_,hcap⟩:=g1;have had:=hcap (.inl (by omega));subst had;refine o7.val h (v:=.pointer (some ((⟨kk,lo*sz',none⟩:Addr).add (i.toNat*sz')))) (by simp[execOp,he,zY,v2,hv,asIntOf,run_underlying ht,h0,h1,sizeOf,typeInfo,hi,hsz]) ⟨kk,cap,hr,?_⟩;rw[Addr.zf,dQ,wB]
  ·exact jK.elim
 ·cases hc
def Lt (P:Program)(t:TypeId)(sz n:Nat):Bool:=match P.underlying t with|some (.array m e)=>m==n&&N9 P e sz|_=>false
theorem Lu {t:TypeId}{sz m:Nat}(h:Lt P t sz m=true):∃e i,P.underlying t=some (.array m e)/\P.info? e=some i/\i.size=sz:=by
 unfold Lt at h;split at h
 ·rename_i m' e he;simp only[ah,beq_iff_eq]at h;obtain⟨rfl,h⟩:=h;obtain⟨i,h1,h2⟩:=Jf h;exact⟨e,i,he,h1,h2⟩
 ·cases h
def Nz (P:Program)(n:Nat)(op:Op)(sz m:Nat)(x i:oW):Bool:=match op with|.indexAddr t x' i'=>kU n x' x&&kU n i' i&&Lt P t sz m|_=>false
theorem VF {o:Oper}{x y:oW}{sz m b:Nat}{k:IntKind}{i:Int}(h:GX E I ρ n st a w)(hc:Nz P n o.op sz m x y=true)(hx:(x.ev st.tm).g=true)(hy:(y.ev st.tm).g=true)
 (e1:eu st.tm x = .one (.zI b 0 sz 0)) (e2:eu st.tm y=wR k i) (h0:0<=i) (h1:i<m):o7 P E n o a w st (.one (.zI b i.toNat sz 0)):=by
 unfold Nz at hc;split at hc
 ·rename_i t x' y' he;simp only[ah]at hc;have g1:=og h hc.1.1 hx;have g2:=og h hc.1.2 hy;obtain⟨e,ti,ht,hi,hsz⟩:=Lu hc.2;rw[e1]at g1;rw[e2]at g2;have v2:=xw g2;obtain⟨kk,cap,hr,hv⟩:=g1;refine o7.val h (v:=.pointer (some ((⟨kk,0*sz+0,none⟩:Addr).add (i.toNat*sz)))) (by simp[execOp,he,zY,v2,hv,asIntOf,run_underlying ht,tu,h0,h1,sizeOf,typeInfo,hi,hsz]) ⟨kk,cap,hr,?_⟩;rw[Addr.zf];simp
 ·cases hc
theorem Gy {lo:Option oW}{lo':Option Operand}{d:Nat}{q:Int}(h:GX E I ρ n st a w)(hc:(match lo',lo with|none,none=>true|some x',some x=>kU n x' x|_,_=>false)=true)
 (hg:∀x,x∈lo.toList->(x.ev st.tm).g=true) (hb:bnd (eu st.tm) lo d=some q):(lo'=none/\lo=none/\q=d)\/∃x' k,lo'=some x'/\a.eval x' = .int k q:=by
 unfold bnd at hb;split at hc
 ·simp at hb;exact .inl ⟨rfl,rfl,hb.symm⟩
 ·rename_i x' x;have g:=og h hc (hg x (by simp));simp only at hb;split at hb
  ·rename_i k m e1;simp at hb;subst hb;rw[e1]at g;exact .inr ⟨x',k,rfl,xw g⟩
  ·cases hb
 ·cases hc
def Nw (n:Nat)(lo':Option Operand)(lo:Option oW):Bool:=match lo',lo with|none,none=>true|some x',some x=>kU n x' x|_,_=>false
theorem Js {lo:Option oW}{lo':Option Operand}{d:Nat}{q:Int}(h:(lo'=none/\lo=none/\q=d)\/∃x' k,lo'=some x'/\a.eval x' = .int k q) :
 lo'.map a.eval=none/\q=d\/∃k,lo'.map a.eval=some (.int k q):=by
 rcases h with⟨rfl,_,e⟩|⟨y,k,rfl,e⟩
 ·exact .inl ⟨rfl,e⟩
 ·exact .inr ⟨k,by simp[e]⟩
theorem run_sliceBound {k:IntKind}{i:Int}{y:Nat}{c:BoundsCode}(h0:0<=i)(h1:i<=y):(Instr.sliceBound (.int k i) y c).run P w = .ok i.toNat w:=by simp[Instr.sliceBound,asIntOf,h0,h1]
theorem CW (isS:Bool)(len cap:Nat)(lo' hi':Option Value){p q:Int}(hlo:lo'=none/\p=0\/∃k,lo'=some (.int k p))(hhi:hi'=none/\q=len\/∃k,hi'=some (.int k q))
 (h0:0<=p) (h1:p<=q) (h2:q<=cap):(yh isS len cap lo' hi' none).run P w = .ok (p.toNat,q.toNat,cap) w:=by
 rcases hlo with⟨rfl,rfl⟩|⟨k,rfl⟩<;>rcases hhi with⟨rfl,rfl⟩|⟨k',rfl⟩<;>cases isS <;>
  simp (disch:=omega) [yh,run_sliceBound]
def PN (P:Program)(n:Nat)(op:Op)(x:oW)(lo hi:Option oW):Bool:=match op with|.slice t x' lo' hi' none=>kU n x' x&&Nw n lo' lo&&Nw n hi' hi&&NQ P t|_=>false
theorem XT {o:Oper}{x:oW}{lo hi:Option oW}{s:List UInt8}{p q:Int}(h:GX E I ρ n st a w)(hc:PN P n o.op x lo hi=true)(hx:(x.ev st.tm).g=true)
 (hgl:∀x,x∈lo.toList->(x.ev st.tm).g=true) (hgh:∀x,x∈hi.toList->(x.ev st.tm).g=true)
 (e1:eu st.tm x=Ie s) (e2:bnd (eu st.tm) lo 0=some p) (e3:bnd (eu st.tm) hi s.length=some q) (h0:0<=p) (h1:p<=q) (h2:q<=s.length) :
 o7 P E n o a w st (Ie ((s.take q.toNat).drop p.toNat)):=by
 unfold PN at hc;split at hc
 ·rename_i t x' lo' hi' he;simp only[ah]at hc;have g1:=og h hc.1.1.1 hx;have ht:=FY hc.2;rw[e1]at g1;obtain⟨v1,hl⟩:=Gj g1;have b1:=Gy h hc.1.1.2 hgl e2;have b2:=Gy h hc.1.2 hgh e3;have hb:=CW (P:=P) (w:=w) false s.length s.length (lo'.map a.eval) (hi'.map a.eval) (p:=p) (q:=q)
   (Js b1) (Js b2) h0 h1 h2
  have hx:(⟨⟨s⟩⟩:ByteArray).extract p.toNat q.toNat=⟨⟨(s.take q.toNat).drop p.toNat⟩⟩:=by rw[Lib.extract_eq];simp[List.drop_take]
  refine o7.val h (v:=.string ⟨⟨(s.take q.toNat).drop p.toNat⟩⟩) ?_ (TZ (by simp;omega));simp only[execOp,he,xI,Be,v1,kX];simp[run_underlying ht];rw[show(⟨⟨s⟩⟩:ByteArray).size=s.length from rfl,hb];simp[hx]
 ·cases hc
def Si (sz:Nat) (x:AV) (lo:Option Int) (hi:Nat->Option Int):FR:=match x with
    | .one (.c (.sl sz' es))=>match lo,hi es.length with
      |some a,some b=>⟨sz'=sz/\0<=a/\a<=b/\b<=es.length,vSl sz ((es.take b.toNat).drop a.toNat),[]⟩
      |_,_=>.bad
    | .one (.jC sz')=>match lo,hi 0 with
      |some a,some b=>⟨a=0/\b=0,.one (.jC sz'),[]⟩
      |_,_=>.bad
    | .one (.own l n sz')=>match lo,hi n with
      |some a,some b=>⟨a=0/\0<=b/\b<=n,.one (.own l b.toNat sz'),[]⟩
      |_,_=>.bad
    |_=>.bad
theorem afE {v:Value}{sz:Nat}{es:List (List Cell)}(h:Rd I v (.sl sz es)){p q:Nat}(hpq:p<=q)(hq:q<=es.length):∃a cap,v = .slice a es.length cap/\es.length<=cap /\
 Rd I (.slice (if cap=p then a else a.map (·.add (p*sz))) (q-p) (cap-p)) (.sl sz ((es.take q).drop p)):=by
 cases h with|sl a len cap sz es u hlen hcap hmax hsz ha hcell hr=>
 subst hlen;refine⟨a,cap,rfl,hcap,?_⟩;refine Rd.sl _ _ _ _ _ (λi j=>u (p+i) j) (by simp;omega) (by omega) (by omega) ?_ ?_ ?_ ?_
 ·intro e he;exact hsz e (fJ (mP he))
 ·intro h0;rw[if_neg (by omega)];have:=ha (by omega);cases a with
  |none=>exact absurd rfl this
  |some ad=>simp
 ·intro ad had i j hi hj;rw[if_neg (by omega)]at had;cases a with
  |none=>simp at had
  | some ad'=>
    simp at had;subst had;rw[Addr.add_add,<- hcell ad' rfl (p+i) j (by omega) hj]
    congr 2
    rw[dQ,sD]
 ·intro i j c hc;have hi:=lZ hc;simp at hi;refine hr (p+i) j c ?_;rw[<- hc]
  congr 1
  simp only[bu];rw[ja,bT,if_pos (by omega)]
def TE (P:Program)(n:Nat)(op:Op)(sz:Nat)(x:oW)(lo hi:Option oW):Bool:=match op with|.slice t x' lo' hi' none=>kU n x' x&&Nw n lo' lo&&Nw n hi' hi&&Ku P t sz|_=>false
theorem aai {o:Oper}{sz:Nat}{x:oW}{lo hi:Option oW}(h:GX E I ρ n st a w)(hc:TE P n o.op sz x lo hi=true)(hx:(x.ev st.tm).g=true)
 (hgl:∀x,x∈lo.toList->(x.ev st.tm).g=true) (hgh:∀x,x∈hi.toList->(x.ev st.tm).g=true)
 (jK:(Si sz (eu st.tm x) (bnd (eu st.tm) lo 0) (bnd (eu st.tm) hi)).vc):o7 P E n o a w st (Si sz (eu st.tm x) (bnd (eu st.tm) lo 0) (bnd (eu st.tm) hi)).v:=by
 unfold TE at hc;split at hc
 ·rename_i t x' lo' hi' he;simp only[ah]at hc;have g1:=og h hc.1.1.1 hx;obtain⟨e,ti,ht,hti,hsz⟩:=Dq hc.2;have key:∀(b:Option Addr) (len cap:Nat) (p q:Int),a.eval x' = .slice b len cap->len<=cap->bnd (eu st.tm) lo 0=some p->bnd (eu st.tm) hi len=some q->0<=p->p<=q->q<=cap ->
   (execOp a.eval o).run P w = .ok (.value (.slice (if cap=p.toNat then b else b.map (·.add (p.toNat*sz))) (q.toNat-p.toNat) (cap-p.toNat))) w:=by
   intro b len cap p q hv hlc e2 e3 h0 h1 h2;have b1:=Gy h hc.1.1.2 hgl e2;have b2:=Gy h hc.1.2 hgh e3;have hb:=CW (P:=P) (w:=w) true len cap (lo'.map a.eval) (hi'.map a.eval) (p:=p) (q:=q)
    (Js b1) (Js b2) h0 h1 h2
   simp only[execOp,he,xI,Be,hv,kX];simp[run_underlying ht];rw[hb];simp[sizeOf,typeInfo,hti,hsz]
  unfold Si at jK⊢;split at jK
  ·rename_i sz' es e1;rw[e1]at g1;split at jK
   ·rename_i p q e2 e3;obtain⟨rfl,h0,h1,h2⟩:=jK;obtain⟨b,cap,hv,hcap,hr⟩:=afE g1 (p:=p.toNat) (q:=q.toNat) (by omega) (by omega);exact o7.val h (key b _ cap p q hv hcap e2 e3 h0 h1 (by omega)) hr
   ·exact jK.elim
  ·rename_i sz' e1;rw[e1]at g1;split at jK
   ·rename_i p q e2 e3;obtain⟨rfl,rfl⟩:=jK;have:=key none 0 0 0 0 g1 (au _) e2 e3 (by omega) (by omega) (by omega);exact o7.val h this (by simp[GV,GC])
   ·exact jK.elim
  ·rename_i b m sz' e1;rw[e1]at g1;split at jK
   ·rename_i p q e2 e3;obtain⟨rfl,h1,h2⟩:=jK;obtain⟨kk,cap,ad,c,hr,hv,hm,hcc,hcap⟩:=g1;have:=key ad m c 0 q hv hm e2 e3 (by omega) (by omega) (by omega);refine o7.val h this ⟨kk,cap,_,_,hr,rfl,by omega,by omega,λhc0=>?_⟩;rw[hcap hc0];simp[Addr.add_zero]
   ·exact jK.elim
  ·exact jK.elim
 ·cases hc
def PM (P:Program)(n:Nat)(op:Op)(sz m:Nat)(x:oW):Bool:=match op with|.slice t x' none none none=>kU n x' x&&Lt P t sz m|_=>false
theorem XR {o:Oper}{sz m b:Nat}{es:List (List Cell)}{x:oW}(h:GX E I ρ n st a w)(hc:PM P n o.op sz m x=true)(hx:(x.ev st.tm).g=true)
 (e1:eu st.tm x = .one (.zI b 0 sz 0)) (e2:st.bx b = .dat sz es) (hm:es.length=m):o7 P E n o a w st (.one (.own b m sz)):=by
 unfold PM at hc;split at hc
 ·rename_i t x' he;simp only[ah]at hc;have g1:=og h hc.1 hx;rw[e1]at g1;obtain⟨kk,cap,hr,hv⟩:=g1;obtain⟨e,ti,ht,hi',hsz⟩:=Lu hc.2;have facts:=GS.Gw h (b:=b) (by rw[e2];rfl) hr;refine o7.val h (v:=.slice (some ⟨kk,0,none⟩) m m) ?_ ⟨kk,cap,_,_,hr,rfl,au _,by omega,λ_=>rfl⟩;have hb:=CW (P:=P) (w:=w) false m m none none (p:=0) (q:=m) (.inl ⟨rfl,rfl⟩) (.inl ⟨rfl,rfl⟩) (by omega) (by omega) (by omega);simp only[execOp,he,xI,hv,kX];simp[run_underlying ht,tu];rw[hb];simp[sizeOf,typeInfo,hi',Addr.add_zero]
 ·cases hc
end
end
section
section
variable {P:Program} {E:Env P} {I:IH} {ρ:Ren} {n:Nat} {st:iy} {a:Act} {w:World}
theorem rF {α:Type}(xs ys:List α)(off j:Nat)(h:off+ys.length<=xs.length):(splice xs off ys)[j]? = if j<off then xs[j]? else if j<off+ys.length then ys[j-off]? else xs[j]?:=by
 unfold splice;have h1:(xs.take off).length=off:=by simp;omega
 by_cases hj:j<off
 ·rw[if_pos hj,dh,dU (by omega),bT,if_pos hj]
 ·rw[if_neg hj];by_cases hj2:j<off+ys.length
  ·rw[if_pos hj2,dU (by simp;omega),fF (by omega),h1]
  ·rw[if_neg hj2,fF (by simp;omega),ja]
   congr 1
   simp;omega
theorem length_splice {α:Type}(xs ys:List α)(off:Nat)(h:off+ys.length<=xs.length):(splice xs off ys).length=xs.length:=by unfold splice;simp;omega
theorem Qb {α:Type}(vs:List α):∀(i off:Nat) (cs:Array α),off+i+vs.length<=cs.size ->
 ((vs.zipIdx i).foldl (λcs p=>cs.setIfInBounds (off+p.2) p.1) cs).toList=splice cs.toList (off+i) vs:=by
 induction vs with
 |nil=>intro i off cs h;simp[splice]
 | cons v r ih=>
   intro i off cs h;simp only[List.zipIdx_cons,lT];rw[ih (i+1) off _ (by simp at h⊢;omega)];apply List.ext_getElem?;intro j;simp only[dB]at h;rw[rF _ _ _ _ (by simp;omega),rF _ _ _ _ (by simp;omega)];simp only[Array.toList_setIfInBounds,CS,dB];by_cases h1:j<off+i
   ·rw[if_pos (by omega),if_neg (by omega),if_pos h1]
   ·rw[if_neg h1];by_cases h2:j=off+i
    ·subst h2;rw[if_pos (by omega),if_pos rfl,if_pos (by simp;omega),if_pos (by omega)];simp
    ·rw[if_neg (by omega)];by_cases h3:j<off+(i+1)+r.length
     ·rw[if_pos h3,if_pos (by omega)];rw[show j-(off+i)=(j-(off+(i+1)))+1 by omega,List.getElem?_cons_succ]
     ·rw[if_neg h3,if_neg (by omega),if_neg (by omega)]
theorem foldl_set (v:Array Value)(off:Nat)(cs:Array Value)(h:off+v.size<=cs.size) :
 (v.zipIdx.foldl (λcs (p:Value×Nat)=>cs.setIfInBounds (off+p.2) p.1) cs).toList=splice cs.toList off v.toList:=by
 have:=Qb v.toList 0 off cs (by simpa using h);rw[wB]at this;rw[<- this,<- Array.foldl_toList,Array.toList_zipIdx]
theorem Jo.splice {vs us:List Value}{xs ys:List AC}(h:Jo I ρ vs xs)(k:Jo I ρ us ys)(off:Nat)(hl:off+ys.length<=xs.length):Jo I ρ (splice vs off us) (splice xs off ys):=by
 have hlu:off+us.length<=vs.length:=by rw[h.1,k.1];exact hl
 refine⟨by rw[length_splice _ _ _ hlu,length_splice _ _ _ hl];exact h.1,λj v x hv hx=>?_⟩;rw[rF _ _ _ _ hlu]at hv;rw[rF _ _ _ _ hl]at hx;rw[k.1]at hv;by_cases h1:j<off
 ·rw[if_pos h1]at hv hx;exact h.2 j v x hv hx
 ·rw[if_neg h1]at hv hx;by_cases h2:j<off+ys.length
  ·rw[if_pos h2]at hv hx;exact k.2 _ v x hv hx
  ·rw[if_neg h2]at hv hx;exact h.2 j v x hv hx
theorem IV {v:Value}{x:AV}(h:GV I ρ v x)(ht:x.flat):Jo I ρ v.cells.toList x.cells:=by
 cases x with
 | one x=>
   have h1:=GC.one h;have hc:v.cells = #[v]:=by cases v<;>first|rfl|(simp[Value.oneCell']at h1;done)
   rw[hc];exact⟨rfl,λj u y hu hy=>by cases j with
    |zero=>simp at hu;simp[AV.cells]at hy;subst hu;subst hy;exact h
    |succ j=>simp at hu⟩
 |agg xs=>obtain⟨cs,rfl,hg⟩:=h;exact hg
 |wu ps=>exact ht.elim
def Nh (zs:List Value)(xs:List AC):Bool:=zs.length==xs.length&&(zs.zip xs).all λp=>adG p.1 p.2
theorem Ii {zs:List Value}{xs:List AC}(h:Nh zs xs=true):Jo I ρ zs xs:=by unfold Nh at h;simp only[ah,beq_iff_eq,bg]at h;refine⟨h.1,λj v x hv hx=>Yc (h.2 (v,x) ?_)⟩;exact iM (i:=j) (by simp[yY,hv,hx])
def JB (P:Program)(n:Nat)(fs:Array Field):List (Nat×Operand)->List (Nat×Nat×oW)->Bool
 |[],[]=>true
 |(i,x)::r,(off,sz,y)::r'=>(match fs[i]? with
  |some f=>f.offset==off&&N9 P f.type sz
  |none=>false)&&kU n x y&&JB P n fs r r'
 |_,_=>false
theorem run_places (w:World)(fs:List Field)(h:fs.all (λf=>(P.info? f.type).isSome)=true) :
 (fs.mapM (m:=Sem) λf=>do pure (f.offset,<- sizeOf f.type)).run P w = .ok (fs.map λf=>(f.offset,P.cellsOf f.type)) w:=by
 induction fs with
 |nil=>rfl
 | cons f r ih=>
   simp only[dJ,ah]at h;cases hi:P.info? f.type with
   |none=>rw[hi]at h;cases h.1
   | some i=>have h1:(sizeOf f.type).run P w = .ok (P.cellsOf f.type) w:=(by simp[sizeOf,typeInfo,hi,Program.cellsOf]);simp only[List.mapM_cons,gG,h1,dD,fM,ih h.2,bJ]
def X8 (P:Program)(n:Nat)(t:TypeId)(zs:List AC)(ps:List (Nat×Operand))(ps':List (Nat×Nat×oW)):Bool:=
 match P.underlying t,P.info? t with
 |some (.struct fs),some i=>(match i.zero with|some (.agg cs)=>Nh cs.toList zs|_=>false)&&fs.toList.all (λf=>(P.info? f.type).isSome)&&JB P n fs ps ps'
 |_,_=>false
def Px (P:Program)(n:Nat)(op:Op)(zs:List AC)(ps':List (Nat×Nat×oW)):Bool:=match op with|.build t ps=>X8 P n t zs ps.toList ps'|_=>false
theorem WY {t:TypeId}{k:Nat}(h:N9 P t k=true):P.cellsOf t=k:=by obtain⟨i,hi,hs⟩:=Jf h;simp[Program.cellsOf,hi,hs]
theorem Yj {fs:Array Field}(h:GX E I ρ n st a w):∀(ps:List (Nat×Operand)) (ps':List (Nat×Nat×oW)) (cs:Array Value) (xs:List AC),JB P n fs ps ps'=true->Jo I ρ cs.toList xs ->
 (∀p,p∈ps'->(p.2.2.ev st.tm).g=true)->(∀p,p∈ps'->Uh xs.length (p.1,p.2.1,eu st.tm p.2.2)) ->
 ∃cs',BD ((fs.map λf=>(f.offset,P.cellsOf f.type))[·]?) cs (ps.map λp=>(p.1,a.eval p.2))=some cs'/\Jo I ρ cs'.toList (P7 xs (ps'.map λp=>(p.1,(eu st.tm p.2.2).cells)))
 |[],[],cs,xs,_,hg,_,_=>⟨cs,rfl,hg⟩
 |[],_::_,_,_,h,_,_,_=>by simp[JB]at h
 |_::_,[],_,_,h,_,_,_=>by simp[JB]at h
 | (i,x)::r,(off,sz,y)::r',cs,xs,hp,hg,hv,hq=>by
   simp only[JB,ah]at hp;obtain⟨⟨hf,hx⟩,hr⟩:=hp;split at hf
   ·rename_i f hfi;simp only[ah,beq_iff_eq]at hf;obtain⟨rfl,hsz⟩:=hf;have hs:=WY hsz;have g:=og h hx (hv _ (bz ..));obtain⟨q1,q2,q3⟩:=hq _ (bz ..);have gc:=IV g q3;have hvs:(a.eval x).cells.size=sz:=(by have:=gc.1;simp at this;rw[this];exact q1);have hcs:cs.size=xs.length:=(by have:=hg.1;simpa using this);have q1:(eu st.tm y).cells.length=sz:=q1;have q2:f.offset+sz<=xs.length:=q2;have hgs:=hg.splice gc f.offset (by rw[q1];exact q2);have hfold:=foldl_set (a.eval x).cells f.offset cs (by omega);have ih:=Yj h r r' ((a.eval x).cells.zipIdx.foldl (λcs (p:Value×Nat)=>cs.setIfInBounds (f.offset+p.2) p.1) cs) (splice xs f.offset (eu st.tm y).cells) hr (by rw[hfold];exact hgs)
     (λp hp=>hv p (by simp[hp])) (λp hp=>by rw[length_splice _ _ _ (by rw[q1];exact q2)];exact hq p (by simp[hp]))
    obtain⟨cs',h1,h2⟩:=ih;refine⟨cs',?_,?_⟩
    ·have hpl:(fs.map λf=>(f.offset,P.cellsOf f.type))[i]? = some (f.offset,sz):=(by rw[wG,hfi,<- hs];rfl);simp only[bJ,BD,hpl];rw[if_neg (by simp;omega)];exact h1
    ·simpa only[bJ,P7]using h2
   ·cases hf
theorem WV {o:Oper}{zs:List AC}{ps:List (Nat×Nat×oW)}(h:GX E I ρ n st a w)(hc:Px P n o.op zs ps=true)(hv:∀p,p∈ps->(p.2.2.ev st.tm).g=true)
 (hq:∀p,p∈ps->Uh zs.length (p.1,p.2.1,eu st.tm p.2.2)):o7 P E n o a w st (.agg (P7 zs (ps.map λp=>(p.1,(eu st.tm p.2.2).cells)))):=by
 unfold Px at hc;split at hc
 ·rename_i t ps0 he;unfold X8 at hc;split at hc
  ·rename_i fs i hs hi;simp only[ah]at hc;obtain⟨⟨hz,hall⟩,hp⟩:=hc;split at hz
   ·rename_i cs hzero;obtain⟨cs',h1,h2⟩:=Yj (P:=P) h ps0.toList ps cs zs hp (Ii hz) hv hq;refine o7.val h (v:=.agg cs') ?_ ⟨cs',rfl,h2⟩;have hpl:=run_places (P:=P) w fs.toList hall;have hpl':(fs.mapM (m:=Sem) λf=>do pure (f.offset,<- sizeOf f.type)).run P w = .ok (fs.map λf=>(f.offset,P.cellsOf f.type)) w:=by
     rw[Array.mapM_eq_mapM_toList,Sem.run_map,hpl];simp only[dD]
     congr 1
     apply Bi;simp
    have hzr:(zeroValue t).run P w = .ok (.agg cs) w:=(by simp[zeroValue,typeInfo,hi,hzero]);have hps:(ps0.map λ(i,x)=>(i,a.eval x)).toList=ps0.toList.map λp=>(p.1,a.eval p.2):=(by simp);simp only[execOp,he,Instr.build,gG,hzr,dD,Ef,run_underlying hs,hpl',hps,h1,fM]
   ·cases hz
  ·cases hc
 ·cases hc
def Src (I:IH)(w:World)(v:Value)(sz:Nat)(es:List (List Cell)):Prop:=
 ∃ (b:Option Addr) (cap:Nat),v = .slice b es.length cap/\es.length<=maxLen/\(∀e,e∈es->e.length=sz)/\(0<es.length->b≠none) /\
   ∀ad,b=some ad->∀i j c,(es.getD i [])[j]? = some c->∃u,w.cell? (ad.add (i*sz+j))=some u/\Rd I u c
theorem src_ok (h:GX E I ρ n st a w){v:Value}{x:AV}{sz:Nat}{p:Prop}{es:List (List Cell)}(hv:GV I ρ v x)(hs:xW sz x st.bx=some (p,es))(hp:p):Src I w v sz es:=by
 unfold xW at hs;split at hs
 ·rename_i sz' es';simp only[aJ,aI]at hs;obtain⟨rfl,rfl⟩:=hs;subst hp;cases hv with|sl b len cap _ _ u hlen hcap hmax hsz ha hcell hr=>
  subst hlen;refine⟨b,cap,rfl,by omega,hsz,ha,λad had i j c hc=>?_⟩;have hi:=lZ hc;have hj:j<sz':=by have:=hsz (es'.getD i []) (by simp[bu,aB hi]);rw[<- this];exact(bn.1 hc).1
  exact⟨_,h.agree.cell (hcell ad had i j hi hj),hr i j c hc⟩
 ·simp at hs;obtain⟨_,rfl⟩:=hs;simp only[GV,GC]at hv;exact⟨none,0,hv,by simp,by simp,by simp,λad had=>by cases had⟩
 ·rename_i b m sz';split at hs
  ·rename_i Bo es' hb;simp only[aJ,aI]at hs;obtain⟨rfl,rfl⟩:=hs;obtain⟨rfl,rfl,hm⟩:=hp;obtain⟨k,cap,ad,c,hr,rfl,hmc,hcc,ha⟩:=hv;have facts:=GS.Gw h hb hr;have hlen:(es'.take m).length=m:=(by simp;omega);refine⟨ad,c,by rw[hlen],by omega,λe he=>facts.2.2 e (fJ he),λh0=>by rw[ha (by omega)];simp,λq hq i j cc hc=>?_⟩;have hi:=lZ hc;rw[hlen]at hi;have hq':q=⟨k,0,none⟩:=(by have:=ha (by omega);rw[hq]at this;simpa using this);subst hq';have hc':(es'.getD i [])[j]? = some cc:=by
    rw[<- hc];congr 1;simp only[bu];rw[bT,if_pos hi]
   obtain⟨u,hu,hg⟩:=GS.Jr h hb hr (by omega) (i:=i) (by omega) j (.c cc) (by rw[fQ,hc'];rfl);refine⟨u,?_,hg⟩;rw[Addr.zf]at hu⊢;rw[<- hu];congr 2;simp
  ·cases hs
 ·rename_i b lo m c0 sz';split at hs
  ·rename_i Bo es' hb;simp only[aJ,aI]at hs;obtain⟨rfl,rfl⟩:=hs;obtain⟨rfl,rfl,hm⟩:=hp;obtain⟨k,cap,ad,c,hr,rfl,hmc,hcc,_,ha⟩:=hv;have facts:=GS.Gw h hb hr;have hlen:((es'.drop lo).take m).length=m:=(by simp;omega);refine⟨ad,c,by rw[hlen],by omega,λe he=>facts.2.2 e (mP (fJ he)),λh0=>by rw[ha (.inl (by omega))];simp,λq hq i j cc hc=>?_⟩;have hi:=lZ hc;rw[hlen]at hi;have hq':q=⟨k,lo*Bo,none⟩:=(by have:=ha (.inl (by omega));rw[hq]at this;simpa using this);subst hq';have hc':(es'.getD (lo+i) [])[j]? = some cc:=by
    rw[<- hc];congr 1;simp only[bu];rw[bT,if_pos hi,ja]
   obtain⟨u,hu,hg⟩:=GS.Jr h hb hr (by omega) (i:=lo+i) (by omega) j (.c cc) (by rw[fQ,hc'];rfl);refine⟨u,?_,hg⟩;rw[Addr.zf]at hu⊢;rw[<- hu];congr 2;rw[dQ,sD]
  ·cases hs
 ·cases hs
theorem S9 {es:List (List Cell)}{l:List UInt8}(h:bytesOf es=some l):∃ns:List Int,es=ns.map (λm=>[Cell.lit (.int .u8 m)])/\l=ns.map λm=>dR m.toNat:=by
 induction es generalizing l with
 |nil=>simp[bytesOf]at h;exact⟨[],rfl,h⟩
 | cons e r ih=>
   unfold bytesOf at h;split at h
   ·rename_i e;cases e
   ·rename_i m r' e;simp only[vX]at e;obtain⟨rfl,rfl⟩:=e;split at h
    ·rename_i l' hl;obtain⟨ns,rfl,rfl⟩:=ih hl;simp at h;exact⟨m::ns,rfl,h.symm⟩
    ·cases h
   ·cases h
theorem foldl_push (ns:List Int):∀s:ByteArray,(ns.foldl (λr m=>r.push (dR m.toNat)) s).data.toList=s.data.toList++ns.map λm=>dR m.toNat:=by
 induction ns with
 |nil=>intro s;simp
 |cons m r ih=>intro s;rw[lT,ih,bJ];simp[ByteArray.push]
theorem Z9 {b:Option Addr}{cap:Nat}{ns:List Int}{v:Value}(hv:v = .slice b ns.length cap)(h0:0<ns.length->b≠none)
 (hc:∀ad,b=some ad->∀j m,ns[j]? = some m->w.cell? (ad.add j)=some (.int .u8 m)):(Conv.bytesToString v).run P w = .ok (.string ⟨⟨ns.map λm=>dR m.toNat⟩⟩) w:=by
 subst hv;cases b with
 | none=>
   cases ns with
   |nil=>simp[Conv.bytesToString,fM];rfl
   |cons m r=>exact absurd rfl (h0 (by simp))
 | some ad=>
   have hl:=run_loadCells_list (P:=P) w ad (ns.map (lY .u8)) (λj v hj=>by
    rw[fQ]at hj;cases hq:ns[j]? with
    |none=>rw[hq]at hj;cases hj
    |some m=>rw[hq]at hj;simp at hj;subst hj;exact hc ad rfl j m hq)
   rw[kJ]at hl;rw[run_bytesToString w ad ns.length cap ns hl]
   congr 2
   apply ByteArray.ext;apply Bi;rw[foldl_push];simp
def Tm (P:Program)(n:Nat)(op:Op)(x:oW):Bool:=
 match op with
 |.convert s d x'=>kU n x' x&&NQ P d&&(match P.underlying s with|some (.slice e)=>(match P.underlying e with|some (.int .u8)=>true|_=>false)|_=>false)
 |_=>false
theorem Zh {o:Oper}{x:oW}{p:Prop}{es:List (List Cell)}{l:List UInt8}(h:GX E I ρ n st a w)(hc:Tm P n o.op x=true)(hx:(x.ev st.tm).g=true)
 (hs:xW 1 (eu st.tm x) st.bx=some (p,es)) (hp:p) (hb:bytesOf es=some l) (hl:l.length<=maxLen):o7 P E n o a w st (Ie l):=by
 unfold Tm at hc;split at hc
 ·rename_i s d x' he;simp only[ah]at hc;have g:=og h hc.1.1 hx;have hd:=FY hc.1.2;obtain⟨_,ht⟩:=hc;split at ht
  ·rename_i e hse;split at ht
   ·rename_i hee;obtain⟨b,cap,hv,_,_,h0,hcell⟩:=src_ok h g hs hp;obtain⟨ns,rfl,rfl⟩:=S9 hb;have hr:=Z9 (P:=P) (w:=w) (b:=b) (cap:=cap) (ns:=ns) (v:=a.eval x') (by rw[hv];simp) (by simpa using h0) (λad had j m hj=>by
     obtain⟨u,hu,hrd⟩:=hcell ad had j 0 (.lit (.int .u8 m)) (by simp[bu,fQ,hj]);cases hrd with|lit v hv=>
     simpa using hu)
    have hcv:=run_convert_bytes_string (P:=P) w s d e b (ns.map λm=>[Cell.lit (.int .u8 m)]).length cap hse hee hd;rw[<- hv]at hcv;exact o7.val h (by simp only[execOp,he,gG,hcv,hr,dD,fM]) (TZ hl)
   ·cases ht
  ·cases ht
 ·cases hc
end
end
section
section
variable {P:Program} {E:Env P} {I:IH} {ρ:Ren} {n:Nat} {st:iy} {a:Act} {w:World}
def Cm : Box->Prop
 |.absent=>True
 |_=>False
theorem Aj {x:Box}(h:Cm x):x = .absent:=by cases x<;>first|rfl|exact h.elim
theorem Yw (h:GX E I ρ n st a w){l:Nat}(hl:st.bx l = .absent)(hm:E.m<=l)(cs:Array Value)(e:TypeId)(xs:List AC)(hg:Jo I ρ cs.toList xs) :
 ∃ ρ',GX E I ρ' n (st.xU l (.var xs)) a (w.alloc (.cells cs e))/\GV I ρ' (.pointer (some ⟨w.heap.size,0,none⟩)) (.one (.ptr l 0)):=by
 have hrl:ρ l=none:=by have:=h.bx.ok l;rwa[hl]at this
 refine⟨ρ.set l w.heap.size e,GX.new h hl hm cs e e _ ?_,w.heap.size,e,Ren.ou _ _ _ _,rfl⟩;refine⟨w.heap.size,e,cs,Ren.ou _ _ _ _,heap_alloc_new w _,by simpa using hg.1,λj u x hu hx=>?_⟩;exact(hg.2 j u x (by simpa using hu) hx).mono (IH.le_refl I) (Ren.Kz hrl)
theorem JA (h:GX E I ρ n st a w){l:Nat}(hl:st.bx l = .absent)(hm:E.m<=l)(cs:Array Value)(e:TypeId)(cap sz:Nat)(es:List (List Cell))(hcs:cs.size=cap*sz)(hle:es.length<=cap)(hcap:cap<=maxLen)
 (hsz:∀x,x∈es->x.length=sz) (h1:∀(j:Nat) (u:Value),cs[j]? = some u->u.oneCell'=true) (hd:∀(i j:Nat) (c:Cell),(es.getD i [])[j]? = some c->∃u,cs[i*sz+j]? = some u/\Rd I u c) :
 GX E I (ρ.set l w.heap.size cap) n (st.xU l (.dat sz es)) a (w.alloc (.cells cs e)):=by
 refine GX.new h hl hm cs e cap _ ⟨w.heap.size,cap,Ren.ou _ _ _ _,hle,hcap,hsz,λ_=>⟨cs,e,heap_alloc_new w _,hcs,h1,hd⟩⟩
def Pv (P:Program)(op:Op)(zs:List AC):Bool:=match op with|.alloc t=>(match P.info? t with|some i=>(match i.zero with|some z=>Nh z.cells.toList zs|none=>false)|none=>false)|_=>false
theorem H7 (w:World)(t:TypeId)(v:Value):(newVar t v).run P w = .ok ⟨w.heap.size,0,none⟩ (w.alloc (.cells v.cells t)):=by simp[newVar,newRow]
theorem WM {o:Oper}{l:Nat}{zs:List AC}(h:GX E I ρ n st a w)(hc:Pv P o.op zs=true)(hm:E.m<=l)(hl:Cm (st.bx l)):o7 P E n o a w (st.xU l (.var zs)) (.one (.ptr l 0)):=by
 unfold Pv at hc;split at hc
 ·rename_i t he;split at hc
  ·rename_i i hi;split at hc
   ·rename_i z hz;obtain⟨ρ',h1,h2⟩:=Yw h (Aj hl) hm z.cells t zs (Ii hc);have hzr:(zeroValue t).run P w = .ok z w:=(by simp[zeroValue,typeInfo,hi,hz]);exact⟨_,_,I,ρ',.inl (by simp only[execOp,he,Ec,gG,hzr,dD,H7,fM]),h1,λ_=>h2⟩
   ·cases hc
  ·cases hc
 ·cases hc
theorem GX.ahp (h:GX E I ρ n st a w){r:Nat}(hr:st.bx r = .absent)(hm:E.m<=r)(e:Nat):GX E I (ρ.set r 0 0) n (st.xU r (.row e [])) a w:=by
 have hrl:ρ r=none:=by have:=h.bx.ok r;rwa[hr]at this
 have hle:=Ren.Kz (ρ:=ρ) (k:=0) (cap:=0) hrl;have hu:∀k,¬(Box.row e []).uses ((ρ.set r 0 0) r) k:=λk hk=>by obtain⟨c,hc,h0⟩:=hk;rw[Ren.ou]at hc;simp only[aJ,aI]at hc;exact h0 hc.2.symm
 refine{ agree:=h.agree,bx:=BX.step (λb=>b=r) h.bx (IH.le_refl I) hle ?_ ?_ ?_ ?_ ?_ ?_,tm:=λt ht=>(h.tm t ht).mono (IH.le_refl _) hle,size:=h.size,defers:=h.defers,Ht:=h.Ht,own:=?_,O0:=h.O0,FQ:=h.FQ,x8:=?_ }
 ·intro b hb;exact⟨by simp[iy.xU,hb],Ren.wo hb⟩
 ·intro b k hb hk;rfl
 ·rintro b rfl;simp only[iy.qH,if_true];exact⟨0,0,Ren.ou _ _ _ _,au _,Nat.zero_le _,λh=>absurd rfl h⟩
 ·rintro b k rfl hk;simp only[iy.qH,if_true]at hk;exact(hu k hk).elim
 ·rintro b b' k rfl rfl _ _;rfl
 ·intro b k hb hk;exact h.bx.fresh b k hk
 ·intro b k hk;simp only[iy.qH]at hk;by_cases e:b=r
  ·subst e;rw[if_pos rfl]at hk;exact(hu k hk).elim
  ·rw[if_neg e,Ren.wo e]at hk;exact h.own b k hk
 ·intro b hb;rw[Ren.wo (by omega)];exact h.x8 b hb
def Nv (P:Program)(op:Op)(T:Nat):Bool:=match op with|.alloc t=>t==T&&(match P.info? t with|some i=>(match i.zero with|some z=>Nh z.cells.toList [.c (.lit (.pointer none)),.jC 1]|none=>false)|none=>false)|_=>false
theorem UY {o:Oper}{T e l r:Nat}(h:GX E I ρ n st a w)(hc:Nv P o.op T=true)(hm:E.m<=l)(hm':E.m<=r)(hl:Cm (st.bx l))(hr:Cm (st.bx r))(hne:l≠r) :
 o7 P E n o a w ((st.xU r (.row e [])).xU l (.var [.opt T l,.vS r 0])) (.one (.ptr l 0)):=by
 unfold Nv at hc;split at hc
 ·rename_i t he;simp only[ah,beq_iff_eq]at hc;obtain⟨rfl,hc⟩:=hc;split at hc
  ·rename_i i hi;split at hc
   ·rename_i z hz;have g:=h.ahp (Aj hr) hm' e;have hl':(st.xU r (.row e [])).bx l = .absent:=(by simp only[iy.qH,if_neg hne];exact Aj hl);have hz2:Jo I ρ z.cells.toList _:=Ii hc;have hsz:z.cells.size=2:=(by have:=hz2.1;simpa using this);have hg:=GX.new g hl' hm z.cells t t (.var [.opt t l,.vS r 0]) ⟨w.heap.size,t,z.cells,Ren.ou _ _ _ _,heap_alloc_new w _,hsz,λj u x hu hx=>by
     match j with
     | 0=>have h1:=hz2.2 0 u _ (by simpa using hu) rfl;simp at hx;subst hx;cases h1;exact⟨_,Ren.ou _ _ _ _,.inl rfl⟩
     | 1=>have h1:u = .slice none 0 0:=hz2.2 1 u _ (by simpa using hu) rfl;simp at hx;subst hx;exact⟨0,0,(Ren.wo hne.symm).trans (Ren.ou _ _ _ _),au _,.inl ⟨rfl,h1⟩⟩
     |j+2=>simp at hx⟩
    have hzr:(zeroValue t).run P w = .ok z w:=(by simp[zeroValue,typeInfo,hi,hz]);exact⟨_,_,I,_,.inl (by simp only[execOp,he,Ec,gG,hzr,dD,H7,fM]),hg,λ_=>⟨_,_,Ren.ou _ _ _ _,rfl⟩⟩
   ·cases hc
  ·cases hc
 ·cases hc
def Xc (n:Nat)(op:Op)(x:oW):Bool:=match op with|.box _ x'=>kU n x' x|_=>false
theorem aaZ {o:Oper}{l:Nat}{x:oW}(h:GX E I ρ n st a w)(hc:Xc n o.op x=true)(hx:(x.ev st.tm).g=true)(hm:E.m<=l)(hl:Cm (st.bx l))(hf:(eu st.tm x).flat) :
 o7 P E n o a w (st.xU l (.var (eu st.tm x).cells)) (.one (.ptr l 0)):=by
 unfold Xc at hc;split at hc
 ·rename_i t x' he;have g:=og h hc hx;obtain⟨ρ',h1,h2⟩:=Yw h (Aj hl) hm (a.eval x').cells t _ (IV g hf);exact⟨_,_,I,ρ',.inl (by simp only[execOp,he,Instr.box,gG,dD,H7,fM]),h1,λ_=>h2⟩
 ·cases hc
def ae2 : Value->Cell->Bool
 |.int k n,.lit (.int k' n')=>k==k'&&n==n'
 |.bool b,.lit (.bool b')=>b==b'
 |.string s,.str l=>s.data.toList==l&&decide (l.length<=1000000)
 |.slice none 0 0,.sl _ []=>true
 |.pointer none,.lit (.pointer none)=>true
 |.nilFunc,.lit .nilFunc=>true
 |.nilIface,.lit .nilIface=>true
 |_,_=>false
theorem adH {v:Value}{x:Cell}(h:ae2 v x=true):Rd I v x:=by
 unfold ae2 at h;split at h
 ·simp only[ah,beq_iff_eq]at h;obtain⟨rfl,rfl⟩:=h;exact Rd.lit _ rfl
 ·simp only[beq_iff_eq]at h;subst h;exact Rd.lit _ rfl
 ·rename_i s l;simp only[ah,beq_iff_eq,decide_eq_true_eq]at h;obtain⟨rfl,hl⟩:=h;have:s=⟨⟨s.data.toList⟩⟩:=by cases s;rfl
  exact this▸Rd.str _ (by simp only[maxLen];omega)
 ·exact Rd.sl none 0 0 _ [] (λ_ _=>undef) rfl (au _) (by simp[maxLen]) (by simp) (by simp) (λad h=>by cases h) (by simp)
 ·exact Rd.lit _ rfl
 ·exact Rd.lit _ rfl
 ·exact Rd.lit _ rfl
 ·cases h
def Ih (zs:List Value)(xs:List Cell):Bool:=zs.length==xs.length&&(zs.zip xs).all λp=>ae2 p.1 p.2
theorem OA {zs:List Value}{xs:List Cell}(h:Ih zs xs=true):zs.length=xs.length/\∀(j:Nat) (c:Cell),xs[j]? = some c->∃u,zs[j]? = some u/\Rd I u c:=by
 unfold Ih at h;simp only[ah,beq_iff_eq,bg]at h;refine⟨h.1,λj c hc=>?_⟩;have hj:j<zs.length:=by rw[h.1];exact(bn.1 hc).1
 refine⟨zs[j],aB hj,adH (h.2 (zs[j],c) ?_)⟩;exact iM (i:=j) (by simp[yY,hc,hj])
theorem NZ {z:Array Value}{zs:List Cell}{sz m N:Nat}(hz:Ih z.toList zs=true)(hs:zs.length=sz)(h0:0<sz)(hN:m*sz<=N){cs:Array Value}(hcs:cs=(Dk N).map (z[· % z.size]!)) :
 (∀(j:Nat) (u:Value),cs[j]? = some u->u.oneCell'=true)/\∀(i j:Nat) (c:Cell),((bU m zs).getD i [])[j]? = some c->∃u,cs[i*sz+j]? = some u/\Rd I u c:=by
 obtain⟨hl,hd⟩:=OA (I:=I) hz;have hzs:z.size=sz:=by rw[<- hs,<- hl];simp
 subst hcs;refine⟨λj u hu=>?_,λi j c hc=>?_⟩
 ·rw[wG]at hu;by_cases hj:j<N
  ·rw[ry,if_pos hj]at hu;simp at hu;have hlt:j%z.size<z.size:=xN _ (by omega);rw[getElem!_pos z _ hlt]at hu;obtain⟨c,hc⟩:∃c,zs[j%z.size]? = some c:=⟨_,aB (by omega)⟩;obtain⟨u',hu',hr⟩:=hd _ c hc;simp[hlt]at hu';rw[<- hu,hu'];exact hr.one
  ·rw[ry,if_neg hj]at hu;cases hu
 ·have hi:=lZ hc;simp at hi;simp[bu,hi]at hc;have hj:j<sz:=by rw[<- hs];exact(bn.1 hc).1
  obtain⟨u,hu,hr⟩:=hd j c hc;refine⟨u,?_,hr⟩;have hlt:i*sz+j<N:=by have:(i+1)*sz<=m*sz:=bD _ hi;rw[dQ]at this;omega
  rw[wG,ry,if_pos hlt];simp only[lU,aJ];have hmod:(i*sz+j)%z.size=j:=by rw[hzs,Ce,Nat.mul_add_mod,Nat.mod_eq_of_lt hj]
  rw[hmod,getElem!_pos z _ (by omega)];have:z[j]? = some u:=by simpa using hu
  rw[oO (by omega)]at this;simpa using this
def Nu (P:Program)(op:Op)(sz m:Nat)(zs:List Cell):Bool:=
 match op with
 |.alloc t=>Lt P t sz m&&(match P.info? t with|some i=>(match i.zero with|some (.agg z)=>Ih z.toList (bU m zs).flatten|_=>false)|none=>false)&&zs.length==sz&&decide (0<sz)&&decide (m<=1000000)
 |_=>false
theorem Vu {zs:List Cell}{sz m i j:Nat}{c:Cell}(hs:zs.length=sz)(hc:((bU m zs).getD i [])[j]? = some c):((bU m zs).flatten)[i*sz+j]? = some c:=by
 induction m generalizing i with
 |zero=>simp[bu]at hc
 | succ m ih=>
   rw[vY,List.flatten_cons];cases i with
   | zero=>simp[bu,vY]at hc;rw[dU (by have:=(bn.1 hc).1;omega)];simpa using hc
   | succ i=>
     rw[fF (by rw[hs,dQ];omega),hs];have:=ih (i:=i) (by simpa[bu,vY]using hc);rw[<- this]
     congr 1
     rw[dQ];omega
theorem UX {o:Oper}{l sz m:Nat}{zs:List Cell}(h:GX E I ρ n st a w)(hc:Nu P o.op sz m zs=true)(hm:E.m<=l)(hl:Cm (st.bx l)) :
 o7 P E n o a w (st.xU l (.dat sz (bU m zs))) (.one (.zI l 0 sz 0)):=by
 unfold Nu at hc;split at hc
 ·rename_i t he;simp only[ah,beq_iff_eq,decide_eq_true_eq]at hc;obtain⟨⟨⟨⟨_,hz⟩,hs⟩,h0⟩,hm6⟩:=hc;split at hz
  ·rename_i i hi;split at hz
   ·rename_i z hzero;obtain⟨hl1,hd⟩:=OA (I:=I) hz;have hzs:z.size=m*sz:=(by have:=hl1;simp[hs]at this;exact this);have hzr:(zeroValue t).run P w = .ok (.agg z) w:=(by simp[zeroValue,typeInfo,hi,hzero]);have g:=JA h (Aj hl) hm z t m sz (bU m zs) hzs (by simp) (by simp only[maxLen];omega) (λx hx=>by rw[uk hx,hs])
     (λj u hu=>by have hj:j<((bU m zs).flatten).length:=(by rw[<- hl1];simpa using(oq.1 hu).1);obtain⟨u',hu',hr⟩:=hd j _ (aB hj);have:u'=u:=(by simp at hu';rw[hu]at hu';exact(Option.some.inj hu').symm);subst this;exact hr.one)
     (λi' j c hc=>by obtain⟨u,hu,hr⟩:=hd _ c (Vu hs hc);exact⟨u,by simpa using hu,hr⟩)
    refine⟨_,_,I,_,.inl (by simp only[execOp,he,Ec,gG,hzr,dD,H7,fM,Ef];rfl),g,λ_=>⟨w.heap.size,m,Ren.ou _ _ _ _,by simp⟩⟩
   ·cases hz
  ·cases hz
 ·cases hc
def PI (P:Program)(n:Nat)(op:Op)(sz bytes:Nat)(zs:List Cell)(x y:oW):Bool:=
 match op with
 | .makeSlice t x' y'=>kU n x' x&&kU n y' y&&zs.length==sz&&decide (0<sz)&&(match P.underlying t with
   |some (.slice e)=>(match P.info? e with|some i=>i.size==sz&&i.bytes==bytes&&(match i.zero with|some z=>Ih z.cells.toList zs|none=>false)|none=>false)
   |_=>false)
 |_=>false
theorem XF {o:Oper}{l sz bytes:Nat}{zs:List Cell}{x y:oW}{k k':IntKind}{p q:Int}(h:GX E I ρ n st a w)(hc:PI P n o.op sz bytes zs x y=true)(hx:(x.ev st.tm).g=true)(hy:(y.ev st.tm).g=true)
 (e1:eu st.tm x=wR k p) (e2:eu st.tm y=wR k' q) (hm:E.m<=l) (hl:Cm (st.bx l)) (h0:0<=p) (h1:p<=q) (h2:bytes*q<=2^47) (h3:q<=2^47) :
 o7 P E n o a w (st.xU l (.dat sz (bU p.toNat zs))) (.one (.own l p.toNat sz)):=by
 unfold PI at hc;split at hc
 ·rename_i t x' y' he;simp only[ah,beq_iff_eq,decide_eq_true_eq]at hc;obtain⟨⟨⟨⟨c1,c2⟩,hs⟩,hs0⟩,ht⟩:=hc;have g1:=og h c1 hx;have g2:=og h c2 hy;rw[e1]at g1;rw[e2]at g2;have v1:=xw g1;have v2:=xw g2;split at ht
  ·rename_i e hte;split at ht
   ·rename_i i hi;simp only[ah,beq_iff_eq]at ht;obtain⟨⟨rfl,rfl⟩,hz⟩:=ht;split at hz
    ·rename_i z hzero;have hr:=run_make (P:=P) w t e i z hte hi hzero k k' p q h0 h1 (by omega) (by omega);have rc:=NZ (I:=I) (N:=q.toNat*i.size) (m:=p.toNat) hz hs hs0 (bD _ (by omega)) (cs:=madeCells z.cells (q.toNat*i.size)) rfl;have g:=JA h (Aj hl) hm (madeCells z.cells (q.toNat*i.size)) e q.toNat i.size (bU p.toNat zs) (size_madeCells _ _) (by simp;omega) (by simp only[maxLen];omega)
      (λx hx=>by rw[uk hx,hs]) rc.1 rc.2
     refine⟨_,_,I,_,.inl (by simp only[execOp,he,v1,v2,gG,hr,dD,fM];rfl),g,λ_=>⟨w.heap.size,q.toNat,_,_,Ren.ou _ _ _ _,rfl,by omega,by omega,λ_=>rfl⟩⟩
    ·cases hz
   ·cases ht
  ·cases ht
 ·cases hc
end
end
section
section
variable {P:Program} {E:Env P} {I:IH} {ρ:Ren} {n:Nat} {st:iy} {a:Act} {w:World}
noncomputable def BU (I:IH)(ρ:Ren)(w:World)(bx:Nat->Box)(bs:List Nat):IH:=λk=>
 open Classical in
 if ∃b sz es cap,b∈bs/\bx b = .dat sz es/\ρ b=some (k,cap)/\cap≠0 then(match w.heap[k]? with|some (.cells c _ _)=>some c|_=>none)else I k
theorem Fa (hA:BX I ρ w st.bx)(bs:List Nat):I.le (BU I ρ w st.bx bs):=λk c hk=>by
 unfold BU;rw[if_neg]
 ·exact hk
 ·rintro⟨b,sz,es,cap,_,hb,hr,h0⟩;have:=hA.fresh b k (by rw[hb];exact⟨cap,hr,h0⟩);rw[this]at hk;cases hk
theorem KA (hA:Agree I w)(bs:List Nat):Agree (BU I ρ w st.bx bs) w:=λk c hk=>by
 unfold BU at hk;split at hk
 ·split at hk
  ·rename_i c' e fr hw;simp at hk;subst hk;exact⟨e,fr,hw⟩
  ·cases hk
 ·exact hA k c hk
theorem TW (h:GX E I ρ n st a w){bs:List Nat}{v:Value}{b m sz:Nat}{es:List (List Cell)}(hb:b∈bs)(harr:(st.bx b).arr=some (sz,es))(hm:m<=es.length)(hv:GC I ρ v (.own b m sz)) :
 Rd (BU I ρ w st.bx bs) v (.sl sz (es.take m)):=by
 obtain⟨k,cap,ad,c,hr,hsv,hmc,hcc,hcap⟩:=hv;have facts:=GS.Gw h harr hr;have hl:(es.take m).length=m:=by simp;omega
 subst hsv;have hI:cap≠0->∃cs,(BU I ρ w st.bx bs) k=some cs/\∀i j c,(es.getD i [])[j]? = some c->∃u,cs[i*sz+j]? = some u/\Rd I u c:=by
  intro hc0;have hok:=h.bx.ok b;cases hx:st.bx b with
  | dat sz' es'=>rw[hx]at hok harr;simp[Box.arr]at harr;obtain⟨rfl,rfl⟩:=harr;obtain⟨k',cap',hr',_,_,_,hd⟩:=hok;rw[hr]at hr';simp at hr';obtain⟨rfl,rfl⟩:=hr';obtain⟨cs,e,hw,_,_,hcs⟩:=hd hc0;refine⟨cs,?_,hcs⟩;unfold BU;rw[if_pos ⟨b,_,_,cap,hb,hx,hr,hc0⟩,hw]
  | EP sz' es'=>rw[hx]at hok harr;simp[Box.arr]at harr;obtain⟨rfl,rfl⟩:=harr;obtain⟨k',cap',hr',_,_,_,hd⟩:=hok;rw[hr]at hr';simp at hr';obtain⟨rfl,rfl⟩:=hr';obtain⟨cs,hw,hcs⟩:=hd hc0;exact⟨cs,Fa h.bx bs _ _ hw,hcs⟩
  |absent=>rw[hx]at harr;cases harr
  |dead=>rw[hx]at harr;cases harr
  |var xs=>rw[hx]at harr;cases harr
  |row e l=>rw[hx]at harr;cases harr
 have hle:=Fa (st:=st) h.bx bs;by_cases hc0:cap=0
 ·have hm0:m=0:=by omega
  subst hm0;simp only[wW];exact Rd.sl _ 0 c sz [] (λ_ _=>undef) rfl (by omega) (by omega) (by simp) (by simp) (by intro ad _ i j hi;omega) (by simp)
 ·obtain⟨cs,hcs,hrd⟩:=hI hc0;have had:=hcap hc0;subst had;have key:∀i j c,((es.take m).getD i [])[j]? = some c->∃u,cs[i*sz+j]? = some u/\Rd I u c:=λi j c hc=>by
   have hi:=lZ hc;rw[hl]at hi;refine hrd i j c ?_;rw[<- hc];congr 1;simp only[bu];rw[bT,if_pos hi]
  refine Rd.sl _ m c sz (es.take m) (λi j=>cs.getD (i*sz+j) undef) hl hmc (by omega) (λe he=>facts.2.2 e (fJ he)) (by simp) ?_ ?_
  ·intro ad had i j hi hj;simp at had;subst had;have hlen:((es.take m).getD i []).length=sz:=by
    have:i<(es.take m).length:=(by omega);rw[qh,aB this];exact facts.2.2 _ (fJ (dO this))
   obtain⟨u,hu,_⟩:=key i j _ (aB (by omega));rw[Addr.zf];simp only[IH.cell,hcs];simp[hu,pM]
  ·intro i j c hc;obtain⟨u,hu,hr⟩:=key i j c hc;have:cs.getD (i*sz+j) undef=u:=(by simp[pM,hu]);rw[this];exact hr.mono hle
theorem Au {bs:List Nat}{b:Nat} : (st.EP bs).bx b=if b∈bs then Gi (st.bx b)else st.bx b:=rfl
theorem GX.freeze (h:GX E I ρ n st a w)(BS:List Nat):GX E (BU I ρ w st.bx BS) ρ n (st.EP BS) a w:=by
 have hIJ:=Fa h.bx BS;have Iz:∀b k,((st.EP BS).bx b).uses (ρ b) k->(st.bx b).uses (ρ b) k/\¬(∃b' sz es cap,b'∈BS/\st.bx b' = .dat sz es/\ρ b'=some (k,cap)/\cap≠0):=by
  intro b k hu;rw[Au]at hu;by_cases hb:b∈BS
  ·rw[if_pos hb]at hu;cases hx:st.bx b with
   | var xs=>rw[hx]at hu;refine⟨hu,?_⟩;rintro⟨b',sz,es,cap,_,hb',hr',h0⟩;have:=h.bx.inj b b' k (by rw[hx];exact hu) (by rw[hb'];exact⟨cap,hr',h0⟩);subst this;rw[hx]at hb';cases hb'
   | row e l=>rw[hx]at hu;refine⟨hu,?_⟩;rintro⟨b',sz,es,cap,_,hb',hr',h0⟩;have:=h.bx.inj b b' k (by rw[hx];exact hu) (by rw[hb'];exact⟨cap,hr',h0⟩);subst this;rw[hx]at hb';cases hb'
   |dat sz es=>rw[hx]at hu;exact hu.elim
   |EP sz es=>rw[hx]at hu;exact hu.elim
   |absent=>rw[hx]at hu;exact hu.elim
   |dead=>rw[hx]at hu;exact hu.elim
  ·rw[if_neg hb]at hu;refine⟨hu,?_⟩;rintro⟨b',sz,es,cap,hm',hb',hr',h0⟩;have:=h.bx.inj b b' k hu (by rw[hb'];exact⟨cap,hr',h0⟩);subst this;exact hb hm'
 have hfr:∀b k,((st.EP BS).bx b).uses (ρ b) k->BU I ρ w st.bx BS k=none:=λb k hu=>by obtain⟨h1,h2⟩:=Iz b k hu;unfold BU;rw[if_neg h2];exact h.bx.fresh b k h1
 refine{ agree:=KA h.agree BS,bx:=⟨λb=>?_,λb b' k hb hb'=>h.bx.inj b b' k (Iz b k hb).1 (Iz b' k hb').1,hfr⟩,tm:=λt ht=>(h.tm t ht).mono hIJ (Ren.le_refl ρ),size:=h.size,defers:=h.defers,Ht:=h.Ht,own:=λb k hu=>h.own b k (Iz b k hu).1,O0:=IH.le_trans h.O0 hIJ,FQ:=λk hk0 hM=>?_,x8:=h.x8 }
 ·have hok:=(h.bx.ok b).keep hIJ (Ren.le_refl ρ) rfl (λk hu=>rfl);rw[Au];by_cases hb:b∈BS
  ·rw[if_pos hb];cases hx:st.bx b with
   | dat sz es=>rw[hx]at hok;obtain⟨kk,cap,hr',hl,hm,hsz,hcs⟩:=hok;refine⟨kk,cap,hr',hl,hm,hsz,λh0=>?_⟩;obtain⟨cs,e,hw,_,_,hrd⟩:=hcs h0;refine⟨cs,?_,hrd⟩;unfold BU;rw[if_pos ⟨b,sz,es,cap,hb,hx,hr',h0⟩,hw]
   |var xs=>rw[hx]at hok;exact hok
   |row e l=>rw[hx]at hok;exact hok
   |EP sz es=>rw[hx]at hok;exact hok
   |absent=>rw[hx]at hok;exact hok
   |dead=>rw[hx]at hok;exact hok
  ·rw[if_neg hb];exact hok
 ·unfold BU;rw[if_neg]
  ·exact h.FQ k hk0 hM
  ·rintro⟨b',sz,es,cap,_,hb',hr',h0⟩;rcases h.own b' k (by rw[hb'];exact⟨cap,hr',h0⟩)with h1|h1
   ·omega
   ·exact hM h1
theorem MO (l:List (Nat×Box))(st:iy):(st.sS l).tm=st.tm:=by
 induction l generalizing st with
 |nil=>rfl
 |cons x l ih=>obtain⟨b,x⟩:=x;simp only[iy.sS,ih];rfl
theorem aag (st:iy)(l:List Nat)(bx:Nat->Box):(st.sS (l.map λb=>(b,Gi (bx b)))).bx=λb=>if b∈l then Gi (bx b)else st.bx b:=by
 induction l generalizing st with
 |nil=>rfl
 | cons c l ih=>
   simp only[bJ,iy.sS,ih]
   funext b
   simp only[iy.qH,cO];by_cases h:b∈l
   ·simp[h]
   ·by_cases h':b=c
    ·subst h';simp[h]
    ·simp[h,h']
theorem DX (st:iy)(l:List Nat):st.sS (l.map λb=>(b,Gi (st.bx b)))=st.EP l:=by
 apply iy.ext'
 ·rw[MO];rfl
 ·rw[aag];rfl
theorem H9 (l r:List (Nat×Box)):∀(st:iy),st.sS (l++r)=(st.sS l).sS r:=by
 induction l with
 |nil=>intro st;rfl
 |cons p l ih=>intro st;obtain⟨b,x⟩:=p;simp only[List.cons_append,iy.sS,ih]
theorem QB (st:iy)(l:List Nat)(r:List (Nat×Box)):st.sS (TN st.bx l++r)=(st.EP l).sS r:=by rw[H9];unfold TN;rw[DX]
end
end
section
section
variable {P:Program} {E:Env P} {I:IH} {ρ:Ren} {n:Nat} {st:iy} {a:Act} {w:World}
theorem Vh (h:GX E I ρ n st a w){BS:List Nat}{vs:List Value}{xs:List AC}{cs:List Cell}(hg:Jo I ρ vs xs)(hd:Io st.bx xs=some cs)(hl:zi st.bx xs)(hb:∀b,b∈o8 xs->b∈BS) :
 vs.length=cs.length/\∀(j:Nat) (c:Cell),cs[j]? = some c->∃u,vs[j]? = some u/\Rd (BU I ρ w st.bx BS) u c:=by
 have hle:=Fa (st:=st) h.bx BS
 induction xs generalizing vs cs with
 | nil=>simp[Io]at hd;subst hd;exact⟨hg.1,by simp⟩
 | cons x r ih=>
   cases vs with
   |nil=>have:=hg.1;simp at this
   | cons v vs=>
     unfold Io at hd;split at hd
     ·rename_i c cs' h1 h2;simp at hd;subst hd;have ht:Jo I ρ vs r:=⟨by simpa using hg.1,λj u y hu hy=>hg.2 (j+1) u y (by simpa using hu) (by simpa using hy)⟩;have hv:=hg.2 0 v x rfl rfl;have hlr:zi st.bx r:=by
       cases x with
       |own b m sz=>exact hl.2
       |_=>exact hl
      have hbr:∀b,b∈o8 r->b∈BS:=λb hm=>hb b (by
       cases x with
       |own b' m sz=>exact dF _ hm
       |_=>exact hm)
      obtain⟨hl',hc⟩:=ih ht h2 hlr hbr;have hr:Rd (BU I ρ w st.bx BS) v c:=by
       cases x with
       |c y=>simp[dataOf]at h1;subst h1;exact Rd.mono hle hv
       | jC sz=>simp[dataOf]at h1;subst h1;simp only[GC]at hv;subst hv;exact Rd.sl none 0 0 _ [] (λ_ _=>undef) rfl (au _) (by simp[maxLen]) (by simp) (by simp) (λad h=>by cases h) (by simp)
       | own b m sz=>
         simp only[dataOf]at h1;have hl1:=hl.1;cases harr:(st.bx b).arr with
         |none=>rw[harr]at h1;cases h1
         | some p=>obtain⟨sz',es⟩:=p;rw[harr]at h1 hl1;simp at h1;subst h1;obtain⟨rfl,hle'⟩:=hl1;exact TW h (hb b (by simp[o8])) harr hle' hv
       |_=>simp[dataOf]at h1
      refine⟨by simp[hl'],λj c' hj=>?_⟩;cases j with
      |zero=>simp at hj;subst hj;exact⟨v,rfl,hr⟩
      |succ j=>obtain⟨u,hu,hr'⟩:=hc j c' (by simpa using hj);exact⟨u,by simpa using hu,hr'⟩
     ·cases hd
structure DC (I:IH)(cs:List Value)(sz:Nat)(es:List (List Cell)):Prop where
 one:∀(j:Nat) (u:Value),cs[j]? = some u->u.oneCell'=true
 rd:∀(i j:Nat) (c:Cell),(es.getD i [])[j]? = some c->∃u,cs[i*sz+j]? = some u/\Rd I u c
theorem abm {α:Type}(es:List (List α))(i i':Nat)(e:List α)(h:i<es.length):(es.set i e).getD i' []=if i'=i then e else es.getD i' []:=by
 simp only[bu,CS];by_cases hi:i=i'
 ·subst hi;simp[h]
 ·rw[if_neg hi,if_neg (λe=>hi e.symm)]
theorem aeh {sz i i' j j':Nat}(hj:j<sz)(hj':j'<sz)(h:i*sz+j=i'*sz+j'):i=i'/\j=j':=by
 have h1:(i*sz+j)/sz=i:=by rw[Ce,Nat.mul_add_div (by omega),Nat.div_eq_of_lt hj,wB]
 have h2:(i'*sz+j')/sz=i':=by rw[Ce,Nat.mul_add_div (by omega),Nat.div_eq_of_lt hj',wB]
 rw[h]at h1;have:=h1.symm.trans h2;subst this;exact⟨rfl,by omega⟩
theorem DC.splice {cs:List Value}{sz:Nat}{es:List (List Cell)}(h:DC I cs sz es)(hsz:∀x,x∈es->x.length=sz){i off:Nat}(hi:i<es.length){vs:List Value}{ys:List Cell}(hl:off+ys.length<=sz)(hcs:(i+1)*sz<=cs.length)
 (hv:vs.length=ys.length) (h1:∀(j:Nat) (u:Value),vs[j]? = some u->u.oneCell'=true) (hd:∀(j:Nat) (c:Cell),ys[j]? = some c->∃u,vs[j]? = some u/\Rd I u c) :
 DC I (splice cs (i*sz+off) vs) sz (es.set i (Ab.splice (es.getD i []) off ys)):=by
 rw[dQ]at hcs;have hfit:i*sz+off+vs.length<=cs.length:=by omega
 have hei:(es.getD i []).length=sz:=hsz _ (by simp[bu,aB hi]);refine⟨λj u hu=>?_,λi' j c hc=>?_⟩
 ·rw[rF _ _ _ _ hfit]at hu;split at hu
  ·exact h.one j u hu
  ·split at hu
   ·exact h1 _ u hu
   ·exact h.one j u hu
 ·rw[abm _ _ _ _ hi]at hc;rw[rF _ _ _ _ hfit];by_cases e:i'=i
  ·subst e;rw[if_pos rfl,rF _ _ _ _ (by omega)]at hc;by_cases c1:j<off
   ·rw[if_pos c1]at hc;rw[if_pos (by omega)];exact h.rd i' j c hc
   ·rw[if_neg c1]at hc;rw[if_neg (by omega)];by_cases c2:j<off+ys.length
    ·rw[if_pos c2]at hc;rw[if_pos (by omega)];obtain⟨u,hu,hr⟩:=hd _ c hc;exact⟨u,by rw[<- hu];congr 1;omega,hr⟩
    ·rw[if_neg c2]at hc;rw[if_neg (by omega)];exact h.rd i' j c hc
  ·rw[if_neg e]at hc;have hj:j<sz:=by
    have hi':=lZ hc;have:=hsz (es.getD i' []) (by simp[bu,aB hi']);rw[<- this];exact(bn.1 hc).1
   have hout:¬(i*sz+off<=i'*sz+j/\i'*sz+j<i*sz+off+vs.length):=by intro⟨c1,c2⟩;obtain⟨e1,_⟩:=aeh (i:=i') (i':=i) (j:=j) (j':=i'*sz+j-i*sz) hj (by omega) (by omega);exact e e1
   by_cases c1:i'*sz+j<i*sz+off
   ·rw[if_pos c1];exact h.rd i' j c hc
   ·rw[if_neg c1,if_neg (by omega)];exact h.rd i' j c hc
def Gz (n:Nat):List (Nat×Operand)->List (Nat×oW)->Bool
 |[],[]=>true
 |(i,x)::r,(i',y)::r'=>i==i'&&kU n x y&&Gz n r r'
 |_,_=>false
def Ny (P:Program)(n:Nat)(op:Op)(sz m:Nat)(zs:List Cell)(ps:List (Nat×oW)):Bool:=
 match op with
 | .buildSlice t len ps'=>len==m&&zs.length==sz&&decide (0<sz)&&decide (len*sz<=16777216)&&Gz n ps'.toList ps&&(match P.underlying t with
   |some (.slice e)=>(match P.info? e with|some i=>i.size==sz&&(match i.zero with|some z=>Ih z.cells.toList zs|none=>false)|none=>false)
   |_=>false)
 |_=>false
theorem U6 {sz:Nat}{BS:List Nat}(h:GX E I ρ n st a w)(hs0:0<sz):∀(ps:List (Nat×Operand)) (ps':List (Nat×oW)) (l':List (Nat×List Cell)) (cs:Array Value) (es:List (List Cell)),Gz n ps ps'=true ->
 yQ (eu st.tm) st.bx es.length sz ps'=some l'->AO (eu st.tm) st.bx ps'->(∀b,b∈uQ (eu st.tm) ps'->b∈BS)->(∀p,p∈l'->p.1<es.length/\p.2.length=sz)->(∀p,p∈ps'->(p.2.ev st.tm).g=true)->DC (BU I ρ w st.bx BS) cs.toList sz es->(∀x,x∈es->x.length=sz)->cs.size=es.length*sz ->
 ∃cs',BD (λi=>some (i*sz,sz)) cs (ps.map λp=>(p.1,a.eval p.2))=some cs'/\DC (BU I ρ w st.bx BS) cs'.toList sz (LD es l')/\(∀x,x∈LD es l'->x.length=sz)/\cs'.size=es.length*sz/\(LD es l').length=es.length
 | [],[],l',cs,es,_,hd,_,_,_,_,hg,hsz,hcs=>by simp[yQ]at hd;subst hd;exact⟨cs,rfl,hg,hsz,hcs,rfl⟩
 |[],_::_,_,_,_,h,_,_,_,_,_,_,_,_=>by simp[Gz]at h
 |_::_,[],_,_,_,h,_,_,_,_,_,_,_,_=>by simp[Gz]at h
 | (i,x)::r,(i',y)::r',l',cs,es,hp,hd,hld,hbs,hq,hv,hg,hsz,hcs=>by
   simp only[Gz,ah,beq_iff_eq]at hp;obtain⟨⟨rfl,hx⟩,hr⟩:=hp;unfold yQ at hd;split at hd
   ·rename_i ds l2 hd1 hd2;simp at hd;subst hd;obtain⟨q1,q2⟩:=hq (i,ds) (by simp);simp only at q1 q2;have g:=og h hx (hv _ (bz ..));have hf:(eu st.tm y).flat:=by
     cases hav:eu st.tm y with
     |wu ps=>rw[hav]at hd1;simp[AV.cells,Io]at hd1;rw[hd1]at q2;simp at q2;omega
     |one x=>trivial
     |agg xs=>trivial
    have gc:=IV g hf;obtain⟨hl,hrd⟩:=Vh (BS:=BS) h gc hd1 hld.1 (λb hm=>hbs b (by simp only[uQ,aW];exact .inl hm));have hvs:(a.eval x).cells.size=sz:=(by simp at hl;rw[hl];exact q2);have hone:∀(j:Nat) (u:Value),(a.eval x).cells.toList[j]? = some u->u.oneCell'=true:=λj u hu=>by have hj:j<(eu st.tm y).cells.length:=(by rw[<- gc.1];exact(bn.1 hu).1);exact(gc.2 j u _ hu (aB hj)).one
    have hi1:(i+1)*sz<=cs.toList.length:=(by simp;rw[hcs];exact bD _ q1);have hmul:(i+1)*sz=i*sz+sz:=(by rw[dQ];omega);have hsp:=hg.splice hsz q1 (off:=0) (ys:=ds) (vs:=(a.eval x).cells.toList) (by omega) hi1 (by simpa using hl) hone hrd;have hei:(es.getD i []).length=sz:=hsz _ (by simp[bu,aB q1]);have hse:Ab.splice (es.getD i []) 0 ds=ds:=(by unfold Ab.splice;rw[wW,gJ,List.drop_of_length_le (by omega),eX]);rw[hse,wB]at hsp;have hfold:=foldl_set (a.eval x).cells (i*sz) cs (by simp at hi1;omega);have hlen2:(es.set i ds).length=es.length:=(by simp);have ih:=U6 h hs0 r r' l2 ((a.eval x).cells.zipIdx.foldl (λcs (p:Value×Nat)=>cs.setIfInBounds (i*sz+p.2) p.1) cs) (es.set i ds) hr (by rw[hlen2];exact hd2) hld.2 (λb hm=>hbs b (by simp only[uQ,aW];exact .inr hm))
     (λp hp=>by rw[hlen2];exact hq p (by simp[hp])) (λp hp=>hv p (by simp[hp])) (by rw[hfold];exact hsp)
     (λx hx=>(qR hx).elim (hsz x) (λh1=>by rw[h1];exact q2)) (by have:(cs.toList).length=cs.size:=(by simp);rw[<- uw,hfold,length_splice _ _ _ (by simp at hi1⊢;omega),hlen2];simpa using hcs)
    obtain⟨cs',h1,h2,h3,h4,h5⟩:=ih;rw[hlen2]at h4 h5;refine⟨cs',?_,h2,h3,h4,h5⟩;simp only[bJ,BD];rw[if_neg (by simp at hi1⊢;omega)];exact h1
   ·cases hd
theorem U8 {o:Oper}{l sz m:Nat}{zs:List Cell}{ps:List (Nat×oW)}{l':List (Nat×List Cell)}(h:GX E I ρ n st a w)(hc:Ny P n o.op sz m zs ps=true)(hv:∀p,p∈ps->(p.2.ev st.tm).g=true)
 (hm:E.m<=l) (hl:Cm (st.bx l)) (hd:yQ (eu st.tm) st.bx m sz ps=some l') (hq:∀p,p∈l'->p.1<m/\p.2.length=sz) (hld:AO (eu st.tm) st.bx ps) :
 o7 P E n o a w ((st.EP (uQ (eu st.tm) ps)).xU l (.dat sz (LD (bU m zs) l'))) (.one (.own l m sz)):=by
 have h':=h.freeze (uQ (eu st.tm) ps);have hl':Cm ((st.EP (uQ (eu st.tm) ps)).bx l):=by rw[Au,Aj hl];split<;>trivial
 generalize hJ:BU I ρ w st.bx (uQ (eu st.tm) ps)=J at h';unfold Ny at hc;split at hc
 ·rename_i t len ps' he;simp only[ah,beq_iff_eq,decide_eq_true_eq]at hc;obtain⟨⟨⟨⟨⟨rfl,hs⟩,hs0⟩,hbig⟩,hp⟩,ht⟩:=hc;split at ht
  ·rename_i e hte;split at ht
   ·rename_i i hi;simp only[ah,beq_iff_eq]at ht;obtain⟨rfl,hz⟩:=ht;split at hz
    ·rename_i z hzero;generalize hz0:(if len*i.size=0 then(#[]:Array Value)else z.cells)=z0;generalize hcs0:(Dk (len*i.size)).map (z0[· % z0.size]!)=cs0;have hdc:DC J cs0.toList i.size (bU len zs)/\cs0.size=len*i.size:=by
      refine⟨?_,by rw[<- hcs0];simp⟩;by_cases h0:len*i.size=0
      ·have hlen0:len=0:=by
        rcases Nat.mul_eq_zero.1 h0 with h1|h1
        ·exact h1
        ·omega
       subst hlen0;refine⟨λj u hu=>?_,λi' j c hc=>?_⟩
       ·rw[<- hcs0]at hu;simp at hu
       ·simp[bu]at hc
      ·rw[if_neg h0]at hz0;subst hz0;have rc:=NZ (I:=J) (N:=len*i.size) (m:=len) hz hs hs0 (au _) (cs:=cs0) hcs0.symm;exact⟨λj u hu=>rc.1 j u (by simpa using hu),λi' j c hc=>by obtain⟨u,hu,hr⟩:=rc.2 i' j c hc;exact⟨u,by simpa using hu,hr⟩⟩
     obtain⟨cs',h1,h2,h3,h4,h5⟩:=U6 (BS:=uQ (eu st.tm) ps) h hs0 ps'.toList ps l' cs0 (bU len zs) hp (by simpa using hd) hld (λb hb=>hb) (by simpa using hq) hv (by rw[hJ];exact hdc.1) (λx hx=>by rw[uk hx,hs]) (by simpa using hdc.2);rw[hJ]at h2;simp only[AY]at h4 h5;have g:=JA h' (Aj hl') hm cs' e len i.size (LD (bU len zs) l') h4 (by omega) (by simp only[maxLen];have:=Nat.le_mul_of_pos_right len hs0;omega) h3
      (λj u hu=>h2.one j u (by simpa using hu)) (λi' j c hc=>by obtain⟨u,hu,hr⟩:=h2.rd i' j c hc;exact⟨u,by simpa using hu,hr⟩)
     refine⟨_,_,J,_,.inl ?_,g,λ_=>⟨w.heap.size,len,_,_,Ren.ou _ _ _ _,rfl,au _,au _,λ_=>rfl⟩⟩;have hps:(ps'.map λ(i,x)=>(i,a.eval x)).toList=ps'.toList.map λp=>(p.1,a.eval p.2):=(by simp);have hsz:(sizeOf e).run P w = .ok i.size w:=(by simp[sizeOf,typeInfo,hi]);have hzr:(zeroValue e).run P w = .ok z w:=(by simp[zeroValue,typeInfo,hi,hzero]);simp only[execOp,he,Instr.buildSlice,gG,run_underlying hte,dD,hsz];rw[if_neg (by omega)];by_cases h0:len*i.size=0
     ·rw[if_pos h0]at hz0⊢;subst hz0;simp only[gG,fM,dD,hcs0,hps,h1,newRow,run_newObj];rfl
     ·rw[if_neg h0]at hz0⊢;subst hz0;simp only[gG,hzr,fM,dD,hcs0,hps,h1,newRow,run_newObj];rfl
    ·cases hz
   ·cases ht
  ·cases ht
 ·cases hc
theorem H8 (w:World)(k:Nat)(cs:Array Value):KR w (w.setRow k cs) (λk'=>k'=k):=
 ⟨rfl,rfl,rfl,by simp,λk' _ hne=>setRow_other w k k' cs hne⟩
theorem zX (cs:Array Value)(off:Nat)(vs:List Value):(cs.toList.take (off+0)++vs++cs.toList.drop (off+0+vs.length)).toArray=(Ab.splice cs.toList off vs).toArray:=by unfold Ab.splice;simp
def PO (P:Program)(n:Nat)(op:Op)(agg:Bool)(k:Nat)(p x:oW):Bool:=match op with|.store t p' x'=>kU n p' p&&kU n x' x&&QO P t agg k&&(agg||k==1)|_=>false
theorem Uu {t:TypeId}{agg:Bool}{k kk off:Nat}(ht:QO P t agg k=true){v:Value}(hk:v.cells.size=k){cur:Array Value}{e:TypeId}(hw:w.heap[kk]? = some (.cells cur e (0,0)))
 (hfit:off+k<=cur.size) (h1:∀(j:Nat) (u:Value),v.cells.toList[j]? = some u->u.oneCell'=true) :
 (Instr.storeAt t (.pointer (some ⟨kk,off,none⟩)) v).run P w = .ok () (w.setRow kk (Ab.splice cur.toList off v.cells.toList).toArray):=by
 have hst:=run_storeCells_at P kk off e v.cells.toList 0 cur w hw (by simp;omega) (λu hu=>by obtain⟨j,hj⟩:=ug hu;exact h1 j u hj)
 rw[zX]at hst;obtain⟨_,hs⟩:=JK ht w;simp only[Instr.storeAt,tu,gG,fM,dD,storeVar,hs];rw[if_neg (by omega)];exact hst
theorem adT {v:Value}{x:AV}(h:GV I ρ v x)(hf:x.flat):∀(j:Nat) (u:Value),v.cells.toList[j]? = some u->u.oneCell'=true:=λj u hu=>by
 have gc:=IV h hf;have hj:j<x.cells.length:=by rw[<- gc.1];exact(bn.1 hu).1
 exact(gc.2 j u _ hu (aB hj)).one
theorem XY {o:Oper}{agg:Bool}{k:Nat}{p x:oW}(h:GX E I ρ n st a w)(hc:PO P n o.op agg k p x=true)(hd:o.dst=none)(hp:(p.ev st.tm).g=true)(hx:(x.ev st.tm).g=true)
 (jK:(zn agg k (eu st.tm p) (eu st.tm x) st.bx).vc):o7 P E n o a w (st.sS (zn agg k (eu st.tm p) (eu st.tm x) st.bx).sets) (zn agg k (eu st.tm p) (eu st.tm x) st.bx).v:=by
 unfold PO at hc;split at hc
 ·rename_i t p' x' he;simp only[ah]at hc;obtain⟨⟨⟨c1,c2⟩,ht⟩,_⟩:=hc;have g1:=og h c1 hp;have g2:=og h c2 hx;have hf:(eu st.tm x).flat:=by
   cases hav:eu st.tm x with
   |one _=>trivial
   |agg _=>trivial
   |wu ps=>rw[hav]at jK;exact jK.elim
  have gc:=IV g2 hf;have h1:=adT g2 hf;have key:∀{J:IH} {st':iy} (h':GX E J ρ n st' a w) {b kk cap off:Nat} {cur:Array Value} {e:TypeId} {y:Box},a.eval p' = .pointer (some ⟨kk,off,none⟩)->(st'.bx b).uses (ρ b) kk->w.heap[kk]? = some (.cells cur e (0,0))->(eu st.tm x).cells.length=k->off+k<=cur.size ->
   (∀k',y.uses (ρ b) k'->k'=kk)->Dl J ρ (w.setRow kk (Ab.splice cur.toList off (a.eval x').cells.toList).toArray) b y->ρ b=some (kk,cap)->o7 P E n o a w (st'.sS [(b,y)]) (.one .IZ):=by
   intro J st' h' b kk cap off cur e y hpv hu hw hk hfit huy hok hr;have hkv:(a.eval x').cells.size=k:=(by have:=gc.1;simp at this;omega);have hrun:=Uu (P:=P) (w:=w) ht hkv hw hfit h1;refine⟨undef,w.setRow kk (Ab.splice cur.toList off (a.eval x').cells.toList).toArray,J,ρ,.inr ⟨by simp only[execOp,he,hpv,gG,hrun,dD,fM],hd⟩,?_,λhn=>absurd hd hn⟩;exact h'.xU hu y huy (H8 _ _ _) hok (by simp)
  unfold zn at jK⊢;split at jK
  ·exact jK.elim
  ·exact jK.elim
  ·exact jK.elim
  ·split at jK
   ·rename_i b off e1;rw[e1]at g1;obtain⟨kk,cap,hr,hv⟩:=g1;split at jK
    ·rename_i xs hb;obtain⟨hk,hfit⟩:=jK;have hok:=h.bx.ok b;rw[hb]at hok;obtain⟨kk',cap',cs,hr',hw,hs,hcs⟩:=hok;rw[hr]at hr';simp only[aJ,aI]at hr';obtain⟨rfl,rfl⟩:=hr';refine key h hv (by rw[hb];exact⟨cap,hr⟩) hw hk (by omega) (λk' hk'=>?_) ?_ hr
     ·obtain⟨c,hc⟩:=hk';rw[hr]at hc;simp at hc;exact hc.1.symm
     ·have hsp:=Jo.splice (vs:=cs.toList) (xs:=xs) ⟨by simpa using hs,λj v y hv hy=>hcs j v y (by simpa using hv) hy⟩ gc off (by omega);refine⟨kk,cap,_,hr,setRow_heap w kk cs _ cap _ hw,?_,λj u y hu hy=>hsp.2 j u y (by simpa using hu) hy⟩;have:=hsp.1;simpa using this
    ·exact jK.elim
   ·rename_i b i sz off e1;rw[e1]at g1;obtain⟨kk,cap,hr,hv⟩:=g1;split at jK
    ·rename_i sz' es cs' hb hds;obtain⟨rfl,hk,hi,hfit,hlo,hnb⟩:=jK;obtain⟨hl,hrd⟩:=Vh (BS:=o8 (eu st.tm x).cells) h gc hds hlo (λb hm=>hm);have h':=h.freeze (o8 (eu st.tm x).cells);have hb':(st.EP (o8 (eu st.tm x).cells)).bx b = .dat sz' es:=(by rw[Au,if_neg (λhm=>by rw[List.contains_iff_mem.2 hm]at hnb;cases hnb),hb]);rw[QB];generalize hJ:BU I ρ w st.bx (o8 (eu st.tm x).cells)=J at h' hrd;have hok:=h'.bx.ok b;rw[hb']at hok;obtain⟨kk',cap',hr',hle,hcm,hsz,hcs⟩:=hok;rw[hr]at hr';simp only[aJ,aI]at hr';obtain⟨rfl,rfl⟩:=hr';have hc0:cap≠0:=(by omega);obtain⟨cs,e,hw,hs,ho,ag9⟩:=hcs hc0;have hi1:(i+1)*sz'<=cs.size:=(by rw[hs];exact bD _ (by omega));have hmul:(i+1)*sz'=i*sz'+sz':=(by rw[dQ];omega);have hei:(es.getD i []).length=sz':=hsz _ (by simp[bu,aB hi]);have hck:(eu st.tm x).cells.length=k:=(by rw[<- gc.1,hl];exact hk);have hdc:DC J cs.toList sz' es:=⟨λj u hu=>ho j u (by simpa using hu),λi j c hc=>by obtain⟨u,hu,hr⟩:=ag9 i j c hc;exact⟨u,by simpa using hu,hr⟩⟩;have hsp:=hdc.splice hsz hi (off:=off) (ys:=cs') (vs:=(a.eval x').cells.toList) (by omega) (by simpa using hi1) hl h1 hrd;refine key h' hv (by rw[hb'];exact⟨cap,hr,hc0⟩) hw hck (by omega) (λk' hk'=>?_) ?_ hr
     ·obtain⟨c,hc,_⟩:=hk';rw[hr]at hc;simp at hc;exact hc.1.symm
     ·refine⟨kk,cap,hr,by simpa using hle,hcm,λy hy=>?_,λ_=>⟨_,e,setRow_heap w kk cs _ e _ hw,?_,λj u hu=>hsp.one j u (by simpa using hu),λi j c hc=>by obtain⟨u,hu,hr⟩:=hsp.rd i j c hc;exact⟨u,by simpa using hu,hr⟩⟩⟩
      ·rcases qR hy with h1|h1
       ·exact hsz y h1
       ·rw[h1,length_splice _ _ _ (by omega)];exact hei
      ·have:(a.eval x').cells.toList.length=k:=(by rw[hl];exact hk);simp only[lM];rw[length_splice _ _ _ (by rw[this,uw];omega)];simpa using hs
    ·exact jK.elim
   ·exact jK.elim
 ·cases hc
end
end
section
section
variable {P:Program} {E:Env P} {I:IH} {ρ:Ren} {n:Nat} {st:iy} {a:Act} {w:World}
theorem GX.kill (h:GX E I ρ n st a w)(b:Nat):GX E I ρ n (st.xU b .dead) a w:=by
 refine{ h with bx:=?_,own:=?_,agree:=h.agree,tm:=h.tm,size:=h.size,defers:=h.defers }
 ·refine BX.step (λc=>c=b) h.bx (IH.le_refl I) (Ren.le_refl ρ) (λc hc=>⟨by simp[iy.qH,hc],rfl⟩) (λc k _ _=>rfl) ?_ ?_ ?_ (λc k _ hu=>h.bx.fresh c k hu)
  ·rintro c rfl;simp[iy.qH,Dl]
  ·rintro c k rfl hu;simp[iy.qH,Box.uses]at hu
  ·rintro c c' k rfl rfl _ _;rfl
 ·intro c k hu;simp only[iy.qH]at hu;by_cases e:c=b
  ·rw[if_pos e]at hu;exact hu.elim
  ·rw[if_neg e]at hu;exact h.own c k hu
theorem GX.move (h:GX E I ρ n st a w){w':World}{b l kk cap sz sz':Nat}{es es':List (List Cell)}(hb:st.bx b = .dat sz es)(hr:ρ b=some (kk,cap))(hl:st.bx l = .absent)(hm:E.m<=l)
 (hF:KR w w' (λk=>k=kk)) (hsz:w'.heap.size=w.heap.size) (h0:cap=0->w'=w) (hx:Dl I (ρ.set l kk cap) w' l (.dat sz' es')):GX E I (ρ.set l kk cap) n ((st.xU b .dead).xU l (.dat sz' es')) a w':=by
 have hrl:ρ l=none:=by have:=h.bx.ok l;rwa[hl]at this
 have hbl:b≠l:=by rintro rfl;rw[hl]at hb;cases hb
 have hle:=Ren.Kz (ρ:=ρ) (k:=kk) (cap:=cap) hrl;have hk:∀k',k'≠kk->w'.heap[k']? = w.heap[k']?:= λk' hne=>by
  by_cases hlt:k'<w.heap.size
  ·exact hF.block k' hlt hne
  ·rw[xy (by omega),xy (by omega)]
 have hub:cap≠0->(st.bx b).uses (ρ b) kk:=λhc=>by rw[hb];exact⟨cap,hr,hc⟩
 have hk2:∀k',(∀hc:cap≠0,k'≠kk)->w'.heap[k']? = w.heap[k']?:= λk' hne=>by
  by_cases hc:cap=0
  ·rw[h0 hc]
  ·exact hk k' (hne hc)
 refine{ agree:=h.agree.other λk' c hc=>hk2 k' λhc0 e=>?_,bx:=?_,tm:=λt ht=>(h.tm t ht).mono (IH.le_refl _) hle,size:=h.size,defers:=h.defers,Ht:=?_,own:=?_,O0:=h.O0,FQ:=h.FQ,x8:=?_ }
 ·subst e;have:=h.bx.fresh b k' (hub hc0);rw[this]at hc;cases hc
 ·refine BX.step (λc=>c=b\/c=l) h.bx (IH.le_refl I) hle ?_ ?_ ?_ ?_ ?_ ?_
  ·intro c hc;have h1:¬c=b:=λe=>hc (.inl e);have h2:¬c=l:=λe=>hc (.inr e);exact⟨by simp[iy.qH,h1,h2],Ren.wo h2⟩
  ·intro c k' hc hu;refine hk2 k' λhc0 e=>hc (.inl ?_);subst e;exact h.bx.inj c b k' hu (hub hc0)
  ·rintro c (rfl|rfl)
   ·simp[iy.qH,hbl,Dl]
   ·simpa[iy.qH]using hx
  ·rintro c k' (rfl|rfl) hu
   ·simp[iy.qH,hbl,Box.uses]at hu
   ·simp only[iy.qH,if_true,Box.uses,Ren.ou]at hu;obtain⟨c',hc',hc0⟩:=hu;simp only[aJ,aI]at hc';obtain⟨rfl,rfl⟩:=hc';exact⟨λb' hb' hu'=>hb' (.inl (h.bx.inj b' b kk hu' (hub hc0))),h.bx.fresh b kk (hub hc0)⟩
  ·rintro c c' k' (rfl|rfl) (rfl|rfl) hu hu'
   ·rfl
   ·simp[iy.qH,hbl,Box.uses]at hu
   ·simp[iy.qH,hbl,Box.uses]at hu'
   ·rfl
  ·intro c k' hc hu;exact h.bx.fresh c k' hu
 ·by_cases hc:cap=0
  ·rw[h0 hc];exact h.Ht
  ·refine h.Ht.trans hF λk' hlt e=>?_;subst e;rcases h.own b k' (hub hc)with h1|h1
   ·omega
   ·exact h1
 ·intro c k' hu;simp only[iy.qH]at hu;by_cases e:c=l
  ·subst e;simp only[if_true,Box.uses,Ren.ou]at hu;obtain⟨c',hc',hc0⟩:=hu;simp only[aJ,aI]at hc';obtain⟨rfl,rfl⟩:=hc';exact h.own b kk (hub hc0)
  ·rw[if_neg e,Ren.wo e]at hu;by_cases e2:c=b
   ·rw[if_pos e2]at hu;exact hu.elim
   ·rw[if_neg e2]at hu;exact h.own c k' hu
 ·intro c hc;rw[Ren.wo (by omega)];exact h.x8 c hc
theorem Jj {v:Value}{sz:Nat}{es:List (List Cell)}(h:Src I w v sz es)(h0:0<sz):∃(b:Option Addr) (cap:Nat) (us:List Value),v = .slice b es.length cap/\us.length=es.length*sz /\
 (∀ad,b=some ad->∀(j:Nat) (u:Value),us[j]? = some u->w.cell? (ad.add j)=some u)/\(b=none->es=[])/\DC I us sz es:=by
 obtain⟨b,cap,hv,_,hsz,hb,hc⟩:=h;cases b with
 | none=>
   have:es=[]:=by
    cases es with
    |nil=>rfl
    |cons e r=>exact absurd rfl (hb (by simp))
   subst this;exact⟨none,cap,[],hv,by simp,(λad h=>by cases h),(λ_=>rfl),⟨by simp,by simp⟩⟩
 | some ad=>
   have key:∀j,j<es.length*sz->∃u,w.cell? (ad.add j)=some u/\∃c,(es.getD (j/sz) [])[j%sz]? = some c/\Rd I u c:=by intro j hj;have hi:j/sz<es.length:=(by rw[Nat.div_lt_iff_lt_mul h0];exact hj);have hl:(es.getD (j/sz) []).length=sz:=hsz _ (by simp[bu,aB hi]);have hm:j%sz<sz:=xN _ h0;obtain⟨u,hu,hr⟩:=hc ad rfl (j/sz) (j%sz) _ (aB (by omega));have e:j/sz*sz+j%sz=j:=(by rw[Ce];exact Nat.div_add_mod j sz);rw[e]at hu;exact⟨u,hu,_,aB (by omega),hr⟩
   refine⟨some ad,cap,(List.range (es.length*sz)).map λj=>(w.cell? (ad.add j)).getD undef,hv,by simp,?_,by simp,?_⟩
   ·intro ad' had j u hu;simp at had;subst had;rw[fQ]at hu;by_cases hj:j<es.length*sz
    ·rw[BH hj]at hu;obtain⟨u',hu',_⟩:=key j hj;simp[hu']at hu;rw[<- hu];exact hu'
    ·rw[nG (by simpa using hj)]at hu;cases hu
   ·refine⟨λj u hu=>?_,λi j c hcc=>?_⟩
    ·rw[fQ]at hu;by_cases hj:j<es.length*sz
     ·rw[BH hj]at hu;obtain⟨u',hu',c,_,hr⟩:=key j hj;simp[hu']at hu;rw[<- hu];exact hr.one
     ·rw[nG (by simpa using hj)]at hu;cases hu
    ·have hi:=lZ hcc;have hl:(es.getD i []).length=sz:=hsz _ (by simp[bu,aB hi]);have hj:j<sz:=(by rw[<- hl];exact(bn.1 hcc).1);obtain⟨u,hu,hr⟩:=hc ad rfl i j c hcc;have hlt:i*sz+j<es.length*sz:=by
      have:(i+1)*sz<=es.length*sz:=bD _ hi;rw[dQ]at this;omega
     exact⟨u,by rw[fQ,BH hlt];simp[hu],hr⟩
theorem DC.append {us vs:List Value}{sz:Nat}{es ys:List (List Cell)}(h:DC I us sz es)(k:DC I vs sz ys)(hl:us.length=es.length*sz):DC I (us++vs) sz (es++ys):=by
 refine⟨λj u hu=>?_,λi j c hc=>?_⟩
 ·by_cases hj:j<us.length
  ·rw[dU hj]at hu;exact h.one j u hu
  ·rw[fF (by omega)]at hu;exact k.one _ u hu
 ·by_cases hi:i<es.length
  ·have e:(es++ys).getD i []=es.getD i []:=(by simp[bu,dU hi]);rw[e]at hc;obtain⟨u,hu,hr⟩:=h.rd i j c hc;exact⟨u,by rw[dU (bn.1 hu).1];exact hu,hr⟩
  ·have e:(es++ys).getD i []=ys.getD (i-es.length) []:=(by simp[bu,fF (Af hi)]);rw[e]at hc;obtain⟨u,hu,hr⟩:=k.rd _ j c hc;have hmul:es.length*sz<=i*sz:=bD _ (by omega);have hsub:(i-es.length)*sz=i*sz-es.length*sz:=Nat.sub_mul _ _ _;exact⟨u,by rw[fF (by omega),hl,<- hu];congr 1;omega,hr⟩
theorem DC.more {us vs:List Value}{sz:Nat}{es:List (List Cell)}(h:DC I us sz es)(hv:∀(j:Nat) (u:Value),vs[j]? = some u->u.oneCell'=true):DC I (us++vs) sz es:=by
 refine⟨λj u hu=>?_,λi j c hc=>?_⟩
 ·by_cases hj:j<us.length
  ·rw[dU hj]at hu;exact h.one j u hu
  ·rw[fF (by omega)]at hu;exact hv _ u hu
 ·obtain⟨u,hu,hr⟩:=h.rd i j c hc;exact⟨u,by rw[dU (bn.1 hu).1];exact hu,hr⟩
theorem DC.YG {us:List Value}{sz:Nat}{es:List (List Cell)}{cs:Array Value}(h:DC I us sz es)(e:cs.toList=us) :
 (∀(j:Nat) (u:Value),cs[j]? = some u->u.oneCell'=true)/\∀(i j:Nat) (c:Cell),(es.getD i [])[j]? = some c->∃u,cs[i*sz+j]? = some u/\Rd I u c:=by
 subst e;exact⟨λj u hu=>h.one j u (by simpa using hu),λi j c hc=>by obtain⟨u,hu,hr⟩:=h.rd i j c hc;exact⟨u,by simpa using hu,hr⟩⟩
def Fh (P:Program)(n:Nat)(op:Op)(sz bytes:Nat)(s x:oW):Bool:=
 match op with
 | .call { callee:=.builtin .append,args:=⟨[s',x']⟩,argTypes:=⟨[t,t']⟩ }=>kU n s' s&&kU n x' x&&t==t'&&decide (0<sz)&&(match P.underlying t with
   |some (.slice e)=>(match P.info? e with|some i=>i.size==sz&&i.bytes==bytes&&(match i.zero with|some z=>z.cells.size==sz&&z.cells.toList.all (·.oneCell')|none=>false)|none=>false)
   |_=>false)
 |_=>false
theorem run_append_room' (t ty e tg:TypeId)(i:TypeInfo)(ht:P.underlying t=some (.slice e))(hi:P.info? e=some i)
 (g sLen sCap:Nat) (cur:Array Value) (hg:w.heap[g]? = some (.cells cur tg (0,0)))
 (ad:Addr) (m c:Nat) (news:List Value) (hl:news.length=m*i.size) (hnews:∀j u,news[j]? = some u->w.cell? (ad.add j)=some u) (h1:∀u∈news,u.oneCell'=true)
 (hroom:sLen+m<=sCap) (hfit:sLen*i.size+news.length<=cur.size) :
 (jB #[t,t] ty #[.slice (some ⟨g,0,none⟩) sLen sCap,.slice (some ad) m c]).run P w =
  .ok (.slice (some ⟨g,0,none⟩) (sLen+m) sCap) (w.setRow g (cur.toList.take (sLen*i.size)++news++cur.toList.drop (sLen*i.size+news.length)).toArray):=by
 have hf:=run_firstCells_some (P:=P) w i.size m ad m c news hl hnews;have hst:=run_storeCells_at P g (sLen*i.size) tg news 0 cur w hg (by simpa using hfit) h1;simp only[wB]at hst;simp[jB,run_underlying ht,sizeOf,typeInfo,hi,uh,hroom,hf,Go.Addr.add_lit,hst]
theorem EL (t ty e:TypeId)(i:TypeInfo)(ht:P.underlying t=some (.slice e))(hi:P.info? e=some i)(b:Option Addr)(sLen sCap:Nat)(hs:sLen<=sCap)(ad:Option Addr)(c:Nat) :
 (jB #[t,t] ty #[.slice b sLen sCap,.slice ad 0 c]).run P w = .ok (.slice b sLen sCap) w:=by
 have hf:(sV i.size 0 (.slice ad 0 c)).run P w = .ok #[] w:=by cases ad<;>simp[sV,loadCells,loadCellsFrom,fM]
 cases b<;>simp[jB,run_underlying ht,sizeOf,typeInfo,hi,uh,hs,hf,storeCells]
theorem Ol (h:GX E I ρ n st a w){l sz bytes:Nat}{sv xv:Value}{es ys:List (List Cell)}{b:Option Nat}(t ty e:TypeId)(i:TypeInfo)(z:Value)(ht:P.underlying t=some (.slice e))(hi:P.info? e=some i)(hsz:i.size=sz)
 (hby:i.bytes=bytes) (hz:i.zero=some z) (hzs:z.cells.size=sz) (hz1:z.cells.toList.all (·.oneCell')=true) (h0:0<sz) (hl:st.bx l = .absent) (hm:E.m<=l)
 (hb:(b=none/\es=[]/\sv = .slice none 0 0)\/∃b',b=some b'/\st.bx b' = .dat sz es/\GC I ρ sv (.own b' es.length sz)) (hx:Src I w xv sz ys) (hbig:(es.length+ys.length)*(bytes+sz+1)<=2^46) :
 ∃v w' ρ',(jB #[t,t] ty #[sv,xv]).run P w = .ok v w'/\GX E I ρ' n ((match b with|some b'=>st.xU b' .dead|none=>st).xU l (.dat sz (es++ys))) a w'/\GC I ρ' v (.own l (es.length+ys.length) sz):=by
 subst hsz;subst hby;have hmul:(es.length+ys.length)*(i.bytes+i.size+1)=(es.length+ys.length)*i.bytes+(es.length+ys.length)*i.size+(es.length+ys.length):=by rw[yE,yE,vw]
 have hbytes:(es.length+ys.length)*i.bytes<=140737488355328:=by omega
 have h63:es.length+ys.length<=maxLen:=by simp only[maxLen];omega
 obtain⟨xb,xc,us,hxv,IA,hus,hxn,WE⟩:=Jj hx h0;have hys:∀y,y∈ys->y.length=i.size:=by obtain⟨_,_,_,_,h4,_⟩:=hx;exact h4
 have hone:∀u∈us,u.oneCell'=true:=λu hu=>by obtain⟨j,hj⟩:=ug hu;exact WE.one j u hj
 have hzc:∀(q:Nat) (j:Nat) (u:Value),(bH z.cells q).toList[j]? = some u->u.oneCell'=true:=by
  intro q j u hu;simp only[bH,uV,wG]at hu;by_cases hj:j<q*z.cells.size
  ·rw[ry,if_pos hj]at hu;simp only[lU,aJ]at hu;have hlt:j%z.cells.size<z.cells.size:=xN _ (by omega);rw[getElem!_pos z.cells _ hlt]at hu;rw[<- hu];exact bg.1 hz1 _ (by simp)
  ·rw[ry,if_neg hj]at hu;cases hu
 have fresh:∀(st':iy) (old:Nat) (olds:List Value),GX E I ρ n st' a w->st'.bx l = .absent->old<es.length+ys.length->olds.length=es.length*i.size->DC I olds i.size es->(∀y,y∈es->y.length=i.size) ->
  GX E I (ρ.set l w.heap.size (grownCap w (es.length+ys.length) old e)) n (st'.xU l (.dat i.size (es++ys))) a
   (w.drew.alloc (.cells (olds.toArray++us.toArray++bH z.cells (grownCap w (es.length+ys.length) old e-(es.length+ys.length))) e)):=by
  intro st' old olds hst hl' ho hol hdo hes;have hge:=grownCap_ge w (es.length+ys.length) old e;have hcm:grownCap w (es.length+ys.length) old e<=maxLen:=grownCap_le_maxLen w _ old e h63;have hdc:=((hdo.append WE hol).more (hzc (grownCap w (es.length+ys.length) old e-(es.length+ys.length)))).YG (cs:=olds.toArray++us.toArray++bH z.cells (grownCap w (es.length+ys.length) old e-(es.length+ys.length))) (by simp);refine JA hst.drew hl' hm _ e _ i.size (es++ys) ?_ (by simpa using hge) hcm (λx hx=>?_) hdc.1 hdc.2
  ·simp only[zo,lM,size_zeroCells,hzs,hol,IA,<- dQ]
   congr 1
   omega
  ·rcases aW.1 hx with h1|h1
   ·exact hes x h1
   ·exact hys x h1
 rcases hb with⟨rfl,rfl,rfl⟩|⟨b',rfl,hb',hg⟩
 ·
  simp only[gI,kD,gJ]at *;by_cases hm0:ys.length=0
  ·have hy0:ys=[]:=di hm0;subst hy0;refine⟨.slice none 0 0,w,ρ.set l 0 0,?_,?_,0,0,none,0,Ren.ou _ _ _ _,rfl,au _,au _,λh=>absurd rfl h⟩
   ·rw[hxv];exact EL t ty e i ht hi none 0 0 (au _) xb xc
   ·have hrl:ρ l=none:=(by have:=h.bx.ok l;rwa[hl]at this);have hle:=Ren.Kz (ρ:=ρ) (k:=0) (cap:=0) hrl;refine{ agree:=h.agree,bx:=?_,tm:=λt ht=>(h.tm t ht).mono (IH.le_refl _) hle,size:=h.size,defers:=h.defers,Ht:=h.Ht,own:=?_,O0:=h.O0,FQ:=h.FQ,x8:=λc hc=>by rw[Ren.wo (by omega)];exact h.x8 c hc }
    ·refine BX.step (λc=>c=l) h.bx (IH.le_refl I) hle (λc hc=>⟨by simp[iy.qH,hc],Ren.wo hc⟩) (λc k _ _=>rfl) ?_ ?_ ?_ (λc k _ hu=>h.bx.fresh c k hu)
     ·rintro c rfl;simp only[iy.qH,if_true];exact⟨0,0,Ren.ou _ _ _ _,by simp,by simp[maxLen],by simp,λh=>absurd rfl h⟩
     ·rintro c k rfl hu;simp only[iy.qH,if_true,Box.uses,Ren.ou]at hu;obtain⟨c',hc',hc0⟩:=hu;simp only[aJ,aI]at hc';exact absurd hc'.2.symm hc0
     ·rintro c c' k rfl rfl _ _;rfl
    ·intro c k hu;simp only[iy.qH]at hu;by_cases e':c=l
     ·subst e';simp only[if_true,Box.uses,Ren.ou]at hu;obtain⟨c',hc',hc0⟩:=hu;simp only[aJ,aI]at hc';exact absurd hc'.2.symm hc0
     ·rw[if_neg e',Ren.wo e']at hu;exact h.own c k hu
  ·obtain⟨ad,had⟩:∃ad,xb=some ad:=by
    cases hq:xb with
    |none=>exact absurd (by rw[hxn hq];rfl) hm0
    |some ad=>exact⟨ad,rfl⟩
   subst had;have hr:=run_append_nil (P:=P) w t ty e i z ht hi hz ad ys.length xc us IA (hus ad rfl) (by omega) (by simp only[maxLen]at h63;omega) (by omega);rw[<- hxv]at hr;have hf:=fresh st 0 [] h hl (by omega) (by simp) ⟨by simp,by simp⟩ (by simp);simp only[sF]at hf;exact⟨_,_,_,hr,hf,w.heap.size,_,_,_,Ren.ou _ _ _ _,rfl,grownCap_ge w ys.length 0 e,au _,λ_=>rfl⟩
 ·obtain⟨kk,cap,ad0,c,hr0,hsv,hnc,hcc,hcap⟩:=hg;have hbl:b'≠l:=by rintro rfl;rw[hl]at hb';cases hb'
  have hok:=h.bx.ok b';rw[hb']at hok;obtain⟨kk',cap',hr',hle,hcm,hes,hcs⟩:=hok;rw[hr0]at hr';simp only[aJ,aI]at hr';obtain⟨rfl,rfl⟩:=hr';simp only;by_cases hm0:ys.length=0
  ·have hy0:ys=[]:=di hm0;subst hy0;simp only[gI,wB,eX]at *;refine⟨sv,w,ρ.set l kk cap,?_,?_,kk,cap,ad0,c,Ren.ou _ _ _ _,hsv,hnc,hcc,hcap⟩
   ·rw[hxv,hsv];exact EL t ty e i ht hi ad0 _ c hnc xb xc
   ·refine h.move hb' hr0 hl hm (KR.refl _ _) rfl (λ_=>rfl) ⟨kk,cap,Ren.ou _ _ _ _,hle,hcm,hes,hcs⟩
  ·obtain⟨ad,had⟩:∃ad,xb=some ad:=by
    cases hq:xb with
    |none=>exact absurd (by rw[hxn hq];rfl) hm0
    |some ad=>exact⟨ad,rfl⟩
   subst had;by_cases hroom:es.length+ys.length<=c
   ·have hc0:cap≠0:=(by omega);have Kv:=hcap hc0;subst Kv;obtain⟨cs,tg,hw,hs,ho,hrd⟩:=hcs hc0;have hfit:es.length*i.size+us.length<=cs.size:=(by rw[hs,IA,<- dQ];exact bD _ (by omega));have hr:=run_append_room' (P:=P) (w:=w) (ty:=ty) t e tg i ht hi kk es.length c cs hw ad ys.length xc us IA (hus ad rfl) hone hroom hfit;rw[<- hxv,<- hsv]at hr;refine⟨_,_,ρ.set l kk cap,hr,?_,kk,cap,_,c,Ren.ou _ _ _ _,rfl,hroom,hcc,λ_=>rfl⟩;refine h.move hb' hr0 hl hm (H8 _ _ _) (by simp) (λh=>absurd h hc0) ⟨kk,cap,Ren.ou _ _ _ _,by simp;omega,hcm,λx hx=>?_,λ_=>⟨_,tg,setRow_heap w kk cs _ tg _ hw,?_,?_⟩⟩
    ·rcases aW.1 hx with h1|h1
     ·exact hes x h1
     ·exact hys x h1
    ·simp only[lM,ay,dZ,List.length_drop,uw];omega
    ·have hd1:DC I (cs.toList.take (es.length*i.size)) i.size es:=by
      refine⟨λj u hu=>?_,λi' j c' hc'=>?_⟩
      ·rw[bT]at hu;split at hu
       ·exact ho j u (by simpa using hu)
       ·cases hu
      ·obtain⟨u,hu,hr⟩:=hrd i' j c' hc';have hi':=lZ hc';have hj:j<i.size:=(by rw[<- hes (es.getD i' []) (by simp[bu,aB hi'])];exact(bn.1 hc').1);have:(i'+1)*i.size<=es.length*i.size:=bD _ hi';rw[dQ]at this;exact⟨u,by rw[bT,if_pos (by omega)];simpa using hu,hr⟩
     have hlen:(cs.toList.take (es.length*i.size)).length=es.length*i.size:=(by simp;omega);have:=((hd1.append WE hlen).more (vs:=cs.toList.drop (es.length*i.size+us.length)) (λj u hu=>by rw[ja]at hu;exact ho _ u (by simpa using hu))).YG (cs:=(cs.toList.take (es.length*i.size)++us++cs.toList.drop (es.length*i.size+us.length)).toArray) (by simp);exact this
   ·
    have hfit:=growslice_fits (need:=es.length+ys.length) (old:=c) (bytes:=i.bytes) (by omega) hbytes;have hk:=h.kill b';have hkl:(st.xU b' .dead).bx l = .absent:=(by rw[iy.qH,if_neg (λe=>hbl e.symm)];exact hl);by_cases hc0:cap=0
    ·
     have he0:es=[]:=di (by omega);subst he0;have hcz:c=0:=(by omega);subst hcz;simp only[gI,kD,gJ]at *;have hf:=fresh (st.xU b' .dead) 0 [] hk hkl (by omega) (by simp) ⟨by simp,by simp⟩ (by simp);simp only[sF]at hf;cases ad0 with
     | none=>have hr:=run_append_nil (P:=P) w t ty e i z ht hi hz ad ys.length xc us IA (hus ad rfl) (by omega) (by simp only[maxLen]at h63;omega) (by omega);rw[<- hxv,<- hsv]at hr;exact⟨_,_,_,hr,hf,w.heap.size,_,_,_,Ren.ou _ _ _ _,rfl,grownCap_ge w ys.length 0 e,au _,λ_=>rfl⟩
     | some q=>have hr:=run_append_grow (P:=P) w t ty e i z ht hi hz q 0 0 [] (by simp) (by simp) ad ys.length xc us IA (hus ad rfl) (by omega) (by simp only[maxLen]at h63;omega) (by simpa using hfit);rw[<- hxv,<- hsv]at hr;simp only[kD,sF]at hr;exact⟨_,_,_,hr,hf,w.heap.size,_,_,_,Ren.ou _ _ _ _,rfl,grownCap_ge w ys.length 0 e,au _,λ_=>rfl⟩
    ·have Kv:=hcap hc0;subst Kv;obtain⟨cs,tg,hw,hs,ho,hrd⟩:=hcs hc0;have hmn:es.length*i.size<=cs.size:=(by rw[hs];exact bD _ hle);have VD:(cs.toList.take (es.length*i.size)).length=es.length*i.size:=(by simp;omega);have holds:∀(j:Nat) (u:Value),(cs.toList.take (es.length*i.size))[j]? = some u->w.cell? ((⟨kk,0,none⟩:Addr).add j)=some u:=λj u hu=>by
      rw[bT]at hu;split at hu
      ·rw[Addr.zf];simp at hu;simp[oQ,hw,hu]
      ·cases hu
     have hd1:DC I (cs.toList.take (es.length*i.size)) i.size es:=by
      refine⟨λj u hu=>?_,λi' j c' hc'=>?_⟩
      ·rw[bT]at hu;split at hu
       ·exact ho j u (by simpa using hu)
       ·cases hu
      ·obtain⟨u,hu,hr⟩:=hrd i' j c' hc';have hi':=lZ hc';have hj:j<i.size:=(by rw[<- hes (es.getD i' []) (by simp[bu,aB hi'])];exact(bn.1 hc').1);have:(i'+1)*i.size<=es.length*i.size:=bD _ hi';rw[dQ]at this;exact⟨u,by rw[bT,if_pos (by omega)];simpa using hu,hr⟩
     have hr:=run_append_grow (P:=P) w t ty e i z ht hi hz ⟨kk,0,none⟩ es.length c _ VD holds ad ys.length xc us IA (hus ad rfl) (by omega) (by simp only[maxLen]at h63;omega) hfit;rw[<- hxv,<- hsv]at hr;have hf:=fresh (st.xU b' .dead) c _ hk hkl (by omega) VD hd1 hes;exact⟨_,_,_,hr,hf,w.heap.size,_,_,_,Ren.ou _ _ _ _,rfl,grownCap_ge w _ c e,au _,λ_=>rfl⟩
end
end
section
section
variable {P:Program} {E:Env P} {I:IH} {ρ:Ren} {n:Nat} {st:iy} {a:Act} {w:World}
def OV (l sz bytes:Nat) (s x:AV) (bx:Nat->Box):FR:=match xW sz x bx with
    | some (p,ys)=>match s with
      |.one (.jC _)=>⟨p/\(match bx l with|.absent=>True|_=>False)/\ys.length*(bytes+sz+1)<=2^46,.one (.own l ys.length sz),[(l,.dat sz ys)]⟩
      | .one (.own b n sz')=>match bx b with
        |.dat Bo es=>⟨p/\(match bx l with|.absent=>True|_=>False)/\sz'=sz/\Bo=sz/\n<=es.length/\(n+ys.length)*(bytes+sz+1)<=2^46/\b≠l,
         .one (.own l (n+ys.length) sz),[(b,.dead),(l,.dat sz (es.take n++ys))]⟩
        |_=>.bad
      |_=>.bad
    |none=>.bad
theorem Gv {x:Box}(h:match x with|.absent=>True|_=>False):x = .absent:=by cases x<;>first|rfl|exact h.elim
theorem GX.pfx (h:GX E I ρ n st a w){b sz m:Nat}{es:List (List Cell)}(hb:st.bx b = .dat sz es):GX E I ρ n (st.xU b (.dat sz (es.take m))) a w:=by
 have hu:∀c k,((st.xU b (.dat sz (es.take m))).bx c).uses (ρ c) k->(st.bx c).uses (ρ c) k:=λc k hu=>by
  rw[iy.qH]at hu;split at hu
  ·rename_i e;subst e;rw[hb];exact hu
  ·exact hu
 refine{ h with bx:=⟨λc=>?_,λc c' k hc hc'=>h.bx.inj c c' k (hu c k hc) (hu c' k hc'),λc k hc=>h.bx.fresh c k (hu c k hc)⟩,own:=λc k hc=>h.own c k (hu c k hc),agree:=h.agree,tm:=h.tm,size:=h.size,defers:=h.defers,Ht:=h.Ht };rw[iy.qH];split
 ·rename_i e;subst e;have hok:=h.bx.ok c;rw[hb]at hok;obtain⟨k,cap,hr,h1,h2,h3,h4⟩:=hok;refine⟨k,cap,hr,by simp;omega,h2,λe he=>h3 e (fJ he),λh0=>?_⟩;obtain⟨cs,e,g1,g2,g3,g4⟩:=h4 h0;refine⟨cs,e,g1,g2,g3,λi j c' hc'=>g4 i j c' ?_⟩;have hi:=lZ hc';simp at hi;rw[<- hc']
  congr 1
  simp only[bu];rw[bT,if_pos (by omega)]
 ·exact h.bx.ok c
theorem U0 {o:Oper}{l sz bytes:Nat}{s x:oW}(h:GX E I ρ n st a w)(hc:Fh P n o.op sz bytes s x=true)(hm:E.m<=l)(hs:(s.ev st.tm).g=true)(hx:(x.ev st.tm).g=true)
 (jK:(OV l sz bytes (eu st.tm s) (eu st.tm x) st.bx).vc):o7 P E n o a w (st.sS (OV l sz bytes (eu st.tm s) (eu st.tm x) st.bx).sets) (OV l sz bytes (eu st.tm s) (eu st.tm x) st.bx).v:=by
 unfold Fh at hc;split at hc
 ·rename_i s' x' t t' he;simp only[ah,beq_iff_eq,decide_eq_true_eq]at hc;obtain⟨⟨⟨⟨c1,c2⟩,rfl⟩,h0⟩,ht⟩:=hc;have g1:=og h c1 hs;have g2:=og h c2 hx;split at ht
  ·rename_i e hte;split at ht
   ·rename_i i hi;simp only[ah,beq_iff_eq]at ht;obtain⟨⟨rfl,rfl⟩,hz⟩:=ht;split at hz
    ·rename_i z hzero;simp only[ah,beq_iff_eq]at hz;obtain⟨hzs,hz1⟩:=hz;have fin:∀{v:Value} {w':World},(jB #[t,t] o.type #[a.eval s',a.eval x']).run P w = .ok v w'->(execOp a.eval o).run P w = .ok (.value v) w':=by
      intro v w' hr;simp only[execOp,he,resolve,invoke,builtin,gG,fM,dD,nS,bJ,kM,hr]
     unfold OV at jK⊢;split at jK
     ·rename_i p ys hsrc;split at jK
      ·rename_i sz' e1;obtain⟨hp,hl,hbig⟩:=jK;rw[e1]at g1;obtain⟨v,w',ρ',hr,hg,hv⟩:=Ol (P:=P) h (l:=l) (es:=[]) (ys:=ys) (b:=none) t o.type e i z hte hi rfl rfl hzero hzs hz1 h0 (Gv hl) hm (.inl ⟨rfl,rfl,g1⟩) (src_ok h g2 hsrc hp) (by simpa using hbig);simp only[gJ,gI,kD]at hg hv;exact⟨v,w',I,ρ',.inl (fin hr),hg,λ_=>hv⟩
      ·rename_i b m sz' e1;rw[e1]at g1;split at jK
       ·rename_i Bo es hb;obtain⟨hp,hl,rfl,rfl,hmn,hbig,hbl⟩:=jK;have hlt:(es.take m).length=m:=(by simp;omega);have h':=h.pfx (m:=m) hb;have hl':(st.xU b (.dat i.size (es.take m))).bx l = .absent:=(by rw[iy.qH,if_neg (λe=>hbl e.symm)];exact Gv hl);obtain⟨v,w',ρ',hr,hg,hv⟩:=Ol (P:=P) h' (l:=l) (es:=es.take m) (ys:=ys) (b:=some b) t o.type e i z hte hi rfl rfl hzero hzs hz1 h0 hl' hm (.inr ⟨b,rfl,by rw[iy.qH,if_pos rfl],by rw[hlt];exact g1⟩) (src_ok h g2 hsrc hp) (by rw[hlt];exact hbig);rw[hlt]at hv;have hst:(((st.xU b (.dat i.size (es.take m))).xU b .dead).xU l (.dat i.size (es.take m++ys)))=((st.xU b .dead).xU l (.dat i.size (es.take m++ys))):=by
         apply iy.ext'
         ·rfl
         ·funext c;simp only[iy.qH];split
          ·rfl
          ·split<;>rfl
        simp only[hst]at hg;exact⟨v,w',I,ρ',.inl (fin hr),hg,λ_=>hv⟩
       ·exact jK.elim
      ·exact jK.elim
     ·exact jK.elim
    ·cases hz
   ·cases ht
  ·cases ht
 ·cases hc
def copyV (sz:Nat) (d x:AV) (bx:Nat->Box):FR:=match xW sz x bx with
    | some (p,ys)=>match d with
      | .one (.own b n sz')=>match bx b with
        |.dat Bo es=>⟨p/\sz'=sz/\Bo=sz/\n<=es.length,wR .i64 (fO ys.length n:Nat),[(b,.dat sz (splice es 0 (ys.take n)))]⟩
        |_=>.bad
      |.one (.jC _)=>.ok (wR .i64 0)
      |_=>.bad
    |none=>.bad
def Jt (P:Program)(n:Nat)(op:Op)(sz:Nat)(d x:oW):Bool:=
 match op with
 |.call { callee:=.builtin .copy,args:=⟨[d',x']⟩,argTypes:=⟨[t,_]⟩ }=>kU n d' d&&kU n x' x&&Ku P t sz&&decide (0<sz)
 |_=>false
theorem acy (t t' ty e:TypeId)(i:TypeInfo)(ht:P.underlying t=some (.slice e))(hi:P.info? e=some i)(kk m c:Nat)(cur:Array Value)(tg:TypeId)(hg:w.heap[kk]? = some (.cells cur tg (0,0)))
 (ad:Addr) (k c':Nat) (us:List Value) (hl:us.length=fO k m*i.size) (hus:∀j u,us[j]? = some u->w.cell? (ad.add j)=some u) (h1:∀u∈us,u.oneCell'=true) (hfit:us.length<=cur.size) :
 (rO #[t,t'] ty #[.slice (some ⟨kk,0,none⟩) m c,.slice (some ad) k c']).run P w = .ok (goInt (fO k m:Nat)) (w.setRow kk (splice cur.toList 0 us).toArray):=by
 have hf:=run_firstCells_some (P:=P) w i.size (fO k m) ad k c' us hl hus;have hst:=run_storeCells_at P kk 0 tg us 0 cur w hg (by simpa using hfit) h1;rw[zX]at hst;simp[rO,run_underlying ht,sizeOf,typeInfo,hi,uh,hf,hst]
theorem Gn (t t' ty e:TypeId)(i:TypeInfo)(ht:P.underlying t=some (.slice e))(hi:P.info? e=some i)(b:Option Addr)(m c:Nat)(ad:Option Addr)(k c':Nat)(h:fO k m=0) :
 (rO #[t,t'] ty #[.slice b m c,.slice ad k c']).run P w = .ok (goInt 0) w:=by
 have hf:(sV i.size 0 (.slice ad k c')).run P w = .ok #[] w:=by cases ad<;>simp[sV,loadCells,loadCellsFrom,fM]
 cases b<;>simp[rO,run_underlying ht,sizeOf,typeInfo,hi,uh,h,hf,storeCells]
theorem XW {α:Type}(xs:List α):splice xs 0 []=xs:=by simp[splice]
theorem JF {b:Nat}{x:Box}(h:st.bx b=x):st.xU b x=st:=by
 apply iy.ext'
 ·rfl
 ·funext c;rw[iy.qH];split
  ·rename_i e;rw[e,h]
  ·rfl
theorem Zg {o:Oper}{sz:Nat}{d x:oW}(h:GX E I ρ n st a w)(hc:Jt P n o.op sz d x=true)(hd:(d.ev st.tm).g=true)(hx:(x.ev st.tm).g=true)
 (jK:(copyV sz (eu st.tm d) (eu st.tm x) st.bx).vc):o7 P E n o a w (st.sS (copyV sz (eu st.tm d) (eu st.tm x) st.bx).sets) (copyV sz (eu st.tm d) (eu st.tm x) st.bx).v:=by
 unfold Jt at hc;split at hc
 ·rename_i d' x' t t' he;simp only[ah,decide_eq_true_eq]at hc;obtain⟨⟨⟨c1,c2⟩,ht⟩,h0⟩:=hc;have g1:=og h c1 hd;have g2:=og h c2 hx;obtain⟨e,i,hte,hi,rfl⟩:=Dq ht;have fin:∀{v:Value} {w':World},(rO #[t,t'] o.type #[a.eval d',a.eval x']).run P w = .ok v w'->(execOp a.eval o).run P w = .ok (.value v) w':=by
   intro v w' hr;simp only[execOp,he,resolve,invoke,builtin,gG,fM,dD,nS,bJ,kM,hr]
  unfold copyV at jK⊢;split at jK
  ·rename_i p ys hsrc;split at jK
   ·rename_i b m sz' e1;rw[e1]at g1;split at jK
    ·rename_i Bo es hb;obtain⟨hp,rfl,rfl,hmn⟩:=jK;have hsrc':=src_ok h g2 hsrc hp;have hys:∀y,y∈ys->y.length=i.size:=(by obtain⟨_,_,_,_,h4,_⟩:=hsrc';exact h4);obtain⟨xb,xc,us,hxv,IA,hus,hxn,WE⟩:=Jj hsrc' h0;obtain⟨kk,cap,ad0,c,hr0,hsv,hnc,hcc,hcap⟩:=g1;have hok:=h.bx.ok b;rw[hb]at hok;obtain⟨kk',cap',hr',hle,hcm,hes,hcs⟩:=hok;rw[hr0]at hr';simp only[aJ,aI]at hr';obtain⟨rfl,rfl⟩:=hr';by_cases hm0:fO ys.length m=0
     ·have hr:=Gn (P:=P) (w:=w) t t' o.type e i hte hi ad0 m c xb ys.length xc hm0;rw[<- hxv,<- hsv]at hr;have htk:ys.take m=[]:=by
       apply di;rw[dZ,Cc];exact hm0
      rw[htk,XW];refine⟨_,w,I,ρ,.inl (fin hr),?_,λ_=>by rw[hm0];exact Aw _ _⟩;show GX E I ρ n (st.xU b (.dat i.size es)) a w;rw[JF hb];exact h
     ·have hmin:fO ys.length m<=ys.length/\fO ys.length m<=m:=⟨Nat.min_le_left _ _,Nat.min_le_right _ _⟩;have hc0:cap≠0:=(by omega);have Kv:=hcap hc0;subst Kv;obtain⟨ad,had⟩:∃ad,xb=some ad:=by
       cases hq:xb with
       |none=>have:=hxn hq;subst this;exact absurd rfl hm0
       |some ad=>exact⟨ad,rfl⟩
      subst had;obtain⟨cs,tg,hw,hs,ho,hrd⟩:=hcs hc0;have hmul:fO ys.length m*i.size<=ys.length*i.size:=bD _ hmin.1;have LP:fO ys.length m*i.size<=cap*i.size:=bD _ (by omega);have hul:(us.take (fO ys.length m*i.size)).length=fO ys.length m*i.size:=(by simp;omega);have abu:0+(us.take (fO ys.length m*i.size)).length<=cs.toList.length:=(by have hq:cs.toList.length=cs.size:=uw;omega);have hr:=acy (P:=P) (w:=w) t t' o.type e i hte hi kk m c cs tg hw ad ys.length xc (us.take (fO ys.length m*i.size)) hul
       (λj u hu=>by
        rw[bT]at hu;split at hu
        ·exact hus ad rfl j u hu
        ·cases hu)
       (λu hu=>by obtain⟨j,hj⟩:=ug (fJ hu);exact WE.one j u hj) (by rw[hul];omega)
      rw[<- hxv,<- hsv]at hr;refine⟨_,_,I,ρ,.inl (fin hr),?_,λ_=>Aw _ _⟩;have htl:(ys.take m).length=fO ys.length m:=(by rw[dZ,Cc]);refine h.xU (b:=b) (k:=kk) (by rw[hb];exact⟨cap,hr0,hc0⟩) (.dat i.size (splice es 0 (ys.take m))) (λk' hk'=>?_) (H8 _ _ _) ?_ (by simp)
      ·obtain⟨c',hc',_⟩:=hk';rw[hr0]at hc';simp at hc';exact hc'.1.symm
      ·have hsl:(splice es 0 (ys.take m)).length=es.length:=length_splice _ _ _ (by rw[htl];omega);refine⟨kk,cap,hr0,by rw[hsl];exact hle,hcm,λy hy=>?_,λ_=>⟨_,tg,setRow_heap w kk cs _ tg _ hw,?_,?_,?_⟩⟩
       ·unfold splice at hy;simp only[wW,gJ,aW]at hy;rcases hy with h1|h1
        ·exact hys y (fJ h1)
        ·exact hes y (mP h1)
       ·simp only[lM];rw[length_splice _ _ _ abu];simpa using hs
       ·intro j u hu;have hu:(splice cs.toList 0 (us.take (fO ys.length m*i.size)))[j]? = some u:=(by simpa using hu);rw[rF _ _ _ _ abu,if_neg (by omega)]at hu;split at hu
        ·rw[bT]at hu;split at hu
         ·exact WE.one _ u hu
         ·cases hu
        ·exact ho j u (by simpa using hu)
       ·intro i' j cc Ez;have key:∃u,(splice cs.toList 0 (us.take (fO ys.length m*i.size)))[i'*i.size+j]? = some u/\Rd I u cc:=by
         have hi':=lZ Ez;rw[hsl]at hi';rw[rF _ _ _ _ abu,if_neg (by omega),hul];have hget:(splice es 0 (ys.take m)).getD i' []=if i'<fO ys.length m then ys.getD i' []else es.getD i' []:=by
          simp only[bu];rw[rF _ _ _ _ (by rw[htl];omega),if_neg (by omega),htl];by_cases hh:i'<fO ys.length m
          ·rw[if_pos (by omega),if_pos hh,bT,if_pos (by omega)];rfl
          ·rw[if_neg (by omega),if_neg hh]
         rw[hget]at Ez;by_cases hh:i'<fO ys.length m
         ·rw[if_pos hh]at Ez;obtain⟨u,hu,hr⟩:=WE.rd i' j cc Ez;have hj:j<i.size:=by
           have hyi:=lZ Ez;rw[<- hys (ys.getD i' []) (by simp[bu,aB hyi])];exact(bn.1 Ez).1
          have:(i'+1)*i.size<=fO ys.length m*i.size:=bD _ hh;rw[dQ]at this;exact⟨u,by rw[if_pos (by omega),bT,if_pos (by omega)];simpa using hu,hr⟩
         ·rw[if_neg hh]at Ez;obtain⟨u,hu,hr⟩:=hrd i' j cc Ez;have:fO ys.length m*i.size<=i'*i.size:=bD _ (by omega);exact⟨u,by rw[if_neg (by omega)];simpa using hu,hr⟩
        obtain⟨u,hu,hr⟩:=key;exact⟨u,by simpa using hu,hr⟩
    ·exact jK.elim
   ·rename_i sz' e1;rw[e1]at g1;have g1:a.eval d' = .slice none 0 0:=g1;have hgx:∃xb k xc,a.eval x' = .slice xb k xc:=by
     unfold xW at hsrc;split at hsrc
     ·rename_i e2;rw[e2]at g2;obtain⟨b,c,hv,_⟩:=aeF g2;exact⟨b,_,c,hv⟩
     ·rename_i e2;rw[e2]at g2;exact⟨none,0,0,g2⟩
     ·rename_i e2;rw[e2]at g2;obtain⟨k,cap,b,c,_,hv,_⟩:=g2;exact⟨b,_,c,hv⟩
     ·rename_i e2;rw[e2]at g2;obtain⟨k,cap,b,c,_,hv,_⟩:=g2;exact⟨b,_,c,hv⟩
     ·cases hsrc
    obtain⟨xb,k,xc,hxv⟩:=hgx;have hr:=Gn (P:=P) (w:=w) t t' o.type e i hte hi none 0 0 xb k xc (Nat.min_zero k);rw[<- hxv,<- g1]at hr;exact⟨_,w,I,ρ,.inl (fin hr),h,λ_=>Aw _ _⟩
   ·exact jK.elim
  ·exact jK.elim
 ·cases hc
end
end
section
section
variable {P:Program} {E:Env P} {I:IH} {ρ:Ren} {n:Nat} {st:iy} {a:Act} {w:World}
theorem IW {v:Value}{x:AV}{b lo m sz:Nat}{c:Option Nat}(h:GV I ρ v x)(hs:DK x=some (b,lo,m,c,sz)) :
 ∃k cap ad c',ρ b=some (k,cap)/\v = .slice ad m c'/\m<=c'/\lo+c'<=cap/\(∀c0,c=some c0->c'=c0)/\(c'≠0\/(lo=0/\cap≠0)->ad=some ⟨k,lo*sz,none⟩):=by
 unfold DK at hs;split at hs
 ·simp only[aJ,aI]at hs;obtain⟨rfl,rfl,rfl,rfl,rfl⟩:=hs;obtain⟨k,cap,ad,c',h1,h2,h3,h4,h5⟩:=h;refine⟨k,cap,ad,c',h1,h2,h3,by omega,(λ_ e=>by cases e),λhc=>?_⟩;rw[Nat.zero_mul];refine h5 ?_;rcases hc with hc|hc
  ·omega
  ·exact hc.2
 ·simp only[aJ,aI]at hs;obtain⟨rfl,rfl,rfl,rfl,rfl⟩:=hs;exact h
 ·cases hs
def Xj (n:Nat)(op:Op)(l:Bool)(x y:oW):Bool:=match op with|.binOp b _ x' y' _=>(match b with|.shl=>l|.shr=> !l|_=>false)&&kU n x' x&&kU n y' y|_=>false
theorem acC {o:Oper}{l:Bool}{x y:oW}(h:GX E I ρ n st a w)(hc:Xj n o.op l x y=true)(hx:(x.ev st.tm).g=true)(hy:(y.ev st.tm).g=true)
 (jK:(Ux l (eu st.tm x) (eu st.tm y)).vc):o7 P E n o a w st (Ux l (eu st.tm x) (eu st.tm y)).v:=by
 unfold Xj at hc;split at hc
 ·rename_i b t x' y' t' he;simp only[ah]at hc;obtain⟨⟨hb,h1⟩,h2⟩:=hc;have g1:=og h h1 hx;have g2:=og h h2 hy;unfold Ux at jK⊢;split at jK
  ·rename_i k p k' q e1 e2;rw[e1]at g1;rw[e2]at g2;have v1:=xw g1;have v2:=xw g2;have hq:¬q<0:=(by simp only at jK;omega);have hg:=Ir (P:=P) b t x' y' k p (.int k' q) w;cases b<;>simp only[Bool.false_eq_true]at hb
   ·subst hb;exact o7.val h (v:=.int k (k.wrap (p*2^(min q.toNat k.bits)))) (by simp[execOp,he,hg,v1,v2,binOp,Op.shift,hq]) (Aw _ _)
   ·cases l
    ·exact o7.val h (v:=.int k (p.fdiv (2^(min q.toNat k.bits)))) (by simp[execOp,he,hg,v1,v2,binOp,Op.shift,hq]) (Aw _ _)
    ·cases hb
  ·exact jK.elim
 ·cases hc
def Tf (P:Program)(n:Nat)(op:Op)(x:oW):Bool:=
 match op with
 |.call { callee:=.builtin .cap,args:=⟨[x']⟩,argTypes:=⟨[t]⟩ }=>kU n x' x&&L6 P t
 |_=>false
theorem Zb {o:Oper}{x:oW}(h:GX E I ρ n st a w)(hc:Tf P n o.op x=true)(hx:(x.ev st.tm).g=true)(jK:(Q7 (eu st.tm x)).vc):o7 P E n o a w st (Q7 (eu st.tm x)).v:=by
 unfold Tf at hc;split at hc
 ·rename_i x' t he;simp only[ah]at hc;have g:=og h hc.1 hx;obtain⟨e,ht⟩:=JW hc.2;unfold Q7 at jK⊢;split at jK
  ·rename_i b lo m c sz e1;rw[e1]at g;obtain⟨k,cap,ad,c',hr,hv,hm,hcc,hcx,ha⟩:=g;have:=hcx c rfl;subst this;exact o7.val h (by simp[execOp,he,resolve,invoke,builtin,Builtin.cap_,run_underlying ht,hv,goInt]) (Aw _ _)
  ·rename_i sz e1;rw[e1]at g;have g:a.eval x' = .slice none 0 0:=g;exact o7.val h (by simp[execOp,he,resolve,invoke,builtin,Builtin.cap_,run_underlying ht,g,goInt]) (Aw _ _)
  ·exact jK.elim
 ·cases hc
def NC (P:Program)(n:Nat)(op:Op)(sz:Nat)(x:oW)(lo hi:Option oW):Bool:=match op with|.slice t x' lo' hi' none=>kU n x' x&&Nw n lo' lo&&Nw n hi' hi&&Ku P t sz|_=>false
theorem V9 {o:Oper}{sz:Nat}{x:oW}{lo hi:Option oW}(h:GX E I ρ n st a w)(hc:NC P n o.op sz x lo hi=true)(hx:(x.ev st.tm).g=true)
 (hgl:∀x,x∈lo.toList->(x.ev st.tm).g=true) (hgh:∀x,x∈hi.toList->(x.ev st.tm).g=true)
 (jK:(yU sz (eu st.tm x) (bnd (eu st.tm) lo 0) (bnd (eu st.tm) hi)).vc):o7 P E n o a w st (yU sz (eu st.tm x) (bnd (eu st.tm) lo 0) (bnd (eu st.tm) hi)).v:=by
 unfold NC at hc;split at hc
 ·rename_i t x' lo' hi' he;simp only[ah]at hc;have g1:=og h hc.1.1.1 hx;obtain⟨e,ti,ht,hti,hsz⟩:=Dq hc.2;unfold yU at jK⊢;split at jK
  ·rename_i b l m c sz' hsb;split at jK
   ·rename_i p q e2 e3;obtain⟨rfl,h0,h1,h2⟩:=jK;obtain⟨k,cap,ad,c',hr,hv,hm,hcc,hcx,ha⟩:=IW g1 hsb;have hqc:q<=c':=by
     cases c with
     |none=>simp only at h2;omega
     |some c0=>have:=hcx c0 rfl;simp only at h2;omega
    have b1:=Gy h hc.1.1.2 hgl e2;have b2:=Gy h hc.1.2 hgh e3;have hb:=CW (P:=P) (w:=w) true m c' (lo'.map a.eval) (hi'.map a.eval) (p:=p) (q:=q) (Js b1) (Js b2) h0 h1 hqc;have hrun:(execOp a.eval o).run P w = .ok (.value (.slice (if c'=p.toNat then ad else ad.map (·.add (p.toNat*sz'))) (q.toNat-p.toNat) (c'-p.toNat))) w:=by simp only[execOp,he,xI,Be,hv,kX];simp[run_underlying ht];rw[hb];simp[sizeOf,typeInfo,hti,hsz]
    refine o7.val h hrun ⟨k,cap,_,_,hr,by congr 1;omega,by omega,by omega,λc0 hc0=>?_,λEz=>?_⟩
    ·cases c with
     |none=>cases hc0
     |some c1=>have:=hcx c1 rfl;simp at hc0;omega
    ·by_cases hcp:c'=p.toNat
     ·rw[if_pos hcp];have hl0:l=0/\p.toNat=0/\cap≠0:=(by omega);have:=ha (.inr ⟨hl0.1,hl0.2.2⟩);rw[this,hl0.1,hl0.2.1]
     ·rw[if_neg hcp,ha (.inl (by omega))];simp only[lU];rw[Addr.zf,dQ]
   ·exact jK.elim
  ·exact jK.elim
 ·cases hc
theorem V6 (len cap:Nat){k1 k2 k3:IntKind}{p q m:Int}(h0:0<=p)(h1:p<=q)(h2:q<=m)(h3:m<=cap) :
 (yh true len cap (some (.int k1 p)) (some (.int k2 q)) (some (.int k3 m))).run P w = .ok (p.toNat,q.toNat,m.toNat) w:=by
 simp (disch:=omega) [yh,run_sliceBound]
def Xk (P:Program)(n:Nat)(op:Op)(sz:Nat)(x p q m:oW):Bool:=match op with|.slice t x' (some p') (some q') (some m')=>kU n x' x&&kU n p' p&&kU n q' q&&kU n m' m&&Ku P t sz|_=>false
theorem acD {o:Oper}{sz:Nat}{x p q m:oW}(h:GX E I ρ n st a w)(hc:Xk P n o.op sz x p q m=true)(hx:(x.ev st.tm).g=true)(hp:(p.ev st.tm).g=true)(hq:(q.ev st.tm).g=true)(hm:(m.ev st.tm).g=true)
 (jK:(Jg sz (eu st.tm x) (eu st.tm p) (eu st.tm q) (eu st.tm m)).vc):o7 P E n o a w st (Jg sz (eu st.tm x) (eu st.tm p) (eu st.tm q) (eu st.tm m)).v:=by
 unfold Xk at hc;split at hc
 ·rename_i t x' p' q' m' he;simp only[ah]at hc;obtain⟨⟨⟨⟨c1,c2⟩,c3⟩,c4⟩,c5⟩:=hc;have g1:=og h c1 hx;have g2:=og h c2 hp;have g3:=og h c3 hq;have g4:=og h c4 hm;obtain⟨e,ti,ht,hti,hsz⟩:=Dq c5;unfold Jg at jK⊢;split at jK
  ·rename_i b l len c sz' k1 p0 k2 q0 k3 m0 hsb e2 e3 e4;obtain⟨rfl,h0,h1,h2,h3⟩:=jK;rw[e2]at g2;rw[e3]at g3;rw[e4]at g4;have v2:=xw g2;have v3:=xw g3;have v4:=xw g4;obtain⟨k,cap,ad,c',hr,hv,hlm,hcc,hcx,ha⟩:=IW g1 hsb;have hmc:m0<=c':=by
    cases c with
    |none=>simp only at h3;omega
    |some c0=>have:=hcx c0 rfl;simp only at h3;omega
   have hb:=V6 (P:=P) (w:=w) len c' (k1:=k1) (k2:=k2) (k3:=k3) h0 h1 h2 hmc;refine o7.val h (v:=.slice (if m0.toNat=p0.toNat then ad else ad.map (·.add (p0.toNat*sz'))) (q0.toNat-p0.toNat) (m0.toNat-p0.toNat)) ?_ rfl;simp only[execOp,he,xI,Be,hv,lU,v2,v3,v4];simp[run_underlying ht];rw[hb];simp[sizeOf,typeInfo,hti,hsz]
  ·exact jK.elim
 ·cases hc
theorem NI {α:Type}(xs ys:List α)(off j:Nat)(h:off<=xs.length):(splice xs off ys)[j]? = if j<off then xs[j]? else if j<off+ys.length then ys[j-off]? else xs[j]?:=by
 unfold splice;have h1:(xs.take off).length=off:=by simp;omega
 by_cases hj:j<off
 ·rw[if_pos hj,dh,dU (by omega),bT,if_pos hj]
 ·rw[if_neg hj,dh,fF (by omega),h1];by_cases hk:j<off+ys.length
  ·rw[if_pos hk,dU (by omega)]
  ·rw[if_neg hk,fF (by omega),ja]
   congr 1;omega
theorem Uo (h:GX E I ρ n st a w){b kk cap sz lo:Nat}{es ys:List (List Cell)}{us:List Value}(hb:st.bx b = .dat sz es)(hr:ρ b=some (kk,cap))(h0:0<sz)(hlo:lo<=es.length)(hfit:lo+ys.length<=cap)
 (hc0:cap≠0) (hys:∀y,y∈ys->y.length=sz) (hul:us.length=ys.length*sz) (hd:DC I us sz ys) :
 ∃cs tg,w.heap[kk]? = some (.cells cs tg (0,0))/\cs.size=cap*sz/\GX E I ρ n (st.xU b (.dat sz (splice es lo ys))) a (w.setRow kk (splice cs.toList (lo*sz) us).toArray):=by
 have hok:=h.bx.ok b;rw[hb]at hok;obtain⟨kk',cap',hr',hle,hcm,hes,hcs⟩:=hok;rw[hr]at hr';simp only[aJ,aI]at hr';obtain⟨rfl,rfl⟩:=hr';obtain⟨cs,tg,hw,hs,ho,hrd⟩:=hcs hc0;refine⟨cs,tg,hw,hs,?_⟩;have hmul:(lo+ys.length)*sz<=cap*sz:=bD _ hfit;rw[dQ]at hmul;have abv:lo*sz+us.length<=cs.toList.length:=by have hq:cs.toList.length=cs.size:=uw;omega
 have hlen:(splice es lo ys).length<=cap:=by unfold splice;simp;omega
 refine h.xU (b:=b) (k:=kk) (by rw[hb];exact⟨cap,hr,hc0⟩) (.dat sz (splice es lo ys)) (λk' hk'=>?_) (H8 _ _ _) ?_ (by simp)
 ·obtain⟨c',hc',_⟩:=hk';rw[hr]at hc';simp at hc';exact hc'.1.symm
 ·refine⟨kk,cap,hr,hlen,hcm,λy hy=>?_,λ_=>⟨_,tg,setRow_heap w kk cs _ tg _ hw,?_,?_,?_⟩⟩
  ·unfold splice at hy;simp only[aW]at hy;rcases hy with(h1|h1)|h1
   ·exact hes y (fJ h1)
   ·exact hys y h1
   ·exact hes y (mP h1)
  ·simp only[lM];rw[length_splice _ _ _ abv];simpa using hs
  ·intro j u hu;have hu:(splice cs.toList (lo*sz) us)[j]? = some u:=(by simpa using hu);rw[rF _ _ _ _ abv]at hu;split at hu
   ·exact ho j u (by simpa using hu)
   ·split at hu
    ·exact hd.one _ u hu
    ·exact ho j u (by simpa using hu)
  ·intro i' j cc Ez;have key:∃u,(splice cs.toList (lo*sz) us)[i'*sz+j]? = some u/\Rd I u cc:=by
    have hget:(splice es lo ys).getD i' []=if i'<lo then es.getD i' []else if i'<lo+ys.length then ys.getD (i'-lo) []else es.getD i' []:=by
     simp only[bu];rw[NI _ _ _ _ hlo];split
     ·rfl
     ·split<;>rfl
    rw[hget]at Ez;rw[rF _ _ _ _ abv];by_cases h1:i'<lo
    ·rw[if_pos h1]at Ez;obtain⟨u,hu,hr'⟩:=hrd i' j cc Ez;have hi':=lZ Ez;have hj:j<sz:=(by rw[<- hes (es.getD i' []) (by simp[bu,aB hi'])];exact(bn.1 Ez).1);have:(i'+1)*sz<=lo*sz:=bD _ h1;rw[dQ]at this;exact⟨u,by rw[if_pos (by omega)];simpa using hu,hr'⟩
    ·rw[if_neg h1]at Ez;by_cases h2:i'<lo+ys.length
     ·rw[if_pos h2]at Ez;obtain⟨u,hu,hr'⟩:=hd.rd (i'-lo) j cc Ez;have hyi:=lZ Ez;have hj:j<sz:=(by rw[<- hys (ys.getD (i'-lo) []) (by simp[bu,aB hyi])];exact(bn.1 Ez).1);have e1:lo*sz<=i'*sz:=bD _ (by omega);have e2:(i'-lo)*sz=i'*sz-lo*sz:=Nat.sub_mul _ _ _;have e3:(i'-lo+1)*sz<=ys.length*sz:=bD _ (by omega);rw[dQ]at e3;exact⟨u,by rw[if_neg (by omega),if_pos (by omega),<- hu];congr 1;omega,hr'⟩
     ·rw[if_neg h2]at Ez;obtain⟨u,hu,hr'⟩:=hrd i' j cc Ez;have e1:(lo+ys.length)*sz<=i'*sz:=bD _ (by omega);rw[dQ]at e1;exact⟨u,by rw[if_neg (by omega),if_neg (by omega)];simpa using hu,hr'⟩
   obtain⟨u,hu,hr'⟩:=key;exact⟨u,by simpa using hu,hr'⟩
theorem Jh {α:Type}(xs:List α)(k:Nat)(h:k<=xs.length):splice xs k []=xs:=by simp[splice]
theorem aab (t t' ty e:TypeId)(i:TypeInfo)(ht:P.underlying t=some (.slice e))(hi:P.info? e=some i)(kk off m c:Nat)(cur:Array Value)(tg:TypeId)(hg:w.heap[kk]? = some (.cells cur tg (0,0)))
 (ad:Addr) (k c':Nat) (us:List Value) (hl:us.length=fO k m*i.size) (hus:∀j u,us[j]? = some u->w.cell? (ad.add j)=some u) (h1:∀u∈us,u.oneCell'=true) (hfit:off+us.length<=cur.size) :
 (rO #[t,t'] ty #[.slice (some ⟨kk,off,none⟩) m c,.slice (some ad) k c']).run P w = .ok (goInt (fO k m:Nat)) (w.setRow kk (splice cur.toList off us).toArray):=by
 have hf:=run_firstCells_some (P:=P) w i.size (fO k m) ad k c' us hl hus;have hst:=run_storeCells_at P kk off tg us 0 cur w hg (by simpa using hfit) h1;rw[zX]at hst;simp[rO,run_underlying ht,sizeOf,typeInfo,hi,uh,hf,hst]
theorem aan (h:GX E I ρ n st a w){v:Value}{x:AV}{sz m:Nat}{p:Prop}{ys:List (List Cell)}(hv:GV I ρ v x)(hs:xW sz (truncS m x) st.bx=some (p,ys))(hp:p) :
 ∃xb kx xc,v = .slice xb kx xc/\fO ys.length m=fO kx m/\Src I w (.slice xb ys.length xc) sz ys:=by
 have other:truncS m x=x->∃xb kx xc,v = .slice xb kx xc/\fO ys.length m=fO kx m/\Src I w (.slice xb ys.length xc) sz ys:=by intro e;rw[e]at hs;have hS:=src_ok h hv hs hp;obtain⟨b,cap,hvv,hr⟩:=hS;exact⟨b,ys.length,cap,hvv,rfl,b,cap,rfl,hr⟩
 rcases x with c|_|_
 ·cases c
  case sub b lo n' c sz'=>obtain⟨k,cap,ad,c',h1,h2,h3,h4,h5⟩:=hv;subst h2;have hg:GV I ρ (.slice ad (min n' m) c') (.one (.sub b lo (min n' m) c sz')):=⟨k,cap,ad,c',h1,rfl,by omega,h4,h5⟩;have hS:=src_ok h hg hs hp;obtain⟨b',cap',hvv,hr⟩:=hS;simp only[Value.slice.injEq]at hvv;obtain⟨rfl,e2,rfl⟩:=hvv;refine⟨ad,n',c',rfl,?_,ad,c',rfl,hr⟩;show min ys.length m=min n' m;omega
  all_goals exact other rfl
 all_goals exact other rfl
theorem aaf {o:Oper}{sz:Nat}{d x:oW}(h:GX E I ρ n st a w)(hc:Jt P n o.op sz d x=true)(hd:(d.ev st.tm).g=true)(hx:(x.ev st.tm).g=true)
 (jK:(EX sz (eu st.tm d) (eu st.tm x) st.bx).vc):o7 P E n o a w (st.sS (EX sz (eu st.tm d) (eu st.tm x) st.bx).sets) (EX sz (eu st.tm d) (eu st.tm x) st.bx).v:=by
 unfold Jt at hc;split at hc
 ·rename_i d' x' t t' he;simp only[ah,decide_eq_true_eq]at hc;obtain⟨⟨⟨c1,c2⟩,ht⟩,h0⟩:=hc;have g1:=og h c1 hd;have g2:=og h c2 hx;obtain⟨e,i,hte,hi,rfl⟩:=Dq ht;have fin:∀{v:Value} {w':World},(rO #[t,t'] o.type #[a.eval d',a.eval x']).run P w = .ok v w'->(execOp a.eval o).run P w = .ok (.value v) w':=by
   intro v w' hr;simp only[execOp,he,resolve,invoke,builtin,gG,fM,dD,nS,bJ,kM,hr]
  unfold EX at jK⊢;split at jK
  ·rename_i b lo m c0 sz' hsb;split at jK
   ·rename_i p ys hsrc;split at jK
    ·rename_i Bo es hb;obtain⟨hp,rfl,rfl,hlo⟩:=jK;obtain⟨xb0,kx,xc0,agj,hmk,hsrc'⟩:=aan h g2 hsrc hp;have hys:∀y,y∈ys->y.length=i.size:=(by obtain⟨_,_,_,_,h4,_⟩:=hsrc';exact h4);obtain⟨xb,xc,us,hxv,IA,hus,hxn,WE⟩:=Jj hsrc' h0;cases hxv;obtain⟨kk,cap,ad0,c,hr0,hsv,hnc,hcc,_,hcap⟩:=IW g1 hsb;by_cases hm0:fO ys.length m=0
     ·have hr:=Gn (P:=P) (w:=w) t t' o.type e i hte hi ad0 m c xb0 kx xc0 (hmk.symm.trans hm0);rw[<- agj,<- hsv]at hr;have htk:ys.take m=[]:=by
       apply di;rw[dZ,Cc];exact hm0
      rw[htk,Jh _ _ hlo];refine⟨_,w,I,ρ,.inl (fin hr),?_,λ_=>by rw[hm0];exact Aw _ _⟩;show GX E I ρ n (st.xU b (.dat i.size es)) a w;rw[JF hb];exact h
     ·have hmin:fO ys.length m<=ys.length/\fO ys.length m<=m:=⟨Nat.min_le_left _ _,Nat.min_le_right _ _⟩;have Kv:=hcap (.inl (by omega));subst Kv;obtain⟨ad,had⟩:∃ad,xb0=some ad:=by
       cases hq:xb0 with
       |none=>have:=hxn hq;subst this;exact absurd rfl hm0
       |some ad=>exact⟨ad,rfl⟩
      subst had;have htl:(ys.take m).length=fO ys.length m:=(by rw[dZ,Cc]);have hmul:fO ys.length m*i.size<=ys.length*i.size:=bD _ hmin.1;have hul:(us.take (fO ys.length m*i.size)).length=fO ys.length m*i.size:=(by simp;omega);have hdt:DC I (us.take (fO ys.length m*i.size)) i.size (ys.take m):=by
       refine⟨λj u hu=>?_,λi' j cc Ez=>?_⟩
       ·rw[bT]at hu;split at hu
        ·exact WE.one _ u hu
        ·cases hu
       ·have hi':=lZ Ez;rw[htl]at hi';have afj:(ys.getD i' [])[j]? = some cc:=by
         rw[<- Ez];congr 1;simp only[bu];rw[bT,if_pos (by omega)]
        obtain⟨u,hu,hr⟩:=WE.rd i' j cc afj;have hyi:=lZ afj;have hj:j<i.size:=(by rw[<- hys (ys.getD i' []) (by simp[bu,aB hyi])];exact(bn.1 afj).1);have:(i'+1)*i.size<=fO ys.length m*i.size:=bD _ hi';rw[dQ]at this;exact⟨u,by rw[bT,if_pos (by omega)];exact hu,hr⟩
      obtain⟨cs,tg,hw,hs,hg⟩:=Uo h hb hr0 h0 hlo (ys:=ys.take m) (us:=us.take (fO ys.length m*i.size)) (by rw[htl];omega) (by omega) (λy hy=>hys y (fJ hy)) (by rw[hul,htl]) hdt;have LP:(lo+fO ys.length m)*i.size<=cap*i.size:=bD _ (by omega);rw[dQ]at LP;have hr:=aab (P:=P) (w:=w) t t' o.type e i hte hi kk (lo*i.size) m c cs tg hw ad kx xc0 (us.take (fO ys.length m*i.size)) (hmk▸hul)
       (λj u hu=>by
        rw[bT]at hu;split at hu
        ·exact hus ad rfl j u hu
        ·cases hu)
       (λu hu=>by obtain⟨j,hj⟩:=ug (fJ hu);exact WE.one j u hj) (by rw[hul,hs];exact LP)
      rw[<- agj,<- hsv]at hr;exact⟨_,_,I,ρ,.inl (fin hr),hg,λ_=>by rw[<- hmk];exact Aw _ _⟩
    ·exact jK.elim
   ·exact jK.elim
  ·exact jK.elim
 ·cases hc
def TD (P:Program)(n:Nat)(op:Op)(sz:Nat)(zs:List Cell)(x:oW):Bool:=
 match op with
 | .call { callee:=.builtin .clear,args:=⟨[x']⟩,argTypes:=⟨[t]⟩ }=>kU n x' x&&decide (0<sz)&&zs.length==sz&&(match P.underlying t with
   |some (.slice e)=>(match P.info? e with|some i=>i.size==sz&&(match i.zero with|some z=>z.cells.size==sz&&Ih z.cells.toList zs|none=>false)|none=>false)
   |_=>false)
 |_=>false
theorem Oi {zs:List Cell}{z:Array Value}{sz m:Nat}(hz:Ih z.toList zs=true)(hzs:z.size=sz)(hl:zs.length=sz)(h0:0<sz) :
 (bH z m).toList.length=m*sz/\DC I (bH z m).toList sz (bU m zs):=by
 have hsz:(bH z m).size=m*sz:=by simp[bH,hzs]
 refine⟨by simpa using hsz,?_⟩;have rc:=NZ (I:=I) (N:=m*sz) (m:=m) hz hl h0 (au _) (cs:=(Dk (m*sz)).map (z[· % z.size]!)) rfl;have he:(bH z m)=(Dk (m*sz)).map (z[· % z.size]!):=by unfold bH;rw[hzs]
 rw[he];exact⟨λj u hu=>rc.1 j u (by rw[uV]at hu;exact hu),λi' j c hc=>by obtain⟨u,hu,hr⟩:=rc.2 i' j c hc;exact⟨u,by rw[uV];exact hu,hr⟩⟩
theorem aae {o:Oper}{sz:Nat}{zs:List Cell}{x:oW}(h:GX E I ρ n st a w)(hc:TD P n o.op sz zs x=true)(hx:(x.ev st.tm).g=true)
 (jK:(EW sz zs (eu st.tm x) st.bx).vc):o7 P E n o a w (st.sS (EW sz zs (eu st.tm x) st.bx).sets) (EW sz zs (eu st.tm x) st.bx).v:=by
 unfold TD at hc;split at hc
 ·rename_i x' t he;simp only[ah,decide_eq_true_eq,beq_iff_eq]at hc;obtain⟨⟨⟨c1,h0⟩,hzl⟩,ht⟩:=hc;have g1:=og h c1 hx;split at ht
  ·rename_i e hte;split at ht
   ·rename_i i hi;simp only[ah,beq_iff_eq]at ht;obtain⟨hisz,hz⟩:=ht;split at hz
    ·rename_i z hzero;simp only[ah,beq_iff_eq]at hz;obtain⟨hzs,hzd⟩:=hz;have fin:∀{v:Value} {w':World},(CO #[t] o.type #[a.eval x']).run P w = .ok v w'->(execOp a.eval o).run P w = .ok (.value v) w':=by
      intro v w' hr;simp only[execOp,he,resolve,invoke,builtin,gG,fM,dD,nS,bJ,kM,hr]
     unfold EW at jK⊢;split at jK
     ·rename_i b lo m c0 sz' hsb;split at jK
      ·rename_i Bo es hb;obtain⟨rfl,rfl,hlo⟩:=jK;obtain⟨kk,cap,ad0,c,hr0,hsv,hnc,hcc,_,hcap⟩:=IW g1 hsb;have agi:∀{ρ':Ren},GV I ρ' (.tuple #[]) (.wu []):=λ{ρ'}=>⟨#[],rfl,rfl,λj v p hv hp=>by simp at hp⟩;by_cases hm0:m=0
       ·subst hm0;rw[List.replicate_zero,Jh _ _ hlo];refine⟨.tuple #[],w,I,ρ,.inl (fin ?_),?_,λ_=>agi⟩
        ·rw[hsv];cases ad0<;>simp[CO,run_underlying hte]
        ·show GX E I ρ n (st.xU b (.dat Bo es)) a w;rw[JF hb];exact h
       ·have Kv:=hcap (.inl (by omega));subst Kv;obtain⟨afo,ad1⟩:=Oi (I:=I) (m:=m) hzd hzs hzl h0;obtain⟨cs,tg,hw,hs,hg⟩:=Uo h hb hr0 h0 hlo (ys:=bU m zs) (us:=(bH z.cells m).toList) (by simp;omega) (by omega) (λy hy=>by rw[uk hy,hzl]) (by simpa using afo) ad1;have LP:(lo+m)*Bo<=cap*Bo:=bD _ (by omega);rw[dQ]at LP;have hst:=run_storeCells_at P kk (lo*Bo) tg (bH z.cells m).toList 0 cs w hw (by rw[afo];simpa[hs]using LP) (λu hu=>by obtain⟨j,hj⟩:=ug hu;exact ad1.one j u hj);rw[zX]at hst;obtain⟨m',rfl⟩:∃m',m=m'+1:=⟨m-1,by omega⟩;refine⟨.tuple #[],_,I,ρ,.inl (fin ?_),hg,λ_=>agi⟩;rw[hsv];simp[CO,run_underlying hte,zeroValue,typeInfo,hi,hzero,hst]
      ·exact jK.elim
     ·exact jK.elim
    ·cases hz
   ·cases ht
  ·cases ht
 ·cases hc
theorem Rk (t ty e tg:TypeId)(i:TypeInfo)(ht:P.underlying t=some (.slice e))(hi:P.info? e=some i)
 (g off sLen sCap:Nat) (cur:Array Value) (hg:w.heap[g]? = some (.cells cur tg (0,0)))
 (ad:Addr) (m c:Nat) (news:List Value) (hl:news.length=m*i.size) (hnews:∀j u,news[j]? = some u->w.cell? (ad.add j)=some u) (h1:∀u∈news,u.oneCell'=true)
 (hroom:sLen+m<=sCap) (hfit:off+sLen*i.size+news.length<=cur.size) :
 (jB #[t,t] ty #[.slice (some ⟨g,off,none⟩) sLen sCap,.slice (some ad) m c]).run P w =
  .ok (.slice (some ⟨g,off,none⟩) (sLen+m) sCap) (w.setRow g (splice cur.toList (off+sLen*i.size) news).toArray):=by
 have hf:=run_firstCells_some (P:=P) w i.size m ad m c news hl hnews;have hst:=run_storeCells_at P g (off+sLen*i.size) tg news 0 cur w hg (by simpa using hfit) h1;rw[zX]at hst;simp[jB,run_underlying ht,sizeOf,typeInfo,hi,uh,hroom,hf,Addr.zf,hst]
theorem aad {o:Oper}{l sz bytes:Nat}{s x:oW}(h:GX E I ρ n st a w)(hc:Fh P n o.op sz bytes s x=true)(hm:E.m<=l)(hs:(s.ev st.tm).g=true)(hx:(x.ev st.tm).g=true)
 (jK:(EU l sz bytes (eu st.tm s) (eu st.tm x) st.bx).vc):o7 P E n o a w (st.sS (EU l sz bytes (eu st.tm s) (eu st.tm x) st.bx).sets) (EU l sz bytes (eu st.tm s) (eu st.tm x) st.bx).v:=by
 unfold Fh at hc;split at hc
 ·rename_i s' x' t t' he;simp only[ah,beq_iff_eq,decide_eq_true_eq]at hc;obtain⟨⟨⟨⟨c1,c2⟩,rfl⟩,h0⟩,ht⟩:=hc;have g1:=og h c1 hs;have g2:=og h c2 hx;split at ht
  ·rename_i e hte;split at ht
   ·rename_i i hi;simp only[ah,beq_iff_eq]at ht;obtain⟨⟨rfl,rfl⟩,hz⟩:=ht;split at hz
    ·rename_i z hzero;simp only[ah,beq_iff_eq]at hz;obtain⟨hzs,hz1⟩:=hz;have fin:∀{v:Value} {w':World},(jB #[t,t] o.type #[a.eval s',a.eval x']).run P w = .ok v w'->(execOp a.eval o).run P w = .ok (.value v) w':=by
      intro v w' hr;simp only[execOp,he,resolve,invoke,builtin,gG,fM,dD,nS,bJ,kM,hr]
     unfold EU at jK⊢;split at jK
     ·rename_i p ys b lo m c sz' hsrc e1;split at jK
      ·rename_i Bo es hb;obtain⟨kk,cap,ad0,c',hr0,hsv,hnc,hcc,hcx,hcap⟩:=IW (c:=some c) (b:=b) (lo:=lo) (m:=m) (sz:=sz') g1 (by rw[e1];rfl);have:=hcx c rfl;subst this;split at jK
       ·rename_i hroom;rw[if_pos hroom];obtain⟨hp,rfl,rfl,hlo⟩:=jK;have hsrc':=src_ok h g2 hsrc hp;have hys:∀y,y∈ys->y.length=i.size:=(by obtain⟨_,_,_,_,h4,_⟩:=hsrc';exact h4);obtain⟨xb,xc,us,hxv,IA,hus,hxn,WE⟩:=Jj hsrc' h0;by_cases hm0:ys.length=0
        ·have hy0:ys=[]:=di hm0;subst hy0;rw[Jh _ _ hlo];have hr:=EL (P:=P) (w:=w) t o.type e i hte hi ad0 m c' hnc xb xc;rw[gI]at hxv;rw[<- hxv,<- hsv]at hr;refine⟨_,w,I,ρ,.inl (fin hr),?_,λ_=>⟨kk,cap,ad0,c',hr0,hsv,by simpa using hnc,hcc,(λc0 hc0=>by cases hc0;rfl),hcap⟩⟩;show GX E I ρ n (st.xU b (.dat i.size es)) a w;rw[JF hb];exact h
        ·have Kv:=hcap (.inl (by omega));subst Kv;obtain⟨ad,had⟩:∃ad,xb=some ad:=by
          cases hq:xb with
          |none=>exact absurd (by rw[hxn hq];rfl) hm0
          |some ad=>exact⟨ad,rfl⟩
         subst had;obtain⟨cs,tg,hw,hss,hg⟩:=Uo h hb hr0 h0 hlo (ys:=ys) (us:=us) (by omega) (by omega) hys IA WE;have LP:(lo+m+ys.length)*i.size<=cap*i.size:=bD _ (by omega);simp only[dQ]at LP;have hr:=Rk (P:=P) (w:=w) t o.type e tg i hte hi kk (lo*i.size) m c' cs hw ad ys.length xc us IA (hus ad rfl) (λu hu=>by obtain⟨j,hj⟩:=ug hu;exact WE.one j u hj) hroom (by rw[IA,hss];exact LP);rw[<- hxv,<- hsv,<- dQ]at hr;exact⟨_,_,I,ρ,.inl (fin hr),hg,λ_=>⟨kk,cap,_,c',hr0,rfl,hroom,hcc,(λc0 hc0=>by cases hc0;rfl),λ_=>rfl⟩⟩
       ·rename_i hroom;rw[if_neg hroom];obtain⟨hp,rfl,rfl,hlo,hl,hbig⟩:=jK;have hsrc':=src_ok h g2 hsrc hp;have hys:∀y,y∈ys->y.length=i.size:=(by obtain⟨_,_,_,_,h4,_⟩:=hsrc';exact h4);obtain⟨xb,xc,us,hxv,IA,hus,hxn,WE⟩:=Jj hsrc' h0;have hok:=h.bx.ok b;rw[hb]at hok;obtain⟨kk',cap',hr',hle,hcm,hes,hcs⟩:=hok;rw[hr0]at hr';simp only[aJ,aI]at hr';obtain⟨rfl,rfl⟩:=hr';have hmul:(m+ys.length)*(i.bytes+i.size+1)=(m+ys.length)*i.bytes+(m+ys.length)*i.size+(m+ys.length):=(by rw[yE,yE,vw]);have hbytes:(m+ys.length)*i.bytes<=140737488355328:=(by omega);have h63:m+ys.length<=maxLen:=(by simp only[maxLen];omega);have hm0:ys.length≠0:=(by omega);obtain⟨ad,had⟩:∃ad,xb=some ad:=by
         cases hq:xb with
         |none=>exact absurd (by rw[hxn hq];rfl) hm0
         |some ad=>exact⟨ad,rfl⟩
        subst had;have hzc:∀(q:Nat) (j:Nat) (u:Value),(bH z.cells q).toList[j]? = some u->u.oneCell'=true:=by
         intro q j u hu;simp only[bH,uV,wG]at hu;by_cases hj:j<q*z.cells.size
         ·rw[ry,if_pos hj]at hu;simp only[lU,aJ]at hu;have hlt:j%z.cells.size<z.cells.size:=xN _ (by omega);rw[getElem!_pos z.cells _ hlt]at hu;rw[<- hu];exact bg.1 hz1 _ (by simp)
         ·rw[ry,if_neg hj]at hu;cases hu
        have hl':=Gv hl;have hsub:∀y,y∈(es.drop lo).take m->y.length=i.size:=λy hy=>hes y (mP (fJ hy));have hsl:((es.drop lo).take m).length=m:=(by simp;omega);have fresh:∀(old:Nat) (olds:List Value),old<m+ys.length->olds.length=m*i.size->DC I olds i.size ((es.drop lo).take m) ->
         GX E I (ρ.set l w.heap.size (grownCap w (m+ys.length) old e)) n (st.xU l (.dat i.size ((es.drop lo).take m++ys))) a
          (w.drew.alloc (.cells (olds.toArray++us.toArray++bH z.cells (grownCap w (m+ys.length) old e-(m+ys.length))) e)):=by
         intro old olds ho hol hdo;have hge:=grownCap_ge w (m+ys.length) old e;have hcm:grownCap w (m+ys.length) old e<=maxLen:=grownCap_le_maxLen w _ old e h63;have hdc:=((hdo.append WE (by rw[hsl];exact hol)).more (hzc (grownCap w (m+ys.length) old e-(m+ys.length)))).YG (cs:=olds.toArray++us.toArray++bH z.cells (grownCap w (m+ys.length) old e-(m+ys.length))) (by simp);refine JA h.drew hl' hm _ e _ i.size ((es.drop lo).take m++ys) ?_ (by rw[ay,hsl];exact hge) hcm (λx hx=>?_) hdc.1 hdc.2
         ·simp only[zo,lM,size_zeroCells,hzs,hol,IA,<- dQ]
          congr 1
          omega
         ·rcases aW.1 hx with h1|h1
          ·exact hsub x h1
          ·exact hys x h1
        have hfit:=growslice_fits (need:=m+ys.length) (old:=c') (bytes:=i.bytes) (by omega) hbytes;by_cases hc0:c'=0
        ·
         have afm:m=0:=(by omega);subst afm;subst hc0;have hf:=fresh 0 [] (by omega) (by simp) ⟨by simp,by simp⟩;simp only[kD,sF]at hf h63 hbytes hfit;cases ad0 with
         | none=>have hr:=run_append_nil (P:=P) w t o.type e i z hte hi hzero ad ys.length xc us IA (hus ad rfl) (by omega) (by simp only[maxLen]at h63;omega) (by omega);rw[<- hxv,<- hsv]at hr;refine⟨_,_,I,_,.inl (fin hr),hf,λ_=>⟨w.heap.size,_,_,_,Ren.ou _ _ _ _,by rw[kD],by rw[kD];exact grownCap_ge w ys.length 0 e,au _,λ_=>rfl⟩⟩
         | some q=>have hr:=run_append_grow (P:=P) w t o.type e i z hte hi hzero q 0 0 [] (by simp) (by simp) ad ys.length xc us IA (hus ad rfl) (by omega) (by simp only[maxLen]at h63;omega) (by simpa using hfit);rw[<- hxv,<- hsv]at hr;simp only[kD,sF]at hr;refine⟨_,_,I,_,.inl (fin hr),hf,λ_=>⟨w.heap.size,_,_,_,Ren.ou _ _ _ _,by rw[kD],by rw[kD];exact grownCap_ge w ys.length 0 e,au _,λ_=>rfl⟩⟩
        ·have Kv:=hcap (.inl hc0);subst Kv;have hcap0:cap≠0:=(by omega);obtain⟨cs,tg,hw,hss,ho,hrd⟩:=hcs hcap0;have hmn:(lo+m)*i.size<=cs.size:=(by rw[hss];exact bD _ (by omega));rw[dQ]at hmn;have VD:((cs.toList.drop (lo*i.size)).take (m*i.size)).length=m*i.size:=(by simp;omega);have holds:∀(j:Nat) (u:Value),((cs.toList.drop (lo*i.size)).take (m*i.size))[j]? = some u->w.cell? ((⟨kk,lo*i.size,none⟩:Addr).add j)=some u:=λj u hu=>by
          rw[bT]at hu;split at hu
          ·rw[Addr.zf];rw[ja]at hu;simp at hu;simp[oQ,hw,hu]
          ·cases hu
         have hd1:DC I ((cs.toList.drop (lo*i.size)).take (m*i.size)) i.size ((es.drop lo).take m):=by
          refine⟨λj u hu=>?_,λi' j c2 hc2=>?_⟩
          ·rw[bT]at hu;split at hu
           ·rw[ja]at hu;exact ho _ u (by simpa using hu)
           ·cases hu
          ·have hi':=lZ hc2;rw[hsl]at hi';have hc3:(es.getD (lo+i') [])[j]? = some c2:=by
            rw[<- hc2];congr 1;simp only[bu];rw[bT,if_pos hi',ja]
           obtain⟨u,hu,hr⟩:=hrd (lo+i') j c2 hc3;have hi2:=lZ hc3;have hj:j<i.size:=(by rw[<- hes (es.getD (lo+i') []) (by simp[bu,aB hi2])];exact(bn.1 hc3).1);have:(i'+1)*i.size<=m*i.size:=bD _ hi';rw[dQ]at this;refine⟨u,?_,hr⟩;rw[bT,if_pos (by omega),ja];rw[dQ]at hu;rw[<- sD];simpa using hu
         have hr:=run_append_grow (P:=P) w t o.type e i z hte hi hzero ⟨kk,lo*i.size,none⟩ m c' _ VD holds ad ys.length xc us IA (hus ad rfl) (by omega) (by simp only[maxLen]at h63;omega) hfit;rw[<- hxv,<- hsv]at hr;have hf:=fresh c' _ (by omega) VD hd1;exact⟨_,_,I,_,.inl (fin hr),hf,λ_=>⟨w.heap.size,_,_,_,Ren.ou _ _ _ _,rfl,grownCap_ge w _ c' e,au _,λ_=>rfl⟩⟩
      ·exact jK.elim
     ·exact jK.elim
    ·cases hz
   ·cases ht
  ·cases ht
 ·cases hc
end
end
section
section
variable {P:Program} {E:Env P} {I:IH} {ρ:Ren} {n:Nat} {st:iy} {a:Act} {w:World}
theorem ZI : uX.lookup "internal/bytealg.abigen_runtime_cmpstring" = none:=by kernel_rfl
theorem ZJ : wF.lookup "internal/bytealg.abigen_runtime_cmpstring" = none:=by kernel_rfl
theorem ZK : xB.lookup "internal/bytealg.abigen_runtime_cmpstring" = none:=by kernel_rfl
theorem ZL : CP.lookup "internal/bytealg.abigen_runtime_cmpstring" = some Extern.BytealgCompare.compare:=by kernel_rfl
theorem abS : uX.lookup "" = none:=by kernel_rfl
theorem abT : uX.lookup "slices.overlaps" = none:=by kernel_rfl
theorem abU : wF.lookup "slices.overlaps" = none:=by kernel_rfl
theorem abV : xB.lookup "slices.overlaps" = some wU:=by kernel_rfl
def Tj (P:Program)(n:Nat)(op:Op)(x y:oW):Bool:=
 match op with
 |.call { callee:=.value (.func f),args:=⟨[x',y']⟩,argTypes:=_ }=>kU n x' x&&kU n y' y&&(match P.funcs[f]? with|some fn=>fn.name == "internal/bytealg.abigen_runtime_cmpstring" && fn.origin == "" && fn.body.isNone|none=>false)
 |_=>false
theorem Ze {o:Oper}{x y:oW}(h:GX E I ρ n st a w)(hc:Tj P n o.op x y=true)(hx:(x.ev st.tm).g=true)(hy:(y.ev st.tm).g=true)
 (jK:(Lp (eu st.tm x) (eu st.tm y)).vc):o7 P E n o a w st (Lp (eu st.tm x) (eu st.tm y)).v:=by
 unfold Tj at hc;split at hc
 ·rename_i f x' y' ts he;simp only[ah]at hc;obtain⟨⟨c1,c2⟩,hf⟩:=hc;have g1:=og h c1 hx;have g2:=og h c2 hy;split at hf
  ·rename_i fn hfn;simp only[ah,beq_iff_eq]at hf;obtain⟨⟨hname,RP⟩,hbody⟩:=hf;have hn:uG fn=none:=by
    simp only[uG,hname,RP,ZI,abS];rfl
   have hd:wV fn=some Extern.BytealgCompare.compare:=by simp only[wV,hname,ZJ,ZK,ZL];rfl
   unfold Lp at jK⊢;split at jK
   ·rename_i s t e1 e2;rw[e1]at g1;rw[e2]at g2;obtain⟨v1,_⟩:=Gj g1;obtain⟨v2,_⟩:=Gj g2;have hr:=run_callFunc_extern (P:=P) hfn (by rw[hname];rfl) hbody hn hd #[.string ⟨⟨s⟩⟩,.string ⟨⟨t⟩⟩] w;rw[Lib.run_compareString]at hr;refine o7.val h (v:=.int .i64 (jI s t)) ?_ (Aw _ _);have hx2:a.eval (.func f) = .func (.func f) #[] #[]:=rfl;simp only[execOp,he,resolve,yA,invoke,gG,fM,dD,hx2,nS,bJ,kM,v1,v2];simpa using hr
   ·exact jK.elim
  ·cases hf
 ·cases hc
def PG (P:Program)(n:Nat)(op:Op)(ng:Bool)(x:oW):Bool:=
 match op with
 |.binOp b t x' (.const .nilIface) _=>(match b with|.eql=> !ng|.neq=>ng|_=>false)&&(match P.underlying t with|some (.interface _)=>true|_=>false)&&kU n x' x
 |_=>false
theorem XA {o:Oper}{ng:Bool}{x:oW}(h:GX E I ρ n st a w)(hc:PG P n o.op ng x=true)(hx:(x.ev st.tm).g=true)
 (jK:(Hu ng (eu st.tm x)).vc):o7 P E n o a w st (Hu ng (eu st.tm x)).v:=by
 unfold PG at hc;split at hc
 ·rename_i b t x' t' he;simp only[ah]at hc;obtain⟨⟨hb,ht⟩,h1⟩:=hc;have g1:=og h h1 hx;unfold Hu at jK⊢;split at jK
  ·rename_i g e1;rw[e1]at g1;have g1:if g=true then ∃t p,a.eval x' = .iface t p else a.eval x' = .nilIface:=g1
   split at ht
   ·rename_i ms hu;have ev:a.eval (.const .nilIface) = .nilIface:=rfl;have hq:(eqGuard b t x' (.const .nilIface) (a.eval x') .nilIface).run P w = .ok () w:=by
     cases g with
     | true=>obtain⟨t1,p1,g1⟩:=g1;rw[g1];cases b<;>rfl
     | false=>have g1:a.eval x' = .nilIface:=g1;rw[g1];cases b<;>cases x'<;>first|rfl|simp[eqGuard]
    have hd:∀d,(yV (d+1) t (a.eval x') .nilIface).run P w = .ok (!g) w:=λd=>by
     cases g with
     | true=>obtain⟨t1,p1,g1⟩:=g1;rw[g1];simp[yV,run_underlying hu]
     | false=>have g1:a.eval x' = .nilIface:=g1;rw[g1];simp[yV,run_underlying hu]
    have he':(Op.equal t (a.eval x') .nilIface).run P w = .ok (!g) w:=hd 9999;have af8:∀c,(c = .eql\/c = .neq)->(binOp c t (a.eval x') .nilIface).run P w = .ok (.bool (if c = .neq then g else !g)) w:=λc hc=>by
     cases g with
     | true=>obtain⟨t1,p1,g1⟩:=g1;rw[g1]at he'⊢;rcases hc with rfl|rfl<;>simp[binOp,he']
     | false=>have g1:a.eval x' = .nilIface:=g1;rw[g1]at he'⊢;rcases hc with rfl|rfl<;>simp[binOp,he']
    simp only[FR.ok];cases b<;>simp at hb
    ·subst hb;refine o7.val h ?_ (F6 _);simp[execOp,he,ev,hq,af8 .eql (.inl rfl)]
    ·subst hb;refine o7.val h ?_ (F6 _);simp[execOp,he,ev,hq,af8 .neq (.inr rfl)]
   ·cases ht
  ·exact jK.elim
 ·cases hc
theorem ZM : uX.lookup "internal/bytealg.IndexByteString" = none:=by kernel_rfl
theorem ZN : wF.lookup "internal/bytealg.IndexByteString" = none:=by kernel_rfl
theorem ZO : xB.lookup "internal/bytealg.IndexByteString" = none:=by kernel_rfl
theorem ZP : CP.lookup "internal/bytealg.IndexByteString" = some Extern.BytealgIndexByte.indexByte:=by kernel_rfl
def Tn (P:Program)(n:Nat)(op:Op)(x y:oW):Bool:=
 match op with
 |.call { callee:=.value (.func f),args:=⟨[x',y']⟩,argTypes:=_ }=>kU n x' x&&kU n y' y&&(match P.funcs[f]? with|some fn=>fn.name == "internal/bytealg.IndexByteString" && fn.origin == "" && fn.body.isNone|none=>false)
 |_=>false
theorem Zy {o:Oper}{x y:oW}(h:GX E I ρ n st a w)(hc:Tn P n o.op x y=true)(hx:(x.ev st.tm).g=true)(hy:(y.ev st.tm).g=true)
 (jK:(LU (eu st.tm x) (eu st.tm y)).vc):o7 P E n o a w st (LU (eu st.tm x) (eu st.tm y)).v:=by
 unfold Tn at hc;split at hc
 ·rename_i f x' y' ts he;simp only[ah]at hc;obtain⟨⟨c1,c2⟩,hf⟩:=hc;have g1:=og h c1 hx;have g2:=og h c2 hy;split at hf
  ·rename_i fn hfn;simp only[ah,beq_iff_eq]at hf;obtain⟨⟨hname,RP⟩,hbody⟩:=hf;have hn:uG fn=none:=by
    simp only[uG,hname,RP,ZM,abS];rfl
   have hd:wV fn=some Extern.BytealgIndexByte.indexByte:=by simp only[wV,hname,ZN,ZO,ZP];rfl
   unfold LU at jK⊢;split at jK
   ·rename_i s k c e1 e2;rw[e1]at g1;rw[e2]at g2;have hk:k = .u8:=jK;subst hk;obtain⟨v1,_⟩:=Gj g1;have v2:=xw g2;have hr:=run_callFunc_extern (P:=P) hfn (by rw[hname];rfl) hbody hn hd #[.string ⟨⟨s⟩⟩,.int .u8 c] w;rw[Lib.run_indexByteString]at hr;refine o7.val h (v:=.int .i64 (dX s c.toNat.toUInt8)) ?_ (Aw _ _);have hx2:a.eval (.func f) = .func (.func f) #[] #[]:=rfl;simp only[execOp,he,resolve,yA,invoke,gG,fM,dD,hx2,nS,bJ,kM,v1,v2];simpa using hr
   ·exact jK.elim
  ·cases hf
 ·cases hc
def Xi (P:Program)(n:Nat)(op:Op)(x y:oW):Bool:=
 match op with
 | .call { callee:=.value (.func f),args:=⟨[x',y']⟩,argTypes:=_ }=>kU n x' x&&kU n y' y&&(match P.funcs[f]? with
   | some fn=>fn.origin == "slices.overlaps" && fn.body.isNone && !(fn.name == "runtime.NumGoroutine")&&(uX.lookup fn.name).isNone&&(wF.lookup fn.name).isNone&&(xB.lookup fn.name).isNone&&(CP.lookup fn.name).isNone &&
     (match fn.params,fn.resultTypes with
      |⟨[t,t']⟩,⟨[_]⟩=>t==t'&&(match P.underlying t with|some (.slice e)=>(match P.info? e with|some _=>true|none=>false)|_=>false)
      |_,_=>false)
   |none=>false)
 |_=>false
theorem aa7 (h:GX E I ρ n st a w){b kk cap sz:Nat}{es:List (List Cell)}(hb:st.bx b = .dat sz es)(hr:ρ b=some (kk,cap))(hc0:cap≠0):∃cs tg,w.heap[kk]? = some (.cells cs tg (0,0))/\cs.size=cap*sz:=by have hok:=h.bx.ok b;rw[hb]at hok;obtain⟨kk',cap',hr',hle,hcm,hes,hcs⟩:=hok;rw[hr]at hr';simp only[aJ,aI]at hr';obtain⟨rfl,rfl⟩:=hr';obtain⟨cs,tg,hw,hs,_⟩:=hcs hc0;exact⟨cs,tg,hw,hs⟩
theorem ace {o:Oper}{x y:oW}(h:GX E I ρ n st a w)(hc:Xi P n o.op x y=true)(hx:(x.ev st.tm).g=true)(hy:(y.ev st.tm).g=true)
 (jK:(Uf (eu st.tm x) (eu st.tm y) st.bx).vc):o7 P E n o a w st (Uf (eu st.tm x) (eu st.tm y) st.bx).v:=by
 unfold Xi at hc;split at hc
 ·rename_i f x' y' ts he;simp only[ah]at hc;obtain⟨⟨c1,c2⟩,hf⟩:=hc;have g1:=og h c1 hx;have g2:=og h c2 hy;split at hf
  ·rename_i fn hfn;simp only[ah,beq_iff_eq,xk,Option.isNone_iff_eq_none]at hf;obtain⟨⟨⟨⟨⟨⟨⟨RP,hbody⟩,hname⟩,n1⟩,n2⟩,n3⟩,n4⟩,hp⟩:=hf;split at hp
   ·rename_i t t' tr hpar hres;simp only[ah,beq_iff_eq]at hp;obtain⟨rfl,ht⟩:=hp;split at ht
    ·rename_i e hte;split at ht
     ·rename_i i hi;have hn:uG fn=none:=by
       simp only[uG,RP,n1,abT];rfl
      have hd:wV fn=some (wU #[t,t] #[tr]):=by simp only[wV,RP,n2,n3,n4,abU,abV,hpar,hres];rfl
      unfold Uf at jK⊢;split at jK
      ·rename_i b lo m c sz b' lo' m' c' sz' e1 e2;obtain⟨kk,cap,ad,cc,hr,hv,hm,hcc,_,ha⟩:=IW g1 e1;obtain⟨kk',cap',ad',cc',hr',hv',hm',Ez,_,ha'⟩:=IW g2 e2;split at jK
       ·rename_i s1 es s2 es' hb hb';obtain⟨hbb,hs2,hm0,aia⟩:b≠b'/\s2≠0/\0<m/\0<m':=jK;have hov:(wU #[t,t] #[tr] #[.slice ad m cc,.slice ad' m' cc']).run P w = .ok (.bool false) w:=by
         obtain⟨cs,tg,hw,hs⟩:=aa7 h hb hr (by omega);obtain⟨cs',tg',hw',hs'⟩:=aa7 h hb' hr' (by omega);have e1:=ha (.inl (by omega));have e2:=ha' (.inl (by omega));subst e1 e2;have hne:kk≠kk':=λhk=>hbb (by subst hk;exact h.bx.inj b b' kk (by rw[hb];exact⟨cap,hr,by omega⟩) (by rw[hb'];exact⟨cap',hr',by omega⟩))
         have h0:cs'.size≠0:=(by rw[hs'];exact Nat.mul_ne_zero (by omega) hs2);exact Lib.run_overlaps_apart w t tr e hte i.size (λw=>by simp[sizeOf,typeInfo,hi]) ⟨kk,lo*sz,none⟩ ⟨kk',lo'*sz',none⟩ m cc m' cc' hne tg tg' cs.size cs'.size
          (by simp[AA,hw]) (by simp[AA,hw']) h0 (by simp[World.frozen?,hw]) (by simp[World.frozen?,hw])
        have hr:=run_callFunc_extern (P:=P) hfn hname (by simpa using hbody) hn hd #[.slice ad m cc,.slice ad' m' cc'] w;rw[hov]at hr;refine o7.val h (v:=.bool false) ?_ (F6 _);have hx2:a.eval (.func f) = .func (.func f) #[] #[]:=rfl;simp only[execOp,he,resolve,yA,invoke,gG,fM,dD,hx2,nS,bJ,kM,hv,hv'];simpa using hr
       ·exact jK.elim
      ·exact jK.elim
     ·cases ht
    ·cases ht
   ·cases hp
  ·cases hf
 ·cases hc
end
end
section
section
variable {P:Program} {E:Env P} {I:IH} {ρ:Ren} {n:Nat} {st:iy} {a:Act} {w:World}
def Td (P:Program)(n:Nat)(op:Op)(sz bytes:Nat)(zs:List Cell)(s x:oW):Bool:=
 match op with
 | .call { callee:=.builtin .append,args:=⟨[s',x']⟩,argTypes:=⟨[t,t']⟩ }=>kU n s' s&&kU n x' x&&decide (0<sz)&&zs.length==sz&&(match P.underlying t' with|some (.int _)=>true|_=>false)&&(match P.underlying t with
   |some (.slice e)=>(match P.info? e with|some i=>i.size==sz&&i.bytes==bytes&&(match i.zero with|some z=>z.cells.size==sz&&Ih z.cells.toList zs&&z.cells.toList.all (·.oneCell')|none=>false)|none=>false)
   |_=>false)
 |_=>false
theorem Qx (t u ty e:TypeId)(ku:IntKind)(i:TypeInfo)(z:Value)(ht:P.underlying t=some (.slice e))(hu:P.underlying u=some (.int ku))(hi:P.info? e=some i)(hz:i.zero=some z)
 (b:Option Addr) (sLen sCap:Nat) (olds:List Value) (hlo:olds.length=sLen*i.size) (hb0:b=none->sLen=0) (holds:∀ad,b=some ad->∀j v,olds[j]? = some v->w.cell? (ad.add j)=some v)
 (q:Nat) (hq:(q:Int)*i.bytes<=140737488355328) (h62:q<2^60) (hqp:0<q) (hs0:0<i.size)
 (hg:sCap<sLen+q) (h63:((sLen+q:Nat):Int)<=9223372036854775807) (hfit:Builtin.nextslicecap (sLen+q) sCap*i.bytes<=281474976710656) :
 (jB #[t,u] ty #[.slice b sLen sCap,.int .i64 q]).run P w =
  .ok (.slice (some ⟨w.heap.size,0,none⟩) (sLen+q) (grownCap w (sLen+q) sCap e))
   (w.drew.alloc (.cells (olds.toArray++bH z.cells q++bH z.cells (grownCap w (sLen+q) sCap e-(sLen+q))) e)):=by
 have hn:¬(sLen+q<=sCap):=by omega
 have h63':¬(9223372036854775807<((sLen:Int)+(q:Int))):=by omega
 have h48':¬(281474976710656<Builtin.nextslicecap (sLen+q) sCap*i.bytes):=by omega
 have hw:Ed.wrap (q:Int)=q:=by simp only[Go.IntKind.wrap,Go.IntKind.bits,Go.IntKind.signed];simp;omega
 have hq0:¬((q:Int)<0):=by omega
 have hqb:¬(281474976710656<(q:Int)*(i.bytes:Int)):=by omega
 have hfo:(sV i.size sLen (.slice b sLen sCap)).run P w.drew = .ok olds.toArray w.drew:=by
  cases b with
  | none=>have h0:=hb0 rfl;subst h0;have:olds=[]:=di (by simpa using hlo);subst this;simp[sV]
  |some ad=>exact run_firstCells_some (P:=P) w.drew i.size sLen ad sLen sCap olds hlo (by simpa using holds ad rfl)
 have hq1:¬(q*i.size=0):=by intro h0;rcases Nat.mul_eq_zero.1 h0 with h|h<;>omega
 simp[jB,run_underlying ht,run_underlying hu,sizeOf,typeInfo,zeroValue,hi,hz,asInt,asIntOf,hw,hq0,hqb,hq1,hn,h63',h48',Question.forced,hfo,newRow,grownCap]
theorem aa8 (h:GX E I ρ n st a w){b kk cap sz lo m:Nat}{es:List (List Cell)}(hb:st.bx b = .dat sz es)(hr0:ρ b=some (kk,cap))(hc:lo+m<=cap)(hc0:cap≠0)(hl:lo+m<=es.length) :
 ∃ olds:List Value,olds.length=m*sz/\(∀(j:Nat) (u:Value),olds[j]? = some u->w.cell? ((⟨kk,lo*sz,none⟩:Addr).add j)=some u)/\DC I olds sz ((es.drop lo).take m) /\
   (∀y,y∈(es.drop lo).take m->y.length=sz)/\((es.drop lo).take m).length=m:=by
 have hok:=h.bx.ok b;rw[hb]at hok;obtain⟨kk',cap',hr',hle,hcm,hes,hcs⟩:=hok;rw[hr0]at hr';simp only[aJ,aI]at hr';obtain⟨rfl,rfl⟩:=hr';obtain⟨cs,tg,hw,hss,ho,hrd⟩:=hcs hc0;have hmn:(lo+m)*sz<=cs.size:=by rw[hss];exact bD _ hc
 rw[dQ]at hmn;have hsl:((es.drop lo).take m).length=m:=by simp;omega
 refine⟨(cs.toList.drop (lo*sz)).take (m*sz),by simp;omega,λj u hu=>?_,⟨λj u hu=>?_,λi' j c2 hc2=>?_⟩,λy hy=>hes y (mP (fJ hy)),hsl⟩
 ·rw[bT]at hu;split at hu
  ·rw[Addr.zf];rw[ja]at hu;simp at hu;simp[oQ,hw,hu]
  ·cases hu
 ·rw[bT]at hu;split at hu
  ·rw[ja]at hu;exact ho _ u (by simpa using hu)
  ·cases hu
 ·have hi':=lZ hc2;rw[hsl]at hi';have hc3:(es.getD (lo+i') [])[j]? = some c2:=by
   rw[<- hc2];congr 1;simp only[bu];rw[bT,if_pos hi',ja]
  obtain⟨u,hu,hr⟩:=hrd (lo+i') j c2 hc3;have hi2:=lZ hc3;have hj:j<sz:=by rw[<- hes (es.getD (lo+i') []) (by simp[bu,aB hi2])];exact(bn.1 hc3).1
  have:(i'+1)*sz<=m*sz:=bD _ hi';rw[dQ]at this;refine⟨u,?_,hr⟩;rw[bT,if_pos (by omega),ja];rw[dQ]at hu;rw[<- sD];simpa using hu
theorem Y4 {o:Oper}{l sz bytes:Nat}{zs:List Cell}{s x:oW}(h:GX E I ρ n st a w)(hc:Td P n o.op sz bytes zs s x=true)(hm:E.m<=l)(hs:(s.ev st.tm).g=true)(hx:(x.ev st.tm).g=true)
 (jK:(EO l sz bytes zs (eu st.tm s) (eu st.tm x) st.bx).vc):o7 P E n o a w (st.sS (EO l sz bytes zs (eu st.tm s) (eu st.tm x) st.bx).sets) (EO l sz bytes zs (eu st.tm s) (eu st.tm x) st.bx).v:=by
 unfold Td at hc;split at hc
 ·rename_i s' x' t t' he;simp only[ah,beq_iff_eq,decide_eq_true_eq]at hc;obtain⟨⟨⟨⟨⟨c1,c2⟩,h0⟩,hzl⟩,hti⟩,ht⟩:=hc;have g1:=og h c1 hs;have g2:=og h c2 hx;split at hti
  ·rename_i ku htu;split at ht
   ·rename_i e hte;split at ht
    ·rename_i i hi;simp only[ah,beq_iff_eq]at ht;obtain⟨⟨rfl,rfl⟩,hz⟩:=ht;split at hz
     ·rename_i z hzero;simp only[ah,beq_iff_eq]at hz;obtain⟨⟨hzs,hzd⟩,hz1⟩:=hz;have fin:∀{v:Value} {w':World},(jB #[t,t'] o.type #[a.eval s',a.eval x']).run P w = .ok v w'->(execOp a.eval o).run P w = .ok (.value v) w':=by
       intro v w' hr;simp only[execOp,he,resolve,invoke,builtin,gG,fM,dD,nS,bJ,kM,hr]
      have hzc:∀(q:Nat) (j:Nat) (u:Value),(bH z.cells q).toList[j]? = some u->u.oneCell'=true:=by intro q j u hu;exact(Oi (I:=I) (m:=q) hzd hzs hzl h0).2.one j u hu
      have fresh:∀(old m q:Nat) (olds:List Value) (es':List (List Cell)),st.bx l = .absent->old<m+q->olds.length=m*i.size->es'.length=m->(∀y,y∈es'->y.length=i.size)->DC I olds i.size es'->m+q<=maxLen ->
       GX E I (ρ.set l w.heap.size (grownCap w (m+q) old e)) n (st.xU l (.dat i.size (es'++bU q zs))) a
        (w.drew.alloc (.cells (olds.toArray++bH z.cells q++bH z.cells (grownCap w (m+q) old e-(m+q))) e)):=by
       intro old m q olds es' hl' ho hol hel hes' hdo h63;have hge:=grownCap_ge w (m+q) old e;have hcm:grownCap w (m+q) old e<=maxLen:=grownCap_le_maxLen w _ old e h63;obtain⟨afo,ad1⟩:=Oi (I:=I) (m:=q) hzd hzs hzl h0;have hdc:=((hdo.append ad1 (by rw[hel];exact hol)).more (hzc (grownCap w (m+q) old e-(m+q)))).YG (cs:=olds.toArray++bH z.cells q++bH z.cells (grownCap w (m+q) old e-(m+q))) (by simp);refine JA h.drew hl' hm _ e _ i.size (es'++bU q zs) ?_ (by rw[ay,hel,AY];exact hge) hcm (λx hx=>?_) hdc.1 hdc.2
       ·simp only[zo,lM,size_zeroCells,hzs,hol,<- dQ]
        congr 1
        omega
       ·rcases aW.1 hx with h1|h1
        ·exact hes' x h1
        ·rw[uk h1,hzl]
      have arith:∀(m q:Nat),(m+q)*(i.bytes+i.size+1)<=2^46->(m+q)*i.bytes<=140737488355328/\q*i.bytes<=140737488355328/\m+q<=2^46:=by intro m q hbig;have e1:(m+q)*(i.bytes+i.size+1)=(m+q)*i.bytes+(m+q)*i.size+(m+q):=(by rw[yE,yE,vw]);have e2:q*i.bytes<=(m+q)*i.bytes:=bD _ (by omega);omega
      have hml:2^46<=maxLen:=(by decide);unfold EO at jK⊢;split at jK
      ·rename_i b lo m c sz' k q e1 e2;split at jK
       ·rename_i Bo es hb;obtain⟨rfl,rfl,rfl,hlo,hq,hroom,hl,hbig⟩:=jK;obtain⟨kk,cap,ad0,c',hr0,hsv,hnc,hcc,hcx,hcap⟩:=IW (c:=some c) (b:=b) (lo:=lo) (m:=m) (sz:=i.size) g1 (by rw[e1];rfl);have:=hcx c rfl;subst this;have hxv:a.eval x' = .int .i64 q:=(by exact xw (by rw[e2]at g2;exact g2));obtain⟨qn,rfl⟩:∃qn:Nat,q=qn:=⟨q.toNat,by omega⟩;simp only[ai]at hroom hbig⊢;obtain⟨a1,a2,a3⟩:=arith m qn hbig;have hl':=Gv hl;have hfit:=growslice_fits (need:=m+qn) (old:=c') (bytes:=i.bytes) (by omega) a1;by_cases hc0:c'=0
        ·have afm:m=0:=(by omega);subst afm;subst hc0;have hf:=fresh 0 0 qn [] [] hl' (by omega) (by simp) rfl (by simp) ⟨by simp,by simp⟩ (by omega);have hr:=Qx (P:=P) (w:=w) t t' o.type e ku i z hte htu hi hzero ad0 0 0 [] (by simp) (λ_=>rfl) (by simp) qn (by rw[<- D6];exact EY.2 a2) (by omega) (by omega) h0 (by omega) (by omega) hfit;rw[<- hxv,<- hsv]at hr;simp only[wW];exact⟨_,_,I,_,.inl (fin hr),hf,λ_=>⟨w.heap.size,_,_,_,Ren.ou _ _ _ _,rfl,grownCap_ge w _ _ e,au _,λ_=>rfl⟩⟩
        ·have Kv:=hcap (.inl hc0);subst Kv;obtain⟨olds,ho1,ho2,ho3,ho4,ho5⟩:=aa8 h hb hr0 (by omega) (by omega) hlo;have hf:=fresh c' m qn olds _ hl' (by omega) ho1 ho5 ho4 ho3 (by omega);have hr:=Qx (P:=P) (w:=w) t t' o.type e ku i z hte htu hi hzero (some ⟨kk,lo*i.size,none⟩) m c' olds ho1 (by simp) (λad had j u hu=>by cases had;exact ho2 j u hu) qn (by rw[<- D6];exact EY.2 a2) (by omega) (by omega) h0 (by omega) (by omega) hfit;rw[<- hxv,<- hsv]at hr;exact⟨_,_,I,_,.inl (fin hr),hf,λ_=>⟨w.heap.size,_,_,_,Ren.ou _ _ _ _,rfl,grownCap_ge w _ _ e,au _,λ_=>rfl⟩⟩
       ·exact jK.elim
      ·rename_i sz' k q e1 e2;obtain⟨rfl,hq,hl,hbig⟩:=jK;have hsv:a.eval s' = .slice none 0 0:=(by rw[e1]at g1;exact g1);have hxv:a.eval x' = .int .i64 q:=(by exact xw (by rw[e2]at g2;exact g2));obtain⟨qn,rfl⟩:∃qn:Nat,q=qn:=⟨q.toNat,by omega⟩;simp only[ai]at hbig⊢;obtain⟨a1,a2,a3⟩:=arith 0 qn (by simpa using hbig);simp only[kD]at a1 a3;have hl':=Gv hl;have hfit:=growslice_fits (need:=0+qn) (old:=0) (bytes:=i.bytes) (by omega) (by simpa using a1);have hf:=fresh 0 0 qn [] [] hl' (by omega) (by simp) rfl (by simp) ⟨by simp,by simp⟩ (by omega);have hr:=Qx (P:=P) (w:=w) t t' o.type e ku i z hte htu hi hzero none 0 0 [] (by simp) (λ_=>rfl) (by simp) qn (by rw[<- D6];exact EY.2 a2) (by omega) (by omega) h0 (by omega) (by omega) hfit;rw[<- hxv,<- hsv]at hr;simp only[gJ]at hf;exact⟨_,_,I,_,.inl (fin hr),hf,λ_=>⟨w.heap.size,_,_,_,Ren.ou _ _ _ _,by rw[kD],by have:=grownCap_ge w (0+qn) 0 e;omega,au _,λ_=>rfl⟩⟩
      ·exact jK.elim
     ·cases hz
    ·cases ht
   ·cases ht
  ·cases hti
 ·cases hc
end
end
section
def OG (P:Program)(n m:Nat)(op:Op)(d:Option Nat):nH->Bool
 |.mv x=>aa2 n op x
 |.pick c a b=>TB n op c a b
 |.load agg k p=>Tv P n op agg k p
 |.store agg k p x=>PO P n op agg k p x&&d.isNone
 |.alloc l zs=>Pv P op zs&&decide (m<=l)
 |.EJ T _ l r=>Nv P op T&&decide (m<=l)&&decide (m<=r)
 |.J6 l sz c zs=>Nu P op sz c zs&&decide (m<=l)
 |.box l x=>Xc n op x&&decide (m<=l)
 |.build zs ps=>Px P n op zs ps
 |.kT l sz c zs ps=>Ny P n op sz c zs ps&&decide (m<=l)
 |.makes l sz bytes zs x y=>PI P n op sz bytes zs x y&&decide (m<=l)
 |.bin o x y=>Xb n op o x y
 |.beq ng x y=>Xa P n op ng x y
 |.not x=>Xh n op x
 |.neg x=>Xg n op x
 |.GH k x=>Ti P n op k x
 |.PS x=>Tm P n op x
 |.same x=>TC P n op x
 |.Ua f cs=>Tz n op f cs
 |.G7 x lo hi=>PN P n op x lo hi
 |.Fe sz x lo hi=>TE P n op sz x lo hi
 |.QC sz c x=>PM P n op sz c x
 |.ES x=>PK n op x
 |.jZ off x=>Py P n op off x
 |.field agg off k x=>Pz P n op agg off k x
 |.vN sz x i=>PE P n op sz x i
 |.Qe sz c x i=>Nz P n op sz c x i
 |.idxs x i=>Tq P n op x i
 |.extract x i=>Kr n op x i
 |.len x=>Xf P n op x
 |.lens x=>Tu P n op x
 |.max x y=>RG true n op x y
 |.min x y=>RG false n op x y
 |.append l sz bytes s x=>Fh P n op sz bytes s x&&decide (m<=l)
 |.copy sz x y=>Jt P n op sz x y
 |.shf l x y=>Xj n op l x y
 |.Za x=>Tf P n op x
 |.yM sz x lo hi=>NC P n op sz x lo hi
 |.sl3 sz x p q m=>Xk P n op sz x p q m
 |.V7 l sz bytes s x=>Fh P n op sz bytes s x&&decide (m<=l)
 |.Qz sz x y=>Jt P n op sz x y
 |.XP sz zs x=>TD P n op sz zs x
 |.WN l sz bytes zs s x=>Td P n op sz bytes zs s x&&decide (m<=l)
 |.Zd x y=>Tj P n op x y
 |.RQ ng x=>PG P n op ng x
 |.ovl x y=>Xi P n op x y
 |.Zx x y=>Tn P n op x y
 |.stop=>true
section
variable {P:Program} {E:Env P} {I:IH} {ρ:Ren} {n:Nat} {st:iy} {a:Act} {w:World}
theorem Ej {x:Box}(h:match x with|.absent=>True|_=>False):Cm x:=by cases x<;>first|trivial|exact h.elim
theorem acd (h:GX E I ρ n st a w){o:Oper}{ao:nH}(hc:OG P n E.m o.op o.dst ao=true)(hv:ao.valid (oW.ev st.tm))(jK:(ao.f (eu st.tm) st.bx).vc) :
 o7 P E n o a w (st.sS (ao.f (eu st.tm) st.bx).sets) (ao.f (eu st.tm) st.bx).v:=by
 cases ao with
 |mv x=>exact ad8 h hc (hv x (by simp[nH.oV]))
 | pick c x y=>
   simp only[nH.f]at jK⊢;obtain⟨hg,hxy⟩:=hv;split at jK
   ·rename_i t ht;have ht':((oW.ev st.tm c).x)=yz t:=ht;rw[ht']at hxy;exact ZX h hc hg ht hxy.1 hxy.2
   ·exact jK.elim
 | load agg k p=> 
   have hs:(zD agg k (eu st.tm p) st.bx).sets=[]:=by
    unfold zD at *;simp only[nH.f]at jK;unfold zD at jK;split at jK
    ·split at jK
     ·split at jK
      ·rename_i hA;rw[if_pos hA]
      ·rename_i hA;rw[if_neg hA];split at jK
       ·rfl
       ·exact jK.elim
     ·exact jK.elim
    ·split at jK
     ·split at jK
      ·rename_i hA;rw[if_pos hA]
      ·rename_i hA;rw[if_neg hA]
     ·exact jK.elim
    ·split at jK
     ·rename_i hA;rw[if_pos hA]
     ·rename_i hA;rw[if_neg hA]
    ·exact jK.elim
   have:=ZG (P:=P) h hc (hv p (by simp[nH.oV])) jK;simp only[nH.f,hs];exact this
 | store agg k p x=>simp only[OG,ah,Option.isNone_iff_eq_none]at hc;exact XY h hc.1 hc.2 (hv p (by simp[nH.oV])) (hv x (by simp[nH.oV])) jK
 | alloc l zs=>simp only[OG,ah,decide_eq_true_eq]at hc;exact WM h hc.1 hc.2 (Ej jK)
 | EJ T e l r=>simp only[OG,ah,decide_eq_true_eq]at hc;exact UY h hc.1.1 hc.1.2 hc.2 (Ej jK.1) (Ej jK.2.1) jK.2.2
 | J6 l sz c zs=>simp only[OG,ah,decide_eq_true_eq]at hc;exact UX h hc.1 hc.2 (Ej jK)
 | box l x=>simp only[OG,ah,decide_eq_true_eq]at hc;exact aaZ h hc.1 (hv x (by simp[nH.oV])) hc.2 (Ej jK.1) jK.2
 |build zs ps=>exact WV h hc (λp hp=>hv p.2.2 (by simp only[nH.oV,oZ];exact⟨p,hp,rfl⟩)) jK
 | kT l sz c zs ps=>
   simp only[OG,ah,decide_eq_true_eq]at hc;simp only[nH.f]at jK⊢;split at jK
   ·rename_i l' hl';rw[QB];exact U8 h hc.1 (λp hp=>hv p.2 (by simp only[nH.oV,oZ];exact⟨p,hp,rfl⟩)) hc.2 (Ej jK.1) hl' jK.2.1 jK.2.2
   ·exact jK.elim
 | makes l sz bytes zs x y=>
   simp only[OG,ah,decide_eq_true_eq]at hc;simp only[nH.f]at jK⊢;split at jK
   ·rename_i k p k' q e1 e2;obtain⟨v1,v2,v3,v4,v5⟩:=jK;exact XF h hc.1 (hv x (by simp[nH.oV])) (hv y (by simp[nH.oV])) e1 e2 hc.2 (Ej v1) v2 v3 v4 v5
   ·exact jK.elim
 | bin b x y=>
   have hs:(OD b (eu st.tm x) (eu st.tm y)).sets=[]:=by
    unfold OD;split
    ·rfl
    ·unfold Dj;cases b<;>rfl
    ·rfl
   have:=aaY (P:=P) h hc (hv x (by simp[nH.oV])) (hv y (by simp[nH.oV])) jK;simp only[nH.f,hs];exact this
 | beq ng x y=>have hs:(U5 ng (eu st.tm x) (eu st.tm y)).sets=[]:=(by unfold U5;split<;>rfl);have:=aaX (P:=P) h hc (hv x (by simp[nH.oV])) (hv y (by simp[nH.oV])) jK;simp only[nH.f,hs];exact this
 | not x=>
   simp only[nH.f]at jK⊢;split at jK
   ·rename_i b hb;exact ab5 h hc (hv x (by simp[nH.oV])) hb
   ·exact jK.elim
 | neg x=>
   simp only[nH.f]at jK⊢;split at jK
   ·rename_i k m hb;exact ab2 h hc (hv x (by simp[nH.oV])) hb
   ·exact jK.elim
 | GH k x=>
   simp only[nH.f]at jK⊢;split at jK
   ·rename_i j m hb;exact Zc h hc (hv x (by simp[nH.oV])) hb
   ·exact jK.elim
 | PS x=>
   simp only[nH.f]at jK⊢;split at jK
   ·rename_i p es hs;split at jK
    ·rename_i l hl;exact Zh h hc (hv x (by simp[nH.oV])) hs jK.1 hl jK.2
    ·exact jK.elim
   ·exact jK.elim
 | same x=>
   simp only[nH.f]at jK⊢;split at jK
   ·rename_i l hb;exact aac h hc (hv x (by simp[nH.oV])) hb
   ·exact jK.elim
 | Ua f cs=>
   simp only[nH.f]at jK⊢;split at jK
   ·rename_i l hl;exact ZR h hc (λx hx=>hv x hx) hl
   ·exact jK.elim
 | G7 x lo hi=>
   simp only[nH.f]at jK⊢;split at jK
   ·rename_i s e1;split at jK
    ·rename_i p q e2 e3;exact XT h hc (hv x (by simp[nH.oV])) (λy hy=>hv y (by simp only[nH.oV];simp at hy;simp[hy])) (λy hy=>hv y (by simp only[nH.oV];simp at hy;simp[hy])) e1 e2 e3 jK.1 jK.2.1 jK.2.2
    ·exact jK.elim
   ·exact jK.elim
 | Fe sz x lo hi=>
   have hs:(Si sz (eu st.tm x) (bnd (eu st.tm) lo 0) (bnd (eu st.tm) hi)).sets=[]:=by
    unfold Si;split
    ·split<;>rfl
    ·split<;>rfl
    ·split<;>rfl
    ·rfl
   have:=aai (P:=P) h hc (hv x (by simp[nH.oV])) (λy hy=>hv y (by simp only[nH.oV];simp at hy;simp[hy])) (λy hy=>hv y (by simp only[nH.oV];simp at hy;simp[hy])) jK;have e:((nH.Fe sz x lo hi).f (eu st.tm) st.bx)=Si sz (eu st.tm x) (bnd (eu st.tm) lo 0) (bnd (eu st.tm) hi):=rfl;rw[e,hs];exact this
 | QC sz c x=>
   simp only[nH.f]at jK⊢;split at jK
   ·rename_i b sz' e1;split at jK
    ·rename_i Bo es e2;obtain⟨rfl,rfl,h3,h4⟩:=jK;exact XR h hc (hv x (by simp[nH.oV])) e1 e2 h3
    ·exact jK.elim
   ·exact jK.elim
 | ES x=>have hs:(NU (eu st.tm x)).sets=[]:=(by unfold NU;split<;>rfl);have:=XG (P:=P) h hc (hv x (by simp[nH.oV])) jK;have e:((nH.ES x).f (eu st.tm) st.bx)=NU (eu st.tm x):=rfl;rw[e,hs];exact this
 | jZ off x=>have hs:(IU off (eu st.tm x)).sets=[]:=(by unfold IU;split<;>rfl);have:=Xo (P:=P) h hc (hv x (by simp[nH.oV])) jK;have e:((nH.jZ off x).f (eu st.tm) st.bx)=IU off (eu st.tm x):=rfl;rw[e,hs];exact this
 | field agg off k x=>
   have hs:(NF agg off k (eu st.tm x)).sets=[]:=by
    unfold NF;split
    ·split
     ·rfl
     ·split<;>rfl
    ·rfl
   have:=Xp (P:=P) h hc (hv x (by simp[nH.oV])) jK;have e:((nH.field agg off k x).f (eu st.tm) st.bx)=NF agg off k (eu st.tm x):=rfl;rw[e,hs];exact this
 | vN sz x i=>have hs:(NK sz (eu st.tm x) (eu st.tm i)).sets=[]:=(by unfold NK;split<;>rfl);have:=Xx (P:=P) h hc (hv x (by simp[nH.oV])) (hv i (by simp[nH.oV])) jK;have e:((nH.vN sz x i).f (eu st.tm) st.bx)=NK sz (eu st.tm x) (eu st.tm i):=rfl;rw[e,hs];exact this
 | Qe sz c x i=>
   simp only[nH.f]at jK⊢;split at jK
   ·rename_i b sz' k m e1 e2;obtain⟨rfl,h1,h2⟩:=jK;exact VF h hc (hv x (by simp[nH.oV])) (hv i (by simp[nH.oV])) e1 e2 h1 h2
   ·exact jK.elim
 | idxs x i=>
   simp only[nH.f]at jK⊢;split at jK
   ·rename_i s k m e1 e2;exact Zz h hc (hv x (by simp[nH.oV])) (hv i (by simp[nH.oV])) e1 e2 jK.1 jK.2
   ·exact jK.elim
 | extract x i=>
   have hs:(GI (eu st.tm x) i).sets=[]:=by
    unfold GI;split
    ·split<;>rfl
    ·rfl
   have:=TG (P:=P) h hc (hv x (by simp[nH.oV])) jK;have e:((nH.extract x i).f (eu st.tm) st.bx)=GI (eu st.tm x) i:=rfl;rw[e,hs];exact this
 | len x=>have hs:(lenV (eu st.tm x)).sets=[]:=(by unfold lenV;split<;>rfl);have:=abN (P:=P) h hc (hv x (by simp[nH.oV])) jK;have e:((nH.len x).f (eu st.tm) st.bx)=lenV (eu st.tm x):=rfl;rw[e,hs];exact this
 | lens x=>
   simp only[nH.f]at jK⊢;split at jK
   ·rename_i s e1;exact ZC h hc (hv x (by simp[nH.oV])) e1
   ·exact jK.elim
 | max x y=>
   simp only[nH.f]at jK⊢;split at jK
   ·rename_i k p k' q e1 e2;have jK:k=k':=jK;subst jK;exact abY h hc (hv x (by simp[nH.oV])) (hv y (by simp[nH.oV])) e1 e2
   ·exact jK.elim
 | min x y=>
   simp only[nH.f]at jK⊢;split at jK
   ·rename_i k p k' q e1 e2;have jK:k=k':=jK;subst jK;exact abZ h hc (hv x (by simp[nH.oV])) (hv y (by simp[nH.oV])) e1 e2
   ·exact jK.elim
 | append l sz bytes s x=>simp only[OG,ah,decide_eq_true_eq]at hc;exact U0 h hc.1 hc.2 (hv s (by simp[nH.oV])) (hv x (by simp[nH.oV])) jK
 |copy sz d x=>exact Zg h hc (hv d (by simp[nH.oV])) (hv x (by simp[nH.oV])) jK
 | shf l x y=>have hs:(Ux l (eu st.tm x) (eu st.tm y)).sets=[]:=(by unfold Ux;(repeat' split)<;>rfl);have:=acC (P:=P) h hc (hv x (by simp[nH.oV])) (hv y (by simp[nH.oV])) jK;have e:((nH.shf l x y).f (eu st.tm) st.bx)=Ux l (eu st.tm x) (eu st.tm y):=rfl;rw[e,hs];exact this
 | Za x=>have hs:(Q7 (eu st.tm x)).sets=[]:=(by unfold Q7;(repeat' split)<;>rfl);have:=Zb (P:=P) h hc (hv x (by simp[nH.oV])) jK;have e:((nH.Za x).f (eu st.tm) st.bx)=Q7 (eu st.tm x):=rfl;rw[e,hs];exact this
 | yM sz x lo hi=>have hs:(yU sz (eu st.tm x) (bnd (eu st.tm) lo 0) (bnd (eu st.tm) hi)).sets=[]:=(by unfold yU;(repeat' split)<;>rfl);have:=V9 (P:=P) h hc (hv x (by simp[nH.oV])) (λy hy=>hv y (by simp only[nH.oV,cO,aW];exact .inr (.inl hy))) (λy hy=>hv y (by simp only[nH.oV,cO,aW];exact .inr (.inr hy))) jK;have e:((nH.yM sz x lo hi).f (eu st.tm) st.bx)=yU sz (eu st.tm x) (bnd (eu st.tm) lo 0) (bnd (eu st.tm) hi):=rfl;rw[e,hs];exact this
 | sl3 sz x p q m=>have hs:(Jg sz (eu st.tm x) (eu st.tm p) (eu st.tm q) (eu st.tm m)).sets=[]:=(by unfold Jg;(repeat' split)<;>rfl);have:=acD (P:=P) h hc (hv x (by simp[nH.oV])) (hv p (by simp[nH.oV])) (hv q (by simp[nH.oV])) (hv m (by simp[nH.oV])) jK;have e:((nH.sl3 sz x p q m).f (eu st.tm) st.bx)=Jg sz (eu st.tm x) (eu st.tm p) (eu st.tm q) (eu st.tm m):=rfl;rw[e,hs];exact this
 | V7 l sz bytes s x=>simp only[OG,ah,decide_eq_true_eq]at hc;exact aad h hc.1 hc.2 (hv s (by simp[nH.oV])) (hv x (by simp[nH.oV])) jK
 | WN l sz bytes zs s x=>simp only[OG,ah,decide_eq_true_eq]at hc;exact Y4 h hc.1 hc.2 (hv s (by simp[nH.oV])) (hv x (by simp[nH.oV])) jK
 |Qz sz d x=>exact aaf h hc (hv d (by simp[nH.oV])) (hv x (by simp[nH.oV])) jK
 |XP sz zs x=>exact aae h hc (hv x (by simp[nH.oV])) jK
 |stop=>exact jK.elim
 | RQ ng x=>have hs:(Hu ng (eu st.tm x)).sets=[]:=(by unfold Hu;split<;>rfl);have:=XA (P:=P) h hc (hv x (by simp[nH.oV])) jK;have e:((nH.RQ ng x).f (eu st.tm) st.bx)=Hu ng (eu st.tm x):=rfl;rw[e,hs];exact this
 | Zd x y=>have hs:(Lp (eu st.tm x) (eu st.tm y)).sets=[]:=(by unfold Lp;(repeat' split)<;>rfl);have:=Ze (P:=P) h hc (hv x (by simp[nH.oV])) (hv y (by simp[nH.oV])) jK;have e:((nH.Zd x y).f (eu st.tm) st.bx)=Lp (eu st.tm x) (eu st.tm y):=rfl;rw[e,hs];exact this
 | Zx x y=>have hs:(LU (eu st.tm x) (eu st.tm y)).sets=[]:=(by unfold LU;(repeat' split)<;>rfl);have:=Zy (P:=P) h hc (hv x (by simp[nH.oV])) (hv y (by simp[nH.oV])) jK;have e:((nH.Zx x y).f (eu st.tm) st.bx)=LU (eu st.tm x) (eu st.tm y):=rfl;rw[e,hs];exact this
 | ovl x y=>have hs:(Uf (eu st.tm x) (eu st.tm y) st.bx).sets=[]:=(by unfold Uf;(repeat' split)<;>rfl);have:=ace (P:=P) h hc (hv x (by simp[nH.oV])) (hv y (by simp[nH.oV])) jK;have e:((nH.ovl x y).f (eu st.tm) st.bx)=Uf (eu st.tm x) (eu st.tm y) st.bx:=rfl;rw[e,hs];exact this
end
end
section
section
variable {P:Program} {E:Env P} {I:IH} {ρ:Ren} {n:Nat} {st:iy} {a:Act} {w:World}
def AK (E:Env P)(n:Nat)(K:iy->Prop):Act->World->Prop:=λa w=>∃I ρ st,K st/\GX E I ρ n st a w
theorem aeC (h:GX E I ρ n st a w){bs:List Nat}{v:Value}{x y:AC}(hx:GC I ρ v x)(hc:Cv st.bx x y)(hb:∀b,b∈o8 [x]->b∈bs):GC (BU I ρ w st.bx bs) ρ v y:=by
 have hle:=Fa (st:=st) h.bx bs;cases hc with
 |refl=>exact hx.mono hle (Ren.le_refl ρ)
 | jC sz=>simp only[GC]at hx;subst hx;exact Rd.sl none 0 0 _ [] (λ_ _=>undef) rfl (au _) (by simp[maxLen]) (by simp) (by simp) (by intro ad h;cases h) (by simp)
 |own b m sz es harr hm=>exact TW h (hb b (by simp[o8])) harr hm hx
theorem Dv {x:AC}{xs:List AC}{b:Nat} : b∈o8 (x::xs)<->b∈o8 [x]\/b∈o8 xs:=by cases x<;>simp[o8]
theorem adN (h:GX E I ρ n st a w){bs:List Nat}{vs:List Value}{xs ys:List AC}(hx:Jo I ρ vs xs)(hc:CvL st.bx xs ys)(hb:∀b,b∈o8 xs->b∈bs):Jo (BU I ρ w st.bx bs) ρ vs ys:=by
 induction hc generalizing vs with
 |nil=>exact⟨hx.1,λj v x hv hx=>by simp at hx⟩
 | cons hxy ht ih=>
   rename_i x y xs ys;cases vs with
   |nil=>have:=hx.1;simp at this
   | cons v vs=>
     have i1:=ih (vs:=vs) ⟨by simpa using hx.1,λj u z hu hz=>hx.2 (j+1) u z (by simpa using hu) (by simpa using hz)⟩ (λb hb'=>hb b (Dv.2 (.inr hb')));have i0:=aeC h (hx.2 0 v x rfl rfl) hxy (λb hb'=>hb b (Dv.2 (.inl hb')));refine⟨by simp[i1.1],λj u z hu hz=>?_⟩;cases j with
     |zero=>simp at hu hz;subst hu;subst hz;exact i0
     |succ j=>exact i1.2 j u z (by simpa using hu) (by simpa using hz)
theorem ae6 (h:GX E I ρ n st a w){bs:List Nat}{v:Value}{x y:AV}(hx:GV I ρ v x)(hc:CvA st.bx x y)(hb:∀b,b∈x.owns->b∈bs):GV (BU I ρ w st.bx bs) ρ v y:=by
 cases hc with
 |one hxy=>exact aeC h hx hxy hb
 |agg hxy=>obtain⟨cs,rfl,hg⟩:=hx;exact⟨cs,rfl,adN h hg hxy hb⟩
theorem PV (h:GX E I ρ n st a w){bs:List Nat}{vs:List Value}{xs ys:List AV}(hx:UQ I ρ vs xs)(hc:J3 st.bx xs ys)(hb:∀b,b∈xs.flatMap AV.owns->b∈bs):UQ (BU I ρ w st.bx bs) ρ vs ys:=by
 induction hc generalizing vs with
 |nil=>exact⟨hx.1,λj v x hv hx=>by simp at hx⟩
 | cons hxy ht ih=>
   rename_i x y xs ys;cases vs with
   |nil=>have:=hx.1;simp at this
   | cons v vs=>
     have i1:=ih (vs:=vs) ⟨by simpa using hx.1,λj u z hu hz=>hx.2 (j+1) u z (by simpa using hu) (by simpa using hz)⟩ (λb hb'=>hb b (by rw[bF];exact jX _ hb'));have i0:=ae6 h (hx.2 0 v x rfl rfl) hxy (λb hb'=>hb b (by rw[bF];exact mO _ hb'));refine⟨by simp[i1.1],λj u z hu hz=>?_⟩;cases j with
     |zero=>simp at hu hz;subst hu;subst hz;exact i0
     |succ j=>exact i1.2 j u z (by simpa using hu) (by simpa using hz)
theorem Xu {I J:IH}{ρ σ:Ren}{v:Value}{x:AC}(h:GC I ρ v x)(hl:x.isLit=true):GC J σ v x:=by
 cases x with
 | c y=>
   cases y with
   |lit u=>cases h with|lit v hv=>exact Rd.lit _ hv
   |str l=>cases h with|str l hl=>exact Rd.str _ hl
   |sl sz es=>cases hl
 |_=>cases hl
theorem Ym {I J:IH}{ρ σ:Ren}{vs:List Value}{xs:List AC}(h:Jo I ρ vs xs)(hl:xs.all AC.isLit=true):Jo J σ vs xs:=
 ⟨h.1,λj v x hv hx=>Xu (h.2 j v x hv hx) (bg.1 hl x (iM hx))⟩
theorem afe {I J:IH}{ρ σ:Ren}{v:Value}{x:AV}(h:GV I ρ v x)(hl:x.all AC.isLit=true):GV J σ v x:=by
 cases x with
 |one x=>exact Xu h hl
 |agg xs=>obtain⟨cs,rfl,hg⟩:=h;exact⟨cs,rfl,Ym hg hl⟩
 | wu ps=>
   obtain⟨vs,rfl,hs,hp⟩:=h;refine⟨vs,rfl,hs,λj v p hv hq=>?_⟩;have h1:=hp j v p hv hq;have h2:=bg.1 hl p (iM hq);unfold GP at h1⊢;split at h1
   ·rename_i hb;rw[if_pos hb];obtain⟨cs,rfl,hg⟩:=h1;exact⟨cs,rfl,Ym hg h2⟩
   ·rename_i hb;rw[if_neg hb];obtain⟨x,hx,hg⟩:=h1;rw[hx]at h2;exact⟨x,hx,Xu hg (by simpa using h2)⟩
theorem TP {I:IH}{ρ σ:Ren}{v:Value}{x:AC}(h:GC I ρ v x)(hl:x.xx=true):GC I σ v x:=by
 cases x with
 |c y=>exact h
 |err g=>exact h
 |_=>cases hl
theorem Vy {I:IH}{ρ σ:Ren}{vs:List Value}{xs:List AC}(h:Jo I ρ vs xs)(hl:xs.all AC.xx=true):Jo I σ vs xs:=
 ⟨h.1,λj v x hv hx=>TP (h.2 j v x hv hx) (bg.1 hl x (iM hx))⟩
theorem Yp {I:IH}{ρ σ:Ren}{v:Value}{x:AV}(h:GV I ρ v x)(hl:x.all AC.xx=true):GV I σ v x:=by
 cases x with
 |one x=>exact TP h hl
 |agg xs=>obtain⟨cs,rfl,hg⟩:=h;exact⟨cs,rfl,Vy hg hl⟩
 | wu ps=>
   obtain⟨vs,rfl,hs,hp⟩:=h;refine⟨vs,rfl,hs,λj v p hv hq=>?_⟩;have h1:=hp j v p hv hq;have h2:=bg.1 hl p (iM hq);unfold GP at h1⊢;split at h1
   ·rename_i hb;rw[if_pos hb];obtain⟨cs,rfl,hg⟩:=h1;exact⟨cs,rfl,Vy hg h2⟩
   ·rename_i hb;rw[if_neg hb];obtain⟨x,hx,hg⟩:=h1;rw[hx]at h2;exact⟨x,hx,TP hg (by simpa using h2)⟩
theorem Vz {I:IH}{ρ σ:Ren}{vs:List Value}{xs:List AV}(h:UQ I ρ vs xs)(hl:xs.all (·.all AC.xx)=true):UQ I σ vs xs:=
 ⟨h.1,λj v x hv hx=>Yp (h.2 j v x hv hx) (bg.1 hl x (iM hx))⟩
theorem SX (b:Nat):DN [] b = .absent:=by simp[DN]
theorem MC {x:Option (Nat×Nat)}(b k:Nat):¬(DN [] b).uses x k:=by rw[SX];exact λh=>h
theorem GX.later (h:GX E I ρ n st a w){w':World}(hF:KR w w' (λ_=>False)):GX E I ρ n st a w':=by have hk:∀k,k<w.heap.size->w'.heap[k]? = w.heap[k]?:= λk hk=>hF.block k hk (λh=>h);refine{ h with agree:=h.agree.other (λk c hc=>hk k (h.agree.lt hc)),bx:=?_,Ht:=h.Ht.trans hF (λ_ _ hf=>hf.elim),tm:=h.tm,size:=h.size,defers:=h.defers };exact BX.step (λ_=>False) h.bx (IH.le_refl I) (Ren.le_refl ρ) (λb _=>⟨rfl,rfl⟩) (λb k _ hu=>hk k ((h.bx.ok b).lt hu)) (λb hb=>hb.elim) (λb k hb=>hb.elim) (λb b' k hb=>hb.elim) (λb k _ hu=>h.bx.fresh b k hu)
theorem ab3 (I:IH)(w:World):BX I (λ_=>none) w (DN []):=
 ⟨λb=>by rw[SX];rfl,λb b' k h=>absurd h (MC b k),λb k h=>absurd h (MC b k)⟩
theorem aa1 (h:GX E I ρ n st a w){f:FuncId}{vs:List Value}{uZ ds:List AV}{r:AV}{d:Option Nat}{K:iy->Prop}(hd':∀x,d=some x->x<n)(hv:UQ I ρ vs uZ)(hc:J3 st.bx uZ ds)(hd:ds.all (·.all AC.xx)=true)(hp:dS P f ds r)(hr:r.all AC.isLit=true)
 (k:K (st.zU d (.v true r))):Calls P f vs.toArray w λe w'=>∃v,e = .returned v/\AK E n K (a.put d v) w':=by
 have hv1:=PV h (bs:=uZ.flatMap AV.owns) hv hc (λb hb=>hb);refine(hp (BU I ρ w st.bx (uZ.flatMap AV.owns)) (λ_=>none) w vs (h.tabs.mono (Fa h.bx _)) (KA h.agree _) (ab3 _ _) (Vz hv1 hd)).mono ?_;rintro e w' ⟨v,J,σ,r',bs,rfl,⟨rfl,rfl⟩,hg,hA,hB,hle,hF,_⟩;have hF':KR w w' (λ_=>False):=⟨hF.os,hF.tape,hF.output,hF.size,λk hk _=>hF.block k hk (λ⟨b,hb⟩=>MC b k hb)⟩;exact⟨v,rfl,I,ρ,_,k,(h.later hF').zU hd' ⟨λ_=>afe hg hr,λe=>by cases e⟩⟩
theorem Y9 (h:GX E I ρ n st a w){f:FuncId}{vs:List Value}{uZ ds:List AV}{r:AV}{d:Option Nat}{K:iy->Prop}(hd':∀x,d=some x->x<n)(hv:UQ I ρ vs uZ)(hc:J3 st.bx uZ ds)(hd:ds.all (·.all AC.xx)=true)(hp:dS P f ds r)(hr:r.all AC.xx=true)
 (k:K ((st.EP (uZ.flatMap AV.owns)).zU d (.v true r))):Calls P f vs.toArray w λe w'=>∃v,e = .returned v/\AK E n K (a.put d v) w':=by
 have hv1:=PV h (bs:=uZ.flatMap AV.owns) hv hc (λb hb=>hb);refine(hp (BU I ρ w st.bx (uZ.flatMap AV.owns)) (λ_=>none) w vs (h.tabs.mono (Fa h.bx _)) (KA h.agree _) (ab3 _ _) (Vz hv1 hd)).mono ?_;rintro e w' ⟨v,J,σ,r',bs,rfl,⟨rfl,rfl⟩,hg,hA,hB,hle,hF,_,hJ,_⟩;have hF':KR w w' (λ_=>False):=⟨hF.os,hF.tape,hF.output,hF.size,λk hk _=>hF.block k hk (λ⟨b,hb⟩=>MC b k hb)⟩;have hJ':∀k,k<w.heap.size->J k=BU I ρ w st.bx (uZ.flatMap AV.owns) k:=λk hk=>hJ k hk (λ⟨b,hb⟩=>MC b k hb);refine⟨v,rfl,J,ρ,_,k,?_⟩;generalize hBS:uZ.flatMap AV.owns=BS at *;have hIJ:I.le J:=IH.le_trans (Fa h.bx BS) hle;have hk:∀k,k<w.heap.size->w'.heap[k]? = w.heap[k]?:= λk hk=>hF'.block k hk (λh=>h);have Iz:∀b k,((st.EP BS).bx b).uses (ρ b) k->(st.bx b).uses (ρ b) k/\¬(∃b' sz es cap,b'∈BS/\st.bx b' = .dat sz es/\ρ b'=some (k,cap)/\cap≠0):=by
  intro b k hu;rw[Au]at hu;by_cases hb:b∈BS
  ·rw[if_pos hb]at hu;cases hx:st.bx b with
   | var xs=>rw[hx]at hu;refine⟨hu,?_⟩;rintro⟨b',sz,es,cap,_,hb',hr',h0⟩;have:=h.bx.inj b b' k (by rw[hx];exact hu) (by rw[hb'];exact⟨cap,hr',h0⟩);subst this;rw[hx]at hb';cases hb'
   | row e l=>rw[hx]at hu;refine⟨hu,?_⟩;rintro⟨b',sz,es,cap,_,hb',hr',h0⟩;have:=h.bx.inj b b' k (by rw[hx];exact hu) (by rw[hb'];exact⟨cap,hr',h0⟩);subst this;rw[hx]at hb';cases hb'
   |dat sz es=>rw[hx]at hu;exact hu.elim
   |EP sz es=>rw[hx]at hu;exact hu.elim
   |absent=>rw[hx]at hu;exact hu.elim
   |dead=>rw[hx]at hu;exact hu.elim
  ·rw[if_neg hb]at hu;refine⟨hu,?_⟩;rintro⟨b',sz,es,cap,hm',hb',hr',h0⟩;have:=h.bx.inj b b' k hu (by rw[hb'];exact⟨cap,hr',h0⟩);subst this;exact hb hm'
 have hfr:∀b k,((st.EP BS).bx b).uses (ρ b) k->J k=none:=λb k hu=>by obtain⟨h1,h2⟩:=Iz b k hu;rw[hJ' k ((h.bx.ok b).lt h1)];unfold BU;rw[if_neg h2];exact h.bx.fresh b k h1
 have hgx:GX E J ρ n (st.EP BS) a w':=by
  refine{ agree:=hA,bx:=⟨λb=>?_,λb b' k hb hb'=>h.bx.inj b b' k (Iz b k hb).1 (Iz b' k hb').1,hfr⟩,tm:=λt ht=>(h.tm t ht).mono hIJ (Ren.le_refl ρ),size:=h.size,defers:=h.defers,Ht:=h.Ht.trans hF' (λ_ _ hf=>hf.elim),own:=λb k hu=>h.own b k (Iz b k hu).1,O0:=IH.le_trans h.O0 hIJ,FQ:=λk hk0 hM=>?_,x8:=h.x8 }
  ·have hok:=(h.bx.ok b).keep hIJ (Ren.le_refl ρ) rfl (λk hu=>hk k ((h.bx.ok b).lt hu));rw[Au];by_cases hb:b∈BS
   ·rw[if_pos hb];cases hx:st.bx b with
    | dat sz es=>rw[hx]at hok;obtain⟨kk,cap,hr',hl,hm,hsz,hcs⟩:=hok;refine⟨kk,cap,hr',hl,hm,hsz,λh0=>?_⟩;obtain⟨cs,e,hw,_,_,hrd⟩:=hcs h0;have hu:(st.bx b).uses (ρ b) kk:=(by rw[hx];exact⟨cap,hr',h0⟩);have hlt:=(h.bx.ok b).lt hu;refine⟨cs,?_,hrd⟩;rw[hJ' kk hlt];unfold BU;rw[if_pos ⟨b,sz,es,cap,hb,hx,hr',h0⟩,<- hk kk hlt,hw]
    |var xs=>rw[hx]at hok;exact hok
    |row e l=>rw[hx]at hok;exact hok
    |EP sz es=>rw[hx]at hok;exact hok
    |absent=>rw[hx]at hok;exact hok
    |dead=>rw[hx]at hok;exact hok
   ·rw[if_neg hb];exact hok
  ·have hlt:k<w.heap.size:=yN hk0 h.Ht.size;rw[hJ' k hlt];unfold BU;rw[if_neg]
   ·exact h.FQ k hk0 hM
   ·rintro⟨b',sz,es,cap,_,hb',hr',h0⟩;rcases h.own b' k (by rw[hb'];exact⟨cap,hr',h0⟩)with h1|h1
    ·omega
    ·exact hM h1
 exact hgx.zU hd' ⟨λ_=>Yp hg hr,λe=>by cases e⟩
end
end
section
section
variable {P:Program} {E:Env P} {I:IH} {ρ:Ren} {n:Nat} {st:iy} {a:Act} {w:World}
theorem Je (l:List (Nat×Box))(st:iy){b:Nat}(h:b ∉ l.map (·.1)):(st.sS l).bx b=st.bx b:=by
 induction l generalizing st with
 |nil=>rfl
 | cons x l ih=>obtain⟨c,x⟩:=x;simp only[bJ,cO,not_or]at h;simp only[iy.sS,ih _ h.2,iy.qH];rw[if_neg h.1]
theorem acA (l:List (Nat×Box))(st:iy)(hn:(l.map (·.1)).Nodup){j b:Nat}{x:Box}(h:l[j]? = some (b,x)):(st.sS l).bx b=x:=by
 induction l generalizing st j with
 |nil=>simp at h
 | cons y l ih=>
   obtain⟨c,y⟩:=y;simp only[bJ,List.nodup_cons]at hn;cases j with
   | zero=>simp at h;obtain⟨rfl,rfl⟩:=h;simp only[iy.sS];rw[Je _ _ hn.1,iy.qH,if_pos rfl]
   | succ j=>simp only[iy.sS];exact ih _ hn.2 (by simpa using h)
theorem TR {π:Nat->Nat}{I:IH}{ρ σ:Ren}{m:Nat}{v:Value}{x:AC}(h:GC I ρ v (ED π x))(hl:x.vM m=true)(hs:∀b y,b<m->ρ (π b)=some y->σ b=some y):GC I σ v x:=by
 cases x with
 |c y=>exact h
 |ptr b off=>obtain⟨k,cap,h1,h2⟩:=h;exact⟨k,cap,hs _ _ (by simpa[AC.vM]using hl) h1,h2⟩
 |own b n sz=>obtain⟨k,cap,a,c,h1,h2⟩:=h;exact⟨k,cap,a,c,hs _ _ (by simpa[AC.vM]using hl) h1,h2⟩
 |sub b lo n c sz=>obtain⟨k,cap,a,c',h1,h2⟩:=h;exact⟨k,cap,a,c',hs _ _ (by simpa[AC.vM]using hl) h1,h2⟩
 |opt T b=>obtain⟨k,h1,h2⟩:=h;exact⟨k,hs _ _ (by simpa[AC.vM]using hl) h1,h2⟩
 |vS b n=>obtain⟨k,cap,h1,h2⟩:=h;exact⟨k,cap,hs _ _ (by simpa[AC.vM]using hl) h1,h2⟩
 |zI b i sz off=>obtain⟨k,cap,h1,h2⟩:=h;exact⟨k,cap,hs _ _ (by simpa[AC.vM]using hl) h1,h2⟩
 |jC sz=>exact h
 |Gh cs=>exact h
 |err g=>exact h
 |IZ=>exact h
 | fn f caps=>obtain⟨ks,h1,h2,h3⟩:=h;refine⟨ks,by simpa using h1,λj b k hb hk=>?_,h3⟩;obtain⟨cap,hc⟩:=h2 j (π b) k (by simp[hb]) hk;refine⟨cap,hs _ _ ?_ hc⟩;have:=bg.1 hl b (iM hb);simpa using this
theorem Yo {π:Nat->Nat}{I:IH}{ρ σ:Ren}{m:Nat}{vs:List Value}{xs:List AC}(h:Jo I ρ vs (xs.map (ED π)))(hl:xs.all (AC.vM m)=true)(hs:∀b y,b<m->ρ (π b)=some y->σ b=some y):Jo I σ vs xs:=
 ⟨by simpa using h.1,λj v x hv hx=>TR (h.2 j v (ED π x) hv (by simp[hx])) (bg.1 hl x (iM hx)) hs⟩
theorem afg {π:Nat->Nat}{I:IH}{ρ σ:Ren}{m:Nat}{v:Value}{x:AV}(h:GV I ρ v (DJ π x))(hl:x.all (AC.vM m)=true)(hs:∀b y,b<m->ρ (π b)=some y->σ b=some y):GV I σ v x:=by
 cases x with
 |one x=>exact TR h hl hs
 |agg xs=>obtain⟨cs,rfl,hg⟩:=h;exact⟨cs,rfl,Yo hg hl hs⟩
 | wu ps=>
   obtain⟨vs,rfl,hz,hp⟩:=h;refine⟨vs,rfl,by simpa using hz,λj v p hv hq=>?_⟩;have h1:=hp j v _ hv (by rw[fQ,hq];rfl);have h2:=bg.1 hl p (iM hq);unfold GP at h1⊢;simp only at h1;split at h1
   ·rename_i hb;rw[if_pos hb];obtain⟨cs,rfl,hg⟩:=h1;exact⟨cs,rfl,Yo hg h2 hs⟩
   ·rename_i hb;rw[if_neg hb];obtain⟨x,hx,hg⟩:=h1;cases hp2:p.2 with
    |nil=>rw[hp2]at hx;simp at hx
    | cons y t=>rw[hp2]at hx h2;simp at hx;obtain⟨rfl,rfl⟩:=hx;exact⟨y,rfl,TR hg (by simpa using h2) hs⟩
theorem TQ {π:Nat->Nat}{I:IH}{ρ σ:Ren}{v:Value}{x:AC}(h:GC I σ v x)(hs:∀b y,σ b=some y->ρ (π b)=some y):GC I ρ v (ED π x):=by
 cases x with
 |c y=>exact h
 |ptr b off=>obtain⟨k,cap,h1,h2⟩:=h;exact⟨k,cap,hs _ _ h1,h2⟩
 |own b n sz=>obtain⟨k,cap,a,c,h1,h2⟩:=h;exact⟨k,cap,a,c,hs _ _ h1,h2⟩
 |sub b lo n c sz=>obtain⟨k,cap,a,c',h1,h2⟩:=h;exact⟨k,cap,a,c',hs _ _ h1,h2⟩
 |opt T b=>obtain⟨k,h1,h2⟩:=h;exact⟨k,hs _ _ h1,h2⟩
 |vS b n=>obtain⟨k,cap,h1,h2⟩:=h;exact⟨k,cap,hs _ _ h1,h2⟩
 |zI b i sz off=>obtain⟨k,cap,h1,h2⟩:=h;exact⟨k,cap,hs _ _ h1,h2⟩
 |jC sz=>exact h
 |Gh cs=>exact h
 |err g=>exact h
 |IZ=>exact h
 | fn f caps=>
   obtain⟨ks,h1,h2,h3⟩:=h;refine⟨ks,by simpa using h1,λj b k hb hk=>?_,h3⟩;rw[fQ]at hb;cases hc:caps[j]? with
   |none=>rw[hc]at hb;cases hb
   | some c=>rw[hc]at hb;simp at hb;subst hb;obtain⟨cap,hc'⟩:=h2 j c k hc hk;exact⟨cap,hs _ _ hc'⟩
theorem Yn {π:Nat->Nat}{I:IH}{ρ σ:Ren}{vs:List Value}{xs:List AC}(h:Jo I σ vs xs)(hs:∀b y,σ b=some y->ρ (π b)=some y):Jo I ρ vs (xs.map (ED π)):=by
 refine⟨by simpa using h.1,λj v x hv hx=>?_⟩;rw[fQ]at hx;cases hc:xs[j]? with
 |none=>rw[hc]at hx;cases hx
 | some c=>rw[hc]at hx;simp at hx;subst hx;exact TQ (h.2 j v c hv hc) hs
theorem aff {π:Nat->Nat}{I:IH}{ρ σ:Ren}{v:Value}{x:AV}(h:GV I σ v x)(hs:∀b y,σ b=some y->ρ (π b)=some y):GV I ρ v (DJ π x):=by
 cases x with
 |one x=>exact TQ h hs
 |agg xs=>obtain⟨cs,rfl,hg⟩:=h;exact⟨cs,rfl,Yn hg hs⟩
 | wu ps=>
   obtain⟨vs,rfl,hz,hp⟩:=h;refine⟨vs,rfl,by simpa using hz,λj v p hv hq=>?_⟩;rw[fQ]at hq;cases hc:ps[j]? with
   |none=>rw[hc]at hq;cases hq
   | some q=>
     rw[hc]at hq;simp at hq;subst hq;have h1:=hp j v q hv hc;unfold GP at h1⊢;simp only;split at h1
     ·rename_i hb;rw[if_pos hb];obtain⟨cs,rfl,hg⟩:=h1;exact⟨cs,rfl,Yn hg hs⟩
     ·rename_i hb;rw[if_neg hb];obtain⟨x,hx,hg⟩:=h1;exact⟨ED π x,by rw[hx];rfl,TQ hg hs⟩
theorem Y8 {π:Nat->Nat}{I:IH}{ρ σ:Ren}{m:Nat}{w:World}{b:Nat}{x:Box}(h:Dl I ρ w (π b) (Dh π x))(hl:x.vM m=true)(hb:σ b=ρ (π b))(hs:∀b y,b<m->ρ (π b)=some y->σ b=some y):Dl I σ w b x:=by
 cases x with
 |absent=>exact hb.trans h
 |dead=>trivial
 | var xs=>obtain⟨k,cap,cs,hr,hw,hz,hc⟩:=h;refine⟨k,cap,cs,hb.trans hr,hw,by simpa using hz,λj u x hu hx=>TR (hc j u (ED π x) hu (by simp[hx])) (bg.1 hl x (iM hx)) hs⟩
 |dat sz es=>obtain⟨k,cap,hr,h⟩:=h;exact⟨k,cap,hb.trans hr,h⟩
 |row e l=>obtain⟨k,cap,hr,h⟩:=h;exact⟨k,cap,hb.trans hr,h⟩
 |EP sz es=>obtain⟨k,cap,hr,h⟩:=h;exact⟨k,cap,hb.trans hr,h⟩
theorem Y7 {π:Nat->Nat}{I:IH}{ρ σ:Ren}{w:World}{b:Nat}{x:Box}(h:Dl I σ w b x)(hb:ρ (π b)=σ b)(hs:∀b y,σ b=some y->ρ (π b)=some y):Dl I ρ w (π b) (Dh π x):=by
 cases x with
 |absent=>exact hb.trans h
 |dead=>trivial
 | var xs=>
   obtain⟨k,cap,cs,hr,hw,hz,hc⟩:=h;refine⟨k,cap,cs,hb.trans hr,hw,by simpa using hz,λj u x hu hx=>?_⟩;rw[fQ]at hx;cases hc':xs[j]? with
   |none=>rw[hc']at hx;cases hx
   | some c=>rw[hc']at hx;simp at hx;subst hx;exact TQ (hc j u c hu hc') hs
 |dat sz es=>obtain⟨k,cap,hr,h⟩:=h;exact⟨k,cap,hb.trans hr,h⟩
 |row e l=>obtain⟨k,cap,hr,h⟩:=h;exact⟨k,cap,hb.trans hr,h⟩
 |EP sz es=>obtain⟨k,cap,hr,h⟩:=h;exact⟨k,cap,hb.trans hr,h⟩
theorem Hg {π:Nat->Nat}{x:Box}{p:Option (Nat×Nat)}{k:Nat} : (Dh π x).uses p k<->x.uses p k:=by cases x<;>exact Iff.rfl
theorem X9 {l:List Box}{b:Nat}(h:b<l.length):l[b]? = some (DN l b):=by unfold DN;rw[qh,aB h];rfl
theorem CZ {l:List Box}{b:Nat}(h:l.length<=b):DN l b = .absent:=by unfold DN;rw[qh,nG h];rfl
theorem Vb (h:GX E I ρ n st a w)(hm:E.m<=10){f:FuncId}{vs:List Value}{uZ ds:List AV}{d:Option Nat}{K:iy->Prop}{fp:List Box}{L nu:List Nat}{post:AV->List Box->Prop}{sg:List Nat}(hL:sg++nu=L)(hd':∀x,d=some x->x<n)(hv:UQ I ρ vs uZ)
 (hl:sg.length=fp.length) (hn:L.Nodup) (hf:∀i,i<fp.length->st.bx (L.getD i 0)=Dh (λb=>L.getD b 0) (fp.getD i .absent))
 (hnu:∀b,b∈nu->st.bx b = .absent/\10<=b) (hra:(ds.all λx=>x.all (AC.vM fp.length))=true) (hrf:fp.all (Box.vM fp.length)=true) (ha:uZ=ds.map (DJ λb=>L.getD b 0)) (hp:lD P f ds fp post)
 (k:∀r bs,post r bs->bs.length=L.length/\K ((st.sS (L.zip (bs.map (Dh λb=>L.getD b 0)))).zU d (.v true (DJ (λb=>L.getD b 0) r)))) :
 Calls P f vs.toArray w λe w'=>∃v,e = .returned v/\AK E n K (a.put d v) w':=by
 generalize hπ:(λb=>L.getD b 0)=π at hf ha k;have agk:∀b,L.getD b 0=π b:=λb=>congrFun hπ b;have hLl:fp.length<=L.length:=by rw[<- hL];simp;omega
 have Qd:∀b,b<L.length->L[b]? = some (π b):=λb hb=>by rw[<- agk,qh,aB hb];rfl
 have abC:∀b,b<L.length->π b∈L:=λb hb=>iM (Qd b hb);have abB:∀b b',b<L.length->b'<L.length->π b=π b'->b=b':=λb b' hb hb' e=>by
  have h1:=Qd b hb;have h2:=Qd b' hb';rw[aB hb]at h1;rw[aB hb']at h2;simp at h1 h2;have hpw:=List.pairwise_iff_getElem.1 hn;rcases Nat.lt_trichotomy b b' with hlt|heq|hlt
  ·exact absurd (by rw[h1,h2,e]) (hpw b b' hb hb' hlt)
  ·exact heq
  ·exact absurd (by rw[h1,h2,e]) (hpw b' b hb' hb hlt)
 let ρc:Ren:=λb=>if b<fp.length then ρ (π b)else none
 have hs:∀b y,b<fp.length->ρ (π b)=some y->ρc b=some y:=λb y hb e=>by simp[ρc,hb,e]
 have hfb:∀b,b<fp.length->st.bx (π b)=Dh π (DN fp b):=λb hb=>by have:=hf b hb;rw[agk]at this;exact this
 have hub:∀b k,(DN fp b).uses (ρc b) k->b<fp.length/\(st.bx (π b)).uses (ρ (π b)) k:=λb k hu=>by
  by_cases hb:b<fp.length
  ·refine⟨hb,?_⟩;rw[hfb b hb,Hg];simpa[ρc,hb]using hu
  ·rw[CZ (by omega)]at hu;exact hu.elim
 have hBX:BX I ρc w (DN fp):=by
  refine⟨λb=>?_,λb b' k hb hb'=>?_,λb k hb=>?_⟩
  ·by_cases hb:b<fp.length
   ·have:=h.bx.ok (π b);rw[hfb b hb]at this;exact Y8 this (bg.1 hrf _ (iM (X9 hb))) (by simp[ρc,hb]) hs
   ·rw[CZ (by omega)];show ρc b=none;simp[ρc,hb]
  ·obtain⟨h1,h2⟩:=hub b k hb;obtain⟨h1',h2'⟩:=hub b' k hb';exact abB b b' (by omega) (by omega) (h.bx.inj _ _ _ h2 h2')
  ·exact h.bx.fresh _ _ (hub b k hb).2
 have hGV:UQ I ρc vs ds:=by subst ha;refine⟨by simpa using hv.1,λj v x hv' hx=>?_⟩;exact afg (hv.2 j v (DJ π x) hv' (by simp[hx])) (bg.1 hra x (iM hx)) hs
 refine(hp I ρc w vs h.tabs h.agree hBX hGV).mono ?_;rintro e w' ⟨v,J,σ,r,bs,rfl,hpost,hg,hA,hB,hle,hF,hbw,hJ,hσ⟩;obtain⟨hbl,hk⟩:=k r bs hpost;refine⟨v,rfl,?_⟩;have ahd:∀b,L.length<=b->σ b=none:=λb hb=>by have:=hB.ok b;rw[CZ (by omega)]at this;exact this
 let ρ':Ren:=λb=>open Classical in if b∈L then σ (L.idxOf b)else ρ b
 have LQ:∀b,b<L.length->ρ' (π b)=σ b:=λb hb=>by
  have h1:=abC b hb;simp only[ρ',h1,if_true];have hi:=List.idxOf_lt_length_of_mem h1;have h2:L[L.idxOf (π b)]? = some (π b):=by rw[aB hi];simp
  have h3:=Qd _ hi;rw[h2]at h3;simp only[aJ]at h3;rw[<- abB _ _ hb hi h3]
 have VE:∀b,b ∉ L->ρ' b=ρ b:=λb hb=>by simp[ρ',hb]
 have hin:∀b,b∈L->∃i,i<L.length/\π i=b:=λb hb=>by
  have hi:=List.idxOf_lt_length_of_mem hb;refine⟨_,hi,?_⟩;have h2:L[L.idxOf b]? = some b:=by rw[aB hi];simp
  have h3:=Qd _ hi;rw[h2]at h3;simpa using h3.symm
 have aeG:∀i,fp.length<=i->i<L.length->π i∈nu:=λi h1 h2=>by have h3:=Qd i h2;rw[<- hL,fF (by omega)]at h3;exact iM h3
 have hle':ρ.le ρ':=λb y hb=>by
  by_cases hm':b∈L
  ·obtain⟨i,hi,rfl⟩:=hin b hm';rw[LQ i hi];by_cases hif:i<fp.length
   ·rw[hσ i hif];exact hs i y hif hb
   ·have h1:=(hnu _ (aeG i (by omega) hi)).1;have h2:=h.bx.ok (π i);rw[h1]at h2;rw[show ρ (π i)=none from h2]at hb;cases hb
  ·rw[VE b hm'];exact hb
 have agh:∀b y,σ b=some y->ρ' (π b)=some y:=λb y hb=>by
  by_cases hbL:b<L.length
  ·rw[LQ b hbL];exact hb
  ·rw[ahd b (by omega)]at hb;cases hb
 have hlz:(L.zip (bs.map (Dh π))).map (·.1)=L:=by rw[List.map_fst_zip];simp[hbl]
 have Zv:∀i,i<L.length->(st.sS (L.zip (bs.map (Dh π)))).bx (π i)=Dh π (DN bs i):=λi hi=>by refine acA _ _ (by rw[hlz];exact hn) (j:=i) ?_;rw[yY];exact⟨Qd i hi,by rw[fQ,X9 (by omega)];rfl⟩
 have hbx2:∀b,b ∉ L->(st.sS (L.zip (bs.map (Dh π)))).bx b=st.bx b:=λb hb=>Je _ _ (by rw[hlz];exact hb);have hnot:∀b k,b ∉ L->(st.bx b).uses (ρ b) k->k<w.heap.size/\¬ ∃b',(DN fp b').uses (ρc b') k:=λb k hb hu=>by refine⟨(h.bx.ok b).lt hu,?_⟩;rintro⟨b',hb'⟩;obtain⟨h1,h2⟩:=hub b' k hb';have:=h.bx.inj _ _ _ hu h2;exact hb (this▸abC b' (by omega))
 have hother:∀b k,b ∉ L->(st.bx b).uses (ρ b) k->w'.heap[k]? = w.heap[k]?:= λb k hb hu=>let ⟨h1,h2⟩:=hnot b k hb hu;hF.block k h1 h2;have af9:∀i k,i<L.length->(DN bs i).uses (σ i) k->∀b,b ∉ L->¬(st.bx b).uses (ρ b) k:=λi k hi hu b hb hu'=>by
  obtain⟨h1,h2⟩:=hnot b k hb hu';rcases hbw i k hu with h3|h3
  ·omega
  ·exact h2 h3
 generalize hst:st.sS (L.zip (bs.map (Dh π)))=st' at *;have htm:st'.tm=st.tm:=by rw[<- hst,MO]
 have hgx:GX E J ρ' n st' a w':=by
  refine{ agree:=hA,bx:=⟨λb=>?_,λb b' k hb hb'=>?_,λb k hb=>?_⟩,tm:=λt ht=>?_,size:=h.size,defers:=h.defers,Ht:=?_,own:=λb k hb=>?_,O0:=IH.le_trans h.O0 hle,FQ:=λk hk0 hM=>?_,x8:=λb hb=>?_ }
  ·by_cases hb:b∈L
   ·obtain⟨i,hi,rfl⟩:=hin b hb;rw[Zv i hi];exact Y7 (hB.ok i) (LQ i hi) agh
   ·rw[hbx2 b hb];exact(h.bx.ok b).keep hle hle' (VE b hb) (λk hu=>hother b k hb hu)
  ·by_cases hbL:b∈L
   ·obtain⟨i,hi,rfl⟩:=hin b hbL;rw[Zv i hi,Hg,LQ i hi]at hb;by_cases VC:b'∈L
    ·obtain⟨i',hi',rfl⟩:=hin b' VC;rw[Zv i' hi',Hg,LQ i' hi']at hb';rw[hB.inj _ _ _ hb hb']
    ·rw[hbx2 b' VC,VE b' VC]at hb';exact absurd hb' (af9 i k hi hb b' VC)
   ·rw[hbx2 b hbL,VE b hbL]at hb;by_cases VC:b'∈L
    ·obtain⟨i',hi',rfl⟩:=hin b' VC;rw[Zv i' hi',Hg,LQ i' hi']at hb';exact absurd hb (af9 i' k hi' hb' b hbL)
    ·rw[hbx2 b' VC,VE b' VC]at hb';exact h.bx.inj _ _ _ hb hb'
  ·by_cases hbL:b∈L
   ·obtain⟨i,hi,rfl⟩:=hin b hbL;rw[Zv i hi,Hg,LQ i hi]at hb;exact hB.fresh _ _ hb
   ·rw[hbx2 b hbL,VE b hbL]at hb;obtain⟨h1,h2⟩:=hnot b k hbL hb;rw[hJ k h1 h2];exact h.bx.fresh _ _ hb
  ·rw[htm];exact(h.tm t ht).mono hle hle'
  ·refine h.Ht.trans hF ?_;rintro x hx ⟨b',hb'⟩;rcases h.own _ _ (hub b' x hb').2 with h1|h1
   ·omega
   ·exact h1
  ·by_cases hbL:b∈L
   ·obtain⟨i,hi,rfl⟩:=hin b hbL;rw[Zv i hi,Hg,LQ i hi]at hb;rcases hbw i k hb with h1|⟨b',hb'⟩
    ·exact .inl (ig h.Ht.size h1)
    ·exact h.own _ _ (hub b' k hb').2
   ·rw[hbx2 b hbL,VE b hbL]at hb;exact h.own _ _ hb
  ·rw[hJ k (yN hk0 h.Ht.size)]
   ·exact h.FQ k hk0 hM
   ·rintro⟨b',hb'⟩;rcases h.own _ _ (hub b' k hb').2 with h1|h1
    ·omega
    ·exact hM h1
  ·by_cases hbL:b∈L
   ·obtain⟨i,hi,rfl⟩:=hin b hbL;rw[LQ i hi];by_cases hif:i<fp.length
    ·rw[hσ i hif,<- h.x8 _ hb];simp[ρc,hif]
    ·have:=(hnu _ (aeG i (by omega) hi)).2;omega
   ·rw[VE b hbL];exact h.x8 b hb
 exact⟨J,ρ',_,hk,hgx.zU hd' ⟨λ_=>aff hg agh,λe=>by cases e⟩⟩
end
end
section
section
variable {P:Program} {E:Env P} {I:IH} {ρ:Ren} {n:Nat} {st:iy} {a:Act} {w:World}
def Lm (n:Nat):List Operand->List oW->Bool
 |[],[]=>true
 |x::xs,y::ys=>kU n x y&&Lm n xs ys
 |_,_=>false
def PD (n:Nat)(ops:Array Oper):Option (Nat×Bool)->Option (Nat×Bool)->Bool
 |none,none=>true
 |some (j,w),some (s,w')=>w==w'&&decide (s<n)&&(match ops[j]? with|some o=>o.dst==some s|none=>false)
 |_,_=>false
def Xd (n:Nat):Option Nat->Option Nat->Bool
 |none,none=>true
 |some x,some y=>x==y&&decide (x<n)
 |_,_=>false
def Xe (P:Program)(n m:Nat)(op:Op)(d:Option Nat):O9->Bool
 |.op ao=>OG P n m op d ao
 | .call f args=>match op with
   |.call ⟨.value (.func f'),az,_⟩=>f'==f&&Lm n az.toList args&&zT P f
   |_=>false
 | .FX x args=>match op with
   |.call ⟨.value x',az,_⟩=>kU n x' x&&Lm n az.toList args
   |_=>false
def OY (P:Program)(n m:Nat)(ops:Array Oper)(o:Oper)(ao:mQ):Bool:=
 PD n ops o.guard ao.g&&Xd n o.dst ao.d&&Xe P n m o.op o.dst ao.i
theorem Ue (h:GX E I ρ n st a w):∀{xs:List Operand} {ys:List oW},Lm n xs ys=true->(∀y,y∈ys->(y.ev st.tm).g=true) ->
 UQ I ρ (xs.map a.eval) (ys.map (eu st.tm))
 |[],[],_,_=>⟨rfl,λj v x hv hx=>by simp at hv⟩
 | x::xs,y::ys,hc,hg=>by
   simp only[Lm,ah]at hc;have ih:=Ue h hc.2 (λy hy=>hg y (dF _ hy));refine⟨by simpa using ih.1,λj v z hv hz=>?_⟩;cases j with
   | zero=>simp at hv hz;subst hv;subst hz;exact og h hc.1 (hg y (bz ..))
   |succ j=>exact ih.2 j v z (by simpa using hv) (by simpa using hz)
 |[],_::_,hc,_=>by cases hc
 |_::_,[],hc,_=>by cases hc
theorem afa {d d':Option Nat}(h:Xd n d d'=true):d=d'/\∀x,d'=some x->x<n:=by
 unfold Xd at h;split at h
 ·exact⟨rfl,λx hx=>by cases hx⟩
 ·simp only[ah,beq_iff_eq,decide_eq_true_eq]at h;obtain⟨rfl,h2⟩:=h;exact⟨rfl,λx hx=>by cases hx;exact h2⟩
 ·cases h
theorem abo (h:GX E I ρ n st a w){ops:Array Oper}{o:Oper}{g:Option (Nat×Bool)}(hc:PD n ops o.guard g=true)(hv:CV st.tm g) :
 zZ o (yielded ops a.tmps)=uI st.tm g:=by
 unfold PD at hc;split at hc
 ·rename_i e;simp[zZ,e,uI]
 ·rename_i j wnt s aiv e;simp only[ah,beq_iff_eq,decide_eq_true_eq]at hc;obtain⟨⟨rfl,hs⟩,hj⟩:=hc;have hb:(ops[j]?).bind (·.dst)=some s:=by
   cases hoj:ops[j]? with
   |none=>rw[hoj]at hj;cases hj
   |some o'=>rw[hoj]at hj;simpa using hj
  have ht:=h.tm s hs;have hsz:s<a.tmps.size:=by rw[h.size];exact hs
  have hget:a.tmps[s]? = some (a.tmps.getD s undef):=by simp[Array.getD,hsz]
  simp only[zZ,e,uI,yielded,hb,Option.bind_some,hget];simp only[CV]at hv;split at hv
  ·rename_i x hg;rw[hg]at ht;have:=ht.2 rfl;rw[this,hg];simp[undef]
  ·rename_i b hg;rw[hg]at ht;have:=Jv (ht.1 rfl);rw[this,hg];simp
  ·exact hv.elim
 ·cases hc
theorem Vm {o:Oper}{x:Operand}{az:Array Operand}{ts:Array TypeId}{f:FuncId}{caps:Array Value}(ho:o.op = .call ⟨.value x,az,ts⟩)(hx:a.eval x = .func (.func f) #[] caps)(hf:zT P f=true) :
 (execOp a.eval o).run P w = .ok (.enter f (az.map a.eval++caps)) w:=by
 unfold zT at hf;cases hp:P.funcs[f]? with
 |none=>rw[hp]at hf;cases hf
 | some fn=>
   rw[hp]at hf;simp only[ah,xk]at hf;obtain⟨h1,h2⟩:=hf;have h1':¬fn.name = "runtime.NumGoroutine" :=by simpa using h1
   obtain⟨b,hb⟩:=Option.isSome_iff_exists.1 h2;simp[execOp,ho,resolve,hx,yA,invoke,callFunc,hp,h1',hb]
theorem QS {o:Oper}{f:FuncId}{args:Array Value}{K:Act->World->Prop}{Q:Exit->Act->World->Prop}(he:(execOp a.eval o).run P w = .ok (.enter f args) w)
 (h:Calls P f args w λe w'=>∃v,e = .returned v/\K (a.put o.dst v) w'):o.wp P a w K Q:=by
 unfold Go.Oper.wp;rw[he,Oper.upon_enter];refine h.mono ?_;rintro e w' ⟨v,rfl,hk⟩;exact hk
theorem Oy (h:GX E I ρ n st a w)(hm:E.m<=10){f:FuncId}{vs:List Value}{uZ:List AV}{d:Option Nat}{K:List Nat->List Nat->iy->Prop}(hd:∀x,d=some x->x<n)(hv:UQ I ρ vs uZ)
 (hT:La P f uZ true d st K):Calls P f vs.toArray w λe w'=>∃v,e = .returned v/\AK E n (λst=>∃rd wr,K rd wr st) (a.put d v) w':=by
 cases hT with
 |lit ds r hc hds hh hr k=>exact aa1 h hd hv (hc rfl) hds (hh rfl) hr ⟨_,_,k⟩
 |pure ds r hp hc hds hh hr k=>exact Y9 h hd hv hc hds hh hr ⟨_,_,k⟩
 | OH hp az hc ds fp sg nu post hl hn hf hne hnu hra hrf ha hh k=>have hv':=PV h (bs:=uZ.flatMap AV.owns) hv hc (λb hb=>hb);have h':=h.freeze (uZ.flatMap AV.owns);refine Vb h' hm rfl hd hv' hl hn hf (λb hb=>⟨?_,(hnu b hb).2⟩) hra hrf ha hh (λr bs hpo=>⟨(k r bs hpo).1,_,_,(k r bs hpo).2⟩);rw[Au,(hnu b hb).1];split<;>rfl
 |gen hp ds fp sg nu post hl hn hf hne hnu hra hrf ha hh k=>exact Vb h hm rfl hd hv hl hn hf hnu hra hrf ha hh (λr bs hpo=>⟨(k r bs hpo).1,_,_,(k r bs hpo).2⟩)
theorem QM {f:FuncId}{uZ:List AV}{d:Option Nat}{K:List Nat->List Nat->iy->Prop}(hT:La P f uZ false d st K):∃r rd wr,K rd wr (st.zU d (.v false r)):=by
 cases hT with
 |lit ds r hc hds hh hr k=>exact⟨_,_,_,k⟩
 |pure ds r hp=>cases hp
 |gen hp=>cases hp
 |OH hp=>cases hp
def UH (P:Program)(ops:Array Oper)(Q:Exit->Act->World->Prop)(o:Oper)(K:Act->World->Prop)(a:Act)(w:World):Prop:=
 if zZ o (yielded ops a.tmps)then o.wp P a w K Q\/(o.asks P a w/\LetsOut Q)else K (a.put o.dst undef) w
theorem AK.imp {K K':iy->Prop}(hk:∀st,K st->K' st){a:Act}{w:World}(h:AK E n K a w):AK E n K' a w:=
 let ⟨I,ρ,st,h1,h2⟩:=h;⟨I,ρ,st,hk _ h1,h2⟩
theorem X7 (h:GX E I ρ n st a w)(hm:E.m<=10){ops:Array Oper}{Q:Exit->Act->World->Prop}{o:Oper}{ao:mQ}(hc:OY P n E.m ops o ao=true){K:List Nat->List Nat->iy->Prop}(hT:T P ao st K) :
 UH P ops Q o (AK E n λst=>∃rd wr,K rd wr st) a w:=by
 simp only[OY,ah]at hc;obtain⟨⟨hcg,hcd⟩,hci⟩:=hc;obtain⟨hdd,hdn⟩:=afa hcd;obtain⟨hgv,hT⟩:=hT;have hw:=abo h hcg hgv;have skip:∀r,(∃rd wr,K rd wr (st.zU ao.d (.v false r)))->AK E n (λst=>∃rd wr,K rd wr st) (a.put o.dst undef) w:=λr hk=>⟨I,ρ,_,hk,by rw[hdd];exact h.zU hdn ⟨(λe=>by cases e),λ_=>rfl⟩⟩;unfold UH;rw[hw];cases hi:ao.i with
 | op op=>
   rw[hi]at hT hci;obtain⟨h1,h2⟩:=hT;cases hp:uI st.tm ao.g with
   | false=>simpa using skip _ ⟨_,_,h2 hp⟩
   | true=>
     obtain⟨hv,jK,h3⟩:=h1 hp;obtain⟨v,w',I',ρ',hr,hg,ag8⟩:=acd h hci hv jK;simp only[if_true];refine .inl ?_;have key:AK E n (λst=>∃rd wr,K rd wr st) (a.put o.dst v) w':=by
      refine⟨I',ρ',_,⟨_,_,h3⟩,?_⟩;rw[hdd];cases hd:ao.d with
      |none=>exact hg
      |some d=>exact hg.put (hdn d hd) ⟨λ_=>ag8 (by rw[hdd,hd];simp),λe=>by cases e⟩
     unfold Go.Oper.wp;rcases hr with hr|⟨hr,hnd⟩
     ·rw[hr];exact key
     ·rw[hr,Oper.upon_skip];rw[hnd]at key⊢;exact key
 | call f args=>
   rw[hi]at hT hci;simp only[Xe]at hci;split at hci
   ·rename_i f' az ts ho;simp only[ah,beq_iff_eq]at hci;obtain⟨⟨rfl,hca⟩,hok⟩:=hci;obtain⟨h1,h2⟩:=hT;cases hp:uI st.tm ao.g with
    | false=>rw[hp]at h2;obtain⟨r,hk⟩:=QM h2;simpa using skip r hk
    | true=>rw[hp]at h1 h2;simp only[if_true];refine .inl (QS (Vm ho (x:=.func f') (caps:= #[]) rfl hok) ?_);have hvs:=Ue h hca (h1 rfl);have:=Oy h hm hdn hvs h2;rw[hdd];simpa[<- Array.toList_map]using this
   ·cases hci
 | FX x args=>
   rw[hi]at hT hci;simp only[Xe]at hci;split at hci
   ·rename_i x' az ts ho;simp only[ah]at hci;obtain⟨hcx,hca⟩:=hci;obtain⟨hg0,h2⟩:=hT;cases hp:uI st.tm ao.g with
    | false=>rw[hp]at h2;obtain⟨r,hk⟩:=QM h2;simpa using skip r hk
    |true=>
    rw[hp]at h2;obtain⟨hg1,h1⟩:=hg0 hp;split at h2
    ·rename_i hb;cases hb
    ·rename_i f caps _ hf;obtain⟨hok,h2⟩:=h2;have hx:=og h hcx hg1;rw[hf]at hx;obtain⟨ks,hk1,hk2,hk3⟩:=hx
     ·skip
      simp only[if_true];refine .inl (QS (Vm ho hk3 hok) ?_);have hvs:=Ue h hca h1;have hvs':UQ I ρ (az.toList.map a.eval++ks.map λk=>xK (some ⟨k,0,none⟩)) (args.map (eu st.tm)++caps.map λb=>AV.one (.ptr b 0)):=by
       refine⟨by have:=hvs.1;simp at this;simp[hk1,this],λj v z hv hz=>?_⟩;by_cases hj:j<(az.toList.map a.eval).length
       ·rw[dU hj]at hv;rw[dU (by rw[<- hvs.1];exact hj)]at hz;exact hvs.2 j v z hv hz
       ·rw[fF (by omega)]at hv;rw[fF (by rw[<- hvs.1];omega)]at hz;rw[hvs.1]at hv;generalize j-(args.map (eu st.tm)).length=i at hv hz;rw[fQ]at hv hz;cases hki:ks[i]? with
        |none=>rw[hki]at hv;cases hv
        | some k=>
          cases hci:caps[i]? with
          |none=>rw[hci]at hz;cases hz
          | some b=>rw[hki]at hv;rw[hci]at hz;simp at hv hz;subst hv;subst hz;obtain⟨cap,hr⟩:=hk2 i b k hci hki;exact⟨k,cap,hr,rfl⟩
      have:=Oy h hm hdn hvs' h2;rw[hdd];have e:(az.map a.eval++(ks.map λk=>xK (some ⟨k,0,none⟩)).toArray)=(az.toList.map a.eval++ks.map λk=>xK (some ⟨k,0,none⟩)).toArray:=(by apply Bi;simp);rw[e];exact this
    ·exact h2.elim
   ·cases hci
end
end
section
section
variable {ev ev':oW->AV} {bx bx':Nat->Box}
theorem Ff {o:Option oW}{k:Nat}(h:∀x,o=some x->ev x=ev' x):bnd ev o k=bnd ev' o k:=by
 cases o with
 |none=>rfl
 |some x=>simp only[bnd,h x rfl]
theorem FC {n sz:Nat} : ∀{ps:List (Nat×oW)},(∀p,p∈ps->ev p.2=ev' p.2)->yQ ev bx n sz ps=yQ ev' bx n sz ps/\uQ ev ps=uQ ev' ps/\AO ev bx ps=AO ev' bx ps
 |[],_=>⟨rfl,rfl,rfl⟩
 | (i,x)::r,h=>by obtain⟨h1,h2,h3⟩:=FC (n:=n) (sz:=sz) (ps:=r) (λp hp=>h p (dF _ hp));simp only[yQ,uQ,AO,h (i,x) (bz ..),h1,h2,h3,and_self]
theorem agZ (op:nH)(he:∀x,x∈op.oV->ev x=ev' x):op.f ev bx=op.f ev' bx:=by
 cases op
 case build zs ps=>
  have h1:∀p,p∈ps->ev p.2.2=ev' p.2.2:=λp hp=>he _ (BI hp);simp only[nH.f]
  congr 1
  ·apply propext;constructor
   ·intro h p hp;rw[<- h1 p hp];exact h p hp
   ·intro h p hp;rw[h1 p hp];exact h p hp
  ·congr 2
   exact pO λp hp=>by rw[h1 p hp]
 case kT l sz n zs ps=>have h1:∀p,p∈ps->ev p.2=ev' p.2:=λp hp=>he _ (BI hp);obtain⟨c1,c2,c3⟩:=FC (bx:=bx) (n:=n) (sz:=sz) h1;simp only[nH.f,c1,c2,c3]
 case Ua f cs=>have h1:cs.map ev=cs.map ev':=pO λx hx=>he x hx;simp only[nH.f,h1]
 case G7 x lo hi=>have h1:=he x (by simp[nH.oV]);have h2:∀y,lo=some y->ev y=ev' y:=λy hy=>he y (by simp[nH.oV,hy]);have h3:∀y,hi=some y->ev y=ev' y:=λy hy=>he y (by simp[nH.oV,hy]);simp only[nH.f,h1,Ff h2,Ff h3]
 case Fe sz x lo hi=>have h1:=he x (by simp[nH.oV]);have h2:∀y,lo=some y->ev y=ev' y:=λy hy=>he y (by simp[nH.oV,hy]);have h3:∀y,hi=some y->ev y=ev' y:=λy hy=>he y (by simp[nH.oV,hy]);simp only[nH.f,h1,Ff h2,Ff h3]
 case yM sz x lo hi=>have h1:=he x (by simp[nH.oV]);have h2:∀y,lo=some y->ev y=ev' y:=λy hy=>he y (by simp[nH.oV,hy]);have h3:∀y,hi=some y->ev y=ev' y:=λy hy=>he y (by simp[nH.oV,hy]);have h4:bnd ev hi=bnd ev' hi:=funext λk=>Ff h3;simp only[nH.f,h1,Ff h2,h4]
 all_goals
  simp only[nH.oV,cO,Ad,or_false,forall_eq_or_imp,forall_eq]at he;simp only[nH.f,he]
theorem agx (op:nH)(he:∀x,x∈op.oV->ev x=ev' x):op.rd ev=op.rd ev':=by
 cases op
 case build zs ps=>rfl
 case kT l sz n zs ps=>have h1:∀p,p∈ps->ev p.2=ev' p.2:=λp hp=>he _ (BI hp);simp only[nH.rd,(FC (bx:=λ_=>.absent) (n:=n) (sz:=sz) h1).2.1]
 case Ua f cs=>rfl
 case G7 x lo hi=>rfl
 case Fe sz x lo hi=>rfl
 case yM sz x lo hi=>rfl
 all_goals
  simp only[nH.oV,cO,Ad,or_false,forall_eq_or_imp,forall_eq]at he;simp only[nH.rd,he]
theorem Ji {sz:Nat}{x:AV}(h:∀b,b∈lvl x->bx b=bx' b):xW sz x bx=xW sz x bx':=by
 cases x with
 | one x=>
   cases x
   case own b n sz'=>simp only[xW,h b (by simp[lvl])]
   case sub b lo n c sz'=>simp only[xW,h b (by simp[lvl])]
   case c y=>cases y<;>rfl
   all_goals rfl
 |_=>rfl
theorem abP {agg:Bool}{k:Nat}{x:AV}(h:∀b,b∈lvl x->bx b=bx' b):zD agg k x bx=zD agg k x bx':=by
 cases x with
 | one x=>
   cases x
   case ptr b off=>simp only[zD,h b (by simp[lvl])]
   case zI b i sz off=>simp only[zD,h b (by simp[lvl])]
   all_goals rfl
 |_=>rfl
theorem Zk {x:AC}(h:∀b,b∈o8 [x]->bx b=bx' b):dataOf bx x=dataOf bx' x:=by
 cases x
 case own b n sz=>simp only[dataOf,h b (by simp[o8])]
 all_goals rfl
theorem RX {x:AC}{r:List AC}{b:Nat} : b∈o8 (x::r)<->b∈o8 [x]\/b∈o8 r:=by cases x<;>simp[o8]
theorem PW : ∀{xs:List AC},(∀b,b∈o8 xs->bx b=bx' b)->Io bx xs=Io bx' xs/\zi bx xs=zi bx' xs/\TN bx (o8 xs)=TN bx' (o8 xs)
 |[],_=>⟨rfl,rfl,rfl⟩
 | x::r,h=>by
   obtain⟨h1,h2,h3⟩:=PW (xs:=r) (λb hb=>h b (RX.2 (.inr hb)));refine⟨?_,?_,pO λb hb=>by rw[h b hb]⟩
   ·simp only[Io,h1,Zk (x:=x) (λb hb=>h b (RX.2 (.inl hb)))]
   ·cases x
    case own b n sz=>simp only[zi,h2,h b (by simp[o8])]
    all_goals exact h2
theorem aal {agg:Bool}{k:Nat}{p x:AV}(h:∀b,b∈lvl p++(match p with|.one (.zI _ _ _ _)=>o8 x.cells|_=>[])->bx b=bx' b):zn agg k p x bx=zn agg k p x bx':=by
 cases p with
 | one p=>
   cases p
   case ptr b off=>simp only[zn,h b (by simp[lvl])]
   case zI b i sz off=>obtain⟨h1,h2,h3⟩:=PW (bx:=bx) (bx':=bx') (xs:=x.cells) (λc hc=>h c (by simp only[lvl,aW];exact .inr hc));have h4:=h b (by simp[lvl]);cases x<;>cases agg<;>first|rfl|(simp only[zn,h4,h1,h2,h3])
   all_goals rfl
 |_=>rfl
theorem Oo {n sz:Nat} : ∀{ps:List (Nat×oW)},(∀b,b∈uQ ev ps->bx b=bx' b)->yQ ev bx n sz ps=yQ ev bx' n sz ps/\AO ev bx ps=AO ev bx' ps
 |[],_=>⟨rfl,rfl⟩
 | (i,x)::r,h=>by obtain⟨h1,h2⟩:=Oo (n:=n) (sz:=sz) (ps:=r) (λb hb=>h b (by simp only[uQ,aW];exact .inr hb));obtain⟨g1,g2,g3⟩:=PW (bx:=bx) (bx':=bx') (xs:=(ev x).cells) (λb hb=>h b (by simp only[uQ,aW];exact .inl hb));simp only[yQ,AO,h1,h2,g1,g2,and_self]
theorem agY (op:nH)(hb:∀b,b∈op.rd ev->bx b=bx' b):op.f ev bx=op.f ev bx':=by
 cases op
 case load agg k p=>exact abP hb
 case store agg k p x=>exact aal hb
 case alloc l zs=>simp only[nH.f,hb l (by simp[nH.rd])]
 case EJ T e l r=>simp only[nH.f,hb l (by simp[nH.rd]),hb r (by simp[nH.rd])]
 case J6 l sz n zs=>simp only[nH.f,hb l (by simp[nH.rd])]
 case box l x=>simp only[nH.f,hb l (by simp[nH.rd])]
 case kT l sz n zs ps=>
  obtain⟨h1,h2⟩:=Oo (bx:=bx) (bx':=bx') (n:=n) (sz:=sz) (ps:=ps) (λb hm=>hb b (by simp only[nH.rd];exact dF _ hm));have h3:TN bx (uQ ev ps)=TN bx' (uQ ev ps):=pO λb hm=>by rw[hb b (by simp only[nH.rd];exact dF _ hm)]
  simp only[nH.f,hb l (by simp[nH.rd]),h1,h2,h3]
 case makes l sz bytes zs n m=>simp only[nH.f,hb l (by simp[nH.rd])]
 case PS x=>simp only[nH.f,Ji hb]
 case QC sz n x=>
  simp only[nH.f];cases hx:ev x with
  | one y=>
    cases y
    case zI b i sz off=>have:=hb b (by simp[nH.rd,lvl,hx]);cases i<;>cases off<;>simp only[this]
    all_goals rfl
  |_=>rfl
 case append l sz bytes s x=>
  have h1:=hb l (by simp[nH.rd]);simp only[nH.f,Ji (x:=ev x) (λb hb'=>hb b (by simp[nH.rd,hb'])),h1];cases hs:ev s with
  | one y=>
    cases y
    case own b n sz'=>simp only[hb b (by simp[nH.rd,lvl,hs])]
    all_goals rfl
  |_=>rfl
 case copy sz d x=>
  simp only[nH.f,Ji (x:=ev x) (λb hb'=>hb b (by simp[nH.rd,hb']))];cases hs:ev d with
  | one y=>
    cases y
    case own b n sz'=>simp only[hb b (by simp[nH.rd,lvl,hs])]
    all_goals rfl
  |_=>rfl
 case V7 l sz bytes s x=>
  have h1:=hb l (by simp[nH.rd]);simp only[nH.f,EU,Ji (x:=ev x) (λb hb'=>hb b (by simp[nH.rd,hb'])),h1];generalize xW sz (ev x) bx'=so;cases hs:ev s with
  | one y=>
    cases y
    case sub b lo n c sz'=>have h2:=hb b (by simp[nH.rd,lvl,hs]);cases c<;>rcases so with _|⟨p,ys⟩<;>first|rfl|(simp only[h2])
    all_goals(rcases so with _|⟨p,ys⟩<;>rfl)
  |_=>rcases so with _|⟨p,ys⟩<;>rfl
 case WN l sz bytes zs s x=>
  have h1:=hb l (by simp[nH.rd]);simp only[nH.f,EO,h1];generalize ev x=y';have hb2:∀b,b∈lvl (ev s)->bx b=bx' b:=λb hb'=>hb b (by simp[nH.rd,hb']);rcases y' with x|x|x
  ·rcases x with c|_|_|_|_|_|_|_|_
   ·rcases c with v|_|_
    ·cases v
     case int k q=>
      cases hs:ev s with
      | one y=>
        cases y
        case sub b lo n c sz'=>have h2:=hb2 b (by simp[lvl,hs]);cases c<;>simp[h2]
        all_goals rfl
      |_=>rfl
     all_goals(generalize ev s=z;rcases z with(_|_|_|_|⟨b,lo,n,_|c,sz'⟩|_|_|_|_)|_|_<;>rfl)
    all_goals(generalize ev s=z;rcases z with(_|_|_|_|⟨b,lo,n,_|c,sz'⟩|_|_|_|_)|_|_<;>rfl)
   all_goals(generalize ev s=z;rcases z with(_|_|_|_|⟨b,lo,n,_|c,sz'⟩|_|_|_|_)|_|_<;>rfl)
  all_goals(generalize ev s=z;rcases z with(_|_|_|_|⟨b,lo,n,_|c,sz'⟩|_|_|_|_)|_|_<;>rfl)
 case Qz sz d x=>
  have ht:∀m,lvl (truncS m (ev x))=lvl (ev x):=λm=>by rcases ev x with(_|_|_|_|_|_|_|_|_)|_|_<;>rfl
  have hsrc:∀m,xW sz (truncS m (ev x)) bx=xW sz (truncS m (ev x)) bx':=λm=>Ji (λb hb'=>hb b (by rw[ht]at hb';simp[nH.rd,hb']));simp only[nH.f,EX,hsrc];cases hs:ev d with
  | one y=>
    cases y
    case own b n sz'=>have h2:=hb b (by simp[nH.rd,lvl,hs]);simp only[DK];rcases xW sz (truncS n (ev x)) bx' with _|⟨p,ys⟩<;>first|rfl|(simp only[h2])
    case sub b lo n c sz'=>have h2:=hb b (by simp[nH.rd,lvl,hs]);simp only[DK];rcases xW sz (truncS n (ev x)) bx' with _|⟨p,ys⟩<;>first|rfl|(simp only[h2])
    all_goals rfl
  |_=>rfl
 case ovl x y=>
  have key:∀(u:AV),(∀b,b∈lvl u->bx b=bx' b)->∀b lo n c sz,DK u=some (b,lo,n,c,sz)->bx b=bx' b:=by
   intro u hu b lo n c sz hs;unfold DK at hs;split at hs
   ·cases hs;exact hu _ (by simp[lvl])
   ·cases hs;exact hu _ (by simp[lvl])
   ·cases hs
  have k1:=key (ev x) (λb hb'=>hb b (by simp[nH.rd,hb']));have k2:=key (ev y) (λb hb'=>hb b (by simp[nH.rd,hb']));simp only[nH.f,Uf];generalize DK (ev x)=u at k1;generalize DK (ev y)=v at k2;rcases u with _|⟨b,lo,n,c,sz⟩<;>rcases v with _|⟨b',lo',n',c',sz'⟩<;>try rfl
  simp only[k1 b lo n c sz rfl,k2 b' lo' n' c' sz' rfl]
 case XP sz zs x=>
  simp only[nH.f,EW];cases hs:ev x with
  | one y=>
    cases y
    case own b n sz'=>simp only[DK,hb b (by simp[nH.rd,lvl,hs])]
    case sub b lo n c sz'=>simp only[DK,hb b (by simp[nH.rd,lvl,hs])]
    all_goals rfl
  |_=>rfl
 all_goals rfl
theorem acS {e e':oW->Slot}(op:nH)(he:∀x,x∈op.oV->e x=e' x)(h:op.valid e):op.valid e':=by
 cases op
 case pick c a b=>have h1:=he c (by simp[nH.oV]);have h2:=he a (by simp[nH.oV]);have h3:=he b (by simp[nH.oV]);simp only[nH.valid,h1,h2,h3]at h⊢;exact h
 all_goals exact λx hx=>he x hx▸h x hx
theorem aeB {x y:AC}(h:Cv bx x y)(hb:∀b,b∈o8 [x]->bx b=bx' b):Cv bx' x y:=by
 cases h with
 |refl=>exact .refl _
 |jC sz=>exact .jC sz
 |own b n sz es ha hn=>exact .own b n sz es (by rw[<- hb b (by simp[o8])];exact ha) hn
theorem ae7 {xs ys:List AC}(h:CvL bx xs ys)(hb:∀b,b∈o8 xs->bx b=bx' b):CvL bx' xs ys:=by
 induction h with
 |nil=>exact .nil
 |cons h t ih=>exact .cons (aeB h λb hb'=>hb b (Dv.2 (.inl hb'))) (ih λb hb'=>hb b (Dv.2 (.inr hb')))
theorem ae5 {x y:AV}(h:CvA bx x y)(hb:∀b,b∈x.owns->bx b=bx' b):CvA bx' x y:=by
 cases h with
 |one h=>exact .one (aeB h hb)
 |agg h=>exact .agg (ae7 h hb)
theorem TF {xs ys:List AV}(h:J3 bx xs ys)(hb:∀b,b∈xs.flatMap AV.owns->bx b=bx' b):J3 bx' xs ys:=by
 induction h with
 |nil=>exact .nil
 |cons h t ih=>exact .cons (ae5 h λb hb'=>hb b (by rw[bF];exact mO _ hb')) (ih λb hb'=>hb b (by rw[bF];exact jX _ hb'))
end
structure Pg where
 rd:List Nat
 wr:List Nat
 outs:Slot->List (Nat×Box)->Prop
inductive Fz (P:Program)(f:FuncId)(uZ:List AV)(p:Bool)(bx:Nat->Box):Pg->Prop
 |lit (ds:List AV) (r:AV) (hc:p=true->J3 bx uZ ds) (hd:ds.all (·.all AC.xx)=true) (h:p=true->dS P f ds r) (hr:r.all AC.isLit=true) :
  Fz P f uZ p bx ⟨uZ.flatMap AV.owns,[],λs bs=>s = .v p r/\bs=[]⟩
 |pure (ds:List AV) (r:AV) (hp:p=true) (hc:J3 bx uZ ds) (hd:ds.all (·.all AC.xx)=true) (h:dS P f ds r) (hr:r.all AC.xx=true) :
  Fz P f uZ p bx ⟨uZ.flatMap AV.owns,uZ.flatMap AV.owns,λs bs=>s = .v true r/\bs=(uZ.flatMap AV.owns).map λb=>(b,Gi (bx b))⟩
 |gen (hp:p=true) (ds:List AV) (fp:List Box) (sg nu:List Nat) (post:AV->List Box->Prop)
  (hl:sg.length=fp.length) (hn:(sg++nu).Nodup) (hf:∀i,i<fp.length->bx ((sg++nu).getD i 0)=Dh (λb=>(sg++nu).getD b 0) (fp.getD i .absent))
  (hne:∃r bs,post r bs) (hv:∀b,b∈nu->bx b = .absent/\10<=b) (hra:(ds.all λx=>x.all (AC.vM fp.length))=true) (hrf:fp.all (Box.vM fp.length)=true) (ha:uZ=ds.map (DJ λb=>(sg++nu).getD b 0)) (h:lD P f ds fp post)
  (hlen:∀r bs,post r bs->bs.length=(sg++nu).length) :
  Fz P f uZ p bx ⟨sg++nu,sg++nu,λs bs=>∃r bs',post r bs'/\s = .v true (DJ (λb=>(sg++nu).getD b 0) r)/\bs=(sg++nu).zip (bs'.map (Dh λb=>(sg++nu).getD b 0))⟩
 |OH (hp:p=true) (az:List AV) (hc:J3 bx uZ az) (ds:List AV) (fp:List Box) (sg nu:List Nat) (post:AV->List Box->Prop)
     (hl:sg.length=fp.length) (hn:(sg++nu).Nodup) (hf:∀i,i<fp.length->(if(sg++nu).getD i 0∈uZ.flatMap AV.owns then Gi (bx ((sg++nu).getD i 0))else bx ((sg++nu).getD i 0))=Dh (λb=>(sg++nu).getD b 0) (fp.getD i .absent))
     (hne:∃r bs,post r bs) (hv:∀b,b∈nu->bx b = .absent/\10<=b) (hra:(ds.all λx=>x.all (AC.vM fp.length))=true) (hrf:fp.all (Box.vM fp.length)=true) (ha:az=ds.map (DJ λb=>(sg++nu).getD b 0)) (h:lD P f ds fp post)
     (hlen:∀r bs,post r bs->bs.length=(sg++nu).length) :
     Fz P f uZ p bx ⟨uZ.flatMap AV.owns++(sg++nu),uZ.flatMap AV.owns++(sg++nu),λs bs=>∃r bs',post r bs'/\s = .v true (DJ (λb=>(sg++nu).getD b 0) r) /\
      bs=((uZ.flatMap AV.owns).map λb=>(b,Gi (bx b)))++(sg++nu).zip (bs'.map (Dh λb=>(sg++nu).getD b 0))⟩
def Nj (P:Program)(o:mQ)(st:iy)(D:Pg):Prop:=
 CV st.tm o.g/\match o.i with
  |.op op=>(uI st.tm o.g=true->op.valid (oW.ev st.tm)/\(op.f (eu st.tm) st.bx).vc /\
   D=⟨op.rd (eu st.tm),(op.f (eu st.tm) st.bx).sets.map (·.1),λs bs=>s = .v true (op.f (eu st.tm) st.bx).v/\bs=(op.f (eu st.tm) st.bx).sets⟩) /\
   (uI st.tm o.g=false->D=⟨[],[],λs bs=>s = .v false (.one .IZ)/\bs=[]⟩)
  |.call f args=>(uI st.tm o.g=true->∀x,x∈args->(x.ev st.tm).g=true)/\Fz P f (args.map (eu st.tm)) (uI st.tm o.g) st.bx D
  | .FX x args=>(uI st.tm o.g=true->(x.ev st.tm).g=true/\∀x,x∈args->(x.ev st.tm).g=true)/\match uI st.tm o.g,eu st.tm x with
    |false,_=>Fz P 0 [] false st.bx D
    |true,.one (.fn f caps)=>zT P f=true/\Fz P f (args.map (eu st.tm)++caps.map λb=>.one (.ptr b 0)) true st.bx D
    |true,_=>False
section
variable {P:Program} {st st':iy} {K:List Nat->List Nat->iy->Prop}
theorem Ob {f:FuncId}{uZ:List AV}{p:Bool}{d:Option Nat} : La P f uZ p d st K<->∃D,Fz P f uZ p st.bx D/\∀s bs,D.outs s bs->K D.rd D.wr ((st.sS bs).zU d s):=by
 constructor
 ·intro h;cases h with
  |lit ds r hc hd hh hr k=>exact⟨_,.lit ds r hc hd hh hr,λs bs ⟨h1,h2⟩=>by subst h1;subst h2;exact k⟩
  |pure ds r hp hc hd hh hr k=>exact⟨_,.pure ds r hp hc hd hh hr,λs bs ⟨h1,h2⟩=>by subst h1;subst h2;rw[DX];exact k⟩
  | OH hp az hc ds fp sg nu post hl hn hf hne hv hra hrf ha hh k=>exact⟨_,.OH hp az hc ds fp sg nu post hl hn hf hne hv hra hrf ha hh (λr bs hp=>(k r bs hp).1),λs bs ⟨r,bs',hp,h1,h2⟩=>by subst h1;subst h2;rw[H9,DX];exact(k r bs' hp).2⟩
  | gen hp ds fp sg nu post hl hn hf hne hv hra hrf ha hh k=>exact⟨_,.gen hp ds fp sg nu post hl hn hf hne hv hra hrf ha hh (λr bs hp=>(k r bs hp).1),λs bs ⟨r,bs',hp,h1,h2⟩=>by subst h1;subst h2;exact(k r bs' hp).2⟩
 ·rintro⟨D,hD,hk⟩;cases hD with
  |lit ds r hc hd hh hr=>exact .lit ds r hc hd hh hr (hk _ _ ⟨rfl,rfl⟩)
  |pure ds r hp hc hd hh hr=>exact .pure ds r hp hc hd hh hr (by have:=hk _ _ ⟨rfl,rfl⟩;rw[DX]at this;exact this)
  | OH hp az hc ds fp sg nu post hl hn hf hne hv hra hrf ha hh hlen=>exact .OH hp az hc ds fp sg nu post hl hn hf hne hv hra hrf ha hh (λr bs hp=>⟨hlen r bs hp,by have:=hk _ _ ⟨r,bs,hp,rfl,rfl⟩;rw[H9,DX]at this;exact this⟩)
  | gen hp ds fp sg nu post hl hn hf hne hv hra hrf ha hh hlen=>exact .gen hp ds fp sg nu post hl hn hf hne hv hra hrf ha hh (λr bs hp=>⟨hlen r bs hp,hk _ _ ⟨r,bs,hp,rfl,rfl⟩⟩)
theorem Ij {o:mQ} : T P o st K<->∃D,Nj P o st D/\∀s bs,D.outs s bs->K D.rd D.wr ((st.sS bs).zU o.d s):=by
 unfold T Nj;cases o.i with
 | op op=>
   unfold TOp;cases hp:uI st.tm o.g with
   | true=>
     constructor
     ·rintro⟨hg,h1,_⟩;obtain⟨a1,a2,a3⟩:=h1 rfl;exact⟨_,⟨hg,λ_=>⟨a1,a2,rfl⟩,λe=>by cases e⟩,λs bs ⟨e1,e2⟩=>by subst e1;subst e2;exact a3⟩
     ·rintro⟨D,⟨hg,h1,_⟩,hk⟩;obtain⟨a1,a2,rfl⟩:=h1 rfl;exact⟨hg,λ_=>⟨a1,a2,hk _ _ ⟨rfl,rfl⟩⟩,λe=>by cases e⟩
   | false=>
     constructor
     ·rintro⟨hg,_,h2⟩;exact⟨_,⟨hg,(λe=>by cases e),λ_=>rfl⟩,λs bs ⟨e1,e2⟩=>by subst e1;subst e2;exact h2 rfl⟩
     ·rintro⟨D,⟨hg,_,h2⟩,hk⟩;have:=h2 rfl;subst this;exact⟨hg,(λe=>by cases e),λ_=>hk _ _ ⟨rfl,rfl⟩⟩
 | call f args=>
   simp only[vI,Ob];constructor
   ·rintro⟨hg,h1,D,h2,h3⟩;exact⟨D,⟨hg,h1,h2⟩,h3⟩
   ·rintro⟨D,⟨hg,h1,h2⟩,h3⟩;exact⟨hg,h1,D,h2,h3⟩
 | FX x args=>
   simp only;cases uI st.tm o.g with
   | false=>
     simp only[vI,Ob];constructor
     ·rintro⟨hg,h1,D,h2,h3⟩;exact⟨D,⟨hg,h1,h2⟩,h3⟩
     ·rintro⟨D,⟨hg,h1,h2⟩,h3⟩;exact⟨hg,h1,D,h2,h3⟩
   |true=>
   cases eu st.tm x with
   | one y=>
     cases y
     case fn f caps=>
      simp only[vI,Ob];constructor
      ·rintro⟨hg,h1,h0,D,h2,h3⟩;exact⟨D,⟨hg,h1,h0,h2⟩,h3⟩
      ·rintro⟨D,⟨hg,h1,h0,h2⟩,h3⟩;exact⟨hg,h1,h0,D,h2,h3⟩
     all_goals exact⟨λh=>h.2.2.elim,λ⟨D,h,_⟩=>h.2.2.elim⟩
   |_=>exact⟨λh=>h.2.2.elim,λ⟨D,h,_⟩=>h.2.2.elim⟩
theorem Fz.bx {f:FuncId}{uZ:List AV}{p:Bool}{bx bx':Nat->Box}{D:Pg}(h:Fz P f uZ p bx D)(hb:∀b,b∈D.rd->bx b=bx' b):Fz P f uZ p bx' D:=by
 cases h with
 |lit ds r hc hd hh hr=>exact .lit ds r (λe=>TF (hc e) hb) hd hh hr
 | pure ds r hp hc hd hh hr=>have e:((uZ.flatMap AV.owns).map λb=>(b,Gi (bx b)))=(uZ.flatMap AV.owns).map λb=>(b,Gi (bx' b)):=pO λb hb'=>(by rw[hb b hb']);simp only[e];exact .pure ds r hp (TF hc hb) hd hh hr
 | OH hp az hc ds fp sg nu post hl hn hf hne hv hra hrf ha hh hlen=>
   have e:((uZ.flatMap AV.owns).map λb=>(b,Gi (bx b)))=(uZ.flatMap AV.owns).map λb=>(b,Gi (bx' b)):=pO λb hb'=>(by rw[hb b (mO _ hb')]);simp only[e];refine .OH hp az (TF hc λb hm=>hb b (mO _ hm)) ds fp sg nu post hl hn (λi hi=>?_) hne (λb hm=>?_) hra hrf ha hh hlen
   ·rw[<- hb]
    ·exact hf i hi
    ·show(sg++nu).getD i 0∈uZ.flatMap AV.owns++(sg++nu);have:i<(sg++nu).length:=(by simp;omega);rw[qh,aB this];exact jX _ (dO this)
   ·rw[<- hb b (jX _ (jX _ hm))];exact hv b hm
 | gen hp ds fp sg nu post hl hn hf hne hv hra hrf ha hh hlen=>
   refine .gen hp ds fp sg nu post hl hn (λi hi=>?_) hne (λb hm=>?_) hra hrf ha hh hlen
   ·rw[<- hb]
    ·exact hf i hi
    ·show(sg++nu).getD i 0∈sg++nu;have:i<(sg++nu).length:=(by simp;omega);rw[qh,aB this];exact dO this
   ·rw[<- hb b (jX _ hm)];exact hv b hm
theorem Fz.ne {f:FuncId}{uZ:List AV}{p:Bool}{bx:Nat->Box}{D:Pg}(h:Fz P f uZ p bx D):∃s bs,D.outs s bs:=by
 cases h with
 |lit=>exact⟨_,_,rfl,rfl⟩
 |pure=>exact⟨_,_,rfl,rfl⟩
 |gen hp ds fp sg nu post hl hn hf hne=>obtain⟨r,bs,h⟩:=hne;exact⟨_,_,r,bs,h,rfl,rfl⟩
 |OH hp az hc ds fp sg nu post hl hn hf hne=>obtain⟨r,bs,h⟩:=hne;exact⟨_,_,r,bs,h,rfl,rfl⟩
theorem Fz.fst {f:FuncId}{uZ:List AV}{p:Bool}{bx:Nat->Box}{D:Pg}(h:Fz P f uZ p bx D){s:Slot}{bs:List (Nat×Box)}(ho:D.outs s bs):∀b,b∈bs.map (·.1)->b∈D.wr:=by
 cases h with
 |lit=>obtain⟨_,rfl⟩:=ho;intro b hb;simp at hb
 |pure=>obtain⟨_,rfl⟩:=ho;intro b hb;simpa using hb
 | OH hp az hc ds fp sg nu post hl hn hf hne=>
   obtain⟨r,bs',_,_,rfl⟩:=ho;intro b hb;rw[List.map_append,aW]at hb;rcases hb with hb|hb
   ·exact mO _ (by simpa using hb)
   ·obtain⟨x,hx,rfl⟩:=oZ.1 hb;exact jX _ (List.of_mem_zip (a:=x.1) (b:=x.2) hx).1
 | gen hp ds fp sg nu post hl hn hf hne=>obtain⟨r,bs',_,_,rfl⟩:=ho;intro b hb;obtain⟨x,hx,rfl⟩:=oZ.1 hb;exact(List.of_mem_zip (a:=x.1) (b:=x.2) hx).1
theorem Nj.ne {o:mQ}{D:Pg}(h:Nj P o st D):∃s bs,D.outs s bs:=by
 obtain⟨_,h⟩:=h;split at h
 ·cases hp:uI st.tm o.g with
  |true=>obtain⟨_,_,rfl⟩:=h.1 hp;exact⟨_,_,rfl,rfl⟩
  |false=>have:=h.2 hp;subst this;exact⟨_,_,rfl,rfl⟩
 ·exact h.2.ne
 ·obtain⟨_,h⟩:=h;split at h
  ·exact h.ne
  ·exact h.2.ne
  ·exact h.elim
theorem Nj.fst {o:mQ}{D:Pg}(h:Nj P o st D){s:Slot}{bs:List (Nat×Box)}(ho:D.outs s bs):∀b,b∈bs.map (·.1)->b∈D.wr:=by
 obtain⟨_,h⟩:=h;split at h
 ·cases hp:uI st.tm o.g with
  |true=>obtain⟨_,_,rfl⟩:=h.1 hp;obtain⟨_,rfl⟩:=ho;exact λb hb=>hb
  |false=>have:=h.2 hp;subst this;obtain⟨_,rfl⟩:=ho;exact λb hb=>hb
 ·exact h.2.fst ho
 ·obtain⟨_,h⟩:=h;split at h
  ·exact h.fst ho
  ·exact h.2.fst ho
  ·exact h.elim
def O9.slots (i:O9):List Nat:=match i with
 |O9.op o=>o.oV.flatMap oW.slots
 |O9.call _ args=>args.flatMap oW.slots
 |O9.FX x args=>x.slots++args.flatMap oW.slots
def mQ.slots (o:mQ):List Nat:=o.g.toList.map (·.1)++o.i.slots
def mQ.abI (o:mQ):Bool:=match o.i with
 |O9.op _=>true
 |_=>false
theorem Yh {tm tm':Nat->Slot}{x:oW}(h:∀t,t∈x.slots->tm t=tm' t):x.ev tm=x.ev tm':=by
 cases x with
 |t s=>exact h s (by simp[oW.slots])
 |k x=>rfl
theorem abp {tm tm':Nat->Slot}{g:Option (Nat×Bool)}(h:∀t,t∈g.toList.map (·.1)->tm t=tm' t):(CV tm g<->CV tm' g)/\uI tm g=uI tm' g:=by
 cases g with
 |none=>exact⟨Iff.rfl,rfl⟩
 | some p=>obtain⟨s,w⟩:=p;have:=h s (by simp);simp only[CV,uI,this,and_self,iff_self]
theorem Nj.local {o:mQ}{D:Pg}(h:Nj P o st D)(ht:∀t,t∈o.slots->st.tm t=st'.tm t)(hb:∀b,b∈D.rd->st.bx b=st'.bx b):Nj P o st' D:=by
 unfold Nj at h⊢;obtain⟨hg1,hg2⟩:=abp (tm:=st.tm) (tm':=st'.tm) (g:=o.g) (λt h'=>ht t (mO _ h'));have ht':∀t,t∈o.i.slots->st.tm t=st'.tm t:=λt h'=>ht t (jX _ h');refine⟨hg1.1 h.1,?_⟩;obtain⟨_,h⟩:=h;rw[hg2]at h;cases hi:o.i with
 | op op=>simp only[hi,O9.slots]at h ht'⊢;have he:∀x,x∈op.oV->oW.ev st.tm x=oW.ev st'.tm x:=λx hx=>Yh λt hm=>ht' t (Ac.2 ⟨x,hx,hm⟩);have hea:∀x,x∈op.oV->eu st.tm x=eu st'.tm x:=λx hx=>(by unfold eu;rw[he x hx]);obtain⟨h1,h2⟩:=h;refine⟨λe=>?_,h2⟩;obtain⟨a1,a2,rfl⟩:=h1 e;have hf:op.f (eu st.tm) st.bx=op.f (eu st'.tm) st'.bx:=(agY op hb).trans (agZ op hea);rw[hf]at a2;refine⟨acS op he a1,a2,?_⟩;rw[hf,agx op hea]
 | call f args=>simp only[hi,O9.slots]at h ht'⊢;have he:∀x,x∈args->oW.ev st.tm x=oW.ev st'.tm x:=λx hx=>Yh λt hm=>ht' t (Ac.2 ⟨x,hx,hm⟩);have hm:args.map (eu st.tm)=args.map (eu st'.tm):=pO λx hx=>(by unfold eu;rw[he x hx]);rw[hm]at h;exact⟨λe x hx=>he x hx▸h.1 e x hx,h.2.bx hb⟩
 | FX x args=>
   simp only[hi,O9.slots]at h ht'⊢;have he:∀x,x∈args->oW.ev st.tm x=oW.ev st'.tm x:=λx hx=>Yh λt hm=>ht' t (jX _ (Ac.2 ⟨x,hx,hm⟩));have hex:oW.ev st.tm x=oW.ev st'.tm x:=Yh λt hm=>ht' t (mO _ hm);have hm:args.map (eu st.tm)=args.map (eu st'.tm):=pO λx hx=>(by unfold eu;rw[he x hx]);have hmx:eu st.tm x=eu st'.tm x:=(by unfold eu;rw[hex]);obtain⟨h1,h2⟩:=h;rw[hm,hmx]at h2;refine⟨λe=>⟨hex▸(h1 e).1,λy hy=>he y hy▸(h1 e).2 y hy⟩,?_⟩;split at h2
   ·exact h2.bx hb
   ·exact⟨h2.1,h2.2.bx hb⟩
   ·exact h2.elim
theorem Nj.det {o:mQ}{D D':Pg}(hop:o.abI=true)(h:Nj P o st D)(h':Nj P o st D'):D=D':=by
 unfold Nj at h h';unfold mQ.abI at hop;cases hi:o.i with
 | op op=>
   rw[hi]at h h';cases hp:uI st.tm o.g with
   |true=>exact(h.2.1 hp).2.2.trans (h'.2.1 hp).2.2.symm
   |false=>exact(h.2.2 hp).trans (h'.2.2 hp).symm
 |call f args=>rw[hi]at hop;cases hop
 |FX x args=>rw[hi]at hop;cases hop
end
end
end Go.Ab
