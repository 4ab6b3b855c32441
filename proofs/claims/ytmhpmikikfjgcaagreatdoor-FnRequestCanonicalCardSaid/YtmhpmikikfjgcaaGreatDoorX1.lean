/- What abstract values, states and codes of the program's language mean, and that they are sound (part 1). No conditions. -/
import Derived.Below
import Derived.OwnWalk
import Derived.Orders
import Derived.Lib.Bytealg
import Derived.Lib.Overlaps
import Derived.Laws.Externs
import Derived.KernelRfl
import Derived.Lib.ItoaNum
import Derived.Laws.Cells
import Derived.Lib.Strings
import Derived.Laws.BytesString
import Derived.Laws.MakeOwn
import Derived.Laws.Tables
import Derived.Laws.CopyRow
import Derived.Laws.AppendOwn
import Derived.Laws.OwnMore
import Derived.Tactics
import Derived.Shelf.Strings.Builder1
import Derived.Shelf.Strconv.Itoa3
import Derived.Lib.AppendIntMem
import Derived.Shelf.Strings.OnBuilder
import Derived.Shelf.Strings.Prefix
import Derived.Shelf.Strings.Split
import Derived.Shelf.Strconv.AtoiAll
import Derived.Test.YtmhpmikikfjgcaaGreatDoorProg
import Derived.Lib.ItoaLen
import Derived.Lib.AtoiAllCases
import Derived.Lib.IndexBytes
import Derived.RangeFuncNested
import Derived.RangeFuncBound
import Derived.RangeFuncCalls
import Derived.RangeFuncLeaves
import Derived.Shelf.Abstract
import Derived.Shelf.RegionOpen
import Derived.WalkKit
import Derived.OwnWalkIn
import Derived.TacticsInMore
import Derived.LoopNIn
import Derived.LoopIn
import Derived.RangeFuncBox
import Derived.Maps.AppendAt
import Derived.Deep.Onto
import Derived.ProofKit
import Derived.Lib.LaidTab
import Derived.OpenShut
import Derived.Carry
import Derived.Stop.LaidErr
import Derived.Shelf.Vars
import Derived.Test.YtmhpmikikfjgcaaGreatDoorCards
import Derived.Test.YtmhpmikikfjgcaaGreatDoorTie
import Derived.Deep.DeepHandedRow
import Derived.Deep.DeepWitnessRowRef
import Derived.Lay
set_option linter.unusedVariables false
set_option linter.unusedSimpArgs false
section
namespace Go.Ab
open Go
abbrev IH:=Nat->Option (Array Value)
def IH.cell (I:IH) (a:Addr):Option Value :=
 if a.spot.isSome then none else match I a.block with
  | some c=>c[a.off]?
  | none=>none
def IH.le (I J:IH):Prop:=∀ b c,I b=some c->J b=some c
theorem IH.le_refl (I:IH):I.le I:=fun _ _ h=>h
theorem IH.le_trans {I J K:IH} (h:I.le J) (k:J.le K):I.le K:=fun b c e=>k b c (h b c e)
theorem IH.le_cell {I J:IH} (h:I.le J) {a:Addr} {v:Value} (hc:I.cell a=some v):J.cell a=some v:=by
 unfold IH.cell at *
 split at hc
 ·cases hc
 ·cases hb:I a.block with
  | none=>simp [hb] at hc
  | some c=>simp [hb] at hc; rename_i hs; simp [hs,h _ _ hb,hc]
def Agree (I:IH) (w:World):Prop:=∀ b c,I b=some c->∃ e fr,w.heap[b]? = some (.cells c e fr)
theorem Agree.cell {I:IH} {w:World} (h:Agree I w) {a:Addr} {v:Value} (hc:I.cell a=some v):w.cell? a=some v:=by
  unfold IH.cell at hc
  split at hc
  · cases hc
  · cases hb:I a.block with
    | none=>simp [hb] at hc
    | some c =>
      obtain ⟨e,fr,hw⟩:=h _ _ hb
      rename_i hs
      simp [hb] at hc
      simp [World.cell?,hw,hs,hc]
theorem heap_lt {w:World} {b:Nat} {o:Obj} (h:w.heap[b]? = some o):b<w.heap.size:=(Array.getElem?_eq_some_iff.1 h).1
theorem Agree.lt {I:IH} {w:World} (h:Agree I w) {b:Nat} {c:Array Value} (hc:I b=some c):b<w.heap.size:=by
 obtain ⟨e,fr,hw⟩:=h _ _ hc
 exact heap_lt hw
inductive Cell where
 | lit (v:Value)
 | str (l:List UInt8)
 | sl (sz:Nat) (es:List (List Cell))
 deriving Inhabited
inductive Rd (I:IH):Value->Cell->Prop
 | lit (v:Value) (hv:v.oneCell'=true):Rd I v (.lit v)
 | str (l:List UInt8) (h:l.length<=maxLen):Rd I (.string ⟨⟨l⟩⟩) (.str l)
 | sl (a:Option Addr) (len cap sz:Nat) (es:List (List Cell)) (u:Nat->Nat->Value)
   (hlen:es.length=len) (hcap:len<=cap) (hmax:cap<=maxLen) (hsz:∀ e,e∈es->e.length=sz)
   (ha:0<len->a ≠ none)
   (hcell:∀ ad,a=some ad->∀ i j,i<len->j<sz->I.cell (ad.add (i*sz+j))=some (u i j))
   (hr:∀ i j c,(es.getD i [])[j]? = some c->Rd I (u i j) c):Rd I (.slice a len cap) (.sl sz es)
theorem Rd.mono {I J:IH} (hle:I.le J) {v:Value} {c:Cell} (h:Rd I v c):Rd J v c:=by
  induction h with
  | lit v hv=>exact .lit v hv
  | str l h=>exact .str l h
  | sl a len cap sz es u hlen hcap hmax hsz ha hcell hr ih =>
    exact .sl a len cap sz es u hlen hcap hmax hsz ha (fun ad e i j hi hj=>IH.le_cell hle (hcell ad e i j hi hj)) ih
theorem Rd.one {I:IH} {v:Value} {c:Cell} (h:Rd I v c):v.oneCell'=true:=by
 cases h with
 | lit v hv=>exact hv
 | str l h=>rfl
 | sl=>rfl
inductive AC where
 | c (x:Cell)
 | ptr (b off:Nat)
 | own (b n sz:Nat)
 | aptr (b i sz off:Nat)
 | sub (b lo n:Nat) (c:Option Nat) (sz:Nat)
 | nsl (sz:Nat)
 | eptr (cs:List Cell)
 | fn (f:FuncId) (caps:List Nat)
 | opt (T b:Nat)
 | bbuf (b n:Nat)
 | err (g:Bool)
 | junk
 deriving Inhabited
abbrev Ren:=Nat->Option (Nat × Nat)
def Ren.le (ρ σ:Ren):Prop:=∀ b x,ρ b=some x->σ b=some x
theorem Ren.le_refl (ρ:Ren):ρ.le ρ:=fun _ _ h=>h
def GC (I:IH) (ρ:Ren) (v:Value):AC->Prop
 | .c x=>Rd I v x
 | .ptr b off=>∃ k cap,ρ b=some (k,cap)/\v = .pointer (some ⟨k,off,none⟩)
 | .own b n _=>∃ k cap a c,ρ b=some (k,cap)/\v = .slice a n c/\n<=c/\c<=cap/\(cap ≠ 0->a=some ⟨k,0,none⟩)
 | .aptr b i sz off=>∃ k cap,ρ b=some (k,cap)/\v = .pointer (some ⟨k,i*sz+off,none⟩)
 | .sub b lo n c sz=>∃ k cap a c',ρ b=some (k,cap)/\v = .slice a n c'/\n<=c'/\lo+c'<=cap/\(∀ c0,c=some c0->c'=c0)/\(c' ≠ 0\/(lo=0/\cap ≠ 0)->a=some ⟨k,lo*sz,none⟩)
 | .nsl _=>v = .slice none 0 0
 | .eptr cs=>∃ p:Addr,v = .pointer (some p)/\∀ (j:Nat) (c:Cell),cs[j]? = some c->∃ u,I.cell (p.add j)=some u/\Rd I u c
 | .fn f caps=>∃ ks:List Nat,ks.length=caps.length/\(∀ (j b k:Nat),caps[j]? = some b->ks[j]? = some k->∃ cap,ρ b=some (k,cap)) /\
   v = .func (.func f) #[] (ks.map fun k=>Value.pointer (some ⟨k,0,none⟩)).toArray
 | .opt T b=>∃ k,ρ b=some (k,T)/\(v = .pointer none\/v = .pointer (some ⟨k,0,none⟩))
 | .bbuf b n=>∃ k cap,ρ b=some (k,cap)/\n<=cap/\((cap=0/\v = .slice none 0 0)\/(cap ≠ 0/\v = .slice (some ⟨k,0,none⟩) n cap))
 | .err g=>if g=true then ∃ t p,v = .iface t p else v = .nilIface
 | .junk=>v.oneCell'=true
theorem GC.mono {I J:IH} (hle:I.le J) {ρ σ:Ren} (hr:ρ.le σ) {v:Value} {x:AC} (h:GC I ρ v x):GC J σ v x:=by
  cases x with
  | c x=>exact Rd.mono hle h
  | ptr b off=>obtain ⟨k,cap,h1,h2⟩:=h; exact ⟨k,cap,hr _ _ h1,h2⟩
  | own b n sz=>obtain ⟨k,cap,a,c,h1,h2⟩:=h; exact ⟨k,cap,a,c,hr _ _ h1,h2⟩
  | aptr b i sz off=>obtain ⟨k,cap,h1,h2⟩:=h; exact ⟨k,cap,hr _ _ h1,h2⟩
  | sub b lo n c sz=>obtain ⟨k,cap,a,c',h1,h2⟩:=h; exact ⟨k,cap,a,c',hr _ _ h1,h2⟩
  | nsl sz=>exact h
  | eptr cs =>
    obtain ⟨p,hv,hc⟩:=h
    exact ⟨p,hv,fun j c hj=>let ⟨u,h1,h2⟩:=hc j c hj; ⟨u,IH.le_cell hle h1,h2.mono hle⟩⟩
  | fn f caps =>
    obtain ⟨ks,h1,h2,h3⟩:=h
    exact ⟨ks,h1,fun j b k hb hk=>let ⟨cap,hc⟩:=h2 j b k hb hk; ⟨cap,hr _ _ hc⟩,h3⟩
  | opt T b=>obtain ⟨k,h1,h2⟩:=h; exact ⟨k,hr _ _ h1,h2⟩
  | bbuf b n=>obtain ⟨k,cap,h1,h2⟩:=h; exact ⟨k,cap,hr _ _ h1,h2⟩
  | err g=>exact h
  | junk=>exact h
theorem GC.one {I:IH} {ρ:Ren} {v:Value} {x:AC} (h:GC I ρ v x):v.oneCell'=true:=by
  cases x with
  | c x=>exact Rd.one h
  | ptr b off=>obtain ⟨k,cap,h1,rfl⟩:=h; rfl
  | own b n sz=>obtain ⟨k,cap,a,c,h1,rfl,_⟩:=h; rfl
  | aptr b i sz off=>obtain ⟨k,cap,h1,rfl⟩:=h; rfl
  | sub b lo n c sz=>obtain ⟨k,cap,a,c',h1,rfl,_⟩:=h; rfl
  | nsl sz=>simp only [GC] at h; subst h; rfl
  | eptr cs=>obtain ⟨p,rfl,hc⟩:=h; rfl
  | fn f caps=>obtain ⟨ks,h1,h2,rfl⟩:=h; rfl
  | opt T b=>obtain ⟨k,h1,rfl | rfl⟩:=h<;>rfl
  | bbuf b n=>obtain ⟨k,cap,h1,_,⟨_,rfl⟩ | ⟨_,rfl⟩⟩:=h<;>rfl
  | err g =>
    simp only [GC] at h
    split at h
    · obtain ⟨t,p,rfl⟩:=h; rfl
    · subst h; rfl
  | junk=>exact h
inductive Box where
 | absent
 | dead
 | var (xs:List AC)
 | dat (sz:Nat) (es:List (List Cell))
 | frz (sz:Nat) (es:List (List Cell))
 | row (e:Nat) (l:List UInt8)
 deriving Inhabited
def Box.uses (x:Box) (p:Option (Nat × Nat)) (k:Nat):Prop :=
 match x with
 | .var _=>∃ cap,p=some (k,cap)
 | .dat _ _=>∃ cap,p=some (k,cap)/\cap ≠ 0
 | .row _ _=>∃ cap,p=some (k,cap)/\cap ≠ 0
 | _=>False
def BoxOK (I:IH) (ρ:Ren) (w:World) (b:Nat):Box->Prop
 | .absent=>ρ b=none
 | .dead=>True
 | .var xs=>∃ k cap cs,ρ b=some (k,cap)/\w.heap[k]? = some (.cells cs cap (0,0))/\cs.size=xs.length /\
   ∀ (j:Nat) (u:Value) (x:AC),cs[j]? = some u->xs[j]? = some x->GC I ρ u x
 | .dat sz es=>∃ k cap,ρ b=some (k,cap)/\es.length<=cap/\cap<=maxLen/\(∀ e,e∈es->e.length=sz) /\
   (cap ≠ 0->∃ cs e,w.heap[k]? = some (.cells cs e (0,0))/\cs.size=cap*sz/\(∀ (j:Nat) (u:Value),cs[j]? = some u->u.oneCell'=true) /\
    ∀ (i j:Nat) (c:Cell),(es.getD i [])[j]? = some c->∃ u,cs[i*sz+j]? = some u/\Rd I u c)
 | .frz sz es=>∃ k cap,ρ b=some (k,cap)/\es.length<=cap/\cap<=maxLen/\(∀ e,e∈es->e.length=sz) /\
   (cap ≠ 0->∃ cs,I k=some cs /\
    ∀ (i j:Nat) (c:Cell),(es.getD i [])[j]? = some c->∃ u,cs[i*sz+j]? = some u/\Rd I u c)
 | .row e l=>∃ k cap,ρ b=some (k,cap)/\l.length<=cap/\cap<=maxLen /\
   (cap ≠ 0->∃ cs,w.heap[k]? = some (.cells cs e (0,0))/\cs.size=cap/\(∀ (j:Nat) (u:Value),cs[j]? = some u->u.oneCell'=true) /\
    ∀ (j:Nat) (x:UInt8),l[j]? = some x->cs[j]? = some (.int .u8 x.toNat))
structure BX (I:IH) (ρ:Ren) (w:World) (bx:Nat->Box):Prop where
 ok:∀ b,BoxOK I ρ w b (bx b)
 inj:∀ b b' k,(bx b).uses (ρ b) k->(bx b').uses (ρ b') k->b=b'
 fresh:∀ b k,(bx b).uses (ρ b) k->I k=none
theorem BoxOK.lt {I:IH} {ρ:Ren} {w:World} {b k:Nat} {x:Box} (h:BoxOK I ρ w b x) (hu:x.uses (ρ b) k):k<w.heap.size:=by
  cases x with
  | absent=>exact hu.elim
  | dead=>exact hu.elim
  | var xs =>
    obtain ⟨k',cap,cs,hr,hw,_⟩:=h
    obtain ⟨cap',hu⟩:=hu
    rw [hr] at hu
    simp only [Option.some.injEq,Prod.mk.injEq] at hu
    rw [<- hu.1]
    exact heap_lt hw
  | frz sz es=>exact hu.elim
  | row e l =>
    obtain ⟨k',cap,hr,_,_,h⟩:=h
    obtain ⟨cap',hu,h0⟩:=hu
    rw [hr] at hu
    simp only [Option.some.injEq,Prod.mk.injEq] at hu
    obtain ⟨rfl,rfl⟩:=hu
    obtain ⟨cs,hw,_⟩:=h h0
    exact heap_lt hw
  | dat sz es =>
    obtain ⟨k',cap,hr,_,_,_,h⟩:=h
    obtain ⟨cap',hu,h0⟩:=hu
    rw [hr] at hu
    simp only [Option.some.injEq,Prod.mk.injEq] at hu
    obtain ⟨rfl,rfl⟩:=hu
    obtain ⟨cs,e,hw,_⟩:=h h0
    exact heap_lt hw
inductive AV where
 | one (x:AC)
 | agg (xs:List AC)
 | tup (xs:List (Bool × List AC))
 deriving Inhabited
def GCs (I:IH) (ρ:Ren) (vs:List Value) (xs:List AC):Prop :=
 vs.length=xs.length/\∀ (j:Nat) (v:Value) (x:AC),vs[j]? = some v->xs[j]? = some x->GC I ρ v x
theorem GCs.mono {I J:IH} (hle:I.le J) {ρ σ:Ren} (hr:ρ.le σ) {vs:List Value} {xs:List AC} (h:GCs I ρ vs xs):GCs J σ vs xs :=
 ⟨h.1,fun j v x hv hx=>(h.2 j v x hv hx).mono hle hr⟩
def GP (I:IH) (ρ:Ren) (v:Value) (p:Bool × List AC):Prop :=
 if p.1 then ∃ cs:Array Value,v = .agg cs/\GCs I ρ cs.toList p.2 else ∃ x,p.2=[x]/\GC I ρ v x
def GV (I:IH) (ρ:Ren) (v:Value):AV->Prop
 | .one x=>GC I ρ v x
 | .agg xs=>∃ cs:Array Value,v = .agg cs/\GCs I ρ cs.toList xs
 | .tup ps=>∃ vs:Array Value,v = .tuple vs/\vs.size=ps.length/\∀ (j:Nat) (v:Value) (p:Bool × List AC),vs[j]? = some v->ps[j]? = some p->GP I ρ v p
theorem GP.mono {I J:IH} (hle:I.le J) {ρ σ:Ren} (hr:ρ.le σ) {v:Value} {p:Bool × List AC} (h:GP I ρ v p):GP J σ v p:=by
 unfold GP at *
 split<;>rename_i hp
 ·rw [if_pos hp] at h; obtain ⟨cs,e,hc⟩:=h; exact ⟨cs,e,hc.mono hle hr⟩
 ·rw [if_neg hp] at h; obtain ⟨x,e,hc⟩:=h; exact ⟨x,e,hc.mono hle hr⟩
theorem GV.mono {I J:IH} (hle:I.le J) {ρ σ:Ren} (hr:ρ.le σ) {v:Value} {x:AV} (h:GV I ρ v x):GV J σ v x:=by
 cases x with
 | one x=>exact GC.mono hle hr h
 | agg xs=>obtain ⟨cs,e,hc⟩:=h; exact ⟨cs,e,hc.mono hle hr⟩
 | tup ps=>obtain ⟨vs,e,hl,hc⟩:=h; exact ⟨vs,e,hl,fun j v p hv hp=>(hc j v p hv hp).mono hle hr⟩
inductive Slot where
 | none
 | v (g:Bool) (x:AV)
def GSl (I:IH) (ρ:Ren) (v:Value):Slot->Prop
 | .none=>True
 | .v g x=>(g=true->GV I ρ v x)/\(g=false->v=undef)
theorem GSl.mono {I J:IH} (hle:I.le J) {ρ σ:Ren} (hr:ρ.le σ) {v:Value} {s:Slot} (h:GSl I ρ v s):GSl J σ v s:=by
 cases s with
 | none=>trivial
 | v g x=>exact ⟨fun hg=>(h.1 hg).mono hle hr,h.2⟩
structure ASt where
 tm:Nat->Slot
 bx:Nat->Box
theorem ASt.ext' {s t:ASt} (h1:s.tm=t.tm) (h2:s.bx=t.bx):s=t:=by
 cases s; cases t; simp at h1 h2; rw [h1,h2]
def ASt.put (st:ASt) (t:Nat) (s:Slot):ASt:=⟨fun t'=>if t'=t then s else st.tm t',st.bx⟩
def ASt.setb (st:ASt) (b:Nat) (x:Box):ASt:=⟨st.tm,fun b'=>if b'=b then x else st.bx b'⟩
theorem ASt.put_tm (st:ASt) (t t':Nat) (s:Slot):(st.put t s).tm t'=if t'=t then s else st.tm t':=rfl
theorem ASt.put_bx (st:ASt) (t:Nat) (s:Slot):(st.put t s).bx=st.bx:=rfl
theorem ASt.setb_tm (st:ASt) (b:Nat) (x:Box):(st.setb b x).tm=st.tm:=rfl
theorem ASt.setb_bx (st:ASt) (b b':Nat) (x:Box):(st.setb b x).bx b'=if b'=b then x else st.bx b':=rfl
structure GS (I:IH) (ρ:Ren) (n:Nat) (st:ASt) (a:Act) (w:World):Prop where
 agree:Agree I w
 bx:BX I ρ w st.bx
 tm:∀ t,t<n->GSl I ρ (a.tmps.getD t undef) (st.tm t)
 size:a.tmps.size=n
 defers:a.defers=[]
structure Frm (w w':World) (M:Nat->Prop):Prop where
 os:w'.os=w.os
 tape:w'.tape=w.tape
 output:w'.output=w.output
 size:w.heap.size<=w'.heap.size
 block:∀ k,k<w.heap.size->¬ M k->w'.heap[k]? = w.heap[k]?
theorem Frm.refl (w:World) (M:Nat->Prop):Frm w w M:=⟨rfl,rfl,rfl,Nat.le_refl _,fun _ _ _=>rfl⟩
theorem Frm.trans {a b c:World} {M N:Nat->Prop} (h:Frm a b M) (k:Frm b c N) (hN:∀ x,x<a.heap.size->N x->M x):Frm a c M :=
 ⟨k.os.trans h.os,k.tape.trans h.tape,k.output.trans h.output,Nat.le_trans h.size k.size,
  fun x hx hm=>(k.block x (Nat.lt_of_lt_of_le hx h.size) (fun hn=>hm (hN x hx hn))).trans (h.block x hx hm)⟩
end Go.Ab
end
section
namespace Go.Ab
open Go
inductive Opd where
 | t (s:Nat)
 | k (x:AC)
 deriving Inhabited
def Slot.g:Slot->Bool
 | .none=>false
 | .v g _=>g
def Slot.x:Slot->AV
 | .none => .one .junk
 | .v _ x=>x
def Opd.ev (tm:Nat->Slot):Opd->Slot
 | .t s=>tm s
 | .k x => .v true (.one x)
def Opd.slots:Opd->List Nat
 | .t s=>[s]
 | .k _=>[]
inductive AOp where
 | mv (x:Opd)
 | pick (c a b:Opd)
 | load (agg:Bool) (k:Nat) (p:Opd)
 | store (agg:Bool) (k:Nat) (p x:Opd)
 | alloc (l:Nat) (zs:List AC)
 | allocB (T e l r:Nat)
 | allocA (l sz n:Nat) (zs:List Cell)
 | box (l:Nat) (x:Opd)
 | build (zs:List AC) (parts:List (Nat × Nat × Opd))
 | bslice (l sz n:Nat) (zs:List Cell) (parts:List (Nat × Opd))
 | makes (l sz bytes:Nat) (zs:List Cell) (n m:Opd)
 | bin (o:BinOp) (x y:Opd)
 | beq (ng:Bool) (x y:Opd)
 | not (x:Opd)
 | neg (x:Opd)
 | cint (k:IntKind) (x:Opd)
 | cstr (x:Opd)
 | same (x:Opd)
 | mkfn (f:FuncId) (caps:List Opd)
 | slstr (x:Opd) (lo hi:Option Opd)
 | slsl (sz:Nat) (x:Opd) (lo hi:Option Opd)
 | slarr (sz n:Nat) (x:Opd)
 | nilck (x:Opd)
 | faddr (off:Nat) (x:Opd)
 | field (agg:Bool) (off k:Nat) (x:Opd)
 | iaddr (sz:Nat) (x i:Opd)
 | iaddrA (sz n:Nat) (x i:Opd)
 | idxs (x i:Opd)
 | extract (x:Opd) (i:Nat)
 | len (x:Opd)
 | lens (x:Opd)
 | max (x y:Opd)
 | min (x y:Opd)
 | append (l sz bytes:Nat) (s x:Opd)
 | copy (sz:Nat) (d x:Opd)
 | shf (l:Bool) (x y:Opd)
 | capo (x:Opd)
 | sslice (sz:Nat) (x:Opd) (lo hi:Option Opd)
 | sl3 (sz:Nat) (x lo hi mx:Opd)
 | sapp (l sz bytes:Nat) (s x:Opd)
 | scpy (sz:Nat) (d x:Opd)
 | sclr (sz:Nat) (zs:List Cell) (x:Opd)
 | cmps (x y:Opd)
 | isnil (ng:Bool) (x:Opd)
 | ovl (x y:Opd)
 | idxb (x y:Opd)
 | appz (l sz bytes:Nat) (zs:List Cell) (s x:Opd)
 | stop
 deriving Inhabited
def AOp.opds:AOp->List Opd
 | .mv x | .load _ _ x | .box _ x | .not x | .neg x | .cint _ x | .cstr x | .same x | .slarr _ _ x | .nilck x | .faddr _ x | .field _ _ _ x | .extract x _ | .len x | .lens x | .capo x | .sclr _ _ x | .isnil _ x=>[x]
 | .pick c a b=>[c,a,b]
 | .store _ _ p x=>[p,x]
 | .alloc _ _ | .allocB _ _ _ _ | .allocA _ _ _ _ | .stop=>[]
 | .build _ ps=>ps.map (·.2.2)
 | .bslice _ _ _ _ ps=>ps.map (·.2)
 | .makes _ _ _ _ n m=>[n,m]
 | .bin _ x y | .beq _ x y | .iaddr _ x y | .iaddrA _ _ x y | .idxs x y | .max x y | .min x y | .append _ _ _ x y | .copy _ x y | .shf _ x y | .sapp _ _ _ x y | .scpy _ x y | .cmps x y | .idxb x y | .ovl x y | .appz _ _ _ _ x y=>[x,y]
 | .sl3 _ x a b c=>[x,a,b,c]
 | .mkfn _ cs=>cs
 | .slstr x lo hi | .slsl _ x lo hi | .sslice _ x lo hi=>x::(lo.toList++hi.toList)
structure FR where
 vc:Prop
 v:AV
 sets:List (Nat × Box)
abbrev vInt (k:IntKind) (n:Int):AV := .one (.c (.lit (.int k n)))
abbrev vBool (b:Bool):AV := .one (.c (.lit (.bool b)))
abbrev vStr (l:List UInt8):AV := .one (.c (.str l))
abbrev vSl (sz:Nat) (es:List (List Cell)):AV := .one (.c (.sl sz es))
def FR.bad:FR:=⟨False,.one .junk,[]⟩
def FR.ok (v:AV):FR:=⟨True,v,[]⟩
def intBin (o:BinOp) (k:IntKind) (a b:Int):FR :=
 match o with
 | .add => .ok (vInt k (k.wrap (a+b)))
 | .sub => .ok (vInt k (k.wrap (a-b)))
 | .mul => .ok (vInt k (k.wrap (a*b)))
 | .quo=>⟨b ≠ 0,vInt k (k.wrap (a.tdiv b)),[]⟩
 | .rem=>⟨b ≠ 0,vInt k (a.tmod b),[]⟩
 | .xor => .ok (vInt k (k.wrap (BitVec.ofInt k.bits a ^^^ BitVec.ofInt k.bits b).toNat))
 | .and => .ok (vInt k (k.wrap (BitVec.ofInt k.bits a &&& BitVec.ofInt k.bits b).toNat))
 | .eql => .ok (vBool (a==b))
 | .neq => .ok (vBool (a != b))
 | .lss => .ok (vBool (decide (a<b)))
 | .leq => .ok (vBool (decide (a<=b)))
 | .gtr => .ok (vBool (decide (b<a)))
 | .geq => .ok (vBool (decide (b<=a)))
 | _ => .bad
def strBin (o:BinOp) (a b:List UInt8):FR :=
 match o with
 | .add=>⟨a.length+b.length<=maxLen,vStr (a++b),[]⟩
 | .eql => .ok (vBool (a==b))
 | .neq => .ok (vBool (!(a==b)))
 | .lss => .ok (vBool (Op.bytesLess a b))
 | .leq => .ok (vBool (Op.bytesLess a b||a==b))
 | .gtr => .ok (vBool (!(Op.bytesLess a b||a==b)))
 | .geq => .ok (vBool (!(Op.bytesLess a b)))
 | _ => .bad
def binV (o:BinOp) (x y:AV):FR :=
 match x,y with
 | .one (.c (.lit (.int k a))),.one (.c (.lit (.int k' b)))=>⟨k=k'/\(intBin o k a b).vc,(intBin o k a b).v,[]⟩
 | .one (.c (.str a)),.one (.c (.str b))=>strBin o a b
 | _,_ => .bad
def beqV (neg:Bool) (x y:AV):FR :=
 match x,y with
 | .one (.c (.lit (.bool a))),.one (.c (.lit (.bool b))) => .ok (vBool (if neg then a != b else a==b))
 | _,_ => .bad
def pickV (t:Bool) (x y:AV):AV :=
 match x,y with
 | .one (.c (.lit (.bool a))),.one (.c (.lit (.bool b)))=>vBool (bif t then a else b)
 | _,_=>if t then x else y
def Box.arr:Box->Option (Nat × List (List Cell))
 | .dat sz es=>some (sz,es)
 | .frz sz es=>some (sz,es)
 | _=>none
def dataOf (bx:Nat->Box):AC->Option Cell
  | .c x=>some x
  | .nsl sz=>some (.sl sz [])
  | .own b n sz=>match (bx b).arr with
    | some (_,es)=>some (.sl sz (es.take n))
    | none=>none
  | _=>none
def datas (bx:Nat->Box):List AC->Option (List Cell)
  | []=>some []
  | x::r=>match dataOf bx x,datas bx r with
    | some c,some cs=>some (c::cs)
    | _,_=>none
def ownsOf:List AC->List Nat
 | []=>[]
 | .own b _ _::r=>b::ownsOf r
 | _::r=>ownsOf r
def frzB:Box->Box
 | .dat sz es => .frz sz es
 | x=>x
def lendOK (bx:Nat->Box):List AC->Prop
  | []=>True
  | .own b n sz::r=>(match (bx b).arr with
    | some (sz',es)=>sz'=sz/\n<=es.length
    | none=>False)/\lendOK bx r
  | _::r=>lendOK bx r
def frzs (bx:Nat->Box) (l:List Nat):List (Nat × Box):=l.map fun b=>(b,frzB (bx b))
def AV.cells:AV->List AC
 | .one x=>[x]
 | .agg xs=>xs
 | .tup _=>[]
def AV.flat:AV->Prop
 | .tup _=>False
 | _=>True
def splice {α:Type} (xs:List α) (off:Nat) (ys:List α):List α:=xs.take off++ys++xs.drop (off+ys.length)
def loadV (agg:Bool) (k:Nat) (p:AV) (bx:Nat->Box):FR :=
  match p with
  | .one (.ptr b off)=>match bx b with
    | .var xs=>if agg then ⟨off+k<=xs.length,.agg ((xs.drop off).take k),[]⟩ else match xs[off]? with
      | some x => .ok (.one x)
      | none => .bad
    | _ => .bad
  | .one (.aptr b i sz off)=>match (bx b).arr with
    | some (sz',es)=>if agg then ⟨sz'=sz/\i<es.length/\off+k<=sz,.agg ((((es.getD i []).drop off).take k).map .c),[]⟩
      else ⟨sz'=sz/\i<es.length/\off<sz,.one (.c ((es.getD i []).getD off default)),[]⟩
    | _ => .bad
  | .one (.eptr cs)=>if agg then ⟨k<=cs.length,.agg ((cs.take k).map .c),[]⟩ else ⟨0<cs.length,.one (.c (cs.getD 0 default)),[]⟩
  | _ => .bad
def storeV (agg:Bool) (k:Nat) (p x:AV) (bx:Nat->Box):FR :=
  match x,agg with
  | .tup _,_ => .bad
  | .one _,true => .bad
  | .agg _,false => .bad
  | x,_=>match p with
    | .one (.ptr b off)=>match bx b with
      | .var xs=>⟨x.cells.length=k/\off+k<=xs.length,.one .junk,[(b,.var (splice xs off x.cells))]⟩
      | _ => .bad
    | .one (.aptr b i sz off)=>match bx b,datas bx x.cells with
      | .dat sz' es,some cs=>⟨sz'=sz/\cs.length=k/\i<es.length/\off+k<=sz/\lendOK bx x.cells/\(ownsOf x.cells).contains b=false,.one .junk,frzs bx (ownsOf x.cells)++[(b,.dat sz (es.set i (splice (es.getD i []) off cs)))]⟩
      | _,_ => .bad
    | _ => .bad
def fillV {α:Type} (zs:List α):List (Nat × List α)->List α
 | []=>zs
 | (off,xs)::r=>fillV (splice zs off xs) r
def partOK (n:Nat):Nat × Nat × AV->Prop
 | (off,sz,x)=>x.cells.length=sz/\off+sz<=n/\x.flat
def datParts (ev:Opd->AV) (bx:Nat->Box) (n sz:Nat):List (Nat × Opd)->Option (List (Nat × List Cell))
  | []=>some []
  | (i,x)::r=>match datas bx (ev x).cells,datParts ev bx n sz r with
    | some cs,some l=>some ((i,cs)::l)
    | _,_=>none
def partOwns (ev:Opd->AV):List (Nat × Opd)->List Nat
 | []=>[]
 | (_,x)::r=>ownsOf (ev x).cells++partOwns ev r
def partLend (ev:Opd->AV) (bx:Nat->Box):List (Nat × Opd)->Prop
 | []=>True
 | (_,x)::r=>lendOK bx (ev x).cells/\partLend ev bx r
def fillE (es:List (List Cell)):List (Nat × List Cell)->List (List Cell)
 | []=>es
 | (i,cs)::r=>fillE (es.set i cs) r
def bytesOf:List (List Cell)->Option (List UInt8)
  | []=>some []
  | [.lit (.int .u8 n)]::r=>match bytesOf r with
    | some l=>some (UInt8.ofNat n.toNat::l)
    | none=>none
  | _=>none
def capsOf:List AV->Option (List Nat)
 | []=>some []
 | .one (.ptr b 0)::r=>(capsOf r).map (b :: ·)
 | _=>none
def bnd (ev:Opd->AV) (o:Option Opd) (dflt:Nat):Option Int :=
  match o with
  | none=>some dflt
  | some x=>match ev x with
    | .one (.c (.lit (.int _ n)))=>some n
    | _=>none
def srcOf (sz:Nat) (x:AV) (bx:Nat->Box):Option (Prop × List (List Cell)) :=
  match x with
  | .one (.c (.sl sz' es))=>some (sz'=sz,es)
  | .one (.nsl _)=>some (True,[])
  | .one (.own b n sz')=>match (bx b).arr with
    | some (sz'',es)=>some (sz'=sz/\sz''=sz/\n<=es.length,es.take n)
    | _=>none
  | .one (.sub b lo n _ sz')=>match (bx b).arr with
    | some (sz'',es)=>some (sz'=sz/\sz''=sz/\lo+n<=es.length,(es.drop lo).take n)
    | _=>none
  | _=>none
def asSub:AV->Option (Nat × Nat × Nat × Option Nat × Nat)
 | .one (.own b n sz)=>some (b,0,n,none,sz)
 | .one (.sub b lo n c sz)=>some (b,lo,n,c,sz)
 | _=>none
def shfV (l:Bool) (x y:AV):FR :=
 match x,y with
 | .one (.c (.lit (.int k a))),.one (.c (.lit (.int _ b)))=>⟨0<=b,vInt k (if l then k.wrap (a*2^(min b.toNat k.bits)) else a.fdiv (2^(min b.toNat k.bits))),[]⟩
 | _,_ => .bad
def capV (x:AV):FR :=
 match x with
 | .one (.sub _ _ _ (some c) _) => .ok (vInt .i64 c)
 | .one (.nsl _) => .ok (vInt .i64 0)
 | _ => .bad
def ssliceV (sz:Nat) (x:AV) (lo:Option Int) (hi:Nat->Option Int):FR :=
  match asSub x with
  | some (b,l,n,c,sz')=>match lo,hi n with
    | some p,some q=>⟨sz'=sz/\0<=p/\p<=q/\q<=(match c with | some c=>c | none=>n:Nat),.one (.sub b (l+p.toNat) (q-p).toNat (c.map (· - p.toNat)) sz),[]⟩
    | _,_ => .bad
  | none => .bad
def sl3V (sz:Nat) (x p q m:AV):FR :=
 match asSub x,p,q,m with
 | some (_,_,n,c,sz'),.one (.c (.lit (.int _ p))),.one (.c (.lit (.int _ q))),.one (.c (.lit (.int _ m)))=>⟨sz'=sz/\0<=p/\p<=q/\q<=m/\m<=(match c with | some c=>c | none=>n:Nat),.one .junk,[]⟩
 | _,_,_,_ => .bad
def sappV (l sz bytes:Nat) (s x:AV) (bx:Nat->Box):FR :=
  match srcOf sz x bx,s with
  | some (p,ys),.one (.sub b lo n (some c) sz')=>match bx b with
    | .dat sz'' es=>if n+ys.length<=c then ⟨p/\sz'=sz/\sz''=sz/\lo+n<=es.length,.one (.sub b lo (n+ys.length) (some c) sz),[(b,.dat sz (splice es (lo+n) ys))]⟩
      else ⟨p/\sz'=sz/\sz''=sz/\lo+n<=es.length/\(match bx l with | .absent=>True | _=>False)/\(n+ys.length)*(bytes+sz+1)<=2^46,.one (.own l (n+ys.length) sz),[(l,.dat sz ((es.drop lo).take n++ys))]⟩
    | _ => .bad
  | _,_ => .bad
def truncS (m:Nat):AV->AV
 | .one (.sub b lo n c sz) => .one (.sub b lo (min n m) c sz)
 | x=>x
def scpyV (sz:Nat) (d x:AV) (bx:Nat->Box):FR :=
  match asSub d with
  | some (b,lo,n,_,sz')=>match srcOf sz (truncS n x) bx with
    | some (p,ys)=>match bx b with
      | .dat sz'' es=>⟨p/\sz'=sz/\sz''=sz/\lo<=es.length,vInt .i64 (Nat.min ys.length n:Nat),[(b,.dat sz (splice es lo (ys.take n)))]⟩
      | _ => .bad
    | none => .bad
  | none => .bad
def appzV (l sz bytes:Nat) (zs:List Cell) (s x:AV) (bx:Nat->Box):FR :=
  match s,x with
  | .one (.sub b lo n (some c) sz'),.one (.c (.lit (.int k q)))=>match bx b with
    | .dat sz'' es=>⟨k = .i64/\sz'=sz/\sz''=sz/\lo+n<=es.length/\0<=q/\c<n+q.toNat/\(match bx l with | .absent=>True | _=>False)/\(n+q.toNat)*(bytes+sz+1)<=2^46,
        .one (.own l (n+q.toNat) sz),[(l,.dat sz ((es.drop lo).take n++List.replicate q.toNat zs))]⟩
    | _ => .bad
  | .one (.nsl _),.one (.c (.lit (.int k q)))=>⟨k = .i64/\0<q/\(match bx l with | .absent=>True | _=>False)/\q.toNat*(bytes+sz+1)<=2^46,.one (.own l q.toNat sz),[(l,.dat sz (List.replicate q.toNat zs))]⟩
  | _,_ => .bad
def isnilV (ng:Bool) (x:AV):FR :=
 match x with
 | .one (.err g) => .ok (vBool (if ng then g else !g))
 | _ => .bad
def cmpsV (x y:AV):FR :=
 match x,y with
 | .one (.c (.str a)),.one (.c (.str b)) => .ok (vInt .i64 (Go.Lib.compareBytes a b))
 | _,_ => .bad
def idxbV (x y:AV):FR :=
 match x,y with
 | .one (.c (.str a)),.one (.c (.lit (.int k c)))=>⟨k = .u8,vInt .i64 (Go.Lib.indexByte a c.toNat.toUInt8),[]⟩
 | _,_ => .bad
def ovlV (x y:AV) (bx:Nat->Box):FR :=
  match asSub x,asSub y with
  | some (b,_,m,_,_),some (b',_,m',_,_)=>match bx b,bx b' with
    | .dat _ _,.dat sz _=>⟨b ≠ b'/\sz ≠ 0/\0<m/\0<m',vBool false,[]⟩
    | _,_ => .bad
  | _,_ => .bad
def sclrV (sz:Nat) (zs:List Cell) (d:AV) (bx:Nat->Box):FR :=
  match asSub d with
  | some (b,lo,n,_,sz')=>match bx b with
    | .dat sz'' es=>⟨sz'=sz/\sz''=sz/\lo<=es.length,.tup [],[(b,.dat sz (splice es lo (List.replicate n zs)))]⟩
    | _ => .bad
  | none => .bad
def AOp.f (op:AOp) (ev:Opd->AV) (bx:Nat->Box):FR :=
  match op with
  | .mv x => .ok (ev x)
  | .pick c a b=>match ev c with
    | .one (.c (.lit (.bool t))) => .ok (pickV t (ev a) (ev b))
    | _ => .bad
  | .load agg k p=>loadV agg k (ev p) bx
  | .store agg k p x=>storeV agg k (ev p) (ev x) bx
  | .alloc l zs=>⟨(match bx l with | .absent=>True | _=>False),.one (.ptr l 0),[(l,.var zs)]⟩
  | .allocB T e l r=>⟨(match bx l with | .absent=>True | _=>False)/\(match bx r with | .absent=>True | _=>False)/\l ≠ r,.one (.ptr l 0),[(r,.row e []),(l,.var [.opt T l,.bbuf r 0])]⟩
  | .allocA l sz n zs=>⟨(match bx l with | .absent=>True | _=>False),.one (.aptr l 0 sz 0),[(l,.dat sz (List.replicate n zs))]⟩
  | .box l x=>⟨(match bx l with | .absent=>True | _=>False)/\(ev x).flat,.one (.ptr l 0),[(l,.var (ev x).cells)]⟩
  | .build zs ps=>⟨(∀ p,p∈ps->partOK zs.length (p.1,p.2.1,ev p.2.2)),.agg (fillV zs (ps.map fun p=>(p.1,(ev p.2.2).cells))),[]⟩
  | .bslice l sz n zs ps=>match datParts ev bx n sz ps with
    | some l'=>⟨(match bx l with | .absent=>True | _=>False)/\(∀ p,p∈l'->p.1<n/\p.2.length=sz)/\partLend ev bx ps,.one (.own l n sz),frzs bx (partOwns ev ps)++[(l,.dat sz (fillE (List.replicate n zs) l'))]⟩
    | none => .bad
  | .makes l sz bytes zs n m=>match ev n,ev m with
    | .one (.c (.lit (.int _ n))),.one (.c (.lit (.int _ m))) =>
      ⟨(match bx l with | .absent=>True | _=>False)/\0<=n/\n<=m/\bytes*m<=2^47/\m<=2^47,.one (.own l n.toNat sz),[(l,.dat sz (List.replicate n.toNat zs))]⟩
    | _,_ => .bad
  | .bin o x y=>binV o (ev x) (ev y)
  | .beq ng x y=>beqV ng (ev x) (ev y)
  | .not x=>match ev x with
    | .one (.c (.lit (.bool b))) => .ok (vBool (!b))
    | _ => .bad
  | .neg x=>match ev x with
    | .one (.c (.lit (.int k n))) => .ok (vInt k (k.wrap (0-n)))
    | _ => .bad
  | .cint k x=>match ev x with
    | .one (.c (.lit (.int _ n))) => .ok (vInt k (k.wrap n))
    | _ => .bad
  | .cstr x=>match srcOf 1 (ev x) bx with
    | some (p,es)=>match bytesOf es with
      | some l=>⟨p/\l.length<=maxLen,vStr l,[]⟩
      | none => .bad
    | none => .bad
  | .same x=>match ev x with
    | .one (.c (.str l)) => .ok (vStr l)
    | _ => .bad
  | .mkfn f cs=>match capsOf (cs.map ev) with
    | some l => .ok (.one (.fn f l))
    | none => .bad
  | .slstr x lo hi=>match ev x with
    | .one (.c (.str s))=>match bnd ev lo 0,bnd ev hi s.length with
      | some a,some b=>⟨0<=a/\a<=b/\b<=s.length,vStr ((s.take b.toNat).drop a.toNat),[]⟩
      | _,_ => .bad
    | _ => .bad
  | .slsl sz x lo hi=>match ev x with
    | .one (.c (.sl sz' es))=>match bnd ev lo 0,bnd ev hi es.length with
      | some a,some b=>⟨sz'=sz/\0<=a/\a<=b/\b<=es.length,vSl sz ((es.take b.toNat).drop a.toNat),[]⟩
      | _,_ => .bad
    | .one (.nsl sz')=>match bnd ev lo 0,bnd ev hi 0 with
      | some a,some b=>⟨a=0/\b=0,.one (.nsl sz'),[]⟩
      | _,_ => .bad
    | .one (.own l n sz')=>match bnd ev lo 0,bnd ev hi n with
      | some a,some b=>⟨a=0/\0<=b/\b<=n,.one (.own l b.toNat sz'),[]⟩
      | _,_ => .bad
    | _ => .bad
  | .slarr sz n x=>match ev x with
    | .one (.aptr b 0 sz' 0)=>match bx b with
      | .dat sz'' es=>⟨sz'=sz/\sz''=sz/\es.length=n/\n ≠ 0,.one (.own b n sz),[]⟩
      | _ => .bad
    | _ => .bad
  | .nilck x=>match ev x with
    | .one (.ptr b o) => .ok (.one (.ptr b o))
    | .one (.aptr b i sz o) => .ok (.one (.aptr b i sz o))
    | .one (.eptr cs) => .ok (.one (.eptr cs))
    | .one (.fn f cs) => .ok (.one (.fn f cs))
    | _ => .bad
  | .faddr off x=>match ev x with
    | .one (.ptr b o) => .ok (.one (.ptr b (o+off)))
    | .one (.aptr b i sz o) => .ok (.one (.aptr b i sz (o+off)))
    | .one (.eptr cs) => .ok (.one (.eptr (cs.drop off)))
    | _ => .bad
  | .field agg off k x=>match ev x with
    | .agg xs=>if agg then ⟨off+k<=xs.length,.agg ((xs.drop off).take k),[]⟩ else match xs[off]? with
      | some x => .ok (.one x)
      | none => .bad
    | _ => .bad
  | .iaddr sz x i=>match ev x,ev i with
    | .one (.c (.sl sz' es)),.one (.c (.lit (.int _ i)))=>⟨sz'=sz/\0<=i/\i<es.length,.one (.eptr (es.getD i.toNat [])),[]⟩
    | .one (.own b n sz'),.one (.c (.lit (.int _ i)))=>⟨sz'=sz/\0<=i/\i<n,.one (.aptr b i.toNat sz 0),[]⟩
    | .one (.sub b lo n _ sz'),.one (.c (.lit (.int _ i)))=>⟨sz'=sz/\0<=i/\i<n,.one (.aptr b (lo+i.toNat) sz 0),[]⟩
    | _,_ => .bad
  | .iaddrA sz n x i=>match ev x,ev i with
    | .one (.aptr b 0 sz' 0),.one (.c (.lit (.int _ i)))=>⟨sz'=sz/\0<=i/\i<n,.one (.aptr b i.toNat sz 0),[]⟩
    | _,_ => .bad
  | .idxs x i=>match ev x,ev i with
    | .one (.c (.str s)),.one (.c (.lit (.int _ i)))=>⟨0<=i/\i<s.length,vInt .u8 (s.getD i.toNat 0).toNat,[]⟩
    | _,_ => .bad
  | .extract x i=>match ev x with
    | .tup ps=>match ps[i]? with
      | some (true,xs) => .ok (.agg xs)
      | some (false,[x]) => .ok (.one x)
      | _ => .bad
    | _ => .bad
  | .lens x=>match ev x with
    | .one (.c (.str s)) => .ok (vInt .i64 s.length)
    | _ => .bad
  | .len x=>match ev x with
    | .one (.c (.sl _ es)) => .ok (vInt .i64 es.length)
    | .one (.nsl _) => .ok (vInt .i64 0)
    | .one (.own _ n _) => .ok (vInt .i64 n)
    | .one (.sub _ _ n _ _) => .ok (vInt .i64 n)
    | _ => .bad
  | .max x y=>match ev x,ev y with
    | .one (.c (.lit (.int k a))),.one (.c (.lit (.int k' b)))=>⟨k=k',vInt k (if b>a then b else a),[]⟩
    | _,_ => .bad
  | .min x y=>match ev x,ev y with
    | .one (.c (.lit (.int k a))),.one (.c (.lit (.int k' b)))=>⟨k=k',vInt k (if b<a then b else a),[]⟩
    | _,_ => .bad
  | .append l sz bytes s x=>match srcOf sz (ev x) bx with
    | some (p,ys)=>match ev s with
      | .one (.nsl _)=>⟨p/\(match bx l with | .absent=>True | _=>False)/\ys.length*(bytes+sz+1)<=2^46,.one (.own l ys.length sz),[(l,.dat sz ys)]⟩
      | .one (.own b n sz')=>match bx b with
        | .dat sz'' es=>⟨p/\(match bx l with | .absent=>True | _=>False)/\sz'=sz/\sz''=sz/\n<=es.length/\(n+ys.length)*(bytes+sz+1)<=2^46/\b ≠ l,
            .one (.own l (n+ys.length) sz),[(b,.dead),(l,.dat sz (es.take n++ys))]⟩
        | _ => .bad
      | _ => .bad
    | none => .bad
  | .copy sz d x=>match srcOf sz (ev x) bx with
    | some (p,ys)=>match ev d with
      | .one (.own b n sz')=>match bx b with
        | .dat sz'' es=>⟨p/\sz'=sz/\sz''=sz/\n<=es.length,vInt .i64 (Nat.min ys.length n:Nat),[(b,.dat sz (splice es 0 (ys.take n)))]⟩
        | _ => .bad
      | .one (.nsl _) => .ok (vInt .i64 0)
      | _ => .bad
    | none => .bad
  | .shf l x y=>shfV l (ev x) (ev y)
  | .capo x=>capV (ev x)
  | .sslice sz x lo hi=>ssliceV sz (ev x) (bnd ev lo 0) (bnd ev hi)
  | .sl3 sz x p q m=>sl3V sz (ev x) (ev p) (ev q) (ev m)
  | .sapp l sz bytes s x=>sappV l sz bytes (ev s) (ev x) bx
  | .scpy sz d x=>scpyV sz (ev d) (ev x) bx
  | .sclr sz zs x=>sclrV sz zs (ev x) bx
  | .cmps x y=>cmpsV (ev x) (ev y)
  | .isnil ng x=>isnilV ng (ev x)
  | .ovl x y=>ovlV (ev x) (ev y) bx
  | .idxb x y=>idxbV (ev x) (ev y)
  | .stop => .bad
  | .appz l sz bytes zs s x=>appzV l sz bytes zs (ev s) (ev x) bx
def lvl:AV->List Nat
 | .one (.ptr b _)=>[b]
 | .one (.own b _ _)=>[b]
 | .one (.aptr b _ _ _)=>[b]
 | .one (.sub b _ _ _ _)=>[b]
 | _=>[]
def AOp.rd (op:AOp) (ev:Opd->AV):List Nat :=
 match op with
 | .load _ _ p=>lvl (ev p)
 | .store _ _ p x=>lvl (ev p)++(match ev p with | .one (.aptr _ _ _ _)=>ownsOf (ev x).cells | _=>[])
 | .bslice l _ _ _ ps=>l::partOwns ev ps
 | .alloc l _ | .allocA l _ _ _ | .box l _ | .makes l _ _ _ _ _=>[l]
 | .allocB _ _ l r=>[l,r]
 | .cstr x=>lvl (ev x)
 | .slarr _ _ x=>lvl (ev x)
 | .append l _ _ s x=>l::(lvl (ev s)++lvl (ev x))
 | .copy _ d x=>lvl (ev d)++lvl (ev x)
 | .sapp l _ _ s x=>l::(lvl (ev s)++lvl (ev x))
 | .scpy _ d x=>lvl (ev d)++lvl (ev x)
 | .sclr _ _ x=>lvl (ev x)
 | .ovl x y=>lvl (ev x)++lvl (ev y)
 | .appz l _ _ _ s _=>l::lvl (ev s)
 | _=>[]
end Go.Ab
end
section
namespace Go.Ab
open Go
def GVs (I:IH) (ρ:Ren) (vs:List Value) (xs:List AV):Prop :=
 vs.length=xs.length/\∀ (j:Nat) (v:Value) (x:AV),vs[j]? = some v->xs[j]? = some x->GV I ρ v x
def bxL (l:List Box):Nat->Box:=fun b=>l.getD b .absent
structure Tabs (P:Program) (I:IH):Prop where
 pow:∀ g,P.globalNamed "internal/strconv.uint64pow10" = some g->I g=some (Lib.pow10Tab.map fun z=>Value.int .u64 z).toArray
 PS:∀ g,P.globalNamed "internal/bytealg.MaxLen" = some g->∃ m,I.cell ⟨g,0,none⟩=some (.int .i64 m)
 Pz:∀ g,P.globalNamed "strconv.ErrSyntax" = some g->∃ v,I.cell ⟨g,0,none⟩=some v/\(v = .nilIface\/∃ t p,v = .iface t p)
 err:∀ g,P.globalNamed "strconv.ErrRange" = some g->∃ v,I.cell ⟨g,0,none⟩=some v/\(v = .nilIface\/∃ t p,v = .iface t p)
theorem Tabs.mono {P:Program} {I J:IH} (h:Tabs P I) (hle:I.le J):Tabs P J :=
 ⟨fun g hg=>hle _ _ (h.pow g hg),fun g hg=>(h.PS g hg).imp fun _ h=>IH.le_cell hle h,fun g hg=>(h.Pz g hg).imp fun _ h=>⟨IH.le_cell hle h.1,h.2⟩,fun g hg=>(h.err g hg).imp fun _ h=>⟨IH.le_cell hle h.1,h.2⟩⟩
def ACalls (P:Program) (f:FuncId) (args:List AV) (fp:List Box) (post:AV->List Box->Prop):Prop :=
  ∀ (I:IH) (ρ:Ren) (w:World) (vs:List Value),Tabs P I->Agree I w->BX I ρ w (bxL fp)->GVs I ρ vs args ->
    Calls P f vs.toArray w fun e w'=>∃ (v:Value) (J:IH) (σ:Ren) (r:AV) (bs:List Box),e = .returned v/\post r bs/\GV J σ v r/\Agree J w'/\BX J σ w' (bxL bs) /\
      I.le J/\Frm w w' (fun k=>∃ b,(bxL fp b).uses (ρ b) k) /\
      (∀ b k,(bxL bs b).uses (σ b) k->w.heap.size<=k\/∃ b',(bxL fp b').uses (ρ b') k) /\
      (∀ k,k<w.heap.size->(¬ ∃ b,(bxL fp b).uses (ρ b) k)->J k=I k) /\
      (∀ b,b<fp.length->σ b=ρ b)
def APure (P:Program) (f:FuncId) (args:List AV) (r:AV):Prop:=ACalls P f args [] fun r' bs=>r'=r/\bs=[]
inductive Cv (bx:Nat->Box):AC->AC->Prop
 | refl (x:AC):Cv bx x x
 | nsl (sz:Nat):Cv bx (.nsl sz) (.c (.sl sz []))
 | own (b n sz:Nat) (es:List (List Cell)) (h:(bx b).arr=some (sz,es)) (hn:n<=es.length):Cv bx (.own b n sz) (.c (.sl sz (es.take n)))
inductive CvL (bx:Nat->Box):List AC->List AC->Prop
 | nil:CvL bx [] []
 | cons {x y:AC} {xs ys:List AC} (h:Cv bx x y) (t:CvL bx xs ys):CvL bx (x::xs) (y::ys)
inductive CvA (bx:Nat->Box):AV->AV->Prop
 | one {x y:AC} (h:Cv bx x y):CvA bx (.one x) (.one y)
 | agg {xs ys:List AC} (h:CvL bx xs ys):CvA bx (.agg xs) (.agg ys)
inductive CvAs (bx:Nat->Box):List AV->List AV->Prop
 | nil:CvAs bx [] []
 | cons {x y:AV} {xs ys:List AV} (h:CvA bx x y) (t:CvAs bx xs ys):CvAs bx (x::xs) (y::ys)
def Cell.isLit:Cell->Bool
 | .sl _ _=>false
 | _=>true
def AC.isData:AC->Bool
 | .c _=>true
 | .err _=>true
 | _=>false
def AC.isLit:AC->Bool
 | .c x=>x.isLit
 | _=>false
def AV.all (p:AC->Bool):AV->Bool
 | .one x=>p x
 | .agg xs=>xs.all p
 | .tup ps=>ps.all fun q=>q.2.all p
def AV.owns:AV->List Nat
 | .one x=>ownsOf [x]
 | .agg xs=>ownsOf xs
 | .tup ps=>ps.flatMap fun q=>ownsOf q.2
def ASt.frz (st:ASt) (bs:List Nat):ASt:=⟨st.tm,fun b=>if b∈bs then frzB (st.bx b) else st.bx b⟩
def ASt.setbs (st:ASt):List (Nat × Box)->ASt
 | []=>st
 | (b,x)::r=>(st.setb b x).setbs r
def ASt.putO (st:ASt):Option Nat->Slot->ASt
 | none,_=>st
 | some t,s=>st.put t s
def renC (π:Nat->Nat):AC->AC
 | .ptr b off => .ptr (π b) off
 | .own b n sz => .own (π b) n sz
 | .sub b lo n c sz => .sub (π b) lo n c sz
 | .aptr b i sz off => .aptr (π b) i sz off
 | .fn f cs => .fn f (cs.map π)
 | .opt T b => .opt T (π b)
 | .bbuf b n => .bbuf (π b) n
 | x=>x
def renA (π:Nat->Nat):AV->AV
 | .one x => .one (renC π x)
 | .agg xs => .agg (xs.map (renC π))
 | .tup ps => .tup (ps.map fun q=>(q.1,q.2.map (renC π)))
def renB (π:Nat->Nat):Box->Box
 | .var xs => .var (xs.map (renC π))
 | x=>x
def AC.refsLt (m:Nat):AC->Bool
 | .ptr b _=>decide (b<m)
 | .own b _ _=>decide (b<m)
 | .sub b _ _ _ _=>decide (b<m)
 | .aptr b _ _ _=>decide (b<m)
 | .fn _ cs=>cs.all fun b=>decide (b<m)
 | .opt _ b=>decide (b<m)
 | .bbuf b _=>decide (b<m)
 | _=>true
def Box.refsLt (m:Nat):Box->Bool
 | .var xs=>xs.all (AC.refsLt m)
 | _=>true
inductive TCall (P:Program) (f:FuncId) (avs:List AV) (p:Bool) (d:Option Nat) (st:ASt) (K:List Nat->List Nat->ASt->Prop):Prop
 | lit (ds:List AV) (r:AV) (hc:p=true->CvAs st.bx avs ds) (hd:ds.all (·.all AC.isData)=true) (h:p=true->APure P f ds r) (hr:r.all AC.isLit=true) (k:K (avs.flatMap AV.owns) [] (st.putO d (.v p r)))
 | pure (ds:List AV) (r:AV) (hp:p=true) (hc:CvAs st.bx avs ds) (hd:ds.all (·.all AC.isData)=true) (h:APure P f ds r) (hr:r.all AC.isData=true) (k:K (avs.flatMap AV.owns) (avs.flatMap AV.owns) ((st.frz (avs.flatMap AV.owns)).putO d (.v true r)))
 | gen (hp:p=true) (ds:List AV) (fp:List Box) (sg nu:List Nat) (post:AV->List Box->Prop)
   (hl:sg.length=fp.length) (hn:(sg++nu).Nodup) (hf:∀ i,i<fp.length->st.bx ((sg++nu).getD i 0)=renB (fun b=>(sg++nu).getD b 0) (fp.getD i .absent))
   (hne:∃ r bs,post r bs) (hv:∀ b,b∈nu->st.bx b = .absent/\10<=b) (hra:(ds.all fun x=>x.all (AC.refsLt fp.length))=true) (hrf:fp.all (Box.refsLt fp.length)=true) (ha:avs=ds.map (renA fun b=>(sg++nu).getD b 0)) (h:ACalls P f ds fp post)
   (k:∀ r bs,post r bs->bs.length=(sg++nu).length /\
    K (sg++nu) (sg++nu) ((st.setbs ((sg++nu).zip (bs.map (renB fun b=>(sg++nu).getD b 0)))).putO d (.v true (renA (fun b=>(sg++nu).getD b 0) r))))
 | genL (hp:p=true) (az:List AV) (hc:CvAs st.bx avs az) (ds:List AV) (fp:List Box) (sg nu:List Nat) (post:AV->List Box->Prop)
   (hl:sg.length=fp.length) (hn:(sg++nu).Nodup) (hf:∀ i,i<fp.length->(st.frz (avs.flatMap AV.owns)).bx ((sg++nu).getD i 0)=renB (fun b=>(sg++nu).getD b 0) (fp.getD i .absent))
   (hne:∃ r bs,post r bs) (hv:∀ b,b∈nu->st.bx b = .absent/\10<=b) (hra:(ds.all fun x=>x.all (AC.refsLt fp.length))=true) (hrf:fp.all (Box.refsLt fp.length)=true) (ha:az=ds.map (renA fun b=>(sg++nu).getD b 0)) (h:ACalls P f ds fp post)
   (k:∀ r bs,post r bs->bs.length=(sg++nu).length /\
    K (avs.flatMap AV.owns++(sg++nu)) (avs.flatMap AV.owns++(sg++nu)) (((st.frz (avs.flatMap AV.owns)).setbs ((sg++nu).zip (bs.map (renB fun b=>(sg++nu).getD b 0)))).putO d (.v true (renA (fun b=>(sg++nu).getD b 0) r))))
inductive DU {α:Type} (x:α):Type
 | mk
def TCallK (P:Program) (f:FuncId) (avs:List AV) (p:Bool) (d:Option Nat) (st:ASt) (K:List Nat->List Nat->ASt->Prop) (_:DU K):Prop:=TCall P f avs p d st K
inductive AIns where
 | op (o:AOp)
 | call (f:FuncId) (args:List Opd)
 | callv (x:Opd) (args:List Opd)
 deriving Inhabited
structure AOper where
 g:Option (Nat × Bool)
 d:Option Nat
 i:AIns
 deriving Inhabited
def callOK (P:Program) (f:FuncId):Bool:=match P.funcs[f]? with
 | some fn => !(fn.name == "runtime.NumGoroutine")&&fn.body.isSome
 | none=>false
def guardVC (tm:Nat->Slot):Option (Nat × Bool)->Prop
  | none=>True
  | some (s,_)=>match tm s with
    | .v false _=>True
    | .v true (.one (.c (.lit (.bool _))))=>True
    | _=>False
def guardV (tm:Nat->Slot):Option (Nat × Bool)->Bool
  | none=>true
  | some (s,w)=>match tm s with
    | .v true (.one (.c (.lit (.bool b))))=>b==w
    | _=>false
def AOp.valid (ev:Opd->Slot):AOp->Prop
  | .pick c a b=>(ev c).g=true/\(match (ev c).x with
    | .one (.c (.lit (.bool t)))=>(t=true->(ev a).g=true)/\(t=false->(ev b).g=true)
    | _=>False)
  | o=>∀ x,x∈o.opds->(ev x).g=true
def avOf (tm:Nat->Slot) (x:Opd):AV:=(x.ev tm).x
def TOp (o:AOp) (p:Bool) (d:Option Nat) (st:ASt) (K:List Nat->List Nat->ASt->Prop):Prop :=
 (p=true->o.valid (Opd.ev st.tm)/\(o.f (avOf st.tm) st.bx).vc /\
  K (o.rd (avOf st.tm)) ((o.f (avOf st.tm) st.bx).sets.map (·.1)) ((st.setbs (o.f (avOf st.tm) st.bx).sets).putO d (.v true (o.f (avOf st.tm) st.bx).v))) /\
 (p=false->K [] [] (st.putO d (.v false (.one .junk))))
def T (P:Program) (o:AOper) (st:ASt) (K:List Nat->List Nat->ASt->Prop):Prop :=
  guardVC st.tm o.g/\match o.i with
    | .op op=>TOp op (guardV st.tm o.g) o.d st K
    | .call f args=>(guardV st.tm o.g=true->∀ x,x∈args->(x.ev st.tm).g=true)/\TCallK P f (args.map (avOf st.tm)) (guardV st.tm o.g) o.d st K .mk
    | .callv x args=>(guardV st.tm o.g=true->(x.ev st.tm).g=true/\∀ x,x∈args->(x.ev st.tm).g=true)/\match guardV st.tm o.g,avOf st.tm x with
      | false,_=>TCallK P 0 [] false o.d st K .mk
      | true,.one (.fn f caps)=>callOK P f=true/\TCallK P f (args.map (avOf st.tm)++caps.map fun b => .one (.ptr b 0)) true o.d st K .mk
      | true,_=>False
def wpOps (P:Program):List AOper->ASt->(ASt->Prop)->Prop
 | [],st,K=>K st
 | o::r,st,K=>T P o st fun _ _ st'=>wpOps P r st' K
def disj (a b:List Nat):Bool:=a.all fun x => !b.contains x
def logOK (aft:List Nat) (rd wr:List Nat):List (Nat × List Nat × List Nat)->Bool
 | []=>true
 | (j,r,w)::l=>(aft.contains j||(disj wr r&&disj wr w&&disj rd w))&&logOK aft rd wr l
def wpD (P:Program):List (AOper × List Nat)->Nat->List (Nat × List Nat × List Nat)->ASt->(ASt->Prop)->Prop
 | [],_,_,st,K=>K st
 | (o,aft)::r,i,log,st,K=>T P o st fun rd wr st'=>logOK aft rd wr log=true/\wpD P r (i+1) ((i,rd,wr)::log) st' K
def ASt.keep (st:ASt) (ts:List Nat):ASt:=⟨fun t=>if t∈ts then st.tm t else .none,st.bx⟩
end Go.Ab
end
section
namespace Go.Ab
open Go
def ASt.of (ts:List (Nat × Slot)) (bs:List (Nat × Box)):ASt :=
 ⟨fun t=>match ts.find? (fun p=>p.1==t) with | some p=>p.2 | none => .none,fun b=>match bs.find? (fun p=>p.1==b) with | some p=>p.2 | none => .absent⟩
def lookT:List (Nat × Slot)->Nat->Slot
 | [],_ => .none
 | (t',s)::r,t=>if t'=t then s else lookT r t
def lookB:List (Nat × Box)->Nat->Box
 | [],_ => .absent
 | (t',s)::r,t=>if t'=t then s else lookB r t
theorem of_tm (ts:List (Nat × Slot)) (bs:List (Nat × Box)) (t:Nat):(ASt.of ts bs).tm t=lookT ts t:=by
  simp only [ASt.of]
  induction ts with
  | nil=>rfl
  | cons p r ih =>
    obtain ⟨a,b⟩:=p
    by_cases h:a=t
    · subst h; simp [lookT]
    · simp [lookT,h,ih]
theorem of_bx (ts:List (Nat × Slot)) (bs:List (Nat × Box)) (t:Nat):(ASt.of ts bs).bx t=lookB bs t:=by
  simp only [ASt.of]
  induction bs with
  | nil=>rfl
  | cons p r ih =>
    obtain ⟨a,b⟩:=p
    by_cases h:a=t
    · subst h; simp [lookB]
    · simp [lookB,h,ih]
theorem of_put (ts:List (Nat × Slot)) (bs:List (Nat × Box)) (t:Nat) (s:Slot):(ASt.of ts bs).put t s=ASt.of ((t,s)::ts) bs:=by
 apply ASt.ext'
 ·funext t'; rw [of_tm,ASt.put_tm,of_tm,lookT]; by_cases h:t'=t
  ·simp [h]
  ·rw [if_neg h,if_neg (fun e=>h e.symm)]
 ·funext b; rw [ASt.put_bx,of_bx,of_bx]
def setB:List (Nat × Box)->Nat->Box->List (Nat × Box)
 | [],b,x=>[(b,x)]
 | (b',y)::r,b,x=>if b'=b then (b,x)::r else (b',y)::setB r b x
theorem lookB_setB (bs:List (Nat × Box)) (b b':Nat) (x:Box):lookB (setB bs b x) b'=if b'=b then x else lookB bs b':=by
  induction bs with
  | nil => simp only [setB,lookB]; by_cases h:b=b'
           · simp [h]
           · rw [if_neg h,if_neg (fun e=>h e.symm)]
  | cons p r ih =>
    obtain ⟨c,y⟩:=p
    simp only [setB]
    by_cases h:c=b
    · subst h
      simp only [if_true,lookB]
      by_cases h':c=b'
      · simp [h']
      · rw [if_neg h',if_neg h',if_neg (fun e=>h' e.symm)]
    · rw [if_neg h]
      simp only [lookB,ih]
      by_cases h':c=b'
      · subst h'; simp [h]
      · simp [h']
theorem of_setb (ts:List (Nat × Slot)) (bs:List (Nat × Box)) (b:Nat) (x:Box):(ASt.of ts bs).setb b x=ASt.of ts (setB bs b x):=by
 apply ASt.ext'
 ·funext t; rw [ASt.setb_tm,of_tm,of_tm]
 ·funext b'; rw [ASt.setb_bx,of_bx,of_bx,lookB_setB]
def keepL (ts:List (Nat × Slot)):List Nat->List (Nat × Slot)
 | []=>[]
 | t::r=>(t,lookT ts t)::keepL ts r
theorem of_keep (ts:List (Nat × Slot)) (bs:List (Nat × Box)) (l:List Nat):(ASt.of ts bs).keep l=ASt.of (keepL ts l) bs:=by
  apply ASt.ext'
  · funext t
    simp only [ASt.keep]
    rw [of_tm,of_tm]
    induction l with
    | nil=>rfl
    | cons a r ih =>
      simp only [keepL,lookT]
      by_cases h:a=t
      · subst h; simp
      · rw [if_neg h,<- ih]; have h':¬ t=a:=fun e=>h e.symm; simp [h']
  · funext b; simp only [ASt.keep]; rw [of_bx,of_bx]
theorem putO_none (st:ASt) (s:Slot):st.putO none s=st:=rfl
theorem putO_some (st:ASt) (t:Nat) (s:Slot):st.putO (some t) s=st.put t s:=rfl
theorem setbs_nil (st:ASt):st.setbs []=st:=rfl
theorem setbs_cons (st:ASt) (b:Nat) (x:Box) (r:List (Nat × Box)):st.setbs ((b,x)::r)=(st.setb b x).setbs r:=rfl
theorem ev_t (tm:Nat->Slot) (s:Nat):(Opd.t s).ev tm=tm s:=rfl
theorem ev_k (tm:Nat->Slot) (x:AC):(Opd.k x).ev tm = .v true (.one x):=rfl
theorem g_v (g:Bool) (x:AV):(Slot.v g x).g=g:=rfl
theorem x_v (g:Bool) (x:AV):(Slot.v g x).x=x:=rfl
end Go.Ab
end
section
namespace Go.Ab
open Go
theorem hpOld (w:World) (o:Obj) (r:Nat) (h:r<w.heap.size):(w.alloc o).heap[r]? = w.heap[r]? := by
 show (w.heap.push o)[r]? = w.heap[r]?
 rw [Array.getElem?_push,if_neg (Nat.ne_of_lt h)]
theorem BoxOK.keep {I J:IH} {ρ σ:Ren} {w w':World} {b:Nat} {x:Box} (h:BoxOK I ρ w b x) (hI:I.le J) (hρ:ρ.le σ) (hb:σ b=ρ b)
    (hk:∀ k,x.uses (ρ b) k->w'.heap[k]? = w.heap[k]?):BoxOK J σ w' b x:=by
  cases x with
  | absent=>exact hb.trans h
  | dead=>trivial
  | var xs =>
    obtain ⟨k,cap,cs,hr,hw,hs,hc⟩:=h
    exact ⟨k,cap,cs,hb.trans hr,(hk k ⟨cap,hr⟩).trans hw,hs,fun j u x hu hx=>(hc j u x hu hx).mono hI hρ⟩
  | dat sz es =>
    obtain ⟨k,cap,hr,hl,hm,hsz,hc⟩:=h
    refine ⟨k,cap,hb.trans hr,hl,hm,hsz,fun h0 => ?_⟩
    obtain ⟨cs,e,hw,hs,h1,hc⟩:=hc h0
    exact ⟨cs,e,(hk k ⟨cap,hr,h0⟩).trans hw,hs,h1,fun i j c hj=>let ⟨u,hu,hr⟩:=hc i j c hj; ⟨u,hu,hr.mono hI⟩⟩
  | frz sz es =>
    obtain ⟨k,cap,hr,hl,hm,hsz,hc⟩:=h
    refine ⟨k,cap,hb.trans hr,hl,hm,hsz,fun h0 => ?_⟩
    obtain ⟨cs,hw,hc⟩:=hc h0
    exact ⟨cs,hI _ _ hw,fun i j c hj=>let ⟨u,hu,hr⟩:=hc i j c hj; ⟨u,hu,hr.mono hI⟩⟩
  | row e l =>
    obtain ⟨k,cap,hr,hl,hm,hc⟩:=h
    refine ⟨k,cap,hb.trans hr,hl,hm,fun h0 => ?_⟩
    obtain ⟨cs,hw,hc⟩:=hc h0
    exact ⟨cs,(hk k ⟨cap,hr,h0⟩).trans hw,hc⟩
theorem BX.step {I J:IH} {ρ σ:Ren} {w w':World} {bx bx':Nat->Box} (D:Nat->Prop) (h:BX I ρ w bx) (hI:I.le J) (hρ:ρ.le σ)
  (hsame:∀ b,¬ D b->bx' b=bx b/\σ b=ρ b) (hkeep:∀ b k,¬ D b->(bx b).uses (ρ b) k->w'.heap[k]? = w.heap[k]?)
  (hok:∀ b,D b->BoxOK J σ w' b (bx' b)) (huse:∀ b k,D b->(bx' b).uses (σ b) k->(∀ b',¬ D b'->¬ (bx b').uses (ρ b') k)/\J k=none)
  (hinj:∀ b b' k,D b->D b'->(bx' b).uses (σ b) k->(bx' b').uses (σ b') k->b=b')
  (hJ:∀ b k,¬ D b->(bx b).uses (ρ b) k->J k=none):BX J σ w' bx':=by
 refine ⟨fun b => ?_,fun b b' k hb hb' => ?_,fun b k hb => ?_⟩
 ·by_cases hD:D b
  ·exact hok b hD
  ·obtain ⟨e1,e2⟩:=hsame b hD
   rw [e1]
   exact (h.ok b).keep hI hρ e2 fun k hk=>hkeep b k hD hk
 ·by_cases hD:D b
  ·by_cases hD':D b'
   ·exact hinj b b' k hD hD' hb hb'
   ·obtain ⟨e1,e2⟩:=hsame b' hD'
    rw [e1,e2] at hb'
    exact absurd hb' ((huse b k hD hb).1 b' hD')
  ·obtain ⟨e1,e2⟩:=hsame b hD
   rw [e1,e2] at hb
   by_cases hD':D b'
   ·exact absurd hb ((huse b' k hD' hb').1 b hD)
   ·obtain ⟨e1',e2'⟩:=hsame b' hD'
    rw [e1',e2'] at hb'
    exact h.inj b b' k hb hb'
 ·by_cases hD:D b
  ·exact (huse b k hD hb).2
  ·obtain ⟨e1,e2⟩:=hsame b hD
   rw [e1,e2] at hb
   exact hJ b k hD hb
theorem Agree.alloc {I:IH} {w:World} (h:Agree I w) (o:Obj):Agree I (w.alloc o):=fun b c hc=>by
 obtain ⟨e,fr,hw⟩:=h b c hc
 exact ⟨e,fr,(hpOld w o b (heap_lt hw)).trans hw⟩
theorem Agree.other {I:IH} {w w':World} (h:Agree I w) (hk:∀ k c,I k=some c->w'.heap[k]? = w.heap[k]?):Agree I w':=fun b c hc=>by
 obtain ⟨e,fr,hw⟩:=h b c hc
 exact ⟨e,fr,(hk b c hc).trans hw⟩
theorem Agree.none_new {I:IH} {w:World} (h:Agree I w) {k:Nat} (hk:w.heap.size<=k):I k=none:=by
 cases hc:I k with
 | none=>rfl
 | some c=>have:=h.lt hc; omega
def Ren.set (ρ:Ren) (l k cap:Nat):Ren:=fun b=>if b=l then some (k,cap) else ρ b
theorem Ren.le_set {ρ:Ren} {l k cap:Nat} (h:ρ l=none):ρ.le (ρ.set l k cap):=fun b x hb=>by
 unfold Ren.set
 rw [if_neg (fun e=>by subst e; rw [h] at hb; cases hb)]
 exact hb
theorem Ren.set_same (ρ:Ren) (l k cap:Nat):(ρ.set l k cap) l=some (k,cap):=by simp [Ren.set]
theorem Ren.set_other {ρ:Ren} {l k cap b:Nat} (h:b ≠ l):(ρ.set l k cap) b=ρ b:=by simp [Ren.set,h]
theorem BX.new {I:IH} {ρ:Ren} {w:World} {bx:Nat->Box} (h:BX I ρ w bx) (hA:Agree I w) {l:Nat} (hl:bx l = .absent) (cs:Array Value) (e:TypeId) (cap:Nat) (x:Box)
  (hx:BoxOK I (ρ.set l w.heap.size cap) (w.alloc (.cells cs e)) l x) :
  BX I (ρ.set l w.heap.size cap) (w.alloc (.cells cs e)) (fun b=>if b=l then x else bx b):=by
 have hrl:ρ l=none:=by have:=h.ok l; rwa [hl] at this
 refine BX.step (fun b=>b=l) h (IH.le_refl I) (Ren.le_set hrl) ?_ ?_ ?_ ?_ ?_ ?_
 ·intro b hb
  exact ⟨by simp [hb],Ren.set_other hb⟩
 ·intro b k hb hk
  exact hpOld _ _ _ ((h.ok b).lt hk)
 ·rintro b rfl
  simpa using hx
 ·rintro b k rfl hk
  have hk':k=w.heap.size:=by
   simp only [if_true,Ren.set_same] at hk
   cases x with
   | absent=>exact hk.elim
   | dead=>exact hk.elim
   | frz sz es=>exact hk.elim
   | var xs=>obtain ⟨c,hc⟩:=hk; simp at hc; exact hc.1.symm
   | dat sz es=>obtain ⟨c,hc,_⟩:=hk; simp at hc; exact hc.1.symm
   | row e l=>obtain ⟨c,hc,_⟩:=hk; simp at hc; exact hc.1.symm
  subst hk'
  exact ⟨fun b' hb' hu=>by have:=(h.ok b').lt hu; omega,hA.none_new (Nat.le_refl _)⟩
 ·rintro b b' k rfl rfl _ _; rfl
 ·intro b k hb hk; exact h.fresh b k hk
theorem BX.set {I:IH} {ρ:Ren} {w w':World} {bx:Nat->Box} (h:BX I ρ w bx) {b k:Nat} (hu:(bx b).uses (ρ b) k) (x:Box) (hux:∀ k',x.uses (ρ b) k'->k'=k)
  (hk:∀ k',k' ≠ k->w'.heap[k']? = w.heap[k']?) (hx:BoxOK I ρ w' b x):BX I ρ w' (fun c=>if c=b then x else bx c):=by
 refine BX.step (fun c=>c=b) h (IH.le_refl I) (Ren.le_refl ρ) ?_ ?_ ?_ ?_ ?_ ?_
 ·intro c hc; exact ⟨by simp [hc],rfl⟩
 ·intro c k' hc hu'
  refine hk k' fun e=>hc ?_
  subst e
  exact h.inj c b k' hu' hu
 ·rintro c rfl; simpa using hx
 ·rintro c k' rfl hk'
  simp only [if_true] at hk'
  have:=hux k' hk'
  subst this
  exact ⟨fun b' hb' hu'=>hb' (h.inj b' c k' hu' hu),h.fresh c k' hu⟩
 ·rintro c c' k' rfl rfl _ _; rfl
 ·intro c k' hc hu'; exact h.fresh c k' hu'
structure Env (P:Program) where
 w0:World
 I0:IH
 M:Nat->Prop
 ρ0:Ren
 m:Nat
 tab:Tabs P I0
structure GX {P:Program} (E:Env P) (I:IH) (ρ:Ren) (n:Nat) (st:ASt) (a:Act) (w:World):Prop extends GS I ρ n st a w where
 frm:Frm E.w0 w E.M
 own:∀ b k,(st.bx b).uses (ρ b) k->E.w0.heap.size<=k\/E.M k
 ile:E.I0.le I
 inew:∀ k,k<E.w0.heap.size->¬ E.M k->I k=E.I0 k
 keepρ:∀ b,b<E.m->ρ b=E.ρ0 b
theorem GX.tabs {P:Program} {E:Env P} {I:IH} {ρ:Ren} {n:Nat} {st:ASt} {a:Act} {w:World} (h:GX E I ρ n st a w):Tabs P I:=E.tab.mono h.ile
theorem GX.put {P:Program} {E:Env P} {I:IH} {ρ:Ren} {n:Nat} {st:ASt} {a:Act} {w:World} (h:GX E I ρ n st a w) {d:Nat} (hd:d<n) {v:Value} {s:Slot} (hv:GSl I ρ v s) :
  GX E I ρ n (st.put d s) (a.put (some d) v) w:=by
 refine { h with tm:=fun t ht => ?_,size:=by simp [Act.put,h.size],defers:=h.defers,agree:=h.agree,bx:=h.bx }
 have hdt:d<a.tmps.size:=by rw [h.size]; exact hd
 simp only [Act.put,ASt.put_tm]
 by_cases e:t=d
 ·subst e
  simpa [Array.getD,hdt] using hv
 ·have:=h.tm t ht
  rw [if_neg e]
  have e':d ≠ t:=fun x=>e x.symm
  simpa [Array.getD_eq_getD_getElem?,Array.getElem?_setIfInBounds,e'] using this
theorem GX.putO {P:Program} {E:Env P} {I:IH} {ρ:Ren} {n:Nat} {st:ASt} {a:Act} {w:World} (h:GX E I ρ n st a w) {d:Option Nat} (hd:∀ x,d=some x->x<n) {v:Value} {s:Slot} (hv:GSl I ρ v s) :
  GX E I ρ n (st.putO d s) (a.put d v) w:=by
 cases d with
 | none=>exact h
 | some d=>exact h.put (hd d rfl) hv
theorem GX.drew {P:Program} {E:Env P} {I:IH} {ρ:Ren} {n:Nat} {st:ASt} {a:Act} {w:World} (h:GX E I ρ n st a w):GX E I ρ n st a w.drew :=
 { agree:=h.agree,bx:=⟨h.bx.ok,h.bx.inj,h.bx.fresh⟩,tm:=h.tm,size:=h.size,defers:=h.defers,frm:=⟨h.frm.os,h.frm.tape,h.frm.output,h.frm.size,h.frm.block⟩,own:=h.own,ile:=h.ile,inew:=h.inew,keepρ:=h.keepρ }
theorem GX.lit {P:Program} {E:Env P} {I:IH} {ρ:Ren} {n:Nat} {st:ASt} {a:Act} {w:World} (h:GX E I ρ n st a w):BX I ρ w st.bx:=h.bx
theorem GX.new {P:Program} {E:Env P} {I:IH} {ρ:Ren} {n:Nat} {st:ASt} {a:Act} {w:World} (h:GX E I ρ n st a w) {l:Nat} (hl:st.bx l = .absent) (hm:E.m<=l) (cs:Array Value) (e:TypeId) (cap:Nat) (x:Box)
  (hx:BoxOK I (ρ.set l w.heap.size cap) (w.alloc (.cells cs e)) l x):GX E I (ρ.set l w.heap.size cap) n (st.setb l x) a (w.alloc (.cells cs e)):=by
 have hrl:ρ l=none:=by have:=h.bx.ok l; rwa [hl] at this
 have hle:=Ren.le_set (ρ:=ρ) (k:=w.heap.size) (cap:=cap) hrl
 refine { agree:=h.agree.alloc _,bx:=BX.new h.bx h.agree hl cs e cap x hx,tm:=fun t ht=>(h.tm t ht).mono (IH.le_refl _) hle,size:=h.size,defers:=h.defers,frm := ?_,own := ?_,ile:=h.ile,inew:=h.inew,keepρ := ?_ }
 ·exact h.frm.trans (N:=fun _=>False) ⟨rfl,rfl,rfl,by simp,fun k hk _=>hpOld _ _ _ hk⟩ (fun _ _ hf=>hf.elim)
 ·intro b k hu
  simp only [ASt.setb_bx] at hu
  by_cases e:b=l
  ·subst e
   left
   have hs:=h.frm.size
   have hk':k=w.heap.size:=by
    simp only [if_true,Ren.set_same] at hu
    cases x with
    | absent=>exact hu.elim
    | dead=>exact hu.elim
    | frz sz es=>exact hu.elim
    | var xs=>obtain ⟨c,hc⟩:=hu; simp at hc; exact hc.1.symm
    | dat sz es=>obtain ⟨c,hc,_⟩:=hu; simp at hc; exact hc.1.symm
    | row e l=>obtain ⟨c,hc,_⟩:=hu; simp at hc; exact hc.1.symm
   omega
  ·rw [if_neg e,Ren.set_other e] at hu
   exact h.own b k hu
 ·intro b hb
  rw [Ren.set_other (by omega)]
  exact h.keepρ b hb
theorem GX.setb {P:Program} {E:Env P} {I:IH} {ρ:Ren} {n:Nat} {st:ASt} {a:Act} {w w':World} (h:GX E I ρ n st a w) {b k:Nat} (hu:(st.bx b).uses (ρ b) k) (x:Box) (hux:∀ k',x.uses (ρ b) k'->k'=k)
  (hF:Frm w w' (fun k'=>k'=k)) (hx:BoxOK I ρ w' b x) (hsz:w'.heap.size=w.heap.size):GX E I ρ n (st.setb b x) a w':=by
 have hk:∀ k',k' ≠ k->w'.heap[k']? = w.heap[k']? := fun k' hne=>by
  by_cases hlt:k'<w.heap.size
  ·exact hF.block k' hlt hne
  ·rw [Array.getElem?_eq_none (by omega),Array.getElem?_eq_none (by omega)]
 refine { agree:=h.agree.other fun k' c hc=>hk k' fun e => ?_,bx:=BX.set h.bx hu x hux hk hx,tm:=h.tm,size:=h.size,defers:=h.defers,frm := ?_,own := ?_,ile:=h.ile,inew:=h.inew,keepρ:=h.keepρ }
 ·subst e; have:=h.bx.fresh b k' hu; rw [this] at hc; cases hc
 ·refine h.frm.trans hF fun k' hlt e => ?_
  subst e
  rcases h.own b k' hu with h1 | h1
  ·omega
  ·exact h1
 ·intro c k' hc
  simp only [ASt.setb_bx] at hc
  by_cases e:c=b
  ·subst e
   simp only [if_true] at hc
   have:=hux k' hc
   subst this
   exact h.own c k' hu
  ·rw [if_neg e] at hc; exact h.own c k' hc
end Go.Ab
end
section
namespace Go.Ab
open Go
def chkC:Value->AC->Bool
 | .int k n,.c (.lit (.int k' n'))=>k==k'&&n==n'
 | .bool b,.c (.lit (.bool b'))=>b==b'
 | .string s,.c (.str l)=>s.data.toList==l&&decide (l.length<=1000000)
 | .slice none 0 0,.nsl _=>true
 | .slice none 0 0,.c (.sl _ [])=>true
 | .pointer none,.c (.lit (.pointer none))=>true
 | .nilFunc,.c (.lit .nilFunc)=>true
 | .nilIface,.c (.lit .nilIface)=>true
 | _,_=>false
theorem chkC_ok {I:IH} {ρ:Ren} {v:Value} {x:AC} (h:chkC v x=true):GC I ρ v x:=by
 unfold chkC at h
 split at h
 ·simp only [Bool.and_eq_true,beq_iff_eq] at h; obtain ⟨rfl,rfl⟩:=h; exact Rd.lit _ rfl
 ·simp only [beq_iff_eq] at h; subst h; exact Rd.lit _ rfl
 ·rename_i s l
  simp only [Bool.and_eq_true,beq_iff_eq,decide_eq_true_eq] at h
  obtain ⟨rfl,hl⟩:=h
  have:s=⟨⟨s.data.toList⟩⟩:=by cases s; rfl
  exact this ▸ Rd.str _ (by simp only [maxLen]; omega)
 ·rfl
 ·exact Rd.sl none 0 0 _ [] (fun _ _=>undef) rfl (Nat.le_refl _) (Nat.zero_le _) (fun e h=>by cases h) (fun h=>by omega) (fun ad h=>by cases h) (fun i j c h=>by simp at h)
 ·exact Rd.lit _ rfl
 ·exact Rd.lit _ rfl
 ·exact Rd.lit _ rfl
 ·cases h
def chkOpd (n:Nat):Operand->Opd->Bool
 | .tmp t,.t s=>t==s&&decide (t<n)
 | .const v,.k x=>chkC v x
 | .func f,.k (.fn g [])=>f==g
 | .global g,.k (.c (.lit (.pointer (some a))))=>a.block==g&&a.off==0&&a.spot.isNone
 | _,_=>false
section
variable {P:Program} {E:Env P} {I:IH} {ρ:Ren} {n:Nat} {st:ASt} {a:Act} {w:World}
theorem opd_ok (h:GX E I ρ n st a w) {x:Operand} {y:Opd} (hc:chkOpd n x y=true):GSl I ρ (a.eval x) (y.ev st.tm):=by
 unfold chkOpd at hc
 split at hc
 ·simp only [Bool.and_eq_true,beq_iff_eq,decide_eq_true_eq] at hc
  obtain ⟨rfl,hlt⟩:=hc
  exact h.tm _ hlt
 ·exact ⟨fun _=>chkC_ok hc,fun e=>by cases e⟩
 ·simp only [beq_iff_eq] at hc
  subst hc
  exact ⟨fun _=>⟨[],rfl,by simp,rfl⟩,fun e=>by cases e⟩
 ·rename_i g ad
  simp only [Bool.and_eq_true,beq_iff_eq] at hc
  obtain ⟨⟨h1,h2⟩,h3⟩:=hc
  refine ⟨fun _ => ?_,fun e=>by cases e⟩
  have:ad=⟨g,0,none⟩:=by cases ad; simp at *; exact ⟨h1,h2,h3⟩
  subst this
  exact Rd.lit _ rfl
 ·cases hc
theorem opd_v (h:GX E I ρ n st a w) {x:Operand} {y:Opd} (hc:chkOpd n x y=true) (hv:(y.ev st.tm).g=true):GV I ρ (a.eval x) (avOf st.tm y):=by
 have:=opd_ok h hc
 unfold avOf
 cases hs:y.ev st.tm with
 | none=>rw [hs] at hv; cases hv
 | v g x=>rw [hs] at hv this; exact this.1 hv
def Runs (P:Program) (E:Env P) (n:Nat) (o:Oper) (a:Act) (w:World) (st:ASt) (rv:AV):Prop :=
 ∃ v w' I' ρ',((execOp a.eval o).run P w = .ok (.value v) w'\/(execOp a.eval o).run P w = .ok .skip w'/\o.dst=none)/\GX E I' ρ' n st a w'/\(o.dst ≠ none->GV I' ρ' v rv)
theorem Runs.val {o:Oper} {v:Value} {rv:AV} (h:GX E I ρ n st a w) (hr:(execOp a.eval o).run P w = .ok (.value v) w) (hv:GV I ρ v rv):Runs P E n o a w st rv :=
 ⟨v,w,I,ρ,.inl hr,h,fun _=>hv⟩
def isAggD:TypeDesc->Bool
 | .struct _ | .array _ _=>true
 | _=>false
def tyOK (P:Program) (t:TypeId) (agg:Bool) (k:Nat):Bool :=
 match P.underlying t,P.info? t with
 | some d,some i=>isAggD d==agg&&i.size==k
 | _,_=>false
theorem tyOK_spec {t:TypeId} {agg:Bool} {k:Nat} (h:tyOK P t agg k=true) (w:World):(isAgg t).run P w = .ok agg w/\(sizeOf t).run P w = .ok k w:=by
 unfold tyOK at h
 split at h
 ·rename_i d i hd hi
  simp only [Bool.and_eq_true,beq_iff_eq] at h
  obtain ⟨rfl,rfl⟩:=h
  refine ⟨?_,by simp [sizeOf,typeInfo,hi]⟩
  cases d<;>simp [isAgg,run_underlying hd,isAggD]
 ·cases h
def sizeOK (P:Program) (t:TypeId) (k:Nat):Bool:=match P.info? t with | some i=>i.size==k | none=>false
theorem sizeOK_spec {t:TypeId} {k:Nat} (h:sizeOK P t k=true):∃ i,P.info? t=some i/\i.size=k:=by
 unfold sizeOK at h; split at h
 ·rename_i i hi; exact ⟨i,hi,by simpa using h⟩
 ·cases h
def chkMv (n:Nat) (op:Op) (y:Opd):Bool:=match op with | .move x | .assign x=>chkOpd n x y | _=>false
theorem mv_runs {o:Oper} {y:Opd} (h:GX E I ρ n st a w) (hc:chkMv n o.op y=true) (hv:(y.ev st.tm).g=true):Runs P E n o a w st (avOf st.tm y):=by
 unfold chkMv at hc
 split at hc
 ·rename_i x hx
  exact Runs.val h (v:=a.eval x) (by simp [execOp,hx]) (opd_v h hc hv)
 ·rename_i x hx
  exact Runs.val h (v:=a.eval x) (by simp [execOp,hx]) (opd_v h hc hv)
 ·cases hc
def chkPick (n:Nat) (op:Op) (c x y:Opd):Bool:=match op with | .pick c' x' y'=>chkOpd n c' c&&chkOpd n x' x&&chkOpd n y' y | _=>false
theorem gv_bool {v:Value} {b:Bool} (h:GV I ρ v (vBool b)):v = .bool b:=by
 cases h with | lit v hv=>rfl
theorem gv_int {v:Value} {k:IntKind} {m:Int} (h:GV I ρ v (vInt k m)):v = .int k m:=by
 cases h with | lit v hv=>rfl
theorem gv_str {v:Value} {l:List UInt8} (h:GV I ρ v (vStr l)):v = .string ⟨⟨l⟩⟩/\l.length<=maxLen:=by
 cases h with | str l hl=>exact ⟨rfl,hl⟩
theorem mk_bool (b:Bool):GV I ρ (.bool b) (vBool b):=Rd.lit _ rfl
theorem mk_int (k:IntKind) (m:Int):GV I ρ (.int k m) (vInt k m):=Rd.lit _ rfl
theorem mk_str {l:List UInt8} (h:l.length<=maxLen):GV I ρ (.string ⟨⟨l⟩⟩) (vStr l):=Rd.str l h
theorem pickV_true (x y:AV) {v:Value} (h:GV I ρ v x):GV I ρ v (pickV true x y):=by
 unfold pickV; split
 ·exact h
 ·exact h
theorem pickV_false (x y:AV) {v:Value} (h:GV I ρ v y):GV I ρ v (pickV false x y):=by
 unfold pickV; split
 ·exact h
 ·simpa using h
theorem pick_runs {o:Oper} {c x y:Opd} {t:Bool} (h:GX E I ρ n st a w) (hc:chkPick n o.op c x y=true) (hg:(c.ev st.tm).g=true) (ht:avOf st.tm c=vBool t)
  (hx:t=true->(x.ev st.tm).g=true) (hy:t=false->(y.ev st.tm).g=true):Runs P E n o a w st (pickV t (avOf st.tm x) (avOf st.tm y)):=by
 unfold chkPick at hc
 split at hc
 ·rename_i c' x' y' he
  simp only [Bool.and_eq_true] at hc
  have h1:=opd_v h hc.1.1 hg
  rw [ht] at h1
  have h1:=gv_bool h1
  cases t with
  | true=>exact Runs.val h (v:=a.eval x') (by simp [execOp,he,h1,asBool]) (pickV_true _ _ (opd_v h hc.1.2 (hx rfl)))
  | false=>exact Runs.val h (v:=a.eval y') (by simp [execOp,he,h1,asBool]) (pickV_false _ _ (opd_v h hc.2 (hy rfl)))
 ·cases hc
theorem toList_eq (l:List UInt8):(⟨⟨l⟩⟩:ByteArray).toList=l:=by rw [ByteArray.toList_eq]
theorem size_mk (l:List UInt8):(⟨⟨l⟩⟩:ByteArray).size=l.length:=rfl
theorem run_bin {b:BinOp} {t:TypeId} {x y:Value} {u v:AV} (w:World) (hx:GV I ρ x u) (hy:GV I ρ y v) (hvc:(binV b u v).vc) :
  ∃ r,(binOp b t x y).run P w = .ok r w/\GV I ρ r (binV b u v).v:=by
 unfold binV at *
 split at hvc
 ·rename_i k m k' m'
  obtain ⟨rfl,hvc⟩:=hvc
  have h1:=gv_int hx
  have h2:=gv_int hy
  subst h1; subst h2
  cases b<;>simp only [intBin,FR.bad,FR.ok] at hvc ⊢ <;>
   first
   | exact hvc.elim
   | (refine ⟨_,?_,mk_int _ _⟩; simp [binOp,Op.intArith,Op.intDiv,Op.intBits,hvc])
   | (refine ⟨_,?_,mk_bool _⟩; simp [binOp,Op.intCmp])
 ·rename_i l l'
  obtain ⟨h1,hl⟩:=gv_str hx
  obtain ⟨h2,hl'⟩:=gv_str hy
  subst h1; subst h2
  cases b<;>simp only [strBin,FR.bad,FR.ok] at hvc ⊢ <;>
   first
   | exact hvc.elim
   | (refine ⟨_,?_,mk_bool _⟩; simp only [binOp,Op.stringOp,toList_eq]; rfl)
   | skip
  refine ⟨.string ⟨⟨l++l'⟩⟩,?_,mk_str (by simpa using hvc)⟩
  have h63:¬ ((l.length+l'.length:Nat):Int)>IntKind.i64.max:=by
   simp only [maxLen] at hvc
   have e:IntKind.i64.max=9223372036854775807:=by decide
   rw [e]
   omega
  have happ:(⟨⟨l⟩⟩:ByteArray)++⟨⟨l'⟩⟩=⟨⟨l++l'⟩⟩:=by
   apply ByteArray.ext
   simp
  simp only [binOp,Op.stringOp,size_mk]
  rw [if_neg h63,happ]
  rfl
 ·exact hvc.elim
def chkBin (n:Nat) (op:Op) (b:BinOp) (x y:Opd):Bool:=match op with | .binOp b' _ x' y' _=>b'==b&&chkOpd n x' x&&chkOpd n y' y | _=>false
theorem run_eqGuard_int (b:BinOp) (t:TypeId) (x y:Operand) (k:IntKind) (m:Int) (v:Value) (w:World):(eqGuard b t x y (.int k m) v).run P w = .ok () w:=by
 cases b<;>rfl
theorem run_eqGuard_str (b:BinOp) (t:TypeId) (x y:Operand) (s:ByteArray) (v:Value) (w:World):(eqGuard b t x y (.string s) v).run P w = .ok () w:=by
 cases b<;>rfl
theorem run_eqGuard_bool (b:BinOp) (t:TypeId) (x y:Operand) (s:Bool) (v:Value) (w:World):(eqGuard b t x y (.bool s) v).run P w = .ok () w:=by
 cases b<;>rfl
theorem bin_runs {o:Oper} {b:BinOp} {x y:Opd} (h:GX E I ρ n st a w) (hc:chkBin n o.op b x y=true) (hx:(x.ev st.tm).g=true) (hy:(y.ev st.tm).g=true)
  (hvc:(binV b (avOf st.tm x) (avOf st.tm y)).vc):Runs P E n o a w st (binV b (avOf st.tm x) (avOf st.tm y)).v:=by
 unfold chkBin at hc
 split at hc
 ·rename_i b' t x' y' t' he
  simp only [Bool.and_eq_true,beq_iff_eq] at hc
  obtain ⟨⟨rfl,h1⟩,h2⟩:=hc
  have g1:=opd_v h h1 hx
  have g2:=opd_v h h2 hy
  obtain ⟨r,hr,hg⟩:=run_bin (P:=P) (t:=t) w g1 g2 hvc
  refine Runs.val h ?_ hg
  have hq:(eqGuard b' t x' y' (a.eval x') (a.eval y')).run P w = .ok () w:=by
   unfold binV at hvc
   split at hvc
   ·rename_i e1 e2; rw [e1] at g1; rw [gv_int g1]; exact run_eqGuard_int _ _ _ _ _ _ _ _
   ·rename_i e1 e2; rw [e1] at g1; rw [(gv_str g1).1]; exact run_eqGuard_str _ _ _ _ _ _ _
   ·exact hvc.elim
  simp [execOp,he,hq,hr]
 ·cases hc
def chkBeq (P:Program) (n:Nat) (op:Op) (ng:Bool) (x y:Opd):Bool :=
 match op with
 | .binOp b t x' y' _=>(match b with | .eql => !ng | .neq=>ng | _=>false)&&(match P.underlying t with | some .bool=>true | _=>false)&&chkOpd n x' x&&chkOpd n y' y
 | _=>false
theorem beq_runs {o:Oper} {ng:Bool} {x y:Opd} (h:GX E I ρ n st a w) (hc:chkBeq P n o.op ng x y=true) (hx:(x.ev st.tm).g=true) (hy:(y.ev st.tm).g=true)
  (hvc:(beqV ng (avOf st.tm x) (avOf st.tm y)).vc):Runs P E n o a w st (beqV ng (avOf st.tm x) (avOf st.tm y)).v:=by
 unfold chkBeq at hc
 split at hc
 ·rename_i b t x' y' t' he
  simp only [Bool.and_eq_true] at hc
  obtain ⟨⟨⟨hb,ht⟩,h1⟩,h2⟩:=hc
  have g1:=opd_v h h1 hx
  have g2:=opd_v h h2 hy
  unfold beqV at hvc ⊢
  split at hvc
  ·rename_i p q e1 e2
   rw [e1] at g1; rw [e2] at g2
   have hu:P.underlying t=some .bool:=by
    split at ht
    ·assumption
    ·cases ht
   have hd:∀ d,(Op.equalIn (d+1) t (.bool p) (.bool q)).run P w = .ok (p==q) w:=fun d=>by simp [Op.equalIn,run_underlying hu]
   have he':(Op.equal t (.bool p) (.bool q)).run P w = .ok (p==q) w:=hd 9999
   have hp:=gv_bool g1
   have hq:=gv_bool g2
   simp only [FR.ok]
   cases b<;>simp at hb
   ·subst hb
    refine Runs.val h ?_ (mk_bool _)
    simp [execOp,he,hp,hq,run_eqGuard_bool,binOp,he']
   ·subst hb
    refine Runs.val h ?_ (mk_bool _)
    simp [execOp,he,hp,hq,run_eqGuard_bool,binOp,he',bne]
  ·exact hvc.elim
 ·cases hc
def chkNot (n:Nat) (op:Op) (x:Opd):Bool:=match op with | .unOp .not _ x'=>chkOpd n x' x | _=>false
theorem not_runs {o:Oper} {x:Opd} {b:Bool} (h:GX E I ρ n st a w) (hc:chkNot n o.op x=true) (hx:(x.ev st.tm).g=true) (hb:avOf st.tm x=vBool b):Runs P E n o a w st (vBool (!b)):=by
 unfold chkNot at hc
 split at hc
 ·rename_i t x' he
  have g1:=opd_v h hc hx
  rw [hb] at g1
  have hp:=gv_bool g1
  exact Runs.val h (by simp [execOp,he,hp,Op.unary]) (mk_bool _)
 ·cases hc
def chkNeg (n:Nat) (op:Op) (x:Opd):Bool:=match op with | .unOp .neg _ x'=>chkOpd n x' x | _=>false
theorem neg_runs {o:Oper} {x:Opd} {k:IntKind} {m:Int} (h:GX E I ρ n st a w) (hc:chkNeg n o.op x=true) (hx:(x.ev st.tm).g=true) (hb:avOf st.tm x=vInt k m):Runs P E n o a w st (vInt k (k.wrap (0-m))):=by
 unfold chkNeg at hc
 split at hc
 ·rename_i t x' he
  have g1:=opd_v h hc hx
  rw [hb] at g1
  have hp:=gv_int g1
  exact Runs.val h (v := .int k (k.wrap (0-m))) (by simp [execOp,he,hp,Op.unary,Op.intArith]) (mk_int _ _)
 ·cases hc
def chkCint (P:Program) (n:Nat) (op:Op) (k:IntKind) (x:Opd):Bool:=match op with | .convert s d x'=>(match P.underlying s with | some _=>true | none=>false)&&(match P.underlying d with | some (.int k')=>k'==k | _=>false)&&chkOpd n x' x | _=>false
theorem cint_runs {o:Oper} {x:Opd} {k j:IntKind} {m:Int} (h:GX E I ρ n st a w) (hc:chkCint P n o.op k x=true) (hx:(x.ev st.tm).g=true) (hb:avOf st.tm x=vInt j m):Runs P E n o a w st (vInt k (k.wrap m)):=by
 unfold chkCint at hc
 split at hc
 ·rename_i s d x' he
  simp only [Bool.and_eq_true] at hc
  have g1:=opd_v h hc.2 hx
  rw [hb] at g1
  have hp:=gv_int g1
  obtain ⟨⟨h1,h2⟩,_⟩:=hc
  split at h1
  ·rename_i ds hs
   split at h2
   ·rename_i k' hd
    simp only [beq_iff_eq] at h2
    subst h2
    exact Runs.val h (v := .int k' (k'.wrap m)) (by simp [execOp,he,hp,convert,run_underlying hs,run_underlying hd,Conv.intToInt]) (mk_int _ _)
   ·cases h2
  ·cases h1
 ·cases hc
def chkSame (P:Program) (n:Nat) (op:Op) (x:Opd):Bool:=match op with | .convert s d x'=>(match P.underlying s with | some .string=>true | _=>false)&&(match P.underlying d with | some .string=>true | _=>false)&&chkOpd n x' x | _=>false
theorem same_runs {o:Oper} {x:Opd} {l:List UInt8} (h:GX E I ρ n st a w) (hc:chkSame P n o.op x=true) (hx:(x.ev st.tm).g=true) (hb:avOf st.tm x=vStr l):Runs P E n o a w st (vStr l):=by
 unfold chkSame at hc
 split at hc
 ·rename_i s d x' he
  simp only [Bool.and_eq_true] at hc
  have g1:=opd_v h hc.2 hx
  rw [hb] at g1
  obtain ⟨hp,hl⟩:=gv_str g1
  obtain ⟨⟨h1,h2⟩,_⟩:=hc
  split at h1
  ·rename_i hs
   split at h2
   ·rename_i hd
    exact Runs.val h (by simp [execOp,he,hp,convert,run_underlying hs,run_underlying hd]) (mk_str hl)
   ·cases h2
  ·cases h1
 ·cases hc
end
end Go.Ab
end
section
namespace Go.Ab
open Go
section
variable {P:Program} {E:Env P} {I:IH} {ρ:Ren} {n:Nat} {st:ASt} {a:Act} {w:World}
theorem getD_nil_some {α:Type} {es:List (List α)} {i j:Nat} {c:α} (h:(es.getD i [])[j]? = some c):i<es.length:=by
 by_cases hi:i<es.length
 ·exact hi
 ·simp [List.getD,List.getElem?_eq_none (Nat.le_of_not_lt hi)] at h
theorem Addr.add_zero (p:Addr):p.add 0=p:=by simp [Addr.add]
theorem Addr.add_mk (k o i:Nat):(⟨k,o,none⟩:Addr).add i=⟨k,o+i,none⟩:=by
 unfold Addr.add; split
 ·simp_all
 ·rfl
theorem Addr.add_add (p:Addr) (i j:Nat):(p.add i).add j=p.add (i+j):=by
 unfold Addr.add
 by_cases hi:i=0<;>by_cases hj:j=0<;>simp [hi,hj,Nat.add_assoc]
def CellsAt (I:IH) (ρ:Ren) (w:World) (p:Addr) (xs:List AC):Prop :=
 ∀ (j:Nat) (x:AC),xs[j]? = some x->∃ u,w.cell? (p.add j)=some u/\GC I ρ u x
theorem CellsAt.drop {p:Addr} {xs:List AC} (h:CellsAt I ρ w p xs) (off:Nat):CellsAt I ρ w (p.add off) (xs.drop off):=fun j x hj=>by
 rw [List.getElem?_drop] at hj
 rw [Addr.add_add]
 exact h _ _ hj
theorem CellsAt.take {p:Addr} {xs:List AC} (h:CellsAt I ρ w p xs) (k:Nat):CellsAt I ρ w p (xs.take k):=fun j x hj=>by
 rw [List.getElem?_take] at hj
 split at hj
 ·exact h _ _ hj
 ·cases hj
theorem CellsAt.list {p:Addr} {xs:List AC} (h:CellsAt I ρ w p xs):∃ us:List Value,us.length=xs.length/\(∀ (j:Nat) (u:Value),us[j]? = some u->w.cell? (p.add j)=some u)/\GCs I ρ us xs:=by
  induction xs generalizing p with
  | nil=>exact ⟨[],rfl,by simp,rfl,by simp⟩
  | cons x r ih =>
    obtain ⟨u,hu,hg⟩:=h 0 x rfl
    obtain ⟨us,hl,hc,hgs⟩:=ih (p:=p.add 1) (fun j y hj=>by rw [Addr.add_add]; rw [Nat.add_comm]; exact h (j+1) y (by simpa using hj))
    refine ⟨u::us,by simp [hl],fun j v hj => ?_,by simp [hl],fun j v y hv hy => ?_⟩
    · cases j with
      | zero=>simp at hj; subst hj; exact hu
      | succ j=>have:=hc j v (by simpa using hj); rwa [Addr.add_add,Nat.add_comm] at this
    · cases j with
      | zero=>simp at hv hy; subst hv; subst hy; exact hg
      | succ j=>exact hgs.2 j v y (by simpa using hv) (by simpa using hy)
theorem run_load_agg {t:TypeId} {k:Nat} (ht:tyOK P t true k=true) {p:Addr} {xs:List AC} (hl:xs.length=k) (h:CellsAt I ρ w p xs) :
  ∃ v,(loadVar t p).run P w = .ok v w/\GV I ρ v (.agg xs):=by
 obtain ⟨us,hul,hc,hg⟩:=h.list
 obtain ⟨h1,h2⟩:=tyOK_spec ht w
 have h3:=run_loadCells_list (P:=P) w p us hc
 refine ⟨.agg us.toArray,?_,us.toArray,rfl,by simpa using hg⟩
 rw [hul,hl] at h3
 simp [loadVar,h1,h2,h3]
theorem run_load_one {t:TypeId} {k:Nat} (ht:tyOK P t false k=true) {p:Addr} {u:Value} (h:w.cell? p=some u):(loadVar t p).run P w = .ok u w:=by
 obtain ⟨h1,h2⟩:=tyOK_spec ht w
 simp [loadVar,h1,run_load,h]
theorem BX.var_cells (h:BX I ρ w st.bx) {b k cap:Nat} {xs:List AC} (hb:st.bx b = .var xs) (hr:ρ b=some (k,cap)):CellsAt I ρ w ⟨k,0,none⟩ xs:=fun j x hj=>by
 have:=h.ok b
 rw [hb] at this
 obtain ⟨k',cap',cs,hr',hw,hs,hc⟩:=this
 rw [hr] at hr'
 simp at hr'
 obtain ⟨rfl,rfl⟩:=hr'
 have hjl:j<cs.size:=by rw [hs]; exact (List.getElem?_eq_some_iff.1 hj).1
 refine ⟨cs[j],?_,hc j _ x (Array.getElem?_eq_getElem hjl) hj⟩
 rw [Addr.add_mk]
 simp [World.cell?,hw,Array.getElem?_eq_getElem hjl]
theorem GS.arr_cells (h:GX E I ρ n st a w) {b k cap sz:Nat} {es:List (List Cell)} (hb:(st.bx b).arr=some (sz,es)) (hr:ρ b=some (k,cap)) (hc:cap ≠ 0) {i:Nat} (hi:i<es.length) :
    CellsAt I ρ w ⟨k,i*sz,none⟩ ((es.getD i []).map .c):=fun j x hj=>by
  rw [List.getElem?_map] at hj
  cases hq:(es.getD i [])[j]? with
  | none=>rw [hq] at hj; cases hj
  | some c =>
    rw [hq] at hj
    simp at hj
    subst hj
    have hok:=h.bx.ok b
    rw [Addr.add_mk]
    cases hx:st.bx b with
    | dat sz' es' =>
      rw [hx] at hok hb
      simp [Box.arr] at hb
      obtain ⟨rfl,rfl⟩:=hb
      obtain ⟨k',cap',hr',_,_,_,hd⟩:=hok
      rw [hr] at hr'
      simp at hr'
      obtain ⟨rfl,rfl⟩:=hr'
      obtain ⟨cs,e,hw,_,_,hcs⟩:=hd hc
      obtain ⟨u,hu,hrd⟩:=hcs i j c hq
      exact ⟨u,by simp [World.cell?,hw,hu],hrd⟩
    | frz sz' es' =>
      rw [hx] at hok hb
      simp [Box.arr] at hb
      obtain ⟨rfl,rfl⟩:=hb
      obtain ⟨k',cap',hr',_,_,_,hd⟩:=hok
      rw [hr] at hr'
      simp at hr'
      obtain ⟨rfl,rfl⟩:=hr'
      obtain ⟨cs,hI,hcs⟩:=hd hc
      obtain ⟨u,hu,hrd⟩:=hcs i j c hq
      obtain ⟨e,fr,hw⟩:=h.agree _ _ hI
      exact ⟨u,by simp [World.cell?,hw,hu],hrd⟩
    | absent=>rw [hx] at hb; cases hb
    | dead=>rw [hx] at hb; cases hb
    | var xs=>rw [hx] at hb; cases hb
    | row e l=>rw [hx] at hb; cases hb
theorem GS.arr_facts (h:GX E I ρ n st a w) {b k cap sz:Nat} {es:List (List Cell)} (hb:(st.bx b).arr=some (sz,es)) (hr:ρ b=some (k,cap)):es.length<=cap/\cap<=maxLen/\∀ e,e∈es->e.length=sz:=by
  have hok:=h.bx.ok b
  cases hx:st.bx b with
  | dat sz' es' =>
    rw [hx] at hok hb
    simp [Box.arr] at hb
    obtain ⟨rfl,rfl⟩:=hb
    obtain ⟨k',cap',hr',h1,h2,h3,hd⟩:=hok
    rw [hr] at hr'
    simp at hr'
    obtain ⟨rfl,rfl⟩:=hr'
    exact ⟨h1,h2,h3⟩
  | frz sz' es' =>
    rw [hx] at hok hb
    simp [Box.arr] at hb
    obtain ⟨rfl,rfl⟩:=hb
    obtain ⟨k',cap',hr',h1,h2,h3,hd⟩:=hok
    rw [hr] at hr'
    simp at hr'
    obtain ⟨rfl,rfl⟩:=hr'
    exact ⟨h1,h2,h3⟩
  | absent=>rw [hx] at hb; cases hb
  | dead=>rw [hx] at hb; cases hb
  | var xs=>rw [hx] at hb; cases hb
  | row e l=>rw [hx] at hb; cases hb
def chkLoad (P:Program) (n:Nat) (op:Op) (agg:Bool) (k:Nat) (p:Opd):Bool:=match op with | .load t p'=>chkOpd n p' p&&tyOK P t agg k&&(agg||k==1) | _=>false
theorem loadV_run {t:TypeId} {agg:Bool} {k:Nat} (h:GX E I ρ n st a w) (ht:tyOK P t agg k=true) {pv:Value} {p:AV} (hp:GV I ρ pv p) (hvc:(loadV agg k p st.bx).vc) :
  ∃ v,(Instr.loadAt t pv).run P w = .ok v w/\GV I ρ v (loadV agg k p st.bx).v:=by
 have key:∀ (q:Addr) (xs:List AC) (off:Nat),pv = .pointer (some (q.add off))->CellsAt I ρ w q xs->(agg=true->off+k<=xs.length->∃ v,(Instr.loadAt t pv).run P w = .ok v w/\GV I ρ v (.agg ((xs.drop off).take k))) /\
   (agg=false->∀ x,xs[off]? = some x->∃ v,(Instr.loadAt t pv).run P w = .ok v w/\GV I ρ v (.one x)):=by
  intro q xs off hq hc
  refine ⟨fun hA hl => ?_,fun hA x hx => ?_⟩
  ·subst hA
   obtain ⟨v,hv,hg⟩:=run_load_agg (P:=P) (xs:=(xs.drop off).take k) ht (by simp; omega) ((hc.drop off).take k)
   exact ⟨v,by simp [Instr.loadAt,hq,Instr.sureAddr,hv],hg⟩
  ·subst hA
   obtain ⟨u,hu,hg⟩:=hc off x hx
   exact ⟨u,by simp [Instr.loadAt,hq,Instr.sureAddr,run_load_one (P:=P) ht hu],hg⟩
 unfold loadV at *
 split at hvc
 ·rename_i b off
  obtain ⟨kk,cap,hr,hv⟩:=hp
  split at hvc
  ·rename_i xs hb
   have hc:=h.bx.var_cells hb hr
   have hk:=key ⟨kk,0,none⟩ xs off (by rw [Addr.add_mk]; simpa using hv) hc
   try simp only [hb]
   split at hvc
   ·rename_i hA; rw [if_pos hA]; exact hk.1 hA hvc
   ·rename_i hA
    rw [if_neg hA]
    split at hvc
    ·rename_i x hx; simp only [FR.ok]; exact hk.2 (by simpa using hA) x hx
    ·exact hvc.elim
  ·exact hvc.elim
 ·rename_i b i sz off
  obtain ⟨kk,cap,hr,hv⟩:=hp
  split at hvc
  ·rename_i sz' es hb
   try simp only [hb]
   have facts:=GS.arr_facts h hb hr
   split at hvc
   ·rename_i hA
    rw [if_pos hA]
    obtain ⟨rfl,hi,hl⟩:=hvc
    have hc:=GS.arr_cells h hb hr (by omega) hi
    have hlen:(es.getD i []).length=sz':=facts.2.2 _ (by simp [List.getD,List.getElem?_eq_getElem hi])
    have:=(key ⟨kk,i*sz',none⟩ _ off (by rw [Addr.add_mk]; exact hv) hc).1 hA (by rw [List.length_map,hlen]; exact hl)
    simpa [List.map_drop,List.map_take] using this
   ·rename_i hA
    rw [if_neg hA]
    obtain ⟨rfl,hi,hl⟩:=hvc
    have hc:=GS.arr_cells h hb hr (by omega) hi
    have hlen:(es.getD i []).length=sz':=facts.2.2 _ (by simp [List.getD,List.getElem?_eq_getElem hi])
    have:=(key ⟨kk,i*sz',none⟩ _ off (by rw [Addr.add_mk]; exact hv) hc).2 (by simpa using hA) (.c ((es.getD i []).getD off default))
     (by rw [List.getElem?_map,List.getElem?_eq_getElem (by omega)]; simp [List.getD,List.getElem?_eq_getElem (show off<(es[i]?.getD []).length by simpa [List.getD] using (by omega:off<(es.getD i []).length))])
    exact this
  ·exact hvc.elim
 ·rename_i cs
  obtain ⟨p,hv,hc⟩:=hp
  have hcc:CellsAt I ρ w p (cs.map .c):=fun j x hj=>by
   rw [List.getElem?_map] at hj
   cases hq:cs[j]? with
   | none=>rw [hq] at hj; cases hj
   | some c=>rw [hq] at hj; simp at hj; subst hj; obtain ⟨u,hu,hr⟩:=hc j c hq; exact ⟨u,h.agree.cell hu,hr⟩
  have hk:=key p _ 0 (by rw [Addr.add_zero]; exact hv) hcc
  split at hvc
  ·rename_i hA
   rw [if_pos hA]
   have:=hk.1 hA (by simpa using hvc)
   simpa [List.map_take] using this
  ·rename_i hA
   rw [if_neg hA]
   have h0:cs[0]? = some (cs.getD 0 default):=by simp [List.getD,List.getElem?_eq_getElem hvc]
   exact hk.2 (by simpa using hA) _ (by rw [List.getElem?_map,h0]; rfl)
 ·exact hvc.elim
theorem load_runs {o:Oper} {agg:Bool} {k:Nat} {p:Opd} (h:GX E I ρ n st a w) (hc:chkLoad P n o.op agg k p=true) (hx:(p.ev st.tm).g=true) (hvc:(loadV agg k (avOf st.tm p) st.bx).vc) :
  Runs P E n o a w st (loadV agg k (avOf st.tm p) st.bx).v:=by
 unfold chkLoad at hc
 split at hc
 ·rename_i t p' he
  simp only [Bool.and_eq_true] at hc
  obtain ⟨v,hv,hg⟩:=loadV_run (P:=P) h hc.1.2 (opd_v h hc.1.1 hx) hvc
  exact Runs.val h (by simp [execOp,he,hv]) hg
 ·cases hc
end
end Go.Ab
end
section
namespace Go.Ab
open Go
section
variable {P:Program} {E:Env P} {I:IH} {ρ:Ren} {n:Nat} {st:ASt} {a:Act} {w:World}
def isSliceT (P:Program) (t:TypeId):Bool:=match P.underlying t with | some (.slice _)=>true | _=>false
theorem isSliceT_spec {t:TypeId} (h:isSliceT P t=true):∃ e,P.underlying t=some (.slice e):=by
 unfold isSliceT at h; split at h
 ·rename_i e he; exact ⟨e,he⟩
 ·cases h
def isStrT (P:Program) (t:TypeId):Bool:=match P.underlying t with | some .string=>true | _=>false
theorem isStrT_spec {t:TypeId} (h:isStrT P t=true):P.underlying t=some .string:=by
 unfold isStrT at h; split at h
 ·assumption
 ·cases h
theorem gv_sl {v:Value} {sz:Nat} {es:List (List Cell)} (h:GV I ρ v (vSl sz es)):∃ a cap,v = .slice a es.length cap/\es.length<=cap/\cap<=maxLen:=by
 cases h with | sl a len cap sz es u hlen hcap hmax=>subst hlen; exact ⟨a,cap,rfl,hcap,hmax⟩
def lenV (x:AV):FR:=match x with
    | .one (.c (.sl _ es)) => .ok (vInt .i64 es.length)
    | .one (.nsl _) => .ok (vInt .i64 0)
    | .one (.own _ n _) => .ok (vInt .i64 n)
    | .one (.sub _ _ n _ _) => .ok (vInt .i64 n)
    | _ => .bad
theorem gv_len {v:Value} {x:AV} (h:GV I ρ v x) (hvc:(lenV x).vc):∃ b k c,v = .slice b k c/\(lenV x).v=vInt .i64 k:=by
 unfold lenV at *
 split at hvc
 ·rename_i sz es
  obtain ⟨b,c,rfl,_⟩:=gv_sl h
  exact ⟨b,_,c,rfl,rfl⟩
 ·simp only [GV,GC] at h; exact ⟨none,0,0,h,rfl⟩
 ·obtain ⟨k,cap,b,c,_,rfl,_⟩:=h
  exact ⟨b,_,c,rfl,rfl⟩
 ·obtain ⟨k,cap,b,c,_,rfl,_⟩:=h
  exact ⟨b,_,c,rfl,rfl⟩
 ·exact hvc.elim
def chkLen (P:Program) (n:Nat) (op:Op) (x:Opd):Bool :=
 match op with
 | .call { callee := .builtin .len,args:=⟨[x']⟩,argTypes:=⟨[t]⟩ } => chkOpd n x' x&&isSliceT P t
 | _=>false
theorem len_runs {o:Oper} {x:Opd} (h:GX E I ρ n st a w) (hc:chkLen P n o.op x=true) (hx:(x.ev st.tm).g=true) (hvc:(lenV (avOf st.tm x)).vc):Runs P E n o a w st (lenV (avOf st.tm x)).v:=by
 unfold chkLen at hc
 split at hc
 ·rename_i x' t he
  simp only [Bool.and_eq_true] at hc
  have g:=opd_v h hc.1 hx
  obtain ⟨e,ht⟩:=isSliceT_spec hc.2
  obtain ⟨b,k,c,hv,hr⟩:=gv_len g hvc
  rw [hr]
  exact Runs.val h (by simp [execOp,he,resolve,invoke,builtin,Builtin.len_,run_underlying ht,hv,goInt]) (mk_int _ _)
 ·cases hc
def chkLens (P:Program) (n:Nat) (op:Op) (x:Opd):Bool :=
 match op with
 | .call { callee := .builtin .len,args:=⟨[x']⟩,argTypes:=⟨[t]⟩ } => chkOpd n x' x&&isStrT P t
 | _=>false
theorem lens_runs {o:Oper} {x:Opd} {s:List UInt8} (h:GX E I ρ n st a w) (hc:chkLens P n o.op x=true) (hx:(x.ev st.tm).g=true) (hs:avOf st.tm x=vStr s):Runs P E n o a w st (vInt .i64 s.length):=by
 unfold chkLens at hc
 split at hc
 ·rename_i x' t he
  simp only [Bool.and_eq_true] at hc
  have g:=opd_v h hc.1 hx
  rw [hs] at g
  have ht:=isStrT_spec hc.2
  obtain ⟨hv,_⟩:=gv_str g
  exact Runs.val h (v := .int .i64 s.length) (by simp [execOp,he,resolve,invoke,builtin,Builtin.len_,run_underlying ht,hv,goInt]; rfl) (mk_int _ _)
 ·cases hc
def chkMm (mx:Bool) (n:Nat) (op:Op) (x y:Opd):Bool :=
 match op with
 | .call { callee := .builtin b,args:=⟨[x',y']⟩,argTypes:=_ } => (match b with | .max=>mx | .min => !mx | _=>false)&&chkOpd n x' x&&chkOpd n y' y
 | _=>false
theorem max_runs {o:Oper} {x y:Opd} {k:IntKind} {p q:Int} (h:GX E I ρ n st a w) (hc:chkMm true n o.op x y=true) (hx:(x.ev st.tm).g=true) (hy:(y.ev st.tm).g=true)
  (e1:avOf st.tm x=vInt k p) (e2:avOf st.tm y=vInt k q):Runs P E n o a w st (vInt k (if q>p then q else p)):=by
 unfold chkMm at hc
 split at hc
 ·rename_i b x' y' ts he
  simp only [Bool.and_eq_true] at hc
  have g1:=opd_v h hc.1.2 hx
  have g2:=opd_v h hc.2 hy
  rw [e1] at g1; rw [e2] at g2
  have v1:=gv_int g1
  have v2:=gv_int g2
  obtain ⟨⟨hb,_⟩,_⟩:=hc
  cases b<;>simp at hb
  refine Runs.val h (v := .int k (if q>p then q else p)) ?_ (mk_int _ _)
  simp [execOp,he,resolve,invoke,builtin,Builtin.max_,v1,v2,Builtin.max2]
 ·cases hc
theorem min_runs {o:Oper} {x y:Opd} {k:IntKind} {p q:Int} (h:GX E I ρ n st a w) (hc:chkMm false n o.op x y=true) (hx:(x.ev st.tm).g=true) (hy:(y.ev st.tm).g=true)
  (e1:avOf st.tm x=vInt k p) (e2:avOf st.tm y=vInt k q):Runs P E n o a w st (vInt k (if q<p then q else p)):=by
 unfold chkMm at hc
 split at hc
 ·rename_i b x' y' ts he
  simp only [Bool.and_eq_true] at hc
  have g1:=opd_v h hc.1.2 hx
  have g2:=opd_v h hc.2 hy
  rw [e1] at g1; rw [e2] at g2
  have v1:=gv_int g1
  have v2:=gv_int g2
  obtain ⟨⟨hb,_⟩,_⟩:=hc
  cases b<;>simp at hb
  refine Runs.val h (v := .int k (if q<p then q else p)) ?_ (mk_int _ _)
  simp [execOp,he,resolve,invoke,builtin,Builtin.min_,v1,v2,Builtin.min2]
 ·cases hc
theorem gp_true {v:Value} {xs:List AC} (h:GP I ρ v (true,xs)):GV I ρ v (.agg xs):=by
 simpa [GP,GV] using h
theorem gp_false {v:Value} {x:AC} (h:GP I ρ v (false,[x])):GV I ρ v (.one x):=by
 simp only [GP] at h
 obtain ⟨y,hy,hg⟩:=h
 simp at hy
 subst hy
 exact hg
def extractV (x:AV) (i:Nat):FR:=match x with
    | .tup ps=>match ps[i]? with
      | some (true,xs) => .ok (.agg xs)
      | some (false,[x]) => .ok (.one x)
      | _ => .bad
    | _ => .bad
def chkExtract (n:Nat) (op:Op) (x:Opd) (i:Nat):Bool:=match op with | .extract x' j=>chkOpd n x' x&&j==i | _=>false
theorem extract_runs {o:Oper} {x:Opd} {i:Nat} (h:GX E I ρ n st a w) (hc:chkExtract n o.op x i=true) (hx:(x.ev st.tm).g=true) (hvc:(extractV (avOf st.tm x) i).vc):Runs P E n o a w st (extractV (avOf st.tm x) i).v:=by
 unfold chkExtract at hc
 split at hc
 ·rename_i x' j he
  simp only [Bool.and_eq_true,beq_iff_eq] at hc
  obtain ⟨h1,rfl⟩:=hc
  have g:=opd_v h h1 hx
  unfold extractV at hvc ⊢
  split at hvc
  ·rename_i ps e1
   rw [e1] at g
   obtain ⟨vs,hv,hs,hp⟩:=g
   have hj:∀ p,ps[j]? = some p->∃ v,vs[j]? = some v/\GP I ρ v p:=fun p hq=>by
    have hl:j<vs.size:=by rw [hs]; exact (List.getElem?_eq_some_iff.1 hq).1
    exact ⟨vs[j],Array.getElem?_eq_getElem hl,hp j _ p (Array.getElem?_eq_getElem hl) hq⟩
   split at hvc
   ·rename_i xs hq
    obtain ⟨v,hv',hg⟩:=hj _ hq
    exact Runs.val h (by simp [execOp,he,hv,Instr.extract,hv']) (gp_true hg)
   ·rename_i y hq
    obtain ⟨v,hv',hg⟩:=hj _ hq
    exact Runs.val h (by simp [execOp,he,hv,Instr.extract,hv']) (gp_false hg)
   ·exact hvc.elim
  ·exact hvc.elim
 ·cases hc
def chkIdxs (P:Program) (n:Nat) (op:Op) (x i:Opd):Bool:=match op with | .index t x' i'=>chkOpd n x' x&&chkOpd n i' i&&isStrT P t | _=>false
theorem idxs_runs {o:Oper} {x y:Opd} {s:List UInt8} {k:IntKind} {i:Int} (h:GX E I ρ n st a w) (hc:chkIdxs P n o.op x y=true) (hx:(x.ev st.tm).g=true) (hy:(y.ev st.tm).g=true)
  (e1:avOf st.tm x=vStr s) (e2:avOf st.tm y=vInt k i) (h0:0<=i) (h1:i<s.length):Runs P E n o a w st (vInt .u8 (s.getD i.toNat 0).toNat):=by
 unfold chkIdxs at hc
 split at hc
 ·rename_i t x' y' he
  simp only [Bool.and_eq_true] at hc
  have g1:=opd_v h hc.1.1 hx
  have g2:=opd_v h hc.1.2 hy
  rw [e1] at g1; rw [e2] at g2
  obtain ⟨v1,_⟩:=gv_str g1
  have v2:=gv_int g2
  have ht:=isStrT_spec hc.2
  have hi:i.toNat<s.length:=by omega
  refine Runs.val h (v := .int .u8 (s.getD i.toNat 0).toNat) ?_ (mk_int _ _)
  have hb:(⟨⟨s⟩⟩:ByteArray)[i.toNat]? = some (s.getD i.toNat 0):=by
   have:(⟨⟨s⟩⟩:ByteArray)[i.toNat]? = some ((⟨⟨s⟩⟩:ByteArray)[i.toNat]'(by simpa [ByteArray.size] using hi)):=getElem?_pos _ _ _
   rw [this]
   simp [List.getD,List.getElem?_eq_getElem hi]
   rfl
  simp [execOp,he,Instr.index,v1,v2,asIntOf,run_underlying ht,h0,hb]
 ·cases hc
def chkMkfn (n:Nat) (op:Op) (f:FuncId) (cs:List Opd):Bool:=match op with | .makeFunc (.func g) ⟨[]⟩ caps=>g==f&&(caps.size==cs.length)&&(caps.toList.zip cs).all fun p=>chkOpd n p.1 p.2 | _=>false
theorem caps_ok {cs:List Opd} {os:List Operand} {l:List Nat} (h:GX E I ρ n st a w) (hl:os.length=cs.length) (hc:(os.zip cs).all (fun p=>chkOpd n p.1 p.2)=true) (hg:∀ x,x∈cs->(x.ev st.tm).g=true)
    (hk:capsOf (cs.map (avOf st.tm))=some l):∃ ks:List Nat,ks.length=l.length/\(∀ (j b k:Nat),l[j]? = some b->ks[j]? = some k->∃ cap,ρ b=some (k,cap))/\os.map a.eval=ks.map fun k=>Value.pointer (some ⟨k,0,none⟩):=by
  induction cs generalizing os l with
  | nil =>
    simp [capsOf] at hk
    subst hk
    cases os with
    | nil=>exact ⟨[],rfl,by simp,rfl⟩
    | cons _ _=>simp at hl
  | cons c r ih =>
    cases os with
    | nil=>simp at hl
    | cons o os =>
      simp only [List.zip_cons_cons,List.all_cons,Bool.and_eq_true] at hc
      have g:=opd_v h hc.1 (hg c (by simp))
      simp only [List.map_cons] at hk
      unfold capsOf at hk
      split at hk
      · rename_i e; cases e
      · rename_i b r' e
        simp only [List.cons.injEq] at e
        obtain ⟨e1,rfl⟩:=e
        cases hq:capsOf (r.map (avOf st.tm)) with
        | none=>rw [hq] at hk; cases hk
        | some l' =>
          rw [hq] at hk
          simp at hk
          subst hk
          obtain ⟨ks,h1,h2,h3⟩:=ih (by simpa using hl) hc.2 (fun x hx=>hg x (by simp [hx])) hq
          rw [e1] at g
          obtain ⟨k,cap,hr,hv⟩:=g
          refine ⟨k::ks,by simp [h1],fun j b' k' hb hk => ?_,by simp [hv,h3]⟩
          cases j with
          | zero=>simp at hb hk; subst hb; subst hk; exact ⟨cap,hr⟩
          | succ j=>exact h2 j b' k' (by simpa using hb) (by simpa using hk)
      · cases hk
theorem mkfn_runs {o:Oper} {f:FuncId} {cs:List Opd} {l:List Nat} (h:GX E I ρ n st a w) (hc:chkMkfn n o.op f cs=true) (hg:∀ x,x∈cs->(x.ev st.tm).g=true)
  (hk:capsOf (cs.map (avOf st.tm))=some l):Runs P E n o a w st (.one (.fn f l)):=by
 unfold chkMkfn at hc
 split at hc
 ·rename_i g caps he
  simp only [Bool.and_eq_true,beq_iff_eq] at hc
  obtain ⟨⟨rfl,hl⟩,hc⟩:=hc
  obtain ⟨ks,h1,h2,h3⟩:=caps_ok h (by simpa using hl) hc hg hk
  refine Runs.val h (v := .func (.func g) #[] (caps.map a.eval)) (by simp [execOp,he,Instr.makeFunc]) ⟨ks,h1,h2,?_⟩
  congr 1
  apply Array.ext'
  simpa using h3
 ·cases hc
def faddrV (off:Nat) (x:AV):FR:=match x with
    | .one (.ptr b o) => .ok (.one (.ptr b (o+off)))
    | .one (.aptr b i sz o) => .ok (.one (.aptr b i sz (o+off)))
    | .one (.eptr cs) => .ok (.one (.eptr (cs.drop off)))
    | _ => .bad
theorem faddr_gv {v:Value} {x:AV} {off:Nat} (h:GV I ρ v x) (hvc:(faddrV off x).vc):∃ p:Addr,v = .pointer (some p)/\GV I ρ (.pointer (some (p.add off))) (faddrV off x).v:=by
 unfold faddrV at *
 split at hvc
 ·rename_i b o
  obtain ⟨k,cap,hr,rfl⟩:=h
  exact ⟨_,rfl,k,cap,hr,by rw [Addr.add_mk]⟩
 ·rename_i b i sz o
  obtain ⟨k,cap,hr,rfl⟩:=h
  exact ⟨_,rfl,k,cap,hr,by rw [Addr.add_mk,Nat.add_assoc]⟩
 ·rename_i cs
  obtain ⟨p,rfl,hc⟩:=h
  exact ⟨p,rfl,_,rfl,fun j c hj=>by rw [List.getElem?_drop] at hj; rw [Addr.add_add]; exact hc _ c hj⟩
 ·exact hvc.elim
def fieldOK (P:Program) (s:TypeId) (f off:Nat) (agg:Bool) (k:Nat):Bool :=
  match P.underlying s with
  | some (.struct fs)=>match fs[f]? with
    | some fld=>fld.offset==off&&tyOK P fld.type agg k&&k != 0
    | none=>false
  | _=>false
theorem fieldOK_spec {s:TypeId} {f off:Nat} {agg:Bool} {k:Nat} (h:fieldOK P s f off agg k=true):∃ fs fld,P.underlying s=some (.struct fs)/\fs[f]? = some fld/\fld.offset=off/\tyOK P fld.type agg k=true/\k ≠ 0:=by
 unfold fieldOK at h
 split at h
 ·rename_i fs hs
  split at h
  ·rename_i fld hf
   simp only [Bool.and_eq_true,beq_iff_eq,bne_iff_ne] at h
   exact ⟨fs,fld,hs,hf,h.1.1,h.1.2,h.2⟩
  ·cases h
 ·cases h
def fieldAny (P:Program) (s:TypeId) (f off:Nat):Bool :=
  match P.underlying s with
  | some (.struct fs)=>match fs[f]? with
    | some fld=>fld.offset==off&&(match P.info? fld.type with | some i=>i.size != 0 | none=>false)
    | none=>false
  | _=>false
def chkFaddr (P:Program) (n:Nat) (op:Op) (off:Nat) (x:Opd):Bool:=match op with | .fieldAddr s x' f=>chkOpd n x' x&&fieldAny P s f off | _=>false
theorem faddr_runs {o:Oper} {x:Opd} {off:Nat} (h:GX E I ρ n st a w) (hc:chkFaddr P n o.op off x=true) (hx:(x.ev st.tm).g=true) (hvc:(faddrV off (avOf st.tm x)).vc):Runs P E n o a w st (faddrV off (avOf st.tm x)).v:=by
 unfold chkFaddr at hc
 split at hc
 ·rename_i s x' f he
  simp only [Bool.and_eq_true] at hc
  have g:=opd_v h hc.1 hx
  obtain ⟨p,hp,hg⟩:=faddr_gv g hvc
  obtain ⟨_,hf⟩:=hc
  unfold fieldAny at hf
  split at hf
  ·rename_i fs hs
   split at hf
   ·rename_i fld hfld
    simp only [Bool.and_eq_true,beq_iff_eq] at hf
    obtain ⟨rfl,hf⟩:=hf
    split at hf
    ·rename_i i hi
     simp at hf
     refine Runs.val h ?_ hg
     simp [execOp,he,Instr.fieldAt,run_underlying hs,hfld,hp,Instr.sureAddr,fieldPlace,sizeOf,typeInfo,hi,hf]
    ·cases hf
   ·cases hf
  ·cases hf
 ·cases hc
def nilckV (x:AV):FR:=match x with
    | .one (.ptr b o) => .ok (.one (.ptr b o))
    | .one (.aptr b i sz o) => .ok (.one (.aptr b i sz o))
    | .one (.eptr cs) => .ok (.one (.eptr cs))
    | .one (.fn f cs) => .ok (.one (.fn f cs))
    | _ => .bad
def chkNilck (n:Nat) (op:Op) (x:Opd):Bool:=match op with | .nilCheck x'=>chkOpd n x' x | _=>false
theorem nilck_runs {o:Oper} {x:Opd} (h:GX E I ρ n st a w) (hc:chkNilck n o.op x=true) (hx:(x.ev st.tm).g=true) (hvc:(nilckV (avOf st.tm x)).vc):Runs P E n o a w st (nilckV (avOf st.tm x)).v:=by
 unfold chkNilck at hc
 split at hc
 ·rename_i x' he
  have g:=opd_v h hc hx
  have key:(∃ p,a.eval x' = .pointer (some p))\/(∃ f b,a.eval x' = .func (.func f) #[] b)->(execOp a.eval o).run P w = .ok (.value (a.eval x')) w:=by
   rintro (⟨p,hp⟩ | ⟨f,b,hp⟩)<;>simp [execOp,he,hp]
  unfold nilckV at hvc ⊢
  split at hvc
  ·rename_i b o' e1; rw [e1] at g; exact Runs.val h (key (by obtain ⟨k,cap,hr,hv⟩:=g; exact .inl ⟨_,hv⟩)) g
  ·rename_i b i sz o' e1; rw [e1] at g; exact Runs.val h (key (by obtain ⟨k,cap,hr,hv⟩:=g; exact .inl ⟨_,hv⟩)) g
  ·rename_i cs e1; rw [e1] at g; exact Runs.val h (key (by obtain ⟨p,hv,_⟩:=g; exact .inl ⟨_,hv⟩)) g
  ·rename_i f cs e1; rw [e1] at g; exact Runs.val h (key (by obtain ⟨ks,_,_,hv⟩:=g; exact .inr ⟨_,_,hv⟩)) g
  ·exact hvc.elim
 ·cases hc
end
end Go.Ab
end
section
namespace Go.Ab
open Go
section
variable {P:Program} {E:Env P} {I:IH} {ρ:Ren} {n:Nat} {st:ASt} {a:Act} {w:World}
def fieldV (agg:Bool) (off k:Nat) (x:AV):FR:=match x with
    | .agg xs=>if agg then ⟨off+k<=xs.length,.agg ((xs.drop off).take k),[]⟩ else match xs[off]? with
      | some x => .ok (.one x)
      | none => .bad
    | _ => .bad
def chkField (P:Program) (n:Nat) (op:Op) (agg:Bool) (off k:Nat) (x:Opd):Bool:=match op with | .field s x' f=>chkOpd n x' x&&fieldOK P s f off agg k | _=>false
theorem gcs_part {vs:List Value} {xs:List AC} (h:GCs I ρ vs xs) (off k:Nat):GCs I ρ ((vs.drop off).take k) ((xs.drop off).take k):=by
 refine ⟨by simp [h.1],fun j v x hv hx => ?_⟩
 rw [List.getElem?_take] at hv hx
 split at hv
 ·rename_i hj
  rw [if_pos hj] at hx
  rw [List.getElem?_drop] at hv hx
  exact h.2 _ v x hv hx
 ·cases hv
theorem field_runs {o:Oper} {x:Opd} {agg:Bool} {off k:Nat} (h:GX E I ρ n st a w) (hc:chkField P n o.op agg off k x=true) (hx:(x.ev st.tm).g=true) (hvc:(fieldV agg off k (avOf st.tm x)).vc) :
  Runs P E n o a w st (fieldV agg off k (avOf st.tm x)).v:=by
 unfold chkField at hc
 split at hc
 ·rename_i s x' f he
  simp only [Bool.and_eq_true] at hc
  have g:=opd_v h hc.1 hx
  obtain ⟨fs,fld,hs,hf,rfl,ht,hk⟩:=fieldOK_spec hc.2
  obtain ⟨t1,t2⟩:=tyOK_spec ht w
  unfold fieldV at hvc ⊢
  split at hvc
  ·rename_i xs e1
   rw [e1] at g
   obtain ⟨cs,hv,hg⟩:=g
   split at hvc
   ·rename_i hA
    rw [if_pos hA]
    rw [hA] at t1
    refine Runs.val h (v := .agg (cs.extract fld.offset (fld.offset+k))) (by simp [execOp,he,Instr.field,run_underlying hs,hf,hv,asAgg,part,t1,t2]) ⟨_,rfl,?_⟩
    have:=gcs_part hg fld.offset k
    simpa [List.extract_eq_take_drop] using this
   ·rename_i hA
    rw [if_neg hA]
    have hA':agg=false:=by simpa using hA
    rw [hA'] at t1
    split at hvc
    ·rename_i y hy
     have hl:fld.offset<cs.size:=by
      have h1:=hg.1
      have h2:=(List.getElem?_eq_some_iff.1 hy).1
      simp at h1
      omega
     refine Runs.val h (v:=cs[fld.offset]) (by simp [execOp,he,Instr.field,run_underlying hs,hf,hv,asAgg,part,t1,Array.getElem?_eq_getElem hl]) (hg.2 fld.offset _ y (by simp [hl]) hy)
    ·exact hvc.elim
  ·exact hvc.elim
 ·cases hc
def iaddrV (sz:Nat) (x i:AV):FR:=match x,i with
    | .one (.c (.sl sz' es)),.one (.c (.lit (.int _ i)))=>⟨sz'=sz/\0<=i/\i<es.length,.one (.eptr (es.getD i.toNat [])),[]⟩
    | .one (.own b n sz'),.one (.c (.lit (.int _ i)))=>⟨sz'=sz/\0<=i/\i<n,.one (.aptr b i.toNat sz 0),[]⟩
    | .one (.sub b lo n _ sz'),.one (.c (.lit (.int _ i)))=>⟨sz'=sz/\0<=i/\i<n,.one (.aptr b (lo+i.toNat) sz 0),[]⟩
    | _,_ => .bad
def elemOK (P:Program) (t:TypeId) (sz:Nat):Bool:=match P.underlying t with | some (.slice e)=>sizeOK P e sz | _=>false
theorem elemOK_spec {t:TypeId} {sz:Nat} (h:elemOK P t sz=true):∃ e i,P.underlying t=some (.slice e)/\P.info? e=some i/\i.size=sz:=by
 unfold elemOK at h
 split at h
 ·rename_i e he; obtain ⟨i,h1,h2⟩:=sizeOK_spec h; exact ⟨e,i,he,h1,h2⟩
 ·cases h
def chkIaddr (P:Program) (n:Nat) (op:Op) (sz:Nat) (x i:Opd):Bool:=match op with | .indexAddr t x' i'=>chkOpd n x' x&&chkOpd n i' i&&elemOK P t sz | _=>false
theorem iaddr_runs {o:Oper} {x y:Opd} {sz:Nat} (h:GX E I ρ n st a w) (hc:chkIaddr P n o.op sz x y=true) (hx:(x.ev st.tm).g=true) (hy:(y.ev st.tm).g=true)
    (hvc:(iaddrV sz (avOf st.tm x) (avOf st.tm y)).vc):Runs P E n o a w st (iaddrV sz (avOf st.tm x) (avOf st.tm y)).v:=by
  unfold chkIaddr at hc
  split at hc
  · rename_i t x' y' he
    simp only [Bool.and_eq_true] at hc
    have g1:=opd_v h hc.1.1 hx
    have g2:=opd_v h hc.1.2 hy
    obtain ⟨e,ti,ht,hi,hsz⟩:=elemOK_spec hc.2
    unfold iaddrV at hvc ⊢
    split at hvc
    · rename_i sz' es k i e1 e2
      obtain ⟨rfl,h0,h1⟩:=hvc
      rw [e1] at g1; rw [e2] at g2
      have v2:=gv_int g2
      generalize hq:a.eval x'=v1 at g1
      cases g1 with | sl b len cap _ _ u hlen hcap hmax hszs ha hcell hr =>
      subst hlen
      have hpos:0<es.length:=by omega
      cases hb:b with
      | none=>exact absurd hb (ha hpos)
      | some ad =>
        subst hb
        refine Runs.val h (v := .pointer (some (ad.add (i.toNat*sz')))) (by simp [execOp,he,Instr.indexAt,v2,hq,asIntOf,run_underlying ht,h0,h1,sizeOf,typeInfo,hi,hsz]) ⟨_,rfl,fun j c hj => ?_⟩
        have hil:i.toNat<es.length:=by omega
        have hjl:j<sz':=by
          have:=hszs (es.getD i.toNat []) (by simp [List.getD,List.getElem?_eq_getElem hil])
          rw [<- this]
          exact (List.getElem?_eq_some_iff.1 hj).1
        exact ⟨_,by rw [Addr.add_add]; exact hcell ad rfl _ j hil hjl,hr _ j c hj⟩
    · rename_i b m sz' k i e1 e2
      obtain ⟨rfl,h0,h1⟩:=hvc
      rw [e1] at g1; rw [e2] at g2
      have v2:=gv_int g2
      obtain ⟨kk,cap,ad,c,hr,hv,hm,hcc,hcap⟩:=g1
      have hc0:cap ≠ 0:=by omega
      have had:=hcap hc0
      subst had
      refine Runs.val h (v := .pointer (some ((⟨kk,0,none⟩:Addr).add (i.toNat*sz')))) (by simp [execOp,he,Instr.indexAt,v2,hv,asIntOf,run_underlying ht,h0,h1,sizeOf,typeInfo,hi,hsz]) ⟨kk,cap,hr,?_⟩
      rw [Addr.add_mk]
      simp
    · rename_i b lo m c0 sz' k i e1 e2
      obtain ⟨rfl,h0,h1⟩:=hvc
      rw [e1] at g1; rw [e2] at g2
      have v2:=gv_int g2
      obtain ⟨kk,cap,ad,c,hr,hv,hm,hcc,_,hcap⟩:=g1
      have had:=hcap (.inl (by omega))
      subst had
      refine Runs.val h (v := .pointer (some ((⟨kk,lo*sz',none⟩:Addr).add (i.toNat*sz')))) (by simp [execOp,he,Instr.indexAt,v2,hv,asIntOf,run_underlying ht,h0,h1,sizeOf,typeInfo,hi,hsz]) ⟨kk,cap,hr,?_⟩
      rw [Addr.add_mk,Nat.add_mul,Nat.add_zero]
    · exact hvc.elim
  · cases hc
def elemAOK (P:Program) (t:TypeId) (sz n:Nat):Bool:=match P.underlying t with | some (.array m e)=>m==n&&sizeOK P e sz | _=>false
theorem elemAOK_spec {t:TypeId} {sz m:Nat} (h:elemAOK P t sz m=true):∃ e i,P.underlying t=some (.array m e)/\P.info? e=some i/\i.size=sz:=by
 unfold elemAOK at h
 split at h
 ·rename_i m' e he
  simp only [Bool.and_eq_true,beq_iff_eq] at h
  obtain ⟨rfl,h⟩:=h
  obtain ⟨i,h1,h2⟩:=sizeOK_spec h
  exact ⟨e,i,he,h1,h2⟩
 ·cases h
def chkIaddrA (P:Program) (n:Nat) (op:Op) (sz m:Nat) (x i:Opd):Bool:=match op with | .indexAddr t x' i'=>chkOpd n x' x&&chkOpd n i' i&&elemAOK P t sz m | _=>false
theorem iaddrA_runs {o:Oper} {x y:Opd} {sz m b:Nat} {k:IntKind} {i:Int} (h:GX E I ρ n st a w) (hc:chkIaddrA P n o.op sz m x y=true) (hx:(x.ev st.tm).g=true) (hy:(y.ev st.tm).g=true)
  (e1:avOf st.tm x = .one (.aptr b 0 sz 0)) (e2:avOf st.tm y=vInt k i) (h0:0<=i) (h1:i<m):Runs P E n o a w st (.one (.aptr b i.toNat sz 0)):=by
 unfold chkIaddrA at hc
 split at hc
 ·rename_i t x' y' he
  simp only [Bool.and_eq_true] at hc
  have g1:=opd_v h hc.1.1 hx
  have g2:=opd_v h hc.1.2 hy
  obtain ⟨e,ti,ht,hi,hsz⟩:=elemAOK_spec hc.2
  rw [e1] at g1; rw [e2] at g2
  have v2:=gv_int g2
  obtain ⟨kk,cap,hr,hv⟩:=g1
  refine Runs.val h (v := .pointer (some ((⟨kk,0*sz+0,none⟩:Addr).add (i.toNat*sz)))) (by simp [execOp,he,Instr.indexAt,v2,hv,asIntOf,run_underlying ht,Instr.sureAddr,h0,h1,sizeOf,typeInfo,hi,hsz]) ⟨kk,cap,hr,?_⟩
  rw [Addr.add_mk]
  simp
 ·cases hc
theorem bnd_some {lo:Option Opd} {lo':Option Operand} {d:Nat} {q:Int} (h:GX E I ρ n st a w) (hc:(match lo',lo with | none,none=>true | some x',some x=>chkOpd n x' x | _,_=>false)=true)
  (hg:∀ x,x∈lo.toList->(x.ev st.tm).g=true) (hb:bnd (avOf st.tm) lo d=some q):(lo'=none/\lo=none/\q=d)\/∃ x' k,lo'=some x'/\a.eval x' = .int k q:=by
 unfold bnd at hb
 split at hc
 ·simp at hb; exact .inl ⟨rfl,rfl,hb.symm⟩
 ·rename_i x' x
  have g:=opd_v h hc (hg x (by simp))
  simp only at hb
  split at hb
  ·rename_i k m e1
   simp at hb
   subst hb
   rw [e1] at g
   exact .inr ⟨x',k,rfl,gv_int g⟩
  ·cases hb
 ·cases hc
def chkBnd (n:Nat) (lo':Option Operand) (lo:Option Opd):Bool:=match lo',lo with | none,none=>true | some x',some x=>chkOpd n x' x | _,_=>false
theorem bnd_map {lo:Option Opd} {lo':Option Operand} {d:Nat} {q:Int} (h:(lo'=none/\lo=none/\q=d)\/∃ x' k,lo'=some x'/\a.eval x' = .int k q) :
  lo'.map a.eval=none/\q=d\/∃ k,lo'.map a.eval=some (.int k q):=by
 rcases h with ⟨rfl,_,e⟩ | ⟨y,k,rfl,e⟩
 ·exact .inl ⟨rfl,e⟩
 ·exact .inr ⟨k,by simp [e]⟩
theorem run_sliceBound {k:IntKind} {i:Int} {y:Nat} {c:BoundsCode} (h0:0<=i) (h1:i<=y):(Instr.sliceBound (.int k i) y c).run P w = .ok i.toNat w:=by
 simp [Instr.sliceBound,asIntOf,h0,h1]
theorem run_sliceBounds (isS:Bool) (len cap:Nat) (lo' hi':Option Value) {p q:Int} (hlo:lo'=none/\p=0\/∃ k,lo'=some (.int k p)) (hhi:hi'=none/\q=len\/∃ k,hi'=some (.int k q))
  (h0:0<=p) (h1:p<=q) (h2:q<=cap):(Instr.sliceBounds isS len cap lo' hi' none).run P w = .ok (p.toNat,q.toNat,cap) w:=by
 rcases hlo with ⟨rfl,rfl⟩ | ⟨k,rfl⟩<;>rcases hhi with ⟨rfl,rfl⟩ | ⟨k',rfl⟩<;>cases isS <;>
  simp (disch:=omega) [Instr.sliceBounds,run_sliceBound]
def chkSlstr (P:Program) (n:Nat) (op:Op) (x:Opd) (lo hi:Option Opd):Bool:=match op with | .slice t x' lo' hi' none=>chkOpd n x' x&&chkBnd n lo' lo&&chkBnd n hi' hi&&isStrT P t | _=>false
theorem slstr_runs {o:Oper} {x:Opd} {lo hi:Option Opd} {s:List UInt8} {p q:Int} (h:GX E I ρ n st a w) (hc:chkSlstr P n o.op x lo hi=true) (hx:(x.ev st.tm).g=true)
  (hgl:∀ x,x∈lo.toList->(x.ev st.tm).g=true) (hgh:∀ x,x∈hi.toList->(x.ev st.tm).g=true)
  (e1:avOf st.tm x=vStr s) (e2:bnd (avOf st.tm) lo 0=some p) (e3:bnd (avOf st.tm) hi s.length=some q) (h0:0<=p) (h1:p<=q) (h2:q<=s.length) :
  Runs P E n o a w st (vStr ((s.take q.toNat).drop p.toNat)):=by
 unfold chkSlstr at hc
 split at hc
 ·rename_i t x' lo' hi' he
  simp only [Bool.and_eq_true] at hc
  have g1:=opd_v h hc.1.1.1 hx
  have ht:=isStrT_spec hc.2
  rw [e1] at g1
  obtain ⟨v1,hl⟩:=gv_str g1
  have b1:=bnd_some h hc.1.1.2 hgl e2
  have b2:=bnd_some h hc.1.2 hgh e3
  have hb:=run_sliceBounds (P:=P) (w:=w) false s.length s.length (lo'.map a.eval) (hi'.map a.eval) (p:=p) (q:=q)
   (bnd_map b1) (bnd_map b2) h0 h1 h2
  have hx:(⟨⟨s⟩⟩:ByteArray).extract p.toNat q.toNat=⟨⟨(s.take q.toNat).drop p.toNat⟩⟩:=by
   rw [Lib.extract_eq]
   simp [List.drop_take]
  refine Runs.val h (v := .string ⟨⟨(s.take q.toNat).drop p.toNat⟩⟩) ?_ (mk_str (by simp; omega))
  simp only [execOp,he,Instr.sliceAt,Instr.slice,v1,Option.map_none]
  simp [run_underlying ht]
  rw [show (⟨⟨s⟩⟩:ByteArray).size=s.length from rfl,hb]
  simp [hx]
 ·cases hc
def slslV (sz:Nat) (x:AV) (lo:Option Int) (hi:Nat->Option Int):FR:=match x with
    | .one (.c (.sl sz' es))=>match lo,hi es.length with
      | some a,some b=>⟨sz'=sz/\0<=a/\a<=b/\b<=es.length,vSl sz ((es.take b.toNat).drop a.toNat),[]⟩
      | _,_ => .bad
    | .one (.nsl sz')=>match lo,hi 0 with
      | some a,some b=>⟨a=0/\b=0,.one (.nsl sz'),[]⟩
      | _,_ => .bad
    | .one (.own l n sz')=>match lo,hi n with
      | some a,some b=>⟨a=0/\0<=b/\b<=n,.one (.own l b.toNat sz'),[]⟩
      | _,_ => .bad
    | _ => .bad
theorem rd_sub {v:Value} {sz:Nat} {es:List (List Cell)} (h:Rd I v (.sl sz es)) {p q:Nat} (hpq:p<=q) (hq:q<=es.length):∃ a cap,v = .slice a es.length cap/\es.length<=cap /\
    Rd I (.slice (if cap=p then a else a.map (·.add (p*sz))) (q-p) (cap-p)) (.sl sz ((es.take q).drop p)):=by
  cases h with | sl a len cap sz es u hlen hcap hmax hsz ha hcell hr =>
  subst hlen
  refine ⟨a,cap,rfl,hcap,?_⟩
  refine Rd.sl _ _ _ _ _ (fun i j=>u (p+i) j) (by simp; omega) (by omega) (by omega) ?_ ?_ ?_ ?_
  · intro e he
    exact hsz e (List.mem_of_mem_take (List.mem_of_mem_drop he))
  · intro h0
    rw [if_neg (by omega)]
    have:=ha (by omega)
    cases a with
    | none=>exact absurd rfl this
    | some ad=>simp
  · intro ad had i j hi hj
    rw [if_neg (by omega)] at had
    cases a with
    | none=>simp at had
    | some ad' =>
      simp at had
      subst had
      rw [Addr.add_add,<- hcell ad' rfl (p+i) j (by omega) hj]
      congr 2
      rw [Nat.add_mul,Nat.add_assoc]
  · intro i j c hc
    have hi:=getD_nil_some hc
    simp at hi
    refine hr (p+i) j c ?_
    rw [<- hc]
    congr 1
    simp only [List.getD]
    rw [List.getElem?_drop,List.getElem?_take,if_pos (by omega)]
def chkSlsl (P:Program) (n:Nat) (op:Op) (sz:Nat) (x:Opd) (lo hi:Option Opd):Bool:=match op with | .slice t x' lo' hi' none=>chkOpd n x' x&&chkBnd n lo' lo&&chkBnd n hi' hi&&elemOK P t sz | _=>false
theorem slsl_runs {o:Oper} {sz:Nat} {x:Opd} {lo hi:Option Opd} (h:GX E I ρ n st a w) (hc:chkSlsl P n o.op sz x lo hi=true) (hx:(x.ev st.tm).g=true)
  (hgl:∀ x,x∈lo.toList->(x.ev st.tm).g=true) (hgh:∀ x,x∈hi.toList->(x.ev st.tm).g=true)
  (hvc:(slslV sz (avOf st.tm x) (bnd (avOf st.tm) lo 0) (bnd (avOf st.tm) hi)).vc):Runs P E n o a w st (slslV sz (avOf st.tm x) (bnd (avOf st.tm) lo 0) (bnd (avOf st.tm) hi)).v:=by
 unfold chkSlsl at hc
 split at hc
 ·rename_i t x' lo' hi' he
  simp only [Bool.and_eq_true] at hc
  have g1:=opd_v h hc.1.1.1 hx
  obtain ⟨e,ti,ht,hti,hsz⟩:=elemOK_spec hc.2
  have key:∀ (b:Option Addr) (len cap:Nat) (p q:Int),a.eval x' = .slice b len cap->len<=cap->bnd (avOf st.tm) lo 0=some p->bnd (avOf st.tm) hi len=some q->0<=p->p<=q->q<=cap ->
    (execOp a.eval o).run P w = .ok (.value (.slice (if cap=p.toNat then b else b.map (·.add (p.toNat*sz))) (q.toNat-p.toNat) (cap-p.toNat))) w:=by
   intro b len cap p q hv hlc e2 e3 h0 h1 h2
   have b1:=bnd_some h hc.1.1.2 hgl e2
   have b2:=bnd_some h hc.1.2 hgh e3
   have hb:=run_sliceBounds (P:=P) (w:=w) true len cap (lo'.map a.eval) (hi'.map a.eval) (p:=p) (q:=q)
    (bnd_map b1) (bnd_map b2) h0 h1 h2
   simp only [execOp,he,Instr.sliceAt,Instr.slice,hv,Option.map_none]
   simp [run_underlying ht]
   rw [hb]
   simp [sizeOf,typeInfo,hti,hsz]
  unfold slslV at hvc ⊢
  split at hvc
  ·rename_i sz' es e1
   rw [e1] at g1
   split at hvc
   ·rename_i p q e2 e3
    obtain ⟨rfl,h0,h1,h2⟩:=hvc
    obtain ⟨b,cap,hv,hcap,hr⟩:=rd_sub g1 (p:=p.toNat) (q:=q.toNat) (by omega) (by omega)
    exact Runs.val h (key b _ cap p q hv hcap e2 e3 h0 h1 (by omega)) hr
   ·exact hvc.elim
  ·rename_i sz' e1
   rw [e1] at g1
   split at hvc
   ·rename_i p q e2 e3
    obtain ⟨rfl,rfl⟩:=hvc
    have:=key none 0 0 0 0 g1 (Nat.le_refl _) e2 e3 (by omega) (by omega) (by omega)
    exact Runs.val h this (by simp [GV,GC])
   ·exact hvc.elim
  ·rename_i b m sz' e1
   rw [e1] at g1
   split at hvc
   ·rename_i p q e2 e3
    obtain ⟨rfl,h1,h2⟩:=hvc
    obtain ⟨kk,cap,ad,c,hr,hv,hm,hcc,hcap⟩:=g1
    have:=key ad m c 0 q hv hm e2 e3 (by omega) (by omega) (by omega)
    refine Runs.val h this ⟨kk,cap,_,_,hr,rfl,by omega,by omega,fun hc0 => ?_⟩
    rw [hcap hc0]
    simp [Addr.add_zero]
   ·exact hvc.elim
  ·exact hvc.elim
 ·cases hc
def chkSlarr (P:Program) (n:Nat) (op:Op) (sz m:Nat) (x:Opd):Bool:=match op with | .slice t x' none none none=>chkOpd n x' x&&elemAOK P t sz m | _=>false
theorem slarr_runs {o:Oper} {sz m b:Nat} {es:List (List Cell)} {x:Opd} (h:GX E I ρ n st a w) (hc:chkSlarr P n o.op sz m x=true) (hx:(x.ev st.tm).g=true)
  (e1:avOf st.tm x = .one (.aptr b 0 sz 0)) (e2:st.bx b = .dat sz es) (hm:es.length=m):Runs P E n o a w st (.one (.own b m sz)):=by
 unfold chkSlarr at hc
 split at hc
 ·rename_i t x' he
  simp only [Bool.and_eq_true] at hc
  have g1:=opd_v h hc.1 hx
  rw [e1] at g1
  obtain ⟨kk,cap,hr,hv⟩:=g1
  obtain ⟨e,ti,ht,hi',hsz⟩:=elemAOK_spec hc.2
  have facts:=GS.arr_facts h (b:=b) (by rw [e2]; rfl) hr
  refine Runs.val h (v := .slice (some ⟨kk,0,none⟩) m m) ?_ ⟨kk,cap,_,_,hr,rfl,Nat.le_refl _,by omega,fun _=>rfl⟩
  have hb:=run_sliceBounds (P:=P) (w:=w) false m m none none (p:=0) (q:=m) (.inl ⟨rfl,rfl⟩) (.inl ⟨rfl,rfl⟩) (by omega) (by omega) (by omega)
  simp only [execOp,he,Instr.sliceAt,hv,Option.map_none]
  simp [run_underlying ht,Instr.sureAddr]
  rw [hb]
  simp [sizeOf,typeInfo,hi',Addr.add_zero]
 ·cases hc
end
end Go.Ab
end
section
namespace Go.Ab
open Go
section
variable {P:Program} {E:Env P} {I:IH} {ρ:Ren} {n:Nat} {st:ASt} {a:Act} {w:World}
theorem getElem?_splice {α:Type} (xs ys:List α) (off j:Nat) (h:off+ys.length<=xs.length):(splice xs off ys)[j]? = if j<off then xs[j]? else if j<off+ys.length then ys[j-off]? else xs[j]? := by
 unfold splice
 have h1:(xs.take off).length=off:=by simp; omega
 by_cases hj:j<off
 ·rw [if_pos hj,List.append_assoc,List.getElem?_append_left (by omega),List.getElem?_take,if_pos hj]
 ·rw [if_neg hj]
  by_cases hj2:j<off+ys.length
  ·rw [if_pos hj2,List.getElem?_append_left (by simp; omega),List.getElem?_append_right (by omega),h1]
  ·rw [if_neg hj2,List.getElem?_append_right (by simp; omega),List.getElem?_drop]
   congr 1
   simp
   omega
theorem length_splice {α:Type} (xs ys:List α) (off:Nat) (h:off+ys.length<=xs.length):(splice xs off ys).length=xs.length:=by
 unfold splice; simp; omega
theorem foldl_set_list {α:Type} (vs:List α):∀ (i off:Nat) (cs:Array α),off+i+vs.length<=cs.size ->
    ((vs.zipIdx i).foldl (fun cs p=>cs.setIfInBounds (off+p.2) p.1) cs).toList=splice cs.toList (off+i) vs:=by
  induction vs with
  | nil=>intro i off cs h; simp [splice]
  | cons v r ih =>
    intro i off cs h
    simp only [List.zipIdx_cons,List.foldl_cons]
    rw [ih (i+1) off _ (by simp at h ⊢; omega)]
    apply List.ext_getElem?
    intro j
    simp only [List.length_cons] at h
    rw [getElem?_splice _ _ _ _ (by simp; omega),getElem?_splice _ _ _ _ (by simp; omega)]
    simp only [Array.toList_setIfInBounds,List.getElem?_set,List.length_cons]
    by_cases h1:j<off+i
    · rw [if_pos (by omega),if_neg (by omega),if_pos h1]
    · rw [if_neg h1]
      by_cases h2:j=off+i
      · subst h2
        rw [if_pos (by omega),if_pos rfl,if_pos (by simp; omega),if_pos (by omega)]
        simp
      · rw [if_neg (by omega)]
        by_cases h3:j<off+(i+1)+r.length
        · rw [if_pos h3,if_pos (by omega)]
          rw [show j-(off+i)=(j-(off+(i+1)))+1 by omega,List.getElem?_cons_succ]
        · rw [if_neg h3,if_neg (by omega),if_neg (by omega)]
theorem foldl_set (v:Array Value) (off:Nat) (cs:Array Value) (h:off+v.size<=cs.size) :
  (v.zipIdx.foldl (fun cs (p:Value × Nat)=>cs.setIfInBounds (off+p.2) p.1) cs).toList=splice cs.toList off v.toList:=by
 have:=foldl_set_list v.toList 0 off cs (by simpa using h)
 rw [Nat.add_zero] at this
 rw [<- this,<- Array.foldl_toList,Array.toList_zipIdx]
theorem GCs.splice {vs us:List Value} {xs ys:List AC} (h:GCs I ρ vs xs) (k:GCs I ρ us ys) (off:Nat) (hl:off+ys.length<=xs.length):GCs I ρ (splice vs off us) (splice xs off ys):=by
 have hlu:off+us.length<=vs.length:=by rw [h.1,k.1]; exact hl
 refine ⟨by rw [length_splice _ _ _ hlu,length_splice _ _ _ hl]; exact h.1,fun j v x hv hx => ?_⟩
 rw [getElem?_splice _ _ _ _ hlu] at hv
 rw [getElem?_splice _ _ _ _ hl] at hx
 rw [k.1] at hv
 by_cases h1:j<off
 ·rw [if_pos h1] at hv hx; exact h.2 j v x hv hx
 ·rw [if_neg h1] at hv hx
  by_cases h2:j<off+ys.length
  ·rw [if_pos h2] at hv hx; exact k.2 _ v x hv hx
  ·rw [if_neg h2] at hv hx; exact h.2 j v x hv hx
theorem gv_cells {v:Value} {x:AV} (h:GV I ρ v x) (ht:x.flat):GCs I ρ v.cells.toList x.cells:=by
  cases x with
  | one x =>
    have h1:=GC.one h
    have hc:v.cells = #[v]:=by cases v<;>first | rfl | (simp [Value.oneCell'] at h1; done)
    rw [hc]
    exact ⟨rfl,fun j u y hu hy=>by cases j with
      | zero=>simp at hu; simp [AV.cells] at hy; subst hu; subst hy; exact h
      | succ j=>simp at hu⟩
  | agg xs=>obtain ⟨cs,rfl,hg⟩:=h; exact hg
  | tup ps=>exact ht.elim
def zerosOK (zs:List Value) (xs:List AC):Bool:=zs.length==xs.length&&(zs.zip xs).all fun p=>chkC p.1 p.2
theorem zerosOK_spec {zs:List Value} {xs:List AC} (h:zerosOK zs xs=true):GCs I ρ zs xs:=by
 unfold zerosOK at h
 simp only [Bool.and_eq_true,beq_iff_eq,List.all_eq_true] at h
 refine ⟨h.1,fun j v x hv hx=>chkC_ok (h.2 (v,x) ?_)⟩
 exact List.mem_of_getElem? (i:=j) (by simp [List.getElem?_zip_eq_some,hv,hx])
def partsOK (P:Program) (n:Nat) (fs:Array Field):List (Nat × Operand)->List (Nat × Nat × Opd)->Bool
 | [],[]=>true
 | (i,x)::r,(off,sz,y)::r'=>(match fs[i]? with
   | some f=>f.offset==off&&sizeOK P f.type sz
   | none=>false)&&chkOpd n x y&&partsOK P n fs r r'
 | _,_=>false
theorem run_places (w:World) (fs:List Field) (h:fs.all (fun f=>(P.info? f.type).isSome)=true) :
    (fs.mapM (m:=Sem) fun f=>do pure (f.offset,<- sizeOf f.type)).run P w = .ok (fs.map fun f=>(f.offset,P.cellsOf f.type)) w:=by
  induction fs with
  | nil=>rfl
  | cons f r ih =>
    simp only [List.all_cons,Bool.and_eq_true] at h
    cases hi:P.info? f.type with
    | none=>rw [hi] at h; cases h.1
    | some i =>
      have h1:(sizeOf f.type).run P w = .ok (P.cellsOf f.type) w:=by simp [sizeOf,typeInfo,hi,Program.cellsOf]
      simp only [List.mapM_cons,Sem.run_bind,h1,Result.andThen_ok,Sem.run_pure,ih h.2,List.map_cons]
def buildOK (P:Program) (n:Nat) (t:TypeId) (zs:List AC) (ps:List (Nat × Operand)) (ps':List (Nat × Nat × Opd)):Bool :=
 match P.underlying t,P.info? t with
 | some (.struct fs),some i=>(match i.zero with | some (.agg cs)=>zerosOK cs.toList zs | _=>false)&&fs.toList.all (fun f=>(P.info? f.type).isSome)&&partsOK P n fs ps ps'
 | _,_=>false
def chkBuild (P:Program) (n:Nat) (op:Op) (zs:List AC) (ps':List (Nat × Nat × Opd)):Bool:=match op with | .build t ps=>buildOK P n t zs ps.toList ps' | _=>false
theorem cellsOf_of {t:TypeId} {k:Nat} (h:sizeOK P t k=true):P.cellsOf t=k:=by
 obtain ⟨i,hi,hs⟩:=sizeOK_spec h
 simp [Program.cellsOf,hi,hs]
theorem fill_ok {fs:Array Field} (h:GX E I ρ n st a w):∀ (ps:List (Nat × Operand)) (ps':List (Nat × Nat × Opd)) (cs:Array Value) (xs:List AC),partsOK P n fs ps ps'=true->GCs I ρ cs.toList xs ->
    (∀ p,p∈ps'->(p.2.2.ev st.tm).g=true)->(∀ p,p∈ps'->partOK xs.length (p.1,p.2.1,avOf st.tm p.2.2)) ->
    ∃ cs',Instr.fill ((fs.map fun f=>(f.offset,P.cellsOf f.type))[·]?) cs (ps.map fun p=>(p.1,a.eval p.2))=some cs'/\GCs I ρ cs'.toList (fillV xs (ps'.map fun p=>(p.1,(avOf st.tm p.2.2).cells)))
  | [],[],cs,xs,_,hg,_,_=>⟨cs,rfl,hg⟩
  | [],_::_,_,_,h,_,_,_=>by simp [partsOK] at h
  | _::_,[],_,_,h,_,_,_=>by simp [partsOK] at h
  | (i,x)::r,(off,sz,y)::r',cs,xs,hp,hg,hv,hq=>by
    simp only [partsOK,Bool.and_eq_true] at hp
    obtain ⟨⟨hf,hx⟩,hr⟩:=hp
    split at hf
    · rename_i f hfi
      simp only [Bool.and_eq_true,beq_iff_eq] at hf
      obtain ⟨rfl,hsz⟩:=hf
      have hs:=cellsOf_of hsz
      have g:=opd_v h hx (hv _ (List.mem_cons_self ..))
      obtain ⟨q1,q2,q3⟩:=hq _ (List.mem_cons_self ..)
      have gc:=gv_cells g q3
      have hvs:(a.eval x).cells.size=sz:=by have:=gc.1; simp at this; rw [this]; exact q1
      have hcs:cs.size=xs.length:=by have:=hg.1; simpa using this
      have q1:(avOf st.tm y).cells.length=sz:=q1
      have q2:f.offset+sz<=xs.length:=q2
      have hgs:=hg.splice gc f.offset (by rw [q1]; exact q2)
      have hfold:=foldl_set (a.eval x).cells f.offset cs (by omega)
      have ih:=fill_ok h r r' ((a.eval x).cells.zipIdx.foldl (fun cs (p:Value × Nat)=>cs.setIfInBounds (f.offset+p.2) p.1) cs) (splice xs f.offset (avOf st.tm y).cells) hr (by rw [hfold]; exact hgs)
        (fun p hp=>hv p (by simp [hp])) (fun p hp=>by rw [length_splice _ _ _ (by rw [q1]; exact q2)]; exact hq p (by simp [hp]))
      obtain ⟨cs',h1,h2⟩:=ih
      refine ⟨cs',?_,?_⟩
      · have hpl:(fs.map fun f=>(f.offset,P.cellsOf f.type))[i]? = some (f.offset,sz):=by rw [Array.getElem?_map,hfi,<- hs]; rfl
        simp only [List.map_cons,Instr.fill,hpl]
        rw [if_neg (by simp; omega)]
        exact h1
      · simpa only [List.map_cons,fillV] using h2
    · cases hf
theorem build_runs {o:Oper} {zs:List AC} {ps:List (Nat × Nat × Opd)} (h:GX E I ρ n st a w) (hc:chkBuild P n o.op zs ps=true) (hv:∀ p,p∈ps->(p.2.2.ev st.tm).g=true)
  (hq:∀ p,p∈ps->partOK zs.length (p.1,p.2.1,avOf st.tm p.2.2)):Runs P E n o a w st (.agg (fillV zs (ps.map fun p=>(p.1,(avOf st.tm p.2.2).cells)))):=by
 unfold chkBuild at hc
 split at hc
 ·rename_i t ps0 he
  unfold buildOK at hc
  split at hc
  ·rename_i fs i hs hi
   simp only [Bool.and_eq_true] at hc
   obtain ⟨⟨hz,hall⟩,hp⟩:=hc
   split at hz
   ·rename_i cs hzero
    obtain ⟨cs',h1,h2⟩:=fill_ok (P:=P) h ps0.toList ps cs zs hp (zerosOK_spec hz) hv hq
    refine Runs.val h (v := .agg cs') ?_ ⟨cs',rfl,h2⟩
    have hpl:=run_places (P:=P) w fs.toList hall
    have hpl':(fs.mapM (m:=Sem) fun f=>do pure (f.offset,<- sizeOf f.type)).run P w = .ok (fs.map fun f=>(f.offset,P.cellsOf f.type)) w:=by
     rw [Array.mapM_eq_mapM_toList,Sem.run_map,hpl]
     simp only [Result.andThen_ok]
     congr 1
     apply Array.ext'
     simp
    have hzr:(zeroValue t).run P w = .ok (.agg cs) w:=by simp [zeroValue,typeInfo,hi,hzero]
    have hps:(ps0.map fun (i,x)=>(i,a.eval x)).toList=ps0.toList.map fun p=>(p.1,a.eval p.2):=by simp
    simp only [execOp,he,Instr.build,Sem.run_bind,hzr,Result.andThen_ok,Value.cells,run_underlying hs,hpl',hps,h1,Sem.run_pure]
   ·cases hz
  ·cases hc
 ·cases hc
def Src (I:IH) (w:World) (v:Value) (sz:Nat) (es:List (List Cell)):Prop :=
  ∃ (b:Option Addr) (cap:Nat),v = .slice b es.length cap/\es.length<=maxLen/\(∀ e,e∈es->e.length=sz)/\(0<es.length->b ≠ none) /\
    ∀ ad,b=some ad->∀ i j c,(es.getD i [])[j]? = some c->∃ u,w.cell? (ad.add (i*sz+j))=some u/\Rd I u c
theorem src_ok (h:GX E I ρ n st a w) {v:Value} {x:AV} {sz:Nat} {p:Prop} {es:List (List Cell)} (hv:GV I ρ v x) (hs:srcOf sz x st.bx=some (p,es)) (hp:p):Src I w v sz es:=by
 unfold srcOf at hs
 split at hs
 ·rename_i sz' es'
  simp only [Option.some.injEq,Prod.mk.injEq] at hs
  obtain ⟨rfl,rfl⟩:=hs
  subst hp
  cases hv with | sl b len cap _ _ u hlen hcap hmax hsz ha hcell hr =>
  subst hlen
  refine ⟨b,cap,rfl,by omega,hsz,ha,fun ad had i j c hc => ?_⟩
  have hi:=getD_nil_some hc
  have hj:j<sz':=by
   have:=hsz (es'.getD i []) (by simp [List.getD,List.getElem?_eq_getElem hi])
   rw [<- this]; exact (List.getElem?_eq_some_iff.1 hc).1
  exact ⟨_,h.agree.cell (hcell ad had i j hi hj),hr i j c hc⟩
 ·simp at hs
  obtain ⟨_,rfl⟩:=hs
  simp only [GV,GC] at hv
  exact ⟨none,0,hv,by simp,by simp,by simp,fun ad had=>by cases had⟩
 ·rename_i b m sz'
  split at hs
  ·rename_i sz'' es' hb
   simp only [Option.some.injEq,Prod.mk.injEq] at hs
   obtain ⟨rfl,rfl⟩:=hs
   obtain ⟨rfl,rfl,hm⟩:=hp
   obtain ⟨k,cap,ad,c,hr,rfl,hmc,hcc,ha⟩:=hv
   have facts:=GS.arr_facts h hb hr
   have hlen:(es'.take m).length=m:=by simp; omega
   refine ⟨ad,c,by rw [hlen],by omega,fun e he=>facts.2.2 e (List.mem_of_mem_take he),fun h0=>by rw [ha (by omega)]; simp,fun q hq i j cc hc => ?_⟩
   have hi:=getD_nil_some hc
   rw [hlen] at hi
   have hq':q=⟨k,0,none⟩:=by have:=ha (by omega); rw [hq] at this; simpa using this
   subst hq'
   have hc':(es'.getD i [])[j]? = some cc:=by
    rw [<- hc]; congr 1
    simp only [List.getD]
    rw [List.getElem?_take,if_pos hi]
   obtain ⟨u,hu,hg⟩:=GS.arr_cells h hb hr (by omega) (i:=i) (by omega) j (.c cc) (by rw [List.getElem?_map,hc']; rfl)
   refine ⟨u,?_,hg⟩
   rw [Addr.add_mk] at hu ⊢
   rw [<- hu]; congr 2; simp
  ·cases hs
 ·rename_i b lo m c0 sz'
  split at hs
  ·rename_i sz'' es' hb
   simp only [Option.some.injEq,Prod.mk.injEq] at hs
   obtain ⟨rfl,rfl⟩:=hs
   obtain ⟨rfl,rfl,hm⟩:=hp
   obtain ⟨k,cap,ad,c,hr,rfl,hmc,hcc,_,ha⟩:=hv
   have facts:=GS.arr_facts h hb hr
   have hlen:((es'.drop lo).take m).length=m:=by simp; omega
   refine ⟨ad,c,by rw [hlen],by omega,fun e he=>facts.2.2 e (List.mem_of_mem_drop (List.mem_of_mem_take he)),fun h0=>by rw [ha (.inl (by omega))]; simp,fun q hq i j cc hc => ?_⟩
   have hi:=getD_nil_some hc
   rw [hlen] at hi
   have hq':q=⟨k,lo*sz'',none⟩:=by have:=ha (.inl (by omega)); rw [hq] at this; simpa using this
   subst hq'
   have hc':(es'.getD (lo+i) [])[j]? = some cc:=by
    rw [<- hc]; congr 1
    simp only [List.getD]
    rw [List.getElem?_take,if_pos hi,List.getElem?_drop]
   obtain ⟨u,hu,hg⟩:=GS.arr_cells h hb hr (by omega) (i:=lo+i) (by omega) j (.c cc) (by rw [List.getElem?_map,hc']; rfl)
   refine ⟨u,?_,hg⟩
   rw [Addr.add_mk] at hu ⊢
   rw [<- hu]; congr 2; rw [Nat.add_mul,Nat.add_assoc]
  ·cases hs
 ·cases hs
theorem bytesOf_spec {es:List (List Cell)} {l:List UInt8} (h:bytesOf es=some l):∃ ns:List Int,es=ns.map (fun m=>[Cell.lit (.int .u8 m)])/\l=ns.map fun m=>UInt8.ofNat m.toNat:=by
  induction es generalizing l with
  | nil=>simp [bytesOf] at h; exact ⟨[],rfl,h⟩
  | cons e r ih =>
    unfold bytesOf at h
    split at h
    · rename_i e; cases e
    · rename_i m r' e
      simp only [List.cons.injEq] at e
      obtain ⟨rfl,rfl⟩:=e
      split at h
      · rename_i l' hl
        obtain ⟨ns,rfl,rfl⟩:=ih hl
        simp at h
        exact ⟨m::ns,rfl,h.symm⟩
      · cases h
    · cases h
theorem foldl_push (ns:List Int):∀ s:ByteArray,(ns.foldl (fun r m=>r.push (UInt8.ofNat m.toNat)) s).data.toList=s.data.toList++ns.map fun m=>UInt8.ofNat m.toNat:=by
 induction ns with
 | nil=>intro s; simp
 | cons m r ih=>intro s; rw [List.foldl_cons,ih,List.map_cons]; simp [ByteArray.push]
theorem run_bytes {b:Option Addr} {cap:Nat} {ns:List Int} {v:Value} (hv:v = .slice b ns.length cap) (h0:0<ns.length->b ≠ none)
    (hc:∀ ad,b=some ad->∀ j m,ns[j]? = some m->w.cell? (ad.add j)=some (.int .u8 m)):(Conv.bytesToString v).run P w = .ok (.string ⟨⟨ns.map fun m=>UInt8.ofNat m.toNat⟩⟩) w:=by
  subst hv
  cases b with
  | none =>
    cases ns with
    | nil=>simp [Conv.bytesToString,Sem.run_pure]; rfl
    | cons m r=>exact absurd rfl (h0 (by simp))
  | some ad =>
    have hl:=run_loadCells_list (P:=P) w ad (ns.map (Value.int .u8)) (fun j v hj=>by
      rw [List.getElem?_map] at hj
      cases hq:ns[j]? with
      | none=>rw [hq] at hj; cases hj
      | some m=>rw [hq] at hj; simp at hj; subst hj; exact hc ad rfl j m hq)
    rw [List.length_map] at hl
    rw [run_bytesToString w ad ns.length cap ns hl]
    congr 2
    apply ByteArray.ext
    apply Array.ext'
    rw [foldl_push]
    simp
def chkCstr (P:Program) (n:Nat) (op:Op) (x:Opd):Bool :=
 match op with
 | .convert s d x'=>chkOpd n x' x&&isStrT P d&&(match P.underlying s with | some (.slice e)=>(match P.underlying e with | some (.int .u8)=>true | _=>false) | _=>false)
 | _=>false
theorem cstr_runs {o:Oper} {x:Opd} {p:Prop} {es:List (List Cell)} {l:List UInt8} (h:GX E I ρ n st a w) (hc:chkCstr P n o.op x=true) (hx:(x.ev st.tm).g=true)
  (hs:srcOf 1 (avOf st.tm x) st.bx=some (p,es)) (hp:p) (hb:bytesOf es=some l) (hl:l.length<=maxLen):Runs P E n o a w st (vStr l):=by
 unfold chkCstr at hc
 split at hc
 ·rename_i s d x' he
  simp only [Bool.and_eq_true] at hc
  have g:=opd_v h hc.1.1 hx
  have hd:=isStrT_spec hc.1.2
  obtain ⟨_,ht⟩:=hc
  split at ht
  ·rename_i e hse
   split at ht
   ·rename_i hee
    obtain ⟨b,cap,hv,_,_,h0,hcell⟩:=src_ok h g hs hp
    obtain ⟨ns,rfl,rfl⟩:=bytesOf_spec hb
    have hr:=run_bytes (P:=P) (w:=w) (b:=b) (cap:=cap) (ns:=ns) (v:=a.eval x') (by rw [hv]; simp) (by simpa using h0) (fun ad had j m hj=>by
     obtain ⟨u,hu,hrd⟩:=hcell ad had j 0 (.lit (.int .u8 m)) (by simp [List.getD,List.getElem?_map,hj])
     cases hrd with | lit v hv =>
     simpa using hu)
    have hcv:=run_convert_bytes_string (P:=P) w s d e b (ns.map fun m=>[Cell.lit (.int .u8 m)]).length cap hse hee hd
    rw [<- hv] at hcv
    exact Runs.val h (by simp only [execOp,he,Sem.run_bind,hcv,hr,Result.andThen_ok,Sem.run_pure]) (mk_str hl)
   ·cases ht
  ·cases ht
 ·cases hc
end
end Go.Ab
end
section
namespace Go.Ab
open Go
section
variable {P:Program} {E:Env P} {I:IH} {ρ:Ren} {n:Nat} {st:ASt} {a:Act} {w:World}
def isAbsent:Box->Prop
 | .absent=>True
 | _=>False
theorem isAbsent_eq {x:Box} (h:isAbsent x):x = .absent:=by cases x<;>first | rfl | exact h.elim
theorem new_var (h:GX E I ρ n st a w) {l:Nat} (hl:st.bx l = .absent) (hm:E.m<=l) (cs:Array Value) (e:TypeId) (xs:List AC) (hg:GCs I ρ cs.toList xs) :
  ∃ ρ',GX E I ρ' n (st.setb l (.var xs)) a (w.alloc (.cells cs e))/\GV I ρ' (.pointer (some ⟨w.heap.size,0,none⟩)) (.one (.ptr l 0)):=by
 have hrl:ρ l=none:=by have:=h.bx.ok l; rwa [hl] at this
 refine ⟨ρ.set l w.heap.size e,GX.new h hl hm cs e e _ ?_,w.heap.size,e,Ren.set_same _ _ _ _,rfl⟩
 refine ⟨w.heap.size,e,cs,Ren.set_same _ _ _ _,heap_alloc_new w _,by simpa using hg.1,fun j u x hu hx => ?_⟩
 exact (hg.2 j u x (by simpa using hu) hx).mono (IH.le_refl I) (Ren.le_set hrl)
theorem new_dat (h:GX E I ρ n st a w) {l:Nat} (hl:st.bx l = .absent) (hm:E.m<=l) (cs:Array Value) (e:TypeId) (cap sz:Nat) (es:List (List Cell)) (hcs:cs.size=cap*sz) (hle:es.length<=cap) (hcap:cap<=maxLen)
  (hsz:∀ x,x∈es->x.length=sz) (h1:∀ (j:Nat) (u:Value),cs[j]? = some u->u.oneCell'=true) (hd:∀ (i j:Nat) (c:Cell),(es.getD i [])[j]? = some c->∃ u,cs[i*sz+j]? = some u/\Rd I u c) :
  GX E I (ρ.set l w.heap.size cap) n (st.setb l (.dat sz es)) a (w.alloc (.cells cs e)):=by
 refine GX.new h hl hm cs e cap _ ⟨w.heap.size,cap,Ren.set_same _ _ _ _,hle,hcap,hsz,fun _=>⟨cs,e,heap_alloc_new w _,hcs,h1,hd⟩⟩
def chkAlloc (P:Program) (op:Op) (zs:List AC):Bool:=match op with | .alloc t=>(match P.info? t with | some i=>(match i.zero with | some z=>zerosOK z.cells.toList zs | none=>false) | none=>false) | _=>false
theorem run_newVar (w:World) (t:TypeId) (v:Value):(newVar t v).run P w = .ok ⟨w.heap.size,0,none⟩ (w.alloc (.cells v.cells t)):=by
 simp [newVar,newRow]
theorem alloc_runs {o:Oper} {l:Nat} {zs:List AC} (h:GX E I ρ n st a w) (hc:chkAlloc P o.op zs=true) (hm:E.m<=l) (hl:isAbsent (st.bx l)):Runs P E n o a w (st.setb l (.var zs)) (.one (.ptr l 0)):=by
 unfold chkAlloc at hc
 split at hc
 ·rename_i t he
  split at hc
  ·rename_i i hi
   split at hc
   ·rename_i z hz
    obtain ⟨ρ',h1,h2⟩:=new_var h (isAbsent_eq hl) hm z.cells t zs (zerosOK_spec hc)
    have hzr:(zeroValue t).run P w = .ok z w:=by simp [zeroValue,typeInfo,hi,hz]
    exact ⟨_,_,I,ρ',.inl (by simp only [execOp,he,Instr.alloc,Sem.run_bind,hzr,Result.andThen_ok,run_newVar,Sem.run_pure]),h1,fun _=>h2⟩
   ·cases hc
  ·cases hc
 ·cases hc
theorem GX.virt (h:GX E I ρ n st a w) {r:Nat} (hr:st.bx r = .absent) (hm:E.m<=r) (e:Nat):GX E I (ρ.set r 0 0) n (st.setb r (.row e [])) a w:=by
 have hrl:ρ r=none:=by have:=h.bx.ok r; rwa [hr] at this
 have hle:=Ren.le_set (ρ:=ρ) (k:=0) (cap:=0) hrl
 have hu:∀ k,¬ (Box.row e []).uses ((ρ.set r 0 0) r) k:=fun k hk=>by
  obtain ⟨c,hc,h0⟩:=hk
  rw [Ren.set_same] at hc
  simp only [Option.some.injEq,Prod.mk.injEq] at hc
  exact h0 hc.2.symm
 refine { agree:=h.agree,bx:=BX.step (fun b=>b=r) h.bx (IH.le_refl I) hle ?_ ?_ ?_ ?_ ?_ ?_,tm:=fun t ht=>(h.tm t ht).mono (IH.le_refl _) hle,size:=h.size,defers:=h.defers,frm:=h.frm,own := ?_,ile:=h.ile,inew:=h.inew,keepρ := ?_ }
 ·intro b hb
  exact ⟨by simp [ASt.setb,hb],Ren.set_other hb⟩
 ·intro b k hb hk; rfl
 ·rintro b rfl
  simp only [ASt.setb_bx,if_true]
  exact ⟨0,0,Ren.set_same _ _ _ _,Nat.le_refl _,Nat.zero_le _,fun h=>absurd rfl h⟩
 ·rintro b k rfl hk
  simp only [ASt.setb_bx,if_true] at hk
  exact (hu k hk).elim
 ·rintro b b' k rfl rfl _ _; rfl
 ·intro b k hb hk; exact h.bx.fresh b k hk
 ·intro b k hk
  simp only [ASt.setb_bx] at hk
  by_cases e:b=r
  ·subst e; rw [if_pos rfl] at hk; exact (hu k hk).elim
  ·rw [if_neg e,Ren.set_other e] at hk
   exact h.own b k hk
 ·intro b hb
  rw [Ren.set_other (by omega)]
  exact h.keepρ b hb
def chkAllocB (P:Program) (op:Op) (T:Nat):Bool:=match op with | .alloc t=>t==T&&(match P.info? t with | some i=>(match i.zero with | some z=>zerosOK z.cells.toList [.c (.lit (.pointer none)),.nsl 1] | none=>false) | none=>false) | _=>false
theorem allocB_runs {o:Oper} {T e l r:Nat} (h:GX E I ρ n st a w) (hc:chkAllocB P o.op T=true) (hm:E.m<=l) (hm':E.m<=r) (hl:isAbsent (st.bx l)) (hr:isAbsent (st.bx r)) (hne:l ≠ r) :
    Runs P E n o a w ((st.setb r (.row e [])).setb l (.var [.opt T l,.bbuf r 0])) (.one (.ptr l 0)):=by
  unfold chkAllocB at hc
  split at hc
  · rename_i t he
    simp only [Bool.and_eq_true,beq_iff_eq] at hc
    obtain ⟨rfl,hc⟩:=hc
    split at hc
    · rename_i i hi
      split at hc
      · rename_i z hz
        have g:=h.virt (isAbsent_eq hr) hm' e
        have hl':(st.setb r (.row e [])).bx l = .absent:=by simp only [ASt.setb_bx,if_neg hne]; exact isAbsent_eq hl
        have hz2:GCs I ρ z.cells.toList _:=zerosOK_spec hc
        have hsz:z.cells.size=2:=by have:=hz2.1; simpa using this
        have hg:=GX.new g hl' hm z.cells t t (.var [.opt t l,.bbuf r 0]) ⟨w.heap.size,t,z.cells,Ren.set_same _ _ _ _,heap_alloc_new w _,hsz,fun j u x hu hx=>by
          match j with
          | 0 =>
            have h1:=hz2.2 0 u _ (by simpa using hu) rfl
            simp at hx
            subst hx
            cases h1
            exact ⟨_,Ren.set_same _ _ _ _,.inl rfl⟩
          | 1 =>
            have h1:u = .slice none 0 0:=hz2.2 1 u _ (by simpa using hu) rfl
            simp at hx
            subst hx
            exact ⟨0,0,(Ren.set_other hne.symm).trans (Ren.set_same _ _ _ _),Nat.le_refl _,.inl ⟨rfl,h1⟩⟩
          | j+2=>simp at hx⟩
        have hzr:(zeroValue t).run P w = .ok z w:=by simp [zeroValue,typeInfo,hi,hz]
        exact ⟨_,_,I,_,.inl (by simp only [execOp,he,Instr.alloc,Sem.run_bind,hzr,Result.andThen_ok,run_newVar,Sem.run_pure]),hg,fun _=>⟨_,_,Ren.set_same _ _ _ _,rfl⟩⟩
      · cases hc
    · cases hc
  · cases hc
def chkBox (n:Nat) (op:Op) (x:Opd):Bool:=match op with | .box _ x'=>chkOpd n x' x | _=>false
theorem box_runs {o:Oper} {l:Nat} {x:Opd} (h:GX E I ρ n st a w) (hc:chkBox n o.op x=true) (hx:(x.ev st.tm).g=true) (hm:E.m<=l) (hl:isAbsent (st.bx l)) (hf:(avOf st.tm x).flat) :
  Runs P E n o a w (st.setb l (.var (avOf st.tm x).cells)) (.one (.ptr l 0)):=by
 unfold chkBox at hc
 split at hc
 ·rename_i t x' he
  have g:=opd_v h hc hx
  obtain ⟨ρ',h1,h2⟩:=new_var h (isAbsent_eq hl) hm (a.eval x').cells t _ (gv_cells g hf)
  exact ⟨_,_,I,ρ',.inl (by simp only [execOp,he,Instr.box,Sem.run_bind,Result.andThen_ok,run_newVar,Sem.run_pure]),h1,fun _=>h2⟩
 ·cases hc
def chkD:Value->Cell->Bool
 | .int k n,.lit (.int k' n')=>k==k'&&n==n'
 | .bool b,.lit (.bool b')=>b==b'
 | .string s,.str l=>s.data.toList==l&&decide (l.length<=1000000)
 | .slice none 0 0,.sl _ []=>true
 | .pointer none,.lit (.pointer none)=>true
 | .nilFunc,.lit .nilFunc=>true
 | .nilIface,.lit .nilIface=>true
 | _,_=>false
theorem chkD_ok {v:Value} {x:Cell} (h:chkD v x=true):Rd I v x:=by
 unfold chkD at h
 split at h
 ·simp only [Bool.and_eq_true,beq_iff_eq] at h; obtain ⟨rfl,rfl⟩:=h; exact Rd.lit _ rfl
 ·simp only [beq_iff_eq] at h; subst h; exact Rd.lit _ rfl
 ·rename_i s l
  simp only [Bool.and_eq_true,beq_iff_eq,decide_eq_true_eq] at h
  obtain ⟨rfl,hl⟩:=h
  have:s=⟨⟨s.data.toList⟩⟩:=by cases s; rfl
  exact this ▸ Rd.str _ (by simp only [maxLen]; omega)
 ·exact Rd.sl none 0 0 _ [] (fun _ _=>undef) rfl (Nat.le_refl _) (by simp [maxLen]) (by simp) (by simp) (fun ad h=>by cases h) (by simp)
 ·exact Rd.lit _ rfl
 ·exact Rd.lit _ rfl
 ·exact Rd.lit _ rfl
 ·cases h
def zerosD (zs:List Value) (xs:List Cell):Bool:=zs.length==xs.length&&(zs.zip xs).all fun p=>chkD p.1 p.2
theorem zerosD_spec {zs:List Value} {xs:List Cell} (h:zerosD zs xs=true):zs.length=xs.length/\∀ (j:Nat) (c:Cell),xs[j]? = some c->∃ u,zs[j]? = some u/\Rd I u c:=by
 unfold zerosD at h
 simp only [Bool.and_eq_true,beq_iff_eq,List.all_eq_true] at h
 refine ⟨h.1,fun j c hc => ?_⟩
 have hj:j<zs.length:=by rw [h.1]; exact (List.getElem?_eq_some_iff.1 hc).1
 refine ⟨zs[j],List.getElem?_eq_getElem hj,chkD_ok (h.2 (zs[j],c) ?_)⟩
 exact List.mem_of_getElem? (i:=j) (by simp [List.getElem?_zip_eq_some,hc,hj])
theorem rep_cells {z:Array Value} {zs:List Cell} {sz m N:Nat} (hz:zerosD z.toList zs=true) (hs:zs.length=sz) (h0:0<sz) (hN:m*sz<=N) {cs:Array Value} (hcs:cs=(Array.range N).map (z[· % z.size]!)) :
  (∀ (j:Nat) (u:Value),cs[j]? = some u->u.oneCell'=true)/\∀ (i j:Nat) (c:Cell),((List.replicate m zs).getD i [])[j]? = some c->∃ u,cs[i*sz+j]? = some u/\Rd I u c:=by
 obtain ⟨hl,hd⟩:=zerosD_spec (I:=I) hz
 have hzs:z.size=sz:=by rw [<- hs,<- hl]; simp
 subst hcs
 refine ⟨fun j u hu => ?_,fun i j c hc => ?_⟩
 ·rw [Array.getElem?_map] at hu
  by_cases hj:j<N
  ·rw [Array.getElem?_range,if_pos hj] at hu
   simp at hu
   have hlt:j%z.size<z.size:=Nat.mod_lt _ (by omega)
   rw [getElem!_pos z _ hlt] at hu
   obtain ⟨c,hc⟩:∃ c,zs[j%z.size]? = some c:=⟨_,List.getElem?_eq_getElem (by omega)⟩
   obtain ⟨u',hu',hr⟩:=hd _ c hc
   simp [hlt] at hu'
   rw [<- hu,hu']
   exact hr.one
  ·rw [Array.getElem?_range,if_neg hj] at hu; cases hu
 ·have hi:=getD_nil_some hc
  simp at hi
  simp [List.getD,hi] at hc
  have hj:j<sz:=by rw [<- hs]; exact (List.getElem?_eq_some_iff.1 hc).1
  obtain ⟨u,hu,hr⟩:=hd j c hc
  refine ⟨u,?_,hr⟩
  have hlt:i*sz+j<N:=by
   have:(i+1)*sz<=m*sz:=Nat.mul_le_mul_right _ hi
   rw [Nat.add_mul] at this
   omega
  rw [Array.getElem?_map,Array.getElem?_range,if_pos hlt]
  simp only [Option.map_some,Option.some.injEq]
  have hmod:(i*sz+j)%z.size=j:=by rw [hzs,Nat.mul_comm,Nat.mul_add_mod,Nat.mod_eq_of_lt hj]
  rw [hmod,getElem!_pos z _ (by omega)]
  have:z[j]? = some u:=by simpa using hu
  rw [Array.getElem?_eq_getElem (by omega)] at this
  simpa using this
def chkAllocA (P:Program) (op:Op) (sz m:Nat) (zs:List Cell):Bool :=
 match op with
 | .alloc t=>elemAOK P t sz m&&(match P.info? t with | some i=>(match i.zero with | some (.agg z)=>zerosD z.toList (List.replicate m zs).flatten | _=>false) | none=>false)&&zs.length==sz&&decide (0<sz)&&decide (m<=1000000)
 | _=>false
theorem flatten_get {zs:List Cell} {sz m i j:Nat} {c:Cell} (hs:zs.length=sz) (hc:((List.replicate m zs).getD i [])[j]? = some c):((List.replicate m zs).flatten)[i*sz+j]? = some c:=by
  induction m generalizing i with
  | zero=>simp [List.getD] at hc
  | succ m ih =>
    rw [List.replicate_succ,List.flatten_cons]
    cases i with
    | zero =>
      simp [List.getD,List.replicate_succ] at hc
      rw [List.getElem?_append_left (by have:=(List.getElem?_eq_some_iff.1 hc).1; omega)]
      simpa using hc
    | succ i =>
      rw [List.getElem?_append_right (by rw [hs,Nat.add_mul]; omega),hs]
      have:=ih (i:=i) (by simpa [List.getD,List.replicate_succ] using hc)
      rw [<- this]
      congr 1
      rw [Nat.add_mul]
      omega
theorem allocA_runs {o:Oper} {l sz m:Nat} {zs:List Cell} (h:GX E I ρ n st a w) (hc:chkAllocA P o.op sz m zs=true) (hm:E.m<=l) (hl:isAbsent (st.bx l)) :
  Runs P E n o a w (st.setb l (.dat sz (List.replicate m zs))) (.one (.aptr l 0 sz 0)):=by
 unfold chkAllocA at hc
 split at hc
 ·rename_i t he
  simp only [Bool.and_eq_true,beq_iff_eq,decide_eq_true_eq] at hc
  obtain ⟨⟨⟨⟨_,hz⟩,hs⟩,h0⟩,hm6⟩:=hc
  split at hz
  ·rename_i i hi
   split at hz
   ·rename_i z hzero
    obtain ⟨hl1,hd⟩:=zerosD_spec (I:=I) hz
    have hzs:z.size=m*sz:=by have:=hl1; simp [hs] at this; exact this
    have hzr:(zeroValue t).run P w = .ok (.agg z) w:=by simp [zeroValue,typeInfo,hi,hzero]
    have g:=new_dat h (isAbsent_eq hl) hm z t m sz (List.replicate m zs) hzs (by simp) (by simp only [maxLen]; omega) (fun x hx=>by rw [List.eq_of_mem_replicate hx,hs])
     (fun j u hu=>by
      have hj:j<((List.replicate m zs).flatten).length:=by rw [<- hl1]; simpa using (Array.getElem?_eq_some_iff.1 hu).1
      obtain ⟨u',hu',hr⟩:=hd j _ (List.getElem?_eq_getElem hj)
      have:u'=u:=by simp at hu'; rw [hu] at hu'; exact (Option.some.inj hu').symm
      subst this; exact hr.one)
     (fun i' j c hc=>by
      obtain ⟨u,hu,hr⟩:=hd _ c (flatten_get hs hc)
      exact ⟨u,by simpa using hu,hr⟩)
    refine ⟨_,_,I,_,.inl (by simp only [execOp,he,Instr.alloc,Sem.run_bind,hzr,Result.andThen_ok,run_newVar,Sem.run_pure,Value.cells]; rfl),g,fun _=>⟨w.heap.size,m,Ren.set_same _ _ _ _,by simp⟩⟩
   ·cases hz
  ·cases hz
 ·cases hc
def chkMakes (P:Program) (n:Nat) (op:Op) (sz bytes:Nat) (zs:List Cell) (x y:Opd):Bool :=
  match op with
  | .makeSlice t x' y'=>chkOpd n x' x&&chkOpd n y' y&&zs.length==sz&&decide (0<sz)&&(match P.underlying t with
    | some (.slice e)=>(match P.info? e with | some i=>i.size==sz&&i.bytes==bytes&&(match i.zero with | some z=>zerosD z.cells.toList zs | none=>false) | none=>false)
    | _=>false)
  | _=>false
theorem makes_runs {o:Oper} {l sz bytes:Nat} {zs:List Cell} {x y:Opd} {k k':IntKind} {p q:Int} (h:GX E I ρ n st a w) (hc:chkMakes P n o.op sz bytes zs x y=true) (hx:(x.ev st.tm).g=true) (hy:(y.ev st.tm).g=true)
  (e1:avOf st.tm x=vInt k p) (e2:avOf st.tm y=vInt k' q) (hm:E.m<=l) (hl:isAbsent (st.bx l)) (h0:0<=p) (h1:p<=q) (h2:bytes*q<=2^47) (h3:q<=2^47) :
  Runs P E n o a w (st.setb l (.dat sz (List.replicate p.toNat zs))) (.one (.own l p.toNat sz)):=by
 unfold chkMakes at hc
 split at hc
 ·rename_i t x' y' he
  simp only [Bool.and_eq_true,beq_iff_eq,decide_eq_true_eq] at hc
  obtain ⟨⟨⟨⟨c1,c2⟩,hs⟩,hs0⟩,ht⟩:=hc
  have g1:=opd_v h c1 hx
  have g2:=opd_v h c2 hy
  rw [e1] at g1; rw [e2] at g2
  have v1:=gv_int g1
  have v2:=gv_int g2
  split at ht
  ·rename_i e hte
   split at ht
   ·rename_i i hi
    simp only [Bool.and_eq_true,beq_iff_eq] at ht
    obtain ⟨⟨rfl,rfl⟩,hz⟩:=ht
    split at hz
    ·rename_i z hzero
     have hr:=run_make (P:=P) w t e i z hte hi hzero k k' p q h0 h1 (by omega) (by omega)
     have rc:=rep_cells (I:=I) (N:=q.toNat*i.size) (m:=p.toNat) hz hs hs0 (Nat.mul_le_mul_right _ (by omega)) (cs:=madeCells z.cells (q.toNat*i.size)) rfl
     have g:=new_dat h (isAbsent_eq hl) hm (madeCells z.cells (q.toNat*i.size)) e q.toNat i.size (List.replicate p.toNat zs) (size_madeCells _ _) (by simp; omega) (by simp only [maxLen]; omega)
      (fun x hx=>by rw [List.eq_of_mem_replicate hx,hs]) rc.1 rc.2
     refine ⟨_,_,I,_,.inl (by simp only [execOp,he,v1,v2,Sem.run_bind,hr,Result.andThen_ok,Sem.run_pure]; rfl),g,fun _=>⟨w.heap.size,q.toNat,_,_,Ren.set_same _ _ _ _,rfl,by omega,by omega,fun _=>rfl⟩⟩
    ·cases hz
   ·cases ht
  ·cases ht
 ·cases hc
end
end Go.Ab
end
section
namespace Go.Ab
open Go
section
variable {P:Program} {E:Env P} {I:IH} {ρ:Ren} {n:Nat} {st:ASt} {a:Act} {w:World}
noncomputable def lend (I:IH) (ρ:Ren) (w:World) (bx:Nat->Box) (bs:List Nat):IH:=fun k =>
 open Classical in
 if ∃ b sz es cap,b∈bs/\bx b = .dat sz es/\ρ b=some (k,cap)/\cap ≠ 0 then (match w.heap[k]? with | some (.cells c _ _)=>some c | _=>none) else I k
theorem lend_le (hA:BX I ρ w st.bx) (bs:List Nat):I.le (lend I ρ w st.bx bs):=fun k c hk=>by
 unfold lend
 rw [if_neg]
 ·exact hk
 ·rintro ⟨b,sz,es,cap,_,hb,hr,h0⟩
  have:=hA.fresh b k (by rw [hb]; exact ⟨cap,hr,h0⟩)
  rw [this] at hk; cases hk
theorem lend_agree (hA:Agree I w) (bs:List Nat):Agree (lend I ρ w st.bx bs) w:=fun k c hk=>by
 unfold lend at hk
 split at hk
 ·split at hk
  ·rename_i c' e fr hw
   simp at hk
   subst hk
   exact ⟨e,fr,hw⟩
  ·cases hk
 ·exact hA k c hk
theorem lend_rd (h:GX E I ρ n st a w) {bs:List Nat} {v:Value} {b m sz:Nat} {es:List (List Cell)} (hb:b∈bs) (harr:(st.bx b).arr=some (sz,es)) (hm:m<=es.length) (hv:GC I ρ v (.own b m sz)) :
    Rd (lend I ρ w st.bx bs) v (.sl sz (es.take m)):=by
  obtain ⟨k,cap,ad,c,hr,hsv,hmc,hcc,hcap⟩:=hv
  have facts:=GS.arr_facts h harr hr
  have hl:(es.take m).length=m:=by simp; omega
  subst hsv
  have hI:cap ≠ 0->∃ cs,(lend I ρ w st.bx bs) k=some cs/\∀ i j c,(es.getD i [])[j]? = some c->∃ u,cs[i*sz+j]? = some u/\Rd I u c:=by
    intro hc0
    have hok:=h.bx.ok b
    cases hx:st.bx b with
    | dat sz' es' =>
      rw [hx] at hok harr
      simp [Box.arr] at harr
      obtain ⟨rfl,rfl⟩:=harr
      obtain ⟨k',cap',hr',_,_,_,hd⟩:=hok
      rw [hr] at hr'
      simp at hr'
      obtain ⟨rfl,rfl⟩:=hr'
      obtain ⟨cs,e,hw,_,_,hcs⟩:=hd hc0
      refine ⟨cs,?_,hcs⟩
      unfold lend
      rw [if_pos ⟨b,_,_,cap,hb,hx,hr,hc0⟩,hw]
    | frz sz' es' =>
      rw [hx] at hok harr
      simp [Box.arr] at harr
      obtain ⟨rfl,rfl⟩:=harr
      obtain ⟨k',cap',hr',_,_,_,hd⟩:=hok
      rw [hr] at hr'
      simp at hr'
      obtain ⟨rfl,rfl⟩:=hr'
      obtain ⟨cs,hw,hcs⟩:=hd hc0
      exact ⟨cs,lend_le h.bx bs _ _ hw,hcs⟩
    | absent=>rw [hx] at harr; cases harr
    | dead=>rw [hx] at harr; cases harr
    | var xs=>rw [hx] at harr; cases harr
    | row e l=>rw [hx] at harr; cases harr
  have hle:=lend_le (st:=st) h.bx bs
  by_cases hc0:cap=0
  · have hm0:m=0:=by omega
    subst hm0
    simp only [List.take_zero]
    exact Rd.sl _ 0 c sz [] (fun _ _=>undef) rfl (by omega) (by omega) (by simp) (by simp) (by intro ad _ i j hi; omega) (by simp)
  · obtain ⟨cs,hcs,hrd⟩:=hI hc0
    have had:=hcap hc0
    subst had
    have key:∀ i j c,((es.take m).getD i [])[j]? = some c->∃ u,cs[i*sz+j]? = some u/\Rd I u c:=fun i j c hc=>by
      have hi:=getD_nil_some hc
      rw [hl] at hi
      refine hrd i j c ?_
      rw [<- hc]; congr 1
      simp only [List.getD]
      rw [List.getElem?_take,if_pos hi]
    refine Rd.sl _ m c sz (es.take m) (fun i j=>cs.getD (i*sz+j) undef) hl hmc (by omega) (fun e he=>facts.2.2 e (List.mem_of_mem_take he)) (by simp) ?_ ?_
    · intro ad had i j hi hj
      simp at had
      subst had
      have hlen:((es.take m).getD i []).length=sz:=by
        have:i<(es.take m).length:=by omega
        rw [List.getD_eq_getElem?_getD,List.getElem?_eq_getElem this]
        exact facts.2.2 _ (List.mem_of_mem_take (List.getElem_mem this))
      obtain ⟨u,hu,_⟩:=key i j _ (List.getElem?_eq_getElem (by omega))
      rw [Addr.add_mk]
      simp only [IH.cell,hcs]
      simp [hu,Array.getD_eq_getD_getElem?]
    · intro i j c hc
      obtain ⟨u,hu,hr⟩:=key i j c hc
      have:cs.getD (i*sz+j) undef=u:=by simp [Array.getD_eq_getD_getElem?,hu]
      rw [this]
      exact hr.mono hle
theorem mem_frz {bs:List Nat} {b:Nat} : (st.frz bs).bx b=if b∈bs then frzB (st.bx b) else st.bx b:=rfl
theorem GX.freeze (h:GX E I ρ n st a w) (BS:List Nat):GX E (lend I ρ w st.bx BS) ρ n (st.frz BS) a w:=by
  have hIJ:=lend_le h.bx BS
  have huse:∀ b k,((st.frz BS).bx b).uses (ρ b) k->(st.bx b).uses (ρ b) k/\¬ (∃ b' sz es cap,b'∈BS/\st.bx b' = .dat sz es/\ρ b'=some (k,cap)/\cap ≠ 0):=by
    intro b k hu
    rw [mem_frz] at hu
    by_cases hb:b∈BS
    · rw [if_pos hb] at hu
      cases hx:st.bx b with
      | var xs =>
        rw [hx] at hu
        refine ⟨hu,?_⟩
        rintro ⟨b',sz,es,cap,_,hb',hr',h0⟩
        have:=h.bx.inj b b' k (by rw [hx]; exact hu) (by rw [hb']; exact ⟨cap,hr',h0⟩)
        subst this
        rw [hx] at hb'; cases hb'
      | row e l =>
        rw [hx] at hu
        refine ⟨hu,?_⟩
        rintro ⟨b',sz,es,cap,_,hb',hr',h0⟩
        have:=h.bx.inj b b' k (by rw [hx]; exact hu) (by rw [hb']; exact ⟨cap,hr',h0⟩)
        subst this
        rw [hx] at hb'; cases hb'
      | dat sz es=>rw [hx] at hu; exact hu.elim
      | frz sz es=>rw [hx] at hu; exact hu.elim
      | absent=>rw [hx] at hu; exact hu.elim
      | dead=>rw [hx] at hu; exact hu.elim
    · rw [if_neg hb] at hu
      refine ⟨hu,?_⟩
      rintro ⟨b',sz,es,cap,hm',hb',hr',h0⟩
      have:=h.bx.inj b b' k hu (by rw [hb']; exact ⟨cap,hr',h0⟩)
      subst this
      exact hb hm'
  have hfr:∀ b k,((st.frz BS).bx b).uses (ρ b) k->lend I ρ w st.bx BS k=none:=fun b k hu=>by
    obtain ⟨h1,h2⟩:=huse b k hu
    unfold lend
    rw [if_neg h2]
    exact h.bx.fresh b k h1
  refine { agree:=lend_agree h.agree BS,bx:=⟨fun b => ?_,fun b b' k hb hb'=>h.bx.inj b b' k (huse b k hb).1 (huse b' k hb').1,hfr⟩,tm:=fun t ht=>(h.tm t ht).mono hIJ (Ren.le_refl ρ),size:=h.size,defers:=h.defers,frm:=h.frm,own:=fun b k hu=>h.own b k (huse b k hu).1,ile:=IH.le_trans h.ile hIJ,inew:=fun k hk0 hM => ?_,keepρ:=h.keepρ }
  · have hok:=(h.bx.ok b).keep hIJ (Ren.le_refl ρ) rfl (fun k hu=>rfl)
    rw [mem_frz]
    by_cases hb:b∈BS
    · rw [if_pos hb]
      cases hx:st.bx b with
      | dat sz es =>
        rw [hx] at hok
        obtain ⟨kk,cap,hr',hl,hm,hsz,hcs⟩:=hok
        refine ⟨kk,cap,hr',hl,hm,hsz,fun h0 => ?_⟩
        obtain ⟨cs,e,hw,_,_,hrd⟩:=hcs h0
        refine ⟨cs,?_,hrd⟩
        unfold lend
        rw [if_pos ⟨b,sz,es,cap,hb,hx,hr',h0⟩,hw]
      | var xs=>rw [hx] at hok; exact hok
      | row e l=>rw [hx] at hok; exact hok
      | frz sz es=>rw [hx] at hok; exact hok
      | absent=>rw [hx] at hok; exact hok
      | dead=>rw [hx] at hok; exact hok
    · rw [if_neg hb]; exact hok
  · unfold lend
    rw [if_neg]
    · exact h.inew k hk0 hM
    · rintro ⟨b',sz,es,cap,_,hb',hr',h0⟩
      rcases h.own b' k (by rw [hb']; exact ⟨cap,hr',h0⟩) with h1 | h1
      · omega
      · exact hM h1
theorem setbs_tm (l:List (Nat × Box)) (st:ASt):(st.setbs l).tm=st.tm:=by
 induction l generalizing st with
 | nil=>rfl
 | cons x l ih=>obtain ⟨b,x⟩:=x; simp only [ASt.setbs,ih]; rfl
theorem setbs_frz (st:ASt) (l:List Nat) (bx:Nat->Box):(st.setbs (l.map fun b=>(b,frzB (bx b)))).bx=fun b=>if b∈l then frzB (bx b) else st.bx b:=by
  induction l generalizing st with
  | nil=>rfl
  | cons c l ih =>
    simp only [List.map_cons,ASt.setbs,ih]
    funext b
    simp only [ASt.setb_bx,List.mem_cons]
    by_cases h:b∈l
    · simp [h]
    · by_cases h':b=c
      · subst h'; simp [h]
      · simp [h,h']
theorem setbs_frz_eq (st:ASt) (l:List Nat):st.setbs (l.map fun b=>(b,frzB (st.bx b)))=st.frz l:=by
 apply ASt.ext'
 ·rw [setbs_tm]; rfl
 ·rw [setbs_frz]; rfl
theorem setbs_append (l r:List (Nat × Box)):∀ (st:ASt),st.setbs (l++r)=(st.setbs l).setbs r:=by
 induction l with
 | nil=>intro st; rfl
 | cons p l ih=>intro st; obtain ⟨b,x⟩:=p; simp only [List.cons_append,ASt.setbs,ih]
theorem setbs_frzs (st:ASt) (l:List Nat) (r:List (Nat × Box)):st.setbs (frzs st.bx l++r)=(st.frz l).setbs r:=by
 rw [setbs_append]
 unfold frzs
 rw [setbs_frz_eq]
end
end Go.Ab
end
section
namespace Go.Ab
open Go
section
variable {P:Program} {E:Env P} {I:IH} {ρ:Ren} {n:Nat} {st:ASt} {a:Act} {w:World}
theorem datas_ok (h:GX E I ρ n st a w) {BS:List Nat} {vs:List Value} {xs:List AC} {cs:List Cell} (hg:GCs I ρ vs xs) (hd:datas st.bx xs=some cs) (hl:lendOK st.bx xs) (hb:∀ b,b∈ownsOf xs->b∈BS) :
    vs.length=cs.length/\∀ (j:Nat) (c:Cell),cs[j]? = some c->∃ u,vs[j]? = some u/\Rd (lend I ρ w st.bx BS) u c:=by
  have hle:=lend_le (st:=st) h.bx BS
  induction xs generalizing vs cs with
  | nil =>
    simp [datas] at hd
    subst hd
    exact ⟨hg.1,by simp⟩
  | cons x r ih =>
    cases vs with
    | nil=>have:=hg.1; simp at this
    | cons v vs =>
      unfold datas at hd
      split at hd
      · rename_i c cs' h1 h2
        simp at hd
        subst hd
        have ht:GCs I ρ vs r:=⟨by simpa using hg.1,fun j u y hu hy=>hg.2 (j+1) u y (by simpa using hu) (by simpa using hy)⟩
        have hv:=hg.2 0 v x rfl rfl
        have hlr:lendOK st.bx r:=by
          cases x with
          | own b m sz=>exact hl.2
          | _=>exact hl
        have hbr:∀ b,b∈ownsOf r->b∈BS:=fun b hm=>hb b (by
          cases x with
          | own b' m sz=>exact List.mem_cons_of_mem _ hm
          | _=>exact hm)
        obtain ⟨hl',hc⟩:=ih ht h2 hlr hbr
        have hr:Rd (lend I ρ w st.bx BS) v c:=by
          cases x with
          | c y=>simp [dataOf] at h1; subst h1; exact Rd.mono hle hv
          | nsl sz =>
            simp [dataOf] at h1
            subst h1
            simp only [GC] at hv
            subst hv
            exact Rd.sl none 0 0 _ [] (fun _ _=>undef) rfl (Nat.le_refl _) (by simp [maxLen]) (by simp) (by simp) (fun ad h=>by cases h) (by simp)
          | own b m sz =>
            simp only [dataOf] at h1
            have hl1:=hl.1
            cases harr:(st.bx b).arr with
            | none=>rw [harr] at h1; cases h1
            | some p =>
              obtain ⟨sz',es⟩:=p
              rw [harr] at h1 hl1
              simp at h1
              subst h1
              obtain ⟨rfl,hle'⟩:=hl1
              exact lend_rd h (hb b (by simp [ownsOf])) harr hle' hv
          | _=>simp [dataOf] at h1
        refine ⟨by simp [hl'],fun j c' hj => ?_⟩
        cases j with
        | zero=>simp at hj; subst hj; exact ⟨v,rfl,hr⟩
        | succ j=>obtain ⟨u,hu,hr'⟩:=hc j c' (by simpa using hj); exact ⟨u,by simpa using hu,hr'⟩
      · cases hd
structure DC (I:IH) (cs:List Value) (sz:Nat) (es:List (List Cell)):Prop where
 one:∀ (j:Nat) (u:Value),cs[j]? = some u->u.oneCell'=true
 rd:∀ (i j:Nat) (c:Cell),(es.getD i [])[j]? = some c->∃ u,cs[i*sz+j]? = some u/\Rd I u c
theorem getD_set {α:Type} (es:List (List α)) (i i':Nat) (e:List α) (h:i<es.length):(es.set i e).getD i' []=if i'=i then e else es.getD i' []:=by
 simp only [List.getD,List.getElem?_set]
 by_cases hi:i=i'
 ·subst hi; simp [h]
 ·rw [if_neg hi,if_neg (fun e=>hi e.symm)]
theorem row_inj {sz i i' j j':Nat} (hj:j<sz) (hj':j'<sz) (h:i*sz+j=i'*sz+j'):i=i'/\j=j':=by
 have h1:(i*sz+j)/sz=i:=by rw [Nat.mul_comm,Nat.mul_add_div (by omega),Nat.div_eq_of_lt hj,Nat.add_zero]
 have h2:(i'*sz+j')/sz=i':=by rw [Nat.mul_comm,Nat.mul_add_div (by omega),Nat.div_eq_of_lt hj',Nat.add_zero]
 rw [h] at h1
 have:=h1.symm.trans h2
 subst this
 exact ⟨rfl,by omega⟩
theorem DC.splice {cs:List Value} {sz:Nat} {es:List (List Cell)} (h:DC I cs sz es) (hsz:∀ x,x∈es->x.length=sz) {i off:Nat} (hi:i<es.length) {vs:List Value} {ys:List Cell} (hl:off+ys.length<=sz) (hcs:(i+1)*sz<=cs.length)
  (hv:vs.length=ys.length) (h1:∀ (j:Nat) (u:Value),vs[j]? = some u->u.oneCell'=true) (hd:∀ (j:Nat) (c:Cell),ys[j]? = some c->∃ u,vs[j]? = some u/\Rd I u c) :
  DC I (splice cs (i*sz+off) vs) sz (es.set i (Ab.splice (es.getD i []) off ys)):=by
 rw [Nat.add_mul] at hcs
 have hfit:i*sz+off+vs.length<=cs.length:=by omega
 have hei:(es.getD i []).length=sz:=hsz _ (by simp [List.getD,List.getElem?_eq_getElem hi])
 refine ⟨fun j u hu => ?_,fun i' j c hc => ?_⟩
 ·rw [getElem?_splice _ _ _ _ hfit] at hu
  split at hu
  ·exact h.one j u hu
  ·split at hu
   ·exact h1 _ u hu
   ·exact h.one j u hu
 ·rw [getD_set _ _ _ _ hi] at hc
  rw [getElem?_splice _ _ _ _ hfit]
  by_cases e:i'=i
  ·subst e
   rw [if_pos rfl,getElem?_splice _ _ _ _ (by omega)] at hc
   by_cases c1:j<off
   ·rw [if_pos c1] at hc
    rw [if_pos (by omega)]
    exact h.rd i' j c hc
   ·rw [if_neg c1] at hc
    rw [if_neg (by omega)]
    by_cases c2:j<off+ys.length
    ·rw [if_pos c2] at hc
     rw [if_pos (by omega)]
     obtain ⟨u,hu,hr⟩:=hd _ c hc
     exact ⟨u,by rw [<- hu]; congr 1; omega,hr⟩
    ·rw [if_neg c2] at hc
     rw [if_neg (by omega)]
     exact h.rd i' j c hc
  ·rw [if_neg e] at hc
   have hj:j<sz:=by
    have hi':=getD_nil_some hc
    have:=hsz (es.getD i' []) (by simp [List.getD,List.getElem?_eq_getElem hi'])
    rw [<- this]; exact (List.getElem?_eq_some_iff.1 hc).1
   have hout:¬ (i*sz+off<=i'*sz+j/\i'*sz+j<i*sz+off+vs.length):=by
    intro ⟨c1,c2⟩
    obtain ⟨e1,_⟩:=row_inj (i:=i') (i':=i) (j:=j) (j':=i'*sz+j-i*sz) hj (by omega) (by omega)
    exact e e1
   by_cases c1:i'*sz+j<i*sz+off
   ·rw [if_pos c1]; exact h.rd i' j c hc
   ·rw [if_neg c1,if_neg (by omega)]; exact h.rd i' j c hc
def bpartsOK (n:Nat):List (Nat × Operand)->List (Nat × Opd)->Bool
 | [],[]=>true
 | (i,x)::r,(i',y)::r'=>i==i'&&chkOpd n x y&&bpartsOK n r r'
 | _,_=>false
def chkBslice (P:Program) (n:Nat) (op:Op) (sz m:Nat) (zs:List Cell) (ps:List (Nat × Opd)):Bool :=
  match op with
  | .buildSlice t len ps'=>len==m&&zs.length==sz&&decide (0<sz)&&decide (len*sz<=16777216)&&bpartsOK n ps'.toList ps&&(match P.underlying t with
    | some (.slice e)=>(match P.info? e with | some i=>i.size==sz&&(match i.zero with | some z=>zerosD z.cells.toList zs | none=>false) | none=>false)
    | _=>false)
  | _=>false
theorem bfill_ok {sz:Nat} {BS:List Nat} (h:GX E I ρ n st a w) (hs0:0<sz):∀ (ps:List (Nat × Operand)) (ps':List (Nat × Opd)) (l':List (Nat × List Cell)) (cs:Array Value) (es:List (List Cell)),bpartsOK n ps ps'=true ->
    datParts (avOf st.tm) st.bx es.length sz ps'=some l'->partLend (avOf st.tm) st.bx ps'->(∀ b,b∈partOwns (avOf st.tm) ps'->b∈BS)->(∀ p,p∈l'->p.1<es.length/\p.2.length=sz)->(∀ p,p∈ps'->(p.2.ev st.tm).g=true)->DC (lend I ρ w st.bx BS) cs.toList sz es->(∀ x,x∈es->x.length=sz)->cs.size=es.length*sz ->
    ∃ cs',Instr.fill (fun i=>some (i*sz,sz)) cs (ps.map fun p=>(p.1,a.eval p.2))=some cs'/\DC (lend I ρ w st.bx BS) cs'.toList sz (fillE es l')/\(∀ x,x∈fillE es l'->x.length=sz)/\cs'.size=es.length*sz/\(fillE es l').length=es.length
  | [],[],l',cs,es,_,hd,_,_,_,_,hg,hsz,hcs=>by
    simp [datParts] at hd; subst hd
    exact ⟨cs,rfl,hg,hsz,hcs,rfl⟩
  | [],_::_,_,_,_,h,_,_,_,_,_,_,_,_=>by simp [bpartsOK] at h
  | _::_,[],_,_,_,h,_,_,_,_,_,_,_,_=>by simp [bpartsOK] at h
  | (i,x)::r,(i',y)::r',l',cs,es,hp,hd,hld,hbs,hq,hv,hg,hsz,hcs=>by
    simp only [bpartsOK,Bool.and_eq_true,beq_iff_eq] at hp
    obtain ⟨⟨rfl,hx⟩,hr⟩:=hp
    unfold datParts at hd
    split at hd
    · rename_i ds l2 hd1 hd2
      simp at hd
      subst hd
      obtain ⟨q1,q2⟩:=hq (i,ds) (by simp)
      simp only at q1 q2
      have g:=opd_v h hx (hv _ (List.mem_cons_self ..))
      have hf:(avOf st.tm y).flat:=by
        cases hav:avOf st.tm y with
        | tup ps=>rw [hav] at hd1; simp [AV.cells,datas] at hd1; rw [hd1] at q2; simp at q2; omega
        | one x=>trivial
        | agg xs=>trivial
      have gc:=gv_cells g hf
      obtain ⟨hl,hrd⟩:=datas_ok (BS:=BS) h gc hd1 hld.1 (fun b hm=>hbs b (by simp only [partOwns,List.mem_append]; exact .inl hm))
      have hvs:(a.eval x).cells.size=sz:=by simp at hl; rw [hl]; exact q2
      have hone:∀ (j:Nat) (u:Value),(a.eval x).cells.toList[j]? = some u->u.oneCell'=true:=fun j u hu=>by
        have hj:j<(avOf st.tm y).cells.length:=by rw [<- gc.1]; exact (List.getElem?_eq_some_iff.1 hu).1
        exact (gc.2 j u _ hu (List.getElem?_eq_getElem hj)).one
      have hi1:(i+1)*sz<=cs.toList.length:=by simp; rw [hcs]; exact Nat.mul_le_mul_right _ q1
      have hmul:(i+1)*sz=i*sz+sz:=by rw [Nat.add_mul]; omega
      have hsp:=hg.splice hsz q1 (off:=0) (ys:=ds) (vs:=(a.eval x).cells.toList) (by omega) hi1 (by simpa using hl) hone hrd
      have hei:(es.getD i []).length=sz:=hsz _ (by simp [List.getD,List.getElem?_eq_getElem q1])
      have hse:Ab.splice (es.getD i []) 0 ds=ds:=by unfold Ab.splice; rw [List.take_zero,List.nil_append,List.drop_of_length_le (by omega),List.append_nil]
      rw [hse,Nat.add_zero] at hsp
      have hfold:=foldl_set (a.eval x).cells (i*sz) cs (by simp at hi1; omega)
      have hlen2:(es.set i ds).length=es.length:=by simp
      have ih:=bfill_ok h hs0 r r' l2 ((a.eval x).cells.zipIdx.foldl (fun cs (p:Value × Nat)=>cs.setIfInBounds (i*sz+p.2) p.1) cs) (es.set i ds) hr (by rw [hlen2]; exact hd2) hld.2 (fun b hm=>hbs b (by simp only [partOwns,List.mem_append]; exact .inr hm))
        (fun p hp=>by rw [hlen2]; exact hq p (by simp [hp])) (fun p hp=>hv p (by simp [hp])) (by rw [hfold]; exact hsp)
        (fun x hx=>(List.mem_or_eq_of_mem_set hx).elim (hsz x) (fun h1=>by rw [h1]; exact q2)) (by
          have:(cs.toList).length=cs.size:=by simp
          rw [<- Array.length_toList,hfold,length_splice _ _ _ (by simp at hi1 ⊢; omega),hlen2]; simpa using hcs)
      obtain ⟨cs',h1,h2,h3,h4,h5⟩:=ih
      rw [hlen2] at h4 h5
      refine ⟨cs',?_,h2,h3,h4,h5⟩
      simp only [List.map_cons,Instr.fill]
      rw [if_neg (by simp at hi1 ⊢; omega)]
      exact h1
    · cases hd
theorem bslice_runs {o:Oper} {l sz m:Nat} {zs:List Cell} {ps:List (Nat × Opd)} {l':List (Nat × List Cell)} (h:GX E I ρ n st a w) (hc:chkBslice P n o.op sz m zs ps=true) (hv:∀ p,p∈ps->(p.2.ev st.tm).g=true)
  (hm:E.m<=l) (hl:isAbsent (st.bx l)) (hd:datParts (avOf st.tm) st.bx m sz ps=some l') (hq:∀ p,p∈l'->p.1<m/\p.2.length=sz) (hld:partLend (avOf st.tm) st.bx ps) :
  Runs P E n o a w ((st.frz (partOwns (avOf st.tm) ps)).setb l (.dat sz (fillE (List.replicate m zs) l'))) (.one (.own l m sz)):=by
 have h':=h.freeze (partOwns (avOf st.tm) ps)
 have hl':isAbsent ((st.frz (partOwns (avOf st.tm) ps)).bx l):=by
  rw [mem_frz,isAbsent_eq hl]
  split<;>trivial
 generalize hJ:lend I ρ w st.bx (partOwns (avOf st.tm) ps)=J at h'
 unfold chkBslice at hc
 split at hc
 ·rename_i t len ps' he
  simp only [Bool.and_eq_true,beq_iff_eq,decide_eq_true_eq] at hc
  obtain ⟨⟨⟨⟨⟨rfl,hs⟩,hs0⟩,hbig⟩,hp⟩,ht⟩:=hc
  split at ht
  ·rename_i e hte
   split at ht
   ·rename_i i hi
    simp only [Bool.and_eq_true,beq_iff_eq] at ht
    obtain ⟨rfl,hz⟩:=ht
    split at hz
    ·rename_i z hzero
     generalize hz0:(if len*i.size=0 then (#[]:Array Value) else z.cells)=z0
     generalize hcs0:(Array.range (len*i.size)).map (z0[· % z0.size]!)=cs0
     have hdc:DC J cs0.toList i.size (List.replicate len zs)/\cs0.size=len*i.size:=by
      refine ⟨?_,by rw [<- hcs0]; simp⟩
      by_cases h0:len*i.size=0
      ·have hlen0:len=0:=by
        rcases Nat.mul_eq_zero.1 h0 with h1 | h1
        ·exact h1
        ·omega
       subst hlen0
       refine ⟨fun j u hu => ?_,fun i' j c hc => ?_⟩
       ·rw [<- hcs0] at hu; simp at hu
       ·simp [List.getD] at hc
      ·rw [if_neg h0] at hz0
       subst hz0
       have rc:=rep_cells (I:=J) (N:=len*i.size) (m:=len) hz hs hs0 (Nat.le_refl _) (cs:=cs0) hcs0.symm
       exact ⟨fun j u hu=>rc.1 j u (by simpa using hu),fun i' j c hc=>by obtain ⟨u,hu,hr⟩:=rc.2 i' j c hc; exact ⟨u,by simpa using hu,hr⟩⟩
     obtain ⟨cs',h1,h2,h3,h4,h5⟩:=bfill_ok (BS:=partOwns (avOf st.tm) ps) h hs0 ps'.toList ps l' cs0 (List.replicate len zs) hp (by simpa using hd) hld (fun b hb=>hb) (by simpa using hq) hv (by rw [hJ]; exact hdc.1) (fun x hx=>by rw [List.eq_of_mem_replicate hx,hs]) (by simpa using hdc.2)
     rw [hJ] at h2
     simp only [List.length_replicate] at h4 h5
     have g:=new_dat h' (isAbsent_eq hl') hm cs' e len i.size (fillE (List.replicate len zs) l') h4 (by omega) (by simp only [maxLen]; have:=Nat.le_mul_of_pos_right len hs0; omega) h3
      (fun j u hu=>h2.one j u (by simpa using hu)) (fun i' j c hc=>by obtain ⟨u,hu,hr⟩:=h2.rd i' j c hc; exact ⟨u,by simpa using hu,hr⟩)
     refine ⟨_,_,J,_,.inl ?_,g,fun _=>⟨w.heap.size,len,_,_,Ren.set_same _ _ _ _,rfl,Nat.le_refl _,Nat.le_refl _,fun _=>rfl⟩⟩
     have hps:(ps'.map fun (i,x)=>(i,a.eval x)).toList=ps'.toList.map fun p=>(p.1,a.eval p.2):=by simp
     have hsz:(sizeOf e).run P w = .ok i.size w:=by simp [sizeOf,typeInfo,hi]
     have hzr:(zeroValue e).run P w = .ok z w:=by simp [zeroValue,typeInfo,hi,hzero]
     simp only [execOp,he,Instr.buildSlice,Sem.run_bind,run_underlying hte,Result.andThen_ok,hsz]
     rw [if_neg (by omega)]
     by_cases h0:len*i.size=0
     ·rw [if_pos h0] at hz0 ⊢
      subst hz0
      simp only [Sem.run_bind,Sem.run_pure,Result.andThen_ok,hcs0,hps,h1,newRow,run_newObj]
      rfl
     ·rw [if_neg h0] at hz0 ⊢
      subst hz0
      simp only [Sem.run_bind,hzr,Sem.run_pure,Result.andThen_ok,hcs0,hps,h1,newRow,run_newObj]
      rfl
    ·cases hz
   ·cases ht
  ·cases ht
 ·cases hc
theorem setRow_frm (w:World) (k:Nat) (cs:Array Value):Frm w (w.setRow k cs) (fun k'=>k'=k) :=
 ⟨rfl,rfl,rfl,by simp,fun k' _ hne=>setRow_other w k k' cs hne⟩
theorem toList_take_drop (cs:Array Value) (off:Nat) (vs:List Value):(cs.toList.take (off+0)++vs++cs.toList.drop (off+0+vs.length)).toArray=(Ab.splice cs.toList off vs).toArray:=by
 unfold Ab.splice; simp
def chkStore (P:Program) (n:Nat) (op:Op) (agg:Bool) (k:Nat) (p x:Opd):Bool:=match op with | .store t p' x'=>chkOpd n p' p&&chkOpd n x' x&&tyOK P t agg k&&(agg||k==1) | _=>false
theorem run_storeVar {t:TypeId} {agg:Bool} {k kk off:Nat} (ht:tyOK P t agg k=true) {v:Value} (hk:v.cells.size=k) {cur:Array Value} {e:TypeId} (hw:w.heap[kk]? = some (.cells cur e (0,0)))
  (hfit:off+k<=cur.size) (h1:∀ (j:Nat) (u:Value),v.cells.toList[j]? = some u->u.oneCell'=true) :
  (Instr.storeAt t (.pointer (some ⟨kk,off,none⟩)) v).run P w = .ok () (w.setRow kk (Ab.splice cur.toList off v.cells.toList).toArray):=by
 have hst:=run_storeCells_at P kk off e v.cells.toList 0 cur w hw (by simp; omega) (fun u hu=>by
  obtain ⟨j,hj⟩:=List.getElem?_of_mem hu
  exact h1 j u hj)
 rw [toList_take_drop] at hst
 obtain ⟨_,hs⟩:=tyOK_spec ht w
 simp only [Instr.storeAt,Instr.sureAddr,Sem.run_bind,Sem.run_pure,Result.andThen_ok,storeVar,hs]
 rw [if_neg (by omega)]
 exact hst
theorem gv_ones {v:Value} {x:AV} (h:GV I ρ v x) (hf:x.flat):∀ (j:Nat) (u:Value),v.cells.toList[j]? = some u->u.oneCell'=true:=fun j u hu=>by
 have gc:=gv_cells h hf
 have hj:j<x.cells.length:=by rw [<- gc.1]; exact (List.getElem?_eq_some_iff.1 hu).1
 exact (gc.2 j u _ hu (List.getElem?_eq_getElem hj)).one
theorem store_runs {o:Oper} {agg:Bool} {k:Nat} {p x:Opd} (h:GX E I ρ n st a w) (hc:chkStore P n o.op agg k p x=true) (hd:o.dst=none) (hp:(p.ev st.tm).g=true) (hx:(x.ev st.tm).g=true)
  (hvc:(storeV agg k (avOf st.tm p) (avOf st.tm x) st.bx).vc):Runs P E n o a w (st.setbs (storeV agg k (avOf st.tm p) (avOf st.tm x) st.bx).sets) (storeV agg k (avOf st.tm p) (avOf st.tm x) st.bx).v:=by
 unfold chkStore at hc
 split at hc
 ·rename_i t p' x' he
  simp only [Bool.and_eq_true] at hc
  obtain ⟨⟨⟨c1,c2⟩,ht⟩,_⟩:=hc
  have g1:=opd_v h c1 hp
  have g2:=opd_v h c2 hx
  have hf:(avOf st.tm x).flat:=by
   cases hav:avOf st.tm x with
   | one _=>trivial
   | agg _=>trivial
   | tup ps=>rw [hav] at hvc; exact hvc.elim
  have gc:=gv_cells g2 hf
  have h1:=gv_ones g2 hf
  have key:∀ {J:IH} {st':ASt} (h':GX E J ρ n st' a w) {b kk cap off:Nat} {cur:Array Value} {e:TypeId} {y:Box},a.eval p' = .pointer (some ⟨kk,off,none⟩)->(st'.bx b).uses (ρ b) kk->w.heap[kk]? = some (.cells cur e (0,0))->(avOf st.tm x).cells.length=k->off+k<=cur.size ->
    (∀ k',y.uses (ρ b) k'->k'=kk)->BoxOK J ρ (w.setRow kk (Ab.splice cur.toList off (a.eval x').cells.toList).toArray) b y->ρ b=some (kk,cap)->Runs P E n o a w (st'.setbs [(b,y)]) (.one .junk):=by
   intro J st' h' b kk cap off cur e y hpv hu hw hk hfit huy hok hr
   have hkv:(a.eval x').cells.size=k:=by have:=gc.1; simp at this; omega
   have hrun:=run_storeVar (P:=P) (w:=w) ht hkv hw hfit h1
   refine ⟨undef,w.setRow kk (Ab.splice cur.toList off (a.eval x').cells.toList).toArray,J,ρ,.inr ⟨by simp only [execOp,he,hpv,Sem.run_bind,hrun,Result.andThen_ok,Sem.run_pure],hd⟩,?_,fun hn=>absurd hd hn⟩
   exact h'.setb hu y huy (setRow_frm _ _ _) hok (by simp)
  unfold storeV at hvc ⊢
  split at hvc
  ·exact hvc.elim
  ·exact hvc.elim
  ·exact hvc.elim
  ·split at hvc
   ·rename_i b off e1
    rw [e1] at g1
    obtain ⟨kk,cap,hr,hv⟩:=g1
    split at hvc
    ·rename_i xs hb
     obtain ⟨hk,hfit⟩:=hvc
     have hok:=h.bx.ok b
     rw [hb] at hok
     obtain ⟨kk',cap',cs,hr',hw,hs,hcs⟩:=hok
     rw [hr] at hr'
     simp only [Option.some.injEq,Prod.mk.injEq] at hr'
     obtain ⟨rfl,rfl⟩:=hr'
     refine key h hv (by rw [hb]; exact ⟨cap,hr⟩) hw hk (by omega) (fun k' hk' => ?_) ?_ hr
     ·obtain ⟨c,hc⟩:=hk'; rw [hr] at hc; simp at hc; exact hc.1.symm
     ·have hsp:=GCs.splice (vs:=cs.toList) (xs:=xs) ⟨by simpa using hs,fun j v y hv hy=>hcs j v y (by simpa using hv) hy⟩ gc off (by omega)
      refine ⟨kk,cap,_,hr,setRow_heap w kk cs _ cap _ hw,?_,fun j u y hu hy=>hsp.2 j u y (by simpa using hu) hy⟩
      have:=hsp.1
      simpa using this
    ·exact hvc.elim
   ·rename_i b i sz off e1
    rw [e1] at g1
    obtain ⟨kk,cap,hr,hv⟩:=g1
    split at hvc
    ·rename_i sz' es cs' hb hds
     obtain ⟨rfl,hk,hi,hfit,hlo,hnb⟩:=hvc
     obtain ⟨hl,hrd⟩:=datas_ok (BS:=ownsOf (avOf st.tm x).cells) h gc hds hlo (fun b hm=>hm)
     have h':=h.freeze (ownsOf (avOf st.tm x).cells)
     have hb':(st.frz (ownsOf (avOf st.tm x).cells)).bx b = .dat sz' es:=by
      rw [mem_frz,if_neg (fun hm=>by rw [List.contains_iff_mem.2 hm] at hnb; cases hnb),hb]
     rw [setbs_frzs]
     generalize hJ:lend I ρ w st.bx (ownsOf (avOf st.tm x).cells)=J at h' hrd
     have hok:=h'.bx.ok b
     rw [hb'] at hok
     obtain ⟨kk',cap',hr',hle,hcm,hsz,hcs⟩:=hok
     rw [hr] at hr'
     simp only [Option.some.injEq,Prod.mk.injEq] at hr'
     obtain ⟨rfl,rfl⟩:=hr'
     have hc0:cap ≠ 0:=by omega
     obtain ⟨cs,e,hw,hs,ho,hrd'⟩:=hcs hc0
     have hi1:(i+1)*sz'<=cs.size:=by rw [hs]; exact Nat.mul_le_mul_right _ (by omega)
     have hmul:(i+1)*sz'=i*sz'+sz':=by rw [Nat.add_mul]; omega
     have hei:(es.getD i []).length=sz':=hsz _ (by simp [List.getD,List.getElem?_eq_getElem hi])
     have hck:(avOf st.tm x).cells.length=k:=by rw [<- gc.1,hl]; exact hk
     have hdc:DC J cs.toList sz' es:=⟨fun j u hu=>ho j u (by simpa using hu),fun i j c hc=>by obtain ⟨u,hu,hr⟩:=hrd' i j c hc; exact ⟨u,by simpa using hu,hr⟩⟩
     have hsp:=hdc.splice hsz hi (off:=off) (ys:=cs') (vs:=(a.eval x').cells.toList) (by omega) (by simpa using hi1) hl h1 hrd
     refine key h' hv (by rw [hb']; exact ⟨cap,hr,hc0⟩) hw hck (by omega) (fun k' hk' => ?_) ?_ hr
     ·obtain ⟨c,hc,_⟩:=hk'; rw [hr] at hc; simp at hc; exact hc.1.symm
     ·refine ⟨kk,cap,hr,by simpa using hle,hcm,fun y hy => ?_,fun _=>⟨_,e,setRow_heap w kk cs _ e _ hw,?_,fun j u hu=>hsp.one j u (by simpa using hu),fun i j c hc=>by obtain ⟨u,hu,hr⟩:=hsp.rd i j c hc; exact ⟨u,by simpa using hu,hr⟩⟩⟩
      ·rcases List.mem_or_eq_of_mem_set hy with h1 | h1
       ·exact hsz y h1
       ·rw [h1,length_splice _ _ _ (by omega)]
        exact hei
      ·have:(a.eval x').cells.toList.length=k:=by rw [hl]; exact hk
       simp only [List.size_toArray]
       rw [length_splice _ _ _ (by rw [this,Array.length_toList]; omega)]
       simpa using hs
    ·exact hvc.elim
   ·exact hvc.elim
 ·cases hc
end
end Go.Ab
end
section
namespace Go.Ab
open Go
section
variable {P:Program} {E:Env P} {I:IH} {ρ:Ren} {n:Nat} {st:ASt} {a:Act} {w:World}
theorem GX.kill (h:GX E I ρ n st a w) (b:Nat):GX E I ρ n (st.setb b .dead) a w:=by
 refine { h with bx := ?_,own := ?_,agree:=h.agree,tm:=h.tm,size:=h.size,defers:=h.defers }
 ·refine BX.step (fun c=>c=b) h.bx (IH.le_refl I) (Ren.le_refl ρ) (fun c hc=>⟨by simp [ASt.setb_bx,hc],rfl⟩) (fun c k _ _=>rfl) ?_ ?_ ?_ (fun c k _ hu=>h.bx.fresh c k hu)
  ·rintro c rfl; simp [ASt.setb_bx,BoxOK]
  ·rintro c k rfl hu; simp [ASt.setb_bx,Box.uses] at hu
  ·rintro c c' k rfl rfl _ _; rfl
 ·intro c k hu
  simp only [ASt.setb_bx] at hu
  by_cases e:c=b
  ·rw [if_pos e] at hu; exact hu.elim
  ·rw [if_neg e] at hu; exact h.own c k hu
theorem GX.move (h:GX E I ρ n st a w) {w':World} {b l kk cap sz sz':Nat} {es es':List (List Cell)} (hb:st.bx b = .dat sz es) (hr:ρ b=some (kk,cap)) (hl:st.bx l = .absent) (hm:E.m<=l)
  (hF:Frm w w' (fun k=>k=kk)) (hsz:w'.heap.size=w.heap.size) (h0:cap=0->w'=w) (hx:BoxOK I (ρ.set l kk cap) w' l (.dat sz' es')):GX E I (ρ.set l kk cap) n ((st.setb b .dead).setb l (.dat sz' es')) a w':=by
 have hrl:ρ l=none:=by have:=h.bx.ok l; rwa [hl] at this
 have hbl:b ≠ l:=by rintro rfl; rw [hl] at hb; cases hb
 have hle:=Ren.le_set (ρ:=ρ) (k:=kk) (cap:=cap) hrl
 have hk:∀ k',k' ≠ kk->w'.heap[k']? = w.heap[k']? := fun k' hne=>by
  by_cases hlt:k'<w.heap.size
  ·exact hF.block k' hlt hne
  ·rw [Array.getElem?_eq_none (by omega),Array.getElem?_eq_none (by omega)]
 have hub:cap ≠ 0->(st.bx b).uses (ρ b) kk:=fun hc=>by rw [hb]; exact ⟨cap,hr,hc⟩
 have hk2:∀ k',(∀ hc:cap ≠ 0,k' ≠ kk)->w'.heap[k']? = w.heap[k']? := fun k' hne=>by
  by_cases hc:cap=0
  ·rw [h0 hc]
  ·exact hk k' (hne hc)
 refine { agree:=h.agree.other fun k' c hc=>hk2 k' fun hc0 e => ?_,bx := ?_,tm:=fun t ht=>(h.tm t ht).mono (IH.le_refl _) hle,size:=h.size,defers:=h.defers,frm := ?_,own := ?_,ile:=h.ile,inew:=h.inew,keepρ := ?_ }
 ·subst e; have:=h.bx.fresh b k' (hub hc0); rw [this] at hc; cases hc
 ·refine BX.step (fun c=>c=b\/c=l) h.bx (IH.le_refl I) hle ?_ ?_ ?_ ?_ ?_ ?_
  ·intro c hc
   have h1:¬ c=b:=fun e=>hc (.inl e)
   have h2:¬ c=l:=fun e=>hc (.inr e)
   exact ⟨by simp [ASt.setb_bx,h1,h2],Ren.set_other h2⟩
  ·intro c k' hc hu
   refine hk2 k' fun hc0 e=>hc (.inl ?_)
   subst e
   exact h.bx.inj c b k' hu (hub hc0)
  ·rintro c (rfl | rfl)
   ·simp [ASt.setb_bx,hbl,BoxOK]
   ·simpa [ASt.setb_bx] using hx
  ·rintro c k' (rfl | rfl) hu
   ·simp [ASt.setb_bx,hbl,Box.uses] at hu
   ·simp only [ASt.setb_bx,if_true,Box.uses,Ren.set_same] at hu
    obtain ⟨c',hc',hc0⟩:=hu
    simp only [Option.some.injEq,Prod.mk.injEq] at hc'
    obtain ⟨rfl,rfl⟩:=hc'
    exact ⟨fun b' hb' hu'=>hb' (.inl (h.bx.inj b' b kk hu' (hub hc0))),h.bx.fresh b kk (hub hc0)⟩
  ·rintro c c' k' (rfl | rfl) (rfl | rfl) hu hu'
   ·rfl
   ·simp [ASt.setb_bx,hbl,Box.uses] at hu
   ·simp [ASt.setb_bx,hbl,Box.uses] at hu'
   ·rfl
  ·intro c k' hc hu; exact h.bx.fresh c k' hu
 ·by_cases hc:cap=0
  ·rw [h0 hc]; exact h.frm
  ·refine h.frm.trans hF fun k' hlt e => ?_
   subst e
   rcases h.own b k' (hub hc) with h1 | h1
   ·omega
   ·exact h1
 ·intro c k' hu
  simp only [ASt.setb_bx] at hu
  by_cases e:c=l
  ·subst e
   simp only [if_true,Box.uses,Ren.set_same] at hu
   obtain ⟨c',hc',hc0⟩:=hu
   simp only [Option.some.injEq,Prod.mk.injEq] at hc'
   obtain ⟨rfl,rfl⟩:=hc'
   exact h.own b kk (hub hc0)
  ·rw [if_neg e,Ren.set_other e] at hu
   by_cases e2:c=b
   ·rw [if_pos e2] at hu; exact hu.elim
   ·rw [if_neg e2] at hu; exact h.own c k' hu
 ·intro c hc
  rw [Ren.set_other (by omega)]
  exact h.keepρ c hc
theorem src_list {v:Value} {sz:Nat} {es:List (List Cell)} (h:Src I w v sz es) (h0:0<sz):∃ (b:Option Addr) (cap:Nat) (us:List Value),v = .slice b es.length cap/\us.length=es.length*sz /\
    (∀ ad,b=some ad->∀ (j:Nat) (u:Value),us[j]? = some u->w.cell? (ad.add j)=some u)/\(b=none->es=[])/\DC I us sz es:=by
  obtain ⟨b,cap,hv,_,hsz,hb,hc⟩:=h
  cases b with
  | none =>
    have:es=[]:=by
      cases es with
      | nil=>rfl
      | cons e r=>exact absurd rfl (hb (by simp))
    subst this
    exact ⟨none,cap,[],hv,by simp,(fun ad h=>by cases h),(fun _=>rfl),⟨by simp,by simp⟩⟩
  | some ad =>
    have key:∀ j,j<es.length*sz->∃ u,w.cell? (ad.add j)=some u/\∃ c,(es.getD (j/sz) [])[j%sz]? = some c/\Rd I u c:=by
      intro j hj
      have hi:j/sz<es.length:=by rw [Nat.div_lt_iff_lt_mul h0]; exact hj
      have hl:(es.getD (j/sz) []).length=sz:=hsz _ (by simp [List.getD,List.getElem?_eq_getElem hi])
      have hm:j%sz<sz:=Nat.mod_lt _ h0
      obtain ⟨u,hu,hr⟩:=hc ad rfl (j/sz) (j%sz) _ (List.getElem?_eq_getElem (by omega))
      have e:j/sz*sz+j%sz=j:=by rw [Nat.mul_comm]; exact Nat.div_add_mod j sz
      rw [e] at hu
      exact ⟨u,hu,_,List.getElem?_eq_getElem (by omega),hr⟩
    refine ⟨some ad,cap,(List.range (es.length*sz)).map fun j=>(w.cell? (ad.add j)).getD undef,hv,by simp,?_,by simp,?_⟩
    · intro ad' had j u hu
      simp at had
      subst had
      rw [List.getElem?_map] at hu
      by_cases hj:j<es.length*sz
      · rw [List.getElem?_range hj] at hu
        obtain ⟨u',hu',_⟩:=key j hj
        simp [hu'] at hu
        rw [<- hu]; exact hu'
      · rw [List.getElem?_eq_none (by simpa using hj)] at hu; cases hu
    · refine ⟨fun j u hu => ?_,fun i j c hcc => ?_⟩
      · rw [List.getElem?_map] at hu
        by_cases hj:j<es.length*sz
        · rw [List.getElem?_range hj] at hu
          obtain ⟨u',hu',c,_,hr⟩:=key j hj
          simp [hu'] at hu
          rw [<- hu]; exact hr.one
        · rw [List.getElem?_eq_none (by simpa using hj)] at hu; cases hu
      · have hi:=getD_nil_some hcc
        have hl:(es.getD i []).length=sz:=hsz _ (by simp [List.getD,List.getElem?_eq_getElem hi])
        have hj:j<sz:=by rw [<- hl]; exact (List.getElem?_eq_some_iff.1 hcc).1
        obtain ⟨u,hu,hr⟩:=hc ad rfl i j c hcc
        have hlt:i*sz+j<es.length*sz:=by
          have:(i+1)*sz<=es.length*sz:=Nat.mul_le_mul_right _ hi
          rw [Nat.add_mul] at this
          omega
        exact ⟨u,by rw [List.getElem?_map,List.getElem?_range hlt]; simp [hu],hr⟩
theorem DC.append {us vs:List Value} {sz:Nat} {es ys:List (List Cell)} (h:DC I us sz es) (k:DC I vs sz ys) (hl:us.length=es.length*sz):DC I (us++vs) sz (es++ys):=by
 refine ⟨fun j u hu => ?_,fun i j c hc => ?_⟩
 ·by_cases hj:j<us.length
  ·rw [List.getElem?_append_left hj] at hu; exact h.one j u hu
  ·rw [List.getElem?_append_right (by omega)] at hu; exact k.one _ u hu
 ·by_cases hi:i<es.length
  ·have e:(es++ys).getD i []=es.getD i []:=by simp [List.getD,List.getElem?_append_left hi]
   rw [e] at hc
   obtain ⟨u,hu,hr⟩:=h.rd i j c hc
   exact ⟨u,by rw [List.getElem?_append_left (List.getElem?_eq_some_iff.1 hu).1]; exact hu,hr⟩
  ·have e:(es++ys).getD i []=ys.getD (i-es.length) []:=by simp [List.getD,List.getElem?_append_right (Nat.le_of_not_lt hi)]
   rw [e] at hc
   obtain ⟨u,hu,hr⟩:=k.rd _ j c hc
   have hmul:es.length*sz<=i*sz:=Nat.mul_le_mul_right _ (by omega)
   have hsub:(i-es.length)*sz=i*sz-es.length*sz:=Nat.sub_mul _ _ _
   exact ⟨u,by rw [List.getElem?_append_right (by omega),hl,<- hu]; congr 1; omega,hr⟩
theorem DC.more {us vs:List Value} {sz:Nat} {es:List (List Cell)} (h:DC I us sz es) (hv:∀ (j:Nat) (u:Value),vs[j]? = some u->u.oneCell'=true):DC I (us++vs) sz es:=by
 refine ⟨fun j u hu => ?_,fun i j c hc => ?_⟩
 ·by_cases hj:j<us.length
  ·rw [List.getElem?_append_left hj] at hu; exact h.one j u hu
  ·rw [List.getElem?_append_right (by omega)] at hu; exact hv _ u hu
 ·obtain ⟨u,hu,hr⟩:=h.rd i j c hc
  exact ⟨u,by rw [List.getElem?_append_left (List.getElem?_eq_some_iff.1 hu).1]; exact hu,hr⟩
theorem DC.toArr {us:List Value} {sz:Nat} {es:List (List Cell)} {cs:Array Value} (h:DC I us sz es) (e:cs.toList=us) :
  (∀ (j:Nat) (u:Value),cs[j]? = some u->u.oneCell'=true)/\∀ (i j:Nat) (c:Cell),(es.getD i [])[j]? = some c->∃ u,cs[i*sz+j]? = some u/\Rd I u c:=by
 subst e
 exact ⟨fun j u hu=>h.one j u (by simpa using hu),fun i j c hc=>by obtain ⟨u,hu,hr⟩:=h.rd i j c hc; exact ⟨u,by simpa using hu,hr⟩⟩
def chkAppend (P:Program) (n:Nat) (op:Op) (sz bytes:Nat) (s x:Opd):Bool :=
  match op with
  | .call { callee := .builtin .append,args:=⟨[s',x']⟩,argTypes:=⟨[t,t']⟩ } => chkOpd n s' s&&chkOpd n x' x&&t==t'&&decide (0<sz)&&(match P.underlying t with
    | some (.slice e)=>(match P.info? e with | some i=>i.size==sz&&i.bytes==bytes&&(match i.zero with | some z=>z.cells.size==sz&&z.cells.toList.all (·.oneCell') | none=>false) | none=>false)
    | _=>false)
  | _=>false
theorem run_append_room' (t ty e tg:TypeId) (i:TypeInfo) (ht:P.underlying t=some (.slice e)) (hi:P.info? e=some i)
  (g sLen sCap:Nat) (cur:Array Value) (hg:w.heap[g]? = some (.cells cur tg (0,0)))
  (ad:Addr) (m c:Nat) (news:List Value) (hl:news.length=m*i.size) (hnews:∀ j u,news[j]? = some u->w.cell? (ad.add j)=some u) (h1:∀ u∈news,u.oneCell'=true)
  (hroom:sLen+m<=sCap) (hfit:sLen*i.size+news.length<=cur.size) :
  (Builtin.append_ #[t,t] ty #[.slice (some ⟨g,0,none⟩) sLen sCap,.slice (some ad) m c]).run P w =
   .ok (.slice (some ⟨g,0,none⟩) (sLen+m) sCap) (w.setRow g (cur.toList.take (sLen*i.size)++news++cur.toList.drop (sLen*i.size+news.length)).toArray):=by
 have hf:=run_firstCells_some (P:=P) w i.size m ad m c news hl hnews
 have hst:=run_storeCells_at P g (sLen*i.size) tg news 0 cur w hg (by simpa using hfit) h1
 simp only [Nat.add_zero] at hst
 simp [Builtin.append_,run_underlying ht,sizeOf,typeInfo,hi,Builtin.lenOf,hroom,hf,Go.Addr.add_lit,hst]
theorem run_append_zero (t ty e:TypeId) (i:TypeInfo) (ht:P.underlying t=some (.slice e)) (hi:P.info? e=some i) (b:Option Addr) (sLen sCap:Nat) (hs:sLen<=sCap) (ad:Option Addr) (c:Nat) :
  (Builtin.append_ #[t,t] ty #[.slice b sLen sCap,.slice ad 0 c]).run P w = .ok (.slice b sLen sCap) w:=by
 have hf:(Builtin.firstCells i.size 0 (.slice ad 0 c)).run P w = .ok #[] w:=by
  cases ad<;>simp [Builtin.firstCells,loadCells,loadCellsFrom,Sem.run_pure]
 cases b<;>simp [Builtin.append_,run_underlying ht,sizeOf,typeInfo,hi,Builtin.lenOf,hs,hf,storeCells]
theorem append_core (h:GX E I ρ n st a w) {l sz bytes:Nat} {sv xv:Value} {es ys:List (List Cell)} {b:Option Nat} (t ty e:TypeId) (i:TypeInfo) (z:Value) (ht:P.underlying t=some (.slice e)) (hi:P.info? e=some i) (hsz:i.size=sz)
    (hby:i.bytes=bytes) (hz:i.zero=some z) (hzs:z.cells.size=sz) (hz1:z.cells.toList.all (·.oneCell')=true) (h0:0<sz) (hl:st.bx l = .absent) (hm:E.m<=l)
    (hb:(b=none/\es=[]/\sv = .slice none 0 0)\/∃ b',b=some b'/\st.bx b' = .dat sz es/\GC I ρ sv (.own b' es.length sz)) (hx:Src I w xv sz ys) (hbig:(es.length+ys.length)*(bytes+sz+1)<=2^46) :
    ∃ v w' ρ',(Builtin.append_ #[t,t] ty #[sv,xv]).run P w = .ok v w'/\GX E I ρ' n ((match b with | some b'=>st.setb b' .dead | none=>st).setb l (.dat sz (es++ys))) a w'/\GC I ρ' v (.own l (es.length+ys.length) sz):=by
  subst hsz; subst hby
  have hmul:(es.length+ys.length)*(i.bytes+i.size+1)=(es.length+ys.length)*i.bytes+(es.length+ys.length)*i.size+(es.length+ys.length):=by rw [Nat.mul_add,Nat.mul_add,Nat.mul_one]
  have hbytes:(es.length+ys.length)*i.bytes<=140737488355328:=by omega
  have h63:es.length+ys.length<=maxLen:=by simp only [maxLen]; omega
  obtain ⟨xb,xc,us,hxv,husl,hus,hxn,hdx⟩:=src_list hx h0
  have hys:∀ y,y∈ys->y.length=i.size:=by obtain ⟨_,_,_,_,h4,_⟩:=hx; exact h4
  have hone:∀ u∈us,u.oneCell'=true:=fun u hu=>by obtain ⟨j,hj⟩:=List.getElem?_of_mem hu; exact hdx.one j u hj
  have hzc:∀ (q:Nat) (j:Nat) (u:Value),(Builtin.zeroCells z.cells q).toList[j]? = some u->u.oneCell'=true:=by
    intro q j u hu
    simp only [Builtin.zeroCells,Array.getElem?_toList,Array.getElem?_map] at hu
    by_cases hj:j<q*z.cells.size
    · rw [Array.getElem?_range,if_pos hj] at hu
      simp only [Option.map_some,Option.some.injEq] at hu
      have hlt:j%z.cells.size<z.cells.size:=Nat.mod_lt _ (by omega)
      rw [getElem!_pos z.cells _ hlt] at hu
      rw [<- hu]
      exact List.all_eq_true.1 hz1 _ (by simp)
    · rw [Array.getElem?_range,if_neg hj] at hu; cases hu
  have fresh:∀ (st':ASt) (old:Nat) (olds:List Value),GX E I ρ n st' a w->st'.bx l = .absent->old<es.length+ys.length->olds.length=es.length*i.size->DC I olds i.size es->(∀ y,y∈es->y.length=i.size) ->
      GX E I (ρ.set l w.heap.size (grownCap w (es.length+ys.length) old e)) n (st'.setb l (.dat i.size (es++ys))) a
        (w.drew.alloc (.cells (olds.toArray++us.toArray++Builtin.zeroCells z.cells (grownCap w (es.length+ys.length) old e-(es.length+ys.length))) e)):=by
    intro st' old olds hst hl' ho hol hdo hes
    have hge:=grownCap_ge w (es.length+ys.length) old e
    have hcm:grownCap w (es.length+ys.length) old e<=maxLen:=grownCap_le_maxLen w _ old e h63
    have hdc:=((hdo.append hdx hol).more (hzc (grownCap w (es.length+ys.length) old e-(es.length+ys.length)))).toArr (cs:=olds.toArray++us.toArray++Builtin.zeroCells z.cells (grownCap w (es.length+ys.length) old e-(es.length+ys.length))) (by simp)
    refine new_dat hst.drew hl' hm _ e _ i.size (es++ys) ?_ (by simpa using hge) hcm (fun x hx => ?_) hdc.1 hdc.2
    · simp only [Array.size_append,List.size_toArray,size_zeroCells,hzs,hol,husl,<- Nat.add_mul]
      congr 1
      omega
    · rcases List.mem_append.1 hx with h1 | h1
      · exact hes x h1
      · exact hys x h1
  rcases hb with ⟨rfl,rfl,rfl⟩ | ⟨b',rfl,hb',hg⟩
  ·
    simp only [List.length_nil,Nat.zero_add,List.nil_append] at *
    by_cases hm0:ys.length=0
    · have hy0:ys=[]:=List.eq_nil_of_length_eq_zero hm0
      subst hy0
      refine ⟨.slice none 0 0,w,ρ.set l 0 0,?_,?_,0,0,none,0,Ren.set_same _ _ _ _,rfl,Nat.le_refl _,Nat.le_refl _,fun h=>absurd rfl h⟩
      · rw [hxv]; exact run_append_zero t ty e i ht hi none 0 0 (Nat.le_refl _) xb xc
      · have hrl:ρ l=none:=by have:=h.bx.ok l; rwa [hl] at this
        have hle:=Ren.le_set (ρ:=ρ) (k:=0) (cap:=0) hrl
        refine { agree:=h.agree,bx := ?_,tm:=fun t ht=>(h.tm t ht).mono (IH.le_refl _) hle,size:=h.size,defers:=h.defers,frm:=h.frm,own := ?_,ile:=h.ile,inew:=h.inew,keepρ:=fun c hc=>by rw [Ren.set_other (by omega)]; exact h.keepρ c hc }
        · refine BX.step (fun c=>c=l) h.bx (IH.le_refl I) hle (fun c hc=>⟨by simp [ASt.setb_bx,hc],Ren.set_other hc⟩) (fun c k _ _=>rfl) ?_ ?_ ?_ (fun c k _ hu=>h.bx.fresh c k hu)
          · rintro c rfl
            simp only [ASt.setb_bx,if_true]
            exact ⟨0,0,Ren.set_same _ _ _ _,by simp,by simp [maxLen],by simp,fun h=>absurd rfl h⟩
          · rintro c k rfl hu
            simp only [ASt.setb_bx,if_true,Box.uses,Ren.set_same] at hu
            obtain ⟨c',hc',hc0⟩:=hu
            simp only [Option.some.injEq,Prod.mk.injEq] at hc'
            exact absurd hc'.2.symm hc0
          · rintro c c' k rfl rfl _ _; rfl
        · intro c k hu
          simp only [ASt.setb_bx] at hu
          by_cases e':c=l
          · subst e'
            simp only [if_true,Box.uses,Ren.set_same] at hu
            obtain ⟨c',hc',hc0⟩:=hu
            simp only [Option.some.injEq,Prod.mk.injEq] at hc'
            exact absurd hc'.2.symm hc0
          · rw [if_neg e',Ren.set_other e'] at hu; exact h.own c k hu
    · obtain ⟨ad,had⟩:∃ ad,xb=some ad:=by
        cases hq:xb with
        | none=>exact absurd (by rw [hxn hq]; rfl) hm0
        | some ad=>exact ⟨ad,rfl⟩
      subst had
      have hr:=run_append_nil (P:=P) w t ty e i z ht hi hz ad ys.length xc us husl (hus ad rfl) (by omega) (by simp only [maxLen] at h63; omega) (by omega)
      rw [<- hxv] at hr
      have hf:=fresh st 0 [] h hl (by omega) (by simp) ⟨by simp,by simp⟩ (by simp)
      simp only [Array.empty_append] at hf
      exact ⟨_,_,_,hr,hf,w.heap.size,_,_,_,Ren.set_same _ _ _ _,rfl,grownCap_ge w ys.length 0 e,Nat.le_refl _,fun _=>rfl⟩
  · obtain ⟨kk,cap,ad0,c,hr0,hsv,hnc,hcc,hcap⟩:=hg
    have hbl:b' ≠ l:=by rintro rfl; rw [hl] at hb'; cases hb'
    have hok:=h.bx.ok b'
    rw [hb'] at hok
    obtain ⟨kk',cap',hr',hle,hcm,hes,hcs⟩:=hok
    rw [hr0] at hr'
    simp only [Option.some.injEq,Prod.mk.injEq] at hr'
    obtain ⟨rfl,rfl⟩:=hr'
    simp only
    by_cases hm0:ys.length=0
    · have hy0:ys=[]:=List.eq_nil_of_length_eq_zero hm0
      subst hy0
      simp only [List.length_nil,Nat.add_zero,List.append_nil] at *
      refine ⟨sv,w,ρ.set l kk cap,?_,?_,kk,cap,ad0,c,Ren.set_same _ _ _ _,hsv,hnc,hcc,hcap⟩
      · rw [hxv,hsv]; exact run_append_zero t ty e i ht hi ad0 _ c hnc xb xc
      · refine h.move hb' hr0 hl hm (Frm.refl _ _) rfl (fun _=>rfl) ⟨kk,cap,Ren.set_same _ _ _ _,hle,hcm,hes,hcs⟩
    · obtain ⟨ad,had⟩:∃ ad,xb=some ad:=by
        cases hq:xb with
        | none=>exact absurd (by rw [hxn hq]; rfl) hm0
        | some ad=>exact ⟨ad,rfl⟩
      subst had
      by_cases hroom:es.length+ys.length<=c
      · have hc0:cap ≠ 0:=by omega
        have had0:=hcap hc0
        subst had0
        obtain ⟨cs,tg,hw,hs,ho,hrd⟩:=hcs hc0
        have hfit:es.length*i.size+us.length<=cs.size:=by rw [hs,husl,<- Nat.add_mul]; exact Nat.mul_le_mul_right _ (by omega)
        have hr:=run_append_room' (P:=P) (w:=w) (ty:=ty) t e tg i ht hi kk es.length c cs hw ad ys.length xc us husl (hus ad rfl) hone hroom hfit
        rw [<- hxv,<- hsv] at hr
        refine ⟨_,_,ρ.set l kk cap,hr,?_,kk,cap,_,c,Ren.set_same _ _ _ _,rfl,hroom,hcc,fun _=>rfl⟩
        refine h.move hb' hr0 hl hm (setRow_frm _ _ _) (by simp) (fun h=>absurd h hc0) ⟨kk,cap,Ren.set_same _ _ _ _,by simp; omega,hcm,fun x hx => ?_,fun _=>⟨_,tg,setRow_heap w kk cs _ tg _ hw,?_,?_⟩⟩
        · rcases List.mem_append.1 hx with h1 | h1
          · exact hes x h1
          · exact hys x h1
        · simp only [List.size_toArray,List.length_append,List.length_take,List.length_drop,Array.length_toList]
          omega
        · have hd1:DC I (cs.toList.take (es.length*i.size)) i.size es:=by
            refine ⟨fun j u hu => ?_,fun i' j c' hc' => ?_⟩
            · rw [List.getElem?_take] at hu
              split at hu
              · exact ho j u (by simpa using hu)
              · cases hu
            · obtain ⟨u,hu,hr⟩:=hrd i' j c' hc'
              have hi':=getD_nil_some hc'
              have hj:j<i.size:=by rw [<- hes (es.getD i' []) (by simp [List.getD,List.getElem?_eq_getElem hi'])]; exact (List.getElem?_eq_some_iff.1 hc').1
              have:(i'+1)*i.size<=es.length*i.size:=Nat.mul_le_mul_right _ hi'
              rw [Nat.add_mul] at this
              exact ⟨u,by rw [List.getElem?_take,if_pos (by omega)]; simpa using hu,hr⟩
          have hlen:(cs.toList.take (es.length*i.size)).length=es.length*i.size:=by simp; omega
          have:=((hd1.append hdx hlen).more (vs:=cs.toList.drop (es.length*i.size+us.length)) (fun j u hu=>by rw [List.getElem?_drop] at hu; exact ho _ u (by simpa using hu))).toArr (cs:=(cs.toList.take (es.length*i.size)++us++cs.toList.drop (es.length*i.size+us.length)).toArray) (by simp)
          exact this
      ·
        have hfit:=growslice_fits (need:=es.length+ys.length) (old:=c) (bytes:=i.bytes) (by omega) hbytes
        have hk:=h.kill b'
        have hkl:(st.setb b' .dead).bx l = .absent:=by rw [ASt.setb_bx,if_neg (fun e=>hbl e.symm)]; exact hl
        by_cases hc0:cap=0
        ·
          have he0:es=[]:=List.eq_nil_of_length_eq_zero (by omega)
          subst he0
          have hcz:c=0:=by omega
          subst hcz
          simp only [List.length_nil,Nat.zero_add,List.nil_append] at *
          have hf:=fresh (st.setb b' .dead) 0 [] hk hkl (by omega) (by simp) ⟨by simp,by simp⟩ (by simp)
          simp only [Array.empty_append] at hf
          cases ad0 with
          | none =>
            have hr:=run_append_nil (P:=P) w t ty e i z ht hi hz ad ys.length xc us husl (hus ad rfl) (by omega) (by simp only [maxLen] at h63; omega) (by omega)
            rw [<- hxv,<- hsv] at hr
            exact ⟨_,_,_,hr,hf,w.heap.size,_,_,_,Ren.set_same _ _ _ _,rfl,grownCap_ge w ys.length 0 e,Nat.le_refl _,fun _=>rfl⟩
          | some q =>
            have hr:=run_append_grow (P:=P) w t ty e i z ht hi hz q 0 0 [] (by simp) (by simp) ad ys.length xc us husl (hus ad rfl) (by omega) (by simp only [maxLen] at h63; omega) (by simpa using hfit)
            rw [<- hxv,<- hsv] at hr
            simp only [Nat.zero_add,Array.empty_append] at hr
            exact ⟨_,_,_,hr,hf,w.heap.size,_,_,_,Ren.set_same _ _ _ _,rfl,grownCap_ge w ys.length 0 e,Nat.le_refl _,fun _=>rfl⟩
        · have had0:=hcap hc0
          subst had0
          obtain ⟨cs,tg,hw,hs,ho,hrd⟩:=hcs hc0
          have hmn:es.length*i.size<=cs.size:=by rw [hs]; exact Nat.mul_le_mul_right _ hle
          have holen:(cs.toList.take (es.length*i.size)).length=es.length*i.size:=by simp; omega
          have holds:∀ (j:Nat) (u:Value),(cs.toList.take (es.length*i.size))[j]? = some u->w.cell? ((⟨kk,0,none⟩:Addr).add j)=some u:=fun j u hu=>by
            rw [List.getElem?_take] at hu
            split at hu
            · rw [Addr.add_mk]; simp at hu; simp [World.cell?,hw,hu]
            · cases hu
          have hd1:DC I (cs.toList.take (es.length*i.size)) i.size es:=by
            refine ⟨fun j u hu => ?_,fun i' j c' hc' => ?_⟩
            · rw [List.getElem?_take] at hu
              split at hu
              · exact ho j u (by simpa using hu)
              · cases hu
            · obtain ⟨u,hu,hr⟩:=hrd i' j c' hc'
              have hi':=getD_nil_some hc'
              have hj:j<i.size:=by rw [<- hes (es.getD i' []) (by simp [List.getD,List.getElem?_eq_getElem hi'])]; exact (List.getElem?_eq_some_iff.1 hc').1
              have:(i'+1)*i.size<=es.length*i.size:=Nat.mul_le_mul_right _ hi'
              rw [Nat.add_mul] at this
              exact ⟨u,by rw [List.getElem?_take,if_pos (by omega)]; simpa using hu,hr⟩
          have hr:=run_append_grow (P:=P) w t ty e i z ht hi hz ⟨kk,0,none⟩ es.length c _ holen holds ad ys.length xc us husl (hus ad rfl) (by omega) (by simp only [maxLen] at h63; omega) hfit
          rw [<- hxv,<- hsv] at hr
          have hf:=fresh (st.setb b' .dead) c _ hk hkl (by omega) holen hd1 hes
          exact ⟨_,_,_,hr,hf,w.heap.size,_,_,_,Ren.set_same _ _ _ _,rfl,grownCap_ge w _ c e,Nat.le_refl _,fun _=>rfl⟩
end
end Go.Ab
end
section
namespace Go.Ab
open Go
section
variable {P:Program} {E:Env P} {I:IH} {ρ:Ren} {n:Nat} {st:ASt} {a:Act} {w:World}
def appendV (l sz bytes:Nat) (s x:AV) (bx:Nat->Box):FR:=match srcOf sz x bx with
    | some (p,ys)=>match s with
      | .one (.nsl _)=>⟨p/\(match bx l with | .absent=>True | _=>False)/\ys.length*(bytes+sz+1)<=2^46,.one (.own l ys.length sz),[(l,.dat sz ys)]⟩
      | .one (.own b n sz')=>match bx b with
        | .dat sz'' es=>⟨p/\(match bx l with | .absent=>True | _=>False)/\sz'=sz/\sz''=sz/\n<=es.length/\(n+ys.length)*(bytes+sz+1)<=2^46/\b ≠ l,
            .one (.own l (n+ys.length) sz),[(b,.dead),(l,.dat sz (es.take n++ys))]⟩
        | _ => .bad
      | _ => .bad
    | none => .bad
theorem absent_of {x:Box} (h:match x with | .absent=>True | _=>False):x = .absent:=by cases x<;>first | rfl | exact h.elim
theorem GX.pfx (h:GX E I ρ n st a w) {b sz m:Nat} {es:List (List Cell)} (hb:st.bx b = .dat sz es):GX E I ρ n (st.setb b (.dat sz (es.take m))) a w:=by
 have hu:∀ c k,((st.setb b (.dat sz (es.take m))).bx c).uses (ρ c) k->(st.bx c).uses (ρ c) k:=fun c k hu=>by
  rw [ASt.setb_bx] at hu
  split at hu
  ·rename_i e; subst e; rw [hb]; exact hu
  ·exact hu
 refine { h with bx:=⟨fun c => ?_,fun c c' k hc hc'=>h.bx.inj c c' k (hu c k hc) (hu c' k hc'),fun c k hc=>h.bx.fresh c k (hu c k hc)⟩,own:=fun c k hc=>h.own c k (hu c k hc),agree:=h.agree,tm:=h.tm,size:=h.size,defers:=h.defers,frm:=h.frm }
 rw [ASt.setb_bx]
 split
 ·rename_i e
  subst e
  have hok:=h.bx.ok c
  rw [hb] at hok
  obtain ⟨k,cap,hr,h1,h2,h3,h4⟩:=hok
  refine ⟨k,cap,hr,by simp; omega,h2,fun e he=>h3 e (List.mem_of_mem_take he),fun h0 => ?_⟩
  obtain ⟨cs,e,g1,g2,g3,g4⟩:=h4 h0
  refine ⟨cs,e,g1,g2,g3,fun i j c' hc'=>g4 i j c' ?_⟩
  have hi:=getD_nil_some hc'
  simp at hi
  rw [<- hc']
  congr 1
  simp only [List.getD]
  rw [List.getElem?_take,if_pos (by omega)]
 ·exact h.bx.ok c
theorem append_runs {o:Oper} {l sz bytes:Nat} {s x:Opd} (h:GX E I ρ n st a w) (hc:chkAppend P n o.op sz bytes s x=true) (hm:E.m<=l) (hs:(s.ev st.tm).g=true) (hx:(x.ev st.tm).g=true)
  (hvc:(appendV l sz bytes (avOf st.tm s) (avOf st.tm x) st.bx).vc):Runs P E n o a w (st.setbs (appendV l sz bytes (avOf st.tm s) (avOf st.tm x) st.bx).sets) (appendV l sz bytes (avOf st.tm s) (avOf st.tm x) st.bx).v:=by
 unfold chkAppend at hc
 split at hc
 ·rename_i s' x' t t' he
  simp only [Bool.and_eq_true,beq_iff_eq,decide_eq_true_eq] at hc
  obtain ⟨⟨⟨⟨c1,c2⟩,rfl⟩,h0⟩,ht⟩:=hc
  have g1:=opd_v h c1 hs
  have g2:=opd_v h c2 hx
  split at ht
  ·rename_i e hte
   split at ht
   ·rename_i i hi
    simp only [Bool.and_eq_true,beq_iff_eq] at ht
    obtain ⟨⟨rfl,rfl⟩,hz⟩:=ht
    split at hz
    ·rename_i z hzero
     simp only [Bool.and_eq_true,beq_iff_eq] at hz
     obtain ⟨hzs,hz1⟩:=hz
     have fin:∀ {v:Value} {w':World},(Builtin.append_ #[t,t] o.type #[a.eval s',a.eval x']).run P w = .ok v w'->(execOp a.eval o).run P w = .ok (.value v) w':=by
      intro v w' hr
      simp only [execOp,he,resolve,invoke,builtin,Sem.run_bind,Sem.run_pure,Result.andThen_ok,List.map_toArray,List.map_cons,List.map_nil,hr]
     unfold appendV at hvc ⊢
     split at hvc
     ·rename_i p ys hsrc
      split at hvc
      ·rename_i sz' e1
       obtain ⟨hp,hl,hbig⟩:=hvc
       rw [e1] at g1
       obtain ⟨v,w',ρ',hr,hg,hv⟩:=append_core (P:=P) h (l:=l) (es:=[]) (ys:=ys) (b:=none) t o.type e i z hte hi rfl rfl hzero hzs hz1 h0 (absent_of hl) hm (.inl ⟨rfl,rfl,g1⟩) (src_ok h g2 hsrc hp) (by simpa using hbig)
       simp only [List.nil_append,List.length_nil,Nat.zero_add] at hg hv
       exact ⟨v,w',I,ρ',.inl (fin hr),hg,fun _=>hv⟩
      ·rename_i b m sz' e1
       rw [e1] at g1
       split at hvc
       ·rename_i sz'' es hb
        obtain ⟨hp,hl,rfl,rfl,hmn,hbig,hbl⟩:=hvc
        have hlt:(es.take m).length=m:=by simp; omega
        have h':=h.pfx (m:=m) hb
        have hl':(st.setb b (.dat i.size (es.take m))).bx l = .absent:=by rw [ASt.setb_bx,if_neg (fun e=>hbl e.symm)]; exact absent_of hl
        obtain ⟨v,w',ρ',hr,hg,hv⟩:=append_core (P:=P) h' (l:=l) (es:=es.take m) (ys:=ys) (b:=some b) t o.type e i z hte hi rfl rfl hzero hzs hz1 h0 hl' hm (.inr ⟨b,rfl,by rw [ASt.setb_bx,if_pos rfl],by rw [hlt]; exact g1⟩) (src_ok h g2 hsrc hp) (by rw [hlt]; exact hbig)
        rw [hlt] at hv
        have hst:(((st.setb b (.dat i.size (es.take m))).setb b .dead).setb l (.dat i.size (es.take m++ys)))=((st.setb b .dead).setb l (.dat i.size (es.take m++ys))):=by
         apply ASt.ext'
         ·rfl
         ·funext c; simp only [ASt.setb_bx]; split
          ·rfl
          ·split<;>rfl
        simp only [hst] at hg
        exact ⟨v,w',I,ρ',.inl (fin hr),hg,fun _=>hv⟩
       ·exact hvc.elim
      ·exact hvc.elim
     ·exact hvc.elim
    ·cases hz
   ·cases ht
  ·cases ht
 ·cases hc
def copyV (sz:Nat) (d x:AV) (bx:Nat->Box):FR:=match srcOf sz x bx with
    | some (p,ys)=>match d with
      | .one (.own b n sz')=>match bx b with
        | .dat sz'' es=>⟨p/\sz'=sz/\sz''=sz/\n<=es.length,vInt .i64 (Nat.min ys.length n:Nat),[(b,.dat sz (splice es 0 (ys.take n)))]⟩
        | _ => .bad
      | .one (.nsl _) => .ok (vInt .i64 0)
      | _ => .bad
    | none => .bad
def chkCopy (P:Program) (n:Nat) (op:Op) (sz:Nat) (d x:Opd):Bool :=
 match op with
 | .call { callee := .builtin .copy,args:=⟨[d',x']⟩,argTypes:=⟨[t,_]⟩ } => chkOpd n d' d&&chkOpd n x' x&&elemOK P t sz&&decide (0<sz)
 | _=>false
theorem run_copy (t t' ty e:TypeId) (i:TypeInfo) (ht:P.underlying t=some (.slice e)) (hi:P.info? e=some i) (kk m c:Nat) (cur:Array Value) (tg:TypeId) (hg:w.heap[kk]? = some (.cells cur tg (0,0)))
  (ad:Addr) (k c':Nat) (us:List Value) (hl:us.length=Nat.min k m*i.size) (hus:∀ j u,us[j]? = some u->w.cell? (ad.add j)=some u) (h1:∀ u∈us,u.oneCell'=true) (hfit:us.length<=cur.size) :
  (Builtin.copy_ #[t,t'] ty #[.slice (some ⟨kk,0,none⟩) m c,.slice (some ad) k c']).run P w = .ok (goInt (Nat.min k m:Nat)) (w.setRow kk (splice cur.toList 0 us).toArray):=by
 have hf:=run_firstCells_some (P:=P) w i.size (Nat.min k m) ad k c' us hl hus
 have hst:=run_storeCells_at P kk 0 tg us 0 cur w hg (by simpa using hfit) h1
 rw [toList_take_drop] at hst
 simp [Builtin.copy_,run_underlying ht,sizeOf,typeInfo,hi,Builtin.lenOf,hf,hst]
theorem run_copy_zero (t t' ty e:TypeId) (i:TypeInfo) (ht:P.underlying t=some (.slice e)) (hi:P.info? e=some i) (b:Option Addr) (m c:Nat) (ad:Option Addr) (k c':Nat) (h:Nat.min k m=0) :
  (Builtin.copy_ #[t,t'] ty #[.slice b m c,.slice ad k c']).run P w = .ok (goInt 0) w:=by
 have hf:(Builtin.firstCells i.size 0 (.slice ad k c')).run P w = .ok #[] w:=by
  cases ad<;>simp [Builtin.firstCells,loadCells,loadCellsFrom,Sem.run_pure]
 cases b<;>simp [Builtin.copy_,run_underlying ht,sizeOf,typeInfo,hi,Builtin.lenOf,h,hf,storeCells]
theorem splice_nil {α:Type} (xs:List α):splice xs 0 []=xs:=by simp [splice]
theorem setb_self {b:Nat} {x:Box} (h:st.bx b=x):st.setb b x=st:=by
 apply ASt.ext'
 ·rfl
 ·funext c; rw [ASt.setb_bx]; split
  ·rename_i e; rw [e,h]
  ·rfl
theorem copy_runs {o:Oper} {sz:Nat} {d x:Opd} (h:GX E I ρ n st a w) (hc:chkCopy P n o.op sz d x=true) (hd:(d.ev st.tm).g=true) (hx:(x.ev st.tm).g=true)
  (hvc:(copyV sz (avOf st.tm d) (avOf st.tm x) st.bx).vc):Runs P E n o a w (st.setbs (copyV sz (avOf st.tm d) (avOf st.tm x) st.bx).sets) (copyV sz (avOf st.tm d) (avOf st.tm x) st.bx).v:=by
 unfold chkCopy at hc
 split at hc
 ·rename_i d' x' t t' he
  simp only [Bool.and_eq_true,decide_eq_true_eq] at hc
  obtain ⟨⟨⟨c1,c2⟩,ht⟩,h0⟩:=hc
  have g1:=opd_v h c1 hd
  have g2:=opd_v h c2 hx
  obtain ⟨e,i,hte,hi,rfl⟩:=elemOK_spec ht
  have fin:∀ {v:Value} {w':World},(Builtin.copy_ #[t,t'] o.type #[a.eval d',a.eval x']).run P w = .ok v w'->(execOp a.eval o).run P w = .ok (.value v) w':=by
   intro v w' hr
   simp only [execOp,he,resolve,invoke,builtin,Sem.run_bind,Sem.run_pure,Result.andThen_ok,List.map_toArray,List.map_cons,List.map_nil,hr]
  unfold copyV at hvc ⊢
  split at hvc
  ·rename_i p ys hsrc
   split at hvc
   ·rename_i b m sz' e1
    rw [e1] at g1
    split at hvc
    ·rename_i sz'' es hb
     obtain ⟨hp,rfl,rfl,hmn⟩:=hvc
     have hsrc':=src_ok h g2 hsrc hp
     have hys:∀ y,y∈ys->y.length=i.size:=by obtain ⟨_,_,_,_,h4,_⟩:=hsrc'; exact h4
     obtain ⟨xb,xc,us,hxv,husl,hus,hxn,hdx⟩:=src_list hsrc' h0
     obtain ⟨kk,cap,ad0,c,hr0,hsv,hnc,hcc,hcap⟩:=g1
     have hok:=h.bx.ok b
     rw [hb] at hok
     obtain ⟨kk',cap',hr',hle,hcm,hes,hcs⟩:=hok
     rw [hr0] at hr'
     simp only [Option.some.injEq,Prod.mk.injEq] at hr'
     obtain ⟨rfl,rfl⟩:=hr'
     by_cases hm0:Nat.min ys.length m=0
     ·have hr:=run_copy_zero (P:=P) (w:=w) t t' o.type e i hte hi ad0 m c xb ys.length xc hm0
      rw [<- hxv,<- hsv] at hr
      have htk:ys.take m=[]:=by
       apply List.eq_nil_of_length_eq_zero
       rw [List.length_take,Nat.min_comm]; exact hm0
      rw [htk,splice_nil]
      refine ⟨_,w,I,ρ,.inl (fin hr),?_,fun _=>by rw [hm0]; exact mk_int _ _⟩
      show GX E I ρ n (st.setb b (.dat i.size es)) a w
      rw [setb_self hb]
      exact h
     ·have hmin:Nat.min ys.length m<=ys.length/\Nat.min ys.length m<=m:=⟨Nat.min_le_left _ _,Nat.min_le_right _ _⟩
      have hc0:cap ≠ 0:=by omega
      have had0:=hcap hc0
      subst had0
      obtain ⟨ad,had⟩:∃ ad,xb=some ad:=by
       cases hq:xb with
       | none=>have:=hxn hq; subst this; exact absurd rfl hm0
       | some ad=>exact ⟨ad,rfl⟩
      subst had
      obtain ⟨cs,tg,hw,hs,ho,hrd⟩:=hcs hc0
      have hmul:Nat.min ys.length m*i.size<=ys.length*i.size:=Nat.mul_le_mul_right _ hmin.1
      have hmul2:Nat.min ys.length m*i.size<=cap*i.size:=Nat.mul_le_mul_right _ (by omega)
      have hul:(us.take (Nat.min ys.length m*i.size)).length=Nat.min ys.length m*i.size:=by simp; omega
      have hfit0:0+(us.take (Nat.min ys.length m*i.size)).length<=cs.toList.length:=by have hq:cs.toList.length=cs.size:=Array.length_toList; omega
      have hr:=run_copy (P:=P) (w:=w) t t' o.type e i hte hi kk m c cs tg hw ad ys.length xc (us.take (Nat.min ys.length m*i.size)) hul
       (fun j u hu=>by
        rw [List.getElem?_take] at hu
        split at hu
        ·exact hus ad rfl j u hu
        ·cases hu)
       (fun u hu=>by obtain ⟨j,hj⟩:=List.getElem?_of_mem (List.mem_of_mem_take hu); exact hdx.one j u hj) (by rw [hul]; omega)
      rw [<- hxv,<- hsv] at hr
      refine ⟨_,_,I,ρ,.inl (fin hr),?_,fun _=>mk_int _ _⟩
      have htl:(ys.take m).length=Nat.min ys.length m:=by rw [List.length_take,Nat.min_comm]
      refine h.setb (b:=b) (k:=kk) (by rw [hb]; exact ⟨cap,hr0,hc0⟩) (.dat i.size (splice es 0 (ys.take m))) (fun k' hk' => ?_) (setRow_frm _ _ _) ?_ (by simp)
      ·obtain ⟨c',hc',_⟩:=hk'; rw [hr0] at hc'; simp at hc'; exact hc'.1.symm
      ·have hsl:(splice es 0 (ys.take m)).length=es.length:=length_splice _ _ _ (by rw [htl]; omega)
       refine ⟨kk,cap,hr0,by rw [hsl]; exact hle,hcm,fun y hy => ?_,fun _=>⟨_,tg,setRow_heap w kk cs _ tg _ hw,?_,?_,?_⟩⟩
       ·unfold splice at hy
        simp only [List.take_zero,List.nil_append,List.mem_append] at hy
        rcases hy with h1 | h1
        ·exact hys y (List.mem_of_mem_take h1)
        ·exact hes y (List.mem_of_mem_drop h1)
       ·simp only [List.size_toArray]
        rw [length_splice _ _ _ hfit0]
        simpa using hs
       ·intro j u hu
        have hu:(splice cs.toList 0 (us.take (Nat.min ys.length m*i.size)))[j]? = some u:=by simpa using hu
        rw [getElem?_splice _ _ _ _ hfit0,if_neg (by omega)] at hu
        split at hu
        ·rw [List.getElem?_take] at hu
         split at hu
         ·exact hdx.one _ u hu
         ·cases hu
        ·exact ho j u (by simpa using hu)
       ·intro i' j cc hcc'
        have key:∃ u,(splice cs.toList 0 (us.take (Nat.min ys.length m*i.size)))[i'*i.size+j]? = some u/\Rd I u cc:=by
         have hi':=getD_nil_some hcc'
         rw [hsl] at hi'
         rw [getElem?_splice _ _ _ _ hfit0,if_neg (by omega),hul]
         have hget:(splice es 0 (ys.take m)).getD i' []=if i'<Nat.min ys.length m then ys.getD i' [] else es.getD i' []:=by
          simp only [List.getD]
          rw [getElem?_splice _ _ _ _ (by rw [htl]; omega),if_neg (by omega),htl]
          by_cases hh:i'<Nat.min ys.length m
          ·rw [if_pos (by omega),if_pos hh,List.getElem?_take,if_pos (by omega)]; rfl
          ·rw [if_neg (by omega),if_neg hh]
         rw [hget] at hcc'
         by_cases hh:i'<Nat.min ys.length m
         ·rw [if_pos hh] at hcc'
          obtain ⟨u,hu,hr⟩:=hdx.rd i' j cc hcc'
          have hj:j<i.size:=by
           have hyi:=getD_nil_some hcc'
           rw [<- hys (ys.getD i' []) (by simp [List.getD,List.getElem?_eq_getElem hyi])]
           exact (List.getElem?_eq_some_iff.1 hcc').1
          have:(i'+1)*i.size<=Nat.min ys.length m*i.size:=Nat.mul_le_mul_right _ hh
          rw [Nat.add_mul] at this
          exact ⟨u,by rw [if_pos (by omega),List.getElem?_take,if_pos (by omega)]; simpa using hu,hr⟩
         ·rw [if_neg hh] at hcc'
          obtain ⟨u,hu,hr⟩:=hrd i' j cc hcc'
          have:Nat.min ys.length m*i.size<=i'*i.size:=Nat.mul_le_mul_right _ (by omega)
          exact ⟨u,by rw [if_neg (by omega)]; simpa using hu,hr⟩
        obtain ⟨u,hu,hr⟩:=key
        exact ⟨u,by simpa using hu,hr⟩
    ·exact hvc.elim
   ·rename_i sz' e1
    rw [e1] at g1
    have g1:a.eval d' = .slice none 0 0:=g1
    have hgx:∃ xb k xc,a.eval x' = .slice xb k xc:=by
     unfold srcOf at hsrc
     split at hsrc
     ·rename_i e2; rw [e2] at g2; obtain ⟨b,c,hv,_⟩:=gv_sl g2; exact ⟨b,_,c,hv⟩
     ·rename_i e2; rw [e2] at g2; exact ⟨none,0,0,g2⟩
     ·rename_i e2; rw [e2] at g2; obtain ⟨k,cap,b,c,_,hv,_⟩:=g2; exact ⟨b,_,c,hv⟩
     ·rename_i e2; rw [e2] at g2; obtain ⟨k,cap,b,c,_,hv,_⟩:=g2; exact ⟨b,_,c,hv⟩
     ·cases hsrc
    obtain ⟨xb,k,xc,hxv⟩:=hgx
    have hr:=run_copy_zero (P:=P) (w:=w) t t' o.type e i hte hi none 0 0 xb k xc (Nat.min_zero k)
    rw [<- hxv,<- g1] at hr
    exact ⟨_,w,I,ρ,.inl (fin hr),h,fun _=>mk_int _ _⟩
   ·exact hvc.elim
  ·exact hvc.elim
 ·cases hc
end
end Go.Ab
end
section
namespace Go.Ab
open Go
section
variable {P:Program} {E:Env P} {I:IH} {ρ:Ren} {n:Nat} {st:ASt} {a:Act} {w:World}
theorem gv_sub {v:Value} {x:AV} {b lo m sz:Nat} {c:Option Nat} (h:GV I ρ v x) (hs:asSub x=some (b,lo,m,c,sz)) :
  ∃ k cap ad c',ρ b=some (k,cap)/\v = .slice ad m c'/\m<=c'/\lo+c'<=cap/\(∀ c0,c=some c0->c'=c0)/\(c' ≠ 0\/(lo=0/\cap ≠ 0)->ad=some ⟨k,lo*sz,none⟩):=by
 unfold asSub at hs
 split at hs
 ·simp only [Option.some.injEq,Prod.mk.injEq] at hs
  obtain ⟨rfl,rfl,rfl,rfl,rfl⟩:=hs
  obtain ⟨k,cap,ad,c',h1,h2,h3,h4,h5⟩:=h
  refine ⟨k,cap,ad,c',h1,h2,h3,by omega,(fun _ e=>by cases e),fun hc => ?_⟩
  rw [Nat.zero_mul]
  refine h5 ?_
  rcases hc with hc | hc
  ·omega
  ·exact hc.2
 ·simp only [Option.some.injEq,Prod.mk.injEq] at hs
  obtain ⟨rfl,rfl,rfl,rfl,rfl⟩:=hs
  exact h
 ·cases hs
def chkShf (n:Nat) (op:Op) (l:Bool) (x y:Opd):Bool:=match op with | .binOp b _ x' y' _=>(match b with | .shl=>l | .shr => !l | _=>false)&&chkOpd n x' x&&chkOpd n y' y | _=>false
theorem shf_runs {o:Oper} {l:Bool} {x y:Opd} (h:GX E I ρ n st a w) (hc:chkShf n o.op l x y=true) (hx:(x.ev st.tm).g=true) (hy:(y.ev st.tm).g=true)
  (hvc:(shfV l (avOf st.tm x) (avOf st.tm y)).vc):Runs P E n o a w st (shfV l (avOf st.tm x) (avOf st.tm y)).v:=by
 unfold chkShf at hc
 split at hc
 ·rename_i b t x' y' t' he
  simp only [Bool.and_eq_true] at hc
  obtain ⟨⟨hb,h1⟩,h2⟩:=hc
  have g1:=opd_v h h1 hx
  have g2:=opd_v h h2 hy
  unfold shfV at hvc ⊢
  split at hvc
  ·rename_i k p k' q e1 e2
   rw [e1] at g1; rw [e2] at g2
   have v1:=gv_int g1
   have v2:=gv_int g2
   have hq:¬ q<0:=by simp only at hvc; omega
   have hg:=run_eqGuard_int (P:=P) b t x' y' k p (.int k' q) w
   cases b<;>simp only [Bool.false_eq_true] at hb
   ·subst hb
    exact Runs.val h (v := .int k (k.wrap (p*2^(min q.toNat k.bits)))) (by simp [execOp,he,hg,v1,v2,binOp,Op.shift,hq]) (mk_int _ _)
   ·cases l
    ·exact Runs.val h (v := .int k (p.fdiv (2^(min q.toNat k.bits)))) (by simp [execOp,he,hg,v1,v2,binOp,Op.shift,hq]) (mk_int _ _)
    ·cases hb
  ·exact hvc.elim
 ·cases hc
def chkCapo (P:Program) (n:Nat) (op:Op) (x:Opd):Bool :=
 match op with
 | .call { callee := .builtin .cap,args:=⟨[x']⟩,argTypes:=⟨[t]⟩ } => chkOpd n x' x&&isSliceT P t
 | _=>false
theorem capo_runs {o:Oper} {x:Opd} (h:GX E I ρ n st a w) (hc:chkCapo P n o.op x=true) (hx:(x.ev st.tm).g=true) (hvc:(capV (avOf st.tm x)).vc):Runs P E n o a w st (capV (avOf st.tm x)).v:=by
 unfold chkCapo at hc
 split at hc
 ·rename_i x' t he
  simp only [Bool.and_eq_true] at hc
  have g:=opd_v h hc.1 hx
  obtain ⟨e,ht⟩:=isSliceT_spec hc.2
  unfold capV at hvc ⊢
  split at hvc
  ·rename_i b lo m c sz e1
   rw [e1] at g
   obtain ⟨k,cap,ad,c',hr,hv,hm,hcc,hcx,ha⟩:=g
   have:=hcx c rfl
   subst this
   exact Runs.val h (by simp [execOp,he,resolve,invoke,builtin,Builtin.cap_,run_underlying ht,hv,goInt]) (mk_int _ _)
  ·rename_i sz e1
   rw [e1] at g
   have g:a.eval x' = .slice none 0 0:=g
   exact Runs.val h (by simp [execOp,he,resolve,invoke,builtin,Builtin.cap_,run_underlying ht,g,goInt]) (mk_int _ _)
  ·exact hvc.elim
 ·cases hc
def chkSslice (P:Program) (n:Nat) (op:Op) (sz:Nat) (x:Opd) (lo hi:Option Opd):Bool:=match op with | .slice t x' lo' hi' none=>chkOpd n x' x&&chkBnd n lo' lo&&chkBnd n hi' hi&&elemOK P t sz | _=>false
theorem sslice_runs {o:Oper} {sz:Nat} {x:Opd} {lo hi:Option Opd} (h:GX E I ρ n st a w) (hc:chkSslice P n o.op sz x lo hi=true) (hx:(x.ev st.tm).g=true)
  (hgl:∀ x,x∈lo.toList->(x.ev st.tm).g=true) (hgh:∀ x,x∈hi.toList->(x.ev st.tm).g=true)
  (hvc:(ssliceV sz (avOf st.tm x) (bnd (avOf st.tm) lo 0) (bnd (avOf st.tm) hi)).vc):Runs P E n o a w st (ssliceV sz (avOf st.tm x) (bnd (avOf st.tm) lo 0) (bnd (avOf st.tm) hi)).v:=by
 unfold chkSslice at hc
 split at hc
 ·rename_i t x' lo' hi' he
  simp only [Bool.and_eq_true] at hc
  have g1:=opd_v h hc.1.1.1 hx
  obtain ⟨e,ti,ht,hti,hsz⟩:=elemOK_spec hc.2
  unfold ssliceV at hvc ⊢
  split at hvc
  ·rename_i b l m c sz' hsb
   split at hvc
   ·rename_i p q e2 e3
    obtain ⟨rfl,h0,h1,h2⟩:=hvc
    obtain ⟨k,cap,ad,c',hr,hv,hm,hcc,hcx,ha⟩:=gv_sub g1 hsb
    have hqc:q<=c':=by
     cases c with
     | none=>simp only at h2; omega
     | some c0=>have:=hcx c0 rfl; simp only at h2; omega
    have b1:=bnd_some h hc.1.1.2 hgl e2
    have b2:=bnd_some h hc.1.2 hgh e3
    have hb:=run_sliceBounds (P:=P) (w:=w) true m c' (lo'.map a.eval) (hi'.map a.eval) (p:=p) (q:=q) (bnd_map b1) (bnd_map b2) h0 h1 hqc
    have hrun:(execOp a.eval o).run P w = .ok (.value (.slice (if c'=p.toNat then ad else ad.map (·.add (p.toNat*sz'))) (q.toNat-p.toNat) (c'-p.toNat))) w:=by
     simp only [execOp,he,Instr.sliceAt,Instr.slice,hv,Option.map_none]
     simp [run_underlying ht]
     rw [hb]
     simp [sizeOf,typeInfo,hti,hsz]
    refine Runs.val h hrun ⟨k,cap,_,_,hr,by congr 1; omega,by omega,by omega,fun c0 hc0 => ?_,fun hcc' => ?_⟩
    ·cases c with
     | none=>cases hc0
     | some c1=>have:=hcx c1 rfl; simp at hc0; omega
    ·by_cases hcp:c'=p.toNat
     ·rw [if_pos hcp]
      have hl0:l=0/\p.toNat=0/\cap ≠ 0:=by omega
      have:=ha (.inr ⟨hl0.1,hl0.2.2⟩)
      rw [this,hl0.1,hl0.2.1]
     ·rw [if_neg hcp,ha (.inl (by omega))]
      simp only [Option.map_some]
      rw [Addr.add_mk,Nat.add_mul]
   ·exact hvc.elim
  ·exact hvc.elim
 ·cases hc
theorem run_bounds3 (len cap:Nat) {k1 k2 k3:IntKind} {p q m:Int} (h0:0<=p) (h1:p<=q) (h2:q<=m) (h3:m<=cap) :
  (Instr.sliceBounds true len cap (some (.int k1 p)) (some (.int k2 q)) (some (.int k3 m))).run P w = .ok (p.toNat,q.toNat,m.toNat) w:=by
 simp (disch:=omega) [Instr.sliceBounds,run_sliceBound]
def chkSl3 (P:Program) (n:Nat) (op:Op) (sz:Nat) (x p q m:Opd):Bool:=match op with | .slice t x' (some p') (some q') (some m')=>chkOpd n x' x&&chkOpd n p' p&&chkOpd n q' q&&chkOpd n m' m&&elemOK P t sz | _=>false
theorem sl3_runs {o:Oper} {sz:Nat} {x p q m:Opd} (h:GX E I ρ n st a w) (hc:chkSl3 P n o.op sz x p q m=true) (hx:(x.ev st.tm).g=true) (hp:(p.ev st.tm).g=true) (hq:(q.ev st.tm).g=true) (hm:(m.ev st.tm).g=true)
  (hvc:(sl3V sz (avOf st.tm x) (avOf st.tm p) (avOf st.tm q) (avOf st.tm m)).vc):Runs P E n o a w st (sl3V sz (avOf st.tm x) (avOf st.tm p) (avOf st.tm q) (avOf st.tm m)).v:=by
 unfold chkSl3 at hc
 split at hc
 ·rename_i t x' p' q' m' he
  simp only [Bool.and_eq_true] at hc
  obtain ⟨⟨⟨⟨c1,c2⟩,c3⟩,c4⟩,c5⟩:=hc
  have g1:=opd_v h c1 hx
  have g2:=opd_v h c2 hp
  have g3:=opd_v h c3 hq
  have g4:=opd_v h c4 hm
  obtain ⟨e,ti,ht,hti,hsz⟩:=elemOK_spec c5
  unfold sl3V at hvc ⊢
  split at hvc
  ·rename_i b l len c sz' k1 p0 k2 q0 k3 m0 hsb e2 e3 e4
   obtain ⟨rfl,h0,h1,h2,h3⟩:=hvc
   rw [e2] at g2; rw [e3] at g3; rw [e4] at g4
   have v2:=gv_int g2; have v3:=gv_int g3; have v4:=gv_int g4
   obtain ⟨k,cap,ad,c',hr,hv,hlm,hcc,hcx,ha⟩:=gv_sub g1 hsb
   have hmc:m0<=c':=by
    cases c with
    | none=>simp only at h3; omega
    | some c0=>have:=hcx c0 rfl; simp only at h3; omega
   have hb:=run_bounds3 (P:=P) (w:=w) len c' (k1:=k1) (k2:=k2) (k3:=k3) h0 h1 h2 hmc
   refine Runs.val h (v := .slice (if m0.toNat=p0.toNat then ad else ad.map (·.add (p0.toNat*sz'))) (q0.toNat-p0.toNat) (m0.toNat-p0.toNat)) ?_ rfl
   simp only [execOp,he,Instr.sliceAt,Instr.slice,hv,Option.map_some,v2,v3,v4]
   simp [run_underlying ht]
   rw [hb]
   simp [sizeOf,typeInfo,hti,hsz]
  ·exact hvc.elim
 ·cases hc
theorem getElem?_splice' {α:Type} (xs ys:List α) (off j:Nat) (h:off<=xs.length):(splice xs off ys)[j]? = if j<off then xs[j]? else if j<off+ys.length then ys[j-off]? else xs[j]? := by
 unfold splice
 have h1:(xs.take off).length=off:=by simp; omega
 by_cases hj:j<off
 ·rw [if_pos hj,List.append_assoc,List.getElem?_append_left (by omega),List.getElem?_take,if_pos hj]
 ·rw [if_neg hj,List.append_assoc,List.getElem?_append_right (by omega),h1]
  by_cases hk:j<off+ys.length
  ·rw [if_pos hk,List.getElem?_append_left (by omega)]
  ·rw [if_neg hk,List.getElem?_append_right (by omega),List.getElem?_drop]
   congr 1; omega
theorem row_set (h:GX E I ρ n st a w) {b kk cap sz lo:Nat} {es ys:List (List Cell)} {us:List Value} (hb:st.bx b = .dat sz es) (hr:ρ b=some (kk,cap)) (h0:0<sz) (hlo:lo<=es.length) (hfit:lo+ys.length<=cap)
  (hc0:cap ≠ 0) (hys:∀ y,y∈ys->y.length=sz) (hul:us.length=ys.length*sz) (hd:DC I us sz ys) :
  ∃ cs tg,w.heap[kk]? = some (.cells cs tg (0,0))/\cs.size=cap*sz/\GX E I ρ n (st.setb b (.dat sz (splice es lo ys))) a (w.setRow kk (splice cs.toList (lo*sz) us).toArray):=by
 have hok:=h.bx.ok b
 rw [hb] at hok
 obtain ⟨kk',cap',hr',hle,hcm,hes,hcs⟩:=hok
 rw [hr] at hr'
 simp only [Option.some.injEq,Prod.mk.injEq] at hr'
 obtain ⟨rfl,rfl⟩:=hr'
 obtain ⟨cs,tg,hw,hs,ho,hrd⟩:=hcs hc0
 refine ⟨cs,tg,hw,hs,?_⟩
 have hmul:(lo+ys.length)*sz<=cap*sz:=Nat.mul_le_mul_right _ hfit
 rw [Nat.add_mul] at hmul
 have hfit2:lo*sz+us.length<=cs.toList.length:=by have hq:cs.toList.length=cs.size:=Array.length_toList; omega
 have hlen:(splice es lo ys).length<=cap:=by unfold splice; simp; omega
 refine h.setb (b:=b) (k:=kk) (by rw [hb]; exact ⟨cap,hr,hc0⟩) (.dat sz (splice es lo ys)) (fun k' hk' => ?_) (setRow_frm _ _ _) ?_ (by simp)
 ·obtain ⟨c',hc',_⟩:=hk'; rw [hr] at hc'; simp at hc'; exact hc'.1.symm
 ·refine ⟨kk,cap,hr,hlen,hcm,fun y hy => ?_,fun _=>⟨_,tg,setRow_heap w kk cs _ tg _ hw,?_,?_,?_⟩⟩
  ·unfold splice at hy
   simp only [List.mem_append] at hy
   rcases hy with (h1 | h1) | h1
   ·exact hes y (List.mem_of_mem_take h1)
   ·exact hys y h1
   ·exact hes y (List.mem_of_mem_drop h1)
  ·simp only [List.size_toArray]
   rw [length_splice _ _ _ hfit2]
   simpa using hs
  ·intro j u hu
   have hu:(splice cs.toList (lo*sz) us)[j]? = some u:=by simpa using hu
   rw [getElem?_splice _ _ _ _ hfit2] at hu
   split at hu
   ·exact ho j u (by simpa using hu)
   ·split at hu
    ·exact hd.one _ u hu
    ·exact ho j u (by simpa using hu)
  ·intro i' j cc hcc'
   have key:∃ u,(splice cs.toList (lo*sz) us)[i'*sz+j]? = some u/\Rd I u cc:=by
    have hget:(splice es lo ys).getD i' []=if i'<lo then es.getD i' [] else if i'<lo+ys.length then ys.getD (i'-lo) [] else es.getD i' []:=by
     simp only [List.getD]
     rw [getElem?_splice' _ _ _ _ hlo]
     split
     ·rfl
     ·split<;>rfl
    rw [hget] at hcc'
    rw [getElem?_splice _ _ _ _ hfit2]
    by_cases h1:i'<lo
    ·rw [if_pos h1] at hcc'
     obtain ⟨u,hu,hr'⟩:=hrd i' j cc hcc'
     have hi':=getD_nil_some hcc'
     have hj:j<sz:=by rw [<- hes (es.getD i' []) (by simp [List.getD,List.getElem?_eq_getElem hi'])]; exact (List.getElem?_eq_some_iff.1 hcc').1
     have:(i'+1)*sz<=lo*sz:=Nat.mul_le_mul_right _ h1
     rw [Nat.add_mul] at this
     exact ⟨u,by rw [if_pos (by omega)]; simpa using hu,hr'⟩
    ·rw [if_neg h1] at hcc'
     by_cases h2:i'<lo+ys.length
     ·rw [if_pos h2] at hcc'
      obtain ⟨u,hu,hr'⟩:=hd.rd (i'-lo) j cc hcc'
      have hyi:=getD_nil_some hcc'
      have hj:j<sz:=by rw [<- hys (ys.getD (i'-lo) []) (by simp [List.getD,List.getElem?_eq_getElem hyi])]; exact (List.getElem?_eq_some_iff.1 hcc').1
      have e1:lo*sz<=i'*sz:=Nat.mul_le_mul_right _ (by omega)
      have e2:(i'-lo)*sz=i'*sz-lo*sz:=Nat.sub_mul _ _ _
      have e3:(i'-lo+1)*sz<=ys.length*sz:=Nat.mul_le_mul_right _ (by omega)
      rw [Nat.add_mul] at e3
      exact ⟨u,by rw [if_neg (by omega),if_pos (by omega),<- hu]; congr 1; omega,hr'⟩
     ·rw [if_neg h2] at hcc'
      obtain ⟨u,hu,hr'⟩:=hrd i' j cc hcc'
      have e1:(lo+ys.length)*sz<=i'*sz:=Nat.mul_le_mul_right _ (by omega)
      rw [Nat.add_mul] at e1
      exact ⟨u,by rw [if_neg (by omega),if_neg (by omega)]; simpa using hu,hr'⟩
   obtain ⟨u,hu,hr'⟩:=key
   exact ⟨u,by simpa using hu,hr'⟩
theorem splice_nil' {α:Type} (xs:List α) (k:Nat) (h:k<=xs.length):splice xs k []=xs:=by simp [splice]
theorem run_copy2 (t t' ty e:TypeId) (i:TypeInfo) (ht:P.underlying t=some (.slice e)) (hi:P.info? e=some i) (kk off m c:Nat) (cur:Array Value) (tg:TypeId) (hg:w.heap[kk]? = some (.cells cur tg (0,0)))
  (ad:Addr) (k c':Nat) (us:List Value) (hl:us.length=Nat.min k m*i.size) (hus:∀ j u,us[j]? = some u->w.cell? (ad.add j)=some u) (h1:∀ u∈us,u.oneCell'=true) (hfit:off+us.length<=cur.size) :
  (Builtin.copy_ #[t,t'] ty #[.slice (some ⟨kk,off,none⟩) m c,.slice (some ad) k c']).run P w = .ok (goInt (Nat.min k m:Nat)) (w.setRow kk (splice cur.toList off us).toArray):=by
 have hf:=run_firstCells_some (P:=P) w i.size (Nat.min k m) ad k c' us hl hus
 have hst:=run_storeCells_at P kk off tg us 0 cur w hg (by simpa using hfit) h1
 rw [toList_take_drop] at hst
 simp [Builtin.copy_,run_underlying ht,sizeOf,typeInfo,hi,Builtin.lenOf,hf,hst]
theorem trunc_src (h:GX E I ρ n st a w) {v:Value} {x:AV} {sz m:Nat} {p:Prop} {ys:List (List Cell)} (hv:GV I ρ v x) (hs:srcOf sz (truncS m x) st.bx=some (p,ys)) (hp:p) :
  ∃ xb kx xc,v = .slice xb kx xc/\Nat.min ys.length m=Nat.min kx m/\Src I w (.slice xb ys.length xc) sz ys:=by
 have other:truncS m x=x->∃ xb kx xc,v = .slice xb kx xc/\Nat.min ys.length m=Nat.min kx m/\Src I w (.slice xb ys.length xc) sz ys:=by
  intro e
  rw [e] at hs
  have hS:=src_ok h hv hs hp
  obtain ⟨b,cap,hvv,hr⟩:=hS
  exact ⟨b,ys.length,cap,hvv,rfl,b,cap,rfl,hr⟩
 rcases x with c | _ | _
 ·cases c
  case sub b lo n' c sz' =>
   obtain ⟨k,cap,ad,c',h1,h2,h3,h4,h5⟩:=hv
   subst h2
   have hg:GV I ρ (.slice ad (min n' m) c') (.one (.sub b lo (min n' m) c sz')):=⟨k,cap,ad,c',h1,rfl,by omega,h4,h5⟩
   have hS:=src_ok h hg hs hp
   obtain ⟨b',cap',hvv,hr⟩:=hS
   simp only [Value.slice.injEq] at hvv
   obtain ⟨rfl,e2,rfl⟩:=hvv
   refine ⟨ad,n',c',rfl,?_,ad,c',rfl,hr⟩
   show min ys.length m=min n' m
   omega
  all_goals exact other rfl
 all_goals exact other rfl
theorem scpy_runs {o:Oper} {sz:Nat} {d x:Opd} (h:GX E I ρ n st a w) (hc:chkCopy P n o.op sz d x=true) (hd:(d.ev st.tm).g=true) (hx:(x.ev st.tm).g=true)
  (hvc:(scpyV sz (avOf st.tm d) (avOf st.tm x) st.bx).vc):Runs P E n o a w (st.setbs (scpyV sz (avOf st.tm d) (avOf st.tm x) st.bx).sets) (scpyV sz (avOf st.tm d) (avOf st.tm x) st.bx).v:=by
 unfold chkCopy at hc
 split at hc
 ·rename_i d' x' t t' he
  simp only [Bool.and_eq_true,decide_eq_true_eq] at hc
  obtain ⟨⟨⟨c1,c2⟩,ht⟩,h0⟩:=hc
  have g1:=opd_v h c1 hd
  have g2:=opd_v h c2 hx
  obtain ⟨e,i,hte,hi,rfl⟩:=elemOK_spec ht
  have fin:∀ {v:Value} {w':World},(Builtin.copy_ #[t,t'] o.type #[a.eval d',a.eval x']).run P w = .ok v w'->(execOp a.eval o).run P w = .ok (.value v) w':=by
   intro v w' hr
   simp only [execOp,he,resolve,invoke,builtin,Sem.run_bind,Sem.run_pure,Result.andThen_ok,List.map_toArray,List.map_cons,List.map_nil,hr]
  unfold scpyV at hvc ⊢
  split at hvc
  ·rename_i b lo m c0 sz' hsb
   split at hvc
   ·rename_i p ys hsrc
    split at hvc
    ·rename_i sz'' es hb
     obtain ⟨hp,rfl,rfl,hlo⟩:=hvc
     obtain ⟨xb0,kx,xc0,hxv0,hmk,hsrc'⟩:=trunc_src h g2 hsrc hp
     have hys:∀ y,y∈ys->y.length=i.size:=by obtain ⟨_,_,_,_,h4,_⟩:=hsrc'; exact h4
     obtain ⟨xb,xc,us,hxv,husl,hus,hxn,hdx⟩:=src_list hsrc' h0
     cases hxv
     obtain ⟨kk,cap,ad0,c,hr0,hsv,hnc,hcc,_,hcap⟩:=gv_sub g1 hsb
     by_cases hm0:Nat.min ys.length m=0
     ·have hr:=run_copy_zero (P:=P) (w:=w) t t' o.type e i hte hi ad0 m c xb0 kx xc0 (hmk.symm.trans hm0)
      rw [<- hxv0,<- hsv] at hr
      have htk:ys.take m=[]:=by
       apply List.eq_nil_of_length_eq_zero
       rw [List.length_take,Nat.min_comm]; exact hm0
      rw [htk,splice_nil' _ _ hlo]
      refine ⟨_,w,I,ρ,.inl (fin hr),?_,fun _=>by rw [hm0]; exact mk_int _ _⟩
      show GX E I ρ n (st.setb b (.dat i.size es)) a w
      rw [setb_self hb]
      exact h
     ·have hmin:Nat.min ys.length m<=ys.length/\Nat.min ys.length m<=m:=⟨Nat.min_le_left _ _,Nat.min_le_right _ _⟩
      have had0:=hcap (.inl (by omega))
      subst had0
      obtain ⟨ad,had⟩:∃ ad,xb0=some ad:=by
       cases hq:xb0 with
       | none=>have:=hxn hq; subst this; exact absurd rfl hm0
       | some ad=>exact ⟨ad,rfl⟩
      subst had
      have htl:(ys.take m).length=Nat.min ys.length m:=by rw [List.length_take,Nat.min_comm]
      have hmul:Nat.min ys.length m*i.size<=ys.length*i.size:=Nat.mul_le_mul_right _ hmin.1
      have hul:(us.take (Nat.min ys.length m*i.size)).length=Nat.min ys.length m*i.size:=by simp; omega
      have hdt:DC I (us.take (Nat.min ys.length m*i.size)) i.size (ys.take m):=by
       refine ⟨fun j u hu => ?_,fun i' j cc hcc' => ?_⟩
       ·rw [List.getElem?_take] at hu
        split at hu
        ·exact hdx.one _ u hu
        ·cases hu
       ·have hi':=getD_nil_some hcc'
        rw [htl] at hi'
        have hcc2:(ys.getD i' [])[j]? = some cc:=by
         rw [<- hcc']; congr 1
         simp only [List.getD]
         rw [List.getElem?_take,if_pos (by omega)]
        obtain ⟨u,hu,hr⟩:=hdx.rd i' j cc hcc2
        have hyi:=getD_nil_some hcc2
        have hj:j<i.size:=by rw [<- hys (ys.getD i' []) (by simp [List.getD,List.getElem?_eq_getElem hyi])]; exact (List.getElem?_eq_some_iff.1 hcc2).1
        have:(i'+1)*i.size<=Nat.min ys.length m*i.size:=Nat.mul_le_mul_right _ hi'
        rw [Nat.add_mul] at this
        exact ⟨u,by rw [List.getElem?_take,if_pos (by omega)]; exact hu,hr⟩
      obtain ⟨cs,tg,hw,hs,hg⟩:=row_set h hb hr0 h0 hlo (ys:=ys.take m) (us:=us.take (Nat.min ys.length m*i.size)) (by rw [htl]; omega) (by omega) (fun y hy=>hys y (List.mem_of_mem_take hy)) (by rw [hul,htl]) hdt
      have hmul2:(lo+Nat.min ys.length m)*i.size<=cap*i.size:=Nat.mul_le_mul_right _ (by omega)
      rw [Nat.add_mul] at hmul2
      have hr:=run_copy2 (P:=P) (w:=w) t t' o.type e i hte hi kk (lo*i.size) m c cs tg hw ad kx xc0 (us.take (Nat.min ys.length m*i.size)) (hmk ▸ hul)
       (fun j u hu=>by
        rw [List.getElem?_take] at hu
        split at hu
        ·exact hus ad rfl j u hu
        ·cases hu)
       (fun u hu=>by obtain ⟨j,hj⟩:=List.getElem?_of_mem (List.mem_of_mem_take hu); exact hdx.one j u hj) (by rw [hul,hs]; exact hmul2)
      rw [<- hxv0,<- hsv] at hr
      exact ⟨_,_,I,ρ,.inl (fin hr),hg,fun _=>by rw [<- hmk]; exact mk_int _ _⟩
    ·exact hvc.elim
   ·exact hvc.elim
  ·exact hvc.elim
 ·cases hc
def chkSclr (P:Program) (n:Nat) (op:Op) (sz:Nat) (zs:List Cell) (x:Opd):Bool :=
  match op with
  | .call { callee := .builtin .clear,args:=⟨[x']⟩,argTypes:=⟨[t]⟩ } => chkOpd n x' x&&decide (0<sz)&&zs.length==sz&&(match P.underlying t with
    | some (.slice e)=>(match P.info? e with | some i=>i.size==sz&&(match i.zero with | some z=>z.cells.size==sz&&zerosD z.cells.toList zs | none=>false) | none=>false)
    | _=>false)
  | _=>false
theorem zero_rows {zs:List Cell} {z:Array Value} {sz m:Nat} (hz:zerosD z.toList zs=true) (hzs:z.size=sz) (hl:zs.length=sz) (h0:0<sz) :
  (Builtin.zeroCells z m).toList.length=m*sz/\DC I (Builtin.zeroCells z m).toList sz (List.replicate m zs):=by
 have hsz:(Builtin.zeroCells z m).size=m*sz:=by simp [Builtin.zeroCells,hzs]
 refine ⟨by simpa using hsz,?_⟩
 have rc:=rep_cells (I:=I) (N:=m*sz) (m:=m) hz hl h0 (Nat.le_refl _) (cs:=(Array.range (m*sz)).map (z[· % z.size]!)) rfl
 have he:(Builtin.zeroCells z m)=(Array.range (m*sz)).map (z[· % z.size]!):=by unfold Builtin.zeroCells; rw [hzs]
 rw [he]
 exact ⟨fun j u hu=>rc.1 j u (by rw [Array.getElem?_toList] at hu; exact hu),fun i' j c hc=>by obtain ⟨u,hu,hr⟩:=rc.2 i' j c hc; exact ⟨u,by rw [Array.getElem?_toList]; exact hu,hr⟩⟩
theorem sclr_runs {o:Oper} {sz:Nat} {zs:List Cell} {x:Opd} (h:GX E I ρ n st a w) (hc:chkSclr P n o.op sz zs x=true) (hx:(x.ev st.tm).g=true)
  (hvc:(sclrV sz zs (avOf st.tm x) st.bx).vc):Runs P E n o a w (st.setbs (sclrV sz zs (avOf st.tm x) st.bx).sets) (sclrV sz zs (avOf st.tm x) st.bx).v:=by
 unfold chkSclr at hc
 split at hc
 ·rename_i x' t he
  simp only [Bool.and_eq_true,decide_eq_true_eq,beq_iff_eq] at hc
  obtain ⟨⟨⟨c1,h0⟩,hzl⟩,ht⟩:=hc
  have g1:=opd_v h c1 hx
  split at ht
  ·rename_i e hte
   split at ht
   ·rename_i i hi
    simp only [Bool.and_eq_true,beq_iff_eq] at ht
    obtain ⟨hisz,hz⟩:=ht
    split at hz
    ·rename_i z hzero
     simp only [Bool.and_eq_true,beq_iff_eq] at hz
     obtain ⟨hzs,hzd⟩:=hz
     have fin:∀ {v:Value} {w':World},(Builtin.clear_ #[t] o.type #[a.eval x']).run P w = .ok v w'->(execOp a.eval o).run P w = .ok (.value v) w':=by
      intro v w' hr
      simp only [execOp,he,resolve,invoke,builtin,Sem.run_bind,Sem.run_pure,Result.andThen_ok,List.map_toArray,List.map_cons,List.map_nil,hr]
     unfold sclrV at hvc ⊢
     split at hvc
     ·rename_i b lo m c0 sz' hsb
      split at hvc
      ·rename_i sz'' es hb
       obtain ⟨rfl,rfl,hlo⟩:=hvc
       obtain ⟨kk,cap,ad0,c,hr0,hsv,hnc,hcc,_,hcap⟩:=gv_sub g1 hsb
       have htup:∀ {ρ':Ren},GV I ρ' (.tuple #[]) (.tup []):=fun {ρ'} => ⟨#[],rfl,rfl,fun j v p hv hp=>by simp at hp⟩
       by_cases hm0:m=0
       ·subst hm0
        rw [List.replicate_zero,splice_nil' _ _ hlo]
        refine ⟨.tuple #[],w,I,ρ,.inl (fin ?_),?_,fun _=>htup⟩
        ·rw [hsv]
         cases ad0<;>simp [Builtin.clear_,run_underlying hte]
        ·show GX E I ρ n (st.setb b (.dat sz'' es)) a w
         rw [setb_self hb]
         exact h
       ·have had0:=hcap (.inl (by omega))
        subst had0
        obtain ⟨hzl2,hzdc⟩:=zero_rows (I:=I) (m:=m) hzd hzs hzl h0
        obtain ⟨cs,tg,hw,hs,hg⟩:=row_set h hb hr0 h0 hlo (ys:=List.replicate m zs) (us:=(Builtin.zeroCells z.cells m).toList) (by simp; omega) (by omega) (fun y hy=>by rw [List.eq_of_mem_replicate hy,hzl]) (by simpa using hzl2) hzdc
        have hmul2:(lo+m)*sz''<=cap*sz'':=Nat.mul_le_mul_right _ (by omega)
        rw [Nat.add_mul] at hmul2
        have hst:=run_storeCells_at P kk (lo*sz'') tg (Builtin.zeroCells z.cells m).toList 0 cs w hw (by rw [hzl2]; simpa [hs] using hmul2) (fun u hu=>by obtain ⟨j,hj⟩:=List.getElem?_of_mem hu; exact hzdc.one j u hj)
        rw [toList_take_drop] at hst
        obtain ⟨m',rfl⟩:∃ m',m=m'+1:=⟨m-1,by omega⟩
        refine ⟨.tuple #[],_,I,ρ,.inl (fin ?_),hg,fun _=>htup⟩
        rw [hsv]
        simp [Builtin.clear_,run_underlying hte,zeroValue,typeInfo,hi,hzero,hst]
      ·exact hvc.elim
     ·exact hvc.elim
    ·cases hz
   ·cases ht
  ·cases ht
 ·cases hc
theorem run_append_at (t ty e tg:TypeId) (i:TypeInfo) (ht:P.underlying t=some (.slice e)) (hi:P.info? e=some i)
  (g off sLen sCap:Nat) (cur:Array Value) (hg:w.heap[g]? = some (.cells cur tg (0,0)))
  (ad:Addr) (m c:Nat) (news:List Value) (hl:news.length=m*i.size) (hnews:∀ j u,news[j]? = some u->w.cell? (ad.add j)=some u) (h1:∀ u∈news,u.oneCell'=true)
  (hroom:sLen+m<=sCap) (hfit:off+sLen*i.size+news.length<=cur.size) :
  (Builtin.append_ #[t,t] ty #[.slice (some ⟨g,off,none⟩) sLen sCap,.slice (some ad) m c]).run P w =
   .ok (.slice (some ⟨g,off,none⟩) (sLen+m) sCap) (w.setRow g (splice cur.toList (off+sLen*i.size) news).toArray):=by
 have hf:=run_firstCells_some (P:=P) w i.size m ad m c news hl hnews
 have hst:=run_storeCells_at P g (off+sLen*i.size) tg news 0 cur w hg (by simpa using hfit) h1
 rw [toList_take_drop] at hst
 simp [Builtin.append_,run_underlying ht,sizeOf,typeInfo,hi,Builtin.lenOf,hroom,hf,Addr.add_mk,hst]
theorem sapp_runs {o:Oper} {l sz bytes:Nat} {s x:Opd} (h:GX E I ρ n st a w) (hc:chkAppend P n o.op sz bytes s x=true) (hm:E.m<=l) (hs:(s.ev st.tm).g=true) (hx:(x.ev st.tm).g=true)
    (hvc:(sappV l sz bytes (avOf st.tm s) (avOf st.tm x) st.bx).vc):Runs P E n o a w (st.setbs (sappV l sz bytes (avOf st.tm s) (avOf st.tm x) st.bx).sets) (sappV l sz bytes (avOf st.tm s) (avOf st.tm x) st.bx).v:=by
  unfold chkAppend at hc
  split at hc
  · rename_i s' x' t t' he
    simp only [Bool.and_eq_true,beq_iff_eq,decide_eq_true_eq] at hc
    obtain ⟨⟨⟨⟨c1,c2⟩,rfl⟩,h0⟩,ht⟩:=hc
    have g1:=opd_v h c1 hs
    have g2:=opd_v h c2 hx
    split at ht
    · rename_i e hte
      split at ht
      · rename_i i hi
        simp only [Bool.and_eq_true,beq_iff_eq] at ht
        obtain ⟨⟨rfl,rfl⟩,hz⟩:=ht
        split at hz
        · rename_i z hzero
          simp only [Bool.and_eq_true,beq_iff_eq] at hz
          obtain ⟨hzs,hz1⟩:=hz
          have fin:∀ {v:Value} {w':World},(Builtin.append_ #[t,t] o.type #[a.eval s',a.eval x']).run P w = .ok v w'->(execOp a.eval o).run P w = .ok (.value v) w':=by
            intro v w' hr
            simp only [execOp,he,resolve,invoke,builtin,Sem.run_bind,Sem.run_pure,Result.andThen_ok,List.map_toArray,List.map_cons,List.map_nil,hr]
          unfold sappV at hvc ⊢
          split at hvc
          · rename_i p ys b lo m c sz' hsrc e1
            split at hvc
            · rename_i sz'' es hb
              obtain ⟨kk,cap,ad0,c',hr0,hsv,hnc,hcc,hcx,hcap⟩:=gv_sub (c:=some c) (b:=b) (lo:=lo) (m:=m) (sz:=sz') g1 (by rw [e1]; rfl)
              have:=hcx c rfl
              subst this
              split at hvc
              · rename_i hroom
                rw [if_pos hroom]
                obtain ⟨hp,rfl,rfl,hlo⟩:=hvc
                have hsrc':=src_ok h g2 hsrc hp
                have hys:∀ y,y∈ys->y.length=i.size:=by obtain ⟨_,_,_,_,h4,_⟩:=hsrc'; exact h4
                obtain ⟨xb,xc,us,hxv,husl,hus,hxn,hdx⟩:=src_list hsrc' h0
                by_cases hm0:ys.length=0
                · have hy0:ys=[]:=List.eq_nil_of_length_eq_zero hm0
                  subst hy0
                  rw [splice_nil' _ _ hlo]
                  have hr:=run_append_zero (P:=P) (w:=w) t o.type e i hte hi ad0 m c' hnc xb xc
                  rw [List.length_nil] at hxv
                  rw [<- hxv,<- hsv] at hr
                  refine ⟨_,w,I,ρ,.inl (fin hr),?_,fun _=>⟨kk,cap,ad0,c',hr0,hsv,by simpa using hnc,hcc,(fun c0 hc0=>by cases hc0; rfl),hcap⟩⟩
                  show GX E I ρ n (st.setb b (.dat i.size es)) a w
                  rw [setb_self hb]
                  exact h
                · have had0:=hcap (.inl (by omega))
                  subst had0
                  obtain ⟨ad,had⟩:∃ ad,xb=some ad:=by
                    cases hq:xb with
                    | none=>exact absurd (by rw [hxn hq]; rfl) hm0
                    | some ad=>exact ⟨ad,rfl⟩
                  subst had
                  obtain ⟨cs,tg,hw,hss,hg⟩:=row_set h hb hr0 h0 hlo (ys:=ys) (us:=us) (by omega) (by omega) hys husl hdx
                  have hmul2:(lo+m+ys.length)*i.size<=cap*i.size:=Nat.mul_le_mul_right _ (by omega)
                  simp only [Nat.add_mul] at hmul2
                  have hr:=run_append_at (P:=P) (w:=w) t o.type e tg i hte hi kk (lo*i.size) m c' cs hw ad ys.length xc us husl (hus ad rfl) (fun u hu=>by obtain ⟨j,hj⟩:=List.getElem?_of_mem hu; exact hdx.one j u hj) hroom (by rw [husl,hss]; exact hmul2)
                  rw [<- hxv,<- hsv,<- Nat.add_mul] at hr
                  exact ⟨_,_,I,ρ,.inl (fin hr),hg,fun _=>⟨kk,cap,_,c',hr0,rfl,hroom,hcc,(fun c0 hc0=>by cases hc0; rfl),fun _=>rfl⟩⟩
              · rename_i hroom
                rw [if_neg hroom]
                obtain ⟨hp,rfl,rfl,hlo,hl,hbig⟩:=hvc
                have hsrc':=src_ok h g2 hsrc hp
                have hys:∀ y,y∈ys->y.length=i.size:=by obtain ⟨_,_,_,_,h4,_⟩:=hsrc'; exact h4
                obtain ⟨xb,xc,us,hxv,husl,hus,hxn,hdx⟩:=src_list hsrc' h0
                have hok:=h.bx.ok b
                rw [hb] at hok
                obtain ⟨kk',cap',hr',hle,hcm,hes,hcs⟩:=hok
                rw [hr0] at hr'
                simp only [Option.some.injEq,Prod.mk.injEq] at hr'
                obtain ⟨rfl,rfl⟩:=hr'
                have hmul:(m+ys.length)*(i.bytes+i.size+1)=(m+ys.length)*i.bytes+(m+ys.length)*i.size+(m+ys.length):=by rw [Nat.mul_add,Nat.mul_add,Nat.mul_one]
                have hbytes:(m+ys.length)*i.bytes<=140737488355328:=by omega
                have h63:m+ys.length<=maxLen:=by simp only [maxLen]; omega
                have hm0:ys.length ≠ 0:=by omega
                obtain ⟨ad,had⟩:∃ ad,xb=some ad:=by
                  cases hq:xb with
                  | none=>exact absurd (by rw [hxn hq]; rfl) hm0
                  | some ad=>exact ⟨ad,rfl⟩
                subst had
                have hzc:∀ (q:Nat) (j:Nat) (u:Value),(Builtin.zeroCells z.cells q).toList[j]? = some u->u.oneCell'=true:=by
                  intro q j u hu
                  simp only [Builtin.zeroCells,Array.getElem?_toList,Array.getElem?_map] at hu
                  by_cases hj:j<q*z.cells.size
                  · rw [Array.getElem?_range,if_pos hj] at hu
                    simp only [Option.map_some,Option.some.injEq] at hu
                    have hlt:j%z.cells.size<z.cells.size:=Nat.mod_lt _ (by omega)
                    rw [getElem!_pos z.cells _ hlt] at hu
                    rw [<- hu]
                    exact List.all_eq_true.1 hz1 _ (by simp)
                  · rw [Array.getElem?_range,if_neg hj] at hu; cases hu
                have hl':=absent_of hl
                have hsub:∀ y,y∈(es.drop lo).take m->y.length=i.size:=fun y hy=>hes y (List.mem_of_mem_drop (List.mem_of_mem_take hy))
                have hsl:((es.drop lo).take m).length=m:=by simp; omega
                have fresh:∀ (old:Nat) (olds:List Value),old<m+ys.length->olds.length=m*i.size->DC I olds i.size ((es.drop lo).take m) ->
                    GX E I (ρ.set l w.heap.size (grownCap w (m+ys.length) old e)) n (st.setb l (.dat i.size ((es.drop lo).take m++ys))) a
                      (w.drew.alloc (.cells (olds.toArray++us.toArray++Builtin.zeroCells z.cells (grownCap w (m+ys.length) old e-(m+ys.length))) e)):=by
                  intro old olds ho hol hdo
                  have hge:=grownCap_ge w (m+ys.length) old e
                  have hcm:grownCap w (m+ys.length) old e<=maxLen:=grownCap_le_maxLen w _ old e h63
                  have hdc:=((hdo.append hdx (by rw [hsl]; exact hol)).more (hzc (grownCap w (m+ys.length) old e-(m+ys.length)))).toArr (cs:=olds.toArray++us.toArray++Builtin.zeroCells z.cells (grownCap w (m+ys.length) old e-(m+ys.length))) (by simp)
                  refine new_dat h.drew hl' hm _ e _ i.size ((es.drop lo).take m++ys) ?_ (by rw [List.length_append,hsl]; exact hge) hcm (fun x hx => ?_) hdc.1 hdc.2
                  · simp only [Array.size_append,List.size_toArray,size_zeroCells,hzs,hol,husl,<- Nat.add_mul]
                    congr 1
                    omega
                  · rcases List.mem_append.1 hx with h1 | h1
                    · exact hsub x h1
                    · exact hys x h1
                have hfit:=growslice_fits (need:=m+ys.length) (old:=c') (bytes:=i.bytes) (by omega) hbytes
                by_cases hc0:c'=0
                ·
                  have hm00:m=0:=by omega
                  subst hm00
                  subst hc0
                  have hf:=fresh 0 [] (by omega) (by simp) ⟨by simp,by simp⟩
                  simp only [Nat.zero_add,Array.empty_append] at hf h63 hbytes hfit
                  cases ad0 with
                  | none =>
                    have hr:=run_append_nil (P:=P) w t o.type e i z hte hi hzero ad ys.length xc us husl (hus ad rfl) (by omega) (by simp only [maxLen] at h63; omega) (by omega)
                    rw [<- hxv,<- hsv] at hr
                    refine ⟨_,_,I,_,.inl (fin hr),hf,fun _=>⟨w.heap.size,_,_,_,Ren.set_same _ _ _ _,by rw [Nat.zero_add],by rw [Nat.zero_add]; exact grownCap_ge w ys.length 0 e,Nat.le_refl _,fun _=>rfl⟩⟩
                  | some q =>
                    have hr:=run_append_grow (P:=P) w t o.type e i z hte hi hzero q 0 0 [] (by simp) (by simp) ad ys.length xc us husl (hus ad rfl) (by omega) (by simp only [maxLen] at h63; omega) (by simpa using hfit)
                    rw [<- hxv,<- hsv] at hr
                    simp only [Nat.zero_add,Array.empty_append] at hr
                    refine ⟨_,_,I,_,.inl (fin hr),hf,fun _=>⟨w.heap.size,_,_,_,Ren.set_same _ _ _ _,by rw [Nat.zero_add],by rw [Nat.zero_add]; exact grownCap_ge w ys.length 0 e,Nat.le_refl _,fun _=>rfl⟩⟩
                · have had0:=hcap (.inl hc0)
                  subst had0
                  have hcap0:cap ≠ 0:=by omega
                  obtain ⟨cs,tg,hw,hss,ho,hrd⟩:=hcs hcap0
                  have hmn:(lo+m)*i.size<=cs.size:=by rw [hss]; exact Nat.mul_le_mul_right _ (by omega)
                  rw [Nat.add_mul] at hmn
                  have holen:((cs.toList.drop (lo*i.size)).take (m*i.size)).length=m*i.size:=by simp; omega
                  have holds:∀ (j:Nat) (u:Value),((cs.toList.drop (lo*i.size)).take (m*i.size))[j]? = some u->w.cell? ((⟨kk,lo*i.size,none⟩:Addr).add j)=some u:=fun j u hu=>by
                    rw [List.getElem?_take] at hu
                    split at hu
                    · rw [Addr.add_mk]; rw [List.getElem?_drop] at hu; simp at hu; simp [World.cell?,hw,hu]
                    · cases hu
                  have hd1:DC I ((cs.toList.drop (lo*i.size)).take (m*i.size)) i.size ((es.drop lo).take m):=by
                    refine ⟨fun j u hu => ?_,fun i' j c2 hc2 => ?_⟩
                    · rw [List.getElem?_take] at hu
                      split at hu
                      · rw [List.getElem?_drop] at hu; exact ho _ u (by simpa using hu)
                      · cases hu
                    · have hi':=getD_nil_some hc2
                      rw [hsl] at hi'
                      have hc3:(es.getD (lo+i') [])[j]? = some c2:=by
                        rw [<- hc2]; congr 1
                        simp only [List.getD]
                        rw [List.getElem?_take,if_pos hi',List.getElem?_drop]
                      obtain ⟨u,hu,hr⟩:=hrd (lo+i') j c2 hc3
                      have hi2:=getD_nil_some hc3
                      have hj:j<i.size:=by rw [<- hes (es.getD (lo+i') []) (by simp [List.getD,List.getElem?_eq_getElem hi2])]; exact (List.getElem?_eq_some_iff.1 hc3).1
                      have:(i'+1)*i.size<=m*i.size:=Nat.mul_le_mul_right _ hi'
                      rw [Nat.add_mul] at this
                      refine ⟨u,?_,hr⟩
                      rw [List.getElem?_take,if_pos (by omega),List.getElem?_drop]
                      rw [Nat.add_mul] at hu
                      rw [<- Nat.add_assoc]
                      simpa using hu
                  have hr:=run_append_grow (P:=P) w t o.type e i z hte hi hzero ⟨kk,lo*i.size,none⟩ m c' _ holen holds ad ys.length xc us husl (hus ad rfl) (by omega) (by simp only [maxLen] at h63; omega) hfit
                  rw [<- hxv,<- hsv] at hr
                  have hf:=fresh c' _ (by omega) holen hd1
                  exact ⟨_,_,I,_,.inl (fin hr),hf,fun _=>⟨w.heap.size,_,_,_,Ren.set_same _ _ _ _,rfl,grownCap_ge w _ c' e,Nat.le_refl _,fun _=>rfl⟩⟩
            · exact hvc.elim
          · exact hvc.elim
        · cases hz
      · cases ht
    · cases ht
  · cases hc
end
end Go.Ab
end
section
namespace Go.Ab
open Go
section
variable {P:Program} {E:Env P} {I:IH} {ρ:Ren} {n:Nat} {st:ASt} {a:Act} {w:World}
theorem look_cmp1:Extern.allNextRows.lookup "internal/bytealg.abigen_runtime_cmpstring" = none:=by kernel_rfl
theorem look_cmp2:Extern.allGenericRows.lookup "internal/bytealg.abigen_runtime_cmpstring" = none:=by kernel_rfl
theorem look_cmp3:Extern.allTypedRows.lookup "internal/bytealg.abigen_runtime_cmpstring" = none:=by kernel_rfl
theorem look_cmp4:Extern.allRows.lookup "internal/bytealg.abigen_runtime_cmpstring" = some Extern.BytealgCompare.compare:=by kernel_rfl
theorem look_e:Extern.allNextRows.lookup "" = none:=by kernel_rfl
theorem look_ov1:Extern.allNextRows.lookup "slices.overlaps" = none:=by kernel_rfl
theorem look_ov2:Extern.allGenericRows.lookup "slices.overlaps" = none:=by kernel_rfl
theorem look_ov3:Extern.allTypedRows.lookup "slices.overlaps" = some Extern.SlicesOverlaps.overlaps:=by kernel_rfl
def chkCmps (P:Program) (n:Nat) (op:Op) (x y:Opd):Bool :=
 match op with
 | .call { callee := .value (.func f),args:=⟨[x',y']⟩,argTypes:=_ } => chkOpd n x' x&&chkOpd n y' y&&(match P.funcs[f]? with | some fn=>fn.name == "internal/bytealg.abigen_runtime_cmpstring" && fn.origin == "" && fn.body.isNone | none=>false)
 | _=>false
theorem cmps_runs {o:Oper} {x y:Opd} (h:GX E I ρ n st a w) (hc:chkCmps P n o.op x y=true) (hx:(x.ev st.tm).g=true) (hy:(y.ev st.tm).g=true)
  (hvc:(cmpsV (avOf st.tm x) (avOf st.tm y)).vc):Runs P E n o a w st (cmpsV (avOf st.tm x) (avOf st.tm y)).v:=by
 unfold chkCmps at hc
 split at hc
 ·rename_i f x' y' ts he
  simp only [Bool.and_eq_true] at hc
  obtain ⟨⟨c1,c2⟩,hf⟩:=hc
  have g1:=opd_v h c1 hx
  have g2:=opd_v h c2 hy
  split at hf
  ·rename_i fn hfn
   simp only [Bool.and_eq_true,beq_iff_eq] at hf
   obtain ⟨⟨hname,horig⟩,hbody⟩:=hf
   have hn:Extern.findNext fn=none:=by
    simp only [Extern.findNext,hname,horig,look_cmp1,look_e]
    rfl
   have hd:Extern.find fn=some Extern.BytealgCompare.compare:=by
    simp only [Extern.find,hname,look_cmp2,look_cmp3,look_cmp4]
    rfl
   unfold cmpsV at hvc ⊢
   split at hvc
   ·rename_i s t e1 e2
    rw [e1] at g1; rw [e2] at g2
    obtain ⟨v1,_⟩:=gv_str g1
    obtain ⟨v2,_⟩:=gv_str g2
    have hr:=run_callFunc_extern (P:=P) hfn (by rw [hname]; rfl) hbody hn hd #[.string ⟨⟨s⟩⟩,.string ⟨⟨t⟩⟩] w
    rw [Lib.run_compareString] at hr
    refine Runs.val h (v := .int .i64 (Lib.compareBytes s t)) ?_ (mk_int _ _)
    have hx2:a.eval (.func f) = .func (.func f) #[] #[]:=rfl
    simp only [execOp,he,resolve,Deferred.ofValue,invoke,Sem.run_bind,Sem.run_pure,Result.andThen_ok,hx2,List.map_toArray,List.map_cons,List.map_nil,v1,v2]
    simpa using hr
   ·exact hvc.elim
  ·cases hf
 ·cases hc
def chkIsnil (P:Program) (n:Nat) (op:Op) (ng:Bool) (x:Opd):Bool :=
 match op with
 | .binOp b t x' (.const .nilIface) _=>(match b with | .eql => !ng | .neq=>ng | _=>false)&&(match P.underlying t with | some (.interface _)=>true | _=>false)&&chkOpd n x' x
 | _=>false
theorem isnil_runs {o:Oper} {ng:Bool} {x:Opd} (h:GX E I ρ n st a w) (hc:chkIsnil P n o.op ng x=true) (hx:(x.ev st.tm).g=true)
    (hvc:(isnilV ng (avOf st.tm x)).vc):Runs P E n o a w st (isnilV ng (avOf st.tm x)).v:=by
  unfold chkIsnil at hc
  split at hc
  · rename_i b t x' t' he
    simp only [Bool.and_eq_true] at hc
    obtain ⟨⟨hb,ht⟩,h1⟩:=hc
    have g1:=opd_v h h1 hx
    unfold isnilV at hvc ⊢
    split at hvc
    · rename_i g e1
      rw [e1] at g1
      have g1:if g=true then ∃ t p,a.eval x' = .iface t p else a.eval x' = .nilIface:=g1
      split at ht
      · rename_i ms hu
        have ev:a.eval (.const .nilIface) = .nilIface:=rfl
        have hq:(eqGuard b t x' (.const .nilIface) (a.eval x') .nilIface).run P w = .ok () w:=by
          cases g with
          | true =>
            obtain ⟨t1,p1,g1⟩:=g1
            rw [g1]
            cases b<;>rfl
          | false =>
            have g1:a.eval x' = .nilIface:=g1
            rw [g1]
            cases b<;>cases x'<;>first | rfl | simp [eqGuard]
        have hd:∀ d,(Op.equalIn (d+1) t (a.eval x') .nilIface).run P w = .ok (!g) w:=fun d=>by
          cases g with
          | true =>
            obtain ⟨t1,p1,g1⟩:=g1
            rw [g1]; simp [Op.equalIn,run_underlying hu]
          | false =>
            have g1:a.eval x' = .nilIface:=g1
            rw [g1]; simp [Op.equalIn,run_underlying hu]
        have he':(Op.equal t (a.eval x') .nilIface).run P w = .ok (!g) w:=hd 9999
        have hbin:∀ c,(c = .eql\/c = .neq)->(binOp c t (a.eval x') .nilIface).run P w = .ok (.bool (if c = .neq then g else !g)) w:=fun c hc=>by
          cases g with
          | true =>
            obtain ⟨t1,p1,g1⟩:=g1
            rw [g1] at he' ⊢
            rcases hc with rfl | rfl<;>simp [binOp,he']
          | false =>
            have g1:a.eval x' = .nilIface:=g1
            rw [g1] at he' ⊢
            rcases hc with rfl | rfl<;>simp [binOp,he']
        simp only [FR.ok]
        cases b<;>simp at hb
        · subst hb
          refine Runs.val h ?_ (mk_bool _)
          simp [execOp,he,ev,hq,hbin .eql (.inl rfl)]
        · subst hb
          refine Runs.val h ?_ (mk_bool _)
          simp [execOp,he,ev,hq,hbin .neq (.inr rfl)]
      · cases ht
    · exact hvc.elim
  · cases hc
theorem look_idx1:Extern.allNextRows.lookup "internal/bytealg.IndexByteString" = none:=by kernel_rfl
theorem look_idx2:Extern.allGenericRows.lookup "internal/bytealg.IndexByteString" = none:=by kernel_rfl
theorem look_idx3:Extern.allTypedRows.lookup "internal/bytealg.IndexByteString" = none:=by kernel_rfl
theorem look_idx4:Extern.allRows.lookup "internal/bytealg.IndexByteString" = some Extern.BytealgIndexByte.indexByte:=by kernel_rfl
def chkIdxb (P:Program) (n:Nat) (op:Op) (x y:Opd):Bool :=
 match op with
 | .call { callee := .value (.func f),args:=⟨[x',y']⟩,argTypes:=_ } => chkOpd n x' x&&chkOpd n y' y&&(match P.funcs[f]? with | some fn=>fn.name == "internal/bytealg.IndexByteString" && fn.origin == "" && fn.body.isNone | none=>false)
 | _=>false
theorem idxb_runs {o:Oper} {x y:Opd} (h:GX E I ρ n st a w) (hc:chkIdxb P n o.op x y=true) (hx:(x.ev st.tm).g=true) (hy:(y.ev st.tm).g=true)
  (hvc:(idxbV (avOf st.tm x) (avOf st.tm y)).vc):Runs P E n o a w st (idxbV (avOf st.tm x) (avOf st.tm y)).v:=by
 unfold chkIdxb at hc
 split at hc
 ·rename_i f x' y' ts he
  simp only [Bool.and_eq_true] at hc
  obtain ⟨⟨c1,c2⟩,hf⟩:=hc
  have g1:=opd_v h c1 hx
  have g2:=opd_v h c2 hy
  split at hf
  ·rename_i fn hfn
   simp only [Bool.and_eq_true,beq_iff_eq] at hf
   obtain ⟨⟨hname,horig⟩,hbody⟩:=hf
   have hn:Extern.findNext fn=none:=by
    simp only [Extern.findNext,hname,horig,look_idx1,look_e]
    rfl
   have hd:Extern.find fn=some Extern.BytealgIndexByte.indexByte:=by
    simp only [Extern.find,hname,look_idx2,look_idx3,look_idx4]
    rfl
   unfold idxbV at hvc ⊢
   split at hvc
   ·rename_i s k c e1 e2
    rw [e1] at g1; rw [e2] at g2
    have hk:k = .u8:=hvc
    subst hk
    obtain ⟨v1,_⟩:=gv_str g1
    have v2:=gv_int g2
    have hr:=run_callFunc_extern (P:=P) hfn (by rw [hname]; rfl) hbody hn hd #[.string ⟨⟨s⟩⟩,.int .u8 c] w
    rw [Lib.run_indexByteString] at hr
    refine Runs.val h (v := .int .i64 (Lib.indexByte s c.toNat.toUInt8)) ?_ (mk_int _ _)
    have hx2:a.eval (.func f) = .func (.func f) #[] #[]:=rfl
    simp only [execOp,he,resolve,Deferred.ofValue,invoke,Sem.run_bind,Sem.run_pure,Result.andThen_ok,hx2,List.map_toArray,List.map_cons,List.map_nil,v1,v2]
    simpa using hr
   ·exact hvc.elim
  ·cases hf
 ·cases hc
def chkOvl (P:Program) (n:Nat) (op:Op) (x y:Opd):Bool :=
  match op with
  | .call { callee := .value (.func f),args:=⟨[x',y']⟩,argTypes:=_ } => chkOpd n x' x&&chkOpd n y' y&&(match P.funcs[f]? with
    | some fn=>fn.origin == "slices.overlaps" && fn.body.isNone && !(fn.name == "runtime.NumGoroutine")&&(Extern.allNextRows.lookup fn.name).isNone&&(Extern.allGenericRows.lookup fn.name).isNone&&(Extern.allTypedRows.lookup fn.name).isNone&&(Extern.allRows.lookup fn.name).isNone &&
      (match fn.params,fn.resultTypes with
        | ⟨[t,t']⟩,⟨[_]⟩=>t==t'&&(match P.underlying t with | some (.slice e)=>(match P.info? e with | some _=>true | none=>false) | _=>false)
        | _,_=>false)
    | none=>false)
  | _=>false
theorem dat_at (h:GX E I ρ n st a w) {b kk cap sz:Nat} {es:List (List Cell)} (hb:st.bx b = .dat sz es) (hr:ρ b=some (kk,cap)) (hc0:cap ≠ 0):∃ cs tg,w.heap[kk]? = some (.cells cs tg (0,0))/\cs.size=cap*sz:=by
 have hok:=h.bx.ok b
 rw [hb] at hok
 obtain ⟨kk',cap',hr',hle,hcm,hes,hcs⟩:=hok
 rw [hr] at hr'
 simp only [Option.some.injEq,Prod.mk.injEq] at hr'
 obtain ⟨rfl,rfl⟩:=hr'
 obtain ⟨cs,tg,hw,hs,_⟩:=hcs hc0
 exact ⟨cs,tg,hw,hs⟩
theorem ovl_runs {o:Oper} {x y:Opd} (h:GX E I ρ n st a w) (hc:chkOvl P n o.op x y=true) (hx:(x.ev st.tm).g=true) (hy:(y.ev st.tm).g=true)
  (hvc:(ovlV (avOf st.tm x) (avOf st.tm y) st.bx).vc):Runs P E n o a w st (ovlV (avOf st.tm x) (avOf st.tm y) st.bx).v:=by
 unfold chkOvl at hc
 split at hc
 ·rename_i f x' y' ts he
  simp only [Bool.and_eq_true] at hc
  obtain ⟨⟨c1,c2⟩,hf⟩:=hc
  have g1:=opd_v h c1 hx
  have g2:=opd_v h c2 hy
  split at hf
  ·rename_i fn hfn
   simp only [Bool.and_eq_true,beq_iff_eq,Bool.not_eq_true',Option.isNone_iff_eq_none] at hf
   obtain ⟨⟨⟨⟨⟨⟨⟨horig,hbody⟩,hname⟩,n1⟩,n2⟩,n3⟩,n4⟩,hp⟩:=hf
   split at hp
   ·rename_i t t' tr hpar hres
    simp only [Bool.and_eq_true,beq_iff_eq] at hp
    obtain ⟨rfl,ht⟩:=hp
    split at ht
    ·rename_i e hte
     split at ht
     ·rename_i i hi
      have hn:Extern.findNext fn=none:=by
       simp only [Extern.findNext,horig,n1,look_ov1]
       rfl
      have hd:Extern.find fn=some (Extern.SlicesOverlaps.overlaps #[t,t] #[tr]):=by
       simp only [Extern.find,horig,n2,n3,n4,look_ov2,look_ov3,hpar,hres]
       rfl
      unfold ovlV at hvc ⊢
      split at hvc
      ·rename_i b lo m c sz b' lo' m' c' sz' e1 e2
       obtain ⟨kk,cap,ad,cc,hr,hv,hm,hcc,_,ha⟩:=gv_sub g1 e1
       obtain ⟨kk',cap',ad',cc',hr',hv',hm',hcc',_,ha'⟩:=gv_sub g2 e2
       split at hvc
       ·rename_i s1 es s2 es' hb hb'
        obtain ⟨hbb,hs2,hm0,hm0'⟩:b ≠ b'/\s2 ≠ 0/\0<m/\0<m':=hvc
        have hov:(Extern.SlicesOverlaps.overlaps #[t,t] #[tr] #[.slice ad m cc,.slice ad' m' cc']).run P w = .ok (.bool false) w:=by
         obtain ⟨cs,tg,hw,hs⟩:=dat_at h hb hr (by omega)
         obtain ⟨cs',tg',hw',hs'⟩:=dat_at h hb' hr' (by omega)
         have e1:=ha (.inl (by omega))
         have e2:=ha' (.inl (by omega))
         subst e1 e2
         have hne:kk ≠ kk':=fun hk=>hbb (by
          subst hk
          exact h.bx.inj b b' kk (by rw [hb]; exact ⟨cap,hr,by omega⟩) (by rw [hb']; exact ⟨cap',hr',by omega⟩))
         have h0:cs'.size ≠ 0:=by rw [hs']; exact Nat.mul_ne_zero (by omega) hs2
         exact Lib.run_overlaps_apart w t tr e hte i.size (fun w=>by simp [sizeOf,typeInfo,hi]) ⟨kk,lo*sz,none⟩ ⟨kk',lo'*sz',none⟩ m cc m' cc' hne tg tg' cs.size cs'.size
          (by simp [World.shape?,hw]) (by simp [World.shape?,hw']) h0 (by simp [World.frozen?,hw]) (by simp [World.frozen?,hw])
        have hr:=run_callFunc_extern (P:=P) hfn hname (by simpa using hbody) hn hd #[.slice ad m cc,.slice ad' m' cc'] w
        rw [hov] at hr
        refine Runs.val h (v := .bool false) ?_ (mk_bool _)
        have hx2:a.eval (.func f) = .func (.func f) #[] #[]:=rfl
        simp only [execOp,he,resolve,Deferred.ofValue,invoke,Sem.run_bind,Sem.run_pure,Result.andThen_ok,hx2,List.map_toArray,List.map_cons,List.map_nil,hv,hv']
        simpa using hr
       ·exact hvc.elim
      ·exact hvc.elim
     ·cases ht
    ·cases ht
   ·cases hp
  ·cases hf
 ·cases hc
end
end Go.Ab
end
section
namespace Go.Ab
open Go
section
variable {P:Program} {E:Env P} {I:IH} {ρ:Ren} {n:Nat} {st:ASt} {a:Act} {w:World}
def Az (P:Program) (n:Nat) (op:Op) (sz bytes:Nat) (zs:List Cell) (s x:Opd):Bool :=
  match op with
  | .call { callee := .builtin .append,args:=⟨[s',x']⟩,argTypes:=⟨[t,t']⟩ } => chkOpd n s' s&&chkOpd n x' x&&decide (0<sz)&&zs.length==sz&&(match P.underlying t' with | some (.int _)=>true | _=>false)&&(match P.underlying t with
    | some (.slice e)=>(match P.info? e with | some i=>i.size==sz&&i.bytes==bytes&&(match i.zero with | some z=>z.cells.size==sz&&zerosD z.cells.toList zs&&z.cells.toList.all (·.oneCell') | none=>false) | none=>false)
    | _=>false)
  | _=>false
theorem yw (t u ty e:TypeId) (ku:IntKind) (i:TypeInfo) (z:Value) (ht:P.underlying t=some (.slice e)) (hu:P.underlying u=some (.int ku)) (hi:P.info? e=some i) (hz:i.zero=some z)
    (b:Option Addr) (sLen sCap:Nat) (olds:List Value) (hlo:olds.length=sLen*i.size) (hb0:b=none->sLen=0) (holds:∀ ad,b=some ad->∀ j v,olds[j]? = some v->w.cell? (ad.add j)=some v)
    (q:Nat) (hq:(q:Int)*i.bytes<=140737488355328) (QM:q<2^60) (QS:0<q) (hs0:0<i.size)
    (hg:sCap<sLen+q) (h63:((sLen+q:Nat):Int)<=9223372036854775807) (hfit:Builtin.nextslicecap (sLen+q) sCap*i.bytes<=281474976710656) :
    (Builtin.append_ #[t,u] ty #[.slice b sLen sCap,.int .i64 q]).run P w =
      .ok (.slice (some ⟨w.heap.size,0,none⟩) (sLen+q) (grownCap w (sLen+q) sCap e))
        (w.drew.alloc (.cells (olds.toArray++Builtin.zeroCells z.cells q++Builtin.zeroCells z.cells (grownCap w (sLen+q) sCap e-(sLen+q))) e)):=by
  have hn:¬ (sLen+q<=sCap):=by omega
  have h63':¬ (9223372036854775807<((sLen:Int)+(q:Int))):=by omega
  have h48':¬ (281474976710656<Builtin.nextslicecap (sLen+q) sCap*i.bytes):=by omega
  have hw:IntKind.i64.wrap (q:Int)=q:=by
    simp only [IntKind.wrap,IntKind.bits,IntKind.signed]
    simp
    omega
  have hq0:¬ ((q:Int)<0):=by omega
  have Qp:¬ (281474976710656<(q:Int)*(i.bytes:Int)):=by omega
  have hfo:(Builtin.firstCells i.size sLen (.slice b sLen sCap)).run P w.drew = .ok olds.toArray w.drew:=by
    cases b with
    | none =>
      have h0:=hb0 rfl
      subst h0
      have:olds=[]:=List.eq_nil_of_length_eq_zero (by simpa using hlo)
      subst this
      simp [Builtin.firstCells]
    | some ad=>exact run_firstCells_some (P:=P) w.drew i.size sLen ad sLen sCap olds hlo (by simpa using holds ad rfl)
  have hq1:¬ (q*i.size=0):=by
    intro h0
    rcases Nat.mul_eq_zero.1 h0 with h | h<;>omega
  simp [Builtin.append_,run_underlying ht,run_underlying hu,sizeOf,typeInfo,zeroValue,hi,hz,asInt,asIntOf,hw,hq0,Qp,hq1,hn,h63',h48',Question.forced,hfo,newRow,grownCap]
theorem Ig (h:GX E I ρ n st a w) {b kk cap sz lo m:Nat} {es:List (List Cell)} (hb:st.bx b = .dat sz es) (hr0:ρ b=some (kk,cap)) (hc:lo+m<=cap) (hc0:cap ≠ 0) (hl:lo+m<=es.length) :
    ∃ olds:List Value,olds.length=m*sz/\(∀ (j:Nat) (u:Value),olds[j]? = some u->w.cell? ((⟨kk,lo*sz,none⟩:Addr).add j)=some u)/\DC I olds sz ((es.drop lo).take m) /\
      (∀ y,y∈(es.drop lo).take m->y.length=sz)/\((es.drop lo).take m).length=m:=by
  have hok:=h.bx.ok b
  rw [hb] at hok
  obtain ⟨kk',cap',hr',hle,hcm,hes,hcs⟩:=hok
  rw [hr0] at hr'
  simp only [Option.some.injEq,Prod.mk.injEq] at hr'
  obtain ⟨rfl,rfl⟩:=hr'
  obtain ⟨cs,tg,hw,hss,ho,hrd⟩:=hcs hc0
  have hmn:(lo+m)*sz<=cs.size:=by rw [hss]; exact Nat.mul_le_mul_right _ hc
  rw [Nat.add_mul] at hmn
  have hsl:((es.drop lo).take m).length=m:=by simp; omega
  refine ⟨(cs.toList.drop (lo*sz)).take (m*sz),by simp; omega,fun j u hu => ?_,⟨fun j u hu => ?_,fun i' j c2 hc2 => ?_⟩,fun y hy=>hes y (List.mem_of_mem_drop (List.mem_of_mem_take hy)),hsl⟩
  · rw [List.getElem?_take] at hu
    split at hu
    · rw [Addr.add_mk]; rw [List.getElem?_drop] at hu; simp at hu; simp [World.cell?,hw,hu]
    · cases hu
  · rw [List.getElem?_take] at hu
    split at hu
    · rw [List.getElem?_drop] at hu; exact ho _ u (by simpa using hu)
    · cases hu
  · have hi':=getD_nil_some hc2
    rw [hsl] at hi'
    have hc3:(es.getD (lo+i') [])[j]? = some c2:=by
      rw [<- hc2]; congr 1
      simp only [List.getD]
      rw [List.getElem?_take,if_pos hi',List.getElem?_drop]
    obtain ⟨u,hu,hr⟩:=hrd (lo+i') j c2 hc3
    have hi2:=getD_nil_some hc3
    have hj:j<sz:=by rw [<- hes (es.getD (lo+i') []) (by simp [List.getD,List.getElem?_eq_getElem hi2])]; exact (List.getElem?_eq_some_iff.1 hc3).1
    have:(i'+1)*sz<=m*sz:=Nat.mul_le_mul_right _ hi'
    rw [Nat.add_mul] at this
    refine ⟨u,?_,hr⟩
    rw [List.getElem?_take,if_pos (by omega),List.getElem?_drop]
    rw [Nat.add_mul] at hu
    rw [<- Nat.add_assoc]
    simpa using hu
theorem FX {o:Oper} {l sz bytes:Nat} {zs:List Cell} {s x:Opd} (h:GX E I ρ n st a w) (hc:Az P n o.op sz bytes zs s x=true) (hm:E.m<=l) (hs:(s.ev st.tm).g=true) (hx:(x.ev st.tm).g=true)
  (hvc:(appzV l sz bytes zs (avOf st.tm s) (avOf st.tm x) st.bx).vc):Runs P E n o a w (st.setbs (appzV l sz bytes zs (avOf st.tm s) (avOf st.tm x) st.bx).sets) (appzV l sz bytes zs (avOf st.tm s) (avOf st.tm x) st.bx).v:=by
 unfold Az at hc
 split at hc
 ·rename_i s' x' t t' he
  simp only [Bool.and_eq_true,beq_iff_eq,decide_eq_true_eq] at hc
  obtain ⟨⟨⟨⟨⟨c1,c2⟩,h0⟩,hzl⟩,hti⟩,ht⟩:=hc
  have g1:=opd_v h c1 hs
  have g2:=opd_v h c2 hx
  split at hti
  ·rename_i ku htu
   split at ht
   ·rename_i e hte
    split at ht
    ·rename_i i hi
     simp only [Bool.and_eq_true,beq_iff_eq] at ht
     obtain ⟨⟨rfl,rfl⟩,hz⟩:=ht
     split at hz
     ·rename_i z hzero
      simp only [Bool.and_eq_true,beq_iff_eq] at hz
      obtain ⟨⟨hzs,hzd⟩,hz1⟩:=hz
      have fin:∀ {v:Value} {w':World},(Builtin.append_ #[t,t'] o.type #[a.eval s',a.eval x']).run P w = .ok v w'->(execOp a.eval o).run P w = .ok (.value v) w':=by
       intro v w' hr
       simp only [execOp,he,resolve,invoke,builtin,Sem.run_bind,Sem.run_pure,Result.andThen_ok,List.map_toArray,List.map_cons,List.map_nil,hr]
      have hzc:∀ (q:Nat) (j:Nat) (u:Value),(Builtin.zeroCells z.cells q).toList[j]? = some u->u.oneCell'=true:=by
       intro q j u hu
       exact (zero_rows (I:=I) (m:=q) hzd hzs hzl h0).2.one j u hu
      have fresh:∀ (old m q:Nat) (olds:List Value) (es':List (List Cell)),st.bx l = .absent->old<m+q->olds.length=m*i.size->es'.length=m->(∀ y,y∈es'->y.length=i.size)->DC I olds i.size es'->m+q<=maxLen ->
        GX E I (ρ.set l w.heap.size (grownCap w (m+q) old e)) n (st.setb l (.dat i.size (es'++List.replicate q zs))) a
         (w.drew.alloc (.cells (olds.toArray++Builtin.zeroCells z.cells q++Builtin.zeroCells z.cells (grownCap w (m+q) old e-(m+q))) e)):=by
       intro old m q olds es' hl' ho hol hel hes' hdo h63
       have hge:=grownCap_ge w (m+q) old e
       have hcm:grownCap w (m+q) old e<=maxLen:=grownCap_le_maxLen w _ old e h63
       obtain ⟨hzl2,hzdc⟩:=zero_rows (I:=I) (m:=q) hzd hzs hzl h0
       have hdc:=((hdo.append hzdc (by rw [hel]; exact hol)).more (hzc (grownCap w (m+q) old e-(m+q)))).toArr (cs:=olds.toArray++Builtin.zeroCells z.cells q++Builtin.zeroCells z.cells (grownCap w (m+q) old e-(m+q))) (by simp)
       refine new_dat h.drew hl' hm _ e _ i.size (es'++List.replicate q zs) ?_ (by rw [List.length_append,hel,List.length_replicate]; exact hge) hcm (fun x hx => ?_) hdc.1 hdc.2
       ·simp only [Array.size_append,List.size_toArray,size_zeroCells,hzs,hol,<- Nat.add_mul]
        congr 1
        omega
       ·rcases List.mem_append.1 hx with h1 | h1
        ·exact hes' x h1
        ·rw [List.eq_of_mem_replicate h1,hzl]
      have arith:∀ (m q:Nat),(m+q)*(i.bytes+i.size+1)<=2^46->(m+q)*i.bytes<=140737488355328/\q*i.bytes<=140737488355328/\m+q<=2^46:=by
       intro m q hbig
       have e1:(m+q)*(i.bytes+i.size+1)=(m+q)*i.bytes+(m+q)*i.size+(m+q):=by rw [Nat.mul_add,Nat.mul_add,Nat.mul_one]
       have e2:q*i.bytes<=(m+q)*i.bytes:=Nat.mul_le_mul_right _ (by omega)
       omega
      have hml:2^46<=maxLen:=by decide
      unfold appzV at hvc ⊢
      split at hvc
      ·rename_i b lo m c sz' k q e1 e2
       split at hvc
       ·rename_i sz'' es hb
        obtain ⟨rfl,rfl,rfl,hlo,hq,hroom,hl,hbig⟩:=hvc
        obtain ⟨kk,cap,ad0,c',hr0,hsv,hnc,hcc,hcx,hcap⟩:=gv_sub (c:=some c) (b:=b) (lo:=lo) (m:=m) (sz:=i.size) g1 (by rw [e1]; rfl)
        have:=hcx c rfl
        subst this
        have hxv:a.eval x' = .int .i64 q:=by exact gv_int (by rw [e2] at g2; exact g2)
        obtain ⟨qn,rfl⟩:∃ qn:Nat,q=qn:=⟨q.toNat,by omega⟩
        simp only [Int.toNat_natCast] at hroom hbig ⊢
        obtain ⟨a1,a2,a3⟩:=arith m qn hbig
        have hl':=absent_of hl
        have hfit:=growslice_fits (need:=m+qn) (old:=c') (bytes:=i.bytes) (by omega) a1
        by_cases hc0:c'=0
        ·have hm00:m=0:=by omega
         subst hm00
         subst hc0
         have hf:=fresh 0 0 qn [] [] hl' (by omega) (by simp) rfl (by simp) ⟨by simp,by simp⟩ (by omega)
         have hr:=yw (P:=P) (w:=w) t t' o.type e ku i z hte htu hi hzero ad0 0 0 [] (by simp) (fun _=>rfl) (by simp) qn (by rw [<- Int.natCast_mul]; exact Int.ofNat_le.2 a2) (by omega) (by omega) h0 (by omega) (by omega) hfit
         rw [<- hxv,<- hsv] at hr
         simp only [List.take_zero]
         exact ⟨_,_,I,_,.inl (fin hr),hf,fun _=>⟨w.heap.size,_,_,_,Ren.set_same _ _ _ _,rfl,grownCap_ge w _ _ e,Nat.le_refl _,fun _=>rfl⟩⟩
        ·have had0:=hcap (.inl hc0)
         subst had0
         obtain ⟨olds,ho1,ho2,ho3,Qm,Qn⟩:=Ig h hb hr0 (by omega) (by omega) hlo
         have hf:=fresh c' m qn olds _ hl' (by omega) ho1 Qn Qm ho3 (by omega)
         have hr:=yw (P:=P) (w:=w) t t' o.type e ku i z hte htu hi hzero (some ⟨kk,lo*i.size,none⟩) m c' olds ho1 (by simp) (fun ad had j u hu=>by cases had; exact ho2 j u hu) qn (by rw [<- Int.natCast_mul]; exact Int.ofNat_le.2 a2) (by omega) (by omega) h0 (by omega) (by omega) hfit
         rw [<- hxv,<- hsv] at hr
         exact ⟨_,_,I,_,.inl (fin hr),hf,fun _=>⟨w.heap.size,_,_,_,Ren.set_same _ _ _ _,rfl,grownCap_ge w _ _ e,Nat.le_refl _,fun _=>rfl⟩⟩
       ·exact hvc.elim
      ·rename_i sz' k q e1 e2
       obtain ⟨rfl,hq,hl,hbig⟩:=hvc
       have hsv:a.eval s' = .slice none 0 0:=by rw [e1] at g1; exact g1
       have hxv:a.eval x' = .int .i64 q:=by exact gv_int (by rw [e2] at g2; exact g2)
       obtain ⟨qn,rfl⟩:∃ qn:Nat,q=qn:=⟨q.toNat,by omega⟩
       simp only [Int.toNat_natCast] at hbig ⊢
       obtain ⟨a1,a2,a3⟩:=arith 0 qn (by simpa using hbig)
       simp only [Nat.zero_add] at a1 a3
       have hl':=absent_of hl
       have hfit:=growslice_fits (need:=0+qn) (old:=0) (bytes:=i.bytes) (by omega) (by simpa using a1)
       have hf:=fresh 0 0 qn [] [] hl' (by omega) (by simp) rfl (by simp) ⟨by simp,by simp⟩ (by omega)
       have hr:=yw (P:=P) (w:=w) t t' o.type e ku i z hte htu hi hzero none 0 0 [] (by simp) (fun _=>rfl) (by simp) qn (by rw [<- Int.natCast_mul]; exact Int.ofNat_le.2 a2) (by omega) (by omega) h0 (by omega) (by omega) hfit
       rw [<- hxv,<- hsv] at hr
       simp only [List.nil_append] at hf
       exact ⟨_,_,I,_,.inl (fin hr),hf,fun _=>⟨w.heap.size,_,_,_,Ren.set_same _ _ _ _,by rw [Nat.zero_add],by have:=grownCap_ge w (0+qn) 0 e; omega,Nat.le_refl _,fun _=>rfl⟩⟩
      ·exact hvc.elim
     ·cases hz
    ·cases ht
   ·cases ht
  ·cases hti
 ·cases hc
end
end Go.Ab
end
section
namespace Go.Ab
open Go
def wQ (P:Program) (n m:Nat) (op:Op) (d:Option Nat):AOp->Bool
 | .mv x=>chkMv n op x
 | .pick c a b=>chkPick n op c a b
 | .load agg k p=>chkLoad P n op agg k p
 | .store agg k p x=>chkStore P n op agg k p x&&d.isNone
 | .alloc l zs=>chkAlloc P op zs&&decide (m<=l)
 | .allocB T _ l r=>chkAllocB P op T&&decide (m<=l)&&decide (m<=r)
 | .allocA l sz c zs=>chkAllocA P op sz c zs&&decide (m<=l)
 | .box l x=>chkBox n op x&&decide (m<=l)
 | .build zs ps=>chkBuild P n op zs ps
 | .bslice l sz c zs ps=>chkBslice P n op sz c zs ps&&decide (m<=l)
 | .makes l sz bytes zs x y=>chkMakes P n op sz bytes zs x y&&decide (m<=l)
 | .bin o x y=>chkBin n op o x y
 | .beq ng x y=>chkBeq P n op ng x y
 | .not x=>chkNot n op x
 | .neg x=>chkNeg n op x
 | .cint k x=>chkCint P n op k x
 | .cstr x=>chkCstr P n op x
 | .same x=>chkSame P n op x
 | .mkfn f cs=>chkMkfn n op f cs
 | .slstr x lo hi=>chkSlstr P n op x lo hi
 | .slsl sz x lo hi=>chkSlsl P n op sz x lo hi
 | .slarr sz c x=>chkSlarr P n op sz c x
 | .nilck x=>chkNilck n op x
 | .faddr off x=>chkFaddr P n op off x
 | .field agg off k x=>chkField P n op agg off k x
 | .iaddr sz x i=>chkIaddr P n op sz x i
 | .iaddrA sz c x i=>chkIaddrA P n op sz c x i
 | .idxs x i=>chkIdxs P n op x i
 | .extract x i=>chkExtract n op x i
 | .len x=>chkLen P n op x
 | .lens x=>chkLens P n op x
 | .max x y=>chkMm true n op x y
 | .min x y=>chkMm false n op x y
 | .append l sz bytes s x=>chkAppend P n op sz bytes s x&&decide (m<=l)
 | .copy sz x y=>chkCopy P n op sz x y
 | .shf l x y=>chkShf n op l x y
 | .capo x=>chkCapo P n op x
 | .sslice sz x lo hi=>chkSslice P n op sz x lo hi
 | .sl3 sz x p q m=>chkSl3 P n op sz x p q m
 | .sapp l sz bytes s x=>chkAppend P n op sz bytes s x&&decide (m<=l)
 | .scpy sz x y=>chkCopy P n op sz x y
 | .sclr sz zs x=>chkSclr P n op sz zs x
 | .appz l sz bytes zs s x=>Az P n op sz bytes zs s x&&decide (m<=l)
 | .cmps x y=>chkCmps P n op x y
 | .isnil ng x=>chkIsnil P n op ng x
 | .ovl x y=>chkOvl P n op x y
 | .idxb x y=>chkIdxb P n op x y
 | .stop=>true
section
variable {P:Program} {E:Env P} {I:IH} {ρ:Ren} {n:Nat} {st:ASt} {a:Act} {w:World}
theorem nH {x:Box} (h:match x with | .absent=>True | _=>False):isAbsent x:=by cases x<;>first | trivial | exact h.elim
theorem Jc (h:GX E I ρ n st a w) {o:Oper} {ao:AOp} (hc:wQ P n E.m o.op o.dst ao=true) (hv:ao.valid (Opd.ev st.tm)) (hvc:(ao.f (avOf st.tm) st.bx).vc) :
    Runs P E n o a w (st.setbs (ao.f (avOf st.tm) st.bx).sets) (ao.f (avOf st.tm) st.bx).v:=by
  cases ao with
  | mv x=>exact mv_runs h hc (hv x (by simp [AOp.opds]))
  | pick c x y =>
    simp only [AOp.f] at hvc ⊢
    obtain ⟨hg,hxy⟩:=hv
    split at hvc
    · rename_i t ht
      have ht':((Opd.ev st.tm c).x)=vBool t:=ht
      rw [ht'] at hxy
      exact pick_runs h hc hg ht hxy.1 hxy.2
    · exact hvc.elim
  | load agg k p => 
    have hs:(loadV agg k (avOf st.tm p) st.bx).sets=[]:=by
      unfold loadV at *
      simp only [AOp.f] at hvc
      unfold loadV at hvc
      split at hvc
      · split at hvc
        · split at hvc
          · rename_i hA; rw [if_pos hA]
          · rename_i hA; rw [if_neg hA]; split at hvc
            · rfl
            · exact hvc.elim
        · exact hvc.elim
      · split at hvc
        · split at hvc
          · rename_i hA; rw [if_pos hA]
          · rename_i hA; rw [if_neg hA]
        · exact hvc.elim
      · split at hvc
        · rename_i hA; rw [if_pos hA]
        · rename_i hA; rw [if_neg hA]
      · exact hvc.elim
    have:=load_runs (P:=P) h hc (hv p (by simp [AOp.opds])) hvc
    simp only [AOp.f,hs]
    exact this
  | store agg k p x =>
    simp only [wQ,Bool.and_eq_true,Option.isNone_iff_eq_none] at hc
    exact store_runs h hc.1 hc.2 (hv p (by simp [AOp.opds])) (hv x (by simp [AOp.opds])) hvc
  | alloc l zs =>
    simp only [wQ,Bool.and_eq_true,decide_eq_true_eq] at hc
    exact alloc_runs h hc.1 hc.2 (nH hvc)
  | allocB T e l r =>
    simp only [wQ,Bool.and_eq_true,decide_eq_true_eq] at hc
    exact allocB_runs h hc.1.1 hc.1.2 hc.2 (nH hvc.1) (nH hvc.2.1) hvc.2.2
  | allocA l sz c zs =>
    simp only [wQ,Bool.and_eq_true,decide_eq_true_eq] at hc
    exact allocA_runs h hc.1 hc.2 (nH hvc)
  | box l x =>
    simp only [wQ,Bool.and_eq_true,decide_eq_true_eq] at hc
    exact box_runs h hc.1 (hv x (by simp [AOp.opds])) hc.2 (nH hvc.1) hvc.2
  | build zs ps=>exact build_runs h hc (fun p hp=>hv p.2.2 (by simp only [AOp.opds,List.mem_map]; exact ⟨p,hp,rfl⟩)) hvc
  | bslice l sz c zs ps =>
    simp only [wQ,Bool.and_eq_true,decide_eq_true_eq] at hc
    simp only [AOp.f] at hvc ⊢
    split at hvc
    · rename_i l' hl'
      rw [setbs_frzs]
      exact bslice_runs h hc.1 (fun p hp=>hv p.2 (by simp only [AOp.opds,List.mem_map]; exact ⟨p,hp,rfl⟩)) hc.2 (nH hvc.1) hl' hvc.2.1 hvc.2.2
    · exact hvc.elim
  | makes l sz bytes zs x y =>
    simp only [wQ,Bool.and_eq_true,decide_eq_true_eq] at hc
    simp only [AOp.f] at hvc ⊢
    split at hvc
    · rename_i k p k' q e1 e2
      obtain ⟨v1,v2,v3,v4,v5⟩:=hvc
      exact makes_runs h hc.1 (hv x (by simp [AOp.opds])) (hv y (by simp [AOp.opds])) e1 e2 hc.2 (nH v1) v2 v3 v4 v5
    · exact hvc.elim
  | bin b x y =>
    have hs:(binV b (avOf st.tm x) (avOf st.tm y)).sets=[]:=by
      unfold binV; split
      · rfl
      · unfold strBin; cases b<;>rfl
      · rfl
    have:=bin_runs (P:=P) h hc (hv x (by simp [AOp.opds])) (hv y (by simp [AOp.opds])) hvc
    simp only [AOp.f,hs]
    exact this
  | beq ng x y =>
    have hs:(beqV ng (avOf st.tm x) (avOf st.tm y)).sets=[]:=by unfold beqV; split<;>rfl
    have:=beq_runs (P:=P) h hc (hv x (by simp [AOp.opds])) (hv y (by simp [AOp.opds])) hvc
    simp only [AOp.f,hs]
    exact this
  | not x =>
    simp only [AOp.f] at hvc ⊢
    split at hvc
    · rename_i b hb; exact not_runs h hc (hv x (by simp [AOp.opds])) hb
    · exact hvc.elim
  | neg x =>
    simp only [AOp.f] at hvc ⊢
    split at hvc
    · rename_i k m hb; exact neg_runs h hc (hv x (by simp [AOp.opds])) hb
    · exact hvc.elim
  | cint k x =>
    simp only [AOp.f] at hvc ⊢
    split at hvc
    · rename_i j m hb; exact cint_runs h hc (hv x (by simp [AOp.opds])) hb
    · exact hvc.elim
  | cstr x =>
    simp only [AOp.f] at hvc ⊢
    split at hvc
    · rename_i p es hs
      split at hvc
      · rename_i l hl; exact cstr_runs h hc (hv x (by simp [AOp.opds])) hs hvc.1 hl hvc.2
      · exact hvc.elim
    · exact hvc.elim
  | same x =>
    simp only [AOp.f] at hvc ⊢
    split at hvc
    · rename_i l hb; exact same_runs h hc (hv x (by simp [AOp.opds])) hb
    · exact hvc.elim
  | mkfn f cs =>
    simp only [AOp.f] at hvc ⊢
    split at hvc
    · rename_i l hl; exact mkfn_runs h hc (fun x hx=>hv x hx) hl
    · exact hvc.elim
  | slstr x lo hi =>
    simp only [AOp.f] at hvc ⊢
    split at hvc
    · rename_i s e1
      split at hvc
      · rename_i p q e2 e3
        exact slstr_runs h hc (hv x (by simp [AOp.opds])) (fun y hy=>hv y (by simp only [AOp.opds]; simp at hy; simp [hy])) (fun y hy=>hv y (by simp only [AOp.opds]; simp at hy; simp [hy])) e1 e2 e3 hvc.1 hvc.2.1 hvc.2.2
      · exact hvc.elim
    · exact hvc.elim
  | slsl sz x lo hi =>
    have hs:(slslV sz (avOf st.tm x) (bnd (avOf st.tm) lo 0) (bnd (avOf st.tm) hi)).sets=[]:=by
      unfold slslV; split
      · split<;>rfl
      · split<;>rfl
      · split<;>rfl
      · rfl
    have:=slsl_runs (P:=P) h hc (hv x (by simp [AOp.opds])) (fun y hy=>hv y (by simp only [AOp.opds]; simp at hy; simp [hy])) (fun y hy=>hv y (by simp only [AOp.opds]; simp at hy; simp [hy])) hvc
    have e:((AOp.slsl sz x lo hi).f (avOf st.tm) st.bx)=slslV sz (avOf st.tm x) (bnd (avOf st.tm) lo 0) (bnd (avOf st.tm) hi):=rfl
    rw [e,hs]
    exact this
  | slarr sz c x =>
    simp only [AOp.f] at hvc ⊢
    split at hvc
    · rename_i b sz' e1
      split at hvc
      · rename_i sz'' es e2
        obtain ⟨rfl,rfl,h3,h4⟩:=hvc
        exact slarr_runs h hc (hv x (by simp [AOp.opds])) e1 e2 h3
      · exact hvc.elim
    · exact hvc.elim
  | nilck x =>
    have hs:(nilckV (avOf st.tm x)).sets=[]:=by unfold nilckV; split<;>rfl
    have:=nilck_runs (P:=P) h hc (hv x (by simp [AOp.opds])) hvc
    have e:((AOp.nilck x).f (avOf st.tm) st.bx)=nilckV (avOf st.tm x):=rfl
    rw [e,hs]
    exact this
  | faddr off x =>
    have hs:(faddrV off (avOf st.tm x)).sets=[]:=by unfold faddrV; split<;>rfl
    have:=faddr_runs (P:=P) h hc (hv x (by simp [AOp.opds])) hvc
    have e:((AOp.faddr off x).f (avOf st.tm) st.bx)=faddrV off (avOf st.tm x):=rfl
    rw [e,hs]
    exact this
  | field agg off k x =>
    have hs:(fieldV agg off k (avOf st.tm x)).sets=[]:=by
      unfold fieldV; split
      · split
        · rfl
        · split<;>rfl
      · rfl
    have:=field_runs (P:=P) h hc (hv x (by simp [AOp.opds])) hvc
    have e:((AOp.field agg off k x).f (avOf st.tm) st.bx)=fieldV agg off k (avOf st.tm x):=rfl
    rw [e,hs]
    exact this
  | iaddr sz x i =>
    have hs:(iaddrV sz (avOf st.tm x) (avOf st.tm i)).sets=[]:=by unfold iaddrV; split<;>rfl
    have:=iaddr_runs (P:=P) h hc (hv x (by simp [AOp.opds])) (hv i (by simp [AOp.opds])) hvc
    have e:((AOp.iaddr sz x i).f (avOf st.tm) st.bx)=iaddrV sz (avOf st.tm x) (avOf st.tm i):=rfl
    rw [e,hs]
    exact this
  | iaddrA sz c x i =>
    simp only [AOp.f] at hvc ⊢
    split at hvc
    · rename_i b sz' k m e1 e2
      obtain ⟨rfl,h1,h2⟩:=hvc
      exact iaddrA_runs h hc (hv x (by simp [AOp.opds])) (hv i (by simp [AOp.opds])) e1 e2 h1 h2
    · exact hvc.elim
  | idxs x i =>
    simp only [AOp.f] at hvc ⊢
    split at hvc
    · rename_i s k m e1 e2
      exact idxs_runs h hc (hv x (by simp [AOp.opds])) (hv i (by simp [AOp.opds])) e1 e2 hvc.1 hvc.2
    · exact hvc.elim
  | extract x i =>
    have hs:(extractV (avOf st.tm x) i).sets=[]:=by
      unfold extractV; split
      · split<;>rfl
      · rfl
    have:=extract_runs (P:=P) h hc (hv x (by simp [AOp.opds])) hvc
    have e:((AOp.extract x i).f (avOf st.tm) st.bx)=extractV (avOf st.tm x) i:=rfl
    rw [e,hs]
    exact this
  | len x =>
    have hs:(lenV (avOf st.tm x)).sets=[]:=by unfold lenV; split<;>rfl
    have:=len_runs (P:=P) h hc (hv x (by simp [AOp.opds])) hvc
    have e:((AOp.len x).f (avOf st.tm) st.bx)=lenV (avOf st.tm x):=rfl
    rw [e,hs]
    exact this
  | lens x =>
    simp only [AOp.f] at hvc ⊢
    split at hvc
    · rename_i s e1; exact lens_runs h hc (hv x (by simp [AOp.opds])) e1
    · exact hvc.elim
  | max x y =>
    simp only [AOp.f] at hvc ⊢
    split at hvc
    · rename_i k p k' q e1 e2
      have hvc:k=k':=hvc
      subst hvc
      exact max_runs h hc (hv x (by simp [AOp.opds])) (hv y (by simp [AOp.opds])) e1 e2
    · exact hvc.elim
  | min x y =>
    simp only [AOp.f] at hvc ⊢
    split at hvc
    · rename_i k p k' q e1 e2
      have hvc:k=k':=hvc
      subst hvc
      exact min_runs h hc (hv x (by simp [AOp.opds])) (hv y (by simp [AOp.opds])) e1 e2
    · exact hvc.elim
  | append l sz bytes s x =>
    simp only [wQ,Bool.and_eq_true,decide_eq_true_eq] at hc
    exact append_runs h hc.1 hc.2 (hv s (by simp [AOp.opds])) (hv x (by simp [AOp.opds])) hvc
  | copy sz d x=>exact copy_runs h hc (hv d (by simp [AOp.opds])) (hv x (by simp [AOp.opds])) hvc
  | shf l x y =>
    have hs:(shfV l (avOf st.tm x) (avOf st.tm y)).sets=[]:=by unfold shfV; (repeat' split)<;>rfl
    have:=shf_runs (P:=P) h hc (hv x (by simp [AOp.opds])) (hv y (by simp [AOp.opds])) hvc
    have e:((AOp.shf l x y).f (avOf st.tm) st.bx)=shfV l (avOf st.tm x) (avOf st.tm y):=rfl
    rw [e,hs]
    exact this
  | capo x =>
    have hs:(capV (avOf st.tm x)).sets=[]:=by unfold capV; (repeat' split)<;>rfl
    have:=capo_runs (P:=P) h hc (hv x (by simp [AOp.opds])) hvc
    have e:((AOp.capo x).f (avOf st.tm) st.bx)=capV (avOf st.tm x):=rfl
    rw [e,hs]
    exact this
  | sslice sz x lo hi =>
    have hs:(ssliceV sz (avOf st.tm x) (bnd (avOf st.tm) lo 0) (bnd (avOf st.tm) hi)).sets=[]:=by unfold ssliceV; (repeat' split)<;>rfl
    have:=sslice_runs (P:=P) h hc (hv x (by simp [AOp.opds])) (fun y hy=>hv y (by simp only [AOp.opds,List.mem_cons,List.mem_append]; exact .inr (.inl hy))) (fun y hy=>hv y (by simp only [AOp.opds,List.mem_cons,List.mem_append]; exact .inr (.inr hy))) hvc
    have e:((AOp.sslice sz x lo hi).f (avOf st.tm) st.bx)=ssliceV sz (avOf st.tm x) (bnd (avOf st.tm) lo 0) (bnd (avOf st.tm) hi):=rfl
    rw [e,hs]
    exact this
  | sl3 sz x p q m =>
    have hs:(sl3V sz (avOf st.tm x) (avOf st.tm p) (avOf st.tm q) (avOf st.tm m)).sets=[]:=by unfold sl3V; (repeat' split)<;>rfl
    have:=sl3_runs (P:=P) h hc (hv x (by simp [AOp.opds])) (hv p (by simp [AOp.opds])) (hv q (by simp [AOp.opds])) (hv m (by simp [AOp.opds])) hvc
    have e:((AOp.sl3 sz x p q m).f (avOf st.tm) st.bx)=sl3V sz (avOf st.tm x) (avOf st.tm p) (avOf st.tm q) (avOf st.tm m):=rfl
    rw [e,hs]
    exact this
  | sapp l sz bytes s x =>
    simp only [wQ,Bool.and_eq_true,decide_eq_true_eq] at hc
    exact sapp_runs h hc.1 hc.2 (hv s (by simp [AOp.opds])) (hv x (by simp [AOp.opds])) hvc
  | appz l sz bytes zs s x =>
    simp only [wQ,Bool.and_eq_true,decide_eq_true_eq] at hc
    exact FX h hc.1 hc.2 (hv s (by simp [AOp.opds])) (hv x (by simp [AOp.opds])) hvc
  | scpy sz d x=>exact scpy_runs h hc (hv d (by simp [AOp.opds])) (hv x (by simp [AOp.opds])) hvc
  | sclr sz zs x=>exact sclr_runs h hc (hv x (by simp [AOp.opds])) hvc
  | stop=>exact hvc.elim
  | isnil ng x =>
    have hs:(isnilV ng (avOf st.tm x)).sets=[]:=by unfold isnilV; split<;>rfl
    have:=isnil_runs (P:=P) h hc (hv x (by simp [AOp.opds])) hvc
    have e:((AOp.isnil ng x).f (avOf st.tm) st.bx)=isnilV ng (avOf st.tm x):=rfl
    rw [e,hs]
    exact this
  | cmps x y =>
    have hs:(cmpsV (avOf st.tm x) (avOf st.tm y)).sets=[]:=by unfold cmpsV; (repeat' split)<;>rfl
    have:=cmps_runs (P:=P) h hc (hv x (by simp [AOp.opds])) (hv y (by simp [AOp.opds])) hvc
    have e:((AOp.cmps x y).f (avOf st.tm) st.bx)=cmpsV (avOf st.tm x) (avOf st.tm y):=rfl
    rw [e,hs]
    exact this
  | idxb x y =>
    have hs:(idxbV (avOf st.tm x) (avOf st.tm y)).sets=[]:=by unfold idxbV; (repeat' split)<;>rfl
    have:=idxb_runs (P:=P) h hc (hv x (by simp [AOp.opds])) (hv y (by simp [AOp.opds])) hvc
    have e:((AOp.idxb x y).f (avOf st.tm) st.bx)=idxbV (avOf st.tm x) (avOf st.tm y):=rfl
    rw [e,hs]
    exact this
  | ovl x y =>
    have hs:(ovlV (avOf st.tm x) (avOf st.tm y) st.bx).sets=[]:=by unfold ovlV; (repeat' split)<;>rfl
    have:=ovl_runs (P:=P) h hc (hv x (by simp [AOp.opds])) (hv y (by simp [AOp.opds])) hvc
    have e:((AOp.ovl x y).f (avOf st.tm) st.bx)=ovlV (avOf st.tm x) (avOf st.tm y) st.bx:=rfl
    rw [e,hs]
    exact this
end
end Go.Ab
end
