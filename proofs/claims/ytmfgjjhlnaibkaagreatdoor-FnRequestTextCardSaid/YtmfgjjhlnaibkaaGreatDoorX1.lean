/- What abstract values, states and codes of the program's language mean, and that they are sound (part 1). No conditions. -/
import Derived.Below
import Derived.OwnWalk
import Derived.Orders
import Derived.Lib.Bytealg
import Derived.Lib.Overlaps
import Derived.Laws.Externs
import Derived.KernelRfl
import Derived.Lib.ItoaNum
import Derived.Laws.Cells
import Derived.Lib.Strings
import Derived.Laws.BytesString
import Derived.Laws.MakeOwn
import Derived.Laws.Tables
import Derived.Laws.CopyRow
import Derived.Laws.AppendOwn
import Derived.Laws.OwnMore
import Derived.Tactics
import Derived.Shelf.Strings.Builder1
import Derived.Shelf.Strconv.Itoa3
import Derived.Lib.AppendIntMem
import Derived.Shelf.Strings.OnBuilder
import Derived.Shelf.Strings.Prefix
import Derived.Test.YtmfgjjhlnaibkaaGreatDoorProg
import Derived.Lib.ItoaLen
import Derived.ProofKit
import Derived.Lib.LaidTab
import Derived.OpenShut
import Derived.Carry
import Derived.Test.YtmfgjjhlnaibkaaGreatDoorCards
import Derived.Test.YtmfgjjhlnaibkaaGreatDoorTie
import Derived.Deep.DeepHandedRow
set_option linter.unusedVariables false
set_option linter.unusedSimpArgs false
section
namespace Go.Ab
open Go
abbrev IH:=Nat->Option (Array Value)
def IH.cell (I:IH) (a:Addr):Option Value :=
 if a.spot.isSome then none else match I a.block with
  | some c=>c[a.off]?
  | none=>none
def IH.le (I J:IH):Prop:=∀ b c,I b=some c->J b=some c
theorem IH.le_refl (I:IH):I.le I:=fun _ _ h=>h
theorem IH.le_trans {I J K:IH} (h:I.le J) (k:J.le K):I.le K:=fun b c e=>k b c (h b c e)
theorem IH.Dt {I J:IH} (h:I.le J) {a:Addr} {v:Value} (hc:I.cell a=some v):J.cell a=some v:=by
 unfold IH.cell at *
 split at hc
 ·cases hc
 ·cases hb:I a.block with
  | none=>simp [hb] at hc
  | some c=>simp [hb] at hc; rename_i hs; simp [hs,h _ _ hb,hc]
def Agree (I:IH) (w:World):Prop:=∀ b c,I b=some c->∃ e fr,w.heap[b]? = some (.cells c e fr)
theorem Agree.cell {I:IH} {w:World} (h:Agree I w) {a:Addr} {v:Value} (hc:I.cell a=some v):w.cell? a=some v:=by
  unfold IH.cell at hc
  split at hc
  · cases hc
  · cases hb:I a.block with
    | none=>simp [hb] at hc
    | some c =>
      obtain ⟨e,fr,hw⟩:=h _ _ hb
      rename_i hs
      simp [hb] at hc
      simp [World.cell?,hw,hs,hc]
theorem nH {w:World} {b:Nat} {o:Obj} (h:w.heap[b]? = some o):b<w.heap.size:=(Array.getElem?_eq_some_iff.1 h).1
theorem Agree.lt {I:IH} {w:World} (h:Agree I w) {b:Nat} {c:Array Value} (hc:I b=some c):b<w.heap.size:=by
 obtain ⟨e,fr,hw⟩:=h _ _ hc
 exact nH hw
inductive Cell where
 | lit (v:Value)
 | str (l:List UInt8)
 | sl (sz:Nat) (es:List (List Cell))
 deriving Inhabited
inductive Rd (I:IH):Value->Cell->Prop
 | lit (v:Value) (hv:v.oneCell'=true):Rd I v (.lit v)
 | str (l:List UInt8) (h:l.length<=maxLen):Rd I (.string ⟨⟨l⟩⟩) (.str l)
 | sl (a:Option Addr) (len cap sz:Nat) (es:List (List Cell)) (u:Nat->Nat->Value)
   (hlen:es.length=len) (hcap:len<=cap) (hmax:cap<=maxLen) (hsz:∀ e,e∈es->e.length=sz)
   (ha:0<len->a ≠ none)
   (hcell:∀ ad,a=some ad->∀ i j,i<len->j<sz->I.cell (ad.add (i*sz+j))=some (u i j))
   (hr:∀ i j c,(es.getD i [])[j]? = some c->Rd I (u i j) c):Rd I (.slice a len cap) (.sl sz es)
theorem Rd.mono {I J:IH} (hle:I.le J) {v:Value} {c:Cell} (h:Rd I v c):Rd J v c:=by
  induction h with
  | lit v hv=>exact .lit v hv
  | str l h=>exact .str l h
  | sl a len cap sz es u hlen hcap hmax hsz ha hcell hr ih =>
    exact .sl a len cap sz es u hlen hcap hmax hsz ha (fun ad e i j hi hj=>IH.Dt hle (hcell ad e i j hi hj)) ih
theorem Rd.one {I:IH} {v:Value} {c:Cell} (h:Rd I v c):v.oneCell'=true:=by
 cases h with
 | lit v hv=>exact hv
 | str l h=>rfl
 | sl=>rfl
inductive AC where
 | c (x:Cell)
 | ptr (b off:Nat)
 | own (b n sz:Nat)
 | jY (b i sz off:Nat)
 | sub (b lo n:Nat) (c:Option Nat) (sz:Nat)
 | fH (sz:Nat)
 | oK (cs:List Cell)
 | fn (f:FuncId) (caps:List Nat)
 | opt (T b:Nat)
 | jy (b n:Nat)
 | ru
 deriving Inhabited
abbrev Ren:=Nat->Option (Nat × Nat)
def Ren.le (ρ σ:Ren):Prop:=∀ b x,ρ b=some x->σ b=some x
theorem Ren.le_refl (ρ:Ren):ρ.le ρ:=fun _ _ h=>h
def GC (I:IH) (ρ:Ren) (v:Value):AC->Prop
 | .c x=>Rd I v x
 | .ptr b off=>∃ k cap,ρ b=some (k,cap)/\v = .pointer (some ⟨k,off,none⟩)
 | .own b n _=>∃ k cap a c,ρ b=some (k,cap)/\v = .slice a n c/\n<=c/\c<=cap/\(cap ≠ 0->a=some ⟨k,0,none⟩)
 | .jY b i sz off=>∃ k cap,ρ b=some (k,cap)/\v = .pointer (some ⟨k,i*sz+off,none⟩)
 | .sub b lo n c sz=>∃ k cap a c',ρ b=some (k,cap)/\v = .slice a n c'/\n<=c'/\lo+c'<=cap/\(∀ c0,c=some c0->c'=c0)/\(c' ≠ 0\/(lo=0/\cap ≠ 0)->a=some ⟨k,lo*sz,none⟩)
 | .fH _=>v = .slice none 0 0
 | .oK cs=>∃ p:Addr,v = .pointer (some p)/\∀ (j:Nat) (c:Cell),cs[j]? = some c->∃ u,I.cell (p.add j)=some u/\Rd I u c
 | .fn f caps=>∃ ks:List Nat,ks.length=caps.length/\(∀ (j b k:Nat),caps[j]? = some b->ks[j]? = some k->∃ cap,ρ b=some (k,cap)) /\
   v = .func (.func f) #[] (ks.map fun k=>Value.pointer (some ⟨k,0,none⟩)).toArray
 | .opt T b=>∃ k,ρ b=some (k,T)/\(v = .pointer none\/v = .pointer (some ⟨k,0,none⟩))
 | .jy b n=>∃ k cap,ρ b=some (k,cap)/\n<=cap/\((cap=0/\v = .slice none 0 0)\/(cap ≠ 0/\v = .slice (some ⟨k,0,none⟩) n cap))
 | .ru=>v.oneCell'=true
theorem GC.mono {I J:IH} (hle:I.le J) {ρ σ:Ren} (hr:ρ.le σ) {v:Value} {x:AC} (h:GC I ρ v x):GC J σ v x:=by
  cases x with
  | c x=>exact Rd.mono hle h
  | ptr b off=>obtain ⟨k,cap,h1,h2⟩:=h; exact ⟨k,cap,hr _ _ h1,h2⟩
  | own b n sz=>obtain ⟨k,cap,a,c,h1,h2⟩:=h; exact ⟨k,cap,a,c,hr _ _ h1,h2⟩
  | jY b i sz off=>obtain ⟨k,cap,h1,h2⟩:=h; exact ⟨k,cap,hr _ _ h1,h2⟩
  | sub b lo n c sz=>obtain ⟨k,cap,a,c',h1,h2⟩:=h; exact ⟨k,cap,a,c',hr _ _ h1,h2⟩
  | fH sz=>exact h
  | oK cs =>
    obtain ⟨p,hv,hc⟩:=h
    exact ⟨p,hv,fun j c hj=>let ⟨u,h1,h2⟩:=hc j c hj; ⟨u,IH.Dt hle h1,h2.mono hle⟩⟩
  | fn f caps =>
    obtain ⟨ks,h1,h2,h3⟩:=h
    exact ⟨ks,h1,fun j b k hb hk=>let ⟨cap,hc⟩:=h2 j b k hb hk; ⟨cap,hr _ _ hc⟩,h3⟩
  | opt T b=>obtain ⟨k,h1,h2⟩:=h; exact ⟨k,hr _ _ h1,h2⟩
  | jy b n=>obtain ⟨k,cap,h1,h2⟩:=h; exact ⟨k,cap,hr _ _ h1,h2⟩
  | ru=>exact h
theorem GC.one {I:IH} {ρ:Ren} {v:Value} {x:AC} (h:GC I ρ v x):v.oneCell'=true:=by
 cases x with
 | c x=>exact Rd.one h
 | ptr b off=>obtain ⟨k,cap,h1,rfl⟩:=h; rfl
 | own b n sz=>obtain ⟨k,cap,a,c,h1,rfl,_⟩:=h; rfl
 | jY b i sz off=>obtain ⟨k,cap,h1,rfl⟩:=h; rfl
 | sub b lo n c sz=>obtain ⟨k,cap,a,c',h1,rfl,_⟩:=h; rfl
 | fH sz=>simp only [GC] at h; subst h; rfl
 | oK cs=>obtain ⟨p,rfl,hc⟩:=h; rfl
 | fn f caps=>obtain ⟨ks,h1,h2,rfl⟩:=h; rfl
 | opt T b=>obtain ⟨k,h1,rfl | rfl⟩:=h<;>rfl
 | jy b n=>obtain ⟨k,cap,h1,_,⟨_,rfl⟩ | ⟨_,rfl⟩⟩:=h<;>rfl
 | ru=>exact h
inductive Box where
 | absent
 | dead
 | var (xs:List AC)
 | dat (sz:Nat) (es:List (List Cell))
 | mX (sz:Nat) (es:List (List Cell))
 | row (e:Nat) (l:List UInt8)
 deriving Inhabited
def Box.uses (x:Box) (p:Option (Nat × Nat)) (k:Nat):Prop :=
 match x with
 | .var _=>∃ cap,p=some (k,cap)
 | .dat _ _=>∃ cap,p=some (k,cap)/\cap ≠ 0
 | .row _ _=>∃ cap,p=some (k,cap)/\cap ≠ 0
 | _=>False
def lQ (I:IH) (ρ:Ren) (w:World) (b:Nat):Box->Prop
 | .absent=>ρ b=none
 | .dead=>True
 | .var xs=>∃ k cap cs,ρ b=some (k,cap)/\w.heap[k]? = some (.cells cs cap (0,0))/\cs.size=xs.length /\
   ∀ (j:Nat) (u:Value) (x:AC),cs[j]? = some u->xs[j]? = some x->GC I ρ u x
 | .dat sz es=>∃ k cap,ρ b=some (k,cap)/\es.length<=cap/\cap<=maxLen/\(∀ e,e∈es->e.length=sz) /\
   (cap ≠ 0->∃ cs e,w.heap[k]? = some (.cells cs e (0,0))/\cs.size=cap*sz/\(∀ (j:Nat) (u:Value),cs[j]? = some u->u.oneCell'=true) /\
    ∀ (i j:Nat) (c:Cell),(es.getD i [])[j]? = some c->∃ u,cs[i*sz+j]? = some u/\Rd I u c)
 | .mX sz es=>∃ k cap,ρ b=some (k,cap)/\es.length<=cap/\cap<=maxLen/\(∀ e,e∈es->e.length=sz) /\
   (cap ≠ 0->∃ cs,I k=some cs /\
    ∀ (i j:Nat) (c:Cell),(es.getD i [])[j]? = some c->∃ u,cs[i*sz+j]? = some u/\Rd I u c)
 | .row e l=>∃ k cap,ρ b=some (k,cap)/\l.length<=cap/\cap<=maxLen /\
   (cap ≠ 0->∃ cs,w.heap[k]? = some (.cells cs e (0,0))/\cs.size=cap/\(∀ (j:Nat) (u:Value),cs[j]? = some u->u.oneCell'=true) /\
    ∀ (j:Nat) (x:UInt8),l[j]? = some x->cs[j]? = some (.int .u8 x.toNat))
structure BX (I:IH) (ρ:Ren) (w:World) (bx:Nat->Box):Prop where
 ok:∀ b,lQ I ρ w b (bx b)
 inj:∀ b b' k,(bx b).uses (ρ b) k->(bx b').uses (ρ b') k->b=b'
 fresh:∀ b k,(bx b).uses (ρ b) k->I k=none
theorem lQ.lt {I:IH} {ρ:Ren} {w:World} {b k:Nat} {x:Box} (h:lQ I ρ w b x) (hu:x.uses (ρ b) k):k<w.heap.size:=by
  cases x with
  | absent=>exact hu.elim
  | dead=>exact hu.elim
  | var xs =>
    obtain ⟨k',cap,cs,hr,hw,_⟩:=h
    obtain ⟨cap',hu⟩:=hu
    rw [hr] at hu
    simp only [Option.some.injEq,Prod.mk.injEq] at hu
    rw [<- hu.1]
    exact nH hw
  | mX sz es=>exact hu.elim
  | row e l =>
    obtain ⟨k',cap,hr,_,_,h⟩:=h
    obtain ⟨cap',hu,h0⟩:=hu
    rw [hr] at hu
    simp only [Option.some.injEq,Prod.mk.injEq] at hu
    obtain ⟨rfl,rfl⟩:=hu
    obtain ⟨cs,hw,_⟩:=h h0
    exact nH hw
  | dat sz es =>
    obtain ⟨k',cap,hr,_,_,_,h⟩:=h
    obtain ⟨cap',hu,h0⟩:=hu
    rw [hr] at hu
    simp only [Option.some.injEq,Prod.mk.injEq] at hu
    obtain ⟨rfl,rfl⟩:=hu
    obtain ⟨cs,e,hw,_⟩:=h h0
    exact nH hw
inductive AV where
 | one (x:AC)
 | agg (xs:List AC)
 | mG (xs:List (Bool × List AC))
 deriving Inhabited
def rV (I:IH) (ρ:Ren) (vs:List Value) (xs:List AC):Prop :=
 vs.length=xs.length/\∀ (j:Nat) (v:Value) (x:AC),vs[j]? = some v->xs[j]? = some x->GC I ρ v x
theorem rV.mono {I J:IH} (hle:I.le J) {ρ σ:Ren} (hr:ρ.le σ) {vs:List Value} {xs:List AC} (h:rV I ρ vs xs):rV J σ vs xs :=
 ⟨h.1,fun j v x hv hx=>(h.2 j v x hv hx).mono hle hr⟩
def GP (I:IH) (ρ:Ren) (v:Value) (p:Bool × List AC):Prop :=
 if p.1 then ∃ cs:Array Value,v = .agg cs/\rV I ρ cs.toList p.2 else ∃ x,p.2=[x]/\GC I ρ v x
def GV (I:IH) (ρ:Ren) (v:Value):AV->Prop
 | .one x=>GC I ρ v x
 | .agg xs=>∃ cs:Array Value,v = .agg cs/\rV I ρ cs.toList xs
 | .mG ps=>∃ vs:Array Value,v = .tuple vs/\vs.size=ps.length/\∀ (j:Nat) (v:Value) (p:Bool × List AC),vs[j]? = some v->ps[j]? = some p->GP I ρ v p
theorem GP.mono {I J:IH} (hle:I.le J) {ρ σ:Ren} (hr:ρ.le σ) {v:Value} {p:Bool × List AC} (h:GP I ρ v p):GP J σ v p:=by
 unfold GP at *
 split<;>rename_i hp
 ·rw [if_pos hp] at h; obtain ⟨cs,e,hc⟩:=h; exact ⟨cs,e,hc.mono hle hr⟩
 ·rw [if_neg hp] at h; obtain ⟨x,e,hc⟩:=h; exact ⟨x,e,hc.mono hle hr⟩
theorem GV.mono {I J:IH} (hle:I.le J) {ρ σ:Ren} (hr:ρ.le σ) {v:Value} {x:AV} (h:GV I ρ v x):GV J σ v x:=by
 cases x with
 | one x=>exact GC.mono hle hr h
 | agg xs=>obtain ⟨cs,e,hc⟩:=h; exact ⟨cs,e,hc.mono hle hr⟩
 | mG ps=>obtain ⟨vs,e,hl,hc⟩:=h; exact ⟨vs,e,hl,fun j v p hv hp=>(hc j v p hv hp).mono hle hr⟩
inductive Slot where
 | none
 | v (g:Bool) (x:AV)
def Pq (I:IH) (ρ:Ren) (v:Value):Slot->Prop
 | .none=>True
 | .v g x=>(g=true->GV I ρ v x)/\(g=false->v=undef)
theorem Pq.mono {I J:IH} (hle:I.le J) {ρ σ:Ren} (hr:ρ.le σ) {v:Value} {s:Slot} (h:Pq I ρ v s):Pq J σ v s:=by
 cases s with
 | none=>trivial
 | v g x=>exact ⟨fun hg=>(h.1 hg).mono hle hr,h.2⟩
structure bF where
 tm:Nat->Slot
 bx:Nat->Box
theorem bF.ext' {s t:bF} (h1:s.tm=t.tm) (h2:s.bx=t.bx):s=t:=by
 cases s; cases t; simp at h1 h2; rw [h1,h2]
def bF.put (st:bF) (t:Nat) (s:Slot):bF:=⟨fun t'=>if t'=t then s else st.tm t',st.bx⟩
def bF.jI (st:bF) (b:Nat) (x:Box):bF:=⟨st.tm,fun b'=>if b'=b then x else st.bx b'⟩
theorem bF.zQ (st:bF) (t t':Nat) (s:Slot):(st.put t s).tm t'=if t'=t then s else st.tm t':=rfl
theorem bF.Qy (st:bF) (t:Nat) (s:Slot):(st.put t s).bx=st.bx:=rfl
theorem bF.Pe (st:bF) (b:Nat) (x:Box):(st.jI b x).tm=st.tm:=rfl
theorem bF.gK (st:bF) (b b':Nat) (x:Box):(st.jI b x).bx b'=if b'=b then x else st.bx b':=rfl
structure GS (I:IH) (ρ:Ren) (n:Nat) (st:bF) (a:Act) (w:World):Prop where
 agree:Agree I w
 bx:BX I ρ w st.bx
 tm:∀ t,t<n->Pq I ρ (a.tmps.getD t undef) (st.tm t)
 size:a.tmps.size=n
 defers:a.defers=[]
structure vY (w w':World) (M:Nat->Prop):Prop where
 os:w'.os=w.os
 tape:w'.tape=w.tape
 output:w'.output=w.output
 size:w.heap.size<=w'.heap.size
 block:∀ k,k<w.heap.size->¬ M k->w'.heap[k]? = w.heap[k]?
theorem vY.refl (w:World) (M:Nat->Prop):vY w w M:=⟨rfl,rfl,rfl,Nat.le_refl _,fun _ _ _=>rfl⟩
theorem vY.trans {a b c:World} {M N:Nat->Prop} (h:vY a b M) (k:vY b c N) (hN:∀ x,x<a.heap.size->N x->M x):vY a c M :=
 ⟨k.os.trans h.os,k.tape.trans h.tape,k.output.trans h.output,Nat.le_trans h.size k.size,
  fun x hx hm=>(k.block x (Nat.lt_of_lt_of_le hx h.size) (fun hn=>hm (hN x hx hn))).trans (h.block x hx hm)⟩
end Go.Ab
end
section
namespace Go.Ab
open Go
inductive fV where
 | t (s:Nat)
 | k (x:AC)
 deriving Inhabited
def Slot.g:Slot->Bool
 | .none=>false
 | .v g _=>g
def Slot.x:Slot->AV
 | .none => .one .ru
 | .v _ x=>x
def fV.ev (tm:Nat->Slot):fV->Slot
 | .t s=>tm s
 | .k x => .v true (.one x)
def fV.slots:fV->List Nat
 | .t s=>[s]
 | .k _=>[]
inductive fO where
 | mv (x:fV)
 | pick (c a b:fV)
 | load (agg:Bool) (k:Nat) (p:fV)
 | store (agg:Bool) (k:Nat) (p x:fV)
 | alloc (l:Nat) (zs:List AC)
 | pO (T e l r:Nat)
 | wB (l sz n:Nat) (zs:List Cell)
 | box (l:Nat) (x:fV)
 | build (zs:List AC) (parts:List (Nat × Nat × fV))
 | bJ (l sz n:Nat) (zs:List Cell) (parts:List (Nat × fV))
 | makes (l sz bytes:Nat) (zs:List Cell) (n m:fV)
 | bin (o:BinOp) (x y:fV)
 | beq (ng:Bool) (x y:fV)
 | not (x:fV)
 | neg (x:fV)
 | uj (k:IntKind) (x:fV)
 | CY (x:fV)
 | same (x:fV)
 | JH (f:FuncId) (caps:List fV)
 | zY (x:fV) (lo hi:Option fV)
 | oO (sz:Nat) (x:fV) (lo hi:Option fV)
 | BF (sz n:Nat) (x:fV)
 | zD (x:fV)
 | eu (off:Nat) (x:fV)
 | field (agg:Bool) (off k:Nat) (x:fV)
 | mW (sz:Nat) (x i:fV)
 | Dq (sz n:Nat) (x i:fV)
 | idxs (x i:fV)
 | extract (x:fV) (i:Nat)
 | len (x:fV)
 | lens (x:fV)
 | max (x y:fV)
 | min (x y:fV)
 | append (l sz bytes:Nat) (s x:fV)
 | copy (sz:Nat) (d x:fV)
 | RF (l:Bool) (x y:fV)
 | La (x:fV)
 | uH (sz:Nat) (x:fV) (lo hi:Option fV)
 | sl3 (sz:Nat) (x lo hi mx:fV)
 | JV (l sz bytes:Nat) (s x:fV)
 | JZ (sz:Nat) (d x:fV)
 | JX (sz:Nat) (zs:List Cell) (x:fV)
 | Ld (x y:fV)
 | Qw (x y:fV)
 | Jq (x y:fV)
 | Ja (l sz bytes:Nat) (zs:List Cell) (s x:fV)
 | stop
 deriving Inhabited
def fO.gy:fO->List fV
 | .mv x | .load _ _ x | .box _ x | .not x | .neg x | .uj _ x | .CY x | .same x | .BF _ _ x | .zD x | .eu _ x | .field _ _ _ x | .extract x _ | .len x | .lens x | .La x | .JX _ _ x=>[x]
 | .pick c a b=>[c,a,b]
 | .store _ _ p x=>[p,x]
 | .alloc _ _ | .pO _ _ _ _ | .wB _ _ _ _ | .stop=>[]
 | .build _ ps=>ps.map (·.2.2)
 | .bJ _ _ _ _ ps=>ps.map (·.2)
 | .makes _ _ _ _ n m=>[n,m]
 | .bin _ x y | .beq _ x y | .mW _ x y | .Dq _ _ x y | .idxs x y | .max x y | .min x y | .append _ _ _ x y | .copy _ x y | .RF _ x y | .JV _ _ _ x y | .JZ _ x y | .Ld x y | .Jq x y | .Qw x y | .Ja _ _ _ _ x y=>[x,y]
 | .sl3 _ x a b c=>[x,a,b,c]
 | .JH _ cs=>cs
 | .zY x lo hi | .oO _ x lo hi | .uH _ x lo hi=>x::(lo.toList++hi.toList)
structure FR where
 vc:Prop
 v:AV
 sets:List (Nat × Box)
abbrev jl (k:IntKind) (n:Int):AV := .one (.c (.lit (.int k n)))
abbrev jK (b:Bool):AV := .one (.c (.lit (.bool b)))
abbrev qi (l:List UInt8):AV := .one (.c (.str l))
abbrev KC (sz:Nat) (es:List (List Cell)):AV := .one (.c (.sl sz es))
def FR.bad:FR:=⟨False,.one .ru,[]⟩
def FR.ok (v:AV):FR:=⟨True,v,[]⟩
def pW (o:BinOp) (k:IntKind) (a b:Int):FR :=
 match o with
 | .add => .ok (jl k (k.wrap (a+b)))
 | .sub => .ok (jl k (k.wrap (a-b)))
 | .mul => .ok (jl k (k.wrap (a*b)))
 | .quo=>⟨b ≠ 0,jl k (k.wrap (a.tdiv b)),[]⟩
 | .rem=>⟨b ≠ 0,jl k (a.tmod b),[]⟩
 | .xor => .ok (jl k (k.wrap (BitVec.ofInt k.bits a ^^^ BitVec.ofInt k.bits b).toNat))
 | .and => .ok (jl k (k.wrap (BitVec.ofInt k.bits a &&& BitVec.ofInt k.bits b).toNat))
 | .eql => .ok (jK (a==b))
 | .neq => .ok (jK (a != b))
 | .lss => .ok (jK (decide (a<b)))
 | .leq => .ok (jK (decide (a<=b)))
 | .gtr => .ok (jK (decide (b<a)))
 | .geq => .ok (jK (decide (b<=a)))
 | _ => .bad
def qh (o:BinOp) (a b:List UInt8):FR :=
 match o with
 | .add=>⟨a.length+b.length<=maxLen,qi (a++b),[]⟩
 | .eql => .ok (jK (a==b))
 | .neq => .ok (jK (!(a==b)))
 | .lss => .ok (jK (Op.bytesLess a b))
 | .leq => .ok (jK (Op.bytesLess a b||a==b))
 | .gtr => .ok (jK (!(Op.bytesLess a b||a==b)))
 | .geq => .ok (jK (!(Op.bytesLess a b)))
 | _ => .bad
def xM (o:BinOp) (x y:AV):FR :=
 match x,y with
 | .one (.c (.lit (.int k a))),.one (.c (.lit (.int k' b)))=>⟨k=k'/\(pW o k a b).vc,(pW o k a b).v,[]⟩
 | .one (.c (.str a)),.one (.c (.str b))=>qh o a b
 | _,_ => .bad
def Es (neg:Bool) (x y:AV):FR :=
 match x,y with
 | .one (.c (.lit (.bool a))),.one (.c (.lit (.bool b))) => .ok (jK (if neg then a != b else a==b))
 | _,_ => .bad
def xE (t:Bool) (x y:AV):AV :=
 match x,y with
 | .one (.c (.lit (.bool a))),.one (.c (.lit (.bool b)))=>jK (bif t then a else b)
 | _,_=>if t then x else y
def Box.arr:Box->Option (Nat × List (List Cell))
 | .dat sz es=>some (sz,es)
 | .mX sz es=>some (sz,es)
 | _=>none
def dataOf (bx:Nat->Box):AC->Option Cell
  | .c x=>some x
  | .fH sz=>some (.sl sz [])
  | .own b n sz=>match (bx b).arr with
    | some (_,es)=>some (.sl sz (es.take n))
    | none=>none
  | _=>none
def qy (bx:Nat->Box):List AC->Option (List Cell)
  | []=>some []
  | x::r=>match dataOf bx x,qy bx r with
    | some c,some cs=>some (c::cs)
    | _,_=>none
def fZ:List AC->List Nat
 | []=>[]
 | .own b _ _::r=>b::fZ r
 | _::r=>fZ r
def oL:Box->Box
 | .dat sz es => .mX sz es
 | x=>x
def jV (bx:Nat->Box):List AC->Prop
  | []=>True
  | .own b n sz::r=>(match (bx b).arr with
    | some (sz',es)=>sz'=sz/\n<=es.length
    | none=>False)/\jV bx r
  | _::r=>jV bx r
def Dk (bx:Nat->Box) (l:List Nat):List (Nat × Box):=l.map fun b=>(b,oL (bx b))
def AV.cells:AV->List AC
 | .one x=>[x]
 | .agg xs=>xs
 | .mG _=>[]
def AV.flat:AV->Prop
 | .mG _=>False
 | _=>True
def splice {α:Type} (xs:List α) (off:Nat) (ys:List α):List α:=xs.take off++ys++xs.drop (off+ys.length)
def jX (agg:Bool) (k:Nat) (p:AV) (bx:Nat->Box):FR :=
  match p with
  | .one (.ptr b off)=>match bx b with
    | .var xs=>if agg then ⟨off+k<=xs.length,.agg ((xs.drop off).take k),[]⟩ else match xs[off]? with
      | some x => .ok (.one x)
      | none => .bad
    | _ => .bad
  | .one (.jY b i sz off)=>match (bx b).arr with
    | some (sz',es)=>if agg then ⟨sz'=sz/\i<es.length/\off+k<=sz,.agg ((((es.getD i []).drop off).take k).map .c),[]⟩
      else ⟨sz'=sz/\i<es.length/\off<sz,.one (.c ((es.getD i []).getD off default)),[]⟩
    | _ => .bad
  | .one (.oK cs)=>if agg then ⟨k<=cs.length,.agg ((cs.take k).map .c),[]⟩ else ⟨0<cs.length,.one (.c (cs.getD 0 default)),[]⟩
  | _ => .bad
def lM (agg:Bool) (k:Nat) (p x:AV) (bx:Nat->Box):FR :=
  match x,agg with
  | .mG _,_ => .bad
  | .one _,true => .bad
  | .agg _,false => .bad
  | x,_=>match p with
    | .one (.ptr b off)=>match bx b with
      | .var xs=>⟨x.cells.length=k/\off+k<=xs.length,.one .ru,[(b,.var (splice xs off x.cells))]⟩
      | _ => .bad
    | .one (.jY b i sz off)=>match bx b,qy bx x.cells with
      | .dat sz' es,some cs=>⟨sz'=sz/\cs.length=k/\i<es.length/\off+k<=sz/\jV bx x.cells/\(fZ x.cells).contains b=false,.one .ru,Dk bx (fZ x.cells)++[(b,.dat sz (es.set i (splice (es.getD i []) off cs)))]⟩
      | _,_ => .bad
    | _ => .bad
def yV {α:Type} (zs:List α):List (Nat × List α)->List α
 | []=>zs
 | (off,xs)::r=>yV (splice zs off xs) r
def DK (n:Nat):Nat × Nat × AV->Prop
 | (off,sz,x)=>x.cells.length=sz/\off+sz<=n/\x.flat
def jQ (ev:fV->AV) (bx:Nat->Box) (n sz:Nat):List (Nat × fV)->Option (List (Nat × List Cell))
  | []=>some []
  | (i,x)::r=>match qy bx (ev x).cells,jQ ev bx n sz r with
    | some cs,some l=>some ((i,cs)::l)
    | _,_=>none
def iT (ev:fV->AV):List (Nat × fV)->List Nat
 | []=>[]
 | (_,x)::r=>fZ (ev x).cells++iT ev r
def kM (ev:fV->AV) (bx:Nat->Box):List (Nat × fV)->Prop
 | []=>True
 | (_,x)::r=>jV bx (ev x).cells/\kM ev bx r
def vk (es:List (List Cell)):List (Nat × List Cell)->List (List Cell)
 | []=>es
 | (i,cs)::r=>vk (es.set i cs) r
def bytesOf:List (List Cell)->Option (List UInt8)
  | []=>some []
  | [.lit (.int .u8 n)]::r=>match bytesOf r with
    | some l=>some (UInt8.ofNat n.toNat::l)
    | none=>none
  | _=>none
def oJ:List AV->Option (List Nat)
 | []=>some []
 | .one (.ptr b 0)::r=>(oJ r).map (b :: ·)
 | _=>none
def bnd (ev:fV->AV) (o:Option fV) (dflt:Nat):Option Int :=
  match o with
  | none=>some dflt
  | some x=>match ev x with
    | .one (.c (.lit (.int _ n)))=>some n
    | _=>none
def kD (sz:Nat) (x:AV) (bx:Nat->Box):Option (Prop × List (List Cell)) :=
  match x with
  | .one (.c (.sl sz' es))=>some (sz'=sz,es)
  | .one (.fH _)=>some (True,[])
  | .one (.own b n sz')=>match (bx b).arr with
    | some (kR,es)=>some (sz'=sz/\kR=sz/\n<=es.length,es.take n)
    | _=>none
  | .one (.sub b lo n _ sz')=>match (bx b).arr with
    | some (kR,es)=>some (sz'=sz/\kR=sz/\lo+n<=es.length,(es.drop lo).take n)
    | _=>none
  | _=>none
def lX:AV->Option (Nat × Nat × Nat × Option Nat × Nat)
 | .one (.own b n sz)=>some (b,0,n,none,sz)
 | .one (.sub b lo n c sz)=>some (b,lo,n,c,sz)
 | _=>none
def DZ (l:Bool) (x y:AV):FR :=
 match x,y with
 | .one (.c (.lit (.int k a))),.one (.c (.lit (.int _ b)))=>⟨0<=b,jl k (if l then k.wrap (a*2^(min b.toNat k.bits)) else a.fdiv (2^(min b.toNat k.bits))),[]⟩
 | _,_ => .bad
def Au (x:AV):FR :=
 match x with
 | .one (.sub _ _ _ (some c) _) => .ok (jl .i64 c)
 | .one (.fH _) => .ok (jl .i64 0)
 | _ => .bad
def qg (sz:Nat) (x:AV) (lo:Option Int) (hi:Nat->Option Int):FR :=
  match lX x with
  | some (b,l,n,c,sz')=>match lo,hi n with
    | some p,some q=>⟨sz'=sz/\0<=p/\p<=q/\q<=(match c with | some c=>c | none=>n:Nat),.one (.sub b (l+p.toNat) (q-p).toNat (c.map (· - p.toNat)) sz),[]⟩
    | _,_ => .bad
  | none => .bad
def G9 (sz:Nat) (x p q m:AV):FR :=
 match lX x,p,q,m with
 | some (_,_,n,c,sz'),.one (.c (.lit (.int _ p))),.one (.c (.lit (.int _ q))),.one (.c (.lit (.int _ m)))=>⟨sz'=sz/\0<=p/\p<=q/\q<=m/\m<=(match c with | some c=>c | none=>n:Nat),.one .ru,[]⟩
 | _,_,_,_ => .bad
def BB (l sz bytes:Nat) (s x:AV) (bx:Nat->Box):FR :=
  match kD sz x bx,s with
  | some (p,ys),.one (.sub b lo n (some c) sz')=>match bx b with
    | .dat kR es=>if n+ys.length<=c then ⟨p/\sz'=sz/\kR=sz/\lo+n<=es.length,.one (.sub b lo (n+ys.length) (some c) sz),[(b,.dat sz (splice es (lo+n) ys))]⟩
      else ⟨p/\sz'=sz/\kR=sz/\lo+n<=es.length/\(match bx l with | .absent=>True | _=>False)/\(n+ys.length)*(bytes+sz+1)<=2^46,.one (.own l (n+ys.length) sz),[(l,.dat sz ((es.drop lo).take n++ys))]⟩
    | _ => .bad
  | _,_ => .bad
def truncS (m:Nat):AV->AV
 | .one (.sub b lo n c sz) => .one (.sub b lo (min n m) c sz)
 | x=>x
def BD (sz:Nat) (d x:AV) (bx:Nat->Box):FR :=
  match lX d with
  | some (b,lo,n,_,sz')=>match kD sz (truncS n x) bx with
    | some (p,ys)=>match bx b with
      | .dat kR es=>⟨p/\sz'=sz/\kR=sz/\lo<=es.length,jl .i64 (Nat.min ys.length n:Nat),[(b,.dat sz (splice es lo (ys.take n)))]⟩
      | _ => .bad
    | none => .bad
  | none => .bad
def Bc (l sz bytes:Nat) (zs:List Cell) (s x:AV) (bx:Nat->Box):FR :=
  match s,x with
  | .one (.sub b lo n (some c) sz'),.one (.c (.lit (.int k q)))=>match bx b with
    | .dat kR es=>⟨k = .i64/\sz'=sz/\kR=sz/\lo+n<=es.length/\0<=q/\c<n+q.toNat/\(match bx l with | .absent=>True | _=>False)/\(n+q.toNat)*(bytes+sz+1)<=2^46,
        .one (.own l (n+q.toNat) sz),[(l,.dat sz ((es.drop lo).take n++List.replicate q.toNat zs))]⟩
    | _ => .bad
  | .one (.fH _),.one (.c (.lit (.int k q)))=>⟨k = .i64/\0<q/\(match bx l with | .absent=>True | _=>False)/\q.toNat*(bytes+sz+1)<=2^46,.one (.own l q.toNat sz),[(l,.dat sz (List.replicate q.toNat zs))]⟩
  | _,_ => .bad
def uZ (x y:AV):FR :=
 match x,y with
 | .one (.c (.str a)),.one (.c (.str b)) => .ok (jl .i64 (Go.Lib.compareBytes a b))
 | _,_ => .bad
def vF (x y:AV):FR :=
 match x,y with
 | .one (.c (.str a)),.one (.c (.lit (.int k c)))=>⟨k = .u8,jl .i64 (Go.Lib.indexByte a c.toNat.toUInt8),[]⟩
 | _,_ => .bad
def DI (x y:AV) (bx:Nat->Box):FR :=
  match lX x,lX y with
  | some (b,_,m,_,_),some (b',_,m',_,_)=>match bx b,bx b' with
    | .dat _ _,.dat sz _=>⟨b ≠ b'/\sz ≠ 0/\0<m/\0<m',jK false,[]⟩
    | _,_ => .bad
  | _,_ => .bad
def BC (sz:Nat) (zs:List Cell) (d:AV) (bx:Nat->Box):FR :=
  match lX d with
  | some (b,lo,n,_,sz')=>match bx b with
    | .dat kR es=>⟨sz'=sz/\kR=sz/\lo<=es.length,.mG [],[(b,.dat sz (splice es lo (List.replicate n zs)))]⟩
    | _ => .bad
  | none => .bad
def fO.f (op:fO) (ev:fV->AV) (bx:Nat->Box):FR :=
  match op with
  | .mv x => .ok (ev x)
  | .pick c a b=>match ev c with
    | .one (.c (.lit (.bool t))) => .ok (xE t (ev a) (ev b))
    | _ => .bad
  | .load agg k p=>jX agg k (ev p) bx
  | .store agg k p x=>lM agg k (ev p) (ev x) bx
  | .alloc l zs=>⟨(match bx l with | .absent=>True | _=>False),.one (.ptr l 0),[(l,.var zs)]⟩
  | .pO T e l r=>⟨(match bx l with | .absent=>True | _=>False)/\(match bx r with | .absent=>True | _=>False)/\l ≠ r,.one (.ptr l 0),[(r,.row e []),(l,.var [.opt T l,.jy r 0])]⟩
  | .wB l sz n zs=>⟨(match bx l with | .absent=>True | _=>False),.one (.jY l 0 sz 0),[(l,.dat sz (List.replicate n zs))]⟩
  | .box l x=>⟨(match bx l with | .absent=>True | _=>False)/\(ev x).flat,.one (.ptr l 0),[(l,.var (ev x).cells)]⟩
  | .build zs ps=>⟨(∀ p,p∈ps->DK zs.length (p.1,p.2.1,ev p.2.2)),.agg (yV zs (ps.map fun p=>(p.1,(ev p.2.2).cells))),[]⟩
  | .bJ l sz n zs ps=>match jQ ev bx n sz ps with
    | some l'=>⟨(match bx l with | .absent=>True | _=>False)/\(∀ p,p∈l'->p.1<n/\p.2.length=sz)/\kM ev bx ps,.one (.own l n sz),Dk bx (iT ev ps)++[(l,.dat sz (vk (List.replicate n zs) l'))]⟩
    | none => .bad
  | .makes l sz bytes zs n m=>match ev n,ev m with
    | .one (.c (.lit (.int _ n))),.one (.c (.lit (.int _ m))) =>
      ⟨(match bx l with | .absent=>True | _=>False)/\0<=n/\n<=m/\bytes*m<=2^47/\m<=2^47,.one (.own l n.toNat sz),[(l,.dat sz (List.replicate n.toNat zs))]⟩
    | _,_ => .bad
  | .bin o x y=>xM o (ev x) (ev y)
  | .beq ng x y=>Es ng (ev x) (ev y)
  | .not x=>match ev x with
    | .one (.c (.lit (.bool b))) => .ok (jK (!b))
    | _ => .bad
  | .neg x=>match ev x with
    | .one (.c (.lit (.int k n))) => .ok (jl k (k.wrap (0-n)))
    | _ => .bad
  | .uj k x=>match ev x with
    | .one (.c (.lit (.int _ n))) => .ok (jl k (k.wrap n))
    | _ => .bad
  | .CY x=>match kD 1 (ev x) bx with
    | some (p,es)=>match bytesOf es with
      | some l=>⟨p/\l.length<=maxLen,qi l,[]⟩
      | none => .bad
    | none => .bad
  | .same x=>match ev x with
    | .one (.c (.str l)) => .ok (qi l)
    | _ => .bad
  | .JH f cs=>match oJ (cs.map ev) with
    | some l => .ok (.one (.fn f l))
    | none => .bad
  | .zY x lo hi=>match ev x with
    | .one (.c (.str s))=>match bnd ev lo 0,bnd ev hi s.length with
      | some a,some b=>⟨0<=a/\a<=b/\b<=s.length,qi ((s.take b.toNat).drop a.toNat),[]⟩
      | _,_ => .bad
    | _ => .bad
  | .oO sz x lo hi=>match ev x with
    | .one (.c (.sl sz' es))=>match bnd ev lo 0,bnd ev hi es.length with
      | some a,some b=>⟨sz'=sz/\0<=a/\a<=b/\b<=es.length,KC sz ((es.take b.toNat).drop a.toNat),[]⟩
      | _,_ => .bad
    | .one (.fH sz')=>match bnd ev lo 0,bnd ev hi 0 with
      | some a,some b=>⟨a=0/\b=0,.one (.fH sz'),[]⟩
      | _,_ => .bad
    | .one (.own l n sz')=>match bnd ev lo 0,bnd ev hi n with
      | some a,some b=>⟨a=0/\0<=b/\b<=n,.one (.own l b.toNat sz'),[]⟩
      | _,_ => .bad
    | _ => .bad
  | .BF sz n x=>match ev x with
    | .one (.jY b 0 sz' 0)=>match bx b with
      | .dat kR es=>⟨sz'=sz/\kR=sz/\es.length=n/\n ≠ 0,.one (.own b n sz),[]⟩
      | _ => .bad
    | _ => .bad
  | .zD x=>match ev x with
    | .one (.ptr b o) => .ok (.one (.ptr b o))
    | .one (.jY b i sz o) => .ok (.one (.jY b i sz o))
    | .one (.oK cs) => .ok (.one (.oK cs))
    | .one (.fn f cs) => .ok (.one (.fn f cs))
    | _ => .bad
  | .eu off x=>match ev x with
    | .one (.ptr b o) => .ok (.one (.ptr b (o+off)))
    | .one (.jY b i sz o) => .ok (.one (.jY b i sz (o+off)))
    | .one (.oK cs) => .ok (.one (.oK (cs.drop off)))
    | _ => .bad
  | .field agg off k x=>match ev x with
    | .agg xs=>if agg then ⟨off+k<=xs.length,.agg ((xs.drop off).take k),[]⟩ else match xs[off]? with
      | some x => .ok (.one x)
      | none => .bad
    | _ => .bad
  | .mW sz x i=>match ev x,ev i with
    | .one (.c (.sl sz' es)),.one (.c (.lit (.int _ i)))=>⟨sz'=sz/\0<=i/\i<es.length,.one (.oK (es.getD i.toNat [])),[]⟩
    | .one (.own b n sz'),.one (.c (.lit (.int _ i)))=>⟨sz'=sz/\0<=i/\i<n,.one (.jY b i.toNat sz 0),[]⟩
    | .one (.sub b lo n _ sz'),.one (.c (.lit (.int _ i)))=>⟨sz'=sz/\0<=i/\i<n,.one (.jY b (lo+i.toNat) sz 0),[]⟩
    | _,_ => .bad
  | .Dq sz n x i=>match ev x,ev i with
    | .one (.jY b 0 sz' 0),.one (.c (.lit (.int _ i)))=>⟨sz'=sz/\0<=i/\i<n,.one (.jY b i.toNat sz 0),[]⟩
    | _,_ => .bad
  | .idxs x i=>match ev x,ev i with
    | .one (.c (.str s)),.one (.c (.lit (.int _ i)))=>⟨0<=i/\i<s.length,jl .u8 (s.getD i.toNat 0).toNat,[]⟩
    | _,_ => .bad
  | .extract x i=>match ev x with
    | .mG ps=>match ps[i]? with
      | some (true,xs) => .ok (.agg xs)
      | some (false,[x]) => .ok (.one x)
      | _ => .bad
    | _ => .bad
  | .lens x=>match ev x with
    | .one (.c (.str s)) => .ok (jl .i64 s.length)
    | _ => .bad
  | .len x=>match ev x with
    | .one (.c (.sl _ es)) => .ok (jl .i64 es.length)
    | .one (.fH _) => .ok (jl .i64 0)
    | .one (.own _ n _) => .ok (jl .i64 n)
    | .one (.sub _ _ n _ _) => .ok (jl .i64 n)
    | _ => .bad
  | .max x y=>match ev x,ev y with
    | .one (.c (.lit (.int k a))),.one (.c (.lit (.int k' b)))=>⟨k=k',jl k (if b>a then b else a),[]⟩
    | _,_ => .bad
  | .min x y=>match ev x,ev y with
    | .one (.c (.lit (.int k a))),.one (.c (.lit (.int k' b)))=>⟨k=k',jl k (if b<a then b else a),[]⟩
    | _,_ => .bad
  | .append l sz bytes s x=>match kD sz (ev x) bx with
    | some (p,ys)=>match ev s with
      | .one (.fH _)=>⟨p/\(match bx l with | .absent=>True | _=>False)/\ys.length*(bytes+sz+1)<=2^46,.one (.own l ys.length sz),[(l,.dat sz ys)]⟩
      | .one (.own b n sz')=>match bx b with
        | .dat kR es=>⟨p/\(match bx l with | .absent=>True | _=>False)/\sz'=sz/\kR=sz/\n<=es.length/\(n+ys.length)*(bytes+sz+1)<=2^46/\b ≠ l,
            .one (.own l (n+ys.length) sz),[(b,.dead),(l,.dat sz (es.take n++ys))]⟩
        | _ => .bad
      | _ => .bad
    | none => .bad
  | .copy sz d x=>match kD sz (ev x) bx with
    | some (p,ys)=>match ev d with
      | .one (.own b n sz')=>match bx b with
        | .dat kR es=>⟨p/\sz'=sz/\kR=sz/\n<=es.length,jl .i64 (Nat.min ys.length n:Nat),[(b,.dat sz (splice es 0 (ys.take n)))]⟩
        | _ => .bad
      | .one (.fH _) => .ok (jl .i64 0)
      | _ => .bad
    | none => .bad
  | .RF l x y=>DZ l (ev x) (ev y)
  | .La x=>Au (ev x)
  | .uH sz x lo hi=>qg sz (ev x) (bnd ev lo 0) (bnd ev hi)
  | .sl3 sz x p q m=>G9 sz (ev x) (ev p) (ev q) (ev m)
  | .JV l sz bytes s x=>BB l sz bytes (ev s) (ev x) bx
  | .JZ sz d x=>BD sz (ev d) (ev x) bx
  | .JX sz zs x=>BC sz zs (ev x) bx
  | .Ld x y=>uZ (ev x) (ev y)
  | .Qw x y=>DI (ev x) (ev y) bx
  | .Jq x y=>vF (ev x) (ev y)
  | .stop => .bad
  | .Ja l sz bytes zs s x=>Bc l sz bytes zs (ev s) (ev x) bx
def lvl:AV->List Nat
 | .one (.ptr b _)=>[b]
 | .one (.own b _ _)=>[b]
 | .one (.jY b _ _ _)=>[b]
 | .one (.sub b _ _ _ _)=>[b]
 | _=>[]
def fO.rd (op:fO) (ev:fV->AV):List Nat :=
 match op with
 | .load _ _ p=>lvl (ev p)
 | .store _ _ p x=>lvl (ev p)++(match ev p with | .one (.jY _ _ _ _)=>fZ (ev x).cells | _=>[])
 | .bJ l _ _ _ ps=>l::iT ev ps
 | .alloc l _ | .wB l _ _ _ | .box l _ | .makes l _ _ _ _ _=>[l]
 | .pO _ _ l r=>[l,r]
 | .CY x=>lvl (ev x)
 | .BF _ _ x=>lvl (ev x)
 | .append l _ _ s x=>l::(lvl (ev s)++lvl (ev x))
 | .copy _ d x=>lvl (ev d)++lvl (ev x)
 | .JV l _ _ s x=>l::(lvl (ev s)++lvl (ev x))
 | .JZ _ d x=>lvl (ev d)++lvl (ev x)
 | .JX _ _ x=>lvl (ev x)
 | .Qw x y=>lvl (ev x)++lvl (ev y)
 | .Ja l _ _ _ s _=>l::lvl (ev s)
 | _=>[]
end Go.Ab
end
section
namespace Go.Ab
open Go
def HY (I:IH) (ρ:Ren) (vs:List Value) (xs:List AV):Prop :=
 vs.length=xs.length/\∀ (j:Nat) (v:Value) (x:AV),vs[j]? = some v->xs[j]? = some x->GV I ρ v x
def nG (l:List Box):Nat->Box:=fun b=>l.getD b .absent
def Tabs (P:Program) (I:IH):Prop:=∀ g,P.globalNamed "internal/strconv.uint64pow10" = some g->I g=some (Lib.pow10Tab.map fun z=>Value.int .u64 z).toArray
theorem Tabs.mono {P:Program} {I J:IH} (h:Tabs P I) (hle:I.le J):Tabs P J:=fun g hg=>hle _ _ (h g hg)
def fU (P:Program) (f:FuncId) (args:List AV) (fp:List Box) (post:AV->List Box->Prop):Prop :=
  ∀ (I:IH) (ρ:Ren) (w:World) (vs:List Value),Tabs P I->Agree I w->BX I ρ w (nG fp)->HY I ρ vs args ->
    Calls P f vs.toArray w fun e w'=>∃ (v:Value) (J:IH) (σ:Ren) (r:AV) (bs:List Box),e = .returned v/\post r bs/\GV J σ v r/\Agree J w'/\BX J σ w' (nG bs) /\
      I.le J/\vY w w' (fun k=>∃ b,(nG fp b).uses (ρ b) k) /\
      (∀ b k,(nG bs b).uses (σ b) k->w.heap.size<=k\/∃ b',(nG fp b').uses (ρ b') k) /\
      (∀ k,k<w.heap.size->(¬ ∃ b,(nG fp b).uses (ρ b) k)->J k=I k) /\
      (∀ b,b<fp.length->σ b=ρ b)
def dA (P:Program) (f:FuncId) (args:List AV) (r:AV):Prop:=fU P f args [] fun r' bs=>r'=r/\bs=[]
inductive Cv (bx:Nat->Box):AC->AC->Prop
 | refl (x:AC):Cv bx x x
 | fH (sz:Nat):Cv bx (.fH sz) (.c (.sl sz []))
 | own (b n sz:Nat) (es:List (List Cell)) (h:(bx b).arr=some (sz,es)) (hn:n<=es.length):Cv bx (.own b n sz) (.c (.sl sz (es.take n)))
inductive Pn (bx:Nat->Box):List AC->List AC->Prop
 | nil:Pn bx [] []
 | cons {x y:AC} {xs ys:List AC} (h:Cv bx x y) (t:Pn bx xs ys):Pn bx (x::xs) (y::ys)
inductive QJ (bx:Nat->Box):AV->AV->Prop
 | one {x y:AC} (h:Cv bx x y):QJ bx (.one x) (.one y)
 | agg {xs ys:List AC} (h:Pn bx xs ys):QJ bx (.agg xs) (.agg ys)
inductive tN (bx:Nat->Box):List AV->List AV->Prop
 | nil:tN bx [] []
 | cons {x y:AV} {xs ys:List AV} (h:QJ bx x y) (t:tN bx xs ys):tN bx (x::xs) (y::ys)
def Cell.isLit:Cell->Bool
 | .sl _ _=>false
 | _=>true
def AC.jD:AC->Bool
 | .c _=>true
 | _=>false
def AC.isLit:AC->Bool
 | .c x=>x.isLit
 | _=>false
def AV.all (p:AC->Bool):AV->Bool
 | .one x=>p x
 | .agg xs=>xs.all p
 | .mG ps=>ps.all fun q=>q.2.all p
def AV.owns:AV->List Nat
 | .one x=>fZ [x]
 | .agg xs=>fZ xs
 | .mG ps=>ps.flatMap fun q=>fZ q.2
def bF.mX (st:bF) (bs:List Nat):bF:=⟨st.tm,fun b=>if b∈bs then oL (st.bx b) else st.bx b⟩
def bF.iD (st:bF):List (Nat × Box)->bF
 | []=>st
 | (b,x)::r=>(st.jI b x).iD r
def bF.kz (st:bF):Option Nat->Slot->bF
 | none,_=>st
 | some t,s=>st.put t s
def o9 (π:Nat->Nat):AC->AC
 | .ptr b off => .ptr (π b) off
 | .own b n sz => .own (π b) n sz
 | .sub b lo n c sz => .sub (π b) lo n c sz
 | .jY b i sz off => .jY (π b) i sz off
 | .fn f cs => .fn f (cs.map π)
 | .opt T b => .opt T (π b)
 | .jy b n => .jy (π b) n
 | x=>x
def lV (π:Nat->Nat):AV->AV
 | .one x => .one (o9 π x)
 | .agg xs => .agg (xs.map (o9 π))
 | .mG ps => .mG (ps.map fun q=>(q.1,q.2.map (o9 π)))
def lJ (π:Nat->Nat):Box->Box
 | .var xs => .var (xs.map (o9 π))
 | x=>x
def AC.iZ (m:Nat):AC->Bool
 | .ptr b _=>decide (b<m)
 | .own b _ _=>decide (b<m)
 | .sub b _ _ _ _=>decide (b<m)
 | .jY b _ _ _=>decide (b<m)
 | .fn _ cs=>cs.all fun b=>decide (b<m)
 | .opt _ b=>decide (b<m)
 | .jy b _=>decide (b<m)
 | _=>true
def Box.iZ (m:Nat):Box->Bool
 | .var xs=>xs.all (AC.iZ m)
 | _=>true
inductive uQ (P:Program) (f:FuncId) (iU:List AV) (p:Bool) (d:Option Nat) (st:bF) (K:List Nat->List Nat->bF->Prop):Prop
 | lit (ds:List AV) (r:AV) (hc:p=true->tN st.bx iU ds) (hd:ds.all (·.all AC.jD)=true) (h:p=true->dA P f ds r) (hr:r.all AC.isLit=true) (k:K (iU.flatMap AV.owns) [] (st.kz d (.v p r)))
 | pure (ds:List AV) (r:AV) (hp:p=true) (hc:tN st.bx iU ds) (hd:ds.all (·.all AC.jD)=true) (h:dA P f ds r) (hr:r.all AC.jD=true) (k:K (iU.flatMap AV.owns) (iU.flatMap AV.owns) ((st.mX (iU.flatMap AV.owns)).kz d (.v true r)))
 | gen (hp:p=true) (ds:List AV) (fp:List Box) (sg nu:List Nat) (post:AV->List Box->Prop)
   (hl:sg.length=fp.length) (hn:(sg++nu).Nodup) (hf:∀ i,i<fp.length->st.bx ((sg++nu).getD i 0)=lJ (fun b=>(sg++nu).getD b 0) (fp.getD i .absent))
   (hne:∃ r bs,post r bs) (hv:∀ b,b∈nu->st.bx b = .absent/\10<=b) (hra:(ds.all fun x=>x.all (AC.iZ fp.length))=true) (hrf:fp.all (Box.iZ fp.length)=true) (ha:iU=ds.map (lV fun b=>(sg++nu).getD b 0)) (h:fU P f ds fp post)
   (k:∀ r bs,post r bs->bs.length=(sg++nu).length /\
    K (sg++nu) (sg++nu) ((st.iD ((sg++nu).zip (bs.map (lJ fun b=>(sg++nu).getD b 0)))).kz d (.v true (lV (fun b=>(sg++nu).getD b 0) r))))
 | xP (hp:p=true) (az:List AV) (hc:tN st.bx iU az) (ds:List AV) (fp:List Box) (sg nu:List Nat) (post:AV->List Box->Prop)
   (hl:sg.length=fp.length) (hn:(sg++nu).Nodup) (hf:∀ i,i<fp.length->(st.mX (iU.flatMap AV.owns)).bx ((sg++nu).getD i 0)=lJ (fun b=>(sg++nu).getD b 0) (fp.getD i .absent))
   (hne:∃ r bs,post r bs) (hv:∀ b,b∈nu->st.bx b = .absent/\10<=b) (hra:(ds.all fun x=>x.all (AC.iZ fp.length))=true) (hrf:fp.all (Box.iZ fp.length)=true) (ha:az=ds.map (lV fun b=>(sg++nu).getD b 0)) (h:fU P f ds fp post)
   (k:∀ r bs,post r bs->bs.length=(sg++nu).length /\
    K (iU.flatMap AV.owns++(sg++nu)) (iU.flatMap AV.owns++(sg++nu)) (((st.mX (iU.flatMap AV.owns)).iD ((sg++nu).zip (bs.map (lJ fun b=>(sg++nu).getD b 0)))).kz d (.v true (lV (fun b=>(sg++nu).getD b 0) r))))
inductive DU {α:Type} (x:α):Type
 | mk
def iY (P:Program) (f:FuncId) (iU:List AV) (p:Bool) (d:Option Nat) (st:bF) (K:List Nat->List Nat->bF->Prop) (_:DU K):Prop:=uQ P f iU p d st K
inductive yt where
 | op (o:fO)
 | call (f:FuncId) (args:List fV)
 | tC (x:fV) (args:List fV)
 deriving Inhabited
structure eX where
 g:Option (Nat × Bool)
 d:Option Nat
 i:yt
 deriving Inhabited
def mO (P:Program) (f:FuncId):Bool:=match P.funcs[f]? with
 | some fn => !(fn.name == "runtime.NumGoroutine")&&fn.body.isSome
 | none=>false
def lF (tm:Nat->Slot):Option (Nat × Bool)->Prop
  | none=>True
  | some (s,_)=>match tm s with
    | .v false _=>True
    | .v true (.one (.c (.lit (.bool _))))=>True
    | _=>False
def iQ (tm:Nat->Slot):Option (Nat × Bool)->Bool
  | none=>true
  | some (s,w)=>match tm s with
    | .v true (.one (.c (.lit (.bool b))))=>b==w
    | _=>false
def fO.valid (ev:fV->Slot):fO->Prop
  | .pick c a b=>(ev c).g=true/\(match (ev c).x with
    | .one (.c (.lit (.bool t)))=>(t=true->(ev a).g=true)/\(t=false->(ev b).g=true)
    | _=>False)
  | o=>∀ x,x∈o.gy->(ev x).g=true
def aI (tm:Nat->Slot) (x:fV):AV:=(x.ev tm).x
def QW (o:fO) (p:Bool) (d:Option Nat) (st:bF) (K:List Nat->List Nat->bF->Prop):Prop :=
 (p=true->o.valid (fV.ev st.tm)/\(o.f (aI st.tm) st.bx).vc /\
  K (o.rd (aI st.tm)) ((o.f (aI st.tm) st.bx).sets.map (·.1)) ((st.iD (o.f (aI st.tm) st.bx).sets).kz d (.v true (o.f (aI st.tm) st.bx).v))) /\
 (p=false->K [] [] (st.kz d (.v false (.one .ru))))
def T (P:Program) (o:eX) (st:bF) (K:List Nat->List Nat->bF->Prop):Prop :=
  lF st.tm o.g/\match o.i with
    | .op op=>QW op (iQ st.tm o.g) o.d st K
    | .call f args=>(iQ st.tm o.g=true->∀ x,x∈args->(x.ev st.tm).g=true)/\iY P f (args.map (aI st.tm)) (iQ st.tm o.g) o.d st K .mk
    | .tC x args=>(iQ st.tm o.g=true->(x.ev st.tm).g=true/\∀ x,x∈args->(x.ev st.tm).g=true)/\match iQ st.tm o.g,aI st.tm x with
      | false,_=>iY P 0 [] false o.d st K .mk
      | true,.one (.fn f caps)=>mO P f=true/\iY P f (args.map (aI st.tm)++caps.map fun b => .one (.ptr b 0)) true o.d st K .mk
      | true,_=>False
def wpOps (P:Program):List eX->bF->(bF->Prop)->Prop
 | [],st,K=>K st
 | o::r,st,K=>T P o st fun _ _ st'=>wpOps P r st' K
def uk (a b:List Nat):Bool:=a.all fun x => !b.contains x
def lD (qx:List Nat) (rd wr:List Nat):List (Nat × List Nat × List Nat)->Bool
 | []=>true
 | (j,r,w)::l=>(qx.contains j||(uk wr r&&uk wr w&&uk rd w))&&lD qx rd wr l
def Oa (P:Program):List (eX × List Nat)->Nat->List (Nat × List Nat × List Nat)->bF->(bF->Prop)->Prop
 | [],_,_,st,K=>K st
 | (o,qx)::r,i,log,st,K=>T P o st fun rd wr st'=>lD qx rd wr log=true/\Oa P r (i+1) ((i,rd,wr)::log) st' K
def bF.keep (st:bF) (ts:List Nat):bF:=⟨fun t=>if t∈ts then st.tm t else .none,st.bx⟩
end Go.Ab
end
section
namespace Go.Ab
open Go
def bF.of (ts:List (Nat × Slot)) (bs:List (Nat × Box)):bF :=
 ⟨fun t=>match ts.find? (fun p=>p.1==t) with | some p=>p.2 | none => .none,fun b=>match bs.find? (fun p=>p.1==b) with | some p=>p.2 | none => .absent⟩
def kT:List (Nat × Slot)->Nat->Slot
 | [],_ => .none
 | (t',s)::r,t=>if t'=t then s else kT r t
def iw:List (Nat × Box)->Nat->Box
 | [],_ => .absent
 | (t',s)::r,t=>if t'=t then s else iw r t
theorem qC (ts:List (Nat × Slot)) (bs:List (Nat × Box)) (t:Nat):(bF.of ts bs).tm t=kT ts t:=by
  simp only [bF.of]
  induction ts with
  | nil=>rfl
  | cons p r ih =>
    obtain ⟨a,b⟩:=p
    by_cases h:a=t
    · subst h; simp [kT]
    · simp [kT,h,ih]
theorem nD (ts:List (Nat × Slot)) (bs:List (Nat × Box)) (t:Nat):(bF.of ts bs).bx t=iw bs t:=by
  simp only [bF.of]
  induction bs with
  | nil=>rfl
  | cons p r ih =>
    obtain ⟨a,b⟩:=p
    by_cases h:a=t
    · subst h; simp [iw]
    · simp [iw,h,ih]
theorem Qr (ts:List (Nat × Slot)) (bs:List (Nat × Box)) (t:Nat) (s:Slot):(bF.of ts bs).put t s=bF.of ((t,s)::ts) bs:=by
 apply bF.ext'
 ·funext t'; rw [qC,bF.zQ,qC,kT]; by_cases h:t'=t
  ·simp [h]
  ·rw [if_neg h,if_neg (fun e=>h e.symm)]
 ·funext b; rw [bF.Qy,nD,nD]
def setB:List (Nat × Box)->Nat->Box->List (Nat × Box)
 | [],b,x=>[(b,x)]
 | (b',y)::r,b,x=>if b'=b then (b,x)::r else (b',y)::setB r b x
theorem GM (bs:List (Nat × Box)) (b b':Nat) (x:Box):iw (setB bs b x) b'=if b'=b then x else iw bs b':=by
  induction bs with
  | nil => simp only [setB,iw]; by_cases h:b=b'
           · simp [h]
           · rw [if_neg h,if_neg (fun e=>h e.symm)]
  | cons p r ih =>
    obtain ⟨c,y⟩:=p
    simp only [setB]
    by_cases h:c=b
    · subst h
      simp only [if_true,iw]
      by_cases h':c=b'
      · simp [h']
      · rw [if_neg h',if_neg h',if_neg (fun e=>h' e.symm)]
    · rw [if_neg h]
      simp only [iw,ih]
      by_cases h':c=b'
      · subst h'; simp [h]
      · simp [h']
theorem O1 (ts:List (Nat × Slot)) (bs:List (Nat × Box)) (b:Nat) (x:Box):(bF.of ts bs).jI b x=bF.of ts (setB bs b x):=by
 apply bF.ext'
 ·funext t; rw [bF.Pe,qC,qC]
 ·funext b'; rw [bF.gK,nD,nD,GM]
def EX (ts:List (Nat × Slot)):List Nat->List (Nat × Slot)
 | []=>[]
 | t::r=>(t,kT ts t)::EX ts r
theorem O0 (ts:List (Nat × Slot)) (bs:List (Nat × Box)) (l:List Nat):(bF.of ts bs).keep l=bF.of (EX ts l) bs:=by
  apply bF.ext'
  · funext t
    simp only [bF.keep]
    rw [qC,qC]
    induction l with
    | nil=>rfl
    | cons a r ih =>
      simp only [EX,kT]
      by_cases h:a=t
      · subst h; simp
      · rw [if_neg h,<- ih]; have h':¬ t=a:=fun e=>h e.symm; simp [h']
  · funext b; simp only [bF.keep]; rw [nD,nD]
theorem JO (st:bF) (s:Slot):st.kz none s=st:=rfl
theorem JP (st:bF) (t:Nat) (s:Slot):st.kz (some t) s=st.put t s:=rfl
theorem J5 (st:bF):st.iD []=st:=rfl
theorem G8 (st:bF) (b:Nat) (x:Box) (r:List (Nat × Box)):st.iD ((b,x)::r)=(st.jI b x).iD r:=rfl
theorem Sv (tm:Nat->Slot) (s:Nat):(fV.t s).ev tm=tm s:=rfl
theorem Su (tm:Nat->Slot) (x:AC):(fV.k x).ev tm = .v true (.one x):=rfl
theorem SE (g:Bool) (x:AV):(Slot.v g x).g=g:=rfl
theorem Tj (g:Bool) (x:AV):(Slot.v g x).x=x:=rfl
end Go.Ab
end
section
namespace Go.Ab
open Go
theorem LW (w:World) (o:Obj) (r:Nat) (h:r<w.heap.size):(w.alloc o).heap[r]? = w.heap[r]? := by
 show (w.heap.push o)[r]? = w.heap[r]?
 rw [Array.getElem?_push,if_neg (Nat.ne_of_lt h)]
theorem lQ.keep {I J:IH} {ρ σ:Ren} {w w':World} {b:Nat} {x:Box} (h:lQ I ρ w b x) (hI:I.le J) (hρ:ρ.le σ) (hb:σ b=ρ b)
    (hk:∀ k,x.uses (ρ b) k->w'.heap[k]? = w.heap[k]?):lQ J σ w' b x:=by
  cases x with
  | absent=>exact hb.trans h
  | dead=>trivial
  | var xs =>
    obtain ⟨k,cap,cs,hr,hw,hs,hc⟩:=h
    exact ⟨k,cap,cs,hb.trans hr,(hk k ⟨cap,hr⟩).trans hw,hs,fun j u x hu hx=>(hc j u x hu hx).mono hI hρ⟩
  | dat sz es =>
    obtain ⟨k,cap,hr,hl,hm,hsz,hc⟩:=h
    refine ⟨k,cap,hb.trans hr,hl,hm,hsz,fun h0 => ?_⟩
    obtain ⟨cs,e,hw,hs,h1,hc⟩:=hc h0
    exact ⟨cs,e,(hk k ⟨cap,hr,h0⟩).trans hw,hs,h1,fun i j c hj=>let ⟨u,hu,hr⟩:=hc i j c hj; ⟨u,hu,hr.mono hI⟩⟩
  | mX sz es =>
    obtain ⟨k,cap,hr,hl,hm,hsz,hc⟩:=h
    refine ⟨k,cap,hb.trans hr,hl,hm,hsz,fun h0 => ?_⟩
    obtain ⟨cs,hw,hc⟩:=hc h0
    exact ⟨cs,hI _ _ hw,fun i j c hj=>let ⟨u,hu,hr⟩:=hc i j c hj; ⟨u,hu,hr.mono hI⟩⟩
  | row e l =>
    obtain ⟨k,cap,hr,hl,hm,hc⟩:=h
    refine ⟨k,cap,hb.trans hr,hl,hm,fun h0 => ?_⟩
    obtain ⟨cs,hw,hc⟩:=hc h0
    exact ⟨cs,(hk k ⟨cap,hr,h0⟩).trans hw,hc⟩
theorem BX.step {I J:IH} {ρ σ:Ren} {w w':World} {bx bx':Nat->Box} (D:Nat->Prop) (h:BX I ρ w bx) (hI:I.le J) (hρ:ρ.le σ)
  (hsame:∀ b,¬ D b->bx' b=bx b/\σ b=ρ b) (hkeep:∀ b k,¬ D b->(bx b).uses (ρ b) k->w'.heap[k]? = w.heap[k]?)
  (hok:∀ b,D b->lQ J σ w' b (bx' b)) (qH:∀ b k,D b->(bx' b).uses (σ b) k->(∀ b',¬ D b'->¬ (bx b').uses (ρ b') k)/\J k=none)
  (hinj:∀ b b' k,D b->D b'->(bx' b).uses (σ b) k->(bx' b').uses (σ b') k->b=b')
  (hJ:∀ b k,¬ D b->(bx b).uses (ρ b) k->J k=none):BX J σ w' bx':=by
 refine ⟨fun b => ?_,fun b b' k hb hb' => ?_,fun b k hb => ?_⟩
 ·by_cases hD:D b
  ·exact hok b hD
  ·obtain ⟨e1,e2⟩:=hsame b hD
   rw [e1]
   exact (h.ok b).keep hI hρ e2 fun k hk=>hkeep b k hD hk
 ·by_cases hD:D b
  ·by_cases hD':D b'
   ·exact hinj b b' k hD hD' hb hb'
   ·obtain ⟨e1,e2⟩:=hsame b' hD'
    rw [e1,e2] at hb'
    exact absurd hb' ((qH b k hD hb).1 b' hD')
  ·obtain ⟨e1,e2⟩:=hsame b hD
   rw [e1,e2] at hb
   by_cases hD':D b'
   ·exact absurd hb ((qH b' k hD' hb').1 b hD)
   ·obtain ⟨e1',e2'⟩:=hsame b' hD'
    rw [e1',e2'] at hb'
    exact h.inj b b' k hb hb'
 ·by_cases hD:D b
  ·exact (qH b k hD hb).2
  ·obtain ⟨e1,e2⟩:=hsame b hD
   rw [e1,e2] at hb
   exact hJ b k hD hb
theorem Agree.alloc {I:IH} {w:World} (h:Agree I w) (o:Obj):Agree I (w.alloc o):=fun b c hc=>by
 obtain ⟨e,fr,hw⟩:=h b c hc
 exact ⟨e,fr,(LW w o b (nH hw)).trans hw⟩
theorem Agree.other {I:IH} {w w':World} (h:Agree I w) (hk:∀ k c,I k=some c->w'.heap[k]? = w.heap[k]?):Agree I w':=fun b c hc=>by
 obtain ⟨e,fr,hw⟩:=h b c hc
 exact ⟨e,fr,(hk b c hc).trans hw⟩
theorem Agree.EY {I:IH} {w:World} (h:Agree I w) {k:Nat} (hk:w.heap.size<=k):I k=none:=by
 cases hc:I k with
 | none=>rfl
 | some c=>have:=h.lt hc; omega
def Ren.set (ρ:Ren) (l k cap:Nat):Ren:=fun b=>if b=l then some (k,cap) else ρ b
theorem Ren.uw {ρ:Ren} {l k cap:Nat} (h:ρ l=none):ρ.le (ρ.set l k cap):=fun b x hb=>by
 unfold Ren.set
 rw [if_neg (fun e=>by subst e; rw [h] at hb; cases hb)]
 exact hb
theorem Ren.fK (ρ:Ren) (l k cap:Nat):(ρ.set l k cap) l=some (k,cap):=by simp [Ren.set]
theorem Ren.je {ρ:Ren} {l k cap b:Nat} (h:b ≠ l):(ρ.set l k cap) b=ρ b:=by simp [Ren.set,h]
theorem BX.new {I:IH} {ρ:Ren} {w:World} {bx:Nat->Box} (h:BX I ρ w bx) (hA:Agree I w) {l:Nat} (hl:bx l = .absent) (cs:Array Value) (e:TypeId) (cap:Nat) (x:Box)
  (hx:lQ I (ρ.set l w.heap.size cap) (w.alloc (.cells cs e)) l x) :
  BX I (ρ.set l w.heap.size cap) (w.alloc (.cells cs e)) (fun b=>if b=l then x else bx b):=by
 have hrl:ρ l=none:=by have:=h.ok l; rwa [hl] at this
 refine BX.step (fun b=>b=l) h (IH.le_refl I) (Ren.uw hrl) ?_ ?_ ?_ ?_ ?_ ?_
 ·intro b hb
  exact ⟨by simp [hb],Ren.je hb⟩
 ·intro b k hb hk
  exact LW _ _ _ ((h.ok b).lt hk)
 ·rintro b rfl
  simpa using hx
 ·rintro b k rfl hk
  have hk':k=w.heap.size:=by
   simp only [if_true,Ren.fK] at hk
   cases x with
   | absent=>exact hk.elim
   | dead=>exact hk.elim
   | mX sz es=>exact hk.elim
   | var xs=>obtain ⟨c,hc⟩:=hk; simp at hc; exact hc.1.symm
   | dat sz es=>obtain ⟨c,hc,_⟩:=hk; simp at hc; exact hc.1.symm
   | row e l=>obtain ⟨c,hc,_⟩:=hk; simp at hc; exact hc.1.symm
  subst hk'
  exact ⟨fun b' hb' hu=>by have:=(h.ok b').lt hu; omega,hA.EY (Nat.le_refl _)⟩
 ·rintro b b' k rfl rfl _ _; rfl
 ·intro b k hb hk; exact h.fresh b k hk
theorem BX.set {I:IH} {ρ:Ren} {w w':World} {bx:Nat->Box} (h:BX I ρ w bx) {b k:Nat} (hu:(bx b).uses (ρ b) k) (x:Box) (RV:∀ k',x.uses (ρ b) k'->k'=k)
  (hk:∀ k',k' ≠ k->w'.heap[k']? = w.heap[k']?) (hx:lQ I ρ w' b x):BX I ρ w' (fun c=>if c=b then x else bx c):=by
 refine BX.step (fun c=>c=b) h (IH.le_refl I) (Ren.le_refl ρ) ?_ ?_ ?_ ?_ ?_ ?_
 ·intro c hc; exact ⟨by simp [hc],rfl⟩
 ·intro c k' hc hu'
  refine hk k' fun e=>hc ?_
  subst e
  exact h.inj c b k' hu' hu
 ·rintro c rfl; simpa using hx
 ·rintro c k' rfl hk'
  simp only [if_true] at hk'
  have:=RV k' hk'
  subst this
  exact ⟨fun b' hb' hu'=>hb' (h.inj b' c k' hu' hu),h.fresh c k' hu⟩
 ·rintro c c' k' rfl rfl _ _; rfl
 ·intro c k' hc hu'; exact h.fresh c k' hu'
structure Env (P:Program) where
 w0:World
 I0:IH
 M:Nat->Prop
 Uw:Ren
 m:Nat
 tab:Tabs P I0
structure GX {P:Program} (E:Env P) (I:IH) (ρ:Ren) (n:Nat) (st:bF) (a:Act) (w:World):Prop extends GS I ρ n st a w where
 pV:vY E.w0 w E.M
 own:∀ b k,(st.bx b).uses (ρ b) k->E.w0.heap.size<=k\/E.M k
 yg:E.I0.le I
 oz:∀ k,k<E.w0.heap.size->¬ E.M k->I k=E.I0 k
 jG:∀ b,b<E.m->ρ b=E.Uw b
theorem GX.tabs {P:Program} {E:Env P} {I:IH} {ρ:Ren} {n:Nat} {st:bF} {a:Act} {w:World} (h:GX E I ρ n st a w):Tabs P I:=E.tab.mono h.yg
theorem GX.put {P:Program} {E:Env P} {I:IH} {ρ:Ren} {n:Nat} {st:bF} {a:Act} {w:World} (h:GX E I ρ n st a w) {d:Nat} (hd:d<n) {v:Value} {s:Slot} (hv:Pq I ρ v s) :
  GX E I ρ n (st.put d s) (a.put (some d) v) w:=by
 refine { h with tm:=fun t ht => ?_,size:=by simp [Act.put,h.size],defers:=h.defers,agree:=h.agree,bx:=h.bx }
 have hdt:d<a.tmps.size:=by rw [h.size]; exact hd
 simp only [Act.put,bF.zQ]
 by_cases e:t=d
 ·subst e
  simpa [Array.getD,hdt] using hv
 ·have:=h.tm t ht
  rw [if_neg e]
  have e':d ≠ t:=fun x=>e x.symm
  simpa [Array.getD_eq_getD_getElem?,Array.getElem?_setIfInBounds,e'] using this
theorem GX.kz {P:Program} {E:Env P} {I:IH} {ρ:Ren} {n:Nat} {st:bF} {a:Act} {w:World} (h:GX E I ρ n st a w) {d:Option Nat} (hd:∀ x,d=some x->x<n) {v:Value} {s:Slot} (hv:Pq I ρ v s) :
  GX E I ρ n (st.kz d s) (a.put d v) w:=by
 cases d with
 | none=>exact h
 | some d=>exact h.put (hd d rfl) hv
theorem GX.drew {P:Program} {E:Env P} {I:IH} {ρ:Ren} {n:Nat} {st:bF} {a:Act} {w:World} (h:GX E I ρ n st a w):GX E I ρ n st a w.drew :=
 { agree:=h.agree,bx:=⟨h.bx.ok,h.bx.inj,h.bx.fresh⟩,tm:=h.tm,size:=h.size,defers:=h.defers,pV:=⟨h.pV.os,h.pV.tape,h.pV.output,h.pV.size,h.pV.block⟩,own:=h.own,yg:=h.yg,oz:=h.oz,jG:=h.jG }
theorem GX.lit {P:Program} {E:Env P} {I:IH} {ρ:Ren} {n:Nat} {st:bF} {a:Act} {w:World} (h:GX E I ρ n st a w):BX I ρ w st.bx:=h.bx
theorem GX.new {P:Program} {E:Env P} {I:IH} {ρ:Ren} {n:Nat} {st:bF} {a:Act} {w:World} (h:GX E I ρ n st a w) {l:Nat} (hl:st.bx l = .absent) (hm:E.m<=l) (cs:Array Value) (e:TypeId) (cap:Nat) (x:Box)
  (hx:lQ I (ρ.set l w.heap.size cap) (w.alloc (.cells cs e)) l x):GX E I (ρ.set l w.heap.size cap) n (st.jI l x) a (w.alloc (.cells cs e)):=by
 have hrl:ρ l=none:=by have:=h.bx.ok l; rwa [hl] at this
 have hle:=Ren.uw (ρ:=ρ) (k:=w.heap.size) (cap:=cap) hrl
 refine { agree:=h.agree.alloc _,bx:=BX.new h.bx h.agree hl cs e cap x hx,tm:=fun t ht=>(h.tm t ht).mono (IH.le_refl _) hle,size:=h.size,defers:=h.defers,pV := ?_,own := ?_,yg:=h.yg,oz:=h.oz,jG := ?_ }
 ·exact h.pV.trans (N:=fun _=>False) ⟨rfl,rfl,rfl,by simp,fun k hk _=>LW _ _ _ hk⟩ (fun _ _ hf=>hf.elim)
 ·intro b k hu
  simp only [bF.gK] at hu
  by_cases e:b=l
  ·subst e
   left
   have hs:=h.pV.size
   have hk':k=w.heap.size:=by
    simp only [if_true,Ren.fK] at hu
    cases x with
    | absent=>exact hu.elim
    | dead=>exact hu.elim
    | mX sz es=>exact hu.elim
    | var xs=>obtain ⟨c,hc⟩:=hu; simp at hc; exact hc.1.symm
    | dat sz es=>obtain ⟨c,hc,_⟩:=hu; simp at hc; exact hc.1.symm
    | row e l=>obtain ⟨c,hc,_⟩:=hu; simp at hc; exact hc.1.symm
   omega
  ·rw [if_neg e,Ren.je e] at hu
   exact h.own b k hu
 ·intro b hb
  rw [Ren.je (by omega)]
  exact h.jG b hb
theorem GX.jI {P:Program} {E:Env P} {I:IH} {ρ:Ren} {n:Nat} {st:bF} {a:Act} {w w':World} (h:GX E I ρ n st a w) {b k:Nat} (hu:(st.bx b).uses (ρ b) k) (x:Box) (RV:∀ k',x.uses (ρ b) k'->k'=k)
  (hF:vY w w' (fun k'=>k'=k)) (hx:lQ I ρ w' b x) (hsz:w'.heap.size=w.heap.size):GX E I ρ n (st.jI b x) a w':=by
 have hk:∀ k',k' ≠ k->w'.heap[k']? = w.heap[k']? := fun k' hne=>by
  by_cases hlt:k'<w.heap.size
  ·exact hF.block k' hlt hne
  ·rw [Array.getElem?_eq_none (by omega),Array.getElem?_eq_none (by omega)]
 refine { agree:=h.agree.other fun k' c hc=>hk k' fun e => ?_,bx:=BX.set h.bx hu x RV hk hx,tm:=h.tm,size:=h.size,defers:=h.defers,pV := ?_,own := ?_,yg:=h.yg,oz:=h.oz,jG:=h.jG }
 ·subst e; have:=h.bx.fresh b k' hu; rw [this] at hc; cases hc
 ·refine h.pV.trans hF fun k' hlt e => ?_
  subst e
  rcases h.own b k' hu with h1 | h1
  ·omega
  ·exact h1
 ·intro c k' hc
  simp only [bF.gK] at hc
  by_cases e:c=b
  ·subst e
   simp only [if_true] at hc
   have:=RV k' hc
   subst this
   exact h.own c k' hu
  ·rw [if_neg e] at hc; exact h.own c k' hc
end Go.Ab
end
section
namespace Go.Ab
open Go
def Oz:Value->AC->Bool
 | .int k n,.c (.lit (.int k' n'))=>k==k'&&n==n'
 | .bool b,.c (.lit (.bool b'))=>b==b'
 | .string s,.c (.str l)=>s.data.toList==l&&decide (l.length<=1000000)
 | .slice none 0 0,.fH _=>true
 | .pointer none,.c (.lit (.pointer none))=>true
 | .nilFunc,.c (.lit .nilFunc)=>true
 | .nilIface,.c (.lit .nilIface)=>true
 | _,_=>false
theorem Ie {I:IH} {ρ:Ren} {v:Value} {x:AC} (h:Oz v x=true):GC I ρ v x:=by
 unfold Oz at h
 split at h
 ·simp only [Bool.and_eq_true,beq_iff_eq] at h; obtain ⟨rfl,rfl⟩:=h; exact Rd.lit _ rfl
 ·simp only [beq_iff_eq] at h; subst h; exact Rd.lit _ rfl
 ·rename_i s l
  simp only [Bool.and_eq_true,beq_iff_eq,decide_eq_true_eq] at h
  obtain ⟨rfl,hl⟩:=h
  have:s=⟨⟨s.data.toList⟩⟩:=by cases s; rfl
  exact this ▸ Rd.str _ (by simp only [maxLen]; omega)
 ·rfl
 ·exact Rd.lit _ rfl
 ·exact Rd.lit _ rfl
 ·exact Rd.lit _ rfl
 ·cases h
def dN (n:Nat):Operand->fV->Bool
 | .tmp t,.t s=>t==s&&decide (t<n)
 | .const v,.k x=>Oz v x
 | .func f,.k (.fn g [])=>f==g
 | .global g,.k (.c (.lit (.pointer (some a))))=>a.block==g&&a.off==0&&a.spot.isNone
 | _,_=>false
section
variable {P:Program} {E:Env P} {I:IH} {ρ:Ren} {n:Nat} {st:bF} {a:Act} {w:World}
theorem Qu (h:GX E I ρ n st a w) {x:Operand} {y:fV} (hc:dN n x y=true):Pq I ρ (a.eval x) (y.ev st.tm):=by
 unfold dN at hc
 split at hc
 ·simp only [Bool.and_eq_true,beq_iff_eq,decide_eq_true_eq] at hc
  obtain ⟨rfl,hlt⟩:=hc
  exact h.tm _ hlt
 ·exact ⟨fun _=>Ie hc,fun e=>by cases e⟩
 ·simp only [beq_iff_eq] at hc
  subst hc
  exact ⟨fun _=>⟨[],rfl,by simp,rfl⟩,fun e=>by cases e⟩
 ·rename_i g ad
  simp only [Bool.and_eq_true,beq_iff_eq] at hc
  obtain ⟨⟨h1,h2⟩,h3⟩:=hc
  refine ⟨fun _ => ?_,fun e=>by cases e⟩
  have:ad=⟨g,0,none⟩:=by cases ad; simp at *; exact ⟨h1,h2,h3⟩
  subst this
  exact Rd.lit _ rfl
 ·cases hc
theorem fJ (h:GX E I ρ n st a w) {x:Operand} {y:fV} (hc:dN n x y=true) (hv:(y.ev st.tm).g=true):GV I ρ (a.eval x) (aI st.tm y):=by
 have:=Qu h hc
 unfold aI
 cases hs:y.ev st.tm with
 | none=>rw [hs] at hv; cases hv
 | v g x=>rw [hs] at hv this; exact this.1 hv
def gp (P:Program) (E:Env P) (n:Nat) (o:Oper) (a:Act) (w:World) (st:bF) (rv:AV):Prop :=
 ∃ v w' I' ρ',((execOp a.eval o).run P w = .ok (.value v) w'\/(execOp a.eval o).run P w = .ok .skip w'/\o.dst=none)/\GX E I' ρ' n st a w'/\(o.dst ≠ none->GV I' ρ' v rv)
theorem gp.val {o:Oper} {v:Value} {rv:AV} (h:GX E I ρ n st a w) (hr:(execOp a.eval o).run P w = .ok (.value v) w) (hv:GV I ρ v rv):gp P E n o a w st rv :=
 ⟨v,w,I,ρ,.inl hr,h,fun _=>hv⟩
def LZ:TypeDesc->Bool
 | .struct _ | .array _ _=>true
 | _=>false
def Af (P:Program) (t:TypeId) (agg:Bool) (k:Nat):Bool :=
 match P.underlying t,P.info? t with
 | some d,some i=>LZ d==agg&&i.size==k
 | _,_=>false
theorem sZ {t:TypeId} {agg:Bool} {k:Nat} (h:Af P t agg k=true) (w:World):(isAgg t).run P w = .ok agg w/\(sizeOf t).run P w = .ok k w:=by
 unfold Af at h
 split at h
 ·rename_i d i hd hi
  simp only [Bool.and_eq_true,beq_iff_eq] at h
  obtain ⟨rfl,rfl⟩:=h
  refine ⟨?_,by simp [sizeOf,typeInfo,hi]⟩
  cases d<;>simp [isAgg,run_underlying hd,LZ]
 ·cases h
def xm (P:Program) (t:TypeId) (k:Nat):Bool:=match P.info? t with | some i=>i.size==k | none=>false
theorem rJ {t:TypeId} {k:Nat} (h:xm P t k=true):∃ i,P.info? t=some i/\i.size=k:=by
 unfold xm at h; split at h
 ·rename_i i hi; exact ⟨i,hi,by simpa using h⟩
 ·cases h
def Lc (n:Nat) (op:Op) (y:fV):Bool:=match op with | .move x | .assign x=>dN n x y | _=>false
theorem OY {o:Oper} {y:fV} (h:GX E I ρ n st a w) (hc:Lc n o.op y=true) (hv:(y.ev st.tm).g=true):gp P E n o a w st (aI st.tm y):=by
 unfold Lc at hc
 split at hc
 ·rename_i x hx
  exact gp.val h (v:=a.eval x) (by simp [execOp,hx]) (fJ h hc hv)
 ·rename_i x hx
  exact gp.val h (v:=a.eval x) (by simp [execOp,hx]) (fJ h hc hv)
 ·cases hc
def CU (n:Nat) (op:Op) (c x y:fV):Bool:=match op with | .pick c' x' y'=>dN n c' c&&dN n x' x&&dN n y' y | _=>false
theorem sH {v:Value} {b:Bool} (h:GV I ρ v (jK b)):v = .bool b:=by
 cases h with | lit v hv=>rfl
theorem jC {v:Value} {k:IntKind} {m:Int} (h:GV I ρ v (jl k m)):v = .int k m:=by
 cases h with | lit v hv=>rfl
theorem oM {v:Value} {l:List UInt8} (h:GV I ρ v (qi l)):v = .string ⟨⟨l⟩⟩/\l.length<=maxLen:=by
 cases h with | str l hl=>exact ⟨rfl,hl⟩
theorem sJ (b:Bool):GV I ρ (.bool b) (jK b):=Rd.lit _ rfl
theorem kK (k:IntKind) (m:Int):GV I ρ (.int k m) (jl k m):=Rd.lit _ rfl
theorem Dw {l:List UInt8} (h:l.length<=maxLen):GV I ρ (.string ⟨⟨l⟩⟩) (qi l):=Rd.str l h
theorem G5 (x y:AV) {v:Value} (h:GV I ρ v x):GV I ρ v (xE true x y):=by
 unfold xE; split
 ·exact h
 ·exact h
theorem E5 (x y:AV) {v:Value} (h:GV I ρ v y):GV I ρ v (xE false x y):=by
 unfold xE; split
 ·exact h
 ·simpa using h
theorem JL {o:Oper} {c x y:fV} {t:Bool} (h:GX E I ρ n st a w) (hc:CU n o.op c x y=true) (hg:(c.ev st.tm).g=true) (ht:aI st.tm c=jK t)
  (hx:t=true->(x.ev st.tm).g=true) (hy:t=false->(y.ev st.tm).g=true):gp P E n o a w st (xE t (aI st.tm x) (aI st.tm y)):=by
 unfold CU at hc
 split at hc
 ·rename_i c' x' y' he
  simp only [Bool.and_eq_true] at hc
  have h1:=fJ h hc.1.1 hg
  rw [ht] at h1
  have h1:=sH h1
  cases t with
  | true=>exact gp.val h (v:=a.eval x') (by simp [execOp,he,h1,asBool]) (G5 _ _ (fJ h hc.1.2 (hx rfl)))
  | false=>exact gp.val h (v:=a.eval y') (by simp [execOp,he,h1,asBool]) (E5 _ _ (fJ h hc.2 (hy rfl)))
 ·cases hc
theorem toList_eq (l:List UInt8):(⟨⟨l⟩⟩:ByteArray).toList=l:=by rw [ByteArray.toList_eq]
theorem size_mk (l:List UInt8):(⟨⟨l⟩⟩:ByteArray).size=l.length:=rfl
theorem O9 {b:BinOp} {t:TypeId} {x y:Value} {u v:AV} (w:World) (hx:GV I ρ x u) (hy:GV I ρ y v) (dn:(xM b u v).vc) :
  ∃ r,(binOp b t x y).run P w = .ok r w/\GV I ρ r (xM b u v).v:=by
 unfold xM at *
 split at dn
 ·rename_i k m k' m'
  obtain ⟨rfl,dn⟩:=dn
  have h1:=jC hx
  have h2:=jC hy
  subst h1; subst h2
  cases b<;>simp only [pW,FR.bad,FR.ok] at dn ⊢ <;>
   first
   | exact dn.elim
   | (refine ⟨_,?_,kK _ _⟩; simp [binOp,Op.intArith,Op.intDiv,Op.intBits,dn])
   | (refine ⟨_,?_,sJ _⟩; simp [binOp,Op.intCmp])
 ·rename_i l l'
  obtain ⟨h1,hl⟩:=oM hx
  obtain ⟨h2,hl'⟩:=oM hy
  subst h1; subst h2
  cases b<;>simp only [qh,FR.bad,FR.ok] at dn ⊢ <;>
   first
   | exact dn.elim
   | (refine ⟨_,?_,sJ _⟩; simp only [binOp,Op.stringOp,toList_eq]; rfl)
   | skip
  refine ⟨.string ⟨⟨l++l'⟩⟩,?_,Dw (by simpa using dn)⟩
  have h63:¬ ((l.length+l'.length:Nat):Int)>IntKind.i64.max:=by
   simp only [maxLen] at dn
   have e:IntKind.i64.max=9223372036854775807:=by decide
   rw [e]
   omega
  have happ:(⟨⟨l⟩⟩:ByteArray)++⟨⟨l'⟩⟩=⟨⟨l++l'⟩⟩:=by
   apply ByteArray.ext
   simp
  simp only [binOp,Op.stringOp,size_mk]
  rw [if_neg h63,happ]
  rfl
 ·exact dn.elim
def Gl (n:Nat) (op:Op) (b:BinOp) (x y:fV):Bool:=match op with | .binOp b' _ x' y' _=>b'==b&&dN n x' x&&dN n y' y | _=>false
theorem qG (b:BinOp) (t:TypeId) (x y:Operand) (k:IntKind) (m:Int) (v:Value) (w:World):(eqGuard b t x y (.int k m) v).run P w = .ok () w:=by
 cases b<;>rfl
theorem xU (b:BinOp) (t:TypeId) (x y:Operand) (s:ByteArray) (v:Value) (w:World):(eqGuard b t x y (.string s) v).run P w = .ok () w:=by
 cases b<;>rfl
theorem pg (b:BinOp) (t:TypeId) (x y:Operand) (s:Bool) (v:Value) (w:World):(eqGuard b t x y (.bool s) v).run P w = .ok () w:=by
 cases b<;>rfl
theorem KT {o:Oper} {b:BinOp} {x y:fV} (h:GX E I ρ n st a w) (hc:Gl n o.op b x y=true) (hx:(x.ev st.tm).g=true) (hy:(y.ev st.tm).g=true)
  (dn:(xM b (aI st.tm x) (aI st.tm y)).vc):gp P E n o a w st (xM b (aI st.tm x) (aI st.tm y)).v:=by
 unfold Gl at hc
 split at hc
 ·rename_i b' t x' y' t' he
  simp only [Bool.and_eq_true,beq_iff_eq] at hc
  obtain ⟨⟨rfl,h1⟩,h2⟩:=hc
  have g1:=fJ h h1 hx
  have g2:=fJ h h2 hy
  obtain ⟨r,hr,hg⟩:=O9 (P:=P) (t:=t) w g1 g2 dn
  refine gp.val h ?_ hg
  have hq:(eqGuard b' t x' y' (a.eval x') (a.eval y')).run P w = .ok () w:=by
   unfold xM at dn
   split at dn
   ·rename_i e1 e2; rw [e1] at g1; rw [jC g1]; exact qG _ _ _ _ _ _ _ _
   ·rename_i e1 e2; rw [e1] at g1; rw [(oM g1).1]; exact xU _ _ _ _ _ _ _
   ·exact dn.elim
  simp [execOp,he,hq,hr]
 ·cases hc
def Gj (P:Program) (n:Nat) (op:Op) (ng:Bool) (x y:fV):Bool :=
 match op with
 | .binOp b t x' y' _=>(match b with | .eql => !ng | .neq=>ng | _=>false)&&(match P.underlying t with | some .bool=>true | _=>false)&&dN n x' x&&dN n y' y
 | _=>false
theorem KR {o:Oper} {ng:Bool} {x y:fV} (h:GX E I ρ n st a w) (hc:Gj P n o.op ng x y=true) (hx:(x.ev st.tm).g=true) (hy:(y.ev st.tm).g=true)
  (dn:(Es ng (aI st.tm x) (aI st.tm y)).vc):gp P E n o a w st (Es ng (aI st.tm x) (aI st.tm y)).v:=by
 unfold Gj at hc
 split at hc
 ·rename_i b t x' y' t' he
  simp only [Bool.and_eq_true] at hc
  obtain ⟨⟨⟨hb,ht⟩,h1⟩,h2⟩:=hc
  have g1:=fJ h h1 hx
  have g2:=fJ h h2 hy
  unfold Es at dn ⊢
  split at dn
  ·rename_i p q e1 e2
   rw [e1] at g1; rw [e2] at g2
   have hu:P.underlying t=some .bool:=by
    split at ht
    ·assumption
    ·cases ht
   have hd:∀ d,(Op.equalIn (d+1) t (.bool p) (.bool q)).run P w = .ok (p==q) w:=fun d=>by simp [Op.equalIn,run_underlying hu]
   have he':(Op.equal t (.bool p) (.bool q)).run P w = .ok (p==q) w:=hd 9999
   have hp:=sH g1
   have hq:=sH g2
   simp only [FR.ok]
   cases b<;>simp at hb
   ·subst hb
    refine gp.val h ?_ (sJ _)
    simp [execOp,he,hp,hq,pg,binOp,he']
   ·subst hb
    refine gp.val h ?_ (sJ _)
    simp [execOp,he,hp,hq,pg,binOp,he',bne]
  ·exact dn.elim
 ·cases hc
def Gt (n:Nat) (op:Op) (x:fV):Bool:=match op with | .unOp .not _ x'=>dN n x' x | _=>false
theorem MS {o:Oper} {x:fV} {b:Bool} (h:GX E I ρ n st a w) (hc:Gt n o.op x=true) (hx:(x.ev st.tm).g=true) (hb:aI st.tm x=jK b):gp P E n o a w st (jK (!b)):=by
 unfold Gt at hc
 split at hc
 ·rename_i t x' he
  have g1:=fJ h hc hx
  rw [hb] at g1
  have hp:=sH g1
  exact gp.val h (by simp [execOp,he,hp,Op.unary]) (sJ _)
 ·cases hc
def Gs (n:Nat) (op:Op) (x:fV):Bool:=match op with | .unOp .neg _ x'=>dN n x' x | _=>false
theorem MO {o:Oper} {x:fV} {k:IntKind} {m:Int} (h:GX E I ρ n st a w) (hc:Gs n o.op x=true) (hx:(x.ev st.tm).g=true) (hb:aI st.tm x=jl k m):gp P E n o a w st (jl k (k.wrap (0-m))):=by
 unfold Gs at hc
 split at hc
 ·rename_i t x' he
  have g1:=fJ h hc hx
  rw [hb] at g1
  have hp:=jC g1
  exact gp.val h (v := .int k (k.wrap (0-m))) (by simp [execOp,he,hp,Op.unary,Op.intArith]) (kK _ _)
 ·cases hc
def Ci (P:Program) (n:Nat) (op:Op) (k:IntKind) (x:fV):Bool:=match op with | .convert s d x'=>(match P.underlying s with | some _=>true | none=>false)&&(match P.underlying d with | some (.int k')=>k'==k | _=>false)&&dN n x' x | _=>false
theorem Jh {o:Oper} {x:fV} {k j:IntKind} {m:Int} (h:GX E I ρ n st a w) (hc:Ci P n o.op k x=true) (hx:(x.ev st.tm).g=true) (hb:aI st.tm x=jl j m):gp P E n o a w st (jl k (k.wrap m)):=by
 unfold Ci at hc
 split at hc
 ·rename_i s d x' he
  simp only [Bool.and_eq_true] at hc
  have g1:=fJ h hc.2 hx
  rw [hb] at g1
  have hp:=jC g1
  obtain ⟨⟨h1,h2⟩,_⟩:=hc
  split at h1
  ·rename_i ds hs
   split at h2
   ·rename_i k' hd
    simp only [beq_iff_eq] at h2
    subst h2
    exact gp.val h (v := .int k' (k'.wrap m)) (by simp [execOp,he,hp,convert,run_underlying hs,run_underlying hd,Conv.intToInt]) (kK _ _)
   ·cases h2
  ·cases h1
 ·cases hc
def CV (P:Program) (n:Nat) (op:Op) (x:fV):Bool:=match op with | .convert s d x'=>(match P.underlying s with | some .string=>true | _=>false)&&(match P.underlying d with | some .string=>true | _=>false)&&dN n x' x | _=>false
theorem JU {o:Oper} {x:fV} {l:List UInt8} (h:GX E I ρ n st a w) (hc:CV P n o.op x=true) (hx:(x.ev st.tm).g=true) (hb:aI st.tm x=qi l):gp P E n o a w st (qi l):=by
 unfold CV at hc
 split at hc
 ·rename_i s d x' he
  simp only [Bool.and_eq_true] at hc
  have g1:=fJ h hc.2 hx
  rw [hb] at g1
  obtain ⟨hp,hl⟩:=oM g1
  obtain ⟨⟨h1,h2⟩,_⟩:=hc
  split at h1
  ·rename_i hs
   split at h2
   ·rename_i hd
    exact gp.val h (by simp [execOp,he,hp,convert,run_underlying hs,run_underlying hd]) (Dw hl)
   ·cases h2
  ·cases h1
 ·cases hc
end
end Go.Ab
end
section
namespace Go.Ab
open Go
section
variable {P:Program} {E:Env P} {I:IH} {ρ:Ren} {n:Nat} {st:bF} {a:Act} {w:World}
theorem dS {α:Type} {es:List (List α)} {i j:Nat} {c:α} (h:(es.getD i [])[j]? = some c):i<es.length:=by
 by_cases hi:i<es.length
 ·exact hi
 ·simp [List.getD,List.getElem?_eq_none (Nat.le_of_not_lt hi)] at h
theorem Addr.add_zero (p:Addr):p.add 0=p:=by simp [Addr.add]
theorem Addr.jU (k o i:Nat):(⟨k,o,none⟩:Addr).add i=⟨k,o+i,none⟩:=by
 unfold Addr.add; split
 ·simp_all
 ·rfl
theorem Addr.add_add (p:Addr) (i j:Nat):(p.add i).add j=p.add (i+j):=by
 unfold Addr.add
 by_cases hi:i=0<;>by_cases hj:j=0<;>simp [hi,hj,Nat.add_assoc]
def kW (I:IH) (ρ:Ren) (w:World) (p:Addr) (xs:List AC):Prop :=
 ∀ (j:Nat) (x:AC),xs[j]? = some x->∃ u,w.cell? (p.add j)=some u/\GC I ρ u x
theorem kW.drop {p:Addr} {xs:List AC} (h:kW I ρ w p xs) (off:Nat):kW I ρ w (p.add off) (xs.drop off):=fun j x hj=>by
 rw [List.getElem?_drop] at hj
 rw [Addr.add_add]
 exact h _ _ hj
theorem kW.take {p:Addr} {xs:List AC} (h:kW I ρ w p xs) (k:Nat):kW I ρ w p (xs.take k):=fun j x hj=>by
 rw [List.getElem?_take] at hj
 split at hj
 ·exact h _ _ hj
 ·cases hj
theorem kW.list {p:Addr} {xs:List AC} (h:kW I ρ w p xs):∃ us:List Value,us.length=xs.length/\(∀ (j:Nat) (u:Value),us[j]? = some u->w.cell? (p.add j)=some u)/\rV I ρ us xs:=by
  induction xs generalizing p with
  | nil=>exact ⟨[],rfl,by simp,rfl,by simp⟩
  | cons x r ih =>
    obtain ⟨u,hu,hg⟩:=h 0 x rfl
    obtain ⟨us,hl,hc,hgs⟩:=ih (p:=p.add 1) (fun j y hj=>by rw [Addr.add_add]; rw [Nat.add_comm]; exact h (j+1) y (by simpa using hj))
    refine ⟨u::us,by simp [hl],fun j v hj => ?_,by simp [hl],fun j v y hv hy => ?_⟩
    · cases j with
      | zero=>simp at hj; subst hj; exact hu
      | succ j=>have:=hc j v (by simpa using hj); rwa [Addr.add_add,Nat.add_comm] at this
    · cases j with
      | zero=>simp at hv hy; subst hv; subst hy; exact hg
      | succ j=>exact hgs.2 j v y (by simpa using hv) (by simpa using hy)
theorem DV {t:TypeId} {k:Nat} (ht:Af P t true k=true) {p:Addr} {xs:List AC} (hl:xs.length=k) (h:kW I ρ w p xs) :
  ∃ v,(loadVar t p).run P w = .ok v w/\GV I ρ v (.agg xs):=by
 obtain ⟨us,N7,hc,hg⟩:=h.list
 obtain ⟨h1,h2⟩:=sZ ht w
 have h3:=run_loadCells_list (P:=P) w p us hc
 refine ⟨.agg us.toArray,?_,us.toArray,rfl,by simpa using hg⟩
 rw [N7,hl] at h3
 simp [loadVar,h1,h2,h3]
theorem DW {t:TypeId} {k:Nat} (ht:Af P t false k=true) {p:Addr} {u:Value} (h:w.cell? p=some u):(loadVar t p).run P w = .ok u w:=by
 obtain ⟨h1,h2⟩:=sZ ht w
 simp [loadVar,h1,run_load,h]
theorem BX.Kq (h:BX I ρ w st.bx) {b k cap:Nat} {xs:List AC} (hb:st.bx b = .var xs) (hr:ρ b=some (k,cap)):kW I ρ w ⟨k,0,none⟩ xs:=fun j x hj=>by
 have:=h.ok b
 rw [hb] at this
 obtain ⟨k',cap',cs,hr',hw,hs,hc⟩:=this
 rw [hr] at hr'
 simp at hr'
 obtain ⟨rfl,rfl⟩:=hr'
 have hjl:j<cs.size:=by rw [hs]; exact (List.getElem?_eq_some_iff.1 hj).1
 refine ⟨cs[j],?_,hc j _ x (Array.getElem?_eq_getElem hjl) hj⟩
 rw [Addr.jU]
 simp [World.cell?,hw,Array.getElem?_eq_getElem hjl]
theorem GS.rW (h:GX E I ρ n st a w) {b k cap sz:Nat} {es:List (List Cell)} (hb:(st.bx b).arr=some (sz,es)) (hr:ρ b=some (k,cap)) (hc:cap ≠ 0) {i:Nat} (hi:i<es.length) :
    kW I ρ w ⟨k,i*sz,none⟩ ((es.getD i []).map .c):=fun j x hj=>by
  rw [List.getElem?_map] at hj
  cases hq:(es.getD i [])[j]? with
  | none=>rw [hq] at hj; cases hj
  | some c =>
    rw [hq] at hj
    simp at hj
    subst hj
    have hok:=h.bx.ok b
    rw [Addr.jU]
    cases hx:st.bx b with
    | dat sz' es' =>
      rw [hx] at hok hb
      simp [Box.arr] at hb
      obtain ⟨rfl,rfl⟩:=hb
      obtain ⟨k',cap',hr',_,_,_,hd⟩:=hok
      rw [hr] at hr'
      simp at hr'
      obtain ⟨rfl,rfl⟩:=hr'
      obtain ⟨cs,e,hw,_,_,hcs⟩:=hd hc
      obtain ⟨u,hu,hrd⟩:=hcs i j c hq
      exact ⟨u,by simp [World.cell?,hw,hu],hrd⟩
    | mX sz' es' =>
      rw [hx] at hok hb
      simp [Box.arr] at hb
      obtain ⟨rfl,rfl⟩:=hb
      obtain ⟨k',cap',hr',_,_,_,hd⟩:=hok
      rw [hr] at hr'
      simp at hr'
      obtain ⟨rfl,rfl⟩:=hr'
      obtain ⟨cs,hI,hcs⟩:=hd hc
      obtain ⟨u,hu,hrd⟩:=hcs i j c hq
      obtain ⟨e,fr,hw⟩:=h.agree _ _ hI
      exact ⟨u,by simp [World.cell?,hw,hu],hrd⟩
    | absent=>rw [hx] at hb; cases hb
    | dead=>rw [hx] at hb; cases hb
    | var xs=>rw [hx] at hb; cases hb
    | row e l=>rw [hx] at hb; cases hb
theorem GS.oU (h:GX E I ρ n st a w) {b k cap sz:Nat} {es:List (List Cell)} (hb:(st.bx b).arr=some (sz,es)) (hr:ρ b=some (k,cap)):es.length<=cap/\cap<=maxLen/\∀ e,e∈es->e.length=sz:=by
  have hok:=h.bx.ok b
  cases hx:st.bx b with
  | dat sz' es' =>
    rw [hx] at hok hb
    simp [Box.arr] at hb
    obtain ⟨rfl,rfl⟩:=hb
    obtain ⟨k',cap',hr',h1,h2,h3,hd⟩:=hok
    rw [hr] at hr'
    simp at hr'
    obtain ⟨rfl,rfl⟩:=hr'
    exact ⟨h1,h2,h3⟩
  | mX sz' es' =>
    rw [hx] at hok hb
    simp [Box.arr] at hb
    obtain ⟨rfl,rfl⟩:=hb
    obtain ⟨k',cap',hr',h1,h2,h3,hd⟩:=hok
    rw [hr] at hr'
    simp at hr'
    obtain ⟨rfl,rfl⟩:=hr'
    exact ⟨h1,h2,h3⟩
  | absent=>rw [hx] at hb; cases hb
  | dead=>rw [hx] at hb; cases hb
  | var xs=>rw [hx] at hb; cases hb
  | row e l=>rw [hx] at hb; cases hb
def CO (P:Program) (n:Nat) (op:Op) (agg:Bool) (k:Nat) (p:fV):Bool:=match op with | .load t p'=>dN n p' p&&Af P t agg k&&(agg||k==1) | _=>false
theorem Bv {t:TypeId} {agg:Bool} {k:Nat} (h:GX E I ρ n st a w) (ht:Af P t agg k=true) {pv:Value} {p:AV} (hp:GV I ρ pv p) (dn:(jX agg k p st.bx).vc) :
  ∃ v,(Instr.loadAt t pv).run P w = .ok v w/\GV I ρ v (jX agg k p st.bx).v:=by
 have key:∀ (q:Addr) (xs:List AC) (off:Nat),pv = .pointer (some (q.add off))->kW I ρ w q xs->(agg=true->off+k<=xs.length->∃ v,(Instr.loadAt t pv).run P w = .ok v w/\GV I ρ v (.agg ((xs.drop off).take k))) /\
   (agg=false->∀ x,xs[off]? = some x->∃ v,(Instr.loadAt t pv).run P w = .ok v w/\GV I ρ v (.one x)):=by
  intro q xs off hq hc
  refine ⟨fun hA hl => ?_,fun hA x hx => ?_⟩
  ·subst hA
   obtain ⟨v,hv,hg⟩:=DV (P:=P) (xs:=(xs.drop off).take k) ht (by simp; omega) ((hc.drop off).take k)
   exact ⟨v,by simp [Instr.loadAt,hq,Instr.sureAddr,hv],hg⟩
  ·subst hA
   obtain ⟨u,hu,hg⟩:=hc off x hx
   exact ⟨u,by simp [Instr.loadAt,hq,Instr.sureAddr,DW (P:=P) ht hu],hg⟩
 unfold jX at *
 split at dn
 ·rename_i b off
  obtain ⟨kk,cap,hr,hv⟩:=hp
  split at dn
  ·rename_i xs hb
   have hc:=h.bx.Kq hb hr
   have hk:=key ⟨kk,0,none⟩ xs off (by rw [Addr.jU]; simpa using hv) hc
   try simp only [hb]
   split at dn
   ·rename_i hA; rw [if_pos hA]; exact hk.1 hA dn
   ·rename_i hA
    rw [if_neg hA]
    split at dn
    ·rename_i x hx; simp only [FR.ok]; exact hk.2 (by simpa using hA) x hx
    ·exact dn.elim
  ·exact dn.elim
 ·rename_i b i sz off
  obtain ⟨kk,cap,hr,hv⟩:=hp
  split at dn
  ·rename_i sz' es hb
   try simp only [hb]
   have facts:=GS.oU h hb hr
   split at dn
   ·rename_i hA
    rw [if_pos hA]
    obtain ⟨rfl,hi,hl⟩:=dn
    have hc:=GS.rW h hb hr (by omega) hi
    have hlen:(es.getD i []).length=sz':=facts.2.2 _ (by simp [List.getD,List.getElem?_eq_getElem hi])
    have:=(key ⟨kk,i*sz',none⟩ _ off (by rw [Addr.jU]; exact hv) hc).1 hA (by rw [List.length_map,hlen]; exact hl)
    simpa [List.map_drop,List.map_take] using this
   ·rename_i hA
    rw [if_neg hA]
    obtain ⟨rfl,hi,hl⟩:=dn
    have hc:=GS.rW h hb hr (by omega) hi
    have hlen:(es.getD i []).length=sz':=facts.2.2 _ (by simp [List.getD,List.getElem?_eq_getElem hi])
    have:=(key ⟨kk,i*sz',none⟩ _ off (by rw [Addr.jU]; exact hv) hc).2 (by simpa using hA) (.c ((es.getD i []).getD off default))
     (by rw [List.getElem?_map,List.getElem?_eq_getElem (by omega)]; simp [List.getD,List.getElem?_eq_getElem (show off<(es[i]?.getD []).length by simpa [List.getD] using (by omega:off<(es.getD i []).length))])
    exact this
  ·exact dn.elim
 ·rename_i cs
  obtain ⟨p,hv,hc⟩:=hp
  have hcc:kW I ρ w p (cs.map .c):=fun j x hj=>by
   rw [List.getElem?_map] at hj
   cases hq:cs[j]? with
   | none=>rw [hq] at hj; cases hj
   | some c=>rw [hq] at hj; simp at hj; subst hj; obtain ⟨u,hu,hr⟩:=hc j c hq; exact ⟨u,h.agree.cell hu,hr⟩
  have hk:=key p _ 0 (by rw [Addr.add_zero]; exact hv) hcc
  split at dn
  ·rename_i hA
   rw [if_pos hA]
   have:=hk.1 hA (by simpa using dn)
   simpa [List.map_take] using this
  ·rename_i hA
   rw [if_neg hA]
   have h0:cs[0]? = some (cs.getD 0 default):=by simp [List.getD,List.getElem?_eq_getElem dn]
   exact hk.2 (by simpa using hA) _ (by rw [List.getElem?_map,h0]; rfl)
 ·exact dn.elim
theorem Jw {o:Oper} {agg:Bool} {k:Nat} {p:fV} (h:GX E I ρ n st a w) (hc:CO P n o.op agg k p=true) (hx:(p.ev st.tm).g=true) (dn:(jX agg k (aI st.tm p) st.bx).vc) :
  gp P E n o a w st (jX agg k (aI st.tm p) st.bx).v:=by
 unfold CO at hc
 split at hc
 ·rename_i t p' he
  simp only [Bool.and_eq_true] at hc
  obtain ⟨v,hv,hg⟩:=Bv (P:=P) h hc.1.2 (fJ h hc.1.1 hx) dn
  exact gp.val h (by simp [execOp,he,hv]) hg
 ·cases hc
end
end Go.Ab
end
section
namespace Go.Ab
open Go
section
variable {P:Program} {E:Env P} {I:IH} {ρ:Ren} {n:Nat} {st:bF} {a:Act} {w:World}
def vG (P:Program) (t:TypeId):Bool:=match P.underlying t with | some (.slice _)=>true | _=>false
theorem tH {t:TypeId} (h:vG P t=true):∃ e,P.underlying t=some (.slice e):=by
 unfold vG at h; split at h
 ·rename_i e he; exact ⟨e,he⟩
 ·cases h
def wU (P:Program) (t:TypeId):Bool:=match P.underlying t with | some .string=>true | _=>false
theorem oH {t:TypeId} (h:wU P t=true):P.underlying t=some .string:=by
 unfold wU at h; split at h
 ·assumption
 ·cases h
theorem PI {v:Value} {sz:Nat} {es:List (List Cell)} (h:GV I ρ v (KC sz es)):∃ a cap,v = .slice a es.length cap/\es.length<=cap/\cap<=maxLen:=by
 cases h with | sl a len cap sz es u hlen hcap hmax=>subst hlen; exact ⟨a,cap,rfl,hcap,hmax⟩
def lenV (x:AV):FR:=match x with
    | .one (.c (.sl _ es)) => .ok (jl .i64 es.length)
    | .one (.fH _) => .ok (jl .i64 0)
    | .one (.own _ n _) => .ok (jl .i64 n)
    | .one (.sub _ _ n _ _) => .ok (jl .i64 n)
    | _ => .bad
theorem Qb {v:Value} {x:AV} (h:GV I ρ v x) (dn:(lenV x).vc):∃ b k c,v = .slice b k c/\(lenV x).v=jl .i64 k:=by
 unfold lenV at *
 split at dn
 ·rename_i sz es
  obtain ⟨b,c,rfl,_⟩:=PI h
  exact ⟨b,_,c,rfl,rfl⟩
 ·simp only [GV,GC] at h; exact ⟨none,0,0,h,rfl⟩
 ·obtain ⟨k,cap,b,c,_,rfl,_⟩:=h
  exact ⟨b,_,c,rfl,rfl⟩
 ·obtain ⟨k,cap,b,c,_,rfl,_⟩:=h
  exact ⟨b,_,c,rfl,rfl⟩
 ·exact dn.elim
def Gq (P:Program) (n:Nat) (op:Op) (x:fV):Bool :=
 match op with
 | .call { callee := .builtin .len,args:=⟨[x']⟩,argTypes:=⟨[t]⟩ } => dN n x' x&&vG P t
 | _=>false
theorem Md {o:Oper} {x:fV} (h:GX E I ρ n st a w) (hc:Gq P n o.op x=true) (hx:(x.ev st.tm).g=true) (dn:(lenV (aI st.tm x)).vc):gp P E n o a w st (lenV (aI st.tm x)).v:=by
 unfold Gq at hc
 split at hc
 ·rename_i x' t he
  simp only [Bool.and_eq_true] at hc
  have g:=fJ h hc.1 hx
  obtain ⟨e,ht⟩:=tH hc.2
  obtain ⟨b,k,c,hv,hr⟩:=Qb g dn
  rw [hr]
  exact gp.val h (by simp [execOp,he,resolve,invoke,builtin,Builtin.len_,run_underlying ht,hv,goInt]) (kK _ _)
 ·cases hc
def CJ (P:Program) (n:Nat) (op:Op) (x:fV):Bool :=
 match op with
 | .call { callee := .builtin .len,args:=⟨[x']⟩,argTypes:=⟨[t]⟩ } => dN n x' x&&wU P t
 | _=>false
theorem Ju {o:Oper} {x:fV} {s:List UInt8} (h:GX E I ρ n st a w) (hc:CJ P n o.op x=true) (hx:(x.ev st.tm).g=true) (hs:aI st.tm x=qi s):gp P E n o a w st (jl .i64 s.length):=by
 unfold CJ at hc
 split at hc
 ·rename_i x' t he
  simp only [Bool.and_eq_true] at hc
  have g:=fJ h hc.1 hx
  rw [hs] at g
  have ht:=oH hc.2
  obtain ⟨hv,_⟩:=oM g
  exact gp.val h (v := .int .i64 s.length) (by simp [execOp,he,resolve,invoke,builtin,Builtin.len_,run_underlying ht,hv,goInt]; rfl) (kK _ _)
 ·cases hc
def Bh (mx:Bool) (n:Nat) (op:Op) (x y:fV):Bool :=
 match op with
 | .call { callee := .builtin b,args:=⟨[x',y']⟩,argTypes:=_ } => (match b with | .max=>mx | .min => !mx | _=>false)&&dN n x' x&&dN n y' y
 | _=>false
theorem ML {o:Oper} {x y:fV} {k:IntKind} {p q:Int} (h:GX E I ρ n st a w) (hc:Bh true n o.op x y=true) (hx:(x.ev st.tm).g=true) (hy:(y.ev st.tm).g=true)
  (e1:aI st.tm x=jl k p) (e2:aI st.tm y=jl k q):gp P E n o a w st (jl k (if q>p then q else p)):=by
 unfold Bh at hc
 split at hc
 ·rename_i b x' y' ts he
  simp only [Bool.and_eq_true] at hc
  have g1:=fJ h hc.1.2 hx
  have g2:=fJ h hc.2 hy
  rw [e1] at g1; rw [e2] at g2
  have v1:=jC g1
  have v2:=jC g2
  obtain ⟨⟨hb,_⟩,_⟩:=hc
  cases b<;>simp at hb
  refine gp.val h (v := .int k (if q>p then q else p)) ?_ (kK _ _)
  simp [execOp,he,resolve,invoke,builtin,Builtin.max_,v1,v2,Builtin.max2]
 ·cases hc
theorem MM {o:Oper} {x y:fV} {k:IntKind} {p q:Int} (h:GX E I ρ n st a w) (hc:Bh false n o.op x y=true) (hx:(x.ev st.tm).g=true) (hy:(y.ev st.tm).g=true)
  (e1:aI st.tm x=jl k p) (e2:aI st.tm y=jl k q):gp P E n o a w st (jl k (if q<p then q else p)):=by
 unfold Bh at hc
 split at hc
 ·rename_i b x' y' ts he
  simp only [Bool.and_eq_true] at hc
  have g1:=fJ h hc.1.2 hx
  have g2:=fJ h hc.2 hy
  rw [e1] at g1; rw [e2] at g2
  have v1:=jC g1
  have v2:=jC g2
  obtain ⟨⟨hb,_⟩,_⟩:=hc
  cases b<;>simp at hb
  refine gp.val h (v := .int k (if q<p then q else p)) ?_ (kK _ _)
  simp [execOp,he,resolve,invoke,builtin,Builtin.min_,v1,v2,Builtin.min2]
 ·cases hc
theorem OM {v:Value} {xs:List AC} (h:GP I ρ v (true,xs)):GV I ρ v (.agg xs):=by
 simpa [GP,GV] using h
theorem LK {v:Value} {x:AC} (h:GP I ρ v (false,[x])):GV I ρ v (.one x):=by
 simp only [GP] at h
 obtain ⟨y,hy,hg⟩:=h
 simp at hy
 subst hy
 exact hg
def o5 (x:AV) (i:Nat):FR:=match x with
    | .mG ps=>match ps[i]? with
      | some (true,xs) => .ok (.agg xs)
      | some (false,[x]) => .ok (.one x)
      | _ => .bad
    | _ => .bad
def uh (n:Nat) (op:Op) (x:fV) (i:Nat):Bool:=match op with | .extract x' j=>dN n x' x&&j==i | _=>false
theorem Dc {o:Oper} {x:fV} {i:Nat} (h:GX E I ρ n st a w) (hc:uh n o.op x i=true) (hx:(x.ev st.tm).g=true) (dn:(o5 (aI st.tm x) i).vc):gp P E n o a w st (o5 (aI st.tm x) i).v:=by
 unfold uh at hc
 split at hc
 ·rename_i x' j he
  simp only [Bool.and_eq_true,beq_iff_eq] at hc
  obtain ⟨h1,rfl⟩:=hc
  have g:=fJ h h1 hx
  unfold o5 at dn ⊢
  split at dn
  ·rename_i ps e1
   rw [e1] at g
   obtain ⟨vs,hv,hs,hp⟩:=g
   have hj:∀ p,ps[j]? = some p->∃ v,vs[j]? = some v/\GP I ρ v p:=fun p hq=>by
    have hl:j<vs.size:=by rw [hs]; exact (List.getElem?_eq_some_iff.1 hq).1
    exact ⟨vs[j],Array.getElem?_eq_getElem hl,hp j _ p (Array.getElem?_eq_getElem hl) hq⟩
   split at dn
   ·rename_i xs hq
    obtain ⟨v,hv',hg⟩:=hj _ hq
    exact gp.val h (by simp [execOp,he,hv,Instr.extract,hv']) (OM hg)
   ·rename_i y hq
    obtain ⟨v,hv',hg⟩:=hj _ hq
    exact gp.val h (by simp [execOp,he,hv,Instr.extract,hv']) (LK hg)
   ·exact dn.elim
  ·exact dn.elim
 ·cases hc
def CE (P:Program) (n:Nat) (op:Op) (x i:fV):Bool:=match op with | .index t x' i'=>dN n x' x&&dN n i' i&&wU P t | _=>false
theorem Js {o:Oper} {x y:fV} {s:List UInt8} {k:IntKind} {i:Int} (h:GX E I ρ n st a w) (hc:CE P n o.op x y=true) (hx:(x.ev st.tm).g=true) (hy:(y.ev st.tm).g=true)
  (e1:aI st.tm x=qi s) (e2:aI st.tm y=jl k i) (h0:0<=i) (h1:i<s.length):gp P E n o a w st (jl .u8 (s.getD i.toNat 0).toNat):=by
 unfold CE at hc
 split at hc
 ·rename_i t x' y' he
  simp only [Bool.and_eq_true] at hc
  have g1:=fJ h hc.1.1 hx
  have g2:=fJ h hc.1.2 hy
  rw [e1] at g1; rw [e2] at g2
  obtain ⟨v1,_⟩:=oM g1
  have v2:=jC g2
  have ht:=oH hc.2
  have hi:i.toNat<s.length:=by omega
  refine gp.val h (v := .int .u8 (s.getD i.toNat 0).toNat) ?_ (kK _ _)
  have hb:(⟨⟨s⟩⟩:ByteArray)[i.toNat]? = some (s.getD i.toNat 0):=by
   have:(⟨⟨s⟩⟩:ByteArray)[i.toNat]? = some ((⟨⟨s⟩⟩:ByteArray)[i.toNat]'(by simpa [ByteArray.size] using hi)):=getElem?_pos _ _ _
   rw [this]
   simp [List.getD,List.getElem?_eq_getElem hi]
   rfl
  simp [execOp,he,Instr.index,v1,v2,asIntOf,run_underlying ht,h0,hb]
 ·cases hc
def CP (n:Nat) (op:Op) (f:FuncId) (cs:List fV):Bool:=match op with | .makeFunc (.func g) ⟨[]⟩ caps=>g==f&&(caps.size==cs.length)&&(caps.toList.zip cs).all fun p=>dN n p.1 p.2 | _=>false
theorem Oy {cs:List fV} {os:List Operand} {l:List Nat} (h:GX E I ρ n st a w) (hl:os.length=cs.length) (hc:(os.zip cs).all (fun p=>dN n p.1 p.2)=true) (hg:∀ x,x∈cs->(x.ev st.tm).g=true)
    (hk:oJ (cs.map (aI st.tm))=some l):∃ ks:List Nat,ks.length=l.length/\(∀ (j b k:Nat),l[j]? = some b->ks[j]? = some k->∃ cap,ρ b=some (k,cap))/\os.map a.eval=ks.map fun k=>Value.pointer (some ⟨k,0,none⟩):=by
  induction cs generalizing os l with
  | nil =>
    simp [oJ] at hk
    subst hk
    cases os with
    | nil=>exact ⟨[],rfl,by simp,rfl⟩
    | cons _ _=>simp at hl
  | cons c r ih =>
    cases os with
    | nil=>simp at hl
    | cons o os =>
      simp only [List.zip_cons_cons,List.all_cons,Bool.and_eq_true] at hc
      have g:=fJ h hc.1 (hg c (by simp))
      simp only [List.map_cons] at hk
      unfold oJ at hk
      split at hk
      · rename_i e; cases e
      · rename_i b r' e
        simp only [List.cons.injEq] at e
        obtain ⟨e1,rfl⟩:=e
        cases hq:oJ (r.map (aI st.tm)) with
        | none=>rw [hq] at hk; cases hk
        | some l' =>
          rw [hq] at hk
          simp at hk
          subst hk
          obtain ⟨ks,h1,h2,h3⟩:=ih (by simpa using hl) hc.2 (fun x hx=>hg x (by simp [hx])) hq
          rw [e1] at g
          obtain ⟨k,cap,hr,hv⟩:=g
          refine ⟨k::ks,by simp [h1],fun j b' k' hb hk => ?_,by simp [hv,h3]⟩
          cases j with
          | zero=>simp at hb hk; subst hb; subst hk; exact ⟨cap,hr⟩
          | succ j=>exact h2 j b' k' (by simpa using hb) (by simpa using hk)
      · cases hk
theorem JI {o:Oper} {f:FuncId} {cs:List fV} {l:List Nat} (h:GX E I ρ n st a w) (hc:CP n o.op f cs=true) (hg:∀ x,x∈cs->(x.ev st.tm).g=true)
  (hk:oJ (cs.map (aI st.tm))=some l):gp P E n o a w st (.one (.fn f l)):=by
 unfold CP at hc
 split at hc
 ·rename_i g caps he
  simp only [Bool.and_eq_true,beq_iff_eq] at hc
  obtain ⟨⟨rfl,hl⟩,hc⟩:=hc
  obtain ⟨ks,h1,h2,h3⟩:=Oy h (by simpa using hl) hc hg hk
  refine gp.val h (v := .func (.func g) #[] (caps.map a.eval)) (by simp [execOp,he,Instr.makeFunc]) ⟨ks,h1,h2,?_⟩
  congr 1
  apply Array.ext'
  simpa using h3
 ·cases hc
def qY (off:Nat) (x:AV):FR:=match x with
    | .one (.ptr b o) => .ok (.one (.ptr b (o+off)))
    | .one (.jY b i sz o) => .ok (.one (.jY b i sz (o+off)))
    | .one (.oK cs) => .ok (.one (.oK (cs.drop off)))
    | _ => .bad
theorem Lu {v:Value} {x:AV} {off:Nat} (h:GV I ρ v x) (dn:(qY off x).vc):∃ p:Addr,v = .pointer (some p)/\GV I ρ (.pointer (some (p.add off))) (qY off x).v:=by
 unfold qY at *
 split at dn
 ·rename_i b o
  obtain ⟨k,cap,hr,rfl⟩:=h
  exact ⟨_,rfl,k,cap,hr,by rw [Addr.jU]⟩
 ·rename_i b i sz o
  obtain ⟨k,cap,hr,rfl⟩:=h
  exact ⟨_,rfl,k,cap,hr,by rw [Addr.jU,Nat.add_assoc]⟩
 ·rename_i cs
  obtain ⟨p,rfl,hc⟩:=h
  exact ⟨p,rfl,_,rfl,fun j c hj=>by rw [List.getElem?_drop] at hj; rw [Addr.add_add]; exact hc _ c hj⟩
 ·exact dn.elim
def Df (P:Program) (s:TypeId) (f off:Nat) (agg:Bool) (k:Nat):Bool :=
  match P.underlying s with
  | some (.struct fs)=>match fs[f]? with
    | some Dj=>Dj.offset==off&&Af P Dj.type agg k&&k != 0
    | none=>false
  | _=>false
theorem Dh {s:TypeId} {f off:Nat} {agg:Bool} {k:Nat} (h:Df P s f off agg k=true):∃ fs Dj,P.underlying s=some (.struct fs)/\fs[f]? = some Dj/\Dj.offset=off/\Af P Dj.type agg k=true/\k ≠ 0:=by
 unfold Df at h
 split at h
 ·rename_i fs hs
  split at h
  ·rename_i Dj hf
   simp only [Bool.and_eq_true,beq_iff_eq,bne_iff_ne] at h
   exact ⟨fs,Dj,hs,hf,h.1.1,h.1.2,h.2⟩
  ·cases h
 ·cases h
def EH (P:Program) (s:TypeId) (f off:Nat):Bool :=
  match P.underlying s with
  | some (.struct fs)=>match fs[f]? with
    | some Dj=>Dj.offset==off&&(match P.info? Dj.type with | some i=>i.size != 0 | none=>false)
    | none=>false
  | _=>false
def yI (P:Program) (n:Nat) (op:Op) (off:Nat) (x:fV):Bool:=match op with | .fieldAddr s x' f=>dN n x' x&&EH P s f off | _=>false
theorem Gz {o:Oper} {x:fV} {off:Nat} (h:GX E I ρ n st a w) (hc:yI P n o.op off x=true) (hx:(x.ev st.tm).g=true) (dn:(qY off (aI st.tm x)).vc):gp P E n o a w st (qY off (aI st.tm x)).v:=by
 unfold yI at hc
 split at hc
 ·rename_i s x' f he
  simp only [Bool.and_eq_true] at hc
  have g:=fJ h hc.1 hx
  obtain ⟨p,hp,hg⟩:=Lu g dn
  obtain ⟨_,hf⟩:=hc
  unfold EH at hf
  split at hf
  ·rename_i fs hs
   split at hf
   ·rename_i Dj hfld
    simp only [Bool.and_eq_true,beq_iff_eq] at hf
    obtain ⟨rfl,hf⟩:=hf
    split at hf
    ·rename_i i hi
     simp at hf
     refine gp.val h ?_ hg
     simp [execOp,he,Instr.fieldAt,run_underlying hs,hfld,hp,Instr.sureAddr,fieldPlace,sizeOf,typeInfo,hi,hf]
    ·cases hf
   ·cases hf
  ·cases hf
 ·cases hc
def wX (x:AV):FR:=match x with
    | .one (.ptr b o) => .ok (.one (.ptr b o))
    | .one (.jY b i sz o) => .ok (.one (.jY b i sz o))
    | .one (.oK cs) => .ok (.one (.oK cs))
    | .one (.fn f cs) => .ok (.one (.fn f cs))
    | _ => .bad
def yN (n:Nat) (op:Op) (x:fV):Bool:=match op with | .nilCheck x'=>dN n x' x | _=>false
theorem GR {o:Oper} {x:fV} (h:GX E I ρ n st a w) (hc:yN n o.op x=true) (hx:(x.ev st.tm).g=true) (dn:(wX (aI st.tm x)).vc):gp P E n o a w st (wX (aI st.tm x)).v:=by
 unfold yN at hc
 split at hc
 ·rename_i x' he
  have g:=fJ h hc hx
  have key:(∃ p,a.eval x' = .pointer (some p))\/(∃ f b,a.eval x' = .func (.func f) #[] b)->(execOp a.eval o).run P w = .ok (.value (a.eval x')) w:=by
   rintro (⟨p,hp⟩ | ⟨f,b,hp⟩)<;>simp [execOp,he,hp]
  unfold wX at dn ⊢
  split at dn
  ·rename_i b o' e1; rw [e1] at g; exact gp.val h (key (by obtain ⟨k,cap,hr,hv⟩:=g; exact .inl ⟨_,hv⟩)) g
  ·rename_i b i sz o' e1; rw [e1] at g; exact gp.val h (key (by obtain ⟨k,cap,hr,hv⟩:=g; exact .inl ⟨_,hv⟩)) g
  ·rename_i cs e1; rw [e1] at g; exact gp.val h (key (by obtain ⟨p,hv,_⟩:=g; exact .inl ⟨_,hv⟩)) g
  ·rename_i f cs e1; rw [e1] at g; exact gp.val h (key (by obtain ⟨ks,_,_,hv⟩:=g; exact .inr ⟨_,_,hv⟩)) g
  ·exact dn.elim
 ·cases hc
end
end Go.Ab
end
section
namespace Go.Ab
open Go
section
variable {P:Program} {E:Env P} {I:IH} {ρ:Ren} {n:Nat} {st:bF} {a:Act} {w:World}
def wL (agg:Bool) (off k:Nat) (x:AV):FR:=match x with
    | .agg xs=>if agg then ⟨off+k<=xs.length,.agg ((xs.drop off).take k),[]⟩ else match xs[off]? with
      | some x => .ok (.one x)
      | none => .bad
    | _ => .bad
def yJ (P:Program) (n:Nat) (op:Op) (agg:Bool) (off k:Nat) (x:fV):Bool:=match op with | .field s x' f=>dN n x' x&&Df P s f off agg k | _=>false
theorem LG {vs:List Value} {xs:List AC} (h:rV I ρ vs xs) (off k:Nat):rV I ρ ((vs.drop off).take k) ((xs.drop off).take k):=by
 refine ⟨by simp [h.1],fun j v x hv hx => ?_⟩
 rw [List.getElem?_take] at hv hx
 split at hv
 ·rename_i hj
  rw [if_pos hj] at hx
  rw [List.getElem?_drop] at hv hx
  exact h.2 _ v x hv hx
 ·cases hv
theorem GG {o:Oper} {x:fV} {agg:Bool} {off k:Nat} (h:GX E I ρ n st a w) (hc:yJ P n o.op agg off k x=true) (hx:(x.ev st.tm).g=true) (dn:(wL agg off k (aI st.tm x)).vc) :
  gp P E n o a w st (wL agg off k (aI st.tm x)).v:=by
 unfold yJ at hc
 split at hc
 ·rename_i s x' f he
  simp only [Bool.and_eq_true] at hc
  have g:=fJ h hc.1 hx
  obtain ⟨fs,Dj,hs,hf,rfl,ht,hk⟩:=Dh hc.2
  obtain ⟨t1,t2⟩:=sZ ht w
  unfold wL at dn ⊢
  split at dn
  ·rename_i xs e1
   rw [e1] at g
   obtain ⟨cs,hv,hg⟩:=g
   split at dn
   ·rename_i hA
    rw [if_pos hA]
    rw [hA] at t1
    refine gp.val h (v := .agg (cs.extract Dj.offset (Dj.offset+k))) (by simp [execOp,he,Instr.field,run_underlying hs,hf,hv,asAgg,part,t1,t2]) ⟨_,rfl,?_⟩
    have:=LG hg Dj.offset k
    simpa [List.extract_eq_take_drop] using this
   ·rename_i hA
    rw [if_neg hA]
    have hA':agg=false:=by simpa using hA
    rw [hA'] at t1
    split at dn
    ·rename_i y hy
     have hl:Dj.offset<cs.size:=by
      have h1:=hg.1
      have h2:=(List.getElem?_eq_some_iff.1 hy).1
      simp at h1
      omega
     refine gp.val h (v:=cs[Dj.offset]) (by simp [execOp,he,Instr.field,run_underlying hs,hf,hv,asAgg,part,t1,Array.getElem?_eq_getElem hl]) (hg.2 Dj.offset _ y (by simp [hl]) hy)
    ·exact dn.elim
  ·exact dn.elim
 ·cases hc
def wP (sz:Nat) (x i:AV):FR:=match x,i with
    | .one (.c (.sl sz' es)),.one (.c (.lit (.int _ i)))=>⟨sz'=sz/\0<=i/\i<es.length,.one (.oK (es.getD i.toNat [])),[]⟩
    | .one (.own b n sz'),.one (.c (.lit (.int _ i)))=>⟨sz'=sz/\0<=i/\i<n,.one (.jY b i.toNat sz 0),[]⟩
    | .one (.sub b lo n _ sz'),.one (.c (.lit (.int _ i)))=>⟨sz'=sz/\0<=i/\i<n,.one (.jY b (lo+i.toNat) sz 0),[]⟩
    | _,_ => .bad
def um (P:Program) (t:TypeId) (sz:Nat):Bool:=match P.underlying t with | some (.slice e)=>xm P e sz | _=>false
theorem lT {t:TypeId} {sz:Nat} (h:um P t sz=true):∃ e i,P.underlying t=some (.slice e)/\P.info? e=some i/\i.size=sz:=by
 unfold um at h
 split at h
 ·rename_i e he; obtain ⟨i,h1,h2⟩:=rJ h; exact ⟨e,i,he,h1,h2⟩
 ·cases h
def yL (P:Program) (n:Nat) (op:Op) (sz:Nat) (x i:fV):Bool:=match op with | .indexAddr t x' i'=>dN n x' x&&dN n i' i&&um P t sz | _=>false
theorem GL {o:Oper} {x y:fV} {sz:Nat} (h:GX E I ρ n st a w) (hc:yL P n o.op sz x y=true) (hx:(x.ev st.tm).g=true) (hy:(y.ev st.tm).g=true)
    (dn:(wP sz (aI st.tm x) (aI st.tm y)).vc):gp P E n o a w st (wP sz (aI st.tm x) (aI st.tm y)).v:=by
  unfold yL at hc
  split at hc
  · rename_i t x' y' he
    simp only [Bool.and_eq_true] at hc
    have g1:=fJ h hc.1.1 hx
    have g2:=fJ h hc.1.2 hy
    obtain ⟨e,ti,ht,hi,hsz⟩:=lT hc.2
    unfold wP at dn ⊢
    split at dn
    · rename_i sz' es k i e1 e2
      obtain ⟨rfl,h0,h1⟩:=dn
      rw [e1] at g1; rw [e2] at g2
      have v2:=jC g2
      generalize hq:a.eval x'=v1 at g1
      cases g1 with | sl b len cap _ _ u hlen hcap hmax SN ha hcell hr =>
      subst hlen
      have hpos:0<es.length:=by omega
      cases hb:b with
      | none=>exact absurd hb (ha hpos)
      | some ad =>
        subst hb
        refine gp.val h (v := .pointer (some (ad.add (i.toNat*sz')))) (by simp [execOp,he,Instr.indexAt,v2,hq,asIntOf,run_underlying ht,h0,h1,sizeOf,typeInfo,hi,hsz]) ⟨_,rfl,fun j c hj => ?_⟩
        have hil:i.toNat<es.length:=by omega
        have hjl:j<sz':=by
          have:=SN (es.getD i.toNat []) (by simp [List.getD,List.getElem?_eq_getElem hil])
          rw [<- this]
          exact (List.getElem?_eq_some_iff.1 hj).1
        exact ⟨_,by rw [Addr.add_add]; exact hcell ad rfl _ j hil hjl,hr _ j c hj⟩
    · rename_i b m sz' k i e1 e2
      obtain ⟨rfl,h0,h1⟩:=dn
      rw [e1] at g1; rw [e2] at g2
      have v2:=jC g2
      obtain ⟨kk,cap,ad,c,hr,hv,hm,hcc,hcap⟩:=g1
      have hc0:cap ≠ 0:=by omega
      have had:=hcap hc0
      subst had
      refine gp.val h (v := .pointer (some ((⟨kk,0,none⟩:Addr).add (i.toNat*sz')))) (by simp [execOp,he,Instr.indexAt,v2,hv,asIntOf,run_underlying ht,h0,h1,sizeOf,typeInfo,hi,hsz]) ⟨kk,cap,hr,?_⟩
      rw [Addr.jU]
      simp
    · rename_i b lo m c0 sz' k i e1 e2
      obtain ⟨rfl,h0,h1⟩:=dn
      rw [e1] at g1; rw [e2] at g2
      have v2:=jC g2
      obtain ⟨kk,cap,ad,c,hr,hv,hm,hcc,_,hcap⟩:=g1
      have had:=hcap (.inl (by omega))
      subst had
      refine gp.val h (v := .pointer (some ((⟨kk,lo*sz',none⟩:Addr).add (i.toNat*sz')))) (by simp [execOp,he,Instr.indexAt,v2,hv,asIntOf,run_underlying ht,h0,h1,sizeOf,typeInfo,hi,hsz]) ⟨kk,cap,hr,?_⟩
      rw [Addr.jU,Nat.add_mul,Nat.add_zero]
    · exact dn.elim
  · cases hc
def ve (P:Program) (t:TypeId) (sz n:Nat):Bool:=match P.underlying t with | some (.array m e)=>m==n&&xm P e sz | _=>false
theorem vg {t:TypeId} {sz m:Nat} (h:ve P t sz m=true):∃ e i,P.underlying t=some (.array m e)/\P.info? e=some i/\i.size=sz:=by
 unfold ve at h
 split at h
 ·rename_i m' e he
  simp only [Bool.and_eq_true,beq_iff_eq] at h
  obtain ⟨rfl,h⟩:=h
  obtain ⟨i,h1,h2⟩:=rJ h
  exact ⟨e,i,he,h1,h2⟩
 ·cases h
def wH (P:Program) (n:Nat) (op:Op) (sz m:Nat) (x i:fV):Bool:=match op with | .indexAddr t x' i'=>dN n x' x&&dN n i' i&&ve P t sz m | _=>false
theorem EW {o:Oper} {x y:fV} {sz m b:Nat} {k:IntKind} {i:Int} (h:GX E I ρ n st a w) (hc:wH P n o.op sz m x y=true) (hx:(x.ev st.tm).g=true) (hy:(y.ev st.tm).g=true)
  (e1:aI st.tm x = .one (.jY b 0 sz 0)) (e2:aI st.tm y=jl k i) (h0:0<=i) (h1:i<m):gp P E n o a w st (.one (.jY b i.toNat sz 0)):=by
 unfold wH at hc
 split at hc
 ·rename_i t x' y' he
  simp only [Bool.and_eq_true] at hc
  have g1:=fJ h hc.1.1 hx
  have g2:=fJ h hc.1.2 hy
  obtain ⟨e,ti,ht,hi,hsz⟩:=vg hc.2
  rw [e1] at g1; rw [e2] at g2
  have v2:=jC g2
  obtain ⟨kk,cap,hr,hv⟩:=g1
  refine gp.val h (v := .pointer (some ((⟨kk,0*sz+0,none⟩:Addr).add (i.toNat*sz)))) (by simp [execOp,he,Instr.indexAt,v2,hv,asIntOf,run_underlying ht,Instr.sureAddr,h0,h1,sizeOf,typeInfo,hi,hsz]) ⟨kk,cap,hr,?_⟩
  rw [Addr.jU]
  simp
 ·cases hc
theorem oV {lo:Option fV} {lo':Option Operand} {d:Nat} {q:Int} (h:GX E I ρ n st a w) (hc:(match lo',lo with | none,none=>true | some x',some x=>dN n x' x | _,_=>false)=true)
  (hg:∀ x,x∈lo.toList->(x.ev st.tm).g=true) (hb:bnd (aI st.tm) lo d=some q):(lo'=none/\lo=none/\q=d)\/∃ x' k,lo'=some x'/\a.eval x' = .int k q:=by
 unfold bnd at hb
 split at hc
 ·simp at hb; exact .inl ⟨rfl,rfl,hb.symm⟩
 ·rename_i x' x
  have g:=fJ h hc (hg x (by simp))
  simp only at hb
  split at hb
  ·rename_i k m e1
   simp at hb
   subst hb
   rw [e1] at g
   exact .inr ⟨x',k,rfl,jC g⟩
  ·cases hb
 ·cases hc
def wF (n:Nat) (lo':Option Operand) (lo:Option fV):Bool:=match lo',lo with | none,none=>true | some x',some x=>dN n x' x | _,_=>false
theorem rX {lo:Option fV} {lo':Option Operand} {d:Nat} {q:Int} (h:(lo'=none/\lo=none/\q=d)\/∃ x' k,lo'=some x'/\a.eval x' = .int k q) :
  lo'.map a.eval=none/\q=d\/∃ k,lo'.map a.eval=some (.int k q):=by
 rcases h with ⟨rfl,_,e⟩ | ⟨y,k,rfl,e⟩
 ·exact .inl ⟨rfl,e⟩
 ·exact .inr ⟨k,by simp [e]⟩
theorem run_sliceBound {k:IntKind} {i:Int} {y:Nat} {c:BoundsCode} (h0:0<=i) (h1:i<=y):(Instr.sliceBound (.int k i) y c).run P w = .ok i.toNat w:=by
 simp [Instr.sliceBound,asIntOf,h0,h1]
theorem lG (isS:Bool) (len cap:Nat) (lo' hi':Option Value) {p q:Int} (hlo:lo'=none/\p=0\/∃ k,lo'=some (.int k p)) (hhi:hi'=none/\q=len\/∃ k,hi'=some (.int k q))
  (h0:0<=p) (h1:p<=q) (h2:q<=cap):(Instr.sliceBounds isS len cap lo' hi' none).run P w = .ok (p.toNat,q.toNat,cap) w:=by
 rcases hlo with ⟨rfl,rfl⟩ | ⟨k,rfl⟩<;>rcases hhi with ⟨rfl,rfl⟩ | ⟨k',rfl⟩<;>cases isS <;>
  simp (disch:=omega) [Instr.sliceBounds,run_sliceBound]
def yQ (P:Program) (n:Nat) (op:Op) (x:fV) (lo hi:Option fV):Bool:=match op with | .slice t x' lo' hi' none=>dN n x' x&&wF n lo' lo&&wF n hi' hi&&wU P t | _=>false
theorem Hf {o:Oper} {x:fV} {lo hi:Option fV} {s:List UInt8} {p q:Int} (h:GX E I ρ n st a w) (hc:yQ P n o.op x lo hi=true) (hx:(x.ev st.tm).g=true)
  (hgl:∀ x,x∈lo.toList->(x.ev st.tm).g=true) (hgh:∀ x,x∈hi.toList->(x.ev st.tm).g=true)
  (e1:aI st.tm x=qi s) (e2:bnd (aI st.tm) lo 0=some p) (e3:bnd (aI st.tm) hi s.length=some q) (h0:0<=p) (h1:p<=q) (h2:q<=s.length) :
  gp P E n o a w st (qi ((s.take q.toNat).drop p.toNat)):=by
 unfold yQ at hc
 split at hc
 ·rename_i t x' lo' hi' he
  simp only [Bool.and_eq_true] at hc
  have g1:=fJ h hc.1.1.1 hx
  have ht:=oH hc.2
  rw [e1] at g1
  obtain ⟨v1,hl⟩:=oM g1
  have b1:=oV h hc.1.1.2 hgl e2
  have b2:=oV h hc.1.2 hgh e3
  have hb:=lG (P:=P) (w:=w) false s.length s.length (lo'.map a.eval) (hi'.map a.eval) (p:=p) (q:=q)
   (rX b1) (rX b2) h0 h1 h2
  have hx:(⟨⟨s⟩⟩:ByteArray).extract p.toNat q.toNat=⟨⟨(s.take q.toNat).drop p.toNat⟩⟩:=by
   rw [Lib.extract_eq]
   simp [List.drop_take]
  refine gp.val h (v := .string ⟨⟨(s.take q.toNat).drop p.toNat⟩⟩) ?_ (Dw (by simp; omega))
  simp only [execOp,he,Instr.sliceAt,Instr.slice,v1,Option.map_none]
  simp [run_underlying ht]
  rw [show (⟨⟨s⟩⟩:ByteArray).size=s.length from rfl,hb]
  simp [hx]
 ·cases hc
def BG (sz:Nat) (x:AV) (lo:Option Int) (hi:Nat->Option Int):FR:=match x with
    | .one (.c (.sl sz' es))=>match lo,hi es.length with
      | some a,some b=>⟨sz'=sz/\0<=a/\a<=b/\b<=es.length,KC sz ((es.take b.toNat).drop a.toNat),[]⟩
      | _,_ => .bad
    | .one (.fH sz')=>match lo,hi 0 with
      | some a,some b=>⟨a=0/\b=0,.one (.fH sz'),[]⟩
      | _,_ => .bad
    | .one (.own l n sz')=>match lo,hi n with
      | some a,some b=>⟨a=0/\0<=b/\b<=n,.one (.own l b.toNat sz'),[]⟩
      | _,_ => .bad
    | _ => .bad
theorem Qz {v:Value} {sz:Nat} {es:List (List Cell)} (h:Rd I v (.sl sz es)) {p q:Nat} (hpq:p<=q) (hq:q<=es.length):∃ a cap,v = .slice a es.length cap/\es.length<=cap /\
    Rd I (.slice (if cap=p then a else a.map (·.add (p*sz))) (q-p) (cap-p)) (.sl sz ((es.take q).drop p)):=by
  cases h with | sl a len cap sz es u hlen hcap hmax hsz ha hcell hr =>
  subst hlen
  refine ⟨a,cap,rfl,hcap,?_⟩
  refine Rd.sl _ _ _ _ _ (fun i j=>u (p+i) j) (by simp; omega) (by omega) (by omega) ?_ ?_ ?_ ?_
  · intro e he
    exact hsz e (List.mem_of_mem_take (List.mem_of_mem_drop he))
  · intro h0
    rw [if_neg (by omega)]
    have:=ha (by omega)
    cases a with
    | none=>exact absurd rfl this
    | some ad=>simp
  · intro ad had i j hi hj
    rw [if_neg (by omega)] at had
    cases a with
    | none=>simp at had
    | some ad' =>
      simp at had
      subst had
      rw [Addr.add_add,<- hcell ad' rfl (p+i) j (by omega) hj]
      congr 2
      rw [Nat.add_mul,Nat.add_assoc]
  · intro i j c hc
    have hi:=dS hc
    simp at hi
    refine hr (p+i) j c ?_
    rw [<- hc]
    congr 1
    simp only [List.getD]
    rw [List.getElem?_drop,List.getElem?_take,if_pos (by omega)]
def CX (P:Program) (n:Nat) (op:Op) (sz:Nat) (x:fV) (lo hi:Option fV):Bool:=match op with | .slice t x' lo' hi' none=>dN n x' x&&wF n lo' lo&&wF n hi' hi&&um P t sz | _=>false
theorem J6 {o:Oper} {sz:Nat} {x:fV} {lo hi:Option fV} (h:GX E I ρ n st a w) (hc:CX P n o.op sz x lo hi=true) (hx:(x.ev st.tm).g=true)
  (hgl:∀ x,x∈lo.toList->(x.ev st.tm).g=true) (hgh:∀ x,x∈hi.toList->(x.ev st.tm).g=true)
  (dn:(BG sz (aI st.tm x) (bnd (aI st.tm) lo 0) (bnd (aI st.tm) hi)).vc):gp P E n o a w st (BG sz (aI st.tm x) (bnd (aI st.tm) lo 0) (bnd (aI st.tm) hi)).v:=by
 unfold CX at hc
 split at hc
 ·rename_i t x' lo' hi' he
  simp only [Bool.and_eq_true] at hc
  have g1:=fJ h hc.1.1.1 hx
  obtain ⟨e,ti,ht,hti,hsz⟩:=lT hc.2
  have key:∀ (b:Option Addr) (len cap:Nat) (p q:Int),a.eval x' = .slice b len cap->len<=cap->bnd (aI st.tm) lo 0=some p->bnd (aI st.tm) hi len=some q->0<=p->p<=q->q<=cap ->
    (execOp a.eval o).run P w = .ok (.value (.slice (if cap=p.toNat then b else b.map (·.add (p.toNat*sz))) (q.toNat-p.toNat) (cap-p.toNat))) w:=by
   intro b len cap p q hv hlc e2 e3 h0 h1 h2
   have b1:=oV h hc.1.1.2 hgl e2
   have b2:=oV h hc.1.2 hgh e3
   have hb:=lG (P:=P) (w:=w) true len cap (lo'.map a.eval) (hi'.map a.eval) (p:=p) (q:=q)
    (rX b1) (rX b2) h0 h1 h2
   simp only [execOp,he,Instr.sliceAt,Instr.slice,hv,Option.map_none]
   simp [run_underlying ht]
   rw [hb]
   simp [sizeOf,typeInfo,hti,hsz]
  unfold BG at dn ⊢
  split at dn
  ·rename_i sz' es e1
   rw [e1] at g1
   split at dn
   ·rename_i p q e2 e3
    obtain ⟨rfl,h0,h1,h2⟩:=dn
    obtain ⟨b,cap,hv,hcap,hr⟩:=Qz g1 (p:=p.toNat) (q:=q.toNat) (by omega) (by omega)
    exact gp.val h (key b _ cap p q hv hcap e2 e3 h0 h1 (by omega)) hr
   ·exact dn.elim
  ·rename_i sz' e1
   rw [e1] at g1
   split at dn
   ·rename_i p q e2 e3
    obtain ⟨rfl,rfl⟩:=dn
    have:=key none 0 0 0 0 g1 (Nat.le_refl _) e2 e3 (by omega) (by omega) (by omega)
    exact gp.val h this (by simp [GV,GC])
   ·exact dn.elim
  ·rename_i b m sz' e1
   rw [e1] at g1
   split at dn
   ·rename_i p q e2 e3
    obtain ⟨rfl,h1,h2⟩:=dn
    obtain ⟨kk,cap,ad,c,hr,hv,hm,hcc,hcap⟩:=g1
    have:=key ad m c 0 q hv hm e2 e3 (by omega) (by omega) (by omega)
    refine gp.val h this ⟨kk,cap,_,_,hr,rfl,by omega,by omega,fun hc0 => ?_⟩
    rw [hcap hc0]
    simp [Addr.add_zero]
   ·exact dn.elim
  ·exact dn.elim
 ·cases hc
def yP (P:Program) (n:Nat) (op:Op) (sz m:Nat) (x:fV):Bool:=match op with | .slice t x' none none none=>dN n x' x&&ve P t sz m | _=>false
theorem He {o:Oper} {sz m b:Nat} {es:List (List Cell)} {x:fV} (h:GX E I ρ n st a w) (hc:yP P n o.op sz m x=true) (hx:(x.ev st.tm).g=true)
  (e1:aI st.tm x = .one (.jY b 0 sz 0)) (e2:st.bx b = .dat sz es) (hm:es.length=m):gp P E n o a w st (.one (.own b m sz)):=by
 unfold yP at hc
 split at hc
 ·rename_i t x' he
  simp only [Bool.and_eq_true] at hc
  have g1:=fJ h hc.1 hx
  rw [e1] at g1
  obtain ⟨kk,cap,hr,hv⟩:=g1
  obtain ⟨e,ti,ht,hi',hsz⟩:=vg hc.2
  have facts:=GS.oU h (b:=b) (by rw [e2]; rfl) hr
  refine gp.val h (v := .slice (some ⟨kk,0,none⟩) m m) ?_ ⟨kk,cap,_,_,hr,rfl,Nat.le_refl _,by omega,fun _=>rfl⟩
  have hb:=lG (P:=P) (w:=w) false m m none none (p:=0) (q:=m) (.inl ⟨rfl,rfl⟩) (.inl ⟨rfl,rfl⟩) (by omega) (by omega) (by omega)
  simp only [execOp,he,Instr.sliceAt,hv,Option.map_none]
  simp [run_underlying ht,Instr.sureAddr]
  rw [hb]
  simp [sizeOf,typeInfo,hi',Addr.add_zero]
 ·cases hc
end
end Go.Ab
end
section
namespace Go.Ab
open Go
section
variable {P:Program} {E:Env P} {I:IH} {ρ:Ren} {n:Nat} {st:bF} {a:Act} {w:World}
theorem gX {α:Type} (xs ys:List α) (off j:Nat) (h:off+ys.length<=xs.length):(splice xs off ys)[j]? = if j<off then xs[j]? else if j<off+ys.length then ys[j-off]? else xs[j]? := by
 unfold splice
 have h1:(xs.take off).length=off:=by simp; omega
 by_cases hj:j<off
 ·rw [if_pos hj,List.append_assoc,List.getElem?_append_left (by omega),List.getElem?_take,if_pos hj]
 ·rw [if_neg hj]
  by_cases hj2:j<off+ys.length
  ·rw [if_pos hj2,List.getElem?_append_left (by simp; omega),List.getElem?_append_right (by omega),h1]
  ·rw [if_neg hj2,List.getElem?_append_right (by simp; omega),List.getElem?_drop]
   congr 1
   simp
   omega
theorem length_splice {α:Type} (xs ys:List α) (off:Nat) (h:off+ys.length<=xs.length):(splice xs off ys).length=xs.length:=by
 unfold splice; simp; omega
theorem yZ {α:Type} (vs:List α):∀ (i off:Nat) (cs:Array α),off+i+vs.length<=cs.size ->
    ((vs.zipIdx i).foldl (fun cs p=>cs.setIfInBounds (off+p.2) p.1) cs).toList=splice cs.toList (off+i) vs:=by
  induction vs with
  | nil=>intro i off cs h; simp [splice]
  | cons v r ih =>
    intro i off cs h
    simp only [List.zipIdx_cons,List.foldl_cons]
    rw [ih (i+1) off _ (by simp at h ⊢; omega)]
    apply List.ext_getElem?
    intro j
    simp only [List.length_cons] at h
    rw [gX _ _ _ _ (by simp; omega),gX _ _ _ _ (by simp; omega)]
    simp only [Array.toList_setIfInBounds,List.getElem?_set,List.length_cons]
    by_cases h1:j<off+i
    · rw [if_pos (by omega),if_neg (by omega),if_pos h1]
    · rw [if_neg h1]
      by_cases h2:j=off+i
      · subst h2
        rw [if_pos (by omega),if_pos rfl,if_pos (by simp; omega),if_pos (by omega)]
        simp
      · rw [if_neg (by omega)]
        by_cases h3:j<off+(i+1)+r.length
        · rw [if_pos h3,if_pos (by omega)]
          rw [show j-(off+i)=(j-(off+(i+1)))+1 by omega,List.getElem?_cons_succ]
        · rw [if_neg h3,if_neg (by omega),if_neg (by omega)]
theorem foldl_set (v:Array Value) (off:Nat) (cs:Array Value) (h:off+v.size<=cs.size) :
  (v.zipIdx.foldl (fun cs (p:Value × Nat)=>cs.setIfInBounds (off+p.2) p.1) cs).toList=splice cs.toList off v.toList:=by
 have:=yZ v.toList 0 off cs (by simpa using h)
 rw [Nat.add_zero] at this
 rw [<- this,<- Array.foldl_toList,Array.toList_zipIdx]
theorem rV.splice {vs us:List Value} {xs ys:List AC} (h:rV I ρ vs xs) (k:rV I ρ us ys) (off:Nat) (hl:off+ys.length<=xs.length):rV I ρ (splice vs off us) (splice xs off ys):=by
 have TC:off+us.length<=vs.length:=by rw [h.1,k.1]; exact hl
 refine ⟨by rw [length_splice _ _ _ TC,length_splice _ _ _ hl]; exact h.1,fun j v x hv hx => ?_⟩
 rw [gX _ _ _ _ TC] at hv
 rw [gX _ _ _ _ hl] at hx
 rw [k.1] at hv
 by_cases h1:j<off
 ·rw [if_pos h1] at hv hx; exact h.2 j v x hv hx
 ·rw [if_neg h1] at hv hx
  by_cases h2:j<off+ys.length
  ·rw [if_pos h2] at hv hx; exact k.2 _ v x hv hx
  ·rw [if_neg h2] at hv hx; exact h.2 j v x hv hx
theorem rf {v:Value} {x:AV} (h:GV I ρ v x) (ht:x.flat):rV I ρ v.cells.toList x.cells:=by
  cases x with
  | one x =>
    have h1:=GC.one h
    have hc:v.cells = #[v]:=by cases v<;>first | rfl | (simp [Value.oneCell'] at h1; done)
    rw [hc]
    exact ⟨rfl,fun j u y hu hy=>by cases j with
      | zero=>simp at hu; simp [AV.cells] at hy; subst hu; subst hy; exact h
      | succ j=>simp at hu⟩
  | agg xs=>obtain ⟨cs,rfl,hg⟩:=h; exact hg
  | mG ps=>exact ht.elim
def vW (zs:List Value) (xs:List AC):Bool:=zs.length==xs.length&&(zs.zip xs).all fun p=>Oz p.1 p.2
theorem qm {zs:List Value} {xs:List AC} (h:vW zs xs=true):rV I ρ zs xs:=by
 unfold vW at h
 simp only [Bool.and_eq_true,beq_iff_eq,List.all_eq_true] at h
 refine ⟨h.1,fun j v x hv hx=>Ie (h.2 (v,x) ?_)⟩
 exact List.mem_of_getElem? (i:=j) (by simp [List.getElem?_zip_eq_some,hv,hx])
def sN (P:Program) (n:Nat) (fs:Array Field):List (Nat × Operand)->List (Nat × Nat × fV)->Bool
 | [],[]=>true
 | (i,x)::r,(off,sz,y)::r'=>(match fs[i]? with
   | some f=>f.offset==off&&xm P f.type sz
   | none=>false)&&dN n x y&&sN P n fs r r'
 | _,_=>false
theorem run_places (w:World) (fs:List Field) (h:fs.all (fun f=>(P.info? f.type).isSome)=true) :
    (fs.mapM (m:=Sem) fun f=>do pure (f.offset,<- sizeOf f.type)).run P w = .ok (fs.map fun f=>(f.offset,P.cellsOf f.type)) w:=by
  induction fs with
  | nil=>rfl
  | cons f r ih =>
    simp only [List.all_cons,Bool.and_eq_true] at h
    cases hi:P.info? f.type with
    | none=>rw [hi] at h; cases h.1
    | some i =>
      have h1:(sizeOf f.type).run P w = .ok (P.cellsOf f.type) w:=by simp [sizeOf,typeInfo,hi,Program.cellsOf]
      simp only [List.mapM_cons,Sem.run_bind,h1,Result.andThen_ok,Sem.run_pure,ih h.2,List.map_cons]
def Ia (P:Program) (n:Nat) (t:TypeId) (zs:List AC) (ps:List (Nat × Operand)) (ps':List (Nat × Nat × fV)):Bool :=
 match P.underlying t,P.info? t with
 | some (.struct fs),some i=>(match i.zero with | some (.agg cs)=>vW cs.toList zs | _=>false)&&fs.toList.all (fun f=>(P.info? f.type).isSome)&&sN P n fs ps ps'
 | _,_=>false
def yH (P:Program) (n:Nat) (op:Op) (zs:List AC) (ps':List (Nat × Nat × fV)):Bool:=match op with | .build t ps=>Ia P n t zs ps.toList ps' | _=>false
theorem Gh {t:TypeId} {k:Nat} (h:xm P t k=true):P.cellsOf t=k:=by
 obtain ⟨i,hi,hs⟩:=rJ h
 simp [Program.cellsOf,hi,hs]
theorem Ih {fs:Array Field} (h:GX E I ρ n st a w):∀ (ps:List (Nat × Operand)) (ps':List (Nat × Nat × fV)) (cs:Array Value) (xs:List AC),sN P n fs ps ps'=true->rV I ρ cs.toList xs ->
    (∀ p,p∈ps'->(p.2.2.ev st.tm).g=true)->(∀ p,p∈ps'->DK xs.length (p.1,p.2.1,aI st.tm p.2.2)) ->
    ∃ cs',Instr.fill ((fs.map fun f=>(f.offset,P.cellsOf f.type))[·]?) cs (ps.map fun p=>(p.1,a.eval p.2))=some cs'/\rV I ρ cs'.toList (yV xs (ps'.map fun p=>(p.1,(aI st.tm p.2.2).cells)))
  | [],[],cs,xs,_,hg,_,_=>⟨cs,rfl,hg⟩
  | [],_::_,_,_,h,_,_,_=>by simp [sN] at h
  | _::_,[],_,_,h,_,_,_=>by simp [sN] at h
  | (i,x)::r,(off,sz,y)::r',cs,xs,hp,hg,hv,hq=>by
    simp only [sN,Bool.and_eq_true] at hp
    obtain ⟨⟨hf,hx⟩,hr⟩:=hp
    split at hf
    · rename_i f hfi
      simp only [Bool.and_eq_true,beq_iff_eq] at hf
      obtain ⟨rfl,hsz⟩:=hf
      have hs:=Gh hsz
      have g:=fJ h hx (hv _ (List.mem_cons_self ..))
      obtain ⟨q1,q2,q3⟩:=hq _ (List.mem_cons_self ..)
      have gc:=rf g q3
      have hvs:(a.eval x).cells.size=sz:=by have:=gc.1; simp at this; rw [this]; exact q1
      have hcs:cs.size=xs.length:=by have:=hg.1; simpa using this
      have q1:(aI st.tm y).cells.length=sz:=q1
      have q2:f.offset+sz<=xs.length:=q2
      have hgs:=hg.splice gc f.offset (by rw [q1]; exact q2)
      have hfold:=foldl_set (a.eval x).cells f.offset cs (by omega)
      have ih:=Ih h r r' ((a.eval x).cells.zipIdx.foldl (fun cs (p:Value × Nat)=>cs.setIfInBounds (f.offset+p.2) p.1) cs) (splice xs f.offset (aI st.tm y).cells) hr (by rw [hfold]; exact hgs)
        (fun p hp=>hv p (by simp [hp])) (fun p hp=>by rw [length_splice _ _ _ (by rw [q1]; exact q2)]; exact hq p (by simp [hp]))
      obtain ⟨cs',h1,h2⟩:=ih
      refine ⟨cs',?_,?_⟩
      · have hpl:(fs.map fun f=>(f.offset,P.cellsOf f.type))[i]? = some (f.offset,sz):=by rw [Array.getElem?_map,hfi,<- hs]; rfl
        simp only [List.map_cons,Instr.fill,hpl]
        rw [if_neg (by simp; omega)]
        exact h1
      · simpa only [List.map_cons,yV] using h2
    · cases hf
theorem Gf {o:Oper} {zs:List AC} {ps:List (Nat × Nat × fV)} (h:GX E I ρ n st a w) (hc:yH P n o.op zs ps=true) (hv:∀ p,p∈ps->(p.2.2.ev st.tm).g=true)
  (hq:∀ p,p∈ps->DK zs.length (p.1,p.2.1,aI st.tm p.2.2)):gp P E n o a w st (.agg (yV zs (ps.map fun p=>(p.1,(aI st.tm p.2.2).cells)))):=by
 unfold yH at hc
 split at hc
 ·rename_i t ps0 he
  unfold Ia at hc
  split at hc
  ·rename_i fs i hs hi
   simp only [Bool.and_eq_true] at hc
   obtain ⟨⟨hz,hall⟩,hp⟩:=hc
   split at hz
   ·rename_i cs hzero
    obtain ⟨cs',h1,h2⟩:=Ih (P:=P) h ps0.toList ps cs zs hp (qm hz) hv hq
    refine gp.val h (v := .agg cs') ?_ ⟨cs',rfl,h2⟩
    have hpl:=run_places (P:=P) w fs.toList hall
    have hpl':(fs.mapM (m:=Sem) fun f=>do pure (f.offset,<- sizeOf f.type)).run P w = .ok (fs.map fun f=>(f.offset,P.cellsOf f.type)) w:=by
     rw [Array.mapM_eq_mapM_toList,Sem.run_map,hpl]
     simp only [Result.andThen_ok]
     congr 1
     apply Array.ext'
     simp
    have OX:(zeroValue t).run P w = .ok (.agg cs) w:=by simp [zeroValue,typeInfo,hi,hzero]
    have hps:(ps0.map fun (i,x)=>(i,a.eval x)).toList=ps0.toList.map fun p=>(p.1,a.eval p.2):=by simp
    simp only [execOp,he,Instr.build,Sem.run_bind,OX,Result.andThen_ok,Value.cells,run_underlying hs,hpl',hps,h1,Sem.run_pure]
   ·cases hz
  ·cases hc
 ·cases hc
def Src (I:IH) (w:World) (v:Value) (sz:Nat) (es:List (List Cell)):Prop :=
  ∃ (b:Option Addr) (cap:Nat),v = .slice b es.length cap/\es.length<=maxLen/\(∀ e,e∈es->e.length=sz)/\(0<es.length->b ≠ none) /\
    ∀ ad,b=some ad->∀ i j c,(es.getD i [])[j]? = some c->∃ u,w.cell? (ad.add (i*sz+j))=some u/\Rd I u c
theorem src_ok (h:GX E I ρ n st a w) {v:Value} {x:AV} {sz:Nat} {p:Prop} {es:List (List Cell)} (hv:GV I ρ v x) (hs:kD sz x st.bx=some (p,es)) (hp:p):Src I w v sz es:=by
 unfold kD at hs
 split at hs
 ·rename_i sz' es'
  simp only [Option.some.injEq,Prod.mk.injEq] at hs
  obtain ⟨rfl,rfl⟩:=hs
  subst hp
  cases hv with | sl b len cap _ _ u hlen hcap hmax hsz ha hcell hr =>
  subst hlen
  refine ⟨b,cap,rfl,by omega,hsz,ha,fun ad had i j c hc => ?_⟩
  have hi:=dS hc
  have hj:j<sz':=by
   have:=hsz (es'.getD i []) (by simp [List.getD,List.getElem?_eq_getElem hi])
   rw [<- this]; exact (List.getElem?_eq_some_iff.1 hc).1
  exact ⟨_,h.agree.cell (hcell ad had i j hi hj),hr i j c hc⟩
 ·simp at hs
  obtain ⟨_,rfl⟩:=hs
  simp only [GV,GC] at hv
  exact ⟨none,0,hv,by simp,by simp,by simp,fun ad had=>by cases had⟩
 ·rename_i b m sz'
  split at hs
  ·rename_i kR es' hb
   simp only [Option.some.injEq,Prod.mk.injEq] at hs
   obtain ⟨rfl,rfl⟩:=hs
   obtain ⟨rfl,rfl,hm⟩:=hp
   obtain ⟨k,cap,ad,c,hr,rfl,hmc,hcc,ha⟩:=hv
   have facts:=GS.oU h hb hr
   have hlen:(es'.take m).length=m:=by simp; omega
   refine ⟨ad,c,by rw [hlen],by omega,fun e he=>facts.2.2 e (List.mem_of_mem_take he),fun h0=>by rw [ha (by omega)]; simp,fun q hq i j cc hc => ?_⟩
   have hi:=dS hc
   rw [hlen] at hi
   have hq':q=⟨k,0,none⟩:=by have:=ha (by omega); rw [hq] at this; simpa using this
   subst hq'
   have hc':(es'.getD i [])[j]? = some cc:=by
    rw [<- hc]; congr 1
    simp only [List.getD]
    rw [List.getElem?_take,if_pos hi]
   obtain ⟨u,hu,hg⟩:=GS.rW h hb hr (by omega) (i:=i) (by omega) j (.c cc) (by rw [List.getElem?_map,hc']; rfl)
   refine ⟨u,?_,hg⟩
   rw [Addr.jU] at hu ⊢
   rw [<- hu]; congr 2; simp
  ·cases hs
 ·rename_i b lo m c0 sz'
  split at hs
  ·rename_i kR es' hb
   simp only [Option.some.injEq,Prod.mk.injEq] at hs
   obtain ⟨rfl,rfl⟩:=hs
   obtain ⟨rfl,rfl,hm⟩:=hp
   obtain ⟨k,cap,ad,c,hr,rfl,hmc,hcc,_,ha⟩:=hv
   have facts:=GS.oU h hb hr
   have hlen:((es'.drop lo).take m).length=m:=by simp; omega
   refine ⟨ad,c,by rw [hlen],by omega,fun e he=>facts.2.2 e (List.mem_of_mem_drop (List.mem_of_mem_take he)),fun h0=>by rw [ha (.inl (by omega))]; simp,fun q hq i j cc hc => ?_⟩
   have hi:=dS hc
   rw [hlen] at hi
   have hq':q=⟨k,lo*kR,none⟩:=by have:=ha (.inl (by omega)); rw [hq] at this; simpa using this
   subst hq'
   have hc':(es'.getD (lo+i) [])[j]? = some cc:=by
    rw [<- hc]; congr 1
    simp only [List.getD]
    rw [List.getElem?_take,if_pos hi,List.getElem?_drop]
   obtain ⟨u,hu,hg⟩:=GS.rW h hb hr (by omega) (i:=lo+i) (by omega) j (.c cc) (by rw [List.getElem?_map,hc']; rfl)
   refine ⟨u,?_,hg⟩
   rw [Addr.jU] at hu ⊢
   rw [<- hu]; congr 2; rw [Nat.add_mul,Nat.add_assoc]
  ·cases hs
 ·cases hs
theorem Cb {es:List (List Cell)} {l:List UInt8} (h:bytesOf es=some l):∃ ns:List Int,es=ns.map (fun m=>[Cell.lit (.int .u8 m)])/\l=ns.map fun m=>UInt8.ofNat m.toNat:=by
  induction es generalizing l with
  | nil=>simp [bytesOf] at h; exact ⟨[],rfl,h⟩
  | cons e r ih =>
    unfold bytesOf at h
    split at h
    · rename_i e; cases e
    · rename_i m r' e
      simp only [List.cons.injEq] at e
      obtain ⟨rfl,rfl⟩:=e
      split at h
      · rename_i l' hl
        obtain ⟨ns,rfl,rfl⟩:=ih hl
        simp at h
        exact ⟨m::ns,rfl,h.symm⟩
      · cases h
    · cases h
theorem foldl_push (ns:List Int):∀ s:ByteArray,(ns.foldl (fun r m=>r.push (UInt8.ofNat m.toNat)) s).data.toList=s.data.toList++ns.map fun m=>UInt8.ofNat m.toNat:=by
 induction ns with
 | nil=>intro s; simp
 | cons m r ih=>intro s; rw [List.foldl_cons,ih,List.map_cons]; simp [ByteArray.push]
theorem JR {b:Option Addr} {cap:Nat} {ns:List Int} {v:Value} (hv:v = .slice b ns.length cap) (h0:0<ns.length->b ≠ none)
    (hc:∀ ad,b=some ad->∀ j m,ns[j]? = some m->w.cell? (ad.add j)=some (.int .u8 m)):(Conv.bytesToString v).run P w = .ok (.string ⟨⟨ns.map fun m=>UInt8.ofNat m.toNat⟩⟩) w:=by
  subst hv
  cases b with
  | none =>
    cases ns with
    | nil=>simp [Conv.bytesToString,Sem.run_pure]; rfl
    | cons m r=>exact absurd rfl (h0 (by simp))
  | some ad =>
    have hl:=run_loadCells_list (P:=P) w ad (ns.map (Value.int .u8)) (fun j v hj=>by
      rw [List.getElem?_map] at hj
      cases hq:ns[j]? with
      | none=>rw [hq] at hj; cases hj
      | some m=>rw [hq] at hj; simp at hj; subst hj; exact hc ad rfl j m hq)
    rw [List.length_map] at hl
    rw [run_bytesToString w ad ns.length cap ns hl]
    congr 2
    apply ByteArray.ext
    apply Array.ext'
    rw [foldl_push]
    simp
def Cm (P:Program) (n:Nat) (op:Op) (x:fV):Bool :=
 match op with
 | .convert s d x'=>dN n x' x&&wU P d&&(match P.underlying s with | some (.slice e)=>(match P.underlying e with | some (.int .u8)=>true | _=>false) | _=>false)
 | _=>false
theorem Jk {o:Oper} {x:fV} {p:Prop} {es:List (List Cell)} {l:List UInt8} (h:GX E I ρ n st a w) (hc:Cm P n o.op x=true) (hx:(x.ev st.tm).g=true)
  (hs:kD 1 (aI st.tm x) st.bx=some (p,es)) (hp:p) (hb:bytesOf es=some l) (hl:l.length<=maxLen):gp P E n o a w st (qi l):=by
 unfold Cm at hc
 split at hc
 ·rename_i s d x' he
  simp only [Bool.and_eq_true] at hc
  have g:=fJ h hc.1.1 hx
  have hd:=oH hc.1.2
  obtain ⟨_,ht⟩:=hc
  split at ht
  ·rename_i e hse
   split at ht
   ·rename_i hee
    obtain ⟨b,cap,hv,_,_,h0,hcell⟩:=src_ok h g hs hp
    obtain ⟨ns,rfl,rfl⟩:=Cb hb
    have hr:=JR (P:=P) (w:=w) (b:=b) (cap:=cap) (ns:=ns) (v:=a.eval x') (by rw [hv]; simp) (by simpa using h0) (fun ad had j m hj=>by
     obtain ⟨u,hu,hrd⟩:=hcell ad had j 0 (.lit (.int .u8 m)) (by simp [List.getD,List.getElem?_map,hj])
     cases hrd with | lit v hv =>
     simpa using hu)
    have hcv:=run_convert_bytes_string (P:=P) w s d e b (ns.map fun m=>[Cell.lit (.int .u8 m)]).length cap hse hee hd
    rw [<- hv] at hcv
    exact gp.val h (by simp only [execOp,he,Sem.run_bind,hcv,hr,Result.andThen_ok,Sem.run_pure]) (Dw hl)
   ·cases ht
  ·cases ht
 ·cases hc
end
end Go.Ab
end
section
namespace Go.Ab
open Go
section
variable {P:Program} {E:Env P} {I:IH} {ρ:Ren} {n:Nat} {st:bF} {a:Act} {w:World}
def lu:Box->Prop
 | .absent=>True
 | _=>False
theorem kG {x:Box} (h:lu x):x = .absent:=by cases x<;>first | rfl | exact h.elim
theorem Ip (h:GX E I ρ n st a w) {l:Nat} (hl:st.bx l = .absent) (hm:E.m<=l) (cs:Array Value) (e:TypeId) (xs:List AC) (hg:rV I ρ cs.toList xs) :
  ∃ ρ',GX E I ρ' n (st.jI l (.var xs)) a (w.alloc (.cells cs e))/\GV I ρ' (.pointer (some ⟨w.heap.size,0,none⟩)) (.one (.ptr l 0)):=by
 have hrl:ρ l=none:=by have:=h.bx.ok l; rwa [hl] at this
 refine ⟨ρ.set l w.heap.size e,GX.new h hl hm cs e e _ ?_,w.heap.size,e,Ren.fK _ _ _ _,rfl⟩
 refine ⟨w.heap.size,e,cs,Ren.fK _ _ _ _,heap_alloc_new w _,by simpa using hg.1,fun j u x hu hx => ?_⟩
 exact (hg.2 j u x (by simpa using hu) hx).mono (IH.le_refl I) (Ren.uw hrl)
theorem sK (h:GX E I ρ n st a w) {l:Nat} (hl:st.bx l = .absent) (hm:E.m<=l) (cs:Array Value) (e:TypeId) (cap sz:Nat) (es:List (List Cell)) (hcs:cs.size=cap*sz) (hle:es.length<=cap) (hcap:cap<=maxLen)
  (hsz:∀ x,x∈es->x.length=sz) (h1:∀ (j:Nat) (u:Value),cs[j]? = some u->u.oneCell'=true) (hd:∀ (i j:Nat) (c:Cell),(es.getD i [])[j]? = some c->∃ u,cs[i*sz+j]? = some u/\Rd I u c) :
  GX E I (ρ.set l w.heap.size cap) n (st.jI l (.dat sz es)) a (w.alloc (.cells cs e)):=by
 refine GX.new h hl hm cs e cap _ ⟨w.heap.size,cap,Ren.fK _ _ _ _,hle,hcap,hsz,fun _=>⟨cs,e,heap_alloc_new w _,hcs,h1,hd⟩⟩
def yG (P:Program) (op:Op) (zs:List AC):Bool:=match op with | .alloc t=>(match P.info? t with | some i=>(match i.zero with | some z=>vW z.cells.toList zs | none=>false) | none=>false) | _=>false
theorem pY (w:World) (t:TypeId) (v:Value):(newVar t v).run P w = .ok ⟨w.heap.size,0,none⟩ (w.alloc (.cells v.cells t)):=by
 simp [newVar,newRow]
theorem FZ {o:Oper} {l:Nat} {zs:List AC} (h:GX E I ρ n st a w) (hc:yG P o.op zs=true) (hm:E.m<=l) (hl:lu (st.bx l)):gp P E n o a w (st.jI l (.var zs)) (.one (.ptr l 0)):=by
 unfold yG at hc
 split at hc
 ·rename_i t he
  split at hc
  ·rename_i i hi
   split at hc
   ·rename_i z hz
    obtain ⟨ρ',h1,h2⟩:=Ip h (kG hl) hm z.cells t zs (qm hc)
    have OX:(zeroValue t).run P w = .ok z w:=by simp [zeroValue,typeInfo,hi,hz]
    exact ⟨_,_,I,ρ',.inl (by simp only [execOp,he,Instr.alloc,Sem.run_bind,OX,Result.andThen_ok,pY,Sem.run_pure]),h1,fun _=>h2⟩
   ·cases hc
  ·cases hc
 ·cases hc
theorem GX.Td (h:GX E I ρ n st a w) {r:Nat} (hr:st.bx r = .absent) (hm:E.m<=r) (e:Nat):GX E I (ρ.set r 0 0) n (st.jI r (.row e [])) a w:=by
 have hrl:ρ r=none:=by have:=h.bx.ok r; rwa [hr] at this
 have hle:=Ren.uw (ρ:=ρ) (k:=0) (cap:=0) hrl
 have hu:∀ k,¬ (Box.row e []).uses ((ρ.set r 0 0) r) k:=fun k hk=>by
  obtain ⟨c,hc,h0⟩:=hk
  rw [Ren.fK] at hc
  simp only [Option.some.injEq,Prod.mk.injEq] at hc
  exact h0 hc.2.symm
 refine { agree:=h.agree,bx:=BX.step (fun b=>b=r) h.bx (IH.le_refl I) hle ?_ ?_ ?_ ?_ ?_ ?_,tm:=fun t ht=>(h.tm t ht).mono (IH.le_refl _) hle,size:=h.size,defers:=h.defers,pV:=h.pV,own := ?_,yg:=h.yg,oz:=h.oz,jG := ?_ }
 ·intro b hb
  exact ⟨by simp [bF.jI,hb],Ren.je hb⟩
 ·intro b k hb hk; rfl
 ·rintro b rfl
  simp only [bF.gK,if_true]
  exact ⟨0,0,Ren.fK _ _ _ _,Nat.le_refl _,Nat.zero_le _,fun h=>absurd rfl h⟩
 ·rintro b k rfl hk
  simp only [bF.gK,if_true] at hk
  exact (hu k hk).elim
 ·rintro b b' k rfl rfl _ _; rfl
 ·intro b k hb hk; exact h.bx.fresh b k hk
 ·intro b k hk
  simp only [bF.gK] at hk
  by_cases e:b=r
  ·subst e; rw [if_pos rfl] at hk; exact (hu k hk).elim
  ·rw [if_neg e,Ren.je e] at hk
   exact h.own b k hk
 ·intro b hb
  rw [Ren.je (by omega)]
  exact h.jG b hb
def wE (P:Program) (op:Op) (T:Nat):Bool:=match op with | .alloc t=>t==T&&(match P.info? t with | some i=>(match i.zero with | some z=>vW z.cells.toList [.c (.lit (.pointer none)),.fH 1] | none=>false) | none=>false) | _=>false
theorem Em {o:Oper} {T e l r:Nat} (h:GX E I ρ n st a w) (hc:wE P o.op T=true) (hm:E.m<=l) (hm':E.m<=r) (hl:lu (st.bx l)) (hr:lu (st.bx r)) (hne:l ≠ r) :
    gp P E n o a w ((st.jI r (.row e [])).jI l (.var [.opt T l,.jy r 0])) (.one (.ptr l 0)):=by
  unfold wE at hc
  split at hc
  · rename_i t he
    simp only [Bool.and_eq_true,beq_iff_eq] at hc
    obtain ⟨rfl,hc⟩:=hc
    split at hc
    · rename_i i hi
      split at hc
      · rename_i z hz
        have g:=h.Td (kG hr) hm' e
        have hl':(st.jI r (.row e [])).bx l = .absent:=by simp only [bF.gK,if_neg hne]; exact kG hl
        have hz2:rV I ρ z.cells.toList _:=qm hc
        have hsz:z.cells.size=2:=by have:=hz2.1; simpa using this
        have hg:=GX.new g hl' hm z.cells t t (.var [.opt t l,.jy r 0]) ⟨w.heap.size,t,z.cells,Ren.fK _ _ _ _,heap_alloc_new w _,hsz,fun j u x hu hx=>by
          match j with
          | 0 =>
            have h1:=hz2.2 0 u _ (by simpa using hu) rfl
            simp at hx
            subst hx
            cases h1
            exact ⟨_,Ren.fK _ _ _ _,.inl rfl⟩
          | 1 =>
            have h1:u = .slice none 0 0:=hz2.2 1 u _ (by simpa using hu) rfl
            simp at hx
            subst hx
            exact ⟨0,0,(Ren.je hne.symm).trans (Ren.fK _ _ _ _),Nat.le_refl _,.inl ⟨rfl,h1⟩⟩
          | j+2=>simp at hx⟩
        have OX:(zeroValue t).run P w = .ok z w:=by simp [zeroValue,typeInfo,hi,hz]
        exact ⟨_,_,I,_,.inl (by simp only [execOp,he,Instr.alloc,Sem.run_bind,OX,Result.andThen_ok,pY,Sem.run_pure]),hg,fun _=>⟨_,_,Ren.fK _ _ _ _,rfl⟩⟩
      · cases hc
    · cases hc
  · cases hc
def Gm (n:Nat) (op:Op) (x:fV):Bool:=match op with | .box _ x'=>dN n x' x | _=>false
theorem KW {o:Oper} {l:Nat} {x:fV} (h:GX E I ρ n st a w) (hc:Gm n o.op x=true) (hx:(x.ev st.tm).g=true) (hm:E.m<=l) (hl:lu (st.bx l)) (hf:(aI st.tm x).flat) :
  gp P E n o a w (st.jI l (.var (aI st.tm x).cells)) (.one (.ptr l 0)):=by
 unfold Gm at hc
 split at hc
 ·rename_i t x' he
  have g:=fJ h hc hx
  obtain ⟨ρ',h1,h2⟩:=Ip h (kG hl) hm (a.eval x').cells t _ (rf g hf)
  exact ⟨_,_,I,ρ',.inl (by simp only [execOp,he,Instr.box,Sem.run_bind,Result.andThen_ok,pY,Sem.run_pure]),h1,fun _=>h2⟩
 ·cases hc
def P5:Value->Cell->Bool
 | .int k n,.lit (.int k' n')=>k==k'&&n==n'
 | .bool b,.lit (.bool b')=>b==b'
 | .string s,.str l=>s.data.toList==l&&decide (l.length<=1000000)
 | .slice none 0 0,.sl _ []=>true
 | .pointer none,.lit (.pointer none)=>true
 | .nilFunc,.lit .nilFunc=>true
 | .nilIface,.lit .nilIface=>true
 | _,_=>false
theorem OA {v:Value} {x:Cell} (h:P5 v x=true):Rd I v x:=by
 unfold P5 at h
 split at h
 ·simp only [Bool.and_eq_true,beq_iff_eq] at h; obtain ⟨rfl,rfl⟩:=h; exact Rd.lit _ rfl
 ·simp only [beq_iff_eq] at h; subst h; exact Rd.lit _ rfl
 ·rename_i s l
  simp only [Bool.and_eq_true,beq_iff_eq,decide_eq_true_eq] at h
  obtain ⟨rfl,hl⟩:=h
  have:s=⟨⟨s.data.toList⟩⟩:=by cases s; rfl
  exact this ▸ Rd.str _ (by simp only [maxLen]; omega)
 ·exact Rd.sl none 0 0 _ [] (fun _ _=>undef) rfl (Nat.le_refl _) (by simp [maxLen]) (by simp) (by simp) (fun ad h=>by cases h) (by simp)
 ·exact Rd.lit _ rfl
 ·exact Rd.lit _ rfl
 ·exact Rd.lit _ rfl
 ·cases h
def ql (zs:List Value) (xs:List Cell):Bool:=zs.length==xs.length&&(zs.zip xs).all fun p=>P5 p.1 p.2
theorem xI {zs:List Value} {xs:List Cell} (h:ql zs xs=true):zs.length=xs.length/\∀ (j:Nat) (c:Cell),xs[j]? = some c->∃ u,zs[j]? = some u/\Rd I u c:=by
 unfold ql at h
 simp only [Bool.and_eq_true,beq_iff_eq,List.all_eq_true] at h
 refine ⟨h.1,fun j c hc => ?_⟩
 have hj:j<zs.length:=by rw [h.1]; exact (List.getElem?_eq_some_iff.1 hc).1
 refine ⟨zs[j],List.getElem?_eq_getElem hj,OA (h.2 (zs[j],c) ?_)⟩
 exact List.mem_of_getElem? (i:=j) (by simp [List.getElem?_zip_eq_some,hc,hj])
theorem xk {z:Array Value} {zs:List Cell} {sz m N:Nat} (hz:ql z.toList zs=true) (hs:zs.length=sz) (h0:0<sz) (hN:m*sz<=N) {cs:Array Value} (hcs:cs=(Array.range N).map (z[· % z.size]!)) :
  (∀ (j:Nat) (u:Value),cs[j]? = some u->u.oneCell'=true)/\∀ (i j:Nat) (c:Cell),((List.replicate m zs).getD i [])[j]? = some c->∃ u,cs[i*sz+j]? = some u/\Rd I u c:=by
 obtain ⟨hl,hd⟩:=xI (I:=I) hz
 have hzs:z.size=sz:=by rw [<- hs,<- hl]; simp
 subst hcs
 refine ⟨fun j u hu => ?_,fun i j c hc => ?_⟩
 ·rw [Array.getElem?_map] at hu
  by_cases hj:j<N
  ·rw [Array.getElem?_range,if_pos hj] at hu
   simp at hu
   have hlt:j%z.size<z.size:=Nat.mod_lt _ (by omega)
   rw [getElem!_pos z _ hlt] at hu
   obtain ⟨c,hc⟩:∃ c,zs[j%z.size]? = some c:=⟨_,List.getElem?_eq_getElem (by omega)⟩
   obtain ⟨u',hu',hr⟩:=hd _ c hc
   simp [hlt] at hu'
   rw [<- hu,hu']
   exact hr.one
  ·rw [Array.getElem?_range,if_neg hj] at hu; cases hu
 ·have hi:=dS hc
  simp at hi
  simp [List.getD,hi] at hc
  have hj:j<sz:=by rw [<- hs]; exact (List.getElem?_eq_some_iff.1 hc).1
  obtain ⟨u,hu,hr⟩:=hd j c hc
  refine ⟨u,?_,hr⟩
  have hlt:i*sz+j<N:=by
   have:(i+1)*sz<=m*sz:=Nat.mul_le_mul_right _ hi
   rw [Nat.add_mul] at this
   omega
  rw [Array.getElem?_map,Array.getElem?_range,if_pos hlt]
  simp only [Option.map_some,Option.some.injEq]
  have hmod:(i*sz+j)%z.size=j:=by rw [hzs,Nat.mul_comm,Nat.mul_add_mod,Nat.mod_eq_of_lt hj]
  rw [hmod,getElem!_pos z _ (by omega)]
  have:z[j]? = some u:=by simpa using hu
  rw [Array.getElem?_eq_getElem (by omega)] at this
  simpa using this
def wC (P:Program) (op:Op) (sz m:Nat) (zs:List Cell):Bool :=
 match op with
 | .alloc t=>ve P t sz m&&(match P.info? t with | some i=>(match i.zero with | some (.agg z)=>ql z.toList (List.replicate m zs).flatten | _=>false) | none=>false)&&zs.length==sz&&decide (0<sz)&&decide (m<=1000000)
 | _=>false
theorem EJ {zs:List Cell} {sz m i j:Nat} {c:Cell} (hs:zs.length=sz) (hc:((List.replicate m zs).getD i [])[j]? = some c):((List.replicate m zs).flatten)[i*sz+j]? = some c:=by
  induction m generalizing i with
  | zero=>simp [List.getD] at hc
  | succ m ih =>
    rw [List.replicate_succ,List.flatten_cons]
    cases i with
    | zero =>
      simp [List.getD,List.replicate_succ] at hc
      rw [List.getElem?_append_left (by have:=(List.getElem?_eq_some_iff.1 hc).1; omega)]
      simpa using hc
    | succ i =>
      rw [List.getElem?_append_right (by rw [hs,Nat.add_mul]; omega),hs]
      have:=ih (i:=i) (by simpa [List.getD,List.replicate_succ] using hc)
      rw [<- this]
      congr 1
      rw [Nat.add_mul]
      omega
theorem Ej {o:Oper} {l sz m:Nat} {zs:List Cell} (h:GX E I ρ n st a w) (hc:wC P o.op sz m zs=true) (hm:E.m<=l) (hl:lu (st.bx l)) :
  gp P E n o a w (st.jI l (.dat sz (List.replicate m zs))) (.one (.jY l 0 sz 0)):=by
 unfold wC at hc
 split at hc
 ·rename_i t he
  simp only [Bool.and_eq_true,beq_iff_eq,decide_eq_true_eq] at hc
  obtain ⟨⟨⟨⟨_,hz⟩,hs⟩,h0⟩,Uz⟩:=hc
  split at hz
  ·rename_i i hi
   split at hz
   ·rename_i z hzero
    obtain ⟨hl1,hd⟩:=xI (I:=I) hz
    have hzs:z.size=m*sz:=by have:=hl1; simp [hs] at this; exact this
    have OX:(zeroValue t).run P w = .ok (.agg z) w:=by simp [zeroValue,typeInfo,hi,hzero]
    have g:=sK h (kG hl) hm z t m sz (List.replicate m zs) hzs (by simp) (by simp only [maxLen]; omega) (fun x hx=>by rw [List.eq_of_mem_replicate hx,hs])
     (fun j u hu=>by
      have hj:j<((List.replicate m zs).flatten).length:=by rw [<- hl1]; simpa using (Array.getElem?_eq_some_iff.1 hu).1
      obtain ⟨u',hu',hr⟩:=hd j _ (List.getElem?_eq_getElem hj)
      have:u'=u:=by simp at hu'; rw [hu] at hu'; exact (Option.some.inj hu').symm
      subst this; exact hr.one)
     (fun i' j c hc=>by
      obtain ⟨u,hu,hr⟩:=hd _ c (EJ hs hc)
      exact ⟨u,by simpa using hu,hr⟩)
    refine ⟨_,_,I,_,.inl (by simp only [execOp,he,Instr.alloc,Sem.run_bind,OX,Result.andThen_ok,pY,Sem.run_pure,Value.cells]; rfl),g,fun _=>⟨w.heap.size,m,Ren.fK _ _ _ _,by simp⟩⟩
   ·cases hz
  ·cases hz
 ·cases hc
def yM (P:Program) (n:Nat) (op:Op) (sz bytes:Nat) (zs:List Cell) (x y:fV):Bool :=
  match op with
  | .makeSlice t x' y'=>dN n x' x&&dN n y' y&&zs.length==sz&&decide (0<sz)&&(match P.underlying t with
    | some (.slice e)=>(match P.info? e with | some i=>i.size==sz&&i.bytes==bytes&&(match i.zero with | some z=>ql z.cells.toList zs | none=>false) | none=>false)
    | _=>false)
  | _=>false
theorem GN {o:Oper} {l sz bytes:Nat} {zs:List Cell} {x y:fV} {k k':IntKind} {p q:Int} (h:GX E I ρ n st a w) (hc:yM P n o.op sz bytes zs x y=true) (hx:(x.ev st.tm).g=true) (hy:(y.ev st.tm).g=true)
  (e1:aI st.tm x=jl k p) (e2:aI st.tm y=jl k' q) (hm:E.m<=l) (hl:lu (st.bx l)) (h0:0<=p) (h1:p<=q) (h2:bytes*q<=2^47) (h3:q<=2^47) :
  gp P E n o a w (st.jI l (.dat sz (List.replicate p.toNat zs))) (.one (.own l p.toNat sz)):=by
 unfold yM at hc
 split at hc
 ·rename_i t x' y' he
  simp only [Bool.and_eq_true,beq_iff_eq,decide_eq_true_eq] at hc
  obtain ⟨⟨⟨⟨c1,c2⟩,hs⟩,hs0⟩,ht⟩:=hc
  have g1:=fJ h c1 hx
  have g2:=fJ h c2 hy
  rw [e1] at g1; rw [e2] at g2
  have v1:=jC g1
  have v2:=jC g2
  split at ht
  ·rename_i e hte
   split at ht
   ·rename_i i hi
    simp only [Bool.and_eq_true,beq_iff_eq] at ht
    obtain ⟨⟨rfl,rfl⟩,hz⟩:=ht
    split at hz
    ·rename_i z hzero
     have hr:=run_make (P:=P) w t e i z hte hi hzero k k' p q h0 h1 (by omega) (by omega)
     have rc:=xk (I:=I) (N:=q.toNat*i.size) (m:=p.toNat) hz hs hs0 (Nat.mul_le_mul_right _ (by omega)) (cs:=madeCells z.cells (q.toNat*i.size)) rfl
     have g:=sK h (kG hl) hm (madeCells z.cells (q.toNat*i.size)) e q.toNat i.size (List.replicate p.toNat zs) (size_madeCells _ _) (by simp; omega) (by simp only [maxLen]; omega)
      (fun x hx=>by rw [List.eq_of_mem_replicate hx,hs]) rc.1 rc.2
     refine ⟨_,_,I,_,.inl (by simp only [execOp,he,v1,v2,Sem.run_bind,hr,Result.andThen_ok,Sem.run_pure]; rfl),g,fun _=>⟨w.heap.size,q.toNat,_,_,Ren.fK _ _ _ _,rfl,by omega,by omega,fun _=>rfl⟩⟩
    ·cases hz
   ·cases ht
  ·cases ht
 ·cases hc
end
end Go.Ab
end
section
namespace Go.Ab
open Go
section
variable {P:Program} {E:Env P} {I:IH} {ρ:Ren} {n:Nat} {st:bF} {a:Act} {w:World}
noncomputable def lq (I:IH) (ρ:Ren) (w:World) (bx:Nat->Box) (bs:List Nat):IH:=fun k =>
 open Classical in
 if ∃ b sz es cap,b∈bs/\bx b = .dat sz es/\ρ b=some (k,cap)/\cap ≠ 0 then (match w.heap[k]? with | some (.cells c _ _)=>some c | _=>none) else I k
theorem nI (hA:BX I ρ w st.bx) (bs:List Nat):I.le (lq I ρ w st.bx bs):=fun k c hk=>by
 unfold lq
 rw [if_neg]
 ·exact hk
 ·rintro ⟨b,sz,es,cap,_,hb,hr,h0⟩
  have:=hA.fresh b k (by rw [hb]; exact ⟨cap,hr,h0⟩)
  rw [this] at hk; cases hk
theorem uy (hA:Agree I w) (bs:List Nat):Agree (lq I ρ w st.bx bs) w:=fun k c hk=>by
 unfold lq at hk
 split at hk
 ·split at hk
  ·rename_i c' e fr hw
   simp at hk
   subst hk
   exact ⟨e,fr,hw⟩
  ·cases hk
 ·exact hA k c hk
theorem Du (h:GX E I ρ n st a w) {bs:List Nat} {v:Value} {b m sz:Nat} {es:List (List Cell)} (hb:b∈bs) (harr:(st.bx b).arr=some (sz,es)) (hm:m<=es.length) (hv:GC I ρ v (.own b m sz)) :
    Rd (lq I ρ w st.bx bs) v (.sl sz (es.take m)):=by
  obtain ⟨k,cap,ad,c,hr,hsv,hmc,hcc,hcap⟩:=hv
  have facts:=GS.oU h harr hr
  have hl:(es.take m).length=m:=by simp; omega
  subst hsv
  have hI:cap ≠ 0->∃ cs,(lq I ρ w st.bx bs) k=some cs/\∀ i j c,(es.getD i [])[j]? = some c->∃ u,cs[i*sz+j]? = some u/\Rd I u c:=by
    intro hc0
    have hok:=h.bx.ok b
    cases hx:st.bx b with
    | dat sz' es' =>
      rw [hx] at hok harr
      simp [Box.arr] at harr
      obtain ⟨rfl,rfl⟩:=harr
      obtain ⟨k',cap',hr',_,_,_,hd⟩:=hok
      rw [hr] at hr'
      simp at hr'
      obtain ⟨rfl,rfl⟩:=hr'
      obtain ⟨cs,e,hw,_,_,hcs⟩:=hd hc0
      refine ⟨cs,?_,hcs⟩
      unfold lq
      rw [if_pos ⟨b,_,_,cap,hb,hx,hr,hc0⟩,hw]
    | mX sz' es' =>
      rw [hx] at hok harr
      simp [Box.arr] at harr
      obtain ⟨rfl,rfl⟩:=harr
      obtain ⟨k',cap',hr',_,_,_,hd⟩:=hok
      rw [hr] at hr'
      simp at hr'
      obtain ⟨rfl,rfl⟩:=hr'
      obtain ⟨cs,hw,hcs⟩:=hd hc0
      exact ⟨cs,nI h.bx bs _ _ hw,hcs⟩
    | absent=>rw [hx] at harr; cases harr
    | dead=>rw [hx] at harr; cases harr
    | var xs=>rw [hx] at harr; cases harr
    | row e l=>rw [hx] at harr; cases harr
  have hle:=nI (st:=st) h.bx bs
  by_cases hc0:cap=0
  · have hm0:m=0:=by omega
    subst hm0
    simp only [List.take_zero]
    exact Rd.sl _ 0 c sz [] (fun _ _=>undef) rfl (by omega) (by omega) (by simp) (by simp) (by intro ad _ i j hi; omega) (by simp)
  · obtain ⟨cs,hcs,hrd⟩:=hI hc0
    have had:=hcap hc0
    subst had
    have key:∀ i j c,((es.take m).getD i [])[j]? = some c->∃ u,cs[i*sz+j]? = some u/\Rd I u c:=fun i j c hc=>by
      have hi:=dS hc
      rw [hl] at hi
      refine hrd i j c ?_
      rw [<- hc]; congr 1
      simp only [List.getD]
      rw [List.getElem?_take,if_pos hi]
    refine Rd.sl _ m c sz (es.take m) (fun i j=>cs.getD (i*sz+j) undef) hl hmc (by omega) (fun e he=>facts.2.2 e (List.mem_of_mem_take he)) (by simp) ?_ ?_
    · intro ad had i j hi hj
      simp at had
      subst had
      have hlen:((es.take m).getD i []).length=sz:=by
        have:i<(es.take m).length:=by omega
        rw [List.getD_eq_getElem?_getD,List.getElem?_eq_getElem this]
        exact facts.2.2 _ (List.mem_of_mem_take (List.getElem_mem this))
      obtain ⟨u,hu,_⟩:=key i j _ (List.getElem?_eq_getElem (by omega))
      rw [Addr.jU]
      simp only [IH.cell,hcs]
      simp [hu,Array.getD_eq_getD_getElem?]
    · intro i j c hc
      obtain ⟨u,hu,hr⟩:=key i j c hc
      have:cs.getD (i*sz+j) undef=u:=by simp [Array.getD_eq_getD_getElem?,hu]
      rw [this]
      exact hr.mono hle
theorem kJ {bs:List Nat} {b:Nat} : (st.mX bs).bx b=if b∈bs then oL (st.bx b) else st.bx b:=rfl
theorem GX.freeze (h:GX E I ρ n st a w) (BS:List Nat):GX E (lq I ρ w st.bx BS) ρ n (st.mX BS) a w:=by
  have Qh:=nI h.bx BS
  have qH:∀ b k,((st.mX BS).bx b).uses (ρ b) k->(st.bx b).uses (ρ b) k/\¬ (∃ b' sz es cap,b'∈BS/\st.bx b' = .dat sz es/\ρ b'=some (k,cap)/\cap ≠ 0):=by
    intro b k hu
    rw [kJ] at hu
    by_cases hb:b∈BS
    · rw [if_pos hb] at hu
      cases hx:st.bx b with
      | var xs =>
        rw [hx] at hu
        refine ⟨hu,?_⟩
        rintro ⟨b',sz,es,cap,_,hb',hr',h0⟩
        have:=h.bx.inj b b' k (by rw [hx]; exact hu) (by rw [hb']; exact ⟨cap,hr',h0⟩)
        subst this
        rw [hx] at hb'; cases hb'
      | row e l =>
        rw [hx] at hu
        refine ⟨hu,?_⟩
        rintro ⟨b',sz,es,cap,_,hb',hr',h0⟩
        have:=h.bx.inj b b' k (by rw [hx]; exact hu) (by rw [hb']; exact ⟨cap,hr',h0⟩)
        subst this
        rw [hx] at hb'; cases hb'
      | dat sz es=>rw [hx] at hu; exact hu.elim
      | mX sz es=>rw [hx] at hu; exact hu.elim
      | absent=>rw [hx] at hu; exact hu.elim
      | dead=>rw [hx] at hu; exact hu.elim
    · rw [if_neg hb] at hu
      refine ⟨hu,?_⟩
      rintro ⟨b',sz,es,cap,hm',hb',hr',h0⟩
      have:=h.bx.inj b b' k hu (by rw [hb']; exact ⟨cap,hr',h0⟩)
      subst this
      exact hb hm'
  have hfr:∀ b k,((st.mX BS).bx b).uses (ρ b) k->lq I ρ w st.bx BS k=none:=fun b k hu=>by
    obtain ⟨h1,h2⟩:=qH b k hu
    unfold lq
    rw [if_neg h2]
    exact h.bx.fresh b k h1
  refine { agree:=uy h.agree BS,bx:=⟨fun b => ?_,fun b b' k hb hb'=>h.bx.inj b b' k (qH b k hb).1 (qH b' k hb').1,hfr⟩,tm:=fun t ht=>(h.tm t ht).mono Qh (Ren.le_refl ρ),size:=h.size,defers:=h.defers,pV:=h.pV,own:=fun b k hu=>h.own b k (qH b k hu).1,yg:=IH.le_trans h.yg Qh,oz:=fun k hk0 hM => ?_,jG:=h.jG }
  · have hok:=(h.bx.ok b).keep Qh (Ren.le_refl ρ) rfl (fun k hu=>rfl)
    rw [kJ]
    by_cases hb:b∈BS
    · rw [if_pos hb]
      cases hx:st.bx b with
      | dat sz es =>
        rw [hx] at hok
        obtain ⟨kk,cap,hr',hl,hm,hsz,hcs⟩:=hok
        refine ⟨kk,cap,hr',hl,hm,hsz,fun h0 => ?_⟩
        obtain ⟨cs,e,hw,_,_,hrd⟩:=hcs h0
        refine ⟨cs,?_,hrd⟩
        unfold lq
        rw [if_pos ⟨b,sz,es,cap,hb,hx,hr',h0⟩,hw]
      | var xs=>rw [hx] at hok; exact hok
      | row e l=>rw [hx] at hok; exact hok
      | mX sz es=>rw [hx] at hok; exact hok
      | absent=>rw [hx] at hok; exact hok
      | dead=>rw [hx] at hok; exact hok
    · rw [if_neg hb]; exact hok
  · unfold lq
    rw [if_neg]
    · exact h.oz k hk0 hM
    · rintro ⟨b',sz,es,cap,_,hb',hr',h0⟩
      rcases h.own b' k (by rw [hb']; exact ⟨cap,hr',h0⟩) with h1 | h1
      · omega
      · exact hM h1
theorem vN (l:List (Nat × Box)) (st:bF):(st.iD l).tm=st.tm:=by
 induction l generalizing st with
 | nil=>rfl
 | cons x l ih=>obtain ⟨b,x⟩:=x; simp only [bF.iD,ih]; rfl
theorem J4 (st:bF) (l:List Nat) (bx:Nat->Box):(st.iD (l.map fun b=>(b,oL (bx b)))).bx=fun b=>if b∈l then oL (bx b) else st.bx b:=by
  induction l generalizing st with
  | nil=>rfl
  | cons c l ih =>
    simp only [List.map_cons,bF.iD,ih]
    funext b
    simp only [bF.gK,List.mem_cons]
    by_cases h:b∈l
    · simp [h]
    · by_cases h':b=c
      · subst h'; simp [h]
      · simp [h,h']
theorem mF (st:bF) (l:List Nat):st.iD (l.map fun b=>(b,oL (st.bx b)))=st.mX l:=by
 apply bF.ext'
 ·rw [vN]; rfl
 ·rw [J4]; rfl
theorem qf (l r:List (Nat × Box)):∀ (st:bF),st.iD (l++r)=(st.iD l).iD r:=by
 induction l with
 | nil=>intro st; rfl
 | cons p l ih=>intro st; obtain ⟨b,x⟩:=p; simp only [List.cons_append,bF.iD,ih]
theorem zW (st:bF) (l:List Nat) (r:List (Nat × Box)):st.iD (Dk st.bx l++r)=(st.mX l).iD r:=by
 rw [qf]
 unfold Dk
 rw [mF]
end
end Go.Ab
end
section
namespace Go.Ab
open Go
section
variable {P:Program} {E:Env P} {I:IH} {ρ:Ren} {n:Nat} {st:bF} {a:Act} {w:World}
theorem EF (h:GX E I ρ n st a w) {BS:List Nat} {vs:List Value} {xs:List AC} {cs:List Cell} (hg:rV I ρ vs xs) (hd:qy st.bx xs=some cs) (hl:jV st.bx xs) (hb:∀ b,b∈fZ xs->b∈BS) :
    vs.length=cs.length/\∀ (j:Nat) (c:Cell),cs[j]? = some c->∃ u,vs[j]? = some u/\Rd (lq I ρ w st.bx BS) u c:=by
  have hle:=nI (st:=st) h.bx BS
  induction xs generalizing vs cs with
  | nil =>
    simp [qy] at hd
    subst hd
    exact ⟨hg.1,by simp⟩
  | cons x r ih =>
    cases vs with
    | nil=>have:=hg.1; simp at this
    | cons v vs =>
      unfold qy at hd
      split at hd
      · rename_i c cs' h1 h2
        simp at hd
        subst hd
        have ht:rV I ρ vs r:=⟨by simpa using hg.1,fun j u y hu hy=>hg.2 (j+1) u y (by simpa using hu) (by simpa using hy)⟩
        have hv:=hg.2 0 v x rfl rfl
        have hlr:jV st.bx r:=by
          cases x with
          | own b m sz=>exact hl.2
          | _=>exact hl
        have hbr:∀ b,b∈fZ r->b∈BS:=fun b hm=>hb b (by
          cases x with
          | own b' m sz=>exact List.mem_cons_of_mem _ hm
          | _=>exact hm)
        obtain ⟨hl',hc⟩:=ih ht h2 hlr hbr
        have hr:Rd (lq I ρ w st.bx BS) v c:=by
          cases x with
          | c y=>simp [dataOf] at h1; subst h1; exact Rd.mono hle hv
          | fH sz =>
            simp [dataOf] at h1
            subst h1
            simp only [GC] at hv
            subst hv
            exact Rd.sl none 0 0 _ [] (fun _ _=>undef) rfl (Nat.le_refl _) (by simp [maxLen]) (by simp) (by simp) (fun ad h=>by cases h) (by simp)
          | own b m sz =>
            simp only [dataOf] at h1
            have hl1:=hl.1
            cases harr:(st.bx b).arr with
            | none=>rw [harr] at h1; cases h1
            | some p =>
              obtain ⟨sz',es⟩:=p
              rw [harr] at h1 hl1
              simp at h1
              subst h1
              obtain ⟨rfl,hle'⟩:=hl1
              exact Du h (hb b (by simp [fZ])) harr hle' hv
          | _=>simp [dataOf] at h1
        refine ⟨by simp [hl'],fun j c' hj => ?_⟩
        cases j with
        | zero=>simp at hj; subst hj; exact ⟨v,rfl,hr⟩
        | succ j=>obtain ⟨u,hu,hr'⟩:=hc j c' (by simpa using hj); exact ⟨u,by simpa using hu,hr'⟩
      · cases hd
structure DC (I:IH) (cs:List Value) (sz:Nat) (es:List (List Cell)):Prop where
 one:∀ (j:Nat) (u:Value),cs[j]? = some u->u.oneCell'=true
 rd:∀ (i j:Nat) (c:Cell),(es.getD i [])[j]? = some c->∃ u,cs[i*sz+j]? = some u/\Rd I u c
theorem LH {α:Type} (es:List (List α)) (i i':Nat) (e:List α) (h:i<es.length):(es.set i e).getD i' []=if i'=i then e else es.getD i' []:=by
 simp only [List.getD,List.getElem?_set]
 by_cases hi:i=i'
 ·subst hi; simp [h]
 ·rw [if_neg hi,if_neg (fun e=>hi e.symm)]
theorem O8 {sz i i' j j':Nat} (hj:j<sz) (hj':j'<sz) (h:i*sz+j=i'*sz+j'):i=i'/\j=j':=by
 have h1:(i*sz+j)/sz=i:=by rw [Nat.mul_comm,Nat.mul_add_div (by omega),Nat.div_eq_of_lt hj,Nat.add_zero]
 have h2:(i'*sz+j')/sz=i':=by rw [Nat.mul_comm,Nat.mul_add_div (by omega),Nat.div_eq_of_lt hj',Nat.add_zero]
 rw [h] at h1
 have:=h1.symm.trans h2
 subst this
 exact ⟨rfl,by omega⟩
theorem DC.splice {cs:List Value} {sz:Nat} {es:List (List Cell)} (h:DC I cs sz es) (hsz:∀ x,x∈es->x.length=sz) {i off:Nat} (hi:i<es.length) {vs:List Value} {ys:List Cell} (hl:off+ys.length<=sz) (hcs:(i+1)*sz<=cs.length)
  (hv:vs.length=ys.length) (h1:∀ (j:Nat) (u:Value),vs[j]? = some u->u.oneCell'=true) (hd:∀ (j:Nat) (c:Cell),ys[j]? = some c->∃ u,vs[j]? = some u/\Rd I u c) :
  DC I (splice cs (i*sz+off) vs) sz (es.set i (Ab.splice (es.getD i []) off ys)):=by
 rw [Nat.add_mul] at hcs
 have hfit:i*sz+off+vs.length<=cs.length:=by omega
 have SH:(es.getD i []).length=sz:=hsz _ (by simp [List.getD,List.getElem?_eq_getElem hi])
 refine ⟨fun j u hu => ?_,fun i' j c hc => ?_⟩
 ·rw [gX _ _ _ _ hfit] at hu
  split at hu
  ·exact h.one j u hu
  ·split at hu
   ·exact h1 _ u hu
   ·exact h.one j u hu
 ·rw [LH _ _ _ _ hi] at hc
  rw [gX _ _ _ _ hfit]
  by_cases e:i'=i
  ·subst e
   rw [if_pos rfl,gX _ _ _ _ (by omega)] at hc
   by_cases c1:j<off
   ·rw [if_pos c1] at hc
    rw [if_pos (by omega)]
    exact h.rd i' j c hc
   ·rw [if_neg c1] at hc
    rw [if_neg (by omega)]
    by_cases c2:j<off+ys.length
    ·rw [if_pos c2] at hc
     rw [if_pos (by omega)]
     obtain ⟨u,hu,hr⟩:=hd _ c hc
     exact ⟨u,by rw [<- hu]; congr 1; omega,hr⟩
    ·rw [if_neg c2] at hc
     rw [if_neg (by omega)]
     exact h.rd i' j c hc
  ·rw [if_neg e] at hc
   have hj:j<sz:=by
    have hi':=dS hc
    have:=hsz (es.getD i' []) (by simp [List.getD,List.getElem?_eq_getElem hi'])
    rw [<- this]; exact (List.getElem?_eq_some_iff.1 hc).1
   have hout:¬ (i*sz+off<=i'*sz+j/\i'*sz+j<i*sz+off+vs.length):=by
    intro ⟨c1,c2⟩
    obtain ⟨e1,_⟩:=O8 (i:=i') (i':=i) (j:=j) (j':=i'*sz+j-i*sz) hj (by omega) (by omega)
    exact e e1
   by_cases c1:i'*sz+j<i*sz+off
   ·rw [if_pos c1]; exact h.rd i' j c hc
   ·rw [if_neg c1,if_neg (by omega)]; exact h.rd i' j c hc
def oW (n:Nat):List (Nat × Operand)->List (Nat × fV)->Bool
 | [],[]=>true
 | (i,x)::r,(i',y)::r'=>i==i'&&dN n x y&&oW n r r'
 | _,_=>false
def wG (P:Program) (n:Nat) (op:Op) (sz m:Nat) (zs:List Cell) (ps:List (Nat × fV)):Bool :=
  match op with
  | .buildSlice t len ps'=>len==m&&zs.length==sz&&decide (0<sz)&&decide (len*sz<=16777216)&&oW n ps'.toList ps&&(match P.underlying t with
    | some (.slice e)=>(match P.info? e with | some i=>i.size==sz&&(match i.zero with | some z=>ql z.cells.toList zs | none=>false) | none=>false)
    | _=>false)
  | _=>false
theorem Et {sz:Nat} {BS:List Nat} (h:GX E I ρ n st a w) (hs0:0<sz):∀ (ps:List (Nat × Operand)) (ps':List (Nat × fV)) (l':List (Nat × List Cell)) (cs:Array Value) (es:List (List Cell)),oW n ps ps'=true ->
    jQ (aI st.tm) st.bx es.length sz ps'=some l'->kM (aI st.tm) st.bx ps'->(∀ b,b∈iT (aI st.tm) ps'->b∈BS)->(∀ p,p∈l'->p.1<es.length/\p.2.length=sz)->(∀ p,p∈ps'->(p.2.ev st.tm).g=true)->DC (lq I ρ w st.bx BS) cs.toList sz es->(∀ x,x∈es->x.length=sz)->cs.size=es.length*sz ->
    ∃ cs',Instr.fill (fun i=>some (i*sz,sz)) cs (ps.map fun p=>(p.1,a.eval p.2))=some cs'/\DC (lq I ρ w st.bx BS) cs'.toList sz (vk es l')/\(∀ x,x∈vk es l'->x.length=sz)/\cs'.size=es.length*sz/\(vk es l').length=es.length
  | [],[],l',cs,es,_,hd,_,_,_,_,hg,hsz,hcs=>by
    simp [jQ] at hd; subst hd
    exact ⟨cs,rfl,hg,hsz,hcs,rfl⟩
  | [],_::_,_,_,_,h,_,_,_,_,_,_,_,_=>by simp [oW] at h
  | _::_,[],_,_,_,h,_,_,_,_,_,_,_,_=>by simp [oW] at h
  | (i,x)::r,(i',y)::r',l',cs,es,hp,hd,hld,hbs,hq,hv,hg,hsz,hcs=>by
    simp only [oW,Bool.and_eq_true,beq_iff_eq] at hp
    obtain ⟨⟨rfl,hx⟩,hr⟩:=hp
    unfold jQ at hd
    split at hd
    · rename_i ds l2 hd1 hd2
      simp at hd
      subst hd
      obtain ⟨q1,q2⟩:=hq (i,ds) (by simp)
      simp only at q1 q2
      have g:=fJ h hx (hv _ (List.mem_cons_self ..))
      have hf:(aI st.tm y).flat:=by
        cases hav:aI st.tm y with
        | mG ps=>rw [hav] at hd1; simp [AV.cells,qy] at hd1; rw [hd1] at q2; simp at q2; omega
        | one x=>trivial
        | agg xs=>trivial
      have gc:=rf g hf
      obtain ⟨hl,hrd⟩:=EF (BS:=BS) h gc hd1 hld.1 (fun b hm=>hbs b (by simp only [iT,List.mem_append]; exact .inl hm))
      have hvs:(a.eval x).cells.size=sz:=by simp at hl; rw [hl]; exact q2
      have hone:∀ (j:Nat) (u:Value),(a.eval x).cells.toList[j]? = some u->u.oneCell'=true:=fun j u hu=>by
        have hj:j<(aI st.tm y).cells.length:=by rw [<- gc.1]; exact (List.getElem?_eq_some_iff.1 hu).1
        exact (gc.2 j u _ hu (List.getElem?_eq_getElem hj)).one
      have hi1:(i+1)*sz<=cs.toList.length:=by simp; rw [hcs]; exact Nat.mul_le_mul_right _ q1
      have hmul:(i+1)*sz=i*sz+sz:=by rw [Nat.add_mul]; omega
      have hsp:=hg.splice hsz q1 (off:=0) (ys:=ds) (vs:=(a.eval x).cells.toList) (by omega) hi1 (by simpa using hl) hone hrd
      have SH:(es.getD i []).length=sz:=hsz _ (by simp [List.getD,List.getElem?_eq_getElem q1])
      have hse:Ab.splice (es.getD i []) 0 ds=ds:=by unfold Ab.splice; rw [List.take_zero,List.nil_append,List.drop_of_length_le (by omega),List.append_nil]
      rw [hse,Nat.add_zero] at hsp
      have hfold:=foldl_set (a.eval x).cells (i*sz) cs (by simp at hi1; omega)
      have hlen2:(es.set i ds).length=es.length:=by simp
      have ih:=Et h hs0 r r' l2 ((a.eval x).cells.zipIdx.foldl (fun cs (p:Value × Nat)=>cs.setIfInBounds (i*sz+p.2) p.1) cs) (es.set i ds) hr (by rw [hlen2]; exact hd2) hld.2 (fun b hm=>hbs b (by simp only [iT,List.mem_append]; exact .inr hm))
        (fun p hp=>by rw [hlen2]; exact hq p (by simp [hp])) (fun p hp=>hv p (by simp [hp])) (by rw [hfold]; exact hsp)
        (fun x hx=>(List.mem_or_eq_of_mem_set hx).elim (hsz x) (fun h1=>by rw [h1]; exact q2)) (by
          have:(cs.toList).length=cs.size:=by simp
          rw [<- Array.length_toList,hfold,length_splice _ _ _ (by simp at hi1 ⊢; omega),hlen2]; simpa using hcs)
      obtain ⟨cs',h1,h2,h3,h4,h5⟩:=ih
      rw [hlen2] at h4 h5
      refine ⟨cs',?_,h2,h3,h4,h5⟩
      simp only [List.map_cons,Instr.fill]
      rw [if_neg (by simp at hi1 ⊢; omega)]
      exact h1
    · cases hd
theorem Ey {o:Oper} {l sz m:Nat} {zs:List Cell} {ps:List (Nat × fV)} {l':List (Nat × List Cell)} (h:GX E I ρ n st a w) (hc:wG P n o.op sz m zs ps=true) (hv:∀ p,p∈ps->(p.2.ev st.tm).g=true)
  (hm:E.m<=l) (hl:lu (st.bx l)) (hd:jQ (aI st.tm) st.bx m sz ps=some l') (hq:∀ p,p∈l'->p.1<m/\p.2.length=sz) (hld:kM (aI st.tm) st.bx ps) :
  gp P E n o a w ((st.mX (iT (aI st.tm) ps)).jI l (.dat sz (vk (List.replicate m zs) l'))) (.one (.own l m sz)):=by
 have h':=h.freeze (iT (aI st.tm) ps)
 have hl':lu ((st.mX (iT (aI st.tm) ps)).bx l):=by
  rw [kJ,kG hl]
  split<;>trivial
 generalize hJ:lq I ρ w st.bx (iT (aI st.tm) ps)=J at h'
 unfold wG at hc
 split at hc
 ·rename_i t len ps' he
  simp only [Bool.and_eq_true,beq_iff_eq,decide_eq_true_eq] at hc
  obtain ⟨⟨⟨⟨⟨rfl,hs⟩,hs0⟩,hbig⟩,hp⟩,ht⟩:=hc
  split at ht
  ·rename_i e hte
   split at ht
   ·rename_i i hi
    simp only [Bool.and_eq_true,beq_iff_eq] at ht
    obtain ⟨rfl,hz⟩:=ht
    split at hz
    ·rename_i z hzero
     generalize hz0:(if len*i.size=0 then (#[]:Array Value) else z.cells)=z0
     generalize hcs0:(Array.range (len*i.size)).map (z0[· % z0.size]!)=cs0
     have hdc:DC J cs0.toList i.size (List.replicate len zs)/\cs0.size=len*i.size:=by
      refine ⟨?_,by rw [<- hcs0]; simp⟩
      by_cases h0:len*i.size=0
      ·have hlen0:len=0:=by
        rcases Nat.mul_eq_zero.1 h0 with h1 | h1
        ·exact h1
        ·omega
       subst hlen0
       refine ⟨fun j u hu => ?_,fun i' j c hc => ?_⟩
       ·rw [<- hcs0] at hu; simp at hu
       ·simp [List.getD] at hc
      ·rw [if_neg h0] at hz0
       subst hz0
       have rc:=xk (I:=J) (N:=len*i.size) (m:=len) hz hs hs0 (Nat.le_refl _) (cs:=cs0) hcs0.symm
       exact ⟨fun j u hu=>rc.1 j u (by simpa using hu),fun i' j c hc=>by obtain ⟨u,hu,hr⟩:=rc.2 i' j c hc; exact ⟨u,by simpa using hu,hr⟩⟩
     obtain ⟨cs',h1,h2,h3,h4,h5⟩:=Et (BS:=iT (aI st.tm) ps) h hs0 ps'.toList ps l' cs0 (List.replicate len zs) hp (by simpa using hd) hld (fun b hb=>hb) (by simpa using hq) hv (by rw [hJ]; exact hdc.1) (fun x hx=>by rw [List.eq_of_mem_replicate hx,hs]) (by simpa using hdc.2)
     rw [hJ] at h2
     simp only [List.length_replicate] at h4 h5
     have g:=sK h' (kG hl') hm cs' e len i.size (vk (List.replicate len zs) l') h4 (by omega) (by simp only [maxLen]; have:=Nat.le_mul_of_pos_right len hs0; omega) h3
      (fun j u hu=>h2.one j u (by simpa using hu)) (fun i' j c hc=>by obtain ⟨u,hu,hr⟩:=h2.rd i' j c hc; exact ⟨u,by simpa using hu,hr⟩)
     refine ⟨_,_,J,_,.inl ?_,g,fun _=>⟨w.heap.size,len,_,_,Ren.fK _ _ _ _,rfl,Nat.le_refl _,Nat.le_refl _,fun _=>rfl⟩⟩
     have hps:(ps'.map fun (i,x)=>(i,a.eval x)).toList=ps'.toList.map fun p=>(p.1,a.eval p.2):=by simp
     have hsz:(sizeOf e).run P w = .ok i.size w:=by simp [sizeOf,typeInfo,hi]
     have OX:(zeroValue e).run P w = .ok z w:=by simp [zeroValue,typeInfo,hi,hzero]
     simp only [execOp,he,Instr.buildSlice,Sem.run_bind,run_underlying hte,Result.andThen_ok,hsz]
     rw [if_neg (by omega)]
     by_cases h0:len*i.size=0
     ·rw [if_pos h0] at hz0 ⊢
      subst hz0
      simp only [Sem.run_bind,Sem.run_pure,Result.andThen_ok,hcs0,hps,h1,newRow,run_newObj]
      rfl
     ·rw [if_neg h0] at hz0 ⊢
      subst hz0
      simp only [Sem.run_bind,OX,Sem.run_pure,Result.andThen_ok,hcs0,hps,h1,newRow,run_newObj]
      rfl
    ·cases hz
   ·cases ht
  ·cases ht
 ·cases hc
theorem qc (w:World) (k:Nat) (cs:Array Value):vY w (w.setRow k cs) (fun k'=>k'=k) :=
 ⟨rfl,rfl,rfl,by simp,fun k' _ hne=>setRow_other w k k' cs hne⟩
theorem kE (cs:Array Value) (off:Nat) (vs:List Value):(cs.toList.take (off+0)++vs++cs.toList.drop (off+0+vs.length)).toArray=(Ab.splice cs.toList off vs).toArray:=by
 unfold Ab.splice; simp
def yR (P:Program) (n:Nat) (op:Op) (agg:Bool) (k:Nat) (p x:fV):Bool:=match op with | .store t p' x'=>dN n p' p&&dN n x' x&&Af P t agg k&&(agg||k==1) | _=>false
theorem DX {t:TypeId} {agg:Bool} {k kk off:Nat} (ht:Af P t agg k=true) {v:Value} (hk:v.cells.size=k) {cur:Array Value} {e:TypeId} (hw:w.heap[kk]? = some (.cells cur e (0,0)))
  (hfit:off+k<=cur.size) (h1:∀ (j:Nat) (u:Value),v.cells.toList[j]? = some u->u.oneCell'=true) :
  (Instr.storeAt t (.pointer (some ⟨kk,off,none⟩)) v).run P w = .ok () (w.setRow kk (Ab.splice cur.toList off v.cells.toList).toArray):=by
 have hst:=run_storeCells_at P kk off e v.cells.toList 0 cur w hw (by simp; omega) (fun u hu=>by
  obtain ⟨j,hj⟩:=List.getElem?_of_mem hu
  exact h1 j u hj)
 rw [kE] at hst
 obtain ⟨_,hs⟩:=sZ ht w
 simp only [Instr.storeAt,Instr.sureAddr,Sem.run_bind,Sem.run_pure,Result.andThen_ok,storeVar,hs]
 rw [if_neg (by omega)]
 exact hst
theorem OO {v:Value} {x:AV} (h:GV I ρ v x) (hf:x.flat):∀ (j:Nat) (u:Value),v.cells.toList[j]? = some u->u.oneCell'=true:=fun j u hu=>by
 have gc:=rf h hf
 have hj:j<x.cells.length:=by rw [<- gc.1]; exact (List.getElem?_eq_some_iff.1 hu).1
 exact (gc.2 j u _ hu (List.getElem?_eq_getElem hj)).one
theorem Ho {o:Oper} {agg:Bool} {k:Nat} {p x:fV} (h:GX E I ρ n st a w) (hc:yR P n o.op agg k p x=true) (hd:o.dst=none) (hp:(p.ev st.tm).g=true) (hx:(x.ev st.tm).g=true)
  (dn:(lM agg k (aI st.tm p) (aI st.tm x) st.bx).vc):gp P E n o a w (st.iD (lM agg k (aI st.tm p) (aI st.tm x) st.bx).sets) (lM agg k (aI st.tm p) (aI st.tm x) st.bx).v:=by
 unfold yR at hc
 split at hc
 ·rename_i t p' x' he
  simp only [Bool.and_eq_true] at hc
  obtain ⟨⟨⟨c1,c2⟩,ht⟩,_⟩:=hc
  have g1:=fJ h c1 hp
  have g2:=fJ h c2 hx
  have hf:(aI st.tm x).flat:=by
   cases hav:aI st.tm x with
   | one _=>trivial
   | agg _=>trivial
   | mG ps=>rw [hav] at dn; exact dn.elim
  have gc:=rf g2 hf
  have h1:=OO g2 hf
  have key:∀ {J:IH} {st':bF} (h':GX E J ρ n st' a w) {b kk cap off:Nat} {cur:Array Value} {e:TypeId} {y:Box},a.eval p' = .pointer (some ⟨kk,off,none⟩)->(st'.bx b).uses (ρ b) kk->w.heap[kk]? = some (.cells cur e (0,0))->(aI st.tm x).cells.length=k->off+k<=cur.size ->
    (∀ k',y.uses (ρ b) k'->k'=kk)->lQ J ρ (w.setRow kk (Ab.splice cur.toList off (a.eval x').cells.toList).toArray) b y->ρ b=some (kk,cap)->gp P E n o a w (st'.iD [(b,y)]) (.one .ru):=by
   intro J st' h' b kk cap off cur e y hpv hu hw hk hfit Ue hok hr
   have hkv:(a.eval x').cells.size=k:=by have:=gc.1; simp at this; omega
   have hrun:=DX (P:=P) (w:=w) ht hkv hw hfit h1
   refine ⟨undef,w.setRow kk (Ab.splice cur.toList off (a.eval x').cells.toList).toArray,J,ρ,.inr ⟨by simp only [execOp,he,hpv,Sem.run_bind,hrun,Result.andThen_ok,Sem.run_pure],hd⟩,?_,fun hn=>absurd hd hn⟩
   exact h'.jI hu y Ue (qc _ _ _) hok (by simp)
  unfold lM at dn ⊢
  split at dn
  ·exact dn.elim
  ·exact dn.elim
  ·exact dn.elim
  ·split at dn
   ·rename_i b off e1
    rw [e1] at g1
    obtain ⟨kk,cap,hr,hv⟩:=g1
    split at dn
    ·rename_i xs hb
     obtain ⟨hk,hfit⟩:=dn
     have hok:=h.bx.ok b
     rw [hb] at hok
     obtain ⟨N9,cap',cs,hr',hw,hs,hcs⟩:=hok
     rw [hr] at hr'
     simp only [Option.some.injEq,Prod.mk.injEq] at hr'
     obtain ⟨rfl,rfl⟩:=hr'
     refine key h hv (by rw [hb]; exact ⟨cap,hr⟩) hw hk (by omega) (fun k' hk' => ?_) ?_ hr
     ·obtain ⟨c,hc⟩:=hk'; rw [hr] at hc; simp at hc; exact hc.1.symm
     ·have hsp:=rV.splice (vs:=cs.toList) (xs:=xs) ⟨by simpa using hs,fun j v y hv hy=>hcs j v y (by simpa using hv) hy⟩ gc off (by omega)
      refine ⟨kk,cap,_,hr,setRow_heap w kk cs _ cap _ hw,?_,fun j u y hu hy=>hsp.2 j u y (by simpa using hu) hy⟩
      have:=hsp.1
      simpa using this
    ·exact dn.elim
   ·rename_i b i sz off e1
    rw [e1] at g1
    obtain ⟨kk,cap,hr,hv⟩:=g1
    split at dn
    ·rename_i sz' es cs' hb hds
     obtain ⟨rfl,hk,hi,hfit,hlo,hnb⟩:=dn
     obtain ⟨hl,hrd⟩:=EF (BS:=fZ (aI st.tm x).cells) h gc hds hlo (fun b hm=>hm)
     have h':=h.freeze (fZ (aI st.tm x).cells)
     have hb':(st.mX (fZ (aI st.tm x).cells)).bx b = .dat sz' es:=by
      rw [kJ,if_neg (fun hm=>by rw [List.contains_iff_mem.2 hm] at hnb; cases hnb),hb]
     rw [zW]
     generalize hJ:lq I ρ w st.bx (fZ (aI st.tm x).cells)=J at h' hrd
     have hok:=h'.bx.ok b
     rw [hb'] at hok
     obtain ⟨N9,cap',hr',hle,hcm,hsz,hcs⟩:=hok
     rw [hr] at hr'
     simp only [Option.some.injEq,Prod.mk.injEq] at hr'
     obtain ⟨rfl,rfl⟩:=hr'
     have hc0:cap ≠ 0:=by omega
     obtain ⟨cs,e,hw,hs,ho,SK⟩:=hcs hc0
     have hi1:(i+1)*sz'<=cs.size:=by rw [hs]; exact Nat.mul_le_mul_right _ (by omega)
     have hmul:(i+1)*sz'=i*sz'+sz':=by rw [Nat.add_mul]; omega
     have SH:(es.getD i []).length=sz':=hsz _ (by simp [List.getD,List.getElem?_eq_getElem hi])
     have hck:(aI st.tm x).cells.length=k:=by rw [<- gc.1,hl]; exact hk
     have hdc:DC J cs.toList sz' es:=⟨fun j u hu=>ho j u (by simpa using hu),fun i j c hc=>by obtain ⟨u,hu,hr⟩:=SK i j c hc; exact ⟨u,by simpa using hu,hr⟩⟩
     have hsp:=hdc.splice hsz hi (off:=off) (ys:=cs') (vs:=(a.eval x').cells.toList) (by omega) (by simpa using hi1) hl h1 hrd
     refine key h' hv (by rw [hb']; exact ⟨cap,hr,hc0⟩) hw hck (by omega) (fun k' hk' => ?_) ?_ hr
     ·obtain ⟨c,hc,_⟩:=hk'; rw [hr] at hc; simp at hc; exact hc.1.symm
     ·refine ⟨kk,cap,hr,by simpa using hle,hcm,fun y hy => ?_,fun _=>⟨_,e,setRow_heap w kk cs _ e _ hw,?_,fun j u hu=>hsp.one j u (by simpa using hu),fun i j c hc=>by obtain ⟨u,hu,hr⟩:=hsp.rd i j c hc; exact ⟨u,by simpa using hu,hr⟩⟩⟩
      ·rcases List.mem_or_eq_of_mem_set hy with h1 | h1
       ·exact hsz y h1
       ·rw [h1,length_splice _ _ _ (by omega)]
        exact SH
      ·have:(a.eval x').cells.toList.length=k:=by rw [hl]; exact hk
       simp only [List.size_toArray]
       rw [length_splice _ _ _ (by rw [this,Array.length_toList]; omega)]
       simpa using hs
    ·exact dn.elim
   ·exact dn.elim
 ·cases hc
end
end Go.Ab
end
section
namespace Go.Ab
open Go
section
variable {P:Program} {E:Env P} {I:IH} {ρ:Ren} {n:Nat} {st:bF} {a:Act} {w:World}
theorem GX.kill (h:GX E I ρ n st a w) (b:Nat):GX E I ρ n (st.jI b .dead) a w:=by
 refine { h with bx := ?_,own := ?_,agree:=h.agree,tm:=h.tm,size:=h.size,defers:=h.defers }
 ·refine BX.step (fun c=>c=b) h.bx (IH.le_refl I) (Ren.le_refl ρ) (fun c hc=>⟨by simp [bF.gK,hc],rfl⟩) (fun c k _ _=>rfl) ?_ ?_ ?_ (fun c k _ hu=>h.bx.fresh c k hu)
  ·rintro c rfl; simp [bF.gK,lQ]
  ·rintro c k rfl hu; simp [bF.gK,Box.uses] at hu
  ·rintro c c' k rfl rfl _ _; rfl
 ·intro c k hu
  simp only [bF.gK] at hu
  by_cases e:c=b
  ·rw [if_pos e] at hu; exact hu.elim
  ·rw [if_neg e] at hu; exact h.own c k hu
theorem GX.move (h:GX E I ρ n st a w) {w':World} {b l kk cap sz sz':Nat} {es es':List (List Cell)} (hb:st.bx b = .dat sz es) (hr:ρ b=some (kk,cap)) (hl:st.bx l = .absent) (hm:E.m<=l)
  (hF:vY w w' (fun k=>k=kk)) (hsz:w'.heap.size=w.heap.size) (h0:cap=0->w'=w) (hx:lQ I (ρ.set l kk cap) w' l (.dat sz' es')):GX E I (ρ.set l kk cap) n ((st.jI b .dead).jI l (.dat sz' es')) a w':=by
 have hrl:ρ l=none:=by have:=h.bx.ok l; rwa [hl] at this
 have hbl:b ≠ l:=by rintro rfl; rw [hl] at hb; cases hb
 have hle:=Ren.uw (ρ:=ρ) (k:=kk) (cap:=cap) hrl
 have hk:∀ k',k' ≠ kk->w'.heap[k']? = w.heap[k']? := fun k' hne=>by
  by_cases hlt:k'<w.heap.size
  ·exact hF.block k' hlt hne
  ·rw [Array.getElem?_eq_none (by omega),Array.getElem?_eq_none (by omega)]
 have hub:cap ≠ 0->(st.bx b).uses (ρ b) kk:=fun hc=>by rw [hb]; exact ⟨cap,hr,hc⟩
 have hk2:∀ k',(∀ hc:cap ≠ 0,k' ≠ kk)->w'.heap[k']? = w.heap[k']? := fun k' hne=>by
  by_cases hc:cap=0
  ·rw [h0 hc]
  ·exact hk k' (hne hc)
 refine { agree:=h.agree.other fun k' c hc=>hk2 k' fun hc0 e => ?_,bx := ?_,tm:=fun t ht=>(h.tm t ht).mono (IH.le_refl _) hle,size:=h.size,defers:=h.defers,pV := ?_,own := ?_,yg:=h.yg,oz:=h.oz,jG := ?_ }
 ·subst e; have:=h.bx.fresh b k' (hub hc0); rw [this] at hc; cases hc
 ·refine BX.step (fun c=>c=b\/c=l) h.bx (IH.le_refl I) hle ?_ ?_ ?_ ?_ ?_ ?_
  ·intro c hc
   have h1:¬ c=b:=fun e=>hc (.inl e)
   have h2:¬ c=l:=fun e=>hc (.inr e)
   exact ⟨by simp [bF.gK,h1,h2],Ren.je h2⟩
  ·intro c k' hc hu
   refine hk2 k' fun hc0 e=>hc (.inl ?_)
   subst e
   exact h.bx.inj c b k' hu (hub hc0)
  ·rintro c (rfl | rfl)
   ·simp [bF.gK,hbl,lQ]
   ·simpa [bF.gK] using hx
  ·rintro c k' (rfl | rfl) hu
   ·simp [bF.gK,hbl,Box.uses] at hu
   ·simp only [bF.gK,if_true,Box.uses,Ren.fK] at hu
    obtain ⟨c',hc',hc0⟩:=hu
    simp only [Option.some.injEq,Prod.mk.injEq] at hc'
    obtain ⟨rfl,rfl⟩:=hc'
    exact ⟨fun b' hb' hu'=>hb' (.inl (h.bx.inj b' b kk hu' (hub hc0))),h.bx.fresh b kk (hub hc0)⟩
  ·rintro c c' k' (rfl | rfl) (rfl | rfl) hu hu'
   ·rfl
   ·simp [bF.gK,hbl,Box.uses] at hu
   ·simp [bF.gK,hbl,Box.uses] at hu'
   ·rfl
  ·intro c k' hc hu; exact h.bx.fresh c k' hu
 ·by_cases hc:cap=0
  ·rw [h0 hc]; exact h.pV
  ·refine h.pV.trans hF fun k' hlt e => ?_
   subst e
   rcases h.own b k' (hub hc) with h1 | h1
   ·omega
   ·exact h1
 ·intro c k' hu
  simp only [bF.gK] at hu
  by_cases e:c=l
  ·subst e
   simp only [if_true,Box.uses,Ren.fK] at hu
   obtain ⟨c',hc',hc0⟩:=hu
   simp only [Option.some.injEq,Prod.mk.injEq] at hc'
   obtain ⟨rfl,rfl⟩:=hc'
   exact h.own b kk (hub hc0)
  ·rw [if_neg e,Ren.je e] at hu
   by_cases e2:c=b
   ·rw [if_pos e2] at hu; exact hu.elim
   ·rw [if_neg e2] at hu; exact h.own c k' hu
 ·intro c hc
  rw [Ren.je (by omega)]
  exact h.jG c hc
theorem rP {v:Value} {sz:Nat} {es:List (List Cell)} (h:Src I w v sz es) (h0:0<sz):∃ (b:Option Addr) (cap:Nat) (us:List Value),v = .slice b es.length cap/\us.length=es.length*sz /\
    (∀ ad,b=some ad->∀ (j:Nat) (u:Value),us[j]? = some u->w.cell? (ad.add j)=some u)/\(b=none->es=[])/\DC I us sz es:=by
  obtain ⟨b,cap,hv,_,hsz,hb,hc⟩:=h
  cases b with
  | none =>
    have:es=[]:=by
      cases es with
      | nil=>rfl
      | cons e r=>exact absurd rfl (hb (by simp))
    subst this
    exact ⟨none,cap,[],hv,by simp,(fun ad h=>by cases h),(fun _=>rfl),⟨by simp,by simp⟩⟩
  | some ad =>
    have key:∀ j,j<es.length*sz->∃ u,w.cell? (ad.add j)=some u/\∃ c,(es.getD (j/sz) [])[j%sz]? = some c/\Rd I u c:=by
      intro j hj
      have hi:j/sz<es.length:=by rw [Nat.div_lt_iff_lt_mul h0]; exact hj
      have hl:(es.getD (j/sz) []).length=sz:=hsz _ (by simp [List.getD,List.getElem?_eq_getElem hi])
      have hm:j%sz<sz:=Nat.mod_lt _ h0
      obtain ⟨u,hu,hr⟩:=hc ad rfl (j/sz) (j%sz) _ (List.getElem?_eq_getElem (by omega))
      have e:j/sz*sz+j%sz=j:=by rw [Nat.mul_comm]; exact Nat.div_add_mod j sz
      rw [e] at hu
      exact ⟨u,hu,_,List.getElem?_eq_getElem (by omega),hr⟩
    refine ⟨some ad,cap,(List.range (es.length*sz)).map fun j=>(w.cell? (ad.add j)).getD undef,hv,by simp,?_,by simp,?_⟩
    · intro ad' had j u hu
      simp at had
      subst had
      rw [List.getElem?_map] at hu
      by_cases hj:j<es.length*sz
      · rw [List.getElem?_range hj] at hu
        obtain ⟨u',hu',_⟩:=key j hj
        simp [hu'] at hu
        rw [<- hu]; exact hu'
      · rw [List.getElem?_eq_none (by simpa using hj)] at hu; cases hu
    · refine ⟨fun j u hu => ?_,fun i j c hcc => ?_⟩
      · rw [List.getElem?_map] at hu
        by_cases hj:j<es.length*sz
        · rw [List.getElem?_range hj] at hu
          obtain ⟨u',hu',c,_,hr⟩:=key j hj
          simp [hu'] at hu
          rw [<- hu]; exact hr.one
        · rw [List.getElem?_eq_none (by simpa using hj)] at hu; cases hu
      · have hi:=dS hcc
        have hl:(es.getD i []).length=sz:=hsz _ (by simp [List.getD,List.getElem?_eq_getElem hi])
        have hj:j<sz:=by rw [<- hl]; exact (List.getElem?_eq_some_iff.1 hcc).1
        obtain ⟨u,hu,hr⟩:=hc ad rfl i j c hcc
        have hlt:i*sz+j<es.length*sz:=by
          have:(i+1)*sz<=es.length*sz:=Nat.mul_le_mul_right _ hi
          rw [Nat.add_mul] at this
          omega
        exact ⟨u,by rw [List.getElem?_map,List.getElem?_range hlt]; simp [hu],hr⟩
theorem DC.append {us vs:List Value} {sz:Nat} {es ys:List (List Cell)} (h:DC I us sz es) (k:DC I vs sz ys) (hl:us.length=es.length*sz):DC I (us++vs) sz (es++ys):=by
 refine ⟨fun j u hu => ?_,fun i j c hc => ?_⟩
 ·by_cases hj:j<us.length
  ·rw [List.getElem?_append_left hj] at hu; exact h.one j u hu
  ·rw [List.getElem?_append_right (by omega)] at hu; exact k.one _ u hu
 ·by_cases hi:i<es.length
  ·have e:(es++ys).getD i []=es.getD i []:=by simp [List.getD,List.getElem?_append_left hi]
   rw [e] at hc
   obtain ⟨u,hu,hr⟩:=h.rd i j c hc
   exact ⟨u,by rw [List.getElem?_append_left (List.getElem?_eq_some_iff.1 hu).1]; exact hu,hr⟩
  ·have e:(es++ys).getD i []=ys.getD (i-es.length) []:=by simp [List.getD,List.getElem?_append_right (Nat.le_of_not_lt hi)]
   rw [e] at hc
   obtain ⟨u,hu,hr⟩:=k.rd _ j c hc
   have hmul:es.length*sz<=i*sz:=Nat.mul_le_mul_right _ (by omega)
   have hsub:(i-es.length)*sz=i*sz-es.length*sz:=Nat.sub_mul _ _ _
   exact ⟨u,by rw [List.getElem?_append_right (by omega),hl,<- hu]; congr 1; omega,hr⟩
theorem DC.more {us vs:List Value} {sz:Nat} {es:List (List Cell)} (h:DC I us sz es) (hv:∀ (j:Nat) (u:Value),vs[j]? = some u->u.oneCell'=true):DC I (us++vs) sz es:=by
 refine ⟨fun j u hu => ?_,fun i j c hc => ?_⟩
 ·by_cases hj:j<us.length
  ·rw [List.getElem?_append_left hj] at hu; exact h.one j u hu
  ·rw [List.getElem?_append_right (by omega)] at hu; exact hv _ u hu
 ·obtain ⟨u,hu,hr⟩:=h.rd i j c hc
  exact ⟨u,by rw [List.getElem?_append_left (List.getElem?_eq_some_iff.1 hu).1]; exact hu,hr⟩
theorem DC.II {us:List Value} {sz:Nat} {es:List (List Cell)} {cs:Array Value} (h:DC I us sz es) (e:cs.toList=us) :
  (∀ (j:Nat) (u:Value),cs[j]? = some u->u.oneCell'=true)/\∀ (i j:Nat) (c:Cell),(es.getD i [])[j]? = some c->∃ u,cs[i*sz+j]? = some u/\Rd I u c:=by
 subst e
 exact ⟨fun j u hu=>h.one j u (by simpa using hu),fun i j c hc=>by obtain ⟨u,hu,hr⟩:=h.rd i j c hc; exact ⟨u,by simpa using hu,hr⟩⟩
def nN (P:Program) (n:Nat) (op:Op) (sz bytes:Nat) (s x:fV):Bool :=
  match op with
  | .call { callee := .builtin .append,args:=⟨[s',x']⟩,argTypes:=⟨[t,t']⟩ } => dN n s' s&&dN n x' x&&t==t'&&decide (0<sz)&&(match P.underlying t with
    | some (.slice e)=>(match P.info? e with | some i=>i.size==sz&&i.bytes==bytes&&(match i.zero with | some z=>z.cells.size==sz&&z.cells.toList.all (·.oneCell') | none=>false) | none=>false)
    | _=>false)
  | _=>false
theorem run_append_room' (t ty e tg:TypeId) (i:TypeInfo) (ht:P.underlying t=some (.slice e)) (hi:P.info? e=some i)
  (g sLen sCap:Nat) (cur:Array Value) (hg:w.heap[g]? = some (.cells cur tg (0,0)))
  (ad:Addr) (m c:Nat) (news:List Value) (hl:news.length=m*i.size) (hnews:∀ j u,news[j]? = some u->w.cell? (ad.add j)=some u) (h1:∀ u∈news,u.oneCell'=true)
  (hroom:sLen+m<=sCap) (hfit:sLen*i.size+news.length<=cur.size) :
  (Builtin.append_ #[t,t] ty #[.slice (some ⟨g,0,none⟩) sLen sCap,.slice (some ad) m c]).run P w =
   .ok (.slice (some ⟨g,0,none⟩) (sLen+m) sCap) (w.setRow g (cur.toList.take (sLen*i.size)++news++cur.toList.drop (sLen*i.size+news.length)).toArray):=by
 have hf:=run_firstCells_some (P:=P) w i.size m ad m c news hl hnews
 have hst:=run_storeCells_at P g (sLen*i.size) tg news 0 cur w hg (by simpa using hfit) h1
 simp only [Nat.add_zero] at hst
 simp [Builtin.append_,run_underlying ht,sizeOf,typeInfo,hi,Builtin.lenOf,hroom,hf,Go.Addr.add_lit,hst]
theorem mZ (t ty e:TypeId) (i:TypeInfo) (ht:P.underlying t=some (.slice e)) (hi:P.info? e=some i) (b:Option Addr) (sLen sCap:Nat) (hs:sLen<=sCap) (ad:Option Addr) (c:Nat) :
  (Builtin.append_ #[t,t] ty #[.slice b sLen sCap,.slice ad 0 c]).run P w = .ok (.slice b sLen sCap) w:=by
 have hf:(Builtin.firstCells i.size 0 (.slice ad 0 c)).run P w = .ok #[] w:=by
  cases ad<;>simp [Builtin.firstCells,loadCells,loadCellsFrom,Sem.run_pure]
 cases b<;>simp [Builtin.append_,run_underlying ht,sizeOf,typeInfo,hi,Builtin.lenOf,hs,hf,storeCells]
theorem xy (h:GX E I ρ n st a w) {l sz bytes:Nat} {sv xv:Value} {es ys:List (List Cell)} {b:Option Nat} (t ty e:TypeId) (i:TypeInfo) (z:Value) (ht:P.underlying t=some (.slice e)) (hi:P.info? e=some i) (hsz:i.size=sz)
    (hby:i.bytes=bytes) (hz:i.zero=some z) (hzs:z.cells.size=sz) (hz1:z.cells.toList.all (·.oneCell')=true) (h0:0<sz) (hl:st.bx l = .absent) (hm:E.m<=l)
    (hb:(b=none/\es=[]/\sv = .slice none 0 0)\/∃ b',b=some b'/\st.bx b' = .dat sz es/\GC I ρ sv (.own b' es.length sz)) (hx:Src I w xv sz ys) (hbig:(es.length+ys.length)*(bytes+sz+1)<=2^46) :
    ∃ v w' ρ',(Builtin.append_ #[t,t] ty #[sv,xv]).run P w = .ok v w'/\GX E I ρ' n ((match b with | some b'=>st.jI b' .dead | none=>st).jI l (.dat sz (es++ys))) a w'/\GC I ρ' v (.own l (es.length+ys.length) sz):=by
  subst hsz; subst hby
  have hmul:(es.length+ys.length)*(i.bytes+i.size+1)=(es.length+ys.length)*i.bytes+(es.length+ys.length)*i.size+(es.length+ys.length):=by rw [Nat.mul_add,Nat.mul_add,Nat.mul_one]
  have hbytes:(es.length+ys.length)*i.bytes<=140737488355328:=by omega
  have h63:es.length+ys.length<=maxLen:=by simp only [maxLen]; omega
  obtain ⟨xb,xc,us,hxv,qJ,hus,N8,FN⟩:=rP hx h0
  have hys:∀ y,y∈ys->y.length=i.size:=by obtain ⟨_,_,_,_,h4,_⟩:=hx; exact h4
  have hone:∀ u∈us,u.oneCell'=true:=fun u hu=>by obtain ⟨j,hj⟩:=List.getElem?_of_mem hu; exact FN.one j u hj
  have hzc:∀ (q:Nat) (j:Nat) (u:Value),(Builtin.zeroCells z.cells q).toList[j]? = some u->u.oneCell'=true:=by
    intro q j u hu
    simp only [Builtin.zeroCells,Array.getElem?_toList,Array.getElem?_map] at hu
    by_cases hj:j<q*z.cells.size
    · rw [Array.getElem?_range,if_pos hj] at hu
      simp only [Option.map_some,Option.some.injEq] at hu
      have hlt:j%z.cells.size<z.cells.size:=Nat.mod_lt _ (by omega)
      rw [getElem!_pos z.cells _ hlt] at hu
      rw [<- hu]
      exact List.all_eq_true.1 hz1 _ (by simp)
    · rw [Array.getElem?_range,if_neg hj] at hu; cases hu
  have fresh:∀ (st':bF) (old:Nat) (olds:List Value),GX E I ρ n st' a w->st'.bx l = .absent->old<es.length+ys.length->olds.length=es.length*i.size->DC I olds i.size es->(∀ y,y∈es->y.length=i.size) ->
      GX E I (ρ.set l w.heap.size (grownCap w (es.length+ys.length) old e)) n (st'.jI l (.dat i.size (es++ys))) a
        (w.drew.alloc (.cells (olds.toArray++us.toArray++Builtin.zeroCells z.cells (grownCap w (es.length+ys.length) old e-(es.length+ys.length))) e)):=by
    intro st' old olds hst hl' ho hol hdo hes
    have hge:=grownCap_ge w (es.length+ys.length) old e
    have hcm:grownCap w (es.length+ys.length) old e<=maxLen:=grownCap_le_maxLen w _ old e h63
    have hdc:=((hdo.append FN hol).more (hzc (grownCap w (es.length+ys.length) old e-(es.length+ys.length)))).II (cs:=olds.toArray++us.toArray++Builtin.zeroCells z.cells (grownCap w (es.length+ys.length) old e-(es.length+ys.length))) (by simp)
    refine sK hst.drew hl' hm _ e _ i.size (es++ys) ?_ (by simpa using hge) hcm (fun x hx => ?_) hdc.1 hdc.2
    · simp only [Array.size_append,List.size_toArray,size_zeroCells,hzs,hol,qJ,<- Nat.add_mul]
      congr 1
      omega
    · rcases List.mem_append.1 hx with h1 | h1
      · exact hes x h1
      · exact hys x h1
  rcases hb with ⟨rfl,rfl,rfl⟩ | ⟨b',rfl,hb',hg⟩
  ·
    simp only [List.length_nil,Nat.zero_add,List.nil_append] at *
    by_cases hm0:ys.length=0
    · have hy0:ys=[]:=List.eq_nil_of_length_eq_zero hm0
      subst hy0
      refine ⟨.slice none 0 0,w,ρ.set l 0 0,?_,?_,0,0,none,0,Ren.fK _ _ _ _,rfl,Nat.le_refl _,Nat.le_refl _,fun h=>absurd rfl h⟩
      · rw [hxv]; exact mZ t ty e i ht hi none 0 0 (Nat.le_refl _) xb xc
      · have hrl:ρ l=none:=by have:=h.bx.ok l; rwa [hl] at this
        have hle:=Ren.uw (ρ:=ρ) (k:=0) (cap:=0) hrl
        refine { agree:=h.agree,bx := ?_,tm:=fun t ht=>(h.tm t ht).mono (IH.le_refl _) hle,size:=h.size,defers:=h.defers,pV:=h.pV,own := ?_,yg:=h.yg,oz:=h.oz,jG:=fun c hc=>by rw [Ren.je (by omega)]; exact h.jG c hc }
        · refine BX.step (fun c=>c=l) h.bx (IH.le_refl I) hle (fun c hc=>⟨by simp [bF.gK,hc],Ren.je hc⟩) (fun c k _ _=>rfl) ?_ ?_ ?_ (fun c k _ hu=>h.bx.fresh c k hu)
          · rintro c rfl
            simp only [bF.gK,if_true]
            exact ⟨0,0,Ren.fK _ _ _ _,by simp,by simp [maxLen],by simp,fun h=>absurd rfl h⟩
          · rintro c k rfl hu
            simp only [bF.gK,if_true,Box.uses,Ren.fK] at hu
            obtain ⟨c',hc',hc0⟩:=hu
            simp only [Option.some.injEq,Prod.mk.injEq] at hc'
            exact absurd hc'.2.symm hc0
          · rintro c c' k rfl rfl _ _; rfl
        · intro c k hu
          simp only [bF.gK] at hu
          by_cases e':c=l
          · subst e'
            simp only [if_true,Box.uses,Ren.fK] at hu
            obtain ⟨c',hc',hc0⟩:=hu
            simp only [Option.some.injEq,Prod.mk.injEq] at hc'
            exact absurd hc'.2.symm hc0
          · rw [if_neg e',Ren.je e'] at hu; exact h.own c k hu
    · obtain ⟨ad,had⟩:∃ ad,xb=some ad:=by
        cases hq:xb with
        | none=>exact absurd (by rw [N8 hq]; rfl) hm0
        | some ad=>exact ⟨ad,rfl⟩
      subst had
      have hr:=run_append_nil (P:=P) w t ty e i z ht hi hz ad ys.length xc us qJ (hus ad rfl) (by omega) (by simp only [maxLen] at h63; omega) (by omega)
      rw [<- hxv] at hr
      have hf:=fresh st 0 [] h hl (by omega) (by simp) ⟨by simp,by simp⟩ (by simp)
      simp only [Array.empty_append] at hf
      exact ⟨_,_,_,hr,hf,w.heap.size,_,_,_,Ren.fK _ _ _ _,rfl,grownCap_ge w ys.length 0 e,Nat.le_refl _,fun _=>rfl⟩
  · obtain ⟨kk,cap,ad0,c,hr0,hsv,hnc,hcc,hcap⟩:=hg
    have hbl:b' ≠ l:=by rintro rfl; rw [hl] at hb'; cases hb'
    have hok:=h.bx.ok b'
    rw [hb'] at hok
    obtain ⟨N9,cap',hr',hle,hcm,hes,hcs⟩:=hok
    rw [hr0] at hr'
    simp only [Option.some.injEq,Prod.mk.injEq] at hr'
    obtain ⟨rfl,rfl⟩:=hr'
    simp only
    by_cases hm0:ys.length=0
    · have hy0:ys=[]:=List.eq_nil_of_length_eq_zero hm0
      subst hy0
      simp only [List.length_nil,Nat.add_zero,List.append_nil] at *
      refine ⟨sv,w,ρ.set l kk cap,?_,?_,kk,cap,ad0,c,Ren.fK _ _ _ _,hsv,hnc,hcc,hcap⟩
      · rw [hxv,hsv]; exact mZ t ty e i ht hi ad0 _ c hnc xb xc
      · refine h.move hb' hr0 hl hm (vY.refl _ _) rfl (fun _=>rfl) ⟨kk,cap,Ren.fK _ _ _ _,hle,hcm,hes,hcs⟩
    · obtain ⟨ad,had⟩:∃ ad,xb=some ad:=by
        cases hq:xb with
        | none=>exact absurd (by rw [N8 hq]; rfl) hm0
        | some ad=>exact ⟨ad,rfl⟩
      subst had
      by_cases hroom:es.length+ys.length<=c
      · have hc0:cap ≠ 0:=by omega
        have uo:=hcap hc0
        subst uo
        obtain ⟨cs,tg,hw,hs,ho,hrd⟩:=hcs hc0
        have hfit:es.length*i.size+us.length<=cs.size:=by rw [hs,qJ,<- Nat.add_mul]; exact Nat.mul_le_mul_right _ (by omega)
        have hr:=run_append_room' (P:=P) (w:=w) (ty:=ty) t e tg i ht hi kk es.length c cs hw ad ys.length xc us qJ (hus ad rfl) hone hroom hfit
        rw [<- hxv,<- hsv] at hr
        refine ⟨_,_,ρ.set l kk cap,hr,?_,kk,cap,_,c,Ren.fK _ _ _ _,rfl,hroom,hcc,fun _=>rfl⟩
        refine h.move hb' hr0 hl hm (qc _ _ _) (by simp) (fun h=>absurd h hc0) ⟨kk,cap,Ren.fK _ _ _ _,by simp; omega,hcm,fun x hx => ?_,fun _=>⟨_,tg,setRow_heap w kk cs _ tg _ hw,?_,?_⟩⟩
        · rcases List.mem_append.1 hx with h1 | h1
          · exact hes x h1
          · exact hys x h1
        · simp only [List.size_toArray,List.length_append,List.length_take,List.length_drop,Array.length_toList]
          omega
        · have hd1:DC I (cs.toList.take (es.length*i.size)) i.size es:=by
            refine ⟨fun j u hu => ?_,fun i' j c' hc' => ?_⟩
            · rw [List.getElem?_take] at hu
              split at hu
              · exact ho j u (by simpa using hu)
              · cases hu
            · obtain ⟨u,hu,hr⟩:=hrd i' j c' hc'
              have hi':=dS hc'
              have hj:j<i.size:=by rw [<- hes (es.getD i' []) (by simp [List.getD,List.getElem?_eq_getElem hi'])]; exact (List.getElem?_eq_some_iff.1 hc').1
              have:(i'+1)*i.size<=es.length*i.size:=Nat.mul_le_mul_right _ hi'
              rw [Nat.add_mul] at this
              exact ⟨u,by rw [List.getElem?_take,if_pos (by omega)]; simpa using hu,hr⟩
          have hlen:(cs.toList.take (es.length*i.size)).length=es.length*i.size:=by simp; omega
          have:=((hd1.append FN hlen).more (vs:=cs.toList.drop (es.length*i.size+us.length)) (fun j u hu=>by rw [List.getElem?_drop] at hu; exact ho _ u (by simpa using hu))).II (cs:=(cs.toList.take (es.length*i.size)++us++cs.toList.drop (es.length*i.size+us.length)).toArray) (by simp)
          exact this
      ·
        have hfit:=growslice_fits (need:=es.length+ys.length) (old:=c) (bytes:=i.bytes) (by omega) hbytes
        have hk:=h.kill b'
        have hkl:(st.jI b' .dead).bx l = .absent:=by rw [bF.gK,if_neg (fun e=>hbl e.symm)]; exact hl
        by_cases hc0:cap=0
        ·
          have he0:es=[]:=List.eq_nil_of_length_eq_zero (by omega)
          subst he0
          have hcz:c=0:=by omega
          subst hcz
          simp only [List.length_nil,Nat.zero_add,List.nil_append] at *
          have hf:=fresh (st.jI b' .dead) 0 [] hk hkl (by omega) (by simp) ⟨by simp,by simp⟩ (by simp)
          simp only [Array.empty_append] at hf
          cases ad0 with
          | none =>
            have hr:=run_append_nil (P:=P) w t ty e i z ht hi hz ad ys.length xc us qJ (hus ad rfl) (by omega) (by simp only [maxLen] at h63; omega) (by omega)
            rw [<- hxv,<- hsv] at hr
            exact ⟨_,_,_,hr,hf,w.heap.size,_,_,_,Ren.fK _ _ _ _,rfl,grownCap_ge w ys.length 0 e,Nat.le_refl _,fun _=>rfl⟩
          | some q =>
            have hr:=run_append_grow (P:=P) w t ty e i z ht hi hz q 0 0 [] (by simp) (by simp) ad ys.length xc us qJ (hus ad rfl) (by omega) (by simp only [maxLen] at h63; omega) (by simpa using hfit)
            rw [<- hxv,<- hsv] at hr
            simp only [Nat.zero_add,Array.empty_append] at hr
            exact ⟨_,_,_,hr,hf,w.heap.size,_,_,_,Ren.fK _ _ _ _,rfl,grownCap_ge w ys.length 0 e,Nat.le_refl _,fun _=>rfl⟩
        · have uo:=hcap hc0
          subst uo
          obtain ⟨cs,tg,hw,hs,ho,hrd⟩:=hcs hc0
          have hmn:es.length*i.size<=cs.size:=by rw [hs]; exact Nat.mul_le_mul_right _ hle
          have ET:(cs.toList.take (es.length*i.size)).length=es.length*i.size:=by simp; omega
          have holds:∀ (j:Nat) (u:Value),(cs.toList.take (es.length*i.size))[j]? = some u->w.cell? ((⟨kk,0,none⟩:Addr).add j)=some u:=fun j u hu=>by
            rw [List.getElem?_take] at hu
            split at hu
            · rw [Addr.jU]; simp at hu; simp [World.cell?,hw,hu]
            · cases hu
          have hd1:DC I (cs.toList.take (es.length*i.size)) i.size es:=by
            refine ⟨fun j u hu => ?_,fun i' j c' hc' => ?_⟩
            · rw [List.getElem?_take] at hu
              split at hu
              · exact ho j u (by simpa using hu)
              · cases hu
            · obtain ⟨u,hu,hr⟩:=hrd i' j c' hc'
              have hi':=dS hc'
              have hj:j<i.size:=by rw [<- hes (es.getD i' []) (by simp [List.getD,List.getElem?_eq_getElem hi'])]; exact (List.getElem?_eq_some_iff.1 hc').1
              have:(i'+1)*i.size<=es.length*i.size:=Nat.mul_le_mul_right _ hi'
              rw [Nat.add_mul] at this
              exact ⟨u,by rw [List.getElem?_take,if_pos (by omega)]; simpa using hu,hr⟩
          have hr:=run_append_grow (P:=P) w t ty e i z ht hi hz ⟨kk,0,none⟩ es.length c _ ET holds ad ys.length xc us qJ (hus ad rfl) (by omega) (by simp only [maxLen] at h63; omega) hfit
          rw [<- hxv,<- hsv] at hr
          have hf:=fresh (st.jI b' .dead) c _ hk hkl (by omega) ET hd1 hes
          exact ⟨_,_,_,hr,hf,w.heap.size,_,_,_,Ren.fK _ _ _ _,rfl,grownCap_ge w _ c e,Nat.le_refl _,fun _=>rfl⟩
end
end Go.Ab
end
section
namespace Go.Ab
open Go
section
variable {P:Program} {E:Env P} {I:IH} {ρ:Ren} {n:Nat} {st:bF} {a:Act} {w:World}
def x9 (l sz bytes:Nat) (s x:AV) (bx:Nat->Box):FR:=match kD sz x bx with
    | some (p,ys)=>match s with
      | .one (.fH _)=>⟨p/\(match bx l with | .absent=>True | _=>False)/\ys.length*(bytes+sz+1)<=2^46,.one (.own l ys.length sz),[(l,.dat sz ys)]⟩
      | .one (.own b n sz')=>match bx b with
        | .dat kR es=>⟨p/\(match bx l with | .absent=>True | _=>False)/\sz'=sz/\kR=sz/\n<=es.length/\(n+ys.length)*(bytes+sz+1)<=2^46/\b ≠ l,
            .one (.own l (n+ys.length) sz),[(b,.dead),(l,.dat sz (es.take n++ys))]⟩
        | _ => .bad
      | _ => .bad
    | none => .bad
theorem oQ {x:Box} (h:match x with | .absent=>True | _=>False):x = .absent:=by cases x<;>first | rfl | exact h.elim
theorem GX.pfx (h:GX E I ρ n st a w) {b sz m:Nat} {es:List (List Cell)} (hb:st.bx b = .dat sz es):GX E I ρ n (st.jI b (.dat sz (es.take m))) a w:=by
 have hu:∀ c k,((st.jI b (.dat sz (es.take m))).bx c).uses (ρ c) k->(st.bx c).uses (ρ c) k:=fun c k hu=>by
  rw [bF.gK] at hu
  split at hu
  ·rename_i e; subst e; rw [hb]; exact hu
  ·exact hu
 refine { h with bx:=⟨fun c => ?_,fun c c' k hc hc'=>h.bx.inj c c' k (hu c k hc) (hu c' k hc'),fun c k hc=>h.bx.fresh c k (hu c k hc)⟩,own:=fun c k hc=>h.own c k (hu c k hc),agree:=h.agree,tm:=h.tm,size:=h.size,defers:=h.defers,pV:=h.pV }
 rw [bF.gK]
 split
 ·rename_i e
  subst e
  have hok:=h.bx.ok c
  rw [hb] at hok
  obtain ⟨k,cap,hr,h1,h2,h3,h4⟩:=hok
  refine ⟨k,cap,hr,by simp; omega,h2,fun e he=>h3 e (List.mem_of_mem_take he),fun h0 => ?_⟩
  obtain ⟨cs,e,g1,g2,g3,g4⟩:=h4 h0
  refine ⟨cs,e,g1,g2,g3,fun i j c' hc'=>g4 i j c' ?_⟩
  have hi:=dS hc'
  simp at hi
  rw [<- hc']
  congr 1
  simp only [List.getD]
  rw [List.getElem?_take,if_pos (by omega)]
 ·exact h.bx.ok c
theorem Eo {o:Oper} {l sz bytes:Nat} {s x:fV} (h:GX E I ρ n st a w) (hc:nN P n o.op sz bytes s x=true) (hm:E.m<=l) (hs:(s.ev st.tm).g=true) (hx:(x.ev st.tm).g=true)
  (dn:(x9 l sz bytes (aI st.tm s) (aI st.tm x) st.bx).vc):gp P E n o a w (st.iD (x9 l sz bytes (aI st.tm s) (aI st.tm x) st.bx).sets) (x9 l sz bytes (aI st.tm s) (aI st.tm x) st.bx).v:=by
 unfold nN at hc
 split at hc
 ·rename_i s' x' t t' he
  simp only [Bool.and_eq_true,beq_iff_eq,decide_eq_true_eq] at hc
  obtain ⟨⟨⟨⟨c1,c2⟩,rfl⟩,h0⟩,ht⟩:=hc
  have g1:=fJ h c1 hs
  have g2:=fJ h c2 hx
  split at ht
  ·rename_i e hte
   split at ht
   ·rename_i i hi
    simp only [Bool.and_eq_true,beq_iff_eq] at ht
    obtain ⟨⟨rfl,rfl⟩,hz⟩:=ht
    split at hz
    ·rename_i z hzero
     simp only [Bool.and_eq_true,beq_iff_eq] at hz
     obtain ⟨hzs,hz1⟩:=hz
     have fin:∀ {v:Value} {w':World},(Builtin.append_ #[t,t] o.type #[a.eval s',a.eval x']).run P w = .ok v w'->(execOp a.eval o).run P w = .ok (.value v) w':=by
      intro v w' hr
      simp only [execOp,he,resolve,invoke,builtin,Sem.run_bind,Sem.run_pure,Result.andThen_ok,List.map_toArray,List.map_cons,List.map_nil,hr]
     unfold x9 at dn ⊢
     split at dn
     ·rename_i p ys hsrc
      split at dn
      ·rename_i sz' e1
       obtain ⟨hp,hl,hbig⟩:=dn
       rw [e1] at g1
       obtain ⟨v,w',ρ',hr,hg,hv⟩:=xy (P:=P) h (l:=l) (es:=[]) (ys:=ys) (b:=none) t o.type e i z hte hi rfl rfl hzero hzs hz1 h0 (oQ hl) hm (.inl ⟨rfl,rfl,g1⟩) (src_ok h g2 hsrc hp) (by simpa using hbig)
       simp only [List.nil_append,List.length_nil,Nat.zero_add] at hg hv
       exact ⟨v,w',I,ρ',.inl (fin hr),hg,fun _=>hv⟩
      ·rename_i b m sz' e1
       rw [e1] at g1
       split at dn
       ·rename_i kR es hb
        obtain ⟨hp,hl,rfl,rfl,hmn,hbig,hbl⟩:=dn
        have hlt:(es.take m).length=m:=by simp; omega
        have h':=h.pfx (m:=m) hb
        have hl':(st.jI b (.dat i.size (es.take m))).bx l = .absent:=by rw [bF.gK,if_neg (fun e=>hbl e.symm)]; exact oQ hl
        obtain ⟨v,w',ρ',hr,hg,hv⟩:=xy (P:=P) h' (l:=l) (es:=es.take m) (ys:=ys) (b:=some b) t o.type e i z hte hi rfl rfl hzero hzs hz1 h0 hl' hm (.inr ⟨b,rfl,by rw [bF.gK,if_pos rfl],by rw [hlt]; exact g1⟩) (src_ok h g2 hsrc hp) (by rw [hlt]; exact hbig)
        rw [hlt] at hv
        have hst:(((st.jI b (.dat i.size (es.take m))).jI b .dead).jI l (.dat i.size (es.take m++ys)))=((st.jI b .dead).jI l (.dat i.size (es.take m++ys))):=by
         apply bF.ext'
         ·rfl
         ·funext c; simp only [bF.gK]; split
          ·rfl
          ·split<;>rfl
        simp only [hst] at hg
        exact ⟨v,w',I,ρ',.inl (fin hr),hg,fun _=>hv⟩
       ·exact dn.elim
      ·exact dn.elim
     ·exact dn.elim
    ·cases hz
   ·cases ht
  ·cases ht
 ·cases hc
def copyV (sz:Nat) (d x:AV) (bx:Nat->Box):FR:=match kD sz x bx with
    | some (p,ys)=>match d with
      | .one (.own b n sz')=>match bx b with
        | .dat kR es=>⟨p/\sz'=sz/\kR=sz/\n<=es.length,jl .i64 (Nat.min ys.length n:Nat),[(b,.dat sz (splice es 0 (ys.take n)))]⟩
        | _ => .bad
      | .one (.fH _) => .ok (jl .i64 0)
      | _ => .bad
    | none => .bad
def rZ (P:Program) (n:Nat) (op:Op) (sz:Nat) (d x:fV):Bool :=
 match op with
 | .call { callee := .builtin .copy,args:=⟨[d',x']⟩,argTypes:=⟨[t,_]⟩ } => dN n d' d&&dN n x' x&&um P t sz&&decide (0<sz)
 | _=>false
theorem Nl (t t' ty e:TypeId) (i:TypeInfo) (ht:P.underlying t=some (.slice e)) (hi:P.info? e=some i) (kk m c:Nat) (cur:Array Value) (tg:TypeId) (hg:w.heap[kk]? = some (.cells cur tg (0,0)))
  (ad:Addr) (k c':Nat) (us:List Value) (hl:us.length=Nat.min k m*i.size) (hus:∀ j u,us[j]? = some u->w.cell? (ad.add j)=some u) (h1:∀ u∈us,u.oneCell'=true) (hfit:us.length<=cur.size) :
  (Builtin.copy_ #[t,t'] ty #[.slice (some ⟨kk,0,none⟩) m c,.slice (some ad) k c']).run P w = .ok (goInt (Nat.min k m:Nat)) (w.setRow kk (splice cur.toList 0 us).toArray):=by
 have hf:=run_firstCells_some (P:=P) w i.size (Nat.min k m) ad k c' us hl hus
 have hst:=run_storeCells_at P kk 0 tg us 0 cur w hg (by simpa using hfit) h1
 rw [kE] at hst
 simp [Builtin.copy_,run_underlying ht,sizeOf,typeInfo,hi,Builtin.lenOf,hf,hst]
theorem oN (t t' ty e:TypeId) (i:TypeInfo) (ht:P.underlying t=some (.slice e)) (hi:P.info? e=some i) (b:Option Addr) (m c:Nat) (ad:Option Addr) (k c':Nat) (h:Nat.min k m=0) :
  (Builtin.copy_ #[t,t'] ty #[.slice b m c,.slice ad k c']).run P w = .ok (goInt 0) w:=by
 have hf:(Builtin.firstCells i.size 0 (.slice ad k c')).run P w = .ok #[] w:=by
  cases ad<;>simp [Builtin.firstCells,loadCells,loadCellsFrom,Sem.run_pure]
 cases b<;>simp [Builtin.copy_,run_underlying ht,sizeOf,typeInfo,hi,Builtin.lenOf,h,hf,storeCells]
theorem Hl {α:Type} (xs:List α):splice xs 0 []=xs:=by simp [splice]
theorem sQ {b:Nat} {x:Box} (h:st.bx b=x):st.jI b x=st:=by
 apply bF.ext'
 ·rfl
 ·funext c; rw [bF.gK]; split
  ·rename_i e; rw [e,h]
  ·rfl
theorem Jj {o:Oper} {sz:Nat} {d x:fV} (h:GX E I ρ n st a w) (hc:rZ P n o.op sz d x=true) (hd:(d.ev st.tm).g=true) (hx:(x.ev st.tm).g=true)
  (dn:(copyV sz (aI st.tm d) (aI st.tm x) st.bx).vc):gp P E n o a w (st.iD (copyV sz (aI st.tm d) (aI st.tm x) st.bx).sets) (copyV sz (aI st.tm d) (aI st.tm x) st.bx).v:=by
 unfold rZ at hc
 split at hc
 ·rename_i d' x' t t' he
  simp only [Bool.and_eq_true,decide_eq_true_eq] at hc
  obtain ⟨⟨⟨c1,c2⟩,ht⟩,h0⟩:=hc
  have g1:=fJ h c1 hd
  have g2:=fJ h c2 hx
  obtain ⟨e,i,hte,hi,rfl⟩:=lT ht
  have fin:∀ {v:Value} {w':World},(Builtin.copy_ #[t,t'] o.type #[a.eval d',a.eval x']).run P w = .ok v w'->(execOp a.eval o).run P w = .ok (.value v) w':=by
   intro v w' hr
   simp only [execOp,he,resolve,invoke,builtin,Sem.run_bind,Sem.run_pure,Result.andThen_ok,List.map_toArray,List.map_cons,List.map_nil,hr]
  unfold copyV at dn ⊢
  split at dn
  ·rename_i p ys hsrc
   split at dn
   ·rename_i b m sz' e1
    rw [e1] at g1
    split at dn
    ·rename_i kR es hb
     obtain ⟨hp,rfl,rfl,hmn⟩:=dn
     have hsrc':=src_ok h g2 hsrc hp
     have hys:∀ y,y∈ys->y.length=i.size:=by obtain ⟨_,_,_,_,h4,_⟩:=hsrc'; exact h4
     obtain ⟨xb,xc,us,hxv,qJ,hus,N8,FN⟩:=rP hsrc' h0
     obtain ⟨kk,cap,ad0,c,hr0,hsv,hnc,hcc,hcap⟩:=g1
     have hok:=h.bx.ok b
     rw [hb] at hok
     obtain ⟨N9,cap',hr',hle,hcm,hes,hcs⟩:=hok
     rw [hr0] at hr'
     simp only [Option.some.injEq,Prod.mk.injEq] at hr'
     obtain ⟨rfl,rfl⟩:=hr'
     by_cases hm0:Nat.min ys.length m=0
     ·have hr:=oN (P:=P) (w:=w) t t' o.type e i hte hi ad0 m c xb ys.length xc hm0
      rw [<- hxv,<- hsv] at hr
      have htk:ys.take m=[]:=by
       apply List.eq_nil_of_length_eq_zero
       rw [List.length_take,Nat.min_comm]; exact hm0
      rw [htk,Hl]
      refine ⟨_,w,I,ρ,.inl (fin hr),?_,fun _=>by rw [hm0]; exact kK _ _⟩
      show GX E I ρ n (st.jI b (.dat i.size es)) a w
      rw [sQ hb]
      exact h
     ·have hmin:Nat.min ys.length m<=ys.length/\Nat.min ys.length m<=m:=⟨Nat.min_le_left _ _,Nat.min_le_right _ _⟩
      have hc0:cap ≠ 0:=by omega
      have uo:=hcap hc0
      subst uo
      obtain ⟨ad,had⟩:∃ ad,xb=some ad:=by
       cases hq:xb with
       | none=>have:=N8 hq; subst this; exact absurd rfl hm0
       | some ad=>exact ⟨ad,rfl⟩
      subst had
      obtain ⟨cs,tg,hw,hs,ho,hrd⟩:=hcs hc0
      have hmul:Nat.min ys.length m*i.size<=ys.length*i.size:=Nat.mul_le_mul_right _ hmin.1
      have vz:Nat.min ys.length m*i.size<=cap*i.size:=Nat.mul_le_mul_right _ (by omega)
      have N7:(us.take (Nat.min ys.length m*i.size)).length=Nat.min ys.length m*i.size:=by simp; omega
      have LQ:0+(us.take (Nat.min ys.length m*i.size)).length<=cs.toList.length:=by have hq:cs.toList.length=cs.size:=Array.length_toList; omega
      have hr:=Nl (P:=P) (w:=w) t t' o.type e i hte hi kk m c cs tg hw ad ys.length xc (us.take (Nat.min ys.length m*i.size)) N7
       (fun j u hu=>by
        rw [List.getElem?_take] at hu
        split at hu
        ·exact hus ad rfl j u hu
        ·cases hu)
       (fun u hu=>by obtain ⟨j,hj⟩:=List.getElem?_of_mem (List.mem_of_mem_take hu); exact FN.one j u hj) (by rw [N7]; omega)
      rw [<- hxv,<- hsv] at hr
      refine ⟨_,_,I,ρ,.inl (fin hr),?_,fun _=>kK _ _⟩
      have htl:(ys.take m).length=Nat.min ys.length m:=by rw [List.length_take,Nat.min_comm]
      refine h.jI (b:=b) (k:=kk) (by rw [hb]; exact ⟨cap,hr0,hc0⟩) (.dat i.size (splice es 0 (ys.take m))) (fun k' hk' => ?_) (qc _ _ _) ?_ (by simp)
      ·obtain ⟨c',hc',_⟩:=hk'; rw [hr0] at hc'; simp at hc'; exact hc'.1.symm
      ·have hsl:(splice es 0 (ys.take m)).length=es.length:=length_splice _ _ _ (by rw [htl]; omega)
       refine ⟨kk,cap,hr0,by rw [hsl]; exact hle,hcm,fun y hy => ?_,fun _=>⟨_,tg,setRow_heap w kk cs _ tg _ hw,?_,?_,?_⟩⟩
       ·unfold splice at hy
        simp only [List.take_zero,List.nil_append,List.mem_append] at hy
        rcases hy with h1 | h1
        ·exact hys y (List.mem_of_mem_take h1)
        ·exact hes y (List.mem_of_mem_drop h1)
       ·simp only [List.size_toArray]
        rw [length_splice _ _ _ LQ]
        simpa using hs
       ·intro j u hu
        have hu:(splice cs.toList 0 (us.take (Nat.min ys.length m*i.size)))[j]? = some u:=by simpa using hu
        rw [gX _ _ _ _ LQ,if_neg (by omega)] at hu
        split at hu
        ·rw [List.getElem?_take] at hu
         split at hu
         ·exact FN.one _ u hu
         ·cases hu
        ·exact ho j u (by simpa using hu)
       ·intro i' j cc mV
        have key:∃ u,(splice cs.toList 0 (us.take (Nat.min ys.length m*i.size)))[i'*i.size+j]? = some u/\Rd I u cc:=by
         have hi':=dS mV
         rw [hsl] at hi'
         rw [gX _ _ _ _ LQ,if_neg (by omega),N7]
         have hget:(splice es 0 (ys.take m)).getD i' []=if i'<Nat.min ys.length m then ys.getD i' [] else es.getD i' []:=by
          simp only [List.getD]
          rw [gX _ _ _ _ (by rw [htl]; omega),if_neg (by omega),htl]
          by_cases hh:i'<Nat.min ys.length m
          ·rw [if_pos (by omega),if_pos hh,List.getElem?_take,if_pos (by omega)]; rfl
          ·rw [if_neg (by omega),if_neg hh]
         rw [hget] at mV
         by_cases hh:i'<Nat.min ys.length m
         ·rw [if_pos hh] at mV
          obtain ⟨u,hu,hr⟩:=FN.rd i' j cc mV
          have hj:j<i.size:=by
           have hyi:=dS mV
           rw [<- hys (ys.getD i' []) (by simp [List.getD,List.getElem?_eq_getElem hyi])]
           exact (List.getElem?_eq_some_iff.1 mV).1
          have:(i'+1)*i.size<=Nat.min ys.length m*i.size:=Nat.mul_le_mul_right _ hh
          rw [Nat.add_mul] at this
          exact ⟨u,by rw [if_pos (by omega),List.getElem?_take,if_pos (by omega)]; simpa using hu,hr⟩
         ·rw [if_neg hh] at mV
          obtain ⟨u,hu,hr⟩:=hrd i' j cc mV
          have:Nat.min ys.length m*i.size<=i'*i.size:=Nat.mul_le_mul_right _ (by omega)
          exact ⟨u,by rw [if_neg (by omega)]; simpa using hu,hr⟩
        obtain ⟨u,hu,hr⟩:=key
        exact ⟨u,by simpa using hu,hr⟩
    ·exact dn.elim
   ·rename_i sz' e1
    rw [e1] at g1
    have g1:a.eval d' = .slice none 0 0:=g1
    have hgx:∃ xb k xc,a.eval x' = .slice xb k xc:=by
     unfold kD at hsrc
     split at hsrc
     ·rename_i e2; rw [e2] at g2; obtain ⟨b,c,hv,_⟩:=PI g2; exact ⟨b,_,c,hv⟩
     ·rename_i e2; rw [e2] at g2; exact ⟨none,0,0,g2⟩
     ·rename_i e2; rw [e2] at g2; obtain ⟨k,cap,b,c,_,hv,_⟩:=g2; exact ⟨b,_,c,hv⟩
     ·rename_i e2; rw [e2] at g2; obtain ⟨k,cap,b,c,_,hv,_⟩:=g2; exact ⟨b,_,c,hv⟩
     ·cases hsrc
    obtain ⟨xb,k,xc,hxv⟩:=hgx
    have hr:=oN (P:=P) (w:=w) t t' o.type e i hte hi none 0 0 xb k xc (Nat.min_zero k)
    rw [<- hxv,<- g1] at hr
    exact ⟨_,w,I,ρ,.inl (fin hr),h,fun _=>kK _ _⟩
   ·exact dn.elim
  ·exact dn.elim
 ·cases hc
end
end Go.Ab
end
section
namespace Go.Ab
open Go
section
variable {P:Program} {E:Env P} {I:IH} {ρ:Ren} {n:Nat} {st:bF} {a:Act} {w:World}
theorem rq {v:Value} {x:AV} {b lo m sz:Nat} {c:Option Nat} (h:GV I ρ v x) (hs:lX x=some (b,lo,m,c,sz)) :
  ∃ k cap ad c',ρ b=some (k,cap)/\v = .slice ad m c'/\m<=c'/\lo+c'<=cap/\(∀ c0,c=some c0->c'=c0)/\(c' ≠ 0\/(lo=0/\cap ≠ 0)->ad=some ⟨k,lo*sz,none⟩):=by
 unfold lX at hs
 split at hs
 ·simp only [Option.some.injEq,Prod.mk.injEq] at hs
  obtain ⟨rfl,rfl,rfl,rfl,rfl⟩:=hs
  obtain ⟨k,cap,ad,c',h1,h2,h3,h4,h5⟩:=h
  refine ⟨k,cap,ad,c',h1,h2,h3,by omega,(fun _ e=>by cases e),fun hc => ?_⟩
  rw [Nat.zero_mul]
  refine h5 ?_
  rcases hc with hc | hc
  ·omega
  ·exact hc.2
 ·simp only [Option.some.injEq,Prod.mk.injEq] at hs
  obtain ⟨rfl,rfl,rfl,rfl,rfl⟩:=hs
  exact h
 ·cases hs
def Gv (n:Nat) (op:Op) (l:Bool) (x y:fV):Bool:=match op with | .binOp b _ x' y' _=>(match b with | .shl=>l | .shr => !l | _=>false)&&dN n x' x&&dN n y' y | _=>false
theorem Nr {o:Oper} {l:Bool} {x y:fV} (h:GX E I ρ n st a w) (hc:Gv n o.op l x y=true) (hx:(x.ev st.tm).g=true) (hy:(y.ev st.tm).g=true)
  (dn:(DZ l (aI st.tm x) (aI st.tm y)).vc):gp P E n o a w st (DZ l (aI st.tm x) (aI st.tm y)).v:=by
 unfold Gv at hc
 split at hc
 ·rename_i b t x' y' t' he
  simp only [Bool.and_eq_true] at hc
  obtain ⟨⟨hb,h1⟩,h2⟩:=hc
  have g1:=fJ h h1 hx
  have g2:=fJ h h2 hy
  unfold DZ at dn ⊢
  split at dn
  ·rename_i k p k' q e1 e2
   rw [e1] at g1; rw [e2] at g2
   have v1:=jC g1
   have v2:=jC g2
   have hq:¬ q<0:=by simp only at dn; omega
   have hg:=qG (P:=P) b t x' y' k p (.int k' q) w
   cases b<;>simp only [Bool.false_eq_true] at hb
   ·subst hb
    exact gp.val h (v := .int k (k.wrap (p*2^(min q.toNat k.bits)))) (by simp [execOp,he,hg,v1,v2,binOp,Op.shift,hq]) (kK _ _)
   ·cases l
    ·exact gp.val h (v := .int k (p.fdiv (2^(min q.toNat k.bits)))) (by simp [execOp,he,hg,v1,v2,binOp,Op.shift,hq]) (kK _ _)
    ·cases hb
  ·exact dn.elim
 ·cases hc
def Cf (P:Program) (n:Nat) (op:Op) (x:fV):Bool :=
 match op with
 | .call { callee := .builtin .cap,args:=⟨[x']⟩,argTypes:=⟨[t]⟩ } => dN n x' x&&vG P t
 | _=>false
theorem Jg {o:Oper} {x:fV} (h:GX E I ρ n st a w) (hc:Cf P n o.op x=true) (hx:(x.ev st.tm).g=true) (dn:(Au (aI st.tm x)).vc):gp P E n o a w st (Au (aI st.tm x)).v:=by
 unfold Cf at hc
 split at hc
 ·rename_i x' t he
  simp only [Bool.and_eq_true] at hc
  have g:=fJ h hc.1 hx
  obtain ⟨e,ht⟩:=tH hc.2
  unfold Au at dn ⊢
  split at dn
  ·rename_i b lo m c sz e1
   rw [e1] at g
   obtain ⟨k,cap,ad,c',hr,hv,hm,hcc,hcx,ha⟩:=g
   have:=hcx c rfl
   subst this
   exact gp.val h (by simp [execOp,he,resolve,invoke,builtin,Builtin.cap_,run_underlying ht,hv,goInt]) (kK _ _)
  ·rename_i sz e1
   rw [e1] at g
   have g:a.eval x' = .slice none 0 0:=g
   exact gp.val h (by simp [execOp,he,resolve,invoke,builtin,Builtin.cap_,run_underlying ht,g,goInt]) (kK _ _)
  ·exact dn.elim
 ·cases hc
def wJ (P:Program) (n:Nat) (op:Op) (sz:Nat) (x:fV) (lo hi:Option fV):Bool:=match op with | .slice t x' lo' hi' none=>dN n x' x&&wF n lo' lo&&wF n hi' hi&&um P t sz | _=>false
theorem Fj {o:Oper} {sz:Nat} {x:fV} {lo hi:Option fV} (h:GX E I ρ n st a w) (hc:wJ P n o.op sz x lo hi=true) (hx:(x.ev st.tm).g=true)
  (hgl:∀ x,x∈lo.toList->(x.ev st.tm).g=true) (hgh:∀ x,x∈hi.toList->(x.ev st.tm).g=true)
  (dn:(qg sz (aI st.tm x) (bnd (aI st.tm) lo 0) (bnd (aI st.tm) hi)).vc):gp P E n o a w st (qg sz (aI st.tm x) (bnd (aI st.tm) lo 0) (bnd (aI st.tm) hi)).v:=by
 unfold wJ at hc
 split at hc
 ·rename_i t x' lo' hi' he
  simp only [Bool.and_eq_true] at hc
  have g1:=fJ h hc.1.1.1 hx
  obtain ⟨e,ti,ht,hti,hsz⟩:=lT hc.2
  unfold qg at dn ⊢
  split at dn
  ·rename_i b l m c sz' hsb
   split at dn
   ·rename_i p q e2 e3
    obtain ⟨rfl,h0,h1,h2⟩:=dn
    obtain ⟨k,cap,ad,c',hr,hv,hm,hcc,hcx,ha⟩:=rq g1 hsb
    have hqc:q<=c':=by
     cases c with
     | none=>simp only at h2; omega
     | some c0=>have:=hcx c0 rfl; simp only at h2; omega
    have b1:=oV h hc.1.1.2 hgl e2
    have b2:=oV h hc.1.2 hgh e3
    have hb:=lG (P:=P) (w:=w) true m c' (lo'.map a.eval) (hi'.map a.eval) (p:=p) (q:=q) (rX b1) (rX b2) h0 h1 hqc
    have hrun:(execOp a.eval o).run P w = .ok (.value (.slice (if c'=p.toNat then ad else ad.map (·.add (p.toNat*sz'))) (q.toNat-p.toNat) (c'-p.toNat))) w:=by
     simp only [execOp,he,Instr.sliceAt,Instr.slice,hv,Option.map_none]
     simp [run_underlying ht]
     rw [hb]
     simp [sizeOf,typeInfo,hti,hsz]
    refine gp.val h hrun ⟨k,cap,_,_,hr,by congr 1; omega,by omega,by omega,fun c0 hc0 => ?_,fun mV => ?_⟩
    ·cases c with
     | none=>cases hc0
     | some c1=>have:=hcx c1 rfl; simp at hc0; omega
    ·by_cases hcp:c'=p.toNat
     ·rw [if_pos hcp]
      have hl0:l=0/\p.toNat=0/\cap ≠ 0:=by omega
      have:=ha (.inr ⟨hl0.1,hl0.2.2⟩)
      rw [this,hl0.1,hl0.2.1]
     ·rw [if_neg hcp,ha (.inl (by omega))]
      simp only [Option.map_some]
      rw [Addr.jU,Nat.add_mul]
   ·exact dn.elim
  ·exact dn.elim
 ·cases hc
theorem Ff (len cap:Nat) {k1 k2 k3:IntKind} {p q m:Int} (h0:0<=p) (h1:p<=q) (h2:q<=m) (h3:m<=cap) :
  (Instr.sliceBounds true len cap (some (.int k1 p)) (some (.int k2 q)) (some (.int k3 m))).run P w = .ok (p.toNat,q.toNat,m.toNat) w:=by
 simp (disch:=omega) [Instr.sliceBounds,run_sliceBound]
def Gw (P:Program) (n:Nat) (op:Op) (sz:Nat) (x p q m:fV):Bool:=match op with | .slice t x' (some p') (some q') (some m')=>dN n x' x&&dN n p' p&&dN n q' q&&dN n m' m&&um P t sz | _=>false
theorem Ns {o:Oper} {sz:Nat} {x p q m:fV} (h:GX E I ρ n st a w) (hc:Gw P n o.op sz x p q m=true) (hx:(x.ev st.tm).g=true) (hp:(p.ev st.tm).g=true) (hq:(q.ev st.tm).g=true) (hm:(m.ev st.tm).g=true)
  (dn:(G9 sz (aI st.tm x) (aI st.tm p) (aI st.tm q) (aI st.tm m)).vc):gp P E n o a w st (G9 sz (aI st.tm x) (aI st.tm p) (aI st.tm q) (aI st.tm m)).v:=by
 unfold Gw at hc
 split at hc
 ·rename_i t x' p' q' m' he
  simp only [Bool.and_eq_true] at hc
  obtain ⟨⟨⟨⟨c1,c2⟩,c3⟩,c4⟩,c5⟩:=hc
  have g1:=fJ h c1 hx
  have g2:=fJ h c2 hp
  have g3:=fJ h c3 hq
  have g4:=fJ h c4 hm
  obtain ⟨e,ti,ht,hti,hsz⟩:=lT c5
  unfold G9 at dn ⊢
  split at dn
  ·rename_i b l len c sz' k1 p0 k2 q0 k3 m0 hsb e2 e3 e4
   obtain ⟨rfl,h0,h1,h2,h3⟩:=dn
   rw [e2] at g2; rw [e3] at g3; rw [e4] at g4
   have v2:=jC g2; have v3:=jC g3; have v4:=jC g4
   obtain ⟨k,cap,ad,c',hr,hv,hlm,hcc,hcx,ha⟩:=rq g1 hsb
   have hmc:m0<=c':=by
    cases c with
    | none=>simp only at h3; omega
    | some c0=>have:=hcx c0 rfl; simp only at h3; omega
   have hb:=Ff (P:=P) (w:=w) len c' (k1:=k1) (k2:=k2) (k3:=k3) h0 h1 h2 hmc
   refine gp.val h (v := .slice (if m0.toNat=p0.toNat then ad else ad.map (·.add (p0.toNat*sz'))) (q0.toNat-p0.toNat) (m0.toNat-p0.toNat)) ?_ rfl
   simp only [execOp,he,Instr.sliceAt,Instr.slice,hv,Option.map_some,v2,v3,v4]
   simp [run_underlying ht]
   rw [hb]
   simp [sizeOf,typeInfo,hti,hsz]
  ·exact dn.elim
 ·cases hc
theorem wO {α:Type} (xs ys:List α) (off j:Nat) (h:off<=xs.length):(splice xs off ys)[j]? = if j<off then xs[j]? else if j<off+ys.length then ys[j-off]? else xs[j]? := by
 unfold splice
 have h1:(xs.take off).length=off:=by simp; omega
 by_cases hj:j<off
 ·rw [if_pos hj,List.append_assoc,List.getElem?_append_left (by omega),List.getElem?_take,if_pos hj]
 ·rw [if_neg hj,List.append_assoc,List.getElem?_append_right (by omega),h1]
  by_cases hk:j<off+ys.length
  ·rw [if_pos hk,List.getElem?_append_left (by omega)]
  ·rw [if_neg hk,List.getElem?_append_right (by omega),List.getElem?_drop]
   congr 1; omega
theorem DT (h:GX E I ρ n st a w) {b kk cap sz lo:Nat} {es ys:List (List Cell)} {us:List Value} (hb:st.bx b = .dat sz es) (hr:ρ b=some (kk,cap)) (h0:0<sz) (hlo:lo<=es.length) (hfit:lo+ys.length<=cap)
  (hc0:cap ≠ 0) (hys:∀ y,y∈ys->y.length=sz) (N7:us.length=ys.length*sz) (hd:DC I us sz ys) :
  ∃ cs tg,w.heap[kk]? = some (.cells cs tg (0,0))/\cs.size=cap*sz/\GX E I ρ n (st.jI b (.dat sz (splice es lo ys))) a (w.setRow kk (splice cs.toList (lo*sz) us).toArray):=by
 have hok:=h.bx.ok b
 rw [hb] at hok
 obtain ⟨N9,cap',hr',hle,hcm,hes,hcs⟩:=hok
 rw [hr] at hr'
 simp only [Option.some.injEq,Prod.mk.injEq] at hr'
 obtain ⟨rfl,rfl⟩:=hr'
 obtain ⟨cs,tg,hw,hs,ho,hrd⟩:=hcs hc0
 refine ⟨cs,tg,hw,hs,?_⟩
 have hmul:(lo+ys.length)*sz<=cap*sz:=Nat.mul_le_mul_right _ hfit
 rw [Nat.add_mul] at hmul
 have LU:lo*sz+us.length<=cs.toList.length:=by have hq:cs.toList.length=cs.size:=Array.length_toList; omega
 have hlen:(splice es lo ys).length<=cap:=by unfold splice; simp; omega
 refine h.jI (b:=b) (k:=kk) (by rw [hb]; exact ⟨cap,hr,hc0⟩) (.dat sz (splice es lo ys)) (fun k' hk' => ?_) (qc _ _ _) ?_ (by simp)
 ·obtain ⟨c',hc',_⟩:=hk'; rw [hr] at hc'; simp at hc'; exact hc'.1.symm
 ·refine ⟨kk,cap,hr,hlen,hcm,fun y hy => ?_,fun _=>⟨_,tg,setRow_heap w kk cs _ tg _ hw,?_,?_,?_⟩⟩
  ·unfold splice at hy
   simp only [List.mem_append] at hy
   rcases hy with (h1 | h1) | h1
   ·exact hes y (List.mem_of_mem_take h1)
   ·exact hys y h1
   ·exact hes y (List.mem_of_mem_drop h1)
  ·simp only [List.size_toArray]
   rw [length_splice _ _ _ LU]
   simpa using hs
  ·intro j u hu
   have hu:(splice cs.toList (lo*sz) us)[j]? = some u:=by simpa using hu
   rw [gX _ _ _ _ LU] at hu
   split at hu
   ·exact ho j u (by simpa using hu)
   ·split at hu
    ·exact hd.one _ u hu
    ·exact ho j u (by simpa using hu)
  ·intro i' j cc mV
   have key:∃ u,(splice cs.toList (lo*sz) us)[i'*sz+j]? = some u/\Rd I u cc:=by
    have hget:(splice es lo ys).getD i' []=if i'<lo then es.getD i' [] else if i'<lo+ys.length then ys.getD (i'-lo) [] else es.getD i' []:=by
     simp only [List.getD]
     rw [wO _ _ _ _ hlo]
     split
     ·rfl
     ·split<;>rfl
    rw [hget] at mV
    rw [gX _ _ _ _ LU]
    by_cases h1:i'<lo
    ·rw [if_pos h1] at mV
     obtain ⟨u,hu,hr'⟩:=hrd i' j cc mV
     have hi':=dS mV
     have hj:j<sz:=by rw [<- hes (es.getD i' []) (by simp [List.getD,List.getElem?_eq_getElem hi'])]; exact (List.getElem?_eq_some_iff.1 mV).1
     have:(i'+1)*sz<=lo*sz:=Nat.mul_le_mul_right _ h1
     rw [Nat.add_mul] at this
     exact ⟨u,by rw [if_pos (by omega)]; simpa using hu,hr'⟩
    ·rw [if_neg h1] at mV
     by_cases h2:i'<lo+ys.length
     ·rw [if_pos h2] at mV
      obtain ⟨u,hu,hr'⟩:=hd.rd (i'-lo) j cc mV
      have hyi:=dS mV
      have hj:j<sz:=by rw [<- hys (ys.getD (i'-lo) []) (by simp [List.getD,List.getElem?_eq_getElem hyi])]; exact (List.getElem?_eq_some_iff.1 mV).1
      have e1:lo*sz<=i'*sz:=Nat.mul_le_mul_right _ (by omega)
      have e2:(i'-lo)*sz=i'*sz-lo*sz:=Nat.sub_mul _ _ _
      have e3:(i'-lo+1)*sz<=ys.length*sz:=Nat.mul_le_mul_right _ (by omega)
      rw [Nat.add_mul] at e3
      exact ⟨u,by rw [if_neg (by omega),if_pos (by omega),<- hu]; congr 1; omega,hr'⟩
     ·rw [if_neg h2] at mV
      obtain ⟨u,hu,hr'⟩:=hrd i' j cc mV
      have e1:(lo+ys.length)*sz<=i'*sz:=Nat.mul_le_mul_right _ (by omega)
      rw [Nat.add_mul] at e1
      exact ⟨u,by rw [if_neg (by omega),if_neg (by omega)]; simpa using hu,hr'⟩
   obtain ⟨u,hu,hr'⟩:=key
   exact ⟨u,by simpa using hu,hr'⟩
theorem rM {α:Type} (xs:List α) (k:Nat) (h:k<=xs.length):splice xs k []=xs:=by simp [splice]
theorem JS (t t' ty e:TypeId) (i:TypeInfo) (ht:P.underlying t=some (.slice e)) (hi:P.info? e=some i) (kk off m c:Nat) (cur:Array Value) (tg:TypeId) (hg:w.heap[kk]? = some (.cells cur tg (0,0)))
  (ad:Addr) (k c':Nat) (us:List Value) (hl:us.length=Nat.min k m*i.size) (hus:∀ j u,us[j]? = some u->w.cell? (ad.add j)=some u) (h1:∀ u∈us,u.oneCell'=true) (hfit:off+us.length<=cur.size) :
  (Builtin.copy_ #[t,t'] ty #[.slice (some ⟨kk,off,none⟩) m c,.slice (some ad) k c']).run P w = .ok (goInt (Nat.min k m:Nat)) (w.setRow kk (splice cur.toList off us).toArray):=by
 have hf:=run_firstCells_some (P:=P) w i.size (Nat.min k m) ad k c' us hl hus
 have hst:=run_storeCells_at P kk off tg us 0 cur w hg (by simpa using hfit) h1
 rw [kE] at hst
 simp [Builtin.copy_,run_underlying ht,sizeOf,typeInfo,hi,Builtin.lenOf,hf,hst]
theorem Ko (h:GX E I ρ n st a w) {v:Value} {x:AV} {sz m:Nat} {p:Prop} {ys:List (List Cell)} (hv:GV I ρ v x) (hs:kD sz (truncS m x) st.bx=some (p,ys)) (hp:p) :
  ∃ xb kx xc,v = .slice xb kx xc/\Nat.min ys.length m=Nat.min kx m/\Src I w (.slice xb ys.length xc) sz ys:=by
 have other:truncS m x=x->∃ xb kx xc,v = .slice xb kx xc/\Nat.min ys.length m=Nat.min kx m/\Src I w (.slice xb ys.length xc) sz ys:=by
  intro e
  rw [e] at hs
  have hS:=src_ok h hv hs hp
  obtain ⟨b,cap,hvv,hr⟩:=hS
  exact ⟨b,ys.length,cap,hvv,rfl,b,cap,rfl,hr⟩
 rcases x with c | _ | _
 ·cases c
  case sub b lo n' c sz' =>
   obtain ⟨k,cap,ad,c',h1,h2,h3,h4,h5⟩:=hv
   subst h2
   have hg:GV I ρ (.slice ad (min n' m) c') (.one (.sub b lo (min n' m) c sz')):=⟨k,cap,ad,c',h1,rfl,by omega,h4,h5⟩
   have hS:=src_ok h hg hs hp
   obtain ⟨b',cap',hvv,hr⟩:=hS
   simp only [Value.slice.injEq] at hvv
   obtain ⟨rfl,e2,rfl⟩:=hvv
   refine ⟨ad,n',c',rfl,?_,ad,c',rfl,hr⟩
   show min ys.length m=min n' m
   omega
  all_goals exact other rfl
 all_goals exact other rfl
theorem J3 {o:Oper} {sz:Nat} {d x:fV} (h:GX E I ρ n st a w) (hc:rZ P n o.op sz d x=true) (hd:(d.ev st.tm).g=true) (hx:(x.ev st.tm).g=true)
  (dn:(BD sz (aI st.tm d) (aI st.tm x) st.bx).vc):gp P E n o a w (st.iD (BD sz (aI st.tm d) (aI st.tm x) st.bx).sets) (BD sz (aI st.tm d) (aI st.tm x) st.bx).v:=by
 unfold rZ at hc
 split at hc
 ·rename_i d' x' t t' he
  simp only [Bool.and_eq_true,decide_eq_true_eq] at hc
  obtain ⟨⟨⟨c1,c2⟩,ht⟩,h0⟩:=hc
  have g1:=fJ h c1 hd
  have g2:=fJ h c2 hx
  obtain ⟨e,i,hte,hi,rfl⟩:=lT ht
  have fin:∀ {v:Value} {w':World},(Builtin.copy_ #[t,t'] o.type #[a.eval d',a.eval x']).run P w = .ok v w'->(execOp a.eval o).run P w = .ok (.value v) w':=by
   intro v w' hr
   simp only [execOp,he,resolve,invoke,builtin,Sem.run_bind,Sem.run_pure,Result.andThen_ok,List.map_toArray,List.map_cons,List.map_nil,hr]
  unfold BD at dn ⊢
  split at dn
  ·rename_i b lo m c0 sz' hsb
   split at dn
   ·rename_i p ys hsrc
    split at dn
    ·rename_i kR es hb
     obtain ⟨hp,rfl,rfl,hlo⟩:=dn
     obtain ⟨Tm,kx,TM,Rn,hmk,hsrc'⟩:=Ko h g2 hsrc hp
     have hys:∀ y,y∈ys->y.length=i.size:=by obtain ⟨_,_,_,_,h4,_⟩:=hsrc'; exact h4
     obtain ⟨xb,xc,us,hxv,qJ,hus,N8,FN⟩:=rP hsrc' h0
     cases hxv
     obtain ⟨kk,cap,ad0,c,hr0,hsv,hnc,hcc,_,hcap⟩:=rq g1 hsb
     by_cases hm0:Nat.min ys.length m=0
     ·have hr:=oN (P:=P) (w:=w) t t' o.type e i hte hi ad0 m c Tm kx TM (hmk.symm.trans hm0)
      rw [<- Rn,<- hsv] at hr
      have htk:ys.take m=[]:=by
       apply List.eq_nil_of_length_eq_zero
       rw [List.length_take,Nat.min_comm]; exact hm0
      rw [htk,rM _ _ hlo]
      refine ⟨_,w,I,ρ,.inl (fin hr),?_,fun _=>by rw [hm0]; exact kK _ _⟩
      show GX E I ρ n (st.jI b (.dat i.size es)) a w
      rw [sQ hb]
      exact h
     ·have hmin:Nat.min ys.length m<=ys.length/\Nat.min ys.length m<=m:=⟨Nat.min_le_left _ _,Nat.min_le_right _ _⟩
      have uo:=hcap (.inl (by omega))
      subst uo
      obtain ⟨ad,had⟩:∃ ad,Tm=some ad:=by
       cases hq:Tm with
       | none=>have:=N8 hq; subst this; exact absurd rfl hm0
       | some ad=>exact ⟨ad,rfl⟩
      subst had
      have htl:(ys.take m).length=Nat.min ys.length m:=by rw [List.length_take,Nat.min_comm]
      have hmul:Nat.min ys.length m*i.size<=ys.length*i.size:=Nat.mul_le_mul_right _ hmin.1
      have N7:(us.take (Nat.min ys.length m*i.size)).length=Nat.min ys.length m*i.size:=by simp; omega
      have hdt:DC I (us.take (Nat.min ys.length m*i.size)) i.size (ys.take m):=by
       refine ⟨fun j u hu => ?_,fun i' j cc mV => ?_⟩
       ·rw [List.getElem?_take] at hu
        split at hu
        ·exact FN.one _ u hu
        ·cases hu
       ·have hi':=dS mV
        rw [htl] at hi'
        have Qi:(ys.getD i' [])[j]? = some cc:=by
         rw [<- mV]; congr 1
         simp only [List.getD]
         rw [List.getElem?_take,if_pos (by omega)]
        obtain ⟨u,hu,hr⟩:=FN.rd i' j cc Qi
        have hyi:=dS Qi
        have hj:j<i.size:=by rw [<- hys (ys.getD i' []) (by simp [List.getD,List.getElem?_eq_getElem hyi])]; exact (List.getElem?_eq_some_iff.1 Qi).1
        have:(i'+1)*i.size<=Nat.min ys.length m*i.size:=Nat.mul_le_mul_right _ hi'
        rw [Nat.add_mul] at this
        exact ⟨u,by rw [List.getElem?_take,if_pos (by omega)]; exact hu,hr⟩
      obtain ⟨cs,tg,hw,hs,hg⟩:=DT h hb hr0 h0 hlo (ys:=ys.take m) (us:=us.take (Nat.min ys.length m*i.size)) (by rw [htl]; omega) (by omega) (fun y hy=>hys y (List.mem_of_mem_take hy)) (by rw [N7,htl]) hdt
      have vz:(lo+Nat.min ys.length m)*i.size<=cap*i.size:=Nat.mul_le_mul_right _ (by omega)
      rw [Nat.add_mul] at vz
      have hr:=JS (P:=P) (w:=w) t t' o.type e i hte hi kk (lo*i.size) m c cs tg hw ad kx TM (us.take (Nat.min ys.length m*i.size)) (hmk ▸ N7)
       (fun j u hu=>by
        rw [List.getElem?_take] at hu
        split at hu
        ·exact hus ad rfl j u hu
        ·cases hu)
       (fun u hu=>by obtain ⟨j,hj⟩:=List.getElem?_of_mem (List.mem_of_mem_take hu); exact FN.one j u hj) (by rw [N7,hs]; exact vz)
      rw [<- Rn,<- hsv] at hr
      exact ⟨_,_,I,ρ,.inl (fin hr),hg,fun _=>by rw [<- hmk]; exact kK _ _⟩
    ·exact dn.elim
   ·exact dn.elim
  ·exact dn.elim
 ·cases hc
def CW (P:Program) (n:Nat) (op:Op) (sz:Nat) (zs:List Cell) (x:fV):Bool :=
  match op with
  | .call { callee := .builtin .clear,args:=⟨[x']⟩,argTypes:=⟨[t]⟩ } => dN n x' x&&decide (0<sz)&&zs.length==sz&&(match P.underlying t with
    | some (.slice e)=>(match P.info? e with | some i=>i.size==sz&&(match i.zero with | some z=>z.cells.size==sz&&ql z.cells.toList zs | none=>false) | none=>false)
    | _=>false)
  | _=>false
theorem xx {zs:List Cell} {z:Array Value} {sz m:Nat} (hz:ql z.toList zs=true) (hzs:z.size=sz) (hl:zs.length=sz) (h0:0<sz) :
  (Builtin.zeroCells z m).toList.length=m*sz/\DC I (Builtin.zeroCells z m).toList sz (List.replicate m zs):=by
 have hsz:(Builtin.zeroCells z m).size=m*sz:=by simp [Builtin.zeroCells,hzs]
 refine ⟨by simpa using hsz,?_⟩
 have rc:=xk (I:=I) (N:=m*sz) (m:=m) hz hl h0 (Nat.le_refl _) (cs:=(Array.range (m*sz)).map (z[· % z.size]!)) rfl
 have he:(Builtin.zeroCells z m)=(Array.range (m*sz)).map (z[· % z.size]!):=by unfold Builtin.zeroCells; rw [hzs]
 rw [he]
 exact ⟨fun j u hu=>rc.1 j u (by rw [Array.getElem?_toList] at hu; exact hu),fun i' j c hc=>by obtain ⟨u,hu,hr⟩:=rc.2 i' j c hc; exact ⟨u,by rw [Array.getElem?_toList]; exact hu,hr⟩⟩
theorem JY {o:Oper} {sz:Nat} {zs:List Cell} {x:fV} (h:GX E I ρ n st a w) (hc:CW P n o.op sz zs x=true) (hx:(x.ev st.tm).g=true)
  (dn:(BC sz zs (aI st.tm x) st.bx).vc):gp P E n o a w (st.iD (BC sz zs (aI st.tm x) st.bx).sets) (BC sz zs (aI st.tm x) st.bx).v:=by
 unfold CW at hc
 split at hc
 ·rename_i x' t he
  simp only [Bool.and_eq_true,decide_eq_true_eq,beq_iff_eq] at hc
  obtain ⟨⟨⟨c1,h0⟩,hzl⟩,ht⟩:=hc
  have g1:=fJ h c1 hx
  split at ht
  ·rename_i e hte
   split at ht
   ·rename_i i hi
    simp only [Bool.and_eq_true,beq_iff_eq] at ht
    obtain ⟨hisz,hz⟩:=ht
    split at hz
    ·rename_i z hzero
     simp only [Bool.and_eq_true,beq_iff_eq] at hz
     obtain ⟨hzs,hzd⟩:=hz
     have fin:∀ {v:Value} {w':World},(Builtin.clear_ #[t] o.type #[a.eval x']).run P w = .ok v w'->(execOp a.eval o).run P w = .ok (.value v) w':=by
      intro v w' hr
      simp only [execOp,he,resolve,invoke,builtin,Sem.run_bind,Sem.run_pure,Result.andThen_ok,List.map_toArray,List.map_cons,List.map_nil,hr]
     unfold BC at dn ⊢
     split at dn
     ·rename_i b lo m c0 sz' hsb
      split at dn
      ·rename_i kR es hb
       obtain ⟨rfl,rfl,hlo⟩:=dn
       obtain ⟨kk,cap,ad0,c,hr0,hsv,hnc,hcc,_,hcap⟩:=rq g1 hsb
       have Rl:∀ {ρ':Ren},GV I ρ' (.tuple #[]) (.mG []):=fun {ρ'} => ⟨#[],rfl,rfl,fun j v p hv hp=>by simp at hp⟩
       by_cases hm0:m=0
       ·subst hm0
        rw [List.replicate_zero,rM _ _ hlo]
        refine ⟨.tuple #[],w,I,ρ,.inl (fin ?_),?_,fun _=>Rl⟩
        ·rw [hsv]
         cases ad0<;>simp [Builtin.clear_,run_underlying hte]
        ·show GX E I ρ n (st.jI b (.dat kR es)) a w
         rw [sQ hb]
         exact h
       ·have uo:=hcap (.inl (by omega))
        subst uo
        obtain ⟨Qn,OW⟩:=xx (I:=I) (m:=m) hzd hzs hzl h0
        obtain ⟨cs,tg,hw,hs,hg⟩:=DT h hb hr0 h0 hlo (ys:=List.replicate m zs) (us:=(Builtin.zeroCells z.cells m).toList) (by simp; omega) (by omega) (fun y hy=>by rw [List.eq_of_mem_replicate hy,hzl]) (by simpa using Qn) OW
        have vz:(lo+m)*kR<=cap*kR:=Nat.mul_le_mul_right _ (by omega)
        rw [Nat.add_mul] at vz
        have hst:=run_storeCells_at P kk (lo*kR) tg (Builtin.zeroCells z.cells m).toList 0 cs w hw (by rw [Qn]; simpa [hs] using vz) (fun u hu=>by obtain ⟨j,hj⟩:=List.getElem?_of_mem hu; exact OW.one j u hj)
        rw [kE] at hst
        obtain ⟨m',rfl⟩:∃ m',m=m'+1:=⟨m-1,by omega⟩
        refine ⟨.tuple #[],_,I,ρ,.inl (fin ?_),hg,fun _=>Rl⟩
        rw [hsv]
        simp [Builtin.clear_,run_underlying hte,zeroValue,typeInfo,hi,hzero,hst]
      ·exact dn.elim
     ·exact dn.elim
    ·cases hz
   ·cases ht
  ·cases ht
 ·cases hc
theorem AB (t ty e tg:TypeId) (i:TypeInfo) (ht:P.underlying t=some (.slice e)) (hi:P.info? e=some i)
  (g off sLen sCap:Nat) (cur:Array Value) (hg:w.heap[g]? = some (.cells cur tg (0,0)))
  (ad:Addr) (m c:Nat) (news:List Value) (hl:news.length=m*i.size) (hnews:∀ j u,news[j]? = some u->w.cell? (ad.add j)=some u) (h1:∀ u∈news,u.oneCell'=true)
  (hroom:sLen+m<=sCap) (hfit:off+sLen*i.size+news.length<=cur.size) :
  (Builtin.append_ #[t,t] ty #[.slice (some ⟨g,off,none⟩) sLen sCap,.slice (some ad) m c]).run P w =
   .ok (.slice (some ⟨g,off,none⟩) (sLen+m) sCap) (w.setRow g (splice cur.toList (off+sLen*i.size) news).toArray):=by
 have hf:=run_firstCells_some (P:=P) w i.size m ad m c news hl hnews
 have hst:=run_storeCells_at P g (off+sLen*i.size) tg news 0 cur w hg (by simpa using hfit) h1
 rw [kE] at hst
 simp [Builtin.append_,run_underlying ht,sizeOf,typeInfo,hi,Builtin.lenOf,hroom,hf,Addr.jU,hst]
theorem JW {o:Oper} {l sz bytes:Nat} {s x:fV} (h:GX E I ρ n st a w) (hc:nN P n o.op sz bytes s x=true) (hm:E.m<=l) (hs:(s.ev st.tm).g=true) (hx:(x.ev st.tm).g=true)
    (dn:(BB l sz bytes (aI st.tm s) (aI st.tm x) st.bx).vc):gp P E n o a w (st.iD (BB l sz bytes (aI st.tm s) (aI st.tm x) st.bx).sets) (BB l sz bytes (aI st.tm s) (aI st.tm x) st.bx).v:=by
  unfold nN at hc
  split at hc
  · rename_i s' x' t t' he
    simp only [Bool.and_eq_true,beq_iff_eq,decide_eq_true_eq] at hc
    obtain ⟨⟨⟨⟨c1,c2⟩,rfl⟩,h0⟩,ht⟩:=hc
    have g1:=fJ h c1 hs
    have g2:=fJ h c2 hx
    split at ht
    · rename_i e hte
      split at ht
      · rename_i i hi
        simp only [Bool.and_eq_true,beq_iff_eq] at ht
        obtain ⟨⟨rfl,rfl⟩,hz⟩:=ht
        split at hz
        · rename_i z hzero
          simp only [Bool.and_eq_true,beq_iff_eq] at hz
          obtain ⟨hzs,hz1⟩:=hz
          have fin:∀ {v:Value} {w':World},(Builtin.append_ #[t,t] o.type #[a.eval s',a.eval x']).run P w = .ok v w'->(execOp a.eval o).run P w = .ok (.value v) w':=by
            intro v w' hr
            simp only [execOp,he,resolve,invoke,builtin,Sem.run_bind,Sem.run_pure,Result.andThen_ok,List.map_toArray,List.map_cons,List.map_nil,hr]
          unfold BB at dn ⊢
          split at dn
          · rename_i p ys b lo m c sz' hsrc e1
            split at dn
            · rename_i kR es hb
              obtain ⟨kk,cap,ad0,c',hr0,hsv,hnc,hcc,hcx,hcap⟩:=rq (c:=some c) (b:=b) (lo:=lo) (m:=m) (sz:=sz') g1 (by rw [e1]; rfl)
              have:=hcx c rfl
              subst this
              split at dn
              · rename_i hroom
                rw [if_pos hroom]
                obtain ⟨hp,rfl,rfl,hlo⟩:=dn
                have hsrc':=src_ok h g2 hsrc hp
                have hys:∀ y,y∈ys->y.length=i.size:=by obtain ⟨_,_,_,_,h4,_⟩:=hsrc'; exact h4
                obtain ⟨xb,xc,us,hxv,qJ,hus,N8,FN⟩:=rP hsrc' h0
                by_cases hm0:ys.length=0
                · have hy0:ys=[]:=List.eq_nil_of_length_eq_zero hm0
                  subst hy0
                  rw [rM _ _ hlo]
                  have hr:=mZ (P:=P) (w:=w) t o.type e i hte hi ad0 m c' hnc xb xc
                  rw [List.length_nil] at hxv
                  rw [<- hxv,<- hsv] at hr
                  refine ⟨_,w,I,ρ,.inl (fin hr),?_,fun _=>⟨kk,cap,ad0,c',hr0,hsv,by simpa using hnc,hcc,(fun c0 hc0=>by cases hc0; rfl),hcap⟩⟩
                  show GX E I ρ n (st.jI b (.dat i.size es)) a w
                  rw [sQ hb]
                  exact h
                · have uo:=hcap (.inl (by omega))
                  subst uo
                  obtain ⟨ad,had⟩:∃ ad,xb=some ad:=by
                    cases hq:xb with
                    | none=>exact absurd (by rw [N8 hq]; rfl) hm0
                    | some ad=>exact ⟨ad,rfl⟩
                  subst had
                  obtain ⟨cs,tg,hw,hss,hg⟩:=DT h hb hr0 h0 hlo (ys:=ys) (us:=us) (by omega) (by omega) hys qJ FN
                  have vz:(lo+m+ys.length)*i.size<=cap*i.size:=Nat.mul_le_mul_right _ (by omega)
                  simp only [Nat.add_mul] at vz
                  have hr:=AB (P:=P) (w:=w) t o.type e tg i hte hi kk (lo*i.size) m c' cs hw ad ys.length xc us qJ (hus ad rfl) (fun u hu=>by obtain ⟨j,hj⟩:=List.getElem?_of_mem hu; exact FN.one j u hj) hroom (by rw [qJ,hss]; exact vz)
                  rw [<- hxv,<- hsv,<- Nat.add_mul] at hr
                  exact ⟨_,_,I,ρ,.inl (fin hr),hg,fun _=>⟨kk,cap,_,c',hr0,rfl,hroom,hcc,(fun c0 hc0=>by cases hc0; rfl),fun _=>rfl⟩⟩
              · rename_i hroom
                rw [if_neg hroom]
                obtain ⟨hp,rfl,rfl,hlo,hl,hbig⟩:=dn
                have hsrc':=src_ok h g2 hsrc hp
                have hys:∀ y,y∈ys->y.length=i.size:=by obtain ⟨_,_,_,_,h4,_⟩:=hsrc'; exact h4
                obtain ⟨xb,xc,us,hxv,qJ,hus,N8,FN⟩:=rP hsrc' h0
                have hok:=h.bx.ok b
                rw [hb] at hok
                obtain ⟨N9,cap',hr',hle,hcm,hes,hcs⟩:=hok
                rw [hr0] at hr'
                simp only [Option.some.injEq,Prod.mk.injEq] at hr'
                obtain ⟨rfl,rfl⟩:=hr'
                have hmul:(m+ys.length)*(i.bytes+i.size+1)=(m+ys.length)*i.bytes+(m+ys.length)*i.size+(m+ys.length):=by rw [Nat.mul_add,Nat.mul_add,Nat.mul_one]
                have hbytes:(m+ys.length)*i.bytes<=140737488355328:=by omega
                have h63:m+ys.length<=maxLen:=by simp only [maxLen]; omega
                have hm0:ys.length ≠ 0:=by omega
                obtain ⟨ad,had⟩:∃ ad,xb=some ad:=by
                  cases hq:xb with
                  | none=>exact absurd (by rw [N8 hq]; rfl) hm0
                  | some ad=>exact ⟨ad,rfl⟩
                subst had
                have hzc:∀ (q:Nat) (j:Nat) (u:Value),(Builtin.zeroCells z.cells q).toList[j]? = some u->u.oneCell'=true:=by
                  intro q j u hu
                  simp only [Builtin.zeroCells,Array.getElem?_toList,Array.getElem?_map] at hu
                  by_cases hj:j<q*z.cells.size
                  · rw [Array.getElem?_range,if_pos hj] at hu
                    simp only [Option.map_some,Option.some.injEq] at hu
                    have hlt:j%z.cells.size<z.cells.size:=Nat.mod_lt _ (by omega)
                    rw [getElem!_pos z.cells _ hlt] at hu
                    rw [<- hu]
                    exact List.all_eq_true.1 hz1 _ (by simp)
                  · rw [Array.getElem?_range,if_neg hj] at hu; cases hu
                have hl':=oQ hl
                have hsub:∀ y,y∈(es.drop lo).take m->y.length=i.size:=fun y hy=>hes y (List.mem_of_mem_drop (List.mem_of_mem_take hy))
                have hsl:((es.drop lo).take m).length=m:=by simp; omega
                have fresh:∀ (old:Nat) (olds:List Value),old<m+ys.length->olds.length=m*i.size->DC I olds i.size ((es.drop lo).take m) ->
                    GX E I (ρ.set l w.heap.size (grownCap w (m+ys.length) old e)) n (st.jI l (.dat i.size ((es.drop lo).take m++ys))) a
                      (w.drew.alloc (.cells (olds.toArray++us.toArray++Builtin.zeroCells z.cells (grownCap w (m+ys.length) old e-(m+ys.length))) e)):=by
                  intro old olds ho hol hdo
                  have hge:=grownCap_ge w (m+ys.length) old e
                  have hcm:grownCap w (m+ys.length) old e<=maxLen:=grownCap_le_maxLen w _ old e h63
                  have hdc:=((hdo.append FN (by rw [hsl]; exact hol)).more (hzc (grownCap w (m+ys.length) old e-(m+ys.length)))).II (cs:=olds.toArray++us.toArray++Builtin.zeroCells z.cells (grownCap w (m+ys.length) old e-(m+ys.length))) (by simp)
                  refine sK h.drew hl' hm _ e _ i.size ((es.drop lo).take m++ys) ?_ (by rw [List.length_append,hsl]; exact hge) hcm (fun x hx => ?_) hdc.1 hdc.2
                  · simp only [Array.size_append,List.size_toArray,size_zeroCells,hzs,hol,qJ,<- Nat.add_mul]
                    congr 1
                    omega
                  · rcases List.mem_append.1 hx with h1 | h1
                    · exact hsub x h1
                    · exact hys x h1
                have hfit:=growslice_fits (need:=m+ys.length) (old:=c') (bytes:=i.bytes) (by omega) hbytes
                by_cases hc0:c'=0
                ·
                  have Ql:m=0:=by omega
                  subst Ql
                  subst hc0
                  have hf:=fresh 0 [] (by omega) (by simp) ⟨by simp,by simp⟩
                  simp only [Nat.zero_add,Array.empty_append] at hf h63 hbytes hfit
                  cases ad0 with
                  | none =>
                    have hr:=run_append_nil (P:=P) w t o.type e i z hte hi hzero ad ys.length xc us qJ (hus ad rfl) (by omega) (by simp only [maxLen] at h63; omega) (by omega)
                    rw [<- hxv,<- hsv] at hr
                    refine ⟨_,_,I,_,.inl (fin hr),hf,fun _=>⟨w.heap.size,_,_,_,Ren.fK _ _ _ _,by rw [Nat.zero_add],by rw [Nat.zero_add]; exact grownCap_ge w ys.length 0 e,Nat.le_refl _,fun _=>rfl⟩⟩
                  | some q =>
                    have hr:=run_append_grow (P:=P) w t o.type e i z hte hi hzero q 0 0 [] (by simp) (by simp) ad ys.length xc us qJ (hus ad rfl) (by omega) (by simp only [maxLen] at h63; omega) (by simpa using hfit)
                    rw [<- hxv,<- hsv] at hr
                    simp only [Nat.zero_add,Array.empty_append] at hr
                    refine ⟨_,_,I,_,.inl (fin hr),hf,fun _=>⟨w.heap.size,_,_,_,Ren.fK _ _ _ _,by rw [Nat.zero_add],by rw [Nat.zero_add]; exact grownCap_ge w ys.length 0 e,Nat.le_refl _,fun _=>rfl⟩⟩
                · have uo:=hcap (.inl hc0)
                  subst uo
                  have hcap0:cap ≠ 0:=by omega
                  obtain ⟨cs,tg,hw,hss,ho,hrd⟩:=hcs hcap0
                  have hmn:(lo+m)*i.size<=cs.size:=by rw [hss]; exact Nat.mul_le_mul_right _ (by omega)
                  rw [Nat.add_mul] at hmn
                  have ET:((cs.toList.drop (lo*i.size)).take (m*i.size)).length=m*i.size:=by simp; omega
                  have holds:∀ (j:Nat) (u:Value),((cs.toList.drop (lo*i.size)).take (m*i.size))[j]? = some u->w.cell? ((⟨kk,lo*i.size,none⟩:Addr).add j)=some u:=fun j u hu=>by
                    rw [List.getElem?_take] at hu
                    split at hu
                    · rw [Addr.jU]; rw [List.getElem?_drop] at hu; simp at hu; simp [World.cell?,hw,hu]
                    · cases hu
                  have hd1:DC I ((cs.toList.drop (lo*i.size)).take (m*i.size)) i.size ((es.drop lo).take m):=by
                    refine ⟨fun j u hu => ?_,fun i' j c2 hc2 => ?_⟩
                    · rw [List.getElem?_take] at hu
                      split at hu
                      · rw [List.getElem?_drop] at hu; exact ho _ u (by simpa using hu)
                      · cases hu
                    · have hi':=dS hc2
                      rw [hsl] at hi'
                      have hc3:(es.getD (lo+i') [])[j]? = some c2:=by
                        rw [<- hc2]; congr 1
                        simp only [List.getD]
                        rw [List.getElem?_take,if_pos hi',List.getElem?_drop]
                      obtain ⟨u,hu,hr⟩:=hrd (lo+i') j c2 hc3
                      have hi2:=dS hc3
                      have hj:j<i.size:=by rw [<- hes (es.getD (lo+i') []) (by simp [List.getD,List.getElem?_eq_getElem hi2])]; exact (List.getElem?_eq_some_iff.1 hc3).1
                      have:(i'+1)*i.size<=m*i.size:=Nat.mul_le_mul_right _ hi'
                      rw [Nat.add_mul] at this
                      refine ⟨u,?_,hr⟩
                      rw [List.getElem?_take,if_pos (by omega),List.getElem?_drop]
                      rw [Nat.add_mul] at hu
                      rw [<- Nat.add_assoc]
                      simpa using hu
                  have hr:=run_append_grow (P:=P) w t o.type e i z hte hi hzero ⟨kk,lo*i.size,none⟩ m c' _ ET holds ad ys.length xc us qJ (hus ad rfl) (by omega) (by simp only [maxLen] at h63; omega) hfit
                  rw [<- hxv,<- hsv] at hr
                  have hf:=fresh c' _ (by omega) ET hd1
                  exact ⟨_,_,I,_,.inl (fin hr),hf,fun _=>⟨w.heap.size,_,_,_,Ren.fK _ _ _ _,rfl,grownCap_ge w _ c' e,Nat.le_refl _,fun _=>rfl⟩⟩
            · exact dn.elim
          · exact dn.elim
        · cases hz
      · cases ht
    · cases ht
  · cases hc
end
end Go.Ab
end
section
namespace Go.Ab
open Go
section
variable {P:Program} {E:Env P} {I:IH} {ρ:Ren} {n:Nat} {st:bF} {a:Act} {w:World}
theorem Jz:Extern.allNextRows.lookup "internal/bytealg.abigen_runtime_cmpstring" = none:=by kernel_rfl
theorem JA:Extern.allGenericRows.lookup "internal/bytealg.abigen_runtime_cmpstring" = none:=by kernel_rfl
theorem JB:Extern.allTypedRows.lookup "internal/bytealg.abigen_runtime_cmpstring" = none:=by kernel_rfl
theorem JC:Extern.allRows.lookup "internal/bytealg.abigen_runtime_cmpstring" = some Extern.BytealgCompare.compare:=by kernel_rfl
theorem MF:Extern.allNextRows.lookup "" = none:=by kernel_rfl
theorem MG:Extern.allNextRows.lookup "slices.overlaps" = none:=by kernel_rfl
theorem MH:Extern.allGenericRows.lookup "slices.overlaps" = none:=by kernel_rfl
theorem MI:Extern.allTypedRows.lookup "slices.overlaps" = some Extern.SlicesOverlaps.overlaps:=by kernel_rfl
def Cj (P:Program) (n:Nat) (op:Op) (x y:fV):Bool :=
 match op with
 | .call { callee := .value (.func f),args:=⟨[x',y']⟩,argTypes:=_ } => dN n x' x&&dN n y' y&&(match P.funcs[f]? with | some fn=>fn.name == "internal/bytealg.abigen_runtime_cmpstring" && fn.origin == "" && fn.body.isNone | none=>false)
 | _=>false
theorem Ji {o:Oper} {x y:fV} (h:GX E I ρ n st a w) (hc:Cj P n o.op x y=true) (hx:(x.ev st.tm).g=true) (hy:(y.ev st.tm).g=true)
  (dn:(uZ (aI st.tm x) (aI st.tm y)).vc):gp P E n o a w st (uZ (aI st.tm x) (aI st.tm y)).v:=by
 unfold Cj at hc
 split at hc
 ·rename_i f x' y' ts he
  simp only [Bool.and_eq_true] at hc
  obtain ⟨⟨c1,c2⟩,hf⟩:=hc
  have g1:=fJ h c1 hx
  have g2:=fJ h c2 hy
  split at hf
  ·rename_i fn hfn
   simp only [Bool.and_eq_true,beq_iff_eq] at hf
   obtain ⟨⟨hname,Bo⟩,hbody⟩:=hf
   have hn:Extern.findNext fn=none:=by
    simp only [Extern.findNext,hname,Bo,Jz,MF]
    rfl
   have hd:Extern.find fn=some Extern.BytealgCompare.compare:=by
    simp only [Extern.find,hname,JA,JB,JC]
    rfl
   unfold uZ at dn ⊢
   split at dn
   ·rename_i s t e1 e2
    rw [e1] at g1; rw [e2] at g2
    obtain ⟨v1,_⟩:=oM g1
    obtain ⟨v2,_⟩:=oM g2
    have hr:=run_callFunc_extern (P:=P) hfn (by rw [hname]; rfl) hbody hn hd #[.string ⟨⟨s⟩⟩,.string ⟨⟨t⟩⟩] w
    rw [Lib.run_compareString] at hr
    refine gp.val h (v := .int .i64 (Lib.compareBytes s t)) ?_ (kK _ _)
    have hx2:a.eval (.func f) = .func (.func f) #[] #[]:=rfl
    simp only [execOp,he,resolve,Deferred.ofValue,invoke,Sem.run_bind,Sem.run_pure,Result.andThen_ok,hx2,List.map_toArray,List.map_cons,List.map_nil,v1,v2]
    simpa using hr
   ·exact dn.elim
  ·cases hf
 ·cases hc
theorem JD:Extern.allNextRows.lookup "internal/bytealg.IndexByteString" = none:=by kernel_rfl
theorem JE:Extern.allGenericRows.lookup "internal/bytealg.IndexByteString" = none:=by kernel_rfl
theorem JF:Extern.allTypedRows.lookup "internal/bytealg.IndexByteString" = none:=by kernel_rfl
theorem JG:Extern.allRows.lookup "internal/bytealg.IndexByteString" = some Extern.BytealgIndexByte.indexByte:=by kernel_rfl
def CB (P:Program) (n:Nat) (op:Op) (x y:fV):Bool :=
 match op with
 | .call { callee := .value (.func f),args:=⟨[x',y']⟩,argTypes:=_ } => dN n x' x&&dN n y' y&&(match P.funcs[f]? with | some fn=>fn.name == "internal/bytealg.IndexByteString" && fn.origin == "" && fn.body.isNone | none=>false)
 | _=>false
theorem Jr {o:Oper} {x y:fV} (h:GX E I ρ n st a w) (hc:CB P n o.op x y=true) (hx:(x.ev st.tm).g=true) (hy:(y.ev st.tm).g=true)
  (dn:(vF (aI st.tm x) (aI st.tm y)).vc):gp P E n o a w st (vF (aI st.tm x) (aI st.tm y)).v:=by
 unfold CB at hc
 split at hc
 ·rename_i f x' y' ts he
  simp only [Bool.and_eq_true] at hc
  obtain ⟨⟨c1,c2⟩,hf⟩:=hc
  have g1:=fJ h c1 hx
  have g2:=fJ h c2 hy
  split at hf
  ·rename_i fn hfn
   simp only [Bool.and_eq_true,beq_iff_eq] at hf
   obtain ⟨⟨hname,Bo⟩,hbody⟩:=hf
   have hn:Extern.findNext fn=none:=by
    simp only [Extern.findNext,hname,Bo,JD,MF]
    rfl
   have hd:Extern.find fn=some Extern.BytealgIndexByte.indexByte:=by
    simp only [Extern.find,hname,JE,JF,JG]
    rfl
   unfold vF at dn ⊢
   split at dn
   ·rename_i s k c e1 e2
    rw [e1] at g1; rw [e2] at g2
    have hk:k = .u8:=dn
    subst hk
    obtain ⟨v1,_⟩:=oM g1
    have v2:=jC g2
    have hr:=run_callFunc_extern (P:=P) hfn (by rw [hname]; rfl) hbody hn hd #[.string ⟨⟨s⟩⟩,.int .u8 c] w
    rw [Lib.run_indexByteString] at hr
    refine gp.val h (v := .int .i64 (Lib.indexByte s c.toNat.toUInt8)) ?_ (kK _ _)
    have hx2:a.eval (.func f) = .func (.func f) #[] #[]:=rfl
    simp only [execOp,he,resolve,Deferred.ofValue,invoke,Sem.run_bind,Sem.run_pure,Result.andThen_ok,hx2,List.map_toArray,List.map_cons,List.map_nil,v1,v2]
    simpa using hr
   ·exact dn.elim
  ·cases hf
 ·cases hc
def Gu (P:Program) (n:Nat) (op:Op) (x y:fV):Bool :=
  match op with
  | .call { callee := .value (.func f),args:=⟨[x',y']⟩,argTypes:=_ } => dN n x' x&&dN n y' y&&(match P.funcs[f]? with
    | some fn=>fn.origin == "slices.overlaps" && fn.body.isNone && !(fn.name == "runtime.NumGoroutine")&&(Extern.allNextRows.lookup fn.name).isNone&&(Extern.allGenericRows.lookup fn.name).isNone&&(Extern.allTypedRows.lookup fn.name).isNone&&(Extern.allRows.lookup fn.name).isNone &&
      (match fn.params,fn.resultTypes with
        | ⟨[t,t']⟩,⟨[_]⟩=>t==t'&&(match P.underlying t with | some (.slice e)=>(match P.info? e with | some _=>true | none=>false) | _=>false)
        | _,_=>false)
    | none=>false)
  | _=>false
theorem Lh (h:GX E I ρ n st a w) {b kk cap sz:Nat} {es:List (List Cell)} (hb:st.bx b = .dat sz es) (hr:ρ b=some (kk,cap)) (hc0:cap ≠ 0):∃ cs tg,w.heap[kk]? = some (.cells cs tg (0,0))/\cs.size=cap*sz:=by
 have hok:=h.bx.ok b
 rw [hb] at hok
 obtain ⟨N9,cap',hr',hle,hcm,hes,hcs⟩:=hok
 rw [hr] at hr'
 simp only [Option.some.injEq,Prod.mk.injEq] at hr'
 obtain ⟨rfl,rfl⟩:=hr'
 obtain ⟨cs,tg,hw,hs,_⟩:=hcs hc0
 exact ⟨cs,tg,hw,hs⟩
theorem MZ {o:Oper} {x y:fV} (h:GX E I ρ n st a w) (hc:Gu P n o.op x y=true) (hx:(x.ev st.tm).g=true) (hy:(y.ev st.tm).g=true)
  (dn:(DI (aI st.tm x) (aI st.tm y) st.bx).vc):gp P E n o a w st (DI (aI st.tm x) (aI st.tm y) st.bx).v:=by
 unfold Gu at hc
 split at hc
 ·rename_i f x' y' ts he
  simp only [Bool.and_eq_true] at hc
  obtain ⟨⟨c1,c2⟩,hf⟩:=hc
  have g1:=fJ h c1 hx
  have g2:=fJ h c2 hy
  split at hf
  ·rename_i fn hfn
   simp only [Bool.and_eq_true,beq_iff_eq,Bool.not_eq_true',Option.isNone_iff_eq_none] at hf
   obtain ⟨⟨⟨⟨⟨⟨⟨Bo,hbody⟩,hname⟩,n1⟩,n2⟩,n3⟩,n4⟩,hp⟩:=hf
   split at hp
   ·rename_i t t' tr hpar hres
    simp only [Bool.and_eq_true,beq_iff_eq] at hp
    obtain ⟨rfl,ht⟩:=hp
    split at ht
    ·rename_i e hte
     split at ht
     ·rename_i i hi
      have hn:Extern.findNext fn=none:=by
       simp only [Extern.findNext,Bo,n1,MG]
       rfl
      have hd:Extern.find fn=some (Extern.SlicesOverlaps.overlaps #[t,t] #[tr]):=by
       simp only [Extern.find,Bo,n2,n3,n4,MH,MI,hpar,hres]
       rfl
      unfold DI at dn ⊢
      split at dn
      ·rename_i b lo m c sz b' lo' m' c' sz' e1 e2
       obtain ⟨kk,cap,ad,cc,hr,hv,hm,hcc,_,ha⟩:=rq g1 e1
       obtain ⟨N9,cap',ad',cc',hr',hv',hm',mV,_,ha'⟩:=rq g2 e2
       split at dn
       ·rename_i s1 es s2 es' hb hb'
        obtain ⟨hbb,hs2,hm0,TW⟩:b ≠ b'/\s2 ≠ 0/\0<m/\0<m':=dn
        have hov:(Extern.SlicesOverlaps.overlaps #[t,t] #[tr] #[.slice ad m cc,.slice ad' m' cc']).run P w = .ok (.bool false) w:=by
         obtain ⟨cs,tg,hw,hs⟩:=Lh h hb hr (by omega)
         obtain ⟨cs',Uj,hw',hs'⟩:=Lh h hb' hr' (by omega)
         have e1:=ha (.inl (by omega))
         have e2:=ha' (.inl (by omega))
         subst e1 e2
         have hne:kk ≠ N9:=fun hk=>hbb (by
          subst hk
          exact h.bx.inj b b' kk (by rw [hb]; exact ⟨cap,hr,by omega⟩) (by rw [hb']; exact ⟨cap',hr',by omega⟩))
         have h0:cs'.size ≠ 0:=by rw [hs']; exact Nat.mul_ne_zero (by omega) hs2
         exact Lib.run_overlaps_apart w t tr e hte i.size (fun w=>by simp [sizeOf,typeInfo,hi]) ⟨kk,lo*sz,none⟩ ⟨N9,lo'*sz',none⟩ m cc m' cc' hne tg Uj cs.size cs'.size
          (by simp [World.shape?,hw]) (by simp [World.shape?,hw']) h0 (by simp [World.frozen?,hw]) (by simp [World.frozen?,hw])
        have hr:=run_callFunc_extern (P:=P) hfn hname (by simpa using hbody) hn hd #[.slice ad m cc,.slice ad' m' cc'] w
        rw [hov] at hr
        refine gp.val h (v := .bool false) ?_ (sJ _)
        have hx2:a.eval (.func f) = .func (.func f) #[] #[]:=rfl
        simp only [execOp,he,resolve,Deferred.ofValue,invoke,Sem.run_bind,Sem.run_pure,Result.andThen_ok,hx2,List.map_toArray,List.map_cons,List.map_nil,hv,hv']
        simpa using hr
       ·exact dn.elim
      ·exact dn.elim
     ·cases ht
    ·cases ht
   ·cases hp
  ·cases hf
 ·cases hc
end
end Go.Ab
end
section
namespace Go.Ab
open Go
section
variable {P:Program} {E:Env P} {I:IH} {ρ:Ren} {n:Nat} {st:bF} {a:Act} {w:World}
def Ce (P:Program) (n:Nat) (op:Op) (sz bytes:Nat) (zs:List Cell) (s x:fV):Bool :=
  match op with
  | .call { callee := .builtin .append,args:=⟨[s',x']⟩,argTypes:=⟨[t,t']⟩ } => dN n s' s&&dN n x' x&&decide (0<sz)&&zs.length==sz&&(match P.underlying t' with | some (.int _)=>true | _=>false)&&(match P.underlying t with
    | some (.slice e)=>(match P.info? e with | some i=>i.size==sz&&i.bytes==bytes&&(match i.zero with | some z=>z.cells.size==sz&&ql z.cells.toList zs&&z.cells.toList.all (·.oneCell') | none=>false) | none=>false)
    | _=>false)
  | _=>false
theorem zU (t u ty e:TypeId) (ku:IntKind) (i:TypeInfo) (z:Value) (ht:P.underlying t=some (.slice e)) (hu:P.underlying u=some (.int ku)) (hi:P.info? e=some i) (hz:i.zero=some z)
    (b:Option Addr) (sLen sCap:Nat) (olds:List Value) (hlo:olds.length=sLen*i.size) (hb0:b=none->sLen=0) (holds:∀ ad,b=some ad->∀ j v,olds[j]? = some v->w.cell? (ad.add j)=some v)
    (q:Nat) (hq:(q:Int)*i.bytes<=140737488355328) (Ux:q<2^60) (UA:0<q) (hs0:0<i.size)
    (hg:sCap<sLen+q) (h63:((sLen+q:Nat):Int)<=9223372036854775807) (hfit:Builtin.nextslicecap (sLen+q) sCap*i.bytes<=281474976710656) :
    (Builtin.append_ #[t,u] ty #[.slice b sLen sCap,.int .i64 q]).run P w =
      .ok (.slice (some ⟨w.heap.size,0,none⟩) (sLen+q) (grownCap w (sLen+q) sCap e))
        (w.drew.alloc (.cells (olds.toArray++Builtin.zeroCells z.cells q++Builtin.zeroCells z.cells (grownCap w (sLen+q) sCap e-(sLen+q))) e)):=by
  have hn:¬ (sLen+q<=sCap):=by omega
  have h63':¬ (9223372036854775807<((sLen:Int)+(q:Int))):=by omega
  have h48':¬ (281474976710656<Builtin.nextslicecap (sLen+q) sCap*i.bytes):=by omega
  have hw:IntKind.i64.wrap (q:Int)=q:=by
    simp only [IntKind.wrap,IntKind.bits,IntKind.signed]
    simp
    omega
  have hq0:¬ ((q:Int)<0):=by omega
  have Uc:¬ (281474976710656<(q:Int)*(i.bytes:Int)):=by omega
  have hfo:(Builtin.firstCells i.size sLen (.slice b sLen sCap)).run P w.drew = .ok olds.toArray w.drew:=by
    cases b with
    | none =>
      have h0:=hb0 rfl
      subst h0
      have:olds=[]:=List.eq_nil_of_length_eq_zero (by simpa using hlo)
      subst this
      simp [Builtin.firstCells]
    | some ad=>exact run_firstCells_some (P:=P) w.drew i.size sLen ad sLen sCap olds hlo (by simpa using holds ad rfl)
  have hq1:¬ (q*i.size=0):=by
    intro h0
    rcases Nat.mul_eq_zero.1 h0 with h | h<;>omega
  simp [Builtin.append_,run_underlying ht,run_underlying hu,sizeOf,typeInfo,zeroValue,hi,hz,asInt,asIntOf,hw,hq0,Uc,hq1,hn,h63',h48',Question.forced,hfo,newRow,grownCap]
theorem Lj (h:GX E I ρ n st a w) {b kk cap sz lo m:Nat} {es:List (List Cell)} (hb:st.bx b = .dat sz es) (hr0:ρ b=some (kk,cap)) (hc:lo+m<=cap) (hc0:cap ≠ 0) (hl:lo+m<=es.length) :
    ∃ olds:List Value,olds.length=m*sz/\(∀ (j:Nat) (u:Value),olds[j]? = some u->w.cell? ((⟨kk,lo*sz,none⟩:Addr).add j)=some u)/\DC I olds sz ((es.drop lo).take m) /\
      (∀ y,y∈(es.drop lo).take m->y.length=sz)/\((es.drop lo).take m).length=m:=by
  have hok:=h.bx.ok b
  rw [hb] at hok
  obtain ⟨N9,cap',hr',hle,hcm,hes,hcs⟩:=hok
  rw [hr0] at hr'
  simp only [Option.some.injEq,Prod.mk.injEq] at hr'
  obtain ⟨rfl,rfl⟩:=hr'
  obtain ⟨cs,tg,hw,hss,ho,hrd⟩:=hcs hc0
  have hmn:(lo+m)*sz<=cs.size:=by rw [hss]; exact Nat.mul_le_mul_right _ hc
  rw [Nat.add_mul] at hmn
  have hsl:((es.drop lo).take m).length=m:=by simp; omega
  refine ⟨(cs.toList.drop (lo*sz)).take (m*sz),by simp; omega,fun j u hu => ?_,⟨fun j u hu => ?_,fun i' j c2 hc2 => ?_⟩,fun y hy=>hes y (List.mem_of_mem_drop (List.mem_of_mem_take hy)),hsl⟩
  · rw [List.getElem?_take] at hu
    split at hu
    · rw [Addr.jU]; rw [List.getElem?_drop] at hu; simp at hu; simp [World.cell?,hw,hu]
    · cases hu
  · rw [List.getElem?_take] at hu
    split at hu
    · rw [List.getElem?_drop] at hu; exact ho _ u (by simpa using hu)
    · cases hu
  · have hi':=dS hc2
    rw [hsl] at hi'
    have hc3:(es.getD (lo+i') [])[j]? = some c2:=by
      rw [<- hc2]; congr 1
      simp only [List.getD]
      rw [List.getElem?_take,if_pos hi',List.getElem?_drop]
    obtain ⟨u,hu,hr⟩:=hrd (lo+i') j c2 hc3
    have hi2:=dS hc3
    have hj:j<sz:=by rw [<- hes (es.getD (lo+i') []) (by simp [List.getD,List.getElem?_eq_getElem hi2])]; exact (List.getElem?_eq_some_iff.1 hc3).1
    have:(i'+1)*sz<=m*sz:=Nat.mul_le_mul_right _ hi'
    rw [Nat.add_mul] at this
    refine ⟨u,?_,hr⟩
    rw [List.getElem?_take,if_pos (by omega),List.getElem?_drop]
    rw [Nat.add_mul] at hu
    rw [<- Nat.add_assoc]
    simpa using hu
theorem Jb {o:Oper} {l sz bytes:Nat} {zs:List Cell} {s x:fV} (h:GX E I ρ n st a w) (hc:Ce P n o.op sz bytes zs s x=true) (hm:E.m<=l) (hs:(s.ev st.tm).g=true) (hx:(x.ev st.tm).g=true)
  (dn:(Bc l sz bytes zs (aI st.tm s) (aI st.tm x) st.bx).vc):gp P E n o a w (st.iD (Bc l sz bytes zs (aI st.tm s) (aI st.tm x) st.bx).sets) (Bc l sz bytes zs (aI st.tm s) (aI st.tm x) st.bx).v:=by
 unfold Ce at hc
 split at hc
 ·rename_i s' x' t t' he
  simp only [Bool.and_eq_true,beq_iff_eq,decide_eq_true_eq] at hc
  obtain ⟨⟨⟨⟨⟨c1,c2⟩,h0⟩,hzl⟩,hti⟩,ht⟩:=hc
  have g1:=fJ h c1 hs
  have g2:=fJ h c2 hx
  split at hti
  ·rename_i ku htu
   split at ht
   ·rename_i e hte
    split at ht
    ·rename_i i hi
     simp only [Bool.and_eq_true,beq_iff_eq] at ht
     obtain ⟨⟨rfl,rfl⟩,hz⟩:=ht
     split at hz
     ·rename_i z hzero
      simp only [Bool.and_eq_true,beq_iff_eq] at hz
      obtain ⟨⟨hzs,hzd⟩,hz1⟩:=hz
      have fin:∀ {v:Value} {w':World},(Builtin.append_ #[t,t'] o.type #[a.eval s',a.eval x']).run P w = .ok v w'->(execOp a.eval o).run P w = .ok (.value v) w':=by
       intro v w' hr
       simp only [execOp,he,resolve,invoke,builtin,Sem.run_bind,Sem.run_pure,Result.andThen_ok,List.map_toArray,List.map_cons,List.map_nil,hr]
      have hzc:∀ (q:Nat) (j:Nat) (u:Value),(Builtin.zeroCells z.cells q).toList[j]? = some u->u.oneCell'=true:=by
       intro q j u hu
       exact (xx (I:=I) (m:=q) hzd hzs hzl h0).2.one j u hu
      have fresh:∀ (old m q:Nat) (olds:List Value) (es':List (List Cell)),st.bx l = .absent->old<m+q->olds.length=m*i.size->es'.length=m->(∀ y,y∈es'->y.length=i.size)->DC I olds i.size es'->m+q<=maxLen ->
        GX E I (ρ.set l w.heap.size (grownCap w (m+q) old e)) n (st.jI l (.dat i.size (es'++List.replicate q zs))) a
         (w.drew.alloc (.cells (olds.toArray++Builtin.zeroCells z.cells q++Builtin.zeroCells z.cells (grownCap w (m+q) old e-(m+q))) e)):=by
       intro old m q olds es' hl' ho hol hel hes' hdo h63
       have hge:=grownCap_ge w (m+q) old e
       have hcm:grownCap w (m+q) old e<=maxLen:=grownCap_le_maxLen w _ old e h63
       obtain ⟨Qn,OW⟩:=xx (I:=I) (m:=q) hzd hzs hzl h0
       have hdc:=((hdo.append OW (by rw [hel]; exact hol)).more (hzc (grownCap w (m+q) old e-(m+q)))).II (cs:=olds.toArray++Builtin.zeroCells z.cells q++Builtin.zeroCells z.cells (grownCap w (m+q) old e-(m+q))) (by simp)
       refine sK h.drew hl' hm _ e _ i.size (es'++List.replicate q zs) ?_ (by rw [List.length_append,hel,List.length_replicate]; exact hge) hcm (fun x hx => ?_) hdc.1 hdc.2
       ·simp only [Array.size_append,List.size_toArray,size_zeroCells,hzs,hol,<- Nat.add_mul]
        congr 1
        omega
       ·rcases List.mem_append.1 hx with h1 | h1
        ·exact hes' x h1
        ·rw [List.eq_of_mem_replicate h1,hzl]
      have arith:∀ (m q:Nat),(m+q)*(i.bytes+i.size+1)<=2^46->(m+q)*i.bytes<=140737488355328/\q*i.bytes<=140737488355328/\m+q<=2^46:=by
       intro m q hbig
       have e1:(m+q)*(i.bytes+i.size+1)=(m+q)*i.bytes+(m+q)*i.size+(m+q):=by rw [Nat.mul_add,Nat.mul_add,Nat.mul_one]
       have e2:q*i.bytes<=(m+q)*i.bytes:=Nat.mul_le_mul_right _ (by omega)
       omega
      have hml:2^46<=maxLen:=by decide
      unfold Bc at dn ⊢
      split at dn
      ·rename_i b lo m c sz' k q e1 e2
       split at dn
       ·rename_i kR es hb
        obtain ⟨rfl,rfl,rfl,hlo,hq,hroom,hl,hbig⟩:=dn
        obtain ⟨kk,cap,ad0,c',hr0,hsv,hnc,hcc,hcx,hcap⟩:=rq (c:=some c) (b:=b) (lo:=lo) (m:=m) (sz:=i.size) g1 (by rw [e1]; rfl)
        have:=hcx c rfl
        subst this
        have hxv:a.eval x' = .int .i64 q:=by exact jC (by rw [e2] at g2; exact g2)
        obtain ⟨qn,rfl⟩:∃ qn:Nat,q=qn:=⟨q.toNat,by omega⟩
        simp only [Int.toNat_natCast] at hroom hbig ⊢
        obtain ⟨a1,a2,a3⟩:=arith m qn hbig
        have hl':=oQ hl
        have hfit:=growslice_fits (need:=m+qn) (old:=c') (bytes:=i.bytes) (by omega) a1
        by_cases hc0:c'=0
        ·have Ql:m=0:=by omega
         subst Ql
         subst hc0
         have hf:=fresh 0 0 qn [] [] hl' (by omega) (by simp) rfl (by simp) ⟨by simp,by simp⟩ (by omega)
         have hr:=zU (P:=P) (w:=w) t t' o.type e ku i z hte htu hi hzero ad0 0 0 [] (by simp) (fun _=>rfl) (by simp) qn (by rw [<- Int.natCast_mul]; exact Int.ofNat_le.2 a2) (by omega) (by omega) h0 (by omega) (by omega) hfit
         rw [<- hxv,<- hsv] at hr
         simp only [List.take_zero]
         exact ⟨_,_,I,_,.inl (fin hr),hf,fun _=>⟨w.heap.size,_,_,_,Ren.fK _ _ _ _,rfl,grownCap_ge w _ _ e,Nat.le_refl _,fun _=>rfl⟩⟩
        ·have uo:=hcap (.inl hc0)
         subst uo
         obtain ⟨olds,ho1,ho2,ho3,TZ,Ua⟩:=Lj h hb hr0 (by omega) (by omega) hlo
         have hf:=fresh c' m qn olds _ hl' (by omega) ho1 Ua TZ ho3 (by omega)
         have hr:=zU (P:=P) (w:=w) t t' o.type e ku i z hte htu hi hzero (some ⟨kk,lo*i.size,none⟩) m c' olds ho1 (by simp) (fun ad had j u hu=>by cases had; exact ho2 j u hu) qn (by rw [<- Int.natCast_mul]; exact Int.ofNat_le.2 a2) (by omega) (by omega) h0 (by omega) (by omega) hfit
         rw [<- hxv,<- hsv] at hr
         exact ⟨_,_,I,_,.inl (fin hr),hf,fun _=>⟨w.heap.size,_,_,_,Ren.fK _ _ _ _,rfl,grownCap_ge w _ _ e,Nat.le_refl _,fun _=>rfl⟩⟩
       ·exact dn.elim
      ·rename_i sz' k q e1 e2
       obtain ⟨rfl,hq,hl,hbig⟩:=dn
       have hsv:a.eval s' = .slice none 0 0:=by rw [e1] at g1; exact g1
       have hxv:a.eval x' = .int .i64 q:=by exact jC (by rw [e2] at g2; exact g2)
       obtain ⟨qn,rfl⟩:∃ qn:Nat,q=qn:=⟨q.toNat,by omega⟩
       simp only [Int.toNat_natCast] at hbig ⊢
       obtain ⟨a1,a2,a3⟩:=arith 0 qn (by simpa using hbig)
       simp only [Nat.zero_add] at a1 a3
       have hl':=oQ hl
       have hfit:=growslice_fits (need:=0+qn) (old:=0) (bytes:=i.bytes) (by omega) (by simpa using a1)
       have hf:=fresh 0 0 qn [] [] hl' (by omega) (by simp) rfl (by simp) ⟨by simp,by simp⟩ (by omega)
       have hr:=zU (P:=P) (w:=w) t t' o.type e ku i z hte htu hi hzero none 0 0 [] (by simp) (fun _=>rfl) (by simp) qn (by rw [<- Int.natCast_mul]; exact Int.ofNat_le.2 a2) (by omega) (by omega) h0 (by omega) (by omega) hfit
       rw [<- hxv,<- hsv] at hr
       simp only [List.nil_append] at hf
       exact ⟨_,_,I,_,.inl (fin hr),hf,fun _=>⟨w.heap.size,_,_,_,Ren.fK _ _ _ _,by rw [Nat.zero_add],by have:=grownCap_ge w (0+qn) 0 e; omega,Nat.le_refl _,fun _=>rfl⟩⟩
      ·exact dn.elim
     ·cases hz
    ·cases ht
   ·cases ht
  ·cases hti
 ·cases hc
end
end Go.Ab
end
section
namespace Go.Ab
open Go
def xO (P:Program) (n m:Nat) (op:Op) (d:Option Nat):fO->Bool
 | .mv x=>Lc n op x
 | .pick c a b=>CU n op c a b
 | .load agg k p=>CO P n op agg k p
 | .store agg k p x=>yR P n op agg k p x&&d.isNone
 | .alloc l zs=>yG P op zs&&decide (m<=l)
 | .pO T _ l r=>wE P op T&&decide (m<=l)&&decide (m<=r)
 | .wB l sz c zs=>wC P op sz c zs&&decide (m<=l)
 | .box l x=>Gm n op x&&decide (m<=l)
 | .build zs ps=>yH P n op zs ps
 | .bJ l sz c zs ps=>wG P n op sz c zs ps&&decide (m<=l)
 | .makes l sz bytes zs x y=>yM P n op sz bytes zs x y&&decide (m<=l)
 | .bin o x y=>Gl n op o x y
 | .beq ng x y=>Gj P n op ng x y
 | .not x=>Gt n op x
 | .neg x=>Gs n op x
 | .uj k x=>Ci P n op k x
 | .CY x=>Cm P n op x
 | .same x=>CV P n op x
 | .JH f cs=>CP n op f cs
 | .zY x lo hi=>yQ P n op x lo hi
 | .oO sz x lo hi=>CX P n op sz x lo hi
 | .BF sz c x=>yP P n op sz c x
 | .zD x=>yN n op x
 | .eu off x=>yI P n op off x
 | .field agg off k x=>yJ P n op agg off k x
 | .mW sz x i=>yL P n op sz x i
 | .Dq sz c x i=>wH P n op sz c x i
 | .idxs x i=>CE P n op x i
 | .extract x i=>uh n op x i
 | .len x=>Gq P n op x
 | .lens x=>CJ P n op x
 | .max x y=>Bh true n op x y
 | .min x y=>Bh false n op x y
 | .append l sz bytes s x=>nN P n op sz bytes s x&&decide (m<=l)
 | .copy sz x y=>rZ P n op sz x y
 | .RF l x y=>Gv n op l x y
 | .La x=>Cf P n op x
 | .uH sz x lo hi=>wJ P n op sz x lo hi
 | .sl3 sz x p q m=>Gw P n op sz x p q m
 | .JV l sz bytes s x=>nN P n op sz bytes s x&&decide (m<=l)
 | .JZ sz x y=>rZ P n op sz x y
 | .JX sz zs x=>CW P n op sz zs x
 | .Ja l sz bytes zs s x=>Ce P n op sz bytes zs s x&&decide (m<=l)
 | .Ld x y=>Cj P n op x y
 | .Qw x y=>Gu P n op x y
 | .Jq x y=>CB P n op x y
 | .stop=>true
section
variable {P:Program} {E:Env P} {I:IH} {ρ:Ren} {n:Nat} {st:bF} {a:Act} {w:World}
theorem mM {x:Box} (h:match x with | .absent=>True | _=>False):lu x:=by cases x<;>first | trivial | exact h.elim
theorem MX (h:GX E I ρ n st a w) {o:Oper} {ao:fO} (hc:xO P n E.m o.op o.dst ao=true) (hv:ao.valid (fV.ev st.tm)) (dn:(ao.f (aI st.tm) st.bx).vc) :
    gp P E n o a w (st.iD (ao.f (aI st.tm) st.bx).sets) (ao.f (aI st.tm) st.bx).v:=by
  cases ao with
  | mv x=>exact OY h hc (hv x (by simp [fO.gy]))
  | pick c x y =>
    simp only [fO.f] at dn ⊢
    obtain ⟨hg,hxy⟩:=hv
    split at dn
    · rename_i t ht
      have ht':((fV.ev st.tm c).x)=jK t:=ht
      rw [ht'] at hxy
      exact JL h hc hg ht hxy.1 hxy.2
    · exact dn.elim
  | load agg k p => 
    have hs:(jX agg k (aI st.tm p) st.bx).sets=[]:=by
      unfold jX at *
      simp only [fO.f] at dn
      unfold jX at dn
      split at dn
      · split at dn
        · split at dn
          · rename_i hA; rw [if_pos hA]
          · rename_i hA; rw [if_neg hA]; split at dn
            · rfl
            · exact dn.elim
        · exact dn.elim
      · split at dn
        · split at dn
          · rename_i hA; rw [if_pos hA]
          · rename_i hA; rw [if_neg hA]
        · exact dn.elim
      · split at dn
        · rename_i hA; rw [if_pos hA]
        · rename_i hA; rw [if_neg hA]
      · exact dn.elim
    have:=Jw (P:=P) h hc (hv p (by simp [fO.gy])) dn
    simp only [fO.f,hs]
    exact this
  | store agg k p x =>
    simp only [xO,Bool.and_eq_true,Option.isNone_iff_eq_none] at hc
    exact Ho h hc.1 hc.2 (hv p (by simp [fO.gy])) (hv x (by simp [fO.gy])) dn
  | alloc l zs =>
    simp only [xO,Bool.and_eq_true,decide_eq_true_eq] at hc
    exact FZ h hc.1 hc.2 (mM dn)
  | pO T e l r =>
    simp only [xO,Bool.and_eq_true,decide_eq_true_eq] at hc
    exact Em h hc.1.1 hc.1.2 hc.2 (mM dn.1) (mM dn.2.1) dn.2.2
  | wB l sz c zs =>
    simp only [xO,Bool.and_eq_true,decide_eq_true_eq] at hc
    exact Ej h hc.1 hc.2 (mM dn)
  | box l x =>
    simp only [xO,Bool.and_eq_true,decide_eq_true_eq] at hc
    exact KW h hc.1 (hv x (by simp [fO.gy])) hc.2 (mM dn.1) dn.2
  | build zs ps=>exact Gf h hc (fun p hp=>hv p.2.2 (by simp only [fO.gy,List.mem_map]; exact ⟨p,hp,rfl⟩)) dn
  | bJ l sz c zs ps =>
    simp only [xO,Bool.and_eq_true,decide_eq_true_eq] at hc
    simp only [fO.f] at dn ⊢
    split at dn
    · rename_i l' hl'
      rw [zW]
      exact Ey h hc.1 (fun p hp=>hv p.2 (by simp only [fO.gy,List.mem_map]; exact ⟨p,hp,rfl⟩)) hc.2 (mM dn.1) hl' dn.2.1 dn.2.2
    · exact dn.elim
  | makes l sz bytes zs x y =>
    simp only [xO,Bool.and_eq_true,decide_eq_true_eq] at hc
    simp only [fO.f] at dn ⊢
    split at dn
    · rename_i k p k' q e1 e2
      obtain ⟨v1,v2,v3,v4,v5⟩:=dn
      exact GN h hc.1 (hv x (by simp [fO.gy])) (hv y (by simp [fO.gy])) e1 e2 hc.2 (mM v1) v2 v3 v4 v5
    · exact dn.elim
  | bin b x y =>
    have hs:(xM b (aI st.tm x) (aI st.tm y)).sets=[]:=by
      unfold xM; split
      · rfl
      · unfold qh; cases b<;>rfl
      · rfl
    have:=KT (P:=P) h hc (hv x (by simp [fO.gy])) (hv y (by simp [fO.gy])) dn
    simp only [fO.f,hs]
    exact this
  | beq ng x y =>
    have hs:(Es ng (aI st.tm x) (aI st.tm y)).sets=[]:=by unfold Es; split<;>rfl
    have:=KR (P:=P) h hc (hv x (by simp [fO.gy])) (hv y (by simp [fO.gy])) dn
    simp only [fO.f,hs]
    exact this
  | not x =>
    simp only [fO.f] at dn ⊢
    split at dn
    · rename_i b hb; exact MS h hc (hv x (by simp [fO.gy])) hb
    · exact dn.elim
  | neg x =>
    simp only [fO.f] at dn ⊢
    split at dn
    · rename_i k m hb; exact MO h hc (hv x (by simp [fO.gy])) hb
    · exact dn.elim
  | uj k x =>
    simp only [fO.f] at dn ⊢
    split at dn
    · rename_i j m hb; exact Jh h hc (hv x (by simp [fO.gy])) hb
    · exact dn.elim
  | CY x =>
    simp only [fO.f] at dn ⊢
    split at dn
    · rename_i p es hs
      split at dn
      · rename_i l hl; exact Jk h hc (hv x (by simp [fO.gy])) hs dn.1 hl dn.2
      · exact dn.elim
    · exact dn.elim
  | same x =>
    simp only [fO.f] at dn ⊢
    split at dn
    · rename_i l hb; exact JU h hc (hv x (by simp [fO.gy])) hb
    · exact dn.elim
  | JH f cs =>
    simp only [fO.f] at dn ⊢
    split at dn
    · rename_i l hl; exact JI h hc (fun x hx=>hv x hx) hl
    · exact dn.elim
  | zY x lo hi =>
    simp only [fO.f] at dn ⊢
    split at dn
    · rename_i s e1
      split at dn
      · rename_i p q e2 e3
        exact Hf h hc (hv x (by simp [fO.gy])) (fun y hy=>hv y (by simp only [fO.gy]; simp at hy; simp [hy])) (fun y hy=>hv y (by simp only [fO.gy]; simp at hy; simp [hy])) e1 e2 e3 dn.1 dn.2.1 dn.2.2
      · exact dn.elim
    · exact dn.elim
  | oO sz x lo hi =>
    have hs:(BG sz (aI st.tm x) (bnd (aI st.tm) lo 0) (bnd (aI st.tm) hi)).sets=[]:=by
      unfold BG; split
      · split<;>rfl
      · split<;>rfl
      · split<;>rfl
      · rfl
    have:=J6 (P:=P) h hc (hv x (by simp [fO.gy])) (fun y hy=>hv y (by simp only [fO.gy]; simp at hy; simp [hy])) (fun y hy=>hv y (by simp only [fO.gy]; simp at hy; simp [hy])) dn
    have e:((fO.oO sz x lo hi).f (aI st.tm) st.bx)=BG sz (aI st.tm x) (bnd (aI st.tm) lo 0) (bnd (aI st.tm) hi):=rfl
    rw [e,hs]
    exact this
  | BF sz c x =>
    simp only [fO.f] at dn ⊢
    split at dn
    · rename_i b sz' e1
      split at dn
      · rename_i kR es e2
        obtain ⟨rfl,rfl,h3,h4⟩:=dn
        exact He h hc (hv x (by simp [fO.gy])) e1 e2 h3
      · exact dn.elim
    · exact dn.elim
  | zD x =>
    have hs:(wX (aI st.tm x)).sets=[]:=by unfold wX; split<;>rfl
    have:=GR (P:=P) h hc (hv x (by simp [fO.gy])) dn
    have e:((fO.zD x).f (aI st.tm) st.bx)=wX (aI st.tm x):=rfl
    rw [e,hs]
    exact this
  | eu off x =>
    have hs:(qY off (aI st.tm x)).sets=[]:=by unfold qY; split<;>rfl
    have:=Gz (P:=P) h hc (hv x (by simp [fO.gy])) dn
    have e:((fO.eu off x).f (aI st.tm) st.bx)=qY off (aI st.tm x):=rfl
    rw [e,hs]
    exact this
  | field agg off k x =>
    have hs:(wL agg off k (aI st.tm x)).sets=[]:=by
      unfold wL; split
      · split
        · rfl
        · split<;>rfl
      · rfl
    have:=GG (P:=P) h hc (hv x (by simp [fO.gy])) dn
    have e:((fO.field agg off k x).f (aI st.tm) st.bx)=wL agg off k (aI st.tm x):=rfl
    rw [e,hs]
    exact this
  | mW sz x i =>
    have hs:(wP sz (aI st.tm x) (aI st.tm i)).sets=[]:=by unfold wP; split<;>rfl
    have:=GL (P:=P) h hc (hv x (by simp [fO.gy])) (hv i (by simp [fO.gy])) dn
    have e:((fO.mW sz x i).f (aI st.tm) st.bx)=wP sz (aI st.tm x) (aI st.tm i):=rfl
    rw [e,hs]
    exact this
  | Dq sz c x i =>
    simp only [fO.f] at dn ⊢
    split at dn
    · rename_i b sz' k m e1 e2
      obtain ⟨rfl,h1,h2⟩:=dn
      exact EW h hc (hv x (by simp [fO.gy])) (hv i (by simp [fO.gy])) e1 e2 h1 h2
    · exact dn.elim
  | idxs x i =>
    simp only [fO.f] at dn ⊢
    split at dn
    · rename_i s k m e1 e2
      exact Js h hc (hv x (by simp [fO.gy])) (hv i (by simp [fO.gy])) e1 e2 dn.1 dn.2
    · exact dn.elim
  | extract x i =>
    have hs:(o5 (aI st.tm x) i).sets=[]:=by
      unfold o5; split
      · split<;>rfl
      · rfl
    have:=Dc (P:=P) h hc (hv x (by simp [fO.gy])) dn
    have e:((fO.extract x i).f (aI st.tm) st.bx)=o5 (aI st.tm x) i:=rfl
    rw [e,hs]
    exact this
  | len x =>
    have hs:(lenV (aI st.tm x)).sets=[]:=by unfold lenV; split<;>rfl
    have:=Md (P:=P) h hc (hv x (by simp [fO.gy])) dn
    have e:((fO.len x).f (aI st.tm) st.bx)=lenV (aI st.tm x):=rfl
    rw [e,hs]
    exact this
  | lens x =>
    simp only [fO.f] at dn ⊢
    split at dn
    · rename_i s e1; exact Ju h hc (hv x (by simp [fO.gy])) e1
    · exact dn.elim
  | max x y =>
    simp only [fO.f] at dn ⊢
    split at dn
    · rename_i k p k' q e1 e2
      have dn:k=k':=dn
      subst dn
      exact ML h hc (hv x (by simp [fO.gy])) (hv y (by simp [fO.gy])) e1 e2
    · exact dn.elim
  | min x y =>
    simp only [fO.f] at dn ⊢
    split at dn
    · rename_i k p k' q e1 e2
      have dn:k=k':=dn
      subst dn
      exact MM h hc (hv x (by simp [fO.gy])) (hv y (by simp [fO.gy])) e1 e2
    · exact dn.elim
  | append l sz bytes s x =>
    simp only [xO,Bool.and_eq_true,decide_eq_true_eq] at hc
    exact Eo h hc.1 hc.2 (hv s (by simp [fO.gy])) (hv x (by simp [fO.gy])) dn
  | copy sz d x=>exact Jj h hc (hv d (by simp [fO.gy])) (hv x (by simp [fO.gy])) dn
  | RF l x y =>
    have hs:(DZ l (aI st.tm x) (aI st.tm y)).sets=[]:=by unfold DZ; (repeat' split)<;>rfl
    have:=Nr (P:=P) h hc (hv x (by simp [fO.gy])) (hv y (by simp [fO.gy])) dn
    have e:((fO.RF l x y).f (aI st.tm) st.bx)=DZ l (aI st.tm x) (aI st.tm y):=rfl
    rw [e,hs]
    exact this
  | La x =>
    have hs:(Au (aI st.tm x)).sets=[]:=by unfold Au; (repeat' split)<;>rfl
    have:=Jg (P:=P) h hc (hv x (by simp [fO.gy])) dn
    have e:((fO.La x).f (aI st.tm) st.bx)=Au (aI st.tm x):=rfl
    rw [e,hs]
    exact this
  | uH sz x lo hi =>
    have hs:(qg sz (aI st.tm x) (bnd (aI st.tm) lo 0) (bnd (aI st.tm) hi)).sets=[]:=by unfold qg; (repeat' split)<;>rfl
    have:=Fj (P:=P) h hc (hv x (by simp [fO.gy])) (fun y hy=>hv y (by simp only [fO.gy,List.mem_cons,List.mem_append]; exact .inr (.inl hy))) (fun y hy=>hv y (by simp only [fO.gy,List.mem_cons,List.mem_append]; exact .inr (.inr hy))) dn
    have e:((fO.uH sz x lo hi).f (aI st.tm) st.bx)=qg sz (aI st.tm x) (bnd (aI st.tm) lo 0) (bnd (aI st.tm) hi):=rfl
    rw [e,hs]
    exact this
  | sl3 sz x p q m =>
    have hs:(G9 sz (aI st.tm x) (aI st.tm p) (aI st.tm q) (aI st.tm m)).sets=[]:=by unfold G9; (repeat' split)<;>rfl
    have:=Ns (P:=P) h hc (hv x (by simp [fO.gy])) (hv p (by simp [fO.gy])) (hv q (by simp [fO.gy])) (hv m (by simp [fO.gy])) dn
    have e:((fO.sl3 sz x p q m).f (aI st.tm) st.bx)=G9 sz (aI st.tm x) (aI st.tm p) (aI st.tm q) (aI st.tm m):=rfl
    rw [e,hs]
    exact this
  | JV l sz bytes s x =>
    simp only [xO,Bool.and_eq_true,decide_eq_true_eq] at hc
    exact JW h hc.1 hc.2 (hv s (by simp [fO.gy])) (hv x (by simp [fO.gy])) dn
  | Ja l sz bytes zs s x =>
    simp only [xO,Bool.and_eq_true,decide_eq_true_eq] at hc
    exact Jb h hc.1 hc.2 (hv s (by simp [fO.gy])) (hv x (by simp [fO.gy])) dn
  | JZ sz d x=>exact J3 h hc (hv d (by simp [fO.gy])) (hv x (by simp [fO.gy])) dn
  | JX sz zs x=>exact JY h hc (hv x (by simp [fO.gy])) dn
  | stop=>exact dn.elim
  | Ld x y =>
    have hs:(uZ (aI st.tm x) (aI st.tm y)).sets=[]:=by unfold uZ; (repeat' split)<;>rfl
    have:=Ji (P:=P) h hc (hv x (by simp [fO.gy])) (hv y (by simp [fO.gy])) dn
    have e:((fO.Ld x y).f (aI st.tm) st.bx)=uZ (aI st.tm x) (aI st.tm y):=rfl
    rw [e,hs]
    exact this
  | Jq x y =>
    have hs:(vF (aI st.tm x) (aI st.tm y)).sets=[]:=by unfold vF; (repeat' split)<;>rfl
    have:=Jr (P:=P) h hc (hv x (by simp [fO.gy])) (hv y (by simp [fO.gy])) dn
    have e:((fO.Jq x y).f (aI st.tm) st.bx)=vF (aI st.tm x) (aI st.tm y):=rfl
    rw [e,hs]
    exact this
  | Qw x y =>
    have hs:(DI (aI st.tm x) (aI st.tm y) st.bx).sets=[]:=by unfold DI; (repeat' split)<;>rfl
    have:=MZ (P:=P) h hc (hv x (by simp [fO.gy])) (hv y (by simp [fO.gy])) dn
    have e:((fO.Qw x y).f (aI st.tm) st.bx)=DI (aI st.tm x) (aI st.tm y) st.bx:=rfl
    rw [e,hs]
    exact this
end
end Go.Ab
end
section
namespace Go.Ab
open Go
section
variable {P:Program} {E:Env P} {I:IH} {ρ:Ren} {n:Nat} {st:bF} {a:Act} {w:World}
def AK (E:Env P) (n:Nat) (K:bF->Prop):Act->World->Prop:=fun a w=>∃ I ρ st,K st/\GX E I ρ n st a w
theorem PE (h:GX E I ρ n st a w) {bs:List Nat} {v:Value} {x y:AC} (hx:GC I ρ v x) (hc:Cv st.bx x y) (hb:∀ b,b∈fZ [x]->b∈bs):GC (lq I ρ w st.bx bs) ρ v y:=by
  have hle:=nI (st:=st) h.bx bs
  cases hc with
  | refl=>exact hx.mono hle (Ren.le_refl ρ)
  | fH sz =>
    simp only [GC] at hx
    subst hx
    exact Rd.sl none 0 0 _ [] (fun _ _=>undef) rfl (Nat.le_refl _) (by simp [maxLen]) (by simp) (by simp) (by intro ad h; cases h) (by simp)
  | own b m sz es harr hm=>exact Du h (hb b (by simp [fZ])) harr hm hx
theorem lU {x:AC} {xs:List AC} {b:Nat} : b∈fZ (x::xs)<->b∈fZ [x]\/b∈fZ xs:=by
 cases x<;>simp [fZ]
theorem OE (h:GX E I ρ n st a w) {bs:List Nat} {vs:List Value} {xs ys:List AC} (hx:rV I ρ vs xs) (hc:Pn st.bx xs ys) (hb:∀ b,b∈fZ xs->b∈bs):rV (lq I ρ w st.bx bs) ρ vs ys:=by
  induction hc generalizing vs with
  | nil=>exact ⟨hx.1,fun j v x hv hx=>by simp at hx⟩
  | cons hxy ht ih =>
    rename_i x y xs ys
    cases vs with
    | nil=>have:=hx.1; simp at this
    | cons v vs =>
      have i1:=ih (vs:=vs) ⟨by simpa using hx.1,fun j u z hu hz=>hx.2 (j+1) u z (by simpa using hu) (by simpa using hz)⟩ (fun b hb'=>hb b (lU.2 (.inr hb')))
      have i0:=PE h (hx.2 0 v x rfl rfl) hxy (fun b hb'=>hb b (lU.2 (.inl hb')))
      refine ⟨by simp [i1.1],fun j u z hu hz => ?_⟩
      cases j with
      | zero=>simp at hu hz; subst hu; subst hz; exact i0
      | succ j=>exact i1.2 j u z (by simpa using hu) (by simpa using hz)
theorem P7 (h:GX E I ρ n st a w) {bs:List Nat} {v:Value} {x y:AV} (hx:GV I ρ v x) (hc:QJ st.bx x y) (hb:∀ b,b∈x.owns->b∈bs):GV (lq I ρ w st.bx bs) ρ v y:=by
 cases hc with
 | one hxy=>exact PE h hx hxy hb
 | agg hxy=>obtain ⟨cs,rfl,hg⟩:=hx; exact ⟨cs,rfl,OE h hg hxy hb⟩
theorem yS (h:GX E I ρ n st a w) {bs:List Nat} {vs:List Value} {xs ys:List AV} (hx:HY I ρ vs xs) (hc:tN st.bx xs ys) (hb:∀ b,b∈xs.flatMap AV.owns->b∈bs):HY (lq I ρ w st.bx bs) ρ vs ys:=by
  induction hc generalizing vs with
  | nil=>exact ⟨hx.1,fun j v x hv hx=>by simp at hx⟩
  | cons hxy ht ih =>
    rename_i x y xs ys
    cases vs with
    | nil=>have:=hx.1; simp at this
    | cons v vs =>
      have i1:=ih (vs:=vs) ⟨by simpa using hx.1,fun j u z hu hz=>hx.2 (j+1) u z (by simpa using hu) (by simpa using hz)⟩ (fun b hb'=>hb b (by rw [List.flatMap_cons]; exact List.mem_append_right _ hb'))
      have i0:=P7 h (hx.2 0 v x rfl rfl) hxy (fun b hb'=>hb b (by rw [List.flatMap_cons]; exact List.mem_append_left _ hb'))
      refine ⟨by simp [i1.1],fun j u z hu hz => ?_⟩
      cases j with
      | zero=>simp at hu hz; subst hu; subst hz; exact i0
      | succ j=>exact i1.2 j u z (by simpa using hu) (by simpa using hz)
theorem GK {I J:IH} {ρ σ:Ren} {v:Value} {x:AC} (h:GC I ρ v x) (hl:x.isLit=true):GC J σ v x:=by
  cases x with
  | c y =>
    cases y with
    | lit u=>cases h with | lit v hv=>exact Rd.lit _ hv
    | str l=>cases h with | str l hl=>exact Rd.str _ hl
    | sl sz es=>cases hl
  | _=>cases hl
theorem Ij {I J:IH} {ρ σ:Ren} {vs:List Value} {xs:List AC} (h:rV I ρ vs xs) (hl:xs.all AC.isLit=true):rV J σ vs xs :=
 ⟨h.1,fun j v x hv hx=>GK (h.2 j v x hv hx) (List.all_eq_true.1 hl x (List.mem_of_getElem? hx))⟩
theorem Qc {I J:IH} {ρ σ:Ren} {v:Value} {x:AV} (h:GV I ρ v x) (hl:x.all AC.isLit=true):GV J σ v x:=by
  cases x with
  | one x=>exact GK h hl
  | agg xs=>obtain ⟨cs,rfl,hg⟩:=h; exact ⟨cs,rfl,Ij hg hl⟩
  | mG ps =>
    obtain ⟨vs,rfl,hs,hp⟩:=h
    refine ⟨vs,rfl,hs,fun j v p hv hq => ?_⟩
    have h1:=hp j v p hv hq
    have h2:=List.all_eq_true.1 hl p (List.mem_of_getElem? hq)
    unfold GP at h1 ⊢
    split at h1
    · rename_i hb; rw [if_pos hb]; obtain ⟨cs,rfl,hg⟩:=h1; exact ⟨cs,rfl,Ij hg h2⟩
    · rename_i hb; rw [if_neg hb]; obtain ⟨x,hx,hg⟩:=h1; rw [hx] at h2; exact ⟨x,hx,GK hg (by simpa using h2)⟩
theorem Dl {I:IH} {ρ σ:Ren} {v:Value} {x:AC} (h:GC I ρ v x) (hl:x.jD=true):GC I σ v x:=by
 cases x with
 | c y=>exact h
 | _=>cases hl
theorem EN {I:IH} {ρ σ:Ren} {vs:List Value} {xs:List AC} (h:rV I ρ vs xs) (hl:xs.all AC.jD=true):rV I σ vs xs :=
 ⟨h.1,fun j v x hv hx=>Dl (h.2 j v x hv hx) (List.all_eq_true.1 hl x (List.mem_of_getElem? hx))⟩
theorem Io {I:IH} {ρ σ:Ren} {v:Value} {x:AV} (h:GV I ρ v x) (hl:x.all AC.jD=true):GV I σ v x:=by
  cases x with
  | one x=>exact Dl h hl
  | agg xs=>obtain ⟨cs,rfl,hg⟩:=h; exact ⟨cs,rfl,EN hg hl⟩
  | mG ps =>
    obtain ⟨vs,rfl,hs,hp⟩:=h
    refine ⟨vs,rfl,hs,fun j v p hv hq => ?_⟩
    have h1:=hp j v p hv hq
    have h2:=List.all_eq_true.1 hl p (List.mem_of_getElem? hq)
    unfold GP at h1 ⊢
    split at h1
    · rename_i hb; rw [if_pos hb]; obtain ⟨cs,rfl,hg⟩:=h1; exact ⟨cs,rfl,EN hg h2⟩
    · rename_i hb; rw [if_neg hb]; obtain ⟨x,hx,hg⟩:=h1; rw [hx] at h2; exact ⟨x,hx,Dl hg (by simpa using h2)⟩
theorem EP {I:IH} {ρ σ:Ren} {vs:List Value} {xs:List AV} (h:HY I ρ vs xs) (hl:xs.all (·.all AC.jD)=true):HY I σ vs xs :=
 ⟨h.1,fun j v x hv hx=>Io (h.2 j v x hv hx) (List.all_eq_true.1 hl x (List.mem_of_getElem? hx))⟩
theorem BZ (b:Nat):nG [] b = .absent:=by simp [nG]
theorem vH {x:Option (Nat × Nat)} (b k:Nat):¬ (nG [] b).uses x k:=by rw [BZ]; exact fun h=>h
theorem GX.later (h:GX E I ρ n st a w) {w':World} (hF:vY w w' (fun _=>False)):GX E I ρ n st a w':=by
 have hk:∀ k,k<w.heap.size->w'.heap[k]? = w.heap[k]? := fun k hk=>hF.block k hk (fun h=>h)
 refine { h with agree:=h.agree.other (fun k c hc=>hk k (h.agree.lt hc)),bx := ?_,pV:=h.pV.trans hF (fun _ _ hf=>hf.elim),tm:=h.tm,size:=h.size,defers:=h.defers }
 exact BX.step (fun _=>False) h.bx (IH.le_refl I) (Ren.le_refl ρ) (fun b _=>⟨rfl,rfl⟩) (fun b k _ hu=>hk k ((h.bx.ok b).lt hu)) (fun b hb=>hb.elim) (fun b k hb=>hb.elim) (fun b b' k hb=>hb.elim) (fun b k _ hu=>h.bx.fresh b k hu)
theorem MP (I:IH) (w:World):BX I (fun _=>none) w (nG []) :=
 ⟨fun b=>by rw [BZ]; rfl,fun b b' k h=>absurd h (vH b k),fun b k h=>absurd h (vH b k)⟩
theorem KZ (h:GX E I ρ n st a w) {f:FuncId} {vs:List Value} {iU ds:List AV} {r:AV} {d:Option Nat} {K:bF->Prop} (hd':∀ x,d=some x->x<n) (hv:HY I ρ vs iU) (hc:tN st.bx iU ds) (hd:ds.all (·.all AC.jD)=true) (hp:dA P f ds r) (hr:r.all AC.isLit=true)
  (k:K (st.kz d (.v true r))):Calls P f vs.toArray w fun e w'=>∃ v,e = .returned v/\AK E n K (a.put d v) w':=by
 have hv1:=yS h (bs:=iU.flatMap AV.owns) hv hc (fun b hb=>hb)
 refine (hp (lq I ρ w st.bx (iU.flatMap AV.owns)) (fun _=>none) w vs (h.tabs.mono (nI h.bx _)) (uy h.agree _) (MP _ _) (EP hv1 hd)).mono ?_
 rintro e w' ⟨v,J,σ,r',bs,rfl,⟨rfl,rfl⟩,hg,hA,hB,hle,hF,_⟩
 have hF':vY w w' (fun _=>False):=⟨hF.os,hF.tape,hF.output,hF.size,fun k hk _=>hF.block k hk (fun ⟨b,hb⟩=>vH b k hb)⟩
 exact ⟨v,rfl,I,ρ,_,k,(h.later hF').kz hd' ⟨fun _=>Qc hg hr,fun e=>by cases e⟩⟩
theorem Jf (h:GX E I ρ n st a w) {f:FuncId} {vs:List Value} {iU ds:List AV} {r:AV} {d:Option Nat} {K:bF->Prop} (hd':∀ x,d=some x->x<n) (hv:HY I ρ vs iU) (hc:tN st.bx iU ds) (hd:ds.all (·.all AC.jD)=true) (hp:dA P f ds r) (hr:r.all AC.jD=true)
    (k:K ((st.mX (iU.flatMap AV.owns)).kz d (.v true r))):Calls P f vs.toArray w fun e w'=>∃ v,e = .returned v/\AK E n K (a.put d v) w':=by
  have hv1:=yS h (bs:=iU.flatMap AV.owns) hv hc (fun b hb=>hb)
  refine (hp (lq I ρ w st.bx (iU.flatMap AV.owns)) (fun _=>none) w vs (h.tabs.mono (nI h.bx _)) (uy h.agree _) (MP _ _) (EP hv1 hd)).mono ?_
  rintro e w' ⟨v,J,σ,r',bs,rfl,⟨rfl,rfl⟩,hg,hA,hB,hle,hF,_,hJ,_⟩
  have hF':vY w w' (fun _=>False):=⟨hF.os,hF.tape,hF.output,hF.size,fun k hk _=>hF.block k hk (fun ⟨b,hb⟩=>vH b k hb)⟩
  have hJ':∀ k,k<w.heap.size->J k=lq I ρ w st.bx (iU.flatMap AV.owns) k:=fun k hk=>hJ k hk (fun ⟨b,hb⟩=>vH b k hb)
  refine ⟨v,rfl,J,ρ,_,k,?_⟩
  generalize hBS:iU.flatMap AV.owns=BS at *
  have Qh:I.le J:=IH.le_trans (nI h.bx BS) hle
  have hk:∀ k,k<w.heap.size->w'.heap[k]? = w.heap[k]? := fun k hk=>hF'.block k hk (fun h=>h)
  have qH:∀ b k,((st.mX BS).bx b).uses (ρ b) k->(st.bx b).uses (ρ b) k/\¬ (∃ b' sz es cap,b'∈BS/\st.bx b' = .dat sz es/\ρ b'=some (k,cap)/\cap ≠ 0):=by
    intro b k hu
    rw [kJ] at hu
    by_cases hb:b∈BS
    · rw [if_pos hb] at hu
      cases hx:st.bx b with
      | var xs =>
        rw [hx] at hu
        refine ⟨hu,?_⟩
        rintro ⟨b',sz,es,cap,_,hb',hr',h0⟩
        have:=h.bx.inj b b' k (by rw [hx]; exact hu) (by rw [hb']; exact ⟨cap,hr',h0⟩)
        subst this
        rw [hx] at hb'; cases hb'
      | row e l =>
        rw [hx] at hu
        refine ⟨hu,?_⟩
        rintro ⟨b',sz,es,cap,_,hb',hr',h0⟩
        have:=h.bx.inj b b' k (by rw [hx]; exact hu) (by rw [hb']; exact ⟨cap,hr',h0⟩)
        subst this
        rw [hx] at hb'; cases hb'
      | dat sz es=>rw [hx] at hu; exact hu.elim
      | mX sz es=>rw [hx] at hu; exact hu.elim
      | absent=>rw [hx] at hu; exact hu.elim
      | dead=>rw [hx] at hu; exact hu.elim
    · rw [if_neg hb] at hu
      refine ⟨hu,?_⟩
      rintro ⟨b',sz,es,cap,hm',hb',hr',h0⟩
      have:=h.bx.inj b b' k hu (by rw [hb']; exact ⟨cap,hr',h0⟩)
      subst this
      exact hb hm'
  have hfr:∀ b k,((st.mX BS).bx b).uses (ρ b) k->J k=none:=fun b k hu=>by
    obtain ⟨h1,h2⟩:=qH b k hu
    rw [hJ' k ((h.bx.ok b).lt h1)]
    unfold lq
    rw [if_neg h2]
    exact h.bx.fresh b k h1
  have hgx:GX E J ρ n (st.mX BS) a w':=by
    refine { agree:=hA,bx:=⟨fun b => ?_,fun b b' k hb hb'=>h.bx.inj b b' k (qH b k hb).1 (qH b' k hb').1,hfr⟩,tm:=fun t ht=>(h.tm t ht).mono Qh (Ren.le_refl ρ),size:=h.size,defers:=h.defers,pV:=h.pV.trans hF' (fun _ _ hf=>hf.elim),own:=fun b k hu=>h.own b k (qH b k hu).1,yg:=IH.le_trans h.yg Qh,oz:=fun k hk0 hM => ?_,jG:=h.jG }
    · have hok:=(h.bx.ok b).keep Qh (Ren.le_refl ρ) rfl (fun k hu=>hk k ((h.bx.ok b).lt hu))
      rw [kJ]
      by_cases hb:b∈BS
      · rw [if_pos hb]
        cases hx:st.bx b with
        | dat sz es =>
          rw [hx] at hok
          obtain ⟨kk,cap,hr',hl,hm,hsz,hcs⟩:=hok
          refine ⟨kk,cap,hr',hl,hm,hsz,fun h0 => ?_⟩
          obtain ⟨cs,e,hw,_,_,hrd⟩:=hcs h0
          have hu:(st.bx b).uses (ρ b) kk:=by rw [hx]; exact ⟨cap,hr',h0⟩
          have hlt:=(h.bx.ok b).lt hu
          refine ⟨cs,?_,hrd⟩
          rw [hJ' kk hlt]
          unfold lq
          rw [if_pos ⟨b,sz,es,cap,hb,hx,hr',h0⟩,<- hk kk hlt,hw]
        | var xs=>rw [hx] at hok; exact hok
        | row e l=>rw [hx] at hok; exact hok
        | mX sz es=>rw [hx] at hok; exact hok
        | absent=>rw [hx] at hok; exact hok
        | dead=>rw [hx] at hok; exact hok
      · rw [if_neg hb]; exact hok
    · have hlt:k<w.heap.size:=Nat.lt_of_lt_of_le hk0 h.pV.size
      rw [hJ' k hlt]
      unfold lq
      rw [if_neg]
      · exact h.oz k hk0 hM
      · rintro ⟨b',sz,es,cap,_,hb',hr',h0⟩
        rcases h.own b' k (by rw [hb']; exact ⟨cap,hr',h0⟩) with h1 | h1
        · omega
        · exact hM h1
  exact hgx.kz hd' ⟨fun _=>Io hg hr,fun e=>by cases e⟩
end
end Go.Ab
end
