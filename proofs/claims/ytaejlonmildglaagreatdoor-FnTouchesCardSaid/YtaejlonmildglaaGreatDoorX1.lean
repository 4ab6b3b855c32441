/- What abstract values, states and codes of the program's language mean, and that they are sound (part 1). No conditions. -/
import Derived.Below
import Derived.OwnWalk
import Derived.Orders
import Derived.Lib.Bytealg
import Derived.Lib.Overlaps
import Derived.Laws.Externs
import Derived.KernelRfl
import Derived.Lib.ItoaNum
import Derived.Laws.Cells
import Derived.Lib.Strings
import Derived.Laws.BytesString
import Derived.Laws.MakeOwn
import Derived.Laws.Tables
import Derived.Laws.CopyRow
import Derived.Laws.AppendOwn
import Derived.Laws.OwnMore
import Derived.Tactics
import Derived.Shelf.Strings.Builder1
import Derived.Shelf.Strconv.Itoa3
import Derived.Lib.AppendIntMem
import Derived.Test.YtaejlonmildglaaGreatDoorProg
import Derived.Lib.ItoaLen
import Derived.ProofKit
import Derived.Lib.LaidTab
import Derived.OpenShut
import Derived.Carry
import Derived.Test.YtaejlonmildglaaGreatDoorCards
import Derived.Test.YtaejlonmildglaaGreatDoorTie
import Derived.Deep.DeepHandedRow
set_option linter.unusedVariables false
set_option linter.unusedSimpArgs false
section
namespace Go.Ab
open Go
abbrev IH:=Nat->Option (Array Value)
def IH.cell (I:IH) (a:Addr):Option Value :=
 if a.spot.isSome then none else match I a.block with
  | some c=>c[a.off]?
  | none=>none
def IH.le (I J:IH):Prop:=∀ b c,I b=some c->J b=some c
theorem IH.le_refl (I:IH):I.le I:=fun _ _ h=>h
theorem IH.le_trans {I J K:IH} (h:I.le J) (k:J.le K):I.le K:=fun b c e=>k b c (h b c e)
theorem IH.KL {I J:IH} (h:I.le J) {a:Addr} {v:Value} (hc:I.cell a=some v):J.cell a=some v:=by
 unfold IH.cell at *
 split at hc
 ·cases hc
 ·cases hb:I a.block with
  | none=>simp [hb] at hc
  | some c=>simp [hb] at hc; rename_i hs; simp [hs,h _ _ hb,hc]
def Agree (I:IH) (w:World):Prop:=∀ b c,I b=some c->∃ e fr,w.heap[b]? = some (.cells c e fr)
theorem Agree.cell {I:IH} {w:World} (h:Agree I w) {a:Addr} {v:Value} (hc:I.cell a=some v):w.cell? a=some v:=by
  unfold IH.cell at hc
  split at hc
  · cases hc
  · cases hb:I a.block with
    | none=>simp [hb] at hc
    | some c =>
      obtain ⟨e,fr,hw⟩:=h _ _ hb
      rename_i hs
      simp [hb] at hc
      simp [World.cell?,hw,hs,hc]
theorem wC {w:World} {b:Nat} {o:Obj} (h:w.heap[b]? = some o):b<w.heap.size:=(Array.getElem?_eq_some_iff.1 h).1
theorem Agree.lt {I:IH} {w:World} (h:Agree I w) {b:Nat} {c:Array Value} (hc:I b=some c):b<w.heap.size:=by
 obtain ⟨e,fr,hw⟩:=h _ _ hc
 exact wC hw
inductive Cell where
 | lit (v:Value)
 | str (l:List UInt8)
 | sl (sz:Nat) (es:List (List Cell))
 deriving Inhabited
inductive Rd (I:IH):Value->Cell->Prop
 | lit (v:Value) (hv:v.oneCell'=true):Rd I v (.lit v)
 | str (l:List UInt8) (h:l.length<=maxLen):Rd I (.string ⟨⟨l⟩⟩) (.str l)
 | sl (a:Option Addr) (len cap sz:Nat) (es:List (List Cell)) (u:Nat->Nat->Value)
   (hlen:es.length=len) (hcap:len<=cap) (hmax:cap<=maxLen) (hsz:∀ e,e∈es->e.length=sz)
   (ha:0<len->a ≠ none)
   (hcell:∀ ad,a=some ad->∀ i j,i<len->j<sz->I.cell (ad.add (i*sz+j))=some (u i j))
   (hr:∀ i j c,(es.getD i [])[j]? = some c->Rd I (u i j) c):Rd I (.slice a len cap) (.sl sz es)
theorem Rd.mono {I J:IH} (hle:I.le J) {v:Value} {c:Cell} (h:Rd I v c):Rd J v c:=by
  induction h with
  | lit v hv=>exact .lit v hv
  | str l h=>exact .str l h
  | sl a len cap sz es u hlen hcap hmax hsz ha hcell hr ih =>
    exact .sl a len cap sz es u hlen hcap hmax hsz ha (fun ad e i j hi hj=>IH.KL hle (hcell ad e i j hi hj)) ih
theorem Rd.one {I:IH} {v:Value} {c:Cell} (h:Rd I v c):v.oneCell'=true:=by
 cases h with
 | lit v hv=>exact hv
 | str l h=>rfl
 | sl=>rfl
inductive AC where
 | c (x:Cell)
 | ptr (b off:Nat)
 | own (b n sz:Nat)
 | qR (b i sz off:Nat)
 | sub (b lo n:Nat) (c:Option Nat) (sz:Nat)
 | cO (sz:Nat)
 | xR (cs:List Cell)
 | fn (f:FuncId) (caps:List Nat)
 | opt (T b:Nat)
 | pU (b n:Nat)
 | Af
 deriving Inhabited
abbrev Ren:=Nat->Option (Nat × Nat)
def Ren.le (ρ σ:Ren):Prop:=∀ b x,ρ b=some x->σ b=some x
theorem Ren.le_refl (ρ:Ren):ρ.le ρ:=fun _ _ h=>h
def GC (I:IH) (ρ:Ren) (v:Value):AC->Prop
 | .c x=>Rd I v x
 | .ptr b off=>∃ k cap,ρ b=some (k,cap)/\v = .pointer (some ⟨k,off,none⟩)
 | .own b n _=>∃ k cap a c,ρ b=some (k,cap)/\v = .slice a n c/\n<=c/\c<=cap/\(cap ≠ 0->a=some ⟨k,0,none⟩)
 | .qR b i sz off=>∃ k cap,ρ b=some (k,cap)/\v = .pointer (some ⟨k,i*sz+off,none⟩)
 | .sub b lo n c sz=>∃ k cap a c',ρ b=some (k,cap)/\v = .slice a n c'/\n<=c'/\lo+c'<=cap/\(∀ c0,c=some c0->c'=c0)/\(c' ≠ 0\/(lo=0/\cap ≠ 0)->a=some ⟨k,lo*sz,none⟩)
 | .cO _=>v = .slice none 0 0
 | .xR cs=>∃ p:Addr,v = .pointer (some p)/\∀ (j:Nat) (c:Cell),cs[j]? = some c->∃ u,I.cell (p.add j)=some u/\Rd I u c
 | .fn f caps=>∃ ks:List Nat,ks.length=caps.length/\(∀ (j b k:Nat),caps[j]? = some b->ks[j]? = some k->∃ cap,ρ b=some (k,cap)) /\
   v = .func (.func f) #[] (ks.map fun k=>Value.pointer (some ⟨k,0,none⟩)).toArray
 | .opt T b=>∃ k,ρ b=some (k,T)/\(v = .pointer none\/v = .pointer (some ⟨k,0,none⟩))
 | .pU b n=>∃ k cap,ρ b=some (k,cap)/\n<=cap/\((cap=0/\v = .slice none 0 0)\/(cap ≠ 0/\v = .slice (some ⟨k,0,none⟩) n cap))
 | .Af=>v.oneCell'=true
theorem GC.mono {I J:IH} (hle:I.le J) {ρ σ:Ren} (hr:ρ.le σ) {v:Value} {x:AC} (h:GC I ρ v x):GC J σ v x:=by
  cases x with
  | c x=>exact Rd.mono hle h
  | ptr b off=>obtain ⟨k,cap,h1,h2⟩:=h; exact ⟨k,cap,hr _ _ h1,h2⟩
  | own b n sz=>obtain ⟨k,cap,a,c,h1,h2⟩:=h; exact ⟨k,cap,a,c,hr _ _ h1,h2⟩
  | qR b i sz off=>obtain ⟨k,cap,h1,h2⟩:=h; exact ⟨k,cap,hr _ _ h1,h2⟩
  | sub b lo n c sz=>obtain ⟨k,cap,a,c',h1,h2⟩:=h; exact ⟨k,cap,a,c',hr _ _ h1,h2⟩
  | cO sz=>exact h
  | xR cs =>
    obtain ⟨p,hv,hc⟩:=h
    exact ⟨p,hv,fun j c hj=>let ⟨u,h1,h2⟩:=hc j c hj; ⟨u,IH.KL hle h1,h2.mono hle⟩⟩
  | fn f caps =>
    obtain ⟨ks,h1,h2,h3⟩:=h
    exact ⟨ks,h1,fun j b k hb hk=>let ⟨cap,hc⟩:=h2 j b k hb hk; ⟨cap,hr _ _ hc⟩,h3⟩
  | opt T b=>obtain ⟨k,h1,h2⟩:=h; exact ⟨k,hr _ _ h1,h2⟩
  | pU b n=>obtain ⟨k,cap,h1,h2⟩:=h; exact ⟨k,cap,hr _ _ h1,h2⟩
  | Af=>exact h
theorem GC.one {I:IH} {ρ:Ren} {v:Value} {x:AC} (h:GC I ρ v x):v.oneCell'=true:=by
 cases x with
 | c x=>exact Rd.one h
 | ptr b off=>obtain ⟨k,cap,h1,rfl⟩:=h; rfl
 | own b n sz=>obtain ⟨k,cap,a,c,h1,rfl,_⟩:=h; rfl
 | qR b i sz off=>obtain ⟨k,cap,h1,rfl⟩:=h; rfl
 | sub b lo n c sz=>obtain ⟨k,cap,a,c',h1,rfl,_⟩:=h; rfl
 | cO sz=>simp only [GC] at h; subst h; rfl
 | xR cs=>obtain ⟨p,rfl,hc⟩:=h; rfl
 | fn f caps=>obtain ⟨ks,h1,h2,rfl⟩:=h; rfl
 | opt T b=>obtain ⟨k,h1,rfl | rfl⟩:=h<;>rfl
 | pU b n=>obtain ⟨k,cap,h1,_,⟨_,rfl⟩ | ⟨_,rfl⟩⟩:=h<;>rfl
 | Af=>exact h
inductive Box where
 | absent
 | dead
 | var (xs:List AC)
 | dat (sz:Nat) (es:List (List Cell))
 | vO (sz:Nat) (es:List (List Cell))
 | row (e:Nat) (l:List UInt8)
 deriving Inhabited
def Box.uses (x:Box) (p:Option (Nat × Nat)) (k:Nat):Prop :=
 match x with
 | .var _=>∃ cap,p=some (k,cap)
 | .dat _ _=>∃ cap,p=some (k,cap)/\cap ≠ 0
 | .row _ _=>∃ cap,p=some (k,cap)/\cap ≠ 0
 | _=>False
def uw (I:IH) (ρ:Ren) (w:World) (b:Nat):Box->Prop
 | .absent=>ρ b=none
 | .dead=>True
 | .var xs=>∃ k cap cs,ρ b=some (k,cap)/\w.heap[k]? = some (.cells cs cap (0,0))/\cs.size=xs.length /\
   ∀ (j:Nat) (u:Value) (x:AC),cs[j]? = some u->xs[j]? = some x->GC I ρ u x
 | .dat sz es=>∃ k cap,ρ b=some (k,cap)/\es.length<=cap/\cap<=maxLen/\(∀ e,e∈es->e.length=sz) /\
   (cap ≠ 0->∃ cs e,w.heap[k]? = some (.cells cs e (0,0))/\cs.size=cap*sz/\(∀ (j:Nat) (u:Value),cs[j]? = some u->u.oneCell'=true) /\
    ∀ (i j:Nat) (c:Cell),(es.getD i [])[j]? = some c->∃ u,cs[i*sz+j]? = some u/\Rd I u c)
 | .vO sz es=>∃ k cap,ρ b=some (k,cap)/\es.length<=cap/\cap<=maxLen/\(∀ e,e∈es->e.length=sz) /\
   (cap ≠ 0->∃ cs,I k=some cs /\
    ∀ (i j:Nat) (c:Cell),(es.getD i [])[j]? = some c->∃ u,cs[i*sz+j]? = some u/\Rd I u c)
 | .row e l=>∃ k cap,ρ b=some (k,cap)/\l.length<=cap/\cap<=maxLen /\
   (cap ≠ 0->∃ cs,w.heap[k]? = some (.cells cs e (0,0))/\cs.size=cap/\(∀ (j:Nat) (u:Value),cs[j]? = some u->u.oneCell'=true) /\
    ∀ (j:Nat) (x:UInt8),l[j]? = some x->cs[j]? = some (.int .u8 x.toNat))
structure BX (I:IH) (ρ:Ren) (w:World) (bx:Nat->Box):Prop where
 ok:∀ b,uw I ρ w b (bx b)
 inj:∀ b b' k,(bx b).uses (ρ b) k->(bx b').uses (ρ b') k->b=b'
 fresh:∀ b k,(bx b).uses (ρ b) k->I k=none
theorem uw.lt {I:IH} {ρ:Ren} {w:World} {b k:Nat} {x:Box} (h:uw I ρ w b x) (hu:x.uses (ρ b) k):k<w.heap.size:=by
  cases x with
  | absent=>exact hu.elim
  | dead=>exact hu.elim
  | var xs =>
    obtain ⟨k',cap,cs,hr,hw,_⟩:=h
    obtain ⟨cap',hu⟩:=hu
    rw [hr] at hu
    simp only [Option.some.injEq,Prod.mk.injEq] at hu
    rw [<- hu.1]
    exact wC hw
  | vO sz es=>exact hu.elim
  | row e l =>
    obtain ⟨k',cap,hr,_,_,h⟩:=h
    obtain ⟨cap',hu,h0⟩:=hu
    rw [hr] at hu
    simp only [Option.some.injEq,Prod.mk.injEq] at hu
    obtain ⟨rfl,rfl⟩:=hu
    obtain ⟨cs,hw,_⟩:=h h0
    exact wC hw
  | dat sz es =>
    obtain ⟨k',cap,hr,_,_,_,h⟩:=h
    obtain ⟨cap',hu,h0⟩:=hu
    rw [hr] at hu
    simp only [Option.some.injEq,Prod.mk.injEq] at hu
    obtain ⟨rfl,rfl⟩:=hu
    obtain ⟨cs,e,hw,_⟩:=h h0
    exact wC hw
inductive AV where
 | one (x:AC)
 | agg (xs:List AC)
 | o8 (xs:List (Bool × List AC))
 deriving Inhabited
def AP (I:IH) (ρ:Ren) (vs:List Value) (xs:List AC):Prop :=
 vs.length=xs.length/\∀ (j:Nat) (v:Value) (x:AC),vs[j]? = some v->xs[j]? = some x->GC I ρ v x
theorem AP.mono {I J:IH} (hle:I.le J) {ρ σ:Ren} (hr:ρ.le σ) {vs:List Value} {xs:List AC} (h:AP I ρ vs xs):AP J σ vs xs :=
 ⟨h.1,fun j v x hv hx=>(h.2 j v x hv hx).mono hle hr⟩
def GP (I:IH) (ρ:Ren) (v:Value) (p:Bool × List AC):Prop :=
 if p.1 then ∃ cs:Array Value,v = .agg cs/\AP I ρ cs.toList p.2 else ∃ x,p.2=[x]/\GC I ρ v x
def GV (I:IH) (ρ:Ren) (v:Value):AV->Prop
 | .one x=>GC I ρ v x
 | .agg xs=>∃ cs:Array Value,v = .agg cs/\AP I ρ cs.toList xs
 | .o8 ps=>∃ vs:Array Value,v = .tuple vs/\vs.size=ps.length/\∀ (j:Nat) (v:Value) (p:Bool × List AC),vs[j]? = some v->ps[j]? = some p->GP I ρ v p
theorem GP.mono {I J:IH} (hle:I.le J) {ρ σ:Ren} (hr:ρ.le σ) {v:Value} {p:Bool × List AC} (h:GP I ρ v p):GP J σ v p:=by
 unfold GP at *
 split<;>rename_i hp
 ·rw [if_pos hp] at h; obtain ⟨cs,e,hc⟩:=h; exact ⟨cs,e,hc.mono hle hr⟩
 ·rw [if_neg hp] at h; obtain ⟨x,e,hc⟩:=h; exact ⟨x,e,hc.mono hle hr⟩
theorem GV.mono {I J:IH} (hle:I.le J) {ρ σ:Ren} (hr:ρ.le σ) {v:Value} {x:AV} (h:GV I ρ v x):GV J σ v x:=by
 cases x with
 | one x=>exact GC.mono hle hr h
 | agg xs=>obtain ⟨cs,e,hc⟩:=h; exact ⟨cs,e,hc.mono hle hr⟩
 | o8 ps=>obtain ⟨vs,e,hl,hc⟩:=h; exact ⟨vs,e,hl,fun j v p hv hp=>(hc j v p hv hp).mono hle hr⟩
inductive Slot where
 | none
 | v (g:Bool) (x:AV)
def Xl (I:IH) (ρ:Ren) (v:Value):Slot->Prop
 | .none=>True
 | .v g x=>(g=true->GV I ρ v x)/\(g=false->v=undef)
theorem Xl.mono {I J:IH} (hle:I.le J) {ρ σ:Ren} (hr:ρ.le σ) {v:Value} {s:Slot} (h:Xl I ρ v s):Xl J σ v s:=by
 cases s with
 | none=>trivial
 | v g x=>exact ⟨fun hg=>(h.1 hg).mono hle hr,h.2⟩
structure dB where
 tm:Nat->Slot
 bx:Nat->Box
theorem dB.ext' {s t:dB} (h1:s.tm=t.tm) (h2:s.bx=t.bx):s=t:=by
 cases s; cases t; simp at h1 h2; rw [h1,h2]
def dB.put (st:dB) (t:Nat) (s:Slot):dB:=⟨fun t'=>if t'=t then s else st.tm t',st.bx⟩
def dB.qc (st:dB) (b:Nat) (x:Box):dB:=⟨st.tm,fun b'=>if b'=b then x else st.bx b'⟩
theorem dB.Ip (st:dB) (t t':Nat) (s:Slot):(st.put t s).tm t'=if t'=t then s else st.tm t':=rfl
theorem dB.Yj (st:dB) (t:Nat) (s:Slot):(st.put t s).bx=st.bx:=rfl
theorem dB.Xf (st:dB) (b:Nat) (x:Box):(st.qc b x).tm=st.tm:=rfl
theorem dB.lU (st:dB) (b b':Nat) (x:Box):(st.qc b x).bx b'=if b'=b then x else st.bx b':=rfl
structure GS (I:IH) (ρ:Ren) (n:Nat) (st:dB) (a:Act) (w:World):Prop where
 agree:Agree I w
 bx:BX I ρ w st.bx
 tm:∀ t,t<n->Xl I ρ (a.tmps.getD t undef) (st.tm t)
 size:a.tmps.size=n
 defers:a.defers=[]
structure Em (w w':World) (M:Nat->Prop):Prop where
 os:w'.os=w.os
 tape:w'.tape=w.tape
 output:w'.output=w.output
 size:w.heap.size<=w'.heap.size
 block:∀ k,k<w.heap.size->¬ M k->w'.heap[k]? = w.heap[k]?
theorem Em.refl (w:World) (M:Nat->Prop):Em w w M:=⟨rfl,rfl,rfl,Nat.le_refl _,fun _ _ _=>rfl⟩
theorem Em.trans {a b c:World} {M N:Nat->Prop} (h:Em a b M) (k:Em b c N) (hN:∀ x,x<a.heap.size->N x->M x):Em a c M :=
 ⟨k.os.trans h.os,k.tape.trans h.tape,k.output.trans h.output,Nat.le_trans h.size k.size,
  fun x hx hm=>(k.block x (Nat.lt_of_lt_of_le hx h.size) (fun hn=>hm (hN x hx hn))).trans (h.block x hx hm)⟩
end Go.Ab
end
section
namespace Go.Ab
open Go
inductive kS where
 | t (s:Nat)
 | k (x:AC)
 deriving Inhabited
def Slot.g:Slot->Bool
 | .none=>false
 | .v g _=>g
def Slot.x:Slot->AV
 | .none => .one .Af
 | .v _ x=>x
def kS.ev (tm:Nat->Slot):kS->Slot
 | .t s=>tm s
 | .k x => .v true (.one x)
def kS.slots:kS->List Nat
 | .t s=>[s]
 | .k _=>[]
inductive dS where
 | mv (x:kS)
 | pick (c a b:kS)
 | load (agg:Bool) (k:Nat) (p:kS)
 | store (agg:Bool) (k:Nat) (p x:kS)
 | alloc (l:Nat) (zs:List AC)
 | Cc (T e l r:Nat)
 | Cb (l sz n:Nat) (zs:List Cell)
 | box (l:Nat) (x:kS)
 | build (zs:List AC) (parts:List (Nat × Nat × kS))
 | dJ (l sz n:Nat) (zs:List Cell) (parts:List (Nat × kS))
 | makes (l sz bytes:Nat) (zs:List Cell) (n m:kS)
 | bin (o:BinOp) (x y:kS)
 | beq (ng:Bool) (x y:kS)
 | not (x:kS)
 | neg (x:kS)
 | wB (k:IntKind) (x:kS)
 | I9 (x:kS)
 | same (x:kS)
 | KP (f:FuncId) (caps:List kS)
 | IB (x:kS) (lo hi:Option kS)
 | uS (sz:Nat) (x:kS) (lo hi:Option kS)
 | IA (sz n:Nat) (x:kS)
 | Ii (x:kS)
 | eH (off:Nat) (x:kS)
 | field (agg:Bool) (off k:Nat) (x:kS)
 | oD (sz:Nat) (x i:kS)
 | Ib (sz n:Nat) (x i:kS)
 | idxs (x i:kS)
 | extract (x:kS) (i:Nat)
 | len (x:kS)
 | lens (x:kS)
 | max (x y:kS)
 | min (x y:kS)
 | append (l sz bytes:Nat) (s x:kS)
 | copy (sz:Nat) (d x:kS)
 | V3 (l:Bool) (x y:kS)
 | MJ (x:kS)
 | jX (sz:Nat) (x:kS) (lo hi:Option kS)
 | sl3 (sz:Nat) (x lo hi mx:kS)
 | F6 (l sz bytes:Nat) (s x:kS)
 | xZ (sz:Nat) (d x:kS)
 | Jg (sz:Nat) (zs:List Cell) (x:kS)
 | Ri (x y:kS)
 | VZ (x y:kS)
 | RG (x y:kS)
 | JO (l sz bytes:Nat) (zs:List Cell) (s x:kS)
 | stop
 deriving Inhabited
def dS.iq:dS->List kS
 | .mv x | .load _ _ x | .box _ x | .not x | .neg x | .wB _ x | .I9 x | .same x | .IA _ _ x | .Ii x | .eH _ x | .field _ _ _ x | .extract x _ | .len x | .lens x | .MJ x | .Jg _ _ x=>[x]
 | .pick c a b=>[c,a,b]
 | .store _ _ p x=>[p,x]
 | .alloc _ _ | .Cc _ _ _ _ | .Cb _ _ _ _ | .stop=>[]
 | .build _ ps=>ps.map (·.2.2)
 | .dJ _ _ _ _ ps=>ps.map (·.2)
 | .makes _ _ _ _ n m=>[n,m]
 | .bin _ x y | .beq _ x y | .oD _ x y | .Ib _ _ x y | .idxs x y | .max x y | .min x y | .append _ _ _ x y | .copy _ x y | .V3 _ x y | .F6 _ _ _ x y | .xZ _ x y | .Ri x y | .RG x y | .VZ x y | .JO _ _ _ _ x y=>[x,y]
 | .sl3 _ x a b c=>[x,a,b,c]
 | .KP _ cs=>cs
 | .IB x lo hi | .uS _ x lo hi | .jX _ x lo hi=>x::(lo.toList++hi.toList)
structure FR where
 vc:Prop
 v:AV
 sets:List (Nat × Box)
abbrev o7 (k:IntKind) (n:Int):AV := .one (.c (.lit (.int k n)))
abbrev oQ (b:Bool):AV := .one (.c (.lit (.bool b)))
abbrev zn (l:List UInt8):AV := .one (.c (.str l))
abbrev Lt (sz:Nat) (es:List (List Cell)):AV := .one (.c (.sl sz es))
def FR.bad:FR:=⟨False,.one .Af,[]⟩
def FR.ok (v:AV):FR:=⟨True,v,[]⟩
def iL (o:BinOp) (k:IntKind) (a b:Int):FR :=
 match o with
 | .add => .ok (o7 k (k.wrap (a+b)))
 | .sub => .ok (o7 k (k.wrap (a-b)))
 | .mul => .ok (o7 k (k.wrap (a*b)))
 | .quo=>⟨b ≠ 0,o7 k (k.wrap (a.tdiv b)),[]⟩
 | .rem=>⟨b ≠ 0,o7 k (a.tmod b),[]⟩
 | .xor => .ok (o7 k (k.wrap (BitVec.ofInt k.bits a ^^^ BitVec.ofInt k.bits b).toNat))
 | .and => .ok (o7 k (k.wrap (BitVec.ofInt k.bits a &&& BitVec.ofInt k.bits b).toNat))
 | .eql => .ok (oQ (a==b))
 | .neq => .ok (oQ (a != b))
 | .lss => .ok (oQ (decide (a<b)))
 | .leq => .ok (oQ (decide (a<=b)))
 | .gtr => .ok (oQ (decide (b<a)))
 | .geq => .ok (oQ (decide (b<=a)))
 | _ => .bad
def iM (o:BinOp) (a b:List UInt8):FR :=
 match o with
 | .add=>⟨a.length+b.length<=maxLen,zn (a++b),[]⟩
 | .eql => .ok (oQ (a==b))
 | .neq => .ok (oQ (!(a==b)))
 | .lss => .ok (oQ (Op.bytesLess a b))
 | .leq => .ok (oQ (Op.bytesLess a b||a==b))
 | .gtr => .ok (oQ (!(Op.bytesLess a b||a==b)))
 | .geq => .ok (oQ (!(Op.bytesLess a b)))
 | _ => .bad
def FO (o:BinOp) (x y:AV):FR :=
 match x,y with
 | .one (.c (.lit (.int k a))),.one (.c (.lit (.int k' b)))=>⟨k=k'/\(iL o k a b).vc,(iL o k a b).v,[]⟩
 | .one (.c (.str a)),.one (.c (.str b))=>iM o a b
 | _,_ => .bad
def Md (neg:Bool) (x y:AV):FR :=
 match x,y with
 | .one (.c (.lit (.bool a))),.one (.c (.lit (.bool b))) => .ok (oQ (if neg then a != b else a==b))
 | _,_ => .bad
def FH (t:Bool) (x y:AV):AV :=
 match x,y with
 | .one (.c (.lit (.bool a))),.one (.c (.lit (.bool b)))=>oQ (bif t then a else b)
 | _,_=>if t then x else y
def Box.arr:Box->Option (Nat × List (List Cell))
 | .dat sz es=>some (sz,es)
 | .vO sz es=>some (sz,es)
 | _=>none
def dataOf (bx:Nat->Box):AC->Option Cell
  | .c x=>some x
  | .cO sz=>some (.sl sz [])
  | .own b n sz=>match (bx b).arr with
    | some (_,es)=>some (.sl sz (es.take n))
    | none=>none
  | _=>none
def zH (bx:Nat->Box):List AC->Option (List Cell)
  | []=>some []
  | x::r=>match dataOf bx x,zH bx r with
    | some c,some cs=>some (c::cs)
    | _,_=>none
def kU:List AC->List Nat
 | []=>[]
 | .own b _ _::r=>b::kU r
 | _::r=>kU r
def xU:Box->Box
 | .dat sz es => .vO sz es
 | x=>x
def qK (bx:Nat->Box):List AC->Prop
  | []=>True
  | .own b n sz::r=>(match (bx b).arr with
    | some (sz',es)=>sz'=sz/\n<=es.length
    | none=>False)/\qK bx r
  | _::r=>qK bx r
def KE (bx:Nat->Box) (l:List Nat):List (Nat × Box):=l.map fun b=>(b,xU (bx b))
def AV.cells:AV->List AC
 | .one x=>[x]
 | .agg xs=>xs
 | .o8 _=>[]
def AV.flat:AV->Prop
 | .o8 _=>False
 | _=>True
def splice {α:Type} (xs:List α) (off:Nat) (ys:List α):List α:=xs.take off++ys++xs.drop (off+ys.length)
def qM (agg:Bool) (k:Nat) (p:AV) (bx:Nat->Box):FR :=
  match p with
  | .one (.ptr b off)=>match bx b with
    | .var xs=>if agg then ⟨off+k<=xs.length,.agg ((xs.drop off).take k),[]⟩ else match xs[off]? with
      | some x => .ok (.one x)
      | none => .bad
    | _ => .bad
  | .one (.qR b i sz off)=>match (bx b).arr with
    | some (sz',es)=>if agg then ⟨sz'=sz/\i<es.length/\off+k<=sz,.agg ((((es.getD i []).drop off).take k).map .c),[]⟩
      else ⟨sz'=sz/\i<es.length/\off<sz,.one (.c ((es.getD i []).getD off default)),[]⟩
    | _ => .bad
  | .one (.xR cs)=>if agg then ⟨k<=cs.length,.agg ((cs.take k).map .c),[]⟩ else ⟨0<cs.length,.one (.c (cs.getD 0 default)),[]⟩
  | _ => .bad
def ig (agg:Bool) (k:Nat) (p x:AV) (bx:Nat->Box):FR :=
  match x,agg with
  | .o8 _,_ => .bad
  | .one _,true => .bad
  | .agg _,false => .bad
  | x,_=>match p with
    | .one (.ptr b off)=>match bx b with
      | .var xs=>⟨x.cells.length=k/\off+k<=xs.length,.one .Af,[(b,.var (splice xs off x.cells))]⟩
      | _ => .bad
    | .one (.qR b i sz off)=>match bx b,zH bx x.cells with
      | .dat sz' es,some cs=>⟨sz'=sz/\cs.length=k/\i<es.length/\off+k<=sz/\qK bx x.cells/\(kU x.cells).contains b=false,.one .Af,KE bx (kU x.cells)++[(b,.dat sz (es.set i (splice (es.getD i []) off cs)))]⟩
      | _,_ => .bad
    | _ => .bad
def Hy {α:Type} (zs:List α):List (Nat × List α)->List α
 | []=>zs
 | (off,xs)::r=>Hy (splice zs off xs) r
def KW (n:Nat):Nat × Nat × AV->Prop
 | (off,sz,x)=>x.cells.length=sz/\off+sz<=n/\x.flat
def qG (ev:kS->AV) (bx:Nat->Box) (n sz:Nat):List (Nat × kS)->Option (List (Nat × List Cell))
  | []=>some []
  | (i,x)::r=>match zH bx (ev x).cells,qG ev bx n sz r with
    | some cs,some l=>some ((i,cs)::l)
    | _,_=>none
def oq (ev:kS->AV):List (Nat × kS)->List Nat
 | []=>[]
 | (_,x)::r=>kU (ev x).cells++oq ev r
def rY (ev:kS->AV) (bx:Nat->Box):List (Nat × kS)->Prop
 | []=>True
 | (_,x)::r=>qK bx (ev x).cells/\rY ev bx r
def DK (es:List (List Cell)):List (Nat × List Cell)->List (List Cell)
 | []=>es
 | (i,cs)::r=>DK (es.set i cs) r
def bytesOf:List (List Cell)->Option (List UInt8)
  | []=>some []
  | [.lit (.int .u8 n)]::r=>match bytesOf r with
    | some l=>some (UInt8.ofNat n.toNat::l)
    | none=>none
  | _=>none
def xQ:List AV->Option (List Nat)
 | []=>some []
 | .one (.ptr b 0)::r=>(xQ r).map (b :: ·)
 | _=>none
def bnd (ev:kS->AV) (o:Option kS) (dflt:Nat):Option Int :=
  match o with
  | none=>some dflt
  | some x=>match ev x with
    | .one (.c (.lit (.int _ n)))=>some n
    | _=>none
def iV (sz:Nat) (x:AV) (bx:Nat->Box):Option (Prop × List (List Cell)) :=
  match x with
  | .one (.c (.sl sz' es))=>some (sz'=sz,es)
  | .one (.cO _)=>some (True,[])
  | .one (.own b n sz')=>match (bx b).arr with
    | some (sJ,es)=>some (sz'=sz/\sJ=sz/\n<=es.length,es.take n)
    | _=>none
  | .one (.sub b lo n _ sz')=>match (bx b).arr with
    | some (sJ,es)=>some (sz'=sz/\sJ=sz/\lo+n<=es.length,(es.drop lo).take n)
    | _=>none
  | _=>none
def uH:AV->Option (Nat × Nat × Nat × Option Nat × Nat)
 | .one (.own b n sz)=>some (b,0,n,none,sz)
 | .one (.sub b lo n c sz)=>some (b,lo,n,c,sz)
 | _=>none
def Lj (l:Bool) (x y:AV):FR :=
 match x,y with
 | .one (.c (.lit (.int k a))),.one (.c (.lit (.int _ b)))=>⟨0<=b,o7 k (if l then k.wrap (a*2^(min b.toNat k.bits)) else a.fdiv (2^(min b.toNat k.bits))),[]⟩
 | _,_ => .bad
def I8 (x:AV):FR :=
 match x with
 | .one (.sub _ _ _ (some c) _) => .ok (o7 .i64 c)
 | .one (.cO _) => .ok (o7 .i64 0)
 | _ => .bad
def lC (sz:Nat) (x:AV) (lo:Option Int) (hi:Nat->Option Int):FR :=
  match uH x with
  | some (b,l,n,c,sz')=>match lo,hi n with
    | some p,some q=>⟨sz'=sz/\0<=p/\p<=q/\q<=(match c with | some c=>c | none=>n:Nat),.one (.sub b (l+p.toNat) (q-p).toNat (c.map (· - p.toNat)) sz),[]⟩
    | _,_ => .bad
  | none => .bad
def rZ (sz:Nat) (x p q m:AV):FR :=
 match uH x,p,q,m with
 | some (_,_,n,c,sz'),.one (.c (.lit (.int _ p))),.one (.c (.lit (.int _ q))),.one (.c (.lit (.int _ m)))=>⟨sz'=sz/\0<=p/\p<=q/\q<=m/\m<=(match c with | some c=>c | none=>n:Nat),.one .Af,[]⟩
 | _,_,_,_ => .bad
def oW (l sz bytes:Nat) (s x:AV) (bx:Nat->Box):FR :=
  match iV sz x bx,s with
  | some (p,ys),.one (.sub b lo n (some c) sz')=>match bx b with
    | .dat sJ es=>if n+ys.length<=c then ⟨p/\sz'=sz/\sJ=sz/\lo+n<=es.length,.one (.sub b lo (n+ys.length) (some c) sz),[(b,.dat sz (splice es (lo+n) ys))]⟩
      else ⟨p/\sz'=sz/\sJ=sz/\lo+n<=es.length/\(match bx l with | .absent=>True | _=>False)/\(n+ys.length)*(bytes+sz+1)<=2^46,.one (.own l (n+ys.length) sz),[(l,.dat sz ((es.drop lo).take n++ys))]⟩
    | _ => .bad
  | _,_ => .bad
def truncS (m:Nat):AV->AV
 | .one (.sub b lo n c sz) => .one (.sub b lo (min n m) c sz)
 | x=>x
def o5 (sz:Nat) (d x:AV) (bx:Nat->Box):FR :=
  match uH d with
  | some (b,lo,n,_,sz')=>match iV sz (truncS n x) bx with
    | some (p,ys)=>match bx b with
      | .dat sJ es=>⟨p/\sz'=sz/\sJ=sz/\lo<=es.length,o7 .i64 (Nat.min ys.length n:Nat),[(b,.dat sz (splice es lo (ys.take n)))]⟩
      | _ => .bad
    | none => .bad
  | none => .bad
def oV (l sz bytes:Nat) (zs:List Cell) (s x:AV) (bx:Nat->Box):FR :=
  match s,x with
  | .one (.sub b lo n (some c) sz'),.one (.c (.lit (.int k q)))=>match bx b with
    | .dat sJ es=>⟨k = .i64/\sz'=sz/\sJ=sz/\lo+n<=es.length/\0<=q/\c<n+q.toNat/\(match bx l with | .absent=>True | _=>False)/\(n+q.toNat)*(bytes+sz+1)<=2^46,
        .one (.own l (n+q.toNat) sz),[(l,.dat sz ((es.drop lo).take n++List.replicate q.toNat zs))]⟩
    | _ => .bad
  | .one (.cO _),.one (.c (.lit (.int k q)))=>⟨k = .i64/\0<q/\(match bx l with | .absent=>True | _=>False)/\q.toNat*(bytes+sz+1)<=2^46,.one (.own l q.toNat sz),[(l,.dat sz (List.replicate q.toNat zs))]⟩
  | _,_ => .bad
def DD (x y:AV):FR :=
 match x,y with
 | .one (.c (.str a)),.one (.c (.str b)) => .ok (o7 .i64 (Go.Lib.compareBytes a b))
 | _,_ => .bad
def DR (x y:AV):FR :=
 match x,y with
 | .one (.c (.str a)),.one (.c (.lit (.int k c)))=>⟨k = .u8,o7 .i64 (Go.Lib.indexByte a c.toNat.toUInt8),[]⟩
 | _,_ => .bad
def KU (x y:AV) (bx:Nat->Box):FR :=
  match uH x,uH y with
  | some (b,_,m,_,_),some (b',_,m',_,_)=>match bx b,bx b' with
    | .dat _ _,.dat sz _=>⟨b ≠ b'/\sz ≠ 0/\0<m/\0<m',oQ false,[]⟩
    | _,_ => .bad
  | _,_ => .bad
def oZ (sz:Nat) (zs:List Cell) (d:AV) (bx:Nat->Box):FR :=
  match uH d with
  | some (b,lo,n,_,sz')=>match bx b with
    | .dat sJ es=>⟨sz'=sz/\sJ=sz/\lo<=es.length,.o8 [],[(b,.dat sz (splice es lo (List.replicate n zs)))]⟩
    | _ => .bad
  | none => .bad
def dS.f (op:dS) (ev:kS->AV) (bx:Nat->Box):FR :=
  match op with
  | .mv x => .ok (ev x)
  | .pick c a b=>match ev c with
    | .one (.c (.lit (.bool t))) => .ok (FH t (ev a) (ev b))
    | _ => .bad
  | .load agg k p=>qM agg k (ev p) bx
  | .store agg k p x=>ig agg k (ev p) (ev x) bx
  | .alloc l zs=>⟨(match bx l with | .absent=>True | _=>False),.one (.ptr l 0),[(l,.var zs)]⟩
  | .Cc T e l r=>⟨(match bx l with | .absent=>True | _=>False)/\(match bx r with | .absent=>True | _=>False)/\l ≠ r,.one (.ptr l 0),[(r,.row e []),(l,.var [.opt T l,.pU r 0])]⟩
  | .Cb l sz n zs=>⟨(match bx l with | .absent=>True | _=>False),.one (.qR l 0 sz 0),[(l,.dat sz (List.replicate n zs))]⟩
  | .box l x=>⟨(match bx l with | .absent=>True | _=>False)/\(ev x).flat,.one (.ptr l 0),[(l,.var (ev x).cells)]⟩
  | .build zs ps=>⟨(∀ p,p∈ps->KW zs.length (p.1,p.2.1,ev p.2.2)),.agg (Hy zs (ps.map fun p=>(p.1,(ev p.2.2).cells))),[]⟩
  | .dJ l sz n zs ps=>match qG ev bx n sz ps with
    | some l'=>⟨(match bx l with | .absent=>True | _=>False)/\(∀ p,p∈l'->p.1<n/\p.2.length=sz)/\rY ev bx ps,.one (.own l n sz),KE bx (oq ev ps)++[(l,.dat sz (DK (List.replicate n zs) l'))]⟩
    | none => .bad
  | .makes l sz bytes zs n m=>match ev n,ev m with
    | .one (.c (.lit (.int _ n))),.one (.c (.lit (.int _ m))) =>
      ⟨(match bx l with | .absent=>True | _=>False)/\0<=n/\n<=m/\bytes*m<=2^47/\m<=2^47,.one (.own l n.toNat sz),[(l,.dat sz (List.replicate n.toNat zs))]⟩
    | _,_ => .bad
  | .bin o x y=>FO o (ev x) (ev y)
  | .beq ng x y=>Md ng (ev x) (ev y)
  | .not x=>match ev x with
    | .one (.c (.lit (.bool b))) => .ok (oQ (!b))
    | _ => .bad
  | .neg x=>match ev x with
    | .one (.c (.lit (.int k n))) => .ok (o7 k (k.wrap (0-n)))
    | _ => .bad
  | .wB k x=>match ev x with
    | .one (.c (.lit (.int _ n))) => .ok (o7 k (k.wrap n))
    | _ => .bad
  | .I9 x=>match iV 1 (ev x) bx with
    | some (p,es)=>match bytesOf es with
      | some l=>⟨p/\l.length<=maxLen,zn l,[]⟩
      | none => .bad
    | none => .bad
  | .same x=>match ev x with
    | .one (.c (.str l)) => .ok (zn l)
    | _ => .bad
  | .KP f cs=>match xQ (cs.map ev) with
    | some l => .ok (.one (.fn f l))
    | none => .bad
  | .IB x lo hi=>match ev x with
    | .one (.c (.str s))=>match bnd ev lo 0,bnd ev hi s.length with
      | some a,some b=>⟨0<=a/\a<=b/\b<=s.length,zn ((s.take b.toNat).drop a.toNat),[]⟩
      | _,_ => .bad
    | _ => .bad
  | .uS sz x lo hi=>match ev x with
    | .one (.c (.sl sz' es))=>match bnd ev lo 0,bnd ev hi es.length with
      | some a,some b=>⟨sz'=sz/\0<=a/\a<=b/\b<=es.length,Lt sz ((es.take b.toNat).drop a.toNat),[]⟩
      | _,_ => .bad
    | .one (.cO sz')=>match bnd ev lo 0,bnd ev hi 0 with
      | some a,some b=>⟨a=0/\b=0,.one (.cO sz'),[]⟩
      | _,_ => .bad
    | .one (.own l n sz')=>match bnd ev lo 0,bnd ev hi n with
      | some a,some b=>⟨a=0/\0<=b/\b<=n,.one (.own l b.toNat sz'),[]⟩
      | _,_ => .bad
    | _ => .bad
  | .IA sz n x=>match ev x with
    | .one (.qR b 0 sz' 0)=>match bx b with
      | .dat sJ es=>⟨sz'=sz/\sJ=sz/\es.length=n/\n ≠ 0,.one (.own b n sz),[]⟩
      | _ => .bad
    | _ => .bad
  | .Ii x=>match ev x with
    | .one (.ptr b o) => .ok (.one (.ptr b o))
    | .one (.qR b i sz o) => .ok (.one (.qR b i sz o))
    | .one (.xR cs) => .ok (.one (.xR cs))
    | .one (.fn f cs) => .ok (.one (.fn f cs))
    | _ => .bad
  | .eH off x=>match ev x with
    | .one (.ptr b o) => .ok (.one (.ptr b (o+off)))
    | .one (.qR b i sz o) => .ok (.one (.qR b i sz (o+off)))
    | .one (.xR cs) => .ok (.one (.xR (cs.drop off)))
    | _ => .bad
  | .field agg off k x=>match ev x with
    | .agg xs=>if agg then ⟨off+k<=xs.length,.agg ((xs.drop off).take k),[]⟩ else match xs[off]? with
      | some x => .ok (.one x)
      | none => .bad
    | _ => .bad
  | .oD sz x i=>match ev x,ev i with
    | .one (.c (.sl sz' es)),.one (.c (.lit (.int _ i)))=>⟨sz'=sz/\0<=i/\i<es.length,.one (.xR (es.getD i.toNat [])),[]⟩
    | .one (.own b n sz'),.one (.c (.lit (.int _ i)))=>⟨sz'=sz/\0<=i/\i<n,.one (.qR b i.toNat sz 0),[]⟩
    | .one (.sub b lo n _ sz'),.one (.c (.lit (.int _ i)))=>⟨sz'=sz/\0<=i/\i<n,.one (.qR b (lo+i.toNat) sz 0),[]⟩
    | _,_ => .bad
  | .Ib sz n x i=>match ev x,ev i with
    | .one (.qR b 0 sz' 0),.one (.c (.lit (.int _ i)))=>⟨sz'=sz/\0<=i/\i<n,.one (.qR b i.toNat sz 0),[]⟩
    | _,_ => .bad
  | .idxs x i=>match ev x,ev i with
    | .one (.c (.str s)),.one (.c (.lit (.int _ i)))=>⟨0<=i/\i<s.length,o7 .u8 (s.getD i.toNat 0).toNat,[]⟩
    | _,_ => .bad
  | .extract x i=>match ev x with
    | .o8 ps=>match ps[i]? with
      | some (true,xs) => .ok (.agg xs)
      | some (false,[x]) => .ok (.one x)
      | _ => .bad
    | _ => .bad
  | .lens x=>match ev x with
    | .one (.c (.str s)) => .ok (o7 .i64 s.length)
    | _ => .bad
  | .len x=>match ev x with
    | .one (.c (.sl _ es)) => .ok (o7 .i64 es.length)
    | .one (.cO _) => .ok (o7 .i64 0)
    | .one (.own _ n _) => .ok (o7 .i64 n)
    | .one (.sub _ _ n _ _) => .ok (o7 .i64 n)
    | _ => .bad
  | .max x y=>match ev x,ev y with
    | .one (.c (.lit (.int k a))),.one (.c (.lit (.int k' b)))=>⟨k=k',o7 k (if b>a then b else a),[]⟩
    | _,_ => .bad
  | .min x y=>match ev x,ev y with
    | .one (.c (.lit (.int k a))),.one (.c (.lit (.int k' b)))=>⟨k=k',o7 k (if b<a then b else a),[]⟩
    | _,_ => .bad
  | .append l sz bytes s x=>match iV sz (ev x) bx with
    | some (p,ys)=>match ev s with
      | .one (.cO _)=>⟨p/\(match bx l with | .absent=>True | _=>False)/\ys.length*(bytes+sz+1)<=2^46,.one (.own l ys.length sz),[(l,.dat sz ys)]⟩
      | .one (.own b n sz')=>match bx b with
        | .dat sJ es=>⟨p/\(match bx l with | .absent=>True | _=>False)/\sz'=sz/\sJ=sz/\n<=es.length/\(n+ys.length)*(bytes+sz+1)<=2^46/\b ≠ l,
            .one (.own l (n+ys.length) sz),[(b,.dead),(l,.dat sz (es.take n++ys))]⟩
        | _ => .bad
      | _ => .bad
    | none => .bad
  | .copy sz d x=>match iV sz (ev x) bx with
    | some (p,ys)=>match ev d with
      | .one (.own b n sz')=>match bx b with
        | .dat sJ es=>⟨p/\sz'=sz/\sJ=sz/\n<=es.length,o7 .i64 (Nat.min ys.length n:Nat),[(b,.dat sz (splice es 0 (ys.take n)))]⟩
        | _ => .bad
      | .one (.cO _) => .ok (o7 .i64 0)
      | _ => .bad
    | none => .bad
  | .V3 l x y=>Lj l (ev x) (ev y)
  | .MJ x=>I8 (ev x)
  | .jX sz x lo hi=>lC sz (ev x) (bnd ev lo 0) (bnd ev hi)
  | .sl3 sz x p q m=>rZ sz (ev x) (ev p) (ev q) (ev m)
  | .F6 l sz bytes s x=>oW l sz bytes (ev s) (ev x) bx
  | .xZ sz d x=>o5 sz (ev d) (ev x) bx
  | .Jg sz zs x=>oZ sz zs (ev x) bx
  | .Ri x y=>DD (ev x) (ev y)
  | .VZ x y=>KU (ev x) (ev y) bx
  | .RG x y=>DR (ev x) (ev y)
  | .stop => .bad
  | .JO l sz bytes zs s x=>oV l sz bytes zs (ev s) (ev x) bx
def lvl:AV->List Nat
 | .one (.ptr b _)=>[b]
 | .one (.own b _ _)=>[b]
 | .one (.qR b _ _ _)=>[b]
 | .one (.sub b _ _ _ _)=>[b]
 | _=>[]
def dS.rd (op:dS) (ev:kS->AV):List Nat :=
 match op with
 | .load _ _ p=>lvl (ev p)
 | .store _ _ p x=>lvl (ev p)++(match ev p with | .one (.qR _ _ _ _)=>kU (ev x).cells | _=>[])
 | .dJ l _ _ _ ps=>l::oq ev ps
 | .alloc l _ | .Cb l _ _ _ | .box l _ | .makes l _ _ _ _ _=>[l]
 | .Cc _ _ l r=>[l,r]
 | .I9 x=>lvl (ev x)
 | .IA _ _ x=>lvl (ev x)
 | .append l _ _ s x=>l::(lvl (ev s)++lvl (ev x))
 | .copy _ d x=>lvl (ev d)++lvl (ev x)
 | .F6 l _ _ s x=>l::(lvl (ev s)++lvl (ev x))
 | .xZ _ d x=>lvl (ev d)++lvl (ev x)
 | .Jg _ _ x=>lvl (ev x)
 | .VZ x y=>lvl (ev x)++lvl (ev y)
 | .JO l _ _ _ s _=>l::lvl (ev s)
 | _=>[]
end Go.Ab
end
section
namespace Go.Ab
open Go
def P6 (I:IH) (ρ:Ren) (vs:List Value) (xs:List AV):Prop :=
 vs.length=xs.length/\∀ (j:Nat) (v:Value) (x:AV),vs[j]? = some v->xs[j]? = some x->GV I ρ v x
def wO (l:List Box):Nat->Box:=fun b=>l.getD b .absent
def Tabs (P:Program) (I:IH):Prop:=∀ g,P.globalNamed "internal/strconv.uint64pow10" = some g->I g=some (Lib.pow10Tab.map fun z=>Value.int .u64 z).toArray
theorem Tabs.mono {P:Program} {I J:IH} (h:Tabs P I) (hle:I.le J):Tabs P J:=fun g hg=>hle _ _ (h g hg)
def fF (P:Program) (f:FuncId) (args:List AV) (fp:List Box) (post:AV->List Box->Prop):Prop :=
  ∀ (I:IH) (ρ:Ren) (w:World) (vs:List Value),Tabs P I->Agree I w->BX I ρ w (wO fp)->P6 I ρ vs args ->
    Calls P f vs.toArray w fun e w'=>∃ (v:Value) (J:IH) (σ:Ren) (r:AV) (bs:List Box),e = .returned v/\post r bs/\GV J σ v r/\Agree J w'/\BX J σ w' (wO bs) /\
      I.le J/\Em w w' (fun k=>∃ b,(wO fp b).uses (ρ b) k) /\
      (∀ b k,(wO bs b).uses (σ b) k->w.heap.size<=k\/∃ b',(wO fp b').uses (ρ b') k) /\
      (∀ k,k<w.heap.size->(¬ ∃ b,(wO fp b).uses (ρ b) k)->J k=I k) /\
      (∀ b,b<fp.length->σ b=ρ b)
def bF (P:Program) (f:FuncId) (args:List AV) (r:AV):Prop:=fF P f args [] fun r' bs=>r'=r/\bs=[]
inductive Cv (bx:Nat->Box):AC->AC->Prop
 | refl (x:AC):Cv bx x x
 | cO (sz:Nat):Cv bx (.cO sz) (.c (.sl sz []))
 | own (b n sz:Nat) (es:List (List Cell)) (h:(bx b).arr=some (sz,es)) (hn:n<=es.length):Cv bx (.own b n sz) (.c (.sl sz (es.take n)))
inductive Xk (bx:Nat->Box):List AC->List AC->Prop
 | nil:Xk bx [] []
 | cons {x y:AC} {xs ys:List AC} (h:Cv bx x y) (t:Xk bx xs ys):Xk bx (x::xs) (y::ys)
inductive Yp (bx:Nat->Box):AV->AV->Prop
 | one {x y:AC} (h:Cv bx x y):Yp bx (.one x) (.one y)
 | agg {xs ys:List AC} (h:Xk bx xs ys):Yp bx (.agg xs) (.agg ys)
inductive BU (bx:Nat->Box):List AV->List AV->Prop
 | nil:BU bx [] []
 | cons {x y:AV} {xs ys:List AV} (h:Yp bx x y) (t:BU bx xs ys):BU bx (x::xs) (y::ys)
def Cell.isLit:Cell->Bool
 | .sl _ _=>false
 | _=>true
def AC.pO:AC->Bool
 | .c _=>true
 | _=>false
def AC.isLit:AC->Bool
 | .c x=>x.isLit
 | _=>false
def AV.all (p:AC->Bool):AV->Bool
 | .one x=>p x
 | .agg xs=>xs.all p
 | .o8 ps=>ps.all fun q=>q.2.all p
def AV.owns:AV->List Nat
 | .one x=>kU [x]
 | .agg xs=>kU xs
 | .o8 ps=>ps.flatMap fun q=>kU q.2
def dB.vO (st:dB) (bs:List Nat):dB:=⟨st.tm,fun b=>if b∈bs then xU (st.bx b) else st.bx b⟩
def dB.mY (st:dB):List (Nat × Box)->dB
 | []=>st
 | (b,x)::r=>(st.qc b x).mY r
def dB.ru (st:dB):Option Nat->Slot->dB
 | none,_=>st
 | some t,s=>st.put t s
def jC (π:Nat->Nat):AC->AC
 | .ptr b off => .ptr (π b) off
 | .own b n sz => .own (π b) n sz
 | .sub b lo n c sz => .sub (π b) lo n c sz
 | .qR b i sz off => .qR (π b) i sz off
 | .fn f cs => .fn f (cs.map π)
 | .opt T b => .opt T (π b)
 | .pU b n => .pU (π b) n
 | x=>x
def uD (π:Nat->Nat):AV->AV
 | .one x => .one (jC π x)
 | .agg xs => .agg (xs.map (jC π))
 | .o8 ps => .o8 (ps.map fun q=>(q.1,q.2.map (jC π)))
def uo (π:Nat->Nat):Box->Box
 | .var xs => .var (xs.map (jC π))
 | x=>x
def AC.oK (m:Nat):AC->Bool
 | .ptr b _=>decide (b<m)
 | .own b _ _=>decide (b<m)
 | .sub b _ _ _ _=>decide (b<m)
 | .qR b _ _ _=>decide (b<m)
 | .fn _ cs=>cs.all fun b=>decide (b<m)
 | .opt _ b=>decide (b<m)
 | .pU b _=>decide (b<m)
 | _=>true
def Box.oK (m:Nat):Box->Bool
 | .var xs=>xs.all (AC.oK m)
 | _=>true
inductive Dp (P:Program) (f:FuncId) (oC:List AV) (p:Bool) (d:Option Nat) (st:dB) (K:List Nat->List Nat->dB->Prop):Prop
 | lit (ds:List AV) (r:AV) (hc:p=true->BU st.bx oC ds) (hd:ds.all (·.all AC.pO)=true) (h:p=true->bF P f ds r) (hr:r.all AC.isLit=true) (k:K (oC.flatMap AV.owns) [] (st.ru d (.v p r)))
 | pure (ds:List AV) (r:AV) (hp:p=true) (hc:BU st.bx oC ds) (hd:ds.all (·.all AC.pO)=true) (h:bF P f ds r) (hr:r.all AC.pO=true) (k:K (oC.flatMap AV.owns) (oC.flatMap AV.owns) ((st.vO (oC.flatMap AV.owns)).ru d (.v true r)))
 | gen (hp:p=true) (ds:List AV) (fp:List Box) (sg nu:List Nat) (post:AV->List Box->Prop)
   (hl:sg.length=fp.length) (hn:(sg++nu).Nodup) (hf:∀ i,i<fp.length->st.bx ((sg++nu).getD i 0)=uo (fun b=>(sg++nu).getD b 0) (fp.getD i .absent))
   (hne:∃ r bs,post r bs) (hv:∀ b,b∈nu->st.bx b = .absent/\10<=b) (hra:(ds.all fun x=>x.all (AC.oK fp.length))=true) (hrf:fp.all (Box.oK fp.length)=true) (ha:oC=ds.map (uD fun b=>(sg++nu).getD b 0)) (h:fF P f ds fp post)
   (k:∀ r bs,post r bs->bs.length=(sg++nu).length /\
    K (sg++nu) (sg++nu) ((st.mY ((sg++nu).zip (bs.map (uo fun b=>(sg++nu).getD b 0)))).ru d (.v true (uD (fun b=>(sg++nu).getD b 0) r))))
 | FT (hp:p=true) (az:List AV) (hc:BU st.bx oC az) (ds:List AV) (fp:List Box) (sg nu:List Nat) (post:AV->List Box->Prop)
   (hl:sg.length=fp.length) (hn:(sg++nu).Nodup) (hf:∀ i,i<fp.length->(st.vO (oC.flatMap AV.owns)).bx ((sg++nu).getD i 0)=uo (fun b=>(sg++nu).getD b 0) (fp.getD i .absent))
   (hne:∃ r bs,post r bs) (hv:∀ b,b∈nu->st.bx b = .absent/\10<=b) (hra:(ds.all fun x=>x.all (AC.oK fp.length))=true) (hrf:fp.all (Box.oK fp.length)=true) (ha:az=ds.map (uD fun b=>(sg++nu).getD b 0)) (h:fF P f ds fp post)
   (k:∀ r bs,post r bs->bs.length=(sg++nu).length /\
    K (oC.flatMap AV.owns++(sg++nu)) (oC.flatMap AV.owns++(sg++nu)) (((st.vO (oC.flatMap AV.owns)).mY ((sg++nu).zip (bs.map (uo fun b=>(sg++nu).getD b 0)))).ru d (.v true (uD (fun b=>(sg++nu).getD b 0) r))))
inductive DU {α:Type} (x:α):Type
 | mk
def oJ (P:Program) (f:FuncId) (oC:List AV) (p:Bool) (d:Option Nat) (st:dB) (K:List Nat->List Nat->dB->Prop) (_:DU K):Prop:=Dp P f oC p d st K
inductive Gw where
 | op (o:dS)
 | call (f:FuncId) (args:List kS)
 | xJ (x:kS) (args:List kS)
 deriving Inhabited
structure jR where
 g:Option (Nat × Bool)
 d:Option Nat
 i:Gw
 deriving Inhabited
def gX (P:Program) (f:FuncId):Bool:=match P.funcs[f]? with
 | some fn => !(fn.name == "runtime.NumGoroutine")&&fn.body.isSome
 | none=>false
def tZ (tm:Nat->Slot):Option (Nat × Bool)->Prop
  | none=>True
  | some (s,_)=>match tm s with
    | .v false _=>True
    | .v true (.one (.c (.lit (.bool _))))=>True
    | _=>False
def nV (tm:Nat->Slot):Option (Nat × Bool)->Bool
  | none=>true
  | some (s,w)=>match tm s with
    | .v true (.one (.c (.lit (.bool b))))=>b==w
    | _=>false
def dS.valid (ev:kS->Slot):dS->Prop
  | .pick c a b=>(ev c).g=true/\(match (ev c).x with
    | .one (.c (.lit (.bool t)))=>(t=true->(ev a).g=true)/\(t=false->(ev b).g=true)
    | _=>False)
  | o=>∀ x,x∈o.iq->(ev x).g=true
def bK (tm:Nat->Slot) (x:kS):AV:=(x.ev tm).x
def Yx (o:dS) (p:Bool) (d:Option Nat) (st:dB) (K:List Nat->List Nat->dB->Prop):Prop :=
 (p=true->o.valid (kS.ev st.tm)/\(o.f (bK st.tm) st.bx).vc /\
  K (o.rd (bK st.tm)) ((o.f (bK st.tm) st.bx).sets.map (·.1)) ((st.mY (o.f (bK st.tm) st.bx).sets).ru d (.v true (o.f (bK st.tm) st.bx).v))) /\
 (p=false->K [] [] (st.ru d (.v false (.one .Af))))
def T (P:Program) (o:jR) (st:dB) (K:List Nat->List Nat->dB->Prop):Prop :=
  tZ st.tm o.g/\match o.i with
    | .op op=>Yx op (nV st.tm o.g) o.d st K
    | .call f args=>(nV st.tm o.g=true->∀ x,x∈args->(x.ev st.tm).g=true)/\oJ P f (args.map (bK st.tm)) (nV st.tm o.g) o.d st K .mk
    | .xJ x args=>(nV st.tm o.g=true->(x.ev st.tm).g=true/\∀ x,x∈args->(x.ev st.tm).g=true)/\match nV st.tm o.g,bK st.tm x with
      | false,_=>oJ P 0 [] false o.d st K .mk
      | true,.one (.fn f caps)=>gX P f=true/\oJ P f (args.map (bK st.tm)++caps.map fun b => .one (.ptr b 0)) true o.d st K .mk
      | true,_=>False
def wpOps (P:Program):List jR->dB->(dB->Prop)->Prop
 | [],st,K=>K st
 | o::r,st,K=>T P o st fun _ _ st'=>wpOps P r st' K
def CB (a b:List Nat):Bool:=a.all fun x => !b.contains x
def ja (zF:List Nat) (rd wr:List Nat):List (Nat × List Nat × List Nat)->Bool
 | []=>true
 | (j,r,w)::l=>(zF.contains j||(CB wr r&&CB wr w&&CB rd w))&&ja zF rd wr l
def V5 (P:Program):List (jR × List Nat)->Nat->List (Nat × List Nat × List Nat)->dB->(dB->Prop)->Prop
 | [],_,_,st,K=>K st
 | (o,zF)::r,i,log,st,K=>T P o st fun rd wr st'=>ja zF rd wr log=true/\V5 P r (i+1) ((i,rd,wr)::log) st' K
def dB.keep (st:dB) (ts:List Nat):dB:=⟨fun t=>if t∈ts then st.tm t else .none,st.bx⟩
end Go.Ab
end
section
namespace Go.Ab
open Go
def dB.of (ts:List (Nat × Slot)) (bs:List (Nat × Box)):dB :=
 ⟨fun t=>match ts.find? (fun p=>p.1==t) with | some p=>p.2 | none => .none,fun b=>match bs.find? (fun p=>p.1==b) with | some p=>p.2 | none => .absent⟩
def sN:List (Nat × Slot)->Nat->Slot
 | [],_ => .none
 | (t',s)::r,t=>if t'=t then s else sN r t
def mP:List (Nat × Box)->Nat->Box
 | [],_ => .absent
 | (t',s)::r,t=>if t'=t then s else mP r t
theorem zI (ts:List (Nat × Slot)) (bs:List (Nat × Box)) (t:Nat):(dB.of ts bs).tm t=sN ts t:=by
  simp only [dB.of]
  induction ts with
  | nil=>rfl
  | cons p r ih =>
    obtain ⟨a,b⟩:=p
    by_cases h:a=t
    · subst h; simp [sN]
    · simp [sN,h,ih]
theorem vZ (ts:List (Nat × Slot)) (bs:List (Nat × Box)) (t:Nat):(dB.of ts bs).bx t=mP bs t:=by
  simp only [dB.of]
  induction bs with
  | nil=>rfl
  | cons p r ih =>
    obtain ⟨a,b⟩:=p
    by_cases h:a=t
    · subst h; simp [mP]
    · simp [mP,h,ih]
theorem Yg (ts:List (Nat × Slot)) (bs:List (Nat × Box)) (t:Nat) (s:Slot):(dB.of ts bs).put t s=dB.of ((t,s)::ts) bs:=by
 apply dB.ext'
 ·funext t'; rw [zI,dB.Ip,zI,sN]; by_cases h:t'=t
  ·simp [h]
  ·rw [if_neg h,if_neg (fun e=>h e.symm)]
 ·funext b; rw [dB.Yj,vZ,vZ]
def setB:List (Nat × Box)->Nat->Box->List (Nat × Box)
 | [],b,x=>[(b,x)]
 | (b',y)::r,b,x=>if b'=b then (b,x)::r else (b',y)::setB r b x
theorem Pn (bs:List (Nat × Box)) (b b':Nat) (x:Box):mP (setB bs b x) b'=if b'=b then x else mP bs b':=by
  induction bs with
  | nil => simp only [setB,mP]; by_cases h:b=b'
           · simp [h]
           · rw [if_neg h,if_neg (fun e=>h e.symm)]
  | cons p r ih =>
    obtain ⟨c,y⟩:=p
    simp only [setB]
    by_cases h:c=b
    · subst h
      simp only [if_true,mP]
      by_cases h':c=b'
      · simp [h']
      · rw [if_neg h',if_neg h',if_neg (fun e=>h' e.symm)]
    · rw [if_neg h]
      simp only [mP,ih]
      by_cases h':c=b'
      · subst h'; simp [h]
      · simp [h']
theorem Xc (ts:List (Nat × Slot)) (bs:List (Nat × Box)) (b:Nat) (x:Box):(dB.of ts bs).qc b x=dB.of ts (setB bs b x):=by
 apply dB.ext'
 ·funext t; rw [dB.Xf,zI,zI]
 ·funext b'; rw [dB.lU,vZ,vZ,Pn]
def Nu (ts:List (Nat × Slot)):List Nat->List (Nat × Slot)
 | []=>[]
 | t::r=>(t,sN ts t)::Nu ts r
theorem Xb (ts:List (Nat × Slot)) (bs:List (Nat × Box)) (l:List Nat):(dB.of ts bs).keep l=dB.of (Nu ts l) bs:=by
  apply dB.ext'
  · funext t
    simp only [dB.keep]
    rw [zI,zI]
    induction l with
    | nil=>rfl
    | cons a r ih =>
      simp only [Nu,sN]
      by_cases h:a=t
      · subst h; simp
      · rw [if_neg h,<- ih]; have h':¬ t=a:=fun e=>h e.symm; simp [h']
  · funext b; simp only [dB.keep]; rw [vZ,vZ]
theorem SE (st:dB) (s:Slot):st.ru none s=st:=rfl
theorem SG (st:dB) (t:Nat) (s:Slot):st.ru (some t) s=st.put t s:=rfl
theorem S9 (st:dB):st.mY []=st:=rfl
theorem PL (st:dB) (b:Nat) (x:Box) (r:List (Nat × Box)):st.mY ((b,x)::r)=(st.qc b x).mY r:=rfl
theorem Zd (tm:Nat->Slot) (s:Nat):(kS.t s).ev tm=tm s:=rfl
theorem Zc (tm:Nat->Slot) (x:AC):(kS.k x).ev tm = .v true (.one x):=rfl
theorem Zh (g:Bool) (x:AV):(Slot.v g x).g=g:=rfl
theorem ZG (g:Bool) (x:AV):(Slot.v g x).x=x:=rfl
end Go.Ab
end
section
namespace Go.Ab
open Go
theorem UD (w:World) (o:Obj) (r:Nat) (h:r<w.heap.size):(w.alloc o).heap[r]? = w.heap[r]? := by
 show (w.heap.push o)[r]? = w.heap[r]?
 rw [Array.getElem?_push,if_neg (Nat.ne_of_lt h)]
theorem uw.keep {I J:IH} {ρ σ:Ren} {w w':World} {b:Nat} {x:Box} (h:uw I ρ w b x) (hI:I.le J) (hρ:ρ.le σ) (hb:σ b=ρ b)
    (hk:∀ k,x.uses (ρ b) k->w'.heap[k]? = w.heap[k]?):uw J σ w' b x:=by
  cases x with
  | absent=>exact hb.trans h
  | dead=>trivial
  | var xs =>
    obtain ⟨k,cap,cs,hr,hw,hs,hc⟩:=h
    exact ⟨k,cap,cs,hb.trans hr,(hk k ⟨cap,hr⟩).trans hw,hs,fun j u x hu hx=>(hc j u x hu hx).mono hI hρ⟩
  | dat sz es =>
    obtain ⟨k,cap,hr,hl,hm,hsz,hc⟩:=h
    refine ⟨k,cap,hb.trans hr,hl,hm,hsz,fun h0 => ?_⟩
    obtain ⟨cs,e,hw,hs,h1,hc⟩:=hc h0
    exact ⟨cs,e,(hk k ⟨cap,hr,h0⟩).trans hw,hs,h1,fun i j c hj=>let ⟨u,hu,hr⟩:=hc i j c hj; ⟨u,hu,hr.mono hI⟩⟩
  | vO sz es =>
    obtain ⟨k,cap,hr,hl,hm,hsz,hc⟩:=h
    refine ⟨k,cap,hb.trans hr,hl,hm,hsz,fun h0 => ?_⟩
    obtain ⟨cs,hw,hc⟩:=hc h0
    exact ⟨cs,hI _ _ hw,fun i j c hj=>let ⟨u,hu,hr⟩:=hc i j c hj; ⟨u,hu,hr.mono hI⟩⟩
  | row e l =>
    obtain ⟨k,cap,hr,hl,hm,hc⟩:=h
    refine ⟨k,cap,hb.trans hr,hl,hm,fun h0 => ?_⟩
    obtain ⟨cs,hw,hc⟩:=hc h0
    exact ⟨cs,(hk k ⟨cap,hr,h0⟩).trans hw,hc⟩
theorem BX.step {I J:IH} {ρ σ:Ren} {w w':World} {bx bx':Nat->Box} (D:Nat->Prop) (h:BX I ρ w bx) (hI:I.le J) (hρ:ρ.le σ)
  (hsame:∀ b,¬ D b->bx' b=bx b/\σ b=ρ b) (hkeep:∀ b k,¬ D b->(bx b).uses (ρ b) k->w'.heap[k]? = w.heap[k]?)
  (hok:∀ b,D b->uw J σ w' b (bx' b)) (zO:∀ b k,D b->(bx' b).uses (σ b) k->(∀ b',¬ D b'->¬ (bx b').uses (ρ b') k)/\J k=none)
  (hinj:∀ b b' k,D b->D b'->(bx' b).uses (σ b) k->(bx' b').uses (σ b') k->b=b')
  (hJ:∀ b k,¬ D b->(bx b).uses (ρ b) k->J k=none):BX J σ w' bx':=by
 refine ⟨fun b => ?_,fun b b' k hb hb' => ?_,fun b k hb => ?_⟩
 ·by_cases hD:D b
  ·exact hok b hD
  ·obtain ⟨e1,e2⟩:=hsame b hD
   rw [e1]
   exact (h.ok b).keep hI hρ e2 fun k hk=>hkeep b k hD hk
 ·by_cases hD:D b
  ·by_cases hD':D b'
   ·exact hinj b b' k hD hD' hb hb'
   ·obtain ⟨e1,e2⟩:=hsame b' hD'
    rw [e1,e2] at hb'
    exact absurd hb' ((zO b k hD hb).1 b' hD')
  ·obtain ⟨e1,e2⟩:=hsame b hD
   rw [e1,e2] at hb
   by_cases hD':D b'
   ·exact absurd hb ((zO b' k hD' hb').1 b hD)
   ·obtain ⟨e1',e2'⟩:=hsame b' hD'
    rw [e1',e2'] at hb'
    exact h.inj b b' k hb hb'
 ·by_cases hD:D b
  ·exact (zO b k hD hb).2
  ·obtain ⟨e1,e2⟩:=hsame b hD
   rw [e1,e2] at hb
   exact hJ b k hD hb
theorem Agree.alloc {I:IH} {w:World} (h:Agree I w) (o:Obj):Agree I (w.alloc o):=fun b c hc=>by
 obtain ⟨e,fr,hw⟩:=h b c hc
 exact ⟨e,fr,(UD w o b (wC hw)).trans hw⟩
theorem Agree.other {I:IH} {w w':World} (h:Agree I w) (hk:∀ k c,I k=some c->w'.heap[k]? = w.heap[k]?):Agree I w':=fun b c hc=>by
 obtain ⟨e,fr,hw⟩:=h b c hc
 exact ⟨e,fr,(hk b c hc).trans hw⟩
theorem Agree.NC {I:IH} {w:World} (h:Agree I w) {k:Nat} (hk:w.heap.size<=k):I k=none:=by
 cases hc:I k with
 | none=>rfl
 | some c=>have:=h.lt hc; omega
def Ren.set (ρ:Ren) (l k cap:Nat):Ren:=fun b=>if b=l then some (k,cap) else ρ b
theorem Ren.CS {ρ:Ren} {l k cap:Nat} (h:ρ l=none):ρ.le (ρ.set l k cap):=fun b x hb=>by
 unfold Ren.set
 rw [if_neg (fun e=>by subst e; rw [h] at hb; cases hb)]
 exact hb
theorem Ren.kE (ρ:Ren) (l k cap:Nat):(ρ.set l k cap) l=some (k,cap):=by simp [Ren.set]
theorem Ren.oO {ρ:Ren} {l k cap b:Nat} (h:b ≠ l):(ρ.set l k cap) b=ρ b:=by simp [Ren.set,h]
theorem BX.new {I:IH} {ρ:Ren} {w:World} {bx:Nat->Box} (h:BX I ρ w bx) (hA:Agree I w) {l:Nat} (hl:bx l = .absent) (cs:Array Value) (e:TypeId) (cap:Nat) (x:Box)
  (hx:uw I (ρ.set l w.heap.size cap) (w.alloc (.cells cs e)) l x) :
  BX I (ρ.set l w.heap.size cap) (w.alloc (.cells cs e)) (fun b=>if b=l then x else bx b):=by
 have hrl:ρ l=none:=by have:=h.ok l; rwa [hl] at this
 refine BX.step (fun b=>b=l) h (IH.le_refl I) (Ren.CS hrl) ?_ ?_ ?_ ?_ ?_ ?_
 ·intro b hb
  exact ⟨by simp [hb],Ren.oO hb⟩
 ·intro b k hb hk
  exact UD _ _ _ ((h.ok b).lt hk)
 ·rintro b rfl
  simpa using hx
 ·rintro b k rfl hk
  have hk':k=w.heap.size:=by
   simp only [if_true,Ren.kE] at hk
   cases x with
   | absent=>exact hk.elim
   | dead=>exact hk.elim
   | vO sz es=>exact hk.elim
   | var xs=>obtain ⟨c,hc⟩:=hk; simp at hc; exact hc.1.symm
   | dat sz es=>obtain ⟨c,hc,_⟩:=hk; simp at hc; exact hc.1.symm
   | row e l=>obtain ⟨c,hc,_⟩:=hk; simp at hc; exact hc.1.symm
  subst hk'
  exact ⟨fun b' hb' hu=>by have:=(h.ok b').lt hu; omega,hA.NC (Nat.le_refl _)⟩
 ·rintro b b' k rfl rfl _ _; rfl
 ·intro b k hb hk; exact h.fresh b k hk
theorem BX.set {I:IH} {ρ:Ren} {w w':World} {bx:Nat->Box} (h:BX I ρ w bx) {b k:Nat} (hu:(bx b).uses (ρ b) k) (x:Box) (Y5:∀ k',x.uses (ρ b) k'->k'=k)
  (hk:∀ k',k' ≠ k->w'.heap[k']? = w.heap[k']?) (hx:uw I ρ w' b x):BX I ρ w' (fun c=>if c=b then x else bx c):=by
 refine BX.step (fun c=>c=b) h (IH.le_refl I) (Ren.le_refl ρ) ?_ ?_ ?_ ?_ ?_ ?_
 ·intro c hc; exact ⟨by simp [hc],rfl⟩
 ·intro c k' hc hu'
  refine hk k' fun e=>hc ?_
  subst e
  exact h.inj c b k' hu' hu
 ·rintro c rfl; simpa using hx
 ·rintro c k' rfl hk'
  simp only [if_true] at hk'
  have:=Y5 k' hk'
  subst this
  exact ⟨fun b' hb' hu'=>hb' (h.inj b' c k' hu' hu),h.fresh c k' hu⟩
 ·rintro c c' k' rfl rfl _ _; rfl
 ·intro c k' hc hu'; exact h.fresh c k' hu'
structure Env (P:Program) where
 w0:World
 I0:IH
 M:Nat->Prop
 ρ0:Ren
 m:Nat
 tab:Tabs P I0
structure GX {P:Program} (E:Env P) (I:IH) (ρ:Ren) (n:Nat) (st:dB) (a:Act) (w:World):Prop extends GS I ρ n st a w where
 yT:Em E.w0 w E.M
 own:∀ b k,(st.bx b).uses (ρ b) k->E.w0.heap.size<=k\/E.M k
 Gp:E.I0.le I
 xy:∀ k,k<E.w0.heap.size->¬ E.M k->I k=E.I0 k
 pW:∀ b,b<E.m->ρ b=E.ρ0 b
theorem GX.tabs {P:Program} {E:Env P} {I:IH} {ρ:Ren} {n:Nat} {st:dB} {a:Act} {w:World} (h:GX E I ρ n st a w):Tabs P I:=E.tab.mono h.Gp
theorem GX.put {P:Program} {E:Env P} {I:IH} {ρ:Ren} {n:Nat} {st:dB} {a:Act} {w:World} (h:GX E I ρ n st a w) {d:Nat} (hd:d<n) {v:Value} {s:Slot} (hv:Xl I ρ v s) :
  GX E I ρ n (st.put d s) (a.put (some d) v) w:=by
 refine { h with tm:=fun t ht => ?_,size:=by simp [Act.put,h.size],defers:=h.defers,agree:=h.agree,bx:=h.bx }
 have hdt:d<a.tmps.size:=by rw [h.size]; exact hd
 simp only [Act.put,dB.Ip]
 by_cases e:t=d
 ·subst e
  simpa [Array.getD,hdt] using hv
 ·have:=h.tm t ht
  rw [if_neg e]
  have e':d ≠ t:=fun x=>e x.symm
  simpa [Array.getD_eq_getD_getElem?,Array.getElem?_setIfInBounds,e'] using this
theorem GX.ru {P:Program} {E:Env P} {I:IH} {ρ:Ren} {n:Nat} {st:dB} {a:Act} {w:World} (h:GX E I ρ n st a w) {d:Option Nat} (hd:∀ x,d=some x->x<n) {v:Value} {s:Slot} (hv:Xl I ρ v s) :
  GX E I ρ n (st.ru d s) (a.put d v) w:=by
 cases d with
 | none=>exact h
 | some d=>exact h.put (hd d rfl) hv
theorem GX.drew {P:Program} {E:Env P} {I:IH} {ρ:Ren} {n:Nat} {st:dB} {a:Act} {w:World} (h:GX E I ρ n st a w):GX E I ρ n st a w.drew :=
 { agree:=h.agree,bx:=⟨h.bx.ok,h.bx.inj,h.bx.fresh⟩,tm:=h.tm,size:=h.size,defers:=h.defers,yT:=⟨h.yT.os,h.yT.tape,h.yT.output,h.yT.size,h.yT.block⟩,own:=h.own,Gp:=h.Gp,xy:=h.xy,pW:=h.pW }
theorem GX.lit {P:Program} {E:Env P} {I:IH} {ρ:Ren} {n:Nat} {st:dB} {a:Act} {w:World} (h:GX E I ρ n st a w):BX I ρ w st.bx:=h.bx
theorem GX.new {P:Program} {E:Env P} {I:IH} {ρ:Ren} {n:Nat} {st:dB} {a:Act} {w:World} (h:GX E I ρ n st a w) {l:Nat} (hl:st.bx l = .absent) (hm:E.m<=l) (cs:Array Value) (e:TypeId) (cap:Nat) (x:Box)
  (hx:uw I (ρ.set l w.heap.size cap) (w.alloc (.cells cs e)) l x):GX E I (ρ.set l w.heap.size cap) n (st.qc l x) a (w.alloc (.cells cs e)):=by
 have hrl:ρ l=none:=by have:=h.bx.ok l; rwa [hl] at this
 have hle:=Ren.CS (ρ:=ρ) (k:=w.heap.size) (cap:=cap) hrl
 refine { agree:=h.agree.alloc _,bx:=BX.new h.bx h.agree hl cs e cap x hx,tm:=fun t ht=>(h.tm t ht).mono (IH.le_refl _) hle,size:=h.size,defers:=h.defers,yT := ?_,own := ?_,Gp:=h.Gp,xy:=h.xy,pW := ?_ }
 ·exact h.yT.trans (N:=fun _=>False) ⟨rfl,rfl,rfl,by simp,fun k hk _=>UD _ _ _ hk⟩ (fun _ _ hf=>hf.elim)
 ·intro b k hu
  simp only [dB.lU] at hu
  by_cases e:b=l
  ·subst e
   left
   have hs:=h.yT.size
   have hk':k=w.heap.size:=by
    simp only [if_true,Ren.kE] at hu
    cases x with
    | absent=>exact hu.elim
    | dead=>exact hu.elim
    | vO sz es=>exact hu.elim
    | var xs=>obtain ⟨c,hc⟩:=hu; simp at hc; exact hc.1.symm
    | dat sz es=>obtain ⟨c,hc,_⟩:=hu; simp at hc; exact hc.1.symm
    | row e l=>obtain ⟨c,hc,_⟩:=hu; simp at hc; exact hc.1.symm
   omega
  ·rw [if_neg e,Ren.oO e] at hu
   exact h.own b k hu
 ·intro b hb
  rw [Ren.oO (by omega)]
  exact h.pW b hb
theorem GX.qc {P:Program} {E:Env P} {I:IH} {ρ:Ren} {n:Nat} {st:dB} {a:Act} {w w':World} (h:GX E I ρ n st a w) {b k:Nat} (hu:(st.bx b).uses (ρ b) k) (x:Box) (Y5:∀ k',x.uses (ρ b) k'->k'=k)
  (hF:Em w w' (fun k'=>k'=k)) (hx:uw I ρ w' b x) (hsz:w'.heap.size=w.heap.size):GX E I ρ n (st.qc b x) a w':=by
 have hk:∀ k',k' ≠ k->w'.heap[k']? = w.heap[k']? := fun k' hne=>by
  by_cases hlt:k'<w.heap.size
  ·exact hF.block k' hlt hne
  ·rw [Array.getElem?_eq_none (by omega),Array.getElem?_eq_none (by omega)]
 refine { agree:=h.agree.other fun k' c hc=>hk k' fun e => ?_,bx:=BX.set h.bx hu x Y5 hk hx,tm:=h.tm,size:=h.size,defers:=h.defers,yT := ?_,own := ?_,Gp:=h.Gp,xy:=h.xy,pW:=h.pW }
 ·subst e; have:=h.bx.fresh b k' hu; rw [this] at hc; cases hc
 ·refine h.yT.trans hF fun k' hlt e => ?_
  subst e
  rcases h.own b k' hu with h1 | h1
  ·omega
  ·exact h1
 ·intro c k' hc
  simp only [dB.lU] at hc
  by_cases e:c=b
  ·subst e
   simp only [if_true] at hc
   have:=Y5 k' hc
   subst this
   exact h.own c k' hu
  ·rw [if_neg e] at hc; exact h.own c k' hc
end Go.Ab
end
section
namespace Go.Ab
open Go
def Wx:Value->AC->Bool
 | .int k n,.c (.lit (.int k' n'))=>k==k'&&n==n'
 | .bool b,.c (.lit (.bool b'))=>b==b'
 | .string s,.c (.str l)=>s.data.toList==l&&decide (l.length<=1000000)
 | .slice none 0 0,.cO _=>true
 | .pointer none,.c (.lit (.pointer none))=>true
 | .nilFunc,.c (.lit .nilFunc)=>true
 | .nilIface,.c (.lit .nilIface)=>true
 | _,_=>false
theorem Qe {I:IH} {ρ:Ren} {v:Value} {x:AC} (h:Wx v x=true):GC I ρ v x:=by
 unfold Wx at h
 split at h
 ·simp only [Bool.and_eq_true,beq_iff_eq] at h; obtain ⟨rfl,rfl⟩:=h; exact Rd.lit _ rfl
 ·simp only [beq_iff_eq] at h; subst h; exact Rd.lit _ rfl
 ·rename_i s l
  simp only [Bool.and_eq_true,beq_iff_eq,decide_eq_true_eq] at h
  obtain ⟨rfl,hl⟩:=h
  have:s=⟨⟨s.data.toList⟩⟩:=by cases s; rfl
  exact this ▸ Rd.str _ (by simp only [maxLen]; omega)
 ·rfl
 ·exact Rd.lit _ rfl
 ·exact Rd.lit _ rfl
 ·exact Rd.lit _ rfl
 ·cases h
def iW (n:Nat):Operand->kS->Bool
 | .tmp t,.t s=>t==s&&decide (t<n)
 | .const v,.k x=>Wx v x
 | .func f,.k (.fn g [])=>f==g
 | .global g,.k (.c (.lit (.pointer (some a))))=>a.block==g&&a.off==0&&a.spot.isNone
 | _,_=>false
section
variable {P:Program} {E:Env P} {I:IH} {ρ:Ren} {n:Nat} {st:dB} {a:Act} {w:World}
theorem Yh (h:GX E I ρ n st a w) {x:Operand} {y:kS} (hc:iW n x y=true):Xl I ρ (a.eval x) (y.ev st.tm):=by
 unfold iW at hc
 split at hc
 ·simp only [Bool.and_eq_true,beq_iff_eq,decide_eq_true_eq] at hc
  obtain ⟨rfl,hlt⟩:=hc
  exact h.tm _ hlt
 ·exact ⟨fun _=>Qe hc,fun e=>by cases e⟩
 ·simp only [beq_iff_eq] at hc
  subst hc
  exact ⟨fun _=>⟨[],rfl,by simp,rfl⟩,fun e=>by cases e⟩
 ·rename_i g ad
  simp only [Bool.and_eq_true,beq_iff_eq] at hc
  obtain ⟨⟨h1,h2⟩,h3⟩:=hc
  refine ⟨fun _ => ?_,fun e=>by cases e⟩
  have:ad=⟨g,0,none⟩:=by cases ad; simp at *; exact ⟨h1,h2,h3⟩
  subst this
  exact Rd.lit _ rfl
 ·cases hc
theorem kD (h:GX E I ρ n st a w) {x:Operand} {y:kS} (hc:iW n x y=true) (hv:(y.ev st.tm).g=true):GV I ρ (a.eval x) (bK st.tm y):=by
 have:=Yh h hc
 unfold bK
 cases hs:y.ev st.tm with
 | none=>rw [hs] at hv; cases hv
 | v g x=>rw [hs] at hv this; exact this.1 hv
def kY (P:Program) (E:Env P) (n:Nat) (o:Oper) (a:Act) (w:World) (st:dB) (rv:AV):Prop :=
 ∃ v w' I' ρ',((execOp a.eval o).run P w = .ok (.value v) w'\/(execOp a.eval o).run P w = .ok .skip w'/\o.dst=none)/\GX E I' ρ' n st a w'/\(o.dst ≠ none->GV I' ρ' v rv)
theorem kY.val {o:Oper} {v:Value} {rv:AV} (h:GX E I ρ n st a w) (hr:(execOp a.eval o).run P w = .ok (.value v) w) (hv:GV I ρ v rv):kY P E n o a w st rv :=
 ⟨v,w,I,ρ,.inl hr,h,fun _=>hv⟩
def UG:TypeDesc->Bool
 | .struct _ | .array _ _=>true
 | _=>false
def IM (P:Program) (t:TypeId) (agg:Bool) (k:Nat):Bool :=
 match P.underlying t,P.info? t with
 | some d,some i=>UG d==agg&&i.size==k
 | _,_=>false
theorem BG {t:TypeId} {agg:Bool} {k:Nat} (h:IM P t agg k=true) (w:World):(isAgg t).run P w = .ok agg w/\(sizeOf t).run P w = .ok k w:=by
 unfold IM at h
 split at h
 ·rename_i d i hd hi
  simp only [Bool.and_eq_true,beq_iff_eq] at h
  obtain ⟨rfl,rfl⟩:=h
  refine ⟨?_,by simp [sizeOf,typeInfo,hi]⟩
  cases d<;>simp [isAgg,run_underlying hd,UG]
 ·cases h
def Ff (P:Program) (t:TypeId) (k:Nat):Bool:=match P.info? t with | some i=>i.size==k | none=>false
theorem Ar {t:TypeId} {k:Nat} (h:Ff P t k=true):∃ i,P.info? t=some i/\i.size=k:=by
 unfold Ff at h; split at h
 ·rename_i i hi; exact ⟨i,hi,by simpa using h⟩
 ·cases h
def Ud (n:Nat) (op:Op) (y:kS):Bool:=match op with | .move x | .assign x=>iW n x y | _=>false
theorem Xa {o:Oper} {y:kS} (h:GX E I ρ n st a w) (hc:Ud n o.op y=true) (hv:(y.ev st.tm).g=true):kY P E n o a w st (bK st.tm y):=by
 unfold Ud at hc
 split at hc
 ·rename_i x hx
  exact kY.val h (v:=a.eval x) (by simp [execOp,hx]) (kD h hc hv)
 ·rename_i x hx
  exact kY.val h (v:=a.eval x) (by simp [execOp,hx]) (kD h hc hv)
 ·cases hc
def Kq (n:Nat) (op:Op) (c x y:kS):Bool:=match op with | .pick c' x' y'=>iW n c' c&&iW n x' x&&iW n y' y | _=>false
theorem Bi {v:Value} {b:Bool} (h:GV I ρ v (oQ b)):v = .bool b:=by
 cases h with | lit v hv=>rfl
theorem pM {v:Value} {k:IntKind} {m:Int} (h:GV I ρ v (o7 k m)):v = .int k m:=by
 cases h with | lit v hv=>rfl
theorem xW {v:Value} {l:List UInt8} (h:GV I ρ v (zn l)):v = .string ⟨⟨l⟩⟩/\l.length<=maxLen:=by
 cases h with | str l hl=>exact ⟨rfl,hl⟩
theorem Bl (b:Bool):GV I ρ (.bool b) (oQ b):=Rd.lit _ rfl
theorem rP (k:IntKind) (m:Int):GV I ρ (.int k m) (o7 k m):=Rd.lit _ rfl
theorem KO {l:List UInt8} (h:l.length<=maxLen):GV I ρ (.string ⟨⟨l⟩⟩) (zn l):=Rd.str l h
theorem PD (x y:AV) {v:Value} (h:GV I ρ v x):GV I ρ v (FH true x y):=by
 unfold FH; split
 ·exact h
 ·exact h
theorem NH (x y:AV) {v:Value} (h:GV I ρ v y):GV I ρ v (FH false x y):=by
 unfold FH; split
 ·exact h
 ·simpa using h
theorem SC {o:Oper} {c x y:kS} {t:Bool} (h:GX E I ρ n st a w) (hc:Kq n o.op c x y=true) (hg:(c.ev st.tm).g=true) (ht:bK st.tm c=oQ t)
  (hx:t=true->(x.ev st.tm).g=true) (hy:t=false->(y.ev st.tm).g=true):kY P E n o a w st (FH t (bK st.tm x) (bK st.tm y)):=by
 unfold Kq at hc
 split at hc
 ·rename_i c' x' y' he
  simp only [Bool.and_eq_true] at hc
  have h1:=kD h hc.1.1 hg
  rw [ht] at h1
  have h1:=Bi h1
  cases t with
  | true=>exact kY.val h (v:=a.eval x') (by simp [execOp,he,h1,asBool]) (PD _ _ (kD h hc.1.2 (hx rfl)))
  | false=>exact kY.val h (v:=a.eval y') (by simp [execOp,he,h1,asBool]) (NH _ _ (kD h hc.2 (hy rfl)))
 ·cases hc
theorem toList_eq (l:List UInt8):(⟨⟨l⟩⟩:ByteArray).toList=l:=by rw [ByteArray.toList_eq]
theorem size_mk (l:List UInt8):(⟨⟨l⟩⟩:ByteArray).size=l.length:=rfl
theorem Xe {b:BinOp} {t:TypeId} {x y:Value} {u v:AV} (w:World) (hx:GV I ρ x u) (hy:GV I ρ y v) (iC:(FO b u v).vc) :
  ∃ r,(binOp b t x y).run P w = .ok r w/\GV I ρ r (FO b u v).v:=by
 unfold FO at *
 split at iC
 ·rename_i k m k' m'
  obtain ⟨rfl,iC⟩:=iC
  have h1:=pM hx
  have h2:=pM hy
  subst h1; subst h2
  cases b<;>simp only [iL,FR.bad,FR.ok] at iC ⊢ <;>
   first
   | exact iC.elim
   | (refine ⟨_,?_,rP _ _⟩; simp [binOp,Op.intArith,Op.intDiv,Op.intBits,iC])
   | (refine ⟨_,?_,Bl _⟩; simp [binOp,Op.intCmp])
 ·rename_i l l'
  obtain ⟨h1,hl⟩:=xW hx
  obtain ⟨h2,hl'⟩:=xW hy
  subst h1; subst h2
  cases b<;>simp only [iM,FR.bad,FR.ok] at iC ⊢ <;>
   first
   | exact iC.elim
   | (refine ⟨_,?_,Bl _⟩; simp only [binOp,Op.stringOp,toList_eq]; rfl)
   | skip
  refine ⟨.string ⟨⟨l++l'⟩⟩,?_,KO (by simpa using iC)⟩
  have h63:¬ ((l.length+l'.length:Nat):Int)>IntKind.i64.max:=by
   simp only [maxLen] at iC
   have e:IntKind.i64.max=9223372036854775807:=by decide
   rw [e]
   omega
  have happ:(⟨⟨l⟩⟩:ByteArray)++⟨⟨l'⟩⟩=⟨⟨l++l'⟩⟩:=by
   apply ByteArray.ext
   simp
  simp only [binOp,Op.stringOp,size_mk]
  rw [if_neg h63,happ]
  rfl
 ·exact iC.elim
def OM (n:Nat) (op:Op) (b:BinOp) (x y:kS):Bool:=match op with | .binOp b' _ x' y' _=>b'==b&&iW n x' x&&iW n y' y | _=>false
theorem zK (b:BinOp) (t:TypeId) (x y:Operand) (k:IntKind) (m:Int) (v:Value) (w:World):(eqGuard b t x y (.int k m) v).run P w = .ok () w:=by
 cases b<;>rfl
theorem F5 (b:BinOp) (t:TypeId) (x y:Operand) (s:ByteArray) (v:Value) (w:World):(eqGuard b t x y (.string s) v).run P w = .ok () w:=by
 cases b<;>rfl
theorem yE (b:BinOp) (t:TypeId) (x y:Operand) (s:Bool) (v:Value) (w:World):(eqGuard b t x y (.bool s) v).run P w = .ok () w:=by
 cases b<;>rfl
theorem TW {o:Oper} {b:BinOp} {x y:kS} (h:GX E I ρ n st a w) (hc:OM n o.op b x y=true) (hx:(x.ev st.tm).g=true) (hy:(y.ev st.tm).g=true)
  (iC:(FO b (bK st.tm x) (bK st.tm y)).vc):kY P E n o a w st (FO b (bK st.tm x) (bK st.tm y)).v:=by
 unfold OM at hc
 split at hc
 ·rename_i b' t x' y' t' he
  simp only [Bool.and_eq_true,beq_iff_eq] at hc
  obtain ⟨⟨rfl,h1⟩,h2⟩:=hc
  have g1:=kD h h1 hx
  have g2:=kD h h2 hy
  obtain ⟨r,hr,hg⟩:=Xe (P:=P) (t:=t) w g1 g2 iC
  refine kY.val h ?_ hg
  have hq:(eqGuard b' t x' y' (a.eval x') (a.eval y')).run P w = .ok () w:=by
   unfold FO at iC
   split at iC
   ·rename_i e1 e2; rw [e1] at g1; rw [pM g1]; exact zK _ _ _ _ _ _ _ _
   ·rename_i e1 e2; rw [e1] at g1; rw [(xW g1).1]; exact F5 _ _ _ _ _ _ _
   ·exact iC.elim
  simp [execOp,he,hq,hr]
 ·cases hc
def OL (P:Program) (n:Nat) (op:Op) (ng:Bool) (x y:kS):Bool :=
 match op with
 | .binOp b t x' y' _=>(match b with | .eql => !ng | .neq=>ng | _=>false)&&(match P.underlying t with | some .bool=>true | _=>false)&&iW n x' x&&iW n y' y
 | _=>false
theorem TV {o:Oper} {ng:Bool} {x y:kS} (h:GX E I ρ n st a w) (hc:OL P n o.op ng x y=true) (hx:(x.ev st.tm).g=true) (hy:(y.ev st.tm).g=true)
  (iC:(Md ng (bK st.tm x) (bK st.tm y)).vc):kY P E n o a w st (Md ng (bK st.tm x) (bK st.tm y)).v:=by
 unfold OL at hc
 split at hc
 ·rename_i b t x' y' t' he
  simp only [Bool.and_eq_true] at hc
  obtain ⟨⟨⟨hb,ht⟩,h1⟩,h2⟩:=hc
  have g1:=kD h h1 hx
  have g2:=kD h h2 hy
  unfold Md at iC ⊢
  split at iC
  ·rename_i p q e1 e2
   rw [e1] at g1; rw [e2] at g2
   have hu:P.underlying t=some .bool:=by
    split at ht
    ·assumption
    ·cases ht
   have hd:∀ d,(Op.equalIn (d+1) t (.bool p) (.bool q)).run P w = .ok (p==q) w:=fun d=>by simp [Op.equalIn,run_underlying hu]
   have he':(Op.equal t (.bool p) (.bool q)).run P w = .ok (p==q) w:=hd 9999
   have hp:=Bi g1
   have hq:=Bi g2
   simp only [FR.ok]
   cases b<;>simp at hb
   ·subst hb
    refine kY.val h ?_ (Bl _)
    simp [execOp,he,hp,hq,yE,binOp,he']
   ·subst hb
    refine kY.val h ?_ (Bl _)
    simp [execOp,he,hp,hq,yE,binOp,he',bne]
  ·exact iC.elim
 ·cases hc
def OW (n:Nat) (op:Op) (x:kS):Bool:=match op with | .unOp .not _ x'=>iW n x' x | _=>false
theorem U9 {o:Oper} {x:kS} {b:Bool} (h:GX E I ρ n st a w) (hc:OW n o.op x=true) (hx:(x.ev st.tm).g=true) (hb:bK st.tm x=oQ b):kY P E n o a w st (oQ (!b)):=by
 unfold OW at hc
 split at hc
 ·rename_i t x' he
  have g1:=kD h hc hx
  rw [hb] at g1
  have hp:=Bi g1
  exact kY.val h (by simp [execOp,he,hp,Op.unary]) (Bl _)
 ·cases hc
def OV (n:Nat) (op:Op) (x:kS):Bool:=match op with | .unOp .neg _ x'=>iW n x' x | _=>false
theorem U7 {o:Oper} {x:kS} {k:IntKind} {m:Int} (h:GX E I ρ n st a w) (hc:OV n o.op x=true) (hx:(x.ev st.tm).g=true) (hb:bK st.tm x=o7 k m):kY P E n o a w st (o7 k (k.wrap (0-m))):=by
 unfold OV at hc
 split at hc
 ·rename_i t x' he
  have g1:=kD h hc hx
  rw [hb] at g1
  have hp:=pM g1
  exact kY.val h (v := .int k (k.wrap (0-m))) (by simp [execOp,he,hp,Op.unary,Op.intArith]) (rP _ _)
 ·cases hc
def JY (P:Program) (n:Nat) (op:Op) (k:IntKind) (x:kS):Bool:=match op with | .convert s d x'=>(match P.underlying s with | some _=>true | none=>false)&&(match P.underlying d with | some (.int k')=>k'==k | _=>false)&&iW n x' x | _=>false
theorem Rf {o:Oper} {x:kS} {k j:IntKind} {m:Int} (h:GX E I ρ n st a w) (hc:JY P n o.op k x=true) (hx:(x.ev st.tm).g=true) (hb:bK st.tm x=o7 j m):kY P E n o a w st (o7 k (k.wrap m)):=by
 unfold JY at hc
 split at hc
 ·rename_i s d x' he
  simp only [Bool.and_eq_true] at hc
  have g1:=kD h hc.2 hx
  rw [hb] at g1
  have hp:=pM g1
  obtain ⟨⟨h1,h2⟩,_⟩:=hc
  split at h1
  ·rename_i ds hs
   split at h2
   ·rename_i k' hd
    simp only [beq_iff_eq] at h2
    subst h2
    exact kY.val h (v := .int k' (k'.wrap m)) (by simp [execOp,he,hp,convert,run_underlying hs,run_underlying hd,Conv.intToInt]) (rP _ _)
   ·cases h2
  ·cases h1
 ·cases hc
def Kr (P:Program) (n:Nat) (op:Op) (x:kS):Bool:=match op with | .convert s d x'=>(match P.underlying s with | some .string=>true | _=>false)&&(match P.underlying d with | some .string=>true | _=>false)&&iW n x' x | _=>false
theorem SN {o:Oper} {x:kS} {l:List UInt8} (h:GX E I ρ n st a w) (hc:Kr P n o.op x=true) (hx:(x.ev st.tm).g=true) (hb:bK st.tm x=zn l):kY P E n o a w st (zn l):=by
 unfold Kr at hc
 split at hc
 ·rename_i s d x' he
  simp only [Bool.and_eq_true] at hc
  have g1:=kD h hc.2 hx
  rw [hb] at g1
  obtain ⟨hp,hl⟩:=xW g1
  obtain ⟨⟨h1,h2⟩,_⟩:=hc
  split at h1
  ·rename_i hs
   split at h2
   ·rename_i hd
    exact kY.val h (by simp [execOp,he,hp,convert,run_underlying hs,run_underlying hd]) (KO hl)
   ·cases h2
  ·cases h1
 ·cases hc
end
end Go.Ab
end
section
namespace Go.Ab
open Go
section
variable {P:Program} {E:Env P} {I:IH} {ρ:Ren} {n:Nat} {st:dB} {a:Act} {w:World}
theorem jy {α:Type} {es:List (List α)} {i j:Nat} {c:α} (h:(es.getD i [])[j]? = some c):i<es.length:=by
 by_cases hi:i<es.length
 ·exact hi
 ·simp [List.getD,List.getElem?_eq_none (Nat.le_of_not_lt hi)] at h
theorem Addr.add_zero (p:Addr):p.add 0=p:=by simp [Addr.add]
theorem Addr.qJ (k o i:Nat):(⟨k,o,none⟩:Addr).add i=⟨k,o+i,none⟩:=by
 unfold Addr.add; split
 ·simp_all
 ·rfl
theorem Addr.add_add (p:Addr) (i j:Nat):(p.add i).add j=p.add (i+j):=by
 unfold Addr.add
 by_cases hi:i=0<;>by_cases hj:j=0<;>simp [hi,hj,Nat.add_assoc]
def sS (I:IH) (ρ:Ren) (w:World) (p:Addr) (xs:List AC):Prop :=
 ∀ (j:Nat) (x:AC),xs[j]? = some x->∃ u,w.cell? (p.add j)=some u/\GC I ρ u x
theorem sS.drop {p:Addr} {xs:List AC} (h:sS I ρ w p xs) (off:Nat):sS I ρ w (p.add off) (xs.drop off):=fun j x hj=>by
 rw [List.getElem?_drop] at hj
 rw [Addr.add_add]
 exact h _ _ hj
theorem sS.take {p:Addr} {xs:List AC} (h:sS I ρ w p xs) (k:Nat):sS I ρ w p (xs.take k):=fun j x hj=>by
 rw [List.getElem?_take] at hj
 split at hj
 ·exact h _ _ hj
 ·cases hj
theorem sS.list {p:Addr} {xs:List AC} (h:sS I ρ w p xs):∃ us:List Value,us.length=xs.length/\(∀ (j:Nat) (u:Value),us[j]? = some u->w.cell? (p.add j)=some u)/\AP I ρ us xs:=by
  induction xs generalizing p with
  | nil=>exact ⟨[],rfl,by simp,rfl,by simp⟩
  | cons x r ih =>
    obtain ⟨u,hu,hg⟩:=h 0 x rfl
    obtain ⟨us,hl,hc,hgs⟩:=ih (p:=p.add 1) (fun j y hj=>by rw [Addr.add_add]; rw [Nat.add_comm]; exact h (j+1) y (by simpa using hj))
    refine ⟨u::us,by simp [hl],fun j v hj => ?_,by simp [hl],fun j v y hv hy => ?_⟩
    · cases j with
      | zero=>simp at hj; subst hj; exact hu
      | succ j=>have:=hc j v (by simpa using hj); rwa [Addr.add_add,Nat.add_comm] at this
    · cases j with
      | zero=>simp at hv hy; subst hv; subst hy; exact hg
      | succ j=>exact hgs.2 j v y (by simpa using hv) (by simpa using hy)
theorem Lc {t:TypeId} {k:Nat} (ht:IM P t true k=true) {p:Addr} {xs:List AC} (hl:xs.length=k) (h:sS I ρ w p xs) :
  ∃ v,(loadVar t p).run P w = .ok v w/\GV I ρ v (.agg xs):=by
 obtain ⟨us,VW,hc,hg⟩:=h.list
 obtain ⟨h1,h2⟩:=BG ht w
 have h3:=run_loadCells_list (P:=P) w p us hc
 refine ⟨.agg us.toArray,?_,us.toArray,rfl,by simpa using hg⟩
 rw [VW,hl] at h3
 simp [loadVar,h1,h2,h3]
theorem Ld {t:TypeId} {k:Nat} (ht:IM P t false k=true) {p:Addr} {u:Value} (h:w.cell? p=some u):(loadVar t p).run P w = .ok u w:=by
 obtain ⟨h1,h2⟩:=BG ht w
 simp [loadVar,h1,run_load,h]
theorem BX.Tm (h:BX I ρ w st.bx) {b k cap:Nat} {xs:List AC} (hb:st.bx b = .var xs) (hr:ρ b=some (k,cap)):sS I ρ w ⟨k,0,none⟩ xs:=fun j x hj=>by
 have:=h.ok b
 rw [hb] at this
 obtain ⟨k',cap',cs,hr',hw,hs,hc⟩:=this
 rw [hr] at hr'
 simp at hr'
 obtain ⟨rfl,rfl⟩:=hr'
 have hjl:j<cs.size:=by rw [hs]; exact (List.getElem?_eq_some_iff.1 hj).1
 refine ⟨cs[j],?_,hc j _ x (Array.getElem?_eq_getElem hjl) hj⟩
 rw [Addr.qJ]
 simp [World.cell?,hw,Array.getElem?_eq_getElem hjl]
theorem GS.AU (h:GX E I ρ n st a w) {b k cap sz:Nat} {es:List (List Cell)} (hb:(st.bx b).arr=some (sz,es)) (hr:ρ b=some (k,cap)) (hc:cap ≠ 0) {i:Nat} (hi:i<es.length) :
    sS I ρ w ⟨k,i*sz,none⟩ ((es.getD i []).map .c):=fun j x hj=>by
  rw [List.getElem?_map] at hj
  cases hq:(es.getD i [])[j]? with
  | none=>rw [hq] at hj; cases hj
  | some c =>
    rw [hq] at hj
    simp at hj
    subst hj
    have hok:=h.bx.ok b
    rw [Addr.qJ]
    cases hx:st.bx b with
    | dat sz' es' =>
      rw [hx] at hok hb
      simp [Box.arr] at hb
      obtain ⟨rfl,rfl⟩:=hb
      obtain ⟨k',cap',hr',_,_,_,hd⟩:=hok
      rw [hr] at hr'
      simp at hr'
      obtain ⟨rfl,rfl⟩:=hr'
      obtain ⟨cs,e,hw,_,_,hcs⟩:=hd hc
      obtain ⟨u,hu,hrd⟩:=hcs i j c hq
      exact ⟨u,by simp [World.cell?,hw,hu],hrd⟩
    | vO sz' es' =>
      rw [hx] at hok hb
      simp [Box.arr] at hb
      obtain ⟨rfl,rfl⟩:=hb
      obtain ⟨k',cap',hr',_,_,_,hd⟩:=hok
      rw [hr] at hr'
      simp at hr'
      obtain ⟨rfl,rfl⟩:=hr'
      obtain ⟨cs,hI,hcs⟩:=hd hc
      obtain ⟨u,hu,hrd⟩:=hcs i j c hq
      obtain ⟨e,fr,hw⟩:=h.agree _ _ hI
      exact ⟨u,by simp [World.cell?,hw,hu],hrd⟩
    | absent=>rw [hx] at hb; cases hb
    | dead=>rw [hx] at hb; cases hb
    | var xs=>rw [hx] at hb; cases hb
    | row e l=>rw [hx] at hb; cases hb
theorem GS.yh (h:GX E I ρ n st a w) {b k cap sz:Nat} {es:List (List Cell)} (hb:(st.bx b).arr=some (sz,es)) (hr:ρ b=some (k,cap)):es.length<=cap/\cap<=maxLen/\∀ e,e∈es->e.length=sz:=by
  have hok:=h.bx.ok b
  cases hx:st.bx b with
  | dat sz' es' =>
    rw [hx] at hok hb
    simp [Box.arr] at hb
    obtain ⟨rfl,rfl⟩:=hb
    obtain ⟨k',cap',hr',h1,h2,h3,hd⟩:=hok
    rw [hr] at hr'
    simp at hr'
    obtain ⟨rfl,rfl⟩:=hr'
    exact ⟨h1,h2,h3⟩
  | vO sz' es' =>
    rw [hx] at hok hb
    simp [Box.arr] at hb
    obtain ⟨rfl,rfl⟩:=hb
    obtain ⟨k',cap',hr',h1,h2,h3,hd⟩:=hok
    rw [hr] at hr'
    simp at hr'
    obtain ⟨rfl,rfl⟩:=hr'
    exact ⟨h1,h2,h3⟩
  | absent=>rw [hx] at hb; cases hb
  | dead=>rw [hx] at hb; cases hb
  | var xs=>rw [hx] at hb; cases hb
  | row e l=>rw [hx] at hb; cases hb
def J8 (P:Program) (n:Nat) (op:Op) (agg:Bool) (k:Nat) (p:kS):Bool:=match op with | .load t p'=>iW n p' p&&IM P t agg k&&(agg||k==1) | _=>false
theorem Jz {t:TypeId} {agg:Bool} {k:Nat} (h:GX E I ρ n st a w) (ht:IM P t agg k=true) {pv:Value} {p:AV} (hp:GV I ρ pv p) (iC:(qM agg k p st.bx).vc) :
  ∃ v,(Instr.loadAt t pv).run P w = .ok v w/\GV I ρ v (qM agg k p st.bx).v:=by
 have key:∀ (q:Addr) (xs:List AC) (off:Nat),pv = .pointer (some (q.add off))->sS I ρ w q xs->(agg=true->off+k<=xs.length->∃ v,(Instr.loadAt t pv).run P w = .ok v w/\GV I ρ v (.agg ((xs.drop off).take k))) /\
   (agg=false->∀ x,xs[off]? = some x->∃ v,(Instr.loadAt t pv).run P w = .ok v w/\GV I ρ v (.one x)):=by
  intro q xs off hq hc
  refine ⟨fun hA hl => ?_,fun hA x hx => ?_⟩
  ·subst hA
   obtain ⟨v,hv,hg⟩:=Lc (P:=P) (xs:=(xs.drop off).take k) ht (by simp; omega) ((hc.drop off).take k)
   exact ⟨v,by simp [Instr.loadAt,hq,Instr.sureAddr,hv],hg⟩
  ·subst hA
   obtain ⟨u,hu,hg⟩:=hc off x hx
   exact ⟨u,by simp [Instr.loadAt,hq,Instr.sureAddr,Ld (P:=P) ht hu],hg⟩
 unfold qM at *
 split at iC
 ·rename_i b off
  obtain ⟨kk,cap,hr,hv⟩:=hp
  split at iC
  ·rename_i xs hb
   have hc:=h.bx.Tm hb hr
   have hk:=key ⟨kk,0,none⟩ xs off (by rw [Addr.qJ]; simpa using hv) hc
   try simp only [hb]
   split at iC
   ·rename_i hA; rw [if_pos hA]; exact hk.1 hA iC
   ·rename_i hA
    rw [if_neg hA]
    split at iC
    ·rename_i x hx; simp only [FR.ok]; exact hk.2 (by simpa using hA) x hx
    ·exact iC.elim
  ·exact iC.elim
 ·rename_i b i sz off
  obtain ⟨kk,cap,hr,hv⟩:=hp
  split at iC
  ·rename_i sz' es hb
   try simp only [hb]
   have facts:=GS.yh h hb hr
   split at iC
   ·rename_i hA
    rw [if_pos hA]
    obtain ⟨rfl,hi,hl⟩:=iC
    have hc:=GS.AU h hb hr (by omega) hi
    have hlen:(es.getD i []).length=sz':=facts.2.2 _ (by simp [List.getD,List.getElem?_eq_getElem hi])
    have:=(key ⟨kk,i*sz',none⟩ _ off (by rw [Addr.qJ]; exact hv) hc).1 hA (by rw [List.length_map,hlen]; exact hl)
    simpa [List.map_drop,List.map_take] using this
   ·rename_i hA
    rw [if_neg hA]
    obtain ⟨rfl,hi,hl⟩:=iC
    have hc:=GS.AU h hb hr (by omega) hi
    have hlen:(es.getD i []).length=sz':=facts.2.2 _ (by simp [List.getD,List.getElem?_eq_getElem hi])
    have:=(key ⟨kk,i*sz',none⟩ _ off (by rw [Addr.qJ]; exact hv) hc).2 (by simpa using hA) (.c ((es.getD i []).getD off default))
     (by rw [List.getElem?_map,List.getElem?_eq_getElem (by omega)]; simp [List.getD,List.getElem?_eq_getElem (show off<(es[i]?.getD []).length by simpa [List.getD] using (by omega:off<(es.getD i []).length))])
    exact this
  ·exact iC.elim
 ·rename_i cs
  obtain ⟨p,hv,hc⟩:=hp
  have hcc:sS I ρ w p (cs.map .c):=fun j x hj=>by
   rw [List.getElem?_map] at hj
   cases hq:cs[j]? with
   | none=>rw [hq] at hj; cases hj
   | some c=>rw [hq] at hj; simp at hj; subst hj; obtain ⟨u,hu,hr⟩:=hc j c hq; exact ⟨u,h.agree.cell hu,hr⟩
  have hk:=key p _ 0 (by rw [Addr.add_zero]; exact hv) hcc
  split at iC
  ·rename_i hA
   rw [if_pos hA]
   have:=hk.1 hA (by simpa using iC)
   simpa [List.map_take] using this
  ·rename_i hA
   rw [if_neg hA]
   have h0:cs[0]? = some (cs.getD 0 default):=by simp [List.getD,List.getElem?_eq_getElem iC]
   exact hk.2 (by simpa using hA) _ (by rw [List.getElem?_map,h0]; rfl)
 ·exact iC.elim
theorem RU {o:Oper} {agg:Bool} {k:Nat} {p:kS} (h:GX E I ρ n st a w) (hc:J8 P n o.op agg k p=true) (hx:(p.ev st.tm).g=true) (iC:(qM agg k (bK st.tm p) st.bx).vc) :
  kY P E n o a w st (qM agg k (bK st.tm p) st.bx).v:=by
 unfold J8 at hc
 split at hc
 ·rename_i t p' he
  simp only [Bool.and_eq_true] at hc
  obtain ⟨v,hv,hg⟩:=Jz (P:=P) h hc.1.2 (kD h hc.1.1 hx) iC
  exact kY.val h (by simp [execOp,he,hv]) hg
 ·cases hc
end
end Go.Ab
end
section
namespace Go.Ab
open Go
section
variable {P:Program} {E:Env P} {I:IH} {ρ:Ren} {n:Nat} {st:dB} {a:Act} {w:World}
def DY (P:Program) (t:TypeId):Bool:=match P.underlying t with | some (.slice _)=>true | _=>false
theorem BO {t:TypeId} (h:DY P t=true):∃ e,P.underlying t=some (.slice e):=by
 unfold DY at h; split at h
 ·rename_i e he; exact ⟨e,he⟩
 ·cases h
def EN (P:Program) (t:TypeId):Bool:=match P.underlying t with | some .string=>true | _=>false
theorem xK {t:TypeId} (h:EN P t=true):P.underlying t=some .string:=by
 unfold EN at h; split at h
 ·assumption
 ·cases h
theorem Xt {v:Value} {sz:Nat} {es:List (List Cell)} (h:GV I ρ v (Lt sz es)):∃ a cap,v = .slice a es.length cap/\es.length<=cap/\cap<=maxLen:=by
 cases h with | sl a len cap sz es u hlen hcap hmax=>subst hlen; exact ⟨a,cap,rfl,hcap,hmax⟩
def lenV (x:AV):FR:=match x with
    | .one (.c (.sl _ es)) => .ok (o7 .i64 es.length)
    | .one (.cO _) => .ok (o7 .i64 0)
    | .one (.own _ n _) => .ok (o7 .i64 n)
    | .one (.sub _ _ n _ _) => .ok (o7 .i64 n)
    | _ => .bad
theorem XT {v:Value} {x:AV} (h:GV I ρ v x) (iC:(lenV x).vc):∃ b k c,v = .slice b k c/\(lenV x).v=o7 .i64 k:=by
 unfold lenV at *
 split at iC
 ·rename_i sz es
  obtain ⟨b,c,rfl,_⟩:=Xt h
  exact ⟨b,_,c,rfl,rfl⟩
 ·simp only [GV,GC] at h; exact ⟨none,0,0,h,rfl⟩
 ·obtain ⟨k,cap,b,c,_,rfl,_⟩:=h
  exact ⟨b,_,c,rfl,rfl⟩
 ·obtain ⟨k,cap,b,c,_,rfl,_⟩:=h
  exact ⟨b,_,c,rfl,rfl⟩
 ·exact iC.elim
def OU (P:Program) (n:Nat) (op:Op) (x:kS):Bool :=
 match op with
 | .call { callee := .builtin .len,args:=⟨[x']⟩,argTypes:=⟨[t]⟩ } => iW n x' x&&DY P t
 | _=>false
theorem UQ {o:Oper} {x:kS} (h:GX E I ρ n st a w) (hc:OU P n o.op x=true) (hx:(x.ev st.tm).g=true) (iC:(lenV (bK st.tm x)).vc):kY P E n o a w st (lenV (bK st.tm x)).v:=by
 unfold OU at hc
 split at hc
 ·rename_i x' t he
  simp only [Bool.and_eq_true] at hc
  have g:=kD h hc.1 hx
  obtain ⟨e,ht⟩:=BO hc.2
  obtain ⟨b,k,c,hv,hr⟩:=XT g iC
  rw [hr]
  exact kY.val h (by simp [execOp,he,resolve,invoke,builtin,Builtin.len_,run_underlying ht,hv,goInt]) (rP _ _)
 ·cases hc
def J7 (P:Program) (n:Nat) (op:Op) (x:kS):Bool :=
 match op with
 | .call { callee := .builtin .len,args:=⟨[x']⟩,argTypes:=⟨[t]⟩ } => iW n x' x&&EN P t
 | _=>false
theorem RQ {o:Oper} {x:kS} {s:List UInt8} (h:GX E I ρ n st a w) (hc:J7 P n o.op x=true) (hx:(x.ev st.tm).g=true) (hs:bK st.tm x=zn s):kY P E n o a w st (o7 .i64 s.length):=by
 unfold J7 at hc
 split at hc
 ·rename_i x' t he
  simp only [Bool.and_eq_true] at hc
  have g:=kD h hc.1 hx
  rw [hs] at g
  have ht:=xK hc.2
  obtain ⟨hv,_⟩:=xW g
  exact kY.val h (v := .int .i64 s.length) (by simp [execOp,he,resolve,invoke,builtin,Builtin.len_,run_underlying ht,hv,goInt]; rfl) (rP _ _)
 ·cases hc
def Js (mx:Bool) (n:Nat) (op:Op) (x y:kS):Bool :=
 match op with
 | .call { callee := .builtin b,args:=⟨[x',y']⟩,argTypes:=_ } => (match b with | .max=>mx | .min => !mx | _=>false)&&iW n x' x&&iW n y' y
 | _=>false
theorem U4 {o:Oper} {x y:kS} {k:IntKind} {p q:Int} (h:GX E I ρ n st a w) (hc:Js true n o.op x y=true) (hx:(x.ev st.tm).g=true) (hy:(y.ev st.tm).g=true)
  (e1:bK st.tm x=o7 k p) (e2:bK st.tm y=o7 k q):kY P E n o a w st (o7 k (if q>p then q else p)):=by
 unfold Js at hc
 split at hc
 ·rename_i b x' y' ts he
  simp only [Bool.and_eq_true] at hc
  have g1:=kD h hc.1.2 hx
  have g2:=kD h hc.2 hy
  rw [e1] at g1; rw [e2] at g2
  have v1:=pM g1
  have v2:=pM g2
  obtain ⟨⟨hb,_⟩,_⟩:=hc
  cases b<;>simp at hb
  refine kY.val h (v := .int k (if q>p then q else p)) ?_ (rP _ _)
  simp [execOp,he,resolve,invoke,builtin,Builtin.max_,v1,v2,Builtin.max2]
 ·cases hc
theorem U5 {o:Oper} {x y:kS} {k:IntKind} {p q:Int} (h:GX E I ρ n st a w) (hc:Js false n o.op x y=true) (hx:(x.ev st.tm).g=true) (hy:(y.ev st.tm).g=true)
  (e1:bK st.tm x=o7 k p) (e2:bK st.tm y=o7 k q):kY P E n o a w st (o7 k (if q<p then q else p)):=by
 unfold Js at hc
 split at hc
 ·rename_i b x' y' ts he
  simp only [Bool.and_eq_true] at hc
  have g1:=kD h hc.1.2 hx
  have g2:=kD h hc.2 hy
  rw [e1] at g1; rw [e2] at g2
  have v1:=pM g1
  have v2:=pM g2
  obtain ⟨⟨hb,_⟩,_⟩:=hc
  cases b<;>simp at hb
  refine kY.val h (v := .int k (if q<p then q else p)) ?_ (rP _ _)
  simp [execOp,he,resolve,invoke,builtin,Builtin.min_,v1,v2,Builtin.min2]
 ·cases hc
theorem WQ {v:Value} {xs:List AC} (h:GP I ρ v (true,xs)):GV I ρ v (.agg xs):=by
 simpa [GP,GV] using h
theorem Uu {v:Value} {x:AC} (h:GP I ρ v (false,[x])):GV I ρ v (.one x):=by
 simp only [GP] at h
 obtain ⟨y,hy,hg⟩:=h
 simp at hy
 subst hy
 exact hg
def yu (x:AV) (i:Nat):FR:=match x with
    | .o8 ps=>match ps[i]? with
      | some (true,xs) => .ok (.agg xs)
      | some (false,[x]) => .ok (.one x)
      | _ => .bad
    | _ => .bad
def Cm (n:Nat) (op:Op) (x:kS) (i:Nat):Bool:=match op with | .extract x' j=>iW n x' x&&j==i | _=>false
theorem Ky {o:Oper} {x:kS} {i:Nat} (h:GX E I ρ n st a w) (hc:Cm n o.op x i=true) (hx:(x.ev st.tm).g=true) (iC:(yu (bK st.tm x) i).vc):kY P E n o a w st (yu (bK st.tm x) i).v:=by
 unfold Cm at hc
 split at hc
 ·rename_i x' j he
  simp only [Bool.and_eq_true,beq_iff_eq] at hc
  obtain ⟨h1,rfl⟩:=hc
  have g:=kD h h1 hx
  unfold yu at iC ⊢
  split at iC
  ·rename_i ps e1
   rw [e1] at g
   obtain ⟨vs,hv,hs,hp⟩:=g
   have hj:∀ p,ps[j]? = some p->∃ v,vs[j]? = some v/\GP I ρ v p:=fun p hq=>by
    have hl:j<vs.size:=by rw [hs]; exact (List.getElem?_eq_some_iff.1 hq).1
    exact ⟨vs[j],Array.getElem?_eq_getElem hl,hp j _ p (Array.getElem?_eq_getElem hl) hq⟩
   split at iC
   ·rename_i xs hq
    obtain ⟨v,hv',hg⟩:=hj _ hq
    exact kY.val h (by simp [execOp,he,hv,Instr.extract,hv']) (WQ hg)
   ·rename_i y hq
    obtain ⟨v,hv',hg⟩:=hj _ hq
    exact kY.val h (by simp [execOp,he,hv,Instr.extract,hv']) (Uu hg)
   ·exact iC.elim
  ·exact iC.elim
 ·cases hc
def J5 (P:Program) (n:Nat) (op:Op) (x i:kS):Bool:=match op with | .index t x' i'=>iW n x' x&&iW n i' i&&EN P t | _=>false
theorem RI {o:Oper} {x y:kS} {s:List UInt8} {k:IntKind} {i:Int} (h:GX E I ρ n st a w) (hc:J5 P n o.op x y=true) (hx:(x.ev st.tm).g=true) (hy:(y.ev st.tm).g=true)
  (e1:bK st.tm x=zn s) (e2:bK st.tm y=o7 k i) (h0:0<=i) (h1:i<s.length):kY P E n o a w st (o7 .u8 (s.getD i.toNat 0).toNat):=by
 unfold J5 at hc
 split at hc
 ·rename_i t x' y' he
  simp only [Bool.and_eq_true] at hc
  have g1:=kD h hc.1.1 hx
  have g2:=kD h hc.1.2 hy
  rw [e1] at g1; rw [e2] at g2
  obtain ⟨v1,_⟩:=xW g1
  have v2:=pM g2
  have ht:=xK hc.2
  have hi:i.toNat<s.length:=by omega
  refine kY.val h (v := .int .u8 (s.getD i.toNat 0).toNat) ?_ (rP _ _)
  have hb:(⟨⟨s⟩⟩:ByteArray)[i.toNat]? = some (s.getD i.toNat 0):=by
   have:(⟨⟨s⟩⟩:ByteArray)[i.toNat]? = some ((⟨⟨s⟩⟩:ByteArray)[i.toNat]'(by simpa [ByteArray.size] using hi)):=getElem?_pos _ _ _
   rw [this]
   simp [List.getD,List.getElem?_eq_getElem hi]
   rfl
  simp [execOp,he,Instr.index,v1,v2,asIntOf,run_underlying ht,h0,hb]
 ·cases hc
def J9 (n:Nat) (op:Op) (f:FuncId) (cs:List kS):Bool:=match op with | .makeFunc (.func g) ⟨[]⟩ caps=>g==f&&(caps.size==cs.length)&&(caps.toList.zip cs).all fun p=>iW n p.1 p.2 | _=>false
theorem Wv {cs:List kS} {os:List Operand} {l:List Nat} (h:GX E I ρ n st a w) (hl:os.length=cs.length) (hc:(os.zip cs).all (fun p=>iW n p.1 p.2)=true) (hg:∀ x,x∈cs->(x.ev st.tm).g=true)
    (hk:xQ (cs.map (bK st.tm))=some l):∃ ks:List Nat,ks.length=l.length/\(∀ (j b k:Nat),l[j]? = some b->ks[j]? = some k->∃ cap,ρ b=some (k,cap))/\os.map a.eval=ks.map fun k=>Value.pointer (some ⟨k,0,none⟩):=by
  induction cs generalizing os l with
  | nil =>
    simp [xQ] at hk
    subst hk
    cases os with
    | nil=>exact ⟨[],rfl,by simp,rfl⟩
    | cons _ _=>simp at hl
  | cons c r ih =>
    cases os with
    | nil=>simp at hl
    | cons o os =>
      simp only [List.zip_cons_cons,List.all_cons,Bool.and_eq_true] at hc
      have g:=kD h hc.1 (hg c (by simp))
      simp only [List.map_cons] at hk
      unfold xQ at hk
      split at hk
      · rename_i e; cases e
      · rename_i b r' e
        simp only [List.cons.injEq] at e
        obtain ⟨e1,rfl⟩:=e
        cases hq:xQ (r.map (bK st.tm)) with
        | none=>rw [hq] at hk; cases hk
        | some l' =>
          rw [hq] at hk
          simp at hk
          subst hk
          obtain ⟨ks,h1,h2,h3⟩:=ih (by simpa using hl) hc.2 (fun x hx=>hg x (by simp [hx])) hq
          rw [e1] at g
          obtain ⟨k,cap,hr,hv⟩:=g
          refine ⟨k::ks,by simp [h1],fun j b' k' hb hk => ?_,by simp [hv,h3]⟩
          cases j with
          | zero=>simp at hb hk; subst hb; subst hk; exact ⟨cap,hr⟩
          | succ j=>exact h2 j b' k' (by simpa using hb) (by simpa using hk)
      · cases hk
theorem Sz {o:Oper} {f:FuncId} {cs:List kS} {l:List Nat} (h:GX E I ρ n st a w) (hc:J9 n o.op f cs=true) (hg:∀ x,x∈cs->(x.ev st.tm).g=true)
  (hk:xQ (cs.map (bK st.tm))=some l):kY P E n o a w st (.one (.fn f l)):=by
 unfold J9 at hc
 split at hc
 ·rename_i g caps he
  simp only [Bool.and_eq_true,beq_iff_eq] at hc
  obtain ⟨⟨rfl,hl⟩,hc⟩:=hc
  obtain ⟨ks,h1,h2,h3⟩:=Wv h (by simpa using hl) hc hg hk
  refine kY.val h (v := .func (.func g) #[] (caps.map a.eval)) (by simp [execOp,he,Instr.makeFunc]) ⟨ks,h1,h2,?_⟩
  congr 1
  apply Array.ext'
  simpa using h3
 ·cases hc
def Aa (off:Nat) (x:AV):FR:=match x with
    | .one (.ptr b o) => .ok (.one (.ptr b (o+off)))
    | .one (.qR b i sz o) => .ok (.one (.qR b i sz (o+off)))
    | .one (.xR cs) => .ok (.one (.xR (cs.drop off)))
    | _ => .bad
theorem Ul {v:Value} {x:AV} {off:Nat} (h:GV I ρ v x) (iC:(Aa off x).vc):∃ p:Addr,v = .pointer (some p)/\GV I ρ (.pointer (some (p.add off))) (Aa off x).v:=by
 unfold Aa at *
 split at iC
 ·rename_i b o
  obtain ⟨k,cap,hr,rfl⟩:=h
  exact ⟨_,rfl,k,cap,hr,by rw [Addr.qJ]⟩
 ·rename_i b i sz o
  obtain ⟨k,cap,hr,rfl⟩:=h
  exact ⟨_,rfl,k,cap,hr,by rw [Addr.qJ,Nat.add_assoc]⟩
 ·rename_i cs
  obtain ⟨p,rfl,hc⟩:=h
  exact ⟨p,rfl,_,rfl,fun j c hj=>by rw [List.getElem?_drop] at hj; rw [Addr.add_add]; exact hc _ c hj⟩
 ·exact iC.elim
def Kz (P:Program) (s:TypeId) (f off:Nat) (agg:Bool) (k:Nat):Bool :=
  match P.underlying s with
  | some (.struct fs)=>match fs[f]? with
    | some KD=>KD.offset==off&&IM P KD.type agg k&&k != 0
    | none=>false
  | _=>false
theorem KA {s:TypeId} {f off:Nat} {agg:Bool} {k:Nat} (h:Kz P s f off agg k=true):∃ fs KD,P.underlying s=some (.struct fs)/\fs[f]? = some KD/\KD.offset=off/\IM P KD.type agg k=true/\k ≠ 0:=by
 unfold Kz at h
 split at h
 ·rename_i fs hs
  split at h
  ·rename_i KD hf
   simp only [Bool.and_eq_true,beq_iff_eq,bne_iff_ne] at h
   exact ⟨fs,KD,hs,hf,h.1.1,h.1.2,h.2⟩
  ·cases h
 ·cases h
def MP (P:Program) (s:TypeId) (f off:Nat):Bool :=
  match P.underlying s with
  | some (.struct fs)=>match fs[f]? with
    | some KD=>KD.offset==off&&(match P.info? KD.type with | some i=>i.size != 0 | none=>false)
    | none=>false
  | _=>false
def GY (P:Program) (n:Nat) (op:Op) (off:Nat) (x:kS):Bool:=match op with | .fieldAddr s x' f=>iW n x' x&&MP P s f off | _=>false
theorem O4 {o:Oper} {x:kS} {off:Nat} (h:GX E I ρ n st a w) (hc:GY P n o.op off x=true) (hx:(x.ev st.tm).g=true) (iC:(Aa off (bK st.tm x)).vc):kY P E n o a w st (Aa off (bK st.tm x)).v:=by
 unfold GY at hc
 split at hc
 ·rename_i s x' f he
  simp only [Bool.and_eq_true] at hc
  have g:=kD h hc.1 hx
  obtain ⟨p,hp,hg⟩:=Ul g iC
  obtain ⟨_,hf⟩:=hc
  unfold MP at hf
  split at hf
  ·rename_i fs hs
   split at hf
   ·rename_i KD hfld
    simp only [Bool.and_eq_true,beq_iff_eq] at hf
    obtain ⟨rfl,hf⟩:=hf
    split at hf
    ·rename_i i hi
     simp at hf
     refine kY.val h ?_ hg
     simp [execOp,he,Instr.fieldAt,run_underlying hs,hfld,hp,Instr.sureAddr,fieldPlace,sizeOf,typeInfo,hi,hf]
    ·cases hf
   ·cases hf
  ·cases hf
 ·cases hc
def EU (x:AV):FR:=match x with
    | .one (.ptr b o) => .ok (.one (.ptr b o))
    | .one (.qR b i sz o) => .ok (.one (.qR b i sz o))
    | .one (.xR cs) => .ok (.one (.xR cs))
    | .one (.fn f cs) => .ok (.one (.fn f cs))
    | _ => .bad
def G8 (n:Nat) (op:Op) (x:kS):Bool:=match op with | .nilCheck x'=>iW n x' x | _=>false
theorem Pq {o:Oper} {x:kS} (h:GX E I ρ n st a w) (hc:G8 n o.op x=true) (hx:(x.ev st.tm).g=true) (iC:(EU (bK st.tm x)).vc):kY P E n o a w st (EU (bK st.tm x)).v:=by
 unfold G8 at hc
 split at hc
 ·rename_i x' he
  have g:=kD h hc hx
  have key:(∃ p,a.eval x' = .pointer (some p))\/(∃ f b,a.eval x' = .func (.func f) #[] b)->(execOp a.eval o).run P w = .ok (.value (a.eval x')) w:=by
   rintro (⟨p,hp⟩ | ⟨f,b,hp⟩)<;>simp [execOp,he,hp]
  unfold EU at iC ⊢
  split at iC
  ·rename_i b o' e1; rw [e1] at g; exact kY.val h (key (by obtain ⟨k,cap,hr,hv⟩:=g; exact .inl ⟨_,hv⟩)) g
  ·rename_i b i sz o' e1; rw [e1] at g; exact kY.val h (key (by obtain ⟨k,cap,hr,hv⟩:=g; exact .inl ⟨_,hv⟩)) g
  ·rename_i cs e1; rw [e1] at g; exact kY.val h (key (by obtain ⟨p,hv,_⟩:=g; exact .inl ⟨_,hv⟩)) g
  ·rename_i f cs e1; rw [e1] at g; exact kY.val h (key (by obtain ⟨ks,_,_,hv⟩:=g; exact .inr ⟨_,_,hv⟩)) g
  ·exact iC.elim
 ·cases hc
end
end Go.Ab
end
section
namespace Go.Ab
open Go
section
variable {P:Program} {E:Env P} {I:IH} {ρ:Ren} {n:Nat} {st:dB} {a:Act} {w:World}
def EE (agg:Bool) (off k:Nat) (x:AV):FR:=match x with
    | .agg xs=>if agg then ⟨off+k<=xs.length,.agg ((xs.drop off).take k),[]⟩ else match xs[off]? with
      | some x => .ok (.one x)
      | none => .bad
    | _ => .bad
def GZ (P:Program) (n:Nat) (op:Op) (agg:Bool) (off k:Nat) (x:kS):Bool:=match op with | .field s x' f=>iW n x' x&&Kz P s f off agg k | _=>false
theorem Ur {vs:List Value} {xs:List AC} (h:AP I ρ vs xs) (off k:Nat):AP I ρ ((vs.drop off).take k) ((xs.drop off).take k):=by
 refine ⟨by simp [h.1],fun j v x hv hx => ?_⟩
 rw [List.getElem?_take] at hv hx
 split at hv
 ·rename_i hj
  rw [if_pos hj] at hx
  rw [List.getElem?_drop] at hv hx
  exact h.2 _ v x hv hx
 ·cases hv
theorem O5 {o:Oper} {x:kS} {agg:Bool} {off k:Nat} (h:GX E I ρ n st a w) (hc:GZ P n o.op agg off k x=true) (hx:(x.ev st.tm).g=true) (iC:(EE agg off k (bK st.tm x)).vc) :
  kY P E n o a w st (EE agg off k (bK st.tm x)).v:=by
 unfold GZ at hc
 split at hc
 ·rename_i s x' f he
  simp only [Bool.and_eq_true] at hc
  have g:=kD h hc.1 hx
  obtain ⟨fs,KD,hs,hf,rfl,ht,hk⟩:=KA hc.2
  obtain ⟨t1,t2⟩:=BG ht w
  unfold EE at iC ⊢
  split at iC
  ·rename_i xs e1
   rw [e1] at g
   obtain ⟨cs,hv,hg⟩:=g
   split at iC
   ·rename_i hA
    rw [if_pos hA]
    rw [hA] at t1
    refine kY.val h (v := .agg (cs.extract KD.offset (KD.offset+k))) (by simp [execOp,he,Instr.field,run_underlying hs,hf,hv,asAgg,part,t1,t2]) ⟨_,rfl,?_⟩
    have:=Ur hg KD.offset k
    simpa [List.extract_eq_take_drop] using this
   ·rename_i hA
    rw [if_neg hA]
    have hA':agg=false:=by simpa using hA
    rw [hA'] at t1
    split at iC
    ·rename_i y hy
     have hl:KD.offset<cs.size:=by
      have h1:=hg.1
      have h2:=(List.getElem?_eq_some_iff.1 hy).1
      simp at h1
      omega
     refine kY.val h (v:=cs[KD.offset]) (by simp [execOp,he,Instr.field,run_underlying hs,hf,hv,asAgg,part,t1,Array.getElem?_eq_getElem hl]) (hg.2 KD.offset _ y (by simp [hl]) hy)
    ·exact iC.elim
  ·exact iC.elim
 ·cases hc
def EK (sz:Nat) (x i:AV):FR:=match x,i with
    | .one (.c (.sl sz' es)),.one (.c (.lit (.int _ i)))=>⟨sz'=sz/\0<=i/\i<es.length,.one (.xR (es.getD i.toNat [])),[]⟩
    | .one (.own b n sz'),.one (.c (.lit (.int _ i)))=>⟨sz'=sz/\0<=i/\i<n,.one (.qR b i.toNat sz 0),[]⟩
    | .one (.sub b lo n _ sz'),.one (.c (.lit (.int _ i)))=>⟨sz'=sz/\0<=i/\i<n,.one (.qR b (lo+i.toNat) sz 0),[]⟩
    | _,_ => .bad
def CE (P:Program) (t:TypeId) (sz:Nat):Bool:=match P.underlying t with | some (.slice e)=>Ff P e sz | _=>false
theorem uz {t:TypeId} {sz:Nat} (h:CE P t sz=true):∃ e i,P.underlying t=some (.slice e)/\P.info? e=some i/\i.size=sz:=by
 unfold CE at h
 split at h
 ·rename_i e he; obtain ⟨i,h1,h2⟩:=Ar h; exact ⟨e,i,he,h1,h2⟩
 ·cases h
def G6 (P:Program) (n:Nat) (op:Op) (sz:Nat) (x i:kS):Bool:=match op with | .indexAddr t x' i'=>iW n x' x&&iW n i' i&&CE P t sz | _=>false
theorem Pg {o:Oper} {x y:kS} {sz:Nat} (h:GX E I ρ n st a w) (hc:G6 P n o.op sz x y=true) (hx:(x.ev st.tm).g=true) (hy:(y.ev st.tm).g=true)
    (iC:(EK sz (bK st.tm x) (bK st.tm y)).vc):kY P E n o a w st (EK sz (bK st.tm x) (bK st.tm y)).v:=by
  unfold G6 at hc
  split at hc
  · rename_i t x' y' he
    simp only [Bool.and_eq_true] at hc
    have g1:=kD h hc.1.1 hx
    have g2:=kD h hc.1.2 hy
    obtain ⟨e,ti,ht,hi,hsz⟩:=uz hc.2
    unfold EK at iC ⊢
    split at iC
    · rename_i sz' es k i e1 e2
      obtain ⟨rfl,h0,h1⟩:=iC
      rw [e1] at g1; rw [e2] at g2
      have v2:=pM g2
      generalize hq:a.eval x'=v1 at g1
      cases g1 with | sl b len cap _ _ u hlen hcap hmax Zm ha hcell hr =>
      subst hlen
      have hpos:0<es.length:=by omega
      cases hb:b with
      | none=>exact absurd hb (ha hpos)
      | some ad =>
        subst hb
        refine kY.val h (v := .pointer (some (ad.add (i.toNat*sz')))) (by simp [execOp,he,Instr.indexAt,v2,hq,asIntOf,run_underlying ht,h0,h1,sizeOf,typeInfo,hi,hsz]) ⟨_,rfl,fun j c hj => ?_⟩
        have hil:i.toNat<es.length:=by omega
        have hjl:j<sz':=by
          have:=Zm (es.getD i.toNat []) (by simp [List.getD,List.getElem?_eq_getElem hil])
          rw [<- this]
          exact (List.getElem?_eq_some_iff.1 hj).1
        exact ⟨_,by rw [Addr.add_add]; exact hcell ad rfl _ j hil hjl,hr _ j c hj⟩
    · rename_i b m sz' k i e1 e2
      obtain ⟨rfl,h0,h1⟩:=iC
      rw [e1] at g1; rw [e2] at g2
      have v2:=pM g2
      obtain ⟨kk,cap,ad,c,hr,hv,hm,hcc,hcap⟩:=g1
      have hc0:cap ≠ 0:=by omega
      have had:=hcap hc0
      subst had
      refine kY.val h (v := .pointer (some ((⟨kk,0,none⟩:Addr).add (i.toNat*sz')))) (by simp [execOp,he,Instr.indexAt,v2,hv,asIntOf,run_underlying ht,h0,h1,sizeOf,typeInfo,hi,hsz]) ⟨kk,cap,hr,?_⟩
      rw [Addr.qJ]
      simp
    · rename_i b lo m c0 sz' k i e1 e2
      obtain ⟨rfl,h0,h1⟩:=iC
      rw [e1] at g1; rw [e2] at g2
      have v2:=pM g2
      obtain ⟨kk,cap,ad,c,hr,hv,hm,hcc,_,hcap⟩:=g1
      have had:=hcap (.inl (by omega))
      subst had
      refine kY.val h (v := .pointer (some ((⟨kk,lo*sz',none⟩:Addr).add (i.toNat*sz')))) (by simp [execOp,he,Instr.indexAt,v2,hv,asIntOf,run_underlying ht,h0,h1,sizeOf,typeInfo,hi,hsz]) ⟨kk,cap,hr,?_⟩
      rw [Addr.qJ,Nat.add_mul,Nat.add_zero]
    · exact iC.elim
  · cases hc
def DF (P:Program) (t:TypeId) (sz n:Nat):Bool:=match P.underlying t with | some (.array m e)=>m==n&&Ff P e sz | _=>false
theorem DI {t:TypeId} {sz m:Nat} (h:DF P t sz m=true):∃ e i,P.underlying t=some (.array m e)/\P.info? e=some i/\i.size=sz:=by
 unfold DF at h
 split at h
 ·rename_i m' e he
  simp only [Bool.and_eq_true,beq_iff_eq] at h
  obtain ⟨rfl,h⟩:=h
  obtain ⟨i,h1,h2⟩:=Ar h
  exact ⟨e,i,he,h1,h2⟩
 ·cases h
def EC (P:Program) (n:Nat) (op:Op) (sz m:Nat) (x i:kS):Bool:=match op with | .indexAddr t x' i'=>iW n x' x&&iW n i' i&&DF P t sz m | _=>false
theorem Ns {o:Oper} {x y:kS} {sz m b:Nat} {k:IntKind} {i:Int} (h:GX E I ρ n st a w) (hc:EC P n o.op sz m x y=true) (hx:(x.ev st.tm).g=true) (hy:(y.ev st.tm).g=true)
  (e1:bK st.tm x = .one (.qR b 0 sz 0)) (e2:bK st.tm y=o7 k i) (h0:0<=i) (h1:i<m):kY P E n o a w st (.one (.qR b i.toNat sz 0)):=by
 unfold EC at hc
 split at hc
 ·rename_i t x' y' he
  simp only [Bool.and_eq_true] at hc
  have g1:=kD h hc.1.1 hx
  have g2:=kD h hc.1.2 hy
  obtain ⟨e,ti,ht,hi,hsz⟩:=DI hc.2
  rw [e1] at g1; rw [e2] at g2
  have v2:=pM g2
  obtain ⟨kk,cap,hr,hv⟩:=g1
  refine kY.val h (v := .pointer (some ((⟨kk,0*sz+0,none⟩:Addr).add (i.toNat*sz)))) (by simp [execOp,he,Instr.indexAt,v2,hv,asIntOf,run_underlying ht,Instr.sureAddr,h0,h1,sizeOf,typeInfo,hi,hsz]) ⟨kk,cap,hr,?_⟩
  rw [Addr.qJ]
  simp
 ·cases hc
theorem yj {lo:Option kS} {lo':Option Operand} {d:Nat} {q:Int} (h:GX E I ρ n st a w) (hc:(match lo',lo with | none,none=>true | some x',some x=>iW n x' x | _,_=>false)=true)
  (hg:∀ x,x∈lo.toList->(x.ev st.tm).g=true) (hb:bnd (bK st.tm) lo d=some q):(lo'=none/\lo=none/\q=d)\/∃ x' k,lo'=some x'/\a.eval x' = .int k q:=by
 unfold bnd at hb
 split at hc
 ·simp at hb; exact .inl ⟨rfl,rfl,hb.symm⟩
 ·rename_i x' x
  have g:=kD h hc (hg x (by simp))
  simp only at hb
  split at hb
  ·rename_i k m e1
   simp at hb
   subst hb
   rw [e1] at g
   exact .inr ⟨x',k,rfl,pM g⟩
  ·cases hb
 ·cases hc
def Ey (n:Nat) (lo':Option Operand) (lo:Option kS):Bool:=match lo',lo with | none,none=>true | some x',some x=>iW n x' x | _,_=>false
theorem AZ {lo:Option kS} {lo':Option Operand} {d:Nat} {q:Int} (h:(lo'=none/\lo=none/\q=d)\/∃ x' k,lo'=some x'/\a.eval x' = .int k q) :
  lo'.map a.eval=none/\q=d\/∃ k,lo'.map a.eval=some (.int k q):=by
 rcases h with ⟨rfl,_,e⟩ | ⟨y,k,rfl,e⟩
 ·exact .inl ⟨rfl,e⟩
 ·exact .inr ⟨k,by simp [e]⟩
theorem run_sliceBound {k:IntKind} {i:Int} {y:Nat} {c:BoundsCode} (h0:0<=i) (h1:i<=y):(Instr.sliceBound (.int k i) y c).run P w = .ok i.toNat w:=by
 simp [Instr.sliceBound,asIntOf,h0,h1]
theorem uf (isS:Bool) (len cap:Nat) (lo' hi':Option Value) {p q:Int} (hlo:lo'=none/\p=0\/∃ k,lo'=some (.int k p)) (hhi:hi'=none/\q=len\/∃ k,hi'=some (.int k q))
  (h0:0<=p) (h1:p<=q) (h2:q<=cap):(Instr.sliceBounds isS len cap lo' hi' none).run P w = .ok (p.toNat,q.toNat,cap) w:=by
 rcases hlo with ⟨rfl,rfl⟩ | ⟨k,rfl⟩<;>rcases hhi with ⟨rfl,rfl⟩ | ⟨k',rfl⟩<;>cases isS <;>
  simp (disch:=omega) [Instr.sliceBounds,run_sliceBound]
def Hf (P:Program) (n:Nat) (op:Op) (x:kS) (lo hi:Option kS):Bool:=match op with | .slice t x' lo' hi' none=>iW n x' x&&Ey n lo' lo&&Ey n hi' hi&&EN P t | _=>false
theorem PN {o:Oper} {x:kS} {lo hi:Option kS} {s:List UInt8} {p q:Int} (h:GX E I ρ n st a w) (hc:Hf P n o.op x lo hi=true) (hx:(x.ev st.tm).g=true)
  (hgl:∀ x,x∈lo.toList->(x.ev st.tm).g=true) (hgh:∀ x,x∈hi.toList->(x.ev st.tm).g=true)
  (e1:bK st.tm x=zn s) (e2:bnd (bK st.tm) lo 0=some p) (e3:bnd (bK st.tm) hi s.length=some q) (h0:0<=p) (h1:p<=q) (h2:q<=s.length) :
  kY P E n o a w st (zn ((s.take q.toNat).drop p.toNat)):=by
 unfold Hf at hc
 split at hc
 ·rename_i t x' lo' hi' he
  simp only [Bool.and_eq_true] at hc
  have g1:=kD h hc.1.1.1 hx
  have ht:=xK hc.2
  rw [e1] at g1
  obtain ⟨v1,hl⟩:=xW g1
  have b1:=yj h hc.1.1.2 hgl e2
  have b2:=yj h hc.1.2 hgh e3
  have hb:=uf (P:=P) (w:=w) false s.length s.length (lo'.map a.eval) (hi'.map a.eval) (p:=p) (q:=q)
   (AZ b1) (AZ b2) h0 h1 h2
  have hx:(⟨⟨s⟩⟩:ByteArray).extract p.toNat q.toNat=⟨⟨(s.take q.toNat).drop p.toNat⟩⟩:=by
   rw [Lib.extract_eq]
   simp [List.drop_take]
  refine kY.val h (v := .string ⟨⟨(s.take q.toNat).drop p.toNat⟩⟩) ?_ (KO (by simp; omega))
  simp only [execOp,he,Instr.sliceAt,Instr.slice,v1,Option.map_none]
  simp [run_underlying ht]
  rw [show (⟨⟨s⟩⟩:ByteArray).size=s.length from rfl,hb]
  simp [hx]
 ·cases hc
def JD (sz:Nat) (x:AV) (lo:Option Int) (hi:Nat->Option Int):FR:=match x with
    | .one (.c (.sl sz' es))=>match lo,hi es.length with
      | some a,some b=>⟨sz'=sz/\0<=a/\a<=b/\b<=es.length,Lt sz ((es.take b.toNat).drop a.toNat),[]⟩
      | _,_ => .bad
    | .one (.cO sz')=>match lo,hi 0 with
      | some a,some b=>⟨a=0/\b=0,.one (.cO sz'),[]⟩
      | _,_ => .bad
    | .one (.own l n sz')=>match lo,hi n with
      | some a,some b=>⟨a=0/\0<=b/\b<=n,.one (.own l b.toNat sz'),[]⟩
      | _,_ => .bad
    | _ => .bad
theorem Yk {v:Value} {sz:Nat} {es:List (List Cell)} (h:Rd I v (.sl sz es)) {p q:Nat} (hpq:p<=q) (hq:q<=es.length):∃ a cap,v = .slice a es.length cap/\es.length<=cap /\
    Rd I (.slice (if cap=p then a else a.map (·.add (p*sz))) (q-p) (cap-p)) (.sl sz ((es.take q).drop p)):=by
  cases h with | sl a len cap sz es u hlen hcap hmax hsz ha hcell hr =>
  subst hlen
  refine ⟨a,cap,rfl,hcap,?_⟩
  refine Rd.sl _ _ _ _ _ (fun i j=>u (p+i) j) (by simp; omega) (by omega) (by omega) ?_ ?_ ?_ ?_
  · intro e he
    exact hsz e (List.mem_of_mem_take (List.mem_of_mem_drop he))
  · intro h0
    rw [if_neg (by omega)]
    have:=ha (by omega)
    cases a with
    | none=>exact absurd rfl this
    | some ad=>simp
  · intro ad had i j hi hj
    rw [if_neg (by omega)] at had
    cases a with
    | none=>simp at had
    | some ad' =>
      simp at had
      subst had
      rw [Addr.add_add,<- hcell ad' rfl (p+i) j (by omega) hj]
      congr 2
      rw [Nat.add_mul,Nat.add_assoc]
  · intro i j c hc
    have hi:=jy hc
    simp at hi
    refine hr (p+i) j c ?_
    rw [<- hc]
    congr 1
    simp only [List.getD]
    rw [List.getElem?_drop,List.getElem?_take,if_pos (by omega)]
def Ku (P:Program) (n:Nat) (op:Op) (sz:Nat) (x:kS) (lo hi:Option kS):Bool:=match op with | .slice t x' lo' hi' none=>iW n x' x&&Ey n lo' lo&&Ey n hi' hi&&CE P t sz | _=>false
theorem Tc {o:Oper} {sz:Nat} {x:kS} {lo hi:Option kS} (h:GX E I ρ n st a w) (hc:Ku P n o.op sz x lo hi=true) (hx:(x.ev st.tm).g=true)
  (hgl:∀ x,x∈lo.toList->(x.ev st.tm).g=true) (hgh:∀ x,x∈hi.toList->(x.ev st.tm).g=true)
  (iC:(JD sz (bK st.tm x) (bnd (bK st.tm) lo 0) (bnd (bK st.tm) hi)).vc):kY P E n o a w st (JD sz (bK st.tm x) (bnd (bK st.tm) lo 0) (bnd (bK st.tm) hi)).v:=by
 unfold Ku at hc
 split at hc
 ·rename_i t x' lo' hi' he
  simp only [Bool.and_eq_true] at hc
  have g1:=kD h hc.1.1.1 hx
  obtain ⟨e,ti,ht,hti,hsz⟩:=uz hc.2
  have key:∀ (b:Option Addr) (len cap:Nat) (p q:Int),a.eval x' = .slice b len cap->len<=cap->bnd (bK st.tm) lo 0=some p->bnd (bK st.tm) hi len=some q->0<=p->p<=q->q<=cap ->
    (execOp a.eval o).run P w = .ok (.value (.slice (if cap=p.toNat then b else b.map (·.add (p.toNat*sz))) (q.toNat-p.toNat) (cap-p.toNat))) w:=by
   intro b len cap p q hv hlc e2 e3 h0 h1 h2
   have b1:=yj h hc.1.1.2 hgl e2
   have b2:=yj h hc.1.2 hgh e3
   have hb:=uf (P:=P) (w:=w) true len cap (lo'.map a.eval) (hi'.map a.eval) (p:=p) (q:=q)
    (AZ b1) (AZ b2) h0 h1 h2
   simp only [execOp,he,Instr.sliceAt,Instr.slice,hv,Option.map_none]
   simp [run_underlying ht]
   rw [hb]
   simp [sizeOf,typeInfo,hti,hsz]
  unfold JD at iC ⊢
  split at iC
  ·rename_i sz' es e1
   rw [e1] at g1
   split at iC
   ·rename_i p q e2 e3
    obtain ⟨rfl,h0,h1,h2⟩:=iC
    obtain ⟨b,cap,hv,hcap,hr⟩:=Yk g1 (p:=p.toNat) (q:=q.toNat) (by omega) (by omega)
    exact kY.val h (key b _ cap p q hv hcap e2 e3 h0 h1 (by omega)) hr
   ·exact iC.elim
  ·rename_i sz' e1
   rw [e1] at g1
   split at iC
   ·rename_i p q e2 e3
    obtain ⟨rfl,rfl⟩:=iC
    have:=key none 0 0 0 0 g1 (Nat.le_refl _) e2 e3 (by omega) (by omega) (by omega)
    exact kY.val h this (by simp [GV,GC])
   ·exact iC.elim
  ·rename_i b m sz' e1
   rw [e1] at g1
   split at iC
   ·rename_i p q e2 e3
    obtain ⟨rfl,h1,h2⟩:=iC
    obtain ⟨kk,cap,ad,c,hr,hv,hm,hcc,hcap⟩:=g1
    have:=key ad m c 0 q hv hm e2 e3 (by omega) (by omega) (by omega)
    refine kY.val h this ⟨kk,cap,_,_,hr,rfl,by omega,by omega,fun hc0 => ?_⟩
    rw [hcap hc0]
    simp [Addr.add_zero]
   ·exact iC.elim
  ·exact iC.elim
 ·cases hc
def He (P:Program) (n:Nat) (op:Op) (sz m:Nat) (x:kS):Bool:=match op with | .slice t x' none none none=>iW n x' x&&DF P t sz m | _=>false
theorem PM {o:Oper} {sz m b:Nat} {es:List (List Cell)} {x:kS} (h:GX E I ρ n st a w) (hc:He P n o.op sz m x=true) (hx:(x.ev st.tm).g=true)
  (e1:bK st.tm x = .one (.qR b 0 sz 0)) (e2:st.bx b = .dat sz es) (hm:es.length=m):kY P E n o a w st (.one (.own b m sz)):=by
 unfold He at hc
 split at hc
 ·rename_i t x' he
  simp only [Bool.and_eq_true] at hc
  have g1:=kD h hc.1 hx
  rw [e1] at g1
  obtain ⟨kk,cap,hr,hv⟩:=g1
  obtain ⟨e,ti,ht,hi',hsz⟩:=DI hc.2
  have facts:=GS.yh h (b:=b) (by rw [e2]; rfl) hr
  refine kY.val h (v := .slice (some ⟨kk,0,none⟩) m m) ?_ ⟨kk,cap,_,_,hr,rfl,Nat.le_refl _,by omega,fun _=>rfl⟩
  have hb:=uf (P:=P) (w:=w) false m m none none (p:=0) (q:=m) (.inl ⟨rfl,rfl⟩) (.inl ⟨rfl,rfl⟩) (by omega) (by omega) (by omega)
  simp only [execOp,he,Instr.sliceAt,hv,Option.map_none]
  simp [run_underlying ht,Instr.sureAddr]
  rw [hb]
  simp [sizeOf,typeInfo,hi',Addr.add_zero]
 ·cases hc
end
end Go.Ab
end
section
namespace Go.Ab
open Go
section
variable {P:Program} {E:Env P} {I:IH} {ρ:Ren} {n:Nat} {st:dB} {a:Act} {w:World}
theorem l9 {α:Type} (xs ys:List α) (off j:Nat) (h:off+ys.length<=xs.length):(splice xs off ys)[j]? = if j<off then xs[j]? else if j<off+ys.length then ys[j-off]? else xs[j]? := by
 unfold splice
 have h1:(xs.take off).length=off:=by simp; omega
 by_cases hj:j<off
 ·rw [if_pos hj,List.append_assoc,List.getElem?_append_left (by omega),List.getElem?_take,if_pos hj]
 ·rw [if_neg hj]
  by_cases hj2:j<off+ys.length
  ·rw [if_pos hj2,List.getElem?_append_left (by simp; omega),List.getElem?_append_right (by omega),h1]
  ·rw [if_neg hj2,List.getElem?_append_right (by simp; omega),List.getElem?_drop]
   congr 1
   simp
   omega
theorem length_splice {α:Type} (xs ys:List α) (off:Nat) (h:off+ys.length<=xs.length):(splice xs off ys).length=xs.length:=by
 unfold splice; simp; omega
theorem H7 {α:Type} (vs:List α):∀ (i off:Nat) (cs:Array α),off+i+vs.length<=cs.size ->
    ((vs.zipIdx i).foldl (fun cs p=>cs.setIfInBounds (off+p.2) p.1) cs).toList=splice cs.toList (off+i) vs:=by
  induction vs with
  | nil=>intro i off cs h; simp [splice]
  | cons v r ih =>
    intro i off cs h
    simp only [List.zipIdx_cons,List.foldl_cons]
    rw [ih (i+1) off _ (by simp at h ⊢; omega)]
    apply List.ext_getElem?
    intro j
    simp only [List.length_cons] at h
    rw [l9 _ _ _ _ (by simp; omega),l9 _ _ _ _ (by simp; omega)]
    simp only [Array.toList_setIfInBounds,List.getElem?_set,List.length_cons]
    by_cases h1:j<off+i
    · rw [if_pos (by omega),if_neg (by omega),if_pos h1]
    · rw [if_neg h1]
      by_cases h2:j=off+i
      · subst h2
        rw [if_pos (by omega),if_pos rfl,if_pos (by simp; omega),if_pos (by omega)]
        simp
      · rw [if_neg (by omega)]
        by_cases h3:j<off+(i+1)+r.length
        · rw [if_pos h3,if_pos (by omega)]
          rw [show j-(off+i)=(j-(off+(i+1)))+1 by omega,List.getElem?_cons_succ]
        · rw [if_neg h3,if_neg (by omega),if_neg (by omega)]
theorem foldl_set (v:Array Value) (off:Nat) (cs:Array Value) (h:off+v.size<=cs.size) :
  (v.zipIdx.foldl (fun cs (p:Value × Nat)=>cs.setIfInBounds (off+p.2) p.1) cs).toList=splice cs.toList off v.toList:=by
 have:=H7 v.toList 0 off cs (by simpa using h)
 rw [Nat.add_zero] at this
 rw [<- this,<- Array.foldl_toList,Array.toList_zipIdx]
theorem AP.splice {vs us:List Value} {xs ys:List AC} (h:AP I ρ vs xs) (k:AP I ρ us ys) (off:Nat) (hl:off+ys.length<=xs.length):AP I ρ (splice vs off us) (splice xs off ys):=by
 have ZP:off+us.length<=vs.length:=by rw [h.1,k.1]; exact hl
 refine ⟨by rw [length_splice _ _ _ ZP,length_splice _ _ _ hl]; exact h.1,fun j v x hv hx => ?_⟩
 rw [l9 _ _ _ _ ZP] at hv
 rw [l9 _ _ _ _ hl] at hx
 rw [k.1] at hv
 by_cases h1:j<off
 ·rw [if_pos h1] at hv hx; exact h.2 j v x hv hx
 ·rw [if_neg h1] at hv hx
  by_cases h2:j<off+ys.length
  ·rw [if_pos h2] at hv hx; exact k.2 _ v x hv hx
  ·rw [if_neg h2] at hv hx; exact h.2 j v x hv hx
theorem Ad {v:Value} {x:AV} (h:GV I ρ v x) (ht:x.flat):AP I ρ v.cells.toList x.cells:=by
  cases x with
  | one x =>
    have h1:=GC.one h
    have hc:v.cells = #[v]:=by cases v<;>first | rfl | (simp [Value.oneCell'] at h1; done)
    rw [hc]
    exact ⟨rfl,fun j u y hu hy=>by cases j with
      | zero=>simp at hu; simp [AV.cells] at hy; subst hu; subst hy; exact h
      | succ j=>simp at hu⟩
  | agg xs=>obtain ⟨cs,rfl,hg⟩:=h; exact hg
  | o8 ps=>exact ht.elim
def Ei (zs:List Value) (xs:List AC):Bool:=zs.length==xs.length&&(zs.zip xs).all fun p=>Wx p.1 p.2
theorem zy {zs:List Value} {xs:List AC} (h:Ei zs xs=true):AP I ρ zs xs:=by
 unfold Ei at h
 simp only [Bool.and_eq_true,beq_iff_eq,List.all_eq_true] at h
 refine ⟨h.1,fun j v x hv hx=>Qe (h.2 (v,x) ?_)⟩
 exact List.mem_of_getElem? (i:=j) (by simp [List.getElem?_zip_eq_some,hv,hx])
def Bq (P:Program) (n:Nat) (fs:Array Field):List (Nat × Operand)->List (Nat × Nat × kS)->Bool
 | [],[]=>true
 | (i,x)::r,(off,sz,y)::r'=>(match fs[i]? with
   | some f=>f.offset==off&&Ff P f.type sz
   | none=>false)&&iW n x y&&Bq P n fs r r'
 | _,_=>false
theorem run_places (w:World) (fs:List Field) (h:fs.all (fun f=>(P.info? f.type).isSome)=true) :
    (fs.mapM (m:=Sem) fun f=>do pure (f.offset,<- sizeOf f.type)).run P w = .ok (fs.map fun f=>(f.offset,P.cellsOf f.type)) w:=by
  induction fs with
  | nil=>rfl
  | cons f r ih =>
    simp only [List.all_cons,Bool.and_eq_true] at h
    cases hi:P.info? f.type with
    | none=>rw [hi] at h; cases h.1
    | some i =>
      have h1:(sizeOf f.type).run P w = .ok (P.cellsOf f.type) w:=by simp [sizeOf,typeInfo,hi,Program.cellsOf]
      simp only [List.mapM_cons,Sem.run_bind,h1,Result.andThen_ok,Sem.run_pure,ih h.2,List.map_cons]
def Qb (P:Program) (n:Nat) (t:TypeId) (zs:List AC) (ps:List (Nat × Operand)) (ps':List (Nat × Nat × kS)):Bool :=
 match P.underlying t,P.info? t with
 | some (.struct fs),some i=>(match i.zero with | some (.agg cs)=>Ei cs.toList zs | _=>false)&&fs.toList.all (fun f=>(P.info? f.type).isSome)&&Bq P n fs ps ps'
 | _,_=>false
def GU (P:Program) (n:Nat) (op:Op) (zs:List AC) (ps':List (Nat × Nat × kS)):Bool:=match op with | .build t ps=>Qb P n t zs ps.toList ps' | _=>false
theorem OH {t:TypeId} {k:Nat} (h:Ff P t k=true):P.cellsOf t=k:=by
 obtain ⟨i,hi,hs⟩:=Ar h
 simp [Program.cellsOf,hi,hs]
theorem Qk {fs:Array Field} (h:GX E I ρ n st a w):∀ (ps:List (Nat × Operand)) (ps':List (Nat × Nat × kS)) (cs:Array Value) (xs:List AC),Bq P n fs ps ps'=true->AP I ρ cs.toList xs ->
    (∀ p,p∈ps'->(p.2.2.ev st.tm).g=true)->(∀ p,p∈ps'->KW xs.length (p.1,p.2.1,bK st.tm p.2.2)) ->
    ∃ cs',Instr.fill ((fs.map fun f=>(f.offset,P.cellsOf f.type))[·]?) cs (ps.map fun p=>(p.1,a.eval p.2))=some cs'/\AP I ρ cs'.toList (Hy xs (ps'.map fun p=>(p.1,(bK st.tm p.2.2).cells)))
  | [],[],cs,xs,_,hg,_,_=>⟨cs,rfl,hg⟩
  | [],_::_,_,_,h,_,_,_=>by simp [Bq] at h
  | _::_,[],_,_,h,_,_,_=>by simp [Bq] at h
  | (i,x)::r,(off,sz,y)::r',cs,xs,hp,hg,hv,hq=>by
    simp only [Bq,Bool.and_eq_true] at hp
    obtain ⟨⟨hf,hx⟩,hr⟩:=hp
    split at hf
    · rename_i f hfi
      simp only [Bool.and_eq_true,beq_iff_eq] at hf
      obtain ⟨rfl,hsz⟩:=hf
      have hs:=OH hsz
      have g:=kD h hx (hv _ (List.mem_cons_self ..))
      obtain ⟨q1,q2,q3⟩:=hq _ (List.mem_cons_self ..)
      have gc:=Ad g q3
      have hvs:(a.eval x).cells.size=sz:=by have:=gc.1; simp at this; rw [this]; exact q1
      have hcs:cs.size=xs.length:=by have:=hg.1; simpa using this
      have q1:(bK st.tm y).cells.length=sz:=q1
      have q2:f.offset+sz<=xs.length:=q2
      have hgs:=hg.splice gc f.offset (by rw [q1]; exact q2)
      have hfold:=foldl_set (a.eval x).cells f.offset cs (by omega)
      have ih:=Qk h r r' ((a.eval x).cells.zipIdx.foldl (fun cs (p:Value × Nat)=>cs.setIfInBounds (f.offset+p.2) p.1) cs) (splice xs f.offset (bK st.tm y).cells) hr (by rw [hfold]; exact hgs)
        (fun p hp=>hv p (by simp [hp])) (fun p hp=>by rw [length_splice _ _ _ (by rw [q1]; exact q2)]; exact hq p (by simp [hp]))
      obtain ⟨cs',h1,h2⟩:=ih
      refine ⟨cs',?_,?_⟩
      · have hpl:(fs.map fun f=>(f.offset,P.cellsOf f.type))[i]? = some (f.offset,sz):=by rw [Array.getElem?_map,hfi,<- hs]; rfl
        simp only [List.map_cons,Instr.fill,hpl]
        rw [if_neg (by simp; omega)]
        exact h1
      · simpa only [List.map_cons,Hy] using h2
    · cases hf
theorem OE {o:Oper} {zs:List AC} {ps:List (Nat × Nat × kS)} (h:GX E I ρ n st a w) (hc:GU P n o.op zs ps=true) (hv:∀ p,p∈ps->(p.2.2.ev st.tm).g=true)
  (hq:∀ p,p∈ps->KW zs.length (p.1,p.2.1,bK st.tm p.2.2)):kY P E n o a w st (.agg (Hy zs (ps.map fun p=>(p.1,(bK st.tm p.2.2).cells)))):=by
 unfold GU at hc
 split at hc
 ·rename_i t ps0 he
  unfold Qb at hc
  split at hc
  ·rename_i fs i hs hi
   simp only [Bool.and_eq_true] at hc
   obtain ⟨⟨hz,hall⟩,hp⟩:=hc
   split at hz
   ·rename_i cs hzero
    obtain ⟨cs',h1,h2⟩:=Qk (P:=P) h ps0.toList ps cs zs hp (zy hz) hv hq
    refine kY.val h (v := .agg cs') ?_ ⟨cs',rfl,h2⟩
    have hpl:=run_places (P:=P) w fs.toList hall
    have hpl':(fs.mapM (m:=Sem) fun f=>do pure (f.offset,<- sizeOf f.type)).run P w = .ok (fs.map fun f=>(f.offset,P.cellsOf f.type)) w:=by
     rw [Array.mapM_eq_mapM_toList,Sem.run_map,hpl]
     simp only [Result.andThen_ok]
     congr 1
     apply Array.ext'
     simp
    have WX:(zeroValue t).run P w = .ok (.agg cs) w:=by simp [zeroValue,typeInfo,hi,hzero]
    have hps:(ps0.map fun (i,x)=>(i,a.eval x)).toList=ps0.toList.map fun p=>(p.1,a.eval p.2):=by simp
    simp only [execOp,he,Instr.build,Sem.run_bind,WX,Result.andThen_ok,Value.cells,run_underlying hs,hpl',hps,h1,Sem.run_pure]
   ·cases hz
  ·cases hc
 ·cases hc
def Src (I:IH) (w:World) (v:Value) (sz:Nat) (es:List (List Cell)):Prop :=
  ∃ (b:Option Addr) (cap:Nat),v = .slice b es.length cap/\es.length<=maxLen/\(∀ e,e∈es->e.length=sz)/\(0<es.length->b ≠ none) /\
    ∀ ad,b=some ad->∀ i j c,(es.getD i [])[j]? = some c->∃ u,w.cell? (ad.add (i*sz+j))=some u/\Rd I u c
theorem src_ok (h:GX E I ρ n st a w) {v:Value} {x:AV} {sz:Nat} {p:Prop} {es:List (List Cell)} (hv:GV I ρ v x) (hs:iV sz x st.bx=some (p,es)) (hp:p):Src I w v sz es:=by
 unfold iV at hs
 split at hs
 ·rename_i sz' es'
  simp only [Option.some.injEq,Prod.mk.injEq] at hs
  obtain ⟨rfl,rfl⟩:=hs
  subst hp
  cases hv with | sl b len cap _ _ u hlen hcap hmax hsz ha hcell hr =>
  subst hlen
  refine ⟨b,cap,rfl,by omega,hsz,ha,fun ad had i j c hc => ?_⟩
  have hi:=jy hc
  have hj:j<sz':=by
   have:=hsz (es'.getD i []) (by simp [List.getD,List.getElem?_eq_getElem hi])
   rw [<- this]; exact (List.getElem?_eq_some_iff.1 hc).1
  exact ⟨_,h.agree.cell (hcell ad had i j hi hj),hr i j c hc⟩
 ·simp at hs
  obtain ⟨_,rfl⟩:=hs
  simp only [GV,GC] at hv
  exact ⟨none,0,hv,by simp,by simp,by simp,fun ad had=>by cases had⟩
 ·rename_i b m sz'
  split at hs
  ·rename_i sJ es' hb
   simp only [Option.some.injEq,Prod.mk.injEq] at hs
   obtain ⟨rfl,rfl⟩:=hs
   obtain ⟨rfl,rfl,hm⟩:=hp
   obtain ⟨k,cap,ad,c,hr,rfl,hmc,hcc,ha⟩:=hv
   have facts:=GS.yh h hb hr
   have hlen:(es'.take m).length=m:=by simp; omega
   refine ⟨ad,c,by rw [hlen],by omega,fun e he=>facts.2.2 e (List.mem_of_mem_take he),fun h0=>by rw [ha (by omega)]; simp,fun q hq i j cc hc => ?_⟩
   have hi:=jy hc
   rw [hlen] at hi
   have hq':q=⟨k,0,none⟩:=by have:=ha (by omega); rw [hq] at this; simpa using this
   subst hq'
   have hc':(es'.getD i [])[j]? = some cc:=by
    rw [<- hc]; congr 1
    simp only [List.getD]
    rw [List.getElem?_take,if_pos hi]
   obtain ⟨u,hu,hg⟩:=GS.AU h hb hr (by omega) (i:=i) (by omega) j (.c cc) (by rw [List.getElem?_map,hc']; rfl)
   refine ⟨u,?_,hg⟩
   rw [Addr.qJ] at hu ⊢
   rw [<- hu]; congr 2; simp
  ·cases hs
 ·rename_i b lo m c0 sz'
  split at hs
  ·rename_i sJ es' hb
   simp only [Option.some.injEq,Prod.mk.injEq] at hs
   obtain ⟨rfl,rfl⟩:=hs
   obtain ⟨rfl,rfl,hm⟩:=hp
   obtain ⟨k,cap,ad,c,hr,rfl,hmc,hcc,_,ha⟩:=hv
   have facts:=GS.yh h hb hr
   have hlen:((es'.drop lo).take m).length=m:=by simp; omega
   refine ⟨ad,c,by rw [hlen],by omega,fun e he=>facts.2.2 e (List.mem_of_mem_drop (List.mem_of_mem_take he)),fun h0=>by rw [ha (.inl (by omega))]; simp,fun q hq i j cc hc => ?_⟩
   have hi:=jy hc
   rw [hlen] at hi
   have hq':q=⟨k,lo*sJ,none⟩:=by have:=ha (.inl (by omega)); rw [hq] at this; simpa using this
   subst hq'
   have hc':(es'.getD (lo+i) [])[j]? = some cc:=by
    rw [<- hc]; congr 1
    simp only [List.getD]
    rw [List.getElem?_take,if_pos hi,List.getElem?_drop]
   obtain ⟨u,hu,hg⟩:=GS.AU h hb hr (by omega) (i:=lo+i) (by omega) j (.c cc) (by rw [List.getElem?_map,hc']; rfl)
   refine ⟨u,?_,hg⟩
   rw [Addr.qJ] at hu ⊢
   rw [<- hu]; congr 2; rw [Nat.add_mul,Nat.add_assoc]
  ·cases hs
 ·cases hs
theorem JU {es:List (List Cell)} {l:List UInt8} (h:bytesOf es=some l):∃ ns:List Int,es=ns.map (fun m=>[Cell.lit (.int .u8 m)])/\l=ns.map fun m=>UInt8.ofNat m.toNat:=by
  induction es generalizing l with
  | nil=>simp [bytesOf] at h; exact ⟨[],rfl,h⟩
  | cons e r ih =>
    unfold bytesOf at h
    split at h
    · rename_i e; cases e
    · rename_i m r' e
      simp only [List.cons.injEq] at e
      obtain ⟨rfl,rfl⟩:=e
      split at h
      · rename_i l' hl
        obtain ⟨ns,rfl,rfl⟩:=ih hl
        simp at h
        exact ⟨m::ns,rfl,h.symm⟩
      · cases h
    · cases h
theorem foldl_push (ns:List Int):∀ s:ByteArray,(ns.foldl (fun r m=>r.push (UInt8.ofNat m.toNat)) s).data.toList=s.data.toList++ns.map fun m=>UInt8.ofNat m.toNat:=by
 induction ns with
 | nil=>intro s; simp
 | cons m r ih=>intro s; rw [List.foldl_cons,ih,List.map_cons]; simp [ByteArray.push]
theorem SK {b:Option Addr} {cap:Nat} {ns:List Int} {v:Value} (hv:v = .slice b ns.length cap) (h0:0<ns.length->b ≠ none)
    (hc:∀ ad,b=some ad->∀ j m,ns[j]? = some m->w.cell? (ad.add j)=some (.int .u8 m)):(Conv.bytesToString v).run P w = .ok (.string ⟨⟨ns.map fun m=>UInt8.ofNat m.toNat⟩⟩) w:=by
  subst hv
  cases b with
  | none =>
    cases ns with
    | nil=>simp [Conv.bytesToString,Sem.run_pure]; rfl
    | cons m r=>exact absurd rfl (h0 (by simp))
  | some ad =>
    have hl:=run_loadCells_list (P:=P) w ad (ns.map (Value.int .u8)) (fun j v hj=>by
      rw [List.getElem?_map] at hj
      cases hq:ns[j]? with
      | none=>rw [hq] at hj; cases hj
      | some m=>rw [hq] at hj; simp at hj; subst hj; exact hc ad rfl j m hq)
    rw [List.length_map] at hl
    rw [run_bytesToString w ad ns.length cap ns hl]
    congr 2
    apply ByteArray.ext
    apply Array.ext'
    rw [foldl_push]
    simp
def J3 (P:Program) (n:Nat) (op:Op) (x:kS):Bool :=
 match op with
 | .convert s d x'=>iW n x' x&&EN P d&&(match P.underlying s with | some (.slice e)=>(match P.underlying e with | some (.int .u8)=>true | _=>false) | _=>false)
 | _=>false
theorem Rl {o:Oper} {x:kS} {p:Prop} {es:List (List Cell)} {l:List UInt8} (h:GX E I ρ n st a w) (hc:J3 P n o.op x=true) (hx:(x.ev st.tm).g=true)
  (hs:iV 1 (bK st.tm x) st.bx=some (p,es)) (hp:p) (hb:bytesOf es=some l) (hl:l.length<=maxLen):kY P E n o a w st (zn l):=by
 unfold J3 at hc
 split at hc
 ·rename_i s d x' he
  simp only [Bool.and_eq_true] at hc
  have g:=kD h hc.1.1 hx
  have hd:=xK hc.1.2
  obtain ⟨_,ht⟩:=hc
  split at ht
  ·rename_i e hse
   split at ht
   ·rename_i hee
    obtain ⟨b,cap,hv,_,_,h0,hcell⟩:=src_ok h g hs hp
    obtain ⟨ns,rfl,rfl⟩:=JU hb
    have hr:=SK (P:=P) (w:=w) (b:=b) (cap:=cap) (ns:=ns) (v:=a.eval x') (by rw [hv]; simp) (by simpa using h0) (fun ad had j m hj=>by
     obtain ⟨u,hu,hrd⟩:=hcell ad had j 0 (.lit (.int .u8 m)) (by simp [List.getD,List.getElem?_map,hj])
     cases hrd with | lit v hv =>
     simpa using hu)
    have hcv:=run_convert_bytes_string (P:=P) w s d e b (ns.map fun m=>[Cell.lit (.int .u8 m)]).length cap hse hee hd
    rw [<- hv] at hcv
    exact kY.val h (by simp only [execOp,he,Sem.run_bind,hcv,hr,Result.andThen_ok,Sem.run_pure]) (KO hl)
   ·cases ht
  ·cases ht
 ·cases hc
end
end Go.Ab
end
section
namespace Go.Ab
open Go
section
variable {P:Program} {E:Env P} {I:IH} {ρ:Ren} {n:Nat} {st:dB} {a:Act} {w:World}
def tN:Box->Prop
 | .absent=>True
 | _=>False
theorem rG {x:Box} (h:tN x):x = .absent:=by cases x<;>first | rfl | exact h.elim
theorem Qv (h:GX E I ρ n st a w) {l:Nat} (hl:st.bx l = .absent) (hm:E.m<=l) (cs:Array Value) (e:TypeId) (xs:List AC) (hg:AP I ρ cs.toList xs) :
  ∃ ρ',GX E I ρ' n (st.qc l (.var xs)) a (w.alloc (.cells cs e))/\GV I ρ' (.pointer (some ⟨w.heap.size,0,none⟩)) (.one (.ptr l 0)):=by
 have hrl:ρ l=none:=by have:=h.bx.ok l; rwa [hl] at this
 refine ⟨ρ.set l w.heap.size e,GX.new h hl hm cs e e _ ?_,w.heap.size,e,Ren.kE _ _ _ _,rfl⟩
 refine ⟨w.heap.size,e,cs,Ren.kE _ _ _ _,heap_alloc_new w _,by simpa using hg.1,fun j u x hu hx => ?_⟩
 exact (hg.2 j u x (by simpa using hu) hx).mono (IH.le_refl I) (Ren.CS hrl)
theorem Bo (h:GX E I ρ n st a w) {l:Nat} (hl:st.bx l = .absent) (hm:E.m<=l) (cs:Array Value) (e:TypeId) (cap sz:Nat) (es:List (List Cell)) (hcs:cs.size=cap*sz) (hle:es.length<=cap) (hcap:cap<=maxLen)
  (hsz:∀ x,x∈es->x.length=sz) (h1:∀ (j:Nat) (u:Value),cs[j]? = some u->u.oneCell'=true) (hd:∀ (i j:Nat) (c:Cell),(es.getD i [])[j]? = some c->∃ u,cs[i*sz+j]? = some u/\Rd I u c) :
  GX E I (ρ.set l w.heap.size cap) n (st.qc l (.dat sz es)) a (w.alloc (.cells cs e)):=by
 refine GX.new h hl hm cs e cap _ ⟨w.heap.size,cap,Ren.kE _ _ _ _,hle,hcap,hsz,fun _=>⟨cs,e,heap_alloc_new w _,hcs,h1,hd⟩⟩
def GR (P:Program) (op:Op) (zs:List AC):Bool:=match op with | .alloc t=>(match P.info? t with | some i=>(match i.zero with | some z=>Ei z.cells.toList zs | none=>false) | none=>false) | _=>false
theorem zh (w:World) (t:TypeId) (v:Value):(newVar t v).run P w = .ok ⟨w.heap.size,0,none⟩ (w.alloc (.cells v.cells t)):=by
 simp [newVar,newRow]
theorem Ox {o:Oper} {l:Nat} {zs:List AC} (h:GX E I ρ n st a w) (hc:GR P o.op zs=true) (hm:E.m<=l) (hl:tN (st.bx l)):kY P E n o a w (st.qc l (.var zs)) (.one (.ptr l 0)):=by
 unfold GR at hc
 split at hc
 ·rename_i t he
  split at hc
  ·rename_i i hi
   split at hc
   ·rename_i z hz
    obtain ⟨ρ',h1,h2⟩:=Qv h (rG hl) hm z.cells t zs (zy hc)
    have WX:(zeroValue t).run P w = .ok z w:=by simp [zeroValue,typeInfo,hi,hz]
    exact ⟨_,_,I,ρ',.inl (by simp only [execOp,he,Instr.alloc,Sem.run_bind,WX,Result.andThen_ok,zh,Sem.run_pure]),h1,fun _=>h2⟩
   ·cases hc
  ·cases hc
 ·cases hc
theorem GX.ZC (h:GX E I ρ n st a w) {r:Nat} (hr:st.bx r = .absent) (hm:E.m<=r) (e:Nat):GX E I (ρ.set r 0 0) n (st.qc r (.row e [])) a w:=by
 have hrl:ρ r=none:=by have:=h.bx.ok r; rwa [hr] at this
 have hle:=Ren.CS (ρ:=ρ) (k:=0) (cap:=0) hrl
 have hu:∀ k,¬ (Box.row e []).uses ((ρ.set r 0 0) r) k:=fun k hk=>by
  obtain ⟨c,hc,h0⟩:=hk
  rw [Ren.kE] at hc
  simp only [Option.some.injEq,Prod.mk.injEq] at hc
  exact h0 hc.2.symm
 refine { agree:=h.agree,bx:=BX.step (fun b=>b=r) h.bx (IH.le_refl I) hle ?_ ?_ ?_ ?_ ?_ ?_,tm:=fun t ht=>(h.tm t ht).mono (IH.le_refl _) hle,size:=h.size,defers:=h.defers,yT:=h.yT,own := ?_,Gp:=h.Gp,xy:=h.xy,pW := ?_ }
 ·intro b hb
  exact ⟨by simp [dB.qc,hb],Ren.oO hb⟩
 ·intro b k hb hk; rfl
 ·rintro b rfl
  simp only [dB.lU,if_true]
  exact ⟨0,0,Ren.kE _ _ _ _,Nat.le_refl _,Nat.zero_le _,fun h=>absurd rfl h⟩
 ·rintro b k rfl hk
  simp only [dB.lU,if_true] at hk
  exact (hu k hk).elim
 ·rintro b b' k rfl rfl _ _; rfl
 ·intro b k hb hk; exact h.bx.fresh b k hk
 ·intro b k hk
  simp only [dB.lU] at hk
  by_cases e:b=r
  ·subst e; rw [if_pos rfl] at hk; exact (hu k hk).elim
  ·rw [if_neg e,Ren.oO e] at hk
   exact h.own b k hk
 ·intro b hb
  rw [Ren.oO (by omega)]
  exact h.pW b hb
def Ew (P:Program) (op:Op) (T:Nat):Bool:=match op with | .alloc t=>t==T&&(match P.info? t with | some i=>(match i.zero with | some z=>Ei z.cells.toList [.c (.lit (.pointer none)),.cO 1] | none=>false) | none=>false) | _=>false
theorem LU {o:Oper} {T e l r:Nat} (h:GX E I ρ n st a w) (hc:Ew P o.op T=true) (hm:E.m<=l) (hm':E.m<=r) (hl:tN (st.bx l)) (hr:tN (st.bx r)) (hne:l ≠ r) :
    kY P E n o a w ((st.qc r (.row e [])).qc l (.var [.opt T l,.pU r 0])) (.one (.ptr l 0)):=by
  unfold Ew at hc
  split at hc
  · rename_i t he
    simp only [Bool.and_eq_true,beq_iff_eq] at hc
    obtain ⟨rfl,hc⟩:=hc
    split at hc
    · rename_i i hi
      split at hc
      · rename_i z hz
        have g:=h.ZC (rG hr) hm' e
        have hl':(st.qc r (.row e [])).bx l = .absent:=by simp only [dB.lU,if_neg hne]; exact rG hl
        have hz2:AP I ρ z.cells.toList _:=zy hc
        have hsz:z.cells.size=2:=by have:=hz2.1; simpa using this
        have hg:=GX.new g hl' hm z.cells t t (.var [.opt t l,.pU r 0]) ⟨w.heap.size,t,z.cells,Ren.kE _ _ _ _,heap_alloc_new w _,hsz,fun j u x hu hx=>by
          match j with
          | 0 =>
            have h1:=hz2.2 0 u _ (by simpa using hu) rfl
            simp at hx
            subst hx
            cases h1
            exact ⟨_,Ren.kE _ _ _ _,.inl rfl⟩
          | 1 =>
            have h1:u = .slice none 0 0:=hz2.2 1 u _ (by simpa using hu) rfl
            simp at hx
            subst hx
            exact ⟨0,0,(Ren.oO hne.symm).trans (Ren.kE _ _ _ _),Nat.le_refl _,.inl ⟨rfl,h1⟩⟩
          | j+2=>simp at hx⟩
        have WX:(zeroValue t).run P w = .ok z w:=by simp [zeroValue,typeInfo,hi,hz]
        exact ⟨_,_,I,_,.inl (by simp only [execOp,he,Instr.alloc,Sem.run_bind,WX,Result.andThen_ok,zh,Sem.run_pure]),hg,fun _=>⟨_,_,Ren.kE _ _ _ _,rfl⟩⟩
      · cases hc
    · cases hc
  · cases hc
def OO (n:Nat) (op:Op) (x:kS):Bool:=match op with | .box _ x'=>iW n x' x | _=>false
theorem TY {o:Oper} {l:Nat} {x:kS} (h:GX E I ρ n st a w) (hc:OO n o.op x=true) (hx:(x.ev st.tm).g=true) (hm:E.m<=l) (hl:tN (st.bx l)) (hf:(bK st.tm x).flat) :
  kY P E n o a w (st.qc l (.var (bK st.tm x).cells)) (.one (.ptr l 0)):=by
 unfold OO at hc
 split at hc
 ·rename_i t x' he
  have g:=kD h hc hx
  obtain ⟨ρ',h1,h2⟩:=Qv h (rG hl) hm (a.eval x').cells t _ (Ad g hf)
  exact ⟨_,_,I,ρ',.inl (by simp only [execOp,he,Instr.box,Sem.run_bind,Result.andThen_ok,zh,Sem.run_pure]),h1,fun _=>h2⟩
 ·cases hc
def XJ:Value->Cell->Bool
 | .int k n,.lit (.int k' n')=>k==k'&&n==n'
 | .bool b,.lit (.bool b')=>b==b'
 | .string s,.str l=>s.data.toList==l&&decide (l.length<=1000000)
 | .slice none 0 0,.sl _ []=>true
 | .pointer none,.lit (.pointer none)=>true
 | .nilFunc,.lit .nilFunc=>true
 | .nilIface,.lit .nilIface=>true
 | _,_=>false
theorem Wy {v:Value} {x:Cell} (h:XJ v x=true):Rd I v x:=by
 unfold XJ at h
 split at h
 ·simp only [Bool.and_eq_true,beq_iff_eq] at h; obtain ⟨rfl,rfl⟩:=h; exact Rd.lit _ rfl
 ·simp only [beq_iff_eq] at h; subst h; exact Rd.lit _ rfl
 ·rename_i s l
  simp only [Bool.and_eq_true,beq_iff_eq,decide_eq_true_eq] at h
  obtain ⟨rfl,hl⟩:=h
  have:s=⟨⟨s.data.toList⟩⟩:=by cases s; rfl
  exact this ▸ Rd.str _ (by simp only [maxLen]; omega)
 ·exact Rd.sl none 0 0 _ [] (fun _ _=>undef) rfl (Nat.le_refl _) (by simp [maxLen]) (by simp) (by simp) (fun ad h=>by cases h) (by simp)
 ·exact Rd.lit _ rfl
 ·exact Rd.lit _ rfl
 ·exact Rd.lit _ rfl
 ·cases h
def zx (zs:List Value) (xs:List Cell):Bool:=zs.length==xs.length&&(zs.zip xs).all fun p=>XJ p.1 p.2
theorem FM {zs:List Value} {xs:List Cell} (h:zx zs xs=true):zs.length=xs.length/\∀ (j:Nat) (c:Cell),xs[j]? = some c->∃ u,zs[j]? = some u/\Rd I u c:=by
 unfold zx at h
 simp only [Bool.and_eq_true,beq_iff_eq,List.all_eq_true] at h
 refine ⟨h.1,fun j c hc => ?_⟩
 have hj:j<zs.length:=by rw [h.1]; exact (List.getElem?_eq_some_iff.1 hc).1
 refine ⟨zs[j],List.getElem?_eq_getElem hj,Wy (h.2 (zs[j],c) ?_)⟩
 exact List.mem_of_getElem? (i:=j) (by simp [List.getElem?_zip_eq_some,hc,hj])
theorem Fb {z:Array Value} {zs:List Cell} {sz m N:Nat} (hz:zx z.toList zs=true) (hs:zs.length=sz) (h0:0<sz) (hN:m*sz<=N) {cs:Array Value} (hcs:cs=(Array.range N).map (z[· % z.size]!)) :
  (∀ (j:Nat) (u:Value),cs[j]? = some u->u.oneCell'=true)/\∀ (i j:Nat) (c:Cell),((List.replicate m zs).getD i [])[j]? = some c->∃ u,cs[i*sz+j]? = some u/\Rd I u c:=by
 obtain ⟨hl,hd⟩:=FM (I:=I) hz
 have hzs:z.size=sz:=by rw [<- hs,<- hl]; simp
 subst hcs
 refine ⟨fun j u hu => ?_,fun i j c hc => ?_⟩
 ·rw [Array.getElem?_map] at hu
  by_cases hj:j<N
  ·rw [Array.getElem?_range,if_pos hj] at hu
   simp at hu
   have hlt:j%z.size<z.size:=Nat.mod_lt _ (by omega)
   rw [getElem!_pos z _ hlt] at hu
   obtain ⟨c,hc⟩:∃ c,zs[j%z.size]? = some c:=⟨_,List.getElem?_eq_getElem (by omega)⟩
   obtain ⟨u',hu',hr⟩:=hd _ c hc
   simp [hlt] at hu'
   rw [<- hu,hu']
   exact hr.one
  ·rw [Array.getElem?_range,if_neg hj] at hu; cases hu
 ·have hi:=jy hc
  simp at hi
  simp [List.getD,hi] at hc
  have hj:j<sz:=by rw [<- hs]; exact (List.getElem?_eq_some_iff.1 hc).1
  obtain ⟨u,hu,hr⟩:=hd j c hc
  refine ⟨u,?_,hr⟩
  have hlt:i*sz+j<N:=by
   have:(i+1)*sz<=m*sz:=Nat.mul_le_mul_right _ hi
   rw [Nat.add_mul] at this
   omega
  rw [Array.getElem?_map,Array.getElem?_range,if_pos hlt]
  simp only [Option.map_some,Option.some.injEq]
  have hmod:(i*sz+j)%z.size=j:=by rw [hzs,Nat.mul_comm,Nat.mul_add_mod,Nat.mod_eq_of_lt hj]
  rw [hmod,getElem!_pos z _ (by omega)]
  have:z[j]? = some u:=by simpa using hu
  rw [Array.getElem?_eq_getElem (by omega)] at this
  simpa using this
def Eu (P:Program) (op:Op) (sz m:Nat) (zs:List Cell):Bool :=
 match op with
 | .alloc t=>DF P t sz m&&(match P.info? t with | some i=>(match i.zero with | some (.agg z)=>zx z.toList (List.replicate m zs).flatten | _=>false) | none=>false)&&zs.length==sz&&decide (0<sz)&&decide (m<=1000000)
 | _=>false
theorem MW {zs:List Cell} {sz m i j:Nat} {c:Cell} (hs:zs.length=sz) (hc:((List.replicate m zs).getD i [])[j]? = some c):((List.replicate m zs).flatten)[i*sz+j]? = some c:=by
  induction m generalizing i with
  | zero=>simp [List.getD] at hc
  | succ m ih =>
    rw [List.replicate_succ,List.flatten_cons]
    cases i with
    | zero =>
      simp [List.getD,List.replicate_succ] at hc
      rw [List.getElem?_append_left (by have:=(List.getElem?_eq_some_iff.1 hc).1; omega)]
      simpa using hc
    | succ i =>
      rw [List.getElem?_append_right (by rw [hs,Nat.add_mul]; omega),hs]
      have:=ih (i:=i) (by simpa [List.getD,List.replicate_succ] using hc)
      rw [<- this]
      congr 1
      rw [Nat.add_mul]
      omega
theorem LQ {o:Oper} {l sz m:Nat} {zs:List Cell} (h:GX E I ρ n st a w) (hc:Eu P o.op sz m zs=true) (hm:E.m<=l) (hl:tN (st.bx l)) :
  kY P E n o a w (st.qc l (.dat sz (List.replicate m zs))) (.one (.qR l 0 sz 0)):=by
 unfold Eu at hc
 split at hc
 ·rename_i t he
  simp only [Bool.and_eq_true,beq_iff_eq,decide_eq_true_eq] at hc
  obtain ⟨⟨⟨⟨_,hz⟩,hs⟩,h0⟩,hm6⟩:=hc
  split at hz
  ·rename_i i hi
   split at hz
   ·rename_i z hzero
    obtain ⟨hl1,hd⟩:=FM (I:=I) hz
    have hzs:z.size=m*sz:=by have:=hl1; simp [hs] at this; exact this
    have WX:(zeroValue t).run P w = .ok (.agg z) w:=by simp [zeroValue,typeInfo,hi,hzero]
    have g:=Bo h (rG hl) hm z t m sz (List.replicate m zs) hzs (by simp) (by simp only [maxLen]; omega) (fun x hx=>by rw [List.eq_of_mem_replicate hx,hs])
     (fun j u hu=>by
      have hj:j<((List.replicate m zs).flatten).length:=by rw [<- hl1]; simpa using (Array.getElem?_eq_some_iff.1 hu).1
      obtain ⟨u',hu',hr⟩:=hd j _ (List.getElem?_eq_getElem hj)
      have:u'=u:=by simp at hu'; rw [hu] at hu'; exact (Option.some.inj hu').symm
      subst this; exact hr.one)
     (fun i' j c hc=>by
      obtain ⟨u,hu,hr⟩:=hd _ c (MW hs hc)
      exact ⟨u,by simpa using hu,hr⟩)
    refine ⟨_,_,I,_,.inl (by simp only [execOp,he,Instr.alloc,Sem.run_bind,WX,Result.andThen_ok,zh,Sem.run_pure,Value.cells]; rfl),g,fun _=>⟨w.heap.size,m,Ren.kE _ _ _ _,by simp⟩⟩
   ·cases hz
  ·cases hz
 ·cases hc
def G7 (P:Program) (n:Nat) (op:Op) (sz bytes:Nat) (zs:List Cell) (x y:kS):Bool :=
  match op with
  | .makeSlice t x' y'=>iW n x' x&&iW n y' y&&zs.length==sz&&decide (0<sz)&&(match P.underlying t with
    | some (.slice e)=>(match P.info? e with | some i=>i.size==sz&&i.bytes==bytes&&(match i.zero with | some z=>zx z.cells.toList zs | none=>false) | none=>false)
    | _=>false)
  | _=>false
theorem Po {o:Oper} {l sz bytes:Nat} {zs:List Cell} {x y:kS} {k k':IntKind} {p q:Int} (h:GX E I ρ n st a w) (hc:G7 P n o.op sz bytes zs x y=true) (hx:(x.ev st.tm).g=true) (hy:(y.ev st.tm).g=true)
  (e1:bK st.tm x=o7 k p) (e2:bK st.tm y=o7 k' q) (hm:E.m<=l) (hl:tN (st.bx l)) (h0:0<=p) (h1:p<=q) (h2:bytes*q<=2^47) (h3:q<=2^47) :
  kY P E n o a w (st.qc l (.dat sz (List.replicate p.toNat zs))) (.one (.own l p.toNat sz)):=by
 unfold G7 at hc
 split at hc
 ·rename_i t x' y' he
  simp only [Bool.and_eq_true,beq_iff_eq,decide_eq_true_eq] at hc
  obtain ⟨⟨⟨⟨c1,c2⟩,hs⟩,hs0⟩,ht⟩:=hc
  have g1:=kD h c1 hx
  have g2:=kD h c2 hy
  rw [e1] at g1; rw [e2] at g2
  have v1:=pM g1
  have v2:=pM g2
  split at ht
  ·rename_i e hte
   split at ht
   ·rename_i i hi
    simp only [Bool.and_eq_true,beq_iff_eq] at ht
    obtain ⟨⟨rfl,rfl⟩,hz⟩:=ht
    split at hz
    ·rename_i z hzero
     have hr:=run_make (P:=P) w t e i z hte hi hzero k k' p q h0 h1 (by omega) (by omega)
     have rc:=Fb (I:=I) (N:=q.toNat*i.size) (m:=p.toNat) hz hs hs0 (Nat.mul_le_mul_right _ (by omega)) (cs:=madeCells z.cells (q.toNat*i.size)) rfl
     have g:=Bo h (rG hl) hm (madeCells z.cells (q.toNat*i.size)) e q.toNat i.size (List.replicate p.toNat zs) (size_madeCells _ _) (by simp; omega) (by simp only [maxLen]; omega)
      (fun x hx=>by rw [List.eq_of_mem_replicate hx,hs]) rc.1 rc.2
     refine ⟨_,_,I,_,.inl (by simp only [execOp,he,v1,v2,Sem.run_bind,hr,Result.andThen_ok,Sem.run_pure]; rfl),g,fun _=>⟨w.heap.size,q.toNat,_,_,Ren.kE _ _ _ _,rfl,by omega,by omega,fun _=>rfl⟩⟩
    ·cases hz
   ·cases ht
  ·cases ht
 ·cases hc
end
end Go.Ab
end
section
namespace Go.Ab
open Go
section
variable {P:Program} {E:Env P} {I:IH} {ρ:Ren} {n:Nat} {st:dB} {a:Act} {w:World}
noncomputable def tH (I:IH) (ρ:Ren) (w:World) (bx:Nat->Box) (bs:List Nat):IH:=fun k =>
 open Classical in
 if ∃ b sz es cap,b∈bs/\bx b = .dat sz es/\ρ b=some (k,cap)/\cap ≠ 0 then (match w.heap[k]? with | some (.cells c _ _)=>some c | _=>none) else I k
theorem wE (hA:BX I ρ w st.bx) (bs:List Nat):I.le (tH I ρ w st.bx bs):=fun k c hk=>by
 unfold tH
 rw [if_neg]
 ·exact hk
 ·rintro ⟨b,sz,es,cap,_,hb,hr,h0⟩
  have:=hA.fresh b k (by rw [hb]; exact ⟨cap,hr,h0⟩)
  rw [this] at hk; cases hk
theorem CU (hA:Agree I w) (bs:List Nat):Agree (tH I ρ w st.bx bs) w:=fun k c hk=>by
 unfold tH at hk
 split at hk
 ·split at hk
  ·rename_i c' e fr hw
   simp at hk
   subst hk
   exact ⟨e,fr,hw⟩
  ·cases hk
 ·exact hA k c hk
theorem KN (h:GX E I ρ n st a w) {bs:List Nat} {v:Value} {b m sz:Nat} {es:List (List Cell)} (hb:b∈bs) (harr:(st.bx b).arr=some (sz,es)) (hm:m<=es.length) (hv:GC I ρ v (.own b m sz)) :
    Rd (tH I ρ w st.bx bs) v (.sl sz (es.take m)):=by
  obtain ⟨k,cap,ad,c,hr,hsv,hmc,hcc,hcap⟩:=hv
  have facts:=GS.yh h harr hr
  have hl:(es.take m).length=m:=by simp; omega
  subst hsv
  have hI:cap ≠ 0->∃ cs,(tH I ρ w st.bx bs) k=some cs/\∀ i j c,(es.getD i [])[j]? = some c->∃ u,cs[i*sz+j]? = some u/\Rd I u c:=by
    intro hc0
    have hok:=h.bx.ok b
    cases hx:st.bx b with
    | dat sz' es' =>
      rw [hx] at hok harr
      simp [Box.arr] at harr
      obtain ⟨rfl,rfl⟩:=harr
      obtain ⟨k',cap',hr',_,_,_,hd⟩:=hok
      rw [hr] at hr'
      simp at hr'
      obtain ⟨rfl,rfl⟩:=hr'
      obtain ⟨cs,e,hw,_,_,hcs⟩:=hd hc0
      refine ⟨cs,?_,hcs⟩
      unfold tH
      rw [if_pos ⟨b,_,_,cap,hb,hx,hr,hc0⟩,hw]
    | vO sz' es' =>
      rw [hx] at hok harr
      simp [Box.arr] at harr
      obtain ⟨rfl,rfl⟩:=harr
      obtain ⟨k',cap',hr',_,_,_,hd⟩:=hok
      rw [hr] at hr'
      simp at hr'
      obtain ⟨rfl,rfl⟩:=hr'
      obtain ⟨cs,hw,hcs⟩:=hd hc0
      exact ⟨cs,wE h.bx bs _ _ hw,hcs⟩
    | absent=>rw [hx] at harr; cases harr
    | dead=>rw [hx] at harr; cases harr
    | var xs=>rw [hx] at harr; cases harr
    | row e l=>rw [hx] at harr; cases harr
  have hle:=wE (st:=st) h.bx bs
  by_cases hc0:cap=0
  · have hm0:m=0:=by omega
    subst hm0
    simp only [List.take_zero]
    exact Rd.sl _ 0 c sz [] (fun _ _=>undef) rfl (by omega) (by omega) (by simp) (by simp) (by intro ad _ i j hi; omega) (by simp)
  · obtain ⟨cs,hcs,hrd⟩:=hI hc0
    have had:=hcap hc0
    subst had
    have key:∀ i j c,((es.take m).getD i [])[j]? = some c->∃ u,cs[i*sz+j]? = some u/\Rd I u c:=fun i j c hc=>by
      have hi:=jy hc
      rw [hl] at hi
      refine hrd i j c ?_
      rw [<- hc]; congr 1
      simp only [List.getD]
      rw [List.getElem?_take,if_pos hi]
    refine Rd.sl _ m c sz (es.take m) (fun i j=>cs.getD (i*sz+j) undef) hl hmc (by omega) (fun e he=>facts.2.2 e (List.mem_of_mem_take he)) (by simp) ?_ ?_
    · intro ad had i j hi hj
      simp at had
      subst had
      have hlen:((es.take m).getD i []).length=sz:=by
        have:i<(es.take m).length:=by omega
        rw [List.getD_eq_getElem?_getD,List.getElem?_eq_getElem this]
        exact facts.2.2 _ (List.mem_of_mem_take (List.getElem_mem this))
      obtain ⟨u,hu,_⟩:=key i j _ (List.getElem?_eq_getElem (by omega))
      rw [Addr.qJ]
      simp only [IH.cell,hcs]
      simp [hu,Array.getD_eq_getD_getElem?]
    · intro i j c hc
      obtain ⟨u,hu,hr⟩:=key i j c hc
      have:cs.getD (i*sz+j) undef=u:=by simp [Array.getD_eq_getD_getElem?,hu]
      rw [this]
      exact hr.mono hle
theorem rO {bs:List Nat} {b:Nat} : (st.vO bs).bx b=if b∈bs then xU (st.bx b) else st.bx b:=rfl
theorem GX.freeze (h:GX E I ρ n st a w) (BS:List Nat):GX E (tH I ρ w st.bx BS) ρ n (st.vO BS) a w:=by
  have XY:=wE h.bx BS
  have zO:∀ b k,((st.vO BS).bx b).uses (ρ b) k->(st.bx b).uses (ρ b) k/\¬ (∃ b' sz es cap,b'∈BS/\st.bx b' = .dat sz es/\ρ b'=some (k,cap)/\cap ≠ 0):=by
    intro b k hu
    rw [rO] at hu
    by_cases hb:b∈BS
    · rw [if_pos hb] at hu
      cases hx:st.bx b with
      | var xs =>
        rw [hx] at hu
        refine ⟨hu,?_⟩
        rintro ⟨b',sz,es,cap,_,hb',hr',h0⟩
        have:=h.bx.inj b b' k (by rw [hx]; exact hu) (by rw [hb']; exact ⟨cap,hr',h0⟩)
        subst this
        rw [hx] at hb'; cases hb'
      | row e l =>
        rw [hx] at hu
        refine ⟨hu,?_⟩
        rintro ⟨b',sz,es,cap,_,hb',hr',h0⟩
        have:=h.bx.inj b b' k (by rw [hx]; exact hu) (by rw [hb']; exact ⟨cap,hr',h0⟩)
        subst this
        rw [hx] at hb'; cases hb'
      | dat sz es=>rw [hx] at hu; exact hu.elim
      | vO sz es=>rw [hx] at hu; exact hu.elim
      | absent=>rw [hx] at hu; exact hu.elim
      | dead=>rw [hx] at hu; exact hu.elim
    · rw [if_neg hb] at hu
      refine ⟨hu,?_⟩
      rintro ⟨b',sz,es,cap,hm',hb',hr',h0⟩
      have:=h.bx.inj b b' k hu (by rw [hb']; exact ⟨cap,hr',h0⟩)
      subst this
      exact hb hm'
  have hfr:∀ b k,((st.vO BS).bx b).uses (ρ b) k->tH I ρ w st.bx BS k=none:=fun b k hu=>by
    obtain ⟨h1,h2⟩:=zO b k hu
    unfold tH
    rw [if_neg h2]
    exact h.bx.fresh b k h1
  refine { agree:=CU h.agree BS,bx:=⟨fun b => ?_,fun b b' k hb hb'=>h.bx.inj b b' k (zO b k hb).1 (zO b' k hb').1,hfr⟩,tm:=fun t ht=>(h.tm t ht).mono XY (Ren.le_refl ρ),size:=h.size,defers:=h.defers,yT:=h.yT,own:=fun b k hu=>h.own b k (zO b k hu).1,Gp:=IH.le_trans h.Gp XY,xy:=fun k hk0 hM => ?_,pW:=h.pW }
  · have hok:=(h.bx.ok b).keep XY (Ren.le_refl ρ) rfl (fun k hu=>rfl)
    rw [rO]
    by_cases hb:b∈BS
    · rw [if_pos hb]
      cases hx:st.bx b with
      | dat sz es =>
        rw [hx] at hok
        obtain ⟨kk,cap,hr',hl,hm,hsz,hcs⟩:=hok
        refine ⟨kk,cap,hr',hl,hm,hsz,fun h0 => ?_⟩
        obtain ⟨cs,e,hw,_,_,hrd⟩:=hcs h0
        refine ⟨cs,?_,hrd⟩
        unfold tH
        rw [if_pos ⟨b,sz,es,cap,hb,hx,hr',h0⟩,hw]
      | var xs=>rw [hx] at hok; exact hok
      | row e l=>rw [hx] at hok; exact hok
      | vO sz es=>rw [hx] at hok; exact hok
      | absent=>rw [hx] at hok; exact hok
      | dead=>rw [hx] at hok; exact hok
    · rw [if_neg hb]; exact hok
  · unfold tH
    rw [if_neg]
    · exact h.xy k hk0 hM
    · rintro ⟨b',sz,es,cap,_,hb',hr',h0⟩
      rcases h.own b' k (by rw [hb']; exact ⟨cap,hr',h0⟩) with h1 | h1
      · omega
      · exact hM h1
theorem Ef (l:List (Nat × Box)) (st:dB):(st.mY l).tm=st.tm:=by
 induction l generalizing st with
 | nil=>rfl
 | cons x l ih=>obtain ⟨b,x⟩:=x; simp only [dB.mY,ih]; rfl
theorem SY (st:dB) (l:List Nat) (bx:Nat->Box):(st.mY (l.map fun b=>(b,xU (bx b)))).bx=fun b=>if b∈l then xU (bx b) else st.bx b:=by
  induction l generalizing st with
  | nil=>rfl
  | cons c l ih =>
    simp only [List.map_cons,dB.mY,ih]
    funext b
    simp only [dB.lU,List.mem_cons]
    by_cases h:b∈l
    · simp [h]
    · by_cases h':b=c
      · subst h'; simp [h]
      · simp [h,h']
theorem uN (st:dB) (l:List Nat):st.mY (l.map fun b=>(b,xU (st.bx b)))=st.vO l:=by
 apply dB.ext'
 ·rw [Ef]; rfl
 ·rw [SY]; rfl
theorem zl (l r:List (Nat × Box)):∀ (st:dB),st.mY (l++r)=(st.mY l).mY r:=by
 induction l with
 | nil=>intro st; rfl
 | cons p l ih=>intro st; obtain ⟨b,x⟩:=p; simp only [List.cons_append,dB.mY,ih]
theorem Iz (st:dB) (l:List Nat) (r:List (Nat × Box)):st.mY (KE st.bx l++r)=(st.vO l).mY r:=by
 rw [zl]
 unfold KE
 rw [uN]
end
end Go.Ab
end
section
namespace Go.Ab
open Go
section
variable {P:Program} {E:Env P} {I:IH} {ρ:Ren} {n:Nat} {st:dB} {a:Act} {w:World}
theorem ML (h:GX E I ρ n st a w) {BS:List Nat} {vs:List Value} {xs:List AC} {cs:List Cell} (hg:AP I ρ vs xs) (hd:zH st.bx xs=some cs) (hl:qK st.bx xs) (hb:∀ b,b∈kU xs->b∈BS) :
    vs.length=cs.length/\∀ (j:Nat) (c:Cell),cs[j]? = some c->∃ u,vs[j]? = some u/\Rd (tH I ρ w st.bx BS) u c:=by
  have hle:=wE (st:=st) h.bx BS
  induction xs generalizing vs cs with
  | nil =>
    simp [zH] at hd
    subst hd
    exact ⟨hg.1,by simp⟩
  | cons x r ih =>
    cases vs with
    | nil=>have:=hg.1; simp at this
    | cons v vs =>
      unfold zH at hd
      split at hd
      · rename_i c cs' h1 h2
        simp at hd
        subst hd
        have ht:AP I ρ vs r:=⟨by simpa using hg.1,fun j u y hu hy=>hg.2 (j+1) u y (by simpa using hu) (by simpa using hy)⟩
        have hv:=hg.2 0 v x rfl rfl
        have hlr:qK st.bx r:=by
          cases x with
          | own b m sz=>exact hl.2
          | _=>exact hl
        have hbr:∀ b,b∈kU r->b∈BS:=fun b hm=>hb b (by
          cases x with
          | own b' m sz=>exact List.mem_cons_of_mem _ hm
          | _=>exact hm)
        obtain ⟨hl',hc⟩:=ih ht h2 hlr hbr
        have hr:Rd (tH I ρ w st.bx BS) v c:=by
          cases x with
          | c y=>simp [dataOf] at h1; subst h1; exact Rd.mono hle hv
          | cO sz =>
            simp [dataOf] at h1
            subst h1
            simp only [GC] at hv
            subst hv
            exact Rd.sl none 0 0 _ [] (fun _ _=>undef) rfl (Nat.le_refl _) (by simp [maxLen]) (by simp) (by simp) (fun ad h=>by cases h) (by simp)
          | own b m sz =>
            simp only [dataOf] at h1
            have hl1:=hl.1
            cases harr:(st.bx b).arr with
            | none=>rw [harr] at h1; cases h1
            | some p =>
              obtain ⟨sz',es⟩:=p
              rw [harr] at h1 hl1
              simp at h1
              subst h1
              obtain ⟨rfl,hle'⟩:=hl1
              exact KN h (hb b (by simp [kU])) harr hle' hv
          | _=>simp [dataOf] at h1
        refine ⟨by simp [hl'],fun j c' hj => ?_⟩
        cases j with
        | zero=>simp at hj; subst hj; exact ⟨v,rfl,hr⟩
        | succ j=>obtain ⟨u,hu,hr'⟩:=hc j c' (by simpa using hj); exact ⟨u,by simpa using hu,hr'⟩
      · cases hd
structure DC (I:IH) (cs:List Value) (sz:Nat) (es:List (List Cell)):Prop where
 one:∀ (j:Nat) (u:Value),cs[j]? = some u->u.oneCell'=true
 rd:∀ (i j:Nat) (c:Cell),(es.getD i [])[j]? = some c->∃ u,cs[i*sz+j]? = some u/\Rd I u c
theorem Us {α:Type} (es:List (List α)) (i i':Nat) (e:List α) (h:i<es.length):(es.set i e).getD i' []=if i'=i then e else es.getD i' []:=by
 simp only [List.getD,List.getElem?_set]
 by_cases hi:i=i'
 ·subst hi; simp [h]
 ·rw [if_neg hi,if_neg (fun e=>hi e.symm)]
theorem Xd {sz i i' j j':Nat} (hj:j<sz) (hj':j'<sz) (h:i*sz+j=i'*sz+j'):i=i'/\j=j':=by
 have h1:(i*sz+j)/sz=i:=by rw [Nat.mul_comm,Nat.mul_add_div (by omega),Nat.div_eq_of_lt hj,Nat.add_zero]
 have h2:(i'*sz+j')/sz=i':=by rw [Nat.mul_comm,Nat.mul_add_div (by omega),Nat.div_eq_of_lt hj',Nat.add_zero]
 rw [h] at h1
 have:=h1.symm.trans h2
 subst this
 exact ⟨rfl,by omega⟩
theorem DC.splice {cs:List Value} {sz:Nat} {es:List (List Cell)} (h:DC I cs sz es) (hsz:∀ x,x∈es->x.length=sz) {i off:Nat} (hi:i<es.length) {vs:List Value} {ys:List Cell} (hl:off+ys.length<=sz) (hcs:(i+1)*sz<=cs.length)
  (hv:vs.length=ys.length) (h1:∀ (j:Nat) (u:Value),vs[j]? = some u->u.oneCell'=true) (hd:∀ (j:Nat) (c:Cell),ys[j]? = some c->∃ u,vs[j]? = some u/\Rd I u c) :
  DC I (splice cs (i*sz+off) vs) sz (es.set i (Ab.splice (es.getD i []) off ys)):=by
 rw [Nat.add_mul] at hcs
 have hfit:i*sz+off+vs.length<=cs.length:=by omega
 have Zi:(es.getD i []).length=sz:=hsz _ (by simp [List.getD,List.getElem?_eq_getElem hi])
 refine ⟨fun j u hu => ?_,fun i' j c hc => ?_⟩
 ·rw [l9 _ _ _ _ hfit] at hu
  split at hu
  ·exact h.one j u hu
  ·split at hu
   ·exact h1 _ u hu
   ·exact h.one j u hu
 ·rw [Us _ _ _ _ hi] at hc
  rw [l9 _ _ _ _ hfit]
  by_cases e:i'=i
  ·subst e
   rw [if_pos rfl,l9 _ _ _ _ (by omega)] at hc
   by_cases c1:j<off
   ·rw [if_pos c1] at hc
    rw [if_pos (by omega)]
    exact h.rd i' j c hc
   ·rw [if_neg c1] at hc
    rw [if_neg (by omega)]
    by_cases c2:j<off+ys.length
    ·rw [if_pos c2] at hc
     rw [if_pos (by omega)]
     obtain ⟨u,hu,hr⟩:=hd _ c hc
     exact ⟨u,by rw [<- hu]; congr 1; omega,hr⟩
    ·rw [if_neg c2] at hc
     rw [if_neg (by omega)]
     exact h.rd i' j c hc
  ·rw [if_neg e] at hc
   have hj:j<sz:=by
    have hi':=jy hc
    have:=hsz (es.getD i' []) (by simp [List.getD,List.getElem?_eq_getElem hi'])
    rw [<- this]; exact (List.getElem?_eq_some_iff.1 hc).1
   have hout:¬ (i*sz+off<=i'*sz+j/\i'*sz+j<i*sz+off+vs.length):=by
    intro ⟨c1,c2⟩
    obtain ⟨e1,_⟩:=Xd (i:=i') (i':=i) (j:=j) (j':=i'*sz+j-i*sz) hj (by omega) (by omega)
    exact e e1
   by_cases c1:i'*sz+j<i*sz+off
   ·rw [if_pos c1]; exact h.rd i' j c hc
   ·rw [if_neg c1,if_neg (by omega)]; exact h.rd i' j c hc
def yl (n:Nat):List (Nat × Operand)->List (Nat × kS)->Bool
 | [],[]=>true
 | (i,x)::r,(i',y)::r'=>i==i'&&iW n x y&&yl n r r'
 | _,_=>false
def Ez (P:Program) (n:Nat) (op:Op) (sz m:Nat) (zs:List Cell) (ps:List (Nat × kS)):Bool :=
  match op with
  | .buildSlice t len ps'=>len==m&&zs.length==sz&&decide (0<sz)&&decide (len*sz<=16777216)&&yl n ps'.toList ps&&(match P.underlying t with
    | some (.slice e)=>(match P.info? e with | some i=>i.size==sz&&(match i.zero with | some z=>zx z.cells.toList zs | none=>false) | none=>false)
    | _=>false)
  | _=>false
theorem Me {sz:Nat} {BS:List Nat} (h:GX E I ρ n st a w) (hs0:0<sz):∀ (ps:List (Nat × Operand)) (ps':List (Nat × kS)) (l':List (Nat × List Cell)) (cs:Array Value) (es:List (List Cell)),yl n ps ps'=true ->
    qG (bK st.tm) st.bx es.length sz ps'=some l'->rY (bK st.tm) st.bx ps'->(∀ b,b∈oq (bK st.tm) ps'->b∈BS)->(∀ p,p∈l'->p.1<es.length/\p.2.length=sz)->(∀ p,p∈ps'->(p.2.ev st.tm).g=true)->DC (tH I ρ w st.bx BS) cs.toList sz es->(∀ x,x∈es->x.length=sz)->cs.size=es.length*sz ->
    ∃ cs',Instr.fill (fun i=>some (i*sz,sz)) cs (ps.map fun p=>(p.1,a.eval p.2))=some cs'/\DC (tH I ρ w st.bx BS) cs'.toList sz (DK es l')/\(∀ x,x∈DK es l'->x.length=sz)/\cs'.size=es.length*sz/\(DK es l').length=es.length
  | [],[],l',cs,es,_,hd,_,_,_,_,hg,hsz,hcs=>by
    simp [qG] at hd; subst hd
    exact ⟨cs,rfl,hg,hsz,hcs,rfl⟩
  | [],_::_,_,_,_,h,_,_,_,_,_,_,_,_=>by simp [yl] at h
  | _::_,[],_,_,_,h,_,_,_,_,_,_,_,_=>by simp [yl] at h
  | (i,x)::r,(i',y)::r',l',cs,es,hp,hd,hld,hbs,hq,hv,hg,hsz,hcs=>by
    simp only [yl,Bool.and_eq_true,beq_iff_eq] at hp
    obtain ⟨⟨rfl,hx⟩,hr⟩:=hp
    unfold qG at hd
    split at hd
    · rename_i ds l2 hd1 hd2
      simp at hd
      subst hd
      obtain ⟨q1,q2⟩:=hq (i,ds) (by simp)
      simp only at q1 q2
      have g:=kD h hx (hv _ (List.mem_cons_self ..))
      have hf:(bK st.tm y).flat:=by
        cases hav:bK st.tm y with
        | o8 ps=>rw [hav] at hd1; simp [AV.cells,zH] at hd1; rw [hd1] at q2; simp at q2; omega
        | one x=>trivial
        | agg xs=>trivial
      have gc:=Ad g hf
      obtain ⟨hl,hrd⟩:=ML (BS:=BS) h gc hd1 hld.1 (fun b hm=>hbs b (by simp only [oq,List.mem_append]; exact .inl hm))
      have hvs:(a.eval x).cells.size=sz:=by simp at hl; rw [hl]; exact q2
      have hone:∀ (j:Nat) (u:Value),(a.eval x).cells.toList[j]? = some u->u.oneCell'=true:=fun j u hu=>by
        have hj:j<(bK st.tm y).cells.length:=by rw [<- gc.1]; exact (List.getElem?_eq_some_iff.1 hu).1
        exact (gc.2 j u _ hu (List.getElem?_eq_getElem hj)).one
      have hi1:(i+1)*sz<=cs.toList.length:=by simp; rw [hcs]; exact Nat.mul_le_mul_right _ q1
      have hmul:(i+1)*sz=i*sz+sz:=by rw [Nat.add_mul]; omega
      have hsp:=hg.splice hsz q1 (off:=0) (ys:=ds) (vs:=(a.eval x).cells.toList) (by omega) hi1 (by simpa using hl) hone hrd
      have Zi:(es.getD i []).length=sz:=hsz _ (by simp [List.getD,List.getElem?_eq_getElem q1])
      have hse:Ab.splice (es.getD i []) 0 ds=ds:=by unfold Ab.splice; rw [List.take_zero,List.nil_append,List.drop_of_length_le (by omega),List.append_nil]
      rw [hse,Nat.add_zero] at hsp
      have hfold:=foldl_set (a.eval x).cells (i*sz) cs (by simp at hi1; omega)
      have hlen2:(es.set i ds).length=es.length:=by simp
      have ih:=Me h hs0 r r' l2 ((a.eval x).cells.zipIdx.foldl (fun cs (p:Value × Nat)=>cs.setIfInBounds (i*sz+p.2) p.1) cs) (es.set i ds) hr (by rw [hlen2]; exact hd2) hld.2 (fun b hm=>hbs b (by simp only [oq,List.mem_append]; exact .inr hm))
        (fun p hp=>by rw [hlen2]; exact hq p (by simp [hp])) (fun p hp=>hv p (by simp [hp])) (by rw [hfold]; exact hsp)
        (fun x hx=>(List.mem_or_eq_of_mem_set hx).elim (hsz x) (fun h1=>by rw [h1]; exact q2)) (by
          have:(cs.toList).length=cs.size:=by simp
          rw [<- Array.length_toList,hfold,length_splice _ _ _ (by simp at hi1 ⊢; omega),hlen2]; simpa using hcs)
      obtain ⟨cs',h1,h2,h3,h4,h5⟩:=ih
      rw [hlen2] at h4 h5
      refine ⟨cs',?_,h2,h3,h4,h5⟩
      simp only [List.map_cons,Instr.fill]
      rw [if_neg (by simp at hi1 ⊢; omega)]
      exact h1
    · cases hd
theorem MC {o:Oper} {l sz m:Nat} {zs:List Cell} {ps:List (Nat × kS)} {l':List (Nat × List Cell)} (h:GX E I ρ n st a w) (hc:Ez P n o.op sz m zs ps=true) (hv:∀ p,p∈ps->(p.2.ev st.tm).g=true)
  (hm:E.m<=l) (hl:tN (st.bx l)) (hd:qG (bK st.tm) st.bx m sz ps=some l') (hq:∀ p,p∈l'->p.1<m/\p.2.length=sz) (hld:rY (bK st.tm) st.bx ps) :
  kY P E n o a w ((st.vO (oq (bK st.tm) ps)).qc l (.dat sz (DK (List.replicate m zs) l'))) (.one (.own l m sz)):=by
 have h':=h.freeze (oq (bK st.tm) ps)
 have hl':tN ((st.vO (oq (bK st.tm) ps)).bx l):=by
  rw [rO,rG hl]
  split<;>trivial
 generalize hJ:tH I ρ w st.bx (oq (bK st.tm) ps)=J at h'
 unfold Ez at hc
 split at hc
 ·rename_i t len ps' he
  simp only [Bool.and_eq_true,beq_iff_eq,decide_eq_true_eq] at hc
  obtain ⟨⟨⟨⟨⟨rfl,hs⟩,hs0⟩,hbig⟩,hp⟩,ht⟩:=hc
  split at ht
  ·rename_i e hte
   split at ht
   ·rename_i i hi
    simp only [Bool.and_eq_true,beq_iff_eq] at ht
    obtain ⟨rfl,hz⟩:=ht
    split at hz
    ·rename_i z hzero
     generalize hz0:(if len*i.size=0 then (#[]:Array Value) else z.cells)=z0
     generalize hcs0:(Array.range (len*i.size)).map (z0[· % z0.size]!)=cs0
     have hdc:DC J cs0.toList i.size (List.replicate len zs)/\cs0.size=len*i.size:=by
      refine ⟨?_,by rw [<- hcs0]; simp⟩
      by_cases h0:len*i.size=0
      ·have hlen0:len=0:=by
        rcases Nat.mul_eq_zero.1 h0 with h1 | h1
        ·exact h1
        ·omega
       subst hlen0
       refine ⟨fun j u hu => ?_,fun i' j c hc => ?_⟩
       ·rw [<- hcs0] at hu; simp at hu
       ·simp [List.getD] at hc
      ·rw [if_neg h0] at hz0
       subst hz0
       have rc:=Fb (I:=J) (N:=len*i.size) (m:=len) hz hs hs0 (Nat.le_refl _) (cs:=cs0) hcs0.symm
       exact ⟨fun j u hu=>rc.1 j u (by simpa using hu),fun i' j c hc=>by obtain ⟨u,hu,hr⟩:=rc.2 i' j c hc; exact ⟨u,by simpa using hu,hr⟩⟩
     obtain ⟨cs',h1,h2,h3,h4,h5⟩:=Me (BS:=oq (bK st.tm) ps) h hs0 ps'.toList ps l' cs0 (List.replicate len zs) hp (by simpa using hd) hld (fun b hb=>hb) (by simpa using hq) hv (by rw [hJ]; exact hdc.1) (fun x hx=>by rw [List.eq_of_mem_replicate hx,hs]) (by simpa using hdc.2)
     rw [hJ] at h2
     simp only [List.length_replicate] at h4 h5
     have g:=Bo h' (rG hl') hm cs' e len i.size (DK (List.replicate len zs) l') h4 (by omega) (by simp only [maxLen]; have:=Nat.le_mul_of_pos_right len hs0; omega) h3
      (fun j u hu=>h2.one j u (by simpa using hu)) (fun i' j c hc=>by obtain ⟨u,hu,hr⟩:=h2.rd i' j c hc; exact ⟨u,by simpa using hu,hr⟩)
     refine ⟨_,_,J,_,.inl ?_,g,fun _=>⟨w.heap.size,len,_,_,Ren.kE _ _ _ _,rfl,Nat.le_refl _,Nat.le_refl _,fun _=>rfl⟩⟩
     have hps:(ps'.map fun (i,x)=>(i,a.eval x)).toList=ps'.toList.map fun p=>(p.1,a.eval p.2):=by simp
     have hsz:(sizeOf e).run P w = .ok i.size w:=by simp [sizeOf,typeInfo,hi]
     have WX:(zeroValue e).run P w = .ok z w:=by simp [zeroValue,typeInfo,hi,hzero]
     simp only [execOp,he,Instr.buildSlice,Sem.run_bind,run_underlying hte,Result.andThen_ok,hsz]
     rw [if_neg (by omega)]
     by_cases h0:len*i.size=0
     ·rw [if_pos h0] at hz0 ⊢
      subst hz0
      simp only [Sem.run_bind,Sem.run_pure,Result.andThen_ok,hcs0,hps,h1,newRow,run_newObj]
      rfl
     ·rw [if_neg h0] at hz0 ⊢
      subst hz0
      simp only [Sem.run_bind,WX,Sem.run_pure,Result.andThen_ok,hcs0,hps,h1,newRow,run_newObj]
      rfl
    ·cases hz
   ·cases ht
  ·cases ht
 ·cases hc
theorem zi (w:World) (k:Nat) (cs:Array Value):Em w (w.setRow k cs) (fun k'=>k'=k) :=
 ⟨rfl,rfl,rfl,by simp,fun k' _ hne=>setRow_other w k k' cs hne⟩
theorem rD (cs:Array Value) (off:Nat) (vs:List Value):(cs.toList.take (off+0)++vs++cs.toList.drop (off+0+vs.length)).toArray=(Ab.splice cs.toList off vs).toArray:=by
 unfold Ab.splice; simp
def Hg (P:Program) (n:Nat) (op:Op) (agg:Bool) (k:Nat) (p x:kS):Bool:=match op with | .store t p' x'=>iW n p' p&&iW n x' x&&IM P t agg k&&(agg||k==1) | _=>false
theorem Le {t:TypeId} {agg:Bool} {k kk off:Nat} (ht:IM P t agg k=true) {v:Value} (hk:v.cells.size=k) {cur:Array Value} {e:TypeId} (hw:w.heap[kk]? = some (.cells cur e (0,0)))
  (hfit:off+k<=cur.size) (h1:∀ (j:Nat) (u:Value),v.cells.toList[j]? = some u->u.oneCell'=true) :
  (Instr.storeAt t (.pointer (some ⟨kk,off,none⟩)) v).run P w = .ok () (w.setRow kk (Ab.splice cur.toList off v.cells.toList).toArray):=by
 have hst:=run_storeCells_at P kk off e v.cells.toList 0 cur w hw (by simp; omega) (fun u hu=>by
  obtain ⟨j,hj⟩:=List.getElem?_of_mem hu
  exact h1 j u hj)
 rw [rD] at hst
 obtain ⟨_,hs⟩:=BG ht w
 simp only [Instr.storeAt,Instr.sureAddr,Sem.run_bind,Sem.run_pure,Result.andThen_ok,storeVar,hs]
 rw [if_neg (by omega)]
 exact hst
theorem WR {v:Value} {x:AV} (h:GV I ρ v x) (hf:x.flat):∀ (j:Nat) (u:Value),v.cells.toList[j]? = some u->u.oneCell'=true:=fun j u hu=>by
 have gc:=Ad h hf
 have hj:j<x.cells.length:=by rw [<- gc.1]; exact (List.getElem?_eq_some_iff.1 hu).1
 exact (gc.2 j u _ hu (List.getElem?_eq_getElem hj)).one
theorem PV {o:Oper} {agg:Bool} {k:Nat} {p x:kS} (h:GX E I ρ n st a w) (hc:Hg P n o.op agg k p x=true) (hd:o.dst=none) (hp:(p.ev st.tm).g=true) (hx:(x.ev st.tm).g=true)
  (iC:(ig agg k (bK st.tm p) (bK st.tm x) st.bx).vc):kY P E n o a w (st.mY (ig agg k (bK st.tm p) (bK st.tm x) st.bx).sets) (ig agg k (bK st.tm p) (bK st.tm x) st.bx).v:=by
 unfold Hg at hc
 split at hc
 ·rename_i t p' x' he
  simp only [Bool.and_eq_true] at hc
  obtain ⟨⟨⟨c1,c2⟩,ht⟩,_⟩:=hc
  have g1:=kD h c1 hp
  have g2:=kD h c2 hx
  have hf:(bK st.tm x).flat:=by
   cases hav:bK st.tm x with
   | one _=>trivial
   | agg _=>trivial
   | o8 ps=>rw [hav] at iC; exact iC.elim
  have gc:=Ad g2 hf
  have h1:=WR g2 hf
  have key:∀ {J:IH} {st':dB} (h':GX E J ρ n st' a w) {b kk cap off:Nat} {cur:Array Value} {e:TypeId} {y:Box},a.eval p' = .pointer (some ⟨kk,off,none⟩)->(st'.bx b).uses (ρ b) kk->w.heap[kk]? = some (.cells cur e (0,0))->(bK st.tm x).cells.length=k->off+k<=cur.size ->
    (∀ k',y.uses (ρ b) k'->k'=kk)->uw J ρ (w.setRow kk (Ab.splice cur.toList off (a.eval x').cells.toList).toArray) b y->ρ b=some (kk,cap)->kY P E n o a w (st'.mY [(b,y)]) (.one .Af):=by
   intro J st' h' b kk cap off cur e y hpv hu hw hk hfit huy hok hr
   have hkv:(a.eval x').cells.size=k:=by have:=gc.1; simp at this; omega
   have hrun:=Le (P:=P) (w:=w) ht hkv hw hfit h1
   refine ⟨undef,w.setRow kk (Ab.splice cur.toList off (a.eval x').cells.toList).toArray,J,ρ,.inr ⟨by simp only [execOp,he,hpv,Sem.run_bind,hrun,Result.andThen_ok,Sem.run_pure],hd⟩,?_,fun hn=>absurd hd hn⟩
   exact h'.qc hu y huy (zi _ _ _) hok (by simp)
  unfold ig at iC ⊢
  split at iC
  ·exact iC.elim
  ·exact iC.elim
  ·exact iC.elim
  ·split at iC
   ·rename_i b off e1
    rw [e1] at g1
    obtain ⟨kk,cap,hr,hv⟩:=g1
    split at iC
    ·rename_i xs hb
     obtain ⟨hk,hfit⟩:=iC
     have hok:=h.bx.ok b
     rw [hb] at hok
     obtain ⟨VY,cap',cs,hr',hw,hs,hcs⟩:=hok
     rw [hr] at hr'
     simp only [Option.some.injEq,Prod.mk.injEq] at hr'
     obtain ⟨rfl,rfl⟩:=hr'
     refine key h hv (by rw [hb]; exact ⟨cap,hr⟩) hw hk (by omega) (fun k' hk' => ?_) ?_ hr
     ·obtain ⟨c,hc⟩:=hk'; rw [hr] at hc; simp at hc; exact hc.1.symm
     ·have hsp:=AP.splice (vs:=cs.toList) (xs:=xs) ⟨by simpa using hs,fun j v y hv hy=>hcs j v y (by simpa using hv) hy⟩ gc off (by omega)
      refine ⟨kk,cap,_,hr,setRow_heap w kk cs _ cap _ hw,?_,fun j u y hu hy=>hsp.2 j u y (by simpa using hu) hy⟩
      have:=hsp.1
      simpa using this
    ·exact iC.elim
   ·rename_i b i sz off e1
    rw [e1] at g1
    obtain ⟨kk,cap,hr,hv⟩:=g1
    split at iC
    ·rename_i sz' es cs' hb hds
     obtain ⟨rfl,hk,hi,hfit,hlo,hnb⟩:=iC
     obtain ⟨hl,hrd⟩:=ML (BS:=kU (bK st.tm x).cells) h gc hds hlo (fun b hm=>hm)
     have h':=h.freeze (kU (bK st.tm x).cells)
     have hb':(st.vO (kU (bK st.tm x).cells)).bx b = .dat sz' es:=by
      rw [rO,if_neg (fun hm=>by rw [List.contains_iff_mem.2 hm] at hnb; cases hnb),hb]
     rw [Iz]
     generalize hJ:tH I ρ w st.bx (kU (bK st.tm x).cells)=J at h' hrd
     have hok:=h'.bx.ok b
     rw [hb'] at hok
     obtain ⟨VY,cap',hr',hle,hcm,hsz,hcs⟩:=hok
     rw [hr] at hr'
     simp only [Option.some.injEq,Prod.mk.injEq] at hr'
     obtain ⟨rfl,rfl⟩:=hr'
     have hc0:cap ≠ 0:=by omega
     obtain ⟨cs,e,hw,hs,ho,Zk⟩:=hcs hc0
     have hi1:(i+1)*sz'<=cs.size:=by rw [hs]; exact Nat.mul_le_mul_right _ (by omega)
     have hmul:(i+1)*sz'=i*sz'+sz':=by rw [Nat.add_mul]; omega
     have Zi:(es.getD i []).length=sz':=hsz _ (by simp [List.getD,List.getElem?_eq_getElem hi])
     have hck:(bK st.tm x).cells.length=k:=by rw [<- gc.1,hl]; exact hk
     have hdc:DC J cs.toList sz' es:=⟨fun j u hu=>ho j u (by simpa using hu),fun i j c hc=>by obtain ⟨u,hu,hr⟩:=Zk i j c hc; exact ⟨u,by simpa using hu,hr⟩⟩
     have hsp:=hdc.splice hsz hi (off:=off) (ys:=cs') (vs:=(a.eval x').cells.toList) (by omega) (by simpa using hi1) hl h1 hrd
     refine key h' hv (by rw [hb']; exact ⟨cap,hr,hc0⟩) hw hck (by omega) (fun k' hk' => ?_) ?_ hr
     ·obtain ⟨c,hc,_⟩:=hk'; rw [hr] at hc; simp at hc; exact hc.1.symm
     ·refine ⟨kk,cap,hr,by simpa using hle,hcm,fun y hy => ?_,fun _=>⟨_,e,setRow_heap w kk cs _ e _ hw,?_,fun j u hu=>hsp.one j u (by simpa using hu),fun i j c hc=>by obtain ⟨u,hu,hr⟩:=hsp.rd i j c hc; exact ⟨u,by simpa using hu,hr⟩⟩⟩
      ·rcases List.mem_or_eq_of_mem_set hy with h1 | h1
       ·exact hsz y h1
       ·rw [h1,length_splice _ _ _ (by omega)]
        exact Zi
      ·have:(a.eval x').cells.toList.length=k:=by rw [hl]; exact hk
       simp only [List.size_toArray]
       rw [length_splice _ _ _ (by rw [this,Array.length_toList]; omega)]
       simpa using hs
    ·exact iC.elim
   ·exact iC.elim
 ·cases hc
end
end Go.Ab
end
section
namespace Go.Ab
open Go
section
variable {P:Program} {E:Env P} {I:IH} {ρ:Ren} {n:Nat} {st:dB} {a:Act} {w:World}
theorem GX.kill (h:GX E I ρ n st a w) (b:Nat):GX E I ρ n (st.qc b .dead) a w:=by
 refine { h with bx := ?_,own := ?_,agree:=h.agree,tm:=h.tm,size:=h.size,defers:=h.defers }
 ·refine BX.step (fun c=>c=b) h.bx (IH.le_refl I) (Ren.le_refl ρ) (fun c hc=>⟨by simp [dB.lU,hc],rfl⟩) (fun c k _ _=>rfl) ?_ ?_ ?_ (fun c k _ hu=>h.bx.fresh c k hu)
  ·rintro c rfl; simp [dB.lU,uw]
  ·rintro c k rfl hu; simp [dB.lU,Box.uses] at hu
  ·rintro c c' k rfl rfl _ _; rfl
 ·intro c k hu
  simp only [dB.lU] at hu
  by_cases e:c=b
  ·rw [if_pos e] at hu; exact hu.elim
  ·rw [if_neg e] at hu; exact h.own c k hu
theorem GX.move (h:GX E I ρ n st a w) {w':World} {b l kk cap sz sz':Nat} {es es':List (List Cell)} (hb:st.bx b = .dat sz es) (hr:ρ b=some (kk,cap)) (hl:st.bx l = .absent) (hm:E.m<=l)
  (hF:Em w w' (fun k=>k=kk)) (hsz:w'.heap.size=w.heap.size) (h0:cap=0->w'=w) (hx:uw I (ρ.set l kk cap) w' l (.dat sz' es')):GX E I (ρ.set l kk cap) n ((st.qc b .dead).qc l (.dat sz' es')) a w':=by
 have hrl:ρ l=none:=by have:=h.bx.ok l; rwa [hl] at this
 have hbl:b ≠ l:=by rintro rfl; rw [hl] at hb; cases hb
 have hle:=Ren.CS (ρ:=ρ) (k:=kk) (cap:=cap) hrl
 have hk:∀ k',k' ≠ kk->w'.heap[k']? = w.heap[k']? := fun k' hne=>by
  by_cases hlt:k'<w.heap.size
  ·exact hF.block k' hlt hne
  ·rw [Array.getElem?_eq_none (by omega),Array.getElem?_eq_none (by omega)]
 have hub:cap ≠ 0->(st.bx b).uses (ρ b) kk:=fun hc=>by rw [hb]; exact ⟨cap,hr,hc⟩
 have hk2:∀ k',(∀ hc:cap ≠ 0,k' ≠ kk)->w'.heap[k']? = w.heap[k']? := fun k' hne=>by
  by_cases hc:cap=0
  ·rw [h0 hc]
  ·exact hk k' (hne hc)
 refine { agree:=h.agree.other fun k' c hc=>hk2 k' fun hc0 e => ?_,bx := ?_,tm:=fun t ht=>(h.tm t ht).mono (IH.le_refl _) hle,size:=h.size,defers:=h.defers,yT := ?_,own := ?_,Gp:=h.Gp,xy:=h.xy,pW := ?_ }
 ·subst e; have:=h.bx.fresh b k' (hub hc0); rw [this] at hc; cases hc
 ·refine BX.step (fun c=>c=b\/c=l) h.bx (IH.le_refl I) hle ?_ ?_ ?_ ?_ ?_ ?_
  ·intro c hc
   have h1:¬ c=b:=fun e=>hc (.inl e)
   have h2:¬ c=l:=fun e=>hc (.inr e)
   exact ⟨by simp [dB.lU,h1,h2],Ren.oO h2⟩
  ·intro c k' hc hu
   refine hk2 k' fun hc0 e=>hc (.inl ?_)
   subst e
   exact h.bx.inj c b k' hu (hub hc0)
  ·rintro c (rfl | rfl)
   ·simp [dB.lU,hbl,uw]
   ·simpa [dB.lU] using hx
  ·rintro c k' (rfl | rfl) hu
   ·simp [dB.lU,hbl,Box.uses] at hu
   ·simp only [dB.lU,if_true,Box.uses,Ren.kE] at hu
    obtain ⟨c',hc',hc0⟩:=hu
    simp only [Option.some.injEq,Prod.mk.injEq] at hc'
    obtain ⟨rfl,rfl⟩:=hc'
    exact ⟨fun b' hb' hu'=>hb' (.inl (h.bx.inj b' b kk hu' (hub hc0))),h.bx.fresh b kk (hub hc0)⟩
  ·rintro c c' k' (rfl | rfl) (rfl | rfl) hu hu'
   ·rfl
   ·simp [dB.lU,hbl,Box.uses] at hu
   ·simp [dB.lU,hbl,Box.uses] at hu'
   ·rfl
  ·intro c k' hc hu; exact h.bx.fresh c k' hu
 ·by_cases hc:cap=0
  ·rw [h0 hc]; exact h.yT
  ·refine h.yT.trans hF fun k' hlt e => ?_
   subst e
   rcases h.own b k' (hub hc) with h1 | h1
   ·omega
   ·exact h1
 ·intro c k' hu
  simp only [dB.lU] at hu
  by_cases e:c=l
  ·subst e
   simp only [if_true,Box.uses,Ren.kE] at hu
   obtain ⟨c',hc',hc0⟩:=hu
   simp only [Option.some.injEq,Prod.mk.injEq] at hc'
   obtain ⟨rfl,rfl⟩:=hc'
   exact h.own b kk (hub hc0)
  ·rw [if_neg e,Ren.oO e] at hu
   by_cases e2:c=b
   ·rw [if_pos e2] at hu; exact hu.elim
   ·rw [if_neg e2] at hu; exact h.own c k' hu
 ·intro c hc
  rw [Ren.oO (by omega)]
  exact h.pW c hc
theorem AB {v:Value} {sz:Nat} {es:List (List Cell)} (h:Src I w v sz es) (h0:0<sz):∃ (b:Option Addr) (cap:Nat) (us:List Value),v = .slice b es.length cap/\us.length=es.length*sz /\
    (∀ ad,b=some ad->∀ (j:Nat) (u:Value),us[j]? = some u->w.cell? (ad.add j)=some u)/\(b=none->es=[])/\DC I us sz es:=by
  obtain ⟨b,cap,hv,_,hsz,hb,hc⟩:=h
  cases b with
  | none =>
    have:es=[]:=by
      cases es with
      | nil=>rfl
      | cons e r=>exact absurd rfl (hb (by simp))
    subst this
    exact ⟨none,cap,[],hv,by simp,(fun ad h=>by cases h),(fun _=>rfl),⟨by simp,by simp⟩⟩
  | some ad =>
    have key:∀ j,j<es.length*sz->∃ u,w.cell? (ad.add j)=some u/\∃ c,(es.getD (j/sz) [])[j%sz]? = some c/\Rd I u c:=by
      intro j hj
      have hi:j/sz<es.length:=by rw [Nat.div_lt_iff_lt_mul h0]; exact hj
      have hl:(es.getD (j/sz) []).length=sz:=hsz _ (by simp [List.getD,List.getElem?_eq_getElem hi])
      have hm:j%sz<sz:=Nat.mod_lt _ h0
      obtain ⟨u,hu,hr⟩:=hc ad rfl (j/sz) (j%sz) _ (List.getElem?_eq_getElem (by omega))
      have e:j/sz*sz+j%sz=j:=by rw [Nat.mul_comm]; exact Nat.div_add_mod j sz
      rw [e] at hu
      exact ⟨u,hu,_,List.getElem?_eq_getElem (by omega),hr⟩
    refine ⟨some ad,cap,(List.range (es.length*sz)).map fun j=>(w.cell? (ad.add j)).getD undef,hv,by simp,?_,by simp,?_⟩
    · intro ad' had j u hu
      simp at had
      subst had
      rw [List.getElem?_map] at hu
      by_cases hj:j<es.length*sz
      · rw [List.getElem?_range hj] at hu
        obtain ⟨u',hu',_⟩:=key j hj
        simp [hu'] at hu
        rw [<- hu]; exact hu'
      · rw [List.getElem?_eq_none (by simpa using hj)] at hu; cases hu
    · refine ⟨fun j u hu => ?_,fun i j c hcc => ?_⟩
      · rw [List.getElem?_map] at hu
        by_cases hj:j<es.length*sz
        · rw [List.getElem?_range hj] at hu
          obtain ⟨u',hu',c,_,hr⟩:=key j hj
          simp [hu'] at hu
          rw [<- hu]; exact hr.one
        · rw [List.getElem?_eq_none (by simpa using hj)] at hu; cases hu
      · have hi:=jy hcc
        have hl:(es.getD i []).length=sz:=hsz _ (by simp [List.getD,List.getElem?_eq_getElem hi])
        have hj:j<sz:=by rw [<- hl]; exact (List.getElem?_eq_some_iff.1 hcc).1
        obtain ⟨u,hu,hr⟩:=hc ad rfl i j c hcc
        have hlt:i*sz+j<es.length*sz:=by
          have:(i+1)*sz<=es.length*sz:=Nat.mul_le_mul_right _ hi
          rw [Nat.add_mul] at this
          omega
        exact ⟨u,by rw [List.getElem?_map,List.getElem?_range hlt]; simp [hu],hr⟩
theorem DC.append {us vs:List Value} {sz:Nat} {es ys:List (List Cell)} (h:DC I us sz es) (k:DC I vs sz ys) (hl:us.length=es.length*sz):DC I (us++vs) sz (es++ys):=by
 refine ⟨fun j u hu => ?_,fun i j c hc => ?_⟩
 ·by_cases hj:j<us.length
  ·rw [List.getElem?_append_left hj] at hu; exact h.one j u hu
  ·rw [List.getElem?_append_right (by omega)] at hu; exact k.one _ u hu
 ·by_cases hi:i<es.length
  ·have e:(es++ys).getD i []=es.getD i []:=by simp [List.getD,List.getElem?_append_left hi]
   rw [e] at hc
   obtain ⟨u,hu,hr⟩:=h.rd i j c hc
   exact ⟨u,by rw [List.getElem?_append_left (List.getElem?_eq_some_iff.1 hu).1]; exact hu,hr⟩
  ·have e:(es++ys).getD i []=ys.getD (i-es.length) []:=by simp [List.getD,List.getElem?_append_right (Nat.le_of_not_lt hi)]
   rw [e] at hc
   obtain ⟨u,hu,hr⟩:=k.rd _ j c hc
   have hmul:es.length*sz<=i*sz:=Nat.mul_le_mul_right _ (by omega)
   have hsub:(i-es.length)*sz=i*sz-es.length*sz:=Nat.sub_mul _ _ _
   exact ⟨u,by rw [List.getElem?_append_right (by omega),hl,<- hu]; congr 1; omega,hr⟩
theorem DC.more {us vs:List Value} {sz:Nat} {es:List (List Cell)} (h:DC I us sz es) (hv:∀ (j:Nat) (u:Value),vs[j]? = some u->u.oneCell'=true):DC I (us++vs) sz es:=by
 refine ⟨fun j u hu => ?_,fun i j c hc => ?_⟩
 ·by_cases hj:j<us.length
  ·rw [List.getElem?_append_left hj] at hu; exact h.one j u hu
  ·rw [List.getElem?_append_right (by omega)] at hu; exact hv _ u hu
 ·obtain ⟨u,hu,hr⟩:=h.rd i j c hc
  exact ⟨u,by rw [List.getElem?_append_left (List.getElem?_eq_some_iff.1 hu).1]; exact hu,hr⟩
theorem DC.QD {us:List Value} {sz:Nat} {es:List (List Cell)} {cs:Array Value} (h:DC I us sz es) (e:cs.toList=us) :
  (∀ (j:Nat) (u:Value),cs[j]? = some u->u.oneCell'=true)/\∀ (i j:Nat) (c:Cell),(es.getD i [])[j]? = some c->∃ u,cs[i*sz+j]? = some u/\Rd I u c:=by
 subst e
 exact ⟨fun j u hu=>h.one j u (by simpa using hu),fun i j c hc=>by obtain ⟨u,hu,hr⟩:=h.rd i j c hc; exact ⟨u,by simpa using hu,hr⟩⟩
def wP (P:Program) (n:Nat) (op:Op) (sz bytes:Nat) (s x:kS):Bool :=
  match op with
  | .call { callee := .builtin .append,args:=⟨[s',x']⟩,argTypes:=⟨[t,t']⟩ } => iW n s' s&&iW n x' x&&t==t'&&decide (0<sz)&&(match P.underlying t with
    | some (.slice e)=>(match P.info? e with | some i=>i.size==sz&&i.bytes==bytes&&(match i.zero with | some z=>z.cells.size==sz&&z.cells.toList.all (·.oneCell') | none=>false) | none=>false)
    | _=>false)
  | _=>false
theorem run_append_room' (t ty e tg:TypeId) (i:TypeInfo) (ht:P.underlying t=some (.slice e)) (hi:P.info? e=some i)
  (g sLen sCap:Nat) (cur:Array Value) (hg:w.heap[g]? = some (.cells cur tg (0,0)))
  (ad:Addr) (m c:Nat) (news:List Value) (hl:news.length=m*i.size) (hnews:∀ j u,news[j]? = some u->w.cell? (ad.add j)=some u) (h1:∀ u∈news,u.oneCell'=true)
  (hroom:sLen+m<=sCap) (hfit:sLen*i.size+news.length<=cur.size) :
  (Builtin.append_ #[t,t] ty #[.slice (some ⟨g,0,none⟩) sLen sCap,.slice (some ad) m c]).run P w =
   .ok (.slice (some ⟨g,0,none⟩) (sLen+m) sCap) (w.setRow g (cur.toList.take (sLen*i.size)++news++cur.toList.drop (sLen*i.size+news.length)).toArray):=by
 have hf:=run_firstCells_some (P:=P) w i.size m ad m c news hl hnews
 have hst:=run_storeCells_at P g (sLen*i.size) tg news 0 cur w hg (by simpa using hfit) h1
 simp only [Nat.add_zero] at hst
 simp [Builtin.append_,run_underlying ht,sizeOf,typeInfo,hi,Builtin.lenOf,hroom,hf,Go.Addr.add_lit,hst]
theorem vW (t ty e:TypeId) (i:TypeInfo) (ht:P.underlying t=some (.slice e)) (hi:P.info? e=some i) (b:Option Addr) (sLen sCap:Nat) (hs:sLen<=sCap) (ad:Option Addr) (c:Nat) :
  (Builtin.append_ #[t,t] ty #[.slice b sLen sCap,.slice ad 0 c]).run P w = .ok (.slice b sLen sCap) w:=by
 have hf:(Builtin.firstCells i.size 0 (.slice ad 0 c)).run P w = .ok #[] w:=by
  cases ad<;>simp [Builtin.firstCells,loadCells,loadCellsFrom,Sem.run_pure]
 cases b<;>simp [Builtin.append_,run_underlying ht,sizeOf,typeInfo,hi,Builtin.lenOf,hs,hf,storeCells]
theorem Fq (h:GX E I ρ n st a w) {l sz bytes:Nat} {sv xv:Value} {es ys:List (List Cell)} {b:Option Nat} (t ty e:TypeId) (i:TypeInfo) (z:Value) (ht:P.underlying t=some (.slice e)) (hi:P.info? e=some i) (hsz:i.size=sz)
    (hby:i.bytes=bytes) (hz:i.zero=some z) (hzs:z.cells.size=sz) (hz1:z.cells.toList.all (·.oneCell')=true) (h0:0<sz) (hl:st.bx l = .absent) (hm:E.m<=l)
    (hb:(b=none/\es=[]/\sv = .slice none 0 0)\/∃ b',b=some b'/\st.bx b' = .dat sz es/\GC I ρ sv (.own b' es.length sz)) (hx:Src I w xv sz ys) (hbig:(es.length+ys.length)*(bytes+sz+1)<=2^46) :
    ∃ v w' ρ',(Builtin.append_ #[t,t] ty #[sv,xv]).run P w = .ok v w'/\GX E I ρ' n ((match b with | some b'=>st.qc b' .dead | none=>st).qc l (.dat sz (es++ys))) a w'/\GC I ρ' v (.own l (es.length+ys.length) sz):=by
  subst hsz; subst hby
  have hmul:(es.length+ys.length)*(i.bytes+i.size+1)=(es.length+ys.length)*i.bytes+(es.length+ys.length)*i.size+(es.length+ys.length):=by rw [Nat.mul_add,Nat.mul_add,Nat.mul_one]
  have hbytes:(es.length+ys.length)*i.bytes<=140737488355328:=by omega
  have h63:es.length+ys.length<=maxLen:=by simp only [maxLen]; omega
  obtain ⟨xb,xc,us,hxv,zQ,hus,VX,Oh⟩:=AB hx h0
  have hys:∀ y,y∈ys->y.length=i.size:=by obtain ⟨_,_,_,_,h4,_⟩:=hx; exact h4
  have hone:∀ u∈us,u.oneCell'=true:=fun u hu=>by obtain ⟨j,hj⟩:=List.getElem?_of_mem hu; exact Oh.one j u hj
  have hzc:∀ (q:Nat) (j:Nat) (u:Value),(Builtin.zeroCells z.cells q).toList[j]? = some u->u.oneCell'=true:=by
    intro q j u hu
    simp only [Builtin.zeroCells,Array.getElem?_toList,Array.getElem?_map] at hu
    by_cases hj:j<q*z.cells.size
    · rw [Array.getElem?_range,if_pos hj] at hu
      simp only [Option.map_some,Option.some.injEq] at hu
      have hlt:j%z.cells.size<z.cells.size:=Nat.mod_lt _ (by omega)
      rw [getElem!_pos z.cells _ hlt] at hu
      rw [<- hu]
      exact List.all_eq_true.1 hz1 _ (by simp)
    · rw [Array.getElem?_range,if_neg hj] at hu; cases hu
  have fresh:∀ (st':dB) (old:Nat) (olds:List Value),GX E I ρ n st' a w->st'.bx l = .absent->old<es.length+ys.length->olds.length=es.length*i.size->DC I olds i.size es->(∀ y,y∈es->y.length=i.size) ->
      GX E I (ρ.set l w.heap.size (grownCap w (es.length+ys.length) old e)) n (st'.qc l (.dat i.size (es++ys))) a
        (w.drew.alloc (.cells (olds.toArray++us.toArray++Builtin.zeroCells z.cells (grownCap w (es.length+ys.length) old e-(es.length+ys.length))) e)):=by
    intro st' old olds hst hl' ho hol hdo hes
    have hge:=grownCap_ge w (es.length+ys.length) old e
    have hcm:grownCap w (es.length+ys.length) old e<=maxLen:=grownCap_le_maxLen w _ old e h63
    have hdc:=((hdo.append Oh hol).more (hzc (grownCap w (es.length+ys.length) old e-(es.length+ys.length)))).QD (cs:=olds.toArray++us.toArray++Builtin.zeroCells z.cells (grownCap w (es.length+ys.length) old e-(es.length+ys.length))) (by simp)
    refine Bo hst.drew hl' hm _ e _ i.size (es++ys) ?_ (by simpa using hge) hcm (fun x hx => ?_) hdc.1 hdc.2
    · simp only [Array.size_append,List.size_toArray,size_zeroCells,hzs,hol,zQ,<- Nat.add_mul]
      congr 1
      omega
    · rcases List.mem_append.1 hx with h1 | h1
      · exact hes x h1
      · exact hys x h1
  rcases hb with ⟨rfl,rfl,rfl⟩ | ⟨b',rfl,hb',hg⟩
  ·
    simp only [List.length_nil,Nat.zero_add,List.nil_append] at *
    by_cases hm0:ys.length=0
    · have hy0:ys=[]:=List.eq_nil_of_length_eq_zero hm0
      subst hy0
      refine ⟨.slice none 0 0,w,ρ.set l 0 0,?_,?_,0,0,none,0,Ren.kE _ _ _ _,rfl,Nat.le_refl _,Nat.le_refl _,fun h=>absurd rfl h⟩
      · rw [hxv]; exact vW t ty e i ht hi none 0 0 (Nat.le_refl _) xb xc
      · have hrl:ρ l=none:=by have:=h.bx.ok l; rwa [hl] at this
        have hle:=Ren.CS (ρ:=ρ) (k:=0) (cap:=0) hrl
        refine { agree:=h.agree,bx := ?_,tm:=fun t ht=>(h.tm t ht).mono (IH.le_refl _) hle,size:=h.size,defers:=h.defers,yT:=h.yT,own := ?_,Gp:=h.Gp,xy:=h.xy,pW:=fun c hc=>by rw [Ren.oO (by omega)]; exact h.pW c hc }
        · refine BX.step (fun c=>c=l) h.bx (IH.le_refl I) hle (fun c hc=>⟨by simp [dB.lU,hc],Ren.oO hc⟩) (fun c k _ _=>rfl) ?_ ?_ ?_ (fun c k _ hu=>h.bx.fresh c k hu)
          · rintro c rfl
            simp only [dB.lU,if_true]
            exact ⟨0,0,Ren.kE _ _ _ _,by simp,by simp [maxLen],by simp,fun h=>absurd rfl h⟩
          · rintro c k rfl hu
            simp only [dB.lU,if_true,Box.uses,Ren.kE] at hu
            obtain ⟨c',hc',hc0⟩:=hu
            simp only [Option.some.injEq,Prod.mk.injEq] at hc'
            exact absurd hc'.2.symm hc0
          · rintro c c' k rfl rfl _ _; rfl
        · intro c k hu
          simp only [dB.lU] at hu
          by_cases e':c=l
          · subst e'
            simp only [if_true,Box.uses,Ren.kE] at hu
            obtain ⟨c',hc',hc0⟩:=hu
            simp only [Option.some.injEq,Prod.mk.injEq] at hc'
            exact absurd hc'.2.symm hc0
          · rw [if_neg e',Ren.oO e'] at hu; exact h.own c k hu
    · obtain ⟨ad,had⟩:∃ ad,xb=some ad:=by
        cases hq:xb with
        | none=>exact absurd (by rw [VX hq]; rfl) hm0
        | some ad=>exact ⟨ad,rfl⟩
      subst had
      have hr:=run_append_nil (P:=P) w t ty e i z ht hi hz ad ys.length xc us zQ (hus ad rfl) (by omega) (by simp only [maxLen] at h63; omega) (by omega)
      rw [<- hxv] at hr
      have hf:=fresh st 0 [] h hl (by omega) (by simp) ⟨by simp,by simp⟩ (by simp)
      simp only [Array.empty_append] at hf
      exact ⟨_,_,_,hr,hf,w.heap.size,_,_,_,Ren.kE _ _ _ _,rfl,grownCap_ge w ys.length 0 e,Nat.le_refl _,fun _=>rfl⟩
  · obtain ⟨kk,cap,ad0,c,hr0,hsv,hnc,hcc,hcap⟩:=hg
    have hbl:b' ≠ l:=by rintro rfl; rw [hl] at hb'; cases hb'
    have hok:=h.bx.ok b'
    rw [hb'] at hok
    obtain ⟨VY,cap',hr',hle,hcm,hes,hcs⟩:=hok
    rw [hr0] at hr'
    simp only [Option.some.injEq,Prod.mk.injEq] at hr'
    obtain ⟨rfl,rfl⟩:=hr'
    simp only
    by_cases hm0:ys.length=0
    · have hy0:ys=[]:=List.eq_nil_of_length_eq_zero hm0
      subst hy0
      simp only [List.length_nil,Nat.add_zero,List.append_nil] at *
      refine ⟨sv,w,ρ.set l kk cap,?_,?_,kk,cap,ad0,c,Ren.kE _ _ _ _,hsv,hnc,hcc,hcap⟩
      · rw [hxv,hsv]; exact vW t ty e i ht hi ad0 _ c hnc xb xc
      · refine h.move hb' hr0 hl hm (Em.refl _ _) rfl (fun _=>rfl) ⟨kk,cap,Ren.kE _ _ _ _,hle,hcm,hes,hcs⟩
    · obtain ⟨ad,had⟩:∃ ad,xb=some ad:=by
        cases hq:xb with
        | none=>exact absurd (by rw [VX hq]; rfl) hm0
        | some ad=>exact ⟨ad,rfl⟩
      subst had
      by_cases hroom:es.length+ys.length<=c
      · have hc0:cap ≠ 0:=by omega
        have CJ:=hcap hc0
        subst CJ
        obtain ⟨cs,tg,hw,hs,ho,hrd⟩:=hcs hc0
        have hfit:es.length*i.size+us.length<=cs.size:=by rw [hs,zQ,<- Nat.add_mul]; exact Nat.mul_le_mul_right _ (by omega)
        have hr:=run_append_room' (P:=P) (w:=w) (ty:=ty) t e tg i ht hi kk es.length c cs hw ad ys.length xc us zQ (hus ad rfl) hone hroom hfit
        rw [<- hxv,<- hsv] at hr
        refine ⟨_,_,ρ.set l kk cap,hr,?_,kk,cap,_,c,Ren.kE _ _ _ _,rfl,hroom,hcc,fun _=>rfl⟩
        refine h.move hb' hr0 hl hm (zi _ _ _) (by simp) (fun h=>absurd h hc0) ⟨kk,cap,Ren.kE _ _ _ _,by simp; omega,hcm,fun x hx => ?_,fun _=>⟨_,tg,setRow_heap w kk cs _ tg _ hw,?_,?_⟩⟩
        · rcases List.mem_append.1 hx with h1 | h1
          · exact hes x h1
          · exact hys x h1
        · simp only [List.size_toArray,List.length_append,List.length_take,List.length_drop,Array.length_toList]
          omega
        · have hd1:DC I (cs.toList.take (es.length*i.size)) i.size es:=by
            refine ⟨fun j u hu => ?_,fun i' j c' hc' => ?_⟩
            · rw [List.getElem?_take] at hu
              split at hu
              · exact ho j u (by simpa using hu)
              · cases hu
            · obtain ⟨u,hu,hr⟩:=hrd i' j c' hc'
              have hi':=jy hc'
              have hj:j<i.size:=by rw [<- hes (es.getD i' []) (by simp [List.getD,List.getElem?_eq_getElem hi'])]; exact (List.getElem?_eq_some_iff.1 hc').1
              have:(i'+1)*i.size<=es.length*i.size:=Nat.mul_le_mul_right _ hi'
              rw [Nat.add_mul] at this
              exact ⟨u,by rw [List.getElem?_take,if_pos (by omega)]; simpa using hu,hr⟩
          have hlen:(cs.toList.take (es.length*i.size)).length=es.length*i.size:=by simp; omega
          have:=((hd1.append Oh hlen).more (vs:=cs.toList.drop (es.length*i.size+us.length)) (fun j u hu=>by rw [List.getElem?_drop] at hu; exact ho _ u (by simpa using hu))).QD (cs:=(cs.toList.take (es.length*i.size)++us++cs.toList.drop (es.length*i.size+us.length)).toArray) (by simp)
          exact this
      ·
        have hfit:=growslice_fits (need:=es.length+ys.length) (old:=c) (bytes:=i.bytes) (by omega) hbytes
        have hk:=h.kill b'
        have hkl:(st.qc b' .dead).bx l = .absent:=by rw [dB.lU,if_neg (fun e=>hbl e.symm)]; exact hl
        by_cases hc0:cap=0
        ·
          have he0:es=[]:=List.eq_nil_of_length_eq_zero (by omega)
          subst he0
          have hcz:c=0:=by omega
          subst hcz
          simp only [List.length_nil,Nat.zero_add,List.nil_append] at *
          have hf:=fresh (st.qc b' .dead) 0 [] hk hkl (by omega) (by simp) ⟨by simp,by simp⟩ (by simp)
          simp only [Array.empty_append] at hf
          cases ad0 with
          | none =>
            have hr:=run_append_nil (P:=P) w t ty e i z ht hi hz ad ys.length xc us zQ (hus ad rfl) (by omega) (by simp only [maxLen] at h63; omega) (by omega)
            rw [<- hxv,<- hsv] at hr
            exact ⟨_,_,_,hr,hf,w.heap.size,_,_,_,Ren.kE _ _ _ _,rfl,grownCap_ge w ys.length 0 e,Nat.le_refl _,fun _=>rfl⟩
          | some q =>
            have hr:=run_append_grow (P:=P) w t ty e i z ht hi hz q 0 0 [] (by simp) (by simp) ad ys.length xc us zQ (hus ad rfl) (by omega) (by simp only [maxLen] at h63; omega) (by simpa using hfit)
            rw [<- hxv,<- hsv] at hr
            simp only [Nat.zero_add,Array.empty_append] at hr
            exact ⟨_,_,_,hr,hf,w.heap.size,_,_,_,Ren.kE _ _ _ _,rfl,grownCap_ge w ys.length 0 e,Nat.le_refl _,fun _=>rfl⟩
        · have CJ:=hcap hc0
          subst CJ
          obtain ⟨cs,tg,hw,hs,ho,hrd⟩:=hcs hc0
          have hmn:es.length*i.size<=cs.size:=by rw [hs]; exact Nat.mul_le_mul_right _ hle
          have Nq:(cs.toList.take (es.length*i.size)).length=es.length*i.size:=by simp; omega
          have holds:∀ (j:Nat) (u:Value),(cs.toList.take (es.length*i.size))[j]? = some u->w.cell? ((⟨kk,0,none⟩:Addr).add j)=some u:=fun j u hu=>by
            rw [List.getElem?_take] at hu
            split at hu
            · rw [Addr.qJ]; simp at hu; simp [World.cell?,hw,hu]
            · cases hu
          have hd1:DC I (cs.toList.take (es.length*i.size)) i.size es:=by
            refine ⟨fun j u hu => ?_,fun i' j c' hc' => ?_⟩
            · rw [List.getElem?_take] at hu
              split at hu
              · exact ho j u (by simpa using hu)
              · cases hu
            · obtain ⟨u,hu,hr⟩:=hrd i' j c' hc'
              have hi':=jy hc'
              have hj:j<i.size:=by rw [<- hes (es.getD i' []) (by simp [List.getD,List.getElem?_eq_getElem hi'])]; exact (List.getElem?_eq_some_iff.1 hc').1
              have:(i'+1)*i.size<=es.length*i.size:=Nat.mul_le_mul_right _ hi'
              rw [Nat.add_mul] at this
              exact ⟨u,by rw [List.getElem?_take,if_pos (by omega)]; simpa using hu,hr⟩
          have hr:=run_append_grow (P:=P) w t ty e i z ht hi hz ⟨kk,0,none⟩ es.length c _ Nq holds ad ys.length xc us zQ (hus ad rfl) (by omega) (by simp only [maxLen] at h63; omega) hfit
          rw [<- hxv,<- hsv] at hr
          have hf:=fresh (st.qc b' .dead) c _ hk hkl (by omega) Nq hd1 hes
          exact ⟨_,_,_,hr,hf,w.heap.size,_,_,_,Ren.kE _ _ _ _,rfl,grownCap_ge w _ c e,Nat.le_refl _,fun _=>rfl⟩
end
end Go.Ab
end
section
namespace Go.Ab
open Go
section
variable {P:Program} {E:Env P} {I:IH} {ρ:Ren} {n:Nat} {st:dB} {a:Act} {w:World}
def Gj (l sz bytes:Nat) (s x:AV) (bx:Nat->Box):FR:=match iV sz x bx with
    | some (p,ys)=>match s with
      | .one (.cO _)=>⟨p/\(match bx l with | .absent=>True | _=>False)/\ys.length*(bytes+sz+1)<=2^46,.one (.own l ys.length sz),[(l,.dat sz ys)]⟩
      | .one (.own b n sz')=>match bx b with
        | .dat sJ es=>⟨p/\(match bx l with | .absent=>True | _=>False)/\sz'=sz/\sJ=sz/\n<=es.length/\(n+ys.length)*(bytes+sz+1)<=2^46/\b ≠ l,
            .one (.own l (n+ys.length) sz),[(b,.dead),(l,.dat sz (es.take n++ys))]⟩
        | _ => .bad
      | _ => .bad
    | none => .bad
theorem yg {x:Box} (h:match x with | .absent=>True | _=>False):x = .absent:=by cases x<;>first | rfl | exact h.elim
theorem GX.pfx (h:GX E I ρ n st a w) {b sz m:Nat} {es:List (List Cell)} (hb:st.bx b = .dat sz es):GX E I ρ n (st.qc b (.dat sz (es.take m))) a w:=by
 have hu:∀ c k,((st.qc b (.dat sz (es.take m))).bx c).uses (ρ c) k->(st.bx c).uses (ρ c) k:=fun c k hu=>by
  rw [dB.lU] at hu
  split at hu
  ·rename_i e; subst e; rw [hb]; exact hu
  ·exact hu
 refine { h with bx:=⟨fun c => ?_,fun c c' k hc hc'=>h.bx.inj c c' k (hu c k hc) (hu c' k hc'),fun c k hc=>h.bx.fresh c k (hu c k hc)⟩,own:=fun c k hc=>h.own c k (hu c k hc),agree:=h.agree,tm:=h.tm,size:=h.size,defers:=h.defers,yT:=h.yT }
 rw [dB.lU]
 split
 ·rename_i e
  subst e
  have hok:=h.bx.ok c
  rw [hb] at hok
  obtain ⟨k,cap,hr,h1,h2,h3,h4⟩:=hok
  refine ⟨k,cap,hr,by simp; omega,h2,fun e he=>h3 e (List.mem_of_mem_take he),fun h0 => ?_⟩
  obtain ⟨cs,e,g1,g2,g3,g4⟩:=h4 h0
  refine ⟨cs,e,g1,g2,g3,fun i j c' hc'=>g4 i j c' ?_⟩
  have hi:=jy hc'
  simp at hi
  rw [<- hc']
  congr 1
  simp only [List.getD]
  rw [List.getElem?_take,if_pos (by omega)]
 ·exact h.bx.ok c
theorem LY {o:Oper} {l sz bytes:Nat} {s x:kS} (h:GX E I ρ n st a w) (hc:wP P n o.op sz bytes s x=true) (hm:E.m<=l) (hs:(s.ev st.tm).g=true) (hx:(x.ev st.tm).g=true)
  (iC:(Gj l sz bytes (bK st.tm s) (bK st.tm x) st.bx).vc):kY P E n o a w (st.mY (Gj l sz bytes (bK st.tm s) (bK st.tm x) st.bx).sets) (Gj l sz bytes (bK st.tm s) (bK st.tm x) st.bx).v:=by
 unfold wP at hc
 split at hc
 ·rename_i s' x' t t' he
  simp only [Bool.and_eq_true,beq_iff_eq,decide_eq_true_eq] at hc
  obtain ⟨⟨⟨⟨c1,c2⟩,rfl⟩,h0⟩,ht⟩:=hc
  have g1:=kD h c1 hs
  have g2:=kD h c2 hx
  split at ht
  ·rename_i e hte
   split at ht
   ·rename_i i hi
    simp only [Bool.and_eq_true,beq_iff_eq] at ht
    obtain ⟨⟨rfl,rfl⟩,hz⟩:=ht
    split at hz
    ·rename_i z hzero
     simp only [Bool.and_eq_true,beq_iff_eq] at hz
     obtain ⟨hzs,hz1⟩:=hz
     have fin:∀ {v:Value} {w':World},(Builtin.append_ #[t,t] o.type #[a.eval s',a.eval x']).run P w = .ok v w'->(execOp a.eval o).run P w = .ok (.value v) w':=by
      intro v w' hr
      simp only [execOp,he,resolve,invoke,builtin,Sem.run_bind,Sem.run_pure,Result.andThen_ok,List.map_toArray,List.map_cons,List.map_nil,hr]
     unfold Gj at iC ⊢
     split at iC
     ·rename_i p ys hsrc
      split at iC
      ·rename_i sz' e1
       obtain ⟨hp,hl,hbig⟩:=iC
       rw [e1] at g1
       obtain ⟨v,w',ρ',hr,hg,hv⟩:=Fq (P:=P) h (l:=l) (es:=[]) (ys:=ys) (b:=none) t o.type e i z hte hi rfl rfl hzero hzs hz1 h0 (yg hl) hm (.inl ⟨rfl,rfl,g1⟩) (src_ok h g2 hsrc hp) (by simpa using hbig)
       simp only [List.nil_append,List.length_nil,Nat.zero_add] at hg hv
       exact ⟨v,w',I,ρ',.inl (fin hr),hg,fun _=>hv⟩
      ·rename_i b m sz' e1
       rw [e1] at g1
       split at iC
       ·rename_i sJ es hb
        obtain ⟨hp,hl,rfl,rfl,hmn,hbig,hbl⟩:=iC
        have hlt:(es.take m).length=m:=by simp; omega
        have h':=h.pfx (m:=m) hb
        have hl':(st.qc b (.dat i.size (es.take m))).bx l = .absent:=by rw [dB.lU,if_neg (fun e=>hbl e.symm)]; exact yg hl
        obtain ⟨v,w',ρ',hr,hg,hv⟩:=Fq (P:=P) h' (l:=l) (es:=es.take m) (ys:=ys) (b:=some b) t o.type e i z hte hi rfl rfl hzero hzs hz1 h0 hl' hm (.inr ⟨b,rfl,by rw [dB.lU,if_pos rfl],by rw [hlt]; exact g1⟩) (src_ok h g2 hsrc hp) (by rw [hlt]; exact hbig)
        rw [hlt] at hv
        have hst:(((st.qc b (.dat i.size (es.take m))).qc b .dead).qc l (.dat i.size (es.take m++ys)))=((st.qc b .dead).qc l (.dat i.size (es.take m++ys))):=by
         apply dB.ext'
         ·rfl
         ·funext c; simp only [dB.lU]; split
          ·rfl
          ·split<;>rfl
        simp only [hst] at hg
        exact ⟨v,w',I,ρ',.inl (fin hr),hg,fun _=>hv⟩
       ·exact iC.elim
      ·exact iC.elim
     ·exact iC.elim
    ·cases hz
   ·cases ht
  ·cases ht
 ·cases hc
def copyV (sz:Nat) (d x:AV) (bx:Nat->Box):FR:=match iV sz x bx with
    | some (p,ys)=>match d with
      | .one (.own b n sz')=>match bx b with
        | .dat sJ es=>⟨p/\sz'=sz/\sJ=sz/\n<=es.length,o7 .i64 (Nat.min ys.length n:Nat),[(b,.dat sz (splice es 0 (ys.take n)))]⟩
        | _ => .bad
      | .one (.cO _) => .ok (o7 .i64 0)
      | _ => .bad
    | none => .bad
def A7 (P:Program) (n:Nat) (op:Op) (sz:Nat) (d x:kS):Bool :=
 match op with
 | .call { callee := .builtin .copy,args:=⟨[d',x']⟩,argTypes:=⟨[t,_]⟩ } => iW n d' d&&iW n x' x&&CE P t sz&&decide (0<sz)
 | _=>false
theorem Vp (t t' ty e:TypeId) (i:TypeInfo) (ht:P.underlying t=some (.slice e)) (hi:P.info? e=some i) (kk m c:Nat) (cur:Array Value) (tg:TypeId) (hg:w.heap[kk]? = some (.cells cur tg (0,0)))
  (ad:Addr) (k c':Nat) (us:List Value) (hl:us.length=Nat.min k m*i.size) (hus:∀ j u,us[j]? = some u->w.cell? (ad.add j)=some u) (h1:∀ u∈us,u.oneCell'=true) (hfit:us.length<=cur.size) :
  (Builtin.copy_ #[t,t'] ty #[.slice (some ⟨kk,0,none⟩) m c,.slice (some ad) k c']).run P w = .ok (goInt (Nat.min k m:Nat)) (w.setRow kk (splice cur.toList 0 us).toArray):=by
 have hf:=run_firstCells_some (P:=P) w i.size (Nat.min k m) ad k c' us hl hus
 have hst:=run_storeCells_at P kk 0 tg us 0 cur w hg (by simpa using hfit) h1
 rw [rD] at hst
 simp [Builtin.copy_,run_underlying ht,sizeOf,typeInfo,hi,Builtin.lenOf,hf,hst]
theorem xY (t t' ty e:TypeId) (i:TypeInfo) (ht:P.underlying t=some (.slice e)) (hi:P.info? e=some i) (b:Option Addr) (m c:Nat) (ad:Option Addr) (k c':Nat) (h:Nat.min k m=0) :
  (Builtin.copy_ #[t,t'] ty #[.slice b m c,.slice ad k c']).run P w = .ok (goInt 0) w:=by
 have hf:(Builtin.firstCells i.size 0 (.slice ad k c')).run P w = .ok #[] w:=by
  cases ad<;>simp [Builtin.firstCells,loadCells,loadCellsFrom,Sem.run_pure]
 cases b<;>simp [Builtin.copy_,run_underlying ht,sizeOf,typeInfo,hi,Builtin.lenOf,h,hf,storeCells]
theorem PS {α:Type} (xs:List α):splice xs 0 []=xs:=by simp [splice]
theorem BB {b:Nat} {x:Box} (h:st.bx b=x):st.qc b x=st:=by
 apply dB.ext'
 ·rfl
 ·funext c; rw [dB.lU]; split
  ·rename_i e; rw [e,h]
  ·rfl
theorem Rk {o:Oper} {sz:Nat} {d x:kS} (h:GX E I ρ n st a w) (hc:A7 P n o.op sz d x=true) (hd:(d.ev st.tm).g=true) (hx:(x.ev st.tm).g=true)
  (iC:(copyV sz (bK st.tm d) (bK st.tm x) st.bx).vc):kY P E n o a w (st.mY (copyV sz (bK st.tm d) (bK st.tm x) st.bx).sets) (copyV sz (bK st.tm d) (bK st.tm x) st.bx).v:=by
 unfold A7 at hc
 split at hc
 ·rename_i d' x' t t' he
  simp only [Bool.and_eq_true,decide_eq_true_eq] at hc
  obtain ⟨⟨⟨c1,c2⟩,ht⟩,h0⟩:=hc
  have g1:=kD h c1 hd
  have g2:=kD h c2 hx
  obtain ⟨e,i,hte,hi,rfl⟩:=uz ht
  have fin:∀ {v:Value} {w':World},(Builtin.copy_ #[t,t'] o.type #[a.eval d',a.eval x']).run P w = .ok v w'->(execOp a.eval o).run P w = .ok (.value v) w':=by
   intro v w' hr
   simp only [execOp,he,resolve,invoke,builtin,Sem.run_bind,Sem.run_pure,Result.andThen_ok,List.map_toArray,List.map_cons,List.map_nil,hr]
  unfold copyV at iC ⊢
  split at iC
  ·rename_i p ys hsrc
   split at iC
   ·rename_i b m sz' e1
    rw [e1] at g1
    split at iC
    ·rename_i sJ es hb
     obtain ⟨hp,rfl,rfl,hmn⟩:=iC
     have hsrc':=src_ok h g2 hsrc hp
     have hys:∀ y,y∈ys->y.length=i.size:=by obtain ⟨_,_,_,_,h4,_⟩:=hsrc'; exact h4
     obtain ⟨xb,xc,us,hxv,zQ,hus,VX,Oh⟩:=AB hsrc' h0
     obtain ⟨kk,cap,ad0,c,hr0,hsv,hnc,hcc,hcap⟩:=g1
     have hok:=h.bx.ok b
     rw [hb] at hok
     obtain ⟨VY,cap',hr',hle,hcm,hes,hcs⟩:=hok
     rw [hr0] at hr'
     simp only [Option.some.injEq,Prod.mk.injEq] at hr'
     obtain ⟨rfl,rfl⟩:=hr'
     by_cases hm0:Nat.min ys.length m=0
     ·have hr:=xY (P:=P) (w:=w) t t' o.type e i hte hi ad0 m c xb ys.length xc hm0
      rw [<- hxv,<- hsv] at hr
      have htk:ys.take m=[]:=by
       apply List.eq_nil_of_length_eq_zero
       rw [List.length_take,Nat.min_comm]; exact hm0
      rw [htk,PS]
      refine ⟨_,w,I,ρ,.inl (fin hr),?_,fun _=>by rw [hm0]; exact rP _ _⟩
      show GX E I ρ n (st.qc b (.dat i.size es)) a w
      rw [BB hb]
      exact h
     ·have hmin:Nat.min ys.length m<=ys.length/\Nat.min ys.length m<=m:=⟨Nat.min_le_left _ _,Nat.min_le_right _ _⟩
      have hc0:cap ≠ 0:=by omega
      have CJ:=hcap hc0
      subst CJ
      obtain ⟨ad,had⟩:∃ ad,xb=some ad:=by
       cases hq:xb with
       | none=>have:=VX hq; subst this; exact absurd rfl hm0
       | some ad=>exact ⟨ad,rfl⟩
      subst had
      obtain ⟨cs,tg,hw,hs,ho,hrd⟩:=hcs hc0
      have hmul:Nat.min ys.length m*i.size<=ys.length*i.size:=Nat.mul_le_mul_right _ hmin.1
      have DL:Nat.min ys.length m*i.size<=cap*i.size:=Nat.mul_le_mul_right _ (by omega)
      have VW:(us.take (Nat.min ys.length m*i.size)).length=Nat.min ys.length m*i.size:=by simp; omega
      have Uz:0+(us.take (Nat.min ys.length m*i.size)).length<=cs.toList.length:=by have hq:cs.toList.length=cs.size:=Array.length_toList; omega
      have hr:=Vp (P:=P) (w:=w) t t' o.type e i hte hi kk m c cs tg hw ad ys.length xc (us.take (Nat.min ys.length m*i.size)) VW
       (fun j u hu=>by
        rw [List.getElem?_take] at hu
        split at hu
        ·exact hus ad rfl j u hu
        ·cases hu)
       (fun u hu=>by obtain ⟨j,hj⟩:=List.getElem?_of_mem (List.mem_of_mem_take hu); exact Oh.one j u hj) (by rw [VW]; omega)
      rw [<- hxv,<- hsv] at hr
      refine ⟨_,_,I,ρ,.inl (fin hr),?_,fun _=>rP _ _⟩
      have htl:(ys.take m).length=Nat.min ys.length m:=by rw [List.length_take,Nat.min_comm]
      refine h.qc (b:=b) (k:=kk) (by rw [hb]; exact ⟨cap,hr0,hc0⟩) (.dat i.size (splice es 0 (ys.take m))) (fun k' hk' => ?_) (zi _ _ _) ?_ (by simp)
      ·obtain ⟨c',hc',_⟩:=hk'; rw [hr0] at hc'; simp at hc'; exact hc'.1.symm
      ·have hsl:(splice es 0 (ys.take m)).length=es.length:=length_splice _ _ _ (by rw [htl]; omega)
       refine ⟨kk,cap,hr0,by rw [hsl]; exact hle,hcm,fun y hy => ?_,fun _=>⟨_,tg,setRow_heap w kk cs _ tg _ hw,?_,?_,?_⟩⟩
       ·unfold splice at hy
        simp only [List.take_zero,List.nil_append,List.mem_append] at hy
        rcases hy with h1 | h1
        ·exact hys y (List.mem_of_mem_take h1)
        ·exact hes y (List.mem_of_mem_drop h1)
       ·simp only [List.size_toArray]
        rw [length_splice _ _ _ Uz]
        simpa using hs
       ·intro j u hu
        have hu:(splice cs.toList 0 (us.take (Nat.min ys.length m*i.size)))[j]? = some u:=by simpa using hu
        rw [l9 _ _ _ _ Uz,if_neg (by omega)] at hu
        split at hu
        ·rw [List.getElem?_take] at hu
         split at hu
         ·exact Oh.one _ u hu
         ·cases hu
        ·exact ho j u (by simpa using hu)
       ·intro i' j cc vH
        have key:∃ u,(splice cs.toList 0 (us.take (Nat.min ys.length m*i.size)))[i'*i.size+j]? = some u/\Rd I u cc:=by
         have hi':=jy vH
         rw [hsl] at hi'
         rw [l9 _ _ _ _ Uz,if_neg (by omega),VW]
         have hget:(splice es 0 (ys.take m)).getD i' []=if i'<Nat.min ys.length m then ys.getD i' [] else es.getD i' []:=by
          simp only [List.getD]
          rw [l9 _ _ _ _ (by rw [htl]; omega),if_neg (by omega),htl]
          by_cases hh:i'<Nat.min ys.length m
          ·rw [if_pos (by omega),if_pos hh,List.getElem?_take,if_pos (by omega)]; rfl
          ·rw [if_neg (by omega),if_neg hh]
         rw [hget] at vH
         by_cases hh:i'<Nat.min ys.length m
         ·rw [if_pos hh] at vH
          obtain ⟨u,hu,hr⟩:=Oh.rd i' j cc vH
          have hj:j<i.size:=by
           have hyi:=jy vH
           rw [<- hys (ys.getD i' []) (by simp [List.getD,List.getElem?_eq_getElem hyi])]
           exact (List.getElem?_eq_some_iff.1 vH).1
          have:(i'+1)*i.size<=Nat.min ys.length m*i.size:=Nat.mul_le_mul_right _ hh
          rw [Nat.add_mul] at this
          exact ⟨u,by rw [if_pos (by omega),List.getElem?_take,if_pos (by omega)]; simpa using hu,hr⟩
         ·rw [if_neg hh] at vH
          obtain ⟨u,hu,hr⟩:=hrd i' j cc vH
          have:Nat.min ys.length m*i.size<=i'*i.size:=Nat.mul_le_mul_right _ (by omega)
          exact ⟨u,by rw [if_neg (by omega)]; simpa using hu,hr⟩
        obtain ⟨u,hu,hr⟩:=key
        exact ⟨u,by simpa using hu,hr⟩
    ·exact iC.elim
   ·rename_i sz' e1
    rw [e1] at g1
    have g1:a.eval d' = .slice none 0 0:=g1
    have hgx:∃ xb k xc,a.eval x' = .slice xb k xc:=by
     unfold iV at hsrc
     split at hsrc
     ·rename_i e2; rw [e2] at g2; obtain ⟨b,c,hv,_⟩:=Xt g2; exact ⟨b,_,c,hv⟩
     ·rename_i e2; rw [e2] at g2; exact ⟨none,0,0,g2⟩
     ·rename_i e2; rw [e2] at g2; obtain ⟨k,cap,b,c,_,hv,_⟩:=g2; exact ⟨b,_,c,hv⟩
     ·rename_i e2; rw [e2] at g2; obtain ⟨k,cap,b,c,_,hv,_⟩:=g2; exact ⟨b,_,c,hv⟩
     ·cases hsrc
    obtain ⟨xb,k,xc,hxv⟩:=hgx
    have hr:=xY (P:=P) (w:=w) t t' o.type e i hte hi none 0 0 xb k xc (Nat.min_zero k)
    rw [<- hxv,<- g1] at hr
    exact ⟨_,w,I,ρ,.inl (fin hr),h,fun _=>rP _ _⟩
   ·exact iC.elim
  ·exact iC.elim
 ·cases hc
end
end Go.Ab
end
section
namespace Go.Ab
open Go
section
variable {P:Program} {E:Env P} {I:IH} {ρ:Ren} {n:Nat} {st:dB} {a:Act} {w:World}
theorem Ae {v:Value} {x:AV} {b lo m sz:Nat} {c:Option Nat} (h:GV I ρ v x) (hs:uH x=some (b,lo,m,c,sz)) :
  ∃ k cap ad c',ρ b=some (k,cap)/\v = .slice ad m c'/\m<=c'/\lo+c'<=cap/\(∀ c0,c=some c0->c'=c0)/\(c' ≠ 0\/(lo=0/\cap ≠ 0)->ad=some ⟨k,lo*sz,none⟩):=by
 unfold uH at hs
 split at hs
 ·simp only [Option.some.injEq,Prod.mk.injEq] at hs
  obtain ⟨rfl,rfl,rfl,rfl,rfl⟩:=hs
  obtain ⟨k,cap,ad,c',h1,h2,h3,h4,h5⟩:=h
  refine ⟨k,cap,ad,c',h1,h2,h3,by omega,(fun _ e=>by cases e),fun hc => ?_⟩
  rw [Nat.zero_mul]
  refine h5 ?_
  rcases hc with hc | hc
  ·omega
  ·exact hc.2
 ·simp only [Option.some.injEq,Prod.mk.injEq] at hs
  obtain ⟨rfl,rfl,rfl,rfl,rfl⟩:=hs
  exact h
 ·cases hs
def OY (n:Nat) (op:Op) (l:Bool) (x y:kS):Bool:=match op with | .binOp b _ x' y' _=>(match b with | .shl=>l | .shr => !l | _=>false)&&iW n x' x&&iW n y' y | _=>false
theorem Vs {o:Oper} {l:Bool} {x y:kS} (h:GX E I ρ n st a w) (hc:OY n o.op l x y=true) (hx:(x.ev st.tm).g=true) (hy:(y.ev st.tm).g=true)
  (iC:(Lj l (bK st.tm x) (bK st.tm y)).vc):kY P E n o a w st (Lj l (bK st.tm x) (bK st.tm y)).v:=by
 unfold OY at hc
 split at hc
 ·rename_i b t x' y' t' he
  simp only [Bool.and_eq_true] at hc
  obtain ⟨⟨hb,h1⟩,h2⟩:=hc
  have g1:=kD h h1 hx
  have g2:=kD h h2 hy
  unfold Lj at iC ⊢
  split at iC
  ·rename_i k p k' q e1 e2
   rw [e1] at g1; rw [e2] at g2
   have v1:=pM g1
   have v2:=pM g2
   have hq:¬ q<0:=by simp only at iC; omega
   have hg:=zK (P:=P) b t x' y' k p (.int k' q) w
   cases b<;>simp only [Bool.false_eq_true] at hb
   ·subst hb
    exact kY.val h (v := .int k (k.wrap (p*2^(min q.toNat k.bits)))) (by simp [execOp,he,hg,v1,v2,binOp,Op.shift,hq]) (rP _ _)
   ·cases l
    ·exact kY.val h (v := .int k (p.fdiv (2^(min q.toNat k.bits)))) (by simp [execOp,he,hg,v1,v2,binOp,Op.shift,hq]) (rP _ _)
    ·cases hb
  ·exact iC.elim
 ·cases hc
def JX (P:Program) (n:Nat) (op:Op) (x:kS):Bool :=
 match op with
 | .call { callee := .builtin .cap,args:=⟨[x']⟩,argTypes:=⟨[t]⟩ } => iW n x' x&&DY P t
 | _=>false
theorem Q9 {o:Oper} {x:kS} (h:GX E I ρ n st a w) (hc:JX P n o.op x=true) (hx:(x.ev st.tm).g=true) (iC:(I8 (bK st.tm x)).vc):kY P E n o a w st (I8 (bK st.tm x)).v:=by
 unfold JX at hc
 split at hc
 ·rename_i x' t he
  simp only [Bool.and_eq_true] at hc
  have g:=kD h hc.1 hx
  obtain ⟨e,ht⟩:=BO hc.2
  unfold I8 at iC ⊢
  split at iC
  ·rename_i b lo m c sz e1
   rw [e1] at g
   obtain ⟨k,cap,ad,c',hr,hv,hm,hcc,hcx,ha⟩:=g
   have:=hcx c rfl
   subst this
   exact kY.val h (by simp [execOp,he,resolve,invoke,builtin,Builtin.cap_,run_underlying ht,hv,goInt]) (rP _ _)
  ·rename_i sz e1
   rw [e1] at g
   have g:a.eval x' = .slice none 0 0:=g
   exact kY.val h (by simp [execOp,he,resolve,invoke,builtin,Builtin.cap_,run_underlying ht,g,goInt]) (rP _ _)
  ·exact iC.elim
 ·cases hc
def ED (P:Program) (n:Nat) (op:Op) (sz:Nat) (x:kS) (lo hi:Option kS):Bool:=match op with | .slice t x' lo' hi' none=>iW n x' x&&Ey n lo' lo&&Ey n hi' hi&&CE P t sz | _=>false
theorem NU {o:Oper} {sz:Nat} {x:kS} {lo hi:Option kS} (h:GX E I ρ n st a w) (hc:ED P n o.op sz x lo hi=true) (hx:(x.ev st.tm).g=true)
  (hgl:∀ x,x∈lo.toList->(x.ev st.tm).g=true) (hgh:∀ x,x∈hi.toList->(x.ev st.tm).g=true)
  (iC:(lC sz (bK st.tm x) (bnd (bK st.tm) lo 0) (bnd (bK st.tm) hi)).vc):kY P E n o a w st (lC sz (bK st.tm x) (bnd (bK st.tm) lo 0) (bnd (bK st.tm) hi)).v:=by
 unfold ED at hc
 split at hc
 ·rename_i t x' lo' hi' he
  simp only [Bool.and_eq_true] at hc
  have g1:=kD h hc.1.1.1 hx
  obtain ⟨e,ti,ht,hti,hsz⟩:=uz hc.2
  unfold lC at iC ⊢
  split at iC
  ·rename_i b l m c sz' hsb
   split at iC
   ·rename_i p q e2 e3
    obtain ⟨rfl,h0,h1,h2⟩:=iC
    obtain ⟨k,cap,ad,c',hr,hv,hm,hcc,hcx,ha⟩:=Ae g1 hsb
    have hqc:q<=c':=by
     cases c with
     | none=>simp only at h2; omega
     | some c0=>have:=hcx c0 rfl; simp only at h2; omega
    have b1:=yj h hc.1.1.2 hgl e2
    have b2:=yj h hc.1.2 hgh e3
    have hb:=uf (P:=P) (w:=w) true m c' (lo'.map a.eval) (hi'.map a.eval) (p:=p) (q:=q) (AZ b1) (AZ b2) h0 h1 hqc
    have hrun:(execOp a.eval o).run P w = .ok (.value (.slice (if c'=p.toNat then ad else ad.map (·.add (p.toNat*sz'))) (q.toNat-p.toNat) (c'-p.toNat))) w:=by
     simp only [execOp,he,Instr.sliceAt,Instr.slice,hv,Option.map_none]
     simp [run_underlying ht]
     rw [hb]
     simp [sizeOf,typeInfo,hti,hsz]
    refine kY.val h hrun ⟨k,cap,_,_,hr,by congr 1; omega,by omega,by omega,fun c0 hc0 => ?_,fun vH => ?_⟩
    ·cases c with
     | none=>cases hc0
     | some c1=>have:=hcx c1 rfl; simp at hc0; omega
    ·by_cases hcp:c'=p.toNat
     ·rw [if_pos hcp]
      have hl0:l=0/\p.toNat=0/\cap ≠ 0:=by omega
      have:=ha (.inr ⟨hl0.1,hl0.2.2⟩)
      rw [this,hl0.1,hl0.2.1]
     ·rw [if_neg hcp,ha (.inl (by omega))]
      simp only [Option.map_some]
      rw [Addr.qJ,Nat.add_mul]
   ·exact iC.elim
  ·exact iC.elim
 ·cases hc
theorem NT (len cap:Nat) {k1 k2 k3:IntKind} {p q m:Int} (h0:0<=p) (h1:p<=q) (h2:q<=m) (h3:m<=cap) :
  (Instr.sliceBounds true len cap (some (.int k1 p)) (some (.int k2 q)) (some (.int k3 m))).run P w = .ok (p.toNat,q.toNat,m.toNat) w:=by
 simp (disch:=omega) [Instr.sliceBounds,run_sliceBound]
def OZ (P:Program) (n:Nat) (op:Op) (sz:Nat) (x p q m:kS):Bool:=match op with | .slice t x' (some p') (some q') (some m')=>iW n x' x&&iW n p' p&&iW n q' q&&iW n m' m&&CE P t sz | _=>false
theorem Vt {o:Oper} {sz:Nat} {x p q m:kS} (h:GX E I ρ n st a w) (hc:OZ P n o.op sz x p q m=true) (hx:(x.ev st.tm).g=true) (hp:(p.ev st.tm).g=true) (hq:(q.ev st.tm).g=true) (hm:(m.ev st.tm).g=true)
  (iC:(rZ sz (bK st.tm x) (bK st.tm p) (bK st.tm q) (bK st.tm m)).vc):kY P E n o a w st (rZ sz (bK st.tm x) (bK st.tm p) (bK st.tm q) (bK st.tm m)).v:=by
 unfold OZ at hc
 split at hc
 ·rename_i t x' p' q' m' he
  simp only [Bool.and_eq_true] at hc
  obtain ⟨⟨⟨⟨c1,c2⟩,c3⟩,c4⟩,c5⟩:=hc
  have g1:=kD h c1 hx
  have g2:=kD h c2 hp
  have g3:=kD h c3 hq
  have g4:=kD h c4 hm
  obtain ⟨e,ti,ht,hti,hsz⟩:=uz c5
  unfold rZ at iC ⊢
  split at iC
  ·rename_i b l len c sz' k1 p0 k2 q0 k3 m0 hsb e2 e3 e4
   obtain ⟨rfl,h0,h1,h2,h3⟩:=iC
   rw [e2] at g2; rw [e3] at g3; rw [e4] at g4
   have v2:=pM g2; have v3:=pM g3; have v4:=pM g4
   obtain ⟨k,cap,ad,c',hr,hv,hlm,hcc,hcx,ha⟩:=Ae g1 hsb
   have hmc:m0<=c':=by
    cases c with
    | none=>simp only at h3; omega
    | some c0=>have:=hcx c0 rfl; simp only at h3; omega
   have hb:=NT (P:=P) (w:=w) len c' (k1:=k1) (k2:=k2) (k3:=k3) h0 h1 h2 hmc
   refine kY.val h (v := .slice (if m0.toNat=p0.toNat then ad else ad.map (·.add (p0.toNat*sz'))) (q0.toNat-p0.toNat) (m0.toNat-p0.toNat)) ?_ rfl
   simp only [execOp,he,Instr.sliceAt,Instr.slice,hv,Option.map_some,v2,v3,v4]
   simp [run_underlying ht]
   rw [hb]
   simp [sizeOf,typeInfo,hti,hsz]
  ·exact iC.elim
 ·cases hc
theorem EI {α:Type} (xs ys:List α) (off j:Nat) (h:off<=xs.length):(splice xs off ys)[j]? = if j<off then xs[j]? else if j<off+ys.length then ys[j-off]? else xs[j]? := by
 unfold splice
 have h1:(xs.take off).length=off:=by simp; omega
 by_cases hj:j<off
 ·rw [if_pos hj,List.append_assoc,List.getElem?_append_left (by omega),List.getElem?_take,if_pos hj]
 ·rw [if_neg hj,List.append_assoc,List.getElem?_append_right (by omega),h1]
  by_cases hk:j<off+ys.length
  ·rw [if_pos hk,List.getElem?_append_left (by omega)]
  ·rw [if_neg hk,List.getElem?_append_right (by omega),List.getElem?_drop]
   congr 1; omega
theorem La (h:GX E I ρ n st a w) {b kk cap sz lo:Nat} {es ys:List (List Cell)} {us:List Value} (hb:st.bx b = .dat sz es) (hr:ρ b=some (kk,cap)) (h0:0<sz) (hlo:lo<=es.length) (hfit:lo+ys.length<=cap)
  (hc0:cap ≠ 0) (hys:∀ y,y∈ys->y.length=sz) (VW:us.length=ys.length*sz) (hd:DC I us sz ys) :
  ∃ cs tg,w.heap[kk]? = some (.cells cs tg (0,0))/\cs.size=cap*sz/\GX E I ρ n (st.qc b (.dat sz (splice es lo ys))) a (w.setRow kk (splice cs.toList (lo*sz) us).toArray):=by
 have hok:=h.bx.ok b
 rw [hb] at hok
 obtain ⟨VY,cap',hr',hle,hcm,hes,hcs⟩:=hok
 rw [hr] at hr'
 simp only [Option.some.injEq,Prod.mk.injEq] at hr'
 obtain ⟨rfl,rfl⟩:=hr'
 obtain ⟨cs,tg,hw,hs,ho,hrd⟩:=hcs hc0
 refine ⟨cs,tg,hw,hs,?_⟩
 have hmul:(lo+ys.length)*sz<=cap*sz:=Nat.mul_le_mul_right _ hfit
 rw [Nat.add_mul] at hmul
 have UA:lo*sz+us.length<=cs.toList.length:=by have hq:cs.toList.length=cs.size:=Array.length_toList; omega
 have hlen:(splice es lo ys).length<=cap:=by unfold splice; simp; omega
 refine h.qc (b:=b) (k:=kk) (by rw [hb]; exact ⟨cap,hr,hc0⟩) (.dat sz (splice es lo ys)) (fun k' hk' => ?_) (zi _ _ _) ?_ (by simp)
 ·obtain ⟨c',hc',_⟩:=hk'; rw [hr] at hc'; simp at hc'; exact hc'.1.symm
 ·refine ⟨kk,cap,hr,hlen,hcm,fun y hy => ?_,fun _=>⟨_,tg,setRow_heap w kk cs _ tg _ hw,?_,?_,?_⟩⟩
  ·unfold splice at hy
   simp only [List.mem_append] at hy
   rcases hy with (h1 | h1) | h1
   ·exact hes y (List.mem_of_mem_take h1)
   ·exact hys y h1
   ·exact hes y (List.mem_of_mem_drop h1)
  ·simp only [List.size_toArray]
   rw [length_splice _ _ _ UA]
   simpa using hs
  ·intro j u hu
   have hu:(splice cs.toList (lo*sz) us)[j]? = some u:=by simpa using hu
   rw [l9 _ _ _ _ UA] at hu
   split at hu
   ·exact ho j u (by simpa using hu)
   ·split at hu
    ·exact hd.one _ u hu
    ·exact ho j u (by simpa using hu)
  ·intro i' j cc vH
   have key:∃ u,(splice cs.toList (lo*sz) us)[i'*sz+j]? = some u/\Rd I u cc:=by
    have hget:(splice es lo ys).getD i' []=if i'<lo then es.getD i' [] else if i'<lo+ys.length then ys.getD (i'-lo) [] else es.getD i' []:=by
     simp only [List.getD]
     rw [EI _ _ _ _ hlo]
     split
     ·rfl
     ·split<;>rfl
    rw [hget] at vH
    rw [l9 _ _ _ _ UA]
    by_cases h1:i'<lo
    ·rw [if_pos h1] at vH
     obtain ⟨u,hu,hr'⟩:=hrd i' j cc vH
     have hi':=jy vH
     have hj:j<sz:=by rw [<- hes (es.getD i' []) (by simp [List.getD,List.getElem?_eq_getElem hi'])]; exact (List.getElem?_eq_some_iff.1 vH).1
     have:(i'+1)*sz<=lo*sz:=Nat.mul_le_mul_right _ h1
     rw [Nat.add_mul] at this
     exact ⟨u,by rw [if_pos (by omega)]; simpa using hu,hr'⟩
    ·rw [if_neg h1] at vH
     by_cases h2:i'<lo+ys.length
     ·rw [if_pos h2] at vH
      obtain ⟨u,hu,hr'⟩:=hd.rd (i'-lo) j cc vH
      have hyi:=jy vH
      have hj:j<sz:=by rw [<- hys (ys.getD (i'-lo) []) (by simp [List.getD,List.getElem?_eq_getElem hyi])]; exact (List.getElem?_eq_some_iff.1 vH).1
      have e1:lo*sz<=i'*sz:=Nat.mul_le_mul_right _ (by omega)
      have e2:(i'-lo)*sz=i'*sz-lo*sz:=Nat.sub_mul _ _ _
      have e3:(i'-lo+1)*sz<=ys.length*sz:=Nat.mul_le_mul_right _ (by omega)
      rw [Nat.add_mul] at e3
      exact ⟨u,by rw [if_neg (by omega),if_pos (by omega),<- hu]; congr 1; omega,hr'⟩
     ·rw [if_neg h2] at vH
      obtain ⟨u,hu,hr'⟩:=hrd i' j cc vH
      have e1:(lo+ys.length)*sz<=i'*sz:=Nat.mul_le_mul_right _ (by omega)
      rw [Nat.add_mul] at e1
      exact ⟨u,by rw [if_neg (by omega),if_neg (by omega)]; simpa using hu,hr'⟩
   obtain ⟨u,hu,hr'⟩:=key
   exact ⟨u,by simpa using hu,hr'⟩
theorem Az {α:Type} (xs:List α) (k:Nat) (h:k<=xs.length):splice xs k []=xs:=by simp [splice]
theorem SL (t t' ty e:TypeId) (i:TypeInfo) (ht:P.underlying t=some (.slice e)) (hi:P.info? e=some i) (kk off m c:Nat) (cur:Array Value) (tg:TypeId) (hg:w.heap[kk]? = some (.cells cur tg (0,0)))
  (ad:Addr) (k c':Nat) (us:List Value) (hl:us.length=Nat.min k m*i.size) (hus:∀ j u,us[j]? = some u->w.cell? (ad.add j)=some u) (h1:∀ u∈us,u.oneCell'=true) (hfit:off+us.length<=cur.size) :
  (Builtin.copy_ #[t,t'] ty #[.slice (some ⟨kk,off,none⟩) m c,.slice (some ad) k c']).run P w = .ok (goInt (Nat.min k m:Nat)) (w.setRow kk (splice cur.toList off us).toArray):=by
 have hf:=run_firstCells_some (P:=P) w i.size (Nat.min k m) ad k c' us hl hus
 have hst:=run_storeCells_at P kk off tg us 0 cur w hg (by simpa using hfit) h1
 rw [rD] at hst
 simp [Builtin.copy_,run_underlying ht,sizeOf,typeInfo,hi,Builtin.lenOf,hf,hst]
theorem Tj (h:GX E I ρ n st a w) {v:Value} {x:AV} {sz m:Nat} {p:Prop} {ys:List (List Cell)} (hv:GV I ρ v x) (hs:iV sz (truncS m x) st.bx=some (p,ys)) (hp:p) :
  ∃ xb kx xc,v = .slice xb kx xc/\Nat.min ys.length m=Nat.min kx m/\Src I w (.slice xb ys.length xc) sz ys:=by
 have other:truncS m x=x->∃ xb kx xc,v = .slice xb kx xc/\Nat.min ys.length m=Nat.min kx m/\Src I w (.slice xb ys.length xc) sz ys:=by
  intro e
  rw [e] at hs
  have hS:=src_ok h hv hs hp
  obtain ⟨b,cap,hvv,hr⟩:=hS
  exact ⟨b,ys.length,cap,hvv,rfl,b,cap,rfl,hr⟩
 rcases x with c | _ | _
 ·cases c
  case sub b lo n' c sz' =>
   obtain ⟨k,cap,ad,c',h1,h2,h3,h4,h5⟩:=hv
   subst h2
   have hg:GV I ρ (.slice ad (min n' m) c') (.one (.sub b lo (min n' m) c sz')):=⟨k,cap,ad,c',h1,rfl,by omega,h4,h5⟩
   have hS:=src_ok h hg hs hp
   obtain ⟨b',cap',hvv,hr⟩:=hS
   simp only [Value.slice.injEq] at hvv
   obtain ⟨rfl,e2,rfl⟩:=hvv
   refine ⟨ad,n',c',rfl,?_,ad,c',rfl,hr⟩
   show min ys.length m=min n' m
   omega
  all_goals exact other rfl
 all_goals exact other rfl
theorem SX {o:Oper} {sz:Nat} {d x:kS} (h:GX E I ρ n st a w) (hc:A7 P n o.op sz d x=true) (hd:(d.ev st.tm).g=true) (hx:(x.ev st.tm).g=true)
  (iC:(o5 sz (bK st.tm d) (bK st.tm x) st.bx).vc):kY P E n o a w (st.mY (o5 sz (bK st.tm d) (bK st.tm x) st.bx).sets) (o5 sz (bK st.tm d) (bK st.tm x) st.bx).v:=by
 unfold A7 at hc
 split at hc
 ·rename_i d' x' t t' he
  simp only [Bool.and_eq_true,decide_eq_true_eq] at hc
  obtain ⟨⟨⟨c1,c2⟩,ht⟩,h0⟩:=hc
  have g1:=kD h c1 hd
  have g2:=kD h c2 hx
  obtain ⟨e,i,hte,hi,rfl⟩:=uz ht
  have fin:∀ {v:Value} {w':World},(Builtin.copy_ #[t,t'] o.type #[a.eval d',a.eval x']).run P w = .ok v w'->(execOp a.eval o).run P w = .ok (.value v) w':=by
   intro v w' hr
   simp only [execOp,he,resolve,invoke,builtin,Sem.run_bind,Sem.run_pure,Result.andThen_ok,List.map_toArray,List.map_cons,List.map_nil,hr]
  unfold o5 at iC ⊢
  split at iC
  ·rename_i b lo m c0 sz' hsb
   split at iC
   ·rename_i p ys hsrc
    split at iC
    ·rename_i sJ es hb
     obtain ⟨hp,rfl,rfl,hlo⟩:=iC
     obtain ⟨ZH,kx,ZV,YO,hmk,hsrc'⟩:=Tj h g2 hsrc hp
     have hys:∀ y,y∈ys->y.length=i.size:=by obtain ⟨_,_,_,_,h4,_⟩:=hsrc'; exact h4
     obtain ⟨xb,xc,us,hxv,zQ,hus,VX,Oh⟩:=AB hsrc' h0
     cases hxv
     obtain ⟨kk,cap,ad0,c,hr0,hsv,hnc,hcc,_,hcap⟩:=Ae g1 hsb
     by_cases hm0:Nat.min ys.length m=0
     ·have hr:=xY (P:=P) (w:=w) t t' o.type e i hte hi ad0 m c ZH kx ZV (hmk.symm.trans hm0)
      rw [<- YO,<- hsv] at hr
      have htk:ys.take m=[]:=by
       apply List.eq_nil_of_length_eq_zero
       rw [List.length_take,Nat.min_comm]; exact hm0
      rw [htk,Az _ _ hlo]
      refine ⟨_,w,I,ρ,.inl (fin hr),?_,fun _=>by rw [hm0]; exact rP _ _⟩
      show GX E I ρ n (st.qc b (.dat i.size es)) a w
      rw [BB hb]
      exact h
     ·have hmin:Nat.min ys.length m<=ys.length/\Nat.min ys.length m<=m:=⟨Nat.min_le_left _ _,Nat.min_le_right _ _⟩
      have CJ:=hcap (.inl (by omega))
      subst CJ
      obtain ⟨ad,had⟩:∃ ad,ZH=some ad:=by
       cases hq:ZH with
       | none=>have:=VX hq; subst this; exact absurd rfl hm0
       | some ad=>exact ⟨ad,rfl⟩
      subst had
      have htl:(ys.take m).length=Nat.min ys.length m:=by rw [List.length_take,Nat.min_comm]
      have hmul:Nat.min ys.length m*i.size<=ys.length*i.size:=Nat.mul_le_mul_right _ hmin.1
      have VW:(us.take (Nat.min ys.length m*i.size)).length=Nat.min ys.length m*i.size:=by simp; omega
      have hdt:DC I (us.take (Nat.min ys.length m*i.size)) i.size (ys.take m):=by
       refine ⟨fun j u hu => ?_,fun i' j cc vH => ?_⟩
       ·rw [List.getElem?_take] at hu
        split at hu
        ·exact Oh.one _ u hu
        ·cases hu
       ·have hi':=jy vH
        rw [htl] at hi'
        have XZ:(ys.getD i' [])[j]? = some cc:=by
         rw [<- vH]; congr 1
         simp only [List.getD]
         rw [List.getElem?_take,if_pos (by omega)]
        obtain ⟨u,hu,hr⟩:=Oh.rd i' j cc XZ
        have hyi:=jy XZ
        have hj:j<i.size:=by rw [<- hys (ys.getD i' []) (by simp [List.getD,List.getElem?_eq_getElem hyi])]; exact (List.getElem?_eq_some_iff.1 XZ).1
        have:(i'+1)*i.size<=Nat.min ys.length m*i.size:=Nat.mul_le_mul_right _ hi'
        rw [Nat.add_mul] at this
        exact ⟨u,by rw [List.getElem?_take,if_pos (by omega)]; exact hu,hr⟩
      obtain ⟨cs,tg,hw,hs,hg⟩:=La h hb hr0 h0 hlo (ys:=ys.take m) (us:=us.take (Nat.min ys.length m*i.size)) (by rw [htl]; omega) (by omega) (fun y hy=>hys y (List.mem_of_mem_take hy)) (by rw [VW,htl]) hdt
      have DL:(lo+Nat.min ys.length m)*i.size<=cap*i.size:=Nat.mul_le_mul_right _ (by omega)
      rw [Nat.add_mul] at DL
      have hr:=SL (P:=P) (w:=w) t t' o.type e i hte hi kk (lo*i.size) m c cs tg hw ad kx ZV (us.take (Nat.min ys.length m*i.size)) (hmk ▸ VW)
       (fun j u hu=>by
        rw [List.getElem?_take] at hu
        split at hu
        ·exact hus ad rfl j u hu
        ·cases hu)
       (fun u hu=>by obtain ⟨j,hj⟩:=List.getElem?_of_mem (List.mem_of_mem_take hu); exact Oh.one j u hj) (by rw [VW,hs]; exact DL)
      rw [<- YO,<- hsv] at hr
      exact ⟨_,_,I,ρ,.inl (fin hr),hg,fun _=>by rw [<- hmk]; exact rP _ _⟩
    ·exact iC.elim
   ·exact iC.elim
  ·exact iC.elim
 ·cases hc
def Kt (P:Program) (n:Nat) (op:Op) (sz:Nat) (zs:List Cell) (x:kS):Bool :=
  match op with
  | .call { callee := .builtin .clear,args:=⟨[x']⟩,argTypes:=⟨[t]⟩ } => iW n x' x&&decide (0<sz)&&zs.length==sz&&(match P.underlying t with
    | some (.slice e)=>(match P.info? e with | some i=>i.size==sz&&(match i.zero with | some z=>z.cells.size==sz&&zx z.cells.toList zs | none=>false) | none=>false)
    | _=>false)
  | _=>false
theorem Fp {zs:List Cell} {z:Array Value} {sz m:Nat} (hz:zx z.toList zs=true) (hzs:z.size=sz) (hl:zs.length=sz) (h0:0<sz) :
  (Builtin.zeroCells z m).toList.length=m*sz/\DC I (Builtin.zeroCells z m).toList sz (List.replicate m zs):=by
 have hsz:(Builtin.zeroCells z m).size=m*sz:=by simp [Builtin.zeroCells,hzs]
 refine ⟨by simpa using hsz,?_⟩
 have rc:=Fb (I:=I) (N:=m*sz) (m:=m) hz hl h0 (Nat.le_refl _) (cs:=(Array.range (m*sz)).map (z[· % z.size]!)) rfl
 have he:(Builtin.zeroCells z m)=(Array.range (m*sz)).map (z[· % z.size]!):=by unfold Builtin.zeroCells; rw [hzs]
 rw [he]
 exact ⟨fun j u hu=>rc.1 j u (by rw [Array.getElem?_toList] at hu; exact hu),fun i' j c hc=>by obtain ⟨u,hu,hr⟩:=rc.2 i' j c hc; exact ⟨u,by rw [Array.getElem?_toList]; exact hu,hr⟩⟩
theorem SV {o:Oper} {sz:Nat} {zs:List Cell} {x:kS} (h:GX E I ρ n st a w) (hc:Kt P n o.op sz zs x=true) (hx:(x.ev st.tm).g=true)
  (iC:(oZ sz zs (bK st.tm x) st.bx).vc):kY P E n o a w (st.mY (oZ sz zs (bK st.tm x) st.bx).sets) (oZ sz zs (bK st.tm x) st.bx).v:=by
 unfold Kt at hc
 split at hc
 ·rename_i x' t he
  simp only [Bool.and_eq_true,decide_eq_true_eq,beq_iff_eq] at hc
  obtain ⟨⟨⟨c1,h0⟩,hzl⟩,ht⟩:=hc
  have g1:=kD h c1 hx
  split at ht
  ·rename_i e hte
   split at ht
   ·rename_i i hi
    simp only [Bool.and_eq_true,beq_iff_eq] at ht
    obtain ⟨hisz,hz⟩:=ht
    split at hz
    ·rename_i z hzero
     simp only [Bool.and_eq_true,beq_iff_eq] at hz
     obtain ⟨hzs,hzd⟩:=hz
     have fin:∀ {v:Value} {w':World},(Builtin.clear_ #[t] o.type #[a.eval x']).run P w = .ok v w'->(execOp a.eval o).run P w = .ok (.value v) w':=by
      intro v w' hr
      simp only [execOp,he,resolve,invoke,builtin,Sem.run_bind,Sem.run_pure,Result.andThen_ok,List.map_toArray,List.map_cons,List.map_nil,hr]
     unfold oZ at iC ⊢
     split at iC
     ·rename_i b lo m c0 sz' hsb
      split at iC
      ·rename_i sJ es hb
       obtain ⟨rfl,rfl,hlo⟩:=iC
       obtain ⟨kk,cap,ad0,c,hr0,hsv,hnc,hcc,_,hcap⟩:=Ae g1 hsb
       have YN:∀ {ρ':Ren},GV I ρ' (.tuple #[]) (.o8 []):=fun {ρ'} => ⟨#[],rfl,rfl,fun j v p hv hp=>by simp at hp⟩
       by_cases hm0:m=0
       ·subst hm0
        rw [List.replicate_zero,Az _ _ hlo]
        refine ⟨.tuple #[],w,I,ρ,.inl (fin ?_),?_,fun _=>YN⟩
        ·rw [hsv]
         cases ad0<;>simp [Builtin.clear_,run_underlying hte]
        ·show GX E I ρ n (st.qc b (.dat sJ es)) a w
         rw [BB hb]
         exact h
       ·have CJ:=hcap (.inl (by omega))
        subst CJ
        obtain ⟨X5,WW⟩:=Fp (I:=I) (m:=m) hzd hzs hzl h0
        obtain ⟨cs,tg,hw,hs,hg⟩:=La h hb hr0 h0 hlo (ys:=List.replicate m zs) (us:=(Builtin.zeroCells z.cells m).toList) (by simp; omega) (by omega) (fun y hy=>by rw [List.eq_of_mem_replicate hy,hzl]) (by simpa using X5) WW
        have DL:(lo+m)*sJ<=cap*sJ:=Nat.mul_le_mul_right _ (by omega)
        rw [Nat.add_mul] at DL
        have hst:=run_storeCells_at P kk (lo*sJ) tg (Builtin.zeroCells z.cells m).toList 0 cs w hw (by rw [X5]; simpa [hs] using DL) (fun u hu=>by obtain ⟨j,hj⟩:=List.getElem?_of_mem hu; exact WW.one j u hj)
        rw [rD] at hst
        obtain ⟨m',rfl⟩:∃ m',m=m'+1:=⟨m-1,by omega⟩
        refine ⟨.tuple #[],_,I,ρ,.inl (fin ?_),hg,fun _=>YN⟩
        rw [hsv]
        simp [Builtin.clear_,run_underlying hte,zeroValue,typeInfo,hi,hzero,hst]
      ·exact iC.elim
     ·exact iC.elim
    ·cases hz
   ·cases ht
  ·cases ht
 ·cases hc
theorem Je (t ty e tg:TypeId) (i:TypeInfo) (ht:P.underlying t=some (.slice e)) (hi:P.info? e=some i)
  (g off sLen sCap:Nat) (cur:Array Value) (hg:w.heap[g]? = some (.cells cur tg (0,0)))
  (ad:Addr) (m c:Nat) (news:List Value) (hl:news.length=m*i.size) (hnews:∀ j u,news[j]? = some u->w.cell? (ad.add j)=some u) (h1:∀ u∈news,u.oneCell'=true)
  (hroom:sLen+m<=sCap) (hfit:off+sLen*i.size+news.length<=cur.size) :
  (Builtin.append_ #[t,t] ty #[.slice (some ⟨g,off,none⟩) sLen sCap,.slice (some ad) m c]).run P w =
   .ok (.slice (some ⟨g,off,none⟩) (sLen+m) sCap) (w.setRow g (splice cur.toList (off+sLen*i.size) news).toArray):=by
 have hf:=run_firstCells_some (P:=P) w i.size m ad m c news hl hnews
 have hst:=run_storeCells_at P g (off+sLen*i.size) tg news 0 cur w hg (by simpa using hfit) h1
 rw [rD] at hst
 simp [Builtin.append_,run_underlying ht,sizeOf,typeInfo,hi,Builtin.lenOf,hroom,hf,Addr.qJ,hst]
theorem SS {o:Oper} {l sz bytes:Nat} {s x:kS} (h:GX E I ρ n st a w) (hc:wP P n o.op sz bytes s x=true) (hm:E.m<=l) (hs:(s.ev st.tm).g=true) (hx:(x.ev st.tm).g=true)
    (iC:(oW l sz bytes (bK st.tm s) (bK st.tm x) st.bx).vc):kY P E n o a w (st.mY (oW l sz bytes (bK st.tm s) (bK st.tm x) st.bx).sets) (oW l sz bytes (bK st.tm s) (bK st.tm x) st.bx).v:=by
  unfold wP at hc
  split at hc
  · rename_i s' x' t t' he
    simp only [Bool.and_eq_true,beq_iff_eq,decide_eq_true_eq] at hc
    obtain ⟨⟨⟨⟨c1,c2⟩,rfl⟩,h0⟩,ht⟩:=hc
    have g1:=kD h c1 hs
    have g2:=kD h c2 hx
    split at ht
    · rename_i e hte
      split at ht
      · rename_i i hi
        simp only [Bool.and_eq_true,beq_iff_eq] at ht
        obtain ⟨⟨rfl,rfl⟩,hz⟩:=ht
        split at hz
        · rename_i z hzero
          simp only [Bool.and_eq_true,beq_iff_eq] at hz
          obtain ⟨hzs,hz1⟩:=hz
          have fin:∀ {v:Value} {w':World},(Builtin.append_ #[t,t] o.type #[a.eval s',a.eval x']).run P w = .ok v w'->(execOp a.eval o).run P w = .ok (.value v) w':=by
            intro v w' hr
            simp only [execOp,he,resolve,invoke,builtin,Sem.run_bind,Sem.run_pure,Result.andThen_ok,List.map_toArray,List.map_cons,List.map_nil,hr]
          unfold oW at iC ⊢
          split at iC
          · rename_i p ys b lo m c sz' hsrc e1
            split at iC
            · rename_i sJ es hb
              obtain ⟨kk,cap,ad0,c',hr0,hsv,hnc,hcc,hcx,hcap⟩:=Ae (c:=some c) (b:=b) (lo:=lo) (m:=m) (sz:=sz') g1 (by rw [e1]; rfl)
              have:=hcx c rfl
              subst this
              split at iC
              · rename_i hroom
                rw [if_pos hroom]
                obtain ⟨hp,rfl,rfl,hlo⟩:=iC
                have hsrc':=src_ok h g2 hsrc hp
                have hys:∀ y,y∈ys->y.length=i.size:=by obtain ⟨_,_,_,_,h4,_⟩:=hsrc'; exact h4
                obtain ⟨xb,xc,us,hxv,zQ,hus,VX,Oh⟩:=AB hsrc' h0
                by_cases hm0:ys.length=0
                · have hy0:ys=[]:=List.eq_nil_of_length_eq_zero hm0
                  subst hy0
                  rw [Az _ _ hlo]
                  have hr:=vW (P:=P) (w:=w) t o.type e i hte hi ad0 m c' hnc xb xc
                  rw [List.length_nil] at hxv
                  rw [<- hxv,<- hsv] at hr
                  refine ⟨_,w,I,ρ,.inl (fin hr),?_,fun _=>⟨kk,cap,ad0,c',hr0,hsv,by simpa using hnc,hcc,(fun c0 hc0=>by cases hc0; rfl),hcap⟩⟩
                  show GX E I ρ n (st.qc b (.dat i.size es)) a w
                  rw [BB hb]
                  exact h
                · have CJ:=hcap (.inl (by omega))
                  subst CJ
                  obtain ⟨ad,had⟩:∃ ad,xb=some ad:=by
                    cases hq:xb with
                    | none=>exact absurd (by rw [VX hq]; rfl) hm0
                    | some ad=>exact ⟨ad,rfl⟩
                  subst had
                  obtain ⟨cs,tg,hw,hss,hg⟩:=La h hb hr0 h0 hlo (ys:=ys) (us:=us) (by omega) (by omega) hys zQ Oh
                  have DL:(lo+m+ys.length)*i.size<=cap*i.size:=Nat.mul_le_mul_right _ (by omega)
                  simp only [Nat.add_mul] at DL
                  have hr:=Je (P:=P) (w:=w) t o.type e tg i hte hi kk (lo*i.size) m c' cs hw ad ys.length xc us zQ (hus ad rfl) (fun u hu=>by obtain ⟨j,hj⟩:=List.getElem?_of_mem hu; exact Oh.one j u hj) hroom (by rw [zQ,hss]; exact DL)
                  rw [<- hxv,<- hsv,<- Nat.add_mul] at hr
                  exact ⟨_,_,I,ρ,.inl (fin hr),hg,fun _=>⟨kk,cap,_,c',hr0,rfl,hroom,hcc,(fun c0 hc0=>by cases hc0; rfl),fun _=>rfl⟩⟩
              · rename_i hroom
                rw [if_neg hroom]
                obtain ⟨hp,rfl,rfl,hlo,hl,hbig⟩:=iC
                have hsrc':=src_ok h g2 hsrc hp
                have hys:∀ y,y∈ys->y.length=i.size:=by obtain ⟨_,_,_,_,h4,_⟩:=hsrc'; exact h4
                obtain ⟨xb,xc,us,hxv,zQ,hus,VX,Oh⟩:=AB hsrc' h0
                have hok:=h.bx.ok b
                rw [hb] at hok
                obtain ⟨VY,cap',hr',hle,hcm,hes,hcs⟩:=hok
                rw [hr0] at hr'
                simp only [Option.some.injEq,Prod.mk.injEq] at hr'
                obtain ⟨rfl,rfl⟩:=hr'
                have hmul:(m+ys.length)*(i.bytes+i.size+1)=(m+ys.length)*i.bytes+(m+ys.length)*i.size+(m+ys.length):=by rw [Nat.mul_add,Nat.mul_add,Nat.mul_one]
                have hbytes:(m+ys.length)*i.bytes<=140737488355328:=by omega
                have h63:m+ys.length<=maxLen:=by simp only [maxLen]; omega
                have hm0:ys.length ≠ 0:=by omega
                obtain ⟨ad,had⟩:∃ ad,xb=some ad:=by
                  cases hq:xb with
                  | none=>exact absurd (by rw [VX hq]; rfl) hm0
                  | some ad=>exact ⟨ad,rfl⟩
                subst had
                have hzc:∀ (q:Nat) (j:Nat) (u:Value),(Builtin.zeroCells z.cells q).toList[j]? = some u->u.oneCell'=true:=by
                  intro q j u hu
                  simp only [Builtin.zeroCells,Array.getElem?_toList,Array.getElem?_map] at hu
                  by_cases hj:j<q*z.cells.size
                  · rw [Array.getElem?_range,if_pos hj] at hu
                    simp only [Option.map_some,Option.some.injEq] at hu
                    have hlt:j%z.cells.size<z.cells.size:=Nat.mod_lt _ (by omega)
                    rw [getElem!_pos z.cells _ hlt] at hu
                    rw [<- hu]
                    exact List.all_eq_true.1 hz1 _ (by simp)
                  · rw [Array.getElem?_range,if_neg hj] at hu; cases hu
                have hl':=yg hl
                have hsub:∀ y,y∈(es.drop lo).take m->y.length=i.size:=fun y hy=>hes y (List.mem_of_mem_drop (List.mem_of_mem_take hy))
                have hsl:((es.drop lo).take m).length=m:=by simp; omega
                have fresh:∀ (old:Nat) (olds:List Value),old<m+ys.length->olds.length=m*i.size->DC I olds i.size ((es.drop lo).take m) ->
                    GX E I (ρ.set l w.heap.size (grownCap w (m+ys.length) old e)) n (st.qc l (.dat i.size ((es.drop lo).take m++ys))) a
                      (w.drew.alloc (.cells (olds.toArray++us.toArray++Builtin.zeroCells z.cells (grownCap w (m+ys.length) old e-(m+ys.length))) e)):=by
                  intro old olds ho hol hdo
                  have hge:=grownCap_ge w (m+ys.length) old e
                  have hcm:grownCap w (m+ys.length) old e<=maxLen:=grownCap_le_maxLen w _ old e h63
                  have hdc:=((hdo.append Oh (by rw [hsl]; exact hol)).more (hzc (grownCap w (m+ys.length) old e-(m+ys.length)))).QD (cs:=olds.toArray++us.toArray++Builtin.zeroCells z.cells (grownCap w (m+ys.length) old e-(m+ys.length))) (by simp)
                  refine Bo h.drew hl' hm _ e _ i.size ((es.drop lo).take m++ys) ?_ (by rw [List.length_append,hsl]; exact hge) hcm (fun x hx => ?_) hdc.1 hdc.2
                  · simp only [Array.size_append,List.size_toArray,size_zeroCells,hzs,hol,zQ,<- Nat.add_mul]
                    congr 1
                    omega
                  · rcases List.mem_append.1 hx with h1 | h1
                    · exact hsub x h1
                    · exact hys x h1
                have hfit:=growslice_fits (need:=m+ys.length) (old:=c') (bytes:=i.bytes) (by omega) hbytes
                by_cases hc0:c'=0
                ·
                  have X3:m=0:=by omega
                  subst X3
                  subst hc0
                  have hf:=fresh 0 [] (by omega) (by simp) ⟨by simp,by simp⟩
                  simp only [Nat.zero_add,Array.empty_append] at hf h63 hbytes hfit
                  cases ad0 with
                  | none =>
                    have hr:=run_append_nil (P:=P) w t o.type e i z hte hi hzero ad ys.length xc us zQ (hus ad rfl) (by omega) (by simp only [maxLen] at h63; omega) (by omega)
                    rw [<- hxv,<- hsv] at hr
                    refine ⟨_,_,I,_,.inl (fin hr),hf,fun _=>⟨w.heap.size,_,_,_,Ren.kE _ _ _ _,by rw [Nat.zero_add],by rw [Nat.zero_add]; exact grownCap_ge w ys.length 0 e,Nat.le_refl _,fun _=>rfl⟩⟩
                  | some q =>
                    have hr:=run_append_grow (P:=P) w t o.type e i z hte hi hzero q 0 0 [] (by simp) (by simp) ad ys.length xc us zQ (hus ad rfl) (by omega) (by simp only [maxLen] at h63; omega) (by simpa using hfit)
                    rw [<- hxv,<- hsv] at hr
                    simp only [Nat.zero_add,Array.empty_append] at hr
                    refine ⟨_,_,I,_,.inl (fin hr),hf,fun _=>⟨w.heap.size,_,_,_,Ren.kE _ _ _ _,by rw [Nat.zero_add],by rw [Nat.zero_add]; exact grownCap_ge w ys.length 0 e,Nat.le_refl _,fun _=>rfl⟩⟩
                · have CJ:=hcap (.inl hc0)
                  subst CJ
                  have hcap0:cap ≠ 0:=by omega
                  obtain ⟨cs,tg,hw,hss,ho,hrd⟩:=hcs hcap0
                  have hmn:(lo+m)*i.size<=cs.size:=by rw [hss]; exact Nat.mul_le_mul_right _ (by omega)
                  rw [Nat.add_mul] at hmn
                  have Nq:((cs.toList.drop (lo*i.size)).take (m*i.size)).length=m*i.size:=by simp; omega
                  have holds:∀ (j:Nat) (u:Value),((cs.toList.drop (lo*i.size)).take (m*i.size))[j]? = some u->w.cell? ((⟨kk,lo*i.size,none⟩:Addr).add j)=some u:=fun j u hu=>by
                    rw [List.getElem?_take] at hu
                    split at hu
                    · rw [Addr.qJ]; rw [List.getElem?_drop] at hu; simp at hu; simp [World.cell?,hw,hu]
                    · cases hu
                  have hd1:DC I ((cs.toList.drop (lo*i.size)).take (m*i.size)) i.size ((es.drop lo).take m):=by
                    refine ⟨fun j u hu => ?_,fun i' j c2 hc2 => ?_⟩
                    · rw [List.getElem?_take] at hu
                      split at hu
                      · rw [List.getElem?_drop] at hu; exact ho _ u (by simpa using hu)
                      · cases hu
                    · have hi':=jy hc2
                      rw [hsl] at hi'
                      have hc3:(es.getD (lo+i') [])[j]? = some c2:=by
                        rw [<- hc2]; congr 1
                        simp only [List.getD]
                        rw [List.getElem?_take,if_pos hi',List.getElem?_drop]
                      obtain ⟨u,hu,hr⟩:=hrd (lo+i') j c2 hc3
                      have hi2:=jy hc3
                      have hj:j<i.size:=by rw [<- hes (es.getD (lo+i') []) (by simp [List.getD,List.getElem?_eq_getElem hi2])]; exact (List.getElem?_eq_some_iff.1 hc3).1
                      have:(i'+1)*i.size<=m*i.size:=Nat.mul_le_mul_right _ hi'
                      rw [Nat.add_mul] at this
                      refine ⟨u,?_,hr⟩
                      rw [List.getElem?_take,if_pos (by omega),List.getElem?_drop]
                      rw [Nat.add_mul] at hu
                      rw [<- Nat.add_assoc]
                      simpa using hu
                  have hr:=run_append_grow (P:=P) w t o.type e i z hte hi hzero ⟨kk,lo*i.size,none⟩ m c' _ Nq holds ad ys.length xc us zQ (hus ad rfl) (by omega) (by simp only [maxLen] at h63; omega) hfit
                  rw [<- hxv,<- hsv] at hr
                  have hf:=fresh c' _ (by omega) Nq hd1
                  exact ⟨_,_,I,_,.inl (fin hr),hf,fun _=>⟨w.heap.size,_,_,_,Ren.kE _ _ _ _,rfl,grownCap_ge w _ c' e,Nat.le_refl _,fun _=>rfl⟩⟩
            · exact iC.elim
          · exact iC.elim
        · cases hz
      · cases ht
    · cases ht
  · cases hc
end
end Go.Ab
end
section
namespace Go.Ab
open Go
section
variable {P:Program} {E:Env P} {I:IH} {ρ:Ren} {n:Nat} {st:dB} {a:Act} {w:World}
theorem RX:Extern.allNextRows.lookup "internal/bytealg.abigen_runtime_cmpstring" = none:=by kernel_rfl
theorem RY:Extern.allGenericRows.lookup "internal/bytealg.abigen_runtime_cmpstring" = none:=by kernel_rfl
theorem RZ:Extern.allTypedRows.lookup "internal/bytealg.abigen_runtime_cmpstring" = none:=by kernel_rfl
theorem Si:Extern.allRows.lookup "internal/bytealg.abigen_runtime_cmpstring" = some Extern.BytealgCompare.compare:=by kernel_rfl
theorem UX:Extern.allNextRows.lookup "" = none:=by kernel_rfl
theorem UY:Extern.allNextRows.lookup "slices.overlaps" = none:=by kernel_rfl
theorem UZ:Extern.allGenericRows.lookup "slices.overlaps" = none:=by kernel_rfl
theorem U0:Extern.allTypedRows.lookup "slices.overlaps" = some Extern.SlicesOverlaps.overlaps:=by kernel_rfl
def JZ (P:Program) (n:Nat) (op:Op) (x y:kS):Bool :=
 match op with
 | .call { callee := .value (.func f),args:=⟨[x',y']⟩,argTypes:=_ } => iW n x' x&&iW n y' y&&(match P.funcs[f]? with | some fn=>fn.name == "internal/bytealg.abigen_runtime_cmpstring" && fn.origin == "" && fn.body.isNone | none=>false)
 | _=>false
theorem Rj {o:Oper} {x y:kS} (h:GX E I ρ n st a w) (hc:JZ P n o.op x y=true) (hx:(x.ev st.tm).g=true) (hy:(y.ev st.tm).g=true)
  (iC:(DD (bK st.tm x) (bK st.tm y)).vc):kY P E n o a w st (DD (bK st.tm x) (bK st.tm y)).v:=by
 unfold JZ at hc
 split at hc
 ·rename_i f x' y' ts he
  simp only [Bool.and_eq_true] at hc
  obtain ⟨⟨c1,c2⟩,hf⟩:=hc
  have g1:=kD h c1 hx
  have g2:=kD h c2 hy
  split at hf
  ·rename_i fn hfn
   simp only [Bool.and_eq_true,beq_iff_eq] at hf
   obtain ⟨⟨hname,Jy⟩,hbody⟩:=hf
   have hn:Extern.findNext fn=none:=by
    simp only [Extern.findNext,hname,Jy,RX,UX]
    rfl
   have hd:Extern.find fn=some Extern.BytealgCompare.compare:=by
    simp only [Extern.find,hname,RY,RZ,Si]
    rfl
   unfold DD at iC ⊢
   split at iC
   ·rename_i s t e1 e2
    rw [e1] at g1; rw [e2] at g2
    obtain ⟨v1,_⟩:=xW g1
    obtain ⟨v2,_⟩:=xW g2
    have hr:=run_callFunc_extern (P:=P) hfn (by rw [hname]; rfl) hbody hn hd #[.string ⟨⟨s⟩⟩,.string ⟨⟨t⟩⟩] w
    rw [Lib.run_compareString] at hr
    refine kY.val h (v := .int .i64 (Lib.compareBytes s t)) ?_ (rP _ _)
    have hx2:a.eval (.func f) = .func (.func f) #[] #[]:=rfl
    simp only [execOp,he,resolve,Deferred.ofValue,invoke,Sem.run_bind,Sem.run_pure,Result.andThen_ok,hx2,List.map_toArray,List.map_cons,List.map_nil,v1,v2]
    simpa using hr
   ·exact iC.elim
  ·cases hf
 ·cases hc
theorem Sj:Extern.allNextRows.lookup "internal/bytealg.IndexByteString" = none:=by kernel_rfl
theorem Sl:Extern.allGenericRows.lookup "internal/bytealg.IndexByteString" = none:=by kernel_rfl
theorem Sr:Extern.allTypedRows.lookup "internal/bytealg.IndexByteString" = none:=by kernel_rfl
theorem Su:Extern.allRows.lookup "internal/bytealg.IndexByteString" = some Extern.BytealgIndexByte.indexByte:=by kernel_rfl
def J4 (P:Program) (n:Nat) (op:Op) (x y:kS):Bool :=
 match op with
 | .call { callee := .value (.func f),args:=⟨[x',y']⟩,argTypes:=_ } => iW n x' x&&iW n y' y&&(match P.funcs[f]? with | some fn=>fn.name == "internal/bytealg.IndexByteString" && fn.origin == "" && fn.body.isNone | none=>false)
 | _=>false
theorem RH {o:Oper} {x y:kS} (h:GX E I ρ n st a w) (hc:J4 P n o.op x y=true) (hx:(x.ev st.tm).g=true) (hy:(y.ev st.tm).g=true)
  (iC:(DR (bK st.tm x) (bK st.tm y)).vc):kY P E n o a w st (DR (bK st.tm x) (bK st.tm y)).v:=by
 unfold J4 at hc
 split at hc
 ·rename_i f x' y' ts he
  simp only [Bool.and_eq_true] at hc
  obtain ⟨⟨c1,c2⟩,hf⟩:=hc
  have g1:=kD h c1 hx
  have g2:=kD h c2 hy
  split at hf
  ·rename_i fn hfn
   simp only [Bool.and_eq_true,beq_iff_eq] at hf
   obtain ⟨⟨hname,Jy⟩,hbody⟩:=hf
   have hn:Extern.findNext fn=none:=by
    simp only [Extern.findNext,hname,Jy,Sj,UX]
    rfl
   have hd:Extern.find fn=some Extern.BytealgIndexByte.indexByte:=by
    simp only [Extern.find,hname,Sl,Sr,Su]
    rfl
   unfold DR at iC ⊢
   split at iC
   ·rename_i s k c e1 e2
    rw [e1] at g1; rw [e2] at g2
    have hk:k = .u8:=iC
    subst hk
    obtain ⟨v1,_⟩:=xW g1
    have v2:=pM g2
    have hr:=run_callFunc_extern (P:=P) hfn (by rw [hname]; rfl) hbody hn hd #[.string ⟨⟨s⟩⟩,.int .u8 c] w
    rw [Lib.run_indexByteString] at hr
    refine kY.val h (v := .int .i64 (Lib.indexByte s c.toNat.toUInt8)) ?_ (rP _ _)
    have hx2:a.eval (.func f) = .func (.func f) #[] #[]:=rfl
    simp only [execOp,he,resolve,Deferred.ofValue,invoke,Sem.run_bind,Sem.run_pure,Result.andThen_ok,hx2,List.map_toArray,List.map_cons,List.map_nil,v1,v2]
    simpa using hr
   ·exact iC.elim
  ·cases hf
 ·cases hc
def OX (P:Program) (n:Nat) (op:Op) (x y:kS):Bool :=
  match op with
  | .call { callee := .value (.func f),args:=⟨[x',y']⟩,argTypes:=_ } => iW n x' x&&iW n y' y&&(match P.funcs[f]? with
    | some fn=>fn.origin == "slices.overlaps" && fn.body.isNone && !(fn.name == "runtime.NumGoroutine")&&(Extern.allNextRows.lookup fn.name).isNone&&(Extern.allGenericRows.lookup fn.name).isNone&&(Extern.allTypedRows.lookup fn.name).isNone&&(Extern.allRows.lookup fn.name).isNone &&
      (match fn.params,fn.resultTypes with
        | ⟨[t,t']⟩,⟨[_]⟩=>t==t'&&(match P.underlying t with | some (.slice e)=>(match P.info? e with | some _=>true | none=>false) | _=>false)
        | _,_=>false)
    | none=>false)
  | _=>false
theorem Uf (h:GX E I ρ n st a w) {b kk cap sz:Nat} {es:List (List Cell)} (hb:st.bx b = .dat sz es) (hr:ρ b=some (kk,cap)) (hc0:cap ≠ 0):∃ cs tg,w.heap[kk]? = some (.cells cs tg (0,0))/\cs.size=cap*sz:=by
 have hok:=h.bx.ok b
 rw [hb] at hok
 obtain ⟨VY,cap',hr',hle,hcm,hes,hcs⟩:=hok
 rw [hr] at hr'
 simp only [Option.some.injEq,Prod.mk.injEq] at hr'
 obtain ⟨rfl,rfl⟩:=hr'
 obtain ⟨cs,tg,hw,hs,_⟩:=hcs hc0
 exact ⟨cs,tg,hw,hs⟩
theorem Vg {o:Oper} {x y:kS} (h:GX E I ρ n st a w) (hc:OX P n o.op x y=true) (hx:(x.ev st.tm).g=true) (hy:(y.ev st.tm).g=true)
  (iC:(KU (bK st.tm x) (bK st.tm y) st.bx).vc):kY P E n o a w st (KU (bK st.tm x) (bK st.tm y) st.bx).v:=by
 unfold OX at hc
 split at hc
 ·rename_i f x' y' ts he
  simp only [Bool.and_eq_true] at hc
  obtain ⟨⟨c1,c2⟩,hf⟩:=hc
  have g1:=kD h c1 hx
  have g2:=kD h c2 hy
  split at hf
  ·rename_i fn hfn
   simp only [Bool.and_eq_true,beq_iff_eq,Bool.not_eq_true',Option.isNone_iff_eq_none] at hf
   obtain ⟨⟨⟨⟨⟨⟨⟨Jy,hbody⟩,hname⟩,n1⟩,n2⟩,n3⟩,n4⟩,hp⟩:=hf
   split at hp
   ·rename_i t t' tr hpar hres
    simp only [Bool.and_eq_true,beq_iff_eq] at hp
    obtain ⟨rfl,ht⟩:=hp
    split at ht
    ·rename_i e hte
     split at ht
     ·rename_i i hi
      have hn:Extern.findNext fn=none:=by
       simp only [Extern.findNext,Jy,n1,UY]
       rfl
      have hd:Extern.find fn=some (Extern.SlicesOverlaps.overlaps #[t,t] #[tr]):=by
       simp only [Extern.find,Jy,n2,n3,n4,UZ,U0,hpar,hres]
       rfl
      unfold KU at iC ⊢
      split at iC
      ·rename_i b lo m c sz b' lo' m' c' sz' e1 e2
       obtain ⟨kk,cap,ad,cc,hr,hv,hm,hcc,_,ha⟩:=Ae g1 e1
       obtain ⟨VY,cap',ad',cc',hr',hv',hm',vH,_,ha'⟩:=Ae g2 e2
       split at iC
       ·rename_i s1 es s2 es' hb hb'
        obtain ⟨hbb,hs2,hm0,aac⟩:b ≠ b'/\s2 ≠ 0/\0<m/\0<m':=iC
        have hov:(Extern.SlicesOverlaps.overlaps #[t,t] #[tr] #[.slice ad m cc,.slice ad' m' cc']).run P w = .ok (.bool false) w:=by
         obtain ⟨cs,tg,hw,hs⟩:=Uf h hb hr (by omega)
         obtain ⟨cs',tg',hw',hs'⟩:=Uf h hb' hr' (by omega)
         have e1:=ha (.inl (by omega))
         have e2:=ha' (.inl (by omega))
         subst e1 e2
         have hne:kk ≠ VY:=fun hk=>hbb (by
          subst hk
          exact h.bx.inj b b' kk (by rw [hb]; exact ⟨cap,hr,by omega⟩) (by rw [hb']; exact ⟨cap',hr',by omega⟩))
         have h0:cs'.size ≠ 0:=by rw [hs']; exact Nat.mul_ne_zero (by omega) hs2
         exact Lib.run_overlaps_apart w t tr e hte i.size (fun w=>by simp [sizeOf,typeInfo,hi]) ⟨kk,lo*sz,none⟩ ⟨VY,lo'*sz',none⟩ m cc m' cc' hne tg tg' cs.size cs'.size
          (by simp [World.shape?,hw]) (by simp [World.shape?,hw']) h0 (by simp [World.frozen?,hw]) (by simp [World.frozen?,hw])
        have hr:=run_callFunc_extern (P:=P) hfn hname (by simpa using hbody) hn hd #[.slice ad m cc,.slice ad' m' cc'] w
        rw [hov] at hr
        refine kY.val h (v := .bool false) ?_ (Bl _)
        have hx2:a.eval (.func f) = .func (.func f) #[] #[]:=rfl
        simp only [execOp,he,resolve,Deferred.ofValue,invoke,Sem.run_bind,Sem.run_pure,Result.andThen_ok,hx2,List.map_toArray,List.map_cons,List.map_nil,hv,hv']
        simpa using hr
       ·exact iC.elim
      ·exact iC.elim
     ·cases ht
    ·cases ht
   ·cases hp
  ·cases hf
 ·cases hc
end
end Go.Ab
end
section
namespace Go.Ab
open Go
section
variable {P:Program} {E:Env P} {I:IH} {ρ:Ren} {n:Nat} {st:dB} {a:Act} {w:World}
def JW (P:Program) (n:Nat) (op:Op) (sz bytes:Nat) (zs:List Cell) (s x:kS):Bool :=
  match op with
  | .call { callee := .builtin .append,args:=⟨[s',x']⟩,argTypes:=⟨[t,t']⟩ } => iW n s' s&&iW n x' x&&decide (0<sz)&&zs.length==sz&&(match P.underlying t' with | some (.int _)=>true | _=>false)&&(match P.underlying t with
    | some (.slice e)=>(match P.info? e with | some i=>i.size==sz&&i.bytes==bytes&&(match i.zero with | some z=>z.cells.size==sz&&zx z.cells.toList zs&&z.cells.toList.all (·.oneCell') | none=>false) | none=>false)
    | _=>false)
  | _=>false
theorem Iw (t u ty e:TypeId) (ku:IntKind) (i:TypeInfo) (z:Value) (ht:P.underlying t=some (.slice e)) (hu:P.underlying u=some (.int ku)) (hi:P.info? e=some i) (hz:i.zero=some z)
    (b:Option Addr) (sLen sCap:Nat) (olds:List Value) (hlo:olds.length=sLen*i.size) (hb0:b=none->sLen=0) (holds:∀ ad,b=some ad->∀ j v,olds[j]? = some v->w.cell? (ad.add j)=some v)
    (q:Nat) (hq:(q:Int)*i.bytes<=140737488355328) (h62:q<2^60) (hqp:0<q) (hs0:0<i.size)
    (hg:sCap<sLen+q) (h63:((sLen+q:Nat):Int)<=9223372036854775807) (hfit:Builtin.nextslicecap (sLen+q) sCap*i.bytes<=281474976710656) :
    (Builtin.append_ #[t,u] ty #[.slice b sLen sCap,.int .i64 q]).run P w =
      .ok (.slice (some ⟨w.heap.size,0,none⟩) (sLen+q) (grownCap w (sLen+q) sCap e))
        (w.drew.alloc (.cells (olds.toArray++Builtin.zeroCells z.cells q++Builtin.zeroCells z.cells (grownCap w (sLen+q) sCap e-(sLen+q))) e)):=by
  have hn:¬ (sLen+q<=sCap):=by omega
  have h63':¬ (9223372036854775807<((sLen:Int)+(q:Int))):=by omega
  have h48':¬ (281474976710656<Builtin.nextslicecap (sLen+q) sCap*i.bytes):=by omega
  have hw:IntKind.i64.wrap (q:Int)=q:=by
    simp only [IntKind.wrap,IntKind.bits,IntKind.signed]
    simp
    omega
  have hq0:¬ ((q:Int)<0):=by omega
  have hqb:¬ (281474976710656<(q:Int)*(i.bytes:Int)):=by omega
  have hfo:(Builtin.firstCells i.size sLen (.slice b sLen sCap)).run P w.drew = .ok olds.toArray w.drew:=by
    cases b with
    | none =>
      have h0:=hb0 rfl
      subst h0
      have:olds=[]:=List.eq_nil_of_length_eq_zero (by simpa using hlo)
      subst this
      simp [Builtin.firstCells]
    | some ad=>exact run_firstCells_some (P:=P) w.drew i.size sLen ad sLen sCap olds hlo (by simpa using holds ad rfl)
  have hq1:¬ (q*i.size=0):=by
    intro h0
    rcases Nat.mul_eq_zero.1 h0 with h | h<;>omega
  simp [Builtin.append_,run_underlying ht,run_underlying hu,sizeOf,typeInfo,zeroValue,hi,hz,asInt,asIntOf,hw,hq0,hqb,hq1,hn,h63',h48',Question.forced,hfo,newRow,grownCap]
theorem Ug (h:GX E I ρ n st a w) {b kk cap sz lo m:Nat} {es:List (List Cell)} (hb:st.bx b = .dat sz es) (hr0:ρ b=some (kk,cap)) (hc:lo+m<=cap) (hc0:cap ≠ 0) (hl:lo+m<=es.length) :
    ∃ olds:List Value,olds.length=m*sz/\(∀ (j:Nat) (u:Value),olds[j]? = some u->w.cell? ((⟨kk,lo*sz,none⟩:Addr).add j)=some u)/\DC I olds sz ((es.drop lo).take m) /\
      (∀ y,y∈(es.drop lo).take m->y.length=sz)/\((es.drop lo).take m).length=m:=by
  have hok:=h.bx.ok b
  rw [hb] at hok
  obtain ⟨VY,cap',hr',hle,hcm,hes,hcs⟩:=hok
  rw [hr0] at hr'
  simp only [Option.some.injEq,Prod.mk.injEq] at hr'
  obtain ⟨rfl,rfl⟩:=hr'
  obtain ⟨cs,tg,hw,hss,ho,hrd⟩:=hcs hc0
  have hmn:(lo+m)*sz<=cs.size:=by rw [hss]; exact Nat.mul_le_mul_right _ hc
  rw [Nat.add_mul] at hmn
  have hsl:((es.drop lo).take m).length=m:=by simp; omega
  refine ⟨(cs.toList.drop (lo*sz)).take (m*sz),by simp; omega,fun j u hu => ?_,⟨fun j u hu => ?_,fun i' j c2 hc2 => ?_⟩,fun y hy=>hes y (List.mem_of_mem_drop (List.mem_of_mem_take hy)),hsl⟩
  · rw [List.getElem?_take] at hu
    split at hu
    · rw [Addr.qJ]; rw [List.getElem?_drop] at hu; simp at hu; simp [World.cell?,hw,hu]
    · cases hu
  · rw [List.getElem?_take] at hu
    split at hu
    · rw [List.getElem?_drop] at hu; exact ho _ u (by simpa using hu)
    · cases hu
  · have hi':=jy hc2
    rw [hsl] at hi'
    have hc3:(es.getD (lo+i') [])[j]? = some c2:=by
      rw [<- hc2]; congr 1
      simp only [List.getD]
      rw [List.getElem?_take,if_pos hi',List.getElem?_drop]
    obtain ⟨u,hu,hr⟩:=hrd (lo+i') j c2 hc3
    have hi2:=jy hc3
    have hj:j<sz:=by rw [<- hes (es.getD (lo+i') []) (by simp [List.getD,List.getElem?_eq_getElem hi2])]; exact (List.getElem?_eq_some_iff.1 hc3).1
    have:(i'+1)*sz<=m*sz:=Nat.mul_le_mul_right _ hi'
    rw [Nat.add_mul] at this
    refine ⟨u,?_,hr⟩
    rw [List.getElem?_take,if_pos (by omega),List.getElem?_drop]
    rw [Nat.add_mul] at hu
    rw [<- Nat.add_assoc]
    simpa using hu
theorem Q4 {o:Oper} {l sz bytes:Nat} {zs:List Cell} {s x:kS} (h:GX E I ρ n st a w) (hc:JW P n o.op sz bytes zs s x=true) (hm:E.m<=l) (hs:(s.ev st.tm).g=true) (hx:(x.ev st.tm).g=true)
  (iC:(oV l sz bytes zs (bK st.tm s) (bK st.tm x) st.bx).vc):kY P E n o a w (st.mY (oV l sz bytes zs (bK st.tm s) (bK st.tm x) st.bx).sets) (oV l sz bytes zs (bK st.tm s) (bK st.tm x) st.bx).v:=by
 unfold JW at hc
 split at hc
 ·rename_i s' x' t t' he
  simp only [Bool.and_eq_true,beq_iff_eq,decide_eq_true_eq] at hc
  obtain ⟨⟨⟨⟨⟨c1,c2⟩,h0⟩,hzl⟩,hti⟩,ht⟩:=hc
  have g1:=kD h c1 hs
  have g2:=kD h c2 hx
  split at hti
  ·rename_i ku htu
   split at ht
   ·rename_i e hte
    split at ht
    ·rename_i i hi
     simp only [Bool.and_eq_true,beq_iff_eq] at ht
     obtain ⟨⟨rfl,rfl⟩,hz⟩:=ht
     split at hz
     ·rename_i z hzero
      simp only [Bool.and_eq_true,beq_iff_eq] at hz
      obtain ⟨⟨hzs,hzd⟩,hz1⟩:=hz
      have fin:∀ {v:Value} {w':World},(Builtin.append_ #[t,t'] o.type #[a.eval s',a.eval x']).run P w = .ok v w'->(execOp a.eval o).run P w = .ok (.value v) w':=by
       intro v w' hr
       simp only [execOp,he,resolve,invoke,builtin,Sem.run_bind,Sem.run_pure,Result.andThen_ok,List.map_toArray,List.map_cons,List.map_nil,hr]
      have hzc:∀ (q:Nat) (j:Nat) (u:Value),(Builtin.zeroCells z.cells q).toList[j]? = some u->u.oneCell'=true:=by
       intro q j u hu
       exact (Fp (I:=I) (m:=q) hzd hzs hzl h0).2.one j u hu
      have fresh:∀ (old m q:Nat) (olds:List Value) (es':List (List Cell)),st.bx l = .absent->old<m+q->olds.length=m*i.size->es'.length=m->(∀ y,y∈es'->y.length=i.size)->DC I olds i.size es'->m+q<=maxLen ->
        GX E I (ρ.set l w.heap.size (grownCap w (m+q) old e)) n (st.qc l (.dat i.size (es'++List.replicate q zs))) a
         (w.drew.alloc (.cells (olds.toArray++Builtin.zeroCells z.cells q++Builtin.zeroCells z.cells (grownCap w (m+q) old e-(m+q))) e)):=by
       intro old m q olds es' hl' ho hol hel hes' hdo h63
       have hge:=grownCap_ge w (m+q) old e
       have hcm:grownCap w (m+q) old e<=maxLen:=grownCap_le_maxLen w _ old e h63
       obtain ⟨X5,WW⟩:=Fp (I:=I) (m:=q) hzd hzs hzl h0
       have hdc:=((hdo.append WW (by rw [hel]; exact hol)).more (hzc (grownCap w (m+q) old e-(m+q)))).QD (cs:=olds.toArray++Builtin.zeroCells z.cells q++Builtin.zeroCells z.cells (grownCap w (m+q) old e-(m+q))) (by simp)
       refine Bo h.drew hl' hm _ e _ i.size (es'++List.replicate q zs) ?_ (by rw [List.length_append,hel,List.length_replicate]; exact hge) hcm (fun x hx => ?_) hdc.1 hdc.2
       ·simp only [Array.size_append,List.size_toArray,size_zeroCells,hzs,hol,<- Nat.add_mul]
        congr 1
        omega
       ·rcases List.mem_append.1 hx with h1 | h1
        ·exact hes' x h1
        ·rw [List.eq_of_mem_replicate h1,hzl]
      have arith:∀ (m q:Nat),(m+q)*(i.bytes+i.size+1)<=2^46->(m+q)*i.bytes<=140737488355328/\q*i.bytes<=140737488355328/\m+q<=2^46:=by
       intro m q hbig
       have e1:(m+q)*(i.bytes+i.size+1)=(m+q)*i.bytes+(m+q)*i.size+(m+q):=by rw [Nat.mul_add,Nat.mul_add,Nat.mul_one]
       have e2:q*i.bytes<=(m+q)*i.bytes:=Nat.mul_le_mul_right _ (by omega)
       omega
      have hml:2^46<=maxLen:=by decide
      unfold oV at iC ⊢
      split at iC
      ·rename_i b lo m c sz' k q e1 e2
       split at iC
       ·rename_i sJ es hb
        obtain ⟨rfl,rfl,rfl,hlo,hq,hroom,hl,hbig⟩:=iC
        obtain ⟨kk,cap,ad0,c',hr0,hsv,hnc,hcc,hcx,hcap⟩:=Ae (c:=some c) (b:=b) (lo:=lo) (m:=m) (sz:=i.size) g1 (by rw [e1]; rfl)
        have:=hcx c rfl
        subst this
        have hxv:a.eval x' = .int .i64 q:=by exact pM (by rw [e2] at g2; exact g2)
        obtain ⟨qn,rfl⟩:∃ qn:Nat,q=qn:=⟨q.toNat,by omega⟩
        simp only [Int.toNat_natCast] at hroom hbig ⊢
        obtain ⟨a1,a2,a3⟩:=arith m qn hbig
        have hl':=yg hl
        have hfit:=growslice_fits (need:=m+qn) (old:=c') (bytes:=i.bytes) (by omega) a1
        by_cases hc0:c'=0
        ·have X3:m=0:=by omega
         subst X3
         subst hc0
         have hf:=fresh 0 0 qn [] [] hl' (by omega) (by simp) rfl (by simp) ⟨by simp,by simp⟩ (by omega)
         have hr:=Iw (P:=P) (w:=w) t t' o.type e ku i z hte htu hi hzero ad0 0 0 [] (by simp) (fun _=>rfl) (by simp) qn (by rw [<- Int.natCast_mul]; exact Int.ofNat_le.2 a2) (by omega) (by omega) h0 (by omega) (by omega) hfit
         rw [<- hxv,<- hsv] at hr
         simp only [List.take_zero]
         exact ⟨_,_,I,_,.inl (fin hr),hf,fun _=>⟨w.heap.size,_,_,_,Ren.kE _ _ _ _,rfl,grownCap_ge w _ _ e,Nat.le_refl _,fun _=>rfl⟩⟩
        ·have CJ:=hcap (.inl hc0)
         subst CJ
         obtain ⟨olds,ho1,ho2,ho3,ho4,ho5⟩:=Ug h hb hr0 (by omega) (by omega) hlo
         have hf:=fresh c' m qn olds _ hl' (by omega) ho1 ho5 ho4 ho3 (by omega)
         have hr:=Iw (P:=P) (w:=w) t t' o.type e ku i z hte htu hi hzero (some ⟨kk,lo*i.size,none⟩) m c' olds ho1 (by simp) (fun ad had j u hu=>by cases had; exact ho2 j u hu) qn (by rw [<- Int.natCast_mul]; exact Int.ofNat_le.2 a2) (by omega) (by omega) h0 (by omega) (by omega) hfit
         rw [<- hxv,<- hsv] at hr
         exact ⟨_,_,I,_,.inl (fin hr),hf,fun _=>⟨w.heap.size,_,_,_,Ren.kE _ _ _ _,rfl,grownCap_ge w _ _ e,Nat.le_refl _,fun _=>rfl⟩⟩
       ·exact iC.elim
      ·rename_i sz' k q e1 e2
       obtain ⟨rfl,hq,hl,hbig⟩:=iC
       have hsv:a.eval s' = .slice none 0 0:=by rw [e1] at g1; exact g1
       have hxv:a.eval x' = .int .i64 q:=by exact pM (by rw [e2] at g2; exact g2)
       obtain ⟨qn,rfl⟩:∃ qn:Nat,q=qn:=⟨q.toNat,by omega⟩
       simp only [Int.toNat_natCast] at hbig ⊢
       obtain ⟨a1,a2,a3⟩:=arith 0 qn (by simpa using hbig)
       simp only [Nat.zero_add] at a1 a3
       have hl':=yg hl
       have hfit:=growslice_fits (need:=0+qn) (old:=0) (bytes:=i.bytes) (by omega) (by simpa using a1)
       have hf:=fresh 0 0 qn [] [] hl' (by omega) (by simp) rfl (by simp) ⟨by simp,by simp⟩ (by omega)
       have hr:=Iw (P:=P) (w:=w) t t' o.type e ku i z hte htu hi hzero none 0 0 [] (by simp) (fun _=>rfl) (by simp) qn (by rw [<- Int.natCast_mul]; exact Int.ofNat_le.2 a2) (by omega) (by omega) h0 (by omega) (by omega) hfit
       rw [<- hxv,<- hsv] at hr
       simp only [List.nil_append] at hf
       exact ⟨_,_,I,_,.inl (fin hr),hf,fun _=>⟨w.heap.size,_,_,_,Ren.kE _ _ _ _,by rw [Nat.zero_add],by have:=grownCap_ge w (0+qn) 0 e; omega,Nat.le_refl _,fun _=>rfl⟩⟩
      ·exact iC.elim
     ·cases hz
    ·cases ht
   ·cases ht
  ·cases hti
 ·cases hc
end
end Go.Ab
end
section
namespace Go.Ab
open Go
def FQ (P:Program) (n m:Nat) (op:Op) (d:Option Nat):dS->Bool
 | .mv x=>Ud n op x
 | .pick c a b=>Kq n op c a b
 | .load agg k p=>J8 P n op agg k p
 | .store agg k p x=>Hg P n op agg k p x&&d.isNone
 | .alloc l zs=>GR P op zs&&decide (m<=l)
 | .Cc T _ l r=>Ew P op T&&decide (m<=l)&&decide (m<=r)
 | .Cb l sz c zs=>Eu P op sz c zs&&decide (m<=l)
 | .box l x=>OO n op x&&decide (m<=l)
 | .build zs ps=>GU P n op zs ps
 | .dJ l sz c zs ps=>Ez P n op sz c zs ps&&decide (m<=l)
 | .makes l sz bytes zs x y=>G7 P n op sz bytes zs x y&&decide (m<=l)
 | .bin o x y=>OM n op o x y
 | .beq ng x y=>OL P n op ng x y
 | .not x=>OW n op x
 | .neg x=>OV n op x
 | .wB k x=>JY P n op k x
 | .I9 x=>J3 P n op x
 | .same x=>Kr P n op x
 | .KP f cs=>J9 n op f cs
 | .IB x lo hi=>Hf P n op x lo hi
 | .uS sz x lo hi=>Ku P n op sz x lo hi
 | .IA sz c x=>He P n op sz c x
 | .Ii x=>G8 n op x
 | .eH off x=>GY P n op off x
 | .field agg off k x=>GZ P n op agg off k x
 | .oD sz x i=>G6 P n op sz x i
 | .Ib sz c x i=>EC P n op sz c x i
 | .idxs x i=>J5 P n op x i
 | .extract x i=>Cm n op x i
 | .len x=>OU P n op x
 | .lens x=>J7 P n op x
 | .max x y=>Js true n op x y
 | .min x y=>Js false n op x y
 | .append l sz bytes s x=>wP P n op sz bytes s x&&decide (m<=l)
 | .copy sz x y=>A7 P n op sz x y
 | .V3 l x y=>OY n op l x y
 | .MJ x=>JX P n op x
 | .jX sz x lo hi=>ED P n op sz x lo hi
 | .sl3 sz x p q m=>OZ P n op sz x p q m
 | .F6 l sz bytes s x=>wP P n op sz bytes s x&&decide (m<=l)
 | .xZ sz x y=>A7 P n op sz x y
 | .Jg sz zs x=>Kt P n op sz zs x
 | .JO l sz bytes zs s x=>JW P n op sz bytes zs s x&&decide (m<=l)
 | .Ri x y=>JZ P n op x y
 | .VZ x y=>OX P n op x y
 | .RG x y=>J4 P n op x y
 | .stop=>true
section
variable {P:Program} {E:Env P} {I:IH} {ρ:Ren} {n:Nat} {st:dB} {a:Act} {w:World}
theorem uY {x:Box} (h:match x with | .absent=>True | _=>False):tN x:=by cases x<;>first | trivial | exact h.elim
theorem Ve (h:GX E I ρ n st a w) {o:Oper} {ao:dS} (hc:FQ P n E.m o.op o.dst ao=true) (hv:ao.valid (kS.ev st.tm)) (iC:(ao.f (bK st.tm) st.bx).vc) :
    kY P E n o a w (st.mY (ao.f (bK st.tm) st.bx).sets) (ao.f (bK st.tm) st.bx).v:=by
  cases ao with
  | mv x=>exact Xa h hc (hv x (by simp [dS.iq]))
  | pick c x y =>
    simp only [dS.f] at iC ⊢
    obtain ⟨hg,hxy⟩:=hv
    split at iC
    · rename_i t ht
      have ht':((kS.ev st.tm c).x)=oQ t:=ht
      rw [ht'] at hxy
      exact SC h hc hg ht hxy.1 hxy.2
    · exact iC.elim
  | load agg k p => 
    have hs:(qM agg k (bK st.tm p) st.bx).sets=[]:=by
      unfold qM at *
      simp only [dS.f] at iC
      unfold qM at iC
      split at iC
      · split at iC
        · split at iC
          · rename_i hA; rw [if_pos hA]
          · rename_i hA; rw [if_neg hA]; split at iC
            · rfl
            · exact iC.elim
        · exact iC.elim
      · split at iC
        · split at iC
          · rename_i hA; rw [if_pos hA]
          · rename_i hA; rw [if_neg hA]
        · exact iC.elim
      · split at iC
        · rename_i hA; rw [if_pos hA]
        · rename_i hA; rw [if_neg hA]
      · exact iC.elim
    have:=RU (P:=P) h hc (hv p (by simp [dS.iq])) iC
    simp only [dS.f,hs]
    exact this
  | store agg k p x =>
    simp only [FQ,Bool.and_eq_true,Option.isNone_iff_eq_none] at hc
    exact PV h hc.1 hc.2 (hv p (by simp [dS.iq])) (hv x (by simp [dS.iq])) iC
  | alloc l zs =>
    simp only [FQ,Bool.and_eq_true,decide_eq_true_eq] at hc
    exact Ox h hc.1 hc.2 (uY iC)
  | Cc T e l r =>
    simp only [FQ,Bool.and_eq_true,decide_eq_true_eq] at hc
    exact LU h hc.1.1 hc.1.2 hc.2 (uY iC.1) (uY iC.2.1) iC.2.2
  | Cb l sz c zs =>
    simp only [FQ,Bool.and_eq_true,decide_eq_true_eq] at hc
    exact LQ h hc.1 hc.2 (uY iC)
  | box l x =>
    simp only [FQ,Bool.and_eq_true,decide_eq_true_eq] at hc
    exact TY h hc.1 (hv x (by simp [dS.iq])) hc.2 (uY iC.1) iC.2
  | build zs ps=>exact OE h hc (fun p hp=>hv p.2.2 (by simp only [dS.iq,List.mem_map]; exact ⟨p,hp,rfl⟩)) iC
  | dJ l sz c zs ps =>
    simp only [FQ,Bool.and_eq_true,decide_eq_true_eq] at hc
    simp only [dS.f] at iC ⊢
    split at iC
    · rename_i l' hl'
      rw [Iz]
      exact MC h hc.1 (fun p hp=>hv p.2 (by simp only [dS.iq,List.mem_map]; exact ⟨p,hp,rfl⟩)) hc.2 (uY iC.1) hl' iC.2.1 iC.2.2
    · exact iC.elim
  | makes l sz bytes zs x y =>
    simp only [FQ,Bool.and_eq_true,decide_eq_true_eq] at hc
    simp only [dS.f] at iC ⊢
    split at iC
    · rename_i k p k' q e1 e2
      obtain ⟨v1,v2,v3,v4,v5⟩:=iC
      exact Po h hc.1 (hv x (by simp [dS.iq])) (hv y (by simp [dS.iq])) e1 e2 hc.2 (uY v1) v2 v3 v4 v5
    · exact iC.elim
  | bin b x y =>
    have hs:(FO b (bK st.tm x) (bK st.tm y)).sets=[]:=by
      unfold FO; split
      · rfl
      · unfold iM; cases b<;>rfl
      · rfl
    have:=TW (P:=P) h hc (hv x (by simp [dS.iq])) (hv y (by simp [dS.iq])) iC
    simp only [dS.f,hs]
    exact this
  | beq ng x y =>
    have hs:(Md ng (bK st.tm x) (bK st.tm y)).sets=[]:=by unfold Md; split<;>rfl
    have:=TV (P:=P) h hc (hv x (by simp [dS.iq])) (hv y (by simp [dS.iq])) iC
    simp only [dS.f,hs]
    exact this
  | not x =>
    simp only [dS.f] at iC ⊢
    split at iC
    · rename_i b hb; exact U9 h hc (hv x (by simp [dS.iq])) hb
    · exact iC.elim
  | neg x =>
    simp only [dS.f] at iC ⊢
    split at iC
    · rename_i k m hb; exact U7 h hc (hv x (by simp [dS.iq])) hb
    · exact iC.elim
  | wB k x =>
    simp only [dS.f] at iC ⊢
    split at iC
    · rename_i j m hb; exact Rf h hc (hv x (by simp [dS.iq])) hb
    · exact iC.elim
  | I9 x =>
    simp only [dS.f] at iC ⊢
    split at iC
    · rename_i p es hs
      split at iC
      · rename_i l hl; exact Rl h hc (hv x (by simp [dS.iq])) hs iC.1 hl iC.2
      · exact iC.elim
    · exact iC.elim
  | same x =>
    simp only [dS.f] at iC ⊢
    split at iC
    · rename_i l hb; exact SN h hc (hv x (by simp [dS.iq])) hb
    · exact iC.elim
  | KP f cs =>
    simp only [dS.f] at iC ⊢
    split at iC
    · rename_i l hl; exact Sz h hc (fun x hx=>hv x hx) hl
    · exact iC.elim
  | IB x lo hi =>
    simp only [dS.f] at iC ⊢
    split at iC
    · rename_i s e1
      split at iC
      · rename_i p q e2 e3
        exact PN h hc (hv x (by simp [dS.iq])) (fun y hy=>hv y (by simp only [dS.iq]; simp at hy; simp [hy])) (fun y hy=>hv y (by simp only [dS.iq]; simp at hy; simp [hy])) e1 e2 e3 iC.1 iC.2.1 iC.2.2
      · exact iC.elim
    · exact iC.elim
  | uS sz x lo hi =>
    have hs:(JD sz (bK st.tm x) (bnd (bK st.tm) lo 0) (bnd (bK st.tm) hi)).sets=[]:=by
      unfold JD; split
      · split<;>rfl
      · split<;>rfl
      · split<;>rfl
      · rfl
    have:=Tc (P:=P) h hc (hv x (by simp [dS.iq])) (fun y hy=>hv y (by simp only [dS.iq]; simp at hy; simp [hy])) (fun y hy=>hv y (by simp only [dS.iq]; simp at hy; simp [hy])) iC
    have e:((dS.uS sz x lo hi).f (bK st.tm) st.bx)=JD sz (bK st.tm x) (bnd (bK st.tm) lo 0) (bnd (bK st.tm) hi):=rfl
    rw [e,hs]
    exact this
  | IA sz c x =>
    simp only [dS.f] at iC ⊢
    split at iC
    · rename_i b sz' e1
      split at iC
      · rename_i sJ es e2
        obtain ⟨rfl,rfl,h3,h4⟩:=iC
        exact PM h hc (hv x (by simp [dS.iq])) e1 e2 h3
      · exact iC.elim
    · exact iC.elim
  | Ii x =>
    have hs:(EU (bK st.tm x)).sets=[]:=by unfold EU; split<;>rfl
    have:=Pq (P:=P) h hc (hv x (by simp [dS.iq])) iC
    have e:((dS.Ii x).f (bK st.tm) st.bx)=EU (bK st.tm x):=rfl
    rw [e,hs]
    exact this
  | eH off x =>
    have hs:(Aa off (bK st.tm x)).sets=[]:=by unfold Aa; split<;>rfl
    have:=O4 (P:=P) h hc (hv x (by simp [dS.iq])) iC
    have e:((dS.eH off x).f (bK st.tm) st.bx)=Aa off (bK st.tm x):=rfl
    rw [e,hs]
    exact this
  | field agg off k x =>
    have hs:(EE agg off k (bK st.tm x)).sets=[]:=by
      unfold EE; split
      · split
        · rfl
        · split<;>rfl
      · rfl
    have:=O5 (P:=P) h hc (hv x (by simp [dS.iq])) iC
    have e:((dS.field agg off k x).f (bK st.tm) st.bx)=EE agg off k (bK st.tm x):=rfl
    rw [e,hs]
    exact this
  | oD sz x i =>
    have hs:(EK sz (bK st.tm x) (bK st.tm i)).sets=[]:=by unfold EK; split<;>rfl
    have:=Pg (P:=P) h hc (hv x (by simp [dS.iq])) (hv i (by simp [dS.iq])) iC
    have e:((dS.oD sz x i).f (bK st.tm) st.bx)=EK sz (bK st.tm x) (bK st.tm i):=rfl
    rw [e,hs]
    exact this
  | Ib sz c x i =>
    simp only [dS.f] at iC ⊢
    split at iC
    · rename_i b sz' k m e1 e2
      obtain ⟨rfl,h1,h2⟩:=iC
      exact Ns h hc (hv x (by simp [dS.iq])) (hv i (by simp [dS.iq])) e1 e2 h1 h2
    · exact iC.elim
  | idxs x i =>
    simp only [dS.f] at iC ⊢
    split at iC
    · rename_i s k m e1 e2
      exact RI h hc (hv x (by simp [dS.iq])) (hv i (by simp [dS.iq])) e1 e2 iC.1 iC.2
    · exact iC.elim
  | extract x i =>
    have hs:(yu (bK st.tm x) i).sets=[]:=by
      unfold yu; split
      · split<;>rfl
      · rfl
    have:=Ky (P:=P) h hc (hv x (by simp [dS.iq])) iC
    have e:((dS.extract x i).f (bK st.tm) st.bx)=yu (bK st.tm x) i:=rfl
    rw [e,hs]
    exact this
  | len x =>
    have hs:(lenV (bK st.tm x)).sets=[]:=by unfold lenV; split<;>rfl
    have:=UQ (P:=P) h hc (hv x (by simp [dS.iq])) iC
    have e:((dS.len x).f (bK st.tm) st.bx)=lenV (bK st.tm x):=rfl
    rw [e,hs]
    exact this
  | lens x =>
    simp only [dS.f] at iC ⊢
    split at iC
    · rename_i s e1; exact RQ h hc (hv x (by simp [dS.iq])) e1
    · exact iC.elim
  | max x y =>
    simp only [dS.f] at iC ⊢
    split at iC
    · rename_i k p k' q e1 e2
      have iC:k=k':=iC
      subst iC
      exact U4 h hc (hv x (by simp [dS.iq])) (hv y (by simp [dS.iq])) e1 e2
    · exact iC.elim
  | min x y =>
    simp only [dS.f] at iC ⊢
    split at iC
    · rename_i k p k' q e1 e2
      have iC:k=k':=iC
      subst iC
      exact U5 h hc (hv x (by simp [dS.iq])) (hv y (by simp [dS.iq])) e1 e2
    · exact iC.elim
  | append l sz bytes s x =>
    simp only [FQ,Bool.and_eq_true,decide_eq_true_eq] at hc
    exact LY h hc.1 hc.2 (hv s (by simp [dS.iq])) (hv x (by simp [dS.iq])) iC
  | copy sz d x=>exact Rk h hc (hv d (by simp [dS.iq])) (hv x (by simp [dS.iq])) iC
  | V3 l x y =>
    have hs:(Lj l (bK st.tm x) (bK st.tm y)).sets=[]:=by unfold Lj; (repeat' split)<;>rfl
    have:=Vs (P:=P) h hc (hv x (by simp [dS.iq])) (hv y (by simp [dS.iq])) iC
    have e:((dS.V3 l x y).f (bK st.tm) st.bx)=Lj l (bK st.tm x) (bK st.tm y):=rfl
    rw [e,hs]
    exact this
  | MJ x =>
    have hs:(I8 (bK st.tm x)).sets=[]:=by unfold I8; (repeat' split)<;>rfl
    have:=Q9 (P:=P) h hc (hv x (by simp [dS.iq])) iC
    have e:((dS.MJ x).f (bK st.tm) st.bx)=I8 (bK st.tm x):=rfl
    rw [e,hs]
    exact this
  | jX sz x lo hi =>
    have hs:(lC sz (bK st.tm x) (bnd (bK st.tm) lo 0) (bnd (bK st.tm) hi)).sets=[]:=by unfold lC; (repeat' split)<;>rfl
    have:=NU (P:=P) h hc (hv x (by simp [dS.iq])) (fun y hy=>hv y (by simp only [dS.iq,List.mem_cons,List.mem_append]; exact .inr (.inl hy))) (fun y hy=>hv y (by simp only [dS.iq,List.mem_cons,List.mem_append]; exact .inr (.inr hy))) iC
    have e:((dS.jX sz x lo hi).f (bK st.tm) st.bx)=lC sz (bK st.tm x) (bnd (bK st.tm) lo 0) (bnd (bK st.tm) hi):=rfl
    rw [e,hs]
    exact this
  | sl3 sz x p q m =>
    have hs:(rZ sz (bK st.tm x) (bK st.tm p) (bK st.tm q) (bK st.tm m)).sets=[]:=by unfold rZ; (repeat' split)<;>rfl
    have:=Vt (P:=P) h hc (hv x (by simp [dS.iq])) (hv p (by simp [dS.iq])) (hv q (by simp [dS.iq])) (hv m (by simp [dS.iq])) iC
    have e:((dS.sl3 sz x p q m).f (bK st.tm) st.bx)=rZ sz (bK st.tm x) (bK st.tm p) (bK st.tm q) (bK st.tm m):=rfl
    rw [e,hs]
    exact this
  | F6 l sz bytes s x =>
    simp only [FQ,Bool.and_eq_true,decide_eq_true_eq] at hc
    exact SS h hc.1 hc.2 (hv s (by simp [dS.iq])) (hv x (by simp [dS.iq])) iC
  | JO l sz bytes zs s x =>
    simp only [FQ,Bool.and_eq_true,decide_eq_true_eq] at hc
    exact Q4 h hc.1 hc.2 (hv s (by simp [dS.iq])) (hv x (by simp [dS.iq])) iC
  | xZ sz d x=>exact SX h hc (hv d (by simp [dS.iq])) (hv x (by simp [dS.iq])) iC
  | Jg sz zs x=>exact SV h hc (hv x (by simp [dS.iq])) iC
  | stop=>exact iC.elim
  | Ri x y =>
    have hs:(DD (bK st.tm x) (bK st.tm y)).sets=[]:=by unfold DD; (repeat' split)<;>rfl
    have:=Rj (P:=P) h hc (hv x (by simp [dS.iq])) (hv y (by simp [dS.iq])) iC
    have e:((dS.Ri x y).f (bK st.tm) st.bx)=DD (bK st.tm x) (bK st.tm y):=rfl
    rw [e,hs]
    exact this
  | RG x y =>
    have hs:(DR (bK st.tm x) (bK st.tm y)).sets=[]:=by unfold DR; (repeat' split)<;>rfl
    have:=RH (P:=P) h hc (hv x (by simp [dS.iq])) (hv y (by simp [dS.iq])) iC
    have e:((dS.RG x y).f (bK st.tm) st.bx)=DR (bK st.tm x) (bK st.tm y):=rfl
    rw [e,hs]
    exact this
  | VZ x y =>
    have hs:(KU (bK st.tm x) (bK st.tm y) st.bx).sets=[]:=by unfold KU; (repeat' split)<;>rfl
    have:=Vg (P:=P) h hc (hv x (by simp [dS.iq])) (hv y (by simp [dS.iq])) iC
    have e:((dS.VZ x y).f (bK st.tm) st.bx)=KU (bK st.tm x) (bK st.tm y) st.bx:=rfl
    rw [e,hs]
    exact this
end
end Go.Ab
end
section
namespace Go.Ab
open Go
section
variable {P:Program} {E:Env P} {I:IH} {ρ:Ren} {n:Nat} {st:dB} {a:Act} {w:World}
def AK (E:Env P) (n:Nat) (K:dB->Prop):Act->World->Prop:=fun a w=>∃ I ρ st,K st/\GX E I ρ n st a w
theorem Xq (h:GX E I ρ n st a w) {bs:List Nat} {v:Value} {x y:AC} (hx:GC I ρ v x) (hc:Cv st.bx x y) (hb:∀ b,b∈kU [x]->b∈bs):GC (tH I ρ w st.bx bs) ρ v y:=by
  have hle:=wE (st:=st) h.bx bs
  cases hc with
  | refl=>exact hx.mono hle (Ren.le_refl ρ)
  | cO sz =>
    simp only [GC] at hx
    subst hx
    exact Rd.sl none 0 0 _ [] (fun _ _=>undef) rfl (Nat.le_refl _) (by simp [maxLen]) (by simp) (by simp) (by intro ad h; cases h) (by simp)
  | own b m sz es harr hm=>exact KN h (hb b (by simp [kU])) harr hm hx
theorem uC {x:AC} {xs:List AC} {b:Nat} : b∈kU (x::xs)<->b∈kU [x]\/b∈kU xs:=by
 cases x<;>simp [kU]
theorem WE (h:GX E I ρ n st a w) {bs:List Nat} {vs:List Value} {xs ys:List AC} (hx:AP I ρ vs xs) (hc:Xk st.bx xs ys) (hb:∀ b,b∈kU xs->b∈bs):AP (tH I ρ w st.bx bs) ρ vs ys:=by
  induction hc generalizing vs with
  | nil=>exact ⟨hx.1,fun j v x hv hx=>by simp at hx⟩
  | cons hxy ht ih =>
    rename_i x y xs ys
    cases vs with
    | nil=>have:=hx.1; simp at this
    | cons v vs =>
      have i1:=ih (vs:=vs) ⟨by simpa using hx.1,fun j u z hu hz=>hx.2 (j+1) u z (by simpa using hu) (by simpa using hz)⟩ (fun b hb'=>hb b (uC.2 (.inr hb')))
      have i0:=Xq h (hx.2 0 v x rfl rfl) hxy (fun b hb'=>hb b (uC.2 (.inl hb')))
      refine ⟨by simp [i1.1],fun j u z hu hz => ?_⟩
      cases j with
      | zero=>simp at hu hz; subst hu; subst hz; exact i0
      | succ j=>exact i1.2 j u z (by simpa using hu) (by simpa using hz)
theorem XO (h:GX E I ρ n st a w) {bs:List Nat} {v:Value} {x y:AV} (hx:GV I ρ v x) (hc:Yp st.bx x y) (hb:∀ b,b∈x.owns->b∈bs):GV (tH I ρ w st.bx bs) ρ v y:=by
 cases hc with
 | one hxy=>exact Xq h hx hxy hb
 | agg hxy=>obtain ⟨cs,rfl,hg⟩:=hx; exact ⟨cs,rfl,WE h hg hxy hb⟩
theorem Hl (h:GX E I ρ n st a w) {bs:List Nat} {vs:List Value} {xs ys:List AV} (hx:P6 I ρ vs xs) (hc:BU st.bx xs ys) (hb:∀ b,b∈xs.flatMap AV.owns->b∈bs):P6 (tH I ρ w st.bx bs) ρ vs ys:=by
  induction hc generalizing vs with
  | nil=>exact ⟨hx.1,fun j v x hv hx=>by simp at hx⟩
  | cons hxy ht ih =>
    rename_i x y xs ys
    cases vs with
    | nil=>have:=hx.1; simp at this
    | cons v vs =>
      have i1:=ih (vs:=vs) ⟨by simpa using hx.1,fun j u z hu hz=>hx.2 (j+1) u z (by simpa using hu) (by simpa using hz)⟩ (fun b hb'=>hb b (by rw [List.flatMap_cons]; exact List.mem_append_right _ hb'))
      have i0:=XO h (hx.2 0 v x rfl rfl) hxy (fun b hb'=>hb b (by rw [List.flatMap_cons]; exact List.mem_append_left _ hb'))
      refine ⟨by simp [i1.1],fun j u z hu hz => ?_⟩
      cases j with
      | zero=>simp at hu hz; subst hu; subst hz; exact i0
      | succ j=>exact i1.2 j u z (by simpa using hu) (by simpa using hz)
theorem O9 {I J:IH} {ρ σ:Ren} {v:Value} {x:AC} (h:GC I ρ v x) (hl:x.isLit=true):GC J σ v x:=by
  cases x with
  | c y =>
    cases y with
    | lit u=>cases h with | lit v hv=>exact Rd.lit _ hv
    | str l=>cases h with | str l hl=>exact Rd.str _ hl
    | sl sz es=>cases hl
  | _=>cases hl
theorem Ql {I J:IH} {ρ σ:Ren} {vs:List Value} {xs:List AC} (h:AP I ρ vs xs) (hl:xs.all AC.isLit=true):AP J σ vs xs :=
 ⟨h.1,fun j v x hv hx=>O9 (h.2 j v x hv hx) (List.all_eq_true.1 hl x (List.mem_of_getElem? hx))⟩
theorem XU {I J:IH} {ρ σ:Ren} {v:Value} {x:AV} (h:GV I ρ v x) (hl:x.all AC.isLit=true):GV J σ v x:=by
  cases x with
  | one x=>exact O9 h hl
  | agg xs=>obtain ⟨cs,rfl,hg⟩:=h; exact ⟨cs,rfl,Ql hg hl⟩
  | o8 ps =>
    obtain ⟨vs,rfl,hs,hp⟩:=h
    refine ⟨vs,rfl,hs,fun j v p hv hq => ?_⟩
    have h1:=hp j v p hv hq
    have h2:=List.all_eq_true.1 hl p (List.mem_of_getElem? hq)
    unfold GP at h1 ⊢
    split at h1
    · rename_i hb; rw [if_pos hb]; obtain ⟨cs,rfl,hg⟩:=h1; exact ⟨cs,rfl,Ql hg h2⟩
    · rename_i hb; rw [if_neg hb]; obtain ⟨x,hx,hg⟩:=h1; rw [hx] at h2; exact ⟨x,hx,O9 hg (by simpa using h2)⟩
theorem KF {I:IH} {ρ σ:Ren} {v:Value} {x:AC} (h:GC I ρ v x) (hl:x.pO=true):GC I σ v x:=by
 cases x with
 | c y=>exact h
 | _=>cases hl
theorem Na {I:IH} {ρ σ:Ren} {vs:List Value} {xs:List AC} (h:AP I ρ vs xs) (hl:xs.all AC.pO=true):AP I σ vs xs :=
 ⟨h.1,fun j v x hv hx=>KF (h.2 j v x hv hx) (List.all_eq_true.1 hl x (List.mem_of_getElem? hx))⟩
theorem Qq {I:IH} {ρ σ:Ren} {v:Value} {x:AV} (h:GV I ρ v x) (hl:x.all AC.pO=true):GV I σ v x:=by
  cases x with
  | one x=>exact KF h hl
  | agg xs=>obtain ⟨cs,rfl,hg⟩:=h; exact ⟨cs,rfl,Na hg hl⟩
  | o8 ps =>
    obtain ⟨vs,rfl,hs,hp⟩:=h
    refine ⟨vs,rfl,hs,fun j v p hv hq => ?_⟩
    have h1:=hp j v p hv hq
    have h2:=List.all_eq_true.1 hl p (List.mem_of_getElem? hq)
    unfold GP at h1 ⊢
    split at h1
    · rename_i hb; rw [if_pos hb]; obtain ⟨cs,rfl,hg⟩:=h1; exact ⟨cs,rfl,Na hg h2⟩
    · rename_i hb; rw [if_neg hb]; obtain ⟨x,hx,hg⟩:=h1; rw [hx] at h2; exact ⟨x,hx,KF hg (by simpa using h2)⟩
theorem Nj {I:IH} {ρ σ:Ren} {vs:List Value} {xs:List AV} (h:P6 I ρ vs xs) (hl:xs.all (·.all AC.pO)=true):P6 I σ vs xs :=
 ⟨h.1,fun j v x hv hx=>Qq (h.2 j v x hv hx) (List.all_eq_true.1 hl x (List.mem_of_getElem? hx))⟩
theorem JS (b:Nat):wO [] b = .absent:=by simp [wO]
theorem D9 {x:Option (Nat × Nat)} (b k:Nat):¬ (wO [] b).uses x k:=by rw [JS]; exact fun h=>h
theorem GX.later (h:GX E I ρ n st a w) {w':World} (hF:Em w w' (fun _=>False)):GX E I ρ n st a w':=by
 have hk:∀ k,k<w.heap.size->w'.heap[k]? = w.heap[k]? := fun k hk=>hF.block k hk (fun h=>h)
 refine { h with agree:=h.agree.other (fun k c hc=>hk k (h.agree.lt hc)),bx := ?_,yT:=h.yT.trans hF (fun _ _ hf=>hf.elim),tm:=h.tm,size:=h.size,defers:=h.defers }
 exact BX.step (fun _=>False) h.bx (IH.le_refl I) (Ren.le_refl ρ) (fun b _=>⟨rfl,rfl⟩) (fun b k _ hu=>hk k ((h.bx.ok b).lt hu)) (fun b hb=>hb.elim) (fun b k hb=>hb.elim) (fun b b' k hb=>hb.elim) (fun b k _ hu=>h.bx.fresh b k hu)
theorem U8 (I:IH) (w:World):BX I (fun _=>none) w (wO []) :=
 ⟨fun b=>by rw [JS]; rfl,fun b b' k h=>absurd h (D9 b k),fun b k h=>absurd h (D9 b k)⟩
theorem Uc (h:GX E I ρ n st a w) {f:FuncId} {vs:List Value} {oC ds:List AV} {r:AV} {d:Option Nat} {K:dB->Prop} (hd':∀ x,d=some x->x<n) (hv:P6 I ρ vs oC) (hc:BU st.bx oC ds) (hd:ds.all (·.all AC.pO)=true) (hp:bF P f ds r) (hr:r.all AC.isLit=true)
  (k:K (st.ru d (.v true r))):Calls P f vs.toArray w fun e w'=>∃ v,e = .returned v/\AK E n K (a.put d v) w':=by
 have hv1:=Hl h (bs:=oC.flatMap AV.owns) hv hc (fun b hb=>hb)
 refine (hp (tH I ρ w st.bx (oC.flatMap AV.owns)) (fun _=>none) w vs (h.tabs.mono (wE h.bx _)) (CU h.agree _) (U8 _ _) (Nj hv1 hd)).mono ?_
 rintro e w' ⟨v,J,σ,r',bs,rfl,⟨rfl,rfl⟩,hg,hA,hB,hle,hF,_⟩
 have hF':Em w w' (fun _=>False):=⟨hF.os,hF.tape,hF.output,hF.size,fun k hk _=>hF.block k hk (fun ⟨b,hb⟩=>D9 b k hb)⟩
 exact ⟨v,rfl,I,ρ,_,k,(h.later hF').ru hd' ⟨fun _=>XU hg hr,fun e=>by cases e⟩⟩
theorem Q8 (h:GX E I ρ n st a w) {f:FuncId} {vs:List Value} {oC ds:List AV} {r:AV} {d:Option Nat} {K:dB->Prop} (hd':∀ x,d=some x->x<n) (hv:P6 I ρ vs oC) (hc:BU st.bx oC ds) (hd:ds.all (·.all AC.pO)=true) (hp:bF P f ds r) (hr:r.all AC.pO=true)
    (k:K ((st.vO (oC.flatMap AV.owns)).ru d (.v true r))):Calls P f vs.toArray w fun e w'=>∃ v,e = .returned v/\AK E n K (a.put d v) w':=by
  have hv1:=Hl h (bs:=oC.flatMap AV.owns) hv hc (fun b hb=>hb)
  refine (hp (tH I ρ w st.bx (oC.flatMap AV.owns)) (fun _=>none) w vs (h.tabs.mono (wE h.bx _)) (CU h.agree _) (U8 _ _) (Nj hv1 hd)).mono ?_
  rintro e w' ⟨v,J,σ,r',bs,rfl,⟨rfl,rfl⟩,hg,hA,hB,hle,hF,_,hJ,_⟩
  have hF':Em w w' (fun _=>False):=⟨hF.os,hF.tape,hF.output,hF.size,fun k hk _=>hF.block k hk (fun ⟨b,hb⟩=>D9 b k hb)⟩
  have hJ':∀ k,k<w.heap.size->J k=tH I ρ w st.bx (oC.flatMap AV.owns) k:=fun k hk=>hJ k hk (fun ⟨b,hb⟩=>D9 b k hb)
  refine ⟨v,rfl,J,ρ,_,k,?_⟩
  generalize hBS:oC.flatMap AV.owns=BS at *
  have XY:I.le J:=IH.le_trans (wE h.bx BS) hle
  have hk:∀ k,k<w.heap.size->w'.heap[k]? = w.heap[k]? := fun k hk=>hF'.block k hk (fun h=>h)
  have zO:∀ b k,((st.vO BS).bx b).uses (ρ b) k->(st.bx b).uses (ρ b) k/\¬ (∃ b' sz es cap,b'∈BS/\st.bx b' = .dat sz es/\ρ b'=some (k,cap)/\cap ≠ 0):=by
    intro b k hu
    rw [rO] at hu
    by_cases hb:b∈BS
    · rw [if_pos hb] at hu
      cases hx:st.bx b with
      | var xs =>
        rw [hx] at hu
        refine ⟨hu,?_⟩
        rintro ⟨b',sz,es,cap,_,hb',hr',h0⟩
        have:=h.bx.inj b b' k (by rw [hx]; exact hu) (by rw [hb']; exact ⟨cap,hr',h0⟩)
        subst this
        rw [hx] at hb'; cases hb'
      | row e l =>
        rw [hx] at hu
        refine ⟨hu,?_⟩
        rintro ⟨b',sz,es,cap,_,hb',hr',h0⟩
        have:=h.bx.inj b b' k (by rw [hx]; exact hu) (by rw [hb']; exact ⟨cap,hr',h0⟩)
        subst this
        rw [hx] at hb'; cases hb'
      | dat sz es=>rw [hx] at hu; exact hu.elim
      | vO sz es=>rw [hx] at hu; exact hu.elim
      | absent=>rw [hx] at hu; exact hu.elim
      | dead=>rw [hx] at hu; exact hu.elim
    · rw [if_neg hb] at hu
      refine ⟨hu,?_⟩
      rintro ⟨b',sz,es,cap,hm',hb',hr',h0⟩
      have:=h.bx.inj b b' k hu (by rw [hb']; exact ⟨cap,hr',h0⟩)
      subst this
      exact hb hm'
  have hfr:∀ b k,((st.vO BS).bx b).uses (ρ b) k->J k=none:=fun b k hu=>by
    obtain ⟨h1,h2⟩:=zO b k hu
    rw [hJ' k ((h.bx.ok b).lt h1)]
    unfold tH
    rw [if_neg h2]
    exact h.bx.fresh b k h1
  have hgx:GX E J ρ n (st.vO BS) a w':=by
    refine { agree:=hA,bx:=⟨fun b => ?_,fun b b' k hb hb'=>h.bx.inj b b' k (zO b k hb).1 (zO b' k hb').1,hfr⟩,tm:=fun t ht=>(h.tm t ht).mono XY (Ren.le_refl ρ),size:=h.size,defers:=h.defers,yT:=h.yT.trans hF' (fun _ _ hf=>hf.elim),own:=fun b k hu=>h.own b k (zO b k hu).1,Gp:=IH.le_trans h.Gp XY,xy:=fun k hk0 hM => ?_,pW:=h.pW }
    · have hok:=(h.bx.ok b).keep XY (Ren.le_refl ρ) rfl (fun k hu=>hk k ((h.bx.ok b).lt hu))
      rw [rO]
      by_cases hb:b∈BS
      · rw [if_pos hb]
        cases hx:st.bx b with
        | dat sz es =>
          rw [hx] at hok
          obtain ⟨kk,cap,hr',hl,hm,hsz,hcs⟩:=hok
          refine ⟨kk,cap,hr',hl,hm,hsz,fun h0 => ?_⟩
          obtain ⟨cs,e,hw,_,_,hrd⟩:=hcs h0
          have hu:(st.bx b).uses (ρ b) kk:=by rw [hx]; exact ⟨cap,hr',h0⟩
          have hlt:=(h.bx.ok b).lt hu
          refine ⟨cs,?_,hrd⟩
          rw [hJ' kk hlt]
          unfold tH
          rw [if_pos ⟨b,sz,es,cap,hb,hx,hr',h0⟩,<- hk kk hlt,hw]
        | var xs=>rw [hx] at hok; exact hok
        | row e l=>rw [hx] at hok; exact hok
        | vO sz es=>rw [hx] at hok; exact hok
        | absent=>rw [hx] at hok; exact hok
        | dead=>rw [hx] at hok; exact hok
      · rw [if_neg hb]; exact hok
    · have hlt:k<w.heap.size:=Nat.lt_of_lt_of_le hk0 h.yT.size
      rw [hJ' k hlt]
      unfold tH
      rw [if_neg]
      · exact h.xy k hk0 hM
      · rintro ⟨b',sz,es,cap,_,hb',hr',h0⟩
        rcases h.own b' k (by rw [hb']; exact ⟨cap,hr',h0⟩) with h1 | h1
        · omega
        · exact hM h1
  exact hgx.ru hd' ⟨fun _=>Qq hg hr,fun e=>by cases e⟩
end
end Go.Ab
end
