/- The functions of the program that the laws reach: what they compute, the proofs that they do, the laws of the data (part 3). No conditions. -/
import Derived.Test.YtaejlonmildglaaGreatDoorC2
set_option linter.unusedVariables false
set_option linter.unusedSimpArgs false
section
namespace Go.Ab
open Go
theorem NO.fine {n:af} {o:nO} (h:NO n o):∃ E,Fine 60 E n/\Gz 60 E o:=by
 obtain ⟨⟨E,hn⟩,⟨F,ho⟩⟩:=h
 exact ⟨max E F,hn.mono (Nat.le_refl _) (Nat.le_max_left _ _),ho.path,ho.from_,ho.val.mono (Nat.le_refl _) (Nat.le_max_right _ _)⟩
theorem A8 {m:af} (h:Val m=true):Ev (fun f=>G.gu f m m) true:=T.Hw rH (jf h)
theorem nU {n:af} (h:Val n=true):Fine 60 5 n:=(jf h).mono (by omega) (Nat.le_refl _)
structure V6 (n:af) (o:nO) (m:af):Prop where
 vn:Val n=true
 vo:Oq o=true
 app:applyN n o=some m
 vm:Val m=true
theorem applied {n m:af} {o:nO} (h:uV n o=some m):V6 n o m:=by
 unfold uV at h
 split at h
 ·rename_i hv
  simp only [Bool.and_eq_true] at hv
  obtain ⟨h1,h2⟩:=Option.filter_eq_some_iff.1 h
  exact ⟨hv.1,hv.2,h1,h2⟩
 ·cases h
theorem Q3 {n:af} {o:nO} (hn:Val n=true) (ho:Oq o=true):uV n o=(applyN n o).filter Val:=by unfold uV; rw [hn,ho]; rfl
theorem Qj {p:Prop} (x:p:=by
 repeat' first
 | assumption
 | exact Ev.ret _
 | refine Ev.ct rfl ?_
 | refine Ev.cf rfl ?_
 | refine Ev.bind (by assumption) ?_
 | refine Ev.ite (fun _ => ?_) (fun _ => ?_)):p:=x
theorem nO.eta (o:nO):nO.mk o.Kind o.Path o.From o.Value=o:=rfl
theorem Vd {o:nO} (h:Oq o=true):Gz 12 5 o:=by
 have f:=EY h
 exact ⟨ql f.path,ql f.from_,jf f.val⟩
open Classical in
noncomputable def Fe:af->List nO->Option af
  | n,[]=>some n
  | n,o::r=>match uV n o with
    | some m=>Fe m r
    | none=>none
noncomputable def DJ:af->List nO->Nat
  | _,[]=>0
  | n,o::r=>match uV n o with
    | some m=>DJ m r+1
    | none=>0
def GH (l:List nO):Bool:=l.all Oq&&decide (l.length<=12)
noncomputable def zU (n:af) (l:List nO):Option af:=if Val n&&GH l then Fe n l else none
theorem Vm {l:List nO} : ∀ {n m:af},Val n=true->Fe n l=some m->Val m=true:=by
  induction l with
  | nil=>intro n m hn h; cases h; exact hn
  | cons o r ih =>
    intro n m hn h
    rw [Fe] at h
    cases ha:uV n o with
    | none=>rw [ha] at h; cases h
    | some k=>rw [ha] at h; exact ih (applied ha).vm h
theorem Ro {l:List nO} : ∀ {n:af},DJ n l=l.length<->(Fe n l).isSome=true:=by
  induction l with
  | nil=>intro n; simp [DJ,Fe]
  | cons o l ih =>
    intro n
    rw [DJ,Fe]
    cases uV n o with
    | none=>simp
    | some k=>simp only [List.length_cons,Nat.add_right_cancel_iff]; exact ih
theorem NG {l:List nO} (h:GH l=true):(∀ o,o∈l->Oq o=true)/\l.length<=12:=by
 unfold GH at h
 simp only [Bool.and_eq_true,decide_eq_true_eq,List.all_eq_true] at h
 exact h
def BL (l:List nO):Prop:=l.length<=1000/\∀ o,o∈l->yL o
theorem getD_mem {α:Type} {l:List α} {i:Nat} (d:α) (h:i<l.length):l.getD i d∈l:=by rw [dh d h]; exact List.getElem_mem h
theorem T.dX.L1 {l:List nO} (h:BL l):∀ (k i:Nat),i+k=l.length->Ev (fun f=>G.dX.L1 f l i) ((l.drop i).all Oq):=by
  obtain ⟨hl,ho⟩:=h
  intro k
  induction k with
  | zero =>
    intro i hi
    refine Ev.up ?_
    simp only [G.dX.L1]
    refine Ev.cf (by simp; omega) (Ev.ret' ?_)
    rw [List.drop_of_length_le (by omega)]; rfl
  | succ k ih =>
    intro i hi
    have hlt:i<l.length:=by omega
    refine Ev.up ?_
    simp only [G.dX.L1,Int.toNat_natCast,nO.eta,bP (show i+1<9223372036854775808 by omega)]
    obtain ⟨E,hf⟩:=ho _ (getD_mem default hlt)
    refine Ev.ct (by simpa using hlt) (Ev.chk (by omega) (Ev.bind (T.oG lW hf) ?_))
    rw [bT (default:nO) hlt,List.all_cons]
    refine Ev.ite (fun e => ?_) (fun e => ?_)
    · rw [e,Bool.true_and]; exact ih (i+1) (by omega)
    · rw [e,Bool.false_and]; exact Ev.ret _
theorem T.dX {l:List nO} (h:BL l):Ev (fun f=>G.dX f l) (GH l):=by
 refine Ev.up ?_
 simp only [G.dX]
 have hL:=T.dX.L1 h l.length 0 (by omega)
 unfold GH
 refine Ev.ite (fun e=>Ev.ret' ?_) (fun e => ?_)
 ·have:¬ l.length<=12:=by simp at e; omega
  simp [this]
 ·have:l.length<=12:=by simp at e; omega
  simp only [this,decide_true,Bool.and_true]
  exact hL
theorem T.fA.L1 {l:List nO} (h:BL l):∀ (k i:Nat),i+k=l.length->Ev (fun f=>G.fA.L1 f l i) ((l.drop i).all Oq&&decide (l.length<=12)):=by
  obtain ⟨hl,ho⟩:=h
  intro k
  induction k with
  | zero =>
    intro i hi
    refine Ev.up ?_
    simp only [G.fA.L1]
    refine Ev.cf (by simp; omega) (Ev.ret' ?_)
    rw [List.drop_of_length_le (by omega),List.all_nil,Bool.true_and]
    simp; omega
  | succ k ih =>
    intro i hi
    have hlt:i<l.length:=by omega
    refine Ev.up ?_
    simp only [G.fA.L1,Int.toNat_natCast,nO.eta,bP (show i+1<9223372036854775808 by omega)]
    obtain ⟨E,hf⟩:=ho _ (getD_mem default hlt)
    refine Ev.ct (by simpa using hlt) (Ev.chk (by omega) (Ev.bind (T.nM lW hf) ?_))
    rw [bT (default:nO) hlt,List.all_cons]
    refine Ev.ite (fun e => ?_) (fun e => ?_)
    · rw [e,Bool.true_and]; exact ih (i+1) (by omega)
    · rw [e,Bool.false_and]; exact Ev.ret _
theorem T.fA {l:List nO} (h:BL l):Ev (fun f=>G.fA f l) (GH l):=by
 refine Ev.up ?_
 simp only [G.fA]
 exact T.fA.L1 h l.length 0 (by omega)
noncomputable def Vo (N i:Nat) (n:af) (l:List nO):af × Int :=
 match Fe n l with
 | some m=>(m,((N:Nat):Int))
 | none=>(mX,((i+DJ n l:Nat):Int))
theorem T.iT.L1 {l:List nO} (h:GH l=true):∀ (k i:Nat) (n:af),i+k=l.length->Val n=true ->
    Ev (fun f=>G.iT.L1 f l i n.Kind n.Num n.Text n.Names n.Kids) (Vo l.length i n (l.drop i)):=by
  obtain ⟨ho,hl⟩:=NG h
  intro k
  induction k with
  | zero =>
    intro i n hi hn
    refine Ev.up ?_
    simp only [G.iT.L1,af.eta]
    refine Ev.cf (by simp; omega) (Ev.ret' ?_)
    rw [List.drop_of_length_le (by omega)]; rfl
  | succ k ih =>
    intro i n hi hn
    have hlt:i<l.length:=by omega
    refine Ev.up ?_
    simp only [G.iT.L1,Int.toNat_natCast,nO.eta,af.eta,bP (show i+1<9223372036854775808 by omega)]
    have hv:=ho _ (getD_mem default hlt)
    have hA:=T.nG Rz (jf hn) (Vd hv)
    refine Ev.ct (by simpa using hlt) (Ev.chk (by omega) (Ev.bind hA ?_))
    rw [bT (default:nO) hlt]
    unfold Vo
    rw [Fe,DJ]
    cases ha:uV n (l.getD i default) with
    | none=>exact Ev.cf rfl (Ev.ret' rfl)
    | some m =>
      refine Ev.ct rfl ((ih (i+1) m (by omega) (applied ha).vm).eq ?_)
      unfold Vo
      simp only
      cases Fe m (l.drop (i+1)) with
      | some k=>rfl
      | none =>
        refine congrArg (Prod.mk mX) ?_
        show ((i+1+DJ m (l.drop (i+1)):Nat):Int)=((i+(DJ m (l.drop (i+1))+1):Nat):Int)
        omega
theorem T.iT {n:af} {l:List nO} (hn:Val n=true) (h:GH l=true):Ev (fun f=>G.iT f n l) (Vo l.length 0 n l):=by
 refine Ev.up ?_
 simp only [G.iT]
 exact Ev.bind (T.aF rH (jf hn)) (T.iT.L1 h l.length 0 n (by omega) hn)
theorem T.jK {B E:Nat} {n:af} {l:List nO} (hB:B<=lim) (hn:Fine B E n) (hl:BL l):Ev (fun f=>G.jK f n l) (jT (zU n l)):=by
  refine Ev.up ?_
  simp only [G.jK]
  unfold zU
  refine Ev.bind (T.aO hB hn) (Ev.ite (fun e1 => ?_) (fun e1=>Ev.ret' (by rw [e1]; rfl)))
  refine Ev.bind (T.dX hl) (Ev.ite (fun e2 => ?_) (fun e2=>Ev.ret' (by rw [e1,e2]; rfl)))
  refine Ev.bind (T.iT e1 e2) (Ev.ret' ?_)
  rw [e1,e2,if_pos (by rfl)]
  unfold Vo
  cases hr:Fe n l with
  | some m=>simp [jT]
  | none =>
    have h1:¬ DJ n l=l.length:=fun e=>by have:=Ro.1 e; rw [hr] at this; cases this
    simp only [Nat.zero_add,jT]
    rw [ilen]
    simp [h1]
theorem OI {n:af} {o:nO} (hn:Val n=true) (ho:Oq o=true):Ev (fun f=>G.lH f n o) (jT (uV n o)):=by
 rw [Q3 hn ho]; exact T.lH hn (EY ho)
theorem T.fZ.L1 {l:List nO} (h:GH l=true):∀ (k i:Nat) (n:af),i+k=l.length->Val n=true ->
    Ev (fun f=>G.fZ.L1 f l i n.Kind n.Num n.Text n.Names n.Kids) (jT (Fe n (l.drop i))):=by
  obtain ⟨ho,hl⟩:=NG h
  intro k
  induction k with
  | zero =>
    intro i n hi hn
    refine Ev.up ?_
    simp only [G.fZ.L1,af.eta]
    refine Ev.cf (by simp; omega) (Ev.ret' ?_)
    rw [List.drop_of_length_le (by omega)]; rfl
  | succ k ih =>
    intro i n hi hn
    have hlt:i<l.length:=by omega
    refine Ev.up ?_
    simp only [G.fZ.L1,Int.toNat_natCast,nO.eta,af.eta,bP (show i+1<9223372036854775808 by omega)]
    have hv:=ho _ (getD_mem default hlt)
    refine Ev.ct (by simpa using hlt) (Ev.chk (by omega) (Ev.bind (OI hn hv) ?_))
    rw [bT (default:nO) hlt,Fe]
    cases ha:uV n (l.getD i default) with
    | none=>exact Ev.cf rfl (Ev.ret' rfl)
    | some m=>exact Ev.ct rfl (ih (i+1) m (by omega) (applied ha).vm)
theorem T.fZ {B E:Nat} {n:af} {l:List nO} (hB:B<=lim) (hn:Fine B E n) (hl:BL l):Ev (fun f=>G.fZ f n l) (jT (zU n l)):=by
 refine Ev.up ?_
 simp only [G.fZ]
 unfold zU
 refine Ev.bind (T.bH hB hn) (Ev.ite (fun e1 => ?_) (fun e1=>Ev.ret' (by rw [e1]; rfl)))
 refine Ev.bind (T.fA hl) (Ev.ite (fun e2 => ?_) (fun e2=>Ev.ret' (by rw [e1,e2]; rfl)))
 rw [e1,e2,if_pos (by rfl)]
 exact Ev.bind (T.aB rH (jf e1)) (T.fZ.L1 e2 l.length 0 n (by omega) e1)
end Go.Ab
end
section
namespace Go.Ab
open Go
set_option maxRecDepth 100000
theorem Bc:BL []:=⟨by simp,fun o h=>by cases h⟩
end Go.Ab
end
section
namespace Go.Ab
open Go
set_option maxRecDepth 100000
def TN (l:List aG):Prop:=l.Pairwise fun x y=>bl y x=false
def Vf:List aG->aG->List aG->List aG
 | [],x,S=>x::S
 | r::R,x,S=>if bl x r then Vf R x (r::S) else (r::R).reverse++x::S
theorem JB:∀ (R:List aG) (x:aG) (S:List aG),TN R.reverse->∃ P,Vf R x S=P++S/\TN P/\(∀ s,s∈P<->s=x\/s∈R)/\P.length=R.length+1
  | [],x,S,_=>⟨[x],rfl,by simp [TN],by simp,rfl⟩
  | r::R,x,S,h=>by
    rw [List.reverse_cons] at h
    obtain ⟨h1,_,h3⟩:=List.pairwise_append.1 h
    rw [Vf]
    by_cases hx:bl x r=true
    · rw [if_pos hx]
      obtain ⟨P,e,hs,hm,hl⟩:=JB R x (r::S) h1
      refine ⟨P++[r],by rw [e]; simp,?_,fun s => ?_,by simp [hl]⟩
      · refine List.pairwise_append.2 ⟨hs,by simp,fun a ha b hb => ?_⟩
        rw [List.mem_singleton] at hb
        subst hb
        rcases (hm a).1 ha with rfl | ha
        · exact Dv hx
        · exact h3 a (List.mem_reverse.2 ha) b (by simp)
      · rw [List.mem_append,hm s,List.mem_singleton,List.mem_cons]
        constructor
        · rintro ((h | h) | h)
          · exact .inl h
          · exact .inr (.inr h)
          · exact .inr (.inl h)
        · rintro (h | h | h)
          · exact .inl (.inl h)
          · exact .inr h
          · exact .inl (.inr h)
    · rw [if_neg hx]
      have hx:bl x r=false:=by simpa using hx
      refine ⟨(r::R).reverse++[x],by simp,?_,fun s => ?_,by simp⟩
      · rw [List.reverse_cons]
        refine List.pairwise_append.2 ⟨h,by simp,fun a ha b hb => ?_⟩
        rw [List.mem_singleton] at hb
        subst hb
        rcases List.mem_append.1 ha with ha | ha
        · have ar:=h3 a ha r (by simp)
          cases hba:bl b a with
          | false=>rfl
          | true =>
            cases hra:bl a r with
            | true=>rw [rV hba hra] at hx; cases hx
            | false=>rw [yP hra ar] at hba; rw [hba] at hx; cases hx
        · rw [List.mem_singleton] at ha; subst ha; exact hx
      · rw [List.mem_append,List.mem_reverse,List.mem_singleton]
        constructor
        · rintro (h | h)
          · exact .inr h
          · exact .inl h
        · rintro (h | h)
          · exact .inr h
          · exact .inl h
theorem Nb {α:Type} (d:α) {A S:List α} {x:α} {j:Nat} (h:j=A.length):(A++x::S).getD j d=x:=by
 subst h; simp [List.getD]
theorem set_mid {α:Type} {A S:List α} {x y:α} {j:Nat} (h:j=A.length):(A++x::S).set j y=A++y::S:=by
 subst h; simp
theorem T.ins.L4 {b i:Nat} {q:List aG} (hi:i<1000):∀ (R:List aG) (x:aG) (S:List aG),R.length+S.length<1000 ->
    Ev (fun f=>G.ay.L3 f 0 b ((i+1:Nat):Int) (Vf R x S)) q ->
    Ev (fun f=>G.ay.L4 f 0 b i (R.length:Int) (R.reverse++x::S)) q
  | [],x,S,hl,h=>by
    refine Ev.up ?_
    simp only [G.ay.L4,bP (show i+1<9223372036854775808 by omega)]
    exact Ev.cf (by simp) h
  | r::R,x,S,hl,h=>by
    have hl':R.length+1+S.length<1000:=by simpa using hl
    have e1:(r::R).length=R.length+1:=rfl
    have w1:IntKind.wrap .i64 (((R.length+1:Nat):Int)-1)=((R.length:Nat):Int):=wrapN (by omega) (by omega)
    have g1:((r::R).reverse++x::S).getD (R.length+1) default=x:=Nb _ (by simp)
    have g0:((r::R).reverse++x::S).getD R.length default=r:=by
      rw [List.reverse_cons,List.append_assoc]; exact Nb _ (by simp)
    have hlen:((r::R).reverse++x::S).length=R.length+1+(S.length+1):=by simp; omega
    refine Ev.up ?_
    simp only [G.ay.L4,bP (show i+1<9223372036854775808 by omega),e1,w1,Int.toNat_natCast,g0,g1]
    refine Ev.ct (decide_eq_true (by omega)) (Ev.chk (by rw [hlen]; omega) (Ev.chk (by rw [hlen]; omega) (Ev.bind (T.cmp_Less_string x r) ?_)))
    rw [Vf] at h
    by_cases hx:bl x r=true
    · rw [if_pos hx] at h
      refine Ev.ct hx (Ev.chk (by rw [hlen]; omega) (Ev.chk (by rw [hlen]; omega) (Ev.chk (by rw [hlen]; omega) (Ev.chk (by rw [hlen]; omega) ?_))))
      have e2:(((r::R).reverse++x::S).set (R.length+1) r).set R.length x=R.reverse++x::(r::S):=by
        rw [set_mid (by simp),List.reverse_cons,List.append_assoc]
        exact set_mid (by simp)
      rw [e2]
      exact T.ins.L4 hi R x (r::S) (by simp; omega) h
    · rw [if_neg hx] at h
      exact Ev.cf (by simpa using hx) h
theorem T.ins.L3 {m:Nat} (hm:m<1000):∀ (k i:Nat) (P S:List aG),i+k=m->P.length=i->S.length=k->TN P ->
    ∃ q,Ev (fun f=>G.ay.L3 f 0 m i (P++S)) q/\TN q/\(∀ s,s∈q<->s∈P\/s∈S)/\q.length=m:=by
  intro k
  induction k with
  | zero =>
    intro i P S hi hp hs hP
    have:S=[]:=List.eq_nil_of_length_eq_zero hs
    subst this
    refine ⟨P,Ev.up ?_,hP,by simp,by omega⟩
    simp only [G.ay.L3,List.append_nil]
    exact Ev.cf (by simp; omega) (Ev.ret _)
  | succ k ih =>
    intro i P S hi hp hs hP
    cases S with
    | nil=>simp at hs
    | cons x S =>
      have hs':S.length=k:=by simpa using hs
      obtain ⟨P',e,hs1,hm1,hl1⟩:=JB P.reverse x S (by rw [List.reverse_reverse]; exact hP)
      obtain ⟨q,g,hq,hqm,Y4⟩:=ih (i+1) P' S (by omega) (by rw [hl1]; simp; omega) hs' hs1
      refine ⟨q,Ev.up ?_,hq,fun s => ?_,Y4⟩
      · simp only [G.ay.L3]
        refine Ev.ct (decide_eq_true (by omega)) ?_
        have:=T.ins.L4 (b:=m) (i:=i) (q:=q) (by omega) P.reverse x S (by simp; omega) (by rw [e]; exact g)
        rw [List.reverse_reverse,List.length_reverse,hp] at this
        exact this
      · rw [hqm s,hm1 s,List.mem_reverse,List.mem_cons]
        constructor
        · rintro ((h | h) | h)
          · exact .inr (.inl h)
          · exact .inl h
          · exact .inr (.inr h)
        · rintro (h | h | h)
          · exact .inl (.inr h)
          · exact .inl (.inl h)
          · exact .inr h
theorem T.ins {l:List aG} (hl:l.length<1000):∃ q,Ev (fun f=>G.ay f l 0 (l.length:Int)) q/\TN q/\(∀ s,s∈q<->s∈l)/\q.length=l.length:=by
  cases l with
  | nil =>
    refine ⟨[],Ev.up ?_,by simp [TN],by simp,rfl⟩
    simp only [G.ay]
    refine Ev.up ?_
    simp only [G.ay.L3]
    exact Ev.cf (by decide) (Ev.ret _)
  | cons x l =>
    obtain ⟨q,g,h1,h2,h3⟩:=T.ins.L3 (m:=l.length+1) (by simpa using hl) l.length 1 [x] l (by omega) rfl rfl (by simp [TN])
    refine ⟨q,Ev.up ?_,h1,fun s => ?_,h3⟩
    · simp only [G.ay]
      exact g
    · rw [h2 s]; simp
theorem T.RP:∀ k:Nat,k<=12->∃ v,Ev (fun f=>G.mZ f (k:Int)) v:=by
 intro k hk
 have h:∃ v,G.mZ 5 (k:Int)=some v/\∀ n,G.mZ (n+5) (k:Int)=some v:=by
  rcases k with _ | _ | _ | _ | _ | _ | _ | _ | _ | _ | _ | _ | _ | k
  all_goals first | exact ⟨_,rfl,fun n=>rfl⟩ | omega
 obtain ⟨v,_,h⟩:=h
 exact ⟨v,5,fun n hn=>by obtain ⟨m,rfl⟩:∃ m,n=m+5:=⟨n-5,by omega⟩; exact h m⟩
theorem T.sort {l:List aG} (hl:l.length<=12):∃ q,Ev (fun f=>G.slices_Sort_string f l) q/\TN q/\(∀ s,s∈q<->s∈l)/\q.length=l.length:=by
 obtain ⟨q,g,h1,h2,h3⟩:=T.ins (l:=l) (by omega)
 obtain ⟨v,gv⟩:=T.RP l.length hl
 have w:IntKind.wrap .u64 ((l.length:Nat):Int)=((l.length:Nat):Int):=by
  unfold IntKind.wrap
  simp only [show IntKind.bits .u64=64 from rfl,show IntKind.signed .u64=false from rfl,Bool.false_and]
  simp
  omega
 have w0:IntKind.wrap .i64 (((l.length:Nat):Int)-0)=((l.length:Nat):Int):=wrapN (by omega) (by omega)
 refine ⟨q,Ev.up ?_,h1,h2,h3⟩
 simp only [G.slices_Sort_string,w]
 refine Ev.bind gv (Ev.bind ?_ (Ev.chk h3.symm (Ev.ret q)))
 refine Ev.up ?_
 simp only [G.bu]
 refine Ev.up ?_
 simp only [G.bu.L2,w0]
 exact Ev.ct (decide_eq_true (by omega)) (Ev.bind g (Ev.chk h3.symm (Ev.ret q)))
def MM:aG->List aG->List aG
 | _,[]=>[]
 | x,y::l=>if y=x then MM y l else y::MM y l
def WH:List aG->List aG
 | []=>[]
 | x::l=>x::MM x l
theorem Qh:∀ (l:List aG) (x s:aG),s∈x::MM x l<->s∈x::l
  | [],x,s=>by simp [MM]
  | y::l,x,s=>by
    have ih:=Qh l y s
    rw [MM]
    split
    · rename_i e; subst e
      rw [ih]; simp
    · rw [List.mem_cons,ih,List.mem_cons]
      simp only [List.mem_cons]
theorem Qg:∀ (l:List aG) (x:aG),TN (x::l)->Asc (x::MM x l)=true
  | [],x,_=>rfl
  | y::l,x,h=>by
    have h1:=List.pairwise_cons.1 h
    have ih:=Qg l y h1.2
    rw [MM]
    split
    · rename_i e; subst e; exact ih
    · rename_i e
      rw [Asc,ih,Bool.and_true]
      have hyx:=h1.1 y (by simp)
      cases hxy:bl x y with
      | true=>exact hxy
      | false=>exact absurd (yP hyx hxy) e
theorem WI {l:List aG} (h:TN l):Asc (WH l)=true:=by
 cases l with
 | nil=>rfl
 | cons x l=>exact Qg l x h
theorem WJ {l:List aG} {s:aG} : s∈WH l<->s∈l:=by
 cases l with
 | nil=>rfl
 | cons x l=>exact Qh l x s
theorem T.cmp.L2 {m k0:Nat} (hm:m<1000):∀ (t k k2:Nat) (z:List aG),k0+k2+t=m->z.length=m->1<=k2->k+1<=k0+k2 ->
    Ev (fun f=>G.slices_Compact_string.L2 f m k0 k k2 z) (z.take k++MM (z.getD (k0+(k2-1)) default) (z.drop (k0+k2))):=by
  intro t
  induction t with
  | zero =>
    intro k k2 z h1 hz h2 hk
    refine Ev.up ?_
    simp only [G.slices_Compact_string.L2]
    refine Ev.chk ⟨hz,by omega⟩ (Ev.cf (decide_eq_false (by omega)) (Ev.chk (by omega) (Ev.ret' ?_)))
    rw [List.drop_of_length_le (by omega),MM,List.append_nil]
  | succ t ih =>
    intro k k2 z h1 hz h2 hk
    have w1:IntKind.wrap .i64 ((k2:Int)-1)=((k2-1:Nat):Int):=wrapN (by omega) (by omega)
    refine Ev.up ?_
    simp only [G.slices_Compact_string.L2]
    refine Ev.chk ⟨hz,by omega⟩ (Ev.ct (decide_eq_true (by omega)) (Ev.chk ⟨h2,by omega,by omega,by omega,w1,bP (by omega),bP (by omega)⟩ ?_))
    rw [bT (default:aG) (by omega:k0+k2<z.length),MM]
    refine Ev.ite (fun e => ?_) (fun e => ?_)
    · rw [beq_iff_eq] at e
      rw [if_pos e]
      exact (ih k (k2+1) z (by omega) hz (by omega) (by omega)).eq (by rw [show k0+(k2+1-1)=k0+k2 by omega,show k0+(k2+1)=k0+k2+1 by omega])
    · have e:¬ z.getD (k0+k2) default=z.getD (k0+(k2-1)) default:=by simpa using e
      rw [if_neg e]
      refine (ih (k+1) (k2+1) (z.set k (z.getD (k0+k2) default)) (by omega) (by simpa using hz) (by omega) (by omega)).eq ?_
      have hk':k<z.length:=by omega
      rw [show k0+(k2+1-1)=k0+k2 by omega,show k0+(k2+1)=k0+k2+1 by omega]
      have t1:(z.set k (z.getD (k0+k2) default)).take (k+1)=z.take k++[z.getD (k0+k2) default]:=by
        rw [List.take_add_one,List.take_set_of_le (Nat.le_refl k)]
        simp [hk']
      have t2:(z.set k (z.getD (k0+k2) default)).drop (k0+k2+1)=z.drop (k0+k2+1):=by
        rw [List.drop_set_of_lt (by omega)]
      have t3:(z.set k (z.getD (k0+k2) default)).getD (k0+k2) default=z.getD (k0+k2) default:=by
        simp [List.getD,List.getElem?_set,show ¬ k=k0+k2 by omega]
      rw [t1,t2,t3]
      simp
theorem T.cmp.L1 {s:List aG} (hs:s.length<1000):∀ (t k:Nat),k+t=s.length->1<=k ->
    Ev (fun f=>G.slices_Compact_string.L1 f s k) (s.take k++MM (s.getD (k-1) default) (s.drop k)):=by
  intro t
  induction t with
  | zero =>
    intro k h1 h2
    refine Ev.up ?_
    simp only [G.slices_Compact_string.L1]
    refine Ev.cf (by simp; omega) (Ev.ret' ?_)
    rw [List.drop_of_length_le (by omega),List.take_of_length_le (by omega),MM,List.append_nil]
  | succ t ih =>
    intro k h1 h2
    have w1:IntKind.wrap .i64 ((k:Int)-1)=((k-1:Nat):Int):=wrapN (by omega) (by omega)
    refine Ev.up ?_
    simp only [G.slices_Compact_string.L1]
    refine Ev.ct (decide_eq_true (by omega)) (Ev.chk ⟨h2,by omega,by omega,w1,bP (by omega)⟩ ?_)
    rw [bT (default:aG) (by omega:k<s.length),MM]
    refine Ev.ite (fun e => ?_) (fun e => ?_)
    · rw [beq_iff_eq] at e
      rw [if_pos e]
      exact T.cmp.L2 hs t k 1 s (by omega) rfl (Nat.le_refl _) (Nat.le_refl _)
    · have e:¬ s.getD k default=s.getD (k-1) default:=by simpa using e
      rw [if_neg e]
      refine (ih (k+1) (by omega) (by omega)).eq ?_
      have hk:k<s.length:=by omega
      have t1:s.take (k+1)=s.take k++[s[k]]:=by rw [List.take_add_one]; simp [hk]
      rw [show k+1-1=k by omega,t1,dh default hk,List.append_assoc]
      rfl
theorem T.compact {s:List aG} (hs:s.length<1000):Ev (fun f=>G.slices_Compact_string f s) (WH s):=by
 refine Ev.up ?_
 simp only [G.slices_Compact_string]
 refine Ev.ite (fun e=>Ev.ret' ?_) (fun e => ?_)
 ·have:s.length<2:=by simp at e; omega
  match s,this with
  | [],_=>rfl
  | [x],_=>rfl
 ·have:¬ s.length<2:=by simp at e; omega
  refine (T.cmp.L1 hs (s.length-1) 1 (by omega) (Nat.le_refl _)).eq ?_
  match s,this with
  | x::l,_=>simp [WH,List.getD]
theorem Gx {x:aG} {l:List aG} (h:Asc l=true) (hx:∀ y,y∈l->bl x y=true):Asc (x::l)=true:=by
 cases l with
 | nil=>rfl
 | cons y l=>rw [Asc,h,Bool.and_true]; exact hx y (by simp)
end Go.Ab
end
section
namespace Go.Ab
open Go
set_option maxRecDepth 100000
def lk (n:af) (s:aG):Option af:=(uF n s).map fun j=>n.Kids.getD j default
structure xO (n:af):Prop where
 kind:n.Kind=4
 AX:Asc n.Names=true
 len:n.Kids.length=n.Names.length
theorem D5 {n:af} (h:Parts n=true) (hk:n.Kind=4):xO n/\n.Names.length<=6/\∀ s,s∈n.Names->s.length<=12:=by
 obtain ⟨_,_,hN,hl,hkl⟩:=rq h hk
 exact ⟨⟨hk,CV hN,hkl⟩,hl,fun s hs=>Il (Pv hN s hs)⟩
theorem UR {n:af} (h:xO n) {s:aG} : (lk n s).isSome=true<->s∈n.Names:=by
  unfold lk
  rw [Option.isSome_map]
  constructor
  · intro hs
    obtain ⟨j,hj⟩:=Option.isSome_iff_exists.1 hs
    obtain ⟨h1,h2,_⟩:=Am.1 hj
    rw [vC h.kind,beq_iff_eq] at h2
    rw [<- h2]
    exact getD_mem default (by rw [<- h.len]; exact h1)
  · intro hs
    cases hp:uF n s with
    | some j=>rfl
    | none =>
      obtain ⟨i,hi,e⟩:=List.mem_iff_getElem.1 hs
      have:=Ec.1 hp i (by rw [h.len]; exact hi)
      rw [vC h.kind,dh default hi,e] at this
      simp at this
theorem Pm {n x:af} {s:aG} (h:lk n s=some x):x∈n.Kids:=by
 unfold lk at h
 obtain ⟨j,hj,rfl⟩:=Option.map_eq_some_iff.1 h
 exact getD_mem default (qp hj)
theorem DZ {n:af} (h:xO n) {s:aG} : lk n s=none<->s ∉ n.Names:=by
 rw [<- UR h]; cases lk n s<;>simp
def snoc (n:af) (s:aG) (k:af):af:=af.mk 4 0 [] (n.Names++[s]) (n.Kids++[k])
structure Acc (n:af) (m:Nat):Prop where
 map:xO n
 num:n.Num=0
 text:n.Text=[]
 len:n.Names.length<=m
 small:∀ s,s∈n.Names->s.length<=12
theorem Acc.eq {n:af} {m:Nat} (h:Acc n m):n=af.mk 4 0 [] n.Names n.Kids:=by
 obtain ⟨⟨h1,_,_⟩,h2,h3,_,_⟩:=h
 cases n
 simp only at h1 h2 h3
 subst h1; subst h2; subst h3; rfl
theorem LZ:∀ {l:List aG} (i:Nat),Asc l=true->Asc (l.drop i)=true
 | l,0,h=>by simpa using h
 | [],i+1,_=>rfl
 | x::l,i+1,h=>LZ (l:=l) i (wW h)
open Classical in
noncomputable def mn (F:af->af->af->Option af) (o a b:af) (s:aG):Option (Option af) :=
 match lk a s,lk b s,lk o s with
 | some x,some y,some z=>(F z x y).map some
 | some x,some y,none=>if x=y then some (some x) else none
 | some x,none,none=>some (some x)
 | none,some y,none=>some (some y)
 | some x,none,some z=>if x=z then some none else none
 | none,some y,some z=>if y=z then some none else none
 | none,none,_=>some none
def YD:af:=af.mk 4 0 [] [] []
end Go.Ab
end
section
namespace Go.Ab
open Go
set_option maxRecDepth 100000
theorem LP:∀ f:Nat,(∀ n i z l,G.gB.L5 f n i z=some l->z.length<=l.length)/\(∀ n i z s l,G.gB.K6 f n i z s=some l->z.length<=l.length) /\
    (∀ n i s v k z l,G.gB.L7 f n i s v k z=some l->z.length<=l.length)
  | 0=>⟨fun n i z l h=>(by simp only [G.gB.L5,reduceCtorEq] at h),fun n i z s l h=>(by simp only [G.gB.K6,reduceCtorEq] at h),fun n i s v k z l h=>(by simp only [G.gB.L7,reduceCtorEq] at h)⟩
  | f+1=>by
    obtain ⟨h5,h6,h7⟩:=LP f
    refine ⟨fun n i z l h => ?_,fun n i z s l h => ?_,fun n i s v k z l h => ?_⟩
    · simp only [G.gB.L5] at h
      rcases pY.1 h with ⟨_,h⟩ | ⟨_,h⟩
      · obtain ⟨v,_,h⟩:=Option.bind_eq_some_iff.1 h
        rcases pY.1 h with ⟨_,h⟩ | ⟨_,h⟩
        · exact h6 _ _ _ _ _ (oh.1 h).2
        · exact h6 _ _ _ _ _ h
      · cases h; exact Nat.le_refl _
    · simp only [G.gB.K6] at h
      obtain ⟨v,_,h⟩:=Option.bind_eq_some_iff.1 (oh.1 h).2
      exact h7 _ _ _ _ _ _ _ h
    · simp only [G.gB.L7] at h
      rcases pY.1 h with ⟨_,h⟩ | ⟨_,h⟩
      · have:=h7 _ _ _ _ _ _ _ (oh.1 (oh.1 (oh.1 h).2).2).2
        simp at this; omega
      · exact h5 _ _ _ _ h
theorem Wq {f:Nat} {n:af} {l:List (List aG)} (h:G.gB f n=some l):0<l.length:=by
  cases f with
  | zero=>simp only [G.gB,reduceCtorEq] at h
  | succ f =>
    simp only [G.gB] at h
    have:=(LP f).1 _ _ _ _ h
    simp at this; omega
theorem D.all1 {n:af} (h:Val n=true):Tot (fun l=>TI 16807 5 l/\0<l.length) (fun f=>G.gB f n):=by
 obtain ⟨l,g,hl⟩:=D.all 5 (Nat.le_refl _) (kZ h)
 obtain ⟨m,hm⟩:=g.val
 exact ⟨l,g,hl,Wq hm⟩
theorem D.near.K1 {K:Nat} {r:ReaderT} {n:af} {o:Option af} (hn:Val n=true) (ho:∀ m,o=some m->tC 61 m) (hr:nN K r) :
    Dr K (fun x=>Val x=true) (fun f=>G.jA.K1 f n (jT o).2 r.b r.p (jT o).1.Kind (jT o).1.Num (jT o).1.Text (jT o).1.Names (jT o).1.Kids):=by
  refine Tot.up ?_
  simp only [G.jA.K1,af.eta,ReaderT.eta]
  have cp:=T.aB rH (jf hn)
  cases o with
  | none=>exact Tot.ite (fun e=>by cases e) (fun _=>Tot.rU cp (Tot.ret ⟨hn,hr⟩))
  | some m =>
    obtain ⟨E,hm⟩:=ho m rfl
    refine Tot.ite (fun _=>Tot.rU (T.bH (by decide:61<=lim) hm) (Tot.ite (fun e=>Tot.ret ⟨e,hr⟩) (fun _=>Tot.rU cp (Tot.ret ⟨hn,hr⟩)))) (fun e=>by cases e)
theorem D.U6 {K:Nat} {r:ReaderT} {n:af} (hn:Val n=true) (hr:nN K r) (hK:K<=600000000):Dr (K+2000) (fun x=>Val x=true) (fun f=>G.jA f r n):=by
 have h12:=jf hn
 have h60:=nU hn
 refine Tot.up ?_
 simp only [G.jA]
 refine Tot.bind (D.all1 hn) ?_
 rintro l ⟨⟨hl1,hl2⟩,hl3⟩
 refine Tot.bind (D.pick (m:=l.length) hr (by omega) rfl hl3 (by omega)) ?_
 rintro ⟨x,r1⟩ ⟨⟨w,rfl,hw⟩,hr1⟩
 have hp:=hl2 _ (getD_mem default hw)
 simp only [Int.toNat_natCast]
 have hpb:(l.getD w default).length<big:=by unfold big; have:=hp.1; omega
 refine Tot.chk (by show 0<=(w:Int)/\(w:Int)<_; omega) (Tot.rU (T.aB rH h12) (Tot.bind (D.pick (m:=5) hr1 (by omega) rfl (by decide) (by decide)) ?_))
 rintro ⟨y,r2⟩ ⟨_,hr2⟩
 have hr2':nN (K+2) r2:=hr2
 refine Tot.ite (fun _ => ?_) (fun _=>Tot.ite (fun _ => ?_) (fun _=>Tot.ite (fun _ => ?_) (fun _=>Tot.ite (fun _ => ?_) (fun _ => ?_))))
 ·refine Tot.rU (T.gG (l.getD w default) Ry hpb h12) ?_
  exact (D.near.K1 hn (fun m hm=>⟨5,(jf (BA hn hm)).mono (by omega) (Nat.le_refl _)⟩) hr2').mono (fun x h=>⟨h.1,h.2.mono (by omega)⟩)
 ·have hpl:=hp.1
  refine Tot.chk (by omega) (Tot.bind (D.of (m:=1) hr2' (by omega) _ (by decide) (by decide) (by decide)) ?_)
  rintro ⟨s,r3⟩ ⟨hs,hr3⟩
  refine Tot.chk (by omega) (Tot.bind (D.node 1 (by decide) (by rfl) hr3 (by omega)) ?_)
  rintro ⟨v,r4⟩ ⟨⟨E,hv⟩,hr4⟩
  have hps:∀ t,t∈l.getD w default++[s]->t.length<=60:=fun t ht=>by
   rcases List.mem_append.1 ht with ht | ht
   ·have:=hp.2 t ht; omega
   ·rw [List.mem_singleton] at ht; subst ht; have:t.length<=1:=hs; omega
  refine Tot.rU (T.lX (l.getD w default++[s]) (by decide:60+1<lim) (by unfold big; rw [List.length_append,List.length_singleton]; omega) hps h60 hv) ?_
  exact (D.near.K1 hn (fun m hm=>⟨_,CG h60 hv hps hm⟩) hr4).mono (fun x h=>⟨h.1,h.2.mono (by omega)⟩)
 ·refine Tot.bind (D.node 1 (by decide) (by rfl) hr2' (by omega)) ?_
  rintro ⟨v,r4⟩ ⟨⟨E,hv⟩,hr4⟩
  refine Tot.rU (T.jQ lW hv (l.getD w default) hpb h60) ?_
  exact (D.near.K1 hn (fun m hm=>⟨_,(Bg h60 hv hm).mono (by omega) (Nat.le_refl _)⟩) hr4).mono (fun x h=>⟨h.1,h.2.mono (by omega)⟩)
 ·refine Tot.bind (D.xu hr2' (by omega)) ?_
  rintro ⟨v,r4⟩ ⟨hv,hr4⟩
  exact Tot.ret ⟨hv,hr4.mono (by omega)⟩
 ·exact (D.near.K1 (o:=some n) hn (fun m hm=>by cases hm; exact ⟨5,h12.mono (by omega) (Nat.le_refl _)⟩) hr2').mono (fun x h=>⟨h.1,h.2.mono (by omega)⟩)
end Go.Ab
end
section
namespace Go.Ab
open Go
set_option maxRecDepth 100000
theorem T.jL.L1 {l:List aG} {s:aG} (hl:l.length<5000):∀ (k i:Nat),i+k=l.length->Ev (fun f=>G.jL.L1 f l s i) (decide (s∈l.drop i)):=by
  intro k
  induction k with
  | zero =>
    intro i hi
    refine Ev.up ?_
    simp only [G.jL.L1]
    refine Ev.cf (decide_eq_false (by omega)) (Ev.ret' ?_)
    rw [List.drop_of_length_le (by omega)]; simp
  | succ k ih =>
    intro i hi
    refine Ev.up ?_
    simp only [G.jL.L1,Int.toNat_natCast,bP (show i+1<9223372036854775808 by omega)]
    rw [bT (default:aG) (by omega:i<l.length)]
    refine Ev.ct (decide_eq_true (by omega)) (Ev.chk (by omega) (Ev.ite (fun e=>Ev.ret' ?_) (fun e=>(ih (i+1) (by omega)).eq ?_)))
    · rw [beq_iff_eq] at e
      symm; exact decide_eq_true (by rw [e]; simp)
    · have e:¬ l.getD i default=s:=by simpa using e
      apply decide_eq_decide.2
      rw [List.mem_cons]
      exact ⟨.inr,fun h=>h.elim (fun h=>absurd h.symm e) id⟩
theorem T.jL {l:List aG} {s:aG} (hl:l.length<5000):Ev (fun f=>G.jL f l s) (decide (s∈l)):=by
 refine Ev.up ?_
 simp only [G.jL]
 exact T.jL.L1 hl l.length 0 (by omega)
end Go.Ab
end
section
namespace Go.Ab
open Go
set_option maxRecDepth 100000
theorem yA {n:af} (h:xO n) {r:aG} {k:af} : lk n r=some k<->(r,k)∈n.Names.zip n.Kids:=by
 have at_:∀ j,j<n.Names.length->(n.Names.getD j default,n.Kids.getD j default)∈n.Names.zip n.Kids:=fun j hj=>by
  have hk:j<n.Kids.length:=by rw [h.len]; exact hj
  rw [dh _ hj,dh _ hk]
  exact List.mem_iff_getElem.2 ⟨j,by simp; omega,by simp⟩
 constructor
 ·intro e
  unfold lk at e
  obtain ⟨j,hj,rfl⟩:=Option.map_eq_some_iff.1 e
  obtain ⟨h1,h2,_⟩:=Am.1 hj
  rw [vC h.kind,beq_iff_eq] at h2
  rw [<- h2]
  exact at_ j (by rw [<- h.len]; exact h1)
 ·intro e
  obtain ⟨j,hj,e⟩:=List.mem_iff_getElem.1 e
  have hj1:j<n.Names.length:=by simp at hj; omega
  have hj2:j<n.Kids.length:=by simp at hj; omega
  simp only [List.getElem_zip,Prod.mk.injEq] at e
  obtain ⟨e1,e2⟩:=e
  have hp:uF n r=some j:=by
   rw [Am]
   refine ⟨hj2,by rw [vC h.kind,dh _ hj1,e1]; simp,fun q hq => ?_⟩
   rw [vC h.kind]
   have:=xG (uX h.AX q j hq hj1)
   rw [dh _ hj1,e1] at this
   simpa using this
  unfold lk
  rw [hp,Option.map_some,dh _ hj2,e2]
theorem Xj {α β:Type} {a:List α} {b:List β} {p:Nat} {x:α} {y:β} (h:a.length=b.length):(insL a p x).zip (insL b p y)=insL (a.zip b) p (x,y):=by
 unfold insL
 rw [List.zip_append (by simp [h]),List.zip_append (by simp [h])]
 have e1:(a.zip b).take p=(a.take p).zip (b.take p):=by rw [List.zip,List.take_zipWith]
 have e2:(a.zip b).drop p=(a.drop p).zip (b.drop p):=by rw [List.zip,List.drop_zipWith]
 rw [e1,e2]
 rfl
theorem KI {α:Type} {l:List α} {p:Nat} {x y:α} : y∈insL l p x<->y=x\/y∈l:=by
 unfold insL
 rw [List.mem_append,List.mem_append,List.mem_singleton]
 have:=List.take_append_drop p l
 constructor
 ·rintro ((h | h) | h)
  ·exact .inr (List.mem_of_mem_take h)
  ·exact .inl h
  ·exact .inr (List.mem_of_mem_drop h)
 ·rintro (h | h)
  ·exact .inl (.inr h)
  ·rw [<- this,List.mem_append] at h
   rcases h with h | h
   ·exact .inl (.inl h)
   ·exact .inr h
theorem TR {n v:af} {s:aG} (h:xO n) (hs:s ∉ n.Names):∃ m,addN n s v=some m/\m.Kind=4/\m.Num=0/\m.Text=[]/\m.Kids.length=m.Names.length/\∀ r k,(r,k)∈m.Names.zip m.Kids<->(r,k)=(s,v)\/(r,k)∈n.Names.zip n.Kids:=by
 have hp:uF n s=none:=by
  have:=(DZ h).2 hs
  unfold lk at this
  simpa using this
 have hk:=h.kind
 refine ⟨af.mk 4 0 [] (insL n.Names (slt n s) s) (insL n.Kids (slt n s) v),?_,rfl,rfl,rfl,?_,fun r k => ?_⟩
 ·unfold addN
  rw [hp]
  simp only [hk,if_true,show ¬ ((4:Int)=3) by decide,if_false]
 ·show (insL n.Kids _ v).length=(insL n.Names _ s).length
  have:=h.len
  unfold insL
  simp; omega
 ·show (r,k)∈(insL n.Names (slt n s) s).zip (insL n.Kids (slt n s) v)<->_
  rw [Xj h.len.symm,KI]
theorem L9:∀ {l:List aG} (i:Nat),Asc l=true->Asc (l.take i)=true
  | _,0,_=>by simp [Asc]
  | [],i+1,_=>rfl
  | x::l,i+1,h=>by
    rw [List.take_succ_cons]
    exact Gx (L9 i (wW h)) (fun y hy=>yc h y (List.mem_of_mem_take hy))
theorem WY {n m v:af} {s:aG} (h:xO n) (hs:s ∉ n.Names) (hm:addN n s v=some m):Asc m.Names=true:=by
  have hp:uF n s=none:=by
    have:=(DZ h).2 hs
    unfold lk at this
    simpa using this
  have hk:=h.kind
  unfold addN at hm
  rw [hp] at hm
  simp only [hk,if_true,show ¬ ((4:Int)=3) by decide,if_false,Option.some.injEq] at hm
  subst hm
  show Asc (insL n.Names (slt n s) s)=true
  have hle:=PO n s
  have hl:=h.len
  have before:∀ i,i<slt n s->bl (n.Names.getD i default) s=true:=fun i hi=>by
    have h1:bl s (n.Names.getD i default)=false:=by
      unfold slt at hi
      cases hf:(List.range' 0 n.Kids.length).find? fun i=>bl s (n.Names.getD i default) with
      | none =>
        rw [hf] at hi
        exact Ba.1 hf i (by omega) (by simpa using hi)
      | some j =>
        rw [hf] at hi
        exact (wQ.1 hf).2.2.2 i (by omega) hi
    cases h2:bl (n.Names.getD i default) s with
    | true=>rfl
    | false=>exact absurd (getD_mem default (by omega:i<n.Names.length)) (by rw [yP h2 h1]; exact hs)
  have behind:∀ i,slt n s<=i->i<n.Names.length->bl s (n.Names.getD i default)=true:=fun i h1 h2=>by
    have h3:slt n s<n.Kids.length:=by omega
    have h4:bl s (n.Names.getD (slt n s) default)=true:=by
      unfold slt at h3 ⊢
      cases hf:(List.range' 0 n.Kids.length).find? fun i=>bl s (n.Names.getD i default) with
      | none=>rw [hf] at h3; simp at h3
      | some j=>exact (wQ.1 hf).2.2.1
    by_cases e:slt n s=i
    · rw [<- e]; exact h4
    · exact rV h4 (uX h.AX (slt n s) i (by omega) h2)
  generalize slt n s=p at *
  unfold insL
  have key:∀ (A S:List aG),Asc A=true->Asc S=true->(∀ x,x∈A->bl x s=true)->(∀ y,y∈S->bl s y=true)->Asc ((A++[s])++S)=true:=by
    intro A
    induction A with
    | nil=>intro S _ hS _ h2; exact Gx hS h2
    | cons a A ih =>
      intro S hA hS h1 h2
      rw [List.cons_append,List.cons_append]
      refine Gx (ih S (wW hA) hS (fun x hx=>h1 x (by simp [hx])) h2) (fun y hy => ?_)
      rcases List.mem_append.1 hy with hy | hy
      · rcases List.mem_append.1 hy with hy | hy
        · exact yc hA y hy
        · rw [List.mem_singleton] at hy; subst hy; exact h1 a (by simp)
      · exact rV (h1 a (by simp)) (h2 y hy)
  refine key _ _ (L9 p h.AX) (LZ p h.AX) (fun x hx => ?_) (fun y hy => ?_)
  · obtain ⟨i,hi,e⟩:=List.mem_iff_getElem.1 hx
    have hi2:i<p/\i<n.Names.length:=by simp at hi; omega
    have:=before i hi2.1
    rw [dh _ hi2.2] at this
    rw [<- e]; simpa using this
  · obtain ⟨i,hi,e⟩:=List.mem_iff_getElem.1 hy
    have hi2:p+i<n.Names.length:=by simp at hi; omega
    have:=behind (p+i) (by omega) hi2
    rw [dh _ hi2] at this
    rw [<- e]; simpa using this
end Go.Ab
end
section
namespace Go.Ab
open Go
set_option maxRecDepth 100000
theorem Vh {n c:af} {j:Nat} (s:aG):uF (xq n j c) s=uF n s:=by
 unfold uF
 have e:(xq n j c).Kids.length=n.Kids.length:=by simp [xq]
 rw [e]
 rfl
theorem UN {n c:af} {j:Nat} (h:j<n.Kids.length):(xq n j c).Kids.getD j default=c:=by
 simp [xq,List.getD,h]
end Go.Ab
end
section
namespace Go.Ab
open Go
set_option maxRecDepth 100000
abbrev N2 (x:af × af):Prop:=tC 60 x.1/\tC 60 x.2
end Go.Ab
end
section
namespace Go.Ab
open Go
set_option maxRecDepth 100000
structure Mp (m:af):Prop where
 map:xO m
 num:m.Num=0
 text:m.Text=[]
theorem YU {n:af} (h:Parts n=true) (hk:n.Kind=4):Mp n:=⟨(D5 h hk).1,(rq h hk).1,(rq h hk).2.1⟩
theorem X9 {m x:af} {s:aG} (h:lk m s=some x):∃ j,uF m s=some j/\m.Kids.getD j default=x:=by
 unfold lk at h
 exact Option.map_eq_some_iff.1 h
theorem YT {m:af} (h:xO m) {i:Nat} (hi:i<m.Kids.length):lk m (m.Names.getD i default)=some (m.Kids.getD i default):=by
 have hi':i<m.Names.length:=by rw [<- h.len]; exact hi
 rw [yA h,dh _ hi,dh _ hi']
 exact List.mem_iff_getElem.2 ⟨i,by simp; omega,by simp⟩
theorem Ny {m:af} (h:xO m) {i j:Nat} (hi:i<m.Names.length) (hj:j<m.Names.length) (e:m.Names.getD i default=m.Names.getD j default):i=j:=by
 rcases Nat.lt_trichotomy i j with k | k | k
 ·exact absurd e (xG (uX h.AX i j k hj))
 ·exact k
 ·exact absurd e.symm (xG (uX h.AX j i k hi))
theorem WZ {m y:af} {s:aG} {j:Nat} (h:xO m) (hj:uF m s=some j) (r:aG):lk (xq m j y) r=if r=s then some y else lk m r:=by
  unfold lk
  rw [Vh]
  by_cases e:r=s
  · subst e
    rw [if_pos rfl,hj,Option.map_some,UN (qp hj)]
  · rw [if_neg e]
    cases hr:uF m r with
    | none=>rfl
    | some i =>
      have hne:j ≠ i:=fun e2=>by
        subst e2
        have a:=Bv hj
        have b:=Bv hr
        rw [vC h.kind,beq_iff_eq] at a b
        exact e (b.symm.trans a)
      simp [xq,List.getD,List.getElem?_set,hne]
theorem W9 {m y:af} {j:Nat} (h:Mp m):Mp (xq m j y):=⟨⟨h.map.kind,h.map.AX,by show (m.Kids.set j y).length=m.Names.length; rw [List.length_set]; exact h.map.len⟩,h.num,h.text⟩
theorem Sv {α:Type} {l:List α} {k:Nat} {y:α} : y∈pI l k<->∃ i,∃ h:i<l.length,i ≠ k/\l[i]=y:=by
 unfold pI
 rw [List.mem_append,List.mem_take_iff_getElem,List.mem_drop_iff_getElem]
 constructor
 ·rintro (⟨i,h,e⟩ | ⟨i,h,e⟩)
  ·exact ⟨i,by omega,by omega,e⟩
  ·exact ⟨k+1+i,by omega,by omega,e⟩
 ·rintro ⟨i,h,hk,e⟩
  by_cases c:i<k
  ·exact .inl ⟨i,by omega,e⟩
  ·refine .inr ⟨i-(k+1),by omega,?_⟩
   have:k+1+(i-(k+1))=i:=by omega
   simp only [this]; exact e
theorem TE {α β:Type} {a:List α} {b:List β} {k:Nat} (h:a.length=b.length):(pI a k).zip (pI b k)=pI (a.zip b) k:=by
 unfold pI
 rw [List.zip_append (by simp [h])]
 have e1:(a.zip b).take k=(a.take k).zip (b.take k):=by rw [List.zip,List.take_zipWith]
 have e2:(a.zip b).drop (k+1)=(a.drop (k+1)).zip (b.drop (k+1)):=by rw [List.zip,List.drop_zipWith]
 rw [e1,e2]
theorem Yl {m:af} {s:aG} (h:xO m) (hs:s∈m.Names):∃ m',uM m s=some m'/\Mp m'/\∀ r,lk m' r=if r=s then none else lk m r:=by
 obtain ⟨x,hx⟩:=Option.isSome_iff_exists.1 ((UR h).2 hs)
 obtain ⟨j,hj,_⟩:=X9 hx
 obtain ⟨hjl,hjh,_⟩:=Am.1 hj
 rw [vC h.kind,beq_iff_eq] at hjh
 have hjn:j<m.Names.length:=by rw [<- h.len]; exact hjl
 have hM:xO (af.mk 4 0 [] (pI m.Names j) (pI m.Kids j)):=by
  refine ⟨rfl,rJ.2 ((rJ.1 h.AX).sublist (sV _ _)),?_⟩
  show (pI m.Kids j).length=(pI m.Names j).length
  rw [uZ hjl,uZ hjn,h.len]
 refine ⟨_,?_,⟨hM,rfl,rfl⟩,fun r => ?_⟩
 ·unfold uM
  rw [hj]
  simp only [h.kind,if_true]
 ·apply Option.ext
  intro x
  rw [yA hM]
  show (r,x)∈(pI m.Names j).zip (pI m.Kids j)<->_
  rw [TE h.len.symm,Sv]
  by_cases e:r=s
  ·rw [if_pos e]
   constructor
   ·rintro ⟨i,hi,hne,e2⟩
    have l1:i<m.Names.length:=by simp at hi; omega
    rw [List.getElem_zip,Prod.mk.injEq] at e2
    refine absurd (Ny h l1 hjn ?_) hne
    rw [dh _ l1,e2.1,hjh,e]
   ·intro e2; cases e2
  ·rw [if_neg e,yA h,List.mem_iff_getElem]
   constructor
   ·rintro ⟨i,hi,_,e2⟩
    exact ⟨i,hi,e2⟩
   ·rintro ⟨i,hi,e2⟩
    refine ⟨i,hi,fun c => ?_,e2⟩
    subst c
    rw [List.getElem_zip,Prod.mk.injEq] at e2
    rw [dh _ hjn,e2.1] at hjh
    exact e hjh
theorem XH {m v:af} {s:aG} (h:xO m) (hs:s ∉ m.Names):∃ m',addN m s v=some m'/\Mp m'/\∀ r,lk m' r=if r=s then some v else lk m r:=by
 obtain ⟨m',e,k1,k2,k3,k4,k5⟩:=TR (v:=v) h hs
 have hM:xO m':=⟨k1,WY h hs e,k4⟩
 refine ⟨m',e,⟨hM,k2,k3⟩,fun r => ?_⟩
 apply Option.ext
 intro x
 rw [yA hM,k5]
 by_cases c:r=s
 ·rw [if_pos c]
  constructor
  ·rintro (q | q)
   ·rw [Prod.mk.injEq] at q; rw [q.2]
   ·have:=(DZ h).2 hs
    rw [<- yA h,c,this] at q
    cases q
  ·intro q; cases q; exact .inl (by rw [c])
 ·rw [if_neg c,yA h]
  constructor
  ·rintro (q | q)
   ·rw [Prod.mk.injEq] at q; exact absurd q.1 c
   ·exact q
  ·exact .inr
theorem xX {l:List aG} {i:Nat} (h:i<l.length) {r:aG} : r∈l.take (i+1)<->r∈l.take i\/r=l.getD i default:=by
 rw [List.take_succ_eq_append_getElem h,List.mem_append,List.mem_singleton,dh _ h]
theorem Va {m:af} (h:xO m) {i:Nat} (hi:i<m.Names.length):m.Names.getD i default ∉ m.Names.take i:=by
 intro c
 obtain ⟨j,hj,e⟩:=List.mem_take_iff_getElem.1 c
 have hj':j<m.Names.length:=by omega
 have:=Ny h hj' hi (by rw [dh _ hj']; exact e)
 omega
end Go.Ab
end
section
namespace Go.Ab
open Go
set_option maxRecDepth 100000
set_option linter.unusedSectionVars false
theorem T.bs {n:af} (s:aG) (h:xO n) (hl:n.Names.length<=1000):∃ p:Nat,Ev (fun f=>G.slices_BinarySearch_string f n.Names s) ((p:Int),(uF n s).isSome)/\∀ j,uF n s=some j->p=j:=by
  obtain ⟨p,g,hp⟩:=T.slices_BinarySearch_string s (by unfold big; omega) h.AX
  have hpl:=KX h.kind h.AX h.len hp
  cases hc:decide (p<n.Names.length)&&n.Names.getD p default==s with
  | true =>
    rw [hc] at g hpl
    rw [if_pos rfl] at hpl
    refine ⟨p,by rw [hpl]; exact g,fun j hj => ?_⟩
    rw [hpl] at hj
    exact Option.some.inj hj
  | false =>
    rw [hc] at g hpl
    rw [if_neg (by simp)] at hpl
    refine ⟨p,by rw [hpl]; exact g,fun j hj => ?_⟩
    rw [hpl] at hj
    cases hj
end Go.Ab
end
section
namespace Go.Ab
open Go
set_option maxRecDepth 100000
theorem N2.fine {x:af × af} (h:N2 x):∃ D E,Fine 60 D x.1/\Fine 60 E x.2:=by
 obtain ⟨⟨D,h1⟩,⟨E,h2⟩⟩:=h
 exact ⟨D,E,h1,h2⟩
end Go.Ab
end
section
namespace Go.Ab
open Go
set_option maxRecDepth 100000
set_option linter.unusedSectionVars false
structure MF (D c:Nat) (m:af):Prop where
 mp:Mp m
 cnt:m.Names.length<=c
 sh:∀ s,s∈m.Names->s.length<=12
 kid:∀ k,k∈m.Kids->Fine 12 D k
theorem MF.fine {D c:Nat} {m:af} (h:MF D c m) (hc:c<=12):Fine 12 (D+1) m:=by
 have h1:=h.cnt
 have h2:=h.mp.map.len
 exact ⟨by rw [h.mp.text]; simp,by omega,h.sh,by omega,fun _=>by omega,h.kid⟩
theorem Ph {α:Type} {l:List α} {k:Nat} {v:α} (h:k<=l.length):(insL l k v).length=l.length+1:=by unfold insL; simp; omega
theorem JL {m v:af} {s:aG} {j:Nat} (h:xO m) (hj:uF m s=some j):addN m s v=some (xq m j v):=by
 unfold addN
 rw [hj]
 simp [h.kind]
theorem LM {m v:af} {s:aG} (h:xO m) (hj:uF m s=none):addN m s v=some (af.mk 4 0 [] (insL m.Names (slt m s) s) (insL m.Kids (slt m s) v)):=by
 unfold addN
 rw [hj]
 simp [h.kind]
theorem KY {m:af} {s:aG} (h:xO m):uF m s=none<->s ∉ m.Names:=by
 rw [<- DZ h]
 unfold lk
 simp
theorem Yc {D c:Nat} {m v:af} {s:aG} (h:MF D c m) (hs:s.length<=12) (hv:Fine 12 D v) :
    ∃ m',addN m s v=some m'/\MF D (c+1) m'/\∀ r,lk m' r=if r=s then some v else lk m r:=by
  cases hj:uF m s with
  | some j =>
    refine ⟨xq m j v,JL h.mp.map hj,⟨W9 h.mp,Nat.le_succ_of_le h.cnt,h.sh,fun k hk => ?_⟩,WZ h.mp.map hj⟩
    rcases List.mem_or_eq_of_mem_set hk with q | q
    · exact h.kid k q
    · exact q ▸ hv
  | none =>
    obtain ⟨m',e,g1,g2⟩:=XH (v:=v) h.mp.map ((KY h.mp.map).1 hj)
    refine ⟨m',e,?_,g2⟩
    rw [LM h.mp.map hj,Option.some.injEq] at e
    subst e
    have hsl:=PO m s
    have hl:=h.mp.map.len
    refine ⟨g1,?_,fun t ht => ?_,fun k hk => ?_⟩
    · show (insL m.Names (slt m s) s).length<=_
      rw [Ph (by omega)]
      have:=h.cnt
      omega
    · rcases KI.1 ht with q | q
      · exact q ▸ hs
      · exact h.sh t q
    · rcases KI.1 hk with q | q
      · exact q ▸ hv
      · exact h.kid k q
theorem Yd {D c:Nat} {m:af} {s:aG} (h:MF D c m):MF D c ((uM m s).getD m)/\∀ r,lk ((uM m s).getD m) r=if r=s then none else lk m r:=by
  cases hj:uF m s with
  | none =>
    have:uM m s=none:=by unfold uM; rw [hj]
    rw [this]
    refine ⟨h,fun r => ?_⟩
    by_cases c:r=s
    · rw [if_pos c,c]
      exact (DZ h.mp.map).2 ((KY h.mp.map).1 hj)
    · rw [if_neg c]; rfl
  | some j =>
    have hs:s∈m.Names:=by
      apply Classical.byContradiction
      intro q
      rw [(KY h.mp.map).2 q] at hj
      cases hj
    obtain ⟨m',e,g1,g2⟩:=Yl h.mp.map hs
    rw [e]
    refine ⟨?_,g2⟩
    unfold uM at e
    rw [hj] at e
    simp only [h.mp.map.kind,if_true,Option.some.injEq] at e
    subst e
    have hjl:=qp hj
    refine ⟨g1,?_,fun t ht=>h.sh t ((sV _ _).subset ht),fun k hk=>h.kid k ((sV _ _).subset hk)⟩
    show (pI m.Names j).length<=c
    have:=h.mp.map.len
    rw [uZ (by omega)]
    have:=h.cnt
    omega
theorem T.PE {n v:af} (s:aG) (h:Mp n) (hn:n.Names.length<=1000):∃ m,addN n s v=some m/\Ev (fun f=>G.kM f n s v) m:=by
  have hk:=h.map.kind
  have hkl:=h.map.len
  obtain ⟨p,g,hlb⟩:=T.slices_BinarySearch_string s (by unfold big; omega) h.map.AX
  have hpl:=KX hk h.map.AX hkl hlb
  have YJ:=hlb.le
  cases hc:decide (p<n.Names.length)&&n.Names.getD p default==s with
  | true =>
    rw [hc,if_pos rfl] at hpl
    refine ⟨xq n p v,JL h.map hpl,Ev.up ?_⟩
    simp only [G.kM]
    have:=qp hpl
    refine Ev.bind g (Ev.ct hc (Ev.chk (by omega) (Ev.ret' ?_)))
    rw [Int.toNat_natCast]; rfl
  | false =>
    rw [hc,if_neg (by simp)] at hpl
    have hsl:=Vw h.map.AX hkl hlb hc
    refine ⟨af.mk 4 0 [] (insL n.Names p s) (insL n.Kids p v),by rw [LM h.map hpl,hsl],Ev.up ?_⟩
    simp only [G.kM]
    refine Ev.bind g (Ev.cf hc ?_)
    have i1:Ev (fun f=>G.iw f n.Names (p:Int) [s]) (insL n.Names p s):=by
      refine Ev.up ?_
      simp only [G.iw]
      refine Ev.chk (by simp; omega) (Ev.ret' ?_)
      rw [Int.toNat_natCast]; rfl
    have i2:Ev (fun f=>G.dm f n.Kids (p:Int) [v]) (insL n.Kids p v):=by
      refine Ev.up ?_
      simp only [G.dm]
      refine Ev.chk (by simp; omega) (Ev.ret' ?_)
      rw [Int.toNat_natCast]; rfl
    exact Ev.bind i1 (Ev.bind i2 (Ev.ret' (by rw [h.num,h.text,hk])))
theorem T.Uk {n:af} (s:aG) (h:Mp n) (hn:n.Names.length<=1000):Ev (fun f=>G.nR f n s) ((uM n s).getD n):=by
  have hkl:=h.map.len
  obtain ⟨p,g,hp⟩:=T.bs s h.map hn
  refine Ev.up ?_
  simp only [G.nR]
  refine Ev.bind g ?_
  unfold uM
  cases hj:uF n s with
  | none=>exact Ev.cf rfl (Ev.ret _)
  | some j =>
    have e:=hp j hj
    subst e
    have hpl:=qp hj
    simp only [bP (show p+1<9223372036854775808 by omega)]
    have d1:Ev (fun f=>G.dN f n.Kids (p:Int) ((p+1:Nat):Int)) (pI n.Kids p):=by
      refine Ev.up ?_
      simp only [G.dN,Int.toNat_natCast]
      exact Ev.chk (by omega) (Ev.ret _)
    have d2:Ev (fun f=>G.slices_Delete_string f n.Names (p:Int) ((p+1:Nat):Int)) (pI n.Names p):=by
      refine Ev.up ?_
      simp only [G.slices_Delete_string,Int.toNat_natCast]
      exact Ev.chk (by omega) (Ev.ret _)
    refine Ev.ct rfl (Ev.bind d2 (Ev.bind d1 (Ev.ret' ?_)))
    simp [h.map.kind,h.num,h.text]
def NJ (m:af) (s:aG) (v:af):af:=(addN m s v).getD m
theorem Yb {D:Nat} : MF D 0 YD:=⟨⟨⟨rfl,rfl,rfl⟩,rfl,rfl⟩,Nat.le_refl _,(fun s hs=>by cases hs),(fun k hk=>by cases hk)⟩
structure MS (d:Nat) (a:af):Prop where
 mp:Mp a
 sh:Shape (d+1) a=true
 len:a.Names.length<=6
 txt:∀ s,s∈a.Names->s.length<=12
theorem Qu {d:Nat} {a:af} (h:Shape (d+1) a=true) (hk:a.Kind=4):MS d a:=by
 obtain ⟨_,h2,h3⟩:=D5 (lV h) hk
 exact ⟨YU (lV h) hk,h,h2,h3⟩
theorem MS.name {d:Nat} {a:af} (h:MS d a) {i:Nat} (hi:i<a.Kids.length):(a.Names.getD i default).length<=12:=h.txt _ (getD_mem default (by rw [<- h.mp.map.len]; exact hi))
theorem MS.mf {d:Nat} {a:af} (h:MS d a):MF d 6 a:=⟨h.mp,h.len,h.txt,fun k hk=>pR (nX h.sh k hk)⟩
theorem D6 {D E c e:Nat} {m:af} (h:MF D c m) (hD:D<=E) (hc:c<=e):MF E e m:=⟨h.mp,Nat.le_trans h.cnt hc,h.sh,fun k hk=>(h.kid k hk).mono (Nat.le_refl _) hD⟩
theorem PG {D c:Nat} {m v:af} {s:aG} (h:MF D c m) (hs:s.length<=12) (hv:Fine 12 D v):addN m s v=some (NJ m s v)/\MF D (c+1) (NJ m s v)/\∀ r,lk (NJ m s v) r=if r=s then some v else lk m r:=by
 obtain ⟨m',e,h1,h2⟩:=Yc h hs hv
 have:NJ m s v=m':=by unfold NJ; rw [e]; rfl
 rw [this]
 exact ⟨e,h1,h2⟩
theorem zf (k:Nat):List.range' 0 (k+1)=List.range' 0 k++[k]:=by rw [List.range'_concat]; simp
theorem EX {a:af} (h:xO a) {i:Nat} (hi:i<a.Kids.length):a.Names.getD i default ∉ a.Names.take i:=Va h (by rw [<- h.len]; exact hi)
def FX (F:af->af->af) (p m:af) (i:Nat):af :=
 if (p.Kids.getD i default).Kind=0 then (uM m (p.Names.getD i default)).getD m else NJ m (p.Names.getD i default) (F ((lk m (p.Names.getD i default)).getD mX) (p.Kids.getD i default))
def Et (n:af):af:=if n.Kind=4 then n else YD
def Bj:Nat->af->af->af
 | 0,_,p=>p
 | d+1,n,p=>if p.Kind=4 then (List.range' 0 p.Kids.length).foldl (FX (Bj d) p) (Et n) else p
theorem Ih {d:Nat} {n p:af} : Bj (d+1) n p=if p.Kind=4 then (List.range' 0 p.Kids.length).foldl (FX (Bj d) p) (Et n) else p:=by rw [Bj]
def Ye (F:af->af->af) (n0 p:af) (r:aG):Option af:=match lk p r with
 | none=>lk n0 r
 | some q=>if q.Kind=0 then none else some (F ((lk n0 r).getD mX) q)
theorem ES {d D c:Nat} {n0 p:af} {F:af->af->af} (mp:MS d p) (h0:MF D c n0) {Q:af->Prop} (hQ:Q mX) (hq:∀ k,k∈n0.Kids->Q k) (hF:∀ o q,Q o->Shape d q=true->Fine 12 D (F o q)) :
    ∀ i,i<=p.Kids.length->MF D (c+i) ((List.range' 0 i).foldl (FX F p) n0)/\∀ r,lk ((List.range' 0 i).foldl (FX F p) n0) r=if r∈p.Names.take i then Ye F n0 p r else lk n0 r:=by
  intro i
  induction i with
  | zero=>intro _; exact ⟨h0,fun r=>by simp⟩
  | succ i ih =>
    intro hi
    obtain ⟨h1,h2⟩:=ih (by omega)
    have hi':i<p.Kids.length:=by omega
    have hin:i<p.Names.length:=by rw [<- mp.mp.map.len]; exact hi'
    have hx:=YT mp.mp.map hi'
    have hnt:=EX mp.mp.map hi'
    rw [zf,List.foldl_append,List.foldl_cons,List.foldl_nil]
    generalize (List.range' 0 i).foldl (FX F p) n0=m at h1 h2 ⊢
    have hms:lk m (p.Names.getD i default)=lk n0 (p.Names.getD i default):=by rw [h2,if_neg hnt]
    have fin:∀ (m':af),(∀ r,lk m' r=if r=p.Names.getD i default then Ye F n0 p (p.Names.getD i default) else lk m r)->∀ r,lk m' r=if r∈p.Names.take (i+1) then Ye F n0 p r else lk n0 r:=fun m' g r=>by
      rw [g]
      by_cases c:r=p.Names.getD i default
      · rw [if_pos c,if_pos ((xX hin).2 (.inr c)),c]
      · rw [if_neg c,h2]
        by_cases q:r∈p.Names.take i
        · rw [if_pos q,if_pos ((xX hin).2 (.inl q))]
        · rw [if_neg q,if_neg (fun z=>((xX hin).1 z).elim q c)]
    unfold FX
    by_cases c:(p.Kids.getD i default).Kind=0
    · rw [if_pos c]
      obtain ⟨g1,g2⟩:=Yd (s:=p.Names.getD i default) h1
      refine ⟨D6 g1 (Nat.le_refl _) (by omega),fin _ (fun r => ?_)⟩
      rw [g2]
      have:Ye F n0 p (p.Names.getD i default)=none:=by unfold Ye; rw [hx]; simp only [if_pos c]
      rw [this]
    · rw [if_neg c,hms]
      have hold:Q ((lk n0 (p.Names.getD i default)).getD mX):=by
        cases hl:lk n0 (p.Names.getD i default) with
        | none=>exact hQ
        | some x=>exact hq _ (Pm hl)
      obtain ⟨_,g1,g2⟩:=PG h1 (mp.name hi') (hF _ _ hold (rC mp.sh hi'))
      refine ⟨g1,fin _ (fun r => ?_)⟩
      rw [g2]
      have:Ye F n0 p (p.Names.getD i default)=some (F ((lk n0 (p.Names.getD i default)).getD mX) (p.Kids.getD i default)):=by unfold Ye; rw [hx]; simp only [if_neg c]
      rw [this]
end Go.Ab
end
section
namespace Go.Ab
open Go
set_option maxRecDepth 100000
set_option linter.unusedSectionVars false
abbrev ShN (E:Nat) (n:af):Prop:=Shape E n=true\/n=mX
theorem Oz {E:Nat} {n:af} (h:ShN E n):∃ e,(e+1=E\/e=0)/\MF e 6 (Et n)/\∀ k,k∈(Et n).Kids->ShN e k:=by
 unfold Et
 by_cases hk:n.Kind=4
 ·rw [if_pos hk]
  rcases h with h | h
  ·cases E with
   | zero=>cases h
   | succ e=>exact ⟨e,.inl rfl,(Qu h hk).mf,fun k hk' => .inl (nX h k hk')⟩
  ·rw [h] at hk; cases hk
 ·rw [if_neg hk]
  exact ⟨0,.inr rfl,D6 Yb (Nat.le_refl _) (by omega),fun k hk'=>by cases hk'⟩
theorem D7:∀ (d:Nat) {E:Nat} {n p:af},Shape d p=true->ShN E n->Fine 12 (d+E+1) (Bj d n p)
  | 0,_,_,_,h,_=>by cases h
  | d+1,E,n,p,hp,hn=>by
    rw [Ih]
    by_cases h4:p.Kind=4
    · rw [if_pos h4]
      have mp:=Qu hp h4
      obtain ⟨e,he,hb,hk⟩:=Oz hn
      have h:=(ES (F:=Bj d) (D:=d+e+1) mp (D6 hb (by omega) (Nat.le_refl _)) (Q:=ShN e) (.inr rfl) hk (fun o q ho hq=>D7 d hq ho) p.Kids.length (Nat.le_refl _)).1
      have:=mp.len
      have:=mp.mp.map.len
      exact (h.fine (by omega)).mono (Nat.le_refl _) (by omega)
    · rw [if_neg h4]
      exact (pR hp).mono (Nat.le_refl _) (by omega)
end Go.Ab
end
section
namespace Go.Ab
open Go
set_option maxRecDepth 100000
set_option linter.unusedSectionVars false
section
variable {d e:Nat} {n0 p:af} (mp:MS d p) (h0:MF (d+e+1) 6 n0) (hq:∀ k,k∈n0.Kids->ShN e k) (hd:d<=5)
include mp h0 hq hd
theorem T.yX.L4 (hs:∀ o q,ShN e o->Shape d q=true->Ev (fun f=>G.bC f o q) (Bj d o q)):∀ (t i:Nat),i+t=p.Kids.length ->
    Ev (fun f=>G.bC.L4 f p (i:Int) ((List.range' 0 i).foldl (FX (Bj d) p) n0).Kind ((List.range' 0 i).foldl (FX (Bj d) p) n0).Num ((List.range' 0 i).foldl (FX (Bj d) p) n0).Text ((List.range' 0 i).foldl (FX (Bj d) p) n0).Names ((List.range' 0 i).foldl (FX (Bj d) p) n0).Kids) ((List.range' 0 p.Kids.length).foldl (FX (Bj d) p) n0):=by
  have hl:=mp.len
  have hk:=mp.mp.map.len
  intro t
  induction t with
  | zero =>
    intro i hi
    have:i=p.Kids.length:=by omega
    subst this
    refine Ev.up ?_
    simp only [G.bC.L4]
    exact Ev.cf (decide_eq_false (by omega)) (Ev.ret' (af.eta _))
  | succ t ih =>
    intro i hi
    have hn:=ih (i+1) (by omega)
    rw [zf,List.foldl_append,List.foldl_cons,List.foldl_nil] at hn
    have hF:=fun (o q:af) (ho:ShN e o) (hq:Shape d q=true)=>D7 d hq ho
    obtain ⟨h1,h2⟩:=ES mp h0 (Q:=ShN e) (.inr rfl) hq hF i (by omega)
    generalize (List.range' 0 i).foldl (FX (Bj d) p) n0=m at h1 h2 hn ⊢
    have hi':i<p.Kids.length:=by omega
    have hx:=rC mp.sh hi'
    have hc:=h1.cnt
    have hms:lk m (p.Names.getD i default)=lk n0 (p.Names.getD i default):=by rw [h2,if_neg (EX mp.mp.map hi')]
    obtain ⟨q,gq,hqj⟩:=T.bs (p.Names.getD i default) h1.mp.map (by omega)
    refine Ev.up ?_
    simp only [G.bC.L4,Int.toNat_natCast,bP (show i+1<9223372036854775808 by omega),af.eta]
    unfold FX at hn
    refine Ev.ct (decide_eq_true (by omega)) (Ev.chk (by omega) (Ev.chk (by omega) ?_))
    by_cases c:(p.Kids.getD i default).Kind=0
    · rw [if_pos c] at hn
      exact Ev.ct (by simpa using c) (Ev.bind (T.Uk _ h1.mp (by omega)) hn)
    · rw [if_neg c] at hn
      have fin:∀ o,o=(lk m (p.Names.getD i default)).getD mX->Ev (fun f=>G.bC.K5 f p (i:Int) m.Kind m.Num m.Text m.Names m.Kids o.Kind o.Num o.Text o.Names o.Kids) ((List.range' 0 p.Kids.length).foldl (FX (Bj d) p) n0):=fun o ho=>by
        have hso:ShN e o:=by
          rw [ho,hms]
          cases hl':lk n0 (p.Names.getD i default) with
          | none=>exact .inr rfl
          | some x=>exact hq x (Pm hl')
        have hf:=hF _ _ hso hx
        obtain ⟨g1,_⟩:=PG h1 (mp.name hi') hf
        obtain ⟨m',g2,g3⟩:=T.PE (v:=Bj d o (p.Kids.getD i default)) (p.Names.getD i default) h1.mp (by omega)
        rw [g1] at g2
        cases g2
        rw [<- ho] at hn
        refine Ev.up ?_
        simp only [G.bC.K5,Int.toNat_natCast,bP (show i+1<9223372036854775808 by omega),af.eta]
        exact Ev.chk (by omega) (Ev.bind (hs _ _ hso hx) (Ev.bind g3 hn))
      refine Ev.cf (by simpa using c) (Ev.bind gq ?_)
      cases hj:uF m (p.Names.getD i default) with
      | none=>exact Ev.cf rfl (fin mX (by unfold lk; rw [hj]; rfl))
      | some j =>
        have ej:=hqj j hj
        subst ej
        have hjl:=qp hj
        simp only [Int.toNat_natCast]
        exact Ev.ct rfl (Ev.chk (by omega) (fin (m.Kids.getD q default) (by unfold lk; rw [hj]; rfl)))
end
theorem T.yX:∀ (d:Nat) {E:Nat} {n p:af},d<=5->Shape d p=true->ShN E n->Ev (fun f=>G.bC f n p) (Bj d n p)
  | 0,_,_,_,_,h,_=>by cases h
  | d+1,E,n,p,hd,hp,hn=>by
    refine Ev.up ?_
    simp only [G.bC]
    rw [Ih]
    refine Ev.ite (fun c => ?_) (fun c => ?_)
    · have:¬ p.Kind=4:=by simpa using c
      rw [if_neg this]
      exact Ev.bind (T.aF rH (pR hp)) (Ev.ret _)
    · have kp:p.Kind=4:=by simpa using c
      rw [if_pos kp]
      have mp:=Qu hp kp
      obtain ⟨e,he,hb,hq⟩:=Oz hn
      have L:=T.yX.L4 mp (D6 hb (by omega:e<=d+e+1) (Nat.le_refl _)) hq (by omega) (fun o q ho hq=>T.yX d (by omega) hq ho) p.Kids.length 0 (by omega)
      have L':Ev (fun f=>G.bC.K1 f p (Et n).Kind (Et n).Num (Et n).Text (Et n).Names (Et n).Kids) ((List.range' 0 p.Kids.length).foldl (FX (Bj d) p) (Et n)):=by
        refine Ev.up ?_
        simp only [G.bC.K1]
        exact L
      unfold Et at L' ⊢
      refine Ev.ite (fun c => ?_) (fun c => ?_)
      · have kn:n.Kind=4:=by simpa using c
        rw [if_pos kn] at L' ⊢
        have hf:Fine 12 E n:=by
          rcases hn with h | h
          · exact pR h
          · rw [h] at kn; cases kn
        exact Ev.bind (T.aF rH hf) L'
      · have kn:¬ n.Kind=4:=by simpa using c
        rw [if_neg kn] at L' ⊢
        exact L'
theorem T.jZ {D E:Nat} {n p:af} (hn:Fine 60 D n) (hp:Fine 60 E p):Ev (fun f=>G.jZ f n p) (jT (if Val n&&Val p then (some (Bj 5 n p)).filter Val else none)):=by
 refine Ev.up ?_
 simp only [G.jZ]
 refine Ev.bind (T.aO lW hn) (Ev.ite (fun e1 => ?_) (fun e1=>Ev.ret' (by rw [e1]; rfl)))
 refine Ev.bind (T.aO lW hp) (Ev.ite (fun e2 => ?_) (fun e2=>Ev.ret' (by rw [e1,e2]; rfl)))
 have gp:=T.yX 5 (by omega) (kZ e2) (.inl (kZ e1))
 have gc:=T.kL (o:=some (Bj 5 n p)) rH (fun m hm=>by cases hm; exact D7 5 (kZ e2) (.inl (kZ e1)))
 rw [e1,e2]
 exact Ev.bind gp (Ev.bind gc (Ev.ret _))
end Go.Ab
end
section
namespace Go.Ab
open Go
set_option maxRecDepth 100000
def Qy (b:UInt8):Bool:=(decide (97<=b.toNat)&&decide (b.toNat<=122))||(decide (48<=b.toNat)&&decide (b.toNat<=57))
def LJ (s:aG):Bool:=s.all Qy&&(decide (1<=s.length)&&decide (s.length<=8))
def Oe (c:Int) (it:aA):Bool:=LJ it.Name&&(Val it.Node&&(decide (1<=it.Version)&&decide (it.Version<=c)))
def rX (l:List aA):List aG:=l.map fun it=>it.Name
def uj (s:StoreT):Bool:=(s.Items.all (Oe s.Clock)&&Asc (rX s.Items))&&(decide (s.Items.length<=10)&&(decide (0<=s.Clock)&&decide (s.Clock<=999)))
structure qg (B:Nat) (s:StoreT):Prop where
 len:s.Items.length<=B
 IY:∀ it,it∈s.Items->it.Name.length<=B
 Px:∀ it,it∈s.Items->tC B it.Node
theorem qW {l:List aA} : (rX l).length=l.length:=by unfold rX; rw [List.length_map]
theorem vV {l:List aA} {i:Nat} (h:i<l.length):(rX l).getD i default=(l.getD i default).Name:=by
 rw [dh _ (by rw [qW]; exact h),dh _ h]
 unfold rX
 rw [List.getElem_map]
theorem L8 {l:List aG} {i:Nat} (h0:0<i) (h:i<l.length):Asc (l.drop (i-1))=(bl (l.getD (i-1) default) (l.getD i default)&&Asc (l.drop i)):=by
 rw [drop_pred h0 h,Asc,bT (default:aG) h]
theorem Qa {l:List aG} {i:Nat} (h:l.length<=i):Asc (l.drop (i-1))=true:=by
 by_cases h0:l.length<=i-1
 ·rw [List.drop_of_length_le h0]; rfl
 ·rw [bT (default:aG) (by omega:i-1<l.length),List.drop_of_length_le (by omega)]; rfl
theorem T.eF.L1 (s:aG) (hs:s.length<big):∀ (k i:Nat),i+k=s.length->Ev (fun f=>G.eF.L1 f s i) ((s.drop i).all Qy&&(decide (1<=s.length)&&decide (s.length<=8))):=by
  unfold big at hs
  intro k
  induction k with
  | zero =>
    intro i hi
    refine Ev.up ?_
    simp only [G.eF.L1]
    refine Ev.cf (decide_eq_false (by omega)) (Ev.bind (T.dW _ _ _) (Ev.ret' ?_))
    rw [List.drop_of_length_le (by omega),List.all_nil,Bool.true_and]
    congr 1<;>(apply decide_eq_decide.2; omega)
  | succ k ih =>
    intro i hi
    refine Ev.up ?_
    simp only [G.eF.L1,Int.toNat_natCast,yt,bP (show i+1<9223372036854775808 by omega)]
    rw [bT (0:UInt8) (by omega:i<s.length),List.all_cons]
    have e1:(decide ((97:Int)<=((s.getD i 0).toNat:Int))&&decide (((s.getD i 0).toNat:Int)<=122))=(decide (97<=(s.getD i 0).toNat)&&decide ((s.getD i 0).toNat<=122)):=by congr 1<;>(apply decide_eq_decide.2; omega)
    have e2:(decide ((48:Int)<=((s.getD i 0).toNat:Int))&&decide (((s.getD i 0).toNat:Int)<=57))=(decide (48<=(s.getD i 0).toNat)&&decide ((s.getD i 0).toNat<=57)):=by congr 1<;>(apply decide_eq_decide.2; omega)
    refine Ev.ct (decide_eq_true (by omega)) (Ev.chk (by omega) (Ev.bind (T.dW _ _ _) ?_))
    rw [e1]
    refine Ev.ite (fun h => ?_) (fun h => ?_)
    · refine (ih (i+1) (by omega)).eq ?_
      unfold Qy
      rw [show (decide (97<=(s.getD i 0).toNat)&&decide ((s.getD i 0).toNat<=122))=true from h,Bool.true_or,Bool.true_and]
    · refine Ev.chk (by omega) (Ev.bind (T.dW _ _ _) ?_)
      rw [e2]
      refine Ev.ite (fun h2 => ?_) (fun h2=>Ev.ret' ?_)
      · refine (ih (i+1) (by omega)).eq ?_
        unfold Qy
        rw [show (decide (48<=(s.getD i 0).toNat)&&decide ((s.getD i 0).toNat<=57))=true from h2,Bool.or_true,Bool.true_and]
      · unfold Qy
        rw [show (decide (97<=(s.getD i 0).toNat)&&decide ((s.getD i 0).toNat<=122))=false from h,show (decide (48<=(s.getD i 0).toNat)&&decide ((s.getD i 0).toNat<=57))=false from h2]
        rfl
theorem T.eF (s:aG) (hs:s.length<big):Ev (fun f=>G.eF f s) (LJ s):=by
 refine Ev.up ?_
 simp only [G.eF]
 exact T.eF.L1 s hs s.length 0 (by omega)
theorem T.iG.L1 (s:aG) (hs:s.length<big):∀ (k i:Nat),i+k=s.length->Ev (fun f=>G.iG.L1 f s i) ((s.drop i).all Qy):=by
  unfold big at hs
  intro k
  induction k with
  | zero =>
    intro i hi
    refine Ev.up ?_
    simp only [G.iG.L1]
    refine Ev.cf (decide_eq_false (by omega)) (Ev.ret' ?_)
    rw [List.drop_of_length_le (by omega)]; rfl
  | succ k ih =>
    intro i hi
    refine Ev.up ?_
    simp only [G.iG.L1,Int.toNat_natCast,bP (show i+1<9223372036854775808 by omega)]
    rw [bT (0:UInt8) (by omega:i<s.length),List.all_cons]
    have yes:Qy (s.getD i 0)=true->Ev (fun f=>G.iG.L1 f s ((i+1:Nat):Int)) (Qy (s.getD i 0)&&(s.drop (i+1)).all Qy):=fun h=>(ih (i+1) (by omega)).eq (by rw [h]; rfl)
    have no:Qy (s.getD i 0)=false->Ev (fun _=>some false) (Qy (s.getD i 0)&&(s.drop (i+1)).all Qy):=fun h=>Ev.ret' (by rw [h]; rfl)
    have ok:Qy (s.getD i 0)=decide ((97<=(s.getD i 0).toNat/\(s.getD i 0).toNat<=122)\/(48<=(s.getD i 0).toNat/\(s.getD i 0).toNat<=57)):=by unfold Qy; simp
    refine Ev.ct (decide_eq_true (by omega)) (Ev.chk (by omega) ?_)
    refine Ev.ite (fun h => ?_) (fun h => ?_)
    · simp only [decide_eq_true_eq] at h
      refine Ev.chk (by omega) (Ev.ite (fun h2 => ?_) (fun h2 => ?_))
      · simp only [decide_eq_true_eq] at h2
        exact no (by rw [ok]; exact decide_eq_false (by omega))
      · simp only [decide_eq_false_iff_not] at h2
        refine Ev.chk (by omega) (Ev.ite (fun h3 => ?_) (fun h3 => ?_))
        · simp only [decide_eq_true_eq] at h3
          exact no (by rw [ok]; exact decide_eq_false (by omega))
        · simp only [decide_eq_false_iff_not] at h3
          exact yes (by rw [ok]; exact decide_eq_true (by omega))
    · simp only [decide_eq_false_iff_not] at h
      refine Ev.chk (by omega) (Ev.ite (fun h2 => ?_) (fun h2 => ?_))
      · simp only [decide_eq_true_eq] at h2
        refine Ev.chk (by omega) (Ev.cf (decide_eq_false (by omega)) (Ev.chk (by omega) (Ev.ct (decide_eq_true (by omega)) ?_)))
        exact no (by rw [ok]; exact decide_eq_false (by omega))
      · simp only [decide_eq_false_iff_not] at h2
        exact yes (by rw [ok]; exact decide_eq_true (by omega))
theorem T.iG (s:aG) (hs:s.length<big):Ev (fun f=>G.iG f s) (LJ s):=by
 refine Ev.up ?_
 simp only [G.iG]
 unfold LJ
 refine Ev.ite (fun h=>Ev.ret' ?_) (fun h=>Ev.ite (fun h2=>Ev.ret' ?_) (fun h2 => ?_))
 ·have:s=[]:=by simpa using h
  subst this; rfl
 ·simp only [decide_eq_true_eq] at h2
  rw [decide_eq_false (show ¬ s.length<=8 by omega),Bool.and_false,Bool.and_false]
 ·simp only [decide_eq_false_iff_not] at h2
  have hne:s ≠ []:=by simpa using h
  have hl:1<=s.length:=by cases s with
   | nil=>exact absurd rfl hne
   | cons _ _=>simp
  refine (T.iG.L1 s hs s.length 0 (by omega)).eq ?_
  rw [decide_eq_true hl,decide_eq_true (show s.length<=8 by omega),List.drop_zero]
  simp
theorem qg.at_ {B:Nat} {s:StoreT} (h:qg B s) {i:Nat} (hi:i<s.Items.length):(s.Items.getD i default).Name.length<=B/\tC B (s.Items.getD i default).Node :=
 ⟨h.IY _ (getD_mem default hi),h.Px _ (getD_mem default hi)⟩
section
variable {B:Nat} {s:StoreT} (hB:B<=lim) (h:qg B s)
include hB h
theorem T.aY.L1:∀ (k i:Nat),i+k=s.Items.length->Ev (fun f=>G.aY.L1 f s i) (((s.Items.drop i).all (Oe s.Clock)&&Asc ((rX s.Items).drop (i-1)))&&(decide (s.Items.length<=10)&&(decide (0<=s.Clock)&&decide (s.Clock<=999)))):=by
  have hl:=h.len
  unfold lim at hB
  intro k
  induction k with
  | zero =>
    intro i hi
    refine Ev.up ?_
    simp only [G.aY.L1]
    rw [List.drop_of_length_le (by omega),Qa (by rw [qW]; omega)]
    refine Ev.cf (decide_eq_false (by omega)) (Ev.ite (fun e => ?_) (fun e=>Ev.ret' ?_))
    · refine Ev.bind (T.dW _ _ _) (Ev.ret' ?_)
      rw [decide_eq_true (show s.Items.length<=10 by simp only [decide_eq_true_eq] at e; omega)]
      simp
    · rw [decide_eq_false (show ¬ s.Items.length<=10 by simp only [decide_eq_false_iff_not] at e; omega)]
      simp
  | succ k ih =>
    intro i hi
    have hil:i<s.Items.length:=by omega
    obtain ⟨hn,⟨D,hd⟩⟩:=h.at_ hil
    refine Ev.up ?_
    simp only [G.aY.L1,Int.toNat_natCast,bP (show i+1<9223372036854775808 by omega)]
    rw [bT (default:aA) hil,List.all_cons]
    refine Ev.ct (decide_eq_true (by omega)) (Ev.chk (by omega) ?_)
    unfold Oe
    refine Ev.bind (T.eF _ (by unfold big; omega)) (Ev.ite (fun e1 => ?_) (fun e1=>Ev.ret' (by rw [e1]; simp)))
    refine Ev.bind (T.bH (by unfold lim; omega) hd) (Ev.ite (fun e2 => ?_) (fun e2=>Ev.ret' (by rw [e2]; simp)))
    refine Ev.bind (T.dW _ _ _) (Ev.ite (fun e3 => ?_) (fun e3=>Ev.ret' (by rw [e3]; simp)))
    rw [e1,e2,e3]
    have ih':=ih (i+1) (by omega)
    unfold Oe at ih'
    rw [Nat.add_sub_cancel] at ih'
    by_cases h0:0<i
    · have e:IntKind.wrap .i64 ((i:Int)-1)=((i-1:Nat):Int):=wrapN (by omega) (by omega)
      rw [e,Int.toNat_natCast]
      rw [L8 h0 (by rw [qW]; exact hil),vV hil,vV (by omega:i-1<s.Items.length)]
      refine Ev.ct (decide_eq_true (by omega)) (Ev.chk (by omega) (Ev.ite (fun h1=>Ev.ret' ?_) (fun h1=>Ev.ite (fun h2=>Ev.ret' ?_) (fun h2 => ?_))))
      · rw [show bl (s.Items.getD (i-1) default).Name (s.Items.getD i default).Name=false from Dv h1]; simp
      · rw [beq_iff_eq] at h2
        rw [show bl (s.Items.getD (i-1) default).Name (s.Items.getD i default).Name=false by rw [h2]; exact Cj _]; simp
      · have hb:bl (s.Items.getD (i-1) default).Name (s.Items.getD i default).Name=true:=by
          cases hb:bl (s.Items.getD (i-1) default).Name (s.Items.getD i default).Name with
          | true=>rfl
          | false=>rw [yP h1 hb] at h2; simp at h2
        rw [hb]
        exact ih'.eq (by simp)
    · have:i=0:=by omega
      subst this
      exact Ev.cf (by decide) (ih'.eq (by simp))
theorem T.aY:Ev (fun f=>G.aY f s) (uj s):=by
 refine Ev.up ?_
 simp only [G.aY]
 exact T.aY.L1 hB h s.Items.length 0 (by omega)
theorem T.bg.L1:∀ (k i:Nat),i+k=s.Items.length->Ev (fun f=>G.bg.L1 f s i) ((s.Items.drop i).all (Oe s.Clock)&&Asc ((rX s.Items).drop (i-1))):=by
  have hl:=h.len
  unfold lim at hB
  intro k
  induction k with
  | zero =>
    intro i hi
    refine Ev.up ?_
    simp only [G.bg.L1]
    rw [List.drop_of_length_le (by omega),Qa (by rw [qW]; omega)]
    exact Ev.cf (decide_eq_false (by omega)) (Ev.ret _)
  | succ k ih =>
    intro i hi
    have hil:i<s.Items.length:=by omega
    obtain ⟨hn,⟨D,hd⟩⟩:=h.at_ hil
    refine Ev.up ?_
    simp only [G.bg.L1,Int.toNat_natCast,bP (show i+1<9223372036854775808 by omega)]
    rw [bT (default:aA) hil,List.all_cons]
    have ih':=ih (i+1) (by omega)
    rw [Nat.add_sub_cancel] at ih'
    refine Ev.ct (decide_eq_true (by omega)) (Ev.chk (by omega) ?_)
    refine Ev.bind (T.iG _ (by unfold big; omega)) (Ev.ite (fun e1 => ?_) (fun e1=>Ev.ret' (by unfold Oe; rw [e1]; simp)))
    have tail:∀ q:Bool,(q=true->Asc ((rX s.Items).drop (i-1))=Asc ((rX s.Items).drop i))->q=true->Ev (fun f=>cond (decide ((s.Items.getD i default).Version<1)) (some false) (cond (decide (s.Clock<(s.Items.getD i default).Version)) (some false)
        (Option.bind (G.aO f (s.Items.getD i default).Node) fun v=>cond v (G.bg.L1 f s ((i+1:Nat):Int)) (some false)))) (Oe s.Clock (s.Items.getD i default)&&(s.Items.drop (i+1)).all (Oe s.Clock)&&Asc ((rX s.Items).drop (i-1))):=fun q hq hq'=>by
      rw [hq hq']
      refine Ev.ite (fun v1=>Ev.ret' ?_) (fun v1=>Ev.ite (fun v2=>Ev.ret' ?_) (fun v2 => ?_))
      · simp only [decide_eq_true_eq] at v1
        unfold Oe
        rw [decide_eq_false (show ¬ 1<=(s.Items.getD i default).Version by omega)]; simp
      · simp only [decide_eq_true_eq] at v2
        unfold Oe
        rw [decide_eq_false (show ¬ (s.Items.getD i default).Version<=s.Clock by omega)]; simp
      · simp only [decide_eq_false_iff_not] at v1 v2
        refine Ev.bind (T.aO (by unfold lim; omega) hd) (Ev.ite (fun e2 => ?_) (fun e2=>Ev.ret' (by unfold Oe; rw [e2]; simp)))
        refine ih'.eq ?_
        have:Oe s.Clock (s.Items.getD i default)=true:=by
          unfold Oe
          rw [e1,e2,decide_eq_true (show 1<=(s.Items.getD i default).Version by omega),decide_eq_true (show (s.Items.getD i default).Version<=s.Clock by omega)]; rfl
        rw [this]; rfl
    by_cases h0:0<i
    · have e:IntKind.wrap .i64 ((i:Int)-1)=((i-1:Nat):Int):=wrapN (by omega) (by omega)
      rw [e,Int.toNat_natCast]
      have hst:=L8 h0 (l:=rX s.Items) (by rw [qW]; exact hil)
      rw [vV hil,vV (by omega:i-1<s.Items.length)] at hst
      refine Ev.ct (decide_eq_true (by omega)) (Ev.chk (by omega) (Ev.ite (fun h1 => ?_) (fun h1=>Ev.ret' ?_)))
      · exact tail true (fun _=>by rw [hst,show bl (s.Items.getD (i-1) default).Name (s.Items.getD i default).Name=true from h1]; rfl) rfl
      · rw [hst,show bl (s.Items.getD (i-1) default).Name (s.Items.getD i default).Name=false from h1]; simp
    · have:i=0:=by omega
      subst this
      exact Ev.cf (by decide) (tail true (fun _=>rfl) rfl)
theorem T.bg:Ev (fun f=>G.bg f s) (uj s):=by
 refine Ev.up ?_
 simp only [G.bg]
 unfold uj
 refine Ev.ite (fun e=>Ev.ret' ?_) (fun e=>Ev.ite (fun e2=>Ev.ret' ?_) (fun e2=>Ev.ite (fun e3=>Ev.ret' ?_) (fun e3 => ?_)))
 ·rw [decide_eq_false (show ¬ s.Items.length<=10 by simp only [decide_eq_true_eq] at e; omega)]; simp
 ·rw [decide_eq_false (show ¬ 0<=s.Clock by simp only [decide_eq_true_eq] at e2; omega)]; simp
 ·rw [decide_eq_false (show ¬ s.Clock<=999 by simp only [decide_eq_true_eq] at e3; omega)]; simp
 ·simp only [decide_eq_false_iff_not] at e e2 e3
  refine (T.bg.L1 hB h s.Items.length 0 (by omega)).eq ?_
  rw [decide_eq_true (show s.Items.length<=10 by omega),decide_eq_true (show 0<=s.Clock by omega),decide_eq_true (show s.Clock<=999 by omega),List.drop_zero]
  simp
theorem T.aU:Ev (fun f=>G.aU f s) s:=by
  have hl:=h.len
  unfold lim at hB
  have L:∀ (k i:Nat),i+k=s.Items.length->Ev (fun f=>G.aU.L1 f s i (s.Items.take i)) s:=by
    intro k
    induction k with
    | zero =>
      intro i hi
      refine Ev.up ?_
      simp only [G.aU.L1]
      refine Ev.cf (decide_eq_false (by omega)) (Ev.ret' ?_)
      rw [List.take_of_length_le (by omega)]
    | succ k ih =>
      intro i hi
      have hil:i<s.Items.length:=by omega
      obtain ⟨hn,⟨D,hd⟩⟩:=h.at_ hil
      refine Ev.up ?_
      simp only [G.aU.L1,Int.toNat_natCast,bP (show i+1<9223372036854775808 by omega)]
      refine Ev.ct (decide_eq_true (by omega)) (Ev.chk (by omega) (Ev.chk (by omega) (Ev.chk (by omega) (Ev.bind (T.aB (by unfold lim; omega) hd) (Ev.chk (by simp; omega) ?_)))))
      have:=ih (i+1) (by omega)
      rw [List.take_succ_eq_append_getElem hil,<- dh (default:aA) hil] at this
      exact this
  refine Ev.up ?_
  simp only [G.aU]
  exact L s.Items.length 0 (by omega)
theorem T.bn:Ev (fun f=>G.bn f s) s:=by
  have hl:=h.len
  unfold lim at hB
  have L:∀ (k i:Nat),i+k=s.Items.length->Ev (fun f=>G.bn.L1 f s i (s.Items.take i++List.replicate (s.Items.length-i) (aA.mk [] 0 (af.mk 0 0 [] [] [])))) s:=by
    intro k
    induction k with
    | zero =>
      intro i hi
      refine Ev.up ?_
      simp only [G.bn.L1]
      refine Ev.cf (decide_eq_false (by omega)) (Ev.ret' ?_)
      rw [List.take_of_length_le (by omega),show s.Items.length-i=0 by omega,List.replicate_zero,List.append_nil]
    | succ k ih =>
      intro i hi
      have hil:i<s.Items.length:=by omega
      obtain ⟨hn,⟨D,hd⟩⟩:=h.at_ hil
      have hc:Ev (fun f=>G.lK f (s.Items.getD i default)) (s.Items.getD i default):=by
        refine Ev.up ?_
        simp only [G.lK]
        exact Ev.bind (T.aF (by unfold lim; omega) hd) (Ev.ret _)
      refine Ev.up ?_
      simp only [G.bn.L1,Int.toNat_natCast,bP (show i+1<9223372036854775808 by omega)]
      refine Ev.ct (decide_eq_true (by omega)) (Ev.chk (by omega) (Ev.bind hc (Ev.chk (by simp; omega) ?_)))
      have hset:(s.Items.take i++List.replicate (s.Items.length-i) (aA.mk [] 0 (af.mk 0 0 [] [] []))).set i (s.Items.getD i default)=s.Items.take (i+1)++List.replicate (s.Items.length-(i+1)) (aA.mk [] 0 (af.mk 0 0 [] [] [])):=by
        obtain ⟨q,hq⟩:∃ q,s.Items.length-i=q+1:=⟨s.Items.length-i-1,by omega⟩
        have e1:(s.Items.take i).length=i:=by simp; omega
        rw [hq,List.replicate_succ,List.set_append_right _ _ (by omega),e1,Nat.sub_self,List.set_cons_zero,show s.Items.length-(i+1)=q by omega,List.take_succ_eq_append_getElem hil,dh _ hil,List.append_assoc]
        rfl
      rw [hset]
      exact ih (i+1) (by omega)
  refine Ev.up ?_
  simp only [G.bn]
  refine Ev.ite (fun e => ?_) (fun e=>Ev.ret' ?_)
  · refine Ev.chk (by omega) ?_
    have:=L s.Items.length 0 (by omega)
    rw [List.take_zero,List.nil_append,Nat.sub_zero] at this
    exact this
  · have:s.Items=[]:=List.eq_nil_of_length_eq_zero (by simp only [decide_eq_false_iff_not] at e; omega)
    cases s
    simp only at this
    subst this
    rfl
end
structure Og (s:StoreT):Prop where
 YS:∀ it,it∈s.Items->Oe s.Clock it=true
 AX:Asc (rX s.Items)=true
 len:s.Items.length<=10
 lo:0<=s.Clock
 hi:s.Clock<=999
theorem nD {s:StoreT} : uj s=true<->Og s:=by
 unfold uj
 simp only [Bool.and_eq_true,decide_eq_true_eq,List.all_eq_true]
 exact ⟨fun ⟨⟨h1,h2⟩,h3,h4,h5⟩=>⟨h1,h2,h3,h4,h5⟩,fun h=>⟨⟨h.YS,h.AX⟩,h.len,h.lo,h.hi⟩⟩
structure ZK (c:Int) (it:aA):Prop where
 IY:LJ it.Name=true
 Px:Val it.Node=true
 lo:1<=it.Version
 hi:it.Version<=c
theorem Ic {c:Int} {it:aA} : Oe c it=true<->ZK c it:=by
 unfold Oe
 simp only [Bool.and_eq_true,decide_eq_true_eq]
 exact ⟨fun ⟨h1,h2,h3,h4⟩=>⟨h1,h2,h3,h4⟩,fun h=>⟨h.IY,h.Px,h.lo,h.hi⟩⟩
theorem Ij {s:aG} (h:LJ s=true):1<=s.length/\s.length<=8:=by
 unfold LJ at h
 simp only [Bool.and_eq_true,decide_eq_true_eq] at h
 exact h.2
theorem Og.it {s:StoreT} (h:Og s) {i:Nat} (hi:i<s.Items.length):ZK s.Clock (s.Items.getD i default):=Ic.1 (h.YS _ (getD_mem default hi))
theorem Og.fine {s:StoreT} (h:Og s):qg 60 s :=
 ⟨by have:=h.len; omega,fun it hi=>by have:=(Ij (Ic.1 (h.YS it hi)).IY).2; omega,fun it hi=>⟨5,nU (Ic.1 (h.YS it hi)).Px⟩⟩
def KQ:StoreT:=StoreT.mk [] 0
theorem T.Um.L1 {l:List aA} (t:aG) (hl:l.length<big) (hA:∀ i j,i<j->j<(rX l).length->bl ((rX l).getD i default) ((rX l).getD j default)=true) :
    ∀ (k i j:Nat),j-i<=k->i<=j->j<=l.length->(∀ q,q<i->bl ((rX l).getD q default) t=true)->(∀ q,j<=q->q<(rX l).length->bl ((rX l).getD q default) t=false) ->
      ∃ p:Nat,Ev (fun f=>G.ax.L1 f l t i j) ((p:Int),decide (p<l.length)&&(l.getD p default).Name==t)/\LB (rX l) t p:=by
  unfold big at hl
  have cmp:∀ i,Ev (fun f=>G.lQ f (l.getD i default) t) (Go.Lib.compareBytes (l.getD i default).Name t):=fun i=>by
    refine Ev.up ?_
    simp only [G.lQ]
    have h1:Ev (fun f=>G.strings_Compare f (l.getD i default).Name t) (Go.Lib.compareBytes (l.getD i default).Name t):=by
      refine Ev.up ?_
      simp only [G.strings_Compare]
      have:Ev (fun f=>G.dL f (l.getD i default).Name t) (Go.Lib.compareBytes (l.getD i default).Name t):=by
        refine Ev.up ?_
        simp only [G.dL]
        exact Ev.ret _
      exact Ev.bind this (Ev.ret _)
    exact Ev.bind h1 (Ev.ret _)
  have neg:∀ x y:aG,decide (Go.Lib.compareBytes x y<0)=bl x y:=fun x y=>by
    rw [XL]
    cases h:bl x y with
    | true=>rw [if_pos rfl]; rfl
    | false=>rw [if_neg (by simp)]; by_cases e:x=y<;>simp [e]
  have Z4:∀ x y:aG,(Go.Lib.compareBytes x y==0)=(x==y):=fun x y=>by
    rw [Bool.eq_iff_iff,beq_iff_eq,beq_iff_eq]; exact Ju
  intro k
  induction k with
  | zero =>
    intro i j hk hij hj hlo hhi
    have:i=j:=by omega
    subst this
    refine ⟨i,Ev.up ?_,by rw [qW]; exact hj,hlo,hhi⟩
    simp only [G.ax.L1,Int.toNat_natCast]
    refine Ev.cf (by simp) (Ev.ite (fun e => ?_) (fun e=>Ev.ret' ?_))
    · have e':i<l.length:=by simpa using e
      refine Ev.chk (by omega) (Ev.bind (cmp i) (Ev.ret' ?_))
      rw [Z4,decide_eq_true e',Bool.true_and]
    · have d1:decide (i<l.length)=false:=by simpa using e
      rw [d1]; rfl
  | succ k ih =>
    intro i j hk hij hj hlo hhi
    by_cases he:i=j
    · exact ih i j (by omega) hij hj hlo hhi
    have h1:(i+j)/2<j:=by omega
    have h2:i<=(i+j)/2:=by omega
    have hat:=vV (l:=l) (i:=(i+j)/2) (by omega)
    cases hc:bl ((rX l).getD ((i+j)/2) default) t with
    | true =>
      obtain ⟨p,g,hp⟩:=ih ((i+j)/2+1) j (by omega) (by omega) hj (fun q hq=>by
        by_cases hq2:q=(i+j)/2
        · rw [hq2]; exact hc
        · exact rV (hA q ((i+j)/2) (by omega) (by rw [qW]; omega)) hc) hhi
      refine ⟨p,Ev.up ?_,hp⟩
      simp only [G.ax.L1]
      refine Ev.ct (by simp; omega) ?_
      rw [half i j (by omega),Int.toNat_natCast]
      refine Ev.chk (by omega) (Ev.bind (cmp _) (Ev.ct (by rw [neg,<- hat]; exact hc) ?_))
      rw [bP (by omega)]
      exact g
    | false =>
      obtain ⟨p,g,hp⟩:=ih i ((i+j)/2) (by omega) h2 (by omega) hlo (fun q hq hq2=>by
        by_cases hq3:q=(i+j)/2
        · rw [hq3]; exact hc
        · cases hb:bl ((rX l).getD q default) t with
          | false=>rfl
          | true=>rw [rV (hA ((i+j)/2) q (by omega) hq2) hb] at hc; cases hc)
      refine ⟨p,Ev.up ?_,hp⟩
      simp only [G.ax.L1]
      refine Ev.ct (by simp; omega) ?_
      rw [half i j (by omega),Int.toNat_natCast]
      refine Ev.chk (by omega) (Ev.bind (cmp _) (Ev.cf (by rw [neg,<- hat]; exact hc) ?_))
      exact g
theorem T.jS {l:List aA} (t:aG) (hl:l.length<big) (hA:Asc (rX l)=true) :
  ∃ p:Nat,Ev (fun f=>G.jS f l t) ((p:Int),decide (p<l.length)&&(l.getD p default).Name==t)/\LB (rX l) t p:=by
 obtain ⟨p,g,hp⟩:=T.Um.L1 t hl (uX hA) l.length 0 l.length (by omega) (by omega) (by omega) (fun q hq=>by omega) (fun q h1 h2=>by rw [qW] at h2; omega)
 refine ⟨p,Ev.up ?_,hp⟩
 simp only [G.jS]
 have g':Ev (fun f=>G.ax f l t) ((p:Int),decide (p<l.length)&&(l.getD p default).Name==t):=by
  refine Ev.up ?_
  simp only [G.ax]
  exact g
 exact Ev.bind g' (Ev.ret _)
end Go.Ab
end
section
namespace Go.Ab
open Go
set_option maxRecDepth 100000
set_option linter.unusedSectionVars false
def yZ (x:aA):List aA->List aA
 | []=>[x]
 | y::r=>if bl y.Name x.Name then y::yZ x r else if y.Name=x.Name then x::r else x::y::r
def Fa (s:StoreT) (t:aG) (n:af):StoreT:=StoreT.mk (yZ (aA.mk t (s.Clock+1) n) s.Items) (s.Clock+1)
def vP (s:StoreT) (t:aG) (n:af):Option StoreT:=if uj s&&LJ t&&Val n then (some (Fa s t n)).filter uj else none
def zJ:Option StoreT->StoreT × Bool
 | some s=>(s,true)
 | none=>(KQ,false)
theorem Ea {s:StoreT} : zJ ((some s).filter uj)=if uj s then (s,true) else (KQ,false):=by
 cases h:uj s<;>simp [Option.filter,h,zJ]
theorem D8 {y:aA} {r:List aA} : rX (y::r)=y.Name::rX r:=rfl
theorem Qz {x:aA} : ∀ {l:List aA} {p:Nat},LB (rX l) x.Name p->yZ x l=if decide (p<l.length)&&(l.getD p default).Name==x.Name then l.set p x else l.take p++[x]++l.drop p
  | [],p,h=>by
    have:p=0:=by have:=h.le; simpa [rX] using this
    subst this
    rfl
  | y::r,0,h=>by
    have hb:bl y.Name x.Name=false:=h.hi 0 (by omega) (by rw [qW]; simp)
    rw [yZ,hb,if_neg (by simp)]
    by_cases e:y.Name=x.Name
    · rw [if_pos e,if_pos (by simp [e])]; rfl
    · rw [if_neg e,if_neg (by simp [e])]; rfl
  | y::r,p+1,h=>by
    have hb:bl y.Name x.Name=true:=h.lo 0 (by omega)
    have hr:LB (rX r) x.Name p:=⟨by have:=h.le; rw [qW] at this ⊢; simp at this; omega,fun j hj=>by
      have:=h.lo (j+1) (by omega)
      rwa [D8,List.getD_cons_succ] at this,fun j h1 h2=>by
      have:=h.hi (j+1) (by omega) (by rw [D8]; simp; omega)
      rwa [D8,List.getD_cons_succ] at this⟩
    rw [yZ,if_pos hb,Qz hr]
    have e1:(decide (p+1<(y::r).length)&&((y::r).getD (p+1) default).Name==x.Name)=(decide (p<r.length)&&(r.getD p default).Name==x.Name):=by simp
    rw [e1]
    by_cases c:(decide (p<r.length)&&(r.getD p default).Name==x.Name)=true
    · rw [if_pos c,if_pos c]; rfl
    · rw [if_neg c,if_neg c]; rfl
theorem L6 {y:aA} {r:List aA} (h:Asc (rX (y::r))=true):Asc (rX r)=true/\∀ z,z∈r->bl y.Name z.Name=true:=by
 rw [D8] at h
 exact ⟨wW h,fun z hz=>yc h _ (List.mem_map.2 ⟨z,hz,rfl⟩)⟩
theorem tX {x:aA} : ∀ {l:List aA} {it:aA},Asc (rX l)=true->(it∈yZ x l<->it=x\/(it∈l/\it.Name ≠ x.Name))
  | [],it,_=>by simp [yZ]
  | y::r,it,h=>by
    obtain ⟨h1,h2⟩:=L6 h
    rw [yZ]
    cases hb:bl y.Name x.Name with
    | true =>
      have hne:=xG hb
      rw [if_pos rfl,List.mem_cons,tX h1,List.mem_cons]
      constructor
      · rintro (e | e | ⟨e,e2⟩)
        · exact .inr ⟨.inl e,e ▸ hne⟩
        · exact .inl e
        · exact .inr ⟨.inr e,e2⟩
      · rintro (e | ⟨e | e,e2⟩)
        · exact .inr (.inl e)
        · exact .inl e
        · exact .inr (.inr ⟨e,e2⟩)
    | false =>
      rw [if_neg (by simp)]
      by_cases e:y.Name=x.Name
      · rw [if_pos e,List.mem_cons,List.mem_cons]
        constructor
        · rintro (q | q)
          · exact .inl q
          · exact .inr ⟨.inr q,fun w=>by have:=xG (h2 it q); rw [e,w] at this; exact this rfl⟩
        · rintro (q | ⟨q | q,w⟩)
          · exact .inl q
          · exact absurd (q ▸ e) w
          · exact .inr q
      · rw [if_neg e,List.mem_cons,List.mem_cons]
        have hx:bl x.Name y.Name=true:=by
          cases k:bl x.Name y.Name with
          | true=>rfl
          | false=>exact absurd (yP hb k) e
        constructor
        · rintro (q | q | q)
          · exact .inl q
          · exact .inr ⟨.inl q,q ▸ e⟩
          · exact .inr ⟨.inr q,fun w=>by have:=xG (rV hx (h2 it q)); rw [w] at this; exact this rfl⟩
        · rintro (q | ⟨q,_⟩)
          · exact .inl q
          · exact .inr q
theorem Io {x:aA} : ∀ {l:List aA},(yZ x l).length<=l.length+1
  | []=>by simp [yZ]
  | y::r=>by
    have:=Io (x:=x) (l:=r)
    rw [yZ]
    split
    · simp only [List.length_cons]; omega
    · split<;>simp
theorem T.oN {l:List aA} {x:aA} (hl:l.length<=1000) (hA:Asc (rX l)=true):Ev (fun f=>G.oN f l x) (yZ x l):=by
  obtain ⟨p,g,hp⟩:=T.jS x.Name (by unfold big; omega) hA
  have hle:=hp.le
  rw [qW] at hle
  rw [Qz hp]
  refine Ev.up ?_
  simp only [G.oN]
  refine Ev.bind g ?_
  cases hc:decide (p<l.length)&&(l.getD p default).Name==x.Name with
  | true =>
    rw [if_pos rfl]
    simp only [Bool.and_eq_true,decide_eq_true_eq] at hc
    exact Ev.ct rfl (Ev.chk (by omega) (Ev.ret' (by rw [Int.toNat_natCast])))
  | false =>
    rw [if_neg (by simp)]
    refine Ev.cf rfl (Ev.bind (Ev.up ?_) (Ev.ret _))
    simp only [G.iI]
    exact Ev.chk (by simp; omega) (Ev.ret' (by rw [Int.toNat_natCast]))
section
variable {B D:Nat} {s:StoreT} {t:aG} {n:af} (hB:B<=lim) (h:qg B s) (ht:t.length<=B) (hn:Fine B D n)
include hB h ht hn
theorem T.nH:Ev (fun f=>G.nH f s t n) (zJ (vP s t n)):=by
 refine Ev.up ?_
 simp only [G.nH]
 unfold vP
 refine Ev.bind (T.bg hB h) (Ev.ite (fun e1 => ?_) (fun e1=>Ev.ret' (by rw [e1]; rfl)))
 refine Ev.bind (T.iG _ (by unfold big; unfold lim at hB; omega)) (Ev.ite (fun e2 => ?_) (fun e2=>Ev.ret' (by rw [e1,e2]; rfl)))
 refine Ev.bind (T.aO hB hn) (Ev.ite (fun e3 => ?_) (fun e3=>Ev.ret' (by rw [e1,e2,e3]; rfl)))
 have hs:=nD.1 e1
 have hl:=hs.len
 have hlo:=hs.lo
 have hhi:=hs.hi
 have w:IntKind.wrap .i64 (s.Clock+1)=s.Clock+1:=by rw [rQ (by omega) (by omega)]
 rw [e1,e2,e3]
 refine Ev.bind (T.bn hB h) (Ev.bind (T.aF hB hn) ?_)
 rw [w]
 refine Ev.bind (T.oN (by omega) hs.AX) ?_
 have hf:qg 60 (Fa s t n):=by
  have:=Io (x:=aA.mk t (s.Clock+1) n) (l:=s.Items)
  refine ⟨by show (yZ _ _).length<=_; omega,fun it hi => ?_,fun it hi => ?_⟩
  ·rcases (tX hs.AX).1 hi with e | ⟨e,_⟩
   ·rw [e]; show t.length<=60; have:=(Ij e2).2; omega
   ·exact hs.fine.IY it e
  ·rcases (tX hs.AX).1 hi with e | ⟨e,_⟩
   ·rw [e]; exact ⟨5,nU e3⟩
   ·exact hs.fine.Px it e
 refine Ev.bind (T.bg lW hf) ?_
 show Ev _ (zJ ((some (Fa s t n)).filter uj))
 rw [Ea]
 cases hv:uj (Fa s t n) with
 | true=>exact Ev.ct hv (Ev.ret _)
 | false=>exact Ev.cf hv (Ev.ret _)
end
section
variable {s:StoreT} {t:aG} {n:af}
theorem T.gZ.done (hl:s.Items.length<=1000):∀ (k i:Nat) (z:List aA),i+k=s.Items.length->z.length<=i+1->(∀ it,it∈s.Items.drop i->it.Name ≠ t) ->
    Ev (fun f=>G.gZ.L3 f s t n s true i z) (StoreT.mk (z++s.Items.drop i) (IntKind.wrap .i64 (s.Clock+1))):=by
  intro k
  induction k with
  | zero =>
    intro i z hi hz _
    refine Ev.up ?_
    simp only [G.gZ.L3]
    refine Ev.cf (decide_eq_false (by omega)) (Ev.ct rfl (Ev.ret' ?_))
    rw [List.drop_of_length_le (by omega),List.append_nil]
  | succ k ih =>
    intro i z hi hz hne
    have hil:i<s.Items.length:=by omega
    have hd:=bT (default:aA) hil
    rw [hd] at hne
    have h1:=hne (s.Items.getD i default) (by simp)
    refine Ev.up ?_
    simp only [G.gZ.L3]
    refine Ev.ct (decide_eq_true (by omega)) (Ev.ct rfl (Ev.up ?_))
    simp only [G.gZ.K4,Int.toNat_natCast,bP (show i+1<9223372036854775808 by omega)]
    refine Ev.chk (by omega) (Ev.cf (by simpa using h1) (Ev.chk (by omega) (Ev.chk (by omega) ?_)))
    refine (ih (i+1) _ (by omega) (by simp; omega) (fun it hit=>hne it (by simp [hit]))).eq ?_
    rw [hd]
    simp
theorem T.gZ.more (hl:s.Items.length<=1000) (hA:Asc (rX s.Items)=true):∀ (k i:Nat) (z:List aA),i+k=s.Items.length->z.length<=i ->
    Ev (fun f=>G.gZ.L3 f s t n s false i z) (StoreT.mk (z++yZ (aA.mk t (IntKind.wrap .i64 (s.Clock+1)) n) (s.Items.drop i)) (IntKind.wrap .i64 (s.Clock+1))):=by
  intro k
  induction k with
  | zero =>
    intro i z hi hz
    refine Ev.up ?_
    simp only [G.gZ.L3]
    refine Ev.cf (decide_eq_false (by omega)) (Ev.cf rfl (Ev.chk (by omega) (Ev.ret' ?_)))
    rw [List.drop_of_length_le (by omega)]
    rfl
  | succ k ih =>
    intro i z hi hz
    have hil:i<s.Items.length:=by omega
    have hd:=bT (default:aA) hil
    have later:∀ it,it∈s.Items.drop (i+1)->bl (s.Items.getD i default).Name it.Name=true:=fun it hit=>by
      obtain ⟨j,hj,e⟩:=List.mem_drop_iff_getElem.1 hit
      have hj':i+1+j<s.Items.length:=by omega
      have:=uX hA i (i+1+j) (by omega) (by rw [qW]; exact hj')
      rw [vV hil,vV hj',dh _ hj',e] at this
      exact this
    refine Ev.up ?_
    simp only [G.gZ.L3,Int.toNat_natCast]
    rw [hd,yZ]
    refine Ev.ct (decide_eq_true (by omega)) (Ev.cf rfl (Ev.chk (by omega) ?_))
    refine Ev.ite (fun e => ?_) (fun e => ?_)
    · have e:bl (s.Items.getD i default).Name t=true:=e
      rw [if_pos e]
      refine Ev.up ?_
      simp only [G.gZ.K4,Int.toNat_natCast,bP (show i+1<9223372036854775808 by omega)]
      refine Ev.chk (by omega) (Ev.cf (by simpa using xG e) (Ev.chk (by omega) (Ev.chk (by omega) ?_)))
      refine (ih (i+1) _ (by omega) (by simp; omega)).eq ?_
      simp
    · have e:bl (s.Items.getD i default).Name t=false:=e
      rw [if_neg (by simp only [e]; simp)]
      refine Ev.chk (by omega) (Ev.up ?_)
      simp only [G.gZ.K4,Int.toNat_natCast,bP (show i+1<9223372036854775808 by omega)]
      refine Ev.chk (by omega) (Ev.ite (fun e2 => ?_) (fun e2 => ?_))
      · have e2:(s.Items.getD i default).Name=t:=by simpa using e2
        rw [if_pos e2]
        refine (T.gZ.done hl k (i+1) _ (by omega) (by simp; omega) (fun it hit w=>by have:=xG (later it hit); rw [e2,w] at this; exact this rfl)).eq ?_
        simp
      · have e2:(s.Items.getD i default).Name ≠ t:=by simpa using e2
        rw [if_neg e2]
        have hx:bl t (s.Items.getD i default).Name=true:=by
          cases q:bl t (s.Items.getD i default).Name with
          | true=>rfl
          | false=>exact absurd (yP e q) e2
        refine Ev.chk (by omega) (Ev.chk (by simp; omega) ?_)
        refine (T.gZ.done hl k (i+1) _ (by omega) (by simp; omega) (fun it hit w=>by have:=xG (rV hx (later it hit)); rw [w] at this; exact this rfl)).eq ?_
        simp
end
section
variable {B D:Nat} {s:StoreT} {t:aG} {n:af} (hB:B<=lim) (h:qg B s)
include hB h
theorem T.gZ (hn:Fine B D n) (hs:Og s):Ev (fun f=>G.gZ f s t n) (Fa s t n):=by
 have hl:=hs.len
 have hlo:=hs.lo
 have hhi:=hs.hi
 refine Ev.up ?_
 simp only [G.gZ]
 refine Ev.bind (T.aB hB hn) (Ev.bind (T.aU hB h) ?_)
 refine (T.gZ.more (by omega) hs.AX s.Items.length 0 [] (by omega) (by simp)).eq ?_
 rw [rQ (by omega) (by omega)]
 rfl
theorem NK (hs:Og s) (ht:LJ t=true) (hn:Val n=true):qg 60 (Fa s t n):=by
 have:=Io (x:=aA.mk t (s.Clock+1) n) (l:=s.Items)
 have:=hs.len
 refine ⟨by show (yZ _ _).length<=_; omega,fun it hi => ?_,fun it hi => ?_⟩
 ·rcases (tX hs.AX).1 hi with e | ⟨e,_⟩
  ·rw [e]; show t.length<=60; have:=(Ij ht).2; omega
  ·exact hs.fine.IY it e
 ·rcases (tX hs.AX).1 hi with e | ⟨e,_⟩
  ·rw [e]; exact ⟨5,nU hn⟩
  ·exact hs.fine.Px it e
theorem T.o9 (ht:t.length<=B) (hn:Fine B D n):Ev (fun f=>G.o9 f s t n) (zJ (vP s t n)):=by
 refine Ev.up ?_
 simp only [G.o9]
 unfold vP
 refine Ev.bind (T.aY hB h) (Ev.ite (fun e1 => ?_) (fun e1=>Ev.ret' (by rw [e1]; rfl)))
 refine Ev.bind (T.eF _ (by unfold big; unfold lim at hB; omega)) (Ev.ite (fun e2 => ?_) (fun e2=>Ev.ret' (by rw [e1,e2]; rfl)))
 refine Ev.bind (T.bH hB hn) (Ev.ite (fun e3 => ?_) (fun e3=>Ev.ret' (by rw [e1,e2,e3]; rfl)))
 have hs:=nD.1 e1
 rw [e1,e2,e3]
 refine Ev.bind (T.gZ hB h hn hs) (Ev.bind (T.aY lW (NK hB h hs e2 e3)) ?_)
 show Ev _ (zJ ((some (Fa s t n)).filter uj))
 rw [Ea]
 cases hv:uj (Fa s t n) with
 | true=>exact Ev.ct rfl (Ev.ret _)
 | false=>exact Ev.cf rfl (Ev.ret _)
end
theorem vK {s m:StoreT} {t:aG} {n:af} (h:vP s t n=some m):uj s=true/\LJ t=true/\Val n=true/\m=Fa s t n/\uj m=true:=by
 unfold vP at h
 split at h
 ·rename_i c
  obtain ⟨⟨c1,c2⟩,c3⟩:(uj s=true/\LJ t=true)/\Val n=true:=by simpa using c
  obtain ⟨h1,h2⟩:=Option.filter_eq_some_iff.1 h
  cases h1
  exact ⟨c1,c2,c3,rfl,h2⟩
 ·cases h
def FC (l:List aA) (t:aG):Option Nat:=(List.range' 0 l.length).find? fun i=>(l.getD i default).Name==t
theorem xh {l:List aA} {t:aG} {j:Nat} : FC l t=some j<->(j<l.length/\(l.getD j default).Name=t/\∀ q,q<j->(l.getD q default).Name ≠ t):=by
 unfold FC
 rw [wQ]
 constructor
 ·rintro ⟨_,h2,h3,h4⟩
  exact ⟨by omega,by simpa using h3,fun q hq=>by simpa using h4 q (by omega) hq⟩
 ·rintro ⟨h2,h3,h4⟩
  exact ⟨by omega,by omega,by simpa using h3,fun q _ hq=>by simpa using h4 q hq⟩
theorem H6 {l:List aA} {t:aG} : FC l t=none<->∀ it,it∈l->it.Name ≠ t:=by
 unfold FC
 rw [Ba]
 constructor
 ·intro h it hit
  obtain ⟨i,hi,e⟩:=List.mem_iff_getElem.1 hit
  have:=h i (by omega) (by omega)
  rw [dh _ hi,e] at this
  simpa using this
 ·intro h q _ hq
  have:=h _ (getD_mem default (show q<l.length by omega))
  simpa using this
theorem T.jq {s:StoreT} (t:aG) (hl:s.Items.length<=lim):Ev (fun f=>G.jq f s t) (vJ (FC s.Items t)):=by
  unfold lim at hl
  have L:∀ (k i:Nat),i+k=s.Items.length->Ev (fun f=>G.jq.L1 f s t i) (vJ ((List.range' i k).find? fun i=>(s.Items.getD i default).Name==t)):=by
    intro k
    induction k with
    | zero =>
      intro i hi
      refine Ev.up ?_
      simp only [G.jq.L1]
      exact Ev.cf (decide_eq_false (by omega)) (Ev.ret _)
    | succ k ih =>
      intro i hi
      refine Ev.up ?_
      simp only [G.jq.L1,Int.toNat_natCast,bP (show i+1<9223372036854775808 by omega)]
      rw [List.range'_succ,List.find?_cons]
      refine Ev.ct (decide_eq_true (by omega)) (Ev.chk (by omega) (Ev.ite (fun e=>Ev.ret' ?_) (fun e => ?_)))
      · simp only [show ((s.Items.getD i default).Name==t)=true from e]; rfl
      · simp only [show ((s.Items.getD i default).Name==t)=false from e]
        exact ih (i+1) (by omega)
  refine Ev.up ?_
  simp only [G.jq]
  exact L s.Items.length 0 (by omega)
def Uj (s:StoreT) (t:aG):StoreT:=StoreT.mk (s.Items.filter fun it => !(it.Name==t)) (s.Clock+1)
def wY (s:StoreT) (t:aG):Option StoreT:=if uj s&&(FC s.Items t).isSome && !(s.Clock==999) then some (Uj s t) else none
theorem T.jF {B:Nat} {s:StoreT} {t:aG} (hB:B<=lim) (h:qg B s) (hs:Og s):Ev (fun f=>G.jF f s t) (Uj s t):=by
  have hl:=hs.len
  have hlo:=hs.lo
  have hhi:=hs.hi
  have L:∀ (k i:Nat) (z:List aA),i+k=s.Items.length->z.length<=i->Ev (fun f=>G.jF.L1 f s t s i z) (StoreT.mk (z++(s.Items.drop i).filter fun it => !(it.Name==t)) (IntKind.wrap .i64 (s.Clock+1))):=by
    intro k
    induction k with
    | zero =>
      intro i z hi hz
      refine Ev.up ?_
      simp only [G.jF.L1]
      refine Ev.cf (decide_eq_false (by omega)) (Ev.ret' ?_)
      rw [List.drop_of_length_le (by omega)]; simp
    | succ k ih =>
      intro i z hi hz
      have hil:i<s.Items.length:=by omega
      refine Ev.up ?_
      simp only [G.jF.L1,Int.toNat_natCast,bP (show i+1<9223372036854775808 by omega)]
      rw [bT (default:aA) hil,List.filter_cons]
      refine Ev.ct (decide_eq_true (by omega)) (Ev.chk (by omega) (Ev.ite (fun e => ?_) (fun e => ?_)))
      · rw [show ((s.Items.getD i default).Name==t)=true from e]
        exact (ih (i+1) z (by omega) (by omega)).eq (by simp)
      · rw [show ((s.Items.getD i default).Name==t)=false from e]
        refine Ev.chk (by omega) (Ev.chk (by omega) ?_)
        exact (ih (i+1) _ (by omega) (by simp; omega)).eq (by simp)
  refine Ev.up ?_
  simp only [G.jF]
  refine Ev.bind (T.aU hB h) ((L s.Items.length 0 [] (by omega) (by simp)).eq ?_)
  rw [rQ (by omega) (by omega)]
  rfl
theorem T.oL {B:Nat} {s:StoreT} {t:aG} (hB:B<=lim) (h:qg B s):Ev (fun f=>G.oL f s t) (zJ (wY s t)):=by
  have hl:=h.len
  refine Ev.up ?_
  simp only [G.oL]
  unfold wY
  refine Ev.bind (T.aY hB h) (Ev.ite (fun e1 => ?_) (fun e1=>Ev.ret' (by rw [e1]; rfl)))
  refine Ev.bind (T.jq t (Nat.le_trans hl hB)) ?_
  cases hf:FC s.Items t with
  | none=>exact Ev.ct (by decide) (Ev.ret' (by rw [e1]; rfl))
  | some j =>
    refine Ev.cf (decide_eq_false (by simp only [vJ]; omega)) (Ev.ite (fun e2=>Ev.ret' (by rw [e1,e2]; rfl)) (fun e2 => ?_))
    refine Ev.bind (T.jF hB h (nD.1 e1)) (Ev.ret' (by rw [e1,e2]; rfl))
theorem Ws {l m:List aG} (h:l.Sublist m) (hm:Asc m=true):Asc l=true:=rJ.2 ((rJ.1 hm).sublist h)
theorem Hr {s m:StoreT} {t:aG} (h:wY s t=some m):uj s=true/\(FC s.Items t).isSome=true/\s.Clock ≠ 999/\m=Uj s t/\uj m=true:=by
 unfold wY at h
 split at h
 ·rename_i c
  obtain ⟨⟨c1,c2⟩,c3⟩:(uj s=true/\(FC s.Items t).isSome=true)/\s.Clock ≠ 999:=by simpa using c
  cases h
  have hs:=nD.1 c1
  refine ⟨c1,c2,c3,rfl,nD.2 ⟨fun it hit => ?_,?_,?_,?_,?_⟩⟩
  ·have:=Ic.1 (hs.YS it (List.mem_filter.1 hit).1)
   have hhi:=this.hi
   exact Ic.2 ⟨this.IY,this.Px,this.lo,by show it.Version<=s.Clock+1; omega⟩
  ·exact Ws (List.Sublist.map _ List.filter_sublist) hs.AX
  ·show (s.Items.filter _).length<=10
   exact Nat.le_trans (List.length_filter_le _ _) hs.len
  ·show 0<=s.Clock+1
   have:=hs.lo
   omega
  ·show s.Clock+1<=999
   have:=hs.hi
   omega
 ·cases h
end Go.Ab
end
section
namespace Go.Ab
open Go
set_option maxRecDepth 100000
theorem D.Ie {K:Nat} {r:ReaderT} (hr:nN K r) (hK:K<=1000000000):Dr (K+1) (fun x=>LJ x=true) (fun f=>G.kX f r):=by
 refine Tot.up ?_
 simp only [G.kX]
 obtain ⟨x,r',g,hx,hr'⟩:=T.of hr hK [[97],[98],[100,111,99],[122,122],[97,49],[109],[120,57],[98,111,111,107],[97,98,99,100,101,102,103,104],[113]] (by decide) (by decide)
 exact Tot.rU g (Tot.ret ⟨List.all_eq_true.1 (by decide:List.all [[97],[98],[100,111,99],[122,122],[97,49],[109],[120,57],[98,111,111,107],[97,98,99,100,101,102,103,104],[113]] LJ=true) x hx,hr'⟩)
theorem D.JP {K:Nat} {r:ReaderT} (hr:nN K r) (hK:K<=1000000000):Dr (K+1) (fun x:aG=>x.length<=12) (fun f=>G.lI f r):=by
 refine Tot.up ?_
 simp only [G.lI]
 refine Tot.bind (D.of (m:=12) hr hK _ (by decide) (by decide) (by decide)) ?_
 rintro ⟨x,r'⟩ ⟨hx,hr'⟩
 exact Tot.ret ⟨hx,hr'⟩
theorem Ls:uj KQ=true:=by decide
theorem D.wU.K4 {K:Nat} {Q:StoreT->Prop} {s m:StoreT} {j:Nat} {r:ReaderT} {ok:Bool} (hj:j+1<=1000)
  (h1:ok=true->Dr K Q (fun f=>G.fC.L3 f (j:Int) r.b r.p m.Items m.Clock)) (h2:Dr K Q (fun f=>G.fC.L3 f (j:Int) r.b r.p s.Items s.Clock)) :
  Dr K Q (fun f=>G.fC.K4 f ((j+1:Nat):Int) s.Items s.Clock ok r.b r.p m.Items m.Clock):=by
 have w:IntKind.wrap .i64 (((j+1:Nat):Int)-1)=(j:Int):=wrapN (by omega) (by omega)
 refine Tot.up ?_
 simp only [G.fC.K4,w]
 exact Tot.ite (fun e=>h1 e) (fun _=>h2)
theorem D.wU.L3:∀ (j K:Nat) (r:ReaderT) (s:StoreT),j<=12->nN K r->K+700*j<=500000000->uj s=true ->
    Dr (K+700*j) (fun s=>uj s=true) (fun f=>G.fC.L3 f (j:Int) r.b r.p s.Items s.Clock):=by
  intro j
  induction j with
  | zero =>
    intro K r s _ hr _ hs
    refine Tot.up ?_
    simp only [G.fC.L3]
    exact Tot.ite (fun e=>by simp at e) (fun _=>Tot.ret ⟨hs,hr.mono (by omega)⟩)
  | succ j ih =>
    intro K r s hj hr hK hs
    refine Tot.up ?_
    simp only [G.fC.L3]
    refine Tot.ite (fun _ => ?_) (fun e=>absurd e (by simp))
    refine Tot.bind (D.Ie hr (by omega)) ?_
    rintro ⟨nm,r1⟩ ⟨hnm,hr1⟩
    refine Tot.bind (D.xu hr1 (by omega)) ?_
    rintro ⟨v,r2⟩ ⟨hv,hr2⟩
    have hfs:=(nD.1 hs).fine
    refine Tot.rU (T.o9 lW hfs (by have:=(Ij hnm).2; omega) (nU hv)) ?_
    refine Tot.bind (D.pick (m:=8) hr2 (by omega) rfl (by decide) (by decide)) ?_
    rintro ⟨x,r3⟩ ⟨_,hr3⟩
    refine Tot.ite (fun _ => ?_) (fun _ => ?_)
    · refine Tot.bind (D.Ie hr3 (by omega)) ?_
      rintro ⟨Zx,r4⟩ ⟨aae,hr4⟩
      refine Tot.rU (T.oL lW hfs) ?_
      refine D.wU.K4 (K:=K+700*(j+1)) (Q:=fun s=>uj s=true) (s:=s) (m:=(zJ (wY s Zx)).1) (r:=r4) (ok:=(zJ (wY s Zx)).2) (j:=j) (by omega) (fun e => ?_) ?_
      · cases hd:wY s Zx with
        | none=>rw [hd] at e; cases e
        | some m =>
          have:=(ih (K+700) r4 m (by omega) (hr4.mono (by omega)) (by omega) (Hr hd).2.2.2.2)
          refine Tot.mono this (fun x hx=>⟨hx.1,hx.2.mono (by omega)⟩)
      · exact Tot.mono (ih (K+700) r4 s (by omega) (hr4.mono (by omega)) (by omega) hs) (fun x hx=>⟨hx.1,hx.2.mono (by omega)⟩)
    · refine D.wU.K4 (K:=K+700*(j+1)) (Q:=fun s=>uj s=true) (s:=s) (m:=(zJ (vP s nm v)).1) (r:=r3) (ok:=(zJ (vP s nm v)).2) (j:=j) (by omega) (fun e => ?_) ?_
      · cases hd:vP s nm v with
        | none=>rw [hd] at e; cases e
        | some m =>
          exact Tot.mono (ih (K+700) r3 m (by omega) (hr3.mono (by omega)) (by omega) (vK hd).2.2.2.2) (fun x hx=>⟨hx.1,hx.2.mono (by omega)⟩)
      · exact Tot.mono (ih (K+700) r3 s (by omega) (hr3.mono (by omega)) (by omega) hs) (fun x hx=>⟨hx.1,hx.2.mono (by omega)⟩)
theorem D.wU {K:Nat} {r:ReaderT} (hr:nN K r) (hK:K<=400000000):Dr (K+9000) (fun s=>uj s=true) (fun f=>G.fC f r):=by
 refine Tot.up ?_
 simp only [G.fC]
 obtain ⟨x,r1,g,hx,hr1⟩:=T.one hr (by omega) [3,4,2,5,0,12] (by decide) (by decide)
 refine Tot.rU g ?_
 obtain ⟨j,hj,rfl⟩:∃ j:Nat,j<=12/\x=(j:Int):=by
  simp only [List.mem_cons,List.not_mem_nil,or_false] at hx
  rcases hx with rfl | rfl | rfl | rfl | rfl | rfl
  ·exact ⟨3,by omega,rfl⟩
  ·exact ⟨4,by omega,rfl⟩
  ·exact ⟨2,by omega,rfl⟩
  ·exact ⟨5,by omega,rfl⟩
  ·exact ⟨0,by omega,rfl⟩
  ·exact ⟨12,by omega,rfl⟩
 exact Tot.mono (D.wU.L3 j (K+1) r1 KQ hj hr1 (by omega) Ls) (fun x hx=>⟨hx.1,hx.2.mono (by omega)⟩)
theorem Jw {s:StoreT} {x:aA} (h:qg 60 s) (hx:x.Name.length<=60) (hn:tC 60 x.Node):qg 60 (StoreT.mk (s.Items.set 0 x) s.Clock):=by
 refine ⟨by show (s.Items.set 0 x).length<=60; rw [List.length_set]; exact h.len,fun it hi => ?_,fun it hi => ?_⟩
 ·rcases List.mem_or_eq_of_mem_set hi with e | e
  ·exact h.IY it e
  ·exact e ▸ hx
 ·rcases List.mem_or_eq_of_mem_set hi with e | e
  ·exact h.Px it e
  ·exact e ▸ hn
theorem D.LW {K:Nat} {r:ReaderT} (hr:nN K r) (hK:K<=300000000):Dr (K+10000) (qg 60) (fun f=>G.mM f r):=by
 refine Tot.up ?_
 simp only [G.mM]
 refine Tot.bind (D.wU hr (by omega)) ?_
 rintro ⟨s,r1⟩ ⟨hs,hr1⟩
 have hs:uj s=true:=hs
 have hf:=(nD.1 hs).fine
 have hl:=(nD.1 hs).len
 refine Tot.bind (D.pick (m:=30) hr1 (by omega) rfl (by decide) (by decide)) ?_
 rintro ⟨x,r2⟩ ⟨_,hr2⟩
 refine Tot.ite (fun _ => ?_) (fun _=>Tot.ite (fun _ => ?_) (fun _=>Tot.ite (fun _=>Tot.ite (fun e => ?_) (fun _=>Tot.ret ⟨hf,hr2.mono (by omega)⟩)) (fun _=>Tot.ite (fun _=>Tot.ite (fun e => ?_) (fun _=>Tot.ret ⟨hf,hr2.mono (by omega)⟩)) (fun _=>Tot.ret ⟨hf,hr2.mono (by omega)⟩))))
 ·refine Tot.bind (D.one hr2 (by omega) _ (by decide) (by decide)) ?_
  rintro ⟨c,r3⟩ ⟨_,hr3⟩
  exact Tot.ret ⟨⟨hf.len,hf.IY,hf.Px⟩,hr3.mono (by omega)⟩
 ·refine Tot.bind (D.JP hr2 (by omega)) ?_
  rintro ⟨b,r3⟩ ⟨hb,hr3⟩
  have hb:b.length<=12:=hb
  refine Tot.chk (by simp only; omega) (Tot.ret ⟨⟨by show (s.Items++_).length<=60; simp; omega,fun it hi => ?_,fun it hi => ?_⟩,hr3.mono (by omega)⟩)
  ·rcases List.mem_append.1 hi with e | e
   ·exact hf.IY it e
   ·rw [List.mem_singleton.1 e]; show b.length<=60; omega
  ·rcases List.mem_append.1 hi with e | e
   ·exact hf.Px it e
   ·rw [List.mem_singleton.1 e]; exact ⟨5,nU vz⟩
 ·have e':0<s.Items.length:=by simp only [decide_eq_true_eq] at e; omega
  obtain ⟨h1,h2⟩:=hf.at_ e'
  refine Tot.bind (D.one hr2 (by omega) _ (by simp) (by simp)) ?_
  rintro ⟨c,r3⟩ ⟨_,hr3⟩
  exact Tot.chk (by simp only; omega) (Tot.ret ⟨Jw hf h1 h2,hr3.mono (by omega)⟩)
 ·have e':0<s.Items.length:=by simp only [decide_eq_true_eq] at e; omega
  obtain ⟨h1,h2⟩:=hf.at_ e'
  refine Tot.bind (D.Gh hr2 (by omega)) ?_
  rintro ⟨v,r3⟩ ⟨⟨E,hv⟩,hr3⟩
  exact Tot.chk (by simp only; omega) (Tot.ret ⟨Jw hf h1 ⟨E,hv.mono (by omega) (Nat.le_refl _)⟩,hr3.mono (by omega)⟩)
end Go.Ab
end
section
namespace Go.Ab
open Go
set_option maxRecDepth 100000
def Vb (b:UInt8):Bool:=(decide (48<=b.toNat)&&decide (b.toNat<=57))||(decide (97<=b.toNat)&&decide (b.toNat<=102))
def GI (s:aG):Bool:=s.all Vb&&decide (s.length=4)
def JJ (s:aG):Bool:=s==[42]||GI s
def xC (l:List aG):Bool:=l.all JJ&&decide (l.length<=4)
def hexD:aG:=[48,49,50,51,52,53,54,55,56,57,97,98,99,100,101,102]
theorem WU:∀ n:Nat,n<256->decide (Go.Lib.indexByte hexD (UInt8.ofNat n)<0) = !Vb (UInt8.ofNat n):=by decide +kernel
theorem X0 (b:UInt8):decide (Go.Lib.indexByte hexD b<0) = !Vb b:=by
 have:=WU b.toNat b.toNat_lt
 rwa [UInt8.ofNat_toNat] at this
theorem T.iZ (s:aG) (hs:s.length<big):Ev (fun f=>G.iZ f s) (GI s):=by
  unfold big at hs
  have L:∀ (k i:Nat),i+k=s.length->Ev (fun f=>G.iZ.L1 f s i) ((s.drop i).all Vb&&decide (s.length=4)):=by
    intro k
    induction k with
    | zero =>
      intro i hi
      refine Ev.up ?_
      simp only [G.iZ.L1]
      refine Ev.cf (decide_eq_false (by omega)) (Ev.ret' ?_)
      rw [List.drop_of_length_le (by omega),List.all_nil,Bool.true_and,Bool.eq_iff_iff,beq_iff_eq,decide_eq_true_eq]
      omega
    | succ k ih =>
      intro i hi
      refine Ev.up ?_
      simp only [G.iZ.L1,Int.toNat_natCast,yt,bP (show i+1<9223372036854775808 by omega)]
      rw [bT (0:UInt8) (by omega:i<s.length),List.all_cons]
      have e1:(decide ((48:Int)<=((s.getD i 0).toNat:Int))&&decide (((s.getD i 0).toNat:Int)<=57))=(decide (48<=(s.getD i 0).toNat)&&decide ((s.getD i 0).toNat<=57)):=by congr 1<;>(apply decide_eq_decide.2; omega)
      have e2:(decide ((97:Int)<=((s.getD i 0).toNat:Int))&&decide (((s.getD i 0).toNat:Int)<=102))=(decide (97<=(s.getD i 0).toNat)&&decide ((s.getD i 0).toNat<=102)):=by congr 1<;>(apply decide_eq_decide.2; omega)
      refine Ev.ct (decide_eq_true (by omega)) (Ev.chk (by omega) (Ev.bind (T.dW _ _ _) ?_))
      rw [e1]
      refine Ev.ite (fun h => ?_) (fun h => ?_)
      · refine (ih (i+1) (by omega)).eq ?_
        unfold Vb
        rw [show (decide (48<=(s.getD i 0).toNat)&&decide ((s.getD i 0).toNat<=57))=true from h,Bool.true_or,Bool.true_and]
      · refine Ev.chk (by omega) (Ev.bind (T.dW _ _ _) ?_)
        rw [e2]
        refine Ev.ite (fun h2 => ?_) (fun h2=>Ev.ret' ?_)
        · refine (ih (i+1) (by omega)).eq ?_
          unfold Vb
          rw [show (decide (97<=(s.getD i 0).toNat)&&decide ((s.getD i 0).toNat<=102))=true from h2,Bool.or_true,Bool.true_and]
        · unfold Vb
          rw [show (decide (48<=(s.getD i 0).toNat)&&decide ((s.getD i 0).toNat<=57))=false from h,show (decide (97<=(s.getD i 0).toNat)&&decide ((s.getD i 0).toNat<=102))=false from h2]
          rfl
  refine Ev.up ?_
  simp only [G.iZ]
  exact L s.length 0 (by omega)
theorem T.kC (s:aG) (hs:s.length<big):Ev (fun f=>G.kC f s) (GI s):=by
  unfold big at hs
  have hI:∀ b:UInt8,Ev (fun f=>G.strings_IndexByte f [48,49,50,51,52,53,54,55,56,57,97,98,99,100,101,102] ((b.toNat:Nat):Int)) (Go.Lib.indexByte hexD b):=fun b=>by
    refine Ev.up ?_
    simp only [G.strings_IndexByte]
    refine Ev.bind (Ev.up ?_) (Ev.ret _)
    simp only [G.gU]
    refine Ev.ret' ?_
    rw [Int.toNat_natCast,show b.toNat.toUInt8=b from UInt8.ofNat_toNat]
    rfl
  have L:∀ (k i:Nat),i+k=s.length->Ev (fun f=>G.kC.L1 f s i) ((s.drop i).all Vb):=by
    intro k
    induction k with
    | zero =>
      intro i hi
      refine Ev.up ?_
      simp only [G.kC.L1]
      refine Ev.cf (decide_eq_false (by omega)) (Ev.ret' ?_)
      rw [List.drop_of_length_le (by omega)]; rfl
    | succ k ih =>
      intro i hi
      refine Ev.up ?_
      simp only [G.kC.L1,Int.toNat_natCast,bP (show i+1<9223372036854775808 by omega)]
      rw [bT (0:UInt8) (by omega:i<s.length),List.all_cons]
      refine Ev.ct (decide_eq_true (by omega)) (Ev.chk (by omega) (Ev.bind (hI _) ?_))
      rw [X0]
      refine Ev.ite (fun h=>Ev.ret' ?_) (fun h=>(ih (i+1) (by omega)).eq ?_)
      · have:Vb (s.getD i 0)=false:=by simpa using h
        rw [this]; rfl
      · have:Vb (s.getD i 0)=true:=by simpa using h
        rw [this]; rfl
  refine Ev.up ?_
  simp only [G.kC]
  unfold GI
  refine Ev.ite (fun e=>Ev.ret' ?_) (fun e => ?_)
  · have:¬ s.length=4:=by
      have:((s.length:Nat):Int) ≠ 4:=by simpa using e
      omega
    rw [decide_eq_false this,Bool.and_false]
  · have:s.length=4:=by
      have:((s.length:Nat):Int)=4:=by simpa using e
      omega
    exact (L s.length 0 (by omega)).eq (by rw [decide_eq_true this,Bool.and_true,List.drop_zero])
theorem T.iy {l:List aG} (h:Sm l):Ev (fun f=>G.iy f l) (xC l):=by
  have hl:=h.1
  unfold big at hl
  have L:∀ (k i:Nat),i+k=l.length->Ev (fun f=>G.iy.L1 f l i) ((l.drop i).all JJ&&decide (l.length<=4)):=by
    intro k
    induction k with
    | zero =>
      intro i hi
      refine Ev.up ?_
      simp only [G.iy.L1]
      refine Ev.cf (decide_eq_false (by omega)) (Ev.ret' ?_)
      rw [List.drop_of_length_le (by omega),List.all_nil,Bool.true_and]
      apply decide_eq_decide.2; omega
    | succ k ih =>
      intro i hi
      refine Ev.up ?_
      simp only [G.iy.L1,Int.toNat_natCast,bP (show i+1<9223372036854775808 by omega)]
      rw [bT (default:aG) (by omega:i<l.length),List.all_cons]
      unfold JJ
      refine Ev.ct (decide_eq_true (by omega)) (Ev.chk (by omega) (Ev.ite (fun e=>(ih (i+1) (by omega)).eq (by rw [e]; rfl)) (fun e=>Ev.chk (by omega) (Ev.bind (T.iZ _ (h.get (by omega))) ?_))))
      exact Ev.ite (fun e2=>(ih (i+1) (by omega)).eq (by rw [e,e2]; rfl)) (fun e2=>Ev.ret' (by rw [e,e2]; rfl))
  refine Ev.up ?_
  simp only [G.iy]
  exact L l.length 0 (by omega)
theorem T.iD {l:List aG} (h:Sm l):Ev (fun f=>G.iD f l) (xC l):=by
  have hl:=h.1
  unfold big at hl
  have L:∀ (k i:Nat),i+k=l.length->Ev (fun f=>G.iD.L1 f l i) ((l.drop i).all JJ):=by
    intro k
    induction k with
    | zero =>
      intro i hi
      refine Ev.up ?_
      simp only [G.iD.L1]
      refine Ev.cf (decide_eq_false (by omega)) (Ev.ret' ?_)
      rw [List.drop_of_length_le (by omega)]; rfl
    | succ k ih =>
      intro i hi
      refine Ev.up ?_
      simp only [G.iD.L1,Int.toNat_natCast,bP (show i+1<9223372036854775808 by omega)]
      rw [bT (default:aG) (by omega:i<l.length),List.all_cons]
      unfold JJ
      refine Ev.ct (decide_eq_true (by omega)) (Ev.chk (by omega) (Ev.ite (fun e=>(ih (i+1) (by omega)).eq (by rw [e]; rfl)) (fun e=>Ev.bind (T.kC _ (h.get (by omega))) ?_)))
      exact Ev.ite (fun e2=>(ih (i+1) (by omega)).eq (by rw [e,e2]; rfl)) (fun e2=>Ev.ret' (by rw [e,e2]; rfl))
  refine Ev.up ?_
  simp only [G.iD]
  unfold xC
  refine Ev.ite (fun e=>Ev.ret' ?_) (fun e=>(L l.length 0 (by omega)).eq ?_)
  · rw [decide_eq_false (show ¬ l.length<=4 by simp only [decide_eq_true_eq] at e; omega),Bool.and_false]
  · rw [decide_eq_true (show l.length<=4 by simp only [decide_eq_false_iff_not] at e; omega),Bool.and_true,List.drop_zero]
structure uU (B:Nat) (q:RequestT):Prop where
 IY:q.Name.length<=B
 want:pG B q.Want
 avoid:pG B q.lT
 body:tC B q.Body
 ops:BL q.Ops
def Jn (q:RequestT):Bool:=(decide (1<=q.Method)&&decide (q.Method<=5))&&(LJ q.Name&&(xC q.Want&&(xC q.lT&&(Val q.Body&&GH q.Ops))))
section
variable {B:Nat} {q:RequestT} (hB:B<=lim) (h:uU B q)
include hB h
theorem T.iJ:Ev (fun f=>G.iJ f q) (Jn q):=by
 obtain ⟨E,hb⟩:=h.body
 have hn:=h.IY
 unfold lim at hB
 refine Ev.up ?_
 simp only [G.iJ]
 unfold Jn
 refine Ev.bind (T.dW _ _ _) (Ev.ite (fun e1 => ?_) (fun e1=>Ev.ret' (by rw [e1]; rfl)))
 refine Ev.bind (T.eF _ (by unfold big; omega)) (Ev.ite (fun e2 => ?_) (fun e2=>Ev.ret' (by rw [e1,e2]; rfl)))
 refine Ev.bind (T.iy (h.want.sm (by unfold lim; omega))) (Ev.ite (fun e3 => ?_) (fun e3=>Ev.ret' (by rw [e1,e2,e3]; rfl)))
 refine Ev.bind (T.iy (h.avoid.sm (by unfold lim; omega))) (Ev.ite (fun e4 => ?_) (fun e4=>Ev.ret' (by rw [e1,e2,e3,e4]; rfl)))
 refine Ev.bind (T.bH (by unfold lim; omega) hb) (Ev.ite (fun e5 => ?_) (fun e5=>Ev.ret' (by rw [e1,e2,e3,e4,e5]; rfl)))
 exact Ev.bind (T.fA h.ops) (Ev.ret' (by rw [e1,e2,e3,e4,e5]; rfl))
theorem T.jB:Ev (fun f=>G.jB f q) (Jn q):=by
 obtain ⟨E,hb⟩:=h.body
 have hn:=h.IY
 unfold lim at hB
 refine Ev.up ?_
 simp only [G.jB]
 unfold Jn
 refine Ev.ite (fun e0 => ?_) (fun e0=>Ev.ret' (by rw [e0]; rfl))
 refine Ev.ite (fun e1 => ?_) (fun e1=>Ev.ret' (by rw [e0,e1]; rfl))
 refine Ev.bind (T.iG _ (by unfold big; omega)) (Ev.ite (fun e2 => ?_) (fun e2=>Ev.ret' (by rw [e0,e1,e2]; rfl)))
 refine Ev.bind (T.iD (h.want.sm (by unfold lim; omega))) (Ev.ite (fun e3 => ?_) (fun e3=>Ev.ret' (by rw [e0,e1,e2,e3]; rfl)))
 refine Ev.bind (T.iD (h.avoid.sm (by unfold lim; omega))) (Ev.ite (fun e4 => ?_) (fun e4=>Ev.ret' (by rw [e0,e1,e2,e3,e4]; rfl)))
 refine Ev.bind (T.aO (by unfold lim; omega) hb) (Ev.ite (fun e5 => ?_) (fun e5=>Ev.ret' (by rw [e0,e1,e2,e3,e4,e5]; rfl)))
 exact Ev.bind (T.dX h.ops) (Ev.ret' (by rw [e0,e1,e2,e3,e4,e5]; rfl))
theorem T.og:Ev (fun f=>G.og f q) (Jn q&&q.Method==1):=by
 refine Ev.up ?_
 simp only [G.og]
 exact Ev.bind (T.jB hB h) (Ev.ite (fun e=>Ev.ret' (by rw [e]; rfl)) (fun e=>Ev.ret' (by rw [e]; rfl)))
end
def wo (l:List RequestT):Bool:=l.all Jn&&decide (l.length<=8)
structure xB (l:List RequestT):Prop where
 len:l.length<=1000
 req:∀ q,q∈l->uU 60 q
theorem xB.at_ {l:List RequestT} (h:xB l) {i:Nat} (hi:i<l.length):uU 60 (l.getD i default):=h.req _ (getD_mem default hi)
theorem T.gm {l:List RequestT} (h:xB l):Ev (fun f=>G.gm f l) (wo l):=by
  have hl:=h.len
  have L:∀ (k i:Nat),i+k=l.length->Ev (fun f=>G.gm.L1 f l i) ((l.drop i).all Jn&&decide (l.length<=8)):=by
    intro k
    induction k with
    | zero =>
      intro i hi
      refine Ev.up ?_
      simp only [G.gm.L1]
      refine Ev.cf (decide_eq_false (by omega)) (Ev.ret' ?_)
      rw [List.drop_of_length_le (by omega),List.all_nil,Bool.true_and]
      apply decide_eq_decide.2; omega
    | succ k ih =>
      intro i hi
      refine Ev.up ?_
      simp only [G.gm.L1,Int.toNat_natCast,bP (show i+1<9223372036854775808 by omega)]
      rw [bT (default:RequestT) (by omega:i<l.length),List.all_cons]
      exact Ev.ct (decide_eq_true (by omega)) (Ev.chk (by omega) (Ev.bind (T.iJ lW (h.at_ (by omega))) (Ev.ite (fun e=>(ih (i+1) (by omega)).eq (by rw [e]; rfl)) (fun e=>Ev.ret' (by rw [e]; rfl)))))
  refine Ev.up ?_
  simp only [G.gm]
  exact L l.length 0 (by omega)
theorem T.dK {l:List RequestT} (h:xB l):Ev (fun f=>G.dK f l) (wo l):=by
  have hl:=h.len
  have L:∀ (k i:Nat),i+k=l.length->Ev (fun f=>G.dK.L1 f l i) ((l.drop i).all Jn):=by
    intro k
    induction k with
    | zero =>
      intro i hi
      refine Ev.up ?_
      simp only [G.dK.L1]
      refine Ev.cf (decide_eq_false (by omega)) (Ev.ret' ?_)
      rw [List.drop_of_length_le (by omega)]; rfl
    | succ k ih =>
      intro i hi
      refine Ev.up ?_
      simp only [G.dK.L1,Int.toNat_natCast,bP (show i+1<9223372036854775808 by omega)]
      rw [bT (default:RequestT) (by omega:i<l.length),List.all_cons]
      exact Ev.ct (decide_eq_true (by omega)) (Ev.chk (by omega) (Ev.bind (T.jB lW (h.at_ (by omega))) (Ev.ite (fun e=>(ih (i+1) (by omega)).eq (by rw [e]; rfl)) (fun e=>Ev.ret' (by rw [e]; rfl)))))
  refine Ev.up ?_
  simp only [G.dK]
  unfold wo
  refine Ev.ite (fun e=>Ev.ret' ?_) (fun e=>(L l.length 0 (by omega)).eq ?_)
  · rw [decide_eq_false (show ¬ l.length<=8 by simp only [decide_eq_true_eq] at e; omega),Bool.and_false]
  · rw [decide_eq_true (show l.length<=8 by simp only [decide_eq_false_iff_not] at e; omega),Bool.and_true,List.drop_zero]
end Go.Ab
end
section
namespace Go.Ab
open Go
set_option maxRecDepth 100000
def Kw (z:Int):aG:=if z<0 then 45::vU (-z).toNat else vU z.toNat
def Ee (b:UInt8):aG:=if b=34\/b=92 then [92,b] else [b]
def FY (s:aG):aG:=34::(s.flatMap Ee++[34])
def uJ (F:af->aG) (n:af) (i:Nat):aG:=((if 0<i then [44] else [])++(if n.Kind=4 then FY (n.Names.getD i default)++[58] else []))++F (n.Kids.getD i default)
def qV:Nat->af->aG
  | 0,_=>[]
  | d+1,n=>if n.Kind=1 then Kw n.Num else if n.Kind=2 then FY n.Text else if n.Kind=0 then [110,117,108,108] else
    if n.Kind=4 then ([123]++(List.range' 0 n.Kids.length).flatMap (uJ (qV d) n))++[125] else ([91]++(List.range' 0 n.Kids.length).flatMap (uJ (qV d) n))++[93]
theorem EG {d:Nat} {n:af} : qV (d+1) n=if n.Kind=1 then Kw n.Num else if n.Kind=2 then FY n.Text else if n.Kind=0 then [110,117,108,108] else
  if n.Kind=4 then ([123]++(List.range' 0 n.Kids.length).flatMap (uJ (qV d) n))++[125] else ([91]++(List.range' 0 n.Kids.length).flatMap (uJ (qV d) n))++[93]:=by rw [qV]
theorem maxL:4000000000<=maxLen:=by decide
theorem KZ (s:aG):(FY s).length<=2*s.length+2:=by
  have:(s.flatMap Ee).length<=2*s.length:=by
    induction s with
    | nil=>simp
    | cons b s ih =>
      rw [List.flatMap_cons,List.length_append,List.length_cons]
      have:(Ee b).length<=2:=by unfold Ee; split<;>simp
      omega
  unfold FY
  simp only [List.length_cons,List.length_append,List.length_nil]
  omega
theorem Jj {s:aG} {i:Nat} (h:i<s.length):(s.take (i+1)).drop i=[s.getD i 0]:=by
 rw [List.take_succ_eq_append_getElem h,List.drop_append_of_le_length (by simp; omega),List.drop_of_length_le (by rw [List.length_take]; omega),List.nil_append,dh _ h]
theorem T.jP (s:aG) (hs:s.length<=1000000):Ev (fun f=>G.jP f s) (FY s):=by
  have hM:=maxL
  have L:∀ (k i:Nat) (z:aG),i+k=s.length->z.length<=2*i+1->Ev (fun f=>G.jP.L1 f s z i) (z++((s.drop i).flatMap Ee++[34])):=by
    intro k
    induction k with
    | zero =>
      intro i z hi hz
      refine Ev.up ?_
      simp only [G.jP.L1]
      refine Ev.cf (decide_eq_false (by omega)) (Ev.chk (by omega) (Ev.ret' ?_))
      rw [List.drop_of_length_le (by omega)]; rfl
    | succ k ih =>
      intro i z hi hz
      have hil:i<s.length:=by omega
      have e1:=Jj hil
      have two:s.getD i 0=34\/s.getD i 0=92->Ev (fun f=>G.jP.L1 f s ((z++[92])++[s.getD i 0]) ((i+1:Nat):Int)) (z++((s.drop i).flatMap Ee++[34])):=fun hq=>by
        refine (ih (i+1) _ (by omega) (by simp; omega)).eq ?_
        rw [bT (0:UInt8) hil,List.flatMap_cons]
        have:Ee (s.getD i 0)=[92,s.getD i 0]:=if_pos hq
        rw [this]
        simp
      have Y3:∀ c:UInt8,((((s.getD i 0).toNat:Nat):Int)==((c.toNat:Nat):Int))=(s.getD i 0==c):=fun c=>by
        rw [Bool.eq_iff_iff,beq_iff_eq,beq_iff_eq]
        exact ⟨fun h=>UInt8.toNat_inj.1 (by omega),fun h=>by rw [h]⟩
      refine Ev.up ?_
      simp only [G.jP.L1,Int.toNat_natCast,bP (show i+1<9223372036854775808 by omega),e1]
      refine Ev.ct (decide_eq_true (by omega)) (Ev.chk (by omega) (Ev.ite (fun h => ?_) (fun h => ?_)))
      · have h:s.getD i 0=34:=by rw [show ((34:Int))=(((34:UInt8).toNat:Nat):Int) from rfl,Y3] at h; simpa using h
        exact Ev.chk (by omega) (Ev.chk (by omega) (Ev.chk (by simp only [List.length_singleton]; omega) (two (.inl h))))
      · have h:s.getD i 0 ≠ 34:=by rw [show ((34:Int))=(((34:UInt8).toNat:Nat):Int) from rfl,Y3] at h; simpa using h
        refine Ev.chk (by omega) (Ev.ite (fun h2 => ?_) (fun h2 => ?_))
        · have h2:s.getD i 0=92:=by rw [show ((92:Int))=(((92:UInt8).toNat:Nat):Int) from rfl,Y3] at h2; simpa using h2
          exact Ev.chk (by omega) (Ev.chk (by omega) (Ev.chk (by simp only [List.length_singleton]; omega) (two (.inr h2))))
        · have h2:s.getD i 0 ≠ 92:=by rw [show ((92:Int))=(((92:UInt8).toNat:Nat):Int) from rfl,Y3] at h2; simpa using h2
          refine Ev.chk (by omega) (Ev.chk (by simp only [List.length_singleton]; omega) ?_)
          refine (ih (i+1) _ (by omega) (by simp; omega)).eq ?_
          rw [bT (0:UInt8) hil,List.flatMap_cons]
          have:Ee (s.getD i 0)=[s.getD i 0]:=if_neg (fun q=>q.elim h h2)
          rw [this]
          simp
  refine Ev.up ?_
  simp only [G.jP]
  exact (L s.length 0 [34] (by omega) (by simp)).eq (by rw [List.drop_zero]; rfl)
theorem zY:∀ {i:Nat},i<=999999->(vU i).length<=6:=by
 have step:∀ {i m:Nat},(vU (i/10)).length<=m->(vU i).length<=m+1:=fun {i m} h=>by
  rw [vU]
  split
  ·simp
  ·simp; omega
 intro i h
 have h1:(vU (i/10/10/10/10/10)).length<=1:=by rw [yS (by omega)]; simp
 exact step (step (step (step (step h1))))
theorem Ui {z:Int} (h1 : -999999<=z) (h2:z<=999999):(Kw z).length<=7:=by
 unfold Kw
 split
 ·have:=zY (i:=(-z).toNat) (by omega)
  simp; omega
 ·have:=zY (i:=z.toNat) (by omega)
  omega
theorem T.Td {z:Int} (h1 : -999999<=z) (h2:z<=999999):Ev (fun f=>G.iQ f z) (Kw z):=by
 have hM:=maxL
 unfold Kw
 by_cases h:z<0
 ·rw [if_pos h]
  have w:IntKind.wrap .i64 (0-z)=(((-z).toNat:Nat):Int):=wrapN (by omega) (by omega)
  have hl:=zY (i:=(-z).toNat) (by omega)
  refine Ev.up ?_
  simp only [G.iQ,w]
  exact Ev.ct (decide_eq_true h) (Ev.cf (by simp only [beq_eq_false_iff_ne]; omega) (Ev.bind (T.decimal (by unfold lim; omega)) (Ev.chk (by omega) (Ev.ret' rfl))))
 ·rw [if_neg h]
  obtain ⟨k,rfl⟩:∃ k:Nat,z=k:=⟨z.toNat,by omega⟩
  rw [Int.toNat_natCast]
  exact T.decimal (by unfold lim; omega)
theorem E5 {n:af} (h:Parts n=true) (hk:n.Kind=1) : -999999<=n.Num/\n.Num<=999999:=by
 unfold Parts at h
 simp [hk] at h
 omega
theorem CZ {n:af} (h:Parts n=true):n.Text.length<=12:=by
 by_cases hk:n.Kind=2
 ·unfold Parts at h
  simp [hk] at h
  exact Il h.2.1
 ·unfold Parts at h
  simp only [Bool.and_eq_true,Bool.or_eq_true,beq_iff_eq] at h
  have:=h.1.1.2.resolve_left hk
  rw [this]; simp
theorem WM {α:Type} {g:Nat->List α} {m:Nat} : ∀ (k i:Nat),(∀ j,i<=j->j<i+k->(g j).length<=m)->((List.range' i k).flatMap g).length<=k*m:=by
  intro k
  induction k with
  | zero=>intro i _; simp
  | succ k ih =>
    intro i h
    have h1:=h i (by omega) (by omega)
    have h2:=ih (i+1) (fun j h1 h2=>h j (by omega) (by omega))
    rw [List.range'_succ,List.flatMap_cons,List.length_append,Nat.add_mul]
    omega
theorem Gn:∀ (d:Nat) {n:af},Shape d n=true->(qV d n).length<=200*7^d
  | 0,_,h=>by cases h
  | d+1,n,h=>by
    have hp:=lV h
    have h6:=tq h
    have YK:1<=7^d:=Nat.one_le_pow _ _ (by omega)
    rw [EG,Nat.pow_succ]
    have hb:((List.range' 0 n.Kids.length).flatMap (uJ (qV d) n)).length<=6*(28+200*7^d):=by
      refine Nat.le_trans (WM (m:=28+200*7^d) _ _ (fun j _ hj => ?_)) (Nat.mul_le_mul_right _ h6)
      have hj':j<n.Kids.length:=by omega
      have hk:=Gn d (rC h hj')
      unfold uJ
      rw [List.length_append,List.length_append]
      have a1:(if 0<j then ([44]:aG) else []).length<=1:=by split<;>simp
      have a2:(if n.Kind=4 then FY (n.Names.getD j default)++[58] else []).length<=27:=by
        split
        · rename_i h4
          obtain ⟨mn,_,hn⟩:=D5 hp h4
          have:=hn _ (getD_mem default (show j<n.Names.length by rw [<- mn.len]; exact hj'))
          have:=KZ (n.Names.getD j default)
          simp only [List.length_append,List.length_singleton]
          omega
        · simp
      omega
    split
    · rename_i h1
      obtain ⟨b1,b2⟩:=E5 hp h1
      have:=Ui b1 b2
      omega
    · split
      · have:=CZ hp
        have:=KZ n.Text
        omega
      · split
        · simp only [List.length_cons,List.length_nil]; omega
        · split
          · simp only [List.length_append,List.length_singleton]; omega
          · simp only [List.length_append,List.length_singleton]; omega
theorem T.cu:∀ (d:Nat) {n:af},d<=5->Shape d n=true->Ev (fun f=>G.cu f n) (qV d n)
  | 0,_,_,h=>by cases h
  | d+1,n,hd,h=>by
    have hM:=maxL
    have hp:=lV h
    have h6:=tq h
    have YK:=E8 hd
    rw [Nat.pow_succ] at YK
    have L:∀ (k i:Nat) (z:aG),i+k=n.Kids.length->z.length<=i*1000000->Ev (fun f=>G.cu.L5 f n z i)
        (if n.Kind=4 then ([123]++(z++(List.range' i k).flatMap (uJ (qV d) n)))++[125] else ([91]++(z++(List.range' i k).flatMap (uJ (qV d) n)))++[93]):=by
      intro k
      induction k with
      | zero =>
        intro i z hi hz
        refine Ev.up ?_
        simp only [G.cu.L5]
        refine Ev.cf (decide_eq_false (by omega)) (Ev.ite (fun e=>Ev.chk (by omega) (Ev.chk (by omega) (Ev.ret' ?_))) (fun e=>Ev.chk (by omega) (Ev.chk (by omega) (Ev.ret' ?_))))
        · rw [if_pos (by simpa using e)]; simp
        · rw [if_neg (by simpa using e)]; simp
      | succ k ih =>
        intro i z hi hz
        have hil:i<n.Kids.length:=by omega
        have hk:=rC h hil
        have hkl:=Gn d hk
        have K7:∀ z':aG,z'.length<=i*1000000+28->z'++qV d (n.Kids.getD i default)=z++uJ (qV d) n i->Ev (fun f=>G.cu.K7 f n (i:Int) z')
            (if n.Kind=4 then ([123]++(z++(List.range' i (k+1)).flatMap (uJ (qV d) n)))++[125] else ([91]++(z++(List.range' i (k+1)).flatMap (uJ (qV d) n)))++[93]):=fun z' hz' he=>by
          refine Ev.up ?_
          simp only [G.cu.K7,Int.toNat_natCast,bP (show i+1<9223372036854775808 by omega)]
          refine Ev.chk (by omega) (Ev.bind (T.cu d (by omega) hk) (Ev.chk (by omega) ?_))
          refine (ih (i+1) _ (by omega) (by rw [List.length_append]; omega)).eq ?_
          rw [List.range'_succ,List.flatMap_cons,<- List.append_assoc z,<- he]
        have K6:∀ z':aG,z'=z++(if 0<i then [44] else [])->Ev (fun f=>G.cu.K6 f n (i:Int) z')
            (if n.Kind=4 then ([123]++(z++(List.range' i (k+1)).flatMap (uJ (qV d) n)))++[125] else ([91]++(z++(List.range' i (k+1)).flatMap (uJ (qV d) n)))++[93]):=fun z' he=>by
          have hz':z'.length<=i*1000000+1:=by
            rw [he,List.length_append]
            have:(if 0<i then ([44]:aG) else []).length<=1:=by split<;>simp
            omega
          refine Ev.up ?_
          simp only [G.cu.K6,Int.toNat_natCast]
          by_cases h4:n.Kind=4
          · obtain ⟨mn,_,hn⟩:=D5 hp h4
            have hin:i<n.Names.length:=by rw [<- mn.len]; exact hil
            have h12:=hn _ (getD_mem default hin)
            have hq:=KZ (n.Names.getD i default)
            refine Ev.ct (by simpa using h4) (Ev.chk (by omega) (Ev.bind (T.jP _ (by omega)) (Ev.chk (by omega) (Ev.chk (by omega) (K7 _ (by simp only [List.length_append,List.length_singleton]; omega) ?_)))))
            rw [he]
            unfold uJ
            rw [if_pos h4]
            simp
          · refine Ev.cf (by simpa using h4) (K7 z' (Nat.le_trans hz' (Nat.add_le_add_left (by decide) _)) ?_)
            rw [he]
            unfold uJ
            rw [if_neg h4]
            simp
        refine Ev.up ?_
        simp only [G.cu.L5]
        refine Ev.ct (decide_eq_true (by omega)) ?_
        by_cases h0:0<i
        · exact Ev.ct (decide_eq_true (by omega)) (Ev.chk (by omega) (K6 _ (by rw [if_pos h0])))
        · exact Ev.cf (decide_eq_false (by omega)) (K6 _ (by rw [if_neg h0,List.append_nil]))
    refine Ev.up ?_
    simp only [G.cu]
    rw [EG]
    refine Ev.ite (fun e => ?_) (fun e1 => ?_)
    · have e:n.Kind=1:=by simpa using e
      rw [if_pos e]
      obtain ⟨b1,b2⟩:=E5 hp e
      exact Ev.bind (T.Td b1 b2) (Ev.ret _)
    rw [if_neg (by simpa using e1)]
    refine Ev.ite (fun e => ?_) (fun e2 => ?_)
    · rw [if_pos (by simpa using e)]
      have:=CZ hp
      exact Ev.bind (T.jP _ (by omega)) (Ev.ret _)
    rw [if_neg (by simpa using e2)]
    refine Ev.ite (fun e => ?_) (fun e3 => ?_)
    · rw [if_pos (by simpa using e)]
      exact Ev.ret _
    rw [if_neg (by simpa using e3)]
    exact (L n.Kids.length 0 [] (by omega) (by simp)).eq (by simp)
def Ti (s:aG):Nat:=s.foldl (fun n b=>(131*n+b.toNat)%65521) 17
def RF (k:Nat):UInt8:=hexD.getD k 0
def Ja (n:Nat):aG:=[RF (n/4096),RF (n/256%16),RF (n/16%16),RF (n%16)]
def pK (n:af):aG:=if Val n then Ja (Ti (qV 5 n)) else []
theorem T.kH (s:aG) (hs:s.length<big):Ev (fun f=>G.kH f s) ((Ti s:Nat):Int):=by
  unfold big at hs
  have L:∀ (k i m:Nat),i+k=s.length->m<65521->Ev (fun f=>G.kH.L1 f s (m:Int) i) (((s.drop i).foldl (fun n b=>(131*n+b.toNat)%65521) m:Nat):Int):=by
    intro k
    induction k with
    | zero =>
      intro i m hi _
      refine Ev.up ?_
      simp only [G.kH.L1]
      refine Ev.cf (decide_eq_false (by omega)) (Ev.ret' ?_)
      rw [List.drop_of_length_le (by omega)]; rfl
    | succ k ih =>
      intro i m hi hm
      have hb:=(s.getD i 0).toNat_lt
      refine Ev.up ?_
      simp only [G.kH.L1,Int.toNat_natCast,yt,bP (show i+1<9223372036854775808 by omega),wrapN (x:=131*(m:Int)) (m:=131*m) (by omega) (by omega)]
      rw [wrapN (x:=((131*m:Nat):Int)+(((s.getD i 0).toNat:Nat):Int)) (m:=131*m+(s.getD i 0).toNat) (by omega) (by omega),show (65521:Int)=((65521:Nat):Int) from rfl,vM]
      rw [bT (0:UInt8) (by omega:i<s.length),List.foldl_cons]
      exact Ev.ct (decide_eq_true (by omega)) (Ev.chk (by omega) (ih (i+1) _ (by omega) (Nat.mod_lt _ (by omega))))
  refine Ev.up ?_
  simp only [G.kH]
  exact L s.length 0 17 (by omega) (by omega)
theorem sum_lt (s:aG):Ti s<65521:=by
 unfold Ti
 have:∀ (s:aG) (m:Nat),m<65521->s.foldl (fun n b=>(131*n+b.toNat)%65521) m<65521:=by
  intro s
  induction s with
  | nil=>intro m hm; exact hm
  | cons b s ih=>intro m hm; exact ih _ (Nat.mod_lt _ (by omega))
 exact this s 17 (by omega)
theorem T.pF {n:Nat} (h:n<65536):Ev (fun f=>G.pF f (n:Int)) (Ja n):=by
 have hM:=maxL
 have w1:IntKind.wrap .i64 (Int.tdiv (n:Int) 4096)=((n/4096:Nat):Int):=by rw [show (4096:Int)=((4096:Nat):Int) from rfl,xx]; exact wrapN rfl (by omega)
 have w2:IntKind.wrap .i64 (Int.tdiv (n:Int) 256)=((n/256:Nat):Int):=by rw [show (256:Int)=((256:Nat):Int) from rfl,xx]; exact wrapN rfl (by omega)
 have w3:IntKind.wrap .i64 (Int.tdiv (n:Int) 16)=((n/16:Nat):Int):=by rw [show (16:Int)=((16:Nat):Int) from rfl,xx]; exact wrapN rfl (by omega)
 have t2:Int.tmod ((n/256:Nat):Int) 16=((n/256%16:Nat):Int):=by rw [show (16:Int)=((16:Nat):Int) from rfl,vM]
 have t3:Int.tmod ((n/16:Nat):Int) 16=((n/16%16:Nat):Int):=by rw [show (16:Int)=((16:Nat):Int) from rfl,vM]
 have t4:Int.tmod (n:Int) 16=((n%16:Nat):Int):=by rw [show (16:Int)=((16:Nat):Int) from rfl,vM]
 refine Ev.up ?_
 simp only [G.pF,w1,w2,w3,t2,t3,t4,Int.toNat_natCast,UInt8.ofNat_toNat]
 exact Ev.chk (by omega) (Ev.chk (by omega) (Ev.chk (by omega) (Ev.chk (by omega) (Ev.chk (by omega) (Ev.ret' rfl)))))
theorem T.nY {B D:Nat} {n:af} (hB:B<=lim) (h:Fine B D n):Ev (fun f=>G.nY f n) (pK n):=by
 refine Ev.up ?_
 simp only [G.nY]
 unfold pK
 refine Ev.bind (T.bH hB h) (Ev.ite (fun e => ?_) (fun e=>Ev.ret' (by rw [e]; rfl)))
 rw [e]
 have hl:=Gn 5 (kZ e)
 have hp:=E8 (Nat.le_refl 5)
 have:=sum_lt (qV 5 n)
 exact Ev.bind (T.cu 5 (by omega) (kZ e)) (Ev.bind (T.kH _ (by unfold big; omega)) (Ev.bind (T.pF (by omega)) (Ev.ret _)))
theorem Gt (n:af):(pK n).length<=4:=by
 unfold pK
 split
 ·simp [Ja]
 ·simp
theorem D.Yf {K:Nat} {r:ReaderT} {s:StoreT} (hs:qg 60 s) (hr:nN K r) (hK:K<=900000000):Dr (K+3) (fun x:aG=>x.length<=60) (fun f=>G.oP f r s):=by
 have hl:=hs.len
 have w:∀ {K':Nat} {r':ReaderT},nN K' r'->K'+2<=K+3->Dr (K+3) (fun x:aG=>x.length<=60) (fun f=>Option.bind (G.aC f r' 12) fun v=>cond (v.1==0) (Option.bind (G.lI f v.2) fun v4=>some (v4.1,v4.2)) (Option.bind (G.kX f v.2) fun v5=>some (v5.1,v5.2))):=fun hr' h=>by
  refine Tot.bind (D.pick (m:=12) hr' (by omega) rfl (by decide) (by decide)) ?_
  rintro ⟨x,r1⟩ ⟨_,hr1⟩
  refine Tot.ite (fun _ => ?_) (fun _ => ?_)
  ·refine Tot.bind (D.JP hr1 (by omega)) ?_
   rintro ⟨b,r2⟩ ⟨hb,hr2⟩
   have hb:b.length<=12:=hb
   exact Tot.ret ⟨by show b.length<=60; omega,hr2.mono (by omega)⟩
  ·refine Tot.bind (D.Ie hr1 (by omega)) ?_
   rintro ⟨b,r2⟩ ⟨hb,hr2⟩
   have:=(Ij hb).2
   exact Tot.ret ⟨by show b.length<=60; simp only at this; omega,hr2.mono (by omega)⟩
 refine Tot.up ?_
 simp only [G.oP]
 refine Tot.ite (fun e => ?_) (fun _=>w hr (by omega))
 have e':0<s.Items.length:=by simp only [decide_eq_true_eq] at e; omega
 refine Tot.bind (D.pick (m:=4) hr (by omega) rfl (by decide) (by decide)) ?_
 rintro ⟨x,r1⟩ ⟨_,hr1⟩
 refine Tot.ite (fun _ => ?_) (fun _=>w hr1 (by omega))
 refine Tot.bind (D.pick (m:=s.Items.length) hr1 (by omega) rfl e' (by omega)) ?_
 rintro ⟨y,r2⟩ ⟨⟨j,rfl,hj⟩,hr2⟩
 refine Tot.chk (by omega) ?_
 simp only [Int.toNat_natCast]
 exact Tot.ret ⟨(hs.at_ hj).1,hr2.mono (by omega)⟩
def Zy:aA:=aA.mk [] 0 mX
def ND:Option aA->aA × Bool
 | some it=>(it,true)
 | none=>(Zy,false)
def qY (s:StoreT) (t:aG):Option aA:=if uj s then (FC s.Items t).map fun j=>s.Items.getD j default else none
theorem T.nK {B:Nat} {s:StoreT} (t:aG) (hB:B<=lim) (h:qg B s):Ev (fun f=>G.nK f s t) (ND (qY s t)):=by
  have hl:=h.len
  have hf:=T.jq (s:=s) t (Nat.le_trans hl hB)
  refine Ev.up ?_
  simp only [G.nK]
  unfold qY
  refine Ev.bind (T.aY hB h) (Ev.ite (fun e => ?_) (fun e=>Ev.ret' (by rw [e]; rfl)))
  rw [e]
  refine Ev.bind hf ?_
  cases hj:FC s.Items t with
  | none=>exact Ev.ct (by decide) (Ev.ret' rfl)
  | some j =>
    have hjl:=(xh.1 hj).1
    rw [hj] at hf
    refine Ev.cf (decide_eq_false (by simp only [vJ]; omega)) (Ev.bind (T.aU hB h) (Ev.bind hf (Ev.chk (by simp only [vJ]; omega) (Ev.ret' ?_))))
    simp only [vJ,Int.toNat_natCast]
    rfl
theorem ve {s:StoreT} {t:aG} {it:aA} (h:qY s t=some it):Og s/\it∈s.Items/\it.Name=t/\Val it.Node=true:=by
 unfold qY at h
 split at h
 ·rename_i hs
  obtain ⟨j,hj,rfl⟩:=Option.map_eq_some_iff.1 h
  obtain ⟨h1,h2,_⟩:=xh.1 hj
  have:=nD.1 hs
  exact ⟨this,getD_mem default h1,h2,(this.it h1).Px⟩
 ·cases h
theorem Ut (s:StoreT) (t:aG):Val (ND (qY s t)).1.Node=true:=by
 cases h:qY s t with
 | none=>exact vz
 | some it=>exact (ve h).2.2.2
theorem D.P9 {K:Nat} {r:ReaderT} {tag:aG} (ht:tag.length<=4) (hr:nN K r) (hK:K<=900000000):Dr (K+20) (pG 60) (fun f=>G.jV f r tag):=by
  have L:∀ (j K:Nat) (r:ReaderT) (z:List aG),j<=5->z.length+j<=5->nN K r->K+j+2<=990000000->(∀ s,s∈z->s.length<=60)->Dr (K+j+2) (pG 60) (fun f=>G.jV.L1 f tag (j:Int) r.b r.p z):=by
    intro j
    induction j with
    | zero =>
      intro K r z _ hz hr hK hs
      refine Tot.up ?_
      simp only [G.jV.L1]
      refine Tot.ite (fun e=>by simp at e) (fun _=>Tot.ite (fun e => ?_) (fun _=>Tot.ret ⟨⟨by show z.length<=60; omega,hs⟩,hr.mono (by omega)⟩))
      refine Tot.bind (D.pick (m:=20) hr (by omega) rfl (by decide) (by decide)) ?_
      rintro ⟨x,r1⟩ ⟨_,hr1⟩
      refine Tot.ite (fun _ => ?_) (fun _=>Tot.ret ⟨⟨by show z.length<=60; omega,hs⟩,hr1.mono (by omega)⟩)
      refine Tot.bind (D.of (m:=12) hr1 (by omega) _ (by decide) (by decide) (by decide)) ?_
      rintro ⟨y,r2⟩ ⟨hy,hr2⟩
      have hy:y.length<=12:=hy
      refine Tot.chk (by simp only [decide_eq_true_eq] at e; omega) (Tot.ret ⟨⟨by show (z.set 0 y).length<=60; rw [List.length_set]; omega,fun s hs' => ?_⟩,hr2.mono (by omega)⟩)
      rcases List.mem_or_eq_of_mem_set hs' with q | q
      · exact hs s q
      · rw [q]; omega
    | succ j ih =>
      intro K r z hj hz hr hK hs
      have w:IntKind.wrap .i64 (((j+1:Nat):Int)-1)=(j:Int):=wrapN (by omega) (by omega)
      refine Tot.up ?_
      simp only [G.jV.L1,w]
      refine Tot.ite (fun _ => ?_) (fun e=>absurd e (by simp))
      obtain ⟨x,r1,g,hx,hr1⟩:=T.of hr (by omega) [[42],[48,48,48,48],[49,50,97,98],[102,102,102,102],tag,tag] (by simp) (by simp)
      refine Tot.rU g ?_
      have hxl:x.length<=60:=by
        simp only [List.mem_cons,List.not_mem_nil,or_false] at hx
        rcases hx with rfl | rfl | rfl | rfl | rfl | rfl<;>first | decide | omega
      refine Tot.chk (by omega) (Tot.mono (ih (K+1) r1 (z++[x]) (by omega) (by simp; omega) hr1 (by omega) (fun s hs' => ?_)) (fun y hy=>⟨hy.1,hy.2.mono (by omega)⟩))
      rcases List.mem_append.1 hs' with q | q
      · exact hs s q
      · rw [List.mem_singleton.1 q]; exact hxl
  refine Tot.up ?_
  simp only [G.jV]
  obtain ⟨x,r1,g,hx,hr1⟩:=T.one hr (by omega) [0,1,0,2,0,4,5] (by decide) (by decide)
  refine Tot.rU g ?_
  obtain ⟨j,hj,rfl⟩:∃ j:Nat,j<=5/\x=(j:Int):=by
    simp only [List.mem_cons,List.not_mem_nil,or_false] at hx
    rcases hx with rfl | rfl | rfl | rfl | rfl | rfl | rfl
    · exact ⟨0,by omega,rfl⟩
    · exact ⟨1,by omega,rfl⟩
    · exact ⟨0,by omega,rfl⟩
    · exact ⟨2,by omega,rfl⟩
    · exact ⟨0,by omega,rfl⟩
    · exact ⟨4,by omega,rfl⟩
    · exact ⟨5,by omega,rfl⟩
  exact Tot.mono (L j (K+1) r1 [] hj (by simp; omega) hr1 (by omega) (fun s hs=>by cases hs)) (fun y hy=>⟨hy.1,hy.2.mono (by omega)⟩)
theorem Ac:pG 60 []:=⟨by simp,fun s h=>by cases h⟩
abbrev Qx (x:RequestT):Prop:=uU 60 x
section
variable {K:Nat} {v1:aG × ReaderT} {v2:aA × Bool} {v3:Int × ReaderT} (h1:v1.1.length<=60) (h2:Val v2.1.Node=true)
include h1
theorem D.oH.K4 {r:ReaderT} {b:af} {w a:List aG} {z:List nO} (hw:pG 60 w) (ha:pG 60 a) (hb:tC 60 b) (hz:BL z) (hr:nN K r) (hK:K<=900000000) :
  Dr (K+1) Qx (fun f=>G.aI.K4 f v1 v2 v3 w a r.b r.p b.Kind b.Num b.Text b.Names b.Kids z):=by
 have hb:tC 60 (af.mk b.Kind b.Num b.Text b.Names b.Kids):=by rw [af.eta]; exact hb
 refine Tot.up ?_
 simp only [G.aI.K4]
 refine Tot.ite (fun _=>Tot.ret ⟨⟨h1,hw,ha,hb,hz⟩,hr.mono (by omega)⟩) (fun _ => ?_)
 refine Tot.bind (D.pick (m:=2) hr (by omega) rfl (by decide) (by decide)) ?_
 rintro ⟨x,r1⟩ ⟨_,hr1⟩
 exact Tot.ite (fun _=>Tot.ret ⟨⟨h1,hw,ha,hb,hz⟩,hr1.mono (by omega)⟩) (fun _=>Tot.ret ⟨⟨h1,hw,ha,hb,hz⟩,hr1.mono (by omega)⟩)
include h2
theorem D.oH.L5 {w a:List aG} (hw:pG 60 w) (ha:pG 60 a):∀ (j K:Nat) (r:ReaderT) (z:List nO),z.length+j<=3->BL z->nN K r->K+400*j+1<=500000000 ->
    Dr (K+400*j+1) Qx (fun f=>G.aI.L5 f v1 v2 v3 w a (j:Int) r.b r.p z):=by
  intro j
  induction j with
  | zero =>
    intro K r z _ hz hr hK
    refine Tot.up ?_
    simp only [G.aI.L5]
    exact Tot.ite (fun e=>by simp at e) (fun _=>Tot.mono (D.oH.K4 h1 (b:=mX) hw ha ⟨5,nU vz⟩ hz hr (by omega)) (fun x hx=>⟨hx.1,hx.2.mono (by omega)⟩))
  | succ j ih =>
    intro K r z hl hz hr hK
    have w':IntKind.wrap .i64 (((j+1:Nat):Int)-1)=(j:Int):=wrapN (by omega) (by omega)
    refine Tot.up ?_
    simp only [G.aI.L5,w']
    refine Tot.ite (fun _ => ?_) (fun e=>absurd e (by simp))
    refine Tot.bind (D.someOp (nU h2) hr (by omega)) ?_
    rintro ⟨o,r1⟩ ⟨ho,hr1⟩
    refine Tot.chk (by omega) (Tot.mono (ih (K+400) r1 (z++[o]) (by simp; omega) ⟨by simp; omega,fun x hx => ?_⟩ (hr1.mono (by omega)) (by omega)) (fun x hx=>⟨hx.1,hx.2.mono (by omega)⟩))
    rcases List.mem_append.1 hx with q | q
    · exact hz.2 x q
    · rw [List.mem_singleton.1 q]; exact ho
theorem D.oH.K2 {r:ReaderT} {w a:List aG} (hw:pG 60 w) (ha:pG 60 a) (hr:nN K r) (hK:K<=300000000) :
  Dr (K+3000) Qx (fun f=>G.aI.K2 f v1 v2 v3 w r.b r.p a):=by
 have fin:∀ {K':Nat} {r':ReaderT} {b:af},tC 60 b->nN K' r'->K'+1<=K+3000->Dr (K+3000) Qx (fun f=>G.aI.K4 f v1 v2 v3 w a r'.b r'.p b.Kind b.Num b.Text b.Names b.Kids []):=fun hb hr' h=>by
  exact Tot.mono (D.oH.K4 h1 hw ha hb (Bc) hr' (by omega)) (fun x hx=>⟨hx.1,hx.2.mono (by omega)⟩)
 refine Tot.up ?_
 simp only [G.aI.K2]
 refine Tot.ite (fun _ => ?_) (fun _=>Tot.ite (fun _ => ?_) (fun _=>Tot.ite (fun _ => ?_) (fun _=>fin (b:=mX) ⟨5,nU vz⟩ hr (by omega))))
 ·refine Tot.bind (D.xu hr (by omega)) ?_
  rintro ⟨b,r1⟩ ⟨hb,hr1⟩
  exact fin ⟨5,nU hb⟩ hr1 (by omega)
 ·refine Tot.bind (D.U6 h2 hr (by omega)) ?_
  rintro ⟨b,r1⟩ ⟨hb,hr1⟩
  exact fin ⟨5,nU hb⟩ hr1 (by omega)
 ·refine Tot.bind (D.pick (m:=3) hr (by omega) rfl (by decide) (by decide)) ?_
  rintro ⟨x,r1⟩ ⟨⟨j,rfl,hj⟩,hr1⟩
  exact Tot.mono (D.oH.L5 h1 h2 hw ha j (K+1) r1 [] (by simp; omega) Bc hr1 (by omega)) (fun x hx=>⟨hx.1,hx.2.mono (by omega)⟩)
theorem D.oH.K1 {r:ReaderT} {w:List aG} (hw:pG 60 w) (hr:nN K r) (hK:K<=200000000) :
  Dr (K+3100) Qx (fun f=>G.aI.K1 f v1 v2 v3 r.b r.p w):=by
 refine Tot.up ?_
 simp only [G.aI.K1]
 refine Tot.bind (D.pick (m:=4) hr (by omega) rfl (by decide) (by decide)) ?_
 rintro ⟨x,r1⟩ ⟨_,hr1⟩
 refine Tot.ite (fun _ => ?_) (fun _=>Tot.mono (D.oH.K2 h1 h2 hw Ac hr1 (by omega)) (fun x hx=>⟨hx.1,hx.2.mono (by omega)⟩))
 refine Tot.rU (T.nY lW (nU h2)) (Tot.bind (D.P9 (Gt _) hr1 (by omega)) ?_)
 rintro ⟨t,r2⟩ ⟨ht,hr2⟩
 exact Tot.mono (D.oH.K2 h1 h2 hw ht hr2 (by omega)) (fun x hx=>⟨hx.1,hx.2.mono (by omega)⟩)
end
theorem D.oH {K:Nat} {r:ReaderT} {s:StoreT} (hs:qg 60 s) (hr:nN K r) (hK:K<=100000000):Dr (K+3200) Qx (fun f=>G.aI f r s):=by
 refine Tot.up ?_
 simp only [G.aI]
 refine Tot.bind (D.Yf hs hr (by omega)) ?_
 rintro ⟨nm,r1⟩ ⟨hnm,hr1⟩
 refine Tot.rU (T.nK nm lW hs) ?_
 have hv:=Ut s nm
 generalize ND (qY s nm)=v2 at hv
 refine Tot.bind (D.pick (m:=5) hr1 (by omega) rfl (by decide) (by decide)) ?_
 rintro ⟨m,r2⟩ ⟨_,hr2⟩
 refine Tot.bind (D.pick (m:=3) hr2 (by omega) rfl (by decide) (by decide)) ?_
 rintro ⟨x,r3⟩ ⟨_,hr3⟩
 refine Tot.ite (fun _ => ?_) (fun _=>Tot.mono (D.oH.K1 hnm hv Ac hr3 (by omega)) (fun x hx=>⟨hx.1,hx.2.mono (by omega)⟩))
 refine Tot.rU (T.nY lW (nU hv)) (Tot.bind (D.P9 (Gt _) hr3 (by omega)) ?_)
 rintro ⟨t,r4⟩ ⟨ht,hr4⟩
 exact Tot.mono (D.oH.K1 hnm hv ht hr4 (by omega)) (fun x hx=>⟨hx.1,hx.2.mono (by omega)⟩)
theorem D.GN {K:Nat} {r:ReaderT} {s:StoreT} (hs:qg 60 s) (hr:nN K r) (hK:K<=90000000):Dr (K+4000) Qx (fun f=>G.lu f r s):=by
 refine Tot.up ?_
 simp only [G.lu]
 refine Tot.bind (D.oH hs hr (by omega)) ?_
 rintro ⟨q,r1⟩ ⟨hq,hr1⟩
 have hq:uU 60 q:=hq
 refine Tot.bind (D.pick (m:=30) hr1 (by omega) rfl (by decide) (by decide)) ?_
 rintro ⟨x,r2⟩ ⟨_,hr2⟩
 refine Tot.ite (fun _ => ?_) (fun _=>Tot.ite (fun _ => ?_) (fun _=>Tot.ite (fun _ => ?_) (fun _=>Tot.ret ⟨hq,hr2.mono (by omega)⟩)))
 ·refine Tot.bind (D.one hr2 (by omega) _ (by decide) (by decide)) ?_
  rintro ⟨c,r3⟩ ⟨_,hr3⟩
  exact Tot.ret ⟨⟨hq.IY,hq.want,hq.avoid,hq.body,hq.ops⟩,hr3.mono (by omega)⟩
 ·refine Tot.bind (D.JP hr2 (by omega)) ?_
  rintro ⟨b,r3⟩ ⟨hb,hr3⟩
  have hb:b.length<=12:=hb
  exact Tot.ret ⟨⟨by show b.length<=60; omega,hq.want,hq.avoid,hq.body,hq.ops⟩,hr3.mono (by omega)⟩
 ·refine Tot.bind (D.Gh hr2 (by omega)) ?_
  rintro ⟨v,r3⟩ ⟨⟨E,hv⟩,hr3⟩
  exact Tot.ret ⟨⟨hq.IY,hq.want,hq.avoid,⟨E,hv.mono (by omega) (Nat.le_refl _)⟩,hq.ops⟩,hr3.mono (by omega)⟩
theorem D.LV {K:Nat} {r:ReaderT} (hr:nN K r) (hK:K<=1000):Tot (fun x=>qg 60 x.1/\xB x.2.1/\nN 1000000 x.2.2) (fun f=>G.fG f r):=by
  refine Tot.up ?_
  simp only [G.fG]
  refine Tot.bind (D.LW hr (by omega)) ?_
  rintro ⟨s,r1⟩ ⟨hs,hr1⟩
  have hs:qg 60 s:=hs
  obtain ⟨x,r2,g,hx,hr2⟩:=T.one hr1 (by omega) [2,3,1,4,0,8] (by decide) (by decide)
  refine Tot.rU g ?_
  obtain ⟨j,hj,rfl⟩:∃ j:Nat,j<=8/\x=(j:Int):=by
    simp only [List.mem_cons,List.not_mem_nil,or_false] at hx
    rcases hx with rfl | rfl | rfl | rfl | rfl | rfl
    · exact ⟨2,by omega,rfl⟩
    · exact ⟨3,by omega,rfl⟩
    · exact ⟨1,by omega,rfl⟩
    · exact ⟨4,by omega,rfl⟩
    · exact ⟨0,by omega,rfl⟩
    · exact ⟨8,by omega,rfl⟩
  have snoc:∀ {z:List RequestT} {q:RequestT},(∀ q,q∈z->uU 60 q)->uU 60 q->∀ x,x∈z++[q]->uU 60 x:=fun hz hq x hx=>by
    rcases List.mem_append.1 hx with h | h
    · exact hz x h
    · rw [List.mem_singleton.1 h]; exact hq
  have L2:∀ (m K:Nat) (r:ReaderT) (z:List RequestT),z.length+m=9->nN K r->K+4000*m<=1000000->(∀ q,q∈z->uU 60 q) ->
      Tot (fun x=>qg 60 x.1/\xB x.2.1/\nN 1000000 x.2.2) (fun f=>G.fG.L2 f (s,r1) r.b r.p z):=by
    intro m
    induction m with
    | zero =>
      intro K r z hz hr hK hq
      refine Tot.up ?_
      simp only [G.fG.L2]
      exact Tot.ite (fun e=>by simp only [decide_eq_true_eq] at e; omega) (fun _=>Tot.ret ⟨hs,⟨by show z.length<=1000; omega,hq⟩,hr.mono (by omega)⟩)
    | succ m ih =>
      intro K r z hz hr hK hq
      refine Tot.up ?_
      simp only [G.fG.L2]
      refine Tot.ite (fun _ => ?_) (fun e=>by simp only [decide_eq_false_iff_not] at e; omega)
      refine Tot.bind (D.oH hs hr (by omega)) ?_
      rintro ⟨q,r3⟩ ⟨hq',hr3⟩
      exact Tot.chk (by omega) (ih (K+4000) r3 (z++[q]) (by simp; omega) (hr3.mono (by omega)) (by omega) (snoc hq hq'))
  have L1:∀ (j K:Nat) (r:ReaderT) (z:List RequestT),z.length+j<=8->nN K r->K+4000*j+50000<=1000000->(∀ q,q∈z->uU 60 q) ->
      Tot (fun x=>qg 60 x.1/\xB x.2.1/\nN 1000000 x.2.2) (fun f=>G.fG.L1 f (s,r1) (j:Int) r.b r.p z):=by
    intro j
    induction j with
    | zero =>
      intro K r z hz hr hK hq
      refine Tot.up ?_
      simp only [G.fG.L1]
      refine Tot.ite (fun e=>by simp at e) (fun _ => ?_)
      refine Tot.bind (D.pick (m:=30) hr (by omega) rfl (by decide) (by decide)) ?_
      rintro ⟨y,r3⟩ ⟨_,hr3⟩
      refine Tot.ite (fun _ => ?_) (fun _=>Tot.ret ⟨hs,⟨by show z.length<=1000; omega,hq⟩,hr3.mono (by omega)⟩)
      exact L2 (9-z.length) (K+1) r3 z (by omega) hr3 (by omega) hq
    | succ j ih =>
      intro K r z hz hr hK hq
      have w:IntKind.wrap .i64 (((j+1:Nat):Int)-1)=(j:Int):=wrapN (by omega) (by omega)
      refine Tot.up ?_
      simp only [G.fG.L1,w]
      refine Tot.ite (fun _ => ?_) (fun e=>absurd e (by simp))
      refine Tot.bind (D.GN hs hr (by omega)) ?_
      rintro ⟨q,r3⟩ ⟨hq',hr3⟩
      exact Tot.chk (by omega) (ih (K+4000) r3 (z++[q]) (by simp; omega) hr3 (by omega) (snoc hq hq'))
  exact L1 j (K+10001) r2 [] (by simp; omega) (hr2.mono (by omega)) (by omega) (fun q hq=>by cases hq)
end Go.Ab
end
section
namespace Go.Ab
open Go
set_option maxRecDepth 100000
def V4 (q:RequestT):Bool := !(q.Method==1)
def Y6 (l:List RequestT) (t:aG):Prop:=∃ q,q∈l/\V4 q=true/\q.Name=t
structure ZX (l:List RequestT) (q:List aG):Prop where
 AX:Asc q=true
 mem:∀ t,t∈q<->wo l=true/\Y6 l t
 len:q.length<=1000
theorem AY {l:List RequestT} (h:wo l=true):(∀ q,q∈l->Jn q=true)/\l.length<=8:=by
 unfold wo at h
 simp only [Bool.and_eq_true,decide_eq_true_eq,List.all_eq_true] at h
 exact h
theorem T.jl {l:List RequestT} (h:xB l):∃ q,Ev (fun f=>G.jl f l) q/\ZX l q:=by
  have hb:=T.dK h
  cases hB:wo l with
  | false =>
    refine ⟨[],Ev.up ?_,rfl,fun t=>by simp [hB],by simp⟩
    simp only [G.jl]
    exact Ev.bind hb (Ev.cf hB (Ev.ret _))
  | true =>
    obtain ⟨hv,hl⟩:=AY hB
    have hz:((l.filter V4).map fun q=>q.Name).length<=8:=by rw [List.length_map]; exact Nat.le_trans (List.length_filter_le _ _) hl
    obtain ⟨q,g,hs,hm,Y4⟩:=T.sort (l:=(l.filter V4).map fun q=>q.Name) (by omega)
    have L:∀ (k i:Nat) (z:List aG),i+k=l.length->z.length<=i->z++((l.drop i).filter V4).map (fun q=>q.Name)=(l.filter V4).map (fun q=>q.Name)->Ev (fun f=>G.jl.L1 f l i z) (WH q):=by
      intro k
      induction k with
      | zero =>
        intro i z hi hz' he
        rw [List.drop_of_length_le (by omega),List.filter_nil,List.map_nil,List.append_nil] at he
        refine Ev.up ?_
        simp only [G.jl.L1]
        rw [he]
        exact Ev.cf (decide_eq_false (by omega)) (Ev.bind g (Ev.chk Y4.symm (Ev.bind (T.compact (by omega)) (Ev.ret _))))
      | succ k ih =>
        intro i z hi hz' he
        have hil:i<l.length:=by omega
        have hq:=hv _ (getD_mem default hil)
        rw [bT (default:RequestT) hil,List.filter_cons] at he
        refine Ev.up ?_
        simp only [G.jl.L1,Int.toNat_natCast,bP (show i+1<9223372036854775808 by omega)]
        refine Ev.ct (decide_eq_true (by omega)) (Ev.chk (by omega) (Ev.bind (T.og lW (h.at_ hil)) ?_))
        rw [hq,Bool.true_and]
        refine Ev.ite (fun e=>ih (i+1) z (by omega) (by omega) ?_) (fun e=>Ev.chk (by omega) (ih (i+1) _ (by omega) (by simp; omega) ?_))
        · have:V4 (l.getD i default)=false:=by unfold V4; rw [show ((l.getD i default).Method==1)=true from e]; rfl
          rw [this] at he
          simpa using he
        · have:V4 (l.getD i default)=true:=by unfold V4; rw [show ((l.getD i default).Method==1)=false from e]; rfl
          rw [this] at he
          simpa using he
    refine ⟨WH q,Ev.up ?_,WI hs,fun t => ?_,?_⟩
    · simp only [G.jl]
      exact Ev.bind hb (Ev.ct hB (L l.length 0 [] (by omega) (by simp) (by simp)))
    · rw [WJ,hm]
      simp only [List.mem_map,List.mem_filter,hB,true_and]
      constructor
      · rintro ⟨x,⟨a,b⟩,c⟩; exact ⟨x,a,b,c⟩
      · rintro ⟨x,a,b,c⟩; exact ⟨x,⟨a,b⟩,c⟩
    · have hd:∀ (m:List aG) (x:aG),(MM x m).length<=m.length:=by
        intro m
        induction m with
        | nil=>intro x; simp [MM]
        | cons y m ih =>
          intro x
          rw [MM]
          split
          · have h1:=ih x; have h2:=ih y; simp; omega
          · have h1:=ih x; have h2:=ih y; simp; omega
      have:(WH q).length<=q.length:=by
        cases q with
        | nil=>simp [WH]
        | cons x q=>have:=hd q x; simp only [WH,List.length_cons]; omega
      omega
end Go.Ab
end
section
namespace Go.Ab
open Go
set_option maxRecDepth 100000
theorem T.wb {b:fE} {c:Int} (hc:0<=c/\c<256) (hl:b.buf.length+1<=140737488355328):Ev (fun f=>G.aP f b c) ((),fE.mk (b.buf++[UInt8.ofNat c.toNat])):=by
 refine Ev.up ?_
 simp only [G.aP]
 exact Ev.chk ⟨hc,hl⟩ (Ev.ret _)
theorem T.ws {b:fE} {s:aG} (hl:b.buf.length+s.length<=140737488355328):Ev (fun f=>G.jE f b s) (((s.length:Nat):Int),(),fE.mk (b.buf++s)):=by
 refine Ev.up ?_
 simp only [G.jE]
 exact Ev.chk hl (Ev.ret _)
theorem T.bs' {b:fE} (hl:b.buf.length<=140737488355328):Ev (fun f=>G.mQ f b) b.buf:=by
 refine Ev.up ?_
 simp only [G.mQ]
 exact Ev.chk hl (Ev.ret _)
theorem QE (b:UInt8):UInt8.ofNat ((b.toNat:Nat):Int).toNat=b:=by simp
theorem T.dG {s z:aG} (h:z.length+2*s.length+2<=4000000000):Ev (fun f=>G.dG f (fE.mk z) s) (fE.mk (z++FY s)):=by
  have yI:∀ (z:aG) (b:UInt8),z.length<5000000000->Ev (fun f=>G.aP f (fE.mk z) ((b.toNat:Nat):Int)) ((),fE.mk (z++[b])):=fun z b hz=>by
    have:=T.wb (b:=fE.mk z) (c:=((b.toNat:Nat):Int)) (by have:=b.toNat_lt; omega) (by show z.length+1<=_; omega)
    rwa [QE] at this
  have L:∀ (k i:Nat) (z:aG),i+k=s.length->z.length+2*k+1<=4000000001->Ev (fun f=>G.dG.L3 f s (i:Int) z) (fE.mk (z++((s.drop i).flatMap Ee++[34]))):=by
    intro k
    induction k with
    | zero =>
      intro i z hi hz
      rw [List.drop_eq_nil_of_le (by omega)]
      refine Ev.up ?_
      simp only [G.dG.L3]
      exact Ev.cf (decide_eq_false (by omega)) (Ev.bind (yI z 34 (by omega)) (Ev.ret' rfl))
    | succ k ih =>
      intro i z hi hz
      have hlt:i<s.length:=by omega
      have hd:s.drop i=s.getD i 0::s.drop (i+1):=by rw [List.drop_eq_getElem_cons hlt]; simp [List.getD,hlt]
      have hK:∀ z:aG,z.length+2*k+2<=4000000001->Ev (fun f=>G.dG.K4 f s (i:Int) z) (fE.mk (z++(s.getD i 0::((s.drop (i+1)).flatMap Ee++[34])))):=fun z hz=>by
        refine Ev.up ?_
        simp only [G.dG.K4]
        rw [Int.toNat_natCast]
        refine Ev.chk (by omega) (Ev.bind (yI z (s.getD i 0) (by omega)) ?_)
        rw [bP (by omega)]
        have:=ih (i+1) (z++[s.getD i 0]) (by omega) (by simp; omega)
        simpa using this
      rw [hd]
      refine Ev.up ?_
      simp only [G.dG.L3]
      rw [Int.toNat_natCast]
      refine Ev.ct (decide_eq_true (by omega)) (Ev.chk (by omega) (Ev.ite (fun e => ?_) (fun e=>Ev.chk (by omega) (Ev.ite (fun e2 => ?_) (fun e2 => ?_)))))
      · have hb:s.getD i 0=34:=UInt8.toNat_inj.1 (by have:=beq_iff_eq.1 e; show (s.getD i 0).toNat=34; omega)
        refine Ev.bind (yI z 92 (by omega)) ?_
        have:=hK (z++[92]) (by simp; omega)
        rw [hb] at this ⊢
        simpa [Ee] using this
      · have hb:s.getD i 0=92:=UInt8.toNat_inj.1 (by have:=beq_iff_eq.1 e2; show (s.getD i 0).toNat=92; omega)
        refine Ev.bind (yI z 92 (by omega)) ?_
        have:=hK (z++[92]) (by simp; omega)
        rw [hb] at this ⊢
        simpa [Ee] using this
      · have:=hK z (by omega)
        have hq:Ee (s.getD i 0)=[s.getD i 0]:=by
          unfold Ee
          rw [if_neg]
          rintro (h | h)
          · rw [h] at e; simp at e
          · rw [h] at e2; simp at e2
        rw [List.flatMap_cons,hq]
        simpa using this
  refine Ev.up ?_
  simp only [G.dG]
  refine Ev.bind (yI z 34 (by omega)) ?_
  have:=L s.length 0 (z++[34]) (by omega) (by simp; omega)
  simpa [FY] using this
end Go.Ab
end
section
namespace Go.Ab
open Go
set_option maxRecDepth 100000
theorem UL (z:Int):Lib.itoa z=Kw z:=by
 unfold Lib.itoa Kw
 split
 ·rw [O3 (z.natAbs+1) z.natAbs (by omega),show z.natAbs=(-z).toNat from by omega]
 ·rw [O3 (z.toNat+1) z.toNat (by omega)]
theorem T.itoa {z:Int} (h : -900000000000000<=z/\z<=900000000000000):Ev (fun f=>G.strconv_Itoa f z) (Kw z):=by
 rw [<- UL]; exact T.Itoa h
theorem Pz {n:af} (h:Parts n=true):n.Kind=0\/n.Kind=1\/n.Kind=2\/n.Kind=3\/n.Kind=4:=by
 by_cases h0:n.Kind=0\/n.Kind=1\/n.Kind=2\/n.Kind=3\/n.Kind=4
 ·exact h0
 ·simp only [not_or] at h0
  obtain ⟨a,b,c,d,e⟩:=h0
  unfold Parts at h
  rw [if_neg a,if_neg b,if_neg c,if_neg d,if_neg e] at h
  simp at h
theorem yI {z:aG} (b:UInt8) (hz:z.length<5000000000):Ev (fun f=>G.aP f (fE.mk z) ((b.toNat:Nat):Int)) ((),fE.mk (z++[b])):=by
 have:=T.wb (b:=fE.mk z) (c:=((b.toNat:Nat):Int)) (by have:=b.toNat_lt; omega) (by show z.length+1<=_; omega)
 rwa [QE] at this
theorem MX (F:af->aG) (n:af) (i:Nat):uJ F n i=(if 0<i then [44] else [])++((if n.Kind=4 then FY (n.Names.getD i default)++[58] else [])++F (n.Kids.getD i default)):=by
 unfold uJ; rw [List.append_assoc]
theorem T.aZ:∀ (d:Nat) {n:af} {z:aG},Shape d n=true->z.length+(qV d n).length<=2000000000->Ev (fun f=>G.aZ f (fE.mk z) n) (fE.mk (z++qV d n))
  | 0,_,_,h,_=>by cases h
  | d+1,n,z,h,hz=>by
    have hp:=lV h
    have h6:=tq h
    rw [EG] at hz ⊢
    have L3:n.Kind=3->∀ (k i:Nat) (z:aG),i+k=n.Kids.length->z.length+((List.range' i k).flatMap (uJ (qV d) n)++[93]).length<=2000000000 ->
        Ev (fun f=>G.aZ.L3 f n (i:Int) z) (fE.mk (z++((List.range' i k).flatMap (uJ (qV d) n)++[93]))):=by
      intro hk3 k
      induction k with
      | zero =>
        intro i z hi hz
        refine Ev.up ?_
        simp only [G.aZ.L3]
        refine Ev.cf (decide_eq_false (by omega)) (Ev.bind (yI 93 (by omega)) (Ev.ret' ?_))
        simp
      | succ k ih =>
        intro i z hi hz
        have hil:i<n.Kids.length:=by omega
        rw [List.range'_succ,List.flatMap_cons] at hz ⊢
        simp only [List.length_append] at hz
        have ez:uJ (qV d) n i=(if 0<i then [44] else [])++qV d (n.Kids.getD i default):=by rw [MX,if_neg (by omega:¬ n.Kind=4),List.nil_append]
        have hK:∀ z':aG,z'=z++(if 0<i then [44] else [])->Ev (fun f=>G.aZ.K4 f n (i:Int) z') (fE.mk (z++((uJ (qV d) n i++(List.range' (i+1) k).flatMap (uJ (qV d) n))++[93]))):=fun z' he=>by
          have e2:z'++qV d (n.Kids.getD i default)=z++uJ (qV d) n i:=by rw [he,ez,List.append_assoc]
          have e3:=congrArg List.length e2
          simp only [List.length_append] at e3
          refine Ev.up ?_
          simp only [G.aZ.K4,Int.toNat_natCast,bP (show i+1<9223372036854775808 by omega)]
          refine Ev.bind (T.aZ d (rC h hil) (by omega)) ?_
          refine (ih (i+1) _ (by omega) (by simp only [List.length_append]; omega)).eq ?_
          rw [e2]; simp only [List.append_assoc]
        refine Ev.up ?_
        simp only [G.aZ.L3]
        refine Ev.ct (decide_eq_true (by omega)) (Ev.chk (by omega) ?_)
        by_cases h0:0<i
        · exact Ev.ct (decide_eq_true (by omega)) (Ev.bind (yI 44 (by omega)) (hK _ (by rw [if_pos h0])))
        · exact Ev.cf (decide_eq_false (by omega)) (hK _ (by rw [if_neg h0,List.append_nil]))
    have L7:n.Kind=4->∀ (k i:Nat) (z:aG),i+k=n.Kids.length->z.length+((List.range' i k).flatMap (uJ (qV d) n)++[125]).length<=2000000000 ->
        Ev (fun f=>G.aZ.L7 f n (i:Int) z) (fE.mk (z++((List.range' i k).flatMap (uJ (qV d) n)++[125]))):=by
      intro hk4 k
      obtain ⟨mn,_,hn⟩:=D5 hp hk4
      induction k with
      | zero =>
        intro i z hi hz
        refine Ev.up ?_
        simp only [G.aZ.L7]
        refine Ev.cf (decide_eq_false (by omega)) (Ev.bind (yI 125 (by omega)) (Ev.ret' ?_))
        simp
      | succ k ih =>
        intro i z hi hz
        have hil:i<n.Kids.length:=by omega
        have hin:i<n.Names.length:=by rw [<- mn.len]; exact hil
        have h12:=hn _ (getD_mem default hin)
        rw [List.range'_succ,List.flatMap_cons] at hz ⊢
        simp only [List.length_append] at hz
        have ez:uJ (qV d) n i=(if 0<i then [44] else [])++((FY (n.Names.getD i default)++[58])++qV d (n.Kids.getD i default)):=by rw [MX,if_pos hk4]
        have hK:∀ z':aG,z'=z++(if 0<i then [44] else [])->Ev (fun f=>G.aZ.K8 f n (i:Int) z') (fE.mk (z++((uJ (qV d) n i++(List.range' (i+1) k).flatMap (uJ (qV d) n))++[125]))):=fun z' he=>by
          have e2:((z'++FY (n.Names.getD i default))++[58])++qV d (n.Kids.getD i default)=z++uJ (qV d) n i:=by rw [he,ez]; simp only [List.append_assoc]
          have e3:=congrArg List.length e2
          simp only [List.length_append] at e3
          refine Ev.up ?_
          simp only [G.aZ.K8,Int.toNat_natCast,bP (show i+1<9223372036854775808 by omega)]
          refine Ev.chk (by omega) (Ev.bind (T.dG (by omega)) (Ev.bind (yI 58 (by simp only [List.length_append]; omega)) ?_))
          refine Ev.bind (T.aZ d (rC h hil) (by simp only [List.length_append]; omega)) ?_
          refine (ih (i+1) _ (by omega) (by simp only [List.length_append]; omega)).eq ?_
          rw [e2]; simp only [List.append_assoc]
        refine Ev.up ?_
        simp only [G.aZ.L7]
        refine Ev.ct (decide_eq_true (by omega)) (Ev.chk (by omega) ?_)
        by_cases h0:0<i
        · exact Ev.ct (decide_eq_true (by omega)) (Ev.bind (yI 44 (by omega)) (hK _ (by rw [if_pos h0])))
        · exact Ev.cf (decide_eq_false (by omega)) (hK _ (by rw [if_neg h0,List.append_nil]))
    refine Ev.up ?_
    simp only [G.aZ]
    rcases Pz hp with e | e | e | e | e<;>simp only [e,reduceIte,Int.reduceEq] at hz ⊢
    · exact Ev.ct rfl (Ev.bind (T.ws (by simp only [List.length_cons,List.length_nil] at hz ⊢; omega)) (Ev.ret _))
    · obtain ⟨b1,b2⟩:=E5 hp e
      exact Ev.cf rfl (Ev.ct rfl (Ev.bind (T.itoa (by omega)) (Ev.bind (T.ws (by show z.length+_<=_; omega)) (Ev.ret _))))
    · have:=CZ hp
      exact Ev.cf rfl (Ev.cf rfl (Ev.ct rfl (Ev.bind (T.dG (by omega)) (Ev.ret _))))
    · refine Ev.cf rfl (Ev.cf rfl (Ev.cf rfl (Ev.ct rfl (Ev.bind (yI 91 (by omega)) ?_))))
      refine (L3 e n.Kids.length 0 (z++[91]) (by omega) (by simp only [List.length_append,List.length_cons,List.length_nil] at hz ⊢; omega)).eq ?_
      simp only [List.append_assoc]
    · refine Ev.cf rfl (Ev.cf rfl (Ev.cf rfl (Ev.cf rfl (Ev.ct rfl (Ev.bind (yI 123 (by omega)) ?_)))))
      refine (L7 e n.Kids.length 0 (z++[123]) (by omega) (by simp only [List.length_append,List.length_cons,List.length_nil] at hz ⊢; omega)).eq ?_
      simp only [List.append_assoc]
theorem fmt5 {n:af} (h:Val n=true):(qV 5 n).length<=4000000:=by
 have:=Gn 5 (kZ h)
 have:=E8 (Nat.le_refl 5)
 omega
def XC (n:af):aG:=if Val n then qV 5 n else []
theorem T.lg {B D:Nat} {n:af} (hB:B<=lim) (h:Fine B D n):Ev (fun f=>G.lg f n) (XC n):=by
 refine Ev.up ?_
 simp only [G.lg]
 unfold XC
 refine Ev.bind (T.aO hB h) (Ev.ite (fun e => ?_) (fun e=>Ev.ret' (by rw [e]; rfl)))
 have hl:=fmt5 e
 rw [e]
 exact Ev.bind (T.aZ 5 (kZ e) (by simp only [List.length_nil]; omega)) (Ev.bind (T.bs' (by show (_:aG).length<=_; simp only [List.nil_append]; omega)) (Ev.ret _))
theorem T.fM (s:aG) (hs:s.length<big):Ev (fun f=>G.fM f s) (Ja (Ti s)):=by
  unfold big at hs
  have hM:=maxL
  have L2:∀ m:Nat,m<65521->Ev (fun f=>G.fM.L2 f (m:Int) 3 (List.replicate 4 0)) (Ja m):=fun m hm=>by
    have st:∀ m:Nat,m<65521->IntKind.wrap .i64 (Int.tdiv (m:Int) 16)=((m/16:Nat):Int):=fun m hm=>by rw [show (16:Int)=((16:Nat):Int) from rfl,xx]; exact wrapN rfl (by omega)
    have tm:∀ m:Nat,Int.tmod (m:Int) 16=((m%16:Nat):Int):=fun m=>by rw [show (16:Int)=((16:Nat):Int) from rfl,vM]
    refine Ev.up ?_
    simp only [G.fM.L2,tm,st m hm,Int.toNat_natCast]
    refine Ev.ct rfl (Ev.chk (by omega) (Ev.chk (by simp) (Ev.chk (by omega) ?_)))
    refine Ev.up ?_
    simp only [G.fM.L2,tm,st (m/16) (by omega),Int.toNat_natCast]
    refine Ev.ct rfl (Ev.chk (by omega) (Ev.chk (by simp; decide) (Ev.chk (by decide) ?_)))
    refine Ev.up ?_
    simp only [G.fM.L2,tm,st (m/16/16) (by omega),Int.toNat_natCast]
    refine Ev.ct rfl (Ev.chk (by omega) (Ev.chk (by simp; decide) (Ev.chk (by decide) ?_)))
    refine Ev.up ?_
    simp only [G.fM.L2,tm,st (m/16/16/16) (by omega),Int.toNat_natCast]
    refine Ev.ct rfl (Ev.chk (by omega) (Ev.chk (by simp; decide) (Ev.chk (by decide) ?_)))
    refine Ev.up ?_
    simp only [G.fM.L2]
    refine Ev.cf rfl (Ev.chk (by simp) (Ev.chk (by simp; omega) (Ev.ret' ?_)))
    unfold Ja RF
    rw [show m/4096=m/16/16/16%16 by omega,show m/256%16=m/16/16%16 by omega]
    show wZ [((hexD.getD (m/16/16/16%16) 0).toNat:Int),((hexD.getD (m/16/16%16) 0).toNat:Int),((hexD.getD (m/16%16) 0).toNat:Int),((hexD.getD (m%16) 0).toNat:Int)]=_
    simp [wZ]
  have L:∀ (k i m:Nat),i+k=s.length->m<65521->Ev (fun f=>G.fM.L1 f s (m:Int) i) (Ja ((s.drop i).foldl (fun n b=>(131*n+b.toNat)%65521) m)):=by
    intro k
    induction k with
    | zero =>
      intro i m hi hm
      refine Ev.up ?_
      simp only [G.fM.L1]
      rw [List.drop_of_length_le (by omega)]
      exact Ev.cf (decide_eq_false (by omega)) (L2 m hm)
    | succ k ih =>
      intro i m hi hm
      have hb:=(s.getD i 0).toNat_lt
      refine Ev.up ?_
      simp only [G.fM.L1,Int.toNat_natCast,yt,bP (show i+1<9223372036854775808 by omega),wrapN (x:=131*(m:Int)) (m:=131*m) (by omega) (by omega)]
      rw [wrapN (x:=((131*m:Nat):Int)+(((s.getD i 0).toNat:Nat):Int)) (m:=131*m+(s.getD i 0).toNat) (by omega) (by omega),show (65521:Int)=((65521:Nat):Int) from rfl,vM]
      rw [bT (0:UInt8) (by omega:i<s.length),List.foldl_cons]
      exact Ev.ct (decide_eq_true (by omega)) (Ev.chk (by omega) (ih (i+1) _ (by omega) (Nat.mod_lt _ (by omega))))
  refine Ev.up ?_
  simp only [G.fM]
  exact L s.length 0 17 (by omega) (by omega)
theorem T.lF {B D:Nat} {n:af} (hB:B<=lim) (h:Fine B D n):Ev (fun f=>G.lF f n) (pK n):=by
 refine Ev.up ?_
 simp only [G.lF]
 unfold pK
 refine Ev.bind (T.aO hB h) (Ev.ite (fun e => ?_) (fun e=>Ev.ret' (by rw [e]; rfl)))
 have hl:=fmt5 e
 have hf:=T.lg hB h
 unfold XC at hf
 rw [e] at hf ⊢
 exact Ev.bind hf (Ev.bind (T.fM _ (by show (qV 5 n).length<_; unfold big; omega)) (Ev.ret _))
end Go.Ab
end
section
namespace Go.Ab
open Go
set_option maxRecDepth 100000
theorem SH {n:af} {s:aG} : tJ n [s]=uM n s:=by
 unfold tJ wz
 rfl
theorem T.gy:∀ (d:Nat) {E:Nat} {n p:af},d<=5->Shape d p=true->ShN E n->Ev (fun f=>G.gy f n p) (Bj d n p)
  | 0,_,_,_,_,h,_=>by cases h
  | d+1,E,n,p,hd,hp,hn=>by
    refine Ev.up ?_
    simp only [G.gy]
    rw [Ih]
    refine Ev.ite (fun c => ?_) (fun c => ?_)
    · have:¬ p.Kind=4:=by simpa using c
      rw [if_neg this]
      exact Ev.bind (T.aB rH (pR hp)) (Ev.ret _)
    · have kp:p.Kind=4:=by simpa using c
      rw [if_pos kp]
      have mp:=Qu hp kp
      obtain ⟨e,he,hb,hq⟩:=Oz hn
      have hl:=mp.len
      have hk:=mp.mp.map.len
      have hF:=fun (o q:af) (ho:ShN e o) (hq:Shape d q=true)=>D7 d hq ho
      have facts:=fun i hi=>ES (F:=Bj d) mp (D6 hb (by omega:e<=d+e+1) (Nat.le_refl _)) (Q:=ShN e) (.inr rfl) hq hF i hi
      have L:∀ (t i:Nat),i+t=p.Kids.length->Ev (fun f=>G.gy.L2 f p (i:Int) ((List.range' 0 i).foldl (FX (Bj d) p) (Et n)).Kind ((List.range' 0 i).foldl (FX (Bj d) p) (Et n)).Num ((List.range' 0 i).foldl (FX (Bj d) p) (Et n)).Text ((List.range' 0 i).foldl (FX (Bj d) p) (Et n)).Names ((List.range' 0 i).foldl (FX (Bj d) p) (Et n)).Kids) ((List.range' 0 p.Kids.length).foldl (FX (Bj d) p) (Et n)):=by
        intro t
        induction t with
        | zero =>
          intro i hi
          have:i=p.Kids.length:=by omega
          subst this
          refine Ev.up ?_
          simp only [G.gy.L2]
          exact Ev.cf (decide_eq_false (by omega)) (Ev.ret' (af.eta _))
        | succ t ih =>
          intro i hi
          have hnx:=ih (i+1) (by omega)
          rw [zf,List.foldl_append,List.foldl_cons,List.foldl_nil] at hnx
          obtain ⟨h1,h2⟩:=facts i (by omega)
          generalize (List.range' 0 i).foldl (FX (Bj d) p) (Et n)=m at h1 h2 hnx ⊢
          have hi':i<p.Kids.length:=by omega
          have hx:=rC mp.sh hi'
          have hc:=h1.cnt
          have hms:lk m (p.Names.getD i default)=lk (Et n) (p.Names.getD i default):=by rw [h2,if_neg (EX mp.mp.map hi')]
          have hfm:=h1.fine (by omega)
          refine Ev.up ?_
          simp only [G.gy.L2,Int.toNat_natCast,bP (show i+1<9223372036854775808 by omega),af.eta]
          unfold FX at hnx
          refine Ev.ct (decide_eq_true (by omega)) (Ev.chk (by omega) (Ev.bind (T.fB _ rH hfm) (Ev.chk (by omega) ?_)))
          cases hpl:uF m (p.Names.getD i default) with
          | none =>
            have neg:decide (0<=vJ none)=false:=by decide
            have hlk:lk m (p.Names.getD i default)=none:=by unfold lk; rw [hpl]; rfl
            by_cases c:(p.Kids.getD i default).Kind=0
            · rw [if_pos c] at hnx
              have:(uM m (p.Names.getD i default)).getD m=m:=by unfold uM; rw [hpl]; rfl
              rw [this] at hnx
              exact Ev.ct (by simpa using c) (Ev.cf neg (Ev.chk (by omega) (Ev.cf (by simpa using c) (Ev.chk (by omega) hnx))))
            · rw [if_neg c,hlk] at hnx
              have hf:=hF mX _ (.inr rfl) hx
              obtain ⟨g1,_⟩:=PG h1 (mp.name hi') hf
              have g3:=T.jd (p.Names.getD i default) (show 12<lim by decide) hfm hf
              rw [g1] at g3
              exact Ev.cf (by simpa using c) (Ev.chk (by omega) (Ev.ct (by simpa using c) (Ev.cf neg (Ev.chk (by omega) (Ev.chk (by omega) (Ev.bind (T.gy d (by omega) hx (.inr rfl:ShN 0 mX)) (Ev.bind g3 hnx)))))))
          | some j =>
            have pos:decide (0<=vJ (some j))=true:=decide_eq_true (by show (0:Int)<=(j:Int); omega)
            have hjl:=qp hpl
            have hlk:lk m (p.Names.getD i default)=some (m.Kids.getD j default):=by unfold lk; rw [hpl]; rfl
            by_cases c:(p.Kids.getD i default).Kind=0
            · rw [if_pos c] at hnx
              have g3:=T.gG [p.Names.getD i default] (show 12+1<lim by decide) (by unfold big; simp) hfm
              rw [SH] at g3
              obtain ⟨m',hm'⟩:∃ m',uM m (p.Names.getD i default)=some m':=by unfold uM; rw [hpl]; exact ⟨_,rfl⟩
              rw [hm'] at g3 hnx
              exact Ev.ct (by simpa using c) (Ev.ct pos (Ev.bind g3 hnx))
            · rw [if_neg c,hlk] at hnx
              have hso:ShN e (m.Kids.getD j default):=by
                rw [hms] at hlk
                exact hq _ (Pm hlk)
              have hf:=hF _ _ hso hx
              have e1:NJ m (p.Names.getD i default) (Bj d (m.Kids.getD j default) (p.Kids.getD i default))=xq m j (Bj d (m.Kids.getD j default) (p.Kids.getD i default)):=by unfold NJ; rw [JL h1.mp.map hpl]; rfl
              rw [Option.getD_some,e1] at hnx
              refine Ev.cf (by simpa using c) (Ev.chk (by omega) (Ev.ct (by simpa using c) (Ev.ct pos ?_)))
              show Ev (fun f=>Ab.chk _ _) _
              simp only [vJ,Int.toNat_natCast]
              exact Ev.chk (by omega) (Ev.chk (by omega) (Ev.bind (T.gy d (by omega) hx hso) (Ev.bind (T.jD rH hfm hf hjl) hnx)))
      have L':Ev (fun f=>G.gy.K1 f p (Et n).Kind (Et n).Num (Et n).Text (Et n).Names (Et n).Kids) ((List.range' 0 p.Kids.length).foldl (FX (Bj d) p) (Et n)):=by
        refine Ev.up ?_
        simp only [G.gy.K1]
        exact L p.Kids.length 0 (by omega)
      unfold Et at L' ⊢
      refine Ev.ite (fun c => ?_) (fun c => ?_)
      · have kn:n.Kind=4:=by simpa using c
        rw [if_pos kn] at L' ⊢
        have hf:Fine 12 E n:=by
          rcases hn with h | h
          · exact pR h
          · rw [h] at kn; cases kn
        exact Ev.bind (T.aB rH hf) L'
      · have kn:¬ n.Kind=4:=by simpa using c
        rw [if_neg kn] at L' ⊢
        exact L'
def Om (n p:af):Option af:=if Val n&&Val p then (some (Bj 5 n p)).filter Val else none
theorem T.lG {D E:Nat} {n p:af} (hn:Fine 60 D n) (hp:Fine 60 E p):Ev (fun f=>G.lG f n p) (jT (Om n p)):=by
 refine Ev.up ?_
 simp only [G.lG]
 unfold Om
 refine Ev.bind (T.bH lW hn) (Ev.ite (fun e1 => ?_) (fun e1=>Ev.ret' (by rw [e1]; rfl)))
 refine Ev.bind (T.bH lW hp) (Ev.ite (fun e2 => ?_) (fun e2=>Ev.ret' (by rw [e1,e2]; rfl)))
 have gp:=T.gy 5 (by omega) (kZ e2) (.inl (kZ e1))
 have gc:=T.kV (o:=some (Bj 5 n p)) rH (fun m hm=>by cases hm; exact D7 5 (kZ e2) (.inl (kZ e1)))
 rw [e1,e2]
 exact Ev.bind gp (Ev.bind gc (Ev.ret _))
def Oo (l:List aG) (t:aG):Bool:=decide (t∈l)||decide (([42]:aG)∈l)
theorem T.jG {l:List aG} {t:aG} (hl:l.length<=1000):Ev (fun f=>G.jG f l t) (Oo l t):=by
  have L:∀ (k i:Nat),i+k=l.length->Ev (fun f=>G.jG.L1 f l t i) (Oo (l.drop i) t):=by
    intro k
    induction k with
    | zero =>
      intro i hi
      refine Ev.up ?_
      simp only [G.jG.L1]
      refine Ev.cf (decide_eq_false (by omega)) (Ev.ret' ?_)
      rw [List.drop_of_length_le (by omega)]; rfl
    | succ k ih =>
      intro i hi
      have e:Oo (l.drop i) t=(l.getD i default==t||(l.getD i default==[42]||Oo (l.drop (i+1)) t)):=by
        rw [bT default (by omega:i<l.length)]
        unfold Oo
        rw [Bool.eq_iff_iff]
        simp only [Bool.or_eq_true,decide_eq_true_eq,List.mem_cons,beq_iff_eq]
        constructor
        · rintro ((h | h) | (h | h))
          · exact .inl h.symm
          · exact .inr (.inr (.inl h))
          · exact .inr (.inl h.symm)
          · exact .inr (.inr (.inr h))
        · rintro (h | h | h | h)
          · exact .inl (.inl h.symm)
          · exact .inr (.inl h.symm)
          · exact .inl (.inr h)
          · exact .inr (.inr h)
      refine Ev.up ?_
      simp only [G.jG.L1,Int.toNat_natCast,bP (show i+1<9223372036854775808 by omega)]
      rw [e]
      refine Ev.ct (decide_eq_true (by omega)) (Ev.chk (by omega) (Ev.ite (fun e1=>Ev.ret' (by rw [e1]; rfl)) (fun e1=>Ev.chk (by omega) (Ev.ite (fun e2=>Ev.ret' (by rw [e1,e2]; rfl)) (fun e2 => ?_)))))
      rw [e1,e2]
      exact ih (i+1) (by omega)
  refine Ev.up ?_
  simp only [G.jG]
  exact L l.length 0 (by omega)
theorem T.Contains {l:List aG} {t:aG} (hl:l.length<=1000):Ev (fun f=>G.slices_Contains_string f l t) (decide (t∈l)):=by
  have L:∀ (k i:Nat),i+k=l.length->∃ r:Int,Ev (fun f=>G.slices_Index_string.L1 f l t i) r/\decide (0<=r)=decide (t∈l.drop i):=by
    intro k
    induction k with
    | zero =>
      intro i hi
      refine ⟨-1,Ev.up ?_,by rw [List.drop_of_length_le (by omega)]; simp⟩
      simp only [G.slices_Index_string.L1]
      exact Ev.cf (decide_eq_false (by omega)) (Ev.ret _)
    | succ k ih =>
      intro i hi
      rw [bT default (by omega:i<l.length)]
      by_cases c:t=l.getD i default
      · refine ⟨i,Ev.up ?_,by rw [<- c]; simp⟩
        simp only [G.slices_Index_string.L1,Int.toNat_natCast]
        exact Ev.ct (decide_eq_true (by omega)) (Ev.chk (by omega) (Ev.ct (beq_iff_eq.2 c) (Ev.ret _)))
      · obtain ⟨r,h1,h2⟩:=ih (i+1) (by omega)
        refine ⟨r,Ev.up ?_,by rw [h2]; simp only [List.mem_cons,c,false_or]⟩
        simp only [G.slices_Index_string.L1,Int.toNat_natCast,bP (show i+1<9223372036854775808 by omega)]
        exact Ev.ct (decide_eq_true (by omega)) (Ev.chk (by omega) (Ev.cf (beq_eq_false_iff_ne.2 c) h1))
  obtain ⟨r,h1,h2⟩:=L l.length 0 (by omega)
  rw [List.drop_zero] at h2
  refine Ev.up ?_
  simp only [G.slices_Contains_string]
  refine Ev.bind (a:=r) (Ev.up ?_) (Ev.ret' h2)
  simp only [G.slices_Index_string]
  exact h1
theorem T.kW {l:List aG} {t:aG} (hl:l.length<=1000):Ev (fun f=>G.kW f l t) (Oo l t):=by
 refine Ev.up ?_
 simp only [G.kW]
 unfold Oo
 exact Ev.bind (T.Contains hl) (Ev.ite (fun e=>Ev.ret' (by rw [e]; rfl)) (fun e=>Ev.bind (T.Contains hl) (Ev.ret' (by rw [e]; rfl))))
def uG (w a:List aG) (t:aG) (rd:Bool):Int :=
 if !w.isEmpty&&(t==[] || !Oo w t) then 412 else if !a.isEmpty&&(!(t==[])&&Oo a t) then (if rd then 304 else 412) else 200
theorem Qs {α:Type} (l:List α):decide ((0:Int)<((l.length:Nat):Int)) = !l.isEmpty:=by cases l<;>simp
theorem T.nZ {w a:List aG} {t:aG} {rd:Bool} (hw:w.length<=1000) (ha:a.length<=1000):Ev (fun f=>G.nZ f w a t rd) (uG w a t rd):=by
 refine Ev.up ?_
 simp only [G.nZ,Qs]
 unfold uG
 have A:=T.jG (t:=t) ha
 have W:=T.jG (t:=t) hw
 generalize Oo a t=na at *
 generalize Oo w t=nw at *
 generalize w.isEmpty=ew
 generalize a.isEmpty=ea
 generalize (t==[])=et
 cases ew<;>cases ea<;>cases et<;>cases na<;>cases nw<;>cases rd<;>exact Qj
theorem T.iO {w a:List aG} {t:aG} {rd:Bool} (hw:xC w=true) (ha:xC a=true) (sw:Sm w) (sa:Sm a) (ht:t=[]\/(GI t=true/\t.length<big)) (lw:w.length<=1000) (la:a.length<=1000):Ev (fun f=>G.iO f w a t rd) (uG w a t rd):=by
 have K:Ev (fun f=>G.iO.K1 f w a t rd) (uG w a t rd):=by
  refine Ev.up ?_
  simp only [G.iO.K1,Qs]
  unfold uG
  have A:=T.kW (t:=t) la
  have W:=T.kW (t:=t) lw
  clear ht
  generalize Oo a t=na at *
  generalize Oo w t=nw at *
  generalize w.isEmpty=ew
  generalize a.isEmpty=ea
  generalize (t==[])=et
  cases ew<;>cases ea<;>cases et<;>cases na<;>cases nw<;>cases rd<;>exact Qj
 refine Ev.up ?_
 simp only [G.iO]
 have h1:=T.iD sw
 have h2:=T.iD sa
 rw [hw] at h1
 rw [ha] at h2
 refine Ev.bind h1 (Ev.ct rfl (Ev.bind h2 (Ev.ct rfl (Ev.ite (fun _=>K) (fun e => ?_)))))
 rcases ht with h | ⟨h,hl⟩
 ·rw [h] at e; cases e
 ·have h3:=T.kC t hl
  rw [h] at h3
  exact Ev.bind h3 (Ev.ct rfl K)
end Go.Ab
end
section
namespace Go.Ab
open Go
set_option maxRecDepth 100000
theorem MR {l:List aA} {t:aG} {p:Nat} (hA:Asc (rX l)=true) (hp:LB (rX l) t p):FC l t=if decide (p<l.length)&&(l.getD p default).Name==t then some p else none:=by
 have at_:∀ q,q<l.length->(rX l).getD q default=(l.getD q default).Name:=fun q h=>vV h
 by_cases c:p<l.length/\(l.getD p default).Name=t
 ·rw [if_pos (by simpa using c)]
  refine xh.2 ⟨c.1,c.2,fun q hq => ?_⟩
  have:=hp.lo q hq
  rw [at_ q (by omega)] at this
  exact xG this
 ·rw [if_neg (by simpa using c)]
  refine H6.2 fun it hit e => ?_
  obtain ⟨q,hq,rfl⟩:=List.mem_iff_getElem.1 hit
  have e:(l.getD q default).Name=t:=by rw [dh _ hq]; exact e
  by_cases h1:q<p
  ·have:=hp.lo q h1
   rw [at_ q hq,e,Cj] at this; cases this
  ·by_cases h2:q=p
   ·subst h2; exact c ⟨hq,e⟩
   ·have h3:=uX hA p q (by omega) (by rw [qW]; exact hq)
    have h4:=hp.hi p (Nat.le_refl _) (by rw [qW]; omega)
    rw [at_ q hq,e] at h3
    rw [h3] at h4; cases h4
theorem MQ {l:List aA} {t:aG} {j:Nat} (hA:Asc (rX l)=true) (h:FC l t=some j):(l.filter fun it => !(it.Name==t))=l.take j++l.drop (j+1):=by
 obtain ⟨h1,h2,h3⟩:=xh.1 h
 have e:l=l.take j++l.getD j default::l.drop (j+1):=by rw [<- bT default h1,List.take_append_drop]
 have a1:(l.take j).filter (fun it => !(it.Name==t))=l.take j:=List.filter_eq_self.2 fun it hit=>by
  obtain ⟨q,hq,rfl⟩:=List.mem_iff_getElem.1 hit
  rw [List.length_take] at hq
  have:=h3 q (by omega)
  rw [dh _ (by omega)] at this
  rw [List.getElem_take]
  simpa using this
 have a2:(l.drop (j+1)).filter (fun it => !(it.Name==t))=l.drop (j+1):=List.filter_eq_self.2 fun it hit=>by
  obtain ⟨q,hq,rfl⟩:=List.mem_iff_getElem.1 hit
  rw [List.length_drop] at hq
  have:=uX hA j (j+1+q) (by omega) (by rw [qW]; omega)
  rw [vV h1,vV (by omega),h2] at this
  have:=xG this
  rw [dh _ (by omega)] at this
  rw [List.getElem_drop]
  simpa using fun e=>this e.symm
 conv=>lhs; rw [e]
 rw [List.filter_append,List.filter_cons,a1,a2,h2]
 simp
section
variable {B:Nat} {s:StoreT} (t:aG) (hB:B<=lim) (h:qg B s)
include hB h
theorem T.ji:Ev (fun f=>G.ji f s t) (ND (qY s t)):=by
 have hl:=h.len
 unfold lim at hB
 refine Ev.up ?_
 simp only [G.ji]
 unfold qY
 refine Ev.bind (T.bg hB h) (Ev.ite (fun e => ?_) (fun e=>Ev.ret' (by rw [e]; rfl)))
 have hs:=nD.1 e
 obtain ⟨p,g,hp⟩:=T.jS t (by unfold big; omega) hs.AX
 rw [if_pos e,MR hs.AX hp]
 refine Ev.bind g (Ev.ite (fun c => ?_) (fun c => ?_))
 ·have c:decide (p<s.Items.length)&&(s.Items.getD p default).Name==t:=c
  rw [if_pos c]
  have c1:p<s.Items.length:=by simp only [Bool.and_eq_true,decide_eq_true_eq] at c; exact c.1
  obtain ⟨D,hD⟩:=(h.at_ c1).2
  refine Ev.chk (by show (0:Int)<=(p:Int)/\(p:Int)<_; omega) (Ev.bind (Ev.up ?_) (Ev.ret _))
  simp only [G.lK,Int.toNat_natCast]
  exact Ev.bind (T.aF hB hD) (Ev.ret _)
 ·have c:(decide (p<s.Items.length)&&(s.Items.getD p default).Name==t)=false:=c
  rw [if_neg (by rw [c]; simp)]
  exact Ev.ret _
theorem T.mD:Ev (fun f=>G.mD f s t) (zJ (wY s t)):=by
 have hl:=h.len
 unfold lim at hB
 refine Ev.up ?_
 simp only [G.mD]
 unfold wY
 refine Ev.bind (T.bg hB h) (Ev.ite (fun e => ?_) (fun e=>Ev.ret' (by rw [e]; rfl)))
 have hs:=nD.1 e
 have hsl:=hs.len
 have hlo:=hs.lo
 have hhi:=hs.hi
 obtain ⟨p,g,hp⟩:=T.jS t (by unfold big; omega) hs.AX
 have hf:=MR hs.AX hp
 refine Ev.ite (fun e2=>Ev.ret' (by rw [e2]; simp; rfl)) (fun e2 => ?_)
 refine Ev.bind g (Ev.ite (fun c => ?_) (fun c => ?_))
 ·have c:(decide (p<s.Items.length)&&(s.Items.getD p default).Name==t)=true:=c
  rw [if_pos c] at hf
  have c1:p<s.Items.length:=by simp only [Bool.and_eq_true,decide_eq_true_eq] at c; exact c.1
  have w:IntKind.wrap .i64 (s.Clock+1)=s.Clock+1:=by rw [rQ (by omega) (by omega)]
  refine Ev.bind (T.bn hB h) (Ev.bind (a:=s.Items.take p++s.Items.drop (p+1)) (Ev.up ?_) (Ev.ret' ?_))
  ·simp only [G.iH,bP (show p+1<9223372036854775808 by omega),Int.toNat_natCast]
   exact Ev.chk (by omega) (Ev.ret _)
  ·rw [w,<- MQ hs.AX hf,e,e2,hf]
   rfl
 ·have c:(decide (p<s.Items.length)&&(s.Items.getD p default).Name==t)=false:=c
  rw [if_neg (by rw [c]; simp)] at hf
  exact Ev.ret' (by rw [e,e2,hf]; rfl)
end
structure Yt (q:RequestT):Prop where
 lo:1<=q.Method
 hi:q.Method<=5
 IY:LJ q.Name=true
 want:xC q.Want=true
 avoid:xC q.lT=true
 body:Val q.Body=true
 ops:GH q.Ops=true
theorem vk {q:RequestT} : Jn q=true<->Yt q:=by
 unfold Jn
 simp only [Bool.and_eq_true,decide_eq_true_eq]
 exact ⟨fun ⟨⟨a,b⟩,c,d,e,f,g⟩=>⟨a,b,c,d,e,f,g⟩,fun ⟨a,b,c,d,e,f,g⟩=>⟨⟨a,b⟩,c,d,e,f,g⟩⟩
theorem NV {t:aG} (h:GI t=true):t.length=4:=by
 unfold GI at h
 simp only [Bool.and_eq_true,decide_eq_true_eq] at h
 exact h.2
theorem VC {t:aG} (h:JJ t=true):t.length<=4:=by
 unfold JJ at h
 simp only [Bool.or_eq_true,beq_iff_eq] at h
 rcases h with h | h
 ·rw [h]; simp
 ·rw [NV h]; exact Nat.le_refl _
theorem AL {l:List aG} (h:xC l=true):l.length<=4/\∀ t,t∈l->JJ t=true:=by
 unfold xC at h
 simp only [Bool.and_eq_true,decide_eq_true_eq,List.all_eq_true] at h
 exact ⟨h.2,h.1⟩
theorem Gu {l:List aG} (h:xC l=true):Sm l:=by
 obtain ⟨h1,h2⟩:=AL h
 refine ⟨by unfold big; omega,fun t ht => ?_⟩
 have:=VC (h2 t ht)
 unfold big; omega
theorem Gq:∀ k:Nat,k<16->Vb (RF k)=true:=by decide
theorem Uy {n:Nat} (h:n<65521):GI (Ja n)=true:=by
 unfold GI Ja
 simp only [List.all_cons,List.all_nil,Bool.and_true,Bool.and_eq_true,List.length_cons,List.length_nil,decide_true]
 exact ⟨Gq _ (by omega),Gq _ (by omega),Gq _ (by omega),Gq _ (by omega)⟩
theorem IK {n:af} (h:Val n=true):GI (pK n)=true:=by
 unfold pK
 rw [if_pos h]
 exact Uy (sum_lt _)
def ans (c:Int):aj:=aj.mk c [] 0 mX
def Gg (s:StoreT) (t:aG) (n:af) (c:Int):StoreT × aj:=match vP s t n with
 | some m=>(m,aj.mk c (pK n) m.Clock mX)
 | none=>(s,ans 422)
noncomputable def yY (old:af) (q:RequestT):Option af:=if q.Method=4 then zU old q.Ops else if q.Method=5 then Om old q.Body else some q.Body
noncomputable def Nl (s:StoreT) (q:RequestT) (it:aA):StoreT × aj :=
 if q.Method=1 then (s,aj.mk 200 (pK it.Node) it.Version it.Node) else if q.Method=3 then (match wY s q.Name with
  | some m=>(m,aj.mk 200 [] m.Clock mX)
  | none=>(s,ans 422)) else match yY it.Node q with
  | some n=>Gg s q.Name n 200
  | none=>(s,ans 422)
noncomputable def FU (s:StoreT) (q:RequestT):StoreT × aj:=match qY s q.Name with
 | none=>if q.Method=2 then (if uG q.Want q.lT [] false=200 then Gg s q.Name q.Body 201 else (s,ans (uG q.Want q.lT [] false))) else (s,ans 404)
 | some it=>if uG q.Want q.lT (pK it.Node) (q.Method==1)=200 then Nl s q it else (s,ans (uG q.Want q.lT (pK it.Node) (q.Method==1)))
noncomputable def l7 (s:StoreT) (q:RequestT):StoreT × aj:=if uj s&&Jn q then FU s q else (KQ,ans 400)
theorem PU {j:Nat} : decide (vJ (some j)<0)=false:=decide_eq_false (by show ¬ (j:Int)<0; omega)
theorem Qp {s:StoreT} {t:aG} (hs:uj s=true):qY s t=(FC s.Items t).map fun j=>s.Items.getD j default:=by unfold qY; rw [if_pos hs]
theorem NF {n m:af} {l:List nO} (h:zU n l=some m):Val m=true:=by
 unfold zU at h
 split at h
 ·rename_i c
  exact Vm (by simp at c; exact c.1) h
 ·cases h
theorem Nw {n p m:af} (h:Om n p=some m):Val m=true:=by
 unfold Om at h
 split at h
 ·exact (Option.filter_eq_some_iff.1 h).2
 ·cases h
theorem Nz {q:RequestT} {old n:af} (hr:Jn q=true) (h:yY old q=some n):Val n=true:=by
 unfold yY at h
 split at h
 ·exact NF h
 ·split at h
  ·exact Nw h
  ·cases h; exact (vk.1 hr).body
theorem T.nJ {q:RequestT} {old:af} (hq:uU 60 q) (ho:Val old=true):Ev (fun f=>G.nJ f old q) (jT (yY old q)):=by
 refine Ev.up ?_
 simp only [G.nJ]
 unfold yY
 have hp:=T.jK lW (nU ho) hq.ops
 obtain ⟨D,hD⟩:=hq.body
 have hm:=T.jZ (nU ho) hD
 refine Ev.ite (fun e => ?_) (fun e=>Ev.ite (fun e2 => ?_) (fun e2 => ?_))
 ·rw [if_pos (by simpa using e)]
  exact Ev.bind hp (Ev.ret _)
 ·rw [if_neg (by simpa using e),if_pos (by simpa using e2)]
  exact Ev.bind hm (Ev.ret _)
 ·rw [if_neg (by simpa using e),if_neg (by simpa using e2)]
  exact Ev.ret _
section
variable {s:StoreT} {q:RequestT} (hs:Og s) (hq:uU 60 q)
theorem T.jh (c:Int):Ev (fun f=>G.jh f c) (ans c):=by
 refine Ev.up ?_
 simp only [G.jh]
 exact Ev.ret _
theorem copyS (s:StoreT) (hs:Og s):Ev (fun f=>G.bn f s) s/\Ev (fun f=>G.aU f s) s:=⟨T.bn lW hs.fine,T.aU lW hs.fine⟩
include hs hq
theorem T.jJ {old:af} {b:Bool} (hr:Yt q) (ho:Val old=true):Ev (fun f=>G.jJ f s q old b) (match yY old q with
    | some n=>Gg s q.Name n (if b then 200 else 201)
    | none=>(s,ans 422)):=by
  obtain ⟨c1,_⟩:=copyS s hs
  refine Ev.up ?_
  simp only [G.jJ]
  refine Ev.bind (T.nJ hq ho) ?_
  cases hn:yY old q with
  | none=>exact Ev.cf rfl (Ev.bind c1 (Ev.ret _))
  | some n =>
    have hv:=Nz (vk.2 hr) hn
    refine Ev.ct rfl (Ev.bind (T.nH lW hs.fine hq.IY (nU hv)) ?_)
    show Ev _ (Gg s q.Name n (if b then 200 else 201))
    unfold Gg
    simp only [jT]
    cases vP s q.Name n with
    | none=>exact Ev.cf rfl (Ev.bind c1 (Ev.ret _))
    | some m =>
      refine Ev.ct rfl (Ev.bind (T.lF rH (jf hv)) ?_)
      cases b<;>exact Qj
theorem T.aW:Ev (fun f=>G.aW f s q) (l7 s q):=by
  obtain ⟨c1,_⟩:=copyS s hs
  have hsv:=nD.2 hs
  refine Ev.up ?_
  simp only [G.aW]
  unfold l7
  refine Ev.bind (T.bg lW hs.fine) (Ev.ite (fun _ => ?_) (fun e=>by rw [hsv] at e; cases e))
  refine Ev.bind (T.jB lW hq) (Ev.ite (fun e => ?_) (fun e=>Ev.ret' (by rw [e,Bool.and_false]; rfl)))
  have hr:=vk.1 e
  have hw:=AL hr.want
  have ha:=AL hr.avoid
  rw [hsv,e]
  show Ev _ (FU s q)
  unfold FU
  refine Ev.bind (T.ji q.Name lW hs.fine) ?_
  cases hg:qY s q.Name with
  | none =>
    refine Ev.cf rfl (Ev.ite (fun e2 => ?_) (fun e2 => ?_))
    · exact Ev.bind c1 (Ev.ret' (by show _=if q.Method=2 then _ else _; rw [if_neg (by simpa using e2)]; rfl))
    have e2:q.Method=2:=by simpa using e2
    show Ev _ (if q.Method=2 then _ else _)
    rw [if_pos e2]
    refine Ev.up ?_
    simp only [G.aW.K2,e2]
    refine Ev.bind (T.iO hr.want hr.avoid (Gu hr.want) (Gu hr.avoid) (.inl rfl) (by omega) (by omega)) (Ev.ite (fun e3 => ?_) (fun e3 => ?_))
    · exact Ev.bind c1 (Ev.ret' (by rw [if_neg (by simpa using e3)]; rfl))
    · have e3:uG q.Want q.lT [] false=200:=by simpa using e3
      rw [if_pos e3]
      have:=T.jJ (old:=mX) (b:=false) hs hq hr vz
      have hn:yY mX q=some q.Body:=by unfold yY; rw [if_neg (by omega),if_neg (by omega)]
      rw [hn] at this
      exact Ev.cf rfl (Ev.cf rfl (Ev.bind this (Ev.ret _)))
  | some it =>
    obtain ⟨_,_,_,hv⟩:=ve hg
    have hct:=T.iO (t:=pK it.Node) (rd:=q.Method==1) hr.want hr.avoid (Gu hr.want) (Gu hr.avoid) (.inr ⟨IK hv,by have:=Gt it.Node; unfold big; omega⟩) (by omega) (by omega)
    refine Ev.ct rfl (Ev.bind (T.lF rH (jf hv)) (Ev.up ?_))
    simp only [G.aW.K1]
    refine Ev.bind hct (Ev.ite (fun e3 => ?_) (fun e3 => ?_))
    · exact Ev.bind c1 (Ev.ret' (by show _=if _=_ then _ else _; rw [if_neg (by simpa using e3)]; rfl))
    show Ev _ (if _=_ then _ else _)
    rw [if_pos (by simpa using e3)]
    unfold Nl
    refine Ev.ite (fun e4 => ?_) (fun e4 => ?_)
    · rw [if_pos (by simpa using e4)]
      exact Ev.bind c1 (Ev.ret _)
    rw [if_neg (by simpa using e4)]
    refine Ev.ite (fun e5 => ?_) (fun e5 => ?_)
    · rw [if_pos (by simpa using e5)]
      refine Ev.bind (Ev.up ?_) (Ev.ret _)
      simp only [G.lq]
      refine Ev.bind (T.mD q.Name lW hs.fine) ?_
      cases wY s q.Name with
      | none=>exact Ev.cf rfl (Ev.bind c1 (Ev.ret _))
      | some m=>exact Ev.ct rfl (Ev.ret _)
    · rw [if_neg (by simpa using e5)]
      exact Ev.bind (T.jJ hs hq hr hv) (Ev.ret _)
omit hq
theorem T.mg (t:aG):Ev (fun f=>G.mg f s t) (match FC s.Items t with
    | some j=>pK (s.Items.getD j default).Node
    | none=>[]):=by
  have hl:=hs.len
  refine Ev.up ?_
  simp only [G.mg]
  refine Ev.bind (T.jq t (by unfold lim; omega)) ?_
  cases hj:FC s.Items t with
  | none=>exact Ev.ct (by decide) (Ev.ret _)
  | some j =>
    have hjl:=(xh.1 hj).1
    have hv:=(hs.it hjl).Px
    have h5:=fmt5 hv
    have:=sum_lt (qV 5 (s.Items.getD j default).Node)
    have e:pK (s.Items.getD j default).Node=Ja (Ti (qV 5 (s.Items.getD j default).Node)):=by unfold pK; rw [if_pos hv]
    refine Ev.cf PU (Ev.chk (by show (0:Int)<=(j:Int)/\(j:Int)<_; omega) ?_)
    rw [show (vJ (some j)).toNat=j from Int.toNat_natCast j]
    show Ev _ (pK _)
    rw [e]
    exact Ev.bind (T.cu 5 (by omega) (kZ hv)) (Ev.bind (T.kH _ (by unfold big; omega)) (Ev.bind (T.pF (by omega)) (Ev.ret _)))
theorem Vj {x:aA} : ∃ j,FC (yZ x s.Items) x.Name=some j/\(yZ x s.Items).getD j default=x:=by
  cases hj:FC (yZ x s.Items) x.Name with
  | none=>exact absurd rfl (H6.1 hj x ((tX hs.AX).2 (.inl rfl)))
  | some j =>
    obtain ⟨h1,h2,_⟩:=xh.1 hj
    refine ⟨j,rfl,?_⟩
    rcases (tX hs.AX).1 (getD_mem default h1) with e | ⟨_,e⟩
    · exact e
    · exact absurd h2 e
theorem T.jo {t:aG} {n:af} (ht:LJ t=true) (hn:Val n=true):Ev (fun f=>G.jo f s t n) (Gg s t n (if (FC s.Items t).isSome then 200 else 201)):=by
 obtain ⟨_,c2⟩:=copyS s hs
 have hl:=hs.len
 have K:∀ c:Int,Ev (fun f=>G.jo.K1 f s t n c) (Gg s t n c):=fun c=>by
  have e:vP s t n=(some (Fa s t n)).filter uj:=by unfold vP; rw [nD.2 hs,ht,hn]; rfl
  refine Ev.up ?_
  simp only [G.jo.K1]
  unfold Gg
  rw [e]
  refine Ev.bind (T.gZ lW hs.fine (nU hn) hs) (Ev.bind (T.aY lW (NK lW hs.fine hs ht hn)) (Ev.ite (fun e1 => ?_) (fun e1 => ?_)))
  ·obtain ⟨j,hj,hx⟩:=Vj (x:=aA.mk t (s.Clock+1) n) hs
   have ht:=T.mg (s:=Fa s t n) (nD.1 e1) t
   have hj:FC (Fa s t n).Items t=some j:=hj
   have hx:(Fa s t n).Items.getD j default=aA.mk t (s.Clock+1) n:=hx
   rw [hj] at ht
   simp only [hx] at ht
   refine Ev.bind ht (Ev.ret' ?_)
   simp [Option.filter,e1]; rfl
  ·refine Ev.bind c2 (Ev.bind (T.jh 422) (Ev.ret' ?_))
   simp [Option.filter,e1]
 refine Ev.up ?_
 simp only [G.jo]
 refine Ev.bind (T.jq t (by unfold lim; omega)) ?_
 cases FC s.Items t with
 | none=>exact Ev.ct (by decide) (K _)
 | some j=>exact Ev.cf PU (K _)
include hq
theorem T.eu (hr:Yt q):Ev (fun f=>G.eu f s q) (FU s q):=by
  obtain ⟨_,c2⟩:=copyS s hs
  have hl:=hs.len
  have hf:=T.jq (s:=s) q.Name (by unfold lim; omega)
  have htag:=T.mg hs q.Name
  have hw:=AL hr.want
  have ha:=AL hr.avoid
  have chk:∀ t,Ev (fun f=>G.nZ f q.Want q.lT t (q.Method==1)) (uG q.Want q.lT t (q.Method==1)):=fun t=>T.nZ (by omega) (by omega)
  have an:=T.jh
  obtain ⟨D,hD⟩:=hq.body
  have hwr:=fun {n:af} (hn:Val n=true)=>T.jo hs hr.IY hn
  have K:∀ (o:Option af),(∀ n,o=some n->Val n=true)->Ev (fun f=>G.eu.K1 f s q (jT o).2 (jT o).1.Kind (jT o).1.Num (jT o).1.Text (jT o).1.Names (jT o).1.Kids) (match o with
      | some n=>Gg s q.Name n (if (FC s.Items q.Name).isSome then 200 else 201)
      | none=>(s,ans 422))/\Ev (fun f=>G.eu.K2 f s q (jT o).2 (jT o).1.Kind (jT o).1.Num (jT o).1.Text (jT o).1.Names (jT o).1.Kids) (match o with
      | some n=>Gg s q.Name n (if (FC s.Items q.Name).isSome then 200 else 201)
      | none=>(s,ans 422)):=fun o ho=>by
    cases o with
    | none =>
      constructor<;>refine Ev.up ?_
      · simp only [G.eu.K1]
        exact Ev.cf rfl (Ev.bind c2 (Ev.bind (an _) (Ev.ret _)))
      · simp only [G.eu.K2]
        exact Ev.cf rfl (Ev.bind c2 (Ev.bind (an _) (Ev.ret _)))
    | some n =>
      constructor<;>refine Ev.up ?_
      · simp only [G.eu.K1,af.eta]
        exact Ev.ct rfl (Ev.bind (hwr (ho n rfl)) (Ev.ret _))
      · simp only [G.eu.K2,af.eta]
        exact Ev.ct rfl (Ev.bind (hwr (ho n rfl)) (Ev.ret _))
  refine Ev.up ?_
  simp only [G.eu]
  unfold FU
  rw [Qp (nD.2 hs)]
  refine Ev.bind hf ?_
  cases hj:FC s.Items q.Name with
  | none =>
    rw [hj] at htag hwr
    refine Ev.ct (by decide) (Ev.ite (fun e => ?_) (fun e => ?_))
    · refine Ev.bind c2 (Ev.bind (an _) (Ev.ret' ?_))
      show _=if q.Method=2 then _ else _
      rw [if_neg (by simpa using e)]
    have e:q.Method=2:=by simpa using e
    show Ev _ (if q.Method=2 then _ else _)
    rw [if_pos e]
    have hc:=chk []
    simp only [e] at hc ⊢
    refine Ev.bind htag (Ev.bind hc (Ev.ite (fun e3 => ?_) (fun e3 => ?_)))
    · exact Ev.bind c2 (Ev.bind (an _) (Ev.ret' (by rw [if_neg (by simpa using e3)]; rfl)))
    · rw [if_pos (by simpa using e3)]
      exact Ev.cf rfl (Ev.ct rfl (Ev.bind (hwr hr.body) (Ev.ret _)))
  | some j =>
    rw [hj] at htag hwr K
    have hjl:=(xh.1 hj).1
    have hit:=hs.it hjl
    have hv:=hit.Px
    have jn:(vJ (some j)).toNat=j:=Int.toNat_natCast j
    have jr:0<=vJ (some j)/\vJ (some j)<((s.Items.length:Nat):Int):=by show (0:Int)<=(j:Int)/\(j:Int)<_; omega
    have hap:=T.fZ lW (nU hv) hq.ops
    have hmg:=T.lG (nU hv) hD
    have k1:=K (zU (s.Items.getD j default).Node q.Ops) (fun n h=>NF h)
    have k2:=K (Om (s.Items.getD j default).Node q.Body) (fun n h=>Nw h)
    refine Ev.cf PU (Ev.bind htag (Ev.bind (chk _) (Ev.ite (fun e3 => ?_) (fun e3 => ?_))))
    · refine Ev.bind c2 (Ev.bind (an _) (Ev.ret' ?_))
      show _=if _=_ then _ else _
      rw [if_neg (by simpa using e3)]
    have e3:uG q.Want q.lT (pK (s.Items.getD j default).Node) (q.Method==1)=200:=by simpa using e3
    show Ev _ (if _=_ then _ else _)
    rw [if_pos e3]
    unfold Nl
    simp only [jn,e3]
    refine Ev.ite (fun e4 => ?_) (fun e4 => ?_)
    · rw [if_pos (by simpa using e4)]
      exact Ev.bind c2 (Ev.bind htag (Ev.chk jr (Ev.chk jr (Ev.bind (T.aB rH (jf hv)) (Ev.ret _)))))
    have e4:¬ q.Method=1:=by simpa using e4
    rw [if_neg e4]
    refine Ev.ite (fun e5 => ?_) (fun e5 => ?_)
    · have e5:q.Method=2:=by simpa using e5
      rw [if_neg (by omega)]
      unfold yY
      rw [if_neg (by omega),if_neg (by omega)]
      exact Ev.bind (hwr hr.body) (Ev.ret _)
    refine Ev.ite (fun e6 => ?_) (fun e6 => ?_)
    · rw [if_pos (by simpa using e6)]
      unfold wY
      rw [nD.2 hs,hj]
      refine Ev.ite (fun e7 => ?_) (fun e7 => ?_)
      · exact Ev.bind c2 (Ev.bind (an _) (Ev.ret' (by rw [e7]; rfl)))
      · have hlo:=hs.lo
        have hhi:=hs.hi
        have w:IntKind.wrap .i64 (s.Clock+1)=s.Clock+1:=by rw [rQ (by omega) (by omega)]
        rw [w,e7]
        exact Ev.bind (T.jF lW hs.fine hs) (Ev.ret _)
    rw [if_neg (by simpa using e6)]
    unfold yY
    refine Ev.chk jr (Ev.bind hap (Ev.ite (fun e7 => ?_) (fun e7 => ?_)))
    · have e7:q.Method=5:=by simpa using e7
      rw [if_neg (by omega),if_pos e7]
      refine Ev.chk jr (Ev.bind hmg ?_)
      first | exact k2.1 | exact k2.2
    · have e7:¬ q.Method=5:=by simpa using e7
      have e5:¬ q.Method=2:=by simpa using e5
      have e6:¬ q.Method=3:=by simpa using e6
      have:=hr.lo
      have:=hr.hi
      rw [if_pos (by omega)]
      first | exact k1.1 | exact k1.2
end
end Go.Ab
end
section
namespace Go.Ab
open Go
set_option maxRecDepth 100000
section
variable {s:StoreT} {q:RequestT} (hs:qg 60 s) (hq:uU 60 q)
include hs hq
theorem T.vI:Ev (fun f=>G.aW f s q) (l7 s q):=by
  cases hv:uj s with
  | true=>exact T.aW (nD.1 hv) hq
  | false =>
    refine Ev.up ?_
    simp only [G.aW]
    exact Ev.bind (T.bg lW hs) (Ev.cf hv (Ev.ret' (by unfold l7; rw [hv]; rfl)))
end
theorem Jt (w a:List aG) (t:aG) (b:Bool):uG w a t b=200\/uG w a t b=304\/uG w a t b=412:=by
 unfold uG
 split
 ·exact .inr (.inr rfl)
 ·split
  ·split
   ·exact .inr (.inl rfl)
   ·exact .inr (.inr rfl)
  ·exact .inl rfl
inductive P7 (s:StoreT) (q:RequestT):StoreT × aj->Prop
 | no (c:Int) (h1:c ≠ 200) (h2:c ≠ 201) (h3:c ≠ 400) (h4:c=404<->(qY s q.Name=none/\q.Method ≠ 2)):P7 s q (s,ans c)
 | get (it:aA) (h1:q.Method=1) (h2:qY s q.Name=some it) (h3:uG q.Want q.lT (pK it.Node) true=200):P7 s q (s,aj.mk 200 (pK it.Node) it.Version it.Node)
 | drop (it:aA) (m:StoreT) (h1:q.Method=3) (h2:qY s q.Name=some it) (h3:wY s q.Name=some m):P7 s q (m,aj.mk 200 [] m.Clock mX)
 | made (m:StoreT) (h1:q.Method=2) (h2:qY s q.Name=none) (h3:vP s q.Name q.Body=some m):P7 s q (m,aj.mk 201 (pK q.Body) m.Clock mX)
 | put (it:aA) (n:af) (m:StoreT) (h1:q.Method=2\/q.Method=4\/q.Method=5) (h2:qY s q.Name=some it) (h3:yY it.Node q=some n) (h4:vP s q.Name n=some m) (h5:uG q.Want q.lT (pK it.Node) false=200):P7 s q (m,aj.mk 200 (pK n) m.Clock mX)
theorem Rw {s:StoreT} {q:RequestT} (hr:Yt q):P7 s q (FU s q):=by
  have h1:=hr.lo
  have h5:=hr.hi
  unfold FU
  cases hg:qY s q.Name with
  | none =>
    show P7 s q (if q.Method=2 then _ else _)
    split
    · rename_i e
      rcases Jt q.Want q.lT [] false with h | h | h
      · rw [if_pos h]
        unfold Gg
        cases hp:vP s q.Name q.Body with
        | none=>exact .no _ (by decide) (by decide) (by decide) ⟨fun h=>by omega,fun h=>absurd e h.2⟩
        | some m=>exact .made m e hg hp
      · rw [if_neg (by omega),h]
        exact .no _ (by decide) (by decide) (by decide) ⟨fun h=>by omega,fun h=>absurd e h.2⟩
      · rw [if_neg (by omega),h]
        exact .no _ (by decide) (by decide) (by decide) ⟨fun h=>by omega,fun h=>absurd e h.2⟩
    · rename_i e
      exact .no _ (by decide) (by decide) (by decide) ⟨fun _=>⟨hg,e⟩,fun _=>rfl⟩
  | some it =>
    have no:∀ c:Int,c ≠ 200->c ≠ 201->c ≠ 400->c ≠ 404->P7 s q (s,ans c):=fun c a b d e => .no c a b d ⟨fun h=>absurd h e,fun h=>by rw [hg] at h; cases h.1⟩
    show P7 s q (if uG q.Want q.lT (pK it.Node) (q.Method==1)=200 then Nl s q it else (s,ans (uG q.Want q.lT (pK it.Node) (q.Method==1))))
    rcases Jt q.Want q.lT (pK it.Node) (q.Method==1) with h | h | h
    · rw [if_pos h]
      unfold Nl
      split
      · rename_i e
        rw [show (q.Method==1)=true by simpa using e] at h
        exact .get it e hg h
      · split
        · rename_i e
          cases hd:wY s q.Name with
          | none=>exact no _ (by decide) (by decide) (by decide) (by decide)
          | some m=>exact .drop it m e hg hd
        · rename_i e1 e3
          rw [show (q.Method==1)=false by simpa using e1] at h
          cases hn:yY it.Node q with
          | none=>exact no _ (by decide) (by decide) (by decide) (by decide)
          | some n =>
            unfold Gg
            cases hp:vP s q.Name n with
            | none =>
              show P7 s q (match vP s q.Name n with
                | some m=>(m,aj.mk 200 (pK n) m.Clock mX)
                | none=>(s,ans 422))
              rw [hp]
              exact no _ (by decide) (by decide) (by decide) (by decide)
            | some m =>
              show P7 s q (match vP s q.Name n with
                | some m=>(m,aj.mk 200 (pK n) m.Clock mX)
                | none=>(s,ans 422))
              rw [hp]
              exact .put it n m (by omega) hg hn hp h
    · rw [if_neg (by omega),h]
      exact no _ (by decide) (by decide) (by decide) (by decide)
    · rw [if_neg (by omega),h]
      exact no _ (by decide) (by decide) (by decide) (by decide)
theorem EJ {s:StoreT} {q:RequestT} : (l7 s q=(KQ,ans 400)/\(uj s&&Jn q)=false)\/(Og s/\Yt q/\P7 s q (l7 s q)):=by
  unfold l7
  cases h:uj s&&Jn q with
  | false=>exact .inl ⟨rfl,rfl⟩
  | true =>
    obtain ⟨h1,h2⟩:=Bool.and_eq_true_iff.1 h
    exact .inr ⟨nD.1 h1,vk.1 h2,Rw (vk.1 h2)⟩
theorem WT {s:StoreT} {q:RequestT} {p:StoreT × aj} (hs:Og s) (h:P7 s q p):uj p.1=true/\Val p.2.Body=true:=by
 cases h with
 | no c=>exact ⟨nD.2 hs,vz⟩
 | get it h1 h2=>exact ⟨nD.2 hs,(ve h2).2.2.2⟩
 | drop it m h1 h2 h3=>exact ⟨(Hr h3).2.2.2.2,vz⟩
 | made m h1 h2 h3=>exact ⟨(vK h3).2.2.2.2,vz⟩
 | put it n m h1 h2 h3 h4=>exact ⟨(vK h4).2.2.2.2,vz⟩
theorem rW (s:StoreT) (q:RequestT):uj (l7 s q).1=true/\Val (l7 s q).2.Body=true:=by
 rcases EJ (s:=s) (q:=q) with ⟨h,_⟩ | ⟨hs,hr,h⟩
 ·rw [h]; exact ⟨Ls,vz⟩
 ·exact WT hs h
theorem MO {l:List aA} (hl:l.length<=60) (hn:∀ it,it∈l->tC 60 it.Node):Ev (fun f=>G.iU f l l) true:=by
  have L:∀ (k i:Nat),i+k=l.length->Ev (fun f=>G.iU.L1 f l l i) true:=by
    intro k
    induction k with
    | zero =>
      intro i hi
      refine Ev.up ?_
      simp only [G.iU.L1]
      exact Ev.cf (decide_eq_false (by omega)) (Ev.ret _)
    | succ k ih =>
      intro i hi
      obtain ⟨D,hD⟩:=hn _ (getD_mem default (by omega:i<l.length))
      refine Ev.up ?_
      simp only [G.iU.L1,Int.toNat_natCast,bP (show i+1<9223372036854775808 by omega)]
      exact Ev.ct (decide_eq_true (by omega)) (Ev.chk (by omega) (Ev.chk (by omega) (Ev.ct (by simp) (Ev.chk (by omega) (Ev.chk (by omega) (Ev.cf (by simp) (Ev.chk (by omega) (Ev.chk (by omega) (Ev.bind (T.Hw lW hD) (Ev.ct rfl (ih (i+1) (by omega))))))))))))
  refine Ev.up ?_
  simp only [G.iU]
  exact Ev.cf (by simp) (L l.length 0 (by omega))
theorem pz {s:StoreT} (h:qg 60 s):Ev (fun f=>G.aK f s s) true:=by
 refine Ev.up ?_
 simp only [G.aK]
 exact Ev.ct (by simp) (Ev.bind (MO h.len h.Px) (Ev.ret _))
theorem xg {r:aj} (h:Val r.Body=true):Ev (fun f=>G.bG f r r) true:=by
 refine Ev.up ?_
 simp only [G.bG]
 exact Ev.ct (by simp) (Ev.ct (by simp) (Ev.ct (by simp) (Ev.bind (A8 h) (Ev.ret _))))
theorem qm {s:StoreT} (h:uj s=true):qg 60 s:=(nD.1 h).fine
end Go.Ab
end
section
namespace Go.Ab
open Go
set_option maxRecDepth 100000
theorem RJ {l:List aA} (hA:Asc (rX l)=true) {x y:aA} (hx:x∈l) (hy:y∈l) (e:x.Name=y.Name):x=y:=by
 obtain ⟨i,hi,rfl⟩:=List.mem_iff_getElem.1 hx
 obtain ⟨j,hj,rfl⟩:=List.mem_iff_getElem.1 hy
 have key:∀ i j (hi:i<l.length) (hj:j<l.length),i<j->l[i].Name=l[j].Name->False:=fun i j hi hj h e=>by
  have:=uX hA i j h (by rw [qW]; exact hj)
  rw [vV hi,vV hj,dh _ hi,dh _ hj,e,Cj] at this
  cases this
 rcases Nat.lt_trichotomy i j with h | h | h
 ·exact (key i j hi hj h e).elim
 ·subst h; rfl
 ·exact (key j i hj hi h e.symm).elim
theorem Bh {s:StoreT} {t:aG} {it:aA} (hs:Og s):qY s t=some it<->it∈s.Items/\it.Name=t:=by
  constructor
  · intro h
    obtain ⟨_,h1,h2,_⟩:=ve h
    exact ⟨h1,h2⟩
  · rintro ⟨h1,h2⟩
    cases hg:qY s t with
    | none =>
      rw [Qp (nD.2 hs)] at hg
      have:FC s.Items t=none:=by cases h:FC s.Items t<;>simp_all
      exact absurd h2 (H6.1 this it h1)
    | some x =>
      obtain ⟨_,g1,g2,_⟩:=ve hg
      rw [RJ hs.AX g1 h1 (by rw [g2,h2])]
theorem Qo {s m:StoreT} {t u:aG} (hs:Og s) (hm:Og m) (h:∀ it,(it∈s.Items/\it.Name=t)<->(it∈m.Items/\it.Name=u)):qY s t=qY m u:=by
  cases hg:qY s t with
  | some x=>exact ((Bh hm).2 ((h x).1 ((Bh hs).1 hg))).symm
  | none =>
    cases hk:qY m u with
    | none=>rfl
    | some x=>rw [(Bh hs).2 ((h x).2 ((Bh hm).1 hk))] at hg; cases hg
theorem BN {s m:StoreT} {t u:aG} {n:af} (h:vP s t n=some m) (hu:u ≠ t):qY m u=qY s u:=by
 obtain ⟨hs,_,_,e,hm⟩:=vK h
 refine Qo (nD.1 hm) (nD.1 hs) (fun it => ?_)
 rw [e]
 constructor
 ·rintro ⟨h1,h2⟩
  rcases (tX (nD.1 hs).AX).1 h1 with q | ⟨q,_⟩
  ·rw [q] at h2; exact absurd h2.symm hu
  ·exact ⟨q,h2⟩
 ·rintro ⟨h1,h2⟩
  exact ⟨(tX (nD.1 hs).AX).2 (.inr ⟨h1,fun q=>hu (by rw [<- h2]; exact q)⟩),h2⟩
theorem H9 {s m:StoreT} {t u:aG} (h:wY s t=some m) (hu:u ≠ t):qY m u=qY s u:=by
 obtain ⟨hs,_,_,e,hm⟩:=Hr h
 refine Qo (nD.1 hm) (nD.1 hs) (fun it => ?_)
 rw [e]
 show (it∈s.Items.filter _/\_)<->_
 rw [List.mem_filter]
 constructor
 ·rintro ⟨⟨h1,_⟩,h2⟩; exact ⟨h1,h2⟩
 ·rintro ⟨h1,h2⟩
  refine ⟨⟨h1,?_⟩,h2⟩
  have:it.Name ≠ t:=by rw [h2]; exact hu
  simpa using this
theorem Rx {s:StoreT} {q:RequestT} {p:StoreT × aj} {u:aG} (h:P7 s q p) (hu:u=q.Name->q.Method=1):qY p.1 u=qY s u:=by
 cases h with
 | no c=>rfl
 | get it=>rfl
 | drop it m h1 h2 h3=>exact H9 h3 (fun e=>by have:=hu e; omega)
 | made m h1 h2 h3=>exact BN h3 (fun e=>by have:=hu e; omega)
 | put it n m h1 h2 h3 h4=>exact BN h4 (fun e=>by have:=hu e; omega)
noncomputable def runM:StoreT->List RequestT->StoreT × List aj
 | s,[]=>(s,[])
 | s,q::l=>((runM (l7 s q).1 l).1,(l7 s q).2::(runM (l7 s q).1 l).2)
noncomputable def wu (s:StoreT) (l:List RequestT):StoreT × List aj:=if uj s&&wo l then runM s l else (KQ,[])
theorem yD:∀ {l:List RequestT} {s:StoreT},uj s=true->uj (runM s l).1=true/\(∀ r,r∈(runM s l).2->Val r.Body=true)/\(runM s l).2.length=l.length
  | [],s,h=>⟨h,(fun r hr=>by cases hr),rfl⟩
  | q::l,s,h=>by
    obtain ⟨v1,v2⟩:=rW s q
    obtain ⟨h1,h2,h3⟩:=yD (l:=l) v1
    refine ⟨h1,fun r hr => ?_,by show (_::_).length=_; simp [h3]⟩
    rcases List.mem_cons.1 hr with e | e
    · rw [e]; exact v2
    · exact h2 r e
theorem Iu {u:aG} : ∀ {l:List RequestT} {s:StoreT},uj s=true->(∀ q,q∈l->Jn q=true/\(u=q.Name->q.Method=1))->qY (runM s l).1 u=qY s u
  | [],s,_,_=>rfl
  | q::l,s,hs,h=>by
    obtain ⟨h1,h2⟩:=h q (List.mem_cons_self ..)
    have v1:=(rW s q).1
    show qY (runM (l7 s q).1 l).1 u=_
    rw [Iu v1 (fun q hq=>h q (List.mem_cons_of_mem _ hq))]
    rcases EJ (s:=s) (q:=q) with ⟨_,h3⟩ | ⟨_,_,h3⟩
    · rw [hs,h1] at h3; cases h3
    · exact Rx h3 h2
end Go.Ab
end
section
namespace Go.Ab
open Go
set_option maxRecDepth 100000
theorem Qr {s:StoreT} {q:RequestT} (hs:uj s=true) (hq:Jn q=true):l7 s q=FU s q:=by unfold l7; rw [hs,hq]; rfl
theorem TT {l:List RequestT} (h:wo l=true) {i:Nat} (hi:i<l.length):Jn (l.getD i default)=true:=(AY h).1 _ (getD_mem default hi)
theorem StoreT.eta (s:StoreT):StoreT.mk s.Items s.Clock=s:=rfl
theorem uA {l:List aj} (hl:l.length<=1000) (h:∀ r,r∈l->Val r.Body=true):Ev (fun f=>G.aN f l l) true:=by
  have L:∀ (k i:Nat),i+k=l.length->Ev (fun f=>G.aN.L1 f l l i) true:=by
    intro k
    induction k with
    | zero =>
      intro i hi
      refine Ev.up ?_
      simp only [G.aN.L1]
      exact Ev.cf (decide_eq_false (by omega)) (Ev.ret _)
    | succ k ih =>
      intro i hi
      have hr:=xg (h _ (getD_mem default (by omega:i<l.length)))
      refine Ev.up ?_
      simp only [G.aN.L1,Int.toNat_natCast,bP (show i+1<9223372036854775808 by omega)]
      exact Ev.ct (decide_eq_true (by omega)) (Ev.chk (by omega) (Ev.chk (by omega) (Ev.bind hr (Ev.ct rfl (ih (i+1) (by omega))))))
  refine Ev.up ?_
  simp only [G.aN]
  exact Ev.cf (by simp) (L l.length 0 (by omega))
section
variable {s:StoreT} {l:List RequestT} (hs:qg 60 s) (hl:xB l)
include hs hl
theorem T.dF:Ev (fun f=>G.dF f s l) (wu s l):=by
  have hll:=hl.len
  have L:∀ (k i:Nat) (t:StoreT) (z:List aj),i+k=l.length->z.length<=i->uj t=true ->
      Ev (fun f=>G.bJ.L1 f l i t.Items t.Clock z) ((runM t (l.drop i)).1,z++(runM t (l.drop i)).2):=by
    intro k
    induction k with
    | zero =>
      intro i t z hi hz ht
      refine Ev.up ?_
      simp only [G.bJ.L1]
      rw [List.drop_of_length_le (by omega)]
      exact Ev.cf (decide_eq_false (by omega)) (Ev.ret' (by show (t,z)=(t,z++[]); rw [List.append_nil]))
    | succ k ih =>
      intro i t z hi hz ht
      have hil:i<l.length:=by omega
      have v1:=(rW t (l.getD i default)).1
      have hH:=T.vI (qm ht) (hl.at_ hil)
      have hn:=ih (i+1) (l7 t (l.getD i default)).1 (z++[(l7 t (l.getD i default)).2]) (by omega) (by simp; omega) v1
      have h1:Ev (fun f=>G.kP f (l7 t (l.getD i default)).2.Status) true:=by
        refine Ev.up ?_
        simp only [G.kP]
        exact Ev.ret _
      rw [bT default hil]
      refine Ev.up ?_
      simp only [G.bJ.L1,Int.toNat_natCast,bP (show i+1<9223372036854775808 by omega)]
      refine Ev.ct (decide_eq_true (by omega)) (Ev.chk (by omega) (Ev.bind hH (Ev.chk (by omega) (Ev.bind h1 (Ev.ct rfl (hn.eq ?_))))))
      show _=((runM (l7 t (l.getD i default)).1 (l.drop (i+1))).1,z++((l7 t (l.getD i default)).2::(runM (l7 t (l.getD i default)).1 (l.drop (i+1))).2))
      rw [List.append_assoc]; rfl
  refine Ev.up ?_
  simp only [G.dF]
  unfold wu
  refine Ev.bind (T.bg lW hs) (Ev.ite (fun e1 => ?_) (fun e1=>Ev.ret' (by rw [e1]; rfl)))
  refine Ev.bind (T.dK hl) (Ev.ite (fun e2 => ?_) (fun e2=>Ev.ret' (by rw [e1,e2]; rfl)))
  rw [e1,e2]
  refine Ev.bind (Ev.up ?_) (Ev.ret _)
  simp only [G.bJ]
  exact Ev.bind (T.bn lW hs) ((L l.length 0 s [] (by omega) (by simp) e1).eq (by rw [List.drop_zero,List.nil_append]))
theorem T.eY:Ev (fun f=>G.eY f s l) (wu s l):=by
  have hll:=hl.len
  refine Ev.up ?_
  simp only [G.eY]
  unfold wu
  refine Ev.bind (T.aY lW hs) (Ev.ite (fun e1 => ?_) (fun e1=>Ev.ret' (by rw [e1]; rfl)))
  refine Ev.bind (T.gm hl) (Ev.ite (fun e2 => ?_) (fun e2=>Ev.ret' (by rw [e1,e2]; rfl)))
  have L:∀ (k i:Nat) (t:StoreT) (z:List aj),i+k=l.length->z.length<=i->uj t=true ->
      Ev (fun f=>G.eY.L1 f l i z t.Items t.Clock) ((runM t (l.drop i)).1,z++(runM t (l.drop i)).2):=by
    intro k
    induction k with
    | zero =>
      intro i t z hi hz ht
      refine Ev.up ?_
      simp only [G.eY.L1]
      rw [List.drop_of_length_le (by omega)]
      exact Ev.cf (decide_eq_false (by omega)) (Ev.ret' (by show (t,z)=(t,z++[]); rw [List.append_nil]))
    | succ k ih =>
      intro i t z hi hz ht
      have hil:i<l.length:=by omega
      have v1:=(rW t (l.getD i default)).1
      have hq:=TT e2 hil
      have hH:=T.eu (nD.1 ht) (hl.at_ hil) (vk.1 hq)
      rw [<- Qr ht hq] at hH
      have hn:=ih (i+1) (l7 t (l.getD i default)).1 (z++[(l7 t (l.getD i default)).2]) (by omega) (by simp; omega) v1
      rw [bT default hil]
      refine Ev.up ?_
      simp only [G.eY.L1,Int.toNat_natCast,bP (show i+1<9223372036854775808 by omega)]
      refine Ev.ct (decide_eq_true (by omega)) (Ev.chk (by omega) (Ev.bind hH (Ev.chk (by omega) (hn.eq ?_))))
      show _=((runM (l7 t (l.getD i default)).1 (l.drop (i+1))).1,z++((l7 t (l.getD i default)).2::(runM (l7 t (l.getD i default)).1 (l.drop (i+1))).2))
      rw [List.append_assoc]; rfl
  rw [e1,e2]
  exact Ev.bind (T.aU lW hs) ((L l.length 0 s [] (by omega) (by simp) e1).eq (by rw [List.drop_zero,List.nil_append]; rfl))
omit hs in
theorem Xx:uj (wu s l).1=true/\(∀ r,r∈(wu s l).2->Val r.Body=true)/\(wu s l).2.length<=1000:=by
 have:=hl.len
 unfold wu
 split
 ·rename_i c
  obtain ⟨h1,h2,h3⟩:=yD (l:=l) (s:=s) (Bool.and_eq_true_iff.1 c).1
  exact ⟨h1,h2,by omega⟩
 ·exact ⟨Ls,(fun r hr=>by cases hr),by simp⟩
end
end Go.Ab
end
section
namespace Go.Ab
open Go
set_option maxRecDepth 100000
abbrev SB (x:StoreT × List RequestT):Prop:=qg 60 x.1/\xB x.2
theorem D.zB {c:List Int} (hc:Bytes c) (hl:c.length<=1048576):Tot SB (fun f=>G.jc f c):=by
 refine Tot.up ?_
 simp only [G.jc]
 refine Tot.bind (D.ET hc hl) (fun r hr=>Tot.bind (D.LV hr (by omega)) ?_)
 rintro ⟨s,l,r1⟩ ⟨hs,hl,_⟩
 exact Tot.ret ⟨hs,hl⟩
theorem T.Nv {c:List Int} (hc:Bytes c):Ev (fun f=>G.gV f c) true:=by
  refine Ev.up ?_
  simp only [G.gV]
  refine Ev.ite (fun _=>Ev.ret _) (fun e => ?_)
  obtain ⟨⟨s,l⟩,g,hs,hl⟩:=D.zB hc (by simp at e; omega)
  have hI:=T.dF hs hl
  have hS:=T.eY hs hl
  obtain ⟨v1,v2,v3⟩:=Xx (s:=s) hl
  have es:=pz (qm v1)
  have er:=uA v3 v2
  refine Ev.bind g (Ev.bind hI (Ev.bind hS (Ev.bind es (Ev.ct rfl (Ev.bind er (Ev.ct rfl (Ev.ite (fun _=>Qj) (fun e=>Ev.up ?_))))))))
  have hv:uj s=true/\wo l=true:=by
    rw [<- Bool.and_eq_true_iff]
    cases h:uj s&&wo l with
    | true=>rfl
    | false=>unfold wu at e; rw [h] at e; cases e
  have u1:wu s l=runM s l:=by unfold wu; rw [hv.1,hv.2]; rfl
  rw [u1] at v1
  obtain ⟨q,gq,hq⟩:=T.jl hl
  have hf:=nD.1 hv.1
  have hsl:=hf.len
  have Y4:=hq.len
  have L:∀ (k i:Nat),i+k=s.Items.length->Ev (fun f=>G.gV.L2 f (s,l) (runM s l) q i) true:=by
    intro k
    induction k with
    | zero =>
      intro i hi
      refine Ev.up ?_
      simp only [G.gV.L2]
      exact Ev.cf (decide_eq_false (by omega)) (Ev.ret _)
    | succ k ih =>
      intro i hi
      have hil:i<s.Items.length:=by omega
      have hG:=T.ji (s.Items.getD i default).Name lW (qm v1)
      have hN:=T.jL (l:=q) (s:=(s.Items.getD i default).Name) (by omega)
      refine Ev.up ?_
      simp only [G.gV.L2,Int.toNat_natCast,bP (show i+1<9223372036854775808 by omega)]
      refine Ev.ct (decide_eq_true (by omega)) (Ev.chk (by omega) (Ev.bind hG (Ev.chk (by omega) (Ev.bind hN (Ev.ite (fun _=>ih (i+1) (by omega)) (fun e2 => ?_))))))
      have hno:¬ (s.Items.getD i default).Name∈q:=by simpa using e2
      have hsame:qY (runM s l).1 (s.Items.getD i default).Name=some (s.Items.getD i default):=by
        rw [Iu hv.1 (fun x hx=>⟨(AY hv.2).1 x hx,fun e => ?_⟩)]
        · exact (Bh hf).2 ⟨getD_mem default hil,rfl⟩
        · refine Classical.byContradiction fun hm=>hno ((hq.mem _).2 ⟨hv.2,x,hx,?_,e.symm⟩)
          unfold V4
          simpa using hm
      rw [hsame]
      exact Ev.ct rfl (Ev.chk (by omega) (Ev.cf (by simp [ND]) (Ev.chk (by omega) (Ev.bind (A8 (hf.it hil).Px) (Ev.ct rfl (ih (i+1) (by omega)))))))
  rw [u1]
  simp only [G.gV.K1]
  exact Ev.bind gq (L s.Items.length 0 (by omega))
end Go.Ab
end
section
namespace Go.Ab
open Go
set_option maxRecDepth 100000
set_option maxHeartbeats 4000000
set_option linter.unusedVariables false
set_option linter.unusedSimpArgs false
theorem F.cmp_isNaN_int {n:Nat} : ∀ {kQ r},G.cmp_isNaN_int n kQ=some r->bF pZ 241 [.one (wI kQ)] (.one (.c (.lit (.bool r)))):=by
 intro kQ r h
 refine aH K.cmp_isNaN_int (kK ?_)
 unfold C.cmp_isNaN_int
 rcases n with _ | n<;>simp only [G.cmp_isNaN_int,reduceCtorEq] at h
 have z:=pp () <| pp () <| pp () <| pp () <| pp () <| pp () <| ()
 exact lD
theorem F.cmp_Compare_int {n:Nat} : ∀ {kQ BZ r},G.cmp_Compare_int n kQ BZ=some r->bF pZ 231 [.one (wI kQ),.one (wI BZ)] (.one (wI r)):=by
 intro kQ BZ r h
 refine aH K.cmp_Compare_int (kK ?_)
 unfold C.cmp_Compare_int
 rcases n with _ | n<;>simp only [G.cmp_Compare_int,reduceCtorEq] at h
 have z:=pp (pp @F.cmp_isNaN_int ()) <| pp () <| pp () <| pp () <| pp () <| pp () <| ()
 exact lD
theorem F.cmp_isNaN_string {n:Nat} : ∀ {kQ r},G.cmp_isNaN_string n kQ=some r->bF pZ 199 [.one (wS kQ)] (.one (.c (.lit (.bool r)))):=by
 intro kQ r h
 refine aH K.cmp_isNaN_string (kK ?_)
 unfold C.cmp_isNaN_string
 rcases n with _ | n<;>simp only [G.cmp_isNaN_string,reduceCtorEq] at h
 have z:=pp () <| pp () <| pp () <| pp () <| pp () <| pp () <| ()
 exact lD
theorem F.cmp_Less_string {n:Nat} : ∀ {kQ BZ r},G.cmp_Less_string n kQ BZ=some r->bF pZ 150 [.one (wS kQ),.one (wS BZ)] (.one (.c (.lit (.bool r)))):=by
 intro kQ BZ r h
 refine aH K.cmp_Less_string (kK ?_)
 unfold C.cmp_Less_string
 rcases n with _ | n<;>simp only [G.cmp_Less_string,reduceCtorEq] at h
 have z:=pp (pp @F.cmp_isNaN_string ()) <| pp () <| pp () <| pp () <| pp () <| pp () <| ()
 exact lD
theorem F.FV:∀ (n:Nat),∀ {ag r},G.aF n ag=some r->bF pZ 100 [.agg (wN ag)] (.agg (wN r)):=by
 intro n
 induction n using Nat.strongRecOn with | _ n ih =>
 intro ag r h
 refine aH K.aF (kK ?_)
 unfold C.aF
 rcases n with _ | n<;>simp only [G.aF,reduceCtorEq] at h
 have z:=pp (pp ih ()) <| pp () <| pp (pp (@lS (List aG × Int × List af) _ (fun n x=>G.aF.L2 n ag x.1 x.2.1 x.2.2) r (fun x=>dB.of [eP 2 113,eP 3 114,(37,.v true (.one (wK ag.Kids))),eI 38 ((ag.Kids.length:Nat):Int),eI 39 x.2.1] [(113,.var zN),(114,.var [wI ag.Kind,wI ag.Num,wS ag.Text,.own 115 x.1.length 1,.own 116 x.2.2.length 5]),(115,.dat 1 (List.map cS x.1)),(116,.dat 5 (List.map af.cells x.2.2))])) ()) <| pp (pp (@pq (List aG) _ (fun n x=>G.aF.K1 n ag x) r (fun x=>dB.of [eP 1 101,eP 2 102,eP 3 103] [(101,.var (wN ag)),(102,.var zN),(103,.var [wI ag.Kind,wI ag.Num,wS ag.Text,.own 104 x.length 1,.cO 5]),(104,.dat 1 (List.map cS x))])) ()) <| pp (pp (And.intro @G.aF.K1.eq_1 <| And.intro @G.aF.K1.eq_2 <| And.intro @G.aF.L2.eq_1 <| @G.aF.L2.eq_2) ()) <| pp (pp (@bf [] [(101,10),(102,11),(103,12),(104,13)] []) <| pp (@bf [] [(101,10),(102,11),(103,12)] [104]) <| pp (@bf [] [(113,102),(114,103),(115,104),(116,14)] []) <| pp (@bf [] [(113,113),(114,114),(115,115),(116,116)] []) ()) <| ()
 exact lD
theorem F.aF {n:Nat} : ∀ {ag:af} {r:af},G.aF n ag=some r->bF pZ 100 [.agg (wN ag)] (.agg (wN r)):=F.FV n
theorem F.oz {n:Nat} : ∀ {ag r},G.aF n ag=some r->fF pZ 100 [.agg (wN ag)] [] (fun r1 b1=>r1 = .agg [wI r.Kind,wI r.Num,wS r.Text,.own 0 r.Names.length 1,.own 1 r.Kids.length 5]/\b1=[.dat 1 (List.map cS r.Names),.dat 5 (List.map af.cells r.Kids)]):=by
 intro ag r h
 refine dQ K.aF (kK ?_)
 unfold C.aF
 rcases n with _ | n<;>simp only [G.aF,reduceCtorEq] at h
 have z:=pp (pp @F.aF ()) <| pp () <| pp (pp (@lS (List aG × Int × List af) _ (fun n x=>G.aF.L2 n ag x.1 x.2.1 x.2.2) r (fun x=>dB.of [eP 2 113,eP 3 114,(37,.v true (.one (wK ag.Kids))),eI 38 ((ag.Kids.length:Nat):Int),eI 39 x.2.1] [(113,.var zN),(114,.var [wI ag.Kind,wI ag.Num,wS ag.Text,.own 115 x.1.length 1,.own 116 x.2.2.length 5]),(115,.dat 1 (List.map cS x.1)),(116,.dat 5 (List.map af.cells x.2.2))])) ()) <| pp (pp (@pq (List aG) _ (fun n x=>G.aF.K1 n ag x) r (fun x=>dB.of [eP 1 101,eP 2 102,eP 3 103] [(101,.var (wN ag)),(102,.var zN),(103,.var [wI ag.Kind,wI ag.Num,wS ag.Text,.own 104 x.length 1,.cO 5]),(104,.dat 1 (List.map cS x))])) ()) <| pp (pp (And.intro @G.aF.K1.eq_1 <| And.intro @G.aF.K1.eq_2 <| And.intro @G.aF.L2.eq_1 <| @G.aF.L2.eq_2) ()) <| pp (pp (@bf [] [(101,10),(102,11),(103,12),(104,13)] []) <| pp (@bf [] [(101,10),(102,11),(103,12)] [104]) <| pp (@bf [] [(113,102),(114,103),(115,104),(116,14)] []) <| pp (@bf [] [(113,113),(114,114),(115,115),(116,116)] []) ()) <| (pp (@ni [] [(0,115),(1,116)] []) <| pp (@ni [] [(0,104)] [1]) ())
 exact lD
theorem F.slices_isNaN_string {n:Nat} : ∀ {kQ r},G.slices_isNaN_string n kQ=some r->bF pZ 151 [.one (wS kQ)] (.one (.c (.lit (.bool r)))):=by
 intro kQ r h
 refine aH K.slices_isNaN_string (kK ?_)
 unfold C.slices_isNaN_string
 rcases n with _ | n<;>simp only [G.slices_isNaN_string,reduceCtorEq] at h
 have z:=pp () <| pp () <| pp () <| pp () <| pp () <| pp () <| ()
 exact lD
theorem F.slices_BinarySearch_string {n:Nat} : ∀ {kQ lJ r},G.slices_BinarySearch_string n kQ lJ=some r->bF pZ 104 [.one (wT kQ),.one (wS lJ)] (.o8 [(false,[wI r.1]),(false,[.c (.lit (.bool r.2))])]):=by
 intro kQ lJ r h
 refine aH K.slices_BinarySearch_string (kK ?_)
 unfold C.slices_BinarySearch_string
 rcases n with _ | n<;>simp only [G.slices_BinarySearch_string,reduceCtorEq] at h
 have z:=pp (pp @F.cmp_Less_string <| pp @F.slices_isNaN_string ()) <| pp () <| pp (pp (@lS (Int × Int) _ (fun n x=>G.slices_BinarySearch_string.L1 n kQ lJ x.1 x.2) r (fun x=>dB.of [eT 0 kQ,eS 1 lJ,eI 6 ((kQ.length:Nat):Int),eI 7 x.1,eI 8 x.2] [])) ()) <| pp () <| pp (pp (And.intro @G.slices_BinarySearch_string.L1.eq_1 <| @G.slices_BinarySearch_string.L1.eq_2) ()) <| pp (pp (@bf [] [] []) ()) <| ()
 exact lD
theorem F.gK {n:Nat} : ∀ {kQ r},G.gK n kQ=some r->bF pZ 163 [.one (.c (.lit (.int .u64 kQ)))] (.one (wI r)):=by
 intro kQ r h
 refine aH K.gK (kK ?_)
 unfold C.gK
 rcases n with _ | n<;>simp only [G.gK,reduceCtorEq] at h
 have:=Mk.mk 1; have:=Mk.mk 2
 have z:=pp () <| pp () <| pp () <| pp (pp (@pq (Int × Int) _ (fun n x=>G.gK.K1 n x.1 x.2) r (fun x=>dB.of [(0,.v true (.one (.c (.lit (.int .u64 x.1))))),eI 2 x.2] [])) <| pp (@pq (Int × Int) _ (fun n x=>G.gK.K2 n x.1 x.2) r (fun x=>dB.of [(0,.v true (.one (.c (.lit (.int .u64 x.1))))),eI 2 x.2] [])) ()) <| pp (pp (And.intro @G.gK.K1.eq_1 <| And.intro @G.gK.K1.eq_2 <| And.intro @G.gK.K2.eq_1 <| @G.gK.K2.eq_2) ()) <| pp (pp (@bf [] [] []) ()) <| pp () <| (pp (pp (rfl : @G.gK.K1=_) ()) <| pp (pp (rfl : @G.gK.K2=_) <| pp (rfl : @G.gK.K1=_) ()) ())
 exact Ht
def B.ren:Go.Shelf.Ren:=⟨fun n=>match n with | 129=>163 | 166=>136 | 167=>139 | 169=>96 | 171=>137 | 240=>187 | 243=>188 | 246=>220 | 276=>219 | 283=>227 | 284=>228 | 285=>229 | 286=>230 | 317=>237 | 318=>238 | 319=>239 | 320=>240 | 337=>243 | 338=>244 | _=>0,fun n=>match n with | 0=>0 | 2=>2 | 3=>3 | 4=>4 | 5=>5 | 9=>9 | 20=>20 | 37=>22 | 46=>132 | 51=>169 | 53=>171 | 70=>114 | 72=>116 | 75=>147 | 80=>118 | 127=>152 | 164=>194 | 171=>201 | 173=>203 | 212=>209 | 213=>210 | 232=>211 | 233=>212 | _=>0,fun n=>match n with | 17=>1 | 18=>2 | 19=>3 | _=>0⟩
theorem B.x72:Go.Proofs.Builder.X72 pZ B.ren:=by constructor<;>kernel_rfl
theorem B.x:Go.Proofs.Builder.Extra pZ B.ren:=by constructor<;>first | exact B.x72 | kernel_rfl | (intro w; kernel_rfl) | decide
theorem B.lays171:Go.Proofs.Lays.n171 pZ B.ren:=by constructor<;>first | kernel_rfl | (intro w; kernel_rfl)
theorem B.laysM171:Go.Proofs.LaysM.n171 pZ B.ren:=by constructor<;>first | exact B.lays171 | kernel_rfl | (intro w; kernel_rfl)
theorem F.strconv_Itoa {n:Nat} : ∀ {yf:Int} {r:aG},G.strconv_Itoa n yf=some r->bF pZ 137 [.one (wI yf)] (.one (wS r)):=by
 intro i r h
 rcases n with _ | n<;>simp only [G.strconv_Itoa,reduceCtorEq] at h
 obtain ⟨⟨h0,hl⟩,h⟩:=oh.1 h
 exact Wp B.laysM171 h0 (Nat.le_trans hl (by decide)) (by cases h; rfl)
theorem F.bZ {n:Nat} : ∀ {ag gI r},G.bZ n ag gI=some r->bF pZ 194 [.agg (wN ag),.one (wS gI)] (.o8 [(false,[wI r.1]),(false,[.c (.lit (.bool r.2))])]):=by
 intro ag gI r h
 refine aH K.bZ (kK ?_)
 unfold C.bZ
 rcases n with _ | n<;>simp only [G.bZ,reduceCtorEq] at h
 have z:=pp (pp @F.slices_BinarySearch_string <| pp @F.strconv_Itoa ()) <| pp () <| pp (pp (@lS (Int) _ (fun n x=>G.bZ.L1 n ag gI x) r (fun x=>dB.of [eS 1 gI,eI 21 ((ag.Kids.length:Nat):Int),eI 22 x] [])) ()) <| pp () <| pp (pp (And.intro @G.bZ.L1.eq_1 <| @G.bZ.L1.eq_2) ()) <| pp (pp (@bf [] [] []) ()) <| ()
 exact lD
theorem FZ.dm {es:List (List Cell)} {v:List Cell} {c i:Nat} (hc:es.length<=c) (hi:i<=es.length) (hb:(es.length+1)*86<=2^46) :
  fF pZ 153 [.one (.sub 0 0 es.length (some c) 5),.one (wI (i:Int)),.one (.own 1 1 5)] [.dat 5 es,.dat 5 [v]]
   (fun r1 b1=>r1 = .one (.own 2 (es.length+1) 5)/\b1=[.dead,.dat 5 [v],.dat 5 (es.take i++v::es.drop i)]):=by
 have hw:IntKind.wrap .i64 ((es.length:Int)+((1:Nat):Int))=((es.length+1:Nat):Int):=by rw [rQ]<;>omega
 have hw2:IntKind.wrap .i64 ((i:Int)+((1:Nat):Int))=((i+1:Nat):Int):=by rw [rQ]<;>omega
 have hw3:IntKind.wrap .i64 (((es.length+1:Nat):Int)-i)=((es.length+1-i:Nat):Int):=by rw [rQ]<;>omega
 refine dQ K.dm (kK ?_)
 unfold C.dm
 have h10:(((1:Nat):Int)==0)=false:=rfl
 by_cases h1:i=es.length
 ·subst h1
  have he:(((es.length:Nat):Int)==((es.length:Nat):Int))=true:=by simp
  simp -dsimp only [sK,dS.iq,dS.f,dS.rd,iL,ig,lvl,iV,reduceIte,Nat.reduceEqDiff,Nat.reduceAdd,Nat.reduceLeDiff,Nat.reduceBEq,reduceCtorEq,Int.reduceBNe,Int.reduceBEq,Int.reduceLT,Int.reduceLE,Int.reduceNeg,Nat.reduceLT,iM,Int.reduceToNat,jC,lC,rZ,oW,o5,oV,oZ,truncS,Option.map_none,Int.sub_zero,Nat.sub_zero,Int.toNat_sub,Int.ofNat_zero,List.drop_zero,List.take_length,Nat.add_sub_cancel,h10]
  repeat refine And.intro (by first | (show ja _ _ _ _=true; kernel_rfl) | (show gX _ _=true; kernel_rfl) | omega | assumption) ?_
  have e:es++[v]++List.drop (es.length+1) es=es++v::List.drop es.length es:=by simp
  have e2:es++[v]=es++v::List.drop es.length es:=by simp
  by_cases hr:es.length+1<=c
  ·simp -dsimp only [sK,dS.iq,dS.f,dS.rd,iL,ig,lvl,iV,reduceIte,Nat.reduceEqDiff,Nat.reduceAdd,Nat.reduceLeDiff,Nat.reduceBEq,reduceCtorEq,Int.reduceBNe,Int.reduceBEq,Int.reduceLT,Int.reduceLE,Int.reduceNeg,Nat.reduceLT,iM,Int.reduceToNat,jC,lC,rZ,oW,o5,oV,oZ,truncS,Option.map_none,Int.sub_zero,Nat.sub_zero,Int.toNat_sub,Int.ofNat_zero,List.drop_zero,List.take_length,Nat.add_sub_cancel,hr]
   repeat refine And.intro (by first | (show ja _ _ _ _=true; kernel_rfl) | (show gX _ _=true; kernel_rfl) | omega | assumption) ?_
   rw [e]
   refine qw [] [(0,0),(1,1),(2,0)] [] (by rfl) ?_ ?_ ?_<;>(simp -dsimp only [I4,wJ,tK,reduceIte,Nat.reduceEqDiff,reduceCtorEq,Nat.reduceAdd,Nat.reduceLeDiff]<;>first | (simp [List.take_of_length_le]; done) | ((try simp only [List.map_take,List.map_drop,List.map_append,List.map_cons,List.map_nil])<;>(repeat' apply And.intro)<;>first | rfl | (simp; done) | (simp<;>omega; done) | (congr 1; exact (List.take_of_length_le (by simp<;>omega)).symm)))
  ·simp -dsimp only [sK,dS.iq,dS.f,dS.rd,iL,ig,lvl,iV,reduceIte,Nat.reduceEqDiff,Nat.reduceAdd,Nat.reduceLeDiff,Nat.reduceBEq,reduceCtorEq,Int.reduceBNe,Int.reduceBEq,Int.reduceLT,Int.reduceLE,Int.reduceNeg,Nat.reduceLT,iM,Int.reduceToNat,jC,lC,rZ,oW,o5,oV,oZ,truncS,Option.map_none,Int.sub_zero,Nat.sub_zero,Int.toNat_sub,Int.ofNat_zero,List.drop_zero,List.take_length,Nat.add_sub_cancel,hr]
   repeat refine And.intro (by first | (show ja _ _ _ _=true; kernel_rfl) | (show gX _ _=true; kernel_rfl) | omega | assumption) ?_
   rw [e2]
   refine qw [] [(0,0),(1,1),(2,10)] [] (by rfl) ?_ ?_ ?_<;>(simp -dsimp only [I4,wJ,tK,reduceIte,Nat.reduceEqDiff,reduceCtorEq,Nat.reduceAdd,Nat.reduceLeDiff]<;>first | (simp [List.take_of_length_le]; done) | ((try simp only [List.map_take,List.map_drop,List.map_append,List.map_cons,List.map_nil])<;>(repeat' apply And.intro)<;>first | rfl | (simp; done) | (simp<;>omega; done) | (congr 1; exact (List.take_of_length_le (by simp<;>omega)).symm)))
 ·have he:(((i:Nat):Int)==((es.length:Nat):Int))=false:=by simp; omega
  simp -dsimp only [sK,dS.iq,dS.f,dS.rd,iL,ig,lvl,iV,reduceIte,Nat.reduceEqDiff,Nat.reduceAdd,Nat.reduceLeDiff,Nat.reduceBEq,reduceCtorEq,Int.reduceBNe,Int.reduceBEq,Int.reduceLT,Int.reduceLE,Int.reduceNeg,Nat.reduceLT,iM,Int.reduceToNat,jC,lC,rZ,oW,o5,oV,oZ,truncS,Option.map_none,Int.sub_zero,Nat.sub_zero,Int.toNat_sub,Int.ofNat_zero,List.drop_zero,List.take_length,Nat.add_sub_cancel,h10]
  repeat refine And.intro (by first | (show ja _ _ _ _=true; kernel_rfl) | (show gX _ _=true; kernel_rfl) | omega | assumption) ?_
  simp -dsimp only [sK,dS.iq,dS.f,dS.rd,iL,ig,lvl,iV,reduceIte,Nat.reduceEqDiff,Nat.reduceAdd,Nat.reduceLeDiff,Nat.reduceBEq,reduceCtorEq,Int.reduceBNe,Int.reduceBEq,Int.reduceLT,Int.reduceLE,Int.reduceNeg,Nat.reduceLT,iM,Int.reduceToNat,jC,lC,rZ,oW,o5,oV,oZ,truncS,Option.map_none,Int.sub_zero,Nat.sub_zero,Int.toNat_sub,Int.ofNat_zero,List.drop_zero,List.take_length,Nat.add_sub_cancel,he]
  by_cases hr:es.length+1<=c
  ·have hd:decide ((c:Int)<((es.length+1:Nat):Int))=false:=by simp; omega
   simp -dsimp only [sK,dS.iq,dS.f,dS.rd,iL,ig,lvl,iV,reduceIte,Nat.reduceEqDiff,Nat.reduceAdd,Nat.reduceLeDiff,Nat.reduceBEq,reduceCtorEq,Int.reduceBNe,Int.reduceBEq,Int.reduceLT,Int.reduceLE,Int.reduceNeg,Nat.reduceLT,iM,Int.reduceToNat,jC,lC,rZ,oW,o5,oV,oZ,truncS,Option.map_none,Int.sub_zero,Nat.sub_zero,Int.toNat_sub,Int.ofNat_zero,List.drop_zero,List.take_length,Nat.add_sub_cancel,hw,hd]
   repeat refine And.intro (by first | (show ja _ _ _ _=true; kernel_rfl) | (show gX _ _=true; kernel_rfl) | omega | assumption) ?_
   simp -dsimp only [sK,dS.iq,dS.f,dS.rd,iL,ig,lvl,iV,reduceIte,Nat.reduceEqDiff,Nat.reduceAdd,Nat.reduceLeDiff,Nat.reduceBEq,reduceCtorEq,Int.reduceBNe,Int.reduceBEq,Int.reduceLT,Int.reduceLE,Int.reduceNeg,Nat.reduceLT,iM,Int.reduceToNat,jC,lC,rZ,oW,o5,oV,oZ,truncS,Option.map_none,Int.sub_zero,Nat.sub_zero,Int.toNat_sub,Int.ofNat_zero,List.drop_zero,List.take_length,Nat.add_sub_cancel,hw2]
   repeat refine And.intro (by first | (show ja _ _ _ _=true; kernel_rfl) | (show gX _ _=true; kernel_rfl) | omega | assumption) ?_
   refine And.intro (by simp; omega) ?_
   have e:=X6 es v i (by omega)
   simp only [splice] at e
   rw [e]
   refine qw [] [(0,0),(1,1),(2,0)] [] (by rfl) ?_ ?_ ?_<;>(simp -dsimp only [I4,wJ,tK,reduceIte,Nat.reduceEqDiff,reduceCtorEq,Nat.reduceAdd,Nat.reduceLeDiff]<;>first | (simp [List.take_of_length_le]; done) | ((try simp only [List.map_take,List.map_drop,List.map_append,List.map_cons,List.map_nil])<;>(repeat' apply And.intro)<;>first | rfl | (simp; done) | (simp<;>omega; done) | (congr 1; exact (List.take_of_length_le (by simp<;>omega)).symm)))
  ·have hd:decide ((c:Int)<((es.length+1:Nat):Int))=true:=by simp; omega
   have hx:c<i+(es.length+1-i):=by omega
   simp -dsimp only [sK,dS.iq,dS.f,dS.rd,iL,ig,lvl,iV,reduceIte,Nat.reduceEqDiff,Nat.reduceAdd,Nat.reduceLeDiff,Nat.reduceBEq,reduceCtorEq,Int.reduceBNe,Int.reduceBEq,Int.reduceLT,Int.reduceLE,Int.reduceNeg,Nat.reduceLT,iM,Int.reduceToNat,jC,lC,rZ,oW,o5,oV,oZ,truncS,Option.map_none,Int.sub_zero,Nat.sub_zero,Int.toNat_sub,Int.ofNat_zero,List.drop_zero,List.take_length,Nat.add_sub_cancel,hw,hd,hw2,hw3]
   repeat refine And.intro (by first | (show ja _ _ _ _=true; kernel_rfl) | (show gX _ _=true; kernel_rfl) | omega | assumption) ?_
   refine And.intro (by simp; omega) ?_
   repeat refine And.intro (by first | (show ja _ _ _ _=true; kernel_rfl) | (show gX _ _=true; kernel_rfl) | omega | assumption) ?_
   refine And.intro ⟨by omega,by simp; omega⟩ ?_
   repeat refine And.intro (by first | (show ja _ _ _ _=true; kernel_rfl) | (show gX _ _=true; kernel_rfl) | omega | assumption) ?_
   have e:=X7 es v [.lit (.int .i64 0),.lit (.int .i64 0),.str [],.sl 1 [],.sl 5 []] i _ (by omega) rfl
   simp only [splice] at e
   have e0:i+(es.length+1-i)=es.length+1:=by omega
   rw [e,e0]
   refine qw [] [(0,0),(1,1),(2,11)] [] (by rfl) ?_ ?_ ?_<;>(simp -dsimp only [I4,wJ,tK,reduceIte,Nat.reduceEqDiff,reduceCtorEq,Nat.reduceAdd,Nat.reduceLeDiff]<;>first | (simp [List.take_of_length_le]; done) | ((try simp only [List.map_take,List.map_drop,List.map_append,List.map_cons,List.map_nil])<;>(repeat' apply And.intro)<;>first | rfl | (simp; done) | (simp<;>omega; done) | (congr 1; exact (List.take_of_length_le (by simp<;>omega)).symm)))
theorem F.dm {n:Nat} : ∀ {ai:List af} {yf:Int} {uk:List af} {r:List af},G.dm n ai yf uk=some r ->
    fF pZ 153 [.one (.own 0 ai.length 5),.one (wI yf),.one (.own 1 uk.length 5)] [.dat 5 (List.map af.cells ai),.dat 5 (List.map af.cells uk)]
      (fun r1 b1=>r1 = .one (.own 2 r.length 5)/\b1=[.dead,.dat 5 (List.map af.cells uk),.dat 5 (List.map af.cells r)]):=by
  intro s i v r h
  cases n with
  | zero=>simp only [G.dm,reduceCtorEq] at h
  | succ n =>
    simp only [G.dm] at h
    obtain ⟨⟨q1,q2,q3,q4⟩,h⟩:=oh.1 h
    cases h
    obtain ⟨x,rfl⟩:=List.length_eq_one_iff.1 q3
    obtain ⟨k,rfl⟩:∃ k:Nat,i=k:=⟨i.toNat,by omega⟩
    refine yQ (fun c hc => ?_)
    have hf:=FZ.dm (es:=List.map af.cells s) (v:=af.cells x) (c:=c) (i:=k) (by simpa using hc) (by rw [List.length_map]; omega) (by rw [List.length_map]; exact q4)
    have e1:(List.take k s++[x]++List.drop k s).length=s.length+1:=by simp; omega
    rw [Int.toNat_natCast,e1]
    simpa using hf
theorem FZ.iw {es:List (List Cell)} {v:List Cell} {c i:Nat} (hc:es.length<=c) (hi:i<=es.length) (hb:(es.length+1)*18<=2^46) :
  fF pZ 152 [.one (.sub 0 0 es.length (some c) 1),.one (wI (i:Int)),.one (.own 1 1 1)] [.dat 1 es,.dat 1 [v]]
   (fun r1 b1=>r1 = .one (.own 2 (es.length+1) 1)/\b1=[.dead,.dat 1 [v],.dat 1 (es.take i++v::es.drop i)]):=by
 have hw:IntKind.wrap .i64 ((es.length:Int)+((1:Nat):Int))=((es.length+1:Nat):Int):=by rw [rQ]<;>omega
 have hw2:IntKind.wrap .i64 ((i:Int)+((1:Nat):Int))=((i+1:Nat):Int):=by rw [rQ]<;>omega
 have hw3:IntKind.wrap .i64 (((es.length+1:Nat):Int)-i)=((es.length+1-i:Nat):Int):=by rw [rQ]<;>omega
 refine dQ K.iw (kK ?_)
 unfold C.iw
 have h10:(((1:Nat):Int)==0)=false:=rfl
 by_cases h1:i=es.length
 ·subst h1
  have he:(((es.length:Nat):Int)==((es.length:Nat):Int))=true:=by simp
  simp -dsimp only [sK,dS.iq,dS.f,dS.rd,iL,ig,lvl,iV,reduceIte,Nat.reduceEqDiff,Nat.reduceAdd,Nat.reduceLeDiff,Nat.reduceBEq,reduceCtorEq,Int.reduceBNe,Int.reduceBEq,Int.reduceLT,Int.reduceLE,Int.reduceNeg,Nat.reduceLT,iM,Int.reduceToNat,jC,lC,rZ,oW,o5,oV,oZ,truncS,Option.map_none,Int.sub_zero,Nat.sub_zero,Int.toNat_sub,Int.ofNat_zero,List.drop_zero,List.take_length,Nat.add_sub_cancel,h10]
  repeat refine And.intro (by first | (show ja _ _ _ _=true; kernel_rfl) | (show gX _ _=true; kernel_rfl) | omega | assumption) ?_
  have e:es++[v]++List.drop (es.length+1) es=es++v::List.drop es.length es:=by simp
  have e2:es++[v]=es++v::List.drop es.length es:=by simp
  by_cases hr:es.length+1<=c
  ·simp -dsimp only [sK,dS.iq,dS.f,dS.rd,iL,ig,lvl,iV,reduceIte,Nat.reduceEqDiff,Nat.reduceAdd,Nat.reduceLeDiff,Nat.reduceBEq,reduceCtorEq,Int.reduceBNe,Int.reduceBEq,Int.reduceLT,Int.reduceLE,Int.reduceNeg,Nat.reduceLT,iM,Int.reduceToNat,jC,lC,rZ,oW,o5,oV,oZ,truncS,Option.map_none,Int.sub_zero,Nat.sub_zero,Int.toNat_sub,Int.ofNat_zero,List.drop_zero,List.take_length,Nat.add_sub_cancel,hr]
   repeat refine And.intro (by first | (show ja _ _ _ _=true; kernel_rfl) | (show gX _ _=true; kernel_rfl) | omega | assumption) ?_
   rw [e]
   refine qw [] [(0,0),(1,1),(2,0)] [] (by rfl) ?_ ?_ ?_<;>(simp -dsimp only [I4,wJ,tK,reduceIte,Nat.reduceEqDiff,reduceCtorEq,Nat.reduceAdd,Nat.reduceLeDiff]<;>first | (simp [List.take_of_length_le]; done) | ((try simp only [List.map_take,List.map_drop,List.map_append,List.map_cons,List.map_nil])<;>(repeat' apply And.intro)<;>first | rfl | (simp; done) | (simp<;>omega; done) | (congr 1; exact (List.take_of_length_le (by simp<;>omega)).symm)))
  ·simp -dsimp only [sK,dS.iq,dS.f,dS.rd,iL,ig,lvl,iV,reduceIte,Nat.reduceEqDiff,Nat.reduceAdd,Nat.reduceLeDiff,Nat.reduceBEq,reduceCtorEq,Int.reduceBNe,Int.reduceBEq,Int.reduceLT,Int.reduceLE,Int.reduceNeg,Nat.reduceLT,iM,Int.reduceToNat,jC,lC,rZ,oW,o5,oV,oZ,truncS,Option.map_none,Int.sub_zero,Nat.sub_zero,Int.toNat_sub,Int.ofNat_zero,List.drop_zero,List.take_length,Nat.add_sub_cancel,hr]
   repeat refine And.intro (by first | (show ja _ _ _ _=true; kernel_rfl) | (show gX _ _=true; kernel_rfl) | omega | assumption) ?_
   rw [e2]
   refine qw [] [(0,0),(1,1),(2,10)] [] (by rfl) ?_ ?_ ?_<;>(simp -dsimp only [I4,wJ,tK,reduceIte,Nat.reduceEqDiff,reduceCtorEq,Nat.reduceAdd,Nat.reduceLeDiff]<;>first | (simp [List.take_of_length_le]; done) | ((try simp only [List.map_take,List.map_drop,List.map_append,List.map_cons,List.map_nil])<;>(repeat' apply And.intro)<;>first | rfl | (simp; done) | (simp<;>omega; done) | (congr 1; exact (List.take_of_length_le (by simp<;>omega)).symm)))
 ·have he:(((i:Nat):Int)==((es.length:Nat):Int))=false:=by simp; omega
  simp -dsimp only [sK,dS.iq,dS.f,dS.rd,iL,ig,lvl,iV,reduceIte,Nat.reduceEqDiff,Nat.reduceAdd,Nat.reduceLeDiff,Nat.reduceBEq,reduceCtorEq,Int.reduceBNe,Int.reduceBEq,Int.reduceLT,Int.reduceLE,Int.reduceNeg,Nat.reduceLT,iM,Int.reduceToNat,jC,lC,rZ,oW,o5,oV,oZ,truncS,Option.map_none,Int.sub_zero,Nat.sub_zero,Int.toNat_sub,Int.ofNat_zero,List.drop_zero,List.take_length,Nat.add_sub_cancel,h10]
  repeat refine And.intro (by first | (show ja _ _ _ _=true; kernel_rfl) | (show gX _ _=true; kernel_rfl) | omega | assumption) ?_
  simp -dsimp only [sK,dS.iq,dS.f,dS.rd,iL,ig,lvl,iV,reduceIte,Nat.reduceEqDiff,Nat.reduceAdd,Nat.reduceLeDiff,Nat.reduceBEq,reduceCtorEq,Int.reduceBNe,Int.reduceBEq,Int.reduceLT,Int.reduceLE,Int.reduceNeg,Nat.reduceLT,iM,Int.reduceToNat,jC,lC,rZ,oW,o5,oV,oZ,truncS,Option.map_none,Int.sub_zero,Nat.sub_zero,Int.toNat_sub,Int.ofNat_zero,List.drop_zero,List.take_length,Nat.add_sub_cancel,he]
  by_cases hr:es.length+1<=c
  ·have hd:decide ((c:Int)<((es.length+1:Nat):Int))=false:=by simp; omega
   simp -dsimp only [sK,dS.iq,dS.f,dS.rd,iL,ig,lvl,iV,reduceIte,Nat.reduceEqDiff,Nat.reduceAdd,Nat.reduceLeDiff,Nat.reduceBEq,reduceCtorEq,Int.reduceBNe,Int.reduceBEq,Int.reduceLT,Int.reduceLE,Int.reduceNeg,Nat.reduceLT,iM,Int.reduceToNat,jC,lC,rZ,oW,o5,oV,oZ,truncS,Option.map_none,Int.sub_zero,Nat.sub_zero,Int.toNat_sub,Int.ofNat_zero,List.drop_zero,List.take_length,Nat.add_sub_cancel,hw,hd]
   repeat refine And.intro (by first | (show ja _ _ _ _=true; kernel_rfl) | (show gX _ _=true; kernel_rfl) | omega | assumption) ?_
   simp -dsimp only [sK,dS.iq,dS.f,dS.rd,iL,ig,lvl,iV,reduceIte,Nat.reduceEqDiff,Nat.reduceAdd,Nat.reduceLeDiff,Nat.reduceBEq,reduceCtorEq,Int.reduceBNe,Int.reduceBEq,Int.reduceLT,Int.reduceLE,Int.reduceNeg,Nat.reduceLT,iM,Int.reduceToNat,jC,lC,rZ,oW,o5,oV,oZ,truncS,Option.map_none,Int.sub_zero,Nat.sub_zero,Int.toNat_sub,Int.ofNat_zero,List.drop_zero,List.take_length,Nat.add_sub_cancel,hw2]
   repeat refine And.intro (by first | (show ja _ _ _ _=true; kernel_rfl) | (show gX _ _=true; kernel_rfl) | omega | assumption) ?_
   refine And.intro (by simp; omega) ?_
   have e:=X6 es v i (by omega)
   simp only [splice] at e
   rw [e]
   refine qw [] [(0,0),(1,1),(2,0)] [] (by rfl) ?_ ?_ ?_<;>(simp -dsimp only [I4,wJ,tK,reduceIte,Nat.reduceEqDiff,reduceCtorEq,Nat.reduceAdd,Nat.reduceLeDiff]<;>first | (simp [List.take_of_length_le]; done) | ((try simp only [List.map_take,List.map_drop,List.map_append,List.map_cons,List.map_nil])<;>(repeat' apply And.intro)<;>first | rfl | (simp; done) | (simp<;>omega; done) | (congr 1; exact (List.take_of_length_le (by simp<;>omega)).symm)))
  ·have hd:decide ((c:Int)<((es.length+1:Nat):Int))=true:=by simp; omega
   have hx:c<i+(es.length+1-i):=by omega
   simp -dsimp only [sK,dS.iq,dS.f,dS.rd,iL,ig,lvl,iV,reduceIte,Nat.reduceEqDiff,Nat.reduceAdd,Nat.reduceLeDiff,Nat.reduceBEq,reduceCtorEq,Int.reduceBNe,Int.reduceBEq,Int.reduceLT,Int.reduceLE,Int.reduceNeg,Nat.reduceLT,iM,Int.reduceToNat,jC,lC,rZ,oW,o5,oV,oZ,truncS,Option.map_none,Int.sub_zero,Nat.sub_zero,Int.toNat_sub,Int.ofNat_zero,List.drop_zero,List.take_length,Nat.add_sub_cancel,hw,hd,hw2,hw3]
   repeat refine And.intro (by first | (show ja _ _ _ _=true; kernel_rfl) | (show gX _ _=true; kernel_rfl) | omega | assumption) ?_
   refine And.intro (by simp; omega) ?_
   repeat refine And.intro (by first | (show ja _ _ _ _=true; kernel_rfl) | (show gX _ _=true; kernel_rfl) | omega | assumption) ?_
   refine And.intro ⟨by omega,by simp; omega⟩ ?_
   repeat refine And.intro (by first | (show ja _ _ _ _=true; kernel_rfl) | (show gX _ _=true; kernel_rfl) | omega | assumption) ?_
   have e:=X7 es v [.str []] i _ (by omega) rfl
   simp only [splice] at e
   have e0:i+(es.length+1-i)=es.length+1:=by omega
   rw [e,e0]
   refine qw [] [(0,0),(1,1),(2,11)] [] (by rfl) ?_ ?_ ?_<;>(simp -dsimp only [I4,wJ,tK,reduceIte,Nat.reduceEqDiff,reduceCtorEq,Nat.reduceAdd,Nat.reduceLeDiff]<;>first | (simp [List.take_of_length_le]; done) | ((try simp only [List.map_take,List.map_drop,List.map_append,List.map_cons,List.map_nil])<;>(repeat' apply And.intro)<;>first | rfl | (simp; done) | (simp<;>omega; done) | (congr 1; exact (List.take_of_length_le (by simp<;>omega)).symm)))
theorem F.iw {n:Nat} : ∀ {ai:List aG} {yf:Int} {uk:List aG} {r:List aG},G.iw n ai yf uk=some r ->
    fF pZ 152 [.one (.own 0 ai.length 1),.one (wI yf),.one (.own 1 uk.length 1)] [.dat 1 (List.map cS ai),.dat 1 (List.map cS uk)]
      (fun r1 b1=>r1 = .one (.own 2 r.length 1)/\b1=[.dead,.dat 1 (List.map cS uk),.dat 1 (List.map cS r)]):=by
  intro s i v r h
  cases n with
  | zero=>simp only [G.iw,reduceCtorEq] at h
  | succ n =>
    simp only [G.iw] at h
    obtain ⟨⟨q1,q2,q3,q4⟩,h⟩:=oh.1 h
    cases h
    obtain ⟨x,rfl⟩:=List.length_eq_one_iff.1 q3
    obtain ⟨k,rfl⟩:∃ k:Nat,i=k:=⟨i.toNat,by omega⟩
    refine yQ (fun c hc => ?_)
    have hf:=FZ.iw (es:=List.map cS s) (v:=cS x) (c:=c) (i:=k) (by simpa using hc) (by rw [List.length_map]; omega) (by rw [List.length_map]; exact q4)
    have e1:(List.take k s++[x]++List.drop k s).length=s.length+1:=by simp; omega
    rw [Int.toNat_natCast,e1]
    simpa using hf
theorem F.kM {n:Nat} : ∀ {rE aQ dI r},G.kM n rE aQ dI=some r->fF pZ 105 [.one (.ptr 0 0),.one (wS aQ),.agg (wN dI)] [.var [wI rE.Kind,wI rE.Num,wS rE.Text,.own 1 rE.Names.length 1,.own 2 rE.Kids.length 5],.dat 1 (List.map cS rE.Names),.dat 5 (List.map af.cells rE.Kids)] (fun r1 b1=>r1 = .o8 []/\b1=[.var [wI r.Kind,wI r.Num,wS r.Text,.own 3 r.Names.length 1,.own 4 r.Kids.length 5],.dead,.dead,.dat 1 (List.map cS r.Names),.dat 5 (List.map af.cells r.Kids)]):=by
 intro rE aQ dI r h
 refine dQ K.kM (kK ?_)
 unfold C.kM
 rcases n with _ | n<;>simp only [G.kM,reduceCtorEq] at h
 have z:=pp (pp @F.slices_BinarySearch_string ()) <| pp (pp (pp @F.iw (@cG [1,11] [101])) <| pp (pp @F.dm (@cG [2,12] [102])) ()) <| pp () <| pp () <| pp () <| pp () <| (pp (@ni [] [(0,0),(1,1),(2,2),(3,1),(4,2)] []) <| pp (@ni [] [(0,0),(1,1),(2,2),(3,101),(4,102)] []) ())
 exact lD
theorem F.jb {n:Nat} : ∀ {ag gI dI r},G.jb n ag gI dI=some r->bF pZ 192 [.agg (wN ag),.one (wS gI),.agg (wN dI)] (.o8 [(true,(wN r.1)),(false,[.c (.lit (.bool r.2))])]):=by
 intro ag gI dI r h
 refine aH K.jb (kK ?_)
 unfold C.jb
 rcases n with _ | n<;>simp only [G.jb,reduceCtorEq] at h
 have z:=pp (pp @F.bZ <| pp @F.strconv_Itoa ()) <| pp (pp (pp @F.oz (@cG [] [101,102])) <| pp (pp @F.oz (@cG [] [103,104])) <| pp (pp @F.kM (@cH [13,101,102] [105,106])) <| pp (pp @F.oz (@cG [] [112,113])) <| pp (pp @F.dm (@cG [111,14] [114])) ()) <| pp () <| pp (pp (@pq (af × Int × Bool) _ (fun n x=>G.jb.K1 n dI x.1 x.2.1 x.2.2) r (fun x=>dB.of [eP 5 107,eP 6 108,eP 8 109,eI 9 x.2.1,(10,.v true (.one (.c (.lit (.bool x.2.2)))))] [(107,.var (wN dI)),(108,.var zN),(109,.var [wI x.1.Kind,wI x.1.Num,wS x.1.Text,.own 110 x.1.Names.length 1,.own 111 x.1.Kids.length 5]),(110,.dat 1 (List.map cS x.1.Names)),(111,.dat 5 (List.map af.cells x.1.Kids))])) ()) <| pp (pp (And.intro @G.jb.K1.eq_1 <| @G.jb.K1.eq_2) ()) <| pp (pp (@bf [] [(107,11),(108,12),(109,13),(110,101),(111,102)] []) ()) <| ()
 exact lD
theorem F.mV {n:Nat} : ∀ {pX iP kJ qj r},G.mV n pX iP kJ qj=some r->fF pZ 191 [.agg (wN pX),.one (.ptr 0 0),.one (.ptr 1 0),.one (.ptr 2 0)] [.var [wT iP],.var [wI kJ],.var (wN qj)] (fun r1 b1=>r1 = .o8 [(true,(wN r.1)),(false,[.c (.lit (.bool r.2))])]/\b1=[.var [wT iP],.var [wI kJ],.var (wN qj)]):=by
 intro pX iP kJ qj r h
 refine dQ K.mV (kK ?_)
 unfold C.mV
 rcases n with _ | n<;>simp only [G.mV,reduceCtorEq] at h
 have z:=pp (pp @F.jb ()) <| pp () <| pp () <| pp () <| pp () <| pp () <| (pp (@ni [] [(0,0),(1,1),(2,2)] []) ())
 exact lD
theorem F.bY {n:Nat} : ∀ {ai r},G.bY n ai=some r->bF pZ 185 [.one (wS ai)] (.one (.c (.lit (.bool r)))):=by
 intro ai r h
 refine aH K.bY (kK ?_)
 unfold C.bY
 rcases n with _ | n<;>simp only [G.bY,reduceCtorEq] at h
 have z:=pp () <| pp () <| pp (pp (@lS (Int) _ (fun n x=>G.bY.L1 n ai x) r (fun x=>dB.of [eS 0 ai,eI 3 x] [])) ()) <| pp () <| pp (pp (And.intro @G.bY.L1.eq_1 <| @G.bY.L1.eq_2) ()) <| pp (pp (@bf [] [] []) ()) <| ()
 exact lD
theorem F.iE {n:Nat} : ∀ {oM r},G.iE n oM=some r->bF pZ 186 [.one (wT oM)] (.one (.c (.lit (.bool r)))):=by
 intro oM r h
 refine aH K.iE (kK ?_)
 unfold C.iE
 rcases n with _ | n<;>simp only [G.iE,reduceCtorEq] at h
 have z:=pp (pp @F.bY ()) <| pp () <| pp (pp (@lS (Int) _ (fun n x=>G.iE.L1 n oM x) r (fun x=>dB.of [eT 0 oM,eT 8 oM,eI 9 ((oM.length:Nat):Int),eI 10 x] [])) ()) <| pp () <| pp (pp (And.intro @G.iE.L1.eq_1 <| @G.iE.L1.eq_2) ()) <| pp (pp (@bf [] [] []) ()) <| ()
 exact lD
theorem F.di {n:Nat} : ∀ {ag r},G.di n ag=some r->bF pZ 135 [.agg (wN ag)] (.one (.c (.lit (.bool r)))):=by
 intro ag r h
 refine aH K.di (kK ?_)
 unfold C.di
 rcases n with _ | n<;>simp only [G.di,reduceCtorEq] at h
 have z:=pp (pp @F.bY <| pp @F.iE ()) <| pp () <| pp () <| pp (pp (@pq (Unit) _ (fun n x=>G.di.K1 n ag) r (fun x=>dB.of [eP 1 101,(20,.v true (.one (.c (.lit (.bool false)))))] [(101,.var (wN ag))])) ()) <| pp (pp (And.intro @G.di.K1.eq_1 <| @G.di.K1.eq_2) ()) <| pp (pp (@bf [] [(101,10)] []) ()) <| ()
 exact lD
theorem F.CO:∀ (n:Nat),∀ {ag qC r},G.bV n ag qC=some r->bF pZ 94 [.agg (wN ag),.one (wI qC)] (.o8 [(false,[wI r.1]),(false,[wI r.2.1]),(false,[.c (.lit (.bool r.2.2))])]):=by
 intro n
 induction n using Nat.strongRecOn with | _ n ih =>
 intro ag qC r h
 refine aH K.bV (kK ?_)
 unfold C.bV
 rcases n with _ | n<;>simp only [G.bV,reduceCtorEq] at h
 have z:=pp (pp ih <| pp @F.di ()) <| pp () <| pp (pp (@lS (Int × Int × Int) _ (fun n x=>G.bV.L1 n ag qC x.1 x.2.1 x.2.2) r (fun x=>dB.of [eI 1 qC,eI 4 x.1,eI 5 x.2.1,(20,.v true (.one (wK ag.Kids))),eI 21 ((ag.Kids.length:Nat):Int),eI 22 x.2.2] [])) ()) <| pp () <| pp (pp (And.intro @G.bV.L1.eq_1 <| @G.bV.L1.eq_2) ()) <| pp (pp (@bf [] [] []) ()) <| ()
 exact lD
theorem F.bV {n:Nat} : ∀ {ag:af} {qC:Int} {r:Int × Int × Bool},G.bV n ag qC=some r->bF pZ 94 [.agg (wN ag),.one (wI qC)] (.o8 [(false,[wI r.1]),(false,[wI r.2.1]),(false,[.c (.lit (.bool r.2.2))])]):=F.CO n
theorem F.aO {n:Nat} : ∀ {ag r},G.aO n ag=some r->bF pZ 47 [.agg (wN ag)] (.one (.c (.lit (.bool r)))):=by
 intro ag r h
 refine aH K.aO (kK ?_)
 unfold C.aO
 rcases n with _ | n<;>simp only [G.aO,reduceCtorEq] at h
 have z:=pp (pp @F.bV ()) <| pp () <| pp () <| pp () <| pp () <| pp () <| ()
 exact lD
theorem F.uP:∀ (n:Nat),∀ {ag au iP kJ qj r},G.fU n ag au iP kJ qj=some r->fF pZ 190 [.agg (wN ag),.one (wT au),.one (.fn 191 [0,1,2])] [.var [wT iP],.var [wI kJ],.var (wN qj)] (fun r1 b1=>r1 = .o8 [(true,(wN r.1)),(false,[.c (.lit (.bool r.2))])]/\b1=[.var [wT iP],.var [wI kJ],.var (wN qj)]):=by
 intro n
 induction n using Nat.strongRecOn with | _ n ih =>
 intro ag au iP kJ qj r h
 refine dQ K.fU (kK ?_)
 unfold C.su
 rcases n with _ | n<;>simp only [G.fU,reduceCtorEq] at h
 have z:=pp (pp @F.bZ ()) <| pp (pp (pp ih (@cG [0,1,2] [])) <| pp (pp @F.mV (@cG [0,1,2] [])) <| pp (pp @F.oz (@cG [] [101,102])) ()) <| pp () <| pp () <| pp () <| pp () <| (pp (@ni [] [(0,0),(1,1),(2,2)] []) <| pp (@ni [101,102] [(0,0),(1,1),(2,2)] []) ())
 exact lD
theorem F.fU {n:Nat} : ∀ {ag:af} {au:List aG} {iP:List aG} {kJ:Int} {qj:af} {r:af × Bool},G.fU n ag au iP kJ qj=some r->fF pZ 190 [.agg (wN ag),.one (wT au),.one (.fn 191 [0,1,2])] [.var [wT iP],.var [wI kJ],.var (wN qj)] (fun r1 b1=>r1 = .o8 [(true,(wN r.1)),(false,[.c (.lit (.bool r.2))])]/\b1=[.var [wT iP],.var [wI kJ],.var (wN qj)]):=F.uP n
theorem F.kL {n:Nat} : ∀ {ag zV r},G.kL n ag zV=some r->bF pZ 54 [.agg (wN ag),.one (.c (.lit (.bool zV)))] (.o8 [(true,(wN r.1)),(false,[.c (.lit (.bool r.2))])]):=by
 intro ag zV r h
 refine aH K.kL (kK ?_)
 unfold C.kL
 rcases n with _ | n<;>simp only [G.kL,reduceCtorEq] at h
 have z:=pp (pp @F.aO ()) <| pp () <| pp () <| pp () <| pp () <| pp () <| ()
 exact lD
theorem F.fK {n:Nat} : ∀ {au r},G.fK n au=some r->bF pZ 141 [.one (wT au)] (.one (.c (.lit (.bool r)))):=by
 intro au r h
 refine aH K.fK (kK ?_)
 unfold C.fK
 rcases n with _ | n<;>simp only [G.fK,reduceCtorEq] at h
 have z:=pp (pp @F.bY ()) <| pp () <| pp (pp (@lS (Int) _ (fun n x=>G.fK.L1 n au x) r (fun x=>dB.of [eT 8 au,eI 9 ((au.length:Nat):Int),eI 10 x] [])) ()) <| pp () <| pp (pp (And.intro @G.fK.L1.eq_1 <| @G.fK.L1.eq_2) ()) <| pp (pp (@bf [] [] []) ()) <| ()
 exact lD
theorem F.jY {n:Nat} : ∀ {ag au dI r},G.jY n ag au dI=some r->bF pZ 142 [.agg (wN ag),.one (wT au),.agg (wN dI)] (.o8 [(true,(wN r.1)),(false,[.c (.lit (.bool r.2))])]):=by
 intro ag au dI r h
 refine aH K.jY (kK ?_)
 unfold C.jY
 rcases n with _ | n<;>simp only [G.jY,reduceCtorEq] at h
 have z:=pp (pp @F.aO <| pp @F.fK <| pp @F.aF <| pp @F.kL ()) <| pp (pp (pp @F.fU (@cG [11,14,12] [])) ()) <| pp () <| pp () <| pp () <| pp () <| ()
 exact lD
theorem F.iF {n:Nat} : ∀ {ag au r},G.iF n ag au=some r->bF pZ 197 [.agg (wN ag),.one (wT au)] (.o8 [(true,(wN r.1)),(false,[.c (.lit (.bool r.2))])]):=by
 intro ag au r h
 refine aH K.iF (kK ?_)
 unfold C.iF
 rcases n with _ | n<;>simp only [G.iF,reduceCtorEq] at h
 have z:=pp (pp @F.bZ ()) <| pp () <| pp (pp (@lS (Int × Int × Int × aG × List aG × List af) _ (fun n x=>G.iF.L1 n au x.1 x.2.1 x.2.2.1 x.2.2.2.1 x.2.2.2.2.1 x.2.2.2.2.2) r (fun x=>dB.of [eP 2 105,eP 4 106,eT 10 au,eI 11 ((au.length:Nat):Int),eI 12 x.1] [(105,.var [wI x.2.1,wI x.2.2.1,wS x.2.2.2.1,wT x.2.2.2.2.1,wK x.2.2.2.2.2]),(106,.var zN)])) ()) <| pp () <| pp (pp (And.intro @G.iF.L1.eq_1 <| @G.iF.L1.eq_2) ()) <| pp (pp (@bf [] [(105,10),(106,11)] []) <| pp (@bf [] [(105,105),(106,106)] []) ()) <| ()
 exact lD
theorem F.mO {n:Nat} : ∀ {ag au r},G.mO n ag au=some r->bF pZ 146 [.agg (wN ag),.one (wT au)] (.o8 [(true,(wN r.1)),(false,[.c (.lit (.bool r.2))])]):=by
 intro ag au r h
 refine aH K.mO (kK ?_)
 unfold C.mO
 rcases n with _ | n<;>simp only [G.mO,reduceCtorEq] at h
 have z:=pp (pp @F.aO <| pp @F.fK <| pp @F.iF <| pp @F.aF ()) <| pp () <| pp () <| pp () <| pp () <| pp () <| ()
 exact lD
theorem FZ.dN {es:List (List Cell)} {c i j:Nat} (hc:es.length<=c) (hi:i<j) (hj:j<=es.length) (hb:es.length*86<=2^46) :
  fF pZ 149 [.one (.sub 0 0 es.length (some c) 5),.one (wI (i:Int)),.one (wI (j:Int))] [.dat 5 es]
   (fun r1 b1=>r1 = .one (.own 1 (i+(es.length-j)) 5)/\b1=[.dead,.dat 5 (es.take i++es.drop j)]):=by
 refine dQ K.dN (kK ?_)
 unfold C.dN
 have he:(((i:Nat):Int)==((j:Nat):Int))=false:=by simp; omega
 have ht:List.take (es.length-j) (List.drop j es)=List.drop j es:=List.take_of_length_le (by simp)
 have hr:i+(es.length-j)<=c:=by omega
 simp -dsimp only [sK,dS.iq,dS.f,dS.rd,iL,ig,lvl,iV,reduceIte,Nat.reduceEqDiff,Nat.reduceAdd,Nat.reduceLeDiff,Nat.reduceBEq,reduceCtorEq,Int.reduceBNe,Int.reduceBEq,Int.reduceLT,Int.reduceLE,Int.reduceNeg,Nat.reduceLT,iM,Int.reduceToNat,jC,lC,rZ,oW,o5,oV,oZ,truncS,Option.map_none,Int.sub_zero,Nat.sub_zero,Int.toNat_sub,Int.ofNat_zero,List.drop_zero,List.take_length,Nat.add_sub_cancel,he]
 repeat refine And.intro (by first | (show ja _ _ _ _=true; kernel_rfl) | (show gX _ _=true; kernel_rfl) | omega | assumption) ?_
 simp -dsimp only [sK,dS.iq,dS.f,dS.rd,iL,ig,lvl,iV,reduceIte,Nat.reduceEqDiff,Nat.reduceAdd,Nat.reduceLeDiff,Nat.reduceBEq,reduceCtorEq,Int.reduceBNe,Int.reduceBEq,Int.reduceLT,Int.reduceLE,Int.reduceNeg,Nat.reduceLT,iM,Int.reduceToNat,jC,lC,rZ,oW,o5,oV,oZ,truncS,Option.map_none,Int.sub_zero,Nat.sub_zero,Int.toNat_sub,Int.ofNat_zero,List.drop_zero,List.take_length,Nat.add_sub_cancel,ht,List.length_drop,hr]
 repeat refine And.intro (by first | (show ja _ _ _ _=true; kernel_rfl) | (show gX _ _=true; kernel_rfl) | omega | assumption) ?_
 refine And.intro (by simp; omega) ?_
 have e4:(List.take i es).length=i:=by simp; omega
 have e:List.take (i+(es.length-j)) (List.take i es++List.drop j es++List.drop (i+(es.length-j)) es)=List.take i es++List.drop j es:=by
  have e5:(List.take i es++List.drop j es).length=i+(es.length-j):=by rw [List.length_append,e4,List.length_drop]
  rw [List.take_append_of_le_length (by omega),List.take_of_length_le (by omega)]
 rw [e,List.append_assoc]
 generalize List.replicate (es.length-(i+(es.length-j))) [.lit (.int .i64 0),.lit (.int .i64 0),.str [],.sl 1 [],.sl 5 []]++List.drop (i+(es.length-j)+(es.length-(i+(es.length-j)))) (List.take i es++List.drop j es++List.drop (i+(es.length-j)) es)=T
 generalize List.take i es++List.drop j es=A
 refine qw [] [(0,0),(1,0)] [] (by rfl) ?_ ?_ ?_<;>(simp -dsimp only [I4,wJ,tK,reduceIte,Nat.reduceEqDiff,reduceCtorEq,Nat.reduceAdd,Nat.reduceLeDiff]<;>first | (simp [List.take_of_length_le]; done) | ((try simp only [List.map_take,List.map_drop,List.map_append,List.map_cons,List.map_nil])<;>(repeat' apply And.intro)<;>first | rfl | (simp; done) | (simp<;>omega; done) | (congr 1; exact (List.take_of_length_le (by simp<;>omega)).symm)))
theorem F.dN {n:Nat} : ∀ {ai:List af} {yf:Int} {LK:Int} {r:List af},G.dN n ai yf LK=some r ->
    fF pZ 149 [.one (.own 0 ai.length 5),.one (wI yf),.one (wI LK)] [.dat 5 (List.map af.cells ai)]
      (fun r1 b1=>r1 = .one (.own 1 r.length 5)/\b1=[.dead,.dat 5 (List.map af.cells r)]):=by
  intro s i j r h
  cases n with
  | zero=>simp only [G.dN,reduceCtorEq] at h
  | succ n =>
    simp only [G.dN] at h
    obtain ⟨⟨q1,q2,q3,q4⟩,h⟩:=oh.1 h
    cases h
    obtain ⟨k,rfl⟩:∃ k:Nat,i=k:=⟨i.toNat,by omega⟩
    obtain ⟨l,rfl⟩:∃ l:Nat,j=l:=⟨j.toNat,by omega⟩
    refine yQ (fun c hc => ?_)
    have hf:=FZ.dN (es:=List.map af.cells s) (c:=c) (i:=k) (j:=l) (by simpa using hc) (by omega) (by rw [List.length_map]; omega) (by rw [List.length_map]; exact q4)
    have e1:(List.take k s++List.drop l s).length=k+(s.length-l):=by simp; omega
    rw [Int.toNat_natCast,Int.toNat_natCast,e1]
    simpa using hf
theorem FZ.slices_Delete_string {es:List (List Cell)} {c i j:Nat} (hc:es.length<=c) (hi:i<j) (hj:j<=es.length) (hb:es.length*18<=2^46) :
  fF pZ 148 [.one (.sub 0 0 es.length (some c) 1),.one (wI (i:Int)),.one (wI (j:Int))] [.dat 1 es]
   (fun r1 b1=>r1 = .one (.own 1 (i+(es.length-j)) 1)/\b1=[.dead,.dat 1 (es.take i++es.drop j)]):=by
 refine dQ K.slices_Delete_string (kK ?_)
 unfold C.slices_Delete_string
 have he:(((i:Nat):Int)==((j:Nat):Int))=false:=by simp; omega
 have ht:List.take (es.length-j) (List.drop j es)=List.drop j es:=List.take_of_length_le (by simp)
 have hr:i+(es.length-j)<=c:=by omega
 simp -dsimp only [sK,dS.iq,dS.f,dS.rd,iL,ig,lvl,iV,reduceIte,Nat.reduceEqDiff,Nat.reduceAdd,Nat.reduceLeDiff,Nat.reduceBEq,reduceCtorEq,Int.reduceBNe,Int.reduceBEq,Int.reduceLT,Int.reduceLE,Int.reduceNeg,Nat.reduceLT,iM,Int.reduceToNat,jC,lC,rZ,oW,o5,oV,oZ,truncS,Option.map_none,Int.sub_zero,Nat.sub_zero,Int.toNat_sub,Int.ofNat_zero,List.drop_zero,List.take_length,Nat.add_sub_cancel,he]
 repeat refine And.intro (by first | (show ja _ _ _ _=true; kernel_rfl) | (show gX _ _=true; kernel_rfl) | omega | assumption) ?_
 simp -dsimp only [sK,dS.iq,dS.f,dS.rd,iL,ig,lvl,iV,reduceIte,Nat.reduceEqDiff,Nat.reduceAdd,Nat.reduceLeDiff,Nat.reduceBEq,reduceCtorEq,Int.reduceBNe,Int.reduceBEq,Int.reduceLT,Int.reduceLE,Int.reduceNeg,Nat.reduceLT,iM,Int.reduceToNat,jC,lC,rZ,oW,o5,oV,oZ,truncS,Option.map_none,Int.sub_zero,Nat.sub_zero,Int.toNat_sub,Int.ofNat_zero,List.drop_zero,List.take_length,Nat.add_sub_cancel,ht,List.length_drop,hr]
 repeat refine And.intro (by first | (show ja _ _ _ _=true; kernel_rfl) | (show gX _ _=true; kernel_rfl) | omega | assumption) ?_
 refine And.intro (by simp; omega) ?_
 have e4:(List.take i es).length=i:=by simp; omega
 have e:List.take (i+(es.length-j)) (List.take i es++List.drop j es++List.drop (i+(es.length-j)) es)=List.take i es++List.drop j es:=by
  have e5:(List.take i es++List.drop j es).length=i+(es.length-j):=by rw [List.length_append,e4,List.length_drop]
  rw [List.take_append_of_le_length (by omega),List.take_of_length_le (by omega)]
 rw [e,List.append_assoc]
 generalize List.replicate (es.length-(i+(es.length-j))) [.str []]++List.drop (i+(es.length-j)+(es.length-(i+(es.length-j)))) (List.take i es++List.drop j es++List.drop (i+(es.length-j)) es)=T
 generalize List.take i es++List.drop j es=A
 refine qw [] [(0,0),(1,0)] [] (by rfl) ?_ ?_ ?_<;>(simp -dsimp only [I4,wJ,tK,reduceIte,Nat.reduceEqDiff,reduceCtorEq,Nat.reduceAdd,Nat.reduceLeDiff]<;>first | (simp [List.take_of_length_le]; done) | ((try simp only [List.map_take,List.map_drop,List.map_append,List.map_cons,List.map_nil])<;>(repeat' apply And.intro)<;>first | rfl | (simp; done) | (simp<;>omega; done) | (congr 1; exact (List.take_of_length_le (by simp<;>omega)).symm)))
theorem F.slices_Delete_string {n:Nat} : ∀ {ai:List aG} {yf:Int} {LK:Int} {r:List aG},G.slices_Delete_string n ai yf LK=some r ->
    fF pZ 148 [.one (.own 0 ai.length 1),.one (wI yf),.one (wI LK)] [.dat 1 (List.map cS ai)]
      (fun r1 b1=>r1 = .one (.own 1 r.length 1)/\b1=[.dead,.dat 1 (List.map cS r)]):=by
  intro s i j r h
  cases n with
  | zero=>simp only [G.slices_Delete_string,reduceCtorEq] at h
  | succ n =>
    simp only [G.slices_Delete_string] at h
    obtain ⟨⟨q1,q2,q3,q4⟩,h⟩:=oh.1 h
    cases h
    obtain ⟨k,rfl⟩:∃ k:Nat,i=k:=⟨i.toNat,by omega⟩
    obtain ⟨l,rfl⟩:∃ l:Nat,j=l:=⟨j.toNat,by omega⟩
    refine yQ (fun c hc => ?_)
    have hf:=FZ.slices_Delete_string (es:=List.map cS s) (c:=c) (i:=k) (j:=l) (by simpa using hc) (by omega) (by rw [List.length_map]; omega) (by rw [List.length_map]; exact q4)
    have e1:(List.take k s++List.drop l s).length=k+(s.length-l):=by simp; omega
    rw [Int.toNat_natCast,Int.toNat_natCast,e1]
    simpa using hf
theorem F.fJ {n:Nat} : ∀ {pX iP kJ r},G.fJ n pX iP kJ=some r->fF pZ 193 [.agg (wN pX),.one (.ptr 0 0),.one (.ptr 1 0)] [.var [wT iP],.var [wI kJ]] (fun r1 b1=>r1 = .o8 [(true,(wN r.1)),(false,[.c (.lit (.bool r.2))])]/\b1=[.var [wT iP],.var [wI kJ]]):=by
 intro pX iP kJ r h
 refine dQ K.fJ (kK ?_)
 unfold C.fJ
 rcases n with _ | n<;>simp only [G.fJ,reduceCtorEq] at h
 have z:=pp (pp @F.bZ ()) <| pp (pp (pp @F.oz (@cG [] [101,102])) <| pp (pp @F.slices_Delete_string (@cG [101] [109])) <| pp (pp @F.dN (@cG [107] [108])) ()) <| pp () <| pp (pp (@pq ((Int × Bool) × af × List aG) _ (fun n x=>G.fJ.K1 n x.1 x.2.1 x.2.2) r (fun x=>dB.of [eP 4 104,eI 6 x.1.1,eP 8 105] [(0,.var [wT iP]),(1,.var [wI kJ]),(104,.var zN),(105,.var [wI x.2.1.Kind,wI x.2.1.Num,wS x.2.1.Text,.own 106 x.2.2.length 1,.own 107 x.2.1.Kids.length 5]),(106,.dat 1 (List.map cS x.2.2)),(107,.dat 5 (List.map af.cells x.2.1.Kids))])) ()) <| pp (pp (And.intro @G.fJ.K1.eq_1 <| @G.fJ.K1.eq_2) ()) <| pp (pp (@bf [] [(0,0),(1,1),(104,11),(105,12),(106,109),(107,102)] []) <| pp (@bf [] [(0,0),(1,1),(104,11),(105,12),(106,101),(107,102)] []) ()) <| (pp (@ni [106,108] [(0,0),(1,1)] []) <| pp (@ni [] [(0,0),(1,1)] []) ())
 exact lD
theorem F.um:∀ (n:Nat),∀ {ag au iP kJ r},G.eG n ag au iP kJ=some r->fF pZ 190 [.agg (wN ag),.one (wT au),.one (.fn 193 [0,1])] [.var [wT iP],.var [wI kJ]] (fun r1 b1=>r1 = .o8 [(true,(wN r.1)),(false,[.c (.lit (.bool r.2))])]/\b1=[.var [wT iP],.var [wI kJ]]):=by
 intro n
 induction n using Nat.strongRecOn with | _ n ih =>
 intro ag au iP kJ r h
 refine dQ K.eG (kK ?_)
 unfold C.su
 rcases n with _ | n<;>simp only [G.eG,reduceCtorEq] at h
 have z:=pp (pp @F.bZ ()) <| pp (pp (pp ih (@cG [0,1] [])) <| pp (pp @F.fJ (@cG [0,1] [])) <| pp (pp @F.oz (@cG [] [101,102])) ()) <| pp () <| pp () <| pp () <| pp () <| (pp (@ni [] [(0,0),(1,1)] []) <| pp (@ni [101,102] [(0,0),(1,1)] []) ())
 exact lD
theorem F.eG {n:Nat} : ∀ {ag:af} {au:List aG} {iP:List aG} {kJ:Int} {r:af × Bool},G.eG n ag au iP kJ=some r->fF pZ 190 [.agg (wN ag),.one (wT au),.one (.fn 193 [0,1])] [.var [wT iP],.var [wI kJ]] (fun r1 b1=>r1 = .o8 [(true,(wN r.1)),(false,[.c (.lit (.bool r.2))])]/\b1=[.var [wT iP],.var [wI kJ]]):=F.um n
theorem F.jk {n:Nat} : ∀ {ag au r},G.jk n ag au=some r->bF pZ 143 [.agg (wN ag),.one (wT au)] (.o8 [(true,(wN r.1)),(false,[.c (.lit (.bool r.2))])]):=by
 intro ag au r h
 refine aH K.jk (kK ?_)
 unfold C.jk
 rcases n with _ | n<;>simp only [G.jk,reduceCtorEq] at h
 have z:=pp (pp @F.aO <| pp @F.fK ()) <| pp (pp (pp @F.eG (@cG [11,13] [])) ()) <| pp () <| pp () <| pp () <| pp () <| ()
 exact lD
theorem F.mW {n:Nat} : ∀ {bW iP r},G.mW n bW iP=some r->fF pZ 195 [.agg (wN bW),.one (.ptr 0 0)] [.var (wN iP)] (fun r1 b1=>r1 = .o8 [(true,(wN r.1)),(false,[.c (.lit (.bool r.2))])]/\b1=[.var (wN iP)]):=by
 intro bW iP r h
 refine dQ K.mW (kK ?_)
 unfold C.mW
 rcases n with _ | n<;>simp only [G.mW,reduceCtorEq] at h
 have z:=pp (pp @F.aF ()) <| pp () <| pp () <| pp () <| pp () <| pp () <| (pp (@ni [] [(0,0)] []) ())
 exact lD
theorem F.uQ:∀ (n:Nat),∀ {ag au iP r},G.fV n ag au iP=some r->fF pZ 190 [.agg (wN ag),.one (wT au),.one (.fn 195 [0])] [.var (wN iP)] (fun r1 b1=>r1 = .o8 [(true,(wN r.1)),(false,[.c (.lit (.bool r.2))])]/\b1=[.var (wN iP)]):=by
 intro n
 induction n using Nat.strongRecOn with | _ n ih =>
 intro ag au iP r h
 refine dQ K.fV (kK ?_)
 unfold C.su
 rcases n with _ | n<;>simp only [G.fV,reduceCtorEq] at h
 have z:=pp (pp @F.bZ ()) <| pp (pp (pp ih (@cG [0] [])) <| pp (pp @F.mW (@cG [0] [])) <| pp (pp @F.oz (@cG [] [101,102])) ()) <| pp () <| pp () <| pp () <| pp () <| (pp (@ni [] [(0,0)] []) <| pp (@ni [101,102] [(0,0)] []) ())
 exact lD
theorem F.fV {n:Nat} : ∀ {ag:af} {au:List aG} {iP:af} {r:af × Bool},G.fV n ag au iP=some r->fF pZ 190 [.agg (wN ag),.one (wT au),.one (.fn 195 [0])] [.var (wN iP)] (fun r1 b1=>r1 = .o8 [(true,(wN r.1)),(false,[.c (.lit (.bool r.2))])]/\b1=[.var (wN iP)]):=F.uQ n
theorem F.nI {n:Nat} : ∀ {ag au dI r},G.nI n ag au dI=some r->bF pZ 144 [.agg (wN ag),.one (wT au),.agg (wN dI)] (.o8 [(true,(wN r.1)),(false,[.c (.lit (.bool r.2))])]):=by
 intro ag au dI r h
 refine aH K.nI (kK ?_)
 unfold C.nI
 rcases n with _ | n<;>simp only [G.nI,reduceCtorEq] at h
 have z:=pp (pp @F.aO <| pp @F.fK <| pp @F.kL ()) <| pp (pp (pp @F.fV (@cG [11] [])) ()) <| pp () <| pp () <| pp () <| pp () <| ()
 exact lD
theorem F.oG {n:Nat} : ∀ {jH r},G.oG n jH=some r->bF pZ 101 [.agg [wI jH.Kind,wT jH.Path,wT jH.From,wI jH.Value.Kind,wI jH.Value.Num,wS jH.Value.Text,wT jH.Value.Names,wK jH.Value.Kids]] (.one (.c (.lit (.bool r)))):=by
 intro jH r h
 refine aH K.oG (kK ?_)
 unfold C.oG
 rcases n with _ | n<;>simp only [G.oG,reduceCtorEq] at h
 have z:=pp (pp @F.fK <| pp @F.aO ()) <| pp () <| pp () <| pp () <| pp () <| pp () <| ()
 exact lD
theorem F.slices_Equal_string {n:Nat} : ∀ {xE zD r},G.slices_Equal_string n xE zD=some r->bF pZ 196 [.one (wT xE),.one (wT zD)] (.one (.c (.lit (.bool r)))):=by
 intro xE zD r h
 refine aH K.slices_Equal_string (kK ?_)
 unfold C.slices_Equal_string
 rcases n with _ | n<;>simp only [G.slices_Equal_string,reduceCtorEq] at h
 have z:=pp () <| pp () <| pp (pp (@lS (Int) _ (fun n x=>G.slices_Equal_string.L1 n xE zD x) r (fun x=>dB.of [eT 0 xE,eT 1 zD,eI 12 ((xE.length:Nat):Int),eI 13 x] [])) ()) <| pp () <| pp (pp (And.intro @G.slices_Equal_string.L1.eq_1 <| @G.slices_Equal_string.L1.eq_2) ()) <| pp (pp (@bf [] [] []) ()) <| ()
 exact lD
theorem F.mF {n:Nat} : ∀ {ag sU au r},G.mF n ag sU au=some r->bF pZ 145 [.agg (wN ag),.one (wT sU),.one (wT au)] (.o8 [(true,(wN r.1)),(false,[.c (.lit (.bool r.2))])]):=by
 intro ag sU au r h
 refine aH K.mF (kK ?_)
 unfold C.mF
 rcases n with _ | n<;>simp only [G.mF,reduceCtorEq] at h
 have z:=pp (pp @F.mO <| pp @F.slices_Equal_string <| pp @F.aF <| pp @F.jk <| pp @F.jY ()) <| pp () <| pp () <| pp () <| pp () <| pp () <| ()
 exact lD
theorem F.dL {n:Nat} : ∀ {bW cZ r},G.dL n bW cZ=some r->bF pZ 140 [.one (wS bW),.one (wS cZ)] (.one (wI r)):=by
 intro bW cZ r h
 refine aH K.dL (kK ?_)
 unfold C.dL
 rcases n with _ | n<;>simp only [G.dL,reduceCtorEq] at h
 have z:=pp () <| pp () <| pp () <| pp () <| pp () <| pp () <| ()
 exact lD
theorem F.strings_Compare {n:Nat} : ∀ {bW cZ r},G.strings_Compare n bW cZ=some r->bF pZ 99 [.one (wS bW),.one (wS cZ)] (.one (wI r)):=by
 intro bW cZ r h
 refine aH K.strings_Compare (kK ?_)
 unfold C.strings_Compare
 rcases n with _ | n<;>simp only [G.strings_Compare,reduceCtorEq] at h
 have z:=pp (pp @F.dL ()) <| pp () <| pp () <| pp () <| pp () <| pp () <| ()
 exact lD
theorem F.BI:∀ (n:Nat),∀ {bW cZ r},G.aV n bW cZ=some r->bF pZ 221 [.agg (wN bW),.agg (wN cZ)] (.one (wI r)):=by
 intro n
 induction n using Nat.strongRecOn with | _ n ih =>
 intro bW cZ r h
 refine aH K.aV (kK ?_)
 unfold C.aV
 rcases n with _ | n<;>simp only [G.aV,reduceCtorEq] at h
 have z:=pp (pp ih <| pp @F.cmp_Compare_int <| pp @F.strings_Compare ()) <| pp () <| pp (pp (@lS (Int) _ (fun n x=>G.aV.L3 n bW cZ x) r (fun x=>dB.of [eP 2 109,eP 3 110,eI 8 x] [(109,.var (wN bW)),(110,.var (wN cZ))])) ()) <| pp (pp (@pq (Int) _ (fun n x=>G.aV.K4 n bW cZ x) r (fun x=>dB.of [eP 2 111,eP 3 112,eI 8 x] [(111,.var (wN bW)),(112,.var (wN cZ))])) ()) <| pp (pp (And.intro @G.aV.L3.eq_1 <| And.intro @G.aV.L3.eq_2 <| And.intro @G.aV.K4.eq_1 <| @G.aV.K4.eq_2) ()) <| pp (pp (@bf [] [(109,10),(110,11)] []) <| pp (@bf [] [(111,109),(112,110)] []) <| pp (@bf [] [(109,111),(110,112)] []) ()) <| ()
 exact lD
theorem F.aV {n:Nat} : ∀ {bW:af} {cZ:af} {r:Int},G.aV n bW cZ=some r->bF pZ 221 [.agg (wN bW),.agg (wN cZ)] (.one (wI r)):=F.BI n
theorem F.mG {n:Nat} : ∀ {bW cZ r},G.mG n bW cZ=some r->bF pZ 198 [.agg (wN bW),.agg (wN cZ)] (.one (.c (.lit (.bool r)))):=by
 intro bW cZ r h
 refine aH K.mG (kK ?_)
 unfold C.mG
 rcases n with _ | n<;>simp only [G.mG,reduceCtorEq] at h
 have z:=pp (pp @F.aV ()) <| pp () <| pp () <| pp () <| pp () <| pp () <| ()
 exact lD
theorem F.lM {n:Nat} : ∀ {ag au dI r},G.lM n ag au dI=some r->bF pZ 147 [.agg (wN ag),.one (wT au),.agg (wN dI)] (.o8 [(true,(wN r.1)),(false,[.c (.lit (.bool r.2))])]):=by
 intro ag au dI r h
 refine aH K.lM (kK ?_)
 unfold C.lM
 rcases n with _ | n<;>simp only [G.lM,reduceCtorEq] at h
 have z:=pp (pp @F.iF <| pp @F.mG <| pp @F.aF ()) <| pp () <| pp () <| pp () <| pp () <| pp () <| ()
 exact lD
theorem F.nG {n:Nat} : ∀ {ag jH r},G.nG n ag jH=some r->bF pZ 102 [.agg (wN ag),.agg [wI jH.Kind,wT jH.Path,wT jH.From,wI jH.Value.Kind,wI jH.Value.Num,wS jH.Value.Text,wT jH.Value.Names,wK jH.Value.Kids]] (.o8 [(true,(wN r.1)),(false,[.c (.lit (.bool r.2))])]):=by
 intro ag jH r h
 refine aH K.nG (kK ?_)
 unfold C.nG
 rcases n with _ | n<;>simp only [G.nG,reduceCtorEq] at h
 have z:=pp (pp @F.aO <| pp @F.oG <| pp @F.jY <| pp @F.jk <| pp @F.nI <| pp @F.mF <| pp @F.mO <| pp @F.lM ()) <| pp () <| pp () <| pp () <| pp () <| pp () <| ()
 exact lD
theorem F.dX {n:Nat} : ∀ {ah r},G.dX n ah=some r->bF pZ 52 [.one (.c (.sl 8 (List.map nO.cells ah)))] (.one (.c (.lit (.bool r)))):=by
 intro ah r h
 refine aH K.dX (kK ?_)
 unfold C.dX
 rcases n with _ | n<;>simp only [G.dX,reduceCtorEq] at h
 have z:=pp (pp @F.oG ()) <| pp () <| pp (pp (@lS (Int) _ (fun n x=>G.dX.L1 n ah x) r (fun x=>dB.of [(8,.v true (.one (.c (.sl 8 (List.map nO.cells ah))))),eI 9 ((ah.length:Nat):Int),eI 10 x] [])) ()) <| pp () <| pp (pp (And.intro @G.dX.L1.eq_1 <| @G.dX.L1.eq_2) ()) <| pp (pp (@bf [] [] []) ()) <| ()
 exact lD
theorem F.iT {n:Nat} : ∀ {ag ah r},G.iT n ag ah=some r->bF pZ 53 [.agg (wN ag),.one (.c (.sl 8 (List.map nO.cells ah)))] (.o8 [(true,(wN r.1)),(false,[wI r.2])]):=by
 intro ag ah r h
 refine aH K.iT (kK ?_)
 unfold C.iT
 rcases n with _ | n<;>simp only [G.iT,reduceCtorEq] at h
 have z:=pp (pp @F.aF <| pp @F.nG ()) <| pp () <| pp (pp (@lS (Int × Int × Int × aG × List aG × List af) _ (fun n x=>G.iT.L1 n ah x.1 x.2.1 x.2.2.1 x.2.2.2.1 x.2.2.2.2.1 x.2.2.2.2.2) r (fun x=>dB.of [(1,.v true (.one (.c (.sl 8 (List.map nO.cells ah))))),eP 4 105,eP 6 106,(13,.v true (.one (.c (.sl 8 (List.map nO.cells ah))))),eI 14 ((ah.length:Nat):Int),eI 15 x.1] [(105,.var zN),(106,.var [wI x.2.1,wI x.2.2.1,wS x.2.2.2.1,wT x.2.2.2.2.1,wK x.2.2.2.2.2])])) ()) <| pp () <| pp (pp (And.intro @G.iT.L1.eq_1 <| @G.iT.L1.eq_2) ()) <| pp (pp (@bf [] [(105,11),(106,12)] []) <| pp (@bf [] [(105,105),(106,106)] []) ()) <| ()
 exact lD
theorem F.jK {n:Nat} : ∀ {ag ah r},G.jK n ag ah=some r->bF pZ 20 [.agg (wN ag),.one (.c (.sl 8 (List.map nO.cells ah)))] (.o8 [(true,(wN r.1)),(false,[.c (.lit (.bool r.2))])]):=by
 intro ag ah r h
 refine aH K.jK (kK ?_)
 unfold C.jK
 rcases n with _ | n<;>simp only [G.jK,reduceCtorEq] at h
 have z:=pp (pp @F.aO <| pp @F.dX <| pp @F.iT ()) <| pp () <| pp () <| pp () <| pp () <| pp () <| ()
 exact lD
theorem F.gU {n:Nat} : ∀ {ai Dt r},G.gU n ai Dt=some r->bF pZ 172 [.one (wS ai),.one (.c (.lit (.int .u8 Dt)))] (.one (wI r)):=by
 intro ai Dt r h
 refine aH K.gU (kK ?_)
 unfold C.gU
 rcases n with _ | n<;>simp only [G.gU,reduceCtorEq] at h
 have z:=pp () <| pp () <| pp () <| pp () <| pp () <| pp () <| ()
 exact lD
theorem F.strings_IndexByte {n:Nat} : ∀ {ai Dt r},G.strings_IndexByte n ai Dt=some r->bF pZ 119 [.one (wS ai),.one (.c (.lit (.int .u8 Dt)))] (.one (wI r)):=by
 intro ai Dt r h
 refine aH K.strings_IndexByte (kK ?_)
 unfold C.strings_IndexByte
 rcases n with _ | n<;>simp only [G.strings_IndexByte,reduceCtorEq] at h
 have z:=pp (pp @F.gU ()) <| pp () <| pp () <| pp () <| pp () <| pp () <| ()
 exact lD
theorem F.kC {n:Nat} : ∀ {ai r},G.kC n ai=some r->bF pZ 76 [.one (wS ai)] (.one (.c (.lit (.bool r)))):=by
 intro ai r h
 refine aH K.kC (kK ?_)
 unfold C.kC
 rcases n with _ | n<;>simp only [G.kC,reduceCtorEq] at h
 have z:=pp (pp @F.strings_IndexByte ()) <| pp () <| pp (pp (@lS (Int) _ (fun n x=>G.kC.L1 n ai x) r (fun x=>dB.of [eS 0 ai,eI 3 x] [])) ()) <| pp () <| pp (pp (And.intro @G.kC.L1.eq_1 <| @G.kC.L1.eq_2) ()) <| pp (pp (@bf [] [] []) ()) <| ()
 exact lD
theorem F.iD {n:Nat} : ∀ {ah r},G.iD n ah=some r->bF pZ 75 [.one (wT ah)] (.one (.c (.lit (.bool r)))):=by
 intro ah r h
 refine aH K.iD (kK ?_)
 unfold C.iD
 rcases n with _ | n<;>simp only [G.iD,reduceCtorEq] at h
 have z:=pp (pp @F.kC ()) <| pp () <| pp (pp (@lS (Int) _ (fun n x=>G.iD.L1 n ah x) r (fun x=>dB.of [eT 8 ah,eI 9 ((ah.length:Nat):Int),eI 10 x] [])) ()) <| pp () <| pp (pp (And.intro @G.iD.L1.eq_1 <| @G.iD.L1.eq_2) ()) <| pp (pp (@bf [] [] []) ()) <| ()
 exact lD
theorem F.slices_Index_string {n:Nat} : ∀ {ai uk r},G.slices_Index_string n ai uk=some r->bF pZ 173 [.one (wT ai),.one (wS uk)] (.one (wI r)):=by
 intro ai uk r h
 refine aH K.slices_Index_string (kK ?_)
 unfold C.slices_Index_string
 rcases n with _ | n<;>simp only [G.slices_Index_string,reduceCtorEq] at h
 have z:=pp () <| pp () <| pp (pp (@lS (Int) _ (fun n x=>G.slices_Index_string.L1 n ai uk x) r (fun x=>dB.of [eT 0 ai,eS 1 uk,eI 7 ((ai.length:Nat):Int),eI 8 x] [])) ()) <| pp () <| pp (pp (And.intro @G.slices_Index_string.L1.eq_1 <| @G.slices_Index_string.L1.eq_2) ()) <| pp (pp (@bf [] [] []) ()) <| ()
 exact lD
theorem F.slices_Contains_string {n:Nat} : ∀ {ai uk r},G.slices_Contains_string n ai uk=some r->bF pZ 120 [.one (wT ai),.one (wS uk)] (.one (.c (.lit (.bool r)))):=by
 intro ai uk r h
 refine aH K.slices_Contains_string (kK ?_)
 unfold C.slices_Contains_string
 rcases n with _ | n<;>simp only [G.slices_Contains_string,reduceCtorEq] at h
 have z:=pp (pp @F.slices_Index_string ()) <| pp () <| pp () <| pp () <| pp () <| pp () <| ()
 exact lD
theorem F.kW {n:Nat} : ∀ {ah jW r},G.kW n ah jW=some r->bF pZ 77 [.one (wT ah),.one (wS jW)] (.one (.c (.lit (.bool r)))):=by
 intro ah jW r h
 refine aH K.kW (kK ?_)
 unfold C.kW
 rcases n with _ | n<;>simp only [G.kW,reduceCtorEq] at h
 have z:=pp (pp @F.slices_Contains_string ()) <| pp () <| pp () <| pp () <| pp () <| pp () <| ()
 exact lD
theorem F.iO {n:Nat} : ∀ {pV nP jW oU r},G.iO n pV nP jW oU=some r->bF pZ 37 [.one (wT pV),.one (wT nP),.one (wS jW),.one (.c (.lit (.bool oU)))] (.one (wI r)):=by
 intro pV nP jW oU r h
 refine aH K.iO (kK ?_)
 unfold C.iO
 rcases n with _ | n<;>simp only [G.iO,reduceCtorEq] at h
 have z:=pp (pp @F.iD <| pp @F.kC <| pp @F.kW ()) <| pp () <| pp () <| pp (pp (@pq (Unit) _ (fun n x=>G.iO.K1 n pV nP jW oU) r (fun x=>dB.of [eT 0 pV,eT 1 nP,eS 2 jW,(3,.v true (.one (.c (.lit (.bool oU))))),(25,.v true (.one (.c (.lit (.bool false)))))] [])) ()) <| pp (pp (And.intro @G.iO.K1.eq_1 <| @G.iO.K1.eq_2) ()) <| pp (pp (@bf [] [] []) ()) <| ()
 exact lD
theorem F.iG {n:Nat} : ∀ {ai r},G.iG n ai=some r->bF pZ 66 [.one (wS ai)] (.one (.c (.lit (.bool r)))):=by
 intro ai r h
 refine aH K.iG (kK ?_)
 unfold C.iG
 rcases n with _ | n<;>simp only [G.iG,reduceCtorEq] at h
 have z:=pp () <| pp () <| pp (pp (@lS (Int) _ (fun n x=>G.iG.L1 n ai x) r (fun x=>dB.of [eS 0 ai,eI 3 x] [])) ()) <| pp () <| pp (pp (And.intro @G.iG.L1.eq_1 <| @G.iG.L1.eq_2) ()) <| pp (pp (@bf [] [] []) ()) <| ()
 exact lD
theorem F.bg {n:Nat} : ∀ {ai r},G.bg n ai=some r->bF pZ 29 [.agg [.c (.sl 7 (List.map aA.cells ai.Items)),wI ai.Clock]] (.one (.c (.lit (.bool r)))):=by
 intro ai r h
 refine aH K.bg (kK ?_)
 unfold C.bg
 rcases n with _ | n<;>simp only [G.bg,reduceCtorEq] at h
 have z:=pp (pp @F.iG <| pp @F.aO ()) <| pp () <| pp (pp (@lS (Int) _ (fun n x=>G.bg.L1 n ai x) r (fun x=>dB.of [eP 1 103,(20,.v true (.one (.c (.sl 7 (List.map aA.cells ai.Items))))),eI 21 ((ai.Items.length:Nat):Int),eI 22 x] [(103,.var [.c (.sl 7 (List.map aA.cells ai.Items)),wI ai.Clock])])) ()) <| pp () <| pp (pp (And.intro @G.bg.L1.eq_1 <| @G.bg.L1.eq_2) ()) <| pp (pp (@bf [] [(103,10)] []) <| pp (@bf [] [(103,103)] []) ()) <| ()
 exact lD
theorem F.lK {n:Nat} : ∀ {kT r},G.lK n kT=some r->bF pZ 51 [.agg [wS kT.Name,wI kT.Version,wI kT.Node.Kind,wI kT.Node.Num,wS kT.Node.Text,wT kT.Node.Names,wK kT.Node.Kids]] (.agg [wS r.Name,wI r.Version,wI r.Node.Kind,wI r.Node.Num,wS r.Node.Text,wT r.Node.Names,wK r.Node.Kids]):=by
 intro kT r h
 refine aH K.lK (kK ?_)
 unfold C.lK
 rcases n with _ | n<;>simp only [G.lK,reduceCtorEq] at h
 have z:=pp (pp @F.aF ()) <| pp () <| pp () <| pp () <| pp () <| pp () <| ()
 exact lD
theorem F.bn {n:Nat} : ∀ {ai r},G.bn n ai=some r->bF pZ 36 [.agg [.c (.sl 7 (List.map aA.cells ai.Items)),wI ai.Clock]] (.agg [.c (.sl 7 (List.map aA.cells r.Items)),wI r.Clock]):=by
 intro ai r h
 refine aH K.bn (kK ?_)
 unfold C.bn
 rcases n with _ | n<;>simp only [G.bn,reduceCtorEq] at h
 have z:=pp (pp @F.lK ()) <| pp () <| pp (pp (@lS (Int × List aA) _ (fun n x=>G.bn.L1 n ai x.1 x.2) r (fun x=>dB.of [eP 2 107,eP 3 108,(19,.v true (.one (.c (.sl 7 (List.map aA.cells ai.Items))))),eI 20 ((ai.Items.length:Nat):Int),eI 21 x.1] [(107,.var [.cO 7,wI 0]),(108,.var [.own 109 x.2.length 7,wI ai.Clock]),(109,.dat 7 (List.map aA.cells x.2))])) ()) <| pp () <| pp (pp (And.intro @G.bn.L1.eq_1 <| @G.bn.L1.eq_2) ()) <| pp (pp (@bf [] [(107,11),(108,12),(109,13)] []) <| pp (@bf [] [(107,107),(108,108),(109,109)] []) ()) <| ()
 exact lD
theorem F.yz {n:Nat} : ∀ {ai r},G.bn n ai=some r->fF pZ 36 [.agg [.c (.sl 7 (List.map aA.cells ai.Items)),wI ai.Clock]] [] (fun r1 b1=>r1 = .agg [.own 0 r.Items.length 7,wI r.Clock]/\b1=[.dat 7 (List.map aA.cells r.Items)]):=by
 intro ai r h
 refine dQ K.bn (kK ?_)
 unfold C.bn
 rcases n with _ | n<;>simp only [G.bn,reduceCtorEq] at h
 have z:=pp (pp @F.lK ()) <| pp () <| pp (pp (@lS (Int × List aA) _ (fun n x=>G.bn.L1 n ai x.1 x.2) r (fun x=>dB.of [eP 2 107,eP 3 108,(19,.v true (.one (.c (.sl 7 (List.map aA.cells ai.Items))))),eI 20 ((ai.Items.length:Nat):Int),eI 21 x.1] [(107,.var [.cO 7,wI 0]),(108,.var [.own 109 x.2.length 7,wI ai.Clock]),(109,.dat 7 (List.map aA.cells x.2))])) ()) <| pp () <| pp (pp (And.intro @G.bn.L1.eq_1 <| @G.bn.L1.eq_2) ()) <| pp (pp (@bf [] [(107,11),(108,12),(109,13)] []) <| pp (@bf [] [(107,107),(108,108),(109,109)] []) ()) <| (pp (@ni [] [(0,109)] []) <| pp (@ni [] [] [0]) ())
 exact lD
theorem F.lQ {n:Nat} : ∀ {kT aQ r},G.lQ n kT aQ=some r->bF pZ 98 [.agg [wS kT.Name,wI kT.Version,wI kT.Node.Kind,wI kT.Node.Num,wS kT.Node.Text,wT kT.Node.Names,wK kT.Node.Kids],.one (wS aQ)] (.one (wI r)):=by
 intro kT aQ r h
 refine aH K.lQ (kK ?_)
 unfold C.lQ
 rcases n with _ | n<;>simp only [G.lQ,reduceCtorEq] at h
 have z:=pp (pp @F.strings_Compare ()) <| pp () <| pp () <| pp () <| pp () <| pp () <| ()
 exact lD
theorem F.ax {n:Nat} : ∀ {kQ lJ r},G.ax n kQ lJ=some r->bF pZ 97 [.one (.c (.sl 7 (List.map aA.cells kQ))),.one (wS lJ),.one (.fn 98 [])] (.o8 [(false,[wI r.1]),(false,[.c (.lit (.bool r.2))])]):=by
 intro kQ lJ r h
 refine aH K.ax (kK ?_)
 unfold C.o6
 rcases n with _ | n<;>simp only [G.ax,reduceCtorEq] at h
 have z:=pp (pp @F.lQ ()) <| pp () <| pp (pp (@lS (Int × Int) _ (fun n x=>G.ax.L1 n kQ lJ x.1 x.2) r (fun x=>dB.of [(0,.v true (.one (.c (.sl 7 (List.map aA.cells kQ))))),eS 1 lJ,(2,.v true (.one (.fn 98 []))),eI 8 ((kQ.length:Nat):Int),eI 9 x.1,eI 10 x.2] [])) ()) <| pp () <| pp (pp (And.intro @G.ax.L1.eq_1 <| @G.ax.L1.eq_2) ()) <| pp (pp (@bf [] [] []) ()) <| ()
 exact lD
theorem F.jS {n:Nat} : ∀ {qh aQ r},G.jS n qh aQ=some r->bF pZ 50 [.one (.c (.sl 7 (List.map aA.cells qh))),.one (wS aQ)] (.o8 [(false,[wI r.1]),(false,[.c (.lit (.bool r.2))])]):=by
 intro qh aQ r h
 refine aH K.jS (kK ?_)
 unfold C.jS
 rcases n with _ | n<;>simp only [G.jS,reduceCtorEq] at h
 have z:=pp () <| pp (pp (pp @F.ax (@cG [] [])) ()) <| pp () <| pp () <| pp () <| pp () <| ()
 exact lD
theorem FZ.iH {es:List (List Cell)} {c i j:Nat} (hc:es.length<=c) (hi:i<j) (hj:j<=es.length) (hb:es.length*112<=2^46) :
  fF pZ 121 [.one (.sub 0 0 es.length (some c) 7),.one (wI (i:Int)),.one (wI (j:Int))] [.dat 7 es]
   (fun r1 b1=>r1 = .one (.own 1 (i+(es.length-j)) 7)/\b1=[.dead,.dat 7 (es.take i++es.drop j)]):=by
 refine dQ K.iH (kK ?_)
 unfold C.iH
 have he:(((i:Nat):Int)==((j:Nat):Int))=false:=by simp; omega
 have ht:List.take (es.length-j) (List.drop j es)=List.drop j es:=List.take_of_length_le (by simp)
 have hr:i+(es.length-j)<=c:=by omega
 simp -dsimp only [sK,dS.iq,dS.f,dS.rd,iL,ig,lvl,iV,reduceIte,Nat.reduceEqDiff,Nat.reduceAdd,Nat.reduceLeDiff,Nat.reduceBEq,reduceCtorEq,Int.reduceBNe,Int.reduceBEq,Int.reduceLT,Int.reduceLE,Int.reduceNeg,Nat.reduceLT,iM,Int.reduceToNat,jC,lC,rZ,oW,o5,oV,oZ,truncS,Option.map_none,Int.sub_zero,Nat.sub_zero,Int.toNat_sub,Int.ofNat_zero,List.drop_zero,List.take_length,Nat.add_sub_cancel,he]
 repeat refine And.intro (by first | (show ja _ _ _ _=true; kernel_rfl) | (show gX _ _=true; kernel_rfl) | omega | assumption) ?_
 simp -dsimp only [sK,dS.iq,dS.f,dS.rd,iL,ig,lvl,iV,reduceIte,Nat.reduceEqDiff,Nat.reduceAdd,Nat.reduceLeDiff,Nat.reduceBEq,reduceCtorEq,Int.reduceBNe,Int.reduceBEq,Int.reduceLT,Int.reduceLE,Int.reduceNeg,Nat.reduceLT,iM,Int.reduceToNat,jC,lC,rZ,oW,o5,oV,oZ,truncS,Option.map_none,Int.sub_zero,Nat.sub_zero,Int.toNat_sub,Int.ofNat_zero,List.drop_zero,List.take_length,Nat.add_sub_cancel,ht,List.length_drop,hr]
 repeat refine And.intro (by first | (show ja _ _ _ _=true; kernel_rfl) | (show gX _ _=true; kernel_rfl) | omega | assumption) ?_
 refine And.intro (by simp; omega) ?_
 have e4:(List.take i es).length=i:=by simp; omega
 have e:List.take (i+(es.length-j)) (List.take i es++List.drop j es++List.drop (i+(es.length-j)) es)=List.take i es++List.drop j es:=by
  have e5:(List.take i es++List.drop j es).length=i+(es.length-j):=by rw [List.length_append,e4,List.length_drop]
  rw [List.take_append_of_le_length (by omega),List.take_of_length_le (by omega)]
 rw [e,List.append_assoc]
 generalize List.replicate (es.length-(i+(es.length-j))) [.str [],.lit (.int .i64 0),.lit (.int .i64 0),.lit (.int .i64 0),.str [],.sl 1 [],.sl 5 []]++List.drop (i+(es.length-j)+(es.length-(i+(es.length-j)))) (List.take i es++List.drop j es++List.drop (i+(es.length-j)) es)=T
 generalize List.take i es++List.drop j es=A
 refine qw [] [(0,0),(1,0)] [] (by rfl) ?_ ?_ ?_<;>(simp -dsimp only [I4,wJ,tK,reduceIte,Nat.reduceEqDiff,reduceCtorEq,Nat.reduceAdd,Nat.reduceLeDiff]<;>first | (simp [List.take_of_length_le]; done) | ((try simp only [List.map_take,List.map_drop,List.map_append,List.map_cons,List.map_nil])<;>(repeat' apply And.intro)<;>first | rfl | (simp; done) | (simp<;>omega; done) | (congr 1; exact (List.take_of_length_le (by simp<;>omega)).symm)))
theorem F.iH {n:Nat} : ∀ {ai:List aA} {yf:Int} {LK:Int} {r:List aA},G.iH n ai yf LK=some r ->
    fF pZ 121 [.one (.own 0 ai.length 7),.one (wI yf),.one (wI LK)] [.dat 7 (List.map aA.cells ai)]
      (fun r1 b1=>r1 = .one (.own 1 r.length 7)/\b1=[.dead,.dat 7 (List.map aA.cells r)]):=by
  intro s i j r h
  cases n with
  | zero=>simp only [G.iH,reduceCtorEq] at h
  | succ n =>
    simp only [G.iH] at h
    obtain ⟨⟨q1,q2,q3,q4⟩,h⟩:=oh.1 h
    cases h
    obtain ⟨k,rfl⟩:∃ k:Nat,i=k:=⟨i.toNat,by omega⟩
    obtain ⟨l,rfl⟩:∃ l:Nat,j=l:=⟨j.toNat,by omega⟩
    refine yQ (fun c hc => ?_)
    have hf:=FZ.iH (es:=List.map aA.cells s) (c:=c) (i:=k) (j:=l) (by simpa using hc) (by omega) (by rw [List.length_map]; omega) (by rw [List.length_map]; exact q4)
    have e1:(List.take k s++List.drop l s).length=k+(s.length-l):=by simp; omega
    rw [Int.toNat_natCast,Int.toNat_natCast,e1]
    simpa using hf
theorem F.mD {n:Nat} : ∀ {ai aQ r},G.mD n ai aQ=some r->bF pZ 78 [.agg [.c (.sl 7 (List.map aA.cells ai.Items)),wI ai.Clock],.one (wS aQ)] (.o8 [(true,[.c (.sl 7 (List.map aA.cells r.1.Items)),wI r.1.Clock]),(false,[.c (.lit (.bool r.2))])]):=by
 intro ai aQ r h
 refine aH K.mD (kK ?_)
 unfold C.mD
 rcases n with _ | n<;>simp only [G.mD,reduceCtorEq] at h
 have z:=pp (pp @F.bg <| pp @F.jS ()) <| pp (pp (pp @F.yz (@cG [] [101])) <| pp (pp @F.iH (@cG [101] [102])) ()) <| pp () <| pp () <| pp () <| pp () <| ()
 exact lD
theorem B.lays167:Go.Proofs.Lays.n167 pZ B.ren:=by constructor<;>first | kernel_rfl | (intro w; kernel_rfl)
theorem F.aP {n:Nat} : ∀ {sZ:fE} {Dt:Int} {r:Unit × fE},G.aP n sZ Dt=some r->fF pZ 139 [.one (.ptr 0 0),.one (.c (.lit (.int .u8 Dt)))] [.var [.opt 116 0,.pU 1 sZ.buf.length],.row 5 sZ.buf] (fun r1 b1=>r1 = .one (.c (.lit .nilIface))/\b1=[.var [.opt 116 0,.pU 2 r.2.buf.length],.dead,.row 5 r.2.buf]):=by
 intro b c r h
 rcases n with _ | n<;>simp only [G.aP,reduceCtorEq] at h
 obtain ⟨⟨hc,hl⟩,h⟩:=oh.1 h
 cases h
 exact JK B.lays167 B.x hc hl
theorem F.dG {n:Nat} : ∀ {sZ ai r},G.dG n sZ ai=some r->fF pZ 138 [.one (.ptr 0 0),.one (wS ai)] [.var [.opt 116 0,.pU 1 sZ.buf.length],.row 5 sZ.buf] (fun r1 b1=>r1 = .o8 []/\b1=[.var [.opt 116 0,.pU 2 r.buf.length],.dead,.row 5 r.buf]):=by
 intro sZ ai r h
 refine dQ K.dG (kK ?_)
 unfold C.dG
 rcases n with _ | n<;>simp only [G.dG,reduceCtorEq] at h
 have z:=pp () <| pp (pp (pp @F.aP (@cG [0,1] [101])) <| pp (pp @F.aP (@cG [0,116] [121])) <| pp (pp @F.aP (@cG [0,116] [122])) <| pp (pp @F.aP (@cG [0,119] [120])) <| pp (pp @F.aP (@cG [0,116] [123])) ()) <| pp (pp (@lS (Int × aG) _ (fun n x=>G.dG.L3 n ai x.1 x.2) r (fun x=>dB.of [eP 0 0,eS 1 ai,eI 4 x.1] [(0,.var [.opt 116 0,.pU 116 x.2.length]),(1,.dead),(116,.row 5 x.2)])) ()) <| pp (pp (@pq (Int × aG) _ (fun n x=>G.dG.K4 n ai x.1 x.2) r (fun x=>dB.of [eP 0 0,eS 1 ai,eI 4 x.1] [(0,.var [.opt 116 0,.pU 119 x.2.length]),(1,.dead),(119,.row 5 x.2)])) ()) <| pp (pp (And.intro @G.dG.L3.eq_1 <| And.intro @G.dG.L3.eq_2 <| And.intro @G.dG.K4.eq_1 <| @G.dG.K4.eq_2) ()) <| pp (pp (@bf [] [(0,0),(1,1),(116,101)] []) <| pp (@bf [] [(0,0),(1,1),(119,121)] []) <| pp (@bf [] [(0,0),(1,1),(119,122)] []) <| pp (@bf [] [(0,0),(1,1),(119,116)] []) <| pp (@bf [] [(0,0),(1,1),(116,120)] []) ()) <| (pp (@ni [] [(0,0),(1,1),(2,123)] []) <| pp (@ni [] [(0,0),(1,1),(2,121)] []) ())
 exact lD
theorem B.lays166:Go.Proofs.Lays.n166 pZ B.ren:=by constructor<;>first | kernel_rfl | (intro w; kernel_rfl)
theorem F.jE {n:Nat} : ∀ {sZ:fE} {ai:aG} {r:Int × Unit × fE},G.jE n sZ ai=some r->fF pZ 136 [.one (.ptr 0 0),.one (wS ai)] [.var [.opt 116 0,.pU 1 sZ.buf.length],.row 5 sZ.buf] (fun r1 b1=>r1 = .o8 [(false,[wI r.1]),(false,[.c (.lit .nilIface)])]/\b1=[.var [.opt 116 0,.pU 2 r.2.2.buf.length],.dead,.row 5 r.2.2.buf]):=by
 intro b s r h
 rcases n with _ | n<;>simp only [G.jE,reduceCtorEq] at h
 obtain ⟨hl,h⟩:=oh.1 h
 cases h
 exact GM B.lays166 B.x hl
theorem F.EL:∀ (n:Nat),∀ {sZ ag r},G.aZ n sZ ag=some r->fF pZ 95 [.one (.ptr 0 0),.agg (wN ag)] [.var [.opt 116 0,.pU 1 sZ.buf.length],.row 5 sZ.buf] (fun r1 b1=>r1 = .o8 []/\b1=[.var [.opt 116 0,.pU 2 r.buf.length],.dead,.row 5 r.buf]):=by
 intro n
 induction n using Nat.strongRecOn with | _ n ih =>
 intro sZ ag r h
 refine dQ K.aZ (kK ?_)
 unfold C.aZ
 rcases n with _ | n<;>simp only [G.aZ,reduceCtorEq] at h
 have:=Mk.mk 1; have:=Mk.mk 2
 have z:=pp (pp @F.strconv_Itoa ()) <| pp (pp (pp ih (@cG [0,118] [119])) <| pp (pp ih (@cG [0,148] [149])) <| pp (pp @F.jE (@cG [0,1] [101])) <| pp (pp @F.jE (@cG [0,1] [102])) <| pp (pp @F.dG (@cG [0,1] [103])) <| pp (pp @F.aP (@cG [0,1] [104])) <| pp (pp @F.aP (@cG [0,115] [120])) <| pp (pp @F.aP (@cG [0,115] [121])) <| pp (pp @F.aP (@cG [0,1] [122])) <| pp (pp @F.aP (@cG [0,142] [150])) <| pp (pp @F.dG (@cG [0,146] [147])) <| pp (pp @F.aP (@cG [0,147] [148])) <| pp (pp @F.aP (@cG [0,142] [151])) ()) <| pp (pp (@lS (Int × aG) _ (fun n x=>G.aZ.L3 n ag x.1 x.2) r (fun x=>dB.of [eP 0 0,(32,.v true (.one (wK ag.Kids))),eI 33 ((ag.Kids.length:Nat):Int),eI 34 x.1] [(0,.var [.opt 116 0,.pU 115 x.2.length]),(1,.dead),(115,.row 5 x.2)])) <| pp (@lS (Int × aG) _ (fun n x=>G.aZ.L7 n ag x.1 x.2) r (fun x=>dB.of [eP 0 0,eP 3 141,(54,.v true (.one (wK ag.Kids))),eI 55 ((ag.Kids.length:Nat):Int),eI 56 x.1] [(0,.var [.opt 116 0,.pU 142 x.2.length]),(1,.dead),(141,.var (wN ag)),(142,.row 5 x.2)])) ()) <| pp (pp (@pq (Int × aG) _ (fun n x=>G.aZ.K4 n ag x.1 x.2) r (fun x=>dB.of [eP 0 0,eP 5 117,(32,.v true (.one (wK ag.Kids))),eI 33 ((ag.Kids.length:Nat):Int),eI 34 x.1] [(0,.var [.opt 116 0,.pU 118 x.2.length]),(1,.dead),(117,.var [wI ((ag.Kids.getD x.1.toNat default).Kind),wI ((ag.Kids.getD x.1.toNat default).Num),wS ((ag.Kids.getD x.1.toNat default).Text),wT ((ag.Kids.getD x.1.toNat default).Names),wK ((ag.Kids.getD x.1.toNat default).Kids)]),(118,.row 5 x.2)])) <| pp (@pq (Int × aG) _ (fun n x=>G.aZ.K8 n ag x.1 x.2) r (fun x=>dB.of [eP 0 0,eP 3 144,eI 6 x.1,eP 7 145,(54,.v true (.one (wK ag.Kids))),eI 55 ((ag.Kids.length:Nat):Int),eI 56 x.1] [(0,.var [.opt 116 0,.pU 146 x.2.length]),(1,.dead),(144,.var (wN ag)),(145,.var [wI ((ag.Kids.getD x.1.toNat default).Kind),wI ((ag.Kids.getD x.1.toNat default).Num),wS ((ag.Kids.getD x.1.toNat default).Text),wT ((ag.Kids.getD x.1.toNat default).Names),wK ((ag.Kids.getD x.1.toNat default).Kids)]),(146,.row 5 x.2)])) ()) <| pp (pp (And.intro @G.aZ.L3.eq_1 <| And.intro @G.aZ.L3.eq_2 <| And.intro @G.aZ.K4.eq_1 <| And.intro @G.aZ.K4.eq_2 <| And.intro @G.aZ.L7.eq_1 <| And.intro @G.aZ.L7.eq_2 <| And.intro @G.aZ.K8.eq_1 <| @G.aZ.K8.eq_2) ()) <| pp (pp (@bf [] [(0,0),(1,1),(115,104)] []) <| pp (@bf [] [(0,0),(1,1),(117,11),(118,120)] []) <| pp (@bf [] [(0,0),(1,1),(117,11),(118,115)] []) <| pp (@bf [] [(0,0),(1,1),(115,119)] []) <| pp (@bf [] [(0,0),(1,1),(141,10),(142,122)] []) <| pp (@bf [] [(0,0),(1,1),(144,141),(145,12),(146,150)] []) <| pp (@bf [] [(0,0),(1,1),(144,141),(145,12),(146,142)] []) <| pp (@bf [] [(0,0),(1,1),(141,144),(142,149)] []) <| pp (@bf [] [(0,0),(1,1),(141,10),(142,104)] []) ()) <| pp (pp (@ni [] [(0,0),(1,1),(2,101)] []) <| pp (@ni [] [(0,0),(1,1),(2,102)] []) <| pp (@ni [] [(0,0),(1,1),(2,103)] []) <| pp (@ni [] [(0,0),(1,1),(2,121)] []) <| pp (@ni [] [(0,0),(1,1),(2,151)] []) <| pp (@ni [] [(0,0),(1,1),(2,1)] []) <| pp (@ni [] [(0,0),(1,1),(2,120)] []) <| pp (@ni [] [(0,0),(1,1),(2,150)] []) ()) <| (pp (pp (rfl : @G.aZ.K4=_) <| pp (rfl : @G.aZ.L3=_) ()) <| pp (pp (rfl : @G.aZ.K8=_) <| pp (rfl : @G.aZ.L7=_) ()) ())
 exact Ht
theorem F.aZ {n:Nat} : ∀ {sZ:fE} {ag:af} {r:fE},G.aZ n sZ ag=some r->fF pZ 95 [.one (.ptr 0 0),.agg (wN ag)] [.var [.opt 116 0,.pU 1 sZ.buf.length],.row 5 sZ.buf] (fun r1 b1=>r1 = .o8 []/\b1=[.var [.opt 116 0,.pU 2 r.buf.length],.dead,.row 5 r.buf]):=F.EL n
theorem B.lays169:Go.Proofs.Lays.n169 pZ B.ren:=by constructor<;>first | kernel_rfl | (intro w; kernel_rfl)
theorem F.mQ {n:Nat} : ∀ {sZ:fE} {r:aG},G.mQ n sZ=some r->fF pZ 96 [.one (.ptr 0 0)] [.var [.opt 116 0,.pU 1 sZ.buf.length],.row 5 sZ.buf] (fun r1 b1=>r1 = .one (wS r)/\b1=[.dead,.dead]):=by
 intro b r h
 rcases n with _ | n<;>simp only [G.mQ,reduceCtorEq] at h
 obtain ⟨hl,h⟩:=oh.1 h
 cases h
 exact QY B.lays169 B.x (Nat.le_trans hl (by decide))
theorem F.lg {n:Nat} : ∀ {ag r},G.lg n ag=some r->bF pZ 49 [.agg (wN ag)] (.one (wS r)):=by
 intro ag r h
 refine aH K.lg (kK ?_)
 unfold C.lg
 rcases n with _ | n<;>simp only [G.lg,reduceCtorEq] at h
 have z:=pp (pp @F.aO ()) <| pp (pp (pp @F.aZ (@cG [12,11] [101])) <| pp (pp @F.mQ (@cG [12,101] [])) ()) <| pp () <| pp () <| pp () <| pp () <| ()
 exact lD
theorem F.ji {n:Nat} : ∀ {ai aQ r},G.ji n ai aQ=some r->bF pZ 19 [.agg [.c (.sl 7 (List.map aA.cells ai.Items)),wI ai.Clock],.one (wS aQ)] (.o8 [(true,[wS r.1.Name,wI r.1.Version,wI r.1.Node.Kind,wI r.1.Node.Num,wS r.1.Node.Text,wT r.1.Node.Names,wK r.1.Node.Kids]),(false,[.c (.lit (.bool r.2))])]):=by
 intro ai aQ r h
 refine aH K.ji (kK ?_)
 unfold C.ji
 rcases n with _ | n<;>simp only [G.ji,reduceCtorEq] at h
 have z:=pp (pp @F.bg <| pp @F.jS <| pp @F.lK ()) <| pp () <| pp () <| pp () <| pp () <| pp () <| ()
 exact lD
theorem F.fM {n:Nat} : ∀ {ai r},G.fM n ai=some r->bF pZ 48 [.one (wS ai)] (.one (wS r)):=by
 intro ai r h
 refine aH K.fM (kK ?_)
 unfold C.fM
 rcases n with _ | n<;>simp only [G.fM,reduceCtorEq] at h
 have z:=pp () <| pp () <| pp (pp (@lS (Int × Int) _ (fun n x=>G.fM.L1 n ai x.1 x.2) r (fun x=>dB.of [eS 0 ai,eI 3 x.1,eI 4 x.2] [])) <| pp (@lS (Int × Int × List Int) _ (fun n x=>G.fM.L2 n x.1 x.2.1 x.2.2) r (fun x=>dB.of [eI 3 x.1,(5,.v true (.one (.qR 103 0 1 0))),eI 6 x.2.1] [(103,.dat 1 (List.map cU x.2.2))])) ()) <| pp () <| pp (pp (And.intro @G.fM.L1.eq_1 <| And.intro @G.fM.L1.eq_2 <| And.intro @G.fM.L2.eq_1 <| @G.fM.L2.eq_2) ()) <| pp (pp (@bf [] [] []) <| pp (@bf [] [(103,10)] []) <| pp (@bf [] [(103,103)] []) ()) <| ()
 exact lD
theorem F.lF {n:Nat} : ∀ {ag r},G.lF n ag=some r->bF pZ 18 [.agg (wN ag)] (.one (wS r)):=by
 intro ag r h
 refine aH K.lF (kK ?_)
 unfold C.lF
 rcases n with _ | n<;>simp only [G.lF,reduceCtorEq] at h
 have z:=pp (pp @F.aO <| pp @F.lg <| pp @F.fM ()) <| pp () <| pp () <| pp () <| pp () <| pp () <| ()
 exact lD
theorem F.lq {n:Nat} : ∀ {ai bQ r},G.lq n ai bQ=some r->bF pZ 38 [.agg [.c (.sl 7 (List.map aA.cells ai.Items)),wI ai.Clock],.agg [wI bQ.Method,wS bQ.Name,wT bQ.Want,wT bQ.lT,wI bQ.Body.Kind,wI bQ.Body.Num,wS bQ.Body.Text,wT bQ.Body.Names,wK bQ.Body.Kids,.c (.sl 8 (List.map nO.cells bQ.Ops))]] (.o8 [(true,[.c (.sl 7 (List.map aA.cells r.1.Items)),wI r.1.Clock]),(true,[wI r.2.Status,wS r.2.Tag,wI r.2.Version,wI r.2.Body.Kind,wI r.2.Body.Num,wS r.2.Body.Text,wT r.2.Body.Names,wK r.2.Body.Kids])]):=by
 intro ai bQ r h
 refine aH K.lq (kK ?_)
 unfold C.lq
 rcases n with _ | n<;>simp only [G.lq,reduceCtorEq] at h
 have z:=pp (pp @F.mD <| pp @F.bn ()) <| pp () <| pp () <| pp () <| pp () <| pp () <| ()
 exact lD
end Go.Ab
end
