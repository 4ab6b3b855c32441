/- The functions of the program that the laws reach: what they compute, the proofs that they do, the laws of the data (part 2). No conditions. -/
import Derived.Test.YtmfgjjhlnaibkaaGreatDoorB1
set_option linter.unusedVariables false
set_option linter.unusedSimpArgs false
section
namespace Go.Ab
open Go
def AO (n:af) (j:Nat) (c:af):af:=af.mk n.Kind n.Num n.Text n.Names (n.Kids.set j c)
def ug (f:af->Option af):af->List aK->Option af
  | n,[]=>f n
  | n,s::p=>match zJ n s with
    | some j=>(ug f (n.Kids.getD j default) p).map (AO n j)
    | none=>none
def Fg (n:af) (p:List aK) (v:af):Option af:=ug (fun _=>some v) n p
theorem Cc (f:af->Option af):∀ (p:List aK) (n:af),ug f n p=(Jc n p).bind fun m=>(f m).bind fun m'=>Fg n p m'
  | [],n=>by
    show f n=(f n).bind fun m'=>some m'
    cases f n<;>rfl
  | s::p,n=>by
    rw [ug,Jc]
    cases hj:zJ n s with
    | none=>rfl
    | some j =>
      simp only
      rw [Cc f p]
      cases ha:Jc (n.Kids.getD j default) p with
      | none=>rfl
      | some m =>
        simp only [Option.bind_some]
        cases hf:f m with
        | none=>rfl
        | some m' =>
          simp only [Option.bind_some]
          unfold Fg
          rw [ug,hj]
theorem EI {B D E:Nat} {n v:af} {j:Nat} (h:Fine B (D+1) n) (hv:Fine B E v):Fine B (max D E+1) (AO n j v):=by
 obtain ⟨h1,h2,h3,h4,h5,h6⟩:=h
 refine ⟨h1,h2,h3,by simpa [AO] using h4,by simpa [AO] using h5,fun k hk => ?_⟩
 rcases List.mem_or_eq_of_mem_set hk with hk | rfl
 ·exact (h6 k hk).mono (Nat.le_refl _) (Nat.le_max_left _ _)
 ·exact hv.mono (Nat.le_refl _) (Nat.le_max_right _ _)
theorem yY {B E:Nat} {f:af->Option af} : ∀ (p:List aK) {D:Nat} {n m:af},(∀ D' k k',Fine B D' k->f k=some k'->Fine B (D'+E) k')->Fine B D n->ug f n p=some m->Fine B (D+E) m
  | [],D,n,m,hf,h,hm=>hf D n m h hm
  | s::p,D,n,m,hf,h,hm=>by
    rw [ug] at hm
    cases hj:zJ n s with
    | none=>rw [hj] at hm; cases hm
    | some j =>
      rw [hj] at hm
      simp only at hm
      cases D with
      | zero=>exact h.elim
      | succ D =>
      cases hc:ug f (n.Kids.getD j default) p with
      | none=>rw [hc] at hm; cases hm
      | some c =>
        rw [hc] at hm
        cases hm
        have:=EI (j:=j) h (yY p hf (h.kid (pX hj)) hc)
        exact this.mono (Nat.le_refl _) (by omega)
theorem Bl {B D E:Nat} {n v m:af} {p:List aK} (h:Fine B D n) (hv:Fine B E v) (hm:Fg n p v=some m):Fine B (D+E) m :=
 yY p (fun D' k k' _ e=>by cases e; exact hv.mono (Nat.le_refl _) (by omega)) h hm
theorem vw {B:Nat} : ∀ (p:List aK) {D:Nat} {n m:af},Fine B D n->Jc n p=some m->Fine B D m
  | [],_,_,_,h,e=>by cases e; exact h
  | s::p,D,n,m,h,e=>by
    rw [Jc] at e
    cases hj:zJ n s with
    | none=>rw [hj] at e; cases e
    | some j =>
      rw [hj] at e
      cases D with
      | zero=>exact h.elim
      | succ D=>exact (vw p (h.kid (pX hj)) e).mono (Nat.le_refl _) (by omega)
theorem T.fG {B D E:Nat} {n v:af} {j:Nat} (hB:B<=lim) (h:Fine B D n) (hv:Fine B E v) (hj:j<n.Kids.length):Ev (fun f=>G.fG f n j v) (AO n j v):=by
 refine Ev.up ?_
 simp only [G.fG]
 refine Ev.bind (T.ax hB h) (Ev.bind (T.ax hB hv) (Ev.chk (by omega) (Ev.ret' ?_)))
 rw [Int.toNat_natCast]; rfl
theorem T.fP {B E:Nat} {v:af} (hB:B<=lim) (hv:Fine B E v):∀ (p:List aK) {D:Nat} {n:af},p.length<big->Fine B D n->Ev (fun f=>G.fP f n p v) (kQ (Fg n p v))
  | [],D,n,_,h=>by
    refine Ev.up ?_
    simp only [G.fP]
    exact Ev.ct rfl (Ev.bind (T.ax hB hv) (Ev.ret _))
  | s::p,D,n,hp,h=>by
    simp only [List.length_cons] at hp
    have hp':=hp
    unfold big at hp'
    refine Ev.up ?_
    simp only [G.fP]
    refine Ev.cf (by simp; omega) (Ev.chk (by simp) ?_)
    rw [List.getD_cons_zero]
    refine Ev.bind (T.bW s hB h) ?_
    unfold Fg
    rw [ug]
    cases hj:zJ n s with
    | none=>exact Ev.ct rfl (Ev.ret _)
    | some j =>
      have hjl:=pX hj
      cases D with
      | zero=>exact h.elim
      | succ D =>
      refine Ev.cf (decide_eq_false (by simp only [qK]; omega)) (Ev.chk (by simp only [qK]; omega) (Ev.chk (by simp; omega) ?_))
      have hk:=h.kid hjl
      have ih:=T.fP hB hv p (by omega) hk
      refine Ev.bind (show Ev (fun f=>G.fP f (n.Kids.getD (qK (some j)).toNat default) ((s::p).drop 1) v) _ from ih) ?_
      show Ev _ (kQ ((Fg (n.Kids.getD j default) p v).map (AO n j)))
      cases hc:Fg (n.Kids.getD j default) p v with
      | none=>exact Ev.cf rfl (Ev.ret _)
      | some c =>
        refine Ev.ct rfl ?_
        exact Ev.bind (T.fG hB h (Bl hk hv hc) hjl) (Ev.ret _)
theorem zK {s:aK} (h:PT s=true):s.length<=12:=by unfold PT at h; simp at h; exact h.2
theorem uD:∀ {d:Nat} {n:af},Shape d n=true->Fine 12 d n
  | 0,_,h=>by cases h
  | d+1,n,h=>by
    have hp:=jH h
    have hk:=kL h
    have hl:=BA hp
    refine ⟨?_,?_,?_,by omega,?_,fun k hk'=>uD (hk k hk')⟩
    · by_cases h2:n.Kind=2
      · unfold Parts at hp; simp [h2] at hp; exact zK hp.2.1
      · have e2:(n.Kind==2)=false:=by simpa using h2
        unfold Parts at hp
        simp only [e2,Bool.false_or,Bool.and_eq_true] at hp
        have:=hp.1.1.2
        rw [beq_iff_eq] at this
        rw [this]; simp
    · by_cases h4:n.Kind=4
      · have:=(nR hp h4).2.2.2.1; omega
      · by_cases h3:n.Kind=3
        · rw [(zH hp h3).2.2.1]; simp
        · rw [(zF hp h4 h3).1]; simp
    · intro s hs
      by_cases h4:n.Kind=4
      · exact zK (GU (nR hp h4).2.2.1 s hs)
      · by_cases h3:n.Kind=3
        · rw [(zH hp h3).2.2.1] at hs; cases hs
        · rw [(zF hp h4 h3).1] at hs; cases hs
    · intro h4; have:=(nR hp h4).2.2.2.2; omega
theorem nS {d:Nat} {n:af} (h:Shape (d+1) n=true) {j:Nat} (hj:j<n.Kids.length):Shape d (n.Kids.getD j default)=true:=by
 rw [fE _ hj]; exact kL h _ (List.getElem_mem _)
theorem zC:12<=lim:=by decide
end Go.Ab
end
section
namespace Go.Ab
open Go
def insL {α:Type} (l:List α) (k:Nat) (v:α):List α:=(l.take k++[v])++l.drop k
def slt (n:af) (s:aK):Nat:=((List.range' 0 n.Kids.length).find? fun i=>bl s (n.Names.getD i default)).getD n.Kids.length
def addN (n:af) (s:aK) (v:af):Option af :=
  match zJ n s with
  | some k=>if n.Kind=4 then some (AO n k v) else some (af.mk n.Kind 0 [] [] (insL n.Kids k v))
  | none=>if n.Kind=3 then (if s=[45]\/s=ou n.Kids.length then some (af.mk n.Kind 0 [] [] (insL n.Kids n.Kids.length v)) else none)
    else if n.Kind=4 then some (af.mk n.Kind 0 [] (insL n.Names (slt n s) s) (insL n.Kids (slt n s) v)) else none
theorem QB (n:af) (s:aK):slt n s<=n.Kids.length:=by
 unfold slt
 cases h:(List.range' 0 n.Kids.length).find? fun i=>bl s (n.Names.getD i default) with
 | none=>simp
 | some j=>have:=(Bj.1 h).2.1; simp only [Option.getD_some]; omega
def xG (n:af) (s:aK):Option (Nat × Bool) :=
  match zJ n s with
  | some k=>some (k,n.Kind==4)
  | none=>if n.Kind=3 then (if s=[45]\/s=ou n.Kids.length then some (n.Kids.length,false) else none)
    else if n.Kind=4 then some (slt n s,false) else none
def Nu:Option (Nat × Bool)->Int × Bool
 | some (k,b)=>((k:Int),b)
 | none=>(-1,false)
theorem T.dP.L1 {n:af} (s:aK) (hk:n.Kind ≠ 4):Ev (fun f=>G.dP.L1 f n s 0) (-1,false):=by
 refine Ev.up ?_
 simp only [G.dP.L1]
 exact Ev.cf (by simpa using hk) (Ev.ret _)
theorem T.dP.L2 {B D:Nat} {n:af} (s:aK) (hB:B<=lim) (h:Fine B D n) (hk:n.Kind=4) :
    ∀ (k i:Nat),i+k=n.Kids.length->Ev (fun f=>G.dP.L2 f n s i) (((((List.range' i k).find? fun i=>bl s (n.Names.getD i default)).getD n.Kids.length:Nat):Int),false):=by
  have hl:=h.kids
  have hm:=h.map hk
  unfold lim at hB
  intro k
  induction k with
  | zero =>
    intro i hi
    refine Ev.up ?_
    simp only [G.dP.L2]
    refine Ev.ct (by simpa using hk) (Ev.ct (by simp; omega) (Ev.ct (by simp; omega) (Ev.ret' ?_)))
    show ((i:Int),false)=(((n.Kids.length:Nat):Int),false)
    rw [show i=n.Kids.length by omega]
  | succ k ih =>
    intro i hi
    refine Ev.up ?_
    simp only [G.dP.L2]
    refine Ev.ct (by simpa using hk) (Ev.ct (by simp; omega) (Ev.cf (by simp; omega) (Ev.chk (by omega) ?_)))
    rw [List.range'_succ,List.find?_cons,Int.toNat_natCast]
    refine Ev.ite (fun e=>Ev.ret' ?_) (fun e => ?_)
    · rw [show bl s (n.Names.getD i default)=true from e]; rfl
    · rw [dB (by omega),show bl s (n.Names.getD i default)=false from e]
      exact ih (i+1) (by omega)
theorem T.dP {B D:Nat} {n:af} (s:aK) (hB:B<=lim) (h:Fine B D n) (hB':B<lim):Ev (fun f=>G.dP f n s) (Nu (xG n s)):=by
  have hl:=h.kids
  refine Ev.up ?_
  simp only [G.dP]
  refine Ev.bind (T.bW s hB h) ?_
  unfold xG
  cases hj:zJ n s with
  | some j=>exact Ev.ct (decide_eq_true (by simp only [qK]; omega)) (Ev.ret _)
  | none =>
    refine Ev.cf (by rfl) ?_
    simp only
    by_cases h3:n.Kind=3
    · rw [if_pos h3]
      refine Ev.ct (by simpa using h3) ?_
      refine Ev.ite (fun e=>Ev.ret' ?_) (fun e => ?_)
      · rw [if_pos (.inl (by simpa using e))]; rfl
      · refine Ev.bind (T.decimal (i:=n.Kids.length) (by omega)) (Ev.ite (fun e2=>Ev.ret' ?_) (fun e2 => ?_))
        · rw [if_pos (.inr (by simpa using e2))]; rfl
        · rw [if_neg (by simp at e e2; simp [e,e2])]
          exact T.dP.L1 s (by omega)
    · rw [if_neg h3]
      refine Ev.cf (by simpa using h3) ?_
      by_cases h4:n.Kind=4
      · rw [if_pos h4]
        exact T.dP.L2 s hB h h4 n.Kids.length 0 (by omega)
      · rw [if_neg h4]
        refine Ev.up ?_
        simp only [G.dP.L2]
        exact Ev.cf (by simpa using h4) (Ev.ret _)
theorem Ba (n:af) (s:aK) (v:af):addN n s v=(xG n s).map fun q=>if q.2 then AO n q.1 v else if n.Kind=3 then af.mk n.Kind 0 [] [] (insL n.Kids q.1 v) else af.mk n.Kind 0 [] (insL n.Names q.1 s) (insL n.Kids q.1 v):=by
  unfold addN xG
  cases hj:zJ n s with
  | some j =>
    simp only [Option.map_some]
    by_cases h4:n.Kind=4
    · simp [h4]
    · have h3:n.Kind=3:=by
        by_cases h3:n.Kind=3
        · exact h3
        · have:=DL hj; rw [zi h4 h3] at this; cases this
      simp [h3]
  | none =>
    simp only
    by_cases h3:n.Kind=3
    · simp only [h3,if_true]
      by_cases hs:s=[45]\/s=ou n.Kids.length
      · rw [if_pos hs,if_pos hs]; simp
      · rw [if_neg hs,if_neg hs]; rfl
    · rw [if_neg h3,if_neg h3]
      by_cases h4:n.Kind=4
      · rw [if_pos h4,if_pos h4]; simp [h3]
      · rw [if_neg h4,if_neg h4]; rfl
theorem Iz {n:af} {s:aK} {q:Nat × Bool} (h:xG n s=some q):q.1<=n.Kids.length/\(q.2=true->q.1<n.Kids.length)/\(n.Kind=3\/n.Kind=4):=by
  unfold xG at h
  cases hj:zJ n s with
  | some j =>
    rw [hj] at h
    cases h
    have:=pX hj
    refine ⟨by omega,fun _=>this,?_⟩
    by_cases h4:n.Kind=4
    · exact .inr h4
    · by_cases h3:n.Kind=3
      · exact .inl h3
      · have:=DL hj; rw [zi h4 h3] at this; cases this
  | none =>
    rw [hj] at h
    simp only at h
    by_cases h3:n.Kind=3
    · rw [if_pos h3] at h
      split at h
      · cases h; exact ⟨Nat.le_refl _,fun e=>(by cases e),.inl h3⟩
      · cases h
    · rw [if_neg h3] at h
      split at h
      · rename_i h4; cases h; exact ⟨QB n s,fun e=>(by cases e),.inr h4⟩
      · cases h
theorem T.eY {B D E:Nat} {n v:af} (s:aK) (hB:B<lim) (h:Fine B D n) (hv:Fine B E v):Ev (fun f=>G.eY f n s v) (kQ (addN n s v)):=by
  have hl:=h.kids
  have hn:=h.names
  have hB2:=hB
  unfold lim at hB2
  refine Ev.up ?_
  simp only [G.eY]
  refine Ev.bind (T.dP s (by omega) h hB) ?_
  rw [Ba]
  cases hq:xG n s with
  | none=>exact Ev.ct rfl (Ev.ret _)
  | some q =>
    obtain ⟨q1,q2⟩:=q
    obtain ⟨hq1,hq2,hk⟩:=Iz hq
    simp only at hq1 hq2
    refine Ev.cf (decide_eq_false (by simp only [Nu]; omega)) ?_
    refine Ev.ite (fun e => ?_) (fun e => ?_)
    · have e:q2=true:=e
      subst e
      exact Ev.bind (T.fG (by omega) h hv (hq2 rfl)) (Ev.ret _)
    · have e:q2=false:=e
      subst e
      simp only [Nu,Int.toNat_natCast]
      have ht:(n.Kids.take q1).length=q1:=by rw [List.length_take]; omega
      have hd:(n.Kids.drop q1).length=n.Kids.length-q1:=List.length_drop
      refine Ev.bind (T.ax (by omega) h) (Ev.chk (by omega) (Ev.chk (by omega) (Ev.bind (T.ax (by omega) hv) (Ev.chk (by omega) (Ev.chk (by omega) (Ev.chk (by omega) ?_))))))
      refine Ev.ite (fun e3=>Ev.ret' ?_) (fun e3 => ?_)
      · have e3':n.Kind=3:=by simpa using e3
        simp only [Option.map_some,if_pos e3']
        rfl
      · have e3':¬ n.Kind=3:=by simpa using e3
        have h4:n.Kind=4:=by omega
        have hm:=h.map h4
        have ht2:(n.Names.take q1).length=q1:=by rw [List.length_take]; omega
        have hd2:(n.Names.drop q1).length=n.Names.length-q1:=List.length_drop
        refine Ev.chk (by omega) (Ev.chk (by omega) (Ev.chk (by omega) (Ev.chk (by omega) (Ev.chk (by omega) (Ev.ret' ?_)))))
        simp only [Option.map_some,if_neg e3']
        rfl
theorem yX {B D E:Nat} {n v m:af} {s:aK} (h:Fine B D n) (hv:Fine B E v) (hs:s.length<=B) (hm:addN n s v=some m):Fine (B+1) (D+E) m:=by
  rw [Ba] at hm
  cases hq:xG n s with
  | none=>rw [hq] at hm; cases hm
  | some q =>
    obtain ⟨q1,q2⟩:=q
    obtain ⟨hq1,hq2,hk⟩:=Iz hq
    simp only at hq1 hq2
    rw [hq] at hm
    cases D with
    | zero=>exact h.elim
    | succ D =>
    cases hm
    have Rf:∀ k,k∈insL n.Kids q1 v->Fine (B+1) (D+E) k:=by
      intro k hk
      unfold insL at hk
      simp only [List.mem_append,List.mem_singleton] at hk
      rcases hk with (hk | rfl) | hk
      · exact (h.2.2.2.2.2 k (List.mem_of_mem_take hk)).mono (by omega) (by omega)
      · exact hv.mono (by omega) (by omega)
      · exact (h.2.2.2.2.2 k (List.mem_of_mem_drop hk)).mono (by omega) (by omega)
    have hlen:(insL n.Kids q1 v).length=n.Kids.length+1:=by unfold insL; simp; omega
    have hl:=h.kids
    have hn:=h.names
    have hb:1<=B+1:=by omega
    cases q2 with
    | true=>exact (EI (j:=q1) h hv).mono (by omega) (by omega)
    | false =>
      simp only [Bool.false_eq_true,if_false]
      rw [show D+1+E=(D+E)+1 by omega]
      by_cases h3:n.Kind=3
      · rw [if_pos h3]
        exact ⟨by simp,by simp,by simp,by show (insL n.Kids q1 v).length<=_; omega,fun h4=>by simp only at h4; omega,Rf⟩
      · rw [if_neg h3]
        have h4:n.Kind=4:=by omega
        have hm:=h.map h4
        have hlen2:(insL n.Names q1 s).length=n.Names.length+1:=by unfold insL; simp; omega
        refine ⟨by simp,by show (insL n.Names q1 s).length<=_; omega,fun x hx => ?_,by show (insL n.Kids q1 v).length<=_; omega,fun _=>by show (insL n.Kids q1 v).length<=(insL n.Names q1 s).length; omega,Rf⟩
        have hx:x∈insL n.Names q1 s:=hx
        unfold insL at hx
        simp only [List.mem_append,List.mem_singleton] at hx
        rcases hx with (hx | rfl) | hx
        · have:=h.2.2.1 x (List.mem_of_mem_take hx); omega
        · omega
        · have:=h.2.2.1 x (List.mem_of_mem_drop hx); omega
end Go.Ab
end
section
namespace Go.Ab
open Go
theorem Fh {d:Nat} {n:af} (h:Shape d n=true) (hk:n.Kind=4):n.Names.length=n.Kids.length:=by
 cases d with
 | zero=>cases h
 | succ d=>exact (nR (jH h) hk).2.2.2.2.symm
end Go.Ab
end
section
namespace Go.Ab
open Go
theorem zX:∀ {d e:Nat} {n:af},d<=e->Shape d n=true->Shape e n=true
  | 0,_,_,_,h=>by cases h
  | d+1,0,_,hd,_=>by omega
  | d+1,e+1,n,hd,h=>by
    unfold Shape
    rw [jH h,Bool.true_and,List.all_eq_true]
    exact fun k hk=>zX (by omega) (kL h k hk)
theorem tJ {α:Type} {f g:α->Nat} : ∀ {l:List α},(∀ x,x∈l->f x=g x)->(l.map f).sum=(l.map g).sum
  | [],_=>rfl
  | x::l,h=>by
    simp only [List.map_cons,List.sum_cons]
    rw [h x (by simp),tJ (fun y hy=>h y (by simp [hy]))]
theorem cnt_mono:∀ {d e:Nat} {n:af},d<=e->Shape d n=true->Cnt d n=Cnt e n
  | 0,_,_,_,h=>by cases h
  | d+1,0,_,hd,_=>by omega
  | d+1,e+1,n,hd,h=>by
    unfold Cnt
    rw [tJ (f:=Cnt d) (g:=Cnt e) (fun k hk=>cnt_mono (by omega) (kL h k hk))]
theorem kF {n:af} (h:Val n=true):Shape 5 n=true:=by unfold Val at h; simp only [Bool.and_eq_true] at h; exact h.1
theorem Pj {n:af} (h:Val n=true):Cnt 5 n<=40:=by unfold Val at h; simp only [Bool.and_eq_true,decide_eq_true_eq] at h; exact h.2
theorem kN {n:af} (h:Val n=true):Fine 12 5 n:=uD (kF h)
theorem QE {d:Nat} {n:af} (hd:d<=5) (h:Shape d n=true) (hc:Cnt d n<=40):Val n=true:=by
 unfold Val
 rw [zX hd h,Bool.true_and,decide_eq_true_eq,<- cnt_mono hd h]
 exact hc
theorem IB {α:Type} (f:α->Nat) {c:α} : ∀ {l:List α} {j:Nat} (d:α),f c<=f (l.getD j d)->((l.set j c).map f).sum<=(l.map f).sum
  | [],_,_,_=>by simp
  | x::l,0,d,h=>by
    rw [List.getD_cons_zero] at h
    simp only [List.set_cons_zero,List.map_cons,List.sum_cons]
    omega
  | x::l,j+1,d,h=>by
    rw [List.getD_cons_succ] at h
    have:=IB f (l:=l) (j:=j) d h
    simp only [List.set_cons_succ,List.map_cons,List.sum_cons]
    omega
theorem JK {n c:af} {j:Nat} (h:Parts n=true):Parts (AO n j c)=true:=by
 unfold Parts AO at *
 simpa using h
theorem Bg {f:af->Option af} (hf:∀ d k k',Shape d k=true->f k=some k'->Shape d k'=true/\Cnt d k'<=Cnt d k) :
    ∀ (p:List aK) {d:Nat} {n m:af},Shape d n=true->ug f n p=some m->Shape d m=true/\Cnt d m<=Cnt d n
  | [],d,n,m,h,e=>hf d n m h (by rw [ug] at e; exact e)
  | s::p,d,n,m,h,e=>by
    rw [ug] at e
    cases hj:zJ n s with
    | none=>rw [hj] at e; cases e
    | some j =>
      rw [hj] at e
      simp only at e
      cases d with
      | zero=>cases h
      | succ d =>
      have hjl:=pX hj
      cases hc:ug f (n.Kids.getD j default) p with
      | none=>rw [hc] at e; cases e
      | some c =>
        rw [hc] at e
        cases e
        obtain ⟨h1,h2⟩:=Bg hf p (nS h hjl) hc
        constructor
        · unfold Shape
          rw [JK (jH h),Bool.true_and,List.all_eq_true]
          intro k hk
          rcases List.mem_or_eq_of_mem_set hk with hk | rfl
          · exact kL h k hk
          · exact h1
        · show 1+((n.Kids.set j c).map (Cnt d)).sum<=1+(n.Kids.map (Cnt d)).sum
          have:=IB (Cnt d) (l:=n.Kids) (j:=j) default h2
          omega
def ni {α:Type} (l:List α) (k:Nat):List α:=l.take k++l.drop (k+1)
def Az (n:af) (s:aK):Option af:=match zJ n s with
 | some k=>some (af.mk n.Kind 0 [] (if n.Kind=4 then ni n.Names k else []) (ni n.Kids k))
 | none=>none
theorem lY:∀ {l:List aK},Asc l=true<->l.Pairwise (fun x y=>bl x y=true)
  | []=>by simp [Asc]
  | x::l=>by
    rw [List.pairwise_cons,<- lY (l:=l)]
    constructor
    · intro h; exact ⟨uN h,uO h⟩
    · rintro ⟨h1,h2⟩
      cases l with
      | nil=>rfl
      | cons y r=>rw [Asc,h2,Bool.and_true]; exact h1 y (by simp)
theorem nO {α:Type} (l:List α) (k:Nat):(ni l k).Sublist l:=by
 unfold ni
 conv=>rhs; rw [<- List.take_append_drop k l]
 refine List.Sublist.append (List.Sublist.refl _) ?_
 rw [<- List.drop_drop]
 exact List.drop_sublist 1 _
theorem su {α:Type} {l:List α} {k:Nat} (h:k<l.length):(ni l k).length=l.length-1:=by unfold ni; simp; omega
theorem Ph {α:Type} (f:α->Nat):∀ {l m:List α},l.Sublist m->(l.map f).sum<=(m.map f).sum:=by
 intro l m h
 induction h with
 | slnil=>simp
 | cons a h ih=>simp only [List.map_cons,List.sum_cons]; omega
 | cons_cons a h ih=>simp only [List.map_cons,List.sum_cons]; omega
theorem JQ (s:aK):∀ d k k',Shape d k=true->Az k s=some k'->Shape d k'=true/\Cnt d k'<=Cnt d k:=by
  intro d n m h e
  unfold Az at e
  cases hj:zJ n s with
  | none=>rw [hj] at e; cases e
  | some j =>
    rw [hj] at e
    cases e
    have hjl:=pX hj
    cases d with
    | zero=>cases h
    | succ d =>
    have hp:=jH h
    have hsub:=nO n.Kids j
    have hlen:=su hjl
    have hl:=BA hp
    constructor
    · unfold Shape
      rw [Bool.and_eq_true,List.all_eq_true]
      refine ⟨?_,fun k hk=>kL h k (hsub.subset hk)⟩
      by_cases h4:n.Kind=4
      · obtain ⟨_,_,hN,hnl,hkl⟩:=nR hp h4
        have hNM:NM (ni n.Names j)=true:=by
          unfold NM
          rw [Bool.and_eq_true]
          refine ⟨List.all_eq_true.2 fun x hx=>GU hN x ((nO _ _).subset hx),lY.2 ((lY.1 (MQ hN)).sublist (nO _ _))⟩
        have hl2:=su (l:=n.Names) (k:=j) (by omega)
        unfold Parts
        simp [h4,hNM]
        omega
      · by_cases h3:n.Kind=3
        · unfold Parts
          simp [h3]
          omega
        · have:=DL hj; rw [zi h4 h3] at this; cases this
    · show 1+((ni n.Kids j).map (Cnt d)).sum<=1+(n.Kids.map (Cnt d)).sum
      have:=Ph (Cnt d) hsub
      omega
def oI (p:List aK):aK:=p.getD (p.length-1) default
def ny (p:List aK):List aK:=p.take (p.length-1)
def BO (n:af) (p:List aK) (v:af):Option af:=if p=[] then some v else ug (fun m=>addN m (oI p) v) n (ny p)
def DR (n:af) (p:List aK):Option af:=if p=[] then none else ug (fun m=>Az m (oI p)) n (ny p)
theorem T.iH {B D:Nat} {o:Option af} (hB:B<=lim) (h:∀ m,o=some m->Fine B D m):Ev (fun f=>G.iH f (kQ o).1 (kQ o).2) (kQ (o.filter Val)):=by
  refine Ev.up ?_
  simp only [G.iH]
  cases o with
  | none=>exact Ev.cf rfl (Ev.ret _)
  | some m =>
    refine Ev.ct rfl (Ev.bind (T.dD hB (h m rfl)) (Ev.ite (fun e=>Ev.ret' ?_) (fun e=>Ev.ret' ?_)))
    · have e:Val m=true:=e
      simp [Option.filter,e,kQ]
    · have e:Val m=false:=e
      simp [Option.filter,e,kQ,mg]
theorem zy {p:List aK} (hp:p ≠ []) (hl:p.length<big):IntKind.wrap .i64 (((p.length:Nat):Int)-1)=((p.length-1:Nat):Int):=by
 have:0<p.length:=List.length_pos_iff.2 hp
 unfold big at hl
 exact wrapN (by omega) (by omega)
theorem GH {B D E:Nat} {n v m:af} {p:List aK} (h:Fine B D n) (hv:Fine B E v) (hs:∀ s,s∈p->s.length<=B) (hm:BO n p v=some m):Fine (B+1) (D+(D+E)) m:=by
  unfold BO at hm
  split at hm
  · cases hm; exact hv.mono (by omega) (by omega)
  · rename_i hp
    have hlast:(oI p).length<=B:=by
      unfold oI
      have:0<p.length:=List.length_pos_iff.2 hp
      rw [fE _ (by omega:p.length-1<p.length)]
      exact hs _ (List.getElem_mem _)
    rw [Cc] at hm
    cases ha:Jc n (ny p) with
    | none=>rw [ha] at hm; cases hm
    | some inner =>
      rw [ha,Option.bind_some] at hm
      cases hn:addN inner (oI p) v with
      | none=>rw [hn] at hm; cases hm
      | some next =>
        rw [hn,Option.bind_some] at hm
        have hi:=vw _ h ha
        have hnx:=yX hi hv hlast hn
        exact yY (B:=B+1) (E:=D+E) (ny p) (f:=fun _=>some next) (D:=D) (n:=n) (m:=m) (fun D' k k' _ e=>by cases e; exact hnx.mono (Nat.le_refl _) (by omega)) (h.mono (by omega) (Nat.le_refl _)) hm
theorem T.jc {B D E:Nat} {n v:af} (p:List aK) (hB:B+1<lim) (hp:p.length<big) (hs:∀ s,s∈p->s.length<=B) (h:Fine B D n) (hv:Fine B E v):Ev (fun f=>G.jc f n p v) (kQ (BO n p v)):=by
  refine Ev.up ?_
  simp only [G.jc]
  by_cases hp0:p=[]
  · subst hp0
    exact Ev.ct rfl (Ev.bind (T.ax (by omega) hv) (Ev.ret _))
  · have hpos:0<p.length:=List.length_pos_iff.2 hp0
    have hlast:(oI p).length<=B:=by
      unfold oI
      rw [fE _ (by omega:p.length-1<p.length)]
      exact hs _ (List.getElem_mem _)
    rw [zy hp0 hp,Int.toNat_natCast]
    unfold BO
    rw [if_neg hp0,Cc]
    have hil:(ny p).length<big:=by unfold ny; rw [List.length_take]; omega
    refine Ev.cf (by simpa using hp0) (Ev.chk (by omega) (Ev.bind (T.iC (ny p) (by omega) hil h) ?_))
    cases ha:Jc n (ny p) with
    | none=>exact Ev.cf rfl (Ev.ret _)
    | some inner =>
      have hi:=vw _ h ha
      have hA:=T.eY (n:=inner) (oI p) (by omega) hi hv
      refine Ev.ct rfl (Ev.chk (by omega) (Ev.bind hA ?_))
      rw [Option.bind_some]
      cases hn:addN inner (oI p) v with
      | none=>exact Ev.cf rfl (Ev.ret _)
      | some next =>
        have hnx:=yX hi hv hlast hn
        refine Ev.ct rfl (Ev.chk (by omega) (Ev.bind (T.fP (by omega) hnx (ny p) hil (h.mono (by omega) (Nat.le_refl _))) (Ev.ret _)))
theorem LC {B D:Nat} {n m:af} {s:aK} (h:Fine B D n) (e:Az n s=some m):Fine B D m:=by
  unfold Az at e
  cases hj:zJ n s with
  | none=>rw [hj] at e; cases e
  | some j =>
    rw [hj] at e
    cases e
    cases D with
    | zero=>exact h.elim
    | succ D =>
    have hjl:=pX hj
    have hk:=h.kids
    have hn:=h.names
    have h1:=su hjl
    refine ⟨by simp,?_,fun x hx => ?_,by show (ni n.Kids j).length<=B; omega,fun h4 => ?_,fun k hk'=>h.2.2.2.2.2 k ((nO _ _).subset hk')⟩
    · show (if n.Kind=4 then ni n.Names j else []).length<=B
      split
      · have:=(nO n.Names j).length_le; omega
      · simp
    · have hx:x∈(if n.Kind=4 then ni n.Names j else []):=hx
      split at hx
      · exact h.2.2.1 x ((nO _ _).subset hx)
      · cases hx
    · have h4:n.Kind=4:=h4
      have hm:=h.map h4
      have h2:=su (l:=n.Names) (k:=j) (by omega)
      show (ni n.Kids j).length<=(if n.Kind=4 then ni n.Names j else []).length
      rw [if_pos h4]
      omega
theorem T.dW {B D:Nat} {n:af} (p:List aK) (hB:B+1<lim) (hp:p.length<big) (h:Fine B D n):Ev (fun f=>G.dW f n p) (kQ (DR n p)):=by
  have hB2:=hB
  unfold lim at hB2
  refine Ev.up ?_
  simp only [G.dW]
  by_cases hp0:p=[]
  · subst hp0
    exact Ev.ct (by rfl) (Ev.ret _)
  · have hpos:0<p.length:=List.length_pos_iff.2 hp0
    rw [zy hp0 hp,Int.toNat_natCast]
    unfold DR
    rw [if_neg hp0,Cc]
    have hil:(ny p).length<big:=by unfold ny; rw [List.length_take]; omega
    refine Ev.cf (by simp) (Ev.chk (by omega) (Ev.bind (T.iC (ny p) (by omega) hil h) ?_))
    cases ha:Jc n (ny p) with
    | none=>exact Ev.cf rfl (Ev.ret _)
    | some inner =>
      have hi:=vw _ h ha
      have hk:=hi.kids
      have hnm:=hi.names
      have hP:=T.bW (n:=inner) (oI p) (by omega) hi
      refine Ev.ct rfl (Ev.chk (by omega) (Ev.bind hP ?_))
      rw [Option.bind_some]
      cases hj:zJ inner (oI p) with
      | none =>
        unfold Az
        rw [hj]
        exact Ev.ct rfl (Ev.ret _)
      | some j =>
        have hjl:=pX hj
        simp only [qK,kQ,Int.toNat_natCast,dB (show j+1<9223372036854775808 by omega)]
        have ht:(inner.Kids.take j).length=j:=by rw [List.length_take]; omega
        have hd:(inner.Kids.drop (j+1)).length=inner.Kids.length-(j+1):=List.length_drop
        refine Ev.cf (decide_eq_false (by omega)) (Ev.chk (by omega) (Ev.chk (by omega) (Ev.chk (by omega) (Ev.chk (by omega) ?_))))
        have key:∀ (b:Bool) (nm:List aK),Az inner (oI p)=some (af.mk inner.Kind 0 [] nm (ni inner.Kids j))->Ev (fun f=>G.dW.K1 f n p (inner,b) (ni inner.Kids j) nm) (kQ ((Az inner (oI p)).bind fun m'=>Fg n (ny p) m')):=by
          intro b nm e
          refine Ev.up ?_
          simp only [G.dW.K1]
          rw [zy hp0 hp,Int.toNat_natCast,e,Option.bind_some]
          exact Ev.chk (by omega) (Ev.bind (T.fP (by omega) (LC hi e) (ny p) hil h) (Ev.ret _))
        refine Ev.ite (fun e4 => ?_) (fun e4 => ?_)
        · have h4:inner.Kind=4:=by simpa using e4
          have hm:=hi.map h4
          have ht2:(inner.Names.take j).length=j:=by rw [List.length_take]; omega
          have hd2:(inner.Names.drop (j+1)).length=inner.Names.length-(j+1):=List.length_drop
          refine Ev.chk (by omega) (Ev.chk (by omega) (Ev.chk (by omega) (Ev.chk (by omega) ?_)))
          exact key true (ni inner.Names j) (by unfold Az; rw [hj]; simp [h4])
        · have h4:¬ inner.Kind=4:=by simpa using e4
          exact key true [] (by unfold Az; rw [hj]; simp [h4])
end Go.Ab
end
section
namespace Go.Ab
open Go
theorem Rz {B:Nat} (hB:B<=lim) {p:List aK} (hl:p.length<=B) (hs:∀ s,s∈p->s.length<=B):Sm p:=by
 unfold lim at hB
 exact ⟨by unfold big; omega,fun s h=>by have:=hs s h; unfold big; omega⟩
def jM (B:Nat) (p:List aK):Prop:=p.length<=B/\∀ s,s∈p->s.length<=B
theorem jM.sm {B:Nat} (hB:B<=lim) {p:List aK} (h:jM B p):Sm p:=Rz hB h.1 h.2
theorem vK {p:List aK} (h:PP p=true):jM 12 p:=by
 unfold PP at h
 simp only [Bool.and_eq_true,decide_eq_true_eq] at h
 exact ⟨by omega,fun s hs=>zK (List.all_eq_true.1 h.1 s hs)⟩
theorem O7 {n m:af} {p:List aK} (h:Val n=true) (e:DR n p=some m):Val m=true:=by
 unfold DR at e
 split at e
 ·cases e
 ·obtain ⟨h1,h2⟩:=Bg (JQ (oI p)) (ny p) (kF h) e
  exact QE (Nat.le_refl _) h1 (Nat.le_trans h2 (Pj h))
end Go.Ab
end
section
namespace Go.Ab
open Go
def IV (o:jr):Bool:=(decide (1<=o.Kind)&&decide (o.Kind<=6))&&PP o.Path&&PP o.From&&Val o.Value
structure H6 (o:jr):Prop where
 k1:1<=o.Kind
 k6:o.Kind<=6
 path:PP o.Path=true
 from_:PP o.From=true
 val:Val o.Value=true
theorem xe {o:jr} (h:IV o=true):H6 o:=by
 unfold IV at h
 simp only [Bool.and_eq_true,decide_eq_true_eq] at h
 exact ⟨h.1.1.1.1,h.1.1.1.2,h.1.1.2,h.1.2,h.2⟩
theorem SG:(12:Nat)+1<lim:=by decide
structure A8 (B D:Nat) (o:jr):Prop where
 path:jM B o.Path
 from_:jM B o.From
 val:Fine B D o.Value
theorem T.iK {B D:Nat} {o:jr} (hB:B<=lim) (h:A8 B D o):Ev (fun f=>G.iK f o) (IV o):=by
 refine Ev.up ?_
 simp only [G.iK]
 unfold IV
 refine Ev.bind (T.bu _ _ _) (Ev.ite (fun e1 => ?_) (fun e1=>Ev.ret' (by rw [e1]; rfl)))
 refine Ev.bind (T.cZ _ (h.path.sm hB)) (Ev.ite (fun e2 => ?_) (fun e2=>Ev.ret' (by rw [e1,e2]; rfl)))
 refine Ev.bind (T.cZ _ (h.from_.sm hB)) (Ev.ite (fun e3 => ?_) (fun e3=>Ev.ret' (by rw [e1,e2,e3]; rfl)))
 exact Ev.bind (T.aS hB h.val) (Ev.ret' (by rw [e1,e2,e3]; rfl))
theorem T.iV {B D:Nat} {o:jr} (hB:B<=lim) (h:A8 B D o):Ev (fun f=>G.iV f o) (IV o):=by
 refine Ev.up ?_
 simp only [G.iV]
 unfold IV
 refine Ev.ite (fun e0 => ?_) (fun e0=>Ev.ret' (by rw [e0]; rfl))
 refine Ev.ite (fun e1 => ?_) (fun e1=>Ev.ret' (by rw [e0,e1]; rfl))
 refine Ev.bind (T.dX _ (h.path.sm hB)) (Ev.ite (fun e2 => ?_) (fun e2=>Ev.ret' (by rw [e0,e1,e2]; rfl)))
 refine Ev.bind (T.dX _ (h.from_.sm hB)) (Ev.ite (fun e3 => ?_) (fun e3=>Ev.ret' (by rw [e0,e1,e2,e3]; rfl)))
 exact Ev.bind (T.dD hB h.val) (Ev.ret' (by rw [e0,e1,e2,e3]; rfl))
end Go.Ab
end
section
namespace Go.Ab
open Go
structure iO (K:Nat) (r:ReaderT):Prop where
 len:r.b.length<=2000
 bytes:∀ x,x∈r.b->0<=x/\x<256
 lo:0<=r.p
 hi:r.p<=(K:Int)
theorem iO.mono {K L:Nat} {r:ReaderT} (h:iO K r) (hk:K<=L):iO L r:=⟨h.len,h.bytes,h.lo,by have:=h.hi; omega⟩
theorem ReaderT.eta (r:ReaderT):ReaderT.mk r.b r.p=r:=rfl
theorem QG {X Y:Nat} (hX:X<4611686018427387904) (hY:Y<4611686018427387904) :
  ∃ z:Nat,IntKind.wrap .i64 (((BitVec.ofInt (IntKind.bits .i64) (X:Int) ^^^ BitVec.ofInt (IntKind.bits .i64) (Y:Int)).toNat:Nat):Int)=(z:Int):=by
 have e:((BitVec.ofInt (IntKind.bits .i64) (X:Int) ^^^ BitVec.ofInt (IntKind.bits .i64) (Y:Int)).toNat)=X ^^^ Y:=by
  rw [BitVec.toNat_xor]
  show (BitVec.ofInt 64 (X:Int)).toNat ^^^ (BitVec.ofInt 64 (Y:Int)).toNat=_
  rw [BitVec.toNat_ofInt,BitVec.toNat_ofInt]
  congr 1<;>omega
 have hlt:X ^^^ Y<2^62:=Nat.xor_lt_two_pow (by omega) (by omega)
 exact ⟨X ^^^ Y,by rw [e]; exact wrapN rfl (by omega)⟩
theorem pG (a b:Nat):Int.tmod (a:Int) (b:Int)=((a%b:Nat):Int):=by
 rw [Int.tmod_eq_emod_of_nonneg (by omega)]; exact (Int.natCast_emod a b).symm
theorem rQ (a b:Nat):Int.tdiv (a:Int) (b:Int)=((a/b:Nat):Int):=by
 rw [Int.tdiv_eq_ediv_of_nonneg (by omega)]; exact (Int.natCast_ediv a b).symm
theorem T.pick {K m:Nat} {r:ReaderT} (hr:iO K r) (hK:K<=1000000000) (hm:0<m) (hm2:m<=1000000000) :
  ∃ (v:Nat) (r':ReaderT),Ev (fun f=>G.ai f r (m:Int)) ((v:Int),r')/\v<m/\iO (K+1) r':=by
 obtain ⟨b,p⟩:=r
 obtain ⟨h1,h2,h3,h4⟩:=hr
 simp only at h1 h2 h3 h4
 obtain ⟨k,rfl⟩:∃ k:Nat,p=k:=⟨p.toNat,by omega⟩
 have hr':iO (K+1) (ReaderT.mk b ((k+1:Nat):Int)):=⟨h1,h2,by show (0:Int)<=((k+1:Nat):Int); omega,by show ((k+1:Nat):Int)<=_; omega⟩
 have w1:IntKind.wrap .i64 ((k:Int)+1)=((k+1:Nat):Int):=dB (by omega)
 have w2:IntKind.wrap .i64 (((k+1:Nat):Int)-1)=(k:Int):=wrapN (by omega) (by omega)
 by_cases hb:b.length=0
 ·refine ⟨0,_,Ev.up ?_,hm,hr'⟩
  simp only [G.ai,w1]
  exact Ev.cf (by simp; omega) (Ev.ct (by simpa using hb) (Ev.ret _))
 have byte:∀ i:Nat,i<b.length->∃ c:Nat,b.getD i default=(c:Int)/\c<256:=fun i hi=>by
  rw [fE _ hi]
  have:=h2 _ (List.getElem_mem hi)
  exact ⟨b[i].toNat,by omega,by omega⟩
 by_cases hk:k<b.length
 ·obtain ⟨c,hc,hc2⟩:=byte k hk
  refine ⟨c%m,_,Ev.up ?_,Nat.mod_lt _ hm,hr'⟩
  simp only [G.ai,w1,w2,Int.toNat_natCast,hc,wrapN (x:=(c:Int)) (m:=c) rfl (by omega),pG]
  exact Ev.cf (by simp; omega) (Ev.cf (by simpa using hb) (Ev.ct (by simpa using hk) (Ev.chk (by omega) (Ev.chk (by omega) (Ev.ret _)))))
 ·have hlt:k%b.length<b.length:=Nat.mod_lt _ (by omega)
  have hlt2:(k*7+3)%b.length<b.length:=Nat.mod_lt _ (by omega)
  obtain ⟨c,hc,hc2⟩:=byte _ hlt
  obtain ⟨d,hd,hd2⟩:=byte _ hlt2
  have hdiv:k/b.length<=k:=Nat.div_le_self _ _
  have w3:IntKind.wrap .i64 ((k:Int)*7)=((k*7:Nat):Int):=wrapN (by omega) (by omega)
  have w4:IntKind.wrap .i64 (((k*7:Nat):Int)+3)=((k*7+3:Nat):Int):=wrapN (by omega) (by omega)
  have w5:IntKind.wrap .i64 (c:Int)=c:=wrapN rfl (by omega)
  have w6:IntKind.wrap .i64 (d:Int)=d:=wrapN rfl (by omega)
  have w7:IntKind.wrap .i64 ((c:Int)*131)=((c*131:Nat):Int):=wrapN (by omega) (by omega)
  have w8:IntKind.wrap .i64 ((d:Int)*1117)=((d*1117:Nat):Int):=wrapN (by omega) (by omega)
  have w9:IntKind.wrap .i64 (((c*131:Nat):Int)+((d*1117:Nat):Int))=((c*131+d*1117:Nat):Int):=wrapN (by omega) (by omega)
  have w10:IntKind.wrap .i64 ((k:Int)*29)=((k*29:Nat):Int):=wrapN (by omega) (by omega)
  have Ul:IntKind.wrap .i64 (((c*131+d*1117:Nat):Int)+((k*29:Nat):Int))=((c*131+d*1117+k*29:Nat):Int):=wrapN (by omega) (by omega)
  have w12:IntKind.wrap .i64 ((k/b.length:Nat):Int)=((k/b.length:Nat):Int):=wrapN rfl (by omega)
  have Um:IntKind.wrap .i64 (((k/b.length:Nat):Int)*53)=((k/b.length*53:Nat):Int):=wrapN (by omega) (by omega)
  have Un:IntKind.wrap .i64 (((c*131+d*1117+k*29:Nat):Int)+((k/b.length*53:Nat):Int))=((c*131+d*1117+k*29+k/b.length*53:Nat):Int):=wrapN (by omega) (by omega)
  have e64:(64:Int)=((64:Nat):Int):=rfl
  have Uo:IntKind.wrap .i64 (Int.tdiv ((c*131+d*1117+k*29+k/b.length*53:Nat):Int) 64)=(((c*131+d*1117+k*29+k/b.length*53)/64:Nat):Int):=by
   rw [e64,rQ]; exact wrapN rfl (by omega)
  obtain ⟨z,hz⟩:=QG (X:=c*131+d*1117+k*29+k/b.length*53) (Y:=(c*131+d*1117+k*29+k/b.length*53)/64) (by omega) (by omega)
  refine ⟨z%m,_,Ev.up ?_,Nat.mod_lt _ hm,hr'⟩
  simp only [G.ai,w1,w2,w3,w4,pG,rQ,Int.toNat_natCast,hc,hd,w5,w6,w7,w8,w9,w10,Ul,w12,Um,Un,Uo,hz]
  exact Ev.cf (by simp; omega) (Ev.cf (by simpa using hb) (Ev.cf (by simp; omega) (Ev.chk (by omega) (Ev.chk (by omega) (Ev.chk (by omega) (Ev.chk (by omega) (Ev.chk (by omega) (Ev.chk (by omega) (Ev.ret _)))))))))
end Go.Ab
end
section
namespace Go.Ab
open Go
theorem T.one {K:Nat} {r:ReaderT} (hr:iO K r) (hK:K<=1000000000) (l:List Int) (h0:0<l.length) (h1:l.length<=1000) :
  ∃ x r',Ev (fun f=>G.bI f r l) (x,r')/\x∈l/\iO (K+1) r':=by
 obtain ⟨v,r',g,hv,hr'⟩:=T.pick (m:=l.length) hr hK h0 (by omega)
 refine ⟨l.getD v default,r',Ev.up ?_,by rw [fE _ hv]; exact List.getElem_mem _,hr'⟩
 simp only [G.bI]
 refine Ev.bind g (Ev.chk (by simp only; omega) (Ev.ret' ?_))
 rw [Int.toNat_natCast]
theorem T.of {K:Nat} {r:ReaderT} (hr:iO K r) (hK:K<=1000000000) (l:List aK) (h0:0<l.length) (h1:l.length<=1000) :
  ∃ x r',Ev (fun f=>G.bQ f r l) (x,r')/\x∈l/\iO (K+1) r':=by
 obtain ⟨v,r',g,hv,hr'⟩:=T.pick (m:=l.length) hr hK h0 (by omega)
 refine ⟨l.getD v default,r',Ev.up ?_,by rw [fE _ hv]; exact List.getElem_mem _,hr'⟩
 simp only [G.bQ]
 refine Ev.bind g (Ev.chk (by simp only; omega) (Ev.ret' ?_))
 rw [Int.toNat_natCast]
theorem BP {l:List aK} {x:aK} {m:Nat} (h:l.all (fun s=>decide (s.length<=m))=true) (hx:x∈l):x.length<=m:=by
 have:=List.all_eq_true.1 h x hx
 simpa using this
theorem T.Nw {K:Nat} {r:ReaderT} (hr:iO K r) (hK:K<=1000000000):∃ x r',Ev (fun f=>G.iG f r) (x,r')/\x.length<=12/\iO (K+1) r':=by
 obtain ⟨x,r',g,hx,hr'⟩:=T.of hr hK [[97],[98],[],[97,98,99],[97,47,98],[126],[120,32,121],[34,113,34],[98,97,99,107,92,115],[48],[49],[97,98,99,100,101,102,103,104,105,106,107,108]] (by decide) (by decide)
 refine ⟨x,r',Ev.up ?_,BP (by decide) hx,hr'⟩
 simp only [G.iG]
 exact Ev.bind g (Ev.ret _)
theorem T.Nv {K:Nat} {r:ReaderT} (hr:iO K r) (hK:K<=1000000000):∃ x r',Ev (fun f=>G.iF f r) (x,r')/\x.length<=12/\iO (K+1) r':=by
 obtain ⟨x,r',g,hx,hr'⟩:=T.of hr hK [[97],[98],[99],[100],[97,47,98],[126,120],[],[107]] (by decide) (by decide)
 refine ⟨x,r',Ev.up ?_,BP (by decide) hx,hr'⟩
 simp only [G.iF]
 exact Ev.bind g (Ev.ret _)
def uM:Nat->Nat
 | 0=>4
 | d+1=>20+6*uM d
theorem nP {B:Nat} {n:af} (ht:n.Text.length<=B) (hn:n.Names=[]) (hk:n.Kids=[]):Fine B 1 n :=
 ⟨ht,by rw [hn]; simp,by rw [hn]; simp,by rw [hk]; simp,by rw [hk]; simp,by rw [hk]; simp⟩
def Hz (d:Nat) (K:Nat) (F:Nat->Option (af × ReaderT)):Prop:=∃ m r' D,Ev F (m,r')/\Fine (20+20*d) D m/\iO (K+uM d) r'
theorem T.sO.L1 {d M:Nat} (hM:M<=900000000) (hd:d<=10) (hrec:∀ K r,iO K r->K<=M->Hz d K (fun f=>G.aB f r ((d+1:Nat):Int))) :
    ∀ (j K B D:Nat) (r:ReaderT) (out:af),iO K r->K+j*(1+uM d)<=M->20+20*d<=B->B+j<=1000->Fine B D out ->
      ∃ m r' D',Ev (fun f=>G.bg.L1 f ((d+2:Nat):Int) (j:Int) r.b r.p out.Kind out.Num out.Text out.Names out.Kids) (m,r')/\Fine (B+j) D' m/\iO (K+j*(1+uM d)) r':=by
  intro j
  induction j with
  | zero =>
    intro K B D r out hr hK hB hB2 hf
    refine ⟨out,r,D,Ev.up ?_,hf,hr.mono (by omega)⟩
    simp only [G.bg.L1,af.eta]
    exact Ev.cf (by simp) (Ev.ret _)
  | succ j ih =>
    intro K B D r out hr hK hB hB2 hf
    rw [Nat.add_mul] at hK
    obtain ⟨nm,r1,g1,hn,hr1⟩:=T.Nv hr (by omega)
    obtain ⟨kid,r2,E,g2,hk,hr2⟩:=hrec (K+1) r1 hr1 (by omega)
    have w:IntKind.wrap .i64 (((d+2:Nat):Int)-1)=((d+1:Nat):Int):=wrapN (by omega) (by omega)
    have w2:IntKind.wrap .i64 (((j+1:Nat):Int)-1)=(j:Int):=wrapN (by omega) (by omega)
    have hP:=T.bW nm (show B<=lim by unfold lim; omega) hf
    have hA:=T.eY (v:=kid) (E:=E) nm (show B<lim by unfold lim; omega) hf (hk.mono (by omega) (Nat.le_refl _))
    have next:∃ Qv D2,Ev (fun f=>cond (decide (qK (zJ out nm)<0)) (Option.bind (G.eY f out nm kid) fun v13=>G.bg.L1 f ((d+2:Nat):Int) (j:Int) r2.b r2.p v13.1.Kind v13.1.Num v13.1.Text v13.1.Names v13.1.Kids) (G.bg.L1 f ((d+2:Nat):Int) (j:Int) r2.b r2.p out.Kind out.Num out.Text out.Names out.Kids)) Qv
        /\ Fine (B+1+j) D2 Qv.1/\iO (K+1+uM d+j*(1+uM d)) Qv.2:=by
      refine Classical.byCases (fun e:decide (qK (zJ out nm)<0)=true => ?_) (fun e => ?_)
      · have hfx:∃ D3,Fine (B+1) D3 (kQ (addN out nm kid)).1:=by
          cases ha:addN out nm kid with
          | none=>exact ⟨1,nP (by simp [kQ,mg]) rfl rfl⟩
          | some m=>exact ⟨_,yX hf (hk.mono (by omega) (Nat.le_refl _)) (by omega) ha⟩
        obtain ⟨D3,hfx⟩:=hfx
        obtain ⟨m,r',D',g,hm,hr'⟩:=ih (K+1+uM d) (B+1) D3 r2 _ hr2 (by omega) (by omega) (by omega) hfx
        exact ⟨(m,r'),D',Ev.ct e (Ev.bind hA g),hm,hr'⟩
      · obtain ⟨m,r',D',g,hm,hr'⟩:=ih (K+1+uM d) (B+1) D r2 out hr2 (by omega) (by omega) (by omega) (hf.mono (by omega) (Nat.le_refl _))
        exact ⟨(m,r'),D',Ev.cf (by simpa using e) g,hm,hr'⟩
    obtain ⟨⟨m,r'⟩,D2,g,hm,hr'⟩:=next
    refine ⟨m,r',D2,Ev.up ?_,hm.mono (by omega) (Nat.le_refl _),hr'.mono (by rw [Nat.add_mul]; omega)⟩
    simp only [G.bg.L1,af.eta,w,w2]
    refine Ev.ct (by simp) (Ev.bind g1 (Ev.bind g2 (Ev.bind hP g)))
end Go.Ab
end
section
namespace Go.Ab
open Go
def Tot {α:Type} (Q:α->Prop) (F:Nat->Option α):Prop:=∃ x,Ev F x/\Q x
section
variable {α β:Type} {Q:α->Prop} {F F':Nat->Option α}
theorem Tot.up (h:Tot Q (fun n=>F (n+1))):Tot Q F:=let ⟨x,g,q⟩:=h; ⟨x,Ev.up g,q⟩
theorem Tot.ret {x:α} (h:Q x):Tot Q (fun _=>some x):=⟨x,Ev.ret x,h⟩
theorem Tot.bind {P:β->Prop} {h:Nat->Option β} {k:Nat->β->Option α} (h1:Tot P h) (h2:∀ x,P x->Tot Q (fun n=>k n x)):Tot Q (fun n=>Option.bind (h n) (k n)):=by
 obtain ⟨x,g,p⟩:=h1
 obtain ⟨y,g',q⟩:=h2 x p
 exact ⟨y,Ev.bind g g',q⟩
theorem Tot.kZ {a:β} {h:Nat->Option β} {k:Nat->β->Option α} (h1:Ev h a) (h2:Tot Q (fun n=>k n a)):Tot Q (fun n=>Option.bind (h n) (k n)):=by
 obtain ⟨y,g',q⟩:=h2
 exact ⟨y,Ev.bind h1 g',q⟩
theorem Tot.chk {p:Prop} [Decidable p] (hp:p) (h:Tot Q F):Tot Q (fun n=>Ab.chk p (F n)):=let ⟨x,g,q⟩:=h; ⟨x,Ev.chk hp g,q⟩
theorem Tot.ite {c:Bool} (h:c=true->Tot Q F) (h':c=false->Tot Q F'):Tot Q (fun n=>cond c (F n) (F' n)):=by
 cases c
 ·exact h' rfl
 ·exact h rfl
theorem Tot.mono {P:α->Prop} (h:Tot P F) (hq:∀ x,P x->Q x):Tot Q F:=let ⟨x,g,q⟩:=h; ⟨x,g,hq x q⟩
end
abbrev Dr {α:Type} (L:Nat) (Q:α->Prop) (F:Nat->Option (α × ReaderT)):Prop:=Tot (fun x=>Q x.1/\iO L x.2) F
theorem D.pick {K:Nat} {r:ReaderT} (hr:iO K r) (hK:K<=1000000000) {M:Int} {m:Nat} (hM:M=(m:Int)) (h0:0<m) (h1:m<=1000000000) :
  Dr (K+1) (fun x:Int=>∃ v:Nat,x=(v:Int)/\v<m) (fun f=>G.ai f r M):=by
 subst hM
 obtain ⟨v,r',g,hv,hr'⟩:=T.pick hr hK h0 h1
 exact ⟨_,g,⟨v,rfl,hv⟩,hr'⟩
theorem D.one {K:Nat} {r:ReaderT} (hr:iO K r) (hK:K<=1000000000) (l:List Int) (h0:0<l.length) (h1:l.length<=1000):Dr (K+1) (fun x:Int=>x∈l) (fun f=>G.bI f r l):=by
 obtain ⟨v,r',g,hv,hr'⟩:=T.one hr hK l h0 h1
 exact ⟨_,g,hv,hr'⟩
theorem D.of {K m:Nat} {r:ReaderT} (hr:iO K r) (hK:K<=1000000000) (l:List aK) (h0:0<l.length) (h1:l.length<=1000) (hm:l.all (fun s=>decide (s.length<=m))=true) :
  Dr (K+1) (fun x:aK=>x.length<=m) (fun f=>G.bQ f r l):=by
 obtain ⟨v,r',g,hv,hr'⟩:=T.of hr hK l h0 h1
 exact ⟨_,g,BP hm hv,hr'⟩
abbrev lW (B:Nat) (n:af):Prop:=∃ D,Fine B D n
theorem D.sO {d M:Nat} (hM:M<=900000000) (hd:d<=10) (hrec:∀ K r,iO K r->K<=M->Hz d K (fun f=>G.aB f r ((d+1:Nat):Int)))
  {K:Nat} {r:ReaderT} (hr:iO K r) (hK:K+1+4*(1+uM d)<=M):Dr (K+1+4*(1+uM d)) (lW (24+20*d)) (fun f=>G.bg f r ((d+2:Nat):Int)):=by
 refine Tot.up ?_
 simp only [G.bg]
 refine Tot.bind (D.one hr (by omega) [2,3,1,0,4] (by decide) (by decide)) ?_
 rintro ⟨x,r'⟩ ⟨hx,hr'⟩
 obtain ⟨j,rfl,hj⟩:∃ j:Nat,x=(j:Int)/\j<=4:=⟨x.toNat,by simp at hx; omega⟩
 have hm:j*(1+uM d)<=4*(1+uM d):=Nat.mul_le_mul_right _ hj
 obtain ⟨m,r2,D',g,hm',hr2⟩:=T.sO.L1 hM hd hrec j (K+1) (20+20*d) 1 r' (af.mk 4 0 [] [] []) hr' (by omega) (Nat.le_refl _) (by omega) (nP (by simp) rfl rfl)
 exact ⟨(m,r2),g,⟨D',hm'.mono (by omega) (Nat.le_refl _)⟩,hr2.mono (by omega)⟩
theorem sF {B D:Nat} {k:Int} {l:List af} (hk:k ≠ 4) (hl:l.length<=B) (h:∀ x,x∈l->Fine B D x):Fine B (D+1) (af.mk k 0 [] [] l) :=
 ⟨by simp,by simp,by simp,hl,fun e=>absurd e hk,h⟩
theorem D.kU.L2 {d M:Nat} (hd:d<=10) (hrec:∀ K r,iO K r->K<=M->Hz d K (fun f=>G.aB f r ((d+1:Nat):Int))) :
    ∀ (j K D:Nat) (r:ReaderT) (z:List af),iO K r->K+j*uM d<=M->z.length+j<=10->(∀ x,x∈z->Fine (20+20*d) D x) ->
      Dr (K+j*uM d) (lW (20+20*d)) (fun f=>G.aB.L2 f ((d+2:Nat):Int) 3 (j:Int) r.b r.p z):=by
  intro j
  induction j with
  | zero =>
    intro K D r z hr hK hz hf
    refine Tot.up ?_
    simp only [G.aB.L2]
    exact ⟨_,Ev.cf (by simp) (Ev.ret _),⟨D+1,sF (by decide) (by omega) hf⟩,hr.mono (by omega)⟩
  | succ j ih =>
    intro K D r z hr hK hz hf
    rw [Nat.add_mul] at hK
    have w:IntKind.wrap .i64 (((d+2:Nat):Int)-1)=((d+1:Nat):Int):=wrapN (by omega) (by omega)
    have w2:IntKind.wrap .i64 (((j+1:Nat):Int)-1)=(j:Int):=wrapN (by omega) (by omega)
    obtain ⟨kid,r2,E,g2,hk,hr2⟩:=hrec K r hr (by omega)
    refine Tot.up ?_
    simp only [G.aB.L2,w,w2]
    obtain ⟨x,g,hx,hr'⟩:=ih (K+uM d) (max D E) r2 (z++[kid]) hr2 (by omega) (by simp; omega) (fun x hx=>by
      rcases List.mem_append.1 hx with h | h
      · exact (hf x h).mono (Nat.le_refl _) (Nat.le_max_left _ _)
      · simp only [List.mem_singleton] at h; subst h; exact hk.mono (Nat.le_refl _) (Nat.le_max_right _ _))
    exact ⟨x,Ev.ct (by simp) (Ev.bind g2 (Ev.chk (by omega) g)),hx,hr'.mono (by rw [Nat.add_mul]; omega)⟩
theorem D.kU.K1 {d k:Nat} (hd:d<=10) (hk:k<3\/(k<5/\∃ e,d=e+1/\∀ K r,iO K r->K<=900000000-uM e->Hz e K (fun f=>G.aB f r ((e+1:Nat):Int))))
    {K:Nat} {r:ReaderT} (hr:iO K r) (hK:K+uM d<=900000002):Dr (K+uM d-2) (lW (20+20*d)) (fun f=>G.aB.K1 f ((d+1:Nat):Int) (k:Int) r.b r.p):=by
  have h2:4<=uM d:=by cases d<;>simp only [uM]<;>omega
  refine Tot.up ?_
  simp only [G.aB.K1]
  refine Tot.ite (fun e => ?_) (fun e1=>Tot.ite (fun e => ?_) (fun e2=>Tot.ite (fun e => ?_) (fun e3=>Tot.ite (fun e => ?_) (fun e4 => ?_))))
  · refine Tot.bind (D.pick (m:=250) hr (by omega) rfl (by decide) (by decide)) ?_
    rintro ⟨x,r1⟩ ⟨_,hr1⟩
    refine Tot.bind (D.one hr1 (by omega) _ (by simp) (by simp)) ?_
    rintro ⟨y,r2⟩ ⟨_,hr2⟩
    exact Tot.ret ⟨⟨1,nP (by simp) rfl rfl⟩,hr2.mono (by omega)⟩
  · obtain ⟨x,r1,g,hx,hr1⟩:=T.Nw hr (by omega)
    exact Tot.kZ g (Tot.ret ⟨⟨1,nP (by show x.length<=_; omega) rfl rfl⟩,hr1.mono (by omega)⟩)
  · rcases hk with hk | ⟨hk,e',rfl,hrec⟩
    · have:(k:Int)=3:=by simpa using e
      omega
    · have hk3 : k = 3 := by have:(k:Int)=3:=by simpa using e
                             omega
      subst hk3
      refine Tot.bind (D.pick (m:=4) hr (by omega) rfl (by decide) (by decide)) ?_
      rintro ⟨x,r1⟩ ⟨⟨j,rfl,hj⟩,hr1⟩
      have hm:j*uM e'<=3*uM e':=Nat.mul_le_mul_right _ (by omega)
      simp only [uM] at hK h2 ⊢
      refine (D.kU.L2 (by omega) hrec j (K+1) 0 r1 [] hr1 (by omega) (by simp; omega) (fun x h=>by cases h)).mono ?_
      rintro ⟨n,r2⟩ ⟨⟨D,hn⟩,hr2⟩
      exact ⟨⟨D,hn.mono (by omega) (Nat.le_refl _)⟩,hr2.mono (by omega)⟩
  · rcases hk with hk | ⟨hk,e',rfl,hrec⟩
    · have:(k:Int)=4:=by simpa using e
      omega
    · simp only [uM] at hK h2 ⊢
      refine Tot.bind (D.sO (Nat.sub_le _ _) (by omega) hrec hr (by omega)) ?_
      rintro ⟨n,r2⟩ ⟨⟨D,hn⟩,hr2⟩
      exact Tot.ret ⟨⟨D,hn.mono (by omega) (Nat.le_refl _)⟩,hr2.mono (by omega)⟩
  · exact Tot.ret ⟨⟨1,nP (by simp) rfl rfl⟩,hr.mono (by omega)⟩
theorem D.kU:∀ (d:Nat),d<=10->∀ K r,iO K r->K+uM d<=900000000->Dr (K+uM d) (lW (20+20*d)) (fun f=>G.aB f r ((d+1:Nat):Int))
  | 0,hd,K,r,hr,hK=>by
    refine Tot.up ?_
    simp only [G.aB]
    refine Tot.bind (D.pick (m:=5) hr (by omega) rfl (by decide) (by decide)) ?_
    rintro ⟨x,r1⟩ ⟨_,hr1⟩
    refine Tot.ite (fun _ => ?_) (fun e=>by simp at e)
    refine Tot.bind (D.pick (m:=3) hr1 (by omega) rfl (by decide) (by decide)) ?_
    rintro ⟨y,r2⟩ ⟨⟨k,rfl,hk⟩,hr2⟩
    refine (D.kU.K1 (d:=0) (by omega) (.inl hk) (K:=K+2) hr2 (by omega)).mono ?_
    rintro ⟨n,r3⟩ ⟨hn,hr3⟩
    exact ⟨hn,hr3.mono (by omega)⟩
  | d+1,hd,K,r,hr,hK=>by
    refine Tot.up ?_
    simp only [G.aB]
    refine Tot.bind (D.pick (m:=5) hr (by omega) rfl (by decide) (by decide)) ?_
    rintro ⟨x,r1⟩ ⟨⟨k,rfl,hk⟩,hr1⟩
    refine Tot.ite (fun e=>by simp at e; omega) (fun _ => ?_)
    refine (D.kU.K1 (d:=d+1) (by omega) (.inr ⟨hk,d,rfl,fun K' r' hr' hK' => ?_⟩) (K:=K+1) hr1 (by omega)).mono ?_
    · have hs:uM d<=900000000:=by simp only [uM] at hK; omega
      obtain ⟨⟨n,r2⟩,g,⟨D,hn⟩,hr2⟩:=D.kU d (by omega) K' r' hr' (by omega)
      exact ⟨n,r2,D,g,hn,hr2⟩
    · rintro ⟨n,r3⟩ ⟨hn,hr3⟩
      exact ⟨hn,hr3.mono (by omega)⟩
theorem D.node (d:Nat) (hd:d<=2) {M:Int} (hM:M=((d+1:Nat):Int)) {K:Nat} {r:ReaderT} (hr:iO K r) (hK:K<=800000000):Dr (K+300) (lW 60) (fun f=>G.aB f r M):=by
 subst hM
 have h:uM d<=284:=by
  match d,hd with
  | 0,_=>decide
  | 1,_=>decide
  | 2,_=>decide
 refine (D.kU d (by omega) K r hr (by omega)).mono ?_
 rintro ⟨n,r'⟩ ⟨⟨D,hn⟩,hr'⟩
 exact ⟨⟨D,hn.mono (by omega) (Nat.le_refl _)⟩,hr'.mono (by omega)⟩
theorem D.SS {K:Nat} {r:ReaderT} (hr:iO K r) (hK:K<=800000000):Dr (K+300) (lW 60) (fun f=>G.bg f r 3):=by
 have h1:uM 1=44:=by decide
 refine (D.sO (d:=1) (M:=800001000) (by omega) (by decide) (fun K' r' hr' hK' => ?_) hr (by omega)).mono ?_
 ·obtain ⟨⟨n,r2⟩,g,⟨D,hn⟩,hr2⟩:=D.kU 1 (by omega) K' r' hr' (by omega)
  exact ⟨n,r2,D,g,hn,hr2⟩
 ·rintro ⟨n,r'⟩ ⟨⟨D,hn⟩,hr'⟩
  exact ⟨⟨D,hn.mono (by omega) (Nat.le_refl _)⟩,hr'.mono (by omega)⟩
theorem l9:60<=lim:=by decide
theorem uJ:Val mg=true:=by decide
theorem D.oh.K1 {K:Nat} {r:ReaderT} {n:af} (hr:iO K r) (hn:lW 60 n):Dr K (fun x=>Val x=true) (fun f=>G.bM.K1 f r.b r.p n.Kind n.Num n.Text n.Names n.Kids):=by
 obtain ⟨D,hn⟩:=hn
 refine Tot.up ?_
 simp only [G.bM.K1,af.eta]
 refine Tot.kZ (T.aS l9 hn) (Tot.ite (fun e=>Tot.ret ⟨e,hr⟩) (fun _=>Tot.ret ⟨uJ,hr⟩))
theorem D.oh {K:Nat} {r:ReaderT} (hr:iO K r) (hK:K<=700000000):Dr (K+601) (fun x=>Val x=true) (fun f=>G.bM f r):=by
 refine Tot.up ?_
 simp only [G.bM]
 refine Tot.bind (D.node 2 (by decide) rfl hr (by omega)) ?_
 rintro ⟨n,r1⟩ ⟨hn,hr1⟩
 refine Tot.bind (D.pick (m:=3) hr1 (by omega) rfl (by decide) (by decide)) ?_
 rintro ⟨x,r2⟩ ⟨_,hr2⟩
 refine Tot.ite (fun _ => ?_) (fun _ => ?_)
 ·refine Tot.bind (D.SS hr2 (by omega)) ?_
  rintro ⟨m,r3⟩ ⟨hm,hr3⟩
  exact (D.oh.K1 hr3 hm).mono (fun x h=>⟨h.1,h.2.mono (by omega)⟩)
 ·exact (D.oh.K1 hr2 hn).mono (fun x h=>⟨h.1,h.2.mono (by omega)⟩)
theorem D.BQ.L1 {v:af × ReaderT} (hv:Val v.1=true):∀ (k i K:Nat) (r:ReaderT) (z:List af),i+k=7->iO K r->K+k+1<=900000000->z.length=i->(∀ x,x∈z->Fine 14 5 x) ->
    Dr (K+k+1) (lW 14) (fun f=>G.fF.L1 f v (i:Int) r.b r.p z):=by
  intro k
  induction k with
  | zero =>
    intro i K r z hi hr hK hz hf
    refine Tot.up ?_
    simp only [G.fF.L1]
    refine Tot.bind (D.pick (m:=2) hr (by omega) rfl (by decide) (by decide)) ?_
    rintro ⟨x,r1⟩ ⟨⟨q,rfl,hq⟩,hr1⟩
    have w:IntKind.wrap .i64 (6+((q:Nat):Int))=((6+q:Nat):Int):=wrapN (by omega) (by omega)
    simp only [w]
    refine Tot.ite (fun e=>by simp at e; omega) (fun _=>Tot.ret ⟨⟨6,sF (by decide) (by omega) hf⟩,hr1⟩)
  | succ k ih =>
    intro i K r z hi hr hK hz hf
    refine Tot.up ?_
    simp only [G.fF.L1,dB (show i+1<9223372036854775808 by omega)]
    refine Tot.bind (D.pick (m:=2) hr (by omega) rfl (by decide) (by decide)) ?_
    rintro ⟨x,r1⟩ ⟨_,hr1⟩
    refine Tot.ite (fun _ => ?_) (fun _=>Tot.ret ⟨⟨6,sF (by decide) (by omega) hf⟩,hr1.mono (by omega)⟩)
    refine Tot.kZ (T.ax zC (kN hv)) (Tot.chk (by omega) ?_)
    refine (ih (i+1) (K+1) r1 (z++[v.1]) (by omega) hr1 (by omega) (by simp; omega) (fun x hx => ?_)).mono (fun x h=>⟨h.1,h.2.mono (by omega)⟩)
    rcases List.mem_append.1 hx with h | h
    · exact hf x h
    · simp only [List.mem_singleton] at h; subst h; exact (kN hv).mono (by omega) (Nat.le_refl _)
theorem D.BQ {K:Nat} {r:ReaderT} (hr:iO K r) (hK:K<=600000000):Dr (K+620) (lW 14) (fun f=>G.fF f r):=by
 refine Tot.up ?_
 simp only [G.fF]
 refine Tot.bind (D.oh hr (by omega)) ?_
 rintro ⟨n,r1⟩ ⟨hn,hr1⟩
 replace hn:Val n=true:=hn
 have hf:=kN hn
 obtain ⟨f1,f2,f3,f4,f5,f6⟩:=hf
 have hks:∀ k,k∈n.Kids->Fine 14 4 k:=fun k hk=>(f6 k hk).mono (by omega) (Nat.le_refl _)
 have hns:∀ s,s∈n.Names->s.length<=14:=fun s hs=>Nat.le_trans (f3 s hs) (by omega)
 refine Tot.bind (D.pick (m:=40) hr1 (by omega) rfl (by decide) (by decide)) ?_
 rintro ⟨x,r2⟩ ⟨_,hr2⟩
 refine Tot.ite (fun _ => ?_) (fun _=>Tot.ite (fun _ => ?_) (fun _=>Tot.ite (fun _ => ?_) (fun _=>Tot.ite (fun _ => ?_) (fun _=>Tot.ite (fun _ => ?_) (fun _=>Tot.ite (fun _ => ?_) (fun _ => ?_))))))
 ·refine Tot.bind (D.one hr2 (by omega) _ (by decide) (by decide)) ?_
  rintro ⟨y,r3⟩ ⟨hy,hr3⟩
  refine Tot.ret ⟨⟨5,by show n.Text.length<=14; omega,by show n.Names.length<=14; omega,hns,by show n.Kids.length<=14; omega,fun e => ?_,hks⟩,hr3.mono (by omega)⟩
  have e:y=4:=e
  subst e
  simp at hy
 ·refine Tot.bind (D.one hr2 (by omega) _ (by decide) (by decide)) ?_
  rintro ⟨y,r3⟩ ⟨hy,hr3⟩
  exact Tot.ret ⟨⟨5,by show n.Text.length<=14; omega,by show n.Names.length<=14; omega,hns,by show n.Kids.length<=14; omega,f5,hks⟩,hr3.mono (by omega)⟩
 ·exact Tot.ret ⟨⟨5,by simp,by show n.Names.length<=14; omega,hns,by show n.Kids.length<=14; omega,f5,hks⟩,hr2.mono (by omega)⟩
 ·refine Tot.chk (by simp only; omega) (Tot.ret ⟨⟨5,by show n.Text.length<=14; omega,by show (n.Names++[[]]).length<=14; simp; omega,fun s hs => ?_,by show n.Kids.length<=14; omega,fun e => ?_,hks⟩,hr2.mono (by omega)⟩)
  ·rcases List.mem_append.1 hs with h | h
   ·exact hns s h
   ·simp only [List.mem_singleton] at h; subst h; simp
  ·have:=f5 e
   show n.Kids.length<=(n.Names++[[]]).length
   simp; omega
 ·have h0:Fine 14 5 n:=(kN hn).mono (by omega) (Nat.le_refl _)
  have up:∀ {D m},Fine 14 D m->Fine 14 (D+1) (af.mk 3 0 [] [] [m]):=fun hm=>sF (by decide) (by simp) (fun x hx=>by simp only [List.mem_singleton] at hx; subst hx; exact hm)
  exact Tot.ret ⟨⟨9,up (up (up (up h0)))⟩,hr2.mono (by omega)⟩
 ·exact (D.BQ.L1 (v:=(n,r1)) hn 7 0 (K+601+1) r2 [] (by omega) hr2 (by omega) rfl (fun x h=>by cases h)).mono (fun x h=>⟨h.1,h.2.mono (by omega)⟩)
 ·exact Tot.ret ⟨⟨5,(kN hn).mono (by omega) (Nat.le_refl _)⟩,hr2.mono (by omega)⟩
end Go.Ab
end
section
namespace Go.Ab
open Go
theorem D.x8.L1:∀ (j K:Nat) (r:ReaderT) (z:List aK),iO K r->K+j+2<=900000000->z.length+j<=6->(∀ s,s∈z->s.length<=13) ->
    Dr (K+j+2) (jM 13) (fun f=>G.fA.L1 f (j:Int) r.b r.p z):=by
  intro j
  induction j with
  | zero =>
    intro K r z hr hK hz hs
    refine Tot.up ?_
    simp only [G.fA.L1]
    refine Tot.ite (fun e=>by simp at e) (fun _=>Tot.ite (fun e => ?_) (fun _=>Tot.ret ⟨⟨by show z.length<=13; omega,hs⟩,hr.mono (by omega)⟩))
    refine Tot.bind (D.pick (m:=20) hr (by omega) rfl (by decide) (by decide)) ?_
    rintro ⟨x,r1⟩ ⟨_,hr1⟩
    refine Tot.ite (fun _ => ?_) (fun _=>Tot.ret ⟨⟨by show z.length<=13; omega,hs⟩,hr1.mono (by omega)⟩)
    refine Tot.bind (D.of (m:=13) hr1 (by omega) _ (by decide) (by decide) (by decide)) ?_
    rintro ⟨y,r2⟩ ⟨hy,hr2⟩
    refine Tot.chk (by simp at e; omega) (Tot.ret ⟨⟨by show (z.set 0 y).length<=13; simp; omega,fun s h => ?_⟩,hr2.mono (by omega)⟩)
    rcases List.mem_or_eq_of_mem_set h with h | rfl
    · exact hs s h
    · exact hy
  | succ j ih =>
    intro K r z hr hK hz hs
    have w2:IntKind.wrap .i64 (((j+1:Nat):Int)-1)=(j:Int):=wrapN (by omega) (by omega)
    refine Tot.up ?_
    simp only [G.fA.L1,w2]
    refine Tot.ite (fun _ => ?_) (fun e=>by simp at e)
    refine Tot.bind (D.of (m:=13) hr (by omega) _ (by decide) (by decide) (by decide)) ?_
    rintro ⟨y,r1⟩ ⟨hy,hr1⟩
    refine Tot.chk (by omega) ?_
    refine (ih (K+1) r1 (z++[y]) hr1 (by omega) (by simp; omega) (fun s h => ?_)).mono (fun x h=>⟨h.1,h.2.mono (by omega)⟩)
    rcases List.mem_append.1 h with h | h
    · exact hs s h
    · simp only [List.mem_singleton] at h; subst h; exact hy
theorem D.x8 {K:Nat} {r:ReaderT} (hr:iO K r) (hK:K<=800000000):Dr (K+9) (jM 13) (fun f=>G.fA f r):=by
 refine Tot.up ?_
 simp only [G.fA]
 refine Tot.bind (D.one hr (by omega) [1,2,1,0,3,5,6] (by decide) (by decide)) ?_
 rintro ⟨x,r'⟩ ⟨hx,hr'⟩
 obtain ⟨j,rfl,hj⟩:∃ j:Nat,x=(j:Int)/\j<=6:=⟨x.toNat,by simp at hx; omega⟩
 exact (D.x8.L1 j (K+1) r' [] hr' (by omega) (by simp; omega) (fun s h=>by cases h)).mono (fun x h=>⟨h.1,h.2.mono (by omega)⟩)
def KH (m d:Nat) (l:List (List aK)):Prop:=l.length<=m/\∀ p,p∈l->p.length<=d/\∀ s,s∈p->s.length<=12
theorem OH {m d k:Nat} {l:List (List aK)} {s:aK} {p:List aK} (h:KH (m+k) (d+1) l) (hl:l.length<m+k) (hs:s.length<=12) (hp:p.length<=d/\∀ s,s∈p->s.length<=12):KH (m+k) (d+1) (l++[[s]++p]):=by
 refine ⟨by simp; omega,fun q hq => ?_⟩
 rcases List.mem_append.1 hq with h' | h'
 ·exact h.2 q h'
 ·simp only [List.mem_singleton] at h'
  subst h'
  refine ⟨by simp; omega,fun t ht => ?_⟩
  rcases List.mem_append.1 ht with h' | h'
  ·simp only [List.mem_singleton] at h'; subst h'; exact hs
  ·exact hp.2 t h'
theorem D.all.L7 {n:af} {i M d:Nat} {s:aK} {v:List (List aK)} {Q:List (List aK)->Prop} (hv:KH M d v) (hM:M<=20000) (hd:d<=5) (hs:s.length<=12) (C:Nat) (hC:C<=900000)
    (next:∀ z,KH (C+M) (d+1) z->Tot Q (fun f=>G.bZ.L5 f n (IntKind.wrap .i64 ((i:Int)+1)) z)) :
    ∀ (k j:Nat) (z:List (List aK)),j+k=v.length->KH (C+j) (d+1) z->Tot Q (fun f=>G.bZ.L7 f n (i:Int) s v (j:Int) z):=by
  have hl:=hv.1
  intro k
  induction k with
  | zero =>
    intro j z hj hz
    refine Tot.up ?_
    simp only [G.bZ.L7]
    refine Tot.ite (fun e=>by simp at e; omega) (fun _=>next z ⟨by have:=hz.1; omega,hz.2⟩)
  | succ k ih =>
    intro j z hj hz
    have TB:j<v.length:=by omega
    have hp:=hv.2 _ (List.getElem_mem TB)
    have hz1:=hz.1
    refine Tot.up ?_
    simp only [G.bZ.L7,Int.toNat_natCast,dB (show j+1<9223372036854775808 by omega),fE _ TB]
    refine Tot.ite (fun _ => ?_) (fun e=>by simp at e; omega)
    refine Tot.chk (by omega) (Tot.chk (by omega) (Tot.chk (by omega) ?_))
    refine ih (j+1) _ (by omega) ?_
    exact OH (m:=C) (k:=j+1) ⟨by omega,hz.2⟩ (by omega) hs hp
theorem D.all:∀ (d:Nat) {n:af},d<=5->Shape d n=true->Tot (KH (7^d) d) (fun f=>G.bZ f n)
  | 0,_,_,h=>by cases h
  | d+1,n,hd,h=>by
    have hk:=pq h
    have hf:=uD h
    have h7:=xh (show d<=5 by omega)
    have hns:∀ i,i<n.Names.length->(n.Names.getD i default).length<=12:=fun i hi=>by
      rw [fE _ hi]; exact hf.2.2.1 _ (List.getElem_mem hi)
    have L5:∀ (k i:Nat) (z:List (List aK)),i+k=n.Kids.length->KH (1+i*7^d) (d+1) z->Tot (KH (7^(d+1)) (d+1)) (fun f=>G.bZ.L5 f n (i:Int) z):=by
      intro k
      induction k with
      | zero =>
        intro i z hi hz
        have hm:i*7^d<=6*7^d:=Nat.mul_le_mul_right _ (by omega)
        have h1:0<7^d:=Nat.pow_pos (by omega)
        refine Tot.up ?_
        simp only [G.bZ.L5]
        refine Tot.ite (fun e=>by simp at e; omega) (fun _=>Tot.ret ⟨?_,hz.2⟩)
        have:=hz.1
        rw [Nat.pow_succ]; omega
      | succ k ih =>
        intro i z hi hz
        have hm:i*7^d<=6*7^d:=Nat.mul_le_mul_right _ (by omega)
        have K6:∀ s:aK,s.length<=12->Tot (KH (7^(d+1)) (d+1)) (fun f=>G.bZ.K6 f n (i:Int) z s):=fun s hs=>by
          refine Tot.up ?_
          simp only [G.bZ.K6,Int.toNat_natCast]
          refine Tot.chk (by omega) (Tot.bind (D.all d (by omega) (nS h (j:=i) (by omega))) ?_)
          intro v hv
          refine D.all.L7 hv (by omega) (by omega) hs (1+i*7^d) (by omega) (fun z' hz' => ?_) v.length 0 z (by omega) hz
          rw [dB (by omega)]
          exact ih (i+1) z' (by omega) ⟨by have:=hz'.1; rw [Nat.add_mul]; omega,hz'.2⟩
        refine Tot.up ?_
        simp only [G.bZ.L5,Int.toNat_natCast]
        refine Tot.ite (fun _ => ?_) (fun e=>by simp at e; omega)
        refine Tot.kZ (T.decimal (i:=i) (by unfold lim; omega)) (Tot.ite (fun e => ?_) (fun _ => ?_))
        · have h4:n.Kind=4:=by simpa using e
          have hnl:=Fh h h4
          exact Tot.chk (by omega) (K6 _ (hns i (by omega)))
        · exact K6 _ (by unfold ou; rw [if_pos (by omega)]; simp)
    refine Tot.up ?_
    simp only [G.bZ]
    exact L5 n.Kids.length 0 [[]] (by omega) ⟨by simp,fun p hp=>by simp only [List.mem_singleton] at hp; subst hp; exact ⟨by simp,fun s hs=>by cases hs⟩⟩
theorem D.KF {B E:Nat} {n:af} (hB:B<=lim) (h:Fine B E n):Tot (KH (7^5) 5) (fun f=>G.iM f n):=by
 refine Tot.up ?_
 simp only [G.iM]
 refine Tot.kZ (T.aS hB h) (Tot.ite (fun e => ?_) (fun _=>Tot.ret ⟨by simp,fun p hp=>by cases hp⟩))
 exact Tot.bind (D.all 5 (by omega) (kF e)) (fun v hv=>Tot.ret hv)
theorem D.pathIn {K B E:Nat} {r:ReaderT} {n:af} (hB:B<=lim) (h:Fine B E n) (hr:iO K r) (hK:K<=700000000):Dr (K+10) (jM 13) (fun f=>G.iW f r n):=by
 refine Tot.up ?_
 simp only [G.iW]
 refine Tot.bind (D.KF hB h) ?_
 intro l hl
 have h7:(7:Nat)^5=16807:=by decide
 have hl1:=hl.1
 refine Tot.ite (fun e => ?_) (fun _ => ?_)
 ·have hl0:0<l.length:=by simpa using e
  refine Tot.bind (D.pick (m:=4) hr (by omega) rfl (by decide) (by decide)) ?_
  rintro ⟨x,r1⟩ ⟨_,hr1⟩
  refine Tot.ite (fun _ => ?_) (fun _ => ?_)
  ·refine Tot.bind (D.pick (m:=l.length) hr1 (by omega) rfl hl0 (by omega)) ?_
   rintro ⟨y,r2⟩ ⟨⟨q,rfl,hq⟩,hr2⟩
   have hp:=hl.2 _ (List.getElem_mem hq)
   refine Tot.chk (by simp only; omega) (Tot.ret ⟨?_,hr2.mono (by omega)⟩)
   simp only [Int.toNat_natCast,fE _ hq]
   exact ⟨by omega,fun s hs=>Nat.le_trans (hp.2 s hs) (by omega)⟩
  ·exact Tot.bind (D.x8 hr1 (by omega)) (fun x h=>Tot.ret ⟨h.1,h.2.mono (by omega)⟩)
 ·exact Tot.bind (D.x8 hr (by omega)) (fun x h=>Tot.ret ⟨h.1,h.2.mono (by omega)⟩)
end Go.Ab
end
section
namespace Go.Ab
open Go
abbrev pJ (o:jr):Prop:=∃ E,A8 60 E o
theorem jM.mono {B C:Nat} {p:List aK} (h:jM B p) (hB:B<=C):jM C p:=⟨Nat.le_trans h.1 hB,fun s hs=>Nat.le_trans (h.2 s hs) hB⟩
theorem sD:jM 13 []:=⟨by simp,fun s h=>by cases h⟩
theorem Di:Fine 60 1 (af.mk 0 0 [] [] []):=nP (by simp) rfl rfl
section
variable {v1:Int × ReaderT} {v2:List aK × ReaderT} {K:Nat} {r:ReaderT} {fr:List aK} {m:af}
theorem D.someOp.K4 (hp:jM 13 v2.1) (hf:jM 13 fr) (hm:lW 60 m) (hr:iO K r) (hK:K<=900000000) (t:Bool) (ht:t=true->v2.1.length<4) :
  Dr (K+1) pJ (fun f=>G.aH.K4 f v1 v2 fr m.Kind m.Num m.Text m.Names m.Kids t r.b r.p):=by
 obtain ⟨E,hm⟩:=hm
 have hl:=hp.1
 refine Tot.up ?_
 simp only [G.aH.K4,af.eta]
 refine Tot.ite (fun e => ?_) (fun _=>Tot.ret ⟨⟨E,hp.mono (by omega),hf.mono (by omega),hm⟩,hr.mono (by omega)⟩)
 have h4:=ht e
 refine Tot.chk (by omega) (Tot.bind (D.of (m:=13) hr (by omega) _ (by decide) (by decide) (by decide)) ?_)
 rintro ⟨y,r1⟩ ⟨hy,hr1⟩
 refine Tot.chk (by omega) (Tot.ret ⟨⟨E,⟨by show (v2.1++[y]).length<=60; simp; omega,fun s hs => ?_⟩,hf.mono (by omega),hm⟩,hr1⟩)
 rcases List.mem_append.1 hs with h | h
 ·exact Nat.le_trans (hp.2 s h) (by omega)
 ·simp only [List.mem_singleton] at h; subst h; exact Nat.le_trans hy (by omega)
theorem D.someOp.K3 (hp:jM 13 v2.1) (hf:jM 13 fr) (hm:lW 60 m) (hr:iO K r) (hK:K<=800000000) :
  Dr (K+2) pJ (fun f=>G.aH.K3 f v1 v2 r.b r.p fr m.Kind m.Num m.Text m.Names m.Kids):=by
 refine Tot.up ?_
 simp only [G.aH.K3]
 have go:∀ {g:Nat->Option (jr × ReaderT)},v2.1.length<4->Dr (K+2) pJ (fun f=>Option.bind (G.ai f r 2) fun v=>G.aH.K4 f v1 v2 fr m.Kind m.Num m.Text m.Names m.Kids (v.1==0) v.2.b v.2.p):=fun {g} h4=>by
  refine Tot.bind (D.pick (m:=2) hr (by omega) rfl (by decide) (by decide)) ?_
  rintro ⟨x,r1⟩ ⟨_,hr1⟩
  exact D.someOp.K4 hp hf hm hr1 (by omega) _ (fun _=>h4)
 have no:Dr (K+2) pJ (fun f=>G.aH.K4 f v1 v2 fr m.Kind m.Num m.Text m.Names m.Kids false r.b r.p) :=
  (D.someOp.K4 hp hf hm hr (by omega) false (fun h=>by cases h)).mono (fun x h=>⟨h.1,h.2.mono (by omega)⟩)
 refine Tot.ite (fun e => ?_) (fun _=>no)
 have h4:v2.1.length<4:=by simp at e; omega
 exact Tot.ite (fun _=>go (g:=fun _=>none) h4) (fun _=>Tot.ite (fun _=>go (g:=fun _=>none) h4) (fun _=>Tot.ite (fun _=>go (g:=fun _=>none) h4) (fun _=>no)))
theorem D.someOp.K6 {B E:Nat} {n:af} (hB:B<=lim) (hn:Fine B E n) (hp:jM 13 v2.1) (hr:iO K v2.2) (hK:K<=700000000) (t:Bool) :
  Dr (K+12) pJ (fun f=>G.aH.K6 f n v1 v2 t):=by
 refine Tot.up ?_
 simp only [G.aH.K6]
 refine Tot.ite (fun _ => ?_) (fun _=>(D.someOp.K3 (m:=af.mk 0 0 [] [] []) hp sD ⟨1,Di⟩ hr (by omega)).mono (fun x h=>⟨h.1,h.2.mono (by omega)⟩))
 refine Tot.bind (D.pathIn hB hn hr (by omega)) ?_
 rintro ⟨p,r1⟩ ⟨hq,hr1⟩
 exact D.someOp.K3 (m:=af.mk 0 0 [] [] []) hp hq ⟨1,Di⟩ hr1 (by omega)
theorem D.someOp.K5 {E:Nat} {n:af} (hn:Fine 60 E n) (hp:jM 13 v2.1) (hr:iO K v2.2) (hK:K<=700000000) (t:Bool) :
    Dr (K+302) pJ (fun f=>G.aH.K5 f n v1 v2 t):=by
  refine Tot.up ?_
  simp only [G.aH.K5]
  have no:∀ {r K'},iO K' r->K'<=K+1->Dr (K+302) pJ (fun f=>G.aH.K3 f v1 v2 r.b r.p [] 0 0 [] [] []):=fun {r K'} h h' =>
    (D.someOp.K3 (m:=af.mk 0 0 [] [] []) hp sD ⟨1,Di⟩ h (by omega)).mono (fun x h=>⟨h.1,h.2.mono (by omega)⟩)
  refine Tot.ite (fun _ => ?_) (fun _=>Tot.ite (fun _ => ?_) (fun _ => ?_))
  · refine Tot.bind (D.node 1 (by decide) rfl hr (by omega)) ?_
    rintro ⟨m,r1⟩ ⟨hm,hr1⟩
    exact D.someOp.K3 hp sD hm hr1 (by omega)
  · refine Tot.kZ (T.iC v2.1 l9 (by have:=hp.1; unfold big; omega) hn) ?_
    cases ha:Jc n v2.1 with
    | none=>exact no hr (by omega)
    | some t =>
      refine Tot.bind (D.pick (m:=3) hr (by omega) rfl (by decide) (by decide)) ?_
      rintro ⟨x,r1⟩ ⟨_,hr1⟩
      refine Tot.ite (fun _ => ?_) (fun _=>no hr1 (by omega))
      exact (D.someOp.K3 hp sD ⟨E,vw _ hn ha⟩ hr1 (by omega)).mono (fun x h=>⟨h.1,h.2.mono (by omega)⟩)
  · refine Tot.ite (fun _ => ?_) (fun _ => ?_)
    · exact (D.someOp.K6 l9 hn hp hr hK true).mono (fun x h=>⟨h.1,h.2.mono (by omega)⟩)
    · exact (D.someOp.K6 l9 hn hp hr hK _).mono (fun x h=>⟨h.1,h.2.mono (by omega)⟩)
end
theorem D.someOp {K E:Nat} {r:ReaderT} {n:af} (hn:Fine 60 E n) (hr:iO K r) (hK:K<=600000000):Dr (K+320) pJ (fun f=>G.aH f r n):=by
 refine Tot.up ?_
 simp only [G.aH]
 refine Tot.bind (D.pick (m:=6) hr (by omega) rfl (by decide) (by decide)) ?_
 rintro ⟨x,r1⟩ ⟨_,hr1⟩
 refine Tot.bind (D.pathIn l9 hn hr1 (by omega)) ?_
 rintro ⟨p,r2⟩ ⟨hp,hr2⟩
 exact Tot.ite (fun _=>(D.someOp.K5 (v2:=(p,r2)) hn hp hr2 (by omega) true).mono (fun x h=>⟨h.1,h.2.mono (by omega)⟩)) (fun _=>(D.someOp.K5 (v2:=(p,r2)) hn hp hr2 (by omega) _).mono (fun x h=>⟨h.1,h.2.mono (by omega)⟩))
def Bytes (l:List Int):Prop:=∀ z,z∈l->0<=z/\z<256
theorem D.JJ {c:List Int} (hc:Bytes c) (hl:c.length<=1048576):Tot (iO 0) (fun f=>G.iE f c):=by
 refine Tot.up ?_
 simp only [G.iE]
 refine Tot.ite (fun e => ?_) (fun e => ?_)
 ·have h:2000<c.length:=by simp at e; omega
  exact Tot.chk (by omega) (Tot.ret ⟨by show (c.take 2000).length<=2000; simp; omega,fun z hz=>hc z (List.mem_of_mem_take hz),Int.le_refl _,Int.le_refl _⟩)
 ·have h:c.length<=2000:=by simp at e; omega
  exact Tot.ret ⟨h,hc,Int.le_refl _,Int.le_refl _⟩
structure NO (n:af) (o:jr):Prop where
 node:∃ E,Fine 60 E n
 op:∃ E,A8 60 E o
end Go.Ab
end
section
namespace Go.Ab
open Go
theorem NO.fine {n:af} {o:jr} (h:NO n o):∃ E,Fine 60 E n/\A8 60 E o:=by
 obtain ⟨⟨E,hn⟩,⟨F,ho⟩⟩:=h
 exact ⟨max E F,hn.mono (Nat.le_refl _) (Nat.le_max_left _ _),ho.path,ho.from_,ho.val.mono (Nat.le_refl _) (Nat.le_max_right _ _)⟩
theorem jR {n:af} (h:Val n=true):Fine 60 5 n:=(kN h).mono (by omega) (Nat.le_refl _)
theorem Sz {p:Prop} (x:p:=by
 repeat' first
 | assumption
 | exact Ev.ret _
 | refine Ev.ct rfl ?_
 | refine Ev.cf rfl ?_
 | refine Ev.bind (by assumption) ?_
 | refine Ev.ite (fun _ => ?_) (fun _ => ?_)):p:=x
theorem jr.eta (o:jr):jr.mk o.Kind o.Path o.From o.Value=o:=rfl
def Ef (l:List jr):Bool:=l.all IV&&decide (l.length<=12)
def uP (l:List jr):Prop:=l.length<=1000/\∀ o,o∈l->pJ o
theorem getD_mem {α:Type} {l:List α} {i:Nat} (d:α) (h:i<l.length):l.getD i d∈l:=by rw [fE d h]; exact List.getElem_mem h
theorem T.bK.L1 {l:List jr} (h:uP l):∀ (k i:Nat),i+k=l.length->Ev (fun f=>G.bK.L1 f l i) ((l.drop i).all IV):=by
  obtain ⟨hl,ho⟩:=h
  intro k
  induction k with
  | zero =>
    intro i hi
    refine Ev.up ?_
    simp only [G.bK.L1]
    refine Ev.cf (by simp; omega) (Ev.ret' ?_)
    rw [List.drop_of_length_le (by omega)]; rfl
  | succ k ih =>
    intro i hi
    have hlt:i<l.length:=by omega
    refine Ev.up ?_
    simp only [G.bK.L1,Int.toNat_natCast,jr.eta,dB (show i+1<9223372036854775808 by omega)]
    obtain ⟨E,hf⟩:=ho _ (getD_mem default hlt)
    refine Ev.ct (by simpa using hlt) (Ev.chk (by omega) (Ev.bind (T.iV l9 hf) ?_))
    rw [dm (default:jr) hlt,List.all_cons]
    refine Ev.ite (fun e => ?_) (fun e => ?_)
    · rw [e,Bool.true_and]; exact ih (i+1) (by omega)
    · rw [e,Bool.false_and]; exact Ev.ret _
theorem T.bK {l:List jr} (h:uP l):Ev (fun f=>G.bK f l) (Ef l):=by
 refine Ev.up ?_
 simp only [G.bK]
 have hL:=T.bK.L1 h l.length 0 (by omega)
 unfold Ef
 refine Ev.ite (fun e=>Ev.ret' ?_) (fun e => ?_)
 ·have:¬ l.length<=12:=by simp at e; omega
  simp [this]
 ·have:l.length<=12:=by simp at e; omega
  simp only [this,decide_true,Bool.and_true]
  exact hL
theorem T.cu.L1 {l:List jr} (h:uP l):∀ (k i:Nat),i+k=l.length->Ev (fun f=>G.cu.L1 f l i) ((l.drop i).all IV&&decide (l.length<=12)):=by
  obtain ⟨hl,ho⟩:=h
  intro k
  induction k with
  | zero =>
    intro i hi
    refine Ev.up ?_
    simp only [G.cu.L1]
    refine Ev.cf (by simp; omega) (Ev.ret' ?_)
    rw [List.drop_of_length_le (by omega),List.all_nil,Bool.true_and]
    simp; omega
  | succ k ih =>
    intro i hi
    have hlt:i<l.length:=by omega
    refine Ev.up ?_
    simp only [G.cu.L1,Int.toNat_natCast,jr.eta,dB (show i+1<9223372036854775808 by omega)]
    obtain ⟨E,hf⟩:=ho _ (getD_mem default hlt)
    refine Ev.ct (by simpa using hlt) (Ev.chk (by omega) (Ev.bind (T.iK l9 hf) ?_))
    rw [dm (default:jr) hlt,List.all_cons]
    refine Ev.ite (fun e => ?_) (fun e => ?_)
    · rw [e,Bool.true_and]; exact ih (i+1) (by omega)
    · rw [e,Bool.false_and]; exact Ev.ret _
theorem T.cu {l:List jr} (h:uP l):Ev (fun f=>G.cu f l) (Ef l):=by
 refine Ev.up ?_
 simp only [G.cu]
 exact T.cu.L1 h l.length 0 (by omega)
end Go.Ab
end
section
namespace Go.Ab
open Go
set_option maxRecDepth 100000
theorem o6:uP []:=⟨by simp,fun o h=>by cases h⟩
end Go.Ab
end
section
namespace Go.Ab
open Go
set_option maxRecDepth 100000
def lk (n:af) (s:aK):Option af:=(zJ n s).map fun j=>n.Kids.getD j default
structure QT (n:af):Prop where
 kind:n.Kind=4
 QM:Asc n.Names=true
 len:n.Kids.length=n.Names.length
theorem Dv {n:af} (h:Parts n=true) (hk:n.Kind=4):QT n/\n.Names.length<=6/\∀ s,s∈n.Names->s.length<=12:=by
 obtain ⟨_,_,hN,hl,hkl⟩:=nR h hk
 exact ⟨⟨hk,MQ hN,hkl⟩,hl,fun s hs=>zK (GU hN s hs)⟩
structure Acc (n:af) (m:Nat):Prop where
 map:QT n
 num:n.Num=0
 text:n.Text=[]
 len:n.Names.length<=m
 small:∀ s,s∈n.Names->s.length<=12
theorem Acc.eq {n:af} {m:Nat} (h:Acc n m):n=af.mk 4 0 [] n.Names n.Kids:=by
 obtain ⟨⟨h1,_,_⟩,h2,h3,_,_⟩:=h
 cases n
 simp only at h1 h2 h3
 subst h1; subst h2; subst h3; rfl
open Classical in
noncomputable def mn (F:af->af->af->Option af) (o a b:af) (s:aK):Option (Option af) :=
 match lk a s,lk b s,lk o s with
 | some x,some y,some z=>(F z x y).map some
 | some x,some y,none=>if x=y then some (some x) else none
 | some x,none,none=>some (some x)
 | none,some y,none=>some (some y)
 | some x,none,some z=>if x=z then some none else none
 | none,some y,some z=>if y=z then some none else none
 | none,none,_=>some none
end Go.Ab
end
section
namespace Go.Ab
open Go
set_option maxRecDepth 100000
theorem Ei:∀ f:Nat,(∀ n i z l,G.bZ.L5 f n i z=some l->z.length<=l.length)/\(∀ n i z s l,G.bZ.K6 f n i z s=some l->z.length<=l.length) /\
    (∀ n i s v k z l,G.bZ.L7 f n i s v k z=some l->z.length<=l.length)
  | 0=>⟨fun n i z l h=>(by simp only [G.bZ.L5,reduceCtorEq] at h),fun n i z s l h=>(by simp only [G.bZ.K6,reduceCtorEq] at h),fun n i s v k z l h=>(by simp only [G.bZ.L7,reduceCtorEq] at h)⟩
  | f+1=>by
    obtain ⟨h5,h6,h7⟩:=Ei f
    refine ⟨fun n i z l h => ?_,fun n i z s l h => ?_,fun n i s v k z l h => ?_⟩
    · simp only [G.bZ.L5] at h
      rcases oZ.1 h with ⟨_,h⟩ | ⟨_,h⟩
      · obtain ⟨v,_,h⟩:=Option.bind_eq_some_iff.1 h
        rcases oZ.1 h with ⟨_,h⟩ | ⟨_,h⟩
        · exact h6 _ _ _ _ _ (jZ.1 h).2
        · exact h6 _ _ _ _ _ h
      · cases h; exact Nat.le_refl _
    · simp only [G.bZ.K6] at h
      obtain ⟨v,_,h⟩:=Option.bind_eq_some_iff.1 (jZ.1 h).2
      exact h7 _ _ _ _ _ _ _ h
    · simp only [G.bZ.L7] at h
      rcases oZ.1 h with ⟨_,h⟩ | ⟨_,h⟩
      · have:=h7 _ _ _ _ _ _ _ (jZ.1 (jZ.1 (jZ.1 h).2).2).2
        simp at this; omega
      · exact h5 _ _ _ _ h
theorem Ot {f:Nat} {n:af} {l:List (List aK)} (h:G.bZ f n=some l):0<l.length:=by
  cases f with
  | zero=>simp only [G.bZ,reduceCtorEq] at h
  | succ f =>
    simp only [G.bZ] at h
    have:=(Ei f).1 _ _ _ _ h
    simp at this; omega
theorem D.all1 {n:af} (h:Val n=true):Tot (fun l=>KH 16807 5 l/\0<l.length) (fun f=>G.bZ f n):=by
 obtain ⟨l,g,hl⟩:=D.all 5 (Nat.le_refl _) (kF h)
 obtain ⟨m,hm⟩:=g.val
 exact ⟨l,g,hl,Ot hm⟩
theorem D.near.K1 {K:Nat} {r:ReaderT} {n:af} {o:Option af} (hn:Val n=true) (ho:∀ m,o=some m->lW 61 m) (hr:iO K r) :
    Dr K (fun x=>Val x=true) (fun f=>G.dU.K1 f n (kQ o).2 r.b r.p (kQ o).1.Kind (kQ o).1.Num (kQ o).1.Text (kQ o).1.Names (kQ o).1.Kids):=by
  refine Tot.up ?_
  simp only [G.dU.K1,af.eta,ReaderT.eta]
  have cp:=T.ax zC (kN hn)
  cases o with
  | none=>exact Tot.ite (fun e=>by cases e) (fun _=>Tot.kZ cp (Tot.ret ⟨hn,hr⟩))
  | some m =>
    obtain ⟨E,hm⟩:=ho m rfl
    refine Tot.ite (fun _=>Tot.kZ (T.aS (by decide:61<=lim) hm) (Tot.ite (fun e=>Tot.ret ⟨e,hr⟩) (fun _=>Tot.kZ cp (Tot.ret ⟨hn,hr⟩)))) (fun e=>by cases e)
theorem D.MN {K:Nat} {r:ReaderT} {n:af} (hn:Val n=true) (hr:iO K r) (hK:K<=600000000):Dr (K+2000) (fun x=>Val x=true) (fun f=>G.dU f r n):=by
 have h12:=kN hn
 have h60:=jR hn
 refine Tot.up ?_
 simp only [G.dU]
 refine Tot.bind (D.all1 hn) ?_
 rintro l ⟨⟨hl1,hl2⟩,hl3⟩
 refine Tot.bind (D.pick (m:=l.length) hr (by omega) rfl hl3 (by omega)) ?_
 rintro ⟨x,r1⟩ ⟨⟨w,rfl,hw⟩,hr1⟩
 have hp:=hl2 _ (getD_mem default hw)
 simp only [Int.toNat_natCast]
 have hpb:(l.getD w default).length<big:=by unfold big; have:=hp.1; omega
 refine Tot.chk (by show 0<=(w:Int)/\(w:Int)<_; omega) (Tot.kZ (T.ax zC h12) (Tot.bind (D.pick (m:=5) hr1 (by omega) rfl (by decide) (by decide)) ?_))
 rintro ⟨y,r2⟩ ⟨_,hr2⟩
 have hr2':iO (K+2) r2:=hr2
 refine Tot.ite (fun _ => ?_) (fun _=>Tot.ite (fun _ => ?_) (fun _=>Tot.ite (fun _ => ?_) (fun _=>Tot.ite (fun _ => ?_) (fun _ => ?_))))
 ·refine Tot.kZ (T.dW (l.getD w default) SG hpb h12) ?_
  exact (D.near.K1 hn (fun m hm=>⟨5,(kN (O7 hn hm)).mono (by omega) (Nat.le_refl _)⟩) hr2').mono (fun x h=>⟨h.1,h.2.mono (by omega)⟩)
 ·have hpl:=hp.1
  refine Tot.chk (by omega) (Tot.bind (D.of (m:=1) hr2' (by omega) _ (by decide) (by decide) (by decide)) ?_)
  rintro ⟨s,r3⟩ ⟨hs,hr3⟩
  refine Tot.chk (by omega) (Tot.bind (D.node 1 (by decide) (by rfl) hr3 (by omega)) ?_)
  rintro ⟨v,r4⟩ ⟨⟨E,hv⟩,hr4⟩
  have hps:∀ t,t∈l.getD w default++[s]->t.length<=60:=fun t ht=>by
   rcases List.mem_append.1 ht with ht | ht
   ·have:=hp.2 t ht; omega
   ·rw [List.mem_singleton] at ht; subst ht; have:t.length<=1:=hs; omega
  refine Tot.kZ (T.jc (l.getD w default++[s]) (by decide:60+1<lim) (by unfold big; rw [List.length_append,List.length_singleton]; omega) hps h60 hv) ?_
  exact (D.near.K1 hn (fun m hm=>⟨_,GH h60 hv hps hm⟩) hr4).mono (fun x h=>⟨h.1,h.2.mono (by omega)⟩)
 ·refine Tot.bind (D.node 1 (by decide) (by rfl) hr2' (by omega)) ?_
  rintro ⟨v,r4⟩ ⟨⟨E,hv⟩,hr4⟩
  refine Tot.kZ (T.fP l9 hv (l.getD w default) hpb h60) ?_
  exact (D.near.K1 hn (fun m hm=>⟨_,(Bl h60 hv hm).mono (by omega) (Nat.le_refl _)⟩) hr4).mono (fun x h=>⟨h.1,h.2.mono (by omega)⟩)
 ·refine Tot.bind (D.oh hr2' (by omega)) ?_
  rintro ⟨v,r4⟩ ⟨hv,hr4⟩
  exact Tot.ret ⟨hv,hr4.mono (by omega)⟩
 ·exact (D.near.K1 (o:=some n) hn (fun m hm=>by cases hm; exact ⟨5,h12.mono (by omega) (Nat.le_refl _)⟩) hr2').mono (fun x h=>⟨h.1,h.2.mono (by omega)⟩)
end Go.Ab
end
section
namespace Go.Ab
open Go
set_option maxRecDepth 100000
def Ir (b:UInt8):Bool:=(decide (97<=b.toNat)&&decide (b.toNat<=122))||(decide (48<=b.toNat)&&decide (b.toNat<=57))
def FU (s:aK):Bool:=s.all Ir&&(decide (1<=s.length)&&decide (s.length<=8))
def PU (c:Int) (it:bY):Bool:=FU it.Name&&(Val it.Node&&(decide (1<=it.Version)&&decide (it.Version<=c)))
def wY (l:List bY):List aK:=l.map fun it=>it.Name
def xK (s:StoreT):Bool:=(s.Items.all (PU s.Clock)&&Asc (wY s.Items))&&(decide (s.Items.length<=10)&&(decide (0<=s.Clock)&&decide (s.Clock<=999)))
structure oP (B:Nat) (s:StoreT):Prop where
 len:s.Items.length<=B
 Ap:∀ it,it∈s.Items->it.Name.length<=B
 Qq:∀ it,it∈s.Items->lW B it.Node
theorem yh {l:List bY} : (wY l).length=l.length:=by unfold wY; rw [List.length_map]
theorem Dz {l:List bY} {i:Nat} (h:i<l.length):(wY l).getD i default=(l.getD i default).Name:=by
 rw [fE _ (by rw [yh]; exact h),fE _ h]
 unfold wY
 rw [List.getElem_map]
theorem KP {l:List aK} {i:Nat} (h0:0<i) (h:i<l.length):Asc (l.drop (i-1))=(bl (l.getD (i-1) default) (l.getD i default)&&Asc (l.drop i)):=by
 rw [drop_pred h0 h,Asc,dm (default:aK) h]
theorem Ou {l:List aK} {i:Nat} (h:l.length<=i):Asc (l.drop (i-1))=true:=by
 by_cases h0:l.length<=i-1
 ·rw [List.drop_of_length_le h0]; rfl
 ·rw [dm (default:aK) (by omega:i-1<l.length),List.drop_of_length_le (by omega)]; rfl
theorem T.bD.L1 (s:aK) (hs:s.length<big):∀ (k i:Nat),i+k=s.length->Ev (fun f=>G.bD.L1 f s i) ((s.drop i).all Ir&&(decide (1<=s.length)&&decide (s.length<=8))):=by
  unfold big at hs
  intro k
  induction k with
  | zero =>
    intro i hi
    refine Ev.up ?_
    simp only [G.bD.L1]
    refine Ev.cf (decide_eq_false (by omega)) (Ev.bind (T.bu _ _ _) (Ev.ret' ?_))
    rw [List.drop_of_length_le (by omega),List.all_nil,Bool.true_and]
    congr 1<;>(apply decide_eq_decide.2; omega)
  | succ k ih =>
    intro i hi
    refine Ev.up ?_
    simp only [G.bD.L1,Int.toNat_natCast,rY,dB (show i+1<9223372036854775808 by omega)]
    rw [dm (0:UInt8) (by omega:i<s.length),List.all_cons]
    have e1:(decide ((97:Int)<=((s.getD i 0).toNat:Int))&&decide (((s.getD i 0).toNat:Int)<=122))=(decide (97<=(s.getD i 0).toNat)&&decide ((s.getD i 0).toNat<=122)):=by congr 1<;>(apply decide_eq_decide.2; omega)
    have e2:(decide ((48:Int)<=((s.getD i 0).toNat:Int))&&decide (((s.getD i 0).toNat:Int)<=57))=(decide (48<=(s.getD i 0).toNat)&&decide ((s.getD i 0).toNat<=57)):=by congr 1<;>(apply decide_eq_decide.2; omega)
    refine Ev.ct (decide_eq_true (by omega)) (Ev.chk (by omega) (Ev.bind (T.bu _ _ _) ?_))
    rw [e1]
    refine Ev.ite (fun h => ?_) (fun h => ?_)
    · refine (ih (i+1) (by omega)).eq ?_
      unfold Ir
      rw [show (decide (97<=(s.getD i 0).toNat)&&decide ((s.getD i 0).toNat<=122))=true from h,Bool.true_or,Bool.true_and]
    · refine Ev.chk (by omega) (Ev.bind (T.bu _ _ _) ?_)
      rw [e2]
      refine Ev.ite (fun h2 => ?_) (fun h2=>Ev.ret' ?_)
      · refine (ih (i+1) (by omega)).eq ?_
        unfold Ir
        rw [show (decide (48<=(s.getD i 0).toNat)&&decide ((s.getD i 0).toNat<=57))=true from h2,Bool.or_true,Bool.true_and]
      · unfold Ir
        rw [show (decide (97<=(s.getD i 0).toNat)&&decide ((s.getD i 0).toNat<=122))=false from h,show (decide (48<=(s.getD i 0).toNat)&&decide ((s.getD i 0).toNat<=57))=false from h2]
        rfl
theorem T.bD (s:aK) (hs:s.length<big):Ev (fun f=>G.bD f s) (FU s):=by
 refine Ev.up ?_
 simp only [G.bD]
 exact T.bD.L1 s hs s.length 0 (by omega)
theorem T.dQ.L1 (s:aK) (hs:s.length<big):∀ (k i:Nat),i+k=s.length->Ev (fun f=>G.dQ.L1 f s i) ((s.drop i).all Ir):=by
  unfold big at hs
  intro k
  induction k with
  | zero =>
    intro i hi
    refine Ev.up ?_
    simp only [G.dQ.L1]
    refine Ev.cf (decide_eq_false (by omega)) (Ev.ret' ?_)
    rw [List.drop_of_length_le (by omega)]; rfl
  | succ k ih =>
    intro i hi
    refine Ev.up ?_
    simp only [G.dQ.L1,Int.toNat_natCast,dB (show i+1<9223372036854775808 by omega)]
    rw [dm (0:UInt8) (by omega:i<s.length),List.all_cons]
    have yes:Ir (s.getD i 0)=true->Ev (fun f=>G.dQ.L1 f s ((i+1:Nat):Int)) (Ir (s.getD i 0)&&(s.drop (i+1)).all Ir):=fun h=>(ih (i+1) (by omega)).eq (by rw [h]; rfl)
    have no:Ir (s.getD i 0)=false->Ev (fun _=>some false) (Ir (s.getD i 0)&&(s.drop (i+1)).all Ir):=fun h=>Ev.ret' (by rw [h]; rfl)
    have ok:Ir (s.getD i 0)=decide ((97<=(s.getD i 0).toNat/\(s.getD i 0).toNat<=122)\/(48<=(s.getD i 0).toNat/\(s.getD i 0).toNat<=57)):=by unfold Ir; simp
    refine Ev.ct (decide_eq_true (by omega)) (Ev.chk (by omega) ?_)
    refine Ev.ite (fun h => ?_) (fun h => ?_)
    · simp only [decide_eq_true_eq] at h
      refine Ev.chk (by omega) (Ev.ite (fun h2 => ?_) (fun h2 => ?_))
      · simp only [decide_eq_true_eq] at h2
        exact no (by rw [ok]; exact decide_eq_false (by omega))
      · simp only [decide_eq_false_iff_not] at h2
        refine Ev.chk (by omega) (Ev.ite (fun h3 => ?_) (fun h3 => ?_))
        · simp only [decide_eq_true_eq] at h3
          exact no (by rw [ok]; exact decide_eq_false (by omega))
        · simp only [decide_eq_false_iff_not] at h3
          exact yes (by rw [ok]; exact decide_eq_true (by omega))
    · simp only [decide_eq_false_iff_not] at h
      refine Ev.chk (by omega) (Ev.ite (fun h2 => ?_) (fun h2 => ?_))
      · simp only [decide_eq_true_eq] at h2
        refine Ev.chk (by omega) (Ev.cf (decide_eq_false (by omega)) (Ev.chk (by omega) (Ev.ct (decide_eq_true (by omega)) ?_)))
        exact no (by rw [ok]; exact decide_eq_false (by omega))
      · simp only [decide_eq_false_iff_not] at h2
        exact yes (by rw [ok]; exact decide_eq_true (by omega))
theorem T.dQ (s:aK) (hs:s.length<big):Ev (fun f=>G.dQ f s) (FU s):=by
 refine Ev.up ?_
 simp only [G.dQ]
 unfold FU
 refine Ev.ite (fun h=>Ev.ret' ?_) (fun h=>Ev.ite (fun h2=>Ev.ret' ?_) (fun h2 => ?_))
 ·have:s=[]:=by simpa using h
  subst this; rfl
 ·simp only [decide_eq_true_eq] at h2
  rw [decide_eq_false (show ¬ s.length<=8 by omega),Bool.and_false,Bool.and_false]
 ·simp only [decide_eq_false_iff_not] at h2
  have hne:s ≠ []:=by simpa using h
  have hl:1<=s.length:=by cases s with
   | nil=>exact absurd rfl hne
   | cons _ _=>simp
  refine (T.dQ.L1 s hs s.length 0 (by omega)).eq ?_
  rw [decide_eq_true hl,decide_eq_true (show s.length<=8 by omega),List.drop_zero]
  simp
theorem oP.at_ {B:Nat} {s:StoreT} (h:oP B s) {i:Nat} (hi:i<s.Items.length):(s.Items.getD i default).Name.length<=B/\lW B (s.Items.getD i default).Node :=
 ⟨h.Ap _ (getD_mem default hi),h.Qq _ (getD_mem default hi)⟩
section
variable {B:Nat} {s:StoreT} (hB:B<=lim) (h:oP B s)
include hB h
theorem T.aY.L1:∀ (k i:Nat),i+k=s.Items.length->Ev (fun f=>G.aY.L1 f s i) (((s.Items.drop i).all (PU s.Clock)&&Asc ((wY s.Items).drop (i-1)))&&(decide (s.Items.length<=10)&&(decide (0<=s.Clock)&&decide (s.Clock<=999)))):=by
  have hl:=h.len
  unfold lim at hB
  intro k
  induction k with
  | zero =>
    intro i hi
    refine Ev.up ?_
    simp only [G.aY.L1]
    rw [List.drop_of_length_le (by omega),Ou (by rw [yh]; omega)]
    refine Ev.cf (decide_eq_false (by omega)) (Ev.ite (fun e => ?_) (fun e=>Ev.ret' ?_))
    · refine Ev.bind (T.bu _ _ _) (Ev.ret' ?_)
      rw [decide_eq_true (show s.Items.length<=10 by simp only [decide_eq_true_eq] at e; omega)]
      simp
    · rw [decide_eq_false (show ¬ s.Items.length<=10 by simp only [decide_eq_false_iff_not] at e; omega)]
      simp
  | succ k ih =>
    intro i hi
    have hil:i<s.Items.length:=by omega
    obtain ⟨hn,⟨D,hd⟩⟩:=h.at_ hil
    refine Ev.up ?_
    simp only [G.aY.L1,Int.toNat_natCast,dB (show i+1<9223372036854775808 by omega)]
    rw [dm (default:bY) hil,List.all_cons]
    refine Ev.ct (decide_eq_true (by omega)) (Ev.chk (by omega) ?_)
    unfold PU
    refine Ev.bind (T.bD _ (by unfold big; omega)) (Ev.ite (fun e1 => ?_) (fun e1=>Ev.ret' (by rw [e1]; simp)))
    refine Ev.bind (T.aS (by unfold lim; omega) hd) (Ev.ite (fun e2 => ?_) (fun e2=>Ev.ret' (by rw [e2]; simp)))
    refine Ev.bind (T.bu _ _ _) (Ev.ite (fun e3 => ?_) (fun e3=>Ev.ret' (by rw [e3]; simp)))
    rw [e1,e2,e3]
    have ih':=ih (i+1) (by omega)
    unfold PU at ih'
    rw [Nat.add_sub_cancel] at ih'
    by_cases h0:0<i
    · have e:IntKind.wrap .i64 ((i:Int)-1)=((i-1:Nat):Int):=wrapN (by omega) (by omega)
      rw [e,Int.toNat_natCast]
      rw [KP h0 (by rw [yh]; exact hil),Dz hil,Dz (by omega:i-1<s.Items.length)]
      refine Ev.ct (decide_eq_true (by omega)) (Ev.chk (by omega) (Ev.ite (fun h1=>Ev.ret' ?_) (fun h1=>Ev.ite (fun h2=>Ev.ret' ?_) (fun h2 => ?_))))
      · rw [show bl (s.Items.getD (i-1) default).Name (s.Items.getD i default).Name=false from Eu h1]; simp
      · rw [beq_iff_eq] at h2
        rw [show bl (s.Items.getD (i-1) default).Name (s.Items.getD i default).Name=false by rw [h2]; exact yD _]; simp
      · have hb:bl (s.Items.getD (i-1) default).Name (s.Items.getD i default).Name=true:=by
          cases hb:bl (s.Items.getD (i-1) default).Name (s.Items.getD i default).Name with
          | true=>rfl
          | false=>rw [yE h1 hb] at h2; simp at h2
        rw [hb]
        exact ih'.eq (by simp)
    · have:i=0:=by omega
      subst this
      exact Ev.cf (by decide) (ih'.eq (by simp))
theorem T.aY:Ev (fun f=>G.aY f s) (xK s):=by
 refine Ev.up ?_
 simp only [G.aY]
 exact T.aY.L1 hB h s.Items.length 0 (by omega)
theorem T.bP:Ev (fun f=>G.bP f s) s:=by
  have hl:=h.len
  unfold lim at hB
  have L:∀ (k i:Nat),i+k=s.Items.length->Ev (fun f=>G.bP.L1 f s i (s.Items.take i)) s:=by
    intro k
    induction k with
    | zero =>
      intro i hi
      refine Ev.up ?_
      simp only [G.bP.L1]
      refine Ev.cf (decide_eq_false (by omega)) (Ev.ret' ?_)
      rw [List.take_of_length_le (by omega)]
    | succ k ih =>
      intro i hi
      have hil:i<s.Items.length:=by omega
      obtain ⟨hn,⟨D,hd⟩⟩:=h.at_ hil
      refine Ev.up ?_
      simp only [G.bP.L1,Int.toNat_natCast,dB (show i+1<9223372036854775808 by omega)]
      refine Ev.ct (decide_eq_true (by omega)) (Ev.chk (by omega) (Ev.chk (by omega) (Ev.chk (by omega) (Ev.bind (T.ax (by unfold lim; omega) hd) (Ev.chk (by simp; omega) ?_)))))
      have:=ih (i+1) (by omega)
      rw [List.take_succ_eq_append_getElem hil,<- fE (default:bY) hil] at this
      exact this
  refine Ev.up ?_
  simp only [G.bP]
  exact L s.Items.length 0 (by omega)
end
structure Oj (s:StoreT):Prop where
 Rw:∀ it,it∈s.Items->PU s.Clock it=true
 QM:Asc (wY s.Items)=true
 len:s.Items.length<=10
 lo:0<=s.Clock
 hi:s.Clock<=999
theorem uI {s:StoreT} : xK s=true<->Oj s:=by
 unfold xK
 simp only [Bool.and_eq_true,decide_eq_true_eq,List.all_eq_true]
 exact ⟨fun ⟨⟨h1,h2⟩,h3,h4,h5⟩=>⟨h1,h2,h3,h4,h5⟩,fun h=>⟨⟨h.Rw,h.QM⟩,h.len,h.lo,h.hi⟩⟩
structure Tt (c:Int) (it:bY):Prop where
 Ap:FU it.Name=true
 Qq:Val it.Node=true
 lo:1<=it.Version
 hi:it.Version<=c
theorem zn {c:Int} {it:bY} : PU c it=true<->Tt c it:=by
 unfold PU
 simp only [Bool.and_eq_true,decide_eq_true_eq]
 exact ⟨fun ⟨h1,h2,h3,h4⟩=>⟨h1,h2,h3,h4⟩,fun h=>⟨h.Ap,h.Qq,h.lo,h.hi⟩⟩
theorem rE {s:aK} (h:FU s=true):1<=s.length/\s.length<=8:=by
 unfold FU at h
 simp only [Bool.and_eq_true,decide_eq_true_eq] at h
 exact h.2
theorem Oj.it {s:StoreT} (h:Oj s) {i:Nat} (hi:i<s.Items.length):Tt s.Clock (s.Items.getD i default):=zn.1 (h.Rw _ (getD_mem default hi))
theorem Oj.fine {s:StoreT} (h:Oj s):oP 60 s :=
 ⟨by have:=h.len; omega,fun it hi=>by have:=(rE (zn.1 (h.Rw it hi)).Ap).2; omega,fun it hi=>⟨5,jR (zn.1 (h.Rw it hi)).Qq⟩⟩
def OZ:StoreT:=StoreT.mk [] 0
end Go.Ab
end
section
namespace Go.Ab
open Go
set_option maxRecDepth 100000
set_option linter.unusedSectionVars false
def zL (x:bY):List bY->List bY
 | []=>[x]
 | y::r=>if bl y.Name x.Name then y::zL x r else if y.Name=x.Name then x::r else x::y::r
def JM (s:StoreT) (t:aK) (n:af):StoreT:=StoreT.mk (zL (bY.mk t (s.Clock+1) n) s.Items) (s.Clock+1)
def FV (s:StoreT) (t:aK) (n:af):Option StoreT:=if xK s&&FU t&&Val n then (some (JM s t n)).filter xK else none
def vI:Option StoreT->StoreT × Bool
 | some s=>(s,true)
 | none=>(OZ,false)
theorem DJ {s:StoreT} : vI ((some s).filter xK)=if xK s then (s,true) else (OZ,false):=by
 cases h:xK s<;>simp [Option.filter,h,vI]
theorem MR {y:bY} {r:List bY} : wY (y::r)=y.Name::wY r:=rfl
theorem Ep {y:bY} {r:List bY} (h:Asc (wY (y::r))=true):Asc (wY r)=true/\∀ z,z∈r->bl y.Name z.Name=true:=by
 rw [MR] at h
 exact ⟨uO h,fun z hz=>uN h _ (List.mem_map.2 ⟨z,hz,rfl⟩)⟩
theorem zO {x:bY} : ∀ {l:List bY} {it:bY},Asc (wY l)=true->(it∈zL x l<->it=x\/(it∈l/\it.Name ≠ x.Name))
  | [],it,_=>by simp [zL]
  | y::r,it,h=>by
    obtain ⟨h1,h2⟩:=Ep h
    rw [zL]
    cases hb:bl y.Name x.Name with
    | true =>
      have hne:=Bd hb
      rw [if_pos rfl,List.mem_cons,zO h1,List.mem_cons]
      constructor
      · rintro (e | e | ⟨e,e2⟩)
        · exact .inr ⟨.inl e,e ▸ hne⟩
        · exact .inl e
        · exact .inr ⟨.inr e,e2⟩
      · rintro (e | ⟨e | e,e2⟩)
        · exact .inr (.inl e)
        · exact .inl e
        · exact .inr (.inr ⟨e,e2⟩)
    | false =>
      rw [if_neg (by simp)]
      by_cases e:y.Name=x.Name
      · rw [if_pos e,List.mem_cons,List.mem_cons]
        constructor
        · rintro (q | q)
          · exact .inl q
          · exact .inr ⟨.inr q,fun w=>by have:=Bd (h2 it q); rw [e,w] at this; exact this rfl⟩
        · rintro (q | ⟨q | q,w⟩)
          · exact .inl q
          · exact absurd (q ▸ e) w
          · exact .inr q
      · rw [if_neg e,List.mem_cons,List.mem_cons]
        have hx:bl x.Name y.Name=true:=by
          cases k:bl x.Name y.Name with
          | true=>rfl
          | false=>exact absurd (yE hb k) e
        constructor
        · rintro (q | q | q)
          · exact .inl q
          · exact .inr ⟨.inl q,q ▸ e⟩
          · exact .inr ⟨.inr q,fun w=>by have:=Bd (qR hx (h2 it q)); rw [w] at this; exact this rfl⟩
        · rintro (q | ⟨q,_⟩)
          · exact .inl q
          · exact .inr q
theorem E8 {x:bY} : ∀ {l:List bY},(zL x l).length<=l.length+1
  | []=>by simp [zL]
  | y::r=>by
    have:=E8 (x:=x) (l:=r)
    rw [zL]
    split
    · simp only [List.length_cons]; omega
    · split<;>simp
section
variable {s:StoreT} {t:aK} {n:af}
theorem T.dR.done (hl:s.Items.length<=1000):∀ (k i:Nat) (z:List bY),i+k=s.Items.length->z.length<=i+1->(∀ it,it∈s.Items.drop i->it.Name ≠ t) ->
    Ev (fun f=>G.dR.L3 f s t n s true i z) (StoreT.mk (z++s.Items.drop i) (IntKind.wrap .i64 (s.Clock+1))):=by
  intro k
  induction k with
  | zero =>
    intro i z hi hz _
    refine Ev.up ?_
    simp only [G.dR.L3]
    refine Ev.cf (decide_eq_false (by omega)) (Ev.ct rfl (Ev.ret' ?_))
    rw [List.drop_of_length_le (by omega),List.append_nil]
  | succ k ih =>
    intro i z hi hz hne
    have hil:i<s.Items.length:=by omega
    have hd:=dm (default:bY) hil
    rw [hd] at hne
    have h1:=hne (s.Items.getD i default) (by simp)
    refine Ev.up ?_
    simp only [G.dR.L3]
    refine Ev.ct (decide_eq_true (by omega)) (Ev.ct rfl (Ev.up ?_))
    simp only [G.dR.K4,Int.toNat_natCast,dB (show i+1<9223372036854775808 by omega)]
    refine Ev.chk (by omega) (Ev.cf (by simpa using h1) (Ev.chk (by omega) (Ev.chk (by omega) ?_)))
    refine (ih (i+1) _ (by omega) (by simp; omega) (fun it hit=>hne it (by simp [hit]))).eq ?_
    rw [hd]
    simp
theorem T.dR.more (hl:s.Items.length<=1000) (hA:Asc (wY s.Items)=true):∀ (k i:Nat) (z:List bY),i+k=s.Items.length->z.length<=i ->
    Ev (fun f=>G.dR.L3 f s t n s false i z) (StoreT.mk (z++zL (bY.mk t (IntKind.wrap .i64 (s.Clock+1)) n) (s.Items.drop i)) (IntKind.wrap .i64 (s.Clock+1))):=by
  intro k
  induction k with
  | zero =>
    intro i z hi hz
    refine Ev.up ?_
    simp only [G.dR.L3]
    refine Ev.cf (decide_eq_false (by omega)) (Ev.cf rfl (Ev.chk (by omega) (Ev.ret' ?_)))
    rw [List.drop_of_length_le (by omega)]
    rfl
  | succ k ih =>
    intro i z hi hz
    have hil:i<s.Items.length:=by omega
    have hd:=dm (default:bY) hil
    have later:∀ it,it∈s.Items.drop (i+1)->bl (s.Items.getD i default).Name it.Name=true:=fun it hit=>by
      obtain ⟨j,hj,e⟩:=List.mem_drop_iff_getElem.1 hit
      have hj':i+1+j<s.Items.length:=by omega
      have:=KG hA i (i+1+j) (by omega) (by rw [yh]; exact hj')
      rw [Dz hil,Dz hj',fE _ hj',e] at this
      exact this
    refine Ev.up ?_
    simp only [G.dR.L3,Int.toNat_natCast]
    rw [hd,zL]
    refine Ev.ct (decide_eq_true (by omega)) (Ev.cf rfl (Ev.chk (by omega) ?_))
    refine Ev.ite (fun e => ?_) (fun e => ?_)
    · have e:bl (s.Items.getD i default).Name t=true:=e
      rw [if_pos e]
      refine Ev.up ?_
      simp only [G.dR.K4,Int.toNat_natCast,dB (show i+1<9223372036854775808 by omega)]
      refine Ev.chk (by omega) (Ev.cf (by simpa using Bd e) (Ev.chk (by omega) (Ev.chk (by omega) ?_)))
      refine (ih (i+1) _ (by omega) (by simp; omega)).eq ?_
      simp
    · have e:bl (s.Items.getD i default).Name t=false:=e
      rw [if_neg (by simp only [e]; simp)]
      refine Ev.chk (by omega) (Ev.up ?_)
      simp only [G.dR.K4,Int.toNat_natCast,dB (show i+1<9223372036854775808 by omega)]
      refine Ev.chk (by omega) (Ev.ite (fun e2 => ?_) (fun e2 => ?_))
      · have e2:(s.Items.getD i default).Name=t:=by simpa using e2
        rw [if_pos e2]
        refine (T.dR.done hl k (i+1) _ (by omega) (by simp; omega) (fun it hit w=>by have:=Bd (later it hit); rw [e2,w] at this; exact this rfl)).eq ?_
        simp
      · have e2:(s.Items.getD i default).Name ≠ t:=by simpa using e2
        rw [if_neg e2]
        have hx:bl t (s.Items.getD i default).Name=true:=by
          cases q:bl t (s.Items.getD i default).Name with
          | true=>rfl
          | false=>exact absurd (yE e q) e2
        refine Ev.chk (by omega) (Ev.chk (by simp; omega) ?_)
        refine (T.dR.done hl k (i+1) _ (by omega) (by simp; omega) (fun it hit w=>by have:=Bd (qR hx (later it hit)); rw [w] at this; exact this rfl)).eq ?_
        simp
end
section
variable {B D:Nat} {s:StoreT} {t:aK} {n:af} (hB:B<=lim) (h:oP B s)
include hB h
theorem T.dR (hn:Fine B D n) (hs:Oj s):Ev (fun f=>G.dR f s t n) (JM s t n):=by
 have hl:=hs.len
 have hlo:=hs.lo
 have hhi:=hs.hi
 refine Ev.up ?_
 simp only [G.dR]
 refine Ev.bind (T.ax hB hn) (Ev.bind (T.bP hB h) ?_)
 refine (T.dR.more (by omega) hs.QM s.Items.length 0 [] (by omega) (by simp)).eq ?_
 rw [Ec (by omega) (by omega)]
 rfl
theorem Nh (hs:Oj s) (ht:FU t=true) (hn:Val n=true):oP 60 (JM s t n):=by
 have:=E8 (x:=bY.mk t (s.Clock+1) n) (l:=s.Items)
 have:=hs.len
 refine ⟨by show (zL _ _).length<=_; omega,fun it hi => ?_,fun it hi => ?_⟩
 ·rcases (zO hs.QM).1 hi with e | ⟨e,_⟩
  ·rw [e]; show t.length<=60; have:=(rE ht).2; omega
  ·exact hs.fine.Ap it e
 ·rcases (zO hs.QM).1 hi with e | ⟨e,_⟩
  ·rw [e]; exact ⟨5,jR hn⟩
  ·exact hs.fine.Qq it e
theorem T.iJ (ht:t.length<=B) (hn:Fine B D n):Ev (fun f=>G.iJ f s t n) (vI (FV s t n)):=by
 refine Ev.up ?_
 simp only [G.iJ]
 unfold FV
 refine Ev.bind (T.aY hB h) (Ev.ite (fun e1 => ?_) (fun e1=>Ev.ret' (by rw [e1]; rfl)))
 refine Ev.bind (T.bD _ (by unfold big; unfold lim at hB; omega)) (Ev.ite (fun e2 => ?_) (fun e2=>Ev.ret' (by rw [e1,e2]; rfl)))
 refine Ev.bind (T.aS hB hn) (Ev.ite (fun e3 => ?_) (fun e3=>Ev.ret' (by rw [e1,e2,e3]; rfl)))
 have hs:=uI.1 e1
 rw [e1,e2,e3]
 refine Ev.bind (T.dR hB h hn hs) (Ev.bind (T.aY l9 (Nh hB h hs e2 e3)) ?_)
 show Ev _ (vI ((some (JM s t n)).filter xK))
 rw [DJ]
 cases hv:xK (JM s t n) with
 | true=>exact Ev.ct rfl (Ev.ret _)
 | false=>exact Ev.cf rfl (Ev.ret _)
end
theorem Nc {s m:StoreT} {t:aK} {n:af} (h:FV s t n=some m):xK s=true/\FU t=true/\Val n=true/\m=JM s t n/\xK m=true:=by
 unfold FV at h
 split at h
 ·rename_i c
  obtain ⟨⟨c1,c2⟩,c3⟩:(xK s=true/\FU t=true)/\Val n=true:=by simpa using c
  obtain ⟨h1,h2⟩:=Option.filter_eq_some_iff.1 h
  cases h1
  exact ⟨c1,c2,c3,rfl,h2⟩
 ·cases h
def OI (l:List bY) (t:aK):Option Nat:=(List.range' 0 l.length).find? fun i=>(l.getD i default).Name==t
theorem EL {l:List bY} {t:aK} {j:Nat} : OI l t=some j<->(j<l.length/\(l.getD j default).Name=t/\∀ q,q<j->(l.getD q default).Name ≠ t):=by
 unfold OI
 rw [Bj]
 constructor
 ·rintro ⟨_,h2,h3,h4⟩
  exact ⟨by omega,by simpa using h3,fun q hq=>by simpa using h4 q (by omega) hq⟩
 ·rintro ⟨h2,h3,h4⟩
  exact ⟨by omega,by omega,by simpa using h3,fun q _ hq=>by simpa using h4 q hq⟩
theorem T.gq {s:StoreT} (t:aK) (hl:s.Items.length<=lim):Ev (fun f=>G.gq f s t) (qK (OI s.Items t)):=by
  unfold lim at hl
  have L:∀ (k i:Nat),i+k=s.Items.length->Ev (fun f=>G.gq.L1 f s t i) (qK ((List.range' i k).find? fun i=>(s.Items.getD i default).Name==t)):=by
    intro k
    induction k with
    | zero =>
      intro i hi
      refine Ev.up ?_
      simp only [G.gq.L1]
      exact Ev.cf (decide_eq_false (by omega)) (Ev.ret _)
    | succ k ih =>
      intro i hi
      refine Ev.up ?_
      simp only [G.gq.L1,Int.toNat_natCast,dB (show i+1<9223372036854775808 by omega)]
      rw [List.range'_succ,List.find?_cons]
      refine Ev.ct (decide_eq_true (by omega)) (Ev.chk (by omega) (Ev.ite (fun e=>Ev.ret' ?_) (fun e => ?_)))
      · simp only [show ((s.Items.getD i default).Name==t)=true from e]; rfl
      · simp only [show ((s.Items.getD i default).Name==t)=false from e]
        exact ih (i+1) (by omega)
  refine Ev.up ?_
  simp only [G.gq]
  exact L s.Items.length 0 (by omega)
def Lr (s:StoreT) (t:aK):StoreT:=StoreT.mk (s.Items.filter fun it => !(it.Name==t)) (s.Clock+1)
def yw (s:StoreT) (t:aK):Option StoreT:=if xK s&&(OI s.Items t).isSome && !(s.Clock==999) then some (Lr s t) else none
theorem T.gU {B:Nat} {s:StoreT} {t:aK} (hB:B<=lim) (h:oP B s) (hs:Oj s):Ev (fun f=>G.gU f s t) (Lr s t):=by
  have hl:=hs.len
  have hlo:=hs.lo
  have hhi:=hs.hi
  have L:∀ (k i:Nat) (z:List bY),i+k=s.Items.length->z.length<=i->Ev (fun f=>G.gU.L1 f s t s i z) (StoreT.mk (z++(s.Items.drop i).filter fun it => !(it.Name==t)) (IntKind.wrap .i64 (s.Clock+1))):=by
    intro k
    induction k with
    | zero =>
      intro i z hi hz
      refine Ev.up ?_
      simp only [G.gU.L1]
      refine Ev.cf (decide_eq_false (by omega)) (Ev.ret' ?_)
      rw [List.drop_of_length_le (by omega)]; simp
    | succ k ih =>
      intro i z hi hz
      have hil:i<s.Items.length:=by omega
      refine Ev.up ?_
      simp only [G.gU.L1,Int.toNat_natCast,dB (show i+1<9223372036854775808 by omega)]
      rw [dm (default:bY) hil,List.filter_cons]
      refine Ev.ct (decide_eq_true (by omega)) (Ev.chk (by omega) (Ev.ite (fun e => ?_) (fun e => ?_)))
      · rw [show ((s.Items.getD i default).Name==t)=true from e]
        exact (ih (i+1) z (by omega) (by omega)).eq (by simp)
      · rw [show ((s.Items.getD i default).Name==t)=false from e]
        refine Ev.chk (by omega) (Ev.chk (by omega) ?_)
        exact (ih (i+1) _ (by omega) (by simp; omega)).eq (by simp)
  refine Ev.up ?_
  simp only [G.gU]
  refine Ev.bind (T.bP hB h) ((L s.Items.length 0 [] (by omega) (by simp)).eq ?_)
  rw [Ec (by omega) (by omega)]
  rfl
theorem T.iq {B:Nat} {s:StoreT} {t:aK} (hB:B<=lim) (h:oP B s):Ev (fun f=>G.iq f s t) (vI (yw s t)):=by
  have hl:=h.len
  refine Ev.up ?_
  simp only [G.iq]
  unfold yw
  refine Ev.bind (T.aY hB h) (Ev.ite (fun e1 => ?_) (fun e1=>Ev.ret' (by rw [e1]; rfl)))
  refine Ev.bind (T.gq t (Nat.le_trans hl hB)) ?_
  cases hf:OI s.Items t with
  | none=>exact Ev.ct (by decide) (Ev.ret' (by rw [e1]; rfl))
  | some j =>
    refine Ev.cf (decide_eq_false (by simp only [qK]; omega)) (Ev.ite (fun e2=>Ev.ret' (by rw [e1,e2]; rfl)) (fun e2 => ?_))
    refine Ev.bind (T.gU hB h (uI.1 e1)) (Ev.ret' (by rw [e1,e2]; rfl))
theorem Ov {l m:List aK} (h:l.Sublist m) (hm:Asc m=true):Asc l=true:=lY.2 ((lY.1 hm).sublist h)
theorem Ls {s m:StoreT} {t:aK} (h:yw s t=some m):xK s=true/\(OI s.Items t).isSome=true/\s.Clock ≠ 999/\m=Lr s t/\xK m=true:=by
 unfold yw at h
 split at h
 ·rename_i c
  obtain ⟨⟨c1,c2⟩,c3⟩:(xK s=true/\(OI s.Items t).isSome=true)/\s.Clock ≠ 999:=by simpa using c
  cases h
  have hs:=uI.1 c1
  refine ⟨c1,c2,c3,rfl,uI.2 ⟨fun it hit => ?_,?_,?_,?_,?_⟩⟩
  ·have:=zn.1 (hs.Rw it (List.mem_filter.1 hit).1)
   have hhi:=this.hi
   exact zn.2 ⟨this.Ap,this.Qq,this.lo,by show it.Version<=s.Clock+1; omega⟩
  ·exact Ov (List.Sublist.map _ List.filter_sublist) hs.QM
  ·show (s.Items.filter _).length<=10
   exact Nat.le_trans (List.length_filter_le _ _) hs.len
  ·show 0<=s.Clock+1
   have:=hs.lo
   omega
  ·show s.Clock+1<=999
   have:=hs.hi
   omega
 ·cases h
end Go.Ab
end
section
namespace Go.Ab
open Go
set_option maxRecDepth 100000
theorem D.zo {K:Nat} {r:ReaderT} (hr:iO K r) (hK:K<=1000000000):Dr (K+1) (fun x=>FU x=true) (fun f=>G.gm f r):=by
 refine Tot.up ?_
 simp only [G.gm]
 obtain ⟨x,r',g,hx,hr'⟩:=T.of hr hK [[97],[98],[100,111,99],[122,122],[97,49],[109],[120,57],[98,111,111,107],[97,98,99,100,101,102,103,104],[113]] (by decide) (by decide)
 exact Tot.kZ g (Tot.ret ⟨List.all_eq_true.1 (by decide:List.all [[97],[98],[100,111,99],[122,122],[97,49],[109],[120,57],[98,111,111,107],[97,98,99,100,101,102,103,104],[113]] FU=true) x hx,hr'⟩)
theorem D.H9 {K:Nat} {r:ReaderT} (hr:iO K r) (hK:K<=1000000000):Dr (K+1) (fun x:aK=>x.length<=12) (fun f=>G.gW f r):=by
 refine Tot.up ?_
 simp only [G.gW]
 refine Tot.bind (D.of (m:=12) hr hK _ (by decide) (by decide) (by decide)) ?_
 rintro ⟨x,r'⟩ ⟨hx,hr'⟩
 exact Tot.ret ⟨hx,hr'⟩
theorem QC:xK OZ=true:=by decide
theorem D.nT.K4 {K:Nat} {Q:StoreT->Prop} {s m:StoreT} {j:Nat} {r:ReaderT} {ok:Bool} (hj:j+1<=1000)
  (h1:ok=true->Dr K Q (fun f=>G.bC.L3 f (j:Int) r.b r.p m.Items m.Clock)) (h2:Dr K Q (fun f=>G.bC.L3 f (j:Int) r.b r.p s.Items s.Clock)) :
  Dr K Q (fun f=>G.bC.K4 f ((j+1:Nat):Int) s.Items s.Clock ok r.b r.p m.Items m.Clock):=by
 have w:IntKind.wrap .i64 (((j+1:Nat):Int)-1)=(j:Int):=wrapN (by omega) (by omega)
 refine Tot.up ?_
 simp only [G.bC.K4,w]
 exact Tot.ite (fun e=>h1 e) (fun _=>h2)
theorem D.nT.L3:∀ (j K:Nat) (r:ReaderT) (s:StoreT),j<=12->iO K r->K+700*j<=500000000->xK s=true ->
    Dr (K+700*j) (fun s=>xK s=true) (fun f=>G.bC.L3 f (j:Int) r.b r.p s.Items s.Clock):=by
  intro j
  induction j with
  | zero =>
    intro K r s _ hr _ hs
    refine Tot.up ?_
    simp only [G.bC.L3]
    exact Tot.ite (fun e=>by simp at e) (fun _=>Tot.ret ⟨hs,hr.mono (by omega)⟩)
  | succ j ih =>
    intro K r s hj hr hK hs
    refine Tot.up ?_
    simp only [G.bC.L3]
    refine Tot.ite (fun _ => ?_) (fun e=>absurd e (by simp))
    refine Tot.bind (D.zo hr (by omega)) ?_
    rintro ⟨nm,r1⟩ ⟨hnm,hr1⟩
    refine Tot.bind (D.oh hr1 (by omega)) ?_
    rintro ⟨v,r2⟩ ⟨hv,hr2⟩
    have hfs:=(uI.1 hs).fine
    refine Tot.kZ (T.iJ l9 hfs (by have:=(rE hnm).2; omega) (jR hv)) ?_
    refine Tot.bind (D.pick (m:=8) hr2 (by omega) rfl (by decide) (by decide)) ?_
    rintro ⟨x,r3⟩ ⟨_,hr3⟩
    refine Tot.ite (fun _ => ?_) (fun _ => ?_)
    · refine Tot.bind (D.zo hr3 (by omega)) ?_
      rintro ⟨SV,r4⟩ ⟨TY,hr4⟩
      refine Tot.kZ (T.iq l9 hfs) ?_
      refine D.nT.K4 (K:=K+700*(j+1)) (Q:=fun s=>xK s=true) (s:=s) (m:=(vI (yw s SV)).1) (r:=r4) (ok:=(vI (yw s SV)).2) (j:=j) (by omega) (fun e => ?_) ?_
      · cases hd:yw s SV with
        | none=>rw [hd] at e; cases e
        | some m =>
          have:=(ih (K+700) r4 m (by omega) (hr4.mono (by omega)) (by omega) (Ls hd).2.2.2.2)
          refine Tot.mono this (fun x hx=>⟨hx.1,hx.2.mono (by omega)⟩)
      · exact Tot.mono (ih (K+700) r4 s (by omega) (hr4.mono (by omega)) (by omega) hs) (fun x hx=>⟨hx.1,hx.2.mono (by omega)⟩)
    · refine D.nT.K4 (K:=K+700*(j+1)) (Q:=fun s=>xK s=true) (s:=s) (m:=(vI (FV s nm v)).1) (r:=r3) (ok:=(vI (FV s nm v)).2) (j:=j) (by omega) (fun e => ?_) ?_
      · cases hd:FV s nm v with
        | none=>rw [hd] at e; cases e
        | some m =>
          exact Tot.mono (ih (K+700) r3 m (by omega) (hr3.mono (by omega)) (by omega) (Nc hd).2.2.2.2) (fun x hx=>⟨hx.1,hx.2.mono (by omega)⟩)
      · exact Tot.mono (ih (K+700) r3 s (by omega) (hr3.mono (by omega)) (by omega) hs) (fun x hx=>⟨hx.1,hx.2.mono (by omega)⟩)
theorem D.nT {K:Nat} {r:ReaderT} (hr:iO K r) (hK:K<=400000000):Dr (K+9000) (fun s=>xK s=true) (fun f=>G.bC f r):=by
 refine Tot.up ?_
 simp only [G.bC]
 obtain ⟨x,r1,g,hx,hr1⟩:=T.one hr (by omega) [3,4,2,5,0,12] (by decide) (by decide)
 refine Tot.kZ g ?_
 obtain ⟨j,hj,rfl⟩:∃ j:Nat,j<=12/\x=(j:Int):=by
  simp only [List.mem_cons,List.not_mem_nil,or_false] at hx
  rcases hx with rfl | rfl | rfl | rfl | rfl | rfl
  ·exact ⟨3,by omega,rfl⟩
  ·exact ⟨4,by omega,rfl⟩
  ·exact ⟨2,by omega,rfl⟩
  ·exact ⟨5,by omega,rfl⟩
  ·exact ⟨0,by omega,rfl⟩
  ·exact ⟨12,by omega,rfl⟩
 exact Tot.mono (D.nT.L3 j (K+1) r1 OZ hj hr1 (by omega) QC) (fun x hx=>⟨hx.1,hx.2.mono (by omega)⟩)
end Go.Ab
end
section
namespace Go.Ab
open Go
set_option maxRecDepth 100000
def MV (b:UInt8):Bool:=(decide (48<=b.toNat)&&decide (b.toNat<=57))||(decide (97<=b.toNat)&&decide (b.toNat<=102))
def BL (s:aK):Bool:=s.all MV&&decide (s.length=4)
def BM (s:aK):Bool:=s==[42]||BL s
def qw (l:List aK):Bool:=l.all BM&&decide (l.length<=4)
def hexD:aK:=[48,49,50,51,52,53,54,55,56,57,97,98,99,100,101,102]
theorem OU:∀ n:Nat,n<256->decide (Go.Lib.indexByte hexD (UInt8.ofNat n)<0) = !MV (UInt8.ofNat n):=by decide +kernel
theorem Qk (b:UInt8):decide (Go.Lib.indexByte hexD b<0) = !MV b:=by
 have:=OU b.toNat b.toNat_lt
 rwa [UInt8.ofNat_toNat] at this
theorem T.dO (s:aK) (hs:s.length<big):Ev (fun f=>G.dO f s) (BL s):=by
  unfold big at hs
  have L:∀ (k i:Nat),i+k=s.length->Ev (fun f=>G.dO.L1 f s i) ((s.drop i).all MV&&decide (s.length=4)):=by
    intro k
    induction k with
    | zero =>
      intro i hi
      refine Ev.up ?_
      simp only [G.dO.L1]
      refine Ev.cf (decide_eq_false (by omega)) (Ev.ret' ?_)
      rw [List.drop_of_length_le (by omega),List.all_nil,Bool.true_and,Bool.eq_iff_iff,beq_iff_eq,decide_eq_true_eq]
      omega
    | succ k ih =>
      intro i hi
      refine Ev.up ?_
      simp only [G.dO.L1,Int.toNat_natCast,rY,dB (show i+1<9223372036854775808 by omega)]
      rw [dm (0:UInt8) (by omega:i<s.length),List.all_cons]
      have e1:(decide ((48:Int)<=((s.getD i 0).toNat:Int))&&decide (((s.getD i 0).toNat:Int)<=57))=(decide (48<=(s.getD i 0).toNat)&&decide ((s.getD i 0).toNat<=57)):=by congr 1<;>(apply decide_eq_decide.2; omega)
      have e2:(decide ((97:Int)<=((s.getD i 0).toNat:Int))&&decide (((s.getD i 0).toNat:Int)<=102))=(decide (97<=(s.getD i 0).toNat)&&decide ((s.getD i 0).toNat<=102)):=by congr 1<;>(apply decide_eq_decide.2; omega)
      refine Ev.ct (decide_eq_true (by omega)) (Ev.chk (by omega) (Ev.bind (T.bu _ _ _) ?_))
      rw [e1]
      refine Ev.ite (fun h => ?_) (fun h => ?_)
      · refine (ih (i+1) (by omega)).eq ?_
        unfold MV
        rw [show (decide (48<=(s.getD i 0).toNat)&&decide ((s.getD i 0).toNat<=57))=true from h,Bool.true_or,Bool.true_and]
      · refine Ev.chk (by omega) (Ev.bind (T.bu _ _ _) ?_)
        rw [e2]
        refine Ev.ite (fun h2 => ?_) (fun h2=>Ev.ret' ?_)
        · refine (ih (i+1) (by omega)).eq ?_
          unfold MV
          rw [show (decide (97<=(s.getD i 0).toNat)&&decide ((s.getD i 0).toNat<=102))=true from h2,Bool.or_true,Bool.true_and]
        · unfold MV
          rw [show (decide (48<=(s.getD i 0).toNat)&&decide ((s.getD i 0).toNat<=57))=false from h,show (decide (97<=(s.getD i 0).toNat)&&decide ((s.getD i 0).toNat<=102))=false from h2]
          rfl
  refine Ev.up ?_
  simp only [G.dO]
  exact L s.length 0 (by omega)
theorem T.gu (s:aK) (hs:s.length<big):Ev (fun f=>G.gu f s) (BL s):=by
  unfold big at hs
  have hI:∀ b:UInt8,Ev (fun f=>G.strings_IndexByte f [48,49,50,51,52,53,54,55,56,57,97,98,99,100,101,102] ((b.toNat:Nat):Int)) (Go.Lib.indexByte hexD b):=fun b=>by
    refine Ev.up ?_
    simp only [G.strings_IndexByte]
    refine Ev.bind (Ev.up ?_) (Ev.ret _)
    simp only [G.cO]
    refine Ev.ret' ?_
    rw [Int.toNat_natCast,show b.toNat.toUInt8=b from UInt8.ofNat_toNat]
    rfl
  have L:∀ (k i:Nat),i+k=s.length->Ev (fun f=>G.gu.L1 f s i) ((s.drop i).all MV):=by
    intro k
    induction k with
    | zero =>
      intro i hi
      refine Ev.up ?_
      simp only [G.gu.L1]
      refine Ev.cf (decide_eq_false (by omega)) (Ev.ret' ?_)
      rw [List.drop_of_length_le (by omega)]; rfl
    | succ k ih =>
      intro i hi
      refine Ev.up ?_
      simp only [G.gu.L1,Int.toNat_natCast,dB (show i+1<9223372036854775808 by omega)]
      rw [dm (0:UInt8) (by omega:i<s.length),List.all_cons]
      refine Ev.ct (decide_eq_true (by omega)) (Ev.chk (by omega) (Ev.bind (hI _) ?_))
      rw [Qk]
      refine Ev.ite (fun h=>Ev.ret' ?_) (fun h=>(ih (i+1) (by omega)).eq ?_)
      · have:MV (s.getD i 0)=false:=by simpa using h
        rw [this]; rfl
      · have:MV (s.getD i 0)=true:=by simpa using h
        rw [this]; rfl
  refine Ev.up ?_
  simp only [G.gu]
  unfold BL
  refine Ev.ite (fun e=>Ev.ret' ?_) (fun e => ?_)
  · have:¬ s.length=4:=by
      have:((s.length:Nat):Int) ≠ 4:=by simpa using e
      omega
    rw [decide_eq_false this,Bool.and_false]
  · have:s.length=4:=by
      have:((s.length:Nat):Int)=4:=by simpa using e
      omega
    exact (L s.length 0 (by omega)).eq (by rw [decide_eq_true this,Bool.and_true,List.drop_zero])
theorem T.bU {l:List aK} (h:Sm l):Ev (fun f=>G.bU f l) (qw l):=by
  have hl:=h.1
  unfold big at hl
  have L:∀ (k i:Nat),i+k=l.length->Ev (fun f=>G.bU.L1 f l i) ((l.drop i).all BM&&decide (l.length<=4)):=by
    intro k
    induction k with
    | zero =>
      intro i hi
      refine Ev.up ?_
      simp only [G.bU.L1]
      refine Ev.cf (decide_eq_false (by omega)) (Ev.ret' ?_)
      rw [List.drop_of_length_le (by omega),List.all_nil,Bool.true_and]
      apply decide_eq_decide.2; omega
    | succ k ih =>
      intro i hi
      refine Ev.up ?_
      simp only [G.bU.L1,Int.toNat_natCast,dB (show i+1<9223372036854775808 by omega)]
      rw [dm (default:aK) (by omega:i<l.length),List.all_cons]
      unfold BM
      refine Ev.ct (decide_eq_true (by omega)) (Ev.chk (by omega) (Ev.ite (fun e=>(ih (i+1) (by omega)).eq (by rw [e]; rfl)) (fun e=>Ev.chk (by omega) (Ev.bind (T.dO _ (h.get (by omega))) ?_))))
      exact Ev.ite (fun e2=>(ih (i+1) (by omega)).eq (by rw [e,e2]; rfl)) (fun e2=>Ev.ret' (by rw [e,e2]; rfl))
  refine Ev.up ?_
  simp only [G.bU]
  exact L l.length 0 (by omega)
theorem T.dF {l:List aK} (h:Sm l):Ev (fun f=>G.dF f l) (qw l):=by
  have hl:=h.1
  unfold big at hl
  have L:∀ (k i:Nat),i+k=l.length->Ev (fun f=>G.dF.L1 f l i) ((l.drop i).all BM):=by
    intro k
    induction k with
    | zero =>
      intro i hi
      refine Ev.up ?_
      simp only [G.dF.L1]
      refine Ev.cf (decide_eq_false (by omega)) (Ev.ret' ?_)
      rw [List.drop_of_length_le (by omega)]; rfl
    | succ k ih =>
      intro i hi
      refine Ev.up ?_
      simp only [G.dF.L1,Int.toNat_natCast,dB (show i+1<9223372036854775808 by omega)]
      rw [dm (default:aK) (by omega:i<l.length),List.all_cons]
      unfold BM
      refine Ev.ct (decide_eq_true (by omega)) (Ev.chk (by omega) (Ev.ite (fun e=>(ih (i+1) (by omega)).eq (by rw [e]; rfl)) (fun e=>Ev.bind (T.gu _ (h.get (by omega))) ?_)))
      exact Ev.ite (fun e2=>(ih (i+1) (by omega)).eq (by rw [e,e2]; rfl)) (fun e2=>Ev.ret' (by rw [e,e2]; rfl))
  refine Ev.up ?_
  simp only [G.dF]
  unfold qw
  refine Ev.ite (fun e=>Ev.ret' ?_) (fun e=>(L l.length 0 (by omega)).eq ?_)
  · rw [decide_eq_false (show ¬ l.length<=4 by simp only [decide_eq_true_eq] at e; omega),Bool.and_false]
  · rw [decide_eq_true (show l.length<=4 by simp only [decide_eq_false_iff_not] at e; omega),Bool.and_true,List.drop_zero]
structure qo (B:Nat) (q:RequestT):Prop where
 Ap:q.Name.length<=B
 want:jM B q.Want
 avoid:jM B q.ja
 body:lW B q.Body
 ops:uP q.Ops
def NW (q:RequestT):Bool:=(decide (1<=q.Method)&&decide (q.Method<=5))&&(FU q.Name&&(qw q.Want&&(qw q.ja&&(Val q.Body&&Ef q.Ops))))
section
variable {B:Nat} {q:RequestT} (hB:B<=lim) (h:qo B q)
include hB h
theorem T.fC:Ev (fun f=>G.fC f q) (NW q):=by
 obtain ⟨E,hb⟩:=h.body
 have hn:=h.Ap
 unfold lim at hB
 refine Ev.up ?_
 simp only [G.fC]
 unfold NW
 refine Ev.bind (T.bu _ _ _) (Ev.ite (fun e1 => ?_) (fun e1=>Ev.ret' (by rw [e1]; rfl)))
 refine Ev.bind (T.bD _ (by unfold big; omega)) (Ev.ite (fun e2 => ?_) (fun e2=>Ev.ret' (by rw [e1,e2]; rfl)))
 refine Ev.bind (T.bU (h.want.sm (by unfold lim; omega))) (Ev.ite (fun e3 => ?_) (fun e3=>Ev.ret' (by rw [e1,e2,e3]; rfl)))
 refine Ev.bind (T.bU (h.avoid.sm (by unfold lim; omega))) (Ev.ite (fun e4 => ?_) (fun e4=>Ev.ret' (by rw [e1,e2,e3,e4]; rfl)))
 refine Ev.bind (T.aS (by unfold lim; omega) hb) (Ev.ite (fun e5 => ?_) (fun e5=>Ev.ret' (by rw [e1,e2,e3,e4,e5]; rfl)))
 exact Ev.bind (T.cu h.ops) (Ev.ret' (by rw [e1,e2,e3,e4,e5]; rfl))
theorem T.gI:Ev (fun f=>G.gI f q) (NW q):=by
 obtain ⟨E,hb⟩:=h.body
 have hn:=h.Ap
 unfold lim at hB
 refine Ev.up ?_
 simp only [G.gI]
 unfold NW
 refine Ev.ite (fun e0 => ?_) (fun e0=>Ev.ret' (by rw [e0]; rfl))
 refine Ev.ite (fun e1 => ?_) (fun e1=>Ev.ret' (by rw [e0,e1]; rfl))
 refine Ev.bind (T.dQ _ (by unfold big; omega)) (Ev.ite (fun e2 => ?_) (fun e2=>Ev.ret' (by rw [e0,e1,e2]; rfl)))
 refine Ev.bind (T.dF (h.want.sm (by unfold lim; omega))) (Ev.ite (fun e3 => ?_) (fun e3=>Ev.ret' (by rw [e0,e1,e2,e3]; rfl)))
 refine Ev.bind (T.dF (h.avoid.sm (by unfold lim; omega))) (Ev.ite (fun e4 => ?_) (fun e4=>Ev.ret' (by rw [e0,e1,e2,e3,e4]; rfl)))
 refine Ev.bind (T.dD (by unfold lim; omega) hb) (Ev.ite (fun e5 => ?_) (fun e5=>Ev.ret' (by rw [e0,e1,e2,e3,e4,e5]; rfl)))
 exact Ev.bind (T.bK h.ops) (Ev.ret' (by rw [e0,e1,e2,e3,e4,e5]; rfl))
end
structure Po (l:List RequestT):Prop where
 len:l.length<=1000
 req:∀ q,q∈l->qo 60 q
theorem Po.at_ {l:List RequestT} (h:Po l) {i:Nat} (hi:i<l.length):qo 60 (l.getD i default):=h.req _ (getD_mem default hi)
end Go.Ab
end
section
namespace Go.Ab
open Go
set_option maxRecDepth 100000
def C9 (z:Int):aK:=if z<0 then 45::ou (-z).toNat else ou z.toNat
def rF (b:UInt8):aK:=if b=34\/b=92 then [92,b] else [b]
def uC (s:aK):aK:=34::(s.flatMap rF++[34])
def l7 (F:af->aK) (n:af) (i:Nat):aK:=((if 0<i then [44] else [])++(if n.Kind=4 then uC (n.Names.getD i default)++[58] else []))++F (n.Kids.getD i default)
def jS:Nat->af->aK
  | 0,_=>[]
  | d+1,n=>if n.Kind=1 then C9 n.Num else if n.Kind=2 then uC n.Text else if n.Kind=0 then [110,117,108,108] else
    if n.Kind=4 then ([123]++(List.range' 0 n.Kids.length).flatMap (l7 (jS d) n))++[125] else ([91]++(List.range' 0 n.Kids.length).flatMap (l7 (jS d) n))++[93]
theorem wM {d:Nat} {n:af} : jS (d+1) n=if n.Kind=1 then C9 n.Num else if n.Kind=2 then uC n.Text else if n.Kind=0 then [110,117,108,108] else
  if n.Kind=4 then ([123]++(List.range' 0 n.Kids.length).flatMap (l7 (jS d) n))++[125] else ([91]++(List.range' 0 n.Kids.length).flatMap (l7 (jS d) n))++[93]:=by rw [jS]
theorem maxL:4000000000<=maxLen:=by decide
theorem DN (s:aK):(uC s).length<=2*s.length+2:=by
  have:(s.flatMap rF).length<=2*s.length:=by
    induction s with
    | nil=>simp
    | cons b s ih =>
      rw [List.flatMap_cons,List.length_append,List.length_cons]
      have:(rF b).length<=2:=by unfold rF; split<;>simp
      omega
  unfold uC
  simp only [List.length_cons,List.length_append,List.length_nil]
  omega
theorem AX {s:aK} {i:Nat} (h:i<s.length):(s.take (i+1)).drop i=[s.getD i 0]:=by
 rw [List.take_succ_eq_append_getElem h,List.drop_append_of_le_length (by simp; omega),List.drop_of_length_le (by rw [List.length_take]; omega),List.nil_append,fE _ h]
theorem T.eU (s:aK) (hs:s.length<=1000000):Ev (fun f=>G.eU f s) (uC s):=by
  have hM:=maxL
  have L:∀ (k i:Nat) (z:aK),i+k=s.length->z.length<=2*i+1->Ev (fun f=>G.eU.L1 f s z i) (z++((s.drop i).flatMap rF++[34])):=by
    intro k
    induction k with
    | zero =>
      intro i z hi hz
      refine Ev.up ?_
      simp only [G.eU.L1]
      refine Ev.cf (decide_eq_false (by omega)) (Ev.chk (by omega) (Ev.ret' ?_))
      rw [List.drop_of_length_le (by omega)]; rfl
    | succ k ih =>
      intro i z hi hz
      have hil:i<s.length:=by omega
      have e1:=AX hil
      have two:s.getD i 0=34\/s.getD i 0=92->Ev (fun f=>G.eU.L1 f s ((z++[92])++[s.getD i 0]) ((i+1:Nat):Int)) (z++((s.drop i).flatMap rF++[34])):=fun hq=>by
        refine (ih (i+1) _ (by omega) (by simp; omega)).eq ?_
        rw [dm (0:UInt8) hil,List.flatMap_cons]
        have:rF (s.getD i 0)=[92,s.getD i 0]:=if_pos hq
        rw [this]
        simp
      have RU:∀ c:UInt8,((((s.getD i 0).toNat:Nat):Int)==((c.toNat:Nat):Int))=(s.getD i 0==c):=fun c=>by
        rw [Bool.eq_iff_iff,beq_iff_eq,beq_iff_eq]
        exact ⟨fun h=>UInt8.toNat_inj.1 (by omega),fun h=>by rw [h]⟩
      refine Ev.up ?_
      simp only [G.eU.L1,Int.toNat_natCast,dB (show i+1<9223372036854775808 by omega),e1]
      refine Ev.ct (decide_eq_true (by omega)) (Ev.chk (by omega) (Ev.ite (fun h => ?_) (fun h => ?_)))
      · have h:s.getD i 0=34:=by rw [show ((34:Int))=(((34:UInt8).toNat:Nat):Int) from rfl,RU] at h; simpa using h
        exact Ev.chk (by omega) (Ev.chk (by omega) (Ev.chk (by simp only [List.length_singleton]; omega) (two (.inl h))))
      · have h:s.getD i 0 ≠ 34:=by rw [show ((34:Int))=(((34:UInt8).toNat:Nat):Int) from rfl,RU] at h; simpa using h
        refine Ev.chk (by omega) (Ev.ite (fun h2 => ?_) (fun h2 => ?_))
        · have h2:s.getD i 0=92:=by rw [show ((92:Int))=(((92:UInt8).toNat:Nat):Int) from rfl,RU] at h2; simpa using h2
          exact Ev.chk (by omega) (Ev.chk (by omega) (Ev.chk (by simp only [List.length_singleton]; omega) (two (.inr h2))))
        · have h2:s.getD i 0 ≠ 92:=by rw [show ((92:Int))=(((92:UInt8).toNat:Nat):Int) from rfl,RU] at h2; simpa using h2
          refine Ev.chk (by omega) (Ev.chk (by simp only [List.length_singleton]; omega) ?_)
          refine (ih (i+1) _ (by omega) (by simp; omega)).eq ?_
          rw [dm (0:UInt8) hil,List.flatMap_cons]
          have:rF (s.getD i 0)=[s.getD i 0]:=if_neg (fun q=>q.elim h h2)
          rw [this]
          simp
  refine Ev.up ?_
  simp only [G.eU]
  exact (L s.length 0 [34] (by omega) (by simp)).eq (by rw [List.drop_zero]; rfl)
theorem qV:∀ {i:Nat},i<=999999->(ou i).length<=6:=by
 have step:∀ {i m:Nat},(ou (i/10)).length<=m->(ou i).length<=m+1:=fun {i m} h=>by
  rw [ou]
  split
  ·simp
  ·simp; omega
 intro i h
 have h1:(ou (i/10/10/10/10/10)).length<=1:=by rw [pU (by omega)]; simp
 exact step (step (step (step (step h1))))
theorem Lm {z:Int} (h1 : -999999<=z) (h2:z<=999999):(C9 z).length<=7:=by
 unfold C9
 split
 ·have:=qV (i:=(-z).toNat) (by omega)
  simp; omega
 ·have:=qV (i:=z.toNat) (by omega)
  omega
theorem T.J7 {z:Int} (h1 : -999999<=z) (h2:z<=999999):Ev (fun f=>G.dK f z) (C9 z):=by
 have hM:=maxL
 unfold C9
 by_cases h:z<0
 ·rw [if_pos h]
  have w:IntKind.wrap .i64 (0-z)=(((-z).toNat:Nat):Int):=wrapN (by omega) (by omega)
  have hl:=qV (i:=(-z).toNat) (by omega)
  refine Ev.up ?_
  simp only [G.dK,w]
  exact Ev.ct (decide_eq_true h) (Ev.cf (by simp only [beq_eq_false_iff_ne]; omega) (Ev.bind (T.decimal (by unfold lim; omega)) (Ev.chk (by omega) (Ev.ret' rfl))))
 ·rw [if_neg h]
  obtain ⟨k,rfl⟩:∃ k:Nat,z=k:=⟨z.toNat,by omega⟩
  rw [Int.toNat_natCast]
  exact T.decimal (by unfold lim; omega)
theorem xg {n:af} (h:Parts n=true) (hk:n.Kind=1) : -999999<=n.Num/\n.Num<=999999:=by
 unfold Parts at h
 simp [hk] at h
 omega
theorem uB {n:af} (h:Parts n=true):n.Text.length<=12:=by
 by_cases hk:n.Kind=2
 ·unfold Parts at h
  simp [hk] at h
  exact zK h.2.1
 ·unfold Parts at h
  simp only [Bool.and_eq_true,Bool.or_eq_true,beq_iff_eq] at h
  have:=h.1.1.2.resolve_left hk
  rw [this]; simp
theorem Ii {α:Type} {g:Nat->List α} {m:Nat} : ∀ (k i:Nat),(∀ j,i<=j->j<i+k->(g j).length<=m)->((List.range' i k).flatMap g).length<=k*m:=by
  intro k
  induction k with
  | zero=>intro i _; simp
  | succ k ih =>
    intro i h
    have h1:=h i (by omega) (by omega)
    have h2:=ih (i+1) (fun j h1 h2=>h j (by omega) (by omega))
    rw [List.range'_succ,List.flatMap_cons,List.length_append,Nat.add_mul]
    omega
theorem yf:∀ (d:Nat) {n:af},Shape d n=true->(jS d n).length<=200*7^d
  | 0,_,h=>by cases h
  | d+1,n,h=>by
    have hp:=jH h
    have h6:=pq h
    have Ri:1<=7^d:=Nat.one_le_pow _ _ (by omega)
    rw [wM,Nat.pow_succ]
    have hb:((List.range' 0 n.Kids.length).flatMap (l7 (jS d) n)).length<=6*(28+200*7^d):=by
      refine Nat.le_trans (Ii (m:=28+200*7^d) _ _ (fun j _ hj => ?_)) (Nat.mul_le_mul_right _ h6)
      have hj':j<n.Kids.length:=by omega
      have hk:=yf d (nS h hj')
      unfold l7
      rw [List.length_append,List.length_append]
      have a1:(if 0<j then ([44]:aK) else []).length<=1:=by split<;>simp
      have a2:(if n.Kind=4 then uC (n.Names.getD j default)++[58] else []).length<=27:=by
        split
        · rename_i h4
          obtain ⟨mn,_,hn⟩:=Dv hp h4
          have:=hn _ (getD_mem default (show j<n.Names.length by rw [<- mn.len]; exact hj'))
          have:=DN (n.Names.getD j default)
          simp only [List.length_append,List.length_singleton]
          omega
        · simp
      omega
    split
    · rename_i h1
      obtain ⟨b1,b2⟩:=xg hp h1
      have:=Lm b1 b2
      omega
    · split
      · have:=uB hp
        have:=DN n.Text
        omega
      · split
        · simp only [List.length_cons,List.length_nil]; omega
        · split
          · simp only [List.length_append,List.length_singleton]; omega
          · simp only [List.length_append,List.length_singleton]; omega
theorem T.aP:∀ (d:Nat) {n:af},d<=5->Shape d n=true->Ev (fun f=>G.aP f n) (jS d n)
  | 0,_,_,h=>by cases h
  | d+1,n,hd,h=>by
    have hM:=maxL
    have hp:=jH h
    have h6:=pq h
    have Ri:=xh hd
    rw [Nat.pow_succ] at Ri
    have L:∀ (k i:Nat) (z:aK),i+k=n.Kids.length->z.length<=i*1000000->Ev (fun f=>G.aP.L5 f n z i)
        (if n.Kind=4 then ([123]++(z++(List.range' i k).flatMap (l7 (jS d) n)))++[125] else ([91]++(z++(List.range' i k).flatMap (l7 (jS d) n)))++[93]):=by
      intro k
      induction k with
      | zero =>
        intro i z hi hz
        refine Ev.up ?_
        simp only [G.aP.L5]
        refine Ev.cf (decide_eq_false (by omega)) (Ev.ite (fun e=>Ev.chk (by omega) (Ev.chk (by omega) (Ev.ret' ?_))) (fun e=>Ev.chk (by omega) (Ev.chk (by omega) (Ev.ret' ?_))))
        · rw [if_pos (by simpa using e)]; simp
        · rw [if_neg (by simpa using e)]; simp
      | succ k ih =>
        intro i z hi hz
        have hil:i<n.Kids.length:=by omega
        have hk:=nS h hil
        have hkl:=yf d hk
        have K7:∀ z':aK,z'.length<=i*1000000+28->z'++jS d (n.Kids.getD i default)=z++l7 (jS d) n i->Ev (fun f=>G.aP.K7 f n (i:Int) z')
            (if n.Kind=4 then ([123]++(z++(List.range' i (k+1)).flatMap (l7 (jS d) n)))++[125] else ([91]++(z++(List.range' i (k+1)).flatMap (l7 (jS d) n)))++[93]):=fun z' hz' he=>by
          refine Ev.up ?_
          simp only [G.aP.K7,Int.toNat_natCast,dB (show i+1<9223372036854775808 by omega)]
          refine Ev.chk (by omega) (Ev.bind (T.aP d (by omega) hk) (Ev.chk (by omega) ?_))
          refine (ih (i+1) _ (by omega) (by rw [List.length_append]; omega)).eq ?_
          rw [List.range'_succ,List.flatMap_cons,<- List.append_assoc z,<- he]
        have K6:∀ z':aK,z'=z++(if 0<i then [44] else [])->Ev (fun f=>G.aP.K6 f n (i:Int) z')
            (if n.Kind=4 then ([123]++(z++(List.range' i (k+1)).flatMap (l7 (jS d) n)))++[125] else ([91]++(z++(List.range' i (k+1)).flatMap (l7 (jS d) n)))++[93]):=fun z' he=>by
          have hz':z'.length<=i*1000000+1:=by
            rw [he,List.length_append]
            have:(if 0<i then ([44]:aK) else []).length<=1:=by split<;>simp
            omega
          refine Ev.up ?_
          simp only [G.aP.K6,Int.toNat_natCast]
          by_cases h4:n.Kind=4
          · obtain ⟨mn,_,hn⟩:=Dv hp h4
            have hin:i<n.Names.length:=by rw [<- mn.len]; exact hil
            have h12:=hn _ (getD_mem default hin)
            have hq:=DN (n.Names.getD i default)
            refine Ev.ct (by simpa using h4) (Ev.chk (by omega) (Ev.bind (T.eU _ (by omega)) (Ev.chk (by omega) (Ev.chk (by omega) (K7 _ (by simp only [List.length_append,List.length_singleton]; omega) ?_)))))
            rw [he]
            unfold l7
            rw [if_pos h4]
            simp
          · refine Ev.cf (by simpa using h4) (K7 z' (Nat.le_trans hz' (Nat.add_le_add_left (by decide) _)) ?_)
            rw [he]
            unfold l7
            rw [if_neg h4]
            simp
        refine Ev.up ?_
        simp only [G.aP.L5]
        refine Ev.ct (decide_eq_true (by omega)) ?_
        by_cases h0:0<i
        · exact Ev.ct (decide_eq_true (by omega)) (Ev.chk (by omega) (K6 _ (by rw [if_pos h0])))
        · exact Ev.cf (decide_eq_false (by omega)) (K6 _ (by rw [if_neg h0,List.append_nil]))
    refine Ev.up ?_
    simp only [G.aP]
    rw [wM]
    refine Ev.ite (fun e => ?_) (fun e1 => ?_)
    · have e:n.Kind=1:=by simpa using e
      rw [if_pos e]
      obtain ⟨b1,b2⟩:=xg hp e
      exact Ev.bind (T.J7 b1 b2) (Ev.ret _)
    rw [if_neg (by simpa using e1)]
    refine Ev.ite (fun e => ?_) (fun e2 => ?_)
    · rw [if_pos (by simpa using e)]
      have:=uB hp
      exact Ev.bind (T.eU _ (by omega)) (Ev.ret _)
    rw [if_neg (by simpa using e2)]
    refine Ev.ite (fun e => ?_) (fun e3 => ?_)
    · rw [if_pos (by simpa using e)]
      exact Ev.ret _
    rw [if_neg (by simpa using e3)]
    exact (L n.Kids.length 0 [] (by omega) (by simp)).eq (by simp)
def Pg (s:aK):Nat:=s.foldl (fun n b=>(131*n+b.toNat)%65521) 17
def OT (k:Nat):UInt8:=hexD.getD k 0
def Qj (n:Nat):aK:=[OT (n/4096),OT (n/256%16),OT (n/16%16),OT (n%16)]
def Om (n:af):aK:=if Val n then Qj (Pg (jS 5 n)) else []
theorem T.gz (s:aK) (hs:s.length<big):Ev (fun f=>G.gz f s) ((Pg s:Nat):Int):=by
  unfold big at hs
  have L:∀ (k i m:Nat),i+k=s.length->m<65521->Ev (fun f=>G.gz.L1 f s (m:Int) i) (((s.drop i).foldl (fun n b=>(131*n+b.toNat)%65521) m:Nat):Int):=by
    intro k
    induction k with
    | zero =>
      intro i m hi _
      refine Ev.up ?_
      simp only [G.gz.L1]
      refine Ev.cf (decide_eq_false (by omega)) (Ev.ret' ?_)
      rw [List.drop_of_length_le (by omega)]; rfl
    | succ k ih =>
      intro i m hi hm
      have hb:=(s.getD i 0).toNat_lt
      refine Ev.up ?_
      simp only [G.gz.L1,Int.toNat_natCast,rY,dB (show i+1<9223372036854775808 by omega),wrapN (x:=131*(m:Int)) (m:=131*m) (by omega) (by omega)]
      rw [wrapN (x:=((131*m:Nat):Int)+(((s.getD i 0).toNat:Nat):Int)) (m:=131*m+(s.getD i 0).toNat) (by omega) (by omega),show (65521:Int)=((65521:Nat):Int) from rfl,pG]
      rw [dm (0:UInt8) (by omega:i<s.length),List.foldl_cons]
      exact Ev.ct (decide_eq_true (by omega)) (Ev.chk (by omega) (ih (i+1) _ (by omega) (Nat.mod_lt _ (by omega))))
  refine Ev.up ?_
  simp only [G.gz]
  exact L s.length 0 17 (by omega) (by omega)
theorem sum_lt (s:aK):Pg s<65521:=by
 unfold Pg
 have:∀ (s:aK) (m:Nat),m<65521->s.foldl (fun n b=>(131*n+b.toNat)%65521) m<65521:=by
  intro s
  induction s with
  | nil=>intro m hm; exact hm
  | cons b s ih=>intro m hm; exact ih _ (Nat.mod_lt _ (by omega))
 exact this s 17 (by omega)
theorem T.jT {n:Nat} (h:n<65536):Ev (fun f=>G.jT f (n:Int)) (Qj n):=by
 have hM:=maxL
 have w1:IntKind.wrap .i64 (Int.tdiv (n:Int) 4096)=((n/4096:Nat):Int):=by rw [show (4096:Int)=((4096:Nat):Int) from rfl,rQ]; exact wrapN rfl (by omega)
 have w2:IntKind.wrap .i64 (Int.tdiv (n:Int) 256)=((n/256:Nat):Int):=by rw [show (256:Int)=((256:Nat):Int) from rfl,rQ]; exact wrapN rfl (by omega)
 have w3:IntKind.wrap .i64 (Int.tdiv (n:Int) 16)=((n/16:Nat):Int):=by rw [show (16:Int)=((16:Nat):Int) from rfl,rQ]; exact wrapN rfl (by omega)
 have t2:Int.tmod ((n/256:Nat):Int) 16=((n/256%16:Nat):Int):=by rw [show (16:Int)=((16:Nat):Int) from rfl,pG]
 have t3:Int.tmod ((n/16:Nat):Int) 16=((n/16%16:Nat):Int):=by rw [show (16:Int)=((16:Nat):Int) from rfl,pG]
 have t4:Int.tmod (n:Int) 16=((n%16:Nat):Int):=by rw [show (16:Int)=((16:Nat):Int) from rfl,pG]
 refine Ev.up ?_
 simp only [G.jT,w1,w2,w3,t2,t3,t4,Int.toNat_natCast,UInt8.ofNat_toNat]
 exact Ev.chk (by omega) (Ev.chk (by omega) (Ev.chk (by omega) (Ev.chk (by omega) (Ev.chk (by omega) (Ev.ret' rfl)))))
theorem T.iR {B D:Nat} {n:af} (hB:B<=lim) (h:Fine B D n):Ev (fun f=>G.iR f n) (Om n):=by
 refine Ev.up ?_
 simp only [G.iR]
 unfold Om
 refine Ev.bind (T.aS hB h) (Ev.ite (fun e => ?_) (fun e=>Ev.ret' (by rw [e]; rfl)))
 rw [e]
 have hl:=yf 5 (kF e)
 have hp:=xh (Nat.le_refl 5)
 have:=sum_lt (jS 5 n)
 exact Ev.bind (T.aP 5 (by omega) (kF e)) (Ev.bind (T.gz _ (by unfold big; omega)) (Ev.bind (T.jT (by omega)) (Ev.ret _)))
theorem IE (n:af):(Om n).length<=4:=by
 unfold Om
 split
 ·simp [Qj]
 ·simp
theorem D.Qp {K:Nat} {r:ReaderT} {s:StoreT} (hs:oP 60 s) (hr:iO K r) (hK:K<=900000000):Dr (K+3) (fun x:aK=>x.length<=60) (fun f=>G.jk f r s):=by
 have hl:=hs.len
 have w:∀ {K':Nat} {r':ReaderT},iO K' r'->K'+2<=K+3->Dr (K+3) (fun x:aK=>x.length<=60) (fun f=>Option.bind (G.ai f r' 12) fun v=>cond (v.1==0) (Option.bind (G.gW f v.2) fun v4=>some (v4.1,v4.2)) (Option.bind (G.gm f v.2) fun v5=>some (v5.1,v5.2))):=fun hr' h=>by
  refine Tot.bind (D.pick (m:=12) hr' (by omega) rfl (by decide) (by decide)) ?_
  rintro ⟨x,r1⟩ ⟨_,hr1⟩
  refine Tot.ite (fun _ => ?_) (fun _ => ?_)
  ·refine Tot.bind (D.H9 hr1 (by omega)) ?_
   rintro ⟨b,r2⟩ ⟨hb,hr2⟩
   have hb:b.length<=12:=hb
   exact Tot.ret ⟨by show b.length<=60; omega,hr2.mono (by omega)⟩
  ·refine Tot.bind (D.zo hr1 (by omega)) ?_
   rintro ⟨b,r2⟩ ⟨hb,hr2⟩
   have:=(rE hb).2
   exact Tot.ret ⟨by show b.length<=60; simp only at this; omega,hr2.mono (by omega)⟩
 refine Tot.up ?_
 simp only [G.jk]
 refine Tot.ite (fun e => ?_) (fun _=>w hr (by omega))
 have e':0<s.Items.length:=by simp only [decide_eq_true_eq] at e; omega
 refine Tot.bind (D.pick (m:=4) hr (by omega) rfl (by decide) (by decide)) ?_
 rintro ⟨x,r1⟩ ⟨_,hr1⟩
 refine Tot.ite (fun _ => ?_) (fun _=>w hr1 (by omega))
 refine Tot.bind (D.pick (m:=s.Items.length) hr1 (by omega) rfl e' (by omega)) ?_
 rintro ⟨y,r2⟩ ⟨⟨j,rfl,hj⟩,hr2⟩
 refine Tot.chk (by omega) ?_
 simp only [Int.toNat_natCast]
 exact Tot.ret ⟨(hs.at_ hj).1,hr2.mono (by omega)⟩
def SX:bY:=bY.mk [] 0 mg
def Na:Option bY->bY × Bool
 | some it=>(it,true)
 | none=>(SX,false)
def FT (s:StoreT) (t:aK):Option bY:=if xK s then (OI s.Items t).map fun j=>s.Items.getD j default else none
theorem T.iI {B:Nat} {s:StoreT} (t:aK) (hB:B<=lim) (h:oP B s):Ev (fun f=>G.iI f s t) (Na (FT s t)):=by
  have hl:=h.len
  have hf:=T.gq (s:=s) t (Nat.le_trans hl hB)
  refine Ev.up ?_
  simp only [G.iI]
  unfold FT
  refine Ev.bind (T.aY hB h) (Ev.ite (fun e => ?_) (fun e=>Ev.ret' (by rw [e]; rfl)))
  rw [e]
  refine Ev.bind hf ?_
  cases hj:OI s.Items t with
  | none=>exact Ev.ct (by decide) (Ev.ret' rfl)
  | some j =>
    have hjl:=(EL.1 hj).1
    rw [hj] at hf
    refine Ev.cf (decide_eq_false (by simp only [qK]; omega)) (Ev.bind (T.bP hB h) (Ev.bind hf (Ev.chk (by simp only [qK]; omega) (Ev.ret' ?_))))
    simp only [qK,Int.toNat_natCast]
    rfl
theorem Jo {s:StoreT} {t:aK} {it:bY} (h:FT s t=some it):Oj s/\it∈s.Items/\it.Name=t/\Val it.Node=true:=by
 unfold FT at h
 split at h
 ·rename_i hs
  obtain ⟨j,hj,rfl⟩:=Option.map_eq_some_iff.1 h
  obtain ⟨h1,h2,_⟩:=EL.1 hj
  have:=uI.1 hs
  exact ⟨this,getD_mem default h1,h2,(this.it h1).Qq⟩
 ·cases h
theorem LJ (s:StoreT) (t:aK):Val (Na (FT s t)).1.Node=true:=by
 cases h:FT s t with
 | none=>exact uJ
 | some it=>exact (Jo h).2.2.2
theorem D.H8 {K:Nat} {r:ReaderT} {tag:aK} (ht:tag.length<=4) (hr:iO K r) (hK:K<=900000000):Dr (K+20) (jM 60) (fun f=>G.fB f r tag):=by
  have L:∀ (j K:Nat) (r:ReaderT) (z:List aK),j<=5->z.length+j<=5->iO K r->K+j+2<=990000000->(∀ s,s∈z->s.length<=60)->Dr (K+j+2) (jM 60) (fun f=>G.fB.L1 f tag (j:Int) r.b r.p z):=by
    intro j
    induction j with
    | zero =>
      intro K r z _ hz hr hK hs
      refine Tot.up ?_
      simp only [G.fB.L1]
      refine Tot.ite (fun e=>by simp at e) (fun _=>Tot.ite (fun e => ?_) (fun _=>Tot.ret ⟨⟨by show z.length<=60; omega,hs⟩,hr.mono (by omega)⟩))
      refine Tot.bind (D.pick (m:=20) hr (by omega) rfl (by decide) (by decide)) ?_
      rintro ⟨x,r1⟩ ⟨_,hr1⟩
      refine Tot.ite (fun _ => ?_) (fun _=>Tot.ret ⟨⟨by show z.length<=60; omega,hs⟩,hr1.mono (by omega)⟩)
      refine Tot.bind (D.of (m:=12) hr1 (by omega) _ (by decide) (by decide) (by decide)) ?_
      rintro ⟨y,r2⟩ ⟨hy,hr2⟩
      have hy:y.length<=12:=hy
      refine Tot.chk (by simp only [decide_eq_true_eq] at e; omega) (Tot.ret ⟨⟨by show (z.set 0 y).length<=60; rw [List.length_set]; omega,fun s hs' => ?_⟩,hr2.mono (by omega)⟩)
      rcases List.mem_or_eq_of_mem_set hs' with q | q
      · exact hs s q
      · rw [q]; omega
    | succ j ih =>
      intro K r z hj hz hr hK hs
      have w:IntKind.wrap .i64 (((j+1:Nat):Int)-1)=(j:Int):=wrapN (by omega) (by omega)
      refine Tot.up ?_
      simp only [G.fB.L1,w]
      refine Tot.ite (fun _ => ?_) (fun e=>absurd e (by simp))
      obtain ⟨x,r1,g,hx,hr1⟩:=T.of hr (by omega) [[42],[48,48,48,48],[49,50,97,98],[102,102,102,102],tag,tag] (by simp) (by simp)
      refine Tot.kZ g ?_
      have hxl:x.length<=60:=by
        simp only [List.mem_cons,List.not_mem_nil,or_false] at hx
        rcases hx with rfl | rfl | rfl | rfl | rfl | rfl<;>first | decide | omega
      refine Tot.chk (by omega) (Tot.mono (ih (K+1) r1 (z++[x]) (by omega) (by simp; omega) hr1 (by omega) (fun s hs' => ?_)) (fun y hy=>⟨hy.1,hy.2.mono (by omega)⟩))
      rcases List.mem_append.1 hs' with q | q
      · exact hs s q
      · rw [List.mem_singleton.1 q]; exact hxl
  refine Tot.up ?_
  simp only [G.fB]
  obtain ⟨x,r1,g,hx,hr1⟩:=T.one hr (by omega) [0,1,0,2,0,4,5] (by decide) (by decide)
  refine Tot.kZ g ?_
  obtain ⟨j,hj,rfl⟩:∃ j:Nat,j<=5/\x=(j:Int):=by
    simp only [List.mem_cons,List.not_mem_nil,or_false] at hx
    rcases hx with rfl | rfl | rfl | rfl | rfl | rfl | rfl
    · exact ⟨0,by omega,rfl⟩
    · exact ⟨1,by omega,rfl⟩
    · exact ⟨0,by omega,rfl⟩
    · exact ⟨2,by omega,rfl⟩
    · exact ⟨0,by omega,rfl⟩
    · exact ⟨4,by omega,rfl⟩
    · exact ⟨5,by omega,rfl⟩
  exact Tot.mono (L j (K+1) r1 [] hj (by simp; omega) hr1 (by omega) (fun s hs=>by cases hs)) (fun y hy=>⟨hy.1,hy.2.mono (by omega)⟩)
theorem o7:jM 60 []:=⟨by simp,fun s h=>by cases h⟩
abbrev Qx (x:RequestT):Prop:=qo 60 x
section
variable {K:Nat} {v1:aK × ReaderT} {v2:bY × Bool} {v3:Int × ReaderT} (h1:v1.1.length<=60) (h2:Val v2.1.Node=true)
include h1
theorem D.ji.K4 {r:ReaderT} {b:af} {w a:List aK} {z:List jr} (hw:jM 60 w) (ha:jM 60 a) (hb:lW 60 b) (hz:uP z) (hr:iO K r) (hK:K<=900000000) :
  Dr (K+1) Qx (fun f=>G.au.K4 f v1 v2 v3 w a r.b r.p b.Kind b.Num b.Text b.Names b.Kids z):=by
 have hb:lW 60 (af.mk b.Kind b.Num b.Text b.Names b.Kids):=by rw [af.eta]; exact hb
 refine Tot.up ?_
 simp only [G.au.K4]
 refine Tot.ite (fun _=>Tot.ret ⟨⟨h1,hw,ha,hb,hz⟩,hr.mono (by omega)⟩) (fun _ => ?_)
 refine Tot.bind (D.pick (m:=2) hr (by omega) rfl (by decide) (by decide)) ?_
 rintro ⟨x,r1⟩ ⟨_,hr1⟩
 exact Tot.ite (fun _=>Tot.ret ⟨⟨h1,hw,ha,hb,hz⟩,hr1.mono (by omega)⟩) (fun _=>Tot.ret ⟨⟨h1,hw,ha,hb,hz⟩,hr1.mono (by omega)⟩)
include h2
theorem D.ji.L5 {w a:List aK} (hw:jM 60 w) (ha:jM 60 a):∀ (j K:Nat) (r:ReaderT) (z:List jr),z.length+j<=3->uP z->iO K r->K+400*j+1<=500000000 ->
    Dr (K+400*j+1) Qx (fun f=>G.au.L5 f v1 v2 v3 w a (j:Int) r.b r.p z):=by
  intro j
  induction j with
  | zero =>
    intro K r z _ hz hr hK
    refine Tot.up ?_
    simp only [G.au.L5]
    exact Tot.ite (fun e=>by simp at e) (fun _=>Tot.mono (D.ji.K4 h1 (b:=mg) hw ha ⟨5,jR uJ⟩ hz hr (by omega)) (fun x hx=>⟨hx.1,hx.2.mono (by omega)⟩))
  | succ j ih =>
    intro K r z hl hz hr hK
    have w':IntKind.wrap .i64 (((j+1:Nat):Int)-1)=(j:Int):=wrapN (by omega) (by omega)
    refine Tot.up ?_
    simp only [G.au.L5,w']
    refine Tot.ite (fun _ => ?_) (fun e=>absurd e (by simp))
    refine Tot.bind (D.someOp (jR h2) hr (by omega)) ?_
    rintro ⟨o,r1⟩ ⟨ho,hr1⟩
    refine Tot.chk (by omega) (Tot.mono (ih (K+400) r1 (z++[o]) (by simp; omega) ⟨by simp; omega,fun x hx => ?_⟩ (hr1.mono (by omega)) (by omega)) (fun x hx=>⟨hx.1,hx.2.mono (by omega)⟩))
    rcases List.mem_append.1 hx with q | q
    · exact hz.2 x q
    · rw [List.mem_singleton.1 q]; exact ho
theorem D.ji.K2 {r:ReaderT} {w a:List aK} (hw:jM 60 w) (ha:jM 60 a) (hr:iO K r) (hK:K<=300000000) :
  Dr (K+3000) Qx (fun f=>G.au.K2 f v1 v2 v3 w r.b r.p a):=by
 have fin:∀ {K':Nat} {r':ReaderT} {b:af},lW 60 b->iO K' r'->K'+1<=K+3000->Dr (K+3000) Qx (fun f=>G.au.K4 f v1 v2 v3 w a r'.b r'.p b.Kind b.Num b.Text b.Names b.Kids []):=fun hb hr' h=>by
  exact Tot.mono (D.ji.K4 h1 hw ha hb (o6) hr' (by omega)) (fun x hx=>⟨hx.1,hx.2.mono (by omega)⟩)
 refine Tot.up ?_
 simp only [G.au.K2]
 refine Tot.ite (fun _ => ?_) (fun _=>Tot.ite (fun _ => ?_) (fun _=>Tot.ite (fun _ => ?_) (fun _=>fin (b:=mg) ⟨5,jR uJ⟩ hr (by omega))))
 ·refine Tot.bind (D.oh hr (by omega)) ?_
  rintro ⟨b,r1⟩ ⟨hb,hr1⟩
  exact fin ⟨5,jR hb⟩ hr1 (by omega)
 ·refine Tot.bind (D.MN h2 hr (by omega)) ?_
  rintro ⟨b,r1⟩ ⟨hb,hr1⟩
  exact fin ⟨5,jR hb⟩ hr1 (by omega)
 ·refine Tot.bind (D.pick (m:=3) hr (by omega) rfl (by decide) (by decide)) ?_
  rintro ⟨x,r1⟩ ⟨⟨j,rfl,hj⟩,hr1⟩
  exact Tot.mono (D.ji.L5 h1 h2 hw ha j (K+1) r1 [] (by simp; omega) o6 hr1 (by omega)) (fun x hx=>⟨hx.1,hx.2.mono (by omega)⟩)
theorem D.ji.K1 {r:ReaderT} {w:List aK} (hw:jM 60 w) (hr:iO K r) (hK:K<=200000000) :
  Dr (K+3100) Qx (fun f=>G.au.K1 f v1 v2 v3 r.b r.p w):=by
 refine Tot.up ?_
 simp only [G.au.K1]
 refine Tot.bind (D.pick (m:=4) hr (by omega) rfl (by decide) (by decide)) ?_
 rintro ⟨x,r1⟩ ⟨_,hr1⟩
 refine Tot.ite (fun _ => ?_) (fun _=>Tot.mono (D.ji.K2 h1 h2 hw o7 hr1 (by omega)) (fun x hx=>⟨hx.1,hx.2.mono (by omega)⟩))
 refine Tot.kZ (T.iR l9 (jR h2)) (Tot.bind (D.H8 (IE _) hr1 (by omega)) ?_)
 rintro ⟨t,r2⟩ ⟨ht,hr2⟩
 exact Tot.mono (D.ji.K2 h1 h2 hw ht hr2 (by omega)) (fun x hx=>⟨hx.1,hx.2.mono (by omega)⟩)
end
theorem D.ji {K:Nat} {r:ReaderT} {s:StoreT} (hs:oP 60 s) (hr:iO K r) (hK:K<=100000000):Dr (K+3200) Qx (fun f=>G.au f r s):=by
 refine Tot.up ?_
 simp only [G.au]
 refine Tot.bind (D.Qp hs hr (by omega)) ?_
 rintro ⟨nm,r1⟩ ⟨hnm,hr1⟩
 refine Tot.kZ (T.iI nm l9 hs) ?_
 have hv:=LJ s nm
 generalize Na (FT s nm)=v2 at hv
 refine Tot.bind (D.pick (m:=5) hr1 (by omega) rfl (by decide) (by decide)) ?_
 rintro ⟨m,r2⟩ ⟨_,hr2⟩
 refine Tot.bind (D.pick (m:=3) hr2 (by omega) rfl (by decide) (by decide)) ?_
 rintro ⟨x,r3⟩ ⟨_,hr3⟩
 refine Tot.ite (fun _ => ?_) (fun _=>Tot.mono (D.ji.K1 hnm hv o7 hr3 (by omega)) (fun x hx=>⟨hx.1,hx.2.mono (by omega)⟩))
 refine Tot.kZ (T.iR l9 (jR hv)) (Tot.bind (D.H8 (IE _) hr3 (by omega)) ?_)
 rintro ⟨t,r4⟩ ⟨ht,hr4⟩
 exact Tot.mono (D.ji.K1 hnm hv ht hr4 (by omega)) (fun x hx=>⟨hx.1,hx.2.mono (by omega)⟩)
theorem D.F5 {K:Nat} {r:ReaderT} {s:StoreT} (hs:oP 60 s) (hr:iO K r) (hK:K<=90000000):Dr (K+4000) Qx (fun f=>G.gY f r s):=by
 refine Tot.up ?_
 simp only [G.gY]
 refine Tot.bind (D.ji hs hr (by omega)) ?_
 rintro ⟨q,r1⟩ ⟨hq,hr1⟩
 have hq:qo 60 q:=hq
 refine Tot.bind (D.pick (m:=30) hr1 (by omega) rfl (by decide) (by decide)) ?_
 rintro ⟨x,r2⟩ ⟨_,hr2⟩
 refine Tot.ite (fun _ => ?_) (fun _=>Tot.ite (fun _ => ?_) (fun _=>Tot.ite (fun _ => ?_) (fun _=>Tot.ret ⟨hq,hr2.mono (by omega)⟩)))
 ·refine Tot.bind (D.one hr2 (by omega) _ (by decide) (by decide)) ?_
  rintro ⟨c,r3⟩ ⟨_,hr3⟩
  exact Tot.ret ⟨⟨hq.Ap,hq.want,hq.avoid,hq.body,hq.ops⟩,hr3.mono (by omega)⟩
 ·refine Tot.bind (D.H9 hr2 (by omega)) ?_
  rintro ⟨b,r3⟩ ⟨hb,hr3⟩
  have hb:b.length<=12:=hb
  exact Tot.ret ⟨⟨by show b.length<=60; omega,hq.want,hq.avoid,hq.body,hq.ops⟩,hr3.mono (by omega)⟩
 ·refine Tot.bind (D.BQ hr2 (by omega)) ?_
  rintro ⟨v,r3⟩ ⟨⟨E,hv⟩,hr3⟩
  exact Tot.ret ⟨⟨hq.Ap,hq.want,hq.avoid,⟨E,hv.mono (by omega) (Nat.le_refl _)⟩,hq.ops⟩,hr3.mono (by omega)⟩
end Go.Ab
end
section
namespace Go.Ab
open Go
set_option maxRecDepth 100000
theorem T.wb {b:bH} {c:Int} (hc:0<=c/\c<256) (hl:b.buf.length+1<=140737488355328):Ev (fun f=>G.ak f b c) ((),bH.mk (b.buf++[UInt8.ofNat c.toNat])):=by
 refine Ev.up ?_
 simp only [G.ak]
 exact Ev.chk ⟨hc,hl⟩ (Ev.ret _)
theorem T.ws {b:bH} {s:aK} (hl:b.buf.length+s.length<=140737488355328):Ev (fun f=>G.dI f b s) (((s.length:Nat):Int),(),bH.mk (b.buf++s)):=by
 refine Ev.up ?_
 simp only [G.dI]
 exact Ev.chk hl (Ev.ret _)
theorem T.bs' {b:bH} (hl:b.buf.length<=140737488355328):Ev (fun f=>G.dZ f b) b.buf:=by
 refine Ev.up ?_
 simp only [G.dZ]
 exact Ev.chk hl (Ev.ret _)
theorem IJ (b:UInt8):UInt8.ofNat ((b.toNat:Nat):Int).toNat=b:=by simp
theorem T.aU {s z:aK} (h:z.length+2*s.length+2<=4000000000):Ev (fun f=>G.aU f (bH.mk z) s) (bH.mk (z++uC s)):=by
  have oq:∀ (z:aK) (b:UInt8),z.length<5000000000->Ev (fun f=>G.ak f (bH.mk z) ((b.toNat:Nat):Int)) ((),bH.mk (z++[b])):=fun z b hz=>by
    have:=T.wb (b:=bH.mk z) (c:=((b.toNat:Nat):Int)) (by have:=b.toNat_lt; omega) (by show z.length+1<=_; omega)
    rwa [IJ] at this
  have L:∀ (k i:Nat) (z:aK),i+k=s.length->z.length+2*k+1<=4000000001->Ev (fun f=>G.aU.L3 f s (i:Int) z) (bH.mk (z++((s.drop i).flatMap rF++[34]))):=by
    intro k
    induction k with
    | zero =>
      intro i z hi hz
      rw [List.drop_eq_nil_of_le (by omega)]
      refine Ev.up ?_
      simp only [G.aU.L3]
      exact Ev.cf (decide_eq_false (by omega)) (Ev.bind (oq z 34 (by omega)) (Ev.ret' rfl))
    | succ k ih =>
      intro i z hi hz
      have hlt:i<s.length:=by omega
      have hd:s.drop i=s.getD i 0::s.drop (i+1):=by rw [List.drop_eq_getElem_cons hlt]; simp [List.getD,hlt]
      have hK:∀ z:aK,z.length+2*k+2<=4000000001->Ev (fun f=>G.aU.K4 f s (i:Int) z) (bH.mk (z++(s.getD i 0::((s.drop (i+1)).flatMap rF++[34])))):=fun z hz=>by
        refine Ev.up ?_
        simp only [G.aU.K4]
        rw [Int.toNat_natCast]
        refine Ev.chk (by omega) (Ev.bind (oq z (s.getD i 0) (by omega)) ?_)
        rw [dB (by omega)]
        have:=ih (i+1) (z++[s.getD i 0]) (by omega) (by simp; omega)
        simpa using this
      rw [hd]
      refine Ev.up ?_
      simp only [G.aU.L3]
      rw [Int.toNat_natCast]
      refine Ev.ct (decide_eq_true (by omega)) (Ev.chk (by omega) (Ev.ite (fun e => ?_) (fun e=>Ev.chk (by omega) (Ev.ite (fun e2 => ?_) (fun e2 => ?_)))))
      · have hb:s.getD i 0=34:=UInt8.toNat_inj.1 (by have:=beq_iff_eq.1 e; show (s.getD i 0).toNat=34; omega)
        refine Ev.bind (oq z 92 (by omega)) ?_
        have:=hK (z++[92]) (by simp; omega)
        rw [hb] at this ⊢
        simpa [rF] using this
      · have hb:s.getD i 0=92:=UInt8.toNat_inj.1 (by have:=beq_iff_eq.1 e2; show (s.getD i 0).toNat=92; omega)
        refine Ev.bind (oq z 92 (by omega)) ?_
        have:=hK (z++[92]) (by simp; omega)
        rw [hb] at this ⊢
        simpa [rF] using this
      · have:=hK z (by omega)
        have hq:rF (s.getD i 0)=[s.getD i 0]:=by
          unfold rF
          rw [if_neg]
          rintro (h | h)
          · rw [h] at e; simp at e
          · rw [h] at e2; simp at e2
        rw [List.flatMap_cons,hq]
        simpa using this
  refine Ev.up ?_
  simp only [G.aU]
  refine Ev.bind (oq z 34 (by omega)) ?_
  have:=L s.length 0 (z++[34]) (by omega) (by simp; omega)
  simpa [uC] using this
end Go.Ab
end
section
namespace Go.Ab
open Go
set_option maxRecDepth 100000
theorem Mc (z:Int):Lib.itoa z=C9 z:=by
 unfold Lib.itoa C9
 split
 ·rw [Lp (z.natAbs+1) z.natAbs (by omega),show z.natAbs=(-z).toNat from by omega]
 ·rw [Lp (z.toNat+1) z.toNat (by omega)]
theorem T.itoa {z:Int} (h : -900000000000000<=z/\z<=900000000000000):Ev (fun f=>G.strconv_Itoa f z) (C9 z):=by
 rw [<- Mc]; exact T.Itoa h
theorem GZ {n:af} (h:Parts n=true):n.Kind=0\/n.Kind=1\/n.Kind=2\/n.Kind=3\/n.Kind=4:=by
 by_cases h0:n.Kind=0\/n.Kind=1\/n.Kind=2\/n.Kind=3\/n.Kind=4
 ·exact h0
 ·simp only [not_or] at h0
  obtain ⟨a,b,c,d,e⟩:=h0
  unfold Parts at h
  rw [if_neg a,if_neg b,if_neg c,if_neg d,if_neg e] at h
  simp at h
theorem oq {z:aK} (b:UInt8) (hz:z.length<5000000000):Ev (fun f=>G.ak f (bH.mk z) ((b.toNat:Nat):Int)) ((),bH.mk (z++[b])):=by
 have:=T.wb (b:=bH.mk z) (c:=((b.toNat:Nat):Int)) (by have:=b.toNat_lt; omega) (by show z.length+1<=_; omega)
 rwa [IJ] at this
theorem EK (F:af->aK) (n:af) (i:Nat):l7 F n i=(if 0<i then [44] else [])++((if n.Kind=4 then uC (n.Names.getD i default)++[58] else [])++F (n.Kids.getD i default)):=by
 unfold l7; rw [List.append_assoc]
theorem T.aA:∀ (d:Nat) {n:af} {z:aK},Shape d n=true->z.length+(jS d n).length<=2000000000->Ev (fun f=>G.aA f (bH.mk z) n) (bH.mk (z++jS d n))
  | 0,_,_,h,_=>by cases h
  | d+1,n,z,h,hz=>by
    have hp:=jH h
    have h6:=pq h
    rw [wM] at hz ⊢
    have L3:n.Kind=3->∀ (k i:Nat) (z:aK),i+k=n.Kids.length->z.length+((List.range' i k).flatMap (l7 (jS d) n)++[93]).length<=2000000000 ->
        Ev (fun f=>G.aA.L3 f n (i:Int) z) (bH.mk (z++((List.range' i k).flatMap (l7 (jS d) n)++[93]))):=by
      intro hk3 k
      induction k with
      | zero =>
        intro i z hi hz
        refine Ev.up ?_
        simp only [G.aA.L3]
        refine Ev.cf (decide_eq_false (by omega)) (Ev.bind (oq 93 (by omega)) (Ev.ret' ?_))
        simp
      | succ k ih =>
        intro i z hi hz
        have hil:i<n.Kids.length:=by omega
        rw [List.range'_succ,List.flatMap_cons] at hz ⊢
        simp only [List.length_append] at hz
        have ez:l7 (jS d) n i=(if 0<i then [44] else [])++jS d (n.Kids.getD i default):=by rw [EK,if_neg (by omega:¬ n.Kind=4),List.nil_append]
        have hK:∀ z':aK,z'=z++(if 0<i then [44] else [])->Ev (fun f=>G.aA.K4 f n (i:Int) z') (bH.mk (z++((l7 (jS d) n i++(List.range' (i+1) k).flatMap (l7 (jS d) n))++[93]))):=fun z' he=>by
          have e2:z'++jS d (n.Kids.getD i default)=z++l7 (jS d) n i:=by rw [he,ez,List.append_assoc]
          have e3:=congrArg List.length e2
          simp only [List.length_append] at e3
          refine Ev.up ?_
          simp only [G.aA.K4,Int.toNat_natCast,dB (show i+1<9223372036854775808 by omega)]
          refine Ev.bind (T.aA d (nS h hil) (by omega)) ?_
          refine (ih (i+1) _ (by omega) (by simp only [List.length_append]; omega)).eq ?_
          rw [e2]; simp only [List.append_assoc]
        refine Ev.up ?_
        simp only [G.aA.L3]
        refine Ev.ct (decide_eq_true (by omega)) (Ev.chk (by omega) ?_)
        by_cases h0:0<i
        · exact Ev.ct (decide_eq_true (by omega)) (Ev.bind (oq 44 (by omega)) (hK _ (by rw [if_pos h0])))
        · exact Ev.cf (decide_eq_false (by omega)) (hK _ (by rw [if_neg h0,List.append_nil]))
    have L7:n.Kind=4->∀ (k i:Nat) (z:aK),i+k=n.Kids.length->z.length+((List.range' i k).flatMap (l7 (jS d) n)++[125]).length<=2000000000 ->
        Ev (fun f=>G.aA.L7 f n (i:Int) z) (bH.mk (z++((List.range' i k).flatMap (l7 (jS d) n)++[125]))):=by
      intro hk4 k
      obtain ⟨mn,_,hn⟩:=Dv hp hk4
      induction k with
      | zero =>
        intro i z hi hz
        refine Ev.up ?_
        simp only [G.aA.L7]
        refine Ev.cf (decide_eq_false (by omega)) (Ev.bind (oq 125 (by omega)) (Ev.ret' ?_))
        simp
      | succ k ih =>
        intro i z hi hz
        have hil:i<n.Kids.length:=by omega
        have hin:i<n.Names.length:=by rw [<- mn.len]; exact hil
        have h12:=hn _ (getD_mem default hin)
        rw [List.range'_succ,List.flatMap_cons] at hz ⊢
        simp only [List.length_append] at hz
        have ez:l7 (jS d) n i=(if 0<i then [44] else [])++((uC (n.Names.getD i default)++[58])++jS d (n.Kids.getD i default)):=by rw [EK,if_pos hk4]
        have hK:∀ z':aK,z'=z++(if 0<i then [44] else [])->Ev (fun f=>G.aA.K8 f n (i:Int) z') (bH.mk (z++((l7 (jS d) n i++(List.range' (i+1) k).flatMap (l7 (jS d) n))++[125]))):=fun z' he=>by
          have e2:((z'++uC (n.Names.getD i default))++[58])++jS d (n.Kids.getD i default)=z++l7 (jS d) n i:=by rw [he,ez]; simp only [List.append_assoc]
          have e3:=congrArg List.length e2
          simp only [List.length_append] at e3
          refine Ev.up ?_
          simp only [G.aA.K8,Int.toNat_natCast,dB (show i+1<9223372036854775808 by omega)]
          refine Ev.chk (by omega) (Ev.bind (T.aU (by omega)) (Ev.bind (oq 58 (by simp only [List.length_append]; omega)) ?_))
          refine Ev.bind (T.aA d (nS h hil) (by simp only [List.length_append]; omega)) ?_
          refine (ih (i+1) _ (by omega) (by simp only [List.length_append]; omega)).eq ?_
          rw [e2]; simp only [List.append_assoc]
        refine Ev.up ?_
        simp only [G.aA.L7]
        refine Ev.ct (decide_eq_true (by omega)) (Ev.chk (by omega) ?_)
        by_cases h0:0<i
        · exact Ev.ct (decide_eq_true (by omega)) (Ev.bind (oq 44 (by omega)) (hK _ (by rw [if_pos h0])))
        · exact Ev.cf (decide_eq_false (by omega)) (hK _ (by rw [if_neg h0,List.append_nil]))
    refine Ev.up ?_
    simp only [G.aA]
    rcases GZ hp with e | e | e | e | e<;>simp only [e,reduceIte,Int.reduceEq] at hz ⊢
    · exact Ev.ct rfl (Ev.bind (T.ws (by simp only [List.length_cons,List.length_nil] at hz ⊢; omega)) (Ev.ret _))
    · obtain ⟨b1,b2⟩:=xg hp e
      exact Ev.cf rfl (Ev.ct rfl (Ev.bind (T.itoa (by omega)) (Ev.bind (T.ws (by show z.length+_<=_; omega)) (Ev.ret _))))
    · have:=uB hp
      exact Ev.cf rfl (Ev.cf rfl (Ev.ct rfl (Ev.bind (T.aU (by omega)) (Ev.ret _))))
    · refine Ev.cf rfl (Ev.cf rfl (Ev.cf rfl (Ev.ct rfl (Ev.bind (oq 91 (by omega)) ?_))))
      refine (L3 e n.Kids.length 0 (z++[91]) (by omega) (by simp only [List.length_append,List.length_cons,List.length_nil] at hz ⊢; omega)).eq ?_
      simp only [List.append_assoc]
    · refine Ev.cf rfl (Ev.cf rfl (Ev.cf rfl (Ev.cf rfl (Ev.ct rfl (Ev.bind (oq 123 (by omega)) ?_)))))
      refine (L7 e n.Kids.length 0 (z++[123]) (by omega) (by simp only [List.length_append,List.length_cons,List.length_nil] at hz ⊢; omega)).eq ?_
      simp only [List.append_assoc]
theorem fmt5 {n:af} (h:Val n=true):(jS 5 n).length<=4000000:=by
 have:=yf 5 (kF h)
 have:=xh (Nat.le_refl 5)
 omega
def IU (n:af):aK:=if Val n then jS 5 n else []
theorem T.dY {B D:Nat} {n:af} (hB:B<=lim) (h:Fine B D n):Ev (fun f=>G.dY f n) (IU n):=by
 refine Ev.up ?_
 simp only [G.dY]
 unfold IU
 refine Ev.bind (T.dD hB h) (Ev.ite (fun e => ?_) (fun e=>Ev.ret' (by rw [e]; rfl)))
 have hl:=fmt5 e
 rw [e]
 exact Ev.bind (T.aA 5 (kF e) (by simp only [List.length_nil]; omega)) (Ev.bind (T.bs' (by show (_:aK).length<=_; simp only [List.nil_append]; omega)) (Ev.ret _))
end Go.Ab
end
section
namespace Go.Ab
open Go
set_option maxRecDepth 100000
theorem J9 {t:aK} (h:BL t=true):t.length=4:=by
 unfold BL at h
 simp only [Bool.and_eq_true,decide_eq_true_eq] at h
 exact h.2
theorem sU {t:aK} (h:BM t=true):t.length<=4:=by
 unfold BM at h
 simp only [Bool.or_eq_true,beq_iff_eq] at h
 rcases h with h | h
 ·rw [h]; simp
 ·rw [J9 h]; exact Nat.le_refl _
theorem pF {l:List aK} (h:qw l=true):l.length<=4/\∀ t,t∈l->BM t=true:=by
 unfold qw at h
 simp only [Bool.and_eq_true,decide_eq_true_eq,List.all_eq_true] at h
 exact ⟨h.2,h.1⟩
theorem O5 {t:aK} (h:BL t=true):uC t=34::(t++[34]):=by
  unfold BL at h
  simp only [Bool.and_eq_true,List.all_eq_true] at h
  have:∀ l:aK,(∀ b,b∈l->MV b=true)->l.flatMap rF=l:=by
    intro l
    induction l with
    | nil=>intro _; rfl
    | cons b l ih =>
      intro hb
      have h1:=hb b (List.mem_cons_self ..)
      have:rF b=[b]:=by
        unfold rF
        rw [if_neg]
        rintro (e | e)<;>(rw [e] at h1; exact absurd h1 (by decide))
      rw [List.flatMap_cons,this,ih (fun c hc=>hb c (List.mem_cons_of_mem _ hc))]
      rfl
  unfold uC
  rw [this t h.1]
def D9 (t:aK):aK:=if t=[42] then [42] else 34::(t++[34])
def FO (l:List aK) (i:Nat):aK:=(if 0<i then [44] else [])++D9 (l.getD i default)
def yz (l:List aK):aK:=if qw l then (List.range' 0 l.length).flatMap (FO l) else []
theorem D8 {l:List aK} (h:qw l=true) (i:Nat):(FO l i).length<=7:=by
 have h1:(if 0<i then ([44]:aK) else []).length<=1:=by split<;>simp
 have h2:(l.getD i default).length<=4:=by
  by_cases hi:i<l.length
  ·exact sU ((pF h).2 _ (getD_mem default hi))
  ·rw [List.getD,List.getElem?_eq_none (by omega)]; simp; decide
 have h3:(D9 (l.getD i default)).length<=6:=by
  unfold D9
  split
  ·simp
  ·simp only [List.length_cons,List.length_append,List.length_nil]; omega
 unfold FO
 rw [List.length_append]
 omega
theorem yj (l:List aK):(yz l).length<=28:=by
 unfold yz
 split
 ·rename_i h
  have:=Ii (g:=FO l) (m:=7) l.length 0 (fun j _ _=>D8 h j)
  have:=(pF h).1
  omega
 ·simp
theorem T.aQ {l:List aK} (hs:Sm l):Ev (fun f=>G.aQ f l) (yz l):=by
  refine Ev.up ?_
  simp only [G.aQ]
  unfold yz
  refine Ev.bind (T.dF hs) (Ev.ite (fun e => ?_) (fun e=>Ev.ret' (by rw [e]; rfl)))
  obtain ⟨h4,ht⟩:=pF e
  rw [e]
  have L:∀ (k i:Nat) (z:aK),i+k=l.length->z.length+7*k<=1000->Ev (fun f=>G.aQ.L3 f l i z) (z++(List.range' i k).flatMap (FO l)):=by
    intro k
    induction k with
    | zero =>
      intro i z hi hz
      refine Ev.up ?_
      simp only [G.aQ.L3]
      exact Ev.cf (decide_eq_false (by omega)) (Ev.bind (T.bs' (by show z.length<=_; omega)) (Ev.ret' (by simp)))
    | succ k ih =>
      intro i z hi hz
      have hil:i<l.length:=by omega
      have hl:=D8 e i
      have hv:=ht _ (getD_mem default hil)
      have h4:=sU hv
      have ez:FO l i=(if 0<i then [44] else [])++D9 (l.getD i default):=rfl
      have K:∀ z':aK,z'=z++(if 0<i then [44] else [])->Ev (fun f=>G.aQ.K4 f l i z') (z++(List.range' i (k+1)).flatMap (FO l)):=fun z' he=>by
        have e2:z'++D9 (l.getD i default)=z++FO l i:=by rw [he,ez,List.append_assoc]
        have e3:=congrArg List.length e2
        simp only [List.length_append] at e3
        have hn:=ih (i+1) (z'++D9 (l.getD i default)) (by omega) (by rw [e2,List.length_append]; omega)
        refine Ev.up ?_
        simp only [G.aQ.K4,Int.toNat_natCast,dB (show i+1<9223372036854775808 by omega)]
        have fin:(z'++D9 (l.getD i default))++(List.range' (i+1) k).flatMap (FO l)=z++(List.range' i (k+1)).flatMap (FO l):=by
          rw [e2,List.range'_succ,List.flatMap_cons,List.append_assoc]
        rw [<- fin]
        refine Ev.ite (fun c => ?_) (fun c => ?_)
        · have c':l.getD i default=[42]:=by simpa using c
          have:D9 (l.getD i default)=l.getD i default:=by unfold D9; rw [if_pos c',c']
          rw [this] at hn e3 ⊢
          exact Ev.bind (T.ws (by show z'.length+_<=_; omega)) hn
        · have c':¬ l.getD i default=[42]:=by simpa using c
          have hsv:BL (l.getD i default)=true:=by
            unfold BM at hv
            simp only [Bool.or_eq_true,beq_iff_eq] at hv
            exact hv.resolve_left c'
          have:D9 (l.getD i default)=uC (l.getD i default):=by unfold D9; rw [if_neg c',O5 hsv]
          rw [this] at hn e3 ⊢
          exact Ev.bind (T.aU (by omega)) hn
      refine Ev.up ?_
      simp only [G.aQ.L3]
      refine Ev.ct (decide_eq_true (by omega)) (Ev.chk (by omega) ?_)
      by_cases h0:0<i
      · exact Ev.ct (decide_eq_true (by omega)) (Ev.bind (oq 44 (by omega)) (K _ (by rw [if_pos h0])))
      · exact Ev.cf (decide_eq_false (by omega)) (K _ (by rw [if_neg h0,List.append_nil]))
  exact (L l.length 0 [] (by omega) (by simp; omega)).eq (by simp)
theorem T.aX {l:List aK} (hs:Sm l):Ev (fun f=>G.aX f l) (yz l):=by
  have hM:=maxL
  refine Ev.up ?_
  simp only [G.aX]
  unfold yz
  refine Ev.bind (T.bU hs) (Ev.ite (fun e => ?_) (fun e=>Ev.ret' (by rw [e]; rfl)))
  obtain ⟨h4,ht⟩:=pF e
  rw [e]
  have L:∀ (k i:Nat) (z:aK),i+k=l.length->z.length+7*k<=1000->Ev (fun f=>G.aX.L3 f l z i) (z++(List.range' i k).flatMap (FO l)):=by
    intro k
    induction k with
    | zero =>
      intro i z hi hz
      refine Ev.up ?_
      simp only [G.aX.L3]
      exact Ev.cf (decide_eq_false (by omega)) (Ev.ret' (by simp))
    | succ k ih =>
      intro i z hi hz
      have hil:i<l.length:=by omega
      have hl:=D8 e i
      have h4:=sU (ht _ (getD_mem default hil))
      have ez:FO l i=(if 0<i then [44] else [])++D9 (l.getD i default):=rfl
      have K:∀ z':aK,z'=z++(if 0<i then [44] else [])->Ev (fun f=>G.aX.K4 f l i z') (z++(List.range' i (k+1)).flatMap (FO l)):=fun z' he=>by
        have e2:z'++D9 (l.getD i default)=z++FO l i:=by rw [he,ez,List.append_assoc]
        have e3:=congrArg List.length e2
        simp only [List.length_append] at e3
        have hn:=ih (i+1) (z'++D9 (l.getD i default)) (by omega) (by rw [e2,List.length_append]; omega)
        refine Ev.up ?_
        simp only [G.aX.K4,Int.toNat_natCast,dB (show i+1<9223372036854775808 by omega)]
        have fin:(z'++D9 (l.getD i default))++(List.range' (i+1) k).flatMap (FO l)=z++(List.range' i (k+1)).flatMap (FO l):=by
          rw [e2,List.range'_succ,List.flatMap_cons,List.append_assoc]
        rw [<- fin]
        refine Ev.chk (by omega) (Ev.ite (fun c => ?_) (fun c => ?_))
        · have c':l.getD i default=[42]:=by simpa using c
          have:D9 (l.getD i default)=[42]:=by unfold D9; rw [if_pos c']
          rw [this] at hn e3 ⊢
          simp only [List.length_singleton] at e3
          exact Ev.chk (by omega) hn
        · have c':¬ l.getD i default=[42]:=by simpa using c
          have:D9 (l.getD i default)=34::(l.getD i default++[34]):=by unfold D9; rw [if_neg c']
          rw [this] at hn e3 ⊢
          simp only [List.length_cons,List.length_append,List.length_nil] at e3
          refine Ev.chk (by omega) (Ev.chk (by omega) (Ev.chk (by omega) (Ev.chk (by omega) ?_)))
          simpa using hn
      refine Ev.up ?_
      simp only [G.aX.L3]
      refine Ev.ct (decide_eq_true (by omega)) ?_
      by_cases h0:0<i
      · exact Ev.ct (decide_eq_true (by omega)) (Ev.chk (by omega) (K _ (by rw [if_pos h0])))
      · exact Ev.cf (decide_eq_false (by omega)) (K _ (by rw [if_neg h0,List.append_nil]))
  exact (L l.length 0 [] (by omega) (by simp; omega)).eq (by simp)
def xZ (s:aK):af:=af.mk 2 0 s [] []
def Ad (p:List aK):af:=af.mk 3 0 [] [] (p.map xZ)
def MW:List aK:=[[],[97,100,100],[114,101,109,111,118,101],[114,101,112,108,97,99,101],[109,111,118,101],[99,111,112,121],[116,101,115,116]]
def Iw:List aK:=[[102,114,111,109],[111,112],[112,97,116,104],[118,97,108,117,101]]
def Iu (o:jr):af:=af.mk 4 0 [] Iw [Ad o.From,xZ (MW.getD o.Kind.toNat default),Ad o.Path,o.Value]
theorem FH {s:aK} (h:s.length<=12):Fine 12 2 (xZ s):=⟨h,Nat.zero_le _,(fun s h=>by cases h),Nat.zero_le _,(fun h=>by cases h),(fun k h=>by cases h)⟩
theorem Fp {p:List aK} (h:PP p=true):Fine 12 3 (Ad p):=by
 have hp:=vK h
 refine ⟨by simp [Ad],by simp [Ad],(fun s h=>by cases h),?_,(fun h=>by cases h),fun k hk => ?_⟩
 ·show (p.map xZ).length<=12
  rw [List.length_map]; exact hp.1
 ·obtain ⟨s,hs,rfl⟩:=List.mem_map.1 (show k∈p.map xZ from hk)
  exact FH (hp.2 s hs)
theorem Iy {o:jr} (h:H6 o):o.Kind=1\/o.Kind=2\/o.Kind=3\/o.Kind=4\/o.Kind=5\/o.Kind=6:=by
 have:=h.k1; have:=h.k6; omega
theorem EZ {o:jr} (h:IV o=true):Fine 12 6 (Iu o):=by
 have hf:=xe h
 refine ⟨by simp [Iu],by simp [Iu,Iw],?_,by simp [Iu],fun _=>by simp [Iu,Iw],fun k hk => ?_⟩
 ·intro s hs
  simp [Iu,Iw] at hs
  rcases hs with rfl | rfl | rfl | rfl<;>simp
 ·have hk:k∈[Ad o.From,xZ (MW.getD o.Kind.toNat default),Ad o.Path,o.Value]:=hk
  simp only [List.mem_cons,List.not_mem_nil,or_false] at hk
  rcases hk with rfl | rfl | rfl | rfl
  ·exact (Fp hf.from_).mono (Nat.le_refl _) (by decide)
  ·refine (FH ?_).mono (Nat.le_refl _) (by decide)
   rcases Iy hf with e | e | e | e | e | e<;>rw [e]<;>decide
  ·exact (Fp hf.path).mono (Nat.le_refl _) (by decide)
  ·exact kN hf.val
theorem T.RG {p:List aK} (h:p.length<=1000):Ev (fun f=>G.dJ f p) (Ad p):=by
  have L:∀ (k i:Nat) (z:List af),i+k=p.length->z.length<=i->Ev (fun f=>G.dJ.L1 f p i z) (af.mk 3 0 [] [] (z++(p.drop i).map xZ)):=by
    intro k
    induction k with
    | zero =>
      intro i z hi hz
      refine Ev.up ?_
      simp only [G.dJ.L1]
      exact Ev.cf (decide_eq_false (by omega)) (Ev.ret' (by rw [List.drop_of_length_le (by omega)]; simp))
    | succ k ih =>
      intro i z hi hz
      have hn:=ih (i+1) (z++[xZ (p.getD i default)]) (by omega) (by simp; omega)
      refine Ev.up ?_
      simp only [G.dJ.L1,Int.toNat_natCast,dB (show i+1<9223372036854775808 by omega)]
      refine Ev.ct (decide_eq_true (by omega)) (Ev.chk (by omega) (Ev.chk (by omega) (hn.eq ?_)))
      rw [dm default (by omega:i<p.length),List.append_assoc]; rfl
  refine Ev.up ?_
  simp only [G.dJ]
  exact (L p.length 0 [] (by omega) (by simp)).eq (by simp [Ad])
theorem T.RH {p:List aK} (h:p.length<=1000):Ev (fun f=>G.gB f p) (Ad p):=by
  have W:∀ s:aK,Ev (fun f=>G.jq f s) (xZ s):=fun s=>by
    refine Ev.up ?_
    simp only [G.jq]
    exact Ev.ret _
  have L:∀ (k i:Nat) (z:List af),i+k=p.length->z.length<=i->Ev (fun f=>G.gB.L1 f p i z) (af.mk 3 0 [] [] (z++(p.drop i).map xZ)):=by
    intro k
    induction k with
    | zero =>
      intro i z hi hz
      refine Ev.up ?_
      simp only [G.gB.L1]
      exact Ev.cf (decide_eq_false (by omega)) (Ev.ret' (by rw [List.drop_of_length_le (by omega)]; simp))
    | succ k ih =>
      intro i z hi hz
      have hn:=ih (i+1) (z++[xZ (p.getD i default)]) (by omega) (by simp; omega)
      refine Ev.up ?_
      simp only [G.gB.L1,Int.toNat_natCast,dB (show i+1<9223372036854775808 by omega)]
      refine Ev.ct (decide_eq_true (by omega)) (Ev.chk (by omega) (Ev.bind (W _) (Ev.chk (by omega) (hn.eq ?_))))
      rw [dm default (by omega:i<p.length),List.append_assoc]; rfl
  refine Ev.up ?_
  simp only [G.gB]
  exact (L p.length 0 [] (by omega) (by simp)).eq (by simp [Ad])
theorem T.iy {o:jr} (h:IV o=true):Ev (fun f=>G.iy f o) (Iu o):=by
 have hf:=xe h
 have h1:=(vK hf.from_).1
 have h2:=(vK hf.path).1
 have k1:=hf.k1
 have k6:=hf.k6
 refine Ev.up ?_
 simp only [G.iy]
 refine Ev.bind (T.RH (by omega)) (Ev.bind (a:=MW) (Ev.up ?_) (Ev.chk (by show 0<=o.Kind/\o.Kind<((7:Nat):Int); omega) (Ev.bind (a:=xZ (MW.getD o.Kind.toNat default)) (Ev.up ?_) (Ev.bind (T.RH (by omega)) (Ev.bind (T.ax zC (kN hf.val)) (Ev.ret _))))))
 ·simp only [G.jd]; exact Ev.ret _
 ·simp only [G.jq]; exact Ev.ret _
theorem T.ig {o:jr} (hfo:∃ D,A8 60 D o):Ev (fun f=>G.ig f o) (kQ (if IV o then (some (Iu o)).filter Val else none)):=by
 obtain ⟨D,hD⟩:=hfo
 refine Ev.up ?_
 simp only [G.ig]
 refine Ev.bind (T.iV l9 hD) (Ev.ite (fun e => ?_) (fun e=>Ev.ret' (by rw [e]; rfl)))
 have hf:=xe e
 have h1:=(vK hf.from_).1
 have h2:=(vK hf.path).1
 have hw:Ev (fun f=>G.jf f o.Kind) (MW.getD o.Kind.toNat default):=by
  refine Ev.up ?_
  simp only [G.jf]
  rcases Iy hf with e | e | e | e | e | e<;>rw [e]<;>exact Sz
 have gc:=T.iH (o:=some (Iu o)) zC (fun m hm=>by cases hm; exact EZ e)
 rw [e]
 exact Ev.bind (T.RG (by omega)) (Ev.bind hw (Ev.bind (T.RG (by omega)) (Ev.bind (T.bz zC (kN hf.val)) (Ev.bind gc (Ev.ret _)))))
end Go.Ab
end
section
namespace Go.Ab
open Go
set_option maxRecDepth 100000
def Qs (o:jr):aK:=jS 5 (Iu o)++[59]
def okO (l:List jr):Bool:=l.all fun o=>Val (Iu o)
def opsT (l:List jr):aK:=l.flatMap Qs
theorem O3 {o:jr} (h:Val (Iu o)=true):(Qs o).length<=4000001:=by
 unfold Qs
 have:=fmt5 h
 rw [List.length_append,List.length_singleton]; omega
theorem Nb {l:List jr} (h:Ef l=true):l.length<=12/\∀ o,o∈l->IV o=true:=by
 unfold Ef at h
 simp only [Bool.and_eq_true,decide_eq_true_eq,List.all_eq_true] at h
 exact ⟨h.2,h.1⟩
theorem T.dG {l:List jr} (hl:uP l) (h:Ef l=true):Ev (fun f=>G.dG f l) (if okO l then (opsT l,true) else ([],false)):=by
  obtain ⟨h12,hv⟩:=Nb h
  have L:∀ (k i:Nat) (z:aK),i+k=l.length->z.length+4000001*k<=60000000->Ev (fun f=>G.dG.L1 f l i z) (if okO (l.drop i) then (z++opsT (l.drop i),true) else ([],false)):=by
    intro k
    induction k with
    | zero =>
      intro i z hi hz
      refine Ev.up ?_
      simp only [G.dG.L1]
      rw [List.drop_of_length_le (by omega)]
      exact Ev.cf (decide_eq_false (by omega)) (Ev.bind (T.bs' (by show z.length<=_; omega)) (Ev.ret' (by simp [okO,opsT])))
    | succ k ih =>
      intro i z hi hz
      have hil:i<l.length:=by omega
      have hm:=getD_mem default hil
      have hov:=hv _ hm
      have hO:=T.ig (o:=l.getD i default) (hl.2 _ hm)
      rw [hov] at hO
      rw [dm default hil]
      refine Ev.up ?_
      simp only [G.dG.L1,Int.toNat_natCast,jr.eta,dB (show i+1<9223372036854775808 by omega)]
      refine Ev.ct (decide_eq_true (by omega)) (Ev.chk (by omega) (Ev.bind hO ?_))
      cases hn:Val (Iu (l.getD i default)) with
      | false =>
        have e:okO (l.getD i default::l.drop (i+1))=false:=by unfold okO; rw [List.all_cons,hn]; rfl
        rw [e]
        simp only [Option.filter,hn,if_true,if_false,Bool.false_eq_true]
        exact Ev.cf rfl (Ev.ret _)
      | true =>
        have e:okO (l.getD i default::l.drop (i+1))=okO (l.drop (i+1)):=by unfold okO; rw [List.all_cons,hn]; rfl
        have hf:=fmt5 hn
        rw [e]
        simp only [Option.filter,hn,if_true,kQ]
        refine Ev.ct rfl (Ev.bind (T.aA 5 (kF hn) (by omega)) (Ev.bind (oq 59 (by rw [List.length_append]; omega)) ?_))
        refine (ih (i+1) _ (by omega) (by rw [List.length_append,List.length_append,List.length_singleton]; omega)).eq ?_
        have:opsT (l.getD i default::l.drop (i+1))=Qs (l.getD i default)++opsT (l.drop (i+1)):=by unfold opsT; rw [List.flatMap_cons]
        rw [this]
        unfold Qs
        simp only [List.append_assoc]
  refine Ev.up ?_
  simp only [G.dG]
  exact (L l.length 0 [] (by omega) (by simp; omega)).eq (by rw [List.drop_zero,List.nil_append])
def Hr:List aK:=[[],[103,101,116],[112,117,116],[100,101,108,101,116,101],[112,97,116,99,104],[109,101,114,103,101]]
def OQ (q:RequestT):aK:=Hr.getD q.Method.toNat default++[32]++q.Name++[32]++yz q.Want++[32]++yz q.ja++[32]
def rU (q:RequestT):aK:=OQ q++(if q.Method=4 then opsT q.Ops else jS 5 q.Body)
def lean (q:RequestT):Bool:=(q.Body.Kind==0||q.Method==2||q.Method==5)&&(q.Ops.isEmpty||q.Method==4)
def tX (q:RequestT):aK:=if NW q&&(lean q&&okO q.Ops) then rU q else []
structure RY (q:RequestT):Prop where
 lo:1<=q.Method
 hi:q.Method<=5
 Ap:FU q.Name=true
 want:qw q.Want=true
 avoid:qw q.ja=true
 body:Val q.Body=true
 ops:Ef q.Ops=true
theorem RX {q:RequestT} (h:NW q=true):RY q:=by
 unfold NW at h
 simp only [Bool.and_eq_true,decide_eq_true_eq] at h
 obtain ⟨⟨a,b⟩,c,d,e,f,g⟩:=h
 exact ⟨a,b,c,d,e,f,g⟩
theorem meth {q:RequestT} (h:RY q):q.Method=1\/q.Method=2\/q.Method=3\/q.Method=4\/q.Method=5:=by
 have:=h.lo; have:=h.hi; omega
theorem IK {q:RequestT} (h:RY q):(Hr.getD q.Method.toNat default).length<=6:=by
 rcases meth h with e | e | e | e | e<;>rw [e]<;>decide
theorem vT {l:List aK} (h:qw l=true):Sm l:=by
 obtain ⟨h1,h2⟩:=pF h
 refine ⟨by unfold big; omega,fun t ht => ?_⟩
 have:=sU (h2 t ht)
 unfold big; omega
theorem O4 {l:List jr} (h:okO l=true):(opsT l).length<=l.length*4000001:=by
  unfold okO at h
  induction l with
  | nil=>simp [opsT]
  | cons o l ih =>
    rw [List.all_cons,Bool.and_eq_true] at h
    have h1:=O3 h.1
    have h2:=ih h.2
    unfold opsT at *
    rw [List.flatMap_cons,List.length_append,List.length_cons,Nat.add_mul]
    omega
theorem Rx (a b c d e:aK):Lib.join [a,b,c,d,e] [32]=a++[32]++b++[32]++c++[32]++d++[32]++e:=by
 simp [Lib.join,List.intercalate,List.intersperse,List.flatten]
section
variable {q:RequestT} (hq:qo 60 q)
include hq
theorem T.ah:Ev (fun f=>G.ah f q) (tX q):=by
  refine Ev.up ?_
  simp only [G.ah]
  unfold tX
  refine Ev.bind (T.gI l9 hq) (Ev.ite (fun e => ?_) (fun e=>Ev.ret' (by rw [e]; rfl)))
  have hr:=RX e
  obtain ⟨D,hD⟩:=hq.body
  have hF:=T.dY l9 hD
  have eF:IU q.Body=jS 5 q.Body:=by unfold IU; rw [if_pos hr.body]
  rw [eF] at hF
  have h5:=fmt5 hr.body
  have hn:=(rE hr.Ap).2
  have hv:=IK hr
  have t1:=yj q.Want
  have t2:=yj q.ja
  have hm:Ev (fun f=>G.gG f q.Method) (Hr.getD q.Method.toNat default):=by
    refine Ev.up ?_
    simp only [G.gG]
    rcases meth hr with e | e | e | e | e<;>rw [e]<;>exact Sz
  have hT1:=T.aQ (vT hr.want)
  have hT2:=T.aQ (vT hr.avoid)
  have hJ:∀ c:aK,c.length<=60000000->Ev (fun f=>G.strings_Join f [Hr.getD q.Method.toNat default,q.Name,yz q.Want,yz q.ja,c] [32]) (OQ q++c):=fun c hc=>by
    refine Ev.up ?_
    simp only [G.strings_Join]
    rw [Rx]
    refine Ev.chk ⟨by simp,?_⟩ (Ev.ret' rfl)
    simp only [List.length_append,List.length_singleton]
    omega
  have K2:∀ c:aK,c.length<=60000000->Ev (fun f=>G.ah.K2 f q c) (OQ q++c)/\Ev (fun f=>G.ah.K4 f q c) (OQ q++c):=fun c hc=>by
    constructor<;>refine Ev.up ?_
    · simp only [G.ah.K2]
      exact Ev.bind hm (Ev.bind hT1 (Ev.bind hT2 (Ev.bind (hJ c hc) (Ev.ret _))))
    · simp only [G.ah.K4]
      exact Ev.bind hm (Ev.bind hT1 (Ev.bind hT2 (Ev.bind (hJ c hc) (Ev.ret _))))
  have hO:=T.dG hq.ops hr.ops
  have hol:=(Nb hr.ops).1
  have K1:(q.Ops.isEmpty||q.Method==4)=true->Ev (fun f=>G.ah.K1 f q) (if okO q.Ops then rU q else [])/\Ev (fun f=>G.ah.K3 f q) (if okO q.Ops then rU q else []):=fun hc=>by
    unfold rU
    by_cases c4:q.Method=4
    · rw [if_pos c4]
      cases ho:okO q.Ops with
      | true =>
        rw [ho] at hO
        have:=O4 ho
        have hlen:(opsT q.Ops).length<=60000000:=by
          have:q.Ops.length*4000001<=12*4000001:=Nat.mul_le_mul_right _ hol
          omega
        constructor<;>refine Ev.up ?_
        · simp only [G.ah.K1]
          exact Ev.bind hF (Ev.ct (by simpa using c4) (Ev.bind hO (Ev.ct rfl (K2 _ hlen).1)))
        · simp only [G.ah.K3]
          exact Ev.bind hF (Ev.ct (by simpa using c4) (Ev.bind hO (Ev.ct rfl (K2 _ hlen).2)))
      | false =>
        rw [ho] at hO
        constructor<;>refine Ev.up ?_
        · simp only [G.ah.K1]
          exact Ev.bind hF (Ev.ct (by simpa using c4) (Ev.bind hO (Ev.cf rfl (Ev.ret _))))
        · simp only [G.ah.K3]
          exact Ev.bind hF (Ev.ct (by simpa using c4) (Ev.bind hO (Ev.cf rfl (Ev.ret _))))
    · rw [if_neg c4]
      have he:q.Ops=[]:=by
        have:q.Ops.isEmpty=true:=by simpa [c4] using hc
        simpa using this
      have ho:okO q.Ops=true:=by rw [he]; rfl
      rw [ho]
      constructor<;>refine Ev.up ?_
      · simp only [G.ah.K1]
        exact Ev.bind hF (Ev.cf (by simpa using c4) (K2 _ (by omega)).1)
      · simp only [G.ah.K3]
        exact Ev.bind hF (Ev.cf (by simpa using c4) (K2 _ (by omega)).2)
  have eo:decide ((0:Int)<((q.Ops.length:Nat):Int)) = !q.Ops.isEmpty:=by cases q.Ops<;>simp
  rw [e]
  unfold lean
  simp only [eo]
  have fin:∀ b:Bool,(b&&(q.Ops.isEmpty||q.Method==4))=true->((if (true&&((b&&(q.Ops.isEmpty||q.Method==4))&&okO q.Ops))=true then rU q else [])=if okO q.Ops then rU q else []):=fun b hb=>by rw [hb]; simp
  have g:∀ (b:Bool) (g:Nat->Option aK),b=true->((q.Ops.isEmpty||q.Method==4)=true->Ev g (if okO q.Ops then rU q else [])) ->
      Ev (fun f=>cond (q.Method != 4) (cond (!q.Ops.isEmpty) (some []) (g f)) (g f)) (if (true&&((b&&(q.Ops.isEmpty||q.Method==4))&&okO q.Ops))=true then rU q else []):=fun b g hb hg=>by
    subst hb
    refine Ev.ite (fun c4=>Ev.ite (fun co=>Ev.ret' ?_) (fun co => ?_)) (fun c4 => ?_)
    · have h1:q.Ops.isEmpty=false:=by simpa using co
      have h2:(q.Method==4)=false:=by simpa using c4
      rw [h1,h2]; rfl
    · have h1:q.Ops.isEmpty=true:=by simpa using co
      have h2:(q.Ops.isEmpty||q.Method==4)=true:=by rw [h1]; rfl
      rw [fin true (by rw [h2]; rfl)]
      exact hg h2
    · have h1:(q.Method==4)=true:=by simpa using c4
      have h2:(q.Ops.isEmpty||q.Method==4)=true:=by rw [h1]; simp
      rw [fin true (by rw [h2]; rfl)]
      exact hg h2
  refine Ev.ite (fun c2=>g _ _ (by rw [c2]; simp) (fun h=>(K1 h).1)) (fun c2=>Ev.ite (fun c5=>g _ _ (by rw [c5]; simp) (fun h=>(K1 h).2)) (fun c5=>Ev.ite (fun c0=>Ev.ret' ?_) (fun c0 => ?_)))
  · have h0:(q.Body.Kind==0)=false:=by simpa using c0
    rw [h0,c2,c5]; rfl
  · have h0:(q.Body.Kind==0)=true:=by simpa using c0
    exact g _ _ (by rw [h0]; rfl) (fun h=>(K1 h).2)
theorem T.ay:Ev (fun f=>G.ay f q) (tX q):=by
  have hM:=maxL
  refine Ev.up ?_
  simp only [G.ay]
  unfold tX
  refine Ev.bind (T.fC l9 hq) (Ev.ite (fun e => ?_) (fun e=>Ev.ret' (by rw [e]; rfl)))
  have hr:=RX e
  have h5:=fmt5 hr.body
  have hn:=(rE hr.Ap).2
  have hv:=IK hr
  have t1:=yj q.Want
  have t2:=yj q.ja
  obtain ⟨h12,hov⟩:=Nb hr.ops
  have hT1:=T.aX (vT hr.want)
  have hT2:=T.aX (vT hr.avoid)
  have lo:=hr.lo
  have hi:=hr.hi
  have hd:(OQ q).length<=100:=by
    unfold OQ
    simp only [List.length_append,List.length_singleton]
    omega
  have L1:okO q.Ops=true->∀ (k i:Nat) (z:aK),i+k=q.Ops.length->z.length+4000001*k<=60000000->Ev (fun f=>G.bV.L1 f q z i) (z++opsT (q.Ops.drop i)):=by
    intro ho k
    induction k with
    | zero =>
      intro i z hi hz
      refine Ev.up ?_
      simp only [G.bV.L1]
      rw [List.drop_of_length_le (by omega)]
      exact Ev.cf (decide_eq_false (by omega)) (Ev.ret' (by simp [opsT]))
    | succ k ih =>
      intro i z hi hz
      have hil:i<q.Ops.length:=by omega
      have hm:=getD_mem default hil
      have hn:Val (Iu (q.Ops.getD i default))=true:=by
        unfold okO at ho
        exact List.all_eq_true.1 ho _ hm
      have hf:=fmt5 hn
      rw [dm default hil]
      refine Ev.up ?_
      simp only [G.bV.L1,Int.toNat_natCast,jr.eta,dB (show i+1<9223372036854775808 by omega)]
      refine Ev.ct (decide_eq_true (by omega)) (Ev.chk (by omega) (Ev.bind (T.iy (hov _ hm)) (Ev.bind (T.aP 5 (by omega) (kF hn)) (Ev.chk (by omega) (Ev.chk (by omega) ?_)))))
      refine (ih (i+1) _ (by omega) (by rw [List.length_append,List.length_append,List.length_singleton]; omega)).eq ?_
      have:opsT (q.Ops.getD i default::q.Ops.drop (i+1))=Qs (q.Ops.getD i default)++opsT (q.Ops.drop (i+1)):=by unfold opsT; rw [List.flatMap_cons]
      rw [this]
      unfold Qs
      simp only [List.append_assoc]
  have F:okO q.Ops=true->Ev (fun f=>G.bV f q) (rU q):=fun ho=>by
    refine Ev.up ?_
    simp only [G.bV]
    have hmn:((q.Method.toNat:Nat):Int)=q.Method:=by omega
    refine Ev.bind (a:=Hr) (Ev.up ?_) (Ev.chk (by show 0<=q.Method/\q.Method<((6:Nat):Int); omega) (Ev.chk (by omega) (Ev.chk (by omega) (Ev.chk (by omega) (Ev.bind hT1 (Ev.chk (by omega) (Ev.chk (by omega) (Ev.bind hT2 (Ev.chk (by omega) (Ev.chk (by omega) (Ev.ite (fun c4 => ?_) (fun c4 => ?_))))))))))))
    · simp only [G.jJ]; exact Ev.ret _
    · unfold rU
      rw [if_pos (by simpa using c4)]
      have:=Nat.mul_le_mul_right 4000001 h12
      exact (L1 ho q.Ops.length 0 (OQ q) (by omega) (by omega)).eq (by rw [List.drop_zero])
    · unfold rU
      rw [if_neg (by simpa using c4)]
      exact Ev.bind (T.aP 5 (by omega) (kF hr.body)) (Ev.chk (by omega) (Ev.ret' rfl))
  have L2:∀ (k i:Nat),i+k=q.Ops.length->okO q.Ops=okO (q.Ops.drop i)->Ev (fun f=>G.ay.L2 f q i) (if okO q.Ops then rU q else []):=by
    intro k
    induction k with
    | zero =>
      intro i hi ho
      rw [List.drop_of_length_le (by omega)] at ho
      have ho:okO q.Ops=true:=ho
      refine Ev.up ?_
      simp only [G.ay.L2]
      rw [ho]
      exact Ev.cf (decide_eq_false (by omega)) (Ev.bind (F ho) (Ev.ret _))
    | succ k ih =>
      intro i hi ho
      have hil:i<q.Ops.length:=by omega
      have hm:=getD_mem default hil
      rw [dm default hil] at ho
      refine Ev.up ?_
      simp only [G.ay.L2,Int.toNat_natCast,jr.eta,dB (show i+1<9223372036854775808 by omega)]
      refine Ev.ct (decide_eq_true (by omega)) (Ev.chk (by omega) (Ev.bind (T.iy (hov _ hm)) (Ev.bind (T.aS zC (EZ (hov _ hm))) (Ev.ite (fun hn => ?_) (fun hn=>Ev.ret' ?_)))))
      · refine ih (i+1) (by omega) ?_
        rw [ho]; unfold okO; rw [List.all_cons,hn]; rfl
      · have:okO q.Ops=false:=by rw [ho]; unfold okO; rw [List.all_cons,hn]; rfl
        rw [this]; rfl
  have K1:Ev (fun f=>G.ay.K1 f q) (if okO q.Ops then rU q else []):=by
    refine Ev.up ?_
    simp only [G.ay.K1]
    exact L2 q.Ops.length 0 (by omega) (by rw [List.drop_zero])
  have eo:decide ((0:Int)<((q.Ops.length:Nat):Int)) = !q.Ops.isEmpty:=by cases q.Ops<;>simp
  have e2:(q.Method != 2) = !(q.Method==2):=rfl
  have e5:(q.Method != 5) = !(q.Method==5):=rfl
  have e4:(q.Method != 4) = !(q.Method==4):=rfl
  have e0:(q.Body.Kind != 0) = !(q.Body.Kind==0):=rfl
  rw [e]
  unfold lean
  simp only [eo,e2,e5,e4,e0]
  clear L1 F L2 eo e2 e5 e4 e0
  generalize (q.Body.Kind==0)=b0
  generalize (q.Method==2)=b2
  generalize (q.Method==5)=b5
  generalize (q.Method==4)=b4
  generalize q.Ops.isEmpty=bo
  cases b0<;>cases b2<;>cases b5<;>cases b4<;>cases bo<;>exact Sz
end
end Go.Ab
end
section
namespace Go.Ab
open Go
set_option maxRecDepth 100000
theorem ReaderT.eta' (r:ReaderT):ReaderT.mk r.b r.p=r:=rfl
theorem D.Fq {r:ReaderT} (hr:iO 0 r):Dr 20000 (qo 60) (fun f=>G.di f r):=by
 refine Tot.up ?_
 simp only [G.di]
 refine Tot.bind (D.nT hr (by omega)) ?_
 rintro ⟨s,r1⟩ ⟨hs,hr1⟩
 have hs:xK s=true:=hs
 refine Tot.bind (D.F5 (uI.1 hs).fine hr1 (by omega)) ?_
 rintro ⟨q,r2⟩ ⟨hq,hr2⟩
 have hq:qo 60 q:=hq
 have K:∀ (n:af) (r:ReaderT) (K:Nat),lW 60 n->iO K r->K<=19000->Dr 20000 (qo 60) (fun f=>G.di.K1 f (q,r2) r.b r.p n.Kind n.Num n.Text n.Names n.Kids):=fun n r K hn hr hK=>by
  refine Tot.up ?_
  simp only [G.di.K1,ReaderT.eta',af.eta]
  refine Tot.ite (fun _ => ?_) (fun _=>Tot.ret ⟨⟨hq.Ap,hq.want,hq.avoid,hn,hq.ops⟩,hr.mono (by omega)⟩)
  refine Tot.bind (D.pick (m:=8) hr (by omega) rfl (by decide) (by decide)) ?_
  rintro ⟨x,r3⟩ ⟨_,hr3⟩
  exact Tot.ite (fun _=>Tot.ret ⟨⟨hq.Ap,hq.want,hq.avoid,hn,o6⟩,hr3.mono (by omega)⟩) (fun _=>Tot.ret ⟨⟨hq.Ap,hq.want,hq.avoid,hn,hq.ops⟩,hr3.mono (by omega)⟩)
 have hr2:iO (0+9000+4000) r2:=hr2
 refine Tot.ite (fun _=>Tot.ite (fun _ => ?_) (fun _=>K q.Body r2 _ hq.body hr2 (by omega))) (fun _=>K q.Body r2 _ hq.body hr2 (by omega))
 refine Tot.bind (D.pick (m:=8) hr2 (by omega) rfl (by decide) (by decide)) ?_
 rintro ⟨x,r3⟩ ⟨_,hr3⟩
 exact Tot.ite (fun _=>K mg r3 _ ⟨5,jR uJ⟩ hr3 (by omega)) (fun _=>K q.Body r3 _ hq.body hr3 (by omega))
theorem D.oG {c:List Int} (hc:Bytes c) (hl:c.length<=1048576):Tot (qo 60) (fun f=>G.dH f c):=by
 refine Tot.up ?_
 simp only [G.dH]
 refine Tot.bind (D.JJ hc hl) (fun r hr=>Tot.bind (D.Fq hr) ?_)
 rintro ⟨q,r2⟩ ⟨hq,_⟩
 exact Tot.ret hq
theorem NF {q:RequestT} (h:tX q ≠ []):NW q=true/\tX q=rU q:=by
 unfold tX at h ⊢
 split
 ·rename_i c
  simp only [Bool.and_eq_true] at c
  exact ⟨c.1,rfl⟩
 ·rename_i c
  rw [if_neg c] at h; exact absurd rfl h
theorem IG:yz []=[]:=rfl
end Go.Ab
end
section
namespace Go.Ab
open Go
set_option maxRecDepth 100000
set_option maxHeartbeats 4000000
set_option linter.unusedVariables false
set_option linter.unusedSimpArgs false
theorem F.aT {n:Nat} : ∀ {aF r},G.aT n aF=some r->dA pZ 93 [.one (wS aF)] (.one (.c (.lit (.bool r)))):=by
 intro aF r h
 refine aW K.aT (jB ?_)
 unfold C.aT
 rcases n with _ | n<;>simp only [G.aT,reduceCtorEq] at h
 have z:=pp () <| pp () <| pp (pp (@jA (Int) _ (fun n x=>G.aT.L1 n aF x) r (fun x=>bF.of [eS 0 aF,eI 3 x] [])) ()) <| pp () <| pp (pp (And.intro @G.aT.L1.eq_1 <| @G.aT.L1.eq_2) ()) <| pp (pp (@bn [] [] []) ()) <| ()
 exact jF
theorem F.dw {n:Nat} : ∀ {jb r},G.dw n jb=some r->dA pZ 94 [.one (wT jb)] (.one (.c (.lit (.bool r)))):=by
 intro jb r h
 refine aW K.dw (jB ?_)
 unfold C.dw
 rcases n with _ | n<;>simp only [G.dw,reduceCtorEq] at h
 have z:=pp (pp @F.aT ()) <| pp () <| pp (pp (@jA (Int) _ (fun n x=>G.dw.L1 n jb x) r (fun x=>bF.of [eT 0 jb,eT 8 jb,eI 9 ((jb.length:Nat):Int),eI 10 x] [])) ()) <| pp () <| pp (pp (And.intro @G.dw.L1.eq_1 <| @G.dw.L1.eq_2) ()) <| pp (pp (@bn [] [] []) ()) <| ()
 exact jF
theorem F.aV {n:Nat} : ∀ {ag r},G.aV n ag=some r->dA pZ 73 [.agg (wN ag)] (.one (.c (.lit (.bool r)))):=by
 intro ag r h
 refine aW K.aV (jB ?_)
 unfold C.aV
 rcases n with _ | n<;>simp only [G.aV,reduceCtorEq] at h
 have z:=pp (pp @F.aT <| pp @F.dw ()) <| pp () <| pp () <| pp (pp (@lg (Unit) _ (fun n x=>G.aV.K1 n ag) r (fun x=>bF.of [eP 1 101,(20,.v true (.one (.c (.lit (.bool false)))))] [(101,.var (wN ag))])) ()) <| pp (pp (And.intro @G.aV.K1.eq_1 <| @G.aV.K1.eq_2) ()) <| pp (pp (@bn [] [(101,10)] []) ()) <| ()
 exact jF
theorem F.uq:∀ (n:Nat),∀ {ag jO r},G.aO n ag jO=some r->dA pZ 48 [.agg (wN ag),.one (wI jO)] (.mG [(false,[wI r.1]),(false,[wI r.2.1]),(false,[.c (.lit (.bool r.2.2))])]):=by
 intro n
 induction n using Nat.strongRecOn with | _ n ih =>
 intro ag jO r h
 refine aW K.aO (jB ?_)
 unfold C.aO
 rcases n with _ | n<;>simp only [G.aO,reduceCtorEq] at h
 have z:=pp (pp ih <| pp @F.aV ()) <| pp () <| pp (pp (@jA (Int × Int × Int) _ (fun n x=>G.aO.L1 n ag jO x.1 x.2.1 x.2.2) r (fun x=>bF.of [eI 1 jO,eI 4 x.1,eI 5 x.2.1,(20,.v true (.one (wK ag.Kids))),eI 21 ((ag.Kids.length:Nat):Int),eI 22 x.2.2] [])) ()) <| pp () <| pp (pp (And.intro @G.aO.L1.eq_1 <| @G.aO.L1.eq_2) ()) <| pp (pp (@bn [] [] []) ()) <| ()
 exact jF
theorem F.aO {n:Nat} : ∀ {ag:af} {jO:Int} {r:Int × Int × Bool},G.aO n ag jO=some r->dA pZ 48 [.agg (wN ag),.one (wI jO)] (.mG [(false,[wI r.1]),(false,[wI r.2.1]),(false,[.c (.lit (.bool r.2.2))])]):=F.uq n
theorem F.dD {n:Nat} : ∀ {ag:af} {r:Bool},G.dD n ag=some r->dA pZ 21 [.agg (wN ag)] (.one (.c (.lit (.bool r)))):=by
 intro ag r h
 refine aW K.dD (jB ?_)
 unfold C.dD
 cases n with
 | zero=>simp only [G.dD,reduceCtorEq] at h
 | succ n =>
 simp only [G.dD] at h
 replace h:=Option.bind_eq_some_iff.1 h
 obtain ⟨v1,hv1,h⟩:=h
 simp -dsimp only [QO,fO.gy,fO.f,fO.rd,pW,lM,lvl,kD,reduceIte,Nat.reduceEqDiff,Nat.reduceAdd,Nat.reduceLeDiff,Nat.reduceBEq,reduceCtorEq,Int.reduceBNe,Int.reduceBEq,Int.reduceLT,Int.reduceLE,Int.reduceNeg,Nat.reduceLT,qh,Int.reduceToNat,o9]
 repeat refine And.intro (by first | (show lD _ _ _ _=true; kernel_rfl) | (show mO _ _=true; kernel_rfl) | omega | assumption) ?_
 refine KY (fun _=>F.aO hv1) rfl rfl ?_
 try simp -dsimp only [QO,fO.gy,fO.f,fO.rd,pW,lM,lvl,kD,reduceIte,Nat.reduceEqDiff,Nat.reduceAdd,Nat.reduceLeDiff,Nat.reduceBEq,reduceCtorEq,Int.reduceBNe,Int.reduceBEq,Int.reduceLT,Int.reduceLE,Int.reduceNeg,Nat.reduceLT,qh,Int.reduceToNat,o9]
 repeat refine And.intro (by first | (show lD _ _ _ _=true; kernel_rfl) | (show mO _ _=true; kernel_rfl) | omega | assumption) ?_
 replace h:=oZ.1 h
 rcases h with ⟨c1,h⟩ | ⟨c1,h⟩
 ·simp -dsimp only [QO,fO.gy,fO.f,fO.rd,pW,lM,lvl,kD,reduceIte,Nat.reduceEqDiff,Nat.reduceAdd,Nat.reduceLeDiff,Nat.reduceBEq,reduceCtorEq,Int.reduceBNe,Int.reduceBEq,Int.reduceLT,Int.reduceLE,Int.reduceNeg,Nat.reduceLT,qh,Int.reduceToNat,o9,c1]
  repeat refine And.intro (by first | (show lD _ _ _ _=true; kernel_rfl) | (show mO _ _=true; kernel_rfl) | omega | assumption) ?_
  cases h
  (simp -dsimp only [SY,reduceIte,Nat.reduceEqDiff,Nat.reduceAdd,Nat.reduceLeDiff,reduceCtorEq]<;>first | (simp [List.take_of_length_le]; done) | ((try simp only [List.map_take,List.map_drop,List.map_append,List.map_cons,List.map_nil])<;>(repeat' apply And.intro)<;>first | rfl | (simp; done) | (simp<;>omega; done) | (congr 1; exact (List.take_of_length_le (by simp<;>omega)).symm)))
 ·simp -dsimp only [QO,fO.gy,fO.f,fO.rd,pW,lM,lvl,kD,reduceIte,Nat.reduceEqDiff,Nat.reduceAdd,Nat.reduceLeDiff,Nat.reduceBEq,reduceCtorEq,Int.reduceBNe,Int.reduceBEq,Int.reduceLT,Int.reduceLE,Int.reduceNeg,Nat.reduceLT,qh,Int.reduceToNat,o9,c1]
  repeat refine And.intro (by first | (show lD _ _ _ _=true; kernel_rfl) | (show mO _ _=true; kernel_rfl) | omega | assumption) ?_
  cases h
  (simp -dsimp only [SY,reduceIte,Nat.reduceEqDiff,Nat.reduceAdd,Nat.reduceLeDiff,reduceCtorEq]<;>first | (simp [List.take_of_length_le]; done) | ((try simp only [List.map_take,List.map_drop,List.map_append,List.map_cons,List.map_nil])<;>(repeat' apply And.intro)<;>first | rfl | (simp; done) | (simp<;>omega; done) | (congr 1; exact (List.take_of_length_le (by simp<;>omega)).symm)))
def B.ren:Go.Shelf.Ren:=⟨fun n=>match n with | 129=>120 | 156=>14 | 165=>32 | 166=>33 | 167=>31 | 169=>23 | 171=>49 | 240=>64 | 241=>65 | 243=>74 | 246=>95 | 276=>90 | 277=>91 | 283=>110 | 284=>111 | 285=>112 | 286=>113 | 317=>119 | 318=>121 | 319=>122 | 320=>123 | 337=>124 | 338=>125 | _=>0,fun n=>match n with | 0=>0 | 2=>2 | 3=>3 | 4=>4 | 5=>5 | 9=>9 | 20=>20 | 31=>23 | 37=>22 | 46=>135 | 51=>132 | 53=>121 | 70=>48 | 72=>50 | 75=>67 | 76=>70 | 80=>52 | 127=>82 | 164=>107 | 171=>120 | 173=>124 | 212=>131 | 213=>133 | 232=>138 | 233=>139 | _=>0,fun n=>match n with | 17=>1 | 18=>2 | 19=>3 | _=>0⟩
theorem B.Ut:Go.Proofs.Builder.X72 pZ B.ren:=by constructor<;>kernel_rfl
theorem B.x:Go.Proofs.Builder.Extra pZ B.ren:=by constructor<;>first | exact B.Ut | kernel_rfl | (intro w; kernel_rfl) | decide
theorem B.lays167:Go.Proofs.Lays.n167 pZ B.ren:=by constructor<;>first | kernel_rfl | (intro w; kernel_rfl)
theorem F.ak {n:Nat} : ∀ {kY:bH} {uT:Int} {r:Unit × bH},G.ak n kY uT=some r->fU pZ 31 [.one (.ptr 0 0),.one (.c (.lit (.int .u8 uT)))] [.var [.opt 50 0,.jy 1 kY.buf.length],.row 5 kY.buf] (fun r1 b1=>r1 = .one (.c (.lit .nilIface))/\b1=[.var [.opt 50 0,.jy 2 r.2.buf.length],.dead,.row 5 r.2.buf]):=by
 intro b c r h
 rcases n with _ | n<;>simp only [G.ak,reduceCtorEq] at h
 obtain ⟨⟨hc,hl⟩,h⟩:=jZ.1 h
 cases h
 exact BN B.lays167 B.x hc hl
theorem F.aU {n:Nat} : ∀ {kY aF r},G.aU n kY aF=some r->fU pZ 34 [.one (.ptr 0 0),.one (wS aF)] [.var [.opt 50 0,.jy 1 kY.buf.length],.row 5 kY.buf] (fun r1 b1=>r1 = .mG []/\b1=[.var [.opt 50 0,.jy 2 r.buf.length],.dead,.row 5 r.buf]):=by
 intro kY aF r h
 refine fD K.aU (jB ?_)
 unfold C.aU
 rcases n with _ | n<;>simp only [G.aU,reduceCtorEq] at h
 have z:=pp () <| pp (pp (pp @F.ak (@cG [0,1] [101])) <| pp (pp @F.ak (@cG [0,116] [121])) <| pp (pp @F.ak (@cG [0,116] [122])) <| pp (pp @F.ak (@cG [0,119] [120])) <| pp (pp @F.ak (@cG [0,116] [123])) ()) <| pp (pp (@jA (Int × aK) _ (fun n x=>G.aU.L3 n aF x.1 x.2) r (fun x=>bF.of [eP 0 0,eS 1 aF,eI 4 x.1] [(0,.var [.opt 50 0,.jy 116 x.2.length]),(1,.dead),(116,.row 5 x.2)])) ()) <| pp (pp (@lg (Int × aK) _ (fun n x=>G.aU.K4 n aF x.1 x.2) r (fun x=>bF.of [eP 0 0,eS 1 aF,eI 4 x.1] [(0,.var [.opt 50 0,.jy 119 x.2.length]),(1,.dead),(119,.row 5 x.2)])) ()) <| pp (pp (And.intro @G.aU.L3.eq_1 <| And.intro @G.aU.L3.eq_2 <| And.intro @G.aU.K4.eq_1 <| @G.aU.K4.eq_2) ()) <| pp (pp (@bn [] [(0,0),(1,1),(116,101)] []) <| pp (@bn [] [(0,0),(1,1),(119,121)] []) <| pp (@bn [] [(0,0),(1,1),(119,122)] []) <| pp (@bn [] [(0,0),(1,1),(119,116)] []) <| pp (@bn [] [(0,0),(1,1),(116,120)] []) ()) <| (pp (@jE [] [(0,0),(1,1),(2,123)] []) <| pp (@jE [] [(0,0),(1,1),(2,121)] []) ())
 exact jF
theorem B.lays171:Go.Proofs.Lays.n171 pZ B.ren:=by constructor<;>first | kernel_rfl | (intro w; kernel_rfl)
theorem B.laysM171:Go.Proofs.LaysM.n171 pZ B.ren:=by constructor<;>first | exact B.lays171 | kernel_rfl | (intro w; kernel_rfl)
theorem F.strconv_Itoa {n:Nat} : ∀ {QY:Int} {r:aK},G.strconv_Itoa n QY=some r->dA pZ 49 [.one (wI QY)] (.one (wS r)):=by
 intro i r h
 rcases n with _ | n<;>simp only [G.strconv_Itoa,reduceCtorEq] at h
 obtain ⟨⟨h0,hl⟩,h⟩:=jZ.1 h
 exact Oo B.laysM171 h0 (Nat.le_trans hl (by decide)) (by cases h; rfl)
theorem B.lays166:Go.Proofs.Lays.n166 pZ B.ren:=by constructor<;>first | kernel_rfl | (intro w; kernel_rfl)
theorem F.dI {n:Nat} : ∀ {kY:bH} {aF:aK} {r:Int × Unit × bH},G.dI n kY aF=some r->fU pZ 33 [.one (.ptr 0 0),.one (wS aF)] [.var [.opt 50 0,.jy 1 kY.buf.length],.row 5 kY.buf] (fun r1 b1=>r1 = .mG [(false,[wI r.1]),(false,[.c (.lit .nilIface)])]/\b1=[.var [.opt 50 0,.jy 2 r.2.2.buf.length],.dead,.row 5 r.2.2.buf]):=by
 intro b s r h
 rcases n with _ | n<;>simp only [G.dI,reduceCtorEq] at h
 obtain ⟨hl,h⟩:=jZ.1 h
 cases h
 exact yC B.lays166 B.x hl
theorem F.wQ:∀ (n:Nat),∀ {kY ag r},G.aA n kY ag=some r->fU pZ 22 [.one (.ptr 0 0),.agg (wN ag)] [.var [.opt 50 0,.jy 1 kY.buf.length],.row 5 kY.buf] (fun r1 b1=>r1 = .mG []/\b1=[.var [.opt 50 0,.jy 2 r.buf.length],.dead,.row 5 r.buf]):=by
 intro n
 induction n using Nat.strongRecOn with | _ n ih =>
 intro kY ag r h
 refine fD K.aA (jB ?_)
 unfold C.aA
 rcases n with _ | n<;>simp only [G.aA,reduceCtorEq] at h
 have:=Mk.mk 1; have:=Mk.mk 2
 have z:=pp (pp @F.strconv_Itoa ()) <| pp (pp (pp ih (@cG [0,118] [119])) <| pp (pp ih (@cG [0,148] [149])) <| pp (pp @F.dI (@cG [0,1] [101])) <| pp (pp @F.dI (@cG [0,1] [102])) <| pp (pp @F.aU (@cG [0,1] [103])) <| pp (pp @F.ak (@cG [0,1] [104])) <| pp (pp @F.ak (@cG [0,115] [120])) <| pp (pp @F.ak (@cG [0,115] [121])) <| pp (pp @F.ak (@cG [0,1] [122])) <| pp (pp @F.ak (@cG [0,142] [150])) <| pp (pp @F.aU (@cG [0,146] [147])) <| pp (pp @F.ak (@cG [0,147] [148])) <| pp (pp @F.ak (@cG [0,142] [151])) ()) <| pp (pp (@jA (Int × aK) _ (fun n x=>G.aA.L3 n ag x.1 x.2) r (fun x=>bF.of [eP 0 0,(32,.v true (.one (wK ag.Kids))),eI 33 ((ag.Kids.length:Nat):Int),eI 34 x.1] [(0,.var [.opt 50 0,.jy 115 x.2.length]),(1,.dead),(115,.row 5 x.2)])) <| pp (@jA (Int × aK) _ (fun n x=>G.aA.L7 n ag x.1 x.2) r (fun x=>bF.of [eP 0 0,eP 3 141,(54,.v true (.one (wK ag.Kids))),eI 55 ((ag.Kids.length:Nat):Int),eI 56 x.1] [(0,.var [.opt 50 0,.jy 142 x.2.length]),(1,.dead),(141,.var (wN ag)),(142,.row 5 x.2)])) ()) <| pp (pp (@lg (Int × aK) _ (fun n x=>G.aA.K4 n ag x.1 x.2) r (fun x=>bF.of [eP 0 0,eP 5 117,(32,.v true (.one (wK ag.Kids))),eI 33 ((ag.Kids.length:Nat):Int),eI 34 x.1] [(0,.var [.opt 50 0,.jy 118 x.2.length]),(1,.dead),(117,.var [wI ((ag.Kids.getD x.1.toNat default).Kind),wI ((ag.Kids.getD x.1.toNat default).Num),wS ((ag.Kids.getD x.1.toNat default).Text),wT ((ag.Kids.getD x.1.toNat default).Names),wK ((ag.Kids.getD x.1.toNat default).Kids)]),(118,.row 5 x.2)])) <| pp (@lg (Int × aK) _ (fun n x=>G.aA.K8 n ag x.1 x.2) r (fun x=>bF.of [eP 0 0,eP 3 144,eI 6 x.1,eP 7 145,(54,.v true (.one (wK ag.Kids))),eI 55 ((ag.Kids.length:Nat):Int),eI 56 x.1] [(0,.var [.opt 50 0,.jy 146 x.2.length]),(1,.dead),(144,.var (wN ag)),(145,.var [wI ((ag.Kids.getD x.1.toNat default).Kind),wI ((ag.Kids.getD x.1.toNat default).Num),wS ((ag.Kids.getD x.1.toNat default).Text),wT ((ag.Kids.getD x.1.toNat default).Names),wK ((ag.Kids.getD x.1.toNat default).Kids)]),(146,.row 5 x.2)])) ()) <| pp (pp (And.intro @G.aA.L3.eq_1 <| And.intro @G.aA.L3.eq_2 <| And.intro @G.aA.K4.eq_1 <| And.intro @G.aA.K4.eq_2 <| And.intro @G.aA.L7.eq_1 <| And.intro @G.aA.L7.eq_2 <| And.intro @G.aA.K8.eq_1 <| @G.aA.K8.eq_2) ()) <| pp (pp (@bn [] [(0,0),(1,1),(115,104)] []) <| pp (@bn [] [(0,0),(1,1),(117,11),(118,120)] []) <| pp (@bn [] [(0,0),(1,1),(117,11),(118,115)] []) <| pp (@bn [] [(0,0),(1,1),(115,119)] []) <| pp (@bn [] [(0,0),(1,1),(141,10),(142,122)] []) <| pp (@bn [] [(0,0),(1,1),(144,141),(145,12),(146,150)] []) <| pp (@bn [] [(0,0),(1,1),(144,141),(145,12),(146,142)] []) <| pp (@bn [] [(0,0),(1,1),(141,144),(142,149)] []) <| pp (@bn [] [(0,0),(1,1),(141,10),(142,104)] []) ()) <| pp (pp (@jE [] [(0,0),(1,1),(2,101)] []) <| pp (@jE [] [(0,0),(1,1),(2,102)] []) <| pp (@jE [] [(0,0),(1,1),(2,103)] []) <| pp (@jE [] [(0,0),(1,1),(2,121)] []) <| pp (@jE [] [(0,0),(1,1),(2,151)] []) <| pp (@jE [] [(0,0),(1,1),(2,1)] []) <| pp (@jE [] [(0,0),(1,1),(2,120)] []) <| pp (@jE [] [(0,0),(1,1),(2,150)] []) ()) <| (pp (pp (rfl : @G.aA.K4=_) <| pp (rfl : @G.aA.L3=_) ()) <| pp (pp (rfl : @G.aA.K8=_) <| pp (rfl : @G.aA.L7=_) ()) ())
 exact Lt
theorem F.aA {n:Nat} : ∀ {kY:bH} {ag:af} {r:bH},G.aA n kY ag=some r->fU pZ 22 [.one (.ptr 0 0),.agg (wN ag)] [.var [.opt 50 0,.jy 1 kY.buf.length],.row 5 kY.buf] (fun r1 b1=>r1 = .mG []/\b1=[.var [.opt 50 0,.jy 2 r.buf.length],.dead,.row 5 r.buf]):=F.wQ n
theorem B.lays169:Go.Proofs.Lays.n169 pZ B.ren:=by constructor<;>first | kernel_rfl | (intro w; kernel_rfl)
theorem F.dZ {n:Nat} : ∀ {kY:bH} {r:aK},G.dZ n kY=some r->fU pZ 23 [.one (.ptr 0 0)] [.var [.opt 50 0,.jy 1 kY.buf.length],.row 5 kY.buf] (fun r1 b1=>r1 = .one (wS r)/\b1=[.dead,.dead]):=by
 intro b r h
 rcases n with _ | n<;>simp only [G.dZ,reduceCtorEq] at h
 obtain ⟨hl,h⟩:=jZ.1 h
 cases h
 exact I8 B.lays169 B.x (Nat.le_trans hl (by decide))
theorem F.dY {n:Nat} : ∀ {ag r},G.dY n ag=some r->dA pZ 8 [.agg (wN ag)] (.one (wS r)):=by
 intro ag r h
 refine aW K.dY (jB ?_)
 unfold C.dY
 rcases n with _ | n<;>simp only [G.dY,reduceCtorEq] at h
 have z:=pp (pp @F.dD ()) <| pp (pp (pp @F.aA (@cG [12,11] [101])) <| pp (pp @F.dZ (@cG [12,101] [])) ()) <| pp () <| pp () <| pp () <| pp () <| ()
 exact jF
theorem F.cO {n:Nat} : ∀ {aF uT r},G.cO n aF uT=some r->dA pZ 109 [.one (wS aF),.one (.c (.lit (.int .u8 uT)))] (.one (wI r)):=by
 intro aF uT r h
 refine aW K.cO (jB ?_)
 unfold C.cO
 rcases n with _ | n<;>simp only [G.cO,reduceCtorEq] at h
 have z:=pp () <| pp () <| pp () <| pp () <| pp () <| pp () <| ()
 exact jF
theorem F.strings_IndexByte {n:Nat} : ∀ {aF uT r},G.strings_IndexByte n aF uT=some r->dA pZ 88 [.one (wS aF),.one (.c (.lit (.int .u8 uT)))] (.one (wI r)):=by
 intro aF uT r h
 refine aW K.strings_IndexByte (jB ?_)
 unfold C.strings_IndexByte
 rcases n with _ | n<;>simp only [G.strings_IndexByte,reduceCtorEq] at h
 have z:=pp (pp @F.cO ()) <| pp () <| pp () <| pp () <| pp () <| pp () <| ()
 exact jF
theorem F.gu {n:Nat} : ∀ {aF r},G.gu n aF=some r->dA pZ 58 [.one (wS aF)] (.one (.c (.lit (.bool r)))):=by
 intro aF r h
 refine aW K.gu (jB ?_)
 unfold C.gu
 rcases n with _ | n<;>simp only [G.gu,reduceCtorEq] at h
 have z:=pp (pp @F.strings_IndexByte ()) <| pp () <| pp (pp (@jA (Int) _ (fun n x=>G.gu.L1 n aF x) r (fun x=>bF.of [eS 0 aF,eI 3 x] [])) ()) <| pp () <| pp (pp (And.intro @G.gu.L1.eq_1 <| @G.gu.L1.eq_2) ()) <| pp (pp (@bn [] [] []) ()) <| ()
 exact jF
theorem F.dF {n:Nat} : ∀ {aj r},G.dF n aj=some r->dA pZ 28 [.one (wT aj)] (.one (.c (.lit (.bool r)))):=by
 intro aj r h
 refine aW K.dF (jB ?_)
 unfold C.dF
 rcases n with _ | n<;>simp only [G.dF,reduceCtorEq] at h
 have z:=pp (pp @F.gu ()) <| pp () <| pp (pp (@jA (Int) _ (fun n x=>G.dF.L1 n aj x) r (fun x=>bF.of [eT 8 aj,eI 9 ((aj.length:Nat):Int),eI 10 x] [])) ()) <| pp () <| pp (pp (And.intro @G.dF.L1.eq_1 <| @G.dF.L1.eq_2) ()) <| pp (pp (@bn [] [] []) ()) <| ()
 exact jF
theorem F.aQ {n:Nat} : ∀ {aj r},G.aQ n aj=some r->dA pZ 16 [.one (wT aj)] (.one (wS r)):=by
 intro aj r h
 refine aW K.aQ (jB ?_)
 unfold C.aQ
 rcases n with _ | n<;>simp only [G.aQ,reduceCtorEq] at h
 have z:=pp (pp @F.dF ()) <| pp (pp (pp @F.ak (@cG [115,116] [122])) <| pp (pp @F.dI (@cG [118,119] [120])) <| pp (pp @F.aU (@cG [118,119] [121])) <| pp (pp @F.dZ (@cG [115,116] [])) ()) <| pp (pp (@jA (Int × aK) _ (fun n x=>G.aQ.L3 n aj x.1 x.2) r (fun x=>bF.of [eP 3 115,eT 9 aj,eI 10 ((aj.length:Nat):Int),eI 11 x.1] [(115,.var [.opt 50 115,.jy 116 x.2.length]),(116,.row 5 x.2)])) ()) <| pp (pp (@lg (Int × aK) _ (fun n x=>G.aQ.K4 n aj x.1 x.2) r (fun x=>bF.of [eP 3 118,eS 5 (aj.getD x.1.toNat default),eT 9 aj,eI 10 ((aj.length:Nat):Int),eI 11 x.1] [(118,.var [.opt 50 118,.jy 119 x.2.length]),(119,.row 5 x.2)])) ()) <| pp (pp (And.intro @G.aQ.L3.eq_1 <| And.intro @G.aQ.L3.eq_2 <| And.intro @G.aQ.K4.eq_1 <| @G.aQ.K4.eq_2) ()) <| pp (pp (@bn [] [(115,11),(116,10)] []) <| pp (@bn [] [(118,115),(119,122)] []) <| pp (@bn [] [(118,115),(119,116)] []) <| pp (@bn [] [(115,118),(116,120)] []) <| pp (@bn [] [(115,118),(116,121)] []) ()) <| ()
 exact jF
theorem F.iH {n:Nat} : ∀ {ag Eh r},G.iH n ag Eh=some r->dA pZ 60 [.agg (wN ag),.one (.c (.lit (.bool Eh)))] (.mG [(true,(wN r.1)),(false,[.c (.lit (.bool r.2))])]):=by
 intro ag Eh r h
 refine aW K.iH (jB ?_)
 unfold C.iH
 rcases n with _ | n<;>simp only [G.iH,reduceCtorEq] at h
 have z:=pp (pp @F.dD ()) <| pp () <| pp () <| pp () <| pp () <| pp () <| ()
 exact jF
theorem F.xQ:∀ (n:Nat),∀ {ag r},G.bz n ag=some r->dA pZ 63 [.agg (wN ag)] (.agg (wN r)):=by
 intro n
 induction n using Nat.strongRecOn with | _ n ih =>
 intro ag r h
 refine aW K.bz (jB ?_)
 unfold C.bz
 rcases n with _ | n<;>simp only [G.bz,reduceCtorEq] at h
 have z:=pp (pp ih ()) <| pp () <| pp (pp (@jA (List aK × Int × List af) _ (fun n x=>G.bz.L2 n ag x.1 x.2.1 x.2.2) r (fun x=>bF.of [eP 2 113,eP 3 114,(37,.v true (.one (wK ag.Kids))),eI 38 ((ag.Kids.length:Nat):Int),eI 39 x.2.1] [(113,.var zN),(114,.var [wI ag.Kind,wI ag.Num,wS ag.Text,.own 115 x.1.length 1,.own 116 x.2.2.length 5]),(115,.dat 1 (List.map cS x.1)),(116,.dat 5 (List.map af.cells x.2.2))])) ()) <| pp (pp (@lg (List aK) _ (fun n x=>G.bz.K1 n ag x) r (fun x=>bF.of [eP 1 101,eP 2 102,eP 3 103] [(101,.var (wN ag)),(102,.var zN),(103,.var [wI ag.Kind,wI ag.Num,wS ag.Text,.own 104 x.length 1,.fH 5]),(104,.dat 1 (List.map cS x))])) ()) <| pp (pp (And.intro @G.bz.K1.eq_1 <| And.intro @G.bz.K1.eq_2 <| And.intro @G.bz.L2.eq_1 <| @G.bz.L2.eq_2) ()) <| pp (pp (@bn [] [(101,10),(102,11),(103,12),(104,13)] []) <| pp (@bn [] [(101,10),(102,11),(103,12)] [104]) <| pp (@bn [] [(113,102),(114,103),(115,104),(116,14)] []) <| pp (@bn [] [(113,113),(114,114),(115,115),(116,116)] []) ()) <| ()
 exact jF
theorem F.bz {n:Nat} : ∀ {ag:af} {r:af},G.bz n ag=some r->dA pZ 63 [.agg (wN ag)] (.agg (wN r)):=F.xQ n
theorem F.dX {n:Nat} : ∀ {aG r},G.dX n aG=some r->dA pZ 89 [.one (wT aG)] (.one (.c (.lit (.bool r)))):=by
 intro aG r h
 refine aW K.dX (jB ?_)
 unfold C.dX
 rcases n with _ | n<;>simp only [G.dX,reduceCtorEq] at h
 have z:=pp (pp @F.aT ()) <| pp () <| pp (pp (@jA (Int) _ (fun n x=>G.dX.L1 n aG x) r (fun x=>bF.of [eT 8 aG,eI 9 ((aG.length:Nat):Int),eI 10 x] [])) ()) <| pp () <| pp (pp (And.intro @G.dX.L1.eq_1 <| @G.dX.L1.eq_2) ()) <| pp (pp (@bn [] [] []) ()) <| ()
 exact jF
theorem F.iV {n:Nat} : ∀ {iP r},G.iV n iP=some r->dA pZ 59 [.agg [wI iP.Kind,wT iP.Path,wT iP.From,wI iP.Value.Kind,wI iP.Value.Num,wS iP.Value.Text,wT iP.Value.Names,wK iP.Value.Kids]] (.one (.c (.lit (.bool r)))):=by
 intro iP r h
 refine aW K.iV (jB ?_)
 unfold C.iV
 rcases n with _ | n<;>simp only [G.iV,reduceCtorEq] at h
 have z:=pp (pp @F.dX <| pp @F.dD ()) <| pp () <| pp () <| pp () <| pp () <| pp () <| ()
 exact jF
theorem F.jf {n:Nat} : ∀ {mP r},G.jf n mP=some r->dA pZ 62 [.one (wI mP)] (.one (wS r)):=by
 intro mP r h
 refine aW K.jf (jB ?_)
 unfold C.jf
 rcases n with _ | n<;>simp only [G.jf,reduceCtorEq] at h
 have z:=pp () <| pp () <| pp () <| pp () <| pp () <| pp () <| ()
 exact jF
theorem F.dJ {n:Nat} : ∀ {aG r},G.dJ n aG=some r->dA pZ 61 [.one (wT aG)] (.agg (wN r)):=by
 intro aG r h
 refine aW K.dJ (jB ?_)
 unfold C.dJ
 rcases n with _ | n<;>simp only [G.dJ,reduceCtorEq] at h
 have z:=pp () <| pp () <| pp (pp (@jA (Int × List af) _ (fun n x=>G.dJ.L1 n aG x.1 x.2) r (fun x=>bF.of [eP 2 106,eP 3 107,eT 7 aG,eI 8 ((aG.length:Nat):Int),eI 9 x.1] [(106,.var zN),(107,.var [wI 3,wI 0,.c (.str []),.fH 1,.own 108 x.2.length 5]),(108,.dat 5 (List.map af.cells x.2))])) ()) <| pp () <| pp (pp (And.intro @G.dJ.L1.eq_1 <| @G.dJ.L1.eq_2) ()) <| pp (pp (@bn [] [(106,10),(107,11)] [108]) <| pp (@bn [] [(106,106),(107,107),(108,13)] []) ()) <| ()
 exact jF
theorem F.ig {n:Nat} : ∀ {iP r},G.ig n iP=some r->dA pZ 30 [.agg [wI iP.Kind,wT iP.Path,wT iP.From,wI iP.Value.Kind,wI iP.Value.Num,wS iP.Value.Text,wT iP.Value.Names,wK iP.Value.Kids]] (.mG [(true,(wN r.1)),(false,[.c (.lit (.bool r.2))])]):=by
 intro iP r h
 refine aW K.ig (jB ?_)
 unfold C.ig
 rcases n with _ | n<;>simp only [G.ig,reduceCtorEq] at h
 have z:=pp (pp @F.iV <| pp @F.dJ <| pp @F.jf <| pp @F.bz <| pp @F.iH ()) <| pp () <| pp () <| pp () <| pp () <| pp () <| ()
 exact jF
theorem F.dG {n:Nat} : ∀ {aj r},G.dG n aj=some r->dA pZ 13 [.one (.c (.sl 8 (List.map jr.cells aj)))] (.mG [(false,[wS r.1]),(false,[.c (.lit (.bool r.2))])]):=by
 intro aj r h
 refine aW K.dG (jB ?_)
 unfold C.dG
 rcases n with _ | n<;>simp only [G.dG,reduceCtorEq] at h
 have z:=pp (pp @F.ig ()) <| pp (pp (pp @F.aA (@cG [109,110] [111])) <| pp (pp @F.ak (@cG [109,111] [112])) <| pp (pp @F.dZ (@cG [109,110] [])) ()) <| pp (pp (@jA (Int × aK) _ (fun n x=>G.dG.L1 n aj x.1 x.2) r (fun x=>bF.of [eP 4 109,(9,.v true (.one (.c (.sl 8 (List.map jr.cells aj))))),eI 10 ((aj.length:Nat):Int),eI 11 x.1] [(109,.var [.opt 50 109,.jy 110 x.2.length]),(110,.row 5 x.2)])) ()) <| pp () <| pp (pp (And.intro @G.dG.L1.eq_1 <| @G.dG.L1.eq_2) ()) <| pp (pp (@bn [] [(109,11),(110,10)] []) <| pp (@bn [] [(109,109),(110,112)] []) ()) <| ()
 exact jF
theorem F.bK {n:Nat} : ∀ {aj r},G.bK n aj=some r->dA pZ 29 [.one (.c (.sl 8 (List.map jr.cells aj)))] (.one (.c (.lit (.bool r)))):=by
 intro aj r h
 refine aW K.bK (jB ?_)
 unfold C.bK
 rcases n with _ | n<;>simp only [G.bK,reduceCtorEq] at h
 have z:=pp (pp @F.iV ()) <| pp () <| pp (pp (@jA (Int) _ (fun n x=>G.bK.L1 n aj x) r (fun x=>bF.of [(8,.v true (.one (.c (.sl 8 (List.map jr.cells aj))))),eI 9 ((aj.length:Nat):Int),eI 10 x] [])) ()) <| pp () <| pp (pp (And.intro @G.bK.L1.eq_1 <| @G.bK.L1.eq_2) ()) <| pp (pp (@bn [] [] []) ()) <| ()
 exact jF
theorem F.dQ {n:Nat} : ∀ {aF r},G.dQ n aF=some r->dA pZ 27 [.one (wS aF)] (.one (.c (.lit (.bool r)))):=by
 intro aF r h
 refine aW K.dQ (jB ?_)
 unfold C.dQ
 rcases n with _ | n<;>simp only [G.dQ,reduceCtorEq] at h
 have z:=pp () <| pp () <| pp (pp (@jA (Int) _ (fun n x=>G.dQ.L1 n aF x) r (fun x=>bF.of [eS 0 aF,eI 3 x] [])) ()) <| pp () <| pp (pp (And.intro @G.dQ.L1.eq_1 <| @G.dQ.L1.eq_2) ()) <| pp (pp (@bn [] [] []) ()) <| ()
 exact jF
theorem F.gI {n:Nat} : ∀ {aN r},G.gI n aN=some r->dA pZ 12 [.agg [wI aN.Method,wS aN.Name,wT aN.Want,wT aN.ja,wI aN.Body.Kind,wI aN.Body.Num,wS aN.Body.Text,wT aN.Body.Names,wK aN.Body.Kids,.c (.sl 8 (List.map jr.cells aN.Ops))]] (.one (.c (.lit (.bool r)))):=by
 intro aN r h
 refine aW K.gI (jB ?_)
 unfold C.gI
 rcases n with _ | n<;>simp only [G.gI,reduceCtorEq] at h
 have z:=pp (pp @F.dQ <| pp @F.dF <| pp @F.dD <| pp @F.bK ()) <| pp () <| pp () <| pp () <| pp () <| pp () <| ()
 exact jF
theorem F.gG {n:Nat} : ∀ {kX r},G.gG n kX=some r->dA pZ 15 [.one (wI kX)] (.one (wS r)):=by
 intro kX r h
 refine aW K.gG (jB ?_)
 unfold C.gG
 rcases n with _ | n<;>simp only [G.gG,reduceCtorEq] at h
 have z:=pp () <| pp () <| pp () <| pp () <| pp () <| pp () <| ()
 exact jF
theorem B.lays156:Go.Proofs.Lays.n156 pZ B.ren:=by constructor<;>first | kernel_rfl | (intro w; kernel_rfl)
theorem F.strings_Join {n:Nat} : ∀ {Eg:List aK} {KO:aK} {r:aK},G.strings_Join n Eg KO=some r->dA pZ 14 [.one (wT Eg),.one (wS KO)] (.one (wS r)):=by
 intro l s r h
 rcases n with _ | n<;>simp only [G.strings_Join,reduceCtorEq] at h
 obtain ⟨⟨h0,hl⟩,h⟩:=jZ.1 h
 exact Oq B.lays156 B.x h0 hl (by cases h; rfl)
theorem F.ah {n:Nat} : ∀ {aN r},G.ah n aN=some r->dA pZ 6 [.agg [wI aN.Method,wS aN.Name,wT aN.Want,wT aN.ja,wI aN.Body.Kind,wI aN.Body.Num,wS aN.Body.Text,wT aN.Body.Names,wK aN.Body.Kids,.c (.sl 8 (List.map jr.cells aN.Ops))]] (.one (wS r)):=by
 intro aN r h
 refine aW K.ah (jB ?_)
 unfold C.ah
 rcases n with _ | n<;>simp only [G.ah,reduceCtorEq] at h
 have:=Mk.mk 1; have:=Mk.mk 2; have:=Mk.mk 3; have:=Mk.mk 4
 have z:=pp (pp @F.gI <| pp @F.dY <| pp @F.dG <| pp @F.gG <| pp @F.aQ <| pp @F.strings_Join ()) <| pp () <| pp () <| pp (pp (@lg (Unit) _ (fun n x=>G.ah.K1 n aN) r (fun x=>bF.of [eP 1 101,(36,.v true (.one (.c (.lit (.bool false)))))] [(101,.var [wI aN.Method,wS aN.Name,wT aN.Want,wT aN.ja,wI aN.Body.Kind,wI aN.Body.Num,wS aN.Body.Text,wT aN.Body.Names,wK aN.Body.Kids,.c (.sl 8 (List.map jr.cells aN.Ops))])])) <| pp (@lg (aK) _ (fun n x=>G.ah.K2 n aN x) r (fun x=>bF.of [eP 1 102,eS 4 x] [(102,.var [wI aN.Method,wS aN.Name,wT aN.Want,wT aN.ja,wI aN.Body.Kind,wI aN.Body.Num,wS aN.Body.Text,wT aN.Body.Names,wK aN.Body.Kids,.c (.sl 8 (List.map jr.cells aN.Ops))])])) <| pp (@lg (Unit) _ (fun n x=>G.ah.K3 n aN) r (fun x=>bF.of [eP 1 103,(36,.v true (.one (.c (.lit (.bool false)))))] [(103,.var [wI aN.Method,wS aN.Name,wT aN.Want,wT aN.ja,wI aN.Body.Kind,wI aN.Body.Num,wS aN.Body.Text,wT aN.Body.Names,wK aN.Body.Kids,.c (.sl 8 (List.map jr.cells aN.Ops))])])) <| pp (@lg (aK) _ (fun n x=>G.ah.K4 n aN x) r (fun x=>bF.of [eP 1 104,eS 4 x] [(104,.var [wI aN.Method,wS aN.Name,wT aN.Want,wT aN.ja,wI aN.Body.Kind,wI aN.Body.Num,wS aN.Body.Text,wT aN.Body.Names,wK aN.Body.Kids,.c (.sl 8 (List.map jr.cells aN.Ops))])])) ()) <| pp (pp (And.intro @G.ah.K1.eq_1 <| And.intro @G.ah.K1.eq_2 <| And.intro @G.ah.K2.eq_1 <| And.intro @G.ah.K2.eq_2 <| And.intro @G.ah.K3.eq_1 <| And.intro @G.ah.K3.eq_2 <| And.intro @G.ah.K4.eq_1 <| @G.ah.K4.eq_2) ()) <| pp (pp (@bn [] [(101,10)] []) <| pp (@bn [] [(102,101)] []) <| pp (@bn [] [(103,10)] []) <| pp (@bn [] [(104,103)] []) ()) <| pp () <| (pp (pp (rfl : @G.ah.K1=_) ()) <| pp (pp (rfl : @G.ah.K2=_) <| pp (rfl : @G.ah.K1=_) ()) <| pp (pp (rfl : @G.ah.K3=_) ()) <| pp (pp (rfl : @G.ah.K4=_) <| pp (rfl : @G.ah.K3=_) ()) ())
 exact Lt
theorem F.iE {n:Nat} : ∀ {iL r},G.iE n iL=some r->fU pZ 11 [.one (.c (.sl 1 (List.map cU iL)))] [] (fun r1 b1=>r1 = .one (.ptr 0 0)/\b1=[.var [.c (.sl 1 (List.map cU r.b)),wI r.p]]):=by
 intro iL r h
 refine fD K.iE (jB ?_)
 unfold C.iE
 rcases n with _ | n<;>simp only [G.iE,reduceCtorEq] at h
 have z:=pp () <| pp () <| pp () <| pp () <| pp () <| pp () <| (pp (@jE [] [(0,10)] []) ())
 exact jF
theorem F.xW:∀ (n:Nat),∀ {ag r},G.ax n ag=some r->dA pZ 44 [.agg (wN ag)] (.agg (wN r)):=by
 intro n
 induction n using Nat.strongRecOn with | _ n ih =>
 intro ag r h
 refine aW K.ax (jB ?_)
 unfold C.ax
 rcases n with _ | n<;>simp only [G.ax,reduceCtorEq] at h
 have z:=pp (pp ih ()) <| pp () <| pp (pp (@jA (Int × List af) _ (fun n x=>G.ax.L1 n ag x.1 x.2) r (fun x=>bF.of [eP 1 107,eP 2 108,(3,.v true (.one (.own 109 x.2.length 5))),eI 4 x.1] [(107,.var (wN ag)),(108,.var zN),(109,.dat 5 (List.map af.cells x.2))])) ()) <| pp () <| pp (pp (And.intro @G.ax.L1.eq_1 <| @G.ax.L1.eq_2) ()) <| pp (pp (@bn [] [(107,10),(108,11),(109,12)] []) <| pp (@bn [] [(107,107),(108,108),(109,14)] []) ()) <| ()
 exact jF
theorem F.ax {n:Nat} : ∀ {ag:af} {r:af},G.ax n ag=some r->dA pZ 44 [.agg (wN ag)] (.agg (wN r)):=F.xW n
theorem F.lH {n:Nat} : ∀ {ag r},G.ax n ag=some r->fU pZ 44 [.agg (wN ag)] [] (fun r1 b1=>r1 = .agg [wI r.Kind,wI r.Num,wS r.Text,.own 0 r.Names.length 1,.own 1 r.Kids.length 5]/\b1=[.dat 1 (List.map cS r.Names),.dat 5 (List.map af.cells r.Kids)]):=by
 intro ag r h
 refine fD K.ax (jB ?_)
 unfold C.ax
 rcases n with _ | n<;>simp only [G.ax,reduceCtorEq] at h
 have z:=pp (pp @F.ax ()) <| pp () <| pp (pp (@jA (Int × List af) _ (fun n x=>G.ax.L1 n ag x.1 x.2) r (fun x=>bF.of [eP 1 107,eP 2 108,(3,.v true (.one (.own 109 x.2.length 5))),eI 4 x.1] [(107,.var (wN ag)),(108,.var zN),(109,.dat 5 (List.map af.cells x.2))])) ()) <| pp () <| pp (pp (And.intro @G.ax.L1.eq_1 <| @G.ax.L1.eq_2) ()) <| pp (pp (@bn [] [(107,10),(108,11),(109,12)] []) <| pp (@bn [] [(107,107),(108,108),(109,14)] []) ()) <| (pp (@jE [] [(0,16),(1,109)] []) ())
 exact jF
theorem F.ai {n:Nat} : ∀ {aZ ag r},G.ai n aZ ag=some r->fU pZ 26 [.one (.ptr 0 0),.one (wI ag)] [.var [.c (.sl 1 (List.map cU aZ.b)),wI aZ.p]] (fun r1 b1=>r1 = .one (wI r.1)/\b1=[.var [.c (.sl 1 (List.map cU r.2.b)),wI r.2.p]]):=by
 intro aZ ag r h
 refine fD K.ai (jB ?_)
 unfold C.ai
 rcases n with _ | n<;>simp only [G.ai,reduceCtorEq] at h
 have z:=pp () <| pp () <| pp () <| pp () <| pp () <| pp () <| (pp (@jE [] [(0,0)] []) ())
 exact jF
theorem F.bI {n:Nat} : ∀ {aZ aj r},G.bI n aZ aj=some r->fU pZ 51 [.one (.ptr 0 0),.one (.c (.sl 1 (List.map cI aj)))] [.var [.c (.sl 1 (List.map cU aZ.b)),wI aZ.p]] (fun r1 b1=>r1 = .one (wI r.1)/\b1=[.var [.c (.sl 1 (List.map cU r.2.b)),wI r.2.p]]):=by
 intro aZ aj r h
 refine fD K.bI (jB ?_)
 unfold C.bI
 rcases n with _ | n<;>simp only [G.bI,reduceCtorEq] at h
 have z:=pp () <| pp (pp (pp @F.ai (@cG [0] [])) ()) <| pp () <| pp () <| pp () <| pp () <| (pp (@jE [] [(0,0)] []) ())
 exact jF
theorem F.Aa:∀ (n:Nat),∀ {ag r},G.dK n ag=some r->dA pZ 71 [.one (wI ag)] (.one (wS r)):=by
 intro n
 induction n using Nat.strongRecOn with | _ n ih =>
 intro ag r h
 refine aW K.dK (jB ?_)
 unfold C.dK
 rcases n with _ | n<;>simp only [G.dK,reduceCtorEq] at h
 have z:=pp (pp ih ()) <| pp () <| pp () <| pp () <| pp () <| pp () <| ()
 exact jF
theorem F.dK {n:Nat} : ∀ {ag:Int} {r:aK},G.dK n ag=some r->dA pZ 71 [.one (wI ag)] (.one (wS r)):=F.Aa n
theorem F.bW {n:Nat} : ∀ {ag eG r},G.bW n ag eG=some r->dA pZ 107 [.agg (wN ag),.one (wS eG)] (.one (wI r)):=by
 intro ag eG r h
 refine aW K.bW (jB ?_)
 unfold C.bW
 rcases n with _ | n<;>simp only [G.bW,reduceCtorEq] at h
 have z:=pp (pp @F.dK ()) <| pp () <| pp (pp (@jA (Int) _ (fun n x=>G.bW.L1 n ag eG x) r (fun x=>bF.of [eS 1 eG,eP 2 103,eI 5 x] [(103,.var (wN ag))])) ()) <| pp () <| pp (pp (And.intro @G.bW.L1.eq_1 <| @G.bW.L1.eq_2) ()) <| pp (pp (@bn [] [(103,10)] []) <| pp (@bn [] [(103,103)] []) ()) <| ()
 exact jF
theorem F.dP {n:Nat} : ∀ {ag eG r},G.dP n ag eG=some r->dA pZ 117 [.agg (wN ag),.one (wS eG)] (.mG [(false,[wI r.1]),(false,[.c (.lit (.bool r.2))])]):=by
 intro ag eG r h
 refine aW K.dP (jB ?_)
 unfold C.dP
 rcases n with _ | n<;>simp only [G.dP,reduceCtorEq] at h
 have z:=pp (pp @F.bW <| pp @F.dK ()) <| pp () <| pp (pp (@jA (Int) _ (fun n x=>G.dP.L1 n ag eG x) r (fun x=>bF.of [eS 1 eG,eP 2 103,eI 7 x] [(103,.var (wN ag))])) <| pp (@jA (Int) _ (fun n x=>G.dP.L2 n ag eG x) r (fun x=>bF.of [eS 1 eG,eP 2 106,eI 7 x] [(106,.var (wN ag))])) ()) <| pp () <| pp (pp (And.intro @G.dP.L1.eq_1 <| And.intro @G.dP.L1.eq_2 <| And.intro @G.dP.L2.eq_1 <| @G.dP.L2.eq_2) ()) <| pp (pp (@bn [] [(103,10)] []) <| pp (@bn [] [(103,103)] []) <| pp (@bn [] [(106,10)] []) <| pp (@bn [] [(106,106)] []) ()) <| ()
 exact jF
theorem F.fG {n:Nat} : ∀ {ag yA pM r},G.fG n ag yA pM=some r->dA pZ 114 [.agg (wN ag),.one (wI yA),.agg (wN pM)] (.agg (wN r)):=by
 intro ag yA pM r h
 refine aW K.fG (jB ?_)
 unfold C.fG
 rcases n with _ | n<;>simp only [G.fG,reduceCtorEq] at h
 have z:=pp () <| pp (pp (pp @F.lH (@cG [] [101,102])) <| pp (pp @F.lH (@cG [] [103,104])) ()) <| pp () <| pp () <| pp () <| pp () <| ()
 exact jF
theorem F.Ac {n:Nat} : ∀ {ag yA pM r},G.fG n ag yA pM=some r->fU pZ 114 [.agg (wN ag),.one (wI yA),.agg (wN pM)] [] (fun r1 b1=>r1 = .agg [wI r.Kind,wI r.Num,wS r.Text,.own 0 r.Names.length 1,.own 1 r.Kids.length 5]/\b1=[.dat 1 (List.map cS r.Names),.dat 5 (List.map af.cells r.Kids)]):=by
 intro ag yA pM r h
 refine fD K.fG (jB ?_)
 unfold C.fG
 rcases n with _ | n<;>simp only [G.fG,reduceCtorEq] at h
 have z:=pp () <| pp (pp (pp @F.lH (@cG [] [101,102])) <| pp (pp @F.lH (@cG [] [103,104])) ()) <| pp () <| pp () <| pp () <| pp () <| (pp (@jE [] [(0,101),(1,102)] []) ())
 exact jF
theorem F.eY {n:Nat} : ∀ {ag eG gZ r},G.eY n ag eG gZ=some r->dA pZ 108 [.agg (wN ag),.one (wS eG),.agg (wN gZ)] (.mG [(true,(wN r.1)),(false,[.c (.lit (.bool r.2))])]):=by
 intro ag eG gZ r h
 refine aW K.eY (jB ?_)
 unfold C.eY
 rcases n with _ | n<;>simp only [G.eY,reduceCtorEq] at h
 have z:=pp (pp @F.dP <| pp @F.fG <| pp @F.ax ()) <| pp () <| pp () <| pp () <| pp () <| pp () <| ()
 exact jF
theorem F.zZ {n:Nat} : ∀ {ag eG gZ r},G.eY n ag eG gZ=some r->fU pZ 108 [.agg (wN ag),.one (wS eG),.agg (wN gZ)] [] (fun r1 b1=>r1 = .mG [(true,[wI r.1.Kind,wI r.1.Num,wS r.1.Text,.own 0 r.1.Names.length 1,.own 1 r.1.Kids.length 5]),(false,[.c (.lit (.bool r.2))])]/\b1=[.dat 1 (List.map cS r.1.Names),.dat 5 (List.map af.cells r.1.Kids)]):=by
 intro ag eG gZ r h
 refine fD K.eY (jB ?_)
 unfold C.eY
 rcases n with _ | n<;>simp only [G.eY,reduceCtorEq] at h
 have z:=pp (pp @F.dP <| pp @F.ax ()) <| pp (pp (pp @F.Ac (@cG [] [101,102])) ()) <| pp () <| pp () <| pp () <| pp () <| (pp (@jE [] [] [0,1]) <| pp (@jE [] [(0,101),(1,102)] []) <| pp (@jE [] [(0,19),(1,18)] []) <| pp (@jE [] [(0,24),(1,18)] []) ())
 exact jF
theorem F.bQ {n:Nat} : ∀ {aZ aj r},G.bQ n aZ aj=some r->fU pZ 81 [.one (.ptr 0 0),.one (wT aj)] [.var [.c (.sl 1 (List.map cU aZ.b)),wI aZ.p]] (fun r1 b1=>r1 = .one (wS r.1)/\b1=[.var [.c (.sl 1 (List.map cU r.2.b)),wI r.2.p]]):=by
 intro aZ aj r h
 refine fD K.bQ (jB ?_)
 unfold C.bQ
 rcases n with _ | n<;>simp only [G.bQ,reduceCtorEq] at h
 have z:=pp () <| pp (pp (pp @F.ai (@cG [0] [])) ()) <| pp () <| pp () <| pp () <| pp () <| (pp (@jE [] [(0,0)] []) ())
 exact jF
theorem F.iG {n:Nat} : ∀ {aZ r},G.iG n aZ=some r->fU pZ 105 [.one (.ptr 0 0)] [.var [.c (.sl 1 (List.map cU aZ.b)),wI aZ.p]] (fun r1 b1=>r1 = .one (wS r.1)/\b1=[.var [.c (.sl 1 (List.map cU r.2.b)),wI r.2.p]]):=by
 intro aZ r h
 refine fD K.iG (jB ?_)
 unfold C.iG
 rcases n with _ | n<;>simp only [G.iG,reduceCtorEq] at h
 have z:=pp () <| pp (pp (pp @F.bQ (@cH [0] [])) ()) <| pp () <| pp () <| pp () <| pp () <| (pp (@jE [] [(0,0)] []) ())
 exact jF
theorem F.iF {n:Nat} : ∀ {aZ r},G.iF n aZ=some r->fU pZ 106 [.one (.ptr 0 0)] [.var [.c (.sl 1 (List.map cU aZ.b)),wI aZ.p]] (fun r1 b1=>r1 = .one (wS r.1)/\b1=[.var [.c (.sl 1 (List.map cU r.2.b)),wI r.2.p]]):=by
 intro aZ r h
 refine fD K.iF (jB ?_)
 unfold C.iF
 rcases n with _ | n<;>simp only [G.iF,reduceCtorEq] at h
 have z:=pp () <| pp (pp (pp @F.bQ (@cH [0] [])) ()) <| pp () <| pp () <| pp () <| pp () <| (pp (@jE [] [(0,0)] []) ())
 exact jF
theorem F.og:∀ (n:Nat),(∀ {aZ aJ r},G.bg n aZ aJ=some r->fU pZ 85 [.one (.ptr 0 0),.one (wI aJ)] [.var [.c (.sl 1 (List.map cU aZ.b)),wI aZ.p]] (fun r1 b1=>r1 = .agg (wN r.1)/\b1=[.var [.c (.sl 1 (List.map cU r.2.b)),wI r.2.p]]))/\(∀ {aZ aJ r},G.aB n aZ aJ=some r->fU pZ 84 [.one (.ptr 0 0),.one (wI aJ)] [.var [.c (.sl 1 (List.map cU aZ.b)),wI aZ.p]] (fun r1 b1=>r1 = .agg (wN r.1)/\b1=[.var [.c (.sl 1 (List.map cU r.2.b)),wI r.2.p]])):=by
 intro n
 induction n using Nat.strongRecOn with | _ n ih =>
 refine ⟨?_,?_⟩
 ·intro aZ aJ r h
  refine fD K.bg (jB ?_)
  unfold C.bg
  rcases n with _ | n<;>simp only [G.bg,reduceCtorEq] at h
  have z:=pp (pp @F.bW <| pp @F.eY ()) <| pp (pp (pp (ihR ih) (@cG [0] [])) <| pp (pp @F.bI (@cH [0] [])) <| pp (pp @F.iF (@cG [0] [])) ()) <| pp (pp (@jA (Int × List Int × Int × Int × Int × aK × List aK × List af) _ (fun n x=>G.bg.L1 n aJ x.1 x.2.1 x.2.2.1 x.2.2.2.1 x.2.2.2.2.1 x.2.2.2.2.2.1 x.2.2.2.2.2.2.1 x.2.2.2.2.2.2.2) r (fun x=>bF.of [eP 0 0,eI 1 aJ,eP 4 107,eP 5 108,eI 6 x.1] [(0,.var [.c (.sl 1 (List.map cU x.2.1)),wI x.2.2.1]),(107,.var zN),(108,.var [wI x.2.2.2.1,wI x.2.2.2.2.1,wS x.2.2.2.2.2.1,wT x.2.2.2.2.2.2.1,wK x.2.2.2.2.2.2.2])])) ()) <| pp () <| pp (pp (And.intro @G.bg.L1.eq_1 <| @G.bg.L1.eq_2) ()) <| pp (pp (@bn [11,12] [(0,0),(107,10),(108,13)] []) <| pp (@bn [] [(0,0),(107,107),(108,108)] []) ()) <| (pp (@jE [] [(0,0)] []) ())
  exact jF
 ·intro aZ aJ r h
  refine fD K.aB (jB ?_)
  unfold C.aB
  rcases n with _ | n<;>simp only [G.aB,reduceCtorEq] at h
  have z:=pp () <| pp (pp (pp (ihR ih) (@cG [0] [])) <| pp (pp (ihL ih) (@cG [0] [])) <| pp (pp @F.ai (@cG [0] [])) <| pp (pp @F.bI (@cH [0] [])) <| pp (pp @F.iG (@cG [0] [])) ()) <| pp (pp (@jA (Int × Int × List Int × Int × List af) _ (fun n x=>G.aB.L2 n aJ x.1 x.2.1 x.2.2.1 x.2.2.2.1 x.2.2.2.2) r (fun x=>bF.of [eP 0 0,eI 1 aJ,eP 4 106,eI 5 x.1,(6,.v true (.one (.own 107 x.2.2.2.2.length 5))),eI 7 x.2.1] [(0,.var [.c (.sl 1 (List.map cU x.2.2.1)),wI x.2.2.2.1]),(106,.var zN),(107,.dat 5 (List.map af.cells x.2.2.2.2))])) ()) <| pp (pp (@lg (Int × List Int × Int) _ (fun n x=>G.aB.K1 n aJ x.1 x.2.1 x.2.2) r (fun x=>bF.of [eP 0 0,eI 1 aJ,eP 4 101,eI 5 x.1] [(0,.var [.c (.sl 1 (List.map cU x.2.1)),wI x.2.2]),(101,.var zN)])) ()) <| pp (pp (And.intro @G.aB.K1.eq_1 <| And.intro @G.aB.K1.eq_2 <| And.intro @G.aB.L2.eq_1 <| @G.aB.L2.eq_2) ()) <| pp (pp (@bn [] [(0,0),(101,10)] []) <| pp (@bn [] [(0,0),(106,101),(107,12)] []) <| pp (@bn [] [(0,0),(106,106),(107,14)] []) ()) <| (pp (@jE [] [(0,0)] []) <| pp (@jE [15,107] [(0,0)] []) ())
  exact jF
theorem F.bg {n:Nat} : ∀ {aZ:ReaderT} {aJ:Int} {r:af × ReaderT},G.bg n aZ aJ=some r->fU pZ 85 [.one (.ptr 0 0),.one (wI aJ)] [.var [.c (.sl 1 (List.map cU aZ.b)),wI aZ.p]] (fun r1 b1=>r1 = .agg (wN r.1)/\b1=[.var [.c (.sl 1 (List.map cU r.2.b)),wI r.2.p]]):=(F.og n).1
theorem F.aB {n:Nat} : ∀ {aZ:ReaderT} {aJ:Int} {r:af × ReaderT},G.aB n aZ aJ=some r->fU pZ 84 [.one (.ptr 0 0),.one (wI aJ)] [.var [.c (.sl 1 (List.map cU aZ.b)),wI aZ.p]] (fun r1 b1=>r1 = .agg (wN r.1)/\b1=[.var [.c (.sl 1 (List.map cU r.2.b)),wI r.2.p]]):=(F.og n).2
theorem F.pz {n:Nat} : ∀ {aZ aJ r},G.bg n aZ aJ=some r->fU pZ 85 [.one (.ptr 0 0),.one (wI aJ)] [.var [.c (.sl 1 (List.map cU aZ.b)),wI aZ.p]] (fun r1 b1=>r1 = .agg [wI r.1.Kind,wI r.1.Num,wS r.1.Text,.own 1 r.1.Names.length 1,.own 2 r.1.Kids.length 5]/\b1=[.var [.c (.sl 1 (List.map cU r.2.b)),wI r.2.p],.dat 1 (List.map cS r.1.Names),.dat 5 (List.map af.cells r.1.Kids)]):=by
 intro aZ aJ r h
 refine fD K.bg (jB ?_)
 unfold C.bg
 rcases n with _ | n<;>simp only [G.bg,reduceCtorEq] at h
 have z:=pp (pp @F.bW ()) <| pp (pp (pp @F.bI (@cH [0] [])) <| pp (pp @F.iF (@cG [0] [])) <| pp (pp @F.aB (@cG [0] [])) <| pp (pp @F.zZ (@cH [] [117,118])) ()) <| pp (pp (@jA (Int × List Int × Int × Int × Int × aK × List aK × List af) _ (fun n x=>G.bg.L1 n aJ x.1 x.2.1 x.2.2.1 x.2.2.2.1 x.2.2.2.2.1 x.2.2.2.2.2.1 x.2.2.2.2.2.2.1 x.2.2.2.2.2.2.2) r (fun x=>bF.of [eP 0 0,eI 1 aJ,eP 4 113,eP 5 114,eI 6 x.1] [(0,.var [.c (.sl 1 (List.map cU x.2.1)),wI x.2.2.1]),(113,.var zN),(114,.var [wI x.2.2.2.1,wI x.2.2.2.2.1,wS x.2.2.2.2.2.1,.own 115 x.2.2.2.2.2.2.1.length 1,.own 116 x.2.2.2.2.2.2.2.length 5]),(115,.dat 1 (List.map cS x.2.2.2.2.2.2.1)),(116,.dat 5 (List.map af.cells x.2.2.2.2.2.2.2))])) ()) <| pp () <| pp (pp (And.intro @G.bg.L1.eq_1 <| @G.bg.L1.eq_2) ()) <| pp (pp (@bn [] [(0,0),(113,10),(114,13),(115,11),(116,12)] []) <| pp (@bn [] [(0,0),(113,113),(114,114),(115,117),(116,118)] []) <| pp (@bn [] [(0,0),(113,113),(114,114),(115,115),(116,116)] []) ()) <| (pp (@jE [] [(0,0),(1,115),(2,116)] []) ())
 exact jF
theorem F.vP {n:Nat} : ∀ {aZ aJ r},G.aB n aZ aJ=some r->fU pZ 84 [.one (.ptr 0 0),.one (wI aJ)] [.var [.c (.sl 1 (List.map cU aZ.b)),wI aZ.p]] (fun r1 b1=>r1 = .agg [wI r.1.Kind,wI r.1.Num,wS r.1.Text,.own 1 r.1.Names.length 1,.own 2 r.1.Kids.length 5]/\b1=[.var [.c (.sl 1 (List.map cU r.2.b)),wI r.2.p],.dat 1 (List.map cS r.1.Names),.dat 5 (List.map af.cells r.1.Kids)]):=by
 intro aZ aJ r h
 refine fD K.aB (jB ?_)
 unfold C.aB
 rcases n with _ | n<;>simp only [G.aB,reduceCtorEq] at h
 have z:=pp () <| pp (pp (pp @F.ai (@cG [0] [])) <| pp (pp @F.bI (@cH [0] [])) <| pp (pp @F.iG (@cG [0] [])) <| pp (pp @F.aB (@cG [0] [])) <| pp (pp @F.pz (@cG [0] [108,109])) ()) <| pp (pp (@jA (Int × Int × List Int × Int × List af) _ (fun n x=>G.aB.L2 n aJ x.1 x.2.1 x.2.2.1 x.2.2.2.1 x.2.2.2.2) r (fun x=>bF.of [eP 0 0,eI 1 aJ,eP 4 106,eI 5 x.1,(6,.v true (.one (.own 107 x.2.2.2.2.length 5))),eI 7 x.2.1] [(0,.var [.c (.sl 1 (List.map cU x.2.2.1)),wI x.2.2.2.1]),(106,.var zN),(107,.dat 5 (List.map af.cells x.2.2.2.2))])) ()) <| pp (pp (@lg (Int × List Int × Int) _ (fun n x=>G.aB.K1 n aJ x.1 x.2.1 x.2.2) r (fun x=>bF.of [eP 0 0,eI 1 aJ,eP 4 101,eI 5 x.1] [(0,.var [.c (.sl 1 (List.map cU x.2.1)),wI x.2.2]),(101,.var zN)])) ()) <| pp (pp (And.intro @G.aB.K1.eq_1 <| And.intro @G.aB.K1.eq_2 <| And.intro @G.aB.L2.eq_1 <| @G.aB.L2.eq_2) ()) <| pp (pp (@bn [] [(0,0),(101,10)] []) <| pp (@bn [] [(0,0),(106,101),(107,12)] []) <| pp (@bn [] [(0,0),(106,106),(107,14)] []) ()) <| (pp (@jE [] [(0,0)] [1,2]) <| pp (@jE [] [(0,0),(1,15),(2,107)] []) <| pp (@jE [] [(0,0),(1,108),(2,109)] []) ())
 exact jF
theorem F.D6:∀ (n:Nat),∀ {ag r},G.eH n ag=some r->dA pZ 40 [.agg (wN ag)] (.one (wI r)):=by
 intro n
 induction n using Nat.strongRecOn with | _ n ih =>
 intro ag r h
 refine aW K.eH (jB ?_)
 unfold C.eH
 rcases n with _ | n<;>simp only [G.eH,reduceCtorEq] at h
 have z:=pp (pp ih ()) <| pp () <| pp (pp (@jA (Int × Int) _ (fun n x=>G.eH.L1 n ag x.1 x.2) r (fun x=>bF.of [eP 1 103,eI 3 x.1,eI 4 x.2] [(103,.var (wN ag))])) ()) <| pp () <| pp (pp (And.intro @G.eH.L1.eq_1 <| @G.eH.L1.eq_2) ()) <| pp (pp (@bn [] [(103,10)] []) <| pp (@bn [] [(103,103)] []) ()) <| ()
 exact jF
theorem F.eH {n:Nat} : ∀ {ag:af} {r:Int},G.eH n ag=some r->dA pZ 40 [.agg (wN ag)] (.one (wI r)):=F.D6 n
theorem F.bu {n:Nat} : ∀ {ag yB uU r},G.bu n ag yB uU=some r->dA pZ 35 [.one (wI ag),.one (wI yB),.one (wI uU)] (.one (.c (.lit (.bool r)))):=by
 intro ag yB uU r h
 refine aW K.bu (jB ?_)
 unfold C.bu
 rcases n with _ | n<;>simp only [G.bu,reduceCtorEq] at h
 have z:=pp () <| pp () <| pp () <| pp () <| pp () <| pp () <| ()
 exact jF
theorem F.bG {n:Nat} : ∀ {aF r},G.bG n aF=some r->dA pZ 68 [.one (wS aF)] (.one (.c (.lit (.bool r)))):=by
 intro aF r h
 refine aW K.bG (jB ?_)
 unfold C.bG
 rcases n with _ | n<;>simp only [G.bG,reduceCtorEq] at h
 have z:=pp (pp @F.bu ()) <| pp () <| pp (pp (@jA (Int) _ (fun n x=>G.bG.L1 n aF x) r (fun x=>bF.of [eS 0 aF,eI 3 x] [])) ()) <| pp () <| pp (pp (And.intro @G.bG.L1.eq_1 <| @G.bG.L1.eq_2) ()) <| pp (pp (@bn [] [] []) ()) <| ()
 exact jF
theorem F.fM {n:Nat} : ∀ {aj r},G.fM n aj=some r->dA pZ 70 [.one (wT aj)] (.one (.c (.lit (.bool r)))):=by
 intro aj r h
 refine aW K.fM (jB ?_)
 unfold C.fM
 rcases n with _ | n<;>simp only [G.fM,reduceCtorEq] at h
 have z:=pp (pp @F.bG ()) <| pp () <| pp (pp (@jA (Int) _ (fun n x=>G.fM.L1 n aj x) r (fun x=>bF.of [eT 0 aj,eI 3 x] [])) ()) <| pp () <| pp (pp (And.intro @G.fM.L1.eq_1 <| @G.fM.L1.eq_2) ()) <| pp (pp (@bn [] [] []) ()) <| ()
 exact jF
theorem F.AL:∀ (n:Nat),(∀ {ag aJ r},G.gV n ag aJ=some r->dA pZ 69 [.agg (wN ag),.one (wI aJ)] (.one (.c (.lit (.bool r)))))/\(∀ {ag aJ r},G.bT n ag aJ=some r->dA pZ 39 [.agg (wN ag),.one (wI aJ)] (.one (.c (.lit (.bool r))))):=by
 intro n
 induction n using Nat.strongRecOn with | _ n ih =>
 refine ⟨?_,?_⟩
 ·intro ag aJ r h
  refine aW K.gV (jB ?_)
  unfold C.gV
  rcases n with _ | n<;>simp only [G.gV,reduceCtorEq] at h
  have z:=pp (pp ((ihR ih)) ()) <| pp () <| pp (pp (@jA (Int) _ (fun n x=>G.gV.L1 n ag aJ x) r (fun x=>bF.of [eI 1 aJ,eP 2 103,eI 5 x] [(103,.var (wN ag))])) ()) <| pp () <| pp (pp (And.intro @G.gV.L1.eq_1 <| @G.gV.L1.eq_2) ()) <| pp (pp (@bn [] [(103,10)] []) <| pp (@bn [] [(103,103)] []) ()) <| ()
  exact jF
 ·intro ag aJ r h
  refine aW K.bT (jB ?_)
  unfold C.bT
  rcases n with _ | n<;>simp only [G.bT,reduceCtorEq] at h
  have z:=pp (pp ((ihL ih)) <| pp @F.bu <| pp @F.bG <| pp @F.fM ()) <| pp () <| pp () <| pp (pp (@lg (Unit) _ (fun n x=>G.bT.K1 n ag aJ) r (fun x=>bF.of [eI 1 aJ,eP 2 101,(54,.v true (.one (.c (.lit (.bool false)))))] [(101,.var (wN ag))])) ()) <| pp (pp (And.intro @G.bT.K1.eq_1 <| @G.bT.K1.eq_2) ()) <| pp (pp (@bn [] [(101,10)] []) ()) <| ()
  exact jF
theorem F.bT {n:Nat} : ∀ {ag:af} {aJ:Int} {r:Bool},G.bT n ag aJ=some r->dA pZ 39 [.agg (wN ag),.one (wI aJ)] (.one (.c (.lit (.bool r)))):=(F.AL n).2
theorem F.aS {n:Nat} : ∀ {ag r},G.aS n ag=some r->dA pZ 18 [.agg (wN ag)] (.one (.c (.lit (.bool r)))):=by
 intro ag r h
 refine aW K.aS (jB ?_)
 unfold C.aS
 rcases n with _ | n<;>simp only [G.aS,reduceCtorEq] at h
 have z:=pp (pp @F.bT <| pp @F.eH ()) <| pp () <| pp () <| pp () <| pp () <| pp () <| ()
 exact jF
theorem F.bM {n:Nat} : ∀ {aZ r},G.bM n aZ=some r->fU pZ 56 [.one (.ptr 0 0)] [.var [.c (.sl 1 (List.map cU aZ.b)),wI aZ.p]] (fun r1 b1=>r1 = .agg (wN r.1)/\b1=[.var [.c (.sl 1 (List.map cU r.2.b)),wI r.2.p]]):=by
 intro aZ r h
 refine fD K.bM (jB ?_)
 unfold C.bM
 rcases n with _ | n<;>simp only [G.bM,reduceCtorEq] at h
 have z:=pp (pp @F.aS ()) <| pp (pp (pp @F.aB (@cG [0] [])) <| pp (pp @F.ai (@cG [0] [])) <| pp (pp @F.bg (@cG [0] [])) ()) <| pp () <| pp (pp (@lg (List Int × Int × Int × Int × aK × List aK × List af) _ (fun n x=>G.bM.K1 n x.1 x.2.1 x.2.2.1 x.2.2.2.1 x.2.2.2.2.1 x.2.2.2.2.2.1 x.2.2.2.2.2.2) r (fun x=>bF.of [eP 2 101,eP 3 102] [(0,.var [.c (.sl 1 (List.map cU x.1)),wI x.2.1]),(101,.var zN),(102,.var [wI x.2.2.1,wI x.2.2.2.1,wS x.2.2.2.2.1,wT x.2.2.2.2.2.1,wK x.2.2.2.2.2.2])])) ()) <| pp (pp (And.intro @G.bM.K1.eq_1 <| @G.bM.K1.eq_2) ()) <| pp (pp (@bn [] [(0,0),(101,10),(102,11)] []) ()) <| (pp (@jE [] [(0,0)] []) ())
 exact jF
theorem F.xX {n:Nat} : ∀ {aZ r},G.bM n aZ=some r->fU pZ 56 [.one (.ptr 0 0)] [.var [.c (.sl 1 (List.map cU aZ.b)),wI aZ.p]] (fun r1 b1=>r1 = .agg [wI r.1.Kind,wI r.1.Num,wS r.1.Text,.own 1 r.1.Names.length 1,.own 2 r.1.Kids.length 5]/\b1=[.var [.c (.sl 1 (List.map cU r.2.b)),wI r.2.p],.dat 1 (List.map cS r.1.Names),.dat 5 (List.map af.cells r.1.Kids)]):=by
 intro aZ r h
 refine fD K.bM (jB ?_)
 unfold C.bM
 rcases n with _ | n<;>simp only [G.bM,reduceCtorEq] at h
 have z:=pp (pp @F.aS ()) <| pp (pp (pp @F.vP (@cG [0] [101,102])) <| pp (pp @F.ai (@cG [0] [])) <| pp (pp @F.pz (@cG [0] [109,110])) ()) <| pp () <| pp (pp (@lg (List Int × Int × Int × Int × aK × List aK × List af) _ (fun n x=>G.bM.K1 n x.1 x.2.1 x.2.2.1 x.2.2.2.1 x.2.2.2.2.1 x.2.2.2.2.2.1 x.2.2.2.2.2.2) r (fun x=>bF.of [eP 2 105,eP 3 106] [(0,.var [.c (.sl 1 (List.map cU x.1)),wI x.2.1]),(105,.var zN),(106,.var [wI x.2.2.1,wI x.2.2.2.1,wS x.2.2.2.2.1,.own 107 x.2.2.2.2.2.1.length 1,.own 108 x.2.2.2.2.2.2.length 5]),(107,.dat 1 (List.map cS x.2.2.2.2.2.1)),(108,.dat 5 (List.map af.cells x.2.2.2.2.2.2))])) ()) <| pp (pp (And.intro @G.bM.K1.eq_1 <| @G.bM.K1.eq_2) ()) <| pp (pp (@bn [] [(0,0),(105,10),(106,11),(107,109),(108,110)] []) <| pp (@bn [] [(0,0),(105,10),(106,11),(107,101),(108,102)] []) ()) <| (pp (@jE [] [(0,0),(1,107),(2,108)] []) <| pp (@jE [] [(0,0)] [1,2]) ())
 exact jF
theorem F.fF {n:Nat} : ∀ {aZ r},G.fF n aZ=some r->fU pZ 53 [.one (.ptr 0 0)] [.var [.c (.sl 1 (List.map cU aZ.b)),wI aZ.p]] (fun r1 b1=>r1 = .agg (wN r.1)/\b1=[.var [.c (.sl 1 (List.map cU r.2.b)),wI r.2.p]]):=by
 intro aZ r h
 refine fD K.fF (jB ?_)
 unfold C.fF
 rcases n with _ | n<;>simp only [G.fF,reduceCtorEq] at h
 have z:=pp (pp @F.ax ()) <| pp (pp (pp @F.xX (@cG [0] [101,102])) <| pp (pp @F.ai (@cG [0] [])) <| pp (pp @F.bI (@cH [0] [])) ()) <| pp (pp (@jA ((af × ReaderT) × Int × List Int × Int × List af) _ (fun n x=>G.fF.L1 n x.1 x.2.1 x.2.2.1 x.2.2.2.1 x.2.2.2.2) r (fun x=>bF.of [eP 0 0,eP 2 113,eP 3 114,(4,.v true (.one (.own 115 x.2.2.2.2.length 5))),eI 5 x.2.1] [(0,.var [.c (.sl 1 (List.map cU x.2.2.1)),wI x.2.2.2.1]),(113,.var zN),(114,.var [wI x.1.1.Kind,wI x.1.1.Num,wS x.1.1.Text,.own 116 x.1.1.Names.length 1,.own 117 x.1.1.Kids.length 5]),(115,.dat 5 (List.map af.cells x.2.2.2.2)),(116,.mX 1 (List.map cS x.1.1.Names)),(117,.mX 5 (List.map af.cells x.1.1.Kids))])) ()) <| pp () <| pp (pp (And.intro @G.fF.L1.eq_1 <| @G.fF.L1.eq_2) ()) <| pp (pp (@bn [101,102] [(0,0),(113,10),(114,11),(115,20),(116,101),(117,102)] []) <| pp (@bn [] [(0,0),(113,113),(114,114),(115,22),(116,116),(117,117)] []) ()) <| (pp (@jE [101,102] [(0,0)] []) <| pp (@jE [15,102] [(0,0)] []) <| pp (@jE [19] [(0,0)] []) <| pp (@jE [115] [(0,0)] []) ())
 exact jF
theorem F.gW {n:Nat} : ∀ {aZ r},G.gW n aZ=some r->fU pZ 52 [.one (.ptr 0 0)] [.var [.c (.sl 1 (List.map cU aZ.b)),wI aZ.p]] (fun r1 b1=>r1 = .one (wS r.1)/\b1=[.var [.c (.sl 1 (List.map cU r.2.b)),wI r.2.p]]):=by
 intro aZ r h
 refine fD K.gW (jB ?_)
 unfold C.gW
 rcases n with _ | n<;>simp only [G.gW,reduceCtorEq] at h
 have z:=pp () <| pp (pp (pp @F.bQ (@cH [0] [])) ()) <| pp () <| pp () <| pp () <| pp () <| (pp (@jE [] [(0,0)] []) ())
 exact jF
theorem F.bP {n:Nat} : ∀ {aF r},G.bP n aF=some r->dA pZ 96 [.agg [.c (.sl 7 (List.map bY.cells aF.Items)),wI aF.Clock]] (.agg [.c (.sl 7 (List.map bY.cells r.Items)),wI r.Clock]):=by
 intro aF r h
 refine aW K.bP (jB ?_)
 unfold C.bP
 rcases n with _ | n<;>simp only [G.bP,reduceCtorEq] at h
 have z:=pp (pp @F.ax ()) <| pp () <| pp (pp (@jA (Int × List bY) _ (fun n x=>G.bP.L1 n aF x.1 x.2) r (fun x=>bF.of [eP 1 107,eP 2 108,(3,.v true (.one (.own 109 x.2.length 7))),eI 4 x.1] [(107,.var [.c (.sl 7 (List.map bY.cells aF.Items)),wI aF.Clock]),(108,.var [.fH 7,wI 0]),(109,.dat 7 (List.map bY.cells x.2))])) ()) <| pp () <| pp (pp (And.intro @G.bP.L1.eq_1 <| @G.bP.L1.eq_2) ()) <| pp (pp (@bn [] [(107,10),(108,11),(109,12)] []) <| pp (@bn [] [(107,107),(108,108),(109,14)] []) ()) <| ()
 exact jF
theorem F.gq {n:Nat} : ∀ {aF dh r},G.gq n aF dh=some r->dA pZ 86 [.agg [.c (.sl 7 (List.map bY.cells aF.Items)),wI aF.Clock],.one (wS dh)] (.one (wI r)):=by
 intro aF dh r h
 refine aW K.gq (jB ?_)
 unfold C.gq
 rcases n with _ | n<;>simp only [G.gq,reduceCtorEq] at h
 have z:=pp () <| pp () <| pp (pp (@jA (Int) _ (fun n x=>G.gq.L1 n aF dh x) r (fun x=>bF.of [eS 1 dh,eP 2 103,eI 5 x] [(103,.var [.c (.sl 7 (List.map bY.cells aF.Items)),wI aF.Clock])])) ()) <| pp () <| pp (pp (And.intro @G.gq.L1.eq_1 <| @G.gq.L1.eq_2) ()) <| pp (pp (@bn [] [(103,10)] []) <| pp (@bn [] [(103,103)] []) ()) <| ()
 exact jF
theorem F.bD {n:Nat} : ∀ {aF r},G.bD n aF=some r->dA pZ 36 [.one (wS aF)] (.one (.c (.lit (.bool r)))):=by
 intro aF r h
 refine aW K.bD (jB ?_)
 unfold C.bD
 rcases n with _ | n<;>simp only [G.bD,reduceCtorEq] at h
 have z:=pp (pp @F.bu ()) <| pp () <| pp (pp (@jA (Int) _ (fun n x=>G.bD.L1 n aF x) r (fun x=>bF.of [eS 0 aF,eI 3 x] [])) ()) <| pp () <| pp (pp (And.intro @G.bD.L1.eq_1 <| @G.bD.L1.eq_2) ()) <| pp (pp (@bn [] [] []) ()) <| ()
 exact jF
theorem F.aY {n:Nat} : ∀ {aF r},G.aY n aF=some r->dA pZ 82 [.agg [.c (.sl 7 (List.map bY.cells aF.Items)),wI aF.Clock]] (.one (.c (.lit (.bool r)))):=by
 intro aF r h
 refine aW K.aY (jB ?_)
 unfold C.aY
 rcases n with _ | n<;>simp only [G.aY,reduceCtorEq] at h
 have z:=pp (pp @F.bD <| pp @F.aS <| pp @F.bu ()) <| pp () <| pp (pp (@jA (Int) _ (fun n x=>G.aY.L1 n aF x) r (fun x=>bF.of [eP 1 103,eI 3 x] [(103,.var [.c (.sl 7 (List.map bY.cells aF.Items)),wI aF.Clock])])) ()) <| pp () <| pp (pp (And.intro @G.aY.L1.eq_1 <| @G.aY.L1.eq_2) ()) <| pp (pp (@bn [] [(103,10)] []) <| pp (@bn [] [(103,103)] []) ()) <| ()
 exact jF
theorem F.iI {n:Nat} : ∀ {aF dh r},G.iI n aF dh=some r->dA pZ 76 [.agg [.c (.sl 7 (List.map bY.cells aF.Items)),wI aF.Clock],.one (wS dh)] (.mG [(true,[wS r.1.Name,wI r.1.Version,wI r.1.Node.Kind,wI r.1.Node.Num,wS r.1.Node.Text,wT r.1.Node.Names,wK r.1.Node.Kids]),(false,[.c (.lit (.bool r.2))])]):=by
 intro aF dh r h
 refine aW K.iI (jB ?_)
 unfold C.iI
 rcases n with _ | n<;>simp only [G.iI,reduceCtorEq] at h
 have z:=pp (pp @F.aY <| pp @F.gq <| pp @F.bP ()) <| pp () <| pp () <| pp () <| pp () <| pp () <| ()
 exact jF
theorem F.eU {n:Nat} : ∀ {aF r},G.eU n aF=some r->dA pZ 72 [.one (wS aF)] (.one (wS r)):=by
 intro aF r h
 refine aW K.eU (jB ?_)
 unfold C.eU
 rcases n with _ | n<;>simp only [G.eU,reduceCtorEq] at h
 have z:=pp () <| pp () <| pp (pp (@jA (aK × Int) _ (fun n x=>G.eU.L1 n aF x.1 x.2) r (fun x=>bF.of [eS 0 aF,eS 3 x.1,eI 4 x.2] [])) ()) <| pp () <| pp (pp (And.intro @G.eU.L1.eq_1 <| @G.eU.L1.eq_2) ()) <| pp (pp (@bn [] [] []) ()) <| ()
 exact jF
theorem F.AU:∀ (n:Nat),∀ {ag r},G.aP n ag=some r->dA pZ 47 [.agg (wN ag)] (.one (wS r)):=by
 intro n
 induction n using Nat.strongRecOn with | _ n ih =>
 intro ag r h
 refine aW K.aP (jB ?_)
 unfold C.aP
 rcases n with _ | n<;>simp only [G.aP,reduceCtorEq] at h
 have:=Mk.mk 1; have:=Mk.mk 2
 have z:=pp (pp ih <| pp @F.dK <| pp @F.eU ()) <| pp () <| pp (pp (@jA (aK × Int) _ (fun n x=>G.aP.L5 n ag x.1 x.2) r (fun x=>bF.of [eP 1 107,eS 3 x.1,eI 4 x.2] [(107,.var (wN ag))])) ()) <| pp (pp (@lg (Int × aK) _ (fun n x=>G.aP.K6 n ag x.1 x.2) r (fun x=>bF.of [eP 1 108,eS 3 x.2,eI 4 x.1] [(108,.var (wN ag))])) <| pp (@lg (Int × aK) _ (fun n x=>G.aP.K7 n ag x.1 x.2) r (fun x=>bF.of [eP 1 109,eS 3 x.2,eI 4 x.1] [(109,.var (wN ag))])) ()) <| pp (pp (And.intro @G.aP.L5.eq_1 <| And.intro @G.aP.L5.eq_2 <| And.intro @G.aP.K6.eq_1 <| And.intro @G.aP.K6.eq_2 <| And.intro @G.aP.K7.eq_1 <| @G.aP.K7.eq_2) ()) <| pp (pp (@bn [] [(107,10)] []) <| pp (@bn [] [(108,107)] []) <| pp (@bn [] [(109,108)] []) <| pp (@bn [] [(107,109)] []) ()) <| pp () <| (pp (pp (rfl : @G.aP.K6=_) <| pp (rfl : @G.aP.L5=_) <| pp (rfl : @G.aP.K7=_) ()) <| pp (pp (rfl : @G.aP.K7=_) <| pp (rfl : @G.aP.K6=_) <| pp (rfl : @G.aP.L5=_) ()) ())
 exact Lt
theorem F.aP {n:Nat} : ∀ {ag:af} {r:aK},G.aP n ag=some r->dA pZ 47 [.agg (wN ag)] (.one (wS r)):=F.AU n
theorem F.jT {n:Nat} : ∀ {ag r},G.jT n ag=some r->dA pZ 97 [.one (wI ag)] (.one (wS r)):=by
 intro ag r h
 refine aW K.jT (jB ?_)
 unfold C.jT
 rcases n with _ | n<;>simp only [G.jT,reduceCtorEq] at h
 have z:=pp () <| pp () <| pp () <| pp () <| pp () <| pp () <| ()
 exact jF
theorem F.gz {n:Nat} : ∀ {aF r},G.gz n aF=some r->dA pZ 98 [.one (wS aF)] (.one (wI r)):=by
 intro aF r h
 refine aW K.gz (jB ?_)
 unfold C.gz
 rcases n with _ | n<;>simp only [G.gz,reduceCtorEq] at h
 have z:=pp () <| pp () <| pp (pp (@jA (Int × Int) _ (fun n x=>G.gz.L1 n aF x.1 x.2) r (fun x=>bF.of [eS 0 aF,eI 3 x.1,eI 4 x.2] [])) ()) <| pp () <| pp (pp (And.intro @G.gz.L1.eq_1 <| @G.gz.L1.eq_2) ()) <| pp (pp (@bn [] [] []) ()) <| ()
 exact jF
theorem F.iR {n:Nat} : ∀ {ag r},G.iR n ag=some r->dA pZ 78 [.agg (wN ag)] (.one (wS r)):=by
 intro ag r h
 refine aW K.iR (jB ?_)
 unfold C.iR
 rcases n with _ | n<;>simp only [G.iR,reduceCtorEq] at h
 have z:=pp (pp @F.aS <| pp @F.aP <| pp @F.gz <| pp @F.jT ()) <| pp () <| pp () <| pp () <| pp () <| pp () <| ()
 exact jF
theorem F.fB {n:Nat} : ∀ {aZ nV r},G.fB n aZ nV=some r->fU pZ 77 [.one (.ptr 0 0),.one (wS nV)] [.var [.c (.sl 1 (List.map cU aZ.b)),wI aZ.p]] (fun r1 b1=>r1 = .one (wT r.1)/\b1=[.var [.c (.sl 1 (List.map cU r.2.b)),wI r.2.p]]):=by
 intro aZ nV r h
 refine fD K.fB (jB ?_)
 unfold C.fB
 rcases n with _ | n<;>simp only [G.fB,reduceCtorEq] at h
 have z:=pp () <| pp (pp (pp @F.bI (@cH [0] [])) <| pp (pp @F.bQ (@cH [0] [])) <| pp (pp @F.ai (@cG [0] [])) ()) <| pp (pp (@jA (Int × List Int × Int × List aK) _ (fun n x=>G.fB.L1 n nV x.1 x.2.1 x.2.2.1 x.2.2.2) r (fun x=>bF.of [eP 0 0,eS 1 nV,(5,.v true (.one (.own 103 x.2.2.2.length 1))),eI 6 x.1] [(0,.var [.c (.sl 1 (List.map cU x.2.1)),wI x.2.2.1]),(103,.dat 1 (List.map cS x.2.2.2))])) ()) <| pp () <| pp (pp (And.intro @G.fB.L1.eq_1 <| @G.fB.L1.eq_2) ()) <| pp (pp (@bn [] [(0,0),(103,10)] []) <| pp (@bn [] [(0,0),(103,14)] []) ()) <| (pp (@jE [103] [(0,0)] []) ())
 exact jF
theorem F.gm {n:Nat} : ∀ {aZ r},G.gm n aZ=some r->fU pZ 55 [.one (.ptr 0 0)] [.var [.c (.sl 1 (List.map cU aZ.b)),wI aZ.p]] (fun r1 b1=>r1 = .one (wS r.1)/\b1=[.var [.c (.sl 1 (List.map cU r.2.b)),wI r.2.p]]):=by
 intro aZ r h
 refine fD K.gm (jB ?_)
 unfold C.gm
 rcases n with _ | n<;>simp only [G.gm,reduceCtorEq] at h
 have z:=pp () <| pp (pp (pp @F.bQ (@cH [0] [])) ()) <| pp () <| pp () <| pp () <| pp () <| (pp (@jE [] [(0,0)] []) ())
 exact jF
theorem F.jk {n:Nat} : ∀ {aZ aF r},G.jk n aZ aF=some r->fU pZ 75 [.one (.ptr 0 0),.agg [.c (.sl 7 (List.map bY.cells aF.Items)),wI aF.Clock]] [.var [.c (.sl 1 (List.map cU aZ.b)),wI aZ.p]] (fun r1 b1=>r1 = .one (wS r.1)/\b1=[.var [.c (.sl 1 (List.map cU r.2.b)),wI r.2.p]]):=by
 intro aZ aF r h
 refine fD K.jk (jB ?_)
 unfold C.jk
 rcases n with _ | n<;>simp only [G.jk,reduceCtorEq] at h
 have z:=pp () <| pp (pp (pp @F.ai (@cG [0] [])) <| pp (pp @F.gW (@cG [0] [])) <| pp (pp @F.gm (@cG [0] [])) ()) <| pp () <| pp () <| pp () <| pp () <| (pp (@jE [] [(0,0)] []) ())
 exact jF
theorem F.iC {n:Nat} : ∀ {ag aG r},G.iC n ag aG=some r->dA pZ 104 [.agg (wN ag),.one (wT aG)] (.mG [(true,(wN r.1)),(false,[.c (.lit (.bool r.2))])]):=by
 intro ag aG r h
 refine aW K.iC (jB ?_)
 unfold C.iC
 rcases n with _ | n<;>simp only [G.iC,reduceCtorEq] at h
 have z:=pp (pp @F.bW <| pp @F.ax ()) <| pp () <| pp (pp (@jA (Int × Int × Int × aK × List aK × List af) _ (fun n x=>G.iC.L1 n aG x.1 x.2.1 x.2.2.1 x.2.2.2.1 x.2.2.2.2.1 x.2.2.2.2.2) r (fun x=>bF.of [eT 1 aG,eP 2 105,eP 4 106,eI 6 x.1] [(105,.var [wI x.2.1,wI x.2.2.1,wS x.2.2.2.1,wT x.2.2.2.2.1,wK x.2.2.2.2.2]),(106,.var zN)])) ()) <| pp () <| pp (pp (And.intro @G.iC.L1.eq_1 <| @G.iC.L1.eq_2) ()) <| pp (pp (@bn [] [(105,10),(106,11)] []) <| pp (@bn [] [(105,105),(106,106)] []) ()) <| ()
 exact jF
theorem F.D7:∀ (n:Nat),∀ {ag aG gZ r},G.fP n ag aG gZ=some r->dA pZ 102 [.agg (wN ag),.one (wT aG),.agg (wN gZ)] (.mG [(true,(wN r.1)),(false,[.c (.lit (.bool r.2))])]):=by
 intro n
 induction n using Nat.strongRecOn with | _ n ih =>
 intro ag aG gZ r h
 refine aW K.fP (jB ?_)
 unfold C.fP
 rcases n with _ | n<;>simp only [G.fP,reduceCtorEq] at h
 have z:=pp (pp ih <| pp @F.ax <| pp @F.bW <| pp @F.fG ()) <| pp () <| pp () <| pp () <| pp () <| pp () <| ()
 exact jF
theorem F.fP {n:Nat} : ∀ {ag:af} {aG:List aK} {gZ:af} {r:af × Bool},G.fP n ag aG gZ=some r->dA pZ 102 [.agg (wN ag),.one (wT aG),.agg (wN gZ)] (.mG [(true,(wN r.1)),(false,[.c (.lit (.bool r.2))])]):=F.D7 n
theorem F.jc {n:Nat} : ∀ {ag aG gZ r},G.jc n ag aG gZ=some r->dA pZ 101 [.agg (wN ag),.one (wT aG),.agg (wN gZ)] (.mG [(true,(wN r.1)),(false,[.c (.lit (.bool r.2))])]):=by
 intro ag aG gZ r h
 refine aW K.jc (jB ?_)
 unfold C.jc
 rcases n with _ | n<;>simp only [G.jc,reduceCtorEq] at h
 have z:=pp (pp @F.ax <| pp @F.iC <| pp @F.eY <| pp @F.fP ()) <| pp () <| pp () <| pp () <| pp () <| pp () <| ()
 exact jF
theorem F.Hg:∀ (n:Nat),∀ {ag r},G.bZ n ag=some r->dA pZ 99 [.agg (wN ag)] (.one (.c (.sl 1 (List.map (cL 1 cS) r)))):=by
 intro n
 induction n using Nat.strongRecOn with | _ n ih =>
 intro ag r h
 refine aW K.bZ (jB ?_)
 unfold C.bZ
 rcases n with _ | n<;>simp only [G.bZ,reduceCtorEq] at h
 have z:=pp (pp ih <| pp @F.dK ()) <| pp () <| pp (pp (@jA (Int × List (List aK)) _ (fun n x=>G.bZ.L5 n ag x.1 x.2) r (fun x=>bF.of [eP 1 121,(3,.v true (.one (.own 122 x.2.length 1))),eI 4 x.1] [(121,.var (wN ag)),(122,.dat 1 (List.map (cL 1 cS) x.2))])) <| pp (@jA (Int × aK × List (List aK) × Int × List (List aK)) _ (fun n x=>G.bZ.L7 n ag x.1 x.2.1 x.2.2.1 x.2.2.2.1 x.2.2.2.2) r (fun x=>bF.of [eP 1 129,(3,.v true (.one (.own 130 x.2.2.2.2.length 1))),eI 4 x.1,eS 5 x.2.1,(6,.v true (.one (.c (.sl 1 (List.map (cL 1 cS) x.2.2.1))))),eI 7 x.2.2.2.1] [(129,.var (wN ag)),(130,.dat 1 (List.map (cL 1 cS) x.2.2.2.2))])) ()) <| pp (pp (@lg (Int × List (List aK) × aK) _ (fun n x=>G.bZ.K6 n ag x.1 x.2.1 x.2.2) r (fun x=>bF.of [eP 1 123,(3,.v true (.one (.own 124 x.2.1.length 1))),eI 4 x.1,eS 5 x.2.2] [(123,.var (wN ag)),(124,.dat 1 (List.map (cL 1 cS) x.2.1))])) ()) <| pp (pp (And.intro @G.bZ.L5.eq_1 <| And.intro @G.bZ.L5.eq_2 <| And.intro @G.bZ.K6.eq_1 <| And.intro @G.bZ.K6.eq_2 <| And.intro @G.bZ.L7.eq_1 <| @G.bZ.L7.eq_2) ()) <| pp (pp (@bn [] [(121,10),(122,12)] []) <| pp (@bn [] [(123,121),(124,122)] []) <| pp (@bn [] [(129,123),(130,124)] []) <| pp (@bn [] [(129,129),(130,16)] []) <| pp (@bn [] [(121,129),(122,130)] []) ()) <| ()
 exact jF
theorem F.bZ {n:Nat} : ∀ {ag:af} {r:List (List aK)},G.bZ n ag=some r->dA pZ 99 [.agg (wN ag)] (.one (.c (.sl 1 (List.map (cL 1 cS) r)))):=F.Hg n
theorem F.dW {n:Nat} : ∀ {ag aG r},G.dW n ag aG=some r->dA pZ 100 [.agg (wN ag),.one (wT aG)] (.mG [(true,(wN r.1)),(false,[.c (.lit (.bool r.2))])]):=by
 intro ag aG r h
 refine aW K.dW (jB ?_)
 unfold C.dW
 rcases n with _ | n<;>simp only [G.dW,reduceCtorEq] at h
 have z:=pp (pp @F.iC <| pp @F.bW <| pp @F.fP ()) <| pp () <| pp () <| pp (pp (@lg ((af × Bool) × List af × List aK) _ (fun n x=>G.dW.K1 n ag aG x.1 x.2.1 x.2.2) r (fun x=>bF.of [eT 1 aG,eP 2 101,eP 4 102,eI 6 (IntKind.wrap .i64 (((aG.length:Nat):Int)-1)),eP 7 103,(10,.v true (.one (.own 104 x.2.1.length 5))),(11,.v true (.one (.own 105 x.2.2.length 1)))] [(101,.var (wN ag)),(102,.var zN),(103,.var (wN x.1.1)),(104,.dat 5 (List.map af.cells x.2.1)),(105,.dat 1 (List.map cS x.2.2))])) ()) <| pp (pp (And.intro @G.dW.K1.eq_1 <| @G.dW.K1.eq_2) ()) <| pp (pp (@bn [] [(101,10),(102,11),(103,12),(104,15),(105,19)] []) <| pp (@bn [] [(101,10),(102,11),(103,12),(104,15),(105,16)] []) ()) <| ()
 exact jF
theorem F.dU {n:Nat} : ∀ {aZ ag r},G.dU n aZ ag=some r->fU pZ 79 [.one (.ptr 0 0),.agg (wN ag)] [.var [.c (.sl 1 (List.map cU aZ.b)),wI aZ.p]] (fun r1 b1=>r1 = .agg (wN r.1)/\b1=[.var [.c (.sl 1 (List.map cU r.2.b)),wI r.2.p]]):=by
 intro aZ ag r h
 refine fD K.dU (jB ?_)
 unfold C.dU
 rcases n with _ | n<;>simp only [G.dU,reduceCtorEq] at h
 have z:=pp (pp @F.bZ <| pp @F.ax <| pp @F.dW <| pp @F.jc <| pp @F.fP <| pp @F.aS ()) <| pp (pp (pp @F.ai (@cG [0] [])) <| pp (pp @F.bQ (@cH [0] [])) <| pp (pp @F.aB (@cG [0] [])) <| pp (pp @F.bM (@cG [0] [])) ()) <| pp () <| pp (pp (@lg (Bool × List Int × Int × Int × Int × aK × List aK × List af) _ (fun n x=>G.dU.K1 n ag x.1 x.2.1 x.2.2.1 x.2.2.2.1 x.2.2.2.2.1 x.2.2.2.2.2.1 x.2.2.2.2.2.2.1 x.2.2.2.2.2.2.2) r (fun x=>bF.of [eP 3 101,eP 4 102,eP 7 103,(8,.v true (.one (.c (.lit (.bool x.1)))))] [(0,.var [.c (.sl 1 (List.map cU x.2.1)),wI x.2.2.1]),(101,.var (wN ag)),(102,.var zN),(103,.var [wI x.2.2.2.1,wI x.2.2.2.2.1,wS x.2.2.2.2.2.1,wT x.2.2.2.2.2.2.1,wK x.2.2.2.2.2.2.2])])) ()) <| pp (pp (And.intro @G.dU.K1.eq_1 <| @G.dU.K1.eq_2) ()) <| pp (pp (@bn [] [(0,0),(101,10),(102,11),(103,12)] []) ()) <| (pp (@jE [] [(0,0)] []) ())
 exact jF
theorem F.iM {n:Nat} : ∀ {ag r},G.iM n ag=some r->dA pZ 115 [.agg (wN ag)] (.one (.c (.sl 1 (List.map (cL 1 cS) r)))):=by
 intro ag r h
 refine aW K.iM (jB ?_)
 unfold C.iM
 rcases n with _ | n<;>simp only [G.iM,reduceCtorEq] at h
 have z:=pp (pp @F.aS <| pp @F.bZ ()) <| pp () <| pp () <| pp () <| pp () <| pp () <| ()
 exact jF
theorem F.fA {n:Nat} : ∀ {aZ r},G.fA n aZ=some r->fU pZ 116 [.one (.ptr 0 0)] [.var [.c (.sl 1 (List.map cU aZ.b)),wI aZ.p]] (fun r1 b1=>r1 = .one (wT r.1)/\b1=[.var [.c (.sl 1 (List.map cU r.2.b)),wI r.2.p]]):=by
 intro aZ r h
 refine fD K.fA (jB ?_)
 unfold C.fA
 rcases n with _ | n<;>simp only [G.fA,reduceCtorEq] at h
 have z:=pp () <| pp (pp (pp @F.bI (@cH [0] [])) <| pp (pp @F.bQ (@cH [0] [])) <| pp (pp @F.ai (@cG [0] [])) ()) <| pp (pp (@jA (Int × List Int × Int × List aK) _ (fun n x=>G.fA.L1 n x.1 x.2.1 x.2.2.1 x.2.2.2) r (fun x=>bF.of [eP 0 0,(3,.v true (.one (.own 103 x.2.2.2.length 1))),eI 4 x.1] [(0,.var [.c (.sl 1 (List.map cU x.2.1)),wI x.2.2.1]),(103,.dat 1 (List.map cS x.2.2.2))])) ()) <| pp () <| pp (pp (And.intro @G.fA.L1.eq_1 <| @G.fA.L1.eq_2) ()) <| pp (pp (@bn [] [(0,0),(103,10)] []) <| pp (@bn [] [(0,0),(103,14)] []) ()) <| (pp (@jE [103] [(0,0)] []) ())
 exact jF
theorem F.iW {n:Nat} : ∀ {aZ ag r},G.iW n aZ ag=some r->fU pZ 103 [.one (.ptr 0 0),.agg (wN ag)] [.var [.c (.sl 1 (List.map cU aZ.b)),wI aZ.p]] (fun r1 b1=>r1 = .one (wT r.1)/\b1=[.var [.c (.sl 1 (List.map cU r.2.b)),wI r.2.p]]):=by
 intro aZ ag r h
 refine fD K.iW (jB ?_)
 unfold C.iW
 rcases n with _ | n<;>simp only [G.iW,reduceCtorEq] at h
 have z:=pp (pp @F.iM ()) <| pp (pp (pp @F.ai (@cG [0] [])) <| pp (pp @F.fA (@cG [0] [])) ()) <| pp () <| pp () <| pp () <| pp () <| (pp (@jE [] [(0,0)] []) ())
 exact jF
theorem F.aH {n:Nat} : ∀ {aZ ag r},G.aH n aZ ag=some r->fU pZ 80 [.one (.ptr 0 0),.agg (wN ag)] [.var [.c (.sl 1 (List.map cU aZ.b)),wI aZ.p]] (fun r1 b1=>r1 = .agg [wI r.1.Kind,wT r.1.Path,wT r.1.From,wI r.1.Value.Kind,wI r.1.Value.Num,wS r.1.Value.Text,wT r.1.Value.Names,wK r.1.Value.Kids]/\b1=[.var [.c (.sl 1 (List.map cU r.2.b)),wI r.2.p]]):=by
 intro aZ ag r h
 refine fD K.aH (jB ?_)
 unfold C.aH
 rcases n with _ | n<;>simp only [G.aH,reduceCtorEq] at h
 have:=Mk.mk 1; have:=Mk.mk 2; have:=Mk.mk 3; have:=Mk.mk 4
 have z:=pp (pp @F.iC ()) <| pp (pp (pp @F.ai (@cG [0] [])) <| pp (pp @F.iW (@cG [0] [])) <| pp (pp @F.aB (@cG [0] [])) <| pp (pp @F.bQ (@cH [0] [])) ()) <| pp () <| pp (pp (@lg ((Int × ReaderT) × (List aK × ReaderT) × List Int × Int × List aK × Int × Int × aK × List aK × List af) _ (fun n x=>G.aH.K3 n x.1 x.2.1 x.2.2.1 x.2.2.2.1 x.2.2.2.2.1 x.2.2.2.2.2.1 x.2.2.2.2.2.2.1 x.2.2.2.2.2.2.2.1 x.2.2.2.2.2.2.2.2.1 x.2.2.2.2.2.2.2.2.2) r (fun x=>bF.of [eP 0 0,eP 4 109,eP 5 110] [(0,.var [.c (.sl 1 (List.map cU x.2.2.1)),wI x.2.2.2.1]),(109,.var [wI 0,.fH 1,.fH 1,wI 0,wI 0,.c (.str []),.fH 1,.fH 5]),(110,.var [wI (IntKind.wrap .i64 (1+x.1.1)),wT x.2.1.1,wT x.2.2.2.2.1,wI x.2.2.2.2.2.1,wI x.2.2.2.2.2.2.1,wS x.2.2.2.2.2.2.2.1,wT x.2.2.2.2.2.2.2.2.1,wK x.2.2.2.2.2.2.2.2.2])])) <| pp (@lg ((Int × ReaderT) × (List aK × ReaderT) × Bool) _ (fun n x=>G.aH.K5 n ag x.1 x.2.1 x.2.2) r (fun x=>bF.of [eP 0 0,eP 3 113,eP 4 114,eP 5 115,eI 18 (IntKind.wrap .i64 (1+x.1.1)),(19,.v true (.one (.c (.lit (.bool x.2.2)))))] [(0,.var [.c (.sl 1 (List.map cU x.2.1.2.b)),wI x.2.1.2.p]),(113,.var (wN ag)),(114,.var [wI 0,.fH 1,.fH 1,wI 0,wI 0,.c (.str []),.fH 1,.fH 5]),(115,.var [wI (IntKind.wrap .i64 (1+x.1.1)),wT x.2.1.1,.own 116 0 1,wI 0,wI 0,.c (.str []),.fH 1,.fH 5]),(116,.dat 1 (List.map cS []))])) <| pp (@lg ((Int × ReaderT) × (List aK × ReaderT) × Bool) _ (fun n x=>G.aH.K6 n ag x.1 x.2.1 x.2.2) r (fun x=>bF.of [eP 0 0,eP 3 117,eP 4 118,eP 5 119,(42,.v true (.one (.c (.lit (.bool x.2.2)))))] [(0,.var [.c (.sl 1 (List.map cU x.2.1.2.b)),wI x.2.1.2.p]),(117,.var (wN ag)),(118,.var [wI 0,.fH 1,.fH 1,wI 0,wI 0,.c (.str []),.fH 1,.fH 5]),(119,.var [wI (IntKind.wrap .i64 (1+x.1.1)),wT x.2.1.1,.own 120 0 1,wI 0,wI 0,.c (.str []),.fH 1,.fH 5]),(120,.dat 1 (List.map cS []))])) <| pp (@lg ((Int × ReaderT) × (List aK × ReaderT) × List aK × Int × Int × aK × List aK × List af × Bool × List Int × Int) _ (fun n x=>G.aH.K4 n x.1 x.2.1 x.2.2.1 x.2.2.2.1 x.2.2.2.2.1 x.2.2.2.2.2.1 x.2.2.2.2.2.2.1 x.2.2.2.2.2.2.2.1 x.2.2.2.2.2.2.2.2.1 x.2.2.2.2.2.2.2.2.2.1 x.2.2.2.2.2.2.2.2.2.2) r (fun x=>bF.of [eP 0 0,eP 4 111,eP 5 112,(72,.v true (.one (.c (.lit (.bool x.2.2.2.2.2.2.2.2.1)))))] [(0,.var [.c (.sl 1 (List.map cU x.2.2.2.2.2.2.2.2.2.1)),wI x.2.2.2.2.2.2.2.2.2.2]),(111,.var [wI 0,.fH 1,.fH 1,wI 0,wI 0,.c (.str []),.fH 1,.fH 5]),(112,.var [wI (IntKind.wrap .i64 (1+x.1.1)),wT x.2.1.1,wT x.2.2.1,wI x.2.2.2.1,wI x.2.2.2.2.1,wS x.2.2.2.2.2.1,wT x.2.2.2.2.2.2.1,wK x.2.2.2.2.2.2.2.1])])) ()) <| pp (pp (And.intro @G.aH.K3.eq_1 <| And.intro @G.aH.K3.eq_2 <| And.intro @G.aH.K5.eq_1 <| And.intro @G.aH.K5.eq_2 <| And.intro @G.aH.K6.eq_1 <| And.intro @G.aH.K6.eq_2 <| And.intro @G.aH.K4.eq_1 <| @G.aH.K4.eq_2) ()) <| pp (pp (@bn [] [(0,0),(113,10),(114,11),(115,13),(116,12)] []) <| pp (@bn [116] [(0,0),(109,114),(110,115)] []) <| pp (@bn [] [(0,0),(117,113),(118,114),(119,115),(120,116)] []) <| pp (@bn [] [(0,0),(109,118),(110,119)] []) <| pp (@bn [120] [(0,0),(109,118),(110,119)] []) <| pp (@bn [] [(0,0),(111,109),(112,110)] []) ()) <| pp (pp (@jE [19] [(0,0)] []) <| pp (@jE [] [(0,0)] []) ()) <| (pp (pp (rfl : @G.aH.K3=_) <| pp (rfl : @G.aH.K6=_) <| pp (rfl : @G.aH.K5=_) ()) <| pp (pp (rfl : @G.aH.K5=_) ()) <| pp (pp (rfl : @G.aH.K6=_) <| pp (rfl : @G.aH.K5=_) ()) <| pp (pp (rfl : @G.aH.K4=_) <| pp (rfl : @G.aH.K3=_) <| pp (rfl : @G.aH.K6=_) <| pp (rfl : @G.aH.K5=_) ()) ())
 exact Lt
theorem F.au {n:Nat} : ∀ {aZ aF r},G.au n aZ aF=some r->fU pZ 50 [.one (.ptr 0 0),.agg [.c (.sl 7 (List.map bY.cells aF.Items)),wI aF.Clock]] [.var [.c (.sl 1 (List.map cU aZ.b)),wI aZ.p]] (fun r1 b1=>r1 = .agg [wI r.1.Method,wS r.1.Name,wT r.1.Want,wT r.1.ja,wI r.1.Body.Kind,wI r.1.Body.Num,wS r.1.Body.Text,wT r.1.Body.Names,wK r.1.Body.Kids,.c (.sl 8 (List.map jr.cells r.1.Ops))]/\b1=[.var [.c (.sl 1 (List.map cU r.2.b)),wI r.2.p]]):=by
 intro aZ aF r h
 refine fD K.au (jB ?_)
 unfold C.au
 rcases n with _ | n<;>simp only [G.au,reduceCtorEq] at h
 have:=Mk.mk 1; have:=Mk.mk 2; have:=Mk.mk 3
 have z:=pp (pp @F.iI <| pp @F.iR ()) <| pp (pp (pp @F.jk (@cG [0] [])) <| pp (pp @F.ai (@cG [0] [])) <| pp (pp @F.fB (@cG [0] [])) <| pp (pp @F.bM (@cG [0] [])) <| pp (pp @F.dU (@cG [0] [])) <| pp (pp @F.aH (@cG [0] [])) ()) <| pp (pp (@jA ((aK × ReaderT) × (bY × Bool) × (Int × ReaderT) × List aK × List aK × Int × List Int × Int × List jr) _ (fun n x=>G.au.L5 n x.1 x.2.1 x.2.2.1 x.2.2.2.1 x.2.2.2.2.1 x.2.2.2.2.2.1 x.2.2.2.2.2.2.1 x.2.2.2.2.2.2.2.1 x.2.2.2.2.2.2.2.2) r (fun x=>bF.of [eP 0 0,eP 4 133,eP 6 134,(7,.v true (.one (.c (.lit (.bool x.2.1.2))))),eP 8 135,eI 9 x.2.2.2.2.2.1] [(0,.var [.c (.sl 1 (List.map cU x.2.2.2.2.2.2.1)),wI x.2.2.2.2.2.2.2.1]),(133,.var [wI 0,.c (.str []),.fH 1,.fH 1,wI 0,wI 0,.c (.str []),.fH 1,.fH 5,.fH 8]),(134,.var [wS x.2.1.1.Name,wI x.2.1.1.Version,wI x.2.1.1.Node.Kind,wI x.2.1.1.Node.Num,wS x.2.1.1.Node.Text,wT x.2.1.1.Node.Names,wK x.2.1.1.Node.Kids]),(135,.var [wI (IntKind.wrap .i64 (1+x.2.2.1.1)),wS x.1.1,wT x.2.2.2.1,wT x.2.2.2.2.1,wI 0,wI 0,.c (.str []),.fH 1,.fH 5,.own 136 x.2.2.2.2.2.2.2.2.length 8]),(136,.dat 8 (List.map jr.cells x.2.2.2.2.2.2.2.2))])) ()) <| pp (pp (@lg ((aK × ReaderT) × (bY × Bool) × (Int × ReaderT) × List Int × Int × List aK) _ (fun n x=>G.au.K1 n x.1 x.2.1 x.2.2.1 x.2.2.2.1 x.2.2.2.2.1 x.2.2.2.2.2) r (fun x=>bF.of [eP 0 0,eP 4 101,eP 6 102,(7,.v true (.one (.c (.lit (.bool x.2.1.2))))),eP 8 103] [(0,.var [.c (.sl 1 (List.map cU x.2.2.2.1)),wI x.2.2.2.2.1]),(101,.var [wI 0,.c (.str []),.fH 1,.fH 1,wI 0,wI 0,.c (.str []),.fH 1,.fH 5,.fH 8]),(102,.var [wS x.2.1.1.Name,wI x.2.1.1.Version,wI x.2.1.1.Node.Kind,wI x.2.1.1.Node.Num,wS x.2.1.1.Node.Text,wT x.2.1.1.Node.Names,wK x.2.1.1.Node.Kids]),(103,.var [wI (IntKind.wrap .i64 (1+x.2.2.1.1)),wS x.1.1,wT x.2.2.2.2.2,.own 104 0 1,wI 0,wI 0,.c (.str []),.fH 1,.fH 5,.own 105 0 8]),(104,.dat 1 (List.map cS [])),(105,.dat 8 (List.map jr.cells []))])) <| pp (@lg ((aK × ReaderT) × (bY × Bool) × (Int × ReaderT) × List aK × List Int × Int × List aK) _ (fun n x=>G.au.K2 n x.1 x.2.1 x.2.2.1 x.2.2.2.1 x.2.2.2.2.1 x.2.2.2.2.2.1 x.2.2.2.2.2.2) r (fun x=>bF.of [eP 0 0,eP 4 106,eP 6 107,(7,.v true (.one (.c (.lit (.bool x.2.1.2))))),eP 8 108] [(0,.var [.c (.sl 1 (List.map cU x.2.2.2.2.1)),wI x.2.2.2.2.2.1]),(106,.var [wI 0,.c (.str []),.fH 1,.fH 1,wI 0,wI 0,.c (.str []),.fH 1,.fH 5,.fH 8]),(107,.var [wS x.2.1.1.Name,wI x.2.1.1.Version,wI x.2.1.1.Node.Kind,wI x.2.1.1.Node.Num,wS x.2.1.1.Node.Text,wT x.2.1.1.Node.Names,wK x.2.1.1.Node.Kids]),(108,.var [wI (IntKind.wrap .i64 (1+x.2.2.1.1)),wS x.1.1,wT x.2.2.2.1,wT x.2.2.2.2.2.2,wI 0,wI 0,.c (.str []),.fH 1,.fH 5,.own 109 0 8]),(109,.dat 8 (List.map jr.cells []))])) <| pp (@lg ((aK × ReaderT) × (bY × Bool) × (Int × ReaderT) × List aK × List aK × List Int × Int × Int × Int × aK × List aK × List af × List jr) _ (fun n x=>G.au.K4 n x.1 x.2.1 x.2.2.1 x.2.2.2.1 x.2.2.2.2.1 x.2.2.2.2.2.1 x.2.2.2.2.2.2.1 x.2.2.2.2.2.2.2.1 x.2.2.2.2.2.2.2.2.1 x.2.2.2.2.2.2.2.2.2.1 x.2.2.2.2.2.2.2.2.2.2.1 x.2.2.2.2.2.2.2.2.2.2.2.1 x.2.2.2.2.2.2.2.2.2.2.2.2) r (fun x=>bF.of [eP 0 0,eP 4 122,(7,.v true (.one (.c (.lit (.bool x.2.1.2))))),eP 8 123] [(0,.var [.c (.sl 1 (List.map cU x.2.2.2.2.2.1)),wI x.2.2.2.2.2.2.1]),(122,.var [wI 0,.c (.str []),.fH 1,.fH 1,wI 0,wI 0,.c (.str []),.fH 1,.fH 5,.fH 8]),(123,.var [wI (IntKind.wrap .i64 (1+x.2.2.1.1)),wS x.1.1,wT x.2.2.2.1,wT x.2.2.2.2.1,wI x.2.2.2.2.2.2.2.1,wI x.2.2.2.2.2.2.2.2.1,wS x.2.2.2.2.2.2.2.2.2.1,wT x.2.2.2.2.2.2.2.2.2.2.1,wK x.2.2.2.2.2.2.2.2.2.2.2.1,.own 124 x.2.2.2.2.2.2.2.2.2.2.2.2.length 8]),(124,.dat 8 (List.map jr.cells x.2.2.2.2.2.2.2.2.2.2.2.2))])) ()) <| pp (pp (And.intro @G.au.K1.eq_1 <| And.intro @G.au.K1.eq_2 <| And.intro @G.au.K2.eq_1 <| And.intro @G.au.K2.eq_2 <| And.intro @G.au.K4.eq_1 <| And.intro @G.au.K4.eq_2 <| And.intro @G.au.L5.eq_1 <| @G.au.L5.eq_2) ()) <| pp (pp (@bn [] [(0,0),(101,11),(102,12),(103,16),(104,14),(105,15)] []) <| pp (@bn [13] [(0,0),(101,11),(102,12),(103,16),(104,14),(105,15)] []) <| pp (@bn [] [(0,0),(106,101),(107,102),(108,103),(109,105)] []) <| pp (@bn [104] [(0,0),(106,101),(107,102),(108,103),(109,105)] []) <| pp (@bn [] [(0,0),(122,106),(123,108),(124,109)] []) <| pp (@bn [] [(0,0),(133,106),(134,107),(135,108),(136,109)] []) <| pp (@bn [] [(0,0),(133,133),(134,134),(135,135),(136,18)] []) <| pp (@bn [] [(0,0),(122,133),(123,135),(124,136)] []) ()) <| pp (pp (@jE [124] [(0,0)] []) ()) <| (pp (pp (rfl : @G.au.K1=_) ()) <| pp (pp (rfl : @G.au.K2=_) <| pp (rfl : @G.au.K1=_) ()) <| pp (pp (rfl : @G.au.K4=_) <| pp (rfl : @G.au.L5=_) <| pp (rfl : @G.au.K2=_) <| pp (rfl : @G.au.K1=_) ()) ())
 exact Lt
theorem F.gY {n:Nat} : ∀ {aZ aF r},G.gY n aZ aF=some r->fU pZ 24 [.one (.ptr 0 0),.agg [.c (.sl 7 (List.map bY.cells aF.Items)),wI aF.Clock]] [.var [.c (.sl 1 (List.map cU aZ.b)),wI aZ.p]] (fun r1 b1=>r1 = .agg [wI r.1.Method,wS r.1.Name,wT r.1.Want,wT r.1.ja,wI r.1.Body.Kind,wI r.1.Body.Num,wS r.1.Body.Text,wT r.1.Body.Names,wK r.1.Body.Kids,.c (.sl 8 (List.map jr.cells r.1.Ops))]/\b1=[.var [.c (.sl 1 (List.map cU r.2.b)),wI r.2.p]]):=by
 intro aZ aF r h
 refine fD K.gY (jB ?_)
 unfold C.gY
 rcases n with _ | n<;>simp only [G.gY,reduceCtorEq] at h
 have z:=pp () <| pp (pp (pp @F.au (@cG [0] [])) <| pp (pp @F.ai (@cG [0] [])) <| pp (pp @F.bI (@cH [0] [])) <| pp (pp @F.gW (@cG [0] [])) <| pp (pp @F.fF (@cG [0] [])) ()) <| pp () <| pp () <| pp () <| pp () <| (pp (@jE [] [(0,0)] []) ())
 exact jF
theorem F.gU {n:Nat} : ∀ {aF dh r},G.gU n aF dh=some r->dA pZ 87 [.agg [.c (.sl 7 (List.map bY.cells aF.Items)),wI aF.Clock],.one (wS dh)] (.agg [.c (.sl 7 (List.map bY.cells r.Items)),wI r.Clock]):=by
 intro aF dh r h
 refine aW K.gU (jB ?_)
 unfold C.gU
 rcases n with _ | n<;>simp only [G.gU,reduceCtorEq] at h
 have z:=pp (pp @F.bP ()) <| pp () <| pp (pp (@jA (StoreT × Int × List bY) _ (fun n x=>G.gU.L1 n aF dh x.1 x.2.1 x.2.2) r (fun x=>bF.of [eS 1 dh,eP 2 107,eP 4 108,(5,.v true (.one (.own 109 x.2.2.length 7))),(6,.v true (.one (.c (.sl 7 (List.map bY.cells x.1.Items))))),eI 7 x.2.1] [(107,.var [.c (.sl 7 (List.map bY.cells aF.Items)),wI aF.Clock]),(108,.var [.fH 7,wI 0]),(109,.dat 7 (List.map bY.cells x.2.2))])) ()) <| pp () <| pp (pp (And.intro @G.gU.L1.eq_1 <| @G.gU.L1.eq_2) ()) <| pp (pp (@bn [] [(107,10),(108,11),(109,12)] []) <| pp (@bn [] [(107,107),(108,108),(109,109)] []) <| pp (@bn [] [(107,107),(108,108),(109,14)] []) ()) <| ()
 exact jF
theorem F.iq {n:Nat} : ∀ {aF dh r},G.iq n aF dh=some r->dA pZ 57 [.agg [.c (.sl 7 (List.map bY.cells aF.Items)),wI aF.Clock],.one (wS dh)] (.mG [(true,[.c (.sl 7 (List.map bY.cells r.1.Items)),wI r.1.Clock]),(false,[.c (.lit (.bool r.2))])]):=by
 intro aF dh r h
 refine aW K.iq (jB ?_)
 unfold C.iq
 rcases n with _ | n<;>simp only [G.iq,reduceCtorEq] at h
 have z:=pp (pp @F.aY <| pp @F.gq <| pp @F.gU ()) <| pp () <| pp () <| pp () <| pp () <| pp () <| ()
 exact jF
theorem F.dR {n:Nat} : ∀ {aF dh ag r},G.dR n aF dh ag=some r->dA pZ 83 [.agg [.c (.sl 7 (List.map bY.cells aF.Items)),wI aF.Clock],.one (wS dh),.agg (wN ag)] (.agg [.c (.sl 7 (List.map bY.cells r.Items)),wI r.Clock]):=by
 intro aF dh ag r h
 refine aW K.dR (jB ?_)
 unfold C.dR
 rcases n with _ | n<;>simp only [G.dR,reduceCtorEq] at h
 have z:=pp (pp @F.ax <| pp @F.bP ()) <| pp () <| pp (pp (@jA (af × StoreT × Bool × Int × List bY) _ (fun n x=>G.dR.L3 n aF dh x.1 x.2.1 x.2.2.1 x.2.2.2.1 x.2.2.2.2) r (fun x=>bF.of [eS 1 dh,eP 3 117,eP 6 118,(7,.v true (.one (.own 119 x.2.2.2.2.length 7))),eP 8 120,(9,.v true (.one (.c (.sl 7 (List.map bY.cells x.2.1.Items))))),(10,.v true (.one (.c (.lit (.bool x.2.2.1))))),eI 11 x.2.2.2.1] [(117,.var [.c (.sl 7 (List.map bY.cells aF.Items)),wI aF.Clock]),(118,.var [.fH 7,wI 0]),(119,.dat 7 (List.map bY.cells x.2.2.2.2)),(120,.var [wS dh,wI (IntKind.wrap .i64 (aF.Clock+1)),wI x.1.Kind,wI x.1.Num,wS x.1.Text,wT x.1.Names,wK x.1.Kids])])) ()) <| pp (pp (@lg (af × StoreT × Int × Bool × List bY) _ (fun n x=>G.dR.K4 n aF dh x.1 x.2.1 x.2.2.1 x.2.2.2.1 x.2.2.2.2) r (fun x=>bF.of [eS 1 dh,eP 3 121,eP 6 122,(7,.v true (.one (.own 123 x.2.2.2.2.length 7))),eP 8 124,(9,.v true (.one (.c (.sl 7 (List.map bY.cells x.2.1.Items))))),(10,.v true (.one (.c (.lit (.bool x.2.2.2.1))))),eI 11 x.2.2.1] [(121,.var [.c (.sl 7 (List.map bY.cells aF.Items)),wI aF.Clock]),(122,.var [.fH 7,wI 0]),(123,.dat 7 (List.map bY.cells x.2.2.2.2)),(124,.var [wS dh,wI (IntKind.wrap .i64 (aF.Clock+1)),wI x.1.Kind,wI x.1.Num,wS x.1.Text,wT x.1.Names,wK x.1.Kids])])) ()) <| pp (pp (And.intro @G.dR.L3.eq_1 <| And.intro @G.dR.L3.eq_2 <| And.intro @G.dR.K4.eq_1 <| @G.dR.K4.eq_2) ()) <| pp (pp (@bn [] [(117,10),(118,12),(119,13),(120,14)] []) <| pp (@bn [] [(121,117),(122,118),(123,119),(124,120)] []) <| pp (@bn [] [(121,117),(122,118),(123,16),(124,120)] []) <| pp (@bn [] [(117,121),(118,122),(119,123),(120,124)] []) <| pp (@bn [] [(117,121),(118,122),(119,18),(120,124)] []) ()) <| ()
 exact jF
theorem F.iJ {n:Nat} : ∀ {aF dh ag r},G.iJ n aF dh ag=some r->dA pZ 54 [.agg [.c (.sl 7 (List.map bY.cells aF.Items)),wI aF.Clock],.one (wS dh),.agg (wN ag)] (.mG [(true,[.c (.sl 7 (List.map bY.cells r.1.Items)),wI r.1.Clock]),(false,[.c (.lit (.bool r.2))])]):=by
 intro aF dh ag r h
 refine aW K.iJ (jB ?_)
 unfold C.iJ
 rcases n with _ | n<;>simp only [G.iJ,reduceCtorEq] at h
 have z:=pp (pp @F.aY <| pp @F.bD <| pp @F.aS <| pp @F.dR ()) <| pp () <| pp () <| pp () <| pp () <| pp () <| ()
 exact jF
theorem F.bC {n:Nat} : ∀ {aZ r},G.bC n aZ=some r->fU pZ 25 [.one (.ptr 0 0)] [.var [.c (.sl 1 (List.map cU aZ.b)),wI aZ.p]] (fun r1 b1=>r1 = .agg [.c (.sl 7 (List.map bY.cells r.1.Items)),wI r.1.Clock]/\b1=[.var [.c (.sl 1 (List.map cU r.2.b)),wI r.2.p]]):=by
 intro aZ r h
 refine fD K.bC (jB ?_)
 unfold C.bC
 rcases n with _ | n<;>simp only [G.bC,reduceCtorEq] at h
 have z:=pp (pp @F.iJ <| pp @F.iq ()) <| pp (pp (pp @F.bI (@cH [0] [])) <| pp (pp @F.gm (@cG [0] [])) <| pp (pp @F.bM (@cG [0] [])) <| pp (pp @F.ai (@cG [0] [])) ()) <| pp (pp (@jA (Int × List Int × Int × List bY × Int) _ (fun n x=>G.bC.L3 n x.1 x.2.1 x.2.2.1 x.2.2.2.1 x.2.2.2.2) r (fun x=>bF.of [eP 0 0,eP 2 113,eP 3 114,eI 4 x.1] [(0,.var [.c (.sl 1 (List.map cU x.2.1)),wI x.2.2.1]),(113,.var [.fH 7,wI 0]),(114,.var [.c (.sl 7 (List.map bY.cells x.2.2.2.1)),wI x.2.2.2.2])])) ()) <| pp (pp (@lg (Int × List bY × Int × Bool × List Int × Int × List bY × Int) _ (fun n x=>G.bC.K4 n x.1 x.2.1 x.2.2.1 x.2.2.2.1 x.2.2.2.2.1 x.2.2.2.2.2.1 x.2.2.2.2.2.2.1 x.2.2.2.2.2.2.2) r (fun x=>bF.of [eP 0 0,eP 2 115,eP 3 116,eI 4 x.1,eP 5 117,(6,.v true (.one (.c (.lit (.bool x.2.2.2.1)))))] [(0,.var [.c (.sl 1 (List.map cU x.2.2.2.2.1)),wI x.2.2.2.2.2.1]),(115,.var [.fH 7,wI 0]),(116,.var [.c (.sl 7 (List.map bY.cells x.2.1)),wI x.2.2.1]),(117,.var [.c (.sl 7 (List.map bY.cells x.2.2.2.2.2.2.1)),wI x.2.2.2.2.2.2.2])])) ()) <| pp (pp (And.intro @G.bC.L3.eq_1 <| And.intro @G.bC.L3.eq_2 <| And.intro @G.bC.K4.eq_1 <| @G.bC.K4.eq_2) ()) <| pp (pp (@bn [11] [(0,0),(113,10),(114,12)] []) <| pp (@bn [] [(0,0),(115,113),(116,114),(117,14)] []) <| pp (@bn [] [(0,0),(113,115),(114,116)] []) ()) <| (pp (@jE [] [(0,0)] []) ())
 exact jF
theorem F.di {n:Nat} : ∀ {aZ r},G.di n aZ=some r->fU pZ 10 [.one (.ptr 0 0)] [.var [.c (.sl 1 (List.map cU aZ.b)),wI aZ.p]] (fun r1 b1=>r1 = .agg [wI r.1.Method,wS r.1.Name,wT r.1.Want,wT r.1.ja,wI r.1.Body.Kind,wI r.1.Body.Num,wS r.1.Body.Text,wT r.1.Body.Names,wK r.1.Body.Kids,.c (.sl 8 (List.map jr.cells r.1.Ops))]/\b1=[.var [.c (.sl 1 (List.map cU r.2.b)),wI r.2.p]]):=by
 intro aZ r h
 refine fD K.di (jB ?_)
 unfold C.di
 rcases n with _ | n<;>simp only [G.di,reduceCtorEq] at h
 have z:=pp () <| pp (pp (pp @F.bC (@cG [0] [])) <| pp (pp @F.gY (@cG [0] [])) <| pp (pp @F.ai (@cG [0] [])) ()) <| pp () <| pp (pp (@lg ((RequestT × ReaderT) × List Int × Int × Int × Int × aK × List aK × List af) _ (fun n x=>G.di.K1 n x.1 x.2.1 x.2.2.1 x.2.2.2.1 x.2.2.2.2.1 x.2.2.2.2.2.1 x.2.2.2.2.2.2.1 x.2.2.2.2.2.2.2) r (fun x=>bF.of [eP 0 0,eP 2 101,eP 3 102] [(0,.var [.c (.sl 1 (List.map cU x.2.1)),wI x.2.2.1]),(101,.var [wI 0,.c (.str []),.fH 1,.fH 1,wI 0,wI 0,.c (.str []),.fH 1,.fH 5,.fH 8]),(102,.var [wI x.1.1.Method,wS x.1.1.Name,wT x.1.1.Want,wT x.1.1.ja,wI x.2.2.2.1,wI x.2.2.2.2.1,wS x.2.2.2.2.2.1,wT x.2.2.2.2.2.2.1,wK x.2.2.2.2.2.2.2,.c (.sl 8 (List.map jr.cells x.1.1.Ops))])])) ()) <| pp (pp (And.intro @G.di.K1.eq_1 <| @G.di.K1.eq_2) ()) <| pp (pp (@bn [] [(0,0),(101,10),(102,11)] []) ()) <| (pp (@jE [12] [(0,0)] []) <| pp (@jE [] [(0,0)] []) ())
 exact jF
theorem F.dH {n:Nat} : ∀ {iL r},G.dH n iL=some r->dA pZ 5 [.one (.c (.sl 1 (List.map cU iL)))] (.agg [wI r.Method,wS r.Name,wT r.Want,wT r.ja,wI r.Body.Kind,wI r.Body.Num,wS r.Body.Text,wT r.Body.Names,wK r.Body.Kids,.c (.sl 8 (List.map jr.cells r.Ops))]):=by
 intro iL r h
 refine aW K.dH (jB ?_)
 unfold C.dH
 rcases n with _ | n<;>simp only [G.dH,reduceCtorEq] at h
 have z:=pp () <| pp (pp (pp @F.iE (@cG [] [101])) <| pp (pp @F.di (@cG [101] [])) ()) <| pp () <| pp () <| pp () <| pp () <| ()
 exact jF
theorem F.dO {n:Nat} : ∀ {aF r},G.dO n aF=some r->dA pZ 66 [.one (wS aF)] (.one (.c (.lit (.bool r)))):=by
 intro aF r h
 refine aW K.dO (jB ?_)
 unfold C.dO
 rcases n with _ | n<;>simp only [G.dO,reduceCtorEq] at h
 have z:=pp (pp @F.bu ()) <| pp () <| pp (pp (@jA (Int) _ (fun n x=>G.dO.L1 n aF x) r (fun x=>bF.of [eS 0 aF,eI 3 x] [])) ()) <| pp () <| pp (pp (And.intro @G.dO.L1.eq_1 <| @G.dO.L1.eq_2) ()) <| pp (pp (@bn [] [] []) ()) <| ()
 exact jF
theorem F.bU {n:Nat} : ∀ {aj r},G.bU n aj=some r->dA pZ 37 [.one (wT aj)] (.one (.c (.lit (.bool r)))):=by
 intro aj r h
 refine aW K.bU (jB ?_)
 unfold C.bU
 rcases n with _ | n<;>simp only [G.bU,reduceCtorEq] at h
 have z:=pp (pp @F.dO ()) <| pp () <| pp (pp (@jA (Int) _ (fun n x=>G.bU.L1 n aj x) r (fun x=>bF.of [eT 0 aj,eI 3 x] [])) ()) <| pp () <| pp (pp (And.intro @G.bU.L1.eq_1 <| @G.bU.L1.eq_2) ()) <| pp (pp (@bn [] [] []) ()) <| ()
 exact jF
theorem F.aX {n:Nat} : ∀ {aj r},G.aX n aj=some r->dA pZ 46 [.one (wT aj)] (.one (wS r)):=by
 intro aj r h
 refine aW K.aX (jB ?_)
 unfold C.aX
 rcases n with _ | n<;>simp only [G.aX,reduceCtorEq] at h
 have z:=pp (pp @F.bU ()) <| pp () <| pp (pp (@jA (aK × Int) _ (fun n x=>G.aX.L3 n aj x.1 x.2) r (fun x=>bF.of [eT 0 aj,eS 3 x.1,eI 4 x.2] [])) ()) <| pp (pp (@lg (Int × aK) _ (fun n x=>G.aX.K4 n aj x.1 x.2) r (fun x=>bF.of [eT 0 aj,eS 3 x.2,eI 4 x.1] [])) ()) <| pp (pp (And.intro @G.aX.L3.eq_1 <| And.intro @G.aX.L3.eq_2 <| And.intro @G.aX.K4.eq_1 <| @G.aX.K4.eq_2) ()) <| pp (pp (@bn [] [] []) ()) <| ()
 exact jF
theorem F.jd {n:Nat} : ∀ {r},G.jd n=some r->dA pZ 43 [] (.one (wT r)):=by
 intro r h
 refine aW K.jd (jB ?_)
 unfold C.jd
 rcases n with _ | n<;>simp only [G.jd,reduceCtorEq] at h
 have z:=pp () <| pp () <| pp () <| pp () <| pp () <| pp () <| ()
 exact jF
theorem F.jq {n:Nat} : ∀ {aF r},G.jq n aF=some r->dA pZ 42 [.one (wS aF)] (.agg (wN r)):=by
 intro aF r h
 refine aW K.jq (jB ?_)
 unfold C.jq
 rcases n with _ | n<;>simp only [G.jq,reduceCtorEq] at h
 have z:=pp () <| pp () <| pp () <| pp () <| pp () <| pp () <| ()
 exact jF
theorem F.gB {n:Nat} : ∀ {aG r},G.gB n aG=some r->dA pZ 41 [.one (wT aG)] (.agg (wN r)):=by
 intro aG r h
 refine aW K.gB (jB ?_)
 unfold C.gB
 rcases n with _ | n<;>simp only [G.gB,reduceCtorEq] at h
 have z:=pp (pp @F.jq ()) <| pp () <| pp (pp (@jA (Int × List af) _ (fun n x=>G.gB.L1 n aG x.1 x.2) r (fun x=>bF.of [eT 0 aG,eP 2 105,(3,.v true (.one (.own 106 x.2.length 5))),eI 4 x.1] [(105,.var zN),(106,.dat 5 (List.map af.cells x.2))])) ()) <| pp () <| pp (pp (And.intro @G.gB.L1.eq_1 <| @G.gB.L1.eq_2) ()) <| pp (pp (@bn [] [(105,10),(106,11)] []) <| pp (@bn [] [(105,105),(106,13)] []) ()) <| ()
 exact jF
theorem F.iy {n:Nat} : ∀ {iP r},G.iy n iP=some r->dA pZ 19 [.agg [wI iP.Kind,wT iP.Path,wT iP.From,wI iP.Value.Kind,wI iP.Value.Num,wS iP.Value.Text,wT iP.Value.Names,wK iP.Value.Kids]] (.agg (wN r)):=by
 intro iP r h
 refine aW K.iy (jB ?_)
 unfold C.iy
 rcases n with _ | n<;>simp only [G.iy,reduceCtorEq] at h
 have z:=pp (pp @F.gB <| pp @F.jd <| pp @F.jq <| pp @F.ax ()) <| pp () <| pp () <| pp () <| pp () <| pp () <| ()
 exact jF
theorem F.jJ {n:Nat} : ∀ {r},G.jJ n=some r->dA pZ 45 [] (.one (wT r)):=by
 intro r h
 refine aW K.jJ (jB ?_)
 unfold C.jJ
 rcases n with _ | n<;>simp only [G.jJ,reduceCtorEq] at h
 have z:=pp () <| pp () <| pp () <| pp () <| pp () <| pp () <| ()
 exact jF
theorem F.bV {n:Nat} : ∀ {aN r},G.bV n aN=some r->dA pZ 20 [.agg [wI aN.Method,wS aN.Name,wT aN.Want,wT aN.ja,wI aN.Body.Kind,wI aN.Body.Num,wS aN.Body.Text,wT aN.Body.Names,wK aN.Body.Kids,.c (.sl 8 (List.map jr.cells aN.Ops))]] (.one (wS r)):=by
 intro aN r h
 refine aW K.bV (jB ?_)
 unfold C.bV
 rcases n with _ | n<;>simp only [G.bV,reduceCtorEq] at h
 have z:=pp (pp @F.jJ <| pp @F.aX <| pp @F.iy <| pp @F.aP ()) <| pp () <| pp (pp (@jA (aK × Int) _ (fun n x=>G.bV.L1 n aN x.1 x.2) r (fun x=>bF.of [eP 1 103,eS 3 x.1,eI 4 x.2] [(103,.var [wI aN.Method,wS aN.Name,wT aN.Want,wT aN.ja,wI aN.Body.Kind,wI aN.Body.Num,wS aN.Body.Text,wT aN.Body.Names,wK aN.Body.Kids,.c (.sl 8 (List.map jr.cells aN.Ops))])])) ()) <| pp () <| pp (pp (And.intro @G.bV.L1.eq_1 <| @G.bV.L1.eq_2) ()) <| pp (pp (@bn [] [(103,10)] []) <| pp (@bn [] [(103,103)] []) ()) <| ()
 exact jF
theorem F.cZ {n:Nat} : ∀ {aG r},G.cZ n aG=some r->dA pZ 92 [.one (wT aG)] (.one (.c (.lit (.bool r)))):=by
 intro aG r h
 refine aW K.cZ (jB ?_)
 unfold C.cZ
 rcases n with _ | n<;>simp only [G.cZ,reduceCtorEq] at h
 have z:=pp (pp @F.bG ()) <| pp () <| pp (pp (@jA (Int) _ (fun n x=>G.cZ.L1 n aG x) r (fun x=>bF.of [eT 0 aG,eI 3 x] [])) ()) <| pp () <| pp (pp (And.intro @G.cZ.L1.eq_1 <| @G.cZ.L1.eq_2) ()) <| pp (pp (@bn [] [] []) ()) <| ()
 exact jF
theorem F.iK {n:Nat} : ∀ {iP r},G.iK n iP=some r->dA pZ 67 [.agg [wI iP.Kind,wT iP.Path,wT iP.From,wI iP.Value.Kind,wI iP.Value.Num,wS iP.Value.Text,wT iP.Value.Names,wK iP.Value.Kids]] (.one (.c (.lit (.bool r)))):=by
 intro iP r h
 refine aW K.iK (jB ?_)
 unfold C.iK
 rcases n with _ | n<;>simp only [G.iK,reduceCtorEq] at h
 have z:=pp (pp @F.bu <| pp @F.cZ <| pp @F.aS ()) <| pp () <| pp () <| pp () <| pp () <| pp () <| ()
 exact jF
theorem F.cu {n:Nat} : ∀ {aj r},G.cu n aj=some r->dA pZ 38 [.one (.c (.sl 8 (List.map jr.cells aj)))] (.one (.c (.lit (.bool r)))):=by
 intro aj r h
 refine aW K.cu (jB ?_)
 unfold C.cu
 rcases n with _ | n<;>simp only [G.cu,reduceCtorEq] at h
 have z:=pp (pp @F.iK ()) <| pp () <| pp (pp (@jA (Int) _ (fun n x=>G.cu.L1 n aj x) r (fun x=>bF.of [(0,.v true (.one (.c (.sl 8 (List.map jr.cells aj))))),eI 3 x] [])) ()) <| pp () <| pp (pp (And.intro @G.cu.L1.eq_1 <| @G.cu.L1.eq_2) ()) <| pp (pp (@bn [] [] []) ()) <| ()
 exact jF
theorem F.fC {n:Nat} : ∀ {aN r},G.fC n aN=some r->dA pZ 17 [.agg [wI aN.Method,wS aN.Name,wT aN.Want,wT aN.ja,wI aN.Body.Kind,wI aN.Body.Num,wS aN.Body.Text,wT aN.Body.Names,wK aN.Body.Kids,.c (.sl 8 (List.map jr.cells aN.Ops))]] (.one (.c (.lit (.bool r)))):=by
 intro aN r h
 refine aW K.fC (jB ?_)
 unfold C.fC
 rcases n with _ | n<;>simp only [G.fC,reduceCtorEq] at h
 have z:=pp (pp @F.bu <| pp @F.bD <| pp @F.bU <| pp @F.aS <| pp @F.cu ()) <| pp () <| pp () <| pp () <| pp () <| pp () <| ()
 exact jF
theorem F.ay {n:Nat} : ∀ {aN r},G.ay n aN=some r->dA pZ 7 [.agg [wI aN.Method,wS aN.Name,wT aN.Want,wT aN.ja,wI aN.Body.Kind,wI aN.Body.Num,wS aN.Body.Text,wT aN.Body.Names,wK aN.Body.Kids,.c (.sl 8 (List.map jr.cells aN.Ops))]] (.one (wS r)):=by
 intro aN r h
 refine aW K.ay (jB ?_)
 unfold C.ay
 rcases n with _ | n<;>simp only [G.ay,reduceCtorEq] at h
 have z:=pp (pp @F.fC <| pp @F.iy <| pp @F.aS <| pp @F.bV ()) <| pp () <| pp (pp (@jA (Int) _ (fun n x=>G.ay.L2 n aN x) r (fun x=>bF.of [eP 1 104,eI 3 x] [(104,.var [wI aN.Method,wS aN.Name,wT aN.Want,wT aN.ja,wI aN.Body.Kind,wI aN.Body.Num,wS aN.Body.Text,wT aN.Body.Names,wK aN.Body.Kids,.c (.sl 8 (List.map jr.cells aN.Ops))])])) ()) <| pp (pp (@lg (Unit) _ (fun n x=>G.ay.K1 n aN) r (fun x=>bF.of [eP 1 101,(33,.v true (.one (.c (.lit (.bool false)))))] [(101,.var [wI aN.Method,wS aN.Name,wT aN.Want,wT aN.ja,wI aN.Body.Kind,wI aN.Body.Num,wS aN.Body.Text,wT aN.Body.Names,wK aN.Body.Kids,.c (.sl 8 (List.map jr.cells aN.Ops))])])) ()) <| pp (pp (And.intro @G.ay.K1.eq_1 <| And.intro @G.ay.K1.eq_2 <| And.intro @G.ay.L2.eq_1 <| @G.ay.L2.eq_2) ()) <| pp (pp (@bn [] [(101,10)] []) <| pp (@bn [] [(104,101)] []) <| pp (@bn [] [(104,104)] []) ()) <| ()
 exact jF
end Go.Ab
end
section
namespace Go.Ab
open Go Go.ChangeShapes Go.WideShapes Go.ChangeAt Go.RowKit
def I0 (W:World):IH:=fun b=>match W.heap[b]? with
 | some (.cells c _ _)=>some c
 | _=>none
theorem KI (W:World):Agree (I0 W) W:=by
 intro b c h
 unfold I0 at h
 split at h
 ·rename_i c' e fr hb
  cases h
  exact ⟨e,fr,hb⟩
 ·cases h
theorem Ob (W:World) {a:Addr} {v:Value} (h:W.cell? a=some v):(I0 W).cell a=some v:=by
 unfold World.cell? at h
 unfold IH.cell I0
 split at h
 ·rename_i c e fr hb
  split at h
  ·cases h
  ·rename_i hs
   rw [if_neg hs,hb]
   exact h
 ·cases h
theorem BU {W W':World} {M:Nat->Prop} (h:vY W W' M) (hM:∀ k,¬ M k):Below W.heap.size W W' :=
 ⟨h.os,h.tape,h.output,h.size,fun k hk=>h.block k hk (hM k)⟩
theorem wZ (ρ:Ren) (k:Nat):¬ ∃ b,(nG [] b).uses (ρ b) k:=fun ⟨b,h⟩=>by
 simp only [nG,List.getD_nil] at h
 exact h
abbrev yF (z:Int):List Cell:=[.lit (.int .u8 z)]
theorem Jt {P:Program} {W:World} {x:String × DataW Unit} {rest:List (String × DataW Unit)} (h:laidMet P (x::rest) W):laidMet P rest W:=by
 obtain ⟨ps,hv,hn,hc⟩:=h
 obtain ⟨g,t,cs,fuel,p,q,h1,h2,h3,h4,h5,rfl⟩:=hv
 exact ⟨q,h5,(List.nodup_append.1 hn).2.1,fun b off hp=>hc b off (List.mem_append_right _ hp)⟩
theorem wW {P:Program} {W:World} : ∀ (k:Nat) {l:List (String × DataW Unit)},laidMet P l W->laidMet P (l.drop k) W
 | 0,l,h=>h
 | k+1,[],h=>h
 | k+1,x::l,h=>wW k (l:=l) (Jt h)
theorem IC {P:Program} {W:World} {rest:List (String × DataW Unit)} {g:Nat} {t e:TypeId}
  (hg:P.globalNamed "internal/strconv.uint64pow10" = some g) (hty:(P.globals[g]?).map (·.type)=some t) (ht:P.underlying t=some (.array 20 e)) (he:P.underlying e=some (.int .u64)) (hce:P.cellsOf e=1) (hct:P.cellsOf t=20)
  (h:laidMet P (("internal/strconv.uint64pow10",Lib.tabData .u64 Lib.pow10Tab)::rest) W):Tabs P (I0 W):=by
 have h1:=Lib.tabIs_of_head hg hty ht he hce hct h
 intro g' hg'
 rw [hg] at hg'
 simp only [Option.some.injEq] at hg'
 subst hg'
 unfold Lib.TabIs World.var? at h1
 simp only [hg] at h1
 unfold I0
 revert h1
 split<;>simp_all
theorem Bq {P:Program} {f:FuncId} {H:Type} {enc:TypeId × Value->H} {W:World} {tb eb:TypeId} {v0:Value} {d0:DataW H} {p0:List MemPlace} {base:Nat}
    (hT:Tabs P (I0 W)) (ht:P.underlying tb=some (.slice eb)) (he:P.underlying eb=some (.int .u8)) (hc:P.cellsOf eb=1)
    (hval:Value.okWide P W .any base tb v0) (h0:DataW.Trod enc P W 0 (fun _=>true) true tb v0 d0 p0)
    (hp:∀ zs:List Int,zs.length<=maxLen->(∀ z,z∈zs->0<=z/\z<256)->dA P f [KC 1 (zs.map yF)] (jK true)) :
    Calls P f #[v0] W fun e W'=>e = .returned (.bool true)/\Below W.heap.size W W':=by
  obtain ⟨a0,len,cap,rfl⟩:=okWide_slice ht hval
  obtain ⟨fuel,hf⟩:=h0
  have go:∀ zs:List Int,zs.length<=maxLen->(∀ z,z∈zs->0<=z/\z<256)->Rd (I0 W) (.slice a0 len cap) (.sl 1 (zs.map yF)) ->
      Calls P f #[.slice a0 len cap] W fun e W'=>e = .returned (.bool true)/\Below W.heap.size W W':=by
    intro zs hl hz hr
    refine (hp zs hl hz (I0 W) (fun _=>none) W [.slice a0 len cap] hT (KI W) ⟨fun b=>by simp only [nG,List.getD_nil]; exact rfl,fun b b' k h=>(wZ (fun _=>none) k ⟨b,h⟩).elim,fun b k h=>(wZ (fun _=>none) k ⟨b,h⟩).elim⟩ ⟨rfl,?_⟩).mono ?_
    · intro j v x hv hx
      match j with
      | 0 =>
        simp only [List.getElem?_cons_zero,Option.some.injEq] at hv hx
        subst hv hx
        exact hr
      | j+1=>simp at hv
    · rintro e W' ⟨v,J,σ,r,bs,rfl,⟨rfl,rfl⟩,hg,_,_,_,hfr,_⟩
      refine ⟨?_,BU hfr (wZ (fun _=>none))⟩
      cases hg
      rfl
  rcases open_ints ht he hc hf with ⟨hcs,hx⟩ | ⟨a,len',cap',zs,hcs,_,hl,hm,hz,hx,hcell,hwz⟩
  · simp [Value.cells] at hcs
    obtain ⟨rfl,rfl,rfl⟩:=hcs
    exact go [] (Nat.zero_le _) (fun z h=>by cases h) (.sl none 0 0 1 [] (fun _ _=>undef) rfl (Nat.le_refl _) (Nat.zero_le _) (fun e h=>by cases h) (fun h=>by omega) (fun ad h=>by cases h) (fun i j c h=>by simp at h))
  · simp [Value.cells] at hcs
    obtain ⟨rfl,rfl,rfl⟩:=hcs
    simp only [if_true] at hz
    have hb:∀ z,z∈zs.take len->0<=z/\z<256:=fun z hz'=>by
      have h5:=hwz z (List.mem_of_mem_take hz')
      have e1:IntKind.u8.min=0:=rfl
      have e2:IntKind.u8.max=255:=rfl
      have:0<=z/\z<=255:=by simpa [Lit.wf,e1,e2] using h5
      omega
    have hlen:(zs.take len).length=len:=by rw [List.length_take]; omega
    refine go (zs.take len) (by omega) hb (.sl (some a) len cap 1 _ (fun i _ => .int .u8 (zs.getD i 0)) (by rw [List.length_map,hlen]) hl hm (fun e h => ?_) (fun _ h=>by cases h) (fun ad hd i j hi hj => ?_) (fun i j c h => ?_))
    · obtain ⟨z,_,rfl⟩:=List.mem_map.1 h
      rfl
    · cases hd
      have e:i*1+j=i:=by omega
      rw [e]
      exact Ob W (hcell i (by omega))
    · by_cases hi:i<len
      · have hi':i<zs.length:=by omega
        have e:((zs.take len).map yF).getD i []=yF (zs.getD i 0):=by
          simp [List.getD,List.getElem?_map,List.getElem?_take,hi,hi']
        rw [e] at h
        match j with
        | 0 =>
          simp only [List.getElem?_cons_zero,Option.some.injEq] at h
          subst h
          exact .lit _ rfl
        | j+1=>simp at h
      · have e:((zs.take len).map yF).getD i []=[]:=by
          simp [List.getD,List.getElem?_map,List.getElem?_take,hi]
        rw [e] at h
        simp at h
end Go.Ab
end
