/- The functions of the program that the laws reach: what they compute, the proofs that they do, the laws of the data (part 2). No conditions. -/
import Derived.Test.YtoijiephcflchaaGreatDoorB1
set_option linter.unusedVariables false
set_option linter.unusedSimpArgs false
section
namespace Go.Ab
open Go
theorem zo:∀ {d e:Nat} {n:af},d<=e->Shape d n=true->Shape e n=true
  | 0,_,_,_,h=>by cases h
  | d+1,0,_,hd,_=>by omega
  | d+1,e+1,n,hd,h=>by
    unfold Shape
    rw [jG h,Bool.true_and,List.all_eq_true]
    exact fun k hk=>zo (by omega) (kY h k hk)
theorem yH {α:Type} {f g:α->Nat} : ∀ {l:List α},(∀ x,x∈l->f x=g x)->(l.map f).sum=(l.map g).sum
  | [],_=>rfl
  | x::l,h=>by
    simp only [List.map_cons,List.sum_cons]
    rw [h x (by simp),yH (fun y hy=>h y (by simp [hy]))]
theorem cnt_mono:∀ {d e:Nat} {n:af},d<=e->Shape d n=true->Cnt d n=Cnt e n
  | 0,_,_,_,h=>by cases h
  | d+1,0,_,hd,_=>by omega
  | d+1,e+1,n,hd,h=>by
    unfold Cnt
    rw [yH (f:=Cnt d) (g:=Cnt e) (fun k hk=>cnt_mono (by omega) (kY h k hk))]
theorem Q5 {α:Type} (f:α->Nat):∀ {l:List α} {x:α},x∈l->f x<=(l.map f).sum
  | y::l,x,h=>by
    simp only [List.map_cons,List.sum_cons]
    rcases List.mem_cons.1 h with rfl | h
    · omega
    · have:=Q5 f h; omega
theorem jY {n:af} (h:Val n=true):Shape 5 n=true:=by unfold Val at h; simp only [Bool.and_eq_true] at h; exact h.1
theorem NL {n:af} (h:Val n=true):Cnt 5 n<=40:=by unfold Val at h; simp only [Bool.and_eq_true,decide_eq_true_eq] at h; exact h.2
theorem iW {n:af} (h:Val n=true):Fine 12 5 n:=nR (jY h)
theorem SA {d:Nat} {n:af} (hd:d<=5) (h:Shape d n=true) (hc:Cnt d n<=40):Val n=true:=by
 unfold Val
 rw [zo hd h,Bool.true_and,decide_eq_true_eq,<- cnt_mono hd h]
 exact hc
theorem Jm:∀ (p:List aS) {d:Nat} {n m:af},Shape d n=true->xk n p=some m->Shape d m=true/\Cnt d m<=Cnt d n
  | [],d,n,m,h,e=>by cases e; exact ⟨h,Nat.le_refl _⟩
  | s::p,d,n,m,h,e=>by
    rw [xk] at e
    cases hj:rG n s with
    | none=>rw [hj] at e; cases e
    | some j =>
      rw [hj] at e
      cases d with
      | zero=>cases h
      | succ d =>
        have hjl:=nX hj
        obtain ⟨h1,h2⟩:=Jm p (o9 h hjl) e
        refine ⟨zo (by omega) h1,?_⟩
        rw [<- cnt_mono (Nat.le_succ d) h1]
        have:=Q5 (Cnt d) (l:=n.Kids) (x:=n.Kids.getD j default) (by rw [bF _ hjl]; exact List.getElem_mem _)
        show _<=1+(n.Kids.map (Cnt d)).sum
        omega
theorem NH {α:Type} (f:α->Nat) {c:α} : ∀ {l:List α} {j:Nat} (d:α),f c<=f (l.getD j d)->((l.set j c).map f).sum<=(l.map f).sum
  | [],_,_,_=>by simp
  | x::l,0,d,h=>by
    rw [List.getD_cons_zero] at h
    simp only [List.set_cons_zero,List.map_cons,List.sum_cons]
    omega
  | x::l,j+1,d,h=>by
    rw [List.getD_cons_succ] at h
    have:=NH f (l:=l) (j:=j) d h
    simp only [List.set_cons_succ,List.map_cons,List.sum_cons]
    omega
theorem O6 {n c:af} {j:Nat} (h:Parts n=true):Parts (uk n j c)=true:=by
 unfold Parts uk at *
 simpa using h
theorem Gi {f:af->Option af} (hf:∀ d k k',Shape d k=true->f k=some k'->Shape d k'=true/\Cnt d k'<=Cnt d k) :
    ∀ (p:List aS) {d:Nat} {n m:af},Shape d n=true->sO f n p=some m->Shape d m=true/\Cnt d m<=Cnt d n
  | [],d,n,m,h,e=>hf d n m h (by rw [sO] at e; exact e)
  | s::p,d,n,m,h,e=>by
    rw [sO] at e
    cases hj:rG n s with
    | none=>rw [hj] at e; cases e
    | some j =>
      rw [hj] at e
      simp only at e
      cases d with
      | zero=>cases h
      | succ d =>
      have hjl:=nX hj
      cases hc:sO f (n.Kids.getD j default) p with
      | none=>rw [hc] at e; cases e
      | some c =>
        rw [hc] at e
        cases e
        obtain ⟨h1,h2⟩:=Gi hf p (o9 h hjl) hc
        constructor
        · unfold Shape
          rw [O6 (jG h),Bool.true_and,List.all_eq_true]
          intro k hk
          rcases List.mem_or_eq_of_mem_set hk with hk | rfl
          · exact kY h k hk
          · exact h1
        · show 1+((n.Kids.set j c).map (Cnt d)).sum<=1+(n.Kids.map (Cnt d)).sum
          have:=NH (Cnt d) (l:=n.Kids) (j:=j) default h2
          omega
def mZ {α:Type} (l:List α) (k:Nat):List α:=l.take k++l.drop (k+1)
def rE (n:af) (s:aS):Option af:=match rG n s with
 | some k=>some (af.mk n.Kind 0 [] (if n.Kind=4 then mZ n.Names k else []) (mZ n.Kids k))
 | none=>none
theorem rq:∀ {l:List aS},Asc l=true<->l.Pairwise (fun x y=>bl x y=true)
  | []=>by simp [Asc]
  | x::l=>by
    rw [List.pairwise_cons,<- rq (l:=l)]
    constructor
    · intro h; exact ⟨uQ h,tY h⟩
    · rintro ⟨h1,h2⟩
      cases l with
      | nil=>rfl
      | cons y r=>rw [Asc,h2,Bool.and_true]; exact h1 y (by simp)
theorem pR {α:Type} (l:List α) (k:Nat):(mZ l k).Sublist l:=by
 unfold mZ
 conv=>rhs; rw [<- List.take_append_drop k l]
 refine List.Sublist.append (List.Sublist.refl _) ?_
 rw [<- List.drop_drop]
 exact List.drop_sublist 1 _
theorem rU {α:Type} {l:List α} {k:Nat} (h:k<l.length):(mZ l k).length=l.length-1:=by unfold mZ; simp; omega
theorem Us {α:Type} (f:α->Nat):∀ {l m:List α},l.Sublist m->(l.map f).sum<=(m.map f).sum:=by
 intro l m h
 induction h with
 | slnil=>simp
 | cons a h ih=>simp only [List.map_cons,List.sum_cons]; omega
 | cons_cons a h ih=>simp only [List.map_cons,List.sum_cons]; omega
theorem Ph (s:aS):∀ d k k',Shape d k=true->rE k s=some k'->Shape d k'=true/\Cnt d k'<=Cnt d k:=by
  intro d n m h e
  unfold rE at e
  cases hj:rG n s with
  | none=>rw [hj] at e; cases e
  | some j =>
    rw [hj] at e
    cases e
    have hjl:=nX hj
    cases d with
    | zero=>cases h
    | succ d =>
    have hp:=jG h
    have hsub:=pR n.Kids j
    have hlen:=rU hjl
    have hl:=BZ hp
    constructor
    · unfold Shape
      rw [Bool.and_eq_true,List.all_eq_true]
      refine ⟨?_,fun k hk=>kY h k (hsub.subset hk)⟩
      by_cases h4:n.Kind=4
      · obtain ⟨_,_,hN,hnl,hkl⟩:=oL hp h4
        have hNM:NM (mZ n.Names j)=true:=by
          unfold NM
          rw [Bool.and_eq_true]
          refine ⟨List.all_eq_true.2 fun x hx=>Md hN x ((pR _ _).subset hx),rq.2 ((rq.1 (zf hN)).sublist (pR _ _))⟩
        have hl2:=rU (l:=n.Names) (k:=j) (by omega)
        unfold Parts
        simp [h4,hNM]
        omega
      · by_cases h3:n.Kind=3
        · unfold Parts
          simp [h3]
          omega
        · have:=yh hj; rw [vz h4 h3] at this; cases this
    · show 1+((mZ n.Kids j).map (Cnt d)).sum<=1+(n.Kids.map (Cnt d)).sum
      have:=Us (Cnt d) hsub
      omega
def uA (p:List aS):aS:=p.getD (p.length-1) default
def qH (p:List aS):List aS:=p.take (p.length-1)
def pq (n:af) (p:List aS) (v:af):Option af:=if p=[] then some v else sO (fun m=>addN m (uA p) v) n (qH p)
def pW (n:af) (p:List aS):Option af:=if p=[] then none else sO (fun m=>rE m (uA p)) n (qH p)
theorem T.je {B D:Nat} {o:Option af} (hB:B<=lim) (h:∀ m,o=some m->Fine B D m):Ev (fun f=>G.je f (iV o).1 (iV o).2) (iV (o.filter Val)):=by
  refine Ev.up ?_
  simp only [G.je]
  cases o with
  | none=>exact Ev.cf rfl (Ev.ret _)
  | some m =>
    refine Ev.ct rfl (Ev.bind (T.bD hB (h m rfl)) (Ev.ite (fun e=>Ev.ret' ?_) (fun e=>Ev.ret' ?_)))
    · have e:Val m=true:=e
      simp [Option.filter,e,iV]
    · have e:Val m=false:=e
      simp [Option.filter,e,iV,nG]
theorem T.iM {B D:Nat} {o:Option af} (hB:B<=lim) (h:∀ m,o=some m->Fine B D m):Ev (fun f=>G.iM f (iV o).1 (iV o).2) (iV (o.filter Val)):=by
  refine Ev.up ?_
  simp only [G.iM]
  cases o with
  | none=>exact Ev.cf rfl (Ev.ret _)
  | some m =>
    refine Ev.ct rfl (Ev.bind (T.aC hB (h m rfl)) (Ev.ite (fun e=>Ev.ret' ?_) (fun e=>Ev.ret' ?_)))
    · have e:Val m=true:=e
      simp [Option.filter,e,iV]
    · have e:Val m=false:=e
      simp [Option.filter,e,iV,nG]
theorem xC {p:List aS} (hp:p ≠ []) (hl:p.length<big):IntKind.wrap .i64 (((p.length:Nat):Int)-1)=((p.length-1:Nat):Int):=by
 have:0<p.length:=List.length_pos_iff.2 hp
 unfold big at hl
 exact wrapN (by omega) (by omega)
theorem EC {B D E:Nat} {n v m:af} {p:List aS} (h:Fine B D n) (hv:Fine B E v) (hs:∀ s,s∈p->s.length<=B) (hm:pq n p v=some m):Fine (B+1) (D+(D+E)) m:=by
  unfold pq at hm
  split at hm
  · cases hm; exact hv.mono (by omega) (by omega)
  · rename_i hp
    have hlast:(uA p).length<=B:=by
      unfold uA
      have:0<p.length:=List.length_pos_iff.2 hp
      rw [bF _ (by omega:p.length-1<p.length)]
      exact hs _ (List.getElem_mem _)
    rw [GZ] at hm
    cases ha:xk n (qH p) with
    | none=>rw [ha] at hm; cases hm
    | some inner =>
      rw [ha,Option.bind_some] at hm
      cases hn:addN inner (uA p) v with
      | none=>rw [hn] at hm; cases hm
      | some next =>
        rw [hn,Option.bind_some] at hm
        have hi:=zX _ h ha
        have hnx:=JC hi hv hlast hn
        exact ED (B:=B+1) (E:=D+E) (qH p) (f:=fun _=>some next) (D:=D) (n:=n) (m:=m) (fun D' k k' _ e=>by cases e; exact hnx.mono (Nat.le_refl _) (by omega)) (h.mono (by omega) (Nat.le_refl _)) hm
theorem T.kZ {B D E:Nat} {n v:af} (p:List aS) (hB:B+1<lim) (hp:p.length<big) (hs:∀ s,s∈p->s.length<=B) (h:Fine B D n) (hv:Fine B E v):Ev (fun f=>G.kZ f n p v) (iV (pq n p v)):=by
  refine Ev.up ?_
  simp only [G.kZ]
  by_cases hp0:p=[]
  · subst hp0
    exact Ev.ct rfl (Ev.bind (T.ay (by omega) hv) (Ev.ret _))
  · have hpos:0<p.length:=List.length_pos_iff.2 hp0
    have hlast:(uA p).length<=B:=by
      unfold uA
      rw [bF _ (by omega:p.length-1<p.length)]
      exact hs _ (List.getElem_mem _)
    rw [xC hp0 hp,Int.toNat_natCast]
    unfold pq
    rw [if_neg hp0,GZ]
    have hil:(qH p).length<big:=by unfold qH; rw [List.length_take]; omega
    refine Ev.cf (by simpa using hp0) (Ev.chk (by omega) (Ev.bind (T.kM (qH p) (by omega) hil h) ?_))
    cases ha:xk n (qH p) with
    | none=>exact Ev.cf rfl (Ev.ret _)
    | some inner =>
      have hi:=zX _ h ha
      have hA:=T.jC (n:=inner) (uA p) (by omega) hi hv
      refine Ev.ct rfl (Ev.chk (by omega) (Ev.bind hA ?_))
      rw [Option.bind_some]
      cases hn:addN inner (uA p) v with
      | none=>exact Ev.cf rfl (Ev.ret _)
      | some next =>
        have hnx:=JC hi hv hlast hn
        refine Ev.ct rfl (Ev.chk (by omega) (Ev.bind (T.iU (by omega) hnx (qH p) hil (h.mono (by omega) (Nat.le_refl _))) (Ev.ret _)))
theorem Qz {B D:Nat} {n m:af} {s:aS} (h:Fine B D n) (e:rE n s=some m):Fine B D m:=by
  unfold rE at e
  cases hj:rG n s with
  | none=>rw [hj] at e; cases e
  | some j =>
    rw [hj] at e
    cases e
    cases D with
    | zero=>exact h.elim
    | succ D =>
    have hjl:=nX hj
    have hk:=h.kids
    have hn:=h.names
    have h1:=rU hjl
    refine ⟨by simp,?_,fun x hx => ?_,by show (mZ n.Kids j).length<=B; omega,fun h4 => ?_,fun k hk'=>h.2.2.2.2.2 k ((pR _ _).subset hk')⟩
    · show (if n.Kind=4 then mZ n.Names j else []).length<=B
      split
      · have:=(pR n.Names j).length_le; omega
      · simp
    · have hx:x∈(if n.Kind=4 then mZ n.Names j else []):=hx
      split at hx
      · exact h.2.2.1 x ((pR _ _).subset hx)
      · cases hx
    · have h4:n.Kind=4:=h4
      have hm:=h.map h4
      have h2:=rU (l:=n.Names) (k:=j) (by omega)
      show (mZ n.Kids j).length<=(if n.Kind=4 then mZ n.Names j else []).length
      rw [if_pos h4]
      omega
theorem T.eU {B D:Nat} {n:af} (p:List aS) (hB:B+1<lim) (hp:p.length<big) (h:Fine B D n):Ev (fun f=>G.eU f n p) (iV (pW n p)):=by
  have hB2:=hB
  unfold lim at hB2
  refine Ev.up ?_
  simp only [G.eU]
  by_cases hp0:p=[]
  · subst hp0
    exact Ev.ct (by rfl) (Ev.ret _)
  · have hpos:0<p.length:=List.length_pos_iff.2 hp0
    rw [xC hp0 hp,Int.toNat_natCast]
    unfold pW
    rw [if_neg hp0,GZ]
    have hil:(qH p).length<big:=by unfold qH; rw [List.length_take]; omega
    refine Ev.cf (by simp) (Ev.chk (by omega) (Ev.bind (T.kM (qH p) (by omega) hil h) ?_))
    cases ha:xk n (qH p) with
    | none=>exact Ev.cf rfl (Ev.ret _)
    | some inner =>
      have hi:=zX _ h ha
      have hk:=hi.kids
      have hnm:=hi.names
      have hP:=T.dH (n:=inner) (uA p) (by omega) hi
      refine Ev.ct rfl (Ev.chk (by omega) (Ev.bind hP ?_))
      rw [Option.bind_some]
      cases hj:rG inner (uA p) with
      | none =>
        unfold rE
        rw [hj]
        exact Ev.ct rfl (Ev.ret _)
      | some j =>
        have hjl:=nX hj
        simp only [vH,iV,Int.toNat_natCast,aV (show j+1<9223372036854775808 by omega)]
        have ht:(inner.Kids.take j).length=j:=by rw [List.length_take]; omega
        have hd:(inner.Kids.drop (j+1)).length=inner.Kids.length-(j+1):=List.length_drop
        refine Ev.cf (decide_eq_false (by omega)) (Ev.chk (by omega) (Ev.chk (by omega) (Ev.chk (by omega) (Ev.chk (by omega) ?_))))
        have key:∀ (b:Bool) (nm:List aS),rE inner (uA p)=some (af.mk inner.Kind 0 [] nm (mZ inner.Kids j))->Ev (fun f=>G.eU.K1 f n p (inner,b) (mZ inner.Kids j) nm) (iV ((rE inner (uA p)).bind fun m'=>DD n (qH p) m')):=by
          intro b nm e
          refine Ev.up ?_
          simp only [G.eU.K1]
          rw [xC hp0 hp,Int.toNat_natCast,e,Option.bind_some]
          exact Ev.chk (by omega) (Ev.bind (T.iU (by omega) (Qz hi e) (qH p) hil h) (Ev.ret _))
        refine Ev.ite (fun e4 => ?_) (fun e4 => ?_)
        · have h4:inner.Kind=4:=by simpa using e4
          have hm:=hi.map h4
          have ht2:(inner.Names.take j).length=j:=by rw [List.length_take]; omega
          have hd2:(inner.Names.drop (j+1)).length=inner.Names.length-(j+1):=List.length_drop
          refine Ev.chk (by omega) (Ev.chk (by omega) (Ev.chk (by omega) (Ev.chk (by omega) ?_)))
          exact key true (mZ inner.Names j) (by unfold rE; rw [hj]; simp [h4])
        · have h4:¬ inner.Kind=4:=by simpa using e4
          exact key true [] (by unfold rE; rw [hj]; simp [h4])
end Go.Ab
end
section
namespace Go.Ab
open Go
theorem J3 {B:Nat} (hB:B<=lim) {p:List aS} (hl:p.length<=B) (hs:∀ s,s∈p->s.length<=B):Sm p:=by
 unfold lim at hB
 exact ⟨by unfold big; omega,fun s h=>by have:=hs s h; unfold big; omega⟩
def qY (B:Nat) (p:List aS):Prop:=p.length<=B/\∀ s,s∈p->s.length<=B
theorem qY.sm {B:Nat} (hB:B<=lim) {p:List aS} (h:qY B p):Sm p:=J3 hB h.1 h.2
theorem ni {p:List aS} (h:PP p=true):qY 12 p:=by
 unfold PP at h
 simp only [Bool.and_eq_true,decide_eq_true_eq] at h
 exact ⟨by omega,fun s hs=>EM (List.all_eq_true.1 h.1 s hs)⟩
def I4 (n:af) (p:List aS) (v:af):Option af:=if Val n&&PP p&&Val v then (pq n p v).filter Val else none
def P8 (n:af) (p:List aS):Option af:=if Val n&&PP p then pW n p else none
def TD (n:af) (p:List aS) (v:af):Option af:=if Val n&&PP p&&Val v then (DD n p v).filter Val else none
def AtM (n:af) (p:List aS):Option af:=if Val n&&PP p then xk n p else none
theorem AL {n m:af} {p:List aS} (h:Val n=true) (e:pW n p=some m):Val m=true:=by
 unfold pW at e
 split at e
 ·cases e
 ·obtain ⟨h1,h2⟩:=Gi (Ph (uA p)) (qH p) (jY h) e
  exact SA (Nat.le_refl _) h1 (Nat.le_trans h2 (NL h))
theorem Bj {n m:af} {p:List aS} (h:Val n=true) (e:xk n p=some m):Val m=true:=by
 obtain ⟨h1,h2⟩:=Jm p (jY h) e
 exact SA (Nat.le_refl _) h1 (Nat.le_trans h2 (NL h))
theorem T.Ac {B E:Nat} {v:af} (p:List aS) (k:Nat) (hB:B<=lim) (hv:Fine B E v) (hk:k<p.length) :
  ∀ (q:List aS) {d:Nat} {n:af},Shape d n=true->Ev (fun f=>G.dB f n q p (k:Int) v) (iV (sO (fun m=>addN m (p.getD k default) v) n q)):=by
 refine T.change (F:=fun f a q=>G.dB f a q p (k:Int) v) (C:=fun f a=>G.kR f a p (k:Int) v) (fun n a q=>by simp only [G.dB]) (fun d m hm => ?_)
 refine Ev.up ?_
 simp only [G.kR]
 refine Ev.chk (by omega) (Ev.bind (T.fF _ hB hv hm) (Ev.ret' ?_))
 rw [Int.toNat_natCast]
theorem T.Ae {B E:Nat} {v:af} (hB:B<=lim) (hv:Fine B E v) :
  ∀ (q:List aS) {d:Nat} {n:af},Shape d n=true->Ev (fun f=>G.dD f n q v) (iV (DD n q v)):=by
 refine T.change (F:=fun f a q=>G.dD f a q v) (C:=fun f a=>G.kS f a v) (fun n a q=>by simp only [G.dD]) (fun d m hm => ?_)
 refine Ev.up ?_
 simp only [G.kS]
 exact Ev.bind (T.au hB hv) (Ev.ret _)
theorem T.dh {d:Nat} {n:af} (p:List aS) (k:Nat) (hk:k<p.length) (h:Shape d n=true):Ev (fun f=>G.dh f n p (k:Int)) (iV (rE n (p.getD k default))):=by
  cases d with
  | zero=>cases h
  | succ d =>
  have hp:=jG h
  have hl:=BZ hp
  obtain ⟨w,b,g,h1,h2⟩:=T.bG (p.getD k default) hp
  refine Ev.up ?_
  simp only [G.dh,Int.toNat_natCast]
  refine Ev.chk (by omega) (Ev.bind g ?_)
  unfold rE
  cases hj:rG n (p.getD k default) with
  | none=>exact Ev.cf (h2 hj) (Ev.ret _)
  | some j =>
    have hjl:=nX hj
    obtain ⟨rfl,rfl⟩:=h1 j hj
    have d1:Ev (fun f=>G.bU f n.Kids (j:Int) ((j+1:Nat):Int)) (mZ n.Kids j):=by
      refine Ev.up ?_
      simp only [G.bU,Int.toNat_natCast]
      exact Ev.chk (by omega) (Ev.ret _)
    have hK:∀ nm,n.Num=0->n.Text=[]->Ev (fun f=>G.dh.K1 f ((j:Int),true) n nm) (af.mk n.Kind 0 [] nm (mZ n.Kids j),true):=by
      intro nm e1 e2
      refine Ev.up ?_
      simp only [G.dh.K1,aV (show j+1<9223372036854775808 by omega)]
      exact Ev.bind d1 (Ev.ret' (by rw [e1,e2]))
    refine Ev.ct rfl (Ev.bind (T.au qJ (nR h)) ?_)
    by_cases h4:n.Kind=4
    · obtain ⟨e1,e2,_,hnl,hkl⟩:=oL hp h4
      have d2:Ev (fun f=>G.slices_Delete_string f n.Names (j:Int) ((j+1:Nat):Int)) (mZ n.Names j):=by
        refine Ev.up ?_
        simp only [G.slices_Delete_string,Int.toNat_natCast]
        exact Ev.chk (by omega) (Ev.ret _)
      refine Ev.ct (by simpa using h4) ?_
      simp only [aV (show j+1<9223372036854775808 by omega)]
      refine Ev.bind d2 ((hK _ e1 e2).eq ?_)
      simp [h4,iV]
    · by_cases h3:n.Kind=3
      · obtain ⟨e1,e2,e3,_⟩:=rV hp h3
        refine Ev.cf (by simpa using h4) ((hK _ e1 e2).eq ?_)
        simp [h4,iV,e3]
      · have:=yh hj; rw [vz h4 h3] at this; cases this
theorem T.Ad (p:List aS) (k:Nat) (hk:k<p.length) :
  ∀ (q:List aS) {d:Nat} {n:af},Shape d n=true->Ev (fun f=>G.cu f n q p (k:Int)) (iV (sO (fun m=>rE m (p.getD k default)) n q)) :=
 T.change (F:=fun f a q=>G.cu f a q p (k:Int)) (C:=fun f a=>G.dh f a p (k:Int)) (fun n a q=>by simp only [G.cu]) (fun d m hm=>T.dh p k hk hm)
theorem T.gY {B D E:Nat} {n v:af} {p:List aS} (hB:B+2<lim) (h:Fine B D n) (hp:qY B p) (hv:Fine B E v):Ev (fun f=>G.gY f n p v) (iV (I4 n p v)):=by
 have hsm:=hp.sm (by omega)
 refine Ev.up ?_
 simp only [G.gY]
 unfold I4
 refine Ev.bind (T.aC (by omega) h) (Ev.ite (fun e1 => ?_) (fun e1=>Ev.ret' (by rw [e1]; rfl)))
 refine Ev.bind (T.cO p hsm) (Ev.ite (fun e2 => ?_) (fun e2=>Ev.ret' (by rw [e1,e2]; rfl)))
 refine Ev.bind (T.aC (by omega) hv) (Ev.ite (fun e3 => ?_) (fun e3=>Ev.ret' (by rw [e1,e2,e3]; rfl)))
 rw [e1,e2,e3,if_pos (by rfl)]
 by_cases hp0:p=[]
 ·subst hp0
  refine Ev.ct rfl (Ev.bind (T.au (by omega) hv) (Ev.ret' ?_))
  unfold pq
  simp [Option.filter,e3,iV]
 ·have hpos:0<p.length:=List.length_pos_iff.2 hp0
  simp only [xC hp0 hsm.1,Int.toNat_natCast]
  refine Ev.cf (by simpa using hp0) (Ev.chk (by omega) ?_)
  have hc:=T.Ac p (p.length-1) (by omega) hv (by omega) (qH p) (jY e1)
  refine Ev.bind hc ?_
  have hA:pq n p v=sO (fun m=>addN m (p.getD (p.length-1) default) v) n (qH p):=by unfold pq; rw [if_neg hp0]; rfl
  rw [<- hA]
  exact Ev.bind (T.iM (o:=pq n p v) (B:=B+1) (by omega) (fun m hm=>EC h hv hp.2 hm)) (Ev.ret _)
theorem T.lC {B D E:Nat} {n v:af} {p:List aS} (hB:B+2<lim) (h:Fine B D n) (hp:qY B p) (hv:Fine B E v):Ev (fun f=>G.lC f n p v) (iV (TD n p v)):=by
 have hsm:=hp.sm (by omega)
 refine Ev.up ?_
 simp only [G.lC]
 unfold TD
 refine Ev.bind (T.aC (by omega) h) (Ev.ite (fun e1 => ?_) (fun e1=>Ev.ret' (by rw [e1]; rfl)))
 refine Ev.bind (T.cO p hsm) (Ev.ite (fun e2 => ?_) (fun e2=>Ev.ret' (by rw [e1,e2]; rfl)))
 refine Ev.bind (T.aC (by omega) hv) (Ev.ite (fun e3 => ?_) (fun e3=>Ev.ret' (by rw [e1,e2,e3]; rfl)))
 rw [e1,e2,e3,if_pos (by rfl)]
 refine Ev.bind (T.Ae (by omega) hv p (jY e1)) ?_
 exact Ev.bind (T.iM (B:=B) (by omega) (fun m hm=>BG h hv hm)) (Ev.ret _)
theorem T.fJ {B D:Nat} {n:af} {p:List aS} (hB:B+2<lim) (h:Fine B D n) (hp:qY B p):Ev (fun f=>G.fJ f n p) (iV (P8 n p)):=by
 have hsm:=hp.sm (by omega)
 refine Ev.up ?_
 simp only [G.fJ]
 unfold P8
 refine Ev.bind (T.aC (by omega) h) (Ev.ite (fun e1 => ?_) (fun e1=>Ev.ret' (by rw [e1]; rfl)))
 refine Ev.bind (T.cO p hsm) (Ev.ite (fun e2 => ?_) (fun e2=>Ev.ret' (by rw [e1,e2]; rfl)))
 rw [e1,e2,if_pos (by rfl)]
 by_cases hp0:p=[]
 ·subst hp0
  exact Ev.ct rfl (Ev.ret _)
 ·have hpos:0<p.length:=List.length_pos_iff.2 hp0
  simp only [xC hp0 hsm.1,Int.toNat_natCast]
  refine Ev.cf (by simpa using hp0) (Ev.chk (by omega) ?_)
  have hA:pW n p=sO (fun m=>rE m (p.getD (p.length-1) default)) n (qH p):=by unfold pW; rw [if_neg hp0]; rfl
  rw [hA]
  exact Ev.bind (T.Ad p (p.length-1) (by omega) (qH p) (jY e1)) (Ev.ret _)
theorem T.kH {B D:Nat} {n:af} {p:List aS} (hB:B+2<lim) (h:Fine B D n) (hp:qY B p):Ev (fun f=>G.kH f n p) (iV (AtM n p)):=by
 have hsm:=hp.sm (by omega)
 refine Ev.up ?_
 simp only [G.kH]
 unfold AtM
 refine Ev.bind (T.aC (by omega) h) (Ev.ite (fun e1 => ?_) (fun e1=>Ev.ret' (by rw [e1]; rfl)))
 refine Ev.bind (T.cO p hsm) (Ev.ite (fun e2 => ?_) (fun e2=>Ev.ret' (by rw [e1,e2]; rfl)))
 rw [e1,e2,if_pos (by rfl)]
 refine Ev.bind (T.dX p hsm.1 (jY e1)) ?_
 cases ha:xk n p with
 | none=>exact Ev.cf rfl (Ev.ret _)
 | some m=>exact Ev.ct rfl (Ev.bind (T.au (by omega) (zX p h ha)) (Ev.ret _))
theorem T.slices_Equal_string.L1 {a b:List aS} (hl:a.length=b.length) (hb:a.length<big):∀ (k i:Nat),i+k=a.length->Ev (fun f=>G.slices_Equal_string.L1 f a b i) (decide (a.drop i=b.drop i)):=by
  unfold big at hb
  intro k
  induction k with
  | zero =>
    intro i hi
    refine Ev.up ?_
    simp only [G.slices_Equal_string.L1]
    refine Ev.cf (by simp; omega) (Ev.ret' ?_)
    rw [List.drop_of_length_le (by omega),List.drop_of_length_le (by omega)]; rfl
  | succ k ih =>
    intro i hi
    refine Ev.up ?_
    simp only [G.slices_Equal_string.L1,Int.toNat_natCast,aV (show i+1<9223372036854775808 by omega)]
    refine Ev.ct (by simp; omega) (Ev.chk (by omega) (Ev.chk (by omega) ?_))
    rw [bg (default:aS) (by omega:i<a.length),bg (default:aS) (by omega:i<b.length)]
    refine Ev.ite (fun e=>(ih (i+1) (by omega)).eq ?_) (fun e=>Ev.ret' ?_)
    · rw [beq_iff_eq] at e
      apply decide_eq_decide.2
      rw [List.cons.injEq]
      exact ⟨fun h=>⟨e,h⟩,fun h=>h.2⟩
    · have e:a.getD i default ≠ b.getD i default:=by simpa using e
      symm
      apply decide_eq_false
      rw [List.cons.injEq]
      exact fun h=>e h.1
theorem T.slices_Equal_string {a b:List aS} (hb:a.length<big):Ev (fun f=>G.slices_Equal_string f a b) (decide (a=b)):=by
 refine Ev.up ?_
 simp only [G.slices_Equal_string]
 by_cases h:a.length=b.length
 ·exact Ev.cf (by simp; omega) (T.slices_Equal_string.L1 h hb a.length 0 (by omega))
 ·refine Ev.ct (by simp; omega) (Ev.ret' ?_)
  symm
  exact decide_eq_false (fun e=>h (by rw [e]))
def FO (n:af) (o p:List aS) (t:af):Option af:=if o <+: p then (if p.length=o.length then some n else none) else (pW n o).bind fun less=>pq less p t
theorem J4 {o p:List aS} (h:o.length<=p.length):p.take o.length=o<->o <+: p:=by
 rw [List.prefix_iff_eq_take,eq_comm]
def Tu (n:af) (o p:List aS):Option af:=if Val n&&PP o&&PP p then (xk n o).bind fun t=>(FO n o p t).filter Val else none
theorem T.kE {n:af} {o p:List aS} (h:Val n=true) (ho:PP o=true) (hp:PP p=true):Ev (fun f=>G.kE f n o p) (iV (Tu n o p)):=by
  have hb:(12:Nat)+2<lim:=by decide
  have fo:=ni ho
  have fp:=ni hp
  have so:=fo.sm (by decide)
  have sp:=fp.sm (by decide)
  refine Ev.up ?_
  simp only [G.kE]
  unfold Tu
  rw [h,ho,hp,if_pos (by rfl)]
  refine Ev.bind (T.kH hb (iW h) fo) ?_
  unfold AtM
  rw [h,ho,if_pos (by rfl)]
  cases ha:xk n o with
  | none=>exact Ev.cf rfl (Ev.ret _)
  | some t =>
    have hvt:=Bj h ha
    refine Ev.ct rfl ?_
    rw [Option.bind_some]
    have mv:¬ o <+: p->Ev (fun f=>Option.bind (G.fJ f n o) fun v5=>cond v5.2 (Option.bind (G.gY f v5.1 p t) fun v6=>some (v6.1,v6.2)) (some ((af.mk 0 0 [] [] []),false))) (iV ((FO n o p t).filter Val)):=by
      intro hn
      unfold FO
      rw [if_neg hn]
      refine Ev.bind (T.fJ hb (iW h) fo) ?_
      unfold P8
      rw [h,ho,if_pos (by rfl)]
      cases hr:pW n o with
      | none=>exact Ev.cf rfl (Ev.ret _)
      | some less =>
        have hvl:=AL h hr
        have hA:=T.gY (n:=less) hb (iW hvl) fp (iW hvt)
        have e:I4 less p t=(pq less p t).filter Val:=by unfold I4; rw [hvl,hp,hvt,if_pos (by rfl)]
        rw [e] at hA
        exact Ev.ct rfl (Ev.bind hA (Ev.ret _))
    refine Ev.bind (T.slices_Equal_string sp.1) (Ev.ite (fun e => ?_) (fun e => ?_))
    · rw [decide_eq_true_eq] at e
      subst e
      refine Ev.bind (T.au qJ (iW h)) (Ev.ret' ?_)
      unfold FO
      rw [if_pos (List.prefix_refl _),if_pos rfl]
      simp [Option.filter,h,iV]
    · have hne:p ≠ o:=by simpa using e
      refine Ev.ite (fun e2 => ?_) (fun e2 => ?_)
      · have hlt:o.length<p.length:=by simpa using e2
        refine Ev.chk (by omega) (Ev.bind (T.slices_Equal_string (a:=p.take o.length) (by rw [List.length_take]; have:=sp.1; omega)) (Ev.ite (fun e3=>Ev.ret' ?_) (fun e3 => ?_)))
        · rw [decide_eq_true_eq,J4 (by omega)] at e3
          unfold FO
          rw [if_pos e3,if_neg (by omega)]
          rfl
        · rw [decide_eq_false_iff_not,J4 (by omega)] at e3
          exact mv e3
      · have hge:¬ o.length<p.length:=by simpa using e2
        refine mv fun hpre => ?_
        have h1:=hpre.length_le
        exact hne (hpre.eq_of_length (by omega)).symm
end Go.Ab
end
section
namespace Go.Ab
open Go
theorem T.gI.L1 {p w:List aS} (hp:p.length<big) (hw:w.length<big):∀ (k i:Nat),i+k=w.length->Ev (fun f=>G.gI.L1 f p w i) (decide (w.drop i <+: p.drop i)):=by
  unfold big at hp hw
  intro k
  induction k with
  | zero =>
    intro i hi
    refine Ev.up ?_
    simp only [G.gI.L1]
    refine Ev.cf (by simp; omega) (Ev.ret' ?_)
    rw [List.drop_of_length_le (by omega:w.length<=i)]
    symm
    exact decide_eq_true (List.nil_prefix)
  | succ k ih =>
    intro i hi
    refine Ev.up ?_
    simp only [G.gI.L1,Int.toNat_natCast,aV (show i+1<9223372036854775808 by omega)]
    refine Ev.ct (by simp; omega) ?_
    rw [bg (default:aS) (by omega:i<w.length)]
    by_cases hpi:p.length<=i
    · refine Ev.ct (by simpa using hpi) (Ev.ret' ?_)
      rw [List.drop_of_length_le hpi]
      symm
      exact decide_eq_false (by simp)
    · refine Ev.cf (by simpa using hpi) (Ev.chk (by omega) (Ev.chk (by omega) ?_))
      rw [bg (default:aS) (by omega:i<p.length)]
      refine Ev.ite (fun e=>(ih (i+1) (by omega)).eq ?_) (fun e=>Ev.ret' ?_)
      · rw [beq_iff_eq] at e
        apply decide_eq_decide.2
        rw [List.cons_prefix_cons]
        exact ⟨fun h=>⟨e.symm,h⟩,fun h=>h.2⟩
      · have e:p.getD i default ≠ w.getD i default:=by simpa using e
        symm
        apply decide_eq_false
        rw [List.cons_prefix_cons]
        exact fun h=>e h.1.symm
theorem T.gI {p w:List aS} (hp:p.length<big) (hw:w.length<big):Ev (fun f=>G.gI f p w) (decide (w <+: p)):=by
 refine Ev.up ?_
 simp only [G.gI]
 exact T.gI.L1 hp hw w.length 0 (by omega)
open Classical in
noncomputable def applyN (n:af) (o:jq):Option af :=
 if o.Kind=1 then pq n o.Path o.Value else if o.Kind=2 then pW n o.Path else if o.Kind=3 then DD n o.Path o.Value
 else (xk n (if o.Kind=6 then o.Path else o.From)).bind fun t =>
  if o.Kind=6 then (if t=o.Value then some n else none) else if o.Kind=5 then pq n o.Path t else FO n o.From o.Path t
def FC (o:jq):Bool:=(decide (1<=o.Kind)&&decide (o.Kind<=6))&&PP o.Path&&PP o.From&&Val o.Value
noncomputable def qW (n:af) (o:jq):Option af:=if Val n&&FC o then (applyN n o).filter Val else none
def Said (q:af × Bool) (o:Option af):Prop:=(q.2=true->o=some q.1)/\(q.2=false->o=none)
theorem vM (o:Option af):Said (iV o) o:=by
 cases o with
 | none=>exact ⟨fun e=>(by cases e),fun _=>rfl⟩
 | some m=>exact ⟨fun _=>rfl,fun e=>(by cases e)⟩
structure zD (o:jq):Prop where
 k1:1<=o.Kind
 k6:o.Kind<=6
 path:PP o.Path=true
 from_:PP o.From=true
 val:Val o.Value=true
theorem tX {o:jq} (h:FC o=true):zD o:=by
 unfold FC at h
 simp only [Bool.and_eq_true,decide_eq_true_eq] at h
 exact ⟨h.1.1.1.1,h.1.1.1.2,h.1.1.2,h.1.2,h.2⟩
theorem QH:(12:Nat)+1<lim:=by decide
theorem OE:(12:Nat)+2<lim:=by decide
theorem T.fD.K1 {n:af} {o:jq} (h:Val n=true) (ho:zD o) (fr:List aS) (hf:PP fr=true) (h6:fr=if o.Kind=6 then o.Path else o.From) (hk:o.Kind ≠ 1/\o.Kind ≠ 2/\o.Kind ≠ 3) :
    ∃ q,Ev (fun f=>G.fD.K1 f n o fr) q/\Said q (applyN n o):=by
  have sp:=(ni ho.path).sm (by decide)
  have sf:=(ni ho.from_).sm (by decide)
  have sr:=(ni hf).sm (by decide)
  have hn:=iW h
  have hat:=T.kM fr (by decide) sr.1 hn
  have hN:applyN n o=(xk n fr).bind fun t => @ite _ (o.Kind=6) _ (@ite _ (t=o.Value) (Classical.propDecidable _) (some n) none) (if o.Kind=5 then pq n o.Path t else FO n o.From o.Path t):=by
    unfold applyN
    rw [if_neg hk.1,if_neg hk.2.1,if_neg hk.2.2,h6]
  rw [hN]
  cases ha:xk n fr with
  | none =>
    rw [ha] at hat
    refine ⟨(nG,false),Ev.up ?_,⟨fun e=>(by cases e),fun _=>rfl⟩⟩
    simp only [G.fD.K1]
    exact Ev.bind hat (Ev.cf rfl (Ev.ret _))
  | some t =>
    rw [ha] at hat
    have ht:=iW (Bj h ha)
    rw [Option.bind_some]
    by_cases k6:o.Kind=6
    · obtain ⟨v,gs,hv⟩:=T.ny (jY (Bj h ha)) (jY ho.val)
      refine ⟨(n,v),Ev.up ?_,?_⟩
      · simp only [G.fD.K1]
        exact Ev.bind hat (Ev.ct rfl (Ev.ct (by simpa using k6) (Ev.bind gs (Ev.ret _))))
      · rw [if_pos k6]
        refine ⟨fun e=>if_pos (hv.1 e),fun e=>if_neg fun e2 => ?_⟩
        have:=hv.2 e2
        rw [show v=false from e] at this
        cases this
    · rw [if_neg k6]
      by_cases k5:o.Kind=5
      · rw [if_pos k5]
        refine ⟨_,Ev.up ?_,vM _⟩
        simp only [G.fD.K1]
        exact Ev.bind hat (Ev.ct rfl (Ev.cf (by simpa using k6) (Ev.ct (by simpa using k5) (Ev.bind (T.kZ o.Path QH sp.1 (ni ho.path).2 hn ht) (Ev.ret _)))))
      · rw [if_neg k5]
        unfold FO
        have hbg:=T.gI sp.1 sf.1
        by_cases hpre:o.From <+: o.Path
        · rw [if_pos hpre]
          refine ⟨(n,((o.Path.length:Nat):Int)==((o.From.length:Nat):Int)),Ev.up ?_,?_⟩
          · simp only [G.fD.K1]
            exact Ev.bind hat (Ev.ct rfl (Ev.cf (by simpa using k6) (Ev.cf (by simpa using k5) (Ev.bind hbg (Ev.ct (by simpa using hpre) (Ev.bind (T.ay qJ hn) (Ev.ret _)))))))
          · rw [ilen]
            refine ⟨fun e=>if_pos (by simpa using e),fun e=>if_neg (by simpa using e)⟩
        · rw [if_neg hpre]
          have hr:=T.eU (n:=n) o.From QH sf.1 hn
          cases hre:pW n o.From with
          | none =>
            rw [hre] at hr
            refine ⟨(nG,false),Ev.up ?_,⟨fun e=>(by cases e),fun _=>rfl⟩⟩
            simp only [G.fD.K1]
            exact Ev.bind hat (Ev.ct rfl (Ev.cf (by simpa using k6) (Ev.cf (by simpa using k5) (Ev.bind hbg (Ev.cf (by simpa using hpre) (Ev.bind hr (Ev.cf rfl (Ev.ret _))))))))
          | some less =>
            rw [hre] at hr
            have hl:=iW (AL h hre)
            refine ⟨_,Ev.up ?_,vM _⟩
            simp only [G.fD.K1]
            exact Ev.bind hat (Ev.ct rfl (Ev.cf (by simpa using k6) (Ev.cf (by simpa using k5) (Ev.bind hbg (Ev.cf (by simpa using hpre) (Ev.bind hr (Ev.ct rfl (Ev.bind (T.kZ (n:=less) o.Path QH sp.1 (ni ho.path).2 hl ht) (Ev.ret _)))))))))
theorem T.fD {n:af} {o:jq} (h:Val n=true) (ho:zD o):∃ q,Ev (fun f=>G.fD f n o) q/\Said q (applyN n o):=by
 have sp:=(ni ho.path).sm (by decide)
 have hn:=iW h
 by_cases k1:o.Kind=1
 ·refine ⟨_,Ev.up ?_,vM _⟩
  simp only [G.fD]
  refine Ev.ct (by simpa using k1) ?_
  have:applyN n o=pq n o.Path o.Value:=by unfold applyN; rw [if_pos k1]
  rw [this]
  exact Ev.bind (T.kZ o.Path QH sp.1 (ni ho.path).2 hn (iW ho.val)) (Ev.ret _)
 by_cases k2:o.Kind=2
 ·refine ⟨_,Ev.up ?_,vM _⟩
  simp only [G.fD]
  refine Ev.cf (by simpa using k1) (Ev.ct (by simpa using k2) ?_)
  have:applyN n o=pW n o.Path:=by unfold applyN; rw [if_neg k1,if_pos k2]
  rw [this]
  exact Ev.bind (T.eU o.Path QH sp.1 hn) (Ev.ret _)
 by_cases k3:o.Kind=3
 ·refine ⟨_,Ev.up ?_,vM _⟩
  simp only [G.fD]
  refine Ev.cf (by simpa using k1) (Ev.cf (by simpa using k2) (Ev.ct (by simpa using k3) ?_))
  have:applyN n o=DD n o.Path o.Value:=by unfold applyN; rw [if_neg k1,if_neg k2,if_pos k3]
  rw [this]
  exact Ev.bind (T.iU (by decide) (iW ho.val) o.Path sp.1 hn) (Ev.ret _)
 by_cases k6:o.Kind=6
 ·obtain ⟨q,g,hq⟩:=T.fD.K1 h ho o.Path ho.path (by rw [if_pos k6]) ⟨k1,k2,k3⟩
  refine ⟨q,Ev.up ?_,hq⟩
  simp only [G.fD]
  exact Ev.cf (by simpa using k1) (Ev.cf (by simpa using k2) (Ev.cf (by simpa using k3) (Ev.ct (by simpa using k6) g)))
 ·obtain ⟨q,g,hq⟩:=T.fD.K1 h ho o.From ho.from_ (by rw [if_neg k6]) ⟨k1,k2,k3⟩
  refine ⟨q,Ev.up ?_,hq⟩
  simp only [G.fD]
  exact Ev.cf (by simpa using k1) (Ev.cf (by simpa using k2) (Ev.cf (by simpa using k3) (Ev.cf (by simpa using k6) g)))
theorem BF {n v m:af} {p:List aS} (hn:Val n=true) (hv:Val v=true) (hp:PP p=true) (e:pq n p v=some m):Fine 13 15 m :=
 EC (iW hn) (iW hv) (ni hp).2 e
theorem LQ {n m:af} {o:jq} (h:Val n=true) (ho:zD o) (e:applyN n o=some m):Fine 13 15 m:=by
  unfold applyN at e
  by_cases k1:o.Kind=1
  · rw [if_pos k1] at e; exact BF h ho.val ho.path e
  rw [if_neg k1] at e
  by_cases k2:o.Kind=2
  · rw [if_pos k2] at e; exact (iW (AL h e)).mono (by omega) (by omega)
  rw [if_neg k2] at e
  by_cases k3:o.Kind=3
  · rw [if_pos k3] at e; exact (BG (iW h) (iW ho.val) e).mono (by omega) (by omega)
  rw [if_neg k3] at e
  cases ha:xk n (if o.Kind=6 then o.Path else o.From) with
  | none=>rw [ha] at e; cases e
  | some t =>
    have ht:=Bj h ha
    rw [ha,Option.bind_some] at e
    by_cases k6:o.Kind=6
    · rw [if_pos k6] at e
      split at e
      · cases e; exact (iW h).mono (by omega) (by omega)
      · cases e
    rw [if_neg k6] at e
    by_cases k5:o.Kind=5
    · rw [if_pos k5] at e; exact BF h ht ho.path e
    rw [if_neg k5] at e
    unfold FO at e
    split at e
    · split at e
      · cases e; exact (iW h).mono (by omega) (by omega)
      · cases e
    · cases hr:pW n o.From with
      | none=>rw [hr] at e; cases e
      | some less=>rw [hr,Option.bind_some] at e; exact BF (AL h hr) ht ho.path e
theorem T.EX {B D:Nat} {q:af × Bool} {o:Option af} (hB:B<=lim) (hq:Said q o) (h:∀ m,o=some m->Fine B D m):Ev (fun f=>G.je f q.1 q.2) (iV (o.filter Val)):=by
  obtain ⟨m,b⟩:=q
  cases b with
  | false =>
    rw [hq.2 rfl]
    refine Ev.up ?_
    simp only [G.je]
    exact Ev.cf rfl (Ev.ret _)
  | true =>
    have e:=hq.1 rfl
    subst e
    exact T.je (o:=some m) hB h
theorem T.iH {n:af} {o:jq} (h:Val n=true) (ho:zD o):Ev (fun f=>G.iH f n o) (iV ((applyN n o).filter Val)):=by
  obtain ⟨q,g,hq⟩:=T.fD h ho
  have hc:=T.EX (B:=13) (D:=15) (by decide) hq (fun m hm=>LQ h ho hm)
  refine Ev.up ?_
  simp only [G.iH]
  refine Ev.bind g (Ev.bind hc ?_)
  cases hm:(applyN n o).filter Val with
  | none=>exact Ev.cf rfl (Ev.ret _)
  | some m =>
    have hv:Val m=true:=by
      have:=Option.filter_eq_some_iff.1 hm
      exact this.2
    exact Ev.ct rfl (Ev.bind (T.ay qJ (iW hv)) (Ev.ret _))
structure D5 (B D:Nat) (o:jq):Prop where
 path:qY B o.Path
 from_:qY B o.From
 val:Fine B D o.Value
theorem T.jD {B D:Nat} {o:jq} (hB:B<=lim) (h:D5 B D o):Ev (fun f=>G.jD f o) (FC o):=by
 refine Ev.up ?_
 simp only [G.jD]
 unfold FC
 refine Ev.bind (T.bK _ _ _) (Ev.ite (fun e1 => ?_) (fun e1=>Ev.ret' (by rw [e1]; rfl)))
 refine Ev.bind (T.dw _ (h.path.sm hB)) (Ev.ite (fun e2 => ?_) (fun e2=>Ev.ret' (by rw [e1,e2]; rfl)))
 refine Ev.bind (T.dw _ (h.from_.sm hB)) (Ev.ite (fun e3 => ?_) (fun e3=>Ev.ret' (by rw [e1,e2,e3]; rfl)))
 exact Ev.bind (T.bD hB h.val) (Ev.ret' (by rw [e1,e2,e3]; rfl))
theorem T.kV {B D:Nat} {o:jq} (hB:B<=lim) (h:D5 B D o):Ev (fun f=>G.kV f o) (FC o):=by
 refine Ev.up ?_
 simp only [G.kV]
 unfold FC
 refine Ev.ite (fun e0 => ?_) (fun e0=>Ev.ret' (by rw [e0]; rfl))
 refine Ev.ite (fun e1 => ?_) (fun e1=>Ev.ret' (by rw [e0,e1]; rfl))
 refine Ev.bind (T.cO _ (h.path.sm hB)) (Ev.ite (fun e2 => ?_) (fun e2=>Ev.ret' (by rw [e0,e1,e2]; rfl)))
 refine Ev.bind (T.cO _ (h.from_.sm hB)) (Ev.ite (fun e3 => ?_) (fun e3=>Ev.ret' (by rw [e0,e1,e2,e3]; rfl)))
 exact Ev.bind (T.aC hB h.val) (Ev.ret' (by rw [e0,e1,e2,e3]; rfl))
end Go.Ab
end
section
namespace Go.Ab
open Go
theorem T.jJ {n v:af} {p:List aS} (h:Val n=true) (hp:PP p=true) (hv:Val v=true) :
    ∃ o,Ev (fun f=>G.jJ f n p v) (iV o)/\(∀ t,xk n p=some t->t=v->o=some n)/\(∀ t,xk n p=some t->t ≠ v->o=none)/\(xk n p=none->o=none):=by
  have sp:=(ni hp).sm (by decide)
  have hf:=T.dX p sp.1 (jY h)
  cases ha:xk n p with
  | none =>
    rw [ha] at hf
    refine ⟨none,Ev.up ?_,(fun t e=>by cases e),(fun t e=>by cases e),fun _=>rfl⟩
    simp only [G.jJ]
    exact Ev.bind hf (Ev.cf rfl (Ev.ret _))
  | some t =>
    rw [ha] at hf
    obtain ⟨b,gs,hb⟩:=T.kF (jY (Bj h ha)) (jY hv)
    cases b with
    | true =>
      refine ⟨some n,Ev.up ?_,fun t' _ _=>rfl,fun t' e hne => ?_,(fun e=>by cases e)⟩
      · simp only [G.jJ]
        exact Ev.bind hf (Ev.ct rfl (Ev.bind gs (Ev.ct rfl (Ev.bind (T.au qJ (iW h)) (Ev.ret _)))))
      · cases e; exact absurd (hb.1 rfl) hne
    | false =>
      refine ⟨none,Ev.up ?_,fun t' e he => ?_,fun t' _ _=>rfl,(fun e=>by cases e)⟩
      · simp only [G.jJ]
        exact Ev.bind hf (Ev.ct rfl (Ev.bind gs (Ev.cf rfl (Ev.ret _))))
      · cases e; have:=hb.2 he; cases this
theorem CV {n:af} (h:Val n=true):(some n).filter Val=some n:=by simp [Option.filter,h]
theorem T.lg {B D:Nat} {n:af} {o:jq} (hB:B+2<lim) (h:Fine B D n) (ho:D5 B D o):Ev (fun f=>G.lg f n o) (iV (qW n o)):=by
  refine Ev.up ?_
  simp only [G.lg]
  unfold qW
  refine Ev.bind (T.aC (by omega) h) (Ev.ite (fun e1 => ?_) (fun e1=>Ev.ret' (by rw [e1]; rfl)))
  refine Ev.bind (T.kV (by omega) ho) (Ev.ite (fun e2 => ?_) (fun e2=>Ev.ret' (by rw [e1,e2]; rfl)))
  rw [e1,e2,if_pos (by rfl)]
  have fo:=tX e2
  have hn:=iW e1
  by_cases k1:o.Kind=1
  · refine Ev.ct (by simpa using k1) ?_
    have e:I4 n o.Path o.Value=(applyN n o).filter Val:=by unfold I4 applyN; rw [e1,fo.path,fo.val,if_pos (by rfl),if_pos k1]
    rw [<- e]
    exact Ev.bind (T.gY OE hn (ni fo.path) (iW fo.val)) (Ev.ret _)
  refine Ev.cf (by simpa using k1) ?_
  by_cases k2:o.Kind=2
  · refine Ev.ct (by simpa using k2) ?_
    have e:P8 n o.Path=(applyN n o).filter Val:=by
      unfold P8 applyN
      rw [e1,fo.path,if_pos (by rfl),if_neg k1,if_pos k2]
      cases hr:pW n o.Path with
      | none=>rfl
      | some m=>exact (CV (AL e1 hr)).symm
    rw [<- e]
    exact Ev.bind (T.fJ OE hn (ni fo.path)) (Ev.ret _)
  refine Ev.cf (by simpa using k2) ?_
  by_cases k3:o.Kind=3
  · refine Ev.ct (by simpa using k3) ?_
    have e:TD n o.Path o.Value=(applyN n o).filter Val:=by unfold TD applyN; rw [e1,fo.path,fo.val,if_pos (by rfl),if_neg k1,if_neg k2,if_pos k3]
    rw [<- e]
    exact Ev.bind (T.lC OE hn (ni fo.path) (iW fo.val)) (Ev.ret _)
  refine Ev.cf (by simpa using k3) ?_
  have hN:applyN n o=(xk n (if o.Kind=6 then o.Path else o.From)).bind fun t => @ite _ (o.Kind=6) _ (@ite _ (t=o.Value) (Classical.propDecidable _) (some n) none) (if o.Kind=5 then pq n o.Path t else FO n o.From o.Path t):=by
    unfold applyN
    rw [if_neg k1,if_neg k2,if_neg k3]
  by_cases k4:o.Kind=4
  · refine Ev.ct (by simpa using k4) ?_
    have k6:¬ o.Kind=6:=by omega
    have k5:¬ o.Kind=5:=by omega
    have e:Tu n o.From o.Path=(applyN n o).filter Val:=by
      unfold Tu
      rw [e1,fo.path,fo.from_,if_pos (by rfl),hN,if_neg k6]
      cases ha:xk n o.From with
      | none=>rfl
      | some t=>simp only [Option.bind_some,if_neg k6,if_neg k5]
    rw [<- e]
    exact Ev.bind (T.kE e1 fo.from_ fo.path) (Ev.ret _)
  refine Ev.cf (by simpa using k4) ?_
  by_cases k5:o.Kind=5
  · refine Ev.ct (by simpa using k5) ?_
    have k6:¬ o.Kind=6:=by omega
    refine Ev.bind (T.kH OE hn (ni fo.from_)) ?_
    have eA:AtM n o.From=xk n o.From:=by unfold AtM; rw [e1,fo.from_,if_pos (by rfl)]
    rw [eA,hN,if_neg k6]
    cases ha:xk n o.From with
    | none=>exact Ev.cf rfl (Ev.ret _)
    | some t =>
      have ht:=Bj e1 ha
      have hA:=T.gY (v:=t) OE hn (ni fo.path) (iW ht)
      have e:I4 n o.Path t=(pq n o.Path t).filter Val:=by unfold I4; rw [e1,fo.path,ht,if_pos (by rfl)]
      rw [e] at hA
      simp only [Option.bind_some,if_neg k6,if_pos k5]
      exact Ev.ct rfl (Ev.bind hA (Ev.ret _))
  refine Ev.cf (by simpa using k5) ?_
  have k6:o.Kind=6:=by have:=fo.k1; have:=fo.k6; omega
  obtain ⟨q,g,h1,h2,h3⟩:=T.jJ e1 fo.path fo.val
  refine (show Ev _ (iV q) from Ev.bind g (Ev.ret _)).eq (congrArg iV ?_)
  rw [hN,if_pos k6]
  cases ha:xk n o.Path with
  | none=>rw [h3 ha]; rfl
  | some t =>
    simp only [Option.bind_some,if_pos k6]
    by_cases ht:t=o.Value
    · rw [h1 t ha ht,if_pos ht,CV e1]
    · rw [h2 t ha ht,if_neg ht]; rfl
end Go.Ab
end
section
namespace Go.Ab
open Go
def Tot {α:Type} (Q:α->Prop) (F:Nat->Option α):Prop:=∃ x,Ev F x/\Q x
section
variable {α β:Type} {Q:α->Prop} {F F':Nat->Option α}
theorem Tot.up (h:Tot Q (fun n=>F (n+1))):Tot Q F:=let ⟨x,g,q⟩:=h; ⟨x,Ev.up g,q⟩
theorem Tot.ret {x:α} (h:Q x):Tot Q (fun _=>some x):=⟨x,Ev.ret x,h⟩
theorem Tot.bind {P:β->Prop} {h:Nat->Option β} {k:Nat->β->Option α} (h1:Tot P h) (h2:∀ x,P x->Tot Q (fun n=>k n x)):Tot Q (fun n=>Option.bind (h n) (k n)):=by
 obtain ⟨x,g,p⟩:=h1
 obtain ⟨y,g',q⟩:=h2 x p
 exact ⟨y,Ev.bind g g',q⟩
theorem Tot.chk {p:Prop} [Decidable p] (hp:p) (h:Tot Q F):Tot Q (fun n=>Ab.chk p (F n)):=let ⟨x,g,q⟩:=h; ⟨x,Ev.chk hp g,q⟩
theorem Tot.ite {c:Bool} (h:c=true->Tot Q F) (h':c=false->Tot Q F'):Tot Q (fun n=>cond c (F n) (F' n)):=by
 cases c
 ·exact h' rfl
 ·exact h rfl
theorem Tot.mono {P:α->Prop} (h:Tot P F) (hq:∀ x,P x->Q x):Tot Q F:=let ⟨x,g,q⟩:=h; ⟨x,g,hq x q⟩
end
abbrev I8 (B:Nat) (n:af):Prop:=∃ D,Fine B D n
theorem qK:60<=lim:=by decide
end Go.Ab
end
section
namespace Go.Ab
open Go
abbrev U8 (o:jq):Prop:=∃ E,D5 60 E o
theorem qY.mono {B C:Nat} {p:List aS} (h:qY B p) (hB:B<=C):qY C p:=⟨Nat.le_trans h.1 hB,fun s hs=>Nat.le_trans (h.2 s hs) hB⟩
end Go.Ab
end
section
namespace Go.Ab
open Go
structure Tq (n:af) (o:jq) (m:af):Prop where
 vn:Val n=true
 vo:FC o=true
 app:applyN n o=some m
 vm:Val m=true
theorem applied {n m:af} {o:jq} (h:qW n o=some m):Tq n o m:=by
 unfold qW at h
 split at h
 ·rename_i hv
  simp only [Bool.and_eq_true] at hv
  obtain ⟨h1,h2⟩:=Option.filter_eq_some_iff.1 h
  exact ⟨hv.1,hv.2,h1,h2⟩
 ·cases h
theorem Oe {n:af} {o:jq} (hn:Val n=true) (ho:FC o=true):qW n o=(applyN n o).filter Val:=by unfold qW; rw [hn,ho]; rfl
theorem jq.eta (o:jq):jq.mk o.Kind o.Path o.From o.Value=o:=rfl
theorem RG {o:jq} (h:FC o=true):D5 12 5 o:=by
 have f:=tX h
 exact ⟨ni f.path,ni f.from_,iW f.val⟩
open Classical in
noncomputable def AO:af->List jq->Option af
  | n,[]=>some n
  | n,o::r=>match qW n o with
    | some m=>AO m r
    | none=>none
noncomputable def vk:af->List jq->Nat
  | _,[]=>0
  | n,o::r=>match qW n o with
    | some m=>vk m r+1
    | none=>0
def wY (l:List jq):Bool:=l.all FC&&decide (l.length<=12)
theorem Gn {l:List jq} : ∀ {n:af},vk n l=l.length<->(AO n l).isSome=true:=by
  induction l with
  | nil=>intro n; simp [vk,AO]
  | cons o l ih =>
    intro n
    rw [vk,AO]
    cases qW n o with
    | none=>simp
    | some k=>simp only [List.length_cons,Nat.add_right_cancel_iff]; exact ih
theorem Ar {l:List jq} (h:wY l=true):(∀ o,o∈l->FC o=true)/\l.length<=12:=by
 unfold wY at h
 simp only [Bool.and_eq_true,decide_eq_true_eq,List.all_eq_true] at h
 exact h
def zB (l:List jq):Prop:=l.length<=1000/\∀ o,o∈l->U8 o
theorem getD_mem {α:Type} {l:List α} {i:Nat} (d:α) (h:i<l.length):l.getD i d∈l:=by rw [bF d h]; exact List.getElem_mem h
theorem T.bf.L1 {l:List jq} (h:zB l):∀ (k i:Nat),i+k=l.length->Ev (fun f=>G.bf.L1 f l i) ((l.drop i).all FC&&decide (l.length<=12)):=by
  obtain ⟨hl,ho⟩:=h
  intro k
  induction k with
  | zero =>
    intro i hi
    refine Ev.up ?_
    simp only [G.bf.L1]
    refine Ev.cf (by simp; omega) (Ev.ret' ?_)
    rw [List.drop_of_length_le (by omega),List.all_nil,Bool.true_and]
    simp; omega
  | succ k ih =>
    intro i hi
    have hlt:i<l.length:=by omega
    refine Ev.up ?_
    simp only [G.bf.L1,Int.toNat_natCast,jq.eta,aV (show i+1<9223372036854775808 by omega)]
    obtain ⟨E,hf⟩:=ho _ (getD_mem default hlt)
    refine Ev.ct (by simpa using hlt) (Ev.chk (by omega) (Ev.bind (T.jD qK hf) ?_))
    rw [bg (default:jq) hlt,List.all_cons]
    refine Ev.ite (fun e => ?_) (fun e => ?_)
    · rw [e,Bool.true_and]; exact ih (i+1) (by omega)
    · rw [e,Bool.false_and]; exact Ev.ret _
theorem T.bf {l:List jq} (h:zB l):Ev (fun f=>G.bf f l) (wY l):=by
 refine Ev.up ?_
 simp only [G.bf]
 exact T.bf.L1 h l.length 0 (by omega)
noncomputable def Pj (N i:Nat) (n:af) (l:List jq):af × Int :=
 match AO n l with
 | some m=>(m,((N:Nat):Int))
 | none=>(nG,((i+vk n l:Nat):Int))
theorem T.dY.L1 {l:List jq} (h:wY l=true):∀ (k i:Nat) (n:af),i+k=l.length->Val n=true ->
    Ev (fun f=>G.dY.L1 f l i n.Kind n.Num n.Text n.Names n.Kids) (Pj l.length i n (l.drop i)):=by
  obtain ⟨ho,hl⟩:=Ar h
  intro k
  induction k with
  | zero =>
    intro i n hi hn
    refine Ev.up ?_
    simp only [G.dY.L1,af.eta]
    refine Ev.cf (by simp; omega) (Ev.ret' ?_)
    rw [List.drop_of_length_le (by omega)]; rfl
  | succ k ih =>
    intro i n hi hn
    have hlt:i<l.length:=by omega
    refine Ev.up ?_
    simp only [G.dY.L1,Int.toNat_natCast,jq.eta,af.eta,aV (show i+1<9223372036854775808 by omega)]
    have hv:=ho _ (getD_mem default hlt)
    have hA:=T.lg OE (iW hn) (RG hv)
    refine Ev.ct (by simpa using hlt) (Ev.chk (by omega) (Ev.bind hA ?_))
    rw [bg (default:jq) hlt]
    unfold Pj
    rw [AO,vk]
    cases ha:qW n (l.getD i default) with
    | none=>exact Ev.cf rfl (Ev.ret' rfl)
    | some m =>
      refine Ev.ct rfl ((ih (i+1) m (by omega) (applied ha).vm).eq ?_)
      unfold Pj
      simp only
      cases AO m (l.drop (i+1)) with
      | some k=>rfl
      | none =>
        refine congrArg (Prod.mk nG) ?_
        show ((i+1+vk m (l.drop (i+1)):Nat):Int)=((i+(vk m (l.drop (i+1))+1):Nat):Int)
        omega
theorem T.dY {n:af} {l:List jq} (hn:Val n=true) (h:wY l=true):Ev (fun f=>G.dY f n l) (Pj l.length 0 n l):=by
 refine Ev.up ?_
 simp only [G.dY]
 exact Ev.bind (T.au qJ (iW hn)) (T.dY.L1 h l.length 0 n (by omega) hn)
theorem Ea {n:af} {o:jq} (hn:Val n=true) (ho:FC o=true):Ev (fun f=>G.iH f n o) (iV (qW n o)):=by
 rw [Oe hn ho]; exact T.iH hn (tX ho)
end Go.Ab
end
section
namespace Go.Ab
open Go
set_option maxRecDepth 100000
theorem qY.big {B:Nat} {p:List aS} (hB:B<=1000) (h:qY B p):p.length<Ab.big:=by have:=h.1; unfold Ab.big; omega
end Go.Ab
end
section
namespace Go.Ab
open Go
set_option maxRecDepth 100000
structure uD (n:af):Prop where
 kind:n.Kind=4
 Be:Asc n.Names=true
 len:n.Kids.length=n.Names.length
structure Acc (n:af) (m:Nat):Prop where
 map:uD n
 num:n.Num=0
 text:n.Text=[]
 len:n.Names.length<=m
 small:∀ s,s∈n.Names->s.length<=12
theorem Acc.eq {n:af} {m:Nat} (h:Acc n m):n=af.mk 4 0 [] n.Names n.Kids:=by
 obtain ⟨⟨h1,_,_⟩,h2,h3,_,_⟩:=h
 cases n
 simp only at h1 h2 h3
 subst h1; subst h2; subst h3; rfl
end Go.Ab
end
section
namespace Go.Ab
open Go
set_option maxRecDepth 100000
structure Mp (m:af):Prop where
 map:uD m
 num:m.Num=0
 text:m.Text=[]
end Go.Ab
end
section
namespace Go.Ab
open Go
set_option maxRecDepth 100000
set_option linter.unusedSectionVars false
structure MF (D c:Nat) (m:af):Prop where
 mp:Mp m
 cnt:m.Names.length<=c
 sh:∀ s,s∈m.Names->s.length<=12
 kid:∀ k,k∈m.Kids->Fine 12 D k
structure MS (d:Nat) (a:af):Prop where
 mp:Mp a
 sh:Shape (d+1) a=true
 len:a.Names.length<=6
 txt:∀ s,s∈a.Names->s.length<=12
theorem MS.name {d:Nat} {a:af} (h:MS d a) {i:Nat} (hi:i<a.Kids.length):(a.Names.getD i default).length<=12:=h.txt _ (getD_mem default (by rw [<- h.mp.map.len]; exact hi))
end Go.Ab
end
section
namespace Go.Ab
open Go
set_option maxRecDepth 100000
set_option linter.unusedSectionVars false
abbrev ShN (E:Nat) (n:af):Prop:=Shape E n=true\/n=nG
end Go.Ab
end
section
namespace Go.Ab
open Go
set_option maxRecDepth 100000
def NC (b:UInt8):Bool:=(decide (97<=b.toNat)&&decide (b.toNat<=122))||(decide (48<=b.toNat)&&decide (b.toNat<=57))
def P5 (s:aS):Bool:=s.all NC&&(decide (1<=s.length)&&decide (s.length<=8))
def Bc (c:Int) (it:aH):Bool:=P5 it.Name&&(Val it.Node&&(decide (1<=it.Version)&&decide (it.Version<=c)))
def oG (l:List aH):List aS:=l.map fun it=>it.Name
def FD (s:StoreT):Bool:=(s.Items.all (Bc s.Clock)&&Asc (oG s.Items))&&(decide (s.Items.length<=10)&&(decide (0<=s.Clock)&&decide (s.Clock<=999)))
structure wJ (B:Nat) (s:StoreT):Prop where
 len:s.Items.length<=B
 Fz:∀ it,it∈s.Items->it.Name.length<=B
 KH:∀ it,it∈s.Items->I8 B it.Node
theorem nK {l:List aH} : (oG l).length=l.length:=by unfold oG; rw [List.length_map]
theorem rC {l:List aH} {i:Nat} (h:i<l.length):(oG l).getD i default=(l.getD i default).Name:=by
 rw [bF _ (by rw [nK]; exact h),bF _ h]
 unfold oG
 rw [List.getElem_map]
theorem zK {l:List aS} {i:Nat} (h0:0<i) (h:i<l.length):Asc (l.drop (i-1))=(bl (l.getD (i-1) default) (l.getD i default)&&Asc (l.drop i)):=by
 rw [drop_pred h0 h,Asc,bg (default:aS) h]
theorem DL {l:List aS} {i:Nat} (h:l.length<=i):Asc (l.drop (i-1))=true:=by
 by_cases h0:l.length<=i-1
 ·rw [List.drop_of_length_le h0]; rfl
 ·rw [bg (default:aS) (by omega:i-1<l.length),List.drop_of_length_le (by omega)]; rfl
theorem T.cZ.L1 (s:aS) (hs:s.length<big):∀ (k i:Nat),i+k=s.length->Ev (fun f=>G.cZ.L1 f s i) ((s.drop i).all NC&&(decide (1<=s.length)&&decide (s.length<=8))):=by
  unfold big at hs
  intro k
  induction k with
  | zero =>
    intro i hi
    refine Ev.up ?_
    simp only [G.cZ.L1]
    refine Ev.cf (decide_eq_false (by omega)) (Ev.bind (T.bK _ _ _) (Ev.ret' ?_))
    rw [List.drop_of_length_le (by omega),List.all_nil,Bool.true_and]
    congr 1<;>(apply decide_eq_decide.2; omega)
  | succ k ih =>
    intro i hi
    refine Ev.up ?_
    simp only [G.cZ.L1,Int.toNat_natCast,uZ,aV (show i+1<9223372036854775808 by omega)]
    rw [bg (0:UInt8) (by omega:i<s.length),List.all_cons]
    have e1:(decide ((97:Int)<=((s.getD i 0).toNat:Int))&&decide (((s.getD i 0).toNat:Int)<=122))=(decide (97<=(s.getD i 0).toNat)&&decide ((s.getD i 0).toNat<=122)):=by congr 1<;>(apply decide_eq_decide.2; omega)
    have e2:(decide ((48:Int)<=((s.getD i 0).toNat:Int))&&decide (((s.getD i 0).toNat:Int)<=57))=(decide (48<=(s.getD i 0).toNat)&&decide ((s.getD i 0).toNat<=57)):=by congr 1<;>(apply decide_eq_decide.2; omega)
    refine Ev.ct (decide_eq_true (by omega)) (Ev.chk (by omega) (Ev.bind (T.bK _ _ _) ?_))
    rw [e1]
    refine Ev.ite (fun h => ?_) (fun h => ?_)
    · refine (ih (i+1) (by omega)).eq ?_
      unfold NC
      rw [show (decide (97<=(s.getD i 0).toNat)&&decide ((s.getD i 0).toNat<=122))=true from h,Bool.true_or,Bool.true_and]
    · refine Ev.chk (by omega) (Ev.bind (T.bK _ _ _) ?_)
      rw [e2]
      refine Ev.ite (fun h2 => ?_) (fun h2=>Ev.ret' ?_)
      · refine (ih (i+1) (by omega)).eq ?_
        unfold NC
        rw [show (decide (48<=(s.getD i 0).toNat)&&decide ((s.getD i 0).toNat<=57))=true from h2,Bool.or_true,Bool.true_and]
      · unfold NC
        rw [show (decide (97<=(s.getD i 0).toNat)&&decide ((s.getD i 0).toNat<=122))=false from h,show (decide (48<=(s.getD i 0).toNat)&&decide ((s.getD i 0).toNat<=57))=false from h2]
        rfl
theorem T.cZ (s:aS) (hs:s.length<big):Ev (fun f=>G.cZ f s) (P5 s):=by
 refine Ev.up ?_
 simp only [G.cZ]
 exact T.cZ.L1 s hs s.length 0 (by omega)
theorem T.dP.L1 (s:aS) (hs:s.length<big):∀ (k i:Nat),i+k=s.length->Ev (fun f=>G.dP.L1 f s i) ((s.drop i).all NC):=by
  unfold big at hs
  intro k
  induction k with
  | zero =>
    intro i hi
    refine Ev.up ?_
    simp only [G.dP.L1]
    refine Ev.cf (decide_eq_false (by omega)) (Ev.ret' ?_)
    rw [List.drop_of_length_le (by omega)]; rfl
  | succ k ih =>
    intro i hi
    refine Ev.up ?_
    simp only [G.dP.L1,Int.toNat_natCast,aV (show i+1<9223372036854775808 by omega)]
    rw [bg (0:UInt8) (by omega:i<s.length),List.all_cons]
    have yes:NC (s.getD i 0)=true->Ev (fun f=>G.dP.L1 f s ((i+1:Nat):Int)) (NC (s.getD i 0)&&(s.drop (i+1)).all NC):=fun h=>(ih (i+1) (by omega)).eq (by rw [h]; rfl)
    have no:NC (s.getD i 0)=false->Ev (fun _=>some false) (NC (s.getD i 0)&&(s.drop (i+1)).all NC):=fun h=>Ev.ret' (by rw [h]; rfl)
    have ok:NC (s.getD i 0)=decide ((97<=(s.getD i 0).toNat/\(s.getD i 0).toNat<=122)\/(48<=(s.getD i 0).toNat/\(s.getD i 0).toNat<=57)):=by unfold NC; simp
    refine Ev.ct (decide_eq_true (by omega)) (Ev.chk (by omega) ?_)
    refine Ev.ite (fun h => ?_) (fun h => ?_)
    · simp only [decide_eq_true_eq] at h
      refine Ev.chk (by omega) (Ev.ite (fun h2 => ?_) (fun h2 => ?_))
      · simp only [decide_eq_true_eq] at h2
        exact no (by rw [ok]; exact decide_eq_false (by omega))
      · simp only [decide_eq_false_iff_not] at h2
        refine Ev.chk (by omega) (Ev.ite (fun h3 => ?_) (fun h3 => ?_))
        · simp only [decide_eq_true_eq] at h3
          exact no (by rw [ok]; exact decide_eq_false (by omega))
        · simp only [decide_eq_false_iff_not] at h3
          exact yes (by rw [ok]; exact decide_eq_true (by omega))
    · simp only [decide_eq_false_iff_not] at h
      refine Ev.chk (by omega) (Ev.ite (fun h2 => ?_) (fun h2 => ?_))
      · simp only [decide_eq_true_eq] at h2
        refine Ev.chk (by omega) (Ev.cf (decide_eq_false (by omega)) (Ev.chk (by omega) (Ev.ct (decide_eq_true (by omega)) ?_)))
        exact no (by rw [ok]; exact decide_eq_false (by omega))
      · simp only [decide_eq_false_iff_not] at h2
        exact yes (by rw [ok]; exact decide_eq_true (by omega))
theorem T.dP (s:aS) (hs:s.length<big):Ev (fun f=>G.dP f s) (P5 s):=by
 refine Ev.up ?_
 simp only [G.dP]
 unfold P5
 refine Ev.ite (fun h=>Ev.ret' ?_) (fun h=>Ev.ite (fun h2=>Ev.ret' ?_) (fun h2 => ?_))
 ·have:s=[]:=by simpa using h
  subst this; rfl
 ·simp only [decide_eq_true_eq] at h2
  rw [decide_eq_false (show ¬ s.length<=8 by omega),Bool.and_false,Bool.and_false]
 ·simp only [decide_eq_false_iff_not] at h2
  have hne:s ≠ []:=by simpa using h
  have hl:1<=s.length:=by cases s with
   | nil=>exact absurd rfl hne
   | cons _ _=>simp
  refine (T.dP.L1 s hs s.length 0 (by omega)).eq ?_
  rw [decide_eq_true hl,decide_eq_true (show s.length<=8 by omega),List.drop_zero]
  simp
theorem wJ.at_ {B:Nat} {s:StoreT} (h:wJ B s) {i:Nat} (hi:i<s.Items.length):(s.Items.getD i default).Name.length<=B/\I8 B (s.Items.getD i default).Node :=
 ⟨h.Fz _ (getD_mem default hi),h.KH _ (getD_mem default hi)⟩
structure Qb (s:StoreT):Prop where
 WW:∀ it,it∈s.Items->Bc s.Clock it=true
 Be:Asc (oG s.Items)=true
 len:s.Items.length<=10
 lo:0<=s.Clock
 hi:s.Clock<=999
structure XC (c:Int) (it:aH):Prop where
 Fz:P5 it.Name=true
 KH:Val it.Node=true
 lo:1<=it.Version
 hi:it.Version<=c
theorem LZ {c:Int} {it:aH} : Bc c it=true<->XC c it:=by
 unfold Bc
 simp only [Bool.and_eq_true,decide_eq_true_eq]
 exact ⟨fun ⟨h1,h2,h3,h4⟩=>⟨h1,h2,h3,h4⟩,fun h=>⟨h.Fz,h.KH,h.lo,h.hi⟩⟩
theorem Qb.it {s:StoreT} (h:Qb s) {i:Nat} (hi:i<s.Items.length):XC s.Clock (s.Items.getD i default):=LZ.1 (h.WW _ (getD_mem default hi))
end Go.Ab
end
section
namespace Go.Ab
open Go
set_option maxRecDepth 100000
structure CJ (B:Nat) (q:RequestT):Prop where
 Fz:q.Name.length<=B
 want:qY B q.Want
 avoid:qY B q.lK
 body:I8 B q.Body
 ops:zB q.Ops
structure UD (l:List RequestT):Prop where
 len:l.length<=1000
 req:∀ q,q∈l->CJ 60 q
theorem UD.at_ {l:List RequestT} (h:UD l) {i:Nat} (hi:i<l.length):CJ 60 (l.getD i default):=h.req _ (getD_mem default hi)
end Go.Ab
end
section
namespace Go.Ab
open Go
def nM (B:Nat):Nat->af->Prop
 | 0,_=>False
 | d+1,n=>n.Text.length<=B/\n.Names.length<=B/\(∀ s,s∈n.Names->s.length<=B)/\n.Kids.length<=B/\True/\∀ k,k∈n.Kids->nM B d k
theorem nM.mono {B C:Nat} (hB:B<=C):∀ {d e:Nat} {n:af},d<=e->nM B d n->nM C e n
  | 0,_,_,_,h=>h.elim
  | d+1,0,_,hd,_=>by omega
  | d+1,e+1,n,hd,h=>by
    obtain ⟨h1,h2,h3,h4,h5,h6⟩:=h
    exact ⟨by omega,by omega,fun s hs=>Nat.le_trans (h3 s hs) hB,by omega,h5,fun k hk=>(h6 k hk).mono hB (by omega)⟩
theorem nM.sm {B d:Nat} {n:af} (hB:B<=lim) (h:nM B d n):Sm n.Names:=by
  cases d with
  | zero=>exact h.elim
  | succ d =>
    obtain ⟨h1,h2,h3,h4,h5,h6⟩:=h
    unfold lim at hB
    exact ⟨by unfold big; omega,fun s hs=>by have:=h3 s hs; unfold big; omega⟩
theorem nM.text {B d:Nat} {n:af} (hB:B<=lim) (h:nM B d n):n.Text.length<big:=by
 cases d with
 | zero=>exact h.elim
 | succ d=>obtain ⟨h1,_⟩:=h; unfold lim at hB; unfold big; omega
theorem nM.kids {B d:Nat} {n:af} (h:nM B d n):n.Kids.length<=B:=by
 cases d with
 | zero=>exact h.elim
 | succ d=>exact h.2.2.2.1
theorem nM.names {B d:Nat} {n:af} (h:nM B d n):n.Names.length<=B:=by
 cases d with
 | zero=>exact h.elim
 | succ d=>exact h.2.1
theorem nM.kid {B d:Nat} {n:af} (h:nM B (d+1) n) {i:Nat} (hi:i<n.Kids.length):nM B d (n.Kids.getD i default):=by
 rw [bF _ hi]
 exact h.2.2.2.2.2 _ (List.getElem_mem hi)
theorem T0.aN.K1 {B d:Nat} {n:af} (hB:B<=lim) (h:nM B d n):Ev (fun f=>G.aN.K1 f n) (su n):=by
 refine Ev.up ?_
 simp only [G.aN.K1]
 have ht:=T.bu _ (h.text hB)
 have hn:=T.dJ _ (h.sm hB)
 have h0:decide ((0:Int)<((n.Names.length:Nat):Int)) = !(n.Names.length==0):=by
  cases hq:n.Names.length<;>simp
 have h6:decide (((n.Kids.length:Nat):Int)<=6)=decide (n.Kids.length<=6):=by rw [Bool.eq_iff_iff]; simp; omega
 rw [h0]
 have tail:Ev (fun f=>cond (n.Kind==0) (some (((n.Kids.length:Nat):Int)==0)) (cond (n.Kind==1) (cond (decide ((-999999)<=n.Num)) (cond (decide (n.Num<=999999)) (some (((n.Kids.length:Nat):Int)==0)) (some false)) (some false))
   (cond (n.Kind==2) (Option.bind (G.bu f n.Text) fun v3=>cond v3 (some (((n.Kids.length:Nat):Int)==0)) (some false))
   (cond (n.Kind==3) (some (decide (((n.Kids.length:Nat):Int)<=6))) (cond (n.Kind==4) (Option.bind (G.dJ f n.Names) fun v4=>cond v4 (some (((n.Kids.length:Nat):Int)==((n.Names.length:Nat):Int))) (some false)) (some false))))))
   (if n.Kind=0 then n.Kids.length==0 else if n.Kind=1 then (decide (-999999<=n.Num)&&decide (n.Num<=999999))&&n.Kids.length==0 else if n.Kind=2 then PT n.Text&&n.Kids.length==0
    else if n.Kind=3 then decide (n.Kids.length<=6) else if n.Kind=4 then NM n.Names&&decide (n.Names.length<=6)&&n.Kids.length==n.Names.length else false):=by
  rw [UU,ilen,h6]
  refine Ev.ite (fun e=>Ev.ret' ?_) (fun e0 => ?_)
  ·rw [if_pos (by simpa using e)]
  rw [if_neg (by simpa using e0)]
  refine Ev.ite (fun e => ?_) (fun e1 => ?_)
  ·rw [if_pos (by simpa using e)]
   refine Ev.ite (fun k=>Ev.ite (fun k2=>Ev.ret' ?_) (fun k2=>Ev.ret' ?_)) (fun k=>Ev.ret' ?_)
   ·rw [k,k2]; simp
   ·rw [k2]; simp
   ·rw [k]; simp
  rw [if_neg (by simpa using e1)]
  refine Ev.ite (fun e => ?_) (fun e2 => ?_)
  ·rw [if_pos (by simpa using e)]
   refine Ev.bind ht (Ev.ite (fun k=>Ev.ret' ?_) (fun k=>Ev.ret' ?_))
   ·rw [k,Bool.true_and]
   ·rw [k,Bool.false_and]
  rw [if_neg (by simpa using e2)]
  refine Ev.ite (fun e=>Ev.ret' ?_) (fun e3 => ?_)
  ·rw [if_pos (by simpa using e)]
  rw [if_neg (by simpa using e3)]
  refine Ev.ite (fun e => ?_) (fun e4=>Ev.ret' ?_)
  ·rw [if_pos (by simpa using e)]
   refine Ev.bind hn (Ev.ite (fun k=>Ev.ret' ?_) (fun k=>Ev.ret' ?_))
   ·rw [k,Bool.true_and]
   ·rw [k,Bool.false_and]
  ·rw [if_neg (by simpa using e4)]
 refine Ev.ite (fun e => ?_) (fun e => ?_)
 ·have e':(n.Kind==4)=false:=by simpa using e
  refine Ev.ite (fun k=>Ev.ret' ?_) (fun k => ?_)
  ·rw [Bool.not_eq_true'] at k; rw [su,e',k]; rfl
  ·rw [Bool.not_eq_false'] at k; exact tail.eq (by rw [su,k,Bool.or_true,Bool.true_and])
 ·have e':(n.Kind==4)=true:=by simpa using e
  exact tail.eq (by rw [su,e',Bool.true_or,Bool.true_and])
theorem T0.aN {B d:Nat} {n:af} (hB:B<=lim) (h:nM B d n):Ev (fun f=>G.aN f n) (Parts n):=by
 refine Ev.up ?_
 simp only [G.aN]
 have hk:=T0.aN.K1 hB h
 rw [Jb]
 have tail:Ev (fun f=>cond (n.Kind != 2) (cond (n.Text==[]) (G.aN.K1 f n) (some false)) (G.aN.K1 f n)) ((n.Kind==2||n.Text==[])&&su n):=by
  refine Ev.ite (fun e => ?_) (fun e => ?_)
  ·have e':(n.Kind==2)=false:=by simpa using e
   refine Ev.ite (fun k => ?_) (fun k=>Ev.ret' ?_)
   ·exact hk.eq (by rw [k,Bool.or_true,Bool.true_and])
   ·rw [e',k]; rfl
  ·have e':(n.Kind==2)=true:=by simpa using e
   exact hk.eq (by rw [e',Bool.true_or,Bool.true_and])
 refine Ev.ite (fun e => ?_) (fun e => ?_)
 ·have e':(n.Kind==1)=false:=by simpa using e
  refine Ev.ite (fun k=>Ev.ret' ?_) (fun k => ?_)
  ·have:(n.Num==0)=false:=by simpa using k
   rw [e',this]; rfl
  ·have:(n.Num==0)=true:=by simpa using k
   exact tail.eq (by rw [this,Bool.or_true,Bool.true_and])
 ·have e':(n.Kind==1)=true:=by simpa using e
  exact tail.eq (by rw [e',Bool.true_or,Bool.true_and])
theorem T0.gG.L1 {B D d:Nat} {n:af} (hB:B<=lim) (h:nM B (D+1) n) (hd:d<1000) (hs:∀ k,k∈n.Kids->Ev (fun f=>G.bJ f k d) (Shape d k)) :
    ∀ (k i:Nat),i+k=n.Kids.length->Ev (fun f=>G.gG.L1 f n ((d+1:Nat):Int) i) ((n.Kids.drop i).all (Shape d)):=by
  have hl:=h.kids
  unfold lim at hB
  intro k
  induction k with
  | zero =>
    intro i hi
    refine Ev.up ?_
    simp only [G.gG.L1]
    refine Ev.cf (by simp; omega) (Ev.ret' ?_)
    rw [List.drop_of_length_le (by omega)]
    rfl
  | succ k ih =>
    intro i hi
    refine Ev.up ?_
    simp only [G.gG.L1]
    refine Ev.ct (by simp; omega) (Ev.chk (by omega) ?_)
    rw [bg (default:af) (by omega:i<n.Kids.length),List.all_cons,Int.toNat_natCast]
    have e:IntKind.wrap .i64 (((d+1:Nat):Int)-1)=(d:Int):=wrapN (by omega) (by omega)
    rw [e]
    refine Ev.bind (hs _ (by rw [bF _ (by omega:i<n.Kids.length)]; exact List.getElem_mem _)) ?_
    refine Ev.ite (fun h => ?_) (fun h => ?_)
    · rw [aV (by omega),h,Bool.true_and]
      exact ih (i+1) (by omega)
    · exact Ev.ret' (by rw [h]; rfl)
theorem T0.gG {B D d:Nat} {n:af} (hB:B<=lim) (h:nM B (D+1) n) (hd:d<1000) (hs:∀ k,k∈n.Kids->Ev (fun f=>G.bJ f k d) (Shape d k)) :
  Ev (fun f=>G.gG f n ((d+1:Nat):Int)) (n.Kids.all (Shape d)):=by
 refine Ev.up ?_
 simp only [G.gG]
 exact T0.gG.L1 hB h hd hs n.Kids.length 0 (by omega)
theorem T0.bJ.K1 {B D d:Nat} {n:af} (hB:B<=lim) (h:nM B (D+1) n) (hd:d<1000) (hs:∀ k,k∈n.Kids->Ev (fun f=>G.bJ f k d) (Shape d k)) :
  Ev (fun f=>G.bJ.K1 f n ((d+1:Nat):Int)) (VW d n):=by
 refine Ev.up ?_
 simp only [G.bJ.K1]
 have hk:=T0.gG hB h hd hs
 unfold VW
 refine Ev.ite (fun e => ?_) (fun e1 => ?_)
 ·rw [if_pos (by simpa using e)]
  exact Ev.bind (T.bK _ _ _) (Ev.ret _)
 rw [if_neg (by simpa using e1)]
 refine Ev.ite (fun e => ?_) (fun e2 => ?_)
 ·rw [if_pos (by simpa using e)]
  exact Ev.bind (T.bY _ (h.text hB)) (Ev.ret _)
 rw [if_neg (by simpa using e2)]
 refine Ev.ite (fun e => ?_) (fun e3 => ?_)
 ·rw [if_pos (by simpa using e)]
  exact Ev.bind hk (Ev.ret _)
 rw [if_neg (by simpa using e3)]
 refine Ev.ite (fun e => ?_) (fun e4 => ?_)
 ·rw [if_pos (by simpa using e),ilen]
  refine Ev.ite (fun k => ?_) (fun k=>Ev.ret' (by rw [k]; rfl))
  refine Ev.bind (T.gW _ (h.sm hB)) ?_
  refine Ev.ite (fun k2 => ?_) (fun k2=>Ev.ret' (by rw [k2]; simp))
  exact Ev.bind hk (Ev.ret' (by rw [k,k2]; rfl))
 ·exact Ev.ret' (by rw [if_neg (by simpa using e4)])
theorem T0.bJ {B:Nat} (hB:B<=lim):∀ (d D:Nat) (n:af),d<1000->nM B D n->Ev (fun f=>G.bJ f n (d:Int)) (Shape d n):=by
  intro d
  induction d with
  | zero =>
    intro D n _ h
    refine Ev.up ?_
    simp only [G.bJ]
    exact Ev.ct (by simp) (Ev.ret _)
  | succ d ih =>
    intro D n hd h
    cases D with
    | zero=>exact h.elim
    | succ D =>
    have hK:=T0.bJ.K1 (d:=d) hB h (by omega) (fun k hk=>ih D k (by omega) (h.2.2.2.2.2 k hk))
    refine Ev.up ?_
    simp only [G.bJ]
    rw [Uf,Uf]
    have t1:=BC (c:=decide (n.Kind<3)) (a := !(n.Kids.length==0)) hK
    have t2:=BC (c:=n.Kind != 4) (a := !(n.Names.length==0)) t1
    have t3:=Nj (c:=n.Kind != 2) (a:=n.Text==[]) t2
    have t4:=BC (c:=n.Kind != 1) (a:=n.Num != 0) t3
    refine Ev.cf (by simp; omega) ?_
    refine Ev.ite (fun e=>Ev.ret' ?_) (fun e=>t4.eq ?_)
    · simp only [decide_eq_true_eq] at e
      rw [Shape,wC (by omega)]; rfl
    · simp only [decide_eq_false_iff_not] at e
      exact Kt (by omega)
theorem T0.eH.L1 {B D d:Nat} {n:af} (hB:B<=lim) (h:nM B (D+1) n) (hs:∀ k,k∈n.Kids->Ev (fun f=>G.eH f k) ((Cnt d k:Nat):Int)) :
    ∀ (k i c:Nat),i+k=n.Kids.length->c+((n.Kids.drop i).map (Cnt d)).sum<big->Ev (fun f=>G.eH.L1 f n (c:Int) i) ((c+((n.Kids.drop i).map (Cnt d)).sum:Nat):Int):=by
  have hl:=h.kids
  unfold lim at hB
  unfold big
  intro k
  induction k with
  | zero =>
    intro i c hi hc
    refine Ev.up ?_
    simp only [G.eH.L1]
    refine Ev.cf (by simp; omega) (Ev.ret' ?_)
    rw [List.drop_of_length_le (by omega)]
    rfl
  | succ k ih =>
    intro i c hi
    rw [bg (default:af) (by omega:i<n.Kids.length),List.map_cons,List.sum_cons]
    intro hc
    refine Ev.up ?_
    simp only [G.eH.L1]
    refine Ev.ct (by simp; omega) (Ev.chk (by omega) ?_)
    rw [Int.toNat_natCast]
    refine Ev.bind (hs _ (by rw [bF _ (by omega:i<n.Kids.length)]; exact List.getElem_mem _)) ?_
    rw [aV (by omega),wrapN (m:=c+Cnt d (n.Kids.getD i default)) (by omega) (by omega)]
    exact (ih (i+1) (c+Cnt d (n.Kids.getD i default)) (by omega) (by omega)).eq (by congr 1; omega)
theorem T0.eH {B:Nat} (hB:B<=lim):∀ (d D:Nat) (n:af),d<=5->nM B D n->Shape d n=true->Ev (fun f=>G.eH f n) ((Cnt d n:Nat):Int):=by
  intro d
  induction d with
  | zero=>intro D n _ _ h; cases h
  | succ d ih =>
    intro D n hd h hS
    cases D with
    | zero=>exact h.elim
    | succ D =>
    have hS':=kY hS
    refine Ev.up ?_
    simp only [G.eH]
    have:=cnt_le (d:=d+1) (n:=n) hS
    have hp:=Cc hd
    refine (T0.eH.L1 hB h (fun k hk=>ih D k (by omega) (h.2.2.2.2.2 k hk) (hS' k hk)) n.Kids.length 0 1 (by omega) ?_).eq rfl
    rw [List.drop_zero]
    show Cnt (d+1) n<big
    unfold big
    omega
theorem T0.bD {B D:Nat} {n:af} (hB:B<=lim) (h:nM B D n):Ev (fun f=>G.bD f n) (Val n):=by
 refine Ev.up ?_
 simp only [G.bD]
 refine Ev.bind (T0.bJ hB 5 D n (by omega) h) (Ev.ite (fun e => ?_) (fun e=>Ev.ret' (by rw [Val,e]; rfl)))
 refine Ev.bind (T0.eH hB 5 D n (by omega) h e) (Ev.ret' ?_)
 rw [Val,e,Bool.true_and]
 apply decide_eq_decide.2
 omega
theorem T0.aF.L1 {B D d l:Nat} {n:af} (hB:B<=lim) (h:nM B (D+1) n) (hl:l<1000)
    (hs:∀ k,k∈n.Kids->∃ c dp,Ev (fun f=>G.aF f k ((l+1:Nat):Int)) (c,dp,Shape d k)/\(Shape d k=true->c=((Cnt d k:Nat):Int))) :
    ∀ (k i c:Nat) (dp:Int),i+k=n.Kids.length->(n.Kids.drop i).all (Shape d)=true->c+((n.Kids.drop i).map (Cnt d)).sum<big ->
      ∃ Qu,Ev (fun f=>G.aF.L1 f n (l:Int) (c:Int) dp i) (((c+((n.Kids.drop i).map (Cnt d)).sum:Nat):Int),Qu,true):=by
  have hk:=h.kids
  unfold lim at hB
  unfold big
  intro k
  induction k with
  | zero =>
    intro i c dp hi _ hc
    refine ⟨dp,Ev.up ?_⟩
    simp only [G.aF.L1]
    refine Ev.cf (by simp; omega) (Ev.ret' ?_)
    rw [List.drop_of_length_le (by omega)]
    rfl
  | succ k ih =>
    intro i c dp hi
    rw [bg (default:af) (by omega:i<n.Kids.length),List.map_cons,List.sum_cons,List.all_cons,Bool.and_eq_true]
    intro ⟨hS,hA⟩ hc
    obtain ⟨c1,d1,h1,h2⟩:=hs (n.Kids.getD i default) (by rw [bF _ (by omega:i<n.Kids.length)]; exact List.getElem_mem _)
    have e:=h2 hS
    subst e
    obtain ⟨Qu,g1⟩:=ih (i+1) (c+Cnt d (n.Kids.getD i default)) (if IntKind.wrap .i64 (d1+1)>dp then IntKind.wrap .i64 (d1+1) else dp) (by omega) hA (by omega)
    refine ⟨Qu,Ev.up ?_⟩
    simp only [G.aF.L1]
    refine Ev.ct (by simp; omega) (Ev.chk (by omega) ?_)
    rw [Int.toNat_natCast,aV (by omega)]
    refine Ev.bind h1 ?_
    refine Ev.ct hS ?_
    rw [aV (by omega),wrapN (m:=c+Cnt d (n.Kids.getD i default)) (by omega) (by omega)]
    exact g1.eq (by rw [Nat.add_assoc])
theorem T0.aF.WX {B D d l:Nat} {n:af} (hB:B<=lim) (h:nM B (D+1) n) (hl:l<1000)
    (hs:∀ k,k∈n.Kids->∃ c dp,Ev (fun f=>G.aF f k ((l+1:Nat):Int)) (c,dp,Shape d k)) :
    ∀ (k i:Nat) (c dp:Int),i+k=n.Kids.length->(n.Kids.drop i).all (Shape d)=false->Ev (fun f=>G.aF.L1 f n (l:Int) c dp i) (0,0,false):=by
  have hk:=h.kids
  unfold lim at hB
  intro k
  induction k with
  | zero =>
    intro i c dp hi hA
    rw [List.drop_of_length_le (by omega)] at hA
    cases hA
  | succ k ih =>
    intro i c dp hi
    rw [bg (default:af) (by omega:i<n.Kids.length),List.all_cons]
    intro hA
    obtain ⟨c1,d1,h1⟩:=hs (n.Kids.getD i default) (by rw [bF _ (by omega:i<n.Kids.length)]; exact List.getElem_mem _)
    refine Ev.up ?_
    simp only [G.aF.L1]
    refine Ev.ct (by simp; omega) (Ev.chk (by omega) ?_)
    rw [Int.toNat_natCast,aV (by omega)]
    refine Ev.bind h1 ?_
    refine Ev.ite (fun hS => ?_) (fun hS=>Ev.ret _)
    have hS:Shape d (n.Kids.getD i default)=true:=hS
    rw [hS,Bool.true_and] at hA
    rw [aV (by omega)]
    exact ih (i+1) _ _ (by omega) hA
theorem T0.aF {B:Nat} (hB:B<=lim):∀ (d l D:Nat) (n:af),d+l=6->1<=l->nM B D n ->
    ∃ c dp,Ev (fun f=>G.aF f n (l:Int)) (c,dp,Shape d n)/\(Shape d n=true->c=((Cnt d n:Nat):Int)):=by
  intro d
  induction d with
  | zero =>
    intro l D n hl h1 h
    refine ⟨0,0,Ev.up ?_,fun e=>by cases e⟩
    simp only [G.aF]
    exact Ev.ct (by simp; omega) (Ev.ret _)
  | succ d ih =>
    intro l D n hl h1 h
    cases D with
    | zero=>exact h.elim
    | succ D =>
    have hs:=fun k (hk:k∈n.Kids)=>ih (l+1) D k (by omega) (by omega) (h.2.2.2.2.2 k hk)
    have hp:=T0.aN hB h
    cases hS:Shape (d+1) n with
    | true =>
      have hk:=kY hS
      have hc:=cnt_le hS
      have hpw:=Cc (d:=d+1) (by omega)
      obtain ⟨Qu,g⟩:=T0.aF.L1 hB h (by omega) hs n.Kids.length 0 1 1 (by omega) (by rw [List.drop_zero]; exact List.all_eq_true.2 hk) (by rw [List.drop_zero]; unfold big; show Cnt (d+1) n<_; omega)
      rw [List.drop_zero] at g
      refine ⟨((Cnt (d+1) n:Nat):Int),Qu,Ev.up ?_,fun _=>rfl⟩
      simp only [G.aF]
      exact Ev.cf (by simp; omega) (Ev.bind hp (Ev.ct (jG hS) g))
    | false =>
      refine ⟨0,0,Ev.up ?_,fun e=>by cases e⟩
      simp only [G.aF]
      refine Ev.cf (by simp; omega) (Ev.bind hp (Ev.ite (fun e => ?_) (fun e=>Ev.ret _)))
      refine T0.aF.WX (d:=d) hB h (by omega) (fun k hk => ?_) n.Kids.length 0 1 1 (by omega) ?_
      · obtain ⟨c,dp,g,_⟩:=hs k hk; exact ⟨c,dp,g⟩
      · rw [List.drop_zero]; unfold Shape at hS; rw [e,Bool.true_and] at hS; exact hS
theorem T0.aC {B D:Nat} {n:af} (hB:B<=lim) (h:nM B D n):Ev (fun f=>G.aC f n) (Val n):=by
 obtain ⟨c,dp,g,hc⟩:=T0.aF hB 5 1 D n rfl (by omega) h
 refine Ev.up ?_
 simp only [G.aC]
 refine Ev.bind g (Ev.ite (fun e=>Ev.ret' ?_) (fun e=>Ev.ret' ?_))
 ·have e:Shape 5 n=true:=e
  show decide (c<=40)=_
  rw [hc e,Val,e,Bool.true_and]
  apply decide_eq_decide.2
  omega
 ·have e:Shape 5 n=false:=e
  rw [Val,e]; rfl
theorem T0.ay.L1 {B D:Nat} {n:af} (hB:B<=lim) (h:nM B (D+1) n) (hs:∀ k,k∈n.Kids->Ev (fun f=>G.ay f k) k) :
    ∀ (k i:Nat),i+k=n.Kids.length->Ev (fun f=>G.ay.L1 f n i (n.Kids.take i)) n:=by
  have hl:=h.kids
  have hn:=h.names
  unfold lim at hB
  intro k
  induction k with
  | zero =>
    intro i hi
    refine Ev.up ?_
    simp only [G.ay.L1]
    refine Ev.cf (by simp; omega) (Ev.chk (by omega) (Ev.ret' ?_))
    rw [List.take_of_length_le (by omega)]
    cases n; rfl
  | succ k ih =>
    intro i hi
    refine Ev.up ?_
    simp only [G.ay.L1]
    refine Ev.ct (by simp; omega) (Ev.chk (by omega) ?_)
    rw [Int.toNat_natCast]
    refine Ev.bind (hs _ (by rw [bF _ (by omega:i<n.Kids.length)]; exact List.getElem_mem _)) ?_
    refine Ev.chk (by rw [List.length_take]; omega) ?_
    have e:n.Kids.take i++[n.Kids.getD i default]=n.Kids.take (i+1):=by rw [bF _ (by omega:i<n.Kids.length),List.take_succ_eq_append_getElem (by omega)]
    rw [aV (by omega),e]
    exact ih (i+1) (by omega)
theorem T0.ay {B:Nat} (hB:B<=lim):∀ {D:Nat} {n:af},nM B D n->Ev (fun f=>G.ay f n) n:=by
  intro D
  induction D with
  | zero=>intro n h; exact h.elim
  | succ D ih =>
    intro n h
    refine Ev.up ?_
    simp only [G.ay]
    exact T0.ay.L1 hB h (fun k hk=>ih (h.2.2.2.2.2 k hk)) n.Kids.length 0 (by omega)
theorem T0.au.L2 {B D:Nat} {n:af} (zs:List aS) (hB:B<=lim) (h:nM B (D+1) n) (hs:∀ k,k∈n.Kids->Ev (fun f=>G.au f k) k) :
    ∀ (k i:Nat) (z:List af),i+k=n.Kids.length->z.length=n.Kids.length->z.take i=n.Kids.take i->Ev (fun f=>G.au.L2 f n zs i z) (af.mk n.Kind n.Num n.Text zs n.Kids):=by
  have hl:=h.kids
  unfold lim at hB
  intro k
  induction k with
  | zero =>
    intro i z hi hz ht
    refine Ev.up ?_
    simp only [G.au.L2]
    refine Ev.cf (by simp; omega) (Ev.ret' ?_)
    rw [List.take_of_length_le (by omega),List.take_of_length_le (by omega)] at ht
    rw [ht]
  | succ k ih =>
    intro i z hi hz ht
    refine Ev.up ?_
    simp only [G.au.L2]
    refine Ev.ct (by simp; omega) (Ev.chk (by omega) ?_)
    rw [Int.toNat_natCast]
    refine Ev.bind (hs _ (by rw [bF _ (by omega:i<n.Kids.length)]; exact List.getElem_mem _)) ?_
    refine Ev.chk (by omega) ?_
    rw [aV (by omega)]
    refine ih (i+1) _ (by omega) (by rw [List.length_set]; exact hz) ?_
    rw [bF _ (by omega:i<n.Kids.length),List.take_succ_eq_append_getElem (by rw [List.length_set]; omega),List.take_succ_eq_append_getElem (by omega:i<n.Kids.length),List.getElem_set_self,List.take_set_of_le (Nat.le_refl i),ht]
theorem T0.au {B:Nat} (hB:B<=lim):∀ {D:Nat} {n:af},nM B D n->Ev (fun f=>G.au f n) n:=by
  intro D
  induction D with
  | zero=>intro n h; exact h.elim
  | succ D ih =>
    intro n h
    have hl:=h.kids
    have hn:=h.names
    have hB':=hB
    unfold lim at hB'
    have hK:Ev (fun f=>G.au.K1 f n n.Names) n:=by
      refine Ev.up ?_
      simp only [G.au.K1]
      refine Ev.ite (fun e => ?_) (fun e=>Ev.ret' ?_)
      · refine Ev.chk (by omega) ?_
        refine (T0.au.L2 n.Names hB h (fun k hk=>ih (h.2.2.2.2.2 k hk)) n.Kids.length 0 (List.replicate n.Kids.length (af.mk 0 0 [] [] [])) (by omega) (by simp) rfl).eq ?_
        cases n; rfl
      · have:n.Kids=[]:=by
          apply List.eq_nil_of_length_eq_zero
          simp only [decide_eq_false_iff_not] at e; omega
        cases n; simp only at this; subst this; rfl
    refine Ev.up ?_
    simp only [G.au]
    refine Ev.ite (fun e => ?_) (fun e => ?_)
    · exact Ev.chk (by omega) hK
    · have:n.Names=[]:=by
        apply List.eq_nil_of_length_eq_zero
        simp only [decide_eq_false_iff_not] at e; omega
      rw [this] at hK
      exact hK
end Go.Ab
end
section
namespace Go.Ab
open Go
set_option maxRecDepth 100000
theorem uJ {α:Type} {l:List α} {i:Nat} (d:α) (h:i<l.length):l.getD i d∈l:=by rw [bF d h]; exact List.getElem_mem h
theorem AP {α:Type} {l z:List α} {i:Nat} (hi:i<l.length) (hz:z.length=l.length) (ht:z.take i=l.take i):(z.set i l[i]).take (i+1)=l.take (i+1):=by
 rw [List.take_succ_eq_append_getElem (by rw [List.length_set]; omega),List.take_succ_eq_append_getElem hi,List.getElem_set_self,List.take_set_of_le (Nat.le_refl i),ht]
theorem T.Fe {l:List aS} (hl:l.length<=lim):Ev (fun f=>G.dN f l) l:=by
  unfold lim at hl
  have L:∀ (k i:Nat) (z:List aS),i+k=l.length->z.length=l.length->z.take i=l.take i->Ev (fun f=>G.dN.L1 f l i z) l:=by
    intro k
    induction k with
    | zero =>
      intro i z hi hz ht
      refine Ev.up ?_
      simp only [G.dN.L1]
      rw [List.take_of_length_le (by omega),List.take_of_length_le (by omega)] at ht
      exact Ev.cf (decide_eq_false (by omega)) (Ev.ret' ht)
    | succ k ih =>
      intro i z hi hz ht
      have hil:i<l.length:=by omega
      refine Ev.up ?_
      simp only [G.dN.L1,Int.toNat_natCast,aV (show i+1<9223372036854775808 by omega)]
      refine Ev.ct (decide_eq_true (by omega)) (Ev.chk (by omega) (Ev.chk (by omega) (ih (i+1) _ (by omega) (by rw [List.length_set]; exact hz) ?_)))
      rw [bF _ hil]
      exact AP hil hz ht
  refine Ev.up ?_
  simp only [G.dN]
  exact Ev.chk (by omega) (L l.length 0 _ (by omega) (by simp) rfl)
theorem T.Uw {l:List af} (hl:l.length<=lim) (hs:∀ k,k∈l->Ev (fun f=>G.iD f k) k):Ev (fun f=>G.jc f l) l:=by
  unfold lim at hl
  have L:∀ (k i:Nat) (z:List af),i+k=l.length->z.length=l.length->z.take i=l.take i->Ev (fun f=>G.jc.L1 f l i z) l:=by
    intro k
    induction k with
    | zero =>
      intro i z hi hz ht
      refine Ev.up ?_
      simp only [G.jc.L1]
      rw [List.take_of_length_le (by omega),List.take_of_length_le (by omega)] at ht
      exact Ev.cf (decide_eq_false (by omega)) (Ev.ret' ht)
    | succ k ih =>
      intro i z hi hz ht
      have hil:i<l.length:=by omega
      refine Ev.up ?_
      simp only [G.jc.L1,Int.toNat_natCast,aV (show i+1<9223372036854775808 by omega)]
      refine Ev.ct (decide_eq_true (by omega)) (Ev.chk (by omega) (Ev.bind (hs _ (uJ default hil)) (Ev.chk (by omega) (ih (i+1) _ (by omega) (by rw [List.length_set]; exact hz) ?_))))
      rw [bF _ hil]
      exact AP hil hz ht
  refine Ev.up ?_
  simp only [G.jc]
  exact Ev.chk (by omega) (L l.length 0 _ (by omega) (by simp) rfl)
theorem T.Fb {B:Nat} (hB:B<=lim):∀ {D:Nat} {n:af},nM B D n->Ev (fun f=>G.iD f n) n
  | 0,_,h=>h.elim
  | D+1,n,h=>by
    have h1:=h.names
    have h2:=h.kids
    refine Ev.up ?_
    simp only [G.iD]
    exact Ev.bind (T.Fe (by omega)) (Ev.bind (T.Uw (by omega) (fun k hk=>T.Fb hB (h.2.2.2.2.2 k hk))) (Ev.ret' (by cases n; rfl)))
theorem T.Ey {l:List aS} (hl:l.length<=lim):Ev (fun f=>G.dM f l l) true:=by
  unfold lim at hl
  have L:∀ (k i:Nat),i+k=l.length->Ev (fun f=>G.dM.L1 f l l i) true:=by
    intro k
    induction k with
    | zero =>
      intro i hi
      refine Ev.up ?_
      simp only [G.dM.L1]
      exact Ev.cf (decide_eq_false (by omega)) (Ev.ret _)
    | succ k ih =>
      intro i hi
      refine Ev.up ?_
      simp only [G.dM.L1,aV (show i+1<9223372036854775808 by omega)]
      exact Ev.ct (decide_eq_true (by omega)) (Ev.chk (by omega) (Ev.chk (by omega) (Ev.ct (by simp) (ih (i+1) (by omega)))))
  refine Ev.up ?_
  simp only [G.dM]
  exact Ev.cf (by simp) (L l.length 0 (by omega))
theorem T.TS {l:List af} (hl:l.length<=lim) (hs:∀ k,k∈l->Ev (fun f=>G.jh f k k) true):Ev (fun f=>G.jb f l l) true:=by
  unfold lim at hl
  have L:∀ (k i:Nat),i+k=l.length->Ev (fun f=>G.jb.L1 f l l i) true:=by
    intro k
    induction k with
    | zero =>
      intro i hi
      refine Ev.up ?_
      simp only [G.jb.L1]
      exact Ev.cf (decide_eq_false (by omega)) (Ev.ret _)
    | succ k ih =>
      intro i hi
      refine Ev.up ?_
      simp only [G.jb.L1,Int.toNat_natCast,aV (show i+1<9223372036854775808 by omega)]
      exact Ev.ct (decide_eq_true (by omega)) (Ev.chk (by omega) (Ev.chk (by omega) (Ev.bind (hs _ (uJ default (by omega))) (Ev.ct rfl (ih (i+1) (by omega))))))
  refine Ev.up ?_
  simp only [G.jb]
  exact Ev.cf (by simp) (L l.length 0 (by omega))
theorem T.Ew {B:Nat} (hB:B<=lim):∀ {D:Nat} {n:af},nM B D n->Ev (fun f=>G.jh f n n) true
  | 0,_,h=>h.elim
  | D+1,n,h=>by
    have h1:=h.names
    have h2:=h.kids
    refine Ev.up ?_
    simp only [G.jh]
    exact Ev.cf (by simp) (Ev.cf (by simp) (Ev.ct (by simp) (Ev.bind (T.Ey (by omega)) (Ev.ct rfl (Ev.bind (T.TS (by omega) (fun k hk=>T.Ew hB (h.2.2.2.2.2 k hk))) (Ev.ct rfl (Ev.ret _)))))))
end Go.Ab
end
section
namespace Go.Ab
open Go
set_option maxRecDepth 100000
def mx:Nat:=9223372036854775807
theorem C9 {x:Int} (h0 : -9223372036854775808<=x) (h1:x<9223372036854775808):IntKind.wrap .i64 x=x:=by
 simp only [IntKind.wrap,IntKind.bits,IntKind.signed]
 simp
 omega
theorem T.E8 {l:List aS} (h1:l.length<=mx) (h2:∀ s,s∈l->s.length<=mx) {left:Int} (h0:0<=left) (hl:left<=1048576) :
    ∃ r,Ev (fun f=>G.dm f l left) r/\r<=left/\(0<=r->(l.length:Int)<=left/\∀ s,s∈l->(s.length:Int)<=left):=by
  unfold mx at *
  have w0:IntKind.wrap .i64 (left-((l.length:Nat):Int))=left-((l.length:Nat):Int):=C9 (by omega) (by omega)
  by_cases c:left-((l.length:Nat):Int)<0
  · refine ⟨-1,Ev.up ?_,by omega,fun h=>by omega⟩
    simp only [G.dm,w0]
    exact Ev.ct (decide_eq_true c) (Ev.ret _)
  · have L:∀ (k i:Nat) (a:Int),i+k=l.length->0<=a->a<=1048576->∃ r,Ev (fun f=>G.dm.L1 f l a i) r/\r<=a/\(0<=r->∀ s,s∈l.drop i->(s.length:Int)<=a):=by
      intro k
      induction k with
      | zero =>
        intro i a hi ha ha2
        refine ⟨a,Ev.up ?_,by omega,fun _ s hs => ?_⟩
        · simp only [G.dm.L1]
          exact Ev.cf (decide_eq_false (by omega)) (Ev.ret _)
        · rw [List.drop_of_length_le (by omega)] at hs; cases hs
      | succ k ih =>
        intro i a hi ha ha2
        have hil:i<l.length:=by omega
        have hb:=h2 _ (uJ default hil)
        have w1:IntKind.wrap .i64 (a-(((l.getD i default).length:Nat):Int))=a-(((l.getD i default).length:Nat):Int):=C9 (by omega) (by omega)
        by_cases c1:a-(((l.getD i default).length:Nat):Int)<0
        · refine ⟨-1,Ev.up ?_,by omega,fun h=>by omega⟩
          simp only [G.dm.L1,Int.toNat_natCast,w1]
          exact Ev.ct (decide_eq_true (by omega)) (Ev.chk (by omega) (Ev.ct (decide_eq_true c1) (Ev.ret _)))
        · obtain ⟨r,g,g1,g2⟩:=ih (i+1) (a-(((l.getD i default).length:Nat):Int)) (by omega) (by omega) (by omega)
          refine ⟨r,Ev.up ?_,by omega,fun h s hs => ?_⟩
          · simp only [G.dm.L1,Int.toNat_natCast,w1,aV (show i+1<9223372036854775808 by omega)]
            exact Ev.ct (decide_eq_true (by omega)) (Ev.chk (by omega) (Ev.cf (decide_eq_false c1) g))
          · rw [bg default hil] at hs
            rcases List.mem_cons.1 hs with e | e
            · rw [e]; omega
            · have:=g2 h s e; omega
    obtain ⟨r,g,g1,g2⟩:=L l.length 0 (left-((l.length:Nat):Int)) (by omega) (by omega) (by omega)
    refine ⟨r,Ev.up ?_,by omega,fun h=>⟨by omega,fun s hs => ?_⟩⟩
    · simp only [G.dm,w0]
      exact Ev.cf (decide_eq_false c) g
    · have:=g2 h s (by rw [List.drop_zero]; exact hs); omega
theorem T.E5:∀ (D:Nat) {n:af} {left:Int},nM mx D n->0<=left->left<=1048576->∃ r,Ev (fun f=>G.iy f n left) r/\r<=left/\(0<=r->nM 1048576 D n)
  | 0,_,_,h,_,_=>h.elim
  | D+1,n,left,h,h0,hl=>by
    obtain ⟨hT,hN,hS,hK,_,hR⟩:=h
    have S:∀ (left:Int),0<=left->left<=1048576->∃ r,Ev (fun f=>G.ig f n.Kids left) r/\r<=left/\(0<=r->(n.Kids.length:Int)<=left/\∀ k,k∈n.Kids->nM 1048576 D k):=by
      intro left h0 hl
      have hK':n.Kids.length<=9223372036854775807:=hK
      have w0:IntKind.wrap .i64 (left-((n.Kids.length:Nat):Int))=left-((n.Kids.length:Nat):Int):=C9 (by omega) (by omega)
      by_cases c:left-((n.Kids.length:Nat):Int)<0
      · refine ⟨-1,Ev.up ?_,by omega,fun h=>by omega⟩
        simp only [G.ig,w0]
        exact Ev.ct (decide_eq_true c) (Ev.ret _)
      · have L:∀ (k i:Nat) (a:Int),i+k=n.Kids.length->0<=a->a<=1048576->∃ r,Ev (fun f=>G.ig.L1 f n.Kids a i) r/\r<=a/\(0<=r->∀ k,k∈n.Kids.drop i->nM 1048576 D k):=by
          intro k
          induction k with
          | zero =>
            intro i a hi ha ha2
            refine ⟨a,Ev.up ?_,by omega,fun _ s hs => ?_⟩
            · simp only [G.ig.L1]
              exact Ev.cf (decide_eq_false (by omega)) (Ev.ret _)
            · rw [List.drop_of_length_le (by omega)] at hs; cases hs
          | succ k ih =>
            intro i a hi ha ha2
            have hil:i<n.Kids.length:=by omega
            obtain ⟨q,gq,q1,q2⟩:=T.E5 D (hR _ (uJ default hil)) ha ha2
            by_cases c1:q<0
            · refine ⟨-1,Ev.up ?_,by omega,fun h=>by omega⟩
              simp only [G.ig.L1,Int.toNat_natCast]
              exact Ev.ct (decide_eq_true (by omega)) (Ev.chk (by omega) (Ev.bind gq (Ev.ct (decide_eq_true c1) (Ev.ret _))))
            · obtain ⟨r,g,g1,g2⟩:=ih (i+1) q (by omega) (by omega) (by omega)
              refine ⟨r,Ev.up ?_,by omega,fun h s hs => ?_⟩
              · simp only [G.ig.L1,Int.toNat_natCast,aV (show i+1<9223372036854775808 by omega)]
                exact Ev.ct (decide_eq_true (by omega)) (Ev.chk (by omega) (Ev.bind gq (Ev.cf (decide_eq_false c1) g)))
              · rw [bg default hil] at hs
                rcases List.mem_cons.1 hs with e | e
                · rw [e]; exact q2 (by omega)
                · exact g2 h s e
        obtain ⟨r,g,g1,g2⟩:=L n.Kids.length 0 (left-((n.Kids.length:Nat):Int)) (by omega) (by omega) (by omega)
        refine ⟨r,Ev.up ?_,by omega,fun h=>⟨by omega,fun s hs=>g2 h s (by rw [List.drop_zero]; exact hs)⟩⟩
        simp only [G.ig,w0]
        exact Ev.cf (decide_eq_false c) g
    have hT':n.Text.length<=9223372036854775807:=hT
    have w0:IntKind.wrap .i64 (left-((n.Text.length:Nat):Int))=left-((n.Text.length:Nat):Int):=C9 (by omega) (by omega)
    by_cases c:left-((n.Text.length:Nat):Int)<0
    · refine ⟨-1,Ev.up ?_,by omega,fun h=>by omega⟩
      simp only [G.iy,w0]
      exact Ev.ct (decide_eq_true c) (Ev.ret _)
    · obtain ⟨v1,g1,a1,b1⟩:=T.E8 hN hS (left:=left-((n.Text.length:Nat):Int)) (by omega) (by omega)
      by_cases c1:v1<0
      · refine ⟨-1,Ev.up ?_,by omega,fun h=>by omega⟩
        simp only [G.iy,w0]
        exact Ev.cf (decide_eq_false c) (Ev.bind g1 (Ev.ct (decide_eq_true c1) (Ev.ret _)))
      · obtain ⟨v2,g2,a2,b2⟩:=S v1 (by omega) (by omega)
        by_cases c2:v2<0
        · refine ⟨-1,Ev.up ?_,by omega,fun h=>by omega⟩
          simp only [G.iy,w0]
          exact Ev.cf (decide_eq_false c) (Ev.bind g1 (Ev.cf (decide_eq_false c1) (Ev.bind g2 (Ev.ct (decide_eq_true c2) (Ev.ret _)))))
        · refine ⟨v2,Ev.up ?_,by omega,fun h => ?_⟩
          · simp only [G.iy,w0]
            exact Ev.cf (decide_eq_false c) (Ev.bind g1 (Ev.cf (decide_eq_false c1) (Ev.bind g2 (Ev.cf (decide_eq_false c2) (Ev.ret _)))))
          · obtain ⟨e1,e2⟩:=b1 (by omega)
            obtain ⟨e3,e4⟩:=b2 (by omega)
            exact ⟨by omega,by omega,fun s hs=>by have:=e2 s hs; omega,by omega,trivial,e4⟩
end Go.Ab
end
section
namespace Go.Ab
open Go
set_option maxRecDepth 100000
structure rH (B D:Nat) (o:jq):Prop where
 path:o.Path.length<=B/\∀ s,s∈o.Path->s.length<=B
 from_:o.From.length<=B/\∀ s,s∈o.From->s.length<=B
 val:nM B D o.Value
theorem rH.mono {B D D':Nat} {o:jq} (h:rH B D o) (hD:D<=D'):rH B D' o:=⟨h.path,h.from_,h.val.mono (Nat.le_refl _) hD⟩
theorem rH.all {B:Nat} : ∀ {l:List jq} (D:Nat),(∀ o,o∈l->∃ D,rH B D o)->∃ D',D<=D'/\∀ o,o∈l->rH B D' o
  | [],D,_=>⟨D,Nat.le_refl _,fun o h=>by cases h⟩
  | o::l,D,h=>by
    obtain ⟨d,hd⟩:=h o (List.mem_cons_self ..)
    obtain ⟨D',h1,h2⟩:=rH.all (l:=l) (max D d) (fun o ho=>h o (List.mem_cons_of_mem _ ho))
    refine ⟨D',by omega,fun x hx => ?_⟩
    rcases List.mem_cons.1 hx with e | e
    · rw [e]; exact hd.mono (by omega)
    · exact h2 x e
theorem T.Xr {D:Nat} {o:jq} {left:Int} (h:rH mx D o) (h0:0<=left) (hl:left<=1048576):∃ r,Ev (fun f=>G.mP f o left) r/\r<=left/\(0<=r->rH 1048576 D o):=by
 obtain ⟨v1,g1,a1,b1⟩:=T.E8 h.path.1 h.path.2 h0 hl
 by_cases c1:v1<0
 ·refine ⟨-1,Ev.up ?_,by omega,fun h=>by omega⟩
  simp only [G.mP]
  exact Ev.bind g1 (Ev.ct (decide_eq_true c1) (Ev.ret _))
 obtain ⟨v2,g2,a2,b2⟩:=T.E8 h.from_.1 h.from_.2 (left:=v1) (by omega) (by omega)
 by_cases c2:v2<0
 ·refine ⟨-1,Ev.up ?_,by omega,fun h=>by omega⟩
  simp only [G.mP]
  exact Ev.bind g1 (Ev.cf (decide_eq_false c1) (Ev.bind g2 (Ev.ct (decide_eq_true c2) (Ev.ret _))))
 obtain ⟨v3,g3,a3,b3⟩:=T.E5 D h.val (left:=v2) (by omega) (by omega)
 by_cases c3:v3<0
 ·refine ⟨-1,Ev.up ?_,by omega,fun h=>by omega⟩
  simp only [G.mP]
  exact Ev.bind g1 (Ev.cf (decide_eq_false c1) (Ev.bind g2 (Ev.cf (decide_eq_false c2) (Ev.bind g3 (Ev.ct (decide_eq_true c3) (Ev.ret _))))))
 refine ⟨v3,Ev.up ?_,by omega,fun h=>⟨?_,?_,b3 h⟩⟩
 ·simp only [G.mP]
  exact Ev.bind g1 (Ev.cf (decide_eq_false c1) (Ev.bind g2 (Ev.cf (decide_eq_false c2) (Ev.bind g3 (Ev.cf (decide_eq_false c3) (Ev.ret _))))))
 ·obtain ⟨e1,e2⟩:=b1 (by omega)
  exact ⟨by omega,fun s hs=>by have:=e2 s hs; omega⟩
 ·obtain ⟨e1,e2⟩:=b2 (by omega)
  exact ⟨by omega,fun s hs=>by have:=e2 s hs; omega⟩
theorem T.UZ {D:Nat} {l:List jq} {left:Int} (h1:l.length<=mx) (hO:∀ o,o∈l->rH mx D o) (h0:0<=left) (hl:left<=1048576) :
    ∃ r,Ev (fun f=>G.iR f l left) r/\r<=left/\(0<=r->(l.length:Int)<=left/\∀ o,o∈l->rH 1048576 D o):=by
  unfold mx at h1
  have w0:IntKind.wrap .i64 (left-((l.length:Nat):Int))=left-((l.length:Nat):Int):=C9 (by omega) (by omega)
  by_cases c:left-((l.length:Nat):Int)<0
  · refine ⟨-1,Ev.up ?_,by omega,fun h=>by omega⟩
    simp only [G.iR,w0]
    exact Ev.ct (decide_eq_true c) (Ev.ret _)
  · have L:∀ (k i:Nat) (a:Int),i+k=l.length->0<=a->a<=1048576->∃ r,Ev (fun f=>G.iR.L1 f l a i) r/\r<=a/\(0<=r->∀ o,o∈l.drop i->rH 1048576 D o):=by
      intro k
      induction k with
      | zero =>
        intro i a hi ha ha2
        refine ⟨a,Ev.up ?_,by omega,fun _ s hs => ?_⟩
        · simp only [G.iR.L1]
          exact Ev.cf (decide_eq_false (by omega)) (Ev.ret _)
        · rw [List.drop_of_length_le (by omega)] at hs; cases hs
      | succ k ih =>
        intro i a hi ha ha2
        have hil:i<l.length:=by omega
        obtain ⟨q,gq,q1,q2⟩:=T.Xr (hO _ (uJ default hil)) ha ha2
        by_cases c1:q<0
        · refine ⟨-1,Ev.up ?_,by omega,fun h=>by omega⟩
          simp only [G.iR.L1,Int.toNat_natCast]
          exact Ev.ct (decide_eq_true (by omega)) (Ev.chk (by omega) (Ev.bind gq (Ev.ct (decide_eq_true c1) (Ev.ret _))))
        · obtain ⟨r,g,g1,g2⟩:=ih (i+1) q (by omega) (by omega) (by omega)
          refine ⟨r,Ev.up ?_,by omega,fun h s hs => ?_⟩
          · simp only [G.iR.L1,Int.toNat_natCast,aV (show i+1<9223372036854775808 by omega)]
            exact Ev.ct (decide_eq_true (by omega)) (Ev.chk (by omega) (Ev.bind gq (Ev.cf (decide_eq_false c1) g)))
          · rw [bg default hil] at hs
            rcases List.mem_cons.1 hs with e | e
            · rw [e]; exact q2 (by omega)
            · exact g2 h s e
    obtain ⟨r,g,g1,g2⟩:=L l.length 0 (left-((l.length:Nat):Int)) (by omega) (by omega) (by omega)
    refine ⟨r,Ev.up ?_,by omega,fun h=>⟨by omega,fun s hs=>g2 h s (by rw [List.drop_zero]; exact hs)⟩⟩
    simp only [G.iR,w0]
    exact Ev.cf (decide_eq_false c) g
theorem T.Xt {B D:Nat} {o:jq} (hB:B<=lim) (h:rH B D o):Ev (fun f=>G.og f o) o:=by
 refine Ev.up ?_
 simp only [G.og]
 exact Ev.bind (T.Fe (Nat.le_trans h.path.1 hB)) (Ev.bind (T.Fe (Nat.le_trans h.from_.1 hB)) (Ev.bind (T.Fb hB h.val) (Ev.ret _)))
theorem T.U1 {B D:Nat} {l:List jq} (hB:B<=lim) (hl:l.length<=lim) (h:∀ o,o∈l->rH B D o):Ev (fun f=>G.iT f l) l:=by
  unfold lim at hl
  have L:∀ (k i:Nat) (z:List jq),i+k=l.length->z.length=l.length->z.take i=l.take i->Ev (fun f=>G.iT.L1 f l i z) l:=by
    intro k
    induction k with
    | zero =>
      intro i z hi hz ht
      refine Ev.up ?_
      simp only [G.iT.L1]
      rw [List.take_of_length_le (by omega),List.take_of_length_le (by omega)] at ht
      exact Ev.cf (decide_eq_false (by omega)) (Ev.ret' ht)
    | succ k ih =>
      intro i z hi hz ht
      have hil:i<l.length:=by omega
      refine Ev.up ?_
      simp only [G.iT.L1,Int.toNat_natCast,aV (show i+1<9223372036854775808 by omega)]
      refine Ev.ct (decide_eq_true (by omega)) (Ev.chk (by omega) (Ev.bind (T.Xt hB (h _ (uJ default hil))) (Ev.chk (by omega) (ih (i+1) _ (by omega) (by rw [List.length_set]; exact hz) ?_))))
      rw [bF _ hil]
      exact AP hil hz ht
  refine Ev.up ?_
  simp only [G.iT]
  exact Ev.chk (by omega) (L l.length 0 _ (by omega) (by simp) rfl)
theorem T.Xc {B D:Nat} {o:jq} (hB:B<=lim) (h:rH B D o):Ev (fun f=>G.nZ f o o) true:=by
 refine Ev.up ?_
 simp only [G.nZ]
 exact Ev.cf (by simp) (Ev.bind (T.Ey (Nat.le_trans h.path.1 hB)) (Ev.ct rfl (Ev.bind (T.Ey (Nat.le_trans h.from_.1 hB)) (Ev.ct rfl (Ev.bind (T.Ew hB h.val) (Ev.ct rfl (Ev.ret _)))))))
theorem T.UO {B D:Nat} {l:List jq} (hB:B<=lim) (hl:l.length<=lim) (h:∀ o,o∈l->rH B D o):Ev (fun f=>G.jv f l l) true:=by
  unfold lim at hl
  have L:∀ (k i:Nat),i+k=l.length->Ev (fun f=>G.jv.L1 f l l i) true:=by
    intro k
    induction k with
    | zero =>
      intro i hi
      refine Ev.up ?_
      simp only [G.jv.L1]
      exact Ev.cf (decide_eq_false (by omega)) (Ev.ret _)
    | succ k ih =>
      intro i hi
      refine Ev.up ?_
      simp only [G.jv.L1,Int.toNat_natCast,aV (show i+1<9223372036854775808 by omega)]
      exact Ev.ct (decide_eq_true (by omega)) (Ev.chk (by omega) (Ev.chk (by omega) (Ev.bind (T.Xc hB (h _ (uJ default (by omega)))) (Ev.ct rfl (ih (i+1) (by omega))))))
  refine Ev.up ?_
  simp only [G.jv]
  exact Ev.cf (by simp) (L l.length 0 (by omega))
end Go.Ab
end
section
namespace Go.Ab
open Go
set_option maxRecDepth 100000
theorem sG:1048576<=lim:=by decide
def I7 (l:List jq):Prop:=l.length<=1048576/\∀ o,o∈l->∃ D,rH 1048576 D o
theorem T0.jD {B D:Nat} {o:jq} (hB:B<=lim) (h:rH B D o):Ev (fun f=>G.jD f o) (FC o):=by
 refine Ev.up ?_
 simp only [G.jD]
 unfold FC
 refine Ev.bind (T.bK _ _ _) (Ev.ite (fun e1 => ?_) (fun e1=>Ev.ret' (by rw [e1]; rfl)))
 refine Ev.bind (T.dw _ (J3 hB h.path.1 h.path.2)) (Ev.ite (fun e2 => ?_) (fun e2=>Ev.ret' (by rw [e1,e2]; rfl)))
 refine Ev.bind (T.dw _ (J3 hB h.from_.1 h.from_.2)) (Ev.ite (fun e3 => ?_) (fun e3=>Ev.ret' (by rw [e1,e2,e3]; rfl)))
 exact Ev.bind (T0.bD hB h.val) (Ev.ret' (by rw [e1,e2,e3]; rfl))
theorem T0.kV {B D:Nat} {o:jq} (hB:B<=lim) (h:rH B D o):Ev (fun f=>G.kV f o) (FC o):=by
 refine Ev.up ?_
 simp only [G.kV]
 unfold FC
 refine Ev.ite (fun e0 => ?_) (fun e0=>Ev.ret' (by rw [e0]; rfl))
 refine Ev.ite (fun e1 => ?_) (fun e1=>Ev.ret' (by rw [e0,e1]; rfl))
 refine Ev.bind (T.cO _ (J3 hB h.path.1 h.path.2)) (Ev.ite (fun e2 => ?_) (fun e2=>Ev.ret' (by rw [e0,e1,e2]; rfl)))
 refine Ev.bind (T.cO _ (J3 hB h.from_.1 h.from_.2)) (Ev.ite (fun e3 => ?_) (fun e3=>Ev.ret' (by rw [e0,e1,e2,e3]; rfl)))
 exact Ev.bind (T0.aC hB h.val) (Ev.ret' (by rw [e0,e1,e2,e3]; rfl))
theorem T0.aT.L1 {l:List jq} (h:I7 l):∀ (k i:Nat),i+k=l.length->Ev (fun f=>G.aT.L1 f l i) ((l.drop i).all FC):=by
  obtain ⟨hl,ho⟩:=h
  intro k
  induction k with
  | zero =>
    intro i hi
    refine Ev.up ?_
    simp only [G.aT.L1]
    refine Ev.cf (by simp; omega) (Ev.ret' ?_)
    rw [List.drop_of_length_le (by omega)]; rfl
  | succ k ih =>
    intro i hi
    have hlt:i<l.length:=by omega
    refine Ev.up ?_
    simp only [G.aT.L1,Int.toNat_natCast,jq.eta,aV (show i+1<9223372036854775808 by omega)]
    obtain ⟨E,hf⟩:=ho _ (getD_mem default hlt)
    refine Ev.ct (by simpa using hlt) (Ev.chk (by omega) (Ev.bind (T0.kV sG hf) ?_))
    rw [bg (default:jq) hlt,List.all_cons]
    refine Ev.ite (fun e => ?_) (fun e => ?_)
    · rw [e,Bool.true_and]; exact ih (i+1) (by omega)
    · rw [e,Bool.false_and]; exact Ev.ret _
theorem T0.aT {l:List jq} (h:I7 l):Ev (fun f=>G.aT f l) (wY l):=by
 refine Ev.up ?_
 simp only [G.aT]
 have hL:=T0.aT.L1 h l.length 0 (by omega)
 unfold wY
 refine Ev.ite (fun e=>Ev.ret' ?_) (fun e => ?_)
 ·have:¬ l.length<=12:=by simp at e; omega
  simp [this]
 ·have:l.length<=12:=by simp at e; omega
  simp only [this,decide_true,Bool.and_true]
  exact hL
theorem T0.bf.L1 {l:List jq} (h:I7 l):∀ (k i:Nat),i+k=l.length->Ev (fun f=>G.bf.L1 f l i) ((l.drop i).all FC&&decide (l.length<=12)):=by
  obtain ⟨hl,ho⟩:=h
  intro k
  induction k with
  | zero =>
    intro i hi
    refine Ev.up ?_
    simp only [G.bf.L1]
    refine Ev.cf (by simp; omega) (Ev.ret' ?_)
    rw [List.drop_of_length_le (by omega),List.all_nil,Bool.true_and]
    simp; omega
  | succ k ih =>
    intro i hi
    have hlt:i<l.length:=by omega
    refine Ev.up ?_
    simp only [G.bf.L1,Int.toNat_natCast,jq.eta,aV (show i+1<9223372036854775808 by omega)]
    obtain ⟨E,hf⟩:=ho _ (getD_mem default hlt)
    refine Ev.ct (by simpa using hlt) (Ev.chk (by omega) (Ev.bind (T0.jD sG hf) ?_))
    rw [bg (default:jq) hlt,List.all_cons]
    refine Ev.ite (fun e => ?_) (fun e => ?_)
    · rw [e,Bool.true_and]; exact ih (i+1) (by omega)
    · rw [e,Bool.false_and]; exact Ev.ret _
theorem T0.bf {l:List jq} (h:I7 l):Ev (fun f=>G.bf f l) (wY l):=by
 refine Ev.up ?_
 simp only [G.bf]
 exact T0.bf.L1 h l.length 0 (by omega)
end Go.Ab
end
section
namespace Go.Ab
open Go
set_option maxRecDepth 100000
def U6 (B:Nat) (n:af):Prop:=∃ D,nM B D n
structure GI (B:Nat) (s:StoreT):Prop where
 len:s.Items.length<=B
 Fz:∀ it,it∈s.Items->it.Name.length<=B
 KH:∀ it,it∈s.Items->U6 B it.Node
structure KL (B:Nat) (q:RequestT):Prop where
 Fz:q.Name.length<=B
 want:qY B q.Want
 avoid:qY B q.lK
 body:U6 B q.Body
 ops:I7 q.Ops
theorem GI.at_ {B:Nat} {s:StoreT} (h:GI B s) {i:Nat} (hi:i<s.Items.length):(s.Items.getD i default).Name.length<=B/\U6 B (s.Items.getD i default).Node :=
 ⟨h.Fz _ (getD_mem default hi),h.KH _ (getD_mem default hi)⟩
section
variable {B:Nat} {s:StoreT} (hB:B<=lim) (h:GI B s)
include hB h
theorem T0.bz.L1:∀ (k i:Nat),i+k=s.Items.length->Ev (fun f=>G.bz.L1 f s i) (((s.Items.drop i).all (Bc s.Clock)&&Asc ((oG s.Items).drop (i-1)))&&(decide (s.Items.length<=10)&&(decide (0<=s.Clock)&&decide (s.Clock<=999)))):=by
  have hl:=h.len
  unfold lim at hB
  intro k
  induction k with
  | zero =>
    intro i hi
    refine Ev.up ?_
    simp only [G.bz.L1]
    rw [List.drop_of_length_le (by omega),DL (by rw [nK]; omega)]
    refine Ev.cf (decide_eq_false (by omega)) (Ev.ite (fun e => ?_) (fun e=>Ev.ret' ?_))
    · refine Ev.bind (T.bK _ _ _) (Ev.ret' ?_)
      rw [decide_eq_true (show s.Items.length<=10 by simp only [decide_eq_true_eq] at e; omega)]
      simp
    · rw [decide_eq_false (show ¬ s.Items.length<=10 by simp only [decide_eq_false_iff_not] at e; omega)]
      simp
  | succ k ih =>
    intro i hi
    have hil:i<s.Items.length:=by omega
    obtain ⟨hn,⟨D,hd⟩⟩:=h.at_ hil
    refine Ev.up ?_
    simp only [G.bz.L1,Int.toNat_natCast,aV (show i+1<9223372036854775808 by omega)]
    rw [bg (default:aH) hil,List.all_cons]
    refine Ev.ct (decide_eq_true (by omega)) (Ev.chk (by omega) ?_)
    unfold Bc
    refine Ev.bind (T.cZ _ (by unfold big; omega)) (Ev.ite (fun e1 => ?_) (fun e1=>Ev.ret' (by rw [e1]; simp)))
    refine Ev.bind (T0.bD (by unfold lim; omega) hd) (Ev.ite (fun e2 => ?_) (fun e2=>Ev.ret' (by rw [e2]; simp)))
    refine Ev.bind (T.bK _ _ _) (Ev.ite (fun e3 => ?_) (fun e3=>Ev.ret' (by rw [e3]; simp)))
    rw [e1,e2,e3]
    have ih':=ih (i+1) (by omega)
    unfold Bc at ih'
    rw [Nat.add_sub_cancel] at ih'
    by_cases h0:0<i
    · have e:IntKind.wrap .i64 ((i:Int)-1)=((i-1:Nat):Int):=wrapN (by omega) (by omega)
      rw [e,Int.toNat_natCast]
      rw [zK h0 (by rw [nK]; exact hil),rC hil,rC (by omega:i-1<s.Items.length)]
      refine Ev.ct (decide_eq_true (by omega)) (Ev.chk (by omega) (Ev.ite (fun h1=>Ev.ret' ?_) (fun h1=>Ev.ite (fun h2=>Ev.ret' ?_) (fun h2 => ?_))))
      · rw [show bl (s.Items.getD (i-1) default).Name (s.Items.getD i default).Name=false from zL h1]; simp
      · rw [beq_iff_eq] at h2
        rw [show bl (s.Items.getD (i-1) default).Name (s.Items.getD i default).Name=false by rw [h2]; exact yQ _]; simp
      · have hb:bl (s.Items.getD (i-1) default).Name (s.Items.getD i default).Name=true:=by
          cases hb:bl (s.Items.getD (i-1) default).Name (s.Items.getD i default).Name with
          | true=>rfl
          | false=>rw [xm h1 hb] at h2; simp at h2
        rw [hb]
        exact ih'.eq (by simp)
    · have:i=0:=by omega
      subst this
      exact Ev.cf (by decide) (ih'.eq (by simp))
theorem T0.bz:Ev (fun f=>G.bz f s) (FD s):=by
 refine Ev.up ?_
 simp only [G.bz]
 exact T0.bz.L1 hB h s.Items.length 0 (by omega)
theorem T0.aK.L1:∀ (k i:Nat),i+k=s.Items.length->Ev (fun f=>G.aK.L1 f s i) ((s.Items.drop i).all (Bc s.Clock)&&Asc ((oG s.Items).drop (i-1))):=by
  have hl:=h.len
  unfold lim at hB
  intro k
  induction k with
  | zero =>
    intro i hi
    refine Ev.up ?_
    simp only [G.aK.L1]
    rw [List.drop_of_length_le (by omega),DL (by rw [nK]; omega)]
    exact Ev.cf (decide_eq_false (by omega)) (Ev.ret _)
  | succ k ih =>
    intro i hi
    have hil:i<s.Items.length:=by omega
    obtain ⟨hn,⟨D,hd⟩⟩:=h.at_ hil
    refine Ev.up ?_
    simp only [G.aK.L1,Int.toNat_natCast,aV (show i+1<9223372036854775808 by omega)]
    rw [bg (default:aH) hil,List.all_cons]
    have ih':=ih (i+1) (by omega)
    rw [Nat.add_sub_cancel] at ih'
    refine Ev.ct (decide_eq_true (by omega)) (Ev.chk (by omega) ?_)
    refine Ev.bind (T.dP _ (by unfold big; omega)) (Ev.ite (fun e1 => ?_) (fun e1=>Ev.ret' (by unfold Bc; rw [e1]; simp)))
    have tail:∀ q:Bool,(q=true->Asc ((oG s.Items).drop (i-1))=Asc ((oG s.Items).drop i))->q=true->Ev (fun f=>cond (decide ((s.Items.getD i default).Version<1)) (some false) (cond (decide (s.Clock<(s.Items.getD i default).Version)) (some false)
        (Option.bind (G.aC f (s.Items.getD i default).Node) fun v=>cond v (G.aK.L1 f s ((i+1:Nat):Int)) (some false)))) (Bc s.Clock (s.Items.getD i default)&&(s.Items.drop (i+1)).all (Bc s.Clock)&&Asc ((oG s.Items).drop (i-1))):=fun q hq hq'=>by
      rw [hq hq']
      refine Ev.ite (fun v1=>Ev.ret' ?_) (fun v1=>Ev.ite (fun v2=>Ev.ret' ?_) (fun v2 => ?_))
      · simp only [decide_eq_true_eq] at v1
        unfold Bc
        rw [decide_eq_false (show ¬ 1<=(s.Items.getD i default).Version by omega)]; simp
      · simp only [decide_eq_true_eq] at v2
        unfold Bc
        rw [decide_eq_false (show ¬ (s.Items.getD i default).Version<=s.Clock by omega)]; simp
      · simp only [decide_eq_false_iff_not] at v1 v2
        refine Ev.bind (T0.aC (by unfold lim; omega) hd) (Ev.ite (fun e2 => ?_) (fun e2=>Ev.ret' (by unfold Bc; rw [e2]; simp)))
        refine ih'.eq ?_
        have:Bc s.Clock (s.Items.getD i default)=true:=by
          unfold Bc
          rw [e1,e2,decide_eq_true (show 1<=(s.Items.getD i default).Version by omega),decide_eq_true (show (s.Items.getD i default).Version<=s.Clock by omega)]; rfl
        rw [this]; rfl
    by_cases h0:0<i
    · have e:IntKind.wrap .i64 ((i:Int)-1)=((i-1:Nat):Int):=wrapN (by omega) (by omega)
      rw [e,Int.toNat_natCast]
      have hst:=zK h0 (l:=oG s.Items) (by rw [nK]; exact hil)
      rw [rC hil,rC (by omega:i-1<s.Items.length)] at hst
      refine Ev.ct (decide_eq_true (by omega)) (Ev.chk (by omega) (Ev.ite (fun h1 => ?_) (fun h1=>Ev.ret' ?_)))
      · exact tail true (fun _=>by rw [hst,show bl (s.Items.getD (i-1) default).Name (s.Items.getD i default).Name=true from h1]; rfl) rfl
      · rw [hst,show bl (s.Items.getD (i-1) default).Name (s.Items.getD i default).Name=false from h1]; simp
    · have:i=0:=by omega
      subst this
      exact Ev.cf (by decide) (tail true (fun _=>rfl) rfl)
theorem T0.aK:Ev (fun f=>G.aK f s) (FD s):=by
 refine Ev.up ?_
 simp only [G.aK]
 unfold FD
 refine Ev.ite (fun e=>Ev.ret' ?_) (fun e=>Ev.ite (fun e2=>Ev.ret' ?_) (fun e2=>Ev.ite (fun e3=>Ev.ret' ?_) (fun e3 => ?_)))
 ·rw [decide_eq_false (show ¬ s.Items.length<=10 by simp only [decide_eq_true_eq] at e; omega)]; simp
 ·rw [decide_eq_false (show ¬ 0<=s.Clock by simp only [decide_eq_true_eq] at e2; omega)]; simp
 ·rw [decide_eq_false (show ¬ s.Clock<=999 by simp only [decide_eq_true_eq] at e3; omega)]; simp
 ·simp only [decide_eq_false_iff_not] at e e2 e3
  refine (T0.aK.L1 hB h s.Items.length 0 (by omega)).eq ?_
  rw [decide_eq_true (show s.Items.length<=10 by omega),decide_eq_true (show 0<=s.Clock by omega),decide_eq_true (show s.Clock<=999 by omega),List.drop_zero]
  simp
end
end Go.Ab
end
section
namespace Go.Ab
open Go
set_option maxRecDepth 100000
set_option maxHeartbeats 4000000
set_option linter.unusedVariables false
set_option linter.unusedSimpArgs false
theorem F.cmp_isNaN_int {n:Nat} : ∀ {kP r},G.cmp_isNaN_int n kP=some r->aZ pZ 195 [.one (wI kP)] (.one (.c (.lit (.bool r)))):=by
 intro kP r h
 refine aB K.cmp_isNaN_int (jZ ?_)
 unfold C.cmp_isNaN_int
 rcases n with _ | n<;>simp only [G.cmp_isNaN_int,reduceCtorEq] at h
 have z:=pp () <| pp () <| pp () <| pp () <| pp () <| pp () <| ()
 exact kQ
theorem F.cmp_Compare_int {n:Nat} : ∀ {kP yK r},G.cmp_Compare_int n kP yK=some r->aZ pZ 148 [.one (wI kP),.one (wI yK)] (.one (wI r)):=by
 intro kP yK r h
 refine aB K.cmp_Compare_int (jZ ?_)
 unfold C.cmp_Compare_int
 rcases n with _ | n<;>simp only [G.cmp_Compare_int,reduceCtorEq] at h
 have z:=pp (pp @F.cmp_isNaN_int ()) <| pp () <| pp () <| pp () <| pp () <| pp () <| ()
 exact kQ
theorem F.cmp_isNaN_string {n:Nat} : ∀ {kP r},G.cmp_isNaN_string n kP=some r->aZ pZ 234 [.one (wS kP)] (.one (.c (.lit (.bool r)))):=by
 intro kP r h
 refine aB K.cmp_isNaN_string (jZ ?_)
 unfold C.cmp_isNaN_string
 rcases n with _ | n<;>simp only [G.cmp_isNaN_string,reduceCtorEq] at h
 have z:=pp () <| pp () <| pp () <| pp () <| pp () <| pp () <| ()
 exact kQ
theorem F.cmp_Less_string {n:Nat} : ∀ {kP yK r},G.cmp_Less_string n kP yK=some r->aZ pZ 214 [.one (wS kP),.one (wS yK)] (.one (.c (.lit (.bool r)))):=by
 intro kP yK r h
 refine aB K.cmp_Less_string (jZ ?_)
 unfold C.cmp_Less_string
 rcases n with _ | n<;>simp only [G.cmp_Less_string,reduceCtorEq] at h
 have z:=pp (pp @F.cmp_isNaN_string ()) <| pp () <| pp () <| pp () <| pp () <| pp () <| ()
 exact kQ
theorem F.Dn:∀ (n:Nat),∀ {ag r},G.au n ag=some r->aZ pZ 83 [.agg (wN ag)] (.agg (wN r)):=by
 intro n
 induction n using Nat.strongRecOn with | _ n ih =>
 intro ag r h
 refine aB K.au (jZ ?_)
 unfold C.au
 rcases n with _ | n<;>simp only [G.au,reduceCtorEq] at h
 have z:=pp (pp ih ()) <| pp () <| pp (pp (@lQ (List aS × Int × List af) _ (fun n x=>G.au.L2 n ag x.1 x.2.1 x.2.2) r (fun x=>bZ.of [eP 2 113,eP 3 114,(37,.v true (.one (wK ag.Kids))),eI 38 ((ag.Kids.length:Nat):Int),eI 39 x.2.1] [(113,.var zN),(114,.var [wI ag.Kind,wI ag.Num,wS ag.Text,.own 115 x.1.length 1,.own 116 x.2.2.length 5]),(115,.dat 1 (List.map cS x.1)),(116,.dat 5 (List.map af.cells x.2.2))])) ()) <| pp (pp (@sQ (List aS) _ (fun n x=>G.au.K1 n ag x) r (fun x=>bZ.of [eP 1 101,eP 2 102,eP 3 103] [(101,.var (wN ag)),(102,.var zN),(103,.var [wI ag.Kind,wI ag.Num,wS ag.Text,.own 104 x.length 1,.iL 5]),(104,.dat 1 (List.map cS x))])) ()) <| pp (pp (And.intro @G.au.K1.eq_1 <| And.intro @G.au.K1.eq_2 <| And.intro @G.au.L2.eq_1 <| @G.au.L2.eq_2) ()) <| pp (pp (@bQ [] [(101,10),(102,11),(103,12),(104,13)] []) <| pp (@bQ [] [(101,10),(102,11),(103,12)] [104]) <| pp (@bQ [] [(113,102),(114,103),(115,104),(116,14)] []) <| pp (@bQ [] [(113,113),(114,114),(115,115),(116,116)] []) ()) <| ()
 exact kQ
theorem F.au {n:Nat} : ∀ {ag:af} {r:af},G.au n ag=some r->aZ pZ 83 [.agg (wN ag)] (.agg (wN r)):=F.Dn n
theorem F.lW {n:Nat} : ∀ {ag r},G.au n ag=some r->iZ pZ 83 [.agg (wN ag)] [] (fun r1 b1=>r1 = .agg [wI r.Kind,wI r.Num,wS r.Text,.own 0 r.Names.length 1,.own 1 r.Kids.length 5]/\b1=[.dat 1 (List.map cS r.Names),.dat 5 (List.map af.cells r.Kids)]):=by
 intro ag r h
 refine kU K.au (jZ ?_)
 unfold C.au
 rcases n with _ | n<;>simp only [G.au,reduceCtorEq] at h
 have z:=pp (pp @F.au ()) <| pp () <| pp (pp (@lQ (List aS × Int × List af) _ (fun n x=>G.au.L2 n ag x.1 x.2.1 x.2.2) r (fun x=>bZ.of [eP 2 113,eP 3 114,(37,.v true (.one (wK ag.Kids))),eI 38 ((ag.Kids.length:Nat):Int),eI 39 x.2.1] [(113,.var zN),(114,.var [wI ag.Kind,wI ag.Num,wS ag.Text,.own 115 x.1.length 1,.own 116 x.2.2.length 5]),(115,.dat 1 (List.map cS x.1)),(116,.dat 5 (List.map af.cells x.2.2))])) ()) <| pp (pp (@sQ (List aS) _ (fun n x=>G.au.K1 n ag x) r (fun x=>bZ.of [eP 1 101,eP 2 102,eP 3 103] [(101,.var (wN ag)),(102,.var zN),(103,.var [wI ag.Kind,wI ag.Num,wS ag.Text,.own 104 x.length 1,.iL 5]),(104,.dat 1 (List.map cS x))])) ()) <| pp (pp (And.intro @G.au.K1.eq_1 <| And.intro @G.au.K1.eq_2 <| And.intro @G.au.L2.eq_1 <| @G.au.L2.eq_2) ()) <| pp (pp (@bQ [] [(101,10),(102,11),(103,12),(104,13)] []) <| pp (@bQ [] [(101,10),(102,11),(103,12)] [104]) <| pp (@bQ [] [(113,102),(114,103),(115,104),(116,14)] []) <| pp (@bQ [] [(113,113),(114,114),(115,115),(116,116)] []) ()) <| (pp (@qx [] [(0,115),(1,116)] []) <| pp (@qx [] [(0,104)] [1]) ())
 exact kQ
theorem F.slices_isNaN_string {n:Nat} : ∀ {kP r},G.slices_isNaN_string n kP=some r->aZ pZ 215 [.one (wS kP)] (.one (.c (.lit (.bool r)))):=by
 intro kP r h
 refine aB K.slices_isNaN_string (jZ ?_)
 unfold C.slices_isNaN_string
 rcases n with _ | n<;>simp only [G.slices_isNaN_string,reduceCtorEq] at h
 have z:=pp () <| pp () <| pp () <| pp () <| pp () <| pp () <| ()
 exact kQ
theorem F.slices_BinarySearch_string {n:Nat} : ∀ {kP jF r},G.slices_BinarySearch_string n kP jF=some r->aZ pZ 177 [.one (wT kP),.one (wS jF)] (.nV [(false,[wI r.1]),(false,[.c (.lit (.bool r.2))])]):=by
 intro kP jF r h
 refine aB K.slices_BinarySearch_string (jZ ?_)
 unfold C.slices_BinarySearch_string
 rcases n with _ | n<;>simp only [G.slices_BinarySearch_string,reduceCtorEq] at h
 have z:=pp (pp @F.cmp_Less_string <| pp @F.slices_isNaN_string ()) <| pp () <| pp (pp (@lQ (Int × Int) _ (fun n x=>G.slices_BinarySearch_string.L1 n kP jF x.1 x.2) r (fun x=>bZ.of [eT 0 kP,eS 1 jF,eI 6 ((kP.length:Nat):Int),eI 7 x.1,eI 8 x.2] [])) ()) <| pp () <| pp (pp (And.intro @G.slices_BinarySearch_string.L1.eq_1 <| @G.slices_BinarySearch_string.L1.eq_2) ()) <| pp (pp (@bQ [] [] []) ()) <| ()
 exact kQ
def B.ren:Go.Shelf.Ren:=⟨fun n=>match n with | 129=>194 | 166=>223 | 167=>225 | 169=>204 | 171=>175 | 240=>236 | 243=>211 | 246=>232 | 276=>247 | 283=>242 | 284=>243 | 285=>244 | 286=>245 | 317=>250 | 318=>251 | 319=>252 | 320=>253 | 337=>255 | 338=>256 | _=>0,fun n=>match n with | 0=>0 | 2=>2 | 3=>3 | 4=>4 | 5=>5 | 9=>9 | 20=>20 | 31=>22 | 37=>155 | 46=>161 | 51=>190 | 53=>192 | 70=>197 | 72=>199 | 75=>216 | 76=>217 | 80=>201 | 127=>221 | 164=>236 | 171=>231 | 173=>233 | 212=>240 | 213=>241 | 232=>243 | 233=>244 | _=>0,fun n=>match n with | 17=>1 | 18=>2 | 19=>3 | _=>0⟩
theorem B.Yi:Go.Proofs.Builder.X72 pZ B.ren:=by constructor<;>kernel_rfl
theorem B.x:Go.Proofs.Builder.Extra pZ B.ren:=by constructor<;>first | exact B.Yi | kernel_rfl | (intro w; kernel_rfl) | decide
theorem B.lays171:Go.Proofs.Lays.n171 pZ B.ren:=by constructor<;>first | kernel_rfl | (intro w; kernel_rfl)
theorem B.laysM171:Go.Proofs.LaysM.n171 pZ B.ren:=by constructor<;>first | exact B.lays171 | kernel_rfl | (intro w; kernel_rfl)
theorem F.strconv_Itoa {n:Nat} : ∀ {uT:Int} {r:aS},G.strconv_Itoa n uT=some r->aZ pZ 175 [.one (wI uT)] (.one (wS r)):=by
 intro i r h
 rcases n with _ | n<;>simp only [G.strconv_Itoa,reduceCtorEq] at h
 obtain ⟨⟨h0,hl⟩,h⟩:=oJ.1 h
 exact TG B.laysM171 h0 (Nat.le_trans hl (by decide)) (by cases h; rfl)
theorem F.bG {n:Nat} : ∀ {ag dU r},G.bG n ag dU=some r->aZ pZ 130 [.agg (wN ag),.one (wS dU)] (.nV [(false,[wI r.1]),(false,[.c (.lit (.bool r.2))])]):=by
 intro ag dU r h
 refine aB K.bG (jZ ?_)
 unfold C.bG
 rcases n with _ | n<;>simp only [G.bG,reduceCtorEq] at h
 have z:=pp (pp @F.slices_BinarySearch_string <| pp @F.strconv_Itoa ()) <| pp () <| pp (pp (@lQ (Int) _ (fun n x=>G.bG.L1 n ag dU x) r (fun x=>bZ.of [eS 1 dU,eI 21 ((ag.Kids.length:Nat):Int),eI 22 x] [])) ()) <| pp () <| pp (pp (And.intro @G.bG.L1.eq_1 <| @G.bG.L1.eq_2) ()) <| pp (pp (@bQ [] [] []) ()) <| ()
 exact kQ
theorem FZ.bI {es:List (List Cell)} {v:List Cell} {c i:Nat} (hc:es.length<=c) (hi:i<=es.length) (hb:(es.length+1)*86<=2^46) :
  iZ pZ 176 [.one (.sub 0 0 es.length (some c) 5),.one (wI (i:Int)),.one (.own 1 1 5)] [.dat 5 es,.dat 5 [v]]
   (fun r1 b1=>r1 = .one (.own 2 (es.length+1) 5)/\b1=[.dead,.dat 5 [v],.dat 5 (es.take i++v::es.drop i)]):=by
 have hw:IntKind.wrap .i64 ((es.length:Int)+((1:Nat):Int))=((es.length+1:Nat):Int):=by rw [o5]<;>omega
 have hw2:IntKind.wrap .i64 ((i:Int)+((1:Nat):Int))=((i+1:Nat):Int):=by rw [o5]<;>omega
 have hw3:IntKind.wrap .i64 (((es.length+1:Nat):Int)-i)=((es.length+1-i:Nat):Int):=by rw [o5]<;>omega
 refine kU K.bI (jZ ?_)
 unfold C.bI
 have h10:(((1:Nat):Int)==0)=false:=rfl
 by_cases h1:i=es.length
 ·subst h1
  have he:(((es.length:Nat):Int)==((es.length:Nat):Int))=true:=by simp
  simp -dsimp only [yF,fA.gm,fA.f,fA.rd,lH,jX,lvl,kK,reduceIte,Nat.reduceEqDiff,Nat.reduceAdd,Nat.reduceLeDiff,Nat.reduceBEq,reduceCtorEq,Int.reduceBNe,Int.reduceBEq,Int.reduceLT,Int.reduceLE,Int.reduceNeg,Nat.reduceLT,lI,Int.reduceToNat,nU,jE,pz,mV,mX,mQ,mW,truncS,Option.map_none,Int.sub_zero,Nat.sub_zero,Int.toNat_sub,Int.ofNat_zero,List.drop_zero,List.take_length,Nat.add_sub_cancel,h10]
  repeat refine And.intro (by first | (show kW _ _ _ _=true; kernel_rfl) | (show jT _ _=true; kernel_rfl) | omega | assumption) ?_
  have e:es++[v]++List.drop (es.length+1) es=es++v::List.drop es.length es:=by simp
  have e2:es++[v]=es++v::List.drop es.length es:=by simp
  by_cases hr:es.length+1<=c
  ·simp -dsimp only [yF,fA.gm,fA.f,fA.rd,lH,jX,lvl,kK,reduceIte,Nat.reduceEqDiff,Nat.reduceAdd,Nat.reduceLeDiff,Nat.reduceBEq,reduceCtorEq,Int.reduceBNe,Int.reduceBEq,Int.reduceLT,Int.reduceLE,Int.reduceNeg,Nat.reduceLT,lI,Int.reduceToNat,nU,jE,pz,mV,mX,mQ,mW,truncS,Option.map_none,Int.sub_zero,Nat.sub_zero,Int.toNat_sub,Int.ofNat_zero,List.drop_zero,List.take_length,Nat.add_sub_cancel,hr]
   repeat refine And.intro (by first | (show kW _ _ _ _=true; kernel_rfl) | (show jT _ _=true; kernel_rfl) | omega | assumption) ?_
   rw [e]
   refine pX [] [(0,0),(1,1),(2,0)] [] (by rfl) ?_ ?_ ?_<;>(simp -dsimp only [KI,Cm,uB,reduceIte,Nat.reduceEqDiff,reduceCtorEq,Nat.reduceAdd,Nat.reduceLeDiff]<;>first | (simp [List.take_of_length_le]; done) | ((try simp only [List.map_take,List.map_drop,List.map_append,List.map_cons,List.map_nil])<;>(repeat' apply And.intro)<;>first | rfl | (simp; done) | (simp<;>omega; done) | (congr 1; exact (List.take_of_length_le (by simp<;>omega)).symm)))
  ·simp -dsimp only [yF,fA.gm,fA.f,fA.rd,lH,jX,lvl,kK,reduceIte,Nat.reduceEqDiff,Nat.reduceAdd,Nat.reduceLeDiff,Nat.reduceBEq,reduceCtorEq,Int.reduceBNe,Int.reduceBEq,Int.reduceLT,Int.reduceLE,Int.reduceNeg,Nat.reduceLT,lI,Int.reduceToNat,nU,jE,pz,mV,mX,mQ,mW,truncS,Option.map_none,Int.sub_zero,Nat.sub_zero,Int.toNat_sub,Int.ofNat_zero,List.drop_zero,List.take_length,Nat.add_sub_cancel,hr]
   repeat refine And.intro (by first | (show kW _ _ _ _=true; kernel_rfl) | (show jT _ _=true; kernel_rfl) | omega | assumption) ?_
   rw [e2]
   refine pX [] [(0,0),(1,1),(2,10)] [] (by rfl) ?_ ?_ ?_<;>(simp -dsimp only [KI,Cm,uB,reduceIte,Nat.reduceEqDiff,reduceCtorEq,Nat.reduceAdd,Nat.reduceLeDiff]<;>first | (simp [List.take_of_length_le]; done) | ((try simp only [List.map_take,List.map_drop,List.map_append,List.map_cons,List.map_nil])<;>(repeat' apply And.intro)<;>first | rfl | (simp; done) | (simp<;>omega; done) | (congr 1; exact (List.take_of_length_le (by simp<;>omega)).symm)))
 ·have he:(((i:Nat):Int)==((es.length:Nat):Int))=false:=by simp; omega
  simp -dsimp only [yF,fA.gm,fA.f,fA.rd,lH,jX,lvl,kK,reduceIte,Nat.reduceEqDiff,Nat.reduceAdd,Nat.reduceLeDiff,Nat.reduceBEq,reduceCtorEq,Int.reduceBNe,Int.reduceBEq,Int.reduceLT,Int.reduceLE,Int.reduceNeg,Nat.reduceLT,lI,Int.reduceToNat,nU,jE,pz,mV,mX,mQ,mW,truncS,Option.map_none,Int.sub_zero,Nat.sub_zero,Int.toNat_sub,Int.ofNat_zero,List.drop_zero,List.take_length,Nat.add_sub_cancel,h10]
  repeat refine And.intro (by first | (show kW _ _ _ _=true; kernel_rfl) | (show jT _ _=true; kernel_rfl) | omega | assumption) ?_
  simp -dsimp only [yF,fA.gm,fA.f,fA.rd,lH,jX,lvl,kK,reduceIte,Nat.reduceEqDiff,Nat.reduceAdd,Nat.reduceLeDiff,Nat.reduceBEq,reduceCtorEq,Int.reduceBNe,Int.reduceBEq,Int.reduceLT,Int.reduceLE,Int.reduceNeg,Nat.reduceLT,lI,Int.reduceToNat,nU,jE,pz,mV,mX,mQ,mW,truncS,Option.map_none,Int.sub_zero,Nat.sub_zero,Int.toNat_sub,Int.ofNat_zero,List.drop_zero,List.take_length,Nat.add_sub_cancel,he]
  by_cases hr:es.length+1<=c
  ·have hd:decide ((c:Int)<((es.length+1:Nat):Int))=false:=by simp; omega
   simp -dsimp only [yF,fA.gm,fA.f,fA.rd,lH,jX,lvl,kK,reduceIte,Nat.reduceEqDiff,Nat.reduceAdd,Nat.reduceLeDiff,Nat.reduceBEq,reduceCtorEq,Int.reduceBNe,Int.reduceBEq,Int.reduceLT,Int.reduceLE,Int.reduceNeg,Nat.reduceLT,lI,Int.reduceToNat,nU,jE,pz,mV,mX,mQ,mW,truncS,Option.map_none,Int.sub_zero,Nat.sub_zero,Int.toNat_sub,Int.ofNat_zero,List.drop_zero,List.take_length,Nat.add_sub_cancel,hw,hd]
   repeat refine And.intro (by first | (show kW _ _ _ _=true; kernel_rfl) | (show jT _ _=true; kernel_rfl) | omega | assumption) ?_
   simp -dsimp only [yF,fA.gm,fA.f,fA.rd,lH,jX,lvl,kK,reduceIte,Nat.reduceEqDiff,Nat.reduceAdd,Nat.reduceLeDiff,Nat.reduceBEq,reduceCtorEq,Int.reduceBNe,Int.reduceBEq,Int.reduceLT,Int.reduceLE,Int.reduceNeg,Nat.reduceLT,lI,Int.reduceToNat,nU,jE,pz,mV,mX,mQ,mW,truncS,Option.map_none,Int.sub_zero,Nat.sub_zero,Int.toNat_sub,Int.ofNat_zero,List.drop_zero,List.take_length,Nat.add_sub_cancel,hw2]
   repeat refine And.intro (by first | (show kW _ _ _ _=true; kernel_rfl) | (show jT _ _=true; kernel_rfl) | omega | assumption) ?_
   refine And.intro (by simp; omega) ?_
   have e:=VD es v i (by omega)
   simp only [splice] at e
   rw [e]
   refine pX [] [(0,0),(1,1),(2,0)] [] (by rfl) ?_ ?_ ?_<;>(simp -dsimp only [KI,Cm,uB,reduceIte,Nat.reduceEqDiff,reduceCtorEq,Nat.reduceAdd,Nat.reduceLeDiff]<;>first | (simp [List.take_of_length_le]; done) | ((try simp only [List.map_take,List.map_drop,List.map_append,List.map_cons,List.map_nil])<;>(repeat' apply And.intro)<;>first | rfl | (simp; done) | (simp<;>omega; done) | (congr 1; exact (List.take_of_length_le (by simp<;>omega)).symm)))
  ·have hd:decide ((c:Int)<((es.length+1:Nat):Int))=true:=by simp; omega
   have hx:c<i+(es.length+1-i):=by omega
   simp -dsimp only [yF,fA.gm,fA.f,fA.rd,lH,jX,lvl,kK,reduceIte,Nat.reduceEqDiff,Nat.reduceAdd,Nat.reduceLeDiff,Nat.reduceBEq,reduceCtorEq,Int.reduceBNe,Int.reduceBEq,Int.reduceLT,Int.reduceLE,Int.reduceNeg,Nat.reduceLT,lI,Int.reduceToNat,nU,jE,pz,mV,mX,mQ,mW,truncS,Option.map_none,Int.sub_zero,Nat.sub_zero,Int.toNat_sub,Int.ofNat_zero,List.drop_zero,List.take_length,Nat.add_sub_cancel,hw,hd,hw2,hw3]
   repeat refine And.intro (by first | (show kW _ _ _ _=true; kernel_rfl) | (show jT _ _=true; kernel_rfl) | omega | assumption) ?_
   refine And.intro (by simp; omega) ?_
   repeat refine And.intro (by first | (show kW _ _ _ _=true; kernel_rfl) | (show jT _ _=true; kernel_rfl) | omega | assumption) ?_
   refine And.intro ⟨by omega,by simp; omega⟩ ?_
   repeat refine And.intro (by first | (show kW _ _ _ _=true; kernel_rfl) | (show jT _ _=true; kernel_rfl) | omega | assumption) ?_
   have e:=VE es v [.lit (.int .i64 0),.lit (.int .i64 0),.str [],.sl 1 [],.sl 5 []] i _ (by omega) rfl
   simp only [splice] at e
   have e0:i+(es.length+1-i)=es.length+1:=by omega
   rw [e,e0]
   refine pX [] [(0,0),(1,1),(2,11)] [] (by rfl) ?_ ?_ ?_<;>(simp -dsimp only [KI,Cm,uB,reduceIte,Nat.reduceEqDiff,reduceCtorEq,Nat.reduceAdd,Nat.reduceLeDiff]<;>first | (simp [List.take_of_length_le]; done) | ((try simp only [List.map_take,List.map_drop,List.map_append,List.map_cons,List.map_nil])<;>(repeat' apply And.intro)<;>first | rfl | (simp; done) | (simp<;>omega; done) | (congr 1; exact (List.take_of_length_le (by simp<;>omega)).symm)))
theorem F.bI {n:Nat} : ∀ {ai:List af} {uT:Int} {qm:List af} {r:List af},G.bI n ai uT qm=some r ->
    iZ pZ 176 [.one (.own 0 ai.length 5),.one (wI uT),.one (.own 1 qm.length 5)] [.dat 5 (List.map af.cells ai),.dat 5 (List.map af.cells qm)]
      (fun r1 b1=>r1 = .one (.own 2 r.length 5)/\b1=[.dead,.dat 5 (List.map af.cells qm),.dat 5 (List.map af.cells r)]):=by
  intro s i v r h
  cases n with
  | zero=>simp only [G.bI,reduceCtorEq] at h
  | succ n =>
    simp only [G.bI] at h
    obtain ⟨⟨q1,q2,q3,q4⟩,h⟩:=oJ.1 h
    cases h
    obtain ⟨x,rfl⟩:=List.length_eq_one_iff.1 q3
    obtain ⟨k,rfl⟩:∃ k:Nat,i=k:=⟨i.toNat,by omega⟩
    refine xX (fun c hc => ?_)
    have hf:=FZ.bI (es:=List.map af.cells s) (v:=af.cells x) (c:=c) (i:=k) (by simpa using hc) (by rw [List.length_map]; omega) (by rw [List.length_map]; exact q4)
    have e1:(List.take k s++[x]++List.drop k s).length=s.length+1:=by simp; omega
    rw [Int.toNat_natCast,e1]
    simpa using hf
theorem FZ.dQ {es:List (List Cell)} {v:List Cell} {c i:Nat} (hc:es.length<=c) (hi:i<=es.length) (hb:(es.length+1)*18<=2^46) :
  iZ pZ 210 [.one (.sub 0 0 es.length (some c) 1),.one (wI (i:Int)),.one (.own 1 1 1)] [.dat 1 es,.dat 1 [v]]
   (fun r1 b1=>r1 = .one (.own 2 (es.length+1) 1)/\b1=[.dead,.dat 1 [v],.dat 1 (es.take i++v::es.drop i)]):=by
 have hw:IntKind.wrap .i64 ((es.length:Int)+((1:Nat):Int))=((es.length+1:Nat):Int):=by rw [o5]<;>omega
 have hw2:IntKind.wrap .i64 ((i:Int)+((1:Nat):Int))=((i+1:Nat):Int):=by rw [o5]<;>omega
 have hw3:IntKind.wrap .i64 (((es.length+1:Nat):Int)-i)=((es.length+1-i:Nat):Int):=by rw [o5]<;>omega
 refine kU K.dQ (jZ ?_)
 unfold C.dQ
 have h10:(((1:Nat):Int)==0)=false:=rfl
 by_cases h1:i=es.length
 ·subst h1
  have he:(((es.length:Nat):Int)==((es.length:Nat):Int))=true:=by simp
  simp -dsimp only [yF,fA.gm,fA.f,fA.rd,lH,jX,lvl,kK,reduceIte,Nat.reduceEqDiff,Nat.reduceAdd,Nat.reduceLeDiff,Nat.reduceBEq,reduceCtorEq,Int.reduceBNe,Int.reduceBEq,Int.reduceLT,Int.reduceLE,Int.reduceNeg,Nat.reduceLT,lI,Int.reduceToNat,nU,jE,pz,mV,mX,mQ,mW,truncS,Option.map_none,Int.sub_zero,Nat.sub_zero,Int.toNat_sub,Int.ofNat_zero,List.drop_zero,List.take_length,Nat.add_sub_cancel,h10]
  repeat refine And.intro (by first | (show kW _ _ _ _=true; kernel_rfl) | (show jT _ _=true; kernel_rfl) | omega | assumption) ?_
  have e:es++[v]++List.drop (es.length+1) es=es++v::List.drop es.length es:=by simp
  have e2:es++[v]=es++v::List.drop es.length es:=by simp
  by_cases hr:es.length+1<=c
  ·simp -dsimp only [yF,fA.gm,fA.f,fA.rd,lH,jX,lvl,kK,reduceIte,Nat.reduceEqDiff,Nat.reduceAdd,Nat.reduceLeDiff,Nat.reduceBEq,reduceCtorEq,Int.reduceBNe,Int.reduceBEq,Int.reduceLT,Int.reduceLE,Int.reduceNeg,Nat.reduceLT,lI,Int.reduceToNat,nU,jE,pz,mV,mX,mQ,mW,truncS,Option.map_none,Int.sub_zero,Nat.sub_zero,Int.toNat_sub,Int.ofNat_zero,List.drop_zero,List.take_length,Nat.add_sub_cancel,hr]
   repeat refine And.intro (by first | (show kW _ _ _ _=true; kernel_rfl) | (show jT _ _=true; kernel_rfl) | omega | assumption) ?_
   rw [e]
   refine pX [] [(0,0),(1,1),(2,0)] [] (by rfl) ?_ ?_ ?_<;>(simp -dsimp only [KI,Cm,uB,reduceIte,Nat.reduceEqDiff,reduceCtorEq,Nat.reduceAdd,Nat.reduceLeDiff]<;>first | (simp [List.take_of_length_le]; done) | ((try simp only [List.map_take,List.map_drop,List.map_append,List.map_cons,List.map_nil])<;>(repeat' apply And.intro)<;>first | rfl | (simp; done) | (simp<;>omega; done) | (congr 1; exact (List.take_of_length_le (by simp<;>omega)).symm)))
  ·simp -dsimp only [yF,fA.gm,fA.f,fA.rd,lH,jX,lvl,kK,reduceIte,Nat.reduceEqDiff,Nat.reduceAdd,Nat.reduceLeDiff,Nat.reduceBEq,reduceCtorEq,Int.reduceBNe,Int.reduceBEq,Int.reduceLT,Int.reduceLE,Int.reduceNeg,Nat.reduceLT,lI,Int.reduceToNat,nU,jE,pz,mV,mX,mQ,mW,truncS,Option.map_none,Int.sub_zero,Nat.sub_zero,Int.toNat_sub,Int.ofNat_zero,List.drop_zero,List.take_length,Nat.add_sub_cancel,hr]
   repeat refine And.intro (by first | (show kW _ _ _ _=true; kernel_rfl) | (show jT _ _=true; kernel_rfl) | omega | assumption) ?_
   rw [e2]
   refine pX [] [(0,0),(1,1),(2,10)] [] (by rfl) ?_ ?_ ?_<;>(simp -dsimp only [KI,Cm,uB,reduceIte,Nat.reduceEqDiff,reduceCtorEq,Nat.reduceAdd,Nat.reduceLeDiff]<;>first | (simp [List.take_of_length_le]; done) | ((try simp only [List.map_take,List.map_drop,List.map_append,List.map_cons,List.map_nil])<;>(repeat' apply And.intro)<;>first | rfl | (simp; done) | (simp<;>omega; done) | (congr 1; exact (List.take_of_length_le (by simp<;>omega)).symm)))
 ·have he:(((i:Nat):Int)==((es.length:Nat):Int))=false:=by simp; omega
  simp -dsimp only [yF,fA.gm,fA.f,fA.rd,lH,jX,lvl,kK,reduceIte,Nat.reduceEqDiff,Nat.reduceAdd,Nat.reduceLeDiff,Nat.reduceBEq,reduceCtorEq,Int.reduceBNe,Int.reduceBEq,Int.reduceLT,Int.reduceLE,Int.reduceNeg,Nat.reduceLT,lI,Int.reduceToNat,nU,jE,pz,mV,mX,mQ,mW,truncS,Option.map_none,Int.sub_zero,Nat.sub_zero,Int.toNat_sub,Int.ofNat_zero,List.drop_zero,List.take_length,Nat.add_sub_cancel,h10]
  repeat refine And.intro (by first | (show kW _ _ _ _=true; kernel_rfl) | (show jT _ _=true; kernel_rfl) | omega | assumption) ?_
  simp -dsimp only [yF,fA.gm,fA.f,fA.rd,lH,jX,lvl,kK,reduceIte,Nat.reduceEqDiff,Nat.reduceAdd,Nat.reduceLeDiff,Nat.reduceBEq,reduceCtorEq,Int.reduceBNe,Int.reduceBEq,Int.reduceLT,Int.reduceLE,Int.reduceNeg,Nat.reduceLT,lI,Int.reduceToNat,nU,jE,pz,mV,mX,mQ,mW,truncS,Option.map_none,Int.sub_zero,Nat.sub_zero,Int.toNat_sub,Int.ofNat_zero,List.drop_zero,List.take_length,Nat.add_sub_cancel,he]
  by_cases hr:es.length+1<=c
  ·have hd:decide ((c:Int)<((es.length+1:Nat):Int))=false:=by simp; omega
   simp -dsimp only [yF,fA.gm,fA.f,fA.rd,lH,jX,lvl,kK,reduceIte,Nat.reduceEqDiff,Nat.reduceAdd,Nat.reduceLeDiff,Nat.reduceBEq,reduceCtorEq,Int.reduceBNe,Int.reduceBEq,Int.reduceLT,Int.reduceLE,Int.reduceNeg,Nat.reduceLT,lI,Int.reduceToNat,nU,jE,pz,mV,mX,mQ,mW,truncS,Option.map_none,Int.sub_zero,Nat.sub_zero,Int.toNat_sub,Int.ofNat_zero,List.drop_zero,List.take_length,Nat.add_sub_cancel,hw,hd]
   repeat refine And.intro (by first | (show kW _ _ _ _=true; kernel_rfl) | (show jT _ _=true; kernel_rfl) | omega | assumption) ?_
   simp -dsimp only [yF,fA.gm,fA.f,fA.rd,lH,jX,lvl,kK,reduceIte,Nat.reduceEqDiff,Nat.reduceAdd,Nat.reduceLeDiff,Nat.reduceBEq,reduceCtorEq,Int.reduceBNe,Int.reduceBEq,Int.reduceLT,Int.reduceLE,Int.reduceNeg,Nat.reduceLT,lI,Int.reduceToNat,nU,jE,pz,mV,mX,mQ,mW,truncS,Option.map_none,Int.sub_zero,Nat.sub_zero,Int.toNat_sub,Int.ofNat_zero,List.drop_zero,List.take_length,Nat.add_sub_cancel,hw2]
   repeat refine And.intro (by first | (show kW _ _ _ _=true; kernel_rfl) | (show jT _ _=true; kernel_rfl) | omega | assumption) ?_
   refine And.intro (by simp; omega) ?_
   have e:=VD es v i (by omega)
   simp only [splice] at e
   rw [e]
   refine pX [] [(0,0),(1,1),(2,0)] [] (by rfl) ?_ ?_ ?_<;>(simp -dsimp only [KI,Cm,uB,reduceIte,Nat.reduceEqDiff,reduceCtorEq,Nat.reduceAdd,Nat.reduceLeDiff]<;>first | (simp [List.take_of_length_le]; done) | ((try simp only [List.map_take,List.map_drop,List.map_append,List.map_cons,List.map_nil])<;>(repeat' apply And.intro)<;>first | rfl | (simp; done) | (simp<;>omega; done) | (congr 1; exact (List.take_of_length_le (by simp<;>omega)).symm)))
  ·have hd:decide ((c:Int)<((es.length+1:Nat):Int))=true:=by simp; omega
   have hx:c<i+(es.length+1-i):=by omega
   simp -dsimp only [yF,fA.gm,fA.f,fA.rd,lH,jX,lvl,kK,reduceIte,Nat.reduceEqDiff,Nat.reduceAdd,Nat.reduceLeDiff,Nat.reduceBEq,reduceCtorEq,Int.reduceBNe,Int.reduceBEq,Int.reduceLT,Int.reduceLE,Int.reduceNeg,Nat.reduceLT,lI,Int.reduceToNat,nU,jE,pz,mV,mX,mQ,mW,truncS,Option.map_none,Int.sub_zero,Nat.sub_zero,Int.toNat_sub,Int.ofNat_zero,List.drop_zero,List.take_length,Nat.add_sub_cancel,hw,hd,hw2,hw3]
   repeat refine And.intro (by first | (show kW _ _ _ _=true; kernel_rfl) | (show jT _ _=true; kernel_rfl) | omega | assumption) ?_
   refine And.intro (by simp; omega) ?_
   repeat refine And.intro (by first | (show kW _ _ _ _=true; kernel_rfl) | (show jT _ _=true; kernel_rfl) | omega | assumption) ?_
   refine And.intro ⟨by omega,by simp; omega⟩ ?_
   repeat refine And.intro (by first | (show kW _ _ _ _=true; kernel_rfl) | (show jT _ _=true; kernel_rfl) | omega | assumption) ?_
   have e:=VE es v [.str []] i _ (by omega) rfl
   simp only [splice] at e
   have e0:i+(es.length+1-i)=es.length+1:=by omega
   rw [e,e0]
   refine pX [] [(0,0),(1,1),(2,11)] [] (by rfl) ?_ ?_ ?_<;>(simp -dsimp only [KI,Cm,uB,reduceIte,Nat.reduceEqDiff,reduceCtorEq,Nat.reduceAdd,Nat.reduceLeDiff]<;>first | (simp [List.take_of_length_le]; done) | ((try simp only [List.map_take,List.map_drop,List.map_append,List.map_cons,List.map_nil])<;>(repeat' apply And.intro)<;>first | rfl | (simp; done) | (simp<;>omega; done) | (congr 1; exact (List.take_of_length_le (by simp<;>omega)).symm)))
theorem F.dQ {n:Nat} : ∀ {ai:List aS} {uT:Int} {qm:List aS} {r:List aS},G.dQ n ai uT qm=some r ->
    iZ pZ 210 [.one (.own 0 ai.length 1),.one (wI uT),.one (.own 1 qm.length 1)] [.dat 1 (List.map cS ai),.dat 1 (List.map cS qm)]
      (fun r1 b1=>r1 = .one (.own 2 r.length 1)/\b1=[.dead,.dat 1 (List.map cS qm),.dat 1 (List.map cS r)]):=by
  intro s i v r h
  cases n with
  | zero=>simp only [G.dQ,reduceCtorEq] at h
  | succ n =>
    simp only [G.dQ] at h
    obtain ⟨⟨q1,q2,q3,q4⟩,h⟩:=oJ.1 h
    cases h
    obtain ⟨x,rfl⟩:=List.length_eq_one_iff.1 q3
    obtain ⟨k,rfl⟩:∃ k:Nat,i=k:=⟨i.toNat,by omega⟩
    refine xX (fun c hc => ?_)
    have hf:=FZ.dQ (es:=List.map cS s) (v:=cS x) (c:=c) (i:=k) (by simpa using hc) (by rw [List.length_map]; omega) (by rw [List.length_map]; exact q4)
    have e1:(List.take k s++[x]++List.drop k s).length=s.length+1:=by simp; omega
    rw [Int.toNat_natCast,e1]
    simpa using hf
theorem F.iO {n:Nat} : ∀ {oP aW bW r},G.iO n oP aW bW=some r->iZ pZ 174 [.one (.ptr 0 0),.one (wS aW),.agg (wN bW)] [.var [wI oP.Kind,wI oP.Num,wS oP.Text,.own 1 oP.Names.length 1,.own 2 oP.Kids.length 5],.dat 1 (List.map cS oP.Names),.dat 5 (List.map af.cells oP.Kids)] (fun r1 b1=>r1 = .nV []/\b1=[.var [wI r.Kind,wI r.Num,wS r.Text,.own 3 r.Names.length 1,.own 4 r.Kids.length 5],.dead,.dead,.dat 1 (List.map cS r.Names),.dat 5 (List.map af.cells r.Kids)]):=by
 intro oP aW bW r h
 refine kU K.iO (jZ ?_)
 unfold C.iO
 rcases n with _ | n<;>simp only [G.iO,reduceCtorEq] at h
 have z:=pp (pp @F.slices_BinarySearch_string ()) <| pp (pp (pp @F.dQ (@cG [1,11] [101])) <| pp (pp @F.bI (@cG [2,12] [102])) ()) <| pp () <| pp () <| pp () <| pp () <| (pp (@qx [] [(0,0),(1,1),(2,2),(3,1),(4,2)] []) <| pp (@qx [] [(0,0),(1,1),(2,2),(3,101),(4,102)] []) ())
 exact kQ
theorem F.fF {n:Nat} : ∀ {ag dU bW r},G.fF n ag dU bW=some r->aZ pZ 128 [.agg (wN ag),.one (wS dU),.agg (wN bW)] (.nV [(true,(wN r.1)),(false,[.c (.lit (.bool r.2))])]):=by
 intro ag dU bW r h
 refine aB K.fF (jZ ?_)
 unfold C.fF
 rcases n with _ | n<;>simp only [G.fF,reduceCtorEq] at h
 have z:=pp (pp @F.bG <| pp @F.strconv_Itoa ()) <| pp (pp (pp @F.lW (@cG [] [101,102])) <| pp (pp @F.lW (@cG [] [103,104])) <| pp (pp @F.iO (@cH [13,101,102] [105,106])) <| pp (pp @F.lW (@cG [] [112,113])) <| pp (pp @F.bI (@cG [111,14] [114])) ()) <| pp () <| pp (pp (@sQ (af × Int × Bool) _ (fun n x=>G.fF.K1 n bW x.1 x.2.1 x.2.2) r (fun x=>bZ.of [eP 5 107,eP 6 108,eP 8 109,eI 9 x.2.1,(10,.v true (.one (.c (.lit (.bool x.2.2)))))] [(107,.var (wN bW)),(108,.var zN),(109,.var [wI x.1.Kind,wI x.1.Num,wS x.1.Text,.own 110 x.1.Names.length 1,.own 111 x.1.Kids.length 5]),(110,.dat 1 (List.map cS x.1.Names)),(111,.dat 5 (List.map af.cells x.1.Kids))])) ()) <| pp (pp (And.intro @G.fF.K1.eq_1 <| @G.fF.K1.eq_2) ()) <| pp (pp (@bQ [] [(107,11),(108,12),(109,13),(110,101),(111,102)] []) ()) <| ()
 exact kQ
theorem F.kR {n:Nat} : ∀ {nN eY iJ nT r},G.kR n nN eY iJ nT=some r->iZ pZ 127 [.agg (wN nN),.one (.ptr 0 0),.one (.ptr 1 0),.one (.ptr 2 0)] [.var [wT eY],.var [wI iJ],.var (wN nT)] (fun r1 b1=>r1 = .nV [(true,(wN r.1)),(false,[.c (.lit (.bool r.2))])]/\b1=[.var [wT eY],.var [wI iJ],.var (wN nT)]):=by
 intro nN eY iJ nT r h
 refine kU K.kR (jZ ?_)
 unfold C.kR
 rcases n with _ | n<;>simp only [G.kR,reduceCtorEq] at h
 have z:=pp (pp @F.fF ()) <| pp () <| pp () <| pp () <| pp () <| pp () <| (pp (@qx [] [(0,0),(1,1),(2,2)] []) ())
 exact kQ
theorem F.bu {n:Nat} : ∀ {ai r},G.bu n ai=some r->aZ pZ 145 [.one (wS ai)] (.one (.c (.lit (.bool r)))):=by
 intro ai r h
 refine aB K.bu (jZ ?_)
 unfold C.bu
 rcases n with _ | n<;>simp only [G.bu,reduceCtorEq] at h
 have z:=pp () <| pp () <| pp (pp (@lQ (Int) _ (fun n x=>G.bu.L1 n ai x) r (fun x=>bZ.of [eS 0 ai,eI 3 x] [])) ()) <| pp () <| pp (pp (And.intro @G.bu.L1.eq_1 <| @G.bu.L1.eq_2) ()) <| pp (pp (@bQ [] [] []) ()) <| ()
 exact kQ
theorem F.dJ {n:Nat} : ∀ {l7 r},G.dJ n l7=some r->aZ pZ 199 [.one (wT l7)] (.one (.c (.lit (.bool r)))):=by
 intro l7 r h
 refine aB K.dJ (jZ ?_)
 unfold C.dJ
 rcases n with _ | n<;>simp only [G.dJ,reduceCtorEq] at h
 have z:=pp (pp @F.bu ()) <| pp () <| pp (pp (@lQ (Int) _ (fun n x=>G.dJ.L1 n l7 x) r (fun x=>bZ.of [eT 0 l7,eT 8 l7,eI 9 ((l7.length:Nat):Int),eI 10 x] [])) ()) <| pp () <| pp (pp (And.intro @G.dJ.L1.eq_1 <| @G.dJ.L1.eq_2) ()) <| pp (pp (@bQ [] [] []) ()) <| ()
 exact kQ
theorem F.aN {n:Nat} : ∀ {ag r},G.aN n ag=some r->aZ pZ 156 [.agg (wN ag)] (.one (.c (.lit (.bool r)))):=by
 intro ag r h
 refine aB K.aN (jZ ?_)
 unfold C.aN
 rcases n with _ | n<;>simp only [G.aN,reduceCtorEq] at h
 have z:=pp (pp @F.bu <| pp @F.dJ ()) <| pp () <| pp () <| pp (pp (@sQ (Unit) _ (fun n x=>G.aN.K1 n ag) r (fun x=>bZ.of [eP 1 101,(20,.v true (.one (.c (.lit (.bool false)))))] [(101,.var (wN ag))])) ()) <| pp (pp (And.intro @G.aN.K1.eq_1 <| @G.aN.K1.eq_2) ()) <| pp (pp (@bQ [] [(101,10)] []) ()) <| ()
 exact kQ
theorem F.yV:∀ (n:Nat),∀ {ag oh r},G.aF n ag oh=some r->aZ pZ 103 [.agg (wN ag),.one (wI oh)] (.nV [(false,[wI r.1]),(false,[wI r.2.1]),(false,[.c (.lit (.bool r.2.2))])]):=by
 intro n
 induction n using Nat.strongRecOn with | _ n ih =>
 intro ag oh r h
 refine aB K.aF (jZ ?_)
 unfold C.aF
 rcases n with _ | n<;>simp only [G.aF,reduceCtorEq] at h
 have z:=pp (pp ih <| pp @F.aN ()) <| pp () <| pp (pp (@lQ (Int × Int × Int) _ (fun n x=>G.aF.L1 n ag oh x.1 x.2.1 x.2.2) r (fun x=>bZ.of [eI 1 oh,eI 4 x.1,eI 5 x.2.1,(20,.v true (.one (wK ag.Kids))),eI 21 ((ag.Kids.length:Nat):Int),eI 22 x.2.2] [])) ()) <| pp () <| pp (pp (And.intro @G.aF.L1.eq_1 <| @G.aF.L1.eq_2) ()) <| pp (pp (@bQ [] [] []) ()) <| ()
 exact kQ
theorem F.aF {n:Nat} : ∀ {ag:af} {oh:Int} {r:Int × Int × Bool},G.aF n ag oh=some r->aZ pZ 103 [.agg (wN ag),.one (wI oh)] (.nV [(false,[wI r.1]),(false,[wI r.2.1]),(false,[.c (.lit (.bool r.2.2))])]):=F.yV n
theorem F.aC {n:Nat} : ∀ {ag r},G.aC n ag=some r->aZ pZ 57 [.agg (wN ag)] (.one (.c (.lit (.bool r)))):=by
 intro ag r h
 refine aB K.aC (jZ ?_)
 unfold C.aC
 rcases n with _ | n<;>simp only [G.aC,reduceCtorEq] at h
 have z:=pp (pp @F.aF ()) <| pp () <| pp () <| pp () <| pp () <| pp () <| ()
 exact kQ
theorem F.rJ:∀ (n:Nat),∀ {ag ah eY iJ nT r},G.dB n ag ah eY iJ nT=some r->iZ pZ 126 [.agg (wN ag),.one (wT ah),.one (.fn 127 [0,1,2])] [.var [wT eY],.var [wI iJ],.var (wN nT)] (fun r1 b1=>r1 = .nV [(true,(wN r.1)),(false,[.c (.lit (.bool r.2))])]/\b1=[.var [wT eY],.var [wI iJ],.var (wN nT)]):=by
 intro n
 induction n using Nat.strongRecOn with | _ n ih =>
 intro ag ah eY iJ nT r h
 refine kU K.dB (jZ ?_)
 unfold C.o8
 rcases n with _ | n<;>simp only [G.dB,reduceCtorEq] at h
 have z:=pp (pp @F.bG ()) <| pp (pp (pp ih (@cG [0,1,2] [])) <| pp (pp @F.kR (@cG [0,1,2] [])) <| pp (pp @F.lW (@cG [] [101,102])) ()) <| pp () <| pp () <| pp () <| pp () <| (pp (@qx [] [(0,0),(1,1),(2,2)] []) <| pp (@qx [101,102] [(0,0),(1,1),(2,2)] []) ())
 exact kQ
theorem F.dB {n:Nat} : ∀ {ag:af} {ah:List aS} {eY:List aS} {iJ:Int} {nT:af} {r:af × Bool},G.dB n ag ah eY iJ nT=some r->iZ pZ 126 [.agg (wN ag),.one (wT ah),.one (.fn 127 [0,1,2])] [.var [wT eY],.var [wI iJ],.var (wN nT)] (fun r1 b1=>r1 = .nV [(true,(wN r.1)),(false,[.c (.lit (.bool r.2))])]/\b1=[.var [wT eY],.var [wI iJ],.var (wN nT)]):=F.rJ n
theorem F.iM {n:Nat} : ∀ {ag xe r},G.iM n ag xe=some r->aZ pZ 125 [.agg (wN ag),.one (.c (.lit (.bool xe)))] (.nV [(true,(wN r.1)),(false,[.c (.lit (.bool r.2))])]):=by
 intro ag xe r h
 refine aB K.iM (jZ ?_)
 unfold C.iM
 rcases n with _ | n<;>simp only [G.iM,reduceCtorEq] at h
 have z:=pp (pp @F.aC ()) <| pp () <| pp () <| pp () <| pp () <| pp () <| ()
 exact kQ
theorem F.cO {n:Nat} : ∀ {ah r},G.cO n ah=some r->aZ pZ 90 [.one (wT ah)] (.one (.c (.lit (.bool r)))):=by
 intro ah r h
 refine aB K.cO (jZ ?_)
 unfold C.cO
 rcases n with _ | n<;>simp only [G.cO,reduceCtorEq] at h
 have z:=pp (pp @F.bu ()) <| pp () <| pp (pp (@lQ (Int) _ (fun n x=>G.cO.L1 n ah x) r (fun x=>bZ.of [eT 8 ah,eI 9 ((ah.length:Nat):Int),eI 10 x] [])) ()) <| pp () <| pp (pp (And.intro @G.cO.L1.eq_1 <| @G.cO.L1.eq_2) ()) <| pp (pp (@bQ [] [] []) ()) <| ()
 exact kQ
theorem F.gY {n:Nat} : ∀ {ag ah bW r},G.gY n ag ah bW=some r->aZ pZ 71 [.agg (wN ag),.one (wT ah),.agg (wN bW)] (.nV [(true,(wN r.1)),(false,[.c (.lit (.bool r.2))])]):=by
 intro ag ah bW r h
 refine aB K.gY (jZ ?_)
 unfold C.gY
 rcases n with _ | n<;>simp only [G.gY,reduceCtorEq] at h
 have z:=pp (pp @F.aC <| pp @F.cO <| pp @F.au <| pp @F.iM ()) <| pp (pp (pp @F.dB (@cG [11,14,12] [])) ()) <| pp () <| pp () <| pp () <| pp () <| ()
 exact kQ
theorem F.dX {n:Nat} : ∀ {ag ah r},G.dX n ag ah=some r->aZ pZ 91 [.agg (wN ag),.one (wT ah)] (.nV [(true,(wN r.1)),(false,[.c (.lit (.bool r.2))])]):=by
 intro ag ah r h
 refine aB K.dX (jZ ?_)
 unfold C.dX
 rcases n with _ | n<;>simp only [G.dX,reduceCtorEq] at h
 have z:=pp (pp @F.bG ()) <| pp () <| pp (pp (@lQ (Int × Int × Int × aS × List aS × List af) _ (fun n x=>G.dX.L1 n ah x.1 x.2.1 x.2.2.1 x.2.2.2.1 x.2.2.2.2.1 x.2.2.2.2.2) r (fun x=>bZ.of [eP 2 105,eP 4 106,eT 10 ah,eI 11 ((ah.length:Nat):Int),eI 12 x.1] [(105,.var [wI x.2.1,wI x.2.2.1,wS x.2.2.2.1,wT x.2.2.2.2.1,wK x.2.2.2.2.2]),(106,.var zN)])) ()) <| pp () <| pp (pp (And.intro @G.dX.L1.eq_1 <| @G.dX.L1.eq_2) ()) <| pp (pp (@bQ [] [(105,10),(106,11)] []) <| pp (@bQ [] [(105,105),(106,106)] []) ()) <| ()
 exact kQ
theorem F.kH {n:Nat} : ∀ {ag ah r},G.kH n ag ah=some r->aZ pZ 75 [.agg (wN ag),.one (wT ah)] (.nV [(true,(wN r.1)),(false,[.c (.lit (.bool r.2))])]):=by
 intro ag ah r h
 refine aB K.kH (jZ ?_)
 unfold C.kH
 rcases n with _ | n<;>simp only [G.kH,reduceCtorEq] at h
 have z:=pp (pp @F.aC <| pp @F.cO <| pp @F.dX <| pp @F.au ()) <| pp () <| pp () <| pp () <| pp () <| pp () <| ()
 exact kQ
theorem FZ.bU {es:List (List Cell)} {c i j:Nat} (hc:es.length<=c) (hi:i<j) (hj:j<=es.length) (hb:es.length*86<=2^46) :
  iZ pZ 132 [.one (.sub 0 0 es.length (some c) 5),.one (wI (i:Int)),.one (wI (j:Int))] [.dat 5 es]
   (fun r1 b1=>r1 = .one (.own 1 (i+(es.length-j)) 5)/\b1=[.dead,.dat 5 (es.take i++es.drop j)]):=by
 refine kU K.bU (jZ ?_)
 unfold C.bU
 have he:(((i:Nat):Int)==((j:Nat):Int))=false:=by simp; omega
 have ht:List.take (es.length-j) (List.drop j es)=List.drop j es:=List.take_of_length_le (by simp)
 have hr:i+(es.length-j)<=c:=by omega
 simp -dsimp only [yF,fA.gm,fA.f,fA.rd,lH,jX,lvl,kK,reduceIte,Nat.reduceEqDiff,Nat.reduceAdd,Nat.reduceLeDiff,Nat.reduceBEq,reduceCtorEq,Int.reduceBNe,Int.reduceBEq,Int.reduceLT,Int.reduceLE,Int.reduceNeg,Nat.reduceLT,lI,Int.reduceToNat,nU,jE,pz,mV,mX,mQ,mW,truncS,Option.map_none,Int.sub_zero,Nat.sub_zero,Int.toNat_sub,Int.ofNat_zero,List.drop_zero,List.take_length,Nat.add_sub_cancel,he]
 repeat refine And.intro (by first | (show kW _ _ _ _=true; kernel_rfl) | (show jT _ _=true; kernel_rfl) | omega | assumption) ?_
 simp -dsimp only [yF,fA.gm,fA.f,fA.rd,lH,jX,lvl,kK,reduceIte,Nat.reduceEqDiff,Nat.reduceAdd,Nat.reduceLeDiff,Nat.reduceBEq,reduceCtorEq,Int.reduceBNe,Int.reduceBEq,Int.reduceLT,Int.reduceLE,Int.reduceNeg,Nat.reduceLT,lI,Int.reduceToNat,nU,jE,pz,mV,mX,mQ,mW,truncS,Option.map_none,Int.sub_zero,Nat.sub_zero,Int.toNat_sub,Int.ofNat_zero,List.drop_zero,List.take_length,Nat.add_sub_cancel,ht,List.length_drop,hr]
 repeat refine And.intro (by first | (show kW _ _ _ _=true; kernel_rfl) | (show jT _ _=true; kernel_rfl) | omega | assumption) ?_
 refine And.intro (by simp; omega) ?_
 have e4:(List.take i es).length=i:=by simp; omega
 have e:List.take (i+(es.length-j)) (List.take i es++List.drop j es++List.drop (i+(es.length-j)) es)=List.take i es++List.drop j es:=by
  have e5:(List.take i es++List.drop j es).length=i+(es.length-j):=by rw [List.length_append,e4,List.length_drop]
  rw [List.take_append_of_le_length (by omega),List.take_of_length_le (by omega)]
 rw [e,List.append_assoc]
 generalize List.replicate (es.length-(i+(es.length-j))) [.lit (.int .i64 0),.lit (.int .i64 0),.str [],.sl 1 [],.sl 5 []]++List.drop (i+(es.length-j)+(es.length-(i+(es.length-j)))) (List.take i es++List.drop j es++List.drop (i+(es.length-j)) es)=T
 generalize List.take i es++List.drop j es=A
 refine pX [] [(0,0),(1,0)] [] (by rfl) ?_ ?_ ?_<;>(simp -dsimp only [KI,Cm,uB,reduceIte,Nat.reduceEqDiff,reduceCtorEq,Nat.reduceAdd,Nat.reduceLeDiff]<;>first | (simp [List.take_of_length_le]; done) | ((try simp only [List.map_take,List.map_drop,List.map_append,List.map_cons,List.map_nil])<;>(repeat' apply And.intro)<;>first | rfl | (simp; done) | (simp<;>omega; done) | (congr 1; exact (List.take_of_length_le (by simp<;>omega)).symm)))
theorem F.bU {n:Nat} : ∀ {ai:List af} {uT:Int} {Jd:Int} {r:List af},G.bU n ai uT Jd=some r ->
    iZ pZ 132 [.one (.own 0 ai.length 5),.one (wI uT),.one (wI Jd)] [.dat 5 (List.map af.cells ai)]
      (fun r1 b1=>r1 = .one (.own 1 r.length 5)/\b1=[.dead,.dat 5 (List.map af.cells r)]):=by
  intro s i j r h
  cases n with
  | zero=>simp only [G.bU,reduceCtorEq] at h
  | succ n =>
    simp only [G.bU] at h
    obtain ⟨⟨q1,q2,q3,q4⟩,h⟩:=oJ.1 h
    cases h
    obtain ⟨k,rfl⟩:∃ k:Nat,i=k:=⟨i.toNat,by omega⟩
    obtain ⟨l,rfl⟩:∃ l:Nat,j=l:=⟨j.toNat,by omega⟩
    refine xX (fun c hc => ?_)
    have hf:=FZ.bU (es:=List.map af.cells s) (c:=c) (i:=k) (j:=l) (by simpa using hc) (by omega) (by rw [List.length_map]; omega) (by rw [List.length_map]; exact q4)
    have e1:(List.take k s++List.drop l s).length=k+(s.length-l):=by simp; omega
    rw [Int.toNat_natCast,Int.toNat_natCast,e1]
    simpa using hf
theorem FZ.slices_Delete_string {es:List (List Cell)} {c i j:Nat} (hc:es.length<=c) (hi:i<j) (hj:j<=es.length) (hb:es.length*18<=2^46) :
  iZ pZ 131 [.one (.sub 0 0 es.length (some c) 1),.one (wI (i:Int)),.one (wI (j:Int))] [.dat 1 es]
   (fun r1 b1=>r1 = .one (.own 1 (i+(es.length-j)) 1)/\b1=[.dead,.dat 1 (es.take i++es.drop j)]):=by
 refine kU K.slices_Delete_string (jZ ?_)
 unfold C.slices_Delete_string
 have he:(((i:Nat):Int)==((j:Nat):Int))=false:=by simp; omega
 have ht:List.take (es.length-j) (List.drop j es)=List.drop j es:=List.take_of_length_le (by simp)
 have hr:i+(es.length-j)<=c:=by omega
 simp -dsimp only [yF,fA.gm,fA.f,fA.rd,lH,jX,lvl,kK,reduceIte,Nat.reduceEqDiff,Nat.reduceAdd,Nat.reduceLeDiff,Nat.reduceBEq,reduceCtorEq,Int.reduceBNe,Int.reduceBEq,Int.reduceLT,Int.reduceLE,Int.reduceNeg,Nat.reduceLT,lI,Int.reduceToNat,nU,jE,pz,mV,mX,mQ,mW,truncS,Option.map_none,Int.sub_zero,Nat.sub_zero,Int.toNat_sub,Int.ofNat_zero,List.drop_zero,List.take_length,Nat.add_sub_cancel,he]
 repeat refine And.intro (by first | (show kW _ _ _ _=true; kernel_rfl) | (show jT _ _=true; kernel_rfl) | omega | assumption) ?_
 simp -dsimp only [yF,fA.gm,fA.f,fA.rd,lH,jX,lvl,kK,reduceIte,Nat.reduceEqDiff,Nat.reduceAdd,Nat.reduceLeDiff,Nat.reduceBEq,reduceCtorEq,Int.reduceBNe,Int.reduceBEq,Int.reduceLT,Int.reduceLE,Int.reduceNeg,Nat.reduceLT,lI,Int.reduceToNat,nU,jE,pz,mV,mX,mQ,mW,truncS,Option.map_none,Int.sub_zero,Nat.sub_zero,Int.toNat_sub,Int.ofNat_zero,List.drop_zero,List.take_length,Nat.add_sub_cancel,ht,List.length_drop,hr]
 repeat refine And.intro (by first | (show kW _ _ _ _=true; kernel_rfl) | (show jT _ _=true; kernel_rfl) | omega | assumption) ?_
 refine And.intro (by simp; omega) ?_
 have e4:(List.take i es).length=i:=by simp; omega
 have e:List.take (i+(es.length-j)) (List.take i es++List.drop j es++List.drop (i+(es.length-j)) es)=List.take i es++List.drop j es:=by
  have e5:(List.take i es++List.drop j es).length=i+(es.length-j):=by rw [List.length_append,e4,List.length_drop]
  rw [List.take_append_of_le_length (by omega),List.take_of_length_le (by omega)]
 rw [e,List.append_assoc]
 generalize List.replicate (es.length-(i+(es.length-j))) [.str []]++List.drop (i+(es.length-j)+(es.length-(i+(es.length-j)))) (List.take i es++List.drop j es++List.drop (i+(es.length-j)) es)=T
 generalize List.take i es++List.drop j es=A
 refine pX [] [(0,0),(1,0)] [] (by rfl) ?_ ?_ ?_<;>(simp -dsimp only [KI,Cm,uB,reduceIte,Nat.reduceEqDiff,reduceCtorEq,Nat.reduceAdd,Nat.reduceLeDiff]<;>first | (simp [List.take_of_length_le]; done) | ((try simp only [List.map_take,List.map_drop,List.map_append,List.map_cons,List.map_nil])<;>(repeat' apply And.intro)<;>first | rfl | (simp; done) | (simp<;>omega; done) | (congr 1; exact (List.take_of_length_le (by simp<;>omega)).symm)))
theorem F.slices_Delete_string {n:Nat} : ∀ {ai:List aS} {uT:Int} {Jd:Int} {r:List aS},G.slices_Delete_string n ai uT Jd=some r ->
    iZ pZ 131 [.one (.own 0 ai.length 1),.one (wI uT),.one (wI Jd)] [.dat 1 (List.map cS ai)]
      (fun r1 b1=>r1 = .one (.own 1 r.length 1)/\b1=[.dead,.dat 1 (List.map cS r)]):=by
  intro s i j r h
  cases n with
  | zero=>simp only [G.slices_Delete_string,reduceCtorEq] at h
  | succ n =>
    simp only [G.slices_Delete_string] at h
    obtain ⟨⟨q1,q2,q3,q4⟩,h⟩:=oJ.1 h
    cases h
    obtain ⟨k,rfl⟩:∃ k:Nat,i=k:=⟨i.toNat,by omega⟩
    obtain ⟨l,rfl⟩:∃ l:Nat,j=l:=⟨j.toNat,by omega⟩
    refine xX (fun c hc => ?_)
    have hf:=FZ.slices_Delete_string (es:=List.map cS s) (c:=c) (i:=k) (j:=l) (by simpa using hc) (by omega) (by rw [List.length_map]; omega) (by rw [List.length_map]; exact q4)
    have e1:(List.take k s++List.drop l s).length=k+(s.length-l):=by simp; omega
    rw [Int.toNat_natCast,Int.toNat_natCast,e1]
    simpa using hf
theorem F.dh {n:Nat} : ∀ {nN eY iJ r},G.dh n nN eY iJ=some r->iZ pZ 129 [.agg (wN nN),.one (.ptr 0 0),.one (.ptr 1 0)] [.var [wT eY],.var [wI iJ]] (fun r1 b1=>r1 = .nV [(true,(wN r.1)),(false,[.c (.lit (.bool r.2))])]/\b1=[.var [wT eY],.var [wI iJ]]):=by
 intro nN eY iJ r h
 refine kU K.dh (jZ ?_)
 unfold C.dh
 rcases n with _ | n<;>simp only [G.dh,reduceCtorEq] at h
 have z:=pp (pp @F.bG ()) <| pp (pp (pp @F.lW (@cG [] [101,102])) <| pp (pp @F.slices_Delete_string (@cG [101] [109])) <| pp (pp @F.bU (@cG [107] [108])) ()) <| pp () <| pp (pp (@sQ ((Int × Bool) × af × List aS) _ (fun n x=>G.dh.K1 n x.1 x.2.1 x.2.2) r (fun x=>bZ.of [eP 4 104,eI 6 x.1.1,eP 8 105] [(0,.var [wT eY]),(1,.var [wI iJ]),(104,.var zN),(105,.var [wI x.2.1.Kind,wI x.2.1.Num,wS x.2.1.Text,.own 106 x.2.2.length 1,.own 107 x.2.1.Kids.length 5]),(106,.dat 1 (List.map cS x.2.2)),(107,.dat 5 (List.map af.cells x.2.1.Kids))])) ()) <| pp (pp (And.intro @G.dh.K1.eq_1 <| @G.dh.K1.eq_2) ()) <| pp (pp (@bQ [] [(0,0),(1,1),(104,11),(105,12),(106,109),(107,102)] []) <| pp (@bQ [] [(0,0),(1,1),(104,11),(105,12),(106,101),(107,102)] []) ()) <| (pp (@qx [106,108] [(0,0),(1,1)] []) <| pp (@qx [] [(0,0),(1,1)] []) ())
 exact kQ
theorem F.qo:∀ (n:Nat),∀ {ag ah eY iJ r},G.cu n ag ah eY iJ=some r->iZ pZ 126 [.agg (wN ag),.one (wT ah),.one (.fn 129 [0,1])] [.var [wT eY],.var [wI iJ]] (fun r1 b1=>r1 = .nV [(true,(wN r.1)),(false,[.c (.lit (.bool r.2))])]/\b1=[.var [wT eY],.var [wI iJ]]):=by
 intro n
 induction n using Nat.strongRecOn with | _ n ih =>
 intro ag ah eY iJ r h
 refine kU K.cu (jZ ?_)
 unfold C.o8
 rcases n with _ | n<;>simp only [G.cu,reduceCtorEq] at h
 have z:=pp (pp @F.bG ()) <| pp (pp (pp ih (@cG [0,1] [])) <| pp (pp @F.dh (@cG [0,1] [])) <| pp (pp @F.lW (@cG [] [101,102])) ()) <| pp () <| pp () <| pp () <| pp () <| (pp (@qx [] [(0,0),(1,1)] []) <| pp (@qx [101,102] [(0,0),(1,1)] []) ())
 exact kQ
theorem F.cu {n:Nat} : ∀ {ag:af} {ah:List aS} {eY:List aS} {iJ:Int} {r:af × Bool},G.cu n ag ah eY iJ=some r->iZ pZ 126 [.agg (wN ag),.one (wT ah),.one (.fn 129 [0,1])] [.var [wT eY],.var [wI iJ]] (fun r1 b1=>r1 = .nV [(true,(wN r.1)),(false,[.c (.lit (.bool r.2))])]/\b1=[.var [wT eY],.var [wI iJ]]):=F.qo n
theorem F.fJ {n:Nat} : ∀ {ag ah r},G.fJ n ag ah=some r->aZ pZ 72 [.agg (wN ag),.one (wT ah)] (.nV [(true,(wN r.1)),(false,[.c (.lit (.bool r.2))])]):=by
 intro ag ah r h
 refine aB K.fJ (jZ ?_)
 unfold C.fJ
 rcases n with _ | n<;>simp only [G.fJ,reduceCtorEq] at h
 have z:=pp (pp @F.aC <| pp @F.cO ()) <| pp (pp (pp @F.cu (@cG [11,13] [])) ()) <| pp () <| pp () <| pp () <| pp () <| ()
 exact kQ
theorem F.kS {n:Nat} : ∀ {ax eY r},G.kS n ax eY=some r->iZ pZ 133 [.agg (wN ax),.one (.ptr 0 0)] [.var (wN eY)] (fun r1 b1=>r1 = .nV [(true,(wN r.1)),(false,[.c (.lit (.bool r.2))])]/\b1=[.var (wN eY)]):=by
 intro ax eY r h
 refine kU K.kS (jZ ?_)
 unfold C.kS
 rcases n with _ | n<;>simp only [G.kS,reduceCtorEq] at h
 have z:=pp (pp @F.au ()) <| pp () <| pp () <| pp () <| pp () <| pp () <| (pp (@qx [] [(0,0)] []) ())
 exact kQ
theorem F.rM:∀ (n:Nat),∀ {ag ah eY r},G.dD n ag ah eY=some r->iZ pZ 126 [.agg (wN ag),.one (wT ah),.one (.fn 133 [0])] [.var (wN eY)] (fun r1 b1=>r1 = .nV [(true,(wN r.1)),(false,[.c (.lit (.bool r.2))])]/\b1=[.var (wN eY)]):=by
 intro n
 induction n using Nat.strongRecOn with | _ n ih =>
 intro ag ah eY r h
 refine kU K.dD (jZ ?_)
 unfold C.o8
 rcases n with _ | n<;>simp only [G.dD,reduceCtorEq] at h
 have z:=pp (pp @F.bG ()) <| pp (pp (pp ih (@cG [0] [])) <| pp (pp @F.kS (@cG [0] [])) <| pp (pp @F.lW (@cG [] [101,102])) ()) <| pp () <| pp () <| pp () <| pp () <| (pp (@qx [] [(0,0)] []) <| pp (@qx [101,102] [(0,0)] []) ())
 exact kQ
theorem F.dD {n:Nat} : ∀ {ag:af} {ah:List aS} {eY:af} {r:af × Bool},G.dD n ag ah eY=some r->iZ pZ 126 [.agg (wN ag),.one (wT ah),.one (.fn 133 [0])] [.var (wN eY)] (fun r1 b1=>r1 = .nV [(true,(wN r.1)),(false,[.c (.lit (.bool r.2))])]/\b1=[.var (wN eY)]):=F.rM n
theorem F.lC {n:Nat} : ∀ {ag ah bW r},G.lC n ag ah bW=some r->aZ pZ 73 [.agg (wN ag),.one (wT ah),.agg (wN bW)] (.nV [(true,(wN r.1)),(false,[.c (.lit (.bool r.2))])]):=by
 intro ag ah bW r h
 refine aB K.lC (jZ ?_)
 unfold C.lC
 rcases n with _ | n<;>simp only [G.lC,reduceCtorEq] at h
 have z:=pp (pp @F.aC <| pp @F.cO <| pp @F.iM ()) <| pp (pp (pp @F.dD (@cG [11] [])) ()) <| pp () <| pp () <| pp () <| pp () <| ()
 exact kQ
theorem F.kV {n:Nat} : ∀ {gy r},G.kV n gy=some r->aZ pZ 70 [.agg [wI gy.Kind,wT gy.Path,wT gy.From,wI gy.Value.Kind,wI gy.Value.Num,wS gy.Value.Text,wT gy.Value.Names,wK gy.Value.Kids]] (.one (.c (.lit (.bool r)))):=by
 intro gy r h
 refine aB K.kV (jZ ?_)
 unfold C.kV
 rcases n with _ | n<;>simp only [G.kV,reduceCtorEq] at h
 have z:=pp (pp @F.cO <| pp @F.aC ()) <| pp () <| pp () <| pp () <| pp () <| pp () <| ()
 exact kQ
theorem F.slices_Equal_string {n:Nat} : ∀ {uw wM r},G.slices_Equal_string n uw wM=some r->aZ pZ 134 [.one (wT uw),.one (wT wM)] (.one (.c (.lit (.bool r)))):=by
 intro uw wM r h
 refine aB K.slices_Equal_string (jZ ?_)
 unfold C.slices_Equal_string
 rcases n with _ | n<;>simp only [G.slices_Equal_string,reduceCtorEq] at h
 have z:=pp () <| pp () <| pp (pp (@lQ (Int) _ (fun n x=>G.slices_Equal_string.L1 n uw wM x) r (fun x=>bZ.of [eT 0 uw,eT 1 wM,eI 12 ((uw.length:Nat):Int),eI 13 x] [])) ()) <| pp () <| pp (pp (And.intro @G.slices_Equal_string.L1.eq_1 <| @G.slices_Equal_string.L1.eq_2) ()) <| pp (pp (@bQ [] [] []) ()) <| ()
 exact kQ
theorem F.kE {n:Nat} : ∀ {ag pO ah r},G.kE n ag pO ah=some r->aZ pZ 74 [.agg (wN ag),.one (wT pO),.one (wT ah)] (.nV [(true,(wN r.1)),(false,[.c (.lit (.bool r.2))])]):=by
 intro ag pO ah r h
 refine aB K.kE (jZ ?_)
 unfold C.kE
 rcases n with _ | n<;>simp only [G.kE,reduceCtorEq] at h
 have z:=pp (pp @F.kH <| pp @F.slices_Equal_string <| pp @F.au <| pp @F.fJ <| pp @F.gY ()) <| pp () <| pp () <| pp () <| pp () <| pp () <| ()
 exact kQ
theorem F.bT {n:Nat} : ∀ {ax bH r},G.bT n ax bH=some r->aZ pZ 149 [.one (wS ax),.one (wS bH)] (.one (wI r)):=by
 intro ax bH r h
 refine aB K.bT (jZ ?_)
 unfold C.bT
 rcases n with _ | n<;>simp only [G.bT,reduceCtorEq] at h
 have z:=pp () <| pp () <| pp () <| pp () <| pp () <| pp () <| ()
 exact kQ
theorem F.strings_Compare {n:Nat} : ∀ {ax bH r},G.strings_Compare n ax bH=some r->aZ pZ 96 [.one (wS ax),.one (wS bH)] (.one (wI r)):=by
 intro ax bH r h
 refine aB K.strings_Compare (jZ ?_)
 unfold C.strings_Compare
 rcases n with _ | n<;>simp only [G.strings_Compare,reduceCtorEq] at h
 have z:=pp (pp @F.bT ()) <| pp () <| pp () <| pp () <| pp () <| pp () <| ()
 exact kQ
theorem F.yB:∀ (n:Nat),∀ {ax bH r},G.aJ n ax bH=some r->aZ pZ 95 [.agg (wN ax),.agg (wN bH)] (.one (wI r)):=by
 intro n
 induction n using Nat.strongRecOn with | _ n ih =>
 intro ax bH r h
 refine aB K.aJ (jZ ?_)
 unfold C.aJ
 rcases n with _ | n<;>simp only [G.aJ,reduceCtorEq] at h
 have z:=pp (pp ih <| pp @F.cmp_Compare_int <| pp @F.strings_Compare ()) <| pp () <| pp (pp (@lQ (Int) _ (fun n x=>G.aJ.L3 n ax bH x) r (fun x=>bZ.of [eP 2 109,eP 3 110,eI 8 x] [(109,.var (wN ax)),(110,.var (wN bH))])) ()) <| pp (pp (@sQ (Int) _ (fun n x=>G.aJ.K4 n ax bH x) r (fun x=>bZ.of [eP 2 111,eP 3 112,eI 8 x] [(111,.var (wN ax)),(112,.var (wN bH))])) ()) <| pp (pp (And.intro @G.aJ.L3.eq_1 <| And.intro @G.aJ.L3.eq_2 <| And.intro @G.aJ.K4.eq_1 <| @G.aJ.K4.eq_2) ()) <| pp (pp (@bQ [] [(109,10),(110,11)] []) <| pp (@bQ [] [(111,109),(112,110)] []) <| pp (@bQ [] [(109,111),(110,112)] []) ()) <| ()
 exact kQ
theorem F.aJ {n:Nat} : ∀ {ax:af} {bH:af} {r:Int},G.aJ n ax bH=some r->aZ pZ 95 [.agg (wN ax),.agg (wN bH)] (.one (wI r)):=F.yB n
theorem F.kF {n:Nat} : ∀ {ax bH r},G.kF n ax bH=some r->aZ pZ 82 [.agg (wN ax),.agg (wN bH)] (.one (.c (.lit (.bool r)))):=by
 intro ax bH r h
 refine aB K.kF (jZ ?_)
 unfold C.kF
 rcases n with _ | n<;>simp only [G.kF,reduceCtorEq] at h
 have z:=pp (pp @F.aJ ()) <| pp () <| pp () <| pp () <| pp () <| pp () <| ()
 exact kQ
theorem F.jJ {n:Nat} : ∀ {ag ah bW r},G.jJ n ag ah bW=some r->aZ pZ 76 [.agg (wN ag),.one (wT ah),.agg (wN bW)] (.nV [(true,(wN r.1)),(false,[.c (.lit (.bool r.2))])]):=by
 intro ag ah bW r h
 refine aB K.jJ (jZ ?_)
 unfold C.jJ
 rcases n with _ | n<;>simp only [G.jJ,reduceCtorEq] at h
 have z:=pp (pp @F.dX <| pp @F.kF <| pp @F.au ()) <| pp () <| pp () <| pp () <| pp () <| pp () <| ()
 exact kQ
theorem F.lg {n:Nat} : ∀ {ag gy r},G.lg n ag gy=some r->aZ pZ 29 [.agg (wN ag),.agg [wI gy.Kind,wT gy.Path,wT gy.From,wI gy.Value.Kind,wI gy.Value.Num,wS gy.Value.Text,wT gy.Value.Names,wK gy.Value.Kids]] (.nV [(true,(wN r.1)),(false,[.c (.lit (.bool r.2))])]):=by
 intro ag gy r h
 refine aB K.lg (jZ ?_)
 unfold C.lg
 rcases n with _ | n<;>simp only [G.lg,reduceCtorEq] at h
 have z:=pp (pp @F.aC <| pp @F.kV <| pp @F.gY <| pp @F.fJ <| pp @F.lC <| pp @F.kE <| pp @F.kH <| pp @F.jJ ()) <| pp () <| pp () <| pp () <| pp () <| pp () <| ()
 exact kQ
theorem F.aT {n:Nat} : ∀ {aA r},G.aT n aA=some r->aZ pZ 58 [.one (.c (.sl 8 (List.map jq.cells aA)))] (.one (.c (.lit (.bool r)))):=by
 intro aA r h
 refine aB K.aT (jZ ?_)
 unfold C.aT
 rcases n with _ | n<;>simp only [G.aT,reduceCtorEq] at h
 have z:=pp (pp @F.kV ()) <| pp () <| pp (pp (@lQ (Int) _ (fun n x=>G.aT.L1 n aA x) r (fun x=>bZ.of [(8,.v true (.one (.c (.sl 8 (List.map jq.cells aA))))),eI 9 ((aA.length:Nat):Int),eI 10 x] [])) ()) <| pp () <| pp (pp (And.intro @G.aT.L1.eq_1 <| @G.aT.L1.eq_2) ()) <| pp (pp (@bQ [] [] []) ()) <| ()
 exact kQ
theorem F.dY {n:Nat} : ∀ {ag aA r},G.dY n ag aA=some r->aZ pZ 59 [.agg (wN ag),.one (.c (.sl 8 (List.map jq.cells aA)))] (.nV [(true,(wN r.1)),(false,[wI r.2])]):=by
 intro ag aA r h
 refine aB K.dY (jZ ?_)
 unfold C.dY
 rcases n with _ | n<;>simp only [G.dY,reduceCtorEq] at h
 have z:=pp (pp @F.au <| pp @F.lg ()) <| pp () <| pp (pp (@lQ (Int × Int × Int × aS × List aS × List af) _ (fun n x=>G.dY.L1 n aA x.1 x.2.1 x.2.2.1 x.2.2.2.1 x.2.2.2.2.1 x.2.2.2.2.2) r (fun x=>bZ.of [(1,.v true (.one (.c (.sl 8 (List.map jq.cells aA))))),eP 4 105,eP 6 106,(13,.v true (.one (.c (.sl 8 (List.map jq.cells aA))))),eI 14 ((aA.length:Nat):Int),eI 15 x.1] [(105,.var zN),(106,.var [wI x.2.1,wI x.2.2.1,wS x.2.2.2.1,wT x.2.2.2.2.1,wK x.2.2.2.2.2])])) ()) <| pp () <| pp (pp (And.intro @G.dY.L1.eq_1 <| @G.dY.L1.eq_2) ()) <| pp (pp (@bQ [] [(105,11),(106,12)] []) <| pp (@bQ [] [(105,105),(106,106)] []) ()) <| ()
 exact kQ
theorem F.dM {n:Nat} : ∀ {ax bH r},G.dM n ax bH=some r->aZ pZ 47 [.one (wT ax),.one (wT bH)] (.one (.c (.lit (.bool r)))):=by
 intro ax bH r h
 refine aB K.dM (jZ ?_)
 unfold C.dM
 rcases n with _ | n<;>simp only [G.dM,reduceCtorEq] at h
 have z:=pp () <| pp () <| pp (pp (@lQ (Int) _ (fun n x=>G.dM.L1 n ax bH x) r (fun x=>bZ.of [eT 0 ax,eT 1 bH,eI 5 x] [])) ()) <| pp () <| pp (pp (And.intro @G.dM.L1.eq_1 <| @G.dM.L1.eq_2) ()) <| pp (pp (@bQ [] [] []) ()) <| ()
 exact kQ
theorem F.Dv:∀ (n:Nat),(∀ {ax bH r},G.jh n ax bH=some r->aZ pZ 16 [.agg (wN ax),.agg (wN bH)] (.one (.c (.lit (.bool r)))))/\(∀ {ax bH r},G.jb n ax bH=some r->aZ pZ 60 [.one (wK ax),.one (wK bH)] (.one (.c (.lit (.bool r))))):=by
 intro n
 induction n using Nat.strongRecOn with | _ n ih =>
 refine ⟨?_,?_⟩
 ·intro ax bH r h
  refine aB K.jh (jZ ?_)
  unfold C.jh
  rcases n with _ | n<;>simp only [G.jh,reduceCtorEq] at h
  have z:=pp (pp ((ihR ih)) <| pp @F.dM ()) <| pp () <| pp () <| pp () <| pp () <| pp () <| ()
  exact kQ
 ·intro ax bH r h
  refine aB K.jb (jZ ?_)
  unfold C.jb
  rcases n with _ | n<;>simp only [G.jb,reduceCtorEq] at h
  have z:=pp (pp ((ihL ih)) ()) <| pp () <| pp (pp (@lQ (Int) _ (fun n x=>G.jb.L1 n ax bH x) r (fun x=>bZ.of [(0,.v true (.one (wK ax))),(1,.v true (.one (wK bH))),eI 5 x] [])) ()) <| pp () <| pp (pp (And.intro @G.jb.L1.eq_1 <| @G.jb.L1.eq_2) ()) <| pp (pp (@bQ [] [] []) ()) <| ()
  exact kQ
theorem F.jh {n:Nat} : ∀ {ax:af} {bH:af} {r:Bool},G.jh n ax bH=some r->aZ pZ 16 [.agg (wN ax),.agg (wN bH)] (.one (.c (.lit (.bool r)))):=(F.Dv n).1
theorem F.nZ {n:Nat} : ∀ {ax bH r},G.nZ n ax bH=some r->aZ pZ 30 [.agg [wI ax.Kind,wT ax.Path,wT ax.From,wI ax.Value.Kind,wI ax.Value.Num,wS ax.Value.Text,wT ax.Value.Names,wK ax.Value.Kids],.agg [wI bH.Kind,wT bH.Path,wT bH.From,wI bH.Value.Kind,wI bH.Value.Num,wS bH.Value.Text,wT bH.Value.Names,wK bH.Value.Kids]] (.one (.c (.lit (.bool r)))):=by
 intro ax bH r h
 refine aB K.nZ (jZ ?_)
 unfold C.nZ
 rcases n with _ | n<;>simp only [G.nZ,reduceCtorEq] at h
 have z:=pp (pp @F.dM <| pp @F.jh ()) <| pp () <| pp () <| pp () <| pp () <| pp () <| ()
 exact kQ
theorem F.jv {n:Nat} : ∀ {ax bH r},G.jv n ax bH=some r->aZ pZ 17 [.one (.c (.sl 8 (List.map jq.cells ax))),.one (.c (.sl 8 (List.map jq.cells bH)))] (.one (.c (.lit (.bool r)))):=by
 intro ax bH r h
 refine aB K.jv (jZ ?_)
 unfold C.jv
 rcases n with _ | n<;>simp only [G.jv,reduceCtorEq] at h
 have z:=pp (pp @F.nZ ()) <| pp () <| pp (pp (@lQ (Int) _ (fun n x=>G.jv.L1 n ax bH x) r (fun x=>bZ.of [(0,.v true (.one (.c (.sl 8 (List.map jq.cells ax))))),(1,.v true (.one (.c (.sl 8 (List.map jq.cells bH))))),eI 5 x] [])) ()) <| pp () <| pp (pp (And.intro @G.jv.L1.eq_1 <| @G.jv.L1.eq_2) ()) <| pp (pp (@bQ [] [] []) ()) <| ()
 exact kQ
theorem F.dm {n:Nat} : ∀ {ax dS r},G.dm n ax dS=some r->aZ pZ 42 [.one (wT ax),.one (wI dS)] (.one (wI r)):=by
 intro ax dS r h
 refine aB K.dm (jZ ?_)
 unfold C.dm
 rcases n with _ | n<;>simp only [G.dm,reduceCtorEq] at h
 have z:=pp () <| pp () <| pp (pp (@lQ (Int × Int) _ (fun n x=>G.dm.L1 n ax x.1 x.2) r (fun x=>bZ.of [eT 0 ax,eI 1 x.1,eI 5 x.2] [])) ()) <| pp () <| pp (pp (And.intro @G.dm.L1.eq_1 <| @G.dm.L1.eq_2) ()) <| pp (pp (@bQ [] [] []) ()) <| ()
 exact kQ
theorem F.Dw:∀ (n:Nat),(∀ {ax dS r},G.iy n ax dS=some r->aZ pZ 10 [.agg (wN ax),.one (wI dS)] (.one (wI r)))/\(∀ {ax dS r},G.ig n ax dS=some r->aZ pZ 52 [.one (wK ax),.one (wI dS)] (.one (wI r))):=by
 intro n
 induction n using Nat.strongRecOn with | _ n ih =>
 refine ⟨?_,?_⟩
 ·intro ax dS r h
  refine aB K.iy (jZ ?_)
  unfold C.iy
  rcases n with _ | n<;>simp only [G.iy,reduceCtorEq] at h
  have z:=pp (pp ((ihR ih)) <| pp @F.dm ()) <| pp () <| pp () <| pp () <| pp () <| pp () <| ()
  exact kQ
 ·intro ax dS r h
  refine aB K.ig (jZ ?_)
  unfold C.ig
  rcases n with _ | n<;>simp only [G.ig,reduceCtorEq] at h
  have z:=pp (pp ((ihL ih)) ()) <| pp () <| pp (pp (@lQ (Int × Int) _ (fun n x=>G.ig.L1 n ax x.1 x.2) r (fun x=>bZ.of [(0,.v true (.one (wK ax))),eI 1 x.1,eI 5 x.2] [])) ()) <| pp () <| pp (pp (And.intro @G.ig.L1.eq_1 <| @G.ig.L1.eq_2) ()) <| pp (pp (@bQ [] [] []) ()) <| ()
  exact kQ
theorem F.iy {n:Nat} : ∀ {ax:af} {dS:Int} {r:Int},G.iy n ax dS=some r->aZ pZ 10 [.agg (wN ax),.one (wI dS)] (.one (wI r)):=(F.Dw n).1
theorem F.mP {n:Nat} : ∀ {ax dS r},G.mP n ax dS=some r->aZ pZ 26 [.agg [wI ax.Kind,wT ax.Path,wT ax.From,wI ax.Value.Kind,wI ax.Value.Num,wS ax.Value.Text,wT ax.Value.Names,wK ax.Value.Kids],.one (wI dS)] (.one (wI r)):=by
 intro ax dS r h
 refine aB K.mP (jZ ?_)
 unfold C.mP
 rcases n with _ | n<;>simp only [G.mP,reduceCtorEq] at h
 have z:=pp (pp @F.dm <| pp @F.iy ()) <| pp () <| pp () <| pp () <| pp () <| pp () <| ()
 exact kQ
theorem F.iR {n:Nat} : ∀ {ax dS r},G.iR n ax dS=some r->aZ pZ 11 [.one (.c (.sl 8 (List.map jq.cells ax))),.one (wI dS)] (.one (wI r)):=by
 intro ax dS r h
 refine aB K.iR (jZ ?_)
 unfold C.iR
 rcases n with _ | n<;>simp only [G.iR,reduceCtorEq] at h
 have z:=pp (pp @F.mP ()) <| pp () <| pp (pp (@lQ (Int × Int) _ (fun n x=>G.iR.L1 n ax x.1 x.2) r (fun x=>bZ.of [(0,.v true (.one (.c (.sl 8 (List.map jq.cells ax))))),eI 1 x.1,eI 5 x.2] [])) ()) <| pp () <| pp (pp (And.intro @G.iR.L1.eq_1 <| @G.iR.L1.eq_2) ()) <| pp (pp (@bQ [] [] []) ()) <| ()
 exact kQ
theorem F.dN {n:Nat} : ∀ {ax r},G.dN n ax=some r->aZ pZ 44 [.one (wT ax)] (.one (wT r)):=by
 intro ax r h
 refine aB K.dN (jZ ?_)
 unfold C.dN
 rcases n with _ | n<;>simp only [G.dN,reduceCtorEq] at h
 have z:=pp () <| pp () <| pp (pp (@lQ (Int × List aS) _ (fun n x=>G.dN.L1 n ax x.1 x.2) r (fun x=>bZ.of [eT 0 ax,(3,.v true (.one (.own 103 x.2.length 1))),eI 4 x.1] [(103,.dat 1 (List.map cS x.2))])) ()) <| pp () <| pp (pp (And.intro @G.dN.L1.eq_1 <| @G.dN.L1.eq_2) ()) <| pp (pp (@bQ [] [(103,10)] []) <| pp (@bQ [] [(103,103)] []) ()) <| ()
 exact kQ
theorem F.Dz:∀ (n:Nat),(∀ {ax r},G.iD n ax=some r->aZ pZ 13 [.agg (wN ax)] (.agg (wN r)))/\(∀ {ax r},G.jc n ax=some r->aZ pZ 56 [.one (wK ax)] (.one (wK r))):=by
 intro n
 induction n using Nat.strongRecOn with | _ n ih =>
 refine ⟨?_,?_⟩
 ·intro ax r h
  refine aB K.iD (jZ ?_)
  unfold C.iD
  rcases n with _ | n<;>simp only [G.iD,reduceCtorEq] at h
  have z:=pp (pp ((ihR ih)) <| pp @F.dN ()) <| pp () <| pp () <| pp () <| pp () <| pp () <| ()
  exact kQ
 ·intro ax r h
  refine aB K.jc (jZ ?_)
  unfold C.jc
  rcases n with _ | n<;>simp only [G.jc,reduceCtorEq] at h
  have z:=pp (pp ((ihL ih)) ()) <| pp () <| pp (pp (@lQ (Int × List af) _ (fun n x=>G.jc.L1 n ax x.1 x.2) r (fun x=>bZ.of [(0,.v true (.one (wK ax))),(3,.v true (.one (.own 103 x.2.length 5))),eI 4 x.1] [(103,.dat 5 (List.map af.cells x.2))])) ()) <| pp () <| pp (pp (And.intro @G.jc.L1.eq_1 <| @G.jc.L1.eq_2) ()) <| pp (pp (@bQ [] [(103,10)] []) <| pp (@bQ [] [(103,103)] []) ()) <| ()
  exact kQ
theorem F.iD {n:Nat} : ∀ {ax:af} {r:af},G.iD n ax=some r->aZ pZ 13 [.agg (wN ax)] (.agg (wN r)):=(F.Dz n).1
theorem F.og {n:Nat} : ∀ {ax r},G.og n ax=some r->aZ pZ 28 [.agg [wI ax.Kind,wT ax.Path,wT ax.From,wI ax.Value.Kind,wI ax.Value.Num,wS ax.Value.Text,wT ax.Value.Names,wK ax.Value.Kids]] (.agg [wI r.Kind,wT r.Path,wT r.From,wI r.Value.Kind,wI r.Value.Num,wS r.Value.Text,wT r.Value.Names,wK r.Value.Kids]):=by
 intro ax r h
 refine aB K.og (jZ ?_)
 unfold C.og
 rcases n with _ | n<;>simp only [G.og,reduceCtorEq] at h
 have z:=pp (pp @F.dN <| pp @F.iD ()) <| pp () <| pp () <| pp () <| pp () <| pp () <| ()
 exact kQ
theorem F.iT {n:Nat} : ∀ {ax r},G.iT n ax=some r->aZ pZ 14 [.one (.c (.sl 8 (List.map jq.cells ax)))] (.one (.c (.sl 8 (List.map jq.cells r)))):=by
 intro ax r h
 refine aB K.iT (jZ ?_)
 unfold C.iT
 rcases n with _ | n<;>simp only [G.iT,reduceCtorEq] at h
 have z:=pp (pp @F.og ()) <| pp () <| pp (pp (@lQ (Int × List jq) _ (fun n x=>G.iT.L1 n ax x.1 x.2) r (fun x=>bZ.of [(0,.v true (.one (.c (.sl 8 (List.map jq.cells ax))))),(3,.v true (.one (.own 103 x.2.length 8))),eI 4 x.1] [(103,.dat 8 (List.map jq.cells x.2))])) ()) <| pp () <| pp (pp (And.intro @G.iT.L1.eq_1 <| @G.iT.L1.eq_2) ()) <| pp (pp (@bQ [] [(103,10)] []) <| pp (@bQ [] [(103,103)] []) ()) <| ()
 exact kQ
theorem F.DF:∀ (n:Nat),∀ {ag r},G.ay n ag=some r->aZ pZ 81 [.agg (wN ag)] (.agg (wN r)):=by
 intro n
 induction n using Nat.strongRecOn with | _ n ih =>
 intro ag r h
 refine aB K.ay (jZ ?_)
 unfold C.ay
 rcases n with _ | n<;>simp only [G.ay,reduceCtorEq] at h
 have z:=pp (pp ih ()) <| pp () <| pp (pp (@lQ (Int × List af) _ (fun n x=>G.ay.L1 n ag x.1 x.2) r (fun x=>bZ.of [eP 1 107,eP 2 108,(3,.v true (.one (.own 109 x.2.length 5))),eI 4 x.1] [(107,.var (wN ag)),(108,.var zN),(109,.dat 5 (List.map af.cells x.2))])) ()) <| pp () <| pp (pp (And.intro @G.ay.L1.eq_1 <| @G.ay.L1.eq_2) ()) <| pp (pp (@bQ [] [(107,10),(108,11),(109,12)] []) <| pp (@bQ [] [(107,107),(108,108),(109,14)] []) ()) <| ()
 exact kQ
theorem F.ay {n:Nat} : ∀ {ag:af} {r:af},G.ay n ag=some r->aZ pZ 81 [.agg (wN ag)] (.agg (wN r)):=F.DF n
theorem F.wU {n:Nat} : ∀ {ag r},G.ay n ag=some r->iZ pZ 81 [.agg (wN ag)] [] (fun r1 b1=>r1 = .agg [wI r.Kind,wI r.Num,wS r.Text,.own 0 r.Names.length 1,.own 1 r.Kids.length 5]/\b1=[.dat 1 (List.map cS r.Names),.dat 5 (List.map af.cells r.Kids)]):=by
 intro ag r h
 refine kU K.ay (jZ ?_)
 unfold C.ay
 rcases n with _ | n<;>simp only [G.ay,reduceCtorEq] at h
 have z:=pp (pp @F.ay ()) <| pp () <| pp (pp (@lQ (Int × List af) _ (fun n x=>G.ay.L1 n ag x.1 x.2) r (fun x=>bZ.of [eP 1 107,eP 2 108,(3,.v true (.one (.own 109 x.2.length 5))),eI 4 x.1] [(107,.var (wN ag)),(108,.var zN),(109,.dat 5 (List.map af.cells x.2))])) ()) <| pp () <| pp (pp (And.intro @G.ay.L1.eq_1 <| @G.ay.L1.eq_2) ()) <| pp (pp (@bQ [] [(107,10),(108,11),(109,12)] []) <| pp (@bQ [] [(107,107),(108,108),(109,14)] []) ()) <| (pp (@qx [] [(0,16),(1,109)] []) ())
 exact kQ
theorem F.EZ:∀ (n:Nat),∀ {ag r},G.fG n ag=some r->aZ pZ 182 [.one (wI ag)] (.one (wS r)):=by
 intro n
 induction n using Nat.strongRecOn with | _ n ih =>
 intro ag r h
 refine aB K.fG (jZ ?_)
 unfold C.fG
 rcases n with _ | n<;>simp only [G.fG,reduceCtorEq] at h
 have z:=pp (pp ih ()) <| pp () <| pp () <| pp () <| pp () <| pp () <| ()
 exact kQ
theorem F.fG {n:Nat} : ∀ {ag:Int} {r:aS},G.fG n ag=some r->aZ pZ 182 [.one (wI ag)] (.one (wS r)):=F.EZ n
theorem F.dH {n:Nat} : ∀ {ag dU r},G.dH n ag dU=some r->aZ pZ 180 [.agg (wN ag),.one (wS dU)] (.one (wI r)):=by
 intro ag dU r h
 refine aB K.dH (jZ ?_)
 unfold C.dH
 rcases n with _ | n<;>simp only [G.dH,reduceCtorEq] at h
 have z:=pp (pp @F.fG ()) <| pp () <| pp (pp (@lQ (Int) _ (fun n x=>G.dH.L1 n ag dU x) r (fun x=>bZ.of [eS 1 dU,eP 2 103,eI 5 x] [(103,.var (wN ag))])) ()) <| pp () <| pp (pp (And.intro @G.dH.L1.eq_1 <| @G.dH.L1.eq_2) ()) <| pp (pp (@bQ [] [(103,10)] []) <| pp (@bQ [] [(103,103)] []) ()) <| ()
 exact kQ
theorem F.fM {n:Nat} : ∀ {ag dU r},G.fM n ag dU=some r->aZ pZ 222 [.agg (wN ag),.one (wS dU)] (.nV [(false,[wI r.1]),(false,[.c (.lit (.bool r.2))])]):=by
 intro ag dU r h
 refine aB K.fM (jZ ?_)
 unfold C.fM
 rcases n with _ | n<;>simp only [G.fM,reduceCtorEq] at h
 have z:=pp (pp @F.dH <| pp @F.fG ()) <| pp () <| pp (pp (@lQ (Int) _ (fun n x=>G.fM.L1 n ag dU x) r (fun x=>bZ.of [eS 1 dU,eP 2 103,eI 7 x] [(103,.var (wN ag))])) <| pp (@lQ (Int) _ (fun n x=>G.fM.L2 n ag dU x) r (fun x=>bZ.of [eS 1 dU,eP 2 106,eI 7 x] [(106,.var (wN ag))])) ()) <| pp () <| pp (pp (And.intro @G.fM.L1.eq_1 <| And.intro @G.fM.L1.eq_2 <| And.intro @G.fM.L2.eq_1 <| @G.fM.L2.eq_2) ()) <| pp (pp (@bQ [] [(103,10)] []) <| pp (@bQ [] [(103,103)] []) <| pp (@bQ [] [(106,10)] []) <| pp (@bQ [] [(106,106)] []) ()) <| ()
 exact kQ
theorem F.iQ {n:Nat} : ∀ {ag KT D7 r},G.iQ n ag KT D7=some r->aZ pZ 198 [.agg (wN ag),.one (wI KT),.agg (wN D7)] (.agg (wN r)):=by
 intro ag KT D7 r h
 refine aB K.iQ (jZ ?_)
 unfold C.iQ
 rcases n with _ | n<;>simp only [G.iQ,reduceCtorEq] at h
 have z:=pp () <| pp (pp (pp @F.wU (@cG [] [101,102])) <| pp (pp @F.wU (@cG [] [103,104])) ()) <| pp () <| pp () <| pp () <| pp () <| ()
 exact kQ
theorem F.jC {n:Nat} : ∀ {ag dU bW r},G.jC n ag dU bW=some r->aZ pZ 197 [.agg (wN ag),.one (wS dU),.agg (wN bW)] (.nV [(true,(wN r.1)),(false,[.c (.lit (.bool r.2))])]):=by
 intro ag dU bW r h
 refine aB K.jC (jZ ?_)
 unfold C.jC
 rcases n with _ | n<;>simp only [G.jC,reduceCtorEq] at h
 have z:=pp (pp @F.fM <| pp @F.iQ <| pp @F.ay ()) <| pp () <| pp () <| pp () <| pp () <| pp () <| ()
 exact kQ
theorem F.kM {n:Nat} : ∀ {ag ah r},G.kM n ag ah=some r->aZ pZ 143 [.agg (wN ag),.one (wT ah)] (.nV [(true,(wN r.1)),(false,[.c (.lit (.bool r.2))])]):=by
 intro ag ah r h
 refine aB K.kM (jZ ?_)
 unfold C.kM
 rcases n with _ | n<;>simp only [G.kM,reduceCtorEq] at h
 have z:=pp (pp @F.dH <| pp @F.ay ()) <| pp () <| pp (pp (@lQ (Int × Int × Int × aS × List aS × List af) _ (fun n x=>G.kM.L1 n ah x.1 x.2.1 x.2.2.1 x.2.2.2.1 x.2.2.2.2.1 x.2.2.2.2.2) r (fun x=>bZ.of [eT 1 ah,eP 2 105,eP 4 106,eI 6 x.1] [(105,.var [wI x.2.1,wI x.2.2.1,wS x.2.2.2.1,wT x.2.2.2.2.1,wK x.2.2.2.2.2]),(106,.var zN)])) ()) <| pp () <| pp (pp (And.intro @G.kM.L1.eq_1 <| @G.kM.L1.eq_2) ()) <| pp (pp (@bQ [] [(105,10),(106,11)] []) <| pp (@bQ [] [(105,105),(106,106)] []) ()) <| ()
 exact kQ
theorem F.IV:∀ (n:Nat),∀ {ag ah bW r},G.iU n ag ah bW=some r->aZ pZ 154 [.agg (wN ag),.one (wT ah),.agg (wN bW)] (.nV [(true,(wN r.1)),(false,[.c (.lit (.bool r.2))])]):=by
 intro n
 induction n using Nat.strongRecOn with | _ n ih =>
 intro ag ah bW r h
 refine aB K.iU (jZ ?_)
 unfold C.iU
 rcases n with _ | n<;>simp only [G.iU,reduceCtorEq] at h
 have z:=pp (pp ih <| pp @F.ay <| pp @F.dH <| pp @F.iQ ()) <| pp () <| pp () <| pp () <| pp () <| pp () <| ()
 exact kQ
theorem F.iU {n:Nat} : ∀ {ag:af} {ah:List aS} {bW:af} {r:af × Bool},G.iU n ag ah bW=some r->aZ pZ 154 [.agg (wN ag),.one (wT ah),.agg (wN bW)] (.nV [(true,(wN r.1)),(false,[.c (.lit (.bool r.2))])]):=F.IV n
theorem F.kZ {n:Nat} : ∀ {ag ah bW r},G.kZ n ag ah bW=some r->aZ pZ 152 [.agg (wN ag),.one (wT ah),.agg (wN bW)] (.nV [(true,(wN r.1)),(false,[.c (.lit (.bool r.2))])]):=by
 intro ag ah bW r h
 refine aB K.kZ (jZ ?_)
 unfold C.kZ
 rcases n with _ | n<;>simp only [G.kZ,reduceCtorEq] at h
 have z:=pp (pp @F.ay <| pp @F.kM <| pp @F.jC <| pp @F.iU ()) <| pp () <| pp () <| pp () <| pp () <| pp () <| ()
 exact kQ
theorem F.gI {n:Nat} : ∀ {ah qg r},G.gI n ah qg=some r->aZ pZ 155 [.one (wT ah),.one (wT qg)] (.one (.c (.lit (.bool r)))):=by
 intro ah qg r h
 refine aB K.gI (jZ ?_)
 unfold C.gI
 rcases n with _ | n<;>simp only [G.gI,reduceCtorEq] at h
 have z:=pp () <| pp () <| pp (pp (@lQ (Int) _ (fun n x=>G.gI.L1 n ah qg x) r (fun x=>bZ.of [eT 0 ah,eT 1 qg,eI 5 x] [])) ()) <| pp () <| pp (pp (And.intro @G.gI.L1.eq_1 <| @G.gI.L1.eq_2) ()) <| pp (pp (@bQ [] [] []) ()) <| ()
 exact kQ
theorem F.eU {n:Nat} : ∀ {ag ah r},G.eU n ag ah=some r->aZ pZ 153 [.agg (wN ag),.one (wT ah)] (.nV [(true,(wN r.1)),(false,[.c (.lit (.bool r.2))])]):=by
 intro ag ah r h
 refine aB K.eU (jZ ?_)
 unfold C.eU
 rcases n with _ | n<;>simp only [G.eU,reduceCtorEq] at h
 have z:=pp (pp @F.kM <| pp @F.dH <| pp @F.iU ()) <| pp () <| pp () <| pp (pp (@sQ ((af × Bool) × List af × List aS) _ (fun n x=>G.eU.K1 n ag ah x.1 x.2.1 x.2.2) r (fun x=>bZ.of [eT 1 ah,eP 2 101,eP 4 102,eI 6 (IntKind.wrap .i64 (((ah.length:Nat):Int)-1)),eP 7 103,(10,.v true (.one (.own 104 x.2.1.length 5))),(11,.v true (.one (.own 105 x.2.2.length 1)))] [(101,.var (wN ag)),(102,.var zN),(103,.var (wN x.1.1)),(104,.dat 5 (List.map af.cells x.2.1)),(105,.dat 1 (List.map cS x.2.2))])) ()) <| pp (pp (And.intro @G.eU.K1.eq_1 <| @G.eU.K1.eq_2) ()) <| pp (pp (@bQ [] [(101,10),(102,11),(103,12),(104,15),(105,19)] []) <| pp (@bQ [] [(101,10),(102,11),(103,12),(104,15),(105,16)] []) ()) <| ()
 exact kQ
theorem F.fP {n:Nat} : ∀ {bH r},G.fP n bH=some r->aZ pZ 216 [.one (.c (.lit (.bool bH)))] (.one (wI r)):=by
 intro bH r h
 refine aB K.fP (jZ ?_)
 unfold C.fP
 rcases n with _ | n<;>simp only [G.fP,reduceCtorEq] at h
 have z:=pp () <| pp () <| pp () <| pp () <| pp () <| pp () <| ()
 exact kQ
theorem F.jK {n:Nat} : ∀ {ax bH r},G.jK n ax bH=some r->aZ pZ 178 [.one (wI ax),.one (wI bH)] (.one (wI r)):=by
 intro ax bH r h
 refine aB K.jK (jZ ?_)
 unfold C.jK
 rcases n with _ | n<;>simp only [G.jK,reduceCtorEq] at h
 have z:=pp (pp @F.fP ()) <| pp () <| pp () <| pp () <| pp () <| pp () <| ()
 exact kQ
theorem F.iI {n:Nat} : ∀ {ax bH r},G.iI n ax bH=some r->aZ pZ 179 [.one (wS ax),.one (wS bH)] (.one (wI r)):=by
 intro ax bH r h
 refine aB K.iI (jZ ?_)
 unfold C.iI
 rcases n with _ | n<;>simp only [G.iI,reduceCtorEq] at h
 have z:=pp (pp @F.fP ()) <| pp () <| pp () <| pp () <| pp () <| pp () <| ()
 exact kQ
theorem F.EY:∀ (n:Nat),∀ {ax bH r},G.bV n ax bH=some r->aZ pZ 135 [.agg (wN ax),.agg (wN bH)] (.one (wI r)):=by
 intro n
 induction n using Nat.strongRecOn with | _ n ih =>
 intro ax bH r h
 refine aB K.bV (jZ ?_)
 unfold C.bV
 rcases n with _ | n<;>simp only [G.bV,reduceCtorEq] at h
 have z:=pp (pp ih <| pp @F.jK <| pp @F.iI ()) <| pp () <| pp (pp (@lQ (Int) _ (fun n x=>G.bV.L1 n ax bH x) r (fun x=>bZ.of [eP 2 105,eP 3 106,eI 5 x] [(105,.var (wN ax)),(106,.var (wN bH))])) ()) <| pp () <| pp (pp (And.intro @G.bV.L1.eq_1 <| @G.bV.L1.eq_2) ()) <| pp (pp (@bQ [] [(105,10),(106,11)] []) <| pp (@bQ [] [(105,105),(106,106)] []) ()) <| ()
 exact kQ
theorem F.bV {n:Nat} : ∀ {ax:af} {bH:af} {r:Int},G.bV n ax bH=some r->aZ pZ 135 [.agg (wN ax),.agg (wN bH)] (.one (wI r)):=F.EY n
theorem F.ny {n:Nat} : ∀ {ax bH r},G.ny n ax bH=some r->aZ pZ 80 [.agg (wN ax),.agg (wN bH)] (.one (.c (.lit (.bool r)))):=by
 intro ax bH r h
 refine aB K.ny (jZ ?_)
 unfold C.ny
 rcases n with _ | n<;>simp only [G.ny,reduceCtorEq] at h
 have z:=pp (pp @F.bV ()) <| pp () <| pp () <| pp () <| pp () <| pp () <| ()
 exact kQ
theorem F.fD {n:Nat} : ∀ {ag gy r},G.fD n ag gy=some r->aZ pZ 102 [.agg (wN ag),.agg [wI gy.Kind,wT gy.Path,wT gy.From,wI gy.Value.Kind,wI gy.Value.Num,wS gy.Value.Text,wT gy.Value.Names,wK gy.Value.Kids]] (.nV [(true,(wN r.1)),(false,[.c (.lit (.bool r.2))])]):=by
 intro ag gy r h
 refine aB K.fD (jZ ?_)
 unfold C.fD
 rcases n with _ | n<;>simp only [G.fD,reduceCtorEq] at h
 have z:=pp (pp @F.kZ <| pp @F.eU <| pp @F.iU <| pp @F.kM <| pp @F.ny <| pp @F.gI <| pp @F.ay ()) <| pp () <| pp () <| pp (pp (@sQ (List aS) _ (fun n x=>G.fD.K1 n ag gy x) r (fun x=>bZ.of [eP 2 101,eP 3 102,eP 4 103,eT 6 x] [(101,.var (wN ag)),(102,.var [wI gy.Kind,wT gy.Path,wT gy.From,wI gy.Value.Kind,wI gy.Value.Num,wS gy.Value.Text,wT gy.Value.Names,wK gy.Value.Kids]),(103,.var zN)])) ()) <| pp (pp (And.intro @G.fD.K1.eq_1 <| @G.fD.K1.eq_2) ()) <| pp (pp (@bQ [] [(101,10),(102,11),(103,12)] []) ()) <| ()
 exact kQ
theorem F.IQ:∀ (n:Nat),∀ {ag r},G.eH n ag=some r->aZ pZ 100 [.agg (wN ag)] (.one (wI r)):=by
 intro n
 induction n using Nat.strongRecOn with | _ n ih =>
 intro ag r h
 refine aB K.eH (jZ ?_)
 unfold C.eH
 rcases n with _ | n<;>simp only [G.eH,reduceCtorEq] at h
 have z:=pp (pp ih ()) <| pp () <| pp (pp (@lQ (Int × Int) _ (fun n x=>G.eH.L1 n ag x.1 x.2) r (fun x=>bZ.of [eP 1 103,eI 3 x.1,eI 4 x.2] [(103,.var (wN ag))])) ()) <| pp () <| pp (pp (And.intro @G.eH.L1.eq_1 <| @G.eH.L1.eq_2) ()) <| pp (pp (@bQ [] [(103,10)] []) <| pp (@bQ [] [(103,103)] []) ()) <| ()
 exact kQ
theorem F.eH {n:Nat} : ∀ {ag:af} {r:Int},G.eH n ag=some r->aZ pZ 100 [.agg (wN ag)] (.one (wI r)):=F.IQ n
theorem F.bK {n:Nat} : ∀ {ag D8 zJ r},G.bK n ag D8 zJ=some r->aZ pZ 106 [.one (wI ag),.one (wI D8),.one (wI zJ)] (.one (.c (.lit (.bool r)))):=by
 intro ag D8 zJ r h
 refine aB K.bK (jZ ?_)
 unfold C.bK
 rcases n with _ | n<;>simp only [G.bK,reduceCtorEq] at h
 have z:=pp () <| pp () <| pp () <| pp () <| pp () <| pp () <| ()
 exact kQ
theorem F.bY {n:Nat} : ∀ {ai r},G.bY n ai=some r->aZ pZ 142 [.one (wS ai)] (.one (.c (.lit (.bool r)))):=by
 intro ai r h
 refine aB K.bY (jZ ?_)
 unfold C.bY
 rcases n with _ | n<;>simp only [G.bY,reduceCtorEq] at h
 have z:=pp (pp @F.bK ()) <| pp () <| pp (pp (@lQ (Int) _ (fun n x=>G.bY.L1 n ai x) r (fun x=>bZ.of [eS 0 ai,eI 3 x] [])) ()) <| pp () <| pp (pp (And.intro @G.bY.L1.eq_1 <| @G.bY.L1.eq_2) ()) <| pp (pp (@bQ [] [] []) ()) <| ()
 exact kQ
theorem F.gW {n:Nat} : ∀ {aA r},G.gW n aA=some r->aZ pZ 151 [.one (wT aA)] (.one (.c (.lit (.bool r)))):=by
 intro aA r h
 refine aB K.gW (jZ ?_)
 unfold C.gW
 rcases n with _ | n<;>simp only [G.gW,reduceCtorEq] at h
 have z:=pp (pp @F.bY ()) <| pp () <| pp (pp (@lQ (Int) _ (fun n x=>G.gW.L1 n aA x) r (fun x=>bZ.of [eT 0 aA,eI 3 x] [])) ()) <| pp () <| pp (pp (And.intro @G.gW.L1.eq_1 <| @G.gW.L1.eq_2) ()) <| pp (pp (@bQ [] [] []) ()) <| ()
 exact kQ
theorem F.FV:∀ (n:Nat),(∀ {ag fZ r},G.gG n ag fZ=some r->aZ pZ 150 [.agg (wN ag),.one (wI fZ)] (.one (.c (.lit (.bool r)))))/\(∀ {ag fZ r},G.bJ n ag fZ=some r->aZ pZ 99 [.agg (wN ag),.one (wI fZ)] (.one (.c (.lit (.bool r))))):=by
 intro n
 induction n using Nat.strongRecOn with | _ n ih =>
 refine ⟨?_,?_⟩
 ·intro ag fZ r h
  refine aB K.gG (jZ ?_)
  unfold C.gG
  rcases n with _ | n<;>simp only [G.gG,reduceCtorEq] at h
  have z:=pp (pp ((ihR ih)) ()) <| pp () <| pp (pp (@lQ (Int) _ (fun n x=>G.gG.L1 n ag fZ x) r (fun x=>bZ.of [eI 1 fZ,eP 2 103,eI 5 x] [(103,.var (wN ag))])) ()) <| pp () <| pp (pp (And.intro @G.gG.L1.eq_1 <| @G.gG.L1.eq_2) ()) <| pp (pp (@bQ [] [(103,10)] []) <| pp (@bQ [] [(103,103)] []) ()) <| ()
  exact kQ
 ·intro ag fZ r h
  refine aB K.bJ (jZ ?_)
  unfold C.bJ
  rcases n with _ | n<;>simp only [G.bJ,reduceCtorEq] at h
  have z:=pp (pp ((ihL ih)) <| pp @F.bK <| pp @F.bY <| pp @F.gW ()) <| pp () <| pp () <| pp (pp (@sQ (Unit) _ (fun n x=>G.bJ.K1 n ag fZ) r (fun x=>bZ.of [eI 1 fZ,eP 2 101,(54,.v true (.one (.c (.lit (.bool false)))))] [(101,.var (wN ag))])) ()) <| pp (pp (And.intro @G.bJ.K1.eq_1 <| @G.bJ.K1.eq_2) ()) <| pp (pp (@bQ [] [(101,10)] []) ()) <| ()
  exact kQ
theorem F.bJ {n:Nat} : ∀ {ag:af} {fZ:Int} {r:Bool},G.bJ n ag fZ=some r->aZ pZ 99 [.agg (wN ag),.one (wI fZ)] (.one (.c (.lit (.bool r)))):=(F.FV n).2
theorem F.bD {n:Nat} : ∀ {ag r},G.bD n ag=some r->aZ pZ 53 [.agg (wN ag)] (.one (.c (.lit (.bool r)))):=by
 intro ag r h
 refine aB K.bD (jZ ?_)
 unfold C.bD
 rcases n with _ | n<;>simp only [G.bD,reduceCtorEq] at h
 have z:=pp (pp @F.bJ <| pp @F.eH ()) <| pp () <| pp () <| pp () <| pp () <| pp () <| ()
 exact kQ
theorem F.je {n:Nat} : ∀ {ag xe r},G.je n ag xe=some r->aZ pZ 101 [.agg (wN ag),.one (.c (.lit (.bool xe)))] (.nV [(true,(wN r.1)),(false,[.c (.lit (.bool r.2))])]):=by
 intro ag xe r h
 refine aB K.je (jZ ?_)
 unfold C.je
 rcases n with _ | n<;>simp only [G.je,reduceCtorEq] at h
 have z:=pp (pp @F.bD ()) <| pp () <| pp () <| pp () <| pp () <| pp () <| ()
 exact kQ
theorem F.iH {n:Nat} : ∀ {ag gy r},G.iH n ag gy=some r->aZ pZ 55 [.agg (wN ag),.agg [wI gy.Kind,wT gy.Path,wT gy.From,wI gy.Value.Kind,wI gy.Value.Num,wS gy.Value.Text,wT gy.Value.Names,wK gy.Value.Kids]] (.nV [(true,(wN r.1)),(false,[.c (.lit (.bool r.2))])]):=by
 intro ag gy r h
 refine aB K.iH (jZ ?_)
 unfold C.iH
 rcases n with _ | n<;>simp only [G.iH,reduceCtorEq] at h
 have z:=pp (pp @F.fD <| pp @F.je <| pp @F.ay ()) <| pp () <| pp () <| pp () <| pp () <| pp () <| ()
 exact kQ
theorem F.dw {n:Nat} : ∀ {ah r},G.dw n ah=some r->aZ pZ 87 [.one (wT ah)] (.one (.c (.lit (.bool r)))):=by
 intro ah r h
 refine aB K.dw (jZ ?_)
 unfold C.dw
 rcases n with _ | n<;>simp only [G.dw,reduceCtorEq] at h
 have z:=pp (pp @F.bY ()) <| pp () <| pp (pp (@lQ (Int) _ (fun n x=>G.dw.L1 n ah x) r (fun x=>bZ.of [eT 0 ah,eI 3 x] [])) ()) <| pp () <| pp (pp (And.intro @G.dw.L1.eq_1 <| @G.dw.L1.eq_2) ()) <| pp (pp (@bQ [] [] []) ()) <| ()
 exact kQ
theorem F.jD {n:Nat} : ∀ {gy r},G.jD n gy=some r->aZ pZ 69 [.agg [wI gy.Kind,wT gy.Path,wT gy.From,wI gy.Value.Kind,wI gy.Value.Num,wS gy.Value.Text,wT gy.Value.Names,wK gy.Value.Kids]] (.one (.c (.lit (.bool r)))):=by
 intro gy r h
 refine aB K.jD (jZ ?_)
 unfold C.jD
 rcases n with _ | n<;>simp only [G.jD,reduceCtorEq] at h
 have z:=pp (pp @F.bK <| pp @F.dw <| pp @F.bD ()) <| pp () <| pp () <| pp () <| pp () <| pp () <| ()
 exact kQ
theorem F.bf {n:Nat} : ∀ {aA r},G.bf n aA=some r->aZ pZ 54 [.one (.c (.sl 8 (List.map jq.cells aA)))] (.one (.c (.lit (.bool r)))):=by
 intro aA r h
 refine aB K.bf (jZ ?_)
 unfold C.bf
 rcases n with _ | n<;>simp only [G.bf,reduceCtorEq] at h
 have z:=pp (pp @F.jD ()) <| pp () <| pp (pp (@lQ (Int) _ (fun n x=>G.bf.L1 n aA x) r (fun x=>bZ.of [(0,.v true (.one (.c (.sl 8 (List.map jq.cells aA))))),eI 3 x] [])) ()) <| pp () <| pp (pp (And.intro @G.bf.L1.eq_1 <| @G.bf.L1.eq_2) ()) <| pp (pp (@bQ [] [] []) ()) <| ()
 exact kQ
end Go.Ab
end
section
namespace Go.Ab
open Go Go.ChangeShapes Go.WideShapes Go.ChangeAt Go.RowKit
def I0 (W:World):IH:=fun b=>match W.heap[b]? with
 | some (.cells c _ _)=>some c
 | _=>none
theorem P7 (W:World):Agree (I0 W) W:=by
 intro b c h
 unfold I0 at h
 split at h
 ·rename_i c' e fr hb
  cases h
  exact ⟨e,fr,hb⟩
 ·cases h
theorem Tt (W:World) {a:Addr} {v:Value} (h:W.cell? a=some v):(I0 W).cell a=some v:=by
 unfold World.cell? at h
 unfold IH.cell I0
 split at h
 ·rename_i c e fr hb
  split at h
  ·cases h
  ·rename_i hs
   rw [if_neg hs,hb]
   exact h
 ·cases h
theorem GR {W W':World} {M:Nat->Prop} (h:Ba W W' M) (hM:∀ k,¬ M k):Below W.heap.size W W' :=
 ⟨h.os,h.tape,h.output,h.size,fun k hk=>h.block k hk (hM k)⟩
theorem BU (ρ:Ren) (k:Nat):¬ ∃ b,(tH [] b).uses (ρ b) k:=fun ⟨b,h⟩=>by
 simp only [tH,List.getD_nil] at h
 exact h
theorem OM {P:Program} {W:World} {x:String × DataW Unit} {rest:List (String × DataW Unit)} (h:laidMet P (x::rest) W):laidMet P rest W:=by
 obtain ⟨ps,hv,hn,hc⟩:=h
 obtain ⟨g,t,cs,fuel,p,q,h1,h2,h3,h4,h5,rfl⟩:=hv
 exact ⟨q,h5,(List.nodup_append.1 hn).2.1,fun b off hp=>hc b off (List.mem_append_right _ hp)⟩
theorem BP {P:Program} {W:World} : ∀ (k:Nat) {l:List (String × DataW Unit)},laidMet P l W->laidMet P (l.drop k) W
 | 0,l,h=>h
 | k+1,[],h=>h
 | k+1,x::l,h=>BP k (l:=l) (OM h)
theorem NI {P:Program} {W:World} {rest:List (String × DataW Unit)} {g:Nat} {t e:TypeId}
  (hg:P.globalNamed "internal/strconv.uint64pow10" = some g) (hty:(P.globals[g]?).map (·.type)=some t) (ht:P.underlying t=some (.array 20 e)) (he:P.underlying e=some (.int .u64)) (hce:P.cellsOf e=1) (hct:P.cellsOf t=20)
  (h:laidMet P (("internal/strconv.uint64pow10",Lib.tabData .u64 Lib.pow10Tab)::rest) W):Tabs P (I0 W):=by
 have h1:=Lib.tabIs_of_head hg hty ht he hce hct h
 intro g' hg'
 rw [hg] at hg'
 simp only [Option.some.injEq] at hg'
 subst hg'
 unfold Lib.TabIs World.var? at h1
 simp only [hg] at h1
 unfold I0
 revert h1
 split<;>simp_all
end Go.Ab
end
section
namespace Go.Ab
open Go
variable {P:Program} {W:World} {H:Type} {enc:TypeId × Value->H}
def Bd (I:IH) (cs:List Value) (xs:List Cell):Prop:=xs.length=cs.length/\∀ (i:Nat) v c,cs[i]? = some v->xs[i]? = some c->Rd I v c
theorem Bd.nil {I:IH} : Bd I [] []:=⟨rfl,fun i v c h=>by simp at h⟩
theorem Bd.app {I:IH} {a b:List Value} {x y:List Cell} (h:Bd I a x) (k:Bd I b y):Bd I (a++b) (x++y):=by
 refine ⟨by rw [List.length_append,List.length_append,h.1,k.1],fun i v c hv hc => ?_⟩
 have hl:=h.1
 by_cases hi:i<a.length
 ·rw [List.getElem?_append_left hi] at hv
  rw [List.getElem?_append_left (by omega)] at hc
  exact h.2 i v c hv hc
 ·rw [List.getElem?_append_right (by omega)] at hv
  rw [List.getElem?_append_right (by omega),hl] at hc
  exact k.2 _ v c hv hc
theorem Bd.one {I:IH} {v:Value} {c:Cell} (h:Rd I v c):Bd I [v] [c]:=by
  refine ⟨rfl,fun i v' c' hv hc => ?_⟩
  match i with
  | 0 =>
    simp only [List.getElem?_cons_zero,Option.some.injEq] at hv hc
    subst hv hc; exact h
  | i+1=>simp at hv
theorem Bd.fst {I:IH} {v:Value} {c:Cell} (h:Bd I [v] [c]):Rd I v c:=h.2 0 v c rfl rfl
section
variable {fuel:Nat} {t:TypeId} {cs:List Value} {d:DataW H} {ps:List MemPlace}
theorem trod_int {k:IntKind} (ht:P.underlying t=some (.int k)) (h:DataW.trod enc P W 0 (fun _=>true) true fuel t cs=some (d,ps)):∃ n,cs=[.int k n]/\(Lit.int k n).wf=true:=by
  cases fuel with
  | zero=>cases h
  | succ fuel =>
    unfold DataW.trod at h
    rw [ht] at h
    split at h<;>simp_all
theorem Sv (ht:P.underlying t=some .string) (h:DataW.trod enc P W 0 (fun _=>true) true fuel t cs=some (d,ps)):∃ s:ByteArray,cs=[.string s]/\s.size<=maxLen:=by
  cases fuel with
  | zero=>cases h
  | succ fuel =>
    unfold DataW.trod at h
    rw [ht] at h
    split at h<;>simp_all
end
theorem mapM_at {α β:Type} {f:α->Option β} : ∀ {l:List α} {ys:List β},l.mapM f=some ys->ys.length=l.length/\∀ (i:Nat) x,l[i]? = some x->f x=ys[i]?
  | [],ys,h=>by
    simp at h; subst h; exact ⟨rfl,fun i x hx=>by simp at hx⟩
  | a::l,ys,h=>by
    rw [List.mapM_cons] at h
    cases ha:f a with
    | none=>rw [ha] at h; cases h
    | some y =>
      cases hl:l.mapM f with
      | none=>rw [ha,hl] at h; cases h
      | some r =>
        rw [ha,hl] at h
        have:ys=y::r:=by simpa using h.symm
        subst this
        obtain ⟨h1,h2⟩:=mapM_at hl
        refine ⟨by simp [h1],fun i x hx => ?_⟩
        match i with
        | 0=>simp at hx; subst hx; simpa using ha
        | i+1=>simp at hx; simpa using h2 i x hx
theorem J6 {β:Type} {f:Nat->Option β} {n:Nat} {ys:List β} (h:(List.range n).mapM f=some ys):ys.length=n/\∀ i,i<n->f i=ys[i]? := by
 obtain ⟨h1,h2⟩:=mapM_at h
 rw [List.length_range] at h1
 exact ⟨h1,fun i hi=>h2 i i (by simp [hi])⟩
theorem cells_at {a:Addr} {n:Nat} {ecs:List Value} (h:W.cells? 0 a n=some ecs):ecs.length=n/\∀ j v,ecs[j]? = some v->(I0 W).cell (a.add j)=some v:=by
 unfold World.cells? at h
 rw [if_pos (Nat.zero_le _)] at h
 obtain ⟨h1,h2⟩:=J6 h
 refine ⟨h1,fun j v hv => ?_⟩
 have hj:j<n:=by
  have:=(List.getElem?_eq_some_iff.1 hv).1
  omega
 have:=h2 j hj
 rw [hv] at this
 exact Tt W this
theorem add_add (a:Addr) (x y:Nat):(a.add x).add y=a.add (x+y):=by
 unfold Addr.add
 by_cases hx:x=0
 ·subst hx; simp
 ·by_cases hy:y=0
  ·subst hy; simp
  ·have:¬ x+y=0:=by omega
   simp [hx,hy,Nat.add_assoc]
theorem wo {X:Type} {cells:X->List Cell} {Q:X->Prop} {sz:Nat} {t e:TypeId} {fuel:Nat} {cs:List Value} {d:DataW H} {ps:List MemPlace} (ht:P.underlying t=some (.slice e)) (hce:P.cellsOf e=sz)
    (hX:∀ f ecs d p,f<fuel->DataW.trod enc P W 0 (fun _=>true) true f e ecs=some (d,p)->∃ x,Bd (I0 W) ecs (cells x)/\Q x)
    (h:DataW.trod enc P W 0 (fun _=>true) true fuel t cs=some (d,ps)):∃ (l:List X) (v:Value),cs=[v]/\Rd (I0 W) v (.sl sz (l.map cells))/\l.length<=maxLen/\∀ x,x∈l->Q x:=by
  subst hce
  cases fuel with
  | zero=>cases h
  | succ fuel =>
    unfold DataW.trod at h
    rw [ht] at h
    split at h<;>(try (simp at *; done))<;>(try contradiction)
    · refine ⟨[],_,rfl,.sl none 0 0 _ [] (fun _ _=>undef) rfl (Nat.le_refl _) (Nat.zero_le _) (fun e h=>by cases h) (fun h=>by omega) (fun ad h=>by cases h) (fun i j c h=>by simp at h),Nat.zero_le _,fun x h=>by cases h⟩
    · rename_i e' a len cap heq
      have:e'=e:=by simpa using heq.symm
      subst this
      simp only at h
      split at h
      · rename_i hc
        obtain ⟨_,hlc,hcm⟩:=hc
        cases hm:(List.range len).mapM (fun i=>(W.cells? 0 (a.add (i*P.cellsOf e')) (P.cellsOf e')).bind (DataW.trod enc P W 0 (fun _=>true) true fuel e')) with
        | none=>rw [hm] at h; cases h
        | some ys =>
          obtain ⟨h1,h2⟩:=J6 hm
          have elem:∀ i,i<len->∃ x ecs,W.cells? 0 (a.add (i*P.cellsOf e')) (P.cellsOf e')=some ecs/\Bd (I0 W) ecs (cells x)/\Q x:=fun i hi=>by
            have:=h2 i hi
            rw [List.getElem?_eq_getElem (by omega)] at this
            cases hw:W.cells? 0 (a.add (i*P.cellsOf e')) (P.cellsOf e') with
            | none=>rw [hw] at this; cases this
            | some ecs =>
              rw [hw] at this
              obtain ⟨x,hx⟩:=hX fuel ecs _ _ (Nat.lt_succ_self _) this
              exact ⟨x,ecs,rfl,hx⟩
          have pick:∃ l:List X,l.length=len/\∀ i (hi:i<l.length),∃ ecs,W.cells? 0 (a.add (i*P.cellsOf e')) (P.cellsOf e')=some ecs/\Bd (I0 W) ecs (cells l[i])/\Q l[i]:=by
            refine ⟨(List.range len).attach.map fun i=>(elem i.1 (by simpa using i.2)).choose,by simp,fun i hi => ?_⟩
            have hi':i<len:=by simpa using hi
            obtain ⟨ecs,h3⟩:=(elem i hi').choose_spec
            refine ⟨ecs,h3.1,?_⟩
            simpa using h3.2
          obtain ⟨l,hl,hp'⟩:=pick
          have hp:=fun i hi=>(hp' i hi).imp fun _ h=>(⟨h.1,h.2.1⟩:_/\_)
          refine ⟨l,_,rfl,.sl (some a) len cap _ _ (fun i j=>((I0 W).cell ((a.add (i*P.cellsOf e'+j)))).getD undef) (by rw [List.length_map,hl]) hlc hcm (fun x hx => ?_) (fun _ h=>by cases h) (fun ad hd i j hi hj => ?_) (fun i j c hc => ?_),by omega,fun x hx => ?_⟩
          · obtain ⟨y,hy,rfl⟩:=List.mem_map.1 hx
            obtain ⟨i,hi,rfl⟩:=List.mem_iff_getElem.1 hy
            obtain ⟨ecs,g1,g2⟩:=hp i hi
            rw [g2.1,(cells_at g1).1]
          · cases hd
            obtain ⟨ecs,g1,g2⟩:=hp i (by omega)
            obtain ⟨q1,q2⟩:=cells_at g1
            have:=q2 j ecs[j] (List.getElem?_eq_getElem (by omega))
            have ea:(a.add (i*P.cellsOf e')).add j=a.add (i*P.cellsOf e'+j):=add_add _ _ _
            rw [ea] at this
            rw [this]; rfl
          · by_cases hi:i<l.length
            · obtain ⟨ecs,g1,g2⟩:=hp i hi
              have e1:(l.map cells).getD i []=cells l[i]:=by simp [List.getD,hi]
              rw [e1] at hc
              obtain ⟨q1,q2⟩:=cells_at g1
              have hj:j<ecs.length:=by
                have:=(List.getElem?_eq_some_iff.1 hc).1
                have:=g2.1
                omega
              have q3:=q2 j ecs[j] (List.getElem?_eq_getElem hj)
              have ea:(a.add (i*P.cellsOf e')).add j=a.add (i*P.cellsOf e'+j):=add_add _ _ _
              rw [ea] at q3
              rw [q3]
              exact g2.2 j _ c (List.getElem?_eq_getElem hj) hc
            · have:(l.map cells).getD i []=[]:=by simp [List.getD,List.getElem?_eq_none (by simpa using hi:(l.map cells).length<=i)]
              rw [this] at hc; simp at hc
          · obtain ⟨i,hi,rfl⟩:=List.mem_iff_getElem.1 hx
            exact (hp' i hi).choose_spec.2.2
      · cases h
theorem trod_struct {t:TypeId} {fs:Array Field} {fuel:Nat} {cs:List Value} {d:DataW H} {ps:List MemPlace} (ht:P.underlying t=some (.struct fs))
    (h:DataW.trod enc P W 0 (fun _=>true) true fuel t cs=some (d,ps)):∃ f,fuel=f+1/\cs.length=P.cellsOf t/\∀ (k:Nat) x,fs.toList[k]? = some x->∃ d' p',DataW.trod enc P W 0 (fun _=>true) true f x.type ((cs.drop x.offset).take (P.cellsOf x.type))=some (d',p'):=by
  cases fuel with
  | zero=>cases h
  | succ fuel =>
    refine ⟨fuel,rfl,?_⟩
    unfold DataW.trod at h
    rw [ht] at h
    split at h<;>(try (simp at *; done))<;>(try contradiction)
    rename_i cs0 x0 cs1 fs' heq
    have:fs'=fs:=by simpa using heq.symm
    subst this
    split at h
    · rename_i hl
      refine ⟨hl,fun k x hx => ?_⟩
      cases hm:fs'.toList.mapM (fun f=>DataW.trod enc P W 0 (fun _=>true) true fuel f.type ((cs0.drop f.offset).take (P.cellsOf f.type))) with
      | none=>rw [hm] at h; cases h
      | some ys =>
        obtain ⟨h1,h2⟩:=mapM_at hm
        have h3:=h2 k x hx
        have hk:k<ys.length:=by
          have:=(List.getElem?_eq_some_iff.1 hx).1
          omega
        rw [List.getElem?_eq_getElem hk] at h3
        exact ⟨_,_,h3⟩
    · cases h
end Go.Ab
end
section
namespace Go.Ab
open Go Go.ChangeShapes Go.WideShapes Go.ChangeAt Go.RowKit
theorem IB {I:IH} {ρ:Ren} {cs:Array Value} {xs:List Cell} (h:Bd I cs.toList xs):GV I ρ (.agg cs) (.agg (xs.map .c)):=by
 refine ⟨cs,rfl,by rw [List.length_map]; exact h.1.symm,fun j v x hv hx => ?_⟩
 rw [List.getElem?_map] at hx
 obtain ⟨c,hc,rfl⟩:=Option.map_eq_some_iff.1 hx
 exact h.2 j v c hv hc
theorem Nu {I:IH} {ρ:Ren} {v u:Value} {x y:AV} (h:GV I ρ v x) (k:GV I ρ u y):KF I ρ [v,u] [x,y]:=by
  refine ⟨rfl,fun j v' x' hv hx => ?_⟩
  match j with
  | 0 =>
    simp only [List.getElem?_cons_zero,Option.some.injEq] at hv hx
    subst hv hx; exact h
  | 1 =>
    simp only [List.getElem?_cons_succ,List.getElem?_cons_zero,Option.some.injEq] at hv hx
    subst hv hx; exact k
  | j+2=>simp at hv
theorem Q4 {P:Program} {f:FuncId} {W:World} {vs:List Value} {as_:List AV} (hT:Tabs P (I0 W)) (hg:KF (I0 W) (fun _=>none) vs as_) (hp:aZ P f as_ (oz true)) :
  Calls P f vs.toArray W fun e W'=>e = .returned (.bool true)/\Below W.heap.size W W':=by
 refine (hp (I0 W) (fun _=>none) W vs hT (P7 W) ⟨fun b=>by simp only [tH,List.getD_nil]; exact rfl,fun b b' k h=>(BU (fun _=>none) k ⟨b,h⟩).elim,fun b k h=>(BU (fun _=>none) k ⟨b,h⟩).elim⟩ hg).mono ?_
 rintro e W' ⟨v,J,σ,r,bs,rfl,⟨rfl,rfl⟩,hg,_,_,_,hfr,_⟩
 refine ⟨?_,GR hfr (BU (fun _=>none))⟩
 cases hg
 rfl
end Go.Ab
end
section
namespace Go.Ab
open Go
set_option maxRecDepth 100000
variable {P:Program} {W:World} {H:Type} {enc:TypeId × Value->H}
structure zC (P:Program) (tI tS tL tN tK:TypeId):Prop where
 i:P.underlying tI=some (.int .i64)
 s:P.underlying tS=some .string
 l:P.underlying tL=some (.slice tS)
 k:P.underlying tK=some (.slice tN)
 n:∃ fs,P.underlying tN=some (.struct fs)/\fs.toList.map (fun f=>(f.type,f.offset))=[(tI,0),(tI,1),(tS,2),(tL,3),(tK,4)]
 ci:P.cellsOf tI=1
 cs:P.cellsOf tS=1
 cl:P.cellsOf tL=1
 ck:P.cellsOf tK=1
 cn:P.cellsOf tN=5
abbrev wV (enc:TypeId × Value->H) (P:Program) (W:World):=DataW.trod enc P W 0 (fun _=>true) true
theorem AB {fuel:Nat} {t:TypeId} {cs:List Value} {d:DataW H} {ps:List MemPlace} (ht:P.underlying t=some .string) (h:wV enc P W fuel t cs=some (d,ps)):∃ s:aS,Bd (I0 W) cs (cS s)/\s.length<=maxLen:=by
 obtain ⟨s,rfl,hl⟩:=Sv ht h
 refine ⟨s.data.toList,Bd.one ?_,hl⟩
 have:s=⟨⟨s.data.toList⟩⟩:=by cases s; rfl
 rw [this]
 exact Rd.str _ hl
theorem vI {fuel:Nat} {t:TypeId} {cs:List Value} {d:DataW H} {ps:List MemPlace} (ht:P.underlying t=some (.int .i64)) (h:wV enc P W fuel t cs=some (d,ps)):∃ n:Int,Bd (I0 W) cs [.lit (.int .i64 n)] /\ -9223372036854775808<=n/\n<=9223372036854775807:=by
 obtain ⟨n,rfl,hw⟩:=trod_int ht h
 refine ⟨n,Bd.one (Rd.lit _ rfl),?_⟩
 have hw:(decide (IntKind.i64.min<=n)&&decide (n<=IntKind.i64.max))=true:=hw
 obtain ⟨h1,h2⟩:=Bool.and_eq_true_iff.1 hw
 exact ⟨of_decide_eq_true h1,of_decide_eq_true h2⟩
theorem vJ {fuel:Nat} {t tS:TypeId} {cs:List Value} {d:DataW H} {ps:List MemPlace} (ht:P.underlying t=some (.slice tS)) (hS:P.underlying tS=some .string) (hc:P.cellsOf tS=1) (h:wV enc P W fuel t cs=some (d,ps)):∃ l:List aS,Bd (I0 W) cs [.sl 1 (l.map cS)]/\l.length<=maxLen/\∀ s,s∈l->s.length<=maxLen:=by
 obtain ⟨l,v,rfl,hr,hm,hq⟩:=wo (cells:=cS) (Q:=fun s=>s.length<=maxLen) ht hc (fun f ecs d p _ h=>AB hS h) h
 exact ⟨l,Bd.one hr,hm,hq⟩
theorem Rq:maxLen<=mx:=by decide
theorem part {cs:List Value} {k:Nat} (h:k<cs.length):(cs.drop k).take 1=[cs[k]]:=by
 rw [List.drop_eq_getElem_cons h]; rfl
theorem yj {tI tS tL tN tK:TypeId} (T:zC P tI tS tL tN tK):∀ (fuel:Nat) {cs:List Value} {d:DataW H} {ps:List MemPlace},wV enc P W fuel tN cs=some (d,ps)->∃ n:af,Bd (I0 W) cs (af.cells n)/\cs.length=5/\nM mx fuel n:=by
 intro fuel
 induction fuel using Nat.strongRecOn with | _ fuel ih =>
 intro cs d ps h
 obtain ⟨fs,hfs,hl⟩:=T.n
 obtain ⟨f,rfl,h5,hx⟩:=trod_struct hfs h
 rw [T.cn] at h5
 have at_:∀ k ty off,[(tI,0),(tI,1),(tS,2),(tL,3),(tK,4)][k]? = some (ty,off)->∃ d' p',wV enc P W f ty ((cs.drop off).take (P.cellsOf ty))=some (d',p'):=fun k ty off hk=>by
  rw [<- hl,List.getElem?_map] at hk
  obtain ⟨x,hx1,hx2⟩:=Option.map_eq_some_iff.1 hk
  cases hx2
  exact hx k x hx1
 obtain ⟨d0,p0,h0⟩:=at_ 0 tI 0 rfl
 obtain ⟨d1,p1,h1⟩:=at_ 1 tI 1 rfl
 obtain ⟨d2,p2,h2⟩:=at_ 2 tS 2 rfl
 obtain ⟨d3,p3,h3⟩:=at_ 3 tL 3 rfl
 obtain ⟨d4,p4,h4⟩:=at_ 4 tK 4 rfl
 rw [T.ci,part (by omega)] at h0 h1
 rw [T.cs,part (by omega)] at h2
 rw [T.cl,part (by omega)] at h3
 rw [T.ck,part (by omega)] at h4
 obtain ⟨z0,r0,_⟩:=vI T.i h0
 obtain ⟨z1,r1,_⟩:=vI T.i h1
 obtain ⟨z2,r2,m2⟩:=AB T.s h2
 obtain ⟨z3,r3,m3,q3⟩:=vJ T.l T.s T.cs h3
 obtain ⟨z4,v4,e4,r4,m4,q4⟩:=wo (cells:=af.cells) (Q:=fun n=>nM mx f n) T.k T.cn (fun f' ecs d p hf hh=>(ih f' (by omega) hh).imp fun n hn=>⟨hn.1,hn.2.2.mono (Nat.le_refl _) (by omega)⟩) h4
 have hM:=Rq
 refine ⟨af.mk z0 z1 z2 z3 z4,?_,h5,Nat.le_trans m2 hM,Nat.le_trans m3 hM,fun s hs=>Nat.le_trans (q3 s hs) hM,Nat.le_trans m4 hM,trivial,q4⟩
 rw [af.dZ]
 have ec:cs=[cs[0]]++([cs[1]]++([cs[2]]++([cs[3]]++[cs[4]]))):=by
  match cs,h5 with
  | [a,b,c,d,e],_=>rfl
 rw [ec]
 have e4':cs[4]=v4:=by simpa using e4
 exact r0.app (r1.app (r2.app (r3.app (e4' ▸ Bd.one r4))))
structure Ja (P:Program) (tI tS tL tN tK tO tP:TypeId):Prop where
 nt:zC P tI tS tL tN tK
 p:P.underlying tP=some (.slice tO)
 o:∃ fs,P.underlying tO=some (.struct fs)/\fs.toList.map (fun f=>(f.type,f.offset))=[(tI,0),(tL,1),(tL,2),(tN,3)]
 co:P.cellsOf tO=8
 cp:P.cellsOf tP=1
theorem Um {tI tS tL tN tK tO tP:TypeId} (T:Ja P tI tS tL tN tK tO tP) {fuel:Nat} {cs:List Value} {d:DataW H} {ps:List MemPlace} (h:wV enc P W fuel tO cs=some (d,ps)):∃ o:jq,Bd (I0 W) cs (jq.cells o)/\cs.length=8/\rH mx fuel o:=by
 obtain ⟨fs,hfs,hl⟩:=T.o
 obtain ⟨f,rfl,h8,hx⟩:=trod_struct hfs h
 rw [T.co] at h8
 have at_:∀ k ty off,[(tI,0),(tL,1),(tL,2),(tN,3)][k]? = some (ty,off)->∃ d' p',wV enc P W f ty ((cs.drop off).take (P.cellsOf ty))=some (d',p'):=fun k ty off hk=>by
  rw [<- hl,List.getElem?_map] at hk
  obtain ⟨x,hx1,hx2⟩:=Option.map_eq_some_iff.1 hk
  cases hx2
  exact hx k x hx1
 obtain ⟨d0,p0,h0⟩:=at_ 0 tI 0 rfl
 obtain ⟨d1,p1,h1⟩:=at_ 1 tL 1 rfl
 obtain ⟨d2,p2,h2⟩:=at_ 2 tL 2 rfl
 obtain ⟨d3,p3,h3⟩:=at_ 3 tN 3 rfl
 rw [T.nt.ci,part (by omega)] at h0
 rw [T.nt.cl,part (by omega)] at h1 h2
 obtain ⟨z0,r0,_⟩:=vI T.nt.i h0
 obtain ⟨z1,r1,m1,q1⟩:=vJ T.nt.l T.nt.s T.nt.cs h1
 obtain ⟨z2,r2,m2,q2⟩:=vJ T.nt.l T.nt.s T.nt.cs h2
 obtain ⟨n,r3,_,q3⟩:=yj T.nt f h3
 have hM:=Rq
 rw [af.dZ,T.nt.cn] at r3
 refine ⟨jq.mk z0 z1 z2 n,?_,h8,⟨Nat.le_trans m1 hM,fun s hs=>Nat.le_trans (q1 s hs) hM⟩,⟨Nat.le_trans m2 hM,fun s hs=>Nat.le_trans (q2 s hs) hM⟩,q3.mono (Nat.le_refl _) (by omega)⟩
 have ec:cs=[cs[0]]++([cs[1]]++([cs[2]]++(cs.drop 3).take 5)):=by
  match cs,h8 with
  | [a,b,c,d,e,f,g,h],_=>rfl
 rw [ec]
 exact r0.app (r1.app (r2.app r3))
theorem J7 {tI tS tL tN tK tO tP:TypeId} (T:Ja P tI tS tL tN tK tO tP) {fuel:Nat} {cs:List Value} {d:DataW H} {ps:List MemPlace} (h:wV enc P W fuel tP cs=some (d,ps)):∃ (l:List jq) (v:Value),cs=[v]/\Rd (I0 W) v (.sl 8 (l.map jq.cells))/\l.length<=maxLen/\∀ o,o∈l->∃ D,rH mx D o :=
 wo (cells:=jq.cells) (Q:=fun o=>∃ D,rH mx D o) T.p T.co (fun f ecs d p _ hh=>(Um T hh).imp fun n hn=>⟨hn.1,f,hn.2.2⟩) h
end Go.Ab
end
