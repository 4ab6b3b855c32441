/- What abstract values, states and codes of the program's language mean, and that they are sound (part 2). No conditions. -/
import Derived.Test.YtoijiephcflchaaGreatDoorX1
set_option linter.unusedVariables false
set_option linter.unusedSimpArgs false
section
namespace Go.Ab
open Go
section
variable {P:Program} {E:Env P} {I:IH} {ρ:Ren} {n:Nat} {st:bZ} {a:Act} {w:World}
theorem xK (l:List (Nat × Box)) (st:bZ) {b:Nat} (h:b ∉ l.map (·.1)):(st.kT l).bx b=st.bx b:=by
  induction l generalizing st with
  | nil=>rfl
  | cons x l ih =>
    obtain ⟨c,x⟩:=x
    simp only [List.map_cons,List.mem_cons,not_or] at h
    simp only [bZ.kT,ih _ h.2,bZ.jR]
    rw [if_neg h.1]
theorem RV (l:List (Nat × Box)) (st:bZ) (hn:(l.map (·.1)).Nodup) {j b:Nat} {x:Box} (h:l[j]? = some (b,x)):(st.kT l).bx b=x:=by
  induction l generalizing st j with
  | nil=>simp at h
  | cons y l ih =>
    obtain ⟨c,y⟩:=y
    simp only [List.map_cons,List.nodup_cons] at hn
    cases j with
    | zero =>
      simp at h
      obtain ⟨rfl,rfl⟩:=h
      simp only [bZ.kT]
      rw [xK _ _ hn.1,bZ.jR,if_pos rfl]
    | succ j =>
      simp only [bZ.kT]
      exact ih _ hn.2 (by simpa using h)
theorem Ig {π:Nat->Nat} {I:IH} {ρ σ:Ren} {m:Nat} {v:Value} {x:AC} (h:GC I ρ v (nU π x)) (hl:x.lZ m=true) (hs:∀ b y,b<m->ρ (π b)=some y->σ b=some y):GC I σ v x:=by
  cases x with
  | c y=>exact h
  | ptr b off=>obtain ⟨k,cap,h1,h2⟩:=h; exact ⟨k,cap,hs _ _ (by simpa [AC.lZ] using hl) h1,h2⟩
  | own b n sz=>obtain ⟨k,cap,a,c,h1,h2⟩:=h; exact ⟨k,cap,a,c,hs _ _ (by simpa [AC.lZ] using hl) h1,h2⟩
  | sub b lo n c sz=>obtain ⟨k,cap,a,c',h1,h2⟩:=h; exact ⟨k,cap,a,c',hs _ _ (by simpa [AC.lZ] using hl) h1,h2⟩
  | opt T b=>obtain ⟨k,h1,h2⟩:=h; exact ⟨k,hs _ _ (by simpa [AC.lZ] using hl) h1,h2⟩
  | nH b n=>obtain ⟨k,cap,h1,h2⟩:=h; exact ⟨k,cap,hs _ _ (by simpa [AC.lZ] using hl) h1,h2⟩
  | oI b i sz off=>obtain ⟨k,cap,h1,h2⟩:=h; exact ⟨k,cap,hs _ _ (by simpa [AC.lZ] using hl) h1,h2⟩
  | iL sz=>exact h
  | uH cs=>exact h
  | xB=>exact h
  | fn f caps =>
    obtain ⟨ks,h1,h2,h3⟩:=h
    refine ⟨ks,by simpa using h1,fun j b k hb hk => ?_,h3⟩
    obtain ⟨cap,hc⟩:=h2 j (π b) k (by simp [hb]) hk
    refine ⟨cap,hs _ _ ?_ hc⟩
    have:=List.all_eq_true.1 hl b (List.mem_of_getElem? hb)
    simpa using this
theorem Nr {π:Nat->Nat} {I:IH} {ρ σ:Ren} {m:Nat} {vs:List Value} {xs:List AC} (h:xR I ρ vs (xs.map (nU π))) (hl:xs.all (AC.lZ m)=true) (hs:∀ b y,b<m->ρ (π b)=some y->σ b=some y):xR I σ vs xs :=
 ⟨by simpa using h.1,fun j v x hv hx=>Ig (h.2 j v (nU π x) hv (by simp [hx])) (List.all_eq_true.1 hl x (List.mem_of_getElem? hx)) hs⟩
theorem Vt {π:Nat->Nat} {I:IH} {ρ σ:Ren} {m:Nat} {v:Value} {x:AV} (h:GV I ρ v (qV π x)) (hl:x.all (AC.lZ m)=true) (hs:∀ b y,b<m->ρ (π b)=some y->σ b=some y):GV I σ v x:=by
  cases x with
  | one x=>exact Ig h hl hs
  | agg xs=>obtain ⟨cs,rfl,hg⟩:=h; exact ⟨cs,rfl,Nr hg hl hs⟩
  | nV ps =>
    obtain ⟨vs,rfl,hz,hp⟩:=h
    refine ⟨vs,rfl,by simpa using hz,fun j v p hv hq => ?_⟩
    have h1:=hp j v _ hv (by rw [List.getElem?_map,hq]; rfl)
    have h2:=List.all_eq_true.1 hl p (List.mem_of_getElem? hq)
    unfold GP at h1 ⊢
    simp only at h1
    split at h1
    · rename_i hb; rw [if_pos hb]; obtain ⟨cs,rfl,hg⟩:=h1; exact ⟨cs,rfl,Nr hg h2 hs⟩
    · rename_i hb
      rw [if_neg hb]
      obtain ⟨x,hx,hg⟩:=h1
      cases hp2:p.2 with
      | nil=>rw [hp2] at hx; simp at hx
      | cons y t =>
        rw [hp2] at hx h2
        simp at hx
        obtain ⟨rfl,rfl⟩:=hx
        exact ⟨y,rfl,Ig hg (by simpa using h2) hs⟩
theorem Ie {π:Nat->Nat} {I:IH} {ρ σ:Ren} {v:Value} {x:AC} (h:GC I σ v x) (hs:∀ b y,σ b=some y->ρ (π b)=some y):GC I ρ v (nU π x):=by
  cases x with
  | c y=>exact h
  | ptr b off=>obtain ⟨k,cap,h1,h2⟩:=h; exact ⟨k,cap,hs _ _ h1,h2⟩
  | own b n sz=>obtain ⟨k,cap,a,c,h1,h2⟩:=h; exact ⟨k,cap,a,c,hs _ _ h1,h2⟩
  | sub b lo n c sz=>obtain ⟨k,cap,a,c',h1,h2⟩:=h; exact ⟨k,cap,a,c',hs _ _ h1,h2⟩
  | opt T b=>obtain ⟨k,h1,h2⟩:=h; exact ⟨k,hs _ _ h1,h2⟩
  | nH b n=>obtain ⟨k,cap,h1,h2⟩:=h; exact ⟨k,cap,hs _ _ h1,h2⟩
  | oI b i sz off=>obtain ⟨k,cap,h1,h2⟩:=h; exact ⟨k,cap,hs _ _ h1,h2⟩
  | iL sz=>exact h
  | uH cs=>exact h
  | xB=>exact h
  | fn f caps =>
    obtain ⟨ks,h1,h2,h3⟩:=h
    refine ⟨ks,by simpa using h1,fun j b k hb hk => ?_,h3⟩
    rw [List.getElem?_map] at hb
    cases hc:caps[j]? with
    | none=>rw [hc] at hb; cases hb
    | some c =>
      rw [hc] at hb
      simp at hb
      subst hb
      obtain ⟨cap,hc'⟩:=h2 j c k hc hk
      exact ⟨cap,hs _ _ hc'⟩
theorem Nq {π:Nat->Nat} {I:IH} {ρ σ:Ren} {vs:List Value} {xs:List AC} (h:xR I σ vs xs) (hs:∀ b y,σ b=some y->ρ (π b)=some y):xR I ρ vs (xs.map (nU π)):=by
  refine ⟨by simpa using h.1,fun j v x hv hx => ?_⟩
  rw [List.getElem?_map] at hx
  cases hc:xs[j]? with
  | none=>rw [hc] at hx; cases hx
  | some c =>
    rw [hc] at hx
    simp at hx
    subst hx
    exact Ie (h.2 j v c hv hc) hs
theorem Vs {π:Nat->Nat} {I:IH} {ρ σ:Ren} {v:Value} {x:AV} (h:GV I σ v x) (hs:∀ b y,σ b=some y->ρ (π b)=some y):GV I ρ v (qV π x):=by
  cases x with
  | one x=>exact Ie h hs
  | agg xs=>obtain ⟨cs,rfl,hg⟩:=h; exact ⟨cs,rfl,Nq hg hs⟩
  | nV ps =>
    obtain ⟨vs,rfl,hz,hp⟩:=h
    refine ⟨vs,rfl,by simpa using hz,fun j v p hv hq => ?_⟩
    rw [List.getElem?_map] at hq
    cases hc:ps[j]? with
    | none=>rw [hc] at hq; cases hq
    | some q =>
      rw [hc] at hq
      simp at hq
      subst hq
      have h1:=hp j v q hv hc
      unfold GP at h1 ⊢
      simp only
      split at h1
      · rename_i hb; rw [if_pos hb]; obtain ⟨cs,rfl,hg⟩:=h1; exact ⟨cs,rfl,Nq hg hs⟩
      · rename_i hb; rw [if_neg hb]; obtain ⟨x,hx,hg⟩:=h1; exact ⟨nU π x,by rw [hx]; rfl,Ie hg hs⟩
theorem Oi {π:Nat->Nat} {I:IH} {ρ σ:Ren} {m:Nat} {w:World} {b:Nat} {x:Box} (h:qy I ρ w (π b) (qp π x)) (hl:x.lZ m=true) (hb:σ b=ρ (π b)) (hs:∀ b y,b<m->ρ (π b)=some y->σ b=some y):qy I σ w b x:=by
  cases x with
  | absent=>exact hb.trans h
  | dead=>trivial
  | var xs =>
    obtain ⟨k,cap,cs,hr,hw,hz,hc⟩:=h
    refine ⟨k,cap,cs,hb.trans hr,hw,by simpa using hz,fun j u x hu hx=>Ig (hc j u (nU π x) hu (by simp [hx])) (List.all_eq_true.1 hl x (List.mem_of_getElem? hx)) hs⟩
  | dat sz es=>obtain ⟨k,cap,hr,h⟩:=h; exact ⟨k,cap,hb.trans hr,h⟩
  | row e l=>obtain ⟨k,cap,hr,h⟩:=h; exact ⟨k,cap,hb.trans hr,h⟩
  | sJ sz es=>obtain ⟨k,cap,hr,h⟩:=h; exact ⟨k,cap,hb.trans hr,h⟩
theorem Oh {π:Nat->Nat} {I:IH} {ρ σ:Ren} {w:World} {b:Nat} {x:Box} (h:qy I σ w b x) (hb:ρ (π b)=σ b) (hs:∀ b y,σ b=some y->ρ (π b)=some y):qy I ρ w (π b) (qp π x):=by
  cases x with
  | absent=>exact hb.trans h
  | dead=>trivial
  | var xs =>
    obtain ⟨k,cap,cs,hr,hw,hz,hc⟩:=h
    refine ⟨k,cap,cs,hb.trans hr,hw,by simpa using hz,fun j u x hu hx => ?_⟩
    rw [List.getElem?_map] at hx
    cases hc':xs[j]? with
    | none=>rw [hc'] at hx; cases hx
    | some c =>
      rw [hc'] at hx
      simp at hx
      subst hx
      exact Ie (hc j u c hu hc') hs
  | dat sz es=>obtain ⟨k,cap,hr,h⟩:=h; exact ⟨k,cap,hb.trans hr,h⟩
  | row e l=>obtain ⟨k,cap,hr,h⟩:=h; exact ⟨k,cap,hb.trans hr,h⟩
  | sJ sz es=>obtain ⟨k,cap,hr,h⟩:=h; exact ⟨k,cap,hb.trans hr,h⟩
theorem vP {π:Nat->Nat} {x:Box} {p:Option (Nat × Nat)} {k:Nat} : (qp π x).uses p k<->x.uses p k:=by
 cases x<;>exact Iff.rfl
theorem Nb {l:List Box} {b:Nat} (h:b<l.length):l[b]? = some (tH l b):=by
 unfold tH; rw [List.getD_eq_getElem?_getD,List.getElem?_eq_getElem h]; rfl
theorem uF {l:List Box} {b:Nat} (h:l.length<=b):tH l b = .absent:=by
 unfold tH; rw [List.getD_eq_getElem?_getD,List.getElem?_eq_none h]; rfl
theorem Jt (h:GX E I ρ n st a w) (hm:E.m<=10) {f:FuncId} {vs:List Value} {lX ds:List AV} {d:Option Nat} {K:bZ->Prop} {fp:List Box} {L nu:List Nat} {post:AV->List Box->Prop} {sg:List Nat} (hL:sg++nu=L) (hd':∀ x,d=some x->x<n) (hv:KF I ρ vs lX)
  (hl:sg.length=fp.length) (hn:L.Nodup) (hf:∀ i,i<fp.length->st.bx (L.getD i 0)=qp (fun b=>L.getD b 0) (fp.getD i .absent))
  (hnu:∀ b,b∈nu->st.bx b = .absent/\10<=b) (hra:(ds.all fun x=>x.all (AC.lZ fp.length))=true) (hrf:fp.all (Box.lZ fp.length)=true) (ha:lX=ds.map (qV fun b=>L.getD b 0)) (hp:iZ P f ds fp post)
  (k:∀ r bs,post r bs->bs.length=L.length/\K ((st.kT (L.zip (bs.map (qp fun b=>L.getD b 0)))).oM d (.v true (qV (fun b=>L.getD b 0) r)))) :
  Calls P f vs.toArray w fun e w'=>∃ v,e = .returned v/\AK E n K (a.put d v) w':=by
 generalize X9:(fun b=>L.getD b 0)=π at hf ha k
 have WB:∀ b,L.getD b 0=π b:=fun b=>congrFun X9 b
 have Yl:fp.length<=L.length:=by rw [<- hL]; simp; omega
 have EG:∀ b,b<L.length->L[b]? = some (π b):=fun b hb=>by rw [<- WB,List.getD_eq_getElem?_getD,List.getElem?_eq_getElem hb]; rfl
 have QT:∀ b,b<L.length->π b∈L:=fun b hb=>List.mem_of_getElem? (EG b hb)
 have QS:∀ b b',b<L.length->b'<L.length->π b=π b'->b=b':=fun b b' hb hb' e=>by
  have h1:=EG b hb; have h2:=EG b' hb'
  rw [List.getElem?_eq_getElem hb] at h1; rw [List.getElem?_eq_getElem hb'] at h2
  simp at h1 h2
  have hpw:=List.pairwise_iff_getElem.1 hn
  rcases Nat.lt_trichotomy b b' with hlt | heq | hlt
  ·exact absurd (by rw [h1,h2,e]) (hpw b b' hb hb' hlt)
  ·exact heq
  ·exact absurd (by rw [h1,h2,e]) (hpw b' b hb' hb hlt)
 let P6:Ren:=fun b=>if b<fp.length then ρ (π b) else none
 have hs:∀ b y,b<fp.length->ρ (π b)=some y->P6 b=some y:=fun b y hb e=>by simp [P6,hb,e]
 have hfb:∀ b,b<fp.length->st.bx (π b)=qp π (tH fp b):=fun b hb=>by have:=hf b hb; rw [WB] at this; exact this
 have hub:∀ b k,(tH fp b).uses (P6 b) k->b<fp.length/\(st.bx (π b)).uses (ρ (π b)) k:=fun b k hu=>by
  by_cases hb:b<fp.length
  ·refine ⟨hb,?_⟩
   rw [hfb b hb,vP]
   simpa [P6,hb] using hu
  ·rw [uF (by omega)] at hu; exact hu.elim
 have XV:BX I P6 w (tH fp):=by
  refine ⟨fun b => ?_,fun b b' k hb hb' => ?_,fun b k hb => ?_⟩
  ·by_cases hb:b<fp.length
   ·have:=h.bx.ok (π b)
    rw [hfb b hb] at this
    exact Oi this (List.all_eq_true.1 hrf _ (List.mem_of_getElem? (Nb hb))) (by simp [P6,hb]) hs
   ·rw [uF (by omega)]; show P6 b=none; simp [P6,hb]
  ·obtain ⟨h1,h2⟩:=hub b k hb
   obtain ⟨h1',h2'⟩:=hub b' k hb'
   exact QS b b' (by omega) (by omega) (h.bx.inj _ _ _ h2 h2')
  ·exact h.bx.fresh _ _ (hub b k hb).2
 have XW:KF I P6 vs ds:=by
  subst ha
  refine ⟨by simpa using hv.1,fun j v x hv' hx => ?_⟩
  exact Vt (hv.2 j v (qV π x) hv' (by simp [hx])) (List.all_eq_true.1 hra x (List.mem_of_getElem? hx)) hs
 refine (hp I P6 w vs h.tabs h.agree XV XW).mono ?_
 rintro e w' ⟨v,J,σ,r,bs,rfl,hpost,hg,hA,hB,hle,hF,hbw,hJ,hσ⟩
 obtain ⟨hbl,hk⟩:=k r bs hpost
 refine ⟨v,rfl,?_⟩
 have Xp:∀ b,L.length<=b->σ b=none:=fun b hb=>by have:=hB.ok b; rw [uF (by omega)] at this; exact this
 let ρ':Ren:=fun b=>open Classical in if b∈L then σ (L.idxOf b) else ρ b
 have zZ:∀ b,b<L.length->ρ' (π b)=σ b:=fun b hb=>by
  have h1:=QT b hb
  simp only [ρ',h1,if_true]
  have hi:=List.idxOf_lt_length_of_mem h1
  have h2:L[L.idxOf (π b)]? = some (π b):=by rw [List.getElem?_eq_getElem hi]; simp
  have h3:=EG _ hi
  rw [h2] at h3
  simp only [Option.some.injEq] at h3
  rw [<- QS _ _ hb hi h3]
 have JQ:∀ b,b ∉ L->ρ' b=ρ b:=fun b hb=>by simp [ρ',hb]
 have hin:∀ b,b∈L->∃ i,i<L.length/\π i=b:=fun b hb=>by
  have hi:=List.idxOf_lt_length_of_mem hb
  refine ⟨_,hi,?_⟩
  have h2:L[L.idxOf b]? = some b:=by rw [List.getElem?_eq_getElem hi]; simp
  have h3:=EG _ hi
  rw [h2] at h3
  simpa using h3.symm
 have UR:∀ i,fp.length<=i->i<L.length->π i∈nu:=fun i h1 h2=>by
  have h3:=EG i h2
  rw [<- hL,List.getElem?_append_right (by omega)] at h3
  exact List.mem_of_getElem? h3
 have hle':ρ.le ρ':=fun b y hb=>by
  by_cases hm':b∈L
  ·obtain ⟨i,hi,rfl⟩:=hin b hm'
   rw [zZ i hi]
   by_cases hif:i<fp.length
   ·rw [hσ i hif]; exact hs i y hif hb
   ·have h1:=(hnu _ (UR i (by omega) hi)).1
    have h2:=h.bx.ok (π i)
    rw [h1] at h2
    rw [show ρ (π i)=none from h2] at hb; cases hb
  ·rw [JQ b hm']; exact hb
 have Wx:∀ b y,σ b=some y->ρ' (π b)=some y:=fun b y hb=>by
  by_cases hbL:b<L.length
  ·rw [zZ b hbL]; exact hb
  ·rw [Xp b (by omega)] at hb; cases hb
 have hlz:(L.zip (bs.map (qp π))).map (·.1)=L:=by
  rw [List.map_fst_zip]; simp [hbl]
 have OG:∀ i,i<L.length->(st.kT (L.zip (bs.map (qp π)))).bx (π i)=qp π (tH bs i):=fun i hi=>by
  refine RV _ _ (by rw [hlz]; exact hn) (j:=i) ?_
  rw [List.getElem?_zip_eq_some]
  exact ⟨EG i hi,by rw [List.getElem?_map,Nb (by omega)]; rfl⟩
 have hbx2:∀ b,b ∉ L->(st.kT (L.zip (bs.map (qp π)))).bx b=st.bx b:=fun b hb=>xK _ _ (by rw [hlz]; exact hb)
 have hnot:∀ b k,b ∉ L->(st.bx b).uses (ρ b) k->k<w.heap.size/\¬ ∃ b',(tH fp b').uses (P6 b') k:=fun b k hb hu=>by
  refine ⟨(h.bx.ok b).lt hu,?_⟩
  rintro ⟨b',hb'⟩
  obtain ⟨h1,h2⟩:=hub b' k hb'
  have:=h.bx.inj _ _ _ hu h2
  exact hb (this ▸ QT b' (by omega))
 have hother:∀ b k,b ∉ L->(st.bx b).uses (ρ b) k->w'.heap[k]? = w.heap[k]? := fun b k hb hu=>let ⟨h1,h2⟩:=hnot b k hb hu; hF.block k h1 h2
 have Wn:∀ i k,i<L.length->(tH bs i).uses (σ i) k->∀ b,b ∉ L->¬ (st.bx b).uses (ρ b) k:=fun i k hi hu b hb hu'=>by
  obtain ⟨h1,h2⟩:=hnot b k hb hu'
  rcases hbw i k hu with h3 | h3
  ·omega
  ·exact h2 h3
 generalize hst:st.kT (L.zip (bs.map (qp π)))=st' at *
 have X6:st'.tm=st.tm:=by rw [<- hst,AU]
 have hgx:GX E J ρ' n st' a w':=by
  refine { agree:=hA,bx:=⟨fun b => ?_,fun b b' k hb hb' => ?_,fun b k hb => ?_⟩,tm:=fun t ht => ?_,size:=h.size,defers:=h.defers,vW := ?_,own:=fun b k hb => ?_,DT:=IH.le_trans h.DT hle,uo:=fun k hk0 hM => ?_,nJ:=fun b hb => ?_ }
  ·by_cases hb:b∈L
   ·obtain ⟨i,hi,rfl⟩:=hin b hb
    rw [OG i hi]
    exact Oh (hB.ok i) (zZ i hi) Wx
   ·rw [hbx2 b hb]
    exact (h.bx.ok b).keep hle hle' (JQ b hb) (fun k hu=>hother b k hb hu)
  ·by_cases hbL:b∈L
   ·obtain ⟨i,hi,rfl⟩:=hin b hbL
    rw [OG i hi,vP,zZ i hi] at hb
    by_cases JO:b'∈L
    ·obtain ⟨i',hi',rfl⟩:=hin b' JO
     rw [OG i' hi',vP,zZ i' hi'] at hb'
     rw [hB.inj _ _ _ hb hb']
    ·rw [hbx2 b' JO,JQ b' JO] at hb'
     exact absurd hb' (Wn i k hi hb b' JO)
   ·rw [hbx2 b hbL,JQ b hbL] at hb
    by_cases JO:b'∈L
    ·obtain ⟨i',hi',rfl⟩:=hin b' JO
     rw [OG i' hi',vP,zZ i' hi'] at hb'
     exact absurd hb (Wn i' k hi' hb' b hbL)
    ·rw [hbx2 b' JO,JQ b' JO] at hb'
     exact h.bx.inj _ _ _ hb hb'
  ·by_cases hbL:b∈L
   ·obtain ⟨i,hi,rfl⟩:=hin b hbL
    rw [OG i hi,vP,zZ i hi] at hb
    exact hB.fresh _ _ hb
   ·rw [hbx2 b hbL,JQ b hbL] at hb
    obtain ⟨h1,h2⟩:=hnot b k hbL hb
    rw [hJ k h1 h2]
    exact h.bx.fresh _ _ hb
  ·rw [X6]; exact (h.tm t ht).mono hle hle'
  ·refine h.vW.trans hF ?_
   rintro x hx ⟨b',hb'⟩
   rcases h.own _ _ (hub b' x hb').2 with h1 | h1
   ·omega
   ·exact h1
  ·by_cases hbL:b∈L
   ·obtain ⟨i,hi,rfl⟩:=hin b hbL
    rw [OG i hi,vP,zZ i hi] at hb
    rcases hbw i k hb with h1 | ⟨b',hb'⟩
    ·exact .inl (Nat.le_trans h.vW.size h1)
    ·exact h.own _ _ (hub b' k hb').2
   ·rw [hbx2 b hbL,JQ b hbL] at hb
    exact h.own _ _ hb
  ·rw [hJ k (Nat.lt_of_lt_of_le hk0 h.vW.size)]
   ·exact h.uo k hk0 hM
   ·rintro ⟨b',hb'⟩
    rcases h.own _ _ (hub b' k hb').2 with h1 | h1
    ·omega
    ·exact hM h1
  ·by_cases hbL:b∈L
   ·obtain ⟨i,hi,rfl⟩:=hin b hbL
    rw [zZ i hi]
    by_cases hif:i<fp.length
    ·rw [hσ i hif,<- h.nJ _ hb]; simp [P6,hif]
    ·have:=(hnu _ (UR i (by omega) hi)).2; omega
   ·rw [JQ b hbL]; exact h.nJ b hb
 exact ⟨J,ρ',_,hk,hgx.oM hd' ⟨fun _=>Vs hg Wx,fun e=>by cases e⟩⟩
end
end Go.Ab
end
section
namespace Go.Ab
open Go
section
variable {P:Program} {E:Env P} {I:IH} {ρ:Ren} {n:Nat} {st:bZ} {a:Act} {w:World}
def zQ (n:Nat):List Operand->List iY->Bool
 | [],[]=>true
 | x::xs,y::ys=>fC n x y&&zQ n xs ys
 | _,_=>false
def Ef (n:Nat) (ops:Array Oper):Option (Nat × Bool)->Option (Nat × Bool)->Bool
 | none,none=>true
 | some (j,w),some (s,w')=>w==w'&&decide (s<n)&&(match ops[j]? with | some o=>o.dst==some s | none=>false)
 | _,_=>false
def Lr (n:Nat):Option Nat->Option Nat->Bool
 | none,none=>true
 | some x,some y=>x==y&&decide (x<n)
 | _,_=>false
def Ls (P:Program) (n m:Nat) (op:Op) (d:Option Nat):DX->Bool
  | .op ao=>Dk P n m op d ao
  | .call f args=>match op with
    | .call ⟨.value (.func f'),az,_⟩=>f'==f&&zQ n az.toList args&&jT P f
    | _=>false
  | .ve x args=>match op with
    | .call ⟨.value x',az,_⟩=>fC n x' x&&zQ n az.toList args
    | _=>false
def DR (P:Program) (n m:Nat) (ops:Array Oper) (o:Oper) (ao:gK):Bool :=
 Ef n ops o.guard ao.g&&Lr n o.dst ao.d&&Ls P n m o.op o.dst ao.i
theorem Iq (h:GX E I ρ n st a w):∀ {xs:List Operand} {ys:List iY},zQ n xs ys=true->(∀ y,y∈ys->(y.ev st.tm).g=true) ->
    KF I ρ (xs.map a.eval) (ys.map (aU st.tm))
  | [],[],_,_=>⟨rfl,fun j v x hv hx=>by simp at hv⟩
  | x::xs,y::ys,hc,hg=>by
    simp only [zQ,Bool.and_eq_true] at hc
    have ih:=Iq h hc.2 (fun y hy=>hg y (List.mem_cons_of_mem _ hy))
    refine ⟨by simpa using ih.1,fun j v z hv hz => ?_⟩
    cases j with
    | zero =>
      simp at hv hz
      subst hv; subst hz
      exact iE h hc.1 (hg y (List.mem_cons_self ..))
    | succ j=>exact ih.2 j v z (by simpa using hv) (by simpa using hz)
  | [],_::_,hc,_=>by cases hc
  | _::_,[],hc,_=>by cases hc
theorem Vp {d d':Option Nat} (h:Lr n d d'=true):d=d'/\∀ x,d'=some x->x<n:=by
 unfold Lr at h
 split at h
 ·exact ⟨rfl,fun x hx=>by cases hx⟩
 ·simp only [Bool.and_eq_true,beq_iff_eq,decide_eq_true_eq] at h
  obtain ⟨rfl,h2⟩:=h
  exact ⟨rfl,fun x hx=>by cases hx; exact h2⟩
 ·cases h
theorem QE (h:GX E I ρ n st a w) {ops:Array Oper} {o:Oper} {g:Option (Nat × Bool)} (hc:Ef n ops o.guard g=true) (hv:qh st.tm g) :
  Region.wanted o (yielded ops a.tmps)=lS st.tm g:=by
 unfold Ef at hc
 split at hc
 ·rename_i e; simp [Region.wanted,e,lS]
 ·rename_i j Yo s Yh e
  simp only [Bool.and_eq_true,beq_iff_eq,decide_eq_true_eq] at hc
  obtain ⟨⟨rfl,hs⟩,hj⟩:=hc
  have hb:(ops[j]?).bind (·.dst)=some s:=by
   cases hoj:ops[j]? with
   | none=>rw [hoj] at hj; cases hj
   | some o'=>rw [hoj] at hj; simpa using hj
  have ht:=h.tm s hs
  have hsz:s<a.tmps.size:=by rw [h.size]; exact hs
  have hget:a.tmps[s]? = some (a.tmps.getD s undef):=by simp [Array.getD,hsz]
  simp only [Region.wanted,e,lS,yielded,hb,Option.bind_some,hget]
  simp only [qh] at hv
  split at hv
  ·rename_i x hg
   rw [hg] at ht
   have:=ht.2 rfl
   rw [this,hg]
   simp [undef]
  ·rename_i b hg
   rw [hg] at ht
   have:=x8 (ht.1 rfl)
   rw [this,hg]
   simp
  ·exact hv.elim
 ·cases hc
theorem Jy {o:Oper} {x:Operand} {az:Array Operand} {ts:Array TypeId} {f:FuncId} {caps:Array Value} (ho:o.op = .call ⟨.value x,az,ts⟩) (hx:a.eval x = .func (.func f) #[] caps) (hf:jT P f=true) :
    (execOp a.eval o).run P w = .ok (.enter f (az.map a.eval++caps)) w:=by
  unfold jT at hf
  cases hp:P.funcs[f]? with
  | none=>rw [hp] at hf; cases hf
  | some fn =>
    rw [hp] at hf
    simp only [Bool.and_eq_true,Bool.not_eq_true'] at hf
    obtain ⟨h1,h2⟩:=hf
    have h1':¬ fn.name = "runtime.NumGoroutine" := by simpa using h1
    obtain ⟨b,hb⟩:=Option.isSome_iff_exists.1 h2
    simp [execOp,ho,resolve,hx,Deferred.ofValue,invoke,callFunc,hp,h1',hb]
theorem Fg {o:Oper} {f:FuncId} {args:Array Value} {K:Act->World->Prop} {Q:Exit->Act->World->Prop} (he:(execOp a.eval o).run P w = .ok (.enter f args) w)
  (h:Calls P f args w fun e w'=>∃ v,e = .returned v/\K (a.put o.dst v) w'):o.wp P a w K Q:=by
 unfold Oper.wp
 rw [he,Oper.upon_enter]
 refine h.mono ?_
 rintro e w' ⟨v,rfl,hk⟩
 exact hk
theorem CZ (h:GX E I ρ n st a w) (hm:E.m<=10) {f:FuncId} {vs:List Value} {lX:List AV} {d:Option Nat} {K:List Nat->List Nat->bZ->Prop} (hd:∀ x,d=some x->x<n) (hv:KF I ρ vs lX)
    (hT:zF P f lX true d st K):Calls P f vs.toArray w fun e w'=>∃ v,e = .returned v/\AK E n (fun st=>∃ rd wr,K rd wr st) (a.put d v) w':=by
  cases hT with
  | lit ds r hc hds hh hr k=>exact Qm h hd hv (hc rfl) hds (hh rfl) hr ⟨_,_,k⟩
  | pure ds r hp hc hds hh hr k=>exact Oj h hd hv hc hds hh hr ⟨_,_,k⟩
  | Dl hp az hc ds fp sg nu post hl hn hf hne hnu hra hrf ha hh k =>
    have hv':=Ep h (bs:=lX.flatMap AV.owns) hv hc (fun b hb=>hb)
    have h':=h.freeze (lX.flatMap AV.owns)
    refine Jt h' hm rfl hd hv' hl hn hf (fun b hb=>⟨?_,(hnu b hb).2⟩) hra hrf ha hh (fun r bs hpo=>⟨(k r bs hpo).1,_,_,(k r bs hpo).2⟩)
    rw [oW,(hnu b hb).1]
    split<;>rfl
  | gen hp ds fp sg nu post hl hn hf hne hnu hra hrf ha hh k=>exact Jt h hm rfl hd hv hl hn hf hnu hra hrf ha hh (fun r bs hpo=>⟨(k r bs hpo).1,_,_,(k r bs hpo).2⟩)
theorem Fa {f:FuncId} {lX:List AV} {d:Option Nat} {K:List Nat->List Nat->bZ->Prop} (hT:zF P f lX false d st K):∃ r rd wr,K rd wr (st.oM d (.v false r)):=by
 cases hT with
 | lit ds r hc hds hh hr k=>exact ⟨_,_,_,k⟩
 | pure ds r hp=>cases hp
 | gen hp=>cases hp
 | Dl hp=>cases hp
def IX (P:Program) (ops:Array Oper) (Q:Exit->Act->World->Prop) (o:Oper) (K:Act->World->Prop) (a:Act) (w:World):Prop :=
 if Region.wanted o (yielded ops a.tmps) then o.wp P a w K Q\/(o.asks P a w/\LetsOut Q) else K (a.put o.dst undef) w
theorem AK.imp {K K':bZ->Prop} (hk:∀ st,K st->K' st) {a:Act} {w:World} (h:AK E n K a w):AK E n K' a w :=
 let ⟨I,ρ,st,h1,h2⟩:=h; ⟨I,ρ,st,hk _ h1,h2⟩
theorem MZ (h:GX E I ρ n st a w) (hm:E.m<=10) {ops:Array Oper} {Q:Exit->Act->World->Prop} {o:Oper} {ao:gK} (hc:DR P n E.m ops o ao=true) {K:List Nat->List Nat->bZ->Prop} (hT:T P ao st K) :
    IX P ops Q o (AK E n fun st=>∃ rd wr,K rd wr st) a w:=by
  simp only [DR,Bool.and_eq_true] at hc
  obtain ⟨⟨hcg,hcd⟩,hci⟩:=hc
  obtain ⟨hdd,hdn⟩:=Vp hcd
  obtain ⟨hgv,hT⟩:=hT
  have hw:=QE h hcg hgv
  have skip:∀ r,(∃ rd wr,K rd wr (st.oM ao.d (.v false r)))->AK E n (fun st=>∃ rd wr,K rd wr st) (a.put o.dst undef) w:=fun r hk =>
    ⟨I,ρ,_,hk,by rw [hdd]; exact h.oM hdn ⟨(fun e=>by cases e),fun _=>rfl⟩⟩
  unfold IX
  rw [hw]
  cases hi:ao.i with
  | op op =>
    rw [hi] at hT hci
    obtain ⟨h1,h2⟩:=hT
    cases hp:lS st.tm ao.g with
    | false =>
      simpa using skip _ ⟨_,_,h2 hp⟩
    | true =>
      obtain ⟨hv,dW,h3⟩:=h1 hp
      obtain ⟨v,w',I',ρ',hr,hg,Xl⟩:=RH h hci hv dW
      simp only [if_true]
      refine .inl ?_
      have key:AK E n (fun st=>∃ rd wr,K rd wr st) (a.put o.dst v) w':=by
        refine ⟨I',ρ',_,⟨_,_,h3⟩,?_⟩
        rw [hdd]
        cases hd:ao.d with
        | none=>exact hg
        | some d=>exact hg.put (hdn d hd) ⟨fun _=>Xl (by rw [hdd,hd]; simp),fun e=>by cases e⟩
      unfold Oper.wp
      rcases hr with hr | ⟨hr,hnd⟩
      · rw [hr]; exact key
      · rw [hr,Oper.upon_skip]
        rw [hnd] at key ⊢
        exact key
  | call f args =>
    rw [hi] at hT hci
    simp only [Ls] at hci
    split at hci
    · rename_i f' az ts ho
      simp only [Bool.and_eq_true,beq_iff_eq] at hci
      obtain ⟨⟨rfl,hca⟩,hok⟩:=hci
      obtain ⟨h1,h2⟩:=hT
      cases hp:lS st.tm ao.g with
      | false =>
        rw [hp] at h2
        obtain ⟨r,hk⟩:=Fa h2
        simpa using skip r hk
      | true =>
        rw [hp] at h1 h2
        simp only [if_true]
        refine .inl (Fg (Jy ho (x := .func f') (caps := #[]) rfl hok) ?_)
        have hvs:=Iq h hca (h1 rfl)
        have:=CZ h hm hdn hvs h2
        rw [hdd]
        simpa [<- Array.toList_map] using this
    · cases hci
  | ve x args =>
    rw [hi] at hT hci
    simp only [Ls] at hci
    split at hci
    · rename_i x' az ts ho
      simp only [Bool.and_eq_true] at hci
      obtain ⟨hcx,hca⟩:=hci
      obtain ⟨hg0,h2⟩:=hT
      cases hp:lS st.tm ao.g with
      | false =>
        rw [hp] at h2
        obtain ⟨r,hk⟩:=Fa h2
        simpa using skip r hk
      | true =>
      rw [hp] at h2
      obtain ⟨hg1,h1⟩:=hg0 hp
      split at h2
      · rename_i hb; cases hb
      · rename_i f caps _ hf
        obtain ⟨hok,h2⟩:=h2
        have hx:=iE h hcx hg1
        rw [hf] at hx
        obtain ⟨ks,hk1,hk2,hk3⟩:=hx
        · skip
          simp only [if_true]
          refine .inl (Fg (Jy ho hk3 hok) ?_)
          have hvs:=Iq h hca h1
          have hvs':KF I ρ (az.toList.map a.eval++ks.map fun k=>Value.pointer (some ⟨k,0,none⟩)) (args.map (aU st.tm)++caps.map fun b=>AV.one (.ptr b 0)):=by
            refine ⟨by have:=hvs.1; simp at this; simp [hk1,this],fun j v z hv hz => ?_⟩
            by_cases hj:j<(az.toList.map a.eval).length
            · rw [List.getElem?_append_left hj] at hv
              rw [List.getElem?_append_left (by rw [<- hvs.1]; exact hj)] at hz
              exact hvs.2 j v z hv hz
            · rw [List.getElem?_append_right (by omega)] at hv
              rw [List.getElem?_append_right (by rw [<- hvs.1]; omega)] at hz
              rw [hvs.1] at hv
              generalize j-(args.map (aU st.tm)).length=i at hv hz
              rw [List.getElem?_map] at hv hz
              cases hki:ks[i]? with
              | none=>rw [hki] at hv; cases hv
              | some k =>
                cases hci:caps[i]? with
                | none=>rw [hci] at hz; cases hz
                | some b =>
                  rw [hki] at hv; rw [hci] at hz
                  simp at hv hz
                  subst hv; subst hz
                  obtain ⟨cap,hr⟩:=hk2 i b k hci hki
                  exact ⟨k,cap,hr,rfl⟩
          have:=CZ h hm hdn hvs' h2
          rw [hdd]
          have e:(az.map a.eval++(ks.map fun k=>Value.pointer (some ⟨k,0,none⟩)).toArray)=(az.toList.map a.eval++ks.map fun k=>Value.pointer (some ⟨k,0,none⟩)).toArray:=by
            apply Array.ext'; simp
          rw [e]
          exact this
      · exact h2.elim
    · cases hci
end
end Go.Ab
end
section
namespace Go.Ab
open Go
section
variable {ev ev':iY->AV} {bx bx':Nat->Box}
theorem tu {o:Option iY} {k:Nat} (h:∀ x,o=some x->ev x=ev' x):bnd ev o k=bnd ev' o k:=by
 cases o with
 | none=>rfl
 | some x=>simp only [bnd,h x rfl]
theorem ug {n sz:Nat} : ∀ {ps:List (Nat × iY)},(∀ p,p∈ps->ev p.2=ev' p.2)->oq ev bx n sz ps=oq ev' bx n sz ps/\lV ev ps=lV ev' ps/\o7 ev bx ps=o7 ev' bx ps
  | [],_=>⟨rfl,rfl,rfl⟩
  | (i,x)::r,h=>by
    obtain ⟨h1,h2,h3⟩:=ug (n:=n) (sz:=sz) (ps:=r) (fun p hp=>h p (List.mem_cons_of_mem _ hp))
    simp only [oq,lV,o7,h (i,x) (List.mem_cons_self ..),h1,h2,h3,and_self]
theorem Xh (op:fA) (he:∀ x,x∈op.gm->ev x=ev' x):op.f ev bx=op.f ev' bx:=by
 cases op
 case build zs ps =>
  have h1:∀ p,p∈ps->ev p.2.2=ev' p.2.2:=fun p hp=>he _ (List.mem_map_of_mem hp)
  simp only [fA.f]
  congr 1
  ·apply propext
   constructor
   ·intro h p hp; rw [<- h1 p hp]; exact h p hp
   ·intro h p hp; rw [h1 p hp]; exact h p hp
  ·congr 2
   exact List.map_congr_left fun p hp=>by rw [h1 p hp]
 case kX l sz n zs ps =>
  have h1:∀ p,p∈ps->ev p.2=ev' p.2:=fun p hp=>he _ (List.mem_map_of_mem hp)
  obtain ⟨c1,c2,c3⟩:=ug (bx:=bx) (n:=n) (sz:=sz) h1
  simp only [fA.f,c1,c2,c3]
 case Il f cs =>
  have h1:cs.map ev=cs.map ev':=List.map_congr_left fun x hx=>he x hx
  simp only [fA.f,h1]
 case EW x lo hi =>
  have h1:=he x (by simp [fA.gm])
  have h2:∀ y,lo=some y->ev y=ev' y:=fun y hy=>he y (by simp [fA.gm,hy])
  have h3:∀ y,hi=some y->ev y=ev' y:=fun y hy=>he y (by simp [fA.gm,hy])
  simp only [fA.f,h1,tu h2,tu h3]
 case sZ sz x lo hi =>
  have h1:=he x (by simp [fA.gm])
  have h2:∀ y,lo=some y->ev y=ev' y:=fun y hy=>he y (by simp [fA.gm,hy])
  have h3:∀ y,hi=some y->ev y=ev' y:=fun y hy=>he y (by simp [fA.gm,hy])
  simp only [fA.f,h1,tu h2,tu h3]
 case iK sz x lo hi =>
  have h1:=he x (by simp [fA.gm])
  have h2:∀ y,lo=some y->ev y=ev' y:=fun y hy=>he y (by simp [fA.gm,hy])
  have h3:∀ y,hi=some y->ev y=ev' y:=fun y hy=>he y (by simp [fA.gm,hy])
  have h4:bnd ev hi=bnd ev' hi:=funext fun k=>tu h3
  simp only [fA.f,h1,tu h2,h4]
 all_goals
  simp only [fA.gm,List.mem_cons,List.not_mem_nil,or_false,forall_eq_or_imp,forall_eq] at he
  simp only [fA.f,he]
theorem WJ (op:fA) (he:∀ x,x∈op.gm->ev x=ev' x):op.rd ev=op.rd ev':=by
 cases op
 case build zs ps=>rfl
 case kX l sz n zs ps =>
  have h1:∀ p,p∈ps->ev p.2=ev' p.2:=fun p hp=>he _ (List.mem_map_of_mem hp)
  simp only [fA.rd,(ug (bx:=fun _ => .absent) (n:=n) (sz:=sz) h1).2.1]
 case Il f cs=>rfl
 case EW x lo hi=>rfl
 case sZ sz x lo hi=>rfl
 case iK sz x lo hi=>rfl
 all_goals
  simp only [fA.gm,List.mem_cons,List.not_mem_nil,or_false,forall_eq_or_imp,forall_eq] at he
  simp only [fA.rd,he]
theorem xO {sz:Nat} {x:AV} (h:∀ b,b∈lvl x->bx b=bx' b):kK sz x bx=kK sz x bx':=by
  cases x with
  | one x =>
    cases x
    case own b n sz'=>simp only [kK,h b (by simp [lvl])]
    case sub b lo n c sz'=>simp only [kK,h b (by simp [lvl])]
    case c y=>cases y<;>rfl
    all_goals rfl
  | _=>rfl
theorem Q9 {agg:Bool} {k:Nat} {x:AV} (h:∀ b,b∈lvl x->bx b=bx' b):oH agg k x bx=oH agg k x bx':=by
  cases x with
  | one x =>
    cases x
    case ptr b off=>simp only [oH,h b (by simp [lvl])]
    case oI b i sz off=>simp only [oH,h b (by simp [lvl])]
    all_goals rfl
  | _=>rfl
theorem Ox {x:AC} (h:∀ b,b∈jd [x]->bx b=bx' b):dataOf bx x=dataOf bx' x:=by
 cases x
 case own b n sz=>simp only [dataOf,h b (by simp [jd])]
 all_goals rfl
theorem Gv {x:AC} {r:List AC} {b:Nat} : b∈jd (x::r)<->b∈jd [x]\/b∈jd r:=by
 cases x<;>simp [jd]
theorem Es:∀ {xs:List AC},(∀ b,b∈jd xs->bx b=bx' b)->wP bx xs=wP bx' xs/\oD bx xs=oD bx' xs/\Ib bx (jd xs)=Ib bx' (jd xs)
  | [],_=>⟨rfl,rfl,rfl⟩
  | x::r,h=>by
    obtain ⟨h1,h2,h3⟩:=Es (xs:=r) (fun b hb=>h b (Gv.2 (.inr hb)))
    refine ⟨?_,?_,List.map_congr_left fun b hb=>by rw [h b hb]⟩
    · simp only [wP,h1,Ox (x:=x) (fun b hb=>h b (Gv.2 (.inl hb)))]
    · cases x
      case own b n sz=>simp only [oD,h2,h b (by simp [jd])]
      all_goals exact h2
theorem PG {agg:Bool} {k:Nat} {p x:AV} (h:∀ b,b∈lvl p++(match p with | .one (.oI _ _ _ _)=>jd x.cells | _=>[])->bx b=bx' b):jX agg k p x bx=jX agg k p x bx':=by
  cases p with
  | one p =>
    cases p
    case ptr b off=>simp only [jX,h b (by simp [lvl])]
    case oI b i sz off =>
      obtain ⟨h1,h2,h3⟩:=Es (bx:=bx) (bx':=bx') (xs:=x.cells) (fun c hc=>h c (by simp only [lvl,List.mem_append]; exact .inr hc))
      have h4:=h b (by simp [lvl])
      cases x<;>cases agg<;>first | rfl | (simp only [jX,h4,h1,h2,h3])
    all_goals rfl
  | _=>rfl
theorem CU {n sz:Nat} : ∀ {ps:List (Nat × iY)},(∀ b,b∈lV ev ps->bx b=bx' b)->oq ev bx n sz ps=oq ev bx' n sz ps/\o7 ev bx ps=o7 ev bx' ps
  | [],_=>⟨rfl,rfl⟩
  | (i,x)::r,h=>by
    obtain ⟨h1,h2⟩:=CU (n:=n) (sz:=sz) (ps:=r) (fun b hb=>h b (by simp only [lV,List.mem_append]; exact .inr hb))
    obtain ⟨g1,g2,g3⟩:=Es (bx:=bx) (bx':=bx') (xs:=(ev x).cells) (fun b hb=>h b (by simp only [lV,List.mem_append]; exact .inl hb))
    simp only [oq,o7,h1,h2,g1,g2,and_self]
theorem Xg (op:fA) (hb:∀ b,b∈op.rd ev->bx b=bx' b):op.f ev bx=op.f ev bx':=by
  cases op
  case load agg k p=>exact Q9 hb
  case store agg k p x=>exact PG hb
  case alloc l zs=>simp only [fA.f,hb l (by simp [fA.rd])]
  case yM T e l r=>simp only [fA.f,hb l (by simp [fA.rd]),hb r (by simp [fA.rd])]
  case yL l sz n zs=>simp only [fA.f,hb l (by simp [fA.rd])]
  case box l x=>simp only [fA.f,hb l (by simp [fA.rd])]
  case kX l sz n zs ps =>
    obtain ⟨h1,h2⟩:=CU (bx:=bx) (bx':=bx') (n:=n) (sz:=sz) (ps:=ps) (fun b hm=>hb b (by simp only [fA.rd]; exact List.mem_cons_of_mem _ hm))
    have h3:Ib bx (lV ev ps)=Ib bx' (lV ev ps):=List.map_congr_left fun b hm=>by rw [hb b (by simp only [fA.rd]; exact List.mem_cons_of_mem _ hm)]
    simp only [fA.f,hb l (by simp [fA.rd]),h1,h2,h3]
  case makes l sz bytes zs n m=>simp only [fA.f,hb l (by simp [fA.rd])]
  case FM x=>simp only [fA.f,xO hb]
  case EU sz n x =>
    simp only [fA.f]
    cases hx:ev x with
    | one y =>
      cases y
      case oI b i sz off =>
        have:=hb b (by simp [fA.rd,lvl,hx])
        cases i<;>cases off<;>simp only [this]
      all_goals rfl
    | _=>rfl
  case append l sz bytes s x =>
    have h1:=hb l (by simp [fA.rd])
    simp only [fA.f,xO (x:=ev x) (fun b hb'=>hb b (by simp [fA.rd,hb'])),h1]
    cases hs:ev s with
    | one y =>
      cases y
      case own b n sz'=>simp only [hb b (by simp [fA.rd,lvl,hs])]
      all_goals rfl
    | _=>rfl
  case copy sz d x =>
    simp only [fA.f,xO (x:=ev x) (fun b hb'=>hb b (by simp [fA.rd,hb']))]
    cases hs:ev d with
    | one y =>
      cases y
      case own b n sz'=>simp only [hb b (by simp [fA.rd,lvl,hs])]
      all_goals rfl
    | _=>rfl
  case Du l sz bytes s x =>
    have h1:=hb l (by simp [fA.rd])
    simp only [fA.f,mV,xO (x:=ev x) (fun b hb'=>hb b (by simp [fA.rd,hb'])),h1]
    generalize kK sz (ev x) bx'=so
    cases hs:ev s with
    | one y =>
      cases y
      case sub b lo n c sz' =>
        have h2:=hb b (by simp [fA.rd,lvl,hs])
        cases c<;>rcases so with _ | ⟨p,ys⟩<;>first | rfl | (simp only [h2])
      all_goals (rcases so with _ | ⟨p,ys⟩<;>rfl)
    | _=>rcases so with _ | ⟨p,ys⟩<;>rfl
  case GM l sz bytes zs s x =>
    have h1:=hb l (by simp [fA.rd])
    simp only [fA.f,mQ,h1]
    generalize ev x=y'
    have hb2:∀ b,b∈lvl (ev s)->bx b=bx' b:=fun b hb'=>hb b (by simp [fA.rd,hb'])
    rcases y' with x | x | x
    · rcases x with c | _ | _ | _ | _ | _ | _ | _ | _
      · rcases c with v | _ | _
        · cases v
          case int k q =>
            cases hs:ev s with
            | one y =>
              cases y
              case sub b lo n c sz' =>
                have h2:=hb2 b (by simp [lvl,hs])
                cases c<;>simp [h2]
              all_goals rfl
            | _=>rfl
          all_goals (generalize ev s=z; rcases z with (_ | _ | _ | _ | ⟨b,lo,n,_ | c,sz'⟩ | _ | _ | _ | _) | _ | _<;>rfl)
        all_goals (generalize ev s=z; rcases z with (_ | _ | _ | _ | ⟨b,lo,n,_ | c,sz'⟩ | _ | _ | _ | _) | _ | _<;>rfl)
      all_goals (generalize ev s=z; rcases z with (_ | _ | _ | _ | ⟨b,lo,n,_ | c,sz'⟩ | _ | _ | _ | _) | _ | _<;>rfl)
    all_goals (generalize ev s=z; rcases z with (_ | _ | _ | _ | ⟨b,lo,n,_ | c,sz'⟩ | _ | _ | _ | _) | _ | _<;>rfl)
  case uO sz d x =>
    have ht:∀ m,lvl (truncS m (ev x))=lvl (ev x):=fun m=>by rcases ev x with (_ | _ | _ | _ | _ | _ | _ | _ | _) | _ | _<;>rfl
    have hsrc:∀ m,kK sz (truncS m (ev x)) bx=kK sz (truncS m (ev x)) bx':=fun m=>xO (fun b hb'=>hb b (by rw [ht] at hb'; simp [fA.rd,hb']))
    simp only [fA.f,mX,hsrc]
    cases hs:ev d with
    | one y =>
      cases y
      case own b n sz' =>
        have h2:=hb b (by simp [fA.rd,lvl,hs])
        simp only [rf]
        rcases kK sz (truncS n (ev x)) bx' with _ | ⟨p,ys⟩<;>first | rfl | (simp only [h2])
      case sub b lo n c sz' =>
        have h2:=hb b (by simp [fA.rd,lvl,hs])
        simp only [rf]
        rcases kK sz (truncS n (ev x)) bx' with _ | ⟨p,ys⟩<;>first | rfl | (simp only [h2])
      all_goals rfl
    | _=>rfl
  case Tj x y =>
    have key:∀ (u:AV),(∀ b,b∈lvl u->bx b=bx' b)->∀ b lo n c sz,rf u=some (b,lo,n,c,sz)->bx b=bx' b:=by
      intro u hu b lo n c sz hs
      unfold rf at hs
      split at hs
      · cases hs; exact hu _ (by simp [lvl])
      · cases hs; exact hu _ (by simp [lvl])
      · cases hs
    have k1:=key (ev x) (fun b hb'=>hb b (by simp [fA.rd,hb']))
    have k2:=key (ev y) (fun b hb'=>hb b (by simp [fA.rd,hb']))
    simp only [fA.f,Ir]
    generalize rf (ev x)=u at k1
    generalize rf (ev y)=v at k2
    rcases u with _ | ⟨b,lo,n,c,sz⟩<;>rcases v with _ | ⟨b',lo',n',c',sz'⟩<;>try rfl
    simp only [k1 b lo n c sz rfl,k2 b' lo' n' c' sz' rfl]
  case IK sz zs x =>
    simp only [fA.f,mW]
    cases hs:ev x with
    | one y =>
      cases y
      case own b n sz'=>simp only [rf,hb b (by simp [fA.rd,lvl,hs])]
      case sub b lo n c sz'=>simp only [rf,hb b (by simp [fA.rd,lvl,hs])]
      all_goals rfl
    | _=>rfl
  all_goals rfl
theorem SB {e e':iY->Slot} (op:fA) (he:∀ x,x∈op.gm->e x=e' x) (h:op.valid e):op.valid e':=by
 cases op
 case pick c a b =>
  have h1:=he c (by simp [fA.gm])
  have h2:=he a (by simp [fA.gm])
  have h3:=he b (by simp [fA.gm])
  simp only [fA.valid,h1,h2,h3] at h ⊢
  exact h
 all_goals exact fun x hx=>he x hx ▸ h x hx
theorem UK {x y:AC} (h:Cv bx x y) (hb:∀ b,b∈jd [x]->bx b=bx' b):Cv bx' x y:=by
 cases h with
 | refl=>exact .refl _
 | iL sz=>exact .iL sz
 | own b n sz es ha hn=>exact .own b n sz es (by rw [<- hb b (by simp [jd])]; exact ha) hn
theorem Vm {xs ys:List AC} (h:UC bx xs ys) (hb:∀ b,b∈jd xs->bx b=bx' b):UC bx' xs ys:=by
 induction h with
 | nil=>exact .nil
 | cons h t ih=>exact .cons (UK h fun b hb'=>hb b (qM.2 (.inl hb'))) (ih fun b hb'=>hb b (qM.2 (.inr hb')))
theorem Vk {x y:AV} (h:VV bx x y) (hb:∀ b,b∈x.owns->bx b=bx' b):VV bx' x y:=by
 cases h with
 | one h=>exact .one (UK h hb)
 | agg h=>exact .agg (Vm h hb)
theorem Hz {xs ys:List AV} (h:yJ bx xs ys) (hb:∀ b,b∈xs.flatMap AV.owns->bx b=bx' b):yJ bx' xs ys:=by
 induction h with
 | nil=>exact .nil
 | cons h t ih=>exact .cons (Vk h fun b hb'=>hb b (by rw [List.flatMap_cons]; exact List.mem_append_left _ hb')) (ih fun b hb'=>hb b (by rw [List.flatMap_cons]; exact List.mem_append_right _ hb'))
end
structure DZ where
 rd:List Nat
 wr:List Nat
 outs:Slot->List (Nat × Box)->Prop
inductive tZ (P:Program) (f:FuncId) (lX:List AV) (p:Bool) (bx:Nat->Box):DZ->Prop
 | lit (ds:List AV) (r:AV) (hc:p=true->yJ bx lX ds) (hd:ds.all (·.all AC.nD)=true) (h:p=true->aZ P f ds r) (hr:r.all AC.isLit=true) :
   tZ P f lX p bx ⟨lX.flatMap AV.owns,[],fun s bs=>s = .v p r/\bs=[]⟩
 | pure (ds:List AV) (r:AV) (hp:p=true) (hc:yJ bx lX ds) (hd:ds.all (·.all AC.nD)=true) (h:aZ P f ds r) (hr:r.all AC.nD=true) :
   tZ P f lX p bx ⟨lX.flatMap AV.owns,lX.flatMap AV.owns,fun s bs=>s = .v true r/\bs=(lX.flatMap AV.owns).map fun b=>(b,uI (bx b))⟩
 | gen (hp:p=true) (ds:List AV) (fp:List Box) (sg nu:List Nat) (post:AV->List Box->Prop)
   (hl:sg.length=fp.length) (hn:(sg++nu).Nodup) (hf:∀ i,i<fp.length->bx ((sg++nu).getD i 0)=qp (fun b=>(sg++nu).getD b 0) (fp.getD i .absent))
   (hne:∃ r bs,post r bs) (hv:∀ b,b∈nu->bx b = .absent/\10<=b) (hra:(ds.all fun x=>x.all (AC.lZ fp.length))=true) (hrf:fp.all (Box.lZ fp.length)=true) (ha:lX=ds.map (qV fun b=>(sg++nu).getD b 0)) (h:iZ P f ds fp post)
   (hlen:∀ r bs,post r bs->bs.length=(sg++nu).length) :
   tZ P f lX p bx ⟨sg++nu,sg++nu,fun s bs=>∃ r bs',post r bs'/\s = .v true (qV (fun b=>(sg++nu).getD b 0) r)/\bs=(sg++nu).zip (bs'.map (qp fun b=>(sg++nu).getD b 0))⟩
 | Dl (hp:p=true) (az:List AV) (hc:yJ bx lX az) (ds:List AV) (fp:List Box) (sg nu:List Nat) (post:AV->List Box->Prop)
   (hl:sg.length=fp.length) (hn:(sg++nu).Nodup) (hf:∀ i,i<fp.length->(if (sg++nu).getD i 0∈lX.flatMap AV.owns then uI (bx ((sg++nu).getD i 0)) else bx ((sg++nu).getD i 0))=qp (fun b=>(sg++nu).getD b 0) (fp.getD i .absent))
   (hne:∃ r bs,post r bs) (hv:∀ b,b∈nu->bx b = .absent/\10<=b) (hra:(ds.all fun x=>x.all (AC.lZ fp.length))=true) (hrf:fp.all (Box.lZ fp.length)=true) (ha:az=ds.map (qV fun b=>(sg++nu).getD b 0)) (h:iZ P f ds fp post)
   (hlen:∀ r bs,post r bs->bs.length=(sg++nu).length) :
   tZ P f lX p bx ⟨lX.flatMap AV.owns++(sg++nu),lX.flatMap AV.owns++(sg++nu),fun s bs=>∃ r bs',post r bs'/\s = .v true (qV (fun b=>(sg++nu).getD b 0) r) /\
    bs=((lX.flatMap AV.owns).map fun b=>(b,uI (bx b)))++(sg++nu).zip (bs'.map (qp fun b=>(sg++nu).getD b 0))⟩
def A8 (P:Program) (o:gK) (st:bZ) (D:DZ):Prop :=
  qh st.tm o.g/\match o.i with
    | .op op=>(lS st.tm o.g=true->op.valid (iY.ev st.tm)/\(op.f (aU st.tm) st.bx).vc /\
        D=⟨op.rd (aU st.tm),(op.f (aU st.tm) st.bx).sets.map (·.1),fun s bs=>s = .v true (op.f (aU st.tm) st.bx).v/\bs=(op.f (aU st.tm) st.bx).sets⟩) /\
        (lS st.tm o.g=false->D=⟨[],[],fun s bs=>s = .v false (.one .xB)/\bs=[]⟩)
    | .call f args=>(lS st.tm o.g=true->∀ x,x∈args->(x.ev st.tm).g=true)/\tZ P f (args.map (aU st.tm)) (lS st.tm o.g) st.bx D
    | .ve x args=>(lS st.tm o.g=true->(x.ev st.tm).g=true/\∀ x,x∈args->(x.ev st.tm).g=true)/\match lS st.tm o.g,aU st.tm x with
      | false,_=>tZ P 0 [] false st.bx D
      | true,.one (.fn f caps)=>jT P f=true/\tZ P f (args.map (aU st.tm)++caps.map fun b => .one (.ptr b 0)) true st.bx D
      | true,_=>False
section
variable {P:Program} {st st':bZ} {K:List Nat->List Nat->bZ->Prop}
theorem Cj {f:FuncId} {lX:List AV} {p:Bool} {d:Option Nat} : zF P f lX p d st K<->∃ D,tZ P f lX p st.bx D/\∀ s bs,D.outs s bs->K D.rd D.wr ((st.kT bs).oM d s):=by
  constructor
  · intro h
    cases h with
    | lit ds r hc hd hh hr k=>exact ⟨_,.lit ds r hc hd hh hr,fun s bs ⟨h1,h2⟩=>by subst h1; subst h2; exact k⟩
    | pure ds r hp hc hd hh hr k=>exact ⟨_,.pure ds r hp hc hd hh hr,fun s bs ⟨h1,h2⟩=>by subst h1; subst h2; rw [rF]; exact k⟩
    | Dl hp az hc ds fp sg nu post hl hn hf hne hv hra hrf ha hh k =>
      exact ⟨_,.Dl hp az hc ds fp sg nu post hl hn hf hne hv hra hrf ha hh (fun r bs hp=>(k r bs hp).1),fun s bs ⟨r,bs',hp,h1,h2⟩=>by
        subst h1; subst h2; rw [wB,rF]; exact (k r bs' hp).2⟩
    | gen hp ds fp sg nu post hl hn hf hne hv hra hrf ha hh k =>
      exact ⟨_,.gen hp ds fp sg nu post hl hn hf hne hv hra hrf ha hh (fun r bs hp=>(k r bs hp).1),fun s bs ⟨r,bs',hp,h1,h2⟩=>by subst h1; subst h2; exact (k r bs' hp).2⟩
  · rintro ⟨D,hD,hk⟩
    cases hD with
    | lit ds r hc hd hh hr=>exact .lit ds r hc hd hh hr (hk _ _ ⟨rfl,rfl⟩)
    | pure ds r hp hc hd hh hr=>exact .pure ds r hp hc hd hh hr (by have:=hk _ _ ⟨rfl,rfl⟩; rw [rF] at this; exact this)
    | Dl hp az hc ds fp sg nu post hl hn hf hne hv hra hrf ha hh hlen =>
      exact .Dl hp az hc ds fp sg nu post hl hn hf hne hv hra hrf ha hh (fun r bs hp=>⟨hlen r bs hp,by have:=hk _ _ ⟨r,bs,hp,rfl,rfl⟩; rw [wB,rF] at this; exact this⟩)
    | gen hp ds fp sg nu post hl hn hf hne hv hra hrf ha hh hlen =>
      exact .gen hp ds fp sg nu post hl hn hf hne hv hra hrf ha hh (fun r bs hp=>⟨hlen r bs hp,hk _ _ ⟨r,bs,hp,rfl,rfl⟩⟩)
theorem wL {o:gK} : T P o st K<->∃ D,A8 P o st D/\∀ s bs,D.outs s bs->K D.rd D.wr ((st.kT bs).oM o.d s):=by
  unfold T A8
  cases o.i with
  | op op =>
    unfold V7
    cases hp:lS st.tm o.g with
    | true =>
      constructor
      · rintro ⟨hg,h1,_⟩
        obtain ⟨a1,a2,a3⟩:=h1 rfl
        exact ⟨_,⟨hg,fun _=>⟨a1,a2,rfl⟩,fun e=>by cases e⟩,fun s bs ⟨e1,e2⟩=>by subst e1; subst e2; exact a3⟩
      · rintro ⟨D,⟨hg,h1,_⟩,hk⟩
        obtain ⟨a1,a2,rfl⟩:=h1 rfl
        exact ⟨hg,fun _=>⟨a1,a2,hk _ _ ⟨rfl,rfl⟩⟩,fun e=>by cases e⟩
    | false =>
      constructor
      · rintro ⟨hg,_,h2⟩
        exact ⟨_,⟨hg,(fun e=>by cases e),fun _=>rfl⟩,fun s bs ⟨e1,e2⟩=>by subst e1; subst e2; exact h2 rfl⟩
      · rintro ⟨D,⟨hg,_,h2⟩,hk⟩
        have:=h2 rfl
        subst this
        exact ⟨hg,(fun e=>by cases e),fun _=>hk _ _ ⟨rfl,rfl⟩⟩
  | call f args =>
    simp only [lY,Cj]
    constructor
    · rintro ⟨hg,h1,D,h2,h3⟩; exact ⟨D,⟨hg,h1,h2⟩,h3⟩
    · rintro ⟨D,⟨hg,h1,h2⟩,h3⟩; exact ⟨hg,h1,D,h2,h3⟩
  | ve x args =>
    simp only
    cases lS st.tm o.g with
    | false =>
      simp only [lY,Cj]
      constructor
      · rintro ⟨hg,h1,D,h2,h3⟩; exact ⟨D,⟨hg,h1,h2⟩,h3⟩
      · rintro ⟨D,⟨hg,h1,h2⟩,h3⟩; exact ⟨hg,h1,D,h2,h3⟩
    | true =>
    cases aU st.tm x with
    | one y =>
      cases y
      case fn f caps =>
        simp only [lY,Cj]
        constructor
        · rintro ⟨hg,h1,h0,D,h2,h3⟩; exact ⟨D,⟨hg,h1,h0,h2⟩,h3⟩
        · rintro ⟨D,⟨hg,h1,h0,h2⟩,h3⟩; exact ⟨hg,h1,h0,D,h2,h3⟩
      all_goals exact ⟨fun h=>h.2.2.elim,fun ⟨D,h,_⟩=>h.2.2.elim⟩
    | _=>exact ⟨fun h=>h.2.2.elim,fun ⟨D,h,_⟩=>h.2.2.elim⟩
theorem tZ.bx {f:FuncId} {lX:List AV} {p:Bool} {bx bx':Nat->Box} {D:DZ} (h:tZ P f lX p bx D) (hb:∀ b,b∈D.rd->bx b=bx' b):tZ P f lX p bx' D:=by
  cases h with
  | lit ds r hc hd hh hr=>exact .lit ds r (fun e=>Hz (hc e) hb) hd hh hr
  | pure ds r hp hc hd hh hr =>
    have e:((lX.flatMap AV.owns).map fun b=>(b,uI (bx b)))=(lX.flatMap AV.owns).map fun b=>(b,uI (bx' b)):=List.map_congr_left fun b hb'=>by rw [hb b hb']
    simp only [e]
    exact .pure ds r hp (Hz hc hb) hd hh hr
  | Dl hp az hc ds fp sg nu post hl hn hf hne hv hra hrf ha hh hlen =>
    have e:((lX.flatMap AV.owns).map fun b=>(b,uI (bx b)))=(lX.flatMap AV.owns).map fun b=>(b,uI (bx' b)):=List.map_congr_left fun b hb'=>by rw [hb b (List.mem_append_left _ hb')]
    simp only [e]
    refine .Dl hp az (Hz hc fun b hm=>hb b (List.mem_append_left _ hm)) ds fp sg nu post hl hn (fun i hi => ?_) hne (fun b hm => ?_) hra hrf ha hh hlen
    · rw [<- hb]
      · exact hf i hi
      · show (sg++nu).getD i 0∈lX.flatMap AV.owns++(sg++nu)
        have:i<(sg++nu).length:=by simp; omega
        rw [List.getD_eq_getElem?_getD,List.getElem?_eq_getElem this]
        exact List.mem_append_right _ (List.getElem_mem this)
    · rw [<- hb b (List.mem_append_right _ (List.mem_append_right _ hm))]; exact hv b hm
  | gen hp ds fp sg nu post hl hn hf hne hv hra hrf ha hh hlen =>
    refine .gen hp ds fp sg nu post hl hn (fun i hi => ?_) hne (fun b hm => ?_) hra hrf ha hh hlen
    · rw [<- hb]
      · exact hf i hi
      · show (sg++nu).getD i 0∈sg++nu
        have:i<(sg++nu).length:=by simp; omega
        rw [List.getD_eq_getElem?_getD,List.getElem?_eq_getElem this]
        exact List.getElem_mem this
    · rw [<- hb b (List.mem_append_right _ hm)]; exact hv b hm
theorem tZ.ne {f:FuncId} {lX:List AV} {p:Bool} {bx:Nat->Box} {D:DZ} (h:tZ P f lX p bx D):∃ s bs,D.outs s bs:=by
 cases h with
 | lit=>exact ⟨_,_,rfl,rfl⟩
 | pure=>exact ⟨_,_,rfl,rfl⟩
 | gen hp ds fp sg nu post hl hn hf hne=>obtain ⟨r,bs,h⟩:=hne; exact ⟨_,_,r,bs,h,rfl,rfl⟩
 | Dl hp az hc ds fp sg nu post hl hn hf hne=>obtain ⟨r,bs,h⟩:=hne; exact ⟨_,_,r,bs,h,rfl,rfl⟩
theorem tZ.fst {f:FuncId} {lX:List AV} {p:Bool} {bx:Nat->Box} {D:DZ} (h:tZ P f lX p bx D) {s:Slot} {bs:List (Nat × Box)} (ho:D.outs s bs):∀ b,b∈bs.map (·.1)->b∈D.wr:=by
  cases h with
  | lit=>obtain ⟨_,rfl⟩:=ho; intro b hb; simp at hb
  | pure=>obtain ⟨_,rfl⟩:=ho; intro b hb; simpa using hb
  | Dl hp az hc ds fp sg nu post hl hn hf hne =>
    obtain ⟨r,bs',_,_,rfl⟩:=ho
    intro b hb
    rw [List.map_append,List.mem_append] at hb
    rcases hb with hb | hb
    · exact List.mem_append_left _ (by simpa using hb)
    · obtain ⟨x,hx,rfl⟩:=List.mem_map.1 hb
      exact List.mem_append_right _ (List.of_mem_zip (a:=x.1) (b:=x.2) hx).1
  | gen hp ds fp sg nu post hl hn hf hne =>
    obtain ⟨r,bs',_,_,rfl⟩:=ho
    intro b hb
    obtain ⟨x,hx,rfl⟩:=List.mem_map.1 hb
    exact (List.of_mem_zip (a:=x.1) (b:=x.2) hx).1
theorem A8.ne {o:gK} {D:DZ} (h:A8 P o st D):∃ s bs,D.outs s bs:=by
 obtain ⟨_,h⟩:=h
 split at h
 ·cases hp:lS st.tm o.g with
  | true=>obtain ⟨_,_,rfl⟩:=h.1 hp; exact ⟨_,_,rfl,rfl⟩
  | false=>have:=h.2 hp; subst this; exact ⟨_,_,rfl,rfl⟩
 ·exact h.2.ne
 ·obtain ⟨_,h⟩:=h
  split at h
  ·exact h.ne
  ·exact h.2.ne
  ·exact h.elim
theorem A8.fst {o:gK} {D:DZ} (h:A8 P o st D) {s:Slot} {bs:List (Nat × Box)} (ho:D.outs s bs):∀ b,b∈bs.map (·.1)->b∈D.wr:=by
 obtain ⟨_,h⟩:=h
 split at h
 ·cases hp:lS st.tm o.g with
  | true=>obtain ⟨_,_,rfl⟩:=h.1 hp; obtain ⟨_,rfl⟩:=ho; exact fun b hb=>hb
  | false=>have:=h.2 hp; subst this; obtain ⟨_,rfl⟩:=ho; exact fun b hb=>hb
 ·exact h.2.fst ho
 ·obtain ⟨_,h⟩:=h
  split at h
  ·exact h.fst ho
  ·exact h.2.fst ho
  ·exact h.elim
def DX.slots (i:DX):List Nat:=match i with
 | DX.op o=>o.gm.flatMap iY.slots
 | DX.call _ args=>args.flatMap iY.slots
 | DX.ve x args=>x.slots++args.flatMap iY.slots
def gK.slots (o:gK):List Nat:=o.g.toList.map (·.1)++o.i.slots
def gK.QX (o:gK):Bool:=match o.i with
 | DX.op _=>true
 | _=>false
theorem Nk {tm tm':Nat->Slot} {x:iY} (h:∀ t,t∈x.slots->tm t=tm' t):x.ev tm=x.ev tm':=by
 cases x with
 | t s=>exact h s (by simp [iY.slots])
 | k x=>rfl
theorem QG {tm tm':Nat->Slot} {g:Option (Nat × Bool)} (h:∀ t,t∈g.toList.map (·.1)->tm t=tm' t):(qh tm g<->qh tm' g)/\lS tm g=lS tm' g:=by
  cases g with
  | none=>exact ⟨Iff.rfl,rfl⟩
  | some p =>
    obtain ⟨s,w⟩:=p
    have:=h s (by simp)
    simp only [qh,lS,this,and_self,iff_self]
theorem A8.local {o:gK} {D:DZ} (h:A8 P o st D) (ht:∀ t,t∈o.slots->st.tm t=st'.tm t) (hb:∀ b,b∈D.rd->st.bx b=st'.bx b):A8 P o st' D:=by
  unfold A8 at h ⊢
  obtain ⟨hg1,hg2⟩:=QG (tm:=st.tm) (tm':=st'.tm) (g:=o.g) (fun t h'=>ht t (List.mem_append_left _ h'))
  have ht':∀ t,t∈o.i.slots->st.tm t=st'.tm t:=fun t h'=>ht t (List.mem_append_right _ h')
  refine ⟨hg1.1 h.1,?_⟩
  obtain ⟨_,h⟩:=h
  rw [hg2] at h
  cases hi:o.i with
  | op op =>
    simp only [hi,DX.slots] at h ht' ⊢
    have he:∀ x,x∈op.gm->iY.ev st.tm x=iY.ev st'.tm x:=fun x hx=>Nk fun t hm=>ht' t (List.mem_flatMap.2 ⟨x,hx,hm⟩)
    have hea:∀ x,x∈op.gm->aU st.tm x=aU st'.tm x:=fun x hx=>by unfold aU; rw [he x hx]
    obtain ⟨h1,h2⟩:=h
    refine ⟨fun e => ?_,h2⟩
    obtain ⟨a1,a2,rfl⟩:=h1 e
    have hf:op.f (aU st.tm) st.bx=op.f (aU st'.tm) st'.bx:=(Xg op hb).trans (Xh op hea)
    rw [hf] at a2
    refine ⟨SB op he a1,a2,?_⟩
    rw [hf,WJ op hea]
  | call f args =>
    simp only [hi,DX.slots] at h ht' ⊢
    have he:∀ x,x∈args->iY.ev st.tm x=iY.ev st'.tm x:=fun x hx=>Nk fun t hm=>ht' t (List.mem_flatMap.2 ⟨x,hx,hm⟩)
    have hm:args.map (aU st.tm)=args.map (aU st'.tm):=List.map_congr_left fun x hx=>by unfold aU; rw [he x hx]
    rw [hm] at h
    exact ⟨fun e x hx=>he x hx ▸ h.1 e x hx,h.2.bx hb⟩
  | ve x args =>
    simp only [hi,DX.slots] at h ht' ⊢
    have he:∀ x,x∈args->iY.ev st.tm x=iY.ev st'.tm x:=fun x hx=>Nk fun t hm=>ht' t (List.mem_append_right _ (List.mem_flatMap.2 ⟨x,hx,hm⟩))
    have hex:iY.ev st.tm x=iY.ev st'.tm x:=Nk fun t hm=>ht' t (List.mem_append_left _ hm)
    have hm:args.map (aU st.tm)=args.map (aU st'.tm):=List.map_congr_left fun x hx=>by unfold aU; rw [he x hx]
    have hmx:aU st.tm x=aU st'.tm x:=by unfold aU; rw [hex]
    obtain ⟨h1,h2⟩:=h
    rw [hm,hmx] at h2
    refine ⟨fun e=>⟨hex ▸ (h1 e).1,fun y hy=>he y hy ▸ (h1 e).2 y hy⟩,?_⟩
    split at h2
    · exact h2.bx hb
    · exact ⟨h2.1,h2.2.bx hb⟩
    · exact h2.elim
theorem A8.XR {o:gK} {D D':DZ} (hop:o.QX=true) (h:A8 P o st D) (h':A8 P o st D'):D=D':=by
  unfold A8 at h h'
  unfold gK.QX at hop
  cases hi:o.i with
  | op op =>
    rw [hi] at h h'
    cases hp:lS st.tm o.g with
    | true=>exact (h.2.1 hp).2.2.trans (h'.2.1 hp).2.2.symm
    | false=>exact (h.2.2 hp).trans (h'.2.2 hp).symm
  | call f args=>rw [hi] at hop; cases hop
  | ve x args=>rw [hi] at hop; cases hop
end
end Go.Ab
end
section
namespace Go.Ab
open Go
section
variable {P:Program} {st st':bZ}
theorem xw {a b:List Nat} : yS a b=true<->∀ x,x∈a->x ∉ b:=by
 simp [yS,List.all_eq_true]
def yN (x y:gK):Bool :=
 yS x.d.toList y.slots&&yS y.d.toList x.slots&&yS x.d.toList y.d.toList&&(x.QX||y.QX)
def app (x:gK) (st:bZ) (s:Slot) (bs:List (Nat × Box)):bZ:=(st.kT bs).oM x.d s
theorem yP {x:gK} {s:Slot} {bs:List (Nat × Box)} {t:Nat} (h:t ∉ x.d.toList):(app x st s bs).tm t=st.tm t:=by
  unfold app
  cases hd:x.d with
  | none=>simp only [bZ.oM,AU]
  | some d =>
    simp only [bZ.oM,bZ.EO,AU]
    rw [if_neg]
    intro e; subst e; exact h (by simp [hd])
theorem Az (st:bZ) (d:Option Nat) (s:Slot):(st.oM d s).bx=st.bx:=by cases d<;>rfl
theorem yO {x:gK} {s:Slot} {bs:List (Nat × Box)} {b:Nat} (h:b ∉ bs.map (·.1)):(app x st s bs).bx b=st.bx b:=by
 unfold app
 rw [Az,xK _ _ h]
theorem ES (l:List (Nat × Box)) {st st':bZ} {b:Nat} (h:st.bx b=st'.bx b):(st.kT l).bx b=(st'.kT l).bx b:=by
  induction l generalizing st st' with
  | nil=>exact h
  | cons x l ih =>
    obtain ⟨c,y⟩:=x
    simp only [bZ.kT]
    apply ih
    simp only [bZ.jR]
    split
    · rfl
    · exact h
theorem xJ (l:List (Nat × Box)) {st st':bZ} {b:Nat} (h:b∈l.map (·.1)):(st.kT l).bx b=(st'.kT l).bx b:=by
  induction l generalizing st st' with
  | nil=>simp at h
  | cons x l ih =>
    obtain ⟨c,y⟩:=x
    simp only [bZ.kT]
    by_cases hc:b=c
    · apply ES
      simp [bZ.jR,hc]
    · simp only [List.map_cons,List.mem_cons] at h
      exact ih (h.resolve_left hc)
theorem Jh {x y:gK} {s s':Slot} {bs bs':List (Nat × Box)} (hd:yS x.d.toList y.d.toList=true) (hb:∀ b,b∈bs.map (·.1)->b ∉ bs'.map (·.1)) :
    app y (app x st s bs) s' bs'=app x (app y st s' bs') s bs:=by
  rw [xw] at hd
  apply bZ.ext'
  · funext t
    by_cases h1:t∈x.d.toList
    · have h2:=hd t h1
      rw [yP h2]
      cases hx:x.d with
      | none=>rw [hx] at h1; simp at h1
      | some d =>
        rw [hx] at h1
        simp at h1
        subst h1
        simp [app,hx,bZ.oM,bZ.EO]
    · rw [yP (x:=x) h1]
      by_cases h2:t∈y.d.toList
      · cases hy:y.d with
        | none=>rw [hy] at h2; simp at h2
        | some d =>
          rw [hy] at h2
          simp at h2
          subst h2
          simp [app,hy,bZ.oM,bZ.EO]
      · rw [yP h2,yP h2,yP h1]
  · funext b
    by_cases h1:b∈bs.map (·.1)
    · rw [yO (hb b h1)]
      unfold app
      rw [Az,Az]
      exact xJ _ h1
    · rw [yO (x:=x) h1]
      by_cases h2:b∈bs'.map (·.1)
      · unfold app
        rw [Az,Az]
        exact xJ _ h2
      · rw [yO h2,yO h2,yO h1]
def apartB (rd wr rd' wr':List Nat):Bool:=yS wr' rd&&yS wr' wr&&yS rd' wr
theorem A8.skip {x y:gK} {D Dx:DZ} (h:A8 P y st D) (hx:A8 P x st Dx) (hs:yS x.d.toList y.slots=true) (hb:∀ b,b∈Dx.wr->b ∉ D.rd) {s:Slot} {bs:List (Nat × Box)} (ho:Dx.outs s bs):A8 P y (app x st s bs) D :=
 h.local (fun t ht=>(yP fun hd=>(xw.1 hs) t hd ht).symm) (fun b hr=>(yO fun hm=>hb b (hx.fst ho b hm) hr).symm)
theorem A8.MV {x y:gK} {D Dx:DZ} {s:Slot} {bs:List (Nat × Box)} (h:A8 P y (app x st s bs) D) (hx:A8 P x st Dx) (hs:yS x.d.toList y.slots=true) (hb:∀ b,b∈Dx.wr->b ∉ D.rd) (ho:Dx.outs s bs):A8 P y st D :=
 h.local (fun t ht=>yP fun hd=>(xw.1 hs) t hd ht) (fun b hr=>yO fun hm=>hb b (hx.fst ho b hm) hr)
theorem xh {rd wr rd' wr':List Nat} (h:apartB rd wr rd' wr'=true):(∀ b,b∈wr->b ∉ rd')/\(∀ b,b∈wr'->b ∉ rd)/\(∀ b,b∈wr->b ∉ wr'):=by
 simp only [apartB,Bool.and_eq_true,xw] at h
 exact ⟨fun b h1 h2=>h.2 b h2 h1,h.1.1,fun b h1 h2=>h.1.2 b h2 h1⟩
theorem Ve {x y:gK} (hap:yN x y=true) {K:List Nat->List Nat->List Nat->List Nat->bZ->Prop}
  (h:T P x st fun rd wr st1=>T P y st1 fun rd' wr' st2=>apartB rd wr rd' wr'=true/\K rd wr rd' wr' st2) :
  T P y st fun rd' wr' st2=>T P x st2 fun rd wr st1=>apartB rd wr rd' wr'=true/\K rd wr rd' wr' st1:=by
 simp only [yN,Bool.and_eq_true,Bool.or_eq_true] at hap
 obtain ⟨⟨⟨h1,h2⟩,h3⟩,h4⟩:=hap
 rw [wL] at h
 obtain ⟨Dx,Tc,h⟩:=h
 rcases h4 with h4 | h4
 ·
  obtain ⟨s,bs,ho⟩:=Tc.ne
  have hT:=h s bs ho
  rw [wL] at hT
  obtain ⟨Dy,Wl,hk⟩:=hT
  obtain ⟨s',bs',ho'⟩:=Wl.ne
  obtain ⟨a1,a2,a3⟩:=xh (hk s' bs' ho').1
  have JM:A8 P y st Dy:=A8.MV Wl Tc h1 a1 ho
  rw [wL]
  refine ⟨Dy,JM,fun s' bs' ho' => ?_⟩
  rw [wL]
  refine ⟨Dx,Tc.skip JM h2 a2 ho',fun s1 VY ho1 => ?_⟩
  have hT:=h s1 VY ho1
  rw [wL] at hT
  obtain ⟨XB,Vu,hk1⟩:=hT
  have hsame:s1=s/\VY=bs:=by
   obtain ⟨_,hD⟩:=Tc
   unfold gK.QX at h4
   split at h4
   ·rename_i op hi
    rw [hi] at hD
    cases hp:lS st.tm x.g with
    | true=>obtain ⟨_,_,rfl⟩:=hD.1 hp; exact ⟨ho1.1.trans ho.1.symm,ho1.2.trans ho.2.symm⟩
    | false=>have:=hD.2 hp; subst this; exact ⟨ho1.1.trans ho.1.symm,ho1.2.trans ho.2.symm⟩
   ·cases h4
  obtain ⟨rfl,rfl⟩:=hsame
  have:=hk s' bs' ho'
  show _/\K _ _ _ _ (app x (app y st s' bs') s1 VY)
  rw [<- Jh h3 (fun b hb hb'=>a3 b (Tc.fst ho b hb) (JM.fst ho' b hb'))]
  exact this
 ·
  obtain ⟨s,bs,ho⟩:=Tc.ne
  have hT:=h s bs ho
  rw [wL] at hT
  obtain ⟨Dy,Wl,hk⟩:=hT
  obtain ⟨s',bs',ho'⟩:=Wl.ne
  obtain ⟨a1,a2,a3⟩:=xh (hk s' bs' ho').1
  have JM:A8 P y st Dy:=A8.MV Wl Tc h1 a1 ho
  rw [wL]
  refine ⟨Dy,JM,fun s' bs' ho' => ?_⟩
  rw [wL]
  refine ⟨Dx,Tc.skip JM h2 a2 ho',fun s1 VY ho1 => ?_⟩
  have hT:=h s1 VY ho1
  rw [wL] at hT
  obtain ⟨XB,Vu,hk1⟩:=hT
  have hsame:XB=Dy:=by
   obtain ⟨s2,XQ,ho2⟩:=Vu.ne
   obtain ⟨b1,_,_⟩:=xh (hk1 s2 XQ ho2).1
   exact A8.XR h4 (A8.MV Vu Tc h1 b1 ho1) JM
  subst hsame
  have:=hk1 s' bs' ho'
  show _/\K _ _ _ _ (app x (app y st s' bs') s1 VY)
  rw [<- Jh h3 (fun b hb hb'=>a3 b (Tc.fst ho1 b hb) (JM.fst ho' b hb'))]
  exact this
theorem Bi {x:gK} {K K':List Nat->List Nat->bZ->Prop} (hk:∀ rd wr st,K rd wr st->K' rd wr st) (h:T P x st K):T P x st K':=by
 rw [wL] at h ⊢
 obtain ⟨D,hD,h⟩:=h
 exact ⟨D,hD,fun s bs ho=>hk _ _ _ (h s bs ho)⟩
abbrev Log:=List (Nat × List Nat × List Nat)
theorem vG {wO rd wr:List Nat} {log:Log} : kW wO rd wr log=true<->∀ e,e∈log->e.1∈wO\/apartB e.2.1 e.2.2 rd wr=true:=by
  induction log with
  | nil=>simp [kW]
  | cons e l ih =>
    obtain ⟨j,r,w⟩:=e
    simp only [kW,Bool.and_eq_true,Bool.or_eq_true,ih,List.mem_cons,forall_eq_or_imp,apartB,List.contains_iff_mem]
structure uq where
 i:Nat
 o:gK
 wO:List Nat
def SQ (P:Program):List uq->Log->bZ->(bZ->Prop)->Prop
 | [],_,st,K=>K st
 | x::r,log,st,K=>T P x.o st fun rd wr st'=>kW x.wO rd wr log=true/\SQ P r ((x.i,rd,wr)::log) st' K
theorem NQ {K:bZ->Prop} : ∀ {l:List uq} {log VG:Log} {st:bZ},(∀ e,e∈VG->e∈log)->SQ P l log st K->SQ P l VG st K
  | [],_,_,_,_,h=>h
  | x::r,log,VG,st,hl,h=>by
    refine Bi (fun rd wr st' hk=>⟨?_,NQ (l:=r) ?_ hk.2⟩) h
    · rw [vG] at hk ⊢
      exact fun e he=>hk.1 e (hl e he)
    · intro e he
      rcases List.mem_cons.1 he with rfl | he
      · exact List.mem_cons_self ..
      · exact List.mem_cons_of_mem _ (hl e he)
theorem Gz {K:bZ->Prop} {x:uq} {post:List uq} : ∀ {pre:List uq} {log:Log} {st:bZ},(∀ p,p∈pre->p.i ∉ x.wO/\yN p.o x.o=true)->SQ P (pre++x::post) log st K->SQ P (x::(pre++post)) log st K
  | [],_,_,_,h=>h
  | p::pre,log,st,hp,h=>by
    obtain ⟨hn,hap⟩:=hp p (List.mem_cons_self ..)
    have h1:T P p.o st fun rd wr st1=>T P x.o st1 fun rd' wr' st2=>apartB rd wr rd' wr'=true /\
        (kW p.wO rd wr log=true/\kW x.wO rd' wr' log=true/\SQ P (pre++post) ((x.i,rd',wr')::(p.i,rd,wr)::log) st2 K):=by
      refine Bi (fun rd wr st1 hk => ?_) h
      have h2:=Gz (pre:=pre) (fun q hq=>hp q (List.mem_cons_of_mem _ hq)) hk.2
      refine Bi (fun rd' wr' st2 hk2 => ?_) h2
      have Wq:=vG.1 hk2.1
      refine ⟨(Wq (p.i,rd,wr) (List.mem_cons_self ..)).resolve_left hn,hk.1,vG.2 fun e he=>Wq e (List.mem_cons_of_mem _ he),hk2.2⟩
    refine Bi (fun rd' wr' st2 hk => ?_) (Ve hap h1)
    rw [wL] at hk
    obtain ⟨D,hD,hk⟩:=hk
    refine ⟨?_,?_⟩
    · obtain ⟨s,bs,ho⟩:=hD.ne
      exact (hk s bs ho).2.2.1
    · show T P p.o st2 _
      rw [wL]
      refine ⟨D,hD,fun s bs ho => ?_⟩
      obtain ⟨k1,k2,k3,k4⟩:=hk s bs ho
      refine ⟨vG.2 fun e he => ?_,NQ ?_ k4⟩
      · rcases List.mem_cons.1 he with rfl | he
        · right
          simp only [apartB,Bool.and_eq_true,xw] at k1 ⊢
          exact ⟨⟨fun b h1 h2=>k1.2 b h2 h1,fun b h1 h2=>k1.1.2 b h2 h1⟩,fun b h1 h2=>k1.1.1 b h2 h1⟩
        · exact vG.1 k2 e he
      · intro e he
        simp only [List.mem_cons] at he ⊢
        rcases he with h | h | h
        · exact .inr (.inl h)
        · exact .inl h
        · exact .inr (.inr h)
end
end Go.Ab
end
section
namespace Go.Ab
open Go
section
variable {P:Program} {E:Env P} {n:Nat} {ops:Array Oper} {Q:Exit->Act->World->Prop}
def Hr (P:Program) (n m:Nat) (ops:Array Oper):List Oper->List gK->Bool
 | [],[]=>true
 | o::os,x::xs=>DR P n m ops o x&&Hr P n m ops os xs
 | _,_=>false
theorem EP (hm:E.m<=10):∀ {os:List Oper} {xs:List gK} {K:bZ->Prop} {a:Act} {w:World},Hr P n E.m ops os xs=true->AK E n (fun st=>wpOps P xs st K) a w ->
    (∀ a w,AK E n K a w->Q .normal a w)->wpList P ops Q os a w
  | [],[],K,a,w,_,h,hq=>hq a w h
  | o::os,x::xs,K,a,w,hc,h,hq=>by
    simp only [Hr,Bool.and_eq_true] at hc
    obtain ⟨I,ρ,st,hT,hg⟩:=h
    have h1:=MZ (Q:=Q) (ops:=ops) hg hm hc.1 (show T P x st fun _ _ st'=>wpOps P xs st' K from hT)
    unfold IX at h1
    unfold wpList
    have key:∀ a w,AK E n (fun st=>∃ rd wr:List Nat,wpOps P xs st K) a w->wpList P ops Q os a w:=fun a w hk =>
      EP hm hc.2 (hk.imp fun st ⟨_,_,h⟩=>h) hq
    split
    · rename_i hw
      rw [if_pos hw] at h1
      exact h1.imp (Oper.wp_mono key) id
    · rename_i hw
      rw [if_neg hw] at h1
      exact key _ _ h1
  | [],_::_,_,_,_,hc,_,_=>by cases hc
  | _::_,[],_,_,_,hc,_,_=>by cases hc
def items:List (gK × List Nat)->Nat->List uq
 | [],_=>[]
 | (o,wO)::r,i=>⟨i,o,wO⟩::items r (i+1)
theorem SN {K:bZ->Prop} : ∀ {l:List (gK × List Nat)} {i:Nat} {log:Log} {st:bZ},Tm P l i log st K=SQ P (items l i) log st K
  | [],_,_,_=>rfl
  | (o,wO)::r,i,log,st=>by
    simp only [Tm,items,SQ]
    congr 1
    funext rd wr st'
    rw [SN (l:=r)]
def Lj (L:List uq) (o:Oper) (x:uq):Bool :=
 x.wO.all (fun j=>o.after.toList.any fun e=>Region.binds .any e&&(e.on==j||L.any fun y=>y.i==e.on&&y.wO.contains j)) &&
 o.after.toList.all (fun e => !Region.binds .any e||decide (e.on<x.i))
def zO:List uq->Bool
 | []=>true
 | x::r=>r.all (fun y=>y.wO.contains x.i||yN x.o y.o)&&zO r
def Hg (P:Program) (n m:Nat) (ops:Array Oper) (L:List uq) (x:uq):Bool :=
 match ops[x.i]? with
 | some o=>DR P n m ops o x.o&&Lj L o x
 | none=>false
def Jv (P:Program) (n m:Nat) (ops:Array Oper) (l:List (gK × List Nat)):Bool :=
 l.length==ops.size&&(items l 0).all (Hg P n m ops (items l 0))&&zO (items l 0)
theorem EI:∀ {l:List (gK × List Nat)} {i:Nat},(∀ x,x∈items l i->i<=x.i/\x.i<i+l.length)/\(items l i).Pairwise (fun x y=>x.i<y.i)/\(∀ j,j<l.length->∃ x,x∈items l i/\x.i=i+j)
  | [],i=>⟨fun x hx=>by simp [items] at hx,.nil,fun j hj=>by simp at hj⟩
  | (o,wO)::r,i=>by
    obtain ⟨h1,h2,h3⟩:=EI (l:=r) (i:=i+1)
    simp only [items,List.length_cons]
    refine ⟨fun x hx => ?_,List.pairwise_cons.2 ⟨fun y hy => ?_,h2⟩,fun j hj => ?_⟩
    · rcases List.mem_cons.1 hx with rfl | hx
      · exact ⟨Nat.le_refl _,by simp⟩
      · have:=h1 x hx; omega
    · have:=(h1 y hy).1; show i<y.i; omega
    · cases j with
      | zero=>exact ⟨_,List.mem_cons_self ..,rfl⟩
      | succ j =>
        obtain ⟨x,hx,he⟩:=h3 j (by omega)
        exact ⟨x,List.mem_cons_of_mem _ hx,by omega⟩
theorem CS:∀ {l:List uq},zO l=true->l.Pairwise fun x y=>x.i∈y.wO\/yN x.o y.o=true
  | [],_ => .nil
  | x::r,h=>by
    simp only [zO,Bool.and_eq_true,List.all_eq_true,Bool.or_eq_true,List.contains_iff_mem] at h
    exact List.pairwise_cons.2 ⟨h.1,CS h.2⟩
theorem TW {l:Array Bool} {i:Nat} (h:l.getD i true=false):l.getD i false=false:=by
 simp only [Array.getD_eq_getD_getElem?] at *
 cases hh:l[i]? with
 | none=>rw [hh] at h; cases h
 | some b=>rw [hh] at h; simpa using h
theorem Oc (hm:E.m<=10) {L:List (gK × List Nat)} (hc:Jv P n E.m ops L=true) {K:bZ->Prop} (hq:∀ a w,AK E n K a w->Q .normal a w) :
    ∀ (fuel:Nat) (l:List uq) (listed:Array Bool) (log:Log) (a:Act) (w:World),l.length<=fuel->l.Sublist (items L 0)->listed.size=ops.size ->
      (∀ x,x∈items L 0->(listed.getD x.i true=false<->x∈l)) ->
      (∀ x,x∈items L 0->listed.getD x.i false=true->∀ j,j∈x.wO->listed.getD j false=true) ->
      AK E n (fun st=>SQ P l log st K) a w->wpAny P .any ops Q fuel listed a w:=by
  simp only [Jv,Bool.and_eq_true,beq_iff_eq,List.all_eq_true] at hc
  obtain ⟨⟨hlen,hit⟩,hap⟩:=hc
  obtain ⟨i1,i2,i3⟩:=EI (l:=L) (i:=0)
  have hpw:(items L 0).Pairwise fun x y=>x.i<y.i/\(x.i∈y.wO\/yN x.o y.o=true):=i2.and (CS hap)
  have UT:∀ x y,x∈items L 0->y∈items L 0->x.i=y.i->x=y:=by
    intro x y hx hy e
    obtain ⟨p,hp,rfl⟩:=List.getElem_of_mem hx
    obtain ⟨q,hq',rfl⟩:=List.getElem_of_mem hy
    have Wv:=List.pairwise_iff_getElem.1 i2
    rcases Nat.lt_trichotomy p q with h | h | h
    · have:=Wv p q hp hq' h; omega
    · subst h; rfl
    · have:=Wv q p hq' hp h; omega
  have VB:∀ (l:List uq) (listed:Array Bool),l.Sublist (items L 0)->listed.size=ops.size->(∀ x,x∈items L 0->(listed.getD x.i true=false<->x∈l))->Region.ready .any ops listed=[]->l=[]:=by
    intro l listed hsub hsz hl hr
    cases l with
    | nil=>rfl
    | cons x r =>
      exfalso
      have hx:=hsub.subset (List.mem_cons_self ..)
      have hc:=hit x hx
      unfold Hg at hc
      cases ho:ops[x.i]? with
      | none=>rw [ho] at hc; cases hc
      | some o =>
        rw [ho] at hc
        simp only [Bool.and_eq_true,Lj,List.all_eq_true,Bool.or_eq_true,Bool.not_eq_true',decide_eq_true_eq] at hc
        have:x.i∈Region.ready .any ops listed:=by
          rw [mem_ready]
          refine ⟨(hl x hx).2 (List.mem_cons_self ..),o,ho,fun e he hb => ?_⟩
          have hlt:=(hc.2.2 e (by simpa using he)).resolve_left (by rw [hb]; simp)
          have hxi:=i1 x hx
          obtain ⟨y,hy,hye⟩:=i3 e.on (by omega)
          have hye:y.i=e.on:=by omega
          by_cases hyl:y∈x::r
          · exfalso
            rcases List.mem_cons.1 hyl with rfl | X8
            · omega
            · have:=(List.pairwise_cons.1 (i2.sublist hsub)).1 y X8
              omega
          · have h1:¬ listed.getD y.i true=false:=fun h=>hyl ((hl y hy).1 h)
            have hin:y.i<listed.size:=by rw [hsz,<- hlen]; have:=i1 y hy; omega
            rw [<- hye]
            simp only [Array.getD_eq_getD_getElem?,Array.getElem?_eq_getElem hin,Option.getD_some] at h1 ⊢
            simpa using h1
        rw [hr] at this
        cases this
  intro fuel
  induction fuel with
  | zero =>
    intro l listed log a w hf hsub hsz hl _ h
    have:l=[]:=List.length_eq_zero_iff.1 (by omega)
    subst this
    refine ⟨?_,hq a w h⟩
    cases hr:Region.ready .any ops listed with
    | nil=>rfl
    | cons i r =>
      exfalso
      have hi:i∈Region.ready .any ops listed:=by rw [hr]; exact List.mem_cons_self ..
      obtain ⟨hu,o,ho,_⟩:=mem_ready.1 hi
      have hlt:=(Array.getElem?_eq_some_iff.1 ho).1
      obtain ⟨y,hy,hye⟩:=i3 i (by omega)
      have hye:y.i=i:=by omega
      have:=(hl y hy).1 (by rw [hye]; exact hu)
      cases this
  | succ fuel ih =>
    intro l listed log a w hf hsub hsz hl hdown h
    refine ⟨fun hr => ?_,fun i hi => ?_⟩
    · have:=VB l listed hsub hsz hl hr
      subst this
      exact hq a w h
    · obtain ⟨hu,o,ho,hall⟩:=mem_ready.1 hi
      have hlt:=(Array.getElem?_eq_some_iff.1 ho).1
      obtain ⟨x,hx,hxe⟩:=i3 i (by omega)
      have hxe:x.i=i:=by omega
      subst hxe
      have hxl:=(hl x hx).1 hu
      have hcx:=hit x hx
      unfold Hg at hcx
      rw [ho] at hcx
      simp only [Bool.and_eq_true] at hcx
      obtain ⟨hco,hca⟩:=hcx
      have haft:∀ j,j∈x.wO->listed.getD j false=true:=by
        intro j hj
        simp only [Lj,Bool.and_eq_true,List.all_eq_true,List.any_eq_true,Bool.or_eq_true,beq_iff_eq] at hca
        obtain ⟨e,he,hb,XX⟩:=hca.1 j hj
        have hel:=hall e (by simpa using he) hb
        rcases XX with rfl | ⟨y,hy,hye,hyj⟩
        · exact hel
        · rw [<- hye] at hel
          exact hdown y hy hel j (by simpa using hyj)
      obtain ⟨pre,post,rfl⟩:=List.append_of_mem hxl
      have Uc:=hpw.sublist hsub
      rw [List.pairwise_append] at Uc
      have hpre:∀ p,p∈pre->p.i ∉ x.wO/\yN p.o x.o=true:=by
        intro p hp
        have h1:=Uc.2.2 p hp x (List.mem_cons_self ..)
        have hn:p.i ∉ x.wO:=by
          intro hm'
          have h2:=haft _ hm'
          have h3:=(hl p (hsub.subset (List.mem_append_left _ hp))).2 (List.mem_append_left _ hp)
          rw [TW h3] at h2
          cases h2
        exact ⟨hn,h1.2.resolve_left hn⟩
      obtain ⟨I,ρ,st,hT,hg⟩:=h
      have hT:=Gz hpre hT
      have h1:=MZ (Q:=Q) (ops:=ops) hg hm hco (show T P x.o st fun rd wr st'=>kW x.wO rd wr log=true/\SQ P (pre++post) ((x.i,rd,wr)::log) st' K from hT)
      have key:∀ a w,AK E n (fun st=>∃ rd wr,kW x.wO rd wr log=true/\SQ P (pre++post) ((x.i,rd,wr)::log) st K) a w->wpAny P .any ops Q fuel (listed.setIfInBounds x.i true) a w:=by
        rintro a w ⟨I,ρ,st,⟨rd,wr,_,hk⟩,hg⟩
        have hnx:x ∉ pre++post:=by
          intro hxm
          rcases List.mem_append.1 hxm with h | h
          · have:=(Uc.2.2 x h x (List.mem_cons_self ..)).1; omega
          · have:=((List.pairwise_cons.1 Uc.2.1).1 x h).1; omega
        refine ih (pre++post) _ ((x.i,rd,wr)::log) a w (by simp at hf ⊢; omega) ?_ (by simp [hsz]) ?_ ?_ ⟨I,ρ,st,hk,hg⟩
        · exact (List.Sublist.append_left (List.sublist_cons_self x post) pre).trans hsub
        · intro y hy
          by_cases hyx:y=x
          · subst hyx
            constructor
            · intro h
              have hin:y.i<listed.size:=by rw [hsz]; exact hlt
              simp [hin] at h
            · intro h; exact absurd h hnx
          · have hne:x.i ≠ y.i:=fun e=>hyx (UT y x hy hx e.symm)
            rw [getD_set_ne true hne,hl y hy]
            simp only [List.mem_append,List.mem_cons,hyx,false_or]
        · intro y hy hyl j hj
          by_cases hyx:y=x
          · subst hyx; exact getD_set_true (haft j hj)
          · have hne:x.i ≠ y.i:=fun e=>hyx (UT y x hy hx e.symm)
            rw [getD_set_ne false hne] at hyl
            exact getD_set_true (hdown y hy hyl j hj)
      unfold wpOp
      rw [ho]
      unfold IX at h1
      simp only
      split
      · rename_i hw
        rw [if_pos hw] at h1
        exact h1.imp (Oper.wp_mono key) id
      · rename_i hw
        rw [if_neg hw] at h1
        exact key _ _ h1
theorem MJ (hm:E.m<=10) (hf:P.follows .mixedOrders=true) {L:List (gK × List Nat)} (hc:Jv P n E.m ops L=true) {K:bZ->Prop} (hq:∀ a w,AK E n K a w->Q .normal a w)
  {id:Nat} {a:Act} {w:World} (h:AK E n (fun st=>Tm P L 0 [] st K) a w):(Code.region id ops true).wp P Q a w:=by
 refine wp_region_any hf ?_
 have hlen:L.length=ops.size:=by simp only [Jv,Bool.and_eq_true,beq_iff_eq] at hc; exact hc.1.1
 have i0:=EI (l:=L) (i:=0)
 have hil:(items L 0).length=L.length:=by
  clear i0 hlen h hc
  generalize 0=i
  induction L generalizing i with
  | nil=>rfl
  | cons x r ih=>obtain ⟨o,wO⟩:=x; simp [items,ih]
 refine Oc hm hc hq ops.size (items L 0) (Array.replicate ops.size false) [] a _ (by omega) (List.Sublist.refl _) (by simp) ?_ ?_ ?_
 ·intro x hx
  have:=i0.1 x hx
  have hlt:x.i<ops.size:=by omega
  simp [hlt,hx]
 ·intro x hx h
  exfalso
  have:=i0.1 x hx
  have hlt:x.i<ops.size:=by omega
  simp [hlt] at h
 ·obtain ⟨I,ρ,st,hT,hg⟩:=h
  exact ⟨I,ρ,st,Eq.mp (SN (P:=P) (l:=L) (i:=0) (log:=[]) (st:=st) (K:=K)) hT,hg.drew⟩
end
end Go.Ab
end
section
namespace Go.Ab
open Go
def uB (zs:List Nat) (bx:Nat->Box) (π:Nat->Option Nat) (vs:List Nat):AC->AC->Prop
  | _,.xB=>True
  | .c x,.c y=>x=y
  | .iL sz,.c y=>y = .sl sz []
  | .own b n sz,.c y=>b∈zs/\match (bx b).arr with
    | some (sz',es)=>sz'=sz/\n<=es.length/\y = .sl sz (es.take n)
    | none=>False
  | .iL sz,.iL sz'=>sz=sz'
  | .iL sz,.own b n sz'=>b∈vs/\n=0/\sz=sz'
  | .own b n sz,.own b' n' sz'=>π b'=some b/\n=n'/\sz=sz'
  | .sub b lo n _ sz,.own b' n' sz'=>π b'=some b/\lo=0/\n=n'/\sz=sz'
  | .sub b lo n c sz,.sub b' lo' n' c' sz'=>π b'=some b/\lo=lo'/\n=n'/\c=c'/\sz=sz'
  | .ptr b o,.ptr b' o'=>π b'=some b/\o=o'
  | .oI b i sz o,.oI b' i' sz' o'=>π b'=some b/\i=i'/\sz=sz'/\o=o'
  | .uH cs,.uH cs'=>cs=cs'
  | .fn f caps,.fn f' Nc=>f=f'/\Nc.map π=caps.map some
  | .opt T b,.opt T' b'=>T=T'/\π b'=some b
  | .nH b n,.nH b' n'=>π b'=some b/\n=n'
  | _,_=>False
def zy (zs:List Nat) (bx:Nat->Box) (π:Nat->Option Nat) (vs:List Nat):List AC->List AC->Prop
 | [],[]=>True
 | x::xs,y::ys=>uB zs bx π vs x y/\zy zs bx π vs xs ys
 | _,_=>False
def F5 (zs:List Nat) (bx:Nat->Box) (π:Nat->Option Nat) (vs:List Nat):List (Bool × List AC)->List (Bool × List AC)->Prop
 | [],[]=>True
 | (g,x)::xs,(g',y)::ys=>g=g'/\zy zs bx π vs x y/\F5 zs bx π vs xs ys
 | _,_=>False
def NP (zs:List Nat) (bx:Nat->Box) (π:Nat->Option Nat) (vs:List Nat):AV->AV->Prop
 | .one x,.one y=>uB zs bx π vs x y
 | .agg xs,.agg ys=>zy zs bx π vs xs ys
 | .nV xs,.nV ys=>F5 zs bx π vs xs ys
 | _,_=>False
def Cm (zs:List Nat) (bx:Nat->Box) (π:Nat->Option Nat) (vs:List Nat) (b:Nat):Box->Prop
  | .absent=>π b=none/\b ∉ vs
  | .dead=>True
  | .var ys=>match π b with
    | some c=>match bx c with
      | .var xs=>zy zs bx π vs xs ys
      | _=>False
    | none=>False
  | .dat sz es=>match π b with
    | some c=>c ∉ zs/\(bx c = .dat sz es\/∃ t,bx c = .dat sz (es++t))
    | none=>b∈vs/\es=[]
  | .sJ sz es=>match π b with
    | some c=>bx c = .sJ sz es\/(c∈zs/\bx c = .dat sz es)
    | none=>False
  | .row e l=>match π b with
    | some c=>bx c = .row e l
    | none=>False
def Box.BM:Box->Bool
 | .dead=>true
 | _=>false
structure WT (m:Nat) (bx bx':Nat->Box) (zs:List Nat) (π:Nat->Option Nat) (vs:List Nat):Prop where
 box:∀ b,Cm zs bx π vs b (bx' b)
 inj:∀ b b' c,(bx' b).BM=false->(bx' b').BM=false->π b=some c->π b'=some c->b=b'
 Xw:∀ b,b∈vs->π b=none
 fix:∀ b,b<m->π b=some b\/(π b=none/\b ∉ vs/\bx b = .absent)
def F6 (zs:List Nat) (bx:Nat->Box) (π:Nat->Option Nat) (vs:List Nat):Slot->Slot->Prop
 | _,.none=>True
 | .v g x,.v g' y=>g=g'/\(g=true->NP zs bx π vs x y)
 | _,_=>False
def yA (m:Nat) (st S:bZ):Prop:=∃ zs π vs,WT m st.bx S.bx zs π vs/\∀ t,F6 zs st.bx π vs (st.tm t) (S.tm t)
section
variable {P:Program} {E:Env P} {I:IH} {ρ:Ren} {n:Nat} {st:bZ} {a:Act} {w:World}
def qw (ρ:Ren) (π:Nat->Option Nat) (vs:List Nat):Ren:=fun b=>match π b with
 | some c=>ρ c
 | none=>if b∈vs then some (0,0) else none
theorem SC (h:GX E I ρ n st a w) {zs vs:List Nat} {π:Nat->Option Nat} (hvs:∀ b,b∈vs->π b=none) {v:Value} {x y:AC} (hx:GC I ρ v x) (hy:uB zs st.bx π vs x y):GC (pV I ρ w st.bx zs) (qw ρ π vs) v y:=by
  have hle:=sV h.bx zs
  cases y with
  | xB=>exact hx.one
  | c y =>
    cases x with
    | c x=>simp only [uB] at hy; subst hy; exact Rd.mono hle hx
    | iL sz =>
      simp only [uB] at hy; subst hy
      simp only [GC] at hx; subst hx
      exact Rd.sl none 0 0 _ [] (fun _ _=>undef) rfl (Nat.le_refl _) (by simp [maxLen]) (by simp) (by simp) (by intro ad h; cases h) (by simp)
    | own b m sz =>
      simp only [uB] at hy
      obtain ⟨hb,hy⟩:=hy
      split at hy
      · rename_i sz' es harr
        obtain ⟨rfl,hm,rfl⟩:=hy
        exact Ij h hb harr hm hx
      · exact hy.elim
    | _=>simp [uB] at hy
  | iL sz =>
    cases x<;>simp only [uB] at hy
    subst hy; exact hx
  | own b' m' sz' =>
    cases x with
    | iL sz =>
      simp only [uB] at hy
      obtain ⟨hb,rfl,rfl⟩:=hy
      simp only [GC] at hx; subst hx
      exact ⟨0,0,none,0,by simp [qw,hvs b' hb,hb],rfl,Nat.le_refl _,Nat.le_refl _,fun h=>absurd rfl h⟩
    | own b m sz =>
      simp only [uB] at hy
      obtain ⟨hb,rfl,rfl⟩:=hy
      obtain ⟨k,cap,ad,c,hr,hrest⟩:=hx
      exact ⟨k,cap,ad,c,by simp only [qw,hb]; exact hr,hrest⟩
    | sub b lo m c0 sz =>
      simp only [uB] at hy
      obtain ⟨hb,rfl,rfl,rfl⟩:=hy
      obtain ⟨k,cap,ad,c,hr,hv,hm,hcc,_,ha⟩:=hx
      refine ⟨k,cap,ad,c,by simp only [qw,hb]; exact hr,hv,hm,by omega,fun hc0 => ?_⟩
      have:=ha (.inr ⟨rfl,hc0⟩)
      rw [Nat.zero_mul] at this
      exact this
    | _=>simp [uB] at hy
  | sub b' lo' m' c' sz' =>
    cases x with
    | sub b lo m c sz =>
      simp only [uB] at hy
      obtain ⟨hb,rfl,rfl,rfl,rfl⟩:=hy
      obtain ⟨k,cap,ad,c1,hr,hrest⟩:=hx
      exact ⟨k,cap,ad,c1,by simp only [qw,hb]; exact hr,hrest⟩
    | _=>simp [uB] at hy
  | ptr b' o' =>
    cases x with
    | ptr b o =>
      simp only [uB] at hy
      obtain ⟨hb,rfl⟩:=hy
      obtain ⟨k,cap,hr,hrest⟩:=hx
      exact ⟨k,cap,by simp only [qw,hb]; exact hr,hrest⟩
    | _=>simp [uB] at hy
  | oI b' i' sz' o' =>
    cases x with
    | oI b i sz o =>
      simp only [uB] at hy
      obtain ⟨hb,rfl,rfl,rfl⟩:=hy
      obtain ⟨k,cap,hr,hrest⟩:=hx
      exact ⟨k,cap,by simp only [qw,hb]; exact hr,hrest⟩
    | _=>simp [uB] at hy
  | opt T' b' =>
    cases x with
    | opt T b =>
      simp only [uB] at hy
      obtain ⟨rfl,hb⟩:=hy
      obtain ⟨k,hr,hrest⟩:=hx
      exact ⟨k,by simp only [qw,hb]; exact hr,hrest⟩
    | _=>simp [uB] at hy
  | nH b' n' =>
    cases x with
    | nH b n =>
      simp only [uB] at hy
      obtain ⟨hb,rfl⟩:=hy
      obtain ⟨k,cap,hr,hrest⟩:=hx
      exact ⟨k,cap,by simp only [qw,hb]; exact hr,hrest⟩
    | _=>simp [uB] at hy
  | uH cs' =>
    cases x with
    | uH cs =>
      simp only [uB] at hy
      subst hy
      obtain ⟨p,hv,hc⟩:=hx
      exact ⟨p,hv,fun j c hj=>let ⟨u,h1,h2⟩:=hc j c hj; ⟨u,IH.Ii hle h1,h2.mono hle⟩⟩
    | _=>simp [uB] at hy
  | fn f' Nc =>
    cases x with
    | fn f caps =>
      simp only [uB] at hy
      obtain ⟨rfl,hcs⟩:=hy
      obtain ⟨ks,hk1,hk2,hk3⟩:=hx
      have hlen:Nc.length=caps.length:=by have:=congrArg List.length hcs; simpa using this
      refine ⟨ks,by rw [hlen]; exact hk1,fun j b k hb hk => ?_,hk3⟩
      have hj:j<caps.length:=by have:=(List.getElem?_eq_some_iff.1 hb).1; omega
      have h1:(Nc.map π)[j]? = (caps.map some)[j]? := by rw [hcs]
      rw [List.getElem?_map,List.getElem?_map,hb,List.getElem?_eq_getElem hj] at h1
      simp only [Option.map_some,Option.some.injEq] at h1
      obtain ⟨cap,hr⟩:=hk2 j _ k (List.getElem?_eq_getElem hj) hk
      exact ⟨cap,by simp only [qw,h1]; exact hr⟩
    | _=>simp [uB] at hy
theorem IW (h:GX E I ρ n st a w) {zs vs:List Nat} {π:Nat->Option Nat} (hvs:∀ b,b∈vs->π b=none):∀ {us:List Value} {xs ys:List AC},xR I ρ us xs->zy zs st.bx π vs xs ys->xR (pV I ρ w st.bx zs) (qw ρ π vs) us ys
  | us,[],[],hx,_=>⟨hx.1,fun j v x hv hx=>by simp at hx⟩
  | u::us,x::xs,y::ys,hx,hy=>by
    have ih:=IW h hvs (us:=us) (xs:=xs) (ys:=ys) ⟨by simpa using hx.1,fun j v z hv hz=>hx.2 (j+1) v z (by simpa using hv) (by simpa using hz)⟩ hy.2
    refine ⟨by simp [ih.1],fun j v z hv hz => ?_⟩
    cases j with
    | zero =>
      simp at hv hz
      subst hv; subst hz
      exact SC h hvs (hx.2 0 _ _ rfl rfl) hy.1
    | succ j=>exact ih.2 j v z (by simpa using hv) (by simpa using hz)
  | [],_::_,_,hx,_=>by have:=hx.1; simp at this
  | _,[],_::_,_,hy=>by simp [zy] at hy
  | _,_::_,[],_,hy=>by simp [zy] at hy
theorem Ky {zs vs:List Nat} {bx:Nat->Box} {π:Nat->Option Nat} : ∀ {xs ys:List (Bool × List AC)},F5 zs bx π vs xs ys->xs.length=ys.length/\∀ (j:Nat) (y:Bool × List AC),ys[j]? = some y->∃ x:Bool × List AC,xs[j]? = some x/\x.1=y.1/\zy zs bx π vs x.2 y.2
  | [],[],_=>⟨rfl,fun j y hy=>by simp at hy⟩
  | (g,x)::xs,(g',y)::ys,h=>by
    obtain ⟨h1,h2,h3⟩:=h
    obtain ⟨i1,i2⟩:=Ky h3
    refine ⟨by simp [i1],fun j z hz => ?_⟩
    cases j with
    | zero=>simp at hz; subst hz; exact ⟨(g,x),rfl,h1,h2⟩
    | succ j =>
      obtain ⟨q,hq,hr⟩:=i2 j z (by simpa using hz)
      exact ⟨q,by simpa using hq,hr⟩
  | [],_::_,h=>by simp [F5] at h
  | _::_,[],h=>by simp [F5] at h
theorem U2 (h:GX E I ρ n st a w) {zs vs:List Nat} {π:Nat->Option Nat} (hvs:∀ b,b∈vs->π b=none) {v:Value} {x y:AV} (hx:GV I ρ v x) (hy:NP zs st.bx π vs x y):GV (pV I ρ w st.bx zs) (qw ρ π vs) v y:=by
  cases x with
  | one x=>cases y with
    | one y=>exact SC h hvs hx hy
    | _=>exact hy.elim
  | agg xs=>cases y with
    | agg ys=>obtain ⟨cs,rfl,hg⟩:=hx; exact ⟨cs,rfl,IW h hvs hg hy⟩
    | _=>exact hy.elim
  | nV ps=>cases y with
    | nV qs =>
      obtain ⟨us,rfl,hl,hp⟩:=hx
      obtain ⟨i1,i2⟩:=Ky (show F5 zs st.bx π vs ps qs from hy)
      refine ⟨us,rfl,by rw [hl,i1],fun j v q hv hq => ?_⟩
      obtain ⟨p,X4,e,hw⟩:=i2 j q hq
      have h1:=hp j v p hv X4
      unfold GP at h1 ⊢
      rw [e] at h1
      split at h1
      · rename_i hb; rw [if_pos hb]; obtain ⟨cs,rfl,hg⟩:=h1; exact ⟨cs,rfl,IW h hvs hg hw⟩
      · rename_i hb
        rw [if_neg hb]
        obtain ⟨x,hx,hg⟩:=h1
        rw [hx] at hw
        cases hq2:q.2 with
        | nil=>rw [hq2] at hw; exact hw.elim
        | cons y t =>
          rw [hq2] at hw
          cases t with
          | nil=>exact ⟨y,rfl,SC h hvs hg hw.1⟩
          | cons z t=>exact hw.2.elim
    | _=>exact hy.elim
theorem Gy (h:GX E I ρ n st a w) {m:Nat} (hm:E.m<=m) {bx':Nat->Box} {zs vs:List Nat} {π:Nat->Option Nat} (hw:WT m st.bx bx' zs π vs) :
    GX E (pV I ρ w st.bx zs) (qw ρ π vs) n ⟨fun _ => .none,bx'⟩ a w:=by
  have hF:=h.freeze zs
  generalize hJ:pV I ρ w st.bx zs=J at *
  have hnd:∀ b k,(bx' b).uses (qw ρ π vs b) k->(bx' b).BM=false:=fun b k hu=>by
    cases hx:bx' b with
    | dead=>rw [hx] at hu; exact hu.elim
    | _=>rfl
  have wW:∀ b k,(bx' b).uses (qw ρ π vs b) k->∃ c,π b=some c/\((st.sJ zs).bx c).uses (ρ c) k:=by
    intro b k hu
    have hb:=hw.box b
    cases hx:bx' b with
    | var ys =>
      rw [hx] at hu hb
      simp only [Cm] at hb
      split at hb
      · rename_i c hc
        refine ⟨c,hc,?_⟩
        split at hb
        · rename_i xs hxs
          rw [oW,hxs]
          simp only [qw,hc] at hu
          split<;>exact hu
        · exact hb.elim
      · exact hb.elim
    | dat sz es =>
      rw [hx] at hu hb
      simp only [Cm] at hb
      split at hb
      · rename_i c hc
        refine ⟨c,hc,?_⟩
        simp only [qw,hc] at hu
        rcases hb.2 with hb2 | ⟨t,hb2⟩
        · rw [oW,if_neg hb.1,hb2]; exact hu
        · rw [oW,if_neg hb.1,hb2]; exact hu
      · rename_i hc
        obtain ⟨cap,hu1,hu2⟩:=hu
        simp only [qw,hc,hb.1,if_true,Option.some.injEq,Prod.mk.injEq] at hu1
        exact absurd hu1.2.symm hu2
    | row e l =>
      rw [hx] at hu hb
      simp only [Cm] at hb
      split at hb
      · rename_i c hc
        refine ⟨c,hc,?_⟩
        simp only [qw,hc] at hu
        rw [oW,hb]
        split<;>exact hu
      · exact hb.elim
    | absent=>rw [hx] at hu; exact hu.elim
    | dead=>rw [hx] at hu; exact hu.elim
    | sJ sz es=>rw [hx] at hu; exact hu.elim
  refine { agree:=hF.agree,bx:=⟨fun b => ?_,fun b b' k hb hb' => ?_,fun b k hb => ?_⟩,tm:=fun t ht=>trivial,size:=h.size,defers:=h.defers,vW:=h.vW,own:=fun b k hu => ?_,DT:=hF.DT,uo:=hF.uo,nJ:=fun b hb => ?_ }
  · have hb:=hw.box b
    show qy J (qw ρ π vs) w b (bx' b)
    cases hx:bx' b with
    | absent =>
      rw [hx] at hb
      show qw ρ π vs b=none
      simp only [qw,hb.1,hb.2,if_false]
    | dead=>trivial
    | var ys =>
      rw [hx] at hb
      simp only [Cm] at hb
      split at hb
      · rename_i c hc
        split at hb
        · rename_i xs hxs
          have hok:=h.bx.ok c
          rw [hxs] at hok
          obtain ⟨k,cap,cs,hr,hwk,hsz,hcs⟩:=hok
          have hg:xR J (qw ρ π vs) cs.toList ys:=by
            subst hJ
            exact IW h hw.Xw ⟨by simpa using hsz,fun j u x hu hx=>hcs j u x (by simpa using hu) hx⟩ hb
          refine ⟨k,cap,cs,by simp only [qw,hc]; exact hr,hwk,by simpa using hg.1,fun j u x hu hx=>hg.2 j u x (by simpa using hu) hx⟩
        · exact hb.elim
      · exact hb.elim
    | dat sz es =>
      rw [hx] at hb
      simp only [Cm] at hb
      split at hb
      · rename_i c hc
        have hok:=hF.bx.ok c
        rcases hb.2 with hb2 | ⟨t,hb2⟩
        · rw [oW,if_neg hb.1,hb2] at hok
          obtain ⟨k,cap,hr,hrest⟩:=hok
          exact ⟨k,cap,by simp only [qw,hc]; exact hr,hrest⟩
        · rw [oW,if_neg hb.1,hb2] at hok
          obtain ⟨k,cap,hr,h1,h2,h3,h4⟩:=hok
          refine ⟨k,cap,by simp only [qw,hc]; exact hr,by simp at h1; omega,h2,fun e he=>h3 e (List.mem_append_left _ he),fun h0 => ?_⟩
          obtain ⟨cs,e,g1,g2,g3,g4⟩:=h4 h0
          refine ⟨cs,e,g1,g2,g3,fun i j c' hc'=>g4 i j c' ?_⟩
          have hi:=fQ hc'
          rw [<- hc']
          congr 1
          simp only [List.getD]
          rw [List.getElem?_append_left hi]
      · rename_i hc
        obtain ⟨hv,rfl⟩:=hb
        exact ⟨0,0,by simp only [qw,hc,hv,if_true],by simp,by simp [maxLen],by simp,fun h=>absurd rfl h⟩
    | row e l =>
      rw [hx] at hb
      simp only [Cm] at hb
      split at hb
      · rename_i c hc
        have hok:=hF.bx.ok c
        rw [oW,hb] at hok
        have e1:(if c∈zs then uI (.row e l) else .row e l)=Box.row e l:=by split<;>rfl
        rw [e1] at hok
        obtain ⟨k,cap,hr,hrest⟩:=hok
        exact ⟨k,cap,by simp only [qw,hc]; exact hr,hrest⟩
      · exact hb.elim
    | sJ sz es =>
      rw [hx] at hb
      simp only [Cm] at hb
      split at hb
      · rename_i c hc
        have hok:=hF.bx.ok c
        have e:(st.sJ zs).bx c = .sJ sz es:=by
          rw [oW]
          rcases hb with hb | ⟨hz,hb⟩
          · rw [hb]; split<;>rfl
          · rw [hb,if_pos hz]; rfl
        rw [e] at hok
        obtain ⟨k,cap,hr,hrest⟩:=hok
        exact ⟨k,cap,by simp only [qw,hc]; exact hr,hrest⟩
      · exact hb.elim
  · obtain ⟨c,hc,hu⟩:=wW b k hb
    obtain ⟨c',hc',hu'⟩:=wW b' k hb'
    have:=hF.bx.inj c c' k hu hu'
    subst this
    exact hw.inj b b' c (hnd b k hb) (hnd b' k hb') hc hc'
  · obtain ⟨c,hc,hu⟩:=wW b k hb
    exact hF.bx.fresh c k hu
  · obtain ⟨c,hc,hu'⟩:=wW b k hu
    exact hF.own c k hu'
  · rcases hw.fix b (by omega) with hf | ⟨hf,hv,hab⟩
    · simp only [qw,hf]; exact h.nJ b hb
    · have:=h.bx.ok b
      rw [hab] at this
      rw [<- h.nJ b hb]
      simp only [qw,hf,hv,if_false]
      exact this.symm
theorem Fh (h:GX E I ρ n st a w) {m:Nat} (hm:E.m<=m) {S:bZ} (hw:yA m st S):∃ J σ,GX E J σ n S a w:=by
  obtain ⟨zs,π,vs,hs,ht⟩:=hw
  have h1:=Gy h hm hs
  refine ⟨_,_,{ h1 with tm:=fun t htn => ?_,bx:=h1.bx,agree:=h1.agree,size:=h1.size,defers:=h1.defers,vW:=h1.vW,own:=h1.own }⟩
  have h2:=ht t
  have h3:=h.tm t htn
  cases hS:S.tm t with
  | none=>trivial
  | v g y =>
    rw [hS] at h2
    cases hst:st.tm t with
    | none=>rw [hst] at h2; exact h2.elim
    | v g' x =>
      rw [hst] at h2 h3
      obtain ⟨rfl,hv⟩:=h2
      exact ⟨fun hg=>U2 h hs.Xw (h3.1 hg) (hv hg),h3.2⟩
theorem AK.weak {m:Nat} (hm:E.m<=m) {K:bZ->Prop} {X:Type} {J:X->Prop} {S:X->bZ} (hk:∀ st,K st->∃ x,J x/\yA m st (S x)) {a:Act} {w:World} (h:AK E n K a w):∃ x,J x/\AK E n (fun st=>st=S x) a w:=by
 obtain ⟨I,ρ,st,hK,hg⟩:=h
 obtain ⟨x,hj,hw⟩:=hk st hK
 obtain ⟨I',ρ',hg'⟩:=Fh hg hm hw
 exact ⟨x,hj,I',ρ',_,rfl,hg'⟩
end
end Go.Ab
end
section
namespace Go.Ab
open Go
inductive aO where
 | skip
 | reg (ops:List gK) (keep:List Nat)
 | kz (ops:List (gK × List Nat)) (keep:List Nat)
 | seq (a b:aO)
 | cut (a b:aO)
 | cond (c:iY) (a b:aO)
 | block (id:Nat) (a:aO)
 | loop (a:aO)
 | exit (id:Nat)
 | ret
 deriving Inhabited
inductive mY where
 | normal
 | exit (id:Nat)
 | ret
abbrev AQ:=mY->bZ->Prop
def mY.then (next:bZ->Prop) (Q:AQ):AQ
 | .normal,st=>next st
 | .exit id,st=>Q (.exit id) st
 | .ret,st=>Q .ret st
def mY.inBlock (id:Nat) (Q:AQ):AQ
 | .exit id',st=>if id'=id then Q .normal st else Q (.exit id') st
 | .normal,st=>Q .normal st
 | .ret,st=>Q .ret st
def V8 (body:AQ->bZ->Prop) (Q:AQ) (st:bZ):Prop :=
  ∃ (X:Type) (J:X->Prop) (S:X->bZ) (μ:X->Nat),(∃ x,J x/\yA 10 st (S x)) /\
    ∀ x,J x->body (mY.then (fun st'=>∃ x',(J x'/\μ x'<μ x)/\yA 10 st' (S x')) Q) (S x)
def WY (wa:AQ->bZ->Prop) (wb:AQ->bZ->Prop) (Q:AQ) (st:bZ):Prop :=
 ∃ (X:Type) (J:X->Prop) (S:X->bZ),wa (mY.then (fun st'=>∃ x,J x/\yA 10 st' (S x)) Q) st/\∀ x,J x->wb Q (S x)
def vT (body:AQ->bZ->Prop) (Q:AQ) (st:bZ) (_:DU body) (_:DU Q):Prop:=V8 body Q st
def zH (wa wb:AQ->bZ->Prop) (Q:AQ) (st:bZ) (_:DU wa) (_:DU wb) (_:DU Q):Prop:=WY wa wb Q st
def wpC (P:Program):aO->AQ->bZ->Prop
  | .skip,Q,st=>Q .normal st
  | .reg ops keep,Q,st=>wpOps P ops st fun st=>Q .normal (st.keep keep)
  | .kz ops keep,Q,st=>Tm P ops 0 [] st fun st=>Q .normal (st.keep keep)
  | .seq a b,Q,st=>wpC P a (mY.then (wpC P b Q) Q) st
  | .cut a b,Q,st=>zH (wpC P a) (wpC P b) Q st .mk .mk .mk
  | .cond c a b,Q,st=>(c.ev st.tm).g=true/\match (c.ev st.tm).x with
    | .one (.c (.lit (.bool t)))=>(t=true->wpC P a Q st)/\(t=false->wpC P b Q st)
    | _=>False
  | .block id a,Q,st=>wpC P a (mY.inBlock id Q) st
  | .loop a,Q,st=>vT (wpC P a) Q st .mk .mk
  | .exit id,Q,st=>Q (.exit id) st
  | .ret,Q,st=>Q .ret st
def qC (P:Program) (n m:Nat):Code->aO->Bool
 | .skip,.skip=>true
 | .region _ ops false,.reg xs _=>Hr P n m ops ops.toList xs
 | .region _ ops true,.kz xs _=>Jv P n m ops xs&&P.follows .mixedOrders
 | .seq a b,.seq x y=>qC P n m a x&&qC P n m b y
 | .seq a b,.cut x y=>qC P n m a x&&qC P n m b y
 | .cond c a b,.cond d x y=>fC n c d&&qC P n m a x&&qC P n m b y
 | .block i a,.block j x=>i==j&&qC P n m a x
 | .loop a,.loop x=>qC P n m a x
 | .exit i,.exit j=>i==j
 | .ret,.ret=>true
 | _,_=>false
section
variable {P:Program} {E:Env P} {n:Nat}
def CQ (E:Env P) (n:Nat) (Q:AQ):Exit->Act->World->Prop
 | .normal,a,w=>AK E n (Q .normal) a w
 | .exit id,a,w=>AK E n (Q (.exit id)) a w
 | .ret,a,w=>AK E n (Q .ret) a w
 | _,_,_=>False
theorem GG {Q:AQ} {next:bZ->Prop} {nx:Act->World->Prop} (h:∀ a w,AK E n next a w->nx a w) (e:Exit) (a:Act) (w:World) (hq:CQ E n (mY.then next Q) e a w):Exit.then nx (CQ E n Q) e a w:=by
 cases e with
 | normal=>exact h a w hq
 | exit id=>exact hq
 | ret=>exact hq
 | goto l=>exact hq
 | panic c=>exact hq
 | outgrown=>exact hq
theorem KJ {Q:AQ} {id:Nat} (e:Exit) (a:Act) (w:World) (hq:CQ E n (mY.inBlock id Q) e a w):Exit.inBlock id (CQ E n Q) e a w:=by
  cases e with
  | normal=>exact hq
  | exit id' =>
    simp only [Exit.inBlock]
    by_cases h:id'=id
    · rw [if_pos h]; exact AK.imp (fun st (hs:mY.inBlock id Q (.exit id') st)=>by simp only [mY.inBlock,if_pos h] at hs; exact hs) hq
    · rw [if_neg h]; exact AK.imp (fun st (hs:mY.inBlock id Q (.exit id') st)=>by simp only [mY.inBlock,if_neg h] at hs; exact hs) hq
  | ret=>exact hq
  | goto l=>exact hq
  | panic c=>exact hq
  | outgrown=>exact hq
theorem GX.keep {I:IH} {ρ:Ren} {st:bZ} {a:Act} {w:World} (h:GX E I ρ n st a w) (ts:List Nat):GX E I ρ n (st.keep ts) a w :=
 have ht:∀ t,t<n->UE I ρ (a.tmps.getD t undef) ((st.keep ts).tm t):=fun t ht=>by
  simp only [bZ.keep]
  split
  ·exact h.tm t ht
  ·trivial
 { h with tm:=ht,bx:=h.bx,agree:=h.agree,size:=h.size,defers:=h.defers,vW:=h.vW,own:=h.own }
theorem F7 {Q:Exit->Act->World->Prop} {a:Act} {w:World} {c:Code} (Inv:Nat->Act->World->Prop) (h0:∃ k,Inv k a w)
    (round:∀ k a w,Inv k a w->c.wp P (Exit.then (fun a' w'=>∃ k',k'<k/\Inv k' a' w') Q) a w):(Code.loop c).wp P Q a w:=by
  have hmin:∀ a w,(∃ k,Inv k a w)->∃ k,Inv k a w/\∀ j,j<k->¬ Inv j a w:=by
    intro a w ⟨k,hk⟩
    induction k using Nat.strongRecOn with
    | _ k ih =>
      by_cases h:∃ j,j<k/\Inv j a w
      · obtain ⟨j,hj,hi⟩:=h; exact ih j hj hi
      · exact ⟨k,hk,fun j hj hi=>h ⟨j,hj,hi⟩⟩
  let μ:Act->World->Nat:=fun a w=>open Classical in if h:∃ k,Inv k a w then (hmin a w h).choose else 0
  have hμ:∀ a w,(∃ k,Inv k a w)->Inv (μ a w) a w/\∀ j,Inv j a w->μ a w<=j:=by
    intro a w h
    have hs:=(hmin a w h).choose_spec
    simp only [μ,dif_pos h]
    exact ⟨hs.1,fun j hj=>Nat.le_of_not_lt fun hlt=>hs.2 j hlt hj⟩
  refine wp_loop (fun a w=>∃ k,Inv k a w) μ h0 fun a w h => ?_
  refine wp_mono (round _ a w (hμ a w h).1) fun e a' w' hq => ?_
  cases e with
  | normal =>
    obtain ⟨k',hlt,hk⟩:=hq
    exact ⟨⟨k',hk⟩,Nat.lt_of_le_of_lt ((hμ a' w' ⟨k',hk⟩).2 k' hk) hlt⟩
  | exit id=>exact hq
  | ret=>exact hq
  | goto l=>exact hq
  | panic c=>exact hq
  | outgrown=>exact hq
theorem oV (hm:E.m<=10):∀ {ac:aO} {c:Code} {Q:AQ} {a:Act} {w:World},qC P n E.m c ac=true->AK E n (wpC P ac Q) a w->c.wp P (CQ E n Q) a w
  | .skip,c,Q,a,w,hc,h=>by
    unfold qC at hc; split at hc<;>first | contradiction | skip
    exact wp_skip h
  | .reg xs keep,c,Q,a,w,hc,h=>by
    unfold qC at hc; split at hc<;>first | contradiction | skip
    rename_i heq; cases heq
    refine wp_region_list (EP hm hc h fun a w hk => ?_)
    obtain ⟨I,ρ,st,hk,hg⟩:=hk
    exact ⟨I,ρ,_,hk,hg.keep keep⟩
  | .kz xs keep,c,Q,a,w,hc,h=>by
    unfold qC at hc; split at hc<;>first | contradiction | skip
    rename_i heq; cases heq
    simp only [Bool.and_eq_true] at hc
    refine MJ hm hc.2 hc.1 (fun a w hk => ?_) h
    obtain ⟨I,ρ,st,hk,hg⟩:=hk
    exact ⟨I,ρ,_,hk,hg.keep keep⟩
  | .seq x y,c,Q,a,w,hc,h=>by
    unfold qC at hc; split at hc<;>first | contradiction | skip
    rename_i heq; cases heq
    simp only [Bool.and_eq_true] at hc
    exact wp_seq (wp_mono (oV hm hc.1 h) (GG fun a w hk=>oV hm hc.2 hk))
  | .cut x y,c,Q,a,w,hc,h=>by
    unfold qC at hc; split at hc<;>first | contradiction | skip
    rename_i heq; cases heq
    simp only [Bool.and_eq_true] at hc
    obtain ⟨I,ρ,st,⟨X,J,S,h1,h2⟩,hg⟩:=h
    refine wp_seq (wp_mono (oV hm hc.1 ⟨I,ρ,st,h1,hg⟩) (GG fun a w hk => ?_))
    obtain ⟨x,hj,I',ρ',st',rfl,hg'⟩:=AK.weak hm (fun st h=>h) hk
    exact oV hm hc.2 ⟨I',ρ',_,h2 x hj,hg'⟩
  | .cond d x y,c,Q,a,w,hc,h=>by
    unfold qC at hc; split at hc<;>first | contradiction | skip
    rename_i heq; cases heq
    simp only [Bool.and_eq_true] at hc
    obtain ⟨I,ρ,st,⟨h1,h2⟩,hg⟩:=h
    have hv:=iE hg hc.1.1 h1
    unfold aU at hv
    split at h2
    · rename_i t ht
      rw [ht] at hv
      exact wp_cond_split (x8 hv) (fun e=>oV hm hc.1.2 ⟨I,ρ,st,h2.1 e,hg⟩) (fun e=>oV hm hc.2 ⟨I,ρ,st,h2.2 e,hg⟩)
    · exact h2.elim
  | .block id x,c,Q,a,w,hc,h=>by
    unfold qC at hc; split at hc<;>first | contradiction | skip
    rename_i heq; cases heq
    simp only [Bool.and_eq_true,beq_iff_eq] at hc
    obtain ⟨rfl,hc⟩:=hc
    exact wp_block (wp_mono (oV hm hc h) KJ)
  | .loop x,c,Q,a,w,hc,h=>by
    unfold qC at hc; split at hc<;>first | contradiction | skip
    rename_i heq; cases heq
    obtain ⟨I,ρ,st,⟨X,J,S,μ,⟨x0,hj0,hw0⟩,hr⟩,hg⟩:=h
    refine F7 (fun k a w=>∃ x,J x/\μ x=k/\AK E n (fun st=>st=S x) a w) ?_ ?_
    · obtain ⟨I',ρ',hg'⟩:=Fh hg hm hw0
      exact ⟨_,x0,hj0,rfl,I',ρ',_,rfl,hg'⟩
    · rintro k a w ⟨x,hj,rfl,I,ρ,st,rfl,hg⟩
      refine wp_mono (oV hm hc ⟨I,ρ,_,hr x hj,hg⟩) (GG fun a w hk => ?_)
      obtain ⟨x',⟨hj',hlt⟩,hk'⟩:=AK.weak (J:=fun x'=>J x'/\μ x'<μ x) hm (fun st h=>h) hk
      exact ⟨_,hlt,x',hj',rfl,hk'⟩
  | .exit id,c,Q,a,w,hc,h=>by
    unfold qC at hc; split at hc<;>first | contradiction | skip
    rename_i heq; cases heq
    simp only [beq_iff_eq] at hc
    subst hc
    exact wp_exit h
  | .ret,c,Q,a,w,hc,h=>by
    unfold qC at hc; split at hc<;>first | contradiction | skip
    exact wp_ret h
end
end Go.Ab
end
section
namespace Go.Ab
open Go
inductive pg where
 | tmp (t:Nat)
 | cell (t:Nat) (agg:Bool) (k:Nat)
 deriving Inhabited
def pg.ok (st:bZ):pg->Prop
 | .tmp t=>(st.tm t).g=true
 | .cell t agg k=>(st.tm t).g=true/\(oH agg k (st.tm t).x st.bx).vc
def pg.val (st:bZ):pg->AV
 | .tmp t=>(st.tm t).x
 | .cell t agg k=>(oH agg k (st.tm t).x st.bx).v
def uj (st:bZ):List pg->Prop
 | []=>True
 | r::rs=>r.ok st/\(r.val st).flat/\uj st rs
def partOf:AV->Bool × List AC
 | .one x=>(false,[x])
 | .agg xs=>(true,xs)
 | .nV _=>(false,[])
def oN (st:bZ):List pg->List (Bool × List AC)
 | []=>[]
 | r::rs=>partOf (r.val st)::oN st rs
def FT (st:bZ):List pg->AV
 | [r]=>r.val st
 | rs => .nV (oN st rs)
def yD (rs:List pg) (m:Nat) (post:AV->List Box->Prop) (st:bZ):Prop :=
 uj st rs/\∃ r bs zs π vs,post r bs/\WT m st.bx (tH bs) zs π vs/\NP zs st.bx π vs (FT st rs) r
def Ej (P:Program) (n:Nat):List ResultVar->List pg->Bool
 | [],[]=>true
 | .tmp t::xs,.tmp s::ys=>t==s&&decide (t<n)&&Ej P n xs ys
 | .cell a t::xs,.cell s agg k::ys=>a==s&&decide (a<n)&&Ff P t agg k&&Ej P n xs ys
 | _,_=>false
section
variable {P:Program} {E:Env P} {I:IH} {ρ:Ren} {n:Nat} {st:bZ} {a:Act} {w:World}
theorem OQ {agg:Bool} {k:Nat} {p:AV} {pv:Value} {bx:Nat->Box} (hp:GV I ρ pv p) (dW:(oH agg k p bx).vc):∃ q,pv = .pointer (some q):=by
  cases p with
  | one p =>
    cases p with
    | ptr b off=>obtain ⟨k,cap,_,rfl⟩:=hp; exact ⟨_,rfl⟩
    | oI b i sz off=>obtain ⟨k,cap,_,rfl⟩:=hp; exact ⟨_,rfl⟩
    | uH cs=>obtain ⟨q,rfl,_⟩:=hp; exact ⟨_,rfl⟩
    | _=>exact dW.elim
  | _=>exact dW.elim
def RQ (tmps:Array Value) (x:ResultVar):Sem Value:=match x with
 | ResultVar.tmp t=>pure (tmps.getD t undef)
 | ResultVar.cell b t=>do loadVar t (<- asAddr (tmps.getD b undef))
theorem MK (fn:Func) (tmps:Array Value):results fn tmps=(do
  let vs <- fn.results.mapM (RQ tmps)
  pure (if h:vs.size=1 then vs[0] else .tuple vs)):=by
 unfold results
 congr 1
theorem J8 (h:GX E I ρ n st a w):∀ {xs:List ResultVar} {rs:List pg},Ej P n xs rs=true->uj st rs ->
    ∃ vs:List Value,(xs.mapM (RQ a.tmps)).run P w = .ok vs w/\vs.length=rs.length/\∀ (j:Nat) (v:Value) (r:pg),vs[j]? = some v->rs[j]? = some r->GV I ρ v (r.val st)
  | [],[],_,_=>⟨[],by simp,rfl,fun j v r hv=>by simp at hv⟩
  | x::xs,r::rs,hc,hok=>by
    obtain ⟨h1,h2,h3⟩:=hok
    have key:∃ v,(RQ a.tmps x).run P w = .ok v w/\GV I ρ v (r.val st)/\Ej P n xs rs=true:=by
      cases x with
      | tmp t =>
        cases r with
        | tmp s =>
          simp only [Ej,Bool.and_eq_true,beq_iff_eq,decide_eq_true_eq] at hc
          obtain ⟨⟨rfl,hlt⟩,hc⟩:=hc
          have ht:=h.tm t hlt
          simp only [pg.ok] at h1
          refine ⟨a.tmps.getD t undef,rfl,?_,hc⟩
          simp only [pg.val]
          cases hs:st.tm t with
          | none=>rw [hs] at h1; cases h1
          | v g x=>rw [hs] at h1 ht; exact ht.1 h1
        | cell s agg k=>simp [Ej] at hc
      | cell b t =>
        cases r with
        | tmp s=>simp [Ej] at hc
        | cell s agg k =>
          simp only [Ej,Bool.and_eq_true,beq_iff_eq,decide_eq_true_eq] at hc
          obtain ⟨⟨⟨rfl,hlt⟩,hty⟩,hc⟩:=hc
          have ht:=h.tm b hlt
          obtain ⟨hg,dW⟩:=h1
          have hv:GV I ρ (a.tmps.getD b undef) (st.tm b).x:=by
            cases hs:st.tm b with
            | none=>rw [hs] at hg; cases hg
            | v g x=>rw [hs] at hg ht; exact ht.1 hg
          obtain ⟨q,hq⟩:=OQ hv dW
          obtain ⟨v,hrun,hgv⟩:=Gs (P:=P) h hty hv dW
          refine ⟨v,?_,hgv,hc⟩
          unfold RQ
          simp only [hq] at hrun ⊢
          simpa [Instr.loadAt,Instr.sureAddr,asAddr] using hrun
    obtain ⟨v,hv,hg,hc'⟩:=key
    obtain ⟨vs,hvs,hl,hgs⟩:=J8 h hc' h3
    refine ⟨v::vs,?_,by simp [hl],fun j u r' hu hr => ?_⟩
    · rw [List.mapM_cons]
      simp [hv,hvs]
    · cases j with
      | zero=>simp at hu hr; subst hu; subst hr; exact hg
      | succ j=>exact hgs j u r' (by simpa using hu) (by simpa using hr)
  | [],_::_,hc,_=>by simp [Ej] at hc
  | x::_,[],hc,_=>by cases x<;>simp [Ej] at hc
def zx:List AV->Nat->List (Nat × Slot)
 | [],_=>[]
 | x::xs,i=>(i,.v true x)::zx xs (i+1)
def ru:List Box->Nat->List (Nat × Box)
 | [],_=>[]
 | x::xs,i=>(i,x)::ru xs (i+1)
theorem CW:∀ {xs:List AV} {i t:Nat},pJ (zx xs i) t=if i<=t then (match xs[t-i]? with | some x => .v true x | none => .none) else .none
  | [],i,t=>by simp [zx,pJ]
  | x::xs,i,t=>by
    simp only [zx,pJ]
    by_cases h:i=t
    · subst h; simp
    · rw [if_neg h,CW (xs:=xs)]
      by_cases h':i<=t
      · have e:t-i=(t-(i+1))+1:=by omega
        rw [if_pos h',if_pos (by omega),e]; simp
      · rw [if_neg h',if_neg (by omega)]
theorem xH:∀ {xs:List Box} {i t:Nat},kJ (ru xs i) t=if i<=t then xs.getD (t-i) .absent else .absent
  | [],i,t=>by simp [ru,kJ]
  | x::xs,i,t=>by
    simp only [ru,kJ]
    by_cases h:i=t
    · subst h; simp
    · rw [if_neg h,xH (xs:=xs)]
      by_cases h':i<=t
      · have e:t-i=(t-(i+1))+1:=by omega
        rw [if_pos h',if_pos (by omega),e]; simp
      · rw [if_neg h',if_neg (by omega)]
def st0 (args:List AV) (fp:List Box):bZ:=bZ.of (zx args 0) (ru fp 0)
theorem Sj (args:List AV) (fp:List Box):(st0 args fp).bx=tH fp:=by
 funext b
 unfold st0
 rw [sN,xH]
 simp [tH]
def QF (rs:List pg) (m:Nat) (post:AV->List Box->Prop):AQ
 | .normal,st=>yD rs m post st
 | .ret,st=>yD rs m post st
 | .exit _,_=>False
def dO (P:Program) (f:FuncId) (k m:Nat) (ac:aO) (rs:List pg):Bool :=
  match P.funcs[f]? with
  | some fn=>match fn.body with
    | some c=>decide (k<=fn.ntmps)&&decide (m<=10)&&qC P fn.ntmps m c ac&&Ej P fn.ntmps fn.results.toList rs
    | none=>false
  | none=>false
theorem kU {f:FuncId} {ac:aO} {rs:List pg} {args:List AV} {fp:List Box} {post:AV->List Box->Prop} (hc:dO P f args.length fp.length ac rs=true)
    (hwp:wpC P ac (QF rs fp.length post) (st0 args fp)):iZ P f args fp post:=by
  unfold dO at hc
  split at hc
  · rename_i fn hf
    split at hc
    · rename_i c hb
      simp only [Bool.and_eq_true,decide_eq_true_eq] at hc
      obtain ⟨⟨⟨hk,hm⟩,hcc⟩,hcr⟩:=hc
      intro I ρ w vs hT hA hB hV
      let E:Env P:=⟨w,I,fun k=>∃ b,(tH fp b).uses (ρ b) k,ρ,fp.length,hT⟩
      refine calls_of_wp hf hb ?_
      have hlen:vs.length=args.length:=hV.1
      have hG:GX E I ρ fn.ntmps (st0 args fp) { tmps:=vs.toArray++Array.replicate (fn.ntmps-vs.toArray.size) undef,defers:=[] } w:=by
        refine { agree:=hA,bx:=by rw [Sj]; exact hB,tm:=fun t ht => ?_,size:=by simp; omega,defers:=rfl,vW:=Ba.refl _ _,own:=fun b k hu => ?_,DT:=IH.le_refl _,uo:=fun k _ _=>rfl,nJ:=fun b _=>rfl }
        · unfold st0
          rw [wQ,CW]
          simp only [Nat.zero_le,if_true,Nat.sub_zero]
          cases hx:args[t]? with
          | none=>trivial
          | some x =>
            have hlt:=(List.getElem?_eq_some_iff.1 hx).1
            have hvt:vs[t]? = some vs[t]:=List.getElem?_eq_getElem (by omega)
            refine ⟨fun _ => ?_,fun e=>by cases e⟩
            have hg:=hV.2 t _ x hvt hx
            have e:((vs.toArray++Array.replicate (fn.ntmps-vs.toArray.size) undef).getD t undef)=vs[t]:=by
              rw [Array.getD_eq_getD_getElem?,Array.getElem?_append_left (by simp; omega)]
              simp [hvt]
            rw [e]
            exact hg
        · right
          rw [Sj] at hu
          exact ⟨b,hu⟩
      refine wp_mono (oV (E:=E) hm hcc ⟨I,ρ,_,hwp,hG⟩) fun e a w' hq => ?_
      have key:AK E fn.ntmps (yD rs fp.length post) a w'->a.defers=[]/\∃ v,(results fn a.tmps).run P w' = .ok v w'/\∃ (v':Value) (J:IH) (σ:Ren) (r:AV) (bs:List Box),Ending.returned v = .returned v'/\post r bs/\GV J σ v' r/\Agree J w'/\BX J σ w' (tH bs) /\
          I.le J/\Ba w w' (fun k=>∃ b,(tH fp b).uses (ρ b) k) /\
          (∀ b k,(tH bs b).uses (σ b) k->w.heap.size<=k\/∃ b',(tH fp b').uses (ρ b') k) /\
          (∀ k,k<w.heap.size->(¬ ∃ b,(tH fp b).uses (ρ b) k)->J k=I k) /\
          (∀ b,b<fp.length->σ b=ρ b):=by
        rintro ⟨I',ρ',st,⟨hok,r,bs,zs,π,us,hp,hws,hwv⟩,hg⟩
        obtain ⟨ws,hrun,hl,hgs⟩:=J8 hg hcr hok
        have hv:∃ v,(results fn a.tmps).run P w' = .ok v w'/\GV I' ρ' v (FT st rs):=by
          have hrun':(fn.results.mapM (RQ a.tmps)).run P w' = .ok ws.toArray w':=by
            rw [Array.mapM_eq_mapM_toList]
            simp [hrun]
          rw [MK]
          by_cases h1:∃ r0,rs=[r0]
          · obtain ⟨r0,rfl⟩:=h1
            match ws,hl,hgs,hrun' with
            | [v0],_,hgs,hrun'=>exact ⟨v0,by simp [hrun'],hgs 0 v0 r0 rfl rfl⟩
          · have hne:ws.length ≠ 1:=by
              intro h
              rw [hl] at h
              match rs,h,h1 with
              | [r0],_,h1=>exact h1 ⟨r0,rfl⟩
            have Xn:FT st rs = .nV (oN st rs):=by
              match rs,h1 with
              | [],_=>rfl
              | [r0],h1=>exact absurd ⟨r0,rfl⟩ h1
              | _::_::_,_=>rfl
            refine ⟨.tuple ws.toArray,by simp [hrun',hne],?_⟩
            rw [Xn]
            have hparts:∀ {rs:List pg},uj st rs->(oN st rs).length=rs.length/\∀ (j:Nat) (p:Bool × List AC),(oN st rs)[j]? = some p->∃ r,rs[j]? = some r/\p=partOf (r.val st)/\(r.val st).flat:=by
              intro rs
              induction rs with
              | nil=>intro _; exact ⟨rfl,fun j p hp=>by simp [oN] at hp⟩
              | cons r0 rs ih =>
                rintro ⟨_,h2,h3⟩
                obtain ⟨j1,j2⟩:=ih h3
                refine ⟨by simp [oN,j1],fun j p hp => ?_⟩
                cases j with
                | zero=>simp [oN] at hp; exact ⟨r0,rfl,hp.symm,h2⟩
                | succ j=>obtain ⟨r',hr',h'⟩:=j2 j p (by simpa [oN] using hp); exact ⟨r',by simpa using hr',h'⟩
            obtain ⟨p1,p2⟩:=hparts hok
            refine ⟨ws.toArray,rfl,by simp [hl,p1],fun j v p hv hp => ?_⟩
            obtain ⟨r',hr',rfl,hfl⟩:=p2 j p hp
            have hgv:=hgs j v r' (by simpa using hv) hr'
            unfold GP
            cases hval:r'.val st with
            | one x=>rw [hval] at hgv; simp only [partOf]; exact ⟨x,rfl,hgv⟩
            | agg xs=>rw [hval] at hgv; simp only [partOf,if_true]; exact hgv
            | nV q=>rw [hval] at hfl; exact hfl.elim
        obtain ⟨v,Xn,hgv⟩:=hv
        have hS:=Gy hg (Nat.le_refl _) hws
        refine ⟨hg.defers,v,Xn,v,_,_,r,bs,rfl,hp,U2 hg hws.Xw hgv hwv,hS.agree,hS.bx,hS.DT,hS.vW,hS.own,hS.uo,hS.nJ⟩
      cases e with
      | normal=>exact key hq
      | ret=>exact key hq
      | exit id=>obtain ⟨_,_,_,h,_⟩:=hq; exact h.elim
      | goto l=>exact hq.elim
      | panic ch=>exact hq.elim
      | outgrown=>exact hq.elim
    · cases hc
  · cases hc
end
end Go.Ab
end
section
namespace Go.Ab
open Go
def FB:List (Nat × Nat)->Nat->Option Nat
 | [],_=>none
 | (b,c)::r,x=>if b=x then some c else FB r x
def Kz (zs:List Nat) (bx:Nat->Box) (π:Nat->Option Nat) (vs:List Nat) (Sz:List (Nat × Slot)):List (Nat × Slot)->Prop
 | []=>True
 | (t,s)::r=>F6 zs bx π vs (pJ Sz t) s/\Kz zs bx π vs Sz r
def Fj (zs:List Nat) (bx:Nat->Box) (π:Nat->Option Nat) (vs:List Nat):List (Nat × Box)->Prop
 | []=>True
 | (b,x)::r=>Cm zs bx π vs b x/\Fj zs bx π vs r
def Box.isAbs:Box->Bool
 | .absent=>true
 | _=>false
def nodupB:List Nat->Bool
 | []=>true
 | x::r => !r.contains x&&nodupB r
def fst' {α:Type} : List (Nat × α)->List Nat
 | []=>[]
 | x::r=>x.1::fst' r
def snd':List (Nat × Nat)->List Nat
 | []=>[]
 | x::r=>x.2::snd' r
def BO (m:Nat) (tC bs:List (Nat × Box)) (pi:List (Nat × Nat)) (vs:List Nat):Bool :=
 nodupB (snd' (pi.filter fun p => !(kJ bs p.1).BM))&&nodupB (fst' pi)&&(fst' pi).all (fun b=>(fst' bs).contains b)&&vs.all (fun b=>(fst' bs).contains b && !(fst' pi).contains b) &&
  (List.range m).all fun b=>FB pi b==some b||(!(fst' pi).contains b && !vs.contains b&&(kJ tC b).isAbs)
theorem zh {l:List Nat} : nodupB l=true<->l.Nodup:=by
 induction l with
 | nil=>simp [nodupB]
 | cons x r ih=>simp [nodupB,ih]
theorem Au:∀ {pi:List (Nat × Nat)} {b c:Nat},FB pi b=some c->(b,c)∈pi
  | [],_,_,h=>by cases h
  | (x,y)::r,b,c,h=>by
    simp only [FB] at h
    split at h
    · rename_i e; subst e; cases h; exact List.mem_cons_self ..
    · exact List.mem_cons_of_mem _ (Au h)
theorem JH {α:Type} : ∀ {l:List (Nat × α)} {b:Nat},b∈fst' l<->∃ x,(b,x)∈l
  | [],b=>by simp [fst']
  | (a,y)::r,b=>by
    simp only [fst',List.mem_cons,JH (l:=r)]
    constructor
    · rintro (h | ⟨x,hx⟩)
      · subst h; exact ⟨y,.inl rfl⟩
      · exact ⟨x,.inr hx⟩
    · rintro ⟨x,h | h⟩
      · cases h; exact .inl rfl
      · exact .inr ⟨x,h⟩
theorem NG:∀ {l:List (Nat × Nat)},snd' l=l.map (·.2)
 | []=>rfl
 | x::r=>by simp [snd',NG (l:=r)]
theorem EL {pi:List (Nat × Nat)} {b:Nat} (h:b ∉ fst' pi):FB pi b=none:=by
 cases hp:FB pi b with
 | none=>rfl
 | some c=>exact absurd (JH.2 ⟨c,Au hp⟩) h
theorem Kw {zs vs:List Nat} {bx:Nat->Box} {π:Nat->Option Nat} : ∀ {bs:List (Nat × Box)},Fj zs bx π vs bs->∀ b x,(b,x)∈bs->Cm zs bx π vs b x
  | [],_,_,_,h=>by cases h
  | (c,y)::r,hw,b,x,h=>by
    rcases List.mem_cons.1 h with h | h
    · cases h; exact hw.1
    · exact Kw hw.2 b x h
theorem Gx {zs vs:List Nat} {bx:Nat->Box} {π:Nat->Option Nat} {Sz:List (Nat × Slot)} : ∀ {ts:List (Nat × Slot)},Kz zs bx π vs Sz ts->∀ t,F6 zs bx π vs (pJ Sz t) (pJ ts t)
  | [],_,_=>by simp [pJ,F6]
  | (c,y)::r,hw,t=>by
    simp only [pJ]
    split
    · rename_i e; subst e; exact hw.1
    · exact Gx hw.2 t
theorem OU {bs:List (Nat × Box)} {b:Nat} : (b,kJ bs b)∈bs\/(b ∉ fst' bs/\kJ bs b = .absent):=by
  induction bs with
  | nil=>right; simp [fst',kJ]
  | cons p r ih =>
    obtain ⟨c,y⟩:=p
    simp only [kJ]
    by_cases h:c=b
    · subst h; left; simp
    · rw [if_neg h]
      rcases ih with ih | ⟨h1,h2⟩
      · left; exact List.mem_cons_of_mem _ ih
      · right; refine ⟨?_,h2⟩; simp only [fst',List.mem_cons,not_or]; exact ⟨fun e=>h e.symm,h1⟩
theorem SE {m:Nat} {tC bs:List (Nat × Box)} (zs:List Nat) (pi:List (Nat × Nat)) (vs:List Nat) (hk:BO m tC bs pi vs=true) (hb:Fj zs (kJ tC) (FB pi) vs bs):WT m (kJ tC) (kJ bs) zs (FB pi) vs:=by
 simp only [BO,Bool.and_eq_true,List.all_eq_true,Bool.or_eq_true,beq_iff_eq,Bool.not_eq_true',List.mem_range,zh,List.contains_iff_mem] at hk
 obtain ⟨⟨⟨⟨h1,_⟩,h3⟩,h4⟩,h5⟩:=hk
 have QN:∀ {l:List Nat} {x:Nat},l.contains x=false->x ∉ l:=fun h hm=>by
  rw [List.contains_iff_mem.2 hm] at h; cases h
 refine ⟨fun b => ?_,fun b b' c hd1 hd2 hb1 hb2 => ?_,fun b hv=>EL (QN (h4 b hv).2),fun b hlt => ?_⟩
 ·rcases OU (bs:=bs) (b:=b) with h | ⟨h,e⟩
  ·exact Kw hb b _ h
  ·rw [e]
   exact ⟨EL fun hm=>h (h3 b hm),fun hm=>h (h4 b hm).1⟩
 ·have m1:(b,c)∈pi.filter fun p => !(kJ bs p.1).BM:=List.mem_filter.2 ⟨Au hb1,by simp [hd1]⟩
  have m2:(b',c)∈pi.filter fun p => !(kJ bs p.1).BM:=List.mem_filter.2 ⟨Au hb2,by simp [hd2]⟩
  rw [NG] at h1
  obtain ⟨i,hi,ei⟩:=List.getElem_of_mem m1
  obtain ⟨j,hj,ej⟩:=List.getElem_of_mem m2
  have hpw:=List.pairwise_iff_getElem.1 h1
  rcases Nat.lt_trichotomy i j with h | h | h
  ·have:=hpw i j (by simpa using hi) (by simpa using hj) h
   simp [ei,ej] at this
  ·subst h; rw [ei] at ej; cases ej; rfl
  ·have:=hpw j i (by simpa using hj) (by simpa using hi) h
   simp [ei,ej] at this
 ·rcases h5 b hlt with h | ⟨⟨h,h'⟩,h''⟩
  ·exact .inl h
  ·refine .inr ⟨EL (QN h),QN h',?_⟩
   cases hx:kJ tC b with
   | absent=>rfl
   | _=>rw [hx] at h''; cases h''
theorem zi (ts:List (Nat × Slot)) (bs:List (Nat × Box)):(bZ.of ts bs).bx=kJ bs:=funext fun b=>sN ts bs b
theorem Uz {m:Nat} {Sz ts:List (Nat × Slot)} {tC bs:List (Nat × Box)} (zs:List Nat) (pi:List (Nat × Nat)) (vs:List Nat) (hk:BO m tC bs pi vs=true)
  (hb:Fj zs (kJ tC) (FB pi) vs bs) (ht:Kz zs (kJ tC) (FB pi) vs Sz ts):yA m (bZ.of Sz tC) (bZ.of ts bs):=by
 refine ⟨zs,FB pi,vs,?_,fun t => ?_⟩
 ·rw [zi,zi]; exact SE zs pi vs hk hb
 ·rw [zi,wQ,wQ]; exact Gx ht t
def dC (bx:Nat->Box):AC->AC->Prop
  | .c x,.c y=>x=y
  | .iL sz,.c y=>y = .sl sz []
  | .own b n sz,.c y=>match (bx b).arr with
    | some (sz',es)=>sz'=sz/\n<=es.length/\y = .sl sz (es.take n)
    | none=>False
  | _,_=>False
def S9 (bx:Nat->Box):List AC->List AC->Prop
 | [],[]=>True
 | x::xs,y::ys=>dC bx x y/\S9 bx xs ys
 | _,_=>False
def TR (bx:Nat->Box):List (Bool × List AC)->List (Bool × List AC)->Prop
 | [],[]=>True
 | (g,x)::xs,(g',y)::ys=>g=g'/\S9 bx x y/\TR bx xs ys
 | _,_=>False
def dV (bx:Nat->Box):AV->AV->Prop
 | .one x,.one y=>dC bx x y
 | .agg xs,.agg ys=>S9 bx xs ys
 | .nV xs,.nV ys=>TR bx xs ys
 | _,_=>False
theorem UM {bx:Nat->Box} {zs:List Nat} {x y:AC} (h:dC bx x y) (hz:∀ b,b∈jd [x]->b∈zs):uB zs bx (fun _=>none) [] x y:=by
 cases x<;>cases y<;>simp only [dC] at h<;>try exact h
 exact ⟨hz _ (by simp [jd]),h⟩
theorem LJ {bx:Nat->Box} {zs:List Nat} : ∀ {xs ys:List AC},S9 bx xs ys->(∀ b,b∈jd xs->b∈zs)->zy zs bx (fun _=>none) [] xs ys
 | [],[],_,_=>trivial
 | x::xs,y::ys,h,hz=>⟨UM h.1 fun b hb=>hz b (qM.2 (.inl hb)),LJ h.2 fun b hb=>hz b (qM.2 (.inr hb))⟩
 | [],_::_,h,_=>h.elim
 | _::_,[],h,_=>h.elim
theorem Qo {bx:Nat->Box} {zs:List Nat} : ∀ {xs ys:List (Bool × List AC)},TR bx xs ys->(∀ b,b∈(AV.nV xs).owns->b∈zs)->F5 zs bx (fun _=>none) [] xs ys
  | [],[],_,_=>trivial
  | (g,x)::xs,(g',y)::ys,h,hz =>
    ⟨h.1,LJ h.2.1 fun b hb=>hz b (by simp only [AV.owns,List.flatMap_cons,List.mem_append]; exact .inl hb),Qo h.2.2 fun b hb=>hz b (by simp only [AV.owns,List.flatMap_cons,List.mem_append] at hb ⊢; exact .inr hb)⟩
  | [],_::_,h,_=>h.elim
  | _::_,[],h,_=>h.elim
theorem Wh {bx:Nat->Box} {x y:AV} (h:dV bx x y):NP x.owns bx (fun _=>none) [] x y:=by
 cases x<;>cases y<;>simp only [dV] at h<;>first | exact h.elim | skip
 ·exact UM h fun b hb=>hb
 ·exact LJ h fun b hb=>hb
 ·exact Qo h fun b hb=>hb
def Dh (rs:List pg) (r:AV) (st:bZ):Prop:=uj st rs/\dV st.bx (FT st rs) r
def QP (rs:List pg) (r:AV):AQ
 | .normal,st=>Dh rs r st
 | .ret,st=>Dh rs r st
 | .exit _,_=>False
theorem Dh.ret {rs:List pg} {r:AV} {st:bZ} (h:Dh rs r st):yD rs 0 (fun r' bs=>r'=r/\bs=[]) st :=
 ⟨h.1,r,[],_,_,[],⟨rfl,rfl⟩,⟨fun b=>by rw [GU]; exact ⟨rfl,by simp⟩,fun b b' c _ _ h=>by simp at h,fun b _=>rfl,fun b hb=>by omega⟩,Wh h.2⟩
section
variable {P:Program}
theorem Fq:∀ {l:List gK} {st:bZ} {K K':bZ->Prop},(∀ st,K st->K' st)->wpOps P l st K->wpOps P l st K'
 | [],st,_,_,hk,h=>hk st h
 | x::r,_,_,_,hk,h=>Bi (fun _ _ _ h=>Fq (l:=r) hk h) (show T P x _ (fun _ _ st'=>wpOps P r st' _) from h)
theorem KA:∀ {l:List (gK × List Nat)} {i:Nat} {log:Log} {st:bZ} {K K':bZ->Prop},(∀ st,K st->K' st)->Tm P l i log st K->Tm P l i log st K'
 | [],_,_,st,_,_,hk,h=>hk st h
 | (o,wO)::r,i,log,_,_,_,hk,h=>Bi (fun _ _ _ h=>⟨h.1,KA (l:=r) hk h.2⟩) (show T P o _ (fun rd wr st'=>kW wO rd wr log=true/\Tm P r (i+1) ((i,rd,wr)::log) st' _) from h)
theorem wpC_mono:∀ {c:aO} {Q Q':AQ} {st:bZ},(∀ e st,Q e st->Q' e st)->wpC P c Q st->wpC P c Q' st
  | .skip,_,_,st,hq,h=>hq .normal st h
  | .reg ops keep,_,_,st,hq,h=>Fq (fun st h=>hq .normal _ h) h
  | .kz ops keep,_,_,st,hq,h=>KA (fun st h=>hq .normal _ h) h
  | .seq a b,_,_,st,hq,h=>wpC_mono (c:=a) (fun e st h=>by
      cases e with
      | normal=>exact wpC_mono (c:=b) hq h
      | exit id=>exact hq _ _ h
      | ret=>exact hq _ _ h) h
  | .cut a b,_,_,st,hq,⟨X,J,S,h1,h2⟩=>⟨X,J,S,wpC_mono (c:=a) (fun e st h=>by
      cases e with
      | normal=>exact h
      | exit id=>exact hq _ _ h
      | ret=>exact hq _ _ h) h1,fun x hx=>wpC_mono (c:=b) hq (h2 x hx)⟩
  | .cond c a b,_,_,st,hq,⟨h1,h2⟩=>⟨h1,by
      split at h2
      · exact ⟨fun e=>wpC_mono (c:=a) hq (h2.1 e),fun e=>wpC_mono (c:=b) hq (h2.2 e)⟩
      · exact h2.elim⟩
  | .block id a,_,_,st,hq,h=>wpC_mono (c:=a) (fun e st h=>by
      cases e with
      | normal=>exact hq _ _ h
      | exit id' =>
        simp only [mY.inBlock] at h ⊢
        split
        · rename_i e; rw [if_pos e] at h; exact hq _ _ h
        · rename_i e; rw [if_neg e] at h; exact hq _ _ h
      | ret=>exact hq _ _ h) h
  | .loop a,_,_,st,hq,⟨X,J,S,μ,h0,h1⟩=>⟨X,J,S,μ,h0,fun x hx=>wpC_mono (c:=a) (fun e st h=>by
      cases e with
      | normal=>exact h
      | exit id=>exact hq _ _ h
      | ret=>exact hq _ _ h) (h1 x hx)⟩
  | .exit id,_,_,st,hq,h=>hq _ _ h
  | .ret,_,_,st,hq,h=>hq _ _ h
theorem aB {f:FuncId} {ac:aO} {rs:List pg} {args:List AV} {r:AV} (hc:dO P f args.length 0 ac rs=true) (hwp:wpC P ac (QP rs r) (st0 args [])):aZ P f args r:=by
 refine kU (fp:=[]) hc (wpC_mono (fun e st h => ?_) hwp)
 cases e with
 | normal=>exact Dh.ret h
 | ret=>exact Dh.ret h
 | exit id=>exact h.elim
theorem vT.intro {body:AQ->bZ->Prop} {Q:AQ} {st:bZ} {d1:DU body} {d2:DU Q} {X:Type} (J:X->Prop) (S:X->bZ) (μ:X->Nat) (x0:X) (h0:J x0) (hw:yA 10 st (S x0))
  (h:∀ x,J x->body (mY.then (fun st'=>∃ x',(J x'/\μ x'<μ x)/\yA 10 st' (S x')) Q) (S x)):vT body Q st d1 d2 :=
 ⟨X,J,S,μ,⟨x0,h0,hw⟩,h⟩
theorem zH.intro {wa wb:AQ->bZ->Prop} {Q:AQ} {st:bZ} {d1:DU wa} {d2:DU wb} {d3:DU Q} {X:Type} (J:X->Prop) (S:X->bZ)
  (h1:wa (mY.then (fun st'=>∃ x,J x/\yA 10 st' (S x)) Q) st) (h2:∀ x,J x->wb Q (S x)):zH wa wb Q st d1 d2 d3 :=
 ⟨X,J,S,h1,h2⟩
def sK (bx:Nat->Box):AC->AC
  | .iL sz => .c (.sl sz [])
  | .own b n sz=>match (bx b).arr with
    | some (_,es) => .c (.sl sz (es.take n))
    | none => .xB
  | x=>x
def qf (bx:Nat->Box):AV->AV
 | .one x => .one (sK bx x)
 | .agg xs => .agg (xs.map (sK bx))
 | .nV xs => .nV xs
def nS (bx:Nat->Box):List AV->Prop
 | []=>True
 | .nV _::_=>False
 | x::r=>oD bx x.cells/\nS bx r
theorem xE {bx:Nat->Box} : ∀ {xs:List AC},oD bx xs->UC bx xs (xs.map (sK bx))
  | [],_ => .nil
  | x::r,h=>by
    cases x with
    | own b n sz =>
      obtain ⟨h1,h2⟩:=h
      refine .cons ?_ (xE h2)
      simp only [sK]
      cases hb:(bx b).arr with
      | none=>rw [hb] at h1; exact h1.elim
      | some p=>obtain ⟨sz',es⟩:=p; rw [hb] at h1; obtain ⟨rfl,h1⟩:=h1; exact .own b n sz' es hb h1
    | iL sz=>exact .cons (.iL sz) (xE (xs:=r) h)
    | _=>exact .cons (.refl _) (xE (xs:=r) h)
theorem xG {bx:Nat->Box} : ∀ {xs:List AV},nS bx xs->yJ bx xs (xs.map (qf bx))
  | [],_ => .nil
  | x::r,h=>by
    cases x with
    | one x =>
      refine .cons ?_ (xG h.2)
      have:=xE (xs:=[x]) h.1
      cases this with
      | cons h t=>exact .one h
    | agg xs=>exact .cons (.agg (xE h.1)) (xG h.2)
    | nV xs=>exact h.elim
variable {f:FuncId} {lX:List AV} {p:Bool} {d:Option Nat} {st:bZ} {K:List Nat->List Nat->bZ->Prop} {du:DU K}
theorem lY.lit (r:AV) (h:p=true->aZ P f (lX.map (qf st.bx)) r) (hl:p=true->nS st.bx lX) (hd:(lX.map (qf st.bx)).all (·.all AC.nD)=true) (hr:r.all AC.isLit=true)
  (k:K (lX.flatMap AV.owns) [] (st.oM d (.v p r))):lY P f lX p d st K du :=
 zF.lit _ r (fun e=>xG (hl e)) hd h hr k
theorem lY.pure (r:AV) (hp:p=true) (h:aZ P f (lX.map (qf st.bx)) r) (hl:nS st.bx lX) (hd:(lX.map (qf st.bx)).all (·.all AC.nD)=true) (hr:r.all AC.nD=true)
  (k:K (lX.flatMap AV.owns) (lX.flatMap AV.owns) ((st.sJ (lX.flatMap AV.owns)).oM d (.v true r))):lY P f lX p d st K du :=
 zF.pure _ r hp (xG hl) hd h hr k
end
end Go.Ab
end
section
namespace Go.Ab
open Go
def TK (P:Program) (o:gK) (st:bZ) (K:List Nat->List Nat->bZ->Prop) (_:DU o) (_:DU K):Prop:=T P o st K
def CB (P:Program) (ops:List gK) (st:bZ) (K:bZ->Prop) (_:DU ops) (_:DU K):Prop:=wpOps P ops st K
def PW (P:Program) (ops:List (gK × List Nat)) (i:Nat) (log:List (Nat × List Nat × List Nat)) (st:bZ) (K:bZ->Prop) (_:DU ops) (_:DU K):Prop:=Tm P ops i log st K
def pK (P:Program) (c:aO) (Q:AQ) (st:bZ) (_:DU c) (_:DU Q):Prop:=wpC P c Q st
def QK (Q:AQ) (e:mY) (st:bZ) (_:DU Q):Prop:=Q e st
def yI (c:aO) (P:Program) (Q:AQ):AQ:=mY.then (wpC P c Q) Q
section
variable {P:Program} {st:bZ} {K:List Nat->List Nat->bZ->Prop} {k:bZ->Prop} {Q:AQ}
theorem TF {g:Option (Nat × Bool)} {d:Option Nat} {f:FuncId} {args:List iY} {d1:DU (gK.mk g d (.call f args))} {d2:DU K} :
  TK P ⟨g,d,.call f args⟩ st K d1 d2=(qh st.tm g/\(lS st.tm g=true->∀ x,x∈args->(x.ev st.tm).g=true)/\lY P f (args.map (aU st.tm)) (lS st.tm g) d st K .mk):=by
 unfold TK T; rfl
def Bh (P:Program) (x:AV) (args:List AV) (p:Bool) (d:Option Nat) (st:bZ) (K:List Nat->List Nat->bZ->Prop) (_:DU K):Prop :=
 match p,x with
 | false,_=>lY P 0 [] false d st K .mk
 | true,.one (.fn f caps)=>jT P f=true/\lY P f (args++caps.map fun b => .one (.ptr b 0)) true d st K .mk
 | true,_=>False
theorem Oa {f:FuncId} {caps:List Nat} {args:List AV} {d:Option Nat} {du:DU K} : Bh P (.one (.fn f caps)) args true d st K du=(jT P f=true/\lY P f (args++caps.map fun b => .one (.ptr b 0)) true d st K .mk):=by
 unfold Bh; rfl
theorem Qc {x:AV} {args:List AV} {d:Option Nat} {du:DU K} : Bh P x args false d st K du=lY P 0 [] false d st K .mk:=by
 unfold Bh; rfl
theorem Qd {g:Option (Nat × Bool)} {d:Option Nat} {x:iY} {args:List iY} {d1:DU (gK.mk g d (.ve x args))} {d2:DU K} :
  TK P ⟨g,d,.ve x args⟩ st K d1 d2=(qh st.tm g/\(lS st.tm g=true->(x.ev st.tm).g=true/\∀ x,x∈args->(x.ev st.tm).g=true)/\Bh P (aU st.tm x) (args.map (aU st.tm)) (lS st.tm g) d st K .mk):=by
 unfold TK T Bh; rfl
theorem MX {d1:DU ([]:List gK)} {d2:DU k} : CB P [] st k d1 d2=k st:=by unfold CB wpOps; rfl
theorem KC {o:gK} {r:List gK} {d1:DU (o::r)} {d2:DU k} : CB P (o::r) st k d1 d2=TK P o st (fun _ _ st'=>CB P r st' k .mk .mk) .mk .mk:=by
 unfold CB TK; rfl
theorem SL {i:Nat} {log:List (Nat × List Nat × List Nat)} {d1:DU ([]:List (gK × List Nat))} {d2:DU k} : PW P [] i log st k d1 d2=k st:=by unfold PW Tm; rfl
theorem PX {i:Nat} {log:List (Nat × List Nat × List Nat)} {o:gK} {wO:List Nat} {r:List (gK × List Nat)} {d1:DU ((o,wO)::r)} {d2:DU k} :
  PW P ((o,wO)::r) i log st k d1 d2=TK P o st (fun rd wr st'=>kW wO rd wr log=true/\PW P r (i+1) ((i,rd,wr)::log) st' k .mk .mk) .mk .mk:=by
 unfold PW TK; rfl
theorem PV {d1:DU aO.skip} {d2:DU Q} : pK P .skip Q st d1 d2=QK Q .normal st .mk:=by unfold pK wpC; rfl
theorem SH {ops:List gK} {keep:List Nat} {d1:DU (aO.reg ops keep)} {d2:DU Q} : pK P (.reg ops keep) Q st d1 d2=CB P ops st (fun st=>QK Q .normal (st.keep keep) .mk) .mk .mk:=by unfold pK wpC; rfl
theorem PU {ops:List (gK × List Nat)} {keep:List Nat} {d1:DU (aO.kz ops keep)} {d2:DU Q} : pK P (.kz ops keep) Q st d1 d2=PW P ops 0 [] st (fun st=>QK Q .normal (st.keep keep) .mk) .mk .mk:=by unfold pK wpC; rfl
theorem SK {a b:aO} {d1:DU (aO.seq a b)} {d2:DU Q} : pK P (.seq a b) Q st d1 d2=pK P a (yI b P Q) st .mk .mk:=by unfold pK; rw [wpC]; rfl
theorem SG {a b:aO} {d1:DU (aO.cut a b)} {d2:DU Q} : pK P (.cut a b) Q st d1 d2=zH (wpC P a) (wpC P b) Q st .mk .mk .mk:=by unfold pK; rw [wpC]
theorem PS {a:aO} {d1:DU (aO.loop a)} {d2:DU Q} : pK P (.loop a) Q st d1 d2=vT (wpC P a) Q st .mk .mk:=by unfold pK; rw [wpC]
theorem MW {id:Nat} {a:aO} {d1:DU (aO.block id a)} {d2:DU Q} : pK P (.block id a) Q st d1 d2=pK P a (mY.inBlock id Q) st .mk .mk:=by unfold pK; rw [wpC]
theorem PR {id:Nat} {d1:DU (aO.exit id)} {d2:DU Q} : pK P (.exit id) Q st d1 d2=QK Q (.exit id) st .mk:=by unfold pK wpC; rfl
theorem SI {d1:DU aO.ret} {d2:DU Q} : pK P .ret Q st d1 d2=QK Q .ret st .mk:=by unfold pK wpC; rfl
def Gm (P:Program) (c:AV) (a b:aO) (Q:AQ) (st:bZ) (_:DU a) (_:DU b) (_:DU Q):Prop :=
 match c with
 | .one (.c (.lit (.bool t)))=>(t=true->wpC P a Q st)/\(t=false->wpC P b Q st)
 | _=>False
theorem PO {c:iY} {a b:aO} {d1:DU (aO.cond c a b)} {d2:DU Q} : pK P (.cond c a b) Q st d1 d2=((c.ev st.tm).g=true/\Gm P (c.ev st.tm).x a b Q st .mk .mk .mk):=by
 unfold pK Gm; rw [wpC]<;>rfl
theorem TP {a b:aO} {d1:DU a} {d2:DU b} {d3:DU Q} : Gm P (.one (.c (.lit (.bool true)))) a b Q st d1 d2 d3=pK P a Q st .mk .mk:=by unfold Gm pK; simp
theorem TN {a b:aO} {d1:DU a} {d2:DU b} {d3:DU Q} : Gm P (.one (.c (.lit (.bool false)))) a b Q st d1 d2 d3=pK P b Q st .mk .mk:=by unfold Gm pK; simp
theorem N8 {b:aO} {du:DU (yI b P Q)} : QK (yI b P Q) .normal st du=pK P b Q st .mk .mk:=by unfold QK yI pK; rfl
theorem N7 {b:aO} {id:Nat} {du:DU (yI b P Q)} : QK (yI b P Q) (.exit id) st du=QK Q (.exit id) st .mk:=by unfold QK yI; rfl
theorem N9 {b:aO} {du:DU (yI b P Q)} : QK (yI b P Q) .ret st du=QK Q .ret st .mk:=by unfold QK yI; rfl
theorem NY {k:bZ->Prop} {du:DU (mY.then k Q)} : QK (mY.then k Q) .normal st du=k st:=by unfold QK; rfl
theorem NW {k:bZ->Prop} {id:Nat} {du:DU (mY.then k Q)} : QK (mY.then k Q) (.exit id) st du=QK Q (.exit id) st .mk:=by unfold QK; rfl
theorem NZ {k:bZ->Prop} {du:DU (mY.then k Q)} : QK (mY.then k Q) .ret st du=QK Q .ret st .mk:=by unfold QK; rfl
theorem KP {id:Nat} {du:DU (mY.inBlock id Q)} : QK (mY.inBlock id Q) .normal st du=QK Q .normal st .mk:=by unfold QK; rfl
theorem KO {id id':Nat} {du:DU (mY.inBlock id Q)} : QK (mY.inBlock id Q) (.exit id') st du=if id'=id then QK Q .normal st .mk else QK Q (.exit id') st .mk:=by unfold QK; rfl
theorem KQ {id:Nat} {du:DU (mY.inBlock id Q)} : QK (mY.inBlock id Q) .ret st du=QK Q .ret st .mk:=by unfold QK; rfl
theorem TB {rs:List pg} {r:AV} {du:DU (QP rs r)} : QK (QP rs r) .normal st du=Dh rs r st:=by unfold QK; rfl
theorem TC {rs:List pg} {r:AV} {du:DU (QP rs r)} : QK (QP rs r) .ret st du=Dh rs r st:=by unfold QK; rfl
theorem Tz {rs:List pg} {m:Nat} {post:AV->List Box->Prop} {du:DU (QF rs m post)} : QK (QF rs m post) .normal st du=yD rs m post st:=by unfold QK; rfl
theorem TA {rs:List pg} {m:Nat} {post:AV->List Box->Prop} {du:DU (QF rs m post)} : QK (QF rs m post) .ret st du=yD rs m post st:=by unfold QK; rfl
theorem jZ {c:aO} (h:pK P c Q st .mk .mk):wpC P c Q st:=h
theorem WG {a:aO} {d1:DU (wpC P a)} {d2:DU Q} {X:Type} (J:X->Prop) (S:X->bZ) (μ:X->Nat) (x0:X) (h0:J x0) (hw:yA 10 st (S x0))
  (h:∀ x,J x->pK P a (mY.then (fun st'=>∃ x',(J x'/\μ x'<μ x)/\yA 10 st' (S x')) Q) (S x) .mk .mk):vT (wpC P a) Q st d1 d2 :=
 vT.intro J S μ x0 h0 hw h
theorem Xb {a b:aO} {d1:DU (wpC P a)} {d2:DU (wpC P b)} {d3:DU Q} {X:Type} (J:X->Prop) (S:X->bZ)
  (h1:pK P a (mY.then (fun st'=>∃ x,J x/\yA 10 st' (S x)) Q) st .mk .mk) (h2:∀ x,J x->pK P b Q (S x) .mk .mk):zH (wpC P a) (wpC P b) Q st d1 d2 d3 :=
 zH.intro J S h1 h2
end
end Go.Ab
end
section
namespace Go.Ab
open Go
inductive Nd where
 | mk (k w:Int) (s:List UInt8) (ws:List (List UInt8)) (ks:List Nd)
abbrev aS:=List UInt8
def Xu (ws:List aS):List (List Cell):=ws.map fun w=>[.str w]
mutual
def Nd.cells:Nd->List Cell
 | .mk k w s ws ks=>[.lit (.int .i64 k),.lit (.int .i64 w),.str s,.sl 1 (Xu ws),.sl 5 (Nd.vU ks)]
def Nd.vU:List Nd->List (List Cell)
 | []=>[]
 | x::r=>x.cells::Nd.vU r
end
theorem Nd.Gh (ks:List Nd):Nd.vU ks=ks.map Nd.cells:=by
 induction ks with
 | nil=>rfl
 | cons x r ih=>simp [Nd.vU,ih]
def IP:List AC->Bool
 | []=>true
 | .c _::r=>IP r
 | _=>false
def yt:List AV->Bool
 | []=>true
 | .one (.c _)::r=>yt r
 | .agg xs::r=>IP xs&&yt r
 | _=>false
theorem AX {bx:Nat->Box} : ∀ {xs:List AC},IP xs=true->xs.map (sK bx)=xs/\oD bx xs/\xs.all AC.nD=true/\jd xs=[]
  | [],_=>⟨rfl,trivial,rfl,rfl⟩
  | x::r,h=>by
    cases x with
    | c x =>
      obtain ⟨h1,h2,h3,h4⟩:=AX (bx:=bx) (xs:=r) h
      exact ⟨by simp [sK,h1],h2,by simp [AC.nD,h3],by simp [jd,h4]⟩
    | _=>cases h
theorem sW {bx:Nat->Box} : ∀ {xs:List AV},yt xs=true->xs.map (qf bx)=xs/\nS bx xs/\xs.all (·.all AC.nD)=true/\xs.flatMap AV.owns=[]
  | [],_=>⟨rfl,trivial,rfl,rfl⟩
  | x::r,h=>by
    cases x with
    | one x =>
      cases x with
      | c x =>
        obtain ⟨h1,h2,h3,h4⟩:=sW (bx:=bx) (xs:=r) h
        exact ⟨by simp [qf,sK,h1],⟨trivial,h2⟩,by rw [List.all_cons,h3]; rfl,by simp [AV.owns,jd,h4]⟩
      | _=>cases h
    | agg xs =>
      simp only [yt,Bool.and_eq_true] at h
      obtain ⟨h1,h2,h3,h4⟩:=sW (bx:=bx) (xs:=r) h.2
      obtain ⟨j1,j2,j3,j4⟩:=AX (bx:=bx) h.1
      refine ⟨by simp only [List.map_cons,qf,j1,h1],⟨j2,h2⟩,?_,by simp only [List.flatMap_cons,AV.owns,j4,h4,List.append_nil]⟩
      rw [List.all_cons,h3,Bool.and_true]
      exact j3
    | nV xs=>cases h
section
variable {P:Program} {f:FuncId} {lX:List AV} {p:Bool} {d:Option Nat} {st:bZ} {K:List Nat->List Nat->bZ->Prop} {du:DU K}
theorem TV (st:bZ):st.sJ []=st:=by
 apply bZ.ext'
 ·rfl
 ·funext b; simp [bZ.sJ]
theorem UJ {r:AV} (h:aZ P f lX r) (hs:yt lX=true) (hr:r.all AC.nD=true) (k:K [] [] (st.oM d (.v true r))):lY P f lX true d st K du:=by
 obtain ⟨h1,h2,h3,h4⟩:=sW (bx:=st.bx) hs
 refine lY.pure r rfl (by rw [h1]; exact h) h2 (by rw [h1]; exact h3) hr ?_
 rw [h4,TV]
 exact k
theorem UH {r:AV} (h:p=true->aZ P f lX r) (hs:yt lX=true) (hr:r.all AC.isLit=true) (k:K [] [] (st.oM d (.v p r))):lY P f lX p d st K du:=by
 obtain ⟨h1,h2,h3,h4⟩:=sW (bx:=st.bx) hs
 refine lY.lit r (fun e=>by rw [h1]; exact h e) (fun _=>h2) (by rw [h1]; exact h3) hr ?_
 rw [h4]
 exact k
end
theorem Xa (b:Bool):(b==true)=b:=by cases b<;>rfl
theorem W9 (b:Bool):(b==false) = !b:=by cases b<;>rfl
end Go.Ab
end
section
namespace Go.Ab
open Go
def cI (x:Int):List Cell:=[.lit (.int .i64 x)]
def cU (x:Int):List Cell:=[.lit (.int .u8 x)]
def cK (k:IntKind) (x:Int):List Cell:=[.lit (.int k x)]
def cB (x:Bool):List Cell:=[.lit (.bool x)]
def cS (x:aS):List Cell:=[.str x]
def cL {α:Type} (sz:Nat) (f:α->List Cell) (xs:List α):List Cell:=[.sl sz (List.map f xs)]
def chk (c:Prop) [Decidable c] {α:Type} (k:Option α):Option α:=if c then k else none
theorem oJ {c:Prop} [Decidable c] {α:Type} {k:Option α} {r:α} : chk c k=some r<->c/\k=some r:=by
 unfold chk; split<;>simp [*]
theorem Ot {b:Bool} {α:Type} {x y:Option α} {r:α} : cond b x y=some r<->(b=true/\x=some r)\/(b=false/\y=some r):=by
 cases b<;>simp
def uf (xs:List Int):aS:=xs.map fun x=>UInt8.ofNat x.toNat
theorem Le (xs:List Int):bytesOf (List.map cU xs)=some (uf xs):=by
 induction xs with
 | nil=>rfl
 | cons x r ih=>simp [cU,bytesOf,ih,uf]
theorem Jr:bytesOf []=some []:=rfl
theorem Js (n:Int) (r:List (List Cell)):bytesOf ([.lit (.int .u8 n)]::r)=Option.map (fun l=>UInt8.ofNat n.toNat::l) (bytesOf r):=by
 simp only [bytesOf]; cases bytesOf r<;>rfl
theorem sF (xs:List Int):(uf xs).length=xs.length:=by simp [uf]
theorem OB {α:Type} [Inhabited α] {f:α->List Cell} {xs:List α} {i:Nat} (h:i<xs.length):(List.map f xs).getD i []=f (xs.getD i default):=by
 simp [h]
theorem take_len {α:Type} {l:List α} {n:Nat} (h:l.length=n):l.take n=l:=by subst h; simp
theorem yu {α:Type} {x:α} {l:List α} {n:Nat} (h:l.length=n):(x::l).take (1+n)=x::l:=by subst h; rw [Nat.add_comm]; simp
theorem yw {α:Type} {x y:α} {l:List α} {n:Nat} (h:l.length=n):(x::y::l).take (2+n)=x::y::l:=by subst h; rw [Nat.add_comm]; simp
def EF (l:List Nat):List (Nat × Box)->List (Nat × Box)
 | []=>[]
 | (b,x)::r=>(b,if l.contains b then uI x else x)::EF l r
theorem OA (l:List Nat) (bs:List (Nat × Box)) (b:Nat):kJ (EF l bs) b=if b∈l then uI (kJ bs b) else kJ bs b:=by
  induction bs with
  | nil=>simp [EF,kJ,uI]
  | cons p r ih =>
    obtain ⟨c,x⟩:=p
    simp only [EF,kJ,ih]
    by_cases h:c=b
    · subst h; simp
    · simp [h]
theorem Nz (ts:List (Nat × Slot)) (bs:List (Nat × Box)) (l:List Nat):(bZ.of ts bs).sJ l=bZ.of ts (EF l bs):=by
 apply bZ.ext'
 ·rfl
 ·funext b
  simp only [bZ.sJ]
  rw [sN,sN,OA]
theorem QA (bs:List (Nat × Box)):EF [] bs=bs:=by
 induction bs with
 | nil=>rfl
 | cons p r ih=>obtain ⟨c,x⟩:=p; simp [EF,ih]
def VX (g:Bool) (o:fA) (d:Option Nat) (st:bZ) (K:List Nat->List Nat->bZ->Prop) (_:DU o) (_:DU K):Prop:=V7 o g d st K
def Vb (valid:Prop) (rd:List Nat) (r:FR) (d:Option Nat) (st:bZ) (K:List Nat->List Nat->bZ->Prop) (_:DU K):Prop :=
 valid/\r.vc/\K rd (r.sets.map (·.1)) ((st.kT r.sets).oM d (.v true r.v))
section
variable {P:Program} {st:bZ} {K:List Nat->List Nat->bZ->Prop}
theorem Va {g:Option (Nat × Bool)} {d:Option Nat} {op:fA} {d1:DU (gK.mk g d (.op op))} {d2:DU K} :
  TK P ⟨g,d,.op op⟩ st K d1 d2=(qh st.tm g/\VX (lS st.tm g) op d st K .mk .mk):=by
 unfold TK T VX; rfl
theorem V6 {op:fA} {d:Option Nat} {d1:DU op} {d2:DU K} : VX true op d st K d1 d2=Vb (op.valid (iY.ev st.tm)) (op.rd (aU st.tm)) (op.f (aU st.tm) st.bx) d st K .mk:=by
 unfold VX V7 Vb; simp
theorem V5 {op:fA} {d:Option Nat} {d1:DU op} {d2:DU K} : VX false op d st K d1 d2=K [] [] (st.oM d (.v false (.one .xB))):=by
 unfold VX V7; simp
theorem Vd {valid:Prop} {rd:List Nat} {vc:Prop} {v:AV} {sets:List (Nat × Box)} {d:Option Nat} {du:DU K} :
  Vb valid rd ⟨vc,v,sets⟩ d st K du=(valid/\vc/\K rd (sets.map (·.1)) ((st.kT sets).oM d (.v true v))):=rfl
end
section
variable {P:Program} {f:FuncId} {lX:List AV} {d:Option Nat} {st:bZ} {K:List Nat->List Nat->bZ->Prop} {du:DU K}
theorem UF {KW:List AV} {r:AV} (h:aZ P f KW r) (he:lX.map (qf st.bx)=KW) (hl:nS st.bx lX) (hd:KW.all (·.all AC.nD)=true) (hr:r.all AC.nD=true)
  (k:K (lX.flatMap AV.owns) (lX.flatMap AV.owns) ((st.sJ (lX.flatMap AV.owns)).oM d (.v true r))):lY P f lX true d st K du:=by
 subst he
 exact lY.pure r rfl h hl hd hr k
theorem UG {KW:List AV} {r:AV} (h:aZ P f KW r) (he:lX.map (qf st.bx)=KW) (hl:nS st.bx lX) (hd:KW.all (·.all AC.nD)=true) (hr:r.all AC.isLit=true)
  (k:K (lX.flatMap AV.owns) [] (st.oM d (.v true r))):lY P f lX true d st K du:=by
 subst he
 exact lY.lit r (fun _=>h) (fun _=>hl) hd hr k
theorem UI (k:K (lX.flatMap AV.owns) [] (st.oM d (.v false (.one (.c (.lit (.bool true))))))):lY P f lX false d st K du :=
 zF.lit [] (.one (.c (.lit (.bool true)))) (fun e=>by cases e) rfl (fun e=>by cases e) rfl k
def FW (st:bZ) (sg:List Nat):List Box->Nat->Prop
 | [],_=>True
 | x::r,i=>st.bx (sg.getD i 0)=qp (fun b=>sg.getD b 0) x/\FW st sg r (i+1)
theorem IL {st:bZ} {sg:List Nat} : ∀ {fp:List Box} {i0 i:Nat},FW st sg fp i0->i<fp.length->st.bx (sg.getD (i0+i) 0)=qp (fun b=>sg.getD b 0) (fp.getD i .absent)
  | [],_,_,_,h=>by simp at h
  | x::r,i0,0,h,_=>by simpa using h.1
  | x::r,i0,i+1,h,hi=>by
    have:=IL (i:=i) h.2 (by simpa using hi)
    simpa [Nat.add_assoc,Nat.add_comm 1 i] using this
def FP (st:bZ):List Nat->Prop
 | []=>True
 | b::r=>st.bx b = .absent/\10<=b/\FP st r
theorem Ip {st:bZ} : ∀ {nu:List Nat},FP st nu->∀ b,b∈nu->st.bx b = .absent/\10<=b
  | [],_,_,h=>by cases h
  | c::r,h,b,hb=>by
    rcases List.mem_cons.1 hb with e | e
    · subst e; exact ⟨h.1,h.2.1⟩
    · exact Ip h.2.2 b e
theorem V9 {ds:List AV} {fp tC:List Box} {r0:AV} (sg nu:List Nat) (h:iZ P f ds fp (fun r bs=>r=r0/\bs=tC)) (hl:sg.length=fp.length) (hn:nodupB (sg++nu)=true) (hf:FW st (sg++nu) fp 0) (hv:FP st nu)
  (hra:(ds.all fun x=>x.all (AC.lZ fp.length))=true) (hrf:fp.all (Box.lZ fp.length)=true) (ha:lX=ds.map (qV fun b=>(sg++nu).getD b 0)) (hb:tC.length=(sg++nu).length)
  (k:K (sg++nu) (sg++nu) ((st.kT ((sg++nu).zip (tC.map (qp fun b=>(sg++nu).getD b 0)))).oM d (.v true (qV (fun b=>(sg++nu).getD b 0) r0)))):lY P f lX true d st K du:=by
 refine zF.gen rfl ds fp sg nu _ hl (zh.1 hn) (fun i hi => ?_) ⟨r0,tC,rfl,rfl⟩ (Ip hv) hra hrf ha h (fun r bs hp => ?_)
 ·have:=IL (i:=i) hf hi
  rw [Nat.zero_add] at this
  exact this
 ·obtain ⟨rfl,rfl⟩:=hp
  exact ⟨hb,k⟩
end
section
variable {P:Program} {f:FuncId} {lX:List AV} {d:Option Nat} {st:bZ} {K:List Nat->List Nat->bZ->Prop} {du:DU K}
theorem We {ds:List AV} {fp tC:List Box} {r0:AV} (sg nu:List Nat) (h:iZ P f ds fp (fun r bs=>r=r0/\bs=tC)) (he:lX.map (qf st.bx)=ds.map (qV fun b=>(sg++nu).getD b 0)) (hlo:nS st.bx lX)
  (hl:sg.length=fp.length) (hn:nodupB (sg++nu)=true) (hf:FW (st.sJ (lX.flatMap AV.owns)) (sg++nu) fp 0) (hv:FP st nu)
  (hra:(ds.all fun x=>x.all (AC.lZ fp.length))=true) (hrf:fp.all (Box.lZ fp.length)=true) (hb:tC.length=(sg++nu).length)
  (k:K (lX.flatMap AV.owns++(sg++nu)) (lX.flatMap AV.owns++(sg++nu)) (((st.sJ (lX.flatMap AV.owns)).kT ((sg++nu).zip (tC.map (qp fun b=>(sg++nu).getD b 0)))).oM d (.v true (qV (fun b=>(sg++nu).getD b 0) r0)))):lY P f lX true d st K du:=by
 refine zF.Dl rfl _ (xG hlo) ds fp sg nu _ hl (zh.1 hn) (fun i hi => ?_) ⟨r0,tC,rfl,rfl⟩ (Ip hv) hra hrf he h (fun r bs hp => ?_)
 ·have:=IL (i:=i) hf hi
  rw [Nat.zero_add] at this
  exact this
 ·obtain ⟨rfl,rfl⟩:=hp
  exact ⟨hb,k⟩
end
theorem Rh (wO:List Nat) (log:List (Nat × List Nat × List Nat)):kW wO [] [] log=true:=by
 induction log with
 | nil=>rfl
 | cons e r ih=>obtain ⟨j,a,b⟩:=e; simp [kW,yS,ih]
theorem Rf (wO rd wr:List Nat):kW wO rd wr []=true:=rfl
theorem Vg (bs:List Box):tH bs=kJ (ru bs 0):=by
 funext b
 rw [xH]
 simp [tH]
theorem pX {rs:List pg} {ts:List (Nat × Slot)} {tC:List (Nat × Box)} {m:Nat} {r:AV} {bs:List Box} (zs:List Nat) (pi:List (Nat × Nat)) (vs:List Nat) (hk:BO m tC (ru bs 0) pi vs=true)
  (hok:uj (bZ.of ts tC) rs) (hb:Fj zs (kJ tC) (FB pi) vs (ru bs 0)) (hv:NP zs (kJ tC) (FB pi) vs (FT (bZ.of ts tC) rs) r) :
  yD rs m (fun r1 b1=>r1=r/\b1=bs) (bZ.of ts tC):=by
 refine ⟨hok,r,bs,zs,FB pi,vs,⟨rfl,rfl⟩,?_,?_⟩
 ·rw [zi,Vg]; exact SE zs pi vs hk hb
 ·rw [zi]; exact hv
end Go.Ab
end
section
namespace Go.Ab
open Go
section
variable {P:Program} {f:FuncId}
theorem xX {n sz:Nat} {az:List AV} {fp:List Box} {post:AV->List Box->Prop} (h:∀ c,n<=c->iZ P f (.one (.sub 0 0 n (some c) sz)::az) fp post) :
    iZ P f (.one (.own 0 n sz)::az) fp post:=by
  intro I ρ w vs ht ha hb hv
  obtain ⟨hl,hg⟩:=hv
  cases vs with
  | nil=>simp at hl
  | cons v vs =>
    obtain ⟨k,cap,a,c,h1,h2,h3,h4,h5⟩:=hg 0 v _ rfl rfl
    refine h c h3 I ρ w (v::vs) ht ha hb ⟨by simpa using hl,fun j u x hj hx => ?_⟩
    cases j with
    | zero =>
      simp at hj hx
      subst hj hx
      refine ⟨k,cap,a,c,h1,h2,h3,by omega,(fun c0 e=>by cases e; rfl),fun e => ?_⟩
      rw [Nat.zero_mul]
      exact h5 (by rcases e with e | e<;>omega)
    | succ j=>exact hg (j+1) u x hj (by simpa using hx)
end
theorem o5 {x:Int} (h0:0<=x) (h1:x<9223372036854775808):IntKind.wrap .i64 x=x:=by
 simp only [IntKind.wrap,IntKind.bits,IntKind.signed]
 simp
 omega
theorem VD {α:Type} (es:List α) (v:α) (i:Nat) (h:i<es.length) :
  splice (splice es (i+1) (((es.drop i).take (min (es.length+1-i) (es.length+1-(i+1)))).take (es.length+1-(i+1)))) i ([v].take (es.length+1-i))=es.take i++v::es.drop i:=by
 have e1:[v].take (es.length+1-i)=[v]:=List.take_of_length_le (by simp; omega)
 have e2:((es.drop i).take (min (es.length+1-i) (es.length+1-(i+1)))).take (es.length+1-(i+1))=es.drop i:=by
  rw [List.take_of_length_le (by simp; omega),List.take_of_length_le (by simp; omega)]
 rw [e1,e2]
 simp only [splice]
 have e3:es.drop (i+1+(es.drop i).length)=[]:=List.drop_eq_nil_of_le (by simp; omega)
 rw [e3,List.append_nil]
 have e4:(es.take (i+1)).length=i+1:=by simp; omega
 rw [List.take_append_of_le_length (by omega),List.take_take,Nat.min_eq_left (by omega),List.length_singleton,List.drop_append_of_le_length (by omega),List.drop_of_length_le (by omega)]
 simp
theorem VE {α:Type} (es:List α) (v z:α) (i k:Nat) (h:i<es.length) (hk:k=i+(es.length+1-i)) :
  splice (splice (es.take i++List.replicate (es.length+1-i) z) i ([v].take (k-i))) (i+1) (((es.drop i).take (min (es.length-i) (k-(i+1)))).take (k-(i+1)))=es.take i++v::es.drop i:=by
 have hk2:k=es.length+1:=by omega
 subst hk2
 have e1:[v].take (es.length+1-i)=[v]:=List.take_of_length_le (by simp; omega)
 have e2:((es.drop i).take (min (es.length-i) (es.length+1-(i+1)))).take (es.length+1-(i+1))=es.drop i:=by
  rw [List.take_of_length_le (by simp),List.take_of_length_le (by simp)]
 rw [e1,e2]
 have e4:(es.take i).length=i:=by simp; omega
 obtain ⟨q,hq⟩:∃ q,es.length+1-i=q+1:=⟨es.length-i,by omega⟩
 rw [hq,List.replicate_succ]
 have e5:splice (es.take i++z::List.replicate q z) i [v]=es.take i++[v]++List.replicate q z:=by
  simp only [splice]
  rw [List.take_append_of_le_length (by omega),List.take_of_length_le (by omega),List.drop_append,List.drop_of_length_le (by rw [e4]; omega),List.nil_append,e4]
  simp
 rw [e5]
 have e6:(es.take i++[v]).length=i+1:=by rw [List.length_append,e4]; rfl
 simp only [splice]
 have e7:(es.take i++[v]++List.replicate q z).drop (i+1+(es.drop i).length)=[]:=List.drop_eq_nil_of_le (by rw [List.length_append,e6,List.length_replicate,List.length_drop]; omega)
 rw [e7,List.take_append_of_le_length (by omega),List.take_of_length_le (by omega)]
 simp
theorem Wi {α:Type} (f:α->List Cell) (k:Nat) (hf:∀ t,(f t).length<=k) {l:List α} {i j:Nat} {v:List Cell} (hv:v.length<=k):List.drop k (((List.map f l).set i v).getD j [])=[]:=by
 have key:∀ (m:List (List Cell)),(∀ y,y∈m->y.length<=k)->List.drop k (m.getD j [])=[]:=by
  intro m hm
  apply List.drop_of_length_le
  by_cases hj:j<m.length
  ·rw [show m.getD j []=m[j] by simp [List.getD,hj]]; exact hm _ (List.getElem_mem hj)
  ·rw [show m.getD j []=[] by simp [List.getD,List.getElem?_eq_none (Nat.le_of_not_lt hj)]]; simp
 apply key
 intro y hy
 rcases List.mem_or_eq_of_mem_set hy with h | h
 ·obtain ⟨t,_,rfl⟩:=List.mem_map.1 h; exact hf t
 ·rw [h]; exact hv
theorem Vo {l:List aS} {i j:Nat} {x:Cell} : List.drop 1 (((List.map cS l).set i [x]).getD j [])=[]:=Wi cS 1 (fun t=>by simp [cS]) (by simp)
end Go.Ab
end
section
namespace Go.Ab
open Go
def ql (e:TypeId) (v:Value) (l:List UInt8) (w:World):Prop :=
 (v = .slice none 0 0/\l=[])\/∃ g cap cs,v = .slice (some ⟨g,0,none⟩) l.length cap/\cap ≠ 0/\l.length<=cap/\cap<=maxLen/\w.heap[g]? = some (.cells cs e (0,0))/\cs.size=cap /\
  (∀ (j:Nat) (u:Value),cs[j]? = some u->u.oneCell'=true)/\∀ (j:Nat) (x:UInt8),l[j]? = some x->cs[j]? = some (.int .u8 x.toNat)
def D6 (w w':World) (v v':Value):Prop:=w.grownBy w' v.ownBlock/\(v'.ownBlock=v.ownBlock\/∃ g,v'.ownBlock=some g/\w.heap.size<=g)
section
variable {P:Program} {w:World}
theorem GN (l:List UInt8) (j:Nat):(Lib.byteCells l)[j]? = (l[j]?).map fun x=>Value.int .u8 x.toNat:=by simp [Lib.byteCells]
theorem KY (l:List UInt8):∀ u∈Lib.byteCells l,u.oneCell'=true:=fun u hu=>by
 simp [Lib.byteCells] at hu
 obtain ⟨a,_,rfl⟩:=hu
 rfl
theorem J9 {e:TypeId} (l:List UInt8) (h0:l ≠ []) (cap:Nat) (hc:l.length<=cap) (hm:cap<=maxLen) (w0:World) (z:Array Value) (hz:z=(Lib.byteCells l).toArray++Builtin.zeroCells (Value.int .u8 0).cells (cap-l.length)) :
  ql e (.slice (some ⟨w0.heap.size,0,none⟩) l.length cap) l (w0.alloc (.cells z e)):=by
 have hl:0<l.length:=List.length_pos_iff.2 h0
 have hzs:(Builtin.zeroCells (Value.int .u8 0).cells (cap-l.length)).size=cap-l.length:=by
  rw [size_zeroCells]; exact Nat.mul_one _
 refine .inr ⟨w0.heap.size,cap,z,rfl,by omega,hc,hm,heap_alloc_new w0 _,?_,fun j u hu => ?_,fun j x hx => ?_⟩
 ·rw [hz,Array.size_append,hzs,List.size_toArray,Lib.byteCells_length]; omega
 ·rw [hz] at hu
  rcases Array.getElem?_eq_some_iff.1 hu with ⟨hj,hu⟩
  have hm:u∈(Lib.byteCells l).toArray++Builtin.zeroCells (Value.int .u8 0).cells (cap-l.length):=hu ▸ Array.getElem_mem hj
  rcases Array.mem_append.1 hm with hm | hm
  ·exact KY l u (by simpa using hm)
  ·simp [Builtin.zeroCells,Value.cells] at hm
   obtain ⟨i,_,h⟩:=hm
   rw [Nat.mod_one] at h
   rw [<- h]
   rfl
 ·have hj:=(List.getElem?_eq_some_iff.1 hx).1
  rw [hz,Array.getElem?_append_left (by simpa [Lib.byteCells_length] using hj)]
  simpa [hx] using GN l j
theorem Ko {e:TypeId} {g cap:Nat} {cs:Array Value} {l s:List UInt8} (hg:w.heap[g]? = some (.cells cs e (0,0))) (hs:cs.size=cap) (hc0:cap ≠ 0) (hm:cap<=maxLen) (h1:∀ (j:Nat) (u:Value),cs[j]? = some u->u.oneCell'=true)
  (hb:∀ (j:Nat) (x:UInt8),l[j]? = some x->cs[j]? = some (.int .u8 x.toNat)) (hr:l.length+s.length<=cap) :
  ql e (.slice (some ⟨g,0,none⟩) (l++s).length cap) (l++s) (w.setRow g (cs.toList.take l.length++Lib.byteCells s++cs.toList.drop (l.length+s.length)).toArray):=by
 have hlen:(cs.toList.take l.length).length=l.length:=by simp; omega
 refine .inr ⟨g,cap,_,rfl,hc0,by simpa using hr,hm,setRow_heap w g cs _ e _ hg,?_,fun j u hu => ?_,fun j x hx => ?_⟩
 ·simp [Lib.byteCells_length]; omega
 ·have hm':=List.mem_of_getElem? (show (cs.toList.take l.length++Lib.byteCells s++cs.toList.drop (l.length+s.length))[j]? = some u by simpa using hu)
  rcases List.mem_append.1 hm' with hm' | hm'
  ·rcases List.mem_append.1 hm' with hm' | hm'
   ·obtain ⟨i,hi⟩:=List.mem_iff_getElem?.1 (List.mem_of_mem_take hm')
    exact h1 i u (by simpa using hi)
   ·exact KY s u hm'
  ·obtain ⟨i,hi⟩:=List.mem_iff_getElem?.1 (List.mem_of_mem_drop hm')
   exact h1 i u (by simpa using hi)
 ·have hj:=(List.getElem?_eq_some_iff.1 hx).1
  show (cs.toList.take l.length++Lib.byteCells s++cs.toList.drop (l.length+s.length)).toArray[j]? = _
  rw [List.getElem?_toArray,List.append_assoc]
  by_cases hjl:j<l.length
  ·rw [List.getElem?_append_left hjl] at hx
   rw [List.getElem?_append_left (by omega),List.getElem?_take,if_pos hjl]
   simpa using hb j x hx
  ·rw [List.getElem?_append_right (by omega)] at hx
   rw [List.getElem?_append_right (by omega),hlen,List.getElem?_append_left (by rw [Lib.byteCells_length]; exact (List.getElem?_eq_some_iff.1 hx).1),GN,hx]
   rfl
theorem rD (g n c:Nat):Value.ownBlock (.slice (some ⟨g,0,none⟩) n c)=some g:=rfl
theorem Qh {t u ty e:TypeId} {i:TypeInfo} (ht:P.underlying t=some (.slice e)) (hu:P.underlying u=some .string) (hi:P.info? e=some i) (hz:i.zero=some (.int .u8 0)) (hs1:i.size=1) (hby:i.bytes=1)
  {v:Value} {l:List UInt8} (hv:ql e v l w) (s:List UInt8) (hl:l.length+s.length<=140737488355328) :
  ∃ v' w',(Builtin.append_ #[t,u] ty #[v,.string ⟨⟨s⟩⟩]).run P w = .ok v' w'/\ql e v' (l++s) w'/\D6 w w' v v':=by
 have hmax:(140737488355328:Nat)<=maxLen:=by unfold maxLen; omega
 have hss:(ByteArray.mk ⟨s⟩).size=s.length:=rfl
 have hsc:Lib.strCells (ByteArray.mk ⟨s⟩)=Lib.byteCells s:=Lib.strCells_eq _
 have fresh:∀ (old:Nat) (v:Value),old<l.length+s.length ->
   ql e (.slice (some ⟨w.heap.size,0,none⟩) (l++s).length (grownCap w (l.length+s.length) old e)) (l++s)
    (w.drew.alloc (.cells ((Lib.byteCells l).toArray++(Lib.byteCells s).toArray++Builtin.zeroCells (Value.int .u8 0).cells (grownCap w (l.length+s.length) old e-(l.length+s.length))) e)) /\
   D6 w (w.drew.alloc (.cells ((Lib.byteCells l).toArray++(Lib.byteCells s).toArray++Builtin.zeroCells (Value.int .u8 0).cells (grownCap w (l.length+s.length) old e-(l.length+s.length))) e)) v
    (.slice (some ⟨w.heap.size,0,none⟩) (l++s).length (grownCap w (l.length+s.length) old e)):=by
  intro old v ho
  refine ⟨J9 (l++s) (fun h => ?_) _ ?_ (grownCap_le_maxLen _ _ _ _ (by omega)) w.drew _ ?_,⟨rfl,rfl,rfl,by simp,fun k hk _=>Lib.alloc_old w.drew _ k hk⟩,.inr ⟨w.heap.size,rfl,Nat.le_refl _⟩⟩
  ·have:=congrArg List.length h; rw [List.length_append,List.length_nil] at this; omega
  ·simpa using grownCap_ge w (l.length+s.length) old e
  ·rw [Lib.byteCells_append]; simp
 rcases hv with ⟨rfl,rfl⟩ | ⟨g,cap,cs,rfl,hc0,hle,hcm,hg,hcs,h1,hb⟩
 ·by_cases h0:s=[]
  ·subst h0
   refine ⟨.slice none 0 0,w,?_,.inl ⟨rfl,rfl⟩,⟨rfl,rfl,rfl,Nat.le_refl _,fun _ _ _=>rfl⟩,.inl rfl⟩
   have hf:=Lib.run_firstCells_string (P:=P) w 1 ⟨⟨[]⟩⟩
   have e0:(ByteArray.mk ⟨[]⟩).size=0:=rfl
   rw [e0] at hf
   simp [Builtin.append_,run_underlying ht,run_underlying hu,sizeOf,typeInfo,hi,hs1,Builtin.lenOf,e0,hf]
  ·have hp:0<s.length:=List.length_pos_iff.2 h0
   have hr:=run_append_nil_string (P:=P) w t u ty e i (.int .u8 0) ht hu hi hz ⟨⟨s⟩⟩ (by rw [hss]; omega) (by rw [hss]; simp at hl; omega) (by rw [hby,hss]; simp at hl; omega)
   have hf:=fresh 0 (.slice none 0 0) (by simpa using hp)
   simp only [List.nil_append,List.length_nil,Nat.zero_add,Array.append_assoc] at hf
   have e1:((ByteArray.mk ⟨s⟩).data.map fun b=>Value.int .u8 b.toNat)=(Lib.byteCells s).toArray:=by apply Array.ext'; simp [Lib.byteCells]
   rw [e1,hss] at hr
   have e2:(Lib.byteCells ([]:List UInt8)).toArray = #[]:=rfl
   rw [e2,Array.empty_append] at hf
   exact ⟨_,_,hr,hf.1,hf.2⟩
 ·by_cases hroom:l.length+s.length<=cap
  ·have hr:=Lib.run_append_room_string (P:=P) w t u ty e i ht hu hi hs1 g l.length cap cs hg ⟨⟨s⟩⟩ (by rw [hss]; exact hroom) (by rw [hss]; omega)
   rw [hss,hsc] at hr
   have hR:=Ko hg hcs hc0 hcm h1 hb hroom
   rw [List.length_append] at hR
   exact ⟨_,_,hr,hR,⟨rfl,rfl,rfl,by simp,fun k _ hk=>setRow_other w g k _ (fun e=>hk (by simp [Value.ownBlock,e]))⟩,.inl rfl⟩
  ·have hr:=Lib.run_append_grow_string (P:=P) w t u ty e i (.int .u8 0) ht hu hi hz ⟨g,0,none⟩ l.length cap (Lib.byteCells l) (by rw [hs1,Lib.byteCells_length,Nat.mul_one]) (fun j x hx=>by
     rw [GN] at hx
     cases hlj:l[j]? with
     | none=>rw [hlj] at hx; cases hx
     | some y=>rw [hlj] at hx; simp at hx; subst hx; rw [Addr.oC]; simp [World.cell?,hg,hb j y hlj]) ⟨⟨s⟩⟩ (by rw [hss]; omega) (by rw [hss]; omega) (by rw [hby,hss]; exact growslice_fits (by omega) (by omega))
   rw [hss,hsc] at hr
   have hf:=fresh cap (.slice (some ⟨g,0,none⟩) l.length cap) (by omega)
   rw [List.length_append] at hf
   exact ⟨_,_,hr,hf.1,hf.2⟩
theorem TI {t ty e:TypeId} {i:TypeInfo} (ht:P.underlying t=some (.slice e)) (hi:P.info? e=some i) (hz:i.zero=some (.int .u8 0)) (hs1:i.size=1) (hby:i.bytes=1)
  {v:Value} {l:List UInt8} (hv:ql e v l w) (s:List UInt8) (h0:s ≠ []) (ad:Addr) (c:Nat) (hnews:∀ j v,(Lib.byteCells s)[j]? = some v->w.cell? (ad.add j)=some v) (hl:l.length+s.length<=140737488355328) :
  ∃ v' w',(Builtin.append_ #[t,t] ty #[v,.slice (some ad) s.length c]).run P w = .ok v' w'/\ql e v' (l++s) w'/\D6 w w' v v':=by
 have hmax:(140737488355328:Nat)<=maxLen:=by unfold maxLen; omega
 have hp:0<s.length:=List.length_pos_iff.2 h0
 have fresh:∀ (old:Nat) (v:Value),old<l.length+s.length ->
   ql e (.slice (some ⟨w.heap.size,0,none⟩) (l++s).length (grownCap w (l.length+s.length) old e)) (l++s)
    (w.drew.alloc (.cells ((Lib.byteCells l).toArray++(Lib.byteCells s).toArray++Builtin.zeroCells (Value.int .u8 0).cells (grownCap w (l.length+s.length) old e-(l.length+s.length))) e)) /\
   D6 w (w.drew.alloc (.cells ((Lib.byteCells l).toArray++(Lib.byteCells s).toArray++Builtin.zeroCells (Value.int .u8 0).cells (grownCap w (l.length+s.length) old e-(l.length+s.length))) e)) v
    (.slice (some ⟨w.heap.size,0,none⟩) (l++s).length (grownCap w (l.length+s.length) old e)):=by
  intro old v ho
  refine ⟨J9 (l++s) (fun h => ?_) _ ?_ (grownCap_le_maxLen _ _ _ _ (by omega)) w.drew _ ?_,⟨rfl,rfl,rfl,by simp,fun k hk _=>Lib.alloc_old w.drew _ k hk⟩,.inr ⟨w.heap.size,rfl,Nat.le_refl _⟩⟩
  ·have:=congrArg List.length h; rw [List.length_append,List.length_nil] at this; omega
  ·simpa using grownCap_ge w (l.length+s.length) old e
  ·rw [Lib.byteCells_append]; simp
 have hn:(Lib.byteCells s).length=s.length*i.size:=by rw [hs1,Lib.byteCells_length,Nat.mul_one]
 rcases hv with ⟨rfl,rfl⟩ | ⟨g,cap,cs,rfl,hc0,hle,hcm,hg,hcs,h1,hb⟩
 ·have hr:=run_append_nil (P:=P) w t ty e i (.int .u8 0) ht hi hz ad s.length c (Lib.byteCells s) hn hnews hp (by simp at hl; omega) (by rw [hby]; simp at hl; omega)
  have hf:=fresh 0 (.slice none 0 0) (by simpa using hp)
  simp only [List.nil_append,List.length_nil,Nat.zero_add,Array.append_assoc] at hf
  have e2:(Lib.byteCells ([]:List UInt8)).toArray = #[]:=rfl
  rw [e2,Array.empty_append] at hf
  exact ⟨_,_,hr,hf.1,hf.2⟩
 ·by_cases hroom:l.length+s.length<=cap
  ·have hr:=run_append_room' (P:=P) (w:=w) (ty:=ty) t e e i ht hi g l.length cap cs hg ad s.length c (Lib.byteCells s) hn hnews (KY s) hroom (by rw [hs1,Lib.byteCells_length]; omega)
   rw [hs1,Lib.byteCells_length,Nat.mul_one] at hr
   have hR:=Ko hg hcs hc0 hcm h1 hb hroom
   rw [List.length_append] at hR
   exact ⟨_,_,hr,hR,⟨rfl,rfl,rfl,by simp,fun k _ hk=>setRow_other w g k _ (fun e=>hk (by simp [Value.ownBlock,e]))⟩,.inl rfl⟩
  ·have hr:=run_append_grow (P:=P) w t ty e i (.int .u8 0) ht hi hz ⟨g,0,none⟩ l.length cap (Lib.byteCells l) (by rw [hs1,Lib.byteCells_length,Nat.mul_one]) (fun j x hx=>by
     rw [GN] at hx
     cases hlj:l[j]? with
     | none=>rw [hlj] at hx; cases hx
     | some y=>rw [hlj] at hx; simp at hx; subst hx; rw [Addr.oC]; simp [World.cell?,hg,hb j y hlj]) ad s.length c (Lib.byteCells s) hn hnews (by omega) (by omega) (by rw [hby]; exact growslice_fits (by omega) (by omega))
   have hf:=fresh cap (.slice (some ⟨g,0,none⟩) l.length cap) (by omega)
   rw [List.length_append] at hf
   exact ⟨_,_,hr,hf.1,hf.2⟩
end
end Go.Ab
end
section
set_option linter.unusedVariables false
namespace Go.Ab
open Go Go.Shelf Go.RowKit Go.Proofs
section
variable {P:Program} {w:World}
theorem ql.alloc {e:TypeId} {v:Value} {l:List UInt8} (h:ql e v l w) (o:Obj):ql e v l (w.alloc o):=by
 rcases h with h | ⟨g,cap,cs,h1,h2,h3,h4,h5,h6⟩
 ·exact .inl h
 ·exact .inr ⟨g,cap,cs,h1,h2,h3,h4,(Lib.alloc_old w o g (sU h5)).trans h5,h6⟩
theorem ql.same {e:TypeId} {v:Value} {l:List UInt8} {w':World} (h:ql e v l w) (hk:∀ g,v.ownBlock=some g->w'.heap[g]? = w.heap[g]?):ql e v l w':=by
 rcases h with h | ⟨g,cap,cs,h1,h2,h3,h4,h5,h6⟩
 ·exact .inl h
 ·exact .inr ⟨g,cap,cs,h1,h2,h3,h4,(hk g (by rw [h1]; rfl)).trans h5,h6⟩
theorem ql.Me {e:TypeId} {v:Value} {l:List UInt8} (h:ql e v l w) {g:Nat} (hg:v.ownBlock=some g):g<w.heap.size/\∃ cs,w.heap[g]? = some (.cells cs e (0,0)):=by
 rcases h with ⟨rfl,_⟩ | ⟨g',cap,cs,rfl,h2,h3,h4,h5,h6⟩
 ·cases hg
 ·simp only [rD,Option.some.injEq] at hg
  subst hg
  exact ⟨sU h5,cs,h5⟩
theorem ql.ne {e T:TypeId} {v:Value} {l:List UInt8} {k:Nat} {cs:Array Value} (h:ql e v l w) (hk:w.heap[k]? = some (.cells cs T (0,0))) (hT:T ≠ e):v.ownBlock ≠ some k:=fun he=>by
 obtain ⟨_,c,hc⟩:=h.Me he
 rw [hk] at hc
 simp only [Option.some.injEq,Obj.cells.injEq] at hc
 exact hT hc.2.1
theorem DI {ops:Array Oper} {rest:List Oper} {o:Oper} {a:Act} {Q:Exit->Act->World->Prop} (hgd:o.guard=none) (sl x:Operand) (t u:TypeId)
  (ho:o.op = .call { callee := .builtin .append,args := #[sl,x],argTypes := #[t,u] })
  (e:TypeId) (i:TypeInfo) (ht:P.underlying t=some (.slice e)) (hu:P.underlying u=some .string) (hi:P.info? e=some i) (hz:i.zero=some (.int .u8 0)) (hsize:i.size=1) (hby:i.bytes=1)
  (v:Value) (l:List UInt8) (hs:a.eval sl=v) (hv:ql e v l w) (s:List UInt8) (hx:a.eval x = .string ⟨⟨s⟩⟩) (hl:l.length+s.length<=140737488355328)
  (h:∀ v' w',ql e v' (l++s) w'->D6 w w' v v'->wpList P ops Q rest (a.put o.dst v') w'):wpList P ops Q (o::rest) a w:=by
 refine wpList_plain hgd fun K hK => ?_
 obtain ⟨v',w',hr,h2,h3⟩:=Qh (P:=P) (ty:=o.type) ht hu hi hz hsize hby hv s hl
 unfold Oper.wp execOp
 simp only [ho,resolve,invoke,builtin,Sem.run_bind,Sem.run_pure,Result.andThen_ok,List.map_toArray,List.map_cons,List.map_nil,hs,hx,hr]
 exact hK _ _ (h v' w' h2 h3)
theorem Fp {ops:Array Oper} {rest:List Oper} {o:Oper} {a:Act} {Q:Exit->Act->World->Prop} (hgd:o.guard=none) (sl x:Operand) (t:TypeId)
  (ho:o.op = .call { callee := .builtin .append,args := #[sl,x],argTypes := #[t,t] })
  (e:TypeId) (i:TypeInfo) (ht:P.underlying t=some (.slice e)) (hi:P.info? e=some i) (hz:i.zero=some (.int .u8 0)) (hsize:i.size=1) (hby:i.bytes=1)
  (v:Value) (l:List UInt8) (hs:a.eval sl=v) (hv:ql e v l w) (s:List UInt8) (h0:s ≠ []) (ad:Addr) (c:Nat) (hx:a.eval x = .slice (some ad) s.length c) (hnews:∀ j v,(Lib.byteCells s)[j]? = some v->w.cell? (ad.add j)=some v)
  (hl:l.length+s.length<=140737488355328)
  (h:∀ v' w',ql e v' (l++s) w'->D6 w w' v v'->wpList P ops Q rest (a.put o.dst v') w'):wpList P ops Q (o::rest) a w:=by
 refine wpList_plain hgd fun K hK => ?_
 obtain ⟨v',w',hr,h2,h3⟩:=TI (P:=P) (ty:=o.type) ht hi hz hsize hby hv s h0 ad c hnews hl
 unfold Oper.wp execOp
 simp only [ho,resolve,invoke,builtin,Sem.run_bind,Sem.run_pure,Result.andThen_ok,List.map_toArray,List.map_cons,List.map_nil,hs,hx,hr]
 exact hK _ _ (h v' w' h2 h3)
end
variable {P:Program} {ρ:Go.Shelf.Ren}
def Tv (k:Nat) (p:Value):Prop:=p = .pointer none\/p = .pointer (some ⟨k,0,none⟩)
structure Hid (p:Prop):Prop where
 h:p
theorem Gg (L:Lays.n240 P ρ) (X:Builder.X72 P ρ) (k:Nat) (p v:Value) (w:World) (hk:w.heap[k]? = some (.cells #[p,v] (ρ.t 72) (0,0))) (hp:Tv k p) :
  Calls P (ρ.f 240) #[.pointer (some ⟨k,0,none⟩)] w fun e w'=>e = .returned (.tuple #[])/\w'.heap[k]? = some (.cells #[.pointer (some ⟨k,0,none⟩),v] (ρ.t 72) (0,0))/\Hid (w'.heap.size=w.heap.size)/\Ba w w' (fun k'=>k'=k):=by
 rcases hp with rfl | rfl
 ·refine (Any.Builder_copyCheck_fresh L X k w (by rw [Lib.cell_of_heap hk]; rfl) (by simp [World.shape?,hk]) (Lib.frozen_of_heap hk 0)).mono ?_
  rintro e w' ⟨rfl,rfl⟩
  refine ⟨rfl,?_,⟨by simp [World.setCell]⟩,⟨rfl,rfl,rfl,by simp [World.setCell],fun k' _ hk'=>Below.heap_setCell _ _ _ _ (fun e=>hk' (by simp [e]))⟩⟩
  simp [World.setCell,Array.getElem?_modify,hk]
 ·refine (Any.Builder_copyCheck_used L X k w (by rw [Lib.cell_of_heap hk]; rfl)).mono ?_
  rintro e w' ⟨rfl,rfl⟩
  exact ⟨rfl,hk,⟨rfl⟩,Ba.refl _ _⟩
def Wrote (T e:TypeId) (k:Nat) (v:Value) (l:List UInt8) (w w':World):Prop :=
 ∃ v',w'.heap[k]? = some (.cells #[.pointer (some ⟨k,0,none⟩),v'] T (0,0))/\ql e v' l w'/\(v'.ownBlock=v.ownBlock\/∃ g,v'.ownBlock=some g/\w.heap.size<=g)/\Ba w w' (fun k'=>k'=k\/some k'=v.ownBlock)
theorem KD {T e:TypeId} {k:Nat} {v v':Value} {l:List UInt8} {w w1 w1' w2:World} (hT:T ≠ e) (hv:ql e v l w) (hlt:k<w.heap.size) (h1:w1.heap[k]? = some (.cells #[.pointer (some ⟨k,0,none⟩),v] T (0,0))) (hs:w1.heap.size=w.heap.size) (hF:Ba w w1 (fun k'=>k'=k))
  (ha:w1'=w1\/∃ o,w1'=w1.alloc o) {l':List UInt8} (hr:ql e v' l' w2) (hg:D6 w1' w2 v v') (hne:v.ownBlock ≠ some k) :
  w2.heap[k]? = some (.cells #[.pointer (some ⟨k,0,none⟩),v] T (0,0))/\Wrote T e k v l' w (w2.setCell ⟨k,1,none⟩ v'):=by
 have hsz:w.heap.size<=w1'.heap.size:=by
  rcases ha with rfl | ⟨o,rfl⟩
  ·omega
  ·simp; omega
 have hk1:∀ k',k'<w.heap.size->w1'.heap[k']? = w1.heap[k']? := fun k' hk'=>by
  rcases ha with rfl | ⟨o,rfl⟩
  ·rfl
  ·exact Lib.alloc_old w1 o k' (by omega)
 have hk2:w2.heap[k]? = some (.cells #[.pointer (some ⟨k,0,none⟩),v] T (0,0)):=by
  rw [hg.1.block k (by omega) (fun e=>hne e.symm),hk1 k hlt]; exact h1
 have hne2:v'.ownBlock ≠ some k:=hr.ne hk2 hT
 refine ⟨hk2,v',?_,?_,?_,?_⟩
 ·simp [World.setCell,Array.getElem?_modify,hk2]
 ·exact hr.same fun g hg'=>Below.heap_setCell _ _ _ _ (fun e=>hne2 (by rw [hg']; simp at e; rw [e]))
 ·rcases hg.2 with h | ⟨g,h,hb⟩
  ·exact .inl h
  ·exact .inr ⟨g,h,by omega⟩
 ·have ha':Ba w1 w1' (fun _=>False):=by
   rcases ha with rfl | ⟨o,rfl⟩
   ·exact Ba.refl _ _
   ·exact ⟨rfl,rfl,rfl,by simp,fun k' h _=>Lib.alloc_old w1 o k' h⟩
  have h01:=hF.trans ha' (fun _ _ h=>h.elim)
  exact ⟨hg.1.os.trans h01.os,hg.1.tape.trans h01.tape,hg.1.output.trans h01.output,by have:=hg.1.size; simp [World.setCell]; omega,fun k' hlt' hm=>by
   rw [Below.heap_setCell _ _ _ _ (fun e=>hm (.inl (by simpa using e))),hg.1.block k' (by omega) (fun e=>hm (.inr e))]
   exact h01.block k' hlt' (fun e=>hm (.inl e))⟩
set_option maxHeartbeats 2000000 in
set_option maxRecDepth 100000 in
theorem Dj (L:Lays.n166 P ρ) (X:Builder.Extra P ρ) (k:Nat) (p v:Value) (l s:List UInt8) (w:World) (hk:w.heap[k]? = some (.cells #[p,v] (ρ.t 72) (0,0))) (hp:Tv k p) (hv:ql (ρ.t 5) v l w)
  (hlen:l.length+s.length<=140737488355328) :
  Calls P (ρ.f 166) #[.pointer (some ⟨k,0,none⟩),.string ⟨⟨s⟩⟩] w fun e w'=>e = .returned (.tuple #[.int .i64 s.length,.nilIface])/\Wrote (ρ.t 72) (ρ.t 5) k v (l++s) w w':=by
 obtain ⟨i0,hi,hz0,hz1,hz2⟩:=info_parts X.infoByte
 have hlt:=sU hk
 have hne:=hv.ne hk X.neB5
 have mixed:=L.mixed
 have t72:=L.t72; have a72:=L.a72; have z72:=L.z72; have v72:=L.v72; have u72:=run_underlying L.t72
 have t70:=L.t70; have a70:=L.a70; have z70:=L.z70; have v70:=L.v70; have u70:=run_underlying L.t70
 have t37:=L.t37; have a37:=L.a37; have z37:=L.z37; have v37:=L.v37; have u37:=run_underlying L.t37
 have t3:=L.t3; have a3:=L.a3; have z3:=L.z3; have v3:=L.v3; have u3:=run_underlying L.t3
 have t9:=L.t9; have a9:=L.a9; have z9:=L.z9; have v9:=L.v9; have u9:=run_underlying L.t9
 have t4:=L.t4; have a4:=L.a4; have z4:=L.z4; have v4:=L.v4; have u4:=run_underlying L.t4
 have t164:=L.t164; have a164:=L.a164; have z164:=L.z164; have v164:=L.v164; have u164:=run_underlying L.t164
 have t5:=X.t5; have a5:=X.a5; have z5:=X.z5; have v5:=X.v5; have u5:=run_underlying X.t5
 have e240:∀ args w,(callFunc (ρ.f 240) args).run P w = .ok (.enter (ρ.f 240) args) w:=enters_of L.f240 (by kernel_rfl) rfl
 go_enter L.f166,Body.n166_ntmps ρ
 go_wp2_with (go_at_fn (ρ.f 240); refine (Gg { L with } X.toX72 k p v _ hk hp).mono ?_)
 rintro e w1 ⟨rfl,hk1,hs1,hF1⟩
 have hv1:ql (ρ.t 5) v l w1:=hv.same fun g hg=>hF1.block g (hv.Me hg).1 (fun e=>hne (by rw [hg,e]))
 have c0:w1.cell? ⟨k,0,none⟩=some (.pointer (some ⟨k,0,none⟩)):=by rw [Lib.cell_of_heap hk1]; rfl
 have c1:w1.cell? ⟨k,1,none⟩=some v:=by rw [Lib.cell_of_heap hk1]; rfl
 go_wp2_with (at_builtin; refine DI rfl _ _ (ρ.t 37) (ρ.t 9) rfl (ρ.t 5) i0 L.t37 L.t9 hi hz0 hz1 hz2 _ _ rfl hv1 s rfl hlen ?_)
 intro v' w2 hr hg
 obtain ⟨hb2,hW⟩:=KD X.neB5 hv hlt hk1 hs1.h hF1 (.inl rfl) hr hg hne
 have d0:w2.cell? ⟨k,0,none⟩=some (.pointer (some ⟨k,0,none⟩)):=by rw [Lib.cell_of_heap hb2]; rfl
 have d1:w2.cell? ⟨k,1,none⟩=some v:=by rw [Lib.cell_of_heap hb2]; rfl
 have f1:w2.frozen? ⟨k,1,none⟩=false:=Lib.frozen_of_heap hb2 1
 obtain ⟨ao,n',cap,rfl⟩:∃ ao n' cap,v' = .slice ao n' cap:=by
  rcases hr with ⟨hv,_⟩ | ⟨g,cap,cs,hv,_⟩
  ·exact ⟨_,_,_,hv⟩
  ·exact ⟨_,_,_,hv⟩
 go_wp2
 go_ret2
 exact ⟨rfl,hW⟩
theorem Ql (c:Int) (hc:0<=c/\c<256):Value.int .u8 (UInt8.ofNat c.toNat).toNat = .int .u8 c:=by
 have:((UInt8.ofNat c.toNat).toNat:Int)=c:=by simp [UInt8.toNat_ofNat']; omega
 rw [this]
set_option maxHeartbeats 2000000 in
set_option maxRecDepth 100000 in
theorem FI (L:Lays.n167 P ρ) (X:Builder.Extra P ρ) (k:Nat) (p v:Value) (l:List UInt8) (c:Int) (w:World) (hk:w.heap[k]? = some (.cells #[p,v] (ρ.t 72) (0,0))) (hp:Tv k p) (hv:ql (ρ.t 5) v l w)
  (hc:0<=c/\c<256) (hlen:l.length+1<=140737488355328) :
  Calls P (ρ.f 167) #[.pointer (some ⟨k,0,none⟩),.int .u8 c] w fun e w'=>e = .returned .nilIface/\Wrote (ρ.t 72) (ρ.t 5) k v (l++[UInt8.ofNat c.toNat]) w w':=by
 obtain ⟨i0,hi,hz0,hz1,hz2⟩:=info_parts X.infoByte
 have hlt:=sU hk
 have hne:=hv.ne hk X.neB5
 have hbc:Lib.byteCells [UInt8.ofNat c.toNat]=[Value.int .u8 c]:=by simp only [Lib.byteCells,List.map_cons,List.map_nil,Ql c hc]
 have hnews:∀ w1:World,∀ j u,(Lib.byteCells [UInt8.ofNat c.toNat])[j]? = some u->(w1.alloc (.cells #[.int .u8 c] (ρ.t 5))).cell? ((⟨w1.heap.size,0,none⟩:Addr).add j)=some u:=by
  intro w1 j u hj
  rw [hbc] at hj
  match j,hj with
  | 0,hj=>simp at hj; subst hj; simp [Addr.add]
 have mixed:=L.mixed
 have t72:=L.t72; have a72:=L.a72; have z72:=L.z72; have v72:=L.v72; have u72:=run_underlying L.t72
 have t70:=L.t70; have a70:=L.a70; have z70:=L.z70; have v70:=L.v70; have u70:=run_underlying L.t70
 have t5:=L.t5; have a5:=L.a5; have z5:=L.z5; have v5:=L.v5; have u5:=run_underlying L.t5
 have t37:=L.t37; have a37:=L.a37; have z37:=L.z37; have v37:=L.v37; have u37:=run_underlying L.t37
 have t9:=L.t9; have a9:=L.a9; have z9:=L.z9; have v9:=L.v9; have u9:=run_underlying L.t9
 have t4:=L.t4; have a4:=L.a4; have z4:=L.z4; have v4:=L.v4; have u4:=run_underlying L.t4
 have t164:=L.t164; have a164:=L.a164; have z164:=L.z164; have v164:=L.v164; have u164:=run_underlying L.t164
 have e240:∀ args w,(callFunc (ρ.f 240) args).run P w = .ok (.enter (ρ.f 240) args) w:=enters_of L.f240 (by kernel_rfl) rfl
 go_enter L.f167,Body.n167_ntmps ρ
 go_wp2_with (go_at_fn (ρ.f 240); refine (Gg { L with } X.toX72 k p v _ hk hp).mono ?_)
 rintro e w1 ⟨rfl,hk1,hs1,hF1⟩
 have hv1:ql (ρ.t 5) v l w1:=hv.same fun g hg=>hF1.block g (hv.Me hg).1 (fun e=>hne (by rw [hg,e]))
 have c0:w1.cell? ⟨k,0,none⟩=some (.pointer (some ⟨k,0,none⟩)):=by rw [Lib.cell_of_heap hk1]; rfl
 have c1:w1.cell? ⟨k,1,none⟩=some v:=by rw [Lib.cell_of_heap hk1]; rfl
 go_wp2_with (at_builtin; refine Fp rfl _ _ (ρ.t 37) rfl (ρ.t 5) i0 L.t37 hi hz0 hz1 hz2 _ _ rfl (hv1.alloc _) [UInt8.ofNat c.toNat] (List.cons_ne_nil _ _) ⟨w1.heap.size,0,none⟩ 1 rfl (hnews w1) hlen ?_)
 intro v' w2 hr hg
 obtain ⟨hb2,hW⟩:=KD X.neB5 hv hlt hk1 hs1.h hF1 (.inr ⟨_,rfl⟩) hr hg hne
 have d0:w2.cell? ⟨k,0,none⟩=some (.pointer (some ⟨k,0,none⟩)):=by rw [Lib.cell_of_heap hb2]; rfl
 have d1:w2.cell? ⟨k,1,none⟩=some v:=by rw [Lib.cell_of_heap hb2]; rfl
 have f1:w2.frozen? ⟨k,1,none⟩=false:=Lib.frozen_of_heap hb2 1
 obtain ⟨ao,n',cap,rfl⟩:∃ ao n' cap,v' = .slice ao n' cap:=by
  rcases hr with ⟨hv,_⟩ | ⟨g,cap,cs,hv,_⟩
  ·exact ⟨_,_,_,hv⟩
  ·exact ⟨_,_,_,hv⟩
 go_wp2
 go_ret
 exact ⟨rfl,hW⟩
theorem LU (w:World) (g n:Nat):Ba w (w.drew.freeze ⟨g,0,none⟩ n) (fun k'=>k'=g):=by
 unfold World.freeze
 split
 ·exact ⟨rfl,rfl,rfl,Nat.le_refl _,fun _ _ _=>rfl⟩
 ·exact ⟨rfl,rfl,rfl,by simp only [Array.size_modify]; exact Nat.le_refl _,fun k hk hm=>by
   simp only [Array.getElem?_modify]
   rw [if_neg (fun e=>hm e.symm)]
   rfl⟩
theorem BI {w w':World} (h:Below w.heap.size w w') (M:Nat->Prop):Ba w w' M:=⟨h.os,h.tape,h.output,h.size,fun k hk _=>h.block k hk⟩
set_option maxHeartbeats 2000000 in
set_option maxRecDepth 100000 in
theorem Lc (L:Lays.n169 P ρ) (X:Builder.Extra P ρ) (k:Nat) (p v:Value) (l:List UInt8) (w:World) (hk:w.heap[k]? = some (.cells #[p,v] (ρ.t 72) (0,0))) (hv:ql (ρ.t 5) v l w) :
  Calls P (ρ.f 169) #[.pointer (some ⟨k,0,none⟩)] w fun e w'=>e = .returned (.string ⟨⟨l⟩⟩)/\Ba w w' (fun k'=>some k'=v.ownBlock):=by
 rcases hv with ⟨rfl,rfl⟩ | ⟨g,cap,cs,rfl,hc0,hle,hcm,hg,hcs,h1,hb⟩
 ·refine (Any.Builder_String_nil L X w.heap.size k p w hk).mono ?_
  rintro e w' ⟨rfl,h⟩
  exact ⟨rfl,BI h _⟩
 by_cases h0:l=[]
 ·subst h0
  refine (Any.Builder_String_room L X w.heap.size k g cap p w hc0 hk).mono ?_
  rintro e w' ⟨rfl,h⟩
  exact ⟨rfl,BI h _⟩
 have hl0:l.length ≠ 0:=by simpa using h0
 have c1:w.drew.cell? ⟨k,1,none⟩=some (.slice (some ⟨g,0,none⟩) l.length cap):=by
  have:w.drew.heap[k]? = some (.cells #[p,.slice (some ⟨g,0,none⟩) l.length cap] (ρ.t 72) (0,0)):=hk
  rw [Lib.cell_of_heap this]; rfl
 have hSD:(Builtin.unsafeSliceData_ #[(ρ.t 37)] (ρ.t 127) #[.slice (some ⟨g,0,none⟩) l.length cap]).run P w.drew = .ok (.pointer (some ⟨g,0,none⟩)) w.drew :=
  Lib.run_unsafeSliceData_row _ _ _ _ _ _ (by omega)
 have hUS:(Builtin.unsafeString_ #[(ρ.t 127),(ρ.t 3)] (ρ.t 9) #[.pointer (some ⟨g,0,none⟩),.int .i64 l.length]).run P w.drew = .ok (.string ⟨l.toArray⟩) (w.drew.freeze ⟨g,0,none⟩ l.length):=by
  refine Lib.run_unsafeString_row w.drew (ρ.t 127) (ρ.t 3) (ρ.t 9) (ρ.t 5) L.t127 X.cellsByte g cs.size (by have hg':w.drew.heap[g]? = some (.cells cs (ρ.t 5) (0,0)):=hg; simp [World.shape?,hg']) l h0 (by omega) (by unfold maxLen at hcm; omega) ?_
  intro j x hx
  rw [Addr.oC]
  have hg':w.drew.heap[g]? = some (.cells cs (ρ.t 5) (0,0)):=hg
  simp [World.cell?,hg',hb j x hx]
 have mixed:=L.mixed
 have t72:=L.t72; have a72:=L.a72; have z72:=L.z72; have v72:=L.v72; have u72:=run_underlying L.t72
 have t70:=L.t70; have a70:=L.a70; have z70:=L.z70; have v70:=L.v70; have u70:=run_underlying L.t70
 have t37:=L.t37; have a37:=L.a37; have z37:=L.z37; have v37:=L.v37; have u37:=run_underlying L.t37
 have t127:=L.t127; have a127:=L.a127; have z127:=L.z127; have v127:=L.v127; have u127:=run_underlying L.t127
 have t3:=L.t3; have a3:=L.a3; have z3:=L.z3; have v3:=L.v3; have u3:=run_underlying L.t3
 have t9:=L.t9; have a9:=L.a9; have z9:=L.z9; have v9:=L.v9; have u9:=run_underlying L.t9
 have t5:=X.t5; have a5:=X.a5; have z5:=X.z5; have v5:=X.v5; have u5:=run_underlying X.t5
 have hF:=LU w g l.length
 clear hb hcs hg hle hcm h1 hk
 go_enter L.f169,Body.n169_ntmps ρ
 go_wp2
 go_region_o
 all_goals (go_wp2; go_ret; exact ⟨rfl,hF.os,hF.tape,hF.output,hF.size,fun k' hk' hm=>hF.block k' hk' (fun e=>hm (by rw [e]; rfl))⟩)
end Go.Ab
end
section
set_option linter.unusedVariables false
namespace Go.Ab
open Go Go.Shelf Go.Proofs
section
variable {P:Program} {I:IH} {ρ:Ren} {w:World}
structure XA (I:IH) (ρ:Ren) (w:World) (T e k:Nat) (p v:Value) (l:List UInt8):Prop where
 r0:ρ 0=some (k,T)
 hk:w.heap[k]? = some (.cells #[p,v] T (0,0))
 hp:Tv k p
 hv:ql e v l w
 own:∀ g,v.ownBlock=some g->∃ cap,ρ 1=some (g,cap)/\cap ≠ 0
 i0:I k=none
 i1:∀ g,v.ownBlock=some g->I g=none
theorem WZ {cs:Array Value} (h:cs.size=2):∃ p v,cs = #[p,v]:=by
 match cs,h with
 | ⟨[p,v]⟩,_=>exact ⟨p,v,rfl⟩
theorem La {T e:Nat} {l:List UInt8} (h:BX I ρ w (tH [.var [.opt T 0,.nH 1 l.length],.row e l])):∃ k p v,XA I ρ w T e k p v l:=by
 obtain ⟨k,cap,cs,hr,hw,hs,hc⟩:=h.ok 0
 obtain ⟨p,v,rfl⟩:=WZ hs
 obtain ⟨k',hr',hp⟩:=hc 0 p (.opt T 0) rfl rfl
 rw [hr] at hr'
 simp only [Option.some.injEq,Prod.mk.injEq] at hr'
 obtain ⟨rfl,rfl⟩:=hr'
 obtain ⟨g,cp,hg,hn,hv⟩:=hc 1 v (.nH 1 l.length) rfl rfl
 obtain ⟨g',cp',hg',hl,hm,hrow⟩:=h.ok 1
 rw [hg] at hg'
 simp only [Option.some.injEq,Prod.mk.injEq] at hg'
 obtain ⟨rfl,rfl⟩:=hg'
 have i0:I k=none:=h.fresh 0 k ⟨_,hr⟩
 rcases hv with ⟨h0,rfl⟩ | ⟨h0,rfl⟩
 ·refine ⟨k,p,_,hr,hw,hp,.inl ⟨rfl,?_⟩,(fun g hx=>by cases hx),i0,(fun g hx=>by cases hx)⟩
  exact List.eq_nil_of_length_eq_zero (by omega)
 ·obtain ⟨cs,h1,h2,h3,h4⟩:=hrow h0
  refine ⟨k,p,_,hr,hw,hp,.inr ⟨g,cp,cs,rfl,h0,hl,hm,h1,h2,h3,h4⟩,fun g' hx => ?_,i0,fun g' hx => ?_⟩
  ·simp only [rD,Option.some.injEq] at hx
   subst hx; exact ⟨cp,hg,h0⟩
  ·simp only [rD,Option.some.injEq] at hx
   subst hx; exact h.fresh 1 g ⟨cp,hg,h0⟩
theorem Jp {T e k:Nat} {p v:Value} {l l':List UInt8} {w':World} (hT:T ≠ e) (hA:Agree I w) (hB:BX I ρ w (tH [.var [.opt T 0,.nH 1 l.length],.row e l])) (b:XA I ρ w T e k p v l) (h:Wrote T e k v l' w w') :
    ∃ σ:Ren,Agree I w'/\BX I σ w' (tH [.var [.opt T 0,.nH 2 l'.length],.dead,.row e l']) /\
      Ba w w' (fun k=>∃ c,(tH [.var [.opt T 0,.nH 1 l.length],.row e l] c).uses (ρ c) k) /\
      (∀ c k',(tH [.var [.opt T 0,.nH 2 l'.length],.dead,.row e l'] c).uses (σ c) k'->w.heap.size<=k'\/∃ c',(tH [.var [.opt T 0,.nH 1 l.length],.row e l] c').uses (ρ c') k') /\
      (∀ c,c<2->σ c=ρ c):=by
  obtain ⟨v',hk',hv',hown,hF⟩:=h
  have hu0:(tH [.var [.opt T 0,.nH 1 l.length],.row e l] 0).uses (ρ 0) k:=⟨_,b.r0⟩
  have hu1:∀ g,v.ownBlock=some g->(tH [.var [.opt T 0,.nH 1 l.length],.row e l] 1).uses (ρ 1) g:=fun g hg=>b.own g hg
  have hρ:∀ c,2<=c->ρ c=none:=fun c hc=>by
    have h1:=hB.ok c
    rw [uF (by simpa using hc)] at h1
    exact h1
  have hne:v'.ownBlock ≠ some k:=hv'.ne hk' hT
  obtain ⟨g,cap,hg⟩:∃ g cap,(cap=0/\v' = .slice none 0 0/\l'=[])\/(cap ≠ 0/\v' = .slice (some ⟨g,0,none⟩) l'.length cap/\l'.length<=cap/\cap<=maxLen/\∃ cs,w'.heap[g]? = some (.cells cs e (0,0))/\cs.size=cap /\
      (∀ (j:Nat) (u:Value),cs[j]? = some u->u.oneCell'=true)/\∀ (j:Nat) (x:UInt8),l'[j]? = some x->cs[j]? = some (.int .u8 x.toNat)):=by
    rcases hv' with ⟨rfl,rfl⟩ | ⟨g,cap,cs,h1,h2,h3,h4,h5⟩
    · exact ⟨0,0,.inl ⟨rfl,rfl,rfl⟩⟩
    · exact ⟨g,cap,.inr ⟨h2,h1,h3,h4,cs,h5⟩⟩
  have hnew:cap ≠ 0->I g=none/\g ≠ k/\(w.heap.size<=g\/(tH [.var [.opt T 0,.nH 1 l.length],.row e l] 1).uses (ρ 1) g):=fun h0=>by
    rcases hg with ⟨h1,_⟩ | ⟨_,rfl,_⟩
    · exact absurd h1 h0
    · rw [rD] at hne hown
      refine ⟨?_,fun e=>hne (by rw [e]),?_⟩
      · rcases hown with h | ⟨g',h,hb⟩
        · exact b.i1 g h.symm
        · simp only [Option.some.injEq] at h; subst h; exact hA.JW hb
      · rcases hown with h | ⟨g',h,hb⟩
        · exact .inr (hu1 g h.symm)
        · simp only [Option.some.injEq] at h; subst h; exact .inl hb
  have hle:ρ.le (ρ.set 2 g cap):=Ren.yY (hρ 2 (Nat.le_refl _))
  have s2:(ρ.set 2 g cap) 2=some (g,cap):=Ren.iF _ _ _ _
  have s0:(ρ.set 2 g cap) 0=some (k,T):=(Ren.mg (by decide)).trans b.r0
  have u0:∀ k',(tH [.var [.opt T 0,.nH 2 l'.length],.dead,.row e l'] 0).uses ((ρ.set 2 g cap) 0) k'->k'=k:=fun k' hu=>by
    obtain ⟨c,hc⟩:=hu; rw [s0] at hc; simp only [Option.some.injEq,Prod.mk.injEq] at hc; exact hc.1.symm
  have u2:∀ k',(tH [.var [.opt T 0,.nH 2 l'.length],.dead,.row e l'] 2).uses ((ρ.set 2 g cap) 2) k'->k'=g/\cap ≠ 0:=fun k' hu=>by
    obtain ⟨c,hc,h0⟩:=hu; rw [s2] at hc; simp only [Option.some.injEq,Prod.mk.injEq] at hc; exact ⟨hc.1.symm,by rw [hc.2]; exact h0⟩
  have uu:∀ c k',(tH [.var [.opt T 0,.nH 2 l'.length],.dead,.row e l'] c).uses ((ρ.set 2 g cap) c) k'->(c=0/\k'=k)\/(c=2/\k'=g/\cap ≠ 0):=fun c k' hu=>by
    match c with
    | 0=>exact .inl ⟨rfl,u0 k' hu⟩
    | 1=>exact hu.elim
    | 2=>exact .inr ⟨rfl,u2 k' hu⟩
    | c+3=>rw [uF (by simp)] at hu; exact hu.elim
  refine ⟨ρ.set 2 g cap,?_,⟨fun c => ?_,fun c c' k' hc hc' => ?_,fun c k' hc => ?_⟩,⟨hF.os,hF.tape,hF.output,hF.size,fun k' hlt hm=>hF.block k' hlt fun e=>hm ?_⟩,fun c k' hc => ?_,fun c hc=>Ren.mg (by omega)⟩
  · refine hA.other fun k1 c hc=>hF.block k1 (hA.lt hc) fun e => ?_
    rcases e with rfl | e
    · rw [b.i0] at hc; cases hc
    · rw [b.i1 k1 e.symm] at hc; cases hc
  · match c with
    | 0 =>
      refine ⟨k,T,_,s0,hk',rfl,fun j u x hu hx => ?_⟩
      match j with
      | 0 =>
        simp at hu hx
        subst hu; subst hx
        exact ⟨k,s0,.inr rfl⟩
      | 1 =>
        simp at hu hx
        subst hu; subst hx
        rcases hg with ⟨h1,h2,h3⟩ | ⟨h1,h2,h3,_⟩
        · exact ⟨g,cap,s2,by rw [h3]; exact Nat.zero_le _,.inl ⟨h1,h2⟩⟩
        · exact ⟨g,cap,s2,h3,.inr ⟨h1,h2⟩⟩
      | j+2=>simp at hu
    | 1=>trivial
    | 2 =>
      rcases hg with ⟨h1,h2,h3⟩ | ⟨h1,h2,h3,h4,h5⟩
      · exact ⟨g,cap,s2,by rw [h3]; exact Nat.zero_le _,by rw [h1]; exact Nat.zero_le _,fun h=>absurd h1 h⟩
      · exact ⟨g,cap,s2,h3,h4,fun _=>h5⟩
    | c+3 =>
      rw [uF (by simp)]
      exact (Ren.mg (by omega)).trans (hρ _ (by omega))
  · rcases uu c k' hc with ⟨rfl,h1⟩ | ⟨rfl,h1,h2⟩<;>rcases uu c' k' hc' with ⟨rfl,h3⟩ | ⟨rfl,h3,h4⟩
    · rfl
    · exact absurd (h3.symm.trans h1) (hnew h4).2.1
    · exact absurd (h1.symm.trans h3) (hnew h2).2.1
    · rfl
  · rcases uu c k' hc with ⟨rfl,rfl⟩ | ⟨rfl,rfl,h2⟩
    · exact b.i0
    · exact (hnew h2).1
  · rcases e with rfl | e
    · exact ⟨0,hu0⟩
    · exact ⟨1,hu1 k' e.symm⟩
  · rcases uu c k' hc with ⟨rfl,rfl⟩ | ⟨rfl,rfl,h2⟩
    · exact .inr ⟨0,hu0⟩
    · rcases (hnew h2).2.2 with h | h
      · exact .inl h
      · exact .inr ⟨1,h⟩
end
variable {P:Program} {ρ:Go.Shelf.Ren}
structure dI where
 buf:List UInt8
 deriving Inhabited
theorem JK {I:IH} {r:Ren} {vs:List Value} {x y:AV} (h:KF I r vs [x,y]):∃ a b,vs=[a,b]/\GV I r a x/\GV I r b y:=by
 obtain ⟨h1,h2⟩:=h
 match vs,h1 with
 | [a,b],_=>exact ⟨a,b,rfl,h2 0 a x rfl rfl,h2 1 b y rfl rfl⟩
theorem JJ {I:IH} {r:Ren} {vs:List Value} {x:AV} (h:KF I r vs [x]):∃ a,vs=[a]/\GV I r a x:=by
 obtain ⟨h1,h2⟩:=h
 match vs,h1 with
 | [a],_=>exact ⟨a,rfl,h2 0 a x rfl rfl⟩
theorem GK (L:Lays.n167 P ρ) (X:Builder.Extra P ρ) {l:List UInt8} {c:Int} (hc:0<=c/\c<256) (hl:l.length+1<=140737488355328) :
  iZ P (ρ.f 167) [.one (.ptr 0 0),.one (.c (.lit (.int .u8 c)))] [.var [.opt (ρ.t 72) 0,.nH 1 l.length],.row (ρ.t 5) l] fun r bs =>
   r = .one (.c (.lit .nilIface))/\bs=[.var [.opt (ρ.t 72) 0,.nH 2 (l++[UInt8.ofNat c.toNat]).length],.dead,.row (ρ.t 5) (l++[UInt8.ofNat c.toNat])]:=by
 intro I r w vs hT hA hB hG
 obtain ⟨a,b',rfl,ha,hb⟩:=JK hG
 obtain ⟨k,p,v,b⟩:=La hB
 obtain ⟨k',cap',hr,rfl⟩:=ha
 rw [b.r0] at hr
 simp only [Option.some.injEq,Prod.mk.injEq] at hr
 obtain ⟨rfl,_⟩:=hr
 cases hb
 refine (FI L X k p v l c w b.hk b.hp b.hv hc hl).mono ?_
 rintro e w' ⟨rfl,hW⟩
 obtain ⟨σ,h1,h2,h3,h4,h5⟩:=Jp X.neB5 hA hB b hW
 exact ⟨_,I,σ,_,_,rfl,⟨rfl,rfl⟩,Rd.lit _ rfl,h1,h2,IH.le_refl I,h3,h4,fun _ _ _=>rfl,h5⟩
theorem D9 (L:Lays.n166 P ρ) (X:Builder.Extra P ρ) {l s:List UInt8} (hl:l.length+s.length<=140737488355328) :
  iZ P (ρ.f 166) [.one (.ptr 0 0),.one (.c (.str s))] [.var [.opt (ρ.t 72) 0,.nH 1 l.length],.row (ρ.t 5) l] fun r bs =>
   r = .nV [(false,[.c (.lit (.int .i64 s.length))]),(false,[.c (.lit .nilIface)])]/\bs=[.var [.opt (ρ.t 72) 0,.nH 2 (l++s).length],.dead,.row (ρ.t 5) (l++s)]:=by
 intro I r w vs hT hA hB hG
 obtain ⟨a,b',rfl,ha,hb⟩:=JK hG
 obtain ⟨k,p,v,b⟩:=La hB
 obtain ⟨k',cap',hr,rfl⟩:=ha
 rw [b.r0] at hr
 simp only [Option.some.injEq,Prod.mk.injEq] at hr
 obtain ⟨rfl,_⟩:=hr
 cases hb
 refine (Dj L X k p v l s w b.hk b.hp b.hv hl).mono ?_
 rintro e w' ⟨rfl,hW⟩
 obtain ⟨σ,h1,h2,h3,h4,h5⟩:=Jp X.neB5 hA hB b hW
 refine ⟨_,I,σ,_,_,rfl,⟨rfl,rfl⟩,⟨_,rfl,rfl,fun j u q hu hq => ?_⟩,h1,h2,IH.le_refl I,h3,h4,fun _ _ _=>rfl,h5⟩
 match j with
 | 0=>simp at hu hq; subst hu; subst hq; exact ⟨_,rfl,Rd.lit _ rfl⟩
 | 1=>simp at hu hq; subst hu; subst hq; exact ⟨_,rfl,Rd.lit _ rfl⟩
 | j+2=>simp at hu
theorem Ob (L:Lays.n169 P ρ) (X:Builder.Extra P ρ) {l:List UInt8} (hl:l.length<=maxLen) :
  iZ P (ρ.f 169) [.one (.ptr 0 0)] [.var [.opt (ρ.t 72) 0,.nH 1 l.length],.row (ρ.t 5) l] fun r bs=>r = .one (.c (.str l))/\bs=[.dead,.dead]:=by
 intro I r w vs hT hA hB hG
 obtain ⟨a,rfl,ha⟩:=JJ hG
 obtain ⟨k,p,v,b⟩:=La hB
 obtain ⟨k',cap',hr,rfl⟩:=ha
 rw [b.r0] at hr
 simp only [Option.some.injEq,Prod.mk.injEq] at hr
 obtain ⟨rfl,_⟩:=hr
 refine (Lc L X k p v l w b.hk b.hv).mono ?_
 rintro e w' ⟨rfl,hF⟩
 have hρ:∀ c,2<=c->r c=none:=fun c hc=>by
  have h1:=hB.ok c
  rw [uF (by simpa using hc)] at h1
  exact h1
 have un:∀ c k',(tH [.dead,.dead] c).uses (r c) k'->False:=fun c k' hu=>by
  match c with
  | 0=>exact hu
  | 1=>exact hu
  | c+2=>rw [uF (by simp)] at hu; exact hu
 refine ⟨_,I,r,_,_,rfl,⟨rfl,rfl⟩,Rd.str _ hl,?_,⟨fun c => ?_,fun c c' k' hc=>(un c k' hc).elim,fun c k' hc=>(un c k' hc).elim⟩,IH.le_refl I,⟨hF.os,hF.tape,hF.output,hF.size,fun k' hlt hm=>hF.block k' hlt fun e=>hm ⟨1,?_⟩⟩,fun c k' hc=>(un c k' hc).elim,fun _ _ _=>rfl,fun _ _=>rfl⟩
 ·exact hA.other fun k1 c hc=>hF.block k1 (hA.lt hc) fun e=>by rw [b.i1 k1 e.symm] at hc; cases hc
 ·match c with
  | 0=>trivial
  | 1=>trivial
  | c+2=>rw [uF (by simp)]; exact hρ _ (by omega)
 ·exact b.own k' e.symm
end Go.Ab
end
section
set_option linter.unusedVariables false
namespace Go.Ab
open Go Go.Shelf Go.Proofs
variable {P:Program} {ρ:Go.Shelf.Ren}
theorem VT {I:IH} {w:World} (hT:Tabs P I) (hA:Agree I w) {g:Nat} (hg:P.globalNamed "internal/strconv.uint64pow10" = some g):Lib.TabIs P w "internal/strconv.uint64pow10" .u64 Lib.pow10Tab:=by
 obtain ⟨e,fr,h⟩:=hA g _ (hT g hg)
 unfold Lib.TabIs World.var?
 simp only [hg,Option.bind_some,h]
theorem TG (L:LaysM.n171 P ρ) {n:Int} (h0 : -9223372036854775808<=n/\n<=9223372036854775807) (hl:(Lib.itoa n).length<=maxLen) {r:List UInt8} (hr:r=Lib.itoa n) :
  aZ P (ρ.f 171) [.one (.c (.lit (.int .i64 n)))] (.one (.c (.str r))):=by
 subst hr
 intro I r w vs hT hA hB hG
 obtain ⟨a,rfl,ha⟩:=JJ hG
 cases ha
 have hB':∀ b,tH [] b = .absent:=fun b=>uF (Nat.zero_le _)
 refine (Any.strconv_Itoa L n h0.1 h0.2 w (VT hT hA L.m17)).mono ?_
 rintro e w' ⟨rfl,k,os,rfl⟩
 have hb:=Lib.below_grow w.heap.size w (Nat.le_refl _) k os
 refine ⟨_,I,r,_,_,rfl,⟨rfl,rfl⟩,Rd.str _ hl,hA.other fun k1 c hc=>hb.block k1 (hA.lt hc),⟨fun b => ?_,fun b b' k hu => ?_,fun b k hu => ?_⟩,IH.le_refl I,BI hb _,fun b k hu => ?_,fun _ _ _=>rfl,fun _ _=>rfl⟩
 ·have:=hB.ok b; rw [hB'] at this ⊢; exact this
 all_goals (rw [hB'] at hu; exact hu.elim)
end Go.Ab
end
