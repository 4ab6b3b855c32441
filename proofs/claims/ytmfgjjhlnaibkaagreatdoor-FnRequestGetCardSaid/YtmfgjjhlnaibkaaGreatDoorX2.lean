/- What abstract values, states and codes of the program's language mean, and that they are sound (part 2). No conditions. -/
import Derived.Test.YtmfgjjhlnaibkaaGreatDoorX1
set_option linter.unusedVariables false
set_option linter.unusedSimpArgs false
section
namespace Go.Ab
open Go
section
variable {P:Program} {E:Env P} {I:IH} {ρ:Ren} {n:Nat} {st:bF} {a:Act} {w:World}
theorem rH (l:List (Nat × Box)) (st:bF) {b:Nat} (h:b ∉ l.map (·.1)):(st.iD l).bx b=st.bx b:=by
  induction l generalizing st with
  | nil=>rfl
  | cons x l ih =>
    obtain ⟨c,x⟩:=x
    simp only [List.map_cons,List.mem_cons,not_or] at h
    simp only [bF.iD,ih _ h.2,bF.gK]
    rw [if_neg h.1]
theorem Np (l:List (Nat × Box)) (st:bF) (hn:(l.map (·.1)).Nodup) {j b:Nat} {x:Box} (h:l[j]? = some (b,x)):(st.iD l).bx b=x:=by
  induction l generalizing st j with
  | nil=>simp at h
  | cons y l ih =>
    obtain ⟨c,y⟩:=y
    simp only [List.map_cons,List.nodup_cons] at hn
    cases j with
    | zero =>
      simp at h
      obtain ⟨rfl,rfl⟩:=h
      simp only [bF.iD]
      rw [rH _ _ hn.1,bF.gK,if_pos rfl]
    | succ j =>
      simp only [bF.iD]
      exact ih _ hn.2 (by simpa using h)
theorem Dp {π:Nat->Nat} {I:IH} {ρ σ:Ren} {m:Nat} {v:Value} {x:AC} (h:GC I ρ v (o9 π x)) (hl:x.iZ m=true) (hs:∀ b y,b<m->ρ (π b)=some y->σ b=some y):GC I σ v x:=by
  cases x with
  | c y=>exact h
  | ptr b off=>obtain ⟨k,cap,h1,h2⟩:=h; exact ⟨k,cap,hs _ _ (by simpa [AC.iZ] using hl) h1,h2⟩
  | own b n sz=>obtain ⟨k,cap,a,c,h1,h2⟩:=h; exact ⟨k,cap,a,c,hs _ _ (by simpa [AC.iZ] using hl) h1,h2⟩
  | sub b lo n c sz=>obtain ⟨k,cap,a,c',h1,h2⟩:=h; exact ⟨k,cap,a,c',hs _ _ (by simpa [AC.iZ] using hl) h1,h2⟩
  | opt T b=>obtain ⟨k,h1,h2⟩:=h; exact ⟨k,hs _ _ (by simpa [AC.iZ] using hl) h1,h2⟩
  | jy b n=>obtain ⟨k,cap,h1,h2⟩:=h; exact ⟨k,cap,hs _ _ (by simpa [AC.iZ] using hl) h1,h2⟩
  | jY b i sz off=>obtain ⟨k,cap,h1,h2⟩:=h; exact ⟨k,cap,hs _ _ (by simpa [AC.iZ] using hl) h1,h2⟩
  | fH sz=>exact h
  | oK cs=>exact h
  | ru=>exact h
  | fn f caps =>
    obtain ⟨ks,h1,h2,h3⟩:=h
    refine ⟨ks,by simpa using h1,fun j b k hb hk => ?_,h3⟩
    obtain ⟨cap,hc⟩:=h2 j (π b) k (by simp [hb]) hk
    refine ⟨cap,hs _ _ ?_ hc⟩
    have:=List.all_eq_true.1 hl b (List.mem_of_getElem? hb)
    simpa using this
theorem Il {π:Nat->Nat} {I:IH} {ρ σ:Ren} {m:Nat} {vs:List Value} {xs:List AC} (h:rV I ρ vs (xs.map (o9 π))) (hl:xs.all (AC.iZ m)=true) (hs:∀ b y,b<m->ρ (π b)=some y->σ b=some y):rV I σ vs xs :=
 ⟨by simpa using h.1,fun j v x hv hx=>Dp (h.2 j v (o9 π x) hv (by simp [hx])) (List.all_eq_true.1 hl x (List.mem_of_getElem? hx)) hs⟩
theorem Qe {π:Nat->Nat} {I:IH} {ρ σ:Ren} {m:Nat} {v:Value} {x:AV} (h:GV I ρ v (lV π x)) (hl:x.all (AC.iZ m)=true) (hs:∀ b y,b<m->ρ (π b)=some y->σ b=some y):GV I σ v x:=by
  cases x with
  | one x=>exact Dp h hl hs
  | agg xs=>obtain ⟨cs,rfl,hg⟩:=h; exact ⟨cs,rfl,Il hg hl hs⟩
  | mG ps =>
    obtain ⟨vs,rfl,hz,hp⟩:=h
    refine ⟨vs,rfl,by simpa using hz,fun j v p hv hq => ?_⟩
    have h1:=hp j v _ hv (by rw [List.getElem?_map,hq]; rfl)
    have h2:=List.all_eq_true.1 hl p (List.mem_of_getElem? hq)
    unfold GP at h1 ⊢
    simp only at h1
    split at h1
    · rename_i hb; rw [if_pos hb]; obtain ⟨cs,rfl,hg⟩:=h1; exact ⟨cs,rfl,Il hg h2 hs⟩
    · rename_i hb
      rw [if_neg hb]
      obtain ⟨x,hx,hg⟩:=h1
      cases hp2:p.2 with
      | nil=>rw [hp2] at hx; simp at hx
      | cons y t =>
        rw [hp2] at hx h2
        simp at hx
        obtain ⟨rfl,rfl⟩:=hx
        exact ⟨y,rfl,Dp hg (by simpa using h2) hs⟩
theorem Dn {π:Nat->Nat} {I:IH} {ρ σ:Ren} {v:Value} {x:AC} (h:GC I σ v x) (hs:∀ b y,σ b=some y->ρ (π b)=some y):GC I ρ v (o9 π x):=by
  cases x with
  | c y=>exact h
  | ptr b off=>obtain ⟨k,cap,h1,h2⟩:=h; exact ⟨k,cap,hs _ _ h1,h2⟩
  | own b n sz=>obtain ⟨k,cap,a,c,h1,h2⟩:=h; exact ⟨k,cap,a,c,hs _ _ h1,h2⟩
  | sub b lo n c sz=>obtain ⟨k,cap,a,c',h1,h2⟩:=h; exact ⟨k,cap,a,c',hs _ _ h1,h2⟩
  | opt T b=>obtain ⟨k,h1,h2⟩:=h; exact ⟨k,hs _ _ h1,h2⟩
  | jy b n=>obtain ⟨k,cap,h1,h2⟩:=h; exact ⟨k,cap,hs _ _ h1,h2⟩
  | jY b i sz off=>obtain ⟨k,cap,h1,h2⟩:=h; exact ⟨k,cap,hs _ _ h1,h2⟩
  | fH sz=>exact h
  | oK cs=>exact h
  | ru=>exact h
  | fn f caps =>
    obtain ⟨ks,h1,h2,h3⟩:=h
    refine ⟨ks,by simpa using h1,fun j b k hb hk => ?_,h3⟩
    rw [List.getElem?_map] at hb
    cases hc:caps[j]? with
    | none=>rw [hc] at hb; cases hb
    | some c =>
      rw [hc] at hb
      simp at hb
      subst hb
      obtain ⟨cap,hc'⟩:=h2 j c k hc hk
      exact ⟨cap,hs _ _ hc'⟩
theorem Ik {π:Nat->Nat} {I:IH} {ρ σ:Ren} {vs:List Value} {xs:List AC} (h:rV I σ vs xs) (hs:∀ b y,σ b=some y->ρ (π b)=some y):rV I ρ vs (xs.map (o9 π)):=by
  refine ⟨by simpa using h.1,fun j v x hv hx => ?_⟩
  rw [List.getElem?_map] at hx
  cases hc:xs[j]? with
  | none=>rw [hc] at hx; cases hx
  | some c =>
    rw [hc] at hx
    simp at hx
    subst hx
    exact Dn (h.2 j v c hv hc) hs
theorem Qd {π:Nat->Nat} {I:IH} {ρ σ:Ren} {v:Value} {x:AV} (h:GV I σ v x) (hs:∀ b y,σ b=some y->ρ (π b)=some y):GV I ρ v (lV π x):=by
  cases x with
  | one x=>exact Dn h hs
  | agg xs=>obtain ⟨cs,rfl,hg⟩:=h; exact ⟨cs,rfl,Ik hg hs⟩
  | mG ps =>
    obtain ⟨vs,rfl,hz,hp⟩:=h
    refine ⟨vs,rfl,by simpa using hz,fun j v p hv hq => ?_⟩
    rw [List.getElem?_map] at hq
    cases hc:ps[j]? with
    | none=>rw [hc] at hq; cases hq
    | some q =>
      rw [hc] at hq
      simp at hq
      subst hq
      have h1:=hp j v q hv hc
      unfold GP at h1 ⊢
      simp only
      split at h1
      · rename_i hb; rw [if_pos hb]; obtain ⟨cs,rfl,hg⟩:=h1; exact ⟨cs,rfl,Ik hg hs⟩
      · rename_i hb; rw [if_neg hb]; obtain ⟨x,hx,hg⟩:=h1; exact ⟨o9 π x,by rw [hx]; rfl,Dn hg hs⟩
theorem Je {π:Nat->Nat} {I:IH} {ρ σ:Ren} {m:Nat} {w:World} {b:Nat} {x:Box} (h:lQ I ρ w (π b) (lJ π x)) (hl:x.iZ m=true) (hb:σ b=ρ (π b)) (hs:∀ b y,b<m->ρ (π b)=some y->σ b=some y):lQ I σ w b x:=by
  cases x with
  | absent=>exact hb.trans h
  | dead=>trivial
  | var xs =>
    obtain ⟨k,cap,cs,hr,hw,hz,hc⟩:=h
    refine ⟨k,cap,cs,hb.trans hr,hw,by simpa using hz,fun j u x hu hx=>Dp (hc j u (o9 π x) hu (by simp [hx])) (List.all_eq_true.1 hl x (List.mem_of_getElem? hx)) hs⟩
  | dat sz es=>obtain ⟨k,cap,hr,h⟩:=h; exact ⟨k,cap,hb.trans hr,h⟩
  | row e l=>obtain ⟨k,cap,hr,h⟩:=h; exact ⟨k,cap,hb.trans hr,h⟩
  | mX sz es=>obtain ⟨k,cap,hr,h⟩:=h; exact ⟨k,cap,hb.trans hr,h⟩
theorem Jd {π:Nat->Nat} {I:IH} {ρ σ:Ren} {w:World} {b:Nat} {x:Box} (h:lQ I σ w b x) (hb:ρ (π b)=σ b) (hs:∀ b y,σ b=some y->ρ (π b)=some y):lQ I ρ w (π b) (lJ π x):=by
  cases x with
  | absent=>exact hb.trans h
  | dead=>trivial
  | var xs =>
    obtain ⟨k,cap,cs,hr,hw,hz,hc⟩:=h
    refine ⟨k,cap,cs,hb.trans hr,hw,by simpa using hz,fun j u x hu hx => ?_⟩
    rw [List.getElem?_map] at hx
    cases hc':xs[j]? with
    | none=>rw [hc'] at hx; cases hx
    | some c =>
      rw [hc'] at hx
      simp at hx
      subst hx
      exact Dn (hc j u c hu hc') hs
  | dat sz es=>obtain ⟨k,cap,hr,h⟩:=h; exact ⟨k,cap,hb.trans hr,h⟩
  | row e l=>obtain ⟨k,cap,hr,h⟩:=h; exact ⟨k,cap,hb.trans hr,h⟩
  | mX sz es=>obtain ⟨k,cap,hr,h⟩:=h; exact ⟨k,cap,hb.trans hr,h⟩
theorem pI {π:Nat->Nat} {x:Box} {p:Option (Nat × Nat)} {k:Nat} : (lJ π x).uses p k<->x.uses p k:=by
 cases x<;>exact Iff.rfl
theorem Ib {l:List Box} {b:Nat} (h:b<l.length):l[b]? = some (nG l b):=by
 unfold nG; rw [List.getD_eq_getElem?_getD,List.getElem?_eq_getElem h]; rfl
theorem nX {l:List Box} {b:Nat} (h:l.length<=b):nG l b = .absent:=by
 unfold nG; rw [List.getD_eq_getElem?_getD,List.getElem?_eq_none h]; rfl
theorem ED (h:GX E I ρ n st a w) (hm:E.m<=10) {f:FuncId} {vs:List Value} {iU ds:List AV} {d:Option Nat} {K:bF->Prop} {fp:List Box} {L nu:List Nat} {post:AV->List Box->Prop} {sg:List Nat} (hL:sg++nu=L) (hd':∀ x,d=some x->x<n) (hv:HY I ρ vs iU)
  (hl:sg.length=fp.length) (hn:L.Nodup) (hf:∀ i,i<fp.length->st.bx (L.getD i 0)=lJ (fun b=>L.getD b 0) (fp.getD i .absent))
  (hnu:∀ b,b∈nu->st.bx b = .absent/\10<=b) (hra:(ds.all fun x=>x.all (AC.iZ fp.length))=true) (hrf:fp.all (Box.iZ fp.length)=true) (ha:iU=ds.map (lV fun b=>L.getD b 0)) (hp:fU P f ds fp post)
  (k:∀ r bs,post r bs->bs.length=L.length/\K ((st.iD (L.zip (bs.map (lJ fun b=>L.getD b 0)))).kz d (.v true (lV (fun b=>L.getD b 0) r)))) :
  Calls P f vs.toArray w fun e w'=>∃ v,e = .returned v/\AK E n K (a.put d v) w':=by
 generalize Ug:(fun b=>L.getD b 0)=π at hf ha k
 have Ro:∀ b,L.getD b 0=π b:=fun b=>congrFun Ug b
 have Uy:fp.length<=L.length:=by rw [<- hL]; simp; omega
 have zl:∀ b,b<L.length->L[b]? = some (π b):=fun b hb=>by rw [<- Ro,List.getD_eq_getElem?_getD,List.getElem?_eq_getElem hb]; rfl
 have LY:∀ b,b<L.length->π b∈L:=fun b hb=>List.mem_of_getElem? (zl b hb)
 have LX:∀ b b',b<L.length->b'<L.length->π b=π b'->b=b':=fun b b' hb hb' e=>by
  have h1:=zl b hb; have h2:=zl b' hb'
  rw [List.getElem?_eq_getElem hb] at h1; rw [List.getElem?_eq_getElem hb'] at h2
  simp at h1 h2
  have hpw:=List.pairwise_iff_getElem.1 hn
  rcases Nat.lt_trichotomy b b' with hlt | heq | hlt
  ·exact absurd (by rw [h1,h2,e]) (hpw b b' hb hb' hlt)
  ·exact heq
  ·exact absurd (by rw [h1,h2,e]) (hpw b' b hb' hb hlt)
 let KE:Ren:=fun b=>if b<fp.length then ρ (π b) else none
 have hs:∀ b y,b<fp.length->ρ (π b)=some y->KE b=some y:=fun b y hb e=>by simp [KE,hb,e]
 have hfb:∀ b,b<fp.length->st.bx (π b)=lJ π (nG fp b):=fun b hb=>by have:=hf b hb; rw [Ro] at this; exact this
 have hub:∀ b k,(nG fp b).uses (KE b) k->b<fp.length/\(st.bx (π b)).uses (ρ (π b)) k:=fun b k hu=>by
  by_cases hb:b<fp.length
  ·refine ⟨hb,?_⟩
   rw [hfb b hb,pI]
   simpa [KE,hb] using hu
  ·rw [nX (by omega)] at hu; exact hu.elim
 have TT:BX I KE w (nG fp):=by
  refine ⟨fun b => ?_,fun b b' k hb hb' => ?_,fun b k hb => ?_⟩
  ·by_cases hb:b<fp.length
   ·have:=h.bx.ok (π b)
    rw [hfb b hb] at this
    exact Je this (List.all_eq_true.1 hrf _ (List.mem_of_getElem? (Ib hb))) (by simp [KE,hb]) hs
   ·rw [nX (by omega)]; show KE b=none; simp [KE,hb]
  ·obtain ⟨h1,h2⟩:=hub b k hb
   obtain ⟨h1',h2'⟩:=hub b' k hb'
   exact LX b b' (by omega) (by omega) (h.bx.inj _ _ _ h2 h2')
  ·exact h.bx.fresh _ _ (hub b k hb).2
 have TU:HY I KE vs ds:=by
  subst ha
  refine ⟨by simpa using hv.1,fun j v x hv' hx => ?_⟩
  exact Qe (hv.2 j v (lV π x) hv' (by simp [hx])) (List.all_eq_true.1 hra x (List.mem_of_getElem? hx)) hs
 refine (hp I KE w vs h.tabs h.agree TT TU).mono ?_
 rintro e w' ⟨v,J,σ,r,bs,rfl,hpost,hg,hA,hB,hle,hF,hbw,hJ,hσ⟩
 obtain ⟨hbl,hk⟩:=k r bs hpost
 refine ⟨v,rfl,?_⟩
 have SQ:∀ b,L.length<=b->σ b=none:=fun b hb=>by have:=hB.ok b; rw [nX (by omega)] at this; exact this
 let ρ':Ren:=fun b=>open Classical in if b∈L then σ (L.idxOf b) else ρ b
 have vC:∀ b,b<L.length->ρ' (π b)=σ b:=fun b hb=>by
  have h1:=LY b hb
  simp only [ρ',h1,if_true]
  have hi:=List.idxOf_lt_length_of_mem h1
  have h2:L[L.idxOf (π b)]? = some (π b):=by rw [List.getElem?_eq_getElem hi]; simp
  have h3:=zl _ hi
  rw [h2] at h3
  simp only [Option.some.injEq] at h3
  rw [<- LX _ _ hb hi h3]
 have EU:∀ b,b ∉ L->ρ' b=ρ b:=fun b hb=>by simp [ρ',hb]
 have hin:∀ b,b∈L->∃ i,i<L.length/\π i=b:=fun b hb=>by
  have hi:=List.idxOf_lt_length_of_mem hb
  refine ⟨_,hi,?_⟩
  have h2:L[L.idxOf b]? = some b:=by rw [List.getElem?_eq_getElem hi]; simp
  have h3:=zl _ hi
  rw [h2] at h3
  simpa using h3.symm
 have PK:∀ i,fp.length<=i->i<L.length->π i∈nu:=fun i h1 h2=>by
  have h3:=zl i h2
  rw [<- hL,List.getElem?_append_right (by omega)] at h3
  exact List.mem_of_getElem? h3
 have hle':ρ.le ρ':=fun b y hb=>by
  by_cases hm':b∈L
  ·obtain ⟨i,hi,rfl⟩:=hin b hm'
   rw [vC i hi]
   by_cases hif:i<fp.length
   ·rw [hσ i hif]; exact hs i y hif hb
   ·have h1:=(hnu _ (PK i (by omega) hi)).1
    have h2:=h.bx.ok (π i)
    rw [h1] at h2
    rw [show ρ (π i)=none from h2] at hb; cases hb
  ·rw [EU b hm']; exact hb
 have Rk:∀ b y,σ b=some y->ρ' (π b)=some y:=fun b y hb=>by
  by_cases hbL:b<L.length
  ·rw [vC b hbL]; exact hb
  ·rw [SQ b (by omega)] at hb; cases hb
 have hlz:(L.zip (bs.map (lJ π))).map (·.1)=L:=by
  rw [List.map_fst_zip]; simp [hbl]
 have Jp:∀ i,i<L.length->(st.iD (L.zip (bs.map (lJ π)))).bx (π i)=lJ π (nG bs i):=fun i hi=>by
  refine Np _ _ (by rw [hlz]; exact hn) (j:=i) ?_
  rw [List.getElem?_zip_eq_some]
  exact ⟨zl i hi,by rw [List.getElem?_map,Ib (by omega)]; rfl⟩
 have hbx2:∀ b,b ∉ L->(st.iD (L.zip (bs.map (lJ π)))).bx b=st.bx b:=fun b hb=>rH _ _ (by rw [hlz]; exact hb)
 have hnot:∀ b k,b ∉ L->(st.bx b).uses (ρ b) k->k<w.heap.size/\¬ ∃ b',(nG fp b').uses (KE b') k:=fun b k hb hu=>by
  refine ⟨(h.bx.ok b).lt hu,?_⟩
  rintro ⟨b',hb'⟩
  obtain ⟨h1,h2⟩:=hub b' k hb'
  have:=h.bx.inj _ _ _ hu h2
  exact hb (this ▸ LY b' (by omega))
 have hother:∀ b k,b ∉ L->(st.bx b).uses (ρ b) k->w'.heap[k]? = w.heap[k]? := fun b k hb hu=>let ⟨h1,h2⟩:=hnot b k hb hu; hF.block k h1 h2
 have Q9:∀ i k,i<L.length->(nG bs i).uses (σ i) k->∀ b,b ∉ L->¬ (st.bx b).uses (ρ b) k:=fun i k hi hu b hb hu'=>by
  obtain ⟨h1,h2⟩:=hnot b k hb hu'
  rcases hbw i k hu with h3 | h3
  ·omega
  ·exact h2 h3
 generalize hst:st.iD (L.zip (bs.map (lJ π)))=st' at *
 have Ud:st'.tm=st.tm:=by rw [<- hst,vN]
 have hgx:GX E J ρ' n st' a w':=by
  refine { agree:=hA,bx:=⟨fun b => ?_,fun b b' k hb hb' => ?_,fun b k hb => ?_⟩,tm:=fun t ht => ?_,size:=h.size,defers:=h.defers,pV := ?_,own:=fun b k hb => ?_,yg:=IH.le_trans h.yg hle,oz:=fun k hk0 hM => ?_,jG:=fun b hb => ?_ }
  ·by_cases hb:b∈L
   ·obtain ⟨i,hi,rfl⟩:=hin b hb
    rw [Jp i hi]
    exact Jd (hB.ok i) (vC i hi) Rk
   ·rw [hbx2 b hb]
    exact (h.bx.ok b).keep hle hle' (EU b hb) (fun k hu=>hother b k hb hu)
  ·by_cases hbL:b∈L
   ·obtain ⟨i,hi,rfl⟩:=hin b hbL
    rw [Jp i hi,pI,vC i hi] at hb
    by_cases ES:b'∈L
    ·obtain ⟨i',hi',rfl⟩:=hin b' ES
     rw [Jp i' hi',pI,vC i' hi'] at hb'
     rw [hB.inj _ _ _ hb hb']
    ·rw [hbx2 b' ES,EU b' ES] at hb'
     exact absurd hb' (Q9 i k hi hb b' ES)
   ·rw [hbx2 b hbL,EU b hbL] at hb
    by_cases ES:b'∈L
    ·obtain ⟨i',hi',rfl⟩:=hin b' ES
     rw [Jp i' hi',pI,vC i' hi'] at hb'
     exact absurd hb (Q9 i' k hi' hb' b hbL)
    ·rw [hbx2 b' ES,EU b' ES] at hb'
     exact h.bx.inj _ _ _ hb hb'
  ·by_cases hbL:b∈L
   ·obtain ⟨i,hi,rfl⟩:=hin b hbL
    rw [Jp i hi,pI,vC i hi] at hb
    exact hB.fresh _ _ hb
   ·rw [hbx2 b hbL,EU b hbL] at hb
    obtain ⟨h1,h2⟩:=hnot b k hbL hb
    rw [hJ k h1 h2]
    exact h.bx.fresh _ _ hb
  ·rw [Ud]; exact (h.tm t ht).mono hle hle'
  ·refine h.pV.trans hF ?_
   rintro x hx ⟨b',hb'⟩
   rcases h.own _ _ (hub b' x hb').2 with h1 | h1
   ·omega
   ·exact h1
  ·by_cases hbL:b∈L
   ·obtain ⟨i,hi,rfl⟩:=hin b hbL
    rw [Jp i hi,pI,vC i hi] at hb
    rcases hbw i k hb with h1 | ⟨b',hb'⟩
    ·exact .inl (Nat.le_trans h.pV.size h1)
    ·exact h.own _ _ (hub b' k hb').2
   ·rw [hbx2 b hbL,EU b hbL] at hb
    exact h.own _ _ hb
  ·rw [hJ k (Nat.lt_of_lt_of_le hk0 h.pV.size)]
   ·exact h.oz k hk0 hM
   ·rintro ⟨b',hb'⟩
    rcases h.own _ _ (hub b' k hb').2 with h1 | h1
    ·omega
    ·exact hM h1
  ·by_cases hbL:b∈L
   ·obtain ⟨i,hi,rfl⟩:=hin b hbL
    rw [vC i hi]
    by_cases hif:i<fp.length
    ·rw [hσ i hif,<- h.jG _ hb]; simp [KE,hif]
    ·have:=(hnu _ (PK i (by omega) hi)).2; omega
   ·rw [EU b hbL]; exact h.jG b hb
 exact ⟨J,ρ',_,hk,hgx.kz hd' ⟨fun _=>Qd hg Rk,fun e=>by cases e⟩⟩
end
end Go.Ab
end
section
namespace Go.Ab
open Go
section
variable {P:Program} {E:Env P} {I:IH} {ρ:Ren} {n:Nat} {st:bF} {a:Act} {w:World}
def uY (n:Nat):List Operand->List fV->Bool
 | [],[]=>true
 | x::xs,y::ys=>dN n x y&&uY n xs ys
 | _,_=>false
def yK (n:Nat) (ops:Array Oper):Option (Nat × Bool)->Option (Nat × Bool)->Bool
 | none,none=>true
 | some (j,w),some (s,w')=>w==w'&&decide (s<n)&&(match ops[j]? with | some o=>o.dst==some s | none=>false)
 | _,_=>false
def Gn (n:Nat):Option Nat->Option Nat->Bool
 | none,none=>true
 | some x,some y=>x==y&&decide (x<n)
 | _,_=>false
def Gp (P:Program) (n m:Nat) (op:Op) (d:Option Nat):yt->Bool
  | .op ao=>xO P n m op d ao
  | .call f args=>match op with
    | .call ⟨.value (.func f'),az,_⟩=>f'==f&&uY n az.toList args&&mO P f
    | _=>false
  | .tC x args=>match op with
    | .call ⟨.value x',az,_⟩=>dN n x' x&&uY n az.toList args
    | _=>false
def yc (P:Program) (n m:Nat) (ops:Array Oper) (o:Oper) (ao:eX):Bool :=
 yK n ops o.guard ao.g&&Gn n o.dst ao.d&&Gp P n m o.op o.dst ao.i
theorem DF (h:GX E I ρ n st a w):∀ {xs:List Operand} {ys:List fV},uY n xs ys=true->(∀ y,y∈ys->(y.ev st.tm).g=true) ->
    HY I ρ (xs.map a.eval) (ys.map (aI st.tm))
  | [],[],_,_=>⟨rfl,fun j v x hv hx=>by simp at hv⟩
  | x::xs,y::ys,hc,hg=>by
    simp only [uY,Bool.and_eq_true] at hc
    have ih:=DF h hc.2 (fun y hy=>hg y (List.mem_cons_of_mem _ hy))
    refine ⟨by simpa using ih.1,fun j v z hv hz => ?_⟩
    cases j with
    | zero =>
      simp at hv hz
      subst hv; subst hz
      exact fJ h hc.1 (hg y (List.mem_cons_self ..))
    | succ j=>exact ih.2 j v z (by simpa using hv) (by simpa using hz)
  | [],_::_,hc,_=>by cases hc
  | _::_,[],hc,_=>by cases hc
theorem Qa {d d':Option Nat} (h:Gn n d d'=true):d=d'/\∀ x,d'=some x->x<n:=by
 unfold Gn at h
 split at h
 ·exact ⟨rfl,fun x hx=>by cases hx⟩
 ·simp only [Bool.and_eq_true,beq_iff_eq,decide_eq_true_eq] at h
  obtain ⟨rfl,h2⟩:=h
  exact ⟨rfl,fun x hx=>by cases hx; exact h2⟩
 ·cases h
theorem LM (h:GX E I ρ n st a w) {ops:Array Oper} {o:Oper} {g:Option (Nat × Bool)} (hc:yK n ops o.guard g=true) (hv:lF st.tm g) :
  Region.wanted o (yielded ops a.tmps)=iQ st.tm g:=by
 unfold yK at hc
 split at hc
 ·rename_i e; simp [Region.wanted,e,iQ]
 ·rename_i j UB s Us e
  simp only [Bool.and_eq_true,beq_iff_eq,decide_eq_true_eq] at hc
  obtain ⟨⟨rfl,hs⟩,hj⟩:=hc
  have hb:(ops[j]?).bind (·.dst)=some s:=by
   cases hoj:ops[j]? with
   | none=>rw [hoj] at hj; cases hj
   | some o'=>rw [hoj] at hj; simpa using hj
  have ht:=h.tm s hs
  have hsz:s<a.tmps.size:=by rw [h.size]; exact hs
  have hget:a.tmps[s]? = some (a.tmps.getD s undef):=by simp [Array.getD,hsz]
  simp only [Region.wanted,e,iQ,yielded,hb,Option.bind_some,hget]
  simp only [lF] at hv
  split at hv
  ·rename_i x hg
   rw [hg] at ht
   have:=ht.2 rfl
   rw [this,hg]
   simp [undef]
  ·rename_i b hg
   rw [hg] at ht
   have:=sH (ht.1 rfl)
   rw [this,hg]
   simp
  ·exact hv.elim
 ·cases hc
theorem EG {o:Oper} {x:Operand} {az:Array Operand} {ts:Array TypeId} {f:FuncId} {caps:Array Value} (ho:o.op = .call ⟨.value x,az,ts⟩) (hx:a.eval x = .func (.func f) #[] caps) (hf:mO P f=true) :
    (execOp a.eval o).run P w = .ok (.enter f (az.map a.eval++caps)) w:=by
  unfold mO at hf
  cases hp:P.funcs[f]? with
  | none=>rw [hp] at hf; cases hf
  | some fn =>
    rw [hp] at hf
    simp only [Bool.and_eq_true,Bool.not_eq_true'] at hf
    obtain ⟨h1,h2⟩:=hf
    have h1':¬ fn.name = "runtime.NumGoroutine" := by simpa using h1
    obtain ⟨b,hb⟩:=Option.isSome_iff_exists.1 h2
    simp [execOp,ho,resolve,hx,Deferred.ofValue,invoke,callFunc,hp,h1',hb]
theorem Ag {o:Oper} {f:FuncId} {args:Array Value} {K:Act->World->Prop} {Q:Exit->Act->World->Prop} (he:(execOp a.eval o).run P w = .ok (.enter f args) w)
  (h:Calls P f args w fun e w'=>∃ v,e = .returned v/\K (a.put o.dst v) w'):o.wp P a w K Q:=by
 unfold Oper.wp
 rw [he,Oper.upon_enter]
 refine h.mono ?_
 rintro e w' ⟨v,rfl,hk⟩
 exact hk
theorem xH (h:GX E I ρ n st a w) (hm:E.m<=10) {f:FuncId} {vs:List Value} {iU:List AV} {d:Option Nat} {K:List Nat->List Nat->bF->Prop} (hd:∀ x,d=some x->x<n) (hv:HY I ρ vs iU)
    (hT:uQ P f iU true d st K):Calls P f vs.toArray w fun e w'=>∃ v,e = .returned v/\AK E n (fun st=>∃ rd wr,K rd wr st) (a.put d v) w':=by
  cases hT with
  | lit ds r hc hds hh hr k=>exact KZ h hd hv (hc rfl) hds (hh rfl) hr ⟨_,_,k⟩
  | pure ds r hp hc hds hh hr k=>exact Jf h hd hv hc hds hh hr ⟨_,_,k⟩
  | xP hp az hc ds fp sg nu post hl hn hf hne hnu hra hrf ha hh k =>
    have hv':=yS h (bs:=iU.flatMap AV.owns) hv hc (fun b hb=>hb)
    have h':=h.freeze (iU.flatMap AV.owns)
    refine ED h' hm rfl hd hv' hl hn hf (fun b hb=>⟨?_,(hnu b hb).2⟩) hra hrf ha hh (fun r bs hpo=>⟨(k r bs hpo).1,_,_,(k r bs hpo).2⟩)
    rw [kJ,(hnu b hb).1]
    split<;>rfl
  | gen hp ds fp sg nu post hl hn hf hne hnu hra hrf ha hh k=>exact ED h hm rfl hd hv hl hn hf hnu hra hrf ha hh (fun r bs hpo=>⟨(k r bs hpo).1,_,_,(k r bs hpo).2⟩)
theorem Ae {f:FuncId} {iU:List AV} {d:Option Nat} {K:List Nat->List Nat->bF->Prop} (hT:uQ P f iU false d st K):∃ r rd wr,K rd wr (st.kz d (.v false r)):=by
 cases hT with
 | lit ds r hc hds hh hr k=>exact ⟨_,_,_,k⟩
 | pure ds r hp=>cases hp
 | gen hp=>cases hp
 | xP hp=>cases hp
def Eb (P:Program) (ops:Array Oper) (Q:Exit->Act->World->Prop) (o:Oper) (K:Act->World->Prop) (a:Act) (w:World):Prop :=
 if Region.wanted o (yielded ops a.tmps) then o.wp P a w K Q\/(o.asks P a w/\LetsOut Q) else K (a.put o.dst undef) w
theorem AK.imp {K K':bF->Prop} (hk:∀ st,K st->K' st) {a:Act} {w:World} (h:AK E n K a w):AK E n K' a w :=
 let ⟨I,ρ,st,h1,h2⟩:=h; ⟨I,ρ,st,hk _ h1,h2⟩
theorem H7 (h:GX E I ρ n st a w) (hm:E.m<=10) {ops:Array Oper} {Q:Exit->Act->World->Prop} {o:Oper} {ao:eX} (hc:yc P n E.m ops o ao=true) {K:List Nat->List Nat->bF->Prop} (hT:T P ao st K) :
    Eb P ops Q o (AK E n fun st=>∃ rd wr,K rd wr st) a w:=by
  simp only [yc,Bool.and_eq_true] at hc
  obtain ⟨⟨hcg,hcd⟩,hci⟩:=hc
  obtain ⟨hdd,hdn⟩:=Qa hcd
  obtain ⟨hgv,hT⟩:=hT
  have hw:=LM h hcg hgv
  have skip:∀ r,(∃ rd wr,K rd wr (st.kz ao.d (.v false r)))->AK E n (fun st=>∃ rd wr,K rd wr st) (a.put o.dst undef) w:=fun r hk =>
    ⟨I,ρ,_,hk,by rw [hdd]; exact h.kz hdn ⟨(fun e=>by cases e),fun _=>rfl⟩⟩
  unfold Eb
  rw [hw]
  cases hi:ao.i with
  | op op =>
    rw [hi] at hT hci
    obtain ⟨h1,h2⟩:=hT
    cases hp:iQ st.tm ao.g with
    | false =>
      simpa using skip _ ⟨_,_,h2 hp⟩
    | true =>
      obtain ⟨hv,dn,h3⟩:=h1 hp
      obtain ⟨v,w',I',ρ',hr,hg,SI⟩:=MX h hci hv dn
      simp only [if_true]
      refine .inl ?_
      have key:AK E n (fun st=>∃ rd wr,K rd wr st) (a.put o.dst v) w':=by
        refine ⟨I',ρ',_,⟨_,_,h3⟩,?_⟩
        rw [hdd]
        cases hd:ao.d with
        | none=>exact hg
        | some d=>exact hg.put (hdn d hd) ⟨fun _=>SI (by rw [hdd,hd]; simp),fun e=>by cases e⟩
      unfold Oper.wp
      rcases hr with hr | ⟨hr,hnd⟩
      · rw [hr]; exact key
      · rw [hr,Oper.upon_skip]
        rw [hnd] at key ⊢
        exact key
  | call f args =>
    rw [hi] at hT hci
    simp only [Gp] at hci
    split at hci
    · rename_i f' az ts ho
      simp only [Bool.and_eq_true,beq_iff_eq] at hci
      obtain ⟨⟨rfl,hca⟩,hok⟩:=hci
      obtain ⟨h1,h2⟩:=hT
      cases hp:iQ st.tm ao.g with
      | false =>
        rw [hp] at h2
        obtain ⟨r,hk⟩:=Ae h2
        simpa using skip r hk
      | true =>
        rw [hp] at h1 h2
        simp only [if_true]
        refine .inl (Ag (EG ho (x := .func f') (caps := #[]) rfl hok) ?_)
        have hvs:=DF h hca (h1 rfl)
        have:=xH h hm hdn hvs h2
        rw [hdd]
        simpa [<- Array.toList_map] using this
    · cases hci
  | tC x args =>
    rw [hi] at hT hci
    simp only [Gp] at hci
    split at hci
    · rename_i x' az ts ho
      simp only [Bool.and_eq_true] at hci
      obtain ⟨hcx,hca⟩:=hci
      obtain ⟨hg0,h2⟩:=hT
      cases hp:iQ st.tm ao.g with
      | false =>
        rw [hp] at h2
        obtain ⟨r,hk⟩:=Ae h2
        simpa using skip r hk
      | true =>
      rw [hp] at h2
      obtain ⟨hg1,h1⟩:=hg0 hp
      split at h2
      · rename_i hb; cases hb
      · rename_i f caps _ hf
        obtain ⟨hok,h2⟩:=h2
        have hx:=fJ h hcx hg1
        rw [hf] at hx
        obtain ⟨ks,hk1,hk2,hk3⟩:=hx
        · skip
          simp only [if_true]
          refine .inl (Ag (EG ho hk3 hok) ?_)
          have hvs:=DF h hca h1
          have hvs':HY I ρ (az.toList.map a.eval++ks.map fun k=>Value.pointer (some ⟨k,0,none⟩)) (args.map (aI st.tm)++caps.map fun b=>AV.one (.ptr b 0)):=by
            refine ⟨by have:=hvs.1; simp at this; simp [hk1,this],fun j v z hv hz => ?_⟩
            by_cases hj:j<(az.toList.map a.eval).length
            · rw [List.getElem?_append_left hj] at hv
              rw [List.getElem?_append_left (by rw [<- hvs.1]; exact hj)] at hz
              exact hvs.2 j v z hv hz
            · rw [List.getElem?_append_right (by omega)] at hv
              rw [List.getElem?_append_right (by rw [<- hvs.1]; omega)] at hz
              rw [hvs.1] at hv
              generalize j-(args.map (aI st.tm)).length=i at hv hz
              rw [List.getElem?_map] at hv hz
              cases hki:ks[i]? with
              | none=>rw [hki] at hv; cases hv
              | some k =>
                cases hci:caps[i]? with
                | none=>rw [hci] at hz; cases hz
                | some b =>
                  rw [hki] at hv; rw [hci] at hz
                  simp at hv hz
                  subst hv; subst hz
                  obtain ⟨cap,hr⟩:=hk2 i b k hci hki
                  exact ⟨k,cap,hr,rfl⟩
          have:=xH h hm hdn hvs' h2
          rw [hdd]
          have e:(az.map a.eval++(ks.map fun k=>Value.pointer (some ⟨k,0,none⟩)).toArray)=(az.toList.map a.eval++ks.map fun k=>Value.pointer (some ⟨k,0,none⟩)).toArray:=by
            apply Array.ext'; simp
          rw [e]
          exact this
      · exact h2.elim
    · cases hci
end
end Go.Ab
end
section
namespace Go.Ab
open Go
section
variable {ev ev':fV->AV} {bx bx':Nat->Box}
theorem nK {o:Option fV} {k:Nat} (h:∀ x,o=some x->ev x=ev' x):bnd ev o k=bnd ev' o k:=by
 cases o with
 | none=>rfl
 | some x=>simp only [bnd,h x rfl]
theorem nY {n sz:Nat} : ∀ {ps:List (Nat × fV)},(∀ p,p∈ps->ev p.2=ev' p.2)->jQ ev bx n sz ps=jQ ev' bx n sz ps/\iT ev ps=iT ev' ps/\kM ev bx ps=kM ev' bx ps
  | [],_=>⟨rfl,rfl,rfl⟩
  | (i,x)::r,h=>by
    obtain ⟨h1,h2,h3⟩:=nY (n:=n) (sz:=sz) (ps:=r) (fun p hp=>h p (List.mem_cons_of_mem _ hp))
    simp only [jQ,iT,kM,h (i,x) (List.mem_cons_self ..),h1,h2,h3,and_self]
theorem SB (op:fO) (he:∀ x,x∈op.gy->ev x=ev' x):op.f ev bx=op.f ev' bx:=by
 cases op
 case build zs ps =>
  have h1:∀ p,p∈ps->ev p.2.2=ev' p.2.2:=fun p hp=>he _ (List.mem_map_of_mem hp)
  simp only [fO.f]
  congr 1
  ·apply propext
   constructor
   ·intro h p hp; rw [<- h1 p hp]; exact h p hp
   ·intro h p hp; rw [h1 p hp]; exact h p hp
  ·congr 2
   exact List.map_congr_left fun p hp=>by rw [h1 p hp]
 case bJ l sz n zs ps =>
  have h1:∀ p,p∈ps->ev p.2=ev' p.2:=fun p hp=>he _ (List.mem_map_of_mem hp)
  obtain ⟨c1,c2,c3⟩:=nY (bx:=bx) (n:=n) (sz:=sz) h1
  simp only [fO.f,c1,c2,c3]
 case JH f cs =>
  have h1:cs.map ev=cs.map ev':=List.map_congr_left fun x hx=>he x hx
  simp only [fO.f,h1]
 case zY x lo hi =>
  have h1:=he x (by simp [fO.gy])
  have h2:∀ y,lo=some y->ev y=ev' y:=fun y hy=>he y (by simp [fO.gy,hy])
  have h3:∀ y,hi=some y->ev y=ev' y:=fun y hy=>he y (by simp [fO.gy,hy])
  simp only [fO.f,h1,nK h2,nK h3]
 case oO sz x lo hi =>
  have h1:=he x (by simp [fO.gy])
  have h2:∀ y,lo=some y->ev y=ev' y:=fun y hy=>he y (by simp [fO.gy,hy])
  have h3:∀ y,hi=some y->ev y=ev' y:=fun y hy=>he y (by simp [fO.gy,hy])
  simp only [fO.f,h1,nK h2,nK h3]
 case uH sz x lo hi =>
  have h1:=he x (by simp [fO.gy])
  have h2:∀ y,lo=some y->ev y=ev' y:=fun y hy=>he y (by simp [fO.gy,hy])
  have h3:∀ y,hi=some y->ev y=ev' y:=fun y hy=>he y (by simp [fO.gy,hy])
  have h4:bnd ev hi=bnd ev' hi:=funext fun k=>nK h3
  simp only [fO.f,h1,nK h2,h4]
 all_goals
  simp only [fO.gy,List.mem_cons,List.not_mem_nil,or_false,forall_eq_or_imp,forall_eq] at he
  simp only [fO.f,he]
theorem RD (op:fO) (he:∀ x,x∈op.gy->ev x=ev' x):op.rd ev=op.rd ev':=by
 cases op
 case build zs ps=>rfl
 case bJ l sz n zs ps =>
  have h1:∀ p,p∈ps->ev p.2=ev' p.2:=fun p hp=>he _ (List.mem_map_of_mem hp)
  simp only [fO.rd,(nY (bx:=fun _ => .absent) (n:=n) (sz:=sz) h1).2.1]
 case JH f cs=>rfl
 case zY x lo hi=>rfl
 case oO sz x lo hi=>rfl
 case uH sz x lo hi=>rfl
 all_goals
  simp only [fO.gy,List.mem_cons,List.not_mem_nil,or_false,forall_eq_or_imp,forall_eq] at he
  simp only [fO.rd,he]
theorem rO {sz:Nat} {x:AV} (h:∀ b,b∈lvl x->bx b=bx' b):kD sz x bx=kD sz x bx':=by
  cases x with
  | one x =>
    cases x
    case own b n sz'=>simp only [kD,h b (by simp [lvl])]
    case sub b lo n c sz'=>simp only [kD,h b (by simp [lvl])]
    case c y=>cases y<;>rfl
    all_goals rfl
  | _=>rfl
theorem Me {agg:Bool} {k:Nat} {x:AV} (h:∀ b,b∈lvl x->bx b=bx' b):jX agg k x bx=jX agg k x bx':=by
  cases x with
  | one x =>
    cases x
    case ptr b off=>simp only [jX,h b (by simp [lvl])]
    case jY b i sz off=>simp only [jX,h b (by simp [lvl])]
    all_goals rfl
  | _=>rfl
theorem Jl {x:AC} (h:∀ b,b∈fZ [x]->bx b=bx' b):dataOf bx x=dataOf bx' x:=by
 cases x
 case own b n sz=>simp only [dataOf,h b (by simp [fZ])]
 all_goals rfl
theorem Bz {x:AC} {r:List AC} {b:Nat} : b∈fZ (x::r)<->b∈fZ [x]\/b∈fZ r:=by
 cases x<;>simp [fZ]
theorem yT:∀ {xs:List AC},(∀ b,b∈fZ xs->bx b=bx' b)->qy bx xs=qy bx' xs/\jV bx xs=jV bx' xs/\Dk bx (fZ xs)=Dk bx' (fZ xs)
  | [],_=>⟨rfl,rfl,rfl⟩
  | x::r,h=>by
    obtain ⟨h1,h2,h3⟩:=yT (xs:=r) (fun b hb=>h b (Bz.2 (.inr hb)))
    refine ⟨?_,?_,List.map_congr_left fun b hb=>by rw [h b hb]⟩
    · simp only [qy,h1,Jl (x:=x) (fun b hb=>h b (Bz.2 (.inl hb)))]
    · cases x
      case own b n sz=>simp only [jV,h2,h b (by simp [fZ])]
      all_goals exact h2
theorem J8 {agg:Bool} {k:Nat} {p x:AV} (h:∀ b,b∈lvl p++(match p with | .one (.jY _ _ _ _)=>fZ x.cells | _=>[])->bx b=bx' b):lM agg k p x bx=lM agg k p x bx':=by
  cases p with
  | one p =>
    cases p
    case ptr b off=>simp only [lM,h b (by simp [lvl])]
    case jY b i sz off =>
      obtain ⟨h1,h2,h3⟩:=yT (bx:=bx) (bx':=bx') (xs:=x.cells) (fun c hc=>h c (by simp only [lvl,List.mem_append]; exact .inr hc))
      have h4:=h b (by simp [lvl])
      cases x<;>cases agg<;>first | rfl | (simp only [lM,h4,h1,h2,h3])
    all_goals rfl
  | _=>rfl
theorem xB {n sz:Nat} : ∀ {ps:List (Nat × fV)},(∀ b,b∈iT ev ps->bx b=bx' b)->jQ ev bx n sz ps=jQ ev bx' n sz ps/\kM ev bx ps=kM ev bx' ps
  | [],_=>⟨rfl,rfl⟩
  | (i,x)::r,h=>by
    obtain ⟨h1,h2⟩:=xB (n:=n) (sz:=sz) (ps:=r) (fun b hb=>h b (by simp only [iT,List.mem_append]; exact .inr hb))
    obtain ⟨g1,g2,g3⟩:=yT (bx:=bx) (bx':=bx') (xs:=(ev x).cells) (fun b hb=>h b (by simp only [iT,List.mem_append]; exact .inl hb))
    simp only [jQ,kM,h1,h2,g1,g2,and_self]
theorem SA (op:fO) (hb:∀ b,b∈op.rd ev->bx b=bx' b):op.f ev bx=op.f ev bx':=by
  cases op
  case load agg k p=>exact Me hb
  case store agg k p x=>exact J8 hb
  case alloc l zs=>simp only [fO.f,hb l (by simp [fO.rd])]
  case pO T e l r=>simp only [fO.f,hb l (by simp [fO.rd]),hb r (by simp [fO.rd])]
  case wB l sz n zs=>simp only [fO.f,hb l (by simp [fO.rd])]
  case box l x=>simp only [fO.f,hb l (by simp [fO.rd])]
  case bJ l sz n zs ps =>
    obtain ⟨h1,h2⟩:=xB (bx:=bx) (bx':=bx') (n:=n) (sz:=sz) (ps:=ps) (fun b hm=>hb b (by simp only [fO.rd]; exact List.mem_cons_of_mem _ hm))
    have h3:Dk bx (iT ev ps)=Dk bx' (iT ev ps):=List.map_congr_left fun b hm=>by rw [hb b (by simp only [fO.rd]; exact List.mem_cons_of_mem _ hm)]
    simp only [fO.f,hb l (by simp [fO.rd]),h1,h2,h3]
  case makes l sz bytes zs n m=>simp only [fO.f,hb l (by simp [fO.rd])]
  case CY x=>simp only [fO.f,rO hb]
  case BF sz n x =>
    simp only [fO.f]
    cases hx:ev x with
    | one y =>
      cases y
      case jY b i sz off =>
        have:=hb b (by simp [fO.rd,lvl,hx])
        cases i<;>cases off<;>simp only [this]
      all_goals rfl
    | _=>rfl
  case append l sz bytes s x =>
    have h1:=hb l (by simp [fO.rd])
    simp only [fO.f,rO (x:=ev x) (fun b hb'=>hb b (by simp [fO.rd,hb'])),h1]
    cases hs:ev s with
    | one y =>
      cases y
      case own b n sz'=>simp only [hb b (by simp [fO.rd,lvl,hs])]
      all_goals rfl
    | _=>rfl
  case copy sz d x =>
    simp only [fO.f,rO (x:=ev x) (fun b hb'=>hb b (by simp [fO.rd,hb']))]
    cases hs:ev d with
    | one y =>
      cases y
      case own b n sz'=>simp only [hb b (by simp [fO.rd,lvl,hs])]
      all_goals rfl
    | _=>rfl
  case JV l sz bytes s x =>
    have h1:=hb l (by simp [fO.rd])
    simp only [fO.f,BB,rO (x:=ev x) (fun b hb'=>hb b (by simp [fO.rd,hb'])),h1]
    generalize kD sz (ev x) bx'=so
    cases hs:ev s with
    | one y =>
      cases y
      case sub b lo n c sz' =>
        have h2:=hb b (by simp [fO.rd,lvl,hs])
        cases c<;>rcases so with _ | ⟨p,ys⟩<;>first | rfl | (simp only [h2])
      all_goals (rcases so with _ | ⟨p,ys⟩<;>rfl)
    | _=>rcases so with _ | ⟨p,ys⟩<;>rfl
  case Ja l sz bytes zs s x =>
    have h1:=hb l (by simp [fO.rd])
    simp only [fO.f,Bc,h1]
    generalize ev x=y'
    have hb2:∀ b,b∈lvl (ev s)->bx b=bx' b:=fun b hb'=>hb b (by simp [fO.rd,hb'])
    rcases y' with x | x | x
    · rcases x with c | _ | _ | _ | _ | _ | _ | _ | _
      · rcases c with v | _ | _
        · cases v
          case int k q =>
            cases hs:ev s with
            | one y =>
              cases y
              case sub b lo n c sz' =>
                have h2:=hb2 b (by simp [lvl,hs])
                cases c<;>simp [h2]
              all_goals rfl
            | _=>rfl
          all_goals (generalize ev s=z; rcases z with (_ | _ | _ | _ | ⟨b,lo,n,_ | c,sz'⟩ | _ | _ | _ | _) | _ | _<;>rfl)
        all_goals (generalize ev s=z; rcases z with (_ | _ | _ | _ | ⟨b,lo,n,_ | c,sz'⟩ | _ | _ | _ | _) | _ | _<;>rfl)
      all_goals (generalize ev s=z; rcases z with (_ | _ | _ | _ | ⟨b,lo,n,_ | c,sz'⟩ | _ | _ | _ | _) | _ | _<;>rfl)
    all_goals (generalize ev s=z; rcases z with (_ | _ | _ | _ | ⟨b,lo,n,_ | c,sz'⟩ | _ | _ | _ | _) | _ | _<;>rfl)
  case JZ sz d x =>
    have ht:∀ m,lvl (truncS m (ev x))=lvl (ev x):=fun m=>by rcases ev x with (_ | _ | _ | _ | _ | _ | _ | _ | _) | _ | _<;>rfl
    have hsrc:∀ m,kD sz (truncS m (ev x)) bx=kD sz (truncS m (ev x)) bx':=fun m=>rO (fun b hb'=>hb b (by rw [ht] at hb'; simp [fO.rd,hb']))
    simp only [fO.f,BD,hsrc]
    cases hs:ev d with
    | one y =>
      cases y
      case own b n sz' =>
        have h2:=hb b (by simp [fO.rd,lvl,hs])
        simp only [lX]
        rcases kD sz (truncS n (ev x)) bx' with _ | ⟨p,ys⟩<;>first | rfl | (simp only [h2])
      case sub b lo n c sz' =>
        have h2:=hb b (by simp [fO.rd,lvl,hs])
        simp only [lX]
        rcases kD sz (truncS n (ev x)) bx' with _ | ⟨p,ys⟩<;>first | rfl | (simp only [h2])
      all_goals rfl
    | _=>rfl
  case Qw x y =>
    have key:∀ (u:AV),(∀ b,b∈lvl u->bx b=bx' b)->∀ b lo n c sz,lX u=some (b,lo,n,c,sz)->bx b=bx' b:=by
      intro u hu b lo n c sz hs
      unfold lX at hs
      split at hs
      · cases hs; exact hu _ (by simp [lvl])
      · cases hs; exact hu _ (by simp [lvl])
      · cases hs
    have k1:=key (ev x) (fun b hb'=>hb b (by simp [fO.rd,hb']))
    have k2:=key (ev y) (fun b hb'=>hb b (by simp [fO.rd,hb']))
    simp only [fO.f,DI]
    generalize lX (ev x)=u at k1
    generalize lX (ev y)=v at k2
    rcases u with _ | ⟨b,lo,n,c,sz⟩<;>rcases v with _ | ⟨b',lo',n',c',sz'⟩<;>try rfl
    simp only [k1 b lo n c sz rfl,k2 b' lo' n' c' sz' rfl]
  case JX sz zs x =>
    simp only [fO.f,BC]
    cases hs:ev x with
    | one y =>
      cases y
      case own b n sz'=>simp only [lX,hb b (by simp [fO.rd,lvl,hs])]
      case sub b lo n c sz'=>simp only [lX,hb b (by simp [fO.rd,lvl,hs])]
      all_goals rfl
    | _=>rfl
  all_goals rfl
theorem ND {e e':fV->Slot} (op:fO) (he:∀ x,x∈op.gy->e x=e' x) (h:op.valid e):op.valid e':=by
 cases op
 case pick c a b =>
  have h1:=he c (by simp [fO.gy])
  have h2:=he a (by simp [fO.gy])
  have h3:=he b (by simp [fO.gy])
  simp only [fO.valid,h1,h2,h3] at h ⊢
  exact h
 all_goals exact fun x hx=>he x hx ▸ h x hx
theorem PD {x y:AC} (h:Cv bx x y) (hb:∀ b,b∈fZ [x]->bx b=bx' b):Cv bx' x y:=by
 cases h with
 | refl=>exact .refl _
 | fH sz=>exact .fH sz
 | own b n sz es ha hn=>exact .own b n sz es (by rw [<- hb b (by simp [fZ])]; exact ha) hn
theorem P8 {xs ys:List AC} (h:Pn bx xs ys) (hb:∀ b,b∈fZ xs->bx b=bx' b):Pn bx' xs ys:=by
 induction h with
 | nil=>exact .nil
 | cons h t ih=>exact .cons (PD h fun b hb'=>hb b (lU.2 (.inl hb'))) (ih fun b hb'=>hb b (lU.2 (.inr hb')))
theorem P6 {x y:AV} (h:QJ bx x y) (hb:∀ b,b∈x.owns->bx b=bx' b):QJ bx' x y:=by
 cases h with
 | one h=>exact .one (PD h hb)
 | agg h=>exact .agg (P8 h hb)
theorem CZ {xs ys:List AV} (h:tN bx xs ys) (hb:∀ b,b∈xs.flatMap AV.owns->bx b=bx' b):tN bx' xs ys:=by
 induction h with
 | nil=>exact .nil
 | cons h t ih=>exact .cons (P6 h fun b hb'=>hb b (by rw [List.flatMap_cons]; exact List.mem_append_left _ hb')) (ih fun b hb'=>hb b (by rw [List.flatMap_cons]; exact List.mem_append_right _ hb'))
end
structure yu where
 rd:List Nat
 wr:List Nat
 outs:Slot->List (Nat × Box)->Prop
inductive nU (P:Program) (f:FuncId) (iU:List AV) (p:Bool) (bx:Nat->Box):yu->Prop
 | lit (ds:List AV) (r:AV) (hc:p=true->tN bx iU ds) (hd:ds.all (·.all AC.jD)=true) (h:p=true->dA P f ds r) (hr:r.all AC.isLit=true) :
   nU P f iU p bx ⟨iU.flatMap AV.owns,[],fun s bs=>s = .v p r/\bs=[]⟩
 | pure (ds:List AV) (r:AV) (hp:p=true) (hc:tN bx iU ds) (hd:ds.all (·.all AC.jD)=true) (h:dA P f ds r) (hr:r.all AC.jD=true) :
   nU P f iU p bx ⟨iU.flatMap AV.owns,iU.flatMap AV.owns,fun s bs=>s = .v true r/\bs=(iU.flatMap AV.owns).map fun b=>(b,oL (bx b))⟩
 | gen (hp:p=true) (ds:List AV) (fp:List Box) (sg nu:List Nat) (post:AV->List Box->Prop)
   (hl:sg.length=fp.length) (hn:(sg++nu).Nodup) (hf:∀ i,i<fp.length->bx ((sg++nu).getD i 0)=lJ (fun b=>(sg++nu).getD b 0) (fp.getD i .absent))
   (hne:∃ r bs,post r bs) (hv:∀ b,b∈nu->bx b = .absent/\10<=b) (hra:(ds.all fun x=>x.all (AC.iZ fp.length))=true) (hrf:fp.all (Box.iZ fp.length)=true) (ha:iU=ds.map (lV fun b=>(sg++nu).getD b 0)) (h:fU P f ds fp post)
   (hlen:∀ r bs,post r bs->bs.length=(sg++nu).length) :
   nU P f iU p bx ⟨sg++nu,sg++nu,fun s bs=>∃ r bs',post r bs'/\s = .v true (lV (fun b=>(sg++nu).getD b 0) r)/\bs=(sg++nu).zip (bs'.map (lJ fun b=>(sg++nu).getD b 0))⟩
 | xP (hp:p=true) (az:List AV) (hc:tN bx iU az) (ds:List AV) (fp:List Box) (sg nu:List Nat) (post:AV->List Box->Prop)
   (hl:sg.length=fp.length) (hn:(sg++nu).Nodup) (hf:∀ i,i<fp.length->(if (sg++nu).getD i 0∈iU.flatMap AV.owns then oL (bx ((sg++nu).getD i 0)) else bx ((sg++nu).getD i 0))=lJ (fun b=>(sg++nu).getD b 0) (fp.getD i .absent))
   (hne:∃ r bs,post r bs) (hv:∀ b,b∈nu->bx b = .absent/\10<=b) (hra:(ds.all fun x=>x.all (AC.iZ fp.length))=true) (hrf:fp.all (Box.iZ fp.length)=true) (ha:az=ds.map (lV fun b=>(sg++nu).getD b 0)) (h:fU P f ds fp post)
   (hlen:∀ r bs,post r bs->bs.length=(sg++nu).length) :
   nU P f iU p bx ⟨iU.flatMap AV.owns++(sg++nu),iU.flatMap AV.owns++(sg++nu),fun s bs=>∃ r bs',post r bs'/\s = .v true (lV (fun b=>(sg++nu).getD b 0) r) /\
    bs=((iU.flatMap AV.owns).map fun b=>(b,oL (bx b)))++(sg++nu).zip (bs'.map (lJ fun b=>(sg++nu).getD b 0))⟩
def vX (P:Program) (o:eX) (st:bF) (D:yu):Prop :=
  lF st.tm o.g/\match o.i with
    | .op op=>(iQ st.tm o.g=true->op.valid (fV.ev st.tm)/\(op.f (aI st.tm) st.bx).vc /\
        D=⟨op.rd (aI st.tm),(op.f (aI st.tm) st.bx).sets.map (·.1),fun s bs=>s = .v true (op.f (aI st.tm) st.bx).v/\bs=(op.f (aI st.tm) st.bx).sets⟩) /\
        (iQ st.tm o.g=false->D=⟨[],[],fun s bs=>s = .v false (.one .ru)/\bs=[]⟩)
    | .call f args=>(iQ st.tm o.g=true->∀ x,x∈args->(x.ev st.tm).g=true)/\nU P f (args.map (aI st.tm)) (iQ st.tm o.g) st.bx D
    | .tC x args=>(iQ st.tm o.g=true->(x.ev st.tm).g=true/\∀ x,x∈args->(x.ev st.tm).g=true)/\match iQ st.tm o.g,aI st.tm x with
      | false,_=>nU P 0 [] false st.bx D
      | true,.one (.fn f caps)=>mO P f=true/\nU P f (args.map (aI st.tm)++caps.map fun b => .one (.ptr b 0)) true st.bx D
      | true,_=>False
section
variable {P:Program} {st st':bF} {K:List Nat->List Nat->bF->Prop}
theorem xq {f:FuncId} {iU:List AV} {p:Bool} {d:Option Nat} : uQ P f iU p d st K<->∃ D,nU P f iU p st.bx D/\∀ s bs,D.outs s bs->K D.rd D.wr ((st.iD bs).kz d s):=by
  constructor
  · intro h
    cases h with
    | lit ds r hc hd hh hr k=>exact ⟨_,.lit ds r hc hd hh hr,fun s bs ⟨h1,h2⟩=>by subst h1; subst h2; exact k⟩
    | pure ds r hp hc hd hh hr k=>exact ⟨_,.pure ds r hp hc hd hh hr,fun s bs ⟨h1,h2⟩=>by subst h1; subst h2; rw [mF]; exact k⟩
    | xP hp az hc ds fp sg nu post hl hn hf hne hv hra hrf ha hh k =>
      exact ⟨_,.xP hp az hc ds fp sg nu post hl hn hf hne hv hra hrf ha hh (fun r bs hp=>(k r bs hp).1),fun s bs ⟨r,bs',hp,h1,h2⟩=>by
        subst h1; subst h2; rw [qf,mF]; exact (k r bs' hp).2⟩
    | gen hp ds fp sg nu post hl hn hf hne hv hra hrf ha hh k =>
      exact ⟨_,.gen hp ds fp sg nu post hl hn hf hne hv hra hrf ha hh (fun r bs hp=>(k r bs hp).1),fun s bs ⟨r,bs',hp,h1,h2⟩=>by subst h1; subst h2; exact (k r bs' hp).2⟩
  · rintro ⟨D,hD,hk⟩
    cases hD with
    | lit ds r hc hd hh hr=>exact .lit ds r hc hd hh hr (hk _ _ ⟨rfl,rfl⟩)
    | pure ds r hp hc hd hh hr=>exact .pure ds r hp hc hd hh hr (by have:=hk _ _ ⟨rfl,rfl⟩; rw [mF] at this; exact this)
    | xP hp az hc ds fp sg nu post hl hn hf hne hv hra hrf ha hh hlen =>
      exact .xP hp az hc ds fp sg nu post hl hn hf hne hv hra hrf ha hh (fun r bs hp=>⟨hlen r bs hp,by have:=hk _ _ ⟨r,bs,hp,rfl,rfl⟩; rw [qf,mF] at this; exact this⟩)
    | gen hp ds fp sg nu post hl hn hf hne hv hra hrf ha hh hlen =>
      exact .gen hp ds fp sg nu post hl hn hf hne hv hra hrf ha hh (fun r bs hp=>⟨hlen r bs hp,hk _ _ ⟨r,bs,hp,rfl,rfl⟩⟩)
theorem qp {o:eX} : T P o st K<->∃ D,vX P o st D/\∀ s bs,D.outs s bs->K D.rd D.wr ((st.iD bs).kz o.d s):=by
  unfold T vX
  cases o.i with
  | op op =>
    unfold QW
    cases hp:iQ st.tm o.g with
    | true =>
      constructor
      · rintro ⟨hg,h1,_⟩
        obtain ⟨a1,a2,a3⟩:=h1 rfl
        exact ⟨_,⟨hg,fun _=>⟨a1,a2,rfl⟩,fun e=>by cases e⟩,fun s bs ⟨e1,e2⟩=>by subst e1; subst e2; exact a3⟩
      · rintro ⟨D,⟨hg,h1,_⟩,hk⟩
        obtain ⟨a1,a2,rfl⟩:=h1 rfl
        exact ⟨hg,fun _=>⟨a1,a2,hk _ _ ⟨rfl,rfl⟩⟩,fun e=>by cases e⟩
    | false =>
      constructor
      · rintro ⟨hg,_,h2⟩
        exact ⟨_,⟨hg,(fun e=>by cases e),fun _=>rfl⟩,fun s bs ⟨e1,e2⟩=>by subst e1; subst e2; exact h2 rfl⟩
      · rintro ⟨D,⟨hg,_,h2⟩,hk⟩
        have:=h2 rfl
        subst this
        exact ⟨hg,(fun e=>by cases e),fun _=>hk _ _ ⟨rfl,rfl⟩⟩
  | call f args =>
    simp only [iY,xq]
    constructor
    · rintro ⟨hg,h1,D,h2,h3⟩; exact ⟨D,⟨hg,h1,h2⟩,h3⟩
    · rintro ⟨D,⟨hg,h1,h2⟩,h3⟩; exact ⟨hg,h1,D,h2,h3⟩
  | tC x args =>
    simp only
    cases iQ st.tm o.g with
    | false =>
      simp only [iY,xq]
      constructor
      · rintro ⟨hg,h1,D,h2,h3⟩; exact ⟨D,⟨hg,h1,h2⟩,h3⟩
      · rintro ⟨D,⟨hg,h1,h2⟩,h3⟩; exact ⟨hg,h1,D,h2,h3⟩
    | true =>
    cases aI st.tm x with
    | one y =>
      cases y
      case fn f caps =>
        simp only [iY,xq]
        constructor
        · rintro ⟨hg,h1,h0,D,h2,h3⟩; exact ⟨D,⟨hg,h1,h0,h2⟩,h3⟩
        · rintro ⟨D,⟨hg,h1,h0,h2⟩,h3⟩; exact ⟨hg,h1,h0,D,h2,h3⟩
      all_goals exact ⟨fun h=>h.2.2.elim,fun ⟨D,h,_⟩=>h.2.2.elim⟩
    | _=>exact ⟨fun h=>h.2.2.elim,fun ⟨D,h,_⟩=>h.2.2.elim⟩
theorem nU.bx {f:FuncId} {iU:List AV} {p:Bool} {bx bx':Nat->Box} {D:yu} (h:nU P f iU p bx D) (hb:∀ b,b∈D.rd->bx b=bx' b):nU P f iU p bx' D:=by
  cases h with
  | lit ds r hc hd hh hr=>exact .lit ds r (fun e=>CZ (hc e) hb) hd hh hr
  | pure ds r hp hc hd hh hr =>
    have e:((iU.flatMap AV.owns).map fun b=>(b,oL (bx b)))=(iU.flatMap AV.owns).map fun b=>(b,oL (bx' b)):=List.map_congr_left fun b hb'=>by rw [hb b hb']
    simp only [e]
    exact .pure ds r hp (CZ hc hb) hd hh hr
  | xP hp az hc ds fp sg nu post hl hn hf hne hv hra hrf ha hh hlen =>
    have e:((iU.flatMap AV.owns).map fun b=>(b,oL (bx b)))=(iU.flatMap AV.owns).map fun b=>(b,oL (bx' b)):=List.map_congr_left fun b hb'=>by rw [hb b (List.mem_append_left _ hb')]
    simp only [e]
    refine .xP hp az (CZ hc fun b hm=>hb b (List.mem_append_left _ hm)) ds fp sg nu post hl hn (fun i hi => ?_) hne (fun b hm => ?_) hra hrf ha hh hlen
    · rw [<- hb]
      · exact hf i hi
      · show (sg++nu).getD i 0∈iU.flatMap AV.owns++(sg++nu)
        have:i<(sg++nu).length:=by simp; omega
        rw [List.getD_eq_getElem?_getD,List.getElem?_eq_getElem this]
        exact List.mem_append_right _ (List.getElem_mem this)
    · rw [<- hb b (List.mem_append_right _ (List.mem_append_right _ hm))]; exact hv b hm
  | gen hp ds fp sg nu post hl hn hf hne hv hra hrf ha hh hlen =>
    refine .gen hp ds fp sg nu post hl hn (fun i hi => ?_) hne (fun b hm => ?_) hra hrf ha hh hlen
    · rw [<- hb]
      · exact hf i hi
      · show (sg++nu).getD i 0∈sg++nu
        have:i<(sg++nu).length:=by simp; omega
        rw [List.getD_eq_getElem?_getD,List.getElem?_eq_getElem this]
        exact List.getElem_mem this
    · rw [<- hb b (List.mem_append_right _ hm)]; exact hv b hm
theorem nU.ne {f:FuncId} {iU:List AV} {p:Bool} {bx:Nat->Box} {D:yu} (h:nU P f iU p bx D):∃ s bs,D.outs s bs:=by
 cases h with
 | lit=>exact ⟨_,_,rfl,rfl⟩
 | pure=>exact ⟨_,_,rfl,rfl⟩
 | gen hp ds fp sg nu post hl hn hf hne=>obtain ⟨r,bs,h⟩:=hne; exact ⟨_,_,r,bs,h,rfl,rfl⟩
 | xP hp az hc ds fp sg nu post hl hn hf hne=>obtain ⟨r,bs,h⟩:=hne; exact ⟨_,_,r,bs,h,rfl,rfl⟩
theorem nU.fst {f:FuncId} {iU:List AV} {p:Bool} {bx:Nat->Box} {D:yu} (h:nU P f iU p bx D) {s:Slot} {bs:List (Nat × Box)} (ho:D.outs s bs):∀ b,b∈bs.map (·.1)->b∈D.wr:=by
  cases h with
  | lit=>obtain ⟨_,rfl⟩:=ho; intro b hb; simp at hb
  | pure=>obtain ⟨_,rfl⟩:=ho; intro b hb; simpa using hb
  | xP hp az hc ds fp sg nu post hl hn hf hne =>
    obtain ⟨r,bs',_,_,rfl⟩:=ho
    intro b hb
    rw [List.map_append,List.mem_append] at hb
    rcases hb with hb | hb
    · exact List.mem_append_left _ (by simpa using hb)
    · obtain ⟨x,hx,rfl⟩:=List.mem_map.1 hb
      exact List.mem_append_right _ (List.of_mem_zip (a:=x.1) (b:=x.2) hx).1
  | gen hp ds fp sg nu post hl hn hf hne =>
    obtain ⟨r,bs',_,_,rfl⟩:=ho
    intro b hb
    obtain ⟨x,hx,rfl⟩:=List.mem_map.1 hb
    exact (List.of_mem_zip (a:=x.1) (b:=x.2) hx).1
theorem vX.ne {o:eX} {D:yu} (h:vX P o st D):∃ s bs,D.outs s bs:=by
 obtain ⟨_,h⟩:=h
 split at h
 ·cases hp:iQ st.tm o.g with
  | true=>obtain ⟨_,_,rfl⟩:=h.1 hp; exact ⟨_,_,rfl,rfl⟩
  | false=>have:=h.2 hp; subst this; exact ⟨_,_,rfl,rfl⟩
 ·exact h.2.ne
 ·obtain ⟨_,h⟩:=h
  split at h
  ·exact h.ne
  ·exact h.2.ne
  ·exact h.elim
theorem vX.fst {o:eX} {D:yu} (h:vX P o st D) {s:Slot} {bs:List (Nat × Box)} (ho:D.outs s bs):∀ b,b∈bs.map (·.1)->b∈D.wr:=by
 obtain ⟨_,h⟩:=h
 split at h
 ·cases hp:iQ st.tm o.g with
  | true=>obtain ⟨_,_,rfl⟩:=h.1 hp; obtain ⟨_,rfl⟩:=ho; exact fun b hb=>hb
  | false=>have:=h.2 hp; subst this; obtain ⟨_,rfl⟩:=ho; exact fun b hb=>hb
 ·exact h.2.fst ho
 ·obtain ⟨_,h⟩:=h
  split at h
  ·exact h.fst ho
  ·exact h.2.fst ho
  ·exact h.elim
def yt.slots (i:yt):List Nat:=match i with
 | yt.op o=>o.gy.flatMap fV.slots
 | yt.call _ args=>args.flatMap fV.slots
 | yt.tC x args=>x.slots++args.flatMap fV.slots
def eX.slots (o:eX):List Nat:=o.g.toList.map (·.1)++o.i.slots
def eX.L9 (o:eX):Bool:=match o.i with
 | yt.op _=>true
 | _=>false
theorem Ig {tm tm':Nat->Slot} {x:fV} (h:∀ t,t∈x.slots->tm t=tm' t):x.ev tm=x.ev tm':=by
 cases x with
 | t s=>exact h s (by simp [fV.slots])
 | k x=>rfl
theorem LP {tm tm':Nat->Slot} {g:Option (Nat × Bool)} (h:∀ t,t∈g.toList.map (·.1)->tm t=tm' t):(lF tm g<->lF tm' g)/\iQ tm g=iQ tm' g:=by
  cases g with
  | none=>exact ⟨Iff.rfl,rfl⟩
  | some p =>
    obtain ⟨s,w⟩:=p
    have:=h s (by simp)
    simp only [lF,iQ,this,and_self,iff_self]
theorem vX.local {o:eX} {D:yu} (h:vX P o st D) (ht:∀ t,t∈o.slots->st.tm t=st'.tm t) (hb:∀ b,b∈D.rd->st.bx b=st'.bx b):vX P o st' D:=by
  unfold vX at h ⊢
  obtain ⟨hg1,hg2⟩:=LP (tm:=st.tm) (tm':=st'.tm) (g:=o.g) (fun t h'=>ht t (List.mem_append_left _ h'))
  have ht':∀ t,t∈o.i.slots->st.tm t=st'.tm t:=fun t h'=>ht t (List.mem_append_right _ h')
  refine ⟨hg1.1 h.1,?_⟩
  obtain ⟨_,h⟩:=h
  rw [hg2] at h
  cases hi:o.i with
  | op op =>
    simp only [hi,yt.slots] at h ht' ⊢
    have he:∀ x,x∈op.gy->fV.ev st.tm x=fV.ev st'.tm x:=fun x hx=>Ig fun t hm=>ht' t (List.mem_flatMap.2 ⟨x,hx,hm⟩)
    have hea:∀ x,x∈op.gy->aI st.tm x=aI st'.tm x:=fun x hx=>by unfold aI; rw [he x hx]
    obtain ⟨h1,h2⟩:=h
    refine ⟨fun e => ?_,h2⟩
    obtain ⟨a1,a2,rfl⟩:=h1 e
    have hf:op.f (aI st.tm) st.bx=op.f (aI st'.tm) st'.bx:=(SA op hb).trans (SB op hea)
    rw [hf] at a2
    refine ⟨ND op he a1,a2,?_⟩
    rw [hf,RD op hea]
  | call f args =>
    simp only [hi,yt.slots] at h ht' ⊢
    have he:∀ x,x∈args->fV.ev st.tm x=fV.ev st'.tm x:=fun x hx=>Ig fun t hm=>ht' t (List.mem_flatMap.2 ⟨x,hx,hm⟩)
    have hm:args.map (aI st.tm)=args.map (aI st'.tm):=List.map_congr_left fun x hx=>by unfold aI; rw [he x hx]
    rw [hm] at h
    exact ⟨fun e x hx=>he x hx ▸ h.1 e x hx,h.2.bx hb⟩
  | tC x args =>
    simp only [hi,yt.slots] at h ht' ⊢
    have he:∀ x,x∈args->fV.ev st.tm x=fV.ev st'.tm x:=fun x hx=>Ig fun t hm=>ht' t (List.mem_append_right _ (List.mem_flatMap.2 ⟨x,hx,hm⟩))
    have hex:fV.ev st.tm x=fV.ev st'.tm x:=Ig fun t hm=>ht' t (List.mem_append_left _ hm)
    have hm:args.map (aI st.tm)=args.map (aI st'.tm):=List.map_congr_left fun x hx=>by unfold aI; rw [he x hx]
    have hmx:aI st.tm x=aI st'.tm x:=by unfold aI; rw [hex]
    obtain ⟨h1,h2⟩:=h
    rw [hm,hmx] at h2
    refine ⟨fun e=>⟨hex ▸ (h1 e).1,fun y hy=>he y hy ▸ (h1 e).2 y hy⟩,?_⟩
    split at h2
    · exact h2.bx hb
    · exact ⟨h2.1,h2.2.bx hb⟩
    · exact h2.elim
theorem vX.TR {o:eX} {D D':yu} (hop:o.L9=true) (h:vX P o st D) (h':vX P o st D'):D=D':=by
  unfold vX at h h'
  unfold eX.L9 at hop
  cases hi:o.i with
  | op op =>
    rw [hi] at h h'
    cases hp:iQ st.tm o.g with
    | true=>exact (h.2.1 hp).2.2.trans (h'.2.1 hp).2.2.symm
    | false=>exact (h.2.2 hp).trans (h'.2.2 hp).symm
  | call f args=>rw [hi] at hop; cases hop
  | tC x args=>rw [hi] at hop; cases hop
end
end Go.Ab
end
section
namespace Go.Ab
open Go
section
variable {P:Program} {st st':bF}
theorem qW {a b:List Nat} : uk a b=true<->∀ x,x∈a->x ∉ b:=by
 simp [uk,List.all_eq_true]
def tY (x y:eX):Bool :=
 uk x.d.toList y.slots&&uk y.d.toList x.slots&&uk x.d.toList y.d.toList&&(x.L9||y.L9)
def app (x:eX) (st:bF) (s:Slot) (bs:List (Nat × Box)):bF:=(st.iD bs).kz x.d s
theorem uf {x:eX} {s:Slot} {bs:List (Nat × Box)} {t:Nat} (h:t ∉ x.d.toList):(app x st s bs).tm t=st.tm t:=by
  unfold app
  cases hd:x.d with
  | none=>simp only [bF.kz,vN]
  | some d =>
    simp only [bF.kz,bF.zQ,vN]
    rw [if_neg]
    intro e; subst e; exact h (by simp [hd])
theorem vM (st:bF) (d:Option Nat) (s:Slot):(st.kz d s).bx=st.bx:=by cases d<;>rfl
theorem tZ {x:eX} {s:Slot} {bs:List (Nat × Box)} {b:Nat} (h:b ∉ bs.map (·.1)):(app x st s bs).bx b=st.bx b:=by
 unfold app
 rw [vM,rH _ _ h]
theorem zV (l:List (Nat × Box)) {st st':bF} {b:Nat} (h:st.bx b=st'.bx b):(st.iD l).bx b=(st'.iD l).bx b:=by
  induction l generalizing st st' with
  | nil=>exact h
  | cons x l ih =>
    obtain ⟨c,y⟩:=x
    simp only [bF.iD]
    apply ih
    simp only [bF.gK]
    split
    · rfl
    · exact h
theorem rG (l:List (Nat × Box)) {st st':bF} {b:Nat} (h:b∈l.map (·.1)):(st.iD l).bx b=(st'.iD l).bx b:=by
  induction l generalizing st st' with
  | nil=>simp at h
  | cons x l ih =>
    obtain ⟨c,y⟩:=x
    simp only [bF.iD]
    by_cases hc:b=c
    · apply zV
      simp [bF.gK,hc]
    · simp only [List.map_cons,List.mem_cons] at h
      exact ih (h.resolve_left hc)
theorem En {x y:eX} {s s':Slot} {bs bs':List (Nat × Box)} (hd:uk x.d.toList y.d.toList=true) (hb:∀ b,b∈bs.map (·.1)->b ∉ bs'.map (·.1)) :
    app y (app x st s bs) s' bs'=app x (app y st s' bs') s bs:=by
  rw [qW] at hd
  apply bF.ext'
  · funext t
    by_cases h1:t∈x.d.toList
    · have h2:=hd t h1
      rw [uf h2]
      cases hx:x.d with
      | none=>rw [hx] at h1; simp at h1
      | some d =>
        rw [hx] at h1
        simp at h1
        subst h1
        simp [app,hx,bF.kz,bF.zQ]
    · rw [uf (x:=x) h1]
      by_cases h2:t∈y.d.toList
      · cases hy:y.d with
        | none=>rw [hy] at h2; simp at h2
        | some d =>
          rw [hy] at h2
          simp at h2
          subst h2
          simp [app,hy,bF.kz,bF.zQ]
      · rw [uf h2,uf h2,uf h1]
  · funext b
    by_cases h1:b∈bs.map (·.1)
    · rw [tZ (hb b h1)]
      unfold app
      rw [vM,vM]
      exact rG _ h1
    · rw [tZ (x:=x) h1]
      by_cases h2:b∈bs'.map (·.1)
      · unfold app
        rw [vM,vM]
        exact rG _ h2
      · rw [tZ h2,tZ h2,tZ h1]
def apartB (rd wr rd' wr':List Nat):Bool:=uk wr' rd&&uk wr' wr&&uk rd' wr
theorem vX.skip {x y:eX} {D Dx:yu} (h:vX P y st D) (hx:vX P x st Dx) (hs:uk x.d.toList y.slots=true) (hb:∀ b,b∈Dx.wr->b ∉ D.rd) {s:Slot} {bs:List (Nat × Box)} (ho:Dx.outs s bs):vX P y (app x st s bs) D :=
 h.local (fun t ht=>(uf fun hd=>(qW.1 hs) t hd ht).symm) (fun b hr=>(tZ fun hm=>hb b (hx.fst ho b hm) hr).symm)
theorem vX.Hq {x y:eX} {D Dx:yu} {s:Slot} {bs:List (Nat × Box)} (h:vX P y (app x st s bs) D) (hx:vX P x st Dx) (hs:uk x.d.toList y.slots=true) (hb:∀ b,b∈Dx.wr->b ∉ D.rd) (ho:Dx.outs s bs):vX P y st D :=
 h.local (fun t ht=>uf fun hd=>(qW.1 hs) t hd ht) (fun b hr=>tZ fun hm=>hb b (hx.fst ho b hm) hr)
theorem qM {rd wr rd' wr':List Nat} (h:apartB rd wr rd' wr'=true):(∀ b,b∈wr->b ∉ rd')/\(∀ b,b∈wr'->b ∉ rd)/\(∀ b,b∈wr->b ∉ wr'):=by
 simp only [apartB,Bool.and_eq_true,qW] at h
 exact ⟨fun b h1 h2=>h.2 b h2 h1,h.1.1,fun b h1 h2=>h.1.2 b h2 h1⟩
theorem PY {x y:eX} (hap:tY x y=true) {K:List Nat->List Nat->List Nat->List Nat->bF->Prop}
  (h:T P x st fun rd wr st1=>T P y st1 fun rd' wr' st2=>apartB rd wr rd' wr'=true/\K rd wr rd' wr' st2) :
  T P y st fun rd' wr' st2=>T P x st2 fun rd wr st1=>apartB rd wr rd' wr'=true/\K rd wr rd' wr' st1:=by
 simp only [tY,Bool.and_eq_true,Bool.or_eq_true] at hap
 obtain ⟨⟨⟨h1,h2⟩,h3⟩,h4⟩:=hap
 rw [qp] at h
 obtain ⟨Dx,NZ,h⟩:=h
 rcases h4 with h4 | h4
 ·
  obtain ⟨s,bs,ho⟩:=NZ.ne
  have hT:=h s bs ho
  rw [qp] at hT
  obtain ⟨Dy,Q8,hk⟩:=hT
  obtain ⟨s',bs',ho'⟩:=Q8.ne
  obtain ⟨a1,a2,a3⟩:=qM (hk s' bs' ho').1
  have ER:vX P y st Dy:=vX.Hq Q8 NZ h1 a1 ho
  rw [qp]
  refine ⟨Dy,ER,fun s' bs' ho' => ?_⟩
  rw [qp]
  refine ⟨Dx,NZ.skip ER h2 a2 ho',fun s1 QN ho1 => ?_⟩
  have hT:=h s1 QN ho1
  rw [qp] at hT
  obtain ⟨Tq,Qg,hk1⟩:=hT
  have hsame:s1=s/\QN=bs:=by
   obtain ⟨_,hD⟩:=NZ
   unfold eX.L9 at h4
   split at h4
   ·rename_i op hi
    rw [hi] at hD
    cases hp:iQ st.tm x.g with
    | true=>obtain ⟨_,_,rfl⟩:=hD.1 hp; exact ⟨ho1.1.trans ho.1.symm,ho1.2.trans ho.2.symm⟩
    | false=>have:=hD.2 hp; subst this; exact ⟨ho1.1.trans ho.1.symm,ho1.2.trans ho.2.symm⟩
   ·cases h4
  obtain ⟨rfl,rfl⟩:=hsame
  have:=hk s' bs' ho'
  show _/\K _ _ _ _ (app x (app y st s' bs') s1 QN)
  rw [<- En h3 (fun b hb hb'=>a3 b (NZ.fst ho b hb) (ER.fst ho' b hb'))]
  exact this
 ·
  obtain ⟨s,bs,ho⟩:=NZ.ne
  have hT:=h s bs ho
  rw [qp] at hT
  obtain ⟨Dy,Q8,hk⟩:=hT
  obtain ⟨s',bs',ho'⟩:=Q8.ne
  obtain ⟨a1,a2,a3⟩:=qM (hk s' bs' ho').1
  have ER:vX P y st Dy:=vX.Hq Q8 NZ h1 a1 ho
  rw [qp]
  refine ⟨Dy,ER,fun s' bs' ho' => ?_⟩
  rw [qp]
  refine ⟨Dx,NZ.skip ER h2 a2 ho',fun s1 QN ho1 => ?_⟩
  have hT:=h s1 QN ho1
  rw [qp] at hT
  obtain ⟨Tq,Qg,hk1⟩:=hT
  have hsame:Tq=Dy:=by
   obtain ⟨s2,TQ,ho2⟩:=Qg.ne
   obtain ⟨b1,_,_⟩:=qM (hk1 s2 TQ ho2).1
   exact vX.TR h4 (vX.Hq Qg NZ h1 b1 ho1) ER
  subst hsame
  have:=hk1 s' bs' ho'
  show _/\K _ _ _ _ (app x (app y st s' bs') s1 QN)
  rw [<- En h3 (fun b hb hb'=>a3 b (NZ.fst ho1 b hb) (ER.fst ho' b hb'))]
  exact this
theorem wz {x:eX} {K K':List Nat->List Nat->bF->Prop} (hk:∀ rd wr st,K rd wr st->K' rd wr st) (h:T P x st K):T P x st K':=by
 rw [qp] at h ⊢
 obtain ⟨D,hD,h⟩:=h
 exact ⟨D,hD,fun s bs ho=>hk _ _ _ (h s bs ho)⟩
abbrev Log:=List (Nat × List Nat × List Nat)
theorem o8 {qx rd wr:List Nat} {log:Log} : lD qx rd wr log=true<->∀ e,e∈log->e.1∈qx\/apartB e.2.1 e.2.2 rd wr=true:=by
  induction log with
  | nil=>simp [lD]
  | cons e l ih =>
    obtain ⟨j,r,w⟩:=e
    simp only [lD,Bool.and_eq_true,Bool.or_eq_true,ih,List.mem_cons,forall_eq_or_imp,apartB,List.contains_iff_mem]
structure oD where
 i:Nat
 o:eX
 qx:List Nat
def NR (P:Program):List oD->Log->bF->(bF->Prop)->Prop
 | [],_,st,K=>K st
 | x::r,log,st,K=>T P x.o st fun rd wr st'=>lD x.qx rd wr log=true/\NR P r ((x.i,rd,wr)::log) st' K
theorem IM {K:bF->Prop} : ∀ {l:List oD} {log Qo:Log} {st:bF},(∀ e,e∈Qo->e∈log)->NR P l log st K->NR P l Qo st K
  | [],_,_,_,_,h=>h
  | x::r,log,Qo,st,hl,h=>by
    refine wz (fun rd wr st' hk=>⟨?_,IM (l:=r) ?_ hk.2⟩) h
    · rw [o8] at hk ⊢
      exact fun e he=>hk.1 e (hl e he)
    · intro e he
      rcases List.mem_cons.1 he with rfl | he
      · exact List.mem_cons_self ..
      · exact List.mem_cons_of_mem _ (hl e he)
theorem BJ {K:bF->Prop} {x:oD} {post:List oD} : ∀ {pre:List oD} {log:Log} {st:bF},(∀ p,p∈pre->p.i ∉ x.qx/\tY p.o x.o=true)->NR P (pre++x::post) log st K->NR P (x::(pre++post)) log st K
  | [],_,_,_,h=>h
  | p::pre,log,st,hp,h=>by
    obtain ⟨hn,hap⟩:=hp p (List.mem_cons_self ..)
    have h1:T P p.o st fun rd wr st1=>T P x.o st1 fun rd' wr' st2=>apartB rd wr rd' wr'=true /\
        (lD p.qx rd wr log=true/\lD x.qx rd' wr' log=true/\NR P (pre++post) ((x.i,rd',wr')::(p.i,rd,wr)::log) st2 K):=by
      refine wz (fun rd wr st1 hk => ?_) h
      have h2:=BJ (pre:=pre) (fun q hq=>hp q (List.mem_cons_of_mem _ hq)) hk.2
      refine wz (fun rd' wr' st2 hk2 => ?_) h2
      have Rh:=o8.1 hk2.1
      refine ⟨(Rh (p.i,rd,wr) (List.mem_cons_self ..)).resolve_left hn,hk.1,o8.2 fun e he=>Rh e (List.mem_cons_of_mem _ he),hk2.2⟩
    refine wz (fun rd' wr' st2 hk => ?_) (PY hap h1)
    rw [qp] at hk
    obtain ⟨D,hD,hk⟩:=hk
    refine ⟨?_,?_⟩
    · obtain ⟨s,bs,ho⟩:=hD.ne
      exact (hk s bs ho).2.2.1
    · show T P p.o st2 _
      rw [qp]
      refine ⟨D,hD,fun s bs ho => ?_⟩
      obtain ⟨k1,k2,k3,k4⟩:=hk s bs ho
      refine ⟨o8.2 fun e he => ?_,IM ?_ k4⟩
      · rcases List.mem_cons.1 he with rfl | he
        · right
          simp only [apartB,Bool.and_eq_true,qW] at k1 ⊢
          exact ⟨⟨fun b h1 h2=>k1.2 b h2 h1,fun b h1 h2=>k1.1.2 b h2 h1⟩,fun b h1 h2=>k1.1.1 b h2 h1⟩
        · exact o8.1 k2 e he
      · intro e he
        simp only [List.mem_cons] at he ⊢
        rcases he with h | h | h
        · exact .inr (.inl h)
        · exact .inl h
        · exact .inr (.inr h)
end
end Go.Ab
end
section
namespace Go.Ab
open Go
section
variable {P:Program} {E:Env P} {n:Nat} {ops:Array Oper} {Q:Exit->Act->World->Prop}
def CS (P:Program) (n m:Nat) (ops:Array Oper):List Oper->List eX->Bool
 | [],[]=>true
 | o::os,x::xs=>yc P n m ops o x&&CS P n m ops os xs
 | _,_=>false
theorem zT (hm:E.m<=10):∀ {os:List Oper} {xs:List eX} {K:bF->Prop} {a:Act} {w:World},CS P n E.m ops os xs=true->AK E n (fun st=>wpOps P xs st K) a w ->
    (∀ a w,AK E n K a w->Q .normal a w)->wpList P ops Q os a w
  | [],[],K,a,w,_,h,hq=>hq a w h
  | o::os,x::xs,K,a,w,hc,h,hq=>by
    simp only [CS,Bool.and_eq_true] at hc
    obtain ⟨I,ρ,st,hT,hg⟩:=h
    have h1:=H7 (Q:=Q) (ops:=ops) hg hm hc.1 (show T P x st fun _ _ st'=>wpOps P xs st' K from hT)
    unfold Eb at h1
    unfold wpList
    have key:∀ a w,AK E n (fun st=>∃ rd wr:List Nat,wpOps P xs st K) a w->wpList P ops Q os a w:=fun a w hk =>
      zT hm hc.2 (hk.imp fun st ⟨_,_,h⟩=>h) hq
    split
    · rename_i hw
      rw [if_pos hw] at h1
      exact h1.imp (Oper.wp_mono key) id
    · rename_i hw
      rw [if_neg hw] at h1
      exact key _ _ h1
  | [],_::_,_,_,_,hc,_,_=>by cases hc
  | _::_,[],_,_,_,hc,_,_=>by cases hc
def items:List (eX × List Nat)->Nat->List oD
 | [],_=>[]
 | (o,qx)::r,i=>⟨i,o,qx⟩::items r (i+1)
theorem NQ {K:bF->Prop} : ∀ {l:List (eX × List Nat)} {i:Nat} {log:Log} {st:bF},Oa P l i log st K=NR P (items l i) log st K
  | [],_,_,_=>rfl
  | (o,qx)::r,i,log,st=>by
    simp only [Oa,items,NR]
    congr 1
    funext rd wr st'
    rw [NQ (l:=r)]
def Gi (L:List oD) (o:Oper) (x:oD):Bool :=
 x.qx.all (fun j=>o.after.toList.any fun e=>Region.binds .any e&&(e.on==j||L.any fun y=>y.i==e.on&&y.qx.contains j)) &&
 o.after.toList.all (fun e => !Region.binds .any e||decide (e.on<x.i))
def uX:List oD->Bool
 | []=>true
 | x::r=>r.all (fun y=>y.qx.contains x.i||tY x.o y.o)&&uX r
def CG (P:Program) (n m:Nat) (ops:Array Oper) (L:List oD) (x:oD):Bool :=
 match ops[x.i]? with
 | some o=>yc P n m ops o x.o&&Gi L o x
 | none=>false
def EE (P:Program) (n m:Nat) (ops:Array Oper) (l:List (eX × List Nat)):Bool :=
 l.length==ops.size&&(items l 0).all (CG P n m ops (items l 0))&&uX (items l 0)
theorem zx:∀ {l:List (eX × List Nat)} {i:Nat},(∀ x,x∈items l i->i<=x.i/\x.i<i+l.length)/\(items l i).Pairwise (fun x y=>x.i<y.i)/\(∀ j,j<l.length->∃ x,x∈items l i/\x.i=i+j)
  | [],i=>⟨fun x hx=>by simp [items] at hx,.nil,fun j hj=>by simp at hj⟩
  | (o,qx)::r,i=>by
    obtain ⟨h1,h2,h3⟩:=zx (l:=r) (i:=i+1)
    simp only [items,List.length_cons]
    refine ⟨fun x hx => ?_,List.pairwise_cons.2 ⟨fun y hy => ?_,h2⟩,fun j hj => ?_⟩
    · rcases List.mem_cons.1 hx with rfl | hx
      · exact ⟨Nat.le_refl _,by simp⟩
      · have:=h1 x hx; omega
    · have:=(h1 y hy).1; show i<y.i; omega
    · cases j with
      | zero=>exact ⟨_,List.mem_cons_self ..,rfl⟩
      | succ j =>
        obtain ⟨x,hx,he⟩:=h3 j (by omega)
        exact ⟨x,List.mem_cons_of_mem _ hx,by omega⟩
theorem xA:∀ {l:List oD},uX l=true->l.Pairwise fun x y=>x.i∈y.qx\/tY x.o y.o=true
  | [],_ => .nil
  | x::r,h=>by
    simp only [uX,Bool.and_eq_true,List.all_eq_true,Bool.or_eq_true,List.contains_iff_mem] at h
    exact List.pairwise_cons.2 ⟨h.1,xA h.2⟩
theorem OL {l:Array Bool} {i:Nat} (h:l.getD i true=false):l.getD i false=false:=by
 simp only [Array.getD_eq_getD_getElem?] at *
 cases hh:l[i]? with
 | none=>rw [hh] at h; cases h
 | some b=>rw [hh] at h; simpa using h
theorem I9 (hm:E.m<=10) {L:List (eX × List Nat)} (hc:EE P n E.m ops L=true) {K:bF->Prop} (hq:∀ a w,AK E n K a w->Q .normal a w) :
    ∀ (fuel:Nat) (l:List oD) (listed:Array Bool) (log:Log) (a:Act) (w:World),l.length<=fuel->l.Sublist (items L 0)->listed.size=ops.size ->
      (∀ x,x∈items L 0->(listed.getD x.i true=false<->x∈l)) ->
      (∀ x,x∈items L 0->listed.getD x.i false=true->∀ j,j∈x.qx->listed.getD j false=true) ->
      AK E n (fun st=>NR P l log st K) a w->wpAny P .any ops Q fuel listed a w:=by
  simp only [EE,Bool.and_eq_true,beq_iff_eq,List.all_eq_true] at hc
  obtain ⟨⟨hlen,hit⟩,hap⟩:=hc
  obtain ⟨i1,i2,i3⟩:=zx (l:=L) (i:=0)
  have hpw:(items L 0).Pairwise fun x y=>x.i<y.i/\(x.i∈y.qx\/tY x.o y.o=true):=i2.and (xA hap)
  have PL:∀ x y,x∈items L 0->y∈items L 0->x.i=y.i->x=y:=by
    intro x y hx hy e
    obtain ⟨p,hp,rfl⟩:=List.getElem_of_mem hx
    obtain ⟨q,hq',rfl⟩:=List.getElem_of_mem hy
    have Rj:=List.pairwise_iff_getElem.1 i2
    rcases Nat.lt_trichotomy p q with h | h | h
    · have:=Rj p q hp hq' h; omega
    · subst h; rfl
    · have:=Rj q p hq' hp h; omega
  have Qm:∀ (l:List oD) (listed:Array Bool),l.Sublist (items L 0)->listed.size=ops.size->(∀ x,x∈items L 0->(listed.getD x.i true=false<->x∈l))->Region.ready .any ops listed=[]->l=[]:=by
    intro l listed hsub hsz hl hr
    cases l with
    | nil=>rfl
    | cons x r =>
      exfalso
      have hx:=hsub.subset (List.mem_cons_self ..)
      have hc:=hit x hx
      unfold CG at hc
      cases ho:ops[x.i]? with
      | none=>rw [ho] at hc; cases hc
      | some o =>
        rw [ho] at hc
        simp only [Bool.and_eq_true,Gi,List.all_eq_true,Bool.or_eq_true,Bool.not_eq_true',decide_eq_true_eq] at hc
        have:x.i∈Region.ready .any ops listed:=by
          rw [mem_ready]
          refine ⟨(hl x hx).2 (List.mem_cons_self ..),o,ho,fun e he hb => ?_⟩
          have hlt:=(hc.2.2 e (by simpa using he)).resolve_left (by rw [hb]; simp)
          have hxi:=i1 x hx
          obtain ⟨y,hy,hye⟩:=i3 e.on (by omega)
          have hye:y.i=e.on:=by omega
          by_cases hyl:y∈x::r
          · exfalso
            rcases List.mem_cons.1 hyl with rfl | Uf
            · omega
            · have:=(List.pairwise_cons.1 (i2.sublist hsub)).1 y Uf
              omega
          · have h1:¬ listed.getD y.i true=false:=fun h=>hyl ((hl y hy).1 h)
            have hin:y.i<listed.size:=by rw [hsz,<- hlen]; have:=i1 y hy; omega
            rw [<- hye]
            simp only [Array.getD_eq_getD_getElem?,Array.getElem?_eq_getElem hin,Option.getD_some] at h1 ⊢
            simpa using h1
        rw [hr] at this
        cases this
  intro fuel
  induction fuel with
  | zero =>
    intro l listed log a w hf hsub hsz hl _ h
    have:l=[]:=List.length_eq_zero_iff.1 (by omega)
    subst this
    refine ⟨?_,hq a w h⟩
    cases hr:Region.ready .any ops listed with
    | nil=>rfl
    | cons i r =>
      exfalso
      have hi:i∈Region.ready .any ops listed:=by rw [hr]; exact List.mem_cons_self ..
      obtain ⟨hu,o,ho,_⟩:=mem_ready.1 hi
      have hlt:=(Array.getElem?_eq_some_iff.1 ho).1
      obtain ⟨y,hy,hye⟩:=i3 i (by omega)
      have hye:y.i=i:=by omega
      have:=(hl y hy).1 (by rw [hye]; exact hu)
      cases this
  | succ fuel ih =>
    intro l listed log a w hf hsub hsz hl hdown h
    refine ⟨fun hr => ?_,fun i hi => ?_⟩
    · have:=Qm l listed hsub hsz hl hr
      subst this
      exact hq a w h
    · obtain ⟨hu,o,ho,hall⟩:=mem_ready.1 hi
      have hlt:=(Array.getElem?_eq_some_iff.1 ho).1
      obtain ⟨x,hx,hxe⟩:=i3 i (by omega)
      have hxe:x.i=i:=by omega
      subst hxe
      have hxl:=(hl x hx).1 hu
      have hcx:=hit x hx
      unfold CG at hcx
      rw [ho] at hcx
      simp only [Bool.and_eq_true] at hcx
      obtain ⟨hco,hca⟩:=hcx
      have haft:∀ j,j∈x.qx->listed.getD j false=true:=by
        intro j hj
        simp only [Gi,Bool.and_eq_true,List.all_eq_true,List.any_eq_true,Bool.or_eq_true,beq_iff_eq] at hca
        obtain ⟨e,he,hb,TV⟩:=hca.1 j hj
        have hel:=hall e (by simpa using he) hb
        rcases TV with rfl | ⟨y,hy,hye,hyj⟩
        · exact hel
        · rw [<- hye] at hel
          exact hdown y hy hel j (by simpa using hyj)
      obtain ⟨pre,post,rfl⟩:=List.append_of_mem hxl
      have OV:=hpw.sublist hsub
      rw [List.pairwise_append] at OV
      have hpre:∀ p,p∈pre->p.i ∉ x.qx/\tY p.o x.o=true:=by
        intro p hp
        have h1:=OV.2.2 p hp x (List.mem_cons_self ..)
        have hn:p.i ∉ x.qx:=by
          intro hm'
          have h2:=haft _ hm'
          have h3:=(hl p (hsub.subset (List.mem_append_left _ hp))).2 (List.mem_append_left _ hp)
          rw [OL h3] at h2
          cases h2
        exact ⟨hn,h1.2.resolve_left hn⟩
      obtain ⟨I,ρ,st,hT,hg⟩:=h
      have hT:=BJ hpre hT
      have h1:=H7 (Q:=Q) (ops:=ops) hg hm hco (show T P x.o st fun rd wr st'=>lD x.qx rd wr log=true/\NR P (pre++post) ((x.i,rd,wr)::log) st' K from hT)
      have key:∀ a w,AK E n (fun st=>∃ rd wr,lD x.qx rd wr log=true/\NR P (pre++post) ((x.i,rd,wr)::log) st K) a w->wpAny P .any ops Q fuel (listed.setIfInBounds x.i true) a w:=by
        rintro a w ⟨I,ρ,st,⟨rd,wr,_,hk⟩,hg⟩
        have hnx:x ∉ pre++post:=by
          intro hxm
          rcases List.mem_append.1 hxm with h | h
          · have:=(OV.2.2 x h x (List.mem_cons_self ..)).1; omega
          · have:=((List.pairwise_cons.1 OV.2.1).1 x h).1; omega
        refine ih (pre++post) _ ((x.i,rd,wr)::log) a w (by simp at hf ⊢; omega) ?_ (by simp [hsz]) ?_ ?_ ⟨I,ρ,st,hk,hg⟩
        · exact (List.Sublist.append_left (List.sublist_cons_self x post) pre).trans hsub
        · intro y hy
          by_cases hyx:y=x
          · subst hyx
            constructor
            · intro h
              have hin:y.i<listed.size:=by rw [hsz]; exact hlt
              simp [hin] at h
            · intro h; exact absurd h hnx
          · have hne:x.i ≠ y.i:=fun e=>hyx (PL y x hy hx e.symm)
            rw [getD_set_ne true hne,hl y hy]
            simp only [List.mem_append,List.mem_cons,hyx,false_or]
        · intro y hy hyl j hj
          by_cases hyx:y=x
          · subst hyx; exact getD_set_true (haft j hj)
          · have hne:x.i ≠ y.i:=fun e=>hyx (PL y x hy hx e.symm)
            rw [getD_set_ne false hne] at hyl
            exact getD_set_true (hdown y hy hyl j hj)
      unfold wpOp
      rw [ho]
      unfold Eb at h1
      simp only
      split
      · rename_i hw
        rw [if_pos hw] at h1
        exact h1.imp (Oper.wp_mono key) id
      · rename_i hw
        rw [if_neg hw] at h1
        exact key _ _ h1
theorem G6 (hm:E.m<=10) (hf:P.follows .mixedOrders=true) {L:List (eX × List Nat)} (hc:EE P n E.m ops L=true) {K:bF->Prop} (hq:∀ a w,AK E n K a w->Q .normal a w)
  {id:Nat} {a:Act} {w:World} (h:AK E n (fun st=>Oa P L 0 [] st K) a w):(Code.region id ops true).wp P Q a w:=by
 refine wp_region_any hf ?_
 have hlen:L.length=ops.size:=by simp only [EE,Bool.and_eq_true,beq_iff_eq] at hc; exact hc.1.1
 have i0:=zx (l:=L) (i:=0)
 have hil:(items L 0).length=L.length:=by
  clear i0 hlen h hc
  generalize 0=i
  induction L generalizing i with
  | nil=>rfl
  | cons x r ih=>obtain ⟨o,qx⟩:=x; simp [items,ih]
 refine I9 hm hc hq ops.size (items L 0) (Array.replicate ops.size false) [] a _ (by omega) (List.Sublist.refl _) (by simp) ?_ ?_ ?_
 ·intro x hx
  have:=i0.1 x hx
  have hlt:x.i<ops.size:=by omega
  simp [hlt,hx]
 ·intro x hx h
  exfalso
  have:=i0.1 x hx
  have hlt:x.i<ops.size:=by omega
  simp [hlt] at h
 ·obtain ⟨I,ρ,st,hT,hg⟩:=h
  exact ⟨I,ρ,st,Eq.mp (NQ (P:=P) (l:=L) (i:=0) (log:=[]) (st:=st) (K:=K)) hT,hg.drew⟩
end
end Go.Ab
end
section
namespace Go.Ab
open Go
def vU (zs:List Nat) (bx:Nat->Box) (π:Nat->Option Nat) (vs:List Nat):AC->AC->Prop
  | _,.ru=>True
  | .c x,.c y=>x=y
  | .fH sz,.c y=>y = .sl sz []
  | .own b n sz,.c y=>b∈zs/\match (bx b).arr with
    | some (sz',es)=>sz'=sz/\n<=es.length/\y = .sl sz (es.take n)
    | none=>False
  | .fH sz,.fH sz'=>sz=sz'
  | .fH sz,.own b n sz'=>b∈vs/\n=0/\sz=sz'
  | .own b n sz,.own b' n' sz'=>π b'=some b/\n=n'/\sz=sz'
  | .sub b lo n _ sz,.own b' n' sz'=>π b'=some b/\lo=0/\n=n'/\sz=sz'
  | .sub b lo n c sz,.sub b' lo' n' c' sz'=>π b'=some b/\lo=lo'/\n=n'/\c=c'/\sz=sz'
  | .ptr b o,.ptr b' o'=>π b'=some b/\o=o'
  | .jY b i sz o,.jY b' i' sz' o'=>π b'=some b/\i=i'/\sz=sz'/\o=o'
  | .oK cs,.oK cs'=>cs=cs'
  | .fn f caps,.fn f' Ic=>f=f'/\Ic.map π=caps.map some
  | .opt T b,.opt T' b'=>T=T'/\π b'=some b
  | .jy b n,.jy b' n'=>π b'=some b/\n=n'
  | _,_=>False
def uK (zs:List Nat) (bx:Nat->Box) (π:Nat->Option Nat) (vs:List Nat):List AC->List AC->Prop
 | [],[]=>True
 | x::xs,y::ys=>vU zs bx π vs x y/\uK zs bx π vs xs ys
 | _,_=>False
def AY (zs:List Nat) (bx:Nat->Box) (π:Nat->Option Nat) (vs:List Nat):List (Bool × List AC)->List (Bool × List AC)->Prop
 | [],[]=>True
 | (g,x)::xs,(g',y)::ys=>g=g'/\uK zs bx π vs x y/\AY zs bx π vs xs ys
 | _,_=>False
def IL (zs:List Nat) (bx:Nat->Box) (π:Nat->Option Nat) (vs:List Nat):AV->AV->Prop
 | .one x,.one y=>vU zs bx π vs x y
 | .agg xs,.agg ys=>uK zs bx π vs xs ys
 | .mG xs,.mG ys=>AY zs bx π vs xs ys
 | _,_=>False
def KD (zs:List Nat) (bx:Nat->Box) (π:Nat->Option Nat) (vs:List Nat) (b:Nat):Box->Prop
  | .absent=>π b=none/\b ∉ vs
  | .dead=>True
  | .var ys=>match π b with
    | some c=>match bx c with
      | .var xs=>uK zs bx π vs xs ys
      | _=>False
    | none=>False
  | .dat sz es=>match π b with
    | some c=>c ∉ zs/\(bx c = .dat sz es\/∃ t,bx c = .dat sz (es++t))
    | none=>b∈vs/\es=[]
  | .mX sz es=>match π b with
    | some c=>bx c = .mX sz es\/(c∈zs/\bx c = .dat sz es)
    | none=>False
  | .row e l=>match π b with
    | some c=>bx c = .row e l
    | none=>False
def Box.wR:Box->Bool
 | .dead=>true
 | _=>false
structure RS (m:Nat) (bx bx':Nat->Box) (zs:List Nat) (π:Nat->Option Nat) (vs:List Nat):Prop where
 box:∀ b,KD zs bx π vs b (bx' b)
 inj:∀ b b' c,(bx' b).wR=false->(bx' b').wR=false->π b=some c->π b'=some c->b=b'
 Tc:∀ b,b∈vs->π b=none
 fix:∀ b,b<m->π b=some b\/(π b=none/\b ∉ vs/\bx b = .absent)
def AZ (zs:List Nat) (bx:Nat->Box) (π:Nat->Option Nat) (vs:List Nat):Slot->Slot->Prop
 | _,.none=>True
 | .v g x,.v g' y=>g=g'/\(g=true->IL zs bx π vs x y)
 | _,_=>False
def tq (m:Nat) (st S:bF):Prop:=∃ zs π vs,RS m st.bx S.bx zs π vs/\∀ t,AZ zs st.bx π vs (st.tm t) (S.tm t)
section
variable {P:Program} {E:Env P} {I:IH} {ρ:Ren} {n:Nat} {st:bF} {a:Act} {w:World}
def lK (ρ:Ren) (π:Nat->Option Nat) (vs:List Nat):Ren:=fun b=>match π b with
 | some c=>ρ c
 | none=>if b∈vs then some (0,0) else none
theorem NG (h:GX E I ρ n st a w) {zs vs:List Nat} {π:Nat->Option Nat} (hvs:∀ b,b∈vs->π b=none) {v:Value} {x y:AC} (hx:GC I ρ v x) (hy:vU zs st.bx π vs x y):GC (lq I ρ w st.bx zs) (lK ρ π vs) v y:=by
  have hle:=nI h.bx zs
  cases y with
  | ru=>exact hx.one
  | c y =>
    cases x with
    | c x=>simp only [vU] at hy; subst hy; exact Rd.mono hle hx
    | fH sz =>
      simp only [vU] at hy; subst hy
      simp only [GC] at hx; subst hx
      exact Rd.sl none 0 0 _ [] (fun _ _=>undef) rfl (Nat.le_refl _) (by simp [maxLen]) (by simp) (by simp) (by intro ad h; cases h) (by simp)
    | own b m sz =>
      simp only [vU] at hy
      obtain ⟨hb,hy⟩:=hy
      split at hy
      · rename_i sz' es harr
        obtain ⟨rfl,hm,rfl⟩:=hy
        exact Du h hb harr hm hx
      · exact hy.elim
    | _=>simp [vU] at hy
  | fH sz =>
    cases x<;>simp only [vU] at hy
    subst hy; exact hx
  | own b' m' sz' =>
    cases x with
    | fH sz =>
      simp only [vU] at hy
      obtain ⟨hb,rfl,rfl⟩:=hy
      simp only [GC] at hx; subst hx
      exact ⟨0,0,none,0,by simp [lK,hvs b' hb,hb],rfl,Nat.le_refl _,Nat.le_refl _,fun h=>absurd rfl h⟩
    | own b m sz =>
      simp only [vU] at hy
      obtain ⟨hb,rfl,rfl⟩:=hy
      obtain ⟨k,cap,ad,c,hr,hrest⟩:=hx
      exact ⟨k,cap,ad,c,by simp only [lK,hb]; exact hr,hrest⟩
    | sub b lo m c0 sz =>
      simp only [vU] at hy
      obtain ⟨hb,rfl,rfl,rfl⟩:=hy
      obtain ⟨k,cap,ad,c,hr,hv,hm,hcc,_,ha⟩:=hx
      refine ⟨k,cap,ad,c,by simp only [lK,hb]; exact hr,hv,hm,by omega,fun hc0 => ?_⟩
      have:=ha (.inr ⟨rfl,hc0⟩)
      rw [Nat.zero_mul] at this
      exact this
    | _=>simp [vU] at hy
  | sub b' lo' m' c' sz' =>
    cases x with
    | sub b lo m c sz =>
      simp only [vU] at hy
      obtain ⟨hb,rfl,rfl,rfl,rfl⟩:=hy
      obtain ⟨k,cap,ad,c1,hr,hrest⟩:=hx
      exact ⟨k,cap,ad,c1,by simp only [lK,hb]; exact hr,hrest⟩
    | _=>simp [vU] at hy
  | ptr b' o' =>
    cases x with
    | ptr b o =>
      simp only [vU] at hy
      obtain ⟨hb,rfl⟩:=hy
      obtain ⟨k,cap,hr,hrest⟩:=hx
      exact ⟨k,cap,by simp only [lK,hb]; exact hr,hrest⟩
    | _=>simp [vU] at hy
  | jY b' i' sz' o' =>
    cases x with
    | jY b i sz o =>
      simp only [vU] at hy
      obtain ⟨hb,rfl,rfl,rfl⟩:=hy
      obtain ⟨k,cap,hr,hrest⟩:=hx
      exact ⟨k,cap,by simp only [lK,hb]; exact hr,hrest⟩
    | _=>simp [vU] at hy
  | opt T' b' =>
    cases x with
    | opt T b =>
      simp only [vU] at hy
      obtain ⟨rfl,hb⟩:=hy
      obtain ⟨k,hr,hrest⟩:=hx
      exact ⟨k,by simp only [lK,hb]; exact hr,hrest⟩
    | _=>simp [vU] at hy
  | jy b' n' =>
    cases x with
    | jy b n =>
      simp only [vU] at hy
      obtain ⟨hb,rfl⟩:=hy
      obtain ⟨k,cap,hr,hrest⟩:=hx
      exact ⟨k,cap,by simp only [lK,hb]; exact hr,hrest⟩
    | _=>simp [vU] at hy
  | oK cs' =>
    cases x with
    | oK cs =>
      simp only [vU] at hy
      subst hy
      obtain ⟨p,hv,hc⟩:=hx
      exact ⟨p,hv,fun j c hj=>let ⟨u,h1,h2⟩:=hc j c hj; ⟨u,IH.Dt hle h1,h2.mono hle⟩⟩
    | _=>simp [vU] at hy
  | fn f' Ic =>
    cases x with
    | fn f caps =>
      simp only [vU] at hy
      obtain ⟨rfl,hcs⟩:=hy
      obtain ⟨ks,hk1,hk2,hk3⟩:=hx
      have hlen:Ic.length=caps.length:=by have:=congrArg List.length hcs; simpa using this
      refine ⟨ks,by rw [hlen]; exact hk1,fun j b k hb hk => ?_,hk3⟩
      have hj:j<caps.length:=by have:=(List.getElem?_eq_some_iff.1 hb).1; omega
      have h1:(Ic.map π)[j]? = (caps.map some)[j]? := by rw [hcs]
      rw [List.getElem?_map,List.getElem?_map,hb,List.getElem?_eq_getElem hj] at h1
      simp only [Option.map_some,Option.some.injEq] at h1
      obtain ⟨cap,hr⟩:=hk2 j _ k (List.getElem?_eq_getElem hj) hk
      exact ⟨cap,by simp only [lK,h1]; exact hr⟩
    | _=>simp [vU] at hy
theorem Ea (h:GX E I ρ n st a w) {zs vs:List Nat} {π:Nat->Option Nat} (hvs:∀ b,b∈vs->π b=none):∀ {us:List Value} {xs ys:List AC},rV I ρ us xs->uK zs st.bx π vs xs ys->rV (lq I ρ w st.bx zs) (lK ρ π vs) us ys
  | us,[],[],hx,_=>⟨hx.1,fun j v x hv hx=>by simp at hx⟩
  | u::us,x::xs,y::ys,hx,hy=>by
    have ih:=Ea h hvs (us:=us) (xs:=xs) (ys:=ys) ⟨by simpa using hx.1,fun j v z hv hz=>hx.2 (j+1) v z (by simpa using hv) (by simpa using hz)⟩ hy.2
    refine ⟨by simp [ih.1],fun j v z hv hz => ?_⟩
    cases j with
    | zero =>
      simp at hv hz
      subst hv; subst hz
      exact NG h hvs (hx.2 0 _ _ rfl rfl) hy.1
    | succ j=>exact ih.2 j v z (by simpa using hv) (by simpa using hz)
  | [],_::_,_,hx,_=>by have:=hx.1; simp at this
  | _,[],_::_,_,hy=>by simp [uK] at hy
  | _,_::_,[],_,hy=>by simp [uK] at hy
theorem Fz {zs vs:List Nat} {bx:Nat->Box} {π:Nat->Option Nat} : ∀ {xs ys:List (Bool × List AC)},AY zs bx π vs xs ys->xs.length=ys.length/\∀ (j:Nat) (y:Bool × List AC),ys[j]? = some y->∃ x:Bool × List AC,xs[j]? = some x/\x.1=y.1/\uK zs bx π vs x.2 y.2
  | [],[],_=>⟨rfl,fun j y hy=>by simp at hy⟩
  | (g,x)::xs,(g',y)::ys,h=>by
    obtain ⟨h1,h2,h3⟩:=h
    obtain ⟨i1,i2⟩:=Fz h3
    refine ⟨by simp [i1],fun j z hz => ?_⟩
    cases j with
    | zero=>simp at hz; subst hz; exact ⟨(g,x),rfl,h1,h2⟩
    | succ j =>
      obtain ⟨q,hq,hr⟩:=i2 j z (by simpa using hz)
      exact ⟨q,by simpa using hq,hr⟩
  | [],_::_,h=>by simp [AY] at h
  | _::_,[],h=>by simp [AY] at h
theorem PS (h:GX E I ρ n st a w) {zs vs:List Nat} {π:Nat->Option Nat} (hvs:∀ b,b∈vs->π b=none) {v:Value} {x y:AV} (hx:GV I ρ v x) (hy:IL zs st.bx π vs x y):GV (lq I ρ w st.bx zs) (lK ρ π vs) v y:=by
  cases x with
  | one x=>cases y with
    | one y=>exact NG h hvs hx hy
    | _=>exact hy.elim
  | agg xs=>cases y with
    | agg ys=>obtain ⟨cs,rfl,hg⟩:=hx; exact ⟨cs,rfl,Ea h hvs hg hy⟩
    | _=>exact hy.elim
  | mG ps=>cases y with
    | mG qs =>
      obtain ⟨us,rfl,hl,hp⟩:=hx
      obtain ⟨i1,i2⟩:=Fz (show AY zs st.bx π vs ps qs from hy)
      refine ⟨us,rfl,by rw [hl,i1],fun j v q hv hq => ?_⟩
      obtain ⟨p,Ub,e,hw⟩:=i2 j q hq
      have h1:=hp j v p hv Ub
      unfold GP at h1 ⊢
      rw [e] at h1
      split at h1
      · rename_i hb; rw [if_pos hb]; obtain ⟨cs,rfl,hg⟩:=h1; exact ⟨cs,rfl,Ea h hvs hg hw⟩
      · rename_i hb
        rw [if_neg hb]
        obtain ⟨x,hx,hg⟩:=h1
        rw [hx] at hw
        cases hq2:q.2 with
        | nil=>rw [hq2] at hw; exact hw.elim
        | cons y t =>
          rw [hq2] at hw
          cases t with
          | nil=>exact ⟨y,rfl,NG h hvs hg hw.1⟩
          | cons z t=>exact hw.2.elim
    | _=>exact hy.elim
theorem BI (h:GX E I ρ n st a w) {m:Nat} (hm:E.m<=m) {bx':Nat->Box} {zs vs:List Nat} {π:Nat->Option Nat} (hw:RS m st.bx bx' zs π vs) :
    GX E (lq I ρ w st.bx zs) (lK ρ π vs) n ⟨fun _ => .none,bx'⟩ a w:=by
  have hF:=h.freeze zs
  generalize hJ:lq I ρ w st.bx zs=J at *
  have hnd:∀ b k,(bx' b).uses (lK ρ π vs b) k->(bx' b).wR=false:=fun b k hu=>by
    cases hx:bx' b with
    | dead=>rw [hx] at hu; exact hu.elim
    | _=>rfl
  have qH:∀ b k,(bx' b).uses (lK ρ π vs b) k->∃ c,π b=some c/\((st.mX zs).bx c).uses (ρ c) k:=by
    intro b k hu
    have hb:=hw.box b
    cases hx:bx' b with
    | var ys =>
      rw [hx] at hu hb
      simp only [KD] at hb
      split at hb
      · rename_i c hc
        refine ⟨c,hc,?_⟩
        split at hb
        · rename_i xs hxs
          rw [kJ,hxs]
          simp only [lK,hc] at hu
          split<;>exact hu
        · exact hb.elim
      · exact hb.elim
    | dat sz es =>
      rw [hx] at hu hb
      simp only [KD] at hb
      split at hb
      · rename_i c hc
        refine ⟨c,hc,?_⟩
        simp only [lK,hc] at hu
        rcases hb.2 with hb2 | ⟨t,hb2⟩
        · rw [kJ,if_neg hb.1,hb2]; exact hu
        · rw [kJ,if_neg hb.1,hb2]; exact hu
      · rename_i hc
        obtain ⟨cap,hu1,hu2⟩:=hu
        simp only [lK,hc,hb.1,if_true,Option.some.injEq,Prod.mk.injEq] at hu1
        exact absurd hu1.2.symm hu2
    | row e l =>
      rw [hx] at hu hb
      simp only [KD] at hb
      split at hb
      · rename_i c hc
        refine ⟨c,hc,?_⟩
        simp only [lK,hc] at hu
        rw [kJ,hb]
        split<;>exact hu
      · exact hb.elim
    | absent=>rw [hx] at hu; exact hu.elim
    | dead=>rw [hx] at hu; exact hu.elim
    | mX sz es=>rw [hx] at hu; exact hu.elim
  refine { agree:=hF.agree,bx:=⟨fun b => ?_,fun b b' k hb hb' => ?_,fun b k hb => ?_⟩,tm:=fun t ht=>trivial,size:=h.size,defers:=h.defers,pV:=h.pV,own:=fun b k hu => ?_,yg:=hF.yg,oz:=hF.oz,jG:=fun b hb => ?_ }
  · have hb:=hw.box b
    show lQ J (lK ρ π vs) w b (bx' b)
    cases hx:bx' b with
    | absent =>
      rw [hx] at hb
      show lK ρ π vs b=none
      simp only [lK,hb.1,hb.2,if_false]
    | dead=>trivial
    | var ys =>
      rw [hx] at hb
      simp only [KD] at hb
      split at hb
      · rename_i c hc
        split at hb
        · rename_i xs hxs
          have hok:=h.bx.ok c
          rw [hxs] at hok
          obtain ⟨k,cap,cs,hr,hwk,hsz,hcs⟩:=hok
          have hg:rV J (lK ρ π vs) cs.toList ys:=by
            subst hJ
            exact Ea h hw.Tc ⟨by simpa using hsz,fun j u x hu hx=>hcs j u x (by simpa using hu) hx⟩ hb
          refine ⟨k,cap,cs,by simp only [lK,hc]; exact hr,hwk,by simpa using hg.1,fun j u x hu hx=>hg.2 j u x (by simpa using hu) hx⟩
        · exact hb.elim
      · exact hb.elim
    | dat sz es =>
      rw [hx] at hb
      simp only [KD] at hb
      split at hb
      · rename_i c hc
        have hok:=hF.bx.ok c
        rcases hb.2 with hb2 | ⟨t,hb2⟩
        · rw [kJ,if_neg hb.1,hb2] at hok
          obtain ⟨k,cap,hr,hrest⟩:=hok
          exact ⟨k,cap,by simp only [lK,hc]; exact hr,hrest⟩
        · rw [kJ,if_neg hb.1,hb2] at hok
          obtain ⟨k,cap,hr,h1,h2,h3,h4⟩:=hok
          refine ⟨k,cap,by simp only [lK,hc]; exact hr,by simp at h1; omega,h2,fun e he=>h3 e (List.mem_append_left _ he),fun h0 => ?_⟩
          obtain ⟨cs,e,g1,g2,g3,g4⟩:=h4 h0
          refine ⟨cs,e,g1,g2,g3,fun i j c' hc'=>g4 i j c' ?_⟩
          have hi:=dS hc'
          rw [<- hc']
          congr 1
          simp only [List.getD]
          rw [List.getElem?_append_left hi]
      · rename_i hc
        obtain ⟨hv,rfl⟩:=hb
        exact ⟨0,0,by simp only [lK,hc,hv,if_true],by simp,by simp [maxLen],by simp,fun h=>absurd rfl h⟩
    | row e l =>
      rw [hx] at hb
      simp only [KD] at hb
      split at hb
      · rename_i c hc
        have hok:=hF.bx.ok c
        rw [kJ,hb] at hok
        have e1:(if c∈zs then oL (.row e l) else .row e l)=Box.row e l:=by split<;>rfl
        rw [e1] at hok
        obtain ⟨k,cap,hr,hrest⟩:=hok
        exact ⟨k,cap,by simp only [lK,hc]; exact hr,hrest⟩
      · exact hb.elim
    | mX sz es =>
      rw [hx] at hb
      simp only [KD] at hb
      split at hb
      · rename_i c hc
        have hok:=hF.bx.ok c
        have e:(st.mX zs).bx c = .mX sz es:=by
          rw [kJ]
          rcases hb with hb | ⟨hz,hb⟩
          · rw [hb]; split<;>rfl
          · rw [hb,if_pos hz]; rfl
        rw [e] at hok
        obtain ⟨k,cap,hr,hrest⟩:=hok
        exact ⟨k,cap,by simp only [lK,hc]; exact hr,hrest⟩
      · exact hb.elim
  · obtain ⟨c,hc,hu⟩:=qH b k hb
    obtain ⟨c',hc',hu'⟩:=qH b' k hb'
    have:=hF.bx.inj c c' k hu hu'
    subst this
    exact hw.inj b b' c (hnd b k hb) (hnd b' k hb') hc hc'
  · obtain ⟨c,hc,hu⟩:=qH b k hb
    exact hF.bx.fresh c k hu
  · obtain ⟨c,hc,hu'⟩:=qH b k hu
    exact hF.own c k hu'
  · rcases hw.fix b (by omega) with hf | ⟨hf,hv,hab⟩
    · simp only [lK,hf]; exact h.jG b hb
    · have:=h.bx.ok b
      rw [hab] at this
      rw [<- h.jG b hb]
      simp only [lK,hf,hv,if_false]
      exact this.symm
theorem Ah (h:GX E I ρ n st a w) {m:Nat} (hm:E.m<=m) {S:bF} (hw:tq m st S):∃ J σ,GX E J σ n S a w:=by
  obtain ⟨zs,π,vs,hs,ht⟩:=hw
  have h1:=BI h hm hs
  refine ⟨_,_,{ h1 with tm:=fun t htn => ?_,bx:=h1.bx,agree:=h1.agree,size:=h1.size,defers:=h1.defers,pV:=h1.pV,own:=h1.own }⟩
  have h2:=ht t
  have h3:=h.tm t htn
  cases hS:S.tm t with
  | none=>trivial
  | v g y =>
    rw [hS] at h2
    cases hst:st.tm t with
    | none=>rw [hst] at h2; exact h2.elim
    | v g' x =>
      rw [hst] at h2 h3
      obtain ⟨rfl,hv⟩:=h2
      exact ⟨fun hg=>PS h hs.Tc (h3.1 hg) (hv hg),h3.2⟩
theorem AK.weak {m:Nat} (hm:E.m<=m) {K:bF->Prop} {X:Type} {J:X->Prop} {S:X->bF} (hk:∀ st,K st->∃ x,J x/\tq m st (S x)) {a:Act} {w:World} (h:AK E n K a w):∃ x,J x/\AK E n (fun st=>st=S x) a w:=by
 obtain ⟨I,ρ,st,hK,hg⟩:=h
 obtain ⟨x,hj,hw⟩:=hk st hK
 obtain ⟨I',ρ',hg'⟩:=Ah hg hm hw
 exact ⟨x,hj,I',ρ',_,rfl,hg'⟩
end
end Go.Ab
end
section
namespace Go.Ab
open Go
inductive bf where
 | skip
 | reg (ops:List eX) (keep:List Nat)
 | jW (ops:List (eX × List Nat)) (keep:List Nat)
 | seq (a b:bf)
 | cut (a b:bf)
 | cond (c:fV) (a b:bf)
 | block (id:Nat) (a:bf)
 | loop (a:bf)
 | exit (id:Nat)
 | ret
 deriving Inhabited
inductive jv where
 | normal
 | exit (id:Nat)
 | ret
abbrev AQ:=jv->bF->Prop
def jv.then (next:bF->Prop) (Q:AQ):AQ
 | .normal,st=>next st
 | .exit id,st=>Q (.exit id) st
 | .ret,st=>Q .ret st
def jv.inBlock (id:Nat) (Q:AQ):AQ
 | .exit id',st=>if id'=id then Q .normal st else Q (.exit id') st
 | .normal,st=>Q .normal st
 | .ret,st=>Q .ret st
def QX (body:AQ->bF->Prop) (Q:AQ) (st:bF):Prop :=
  ∃ (X:Type) (J:X->Prop) (S:X->bF) (μ:X->Nat),(∃ x,J x/\tq 10 st (S x)) /\
    ∀ x,J x->body (jv.then (fun st'=>∃ x',(J x'/\μ x'<μ x)/\tq 10 st' (S x')) Q) (S x)
def RZ (wa:AQ->bF->Prop) (wb:AQ->bF->Prop) (Q:AQ) (st:bF):Prop :=
 ∃ (X:Type) (J:X->Prop) (S:X->bF),wa (jv.then (fun st'=>∃ x,J x/\tq 10 st' (S x)) Q) st/\∀ x,J x->wb Q (S x)
def pK (body:AQ->bF->Prop) (Q:AQ) (st:bF) (_:DU body) (_:DU Q):Prop:=QX body Q st
def uS (wa wb:AQ->bF->Prop) (Q:AQ) (st:bF) (_:DU wa) (_:DU wb) (_:DU Q):Prop:=RZ wa wb Q st
def wpC (P:Program):bf->AQ->bF->Prop
  | .skip,Q,st=>Q .normal st
  | .reg ops keep,Q,st=>wpOps P ops st fun st=>Q .normal (st.keep keep)
  | .jW ops keep,Q,st=>Oa P ops 0 [] st fun st=>Q .normal (st.keep keep)
  | .seq a b,Q,st=>wpC P a (jv.then (wpC P b Q) Q) st
  | .cut a b,Q,st=>uS (wpC P a) (wpC P b) Q st .mk .mk .mk
  | .cond c a b,Q,st=>(c.ev st.tm).g=true/\match (c.ev st.tm).x with
    | .one (.c (.lit (.bool t)))=>(t=true->wpC P a Q st)/\(t=false->wpC P b Q st)
    | _=>False
  | .block id a,Q,st=>wpC P a (jv.inBlock id Q) st
  | .loop a,Q,st=>pK (wpC P a) Q st .mk .mk
  | .exit id,Q,st=>Q (.exit id) st
  | .ret,Q,st=>Q .ret st
def lS (P:Program) (n m:Nat):Code->bf->Bool
 | .skip,.skip=>true
 | .region _ ops false,.reg xs _=>CS P n m ops ops.toList xs
 | .region _ ops true,.jW xs _=>EE P n m ops xs&&P.follows .mixedOrders
 | .seq a b,.seq x y=>lS P n m a x&&lS P n m b y
 | .seq a b,.cut x y=>lS P n m a x&&lS P n m b y
 | .cond c a b,.cond d x y=>dN n c d&&lS P n m a x&&lS P n m b y
 | .block i a,.block j x=>i==j&&lS P n m a x
 | .loop a,.loop x=>lS P n m a x
 | .exit i,.exit j=>i==j
 | .ret,.ret=>true
 | _,_=>false
section
variable {P:Program} {E:Env P} {n:Nat}
def CQ (E:Env P) (n:Nat) (Q:AQ):Exit->Act->World->Prop
 | .normal,a,w=>AK E n (Q .normal) a w
 | .exit id,a,w=>AK E n (Q (.exit id)) a w
 | .ret,a,w=>AK E n (Q .ret) a w
 | _,_,_=>False
theorem BK {Q:AQ} {next:bF->Prop} {nx:Act->World->Prop} (h:∀ a w,AK E n next a w->nx a w) (e:Exit) (a:Act) (w:World) (hq:CQ E n (jv.then next Q) e a w):Exit.then nx (CQ E n Q) e a w:=by
 cases e with
 | normal=>exact h a w hq
 | exit id=>exact hq
 | ret=>exact hq
 | goto l=>exact hq
 | panic c=>exact hq
 | outgrown=>exact hq
theorem FQ {Q:AQ} {id:Nat} (e:Exit) (a:Act) (w:World) (hq:CQ E n (jv.inBlock id Q) e a w):Exit.inBlock id (CQ E n Q) e a w:=by
  cases e with
  | normal=>exact hq
  | exit id' =>
    simp only [Exit.inBlock]
    by_cases h:id'=id
    · rw [if_pos h]; exact AK.imp (fun st (hs:jv.inBlock id Q (.exit id') st)=>by simp only [jv.inBlock,if_pos h] at hs; exact hs) hq
    · rw [if_neg h]; exact AK.imp (fun st (hs:jv.inBlock id Q (.exit id') st)=>by simp only [jv.inBlock,if_neg h] at hs; exact hs) hq
  | ret=>exact hq
  | goto l=>exact hq
  | panic c=>exact hq
  | outgrown=>exact hq
theorem GX.keep {I:IH} {ρ:Ren} {st:bF} {a:Act} {w:World} (h:GX E I ρ n st a w) (ts:List Nat):GX E I ρ n (st.keep ts) a w :=
 have ht:∀ t,t<n->Pq I ρ (a.tmps.getD t undef) ((st.keep ts).tm t):=fun t ht=>by
  simp only [bF.keep]
  split
  ·exact h.tm t ht
  ·trivial
 { h with tm:=ht,bx:=h.bx,agree:=h.agree,size:=h.size,defers:=h.defers,pV:=h.pV,own:=h.own }
theorem A7 {Q:Exit->Act->World->Prop} {a:Act} {w:World} {c:Code} (Inv:Nat->Act->World->Prop) (h0:∃ k,Inv k a w)
    (round:∀ k a w,Inv k a w->c.wp P (Exit.then (fun a' w'=>∃ k',k'<k/\Inv k' a' w') Q) a w):(Code.loop c).wp P Q a w:=by
  have hmin:∀ a w,(∃ k,Inv k a w)->∃ k,Inv k a w/\∀ j,j<k->¬ Inv j a w:=by
    intro a w ⟨k,hk⟩
    induction k using Nat.strongRecOn with
    | _ k ih =>
      by_cases h:∃ j,j<k/\Inv j a w
      · obtain ⟨j,hj,hi⟩:=h; exact ih j hj hi
      · exact ⟨k,hk,fun j hj hi=>h ⟨j,hj,hi⟩⟩
  let μ:Act->World->Nat:=fun a w=>open Classical in if h:∃ k,Inv k a w then (hmin a w h).choose else 0
  have hμ:∀ a w,(∃ k,Inv k a w)->Inv (μ a w) a w/\∀ j,Inv j a w->μ a w<=j:=by
    intro a w h
    have hs:=(hmin a w h).choose_spec
    simp only [μ,dif_pos h]
    exact ⟨hs.1,fun j hj=>Nat.le_of_not_lt fun hlt=>hs.2 j hlt hj⟩
  refine wp_loop (fun a w=>∃ k,Inv k a w) μ h0 fun a w h => ?_
  refine wp_mono (round _ a w (hμ a w h).1) fun e a' w' hq => ?_
  cases e with
  | normal =>
    obtain ⟨k',hlt,hk⟩:=hq
    exact ⟨⟨k',hk⟩,Nat.lt_of_le_of_lt ((hμ a' w' ⟨k',hk⟩).2 k' hk) hlt⟩
  | exit id=>exact hq
  | ret=>exact hq
  | goto l=>exact hq
  | panic c=>exact hq
  | outgrown=>exact hq
theorem kH (hm:E.m<=10):∀ {ac:bf} {c:Code} {Q:AQ} {a:Act} {w:World},lS P n E.m c ac=true->AK E n (wpC P ac Q) a w->c.wp P (CQ E n Q) a w
  | .skip,c,Q,a,w,hc,h=>by
    unfold lS at hc; split at hc<;>first | contradiction | skip
    exact wp_skip h
  | .reg xs keep,c,Q,a,w,hc,h=>by
    unfold lS at hc; split at hc<;>first | contradiction | skip
    rename_i heq; cases heq
    refine wp_region_list (zT hm hc h fun a w hk => ?_)
    obtain ⟨I,ρ,st,hk,hg⟩:=hk
    exact ⟨I,ρ,_,hk,hg.keep keep⟩
  | .jW xs keep,c,Q,a,w,hc,h=>by
    unfold lS at hc; split at hc<;>first | contradiction | skip
    rename_i heq; cases heq
    simp only [Bool.and_eq_true] at hc
    refine G6 hm hc.2 hc.1 (fun a w hk => ?_) h
    obtain ⟨I,ρ,st,hk,hg⟩:=hk
    exact ⟨I,ρ,_,hk,hg.keep keep⟩
  | .seq x y,c,Q,a,w,hc,h=>by
    unfold lS at hc; split at hc<;>first | contradiction | skip
    rename_i heq; cases heq
    simp only [Bool.and_eq_true] at hc
    exact wp_seq (wp_mono (kH hm hc.1 h) (BK fun a w hk=>kH hm hc.2 hk))
  | .cut x y,c,Q,a,w,hc,h=>by
    unfold lS at hc; split at hc<;>first | contradiction | skip
    rename_i heq; cases heq
    simp only [Bool.and_eq_true] at hc
    obtain ⟨I,ρ,st,⟨X,J,S,h1,h2⟩,hg⟩:=h
    refine wp_seq (wp_mono (kH hm hc.1 ⟨I,ρ,st,h1,hg⟩) (BK fun a w hk => ?_))
    obtain ⟨x,hj,I',ρ',st',rfl,hg'⟩:=AK.weak hm (fun st h=>h) hk
    exact kH hm hc.2 ⟨I',ρ',_,h2 x hj,hg'⟩
  | .cond d x y,c,Q,a,w,hc,h=>by
    unfold lS at hc; split at hc<;>first | contradiction | skip
    rename_i heq; cases heq
    simp only [Bool.and_eq_true] at hc
    obtain ⟨I,ρ,st,⟨h1,h2⟩,hg⟩:=h
    have hv:=fJ hg hc.1.1 h1
    unfold aI at hv
    split at h2
    · rename_i t ht
      rw [ht] at hv
      exact wp_cond_split (sH hv) (fun e=>kH hm hc.1.2 ⟨I,ρ,st,h2.1 e,hg⟩) (fun e=>kH hm hc.2 ⟨I,ρ,st,h2.2 e,hg⟩)
    · exact h2.elim
  | .block id x,c,Q,a,w,hc,h=>by
    unfold lS at hc; split at hc<;>first | contradiction | skip
    rename_i heq; cases heq
    simp only [Bool.and_eq_true,beq_iff_eq] at hc
    obtain ⟨rfl,hc⟩:=hc
    exact wp_block (wp_mono (kH hm hc h) FQ)
  | .loop x,c,Q,a,w,hc,h=>by
    unfold lS at hc; split at hc<;>first | contradiction | skip
    rename_i heq; cases heq
    obtain ⟨I,ρ,st,⟨X,J,S,μ,⟨x0,hj0,hw0⟩,hr⟩,hg⟩:=h
    refine A7 (fun k a w=>∃ x,J x/\μ x=k/\AK E n (fun st=>st=S x) a w) ?_ ?_
    · obtain ⟨I',ρ',hg'⟩:=Ah hg hm hw0
      exact ⟨_,x0,hj0,rfl,I',ρ',_,rfl,hg'⟩
    · rintro k a w ⟨x,hj,rfl,I,ρ,st,rfl,hg⟩
      refine wp_mono (kH hm hc ⟨I,ρ,_,hr x hj,hg⟩) (BK fun a w hk => ?_)
      obtain ⟨x',⟨hj',hlt⟩,hk'⟩:=AK.weak (J:=fun x'=>J x'/\μ x'<μ x) hm (fun st h=>h) hk
      exact ⟨_,hlt,x',hj',rfl,hk'⟩
  | .exit id,c,Q,a,w,hc,h=>by
    unfold lS at hc; split at hc<;>first | contradiction | skip
    rename_i heq; cases heq
    simp only [beq_iff_eq] at hc
    subst hc
    exact wp_exit h
  | .ret,c,Q,a,w,hc,h=>by
    unfold lS at hc; split at hc<;>first | contradiction | skip
    exact wp_ret h
end
end Go.Ab
end
section
namespace Go.Ab
open Go
inductive kP where
 | tmp (t:Nat)
 | cell (t:Nat) (agg:Bool) (k:Nat)
 deriving Inhabited
def kP.ok (st:bF):kP->Prop
 | .tmp t=>(st.tm t).g=true
 | .cell t agg k=>(st.tm t).g=true/\(jX agg k (st.tm t).x st.bx).vc
def kP.val (st:bF):kP->AV
 | .tmp t=>(st.tm t).x
 | .cell t agg k=>(jX agg k (st.tm t).x st.bx).v
def nZ (st:bF):List kP->Prop
 | []=>True
 | r::rs=>r.ok st/\(r.val st).flat/\nZ st rs
def partOf:AV->Bool × List AC
 | .one x=>(false,[x])
 | .agg xs=>(true,xs)
 | .mG _=>(false,[])
def kC (st:bF):List kP->List (Bool × List AC)
 | []=>[]
 | r::rs=>partOf (r.val st)::kC st rs
def AA (st:bF):List kP->AV
 | [r]=>r.val st
 | rs => .mG (kC st rs)
def tu (rs:List kP) (m:Nat) (post:AV->List Box->Prop) (st:bF):Prop :=
 nZ st rs/\∃ r bs zs π vs,post r bs/\RS m st.bx (nG bs) zs π vs/\IL zs st.bx π vs (AA st rs) r
def yO (P:Program) (n:Nat):List ResultVar->List kP->Bool
 | [],[]=>true
 | .tmp t::xs,.tmp s::ys=>t==s&&decide (t<n)&&yO P n xs ys
 | .cell a t::xs,.cell s agg k::ys=>a==s&&decide (a<n)&&Af P t agg k&&yO P n xs ys
 | _,_=>false
section
variable {P:Program} {E:Env P} {I:IH} {ρ:Ren} {n:Nat} {st:bF} {a:Act} {w:World}
theorem Jv {agg:Bool} {k:Nat} {p:AV} {pv:Value} {bx:Nat->Box} (hp:GV I ρ pv p) (dn:(jX agg k p bx).vc):∃ q,pv = .pointer (some q):=by
  cases p with
  | one p =>
    cases p with
    | ptr b off=>obtain ⟨k,cap,_,rfl⟩:=hp; exact ⟨_,rfl⟩
    | jY b i sz off=>obtain ⟨k,cap,_,rfl⟩:=hp; exact ⟨_,rfl⟩
    | oK cs=>obtain ⟨q,rfl,_⟩:=hp; exact ⟨_,rfl⟩
    | _=>exact dn.elim
  | _=>exact dn.elim
def Nk (tmps:Array Value) (x:ResultVar):Sem Value:=match x with
 | ResultVar.tmp t=>pure (tmps.getD t undef)
 | ResultVar.cell b t=>do loadVar t (<- asAddr (tmps.getD b undef))
theorem G7 (fn:Func) (tmps:Array Value):results fn tmps=(do
  let vs <- fn.results.mapM (Nk tmps)
  pure (if h:vs.size=1 then vs[0] else .tuple vs)):=by
 unfold results
 congr 1
theorem Fa (h:GX E I ρ n st a w):∀ {xs:List ResultVar} {rs:List kP},yO P n xs rs=true->nZ st rs ->
    ∃ vs:List Value,(xs.mapM (Nk a.tmps)).run P w = .ok vs w/\vs.length=rs.length/\∀ (j:Nat) (v:Value) (r:kP),vs[j]? = some v->rs[j]? = some r->GV I ρ v (r.val st)
  | [],[],_,_=>⟨[],by simp,rfl,fun j v r hv=>by simp at hv⟩
  | x::xs,r::rs,hc,hok=>by
    obtain ⟨h1,h2,h3⟩:=hok
    have key:∃ v,(Nk a.tmps x).run P w = .ok v w/\GV I ρ v (r.val st)/\yO P n xs rs=true:=by
      cases x with
      | tmp t =>
        cases r with
        | tmp s =>
          simp only [yO,Bool.and_eq_true,beq_iff_eq,decide_eq_true_eq] at hc
          obtain ⟨⟨rfl,hlt⟩,hc⟩:=hc
          have ht:=h.tm t hlt
          simp only [kP.ok] at h1
          refine ⟨a.tmps.getD t undef,rfl,?_,hc⟩
          simp only [kP.val]
          cases hs:st.tm t with
          | none=>rw [hs] at h1; cases h1
          | v g x=>rw [hs] at h1 ht; exact ht.1 h1
        | cell s agg k=>simp [yO] at hc
      | cell b t =>
        cases r with
        | tmp s=>simp [yO] at hc
        | cell s agg k =>
          simp only [yO,Bool.and_eq_true,beq_iff_eq,decide_eq_true_eq] at hc
          obtain ⟨⟨⟨rfl,hlt⟩,hty⟩,hc⟩:=hc
          have ht:=h.tm b hlt
          obtain ⟨hg,dn⟩:=h1
          have hv:GV I ρ (a.tmps.getD b undef) (st.tm b).x:=by
            cases hs:st.tm b with
            | none=>rw [hs] at hg; cases hg
            | v g x=>rw [hs] at hg ht; exact ht.1 hg
          obtain ⟨q,hq⟩:=Jv hv dn
          obtain ⟨v,hrun,hgv⟩:=Bv (P:=P) h hty hv dn
          refine ⟨v,?_,hgv,hc⟩
          unfold Nk
          simp only [hq] at hrun ⊢
          simpa [Instr.loadAt,Instr.sureAddr,asAddr] using hrun
    obtain ⟨v,hv,hg,hc'⟩:=key
    obtain ⟨vs,hvs,hl,hgs⟩:=Fa h hc' h3
    refine ⟨v::vs,?_,by simp [hl],fun j u r' hu hr => ?_⟩
    · rw [List.mapM_cons]
      simp [hv,hvs]
    · cases j with
      | zero=>simp at hu hr; subst hu; subst hr; exact hg
      | succ j=>exact hgs j u r' (by simpa using hu) (by simpa using hr)
  | [],_::_,hc,_=>by simp [yO] at hc
  | x::_,[],hc,_=>by cases x<;>simp [yO] at hc
def uG:List AV->Nat->List (Nat × Slot)
 | [],_=>[]
 | x::xs,i=>(i,.v true x)::uG xs (i+1)
def lZ:List Box->Nat->List (Nat × Box)
 | [],_=>[]
 | x::xs,i=>(i,x)::lZ xs (i+1)
theorem xC:∀ {xs:List AV} {i t:Nat},kT (uG xs i) t=if i<=t then (match xs[t-i]? with | some x => .v true x | none => .none) else .none
  | [],i,t=>by simp [uG,kT]
  | x::xs,i,t=>by
    simp only [uG,kT]
    by_cases h:i=t
    · subst h; simp
    · rw [if_neg h,xC (xs:=xs)]
      by_cases h':i<=t
      · have e:t-i=(t-(i+1))+1:=by omega
        rw [if_pos h',if_pos (by omega),e]; simp
      · rw [if_neg h',if_neg (by omega)]
theorem rD:∀ {xs:List Box} {i t:Nat},iw (lZ xs i) t=if i<=t then xs.getD (t-i) .absent else .absent
  | [],i,t=>by simp [lZ,iw]
  | x::xs,i,t=>by
    simp only [lZ,iw]
    by_cases h:i=t
    · subst h; simp
    · rw [if_neg h,rD (xs:=xs)]
      by_cases h':i<=t
      · have e:t-i=(t-(i+1))+1:=by omega
        rw [if_pos h',if_pos (by omega),e]; simp
      · rw [if_neg h',if_neg (by omega)]
def st0 (args:List AV) (fp:List Box):bF:=bF.of (uG args 0) (lZ fp 0)
theorem Ny (args:List AV) (fp:List Box):(st0 args fp).bx=nG fp:=by
 funext b
 unfold st0
 rw [nD,rD]
 simp [nG]
def QF (rs:List kP) (m:Nat) (post:AV->List Box->Prop):AQ
 | .normal,st=>tu rs m post st
 | .ret,st=>tu rs m post st
 | .exit _,_=>False
def fQ (P:Program) (f:FuncId) (k m:Nat) (ac:bf) (rs:List kP):Bool :=
  match P.funcs[f]? with
  | some fn=>match fn.body with
    | some c=>decide (k<=fn.ntmps)&&decide (m<=10)&&lS P fn.ntmps m c ac&&yO P fn.ntmps fn.results.toList rs
    | none=>false
  | none=>false
theorem fD {f:FuncId} {ac:bf} {rs:List kP} {args:List AV} {fp:List Box} {post:AV->List Box->Prop} (hc:fQ P f args.length fp.length ac rs=true)
    (hwp:wpC P ac (QF rs fp.length post) (st0 args fp)):fU P f args fp post:=by
  unfold fQ at hc
  split at hc
  · rename_i fn hf
    split at hc
    · rename_i c hb
      simp only [Bool.and_eq_true,decide_eq_true_eq] at hc
      obtain ⟨⟨⟨hk,hm⟩,hcc⟩,hcr⟩:=hc
      intro I ρ w vs hT hA hB hV
      let E:Env P:=⟨w,I,fun k=>∃ b,(nG fp b).uses (ρ b) k,ρ,fp.length,hT⟩
      refine calls_of_wp hf hb ?_
      have hlen:vs.length=args.length:=hV.1
      have hG:GX E I ρ fn.ntmps (st0 args fp) { tmps:=vs.toArray++Array.replicate (fn.ntmps-vs.toArray.size) undef,defers:=[] } w:=by
        refine { agree:=hA,bx:=by rw [Ny]; exact hB,tm:=fun t ht => ?_,size:=by simp; omega,defers:=rfl,pV:=vY.refl _ _,own:=fun b k hu => ?_,yg:=IH.le_refl _,oz:=fun k _ _=>rfl,jG:=fun b _=>rfl }
        · unfold st0
          rw [qC,xC]
          simp only [Nat.zero_le,if_true,Nat.sub_zero]
          cases hx:args[t]? with
          | none=>trivial
          | some x =>
            have hlt:=(List.getElem?_eq_some_iff.1 hx).1
            have hvt:vs[t]? = some vs[t]:=List.getElem?_eq_getElem (by omega)
            refine ⟨fun _ => ?_,fun e=>by cases e⟩
            have hg:=hV.2 t _ x hvt hx
            have e:((vs.toArray++Array.replicate (fn.ntmps-vs.toArray.size) undef).getD t undef)=vs[t]:=by
              rw [Array.getD_eq_getD_getElem?,Array.getElem?_append_left (by simp; omega)]
              simp [hvt]
            rw [e]
            exact hg
        · right
          rw [Ny] at hu
          exact ⟨b,hu⟩
      refine wp_mono (kH (E:=E) hm hcc ⟨I,ρ,_,hwp,hG⟩) fun e a w' hq => ?_
      have key:AK E fn.ntmps (tu rs fp.length post) a w'->a.defers=[]/\∃ v,(results fn a.tmps).run P w' = .ok v w'/\∃ (v':Value) (J:IH) (σ:Ren) (r:AV) (bs:List Box),Ending.returned v = .returned v'/\post r bs/\GV J σ v' r/\Agree J w'/\BX J σ w' (nG bs) /\
          I.le J/\vY w w' (fun k=>∃ b,(nG fp b).uses (ρ b) k) /\
          (∀ b k,(nG bs b).uses (σ b) k->w.heap.size<=k\/∃ b',(nG fp b').uses (ρ b') k) /\
          (∀ k,k<w.heap.size->(¬ ∃ b,(nG fp b).uses (ρ b) k)->J k=I k) /\
          (∀ b,b<fp.length->σ b=ρ b):=by
        rintro ⟨I',ρ',st,⟨hok,r,bs,zs,π,us,hp,hws,hwv⟩,hg⟩
        obtain ⟨ws,hrun,hl,hgs⟩:=Fa hg hcr hok
        have hv:∃ v,(results fn a.tmps).run P w' = .ok v w'/\GV I' ρ' v (AA st rs):=by
          have hrun':(fn.results.mapM (Nk a.tmps)).run P w' = .ok ws.toArray w':=by
            rw [Array.mapM_eq_mapM_toList]
            simp [hrun]
          rw [G7]
          by_cases h1:∃ r0,rs=[r0]
          · obtain ⟨r0,rfl⟩:=h1
            match ws,hl,hgs,hrun' with
            | [v0],_,hgs,hrun'=>exact ⟨v0,by simp [hrun'],hgs 0 v0 r0 rfl rfl⟩
          · have hne:ws.length ≠ 1:=by
              intro h
              rw [hl] at h
              match rs,h,h1 with
              | [r0],_,h1=>exact h1 ⟨r0,rfl⟩
            have SL:AA st rs = .mG (kC st rs):=by
              match rs,h1 with
              | [],_=>rfl
              | [r0],h1=>exact absurd ⟨r0,rfl⟩ h1
              | _::_::_,_=>rfl
            refine ⟨.tuple ws.toArray,by simp [hrun',hne],?_⟩
            rw [SL]
            have hparts:∀ {rs:List kP},nZ st rs->(kC st rs).length=rs.length/\∀ (j:Nat) (p:Bool × List AC),(kC st rs)[j]? = some p->∃ r,rs[j]? = some r/\p=partOf (r.val st)/\(r.val st).flat:=by
              intro rs
              induction rs with
              | nil=>intro _; exact ⟨rfl,fun j p hp=>by simp [kC] at hp⟩
              | cons r0 rs ih =>
                rintro ⟨_,h2,h3⟩
                obtain ⟨j1,j2⟩:=ih h3
                refine ⟨by simp [kC,j1],fun j p hp => ?_⟩
                cases j with
                | zero=>simp [kC] at hp; exact ⟨r0,rfl,hp.symm,h2⟩
                | succ j=>obtain ⟨r',hr',h'⟩:=j2 j p (by simpa [kC] using hp); exact ⟨r',by simpa using hr',h'⟩
            obtain ⟨p1,p2⟩:=hparts hok
            refine ⟨ws.toArray,rfl,by simp [hl,p1],fun j v p hv hp => ?_⟩
            obtain ⟨r',hr',rfl,hfl⟩:=p2 j p hp
            have hgv:=hgs j v r' (by simpa using hv) hr'
            unfold GP
            cases hval:r'.val st with
            | one x=>rw [hval] at hgv; simp only [partOf]; exact ⟨x,rfl,hgv⟩
            | agg xs=>rw [hval] at hgv; simp only [partOf,if_true]; exact hgv
            | mG q=>rw [hval] at hfl; exact hfl.elim
        obtain ⟨v,SL,hgv⟩:=hv
        have hS:=BI hg (Nat.le_refl _) hws
        refine ⟨hg.defers,v,SL,v,_,_,r,bs,rfl,hp,PS hg hws.Tc hgv hwv,hS.agree,hS.bx,hS.yg,hS.pV,hS.own,hS.oz,hS.jG⟩
      cases e with
      | normal=>exact key hq
      | ret=>exact key hq
      | exit id=>obtain ⟨_,_,_,h,_⟩:=hq; exact h.elim
      | goto l=>exact hq.elim
      | panic ch=>exact hq.elim
      | outgrown=>exact hq.elim
    · cases hc
  · cases hc
end
end Go.Ab
end
section
namespace Go.Ab
open Go
def Aq:List (Nat × Nat)->Nat->Option Nat
 | [],_=>none
 | (b,c)::r,x=>if b=x then some c else Aq r x
def FB (zs:List Nat) (bx:Nat->Box) (π:Nat->Option Nat) (vs:List Nat) (NC:List (Nat × Slot)):List (Nat × Slot)->Prop
 | []=>True
 | (t,s)::r=>AZ zs bx π vs (kT NC t) s/\FB zs bx π vs NC r
def Ai (zs:List Nat) (bx:Nat->Box) (π:Nat->Option Nat) (vs:List Nat):List (Nat × Box)->Prop
 | []=>True
 | (b,x)::r=>KD zs bx π vs b x/\Ai zs bx π vs r
def Box.isAbs:Box->Bool
 | .absent=>true
 | _=>false
def nodupB:List Nat->Bool
 | []=>true
 | x::r => !r.contains x&&nodupB r
def fst' {α:Type} : List (Nat × α)->List Nat
 | []=>[]
 | x::r=>x.1::fst' r
def snd':List (Nat × Nat)->List Nat
 | []=>[]
 | x::r=>x.2::snd' r
def wV (m:Nat) (nM bs:List (Nat × Box)) (pi:List (Nat × Nat)) (vs:List Nat):Bool :=
 nodupB (snd' (pi.filter fun p => !(iw bs p.1).wR))&&nodupB (fst' pi)&&(fst' pi).all (fun b=>(fst' bs).contains b)&&vs.all (fun b=>(fst' bs).contains b && !(fst' pi).contains b) &&
  (List.range m).all fun b=>Aq pi b==some b||(!(fst' pi).contains b && !vs.contains b&&(iw nM b).isAbs)
theorem uz {l:List Nat} : nodupB l=true<->l.Nodup:=by
 induction l with
 | nil=>simp [nodupB]
 | cons x r ih=>simp [nodupB,ih]
theorem vJ:∀ {pi:List (Nat × Nat)} {b c:Nat},Aq pi b=some c->(b,c)∈pi
  | [],_,_,h=>by cases h
  | (x,y)::r,b,c,h=>by
    simp only [Aq] at h
    split at h
    · rename_i e; subst e; cases h; exact List.mem_cons_self ..
    · exact List.mem_cons_of_mem _ (vJ h)
theorem EM {α:Type} : ∀ {l:List (Nat × α)} {b:Nat},b∈fst' l<->∃ x,(b,x)∈l
  | [],b=>by simp [fst']
  | (a,y)::r,b=>by
    simp only [fst',List.mem_cons,EM (l:=r)]
    constructor
    · rintro (h | ⟨x,hx⟩)
      · subst h; exact ⟨y,.inl rfl⟩
      · exact ⟨x,.inr hx⟩
    · rintro ⟨x,h | h⟩
      · cases h; exact .inl rfl
      · exact .inr ⟨x,h⟩
theorem IA:∀ {l:List (Nat × Nat)},snd' l=l.map (·.2)
 | []=>rfl
 | x::r=>by simp [snd',IA (l:=r)]
theorem zI {pi:List (Nat × Nat)} {b:Nat} (h:b ∉ fst' pi):Aq pi b=none:=by
 cases hp:Aq pi b with
 | none=>rfl
 | some c=>exact absurd (EM.2 ⟨c,vJ hp⟩) h
theorem Fv {zs vs:List Nat} {bx:Nat->Box} {π:Nat->Option Nat} : ∀ {bs:List (Nat × Box)},Ai zs bx π vs bs->∀ b x,(b,x)∈bs->KD zs bx π vs b x
  | [],_,_,_,h=>by cases h
  | (c,y)::r,hw,b,x,h=>by
    rcases List.mem_cons.1 h with h | h
    · cases h; exact hw.1
    · exact Fv hw.2 b x h
theorem BH {zs vs:List Nat} {bx:Nat->Box} {π:Nat->Option Nat} {NC:List (Nat × Slot)} : ∀ {ts:List (Nat × Slot)},FB zs bx π vs NC ts->∀ t,AZ zs bx π vs (kT NC t) (kT ts t)
  | [],_,_=>by simp [kT,AZ]
  | (c,y)::r,hw,t=>by
    simp only [kT]
    split
    · rename_i e; subst e; exact hw.1
    · exact BH hw.2 t
theorem Jy {bs:List (Nat × Box)} {b:Nat} : (b,iw bs b)∈bs\/(b ∉ fst' bs/\iw bs b = .absent):=by
  induction bs with
  | nil=>right; simp [fst',iw]
  | cons p r ih =>
    obtain ⟨c,y⟩:=p
    simp only [iw]
    by_cases h:c=b
    · subst h; left; simp
    · rw [if_neg h]
      rcases ih with ih | ⟨h1,h2⟩
      · left; exact List.mem_cons_of_mem _ ih
      · right; refine ⟨?_,h2⟩; simp only [fst',List.mem_cons,not_or]; exact ⟨fun e=>h e.symm,h1⟩
theorem NH {m:Nat} {nM bs:List (Nat × Box)} (zs:List Nat) (pi:List (Nat × Nat)) (vs:List Nat) (hk:wV m nM bs pi vs=true) (hb:Ai zs (iw nM) (Aq pi) vs bs):RS m (iw nM) (iw bs) zs (Aq pi) vs:=by
 simp only [wV,Bool.and_eq_true,List.all_eq_true,Bool.or_eq_true,beq_iff_eq,Bool.not_eq_true',List.mem_range,uz,List.contains_iff_mem] at hk
 obtain ⟨⟨⟨⟨h1,_⟩,h3⟩,h4⟩,h5⟩:=hk
 have LV:∀ {l:List Nat} {x:Nat},l.contains x=false->x ∉ l:=fun h hm=>by
  rw [List.contains_iff_mem.2 hm] at h; cases h
 refine ⟨fun b => ?_,fun b b' c hd1 hd2 hb1 hb2 => ?_,fun b hv=>zI (LV (h4 b hv).2),fun b hlt => ?_⟩
 ·rcases Jy (bs:=bs) (b:=b) with h | ⟨h,e⟩
  ·exact Fv hb b _ h
  ·rw [e]
   exact ⟨zI fun hm=>h (h3 b hm),fun hm=>h (h4 b hm).1⟩
 ·have m1:(b,c)∈pi.filter fun p => !(iw bs p.1).wR:=List.mem_filter.2 ⟨vJ hb1,by simp [hd1]⟩
  have m2:(b',c)∈pi.filter fun p => !(iw bs p.1).wR:=List.mem_filter.2 ⟨vJ hb2,by simp [hd2]⟩
  rw [IA] at h1
  obtain ⟨i,hi,ei⟩:=List.getElem_of_mem m1
  obtain ⟨j,hj,ej⟩:=List.getElem_of_mem m2
  have hpw:=List.pairwise_iff_getElem.1 h1
  rcases Nat.lt_trichotomy i j with h | h | h
  ·have:=hpw i j (by simpa using hi) (by simpa using hj) h
   simp [ei,ej] at this
  ·subst h; rw [ei] at ej; cases ej; rfl
  ·have:=hpw j i (by simpa using hj) (by simpa using hi) h
   simp [ei,ej] at this
 ·rcases h5 b hlt with h | ⟨⟨h,h'⟩,h''⟩
  ·exact .inl h
  ·refine .inr ⟨zI (LV h),LV h',?_⟩
   cases hx:iw nM b with
   | absent=>rfl
   | _=>rw [hx] at h''; cases h''
theorem uA (ts:List (Nat × Slot)) (bs:List (Nat × Box)):(bF.of ts bs).bx=iw bs:=funext fun b=>nD ts bs b
theorem Pm {m:Nat} {NC ts:List (Nat × Slot)} {nM bs:List (Nat × Box)} (zs:List Nat) (pi:List (Nat × Nat)) (vs:List Nat) (hk:wV m nM bs pi vs=true)
  (hb:Ai zs (iw nM) (Aq pi) vs bs) (ht:FB zs (iw nM) (Aq pi) vs NC ts):tq m (bF.of NC nM) (bF.of ts bs):=by
 refine ⟨zs,Aq pi,vs,?_,fun t => ?_⟩
 ·rw [uA,uA]; exact NH zs pi vs hk hb
 ·rw [uA,qC,qC]; exact BH ht t
def dC (bx:Nat->Box):AC->AC->Prop
  | .c x,.c y=>x=y
  | .fH sz,.c y=>y = .sl sz []
  | .own b n sz,.c y=>match (bx b).arr with
    | some (sz',es)=>sz'=sz/\n<=es.length/\y = .sl sz (es.take n)
    | none=>False
  | _,_=>False
def NY (bx:Nat->Box):List AC->List AC->Prop
 | [],[]=>True
 | x::xs,y::ys=>dC bx x y/\NY bx xs ys
 | _,_=>False
def OG (bx:Nat->Box):List (Bool × List AC)->List (Bool × List AC)->Prop
 | [],[]=>True
 | (g,x)::xs,(g',y)::ys=>g=g'/\NY bx x y/\OG bx xs ys
 | _,_=>False
def dV (bx:Nat->Box):AV->AV->Prop
 | .one x,.one y=>dC bx x y
 | .agg xs,.agg ys=>NY bx xs ys
 | .mG xs,.mG ys=>OG bx xs ys
 | _,_=>False
theorem PG {bx:Nat->Box} {zs:List Nat} {x y:AC} (h:dC bx x y) (hz:∀ b,b∈fZ [x]->b∈zs):vU zs bx (fun _=>none) [] x y:=by
 cases x<;>cases y<;>simp only [dC] at h<;>try exact h
 exact ⟨hz _ (by simp [fZ]),h⟩
theorem Gy {bx:Nat->Box} {zs:List Nat} : ∀ {xs ys:List AC},NY bx xs ys->(∀ b,b∈fZ xs->b∈zs)->uK zs bx (fun _=>none) [] xs ys
 | [],[],_,_=>trivial
 | x::xs,y::ys,h,hz=>⟨PG h.1 fun b hb=>hz b (lU.2 (.inl hb)),Gy h.2 fun b hb=>hz b (lU.2 (.inr hb))⟩
 | [],_::_,h,_=>h.elim
 | _::_,[],h,_=>h.elim
theorem Le {bx:Nat->Box} {zs:List Nat} : ∀ {xs ys:List (Bool × List AC)},OG bx xs ys->(∀ b,b∈(AV.mG xs).owns->b∈zs)->AY zs bx (fun _=>none) [] xs ys
  | [],[],_,_=>trivial
  | (g,x)::xs,(g',y)::ys,h,hz =>
    ⟨h.1,Gy h.2.1 fun b hb=>hz b (by simp only [AV.owns,List.flatMap_cons,List.mem_append]; exact .inl hb),Le h.2.2 fun b hb=>hz b (by simp only [AV.owns,List.flatMap_cons,List.mem_append] at hb ⊢; exact .inr hb)⟩
  | [],_::_,h,_=>h.elim
  | _::_,[],h,_=>h.elim
theorem Q4 {bx:Nat->Box} {x y:AV} (h:dV bx x y):IL x.owns bx (fun _=>none) [] x y:=by
 cases x<;>cases y<;>simp only [dV] at h<;>first | exact h.elim | skip
 ·exact PG h fun b hb=>hb
 ·exact Gy h fun b hb=>hb
 ·exact Le h fun b hb=>hb
def xJ (rs:List kP) (r:AV) (st:bF):Prop:=nZ st rs/\dV st.bx (AA st rs) r
def QP (rs:List kP) (r:AV):AQ
 | .normal,st=>xJ rs r st
 | .ret,st=>xJ rs r st
 | .exit _,_=>False
theorem xJ.ret {rs:List kP} {r:AV} {st:bF} (h:xJ rs r st):tu rs 0 (fun r' bs=>r'=r/\bs=[]) st :=
 ⟨h.1,r,[],_,_,[],⟨rfl,rfl⟩,⟨fun b=>by rw [BZ]; exact ⟨rfl,by simp⟩,fun b b' c _ _ h=>by simp at h,fun b _=>rfl,fun b hb=>by omega⟩,Q4 h.2⟩
section
variable {P:Program}
theorem Ak:∀ {l:List eX} {st:bF} {K K':bF->Prop},(∀ st,K st->K' st)->wpOps P l st K->wpOps P l st K'
 | [],st,_,_,hk,h=>hk st h
 | x::r,_,_,_,hk,h=>wz (fun _ _ _ h=>Ak (l:=r) hk h) (show T P x _ (fun _ _ st'=>wpOps P r st' _) from h)
theorem FC:∀ {l:List (eX × List Nat)} {i:Nat} {log:Log} {st:bF} {K K':bF->Prop},(∀ st,K st->K' st)->Oa P l i log st K->Oa P l i log st K'
 | [],_,_,st,_,_,hk,h=>hk st h
 | (o,qx)::r,i,log,_,_,_,hk,h=>wz (fun _ _ _ h=>⟨h.1,FC (l:=r) hk h.2⟩) (show T P o _ (fun rd wr st'=>lD qx rd wr log=true/\Oa P r (i+1) ((i,rd,wr)::log) st' _) from h)
theorem wpC_mono:∀ {c:bf} {Q Q':AQ} {st:bF},(∀ e st,Q e st->Q' e st)->wpC P c Q st->wpC P c Q' st
  | .skip,_,_,st,hq,h=>hq .normal st h
  | .reg ops keep,_,_,st,hq,h=>Ak (fun st h=>hq .normal _ h) h
  | .jW ops keep,_,_,st,hq,h=>FC (fun st h=>hq .normal _ h) h
  | .seq a b,_,_,st,hq,h=>wpC_mono (c:=a) (fun e st h=>by
      cases e with
      | normal=>exact wpC_mono (c:=b) hq h
      | exit id=>exact hq _ _ h
      | ret=>exact hq _ _ h) h
  | .cut a b,_,_,st,hq,⟨X,J,S,h1,h2⟩=>⟨X,J,S,wpC_mono (c:=a) (fun e st h=>by
      cases e with
      | normal=>exact h
      | exit id=>exact hq _ _ h
      | ret=>exact hq _ _ h) h1,fun x hx=>wpC_mono (c:=b) hq (h2 x hx)⟩
  | .cond c a b,_,_,st,hq,⟨h1,h2⟩=>⟨h1,by
      split at h2
      · exact ⟨fun e=>wpC_mono (c:=a) hq (h2.1 e),fun e=>wpC_mono (c:=b) hq (h2.2 e)⟩
      · exact h2.elim⟩
  | .block id a,_,_,st,hq,h=>wpC_mono (c:=a) (fun e st h=>by
      cases e with
      | normal=>exact hq _ _ h
      | exit id' =>
        simp only [jv.inBlock] at h ⊢
        split
        · rename_i e; rw [if_pos e] at h; exact hq _ _ h
        · rename_i e; rw [if_neg e] at h; exact hq _ _ h
      | ret=>exact hq _ _ h) h
  | .loop a,_,_,st,hq,⟨X,J,S,μ,h0,h1⟩=>⟨X,J,S,μ,h0,fun x hx=>wpC_mono (c:=a) (fun e st h=>by
      cases e with
      | normal=>exact h
      | exit id=>exact hq _ _ h
      | ret=>exact hq _ _ h) (h1 x hx)⟩
  | .exit id,_,_,st,hq,h=>hq _ _ h
  | .ret,_,_,st,hq,h=>hq _ _ h
theorem aW {f:FuncId} {ac:bf} {rs:List kP} {args:List AV} {r:AV} (hc:fQ P f args.length 0 ac rs=true) (hwp:wpC P ac (QP rs r) (st0 args [])):dA P f args r:=by
 refine fD (fp:=[]) hc (wpC_mono (fun e st h => ?_) hwp)
 cases e with
 | normal=>exact xJ.ret h
 | ret=>exact xJ.ret h
 | exit id=>exact h.elim
theorem pK.intro {body:AQ->bF->Prop} {Q:AQ} {st:bF} {d1:DU body} {d2:DU Q} {X:Type} (J:X->Prop) (S:X->bF) (μ:X->Nat) (x0:X) (h0:J x0) (hw:tq 10 st (S x0))
  (h:∀ x,J x->body (jv.then (fun st'=>∃ x',(J x'/\μ x'<μ x)/\tq 10 st' (S x')) Q) (S x)):pK body Q st d1 d2 :=
 ⟨X,J,S,μ,⟨x0,h0,hw⟩,h⟩
theorem uS.intro {wa wb:AQ->bF->Prop} {Q:AQ} {st:bF} {d1:DU wa} {d2:DU wb} {d3:DU Q} {X:Type} (J:X->Prop) (S:X->bF)
  (h1:wa (jv.then (fun st'=>∃ x,J x/\tq 10 st' (S x)) Q) st) (h2:∀ x,J x->wb Q (S x)):uS wa wb Q st d1 d2 d3 :=
 ⟨X,J,S,h1,h2⟩
def nC (bx:Nat->Box):AC->AC
  | .fH sz => .c (.sl sz [])
  | .own b n sz=>match (bx b).arr with
    | some (_,es) => .c (.sl sz (es.take n))
    | none => .ru
  | x=>x
def lC (bx:Nat->Box):AV->AV
 | .one x => .one (nC bx x)
 | .agg xs => .agg (xs.map (nC bx))
 | .mG xs => .mG xs
def jL (bx:Nat->Box):List AV->Prop
 | []=>True
 | .mG _::_=>False
 | x::r=>jV bx x.cells/\jL bx r
theorem ry {bx:Nat->Box} : ∀ {xs:List AC},jV bx xs->Pn bx xs (xs.map (nC bx))
  | [],_ => .nil
  | x::r,h=>by
    cases x with
    | own b n sz =>
      obtain ⟨h1,h2⟩:=h
      refine .cons ?_ (ry h2)
      simp only [nC]
      cases hb:(bx b).arr with
      | none=>rw [hb] at h1; exact h1.elim
      | some p=>obtain ⟨sz',es⟩:=p; rw [hb] at h1; obtain ⟨rfl,h1⟩:=h1; exact .own b n sz' es hb h1
    | fH sz=>exact .cons (.fH sz) (ry (xs:=r) h)
    | _=>exact .cons (.refl _) (ry (xs:=r) h)
theorem rC {bx:Nat->Box} : ∀ {xs:List AV},jL bx xs->tN bx xs (xs.map (lC bx))
  | [],_ => .nil
  | x::r,h=>by
    cases x with
    | one x =>
      refine .cons ?_ (rC h.2)
      have:=ry (xs:=[x]) h.1
      cases this with
      | cons h t=>exact .one h
    | agg xs=>exact .cons (.agg (ry h.1)) (rC h.2)
    | mG xs=>exact h.elim
variable {f:FuncId} {iU:List AV} {p:Bool} {d:Option Nat} {st:bF} {K:List Nat->List Nat->bF->Prop} {du:DU K}
theorem iY.lit (r:AV) (h:p=true->dA P f (iU.map (lC st.bx)) r) (hl:p=true->jL st.bx iU) (hd:(iU.map (lC st.bx)).all (·.all AC.jD)=true) (hr:r.all AC.isLit=true)
  (k:K (iU.flatMap AV.owns) [] (st.kz d (.v p r))):iY P f iU p d st K du :=
 uQ.lit _ r (fun e=>rC (hl e)) hd h hr k
theorem iY.pure (r:AV) (hp:p=true) (h:dA P f (iU.map (lC st.bx)) r) (hl:jL st.bx iU) (hd:(iU.map (lC st.bx)).all (·.all AC.jD)=true) (hr:r.all AC.jD=true)
  (k:K (iU.flatMap AV.owns) (iU.flatMap AV.owns) ((st.mX (iU.flatMap AV.owns)).kz d (.v true r))):iY P f iU p d st K du :=
 uQ.pure _ r hp (rC hl) hd h hr k
end
end Go.Ab
end
section
namespace Go.Ab
open Go
def TK (P:Program) (o:eX) (st:bF) (K:List Nat->List Nat->bF->Prop) (_:DU o) (_:DU K):Prop:=T P o st K
def xu (P:Program) (ops:List eX) (st:bF) (K:bF->Prop) (_:DU ops) (_:DU K):Prop:=wpOps P ops st K
def Ky (P:Program) (ops:List (eX × List Nat)) (i:Nat) (log:List (Nat × List Nat × List Nat)) (st:bF) (K:bF->Prop) (_:DU ops) (_:DU K):Prop:=Oa P ops i log st K
def kV (P:Program) (c:bf) (Q:AQ) (st:bF) (_:DU c) (_:DU Q):Prop:=wpC P c Q st
def QK (Q:AQ) (e:jv) (st:bF) (_:DU Q):Prop:=Q e st
def tK (c:bf) (P:Program) (Q:AQ):AQ:=jv.then (wpC P c Q) Q
section
variable {P:Program} {st:bF} {K:List Nat->List Nat->bF->Prop} {k:bF->Prop} {Q:AQ}
theorem Ol {g:Option (Nat × Bool)} {d:Option Nat} {f:FuncId} {args:List fV} {d1:DU (eX.mk g d (.call f args))} {d2:DU K} :
  TK P ⟨g,d,.call f args⟩ st K d1 d2=(lF st.tm g/\(iQ st.tm g=true->∀ x,x∈args->(x.ev st.tm).g=true)/\iY P f (args.map (aI st.tm)) (iQ st.tm g) d st K .mk):=by
 unfold TK T; rfl
def wu (P:Program) (x:AV) (args:List AV) (p:Bool) (d:Option Nat) (st:bF) (K:List Nat->List Nat->bF->Prop) (_:DU K):Prop :=
 match p,x with
 | false,_=>iY P 0 [] false d st K .mk
 | true,.one (.fn f caps)=>mO P f=true/\iY P f (args++caps.map fun b => .one (.ptr b 0)) true d st K .mk
 | true,_=>False
theorem I7 {f:FuncId} {caps:List Nat} {args:List AV} {d:Option Nat} {du:DU K} : wu P (.one (.fn f caps)) args true d st K du=(mO P f=true/\iY P f (args++caps.map fun b => .one (.ptr b 0)) true d st K .mk):=by
 unfold wu; rfl
theorem KL {x:AV} {args:List AV} {d:Option Nat} {du:DU K} : wu P x args false d st K du=iY P 0 [] false d st K .mk:=by
 unfold wu; rfl
theorem KN {g:Option (Nat × Bool)} {d:Option Nat} {x:fV} {args:List fV} {d1:DU (eX.mk g d (.tC x args))} {d2:DU K} :
  TK P ⟨g,d,.tC x args⟩ st K d1 d2=(lF st.tm g/\(iQ st.tm g=true->(x.ev st.tm).g=true/\∀ x,x∈args->(x.ev st.tm).g=true)/\wu P (aI st.tm x) (args.map (aI st.tm)) (iQ st.tm g) d st K .mk):=by
 unfold TK T wu; rfl
theorem Hu {d1:DU ([]:List eX)} {d2:DU k} : xu P [] st k d1 d2=k st:=by unfold xu wpOps; rfl
theorem FD {o:eX} {r:List eX} {d1:DU (o::r)} {d2:DU k} : xu P (o::r) st k d1 d2=TK P o st (fun _ _ st'=>xu P r st' k .mk .mk) .mk .mk:=by
 unfold xu TK; rfl
theorem NP {i:Nat} {log:List (Nat × List Nat × List Nat)} {d1:DU ([]:List (eX × List Nat))} {d2:DU k} : Ky P [] i log st k d1 d2=k st:=by unfold Ky Oa; rfl
theorem Kz {i:Nat} {log:List (Nat × List Nat × List Nat)} {o:eX} {qx:List Nat} {r:List (eX × List Nat)} {d1:DU ((o,qx)::r)} {d2:DU k} :
  Ky P ((o,qx)::r) i log st k d1 d2=TK P o st (fun rd wr st'=>lD qx rd wr log=true/\Ky P r (i+1) ((i,rd,wr)::log) st' k .mk .mk) .mk .mk:=by
 unfold Ky TK; rfl
theorem Kw {d1:DU bf.skip} {d2:DU Q} : kV P .skip Q st d1 d2=QK Q .normal st .mk:=by unfold kV wpC; rfl
theorem NJ {ops:List eX} {keep:List Nat} {d1:DU (bf.reg ops keep)} {d2:DU Q} : kV P (.reg ops keep) Q st d1 d2=xu P ops st (fun st=>QK Q .normal (st.keep keep) .mk) .mk .mk:=by unfold kV wpC; rfl
theorem Kv {ops:List (eX × List Nat)} {keep:List Nat} {d1:DU (bf.jW ops keep)} {d2:DU Q} : kV P (.jW ops keep) Q st d1 d2=Ky P ops 0 [] st (fun st=>QK Q .normal (st.keep keep) .mk) .mk .mk:=by unfold kV wpC; rfl
theorem NL {a b:bf} {d1:DU (bf.seq a b)} {d2:DU Q} : kV P (.seq a b) Q st d1 d2=kV P a (tK b P Q) st .mk .mk:=by unfold kV; rw [wpC]; rfl
theorem NI {a b:bf} {d1:DU (bf.cut a b)} {d2:DU Q} : kV P (.cut a b) Q st d1 d2=uS (wpC P a) (wpC P b) Q st .mk .mk .mk:=by unfold kV; rw [wpC]
theorem Ku {a:bf} {d1:DU (bf.loop a)} {d2:DU Q} : kV P (.loop a) Q st d1 d2=pK (wpC P a) Q st .mk .mk:=by unfold kV; rw [wpC]
theorem Ht {id:Nat} {a:bf} {d1:DU (bf.block id a)} {d2:DU Q} : kV P (.block id a) Q st d1 d2=kV P a (jv.inBlock id Q) st .mk .mk:=by unfold kV; rw [wpC]
theorem Kt {id:Nat} {d1:DU (bf.exit id)} {d2:DU Q} : kV P (.exit id) Q st d1 d2=QK Q (.exit id) st .mk:=by unfold kV wpC; rfl
theorem NK {d1:DU bf.ret} {d2:DU Q} : kV P .ret Q st d1 d2=QK Q .ret st .mk:=by unfold kV wpC; rfl
def Bi (P:Program) (c:AV) (a b:bf) (Q:AQ) (st:bF) (_:DU a) (_:DU b) (_:DU Q):Prop :=
 match c with
 | .one (.c (.lit (.bool t)))=>(t=true->wpC P a Q st)/\(t=false->wpC P b Q st)
 | _=>False
theorem Kr {c:fV} {a b:bf} {d1:DU (bf.cond c a b)} {d2:DU Q} : kV P (.cond c a b) Q st d1 d2=((c.ev st.tm).g=true/\Bi P (c.ev st.tm).x a b Q st .mk .mk .mk):=by
 unfold kV Bi; rw [wpC]<;>rfl
theorem OD {a b:bf} {d1:DU a} {d2:DU b} {d3:DU Q} : Bi P (.one (.c (.lit (.bool true)))) a b Q st d1 d2 d3=kV P a Q st .mk .mk:=by unfold Bi kV; simp
theorem OC {a b:bf} {d1:DU a} {d2:DU b} {d3:DU Q} : Bi P (.one (.c (.lit (.bool false)))) a b Q st d1 d2 d3=kV P b Q st .mk .mk:=by unfold Bi kV; simp
theorem I4 {b:bf} {du:DU (tK b P Q)} : QK (tK b P Q) .normal st du=kV P b Q st .mk .mk:=by unfold QK tK kV; rfl
theorem IZ {b:bf} {id:Nat} {du:DU (tK b P Q)} : QK (tK b P Q) (.exit id) st du=QK Q (.exit id) st .mk:=by unfold QK tK; rfl
theorem I5 {b:bf} {du:DU (tK b P Q)} : QK (tK b P Q) .ret st du=QK Q .ret st .mk:=by unfold QK tK; rfl
theorem IX {k:bF->Prop} {du:DU (jv.then k Q)} : QK (jv.then k Q) .normal st du=k st:=by unfold QK; rfl
theorem IW {k:bF->Prop} {id:Nat} {du:DU (jv.then k Q)} : QK (jv.then k Q) (.exit id) st du=QK Q (.exit id) st .mk:=by unfold QK; rfl
theorem IY {k:bF->Prop} {du:DU (jv.then k Q)} : QK (jv.then k Q) .ret st du=QK Q .ret st .mk:=by unfold QK; rfl
theorem FX {id:Nat} {du:DU (jv.inBlock id Q)} : QK (jv.inBlock id Q) .normal st du=QK Q .normal st .mk:=by unfold QK; rfl
theorem FW {id id':Nat} {du:DU (jv.inBlock id Q)} : QK (jv.inBlock id Q) (.exit id') st du=if id'=id then QK Q .normal st .mk else QK Q (.exit id') st .mk:=by unfold QK; rfl
theorem FY {id:Nat} {du:DU (jv.inBlock id Q)} : QK (jv.inBlock id Q) .ret st du=QK Q .ret st .mk:=by unfold QK; rfl
theorem Oh {rs:List kP} {r:AV} {du:DU (QP rs r)} : QK (QP rs r) .normal st du=xJ rs r st:=by unfold QK; rfl
theorem Oi {rs:List kP} {r:AV} {du:DU (QP rs r)} : QK (QP rs r) .ret st du=xJ rs r st:=by unfold QK; rfl
theorem Oe {rs:List kP} {m:Nat} {post:AV->List Box->Prop} {du:DU (QF rs m post)} : QK (QF rs m post) .normal st du=tu rs m post st:=by unfold QK; rfl
theorem Og {rs:List kP} {m:Nat} {post:AV->List Box->Prop} {du:DU (QF rs m post)} : QK (QF rs m post) .ret st du=tu rs m post st:=by unfold QK; rfl
theorem jB {c:bf} (h:kV P c Q st .mk .mk):wpC P c Q st:=h
theorem Ry {a:bf} {d1:DU (wpC P a)} {d2:DU Q} {X:Type} (J:X->Prop) (S:X->bF) (μ:X->Nat) (x0:X) (h0:J x0) (hw:tq 10 st (S x0))
  (h:∀ x,J x->kV P a (jv.then (fun st'=>∃ x',(J x'/\μ x'<μ x)/\tq 10 st' (S x')) Q) (S x) .mk .mk):pK (wpC P a) Q st d1 d2 :=
 pK.intro J S μ x0 h0 hw h
theorem Sr {a b:bf} {d1:DU (wpC P a)} {d2:DU (wpC P b)} {d3:DU Q} {X:Type} (J:X->Prop) (S:X->bF)
  (h1:kV P a (jv.then (fun st'=>∃ x,J x/\tq 10 st' (S x)) Q) st .mk .mk) (h2:∀ x,J x->kV P b Q (S x) .mk .mk):uS (wpC P a) (wpC P b) Q st d1 d2 d3 :=
 uS.intro J S h1 h2
end
end Go.Ab
end
section
namespace Go.Ab
open Go
inductive Nd where
 | mk (k w:Int) (s:List UInt8) (ws:List (List UInt8)) (ks:List Nd)
abbrev aK:=List UInt8
def S9 (ws:List aK):List (List Cell):=ws.map fun w=>[.str w]
mutual
def Nd.cells:Nd->List Cell
 | .mk k w s ws ks=>[.lit (.int .i64 k),.lit (.int .i64 w),.str s,.sl 1 (S9 ws),.sl 5 (Nd.pR ks)]
def Nd.pR:List Nd->List (List Cell)
 | []=>[]
 | x::r=>x.cells::Nd.pR r
end
theorem Nd.Bf (ks:List Nd):Nd.pR ks=ks.map Nd.cells:=by
 induction ks with
 | nil=>rfl
 | cons x r ih=>simp [Nd.pR,ih]
def D5:List AC->Bool
 | []=>true
 | .c _::r=>D5 r
 | _=>false
def sS:List AV->Bool
 | []=>true
 | .one (.c _)::r=>sS r
 | .agg xs::r=>D5 xs&&sS r
 | _=>false
theorem vO {bx:Nat->Box} : ∀ {xs:List AC},D5 xs=true->xs.map (nC bx)=xs/\jV bx xs/\xs.all AC.jD=true/\fZ xs=[]
  | [],_=>⟨rfl,trivial,rfl,rfl⟩
  | x::r,h=>by
    cases x with
    | c x =>
      obtain ⟨h1,h2,h3,h4⟩:=vO (bx:=bx) (xs:=r) h
      exact ⟨by simp [nC,h1],h2,by simp [AC.jD,h3],by simp [fZ,h4]⟩
    | _=>cases h
theorem nJ {bx:Nat->Box} : ∀ {xs:List AV},sS xs=true->xs.map (lC bx)=xs/\jL bx xs/\xs.all (·.all AC.jD)=true/\xs.flatMap AV.owns=[]
  | [],_=>⟨rfl,trivial,rfl,rfl⟩
  | x::r,h=>by
    cases x with
    | one x =>
      cases x with
      | c x =>
        obtain ⟨h1,h2,h3,h4⟩:=nJ (bx:=bx) (xs:=r) h
        exact ⟨by simp [lC,nC,h1],⟨trivial,h2⟩,by rw [List.all_cons,h3]; rfl,by simp [AV.owns,fZ,h4]⟩
      | _=>cases h
    | agg xs =>
      simp only [sS,Bool.and_eq_true] at h
      obtain ⟨h1,h2,h3,h4⟩:=nJ (bx:=bx) (xs:=r) h.2
      obtain ⟨j1,j2,j3,j4⟩:=vO (bx:=bx) h.1
      refine ⟨by simp only [List.map_cons,lC,j1,h1],⟨j2,h2⟩,?_,by simp only [List.flatMap_cons,AV.owns,j4,h4,List.append_nil]⟩
      rw [List.all_cons,h3,Bool.and_true]
      exact j3
    | mG xs=>cases h
section
variable {P:Program} {f:FuncId} {iU:List AV} {p:Bool} {d:Option Nat} {st:bF} {K:List Nat->List Nat->bF->Prop} {du:DU K}
theorem OJ (st:bF):st.mX []=st:=by
 apply bF.ext'
 ·rfl
 ·funext b; simp [bF.mX]
theorem Pz {r:AV} (h:dA P f iU r) (hs:sS iU=true) (hr:r.all AC.jD=true) (k:K [] [] (st.kz d (.v true r))):iY P f iU true d st K du:=by
 obtain ⟨h1,h2,h3,h4⟩:=nJ (bx:=st.bx) hs
 refine iY.pure r rfl (by rw [h1]; exact h) h2 (by rw [h1]; exact h3) hr ?_
 rw [h4,OJ]
 exact k
theorem KY {r:AV} (h:p=true->dA P f iU r) (hs:sS iU=true) (hr:r.all AC.isLit=true) (k:K [] [] (st.kz d (.v p r))):iY P f iU p d st K du:=by
 obtain ⟨h1,h2,h3,h4⟩:=nJ (bx:=st.bx) hs
 refine iY.lit r (fun e=>by rw [h1]; exact h e) (fun _=>h2) (by rw [h1]; exact h3) hr ?_
 rw [h4]
 exact k
end
theorem Sl (b:Bool):(b==true)=b:=by cases b<;>rfl
theorem Sj (b:Bool):(b==false) = !b:=by cases b<;>rfl
end Go.Ab
end
section
namespace Go.Ab
open Go
def cI (x:Int):List Cell:=[.lit (.int .i64 x)]
def cU (x:Int):List Cell:=[.lit (.int .u8 x)]
def cK (k:IntKind) (x:Int):List Cell:=[.lit (.int k x)]
def cB (x:Bool):List Cell:=[.lit (.bool x)]
def cS (x:aK):List Cell:=[.str x]
def cL {α:Type} (sz:Nat) (f:α->List Cell) (xs:List α):List Cell:=[.sl sz (List.map f xs)]
def chk (c:Prop) [Decidable c] {α:Type} (k:Option α):Option α:=if c then k else none
theorem jZ {c:Prop} [Decidable c] {α:Type} {k:Option α} {r:α} : chk c k=some r<->c/\k=some r:=by
 unfold chk; split<;>simp [*]
theorem oZ {b:Bool} {α:Type} {x y:Option α} {r:α} : cond b x y=some r<->(b=true/\x=some r)\/(b=false/\y=some r):=by
 cases b<;>simp
def uV (xs:List Int):aK:=xs.map fun x=>UInt8.ofNat x.toNat
theorem Gg (xs:List Int):bytesOf (List.map cU xs)=some (uV xs):=by
 induction xs with
 | nil=>rfl
 | cons x r ih=>simp [cU,bytesOf,ih,uV]
theorem Ez:bytesOf []=some []:=rfl
theorem EC (n:Int) (r:List (List Cell)):bytesOf ([.lit (.int .u8 n)]::r)=Option.map (fun l=>UInt8.ofNat n.toNat::l) (bytesOf r):=by
 simp only [bytesOf]; cases bytesOf r<;>rfl
theorem mY (xs:List Int):(uV xs).length=xs.length:=by simp [uV]
theorem Jn {α:Type} [Inhabited α] {f:α->List Cell} {xs:List α} {i:Nat} (h:i<xs.length):(List.map f xs).getD i []=f (xs.getD i default):=by
 simp [h]
theorem take_len {α:Type} {l:List α} {n:Nat} (h:l.length=n):l.take n=l:=by subst h; simp
theorem sV {α:Type} {x:α} {l:List α} {n:Nat} (h:l.length=n):(x::l).take (1+n)=x::l:=by subst h; rw [Nat.add_comm]; simp
theorem sW {α:Type} {x y:α} {l:List α} {n:Nat} (h:l.length=n):(x::y::l).take (2+n)=x::y::l:=by subst h; rw [Nat.add_comm]; simp
def zf (l:List Nat):List (Nat × Box)->List (Nat × Box)
 | []=>[]
 | (b,x)::r=>(b,if l.contains b then oL x else x)::zf l r
theorem Jm (l:List Nat) (bs:List (Nat × Box)) (b:Nat):iw (zf l bs) b=if b∈l then oL (iw bs b) else iw bs b:=by
  induction bs with
  | nil=>simp [zf,iw,oL]
  | cons p r ih =>
    obtain ⟨c,x⟩:=p
    simp only [zf,iw,ih]
    by_cases h:c=b
    · subst h; simp
    · simp [h]
theorem Iq (ts:List (Nat × Slot)) (bs:List (Nat × Box)) (l:List Nat):(bF.of ts bs).mX l=bF.of ts (zf l bs):=by
 apply bF.ext'
 ·rfl
 ·funext b
  simp only [bF.mX]
  rw [nD,nD,Jm]
theorem LD (bs:List (Nat × Box)):zf [] bs=bs:=by
 induction bs with
 | nil=>rfl
 | cons p r ih=>obtain ⟨c,x⟩:=p; simp [zf,ih]
def QL (g:Bool) (o:fO) (d:Option Nat) (st:bF) (K:List Nat->List Nat->bF->Prop) (_:DU o) (_:DU K):Prop:=QW o g d st K
def PW (valid:Prop) (rd:List Nat) (r:FR) (d:Option Nat) (st:bF) (K:List Nat->List Nat->bF->Prop) (_:DU K):Prop :=
 valid/\r.vc/\K rd (r.sets.map (·.1)) ((st.iD r.sets).kz d (.v true r.v))
section
variable {P:Program} {st:bF} {K:List Nat->List Nat->bF->Prop}
theorem PV {g:Option (Nat × Bool)} {d:Option Nat} {op:fO} {d1:DU (eX.mk g d (.op op))} {d2:DU K} :
  TK P ⟨g,d,.op op⟩ st K d1 d2=(lF st.tm g/\QL (iQ st.tm g) op d st K .mk .mk):=by
 unfold TK T QL; rfl
theorem QV {op:fO} {d:Option Nat} {d1:DU op} {d2:DU K} : QL true op d st K d1 d2=PW (op.valid (fV.ev st.tm)) (op.rd (aI st.tm)) (op.f (aI st.tm) st.bx) d st K .mk:=by
 unfold QL QW PW; simp
theorem QU {op:fO} {d:Option Nat} {d1:DU op} {d2:DU K} : QL false op d st K d1 d2=K [] [] (st.kz d (.v false (.one .ru))):=by
 unfold QL QW; simp
theorem PX {valid:Prop} {rd:List Nat} {vc:Prop} {v:AV} {sets:List (Nat × Box)} {d:Option Nat} {du:DU K} :
  PW valid rd ⟨vc,v,sets⟩ d st K du=(valid/\vc/\K rd (sets.map (·.1)) ((st.iD sets).kz d (.v true v))):=rfl
end
section
variable {P:Program} {f:FuncId} {iU:List AV} {d:Option Nat} {st:bF} {K:List Nat->List Nat->bF->Prop} {du:DU K}
theorem Pv {F6:List AV} {r:AV} (h:dA P f F6 r) (he:iU.map (lC st.bx)=F6) (hl:jL st.bx iU) (hd:F6.all (·.all AC.jD)=true) (hr:r.all AC.jD=true)
  (k:K (iU.flatMap AV.owns) (iU.flatMap AV.owns) ((st.mX (iU.flatMap AV.owns)).kz d (.v true r))):iY P f iU true d st K du:=by
 subst he
 exact iY.pure r rfl h hl hd hr k
theorem Px {F6:List AV} {r:AV} (h:dA P f F6 r) (he:iU.map (lC st.bx)=F6) (hl:jL st.bx iU) (hd:F6.all (·.all AC.jD)=true) (hr:r.all AC.isLit=true)
  (k:K (iU.flatMap AV.owns) [] (st.kz d (.v true r))):iY P f iU true d st K du:=by
 subst he
 exact iY.lit r (fun _=>h) (fun _=>hl) hd hr k
theorem Py (k:K (iU.flatMap AV.owns) [] (st.kz d (.v false (.one (.c (.lit (.bool true))))))):iY P f iU false d st K du :=
 uQ.lit [] (.one (.c (.lit (.bool true)))) (fun e=>by cases e) rfl (fun e=>by cases e) rfl k
def AP (st:bF) (sg:List Nat):List Box->Nat->Prop
 | [],_=>True
 | x::r,i=>st.bx (sg.getD i 0)=lJ (fun b=>sg.getD b 0) x/\AP st sg r (i+1)
theorem DY {st:bF} {sg:List Nat} : ∀ {fp:List Box} {i0 i:Nat},AP st sg fp i0->i<fp.length->st.bx (sg.getD (i0+i) 0)=lJ (fun b=>sg.getD b 0) (fp.getD i .absent)
  | [],_,_,_,h=>by simp at h
  | x::r,i0,0,h,_=>by simpa using h.1
  | x::r,i0,i+1,h,hi=>by
    have:=DY (i:=i) h.2 (by simpa using hi)
    simpa [Nat.add_assoc,Nat.add_comm 1 i] using this
def Aw (st:bF):List Nat->Prop
 | []=>True
 | b::r=>st.bx b = .absent/\10<=b/\Aw st r
theorem DD {st:bF} : ∀ {nu:List Nat},Aw st nu->∀ b,b∈nu->st.bx b = .absent/\10<=b
  | [],_,_,h=>by cases h
  | c::r,h,b,hb=>by
    rcases List.mem_cons.1 hb with e | e
    · subst e; exact ⟨h.1,h.2.1⟩
    · exact DD h.2.2 b e
theorem QZ {ds:List AV} {fp nM:List Box} {r0:AV} (sg nu:List Nat) (h:fU P f ds fp (fun r bs=>r=r0/\bs=nM)) (hl:sg.length=fp.length) (hn:nodupB (sg++nu)=true) (hf:AP st (sg++nu) fp 0) (hv:Aw st nu)
  (hra:(ds.all fun x=>x.all (AC.iZ fp.length))=true) (hrf:fp.all (Box.iZ fp.length)=true) (ha:iU=ds.map (lV fun b=>(sg++nu).getD b 0)) (hb:nM.length=(sg++nu).length)
  (k:K (sg++nu) (sg++nu) ((st.iD ((sg++nu).zip (nM.map (lJ fun b=>(sg++nu).getD b 0)))).kz d (.v true (lV (fun b=>(sg++nu).getD b 0) r0)))):iY P f iU true d st K du:=by
 refine uQ.gen rfl ds fp sg nu _ hl (uz.1 hn) (fun i hi => ?_) ⟨r0,nM,rfl,rfl⟩ (DD hv) hra hrf ha h (fun r bs hp => ?_)
 ·have:=DY (i:=i) hf hi
  rw [Nat.zero_add] at this
  exact this
 ·obtain ⟨rfl,rfl⟩:=hp
  exact ⟨hb,k⟩
end
section
variable {P:Program} {f:FuncId} {iU:List AV} {d:Option Nat} {st:bF} {K:List Nat->List Nat->bF->Prop} {du:DU K}
theorem Q3 {ds:List AV} {fp nM:List Box} {r0:AV} (sg nu:List Nat) (h:fU P f ds fp (fun r bs=>r=r0/\bs=nM)) (he:iU.map (lC st.bx)=ds.map (lV fun b=>(sg++nu).getD b 0)) (hlo:jL st.bx iU)
  (hl:sg.length=fp.length) (hn:nodupB (sg++nu)=true) (hf:AP (st.mX (iU.flatMap AV.owns)) (sg++nu) fp 0) (hv:Aw st nu)
  (hra:(ds.all fun x=>x.all (AC.iZ fp.length))=true) (hrf:fp.all (Box.iZ fp.length)=true) (hb:nM.length=(sg++nu).length)
  (k:K (iU.flatMap AV.owns++(sg++nu)) (iU.flatMap AV.owns++(sg++nu)) (((st.mX (iU.flatMap AV.owns)).iD ((sg++nu).zip (nM.map (lJ fun b=>(sg++nu).getD b 0)))).kz d (.v true (lV (fun b=>(sg++nu).getD b 0) r0)))):iY P f iU true d st K du:=by
 refine uQ.xP rfl _ (rC hlo) ds fp sg nu _ hl (uz.1 hn) (fun i hi => ?_) ⟨r0,nM,rfl,rfl⟩ (DD hv) hra hrf he h (fun r bs hp => ?_)
 ·have:=DY (i:=i) hf hi
  rw [Nat.zero_add] at this
  exact this
 ·obtain ⟨rfl,rfl⟩:=hp
  exact ⟨hb,k⟩
end
theorem MC (qx:List Nat) (log:List (Nat × List Nat × List Nat)):lD qx [] [] log=true:=by
 induction log with
 | nil=>rfl
 | cons e r ih=>obtain ⟨j,a,b⟩:=e; simp [lD,uk,ih]
theorem MB (qx rd wr:List Nat):lD qx rd wr []=true:=rfl
theorem PZ (bs:List Box):nG bs=iw (lZ bs 0):=by
 funext b
 rw [rD]
 simp [nG]
theorem QA {rs:List kP} {ts:List (Nat × Slot)} {nM:List (Nat × Box)} {m:Nat} {r:AV} {bs:List Box} (zs:List Nat) (pi:List (Nat × Nat)) (vs:List Nat) (hk:wV m nM (lZ bs 0) pi vs=true)
  (hok:nZ (bF.of ts nM) rs) (hb:Ai zs (iw nM) (Aq pi) vs (lZ bs 0)) (hv:IL zs (iw nM) (Aq pi) vs (AA (bF.of ts nM) rs) r) :
  tu rs m (fun r1 b1=>r1=r/\b1=bs) (bF.of ts nM):=by
 refine ⟨hok,r,bs,zs,Aq pi,vs,⟨rfl,rfl⟩,?_,?_⟩
 ·rw [uA,PZ]; exact NH zs pi vs hk hb
 ·rw [uA]; exact hv
end Go.Ab
end
section
namespace Go.Ab
open Go
theorem Ec {x:Int} (h0:0<=x) (h1:x<9223372036854775808):IntKind.wrap .i64 x=x:=by
 simp only [IntKind.wrap,IntKind.bits,IntKind.signed]
 simp
 omega
theorem Q7 {α:Type} (f:α->List Cell) (k:Nat) (hf:∀ t,(f t).length<=k) {l:List α} {i j:Nat} {v:List Cell} (hv:v.length<=k):List.drop k (((List.map f l).set i v).getD j [])=[]:=by
 have key:∀ (m:List (List Cell)),(∀ y,y∈m->y.length<=k)->List.drop k (m.getD j [])=[]:=by
  intro m hm
  apply List.drop_of_length_le
  by_cases hj:j<m.length
  ·rw [show m.getD j []=m[j] by simp [List.getD,hj]]; exact hm _ (List.getElem_mem hj)
  ·rw [show m.getD j []=[] by simp [List.getD,List.getElem?_eq_none (Nat.le_of_not_lt hj)]]; simp
 apply key
 intro y hy
 rcases List.mem_or_eq_of_mem_set hy with h | h
 ·obtain ⟨t,_,rfl⟩:=List.mem_map.1 h; exact hf t
 ·rw [h]; exact hv
theorem P9 {l:List aK} {i j:Nat} {x:Cell} : List.drop 1 (((List.map cS l).set i [x]).getD j [])=[]:=Q7 cS 1 (fun t=>by simp [cS]) (by simp)
end Go.Ab
end
section
namespace Go.Ab
open Go
def lI (e:TypeId) (v:Value) (l:List UInt8) (w:World):Prop :=
 (v = .slice none 0 0/\l=[])\/∃ g cap cs,v = .slice (some ⟨g,0,none⟩) l.length cap/\cap ≠ 0/\l.length<=cap/\cap<=maxLen/\w.heap[g]? = some (.cells cs e (0,0))/\cs.size=cap /\
  (∀ (j:Nat) (u:Value),cs[j]? = some u->u.oneCell'=true)/\∀ (j:Nat) (x:UInt8),l[j]? = some x->cs[j]? = some (.int .u8 x.toNat)
def yx (w w':World) (v v':Value):Prop:=w.grownBy w' v.ownBlock/\(v'.ownBlock=v.ownBlock\/∃ g,v'.ownBlock=some g/\w.heap.size<=g)
section
variable {P:Program} {w:World}
theorem BR (l:List UInt8) (j:Nat):(Lib.byteCells l)[j]? = (l[j]?).map fun x=>Value.int .u8 x.toNat:=by simp [Lib.byteCells]
theorem F7 (l:List UInt8):∀ u∈Lib.byteCells l,u.oneCell'=true:=fun u hu=>by
 simp [Lib.byteCells] at hu
 obtain ⟨a,_,rfl⟩:=hu
 rfl
theorem Fb {e:TypeId} (l:List UInt8) (h0:l ≠ []) (cap:Nat) (hc:l.length<=cap) (hm:cap<=maxLen) (w0:World) (z:Array Value) (hz:z=(Lib.byteCells l).toArray++Builtin.zeroCells (Value.int .u8 0).cells (cap-l.length)) :
  lI e (.slice (some ⟨w0.heap.size,0,none⟩) l.length cap) l (w0.alloc (.cells z e)):=by
 have hl:0<l.length:=List.length_pos_iff.2 h0
 have hzs:(Builtin.zeroCells (Value.int .u8 0).cells (cap-l.length)).size=cap-l.length:=by
  rw [size_zeroCells]; exact Nat.mul_one _
 refine .inr ⟨w0.heap.size,cap,z,rfl,by omega,hc,hm,heap_alloc_new w0 _,?_,fun j u hu => ?_,fun j x hx => ?_⟩
 ·rw [hz,Array.size_append,hzs,List.size_toArray,Lib.byteCells_length]; omega
 ·rw [hz] at hu
  rcases Array.getElem?_eq_some_iff.1 hu with ⟨hj,hu⟩
  have hm:u∈(Lib.byteCells l).toArray++Builtin.zeroCells (Value.int .u8 0).cells (cap-l.length):=hu ▸ Array.getElem_mem hj
  rcases Array.mem_append.1 hm with hm | hm
  ·exact F7 l u (by simpa using hm)
  ·simp [Builtin.zeroCells,Value.cells] at hm
   obtain ⟨i,_,h⟩:=hm
   rw [Nat.mod_one] at h
   rw [<- h]
   rfl
 ·have hj:=(List.getElem?_eq_some_iff.1 hx).1
  rw [hz,Array.getElem?_append_left (by simpa [Lib.byteCells_length] using hj)]
  simpa [hx] using BR l j
theorem Fe {e:TypeId} {g cap:Nat} {cs:Array Value} {l s:List UInt8} (hg:w.heap[g]? = some (.cells cs e (0,0))) (hs:cs.size=cap) (hc0:cap ≠ 0) (hm:cap<=maxLen) (h1:∀ (j:Nat) (u:Value),cs[j]? = some u->u.oneCell'=true)
  (hb:∀ (j:Nat) (x:UInt8),l[j]? = some x->cs[j]? = some (.int .u8 x.toNat)) (hr:l.length+s.length<=cap) :
  lI e (.slice (some ⟨g,0,none⟩) (l++s).length cap) (l++s) (w.setRow g (cs.toList.take l.length++Lib.byteCells s++cs.toList.drop (l.length+s.length)).toArray):=by
 have hlen:(cs.toList.take l.length).length=l.length:=by simp; omega
 refine .inr ⟨g,cap,_,rfl,hc0,by simpa using hr,hm,setRow_heap w g cs _ e _ hg,?_,fun j u hu => ?_,fun j x hx => ?_⟩
 ·simp [Lib.byteCells_length]; omega
 ·have hm':=List.mem_of_getElem? (show (cs.toList.take l.length++Lib.byteCells s++cs.toList.drop (l.length+s.length))[j]? = some u by simpa using hu)
  rcases List.mem_append.1 hm' with hm' | hm'
  ·rcases List.mem_append.1 hm' with hm' | hm'
   ·obtain ⟨i,hi⟩:=List.mem_iff_getElem?.1 (List.mem_of_mem_take hm')
    exact h1 i u (by simpa using hi)
   ·exact F7 s u hm'
  ·obtain ⟨i,hi⟩:=List.mem_iff_getElem?.1 (List.mem_of_mem_drop hm')
   exact h1 i u (by simpa using hi)
 ·have hj:=(List.getElem?_eq_some_iff.1 hx).1
  show (cs.toList.take l.length++Lib.byteCells s++cs.toList.drop (l.length+s.length)).toArray[j]? = _
  rw [List.getElem?_toArray,List.append_assoc]
  by_cases hjl:j<l.length
  ·rw [List.getElem?_append_left hjl] at hx
   rw [List.getElem?_append_left (by omega),List.getElem?_take,if_pos hjl]
   simpa using hb j x hx
  ·rw [List.getElem?_append_right (by omega)] at hx
   rw [List.getElem?_append_right (by omega),hlen,List.getElem?_append_left (by rw [Lib.byteCells_length]; exact (List.getElem?_eq_some_iff.1 hx).1),BR,hx]
   rfl
theorem mD (g n c:Nat):Value.ownBlock (.slice (some ⟨g,0,none⟩) n c)=some g:=rfl
theorem KQ {t u ty e:TypeId} {i:TypeInfo} (ht:P.underlying t=some (.slice e)) (hu:P.underlying u=some .string) (hi:P.info? e=some i) (hz:i.zero=some (.int .u8 0)) (hs1:i.size=1) (hby:i.bytes=1)
  {v:Value} {l:List UInt8} (hv:lI e v l w) (s:List UInt8) (hl:l.length+s.length<=140737488355328) :
  ∃ v' w',(Builtin.append_ #[t,u] ty #[v,.string ⟨⟨s⟩⟩]).run P w = .ok v' w'/\lI e v' (l++s) w'/\yx w w' v v':=by
 have hmax:(140737488355328:Nat)<=maxLen:=by unfold maxLen; omega
 have hss:(ByteArray.mk ⟨s⟩).size=s.length:=rfl
 have hsc:Lib.strCells (ByteArray.mk ⟨s⟩)=Lib.byteCells s:=Lib.strCells_eq _
 have fresh:∀ (old:Nat) (v:Value),old<l.length+s.length ->
   lI e (.slice (some ⟨w.heap.size,0,none⟩) (l++s).length (grownCap w (l.length+s.length) old e)) (l++s)
    (w.drew.alloc (.cells ((Lib.byteCells l).toArray++(Lib.byteCells s).toArray++Builtin.zeroCells (Value.int .u8 0).cells (grownCap w (l.length+s.length) old e-(l.length+s.length))) e)) /\
   yx w (w.drew.alloc (.cells ((Lib.byteCells l).toArray++(Lib.byteCells s).toArray++Builtin.zeroCells (Value.int .u8 0).cells (grownCap w (l.length+s.length) old e-(l.length+s.length))) e)) v
    (.slice (some ⟨w.heap.size,0,none⟩) (l++s).length (grownCap w (l.length+s.length) old e)):=by
  intro old v ho
  refine ⟨Fb (l++s) (fun h => ?_) _ ?_ (grownCap_le_maxLen _ _ _ _ (by omega)) w.drew _ ?_,⟨rfl,rfl,rfl,by simp,fun k hk _=>Lib.alloc_old w.drew _ k hk⟩,.inr ⟨w.heap.size,rfl,Nat.le_refl _⟩⟩
  ·have:=congrArg List.length h; rw [List.length_append,List.length_nil] at this; omega
  ·simpa using grownCap_ge w (l.length+s.length) old e
  ·rw [Lib.byteCells_append]; simp
 rcases hv with ⟨rfl,rfl⟩ | ⟨g,cap,cs,rfl,hc0,hle,hcm,hg,hcs,h1,hb⟩
 ·by_cases h0:s=[]
  ·subst h0
   refine ⟨.slice none 0 0,w,?_,.inl ⟨rfl,rfl⟩,⟨rfl,rfl,rfl,Nat.le_refl _,fun _ _ _=>rfl⟩,.inl rfl⟩
   have hf:=Lib.run_firstCells_string (P:=P) w 1 ⟨⟨[]⟩⟩
   have e0:(ByteArray.mk ⟨[]⟩).size=0:=rfl
   rw [e0] at hf
   simp [Builtin.append_,run_underlying ht,run_underlying hu,sizeOf,typeInfo,hi,hs1,Builtin.lenOf,e0,hf]
  ·have hp:0<s.length:=List.length_pos_iff.2 h0
   have hr:=run_append_nil_string (P:=P) w t u ty e i (.int .u8 0) ht hu hi hz ⟨⟨s⟩⟩ (by rw [hss]; omega) (by rw [hss]; simp at hl; omega) (by rw [hby,hss]; simp at hl; omega)
   have hf:=fresh 0 (.slice none 0 0) (by simpa using hp)
   simp only [List.nil_append,List.length_nil,Nat.zero_add,Array.append_assoc] at hf
   have e1:((ByteArray.mk ⟨s⟩).data.map fun b=>Value.int .u8 b.toNat)=(Lib.byteCells s).toArray:=by apply Array.ext'; simp [Lib.byteCells]
   rw [e1,hss] at hr
   have e2:(Lib.byteCells ([]:List UInt8)).toArray = #[]:=rfl
   rw [e2,Array.empty_append] at hf
   exact ⟨_,_,hr,hf.1,hf.2⟩
 ·by_cases hroom:l.length+s.length<=cap
  ·have hr:=Lib.run_append_room_string (P:=P) w t u ty e i ht hu hi hs1 g l.length cap cs hg ⟨⟨s⟩⟩ (by rw [hss]; exact hroom) (by rw [hss]; omega)
   rw [hss,hsc] at hr
   have hR:=Fe hg hcs hc0 hcm h1 hb hroom
   rw [List.length_append] at hR
   exact ⟨_,_,hr,hR,⟨rfl,rfl,rfl,by simp,fun k _ hk=>setRow_other w g k _ (fun e=>hk (by simp [Value.ownBlock,e]))⟩,.inl rfl⟩
  ·have hr:=Lib.run_append_grow_string (P:=P) w t u ty e i (.int .u8 0) ht hu hi hz ⟨g,0,none⟩ l.length cap (Lib.byteCells l) (by rw [hs1,Lib.byteCells_length,Nat.mul_one]) (fun j x hx=>by
     rw [BR] at hx
     cases hlj:l[j]? with
     | none=>rw [hlj] at hx; cases hx
     | some y=>rw [hlj] at hx; simp at hx; subst hx; rw [Addr.jU]; simp [World.cell?,hg,hb j y hlj]) ⟨⟨s⟩⟩ (by rw [hss]; omega) (by rw [hss]; omega) (by rw [hby,hss]; exact growslice_fits (by omega) (by omega))
   rw [hss,hsc] at hr
   have hf:=fresh cap (.slice (some ⟨g,0,none⟩) l.length cap) (by omega)
   rw [List.length_append] at hf
   exact ⟨_,_,hr,hf.1,hf.2⟩
theorem Ox {t ty e:TypeId} {i:TypeInfo} (ht:P.underlying t=some (.slice e)) (hi:P.info? e=some i) (hz:i.zero=some (.int .u8 0)) (hs1:i.size=1) (hby:i.bytes=1)
  {v:Value} {l:List UInt8} (hv:lI e v l w) (s:List UInt8) (h0:s ≠ []) (ad:Addr) (c:Nat) (hnews:∀ j v,(Lib.byteCells s)[j]? = some v->w.cell? (ad.add j)=some v) (hl:l.length+s.length<=140737488355328) :
  ∃ v' w',(Builtin.append_ #[t,t] ty #[v,.slice (some ad) s.length c]).run P w = .ok v' w'/\lI e v' (l++s) w'/\yx w w' v v':=by
 have hmax:(140737488355328:Nat)<=maxLen:=by unfold maxLen; omega
 have hp:0<s.length:=List.length_pos_iff.2 h0
 have fresh:∀ (old:Nat) (v:Value),old<l.length+s.length ->
   lI e (.slice (some ⟨w.heap.size,0,none⟩) (l++s).length (grownCap w (l.length+s.length) old e)) (l++s)
    (w.drew.alloc (.cells ((Lib.byteCells l).toArray++(Lib.byteCells s).toArray++Builtin.zeroCells (Value.int .u8 0).cells (grownCap w (l.length+s.length) old e-(l.length+s.length))) e)) /\
   yx w (w.drew.alloc (.cells ((Lib.byteCells l).toArray++(Lib.byteCells s).toArray++Builtin.zeroCells (Value.int .u8 0).cells (grownCap w (l.length+s.length) old e-(l.length+s.length))) e)) v
    (.slice (some ⟨w.heap.size,0,none⟩) (l++s).length (grownCap w (l.length+s.length) old e)):=by
  intro old v ho
  refine ⟨Fb (l++s) (fun h => ?_) _ ?_ (grownCap_le_maxLen _ _ _ _ (by omega)) w.drew _ ?_,⟨rfl,rfl,rfl,by simp,fun k hk _=>Lib.alloc_old w.drew _ k hk⟩,.inr ⟨w.heap.size,rfl,Nat.le_refl _⟩⟩
  ·have:=congrArg List.length h; rw [List.length_append,List.length_nil] at this; omega
  ·simpa using grownCap_ge w (l.length+s.length) old e
  ·rw [Lib.byteCells_append]; simp
 have hn:(Lib.byteCells s).length=s.length*i.size:=by rw [hs1,Lib.byteCells_length,Nat.mul_one]
 rcases hv with ⟨rfl,rfl⟩ | ⟨g,cap,cs,rfl,hc0,hle,hcm,hg,hcs,h1,hb⟩
 ·have hr:=run_append_nil (P:=P) w t ty e i (.int .u8 0) ht hi hz ad s.length c (Lib.byteCells s) hn hnews hp (by simp at hl; omega) (by rw [hby]; simp at hl; omega)
  have hf:=fresh 0 (.slice none 0 0) (by simpa using hp)
  simp only [List.nil_append,List.length_nil,Nat.zero_add,Array.append_assoc] at hf
  have e2:(Lib.byteCells ([]:List UInt8)).toArray = #[]:=rfl
  rw [e2,Array.empty_append] at hf
  exact ⟨_,_,hr,hf.1,hf.2⟩
 ·by_cases hroom:l.length+s.length<=cap
  ·have hr:=run_append_room' (P:=P) (w:=w) (ty:=ty) t e e i ht hi g l.length cap cs hg ad s.length c (Lib.byteCells s) hn hnews (F7 s) hroom (by rw [hs1,Lib.byteCells_length]; omega)
   rw [hs1,Lib.byteCells_length,Nat.mul_one] at hr
   have hR:=Fe hg hcs hc0 hcm h1 hb hroom
   rw [List.length_append] at hR
   exact ⟨_,_,hr,hR,⟨rfl,rfl,rfl,by simp,fun k _ hk=>setRow_other w g k _ (fun e=>hk (by simp [Value.ownBlock,e]))⟩,.inl rfl⟩
  ·have hr:=run_append_grow (P:=P) w t ty e i (.int .u8 0) ht hi hz ⟨g,0,none⟩ l.length cap (Lib.byteCells l) (by rw [hs1,Lib.byteCells_length,Nat.mul_one]) (fun j x hx=>by
     rw [BR] at hx
     cases hlj:l[j]? with
     | none=>rw [hlj] at hx; cases hx
     | some y=>rw [hlj] at hx; simp at hx; subst hx; rw [Addr.jU]; simp [World.cell?,hg,hb j y hlj]) ad s.length c (Lib.byteCells s) hn hnews (by omega) (by omega) (by rw [hby]; exact growslice_fits (by omega) (by omega))
   have hf:=fresh cap (.slice (some ⟨g,0,none⟩) l.length cap) (by omega)
   rw [List.length_append] at hf
   exact ⟨_,_,hr,hf.1,hf.2⟩
end
end Go.Ab
end
section
set_option linter.unusedVariables false
namespace Go.Ab
open Go Go.Shelf Go.RowKit Go.Proofs
section
variable {P:Program} {w:World}
theorem lI.alloc {e:TypeId} {v:Value} {l:List UInt8} (h:lI e v l w) (o:Obj):lI e v l (w.alloc o):=by
 rcases h with h | ⟨g,cap,cs,h1,h2,h3,h4,h5,h6⟩
 ·exact .inl h
 ·exact .inr ⟨g,cap,cs,h1,h2,h3,h4,(Lib.alloc_old w o g (nH h5)).trans h5,h6⟩
theorem lI.same {e:TypeId} {v:Value} {l:List UInt8} {w':World} (h:lI e v l w) (hk:∀ g,v.ownBlock=some g->w'.heap[g]? = w.heap[g]?):lI e v l w':=by
 rcases h with h | ⟨g,cap,cs,h1,h2,h3,h4,h5,h6⟩
 ·exact .inl h
 ·exact .inr ⟨g,cap,cs,h1,h2,h3,h4,(hk g (by rw [h1]; rfl)).trans h5,h6⟩
theorem lI.GY {e:TypeId} {v:Value} {l:List UInt8} (h:lI e v l w) {g:Nat} (hg:v.ownBlock=some g):g<w.heap.size/\∃ cs,w.heap[g]? = some (.cells cs e (0,0)):=by
 rcases h with ⟨rfl,_⟩ | ⟨g',cap,cs,rfl,h2,h3,h4,h5,h6⟩
 ·cases hg
 ·simp only [mD,Option.some.injEq] at hg
  subst hg
  exact ⟨nH h5,cs,h5⟩
theorem lI.ne {e T:TypeId} {v:Value} {l:List UInt8} {k:Nat} {cs:Array Value} (h:lI e v l w) (hk:w.heap[k]? = some (.cells cs T (0,0))) (hT:T ≠ e):v.ownBlock ≠ some k:=fun he=>by
 obtain ⟨_,c,hc⟩:=h.GY he
 rw [hk] at hc
 simp only [Option.some.injEq,Obj.cells.injEq] at hc
 exact hT hc.2.1
theorem xY {ops:Array Oper} {rest:List Oper} {o:Oper} {a:Act} {Q:Exit->Act->World->Prop} (hgd:o.guard=none) (sl x:Operand) (t u:TypeId)
  (ho:o.op = .call { callee := .builtin .append,args := #[sl,x],argTypes := #[t,u] })
  (e:TypeId) (i:TypeInfo) (ht:P.underlying t=some (.slice e)) (hu:P.underlying u=some .string) (hi:P.info? e=some i) (hz:i.zero=some (.int .u8 0)) (hsize:i.size=1) (hby:i.bytes=1)
  (v:Value) (l:List UInt8) (hs:a.eval sl=v) (hv:lI e v l w) (s:List UInt8) (hx:a.eval x = .string ⟨⟨s⟩⟩) (hl:l.length+s.length<=140737488355328)
  (h:∀ v' w',lI e v' (l++s) w'->yx w w' v v'->wpList P ops Q rest (a.put o.dst v') w'):wpList P ops Q (o::rest) a w:=by
 refine wpList_plain hgd fun K hK => ?_
 obtain ⟨v',w',hr,h2,h3⟩:=KQ (P:=P) (ty:=o.type) ht hu hi hz hsize hby hv s hl
 unfold Oper.wp execOp
 simp only [ho,resolve,invoke,builtin,Sem.run_bind,Sem.run_pure,Result.andThen_ok,List.map_toArray,List.map_cons,List.map_nil,hs,hx,hr]
 exact hK _ _ (h v' w' h2 h3)
theorem Aj {ops:Array Oper} {rest:List Oper} {o:Oper} {a:Act} {Q:Exit->Act->World->Prop} (hgd:o.guard=none) (sl x:Operand) (t:TypeId)
  (ho:o.op = .call { callee := .builtin .append,args := #[sl,x],argTypes := #[t,t] })
  (e:TypeId) (i:TypeInfo) (ht:P.underlying t=some (.slice e)) (hi:P.info? e=some i) (hz:i.zero=some (.int .u8 0)) (hsize:i.size=1) (hby:i.bytes=1)
  (v:Value) (l:List UInt8) (hs:a.eval sl=v) (hv:lI e v l w) (s:List UInt8) (h0:s ≠ []) (ad:Addr) (c:Nat) (hx:a.eval x = .slice (some ad) s.length c) (hnews:∀ j v,(Lib.byteCells s)[j]? = some v->w.cell? (ad.add j)=some v)
  (hl:l.length+s.length<=140737488355328)
  (h:∀ v' w',lI e v' (l++s) w'->yx w w' v v'->wpList P ops Q rest (a.put o.dst v') w'):wpList P ops Q (o::rest) a w:=by
 refine wpList_plain hgd fun K hK => ?_
 obtain ⟨v',w',hr,h2,h3⟩:=Ox (P:=P) (ty:=o.type) ht hi hz hsize hby hv s h0 ad c hnews hl
 unfold Oper.wp execOp
 simp only [ho,resolve,invoke,builtin,Sem.run_bind,Sem.run_pure,Result.andThen_ok,List.map_toArray,List.map_cons,List.map_nil,hs,hx,hr]
 exact hK _ _ (h v' w' h2 h3)
end
variable {P:Program} {ρ:Go.Shelf.Ren}
def Oc (k:Nat) (p:Value):Prop:=p = .pointer none\/p = .pointer (some ⟨k,0,none⟩)
structure Hid (p:Prop):Prop where
 h:p
theorem Be (L:Lays.n240 P ρ) (X:Builder.X72 P ρ) (k:Nat) (p v:Value) (w:World) (hk:w.heap[k]? = some (.cells #[p,v] (ρ.t 72) (0,0))) (hp:Oc k p) :
  Calls P (ρ.f 240) #[.pointer (some ⟨k,0,none⟩)] w fun e w'=>e = .returned (.tuple #[])/\w'.heap[k]? = some (.cells #[.pointer (some ⟨k,0,none⟩),v] (ρ.t 72) (0,0))/\Hid (w'.heap.size=w.heap.size)/\vY w w' (fun k'=>k'=k):=by
 rcases hp with rfl | rfl
 ·refine (Any.Builder_copyCheck_fresh L X k w (by rw [Lib.cell_of_heap hk]; rfl) (by simp [World.shape?,hk]) (Lib.frozen_of_heap hk 0)).mono ?_
  rintro e w' ⟨rfl,rfl⟩
  refine ⟨rfl,?_,⟨by simp [World.setCell]⟩,⟨rfl,rfl,rfl,by simp [World.setCell],fun k' _ hk'=>Below.heap_setCell _ _ _ _ (fun e=>hk' (by simp [e]))⟩⟩
  simp [World.setCell,Array.getElem?_modify,hk]
 ·refine (Any.Builder_copyCheck_used L X k w (by rw [Lib.cell_of_heap hk]; rfl)).mono ?_
  rintro e w' ⟨rfl,rfl⟩
  exact ⟨rfl,hk,⟨rfl⟩,vY.refl _ _⟩
def Wrote (T e:TypeId) (k:Nat) (v:Value) (l:List UInt8) (w w':World):Prop :=
 ∃ v',w'.heap[k]? = some (.cells #[.pointer (some ⟨k,0,none⟩),v'] T (0,0))/\lI e v' l w'/\(v'.ownBlock=v.ownBlock\/∃ g,v'.ownBlock=some g/\w.heap.size<=g)/\vY w w' (fun k'=>k'=k\/some k'=v.ownBlock)
theorem FI {T e:TypeId} {k:Nat} {v v':Value} {l:List UInt8} {w w1 w1' w2:World} (hT:T ≠ e) (hv:lI e v l w) (hlt:k<w.heap.size) (h1:w1.heap[k]? = some (.cells #[.pointer (some ⟨k,0,none⟩),v] T (0,0))) (hs:w1.heap.size=w.heap.size) (hF:vY w w1 (fun k'=>k'=k))
  (ha:w1'=w1\/∃ o,w1'=w1.alloc o) {l':List UInt8} (hr:lI e v' l' w2) (hg:yx w1' w2 v v') (hne:v.ownBlock ≠ some k) :
  w2.heap[k]? = some (.cells #[.pointer (some ⟨k,0,none⟩),v] T (0,0))/\Wrote T e k v l' w (w2.setCell ⟨k,1,none⟩ v'):=by
 have hsz:w.heap.size<=w1'.heap.size:=by
  rcases ha with rfl | ⟨o,rfl⟩
  ·omega
  ·simp; omega
 have hk1:∀ k',k'<w.heap.size->w1'.heap[k']? = w1.heap[k']? := fun k' hk'=>by
  rcases ha with rfl | ⟨o,rfl⟩
  ·rfl
  ·exact Lib.alloc_old w1 o k' (by omega)
 have hk2:w2.heap[k]? = some (.cells #[.pointer (some ⟨k,0,none⟩),v] T (0,0)):=by
  rw [hg.1.block k (by omega) (fun e=>hne e.symm),hk1 k hlt]; exact h1
 have hne2:v'.ownBlock ≠ some k:=hr.ne hk2 hT
 refine ⟨hk2,v',?_,?_,?_,?_⟩
 ·simp [World.setCell,Array.getElem?_modify,hk2]
 ·exact hr.same fun g hg'=>Below.heap_setCell _ _ _ _ (fun e=>hne2 (by rw [hg']; simp at e; rw [e]))
 ·rcases hg.2 with h | ⟨g,h,hb⟩
  ·exact .inl h
  ·exact .inr ⟨g,h,by omega⟩
 ·have ha':vY w1 w1' (fun _=>False):=by
   rcases ha with rfl | ⟨o,rfl⟩
   ·exact vY.refl _ _
   ·exact ⟨rfl,rfl,rfl,by simp,fun k' h _=>Lib.alloc_old w1 o k' h⟩
  have h01:=hF.trans ha' (fun _ _ h=>h.elim)
  exact ⟨hg.1.os.trans h01.os,hg.1.tape.trans h01.tape,hg.1.output.trans h01.output,by have:=hg.1.size; simp [World.setCell]; omega,fun k' hlt' hm=>by
   rw [Below.heap_setCell _ _ _ _ (fun e=>hm (.inl (by simpa using e))),hg.1.block k' (by omega) (fun e=>hm (.inr e))]
   exact h01.block k' hlt' (fun e=>hm (.inl e))⟩
set_option maxHeartbeats 2000000 in
set_option maxRecDepth 100000 in
theorem xN (L:Lays.n166 P ρ) (X:Builder.Extra P ρ) (k:Nat) (p v:Value) (l s:List UInt8) (w:World) (hk:w.heap[k]? = some (.cells #[p,v] (ρ.t 72) (0,0))) (hp:Oc k p) (hv:lI (ρ.t 5) v l w)
  (hlen:l.length+s.length<=140737488355328) :
  Calls P (ρ.f 166) #[.pointer (some ⟨k,0,none⟩),.string ⟨⟨s⟩⟩] w fun e w'=>e = .returned (.tuple #[.int .i64 s.length,.nilIface])/\Wrote (ρ.t 72) (ρ.t 5) k v (l++s) w w':=by
 obtain ⟨i0,hi,hz0,hz1,hz2⟩:=info_parts X.infoByte
 have hlt:=nH hk
 have hne:=hv.ne hk X.neB5
 have mixed:=L.mixed
 have t72:=L.t72; have a72:=L.a72; have z72:=L.z72; have v72:=L.v72; have u72:=run_underlying L.t72
 have t70:=L.t70; have a70:=L.a70; have z70:=L.z70; have v70:=L.v70; have u70:=run_underlying L.t70
 have t37:=L.t37; have a37:=L.a37; have z37:=L.z37; have v37:=L.v37; have u37:=run_underlying L.t37
 have t3:=L.t3; have a3:=L.a3; have z3:=L.z3; have v3:=L.v3; have u3:=run_underlying L.t3
 have t9:=L.t9; have a9:=L.a9; have z9:=L.z9; have v9:=L.v9; have u9:=run_underlying L.t9
 have t4:=L.t4; have a4:=L.a4; have z4:=L.z4; have v4:=L.v4; have u4:=run_underlying L.t4
 have t164:=L.t164; have a164:=L.a164; have z164:=L.z164; have v164:=L.v164; have u164:=run_underlying L.t164
 have t5:=X.t5; have a5:=X.a5; have z5:=X.z5; have v5:=X.v5; have u5:=run_underlying X.t5
 have e240:∀ args w,(callFunc (ρ.f 240) args).run P w = .ok (.enter (ρ.f 240) args) w:=enters_of L.f240 (by kernel_rfl) rfl
 go_enter L.f166,Body.n166_ntmps ρ
 go_wp2_with (go_at_fn (ρ.f 240); refine (Be { L with } X.toX72 k p v _ hk hp).mono ?_)
 rintro e w1 ⟨rfl,hk1,hs1,hF1⟩
 have hv1:lI (ρ.t 5) v l w1:=hv.same fun g hg=>hF1.block g (hv.GY hg).1 (fun e=>hne (by rw [hg,e]))
 have c0:w1.cell? ⟨k,0,none⟩=some (.pointer (some ⟨k,0,none⟩)):=by rw [Lib.cell_of_heap hk1]; rfl
 have c1:w1.cell? ⟨k,1,none⟩=some v:=by rw [Lib.cell_of_heap hk1]; rfl
 go_wp2_with (at_builtin; refine xY rfl _ _ (ρ.t 37) (ρ.t 9) rfl (ρ.t 5) i0 L.t37 L.t9 hi hz0 hz1 hz2 _ _ rfl hv1 s rfl hlen ?_)
 intro v' w2 hr hg
 obtain ⟨hb2,hW⟩:=FI X.neB5 hv hlt hk1 hs1.h hF1 (.inl rfl) hr hg hne
 have d0:w2.cell? ⟨k,0,none⟩=some (.pointer (some ⟨k,0,none⟩)):=by rw [Lib.cell_of_heap hb2]; rfl
 have d1:w2.cell? ⟨k,1,none⟩=some v:=by rw [Lib.cell_of_heap hb2]; rfl
 have f1:w2.frozen? ⟨k,1,none⟩=false:=Lib.frozen_of_heap hb2 1
 obtain ⟨ao,n',cap,rfl⟩:∃ ao n' cap,v' = .slice ao n' cap:=by
  rcases hr with ⟨hv,_⟩ | ⟨g,cap,cs,hv,_⟩
  ·exact ⟨_,_,_,hv⟩
  ·exact ⟨_,_,_,hv⟩
 go_wp2
 go_ret2
 exact ⟨rfl,hW⟩
theorem KX (c:Int) (hc:0<=c/\c<256):Value.int .u8 (UInt8.ofNat c.toNat).toNat = .int .u8 c:=by
 have:((UInt8.ofNat c.toNat).toNat:Int)=c:=by simp [UInt8.toNat_ofNat']; omega
 rw [this]
set_option maxHeartbeats 2000000 in
set_option maxRecDepth 100000 in
theorem Ar (L:Lays.n167 P ρ) (X:Builder.Extra P ρ) (k:Nat) (p v:Value) (l:List UInt8) (c:Int) (w:World) (hk:w.heap[k]? = some (.cells #[p,v] (ρ.t 72) (0,0))) (hp:Oc k p) (hv:lI (ρ.t 5) v l w)
  (hc:0<=c/\c<256) (hlen:l.length+1<=140737488355328) :
  Calls P (ρ.f 167) #[.pointer (some ⟨k,0,none⟩),.int .u8 c] w fun e w'=>e = .returned .nilIface/\Wrote (ρ.t 72) (ρ.t 5) k v (l++[UInt8.ofNat c.toNat]) w w':=by
 obtain ⟨i0,hi,hz0,hz1,hz2⟩:=info_parts X.infoByte
 have hlt:=nH hk
 have hne:=hv.ne hk X.neB5
 have hbc:Lib.byteCells [UInt8.ofNat c.toNat]=[Value.int .u8 c]:=by simp only [Lib.byteCells,List.map_cons,List.map_nil,KX c hc]
 have hnews:∀ w1:World,∀ j u,(Lib.byteCells [UInt8.ofNat c.toNat])[j]? = some u->(w1.alloc (.cells #[.int .u8 c] (ρ.t 5))).cell? ((⟨w1.heap.size,0,none⟩:Addr).add j)=some u:=by
  intro w1 j u hj
  rw [hbc] at hj
  match j,hj with
  | 0,hj=>simp at hj; subst hj; simp [Addr.add]
 have mixed:=L.mixed
 have t72:=L.t72; have a72:=L.a72; have z72:=L.z72; have v72:=L.v72; have u72:=run_underlying L.t72
 have t70:=L.t70; have a70:=L.a70; have z70:=L.z70; have v70:=L.v70; have u70:=run_underlying L.t70
 have t5:=L.t5; have a5:=L.a5; have z5:=L.z5; have v5:=L.v5; have u5:=run_underlying L.t5
 have t37:=L.t37; have a37:=L.a37; have z37:=L.z37; have v37:=L.v37; have u37:=run_underlying L.t37
 have t9:=L.t9; have a9:=L.a9; have z9:=L.z9; have v9:=L.v9; have u9:=run_underlying L.t9
 have t4:=L.t4; have a4:=L.a4; have z4:=L.z4; have v4:=L.v4; have u4:=run_underlying L.t4
 have t164:=L.t164; have a164:=L.a164; have z164:=L.z164; have v164:=L.v164; have u164:=run_underlying L.t164
 have e240:∀ args w,(callFunc (ρ.f 240) args).run P w = .ok (.enter (ρ.f 240) args) w:=enters_of L.f240 (by kernel_rfl) rfl
 go_enter L.f167,Body.n167_ntmps ρ
 go_wp2_with (go_at_fn (ρ.f 240); refine (Be { L with } X.toX72 k p v _ hk hp).mono ?_)
 rintro e w1 ⟨rfl,hk1,hs1,hF1⟩
 have hv1:lI (ρ.t 5) v l w1:=hv.same fun g hg=>hF1.block g (hv.GY hg).1 (fun e=>hne (by rw [hg,e]))
 have c0:w1.cell? ⟨k,0,none⟩=some (.pointer (some ⟨k,0,none⟩)):=by rw [Lib.cell_of_heap hk1]; rfl
 have c1:w1.cell? ⟨k,1,none⟩=some v:=by rw [Lib.cell_of_heap hk1]; rfl
 go_wp2_with (at_builtin; refine Aj rfl _ _ (ρ.t 37) rfl (ρ.t 5) i0 L.t37 hi hz0 hz1 hz2 _ _ rfl (hv1.alloc _) [UInt8.ofNat c.toNat] (List.cons_ne_nil _ _) ⟨w1.heap.size,0,none⟩ 1 rfl (hnews w1) hlen ?_)
 intro v' w2 hr hg
 obtain ⟨hb2,hW⟩:=FI X.neB5 hv hlt hk1 hs1.h hF1 (.inr ⟨_,rfl⟩) hr hg hne
 have d0:w2.cell? ⟨k,0,none⟩=some (.pointer (some ⟨k,0,none⟩)):=by rw [Lib.cell_of_heap hb2]; rfl
 have d1:w2.cell? ⟨k,1,none⟩=some v:=by rw [Lib.cell_of_heap hb2]; rfl
 have f1:w2.frozen? ⟨k,1,none⟩=false:=Lib.frozen_of_heap hb2 1
 obtain ⟨ao,n',cap,rfl⟩:∃ ao n' cap,v' = .slice ao n' cap:=by
  rcases hr with ⟨hv,_⟩ | ⟨g,cap,cs,hv,_⟩
  ·exact ⟨_,_,_,hv⟩
  ·exact ⟨_,_,_,hv⟩
 go_wp2
 go_ret
 exact ⟨rfl,hW⟩
theorem GI (w:World) (g n:Nat):vY w (w.drew.freeze ⟨g,0,none⟩ n) (fun k'=>k'=g):=by
 unfold World.freeze
 split
 ·exact ⟨rfl,rfl,rfl,Nat.le_refl _,fun _ _ _=>rfl⟩
 ·exact ⟨rfl,rfl,rfl,by simp only [Array.size_modify]; exact Nat.le_refl _,fun k hk hm=>by
   simp only [Array.getElem?_modify]
   rw [if_neg (fun e=>hm e.symm)]
   rfl⟩
theorem sG {w w':World} (h:Below w.heap.size w w') (M:Nat->Prop):vY w w' M:=⟨h.os,h.tape,h.output,h.size,fun k hk _=>h.block k hk⟩
set_option maxHeartbeats 2000000 in
set_option maxRecDepth 100000 in
theorem F9 (L:Lays.n169 P ρ) (X:Builder.Extra P ρ) (k:Nat) (p v:Value) (l:List UInt8) (w:World) (hk:w.heap[k]? = some (.cells #[p,v] (ρ.t 72) (0,0))) (hv:lI (ρ.t 5) v l w) :
  Calls P (ρ.f 169) #[.pointer (some ⟨k,0,none⟩)] w fun e w'=>e = .returned (.string ⟨⟨l⟩⟩)/\vY w w' (fun k'=>some k'=v.ownBlock):=by
 rcases hv with ⟨rfl,rfl⟩ | ⟨g,cap,cs,rfl,hc0,hle,hcm,hg,hcs,h1,hb⟩
 ·refine (Any.Builder_String_nil L X w.heap.size k p w hk).mono ?_
  rintro e w' ⟨rfl,h⟩
  exact ⟨rfl,sG h _⟩
 by_cases h0:l=[]
 ·subst h0
  refine (Any.Builder_String_room L X w.heap.size k g cap p w hc0 hk).mono ?_
  rintro e w' ⟨rfl,h⟩
  exact ⟨rfl,sG h _⟩
 have hl0:l.length ≠ 0:=by simpa using h0
 have c1:w.drew.cell? ⟨k,1,none⟩=some (.slice (some ⟨g,0,none⟩) l.length cap):=by
  have:w.drew.heap[k]? = some (.cells #[p,.slice (some ⟨g,0,none⟩) l.length cap] (ρ.t 72) (0,0)):=hk
  rw [Lib.cell_of_heap this]; rfl
 have hSD:(Builtin.unsafeSliceData_ #[(ρ.t 37)] (ρ.t 127) #[.slice (some ⟨g,0,none⟩) l.length cap]).run P w.drew = .ok (.pointer (some ⟨g,0,none⟩)) w.drew :=
  Lib.run_unsafeSliceData_row _ _ _ _ _ _ (by omega)
 have hUS:(Builtin.unsafeString_ #[(ρ.t 127),(ρ.t 3)] (ρ.t 9) #[.pointer (some ⟨g,0,none⟩),.int .i64 l.length]).run P w.drew = .ok (.string ⟨l.toArray⟩) (w.drew.freeze ⟨g,0,none⟩ l.length):=by
  refine Lib.run_unsafeString_row w.drew (ρ.t 127) (ρ.t 3) (ρ.t 9) (ρ.t 5) L.t127 X.cellsByte g cs.size (by have hg':w.drew.heap[g]? = some (.cells cs (ρ.t 5) (0,0)):=hg; simp [World.shape?,hg']) l h0 (by omega) (by unfold maxLen at hcm; omega) ?_
  intro j x hx
  rw [Addr.jU]
  have hg':w.drew.heap[g]? = some (.cells cs (ρ.t 5) (0,0)):=hg
  simp [World.cell?,hg',hb j x hx]
 have mixed:=L.mixed
 have t72:=L.t72; have a72:=L.a72; have z72:=L.z72; have v72:=L.v72; have u72:=run_underlying L.t72
 have t70:=L.t70; have a70:=L.a70; have z70:=L.z70; have v70:=L.v70; have u70:=run_underlying L.t70
 have t37:=L.t37; have a37:=L.a37; have z37:=L.z37; have v37:=L.v37; have u37:=run_underlying L.t37
 have t127:=L.t127; have a127:=L.a127; have z127:=L.z127; have v127:=L.v127; have u127:=run_underlying L.t127
 have t3:=L.t3; have a3:=L.a3; have z3:=L.z3; have v3:=L.v3; have u3:=run_underlying L.t3
 have t9:=L.t9; have a9:=L.a9; have z9:=L.z9; have v9:=L.v9; have u9:=run_underlying L.t9
 have t5:=X.t5; have a5:=X.a5; have z5:=X.z5; have v5:=X.v5; have u5:=run_underlying X.t5
 have hF:=GI w g l.length
 clear hb hcs hg hle hcm h1 hk
 go_enter L.f169,Body.n169_ntmps ρ
 go_wp2
 go_region_o
 all_goals (go_wp2; go_ret; exact ⟨rfl,hF.os,hF.tape,hF.output,hF.size,fun k' hk' hm=>hF.block k' hk' (fun e=>hm (by rw [e]; rfl))⟩)
end Go.Ab
end
section
set_option linter.unusedVariables false
namespace Go.Ab
open Go Go.Shelf Go.Proofs
section
variable {P:Program} {I:IH} {ρ:Ren} {w:World}
structure Tn (I:IH) (ρ:Ren) (w:World) (T e k:Nat) (p v:Value) (l:List UInt8):Prop where
 r0:ρ 0=some (k,T)
 hk:w.heap[k]? = some (.cells #[p,v] T (0,0))
 hp:Oc k p
 hv:lI e v l w
 own:∀ g,v.ownBlock=some g->∃ cap,ρ 1=some (g,cap)/\cap ≠ 0
 i0:I k=none
 i1:∀ g,v.ownBlock=some g->I g=none
theorem Si {cs:Array Value} (h:cs.size=2):∃ p v,cs = #[p,v]:=by
 match cs,h with
 | ⟨[p,v]⟩,_=>exact ⟨p,v,rfl⟩
theorem F8 {T e:Nat} {l:List UInt8} (h:BX I ρ w (nG [.var [.opt T 0,.jy 1 l.length],.row e l])):∃ k p v,Tn I ρ w T e k p v l:=by
 obtain ⟨k,cap,cs,hr,hw,hs,hc⟩:=h.ok 0
 obtain ⟨p,v,rfl⟩:=Si hs
 obtain ⟨k',hr',hp⟩:=hc 0 p (.opt T 0) rfl rfl
 rw [hr] at hr'
 simp only [Option.some.injEq,Prod.mk.injEq] at hr'
 obtain ⟨rfl,rfl⟩:=hr'
 obtain ⟨g,cp,hg,hn,hv⟩:=hc 1 v (.jy 1 l.length) rfl rfl
 obtain ⟨g',cp',hg',hl,hm,hrow⟩:=h.ok 1
 rw [hg] at hg'
 simp only [Option.some.injEq,Prod.mk.injEq] at hg'
 obtain ⟨rfl,rfl⟩:=hg'
 have i0:I k=none:=h.fresh 0 k ⟨_,hr⟩
 rcases hv with ⟨h0,rfl⟩ | ⟨h0,rfl⟩
 ·refine ⟨k,p,_,hr,hw,hp,.inl ⟨rfl,?_⟩,(fun g hx=>by cases hx),i0,(fun g hx=>by cases hx)⟩
  exact List.eq_nil_of_length_eq_zero (by omega)
 ·obtain ⟨cs,h1,h2,h3,h4⟩:=hrow h0
  refine ⟨k,p,_,hr,hw,hp,.inr ⟨g,cp,cs,rfl,h0,hl,hm,h1,h2,h3,h4⟩,fun g' hx => ?_,i0,fun g' hx => ?_⟩
  ·simp only [mD,Option.some.injEq] at hx
   subst hx; exact ⟨cp,hg,h0⟩
  ·simp only [mD,Option.some.injEq] at hx
   subst hx; exact h.fresh 1 g ⟨cp,hg,h0⟩
theorem Ew {T e k:Nat} {p v:Value} {l l':List UInt8} {w':World} (hT:T ≠ e) (hA:Agree I w) (hB:BX I ρ w (nG [.var [.opt T 0,.jy 1 l.length],.row e l])) (b:Tn I ρ w T e k p v l) (h:Wrote T e k v l' w w') :
    ∃ σ:Ren,Agree I w'/\BX I σ w' (nG [.var [.opt T 0,.jy 2 l'.length],.dead,.row e l']) /\
      vY w w' (fun k=>∃ c,(nG [.var [.opt T 0,.jy 1 l.length],.row e l] c).uses (ρ c) k) /\
      (∀ c k',(nG [.var [.opt T 0,.jy 2 l'.length],.dead,.row e l'] c).uses (σ c) k'->w.heap.size<=k'\/∃ c',(nG [.var [.opt T 0,.jy 1 l.length],.row e l] c').uses (ρ c') k') /\
      (∀ c,c<2->σ c=ρ c):=by
  obtain ⟨v',hk',hv',hown,hF⟩:=h
  have hu0:(nG [.var [.opt T 0,.jy 1 l.length],.row e l] 0).uses (ρ 0) k:=⟨_,b.r0⟩
  have hu1:∀ g,v.ownBlock=some g->(nG [.var [.opt T 0,.jy 1 l.length],.row e l] 1).uses (ρ 1) g:=fun g hg=>b.own g hg
  have hρ:∀ c,2<=c->ρ c=none:=fun c hc=>by
    have h1:=hB.ok c
    rw [nX (by simpa using hc)] at h1
    exact h1
  have hne:v'.ownBlock ≠ some k:=hv'.ne hk' hT
  obtain ⟨g,cap,hg⟩:∃ g cap,(cap=0/\v' = .slice none 0 0/\l'=[])\/(cap ≠ 0/\v' = .slice (some ⟨g,0,none⟩) l'.length cap/\l'.length<=cap/\cap<=maxLen/\∃ cs,w'.heap[g]? = some (.cells cs e (0,0))/\cs.size=cap /\
      (∀ (j:Nat) (u:Value),cs[j]? = some u->u.oneCell'=true)/\∀ (j:Nat) (x:UInt8),l'[j]? = some x->cs[j]? = some (.int .u8 x.toNat)):=by
    rcases hv' with ⟨rfl,rfl⟩ | ⟨g,cap,cs,h1,h2,h3,h4,h5⟩
    · exact ⟨0,0,.inl ⟨rfl,rfl,rfl⟩⟩
    · exact ⟨g,cap,.inr ⟨h2,h1,h3,h4,cs,h5⟩⟩
  have hnew:cap ≠ 0->I g=none/\g ≠ k/\(w.heap.size<=g\/(nG [.var [.opt T 0,.jy 1 l.length],.row e l] 1).uses (ρ 1) g):=fun h0=>by
    rcases hg with ⟨h1,_⟩ | ⟨_,rfl,_⟩
    · exact absurd h1 h0
    · rw [mD] at hne hown
      refine ⟨?_,fun e=>hne (by rw [e]),?_⟩
      · rcases hown with h | ⟨g',h,hb⟩
        · exact b.i1 g h.symm
        · simp only [Option.some.injEq] at h; subst h; exact hA.EY hb
      · rcases hown with h | ⟨g',h,hb⟩
        · exact .inr (hu1 g h.symm)
        · simp only [Option.some.injEq] at h; subst h; exact .inl hb
  have hle:ρ.le (ρ.set 2 g cap):=Ren.uw (hρ 2 (Nat.le_refl _))
  have s2:(ρ.set 2 g cap) 2=some (g,cap):=Ren.fK _ _ _ _
  have s0:(ρ.set 2 g cap) 0=some (k,T):=(Ren.je (by decide)).trans b.r0
  have u0:∀ k',(nG [.var [.opt T 0,.jy 2 l'.length],.dead,.row e l'] 0).uses ((ρ.set 2 g cap) 0) k'->k'=k:=fun k' hu=>by
    obtain ⟨c,hc⟩:=hu; rw [s0] at hc; simp only [Option.some.injEq,Prod.mk.injEq] at hc; exact hc.1.symm
  have u2:∀ k',(nG [.var [.opt T 0,.jy 2 l'.length],.dead,.row e l'] 2).uses ((ρ.set 2 g cap) 2) k'->k'=g/\cap ≠ 0:=fun k' hu=>by
    obtain ⟨c,hc,h0⟩:=hu; rw [s2] at hc; simp only [Option.some.injEq,Prod.mk.injEq] at hc; exact ⟨hc.1.symm,by rw [hc.2]; exact h0⟩
  have uu:∀ c k',(nG [.var [.opt T 0,.jy 2 l'.length],.dead,.row e l'] c).uses ((ρ.set 2 g cap) c) k'->(c=0/\k'=k)\/(c=2/\k'=g/\cap ≠ 0):=fun c k' hu=>by
    match c with
    | 0=>exact .inl ⟨rfl,u0 k' hu⟩
    | 1=>exact hu.elim
    | 2=>exact .inr ⟨rfl,u2 k' hu⟩
    | c+3=>rw [nX (by simp)] at hu; exact hu.elim
  refine ⟨ρ.set 2 g cap,?_,⟨fun c => ?_,fun c c' k' hc hc' => ?_,fun c k' hc => ?_⟩,⟨hF.os,hF.tape,hF.output,hF.size,fun k' hlt hm=>hF.block k' hlt fun e=>hm ?_⟩,fun c k' hc => ?_,fun c hc=>Ren.je (by omega)⟩
  · refine hA.other fun k1 c hc=>hF.block k1 (hA.lt hc) fun e => ?_
    rcases e with rfl | e
    · rw [b.i0] at hc; cases hc
    · rw [b.i1 k1 e.symm] at hc; cases hc
  · match c with
    | 0 =>
      refine ⟨k,T,_,s0,hk',rfl,fun j u x hu hx => ?_⟩
      match j with
      | 0 =>
        simp at hu hx
        subst hu; subst hx
        exact ⟨k,s0,.inr rfl⟩
      | 1 =>
        simp at hu hx
        subst hu; subst hx
        rcases hg with ⟨h1,h2,h3⟩ | ⟨h1,h2,h3,_⟩
        · exact ⟨g,cap,s2,by rw [h3]; exact Nat.zero_le _,.inl ⟨h1,h2⟩⟩
        · exact ⟨g,cap,s2,h3,.inr ⟨h1,h2⟩⟩
      | j+2=>simp at hu
    | 1=>trivial
    | 2 =>
      rcases hg with ⟨h1,h2,h3⟩ | ⟨h1,h2,h3,h4,h5⟩
      · exact ⟨g,cap,s2,by rw [h3]; exact Nat.zero_le _,by rw [h1]; exact Nat.zero_le _,fun h=>absurd h1 h⟩
      · exact ⟨g,cap,s2,h3,h4,fun _=>h5⟩
    | c+3 =>
      rw [nX (by simp)]
      exact (Ren.je (by omega)).trans (hρ _ (by omega))
  · rcases uu c k' hc with ⟨rfl,h1⟩ | ⟨rfl,h1,h2⟩<;>rcases uu c' k' hc' with ⟨rfl,h3⟩ | ⟨rfl,h3,h4⟩
    · rfl
    · exact absurd (h3.symm.trans h1) (hnew h4).2.1
    · exact absurd (h1.symm.trans h3) (hnew h2).2.1
    · rfl
  · rcases uu c k' hc with ⟨rfl,rfl⟩ | ⟨rfl,rfl,h2⟩
    · exact b.i0
    · exact (hnew h2).1
  · rcases e with rfl | e
    · exact ⟨0,hu0⟩
    · exact ⟨1,hu1 k' e.symm⟩
  · rcases uu c k' hc with ⟨rfl,rfl⟩ | ⟨rfl,rfl,h2⟩
    · exact .inr ⟨0,hu0⟩
    · rcases (hnew h2).2.2 with h | h
      · exact .inl h
      · exact .inr ⟨1,h⟩
end
variable {P:Program} {ρ:Go.Shelf.Ren}
structure bH where
 buf:List UInt8
 deriving Inhabited
theorem zh {I:IH} {r:Ren} {vs:List Value} {x y:AV} (h:HY I r vs [x,y]):∃ a b,vs=[a,b]/\GV I r a x/\GV I r b y:=by
 obtain ⟨h1,h2⟩:=h
 match vs,h1 with
 | [a,b],_=>exact ⟨a,b,rfl,h2 0 a x rfl rfl,h2 1 b y rfl rfl⟩
theorem EO {I:IH} {r:Ren} {vs:List Value} {x:AV} (h:HY I r vs [x]):∃ a,vs=[a]/\GV I r a x:=by
 obtain ⟨h1,h2⟩:=h
 match vs,h1 with
 | [a],_=>exact ⟨a,rfl,h2 0 a x rfl rfl⟩
theorem BN (L:Lays.n167 P ρ) (X:Builder.Extra P ρ) {l:List UInt8} {c:Int} (hc:0<=c/\c<256) (hl:l.length+1<=140737488355328) :
  fU P (ρ.f 167) [.one (.ptr 0 0),.one (.c (.lit (.int .u8 c)))] [.var [.opt (ρ.t 72) 0,.jy 1 l.length],.row (ρ.t 5) l] fun r bs =>
   r = .one (.c (.lit .nilIface))/\bs=[.var [.opt (ρ.t 72) 0,.jy 2 (l++[UInt8.ofNat c.toNat]).length],.dead,.row (ρ.t 5) (l++[UInt8.ofNat c.toNat])]:=by
 intro I r w vs hT hA hB hG
 obtain ⟨a,b',rfl,ha,hb⟩:=zh hG
 obtain ⟨k,p,v,b⟩:=F8 hB
 obtain ⟨k',cap',hr,rfl⟩:=ha
 rw [b.r0] at hr
 simp only [Option.some.injEq,Prod.mk.injEq] at hr
 obtain ⟨rfl,_⟩:=hr
 cases hb
 refine (Ar L X k p v l c w b.hk b.hp b.hv hc hl).mono ?_
 rintro e w' ⟨rfl,hW⟩
 obtain ⟨σ,h1,h2,h3,h4,h5⟩:=Ew X.neB5 hA hB b hW
 exact ⟨_,I,σ,_,_,rfl,⟨rfl,rfl⟩,Rd.lit _ rfl,h1,h2,IH.le_refl I,h3,h4,fun _ _ _=>rfl,h5⟩
theorem yC (L:Lays.n166 P ρ) (X:Builder.Extra P ρ) {l s:List UInt8} (hl:l.length+s.length<=140737488355328) :
  fU P (ρ.f 166) [.one (.ptr 0 0),.one (.c (.str s))] [.var [.opt (ρ.t 72) 0,.jy 1 l.length],.row (ρ.t 5) l] fun r bs =>
   r = .mG [(false,[.c (.lit (.int .i64 s.length))]),(false,[.c (.lit .nilIface)])]/\bs=[.var [.opt (ρ.t 72) 0,.jy 2 (l++s).length],.dead,.row (ρ.t 5) (l++s)]:=by
 intro I r w vs hT hA hB hG
 obtain ⟨a,b',rfl,ha,hb⟩:=zh hG
 obtain ⟨k,p,v,b⟩:=F8 hB
 obtain ⟨k',cap',hr,rfl⟩:=ha
 rw [b.r0] at hr
 simp only [Option.some.injEq,Prod.mk.injEq] at hr
 obtain ⟨rfl,_⟩:=hr
 cases hb
 refine (xN L X k p v l s w b.hk b.hp b.hv hl).mono ?_
 rintro e w' ⟨rfl,hW⟩
 obtain ⟨σ,h1,h2,h3,h4,h5⟩:=Ew X.neB5 hA hB b hW
 refine ⟨_,I,σ,_,_,rfl,⟨rfl,rfl⟩,⟨_,rfl,rfl,fun j u q hu hq => ?_⟩,h1,h2,IH.le_refl I,h3,h4,fun _ _ _=>rfl,h5⟩
 match j with
 | 0=>simp at hu hq; subst hu; subst hq; exact ⟨_,rfl,Rd.lit _ rfl⟩
 | 1=>simp at hu hq; subst hu; subst hq; exact ⟨_,rfl,Rd.lit _ rfl⟩
 | j+2=>simp at hu
theorem I8 (L:Lays.n169 P ρ) (X:Builder.Extra P ρ) {l:List UInt8} (hl:l.length<=maxLen) :
  fU P (ρ.f 169) [.one (.ptr 0 0)] [.var [.opt (ρ.t 72) 0,.jy 1 l.length],.row (ρ.t 5) l] fun r bs=>r = .one (.c (.str l))/\bs=[.dead,.dead]:=by
 intro I r w vs hT hA hB hG
 obtain ⟨a,rfl,ha⟩:=EO hG
 obtain ⟨k,p,v,b⟩:=F8 hB
 obtain ⟨k',cap',hr,rfl⟩:=ha
 rw [b.r0] at hr
 simp only [Option.some.injEq,Prod.mk.injEq] at hr
 obtain ⟨rfl,_⟩:=hr
 refine (F9 L X k p v l w b.hk b.hv).mono ?_
 rintro e w' ⟨rfl,hF⟩
 have hρ:∀ c,2<=c->r c=none:=fun c hc=>by
  have h1:=hB.ok c
  rw [nX (by simpa using hc)] at h1
  exact h1
 have un:∀ c k',(nG [.dead,.dead] c).uses (r c) k'->False:=fun c k' hu=>by
  match c with
  | 0=>exact hu
  | 1=>exact hu
  | c+2=>rw [nX (by simp)] at hu; exact hu
 refine ⟨_,I,r,_,_,rfl,⟨rfl,rfl⟩,Rd.str _ hl,?_,⟨fun c => ?_,fun c c' k' hc=>(un c k' hc).elim,fun c k' hc=>(un c k' hc).elim⟩,IH.le_refl I,⟨hF.os,hF.tape,hF.output,hF.size,fun k' hlt hm=>hF.block k' hlt fun e=>hm ⟨1,?_⟩⟩,fun c k' hc=>(un c k' hc).elim,fun _ _ _=>rfl,fun _ _=>rfl⟩
 ·exact hA.other fun k1 c hc=>hF.block k1 (hA.lt hc) fun e=>by rw [b.i1 k1 e.symm] at hc; cases hc
 ·match c with
  | 0=>trivial
  | 1=>trivial
  | c+2=>rw [nX (by simp)]; exact hρ _ (by omega)
 ·exact b.own k' e.symm
end Go.Ab
end
section
set_option linter.unusedVariables false
namespace Go.Ab
open Go Go.Shelf Go.Proofs
variable {P:Program} {ρ:Go.Shelf.Ren}
theorem QD {I:IH} {w:World} (hT:Tabs P I) (hA:Agree I w) {g:Nat} (hg:P.globalNamed "internal/strconv.uint64pow10" = some g):Lib.TabIs P w "internal/strconv.uint64pow10" .u64 Lib.pow10Tab:=by
 obtain ⟨e,fr,h⟩:=hA g _ (hT g hg)
 unfold Lib.TabIs World.var?
 simp only [hg,Option.bind_some,h]
theorem Oo (L:LaysM.n171 P ρ) {n:Int} (h0 : -9223372036854775808<=n/\n<=9223372036854775807) (hl:(Lib.itoa n).length<=maxLen) {r:List UInt8} (hr:r=Lib.itoa n) :
  dA P (ρ.f 171) [.one (.c (.lit (.int .i64 n)))] (.one (.c (.str r))):=by
 subst hr
 intro I r w vs hT hA hB hG
 obtain ⟨a,rfl,ha⟩:=EO hG
 cases ha
 have hB':∀ b,nG [] b = .absent:=fun b=>nX (Nat.zero_le _)
 refine (Any.strconv_Itoa L n h0.1 h0.2 w (QD hT hA L.m17)).mono ?_
 rintro e w' ⟨rfl,k,os,rfl⟩
 have hb:=Lib.below_grow w.heap.size w (Nat.le_refl _) k os
 refine ⟨_,I,r,_,_,rfl,⟨rfl,rfl⟩,Rd.str _ hl,hA.other fun k1 c hc=>hb.block k1 (hA.lt hc),⟨fun b => ?_,fun b b' k hu => ?_,fun b k hu => ?_⟩,IH.le_refl I,sG hb _,fun b k hu => ?_,fun _ _ _=>rfl,fun _ _=>rfl⟩
 ·have:=hB.ok b; rw [hB'] at this ⊢; exact this
 all_goals (rw [hB'] at hu; exact hu.elim)
end Go.Ab
end
section
set_option linter.unusedVariables false
namespace Go.Ab
open Go Go.Shelf Go.Proofs Go.RowKit
variable {P:Program} {ρ:Go.Shelf.Ren}
theorem Nj {I:IH} {v:Value} {s:aK} (h:Rd I v (.str s)):v = .string ⟨⟨s⟩⟩/\s.length<=maxLen:=by
 cases h with
 | str l h=>exact ⟨rfl,h⟩
theorem O6 {I:IH} {w:World} (hA:Agree I w) {v:Value} {l:List aK} (h:Rd I v (.sl 1 (l.map cS))):∃ a len cap,v = .slice a len cap/\l.length=len/\len<=cap/\(0<len->∃ b o,a=some ⟨b,o,none⟩/\b<w.heap.size/\∀ j s,l[j]? = some s->w.cell? ⟨b,o+j,none⟩=some (.string ⟨⟨s⟩⟩)):=by
  cases h with
  | sl a len cap sz es u hlen hcap hmax hsz ha hcell hr =>
    rw [List.length_map] at hlen
    refine ⟨a,len,cap,rfl,hlen,hcap,fun h0 => ?_⟩
    obtain ⟨ad,rfl⟩:∃ ad,a=some ad:=by
      cases a with
      | none=>exact absurd rfl (ha h0)
      | some ad=>exact ⟨ad,rfl⟩
    have h00:=hcell ad rfl 0 0 h0 (by omega)
    have hsp:ad.spot=none:=by
      unfold IH.cell at h00
      split at h00
      · cases h00
      · rename_i hs
        have:(ad.add (0*1+0)).spot=ad.spot:=rfl
        rw [this] at hs
        cases h:ad.spot with
        | none=>rfl
        | some x=>rw [h] at hs; simp at hs
    have hlt:ad.block<w.heap.size:=by
      have:=hA.cell h00
      exact World.block_lt_of_cell? _ _ this
    refine ⟨ad.block,ad.off,?_,hlt,fun j s hj => ?_⟩
    · cases ad; simp only at hsp; rw [hsp]
    · obtain ⟨hjl,rfl⟩:=List.getElem?_eq_some_iff.1 hj
      have h1:=hA.cell (hcell ad rfl j 0 (by omega) (by omega))
      have h2:=hr j 0 (.str l[j]) (by simp [hjl,cS])
      obtain ⟨e,_⟩:=Nj h2
      rw [e] at h1
      have:ad.add (j*1+0)=⟨ad.block,ad.off+j,none⟩:=by
        cases ad; simp only at hsp; subst hsp; simp [Addr.add]
      rw [this] at h1
      exact h1
theorem Oq (L:Lays.n156 P ρ) (X:Builder.Extra P ρ) {l:List aK} {sep r:aK} (hN:l.length<=140737488355328) (hl:(Lib.join l sep).length<=140737488355328) (hr:r=Lib.join l sep) :
  dA P (ρ.f 156) [.one (.c (.sl 1 (l.map cS))),.one (.c (.str sep))] (.one (.c (.str r))):=by
 subst hr
 intro I r w vs hT hA hB hG
 obtain ⟨a,b,rfl,ha,hb⟩:=zh hG
 have hB':∀ b,nG [] b = .absent:=fun b=>nX (Nat.zero_le _)
 have ha:Rd I a (.sl 1 (l.map cS)):=ha
 obtain ⟨e2,hs2⟩:=Nj (show Rd I b (.str sep) from hb)
 subst e2
 obtain ⟨ad,len,cap,rfl,hlen,hcap,hcells⟩:=O6 hA ha
 have hml:140737488355328<=maxLen:=by decide
 have key:Calls P (ρ.f 156) #[.slice ad len cap,.string ⟨⟨sep⟩⟩] w fun e w'=>e = .returned (.string ⟨⟨Lib.join l sep⟩⟩)/\Below w.heap.size w w':=by
  by_cases h0:0<len
  ·obtain ⟨bk,o,rfl,hlt,hc⟩:=hcells h0
   have:=Any.strings_Join L X bk o cap (l.map fun s=>⟨⟨s⟩⟩) ⟨⟨sep⟩⟩ w (fun j x hx=>by
    rw [List.getElem?_map] at hx
    obtain ⟨s,hs,rfl⟩:=Option.map_eq_some_iff.1 hx
    exact hc j s hs) hlt (by rw [List.length_map]; omega) (by rw [List.length_map]; omega) (by
     rw [List.map_map]
     have:(l.map ((fun x:ByteArray=>x.data.toList) ∘ fun s=>⟨⟨s⟩⟩))=l:=by simp [Function.comp_def]
     rw [this]; exact hl)
   rw [List.length_map,hlen,List.map_map] at this
   have e:(l.map ((fun x:ByteArray=>x.data.toList) ∘ fun s=>⟨⟨s⟩⟩))=l:=by simp [Function.comp_def]
   rw [e] at this
   exact this
  ·have:len=0:=by omega
   subst this
   have hnil:l=[]:=List.length_eq_zero_iff.1 hlen
   subst hnil
   refine (Any.strings_Join_none L X ad cap ⟨⟨sep⟩⟩ w).mono fun e w' ⟨he,hw⟩=>⟨?_,hw ▸ Below.refl _ _⟩
   rw [he]; rfl
 refine key.mono ?_
 rintro e w' ⟨rfl,hb⟩
 refine ⟨_,I,r,_,_,rfl,⟨rfl,rfl⟩,Rd.str _ (Nat.le_trans hl hml),hA.other fun k1 c hc=>hb.block k1 (hA.lt hc),⟨fun b => ?_,fun b b' k hu => ?_,fun b k hu => ?_⟩,IH.le_refl I,sG hb _,fun b k hu => ?_,fun _ _ _=>rfl,fun _ _=>rfl⟩
 ·have:=hB.ok b; rw [hB'] at this ⊢; exact this
 all_goals (rw [hB'] at hu; exact hu.elim)
end Go.Ab
end
