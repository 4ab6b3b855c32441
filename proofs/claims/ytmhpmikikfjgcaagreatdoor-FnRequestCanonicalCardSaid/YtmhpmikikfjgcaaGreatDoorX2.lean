/- What abstract values, states and codes of the program's language mean, and that they are sound (part 2). No conditions. -/
import Derived.Test.YtmhpmikikfjgcaaGreatDoorX1
set_option linter.unusedVariables false
set_option linter.unusedSimpArgs false
section
namespace Go.Ab
open Go
section
variable {P:Program} {E:Env P} {I:IH} {ρ:Ren} {n:Nat} {st:ASt} {a:Act} {w:World}
def AK (E:Env P) (n:Nat) (K:ASt->Prop):Act->World->Prop:=fun a w=>∃ I ρ st,K st/\GX E I ρ n st a w
theorem LC (h:GX E I ρ n st a w) {bs:List Nat} {v:Value} {x y:AC} (hx:GC I ρ v x) (hc:Cv st.bx x y) (hb:∀ b,b∈ownsOf [x]->b∈bs):GC (lend I ρ w st.bx bs) ρ v y:=by
  have hle:=lend_le (st:=st) h.bx bs
  cases hc with
  | refl=>exact hx.mono hle (Ren.le_refl ρ)
  | nsl sz =>
    simp only [GC] at hx
    subst hx
    exact Rd.sl none 0 0 _ [] (fun _ _=>undef) rfl (Nat.le_refl _) (by simp [maxLen]) (by simp) (by simp) (by intro ad h; cases h) (by simp)
  | own b m sz es harr hm=>exact lend_rd h (hb b (by simp [ownsOf])) harr hm hx
theorem mW {x:AC} {xs:List AC} {b:Nat} : b∈ownsOf (x::xs)<->b∈ownsOf [x]\/b∈ownsOf xs:=by
 cases x<;>simp [ownsOf]
theorem KC (h:GX E I ρ n st a w) {bs:List Nat} {vs:List Value} {xs ys:List AC} (hx:GCs I ρ vs xs) (hc:CvL st.bx xs ys) (hb:∀ b,b∈ownsOf xs->b∈bs):GCs (lend I ρ w st.bx bs) ρ vs ys:=by
  induction hc generalizing vs with
  | nil=>exact ⟨hx.1,fun j v x hv hx=>by simp at hx⟩
  | cons hxy ht ih =>
    rename_i x y xs ys
    cases vs with
    | nil=>have:=hx.1; simp at this
    | cons v vs =>
      have i1:=ih (vs:=vs) ⟨by simpa using hx.1,fun j u z hu hz=>hx.2 (j+1) u z (by simpa using hu) (by simpa using hz)⟩ (fun b hb'=>hb b (mW.2 (.inr hb')))
      have i0:=LC h (hx.2 0 v x rfl rfl) hxy (fun b hb'=>hb b (mW.2 (.inl hb')))
      refine ⟨by simp [i1.1],fun j u z hu hz => ?_⟩
      cases j with
      | zero=>simp at hu hz; subst hu; subst hz; exact i0
      | succ j=>exact i1.2 j u z (by simpa using hu) (by simpa using hz)
theorem MC (h:GX E I ρ n st a w) {bs:List Nat} {v:Value} {x y:AV} (hx:GV I ρ v x) (hc:CvA st.bx x y) (hb:∀ b,b∈x.owns->b∈bs):GV (lend I ρ w st.bx bs) ρ v y:=by
 cases hc with
 | one hxy=>exact LC h hx hxy hb
 | agg hxy=>obtain ⟨cs,rfl,hg⟩:=hx; exact ⟨cs,rfl,KC h hg hxy hb⟩
theorem xM (h:GX E I ρ n st a w) {bs:List Nat} {vs:List Value} {xs ys:List AV} (hx:GVs I ρ vs xs) (hc:CvAs st.bx xs ys) (hb:∀ b,b∈xs.flatMap AV.owns->b∈bs):GVs (lend I ρ w st.bx bs) ρ vs ys:=by
  induction hc generalizing vs with
  | nil=>exact ⟨hx.1,fun j v x hv hx=>by simp at hx⟩
  | cons hxy ht ih =>
    rename_i x y xs ys
    cases vs with
    | nil=>have:=hx.1; simp at this
    | cons v vs =>
      have i1:=ih (vs:=vs) ⟨by simpa using hx.1,fun j u z hu hz=>hx.2 (j+1) u z (by simpa using hu) (by simpa using hz)⟩ (fun b hb'=>hb b (by rw [List.flatMap_cons]; exact List.mem_append_right _ hb'))
      have i0:=MC h (hx.2 0 v x rfl rfl) hxy (fun b hb'=>hb b (by rw [List.flatMap_cons]; exact List.mem_append_left _ hb'))
      refine ⟨by simp [i1.1],fun j u z hu hz => ?_⟩
      cases j with
      | zero=>simp at hu hz; subst hu; subst hz; exact i0
      | succ j=>exact i1.2 j u z (by simpa using hu) (by simpa using hz)
theorem Ef {I J:IH} {ρ σ:Ren} {v:Value} {x:AC} (h:GC I ρ v x) (hl:x.isLit=true):GC J σ v x:=by
  cases x with
  | c y =>
    cases y with
    | lit u=>cases h with | lit v hv=>exact Rd.lit _ hv
    | str l=>cases h with | str l hl=>exact Rd.str _ hl
    | sl sz es=>cases hl
  | _=>cases hl
theorem EU {I J:IH} {ρ σ:Ren} {vs:List Value} {xs:List AC} (h:GCs I ρ vs xs) (hl:xs.all AC.isLit=true):GCs J σ vs xs :=
 ⟨h.1,fun j v x hv hx=>Ef (h.2 j v x hv hx) (List.all_eq_true.1 hl x (List.mem_of_getElem? hx))⟩
theorem MJ {I J:IH} {ρ σ:Ren} {v:Value} {x:AV} (h:GV I ρ v x) (hl:x.all AC.isLit=true):GV J σ v x:=by
  cases x with
  | one x=>exact Ef h hl
  | agg xs=>obtain ⟨cs,rfl,hg⟩:=h; exact ⟨cs,rfl,EU hg hl⟩
  | tup ps =>
    obtain ⟨vs,rfl,hs,hp⟩:=h
    refine ⟨vs,rfl,hs,fun j v p hv hq => ?_⟩
    have h1:=hp j v p hv hq
    have h2:=List.all_eq_true.1 hl p (List.mem_of_getElem? hq)
    unfold GP at h1 ⊢
    split at h1
    · rename_i hb; rw [if_pos hb]; obtain ⟨cs,rfl,hg⟩:=h1; exact ⟨cs,rfl,EU hg h2⟩
    · rename_i hb; rw [if_neg hb]; obtain ⟨x,hx,hg⟩:=h1; rw [hx] at h2; exact ⟨x,hx,Ef hg (by simpa using h2)⟩
theorem AU {I:IH} {ρ σ:Ren} {v:Value} {x:AC} (h:GC I ρ v x) (hl:x.isData=true):GC I σ v x:=by
 cases x with
 | c y=>exact h
 | err g=>exact h
 | _=>cases hl
theorem Ci {I:IH} {ρ σ:Ren} {vs:List Value} {xs:List AC} (h:GCs I ρ vs xs) (hl:xs.all AC.isData=true):GCs I σ vs xs :=
 ⟨h.1,fun j v x hv hx=>AU (h.2 j v x hv hx) (List.all_eq_true.1 hl x (List.mem_of_getElem? hx))⟩
theorem EY {I:IH} {ρ σ:Ren} {v:Value} {x:AV} (h:GV I ρ v x) (hl:x.all AC.isData=true):GV I σ v x:=by
  cases x with
  | one x=>exact AU h hl
  | agg xs=>obtain ⟨cs,rfl,hg⟩:=h; exact ⟨cs,rfl,Ci hg hl⟩
  | tup ps =>
    obtain ⟨vs,rfl,hs,hp⟩:=h
    refine ⟨vs,rfl,hs,fun j v p hv hq => ?_⟩
    have h1:=hp j v p hv hq
    have h2:=List.all_eq_true.1 hl p (List.mem_of_getElem? hq)
    unfold GP at h1 ⊢
    split at h1
    · rename_i hb; rw [if_pos hb]; obtain ⟨cs,rfl,hg⟩:=h1; exact ⟨cs,rfl,Ci hg h2⟩
    · rename_i hb; rw [if_neg hb]; obtain ⟨x,hx,hg⟩:=h1; rw [hx] at h2; exact ⟨x,hx,AU hg (by simpa using h2)⟩
theorem Cj {I:IH} {ρ σ:Ren} {vs:List Value} {xs:List AV} (h:GVs I ρ vs xs) (hl:xs.all (·.all AC.isData)=true):GVs I σ vs xs :=
 ⟨h.1,fun j v x hv hx=>EY (h.2 j v x hv hx) (List.all_eq_true.1 hl x (List.mem_of_getElem? hx))⟩
theorem Au (b:Nat):bxL [] b = .absent:=by simp [bxL]
theorem uP {x:Option (Nat × Nat)} (b k:Nat):¬ (bxL [] b).uses x k:=by rw [Au]; exact fun h=>h
theorem GX.later (h:GX E I ρ n st a w) {w':World} (hF:Frm w w' (fun _=>False)):GX E I ρ n st a w':=by
 have hk:∀ k,k<w.heap.size->w'.heap[k]? = w.heap[k]? := fun k hk=>hF.block k hk (fun h=>h)
 refine { h with agree:=h.agree.other (fun k c hc=>hk k (h.agree.lt hc)),bx := ?_,frm:=h.frm.trans hF (fun _ _ hf=>hf.elim),tm:=h.tm,size:=h.size,defers:=h.defers }
 exact BX.step (fun _=>False) h.bx (IH.le_refl I) (Ren.le_refl ρ) (fun b _=>⟨rfl,rfl⟩) (fun b k _ hu=>hk k ((h.bx.ok b).lt hu)) (fun b hb=>hb.elim) (fun b k hb=>hb.elim) (fun b b' k hb=>hb.elim) (fun b k _ hu=>h.bx.fresh b k hu)
theorem I4 (I:IH) (w:World):BX I (fun _=>none) w (bxL []) :=
 ⟨fun b=>by rw [Au]; rfl,fun b b' k h=>absurd h (uP b k),fun b k h=>absurd h (uP b k)⟩
theorem H9 (h:GX E I ρ n st a w) {f:FuncId} {vs:List Value} {avs ds:List AV} {r:AV} {d:Option Nat} {K:ASt->Prop} (hd':∀ x,d=some x->x<n) (hv:GVs I ρ vs avs) (hc:CvAs st.bx avs ds) (hd:ds.all (·.all AC.isData)=true) (hp:APure P f ds r) (hr:r.all AC.isLit=true)
  (k:K (st.putO d (.v true r))):Calls P f vs.toArray w fun e w'=>∃ v,e = .returned v/\AK E n K (a.put d v) w':=by
 have hv1:=xM h (bs:=avs.flatMap AV.owns) hv hc (fun b hb=>hb)
 refine (hp (lend I ρ w st.bx (avs.flatMap AV.owns)) (fun _=>none) w vs (h.tabs.mono (lend_le h.bx _)) (lend_agree h.agree _) (I4 _ _) (Cj hv1 hd)).mono ?_
 rintro e w' ⟨v,J,σ,r',bs,rfl,⟨rfl,rfl⟩,hg,hA,hB,hle,hF,_⟩
 have hF':Frm w w' (fun _=>False):=⟨hF.os,hF.tape,hF.output,hF.size,fun k hk _=>hF.block k hk (fun ⟨b,hb⟩=>uP b k hb)⟩
 exact ⟨v,rfl,I,ρ,_,k,(h.later hF').putO hd' ⟨fun _=>MJ hg hr,fun e=>by cases e⟩⟩
theorem F7 (h:GX E I ρ n st a w) {f:FuncId} {vs:List Value} {avs ds:List AV} {r:AV} {d:Option Nat} {K:ASt->Prop} (hd':∀ x,d=some x->x<n) (hv:GVs I ρ vs avs) (hc:CvAs st.bx avs ds) (hd:ds.all (·.all AC.isData)=true) (hp:APure P f ds r) (hr:r.all AC.isData=true)
    (k:K ((st.frz (avs.flatMap AV.owns)).putO d (.v true r))):Calls P f vs.toArray w fun e w'=>∃ v,e = .returned v/\AK E n K (a.put d v) w':=by
  have hv1:=xM h (bs:=avs.flatMap AV.owns) hv hc (fun b hb=>hb)
  refine (hp (lend I ρ w st.bx (avs.flatMap AV.owns)) (fun _=>none) w vs (h.tabs.mono (lend_le h.bx _)) (lend_agree h.agree _) (I4 _ _) (Cj hv1 hd)).mono ?_
  rintro e w' ⟨v,J,σ,r',bs,rfl,⟨rfl,rfl⟩,hg,hA,hB,hle,hF,_,hJ,_⟩
  have hF':Frm w w' (fun _=>False):=⟨hF.os,hF.tape,hF.output,hF.size,fun k hk _=>hF.block k hk (fun ⟨b,hb⟩=>uP b k hb)⟩
  have hJ':∀ k,k<w.heap.size->J k=lend I ρ w st.bx (avs.flatMap AV.owns) k:=fun k hk=>hJ k hk (fun ⟨b,hb⟩=>uP b k hb)
  refine ⟨v,rfl,J,ρ,_,k,?_⟩
  generalize hBS:avs.flatMap AV.owns=BS at *
  have hIJ:I.le J:=IH.le_trans (lend_le h.bx BS) hle
  have hk:∀ k,k<w.heap.size->w'.heap[k]? = w.heap[k]? := fun k hk=>hF'.block k hk (fun h=>h)
  have huse:∀ b k,((st.frz BS).bx b).uses (ρ b) k->(st.bx b).uses (ρ b) k/\¬ (∃ b' sz es cap,b'∈BS/\st.bx b' = .dat sz es/\ρ b'=some (k,cap)/\cap ≠ 0):=by
    intro b k hu
    rw [mem_frz] at hu
    by_cases hb:b∈BS
    · rw [if_pos hb] at hu
      cases hx:st.bx b with
      | var xs =>
        rw [hx] at hu
        refine ⟨hu,?_⟩
        rintro ⟨b',sz,es,cap,_,hb',hr',h0⟩
        have:=h.bx.inj b b' k (by rw [hx]; exact hu) (by rw [hb']; exact ⟨cap,hr',h0⟩)
        subst this
        rw [hx] at hb'; cases hb'
      | row e l =>
        rw [hx] at hu
        refine ⟨hu,?_⟩
        rintro ⟨b',sz,es,cap,_,hb',hr',h0⟩
        have:=h.bx.inj b b' k (by rw [hx]; exact hu) (by rw [hb']; exact ⟨cap,hr',h0⟩)
        subst this
        rw [hx] at hb'; cases hb'
      | dat sz es=>rw [hx] at hu; exact hu.elim
      | frz sz es=>rw [hx] at hu; exact hu.elim
      | absent=>rw [hx] at hu; exact hu.elim
      | dead=>rw [hx] at hu; exact hu.elim
    · rw [if_neg hb] at hu
      refine ⟨hu,?_⟩
      rintro ⟨b',sz,es,cap,hm',hb',hr',h0⟩
      have:=h.bx.inj b b' k hu (by rw [hb']; exact ⟨cap,hr',h0⟩)
      subst this
      exact hb hm'
  have hfr:∀ b k,((st.frz BS).bx b).uses (ρ b) k->J k=none:=fun b k hu=>by
    obtain ⟨h1,h2⟩:=huse b k hu
    rw [hJ' k ((h.bx.ok b).lt h1)]
    unfold lend
    rw [if_neg h2]
    exact h.bx.fresh b k h1
  have hgx:GX E J ρ n (st.frz BS) a w':=by
    refine { agree:=hA,bx:=⟨fun b => ?_,fun b b' k hb hb'=>h.bx.inj b b' k (huse b k hb).1 (huse b' k hb').1,hfr⟩,tm:=fun t ht=>(h.tm t ht).mono hIJ (Ren.le_refl ρ),size:=h.size,defers:=h.defers,frm:=h.frm.trans hF' (fun _ _ hf=>hf.elim),own:=fun b k hu=>h.own b k (huse b k hu).1,ile:=IH.le_trans h.ile hIJ,inew:=fun k hk0 hM => ?_,keepρ:=h.keepρ }
    · have hok:=(h.bx.ok b).keep hIJ (Ren.le_refl ρ) rfl (fun k hu=>hk k ((h.bx.ok b).lt hu))
      rw [mem_frz]
      by_cases hb:b∈BS
      · rw [if_pos hb]
        cases hx:st.bx b with
        | dat sz es =>
          rw [hx] at hok
          obtain ⟨kk,cap,hr',hl,hm,hsz,hcs⟩:=hok
          refine ⟨kk,cap,hr',hl,hm,hsz,fun h0 => ?_⟩
          obtain ⟨cs,e,hw,_,_,hrd⟩:=hcs h0
          have hu:(st.bx b).uses (ρ b) kk:=by rw [hx]; exact ⟨cap,hr',h0⟩
          have hlt:=(h.bx.ok b).lt hu
          refine ⟨cs,?_,hrd⟩
          rw [hJ' kk hlt]
          unfold lend
          rw [if_pos ⟨b,sz,es,cap,hb,hx,hr',h0⟩,<- hk kk hlt,hw]
        | var xs=>rw [hx] at hok; exact hok
        | row e l=>rw [hx] at hok; exact hok
        | frz sz es=>rw [hx] at hok; exact hok
        | absent=>rw [hx] at hok; exact hok
        | dead=>rw [hx] at hok; exact hok
      · rw [if_neg hb]; exact hok
    · have hlt:k<w.heap.size:=Nat.lt_of_lt_of_le hk0 h.frm.size
      rw [hJ' k hlt]
      unfold lend
      rw [if_neg]
      · exact h.inew k hk0 hM
      · rintro ⟨b',sz,es,cap,_,hb',hr',h0⟩
        rcases h.own b' k (by rw [hb']; exact ⟨cap,hr',h0⟩) with h1 | h1
        · omega
        · exact hM h1
  exact hgx.putO hd' ⟨fun _=>EY hg hr,fun e=>by cases e⟩
end
end Go.Ab
end
section
namespace Go.Ab
open Go
section
variable {P:Program} {E:Env P} {I:IH} {ρ:Ren} {n:Nat} {st:ASt} {a:Act} {w:World}
theorem rH (l:List (Nat × Box)) (st:ASt) {b:Nat} (h:b ∉ l.map (·.1)):(st.setbs l).bx b=st.bx b:=by
  induction l generalizing st with
  | nil=>rfl
  | cons x l ih =>
    obtain ⟨c,x⟩:=x
    simp only [List.map_cons,List.mem_cons,not_or] at h
    simp only [ASt.setbs,ih _ h.2,ASt.setb_bx]
    rw [if_neg h.1]
theorem Jp (l:List (Nat × Box)) (st:ASt) (hn:(l.map (·.1)).Nodup) {j b:Nat} {x:Box} (h:l[j]? = some (b,x)):(st.setbs l).bx b=x:=by
  induction l generalizing st j with
  | nil=>simp at h
  | cons y l ih =>
    obtain ⟨c,y⟩:=y
    simp only [List.map_cons,List.nodup_cons] at hn
    cases j with
    | zero =>
      simp at h
      obtain ⟨rfl,rfl⟩:=h
      simp only [ASt.setbs]
      rw [rH _ _ hn.1,ASt.setb_bx,if_pos rfl]
    | succ j =>
      simp only [ASt.setbs]
      exact ih _ hn.2 (by simpa using h)
theorem AY {π:Nat->Nat} {I:IH} {ρ σ:Ren} {m:Nat} {v:Value} {x:AC} (h:GC I ρ v (renC π x)) (hl:x.refsLt m=true) (hs:∀ b y,b<m->ρ (π b)=some y->σ b=some y):GC I σ v x:=by
  cases x with
  | c y=>exact h
  | ptr b off=>obtain ⟨k,cap,h1,h2⟩:=h; exact ⟨k,cap,hs _ _ (by simpa [AC.refsLt] using hl) h1,h2⟩
  | own b n sz=>obtain ⟨k,cap,a,c,h1,h2⟩:=h; exact ⟨k,cap,a,c,hs _ _ (by simpa [AC.refsLt] using hl) h1,h2⟩
  | sub b lo n c sz=>obtain ⟨k,cap,a,c',h1,h2⟩:=h; exact ⟨k,cap,a,c',hs _ _ (by simpa [AC.refsLt] using hl) h1,h2⟩
  | opt T b=>obtain ⟨k,h1,h2⟩:=h; exact ⟨k,hs _ _ (by simpa [AC.refsLt] using hl) h1,h2⟩
  | bbuf b n=>obtain ⟨k,cap,h1,h2⟩:=h; exact ⟨k,cap,hs _ _ (by simpa [AC.refsLt] using hl) h1,h2⟩
  | aptr b i sz off=>obtain ⟨k,cap,h1,h2⟩:=h; exact ⟨k,cap,hs _ _ (by simpa [AC.refsLt] using hl) h1,h2⟩
  | nsl sz=>exact h
  | eptr cs=>exact h
  | err g=>exact h
  | junk=>exact h
  | fn f caps =>
    obtain ⟨ks,h1,h2,h3⟩:=h
    refine ⟨ks,by simpa using h1,fun j b k hb hk => ?_,h3⟩
    obtain ⟨cap,hc⟩:=h2 j (π b) k (by simp [hb]) hk
    refine ⟨cap,hs _ _ ?_ hc⟩
    have:=List.all_eq_true.1 hl b (List.mem_of_getElem? hb)
    simpa using this
theorem EX {π:Nat->Nat} {I:IH} {ρ σ:Ren} {m:Nat} {vs:List Value} {xs:List AC} (h:GCs I ρ vs (xs.map (renC π))) (hl:xs.all (AC.refsLt m)=true) (hs:∀ b y,b<m->ρ (π b)=some y->σ b=some y):GCs I σ vs xs :=
 ⟨by simpa using h.1,fun j v x hv hx=>AY (h.2 j v (renC π x) hv (by simp [hx])) (List.all_eq_true.1 hl x (List.mem_of_getElem? hx)) hs⟩
theorem ML {π:Nat->Nat} {I:IH} {ρ σ:Ren} {m:Nat} {v:Value} {x:AV} (h:GV I ρ v (renA π x)) (hl:x.all (AC.refsLt m)=true) (hs:∀ b y,b<m->ρ (π b)=some y->σ b=some y):GV I σ v x:=by
  cases x with
  | one x=>exact AY h hl hs
  | agg xs=>obtain ⟨cs,rfl,hg⟩:=h; exact ⟨cs,rfl,EX hg hl hs⟩
  | tup ps =>
    obtain ⟨vs,rfl,hz,hp⟩:=h
    refine ⟨vs,rfl,by simpa using hz,fun j v p hv hq => ?_⟩
    have h1:=hp j v _ hv (by rw [List.getElem?_map,hq]; rfl)
    have h2:=List.all_eq_true.1 hl p (List.mem_of_getElem? hq)
    unfold GP at h1 ⊢
    simp only at h1
    split at h1
    · rename_i hb; rw [if_pos hb]; obtain ⟨cs,rfl,hg⟩:=h1; exact ⟨cs,rfl,EX hg h2 hs⟩
    · rename_i hb
      rw [if_neg hb]
      obtain ⟨x,hx,hg⟩:=h1
      cases hp2:p.2 with
      | nil=>rw [hp2] at hx; simp at hx
      | cons y t =>
        rw [hp2] at hx h2
        simp at hx
        obtain ⟨rfl,rfl⟩:=hx
        exact ⟨y,rfl,AY hg (by simpa using h2) hs⟩
theorem AX {π:Nat->Nat} {I:IH} {ρ σ:Ren} {v:Value} {x:AC} (h:GC I σ v x) (hs:∀ b y,σ b=some y->ρ (π b)=some y):GC I ρ v (renC π x):=by
  cases x with
  | c y=>exact h
  | ptr b off=>obtain ⟨k,cap,h1,h2⟩:=h; exact ⟨k,cap,hs _ _ h1,h2⟩
  | own b n sz=>obtain ⟨k,cap,a,c,h1,h2⟩:=h; exact ⟨k,cap,a,c,hs _ _ h1,h2⟩
  | sub b lo n c sz=>obtain ⟨k,cap,a,c',h1,h2⟩:=h; exact ⟨k,cap,a,c',hs _ _ h1,h2⟩
  | opt T b=>obtain ⟨k,h1,h2⟩:=h; exact ⟨k,hs _ _ h1,h2⟩
  | bbuf b n=>obtain ⟨k,cap,h1,h2⟩:=h; exact ⟨k,cap,hs _ _ h1,h2⟩
  | aptr b i sz off=>obtain ⟨k,cap,h1,h2⟩:=h; exact ⟨k,cap,hs _ _ h1,h2⟩
  | nsl sz=>exact h
  | eptr cs=>exact h
  | err g=>exact h
  | junk=>exact h
  | fn f caps =>
    obtain ⟨ks,h1,h2,h3⟩:=h
    refine ⟨ks,by simpa using h1,fun j b k hb hk => ?_,h3⟩
    rw [List.getElem?_map] at hb
    cases hc:caps[j]? with
    | none=>rw [hc] at hb; cases hb
    | some c =>
      rw [hc] at hb
      simp at hb
      subst hb
      obtain ⟨cap,hc'⟩:=h2 j c k hc hk
      exact ⟨cap,hs _ _ hc'⟩
theorem EW {π:Nat->Nat} {I:IH} {ρ σ:Ren} {vs:List Value} {xs:List AC} (h:GCs I σ vs xs) (hs:∀ b y,σ b=some y->ρ (π b)=some y):GCs I ρ vs (xs.map (renC π)):=by
  refine ⟨by simpa using h.1,fun j v x hv hx => ?_⟩
  rw [List.getElem?_map] at hx
  cases hc:xs[j]? with
  | none=>rw [hc] at hx; cases hx
  | some c =>
    rw [hc] at hx
    simp at hx
    subst hx
    exact AX (h.2 j v c hv hc) hs
theorem MK {π:Nat->Nat} {I:IH} {ρ σ:Ren} {v:Value} {x:AV} (h:GV I σ v x) (hs:∀ b y,σ b=some y->ρ (π b)=some y):GV I ρ v (renA π x):=by
  cases x with
  | one x=>exact AX h hs
  | agg xs=>obtain ⟨cs,rfl,hg⟩:=h; exact ⟨cs,rfl,EW hg hs⟩
  | tup ps =>
    obtain ⟨vs,rfl,hz,hp⟩:=h
    refine ⟨vs,rfl,by simpa using hz,fun j v p hv hq => ?_⟩
    rw [List.getElem?_map] at hq
    cases hc:ps[j]? with
    | none=>rw [hc] at hq; cases hq
    | some q =>
      rw [hc] at hq
      simp at hq
      subst hq
      have h1:=hp j v q hv hc
      unfold GP at h1 ⊢
      simp only
      split at h1
      · rename_i hb; rw [if_pos hb]; obtain ⟨cs,rfl,hg⟩:=h1; exact ⟨cs,rfl,EW hg hs⟩
      · rename_i hb; rw [if_neg hb]; obtain ⟨x,hx,hg⟩:=h1; exact ⟨renC π x,by rw [hx]; rfl,AX hg hs⟩
theorem F6 {π:Nat->Nat} {I:IH} {ρ σ:Ren} {m:Nat} {w:World} {b:Nat} {x:Box} (h:BoxOK I ρ w (π b) (renB π x)) (hl:x.refsLt m=true) (hb:σ b=ρ (π b)) (hs:∀ b y,b<m->ρ (π b)=some y->σ b=some y):BoxOK I σ w b x:=by
  cases x with
  | absent=>exact hb.trans h
  | dead=>trivial
  | var xs =>
    obtain ⟨k,cap,cs,hr,hw,hz,hc⟩:=h
    refine ⟨k,cap,cs,hb.trans hr,hw,by simpa using hz,fun j u x hu hx=>AY (hc j u (renC π x) hu (by simp [hx])) (List.all_eq_true.1 hl x (List.mem_of_getElem? hx)) hs⟩
  | dat sz es=>obtain ⟨k,cap,hr,h⟩:=h; exact ⟨k,cap,hb.trans hr,h⟩
  | row e l=>obtain ⟨k,cap,hr,h⟩:=h; exact ⟨k,cap,hb.trans hr,h⟩
  | frz sz es=>obtain ⟨k,cap,hr,h⟩:=h; exact ⟨k,cap,hb.trans hr,h⟩
theorem F5 {π:Nat->Nat} {I:IH} {ρ σ:Ren} {w:World} {b:Nat} {x:Box} (h:BoxOK I σ w b x) (hb:ρ (π b)=σ b) (hs:∀ b y,σ b=some y->ρ (π b)=some y):BoxOK I ρ w (π b) (renB π x):=by
  cases x with
  | absent=>exact hb.trans h
  | dead=>trivial
  | var xs =>
    obtain ⟨k,cap,cs,hr,hw,hz,hc⟩:=h
    refine ⟨k,cap,cs,hb.trans hr,hw,by simpa using hz,fun j u x hu hx => ?_⟩
    rw [List.getElem?_map] at hx
    cases hc':xs[j]? with
    | none=>rw [hc'] at hx; cases hx
    | some c =>
      rw [hc'] at hx
      simp at hx
      subst hx
      exact AX (hc j u c hu hc') hs
  | dat sz es=>obtain ⟨k,cap,hr,h⟩:=h; exact ⟨k,cap,hb.trans hr,h⟩
  | row e l=>obtain ⟨k,cap,hr,h⟩:=h; exact ⟨k,cap,hb.trans hr,h⟩
  | frz sz es=>obtain ⟨k,cap,hr,h⟩:=h; exact ⟨k,cap,hb.trans hr,h⟩
theorem pM {π:Nat->Nat} {x:Box} {p:Option (Nat × Nat)} {k:Nat} : (renB π x).uses p k<->x.uses p k:=by
 cases x<;>exact Iff.rfl
theorem EI {l:List Box} {b:Nat} (h:b<l.length):l[b]? = some (bxL l b):=by
 unfold bxL; rw [List.getD_eq_getElem?_getD,List.getElem?_eq_getElem h]; rfl
theorem mJ {l:List Box} {b:Nat} (h:l.length<=b):bxL l b = .absent:=by
 unfold bxL; rw [List.getD_eq_getElem?_getD,List.getElem?_eq_none h]; rfl
theorem BP (h:GX E I ρ n st a w) (hm:E.m<=10) {f:FuncId} {vs:List Value} {avs ds:List AV} {d:Option Nat} {K:ASt->Prop} {fp:List Box} {L nu:List Nat} {post:AV->List Box->Prop} {sg:List Nat} (hL:sg++nu=L) (hd':∀ x,d=some x->x<n) (hv:GVs I ρ vs avs)
  (hl:sg.length=fp.length) (hn:L.Nodup) (hf:∀ i,i<fp.length->st.bx (L.getD i 0)=renB (fun b=>L.getD b 0) (fp.getD i .absent))
  (hnu:∀ b,b∈nu->st.bx b = .absent/\10<=b) (hra:(ds.all fun x=>x.all (AC.refsLt fp.length))=true) (hrf:fp.all (Box.refsLt fp.length)=true) (ha:avs=ds.map (renA fun b=>L.getD b 0)) (hp:ACalls P f ds fp post)
  (k:∀ r bs,post r bs->bs.length=L.length/\K ((st.setbs (L.zip (bs.map (renB fun b=>L.getD b 0)))).putO d (.v true (renA (fun b=>L.getD b 0) r)))) :
  Calls P f vs.toArray w fun e w'=>∃ v,e = .returned v/\AK E n K (a.put d v) w':=by
 generalize Qw:(fun b=>L.getD b 0)=π at hf ha k
 have N9:∀ b,L.getD b 0=π b:=fun b=>congrFun Qw b
 have QN:fp.length<=L.length:=by rw [<- hL]; simp; omega
 have xX:∀ b,b<L.length->L[b]? = some (π b):=fun b hb=>by rw [<- N9,List.getD_eq_getElem?_getD,List.getElem?_eq_getElem hb]; rfl
 have IJ:∀ b,b<L.length->π b∈L:=fun b hb=>List.mem_of_getElem? (xX b hb)
 have II:∀ b b',b<L.length->b'<L.length->π b=π b'->b=b':=fun b b' hb hb' e=>by
  have h1:=xX b hb; have h2:=xX b' hb'
  rw [List.getElem?_eq_getElem hb] at h1; rw [List.getElem?_eq_getElem hb'] at h2
  simp at h1 h2
  have hpw:=List.pairwise_iff_getElem.1 hn
  rcases Nat.lt_trichotomy b b' with hlt | heq | hlt
  ·exact absurd (by rw [h1,h2,e]) (hpw b b' hb hb' hlt)
  ·exact heq
  ·exact absurd (by rw [h1,h2,e]) (hpw b' b hb' hb hlt)
 let Ho:Ren:=fun b=>if b<fp.length then ρ (π b) else none
 have hs:∀ b y,b<fp.length->ρ (π b)=some y->Ho b=some y:=fun b y hb e=>by simp [Ho,hb,e]
 have hfb:∀ b,b<fp.length->st.bx (π b)=renB π (bxL fp b):=fun b hb=>by have:=hf b hb; rw [N9] at this; exact this
 have hub:∀ b k,(bxL fp b).uses (Ho b) k->b<fp.length/\(st.bx (π b)).uses (ρ (π b)) k:=fun b k hu=>by
  by_cases hb:b<fp.length
  ·refine ⟨hb,?_⟩
   rw [hfb b hb,pM]
   simpa [Ho,hb] using hu
  ·rw [mJ (by omega)] at hu; exact hu.elim
 have Qd:BX I Ho w (bxL fp):=by
  refine ⟨fun b => ?_,fun b b' k hb hb' => ?_,fun b k hb => ?_⟩
  ·by_cases hb:b<fp.length
   ·have:=h.bx.ok (π b)
    rw [hfb b hb] at this
    exact F6 this (List.all_eq_true.1 hrf _ (List.mem_of_getElem? (EI hb))) (by simp [Ho,hb]) hs
   ·rw [mJ (by omega)]; show Ho b=none; simp [Ho,hb]
  ·obtain ⟨h1,h2⟩:=hub b k hb
   obtain ⟨h1',h2'⟩:=hub b' k hb'
   exact II b b' (by omega) (by omega) (h.bx.inj _ _ _ h2 h2')
  ·exact h.bx.fresh _ _ (hub b k hb).2
 have Qe:GVs I Ho vs ds:=by
  subst ha
  refine ⟨by simpa using hv.1,fun j v x hv' hx => ?_⟩
  exact ML (hv.2 j v (renA π x) hv' (by simp [hx])) (List.all_eq_true.1 hra x (List.mem_of_getElem? hx)) hs
 refine (hp I Ho w vs h.tabs h.agree Qd Qe).mono ?_
 rintro e w' ⟨v,J,σ,r,bs,rfl,hpost,hg,hA,hB,hle,hF,hbw,hJ,hσ⟩
 obtain ⟨hbl,hk⟩:=k r bs hpost
 refine ⟨v,rfl,?_⟩
 have O3:∀ b,L.length<=b->σ b=none:=fun b hb=>by have:=hB.ok b; rw [mJ (by omega)] at this; exact this
 let ρ':Ren:=fun b=>open Classical in if b∈L then σ (L.idxOf b) else ρ b
 have uM:∀ b,b<L.length->ρ' (π b)=σ b:=fun b hb=>by
  have h1:=IJ b hb
  simp only [ρ',h1,if_true]
  have hi:=List.idxOf_lt_length_of_mem h1
  have h2:L[L.idxOf (π b)]? = some (π b):=by rw [List.getElem?_eq_getElem hi]; simp
  have h3:=xX _ hi
  rw [h2] at h3
  simp only [Option.some.injEq] at h3
  rw [<- II _ _ hb hi h3]
 have CJ:∀ b,b ∉ L->ρ' b=ρ b:=fun b hb=>by simp [ρ',hb]
 have hin:∀ b,b∈L->∃ i,i<L.length/\π i=b:=fun b hb=>by
  have hi:=List.idxOf_lt_length_of_mem hb
  refine ⟨_,hi,?_⟩
  have h2:L[L.idxOf b]? = some b:=by rw [List.getElem?_eq_getElem hi]; simp
  have h3:=xX _ hi
  rw [h2] at h3
  simpa using h3.symm
 have LG:∀ i,fp.length<=i->i<L.length->π i∈nu:=fun i h1 h2=>by
  have h3:=xX i h2
  rw [<- hL,List.getElem?_append_right (by omega)] at h3
  exact List.mem_of_getElem? h3
 have hle':ρ.le ρ':=fun b y hb=>by
  by_cases hm':b∈L
  ·obtain ⟨i,hi,rfl⟩:=hin b hm'
   rw [uM i hi]
   by_cases hif:i<fp.length
   ·rw [hσ i hif]; exact hs i y hif hb
   ·have h1:=(hnu _ (LG i (by omega) hi)).1
    have h2:=h.bx.ok (π i)
    rw [h1] at h2
    rw [show ρ (π i)=none from h2] at hb; cases hb
  ·rw [CJ b hm']; exact hb
 have N8:∀ b y,σ b=some y->ρ' (π b)=some y:=fun b y hb=>by
  by_cases hbL:b<L.length
  ·rw [uM b hbL]; exact hb
  ·rw [O3 b (by omega)] at hb; cases hb
 have hlz:(L.zip (bs.map (renB π))).map (·.1)=L:=by
  rw [List.map_fst_zip]; simp [hbl]
 have Gn:∀ i,i<L.length->(st.setbs (L.zip (bs.map (renB π)))).bx (π i)=renB π (bxL bs i):=fun i hi=>by
  refine Jp _ _ (by rw [hlz]; exact hn) (j:=i) ?_
  rw [List.getElem?_zip_eq_some]
  exact ⟨xX i hi,by rw [List.getElem?_map,EI (by omega)]; rfl⟩
 have hbx2:∀ b,b ∉ L->(st.setbs (L.zip (bs.map (renB π)))).bx b=st.bx b:=fun b hb=>rH _ _ (by rw [hlz]; exact hb)
 have hnot:∀ b k,b ∉ L->(st.bx b).uses (ρ b) k->k<w.heap.size/\¬ ∃ b',(bxL fp b').uses (Ho b') k:=fun b k hb hu=>by
  refine ⟨(h.bx.ok b).lt hu,?_⟩
  rintro ⟨b',hb'⟩
  obtain ⟨h1,h2⟩:=hub b' k hb'
  have:=h.bx.inj _ _ _ hu h2
  exact hb (this ▸ IJ b' (by omega))
 have hother:∀ b k,b ∉ L->(st.bx b).uses (ρ b) k->w'.heap[k]? = w.heap[k]? := fun b k hb hu=>let ⟨h1,h2⟩:=hnot b k hb hu; hF.block k h1 h2
 have NU:∀ i k,i<L.length->(bxL bs i).uses (σ i) k->∀ b,b ∉ L->¬ (st.bx b).uses (ρ b) k:=fun i k hi hu b hb hu'=>by
  obtain ⟨h1,h2⟩:=hnot b k hb hu'
  rcases hbw i k hu with h3 | h3
  ·omega
  ·exact h2 h3
 generalize hst:st.setbs (L.zip (bs.map (renB π)))=st' at *
 have Qs:st'.tm=st.tm:=by rw [<- hst,setbs_tm]
 have hgx:GX E J ρ' n st' a w':=by
  refine { agree:=hA,bx:=⟨fun b => ?_,fun b b' k hb hb' => ?_,fun b k hb => ?_⟩,tm:=fun t ht => ?_,size:=h.size,defers:=h.defers,frm := ?_,own:=fun b k hb => ?_,ile:=IH.le_trans h.ile hle,inew:=fun k hk0 hM => ?_,keepρ:=fun b hb => ?_ }
  ·by_cases hb:b∈L
   ·obtain ⟨i,hi,rfl⟩:=hin b hb
    rw [Gn i hi]
    exact F5 (hB.ok i) (uM i hi) N8
   ·rw [hbx2 b hb]
    exact (h.bx.ok b).keep hle hle' (CJ b hb) (fun k hu=>hother b k hb hu)
  ·by_cases hbL:b∈L
   ·obtain ⟨i,hi,rfl⟩:=hin b hbL
    rw [Gn i hi,pM,uM i hi] at hb
    by_cases CE:b'∈L
    ·obtain ⟨i',hi',rfl⟩:=hin b' CE
     rw [Gn i' hi',pM,uM i' hi'] at hb'
     rw [hB.inj _ _ _ hb hb']
    ·rw [hbx2 b' CE,CJ b' CE] at hb'
     exact absurd hb' (NU i k hi hb b' CE)
   ·rw [hbx2 b hbL,CJ b hbL] at hb
    by_cases CE:b'∈L
    ·obtain ⟨i',hi',rfl⟩:=hin b' CE
     rw [Gn i' hi',pM,uM i' hi'] at hb'
     exact absurd hb (NU i' k hi' hb' b hbL)
    ·rw [hbx2 b' CE,CJ b' CE] at hb'
     exact h.bx.inj _ _ _ hb hb'
  ·by_cases hbL:b∈L
   ·obtain ⟨i,hi,rfl⟩:=hin b hbL
    rw [Gn i hi,pM,uM i hi] at hb
    exact hB.fresh _ _ hb
   ·rw [hbx2 b hbL,CJ b hbL] at hb
    obtain ⟨h1,h2⟩:=hnot b k hbL hb
    rw [hJ k h1 h2]
    exact h.bx.fresh _ _ hb
  ·rw [Qs]; exact (h.tm t ht).mono hle hle'
  ·refine h.frm.trans hF ?_
   rintro x hx ⟨b',hb'⟩
   rcases h.own _ _ (hub b' x hb').2 with h1 | h1
   ·omega
   ·exact h1
  ·by_cases hbL:b∈L
   ·obtain ⟨i,hi,rfl⟩:=hin b hbL
    rw [Gn i hi,pM,uM i hi] at hb
    rcases hbw i k hb with h1 | ⟨b',hb'⟩
    ·exact .inl (Nat.le_trans h.frm.size h1)
    ·exact h.own _ _ (hub b' k hb').2
   ·rw [hbx2 b hbL,CJ b hbL] at hb
    exact h.own _ _ hb
  ·rw [hJ k (Nat.lt_of_lt_of_le hk0 h.frm.size)]
   ·exact h.inew k hk0 hM
   ·rintro ⟨b',hb'⟩
    rcases h.own _ _ (hub b' k hb').2 with h1 | h1
    ·omega
    ·exact hM h1
  ·by_cases hbL:b∈L
   ·obtain ⟨i,hi,rfl⟩:=hin b hbL
    rw [uM i hi]
    by_cases hif:i<fp.length
    ·rw [hσ i hif,<- h.keepρ _ hb]; simp [Ho,hif]
    ·have:=(hnu _ (LG i (by omega) hi)).2; omega
   ·rw [CJ b hbL]; exact h.keepρ b hb
 exact ⟨J,ρ',_,hk,hgx.putO hd' ⟨fun _=>MK hg N8,fun e=>by cases e⟩⟩
end
end Go.Ab
end
section
namespace Go.Ab
open Go
section
variable {P:Program} {E:Env P} {I:IH} {ρ:Ren} {n:Nat} {st:ASt} {a:Act} {w:World}
def uC (n:Nat):List Operand->List Opd->Bool
 | [],[]=>true
 | x::xs,y::ys=>chkOpd n x y&&uC n xs ys
 | _,_=>false
def xI (n:Nat) (ops:Array Oper):Option (Nat × Bool)->Option (Nat × Bool)->Bool
 | none,none=>true
 | some (j,w),some (s,w')=>w==w'&&decide (s<n)&&(match ops[j]? with | some o=>o.dst==some s | none=>false)
 | _,_=>false
def D8 (n:Nat):Option Nat->Option Nat->Bool
 | none,none=>true
 | some x,some y=>x==y&&decide (x<n)
 | _,_=>false
def D9 (P:Program) (n m:Nat) (op:Op) (d:Option Nat):AIns->Bool
  | .op ao=>wQ P n m op d ao
  | .call f args=>match op with
    | .call ⟨.value (.func f'),az,_⟩=>f'==f&&uC n az.toList args&&callOK P f
    | _=>false
  | .callv x args=>match op with
    | .call ⟨.value x',az,_⟩=>chkOpd n x' x&&uC n az.toList args
    | _=>false
def wY (P:Program) (n m:Nat) (ops:Array Oper) (o:Oper) (ao:AOper):Bool :=
 xI n ops o.guard ao.g&&D8 n o.dst ao.d&&D9 P n m o.op o.dst ao.i
theorem Ba (h:GX E I ρ n st a w):∀ {xs:List Operand} {ys:List Opd},uC n xs ys=true->(∀ y,y∈ys->(y.ev st.tm).g=true) ->
    GVs I ρ (xs.map a.eval) (ys.map (avOf st.tm))
  | [],[],_,_=>⟨rfl,fun j v x hv hx=>by simp at hv⟩
  | x::xs,y::ys,hc,hg=>by
    simp only [uC,Bool.and_eq_true] at hc
    have ih:=Ba h hc.2 (fun y hy=>hg y (List.mem_cons_of_mem _ hy))
    refine ⟨by simpa using ih.1,fun j v z hv hz => ?_⟩
    cases j with
    | zero =>
      simp at hv hz
      subst hv; subst hz
      exact opd_v h hc.1 (hg y (List.mem_cons_self ..))
    | succ j=>exact ih.2 j v z (by simpa using hv) (by simpa using hz)
  | [],_::_,hc,_=>by cases hc
  | _::_,[],hc,_=>by cases hc
theorem MI {d d':Option Nat} (h:D8 n d d'=true):d=d'/\∀ x,d'=some x->x<n:=by
 unfold D8 at h
 split at h
 ·exact ⟨rfl,fun x hx=>by cases hx⟩
 ·simp only [Bool.and_eq_true,beq_iff_eq,decide_eq_true_eq] at h
  obtain ⟨rfl,h2⟩:=h
  exact ⟨rfl,fun x hx=>by cases hx; exact h2⟩
 ·cases h
theorem Iy (h:GX E I ρ n st a w) {ops:Array Oper} {o:Oper} {g:Option (Nat × Bool)} (hc:xI n ops o.guard g=true) (hv:guardVC st.tm g) :
  Region.wanted o (yielded ops a.tmps)=guardV st.tm g:=by
 unfold xI at hc
 split at hc
 ·rename_i e; simp [Region.wanted,e,guardV]
 ·rename_i j QU s QI e
  simp only [Bool.and_eq_true,beq_iff_eq,decide_eq_true_eq] at hc
  obtain ⟨⟨rfl,hs⟩,hj⟩:=hc
  have hb:(ops[j]?).bind (·.dst)=some s:=by
   cases hoj:ops[j]? with
   | none=>rw [hoj] at hj; cases hj
   | some o'=>rw [hoj] at hj; simpa using hj
  have ht:=h.tm s hs
  have hsz:s<a.tmps.size:=by rw [h.size]; exact hs
  have hget:a.tmps[s]? = some (a.tmps.getD s undef):=by simp [Array.getD,hsz]
  simp only [Region.wanted,e,guardV,yielded,hb,Option.bind_some,hget]
  simp only [guardVC] at hv
  split at hv
  ·rename_i x hg
   rw [hg] at ht
   have:=ht.2 rfl
   rw [this,hg]
   simp [undef]
  ·rename_i b hg
   rw [hg] at ht
   have:=gv_bool (ht.1 rfl)
   rw [this,hg]
   simp
  ·exact hv.elim
 ·cases hc
theorem Cc {o:Oper} {x:Operand} {az:Array Operand} {ts:Array TypeId} {f:FuncId} {caps:Array Value} (ho:o.op = .call ⟨.value x,az,ts⟩) (hx:a.eval x = .func (.func f) #[] caps) (hf:callOK P f=true) :
    (execOp a.eval o).run P w = .ok (.enter f (az.map a.eval++caps)) w:=by
  unfold callOK at hf
  cases hp:P.funcs[f]? with
  | none=>rw [hp] at hf; cases hf
  | some fn =>
    rw [hp] at hf
    simp only [Bool.and_eq_true,Bool.not_eq_true'] at hf
    obtain ⟨h1,h2⟩:=hf
    have h1':¬ fn.name = "runtime.NumGoroutine" := by simpa using h1
    obtain ⟨b,hb⟩:=Option.isSome_iff_exists.1 h2
    simp [execOp,ho,resolve,hx,Deferred.ofValue,invoke,callFunc,hp,h1',hb]
theorem yI {o:Oper} {f:FuncId} {args:Array Value} {K:Act->World->Prop} {Q:Exit->Act->World->Prop} (he:(execOp a.eval o).run P w = .ok (.enter f args) w)
  (h:Calls P f args w fun e w'=>∃ v,e = .returned v/\K (a.put o.dst v) w'):o.wp P a w K Q:=by
 unfold Oper.wp
 rw [he,Oper.upon_enter]
 refine h.mono ?_
 rintro e w' ⟨v,rfl,hk⟩
 exact hk
theorem wJ (h:GX E I ρ n st a w) (hm:E.m<=10) {f:FuncId} {vs:List Value} {avs:List AV} {d:Option Nat} {K:List Nat->List Nat->ASt->Prop} (hd:∀ x,d=some x->x<n) (hv:GVs I ρ vs avs)
    (hT:TCall P f avs true d st K):Calls P f vs.toArray w fun e w'=>∃ v,e = .returned v/\AK E n (fun st=>∃ rd wr,K rd wr st) (a.put d v) w':=by
  cases hT with
  | lit ds r hc hds hh hr k=>exact H9 h hd hv (hc rfl) hds (hh rfl) hr ⟨_,_,k⟩
  | pure ds r hp hc hds hh hr k=>exact F7 h hd hv hc hds hh hr ⟨_,_,k⟩
  | genL hp az hc ds fp sg nu post hl hn hf hne hnu hra hrf ha hh k =>
    have hv':=xM h (bs:=avs.flatMap AV.owns) hv hc (fun b hb=>hb)
    have h':=h.freeze (avs.flatMap AV.owns)
    refine BP h' hm rfl hd hv' hl hn hf (fun b hb=>⟨?_,(hnu b hb).2⟩) hra hrf ha hh (fun r bs hpo=>⟨(k r bs hpo).1,_,_,(k r bs hpo).2⟩)
    rw [mem_frz,(hnu b hb).1]
    split<;>rfl
  | gen hp ds fp sg nu post hl hn hf hne hnu hra hrf ha hh k=>exact BP h hm rfl hd hv hl hn hf hnu hra hrf ha hh (fun r bs hpo=>⟨(k r bs hpo).1,_,_,(k r bs hpo).2⟩)
theorem yG {f:FuncId} {avs:List AV} {d:Option Nat} {K:List Nat->List Nat->ASt->Prop} (hT:TCall P f avs false d st K):∃ r rd wr,K rd wr (st.putO d (.v false r)):=by
 cases hT with
 | lit ds r hc hds hh hr k=>exact ⟨_,_,_,k⟩
 | pure ds r hp=>cases hp
 | gen hp=>cases hp
 | genL hp=>cases hp
def BA (P:Program) (ops:Array Oper) (Q:Exit->Act->World->Prop) (o:Oper) (K:Act->World->Prop) (a:Act) (w:World):Prop :=
 if Region.wanted o (yielded ops a.tmps) then o.wp P a w K Q\/(o.asks P a w/\LetsOut Q) else K (a.put o.dst undef) w
theorem AK.imp {K K':ASt->Prop} (hk:∀ st,K st->K' st) {a:Act} {w:World} (h:AK E n K a w):AK E n K' a w :=
 let ⟨I,ρ,st,h1,h2⟩:=h; ⟨I,ρ,st,hk _ h1,h2⟩
theorem EE (h:GX E I ρ n st a w) (hm:E.m<=10) {ops:Array Oper} {Q:Exit->Act->World->Prop} {o:Oper} {ao:AOper} (hc:wY P n E.m ops o ao=true) {K:List Nat->List Nat->ASt->Prop} (hT:T P ao st K) :
    BA P ops Q o (AK E n fun st=>∃ rd wr,K rd wr st) a w:=by
  simp only [wY,Bool.and_eq_true] at hc
  obtain ⟨⟨hcg,hcd⟩,hci⟩:=hc
  obtain ⟨hdd,hdn⟩:=MI hcd
  obtain ⟨hgv,hT⟩:=hT
  have hw:=Iy h hcg hgv
  have skip:∀ r,(∃ rd wr,K rd wr (st.putO ao.d (.v false r)))->AK E n (fun st=>∃ rd wr,K rd wr st) (a.put o.dst undef) w:=fun r hk =>
    ⟨I,ρ,_,hk,by rw [hdd]; exact h.putO hdn ⟨(fun e=>by cases e),fun _=>rfl⟩⟩
  unfold BA
  rw [hw]
  cases hi:ao.i with
  | op op =>
    rw [hi] at hT hci
    obtain ⟨h1,h2⟩:=hT
    cases hp:guardV st.tm ao.g with
    | false =>
      simpa using skip _ ⟨_,_,h2 hp⟩
    | true =>
      obtain ⟨hv,hvc,h3⟩:=h1 hp
      obtain ⟨v,w',I',ρ',hr,hg,OZ⟩:=Jc h hci hv hvc
      simp only [if_true]
      refine .inl ?_
      have key:AK E n (fun st=>∃ rd wr,K rd wr st) (a.put o.dst v) w':=by
        refine ⟨I',ρ',_,⟨_,_,h3⟩,?_⟩
        rw [hdd]
        cases hd:ao.d with
        | none=>exact hg
        | some d=>exact hg.put (hdn d hd) ⟨fun _=>OZ (by rw [hdd,hd]; simp),fun e=>by cases e⟩
      unfold Oper.wp
      rcases hr with hr | ⟨hr,hnd⟩
      · rw [hr]; exact key
      · rw [hr,Oper.upon_skip]
        rw [hnd] at key ⊢
        exact key
  | call f args =>
    rw [hi] at hT hci
    simp only [D9] at hci
    split at hci
    · rename_i f' az ts ho
      simp only [Bool.and_eq_true,beq_iff_eq] at hci
      obtain ⟨⟨rfl,hca⟩,hok⟩:=hci
      obtain ⟨h1,h2⟩:=hT
      cases hp:guardV st.tm ao.g with
      | false =>
        rw [hp] at h2
        obtain ⟨r,hk⟩:=yG h2
        simpa using skip r hk
      | true =>
        rw [hp] at h1 h2
        simp only [if_true]
        refine .inl (yI (Cc ho (x := .func f') (caps := #[]) rfl hok) ?_)
        have hvs:=Ba h hca (h1 rfl)
        have:=wJ h hm hdn hvs h2
        rw [hdd]
        simpa [<- Array.toList_map] using this
    · cases hci
  | callv x args =>
    rw [hi] at hT hci
    simp only [D9] at hci
    split at hci
    · rename_i x' az ts ho
      simp only [Bool.and_eq_true] at hci
      obtain ⟨hcx,hca⟩:=hci
      obtain ⟨hg0,h2⟩:=hT
      cases hp:guardV st.tm ao.g with
      | false =>
        rw [hp] at h2
        obtain ⟨r,hk⟩:=yG h2
        simpa using skip r hk
      | true =>
      rw [hp] at h2
      obtain ⟨hg1,h1⟩:=hg0 hp
      split at h2
      · rename_i hb; cases hb
      · rename_i f caps _ hf
        obtain ⟨hok,h2⟩:=h2
        have hx:=opd_v h hcx hg1
        rw [hf] at hx
        obtain ⟨ks,hk1,hk2,hk3⟩:=hx
        · skip
          simp only [if_true]
          refine .inl (yI (Cc ho hk3 hok) ?_)
          have hvs:=Ba h hca h1
          have hvs':GVs I ρ (az.toList.map a.eval++ks.map fun k=>Value.pointer (some ⟨k,0,none⟩)) (args.map (avOf st.tm)++caps.map fun b=>AV.one (.ptr b 0)):=by
            refine ⟨by have:=hvs.1; simp at this; simp [hk1,this],fun j v z hv hz => ?_⟩
            by_cases hj:j<(az.toList.map a.eval).length
            · rw [List.getElem?_append_left hj] at hv
              rw [List.getElem?_append_left (by rw [<- hvs.1]; exact hj)] at hz
              exact hvs.2 j v z hv hz
            · rw [List.getElem?_append_right (by omega)] at hv
              rw [List.getElem?_append_right (by rw [<- hvs.1]; omega)] at hz
              rw [hvs.1] at hv
              generalize j-(args.map (avOf st.tm)).length=i at hv hz
              rw [List.getElem?_map] at hv hz
              cases hki:ks[i]? with
              | none=>rw [hki] at hv; cases hv
              | some k =>
                cases hci:caps[i]? with
                | none=>rw [hci] at hz; cases hz
                | some b =>
                  rw [hki] at hv; rw [hci] at hz
                  simp at hv hz
                  subst hv; subst hz
                  obtain ⟨cap,hr⟩:=hk2 i b k hci hki
                  exact ⟨k,cap,hr,rfl⟩
          have:=wJ h hm hdn hvs' h2
          rw [hdd]
          have e:(az.map a.eval++(ks.map fun k=>Value.pointer (some ⟨k,0,none⟩)).toArray)=(az.toList.map a.eval++ks.map fun k=>Value.pointer (some ⟨k,0,none⟩)).toArray:=by
            apply Array.ext'; simp
          rw [e]
          exact this
      · exact h2.elim
    · cases hci
end
end Go.Ab
end
section
namespace Go.Ab
open Go
section
variable {ev ev':Opd->AV} {bx bx':Nat->Box}
theorem oz {o:Option Opd} {k:Nat} (h:∀ x,o=some x->ev x=ev' x):bnd ev o k=bnd ev' o k:=by
 cases o with
 | none=>rfl
 | some x=>simp only [bnd,h x rfl]
theorem oO {n sz:Nat} : ∀ {ps:List (Nat × Opd)},(∀ p,p∈ps->ev p.2=ev' p.2)->datParts ev bx n sz ps=datParts ev' bx n sz ps/\partOwns ev ps=partOwns ev' ps/\partLend ev bx ps=partLend ev' bx ps
  | [],_=>⟨rfl,rfl,rfl⟩
  | (i,x)::r,h=>by
    obtain ⟨h1,h2,h3⟩:=oO (n:=n) (sz:=sz) (ps:=r) (fun p hp=>h p (List.mem_cons_of_mem _ hp))
    simp only [datParts,partOwns,partLend,h (i,x) (List.mem_cons_self ..),h1,h2,h3,and_self]
theorem OQ (op:AOp) (he:∀ x,x∈op.opds->ev x=ev' x):op.f ev bx=op.f ev' bx:=by
 cases op
 case build zs ps =>
  have h1:∀ p,p∈ps->ev p.2.2=ev' p.2.2:=fun p hp=>he _ (List.mem_map_of_mem hp)
  simp only [AOp.f]
  congr 1
  ·apply propext
   constructor
   ·intro h p hp; rw [<- h1 p hp]; exact h p hp
   ·intro h p hp; rw [h1 p hp]; exact h p hp
  ·congr 2
   exact List.map_congr_left fun p hp=>by rw [h1 p hp]
 case bslice l sz n zs ps =>
  have h1:∀ p,p∈ps->ev p.2=ev' p.2:=fun p hp=>he _ (List.mem_map_of_mem hp)
  obtain ⟨c1,c2,c3⟩:=oO (bx:=bx) (n:=n) (sz:=sz) h1
  simp only [AOp.f,c1,c2,c3]
 case mkfn f cs =>
  have h1:cs.map ev=cs.map ev':=List.map_congr_left fun x hx=>he x hx
  simp only [AOp.f,h1]
 case slstr x lo hi =>
  have h1:=he x (by simp [AOp.opds])
  have h2:∀ y,lo=some y->ev y=ev' y:=fun y hy=>he y (by simp [AOp.opds,hy])
  have h3:∀ y,hi=some y->ev y=ev' y:=fun y hy=>he y (by simp [AOp.opds,hy])
  simp only [AOp.f,h1,oz h2,oz h3]
 case slsl sz x lo hi =>
  have h1:=he x (by simp [AOp.opds])
  have h2:∀ y,lo=some y->ev y=ev' y:=fun y hy=>he y (by simp [AOp.opds,hy])
  have h3:∀ y,hi=some y->ev y=ev' y:=fun y hy=>he y (by simp [AOp.opds,hy])
  simp only [AOp.f,h1,oz h2,oz h3]
 case sslice sz x lo hi =>
  have h1:=he x (by simp [AOp.opds])
  have h2:∀ y,lo=some y->ev y=ev' y:=fun y hy=>he y (by simp [AOp.opds,hy])
  have h3:∀ y,hi=some y->ev y=ev' y:=fun y hy=>he y (by simp [AOp.opds,hy])
  have h4:bnd ev hi=bnd ev' hi:=funext fun k=>oz h3
  simp only [AOp.f,h1,oz h2,h4]
 all_goals
  simp only [AOp.opds,List.mem_cons,List.not_mem_nil,or_false,forall_eq_or_imp,forall_eq] at he
  simp only [AOp.f,he]
theorem Oj (op:AOp) (he:∀ x,x∈op.opds->ev x=ev' x):op.rd ev=op.rd ev':=by
 cases op
 case build zs ps=>rfl
 case bslice l sz n zs ps =>
  have h1:∀ p,p∈ps->ev p.2=ev' p.2:=fun p hp=>he _ (List.mem_map_of_mem hp)
  simp only [AOp.rd,(oO (bx:=fun _ => .absent) (n:=n) (sz:=sz) h1).2.1]
 case mkfn f cs=>rfl
 case slstr x lo hi=>rfl
 case slsl sz x lo hi=>rfl
 case sslice sz x lo hi=>rfl
 all_goals
  simp only [AOp.opds,List.mem_cons,List.not_mem_nil,or_false,forall_eq_or_imp,forall_eq] at he
  simp only [AOp.rd,he]
theorem rJ {sz:Nat} {x:AV} (h:∀ b,b∈lvl x->bx b=bx' b):srcOf sz x bx=srcOf sz x bx':=by
  cases x with
  | one x =>
    cases x
    case own b n sz'=>simp only [srcOf,h b (by simp [lvl])]
    case sub b lo n c sz'=>simp only [srcOf,h b (by simp [lvl])]
    case c y=>cases y<;>rfl
    all_goals rfl
  | _=>rfl
theorem IQ {agg:Bool} {k:Nat} {x:AV} (h:∀ b,b∈lvl x->bx b=bx' b):loadV agg k x bx=loadV agg k x bx':=by
  cases x with
  | one x =>
    cases x
    case ptr b off=>simp only [loadV,h b (by simp [lvl])]
    case aptr b i sz off=>simp only [loadV,h b (by simp [lvl])]
    all_goals rfl
  | _=>rfl
theorem Gf {x:AC} (h:∀ b,b∈ownsOf [x]->bx b=bx' b):dataOf bx x=dataOf bx' x:=by
 cases x
 case own b n sz=>simp only [dataOf,h b (by simp [ownsOf])]
 all_goals rfl
theorem zV {x:AC} {r:List AC} {b:Nat} : b∈ownsOf (x::r)<->b∈ownsOf [x]\/b∈ownsOf r:=by
 cases x<;>simp [ownsOf]
theorem xN:∀ {xs:List AC},(∀ b,b∈ownsOf xs->bx b=bx' b)->datas bx xs=datas bx' xs/\lendOK bx xs=lendOK bx' xs/\frzs bx (ownsOf xs)=frzs bx' (ownsOf xs)
  | [],_=>⟨rfl,rfl,rfl⟩
  | x::r,h=>by
    obtain ⟨h1,h2,h3⟩:=xN (xs:=r) (fun b hb=>h b (zV.2 (.inr hb)))
    refine ⟨?_,?_,List.map_congr_left fun b hb=>by rw [h b hb]⟩
    · simp only [datas,h1,Gf (x:=x) (fun b hb=>h b (zV.2 (.inl hb)))]
    · cases x
      case own b n sz=>simp only [lendOK,h2,h b (by simp [ownsOf])]
      all_goals exact h2
theorem GI {agg:Bool} {k:Nat} {p x:AV} (h:∀ b,b∈lvl p++(match p with | .one (.aptr _ _ _ _)=>ownsOf x.cells | _=>[])->bx b=bx' b):storeV agg k p x bx=storeV agg k p x bx':=by
  cases p with
  | one p =>
    cases p
    case ptr b off=>simp only [storeV,h b (by simp [lvl])]
    case aptr b i sz off =>
      obtain ⟨h1,h2,h3⟩:=xN (bx:=bx) (bx':=bx') (xs:=x.cells) (fun c hc=>h c (by simp only [lvl,List.mem_append]; exact .inr hc))
      have h4:=h b (by simp [lvl])
      cases x<;>cases agg<;>first | rfl | (simp only [storeV,h4,h1,h2,h3])
    all_goals rfl
  | _=>rfl
theorem wC {n sz:Nat} : ∀ {ps:List (Nat × Opd)},(∀ b,b∈partOwns ev ps->bx b=bx' b)->datParts ev bx n sz ps=datParts ev bx' n sz ps/\partLend ev bx ps=partLend ev bx' ps
  | [],_=>⟨rfl,rfl⟩
  | (i,x)::r,h=>by
    obtain ⟨h1,h2⟩:=wC (n:=n) (sz:=sz) (ps:=r) (fun b hb=>h b (by simp only [partOwns,List.mem_append]; exact .inr hb))
    obtain ⟨g1,g2,g3⟩:=xN (bx:=bx) (bx':=bx') (xs:=(ev x).cells) (fun b hb=>h b (by simp only [partOwns,List.mem_append]; exact .inl hb))
    simp only [datParts,partLend,h1,h2,g1,g2,and_self]
theorem OO (op:AOp) (hb:∀ b,b∈op.rd ev->bx b=bx' b):op.f ev bx=op.f ev bx':=by
  cases op
  case load agg k p=>exact IQ hb
  case store agg k p x=>exact GI hb
  case alloc l zs=>simp only [AOp.f,hb l (by simp [AOp.rd])]
  case allocB T e l r=>simp only [AOp.f,hb l (by simp [AOp.rd]),hb r (by simp [AOp.rd])]
  case allocA l sz n zs=>simp only [AOp.f,hb l (by simp [AOp.rd])]
  case box l x=>simp only [AOp.f,hb l (by simp [AOp.rd])]
  case bslice l sz n zs ps =>
    obtain ⟨h1,h2⟩:=wC (bx:=bx) (bx':=bx') (n:=n) (sz:=sz) (ps:=ps) (fun b hm=>hb b (by simp only [AOp.rd]; exact List.mem_cons_of_mem _ hm))
    have h3:frzs bx (partOwns ev ps)=frzs bx' (partOwns ev ps):=List.map_congr_left fun b hm=>by rw [hb b (by simp only [AOp.rd]; exact List.mem_cons_of_mem _ hm)]
    simp only [AOp.f,hb l (by simp [AOp.rd]),h1,h2,h3]
  case makes l sz bytes zs n m=>simp only [AOp.f,hb l (by simp [AOp.rd])]
  case cstr x=>simp only [AOp.f,rJ hb]
  case slarr sz n x =>
    simp only [AOp.f]
    cases hx:ev x with
    | one y =>
      cases y
      case aptr b i sz off =>
        have:=hb b (by simp [AOp.rd,lvl,hx])
        cases i<;>cases off<;>simp only [this]
      all_goals rfl
    | _=>rfl
  case append l sz bytes s x =>
    have h1:=hb l (by simp [AOp.rd])
    simp only [AOp.f,rJ (x:=ev x) (fun b hb'=>hb b (by simp [AOp.rd,hb'])),h1]
    cases hs:ev s with
    | one y =>
      cases y
      case own b n sz'=>simp only [hb b (by simp [AOp.rd,lvl,hs])]
      all_goals rfl
    | _=>rfl
  case copy sz d x =>
    simp only [AOp.f,rJ (x:=ev x) (fun b hb'=>hb b (by simp [AOp.rd,hb']))]
    cases hs:ev d with
    | one y =>
      cases y
      case own b n sz'=>simp only [hb b (by simp [AOp.rd,lvl,hs])]
      all_goals rfl
    | _=>rfl
  case sapp l sz bytes s x =>
    have h1:=hb l (by simp [AOp.rd])
    simp only [AOp.f,sappV,rJ (x:=ev x) (fun b hb'=>hb b (by simp [AOp.rd,hb'])),h1]
    generalize srcOf sz (ev x) bx'=so
    cases hs:ev s with
    | one y =>
      cases y
      case sub b lo n c sz' =>
        have h2:=hb b (by simp [AOp.rd,lvl,hs])
        cases c<;>rcases so with _ | ⟨p,ys⟩<;>first | rfl | (simp only [h2])
      all_goals (rcases so with _ | ⟨p,ys⟩<;>rfl)
    | _=>rcases so with _ | ⟨p,ys⟩<;>rfl
  case appz l sz bytes zs s x =>
    have h1:=hb l (by simp [AOp.rd])
    simp only [AOp.f,appzV,h1]
    generalize ev x=y'
    have hb2:∀ b,b∈lvl (ev s)->bx b=bx' b:=fun b hb'=>hb b (by simp [AOp.rd,hb'])
    rcases y' with x | x | x
    · rcases x with c | _ | _ | _ | _ | _ | _ | _ | _
      · rcases c with v | _ | _
        · cases v
          case int k q =>
            cases hs:ev s with
            | one y =>
              cases y
              case sub b lo n c sz' =>
                have h2:=hb2 b (by simp [lvl,hs])
                cases c<;>simp [h2]
              all_goals rfl
            | _=>rfl
          all_goals (generalize ev s=z; rcases z with (_ | _ | _ | _ | ⟨b,lo,n,_ | c,sz'⟩ | _ | _ | _ | _) | _ | _<;>rfl)
        all_goals (generalize ev s=z; rcases z with (_ | _ | _ | _ | ⟨b,lo,n,_ | c,sz'⟩ | _ | _ | _ | _) | _ | _<;>rfl)
      all_goals (generalize ev s=z; rcases z with (_ | _ | _ | _ | ⟨b,lo,n,_ | c,sz'⟩ | _ | _ | _ | _) | _ | _<;>rfl)
    all_goals (generalize ev s=z; rcases z with (_ | _ | _ | _ | ⟨b,lo,n,_ | c,sz'⟩ | _ | _ | _ | _) | _ | _<;>rfl)
  case scpy sz d x =>
    have ht:∀ m,lvl (truncS m (ev x))=lvl (ev x):=fun m=>by rcases ev x with (_ | _ | _ | _ | _ | _ | _ | _ | _) | _ | _<;>rfl
    have hsrc:∀ m,srcOf sz (truncS m (ev x)) bx=srcOf sz (truncS m (ev x)) bx':=fun m=>rJ (fun b hb'=>hb b (by rw [ht] at hb'; simp [AOp.rd,hb']))
    simp only [AOp.f,scpyV,hsrc]
    cases hs:ev d with
    | one y =>
      cases y
      case own b n sz' =>
        have h2:=hb b (by simp [AOp.rd,lvl,hs])
        simp only [asSub]
        rcases srcOf sz (truncS n (ev x)) bx' with _ | ⟨p,ys⟩<;>first | rfl | (simp only [h2])
      case sub b lo n c sz' =>
        have h2:=hb b (by simp [AOp.rd,lvl,hs])
        simp only [asSub]
        rcases srcOf sz (truncS n (ev x)) bx' with _ | ⟨p,ys⟩<;>first | rfl | (simp only [h2])
      all_goals rfl
    | _=>rfl
  case ovl x y =>
    have key:∀ (u:AV),(∀ b,b∈lvl u->bx b=bx' b)->∀ b lo n c sz,asSub u=some (b,lo,n,c,sz)->bx b=bx' b:=by
      intro u hu b lo n c sz hs
      unfold asSub at hs
      split at hs
      · cases hs; exact hu _ (by simp [lvl])
      · cases hs; exact hu _ (by simp [lvl])
      · cases hs
    have k1:=key (ev x) (fun b hb'=>hb b (by simp [AOp.rd,hb']))
    have k2:=key (ev y) (fun b hb'=>hb b (by simp [AOp.rd,hb']))
    simp only [AOp.f,ovlV]
    generalize asSub (ev x)=u at k1
    generalize asSub (ev y)=v at k2
    rcases u with _ | ⟨b,lo,n,c,sz⟩<;>rcases v with _ | ⟨b',lo',n',c',sz'⟩<;>try rfl
    simp only [k1 b lo n c sz rfl,k2 b' lo' n' c' sz' rfl]
  case sclr sz zs x =>
    simp only [AOp.f,sclrV]
    cases hs:ev x with
    | one y =>
      cases y
      case own b n sz'=>simp only [asSub,hb b (by simp [AOp.rd,lvl,hs])]
      case sub b lo n c sz'=>simp only [asSub,hb b (by simp [AOp.rd,lvl,hs])]
      all_goals rfl
    | _=>rfl
  all_goals rfl
theorem JA {e e':Opd->Slot} (op:AOp) (he:∀ x,x∈op.opds->e x=e' x) (h:op.valid e):op.valid e':=by
 cases op
 case pick c a b =>
  have h1:=he c (by simp [AOp.opds])
  have h2:=he a (by simp [AOp.opds])
  have h3:=he b (by simp [AOp.opds])
  simp only [AOp.valid,h1,h2,h3] at h ⊢
  exact h
 all_goals exact fun x hx=>he x hx ▸ h x hx
theorem Lu {x y:AC} (h:Cv bx x y) (hb:∀ b,b∈ownsOf [x]->bx b=bx' b):Cv bx' x y:=by
 cases h with
 | refl=>exact .refl _
 | nsl sz=>exact .nsl sz
 | own b n sz es ha hn=>exact .own b n sz es (by rw [<- hb b (by simp [ownsOf])]; exact ha) hn
theorem MF {xs ys:List AC} (h:CvL bx xs ys) (hb:∀ b,b∈ownsOf xs->bx b=bx' b):CvL bx' xs ys:=by
 induction h with
 | nil=>exact .nil
 | cons h t ih=>exact .cons (Lu h fun b hb'=>hb b (mW.2 (.inl hb'))) (ih fun b hb'=>hb b (mW.2 (.inr hb')))
theorem MB {x y:AV} (h:CvA bx x y) (hb:∀ b,b∈x.owns->bx b=bx' b):CvA bx' x y:=by
 cases h with
 | one h=>exact .one (Lu h hb)
 | agg h=>exact .agg (MF h hb)
theorem AL {xs ys:List AV} (h:CvAs bx xs ys) (hb:∀ b,b∈xs.flatMap AV.owns->bx b=bx' b):CvAs bx' xs ys:=by
 induction h with
 | nil=>exact .nil
 | cons h t ih=>exact .cons (MB h fun b hb'=>hb b (by rw [List.flatMap_cons]; exact List.mem_append_left _ hb')) (ih fun b hb'=>hb b (by rw [List.flatMap_cons]; exact List.mem_append_right _ hb'))
end
structure xu where
 rd:List Nat
 wr:List Nat
 outs:Slot->List (Nat × Box)->Prop
inductive oJ (P:Program) (f:FuncId) (avs:List AV) (p:Bool) (bx:Nat->Box):xu->Prop
 | lit (ds:List AV) (r:AV) (hc:p=true->CvAs bx avs ds) (hd:ds.all (·.all AC.isData)=true) (h:p=true->APure P f ds r) (hr:r.all AC.isLit=true) :
   oJ P f avs p bx ⟨avs.flatMap AV.owns,[],fun s bs=>s = .v p r/\bs=[]⟩
 | pure (ds:List AV) (r:AV) (hp:p=true) (hc:CvAs bx avs ds) (hd:ds.all (·.all AC.isData)=true) (h:APure P f ds r) (hr:r.all AC.isData=true) :
   oJ P f avs p bx ⟨avs.flatMap AV.owns,avs.flatMap AV.owns,fun s bs=>s = .v true r/\bs=(avs.flatMap AV.owns).map fun b=>(b,frzB (bx b))⟩
 | gen (hp:p=true) (ds:List AV) (fp:List Box) (sg nu:List Nat) (post:AV->List Box->Prop)
   (hl:sg.length=fp.length) (hn:(sg++nu).Nodup) (hf:∀ i,i<fp.length->bx ((sg++nu).getD i 0)=renB (fun b=>(sg++nu).getD b 0) (fp.getD i .absent))
   (hne:∃ r bs,post r bs) (hv:∀ b,b∈nu->bx b = .absent/\10<=b) (hra:(ds.all fun x=>x.all (AC.refsLt fp.length))=true) (hrf:fp.all (Box.refsLt fp.length)=true) (ha:avs=ds.map (renA fun b=>(sg++nu).getD b 0)) (h:ACalls P f ds fp post)
   (hlen:∀ r bs,post r bs->bs.length=(sg++nu).length) :
   oJ P f avs p bx ⟨sg++nu,sg++nu,fun s bs=>∃ r bs',post r bs'/\s = .v true (renA (fun b=>(sg++nu).getD b 0) r)/\bs=(sg++nu).zip (bs'.map (renB fun b=>(sg++nu).getD b 0))⟩
 | genL (hp:p=true) (az:List AV) (hc:CvAs bx avs az) (ds:List AV) (fp:List Box) (sg nu:List Nat) (post:AV->List Box->Prop)
   (hl:sg.length=fp.length) (hn:(sg++nu).Nodup) (hf:∀ i,i<fp.length->(if (sg++nu).getD i 0∈avs.flatMap AV.owns then frzB (bx ((sg++nu).getD i 0)) else bx ((sg++nu).getD i 0))=renB (fun b=>(sg++nu).getD b 0) (fp.getD i .absent))
   (hne:∃ r bs,post r bs) (hv:∀ b,b∈nu->bx b = .absent/\10<=b) (hra:(ds.all fun x=>x.all (AC.refsLt fp.length))=true) (hrf:fp.all (Box.refsLt fp.length)=true) (ha:az=ds.map (renA fun b=>(sg++nu).getD b 0)) (h:ACalls P f ds fp post)
   (hlen:∀ r bs,post r bs->bs.length=(sg++nu).length) :
   oJ P f avs p bx ⟨avs.flatMap AV.owns++(sg++nu),avs.flatMap AV.owns++(sg++nu),fun s bs=>∃ r bs',post r bs'/\s = .v true (renA (fun b=>(sg++nu).getD b 0) r) /\
    bs=((avs.flatMap AV.owns).map fun b=>(b,frzB (bx b)))++(sg++nu).zip (bs'.map (renB fun b=>(sg++nu).getD b 0))⟩
def vG (P:Program) (o:AOper) (st:ASt) (D:xu):Prop :=
  guardVC st.tm o.g/\match o.i with
    | .op op=>(guardV st.tm o.g=true->op.valid (Opd.ev st.tm)/\(op.f (avOf st.tm) st.bx).vc /\
        D=⟨op.rd (avOf st.tm),(op.f (avOf st.tm) st.bx).sets.map (·.1),fun s bs=>s = .v true (op.f (avOf st.tm) st.bx).v/\bs=(op.f (avOf st.tm) st.bx).sets⟩) /\
        (guardV st.tm o.g=false->D=⟨[],[],fun s bs=>s = .v false (.one .junk)/\bs=[]⟩)
    | .call f args=>(guardV st.tm o.g=true->∀ x,x∈args->(x.ev st.tm).g=true)/\oJ P f (args.map (avOf st.tm)) (guardV st.tm o.g) st.bx D
    | .callv x args=>(guardV st.tm o.g=true->(x.ev st.tm).g=true/\∀ x,x∈args->(x.ev st.tm).g=true)/\match guardV st.tm o.g,avOf st.tm x with
      | false,_=>oJ P 0 [] false st.bx D
      | true,.one (.fn f caps)=>callOK P f=true/\oJ P f (args.map (avOf st.tm)++caps.map fun b => .one (.ptr b 0)) true st.bx D
      | true,_=>False
section
variable {P:Program} {st st':ASt} {K:List Nat->List Nat->ASt->Prop}
theorem vY {f:FuncId} {avs:List AV} {p:Bool} {d:Option Nat} : TCall P f avs p d st K<->∃ D,oJ P f avs p st.bx D/\∀ s bs,D.outs s bs->K D.rd D.wr ((st.setbs bs).putO d s):=by
  constructor
  · intro h
    cases h with
    | lit ds r hc hd hh hr k=>exact ⟨_,.lit ds r hc hd hh hr,fun s bs ⟨h1,h2⟩=>by subst h1; subst h2; exact k⟩
    | pure ds r hp hc hd hh hr k=>exact ⟨_,.pure ds r hp hc hd hh hr,fun s bs ⟨h1,h2⟩=>by subst h1; subst h2; rw [setbs_frz_eq]; exact k⟩
    | genL hp az hc ds fp sg nu post hl hn hf hne hv hra hrf ha hh k =>
      exact ⟨_,.genL hp az hc ds fp sg nu post hl hn hf hne hv hra hrf ha hh (fun r bs hp=>(k r bs hp).1),fun s bs ⟨r,bs',hp,h1,h2⟩=>by
        subst h1; subst h2; rw [setbs_append,setbs_frz_eq]; exact (k r bs' hp).2⟩
    | gen hp ds fp sg nu post hl hn hf hne hv hra hrf ha hh k =>
      exact ⟨_,.gen hp ds fp sg nu post hl hn hf hne hv hra hrf ha hh (fun r bs hp=>(k r bs hp).1),fun s bs ⟨r,bs',hp,h1,h2⟩=>by subst h1; subst h2; exact (k r bs' hp).2⟩
  · rintro ⟨D,hD,hk⟩
    cases hD with
    | lit ds r hc hd hh hr=>exact .lit ds r hc hd hh hr (hk _ _ ⟨rfl,rfl⟩)
    | pure ds r hp hc hd hh hr=>exact .pure ds r hp hc hd hh hr (by have:=hk _ _ ⟨rfl,rfl⟩; rw [setbs_frz_eq] at this; exact this)
    | genL hp az hc ds fp sg nu post hl hn hf hne hv hra hrf ha hh hlen =>
      exact .genL hp az hc ds fp sg nu post hl hn hf hne hv hra hrf ha hh (fun r bs hp=>⟨hlen r bs hp,by have:=hk _ _ ⟨r,bs,hp,rfl,rfl⟩; rw [setbs_append,setbs_frz_eq] at this; exact this⟩)
    | gen hp ds fp sg nu post hl hn hf hne hv hra hrf ha hh hlen =>
      exact .gen hp ds fp sg nu post hl hn hf hne hv hra hrf ha hh (fun r bs hp=>⟨hlen r bs hp,hk _ _ ⟨r,bs,hp,rfl,rfl⟩⟩)
theorem qp {o:AOper} : T P o st K<->∃ D,vG P o st D/\∀ s bs,D.outs s bs->K D.rd D.wr ((st.setbs bs).putO o.d s):=by
  unfold T vG
  cases o.i with
  | op op =>
    unfold TOp
    cases hp:guardV st.tm o.g with
    | true =>
      constructor
      · rintro ⟨hg,h1,_⟩
        obtain ⟨a1,a2,a3⟩:=h1 rfl
        exact ⟨_,⟨hg,fun _=>⟨a1,a2,rfl⟩,fun e=>by cases e⟩,fun s bs ⟨e1,e2⟩=>by subst e1; subst e2; exact a3⟩
      · rintro ⟨D,⟨hg,h1,_⟩,hk⟩
        obtain ⟨a1,a2,rfl⟩:=h1 rfl
        exact ⟨hg,fun _=>⟨a1,a2,hk _ _ ⟨rfl,rfl⟩⟩,fun e=>by cases e⟩
    | false =>
      constructor
      · rintro ⟨hg,_,h2⟩
        exact ⟨_,⟨hg,(fun e=>by cases e),fun _=>rfl⟩,fun s bs ⟨e1,e2⟩=>by subst e1; subst e2; exact h2 rfl⟩
      · rintro ⟨D,⟨hg,_,h2⟩,hk⟩
        have:=h2 rfl
        subst this
        exact ⟨hg,(fun e=>by cases e),fun _=>hk _ _ ⟨rfl,rfl⟩⟩
  | call f args =>
    simp only [TCallK,vY]
    constructor
    · rintro ⟨hg,h1,D,h2,h3⟩; exact ⟨D,⟨hg,h1,h2⟩,h3⟩
    · rintro ⟨D,⟨hg,h1,h2⟩,h3⟩; exact ⟨hg,h1,D,h2,h3⟩
  | callv x args =>
    simp only
    cases guardV st.tm o.g with
    | false =>
      simp only [TCallK,vY]
      constructor
      · rintro ⟨hg,h1,D,h2,h3⟩; exact ⟨D,⟨hg,h1,h2⟩,h3⟩
      · rintro ⟨D,⟨hg,h1,h2⟩,h3⟩; exact ⟨hg,h1,D,h2,h3⟩
    | true =>
    cases avOf st.tm x with
    | one y =>
      cases y
      case fn f caps =>
        simp only [TCallK,vY]
        constructor
        · rintro ⟨hg,h1,h0,D,h2,h3⟩; exact ⟨D,⟨hg,h1,h0,h2⟩,h3⟩
        · rintro ⟨D,⟨hg,h1,h0,h2⟩,h3⟩; exact ⟨hg,h1,h0,D,h2,h3⟩
      all_goals exact ⟨fun h=>h.2.2.elim,fun ⟨D,h,_⟩=>h.2.2.elim⟩
    | _=>exact ⟨fun h=>h.2.2.elim,fun ⟨D,h,_⟩=>h.2.2.elim⟩
theorem oJ.bx {f:FuncId} {avs:List AV} {p:Bool} {bx bx':Nat->Box} {D:xu} (h:oJ P f avs p bx D) (hb:∀ b,b∈D.rd->bx b=bx' b):oJ P f avs p bx' D:=by
  cases h with
  | lit ds r hc hd hh hr=>exact .lit ds r (fun e=>AL (hc e) hb) hd hh hr
  | pure ds r hp hc hd hh hr =>
    have e:((avs.flatMap AV.owns).map fun b=>(b,frzB (bx b)))=(avs.flatMap AV.owns).map fun b=>(b,frzB (bx' b)):=List.map_congr_left fun b hb'=>by rw [hb b hb']
    simp only [e]
    exact .pure ds r hp (AL hc hb) hd hh hr
  | genL hp az hc ds fp sg nu post hl hn hf hne hv hra hrf ha hh hlen =>
    have e:((avs.flatMap AV.owns).map fun b=>(b,frzB (bx b)))=(avs.flatMap AV.owns).map fun b=>(b,frzB (bx' b)):=List.map_congr_left fun b hb'=>by rw [hb b (List.mem_append_left _ hb')]
    simp only [e]
    refine .genL hp az (AL hc fun b hm=>hb b (List.mem_append_left _ hm)) ds fp sg nu post hl hn (fun i hi => ?_) hne (fun b hm => ?_) hra hrf ha hh hlen
    · rw [<- hb]
      · exact hf i hi
      · show (sg++nu).getD i 0∈avs.flatMap AV.owns++(sg++nu)
        have:i<(sg++nu).length:=by simp; omega
        rw [List.getD_eq_getElem?_getD,List.getElem?_eq_getElem this]
        exact List.mem_append_right _ (List.getElem_mem this)
    · rw [<- hb b (List.mem_append_right _ (List.mem_append_right _ hm))]; exact hv b hm
  | gen hp ds fp sg nu post hl hn hf hne hv hra hrf ha hh hlen =>
    refine .gen hp ds fp sg nu post hl hn (fun i hi => ?_) hne (fun b hm => ?_) hra hrf ha hh hlen
    · rw [<- hb]
      · exact hf i hi
      · show (sg++nu).getD i 0∈sg++nu
        have:i<(sg++nu).length:=by simp; omega
        rw [List.getD_eq_getElem?_getD,List.getElem?_eq_getElem this]
        exact List.getElem_mem this
    · rw [<- hb b (List.mem_append_right _ hm)]; exact hv b hm
theorem oJ.ne {f:FuncId} {avs:List AV} {p:Bool} {bx:Nat->Box} {D:xu} (h:oJ P f avs p bx D):∃ s bs,D.outs s bs:=by
 cases h with
 | lit=>exact ⟨_,_,rfl,rfl⟩
 | pure=>exact ⟨_,_,rfl,rfl⟩
 | gen hp ds fp sg nu post hl hn hf hne=>obtain ⟨r,bs,h⟩:=hne; exact ⟨_,_,r,bs,h,rfl,rfl⟩
 | genL hp az hc ds fp sg nu post hl hn hf hne=>obtain ⟨r,bs,h⟩:=hne; exact ⟨_,_,r,bs,h,rfl,rfl⟩
theorem oJ.fst {f:FuncId} {avs:List AV} {p:Bool} {bx:Nat->Box} {D:xu} (h:oJ P f avs p bx D) {s:Slot} {bs:List (Nat × Box)} (ho:D.outs s bs):∀ b,b∈bs.map (·.1)->b∈D.wr:=by
  cases h with
  | lit=>obtain ⟨_,rfl⟩:=ho; intro b hb; simp at hb
  | pure=>obtain ⟨_,rfl⟩:=ho; intro b hb; simpa using hb
  | genL hp az hc ds fp sg nu post hl hn hf hne =>
    obtain ⟨r,bs',_,_,rfl⟩:=ho
    intro b hb
    rw [List.map_append,List.mem_append] at hb
    rcases hb with hb | hb
    · exact List.mem_append_left _ (by simpa using hb)
    · obtain ⟨x,hx,rfl⟩:=List.mem_map.1 hb
      exact List.mem_append_right _ (List.of_mem_zip (a:=x.1) (b:=x.2) hx).1
  | gen hp ds fp sg nu post hl hn hf hne =>
    obtain ⟨r,bs',_,_,rfl⟩:=ho
    intro b hb
    obtain ⟨x,hx,rfl⟩:=List.mem_map.1 hb
    exact (List.of_mem_zip (a:=x.1) (b:=x.2) hx).1
theorem vG.ne {o:AOper} {D:xu} (h:vG P o st D):∃ s bs,D.outs s bs:=by
 obtain ⟨_,h⟩:=h
 split at h
 ·cases hp:guardV st.tm o.g with
  | true=>obtain ⟨_,_,rfl⟩:=h.1 hp; exact ⟨_,_,rfl,rfl⟩
  | false=>have:=h.2 hp; subst this; exact ⟨_,_,rfl,rfl⟩
 ·exact h.2.ne
 ·obtain ⟨_,h⟩:=h
  split at h
  ·exact h.ne
  ·exact h.2.ne
  ·exact h.elim
theorem vG.fst {o:AOper} {D:xu} (h:vG P o st D) {s:Slot} {bs:List (Nat × Box)} (ho:D.outs s bs):∀ b,b∈bs.map (·.1)->b∈D.wr:=by
 obtain ⟨_,h⟩:=h
 split at h
 ·cases hp:guardV st.tm o.g with
  | true=>obtain ⟨_,_,rfl⟩:=h.1 hp; obtain ⟨_,rfl⟩:=ho; exact fun b hb=>hb
  | false=>have:=h.2 hp; subst this; obtain ⟨_,rfl⟩:=ho; exact fun b hb=>hb
 ·exact h.2.fst ho
 ·obtain ⟨_,h⟩:=h
  split at h
  ·exact h.fst ho
  ·exact h.2.fst ho
  ·exact h.elim
def AIns.slots (i:AIns):List Nat:=match i with
 | AIns.op o=>o.opds.flatMap Opd.slots
 | AIns.call _ args=>args.flatMap Opd.slots
 | AIns.callv x args=>x.slots++args.flatMap Opd.slots
def AOper.slots (o:AOper):List Nat:=o.g.toList.map (·.1)++o.i.slots
def AOper.IM (o:AOper):Bool:=match o.i with
 | AIns.op _=>true
 | _=>false
theorem EP {tm tm':Nat->Slot} {x:Opd} (h:∀ t,t∈x.slots->tm t=tm' t):x.ev tm=x.ev tm':=by
 cases x with
 | t s=>exact h s (by simp [Opd.slots])
 | k x=>rfl
theorem Iz {tm tm':Nat->Slot} {g:Option (Nat × Bool)} (h:∀ t,t∈g.toList.map (·.1)->tm t=tm' t):(guardVC tm g<->guardVC tm' g)/\guardV tm g=guardV tm' g:=by
  cases g with
  | none=>exact ⟨Iff.rfl,rfl⟩
  | some p =>
    obtain ⟨s,w⟩:=p
    have:=h s (by simp)
    simp only [guardVC,guardV,this,and_self,iff_self]
theorem vG.local {o:AOper} {D:xu} (h:vG P o st D) (ht:∀ t,t∈o.slots->st.tm t=st'.tm t) (hb:∀ b,b∈D.rd->st.bx b=st'.bx b):vG P o st' D:=by
  unfold vG at h ⊢
  obtain ⟨hg1,hg2⟩:=Iz (tm:=st.tm) (tm':=st'.tm) (g:=o.g) (fun t h'=>ht t (List.mem_append_left _ h'))
  have ht':∀ t,t∈o.i.slots->st.tm t=st'.tm t:=fun t h'=>ht t (List.mem_append_right _ h')
  refine ⟨hg1.1 h.1,?_⟩
  obtain ⟨_,h⟩:=h
  rw [hg2] at h
  cases hi:o.i with
  | op op =>
    simp only [hi,AIns.slots] at h ht' ⊢
    have he:∀ x,x∈op.opds->Opd.ev st.tm x=Opd.ev st'.tm x:=fun x hx=>EP fun t hm=>ht' t (List.mem_flatMap.2 ⟨x,hx,hm⟩)
    have hea:∀ x,x∈op.opds->avOf st.tm x=avOf st'.tm x:=fun x hx=>by unfold avOf; rw [he x hx]
    obtain ⟨h1,h2⟩:=h
    refine ⟨fun e => ?_,h2⟩
    obtain ⟨a1,a2,rfl⟩:=h1 e
    have hf:op.f (avOf st.tm) st.bx=op.f (avOf st'.tm) st'.bx:=(OO op hb).trans (OQ op hea)
    rw [hf] at a2
    refine ⟨JA op he a1,a2,?_⟩
    rw [hf,Oj op hea]
  | call f args =>
    simp only [hi,AIns.slots] at h ht' ⊢
    have he:∀ x,x∈args->Opd.ev st.tm x=Opd.ev st'.tm x:=fun x hx=>EP fun t hm=>ht' t (List.mem_flatMap.2 ⟨x,hx,hm⟩)
    have hm:args.map (avOf st.tm)=args.map (avOf st'.tm):=List.map_congr_left fun x hx=>by unfold avOf; rw [he x hx]
    rw [hm] at h
    exact ⟨fun e x hx=>he x hx ▸ h.1 e x hx,h.2.bx hb⟩
  | callv x args =>
    simp only [hi,AIns.slots] at h ht' ⊢
    have he:∀ x,x∈args->Opd.ev st.tm x=Opd.ev st'.tm x:=fun x hx=>EP fun t hm=>ht' t (List.mem_append_right _ (List.mem_flatMap.2 ⟨x,hx,hm⟩))
    have hex:Opd.ev st.tm x=Opd.ev st'.tm x:=EP fun t hm=>ht' t (List.mem_append_left _ hm)
    have hm:args.map (avOf st.tm)=args.map (avOf st'.tm):=List.map_congr_left fun x hx=>by unfold avOf; rw [he x hx]
    have hmx:avOf st.tm x=avOf st'.tm x:=by unfold avOf; rw [hex]
    obtain ⟨h1,h2⟩:=h
    rw [hm,hmx] at h2
    refine ⟨fun e=>⟨hex ▸ (h1 e).1,fun y hy=>he y hy ▸ (h1 e).2 y hy⟩,?_⟩
    split at h2
    · exact h2.bx hb
    · exact ⟨h2.1,h2.2.bx hb⟩
    · exact h2.elim
theorem vG.Qa {o:AOper} {D D':xu} (hop:o.IM=true) (h:vG P o st D) (h':vG P o st D'):D=D':=by
  unfold vG at h h'
  unfold AOper.IM at hop
  cases hi:o.i with
  | op op =>
    rw [hi] at h h'
    cases hp:guardV st.tm o.g with
    | true=>exact (h.2.1 hp).2.2.trans (h'.2.1 hp).2.2.symm
    | false=>exact (h.2.2 hp).trans (h'.2.2 hp).symm
  | call f args=>rw [hi] at hop; cases hop
  | callv x args=>rw [hi] at hop; cases hop
end
end Go.Ab
end
section
namespace Go.Ab
open Go
section
variable {P:Program} {st st':ASt}
theorem qR {a b:List Nat} : disj a b=true<->∀ x,x∈a->x ∉ b:=by
 simp [disj,List.all_eq_true]
def sV (x y:AOper):Bool :=
 disj x.d.toList y.slots&&disj y.d.toList x.slots&&disj x.d.toList y.d.toList&&(x.IM||y.IM)
def app (x:AOper) (st:ASt) (s:Slot) (bs:List (Nat × Box)):ASt:=(st.setbs bs).putO x.d s
theorem sZ {x:AOper} {s:Slot} {bs:List (Nat × Box)} {t:Nat} (h:t ∉ x.d.toList):(app x st s bs).tm t=st.tm t:=by
  unfold app
  cases hd:x.d with
  | none=>simp only [ASt.putO,setbs_tm]
  | some d =>
    simp only [ASt.putO,ASt.put_tm,setbs_tm]
    rw [if_neg]
    intro e; subst e; exact h (by simp [hd])
theorem uV (st:ASt) (d:Option Nat) (s:Slot):(st.putO d s).bx=st.bx:=by cases d<;>rfl
theorem sW {x:AOper} {s:Slot} {bs:List (Nat × Box)} {b:Nat} (h:b ∉ bs.map (·.1)):(app x st s bs).bx b=st.bx b:=by
 unfold app
 rw [uV,rH _ _ h]
theorem yx (l:List (Nat × Box)) {st st':ASt} {b:Nat} (h:st.bx b=st'.bx b):(st.setbs l).bx b=(st'.setbs l).bx b:=by
  induction l generalizing st st' with
  | nil=>exact h
  | cons x l ih =>
    obtain ⟨c,y⟩:=x
    simp only [ASt.setbs]
    apply ih
    simp only [ASt.setb_bx]
    split
    · rfl
    · exact h
theorem rG (l:List (Nat × Box)) {st st':ASt} {b:Nat} (h:b∈l.map (·.1)):(st.setbs l).bx b=(st'.setbs l).bx b:=by
  induction l generalizing st st' with
  | nil=>simp at h
  | cons x l ih =>
    obtain ⟨c,y⟩:=x
    simp only [ASt.setbs]
    by_cases hc:b=c
    · apply yx
      simp [ASt.setb_bx,hc]
    · simp only [List.map_cons,List.mem_cons] at h
      exact ih (h.resolve_left hc)
theorem BJ {x y:AOper} {s s':Slot} {bs bs':List (Nat × Box)} (hd:disj x.d.toList y.d.toList=true) (hb:∀ b,b∈bs.map (·.1)->b ∉ bs'.map (·.1)) :
    app y (app x st s bs) s' bs'=app x (app y st s' bs') s bs:=by
  rw [qR] at hd
  apply ASt.ext'
  · funext t
    by_cases h1:t∈x.d.toList
    · have h2:=hd t h1
      rw [sZ h2]
      cases hx:x.d with
      | none=>rw [hx] at h1; simp at h1
      | some d =>
        rw [hx] at h1
        simp at h1
        subst h1
        simp [app,hx,ASt.putO,ASt.put_tm]
    · rw [sZ (x:=x) h1]
      by_cases h2:t∈y.d.toList
      · cases hy:y.d with
        | none=>rw [hy] at h2; simp at h2
        | some d =>
          rw [hy] at h2
          simp at h2
          subst h2
          simp [app,hy,ASt.putO,ASt.put_tm]
      · rw [sZ h2,sZ h2,sZ h1]
  · funext b
    by_cases h1:b∈bs.map (·.1)
    · rw [sW (hb b h1)]
      unfold app
      rw [uV,uV]
      exact rG _ h1
    · rw [sW (x:=x) h1]
      by_cases h2:b∈bs'.map (·.1)
      · unfold app
        rw [uV,uV]
        exact rG _ h2
      · rw [sW h2,sW h2,sW h1]
def apartB (rd wr rd' wr':List Nat):Bool:=disj wr' rd&&disj wr' wr&&disj rd' wr
theorem vG.skip {x y:AOper} {D Dx:xu} (h:vG P y st D) (hx:vG P x st Dx) (hs:disj x.d.toList y.slots=true) (hb:∀ b,b∈Dx.wr->b ∉ D.rd) {s:Slot} {bs:List (Nat × Box)} (ho:Dx.outs s bs):vG P y (app x st s bs) D :=
 h.local (fun t ht=>(sZ fun hd=>(qR.1 hs) t hd ht).symm) (fun b hr=>(sW fun hm=>hb b (hx.fst ho b hm) hr).symm)
theorem vG.Et {x y:AOper} {D Dx:xu} {s:Slot} {bs:List (Nat × Box)} (h:vG P y (app x st s bs) D) (hx:vG P x st Dx) (hs:disj x.d.toList y.slots=true) (hb:∀ b,b∈Dx.wr->b ∉ D.rd) (ho:Dx.outs s bs):vG P y st D :=
 h.local (fun t ht=>sZ fun hd=>(qR.1 hs) t hd ht) (fun b hr=>sW fun hm=>hb b (hx.fst ho b hm) hr)
theorem qK {rd wr rd' wr':List Nat} (h:apartB rd wr rd' wr'=true):(∀ b,b∈wr->b ∉ rd')/\(∀ b,b∈wr'->b ∉ rd)/\(∀ b,b∈wr->b ∉ wr'):=by
 simp only [apartB,Bool.and_eq_true,qR] at h
 exact ⟨fun b h1 h2=>h.2 b h2 h1,h.1.1,fun b h1 h2=>h.1.2 b h2 h1⟩
theorem L9 {x y:AOper} (hap:sV x y=true) {K:List Nat->List Nat->List Nat->List Nat->ASt->Prop}
  (h:T P x st fun rd wr st1=>T P y st1 fun rd' wr' st2=>apartB rd wr rd' wr'=true/\K rd wr rd' wr' st2) :
  T P y st fun rd' wr' st2=>T P x st2 fun rd wr st1=>apartB rd wr rd' wr'=true/\K rd wr rd' wr' st1:=by
 simp only [sV,Bool.and_eq_true,Bool.or_eq_true] at hap
 obtain ⟨⟨⟨h1,h2⟩,h3⟩,h4⟩:=hap
 rw [qp] at h
 obtain ⟨Dx,JW,h⟩:=h
 rcases h4 with h4 | h4
 ·
  obtain ⟨s,bs,ho⟩:=JW.ne
  have hT:=h s bs ho
  rw [qp] at hT
  obtain ⟨Dy,NT,hk⟩:=hT
  obtain ⟨s',bs',ho'⟩:=NT.ne
  obtain ⟨a1,a2,a3⟩:=qK (hk s' bs' ho').1
  have CB:vG P y st Dy:=vG.Et NT JW h1 a1 ho
  rw [qp]
  refine ⟨Dy,CB,fun s' bs' ho' => ?_⟩
  rw [qp]
  refine ⟨Dx,JW.skip CB h2 a2 ho',fun s1 Ny ho1 => ?_⟩
  have hT:=h s1 Ny ho1
  rw [qp] at hT
  obtain ⟨Pn,MM,hk1⟩:=hT
  have hsame:s1=s/\Ny=bs:=by
   obtain ⟨_,hD⟩:=JW
   unfold AOper.IM at h4
   split at h4
   ·rename_i op hi
    rw [hi] at hD
    cases hp:guardV st.tm x.g with
    | true=>obtain ⟨_,_,rfl⟩:=hD.1 hp; exact ⟨ho1.1.trans ho.1.symm,ho1.2.trans ho.2.symm⟩
    | false=>have:=hD.2 hp; subst this; exact ⟨ho1.1.trans ho.1.symm,ho1.2.trans ho.2.symm⟩
   ·cases h4
  obtain ⟨rfl,rfl⟩:=hsame
  have:=hk s' bs' ho'
  show _/\K _ _ _ _ (app x (app y st s' bs') s1 Ny)
  rw [<- BJ h3 (fun b hb hb'=>a3 b (JW.fst ho b hb) (CB.fst ho' b hb'))]
  exact this
 ·
  obtain ⟨s,bs,ho⟩:=JW.ne
  have hT:=h s bs ho
  rw [qp] at hT
  obtain ⟨Dy,NT,hk⟩:=hT
  obtain ⟨s',bs',ho'⟩:=NT.ne
  obtain ⟨a1,a2,a3⟩:=qK (hk s' bs' ho').1
  have CB:vG P y st Dy:=vG.Et NT JW h1 a1 ho
  rw [qp]
  refine ⟨Dy,CB,fun s' bs' ho' => ?_⟩
  rw [qp]
  refine ⟨Dx,JW.skip CB h2 a2 ho',fun s1 Ny ho1 => ?_⟩
  have hT:=h s1 Ny ho1
  rw [qp] at hT
  obtain ⟨Pn,MM,hk1⟩:=hT
  have hsame:Pn=Dy:=by
   obtain ⟨s2,P9,ho2⟩:=MM.ne
   obtain ⟨b1,_,_⟩:=qK (hk1 s2 P9 ho2).1
   exact vG.Qa h4 (vG.Et MM JW h1 b1 ho1) CB
  subst hsame
  have:=hk1 s' bs' ho'
  show _/\K _ _ _ _ (app x (app y st s' bs') s1 Ny)
  rw [<- BJ h3 (fun b hb hb'=>a3 b (JW.fst ho1 b hb) (CB.fst ho' b hb'))]
  exact this
theorem vN {x:AOper} {K K':List Nat->List Nat->ASt->Prop} (hk:∀ rd wr st,K rd wr st->K' rd wr st) (h:T P x st K):T P x st K':=by
 rw [qp] at h ⊢
 obtain ⟨D,hD,h⟩:=h
 exact ⟨D,hD,fun s bs ho=>hk _ _ _ (h s bs ho)⟩
abbrev Log:=List (Nat × List Nat × List Nat)
theorem o9 {aft rd wr:List Nat} {log:Log} : logOK aft rd wr log=true<->∀ e,e∈log->e.1∈aft\/apartB e.2.1 e.2.2 rd wr=true:=by
  induction log with
  | nil=>simp [logOK]
  | cons e l ih =>
    obtain ⟨j,r,w⟩:=e
    simp only [logOK,Bool.and_eq_true,Bool.or_eq_true,ih,List.mem_cons,forall_eq_or_imp,apartB,List.contains_iff_mem]
structure oU where
 i:Nat
 o:AOper
 aft:List Nat
def JM (P:Program):List oU->Log->ASt->(ASt->Prop)->Prop
 | [],_,st,K=>K st
 | x::r,log,st,K=>T P x.o st fun rd wr st'=>logOK x.aft rd wr log=true/\JM P r ((x.i,rd,wr)::log) st' K
theorem FB {K:ASt->Prop} : ∀ {l:List oU} {log MR:Log} {st:ASt},(∀ e,e∈MR->e∈log)->JM P l log st K->JM P l MR st K
  | [],_,_,_,_,h=>h
  | x::r,log,MR,st,hl,h=>by
    refine vN (fun rd wr st' hk=>⟨?_,FB (l:=r) ?_ hk.2⟩) h
    · rw [o9] at hk ⊢
      exact fun e he=>hk.1 e (hl e he)
    · intro e he
      rcases List.mem_cons.1 he with rfl | he
      · exact List.mem_cons_self ..
      · exact List.mem_cons_of_mem _ (hl e he)
theorem Ac {K:ASt->Prop} {x:oU} {post:List oU} : ∀ {pre:List oU} {log:Log} {st:ASt},(∀ p,p∈pre->p.i ∉ x.aft/\sV p.o x.o=true)->JM P (pre++x::post) log st K->JM P (x::(pre++post)) log st K
  | [],_,_,_,h=>h
  | p::pre,log,st,hp,h=>by
    obtain ⟨hn,hap⟩:=hp p (List.mem_cons_self ..)
    have h1:T P p.o st fun rd wr st1=>T P x.o st1 fun rd' wr' st2=>apartB rd wr rd' wr'=true /\
        (logOK p.aft rd wr log=true/\logOK x.aft rd' wr' log=true/\JM P (pre++post) ((x.i,rd',wr')::(p.i,rd,wr)::log) st2 K):=by
      refine vN (fun rd wr st1 hk => ?_) h
      have h2:=Ac (pre:=pre) (fun q hq=>hp q (List.mem_cons_of_mem _ hq)) hk.2
      refine vN (fun rd' wr' st2 hk2 => ?_) h2
      have NY:=o9.1 hk2.1
      refine ⟨(NY (p.i,rd,wr) (List.mem_cons_self ..)).resolve_left hn,hk.1,o9.2 fun e he=>NY e (List.mem_cons_of_mem _ he),hk2.2⟩
    refine vN (fun rd' wr' st2 hk => ?_) (L9 hap h1)
    rw [qp] at hk
    obtain ⟨D,hD,hk⟩:=hk
    refine ⟨?_,?_⟩
    · obtain ⟨s,bs,ho⟩:=hD.ne
      exact (hk s bs ho).2.2.1
    · show T P p.o st2 _
      rw [qp]
      refine ⟨D,hD,fun s bs ho => ?_⟩
      obtain ⟨k1,k2,k3,k4⟩:=hk s bs ho
      refine ⟨o9.2 fun e he => ?_,FB ?_ k4⟩
      · rcases List.mem_cons.1 he with rfl | he
        · right
          simp only [apartB,Bool.and_eq_true,qR] at k1 ⊢
          exact ⟨⟨fun b h1 h2=>k1.2 b h2 h1,fun b h1 h2=>k1.1.2 b h2 h1⟩,fun b h1 h2=>k1.1.1 b h2 h1⟩
        · exact o9.1 k2 e he
      · intro e he
        simp only [List.mem_cons] at he ⊢
        rcases he with h | h | h
        · exact .inr (.inl h)
        · exact .inl h
        · exact .inr (.inr h)
end
end Go.Ab
end
section
namespace Go.Ab
open Go
section
variable {P:Program} {E:Env P} {n:Nat} {ops:Array Oper} {Q:Exit->Act->World->Prop}
def AB (P:Program) (n m:Nat) (ops:Array Oper):List Oper->List AOper->Bool
 | [],[]=>true
 | o::os,x::xs=>wY P n m ops o x&&AB P n m ops os xs
 | _,_=>false
theorem yt (hm:E.m<=10):∀ {os:List Oper} {xs:List AOper} {K:ASt->Prop} {a:Act} {w:World},AB P n E.m ops os xs=true->AK E n (fun st=>wpOps P xs st K) a w ->
    (∀ a w,AK E n K a w->Q .normal a w)->wpList P ops Q os a w
  | [],[],K,a,w,_,h,hq=>hq a w h
  | o::os,x::xs,K,a,w,hc,h,hq=>by
    simp only [AB,Bool.and_eq_true] at hc
    obtain ⟨I,ρ,st,hT,hg⟩:=h
    have h1:=EE (Q:=Q) (ops:=ops) hg hm hc.1 (show T P x st fun _ _ st'=>wpOps P xs st' K from hT)
    unfold BA at h1
    unfold wpList
    have key:∀ a w,AK E n (fun st=>∃ rd wr:List Nat,wpOps P xs st K) a w->wpList P ops Q os a w:=fun a w hk =>
      yt hm hc.2 (hk.imp fun st ⟨_,_,h⟩=>h) hq
    split
    · rename_i hw
      rw [if_pos hw] at h1
      exact h1.imp (Oper.wp_mono key) id
    · rename_i hw
      rw [if_neg hw] at h1
      exact key _ _ h1
  | [],_::_,_,_,_,hc,_,_=>by cases hc
  | _::_,[],_,_,_,hc,_,_=>by cases hc
def items:List (AOper × List Nat)->Nat->List oU
 | [],_=>[]
 | (o,aft)::r,i=>⟨i,o,aft⟩::items r (i+1)
theorem JL {K:ASt->Prop} : ∀ {l:List (AOper × List Nat)} {i:Nat} {log:Log} {st:ASt},wpD P l i log st K=JM P (items l i) log st K
  | [],_,_,_=>rfl
  | (o,aft)::r,i,log,st=>by
    simp only [wpD,items,JM]
    congr 1
    funext rd wr st'
    rw [JL (l:=r)]
def D7 (L:List oU) (o:Oper) (x:oU):Bool :=
 x.aft.all (fun j=>o.after.toList.any fun e=>Region.binds .any e&&(e.on==j||L.any fun y=>y.i==e.on&&y.aft.contains j)) &&
 o.after.toList.all (fun e => !Region.binds .any e||decide (e.on<x.i))
def uB:List oU->Bool
 | []=>true
 | x::r=>r.all (fun y=>y.aft.contains x.i||sV x.o y.o)&&uB r
def AA (P:Program) (n m:Nat) (ops:Array Oper) (L:List oU) (x:oU):Bool :=
 match ops[x.i]? with
 | some o=>wY P n m ops o x.o&&D7 L o x
 | none=>false
def BQ (P:Program) (n m:Nat) (ops:Array Oper) (l:List (AOper × List Nat)):Bool :=
 l.length==ops.size&&(items l 0).all (AA P n m ops (items l 0))&&uB (items l 0)
theorem x9:∀ {l:List (AOper × List Nat)} {i:Nat},(∀ x,x∈items l i->i<=x.i/\x.i<i+l.length)/\(items l i).Pairwise (fun x y=>x.i<y.i)/\(∀ j,j<l.length->∃ x,x∈items l i/\x.i=i+j)
  | [],i=>⟨fun x hx=>by simp [items] at hx,.nil,fun j hj=>by simp at hj⟩
  | (o,aft)::r,i=>by
    obtain ⟨h1,h2,h3⟩:=x9 (l:=r) (i:=i+1)
    simp only [items,List.length_cons]
    refine ⟨fun x hx => ?_,List.pairwise_cons.2 ⟨fun y hy => ?_,h2⟩,fun j hj => ?_⟩
    · rcases List.mem_cons.1 hx with rfl | hx
      · exact ⟨Nat.le_refl _,by simp⟩
      · have:=h1 x hx; omega
    · have:=(h1 y hy).1; show i<y.i; omega
    · cases j with
      | zero=>exact ⟨_,List.mem_cons_self ..,rfl⟩
      | succ j =>
        obtain ⟨x,hx,he⟩:=h3 j (by omega)
        exact ⟨x,List.mem_cons_of_mem _ hx,by omega⟩
theorem wB:∀ {l:List oU},uB l=true->l.Pairwise fun x y=>x.i∈y.aft\/sV x.o y.o=true
  | [],_ => .nil
  | x::r,h=>by
    simp only [uB,Bool.and_eq_true,List.all_eq_true,Bool.or_eq_true,List.contains_iff_mem] at h
    exact List.pairwise_cons.2 ⟨h.1,wB h.2⟩
theorem KH {l:Array Bool} {i:Nat} (h:l.getD i true=false):l.getD i false=false:=by
 simp only [Array.getD_eq_getD_getElem?] at *
 cases hh:l[i]? with
 | none=>rw [hh] at h; cases h
 | some b=>rw [hh] at h; simpa using h
theorem FW (hm:E.m<=10) {L:List (AOper × List Nat)} (hc:BQ P n E.m ops L=true) {K:ASt->Prop} (hq:∀ a w,AK E n K a w->Q .normal a w) :
    ∀ (fuel:Nat) (l:List oU) (listed:Array Bool) (log:Log) (a:Act) (w:World),l.length<=fuel->l.Sublist (items L 0)->listed.size=ops.size ->
      (∀ x,x∈items L 0->(listed.getD x.i true=false<->x∈l)) ->
      (∀ x,x∈items L 0->listed.getD x.i false=true->∀ j,j∈x.aft->listed.getD j false=true) ->
      AK E n (fun st=>JM P l log st K) a w->wpAny P .any ops Q fuel listed a w:=by
  simp only [BQ,Bool.and_eq_true,beq_iff_eq,List.all_eq_true] at hc
  obtain ⟨⟨hlen,hit⟩,hap⟩:=hc
  obtain ⟨i1,i2,i3⟩:=x9 (l:=L) (i:=0)
  have hpw:(items L 0).Pairwise fun x y=>x.i<y.i/\(x.i∈y.aft\/sV x.o y.o=true):=i2.and (wB hap)
  have LH:∀ x y,x∈items L 0->y∈items L 0->x.i=y.i->x=y:=by
    intro x y hx hy e
    obtain ⟨p,hp,rfl⟩:=List.getElem_of_mem hx
    obtain ⟨q,hq',rfl⟩:=List.getElem_of_mem hy
    have N7:=List.pairwise_iff_getElem.1 i2
    rcases Nat.lt_trichotomy p q with h | h | h
    · have:=N7 p q hp hq' h; omega
    · subst h; rfl
    · have:=N7 q p hq' hp h; omega
  have MQ:∀ (l:List oU) (listed:Array Bool),l.Sublist (items L 0)->listed.size=ops.size->(∀ x,x∈items L 0->(listed.getD x.i true=false<->x∈l))->Region.ready .any ops listed=[]->l=[]:=by
    intro l listed hsub hsz hl hr
    cases l with
    | nil=>rfl
    | cons x r =>
      exfalso
      have hx:=hsub.subset (List.mem_cons_self ..)
      have hc:=hit x hx
      unfold AA at hc
      cases ho:ops[x.i]? with
      | none=>rw [ho] at hc; cases hc
      | some o =>
        rw [ho] at hc
        simp only [Bool.and_eq_true,D7,List.all_eq_true,Bool.or_eq_true,Bool.not_eq_true',decide_eq_true_eq] at hc
        have:x.i∈Region.ready .any ops listed:=by
          rw [mem_ready]
          refine ⟨(hl x hx).2 (List.mem_cons_self ..),o,ho,fun e he hb => ?_⟩
          have hlt:=(hc.2.2 e (by simpa using he)).resolve_left (by rw [hb]; simp)
          have hxi:=i1 x hx
          obtain ⟨y,hy,hye⟩:=i3 e.on (by omega)
          have hye:y.i=e.on:=by omega
          by_cases hyl:y∈x::r
          · exfalso
            rcases List.mem_cons.1 hyl with rfl | Qu
            · omega
            · have:=(List.pairwise_cons.1 (i2.sublist hsub)).1 y Qu
              omega
          · have h1:¬ listed.getD y.i true=false:=fun h=>hyl ((hl y hy).1 h)
            have hin:y.i<listed.size:=by rw [hsz,<- hlen]; have:=i1 y hy; omega
            rw [<- hye]
            simp only [Array.getD_eq_getD_getElem?,Array.getElem?_eq_getElem hin,Option.getD_some] at h1 ⊢
            simpa using h1
        rw [hr] at this
        cases this
  intro fuel
  induction fuel with
  | zero =>
    intro l listed log a w hf hsub hsz hl _ h
    have:l=[]:=List.length_eq_zero_iff.1 (by omega)
    subst this
    refine ⟨?_,hq a w h⟩
    cases hr:Region.ready .any ops listed with
    | nil=>rfl
    | cons i r =>
      exfalso
      have hi:i∈Region.ready .any ops listed:=by rw [hr]; exact List.mem_cons_self ..
      obtain ⟨hu,o,ho,_⟩:=mem_ready.1 hi
      have hlt:=(Array.getElem?_eq_some_iff.1 ho).1
      obtain ⟨y,hy,hye⟩:=i3 i (by omega)
      have hye:y.i=i:=by omega
      have:=(hl y hy).1 (by rw [hye]; exact hu)
      cases this
  | succ fuel ih =>
    intro l listed log a w hf hsub hsz hl hdown h
    refine ⟨fun hr => ?_,fun i hi => ?_⟩
    · have:=MQ l listed hsub hsz hl hr
      subst this
      exact hq a w h
    · obtain ⟨hu,o,ho,hall⟩:=mem_ready.1 hi
      have hlt:=(Array.getElem?_eq_some_iff.1 ho).1
      obtain ⟨x,hx,hxe⟩:=i3 i (by omega)
      have hxe:x.i=i:=by omega
      subst hxe
      have hxl:=(hl x hx).1 hu
      have hcx:=hit x hx
      unfold AA at hcx
      rw [ho] at hcx
      simp only [Bool.and_eq_true] at hcx
      obtain ⟨hco,hca⟩:=hcx
      have haft:∀ j,j∈x.aft->listed.getD j false=true:=by
        intro j hj
        simp only [D7,Bool.and_eq_true,List.all_eq_true,List.any_eq_true,Bool.or_eq_true,beq_iff_eq] at hca
        obtain ⟨e,he,hb,Qi⟩:=hca.1 j hj
        have hel:=hall e (by simpa using he) hb
        rcases Qi with rfl | ⟨y,hy,hye,hyj⟩
        · exact hel
        · rw [<- hye] at hel
          exact hdown y hy hel j (by simpa using hyj)
      obtain ⟨pre,post,rfl⟩:=List.append_of_mem hxl
      have KL:=hpw.sublist hsub
      rw [List.pairwise_append] at KL
      have hpre:∀ p,p∈pre->p.i ∉ x.aft/\sV p.o x.o=true:=by
        intro p hp
        have h1:=KL.2.2 p hp x (List.mem_cons_self ..)
        have hn:p.i ∉ x.aft:=by
          intro hm'
          have h2:=haft _ hm'
          have h3:=(hl p (hsub.subset (List.mem_append_left _ hp))).2 (List.mem_append_left _ hp)
          rw [KH h3] at h2
          cases h2
        exact ⟨hn,h1.2.resolve_left hn⟩
      obtain ⟨I,ρ,st,hT,hg⟩:=h
      have hT:=Ac hpre hT
      have h1:=EE (Q:=Q) (ops:=ops) hg hm hco (show T P x.o st fun rd wr st'=>logOK x.aft rd wr log=true/\JM P (pre++post) ((x.i,rd,wr)::log) st' K from hT)
      have key:∀ a w,AK E n (fun st=>∃ rd wr,logOK x.aft rd wr log=true/\JM P (pre++post) ((x.i,rd,wr)::log) st K) a w->wpAny P .any ops Q fuel (listed.setIfInBounds x.i true) a w:=by
        rintro a w ⟨I,ρ,st,⟨rd,wr,_,hk⟩,hg⟩
        have hnx:x ∉ pre++post:=by
          intro hxm
          rcases List.mem_append.1 hxm with h | h
          · have:=(KL.2.2 x h x (List.mem_cons_self ..)).1; omega
          · have:=((List.pairwise_cons.1 KL.2.1).1 x h).1; omega
        refine ih (pre++post) _ ((x.i,rd,wr)::log) a w (by simp at hf ⊢; omega) ?_ (by simp [hsz]) ?_ ?_ ⟨I,ρ,st,hk,hg⟩
        · exact (List.Sublist.append_left (List.sublist_cons_self x post) pre).trans hsub
        · intro y hy
          by_cases hyx:y=x
          · subst hyx
            constructor
            · intro h
              have hin:y.i<listed.size:=by rw [hsz]; exact hlt
              simp [hin] at h
            · intro h; exact absurd h hnx
          · have hne:x.i ≠ y.i:=fun e=>hyx (LH y x hy hx e.symm)
            rw [getD_set_ne true hne,hl y hy]
            simp only [List.mem_append,List.mem_cons,hyx,false_or]
        · intro y hy hyl j hj
          by_cases hyx:y=x
          · subst hyx; exact getD_set_true (haft j hj)
          · have hne:x.i ≠ y.i:=fun e=>hyx (LH y x hy hx e.symm)
            rw [getD_set_ne false hne] at hyl
            exact getD_set_true (hdown y hy hyl j hj)
      unfold wpOp
      rw [ho]
      unfold BA at h1
      simp only
      split
      · rename_i hw
        rw [if_pos hw] at h1
        exact h1.imp (Oper.wp_mono key) id
      · rename_i hw
        rw [if_neg hw] at h1
        exact key _ _ h1
theorem En (hm:E.m<=10) (hf:P.follows .mixedOrders=true) {L:List (AOper × List Nat)} (hc:BQ P n E.m ops L=true) {K:ASt->Prop} (hq:∀ a w,AK E n K a w->Q .normal a w)
  {id:Nat} {a:Act} {w:World} (h:AK E n (fun st=>wpD P L 0 [] st K) a w):(Code.region id ops true).wp P Q a w:=by
 refine wp_region_any hf ?_
 have hlen:L.length=ops.size:=by simp only [BQ,Bool.and_eq_true,beq_iff_eq] at hc; exact hc.1.1
 have i0:=x9 (l:=L) (i:=0)
 have hil:(items L 0).length=L.length:=by
  clear i0 hlen h hc
  generalize 0=i
  induction L generalizing i with
  | nil=>rfl
  | cons x r ih=>obtain ⟨o,aft⟩:=x; simp [items,ih]
 refine FW hm hc hq ops.size (items L 0) (Array.replicate ops.size false) [] a _ (by omega) (List.Sublist.refl _) (by simp) ?_ ?_ ?_
 ·intro x hx
  have:=i0.1 x hx
  have hlt:x.i<ops.size:=by omega
  simp [hlt,hx]
 ·intro x hx h
  exfalso
  have:=i0.1 x hx
  have hlt:x.i<ops.size:=by omega
  simp [hlt] at h
 ·obtain ⟨I,ρ,st,hT,hg⟩:=h
  exact ⟨I,ρ,st,Eq.mp (JL (P:=P) (l:=L) (i:=0) (log:=[]) (st:=st) (K:=K)) hT,hg.drew⟩
end
end Go.Ab
end
section
namespace Go.Ab
open Go
def uh (zs:List Nat) (bx:Nat->Box) (π:Nat->Option Nat) (vs:List Nat):AC->AC->Prop
  | _,.junk=>True
  | .c x,.c y=>x=y
  | .nsl sz,.c y=>y = .sl sz []
  | .own b n sz,.c y=>b∈zs/\match (bx b).arr with
    | some (sz',es)=>sz'=sz/\n<=es.length/\y = .sl sz (es.take n)
    | none=>False
  | .nsl sz,.nsl sz'=>sz=sz'
  | .nsl sz,.own b n sz'=>b∈vs/\n=0/\sz=sz'
  | .own b n sz,.own b' n' sz'=>π b'=some b/\n=n'/\sz=sz'
  | .sub b lo n _ sz,.own b' n' sz'=>π b'=some b/\lo=0/\n=n'/\sz=sz'
  | .sub b lo n c sz,.sub b' lo' n' c' sz'=>π b'=some b/\lo=lo'/\n=n'/\c=c'/\sz=sz'
  | .ptr b o,.ptr b' o'=>π b'=some b/\o=o'
  | .aptr b i sz o,.aptr b' i' sz' o'=>π b'=some b/\i=i'/\sz=sz'/\o=o'
  | .eptr cs,.eptr cs'=>cs=cs'
  | .fn f caps,.fn f' EJ=>f=f'/\EJ.map π=caps.map some
  | .opt T b,.opt T' b'=>T=T'/\π b'=some b
  | .bbuf b n,.bbuf b' n'=>π b'=some b/\n=n'
  | .err g,.err g'=>g=g'
  | _,_=>False
def uj (zs:List Nat) (bx:Nat->Box) (π:Nat->Option Nat) (vs:List Nat):List AC->List AC->Prop
 | [],[]=>True
 | x::xs,y::ys=>uh zs bx π vs x y/\uj zs bx π vs xs ys
 | _,_=>False
def zh (zs:List Nat) (bx:Nat->Box) (π:Nat->Option Nat) (vs:List Nat):List (Bool × List AC)->List (Bool × List AC)->Prop
 | [],[]=>True
 | (g,x)::xs,(g',y)::ys=>g=g'/\uj zs bx π vs x y/\zh zs bx π vs xs ys
 | _,_=>False
def Fz (zs:List Nat) (bx:Nat->Box) (π:Nat->Option Nat) (vs:List Nat):AV->AV->Prop
 | .one x,.one y=>uh zs bx π vs x y
 | .agg xs,.agg ys=>uj zs bx π vs xs ys
 | .tup xs,.tup ys=>zh zs bx π vs xs ys
 | _,_=>False
def Hl (zs:List Nat) (bx:Nat->Box) (π:Nat->Option Nat) (vs:List Nat) (b:Nat):Box->Prop
  | .absent=>π b=none/\b ∉ vs
  | .dead=>True
  | .var ys=>match π b with
    | some c=>match bx c with
      | .var xs=>uj zs bx π vs xs ys
      | _=>False
    | none=>False
  | .dat sz es=>match π b with
    | some c=>c ∉ zs/\(bx c = .dat sz es\/∃ t,bx c = .dat sz (es++t))
    | none=>b∈vs/\es=[]
  | .frz sz es=>match π b with
    | some c=>bx c = .frz sz es\/(c∈zs/\bx c = .dat sz es)
    | none=>False
  | .row e l=>match π b with
    | some c=>bx c = .row e l
    | none=>False
def Box.vU:Box->Bool
 | .dead=>true
 | _=>false
structure Oy (m:Nat) (bx bx':Nat->Box) (zs:List Nat) (π:Nat->Option Nat) (vs:List Nat):Prop where
 box:∀ b,Hl zs bx π vs b (bx' b)
 inj:∀ b b' c,(bx' b).vU=false->(bx' b').vU=false->π b=some c->π b'=some c->b=b'
 Pe:∀ b,b∈vs->π b=none
 fix:∀ b,b<m->π b=some b\/(π b=none/\b ∉ vs/\bx b = .absent)
def zi (zs:List Nat) (bx:Nat->Box) (π:Nat->Option Nat) (vs:List Nat):Slot->Slot->Prop
 | _,.none=>True
 | .v g x,.v g' y=>g=g'/\(g=true->Fz zs bx π vs x y)
 | _,_=>False
def sJ (m:Nat) (st S:ASt):Prop:=∃ zs π vs,Oy m st.bx S.bx zs π vs/\∀ t,zi zs st.bx π vs (st.tm t) (S.tm t)
section
variable {P:Program} {E:Env P} {I:IH} {ρ:Ren} {n:Nat} {st:ASt} {a:Act} {w:World}
def mO (ρ:Ren) (π:Nat->Option Nat) (vs:List Nat):Ren:=fun b=>match π b with
 | some c=>ρ c
 | none=>if b∈vs then some (0,0) else none
theorem JD (h:GX E I ρ n st a w) {zs vs:List Nat} {π:Nat->Option Nat} (hvs:∀ b,b∈vs->π b=none) {v:Value} {x y:AC} (hx:GC I ρ v x) (hy:uh zs st.bx π vs x y):GC (lend I ρ w st.bx zs) (mO ρ π vs) v y:=by
  have hle:=lend_le h.bx zs
  cases y with
  | junk=>exact hx.one
  | c y =>
    cases x with
    | c x=>simp only [uh] at hy; subst hy; exact Rd.mono hle hx
    | nsl sz =>
      simp only [uh] at hy; subst hy
      simp only [GC] at hx; subst hx
      exact Rd.sl none 0 0 _ [] (fun _ _=>undef) rfl (Nat.le_refl _) (by simp [maxLen]) (by simp) (by simp) (by intro ad h; cases h) (by simp)
    | own b m sz =>
      simp only [uh] at hy
      obtain ⟨hb,hy⟩:=hy
      split at hy
      · rename_i sz' es harr
        obtain ⟨rfl,hm,rfl⟩:=hy
        exact lend_rd h hb harr hm hx
      · exact hy.elim
    | _=>simp [uh] at hy
  | nsl sz =>
    cases x<;>simp only [uh] at hy
    subst hy; exact hx
  | own b' m' sz' =>
    cases x with
    | nsl sz =>
      simp only [uh] at hy
      obtain ⟨hb,rfl,rfl⟩:=hy
      simp only [GC] at hx; subst hx
      exact ⟨0,0,none,0,by simp [mO,hvs b' hb,hb],rfl,Nat.le_refl _,Nat.le_refl _,fun h=>absurd rfl h⟩
    | own b m sz =>
      simp only [uh] at hy
      obtain ⟨hb,rfl,rfl⟩:=hy
      obtain ⟨k,cap,ad,c,hr,hrest⟩:=hx
      exact ⟨k,cap,ad,c,by simp only [mO,hb]; exact hr,hrest⟩
    | sub b lo m c0 sz =>
      simp only [uh] at hy
      obtain ⟨hb,rfl,rfl,rfl⟩:=hy
      obtain ⟨k,cap,ad,c,hr,hv,hm,hcc,_,ha⟩:=hx
      refine ⟨k,cap,ad,c,by simp only [mO,hb]; exact hr,hv,hm,by omega,fun hc0 => ?_⟩
      have:=ha (.inr ⟨rfl,hc0⟩)
      rw [Nat.zero_mul] at this
      exact this
    | _=>simp [uh] at hy
  | sub b' lo' m' c' sz' =>
    cases x with
    | sub b lo m c sz =>
      simp only [uh] at hy
      obtain ⟨hb,rfl,rfl,rfl,rfl⟩:=hy
      obtain ⟨k,cap,ad,c1,hr,hrest⟩:=hx
      exact ⟨k,cap,ad,c1,by simp only [mO,hb]; exact hr,hrest⟩
    | _=>simp [uh] at hy
  | ptr b' o' =>
    cases x with
    | ptr b o =>
      simp only [uh] at hy
      obtain ⟨hb,rfl⟩:=hy
      obtain ⟨k,cap,hr,hrest⟩:=hx
      exact ⟨k,cap,by simp only [mO,hb]; exact hr,hrest⟩
    | _=>simp [uh] at hy
  | aptr b' i' sz' o' =>
    cases x with
    | aptr b i sz o =>
      simp only [uh] at hy
      obtain ⟨hb,rfl,rfl,rfl⟩:=hy
      obtain ⟨k,cap,hr,hrest⟩:=hx
      exact ⟨k,cap,by simp only [mO,hb]; exact hr,hrest⟩
    | _=>simp [uh] at hy
  | opt T' b' =>
    cases x with
    | opt T b =>
      simp only [uh] at hy
      obtain ⟨rfl,hb⟩:=hy
      obtain ⟨k,hr,hrest⟩:=hx
      exact ⟨k,by simp only [mO,hb]; exact hr,hrest⟩
    | _=>simp [uh] at hy
  | bbuf b' n' =>
    cases x with
    | bbuf b n =>
      simp only [uh] at hy
      obtain ⟨hb,rfl⟩:=hy
      obtain ⟨k,cap,hr,hrest⟩:=hx
      exact ⟨k,cap,by simp only [mO,hb]; exact hr,hrest⟩
    | _=>simp [uh] at hy
  | err g' =>
    cases x with
    | err g=>simp only [uh] at hy; subst hy; exact hx
    | _=>simp [uh] at hy
  | eptr cs' =>
    cases x with
    | eptr cs =>
      simp only [uh] at hy
      subst hy
      obtain ⟨p,hv,hc⟩:=hx
      exact ⟨p,hv,fun j c hj=>let ⟨u,h1,h2⟩:=hc j c hj; ⟨u,IH.le_cell hle h1,h2.mono hle⟩⟩
    | _=>simp [uh] at hy
  | fn f' EJ =>
    cases x with
    | fn f caps =>
      simp only [uh] at hy
      obtain ⟨rfl,hcs⟩:=hy
      obtain ⟨ks,hk1,hk2,hk3⟩:=hx
      have hlen:EJ.length=caps.length:=by have:=congrArg List.length hcs; simpa using this
      refine ⟨ks,by rw [hlen]; exact hk1,fun j b k hb hk => ?_,hk3⟩
      have hj:j<caps.length:=by have:=(List.getElem?_eq_some_iff.1 hb).1; omega
      have h1:(EJ.map π)[j]? = (caps.map some)[j]? := by rw [hcs]
      rw [List.getElem?_map,List.getElem?_map,hb,List.getElem?_eq_getElem hj] at h1
      simp only [Option.map_some,Option.some.injEq] at h1
      obtain ⟨cap,hr⟩:=hk2 j _ k (List.getElem?_eq_getElem hj) hk
      exact ⟨cap,by simp only [mO,h1]; exact hr⟩
    | _=>simp [uh] at hy
theorem Bz (h:GX E I ρ n st a w) {zs vs:List Nat} {π:Nat->Option Nat} (hvs:∀ b,b∈vs->π b=none):∀ {us:List Value} {xs ys:List AC},GCs I ρ us xs->uj zs st.bx π vs xs ys->GCs (lend I ρ w st.bx zs) (mO ρ π vs) us ys
  | us,[],[],hx,_=>⟨hx.1,fun j v x hv hx=>by simp at hx⟩
  | u::us,x::xs,y::ys,hx,hy=>by
    have ih:=Bz h hvs (us:=us) (xs:=xs) (ys:=ys) ⟨by simpa using hx.1,fun j v z hv hz=>hx.2 (j+1) v z (by simpa using hv) (by simpa using hz)⟩ hy.2
    refine ⟨by simp [ih.1],fun j v z hv hz => ?_⟩
    cases j with
    | zero =>
      simp at hv hz
      subst hv; subst hz
      exact JD h hvs (hx.2 0 _ _ rfl rfl) hy.1
    | succ j=>exact ih.2 j v z (by simpa using hv) (by simpa using hz)
  | [],_::_,_,hx,_=>by have:=hx.1; simp at this
  | _,[],_::_,_,hy=>by simp [uj] at hy
  | _,_::_,[],_,hy=>by simp [uj] at hy
theorem Dq {zs vs:List Nat} {bx:Nat->Box} {π:Nat->Option Nat} : ∀ {xs ys:List (Bool × List AC)},zh zs bx π vs xs ys->xs.length=ys.length/\∀ (j:Nat) (y:Bool × List AC),ys[j]? = some y->∃ x:Bool × List AC,xs[j]? = some x/\x.1=y.1/\uj zs bx π vs x.2 y.2
  | [],[],_=>⟨rfl,fun j y hy=>by simp at hy⟩
  | (g,x)::xs,(g',y)::ys,h=>by
    obtain ⟨h1,h2,h3⟩:=h
    obtain ⟨i1,i2⟩:=Dq h3
    refine ⟨by simp [i1],fun j z hz => ?_⟩
    cases j with
    | zero=>simp at hz; subst hz; exact ⟨(g,x),rfl,h1,h2⟩
    | succ j =>
      obtain ⟨q,hq,hr⟩:=i2 j z (by simpa using hz)
      exact ⟨q,by simpa using hq,hr⟩
  | [],_::_,h=>by simp [zh] at h
  | _::_,[],h=>by simp [zh] at h
theorem LV (h:GX E I ρ n st a w) {zs vs:List Nat} {π:Nat->Option Nat} (hvs:∀ b,b∈vs->π b=none) {v:Value} {x y:AV} (hx:GV I ρ v x) (hy:Fz zs st.bx π vs x y):GV (lend I ρ w st.bx zs) (mO ρ π vs) v y:=by
  cases x with
  | one x=>cases y with
    | one y=>exact JD h hvs hx hy
    | _=>exact hy.elim
  | agg xs=>cases y with
    | agg ys=>obtain ⟨cs,rfl,hg⟩:=hx; exact ⟨cs,rfl,Bz h hvs hg hy⟩
    | _=>exact hy.elim
  | tup ps=>cases y with
    | tup qs =>
      obtain ⟨us,rfl,hl,hp⟩:=hx
      obtain ⟨i1,i2⟩:=Dq (show zh zs st.bx π vs ps qs from hy)
      refine ⟨us,rfl,by rw [hl,i1],fun j v q hv hq => ?_⟩
      obtain ⟨p,Qo,e,hw⟩:=i2 j q hq
      have h1:=hp j v p hv Qo
      unfold GP at h1 ⊢
      rw [e] at h1
      split at h1
      · rename_i hb; rw [if_pos hb]; obtain ⟨cs,rfl,hg⟩:=h1; exact ⟨cs,rfl,Bz h hvs hg hw⟩
      · rename_i hb
        rw [if_neg hb]
        obtain ⟨x,hx,hg⟩:=h1
        rw [hx] at hw
        cases hq2:q.2 with
        | nil=>rw [hq2] at hw; exact hw.elim
        | cons y t =>
          rw [hq2] at hw
          cases t with
          | nil=>exact ⟨y,rfl,JD h hvs hg hw.1⟩
          | cons z t=>exact hw.2.elim
    | _=>exact hy.elim
theorem Aa (h:GX E I ρ n st a w) {m:Nat} (hm:E.m<=m) {bx':Nat->Box} {zs vs:List Nat} {π:Nat->Option Nat} (hw:Oy m st.bx bx' zs π vs) :
    GX E (lend I ρ w st.bx zs) (mO ρ π vs) n ⟨fun _ => .none,bx'⟩ a w:=by
  have hF:=h.freeze zs
  generalize hJ:lend I ρ w st.bx zs=J at *
  have hnd:∀ b k,(bx' b).uses (mO ρ π vs b) k->(bx' b).vU=false:=fun b k hu=>by
    cases hx:bx' b with
    | dead=>rw [hx] at hu; exact hu.elim
    | _=>rfl
  have huse:∀ b k,(bx' b).uses (mO ρ π vs b) k->∃ c,π b=some c/\((st.frz zs).bx c).uses (ρ c) k:=by
    intro b k hu
    have hb:=hw.box b
    cases hx:bx' b with
    | var ys =>
      rw [hx] at hu hb
      simp only [Hl] at hb
      split at hb
      · rename_i c hc
        refine ⟨c,hc,?_⟩
        split at hb
        · rename_i xs hxs
          rw [mem_frz,hxs]
          simp only [mO,hc] at hu
          split<;>exact hu
        · exact hb.elim
      · exact hb.elim
    | dat sz es =>
      rw [hx] at hu hb
      simp only [Hl] at hb
      split at hb
      · rename_i c hc
        refine ⟨c,hc,?_⟩
        simp only [mO,hc] at hu
        rcases hb.2 with hb2 | ⟨t,hb2⟩
        · rw [mem_frz,if_neg hb.1,hb2]; exact hu
        · rw [mem_frz,if_neg hb.1,hb2]; exact hu
      · rename_i hc
        obtain ⟨cap,hu1,hu2⟩:=hu
        simp only [mO,hc,hb.1,if_true,Option.some.injEq,Prod.mk.injEq] at hu1
        exact absurd hu1.2.symm hu2
    | row e l =>
      rw [hx] at hu hb
      simp only [Hl] at hb
      split at hb
      · rename_i c hc
        refine ⟨c,hc,?_⟩
        simp only [mO,hc] at hu
        rw [mem_frz,hb]
        split<;>exact hu
      · exact hb.elim
    | absent=>rw [hx] at hu; exact hu.elim
    | dead=>rw [hx] at hu; exact hu.elim
    | frz sz es=>rw [hx] at hu; exact hu.elim
  refine { agree:=hF.agree,bx:=⟨fun b => ?_,fun b b' k hb hb' => ?_,fun b k hb => ?_⟩,tm:=fun t ht=>trivial,size:=h.size,defers:=h.defers,frm:=h.frm,own:=fun b k hu => ?_,ile:=hF.ile,inew:=hF.inew,keepρ:=fun b hb => ?_ }
  · have hb:=hw.box b
    show BoxOK J (mO ρ π vs) w b (bx' b)
    cases hx:bx' b with
    | absent =>
      rw [hx] at hb
      show mO ρ π vs b=none
      simp only [mO,hb.1,hb.2,if_false]
    | dead=>trivial
    | var ys =>
      rw [hx] at hb
      simp only [Hl] at hb
      split at hb
      · rename_i c hc
        split at hb
        · rename_i xs hxs
          have hok:=h.bx.ok c
          rw [hxs] at hok
          obtain ⟨k,cap,cs,hr,hwk,hsz,hcs⟩:=hok
          have hg:GCs J (mO ρ π vs) cs.toList ys:=by
            subst hJ
            exact Bz h hw.Pe ⟨by simpa using hsz,fun j u x hu hx=>hcs j u x (by simpa using hu) hx⟩ hb
          refine ⟨k,cap,cs,by simp only [mO,hc]; exact hr,hwk,by simpa using hg.1,fun j u x hu hx=>hg.2 j u x (by simpa using hu) hx⟩
        · exact hb.elim
      · exact hb.elim
    | dat sz es =>
      rw [hx] at hb
      simp only [Hl] at hb
      split at hb
      · rename_i c hc
        have hok:=hF.bx.ok c
        rcases hb.2 with hb2 | ⟨t,hb2⟩
        · rw [mem_frz,if_neg hb.1,hb2] at hok
          obtain ⟨k,cap,hr,hrest⟩:=hok
          exact ⟨k,cap,by simp only [mO,hc]; exact hr,hrest⟩
        · rw [mem_frz,if_neg hb.1,hb2] at hok
          obtain ⟨k,cap,hr,h1,h2,h3,h4⟩:=hok
          refine ⟨k,cap,by simp only [mO,hc]; exact hr,by simp at h1; omega,h2,fun e he=>h3 e (List.mem_append_left _ he),fun h0 => ?_⟩
          obtain ⟨cs,e,g1,g2,g3,g4⟩:=h4 h0
          refine ⟨cs,e,g1,g2,g3,fun i j c' hc'=>g4 i j c' ?_⟩
          have hi:=getD_nil_some hc'
          rw [<- hc']
          congr 1
          simp only [List.getD]
          rw [List.getElem?_append_left hi]
      · rename_i hc
        obtain ⟨hv,rfl⟩:=hb
        exact ⟨0,0,by simp only [mO,hc,hv,if_true],by simp,by simp [maxLen],by simp,fun h=>absurd rfl h⟩
    | row e l =>
      rw [hx] at hb
      simp only [Hl] at hb
      split at hb
      · rename_i c hc
        have hok:=hF.bx.ok c
        rw [mem_frz,hb] at hok
        have e1:(if c∈zs then frzB (.row e l) else .row e l)=Box.row e l:=by split<;>rfl
        rw [e1] at hok
        obtain ⟨k,cap,hr,hrest⟩:=hok
        exact ⟨k,cap,by simp only [mO,hc]; exact hr,hrest⟩
      · exact hb.elim
    | frz sz es =>
      rw [hx] at hb
      simp only [Hl] at hb
      split at hb
      · rename_i c hc
        have hok:=hF.bx.ok c
        have e:(st.frz zs).bx c = .frz sz es:=by
          rw [mem_frz]
          rcases hb with hb | ⟨hz,hb⟩
          · rw [hb]; split<;>rfl
          · rw [hb,if_pos hz]; rfl
        rw [e] at hok
        obtain ⟨k,cap,hr,hrest⟩:=hok
        exact ⟨k,cap,by simp only [mO,hc]; exact hr,hrest⟩
      · exact hb.elim
  · obtain ⟨c,hc,hu⟩:=huse b k hb
    obtain ⟨c',hc',hu'⟩:=huse b' k hb'
    have:=hF.bx.inj c c' k hu hu'
    subst this
    exact hw.inj b b' c (hnd b k hb) (hnd b' k hb') hc hc'
  · obtain ⟨c,hc,hu⟩:=huse b k hb
    exact hF.bx.fresh c k hu
  · obtain ⟨c,hc,hu'⟩:=huse b k hu
    exact hF.own c k hu'
  · rcases hw.fix b (by omega) with hf | ⟨hf,hv,hab⟩
    · simp only [mO,hf]; exact h.keepρ b hb
    · have:=h.bx.ok b
      rw [hab] at this
      rw [<- h.keepρ b hb]
      simp only [mO,hf,hv,if_false]
      exact this.symm
theorem yJ (h:GX E I ρ n st a w) {m:Nat} (hm:E.m<=m) {S:ASt} (hw:sJ m st S):∃ J σ,GX E J σ n S a w:=by
  obtain ⟨zs,π,vs,hs,ht⟩:=hw
  have h1:=Aa h hm hs
  refine ⟨_,_,{ h1 with tm:=fun t htn => ?_,bx:=h1.bx,agree:=h1.agree,size:=h1.size,defers:=h1.defers,frm:=h1.frm,own:=h1.own }⟩
  have h2:=ht t
  have h3:=h.tm t htn
  cases hS:S.tm t with
  | none=>trivial
  | v g y =>
    rw [hS] at h2
    cases hst:st.tm t with
    | none=>rw [hst] at h2; exact h2.elim
    | v g' x =>
      rw [hst] at h2 h3
      obtain ⟨rfl,hv⟩:=h2
      exact ⟨fun hg=>LV h hs.Pe (h3.1 hg) (hv hg),h3.2⟩
theorem AK.weak {m:Nat} (hm:E.m<=m) {K:ASt->Prop} {X:Type} {J:X->Prop} {S:X->ASt} (hk:∀ st,K st->∃ x,J x/\sJ m st (S x)) {a:Act} {w:World} (h:AK E n K a w):∃ x,J x/\AK E n (fun st=>st=S x) a w:=by
 obtain ⟨I,ρ,st,hK,hg⟩:=h
 obtain ⟨x,hj,hw⟩:=hk st hK
 obtain ⟨I',ρ',hg'⟩:=yJ hg hm hw
 exact ⟨x,hj,I',ρ',_,rfl,hg'⟩
end
end Go.Ab
end
section
namespace Go.Ab
open Go
inductive bD where
 | skip
 | reg (ops:List AOper) (keep:List Nat)
 | jQ (ops:List (AOper × List Nat)) (keep:List Nat)
 | seq (a b:bD)
 | cut (a b:bD)
 | cond (c:Opd) (a b:bD)
 | block (id:Nat) (a:bD)
 | loop (a:bD)
 | exit (id:Nat)
 | ret
 deriving Inhabited
inductive kK where
 | normal
 | exit (id:Nat)
 | ret
abbrev AQ:=kK->ASt->Prop
def kK.then (next:ASt->Prop) (Q:AQ):AQ
 | .normal,st=>next st
 | .exit id,st=>Q (.exit id) st
 | .ret,st=>Q .ret st
def kK.inBlock (id:Nat) (Q:AQ):AQ
 | .exit id',st=>if id'=id then Q .normal st else Q (.exit id') st
 | .normal,st=>Q .normal st
 | .ret,st=>Q .ret st
def NI (body:AQ->ASt->Prop) (Q:AQ) (st:ASt):Prop :=
  ∃ (X:Type) (J:X->Prop) (S:X->ASt) (μ:X->Nat),(∃ x,J x/\sJ 10 st (S x)) /\
    ∀ x,J x->body (kK.then (fun st'=>∃ x',(J x'/\μ x'<μ x)/\sJ 10 st' (S x')) Q) (S x)
def OG (wa:AQ->ASt->Prop) (wb:AQ->ASt->Prop) (Q:AQ) (st:ASt):Prop :=
 ∃ (X:Type) (J:X->Prop) (S:X->ASt),wa (kK.then (fun st'=>∃ x,J x/\sJ 10 st' (S x)) Q) st/\∀ x,J x->wb Q (S x)
def pU (body:AQ->ASt->Prop) (Q:AQ) (st:ASt) (_:DU body) (_:DU Q):Prop:=NI body Q st
def uz (wa wb:AQ->ASt->Prop) (Q:AQ) (st:ASt) (_:DU wa) (_:DU wb) (_:DU Q):Prop:=OG wa wb Q st
def wpC (P:Program):bD->AQ->ASt->Prop
  | .skip,Q,st=>Q .normal st
  | .reg ops keep,Q,st=>wpOps P ops st fun st=>Q .normal (st.keep keep)
  | .jQ ops keep,Q,st=>wpD P ops 0 [] st fun st=>Q .normal (st.keep keep)
  | .seq a b,Q,st=>wpC P a (kK.then (wpC P b Q) Q) st
  | .cut a b,Q,st=>uz (wpC P a) (wpC P b) Q st .mk .mk .mk
  | .cond c a b,Q,st=>(c.ev st.tm).g=true/\match (c.ev st.tm).x with
    | .one (.c (.lit (.bool t)))=>(t=true->wpC P a Q st)/\(t=false->wpC P b Q st)
    | _=>False
  | .block id a,Q,st=>wpC P a (kK.inBlock id Q) st
  | .loop a,Q,st=>pU (wpC P a) Q st .mk .mk
  | .exit id,Q,st=>Q (.exit id) st
  | .ret,Q,st=>Q .ret st
def mQ (P:Program) (n m:Nat):Code->bD->Bool
 | .skip,.skip=>true
 | .region _ ops false,.reg xs _=>AB P n m ops ops.toList xs
 | .region _ ops true,.jQ xs _=>BQ P n m ops xs&&P.follows .mixedOrders
 | .seq a b,.seq x y=>mQ P n m a x&&mQ P n m b y
 | .seq a b,.cut x y=>mQ P n m a x&&mQ P n m b y
 | .cond c a b,.cond d x y=>chkOpd n c d&&mQ P n m a x&&mQ P n m b y
 | .block i a,.block j x=>i==j&&mQ P n m a x
 | .loop a,.loop x=>mQ P n m a x
 | .exit i,.exit j=>i==j
 | .ret,.ret=>true
 | _,_=>false
section
variable {P:Program} {E:Env P} {n:Nat}
def CQ (E:Env P) (n:Nat) (Q:AQ):Exit->Act->World->Prop
 | .normal,a,w=>AK E n (Q .normal) a w
 | .exit id,a,w=>AK E n (Q (.exit id)) a w
 | .ret,a,w=>AK E n (Q .ret) a w
 | _,_,_=>False
theorem Ae {Q:AQ} {next:ASt->Prop} {nx:Act->World->Prop} (h:∀ a w,AK E n next a w->nx a w) (e:Exit) (a:Act) (w:World) (hq:CQ E n (kK.then next Q) e a w):Exit.then nx (CQ E n Q) e a w:=by
 cases e with
 | normal=>exact h a w hq
 | exit id=>exact hq
 | ret=>exact hq
 | goto l=>exact hq
 | panic c=>exact hq
 | outgrown=>exact hq
theorem DJ {Q:AQ} {id:Nat} (e:Exit) (a:Act) (w:World) (hq:CQ E n (kK.inBlock id Q) e a w):Exit.inBlock id (CQ E n Q) e a w:=by
  cases e with
  | normal=>exact hq
  | exit id' =>
    simp only [Exit.inBlock]
    by_cases h:id'=id
    · rw [if_pos h]; exact AK.imp (fun st (hs:kK.inBlock id Q (.exit id') st)=>by simp only [kK.inBlock,if_pos h] at hs; exact hs) hq
    · rw [if_neg h]; exact AK.imp (fun st (hs:kK.inBlock id Q (.exit id') st)=>by simp only [kK.inBlock,if_neg h] at hs; exact hs) hq
  | ret=>exact hq
  | goto l=>exact hq
  | panic c=>exact hq
  | outgrown=>exact hq
theorem GX.keep {I:IH} {ρ:Ren} {st:ASt} {a:Act} {w:World} (h:GX E I ρ n st a w) (ts:List Nat):GX E I ρ n (st.keep ts) a w :=
 have ht:∀ t,t<n->GSl I ρ (a.tmps.getD t undef) ((st.keep ts).tm t):=fun t ht=>by
  simp only [ASt.keep]
  split
  ·exact h.tm t ht
  ·trivial
 { h with tm:=ht,bx:=h.bx,agree:=h.agree,size:=h.size,defers:=h.defers,frm:=h.frm,own:=h.own }
theorem zl {Q:Exit->Act->World->Prop} {a:Act} {w:World} {c:Code} (Inv:Nat->Act->World->Prop) (h0:∃ k,Inv k a w)
    (round:∀ k a w,Inv k a w->c.wp P (Exit.then (fun a' w'=>∃ k',k'<k/\Inv k' a' w') Q) a w):(Code.loop c).wp P Q a w:=by
  have hmin:∀ a w,(∃ k,Inv k a w)->∃ k,Inv k a w/\∀ j,j<k->¬ Inv j a w:=by
    intro a w ⟨k,hk⟩
    induction k using Nat.strongRecOn with
    | _ k ih =>
      by_cases h:∃ j,j<k/\Inv j a w
      · obtain ⟨j,hj,hi⟩:=h; exact ih j hj hi
      · exact ⟨k,hk,fun j hj hi=>h ⟨j,hj,hi⟩⟩
  let μ:Act->World->Nat:=fun a w=>open Classical in if h:∃ k,Inv k a w then (hmin a w h).choose else 0
  have hμ:∀ a w,(∃ k,Inv k a w)->Inv (μ a w) a w/\∀ j,Inv j a w->μ a w<=j:=by
    intro a w h
    have hs:=(hmin a w h).choose_spec
    simp only [μ,dif_pos h]
    exact ⟨hs.1,fun j hj=>Nat.le_of_not_lt fun hlt=>hs.2 j hlt hj⟩
  refine wp_loop (fun a w=>∃ k,Inv k a w) μ h0 fun a w h => ?_
  refine wp_mono (round _ a w (hμ a w h).1) fun e a' w' hq => ?_
  cases e with
  | normal =>
    obtain ⟨k',hlt,hk⟩:=hq
    exact ⟨⟨k',hk⟩,Nat.lt_of_le_of_lt ((hμ a' w' ⟨k',hk⟩).2 k' hk) hlt⟩
  | exit id=>exact hq
  | ret=>exact hq
  | goto l=>exact hq
  | panic c=>exact hq
  | outgrown=>exact hq
theorem lC (hm:E.m<=10):∀ {ac:bD} {c:Code} {Q:AQ} {a:Act} {w:World},mQ P n E.m c ac=true->AK E n (wpC P ac Q) a w->c.wp P (CQ E n Q) a w
  | .skip,c,Q,a,w,hc,h=>by
    unfold mQ at hc; split at hc<;>first | contradiction | skip
    exact wp_skip h
  | .reg xs keep,c,Q,a,w,hc,h=>by
    unfold mQ at hc; split at hc<;>first | contradiction | skip
    rename_i heq; cases heq
    refine wp_region_list (yt hm hc h fun a w hk => ?_)
    obtain ⟨I,ρ,st,hk,hg⟩:=hk
    exact ⟨I,ρ,_,hk,hg.keep keep⟩
  | .jQ xs keep,c,Q,a,w,hc,h=>by
    unfold mQ at hc; split at hc<;>first | contradiction | skip
    rename_i heq; cases heq
    simp only [Bool.and_eq_true] at hc
    refine En hm hc.2 hc.1 (fun a w hk => ?_) h
    obtain ⟨I,ρ,st,hk,hg⟩:=hk
    exact ⟨I,ρ,_,hk,hg.keep keep⟩
  | .seq x y,c,Q,a,w,hc,h=>by
    unfold mQ at hc; split at hc<;>first | contradiction | skip
    rename_i heq; cases heq
    simp only [Bool.and_eq_true] at hc
    exact wp_seq (wp_mono (lC hm hc.1 h) (Ae fun a w hk=>lC hm hc.2 hk))
  | .cut x y,c,Q,a,w,hc,h=>by
    unfold mQ at hc; split at hc<;>first | contradiction | skip
    rename_i heq; cases heq
    simp only [Bool.and_eq_true] at hc
    obtain ⟨I,ρ,st,⟨X,J,S,h1,h2⟩,hg⟩:=h
    refine wp_seq (wp_mono (lC hm hc.1 ⟨I,ρ,st,h1,hg⟩) (Ae fun a w hk => ?_))
    obtain ⟨x,hj,I',ρ',st',rfl,hg'⟩:=AK.weak hm (fun st h=>h) hk
    exact lC hm hc.2 ⟨I',ρ',_,h2 x hj,hg'⟩
  | .cond d x y,c,Q,a,w,hc,h=>by
    unfold mQ at hc; split at hc<;>first | contradiction | skip
    rename_i heq; cases heq
    simp only [Bool.and_eq_true] at hc
    obtain ⟨I,ρ,st,⟨h1,h2⟩,hg⟩:=h
    have hv:=opd_v hg hc.1.1 h1
    unfold avOf at hv
    split at h2
    · rename_i t ht
      rw [ht] at hv
      exact wp_cond_split (gv_bool hv) (fun e=>lC hm hc.1.2 ⟨I,ρ,st,h2.1 e,hg⟩) (fun e=>lC hm hc.2 ⟨I,ρ,st,h2.2 e,hg⟩)
    · exact h2.elim
  | .block id x,c,Q,a,w,hc,h=>by
    unfold mQ at hc; split at hc<;>first | contradiction | skip
    rename_i heq; cases heq
    simp only [Bool.and_eq_true,beq_iff_eq] at hc
    obtain ⟨rfl,hc⟩:=hc
    exact wp_block (wp_mono (lC hm hc h) DJ)
  | .loop x,c,Q,a,w,hc,h=>by
    unfold mQ at hc; split at hc<;>first | contradiction | skip
    rename_i heq; cases heq
    obtain ⟨I,ρ,st,⟨X,J,S,μ,⟨x0,hj0,hw0⟩,hr⟩,hg⟩:=h
    refine zl (fun k a w=>∃ x,J x/\μ x=k/\AK E n (fun st=>st=S x) a w) ?_ ?_
    · obtain ⟨I',ρ',hg'⟩:=yJ hg hm hw0
      exact ⟨_,x0,hj0,rfl,I',ρ',_,rfl,hg'⟩
    · rintro k a w ⟨x,hj,rfl,I,ρ,st,rfl,hg⟩
      refine wp_mono (lC hm hc ⟨I,ρ,_,hr x hj,hg⟩) (Ae fun a w hk => ?_)
      obtain ⟨x',⟨hj',hlt⟩,hk'⟩:=AK.weak (J:=fun x'=>J x'/\μ x'<μ x) hm (fun st h=>h) hk
      exact ⟨_,hlt,x',hj',rfl,hk'⟩
  | .exit id,c,Q,a,w,hc,h=>by
    unfold mQ at hc; split at hc<;>first | contradiction | skip
    rename_i heq; cases heq
    simp only [beq_iff_eq] at hc
    subst hc
    exact wp_exit h
  | .ret,c,Q,a,w,hc,h=>by
    unfold mQ at hc; split at hc<;>first | contradiction | skip
    exact wp_ret h
end
end Go.Ab
end
section
namespace Go.Ab
open Go
inductive lH where
 | tmp (t:Nat)
 | cell (t:Nat) (agg:Bool) (k:Nat)
 deriving Inhabited
def lH.ok (st:ASt):lH->Prop
 | .tmp t=>(st.tm t).g=true
 | .cell t agg k=>(st.tm t).g=true/\(loadV agg k (st.tm t).x st.bx).vc
def lH.val (st:ASt):lH->AV
 | .tmp t=>(st.tm t).x
 | .cell t agg k=>(loadV agg k (st.tm t).x st.bx).v
def oP (st:ASt):List lH->Prop
 | []=>True
 | r::rs=>r.ok st/\(r.val st).flat/\oP st rs
def partOf:AV->Bool × List AC
 | .one x=>(false,[x])
 | .agg xs=>(true,xs)
 | .tup _=>(false,[])
def lg (st:ASt):List lH->List (Bool × List AC)
 | []=>[]
 | r::rs=>partOf (r.val st)::lg st rs
def yV (st:ASt):List lH->AV
 | [r]=>r.val st
 | rs => .tup (lg st rs)
def sK (rs:List lH) (m:Nat) (post:AV->List Box->Prop) (st:ASt):Prop :=
 oP st rs/\∃ r bs zs π vs,post r bs/\Oy m st.bx (bxL bs) zs π vs/\Fz zs st.bx π vs (yV st rs) r
def xJ (P:Program) (n:Nat):List ResultVar->List lH->Bool
 | [],[]=>true
 | .tmp t::xs,.tmp s::ys=>t==s&&decide (t<n)&&xJ P n xs ys
 | .cell a t::xs,.cell s agg k::ys=>a==s&&decide (a<n)&&tyOK P t agg k&&xJ P n xs ys
 | _,_=>false
section
variable {P:Program} {E:Env P} {I:IH} {ρ:Ren} {n:Nat} {st:ASt} {a:Act} {w:World}
theorem Gs {agg:Bool} {k:Nat} {p:AV} {pv:Value} {bx:Nat->Box} (hp:GV I ρ pv p) (hvc:(loadV agg k p bx).vc):∃ q,pv = .pointer (some q):=by
  cases p with
  | one p =>
    cases p with
    | ptr b off=>obtain ⟨k,cap,_,rfl⟩:=hp; exact ⟨_,rfl⟩
    | aptr b i sz off=>obtain ⟨k,cap,_,rfl⟩:=hp; exact ⟨_,rfl⟩
    | eptr cs=>obtain ⟨q,rfl,_⟩:=hp; exact ⟨_,rfl⟩
    | _=>exact hvc.elim
  | _=>exact hvc.elim
def Jn (tmps:Array Value) (x:ResultVar):Sem Value:=match x with
 | ResultVar.tmp t=>pure (tmps.getD t undef)
 | ResultVar.cell b t=>do loadVar t (<- asAddr (tmps.getD b undef))
theorem Eo (fn:Func) (tmps:Array Value):results fn tmps=(do
  let vs <- fn.results.mapM (Jn tmps)
  pure (if h:vs.size=1 then vs[0] else .tuple vs)):=by
 unfold results
 congr 1
theorem C9 (h:GX E I ρ n st a w):∀ {xs:List ResultVar} {rs:List lH},xJ P n xs rs=true->oP st rs ->
    ∃ vs:List Value,(xs.mapM (Jn a.tmps)).run P w = .ok vs w/\vs.length=rs.length/\∀ (j:Nat) (v:Value) (r:lH),vs[j]? = some v->rs[j]? = some r->GV I ρ v (r.val st)
  | [],[],_,_=>⟨[],by simp,rfl,fun j v r hv=>by simp at hv⟩
  | x::xs,r::rs,hc,hok=>by
    obtain ⟨h1,h2,h3⟩:=hok
    have key:∃ v,(Jn a.tmps x).run P w = .ok v w/\GV I ρ v (r.val st)/\xJ P n xs rs=true:=by
      cases x with
      | tmp t =>
        cases r with
        | tmp s =>
          simp only [xJ,Bool.and_eq_true,beq_iff_eq,decide_eq_true_eq] at hc
          obtain ⟨⟨rfl,hlt⟩,hc⟩:=hc
          have ht:=h.tm t hlt
          simp only [lH.ok] at h1
          refine ⟨a.tmps.getD t undef,rfl,?_,hc⟩
          simp only [lH.val]
          cases hs:st.tm t with
          | none=>rw [hs] at h1; cases h1
          | v g x=>rw [hs] at h1 ht; exact ht.1 h1
        | cell s agg k=>simp [xJ] at hc
      | cell b t =>
        cases r with
        | tmp s=>simp [xJ] at hc
        | cell s agg k =>
          simp only [xJ,Bool.and_eq_true,beq_iff_eq,decide_eq_true_eq] at hc
          obtain ⟨⟨⟨rfl,hlt⟩,hty⟩,hc⟩:=hc
          have ht:=h.tm b hlt
          obtain ⟨hg,hvc⟩:=h1
          have hv:GV I ρ (a.tmps.getD b undef) (st.tm b).x:=by
            cases hs:st.tm b with
            | none=>rw [hs] at hg; cases hg
            | v g x=>rw [hs] at hg ht; exact ht.1 hg
          obtain ⟨q,hq⟩:=Gs hv hvc
          obtain ⟨v,hrun,hgv⟩:=loadV_run (P:=P) h hty hv hvc
          refine ⟨v,?_,hgv,hc⟩
          unfold Jn
          simp only [hq] at hrun ⊢
          simpa [Instr.loadAt,Instr.sureAddr,asAddr] using hrun
    obtain ⟨v,hv,hg,hc'⟩:=key
    obtain ⟨vs,hvs,hl,hgs⟩:=C9 h hc' h3
    refine ⟨v::vs,?_,by simp [hl],fun j u r' hu hr => ?_⟩
    · rw [List.mapM_cons]
      simp [hv,hvs]
    · cases j with
      | zero=>simp at hu hr; subst hu; subst hr; exact hg
      | succ j=>exact hgs j u r' (by simpa using hu) (by simpa using hr)
  | [],_::_,hc,_=>by simp [xJ] at hc
  | x::_,[],hc,_=>by cases x<;>simp [xJ] at hc
def uf:List AV->Nat->List (Nat × Slot)
 | [],_=>[]
 | x::xs,i=>(i,.v true x)::uf xs (i+1)
def mY:List Box->Nat->List (Nat × Box)
 | [],_=>[]
 | x::xs,i=>(i,x)::mY xs (i+1)
theorem wE:∀ {xs:List AV} {i t:Nat},lookT (uf xs i) t=if i<=t then (match xs[t-i]? with | some x => .v true x | none => .none) else .none
  | [],i,t=>by simp [uf,lookT]
  | x::xs,i,t=>by
    simp only [uf,lookT]
    by_cases h:i=t
    · subst h; simp
    · rw [if_neg h,wE (xs:=xs)]
      by_cases h':i<=t
      · have e:t-i=(t-(i+1))+1:=by omega
        rw [if_pos h',if_pos (by omega),e]; simp
      · rw [if_neg h',if_neg (by omega)]
theorem ry:∀ {xs:List Box} {i t:Nat},lookB (mY xs i) t=if i<=t then xs.getD (t-i) .absent else .absent
  | [],i,t=>by simp [mY,lookB]
  | x::xs,i,t=>by
    simp only [mY,lookB]
    by_cases h:i=t
    · subst h; simp
    · rw [if_neg h,ry (xs:=xs)]
      by_cases h':i<=t
      · have e:t-i=(t-(i+1))+1:=by omega
        rw [if_pos h',if_pos (by omega),e]; simp
      · rw [if_neg h',if_neg (by omega)]
def st0 (args:List AV) (fp:List Box):ASt:=ASt.of (uf args 0) (mY fp 0)
theorem Ju (args:List AV) (fp:List Box):(st0 args fp).bx=bxL fp:=by
 funext b
 unfold st0
 rw [of_bx,ry]
 simp [bxL]
def QF (rs:List lH) (m:Nat) (post:AV->List Box->Prop):AQ
 | .normal,st=>sK rs m post st
 | .ret,st=>sK rs m post st
 | .exit _,_=>False
def fE (P:Program) (f:FuncId) (k m:Nat) (ac:bD) (rs:List lH):Bool :=
  match P.funcs[f]? with
  | some fn=>match fn.body with
    | some c=>decide (k<=fn.ntmps)&&decide (m<=10)&&mQ P fn.ntmps m c ac&&xJ P fn.ntmps fn.results.toList rs
    | none=>false
  | none=>false
theorem eH {f:FuncId} {ac:bD} {rs:List lH} {args:List AV} {fp:List Box} {post:AV->List Box->Prop} (hc:fE P f args.length fp.length ac rs=true)
    (hwp:wpC P ac (QF rs fp.length post) (st0 args fp)):ACalls P f args fp post:=by
  unfold fE at hc
  split at hc
  · rename_i fn hf
    split at hc
    · rename_i c hb
      simp only [Bool.and_eq_true,decide_eq_true_eq] at hc
      obtain ⟨⟨⟨hk,hm⟩,hcc⟩,hcr⟩:=hc
      intro I ρ w vs hT hA hB hV
      let E:Env P:=⟨w,I,fun k=>∃ b,(bxL fp b).uses (ρ b) k,ρ,fp.length,hT⟩
      refine calls_of_wp hf hb ?_
      have hlen:vs.length=args.length:=hV.1
      have hG:GX E I ρ fn.ntmps (st0 args fp) { tmps:=vs.toArray++Array.replicate (fn.ntmps-vs.toArray.size) undef,defers:=[] } w:=by
        refine { agree:=hA,bx:=by rw [Ju]; exact hB,tm:=fun t ht => ?_,size:=by simp; omega,defers:=rfl,frm:=Frm.refl _ _,own:=fun b k hu => ?_,ile:=IH.le_refl _,inew:=fun k _ _=>rfl,keepρ:=fun b _=>rfl }
        · unfold st0
          rw [of_tm,wE]
          simp only [Nat.zero_le,if_true,Nat.sub_zero]
          cases hx:args[t]? with
          | none=>trivial
          | some x =>
            have hlt:=(List.getElem?_eq_some_iff.1 hx).1
            have hvt:vs[t]? = some vs[t]:=List.getElem?_eq_getElem (by omega)
            refine ⟨fun _ => ?_,fun e=>by cases e⟩
            have hg:=hV.2 t _ x hvt hx
            have e:((vs.toArray++Array.replicate (fn.ntmps-vs.toArray.size) undef).getD t undef)=vs[t]:=by
              rw [Array.getD_eq_getD_getElem?,Array.getElem?_append_left (by simp; omega)]
              simp [hvt]
            rw [e]
            exact hg
        · right
          rw [Ju] at hu
          exact ⟨b,hu⟩
      refine wp_mono (lC (E:=E) hm hcc ⟨I,ρ,_,hwp,hG⟩) fun e a w' hq => ?_
      have key:AK E fn.ntmps (sK rs fp.length post) a w'->a.defers=[]/\∃ v,(results fn a.tmps).run P w' = .ok v w'/\∃ (v':Value) (J:IH) (σ:Ren) (r:AV) (bs:List Box),Ending.returned v = .returned v'/\post r bs/\GV J σ v' r/\Agree J w'/\BX J σ w' (bxL bs) /\
          I.le J/\Frm w w' (fun k=>∃ b,(bxL fp b).uses (ρ b) k) /\
          (∀ b k,(bxL bs b).uses (σ b) k->w.heap.size<=k\/∃ b',(bxL fp b').uses (ρ b') k) /\
          (∀ k,k<w.heap.size->(¬ ∃ b,(bxL fp b).uses (ρ b) k)->J k=I k) /\
          (∀ b,b<fp.length->σ b=ρ b):=by
        rintro ⟨I',ρ',st,⟨hok,r,bs,zs,π,us,hp,hws,hwv⟩,hg⟩
        obtain ⟨ws,hrun,hl,hgs⟩:=C9 hg hcr hok
        have hv:∃ v,(results fn a.tmps).run P w' = .ok v w'/\GV I' ρ' v (yV st rs):=by
          have hrun':(fn.results.mapM (Jn a.tmps)).run P w' = .ok ws.toArray w':=by
            rw [Array.mapM_eq_mapM_toList]
            simp [hrun]
          rw [Eo]
          by_cases h1:∃ r0,rs=[r0]
          · obtain ⟨r0,rfl⟩:=h1
            match ws,hl,hgs,hrun' with
            | [v0],_,hgs,hrun'=>exact ⟨v0,by simp [hrun'],hgs 0 v0 r0 rfl rfl⟩
          · have hne:ws.length ≠ 1:=by
              intro h
              rw [hl] at h
              match rs,h,h1 with
              | [r0],_,h1=>exact h1 ⟨r0,rfl⟩
            have O0:yV st rs = .tup (lg st rs):=by
              match rs,h1 with
              | [],_=>rfl
              | [r0],h1=>exact absurd ⟨r0,rfl⟩ h1
              | _::_::_,_=>rfl
            refine ⟨.tuple ws.toArray,by simp [hrun',hne],?_⟩
            rw [O0]
            have hparts:∀ {rs:List lH},oP st rs->(lg st rs).length=rs.length/\∀ (j:Nat) (p:Bool × List AC),(lg st rs)[j]? = some p->∃ r,rs[j]? = some r/\p=partOf (r.val st)/\(r.val st).flat:=by
              intro rs
              induction rs with
              | nil=>intro _; exact ⟨rfl,fun j p hp=>by simp [lg] at hp⟩
              | cons r0 rs ih =>
                rintro ⟨_,h2,h3⟩
                obtain ⟨j1,j2⟩:=ih h3
                refine ⟨by simp [lg,j1],fun j p hp => ?_⟩
                cases j with
                | zero=>simp [lg] at hp; exact ⟨r0,rfl,hp.symm,h2⟩
                | succ j=>obtain ⟨r',hr',h'⟩:=j2 j p (by simpa [lg] using hp); exact ⟨r',by simpa using hr',h'⟩
            obtain ⟨p1,p2⟩:=hparts hok
            refine ⟨ws.toArray,rfl,by simp [hl,p1],fun j v p hv hp => ?_⟩
            obtain ⟨r',hr',rfl,hfl⟩:=p2 j p hp
            have hgv:=hgs j v r' (by simpa using hv) hr'
            unfold GP
            cases hval:r'.val st with
            | one x=>rw [hval] at hgv; simp only [partOf]; exact ⟨x,rfl,hgv⟩
            | agg xs=>rw [hval] at hgv; simp only [partOf,if_true]; exact hgv
            | tup q=>rw [hval] at hfl; exact hfl.elim
        obtain ⟨v,O0,hgv⟩:=hv
        have hS:=Aa hg (Nat.le_refl _) hws
        refine ⟨hg.defers,v,O0,v,_,_,r,bs,rfl,hp,LV hg hws.Pe hgv hwv,hS.agree,hS.bx,hS.ile,hS.frm,hS.own,hS.inew,hS.keepρ⟩
      cases e with
      | normal=>exact key hq
      | ret=>exact key hq
      | exit id=>obtain ⟨_,_,_,h,_⟩:=hq; exact h.elim
      | goto l=>exact hq.elim
      | panic ch=>exact hq.elim
      | outgrown=>exact hq.elim
    · cases hc
  · cases hc
end
end Go.Ab
end
section
namespace Go.Ab
open Go
def yP:List (Nat × Nat)->Nat->Option Nat
 | [],_=>none
 | (b,c)::r,x=>if b=x then some c else yP r x
def Dt (zs:List Nat) (bx:Nat->Box) (π:Nat->Option Nat) (vs:List Nat) (Jz:List (Nat × Slot)):List (Nat × Slot)->Prop
 | []=>True
 | (t,s)::r=>zi zs bx π vs (lookT Jz t) s/\Dt zs bx π vs Jz r
def yK (zs:List Nat) (bx:Nat->Box) (π:Nat->Option Nat) (vs:List Nat):List (Nat × Box)->Prop
 | []=>True
 | (b,x)::r=>Hl zs bx π vs b x/\yK zs bx π vs r
def Box.isAbs:Box->Bool
 | .absent=>true
 | _=>false
def nodupB:List Nat->Bool
 | []=>true
 | x::r => !r.contains x&&nodupB r
def fst' {α:Type} : List (Nat × α)->List Nat
 | []=>[]
 | x::r=>x.1::fst' r
def snd':List (Nat × Nat)->List Nat
 | []=>[]
 | x::r=>x.2::snd' r
def vV (m:Nat) (oC bs:List (Nat × Box)) (pi:List (Nat × Nat)) (vs:List Nat):Bool :=
 nodupB (snd' (pi.filter fun p => !(lookB bs p.1).vU))&&nodupB (fst' pi)&&(fst' pi).all (fun b=>(fst' bs).contains b)&&vs.all (fun b=>(fst' bs).contains b && !(fst' pi).contains b) &&
  (List.range m).all fun b=>yP pi b==some b||(!(fst' pi).contains b && !vs.contains b&&(lookB oC b).isAbs)
theorem tK {l:List Nat} : nodupB l=true<->l.Nodup:=by
 induction l with
 | nil=>simp [nodupB]
 | cons x r ih=>simp [nodupB,ih]
theorem uT:∀ {pi:List (Nat × Nat)} {b c:Nat},yP pi b=some c->(b,c)∈pi
  | [],_,_,h=>by cases h
  | (x,y)::r,b,c,h=>by
    simp only [yP] at h
    split at h
    · rename_i e; subst e; cases h; exact List.mem_cons_self ..
    · exact List.mem_cons_of_mem _ (uT h)
theorem Cf {α:Type} : ∀ {l:List (Nat × α)} {b:Nat},b∈fst' l<->∃ x,(b,x)∈l
  | [],b=>by simp [fst']
  | (a,y)::r,b=>by
    simp only [fst',List.mem_cons,Cf (l:=r)]
    constructor
    · rintro (h | ⟨x,hx⟩)
      · subst h; exact ⟨y,.inl rfl⟩
      · exact ⟨x,.inr hx⟩
    · rintro ⟨x,h | h⟩
      · cases h; exact .inl rfl
      · exact .inr ⟨x,h⟩
theorem Fj:∀ {l:List (Nat × Nat)},snd' l=l.map (·.2)
 | []=>rfl
 | x::r=>by simp [snd',Fj (l:=r)]
theorem yh {pi:List (Nat × Nat)} {b:Nat} (h:b ∉ fst' pi):yP pi b=none:=by
 cases hp:yP pi b with
 | none=>rfl
 | some c=>exact absurd (Cf.2 ⟨c,uT hp⟩) h
theorem Dp {zs vs:List Nat} {bx:Nat->Box} {π:Nat->Option Nat} : ∀ {bs:List (Nat × Box)},yK zs bx π vs bs->∀ b x,(b,x)∈bs->Hl zs bx π vs b x
  | [],_,_,_,h=>by cases h
  | (c,y)::r,hw,b,x,h=>by
    rcases List.mem_cons.1 h with h | h
    · cases h; exact hw.1
    · exact Dp hw.2 b x h
theorem zZ {zs vs:List Nat} {bx:Nat->Box} {π:Nat->Option Nat} {Jz:List (Nat × Slot)} : ∀ {ts:List (Nat × Slot)},Dt zs bx π vs Jz ts->∀ t,zi zs bx π vs (lookT Jz t) (lookT ts t)
  | [],_,_=>by simp [lookT,zi]
  | (c,y)::r,hw,t=>by
    simp only [lookT]
    split
    · rename_i e; subst e; exact hw.1
    · exact zZ hw.2 t
theorem Gt {bs:List (Nat × Box)} {b:Nat} : (b,lookB bs b)∈bs\/(b ∉ fst' bs/\lookB bs b = .absent):=by
  induction bs with
  | nil=>right; simp [fst',lookB]
  | cons p r ih =>
    obtain ⟨c,y⟩:=p
    simp only [lookB]
    by_cases h:c=b
    · subst h; left; simp
    · rw [if_neg h]
      rcases ih with ih | ⟨h1,h2⟩
      · left; exact List.mem_cons_of_mem _ ih
      · right; refine ⟨?_,h2⟩; simp only [fst',List.mem_cons,not_or]; exact ⟨fun e=>h e.symm,h1⟩
theorem JE {m:Nat} {oC bs:List (Nat × Box)} (zs:List Nat) (pi:List (Nat × Nat)) (vs:List Nat) (hk:vV m oC bs pi vs=true) (hb:yK zs (lookB oC) (yP pi) vs bs):Oy m (lookB oC) (lookB bs) zs (yP pi) vs:=by
 simp only [vV,Bool.and_eq_true,List.all_eq_true,Bool.or_eq_true,beq_iff_eq,Bool.not_eq_true',List.mem_range,tK,List.contains_iff_mem] at hk
 obtain ⟨⟨⟨⟨h1,_⟩,h3⟩,h4⟩,h5⟩:=hk
 have IC:∀ {l:List Nat} {x:Nat},l.contains x=false->x ∉ l:=fun h hm=>by
  rw [List.contains_iff_mem.2 hm] at h; cases h
 refine ⟨fun b => ?_,fun b b' c hd1 hd2 hb1 hb2 => ?_,fun b hv=>yh (IC (h4 b hv).2),fun b hlt => ?_⟩
 ·rcases Gt (bs:=bs) (b:=b) with h | ⟨h,e⟩
  ·exact Dp hb b _ h
  ·rw [e]
   exact ⟨yh fun hm=>h (h3 b hm),fun hm=>h (h4 b hm).1⟩
 ·have m1:(b,c)∈pi.filter fun p => !(lookB bs p.1).vU:=List.mem_filter.2 ⟨uT hb1,by simp [hd1]⟩
  have m2:(b',c)∈pi.filter fun p => !(lookB bs p.1).vU:=List.mem_filter.2 ⟨uT hb2,by simp [hd2]⟩
  rw [Fj] at h1
  obtain ⟨i,hi,ei⟩:=List.getElem_of_mem m1
  obtain ⟨j,hj,ej⟩:=List.getElem_of_mem m2
  have hpw:=List.pairwise_iff_getElem.1 h1
  rcases Nat.lt_trichotomy i j with h | h | h
  ·have:=hpw i j (by simpa using hi) (by simpa using hj) h
   simp [ei,ej] at this
  ·subst h; rw [ei] at ej; cases ej; rfl
  ·have:=hpw j i (by simpa using hj) (by simpa using hi) h
   simp [ei,ej] at this
 ·rcases h5 b hlt with h | ⟨⟨h,h'⟩,h''⟩
  ·exact .inl h
  ·refine .inr ⟨yh (IC h),IC h',?_⟩
   cases hx:lookB oC b with
   | absent=>rfl
   | _=>rw [hx] at h''; cases h''
theorem tN (ts:List (Nat × Slot)) (bs:List (Nat × Box)):(ASt.of ts bs).bx=lookB bs:=funext fun b=>of_bx ts bs b
theorem Le {m:Nat} {Jz ts:List (Nat × Slot)} {oC bs:List (Nat × Box)} (zs:List Nat) (pi:List (Nat × Nat)) (vs:List Nat) (hk:vV m oC bs pi vs=true)
  (hb:yK zs (lookB oC) (yP pi) vs bs) (ht:Dt zs (lookB oC) (yP pi) vs Jz ts):sJ m (ASt.of Jz oC) (ASt.of ts bs):=by
 refine ⟨zs,yP pi,vs,?_,fun t => ?_⟩
 ·rw [tN,tN]; exact JE zs pi vs hk hb
 ·rw [tN,of_tm,of_tm]; exact zZ ht t
def dC (bx:Nat->Box):AC->AC->Prop
  | .c x,.c y=>x=y
  | .nsl sz,.c y=>y = .sl sz []
  | .own b n sz,.c y=>match (bx b).arr with
    | some (sz',es)=>sz'=sz/\n<=es.length/\y = .sl sz (es.take n)
    | none=>False
  | _,_=>False
def JV (bx:Nat->Box):List AC->List AC->Prop
 | [],[]=>True
 | x::xs,y::ys=>dC bx x y/\JV bx xs ys
 | _,_=>False
def KD (bx:Nat->Box):List (Bool × List AC)->List (Bool × List AC)->Prop
 | [],[]=>True
 | (g,x)::xs,(g',y)::ys=>g=g'/\JV bx x y/\KD bx xs ys
 | _,_=>False
def dV (bx:Nat->Box):AV->AV->Prop
 | .one x,.one y=>dC bx x y
 | .agg xs,.agg ys=>JV bx xs ys
 | .tup xs,.tup ys=>KD bx xs ys
 | _,_=>False
theorem LD {bx:Nat->Box} {zs:List Nat} {x y:AC} (h:dC bx x y) (hz:∀ b,b∈ownsOf [x]->b∈zs):uh zs bx (fun _=>none) [] x y:=by
 cases x<;>cases y<;>simp only [dC] at h<;>try exact h
 exact ⟨hz _ (by simp [ownsOf]),h⟩
theorem Ea {bx:Nat->Box} {zs:List Nat} : ∀ {xs ys:List AC},JV bx xs ys->(∀ b,b∈ownsOf xs->b∈zs)->uj zs bx (fun _=>none) [] xs ys
 | [],[],_,_=>trivial
 | x::xs,y::ys,h,hz=>⟨LD h.1 fun b hb=>hz b (mW.2 (.inl hb)),Ea h.2 fun b hb=>hz b (mW.2 (.inr hb))⟩
 | [],_::_,h,_=>h.elim
 | _::_,[],h,_=>h.elim
theorem Ie {bx:Nat->Box} {zs:List Nat} : ∀ {xs ys:List (Bool × List AC)},KD bx xs ys->(∀ b,b∈(AV.tup xs).owns->b∈zs)->zh zs bx (fun _=>none) [] xs ys
  | [],[],_,_=>trivial
  | (g,x)::xs,(g',y)::ys,h,hz =>
    ⟨h.1,Ea h.2.1 fun b hb=>hz b (by simp only [AV.owns,List.flatMap_cons,List.mem_append]; exact .inl hb),Ie h.2.2 fun b hb=>hz b (by simp only [AV.owns,List.flatMap_cons,List.mem_append] at hb ⊢; exact .inr hb)⟩
  | [],_::_,h,_=>h.elim
  | _::_,[],h,_=>h.elim
theorem NQ {bx:Nat->Box} {x y:AV} (h:dV bx x y):Fz x.owns bx (fun _=>none) [] x y:=by
 cases x<;>cases y<;>simp only [dV] at h<;>first | exact h.elim | skip
 ·exact LD h fun b hb=>hb
 ·exact Ea h fun b hb=>hb
 ·exact Ie h fun b hb=>hb
def wO (rs:List lH) (r:AV) (st:ASt):Prop:=oP st rs/\dV st.bx (yV st rs) r
def QP (rs:List lH) (r:AV):AQ
 | .normal,st=>wO rs r st
 | .ret,st=>wO rs r st
 | .exit _,_=>False
theorem wO.ret {rs:List lH} {r:AV} {st:ASt} (h:wO rs r st):sK rs 0 (fun r' bs=>r'=r/\bs=[]) st :=
 ⟨h.1,r,[],_,_,[],⟨rfl,rfl⟩,⟨fun b=>by rw [Au]; exact ⟨rfl,by simp⟩,fun b b' c _ _ h=>by simp at h,fun b _=>rfl,fun b hb=>by omega⟩,NQ h.2⟩
section
variable {P:Program}
theorem yM:∀ {l:List AOper} {st:ASt} {K K':ASt->Prop},(∀ st,K st->K' st)->wpOps P l st K->wpOps P l st K'
 | [],st,_,_,hk,h=>hk st h
 | x::r,_,_,_,hk,h=>vN (fun _ _ _ h=>yM (l:=r) hk h) (show T P x _ (fun _ _ st'=>wpOps P r st' _) from h)
theorem Du:∀ {l:List (AOper × List Nat)} {i:Nat} {log:Log} {st:ASt} {K K':ASt->Prop},(∀ st,K st->K' st)->wpD P l i log st K->wpD P l i log st K'
 | [],_,_,st,_,_,hk,h=>hk st h
 | (o,aft)::r,i,log,_,_,_,hk,h=>vN (fun _ _ _ h=>⟨h.1,Du (l:=r) hk h.2⟩) (show T P o _ (fun rd wr st'=>logOK aft rd wr log=true/\wpD P r (i+1) ((i,rd,wr)::log) st' _) from h)
theorem wpC_mono:∀ {c:bD} {Q Q':AQ} {st:ASt},(∀ e st,Q e st->Q' e st)->wpC P c Q st->wpC P c Q' st
  | .skip,_,_,st,hq,h=>hq .normal st h
  | .reg ops keep,_,_,st,hq,h=>yM (fun st h=>hq .normal _ h) h
  | .jQ ops keep,_,_,st,hq,h=>Du (fun st h=>hq .normal _ h) h
  | .seq a b,_,_,st,hq,h=>wpC_mono (c:=a) (fun e st h=>by
      cases e with
      | normal=>exact wpC_mono (c:=b) hq h
      | exit id=>exact hq _ _ h
      | ret=>exact hq _ _ h) h
  | .cut a b,_,_,st,hq,⟨X,J,S,h1,h2⟩=>⟨X,J,S,wpC_mono (c:=a) (fun e st h=>by
      cases e with
      | normal=>exact h
      | exit id=>exact hq _ _ h
      | ret=>exact hq _ _ h) h1,fun x hx=>wpC_mono (c:=b) hq (h2 x hx)⟩
  | .cond c a b,_,_,st,hq,⟨h1,h2⟩=>⟨h1,by
      split at h2
      · exact ⟨fun e=>wpC_mono (c:=a) hq (h2.1 e),fun e=>wpC_mono (c:=b) hq (h2.2 e)⟩
      · exact h2.elim⟩
  | .block id a,_,_,st,hq,h=>wpC_mono (c:=a) (fun e st h=>by
      cases e with
      | normal=>exact hq _ _ h
      | exit id' =>
        simp only [kK.inBlock] at h ⊢
        split
        · rename_i e; rw [if_pos e] at h; exact hq _ _ h
        · rename_i e; rw [if_neg e] at h; exact hq _ _ h
      | ret=>exact hq _ _ h) h
  | .loop a,_,_,st,hq,⟨X,J,S,μ,h0,h1⟩=>⟨X,J,S,μ,h0,fun x hx=>wpC_mono (c:=a) (fun e st h=>by
      cases e with
      | normal=>exact h
      | exit id=>exact hq _ _ h
      | ret=>exact hq _ _ h) (h1 x hx)⟩
  | .exit id,_,_,st,hq,h=>hq _ _ h
  | .ret,_,_,st,hq,h=>hq _ _ h
theorem aU {f:FuncId} {ac:bD} {rs:List lH} {args:List AV} {r:AV} (hc:fE P f args.length 0 ac rs=true) (hwp:wpC P ac (QP rs r) (st0 args [])):APure P f args r:=by
 refine eH (fp:=[]) hc (wpC_mono (fun e st h => ?_) hwp)
 cases e with
 | normal=>exact wO.ret h
 | ret=>exact wO.ret h
 | exit id=>exact h.elim
theorem pU.intro {body:AQ->ASt->Prop} {Q:AQ} {st:ASt} {d1:DU body} {d2:DU Q} {X:Type} (J:X->Prop) (S:X->ASt) (μ:X->Nat) (x0:X) (h0:J x0) (hw:sJ 10 st (S x0))
  (h:∀ x,J x->body (kK.then (fun st'=>∃ x',(J x'/\μ x'<μ x)/\sJ 10 st' (S x')) Q) (S x)):pU body Q st d1 d2 :=
 ⟨X,J,S,μ,⟨x0,h0,hw⟩,h⟩
theorem uz.intro {wa wb:AQ->ASt->Prop} {Q:AQ} {st:ASt} {d1:DU wa} {d2:DU wb} {d3:DU Q} {X:Type} (J:X->Prop) (S:X->ASt)
  (h1:wa (kK.then (fun st'=>∃ x,J x/\sJ 10 st' (S x)) Q) st) (h2:∀ x,J x->wb Q (S x)):uz wa wb Q st d1 d2 d3 :=
 ⟨X,J,S,h1,h2⟩
def oh (bx:Nat->Box):AC->AC
  | .nsl sz => .c (.sl sz [])
  | .own b n sz=>match (bx b).arr with
    | some (_,es) => .c (.sl sz (es.take n))
    | none => .junk
  | x=>x
def lZ (bx:Nat->Box):AV->AV
 | .one x => .one (oh bx x)
 | .agg xs => .agg (xs.map (oh bx))
 | .tup xs => .tup xs
def kQ (bx:Nat->Box):List AV->Prop
 | []=>True
 | .tup _::_=>False
 | x::r=>lendOK bx x.cells/\kQ bx r
theorem rq {bx:Nat->Box} : ∀ {xs:List AC},lendOK bx xs->CvL bx xs (xs.map (oh bx))
  | [],_ => .nil
  | x::r,h=>by
    cases x with
    | own b n sz =>
      obtain ⟨h1,h2⟩:=h
      refine .cons ?_ (rq h2)
      simp only [oh]
      cases hb:(bx b).arr with
      | none=>rw [hb] at h1; exact h1.elim
      | some p=>obtain ⟨sz',es⟩:=p; rw [hb] at h1; obtain ⟨rfl,h1⟩:=h1; exact .own b n sz' es hb h1
    | nsl sz=>exact .cons (.nsl sz) (rq (xs:=r) h)
    | _=>exact .cons (.refl _) (rq (xs:=r) h)
theorem ru {bx:Nat->Box} : ∀ {xs:List AV},kQ bx xs->CvAs bx xs (xs.map (lZ bx))
  | [],_ => .nil
  | x::r,h=>by
    cases x with
    | one x =>
      refine .cons ?_ (ru h.2)
      have:=rq (xs:=[x]) h.1
      cases this with
      | cons h t=>exact .one h
    | agg xs=>exact .cons (.agg (rq h.1)) (ru h.2)
    | tup xs=>exact h.elim
variable {f:FuncId} {avs:List AV} {p:Bool} {d:Option Nat} {st:ASt} {K:List Nat->List Nat->ASt->Prop} {du:DU K}
theorem TCallK.lit (r:AV) (h:p=true->APure P f (avs.map (lZ st.bx)) r) (hl:p=true->kQ st.bx avs) (hd:(avs.map (lZ st.bx)).all (·.all AC.isData)=true) (hr:r.all AC.isLit=true)
  (k:K (avs.flatMap AV.owns) [] (st.putO d (.v p r))):TCallK P f avs p d st K du :=
 TCall.lit _ r (fun e=>ru (hl e)) hd h hr k
theorem TCallK.pure (r:AV) (hp:p=true) (h:APure P f (avs.map (lZ st.bx)) r) (hl:kQ st.bx avs) (hd:(avs.map (lZ st.bx)).all (·.all AC.isData)=true) (hr:r.all AC.isData=true)
  (k:K (avs.flatMap AV.owns) (avs.flatMap AV.owns) ((st.frz (avs.flatMap AV.owns)).putO d (.v true r))):TCallK P f avs p d st K du :=
 TCall.pure _ r hp (ru hl) hd h hr k
end
end Go.Ab
end
section
namespace Go.Ab
open Go
def TK (P:Program) (o:AOper) (st:ASt) (K:List Nat->List Nat->ASt->Prop) (_:DU o) (_:DU K):Prop:=T P o st K
def wo (P:Program) (ops:List AOper) (st:ASt) (K:ASt->Prop) (_:DU ops) (_:DU K):Prop:=wpOps P ops st K
def G6 (P:Program) (ops:List (AOper × List Nat)) (i:Nat) (log:List (Nat × List Nat × List Nat)) (st:ASt) (K:ASt->Prop) (_:DU ops) (_:DU K):Prop:=wpD P ops i log st K
def lT (P:Program) (c:bD) (Q:AQ) (st:ASt) (_:DU c) (_:DU Q):Prop:=wpC P c Q st
def QK (Q:AQ) (e:kK) (st:ASt) (_:DU Q):Prop:=Q e st
def sQ (c:bD) (P:Program) (Q:AQ):AQ:=kK.then (wpC P c Q) Q
section
variable {P:Program} {st:ASt} {K:List Nat->List Nat->ASt->Prop} {k:ASt->Prop} {Q:AQ}
theorem Ko {g:Option (Nat × Bool)} {d:Option Nat} {f:FuncId} {args:List Opd} {d1:DU (AOper.mk g d (.call f args))} {d2:DU K} :
  TK P ⟨g,d,.call f args⟩ st K d1 d2=(guardVC st.tm g/\(guardV st.tm g=true->∀ x,x∈args->(x.ev st.tm).g=true)/\TCallK P f (args.map (avOf st.tm)) (guardV st.tm g) d st K .mk):=by
 unfold TK T; rfl
def vM (P:Program) (x:AV) (args:List AV) (p:Bool) (d:Option Nat) (st:ASt) (K:List Nat->List Nat->ASt->Prop) (_:DU K):Prop :=
 match p,x with
 | false,_=>TCallK P 0 [] false d st K .mk
 | true,.one (.fn f caps)=>callOK P f=true/\TCallK P f (args++caps.map fun b => .one (.ptr b 0)) true d st K .mk
 | true,_=>False
theorem FQ {f:FuncId} {caps:List Nat} {args:List AV} {d:Option Nat} {du:DU K} : vM P (.one (.fn f caps)) args true d st K du=(callOK P f=true/\TCallK P f (args++caps.map fun b => .one (.ptr b 0)) true d st K .mk):=by
 unfold vM; rfl
theorem Hy {x:AV} {args:List AV} {d:Option Nat} {du:DU K} : vM P x args false d st K du=TCallK P 0 [] false d st K .mk:=by
 unfold vM; rfl
theorem Hz {g:Option (Nat × Bool)} {d:Option Nat} {x:Opd} {args:List Opd} {d1:DU (AOper.mk g d (.callv x args))} {d2:DU K} :
  TK P ⟨g,d,.callv x args⟩ st K d1 d2=(guardVC st.tm g/\(guardV st.tm g=true->(x.ev st.tm).g=true/\∀ x,x∈args->(x.ev st.tm).g=true)/\vM P (avOf st.tm x) (args.map (avOf st.tm)) (guardV st.tm g) d st K .mk):=by
 unfold TK T vM; rfl
theorem Ew {d1:DU ([]:List AOper)} {d2:DU k} : wo P [] st k d1 d2=k st:=by unfold wo wpOps; rfl
theorem Dv {o:AOper} {r:List AOper} {d1:DU (o::r)} {d2:DU k} : wo P (o::r) st k d1 d2=TK P o st (fun _ _ st'=>wo P r st' k .mk .mk) .mk .mk:=by
 unfold wo TK; rfl
theorem JK {i:Nat} {log:List (Nat × List Nat × List Nat)} {d1:DU ([]:List (AOper × List Nat))} {d2:DU k} : G6 P [] i log st k d1 d2=k st:=by unfold G6 wpD; rfl
theorem G7 {i:Nat} {log:List (Nat × List Nat × List Nat)} {o:AOper} {aft:List Nat} {r:List (AOper × List Nat)} {d1:DU ((o,aft)::r)} {d2:DU k} :
  G6 P ((o,aft)::r) i log st k d1 d2=TK P o st (fun rd wr st'=>logOK aft rd wr log=true/\G6 P r (i+1) ((i,rd,wr)::log) st' k .mk .mk) .mk .mk:=by
 unfold G6 TK; rfl
theorem G5 {d1:DU bD.skip} {d2:DU Q} : lT P .skip Q st d1 d2=QK Q .normal st .mk:=by unfold lT wpC; rfl
theorem JH {ops:List AOper} {keep:List Nat} {d1:DU (bD.reg ops keep)} {d2:DU Q} : lT P (.reg ops keep) Q st d1 d2=wo P ops st (fun st=>QK Q .normal (st.keep keep) .mk) .mk .mk:=by unfold lT wpC; rfl
theorem GZ {ops:List (AOper × List Nat)} {keep:List Nat} {d1:DU (bD.jQ ops keep)} {d2:DU Q} : lT P (.jQ ops keep) Q st d1 d2=G6 P ops 0 [] st (fun st=>QK Q .normal (st.keep keep) .mk) .mk .mk:=by unfold lT wpC; rfl
theorem JJ {a b:bD} {d1:DU (bD.seq a b)} {d2:DU Q} : lT P (.seq a b) Q st d1 d2=lT P a (sQ b P Q) st .mk .mk:=by unfold lT; rw [wpC]; rfl
theorem JG {a b:bD} {d1:DU (bD.cut a b)} {d2:DU Q} : lT P (.cut a b) Q st d1 d2=uz (wpC P a) (wpC P b) Q st .mk .mk .mk:=by unfold lT; rw [wpC]
theorem GY {a:bD} {d1:DU (bD.loop a)} {d2:DU Q} : lT P (.loop a) Q st d1 d2=pU (wpC P a) Q st .mk .mk:=by unfold lT; rw [wpC]
theorem Eu {id:Nat} {a:bD} {d1:DU (bD.block id a)} {d2:DU Q} : lT P (.block id a) Q st d1 d2=lT P a (kK.inBlock id Q) st .mk .mk:=by unfold lT; rw [wpC]
theorem GU {id:Nat} {d1:DU (bD.exit id)} {d2:DU Q} : lT P (.exit id) Q st d1 d2=QK Q (.exit id) st .mk:=by unfold lT wpC; rfl
theorem JI {d1:DU bD.ret} {d2:DU Q} : lT P .ret Q st d1 d2=QK Q .ret st .mk:=by unfold lT wpC; rfl
def zF (P:Program) (c:AV) (a b:bD) (Q:AQ) (st:ASt) (_:DU a) (_:DU b) (_:DU Q):Prop :=
 match c with
 | .one (.c (.lit (.bool t)))=>(t=true->wpC P a Q st)/\(t=false->wpC P b Q st)
 | _=>False
theorem GR {c:Opd} {a b:bD} {d1:DU (bD.cond c a b)} {d2:DU Q} : lT P (.cond c a b) Q st d1 d2=((c.ev st.tm).g=true/\zF P (c.ev st.tm).x a b Q st .mk .mk .mk):=by
 unfold lT zF; rw [wpC]<;>rfl
theorem KA {a b:bD} {d1:DU a} {d2:DU b} {d3:DU Q} : zF P (.one (.c (.lit (.bool true)))) a b Q st d1 d2 d3=lT P a Q st .mk .mk:=by unfold zF lT; simp
theorem Kz {a b:bD} {d1:DU a} {d2:DU b} {d3:DU Q} : zF P (.one (.c (.lit (.bool false)))) a b Q st d1 d2 d3=lT P b Q st .mk .mk:=by unfold zF lT; simp
theorem FO {b:bD} {du:DU (sQ b P Q)} : QK (sQ b P Q) .normal st du=lT P b Q st .mk .mk:=by unfold QK sQ lT; rfl
theorem FN {b:bD} {id:Nat} {du:DU (sQ b P Q)} : QK (sQ b P Q) (.exit id) st du=QK Q (.exit id) st .mk:=by unfold QK sQ; rfl
theorem FP {b:bD} {du:DU (sQ b P Q)} : QK (sQ b P Q) .ret st du=QK Q .ret st .mk:=by unfold QK sQ; rfl
theorem FK {k:ASt->Prop} {du:DU (kK.then k Q)} : QK (kK.then k Q) .normal st du=k st:=by unfold QK; rfl
theorem FI {k:ASt->Prop} {id:Nat} {du:DU (kK.then k Q)} : QK (kK.then k Q) (.exit id) st du=QK Q (.exit id) st .mk:=by unfold QK; rfl
theorem FM {k:ASt->Prop} {du:DU (kK.then k Q)} : QK (kK.then k Q) .ret st du=QK Q .ret st .mk:=by unfold QK; rfl
theorem DR {id:Nat} {du:DU (kK.inBlock id Q)} : QK (kK.inBlock id Q) .normal st du=QK Q .normal st .mk:=by unfold QK; rfl
theorem DN {id id':Nat} {du:DU (kK.inBlock id Q)} : QK (kK.inBlock id Q) (.exit id') st du=if id'=id then QK Q .normal st .mk else QK Q (.exit id') st .mk:=by unfold QK; rfl
theorem DT {id:Nat} {du:DU (kK.inBlock id Q)} : QK (kK.inBlock id Q) .ret st du=QK Q .ret st .mk:=by unfold QK; rfl
theorem J7 {rs:List lH} {r:AV} {du:DU (QP rs r)} : QK (QP rs r) .normal st du=wO rs r st:=by unfold QK; rfl
theorem J8 {rs:List lH} {r:AV} {du:DU (QP rs r)} : QK (QP rs r) .ret st du=wO rs r st:=by unfold QK; rfl
theorem J5 {rs:List lH} {m:Nat} {post:AV->List Box->Prop} {du:DU (QF rs m post)} : QK (QF rs m post) .normal st du=sK rs m post st:=by unfold QK; rfl
theorem J6 {rs:List lH} {m:Nat} {post:AV->List Box->Prop} {du:DU (QF rs m post)} : QK (QF rs m post) .ret st du=sK rs m post st:=by unfold QK; rfl
theorem jG {c:bD} (h:lT P c Q st .mk .mk):wpC P c Q st:=h
theorem Oe {a:bD} {d1:DU (wpC P a)} {d2:DU Q} {X:Type} (J:X->Prop) (S:X->ASt) (μ:X->Nat) (x0:X) (h0:J x0) (hw:sJ 10 st (S x0))
  (h:∀ x,J x->lT P a (kK.then (fun st'=>∃ x',(J x'/\μ x'<μ x)/\sJ 10 st' (S x')) Q) (S x) .mk .mk):pU (wpC P a) Q st d1 d2 :=
 pU.intro J S μ x0 h0 hw h
theorem OM {a b:bD} {d1:DU (wpC P a)} {d2:DU (wpC P b)} {d3:DU Q} {X:Type} (J:X->Prop) (S:X->ASt)
  (h1:lT P a (kK.then (fun st'=>∃ x,J x/\sJ 10 st' (S x)) Q) st .mk .mk) (h2:∀ x,J x->lT P b Q (S x) .mk .mk):uz (wpC P a) (wpC P b) Q st d1 d2 d3 :=
 uz.intro J S h1 h2
end
end Go.Ab
end
section
namespace Go.Ab
open Go
inductive Nd where
 | mk (k w:Int) (s:List UInt8) (ws:List (List UInt8)) (ks:List Nd)
abbrev aA:=List UInt8
def O9 (ws:List aA):List (List Cell):=ws.map fun w=>[.str w]
mutual
def Nd.cells:Nd->List Cell
 | .mk k w s ws ks=>[.lit (.int .i64 k),.lit (.int .i64 w),.str s,.sl 1 (O9 ws),.sl 5 (Nd.pX ks)]
def Nd.pX:List Nd->List (List Cell)
 | []=>[]
 | x::r=>x.cells::Nd.pX r
end
theorem Nd.zD (ks:List Nd):Nd.pX ks=ks.map Nd.cells:=by
 induction ks with
 | nil=>rfl
 | cons x r ih=>simp [Nd.pX,ih]
def Bh:List AC->Bool
 | []=>true
 | .c _::r=>Bh r
 | _=>false
def rZ:List AV->Bool
 | []=>true
 | .one (.c _)::r=>rZ r
 | .agg xs::r=>Bh xs&&rZ r
 | _=>false
theorem uZ {bx:Nat->Box} : ∀ {xs:List AC},Bh xs=true->xs.map (oh bx)=xs/\lendOK bx xs/\xs.all AC.isData=true/\ownsOf xs=[]
  | [],_=>⟨rfl,trivial,rfl,rfl⟩
  | x::r,h=>by
    cases x with
    | c x =>
      obtain ⟨h1,h2,h3,h4⟩:=uZ (bx:=bx) (xs:=r) h
      exact ⟨by simp [oh,h1],h2,by simp [AC.isData,h3],by simp [ownsOf,h4]⟩
    | _=>cases h
theorem ou {bx:Nat->Box} : ∀ {xs:List AV},rZ xs=true->xs.map (lZ bx)=xs/\kQ bx xs/\xs.all (·.all AC.isData)=true/\xs.flatMap AV.owns=[]
  | [],_=>⟨rfl,trivial,rfl,rfl⟩
  | x::r,h=>by
    cases x with
    | one x =>
      cases x with
      | c x =>
        obtain ⟨h1,h2,h3,h4⟩:=ou (bx:=bx) (xs:=r) h
        exact ⟨by simp [lZ,oh,h1],⟨trivial,h2⟩,by rw [List.all_cons,h3]; rfl,by simp [AV.owns,ownsOf,h4]⟩
      | _=>cases h
    | agg xs =>
      simp only [rZ,Bool.and_eq_true] at h
      obtain ⟨h1,h2,h3,h4⟩:=ou (bx:=bx) (xs:=r) h.2
      obtain ⟨j1,j2,j3,j4⟩:=uZ (bx:=bx) h.1
      refine ⟨by simp only [List.map_cons,lZ,j1,h1],⟨j2,h2⟩,?_,by simp only [List.flatMap_cons,AV.owns,j4,h4,List.append_nil]⟩
      rw [List.all_cons,h3,Bool.and_true]
      exact j3
    | tup xs=>cases h
section
variable {P:Program} {f:FuncId} {avs:List AV} {p:Bool} {d:Option Nat} {st:ASt} {K:List Nat->List Nat->ASt->Prop} {du:DU K}
theorem KG (st:ASt):st.frz []=st:=by
 apply ASt.ext'
 ·rfl
 ·funext b; simp [ASt.frz]
theorem Lt {r:AV} (h:APure P f avs r) (hs:rZ avs=true) (hr:r.all AC.isData=true) (k:K [] [] (st.putO d (.v true r))):TCallK P f avs true d st K du:=by
 obtain ⟨h1,h2,h3,h4⟩:=ou (bx:=st.bx) hs
 refine TCallK.pure r rfl (by rw [h1]; exact h) h2 (by rw [h1]; exact h3) hr ?_
 rw [h4,KG]
 exact k
theorem H8 {r:AV} (h:p=true->APure P f avs r) (hs:rZ avs=true) (hr:r.all AC.isLit=true) (k:K [] [] (st.putO d (.v p r))):TCallK P f avs p d st K du:=by
 obtain ⟨h1,h2,h3,h4⟩:=ou (bx:=st.bx) hs
 refine TCallK.lit r (fun e=>by rw [h1]; exact h e) (fun _=>h2) (by rw [h1]; exact h3) hr ?_
 rw [h4]
 exact k
end
theorem OJ (b:Bool):(b==true)=b:=by cases b<;>rfl
theorem OI (b:Bool):(b==false) = !b:=by cases b<;>rfl
end Go.Ab
end
section
namespace Go.Ab
open Go
def cI (x:Int):List Cell:=[.lit (.int .i64 x)]
def cU (x:Int):List Cell:=[.lit (.int .u8 x)]
def cK (k:IntKind) (x:Int):List Cell:=[.lit (.int k x)]
def cB (x:Bool):List Cell:=[.lit (.bool x)]
def cS (x:aA):List Cell:=[.str x]
def cL {α:Type} (sz:Nat) (f:α->List Cell) (xs:List α):List Cell:=[.sl sz (List.map f xs)]
def chk (c:Prop) [Decidable c] {α:Type} (k:Option α):Option α:=if c then k else none
theorem lF {c:Prop} [Decidable c] {α:Type} {k:Option α} {r:α} : chk c k=some r<->c/\k=some r:=by
 unfold chk; split<;>simp [*]
theorem zH {b:Bool} {α:Type} {x y:Option α} {r:α} : cond b x y=some r<->(b=true/\x=some r)\/(b=false/\y=some r):=by
 cases b<;>simp
def lM (xs:List Int):aA:=xs.map fun x=>UInt8.ofNat x.toNat
theorem D5 (xs:List Int):bytesOf (List.map cU xs)=some (lM xs):=by
 induction xs with
 | nil=>rfl
 | cons x r ih=>simp [cU,bytesOf,ih,lM]
theorem BN:bytesOf []=some []:=rfl
theorem BO (n:Int) (r:List (List Cell)):bytesOf ([.lit (.int .u8 n)]::r)=Option.map (fun l=>UInt8.ofNat n.toNat::l) (bytesOf r):=by
 simp only [bytesOf]; cases bytesOf r<;>rfl
theorem lD (xs:List Int):(lM xs).length=xs.length:=by simp [lM]
theorem Gj {α:Type} [Inhabited α] {f:α->List Cell} {xs:List α} {i:Nat} (h:i<xs.length):(List.map f xs).getD i []=f (xs.getD i default):=by
 simp [h]
theorem take_len {α:Type} {l:List α} {n:Nat} (h:l.length=n):l.take n=l:=by subst h; simp
theorem sF {α:Type} {x:α} {l:List α} {n:Nat} (h:l.length=n):(x::l).take (1+n)=x::l:=by subst h; rw [Nat.add_comm]; simp
theorem sG {α:Type} {x y:α} {l:List α} {n:Nat} (h:l.length=n):(x::y::l).take (2+n)=x::y::l:=by subst h; rw [Nat.add_comm]; simp
def xW (l:List Nat):List (Nat × Box)->List (Nat × Box)
 | []=>[]
 | (b,x)::r=>(b,if l.contains b then frzB x else x)::xW l r
theorem Gi (l:List Nat) (bs:List (Nat × Box)) (b:Nat):lookB (xW l bs) b=if b∈l then frzB (lookB bs b) else lookB bs b:=by
  induction bs with
  | nil=>simp [xW,lookB,frzB]
  | cons p r ih =>
    obtain ⟨c,x⟩:=p
    simp only [xW,lookB,ih]
    by_cases h:c=b
    · subst h; simp
    · simp [h]
theorem E5 (ts:List (Nat × Slot)) (bs:List (Nat × Box)) (l:List Nat):(ASt.of ts bs).frz l=ASt.of ts (xW l bs):=by
 apply ASt.ext'
 ·rfl
 ·funext b
  simp only [ASt.frz]
  rw [of_bx,of_bx,Gi]
theorem Iu (bs:List (Nat × Box)):xW [] bs=bs:=by
 induction bs with
 | nil=>rfl
 | cons p r ih=>obtain ⟨c,x⟩:=p; simp [xW,ih]
def Nw (g:Bool) (o:AOp) (d:Option Nat) (st:ASt) (K:List Nat->List Nat->ASt->Prop) (_:DU o) (_:DU K):Prop:=TOp o g d st K
def L6 (valid:Prop) (rd:List Nat) (r:FR) (d:Option Nat) (st:ASt) (K:List Nat->List Nat->ASt->Prop) (_:DU K):Prop :=
 valid/\r.vc/\K rd (r.sets.map (·.1)) ((st.setbs r.sets).putO d (.v true r.v))
section
variable {P:Program} {st:ASt} {K:List Nat->List Nat->ASt->Prop}
theorem LZ {g:Option (Nat × Bool)} {d:Option Nat} {op:AOp} {d1:DU (AOper.mk g d (.op op))} {d2:DU K} :
  TK P ⟨g,d,.op op⟩ st K d1 d2=(guardVC st.tm g/\Nw (guardV st.tm g) op d st K .mk .mk):=by
 unfold TK T Nw; rfl
theorem NH {op:AOp} {d:Option Nat} {d1:DU op} {d2:DU K} : Nw true op d st K d1 d2=L6 (op.valid (Opd.ev st.tm)) (op.rd (avOf st.tm)) (op.f (avOf st.tm) st.bx) d st K .mk:=by
 unfold Nw TOp L6; simp
theorem NG {op:AOp} {d:Option Nat} {d1:DU op} {d2:DU K} : Nw false op d st K d1 d2=K [] [] (st.putO d (.v false (.one .junk))):=by
 unfold Nw TOp; simp
theorem L8 {valid:Prop} {rd:List Nat} {vc:Prop} {v:AV} {sets:List (Nat × Box)} {d:Option Nat} {du:DU K} :
  L6 valid rd ⟨vc,v,sets⟩ d st K du=(valid/\vc/\K rd (sets.map (·.1)) ((st.setbs sets).putO d (.v true v))):=rfl
end
section
variable {P:Program} {f:FuncId} {avs:List AV} {d:Option Nat} {st:ASt} {K:List Nat->List Nat->ASt->Prop} {du:DU K}
theorem Lp {DW:List AV} {r:AV} (h:APure P f DW r) (he:avs.map (lZ st.bx)=DW) (hl:kQ st.bx avs) (hd:DW.all (·.all AC.isData)=true) (hr:r.all AC.isData=true)
  (k:K (avs.flatMap AV.owns) (avs.flatMap AV.owns) ((st.frz (avs.flatMap AV.owns)).putO d (.v true r))):TCallK P f avs true d st K du:=by
 subst he
 exact TCallK.pure r rfl h hl hd hr k
theorem Lr {DW:List AV} {r:AV} (h:APure P f DW r) (he:avs.map (lZ st.bx)=DW) (hl:kQ st.bx avs) (hd:DW.all (·.all AC.isData)=true) (hr:r.all AC.isLit=true)
  (k:K (avs.flatMap AV.owns) [] (st.putO d (.v true r))):TCallK P f avs true d st K du:=by
 subst he
 exact TCallK.lit r (fun _=>h) (fun _=>hl) hd hr k
theorem Ls (k:K (avs.flatMap AV.owns) [] (st.putO d (.v false (.one (.c (.lit (.bool true))))))):TCallK P f avs false d st K du :=
 TCall.lit [] (.one (.c (.lit (.bool true)))) (fun e=>by cases e) rfl (fun e=>by cases e) rfl k
def yY (st:ASt) (sg:List Nat):List Box->Nat->Prop
 | [],_=>True
 | x::r,i=>st.bx (sg.getD i 0)=renB (fun b=>sg.getD b 0) x/\yY st sg r (i+1)
theorem Bg {st:ASt} {sg:List Nat} : ∀ {fp:List Box} {i0 i:Nat},yY st sg fp i0->i<fp.length->st.bx (sg.getD (i0+i) 0)=renB (fun b=>sg.getD b 0) (fp.getD i .absent)
  | [],_,_,_,h=>by simp at h
  | x::r,i0,0,h,_=>by simpa using h.1
  | x::r,i0,i+1,h,hi=>by
    have:=Bg (i:=i) h.2 (by simpa using hi)
    simpa [Nat.add_assoc,Nat.add_comm 1 i] using this
def yT (st:ASt):List Nat->Prop
 | []=>True
 | b::r=>st.bx b = .absent/\10<=b/\yT st r
theorem A7 {st:ASt} : ∀ {nu:List Nat},yT st nu->∀ b,b∈nu->st.bx b = .absent/\10<=b
  | [],_,_,h=>by cases h
  | c::r,h,b,hb=>by
    rcases List.mem_cons.1 hb with e | e
    · subst e; exact ⟨h.1,h.2.1⟩
    · exact A7 h.2.2 b e
theorem NL {ds:List AV} {fp oC:List Box} {r0:AV} (sg nu:List Nat) (h:ACalls P f ds fp (fun r bs=>r=r0/\bs=oC)) (hl:sg.length=fp.length) (hn:nodupB (sg++nu)=true) (hf:yY st (sg++nu) fp 0) (hv:yT st nu)
  (hra:(ds.all fun x=>x.all (AC.refsLt fp.length))=true) (hrf:fp.all (Box.refsLt fp.length)=true) (ha:avs=ds.map (renA fun b=>(sg++nu).getD b 0)) (hb:oC.length=(sg++nu).length)
  (k:K (sg++nu) (sg++nu) ((st.setbs ((sg++nu).zip (oC.map (renB fun b=>(sg++nu).getD b 0)))).putO d (.v true (renA (fun b=>(sg++nu).getD b 0) r0)))):TCallK P f avs true d st K du:=by
 refine TCall.gen rfl ds fp sg nu _ hl (tK.1 hn) (fun i hi => ?_) ⟨r0,oC,rfl,rfl⟩ (A7 hv) hra hrf ha h (fun r bs hp => ?_)
 ·have:=Bg (i:=i) hf hi
  rw [Nat.zero_add] at this
  exact this
 ·obtain ⟨rfl,rfl⟩:=hp
  exact ⟨hb,k⟩
end
section
variable {P:Program} {f:FuncId} {avs:List AV} {d:Option Nat} {st:ASt} {K:List Nat->List Nat->ASt->Prop} {du:DU K}
theorem NP {ds:List AV} {fp oC:List Box} {r0:AV} (sg nu:List Nat) (h:ACalls P f ds fp (fun r bs=>r=r0/\bs=oC)) (he:avs.map (lZ st.bx)=ds.map (renA fun b=>(sg++nu).getD b 0)) (hlo:kQ st.bx avs)
  (hl:sg.length=fp.length) (hn:nodupB (sg++nu)=true) (hf:yY (st.frz (avs.flatMap AV.owns)) (sg++nu) fp 0) (hv:yT st nu)
  (hra:(ds.all fun x=>x.all (AC.refsLt fp.length))=true) (hrf:fp.all (Box.refsLt fp.length)=true) (hb:oC.length=(sg++nu).length)
  (k:K (avs.flatMap AV.owns++(sg++nu)) (avs.flatMap AV.owns++(sg++nu)) (((st.frz (avs.flatMap AV.owns)).setbs ((sg++nu).zip (oC.map (renB fun b=>(sg++nu).getD b 0)))).putO d (.v true (renA (fun b=>(sg++nu).getD b 0) r0)))):TCallK P f avs true d st K du:=by
 refine TCall.genL rfl _ (ru hlo) ds fp sg nu _ hl (tK.1 hn) (fun i hi => ?_) ⟨r0,oC,rfl,rfl⟩ (A7 hv) hra hrf he h (fun r bs hp => ?_)
 ·have:=Bg (i:=i) hf hi
  rw [Nat.zero_add] at this
  exact this
 ·obtain ⟨rfl,rfl⟩:=hp
  exact ⟨hb,k⟩
end
theorem IV (aft:List Nat) (log:List (Nat × List Nat × List Nat)):logOK aft [] [] log=true:=by
 induction log with
 | nil=>rfl
 | cons e r ih=>obtain ⟨j,a,b⟩:=e; simp [logOK,disj,ih]
theorem IU (aft rd wr:List Nat):logOK aft rd wr []=true:=rfl
theorem Md (bs:List Box):bxL bs=lookB (mY bs 0):=by
 funext b
 rw [ry]
 simp [bxL]
theorem Na {rs:List lH} {ts:List (Nat × Slot)} {oC:List (Nat × Box)} {m:Nat} {r:AV} {bs:List Box} (zs:List Nat) (pi:List (Nat × Nat)) (vs:List Nat) (hk:vV m oC (mY bs 0) pi vs=true)
  (hok:oP (ASt.of ts oC) rs) (hb:yK zs (lookB oC) (yP pi) vs (mY bs 0)) (hv:Fz zs (lookB oC) (yP pi) vs (yV (ASt.of ts oC) rs) r) :
  sK rs m (fun r1 b1=>r1=r/\b1=bs) (ASt.of ts oC):=by
 refine ⟨hok,r,bs,zs,yP pi,vs,⟨rfl,rfl⟩,?_,?_⟩
 ·rw [tN,Md]; exact JE zs pi vs hk hb
 ·rw [tN]; exact hv
end Go.Ab
end
section
namespace Go.Ab
open Go
theorem xk {x:Int} (h0:0<=x) (h1:x<9223372036854775808):IntKind.wrap .i64 x=x:=by
 simp only [IntKind.wrap,IntKind.bits,IntKind.signed]
 simp
 omega
theorem NR {α:Type} (f:α->List Cell) (k:Nat) (hf:∀ t,(f t).length<=k) {l:List α} {i j:Nat} {v:List Cell} (hv:v.length<=k):List.drop k (((List.map f l).set i v).getD j [])=[]:=by
 have key:∀ (m:List (List Cell)),(∀ y,y∈m->y.length<=k)->List.drop k (m.getD j [])=[]:=by
  intro m hm
  apply List.drop_of_length_le
  by_cases hj:j<m.length
  ·rw [show m.getD j []=m[j] by simp [List.getD,hj]]; exact hm _ (List.getElem_mem hj)
  ·rw [show m.getD j []=[] by simp [List.getD,List.getElem?_eq_none (Nat.le_of_not_lt hj)]]; simp
 apply key
 intro y hy
 rcases List.mem_or_eq_of_mem_set hy with h | h
 ·obtain ⟨t,_,rfl⟩:=List.mem_map.1 h; exact hf t
 ·rw [h]; exact hv
theorem MH {l:List aA} {i j:Nat} {x:Cell} : List.drop 1 (((List.map cS l).set i [x]).getD j [])=[]:=NR cS 1 (fun t=>by simp [cS]) (by simp)
end Go.Ab
end
section
namespace Go.Ab
open Go
def mG (e:TypeId) (v:Value) (l:List UInt8) (w:World):Prop :=
 (v = .slice none 0 0/\l=[])\/∃ g cap cs,v = .slice (some ⟨g,0,none⟩) l.length cap/\cap ≠ 0/\l.length<=cap/\cap<=maxLen/\w.heap[g]? = some (.cells cs e (0,0))/\cs.size=cap /\
  (∀ (j:Nat) (u:Value),cs[j]? = some u->u.oneCell'=true)/\∀ (j:Nat) (x:UInt8),l[j]? = some x->cs[j]? = some (.int .u8 x.toNat)
def xx (w w':World) (v v':Value):Prop:=w.grownBy w' v.ownBlock/\(v'.ownBlock=v.ownBlock\/∃ g,v'.ownBlock=some g/\w.heap.size<=g)
section
variable {P:Program} {w:World}
theorem Am (l:List UInt8) (j:Nat):(Lib.byteCells l)[j]? = (l[j]?).map fun x=>Value.int .u8 x.toNat:=by simp [Lib.byteCells]
theorem DX (l:List UInt8):∀ u∈Lib.byteCells l,u.oneCell'=true:=fun u hu=>by
 simp [Lib.byteCells] at hu
 obtain ⟨a,_,rfl⟩:=hu
 rfl
theorem Dc {e:TypeId} (l:List UInt8) (h0:l ≠ []) (cap:Nat) (hc:l.length<=cap) (hm:cap<=maxLen) (w0:World) (z:Array Value) (hz:z=(Lib.byteCells l).toArray++Builtin.zeroCells (Value.int .u8 0).cells (cap-l.length)) :
  mG e (.slice (some ⟨w0.heap.size,0,none⟩) l.length cap) l (w0.alloc (.cells z e)):=by
 have hl:0<l.length:=List.length_pos_iff.2 h0
 have hzs:(Builtin.zeroCells (Value.int .u8 0).cells (cap-l.length)).size=cap-l.length:=by
  rw [size_zeroCells]; exact Nat.mul_one _
 refine .inr ⟨w0.heap.size,cap,z,rfl,by omega,hc,hm,heap_alloc_new w0 _,?_,fun j u hu => ?_,fun j x hx => ?_⟩
 ·rw [hz,Array.size_append,hzs,List.size_toArray,Lib.byteCells_length]; omega
 ·rw [hz] at hu
  rcases Array.getElem?_eq_some_iff.1 hu with ⟨hj,hu⟩
  have hm:u∈(Lib.byteCells l).toArray++Builtin.zeroCells (Value.int .u8 0).cells (cap-l.length):=hu ▸ Array.getElem_mem hj
  rcases Array.mem_append.1 hm with hm | hm
  ·exact DX l u (by simpa using hm)
  ·simp [Builtin.zeroCells,Value.cells] at hm
   obtain ⟨i,_,h⟩:=hm
   rw [Nat.mod_one] at h
   rw [<- h]
   rfl
 ·have hj:=(List.getElem?_eq_some_iff.1 hx).1
  rw [hz,Array.getElem?_append_left (by simpa [Lib.byteCells_length] using hj)]
  simpa [hx] using Am l j
theorem Df {e:TypeId} {g cap:Nat} {cs:Array Value} {l s:List UInt8} (hg:w.heap[g]? = some (.cells cs e (0,0))) (hs:cs.size=cap) (hc0:cap ≠ 0) (hm:cap<=maxLen) (h1:∀ (j:Nat) (u:Value),cs[j]? = some u->u.oneCell'=true)
  (hb:∀ (j:Nat) (x:UInt8),l[j]? = some x->cs[j]? = some (.int .u8 x.toNat)) (hr:l.length+s.length<=cap) :
  mG e (.slice (some ⟨g,0,none⟩) (l++s).length cap) (l++s) (w.setRow g (cs.toList.take l.length++Lib.byteCells s++cs.toList.drop (l.length+s.length)).toArray):=by
 have hlen:(cs.toList.take l.length).length=l.length:=by simp; omega
 refine .inr ⟨g,cap,_,rfl,hc0,by simpa using hr,hm,setRow_heap w g cs _ e _ hg,?_,fun j u hu => ?_,fun j x hx => ?_⟩
 ·simp [Lib.byteCells_length]; omega
 ·have hm':=List.mem_of_getElem? (show (cs.toList.take l.length++Lib.byteCells s++cs.toList.drop (l.length+s.length))[j]? = some u by simpa using hu)
  rcases List.mem_append.1 hm' with hm' | hm'
  ·rcases List.mem_append.1 hm' with hm' | hm'
   ·obtain ⟨i,hi⟩:=List.mem_iff_getElem?.1 (List.mem_of_mem_take hm')
    exact h1 i u (by simpa using hi)
   ·exact DX s u hm'
  ·obtain ⟨i,hi⟩:=List.mem_iff_getElem?.1 (List.mem_of_mem_drop hm')
   exact h1 i u (by simpa using hi)
 ·have hj:=(List.getElem?_eq_some_iff.1 hx).1
  show (cs.toList.take l.length++Lib.byteCells s++cs.toList.drop (l.length+s.length)).toArray[j]? = _
  rw [List.getElem?_toArray,List.append_assoc]
  by_cases hjl:j<l.length
  ·rw [List.getElem?_append_left hjl] at hx
   rw [List.getElem?_append_left (by omega),List.getElem?_take,if_pos hjl]
   simpa using hb j x hx
  ·rw [List.getElem?_append_right (by omega)] at hx
   rw [List.getElem?_append_right (by omega),hlen,List.getElem?_append_left (by rw [Lib.byteCells_length]; exact (List.getElem?_eq_some_iff.1 hx).1),Am,hx]
   rfl
theorem ni (g n c:Nat):Value.ownBlock (.slice (some ⟨g,0,none⟩) n c)=some g:=rfl
theorem HY {t u ty e:TypeId} {i:TypeInfo} (ht:P.underlying t=some (.slice e)) (hu:P.underlying u=some .string) (hi:P.info? e=some i) (hz:i.zero=some (.int .u8 0)) (hs1:i.size=1) (hby:i.bytes=1)
  {v:Value} {l:List UInt8} (hv:mG e v l w) (s:List UInt8) (hl:l.length+s.length<=140737488355328) :
  ∃ v' w',(Builtin.append_ #[t,u] ty #[v,.string ⟨⟨s⟩⟩]).run P w = .ok v' w'/\mG e v' (l++s) w'/\xx w w' v v':=by
 have hmax:(140737488355328:Nat)<=maxLen:=by unfold maxLen; omega
 have hss:(ByteArray.mk ⟨s⟩).size=s.length:=rfl
 have hsc:Lib.strCells (ByteArray.mk ⟨s⟩)=Lib.byteCells s:=Lib.strCells_eq _
 have fresh:∀ (old:Nat) (v:Value),old<l.length+s.length ->
   mG e (.slice (some ⟨w.heap.size,0,none⟩) (l++s).length (grownCap w (l.length+s.length) old e)) (l++s)
    (w.drew.alloc (.cells ((Lib.byteCells l).toArray++(Lib.byteCells s).toArray++Builtin.zeroCells (Value.int .u8 0).cells (grownCap w (l.length+s.length) old e-(l.length+s.length))) e)) /\
   xx w (w.drew.alloc (.cells ((Lib.byteCells l).toArray++(Lib.byteCells s).toArray++Builtin.zeroCells (Value.int .u8 0).cells (grownCap w (l.length+s.length) old e-(l.length+s.length))) e)) v
    (.slice (some ⟨w.heap.size,0,none⟩) (l++s).length (grownCap w (l.length+s.length) old e)):=by
  intro old v ho
  refine ⟨Dc (l++s) (fun h => ?_) _ ?_ (grownCap_le_maxLen _ _ _ _ (by omega)) w.drew _ ?_,⟨rfl,rfl,rfl,by simp,fun k hk _=>Lib.alloc_old w.drew _ k hk⟩,.inr ⟨w.heap.size,rfl,Nat.le_refl _⟩⟩
  ·have:=congrArg List.length h; rw [List.length_append,List.length_nil] at this; omega
  ·simpa using grownCap_ge w (l.length+s.length) old e
  ·rw [Lib.byteCells_append]; simp
 rcases hv with ⟨rfl,rfl⟩ | ⟨g,cap,cs,rfl,hc0,hle,hcm,hg,hcs,h1,hb⟩
 ·by_cases h0:s=[]
  ·subst h0
   refine ⟨.slice none 0 0,w,?_,.inl ⟨rfl,rfl⟩,⟨rfl,rfl,rfl,Nat.le_refl _,fun _ _ _=>rfl⟩,.inl rfl⟩
   have hf:=Lib.run_firstCells_string (P:=P) w 1 ⟨⟨[]⟩⟩
   have e0:(ByteArray.mk ⟨[]⟩).size=0:=rfl
   rw [e0] at hf
   simp [Builtin.append_,run_underlying ht,run_underlying hu,sizeOf,typeInfo,hi,hs1,Builtin.lenOf,e0,hf]
  ·have hp:0<s.length:=List.length_pos_iff.2 h0
   have hr:=run_append_nil_string (P:=P) w t u ty e i (.int .u8 0) ht hu hi hz ⟨⟨s⟩⟩ (by rw [hss]; omega) (by rw [hss]; simp at hl; omega) (by rw [hby,hss]; simp at hl; omega)
   have hf:=fresh 0 (.slice none 0 0) (by simpa using hp)
   simp only [List.nil_append,List.length_nil,Nat.zero_add,Array.append_assoc] at hf
   have e1:((ByteArray.mk ⟨s⟩).data.map fun b=>Value.int .u8 b.toNat)=(Lib.byteCells s).toArray:=by apply Array.ext'; simp [Lib.byteCells]
   rw [e1,hss] at hr
   have e2:(Lib.byteCells ([]:List UInt8)).toArray = #[]:=rfl
   rw [e2,Array.empty_append] at hf
   exact ⟨_,_,hr,hf.1,hf.2⟩
 ·by_cases hroom:l.length+s.length<=cap
  ·have hr:=Lib.run_append_room_string (P:=P) w t u ty e i ht hu hi hs1 g l.length cap cs hg ⟨⟨s⟩⟩ (by rw [hss]; exact hroom) (by rw [hss]; omega)
   rw [hss,hsc] at hr
   have hR:=Df hg hcs hc0 hcm h1 hb hroom
   rw [List.length_append] at hR
   exact ⟨_,_,hr,hR,⟨rfl,rfl,rfl,by simp,fun k _ hk=>setRow_other w g k _ (fun e=>hk (by simp [Value.ownBlock,e]))⟩,.inl rfl⟩
  ·have hr:=Lib.run_append_grow_string (P:=P) w t u ty e i (.int .u8 0) ht hu hi hz ⟨g,0,none⟩ l.length cap (Lib.byteCells l) (by rw [hs1,Lib.byteCells_length,Nat.mul_one]) (fun j x hx=>by
     rw [Am] at hx
     cases hlj:l[j]? with
     | none=>rw [hlj] at hx; cases hx
     | some y=>rw [hlj] at hx; simp at hx; subst hx; rw [Addr.add_mk]; simp [World.cell?,hg,hb j y hlj]) ⟨⟨s⟩⟩ (by rw [hss]; omega) (by rw [hss]; omega) (by rw [hby,hss]; exact growslice_fits (by omega) (by omega))
   rw [hss,hsc] at hr
   have hf:=fresh cap (.slice (some ⟨g,0,none⟩) l.length cap) (by omega)
   rw [List.length_append] at hf
   exact ⟨_,_,hr,hf.1,hf.2⟩
theorem Kw {t ty e:TypeId} {i:TypeInfo} (ht:P.underlying t=some (.slice e)) (hi:P.info? e=some i) (hz:i.zero=some (.int .u8 0)) (hs1:i.size=1) (hby:i.bytes=1)
  {v:Value} {l:List UInt8} (hv:mG e v l w) (s:List UInt8) (h0:s ≠ []) (ad:Addr) (c:Nat) (hnews:∀ j v,(Lib.byteCells s)[j]? = some v->w.cell? (ad.add j)=some v) (hl:l.length+s.length<=140737488355328) :
  ∃ v' w',(Builtin.append_ #[t,t] ty #[v,.slice (some ad) s.length c]).run P w = .ok v' w'/\mG e v' (l++s) w'/\xx w w' v v':=by
 have hmax:(140737488355328:Nat)<=maxLen:=by unfold maxLen; omega
 have hp:0<s.length:=List.length_pos_iff.2 h0
 have fresh:∀ (old:Nat) (v:Value),old<l.length+s.length ->
   mG e (.slice (some ⟨w.heap.size,0,none⟩) (l++s).length (grownCap w (l.length+s.length) old e)) (l++s)
    (w.drew.alloc (.cells ((Lib.byteCells l).toArray++(Lib.byteCells s).toArray++Builtin.zeroCells (Value.int .u8 0).cells (grownCap w (l.length+s.length) old e-(l.length+s.length))) e)) /\
   xx w (w.drew.alloc (.cells ((Lib.byteCells l).toArray++(Lib.byteCells s).toArray++Builtin.zeroCells (Value.int .u8 0).cells (grownCap w (l.length+s.length) old e-(l.length+s.length))) e)) v
    (.slice (some ⟨w.heap.size,0,none⟩) (l++s).length (grownCap w (l.length+s.length) old e)):=by
  intro old v ho
  refine ⟨Dc (l++s) (fun h => ?_) _ ?_ (grownCap_le_maxLen _ _ _ _ (by omega)) w.drew _ ?_,⟨rfl,rfl,rfl,by simp,fun k hk _=>Lib.alloc_old w.drew _ k hk⟩,.inr ⟨w.heap.size,rfl,Nat.le_refl _⟩⟩
  ·have:=congrArg List.length h; rw [List.length_append,List.length_nil] at this; omega
  ·simpa using grownCap_ge w (l.length+s.length) old e
  ·rw [Lib.byteCells_append]; simp
 have hn:(Lib.byteCells s).length=s.length*i.size:=by rw [hs1,Lib.byteCells_length,Nat.mul_one]
 rcases hv with ⟨rfl,rfl⟩ | ⟨g,cap,cs,rfl,hc0,hle,hcm,hg,hcs,h1,hb⟩
 ·have hr:=run_append_nil (P:=P) w t ty e i (.int .u8 0) ht hi hz ad s.length c (Lib.byteCells s) hn hnews hp (by simp at hl; omega) (by rw [hby]; simp at hl; omega)
  have hf:=fresh 0 (.slice none 0 0) (by simpa using hp)
  simp only [List.nil_append,List.length_nil,Nat.zero_add,Array.append_assoc] at hf
  have e2:(Lib.byteCells ([]:List UInt8)).toArray = #[]:=rfl
  rw [e2,Array.empty_append] at hf
  exact ⟨_,_,hr,hf.1,hf.2⟩
 ·by_cases hroom:l.length+s.length<=cap
  ·have hr:=run_append_room' (P:=P) (w:=w) (ty:=ty) t e e i ht hi g l.length cap cs hg ad s.length c (Lib.byteCells s) hn hnews (DX s) hroom (by rw [hs1,Lib.byteCells_length]; omega)
   rw [hs1,Lib.byteCells_length,Nat.mul_one] at hr
   have hR:=Df hg hcs hc0 hcm h1 hb hroom
   rw [List.length_append] at hR
   exact ⟨_,_,hr,hR,⟨rfl,rfl,rfl,by simp,fun k _ hk=>setRow_other w g k _ (fun e=>hk (by simp [Value.ownBlock,e]))⟩,.inl rfl⟩
  ·have hr:=run_append_grow (P:=P) w t ty e i (.int .u8 0) ht hi hz ⟨g,0,none⟩ l.length cap (Lib.byteCells l) (by rw [hs1,Lib.byteCells_length,Nat.mul_one]) (fun j x hx=>by
     rw [Am] at hx
     cases hlj:l[j]? with
     | none=>rw [hlj] at hx; cases hx
     | some y=>rw [hlj] at hx; simp at hx; subst hx; rw [Addr.add_mk]; simp [World.cell?,hg,hb j y hlj]) ad s.length c (Lib.byteCells s) hn hnews (by omega) (by omega) (by rw [hby]; exact growslice_fits (by omega) (by omega))
   have hf:=fresh cap (.slice (some ⟨g,0,none⟩) l.length cap) (by omega)
   rw [List.length_append] at hf
   exact ⟨_,_,hr,hf.1,hf.2⟩
end
end Go.Ab
end
section
set_option linter.unusedVariables false
namespace Go.Ab
open Go Go.Shelf Go.RowKit Go.Proofs
section
variable {P:Program} {w:World}
theorem mG.alloc {e:TypeId} {v:Value} {l:List UInt8} (h:mG e v l w) (o:Obj):mG e v l (w.alloc o):=by
 rcases h with h | ⟨g,cap,cs,h1,h2,h3,h4,h5,h6⟩
 ·exact .inl h
 ·exact .inr ⟨g,cap,cs,h1,h2,h3,h4,(Lib.alloc_old w o g (heap_lt h5)).trans h5,h6⟩
theorem mG.same {e:TypeId} {v:Value} {l:List UInt8} {w':World} (h:mG e v l w) (hk:∀ g,v.ownBlock=some g->w'.heap[g]? = w.heap[g]?):mG e v l w':=by
 rcases h with h | ⟨g,cap,cs,h1,h2,h3,h4,h5,h6⟩
 ·exact .inl h
 ·exact .inr ⟨g,cap,cs,h1,h2,h3,h4,(hk g (by rw [h1]; rfl)).trans h5,h6⟩
theorem mG.Ei {e:TypeId} {v:Value} {l:List UInt8} (h:mG e v l w) {g:Nat} (hg:v.ownBlock=some g):g<w.heap.size/\∃ cs,w.heap[g]? = some (.cells cs e (0,0)):=by
 rcases h with ⟨rfl,_⟩ | ⟨g',cap,cs,rfl,h2,h3,h4,h5,h6⟩
 ·cases hg
 ·simp only [ni,Option.some.injEq] at hg
  subst hg
  exact ⟨heap_lt h5,cs,h5⟩
theorem mG.ne {e T:TypeId} {v:Value} {l:List UInt8} {k:Nat} {cs:Array Value} (h:mG e v l w) (hk:w.heap[k]? = some (.cells cs T (0,0))) (hT:T ≠ e):v.ownBlock ≠ some k:=fun he=>by
 obtain ⟨_,c,hc⟩:=h.Ei he
 rw [hk] at hc
 simp only [Option.some.injEq,Obj.cells.injEq] at hc
 exact hT hc.2.1
theorem wW {ops:Array Oper} {rest:List Oper} {o:Oper} {a:Act} {Q:Exit->Act->World->Prop} (hgd:o.guard=none) (sl x:Operand) (t u:TypeId)
  (ho:o.op = .call { callee := .builtin .append,args := #[sl,x],argTypes := #[t,u] })
  (e:TypeId) (i:TypeInfo) (ht:P.underlying t=some (.slice e)) (hu:P.underlying u=some .string) (hi:P.info? e=some i) (hz:i.zero=some (.int .u8 0)) (hsize:i.size=1) (hby:i.bytes=1)
  (v:Value) (l:List UInt8) (hs:a.eval sl=v) (hv:mG e v l w) (s:List UInt8) (hx:a.eval x = .string ⟨⟨s⟩⟩) (hl:l.length+s.length<=140737488355328)
  (h:∀ v' w',mG e v' (l++s) w'->xx w w' v v'->wpList P ops Q rest (a.put o.dst v') w'):wpList P ops Q (o::rest) a w:=by
 refine wpList_plain hgd fun K hK => ?_
 obtain ⟨v',w',hr,h2,h3⟩:=HY (P:=P) (ty:=o.type) ht hu hi hz hsize hby hv s hl
 unfold Oper.wp execOp
 simp only [ho,resolve,invoke,builtin,Sem.run_bind,Sem.run_pure,Result.andThen_ok,List.map_toArray,List.map_cons,List.map_nil,hs,hx,hr]
 exact hK _ _ (h v' w' h2 h3)
theorem yL {ops:Array Oper} {rest:List Oper} {o:Oper} {a:Act} {Q:Exit->Act->World->Prop} (hgd:o.guard=none) (sl x:Operand) (t:TypeId)
  (ho:o.op = .call { callee := .builtin .append,args := #[sl,x],argTypes := #[t,t] })
  (e:TypeId) (i:TypeInfo) (ht:P.underlying t=some (.slice e)) (hi:P.info? e=some i) (hz:i.zero=some (.int .u8 0)) (hsize:i.size=1) (hby:i.bytes=1)
  (v:Value) (l:List UInt8) (hs:a.eval sl=v) (hv:mG e v l w) (s:List UInt8) (h0:s ≠ []) (ad:Addr) (c:Nat) (hx:a.eval x = .slice (some ad) s.length c) (hnews:∀ j v,(Lib.byteCells s)[j]? = some v->w.cell? (ad.add j)=some v)
  (hl:l.length+s.length<=140737488355328)
  (h:∀ v' w',mG e v' (l++s) w'->xx w w' v v'->wpList P ops Q rest (a.put o.dst v') w'):wpList P ops Q (o::rest) a w:=by
 refine wpList_plain hgd fun K hK => ?_
 obtain ⟨v',w',hr,h2,h3⟩:=Kw (P:=P) (ty:=o.type) ht hi hz hsize hby hv s h0 ad c hnews hl
 unfold Oper.wp execOp
 simp only [ho,resolve,invoke,builtin,Sem.run_bind,Sem.run_pure,Result.andThen_ok,List.map_toArray,List.map_cons,List.map_nil,hs,hx,hr]
 exact hK _ _ (h v' w' h2 h3)
end
variable {P:Program} {ρ:Go.Shelf.Ren}
def J3 (k:Nat) (p:Value):Prop:=p = .pointer none\/p = .pointer (some ⟨k,0,none⟩)
structure Hid (p:Prop):Prop where
 h:p
theorem zC (L:Lays.n240 P ρ) (X:Builder.X72 P ρ) (k:Nat) (p v:Value) (w:World) (hk:w.heap[k]? = some (.cells #[p,v] (ρ.t 72) (0,0))) (hp:J3 k p) :
  Calls P (ρ.f 240) #[.pointer (some ⟨k,0,none⟩)] w fun e w'=>e = .returned (.tuple #[])/\w'.heap[k]? = some (.cells #[.pointer (some ⟨k,0,none⟩),v] (ρ.t 72) (0,0))/\Hid (w'.heap.size=w.heap.size)/\Frm w w' (fun k'=>k'=k):=by
 rcases hp with rfl | rfl
 ·refine (Any.Builder_copyCheck_fresh L X k w (by rw [Lib.cell_of_heap hk]; rfl) (by simp [World.shape?,hk]) (Lib.frozen_of_heap hk 0)).mono ?_
  rintro e w' ⟨rfl,rfl⟩
  refine ⟨rfl,?_,⟨by simp [World.setCell]⟩,⟨rfl,rfl,rfl,by simp [World.setCell],fun k' _ hk'=>Below.heap_setCell _ _ _ _ (fun e=>hk' (by simp [e]))⟩⟩
  simp [World.setCell,Array.getElem?_modify,hk]
 ·refine (Any.Builder_copyCheck_used L X k w (by rw [Lib.cell_of_heap hk]; rfl)).mono ?_
  rintro e w' ⟨rfl,rfl⟩
  exact ⟨rfl,hk,⟨rfl⟩,Frm.refl _ _⟩
def Wrote (T e:TypeId) (k:Nat) (v:Value) (l:List UInt8) (w w':World):Prop :=
 ∃ v',w'.heap[k]? = some (.cells #[.pointer (some ⟨k,0,none⟩),v'] T (0,0))/\mG e v' l w'/\(v'.ownBlock=v.ownBlock\/∃ g,v'.ownBlock=some g/\w.heap.size<=g)/\Frm w w' (fun k'=>k'=k\/some k'=v.ownBlock)
theorem Dz {T e:TypeId} {k:Nat} {v v':Value} {l:List UInt8} {w w1 w1' w2:World} (hT:T ≠ e) (hv:mG e v l w) (hlt:k<w.heap.size) (h1:w1.heap[k]? = some (.cells #[.pointer (some ⟨k,0,none⟩),v] T (0,0))) (hs:w1.heap.size=w.heap.size) (hF:Frm w w1 (fun k'=>k'=k))
  (ha:w1'=w1\/∃ o,w1'=w1.alloc o) {l':List UInt8} (hr:mG e v' l' w2) (hg:xx w1' w2 v v') (hne:v.ownBlock ≠ some k) :
  w2.heap[k]? = some (.cells #[.pointer (some ⟨k,0,none⟩),v] T (0,0))/\Wrote T e k v l' w (w2.setCell ⟨k,1,none⟩ v'):=by
 have hsz:w.heap.size<=w1'.heap.size:=by
  rcases ha with rfl | ⟨o,rfl⟩
  ·omega
  ·simp; omega
 have hk1:∀ k',k'<w.heap.size->w1'.heap[k']? = w1.heap[k']? := fun k' hk'=>by
  rcases ha with rfl | ⟨o,rfl⟩
  ·rfl
  ·exact Lib.alloc_old w1 o k' (by omega)
 have hk2:w2.heap[k]? = some (.cells #[.pointer (some ⟨k,0,none⟩),v] T (0,0)):=by
  rw [hg.1.block k (by omega) (fun e=>hne e.symm),hk1 k hlt]; exact h1
 have hne2:v'.ownBlock ≠ some k:=hr.ne hk2 hT
 refine ⟨hk2,v',?_,?_,?_,?_⟩
 ·simp [World.setCell,Array.getElem?_modify,hk2]
 ·exact hr.same fun g hg'=>Below.heap_setCell _ _ _ _ (fun e=>hne2 (by rw [hg']; simp at e; rw [e]))
 ·rcases hg.2 with h | ⟨g,h,hb⟩
  ·exact .inl h
  ·exact .inr ⟨g,h,by omega⟩
 ·have ha':Frm w1 w1' (fun _=>False):=by
   rcases ha with rfl | ⟨o,rfl⟩
   ·exact Frm.refl _ _
   ·exact ⟨rfl,rfl,rfl,by simp,fun k' h _=>Lib.alloc_old w1 o k' h⟩
  have h01:=hF.trans ha' (fun _ _ h=>h.elim)
  exact ⟨hg.1.os.trans h01.os,hg.1.tape.trans h01.tape,hg.1.output.trans h01.output,by have:=hg.1.size; simp [World.setCell]; omega,fun k' hlt' hm=>by
   rw [Below.heap_setCell _ _ _ _ (fun e=>hm (.inl (by simpa using e))),hg.1.block k' (by omega) (fun e=>hm (.inr e))]
   exact h01.block k' hlt' (fun e=>hm (.inl e))⟩
set_option maxHeartbeats 2000000 in
set_option maxRecDepth 100000 in
theorem wP (L:Lays.n166 P ρ) (X:Builder.Extra P ρ) (k:Nat) (p v:Value) (l s:List UInt8) (w:World) (hk:w.heap[k]? = some (.cells #[p,v] (ρ.t 72) (0,0))) (hp:J3 k p) (hv:mG (ρ.t 5) v l w)
  (hlen:l.length+s.length<=140737488355328) :
  Calls P (ρ.f 166) #[.pointer (some ⟨k,0,none⟩),.string ⟨⟨s⟩⟩] w fun e w'=>e = .returned (.tuple #[.int .i64 s.length,.nilIface])/\Wrote (ρ.t 72) (ρ.t 5) k v (l++s) w w':=by
 obtain ⟨i0,hi,hz0,hz1,hz2⟩:=info_parts X.infoByte
 have hlt:=heap_lt hk
 have hne:=hv.ne hk X.neB5
 have mixed:=L.mixed
 have t72:=L.t72; have a72:=L.a72; have z72:=L.z72; have v72:=L.v72; have u72:=run_underlying L.t72
 have t70:=L.t70; have a70:=L.a70; have z70:=L.z70; have v70:=L.v70; have u70:=run_underlying L.t70
 have t37:=L.t37; have a37:=L.a37; have z37:=L.z37; have v37:=L.v37; have u37:=run_underlying L.t37
 have t3:=L.t3; have a3:=L.a3; have z3:=L.z3; have v3:=L.v3; have u3:=run_underlying L.t3
 have t9:=L.t9; have a9:=L.a9; have z9:=L.z9; have v9:=L.v9; have u9:=run_underlying L.t9
 have t4:=L.t4; have a4:=L.a4; have z4:=L.z4; have v4:=L.v4; have u4:=run_underlying L.t4
 have t164:=L.t164; have a164:=L.a164; have z164:=L.z164; have v164:=L.v164; have u164:=run_underlying L.t164
 have t5:=X.t5; have a5:=X.a5; have z5:=X.z5; have v5:=X.v5; have u5:=run_underlying X.t5
 have e240:∀ args w,(callFunc (ρ.f 240) args).run P w = .ok (.enter (ρ.f 240) args) w:=enters_of L.f240 (by kernel_rfl) rfl
 go_enter L.f166,Body.n166_ntmps ρ
 go_wp2_with (go_at_fn (ρ.f 240); refine (zC { L with } X.toX72 k p v _ hk hp).mono ?_)
 rintro e w1 ⟨rfl,hk1,hs1,hF1⟩
 have hv1:mG (ρ.t 5) v l w1:=hv.same fun g hg=>hF1.block g (hv.Ei hg).1 (fun e=>hne (by rw [hg,e]))
 have c0:w1.cell? ⟨k,0,none⟩=some (.pointer (some ⟨k,0,none⟩)):=by rw [Lib.cell_of_heap hk1]; rfl
 have c1:w1.cell? ⟨k,1,none⟩=some v:=by rw [Lib.cell_of_heap hk1]; rfl
 go_wp2_with (at_builtin; refine wW rfl _ _ (ρ.t 37) (ρ.t 9) rfl (ρ.t 5) i0 L.t37 L.t9 hi hz0 hz1 hz2 _ _ rfl hv1 s rfl hlen ?_)
 intro v' w2 hr hg
 obtain ⟨hb2,hW⟩:=Dz X.neB5 hv hlt hk1 hs1.h hF1 (.inl rfl) hr hg hne
 have d0:w2.cell? ⟨k,0,none⟩=some (.pointer (some ⟨k,0,none⟩)):=by rw [Lib.cell_of_heap hb2]; rfl
 have d1:w2.cell? ⟨k,1,none⟩=some v:=by rw [Lib.cell_of_heap hb2]; rfl
 have f1:w2.frozen? ⟨k,1,none⟩=false:=Lib.frozen_of_heap hb2 1
 obtain ⟨ao,n',cap,rfl⟩:∃ ao n' cap,v' = .slice ao n' cap:=by
  rcases hr with ⟨hv,_⟩ | ⟨g,cap,cs,hv,_⟩
  ·exact ⟨_,_,_,hv⟩
  ·exact ⟨_,_,_,hv⟩
 go_wp2
 go_ret2
 exact ⟨rfl,hW⟩
theorem H7 (c:Int) (hc:0<=c/\c<256):Value.int .u8 (UInt8.ofNat c.toNat).toNat = .int .u8 c:=by
 have:((UInt8.ofNat c.toNat).toNat:Int)=c:=by simp [UInt8.toNat_ofNat']; omega
 rw [this]
set_option maxHeartbeats 2000000 in
set_option maxRecDepth 100000 in
theorem yQ (L:Lays.n167 P ρ) (X:Builder.Extra P ρ) (k:Nat) (p v:Value) (l:List UInt8) (c:Int) (w:World) (hk:w.heap[k]? = some (.cells #[p,v] (ρ.t 72) (0,0))) (hp:J3 k p) (hv:mG (ρ.t 5) v l w)
  (hc:0<=c/\c<256) (hlen:l.length+1<=140737488355328) :
  Calls P (ρ.f 167) #[.pointer (some ⟨k,0,none⟩),.int .u8 c] w fun e w'=>e = .returned .nilIface/\Wrote (ρ.t 72) (ρ.t 5) k v (l++[UInt8.ofNat c.toNat]) w w':=by
 obtain ⟨i0,hi,hz0,hz1,hz2⟩:=info_parts X.infoByte
 have hlt:=heap_lt hk
 have hne:=hv.ne hk X.neB5
 have hbc:Lib.byteCells [UInt8.ofNat c.toNat]=[Value.int .u8 c]:=by simp only [Lib.byteCells,List.map_cons,List.map_nil,H7 c hc]
 have hnews:∀ w1:World,∀ j u,(Lib.byteCells [UInt8.ofNat c.toNat])[j]? = some u->(w1.alloc (.cells #[.int .u8 c] (ρ.t 5))).cell? ((⟨w1.heap.size,0,none⟩:Addr).add j)=some u:=by
  intro w1 j u hj
  rw [hbc] at hj
  match j,hj with
  | 0,hj=>simp at hj; subst hj; simp [Addr.add]
 have mixed:=L.mixed
 have t72:=L.t72; have a72:=L.a72; have z72:=L.z72; have v72:=L.v72; have u72:=run_underlying L.t72
 have t70:=L.t70; have a70:=L.a70; have z70:=L.z70; have v70:=L.v70; have u70:=run_underlying L.t70
 have t5:=L.t5; have a5:=L.a5; have z5:=L.z5; have v5:=L.v5; have u5:=run_underlying L.t5
 have t37:=L.t37; have a37:=L.a37; have z37:=L.z37; have v37:=L.v37; have u37:=run_underlying L.t37
 have t9:=L.t9; have a9:=L.a9; have z9:=L.z9; have v9:=L.v9; have u9:=run_underlying L.t9
 have t4:=L.t4; have a4:=L.a4; have z4:=L.z4; have v4:=L.v4; have u4:=run_underlying L.t4
 have t164:=L.t164; have a164:=L.a164; have z164:=L.z164; have v164:=L.v164; have u164:=run_underlying L.t164
 have e240:∀ args w,(callFunc (ρ.f 240) args).run P w = .ok (.enter (ρ.f 240) args) w:=enters_of L.f240 (by kernel_rfl) rfl
 go_enter L.f167,Body.n167_ntmps ρ
 go_wp2_with (go_at_fn (ρ.f 240); refine (zC { L with } X.toX72 k p v _ hk hp).mono ?_)
 rintro e w1 ⟨rfl,hk1,hs1,hF1⟩
 have hv1:mG (ρ.t 5) v l w1:=hv.same fun g hg=>hF1.block g (hv.Ei hg).1 (fun e=>hne (by rw [hg,e]))
 have c0:w1.cell? ⟨k,0,none⟩=some (.pointer (some ⟨k,0,none⟩)):=by rw [Lib.cell_of_heap hk1]; rfl
 have c1:w1.cell? ⟨k,1,none⟩=some v:=by rw [Lib.cell_of_heap hk1]; rfl
 go_wp2_with (at_builtin; refine yL rfl _ _ (ρ.t 37) rfl (ρ.t 5) i0 L.t37 hi hz0 hz1 hz2 _ _ rfl (hv1.alloc _) [UInt8.ofNat c.toNat] (List.cons_ne_nil _ _) ⟨w1.heap.size,0,none⟩ 1 rfl (hnews w1) hlen ?_)
 intro v' w2 hr hg
 obtain ⟨hb2,hW⟩:=Dz X.neB5 hv hlt hk1 hs1.h hF1 (.inr ⟨_,rfl⟩) hr hg hne
 have d0:w2.cell? ⟨k,0,none⟩=some (.pointer (some ⟨k,0,none⟩)):=by rw [Lib.cell_of_heap hb2]; rfl
 have d1:w2.cell? ⟨k,1,none⟩=some v:=by rw [Lib.cell_of_heap hb2]; rfl
 have f1:w2.frozen? ⟨k,1,none⟩=false:=Lib.frozen_of_heap hb2 1
 obtain ⟨ao,n',cap,rfl⟩:∃ ao n' cap,v' = .slice ao n' cap:=by
  rcases hr with ⟨hv,_⟩ | ⟨g,cap,cs,hv,_⟩
  ·exact ⟨_,_,_,hv⟩
  ·exact ⟨_,_,_,hv⟩
 go_wp2
 go_ret
 exact ⟨rfl,hW⟩
theorem Ee (w:World) (g n:Nat):Frm w (w.drew.freeze ⟨g,0,none⟩ n) (fun k'=>k'=g):=by
 unfold World.freeze
 split
 ·exact ⟨rfl,rfl,rfl,Nat.le_refl _,fun _ _ _=>rfl⟩
 ·exact ⟨rfl,rfl,rfl,by simp only [Array.size_modify]; exact Nat.le_refl _,fun k hk hm=>by
   simp only [Array.getElem?_modify]
   rw [if_neg (fun e=>hm e.symm)]
   rfl⟩
theorem mV {w w':World} (h:Below w.heap.size w w') (M:Nat->Prop):Frm w w' M:=⟨h.os,h.tape,h.output,h.size,fun k hk _=>h.block k hk⟩
set_option maxHeartbeats 2000000 in
set_option maxRecDepth 100000 in
theorem DZ (L:Lays.n169 P ρ) (X:Builder.Extra P ρ) (k:Nat) (p v:Value) (l:List UInt8) (w:World) (hk:w.heap[k]? = some (.cells #[p,v] (ρ.t 72) (0,0))) (hv:mG (ρ.t 5) v l w) :
  Calls P (ρ.f 169) #[.pointer (some ⟨k,0,none⟩)] w fun e w'=>e = .returned (.string ⟨⟨l⟩⟩)/\Frm w w' (fun k'=>some k'=v.ownBlock):=by
 rcases hv with ⟨rfl,rfl⟩ | ⟨g,cap,cs,rfl,hc0,hle,hcm,hg,hcs,h1,hb⟩
 ·refine (Any.Builder_String_nil L X w.heap.size k p w hk).mono ?_
  rintro e w' ⟨rfl,h⟩
  exact ⟨rfl,mV h _⟩
 by_cases h0:l=[]
 ·subst h0
  refine (Any.Builder_String_room L X w.heap.size k g cap p w hc0 hk).mono ?_
  rintro e w' ⟨rfl,h⟩
  exact ⟨rfl,mV h _⟩
 have hl0:l.length ≠ 0:=by simpa using h0
 have c1:w.drew.cell? ⟨k,1,none⟩=some (.slice (some ⟨g,0,none⟩) l.length cap):=by
  have:w.drew.heap[k]? = some (.cells #[p,.slice (some ⟨g,0,none⟩) l.length cap] (ρ.t 72) (0,0)):=hk
  rw [Lib.cell_of_heap this]; rfl
 have hSD:(Builtin.unsafeSliceData_ #[(ρ.t 37)] (ρ.t 127) #[.slice (some ⟨g,0,none⟩) l.length cap]).run P w.drew = .ok (.pointer (some ⟨g,0,none⟩)) w.drew :=
  Lib.run_unsafeSliceData_row _ _ _ _ _ _ (by omega)
 have hUS:(Builtin.unsafeString_ #[(ρ.t 127),(ρ.t 3)] (ρ.t 9) #[.pointer (some ⟨g,0,none⟩),.int .i64 l.length]).run P w.drew = .ok (.string ⟨l.toArray⟩) (w.drew.freeze ⟨g,0,none⟩ l.length):=by
  refine Lib.run_unsafeString_row w.drew (ρ.t 127) (ρ.t 3) (ρ.t 9) (ρ.t 5) L.t127 X.cellsByte g cs.size (by have hg':w.drew.heap[g]? = some (.cells cs (ρ.t 5) (0,0)):=hg; simp [World.shape?,hg']) l h0 (by omega) (by unfold maxLen at hcm; omega) ?_
  intro j x hx
  rw [Addr.add_mk]
  have hg':w.drew.heap[g]? = some (.cells cs (ρ.t 5) (0,0)):=hg
  simp [World.cell?,hg',hb j x hx]
 have mixed:=L.mixed
 have t72:=L.t72; have a72:=L.a72; have z72:=L.z72; have v72:=L.v72; have u72:=run_underlying L.t72
 have t70:=L.t70; have a70:=L.a70; have z70:=L.z70; have v70:=L.v70; have u70:=run_underlying L.t70
 have t37:=L.t37; have a37:=L.a37; have z37:=L.z37; have v37:=L.v37; have u37:=run_underlying L.t37
 have t127:=L.t127; have a127:=L.a127; have z127:=L.z127; have v127:=L.v127; have u127:=run_underlying L.t127
 have t3:=L.t3; have a3:=L.a3; have z3:=L.z3; have v3:=L.v3; have u3:=run_underlying L.t3
 have t9:=L.t9; have a9:=L.a9; have z9:=L.z9; have v9:=L.v9; have u9:=run_underlying L.t9
 have t5:=X.t5; have a5:=X.a5; have z5:=X.z5; have v5:=X.v5; have u5:=run_underlying X.t5
 have hF:=Ee w g l.length
 clear hb hcs hg hle hcm h1 hk
 go_enter L.f169,Body.n169_ntmps ρ
 go_wp2
 go_region_o
 all_goals (go_wp2; go_ret; exact ⟨rfl,hF.os,hF.tape,hF.output,hF.size,fun k' hk' hm=>hF.block k' hk' (fun e=>hm (by rw [e]; rfl))⟩)
end Go.Ab
end
section
set_option linter.unusedVariables false
namespace Go.Ab
open Go Go.Shelf Go.Proofs
section
variable {P:Program} {I:IH} {ρ:Ren} {w:World}
structure Pm (I:IH) (ρ:Ren) (w:World) (T e k:Nat) (p v:Value) (l:List UInt8):Prop where
 r0:ρ 0=some (k,T)
 hk:w.heap[k]? = some (.cells #[p,v] T (0,0))
 hp:J3 k p
 hv:mG e v l w
 own:∀ g,v.ownBlock=some g->∃ cap,ρ 1=some (g,cap)/\cap ≠ 0
 i0:I k=none
 i1:∀ g,v.ownBlock=some g->I g=none
theorem OH {cs:Array Value} (h:cs.size=2):∃ p v,cs = #[p,v]:=by
 match cs,h with
 | ⟨[p,v]⟩,_=>exact ⟨p,v,rfl⟩
theorem DY {T e:Nat} {l:List UInt8} (h:BX I ρ w (bxL [.var [.opt T 0,.bbuf 1 l.length],.row e l])):∃ k p v,Pm I ρ w T e k p v l:=by
 obtain ⟨k,cap,cs,hr,hw,hs,hc⟩:=h.ok 0
 obtain ⟨p,v,rfl⟩:=OH hs
 obtain ⟨k',hr',hp⟩:=hc 0 p (.opt T 0) rfl rfl
 rw [hr] at hr'
 simp only [Option.some.injEq,Prod.mk.injEq] at hr'
 obtain ⟨rfl,rfl⟩:=hr'
 obtain ⟨g,cp,hg,hn,hv⟩:=hc 1 v (.bbuf 1 l.length) rfl rfl
 obtain ⟨g',cp',hg',hl,hm,hrow⟩:=h.ok 1
 rw [hg] at hg'
 simp only [Option.some.injEq,Prod.mk.injEq] at hg'
 obtain ⟨rfl,rfl⟩:=hg'
 have i0:I k=none:=h.fresh 0 k ⟨_,hr⟩
 rcases hv with ⟨h0,rfl⟩ | ⟨h0,rfl⟩
 ·refine ⟨k,p,_,hr,hw,hp,.inl ⟨rfl,?_⟩,(fun g hx=>by cases hx),i0,(fun g hx=>by cases hx)⟩
  exact List.eq_nil_of_length_eq_zero (by omega)
 ·obtain ⟨cs,h1,h2,h3,h4⟩:=hrow h0
  refine ⟨k,p,_,hr,hw,hp,.inr ⟨g,cp,cs,rfl,h0,hl,hm,h1,h2,h3,h4⟩,fun g' hx => ?_,i0,fun g' hx => ?_⟩
  ·simp only [ni,Option.some.injEq] at hx
   subst hx; exact ⟨cp,hg,h0⟩
  ·simp only [ni,Option.some.injEq] at hx
   subst hx; exact h.fresh 1 g ⟨cp,hg,h0⟩
theorem BM {T e k:Nat} {p v:Value} {l l':List UInt8} {w':World} (hT:T ≠ e) (hA:Agree I w) (hB:BX I ρ w (bxL [.var [.opt T 0,.bbuf 1 l.length],.row e l])) (b:Pm I ρ w T e k p v l) (h:Wrote T e k v l' w w') :
    ∃ σ:Ren,Agree I w'/\BX I σ w' (bxL [.var [.opt T 0,.bbuf 2 l'.length],.dead,.row e l']) /\
      Frm w w' (fun k=>∃ c,(bxL [.var [.opt T 0,.bbuf 1 l.length],.row e l] c).uses (ρ c) k) /\
      (∀ c k',(bxL [.var [.opt T 0,.bbuf 2 l'.length],.dead,.row e l'] c).uses (σ c) k'->w.heap.size<=k'\/∃ c',(bxL [.var [.opt T 0,.bbuf 1 l.length],.row e l] c').uses (ρ c') k') /\
      (∀ c,c<2->σ c=ρ c):=by
  obtain ⟨v',hk',hv',hown,hF⟩:=h
  have hu0:(bxL [.var [.opt T 0,.bbuf 1 l.length],.row e l] 0).uses (ρ 0) k:=⟨_,b.r0⟩
  have hu1:∀ g,v.ownBlock=some g->(bxL [.var [.opt T 0,.bbuf 1 l.length],.row e l] 1).uses (ρ 1) g:=fun g hg=>b.own g hg
  have hρ:∀ c,2<=c->ρ c=none:=fun c hc=>by
    have h1:=hB.ok c
    rw [mJ (by simpa using hc)] at h1
    exact h1
  have hne:v'.ownBlock ≠ some k:=hv'.ne hk' hT
  obtain ⟨g,cap,hg⟩:∃ g cap,(cap=0/\v' = .slice none 0 0/\l'=[])\/(cap ≠ 0/\v' = .slice (some ⟨g,0,none⟩) l'.length cap/\l'.length<=cap/\cap<=maxLen/\∃ cs,w'.heap[g]? = some (.cells cs e (0,0))/\cs.size=cap /\
      (∀ (j:Nat) (u:Value),cs[j]? = some u->u.oneCell'=true)/\∀ (j:Nat) (x:UInt8),l'[j]? = some x->cs[j]? = some (.int .u8 x.toNat)):=by
    rcases hv' with ⟨rfl,rfl⟩ | ⟨g,cap,cs,h1,h2,h3,h4,h5⟩
    · exact ⟨0,0,.inl ⟨rfl,rfl,rfl⟩⟩
    · exact ⟨g,cap,.inr ⟨h2,h1,h3,h4,cs,h5⟩⟩
  have hnew:cap ≠ 0->I g=none/\g ≠ k/\(w.heap.size<=g\/(bxL [.var [.opt T 0,.bbuf 1 l.length],.row e l] 1).uses (ρ 1) g):=fun h0=>by
    rcases hg with ⟨h1,_⟩ | ⟨_,rfl,_⟩
    · exact absurd h1 h0
    · rw [ni] at hne hown
      refine ⟨?_,fun e=>hne (by rw [e]),?_⟩
      · rcases hown with h | ⟨g',h,hb⟩
        · exact b.i1 g h.symm
        · simp only [Option.some.injEq] at h; subst h; exact hA.none_new hb
      · rcases hown with h | ⟨g',h,hb⟩
        · exact .inr (hu1 g h.symm)
        · simp only [Option.some.injEq] at h; subst h; exact .inl hb
  have hle:ρ.le (ρ.set 2 g cap):=Ren.le_set (hρ 2 (Nat.le_refl _))
  have s2:(ρ.set 2 g cap) 2=some (g,cap):=Ren.set_same _ _ _ _
  have s0:(ρ.set 2 g cap) 0=some (k,T):=(Ren.set_other (by decide)).trans b.r0
  have u0:∀ k',(bxL [.var [.opt T 0,.bbuf 2 l'.length],.dead,.row e l'] 0).uses ((ρ.set 2 g cap) 0) k'->k'=k:=fun k' hu=>by
    obtain ⟨c,hc⟩:=hu; rw [s0] at hc; simp only [Option.some.injEq,Prod.mk.injEq] at hc; exact hc.1.symm
  have u2:∀ k',(bxL [.var [.opt T 0,.bbuf 2 l'.length],.dead,.row e l'] 2).uses ((ρ.set 2 g cap) 2) k'->k'=g/\cap ≠ 0:=fun k' hu=>by
    obtain ⟨c,hc,h0⟩:=hu; rw [s2] at hc; simp only [Option.some.injEq,Prod.mk.injEq] at hc; exact ⟨hc.1.symm,by rw [hc.2]; exact h0⟩
  have uu:∀ c k',(bxL [.var [.opt T 0,.bbuf 2 l'.length],.dead,.row e l'] c).uses ((ρ.set 2 g cap) c) k'->(c=0/\k'=k)\/(c=2/\k'=g/\cap ≠ 0):=fun c k' hu=>by
    match c with
    | 0=>exact .inl ⟨rfl,u0 k' hu⟩
    | 1=>exact hu.elim
    | 2=>exact .inr ⟨rfl,u2 k' hu⟩
    | c+3=>rw [mJ (by simp)] at hu; exact hu.elim
  refine ⟨ρ.set 2 g cap,?_,⟨fun c => ?_,fun c c' k' hc hc' => ?_,fun c k' hc => ?_⟩,⟨hF.os,hF.tape,hF.output,hF.size,fun k' hlt hm=>hF.block k' hlt fun e=>hm ?_⟩,fun c k' hc => ?_,fun c hc=>Ren.set_other (by omega)⟩
  · refine hA.other fun k1 c hc=>hF.block k1 (hA.lt hc) fun e => ?_
    rcases e with rfl | e
    · rw [b.i0] at hc; cases hc
    · rw [b.i1 k1 e.symm] at hc; cases hc
  · match c with
    | 0 =>
      refine ⟨k,T,_,s0,hk',rfl,fun j u x hu hx => ?_⟩
      match j with
      | 0 =>
        simp at hu hx
        subst hu; subst hx
        exact ⟨k,s0,.inr rfl⟩
      | 1 =>
        simp at hu hx
        subst hu; subst hx
        rcases hg with ⟨h1,h2,h3⟩ | ⟨h1,h2,h3,_⟩
        · exact ⟨g,cap,s2,by rw [h3]; exact Nat.zero_le _,.inl ⟨h1,h2⟩⟩
        · exact ⟨g,cap,s2,h3,.inr ⟨h1,h2⟩⟩
      | j+2=>simp at hu
    | 1=>trivial
    | 2 =>
      rcases hg with ⟨h1,h2,h3⟩ | ⟨h1,h2,h3,h4,h5⟩
      · exact ⟨g,cap,s2,by rw [h3]; exact Nat.zero_le _,by rw [h1]; exact Nat.zero_le _,fun h=>absurd h1 h⟩
      · exact ⟨g,cap,s2,h3,h4,fun _=>h5⟩
    | c+3 =>
      rw [mJ (by simp)]
      exact (Ren.set_other (by omega)).trans (hρ _ (by omega))
  · rcases uu c k' hc with ⟨rfl,h1⟩ | ⟨rfl,h1,h2⟩<;>rcases uu c' k' hc' with ⟨rfl,h3⟩ | ⟨rfl,h3,h4⟩
    · rfl
    · exact absurd (h3.symm.trans h1) (hnew h4).2.1
    · exact absurd (h1.symm.trans h3) (hnew h2).2.1
    · rfl
  · rcases uu c k' hc with ⟨rfl,rfl⟩ | ⟨rfl,rfl,h2⟩
    · exact b.i0
    · exact (hnew h2).1
  · rcases e with rfl | e
    · exact ⟨0,hu0⟩
    · exact ⟨1,hu1 k' e.symm⟩
  · rcases uu c k' hc with ⟨rfl,rfl⟩ | ⟨rfl,rfl,h2⟩
    · exact .inr ⟨0,hu0⟩
    · rcases (hnew h2).2.2 with h | h
      · exact .inl h
      · exact .inr ⟨1,h⟩
end
variable {P:Program} {ρ:Go.Shelf.Ren}
structure dF where
 buf:List UInt8
 deriving Inhabited
theorem uK {I:IH} {r:Ren} {vs:List Value} {x y:AV} (h:GVs I r vs [x,y]):∃ a b,vs=[a,b]/\GV I r a x/\GV I r b y:=by
 obtain ⟨h1,h2⟩:=h
 match vs,h1 with
 | [a,b],_=>exact ⟨a,b,rfl,h2 0 a x rfl rfl,h2 1 b y rfl rfl⟩
theorem uJ {I:IH} {r:Ren} {vs:List Value} {x:AV} (h:GVs I r vs [x]):∃ a,vs=[a]/\GV I r a x:=by
 obtain ⟨h1,h2⟩:=h
 match vs,h1 with
 | [a],_=>exact ⟨a,rfl,h2 0 a x rfl rfl⟩
theorem Ai (L:Lays.n167 P ρ) (X:Builder.Extra P ρ) {l:List UInt8} {c:Int} (hc:0<=c/\c<256) (hl:l.length+1<=140737488355328) :
  ACalls P (ρ.f 167) [.one (.ptr 0 0),.one (.c (.lit (.int .u8 c)))] [.var [.opt (ρ.t 72) 0,.bbuf 1 l.length],.row (ρ.t 5) l] fun r bs =>
   r = .one (.c (.lit .nilIface))/\bs=[.var [.opt (ρ.t 72) 0,.bbuf 2 (l++[UInt8.ofNat c.toNat]).length],.dead,.row (ρ.t 5) (l++[UInt8.ofNat c.toNat])]:=by
 intro I r w vs hT hA hB hG
 obtain ⟨a,b',rfl,ha,hb⟩:=uK hG
 obtain ⟨k,p,v,b⟩:=DY hB
 obtain ⟨k',cap',hr,rfl⟩:=ha
 rw [b.r0] at hr
 simp only [Option.some.injEq,Prod.mk.injEq] at hr
 obtain ⟨rfl,_⟩:=hr
 cases hb
 refine (yQ L X k p v l c w b.hk b.hp b.hv hc hl).mono ?_
 rintro e w' ⟨rfl,hW⟩
 obtain ⟨σ,h1,h2,h3,h4,h5⟩:=BM X.neB5 hA hB b hW
 exact ⟨_,I,σ,_,_,rfl,⟨rfl,rfl⟩,Rd.lit _ rfl,h1,h2,IH.le_refl I,h3,h4,fun _ _ _=>rfl,h5⟩
theorem xC (L:Lays.n166 P ρ) (X:Builder.Extra P ρ) {l s:List UInt8} (hl:l.length+s.length<=140737488355328) :
  ACalls P (ρ.f 166) [.one (.ptr 0 0),.one (.c (.str s))] [.var [.opt (ρ.t 72) 0,.bbuf 1 l.length],.row (ρ.t 5) l] fun r bs =>
   r = .tup [(false,[.c (.lit (.int .i64 s.length))]),(false,[.c (.lit .nilIface)])]/\bs=[.var [.opt (ρ.t 72) 0,.bbuf 2 (l++s).length],.dead,.row (ρ.t 5) (l++s)]:=by
 intro I r w vs hT hA hB hG
 obtain ⟨a,b',rfl,ha,hb⟩:=uK hG
 obtain ⟨k,p,v,b⟩:=DY hB
 obtain ⟨k',cap',hr,rfl⟩:=ha
 rw [b.r0] at hr
 simp only [Option.some.injEq,Prod.mk.injEq] at hr
 obtain ⟨rfl,_⟩:=hr
 cases hb
 refine (wP L X k p v l s w b.hk b.hp b.hv hl).mono ?_
 rintro e w' ⟨rfl,hW⟩
 obtain ⟨σ,h1,h2,h3,h4,h5⟩:=BM X.neB5 hA hB b hW
 refine ⟨_,I,σ,_,_,rfl,⟨rfl,rfl⟩,⟨_,rfl,rfl,fun j u q hu hq => ?_⟩,h1,h2,IH.le_refl I,h3,h4,fun _ _ _=>rfl,h5⟩
 match j with
 | 0=>simp at hu hq; subst hu; subst hq; exact ⟨_,rfl,Rd.lit _ rfl⟩
 | 1=>simp at hu hq; subst hu; subst hq; exact ⟨_,rfl,Rd.lit _ rfl⟩
 | j+2=>simp at hu
theorem FU (L:Lays.n169 P ρ) (X:Builder.Extra P ρ) {l:List UInt8} (hl:l.length<=maxLen) :
  ACalls P (ρ.f 169) [.one (.ptr 0 0)] [.var [.opt (ρ.t 72) 0,.bbuf 1 l.length],.row (ρ.t 5) l] fun r bs=>r = .one (.c (.str l))/\bs=[.dead,.dead]:=by
 intro I r w vs hT hA hB hG
 obtain ⟨a,rfl,ha⟩:=uJ hG
 obtain ⟨k,p,v,b⟩:=DY hB
 obtain ⟨k',cap',hr,rfl⟩:=ha
 rw [b.r0] at hr
 simp only [Option.some.injEq,Prod.mk.injEq] at hr
 obtain ⟨rfl,_⟩:=hr
 refine (DZ L X k p v l w b.hk b.hv).mono ?_
 rintro e w' ⟨rfl,hF⟩
 have hρ:∀ c,2<=c->r c=none:=fun c hc=>by
  have h1:=hB.ok c
  rw [mJ (by simpa using hc)] at h1
  exact h1
 have un:∀ c k',(bxL [.dead,.dead] c).uses (r c) k'->False:=fun c k' hu=>by
  match c with
  | 0=>exact hu
  | 1=>exact hu
  | c+2=>rw [mJ (by simp)] at hu; exact hu
 refine ⟨_,I,r,_,_,rfl,⟨rfl,rfl⟩,Rd.str _ hl,?_,⟨fun c => ?_,fun c c' k' hc=>(un c k' hc).elim,fun c k' hc=>(un c k' hc).elim⟩,IH.le_refl I,⟨hF.os,hF.tape,hF.output,hF.size,fun k' hlt hm=>hF.block k' hlt fun e=>hm ⟨1,?_⟩⟩,fun c k' hc=>(un c k' hc).elim,fun _ _ _=>rfl,fun _ _=>rfl⟩
 ·exact hA.other fun k1 c hc=>hF.block k1 (hA.lt hc) fun e=>by rw [b.i1 k1 e.symm] at hc; cases hc
 ·match c with
  | 0=>trivial
  | 1=>trivial
  | c+2=>rw [mJ (by simp)]; exact hρ _ (by omega)
 ·exact b.own k' e.symm
end Go.Ab
end
section
set_option linter.unusedVariables false
namespace Go.Ab
open Go Go.Shelf Go.Proofs
variable {P:Program} {ρ:Go.Shelf.Ren}
theorem Nq {I:IH} {w:World} (hT:Tabs P I) (hA:Agree I w) {g:Nat} (hg:P.globalNamed "internal/strconv.uint64pow10" = some g):Lib.TabIs P w "internal/strconv.uint64pow10" .u64 Lib.pow10Tab:=by
 obtain ⟨e,fr,h⟩:=hA g _ (hT.pow g hg)
 unfold Lib.TabIs World.var?
 simp only [hg,Option.bind_some,h]
theorem Kt (L:LaysM.n171 P ρ) {n:Int} (h0 : -9223372036854775808<=n/\n<=9223372036854775807) (hl:(Lib.itoa n).length<=maxLen) {r:List UInt8} (hr:r=Lib.itoa n) :
  APure P (ρ.f 171) [.one (.c (.lit (.int .i64 n)))] (.one (.c (.str r))):=by
 subst hr
 intro I r w vs hT hA hB hG
 obtain ⟨a,rfl,ha⟩:=uJ hG
 cases ha
 have hB':∀ b,bxL [] b = .absent:=fun b=>mJ (Nat.zero_le _)
 refine (Any.strconv_Itoa L n h0.1 h0.2 w (Nq hT hA L.m17)).mono ?_
 rintro e w' ⟨rfl,k,os,rfl⟩
 have hb:=Lib.below_grow w.heap.size w (Nat.le_refl _) k os
 refine ⟨_,I,r,_,_,rfl,⟨rfl,rfl⟩,Rd.str _ hl,hA.other fun k1 c hc=>hb.block k1 (hA.lt hc),⟨fun b => ?_,fun b b' k hu => ?_,fun b k hu => ?_⟩,IH.le_refl I,mV hb _,fun b k hu => ?_,fun _ _ _=>rfl,fun _ _=>rfl⟩
 ·have:=hB.ok b; rw [hB'] at this ⊢; exact this
 all_goals (rw [hB'] at hu; exact hu.elim)
end Go.Ab
end
section
set_option linter.unusedVariables false
namespace Go.Ab
open Go Go.Shelf Go.Proofs Go.RowKit
variable {P:Program} {ρ:Go.Shelf.Ren}
theorem rF {I:IH} {v:Value} {s:aA} (h:Rd I v (.str s)):v = .string ⟨⟨s⟩⟩/\s.length<=maxLen:=by
 cases h with
 | str l h=>exact ⟨rfl,h⟩
theorem KZ {I:IH} {w:World} (hA:Agree I w) {v:Value} {l:List aA} (h:Rd I v (.sl 1 (l.map cS))):∃ a len cap,v = .slice a len cap/\l.length=len/\len<=cap/\(0<len->∃ b o,a=some ⟨b,o,none⟩/\b<w.heap.size/\∀ j s,l[j]? = some s->w.cell? ⟨b,o+j,none⟩=some (.string ⟨⟨s⟩⟩)):=by
  cases h with
  | sl a len cap sz es u hlen hcap hmax hsz ha hcell hr =>
    rw [List.length_map] at hlen
    refine ⟨a,len,cap,rfl,hlen,hcap,fun h0 => ?_⟩
    obtain ⟨ad,rfl⟩:∃ ad,a=some ad:=by
      cases a with
      | none=>exact absurd rfl (ha h0)
      | some ad=>exact ⟨ad,rfl⟩
    have h00:=hcell ad rfl 0 0 h0 (by omega)
    have hsp:ad.spot=none:=by
      unfold IH.cell at h00
      split at h00
      · cases h00
      · rename_i hs
        have:(ad.add (0*1+0)).spot=ad.spot:=rfl
        rw [this] at hs
        cases h:ad.spot with
        | none=>rfl
        | some x=>rw [h] at hs; simp at hs
    have hlt:ad.block<w.heap.size:=by
      have:=hA.cell h00
      exact World.block_lt_of_cell? _ _ this
    refine ⟨ad.block,ad.off,?_,hlt,fun j s hj => ?_⟩
    · cases ad; simp only at hsp; rw [hsp]
    · obtain ⟨hjl,rfl⟩:=List.getElem?_eq_some_iff.1 hj
      have h1:=hA.cell (hcell ad rfl j 0 (by omega) (by omega))
      have h2:=hr j 0 (.str l[j]) (by simp [hjl,cS])
      obtain ⟨e,_⟩:=rF h2
      rw [e] at h1
      have:ad.add (j*1+0)=⟨ad.block,ad.off+j,none⟩:=by
        cases ad; simp only at hsp; subst hsp; simp [Addr.add]
      rw [this] at h1
      exact h1
theorem Ku (L:Lays.n156 P ρ) (X:Builder.Extra P ρ) {l:List aA} {sep r:aA} (hN:l.length<=140737488355328) (hl:(Lib.join l sep).length<=140737488355328) (hr:r=Lib.join l sep) :
  APure P (ρ.f 156) [.one (.c (.sl 1 (l.map cS))),.one (.c (.str sep))] (.one (.c (.str r))):=by
 subst hr
 intro I r w vs hT hA hB hG
 obtain ⟨a,b,rfl,ha,hb⟩:=uK hG
 have hB':∀ b,bxL [] b = .absent:=fun b=>mJ (Nat.zero_le _)
 have ha:Rd I a (.sl 1 (l.map cS)):=ha
 obtain ⟨e2,hs2⟩:=rF (show Rd I b (.str sep) from hb)
 subst e2
 obtain ⟨ad,len,cap,rfl,hlen,hcap,hcells⟩:=KZ hA ha
 have hml:140737488355328<=maxLen:=by decide
 have key:Calls P (ρ.f 156) #[.slice ad len cap,.string ⟨⟨sep⟩⟩] w fun e w'=>e = .returned (.string ⟨⟨Lib.join l sep⟩⟩)/\Below w.heap.size w w':=by
  by_cases h0:0<len
  ·obtain ⟨bk,o,rfl,hlt,hc⟩:=hcells h0
   have:=Any.strings_Join L X bk o cap (l.map fun s=>⟨⟨s⟩⟩) ⟨⟨sep⟩⟩ w (fun j x hx=>by
    rw [List.getElem?_map] at hx
    obtain ⟨s,hs,rfl⟩:=Option.map_eq_some_iff.1 hx
    exact hc j s hs) hlt (by rw [List.length_map]; omega) (by rw [List.length_map]; omega) (by
     rw [List.map_map]
     have:(l.map ((fun x:ByteArray=>x.data.toList) ∘ fun s=>⟨⟨s⟩⟩))=l:=by simp [Function.comp_def]
     rw [this]; exact hl)
   rw [List.length_map,hlen,List.map_map] at this
   have e:(l.map ((fun x:ByteArray=>x.data.toList) ∘ fun s=>⟨⟨s⟩⟩))=l:=by simp [Function.comp_def]
   rw [e] at this
   exact this
  ·have:len=0:=by omega
   subst this
   have hnil:l=[]:=List.length_eq_zero_iff.1 hlen
   subst hnil
   refine (Any.strings_Join_none L X ad cap ⟨⟨sep⟩⟩ w).mono fun e w' ⟨he,hw⟩=>⟨?_,hw ▸ Below.refl _ _⟩
   rw [he]; rfl
 refine key.mono ?_
 rintro e w' ⟨rfl,hb⟩
 refine ⟨_,I,r,_,_,rfl,⟨rfl,rfl⟩,Rd.str _ (Nat.le_trans hl hml),hA.other fun k1 c hc=>hb.block k1 (hA.lt hc),⟨fun b => ?_,fun b b' k hu => ?_,fun b k hu => ?_⟩,IH.le_refl I,mV hb _,fun b k hu => ?_,fun _ _ _=>rfl,fun _ _=>rfl⟩
 ·have:=hB.ok b; rw [hB'] at this ⊢; exact this
 all_goals (rw [hB'] at hu; exact hu.elim)
theorem Ag (L:Lays.n99 P ρ) {s p:aA} {r:Bool} (hr:r=Lib.hasPrefix s p) :
  APure P (ρ.f 99) [.one (.c (.str s)),.one (.c (.str p))] (.one (.c (.lit (.bool r)))):=by
 subst hr
 intro I r w vs hT hA hB hG
 obtain ⟨a,b,rfl,ha,hb⟩:=uK hG
 have hB':∀ b,bxL [] b = .absent:=fun b=>mJ (Nat.zero_le _)
 obtain ⟨e1,_⟩:=rF (show Rd I a (.str s) from ha)
 obtain ⟨e2,_⟩:=rF (show Rd I b (.str p) from hb)
 subst e1 e2
 refine (Any.strings_HasPrefix L ⟨⟨s⟩⟩ ⟨⟨p⟩⟩ w).mono ?_
 rintro e w' ⟨rfl,rfl⟩
 have hb:=Below.refl w'.heap.size w'
 refine ⟨_,I,r,_,_,rfl,⟨rfl,rfl⟩,Rd.lit _ rfl,hA,⟨fun b => ?_,fun b b' k hu => ?_,fun b k hu => ?_⟩,IH.le_refl I,mV hb _,fun b k hu => ?_,fun _ _ _=>rfl,fun _ _=>rfl⟩
 ·have:=hB.ok b; rw [hB'] at this ⊢; exact this
 all_goals (rw [hB'] at hu; exact hu.elim)
end Go.Ab
end
section
set_option linter.unusedVariables false
namespace Go.Ab
open Go Go.Shelf Go.Proofs Go.RowKit
variable {P:Program} {ρ:Go.Shelf.Ren}
def o8 (s:aA):Int × Bool:=match Lib.atoiAll s with
 | .ok v=>(v,false)
 | .range=>(Lib.atoiSat s,true)
 | _=>(0,true)
theorem Kr (L:LaysC.n172 P ρ) {s:aA} {r:Int × Bool} (hl:s.length<=281474976710656) (hr:r=o8 s) :
    APure P (ρ.f 172) [.one (.c (.str s))] (.tup [(false,[.c (.lit (.int .i64 r.1))]),(false,[.err r.2])]):=by
  subst hr
  intro I r w vs hT hA hB hG
  obtain ⟨a,rfl,ha⟩:=uJ hG
  have hB':∀ b,bxL [] b = .absent:=fun b=>mJ (Nat.zero_le _)
  obtain ⟨e1,_⟩:=rF (show Rd I a (.str s) from ha)
  subst e1
  obtain ⟨v1,hv1,hi1⟩:=hT.Pz _ L.m15
  obtain ⟨v2,hv2,hi2⟩:=hT.err _ L.m16
  have key:Calls P (ρ.f 172) #[.string ⟨⟨s⟩⟩] w fun e w'=>Below w.heap.size w w'/\∃ v,e = .returned (.tuple #[.int .i64 (o8 s).1,v])/\GC I r v (.err (o8 s).2):=by
    unfold o8
    cases h:Lib.atoiAll s with
    | ok v =>
      refine (Any.strconv_Atoi_ok L ⟨⟨s⟩⟩ (by show s.length<=_; omega) v h w).mono ?_
      rintro e w' ⟨rfl,hw⟩
      refine ⟨?_,_,rfl,rfl⟩
      rcases hw with rfl | ⟨t,rfl⟩
      · exact Below.refl _ _
      · exact Lib.bytesWorld_below _ _ _
    | range =>
      refine (Any.strconv_Atoi_range L ⟨⟨s⟩⟩ hl h v2 w (hA.cell hv2) hi2).mono ?_
      rintro e w' ⟨N,rfl,_,_,hb⟩
      exact ⟨hb,_,rfl,_,_,rfl⟩
    | _ =>
      refine (Any.strconv_Atoi_syntax L ⟨⟨s⟩⟩ hl h v1 w (hA.cell hv1) hi1).mono ?_
      rintro e w' ⟨N,rfl,_,_,hb⟩
      exact ⟨hb,_,rfl,_,_,rfl⟩
  refine key.mono ?_
  rintro e w' ⟨hb,v,rfl,hv⟩
  refine ⟨_,I,r,_,_,rfl,⟨rfl,rfl⟩,⟨_,rfl,rfl,fun j x p hx hp => ?_⟩,hA.other fun k1 c hc=>hb.block k1 (hA.lt hc),⟨fun b => ?_,fun b b' k hu => ?_,fun b k hu => ?_⟩,IH.le_refl I,mV hb _,fun b k hu => ?_,fun _ _ _=>rfl,fun _ _=>rfl⟩
  · match j with
    | 0 =>
      simp at hx hp
      subst hx hp
      unfold GP
      rw [if_neg (by simp)]
      exact ⟨_,rfl,Rd.lit _ rfl⟩
    | 1 =>
      simp at hx hp
      subst hx hp
      unfold GP
      rw [if_neg (by simp)]
      exact ⟨_,rfl,hv⟩
    | j+2=>simp at hp
  · have:=hB.ok b; rw [hB'] at this ⊢; exact this
  all_goals (rw [hB'] at hu; exact hu.elim)
theorem IA {I:IH} {r:Go.Ab.Ren} {vs:List Value} {x y z:AV} (h:GVs I r vs [x,y,z]):∃ a b c,vs=[a,b,c]/\GV I r a x/\GV I r b y/\GV I r c z:=by
 obtain ⟨hl,hv⟩:=h
 match vs,hl with
 | [a,b,c],_=>exact ⟨a,b,c,rfl,hv 0 a x rfl rfl,hv 1 b y rfl rfl,hv 2 c z rfl rfl⟩
theorem vg (sep:ByteArray) (save:Nat):∀ (k:Nat) (s x:ByteArray),x∈Lib.splitB sep save k s->x.size<=s.size
  | 0,s,x,h=>by
    rw [Lib.splitB_zero] at h
    rw [List.mem_singleton.1 h]; exact Nat.le_refl _
  | k+1,s,x,h=>by
    unfold Lib.splitB at h
    split at h
    · rw [List.mem_singleton.1 h]; exact Nat.le_refl _
    · rcases List.mem_cons.1 h with e | e
      · rw [e,ByteArray.size_extract]; omega
      · have:=vg sep save k _ x e
        rw [ByteArray.size_extract] at this; omega
theorem FV (w:World) (o:Obj):(w.alloc o).heap[w.heap.size]? = some o:=by
 show (w.heap.push o)[w.heap.size]? = some o
 simp
def IH.add (I:IH) (k:Nat) (cs:Array Value):IH:=fun b=>if b=k then some cs else I b
theorem FT (L:Lays.n147 P ρ) (hi9:(P.info? (ρ.t 9)).map (fun i=>(i.zero,i.size,i.bytes))=some (some (.string ByteArray.empty),1,16)) {s sep:aA} {n:Int} {r:List aA}
    (hs:s.length<4294967281) (h1:1<=sep.length) (hn:1<=n) (hn63:n<=1000000) (hg:P.globalNamed "internal/bytealg.MaxLen" = some (ρ.g 1)) (hr:r=Lib.splitK sep 0 (min n.toNat (s.length+1)-1) s) :
    APure P (ρ.f 147) [.one (.c (.str s)),.one (.c (.str sep)),.one (.c (.lit (.int .i64 n)))] (.one (.c (.sl 1 (r.map cS)))):=by
  subst hr
  intro I r w vs hT hA hB hG
  obtain ⟨a,b,c,rfl,ha,hb,hc⟩:=IA hG
  have hB':∀ b,bxL [] b = .absent:=fun b=>mJ (Nat.zero_le _)
  obtain ⟨e1,_⟩:=rF (show Rd I a (.str s) from ha)
  obtain ⟨e2,_⟩:=rF (show Rd I b (.str sep) from hb)
  have e3:c = .int .i64 n:=gv_int hc
  subst e1 e2 e3
  obtain ⟨m,hm⟩:=hT.PS _ hg
  obtain ⟨k,rfl⟩:∃ k:Nat,n=k:=⟨n.toNat,by omega⟩
  have hS:=Any.strings_SplitN L hi9 ⟨⟨s⟩⟩ ⟨⟨sep⟩⟩ k m w hs (hA.cell hm) h1 (by omega) (by omega)
  refine hS.mono ?_
  rintro e w' ⟨rfl,rfl⟩
  rw [show (⟨⟨s⟩⟩:ByteArray).size=s.length from rfl]
  have hK:=Lib.splitB_data ⟨⟨sep⟩⟩ 0 (min k (s.length+1)-1) ⟨⟨s⟩⟩
  have hle:=Lib.splitB_length_le ⟨⟨sep⟩⟩ 0 (min k (s.length+1)-1) ⟨⟨s⟩⟩
  have hK:(Lib.splitB ⟨⟨sep⟩⟩ 0 (min k (s.length+1)-1) ⟨⟨s⟩⟩).map (·.data.toList)=Lib.splitK sep 0 (min k (s.length+1)-1) s:=hK
  rw [Int.toNat_natCast,<- hK]
  have OW:=vg ⟨⟨sep⟩⟩ 0 (min k (s.length+1)-1) ⟨⟨s⟩⟩
  generalize Lib.splitB ⟨⟨sep⟩⟩ 0 (min k (s.length+1)-1) ⟨⟨s⟩⟩=l at *
  have hI:I w.heap.size=none:=by
    cases h:I w.heap.size with
    | none=>rfl
    | some c=>exact absurd (hA.lt h) (Nat.lt_irrefl _)
  have hile:I.le (I.add w.heap.size (Lib.cellsOf l (min k (s.length+1)))):=fun b c hc=>by
    unfold IH.add
    by_cases h:b=w.heap.size
    · rw [h,hI] at hc; cases hc
    · rw [if_neg h]; exact hc
  have hml:4294967281<=maxLen:=by decide
  refine ⟨_,I.add w.heap.size (Lib.cellsOf l (min k (s.length+1))),r,_,_,rfl,⟨rfl,rfl⟩,?_,?_,⟨fun b => ?_,fun b b' k hu => ?_,fun b k hu => ?_⟩,hile,mV ((Below.refl _ w).alloc (Nat.le_refl _) _) _,fun b k hu => ?_,fun k1 hk _ => ?_,fun _ _=>rfl⟩
  · refine Rd.sl (some ⟨w.heap.size,0,none⟩) l.length (min k (s.length+1)) 1 _ (fun i _ => .string (l.getD i ByteArray.empty)) (by simp) (by omega) (by omega) (fun e he => ?_) (fun _ h=>by cases h) (fun ad had i j hi hj => ?_) (fun i j c hc => ?_)
    · obtain ⟨x,_,rfl⟩:=List.mem_map.1 he
      rfl
    · cases had
      have e:(⟨w.heap.size,0,none⟩:Addr).add (i*1+j)=⟨w.heap.size,i,none⟩:=by
        have:i*1+j=i:=by omega
        rw [this]
        by_cases h0:i=0
        · subst h0; rfl
        · simp [Addr.add,h0]
      rw [e]
      unfold IH.cell IH.add
      simp only [if_true]
      unfold Lib.cellsOf
      rw [if_neg (by simp)]
      simp only [List.getElem?_toArray]
      rw [List.getElem?_append_left (by simpa using hi),List.getElem?_map]
      simp [List.getD,hi]
    · rw [List.map_map] at hc
      by_cases hi:i<l.length
      · have e1:((l.map (cS ∘ fun x:ByteArray=>x.data.toList)).getD i [])=cS (l[i]).data.toList:=by simp [List.getD,hi]
        rw [e1] at hc
        match j with
        | 0 =>
          simp [cS] at hc
          subst hc
          have e2:l.getD i ByteArray.empty=⟨⟨(l[i]).data.toList⟩⟩:=by simp [List.getD,hi]
          rw [e2]
          refine Rd.str _ ?_
          have:=OW l[i] (List.getElem_mem hi)
          have h3:(l[i]).data.toList.length=(l[i]).size:=rfl
          have h4:(⟨⟨s⟩⟩:ByteArray).size=s.length:=rfl
          omega
        | j+1=>simp [cS] at hc
      · have:((l.map (cS ∘ fun x:ByteArray=>x.data.toList)).getD i [])=[]:=by simp [List.getD,List.getElem?_eq_none (by simpa using hi:(l.map _).length<=i)]
        rw [this] at hc; simp at hc
  · intro b c hc
    unfold IH.add at hc
    by_cases h:b=w.heap.size
    · rw [if_pos h] at hc; cases hc
      subst h
      exact ⟨_,_,FV w _⟩
    · rw [if_neg h] at hc
      obtain ⟨e,fr,hw⟩:=hA b c hc
      exact ⟨e,fr,(Below.heap_alloc _ _ _ (hA.lt hc)).trans hw⟩
  · have:=hB.ok b; rw [hB'] at this ⊢; exact this
  · rw [hB'] at hu; exact hu.elim
  · rw [hB'] at hu; exact hu.elim
  · rw [hB'] at hu; exact hu.elim
  · unfold IH.add
    rw [if_neg (by omega)]
end Go.Ab
end
section
namespace Go.Ab
open Go
def lX:aA->List aA
  | []=>[[]]
  | b::r=>if b=44 then []::lX r else match lX r with
    | []=>[[b]]
    | x::xs=>(b::x)::xs
def OY (b:UInt8):Bool:=(decide (48<=b.toNat)&&decide (b.toNat<=57))||(decide (97<=b.toNat)&&decide (b.toNat<=102))
def ql (s:aA):Bool:=s.all OY&&decide (s.length=4)
def wM (sv:aA->Bool) (x:aA):Option aA :=
 if x=[42] then some x else if x.length=6/\x.getD 0 0=34/\x.getD 5 0=34/\sv ((x.drop 1).take 4)=true then some ((x.drop 1).take 4) else none
def colS (sv:aA->Bool) (acc:Option (List aA)) (x:aA):Option (List aA):=acc.bind fun l=>if l.length=4 then none else (wM sv x).map fun y=>l++[y]
def Ky (sv:aA->Bool) (ws:List aA):Option (List aA):=ws.foldl (colS sv) (some [])
def Bd (sv:aA->Bool) (s:aA):List aA × Bool:=if s=[] then ([],true) else match Ky sv (lX s) with
 | some l=>(l,true)
 | none=>([],false)
end Go.Ab
end
