/- The law FnMergeThreeDiff of the package laws answers true for every code of bytes and leaves it as it is: the abstract interpreter of the program, the printed functions and proofs, the laws of the data, the statement (part 5 of the proof). Conditions: none but what the row lists. -/
import Derived.Test.YthpbeflmijfbeaaGreatDoorB2
set_option linter.unusedVariables false
set_option linter.unusedSimpArgs false
section
namespace Go.Ab
open Go
set_option maxRecDepth 100000
theorem lk_pairs {n : NodeT} (h : MapN n) {r : Txt} {k : NodeT} : lk n r = some k ↔ (r, k) ∈ n.Names.zip n.Kids := by
  have at_ : ∀ j, j < n.Names.length → (n.Names.getD j default, n.Kids.getD j default) ∈ n.Names.zip n.Kids := fun j hj => by
    have hk : j < n.Kids.length := by rw [h.len]; exact hj
    rw [getD_of_lt _ hj, getD_of_lt _ hk]
    exact List.mem_iff_getElem.2 ⟨j, by simp; omega, by simp⟩
  constructor
  · intro e
    unfold lk at e
    obtain ⟨j, hj, rfl⟩ := Option.map_eq_some_iff.1 e
    obtain ⟨h1, h2, _⟩ := plc_some.1 hj
    rw [hit_map h.kind, beq_iff_eq] at h2
    rw [← h2]
    exact at_ j (by rw [← h.len]; exact h1)
  · intro e
    obtain ⟨j, hj, e⟩ := List.mem_iff_getElem.1 e
    have hj1 : j < n.Names.length := by simp at hj; omega
    have hj2 : j < n.Kids.length := by simp at hj; omega
    simp only [List.getElem_zip, Prod.mk.injEq] at e
    obtain ⟨e1, e2⟩ := e
    have hp : plc n r = some j := by
      rw [plc_some]
      refine ⟨hj2, by rw [hit_map h.kind, getD_of_lt _ hj1, e1]; simp, fun q hq => ?_⟩
      rw [hit_map h.kind]
      have := bl_ne (Asc_lt h.asc q j hq hj1)
      rw [getD_of_lt _ hj1, e1] at this
      simpa using this
    unfold lk
    rw [hp, Option.map_some, getD_of_lt _ hj2, e2]
theorem map_ext {n m : NodeT} (hn : MapN n) (hm : MapN m) (h1 : n.Num = m.Num) (h2 : n.Text = m.Text) (h : ∀ r, lk n r = lk m r) : n = m := by
  have e1 : n.Names = m.Names := asc_ext hn.asc hm.asc (fun s => by rw [← lk_mem hn, ← lk_mem hm, h s])
  have e2 : n.Kids = m.Kids := by
    refine List.ext_getElem (by rw [hn.len, hm.len, e1]) (fun j hj hj' => ?_)
    have l1 : j < n.Names.length := by rw [← hn.len]; exact hj
    have l2 : j < m.Names.length := by rw [← hm.len]; exact hj'
    have a1 : lk n n.Names[j] = some n.Kids[j] := (lk_pairs hn).2 (List.mem_iff_getElem.2 ⟨j, by simp; omega, by simp⟩)
    have a2 : lk m m.Names[j] = some m.Kids[j] := (lk_pairs hm).2 (List.mem_iff_getElem.2 ⟨j, by simp; omega, by simp⟩)
    have e3 : n.Names[j] = m.Names[j] := by simp only [e1]
    rw [h, e3, a2] at a1
    exact (Option.some.inj a1).symm
  have hk : n.Kind = m.Kind := by rw [hn.kind, hm.kind]
  cases n; cases m
  simp only at h1 h2 e1 e2 hk
  rw [h1, h2, e1, e2, hk]
theorem zip_ins {α β : Type} {a : List α} {b : List β} {p : Nat} {x : α} {y : β} (h : a.length = b.length) : (insL a p x).zip (insL b p y) = insL (a.zip b) p (x, y) := by
  unfold insL
  rw [List.zip_append (by simp [h]), List.zip_append (by simp [h])]
  have e1 : (a.zip b).take p = (a.take p).zip (b.take p) := by rw [List.zip, List.take_zipWith]
  have e2 : (a.zip b).drop p = (a.drop p).zip (b.drop p) := by rw [List.zip, List.drop_zipWith]
  rw [e1, e2]
  rfl
theorem ins_mem {α : Type} {l : List α} {p : Nat} {x y : α} : y ∈ insL l p x ↔ y = x ∨ y ∈ l := by
  unfold insL
  rw [List.mem_append, List.mem_append, List.mem_singleton]
  have := List.take_append_drop p l
  constructor
  · rintro ((h | h) | h)
    · exact .inr (List.mem_of_mem_take h)
    · exact .inl h
    · exact .inr (List.mem_of_mem_drop h)
  · rintro (h | h)
    · exact .inl (.inr h)
    · rw [← this, List.mem_append] at h
      rcases h with h | h
      · exact .inl (.inl h)
      · exact .inr h
theorem addN_map {n v : NodeT} {s : Txt} (h : MapN n) (hs : s ∉ n.Names) : ∃ m, addN n s v = some m ∧ m.Kind = 4 ∧ m.Num = 0 ∧ m.Text = [] ∧ m.Kids.length = m.Names.length ∧ ∀ r k, (r, k) ∈ m.Names.zip m.Kids ↔ (r, k) = (s, v) ∨ (r, k) ∈ n.Names.zip n.Kids := by
  have hp : plc n s = none := by
    have := (lk_none h).2 hs
    unfold lk at this
    simpa using this
  have hk := h.kind
  refine ⟨NodeT.mk 4 0 [] (insL n.Names (slt n s) s) (insL n.Kids (slt n s) v), ?_, rfl, rfl, rfl, ?_, fun r k => ?_⟩
  · unfold addN
    rw [hp]
    simp only [hk, if_true, show ¬ ((4 : Int) = 3) by decide, if_false]
  · show (insL n.Kids _ v).length = (insL n.Names _ s).length
    have := h.len
    unfold insL
    simp; omega
  · show (r, k) ∈ (insL n.Names (slt n s) s).zip (insL n.Kids (slt n s) v) ↔ _
    rw [zip_ins h.len.symm, ins_mem]
theorem asc_take : ∀ {l : List Txt} (i : Nat), Asc l = true → Asc (l.take i) = true
  | _, 0, _ => by simp [Asc]
  | [], i + 1, _ => rfl
  | x :: l, i + 1, h => by
    rw [List.take_succ_cons]
    exact Asc_cons (asc_take i (Asc_tail h)) (fun y hy => Asc_head h y (List.mem_of_mem_take hy))
theorem ins_asc {n m v : NodeT} {s : Txt} (h : MapN n) (hs : s ∉ n.Names) (hm : addN n s v = some m) : Asc m.Names = true := by
  have hp : plc n s = none := by
    have := (lk_none h).2 hs
    unfold lk at this
    simpa using this
  have hk := h.kind
  unfold addN at hm
  rw [hp] at hm
  simp only [hk, if_true, show ¬ ((4 : Int) = 3) by decide, if_false, Option.some.injEq] at hm
  subst hm
  show Asc (insL n.Names (slt n s) s) = true
  have hle := slt_le n s
  have hl := h.len
  have before : ∀ i, i < slt n s → bl (n.Names.getD i default) s = true := fun i hi => by
    have h1 : bl s (n.Names.getD i default) = false := by
      unfold slt at hi
      cases hf : (List.range' 0 n.Kids.length).find? fun i => bl s (n.Names.getD i default) with
      | none =>
        rw [hf] at hi
        exact find_none.1 hf i (by omega) (by simpa using hi)
      | some j =>
        rw [hf] at hi
        exact (find_some.1 hf).2.2.2 i (by omega) hi
    cases h2 : bl (n.Names.getD i default) s with
    | true => rfl
    | false => exact absurd (getD_mem default (by omega : i < n.Names.length)) (by rw [bl_tri h2 h1]; exact hs)
  have behind : ∀ i, slt n s ≤ i → i < n.Names.length → bl s (n.Names.getD i default) = true := fun i h1 h2 => by
    have h3 : slt n s < n.Kids.length := by omega
    have h4 : bl s (n.Names.getD (slt n s) default) = true := by
      unfold slt at h3 ⊢
      cases hf : (List.range' 0 n.Kids.length).find? fun i => bl s (n.Names.getD i default) with
      | none => rw [hf] at h3; simp at h3
      | some j => exact (find_some.1 hf).2.2.1
    by_cases e : slt n s = i
    · rw [← e]; exact h4
    · exact bl_trans h4 (Asc_lt h.asc (slt n s) i (by omega) h2)
  generalize slt n s = p at *
  unfold insL
  have key : ∀ (A S : List Txt), Asc A = true → Asc S = true → (∀ x, x ∈ A → bl x s = true) → (∀ y, y ∈ S → bl s y = true) → Asc ((A ++ [s]) ++ S) = true := by
    intro A
    induction A with
    | nil => intro S _ hS _ h2; exact Asc_cons hS h2
    | cons a A ih =>
      intro S hA hS h1 h2
      rw [List.cons_append, List.cons_append]
      refine Asc_cons (ih S (Asc_tail hA) hS (fun x hx => h1 x (by simp [hx])) h2) (fun y hy => ?_)
      rcases List.mem_append.1 hy with hy | hy
      · rcases List.mem_append.1 hy with hy | hy
        · exact Asc_head hA y hy
        · rw [List.mem_singleton] at hy; subst hy; exact h1 a (by simp)
      · exact bl_trans (h1 a (by simp)) (h2 y hy)
  refine key _ _ (asc_take p h.asc) (asc_drop p h.asc) (fun x hx => ?_) (fun y hy => ?_)
  · obtain ⟨i, hi, e⟩ := List.mem_iff_getElem.1 hx
    have hi2 : i < p ∧ i < n.Names.length := by simp at hi; omega
    have := before i hi2.1
    rw [getD_of_lt _ hi2.2] at this
    rw [← e]; simpa using this
  · obtain ⟨i, hi, e⟩ := List.mem_iff_getElem.1 hy
    have hi2 : p + i < n.Names.length := by simp at hi; omega
    have := behind (p + i) (by omega) hi2
    rw [getD_of_lt _ hi2] at this
    rw [← e]; simpa using this
theorem mL_pairs {F : NodeT → NodeT → NodeT → Option NodeT} {o a b : NodeT} : ∀ (L : List Txt) {n m : NodeT}, n.Kids.length = n.Names.length → mL F o a b L n = some m → m.Kids.length = m.Names.length ∧ m.Num = (if L = [] then n.Num else m.Num) ∧
    ∀ r k, (r, k) ∈ m.Names.zip m.Kids ↔ (r, k) ∈ n.Names.zip n.Kids ∨ (r ∈ L ∧ mn F o a b r = some (some k))
  | [], n, m, hl, h => by cases h; exact ⟨hl, by simp, fun r k => by simp⟩
  | t :: L, n, m, hl, h => by
    rw [mL] at h
    cases hq : mn F o a b t with
    | none => rw [hq] at h; cases h
    | some q => cases q with
      | none =>
        rw [hq] at h
        obtain ⟨h1, _, h2⟩ := mL_pairs L hl h
        refine ⟨h1, by simp, fun r k => ?_⟩
        rw [h2 r k, List.mem_cons]
        constructor
        · rintro (h | ⟨h1, h2⟩)
          · exact .inl h
          · exact .inr ⟨.inr h1, h2⟩
        · rintro (h | ⟨rfl | h1, h2⟩)
          · exact .inl h
          · rw [hq] at h2; cases h2
          · exact .inr ⟨h1, h2⟩
      | some k0 =>
        rw [hq] at h
        obtain ⟨h1, _, h2⟩ := mL_pairs L (n := snoc n t k0) (by show (n.Kids ++ [k0]).length = (n.Names ++ [t]).length; simp [hl]) h
        refine ⟨h1, by simp, fun r k => ?_⟩
        rw [h2 r k, List.mem_cons]
        show (r, k) ∈ (n.Names ++ [t]).zip (n.Kids ++ [k0]) ∨ _ ↔ _
        rw [List.zip_append hl.symm, List.mem_append]
        constructor
        · rintro ((h | h) | ⟨h1, h2⟩)
          · exact .inl h
          · simp at h; obtain ⟨rfl, rfl⟩ := h; exact .inr ⟨.inl rfl, hq⟩
          · exact .inr ⟨.inr h1, h2⟩
        · rintro (h | ⟨rfl | h1, h2⟩)
          · exact .inl (.inl h)
          · rename_i h3 h4
            first
            | (rw [hq] at h4; cases h4; exact .inl (.inr (by simp)))
            | (rw [hq] at h3; cases h3; exact .inl (.inr (by simp)))
          · exact .inr ⟨h1, h2⟩
theorem mL_some {F : NodeT → NodeT → NodeT → Option NodeT} {o a b : NodeT} : ∀ (L : List Txt) (n : NodeT), (∀ s, s ∈ L → mn F o a b s ≠ none) → ∃ m, mL F o a b L n = some m
  | [], n, _ => ⟨n, rfl⟩
  | t :: L, n, h => by
    rw [mL]
    cases hq : mn F o a b t with
    | none => exact absurd hq (h t (by simp))
    | some q => cases q with
      | none => exact mL_some L n (fun s hs => h s (by simp [hs]))
      | some k => exact mL_some L _ (fun s hs => h s (by simp [hs]))
theorem mrg_same {d : Nat} {k : NodeT} : mrg (d + 1) k k k = some k := by rw [mrg_succ, if_pos (.inl rfl)]
theorem merge_adds {n x y v w : NodeT} {s t : Txt} (vn : Val n = true) (kn : n.Kind = 4) (vx : Val x = true) (vy : Val y = true) (hs : s ∉ n.Names) (ht : t ∉ n.Names) (hst : s ≠ t)
    (hx : addN n s v = some x) (hy : addN n t w = some y) : mrg 5 n x y = addN x t w := by
  obtain ⟨mn_, _, _⟩ := mapN_of (shape_parts (val_shape vn)) kn
  obtain ⟨x', ex, kx, nx, tx, lx, px⟩ := addN_map (v := v) mn_ hs
  obtain ⟨y', ey, ky, ny, ty, ly, py⟩ := addN_map (v := w) mn_ ht
  rw [hx] at ex; cases ex
  rw [hy] at ey; cases ey
  obtain ⟨mx, sx, wx⟩ := mapN_of (shape_parts (val_shape vx)) kx
  obtain ⟨my, sy, wy⟩ := mapN_of (shape_parts (val_shape vy)) ky
  have htx : t ∉ x.Names := fun h => by
    obtain ⟨k, hk⟩ := Option.isSome_iff_exists.1 ((lk_mem mx).2 h)
    rcases (px t k).1 ((lk_pairs mx).1 hk) with e | e
    · cases e; exact hst rfl
    · exact ht ((lk_mem mn_).1 (by rw [(lk_pairs mn_).2 e]; rfl))
  obtain ⟨z, ez, kz, nz, tz, lz, pz⟩ := addN_map (v := w) mx htx
  have X : ∀ r, lk x r = if r = s then some v else lk n r := fun r => by
    refine Option.ext (fun k => ?_)
    rw [lk_pairs mx, px, ← lk_pairs mn_]
    by_cases e : r = s
    · subst e; rw [if_pos rfl, (lk_none mn_).2 hs]; simp [eq_comm]
    · rw [if_neg e]; simp [e]
  have Y : ∀ r, lk y r = if r = t then some w else lk n r := fun r => by
    refine Option.ext (fun k => ?_)
    rw [lk_pairs my, py, ← lk_pairs mn_]
    by_cases e : r = t
    · subst e; rw [if_pos rfl, (lk_none mn_).2 ht]; simp [eq_comm]
    · rw [if_neg e]; simp [e]
  have M : ∀ r, mn (mrg 4) n x y r = some (if r = t then some w else if r = s then some v else lk n r) := fun r => by
    unfold mn
    have x1 := X r
    have y1 := Y r
    by_cases e1 : r = s
    · rw [if_pos e1] at x1
      rw [if_neg (by rw [e1]; exact hst)] at y1
      rw [if_neg (by rw [e1]; exact hst), if_pos e1]
      have h0 : lk n r = none := by rw [e1]; exact (lk_none mn_).2 hs
      rw [x1, y1, h0]
    · rw [if_neg e1] at x1
      rw [if_neg e1]
      by_cases e2 : r = t
      · rw [if_pos e2] at y1
        rw [if_pos e2]
        have h0 : lk n r = none := by rw [e2]; exact (lk_none mn_).2 ht
        rw [x1, y1, h0]
      · rw [if_neg e2] at y1
        rw [if_neg e2, x1, y1]
        cases lk n r with
        | none => rfl
        | some k => show (mrg 4 k k k).map some = _; rw [mrg_same]; rfl
  have ne : ∀ {m : NodeT} {u : Txt} {q : NodeT}, MapN m → (u, q) ∈ m.Names.zip m.Kids → u ∉ n.Names → n ≠ m := fun hm h hu e => hu (by rw [e]; exact (lk_mem hm).1 (by rw [(lk_pairs hm).2 h]; rfl))
  have nx' : n ≠ x := ne mx ((px s v).2 (.inl rfl)) hs
  have ny' : n ≠ y := ne my ((py t w).2 (.inl rfl)) ht
  have nxy : x ≠ y := fun e => htx (by rw [e]; exact (lk_mem my).1 (by rw [Y t, if_pos rfl]; rfl))
  rw [ez, mrg_succ, if_neg (fun h => h.elim (fun h => nxy h) (fun h => ny' h)), if_neg nx', if_pos ⟨kn, kx, ky⟩]
  obtain ⟨m, hm⟩ := mL_some (F := mrg 4) (o := n) (a := x) (b := y) (uni x.Names y.Names) empM (fun r _ => by rw [M r]; simp)
  rw [hm]
  have hlen := uni_len x.Names y.Names
  have hacc := (mL_fine (d := 5) (fun r k hq => by
    rw [M r, Option.some.injEq] at hq
    have fk : ∀ {q : NodeT}, Val q = true → ∀ k, k ∈ q.Kids → Fine 12 5 k := fun hq k hk => (shape_fine (shape_kids (d := 4) (val_shape hq) k hk)).mono (Nat.le_refl _) (by omega)
    by_cases e2 : r = t
    · rw [if_pos e2] at hq
      exact fk vy k (lk_kid (s := r) (by rw [Y r, if_pos e2]; exact hq))
    · rw [if_neg e2] at hq
      exact fk vx k (lk_kid (s := r) (by rw [X r]; exact hq))) _ (c := 0) (fun u hu => by
      rcases (uni_mem _ _ _).1 hu with hu | hu
      · exact wx u hu
      · exact wy u hu) acc_emp (by omega) (uni_asc _ _ mx.asc my.asc) (fun u hu => by cases hu) (fun k hk => by cases hk) hm).1
  have hz := ins_asc mx htx ez
  refine congrArg some (map_ext hacc.map ⟨kz, hz, lz⟩ (by rw [hacc.num, nz]) (by rw [hacc.text, tz]) (fun r => Option.ext (fun k => ?_)))
  rw [lk_pairs hacc.map, (mL_pairs _ (by rfl) hm).2.2 r k, lk_pairs ⟨kz, hz, lz⟩, pz, ← lk_pairs mx, X r, M r, uni_mem, ← lk_mem mx, ← lk_mem my, X r, Y r]
  by_cases e2 : r = t
  · have hs' : ¬ r = s := fun h => hst (h.symm.trans e2)
    have h0 : lk n r = none := by rw [e2]; exact (lk_none mn_).2 ht
    rw [if_pos e2, if_neg hs', h0]
    simp [empM, e2, eq_comm]
  · rw [if_neg e2]
    by_cases e1 : r = s
    · rw [if_pos e1]
      simp [empM, e2]
    · rw [if_neg e1]
      simp [empM, e2]
      intro h; simp [h]
theorem addM_one {n m v : NodeT} {s : Txt} (h : AddM n [s] v = some m) : Val m = true ∧ addN n s v = some m := by
  unfold AddM at h
  split at h
  · obtain ⟨h1, h2⟩ := filter_facts h
    exact ⟨h2, h1⟩
  · cases h
theorem addM_is {n v : NodeT} {s : Txt} (hn : Val n = true) (hs : PT s = true) (hv : Val v = true) : AddM n [s] v = (addN n s v).filter Val := by
  unfold AddM
  rw [hn, hv, show PP [s] = true by unfold PP; simp [hs]]
  rfl
theorem fine_pair {q : Option NodeT} (h : ∀ m, q = some m → Val m = true) : FineE 60 (pairO q).1 := by
  cases q with
  | none => exact ⟨1, fine_no⟩
  | some m => exact ⟨5, fine_val (h m rfl)⟩
def y1T : Txt := [121, 49]
def y2T : Txt := [121, 50]
theorem fineP_one {s : Txt} (h : s.length ≤ 60) : FineP 60 [s] := ⟨by simp, fun t ht => by rw [List.mem_singleton.1 ht]; exact h⟩
theorem T.law_MergeThreeDiff {c : List Int} (hc : Bytes c) : Ev (fun f => G.laws_FnMergeThreeDiff f c) true := by
  refine Ev.up ?_
  simp only [G.laws_FnMergeThreeDiff]
  refine Ev.ite (fun _ => Ev.ret _) (fun e => ?_)
  obtain ⟨⟨o, a, b⟩, g, ⟨D, ho⟩, ⟨E, ha⟩, ⟨F, hb⟩⟩ := D.DrawMergeThree hc (by simp at e; omega)
  have hI := T.impl_MergeThree lim60 ho ha hb
  have hS := T.spec_MergeThree lim60 ho ha hb
  have eq := pair_self (MergeM o a b) (fun m hm => (merge_val hm).2.2.2.2)
  have hV := T.impl_ValidNode lim60 ho
  have num : ∀ j : Int, Ev (fun f => G.laws_number f j) (NodeT.mk 1 j [] [] []) := fun j => by
    refine Ev.up ?_
    simp only [G.laws_number]
    exact Ev.ret _
  have vn1 := val_num (k := 1) (by decide) (by decide)
  have vn2 := val_num (k := 2) (by decide) (by decide)
  have hK : Val o = true → o.Kind = 4 → y1T ∉ o.Names → y2T ∉ o.Names → ∀ t u, Ev (fun f => G.laws_FnMergeThreeDiff.K1 f (o, a, b) t u) true := fun vo ko h1 h2 t u => by
    have hA := T.impl_AddNode lim62 ho (fineP_one (s := y1T) (by decide)) (fine_val vn1)
    have hB := T.impl_AddNode lim62 ho (fineP_one (s := y2T) (by decide)) (fine_val vn2)
    obtain ⟨qa, hqa⟩ : ∃ q, q = AddM o [y1T] (NodeT.mk 1 1 [] [] []) := ⟨_, rfl⟩
    obtain ⟨qb, hqb⟩ : ∃ q, q = AddM o [y2T] (NodeT.mk 1 2 [] [] []) := ⟨_, rfl⟩
    have hA : Ev (fun f => G.impl_AddNode f o [y1T] (NodeT.mk 1 1 [] [] [])) (pairO qa) := by rw [hqa]; exact hA
    have hB : Ev (fun f => G.impl_AddNode f o [y2T] (NodeT.mk 1 2 [] [] [])) (pairO qb) := by rw [hqb]; exact hB
    obtain ⟨X, fx⟩ := fine_pair (q := qa) (fun m hm => (addM_one (hqa.symm.trans hm)).1)
    obtain ⟨Y, fy⟩ := fine_pair (q := qb) (fun m hm => (addM_one (hqb.symm.trans hm)).1)
    have hM := T.impl_MergeThree lim60 (ho.mono (Nat.le_refl _) (Nat.le_refl _)) fx fy
    have hC := T.impl_AddNode lim62 fx (fineP_one (s := y2T) (by decide)) (fine_val vn2)
    refine Ev.up ?_
    simp only [G.laws_FnMergeThreeDiff.K1]
    refine Ev.bind (num 1) (Ev.bind hA (Ev.bind (num 2) (Ev.bind hB (Ev.bind hM (Ev.bind (num 2) (Ev.bind hC ?_))))))
    cases qa with
    | none => exact Ev.cf rfl (Ev.ret _)
    | some x =>
      cases qb with
      | none => exact Ev.ct rfl (Ev.cf rfl (Ev.ret _))
      | some y =>
        obtain ⟨vx, ex⟩ := addM_one hqa.symm
        obtain ⟨vy, ey⟩ := addM_one hqb.symm
        have key : MergeM o x y = AddM x [y2T] (NodeT.mk 1 2 [] [] []) := by
          unfold MergeM
          rw [vo, vx, vy, merge_adds vo ko vx vy h1 h2 (by decide) ex ey, addM_is vx (by decide) vn2]
          rfl
        have key : MergeM o (pairO (some x)).1 (pairO (some y)).1 = AddM (pairO (some x)).1 [y2T] (NodeT.mk 1 2 [] [] []) := key
        rw [key]
        refine Ev.ct rfl (Ev.ct rfl ?_)
        cases hm : AddM (pairO (some x)).1 [y2T] (NodeT.mk 1 2 [] [] []) with
        | none => exact Ev.cf rfl (Ev.cf rfl (Ev.bind equal_no (Ev.ret _)))
        | some m => exact Ev.ct rfl (Ev.ct rfl (Ev.bind (equal_val (addM_one hm).1) (Ev.ret _)))
  refine Ev.bind g (Ev.bind hI (Ev.bind hS (Ev.bind eq (Ev.ct rfl ?_))))
  have eqk : Ev (fun f => Option.bind (G.laws_equalNode f (pairO (MergeM o a b)).1 (pairO (MergeM o a b)).1) fun v => cond v (some true) (some false)) true := Ev.bind eq (Ev.ct rfl (Ev.ret _))
  have rest : ∀ t : Bool, Ev (fun f => cond (o.Kind != 4) (Option.bind (G.laws_equalNode f (pairO (MergeM o a b)).1 (pairO (MergeM o a b)).1) fun v => cond v (some true) (some false))
      (Option.bind (G.impl_ValidNode f o) fun v33 => cond v33 (Option.bind (G.laws_isName f o.Names [121, 49]) fun v34 => cond v34 (Option.bind (G.laws_equalNode f (pairO (MergeM o a b)).1 (pairO (MergeM o a b)).1) fun v => cond v (some true) (some false))
        (Option.bind (G.laws_isName f o.Names [121, 50]) fun v36 => cond v36 (Option.bind (G.laws_equalNode f (pairO (MergeM o a b)).1 (pairO (MergeM o a b)).1) fun v => cond v (some true) (some false)) (G.laws_FnMergeThreeDiff.K1 f (o, a, b) t t)))
        (Option.bind (G.laws_equalNode f (pairO (MergeM o a b)).1 (pairO (MergeM o a b)).1) fun v => cond v (some true) (some false)))) true := fun t => by
    by_cases ko : o.Kind = 4
    · refine Ev.cf (by simpa using ko) (Ev.bind hV (Ev.ite (fun vo => ?_) (fun _ => eqk)))
      have vo : Val o = true := vo
      have lo : o.Names.length < 1000 := by have := (val_fine vo).names; omega
      refine Ev.bind (T.laws_isName (s := y1T) lo) (Ev.ite (fun _ => eqk) (fun e1 => ?_))
      refine Ev.bind (T.laws_isName (s := y2T) lo) (Ev.ite (fun _ => eqk) (fun e2 => ?_))
      exact hK vo ko (by simpa using e1) (by simpa using e2) t t
    · exact Ev.ct (by simpa using ko) eqk
  cases hb2 : (pairO (MergeM o a b)).2 with
  | true => exact Ev.ct rfl (Ev.ct rfl (rest true))
  | false => exact Ev.cf rfl (Ev.cf rfl (rest false))
end Go.Ab
end
section
namespace Go.Ab
open Go
set_option maxRecDepth 100000
set_option maxHeartbeats 4000000
set_option linter.unusedVariables false
set_option linter.unusedSimpArgs false
theorem F.cmp_isNaN_int {n : Nat} : ∀ {a_x1 : Int} {r : Bool}, G.cmp_isNaN_int n a_x1 = some r → APure Go.Proofs.Tryz.prog 99 [.one (.c (.lit (.int .i64 a_x1)))] (.one (.c (.lit (.bool r)))) := by
  intro a_x1 r h
  refine fun_pure K.cmp_isNaN_int (ofK ?_)
  unfold C.cmp_isNaN_int
  rcases n with _ | n <;> simp only [G.cmp_isNaN_int, reduceCtorEq] at h
  obtain ⟨zc, zg, zk, zu, ze, zj, zt⟩ := pp () <| pp () <| pp () <| pp () <| pp () <| pp () <| ()
  exact drv
theorem F.cmp_Compare_int {n : Nat} : ∀ {a_x1 : Int} {a_y1 : Int} {r : Int}, G.cmp_Compare_int n a_x1 a_y1 = some r → APure Go.Proofs.Tryz.prog 79 [.one (.c (.lit (.int .i64 a_x1))), .one (.c (.lit (.int .i64 a_y1)))] (.one (.c (.lit (.int .i64 r)))) := by
  intro a_x1 a_y1 r h
  refine fun_pure K.cmp_Compare_int (ofK ?_)
  unfold C.cmp_Compare_int
  rcases n with _ | n <;> simp only [G.cmp_Compare_int, reduceCtorEq] at h
  obtain ⟨zc, zg, zk, zu, ze, zj, zt⟩ := pp (pp @F.cmp_isNaN_int ()) <| pp () <| pp () <| pp () <| pp () <| pp () <| ()
  exact drv
theorem F.cmp_isNaN_string {n : Nat} : ∀ {a_x1 : Txt} {r : Bool}, G.cmp_isNaN_string n a_x1 = some r → APure Go.Proofs.Tryz.prog 106 [.one (.c (.str a_x1))] (.one (.c (.lit (.bool r)))) := by
  intro a_x1 r h
  refine fun_pure K.cmp_isNaN_string (ofK ?_)
  unfold C.cmp_isNaN_string
  rcases n with _ | n <;> simp only [G.cmp_isNaN_string, reduceCtorEq] at h
  obtain ⟨zc, zg, zk, zu, ze, zj, zt⟩ := pp () <| pp () <| pp () <| pp () <| pp () <| pp () <| ()
  exact drv
theorem F.cmp_Less_string {n : Nat} : ∀ {a_x1 : Txt} {a_y1 : Txt} {r : Bool}, G.cmp_Less_string n a_x1 a_y1 = some r → APure Go.Proofs.Tryz.prog 87 [.one (.c (.str a_x1)), .one (.c (.str a_y1))] (.one (.c (.lit (.bool r)))) := by
  intro a_x1 a_y1 r h
  refine fun_pure K.cmp_Less_string (ofK ?_)
  unfold C.cmp_Less_string
  rcases n with _ | n <;> simp only [G.cmp_Less_string, reduceCtorEq] at h
  obtain ⟨zc, zg, zk, zu, ze, zj, zt⟩ := pp (pp @F.cmp_isNaN_string ()) <| pp () <| pp () <| pp () <| pp () <| pp () <| ()
  exact drv
theorem F.impl_copyNode_n : ∀ (n : Nat), ∀ {a_n1 : NodeT} {r : NodeT}, G.impl_copyNode n a_n1 = some r → APure Go.Proofs.Tryz.prog 25 [.agg [.c (.lit (.int .i64 a_n1.Kind)), .c (.lit (.int .i64 a_n1.Num)), .c (.str a_n1.Text), .c (.sl 1 (List.map cS a_n1.Names)), .c (.sl 5 (List.map NodeT.cells a_n1.Kids))]] (.agg [.c (.lit (.int .i64 r.Kind)), .c (.lit (.int .i64 r.Num)), .c (.str r.Text), .c (.sl 1 (List.map cS r.Names)), .c (.sl 5 (List.map NodeT.cells r.Kids))]) := by
  intro n
  induction n using Nat.strongRecOn with | _ n ih =>
  intro a_n1 r h
  refine fun_pure K.impl_copyNode (ofK ?_)
  unfold C.impl_copyNode
  rcases n with _ | n <;> simp only [G.impl_copyNode, reduceCtorEq] at h
  obtain ⟨zc, zg, zk, zu, ze, zj, zt⟩ := pp (pp ih ()) <| pp () <| pp (pp (@lopX (List Txt × Int × List NodeT) _ (fun n x => G.impl_copyNode.L2 n a_n1 x.1 x.2.1 x.2.2) r (fun x => ASt.of [(2, .v true (.one (.ptr 113 0))), (3, .v true (.one (.ptr 114 0))), (37, .v true (.one (.c (.sl 5 (List.map NodeT.cells a_n1.Kids))))), (38, .v true (.one (.c (.lit (.int .i64 ((a_n1.Kids.length : Nat) : Int)))))), (39, .v true (.one (.c (.lit (.int .i64 x.2.1)))))] [(113, .var [.c (.lit (.int .i64 0)), .c (.lit (.int .i64 0)), .c (.str []), .nsl 1, .nsl 5]), (114, .var [.c (.lit (.int .i64 a_n1.Kind)), .c (.lit (.int .i64 a_n1.Num)), .c (.str a_n1.Text), .own 115 x.1.length 1, .own 116 x.2.2.length 5]), (115, .dat 1 (List.map cS x.1)), (116, .dat 5 (List.map NodeT.cells x.2.2))])) ()) <| pp (pp (@cutX (List Txt) _ (fun n x => G.impl_copyNode.K1 n a_n1 x) r (fun x => ASt.of [(1, .v true (.one (.ptr 101 0))), (2, .v true (.one (.ptr 102 0))), (3, .v true (.one (.ptr 103 0)))] [(101, .var [.c (.lit (.int .i64 a_n1.Kind)), .c (.lit (.int .i64 a_n1.Num)), .c (.str a_n1.Text), .c (.sl 1 (List.map cS a_n1.Names)), .c (.sl 5 (List.map NodeT.cells a_n1.Kids))]), (102, .var [.c (.lit (.int .i64 0)), .c (.lit (.int .i64 0)), .c (.str []), .nsl 1, .nsl 5]), (103, .var [.c (.lit (.int .i64 a_n1.Kind)), .c (.lit (.int .i64 a_n1.Num)), .c (.str a_n1.Text), .own 104 x.length 1, .nsl 5]), (104, .dat 1 (List.map cS x))])) ()) <| pp (pp (And.intro @G.impl_copyNode.K1.eq_1 <| And.intro @G.impl_copyNode.K1.eq_2 <| And.intro @G.impl_copyNode.L2.eq_1 <| @G.impl_copyNode.L2.eq_2) ()) <| pp (pp (@weakX [] [(101, 10), (102, 11), (103, 12), (104, 13)] []) <| pp (@weakX [] [(101, 10), (102, 11), (103, 12)] [104]) <| pp (@weakX [] [(113, 102), (114, 103), (115, 104), (116, 14)] []) <| pp (@weakX [] [(113, 113), (114, 114), (115, 115), (116, 116)] []) ()) <| ()
  exact drv
theorem F.impl_copyNode {n : Nat} : ∀ {a_n1 : NodeT} {r : NodeT}, G.impl_copyNode n a_n1 = some r → APure Go.Proofs.Tryz.prog 25 [.agg [.c (.lit (.int .i64 a_n1.Kind)), .c (.lit (.int .i64 a_n1.Num)), .c (.str a_n1.Text), .c (.sl 1 (List.map cS a_n1.Names)), .c (.sl 5 (List.map NodeT.cells a_n1.Kids))]] (.agg [.c (.lit (.int .i64 r.Kind)), .c (.lit (.int .i64 r.Num)), .c (.str r.Text), .c (.sl 1 (List.map cS r.Names)), .c (.sl 5 (List.map NodeT.cells r.Kids))]) := F.impl_copyNode_n n
theorem F.impl_copyNode_o {n : Nat} : ∀ {a_n1 : NodeT} {r : NodeT}, G.impl_copyNode n a_n1 = some r → ACalls Go.Proofs.Tryz.prog 25 [.agg [.c (.lit (.int .i64 a_n1.Kind)), .c (.lit (.int .i64 a_n1.Num)), .c (.str a_n1.Text), .c (.sl 1 (List.map cS a_n1.Names)), .c (.sl 5 (List.map NodeT.cells a_n1.Kids))]] [] (fun r1 b1 => r1 = .agg [.c (.lit (.int .i64 r.Kind)), .c (.lit (.int .i64 r.Num)), .c (.str r.Text), .own 0 r.Names.length 1, .own 1 r.Kids.length 5] ∧ b1 = [.dat 1 (List.map cS r.Names), .dat 5 (List.map NodeT.cells r.Kids)]) := by
  intro a_n1 r h
  refine fun_sound K.impl_copyNode (ofK ?_)
  unfold C.impl_copyNode
  rcases n with _ | n <;> simp only [G.impl_copyNode, reduceCtorEq] at h
  obtain ⟨zc, zg, zk, zu, ze, zj, zt⟩ := pp (pp @F.impl_copyNode ()) <| pp () <| pp (pp (@lopX (List Txt × Int × List NodeT) _ (fun n x => G.impl_copyNode.L2 n a_n1 x.1 x.2.1 x.2.2) r (fun x => ASt.of [(2, .v true (.one (.ptr 113 0))), (3, .v true (.one (.ptr 114 0))), (37, .v true (.one (.c (.sl 5 (List.map NodeT.cells a_n1.Kids))))), (38, .v true (.one (.c (.lit (.int .i64 ((a_n1.Kids.length : Nat) : Int)))))), (39, .v true (.one (.c (.lit (.int .i64 x.2.1)))))] [(113, .var [.c (.lit (.int .i64 0)), .c (.lit (.int .i64 0)), .c (.str []), .nsl 1, .nsl 5]), (114, .var [.c (.lit (.int .i64 a_n1.Kind)), .c (.lit (.int .i64 a_n1.Num)), .c (.str a_n1.Text), .own 115 x.1.length 1, .own 116 x.2.2.length 5]), (115, .dat 1 (List.map cS x.1)), (116, .dat 5 (List.map NodeT.cells x.2.2))])) ()) <| pp (pp (@cutX (List Txt) _ (fun n x => G.impl_copyNode.K1 n a_n1 x) r (fun x => ASt.of [(1, .v true (.one (.ptr 101 0))), (2, .v true (.one (.ptr 102 0))), (3, .v true (.one (.ptr 103 0)))] [(101, .var [.c (.lit (.int .i64 a_n1.Kind)), .c (.lit (.int .i64 a_n1.Num)), .c (.str a_n1.Text), .c (.sl 1 (List.map cS a_n1.Names)), .c (.sl 5 (List.map NodeT.cells a_n1.Kids))]), (102, .var [.c (.lit (.int .i64 0)), .c (.lit (.int .i64 0)), .c (.str []), .nsl 1, .nsl 5]), (103, .var [.c (.lit (.int .i64 a_n1.Kind)), .c (.lit (.int .i64 a_n1.Num)), .c (.str a_n1.Text), .own 104 x.length 1, .nsl 5]), (104, .dat 1 (List.map cS x))])) ()) <| pp (pp (And.intro @G.impl_copyNode.K1.eq_1 <| And.intro @G.impl_copyNode.K1.eq_2 <| And.intro @G.impl_copyNode.L2.eq_1 <| @G.impl_copyNode.L2.eq_2) ()) <| pp (pp (@weakX [] [(101, 10), (102, 11), (103, 12), (104, 13)] []) <| pp (@weakX [] [(101, 10), (102, 11), (103, 12)] [104]) <| pp (@weakX [] [(113, 102), (114, 103), (115, 104), (116, 14)] []) <| pp (@weakX [] [(113, 113), (114, 114), (115, 115), (116, 116)] []) ()) <| (pp (@retX [] [(0, 115), (1, 116)] []) <| pp (@retX [] [(0, 104)] [1]) ())
  exact drv
theorem F.slices_isNaN_string {n : Nat} : ∀ {a_x1 : Txt} {r : Bool}, G.slices_isNaN_string n a_x1 = some r → APure Go.Proofs.Tryz.prog 92 [.one (.c (.str a_x1))] (.one (.c (.lit (.bool r)))) := by
  intro a_x1 r h
  refine fun_pure K.slices_isNaN_string (ofK ?_)
  unfold C.slices_isNaN_string
  rcases n with _ | n <;> simp only [G.slices_isNaN_string, reduceCtorEq] at h
  obtain ⟨zc, zg, zk, zu, ze, zj, zt⟩ := pp () <| pp () <| pp () <| pp () <| pp () <| pp () <| ()
  exact drv
theorem F.slices_BinarySearch_string {n : Nat} : ∀ {a_x1 : List Txt} {a_target1 : Txt} {r : Int × Bool}, G.slices_BinarySearch_string n a_x1 a_target1 = some r → APure Go.Proofs.Tryz.prog 70 [.one (.c (.sl 1 (List.map cS a_x1))), .one (.c (.str a_target1))] (.tup [(false, [.c (.lit (.int .i64 r.1))]), (false, [.c (.lit (.bool r.2))])]) := by
  intro a_x1 a_target1 r h
  refine fun_pure K.slices_BinarySearch_string (ofK ?_)
  unfold C.slices_BinarySearch_string
  rcases n with _ | n <;> simp only [G.slices_BinarySearch_string, reduceCtorEq] at h
  obtain ⟨zc, zg, zk, zu, ze, zj, zt⟩ := pp (pp @F.cmp_Less_string <| pp @F.slices_isNaN_string ()) <| pp () <| pp (pp (@lopX (Int × Int) _ (fun n x => G.slices_BinarySearch_string.L1 n a_x1 a_target1 x.1 x.2) r (fun x => ASt.of [(0, .v true (.one (.c (.sl 1 (List.map cS a_x1))))), (1, .v true (.one (.c (.str a_target1)))), (6, .v true (.one (.c (.lit (.int .i64 ((a_x1.length : Nat) : Int)))))), (7, .v true (.one (.c (.lit (.int .i64 x.1))))), (8, .v true (.one (.c (.lit (.int .i64 x.2)))))] [])) ()) <| pp () <| pp (pp (And.intro @G.slices_BinarySearch_string.L1.eq_1 <| @G.slices_BinarySearch_string.L1.eq_2) ()) <| pp (pp (@weakX [] [] []) ()) <| ()
  exact drv
theorem F.internal_strconv_log10Pow2 {n : Nat} : ∀ {a_x1 : Int} {r : Int}, G.internal_strconv_log10Pow2 n a_x1 = some r → APure Go.Proofs.Tryz.prog 117 [.one (.c (.lit (.int .i64 a_x1)))] (.one (.c (.lit (.int .i64 r)))) := by
  intro a_x1 r h
  refine fun_pure K.internal_strconv_log10Pow2 (ofK ?_)
  unfold C.internal_strconv_log10Pow2
  rcases n with _ | n <;> simp only [G.internal_strconv_log10Pow2, reduceCtorEq] at h
  obtain ⟨zc, zg, zk, zu, ze, zj, zt⟩ := pp () <| pp () <| pp () <| pp () <| pp () <| pp () <| ()
  exact drv
theorem F.math_bits_Len64 {n : Nat} : ∀ {a_x1 : Int} {r : Int}, G.math_bits_Len64 n a_x1 = some r → APure Go.Proofs.Tryz.prog 91 [.one (.c (.lit (.int .u64 a_x1)))] (.one (.c (.lit (.int .i64 r)))) := by
  intro a_x1 r h
  refine fun_pure K.math_bits_Len64 (ofK ?_)
  unfold C.math_bits_Len64
  rcases n with _ | n <;> simp only [G.math_bits_Len64, reduceCtorEq] at h
  have := Mk.mk 1; have := Mk.mk 2
  obtain ⟨zc, zg, zk, zu, ze, zj, zt, zq⟩ := pp () <| pp () <| pp () <| pp (pp (@cutX (Int × Int) _ (fun n x => G.math_bits_Len64.K1 n x.1 x.2) r (fun x => ASt.of [(0, .v true (.one (.c (.lit (.int .u64 x.1))))), (2, .v true (.one (.c (.lit (.int .i64 x.2)))))] [])) <| pp (@cutX (Int × Int) _ (fun n x => G.math_bits_Len64.K2 n x.1 x.2) r (fun x => ASt.of [(0, .v true (.one (.c (.lit (.int .u64 x.1))))), (2, .v true (.one (.c (.lit (.int .i64 x.2)))))] [])) ()) <| pp (pp (And.intro @G.math_bits_Len64.K1.eq_1 <| And.intro @G.math_bits_Len64.K1.eq_2 <| And.intro @G.math_bits_Len64.K2.eq_1 <| @G.math_bits_Len64.K2.eq_2) ()) <| pp (pp (@weakX [] [] []) ()) <| pp () <| (pp (pp (rfl : @G.math_bits_Len64.K1 = _) ()) <| pp (pp (rfl : @G.math_bits_Len64.K2 = _) <| pp (rfl : @G.math_bits_Len64.K1 = _) ()) ())
  exact drvM
theorem F.internal_strconv_numDigits {n : Nat} : ∀ {a_d1 : Int} {r : Int}, G.internal_strconv_numDigits n a_d1 = some r → APure Go.Proofs.Tryz.prog 110 [.one (.c (.lit (.int .u64 a_d1)))] (.one (.c (.lit (.int .i64 r)))) := by
  intro a_d1 r h
  refine fun_pure K.internal_strconv_numDigits (ofK ?_)
  unfold C.internal_strconv_numDigits
  rcases n with _ | n <;> simp only [G.internal_strconv_numDigits, reduceCtorEq] at h
  obtain ⟨zc, zg, zk, zu, ze, zj, zt⟩ := pp (pp @F.math_bits_Len64 <| pp @F.internal_strconv_log10Pow2 ()) <| pp () <| pp () <| pp () <| pp () <| pp () <| ()
  exact drv
theorem F.internal_strconv_small {n : Nat} : ∀ {a_i1 : Int} {r : Txt}, G.internal_strconv_small n a_i1 = some r → APure Go.Proofs.Tryz.prog 109 [.one (.c (.lit (.int .i64 a_i1)))] (.one (.c (.str r))) := by
  intro a_i1 r h
  refine fun_pure K.internal_strconv_small (ofK ?_)
  unfold C.internal_strconv_small
  rcases n with _ | n <;> simp only [G.internal_strconv_small, reduceCtorEq] at h
  obtain ⟨zc, zg, zk, zu, ze, zj, zt⟩ := pp () <| pp () <| pp () <| pp () <| pp () <| pp () <| ()
  exact drv
theorem F.internal_strconv_FormatInt {n : Nat} : ∀ {a_i1 : Int} {a_base1 : Int} {r : Txt}, G.internal_strconv_FormatInt n a_i1 a_base1 = some r → APure Go.Proofs.Tryz.prog 97 [.one (.c (.lit (.int .i64 a_i1))), .one (.c (.lit (.int .i64 a_base1)))] (.one (.c (.str r))) := by
  intro a_i1 a_base1 r h
  refine fun_pure K.internal_strconv_FormatInt (ofK ?_)
  unfold C.internal_strconv_FormatInt
  rcases n with _ | n <;> simp only [G.internal_strconv_FormatInt, reduceCtorEq] at h
  have := Mk.mk 1; have := Mk.mk 2
  obtain ⟨zc, zg, zk, zu, ze, zj, zt, zq⟩ := pp (pp @F.internal_strconv_small <| pp @F.internal_strconv_numDigits ()) <| pp () <| pp () <| pp (pp (@cutX (Int × List Int) _ (fun n x => G.internal_strconv_FormatInt.K1 n x.1 x.2) r (fun x => ASt.of [(0, .v true (.one (.c (.lit (.int .i64 a_i1))))), (5, .v true (.one (.aptr 101 0 1 0))), (6, .v true (.one (.c (.lit (.int .u64 x.1)))))] [(101, .dat 1 (List.map cU x.2))])) <| pp (@cutX (Int × List Int) _ (fun n x => G.internal_strconv_FormatInt.K2 n x.1 x.2) r (fun x => ASt.of [(0, .v true (.one (.c (.lit (.int .i64 a_i1))))), (5, .v true (.one (.aptr 102 0 1 0))), (6, .v true (.one (.c (.lit (.int .u64 x.1)))))] [(102, .dat 1 (List.map cU x.2))])) ()) <| pp (pp (And.intro @G.internal_strconv_FormatInt.K1.eq_1 <| And.intro @G.internal_strconv_FormatInt.K1.eq_2 <| And.intro @G.internal_strconv_FormatInt.K2.eq_1 <| @G.internal_strconv_FormatInt.K2.eq_2) ()) <| pp (pp (@weakX [] [(101, 10)] []) <| pp (@weakX [] [(102, 10)] []) ()) <| pp () <| (pp (pp (rfl : @G.internal_strconv_FormatInt.K1 = _) ()) <| pp (pp (rfl : @G.internal_strconv_FormatInt.K2 = _) ()) ())
  exact drvM
theorem F.internal_strconv_Itoa {n : Nat} : ∀ {a_i1 : Int} {r : Txt}, G.internal_strconv_Itoa n a_i1 = some r → APure Go.Proofs.Tryz.prog 75 [.one (.c (.lit (.int .i64 a_i1)))] (.one (.c (.str r))) := by
  intro a_i1 r h
  refine fun_pure K.internal_strconv_Itoa (ofK ?_)
  unfold C.internal_strconv_Itoa
  rcases n with _ | n <;> simp only [G.internal_strconv_Itoa, reduceCtorEq] at h
  obtain ⟨zc, zg, zk, zu, ze, zj, zt⟩ := pp (pp @F.internal_strconv_FormatInt ()) <| pp () <| pp () <| pp () <| pp () <| pp () <| ()
  exact drv
theorem F.strconv_Itoa {n : Nat} : ∀ {a_i1 : Int} {r : Txt}, G.strconv_Itoa n a_i1 = some r → APure Go.Proofs.Tryz.prog 53 [.one (.c (.lit (.int .i64 a_i1)))] (.one (.c (.str r))) := by
  intro a_i1 r h
  refine fun_pure K.strconv_Itoa (ofK ?_)
  unfold C.strconv_Itoa
  rcases n with _ | n <;> simp only [G.strconv_Itoa, reduceCtorEq] at h
  obtain ⟨zc, zg, zk, zu, ze, zj, zt⟩ := pp (pp @F.internal_strconv_Itoa ()) <| pp () <| pp () <| pp () <| pp () <| pp () <| ()
  exact drv
theorem F.impl_kidIndex {n : Nat} : ∀ {a_n1 : NodeT} {a_step1 : Txt} {r : Int × Bool}, G.impl_kidIndex n a_n1 a_step1 = some r → APure Go.Proofs.Tryz.prog 52 [.agg [.c (.lit (.int .i64 a_n1.Kind)), .c (.lit (.int .i64 a_n1.Num)), .c (.str a_n1.Text), .c (.sl 1 (List.map cS a_n1.Names)), .c (.sl 5 (List.map NodeT.cells a_n1.Kids))], .one (.c (.str a_step1))] (.tup [(false, [.c (.lit (.int .i64 r.1))]), (false, [.c (.lit (.bool r.2))])]) := by
  intro a_n1 a_step1 r h
  refine fun_pure K.impl_kidIndex (ofK ?_)
  unfold C.impl_kidIndex
  rcases n with _ | n <;> simp only [G.impl_kidIndex, reduceCtorEq] at h
  obtain ⟨zc, zg, zk, zu, ze, zj, zt⟩ := pp (pp @F.slices_BinarySearch_string <| pp @F.strconv_Itoa ()) <| pp () <| pp (pp (@lopX (Int) _ (fun n x => G.impl_kidIndex.L1 n a_n1 a_step1 x) r (fun x => ASt.of [(1, .v true (.one (.c (.str a_step1)))), (21, .v true (.one (.c (.lit (.int .i64 ((a_n1.Kids.length : Nat) : Int)))))), (22, .v true (.one (.c (.lit (.int .i64 x)))))] [])) ()) <| pp () <| pp (pp (And.intro @G.impl_kidIndex.L1.eq_1 <| @G.impl_kidIndex.L1.eq_2) ()) <| pp (pp (@weakX [] [] []) ()) <| ()
  exact drv
theorem FZ.slices_Insert_impl_Node {es : List (List Cell)} {v : List Cell} {c i : Nat} (hc : es.length ≤ c) (hi : i ≤ es.length) (hb : (es.length + 1) * 86 ≤ 2 ^ 46) :
    ACalls Go.Proofs.Tryz.prog 54 [.one (.sub 0 0 es.length (some c) 5), .one (.c (.lit (.int .i64 (i : Int)))), .one (.own 1 1 5)] [.dat 5 es, .dat 5 [v]]
      (fun r1 b1 => r1 = .one (.own 2 (es.length + 1) 5) ∧ b1 = [.dead, .dat 5 [v], .dat 5 (es.take i ++ v :: es.drop i)]) := by
  have hw : IntKind.wrap .i64 ((es.length : Int) + ((1 : Nat) : Int)) = ((es.length + 1 : Nat) : Int) := by rw [wrap_id] <;> omega
  have hw2 : IntKind.wrap .i64 ((i : Int) + ((1 : Nat) : Int)) = ((i + 1 : Nat) : Int) := by rw [wrap_id] <;> omega
  have hw3 : IntKind.wrap .i64 (((es.length + 1 : Nat) : Int) - i) = ((es.length + 1 - i : Nat) : Int) := by rw [wrap_id] <;> omega
  refine fun_sound K.slices_Insert_impl_Node (ofK ?_)
  unfold C.slices_Insert_impl_Node
  have h10 : (((1 : Nat) : Int) == 0) = false := rfl
  by_cases h1 : i = es.length
  · subst h1
    have he : (((es.length : Nat) : Int) == ((es.length : Nat) : Int)) = true := by simp
    simp -dsimp only [egR, AOp.opds, AOp.f, AOp.rd, intBin, storeV, lvl, srcOf, reduceIte, Nat.reduceEqDiff, Nat.reduceAdd, Nat.reduceLeDiff, Nat.reduceBEq, reduceCtorEq, Int.reduceBNe, Int.reduceBEq, Int.reduceLT, Int.reduceLE, Int.reduceNeg, Nat.reduceLT, strBin, Int.reduceToNat, renC, ssliceV, sl3V, sappV, scpyV, appzV, sclrV, truncS, Option.map_none, Int.sub_zero, Nat.sub_zero, Int.toNat_sub, Int.ofNat_zero, List.drop_zero, List.take_length, Nat.add_sub_cancel, h10]
    repeat refine And.intro (by first | (show logOK _ _ _ _ = true; kernel_rfl) | (show callOK _ _ = true; kernel_rfl) | omega | assumption) ?_
    have e : es ++ [v] ++ List.drop (es.length + 1) es = es ++ v :: List.drop es.length es := by simp
    have e2 : es ++ [v] = es ++ v :: List.drop es.length es := by simp
    by_cases hr : es.length + 1 ≤ c
    · simp -dsimp only [egR, AOp.opds, AOp.f, AOp.rd, intBin, storeV, lvl, srcOf, reduceIte, Nat.reduceEqDiff, Nat.reduceAdd, Nat.reduceLeDiff, Nat.reduceBEq, reduceCtorEq, Int.reduceBNe, Int.reduceBEq, Int.reduceLT, Int.reduceLE, Int.reduceNeg, Nat.reduceLT, strBin, Int.reduceToNat, renC, ssliceV, sl3V, sappV, scpyV, appzV, sclrV, truncS, Option.map_none, Int.sub_zero, Nat.sub_zero, Int.toNat_sub, Int.ofNat_zero, List.drop_zero, List.take_length, Nat.add_sub_cancel, hr]
      repeat refine And.intro (by first | (show logOK _ _ _ _ = true; kernel_rfl) | (show callOK _ _ = true; kernel_rfl) | omega | assumption) ?_
      rw [e]
      refine ret_of [] [(0, 0), (1, 1), (2, 0)] [] (by rfl) ?_ ?_ ?_ <;> (simp -dsimp only [rwR, wkB, wkC, reduceIte, Nat.reduceEqDiff, reduceCtorEq, Nat.reduceAdd, Nat.reduceLeDiff] <;> first | (simp [List.take_of_length_le]; done) | ((try simp only [List.map_take, List.map_drop, List.map_append, List.map_cons, List.map_nil]) <;> (repeat' apply And.intro) <;> first | rfl | (simp; done) | (simp <;> omega; done) | (congr 1; exact (List.take_of_length_le (by simp <;> omega)).symm)))
    · simp -dsimp only [egR, AOp.opds, AOp.f, AOp.rd, intBin, storeV, lvl, srcOf, reduceIte, Nat.reduceEqDiff, Nat.reduceAdd, Nat.reduceLeDiff, Nat.reduceBEq, reduceCtorEq, Int.reduceBNe, Int.reduceBEq, Int.reduceLT, Int.reduceLE, Int.reduceNeg, Nat.reduceLT, strBin, Int.reduceToNat, renC, ssliceV, sl3V, sappV, scpyV, appzV, sclrV, truncS, Option.map_none, Int.sub_zero, Nat.sub_zero, Int.toNat_sub, Int.ofNat_zero, List.drop_zero, List.take_length, Nat.add_sub_cancel, hr]
      repeat refine And.intro (by first | (show logOK _ _ _ _ = true; kernel_rfl) | (show callOK _ _ = true; kernel_rfl) | omega | assumption) ?_
      rw [e2]
      refine ret_of [] [(0, 0), (1, 1), (2, 10)] [] (by rfl) ?_ ?_ ?_ <;> (simp -dsimp only [rwR, wkB, wkC, reduceIte, Nat.reduceEqDiff, reduceCtorEq, Nat.reduceAdd, Nat.reduceLeDiff] <;> first | (simp [List.take_of_length_le]; done) | ((try simp only [List.map_take, List.map_drop, List.map_append, List.map_cons, List.map_nil]) <;> (repeat' apply And.intro) <;> first | rfl | (simp; done) | (simp <;> omega; done) | (congr 1; exact (List.take_of_length_le (by simp <;> omega)).symm)))
  · have he : (((i : Nat) : Int) == ((es.length : Nat) : Int)) = false := by simp; omega
    simp -dsimp only [egR, AOp.opds, AOp.f, AOp.rd, intBin, storeV, lvl, srcOf, reduceIte, Nat.reduceEqDiff, Nat.reduceAdd, Nat.reduceLeDiff, Nat.reduceBEq, reduceCtorEq, Int.reduceBNe, Int.reduceBEq, Int.reduceLT, Int.reduceLE, Int.reduceNeg, Nat.reduceLT, strBin, Int.reduceToNat, renC, ssliceV, sl3V, sappV, scpyV, appzV, sclrV, truncS, Option.map_none, Int.sub_zero, Nat.sub_zero, Int.toNat_sub, Int.ofNat_zero, List.drop_zero, List.take_length, Nat.add_sub_cancel, h10]
    repeat refine And.intro (by first | (show logOK _ _ _ _ = true; kernel_rfl) | (show callOK _ _ = true; kernel_rfl) | omega | assumption) ?_
    simp -dsimp only [egR, AOp.opds, AOp.f, AOp.rd, intBin, storeV, lvl, srcOf, reduceIte, Nat.reduceEqDiff, Nat.reduceAdd, Nat.reduceLeDiff, Nat.reduceBEq, reduceCtorEq, Int.reduceBNe, Int.reduceBEq, Int.reduceLT, Int.reduceLE, Int.reduceNeg, Nat.reduceLT, strBin, Int.reduceToNat, renC, ssliceV, sl3V, sappV, scpyV, appzV, sclrV, truncS, Option.map_none, Int.sub_zero, Nat.sub_zero, Int.toNat_sub, Int.ofNat_zero, List.drop_zero, List.take_length, Nat.add_sub_cancel, he]
    by_cases hr : es.length + 1 ≤ c
    · have hd : decide ((c : Int) < ((es.length + 1 : Nat) : Int)) = false := by simp; omega
      simp -dsimp only [egR, AOp.opds, AOp.f, AOp.rd, intBin, storeV, lvl, srcOf, reduceIte, Nat.reduceEqDiff, Nat.reduceAdd, Nat.reduceLeDiff, Nat.reduceBEq, reduceCtorEq, Int.reduceBNe, Int.reduceBEq, Int.reduceLT, Int.reduceLE, Int.reduceNeg, Nat.reduceLT, strBin, Int.reduceToNat, renC, ssliceV, sl3V, sappV, scpyV, appzV, sclrV, truncS, Option.map_none, Int.sub_zero, Nat.sub_zero, Int.toNat_sub, Int.ofNat_zero, List.drop_zero, List.take_length, Nat.add_sub_cancel, hw, hd]
      repeat refine And.intro (by first | (show logOK _ _ _ _ = true; kernel_rfl) | (show callOK _ _ = true; kernel_rfl) | omega | assumption) ?_
      simp -dsimp only [egR, AOp.opds, AOp.f, AOp.rd, intBin, storeV, lvl, srcOf, reduceIte, Nat.reduceEqDiff, Nat.reduceAdd, Nat.reduceLeDiff, Nat.reduceBEq, reduceCtorEq, Int.reduceBNe, Int.reduceBEq, Int.reduceLT, Int.reduceLE, Int.reduceNeg, Nat.reduceLT, strBin, Int.reduceToNat, renC, ssliceV, sl3V, sappV, scpyV, appzV, sclrV, truncS, Option.map_none, Int.sub_zero, Nat.sub_zero, Int.toNat_sub, Int.ofNat_zero, List.drop_zero, List.take_length, Nat.add_sub_cancel, hw2]
      repeat refine And.intro (by first | (show logOK _ _ _ _ = true; kernel_rfl) | (show callOK _ _ = true; kernel_rfl) | omega | assumption) ?_
      refine And.intro (by simp; omega) ?_
      have e := ins1 es v i (by omega)
      simp only [splice] at e
      rw [e]
      refine ret_of [] [(0, 0), (1, 1), (2, 0)] [] (by rfl) ?_ ?_ ?_ <;> (simp -dsimp only [rwR, wkB, wkC, reduceIte, Nat.reduceEqDiff, reduceCtorEq, Nat.reduceAdd, Nat.reduceLeDiff] <;> first | (simp [List.take_of_length_le]; done) | ((try simp only [List.map_take, List.map_drop, List.map_append, List.map_cons, List.map_nil]) <;> (repeat' apply And.intro) <;> first | rfl | (simp; done) | (simp <;> omega; done) | (congr 1; exact (List.take_of_length_le (by simp <;> omega)).symm)))
    · have hd : decide ((c : Int) < ((es.length + 1 : Nat) : Int)) = true := by simp; omega
      have hx : c < i + (es.length + 1 - i) := by omega
      simp -dsimp only [egR, AOp.opds, AOp.f, AOp.rd, intBin, storeV, lvl, srcOf, reduceIte, Nat.reduceEqDiff, Nat.reduceAdd, Nat.reduceLeDiff, Nat.reduceBEq, reduceCtorEq, Int.reduceBNe, Int.reduceBEq, Int.reduceLT, Int.reduceLE, Int.reduceNeg, Nat.reduceLT, strBin, Int.reduceToNat, renC, ssliceV, sl3V, sappV, scpyV, appzV, sclrV, truncS, Option.map_none, Int.sub_zero, Nat.sub_zero, Int.toNat_sub, Int.ofNat_zero, List.drop_zero, List.take_length, Nat.add_sub_cancel, hw, hd, hw2, hw3]
      repeat refine And.intro (by first | (show logOK _ _ _ _ = true; kernel_rfl) | (show callOK _ _ = true; kernel_rfl) | omega | assumption) ?_
      refine And.intro (by simp; omega) ?_
      repeat refine And.intro (by first | (show logOK _ _ _ _ = true; kernel_rfl) | (show callOK _ _ = true; kernel_rfl) | omega | assumption) ?_
      refine And.intro ⟨by omega, by simp; omega⟩ ?_
      repeat refine And.intro (by first | (show logOK _ _ _ _ = true; kernel_rfl) | (show callOK _ _ = true; kernel_rfl) | omega | assumption) ?_
      have e := ins2 es v [.lit (.int .i64 0), .lit (.int .i64 0), .str [], .sl 1 [], .sl 5 []] i _ (by omega) rfl
      simp only [splice] at e
      have e0 : i + (es.length + 1 - i) = es.length + 1 := by omega
      rw [e, e0]
      refine ret_of [] [(0, 0), (1, 1), (2, 11)] [] (by rfl) ?_ ?_ ?_ <;> (simp -dsimp only [rwR, wkB, wkC, reduceIte, Nat.reduceEqDiff, reduceCtorEq, Nat.reduceAdd, Nat.reduceLeDiff] <;> first | (simp [List.take_of_length_le]; done) | ((try simp only [List.map_take, List.map_drop, List.map_append, List.map_cons, List.map_nil]) <;> (repeat' apply And.intro) <;> first | rfl | (simp; done) | (simp <;> omega; done) | (congr 1; exact (List.take_of_length_le (by simp <;> omega)).symm)))
theorem F.slices_Insert_impl_Node {n : Nat} : ∀ {a_s1 : List NodeT} {a_i1 : Int} {a_v1 : List NodeT} {r : List NodeT}, G.slices_Insert_impl_Node n a_s1 a_i1 a_v1 = some r →
    ACalls Go.Proofs.Tryz.prog 54 [.one (.own 0 a_s1.length 5), .one (.c (.lit (.int .i64 a_i1))), .one (.own 1 a_v1.length 5)] [.dat 5 (List.map NodeT.cells a_s1), .dat 5 (List.map NodeT.cells a_v1)]
      (fun r1 b1 => r1 = .one (.own 2 r.length 5) ∧ b1 = [.dead, .dat 5 (List.map NodeT.cells a_v1), .dat 5 (List.map NodeT.cells r)]) := by
  intro s i v r h
  cases n with
  | zero => simp only [G.slices_Insert_impl_Node, reduceCtorEq] at h
  | succ n =>
    simp only [G.slices_Insert_impl_Node] at h
    obtain ⟨⟨q1, q2, q3, q4⟩, h⟩ := chk_some.1 h
    cases h
    obtain ⟨x, rfl⟩ := List.length_eq_one_iff.1 q3
    obtain ⟨k, rfl⟩ : ∃ k : Nat, i = k := ⟨i.toNat, by omega⟩
    refine caps_of (fun c hc => ?_)
    have hf := FZ.slices_Insert_impl_Node (es := List.map NodeT.cells s) (v := NodeT.cells x) (c := c) (i := k) (by simpa using hc) (by rw [List.length_map]; omega) (by rw [List.length_map]; exact q4)
    have e1 : (List.take k s ++ [x] ++ List.drop k s).length = s.length + 1 := by simp; omega
    rw [Int.toNat_natCast, e1]
    simpa using hf
theorem FZ.slices_Insert_string {es : List (List Cell)} {v : List Cell} {c i : Nat} (hc : es.length ≤ c) (hi : i ≤ es.length) (hb : (es.length + 1) * 18 ≤ 2 ^ 46) :
    ACalls Go.Proofs.Tryz.prog 71 [.one (.sub 0 0 es.length (some c) 1), .one (.c (.lit (.int .i64 (i : Int)))), .one (.own 1 1 1)] [.dat 1 es, .dat 1 [v]]
      (fun r1 b1 => r1 = .one (.own 2 (es.length + 1) 1) ∧ b1 = [.dead, .dat 1 [v], .dat 1 (es.take i ++ v :: es.drop i)]) := by
  have hw : IntKind.wrap .i64 ((es.length : Int) + ((1 : Nat) : Int)) = ((es.length + 1 : Nat) : Int) := by rw [wrap_id] <;> omega
  have hw2 : IntKind.wrap .i64 ((i : Int) + ((1 : Nat) : Int)) = ((i + 1 : Nat) : Int) := by rw [wrap_id] <;> omega
  have hw3 : IntKind.wrap .i64 (((es.length + 1 : Nat) : Int) - i) = ((es.length + 1 - i : Nat) : Int) := by rw [wrap_id] <;> omega
  refine fun_sound K.slices_Insert_string (ofK ?_)
  unfold C.slices_Insert_string
  have h10 : (((1 : Nat) : Int) == 0) = false := rfl
  by_cases h1 : i = es.length
  · subst h1
    have he : (((es.length : Nat) : Int) == ((es.length : Nat) : Int)) = true := by simp
    simp -dsimp only [egR, AOp.opds, AOp.f, AOp.rd, intBin, storeV, lvl, srcOf, reduceIte, Nat.reduceEqDiff, Nat.reduceAdd, Nat.reduceLeDiff, Nat.reduceBEq, reduceCtorEq, Int.reduceBNe, Int.reduceBEq, Int.reduceLT, Int.reduceLE, Int.reduceNeg, Nat.reduceLT, strBin, Int.reduceToNat, renC, ssliceV, sl3V, sappV, scpyV, appzV, sclrV, truncS, Option.map_none, Int.sub_zero, Nat.sub_zero, Int.toNat_sub, Int.ofNat_zero, List.drop_zero, List.take_length, Nat.add_sub_cancel, h10]
    repeat refine And.intro (by first | (show logOK _ _ _ _ = true; kernel_rfl) | (show callOK _ _ = true; kernel_rfl) | omega | assumption) ?_
    have e : es ++ [v] ++ List.drop (es.length + 1) es = es ++ v :: List.drop es.length es := by simp
    have e2 : es ++ [v] = es ++ v :: List.drop es.length es := by simp
    by_cases hr : es.length + 1 ≤ c
    · simp -dsimp only [egR, AOp.opds, AOp.f, AOp.rd, intBin, storeV, lvl, srcOf, reduceIte, Nat.reduceEqDiff, Nat.reduceAdd, Nat.reduceLeDiff, Nat.reduceBEq, reduceCtorEq, Int.reduceBNe, Int.reduceBEq, Int.reduceLT, Int.reduceLE, Int.reduceNeg, Nat.reduceLT, strBin, Int.reduceToNat, renC, ssliceV, sl3V, sappV, scpyV, appzV, sclrV, truncS, Option.map_none, Int.sub_zero, Nat.sub_zero, Int.toNat_sub, Int.ofNat_zero, List.drop_zero, List.take_length, Nat.add_sub_cancel, hr]
      repeat refine And.intro (by first | (show logOK _ _ _ _ = true; kernel_rfl) | (show callOK _ _ = true; kernel_rfl) | omega | assumption) ?_
      rw [e]
      refine ret_of [] [(0, 0), (1, 1), (2, 0)] [] (by rfl) ?_ ?_ ?_ <;> (simp -dsimp only [rwR, wkB, wkC, reduceIte, Nat.reduceEqDiff, reduceCtorEq, Nat.reduceAdd, Nat.reduceLeDiff] <;> first | (simp [List.take_of_length_le]; done) | ((try simp only [List.map_take, List.map_drop, List.map_append, List.map_cons, List.map_nil]) <;> (repeat' apply And.intro) <;> first | rfl | (simp; done) | (simp <;> omega; done) | (congr 1; exact (List.take_of_length_le (by simp <;> omega)).symm)))
    · simp -dsimp only [egR, AOp.opds, AOp.f, AOp.rd, intBin, storeV, lvl, srcOf, reduceIte, Nat.reduceEqDiff, Nat.reduceAdd, Nat.reduceLeDiff, Nat.reduceBEq, reduceCtorEq, Int.reduceBNe, Int.reduceBEq, Int.reduceLT, Int.reduceLE, Int.reduceNeg, Nat.reduceLT, strBin, Int.reduceToNat, renC, ssliceV, sl3V, sappV, scpyV, appzV, sclrV, truncS, Option.map_none, Int.sub_zero, Nat.sub_zero, Int.toNat_sub, Int.ofNat_zero, List.drop_zero, List.take_length, Nat.add_sub_cancel, hr]
      repeat refine And.intro (by first | (show logOK _ _ _ _ = true; kernel_rfl) | (show callOK _ _ = true; kernel_rfl) | omega | assumption) ?_
      rw [e2]
      refine ret_of [] [(0, 0), (1, 1), (2, 10)] [] (by rfl) ?_ ?_ ?_ <;> (simp -dsimp only [rwR, wkB, wkC, reduceIte, Nat.reduceEqDiff, reduceCtorEq, Nat.reduceAdd, Nat.reduceLeDiff] <;> first | (simp [List.take_of_length_le]; done) | ((try simp only [List.map_take, List.map_drop, List.map_append, List.map_cons, List.map_nil]) <;> (repeat' apply And.intro) <;> first | rfl | (simp; done) | (simp <;> omega; done) | (congr 1; exact (List.take_of_length_le (by simp <;> omega)).symm)))
  · have he : (((i : Nat) : Int) == ((es.length : Nat) : Int)) = false := by simp; omega
    simp -dsimp only [egR, AOp.opds, AOp.f, AOp.rd, intBin, storeV, lvl, srcOf, reduceIte, Nat.reduceEqDiff, Nat.reduceAdd, Nat.reduceLeDiff, Nat.reduceBEq, reduceCtorEq, Int.reduceBNe, Int.reduceBEq, Int.reduceLT, Int.reduceLE, Int.reduceNeg, Nat.reduceLT, strBin, Int.reduceToNat, renC, ssliceV, sl3V, sappV, scpyV, appzV, sclrV, truncS, Option.map_none, Int.sub_zero, Nat.sub_zero, Int.toNat_sub, Int.ofNat_zero, List.drop_zero, List.take_length, Nat.add_sub_cancel, h10]
    repeat refine And.intro (by first | (show logOK _ _ _ _ = true; kernel_rfl) | (show callOK _ _ = true; kernel_rfl) | omega | assumption) ?_
    simp -dsimp only [egR, AOp.opds, AOp.f, AOp.rd, intBin, storeV, lvl, srcOf, reduceIte, Nat.reduceEqDiff, Nat.reduceAdd, Nat.reduceLeDiff, Nat.reduceBEq, reduceCtorEq, Int.reduceBNe, Int.reduceBEq, Int.reduceLT, Int.reduceLE, Int.reduceNeg, Nat.reduceLT, strBin, Int.reduceToNat, renC, ssliceV, sl3V, sappV, scpyV, appzV, sclrV, truncS, Option.map_none, Int.sub_zero, Nat.sub_zero, Int.toNat_sub, Int.ofNat_zero, List.drop_zero, List.take_length, Nat.add_sub_cancel, he]
    by_cases hr : es.length + 1 ≤ c
    · have hd : decide ((c : Int) < ((es.length + 1 : Nat) : Int)) = false := by simp; omega
      simp -dsimp only [egR, AOp.opds, AOp.f, AOp.rd, intBin, storeV, lvl, srcOf, reduceIte, Nat.reduceEqDiff, Nat.reduceAdd, Nat.reduceLeDiff, Nat.reduceBEq, reduceCtorEq, Int.reduceBNe, Int.reduceBEq, Int.reduceLT, Int.reduceLE, Int.reduceNeg, Nat.reduceLT, strBin, Int.reduceToNat, renC, ssliceV, sl3V, sappV, scpyV, appzV, sclrV, truncS, Option.map_none, Int.sub_zero, Nat.sub_zero, Int.toNat_sub, Int.ofNat_zero, List.drop_zero, List.take_length, Nat.add_sub_cancel, hw, hd]
      repeat refine And.intro (by first | (show logOK _ _ _ _ = true; kernel_rfl) | (show callOK _ _ = true; kernel_rfl) | omega | assumption) ?_
      simp -dsimp only [egR, AOp.opds, AOp.f, AOp.rd, intBin, storeV, lvl, srcOf, reduceIte, Nat.reduceEqDiff, Nat.reduceAdd, Nat.reduceLeDiff, Nat.reduceBEq, reduceCtorEq, Int.reduceBNe, Int.reduceBEq, Int.reduceLT, Int.reduceLE, Int.reduceNeg, Nat.reduceLT, strBin, Int.reduceToNat, renC, ssliceV, sl3V, sappV, scpyV, appzV, sclrV, truncS, Option.map_none, Int.sub_zero, Nat.sub_zero, Int.toNat_sub, Int.ofNat_zero, List.drop_zero, List.take_length, Nat.add_sub_cancel, hw2]
      repeat refine And.intro (by first | (show logOK _ _ _ _ = true; kernel_rfl) | (show callOK _ _ = true; kernel_rfl) | omega | assumption) ?_
      refine And.intro (by simp; omega) ?_
      have e := ins1 es v i (by omega)
      simp only [splice] at e
      rw [e]
      refine ret_of [] [(0, 0), (1, 1), (2, 0)] [] (by rfl) ?_ ?_ ?_ <;> (simp -dsimp only [rwR, wkB, wkC, reduceIte, Nat.reduceEqDiff, reduceCtorEq, Nat.reduceAdd, Nat.reduceLeDiff] <;> first | (simp [List.take_of_length_le]; done) | ((try simp only [List.map_take, List.map_drop, List.map_append, List.map_cons, List.map_nil]) <;> (repeat' apply And.intro) <;> first | rfl | (simp; done) | (simp <;> omega; done) | (congr 1; exact (List.take_of_length_le (by simp <;> omega)).symm)))
    · have hd : decide ((c : Int) < ((es.length + 1 : Nat) : Int)) = true := by simp; omega
      have hx : c < i + (es.length + 1 - i) := by omega
      simp -dsimp only [egR, AOp.opds, AOp.f, AOp.rd, intBin, storeV, lvl, srcOf, reduceIte, Nat.reduceEqDiff, Nat.reduceAdd, Nat.reduceLeDiff, Nat.reduceBEq, reduceCtorEq, Int.reduceBNe, Int.reduceBEq, Int.reduceLT, Int.reduceLE, Int.reduceNeg, Nat.reduceLT, strBin, Int.reduceToNat, renC, ssliceV, sl3V, sappV, scpyV, appzV, sclrV, truncS, Option.map_none, Int.sub_zero, Nat.sub_zero, Int.toNat_sub, Int.ofNat_zero, List.drop_zero, List.take_length, Nat.add_sub_cancel, hw, hd, hw2, hw3]
      repeat refine And.intro (by first | (show logOK _ _ _ _ = true; kernel_rfl) | (show callOK _ _ = true; kernel_rfl) | omega | assumption) ?_
      refine And.intro (by simp; omega) ?_
      repeat refine And.intro (by first | (show logOK _ _ _ _ = true; kernel_rfl) | (show callOK _ _ = true; kernel_rfl) | omega | assumption) ?_
      refine And.intro ⟨by omega, by simp; omega⟩ ?_
      repeat refine And.intro (by first | (show logOK _ _ _ _ = true; kernel_rfl) | (show callOK _ _ = true; kernel_rfl) | omega | assumption) ?_
      have e := ins2 es v [.str []] i _ (by omega) rfl
      simp only [splice] at e
      have e0 : i + (es.length + 1 - i) = es.length + 1 := by omega
      rw [e, e0]
      refine ret_of [] [(0, 0), (1, 1), (2, 11)] [] (by rfl) ?_ ?_ ?_ <;> (simp -dsimp only [rwR, wkB, wkC, reduceIte, Nat.reduceEqDiff, reduceCtorEq, Nat.reduceAdd, Nat.reduceLeDiff] <;> first | (simp [List.take_of_length_le]; done) | ((try simp only [List.map_take, List.map_drop, List.map_append, List.map_cons, List.map_nil]) <;> (repeat' apply And.intro) <;> first | rfl | (simp; done) | (simp <;> omega; done) | (congr 1; exact (List.take_of_length_le (by simp <;> omega)).symm)))
theorem F.slices_Insert_string {n : Nat} : ∀ {a_s1 : List Txt} {a_i1 : Int} {a_v1 : List Txt} {r : List Txt}, G.slices_Insert_string n a_s1 a_i1 a_v1 = some r →
    ACalls Go.Proofs.Tryz.prog 71 [.one (.own 0 a_s1.length 1), .one (.c (.lit (.int .i64 a_i1))), .one (.own 1 a_v1.length 1)] [.dat 1 (List.map cS a_s1), .dat 1 (List.map cS a_v1)]
      (fun r1 b1 => r1 = .one (.own 2 r.length 1) ∧ b1 = [.dead, .dat 1 (List.map cS a_v1), .dat 1 (List.map cS r)]) := by
  intro s i v r h
  cases n with
  | zero => simp only [G.slices_Insert_string, reduceCtorEq] at h
  | succ n =>
    simp only [G.slices_Insert_string] at h
    obtain ⟨⟨q1, q2, q3, q4⟩, h⟩ := chk_some.1 h
    cases h
    obtain ⟨x, rfl⟩ := List.length_eq_one_iff.1 q3
    obtain ⟨k, rfl⟩ : ∃ k : Nat, i = k := ⟨i.toNat, by omega⟩
    refine caps_of (fun c hc => ?_)
    have hf := FZ.slices_Insert_string (es := List.map cS s) (v := cS x) (c := c) (i := k) (by simpa using hc) (by rw [List.length_map]; omega) (by rw [List.length_map]; exact q4)
    have e1 : (List.take k s ++ [x] ++ List.drop k s).length = s.length + 1 := by simp; omega
    rw [Int.toNat_natCast, e1]
    simpa using hf
theorem F.impl_putName {n : Nat} : ∀ {p_n1 : NodeT} {a_name1 : Txt} {a_value1 : NodeT} {r : NodeT}, G.impl_putName n p_n1 a_name1 a_value1 = some r → ACalls Go.Proofs.Tryz.prog 45 [.one (.ptr 0 0), .one (.c (.str a_name1)), .agg [.c (.lit (.int .i64 a_value1.Kind)), .c (.lit (.int .i64 a_value1.Num)), .c (.str a_value1.Text), .c (.sl 1 (List.map cS a_value1.Names)), .c (.sl 5 (List.map NodeT.cells a_value1.Kids))]] [.var [.c (.lit (.int .i64 p_n1.Kind)), .c (.lit (.int .i64 p_n1.Num)), .c (.str p_n1.Text), .own 1 p_n1.Names.length 1, .own 2 p_n1.Kids.length 5], .dat 1 (List.map cS p_n1.Names), .dat 5 (List.map NodeT.cells p_n1.Kids)] (fun r1 b1 => r1 = .tup [] ∧ b1 = [.var [.c (.lit (.int .i64 r.Kind)), .c (.lit (.int .i64 r.Num)), .c (.str r.Text), .own 3 r.Names.length 1, .own 4 r.Kids.length 5], .dead, .dead, .dat 1 (List.map cS r.Names), .dat 5 (List.map NodeT.cells r.Kids)]) := by
  intro p_n1 a_name1 a_value1 r h
  refine fun_sound K.impl_putName (ofK ?_)
  unfold C.impl_putName
  rcases n with _ | n <;> simp only [G.impl_putName, reduceCtorEq] at h
  obtain ⟨zc, zg, zk, zu, ze, zj, zt⟩ := pp (pp @F.slices_BinarySearch_string ()) <| pp (pp (pp @F.slices_Insert_string (@cG [1, 11] [101])) <| pp (pp @F.slices_Insert_impl_Node (@cG [2, 12] [102])) ()) <| pp () <| pp () <| pp () <| pp () <| (pp (@retX [] [(0, 0), (1, 1), (2, 2), (3, 1), (4, 2)] []) <| pp (@retX [] [(0, 0), (1, 1), (2, 2), (3, 101), (4, 102)] []) ())
  exact drv
theorem F.impl_addKid {n : Nat} : ∀ {a_n1 : NodeT} {a_step1 : Txt} {a_value1 : NodeT} {r : NodeT × Bool}, G.impl_addKid n a_n1 a_step1 a_value1 = some r → APure Go.Proofs.Tryz.prog 28 [.agg [.c (.lit (.int .i64 a_n1.Kind)), .c (.lit (.int .i64 a_n1.Num)), .c (.str a_n1.Text), .c (.sl 1 (List.map cS a_n1.Names)), .c (.sl 5 (List.map NodeT.cells a_n1.Kids))], .one (.c (.str a_step1)), .agg [.c (.lit (.int .i64 a_value1.Kind)), .c (.lit (.int .i64 a_value1.Num)), .c (.str a_value1.Text), .c (.sl 1 (List.map cS a_value1.Names)), .c (.sl 5 (List.map NodeT.cells a_value1.Kids))]] (.tup [(true, [.c (.lit (.int .i64 r.1.Kind)), .c (.lit (.int .i64 r.1.Num)), .c (.str r.1.Text), .c (.sl 1 (List.map cS r.1.Names)), .c (.sl 5 (List.map NodeT.cells r.1.Kids))]), (false, [.c (.lit (.bool r.2))])]) := by
  intro a_n1 a_step1 a_value1 r h
  refine fun_pure K.impl_addKid (ofK ?_)
  unfold C.impl_addKid
  rcases n with _ | n <;> simp only [G.impl_addKid, reduceCtorEq] at h
  obtain ⟨zc, zg, zk, zu, ze, zj, zt⟩ := pp (pp @F.impl_kidIndex <| pp @F.strconv_Itoa ()) <| pp (pp (pp @F.impl_copyNode_o (@cG [] [101, 102])) <| pp (pp @F.impl_copyNode_o (@cG [] [103, 104])) <| pp (pp @F.impl_putName (@cH [13, 101, 102] [105, 106])) <| pp (pp @F.impl_copyNode_o (@cG [] [112, 113])) <| pp (pp @F.slices_Insert_impl_Node (@cG [111, 14] [114])) ()) <| pp () <| pp (pp (@cutX (NodeT × Int × Bool) _ (fun n x => G.impl_addKid.K1 n a_value1 x.1 x.2.1 x.2.2) r (fun x => ASt.of [(5, .v true (.one (.ptr 107 0))), (6, .v true (.one (.ptr 108 0))), (8, .v true (.one (.ptr 109 0))), (9, .v true (.one (.c (.lit (.int .i64 x.2.1))))), (10, .v true (.one (.c (.lit (.bool x.2.2)))))] [(107, .var [.c (.lit (.int .i64 a_value1.Kind)), .c (.lit (.int .i64 a_value1.Num)), .c (.str a_value1.Text), .c (.sl 1 (List.map cS a_value1.Names)), .c (.sl 5 (List.map NodeT.cells a_value1.Kids))]), (108, .var [.c (.lit (.int .i64 0)), .c (.lit (.int .i64 0)), .c (.str []), .nsl 1, .nsl 5]), (109, .var [.c (.lit (.int .i64 x.1.Kind)), .c (.lit (.int .i64 x.1.Num)), .c (.str x.1.Text), .own 110 x.1.Names.length 1, .own 111 x.1.Kids.length 5]), (110, .dat 1 (List.map cS x.1.Names)), (111, .dat 5 (List.map NodeT.cells x.1.Kids))])) ()) <| pp (pp (And.intro @G.impl_addKid.K1.eq_1 <| @G.impl_addKid.K1.eq_2) ()) <| pp (pp (@weakX [] [(107, 11), (108, 12), (109, 13), (110, 101), (111, 102)] []) ()) <| ()
  exact drv
theorem F.impl_AddNode_1 {n : Nat} : ∀ {a_parent1 : NodeT} {p_cap01 : List Txt} {p_cap11 : Int} {p_cap21 : NodeT} {r : NodeT × Bool}, G.impl_AddNode_1 n a_parent1 p_cap01 p_cap11 p_cap21 = some r → ACalls Go.Proofs.Tryz.prog 27 [.agg [.c (.lit (.int .i64 a_parent1.Kind)), .c (.lit (.int .i64 a_parent1.Num)), .c (.str a_parent1.Text), .c (.sl 1 (List.map cS a_parent1.Names)), .c (.sl 5 (List.map NodeT.cells a_parent1.Kids))], .one (.ptr 0 0), .one (.ptr 1 0), .one (.ptr 2 0)] [.var [.c (.sl 1 (List.map cS p_cap01))], .var [.c (.lit (.int .i64 p_cap11))], .var [.c (.lit (.int .i64 p_cap21.Kind)), .c (.lit (.int .i64 p_cap21.Num)), .c (.str p_cap21.Text), .c (.sl 1 (List.map cS p_cap21.Names)), .c (.sl 5 (List.map NodeT.cells p_cap21.Kids))]] (fun r1 b1 => r1 = .tup [(true, [.c (.lit (.int .i64 r.1.Kind)), .c (.lit (.int .i64 r.1.Num)), .c (.str r.1.Text), .c (.sl 1 (List.map cS r.1.Names)), .c (.sl 5 (List.map NodeT.cells r.1.Kids))]), (false, [.c (.lit (.bool r.2))])] ∧ b1 = [.var [.c (.sl 1 (List.map cS p_cap01))], .var [.c (.lit (.int .i64 p_cap11))], .var [.c (.lit (.int .i64 p_cap21.Kind)), .c (.lit (.int .i64 p_cap21.Num)), .c (.str p_cap21.Text), .c (.sl 1 (List.map cS p_cap21.Names)), .c (.sl 5 (List.map NodeT.cells p_cap21.Kids))]]) := by
  intro a_parent1 p_cap01 p_cap11 p_cap21 r h
  refine fun_sound K.impl_AddNode_1 (ofK ?_)
  unfold C.impl_AddNode_1
  rcases n with _ | n <;> simp only [G.impl_AddNode_1, reduceCtorEq] at h
  obtain ⟨zc, zg, zk, zu, ze, zj, zt⟩ := pp (pp @F.impl_addKid ()) <| pp () <| pp () <| pp () <| pp () <| pp () <| (pp (@retX [] [(0, 0), (1, 1), (2, 2)] []) ())
  exact drv
theorem F.impl_isPlainText {n : Nat} : ∀ {a_s1 : Txt} {r : Bool}, G.impl_isPlainText n a_s1 = some r → APure Go.Proofs.Tryz.prog 51 [.one (.c (.str a_s1))] (.one (.c (.lit (.bool r)))) := by
  intro a_s1 r h
  refine fun_pure K.impl_isPlainText (ofK ?_)
  unfold C.impl_isPlainText
  rcases n with _ | n <;> simp only [G.impl_isPlainText, reduceCtorEq] at h
  obtain ⟨zc, zg, zk, zu, ze, zj, zt⟩ := pp () <| pp () <| pp (pp (@lopX (Int) _ (fun n x => G.impl_isPlainText.L1 n a_s1 x) r (fun x => ASt.of [(0, .v true (.one (.c (.str a_s1)))), (3, .v true (.one (.c (.lit (.int .i64 x)))))] [])) ()) <| pp () <| pp (pp (And.intro @G.impl_isPlainText.L1.eq_1 <| @G.impl_isPlainText.L1.eq_2) ()) <| pp (pp (@weakX [] [] []) ()) <| ()
  exact drv
theorem F.impl_areNames {n : Nat} : ∀ {a_names1 : List Txt} {r : Bool}, G.impl_areNames n a_names1 = some r → APure Go.Proofs.Tryz.prog 74 [.one (.c (.sl 1 (List.map cS a_names1)))] (.one (.c (.lit (.bool r)))) := by
  intro a_names1 r h
  refine fun_pure K.impl_areNames (ofK ?_)
  unfold C.impl_areNames
  rcases n with _ | n <;> simp only [G.impl_areNames, reduceCtorEq] at h
  obtain ⟨zc, zg, zk, zu, ze, zj, zt⟩ := pp (pp @F.impl_isPlainText ()) <| pp () <| pp (pp (@lopX (Int) _ (fun n x => G.impl_areNames.L1 n a_names1 x) r (fun x => ASt.of [(0, .v true (.one (.c (.sl 1 (List.map cS a_names1))))), (8, .v true (.one (.c (.sl 1 (List.map cS a_names1))))), (9, .v true (.one (.c (.lit (.int .i64 ((a_names1.length : Nat) : Int)))))), (10, .v true (.one (.c (.lit (.int .i64 x)))))] [])) ()) <| pp () <| pp (pp (And.intro @G.impl_areNames.L1.eq_1 <| @G.impl_areNames.L1.eq_2) ()) <| pp (pp (@weakX [] [] []) ()) <| ()
  exact drv
theorem F.impl_hasValidParts {n : Nat} : ∀ {a_n1 : NodeT} {r : Bool}, G.impl_hasValidParts n a_n1 = some r → APure Go.Proofs.Tryz.prog 50 [.agg [.c (.lit (.int .i64 a_n1.Kind)), .c (.lit (.int .i64 a_n1.Num)), .c (.str a_n1.Text), .c (.sl 1 (List.map cS a_n1.Names)), .c (.sl 5 (List.map NodeT.cells a_n1.Kids))]] (.one (.c (.lit (.bool r)))) := by
  intro a_n1 r h
  refine fun_pure K.impl_hasValidParts (ofK ?_)
  unfold C.impl_hasValidParts
  rcases n with _ | n <;> simp only [G.impl_hasValidParts, reduceCtorEq] at h
  obtain ⟨zc, zg, zk, zu, ze, zj, zt⟩ := pp (pp @F.impl_isPlainText <| pp @F.impl_areNames ()) <| pp () <| pp () <| pp (pp (@cutX (Unit) _ (fun n x => G.impl_hasValidParts.K1 n a_n1) r (fun x => ASt.of [(1, .v true (.one (.ptr 101 0))), (20, .v true (.one (.c (.lit (.bool false)))))] [(101, .var [.c (.lit (.int .i64 a_n1.Kind)), .c (.lit (.int .i64 a_n1.Num)), .c (.str a_n1.Text), .c (.sl 1 (List.map cS a_n1.Names)), .c (.sl 5 (List.map NodeT.cells a_n1.Kids))])])) ()) <| pp (pp (And.intro @G.impl_hasValidParts.K1.eq_1 <| @G.impl_hasValidParts.K1.eq_2) ()) <| pp (pp (@weakX [] [(101, 10)] []) ()) <| ()
  exact drv
theorem F.impl_measureNode_n : ∀ (n : Nat), ∀ {a_n1 : NodeT} {a_level1 : Int} {r : Int × Int × Bool}, G.impl_measureNode n a_n1 a_level1 = some r → APure Go.Proofs.Tryz.prog 23 [.agg [.c (.lit (.int .i64 a_n1.Kind)), .c (.lit (.int .i64 a_n1.Num)), .c (.str a_n1.Text), .c (.sl 1 (List.map cS a_n1.Names)), .c (.sl 5 (List.map NodeT.cells a_n1.Kids))], .one (.c (.lit (.int .i64 a_level1)))] (.tup [(false, [.c (.lit (.int .i64 r.1))]), (false, [.c (.lit (.int .i64 r.2.1))]), (false, [.c (.lit (.bool r.2.2))])]) := by
  intro n
  induction n using Nat.strongRecOn with | _ n ih =>
  intro a_n1 a_level1 r h
  refine fun_pure K.impl_measureNode (ofK ?_)
  unfold C.impl_measureNode
  rcases n with _ | n <;> simp only [G.impl_measureNode, reduceCtorEq] at h
  obtain ⟨zc, zg, zk, zu, ze, zj, zt⟩ := pp (pp ih <| pp @F.impl_hasValidParts ()) <| pp () <| pp (pp (@lopX (Int × Int × Int) _ (fun n x => G.impl_measureNode.L1 n a_n1 a_level1 x.1 x.2.1 x.2.2) r (fun x => ASt.of [(1, .v true (.one (.c (.lit (.int .i64 a_level1))))), (4, .v true (.one (.c (.lit (.int .i64 x.1))))), (5, .v true (.one (.c (.lit (.int .i64 x.2.1))))), (20, .v true (.one (.c (.sl 5 (List.map NodeT.cells a_n1.Kids))))), (21, .v true (.one (.c (.lit (.int .i64 ((a_n1.Kids.length : Nat) : Int)))))), (22, .v true (.one (.c (.lit (.int .i64 x.2.2)))))] [])) ()) <| pp () <| pp (pp (And.intro @G.impl_measureNode.L1.eq_1 <| @G.impl_measureNode.L1.eq_2) ()) <| pp (pp (@weakX [] [] []) ()) <| ()
  exact drv
theorem F.impl_measureNode {n : Nat} : ∀ {a_n1 : NodeT} {a_level1 : Int} {r : Int × Int × Bool}, G.impl_measureNode n a_n1 a_level1 = some r → APure Go.Proofs.Tryz.prog 23 [.agg [.c (.lit (.int .i64 a_n1.Kind)), .c (.lit (.int .i64 a_n1.Num)), .c (.str a_n1.Text), .c (.sl 1 (List.map cS a_n1.Names)), .c (.sl 5 (List.map NodeT.cells a_n1.Kids))], .one (.c (.lit (.int .i64 a_level1)))] (.tup [(false, [.c (.lit (.int .i64 r.1))]), (false, [.c (.lit (.int .i64 r.2.1))]), (false, [.c (.lit (.bool r.2.2))])]) := F.impl_measureNode_n n
theorem F.impl_ValidNode {n : Nat} : ∀ {a_n1 : NodeT} {r : Bool}, G.impl_ValidNode n a_n1 = some r → APure Go.Proofs.Tryz.prog 8 [.agg [.c (.lit (.int .i64 a_n1.Kind)), .c (.lit (.int .i64 a_n1.Num)), .c (.str a_n1.Text), .c (.sl 1 (List.map cS a_n1.Names)), .c (.sl 5 (List.map NodeT.cells a_n1.Kids))]] (.one (.c (.lit (.bool r)))) := by
  intro a_n1 r h
  refine fun_pure K.impl_ValidNode (ofK ?_)
  unfold C.impl_ValidNode
  rcases n with _ | n <;> simp only [G.impl_ValidNode, reduceCtorEq] at h
  obtain ⟨zc, zg, zk, zu, ze, zj, zt⟩ := pp (pp @F.impl_measureNode ()) <| pp () <| pp () <| pp () <| pp () <| pp () <| ()
  exact drv
theorem F.impl_changeAt__impl_AddNode_1_n : ∀ (n : Nat), ∀ {a_n1 : NodeT} {a_path1 : List Txt} {p_cap01 : List Txt} {p_cap11 : Int} {p_cap21 : NodeT} {r : NodeT × Bool}, G.impl_changeAt__impl_AddNode_1 n a_n1 a_path1 p_cap01 p_cap11 p_cap21 = some r → ACalls Go.Proofs.Tryz.prog 26 [.agg [.c (.lit (.int .i64 a_n1.Kind)), .c (.lit (.int .i64 a_n1.Num)), .c (.str a_n1.Text), .c (.sl 1 (List.map cS a_n1.Names)), .c (.sl 5 (List.map NodeT.cells a_n1.Kids))], .one (.c (.sl 1 (List.map cS a_path1))), .one (.fn 27 [0, 1, 2])] [.var [.c (.sl 1 (List.map cS p_cap01))], .var [.c (.lit (.int .i64 p_cap11))], .var [.c (.lit (.int .i64 p_cap21.Kind)), .c (.lit (.int .i64 p_cap21.Num)), .c (.str p_cap21.Text), .c (.sl 1 (List.map cS p_cap21.Names)), .c (.sl 5 (List.map NodeT.cells p_cap21.Kids))]] (fun r1 b1 => r1 = .tup [(true, [.c (.lit (.int .i64 r.1.Kind)), .c (.lit (.int .i64 r.1.Num)), .c (.str r.1.Text), .c (.sl 1 (List.map cS r.1.Names)), .c (.sl 5 (List.map NodeT.cells r.1.Kids))]), (false, [.c (.lit (.bool r.2))])] ∧ b1 = [.var [.c (.sl 1 (List.map cS p_cap01))], .var [.c (.lit (.int .i64 p_cap11))], .var [.c (.lit (.int .i64 p_cap21.Kind)), .c (.lit (.int .i64 p_cap21.Num)), .c (.str p_cap21.Text), .c (.sl 1 (List.map cS p_cap21.Names)), .c (.sl 5 (List.map NodeT.cells p_cap21.Kids))]]) := by
  intro n
  induction n using Nat.strongRecOn with | _ n ih =>
  intro a_n1 a_path1 p_cap01 p_cap11 p_cap21 r h
  refine fun_sound K.impl_changeAt__impl_AddNode_1 (ofK ?_)
  unfold C.impl_changeAt
  rcases n with _ | n <;> simp only [G.impl_changeAt__impl_AddNode_1, reduceCtorEq] at h
  obtain ⟨zc, zg, zk, zu, ze, zj, zt⟩ := pp (pp @F.impl_kidIndex ()) <| pp (pp (pp ih (@cG [0, 1, 2] [])) <| pp (pp @F.impl_AddNode_1 (@cG [0, 1, 2] [])) <| pp (pp @F.impl_copyNode_o (@cG [] [101, 102])) ()) <| pp () <| pp () <| pp () <| pp () <| (pp (@retX [] [(0, 0), (1, 1), (2, 2)] []) <| pp (@retX [101, 102] [(0, 0), (1, 1), (2, 2)] []) ())
  exact drv
theorem F.impl_changeAt__impl_AddNode_1 {n : Nat} : ∀ {a_n1 : NodeT} {a_path1 : List Txt} {p_cap01 : List Txt} {p_cap11 : Int} {p_cap21 : NodeT} {r : NodeT × Bool}, G.impl_changeAt__impl_AddNode_1 n a_n1 a_path1 p_cap01 p_cap11 p_cap21 = some r → ACalls Go.Proofs.Tryz.prog 26 [.agg [.c (.lit (.int .i64 a_n1.Kind)), .c (.lit (.int .i64 a_n1.Num)), .c (.str a_n1.Text), .c (.sl 1 (List.map cS a_n1.Names)), .c (.sl 5 (List.map NodeT.cells a_n1.Kids))], .one (.c (.sl 1 (List.map cS a_path1))), .one (.fn 27 [0, 1, 2])] [.var [.c (.sl 1 (List.map cS p_cap01))], .var [.c (.lit (.int .i64 p_cap11))], .var [.c (.lit (.int .i64 p_cap21.Kind)), .c (.lit (.int .i64 p_cap21.Num)), .c (.str p_cap21.Text), .c (.sl 1 (List.map cS p_cap21.Names)), .c (.sl 5 (List.map NodeT.cells p_cap21.Kids))]] (fun r1 b1 => r1 = .tup [(true, [.c (.lit (.int .i64 r.1.Kind)), .c (.lit (.int .i64 r.1.Num)), .c (.str r.1.Text), .c (.sl 1 (List.map cS r.1.Names)), .c (.sl 5 (List.map NodeT.cells r.1.Kids))]), (false, [.c (.lit (.bool r.2))])] ∧ b1 = [.var [.c (.sl 1 (List.map cS p_cap01))], .var [.c (.lit (.int .i64 p_cap11))], .var [.c (.lit (.int .i64 p_cap21.Kind)), .c (.lit (.int .i64 p_cap21.Num)), .c (.str p_cap21.Text), .c (.sl 1 (List.map cS p_cap21.Names)), .c (.sl 5 (List.map NodeT.cells p_cap21.Kids))]]) := F.impl_changeAt__impl_AddNode_1_n n
theorem F.impl_checked {n : Nat} : ∀ {a_n1 : NodeT} {a_ok1 : Bool} {r : NodeT × Bool}, G.impl_checked n a_n1 a_ok1 = some r → APure Go.Proofs.Tryz.prog 17 [.agg [.c (.lit (.int .i64 a_n1.Kind)), .c (.lit (.int .i64 a_n1.Num)), .c (.str a_n1.Text), .c (.sl 1 (List.map cS a_n1.Names)), .c (.sl 5 (List.map NodeT.cells a_n1.Kids))], .one (.c (.lit (.bool a_ok1)))] (.tup [(true, [.c (.lit (.int .i64 r.1.Kind)), .c (.lit (.int .i64 r.1.Num)), .c (.str r.1.Text), .c (.sl 1 (List.map cS r.1.Names)), .c (.sl 5 (List.map NodeT.cells r.1.Kids))]), (false, [.c (.lit (.bool r.2))])]) := by
  intro a_n1 a_ok1 r h
  refine fun_pure K.impl_checked (ofK ?_)
  unfold C.impl_checked
  rcases n with _ | n <;> simp only [G.impl_checked, reduceCtorEq] at h
  obtain ⟨zc, zg, zk, zu, ze, zj, zt⟩ := pp (pp @F.impl_ValidNode ()) <| pp () <| pp () <| pp () <| pp () <| pp () <| ()
  exact drv
theorem F.impl_isPath {n : Nat} : ∀ {a_path1 : List Txt} {r : Bool}, G.impl_isPath n a_path1 = some r → APure Go.Proofs.Tryz.prog 24 [.one (.c (.sl 1 (List.map cS a_path1)))] (.one (.c (.lit (.bool r)))) := by
  intro a_path1 r h
  refine fun_pure K.impl_isPath (ofK ?_)
  unfold C.impl_isPath
  rcases n with _ | n <;> simp only [G.impl_isPath, reduceCtorEq] at h
  obtain ⟨zc, zg, zk, zu, ze, zj, zt⟩ := pp (pp @F.impl_isPlainText ()) <| pp () <| pp (pp (@lopX (Int) _ (fun n x => G.impl_isPath.L1 n a_path1 x) r (fun x => ASt.of [(8, .v true (.one (.c (.sl 1 (List.map cS a_path1))))), (9, .v true (.one (.c (.lit (.int .i64 ((a_path1.length : Nat) : Int)))))), (10, .v true (.one (.c (.lit (.int .i64 x)))))] [])) ()) <| pp () <| pp (pp (And.intro @G.impl_isPath.L1.eq_1 <| @G.impl_isPath.L1.eq_2) ()) <| pp (pp (@weakX [] [] []) ()) <| ()
  exact drv
theorem F.impl_AddNode {n : Nat} : ∀ {a_n1 : NodeT} {a_path1 : List Txt} {a_value1 : NodeT} {r : NodeT × Bool}, G.impl_AddNode n a_n1 a_path1 a_value1 = some r → APure Go.Proofs.Tryz.prog 10 [.agg [.c (.lit (.int .i64 a_n1.Kind)), .c (.lit (.int .i64 a_n1.Num)), .c (.str a_n1.Text), .c (.sl 1 (List.map cS a_n1.Names)), .c (.sl 5 (List.map NodeT.cells a_n1.Kids))], .one (.c (.sl 1 (List.map cS a_path1))), .agg [.c (.lit (.int .i64 a_value1.Kind)), .c (.lit (.int .i64 a_value1.Num)), .c (.str a_value1.Text), .c (.sl 1 (List.map cS a_value1.Names)), .c (.sl 5 (List.map NodeT.cells a_value1.Kids))]] (.tup [(true, [.c (.lit (.int .i64 r.1.Kind)), .c (.lit (.int .i64 r.1.Num)), .c (.str r.1.Text), .c (.sl 1 (List.map cS r.1.Names)), .c (.sl 5 (List.map NodeT.cells r.1.Kids))]), (false, [.c (.lit (.bool r.2))])]) := by
  intro a_n1 a_path1 a_value1 r h
  refine fun_pure K.impl_AddNode (ofK ?_)
  unfold C.impl_AddNode
  rcases n with _ | n <;> simp only [G.impl_AddNode, reduceCtorEq] at h
  obtain ⟨zc, zg, zk, zu, ze, zj, zt⟩ := pp (pp @F.impl_ValidNode <| pp @F.impl_isPath <| pp @F.impl_copyNode <| pp @F.impl_checked ()) <| pp (pp (pp @F.impl_changeAt__impl_AddNode_1 (@cG [11, 14, 12] [])) ()) <| pp () <| pp () <| pp () <| pp () <| ()
  exact drv
theorem F.impl_nameIn {n : Nat} : ∀ {a_n1 : NodeT} {a_name1 : Txt} {r : NodeT × Bool}, G.impl_nameIn n a_n1 a_name1 = some r → APure Go.Proofs.Tryz.prog 69 [.agg [.c (.lit (.int .i64 a_n1.Kind)), .c (.lit (.int .i64 a_n1.Num)), .c (.str a_n1.Text), .c (.sl 1 (List.map cS a_n1.Names)), .c (.sl 5 (List.map NodeT.cells a_n1.Kids))], .one (.c (.str a_name1))] (.tup [(true, [.c (.lit (.int .i64 r.1.Kind)), .c (.lit (.int .i64 r.1.Num)), .c (.str r.1.Text), .c (.sl 1 (List.map cS r.1.Names)), .c (.sl 5 (List.map NodeT.cells r.1.Kids))]), (false, [.c (.lit (.bool r.2))])]) := by
  intro a_n1 a_name1 r h
  refine fun_pure K.impl_nameIn (ofK ?_)
  unfold C.impl_nameIn
  rcases n with _ | n <;> simp only [G.impl_nameIn, reduceCtorEq] at h
  obtain ⟨zc, zg, zk, zu, ze, zj, zt⟩ := pp (pp @F.slices_BinarySearch_string ()) <| pp () <| pp () <| pp () <| pp () <| pp () <| ()
  exact drv
theorem F.internal_bytealg_CompareString {n : Nat} : ∀ {a_a1 : Txt} {a_b1 : Txt} {r : Int}, G.internal_bytealg_CompareString n a_a1 a_b1 = some r → APure Go.Proofs.Tryz.prog 100 [.one (.c (.str a_a1)), .one (.c (.str a_b1))] (.one (.c (.lit (.int .i64 r)))) := by
  intro a_a1 a_b1 r h
  refine fun_pure K.internal_bytealg_CompareString (ofK ?_)
  unfold C.internal_bytealg_CompareString
  rcases n with _ | n <;> simp only [G.internal_bytealg_CompareString, reduceCtorEq] at h
  obtain ⟨zc, zg, zk, zu, ze, zj, zt⟩ := pp () <| pp () <| pp () <| pp () <| pp () <| pp () <| ()
  exact drv
theorem F.strings_Compare {n : Nat} : ∀ {a_a1 : Txt} {a_b1 : Txt} {r : Int}, G.strings_Compare n a_a1 a_b1 = some r → APure Go.Proofs.Tryz.prog 80 [.one (.c (.str a_a1)), .one (.c (.str a_b1))] (.one (.c (.lit (.int .i64 r)))) := by
  intro a_a1 a_b1 r h
  refine fun_pure K.strings_Compare (ofK ?_)
  unfold C.strings_Compare
  rcases n with _ | n <;> simp only [G.strings_Compare, reduceCtorEq] at h
  obtain ⟨zc, zg, zk, zu, ze, zj, zt⟩ := pp (pp @F.internal_bytealg_CompareString ()) <| pp () <| pp () <| pp () <| pp () <| pp () <| ()
  exact drv
theorem F.impl_compareValid_n : ∀ (n : Nat), ∀ {a_a1 : NodeT} {a_b1 : NodeT} {r : Int}, G.impl_compareValid n a_a1 a_b1 = some r → APure Go.Proofs.Tryz.prog 65 [.agg [.c (.lit (.int .i64 a_a1.Kind)), .c (.lit (.int .i64 a_a1.Num)), .c (.str a_a1.Text), .c (.sl 1 (List.map cS a_a1.Names)), .c (.sl 5 (List.map NodeT.cells a_a1.Kids))], .agg [.c (.lit (.int .i64 a_b1.Kind)), .c (.lit (.int .i64 a_b1.Num)), .c (.str a_b1.Text), .c (.sl 1 (List.map cS a_b1.Names)), .c (.sl 5 (List.map NodeT.cells a_b1.Kids))]] (.one (.c (.lit (.int .i64 r)))) := by
  intro n
  induction n using Nat.strongRecOn with | _ n ih =>
  intro a_a1 a_b1 r h
  refine fun_pure K.impl_compareValid (ofK ?_)
  unfold C.impl_compareValid
  rcases n with _ | n <;> simp only [G.impl_compareValid, reduceCtorEq] at h
  obtain ⟨zc, zg, zk, zu, ze, zj, zt⟩ := pp (pp ih <| pp @F.cmp_Compare_int <| pp @F.strings_Compare ()) <| pp () <| pp (pp (@lopX (Int) _ (fun n x => G.impl_compareValid.L3 n a_a1 a_b1 x) r (fun x => ASt.of [(2, .v true (.one (.ptr 109 0))), (3, .v true (.one (.ptr 110 0))), (8, .v true (.one (.c (.lit (.int .i64 x)))))] [(109, .var [.c (.lit (.int .i64 a_a1.Kind)), .c (.lit (.int .i64 a_a1.Num)), .c (.str a_a1.Text), .c (.sl 1 (List.map cS a_a1.Names)), .c (.sl 5 (List.map NodeT.cells a_a1.Kids))]), (110, .var [.c (.lit (.int .i64 a_b1.Kind)), .c (.lit (.int .i64 a_b1.Num)), .c (.str a_b1.Text), .c (.sl 1 (List.map cS a_b1.Names)), .c (.sl 5 (List.map NodeT.cells a_b1.Kids))])])) ()) <| pp (pp (@cutX (Int) _ (fun n x => G.impl_compareValid.K4 n a_a1 a_b1 x) r (fun x => ASt.of [(2, .v true (.one (.ptr 111 0))), (3, .v true (.one (.ptr 112 0))), (8, .v true (.one (.c (.lit (.int .i64 x)))))] [(111, .var [.c (.lit (.int .i64 a_a1.Kind)), .c (.lit (.int .i64 a_a1.Num)), .c (.str a_a1.Text), .c (.sl 1 (List.map cS a_a1.Names)), .c (.sl 5 (List.map NodeT.cells a_a1.Kids))]), (112, .var [.c (.lit (.int .i64 a_b1.Kind)), .c (.lit (.int .i64 a_b1.Num)), .c (.str a_b1.Text), .c (.sl 1 (List.map cS a_b1.Names)), .c (.sl 5 (List.map NodeT.cells a_b1.Kids))])])) ()) <| pp (pp (And.intro @G.impl_compareValid.L3.eq_1 <| And.intro @G.impl_compareValid.L3.eq_2 <| And.intro @G.impl_compareValid.K4.eq_1 <| @G.impl_compareValid.K4.eq_2) ()) <| pp (pp (@weakX [] [(109, 10), (110, 11)] []) <| pp (@weakX [] [(111, 109), (112, 110)] []) <| pp (@weakX [] [(109, 111), (110, 112)] []) ()) <| ()
  exact drv
theorem F.impl_compareValid {n : Nat} : ∀ {a_a1 : NodeT} {a_b1 : NodeT} {r : Int}, G.impl_compareValid n a_a1 a_b1 = some r → APure Go.Proofs.Tryz.prog 65 [.agg [.c (.lit (.int .i64 a_a1.Kind)), .c (.lit (.int .i64 a_a1.Num)), .c (.str a_a1.Text), .c (.sl 1 (List.map cS a_a1.Names)), .c (.sl 5 (List.map NodeT.cells a_a1.Kids))], .agg [.c (.lit (.int .i64 a_b1.Kind)), .c (.lit (.int .i64 a_b1.Num)), .c (.str a_b1.Text), .c (.sl 1 (List.map cS a_b1.Names)), .c (.sl 5 (List.map NodeT.cells a_b1.Kids))]] (.one (.c (.lit (.int .i64 r)))) := F.impl_compareValid_n n
theorem F.impl_sameNode {n : Nat} : ∀ {a_a1 : NodeT} {a_b1 : NodeT} {r : Bool}, G.impl_sameNode n a_a1 a_b1 = some r → APure Go.Proofs.Tryz.prog 40 [.agg [.c (.lit (.int .i64 a_a1.Kind)), .c (.lit (.int .i64 a_a1.Num)), .c (.str a_a1.Text), .c (.sl 1 (List.map cS a_a1.Names)), .c (.sl 5 (List.map NodeT.cells a_a1.Kids))], .agg [.c (.lit (.int .i64 a_b1.Kind)), .c (.lit (.int .i64 a_b1.Num)), .c (.str a_b1.Text), .c (.sl 1 (List.map cS a_b1.Names)), .c (.sl 5 (List.map NodeT.cells a_b1.Kids))]] (.one (.c (.lit (.bool r)))) := by
  intro a_a1 a_b1 r h
  refine fun_pure K.impl_sameNode (ofK ?_)
  unfold C.impl_sameNode
  rcases n with _ | n <;> simp only [G.impl_sameNode, reduceCtorEq] at h
  obtain ⟨zc, zg, zk, zu, ze, zj, zt⟩ := pp (pp @F.impl_compareValid ()) <| pp () <| pp () <| pp () <| pp () <| pp () <| ()
  exact drv
theorem FZ.slices_Compact_string {n c : Nat} {s r : List Txt} (hc : s.length ≤ c) (h : G.slices_Compact_string n s = some r) :
    ACalls Go.Proofs.Tryz.prog 43 [.one (.sub 0 0 s.length (some c) 1)] [.dat 1 (List.map cS s)]
      (fun r1 b1 => r1 = .one (.own 1 r.length 1) ∧ b1 = [.dead, .dat 1 (List.map cS r)]) := by
  refine fun_sound K.slices_Compact_string (ofK ?_)
  unfold C.slices_Compact_string
  rcases n with _ | n <;> simp only [G.slices_Compact_string, reduceCtorEq] at h
  obtain ⟨zc, zg, zk, zu, ze, zj, zt⟩ := pp () <| pp () <| pp (pp (@lopX Nat _ (fun n x => G.slices_Compact_string.L1 n s x) r (fun x => ASt.of [(0, .v true (.one (.sub 0 0 s.length (some c) 1))), (3, .v true (.one (.c (.lit (.int .i64 (x : Int))))))] [(0, .dat 1 (List.map cS s))])) <|
    pp (@lopX (Nat × Nat × Nat × List Txt) _ (fun n x => G.slices_Compact_string.L2 n s.length x.1 x.2.1 x.2.2.1 x.2.2.2) r (fun x => ASt.of [(0, .v true (.one (.sub 0 0 s.length (some c) 1))), (3, .v true (.one (.c (.lit (.int .i64 (x.2.1 : Int)))))), (4, .v true (.one (.sub 0 x.1 (s.length - x.1) (some (c - x.1)) 1))), (5, .v true (.one (.c (.lit (.int .i64 (x.2.2.1 : Int))))))] [(0, .dat 1 (List.map cS x.2.2.2))])) ()) <|
    pp () <| pp (pp (And.intro @G.slices_Compact_string.L1.eq_1 <| And.intro @G.slices_Compact_string.L1.eq_2 <| And.intro @G.slices_Compact_string.L2.eq_1 @G.slices_Compact_string.L2.eq_2) ()) <| pp (pp (@weakX [] [(0, 0)] []) ()) <| pp (@retX [] [(0, 0), (1, 0)] []) ()
  exact drvS
theorem F.slices_Compact_string {n : Nat} : ∀ {a_s1 : List Txt} {r : List Txt}, G.slices_Compact_string n a_s1 = some r →
    ACalls Go.Proofs.Tryz.prog 43 [.one (.own 0 a_s1.length 1)] [.dat 1 (List.map cS a_s1)]
      (fun r1 b1 => r1 = .one (.own 1 r.length 1) ∧ b1 = [.dead, .dat 1 (List.map cS r)]) := by
  intro s r h
  exact caps_of (fun c hc => FZ.slices_Compact_string (by simpa using hc) h)
theorem F.slices_Grow_string {n : Nat} : ∀ {a_n1 : Int} {r : List Txt}, G.slices_Grow_string n a_n1 = some r →
    ACalls Go.Proofs.Tryz.prog 66 [.one (.nsl 1), .one (.c (.lit (.int .i64 a_n1)))] [] (fun r1 b1 => r1 = .one (.own 0 r.length 1) ∧ b1 = [.dat 1 (List.map cS r)]) := by
  intro a_n1 r h
  refine fun_sound K.slices_Grow_string (ofK ?_)
  unfold C.slices_Grow_string
  rcases n with _ | n <;> simp only [G.slices_Grow_string, reduceCtorEq] at h
  obtain ⟨zc, zg, zk, zu, ze, zj, zt⟩ := pp () <| pp () <| pp () <| pp (pp (@cutX Unit _ (fun n x => G.slices_Grow_string.K1 n a_n1) r (fun x => ASt.of [(0, .v true (.one (.nsl 1))), (1, .v true (.one (.c (.lit (.int .i64 a_n1)))))] [])) ()) <|
    pp (pp (And.intro @G.slices_Grow_string.K1.eq_1 @G.slices_Grow_string.K1.eq_2) ()) <| pp (pp (@weakX [] [] []) ()) <| pp (@retX [] [(0, 10)] []) <| pp (@retX [] [] [0]) ()
  exact drvT
theorem F.slices_Concat_string_o {n : Nat} : ∀ {a_slices1 : List (List Txt)} {r : List Txt}, G.slices_Concat_string n a_slices1 = some r → ACalls Go.Proofs.Tryz.prog 41 [.one (.c (.sl 1 (List.map (cL 1 cS) a_slices1)))] [] (fun r1 b1 => r1 = .one (.own 0 r.length 1) ∧ b1 = [.dat 1 (List.map cS r)]) := by
  intro a_slices1 r h
  refine fun_sound K.slices_Concat_string (ofK ?_)
  unfold C.slices_Concat_string
  rcases n with _ | n <;> simp only [G.slices_Concat_string, reduceCtorEq] at h
  obtain ⟨zc, zg, zk, zu, ze, zj, zt⟩ := pp () <| pp (pp (pp @F.slices_Grow_string (@cG [] [101])) ()) <| pp (pp (@lopX (Int × Int) _ (fun n x => G.slices_Concat_string.L1 n a_slices1 x.1 x.2) r (fun x => ASt.of [(0, .v true (.one (.c (.sl 1 (List.map (cL 1 cS) a_slices1))))), (3, .v true (.one (.c (.lit (.int .i64 x.1))))), (9, .v true (.one (.c (.sl 1 (List.map (cL 1 cS) a_slices1))))), (10, .v true (.one (.c (.lit (.int .i64 ((a_slices1.length : Nat) : Int)))))), (11, .v true (.one (.c (.lit (.int .i64 x.2)))))] [])) <| pp (@lopX (Int × List Txt) _ (fun n x => G.slices_Concat_string.L2 n a_slices1 x.1 x.2) r (fun x => ASt.of [(6, .v true (.one (.own 104 x.2.length 1))), (25, .v true (.one (.c (.sl 1 (List.map (cL 1 cS) a_slices1))))), (26, .v true (.one (.c (.lit (.int .i64 ((a_slices1.length : Nat) : Int)))))), (27, .v true (.one (.c (.lit (.int .i64 x.1)))))] [(104, .dat 1 (List.map cS x.2))])) ()) <| pp () <| pp (pp (And.intro @G.slices_Concat_string.L1.eq_1 <| And.intro @G.slices_Concat_string.L1.eq_2 <| And.intro @G.slices_Concat_string.L2.eq_1 <| @G.slices_Concat_string.L2.eq_2) ()) <| pp (pp (@weakX [] [] []) <| pp (@weakX [] [(104, 101)] []) <| pp (@weakX [] [(104, 10)] []) ()) <| (pp (@retX [] [(0, 104)] []) ())
  exact drv
theorem F.math_bits_Len {n : Nat} : ∀ {a_x1 : Int} {r : Int}, G.math_bits_Len n a_x1 = some r → APure Go.Proofs.Tryz.prog 68 [.one (.c (.lit (.int .u64 a_x1)))] (.one (.c (.lit (.int .i64 r)))) := by
  intro a_x1 r h
  refine fun_pure K.math_bits_Len (ofK ?_)
  unfold C.math_bits_Len
  rcases n with _ | n <;> simp only [G.math_bits_Len, reduceCtorEq] at h
  obtain ⟨zc, zg, zk, zu, ze, zj, zt⟩ := pp (pp @F.math_bits_Len64 ()) <| pp () <| pp () <| pp () <| pp () <| pp () <| ()
  exact drv
theorem F.slices_insertionSortOrdered_string {n : Nat} : ∀ {a_data1 : List Txt} {a_a1 : Int} {a_b1 : Int} {r : List Txt}, G.slices_insertionSortOrdered_string n a_data1 a_a1 a_b1 = some r → ACalls Go.Proofs.Tryz.prog 81 [.one (.own 0 a_data1.length 1), .one (.c (.lit (.int .i64 a_a1))), .one (.c (.lit (.int .i64 a_b1)))] [.dat 1 (List.map cS a_data1)] (fun r1 b1 => r1 = .tup [] ∧ b1 = [.dat 1 (List.map cS r)]) := by
  intro a_data1 a_a1 a_b1 r h
  refine fun_sound K.slices_insertionSortOrdered_string (ofK ?_)
  unfold C.slices_insertionSortOrdered_string
  rcases n with _ | n <;> simp only [G.slices_insertionSortOrdered_string, reduceCtorEq] at h
  obtain ⟨zc, zg, zk, zu, ze, zj, zt⟩ := pp (pp @F.cmp_Less_string ()) <| pp () <| pp (pp (@lopX (Int × List Txt) _ (fun n x => G.slices_insertionSortOrdered_string.L3 n a_a1 a_b1 x.1 x.2) r (fun x => ASt.of [(0, .v true (.one (.own 0 x.2.length 1))), (1, .v true (.one (.c (.lit (.int .i64 a_a1))))), (2, .v true (.one (.c (.lit (.int .i64 a_b1))))), (6, .v true (.one (.c (.lit (.int .i64 x.1)))))] [(0, .dat 1 (List.map cS x.2))])) <| pp (@lopX (Int × Int × List Txt) _ (fun n x => G.slices_insertionSortOrdered_string.L4 n a_a1 a_b1 x.1 x.2.1 x.2.2) r (fun x => ASt.of [(0, .v true (.one (.own 0 x.2.2.length 1))), (1, .v true (.one (.c (.lit (.int .i64 a_a1))))), (2, .v true (.one (.c (.lit (.int .i64 a_b1))))), (6, .v true (.one (.c (.lit (.int .i64 x.1))))), (7, .v true (.one (.c (.lit (.int .i64 x.2.1)))))] [(0, .dat 1 (List.map cS x.2.2))])) ()) <| pp () <| pp (pp (And.intro @G.slices_insertionSortOrdered_string.L3.eq_1 <| And.intro @G.slices_insertionSortOrdered_string.L3.eq_2 <| And.intro @G.slices_insertionSortOrdered_string.L4.eq_1 <| @G.slices_insertionSortOrdered_string.L4.eq_2) ()) <| pp (pp (@weakX [] [(0, 0)] []) ()) <| (pp (@retX [] [(0, 0)] []) ())
  exact drv
theorem F.slices_pdqsortOrdered_string_n : ∀ (n : Nat), ∀ {a_data1 : List Txt} {a_a1 : Int} {a_b1 : Int} {a_limit1 : Int} {r : List Txt}, G.slices_pdqsortOrdered_string n a_data1 a_a1 a_b1 a_limit1 = some r → ACalls Go.Proofs.Tryz.prog 67 [.one (.own 0 a_data1.length 1), .one (.c (.lit (.int .i64 a_a1))), .one (.c (.lit (.int .i64 a_b1))), .one (.c (.lit (.int .i64 a_limit1)))] [.dat 1 (List.map cS a_data1)] (fun r1 b1 => r1 = .tup [] ∧ b1 = [.dat 1 (List.map cS r)]) := by
  intro n
  induction n using Nat.strongRecOn with | _ n ih =>
  intro a_data1 a_a1 a_b1 a_limit1 r h
  refine fun_sound K.slices_pdqsortOrdered_string (ofK ?_)
  unfold C.slices_pdqsortOrdered_string
  rcases n with _ | n <;> simp only [G.slices_pdqsortOrdered_string, reduceCtorEq] at h
  obtain ⟨zc, zg, zk, zu, ze, zj, zt⟩ := pp () <| pp (pp (pp @F.slices_insertionSortOrdered_string (@cG [0] [])) ()) <| pp (pp (@lopX (Unit) _ (fun n x => G.slices_pdqsortOrdered_string.L2 n a_data1 a_a1 a_b1 a_limit1) r (fun x => ASt.of [(0, .v true (.one (.own 0 a_data1.length 1))), (1, .v true (.one (.c (.lit (.int .i64 a_a1))))), (2, .v true (.one (.c (.lit (.int .i64 a_b1))))), (3, .v true (.one (.c (.lit (.int .i64 a_limit1))))), (8, .v true (.one (.c (.lit (.bool true))))), (9, .v true (.one (.c (.lit (.bool true)))))] [(0, .dat 1 (List.map cS a_data1))])) ()) <| pp (pp (@cutX (Unit) _ (fun n x => G.slices_pdqsortOrdered_string.K3 n) r (fun x => ASt.of [(0, .v true (.one (.own 0 a_data1.length 1))), (1, .v true (.one (.c (.lit (.int .i64 a_a1))))), (2, .v true (.one (.c (.lit (.int .i64 a_b1))))), (3, .v true (.one (.c (.lit (.int .i64 a_limit1))))), (8, .v true (.one (.c (.lit (.bool true))))), (9, .v true (.one (.c (.lit (.bool true))))), (10, .v true (.one (.c (.lit (.int .i64 (IntKind.wrap .i64 (a_b1 - a_a1))))))), (35, .v true (.one (.c (.lit (.bool false)))))] [(0, .dat 1 (List.map cS a_data1))])) ()) <| pp (pp (And.intro @G.slices_pdqsortOrdered_string.L2.eq_1 <| And.intro @G.slices_pdqsortOrdered_string.L2.eq_2 <| And.intro @G.slices_pdqsortOrdered_string.K3.eq_1 <| @G.slices_pdqsortOrdered_string.K3.eq_2) ()) <| pp (pp (@weakX [] [(0, 0)] []) ()) <| (pp (@retX [] [(0, 0)] []) ())
  exact drv
theorem F.slices_pdqsortOrdered_string {n : Nat} : ∀ {a_data1 : List Txt} {a_a1 : Int} {a_b1 : Int} {a_limit1 : Int} {r : List Txt}, G.slices_pdqsortOrdered_string n a_data1 a_a1 a_b1 a_limit1 = some r → ACalls Go.Proofs.Tryz.prog 67 [.one (.own 0 a_data1.length 1), .one (.c (.lit (.int .i64 a_a1))), .one (.c (.lit (.int .i64 a_b1))), .one (.c (.lit (.int .i64 a_limit1)))] [.dat 1 (List.map cS a_data1)] (fun r1 b1 => r1 = .tup [] ∧ b1 = [.dat 1 (List.map cS r)]) := F.slices_pdqsortOrdered_string_n n
theorem F.slices_Sort_string {n : Nat} : ∀ {a_x1 : List Txt} {r : List Txt}, G.slices_Sort_string n a_x1 = some r → ACalls Go.Proofs.Tryz.prog 42 [.one (.own 0 a_x1.length 1)] [.dat 1 (List.map cS a_x1)] (fun r1 b1 => r1 = .tup [] ∧ b1 = [.dat 1 (List.map cS r)]) := by
  intro a_x1 r h
  refine fun_sound K.slices_Sort_string (ofK ?_)
  unfold C.slices_Sort_string
  rcases n with _ | n <;> simp only [G.slices_Sort_string, reduceCtorEq] at h
  obtain ⟨zc, zg, zk, zu, ze, zj, zt⟩ := pp (pp @F.math_bits_Len ()) <| pp (pp (pp @F.slices_pdqsortOrdered_string (@cG [0] [])) ()) <| pp () <| pp () <| pp () <| pp () <| (pp (@retX [] [(0, 0)] []) ())
  exact drv
theorem F.scc_impl_mergeChanges : ∀ (n : Nat), (∀ {a_base1 : NodeT} {a_a1 : NodeT} {a_b1 : NodeT} {r : NodeT × Bool}, G.impl_mergeChanges n a_base1 a_a1 a_b1 = some r → APure Go.Proofs.Tryz.prog 18 [.agg [.c (.lit (.int .i64 a_base1.Kind)), .c (.lit (.int .i64 a_base1.Num)), .c (.str a_base1.Text), .c (.sl 1 (List.map cS a_base1.Names)), .c (.sl 5 (List.map NodeT.cells a_base1.Kids))], .agg [.c (.lit (.int .i64 a_a1.Kind)), .c (.lit (.int .i64 a_a1.Num)), .c (.str a_a1.Text), .c (.sl 1 (List.map cS a_a1.Names)), .c (.sl 5 (List.map NodeT.cells a_a1.Kids))], .agg [.c (.lit (.int .i64 a_b1.Kind)), .c (.lit (.int .i64 a_b1.Num)), .c (.str a_b1.Text), .c (.sl 1 (List.map cS a_b1.Names)), .c (.sl 5 (List.map NodeT.cells a_b1.Kids))]] (.tup [(true, [.c (.lit (.int .i64 r.1.Kind)), .c (.lit (.int .i64 r.1.Num)), .c (.str r.1.Text), .c (.sl 1 (List.map cS r.1.Names)), .c (.sl 5 (List.map NodeT.cells r.1.Kids))]), (false, [.c (.lit (.bool r.2))])])) ∧ (∀ {a_base1 : NodeT} {a_a1 : NodeT} {a_b1 : NodeT} {a_name1 : Txt} {r : NodeT × Bool × Bool}, G.impl_mergeName n a_base1 a_a1 a_b1 a_name1 = some r → APure Go.Proofs.Tryz.prog 44 [.agg [.c (.lit (.int .i64 a_base1.Kind)), .c (.lit (.int .i64 a_base1.Num)), .c (.str a_base1.Text), .c (.sl 1 (List.map cS a_base1.Names)), .c (.sl 5 (List.map NodeT.cells a_base1.Kids))], .agg [.c (.lit (.int .i64 a_a1.Kind)), .c (.lit (.int .i64 a_a1.Num)), .c (.str a_a1.Text), .c (.sl 1 (List.map cS a_a1.Names)), .c (.sl 5 (List.map NodeT.cells a_a1.Kids))], .agg [.c (.lit (.int .i64 a_b1.Kind)), .c (.lit (.int .i64 a_b1.Num)), .c (.str a_b1.Text), .c (.sl 1 (List.map cS a_b1.Names)), .c (.sl 5 (List.map NodeT.cells a_b1.Kids))], .one (.c (.str a_name1))] (.tup [(true, [.c (.lit (.int .i64 r.1.Kind)), .c (.lit (.int .i64 r.1.Num)), .c (.str r.1.Text), .c (.sl 1 (List.map cS r.1.Names)), .c (.sl 5 (List.map NodeT.cells r.1.Kids))]), (false, [.c (.lit (.bool r.2.1))]), (false, [.c (.lit (.bool r.2.2))])])) := by
  intro n
  induction n using Nat.strongRecOn with | _ n ih =>
  refine ⟨?_, ?_⟩
  · intro a_base1 a_a1 a_b1 r h
    refine fun_pure K.impl_mergeChanges (ofK ?_)
    unfold C.impl_mergeChanges
    rcases n with _ | n <;> simp only [G.impl_mergeChanges, reduceCtorEq] at h
    obtain ⟨zc, zg, zk, zu, ze, zj, zt⟩ := pp (pp ((ihR ih)) <| pp @F.impl_sameNode <| pp @F.impl_copyNode ()) <| pp (pp (pp @F.slices_Concat_string_o (@cH [] [105])) <| pp (pp @F.slices_Sort_string (@cG [105] [])) <| pp (pp @F.slices_Compact_string (@cG [105] [106])) <| pp (pp @F.impl_putName (@cG [131, 133, 134] [135, 136])) ()) <| pp (pp (@lopX (List Txt × Int × Int × Int × Txt × List Txt × List NodeT) _ (fun n x => G.impl_mergeChanges.L2 n a_base1 a_a1 a_b1 x.1 x.2.1 x.2.2.1 x.2.2.2.1 x.2.2.2.2.1 x.2.2.2.2.2.1 x.2.2.2.2.2.2) r (fun x => ASt.of [(3, .v true (.one (.ptr 127 0))), (4, .v true (.one (.ptr 128 0))), (5, .v true (.one (.ptr 129 0))), (6, .v true (.one (.ptr 130 0))), (9, .v true (.one (.ptr 131 0))), (57, .v true (.one (.own 132 x.1.length 1))), (58, .v true (.one (.c (.lit (.int .i64 ((x.1.length : Nat) : Int)))))), (59, .v true (.one (.c (.lit (.int .i64 x.2.1)))))] [(127, .var [.c (.lit (.int .i64 a_base1.Kind)), .c (.lit (.int .i64 a_base1.Num)), .c (.str a_base1.Text), .c (.sl 1 (List.map cS a_base1.Names)), .c (.sl 5 (List.map NodeT.cells a_base1.Kids))]), (128, .var [.c (.lit (.int .i64 a_a1.Kind)), .c (.lit (.int .i64 a_a1.Num)), .c (.str a_a1.Text), .c (.sl 1 (List.map cS a_a1.Names)), .c (.sl 5 (List.map NodeT.cells a_a1.Kids))]), (129, .var [.c (.lit (.int .i64 a_b1.Kind)), .c (.lit (.int .i64 a_b1.Num)), .c (.str a_b1.Text), .c (.sl 1 (List.map cS a_b1.Names)), .c (.sl 5 (List.map NodeT.cells a_b1.Kids))]), (130, .var [.c (.lit (.int .i64 0)), .c (.lit (.int .i64 0)), .c (.str []), .nsl 1, .nsl 5]), (131, .var [.c (.lit (.int .i64 x.2.2.1)), .c (.lit (.int .i64 x.2.2.2.1)), .c (.str x.2.2.2.2.1), .own 133 x.2.2.2.2.2.1.length 1, .own 134 x.2.2.2.2.2.2.length 5]), (132, .dat 1 (List.map cS x.1)), (133, .dat 1 (List.map cS x.2.2.2.2.2.1)), (134, .dat 5 (List.map NodeT.cells x.2.2.2.2.2.2))])) ()) <| pp (pp (@cutX (Unit) _ (fun n x => G.impl_mergeChanges.K1 n a_base1 a_a1 a_b1) r (fun x => ASt.of [(3, .v true (.one (.ptr 101 0))), (4, .v true (.one (.ptr 102 0))), (5, .v true (.one (.ptr 103 0))), (6, .v true (.one (.ptr 104 0))), (32, .v true (.one (.c (.lit (.bool false)))))] [(101, .var [.c (.lit (.int .i64 a_base1.Kind)), .c (.lit (.int .i64 a_base1.Num)), .c (.str a_base1.Text), .c (.sl 1 (List.map cS a_base1.Names)), .c (.sl 5 (List.map NodeT.cells a_base1.Kids))]), (102, .var [.c (.lit (.int .i64 a_a1.Kind)), .c (.lit (.int .i64 a_a1.Num)), .c (.str a_a1.Text), .c (.sl 1 (List.map cS a_a1.Names)), .c (.sl 5 (List.map NodeT.cells a_a1.Kids))]), (103, .var [.c (.lit (.int .i64 a_b1.Kind)), .c (.lit (.int .i64 a_b1.Num)), .c (.str a_b1.Text), .c (.sl 1 (List.map cS a_b1.Names)), .c (.sl 5 (List.map NodeT.cells a_b1.Kids))]), (104, .var [.c (.lit (.int .i64 0)), .c (.lit (.int .i64 0)), .c (.str []), .nsl 1, .nsl 5])])) ()) <| pp (pp (And.intro @G.impl_mergeChanges.K1.eq_1 <| And.intro @G.impl_mergeChanges.K1.eq_2 <| And.intro @G.impl_mergeChanges.L2.eq_1 <| @G.impl_mergeChanges.L2.eq_2) ()) <| pp (pp (@weakX [] [(101, 10), (102, 11), (103, 12), (104, 13)] []) <| pp (@weakX [] [(127, 101), (128, 102), (129, 103), (130, 104), (131, 15), (132, 106)] [133, 134]) <| pp (@weakX [] [(127, 127), (128, 128), (129, 129), (130, 130), (131, 131), (132, 132), (133, 135), (134, 136)] []) <| pp (@weakX [] [(127, 127), (128, 128), (129, 129), (130, 130), (131, 131), (132, 132), (133, 133), (134, 134)] []) ()) <| ()
    exact drv
  · intro a_base1 a_a1 a_b1 a_name1 r h
    refine fun_pure K.impl_mergeName (ofK ?_)
    unfold C.impl_mergeName
    rcases n with _ | n <;> simp only [G.impl_mergeName, reduceCtorEq] at h
    obtain ⟨zc, zg, zk, zu, ze, zj, zt⟩ := pp (pp ((ihL ih)) <| pp @F.impl_nameIn <| pp @F.impl_copyNode <| pp @F.impl_sameNode ()) <| pp () <| pp () <| pp (pp (@cutX ((NodeT × Bool) × Int × Int × Txt × List Txt × List NodeT) _ (fun n x => G.impl_mergeName.K1 n x.1 x.2.1 x.2.2.1 x.2.2.2.1 x.2.2.2.2.1 x.2.2.2.2.2) r (fun x => ASt.of [(8, .v true (.one (.ptr 101 0))), (11, .v true (.one (.ptr 102 0))), (12, .v true (.one (.c (.lit (.bool x.1.2))))), (13, .v true (.one (.ptr 103 0)))] [(101, .var [.c (.lit (.int .i64 0)), .c (.lit (.int .i64 0)), .c (.str []), .nsl 1, .nsl 5]), (102, .var [.c (.lit (.int .i64 x.1.1.Kind)), .c (.lit (.int .i64 x.1.1.Num)), .c (.str x.1.1.Text), .c (.sl 1 (List.map cS x.1.1.Names)), .c (.sl 5 (List.map NodeT.cells x.1.1.Kids))]), (103, .var [.c (.lit (.int .i64 x.2.1)), .c (.lit (.int .i64 x.2.2.1)), .c (.str x.2.2.2.1), .c (.sl 1 (List.map cS x.2.2.2.2.1)), .c (.sl 5 (List.map NodeT.cells x.2.2.2.2.2))])])) ()) <| pp (pp (And.intro @G.impl_mergeName.K1.eq_1 <| @G.impl_mergeName.K1.eq_2) ()) <| pp (pp (@weakX [] [(101, 13), (102, 14), (103, 15)] []) ()) <| ()
    exact drv
theorem F.impl_mergeChanges {n : Nat} : ∀ {a_base1 : NodeT} {a_a1 : NodeT} {a_b1 : NodeT} {r : NodeT × Bool}, G.impl_mergeChanges n a_base1 a_a1 a_b1 = some r → APure Go.Proofs.Tryz.prog 18 [.agg [.c (.lit (.int .i64 a_base1.Kind)), .c (.lit (.int .i64 a_base1.Num)), .c (.str a_base1.Text), .c (.sl 1 (List.map cS a_base1.Names)), .c (.sl 5 (List.map NodeT.cells a_base1.Kids))], .agg [.c (.lit (.int .i64 a_a1.Kind)), .c (.lit (.int .i64 a_a1.Num)), .c (.str a_a1.Text), .c (.sl 1 (List.map cS a_a1.Names)), .c (.sl 5 (List.map NodeT.cells a_a1.Kids))], .agg [.c (.lit (.int .i64 a_b1.Kind)), .c (.lit (.int .i64 a_b1.Num)), .c (.str a_b1.Text), .c (.sl 1 (List.map cS a_b1.Names)), .c (.sl 5 (List.map NodeT.cells a_b1.Kids))]] (.tup [(true, [.c (.lit (.int .i64 r.1.Kind)), .c (.lit (.int .i64 r.1.Num)), .c (.str r.1.Text), .c (.sl 1 (List.map cS r.1.Names)), .c (.sl 5 (List.map NodeT.cells r.1.Kids))]), (false, [.c (.lit (.bool r.2))])]) := (F.scc_impl_mergeChanges n).1
theorem F.impl_MergeThree {n : Nat} : ∀ {a_base1 : NodeT} {a_a1 : NodeT} {a_b1 : NodeT} {r : NodeT × Bool}, G.impl_MergeThree n a_base1 a_a1 a_b1 = some r → APure Go.Proofs.Tryz.prog 5 [.agg [.c (.lit (.int .i64 a_base1.Kind)), .c (.lit (.int .i64 a_base1.Num)), .c (.str a_base1.Text), .c (.sl 1 (List.map cS a_base1.Names)), .c (.sl 5 (List.map NodeT.cells a_base1.Kids))], .agg [.c (.lit (.int .i64 a_a1.Kind)), .c (.lit (.int .i64 a_a1.Num)), .c (.str a_a1.Text), .c (.sl 1 (List.map cS a_a1.Names)), .c (.sl 5 (List.map NodeT.cells a_a1.Kids))], .agg [.c (.lit (.int .i64 a_b1.Kind)), .c (.lit (.int .i64 a_b1.Num)), .c (.str a_b1.Text), .c (.sl 1 (List.map cS a_b1.Names)), .c (.sl 5 (List.map NodeT.cells a_b1.Kids))]] (.tup [(true, [.c (.lit (.int .i64 r.1.Kind)), .c (.lit (.int .i64 r.1.Num)), .c (.str r.1.Text), .c (.sl 1 (List.map cS r.1.Names)), .c (.sl 5 (List.map NodeT.cells r.1.Kids))]), (false, [.c (.lit (.bool r.2))])]) := by
  intro a_base1 a_a1 a_b1 r h
  refine fun_pure K.impl_MergeThree (ofK ?_)
  unfold C.impl_MergeThree
  rcases n with _ | n <;> simp only [G.impl_MergeThree, reduceCtorEq] at h
  obtain ⟨zc, zg, zk, zu, ze, zj, zt⟩ := pp (pp @F.impl_ValidNode <| pp @F.impl_mergeChanges <| pp @F.impl_checked ()) <| pp () <| pp () <| pp () <| pp () <| pp () <| ()
  exact drv
theorem F.laws_equalTexts {n : Nat} : ∀ {a_a1 : List Txt} {a_b1 : List Txt} {r : Bool}, G.laws_equalTexts n a_a1 a_b1 = some r → APure Go.Proofs.Tryz.prog 21 [.one (.c (.sl 1 (List.map cS a_a1))), .one (.c (.sl 1 (List.map cS a_b1)))] (.one (.c (.lit (.bool r)))) := by
  intro a_a1 a_b1 r h
  refine fun_pure K.laws_equalTexts (ofK ?_)
  unfold C.laws_equalTexts
  rcases n with _ | n <;> simp only [G.laws_equalTexts, reduceCtorEq] at h
  obtain ⟨zc, zg, zk, zu, ze, zj, zt⟩ := pp () <| pp () <| pp (pp (@lopX (Int) _ (fun n x => G.laws_equalTexts.L1 n a_a1 a_b1 x) r (fun x => ASt.of [(0, .v true (.one (.c (.sl 1 (List.map cS a_a1))))), (1, .v true (.one (.c (.sl 1 (List.map cS a_b1))))), (5, .v true (.one (.c (.lit (.int .i64 x)))))] [])) ()) <| pp () <| pp (pp (And.intro @G.laws_equalTexts.L1.eq_1 <| @G.laws_equalTexts.L1.eq_2) ()) <| pp (pp (@weakX [] [] []) ()) <| ()
  exact drv
theorem F.scc_laws_equalNode : ∀ (n : Nat), (∀ {a_a1 : NodeT} {a_b1 : NodeT} {r : Bool}, G.laws_equalNode n a_a1 a_b1 = some r → APure Go.Proofs.Tryz.prog 7 [.agg [.c (.lit (.int .i64 a_a1.Kind)), .c (.lit (.int .i64 a_a1.Num)), .c (.str a_a1.Text), .c (.sl 1 (List.map cS a_a1.Names)), .c (.sl 5 (List.map NodeT.cells a_a1.Kids))], .agg [.c (.lit (.int .i64 a_b1.Kind)), .c (.lit (.int .i64 a_b1.Num)), .c (.str a_b1.Text), .c (.sl 1 (List.map cS a_b1.Names)), .c (.sl 5 (List.map NodeT.cells a_b1.Kids))]] (.one (.c (.lit (.bool r))))) ∧ (∀ {a_a1 : List NodeT} {a_b1 : List NodeT} {r : Bool}, G.laws_equalNodes n a_a1 a_b1 = some r → APure Go.Proofs.Tryz.prog 22 [.one (.c (.sl 5 (List.map NodeT.cells a_a1))), .one (.c (.sl 5 (List.map NodeT.cells a_b1)))] (.one (.c (.lit (.bool r))))) := by
  intro n
  induction n using Nat.strongRecOn with | _ n ih =>
  refine ⟨?_, ?_⟩
  · intro a_a1 a_b1 r h
    refine fun_pure K.laws_equalNode (ofK ?_)
    unfold C.laws_equalNode
    rcases n with _ | n <;> simp only [G.laws_equalNode, reduceCtorEq] at h
    obtain ⟨zc, zg, zk, zu, ze, zj, zt⟩ := pp (pp ((ihR ih)) <| pp @F.laws_equalTexts ()) <| pp () <| pp () <| pp () <| pp () <| pp () <| ()
    exact drv
  · intro a_a1 a_b1 r h
    refine fun_pure K.laws_equalNodes (ofK ?_)
    unfold C.laws_equalNodes
    rcases n with _ | n <;> simp only [G.laws_equalNodes, reduceCtorEq] at h
    obtain ⟨zc, zg, zk, zu, ze, zj, zt⟩ := pp (pp ((ihL ih)) ()) <| pp () <| pp (pp (@lopX (Int) _ (fun n x => G.laws_equalNodes.L1 n a_a1 a_b1 x) r (fun x => ASt.of [(0, .v true (.one (.c (.sl 5 (List.map NodeT.cells a_a1))))), (1, .v true (.one (.c (.sl 5 (List.map NodeT.cells a_b1))))), (5, .v true (.one (.c (.lit (.int .i64 x)))))] [])) ()) <| pp () <| pp (pp (And.intro @G.laws_equalNodes.L1.eq_1 <| @G.laws_equalNodes.L1.eq_2) ()) <| pp (pp (@weakX [] [] []) ()) <| ()
    exact drv
theorem F.laws_equalNode {n : Nat} : ∀ {a_a1 : NodeT} {a_b1 : NodeT} {r : Bool}, G.laws_equalNode n a_a1 a_b1 = some r → APure Go.Proofs.Tryz.prog 7 [.agg [.c (.lit (.int .i64 a_a1.Kind)), .c (.lit (.int .i64 a_a1.Num)), .c (.str a_a1.Text), .c (.sl 1 (List.map cS a_a1.Names)), .c (.sl 5 (List.map NodeT.cells a_a1.Kids))], .agg [.c (.lit (.int .i64 a_b1.Kind)), .c (.lit (.int .i64 a_b1.Num)), .c (.str a_b1.Text), .c (.sl 1 (List.map cS a_b1.Names)), .c (.sl 5 (List.map NodeT.cells a_b1.Kids))]] (.one (.c (.lit (.bool r)))) := (F.scc_laws_equalNode n).1
theorem F.laws_isName {n : Nat} : ∀ {a_list1 : List Txt} {a_s1 : Txt} {r : Bool}, G.laws_isName n a_list1 a_s1 = some r → APure Go.Proofs.Tryz.prog 9 [.one (.c (.sl 1 (List.map cS a_list1))), .one (.c (.str a_s1))] (.one (.c (.lit (.bool r)))) := by
  intro a_list1 a_s1 r h
  refine fun_pure K.laws_isName (ofK ?_)
  unfold C.laws_isName
  rcases n with _ | n <;> simp only [G.laws_isName, reduceCtorEq] at h
  obtain ⟨zc, zg, zk, zu, ze, zj, zt⟩ := pp () <| pp () <| pp (pp (@lopX (Int) _ (fun n x => G.laws_isName.L1 n a_list1 a_s1 x) r (fun x => ASt.of [(0, .v true (.one (.c (.sl 1 (List.map cS a_list1))))), (1, .v true (.one (.c (.str a_s1)))), (5, .v true (.one (.c (.lit (.int .i64 x)))))] [])) ()) <| pp () <| pp (pp (And.intro @G.laws_isName.L1.eq_1 <| @G.laws_isName.L1.eq_2) ()) <| pp (pp (@weakX [] [] []) ()) <| ()
  exact drv
theorem F.laws_number {n : Nat} : ∀ {a_n1 : Int} {r : NodeT}, G.laws_number n a_n1 = some r → APure Go.Proofs.Tryz.prog 11 [.one (.c (.lit (.int .i64 a_n1)))] (.agg [.c (.lit (.int .i64 r.Kind)), .c (.lit (.int .i64 r.Num)), .c (.str r.Text), .c (.sl 1 (List.map cS r.Names)), .c (.sl 5 (List.map NodeT.cells r.Kids))]) := by
  intro a_n1 r h
  refine fun_pure K.laws_number (ofK ?_)
  unfold C.laws_number
  rcases n with _ | n <;> simp only [G.laws_number, reduceCtorEq] at h
  obtain ⟨zc, zg, zk, zu, ze, zj, zt⟩ := pp () <| pp () <| pp () <| pp () <| pp () <| pp () <| ()
  exact drv
theorem F.spec_copyNode_n : ∀ (n : Nat), ∀ {a_n1 : NodeT} {r : NodeT}, G.spec_copyNode n a_n1 = some r → APure Go.Proofs.Tryz.prog 31 [.agg [.c (.lit (.int .i64 a_n1.Kind)), .c (.lit (.int .i64 a_n1.Num)), .c (.str a_n1.Text), .c (.sl 1 (List.map cS a_n1.Names)), .c (.sl 5 (List.map NodeT.cells a_n1.Kids))]] (.agg [.c (.lit (.int .i64 r.Kind)), .c (.lit (.int .i64 r.Num)), .c (.str r.Text), .c (.sl 1 (List.map cS r.Names)), .c (.sl 5 (List.map NodeT.cells r.Kids))]) := by
  intro n
  induction n using Nat.strongRecOn with | _ n ih =>
  intro a_n1 r h
  refine fun_pure K.spec_copyNode (ofK ?_)
  unfold C.spec_copyNode
  rcases n with _ | n <;> simp only [G.spec_copyNode, reduceCtorEq] at h
  obtain ⟨zc, zg, zk, zu, ze, zj, zt⟩ := pp (pp ih ()) <| pp () <| pp (pp (@lopX (Int × List NodeT) _ (fun n x => G.spec_copyNode.L1 n a_n1 x.1 x.2) r (fun x => ASt.of [(1, .v true (.one (.ptr 107 0))), (2, .v true (.one (.ptr 108 0))), (3, .v true (.one (.own 109 x.2.length 5))), (4, .v true (.one (.c (.lit (.int .i64 x.1)))))] [(107, .var [.c (.lit (.int .i64 a_n1.Kind)), .c (.lit (.int .i64 a_n1.Num)), .c (.str a_n1.Text), .c (.sl 1 (List.map cS a_n1.Names)), .c (.sl 5 (List.map NodeT.cells a_n1.Kids))]), (108, .var [.c (.lit (.int .i64 0)), .c (.lit (.int .i64 0)), .c (.str []), .nsl 1, .nsl 5]), (109, .dat 5 (List.map NodeT.cells x.2))])) ()) <| pp () <| pp (pp (And.intro @G.spec_copyNode.L1.eq_1 <| @G.spec_copyNode.L1.eq_2) ()) <| pp (pp (@weakX [] [(107, 10), (108, 11), (109, 12)] []) <| pp (@weakX [] [(107, 107), (108, 108), (109, 14)] []) ()) <| ()
  exact drv
theorem F.spec_copyNode {n : Nat} : ∀ {a_n1 : NodeT} {r : NodeT}, G.spec_copyNode n a_n1 = some r → APure Go.Proofs.Tryz.prog 31 [.agg [.c (.lit (.int .i64 a_n1.Kind)), .c (.lit (.int .i64 a_n1.Num)), .c (.str a_n1.Text), .c (.sl 1 (List.map cS a_n1.Names)), .c (.sl 5 (List.map NodeT.cells a_n1.Kids))]] (.agg [.c (.lit (.int .i64 r.Kind)), .c (.lit (.int .i64 r.Num)), .c (.str r.Text), .c (.sl 1 (List.map cS r.Names)), .c (.sl 5 (List.map NodeT.cells r.Kids))]) := F.spec_copyNode_n n
theorem F.spec_copyNode_o {n : Nat} : ∀ {a_n1 : NodeT} {r : NodeT}, G.spec_copyNode n a_n1 = some r → ACalls Go.Proofs.Tryz.prog 31 [.agg [.c (.lit (.int .i64 a_n1.Kind)), .c (.lit (.int .i64 a_n1.Num)), .c (.str a_n1.Text), .c (.sl 1 (List.map cS a_n1.Names)), .c (.sl 5 (List.map NodeT.cells a_n1.Kids))]] [] (fun r1 b1 => r1 = .agg [.c (.lit (.int .i64 r.Kind)), .c (.lit (.int .i64 r.Num)), .c (.str r.Text), .own 0 r.Names.length 1, .own 1 r.Kids.length 5] ∧ b1 = [.dat 1 (List.map cS r.Names), .dat 5 (List.map NodeT.cells r.Kids)]) := by
  intro a_n1 r h
  refine fun_sound K.spec_copyNode (ofK ?_)
  unfold C.spec_copyNode
  rcases n with _ | n <;> simp only [G.spec_copyNode, reduceCtorEq] at h
  obtain ⟨zc, zg, zk, zu, ze, zj, zt⟩ := pp (pp @F.spec_copyNode ()) <| pp () <| pp (pp (@lopX (Int × List NodeT) _ (fun n x => G.spec_copyNode.L1 n a_n1 x.1 x.2) r (fun x => ASt.of [(1, .v true (.one (.ptr 107 0))), (2, .v true (.one (.ptr 108 0))), (3, .v true (.one (.own 109 x.2.length 5))), (4, .v true (.one (.c (.lit (.int .i64 x.1)))))] [(107, .var [.c (.lit (.int .i64 a_n1.Kind)), .c (.lit (.int .i64 a_n1.Num)), .c (.str a_n1.Text), .c (.sl 1 (List.map cS a_n1.Names)), .c (.sl 5 (List.map NodeT.cells a_n1.Kids))]), (108, .var [.c (.lit (.int .i64 0)), .c (.lit (.int .i64 0)), .c (.str []), .nsl 1, .nsl 5]), (109, .dat 5 (List.map NodeT.cells x.2))])) ()) <| pp () <| pp (pp (And.intro @G.spec_copyNode.L1.eq_1 <| @G.spec_copyNode.L1.eq_2) ()) <| pp (pp (@weakX [] [(107, 10), (108, 11), (109, 12)] []) <| pp (@weakX [] [(107, 107), (108, 108), (109, 14)] []) ()) <| (pp (@retX [] [(0, 16), (1, 109)] []) ())
  exact drv
theorem F.spec_reader_pick {n : Nat} : ∀ {p_r1 : ReaderT} {a_n1 : Int} {r : Int × ReaderT}, G.spec_reader_pick n p_r1 a_n1 = some r → ACalls Go.Proofs.Tryz.prog 16 [.one (.ptr 0 0), .one (.c (.lit (.int .i64 a_n1)))] [.var [.c (.sl 1 (List.map cU p_r1.b)), .c (.lit (.int .i64 p_r1.p))]] (fun r1 b1 => r1 = .one (.c (.lit (.int .i64 r.1))) ∧ b1 = [.var [.c (.sl 1 (List.map cU r.2.b)), .c (.lit (.int .i64 r.2.p))]]) := by
  intro p_r1 a_n1 r h
  refine fun_sound K.spec_reader_pick (ofK ?_)
  unfold C.spec_reader_pick
  rcases n with _ | n <;> simp only [G.spec_reader_pick, reduceCtorEq] at h
  obtain ⟨zc, zg, zk, zu, ze, zj, zt⟩ := pp () <| pp () <| pp () <| pp () <| pp () <| pp () <| (pp (@retX [] [(0, 0)] []) ())
  exact drv
theorem F.spec_reader_one {n : Nat} : ∀ {p_r1 : ReaderT} {a_list1 : List Int} {r : Int × ReaderT}, G.spec_reader_one n p_r1 a_list1 = some r → ACalls Go.Proofs.Tryz.prog 30 [.one (.ptr 0 0), .one (.c (.sl 1 (List.map cI a_list1)))] [.var [.c (.sl 1 (List.map cU p_r1.b)), .c (.lit (.int .i64 p_r1.p))]] (fun r1 b1 => r1 = .one (.c (.lit (.int .i64 r.1))) ∧ b1 = [.var [.c (.sl 1 (List.map cU r.2.b)), .c (.lit (.int .i64 r.2.p))]]) := by
  intro p_r1 a_list1 r h
  refine fun_sound K.spec_reader_one (ofK ?_)
  unfold C.spec_reader_one
  rcases n with _ | n <;> simp only [G.spec_reader_one, reduceCtorEq] at h
  obtain ⟨zc, zg, zk, zu, ze, zj, zt⟩ := pp () <| pp (pp (pp @F.spec_reader_pick (@cG [0] [])) ()) <| pp () <| pp () <| pp () <| pp () <| (pp (@retX [] [(0, 0)] []) ())
  exact drv
theorem F.spec_decimal_n : ∀ (n : Nat), ∀ {a_n1 : Int} {r : Txt}, G.spec_decimal n a_n1 = some r → APure Go.Proofs.Tryz.prog 60 [.one (.c (.lit (.int .i64 a_n1)))] (.one (.c (.str r))) := by
  intro n
  induction n using Nat.strongRecOn with | _ n ih =>
  intro a_n1 r h
  refine fun_pure K.spec_decimal (ofK ?_)
  unfold C.spec_decimal
  rcases n with _ | n <;> simp only [G.spec_decimal, reduceCtorEq] at h
  obtain ⟨zc, zg, zk, zu, ze, zj, zt⟩ := pp (pp ih ()) <| pp () <| pp () <| pp () <| pp () <| pp () <| ()
  exact drv
theorem F.spec_decimal {n : Nat} : ∀ {a_n1 : Int} {r : Txt}, G.spec_decimal n a_n1 = some r → APure Go.Proofs.Tryz.prog 60 [.one (.c (.lit (.int .i64 a_n1)))] (.one (.c (.str r))) := F.spec_decimal_n n
theorem F.spec_place {n : Nat} : ∀ {a_n1 : NodeT} {a_step1 : Txt} {r : Int}, G.spec_place n a_n1 a_step1 = some r → APure Go.Proofs.Tryz.prog 62 [.agg [.c (.lit (.int .i64 a_n1.Kind)), .c (.lit (.int .i64 a_n1.Num)), .c (.str a_n1.Text), .c (.sl 1 (List.map cS a_n1.Names)), .c (.sl 5 (List.map NodeT.cells a_n1.Kids))], .one (.c (.str a_step1))] (.one (.c (.lit (.int .i64 r)))) := by
  intro a_n1 a_step1 r h
  refine fun_pure K.spec_place (ofK ?_)
  unfold C.spec_place
  rcases n with _ | n <;> simp only [G.spec_place, reduceCtorEq] at h
  obtain ⟨zc, zg, zk, zu, ze, zj, zt⟩ := pp (pp @F.spec_decimal ()) <| pp () <| pp (pp (@lopX (Int) _ (fun n x => G.spec_place.L1 n a_n1 a_step1 x) r (fun x => ASt.of [(1, .v true (.one (.c (.str a_step1)))), (2, .v true (.one (.ptr 103 0))), (5, .v true (.one (.c (.lit (.int .i64 x)))))] [(103, .var [.c (.lit (.int .i64 a_n1.Kind)), .c (.lit (.int .i64 a_n1.Num)), .c (.str a_n1.Text), .c (.sl 1 (List.map cS a_n1.Names)), .c (.sl 5 (List.map NodeT.cells a_n1.Kids))])])) ()) <| pp () <| pp (pp (And.intro @G.spec_place.L1.eq_1 <| @G.spec_place.L1.eq_2) ()) <| pp (pp (@weakX [] [(103, 10)] []) <| pp (@weakX [] [(103, 103)] []) ()) <| ()
  exact drv
theorem F.spec_slot {n : Nat} : ∀ {a_n1 : NodeT} {a_step1 : Txt} {r : Int × Bool}, G.spec_slot n a_n1 a_step1 = some r → APure Go.Proofs.Tryz.prog 73 [.agg [.c (.lit (.int .i64 a_n1.Kind)), .c (.lit (.int .i64 a_n1.Num)), .c (.str a_n1.Text), .c (.sl 1 (List.map cS a_n1.Names)), .c (.sl 5 (List.map NodeT.cells a_n1.Kids))], .one (.c (.str a_step1))] (.tup [(false, [.c (.lit (.int .i64 r.1))]), (false, [.c (.lit (.bool r.2))])]) := by
  intro a_n1 a_step1 r h
  refine fun_pure K.spec_slot (ofK ?_)
  unfold C.spec_slot
  rcases n with _ | n <;> simp only [G.spec_slot, reduceCtorEq] at h
  obtain ⟨zc, zg, zk, zu, ze, zj, zt⟩ := pp (pp @F.spec_place <| pp @F.spec_decimal ()) <| pp () <| pp (pp (@lopX (Int) _ (fun n x => G.spec_slot.L1 n a_n1 a_step1 x) r (fun x => ASt.of [(1, .v true (.one (.c (.str a_step1)))), (2, .v true (.one (.ptr 103 0))), (7, .v true (.one (.c (.lit (.int .i64 x)))))] [(103, .var [.c (.lit (.int .i64 a_n1.Kind)), .c (.lit (.int .i64 a_n1.Num)), .c (.str a_n1.Text), .c (.sl 1 (List.map cS a_n1.Names)), .c (.sl 5 (List.map NodeT.cells a_n1.Kids))])])) <| pp (@lopX (Int) _ (fun n x => G.spec_slot.L2 n a_n1 a_step1 x) r (fun x => ASt.of [(1, .v true (.one (.c (.str a_step1)))), (2, .v true (.one (.ptr 106 0))), (7, .v true (.one (.c (.lit (.int .i64 x)))))] [(106, .var [.c (.lit (.int .i64 a_n1.Kind)), .c (.lit (.int .i64 a_n1.Num)), .c (.str a_n1.Text), .c (.sl 1 (List.map cS a_n1.Names)), .c (.sl 5 (List.map NodeT.cells a_n1.Kids))])])) ()) <| pp () <| pp (pp (And.intro @G.spec_slot.L1.eq_1 <| And.intro @G.spec_slot.L1.eq_2 <| And.intro @G.spec_slot.L2.eq_1 <| @G.spec_slot.L2.eq_2) ()) <| pp (pp (@weakX [] [(103, 10)] []) <| pp (@weakX [] [(103, 103)] []) <| pp (@weakX [] [(106, 10)] []) <| pp (@weakX [] [(106, 106)] []) ()) <| ()
  exact drv
theorem F.spec_withKid {n : Nat} : ∀ {a_n1 : NodeT} {a_k1 : Int} {a_kid1 : NodeT} {r : NodeT}, G.spec_withKid n a_n1 a_k1 a_kid1 = some r → APure Go.Proofs.Tryz.prog 64 [.agg [.c (.lit (.int .i64 a_n1.Kind)), .c (.lit (.int .i64 a_n1.Num)), .c (.str a_n1.Text), .c (.sl 1 (List.map cS a_n1.Names)), .c (.sl 5 (List.map NodeT.cells a_n1.Kids))], .one (.c (.lit (.int .i64 a_k1))), .agg [.c (.lit (.int .i64 a_kid1.Kind)), .c (.lit (.int .i64 a_kid1.Num)), .c (.str a_kid1.Text), .c (.sl 1 (List.map cS a_kid1.Names)), .c (.sl 5 (List.map NodeT.cells a_kid1.Kids))]] (.agg [.c (.lit (.int .i64 r.Kind)), .c (.lit (.int .i64 r.Num)), .c (.str r.Text), .c (.sl 1 (List.map cS r.Names)), .c (.sl 5 (List.map NodeT.cells r.Kids))]) := by
  intro a_n1 a_k1 a_kid1 r h
  refine fun_pure K.spec_withKid (ofK ?_)
  unfold C.spec_withKid
  rcases n with _ | n <;> simp only [G.spec_withKid, reduceCtorEq] at h
  obtain ⟨zc, zg, zk, zu, ze, zj, zt⟩ := pp () <| pp (pp (pp @F.spec_copyNode_o (@cG [] [101, 102])) <| pp (pp @F.spec_copyNode_o (@cG [] [103, 104])) ()) <| pp () <| pp () <| pp () <| pp () <| ()
  exact drv
theorem F.spec_withKid_o {n : Nat} : ∀ {a_n1 : NodeT} {a_k1 : Int} {a_kid1 : NodeT} {r : NodeT}, G.spec_withKid n a_n1 a_k1 a_kid1 = some r → ACalls Go.Proofs.Tryz.prog 64 [.agg [.c (.lit (.int .i64 a_n1.Kind)), .c (.lit (.int .i64 a_n1.Num)), .c (.str a_n1.Text), .c (.sl 1 (List.map cS a_n1.Names)), .c (.sl 5 (List.map NodeT.cells a_n1.Kids))], .one (.c (.lit (.int .i64 a_k1))), .agg [.c (.lit (.int .i64 a_kid1.Kind)), .c (.lit (.int .i64 a_kid1.Num)), .c (.str a_kid1.Text), .c (.sl 1 (List.map cS a_kid1.Names)), .c (.sl 5 (List.map NodeT.cells a_kid1.Kids))]] [] (fun r1 b1 => r1 = .agg [.c (.lit (.int .i64 r.Kind)), .c (.lit (.int .i64 r.Num)), .c (.str r.Text), .own 0 r.Names.length 1, .own 1 r.Kids.length 5] ∧ b1 = [.dat 1 (List.map cS r.Names), .dat 5 (List.map NodeT.cells r.Kids)]) := by
  intro a_n1 a_k1 a_kid1 r h
  refine fun_sound K.spec_withKid (ofK ?_)
  unfold C.spec_withKid
  rcases n with _ | n <;> simp only [G.spec_withKid, reduceCtorEq] at h
  obtain ⟨zc, zg, zk, zu, ze, zj, zt⟩ := pp () <| pp (pp (pp @F.spec_copyNode_o (@cG [] [101, 102])) <| pp (pp @F.spec_copyNode_o (@cG [] [103, 104])) ()) <| pp () <| pp () <| pp () <| pp () <| (pp (@retX [] [(0, 101), (1, 102)] []) ())
  exact drv
theorem F.spec_addHere {n : Nat} : ∀ {a_n1 : NodeT} {a_step1 : Txt} {a_value1 : NodeT} {r : NodeT × Bool}, G.spec_addHere n a_n1 a_step1 a_value1 = some r → APure Go.Proofs.Tryz.prog 49 [.agg [.c (.lit (.int .i64 a_n1.Kind)), .c (.lit (.int .i64 a_n1.Num)), .c (.str a_n1.Text), .c (.sl 1 (List.map cS a_n1.Names)), .c (.sl 5 (List.map NodeT.cells a_n1.Kids))], .one (.c (.str a_step1)), .agg [.c (.lit (.int .i64 a_value1.Kind)), .c (.lit (.int .i64 a_value1.Num)), .c (.str a_value1.Text), .c (.sl 1 (List.map cS a_value1.Names)), .c (.sl 5 (List.map NodeT.cells a_value1.Kids))]] (.tup [(true, [.c (.lit (.int .i64 r.1.Kind)), .c (.lit (.int .i64 r.1.Num)), .c (.str r.1.Text), .c (.sl 1 (List.map cS r.1.Names)), .c (.sl 5 (List.map NodeT.cells r.1.Kids))]), (false, [.c (.lit (.bool r.2))])]) := by
  intro a_n1 a_step1 a_value1 r h
  refine fun_pure K.spec_addHere (ofK ?_)
  unfold C.spec_addHere
  rcases n with _ | n <;> simp only [G.spec_addHere, reduceCtorEq] at h
  obtain ⟨zc, zg, zk, zu, ze, zj, zt⟩ := pp (pp @F.spec_slot <| pp @F.spec_withKid <| pp @F.spec_copyNode ()) <| pp () <| pp () <| pp () <| pp () <| pp () <| ()
  exact drv
theorem F.spec_addHere_o {n : Nat} : ∀ {a_n1 : NodeT} {a_step1 : Txt} {a_value1 : NodeT} {r : NodeT × Bool}, G.spec_addHere n a_n1 a_step1 a_value1 = some r → ACalls Go.Proofs.Tryz.prog 49 [.agg [.c (.lit (.int .i64 a_n1.Kind)), .c (.lit (.int .i64 a_n1.Num)), .c (.str a_n1.Text), .c (.sl 1 (List.map cS a_n1.Names)), .c (.sl 5 (List.map NodeT.cells a_n1.Kids))], .one (.c (.str a_step1)), .agg [.c (.lit (.int .i64 a_value1.Kind)), .c (.lit (.int .i64 a_value1.Num)), .c (.str a_value1.Text), .c (.sl 1 (List.map cS a_value1.Names)), .c (.sl 5 (List.map NodeT.cells a_value1.Kids))]] [] (fun r1 b1 => r1 = .tup [(true, [.c (.lit (.int .i64 r.1.Kind)), .c (.lit (.int .i64 r.1.Num)), .c (.str r.1.Text), .own 0 r.1.Names.length 1, .own 1 r.1.Kids.length 5]), (false, [.c (.lit (.bool r.2))])] ∧ b1 = [.dat 1 (List.map cS r.1.Names), .dat 5 (List.map NodeT.cells r.1.Kids)]) := by
  intro a_n1 a_step1 a_value1 r h
  refine fun_sound K.spec_addHere (ofK ?_)
  unfold C.spec_addHere
  rcases n with _ | n <;> simp only [G.spec_addHere, reduceCtorEq] at h
  obtain ⟨zc, zg, zk, zu, ze, zj, zt⟩ := pp (pp @F.spec_slot <| pp @F.spec_copyNode ()) <| pp (pp (pp @F.spec_withKid_o (@cG [] [101, 102])) ()) <| pp () <| pp () <| pp () <| pp () <| (pp (@retX [] [] [0, 1]) <| pp (@retX [] [(0, 101), (1, 102)] []) <| pp (@retX [] [(0, 19), (1, 18)] []) <| pp (@retX [] [(0, 24), (1, 18)] []) ())
  exact drv
theorem F.spec_reader_of {n : Nat} : ∀ {p_r1 : ReaderT} {a_list1 : List Txt} {r : Txt × ReaderT}, G.spec_reader_of n p_r1 a_list1 = some r → ACalls Go.Proofs.Tryz.prog 37 [.one (.ptr 0 0), .one (.c (.sl 1 (List.map cS a_list1)))] [.var [.c (.sl 1 (List.map cU p_r1.b)), .c (.lit (.int .i64 p_r1.p))]] (fun r1 b1 => r1 = .one (.c (.str r.1)) ∧ b1 = [.var [.c (.sl 1 (List.map cU r.2.b)), .c (.lit (.int .i64 r.2.p))]]) := by
  intro p_r1 a_list1 r h
  refine fun_sound K.spec_reader_of (ofK ?_)
  unfold C.spec_reader_of
  rcases n with _ | n <;> simp only [G.spec_reader_of, reduceCtorEq] at h
  obtain ⟨zc, zg, zk, zu, ze, zj, zt⟩ := pp () <| pp (pp (pp @F.spec_reader_pick (@cG [0] [])) ()) <| pp () <| pp () <| pp () <| pp () <| (pp (@retX [] [(0, 0)] []) ())
  exact drv
theorem F.spec_someText {n : Nat} : ∀ {p_r1 : ReaderT} {r : Txt × ReaderT}, G.spec_someText n p_r1 = some r → ACalls Go.Proofs.Tryz.prog 63 [.one (.ptr 0 0)] [.var [.c (.sl 1 (List.map cU p_r1.b)), .c (.lit (.int .i64 p_r1.p))]] (fun r1 b1 => r1 = .one (.c (.str r.1)) ∧ b1 = [.var [.c (.sl 1 (List.map cU r.2.b)), .c (.lit (.int .i64 r.2.p))]]) := by
  intro p_r1 r h
  refine fun_sound K.spec_someText (ofK ?_)
  unfold C.spec_someText
  rcases n with _ | n <;> simp only [G.spec_someText, reduceCtorEq] at h
  obtain ⟨zc, zg, zk, zu, ze, zj, zt⟩ := pp () <| pp (pp (pp @F.spec_reader_of (@cH [0] [])) ()) <| pp () <| pp () <| pp () <| pp () <| (pp (@retX [] [(0, 0)] []) ())
  exact drv
theorem F.spec_someName {n : Nat} : ∀ {p_r1 : ReaderT} {r : Txt × ReaderT}, G.spec_someName n p_r1 = some r → ACalls Go.Proofs.Tryz.prog 78 [.one (.ptr 0 0)] [.var [.c (.sl 1 (List.map cU p_r1.b)), .c (.lit (.int .i64 p_r1.p))]] (fun r1 b1 => r1 = .one (.c (.str r.1)) ∧ b1 = [.var [.c (.sl 1 (List.map cU r.2.b)), .c (.lit (.int .i64 r.2.p))]]) := by
  intro p_r1 r h
  refine fun_sound K.spec_someName (ofK ?_)
  unfold C.spec_someName
  rcases n with _ | n <;> simp only [G.spec_someName, reduceCtorEq] at h
  obtain ⟨zc, zg, zk, zu, ze, zj, zt⟩ := pp () <| pp (pp (pp @F.spec_reader_of (@cH [0] [])) ()) <| pp () <| pp () <| pp () <| pp () <| (pp (@retX [] [(0, 0)] []) ())
  exact drv
theorem F.scc_spec_randomMap : ∀ (n : Nat), (∀ {p_r1 : ReaderT} {a_depth1 : Int} {r : NodeT × ReaderT}, G.spec_randomMap n p_r1 a_depth1 = some r → ACalls Go.Proofs.Tryz.prog 55 [.one (.ptr 0 0), .one (.c (.lit (.int .i64 a_depth1)))] [.var [.c (.sl 1 (List.map cU p_r1.b)), .c (.lit (.int .i64 p_r1.p))]] (fun r1 b1 => r1 = .agg [.c (.lit (.int .i64 r.1.Kind)), .c (.lit (.int .i64 r.1.Num)), .c (.str r.1.Text), .c (.sl 1 (List.map cS r.1.Names)), .c (.sl 5 (List.map NodeT.cells r.1.Kids))] ∧ b1 = [.var [.c (.sl 1 (List.map cU r.2.b)), .c (.lit (.int .i64 r.2.p))]])) ∧ (∀ {p_r1 : ReaderT} {a_depth1 : Int} {r : NodeT × ReaderT}, G.spec_randomNode n p_r1 a_depth1 = some r → ACalls Go.Proofs.Tryz.prog 38 [.one (.ptr 0 0), .one (.c (.lit (.int .i64 a_depth1)))] [.var [.c (.sl 1 (List.map cU p_r1.b)), .c (.lit (.int .i64 p_r1.p))]] (fun r1 b1 => r1 = .agg [.c (.lit (.int .i64 r.1.Kind)), .c (.lit (.int .i64 r.1.Num)), .c (.str r.1.Text), .c (.sl 1 (List.map cS r.1.Names)), .c (.sl 5 (List.map NodeT.cells r.1.Kids))] ∧ b1 = [.var [.c (.sl 1 (List.map cU r.2.b)), .c (.lit (.int .i64 r.2.p))]])) := by
  intro n
  induction n using Nat.strongRecOn with | _ n ih =>
  refine ⟨?_, ?_⟩
  · intro p_r1 a_depth1 r h
    refine fun_sound K.spec_randomMap (ofK ?_)
    unfold C.spec_randomMap
    rcases n with _ | n <;> simp only [G.spec_randomMap, reduceCtorEq] at h
    obtain ⟨zc, zg, zk, zu, ze, zj, zt⟩ := pp (pp @F.spec_place <| pp @F.spec_addHere ()) <| pp (pp (pp (ihR ih) (@cG [0] [])) <| pp (pp @F.spec_reader_one (@cH [0] [])) <| pp (pp @F.spec_someName (@cG [0] [])) ()) <| pp (pp (@lopX (Int × List Int × Int × Int × Int × Txt × List Txt × List NodeT) _ (fun n x => G.spec_randomMap.L1 n a_depth1 x.1 x.2.1 x.2.2.1 x.2.2.2.1 x.2.2.2.2.1 x.2.2.2.2.2.1 x.2.2.2.2.2.2.1 x.2.2.2.2.2.2.2) r (fun x => ASt.of [(0, .v true (.one (.ptr 0 0))), (1, .v true (.one (.c (.lit (.int .i64 a_depth1))))), (4, .v true (.one (.ptr 107 0))), (5, .v true (.one (.ptr 108 0))), (6, .v true (.one (.c (.lit (.int .i64 x.1)))))] [(0, .var [.c (.sl 1 (List.map cU x.2.1)), .c (.lit (.int .i64 x.2.2.1))]), (107, .var [.c (.lit (.int .i64 0)), .c (.lit (.int .i64 0)), .c (.str []), .nsl 1, .nsl 5]), (108, .var [.c (.lit (.int .i64 x.2.2.2.1)), .c (.lit (.int .i64 x.2.2.2.2.1)), .c (.str x.2.2.2.2.2.1), .c (.sl 1 (List.map cS x.2.2.2.2.2.2.1)), .c (.sl 5 (List.map NodeT.cells x.2.2.2.2.2.2.2))])])) ()) <| pp () <| pp (pp (And.intro @G.spec_randomMap.L1.eq_1 <| @G.spec_randomMap.L1.eq_2) ()) <| pp (pp (@weakX [11, 12] [(0, 0), (107, 10), (108, 13)] []) <| pp (@weakX [] [(0, 0), (107, 107), (108, 108)] []) ()) <| (pp (@retX [] [(0, 0)] []) ())
    exact drv
  · intro p_r1 a_depth1 r h
    refine fun_sound K.spec_randomNode (ofK ?_)
    unfold C.spec_randomNode
    rcases n with _ | n <;> simp only [G.spec_randomNode, reduceCtorEq] at h
    obtain ⟨zc, zg, zk, zu, ze, zj, zt⟩ := pp () <| pp (pp (pp (ihR ih) (@cG [0] [])) <| pp (pp (ihL ih) (@cG [0] [])) <| pp (pp @F.spec_reader_pick (@cG [0] [])) <| pp (pp @F.spec_reader_one (@cH [0] [])) <| pp (pp @F.spec_someText (@cG [0] [])) ()) <| pp (pp (@lopX (Int × Int × List Int × Int × List NodeT) _ (fun n x => G.spec_randomNode.L2 n a_depth1 x.1 x.2.1 x.2.2.1 x.2.2.2.1 x.2.2.2.2) r (fun x => ASt.of [(0, .v true (.one (.ptr 0 0))), (1, .v true (.one (.c (.lit (.int .i64 a_depth1))))), (4, .v true (.one (.ptr 106 0))), (5, .v true (.one (.c (.lit (.int .i64 x.1))))), (6, .v true (.one (.own 107 x.2.2.2.2.length 5))), (7, .v true (.one (.c (.lit (.int .i64 x.2.1)))))] [(0, .var [.c (.sl 1 (List.map cU x.2.2.1)), .c (.lit (.int .i64 x.2.2.2.1))]), (106, .var [.c (.lit (.int .i64 0)), .c (.lit (.int .i64 0)), .c (.str []), .nsl 1, .nsl 5]), (107, .dat 5 (List.map NodeT.cells x.2.2.2.2))])) ()) <| pp (pp (@cutX (Int × List Int × Int) _ (fun n x => G.spec_randomNode.K1 n a_depth1 x.1 x.2.1 x.2.2) r (fun x => ASt.of [(0, .v true (.one (.ptr 0 0))), (1, .v true (.one (.c (.lit (.int .i64 a_depth1))))), (4, .v true (.one (.ptr 101 0))), (5, .v true (.one (.c (.lit (.int .i64 x.1)))))] [(0, .var [.c (.sl 1 (List.map cU x.2.1)), .c (.lit (.int .i64 x.2.2))]), (101, .var [.c (.lit (.int .i64 0)), .c (.lit (.int .i64 0)), .c (.str []), .nsl 1, .nsl 5])])) ()) <| pp (pp (And.intro @G.spec_randomNode.K1.eq_1 <| And.intro @G.spec_randomNode.K1.eq_2 <| And.intro @G.spec_randomNode.L2.eq_1 <| @G.spec_randomNode.L2.eq_2) ()) <| pp (pp (@weakX [] [(0, 0), (101, 10)] []) <| pp (@weakX [] [(0, 0), (106, 101), (107, 12)] []) <| pp (@weakX [] [(0, 0), (106, 106), (107, 14)] []) ()) <| (pp (@retX [] [(0, 0)] []) <| pp (@retX [15, 107] [(0, 0)] []) ())
    exact drv
theorem F.spec_randomMap {n : Nat} : ∀ {p_r1 : ReaderT} {a_depth1 : Int} {r : NodeT × ReaderT}, G.spec_randomMap n p_r1 a_depth1 = some r → ACalls Go.Proofs.Tryz.prog 55 [.one (.ptr 0 0), .one (.c (.lit (.int .i64 a_depth1)))] [.var [.c (.sl 1 (List.map cU p_r1.b)), .c (.lit (.int .i64 p_r1.p))]] (fun r1 b1 => r1 = .agg [.c (.lit (.int .i64 r.1.Kind)), .c (.lit (.int .i64 r.1.Num)), .c (.str r.1.Text), .c (.sl 1 (List.map cS r.1.Names)), .c (.sl 5 (List.map NodeT.cells r.1.Kids))] ∧ b1 = [.var [.c (.sl 1 (List.map cU r.2.b)), .c (.lit (.int .i64 r.2.p))]]) := (F.scc_spec_randomMap n).1
theorem F.spec_randomNode {n : Nat} : ∀ {p_r1 : ReaderT} {a_depth1 : Int} {r : NodeT × ReaderT}, G.spec_randomNode n p_r1 a_depth1 = some r → ACalls Go.Proofs.Tryz.prog 38 [.one (.ptr 0 0), .one (.c (.lit (.int .i64 a_depth1)))] [.var [.c (.sl 1 (List.map cU p_r1.b)), .c (.lit (.int .i64 p_r1.p))]] (fun r1 b1 => r1 = .agg [.c (.lit (.int .i64 r.1.Kind)), .c (.lit (.int .i64 r.1.Num)), .c (.str r.1.Text), .c (.sl 1 (List.map cS r.1.Names)), .c (.sl 5 (List.map NodeT.cells r.1.Kids))] ∧ b1 = [.var [.c (.sl 1 (List.map cU r.2.b)), .c (.lit (.int .i64 r.2.p))]]) := (F.scc_spec_randomMap n).2
theorem F.spec_randomMap_o {n : Nat} : ∀ {p_r1 : ReaderT} {a_depth1 : Int} {r : NodeT × ReaderT}, G.spec_randomMap n p_r1 a_depth1 = some r → ACalls Go.Proofs.Tryz.prog 55 [.one (.ptr 0 0), .one (.c (.lit (.int .i64 a_depth1)))] [.var [.c (.sl 1 (List.map cU p_r1.b)), .c (.lit (.int .i64 p_r1.p))]] (fun r1 b1 => r1 = .agg [.c (.lit (.int .i64 r.1.Kind)), .c (.lit (.int .i64 r.1.Num)), .c (.str r.1.Text), .own 1 r.1.Names.length 1, .own 2 r.1.Kids.length 5] ∧ b1 = [.var [.c (.sl 1 (List.map cU r.2.b)), .c (.lit (.int .i64 r.2.p))], .dat 1 (List.map cS r.1.Names), .dat 5 (List.map NodeT.cells r.1.Kids)]) := by
  intro p_r1 a_depth1 r h
  refine fun_sound K.spec_randomMap (ofK ?_)
  unfold C.spec_randomMap
  rcases n with _ | n <;> simp only [G.spec_randomMap, reduceCtorEq] at h
  obtain ⟨zc, zg, zk, zu, ze, zj, zt⟩ := pp (pp @F.spec_place ()) <| pp (pp (pp @F.spec_reader_one (@cH [0] [])) <| pp (pp @F.spec_someName (@cG [0] [])) <| pp (pp @F.spec_randomNode (@cG [0] [])) <| pp (pp @F.spec_addHere_o (@cH [] [117, 118])) ()) <| pp (pp (@lopX (Int × List Int × Int × Int × Int × Txt × List Txt × List NodeT) _ (fun n x => G.spec_randomMap.L1 n a_depth1 x.1 x.2.1 x.2.2.1 x.2.2.2.1 x.2.2.2.2.1 x.2.2.2.2.2.1 x.2.2.2.2.2.2.1 x.2.2.2.2.2.2.2) r (fun x => ASt.of [(0, .v true (.one (.ptr 0 0))), (1, .v true (.one (.c (.lit (.int .i64 a_depth1))))), (4, .v true (.one (.ptr 113 0))), (5, .v true (.one (.ptr 114 0))), (6, .v true (.one (.c (.lit (.int .i64 x.1)))))] [(0, .var [.c (.sl 1 (List.map cU x.2.1)), .c (.lit (.int .i64 x.2.2.1))]), (113, .var [.c (.lit (.int .i64 0)), .c (.lit (.int .i64 0)), .c (.str []), .nsl 1, .nsl 5]), (114, .var [.c (.lit (.int .i64 x.2.2.2.1)), .c (.lit (.int .i64 x.2.2.2.2.1)), .c (.str x.2.2.2.2.2.1), .own 115 x.2.2.2.2.2.2.1.length 1, .own 116 x.2.2.2.2.2.2.2.length 5]), (115, .dat 1 (List.map cS x.2.2.2.2.2.2.1)), (116, .dat 5 (List.map NodeT.cells x.2.2.2.2.2.2.2))])) ()) <| pp () <| pp (pp (And.intro @G.spec_randomMap.L1.eq_1 <| @G.spec_randomMap.L1.eq_2) ()) <| pp (pp (@weakX [] [(0, 0), (113, 10), (114, 13), (115, 11), (116, 12)] []) <| pp (@weakX [] [(0, 0), (113, 113), (114, 114), (115, 117), (116, 118)] []) <| pp (@weakX [] [(0, 0), (113, 113), (114, 114), (115, 115), (116, 116)] []) ()) <| (pp (@retX [] [(0, 0), (1, 115), (2, 116)] []) ())
  exact drv
theorem F.spec_randomNode_o {n : Nat} : ∀ {p_r1 : ReaderT} {a_depth1 : Int} {r : NodeT × ReaderT}, G.spec_randomNode n p_r1 a_depth1 = some r → ACalls Go.Proofs.Tryz.prog 38 [.one (.ptr 0 0), .one (.c (.lit (.int .i64 a_depth1)))] [.var [.c (.sl 1 (List.map cU p_r1.b)), .c (.lit (.int .i64 p_r1.p))]] (fun r1 b1 => r1 = .agg [.c (.lit (.int .i64 r.1.Kind)), .c (.lit (.int .i64 r.1.Num)), .c (.str r.1.Text), .own 1 r.1.Names.length 1, .own 2 r.1.Kids.length 5] ∧ b1 = [.var [.c (.sl 1 (List.map cU r.2.b)), .c (.lit (.int .i64 r.2.p))], .dat 1 (List.map cS r.1.Names), .dat 5 (List.map NodeT.cells r.1.Kids)]) := by
  intro p_r1 a_depth1 r h
  refine fun_sound K.spec_randomNode (ofK ?_)
  unfold C.spec_randomNode
  rcases n with _ | n <;> simp only [G.spec_randomNode, reduceCtorEq] at h
  obtain ⟨zc, zg, zk, zu, ze, zj, zt⟩ := pp () <| pp (pp (pp @F.spec_reader_pick (@cG [0] [])) <| pp (pp @F.spec_reader_one (@cH [0] [])) <| pp (pp @F.spec_someText (@cG [0] [])) <| pp (pp @F.spec_randomNode (@cG [0] [])) <| pp (pp @F.spec_randomMap_o (@cG [0] [108, 109])) ()) <| pp (pp (@lopX (Int × Int × List Int × Int × List NodeT) _ (fun n x => G.spec_randomNode.L2 n a_depth1 x.1 x.2.1 x.2.2.1 x.2.2.2.1 x.2.2.2.2) r (fun x => ASt.of [(0, .v true (.one (.ptr 0 0))), (1, .v true (.one (.c (.lit (.int .i64 a_depth1))))), (4, .v true (.one (.ptr 106 0))), (5, .v true (.one (.c (.lit (.int .i64 x.1))))), (6, .v true (.one (.own 107 x.2.2.2.2.length 5))), (7, .v true (.one (.c (.lit (.int .i64 x.2.1)))))] [(0, .var [.c (.sl 1 (List.map cU x.2.2.1)), .c (.lit (.int .i64 x.2.2.2.1))]), (106, .var [.c (.lit (.int .i64 0)), .c (.lit (.int .i64 0)), .c (.str []), .nsl 1, .nsl 5]), (107, .dat 5 (List.map NodeT.cells x.2.2.2.2))])) ()) <| pp (pp (@cutX (Int × List Int × Int) _ (fun n x => G.spec_randomNode.K1 n a_depth1 x.1 x.2.1 x.2.2) r (fun x => ASt.of [(0, .v true (.one (.ptr 0 0))), (1, .v true (.one (.c (.lit (.int .i64 a_depth1))))), (4, .v true (.one (.ptr 101 0))), (5, .v true (.one (.c (.lit (.int .i64 x.1)))))] [(0, .var [.c (.sl 1 (List.map cU x.2.1)), .c (.lit (.int .i64 x.2.2))]), (101, .var [.c (.lit (.int .i64 0)), .c (.lit (.int .i64 0)), .c (.str []), .nsl 1, .nsl 5])])) ()) <| pp (pp (And.intro @G.spec_randomNode.K1.eq_1 <| And.intro @G.spec_randomNode.K1.eq_2 <| And.intro @G.spec_randomNode.L2.eq_1 <| @G.spec_randomNode.L2.eq_2) ()) <| pp (pp (@weakX [] [(0, 0), (101, 10)] []) <| pp (@weakX [] [(0, 0), (106, 101), (107, 12)] []) <| pp (@weakX [] [(0, 0), (106, 106), (107, 14)] []) ()) <| (pp (@retX [] [(0, 0)] [1, 2]) <| pp (@retX [] [(0, 0), (1, 15), (2, 107)] []) <| pp (@retX [] [(0, 0), (1, 108), (2, 109)] []) ())
  exact drv
theorem F.spec_count_n : ∀ (n : Nat), ∀ {a_n1 : NodeT} {r : Int}, G.spec_count n a_n1 = some r → APure Go.Proofs.Tryz.prog 33 [.agg [.c (.lit (.int .i64 a_n1.Kind)), .c (.lit (.int .i64 a_n1.Num)), .c (.str a_n1.Text), .c (.sl 1 (List.map cS a_n1.Names)), .c (.sl 5 (List.map NodeT.cells a_n1.Kids))]] (.one (.c (.lit (.int .i64 r)))) := by
  intro n
  induction n using Nat.strongRecOn with | _ n ih =>
  intro a_n1 r h
  refine fun_pure K.spec_count (ofK ?_)
  unfold C.spec_count
  rcases n with _ | n <;> simp only [G.spec_count, reduceCtorEq] at h
  obtain ⟨zc, zg, zk, zu, ze, zj, zt⟩ := pp (pp ih ()) <| pp () <| pp (pp (@lopX (Int × Int) _ (fun n x => G.spec_count.L1 n a_n1 x.1 x.2) r (fun x => ASt.of [(1, .v true (.one (.ptr 103 0))), (3, .v true (.one (.c (.lit (.int .i64 x.1))))), (4, .v true (.one (.c (.lit (.int .i64 x.2)))))] [(103, .var [.c (.lit (.int .i64 a_n1.Kind)), .c (.lit (.int .i64 a_n1.Num)), .c (.str a_n1.Text), .c (.sl 1 (List.map cS a_n1.Names)), .c (.sl 5 (List.map NodeT.cells a_n1.Kids))])])) ()) <| pp () <| pp (pp (And.intro @G.spec_count.L1.eq_1 <| @G.spec_count.L1.eq_2) ()) <| pp (pp (@weakX [] [(103, 10)] []) <| pp (@weakX [] [(103, 103)] []) ()) <| ()
  exact drv
theorem F.spec_count {n : Nat} : ∀ {a_n1 : NodeT} {r : Int}, G.spec_count n a_n1 = some r → APure Go.Proofs.Tryz.prog 33 [.agg [.c (.lit (.int .i64 a_n1.Kind)), .c (.lit (.int .i64 a_n1.Num)), .c (.str a_n1.Text), .c (.sl 1 (List.map cS a_n1.Names)), .c (.sl 5 (List.map NodeT.cells a_n1.Kids))]] (.one (.c (.lit (.int .i64 r)))) := F.spec_count_n n
theorem F.spec_inRange {n : Nat} : ∀ {a_n1 : Int} {a_low1 : Int} {a_high1 : Int} {r : Bool}, G.spec_inRange n a_n1 a_low1 a_high1 = some r → APure Go.Proofs.Tryz.prog 56 [.one (.c (.lit (.int .i64 a_n1))), .one (.c (.lit (.int .i64 a_low1))), .one (.c (.lit (.int .i64 a_high1)))] (.one (.c (.lit (.bool r)))) := by
  intro a_n1 a_low1 a_high1 r h
  refine fun_pure K.spec_inRange (ofK ?_)
  unfold C.spec_inRange
  rcases n with _ | n <;> simp only [G.spec_inRange, reduceCtorEq] at h
  obtain ⟨zc, zg, zk, zu, ze, zj, zt⟩ := pp () <| pp () <| pp () <| pp () <| pp () <| pp () <| ()
  exact drv
theorem F.spec_validText {n : Nat} : ∀ {a_s1 : Txt} {r : Bool}, G.spec_validText n a_s1 = some r → APure Go.Proofs.Tryz.prog 57 [.one (.c (.str a_s1))] (.one (.c (.lit (.bool r)))) := by
  intro a_s1 r h
  refine fun_pure K.spec_validText (ofK ?_)
  unfold C.spec_validText
  rcases n with _ | n <;> simp only [G.spec_validText, reduceCtorEq] at h
  obtain ⟨zc, zg, zk, zu, ze, zj, zt⟩ := pp (pp @F.spec_inRange ()) <| pp () <| pp (pp (@lopX (Int) _ (fun n x => G.spec_validText.L1 n a_s1 x) r (fun x => ASt.of [(0, .v true (.one (.c (.str a_s1)))), (3, .v true (.one (.c (.lit (.int .i64 x)))))] [])) ()) <| pp () <| pp (pp (And.intro @G.spec_validText.L1.eq_1 <| @G.spec_validText.L1.eq_2) ()) <| pp (pp (@weakX [] [] []) ()) <| ()
  exact drv
theorem F.spec_names {n : Nat} : ∀ {a_list1 : List Txt} {r : Bool}, G.spec_names n a_list1 = some r → APure Go.Proofs.Tryz.prog 59 [.one (.c (.sl 1 (List.map cS a_list1)))] (.one (.c (.lit (.bool r)))) := by
  intro a_list1 r h
  refine fun_pure K.spec_names (ofK ?_)
  unfold C.spec_names
  rcases n with _ | n <;> simp only [G.spec_names, reduceCtorEq] at h
  obtain ⟨zc, zg, zk, zu, ze, zj, zt⟩ := pp (pp @F.spec_validText ()) <| pp () <| pp (pp (@lopX (Int) _ (fun n x => G.spec_names.L1 n a_list1 x) r (fun x => ASt.of [(0, .v true (.one (.c (.sl 1 (List.map cS a_list1))))), (3, .v true (.one (.c (.lit (.int .i64 x)))))] [])) ()) <| pp () <| pp (pp (And.intro @G.spec_names.L1.eq_1 <| @G.spec_names.L1.eq_2) ()) <| pp (pp (@weakX [] [] []) ()) <| ()
  exact drv
theorem F.scc_spec_kids : ∀ (n : Nat), (∀ {a_n1 : NodeT} {a_depth1 : Int} {r : Bool}, G.spec_kids n a_n1 a_depth1 = some r → APure Go.Proofs.Tryz.prog 58 [.agg [.c (.lit (.int .i64 a_n1.Kind)), .c (.lit (.int .i64 a_n1.Num)), .c (.str a_n1.Text), .c (.sl 1 (List.map cS a_n1.Names)), .c (.sl 5 (List.map NodeT.cells a_n1.Kids))], .one (.c (.lit (.int .i64 a_depth1)))] (.one (.c (.lit (.bool r))))) ∧ (∀ {a_n1 : NodeT} {a_depth1 : Int} {r : Bool}, G.spec_shape n a_n1 a_depth1 = some r → APure Go.Proofs.Tryz.prog 32 [.agg [.c (.lit (.int .i64 a_n1.Kind)), .c (.lit (.int .i64 a_n1.Num)), .c (.str a_n1.Text), .c (.sl 1 (List.map cS a_n1.Names)), .c (.sl 5 (List.map NodeT.cells a_n1.Kids))], .one (.c (.lit (.int .i64 a_depth1)))] (.one (.c (.lit (.bool r))))) := by
  intro n
  induction n using Nat.strongRecOn with | _ n ih =>
  refine ⟨?_, ?_⟩
  · intro a_n1 a_depth1 r h
    refine fun_pure K.spec_kids (ofK ?_)
    unfold C.spec_kids
    rcases n with _ | n <;> simp only [G.spec_kids, reduceCtorEq] at h
    obtain ⟨zc, zg, zk, zu, ze, zj, zt⟩ := pp (pp ((ihR ih)) ()) <| pp () <| pp (pp (@lopX (Int) _ (fun n x => G.spec_kids.L1 n a_n1 a_depth1 x) r (fun x => ASt.of [(1, .v true (.one (.c (.lit (.int .i64 a_depth1))))), (2, .v true (.one (.ptr 103 0))), (5, .v true (.one (.c (.lit (.int .i64 x)))))] [(103, .var [.c (.lit (.int .i64 a_n1.Kind)), .c (.lit (.int .i64 a_n1.Num)), .c (.str a_n1.Text), .c (.sl 1 (List.map cS a_n1.Names)), .c (.sl 5 (List.map NodeT.cells a_n1.Kids))])])) ()) <| pp () <| pp (pp (And.intro @G.spec_kids.L1.eq_1 <| @G.spec_kids.L1.eq_2) ()) <| pp (pp (@weakX [] [(103, 10)] []) <| pp (@weakX [] [(103, 103)] []) ()) <| ()
    exact drv
  · intro a_n1 a_depth1 r h
    refine fun_pure K.spec_shape (ofK ?_)
    unfold C.spec_shape
    rcases n with _ | n <;> simp only [G.spec_shape, reduceCtorEq] at h
    obtain ⟨zc, zg, zk, zu, ze, zj, zt⟩ := pp (pp ((ihL ih)) <| pp @F.spec_inRange <| pp @F.spec_validText <| pp @F.spec_names ()) <| pp () <| pp () <| pp (pp (@cutX (Unit) _ (fun n x => G.spec_shape.K1 n a_n1 a_depth1) r (fun x => ASt.of [(1, .v true (.one (.c (.lit (.int .i64 a_depth1))))), (2, .v true (.one (.ptr 101 0))), (54, .v true (.one (.c (.lit (.bool false)))))] [(101, .var [.c (.lit (.int .i64 a_n1.Kind)), .c (.lit (.int .i64 a_n1.Num)), .c (.str a_n1.Text), .c (.sl 1 (List.map cS a_n1.Names)), .c (.sl 5 (List.map NodeT.cells a_n1.Kids))])])) ()) <| pp (pp (And.intro @G.spec_shape.K1.eq_1 <| @G.spec_shape.K1.eq_2) ()) <| pp (pp (@weakX [] [(101, 10)] []) ()) <| ()
    exact drv
theorem F.spec_shape {n : Nat} : ∀ {a_n1 : NodeT} {a_depth1 : Int} {r : Bool}, G.spec_shape n a_n1 a_depth1 = some r → APure Go.Proofs.Tryz.prog 32 [.agg [.c (.lit (.int .i64 a_n1.Kind)), .c (.lit (.int .i64 a_n1.Num)), .c (.str a_n1.Text), .c (.sl 1 (List.map cS a_n1.Names)), .c (.sl 5 (List.map NodeT.cells a_n1.Kids))], .one (.c (.lit (.int .i64 a_depth1)))] (.one (.c (.lit (.bool r)))) := (F.scc_spec_kids n).2
theorem F.spec_validNode {n : Nat} : ∀ {a_n1 : NodeT} {r : Bool}, G.spec_validNode n a_n1 = some r → APure Go.Proofs.Tryz.prog 14 [.agg [.c (.lit (.int .i64 a_n1.Kind)), .c (.lit (.int .i64 a_n1.Num)), .c (.str a_n1.Text), .c (.sl 1 (List.map cS a_n1.Names)), .c (.sl 5 (List.map NodeT.cells a_n1.Kids))]] (.one (.c (.lit (.bool r)))) := by
  intro a_n1 r h
  refine fun_pure K.spec_validNode (ofK ?_)
  unfold C.spec_validNode
  rcases n with _ | n <;> simp only [G.spec_validNode, reduceCtorEq] at h
  obtain ⟨zc, zg, zk, zu, ze, zj, zt⟩ := pp (pp @F.spec_shape <| pp @F.spec_count ()) <| pp () <| pp () <| pp () <| pp () <| pp () <| ()
  exact drv
theorem F.spec_someNode {n : Nat} : ∀ {p_r1 : ReaderT} {r : NodeT × ReaderT}, G.spec_someNode n p_r1 = some r → ACalls Go.Proofs.Tryz.prog 29 [.one (.ptr 0 0)] [.var [.c (.sl 1 (List.map cU p_r1.b)), .c (.lit (.int .i64 p_r1.p))]] (fun r1 b1 => r1 = .agg [.c (.lit (.int .i64 r.1.Kind)), .c (.lit (.int .i64 r.1.Num)), .c (.str r.1.Text), .c (.sl 1 (List.map cS r.1.Names)), .c (.sl 5 (List.map NodeT.cells r.1.Kids))] ∧ b1 = [.var [.c (.sl 1 (List.map cU r.2.b)), .c (.lit (.int .i64 r.2.p))]]) := by
  intro p_r1 r h
  refine fun_sound K.spec_someNode (ofK ?_)
  unfold C.spec_someNode
  rcases n with _ | n <;> simp only [G.spec_someNode, reduceCtorEq] at h
  obtain ⟨zc, zg, zk, zu, ze, zj, zt⟩ := pp (pp @F.spec_validNode ()) <| pp (pp (pp @F.spec_randomNode (@cG [0] [])) <| pp (pp @F.spec_reader_pick (@cG [0] [])) <| pp (pp @F.spec_randomMap (@cG [0] [])) ()) <| pp () <| pp (pp (@cutX (List Int × Int × Int × Int × Txt × List Txt × List NodeT) _ (fun n x => G.spec_someNode.K1 n x.1 x.2.1 x.2.2.1 x.2.2.2.1 x.2.2.2.2.1 x.2.2.2.2.2.1 x.2.2.2.2.2.2) r (fun x => ASt.of [(2, .v true (.one (.ptr 101 0))), (3, .v true (.one (.ptr 102 0)))] [(0, .var [.c (.sl 1 (List.map cU x.1)), .c (.lit (.int .i64 x.2.1))]), (101, .var [.c (.lit (.int .i64 0)), .c (.lit (.int .i64 0)), .c (.str []), .nsl 1, .nsl 5]), (102, .var [.c (.lit (.int .i64 x.2.2.1)), .c (.lit (.int .i64 x.2.2.2.1)), .c (.str x.2.2.2.2.1), .c (.sl 1 (List.map cS x.2.2.2.2.2.1)), .c (.sl 5 (List.map NodeT.cells x.2.2.2.2.2.2))])])) ()) <| pp (pp (And.intro @G.spec_someNode.K1.eq_1 <| @G.spec_someNode.K1.eq_2) ()) <| pp (pp (@weakX [] [(0, 0), (101, 10), (102, 11)] []) ()) <| (pp (@retX [] [(0, 0)] []) ())
  exact drv
theorem F.spec_someNode_o {n : Nat} : ∀ {p_r1 : ReaderT} {r : NodeT × ReaderT}, G.spec_someNode n p_r1 = some r → ACalls Go.Proofs.Tryz.prog 29 [.one (.ptr 0 0)] [.var [.c (.sl 1 (List.map cU p_r1.b)), .c (.lit (.int .i64 p_r1.p))]] (fun r1 b1 => r1 = .agg [.c (.lit (.int .i64 r.1.Kind)), .c (.lit (.int .i64 r.1.Num)), .c (.str r.1.Text), .own 1 r.1.Names.length 1, .own 2 r.1.Kids.length 5] ∧ b1 = [.var [.c (.sl 1 (List.map cU r.2.b)), .c (.lit (.int .i64 r.2.p))], .dat 1 (List.map cS r.1.Names), .dat 5 (List.map NodeT.cells r.1.Kids)]) := by
  intro p_r1 r h
  refine fun_sound K.spec_someNode (ofK ?_)
  unfold C.spec_someNode
  rcases n with _ | n <;> simp only [G.spec_someNode, reduceCtorEq] at h
  obtain ⟨zc, zg, zk, zu, ze, zj, zt⟩ := pp (pp @F.spec_validNode ()) <| pp (pp (pp @F.spec_randomNode_o (@cG [0] [101, 102])) <| pp (pp @F.spec_reader_pick (@cG [0] [])) <| pp (pp @F.spec_randomMap_o (@cG [0] [109, 110])) ()) <| pp () <| pp (pp (@cutX (List Int × Int × Int × Int × Txt × List Txt × List NodeT) _ (fun n x => G.spec_someNode.K1 n x.1 x.2.1 x.2.2.1 x.2.2.2.1 x.2.2.2.2.1 x.2.2.2.2.2.1 x.2.2.2.2.2.2) r (fun x => ASt.of [(2, .v true (.one (.ptr 105 0))), (3, .v true (.one (.ptr 106 0)))] [(0, .var [.c (.sl 1 (List.map cU x.1)), .c (.lit (.int .i64 x.2.1))]), (105, .var [.c (.lit (.int .i64 0)), .c (.lit (.int .i64 0)), .c (.str []), .nsl 1, .nsl 5]), (106, .var [.c (.lit (.int .i64 x.2.2.1)), .c (.lit (.int .i64 x.2.2.2.1)), .c (.str x.2.2.2.2.1), .own 107 x.2.2.2.2.2.1.length 1, .own 108 x.2.2.2.2.2.2.length 5]), (107, .dat 1 (List.map cS x.2.2.2.2.2.1)), (108, .dat 5 (List.map NodeT.cells x.2.2.2.2.2.2))])) ()) <| pp (pp (And.intro @G.spec_someNode.K1.eq_1 <| @G.spec_someNode.K1.eq_2) ()) <| pp (pp (@weakX [] [(0, 0), (105, 10), (106, 11), (107, 109), (108, 110)] []) <| pp (@weakX [] [(0, 0), (105, 10), (106, 11), (107, 101), (108, 102)] []) ()) <| (pp (@retX [] [(0, 0), (1, 107), (2, 108)] []) <| pp (@retX [] [(0, 0)] [1, 2]) ())
  exact drv
theorem F.spec_anyNode {n : Nat} : ∀ {p_r1 : ReaderT} {r : NodeT × ReaderT}, G.spec_anyNode n p_r1 = some r → ACalls Go.Proofs.Tryz.prog 13 [.one (.ptr 0 0)] [.var [.c (.sl 1 (List.map cU p_r1.b)), .c (.lit (.int .i64 p_r1.p))]] (fun r1 b1 => r1 = .agg [.c (.lit (.int .i64 r.1.Kind)), .c (.lit (.int .i64 r.1.Num)), .c (.str r.1.Text), .c (.sl 1 (List.map cS r.1.Names)), .c (.sl 5 (List.map NodeT.cells r.1.Kids))] ∧ b1 = [.var [.c (.sl 1 (List.map cU r.2.b)), .c (.lit (.int .i64 r.2.p))]]) := by
  intro p_r1 r h
  refine fun_sound K.spec_anyNode (ofK ?_)
  unfold C.spec_anyNode
  rcases n with _ | n <;> simp only [G.spec_anyNode, reduceCtorEq] at h
  obtain ⟨zc, zg, zk, zu, ze, zj, zt⟩ := pp (pp @F.spec_copyNode ()) <| pp (pp (pp @F.spec_someNode_o (@cG [0] [101, 102])) <| pp (pp @F.spec_reader_pick (@cG [0] [])) <| pp (pp @F.spec_reader_one (@cH [0] [])) ()) <| pp (pp (@lopX ((NodeT × ReaderT) × Int × List Int × Int × List NodeT) _ (fun n x => G.spec_anyNode.L1 n x.1 x.2.1 x.2.2.1 x.2.2.2.1 x.2.2.2.2) r (fun x => ASt.of [(0, .v true (.one (.ptr 0 0))), (2, .v true (.one (.ptr 113 0))), (3, .v true (.one (.ptr 114 0))), (4, .v true (.one (.own 115 x.2.2.2.2.length 5))), (5, .v true (.one (.c (.lit (.int .i64 x.2.1)))))] [(0, .var [.c (.sl 1 (List.map cU x.2.2.1)), .c (.lit (.int .i64 x.2.2.2.1))]), (113, .var [.c (.lit (.int .i64 0)), .c (.lit (.int .i64 0)), .c (.str []), .nsl 1, .nsl 5]), (114, .var [.c (.lit (.int .i64 x.1.1.Kind)), .c (.lit (.int .i64 x.1.1.Num)), .c (.str x.1.1.Text), .own 116 x.1.1.Names.length 1, .own 117 x.1.1.Kids.length 5]), (115, .dat 5 (List.map NodeT.cells x.2.2.2.2)), (116, .frz 1 (List.map cS x.1.1.Names)), (117, .frz 5 (List.map NodeT.cells x.1.1.Kids))])) ()) <| pp () <| pp (pp (And.intro @G.spec_anyNode.L1.eq_1 <| @G.spec_anyNode.L1.eq_2) ()) <| pp (pp (@weakX [101, 102] [(0, 0), (113, 10), (114, 11), (115, 20), (116, 101), (117, 102)] []) <| pp (@weakX [] [(0, 0), (113, 113), (114, 114), (115, 22), (116, 116), (117, 117)] []) ()) <| (pp (@retX [101, 102] [(0, 0)] []) <| pp (@retX [15, 102] [(0, 0)] []) <| pp (@retX [19] [(0, 0)] []) <| pp (@retX [115] [(0, 0)] []) ())
  exact drv
theorem F.spec_at {n : Nat} : ∀ {a_n1 : NodeT} {a_path1 : List Txt} {r : NodeT × Bool}, G.spec_at n a_n1 a_path1 = some r → APure Go.Proofs.Tryz.prog 61 [.agg [.c (.lit (.int .i64 a_n1.Kind)), .c (.lit (.int .i64 a_n1.Num)), .c (.str a_n1.Text), .c (.sl 1 (List.map cS a_n1.Names)), .c (.sl 5 (List.map NodeT.cells a_n1.Kids))], .one (.c (.sl 1 (List.map cS a_path1)))] (.tup [(true, [.c (.lit (.int .i64 r.1.Kind)), .c (.lit (.int .i64 r.1.Num)), .c (.str r.1.Text), .c (.sl 1 (List.map cS r.1.Names)), .c (.sl 5 (List.map NodeT.cells r.1.Kids))]), (false, [.c (.lit (.bool r.2))])]) := by
  intro a_n1 a_path1 r h
  refine fun_pure K.spec_at (ofK ?_)
  unfold C.spec_at
  rcases n with _ | n <;> simp only [G.spec_at, reduceCtorEq] at h
  obtain ⟨zc, zg, zk, zu, ze, zj, zt⟩ := pp (pp @F.spec_place <| pp @F.spec_copyNode ()) <| pp () <| pp (pp (@lopX (Int × Int × Int × Txt × List Txt × List NodeT) _ (fun n x => G.spec_at.L1 n a_path1 x.1 x.2.1 x.2.2.1 x.2.2.2.1 x.2.2.2.2.1 x.2.2.2.2.2) r (fun x => ASt.of [(1, .v true (.one (.c (.sl 1 (List.map cS a_path1))))), (2, .v true (.one (.ptr 105 0))), (4, .v true (.one (.ptr 106 0))), (6, .v true (.one (.c (.lit (.int .i64 x.1)))))] [(105, .var [.c (.lit (.int .i64 x.2.1)), .c (.lit (.int .i64 x.2.2.1)), .c (.str x.2.2.2.1), .c (.sl 1 (List.map cS x.2.2.2.2.1)), .c (.sl 5 (List.map NodeT.cells x.2.2.2.2.2))]), (106, .var [.c (.lit (.int .i64 0)), .c (.lit (.int .i64 0)), .c (.str []), .nsl 1, .nsl 5])])) ()) <| pp () <| pp (pp (And.intro @G.spec_at.L1.eq_1 <| @G.spec_at.L1.eq_2) ()) <| pp (pp (@weakX [] [(105, 10), (106, 11)] []) <| pp (@weakX [] [(105, 105), (106, 106)] []) ()) <| ()
  exact drv
theorem F.spec_setAt_n : ∀ (n : Nat), ∀ {a_n1 : NodeT} {a_path1 : List Txt} {a_value1 : NodeT} {r : NodeT × Bool}, G.spec_setAt n a_n1 a_path1 a_value1 = some r → APure Go.Proofs.Tryz.prog 39 [.agg [.c (.lit (.int .i64 a_n1.Kind)), .c (.lit (.int .i64 a_n1.Num)), .c (.str a_n1.Text), .c (.sl 1 (List.map cS a_n1.Names)), .c (.sl 5 (List.map NodeT.cells a_n1.Kids))], .one (.c (.sl 1 (List.map cS a_path1))), .agg [.c (.lit (.int .i64 a_value1.Kind)), .c (.lit (.int .i64 a_value1.Num)), .c (.str a_value1.Text), .c (.sl 1 (List.map cS a_value1.Names)), .c (.sl 5 (List.map NodeT.cells a_value1.Kids))]] (.tup [(true, [.c (.lit (.int .i64 r.1.Kind)), .c (.lit (.int .i64 r.1.Num)), .c (.str r.1.Text), .c (.sl 1 (List.map cS r.1.Names)), .c (.sl 5 (List.map NodeT.cells r.1.Kids))]), (false, [.c (.lit (.bool r.2))])]) := by
  intro n
  induction n using Nat.strongRecOn with | _ n ih =>
  intro a_n1 a_path1 a_value1 r h
  refine fun_pure K.spec_setAt (ofK ?_)
  unfold C.spec_setAt
  rcases n with _ | n <;> simp only [G.spec_setAt, reduceCtorEq] at h
  obtain ⟨zc, zg, zk, zu, ze, zj, zt⟩ := pp (pp ih <| pp @F.spec_copyNode <| pp @F.spec_place <| pp @F.spec_withKid ()) <| pp () <| pp () <| pp () <| pp () <| pp () <| ()
  exact drv
theorem F.spec_setAt {n : Nat} : ∀ {a_n1 : NodeT} {a_path1 : List Txt} {a_value1 : NodeT} {r : NodeT × Bool}, G.spec_setAt n a_n1 a_path1 a_value1 = some r → APure Go.Proofs.Tryz.prog 39 [.agg [.c (.lit (.int .i64 a_n1.Kind)), .c (.lit (.int .i64 a_n1.Num)), .c (.str a_n1.Text), .c (.sl 1 (List.map cS a_n1.Names)), .c (.sl 5 (List.map NodeT.cells a_n1.Kids))], .one (.c (.sl 1 (List.map cS a_path1))), .agg [.c (.lit (.int .i64 a_value1.Kind)), .c (.lit (.int .i64 a_value1.Num)), .c (.str a_value1.Text), .c (.sl 1 (List.map cS a_value1.Names)), .c (.sl 5 (List.map NodeT.cells a_value1.Kids))]] (.tup [(true, [.c (.lit (.int .i64 r.1.Kind)), .c (.lit (.int .i64 r.1.Num)), .c (.str r.1.Text), .c (.sl 1 (List.map cS r.1.Names)), .c (.sl 5 (List.map NodeT.cells r.1.Kids))]), (false, [.c (.lit (.bool r.2))])]) := F.spec_setAt_n n
theorem F.spec_addAt {n : Nat} : ∀ {a_n1 : NodeT} {a_path1 : List Txt} {a_value1 : NodeT} {r : NodeT × Bool}, G.spec_addAt n a_n1 a_path1 a_value1 = some r → APure Go.Proofs.Tryz.prog 36 [.agg [.c (.lit (.int .i64 a_n1.Kind)), .c (.lit (.int .i64 a_n1.Num)), .c (.str a_n1.Text), .c (.sl 1 (List.map cS a_n1.Names)), .c (.sl 5 (List.map NodeT.cells a_n1.Kids))], .one (.c (.sl 1 (List.map cS a_path1))), .agg [.c (.lit (.int .i64 a_value1.Kind)), .c (.lit (.int .i64 a_value1.Num)), .c (.str a_value1.Text), .c (.sl 1 (List.map cS a_value1.Names)), .c (.sl 5 (List.map NodeT.cells a_value1.Kids))]] (.tup [(true, [.c (.lit (.int .i64 r.1.Kind)), .c (.lit (.int .i64 r.1.Num)), .c (.str r.1.Text), .c (.sl 1 (List.map cS r.1.Names)), .c (.sl 5 (List.map NodeT.cells r.1.Kids))]), (false, [.c (.lit (.bool r.2))])]) := by
  intro a_n1 a_path1 a_value1 r h
  refine fun_pure K.spec_addAt (ofK ?_)
  unfold C.spec_addAt
  rcases n with _ | n <;> simp only [G.spec_addAt, reduceCtorEq] at h
  obtain ⟨zc, zg, zk, zu, ze, zj, zt⟩ := pp (pp @F.spec_copyNode <| pp @F.spec_at <| pp @F.spec_addHere <| pp @F.spec_setAt ()) <| pp () <| pp () <| pp () <| pp () <| pp () <| ()
  exact drv
theorem F.spec_all_n : ∀ (n : Nat), ∀ {a_n1 : NodeT} {r : List (List Txt)}, G.spec_all n a_n1 = some r → APure Go.Proofs.Tryz.prog 34 [.agg [.c (.lit (.int .i64 a_n1.Kind)), .c (.lit (.int .i64 a_n1.Num)), .c (.str a_n1.Text), .c (.sl 1 (List.map cS a_n1.Names)), .c (.sl 5 (List.map NodeT.cells a_n1.Kids))]] (.one (.c (.sl 1 (List.map (cL 1 cS) r)))) := by
  intro n
  induction n using Nat.strongRecOn with | _ n ih =>
  intro a_n1 r h
  refine fun_pure K.spec_all (ofK ?_)
  unfold C.spec_all
  rcases n with _ | n <;> simp only [G.spec_all, reduceCtorEq] at h
  obtain ⟨zc, zg, zk, zu, ze, zj, zt⟩ := pp (pp ih <| pp @F.spec_decimal ()) <| pp () <| pp (pp (@lopX (Int × List (List Txt)) _ (fun n x => G.spec_all.L5 n a_n1 x.1 x.2) r (fun x => ASt.of [(1, .v true (.one (.ptr 121 0))), (3, .v true (.one (.own 122 x.2.length 1))), (4, .v true (.one (.c (.lit (.int .i64 x.1)))))] [(121, .var [.c (.lit (.int .i64 a_n1.Kind)), .c (.lit (.int .i64 a_n1.Num)), .c (.str a_n1.Text), .c (.sl 1 (List.map cS a_n1.Names)), .c (.sl 5 (List.map NodeT.cells a_n1.Kids))]), (122, .dat 1 (List.map (cL 1 cS) x.2))])) <| pp (@lopX (Int × Txt × List (List Txt) × Int × List (List Txt)) _ (fun n x => G.spec_all.L7 n a_n1 x.1 x.2.1 x.2.2.1 x.2.2.2.1 x.2.2.2.2) r (fun x => ASt.of [(1, .v true (.one (.ptr 129 0))), (3, .v true (.one (.own 130 x.2.2.2.2.length 1))), (4, .v true (.one (.c (.lit (.int .i64 x.1))))), (5, .v true (.one (.c (.str x.2.1)))), (6, .v true (.one (.c (.sl 1 (List.map (cL 1 cS) x.2.2.1))))), (7, .v true (.one (.c (.lit (.int .i64 x.2.2.2.1)))))] [(129, .var [.c (.lit (.int .i64 a_n1.Kind)), .c (.lit (.int .i64 a_n1.Num)), .c (.str a_n1.Text), .c (.sl 1 (List.map cS a_n1.Names)), .c (.sl 5 (List.map NodeT.cells a_n1.Kids))]), (130, .dat 1 (List.map (cL 1 cS) x.2.2.2.2))])) ()) <| pp (pp (@cutX (Int × List (List Txt) × Txt) _ (fun n x => G.spec_all.K6 n a_n1 x.1 x.2.1 x.2.2) r (fun x => ASt.of [(1, .v true (.one (.ptr 123 0))), (3, .v true (.one (.own 124 x.2.1.length 1))), (4, .v true (.one (.c (.lit (.int .i64 x.1))))), (5, .v true (.one (.c (.str x.2.2))))] [(123, .var [.c (.lit (.int .i64 a_n1.Kind)), .c (.lit (.int .i64 a_n1.Num)), .c (.str a_n1.Text), .c (.sl 1 (List.map cS a_n1.Names)), .c (.sl 5 (List.map NodeT.cells a_n1.Kids))]), (124, .dat 1 (List.map (cL 1 cS) x.2.1))])) ()) <| pp (pp (And.intro @G.spec_all.L5.eq_1 <| And.intro @G.spec_all.L5.eq_2 <| And.intro @G.spec_all.K6.eq_1 <| And.intro @G.spec_all.K6.eq_2 <| And.intro @G.spec_all.L7.eq_1 <| @G.spec_all.L7.eq_2) ()) <| pp (pp (@weakX [] [(121, 10), (122, 12)] []) <| pp (@weakX [] [(123, 121), (124, 122)] []) <| pp (@weakX [] [(129, 123), (130, 124)] []) <| pp (@weakX [] [(129, 129), (130, 16)] []) <| pp (@weakX [] [(121, 129), (122, 130)] []) ()) <| ()
  exact drv
theorem F.spec_all {n : Nat} : ∀ {a_n1 : NodeT} {r : List (List Txt)}, G.spec_all n a_n1 = some r → APure Go.Proofs.Tryz.prog 34 [.agg [.c (.lit (.int .i64 a_n1.Kind)), .c (.lit (.int .i64 a_n1.Num)), .c (.str a_n1.Text), .c (.sl 1 (List.map cS a_n1.Names)), .c (.sl 5 (List.map NodeT.cells a_n1.Kids))]] (.one (.c (.sl 1 (List.map (cL 1 cS) r)))) := F.spec_all_n n
theorem F.spec_removeAt {n : Nat} : ∀ {a_n1 : NodeT} {a_path1 : List Txt} {r : NodeT × Bool}, G.spec_removeAt n a_n1 a_path1 = some r → APure Go.Proofs.Tryz.prog 35 [.agg [.c (.lit (.int .i64 a_n1.Kind)), .c (.lit (.int .i64 a_n1.Num)), .c (.str a_n1.Text), .c (.sl 1 (List.map cS a_n1.Names)), .c (.sl 5 (List.map NodeT.cells a_n1.Kids))], .one (.c (.sl 1 (List.map cS a_path1)))] (.tup [(true, [.c (.lit (.int .i64 r.1.Kind)), .c (.lit (.int .i64 r.1.Num)), .c (.str r.1.Text), .c (.sl 1 (List.map cS r.1.Names)), .c (.sl 5 (List.map NodeT.cells r.1.Kids))]), (false, [.c (.lit (.bool r.2))])]) := by
  intro a_n1 a_path1 r h
  refine fun_pure K.spec_removeAt (ofK ?_)
  unfold C.spec_removeAt
  rcases n with _ | n <;> simp only [G.spec_removeAt, reduceCtorEq] at h
  obtain ⟨zc, zg, zk, zu, ze, zj, zt⟩ := pp (pp @F.spec_at <| pp @F.spec_place <| pp @F.spec_setAt ()) <| pp () <| pp () <| pp (pp (@cutX ((NodeT × Bool) × List NodeT × List Txt) _ (fun n x => G.spec_removeAt.K1 n a_n1 a_path1 x.1 x.2.1 x.2.2) r (fun x => ASt.of [(1, .v true (.one (.c (.sl 1 (List.map cS a_path1))))), (2, .v true (.one (.ptr 101 0))), (4, .v true (.one (.ptr 102 0))), (6, .v true (.one (.c (.lit (.int .i64 (IntKind.wrap .i64 (((a_path1.length : Nat) : Int) - 1))))))), (7, .v true (.one (.ptr 103 0))), (10, .v true (.one (.own 104 x.2.1.length 5))), (11, .v true (.one (.own 105 x.2.2.length 1)))] [(101, .var [.c (.lit (.int .i64 a_n1.Kind)), .c (.lit (.int .i64 a_n1.Num)), .c (.str a_n1.Text), .c (.sl 1 (List.map cS a_n1.Names)), .c (.sl 5 (List.map NodeT.cells a_n1.Kids))]), (102, .var [.c (.lit (.int .i64 0)), .c (.lit (.int .i64 0)), .c (.str []), .nsl 1, .nsl 5]), (103, .var [.c (.lit (.int .i64 x.1.1.Kind)), .c (.lit (.int .i64 x.1.1.Num)), .c (.str x.1.1.Text), .c (.sl 1 (List.map cS x.1.1.Names)), .c (.sl 5 (List.map NodeT.cells x.1.1.Kids))]), (104, .dat 5 (List.map NodeT.cells x.2.1)), (105, .dat 1 (List.map cS x.2.2))])) ()) <| pp (pp (And.intro @G.spec_removeAt.K1.eq_1 <| @G.spec_removeAt.K1.eq_2) ()) <| pp (pp (@weakX [] [(101, 10), (102, 11), (103, 12), (104, 15), (105, 19)] []) <| pp (@weakX [] [(101, 10), (102, 11), (103, 12), (104, 15), (105, 16)] []) ()) <| ()
  exact drv
theorem F.spec_nearNode {n : Nat} : ∀ {p_r1 : ReaderT} {a_n1 : NodeT} {r : NodeT × ReaderT}, G.spec_nearNode n p_r1 a_n1 = some r → ACalls Go.Proofs.Tryz.prog 15 [.one (.ptr 0 0), .agg [.c (.lit (.int .i64 a_n1.Kind)), .c (.lit (.int .i64 a_n1.Num)), .c (.str a_n1.Text), .c (.sl 1 (List.map cS a_n1.Names)), .c (.sl 5 (List.map NodeT.cells a_n1.Kids))]] [.var [.c (.sl 1 (List.map cU p_r1.b)), .c (.lit (.int .i64 p_r1.p))]] (fun r1 b1 => r1 = .agg [.c (.lit (.int .i64 r.1.Kind)), .c (.lit (.int .i64 r.1.Num)), .c (.str r.1.Text), .c (.sl 1 (List.map cS r.1.Names)), .c (.sl 5 (List.map NodeT.cells r.1.Kids))] ∧ b1 = [.var [.c (.sl 1 (List.map cU r.2.b)), .c (.lit (.int .i64 r.2.p))]]) := by
  intro p_r1 a_n1 r h
  refine fun_sound K.spec_nearNode (ofK ?_)
  unfold C.spec_nearNode
  rcases n with _ | n <;> simp only [G.spec_nearNode, reduceCtorEq] at h
  obtain ⟨zc, zg, zk, zu, ze, zj, zt⟩ := pp (pp @F.spec_all <| pp @F.spec_copyNode <| pp @F.spec_removeAt <| pp @F.spec_addAt <| pp @F.spec_setAt <| pp @F.spec_validNode ()) <| pp (pp (pp @F.spec_reader_pick (@cG [0] [])) <| pp (pp @F.spec_reader_of (@cH [0] [])) <| pp (pp @F.spec_randomNode (@cG [0] [])) <| pp (pp @F.spec_someNode (@cG [0] [])) ()) <| pp () <| pp (pp (@cutX (Bool × List Int × Int × Int × Int × Txt × List Txt × List NodeT) _ (fun n x => G.spec_nearNode.K1 n a_n1 x.1 x.2.1 x.2.2.1 x.2.2.2.1 x.2.2.2.2.1 x.2.2.2.2.2.1 x.2.2.2.2.2.2.1 x.2.2.2.2.2.2.2) r (fun x => ASt.of [(3, .v true (.one (.ptr 101 0))), (4, .v true (.one (.ptr 102 0))), (7, .v true (.one (.ptr 103 0))), (8, .v true (.one (.c (.lit (.bool x.1)))))] [(0, .var [.c (.sl 1 (List.map cU x.2.1)), .c (.lit (.int .i64 x.2.2.1))]), (101, .var [.c (.lit (.int .i64 a_n1.Kind)), .c (.lit (.int .i64 a_n1.Num)), .c (.str a_n1.Text), .c (.sl 1 (List.map cS a_n1.Names)), .c (.sl 5 (List.map NodeT.cells a_n1.Kids))]), (102, .var [.c (.lit (.int .i64 0)), .c (.lit (.int .i64 0)), .c (.str []), .nsl 1, .nsl 5]), (103, .var [.c (.lit (.int .i64 x.2.2.2.1)), .c (.lit (.int .i64 x.2.2.2.2.1)), .c (.str x.2.2.2.2.2.1), .c (.sl 1 (List.map cS x.2.2.2.2.2.2.1)), .c (.sl 5 (List.map NodeT.cells x.2.2.2.2.2.2.2))])])) ()) <| pp (pp (And.intro @G.spec_nearNode.K1.eq_1 <| @G.spec_nearNode.K1.eq_2) ()) <| pp (pp (@weakX [] [(0, 0), (101, 10), (102, 11), (103, 12)] []) ()) <| (pp (@retX [] [(0, 0)] []) ())
  exact drv
theorem F.spec_newReader {n : Nat} : ∀ {a_code1 : List Int} {r : ReaderT}, G.spec_newReader n a_code1 = some r → ACalls Go.Proofs.Tryz.prog 12 [.one (.c (.sl 1 (List.map cU a_code1)))] [] (fun r1 b1 => r1 = .one (.ptr 0 0) ∧ b1 = [.var [.c (.sl 1 (List.map cU r.b)), .c (.lit (.int .i64 r.p))]]) := by
  intro a_code1 r h
  refine fun_sound K.spec_newReader (ofK ?_)
  unfold C.spec_newReader
  rcases n with _ | n <;> simp only [G.spec_newReader, reduceCtorEq] at h
  obtain ⟨zc, zg, zk, zu, ze, zj, zt⟩ := pp () <| pp () <| pp () <| pp () <| pp () <| pp () <| (pp (@retX [] [(0, 10)] []) ())
  exact drv
theorem F.spec_DrawMergeThree {n : Nat} : ∀ {a_code1 : List Int} {r : NodeT × NodeT × NodeT}, G.spec_DrawMergeThree n a_code1 = some r → APure Go.Proofs.Tryz.prog 4 [.one (.c (.sl 1 (List.map cU a_code1)))] (.tup [(true, [.c (.lit (.int .i64 r.1.Kind)), .c (.lit (.int .i64 r.1.Num)), .c (.str r.1.Text), .c (.sl 1 (List.map cS r.1.Names)), .c (.sl 5 (List.map NodeT.cells r.1.Kids))]), (true, [.c (.lit (.int .i64 r.2.1.Kind)), .c (.lit (.int .i64 r.2.1.Num)), .c (.str r.2.1.Text), .c (.sl 1 (List.map cS r.2.1.Names)), .c (.sl 5 (List.map NodeT.cells r.2.1.Kids))]), (true, [.c (.lit (.int .i64 r.2.2.Kind)), .c (.lit (.int .i64 r.2.2.Num)), .c (.str r.2.2.Text), .c (.sl 1 (List.map cS r.2.2.Names)), .c (.sl 5 (List.map NodeT.cells r.2.2.Kids))])]) := by
  intro a_code1 r h
  refine fun_pure K.spec_DrawMergeThree (ofK ?_)
  unfold C.spec_DrawMergeThree
  rcases n with _ | n <;> simp only [G.spec_DrawMergeThree, reduceCtorEq] at h
  obtain ⟨zc, zg, zk, zu, ze, zj, zt⟩ := pp (pp @F.spec_validNode ()) <| pp (pp (pp @F.spec_newReader (@cG [] [101])) <| pp (pp @F.spec_anyNode (@cG [101] [])) <| pp (pp @F.spec_nearNode (@cG [101] [])) <| pp (pp @F.spec_reader_pick (@cG [101] [])) ()) <| pp () <| pp () <| pp () <| pp () <| ()
  exact drv
theorem F.spec_checked {n : Nat} : ∀ {a_n1 : NodeT} {a_ok1 : Bool} {r : NodeT × Bool}, G.spec_checked n a_n1 a_ok1 = some r → APure Go.Proofs.Tryz.prog 19 [.agg [.c (.lit (.int .i64 a_n1.Kind)), .c (.lit (.int .i64 a_n1.Num)), .c (.str a_n1.Text), .c (.sl 1 (List.map cS a_n1.Names)), .c (.sl 5 (List.map NodeT.cells a_n1.Kids))], .one (.c (.lit (.bool a_ok1)))] (.tup [(true, [.c (.lit (.int .i64 r.1.Kind)), .c (.lit (.int .i64 r.1.Num)), .c (.str r.1.Text), .c (.sl 1 (List.map cS r.1.Names)), .c (.sl 5 (List.map NodeT.cells r.1.Kids))]), (false, [.c (.lit (.bool r.2))])]) := by
  intro a_n1 a_ok1 r h
  refine fun_pure K.spec_checked (ofK ?_)
  unfold C.spec_checked
  rcases n with _ | n <;> simp only [G.spec_checked, reduceCtorEq] at h
  obtain ⟨zc, zg, zk, zu, ze, zj, zt⟩ := pp (pp @F.spec_validNode ()) <| pp () <| pp () <| pp () <| pp () <| pp () <| ()
  exact drv
theorem F.spec_nameUnion {n : Nat} : ∀ {a_a1 : List Txt} {a_b1 : List Txt} {r : List Txt}, G.spec_nameUnion n a_a1 a_b1 = some r → APure Go.Proofs.Tryz.prog 47 [.one (.c (.sl 1 (List.map cS a_a1))), .one (.c (.sl 1 (List.map cS a_b1)))] (.one (.c (.sl 1 (List.map cS r)))) := by
  intro a_a1 a_b1 r h
  refine fun_pure K.spec_nameUnion (ofK ?_)
  unfold C.spec_nameUnion
  rcases n with _ | n <;> simp only [G.spec_nameUnion, reduceCtorEq] at h
  obtain ⟨zc, zg, zk, zu, ze, zj, zt⟩ := pp () <| pp () <| pp (pp (@lopX (Int × Int × List Txt) _ (fun n x => G.spec_nameUnion.L1 n a_a1 a_b1 x.1 x.2.1 x.2.2) r (fun x => ASt.of [(0, .v true (.one (.c (.sl 1 (List.map cS a_a1))))), (1, .v true (.one (.c (.sl 1 (List.map cS a_b1))))), (5, .v true (.one (.own 103 x.2.2.length 1))), (6, .v true (.one (.c (.lit (.int .i64 x.1))))), (7, .v true (.one (.c (.lit (.int .i64 x.2.1)))))] [(103, .dat 1 (List.map cS x.2.2))])) ()) <| pp () <| pp (pp (And.intro @G.spec_nameUnion.L1.eq_1 <| @G.spec_nameUnion.L1.eq_2) ()) <| pp (pp (@weakX [] [(103, 10)] []) <| pp (@weakX [] [(103, 12)] []) <| pp (@weakX [] [(103, 14)] []) <| pp (@weakX [] [(103, 16)] []) ()) <| ()
  exact drv
theorem F.spec_toInt {n : Nat} : ∀ {a_b1 : Bool} {r : Int}, G.spec_toInt n a_b1 = some r → APure Go.Proofs.Tryz.prog 108 [.one (.c (.lit (.bool a_b1)))] (.one (.c (.lit (.int .i64 r)))) := by
  intro a_b1 r h
  refine fun_pure K.spec_toInt (ofK ?_)
  unfold C.spec_toInt
  rcases n with _ | n <;> simp only [G.spec_toInt, reduceCtorEq] at h
  obtain ⟨zc, zg, zk, zu, ze, zj, zt⟩ := pp () <| pp () <| pp () <| pp () <| pp () <| pp () <| ()
  exact drv
theorem F.spec_order {n : Nat} : ∀ {a_a1 : Int} {a_b1 : Int} {r : Int}, G.spec_order n a_a1 a_b1 = some r → APure Go.Proofs.Tryz.prog 95 [.one (.c (.lit (.int .i64 a_a1))), .one (.c (.lit (.int .i64 a_b1)))] (.one (.c (.lit (.int .i64 r)))) := by
  intro a_a1 a_b1 r h
  refine fun_pure K.spec_order (ofK ?_)
  unfold C.spec_order
  rcases n with _ | n <;> simp only [G.spec_order, reduceCtorEq] at h
  obtain ⟨zc, zg, zk, zu, ze, zj, zt⟩ := pp (pp @F.spec_toInt ()) <| pp () <| pp () <| pp () <| pp () <| pp () <| ()
  exact drv
theorem F.spec_orderText {n : Nat} : ∀ {a_a1 : Txt} {a_b1 : Txt} {r : Int}, G.spec_orderText n a_a1 a_b1 = some r → APure Go.Proofs.Tryz.prog 96 [.one (.c (.str a_a1)), .one (.c (.str a_b1))] (.one (.c (.lit (.int .i64 r)))) := by
  intro a_a1 a_b1 r h
  refine fun_pure K.spec_orderText (ofK ?_)
  unfold C.spec_orderText
  rcases n with _ | n <;> simp only [G.spec_orderText, reduceCtorEq] at h
  obtain ⟨zc, zg, zk, zu, ze, zj, zt⟩ := pp (pp @F.spec_toInt ()) <| pp () <| pp () <| pp () <| pp () <| pp () <| ()
  exact drv
theorem F.spec_compare_n : ∀ (n : Nat), ∀ {a_a1 : NodeT} {a_b1 : NodeT} {r : Int}, G.spec_compare n a_a1 a_b1 = some r → APure Go.Proofs.Tryz.prog 72 [.agg [.c (.lit (.int .i64 a_a1.Kind)), .c (.lit (.int .i64 a_a1.Num)), .c (.str a_a1.Text), .c (.sl 1 (List.map cS a_a1.Names)), .c (.sl 5 (List.map NodeT.cells a_a1.Kids))], .agg [.c (.lit (.int .i64 a_b1.Kind)), .c (.lit (.int .i64 a_b1.Num)), .c (.str a_b1.Text), .c (.sl 1 (List.map cS a_b1.Names)), .c (.sl 5 (List.map NodeT.cells a_b1.Kids))]] (.one (.c (.lit (.int .i64 r)))) := by
  intro n
  induction n using Nat.strongRecOn with | _ n ih =>
  intro a_a1 a_b1 r h
  refine fun_pure K.spec_compare (ofK ?_)
  unfold C.spec_compare
  rcases n with _ | n <;> simp only [G.spec_compare, reduceCtorEq] at h
  obtain ⟨zc, zg, zk, zu, ze, zj, zt⟩ := pp (pp ih <| pp @F.spec_order <| pp @F.spec_orderText ()) <| pp () <| pp (pp (@lopX (Int) _ (fun n x => G.spec_compare.L1 n a_a1 a_b1 x) r (fun x => ASt.of [(2, .v true (.one (.ptr 105 0))), (3, .v true (.one (.ptr 106 0))), (5, .v true (.one (.c (.lit (.int .i64 x)))))] [(105, .var [.c (.lit (.int .i64 a_a1.Kind)), .c (.lit (.int .i64 a_a1.Num)), .c (.str a_a1.Text), .c (.sl 1 (List.map cS a_a1.Names)), .c (.sl 5 (List.map NodeT.cells a_a1.Kids))]), (106, .var [.c (.lit (.int .i64 a_b1.Kind)), .c (.lit (.int .i64 a_b1.Num)), .c (.str a_b1.Text), .c (.sl 1 (List.map cS a_b1.Names)), .c (.sl 5 (List.map NodeT.cells a_b1.Kids))])])) ()) <| pp () <| pp (pp (And.intro @G.spec_compare.L1.eq_1 <| @G.spec_compare.L1.eq_2) ()) <| pp (pp (@weakX [] [(105, 10), (106, 11)] []) <| pp (@weakX [] [(105, 105), (106, 106)] []) ()) <| ()
  exact drv
theorem F.spec_compare {n : Nat} : ∀ {a_a1 : NodeT} {a_b1 : NodeT} {r : Int}, G.spec_compare n a_a1 a_b1 = some r → APure Go.Proofs.Tryz.prog 72 [.agg [.c (.lit (.int .i64 a_a1.Kind)), .c (.lit (.int .i64 a_a1.Num)), .c (.str a_a1.Text), .c (.sl 1 (List.map cS a_a1.Names)), .c (.sl 5 (List.map NodeT.cells a_a1.Kids))], .agg [.c (.lit (.int .i64 a_b1.Kind)), .c (.lit (.int .i64 a_b1.Num)), .c (.str a_b1.Text), .c (.sl 1 (List.map cS a_b1.Names)), .c (.sl 5 (List.map NodeT.cells a_b1.Kids))]] (.one (.c (.lit (.int .i64 r)))) := F.spec_compare_n n
theorem F.spec_same {n : Nat} : ∀ {a_a1 : NodeT} {a_b1 : NodeT} {r : Bool}, G.spec_same n a_a1 a_b1 = some r → APure Go.Proofs.Tryz.prog 46 [.agg [.c (.lit (.int .i64 a_a1.Kind)), .c (.lit (.int .i64 a_a1.Num)), .c (.str a_a1.Text), .c (.sl 1 (List.map cS a_a1.Names)), .c (.sl 5 (List.map NodeT.cells a_a1.Kids))], .agg [.c (.lit (.int .i64 a_b1.Kind)), .c (.lit (.int .i64 a_b1.Num)), .c (.str a_b1.Text), .c (.sl 1 (List.map cS a_b1.Names)), .c (.sl 5 (List.map NodeT.cells a_b1.Kids))]] (.one (.c (.lit (.bool r)))) := by
  intro a_a1 a_b1 r h
  refine fun_pure K.spec_same (ofK ?_)
  unfold C.spec_same
  rcases n with _ | n <;> simp only [G.spec_same, reduceCtorEq] at h
  obtain ⟨zc, zg, zk, zu, ze, zj, zt⟩ := pp (pp @F.spec_compare ()) <| pp () <| pp () <| pp () <| pp () <| pp () <| ()
  exact drv
theorem F.scc_spec_three : ∀ (n : Nat), (∀ {a_base1 : NodeT} {a_a1 : NodeT} {a_b1 : NodeT} {r : NodeT × Bool}, G.spec_three n a_base1 a_a1 a_b1 = some r → APure Go.Proofs.Tryz.prog 20 [.agg [.c (.lit (.int .i64 a_base1.Kind)), .c (.lit (.int .i64 a_base1.Num)), .c (.str a_base1.Text), .c (.sl 1 (List.map cS a_base1.Names)), .c (.sl 5 (List.map NodeT.cells a_base1.Kids))], .agg [.c (.lit (.int .i64 a_a1.Kind)), .c (.lit (.int .i64 a_a1.Num)), .c (.str a_a1.Text), .c (.sl 1 (List.map cS a_a1.Names)), .c (.sl 5 (List.map NodeT.cells a_a1.Kids))], .agg [.c (.lit (.int .i64 a_b1.Kind)), .c (.lit (.int .i64 a_b1.Num)), .c (.str a_b1.Text), .c (.sl 1 (List.map cS a_b1.Names)), .c (.sl 5 (List.map NodeT.cells a_b1.Kids))]] (.tup [(true, [.c (.lit (.int .i64 r.1.Kind)), .c (.lit (.int .i64 r.1.Num)), .c (.str r.1.Text), .c (.sl 1 (List.map cS r.1.Names)), .c (.sl 5 (List.map NodeT.cells r.1.Kids))]), (false, [.c (.lit (.bool r.2))])])) ∧ (∀ {a_base1 : NodeT} {a_a1 : NodeT} {a_b1 : NodeT} {a_name1 : Txt} {r : NodeT × Bool × Bool}, G.spec_threeNames n a_base1 a_a1 a_b1 a_name1 = some r → APure Go.Proofs.Tryz.prog 48 [.agg [.c (.lit (.int .i64 a_base1.Kind)), .c (.lit (.int .i64 a_base1.Num)), .c (.str a_base1.Text), .c (.sl 1 (List.map cS a_base1.Names)), .c (.sl 5 (List.map NodeT.cells a_base1.Kids))], .agg [.c (.lit (.int .i64 a_a1.Kind)), .c (.lit (.int .i64 a_a1.Num)), .c (.str a_a1.Text), .c (.sl 1 (List.map cS a_a1.Names)), .c (.sl 5 (List.map NodeT.cells a_a1.Kids))], .agg [.c (.lit (.int .i64 a_b1.Kind)), .c (.lit (.int .i64 a_b1.Num)), .c (.str a_b1.Text), .c (.sl 1 (List.map cS a_b1.Names)), .c (.sl 5 (List.map NodeT.cells a_b1.Kids))], .one (.c (.str a_name1))] (.tup [(true, [.c (.lit (.int .i64 r.1.Kind)), .c (.lit (.int .i64 r.1.Num)), .c (.str r.1.Text), .c (.sl 1 (List.map cS r.1.Names)), .c (.sl 5 (List.map NodeT.cells r.1.Kids))]), (false, [.c (.lit (.bool r.2.1))]), (false, [.c (.lit (.bool r.2.2))])])) := by
  intro n
  induction n using Nat.strongRecOn with | _ n ih =>
  refine ⟨?_, ?_⟩
  · intro a_base1 a_a1 a_b1 r h
    refine fun_pure K.spec_three (ofK ?_)
    unfold C.spec_three
    rcases n with _ | n <;> simp only [G.spec_three, reduceCtorEq] at h
    obtain ⟨zc, zg, zk, zu, ze, zj, zt⟩ := pp (pp ((ihR ih)) <| pp @F.spec_same <| pp @F.spec_copyNode <| pp @F.spec_nameUnion <| pp @F.spec_addHere ()) <| pp () <| pp (pp (@lopX (List Txt × Int × Int × Int × Txt × List Txt × List NodeT) _ (fun n x => G.spec_three.L2 n a_base1 a_a1 a_b1 x.1 x.2.1 x.2.2.1 x.2.2.2.1 x.2.2.2.2.1 x.2.2.2.2.2.1 x.2.2.2.2.2.2) r (fun x => ASt.of [(3, .v true (.one (.ptr 117 0))), (4, .v true (.one (.ptr 118 0))), (5, .v true (.one (.ptr 119 0))), (6, .v true (.one (.ptr 120 0))), (8, .v true (.one (.ptr 121 0))), (9, .v true (.one (.c (.sl 1 (List.map cS x.1))))), (10, .v true (.one (.c (.lit (.int .i64 x.2.1)))))] [(117, .var [.c (.lit (.int .i64 a_base1.Kind)), .c (.lit (.int .i64 a_base1.Num)), .c (.str a_base1.Text), .c (.sl 1 (List.map cS a_base1.Names)), .c (.sl 5 (List.map NodeT.cells a_base1.Kids))]), (118, .var [.c (.lit (.int .i64 a_a1.Kind)), .c (.lit (.int .i64 a_a1.Num)), .c (.str a_a1.Text), .c (.sl 1 (List.map cS a_a1.Names)), .c (.sl 5 (List.map NodeT.cells a_a1.Kids))]), (119, .var [.c (.lit (.int .i64 a_b1.Kind)), .c (.lit (.int .i64 a_b1.Num)), .c (.str a_b1.Text), .c (.sl 1 (List.map cS a_b1.Names)), .c (.sl 5 (List.map NodeT.cells a_b1.Kids))]), (120, .var [.c (.lit (.int .i64 0)), .c (.lit (.int .i64 0)), .c (.str []), .nsl 1, .nsl 5]), (121, .var [.c (.lit (.int .i64 x.2.2.1)), .c (.lit (.int .i64 x.2.2.2.1)), .c (.str x.2.2.2.2.1), .c (.sl 1 (List.map cS x.2.2.2.2.2.1)), .c (.sl 5 (List.map NodeT.cells x.2.2.2.2.2.2))])])) ()) <| pp (pp (@cutX (Unit) _ (fun n x => G.spec_three.K1 n a_base1 a_a1 a_b1) r (fun x => ASt.of [(3, .v true (.one (.ptr 101 0))), (4, .v true (.one (.ptr 102 0))), (5, .v true (.one (.ptr 103 0))), (6, .v true (.one (.ptr 104 0))), (31, .v true (.one (.c (.lit (.bool false)))))] [(101, .var [.c (.lit (.int .i64 a_base1.Kind)), .c (.lit (.int .i64 a_base1.Num)), .c (.str a_base1.Text), .c (.sl 1 (List.map cS a_base1.Names)), .c (.sl 5 (List.map NodeT.cells a_base1.Kids))]), (102, .var [.c (.lit (.int .i64 a_a1.Kind)), .c (.lit (.int .i64 a_a1.Num)), .c (.str a_a1.Text), .c (.sl 1 (List.map cS a_a1.Names)), .c (.sl 5 (List.map NodeT.cells a_a1.Kids))]), (103, .var [.c (.lit (.int .i64 a_b1.Kind)), .c (.lit (.int .i64 a_b1.Num)), .c (.str a_b1.Text), .c (.sl 1 (List.map cS a_b1.Names)), .c (.sl 5 (List.map NodeT.cells a_b1.Kids))]), (104, .var [.c (.lit (.int .i64 0)), .c (.lit (.int .i64 0)), .c (.str []), .nsl 1, .nsl 5])])) ()) <| pp (pp (And.intro @G.spec_three.K1.eq_1 <| And.intro @G.spec_three.K1.eq_2 <| And.intro @G.spec_three.L2.eq_1 <| @G.spec_three.L2.eq_2) ()) <| pp (pp (@weakX [] [(101, 10), (102, 11), (103, 12), (104, 13)] []) <| pp (@weakX [14, 15] [(117, 101), (118, 102), (119, 103), (120, 104), (121, 16)] []) <| pp (@weakX [] [(117, 117), (118, 118), (119, 119), (120, 120), (121, 121)] []) ()) <| ()
    exact drv
  · intro a_base1 a_a1 a_b1 a_name1 r h
    refine fun_pure K.spec_threeNames (ofK ?_)
    unfold C.spec_threeNames
    rcases n with _ | n <;> simp only [G.spec_threeNames, reduceCtorEq] at h
    obtain ⟨zc, zg, zk, zu, ze, zj, zt⟩ := pp (pp ((ihL ih)) <| pp @F.spec_place <| pp @F.spec_same ()) <| pp () <| pp () <| pp () <| pp () <| pp () <| ()
    exact drv
theorem F.spec_three {n : Nat} : ∀ {a_base1 : NodeT} {a_a1 : NodeT} {a_b1 : NodeT} {r : NodeT × Bool}, G.spec_three n a_base1 a_a1 a_b1 = some r → APure Go.Proofs.Tryz.prog 20 [.agg [.c (.lit (.int .i64 a_base1.Kind)), .c (.lit (.int .i64 a_base1.Num)), .c (.str a_base1.Text), .c (.sl 1 (List.map cS a_base1.Names)), .c (.sl 5 (List.map NodeT.cells a_base1.Kids))], .agg [.c (.lit (.int .i64 a_a1.Kind)), .c (.lit (.int .i64 a_a1.Num)), .c (.str a_a1.Text), .c (.sl 1 (List.map cS a_a1.Names)), .c (.sl 5 (List.map NodeT.cells a_a1.Kids))], .agg [.c (.lit (.int .i64 a_b1.Kind)), .c (.lit (.int .i64 a_b1.Num)), .c (.str a_b1.Text), .c (.sl 1 (List.map cS a_b1.Names)), .c (.sl 5 (List.map NodeT.cells a_b1.Kids))]] (.tup [(true, [.c (.lit (.int .i64 r.1.Kind)), .c (.lit (.int .i64 r.1.Num)), .c (.str r.1.Text), .c (.sl 1 (List.map cS r.1.Names)), .c (.sl 5 (List.map NodeT.cells r.1.Kids))]), (false, [.c (.lit (.bool r.2))])]) := (F.scc_spec_three n).1
theorem F.spec_MergeThree {n : Nat} : ∀ {a_base1 : NodeT} {a_a1 : NodeT} {a_b1 : NodeT} {r : NodeT × Bool}, G.spec_MergeThree n a_base1 a_a1 a_b1 = some r → APure Go.Proofs.Tryz.prog 6 [.agg [.c (.lit (.int .i64 a_base1.Kind)), .c (.lit (.int .i64 a_base1.Num)), .c (.str a_base1.Text), .c (.sl 1 (List.map cS a_base1.Names)), .c (.sl 5 (List.map NodeT.cells a_base1.Kids))], .agg [.c (.lit (.int .i64 a_a1.Kind)), .c (.lit (.int .i64 a_a1.Num)), .c (.str a_a1.Text), .c (.sl 1 (List.map cS a_a1.Names)), .c (.sl 5 (List.map NodeT.cells a_a1.Kids))], .agg [.c (.lit (.int .i64 a_b1.Kind)), .c (.lit (.int .i64 a_b1.Num)), .c (.str a_b1.Text), .c (.sl 1 (List.map cS a_b1.Names)), .c (.sl 5 (List.map NodeT.cells a_b1.Kids))]] (.tup [(true, [.c (.lit (.int .i64 r.1.Kind)), .c (.lit (.int .i64 r.1.Num)), .c (.str r.1.Text), .c (.sl 1 (List.map cS r.1.Names)), .c (.sl 5 (List.map NodeT.cells r.1.Kids))]), (false, [.c (.lit (.bool r.2))])]) := by
  intro a_base1 a_a1 a_b1 r h
  refine fun_pure K.spec_MergeThree (ofK ?_)
  unfold C.spec_MergeThree
  rcases n with _ | n <;> simp only [G.spec_MergeThree, reduceCtorEq] at h
  obtain ⟨zc, zg, zk, zu, ze, zj, zt⟩ := pp (pp @F.spec_validNode <| pp @F.spec_three <| pp @F.spec_checked ()) <| pp () <| pp () <| pp () <| pp () <| pp () <| ()
  exact drv
theorem F.laws_FnMergeThreeDiff {n : Nat} : ∀ {a_code1 : List Int} {r : Bool}, G.laws_FnMergeThreeDiff n a_code1 = some r → APure Go.Proofs.Tryz.prog 3 [.one (.c (.sl 1 (List.map cU a_code1)))] (.one (.c (.lit (.bool r)))) := by
  intro a_code1 r h
  refine fun_pure K.laws_FnMergeThreeDiff (ofK ?_)
  unfold C.laws_FnMergeThreeDiff
  rcases n with _ | n <;> simp only [G.laws_FnMergeThreeDiff, reduceCtorEq] at h
  obtain ⟨zc, zg, zk, zu, ze, zj, zt⟩ := pp (pp @F.spec_DrawMergeThree <| pp @F.impl_MergeThree <| pp @F.spec_MergeThree <| pp @F.laws_equalNode <| pp @F.impl_ValidNode <| pp @F.laws_isName <| pp @F.laws_number <| pp @F.impl_AddNode ()) <| pp () <| pp () <| pp (pp (@cutX ((NodeT × NodeT × NodeT) × Bool × Bool) _ (fun n x => G.laws_FnMergeThreeDiff.K1 n x.1 x.2.1 x.2.2) r (fun x => ASt.of [(3, .v true (.one (.ptr 101 0))), (7, .v true (.one (.c (.lit (.bool x.2.1))))), (9, .v true (.one (.c (.lit (.bool x.2.2))))), (69, .v true (.one (.c (.lit (.bool false)))))] [(101, .var [.c (.lit (.int .i64 x.1.1.Kind)), .c (.lit (.int .i64 x.1.1.Num)), .c (.str x.1.1.Text), .c (.sl 1 (List.map cS x.1.1.Names)), .c (.sl 5 (List.map NodeT.cells x.1.1.Kids))])])) ()) <| pp (pp (And.intro @G.laws_FnMergeThreeDiff.K1.eq_1 <| @G.laws_FnMergeThreeDiff.K1.eq_2) ()) <| pp (pp (@weakX [] [(101, 10)] []) ()) <| ()
  exact drv
end Go.Ab
end
