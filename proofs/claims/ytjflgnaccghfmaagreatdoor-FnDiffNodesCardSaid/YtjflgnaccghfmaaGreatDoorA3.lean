/- The law FnDiffNodes of the package laws answers true for every code of bytes and leaves it as it is: the abstract interpreter of the program, the printed functions and proofs, the laws of the data, the statement (part 5 of the proof). Conditions: none but what the row lists. -/
import Derived.Test.YtjflgnaccghfmaaGreatDoorA2
set_option linter.unusedVariables false
set_option linter.unusedSimpArgs false
section
namespace Go.Ab
open Go
set_option maxRecDepth 100000
theorem kid_shape {d : Nat} {n x : NodeT} {s : Txt} (h : Shape (d + 1) n = true) (hx : lk n s = some x) : Shape d x = true := shape_kids h x (lk_kid hx)
end Go.Ab
end
section
namespace Go.Ab
open Go
set_option maxRecDepth 100000
theorem bool_of {v : Bool} {P : Prop} (h : v = true ↔ P) (hp : ¬ P) : v = false := by
  cases v with
  | false => rfl
  | true => exact absurd (h.1 rfl) hp
section
variable {B D E F : Nat} {o a b : NodeT} (hB : B ≤ lim) (ho : Fine B D o) (ha : Fine B E a) (hb : Fine B F b)
include hB ho ha hb
end
end Go.Ab
end
section
namespace Go.Ab
open Go
set_option maxRecDepth 100000
theorem all_grow : ∀ f : Nat, (∀ n i z l, G.spec_all.L5 f n i z = some l → z.length ≤ l.length) ∧ (∀ n i z s l, G.spec_all.K6 f n i z s = some l → z.length ≤ l.length) ∧
    (∀ n i s v k z l, G.spec_all.L7 f n i s v k z = some l → z.length ≤ l.length)
  | 0 => ⟨fun n i z l h => (by simp only [G.spec_all.L5, reduceCtorEq] at h), fun n i z s l h => (by simp only [G.spec_all.K6, reduceCtorEq] at h), fun n i s v k z l h => (by simp only [G.spec_all.L7, reduceCtorEq] at h)⟩
  | f + 1 => by
    obtain ⟨h5, h6, h7⟩ := all_grow f
    refine ⟨fun n i z l h => ?_, fun n i z s l h => ?_, fun n i s v k z l h => ?_⟩
    · simp only [G.spec_all.L5] at h
      rcases cond_some.1 h with ⟨_, h⟩ | ⟨_, h⟩
      · obtain ⟨v, _, h⟩ := Option.bind_eq_some_iff.1 h
        rcases cond_some.1 h with ⟨_, h⟩ | ⟨_, h⟩
        · exact h6 _ _ _ _ _ (chk_some.1 h).2
        · exact h6 _ _ _ _ _ h
      · cases h; exact Nat.le_refl _
    · simp only [G.spec_all.K6] at h
      obtain ⟨v, _, h⟩ := Option.bind_eq_some_iff.1 (chk_some.1 h).2
      exact h7 _ _ _ _ _ _ _ h
    · simp only [G.spec_all.L7] at h
      rcases cond_some.1 h with ⟨_, h⟩ | ⟨_, h⟩
      · have := h7 _ _ _ _ _ _ _ (chk_some.1 (chk_some.1 (chk_some.1 h).2).2).2
        simp at this; omega
      · exact h5 _ _ _ _ h
theorem all_pos {f : Nat} {n : NodeT} {l : List (List Txt)} (h : G.spec_all f n = some l) : 0 < l.length := by
  cases f with
  | zero => simp only [G.spec_all, reduceCtorEq] at h
  | succ f =>
    simp only [G.spec_all] at h
    have := (all_grow f).1 _ _ _ _ h
    simp at this; omega
theorem D.all1 {n : NodeT} (h : Val n = true) : Tot (fun l => Few 16807 5 l ∧ 0 < l.length) (fun f => G.spec_all f n) := by
  obtain ⟨l, g, hl⟩ := D.all 5 (Nat.le_refl _) (val_shape h)
  obtain ⟨m, hm⟩ := g.val
  exact ⟨l, g, hl, all_pos hm⟩
theorem D.near.K1 {K : Nat} {r : ReaderT} {n : NodeT} {o : Option NodeT} (hn : Val n = true) (ho : ∀ m, o = some m → FineE 61 m) (hr : RdOK K r) :
    Dr K (fun x => Val x = true) (fun f => G.spec_nearNode.K1 f n (pairO o).2 r.b r.p (pairO o).1.Kind (pairO o).1.Num (pairO o).1.Text (pairO o).1.Names (pairO o).1.Kids) := by
  refine Tot.up ?_
  simp only [G.spec_nearNode.K1, NodeT.eta, ReaderT.eta]
  have cp := T.spec_copyNode lim12 (val_fine hn)
  cases o with
  | none => exact Tot.ite (fun e => by cases e) (fun _ => Tot.bindE cp (Tot.ret ⟨hn, hr⟩))
  | some m =>
    obtain ⟨E, hm⟩ := ho m rfl
    refine Tot.ite (fun _ => Tot.bindE (T.spec_validNode (by decide : 61 ≤ lim) hm) (Tot.ite (fun e => Tot.ret ⟨e, hr⟩) (fun _ => Tot.bindE cp (Tot.ret ⟨hn, hr⟩)))) (fun e => by cases e)
theorem D.nearNode {K : Nat} {r : ReaderT} {n : NodeT} (hn : Val n = true) (hr : RdOK K r) (hK : K ≤ 600000000) : Dr (K + 2000) (fun x => Val x = true) (fun f => G.spec_nearNode f r n) := by
  have h12 := val_fine hn
  have h60 := fine_val hn
  refine Tot.up ?_
  simp only [G.spec_nearNode]
  refine Tot.bind (D.all1 hn) ?_
  rintro l ⟨⟨hl1, hl2⟩, hl3⟩
  refine Tot.bind (D.pick (m := l.length) hr (by omega) rfl hl3 (by omega)) ?_
  rintro ⟨x, r1⟩ ⟨⟨w, rfl, hw⟩, hr1⟩
  have hp := hl2 _ (getD_mem default hw)
  simp only [Int.toNat_natCast]
  have hpb : (l.getD w default).length < big := by unfold big; have := hp.1; omega
  refine Tot.chk (by show 0 ≤ (w : Int) ∧ (w : Int) < _; omega) (Tot.bindE (T.spec_copyNode lim12 h12) (Tot.bind (D.pick (m := 5) hr1 (by omega) rfl (by decide) (by decide)) ?_))
  rintro ⟨y, r2⟩ ⟨_, hr2⟩
  have hr2' : RdOK (K + 2) r2 := hr2
  refine Tot.ite (fun _ => ?_) (fun _ => Tot.ite (fun _ => ?_) (fun _ => Tot.ite (fun _ => ?_) (fun _ => Tot.ite (fun _ => ?_) (fun _ => ?_))))
  · refine Tot.bindE (T.spec_removeAt (l.getD w default) hb12 hpb h12) ?_
    exact (D.near.K1 hn (fun m hm => ⟨5, (val_fine (rem_val hn hm)).mono (by omega) (Nat.le_refl _)⟩) hr2').mono (fun x h => ⟨h.1, h.2.mono (by omega)⟩)
  · have hpl := hp.1
    refine Tot.chk (by omega) (Tot.bind (D.of (m := 1) hr2' (by omega) _ (by decide) (by decide) (by decide)) ?_)
    rintro ⟨s, r3⟩ ⟨hs, hr3⟩
    refine Tot.chk (by omega) (Tot.bind (D.node 1 (by decide) (by rfl) hr3 (by omega)) ?_)
    rintro ⟨v, r4⟩ ⟨⟨E, hv⟩, hr4⟩
    have hps : ∀ t, t ∈ l.getD w default ++ [s] → t.length ≤ 60 := fun t ht => by
      rcases List.mem_append.1 ht with ht | ht
      · have := hp.2 t ht; omega
      · rw [List.mem_singleton] at ht; subst ht; have : t.length ≤ 1 := hs; omega
    refine Tot.bindE (T.spec_addAt (l.getD w default ++ [s]) (by decide : 60 + 1 < lim) (by unfold big; rw [List.length_append, List.length_singleton]; omega) hps h60 hv) ?_
    exact (D.near.K1 hn (fun m hm => ⟨_, fine_addAt h60 hv hps hm⟩) hr4).mono (fun x h => ⟨h.1, h.2.mono (by omega)⟩)
  · refine Tot.bind (D.node 1 (by decide) (by rfl) hr2' (by omega)) ?_
    rintro ⟨v, r4⟩ ⟨⟨E, hv⟩, hr4⟩
    refine Tot.bindE (T.spec_setAt lim60 hv (l.getD w default) hpb h60) ?_
    exact (D.near.K1 hn (fun m hm => ⟨_, (fine_setN h60 hv hm).mono (by omega) (Nat.le_refl _)⟩) hr4).mono (fun x h => ⟨h.1, h.2.mono (by omega)⟩)
  · refine Tot.bind (D.someNode hr2' (by omega)) ?_
    rintro ⟨v, r4⟩ ⟨hv, hr4⟩
    exact Tot.ret ⟨hv, hr4.mono (by omega)⟩
  · exact (D.near.K1 (o := some n) hn (fun m hm => by cases hm; exact ⟨5, h12.mono (by omega) (Nat.le_refl _)⟩) hr2').mono (fun x h => ⟨h.1, h.2.mono (by omega)⟩)
end Go.Ab
end
section
namespace Go.Ab
open Go
set_option maxRecDepth 100000
section
variable {o a b m : NodeT} {t : Bool} (lo : o.Names.length < 1000) (la : a.Names.length < 1000) (lb : b.Names.length < 1000) (lm : m.Names.length < 1000) (km : m.Kind = 4)
include lo la lb lm km
end
end Go.Ab
end
section
namespace Go.Ab
open Go
set_option maxRecDepth 100000
theorem lk_pairs {n : NodeT} (h : MapN n) {r : Txt} {k : NodeT} : lk n r = some k ↔ (r, k) ∈ n.Names.zip n.Kids := by
  have at_ : ∀ j, j < n.Names.length → (n.Names.getD j default, n.Kids.getD j default) ∈ n.Names.zip n.Kids := fun j hj => by
    have hk : j < n.Kids.length := by rw [h.len]; exact hj
    rw [getD_of_lt _ hj, getD_of_lt _ hk]
    exact List.mem_iff_getElem.2 ⟨j, by simp; omega, by simp⟩
  constructor
  · intro e
    unfold lk at e
    obtain ⟨j, hj, rfl⟩ := Option.map_eq_some_iff.1 e
    obtain ⟨h1, h2, _⟩ := plc_some.1 hj
    rw [hit_map h.kind, beq_iff_eq] at h2
    rw [← h2]
    exact at_ j (by rw [← h.len]; exact h1)
  · intro e
    obtain ⟨j, hj, e⟩ := List.mem_iff_getElem.1 e
    have hj1 : j < n.Names.length := by simp at hj; omega
    have hj2 : j < n.Kids.length := by simp at hj; omega
    simp only [List.getElem_zip, Prod.mk.injEq] at e
    obtain ⟨e1, e2⟩ := e
    have hp : plc n r = some j := by
      rw [plc_some]
      refine ⟨hj2, by rw [hit_map h.kind, getD_of_lt _ hj1, e1]; simp, fun q hq => ?_⟩
      rw [hit_map h.kind]
      have := bl_ne (Asc_lt h.asc q j hq hj1)
      rw [getD_of_lt _ hj1, e1] at this
      simpa using this
    unfold lk
    rw [hp, Option.map_some, getD_of_lt _ hj2, e2]
theorem map_ext {n m : NodeT} (hn : MapN n) (hm : MapN m) (h1 : n.Num = m.Num) (h2 : n.Text = m.Text) (h : ∀ r, lk n r = lk m r) : n = m := by
  have e1 : n.Names = m.Names := asc_ext hn.asc hm.asc (fun s => by rw [← lk_mem hn, ← lk_mem hm, h s])
  have e2 : n.Kids = m.Kids := by
    refine List.ext_getElem (by rw [hn.len, hm.len, e1]) (fun j hj hj' => ?_)
    have l1 : j < n.Names.length := by rw [← hn.len]; exact hj
    have l2 : j < m.Names.length := by rw [← hm.len]; exact hj'
    have a1 : lk n n.Names[j] = some n.Kids[j] := (lk_pairs hn).2 (List.mem_iff_getElem.2 ⟨j, by simp; omega, by simp⟩)
    have a2 : lk m m.Names[j] = some m.Kids[j] := (lk_pairs hm).2 (List.mem_iff_getElem.2 ⟨j, by simp; omega, by simp⟩)
    have e3 : n.Names[j] = m.Names[j] := by simp only [e1]
    rw [h, e3, a2] at a1
    exact (Option.some.inj a1).symm
  have hk : n.Kind = m.Kind := by rw [hn.kind, hm.kind]
  cases n; cases m
  simp only at h1 h2 e1 e2 hk
  rw [h1, h2, e1, e2, hk]
theorem zip_ins {α β : Type} {a : List α} {b : List β} {p : Nat} {x : α} {y : β} (h : a.length = b.length) : (insL a p x).zip (insL b p y) = insL (a.zip b) p (x, y) := by
  unfold insL
  rw [List.zip_append (by simp [h]), List.zip_append (by simp [h])]
  have e1 : (a.zip b).take p = (a.take p).zip (b.take p) := by rw [List.zip, List.take_zipWith]
  have e2 : (a.zip b).drop p = (a.drop p).zip (b.drop p) := by rw [List.zip, List.drop_zipWith]
  rw [e1, e2]
  rfl
theorem ins_mem {α : Type} {l : List α} {p : Nat} {x y : α} : y ∈ insL l p x ↔ y = x ∨ y ∈ l := by
  unfold insL
  rw [List.mem_append, List.mem_append, List.mem_singleton]
  have := List.take_append_drop p l
  constructor
  · rintro ((h | h) | h)
    · exact .inr (List.mem_of_mem_take h)
    · exact .inl h
    · exact .inr (List.mem_of_mem_drop h)
  · rintro (h | h)
    · exact .inl (.inr h)
    · rw [← this, List.mem_append] at h
      rcases h with h | h
      · exact .inl (.inl h)
      · exact .inr h
theorem addN_map {n v : NodeT} {s : Txt} (h : MapN n) (hs : s ∉ n.Names) : ∃ m, addN n s v = some m ∧ m.Kind = 4 ∧ m.Num = 0 ∧ m.Text = [] ∧ m.Kids.length = m.Names.length ∧ ∀ r k, (r, k) ∈ m.Names.zip m.Kids ↔ (r, k) = (s, v) ∨ (r, k) ∈ n.Names.zip n.Kids := by
  have hp : plc n s = none := by
    have := (lk_none h).2 hs
    unfold lk at this
    simpa using this
  have hk := h.kind
  refine ⟨NodeT.mk 4 0 [] (insL n.Names (slt n s) s) (insL n.Kids (slt n s) v), ?_, rfl, rfl, rfl, ?_, fun r k => ?_⟩
  · unfold addN
    rw [hp]
    simp only [hk, if_true, show ¬ ((4 : Int) = 3) by decide, if_false]
  · show (insL n.Kids _ v).length = (insL n.Names _ s).length
    have := h.len
    unfold insL
    simp; omega
  · show (r, k) ∈ (insL n.Names (slt n s) s).zip (insL n.Kids (slt n s) v) ↔ _
    rw [zip_ins h.len.symm, ins_mem]
theorem asc_take : ∀ {l : List Txt} (i : Nat), Asc l = true → Asc (l.take i) = true
  | _, 0, _ => by simp [Asc]
  | [], i + 1, _ => rfl
  | x :: l, i + 1, h => by
    rw [List.take_succ_cons]
    exact Asc_cons (asc_take i (Asc_tail h)) (fun y hy => Asc_head h y (List.mem_of_mem_take hy))
theorem ins_asc {n m v : NodeT} {s : Txt} (h : MapN n) (hs : s ∉ n.Names) (hm : addN n s v = some m) : Asc m.Names = true := by
  have hp : plc n s = none := by
    have := (lk_none h).2 hs
    unfold lk at this
    simpa using this
  have hk := h.kind
  unfold addN at hm
  rw [hp] at hm
  simp only [hk, if_true, show ¬ ((4 : Int) = 3) by decide, if_false, Option.some.injEq] at hm
  subst hm
  show Asc (insL n.Names (slt n s) s) = true
  have hle := slt_le n s
  have hl := h.len
  have before : ∀ i, i < slt n s → bl (n.Names.getD i default) s = true := fun i hi => by
    have h1 : bl s (n.Names.getD i default) = false := by
      unfold slt at hi
      cases hf : (List.range' 0 n.Kids.length).find? fun i => bl s (n.Names.getD i default) with
      | none =>
        rw [hf] at hi
        exact find_none.1 hf i (by omega) (by simpa using hi)
      | some j =>
        rw [hf] at hi
        exact (find_some.1 hf).2.2.2 i (by omega) hi
    cases h2 : bl (n.Names.getD i default) s with
    | true => rfl
    | false => exact absurd (getD_mem default (by omega : i < n.Names.length)) (by rw [bl_tri h2 h1]; exact hs)
  have behind : ∀ i, slt n s ≤ i → i < n.Names.length → bl s (n.Names.getD i default) = true := fun i h1 h2 => by
    have h3 : slt n s < n.Kids.length := by omega
    have h4 : bl s (n.Names.getD (slt n s) default) = true := by
      unfold slt at h3 ⊢
      cases hf : (List.range' 0 n.Kids.length).find? fun i => bl s (n.Names.getD i default) with
      | none => rw [hf] at h3; simp at h3
      | some j => exact (find_some.1 hf).2.2.1
    by_cases e : slt n s = i
    · rw [← e]; exact h4
    · exact bl_trans h4 (Asc_lt h.asc (slt n s) i (by omega) h2)
  generalize slt n s = p at *
  unfold insL
  have key : ∀ (A S : List Txt), Asc A = true → Asc S = true → (∀ x, x ∈ A → bl x s = true) → (∀ y, y ∈ S → bl s y = true) → Asc ((A ++ [s]) ++ S) = true := by
    intro A
    induction A with
    | nil => intro S _ hS _ h2; exact Asc_cons hS h2
    | cons a A ih =>
      intro S hA hS h1 h2
      rw [List.cons_append, List.cons_append]
      refine Asc_cons (ih S (Asc_tail hA) hS (fun x hx => h1 x (by simp [hx])) h2) (fun y hy => ?_)
      rcases List.mem_append.1 hy with hy | hy
      · rcases List.mem_append.1 hy with hy | hy
        · exact Asc_head hA y hy
        · rw [List.mem_singleton] at hy; subst hy; exact h1 a (by simp)
      · exact bl_trans (h1 a (by simp)) (h2 y hy)
  refine key _ _ (asc_take p h.asc) (asc_drop p h.asc) (fun x hx => ?_) (fun y hy => ?_)
  · obtain ⟨i, hi, e⟩ := List.mem_iff_getElem.1 hx
    have hi2 : i < p ∧ i < n.Names.length := by simp at hi; omega
    have := before i hi2.1
    rw [getD_of_lt _ hi2.2] at this
    rw [← e]; simpa using this
  · obtain ⟨i, hi, e⟩ := List.mem_iff_getElem.1 hy
    have hi2 : p + i < n.Names.length := by simp at hi; omega
    have := behind (p + i) (by omega) hi2
    rw [getD_of_lt _ hi2] at this
    rw [← e]; simpa using this
end Go.Ab
end
section
namespace Go.Ab
open Go
set_option maxRecDepth 100000
theorem plc_setK {n c : NodeT} {j : Nat} (s : Txt) : plc (setK n j c) s = plc n s := by
  unfold plc
  have e : (setK n j c).Kids.length = n.Kids.length := by simp [setK]
  rw [e]
  rfl
theorem kid_setK {n c : NodeT} {j : Nat} (h : j < n.Kids.length) : (setK n j c).Kids.getD j default = c := by
  simp [setK, List.getD, h]
theorem setK_setK {n c e : NodeT} {j : Nat} : setK (setK n j c) j e = setK n j e := by
  unfold setK
  simp
theorem init_cons {s : Txt} {q : List Txt} (h : q ≠ []) : initS (s :: q) = s :: initS q := by
  unfold initS
  cases q with
  | nil => exact absurd rfl h
  | cons a r => simp
theorem last_cons {s : Txt} {q : List Txt} (h : q ≠ []) : lastS (s :: q) = lastS q := by
  unfold lastS
  cases q with
  | nil => exact absurd rfl h
  | cons a r => simp [List.getD]
def und (s : Txt) (o : OpT) : OpT := OpT.mk o.Kind (s :: o.Path) [] o.Value
def GoodO (o : OpT) : Prop := o.Kind = 3 ∨ ((o.Kind = 1 ∨ o.Kind = 2) ∧ o.Path ≠ [])
theorem apply_und {n : NodeT} {s : Txt} {j : Nat} {o : OpT} (h : GoodO o) (hj : plc n s = some j) : applyN n (und s o) = (applyN (n.Kids.getD j default) o).map (setK n j) := by
  have hc : s :: o.Path ≠ [] := by simp
  rcases h with h | ⟨h | h, hp⟩
  · unfold applyN
    simp only [und, h, show ¬ ((3 : Int) = 1) by decide, show ¬ ((3 : Int) = 2) by decide, if_false, if_true]
    unfold setN
    rw [chgN, hj]
  · unfold applyN
    simp only [und, h, if_true]
    unfold addAtN
    rw [if_neg hc, if_neg hp, init_cons hp, last_cons hp, chgN, hj]
  · unfold applyN
    simp only [und, h, show ¬ ((2 : Int) = 1) by decide, if_false, if_true]
    unfold remAtN
    rw [if_neg hc, if_neg hp, init_cons hp, last_cons hp, chgN, hj]
noncomputable def rawO : NodeT → List OpT → Option NodeT
  | n, [] => some n
  | n, o :: r => match applyN n o with
    | some m => rawO m r
    | none => none
theorem raw_of_run : ∀ {l : List OpT} {n m : NodeT}, runO n l = some m → rawO n l = some m
  | [], n, m, h => h
  | o :: l, n, m, h => by
    rw [runO] at h
    cases ha : ApplyM n o with
    | none => rw [ha] at h; cases h
    | some k =>
      rw [ha] at h
      rw [rawO, (applied ha).app]
      exact raw_of_run h
theorem raw_app {l r : List OpT} : ∀ {n : NodeT}, rawO n (l ++ r) = (rawO n l).bind fun m => rawO m r := by
  induction l with
  | nil => intro n; rfl
  | cons o l ih =>
    intro n
    rw [List.cons_append, rawO, rawO]
    cases applyN n o with
    | none => rfl
    | some k => exact ih
theorem raw_und {s : Txt} {j : Nat} : ∀ {l : List OpT} {n : NodeT}, (∀ o, o ∈ l → GoodO o) → plc n s = some j → rawO n (l.map (und s)) = (rawO (n.Kids.getD j default) l).map (setK n j)
  | [], n, _, hj => by
    have hlt := plc_lt hj
    show some n = some (setK n j (n.Kids.getD j default))
    have e : n.Kids.set j (n.Kids.getD j default) = n.Kids := by
      rw [getD_of_lt _ hlt]; simp
    unfold setK
    rw [e, NodeT.eta]
  | o :: l, n, h, hj => by
    have hlt := plc_lt hj
    rw [List.map_cons, rawO, rawO, apply_und (h o (by simp)) hj]
    cases ha : applyN (n.Kids.getD j default) o with
    | none => rfl
    | some k =>
      show rawO (setK n j k) (l.map (und s)) = (rawO k l).map (setK n j)
      rw [raw_und (fun o ho => h o (by simp [ho])) (show plc (setK n j k) s = some j by rw [plc_setK]; exact hj), kid_setK hlt]
      congr 1
      funext e
      exact setK_setK
end Go.Ab
end
section
namespace Go.Ab
open Go
set_option maxRecDepth 100000
abbrev N2 (x : NodeT × NodeT) : Prop := FineE 60 x.1 ∧ FineE 60 x.2
theorem D.anyPair {r : ReaderT} (hr : RdOK 0 r) : Tot (fun x => FineE 60 x.1 ∧ FineE 60 x.2.1 ∧ RdOK 10000 x.2.2) (fun f => G.spec_anyPair f r) := by
  refine Tot.up ?_
  simp only [G.spec_anyPair]
  refine Tot.bind (D.anyNode hr (by omega)) ?_
  rintro ⟨n, r1⟩ ⟨⟨E, hn⟩, hr1⟩
  have hn' := hn.mono (show 14 ≤ 60 by omega) (Nat.le_refl _)
  have any : ∀ {r2 : ReaderT}, RdOK 1000 r2 → Tot (fun x => FineE 60 x.1 ∧ FineE 60 x.2.1 ∧ RdOK 10000 x.2.2) (fun f => Option.bind (G.spec_anyNode f r2) fun v => some (n, v.1, v.2)) := fun hr2 => by
    refine Tot.bind (D.anyNode hr2 (by omega)) ?_
    rintro ⟨b, r3⟩ ⟨⟨F, hb⟩, hr3⟩
    exact Tot.ret ⟨⟨E, hn'⟩, ⟨F, hb.mono (by omega) (Nat.le_refl _)⟩, hr3.mono (by omega)⟩
  refine Tot.bindE (T.spec_validNode lim60 hn') (Tot.ite (fun e => ?_) (fun _ => any (hr1.mono (by omega))))
  refine Tot.bind (D.pick (m := 3) hr1 (by omega) rfl (by decide) (by decide)) ?_
  rintro ⟨x, r2⟩ ⟨_, hr2⟩
  refine Tot.ite (fun _ => ?_) (fun _ => any (hr2.mono (by omega)))
  refine Tot.bind (D.nearNode e hr2 (by omega)) ?_
  rintro ⟨b, r3⟩ ⟨hb, hr3⟩
  exact Tot.ret ⟨⟨E, hn'⟩, ⟨5, fine_val hb⟩, hr3.mono (by omega)⟩
theorem D.DrawDiffNodes {c : List Int} (hc : Bytes c) (hl : c.length ≤ 1048576) : Tot N2 (fun f => G.spec_DrawDiffNodes f c) := by
  refine Tot.up ?_
  simp only [G.spec_DrawDiffNodes]
  exact Tot.bind (D.newReader hc hl) (fun r hr => Tot.bind (D.anyPair hr) (fun x h => Tot.ret ⟨h.1, h.2.1⟩))
theorem T.spec_op {k : Int} {p : List Txt} {v : NodeT} {B D : Nat} (hB : B ≤ lim) (hv : Fine B D v) : Ev (fun f => G.spec_op f k p v) (OpT.mk k p [] v) := by
  refine Ev.up ?_
  simp only [G.spec_op]
  exact Ev.bind (T.spec_copyNode hB hv) (Ev.ret _)
theorem T.impl_copyTexts {l : List Txt} (hl : l.length ≤ 1000) : Ev (fun f => G.impl_copyTexts f l) l := by
  refine Ev.up ?_
  simp only [G.impl_copyTexts]
  refine Ev.ite (fun e => Ev.ret' ?_) (fun _ => Ev.chk (by omega) (Ev.ret _))
  have : l.length = 0 := by simpa using e
  exact (List.eq_nil_of_length_eq_zero this).symm
theorem T.impl_stepBehind {l : List Txt} {s : Txt} (hl : l.length ≤ 1000) : Ev (fun f => G.impl_stepBehind f l s) (l ++ [s]) := by
  have w : IntKind.wrap .i64 (((l.length : Nat) : Int) + 1) = ((l.length + 1 : Nat) : Int) := wrap_suc (by omega)
  refine Ev.up ?_
  simp only [G.impl_stepBehind, w]
  exact Ev.chk (by omega) (Ev.chk (by omega) (Ev.chk (by omega) (Ev.ret' (by simp))))
theorem T.impl_put {d : DifferencesT} {k : Int} {p : List Txt} {v : NodeT} {B D : Nat} (hB : B ≤ lim) (hv : Fine B D v) (hp : p.length ≤ 1000) (hd : d.list.length ≤ 200000000) :
    Ev (fun f => G.impl_differences_put f d k p v) (DifferencesT.mk (d.list ++ [OpT.mk k p [] v])) := by
  refine Ev.up ?_
  simp only [G.impl_differences_put]
  exact Ev.bind (T.impl_copyTexts hp) (Ev.bind (T.impl_copyNode hB hv) (Ev.chk (by omega) (Ev.ret _)))
theorem T.spec_under.L1 {s : Txt} {l : List OpT} (hl : l.length ≤ 1000000) (hp : ∀ o, o ∈ l → o.Path.length ≤ 1000) : ∀ (k i : Nat) (z : List OpT), i + k = l.length → z.length ≤ i →
    Ev (fun f => G.spec_under.L1 f s l i z) (z ++ (l.drop i).map (und s)) := by
  intro k
  induction k with
  | zero =>
    intro i z hi hz
    refine Ev.up ?_
    simp only [G.spec_under.L1]
    refine Ev.cf (decide_eq_false (by omega)) (Ev.ret' ?_)
    rw [List.drop_of_length_le (by omega)]; simp
  | succ k ih =>
    intro i z hi hz
    have hpl := hp _ (getD_mem default (by omega : i < l.length))
    refine Ev.up ?_
    simp only [G.spec_under.L1, Int.toNat_natCast, wrap_suc (show i + 1 < 9223372036854775808 by omega)]
    refine Ev.ct (decide_eq_true (by omega)) (Ev.chk (by omega) (Ev.chk (by omega) (Ev.chk (by omega) (Ev.chk (by omega) (Ev.chk (by omega) ?_)))))
    refine (ih (i + 1) _ (by omega) (by simp; omega)).eq ?_
    rw [drop_of_lt (default : OpT) (by omega : i < l.length)]
    simp [und]
theorem T.spec_under {s : Txt} {l : List OpT} (hl : l.length ≤ 1000000) (hp : ∀ o, o ∈ l → o.Path.length ≤ 1000) : Ev (fun f => G.spec_under f s l) (l.map (und s)) := by
  refine Ev.up ?_
  simp only [G.spec_under]
  exact T.spec_under.L1 hl hp l.length 0 [] (by omega) (by simp)
end Go.Ab
end
section
namespace Go.Ab
open Go
set_option maxRecDepth 100000
def dMaps (F : NodeT → NodeT → List OpT) (a b : NodeT) : List OpT :=
  ((List.range' 0 a.Kids.length).flatMap fun i => match lk b (a.Names.getD i default) with
    | some y => (F (a.Kids.getD i default) y).map (und (a.Names.getD i default))
    | none => [OpT.mk 2 [a.Names.getD i default] [] noNode]) ++
  ((List.range' 0 b.Kids.length).flatMap fun k => if (lk a (b.Names.getD k default)).isSome then [] else [OpT.mk 1 [b.Names.getD k default] [] (b.Kids.getD k default)])
def dLists (F : NodeT → NodeT → List OpT) (a b : NodeT) : List OpT :=
  ((List.range' 0 (min a.Kids.length b.Kids.length)).flatMap fun i => (F (a.Kids.getD i default) (b.Kids.getD i default)).map (und (decN i))) ++
  ((List.range' b.Kids.length (a.Kids.length - b.Kids.length)).reverse.map fun i => OpT.mk 2 [decN i] [] noNode) ++
  ((List.range' a.Kids.length (b.Kids.length - a.Kids.length)).map fun i => OpT.mk 1 [decN i] [] (b.Kids.getD i default))
open Classical in
noncomputable def diffM : Nat → NodeT → NodeT → List OpT
  | 0, _, _ => []
  | d + 1, a, b => if a = b then [] else if a.Kind = 4 ∧ b.Kind = 4 then dMaps (diffM d) a b else if a.Kind = 3 ∧ b.Kind = 3 then dLists (diffM d) a b else [OpT.mk 3 [] [] b]
open Classical in
theorem diffM_succ {d : Nat} {a b : NodeT} : diffM (d + 1) a b = if a = b then [] else if a.Kind = 4 ∧ b.Kind = 4 then dMaps (diffM d) a b else if a.Kind = 3 ∧ b.Kind = 3 then dLists (diffM d) a b else [OpT.mk 3 [] [] b] := by rw [diffM]
theorem und_good {s : Txt} {o : OpT} (h : GoodO o) : GoodO (und s o) := by
  rcases h with h | ⟨h, _⟩
  · exact .inl h
  · exact .inr ⟨h, by simp [und]⟩
theorem diffM_good : ∀ (d : Nat) {a b : NodeT} {o : OpT}, o ∈ diffM d a b → GoodO o
  | 0, _, _, _, h => by cases h
  | d + 1, a, b, o, h => by
    rw [diffM_succ] at h
    split at h
    · cases h
    · split at h
      · rcases List.mem_append.1 h with h | h
        · obtain ⟨i, _, h⟩ := List.mem_flatMap.1 h
          split at h
          · obtain ⟨q, hq, rfl⟩ := List.mem_map.1 h
            exact und_good (diffM_good d hq)
          · rw [List.mem_singleton] at h; subst h; exact .inr ⟨.inr rfl, by simp⟩
        · obtain ⟨i, _, h⟩ := List.mem_flatMap.1 h
          split at h
          · cases h
          · rw [List.mem_singleton] at h; subst h; exact .inr ⟨.inl rfl, by simp⟩
      · split at h
        · rcases List.mem_append.1 h with h | h
          · rcases List.mem_append.1 h with h | h
            · obtain ⟨i, _, h⟩ := List.mem_flatMap.1 h
              obtain ⟨q, hq, rfl⟩ := List.mem_map.1 h
              exact und_good (diffM_good d hq)
            · obtain ⟨i, _, rfl⟩ := List.mem_map.1 h; exact .inr ⟨.inr rfl, by simp⟩
          · obtain ⟨i, _, rfl⟩ := List.mem_map.1 h; exact .inr ⟨.inl rfl, by simp⟩
        · rw [List.mem_singleton] at h; subst h; exact .inl rfl
structure Mp (m : NodeT) : Prop where
  map : MapN m
  num : m.Num = 0
  text : m.Text = []
theorem mp_of {n : NodeT} (h : Parts n = true) (hk : n.Kind = 4) : Mp n := ⟨(mapN_of h hk).1, (parts_map h hk).1, (parts_map h hk).2.1⟩
theorem lk_plc {m x : NodeT} {s : Txt} (h : lk m s = some x) : ∃ j, plc m s = some j ∧ m.Kids.getD j default = x := by
  unfold lk at h
  exact Option.map_eq_some_iff.1 h
theorem lk_at {m : NodeT} (h : MapN m) {i : Nat} (hi : i < m.Kids.length) : lk m (m.Names.getD i default) = some (m.Kids.getD i default) := by
  have hi' : i < m.Names.length := by rw [← h.len]; exact hi
  rw [lk_pairs h, getD_of_lt _ hi, getD_of_lt _ hi']
  exact List.mem_iff_getElem.2 ⟨i, by simp; omega, by simp⟩
theorem name_inj {m : NodeT} (h : MapN m) {i j : Nat} (hi : i < m.Names.length) (hj : j < m.Names.length) (e : m.Names.getD i default = m.Names.getD j default) : i = j := by
  rcases Nat.lt_trichotomy i j with k | k | k
  · exact absurd e (bl_ne (Asc_lt h.asc i j k hj))
  · exact k
  · exact absurd e.symm (bl_ne (Asc_lt h.asc j i k hi))
theorem lk_setK {m y : NodeT} {s : Txt} {j : Nat} (h : MapN m) (hj : plc m s = some j) (r : Txt) : lk (setK m j y) r = if r = s then some y else lk m r := by
  unfold lk
  rw [plc_setK]
  by_cases e : r = s
  · subst e
    rw [if_pos rfl, hj, Option.map_some, kid_setK (plc_lt hj)]
  · rw [if_neg e]
    cases hr : plc m r with
    | none => rfl
    | some i =>
      have hne : j ≠ i := fun e2 => by
        subst e2
        have a := plc_hit hj
        have b := plc_hit hr
        rw [hit_map h.kind, beq_iff_eq] at a b
        exact e (b.symm.trans a)
      simp [setK, List.getD, List.getElem?_set, hne]
theorem mp_setK {m y : NodeT} {j : Nat} (h : Mp m) : Mp (setK m j y) := ⟨⟨h.map.kind, h.map.asc, by show (m.Kids.set j y).length = m.Names.length; rw [List.length_set]; exact h.map.len⟩, h.num, h.text⟩
theorem mem_dropL {α : Type} {l : List α} {k : Nat} {y : α} : y ∈ dropL l k ↔ ∃ i, ∃ h : i < l.length, i ≠ k ∧ l[i] = y := by
  unfold dropL
  rw [List.mem_append, List.mem_take_iff_getElem, List.mem_drop_iff_getElem]
  constructor
  · rintro (⟨i, h, e⟩ | ⟨i, h, e⟩)
    · exact ⟨i, by omega, by omega, e⟩
    · exact ⟨k + 1 + i, by omega, by omega, e⟩
  · rintro ⟨i, h, hk, e⟩
    by_cases c : i < k
    · exact .inl ⟨i, by omega, e⟩
    · refine .inr ⟨i - (k + 1), by omega, ?_⟩
      have : k + 1 + (i - (k + 1)) = i := by omega
      simp only [this]; exact e
theorem zip_dropL {α β : Type} {a : List α} {b : List β} {k : Nat} (h : a.length = b.length) : (dropL a k).zip (dropL b k) = dropL (a.zip b) k := by
  unfold dropL
  rw [List.zip_append (by simp [h])]
  have e1 : (a.zip b).take k = (a.take k).zip (b.take k) := by rw [List.zip, List.take_zipWith]
  have e2 : (a.zip b).drop (k + 1) = (a.drop (k + 1)).zip (b.drop (k + 1)) := by rw [List.zip, List.drop_zipWith]
  rw [e1, e2]
theorem rem_lk {m : NodeT} {s : Txt} (h : MapN m) (hs : s ∈ m.Names) : ∃ m', remN m s = some m' ∧ Mp m' ∧ ∀ r, lk m' r = if r = s then none else lk m r := by
  obtain ⟨x, hx⟩ := Option.isSome_iff_exists.1 ((lk_mem h).2 hs)
  obtain ⟨j, hj, _⟩ := lk_plc hx
  obtain ⟨hjl, hjh, _⟩ := plc_some.1 hj
  rw [hit_map h.kind, beq_iff_eq] at hjh
  have hjn : j < m.Names.length := by rw [← h.len]; exact hjl
  have hM : MapN (NodeT.mk 4 0 [] (dropL m.Names j) (dropL m.Kids j)) := by
    refine ⟨rfl, asc_pairwise.2 ((asc_pairwise.1 h.asc).sublist (dropL_sub _ _)), ?_⟩
    show (dropL m.Kids j).length = (dropL m.Names j).length
    rw [dropL_len hjl, dropL_len hjn, h.len]
  refine ⟨_, ?_, ⟨hM, rfl, rfl⟩, fun r => ?_⟩
  · unfold remN
    rw [hj]
    simp only [h.kind, if_true]
  · apply Option.ext
    intro x
    rw [lk_pairs hM]
    show (r, x) ∈ (dropL m.Names j).zip (dropL m.Kids j) ↔ _
    rw [zip_dropL h.len.symm, mem_dropL]
    by_cases e : r = s
    · rw [if_pos e]
      constructor
      · rintro ⟨i, hi, hne, e2⟩
        have l1 : i < m.Names.length := by simp at hi; omega
        rw [List.getElem_zip, Prod.mk.injEq] at e2
        refine absurd (name_inj h l1 hjn ?_) hne
        rw [getD_of_lt _ l1, e2.1, hjh, e]
      · intro e2; cases e2
    · rw [if_neg e, lk_pairs h, List.mem_iff_getElem]
      constructor
      · rintro ⟨i, hi, _, e2⟩
        exact ⟨i, hi, e2⟩
      · rintro ⟨i, hi, e2⟩
        refine ⟨i, hi, fun c => ?_, e2⟩
        subst c
        rw [List.getElem_zip, Prod.mk.injEq] at e2
        rw [getD_of_lt _ hjn, e2.1] at hjh
        exact e hjh
theorem add_lk {m v : NodeT} {s : Txt} (h : MapN m) (hs : s ∉ m.Names) : ∃ m', addN m s v = some m' ∧ Mp m' ∧ ∀ r, lk m' r = if r = s then some v else lk m r := by
  obtain ⟨m', e, k1, k2, k3, k4, k5⟩ := addN_map (v := v) h hs
  have hM : MapN m' := ⟨k1, ins_asc h hs e, k4⟩
  refine ⟨m', e, ⟨hM, k2, k3⟩, fun r => ?_⟩
  apply Option.ext
  intro x
  rw [lk_pairs hM, k5]
  by_cases c : r = s
  · rw [if_pos c]
    constructor
    · rintro (q | q)
      · rw [Prod.mk.injEq] at q; rw [q.2]
      · have := (lk_none h).2 hs
        rw [← lk_pairs h, c, this] at q
        cases q
    · intro q; cases q; exact .inl (by rw [c])
  · rw [if_neg c, lk_pairs h]
    constructor
    · rintro (q | q)
      · rw [Prod.mk.injEq] at q; exact absurd q.1 c
      · exact q
    · exact .inr
theorem apply_rem {n v : NodeT} {s : Txt} : applyN n (OpT.mk 2 [s] [] v) = remN n s := by
  unfold applyN
  simp only [show ¬ ((2 : Int) = 1) by decide, if_false, if_true]
  unfold remAtN
  rw [if_neg (by simp)]
  rfl
theorem apply_add {n v : NodeT} {s : Txt} : applyN n (OpT.mk 1 [s] [] v) = addN n s v := by
  unfold applyN
  simp only [if_true]
  unfold addAtN
  rw [if_neg (by simp)]
  rfl
theorem apply_set {n v : NodeT} : applyN n (OpT.mk 3 [] [] v) = some v := by
  unfold applyN
  simp only [show ¬ ((3 : Int) = 1) by decide, show ¬ ((3 : Int) = 2) by decide, if_false, if_true]
  rfl
theorem raw_one {n : NodeT} {o : OpT} : rawO n [o] = applyN n o := by
  rw [rawO]
  cases applyN n o <;> rfl
theorem raw_flat {g : Nat → List OpT} {P : Nat → NodeT → Prop} {N : Nat} (step : ∀ i m, i < N → P i m → ∃ m', rawO m (g i) = some m' ∧ P (i + 1) m') :
    ∀ k i m, i + k = N → P i m → ∃ m', rawO m ((List.range' i k).flatMap g) = some m' ∧ P N m' := by
  intro k
  induction k with
  | zero =>
    intro i m hi h
    have : i = N := by omega
    subst this
    exact ⟨m, rfl, h⟩
  | succ k ih =>
    intro i m hi h
    obtain ⟨m1, e1, h1⟩ := step i m (by omega) h
    obtain ⟨m2, e2, h2⟩ := ih (i + 1) m1 (by omega) h1
    refine ⟨m2, ?_, h2⟩
    rw [List.range'_succ, List.flatMap_cons, raw_app, e1]
    exact e2
theorem mem_take_succ {l : List Txt} {i : Nat} (h : i < l.length) {r : Txt} : r ∈ l.take (i + 1) ↔ r ∈ l.take i ∨ r = l.getD i default := by
  rw [List.take_succ_eq_append_getElem h, List.mem_append, List.mem_singleton, getD_of_lt _ h]
theorem not_take {m : NodeT} (h : MapN m) {i : Nat} (hi : i < m.Names.length) : m.Names.getD i default ∉ m.Names.take i := by
  intro c
  obtain ⟨j, hj, e⟩ := List.mem_take_iff_getElem.1 c
  have hj' : j < m.Names.length := by omega
  have := name_inj h hj' hi (by rw [getD_of_lt _ hj']; exact e)
  omega
theorem raw_maps {F : NodeT → NodeT → List OpT} {a b : NodeT} (ma : Mp a) (mb : Mp b) (hg : ∀ x y o, o ∈ F x y → GoodO o)
    (hF : ∀ s x y, lk a s = some x → lk b s = some y → rawO x (F x y) = some y) : rawO a (dMaps F a b) = some b := by
  have hla := ma.map.len
  have hlb := mb.map.len
  have p1 := raw_flat (N := a.Kids.length) (P := fun i m => Mp m ∧ ∀ r, lk m r = if r ∈ a.Names.take i then lk b r else lk a r)
    (g := fun i => match lk b (a.Names.getD i default) with
      | some y => (F (a.Kids.getD i default) y).map (und (a.Names.getD i default))
      | none => [OpT.mk 2 [a.Names.getD i default] [] noNode]) (by
    intro i m hi ⟨hm, hr⟩
    have hi' : i < a.Names.length := by rw [← hla]; exact hi
    have hx := lk_at ma.map hi
    have hnt := not_take ma.map hi'
    have hms : lk m (a.Names.getD i default) = some (a.Kids.getD i default) := by rw [hr, if_neg hnt, hx]
    have fin : ∀ m', Mp m' → (∀ r, lk m' r = if r = a.Names.getD i default then lk b (a.Names.getD i default) else lk m r) → Mp m' ∧ ∀ r, lk m' r = if r ∈ a.Names.take (i + 1) then lk b r else lk a r := fun m' h1 h2 => by
      refine ⟨h1, fun r => ?_⟩
      rw [h2]
      by_cases c : r = a.Names.getD i default
      · rw [if_pos c, if_pos ((mem_take_succ hi').2 (.inr c)), c]
      · rw [if_neg c, hr]
        by_cases d : r ∈ a.Names.take i
        · rw [if_pos d, if_pos ((mem_take_succ hi').2 (.inl d))]
        · rw [if_neg d, if_neg (fun q => ((mem_take_succ hi').1 q).elim d c)]
    cases hy : lk b (a.Names.getD i default) with
    | some y =>
      obtain ⟨j, hj, ej⟩ := lk_plc hms
      refine ⟨setK m j y, ?_, fin _ (mp_setK hm) (fun r => by rw [lk_setK hm.map hj, hy])⟩
      show rawO m ((F (a.Kids.getD i default) y).map (und (a.Names.getD i default))) = _
      rw [raw_und (hg _ _) hj, ej, hF _ _ _ hx hy]
      rfl
    | none =>
      obtain ⟨m', e, h1, h2⟩ := rem_lk hm.map ((lk_mem hm.map).1 (by rw [hms]; rfl))
      refine ⟨m', ?_, fin _ h1 (fun r => by rw [h2, hy])⟩
      show rawO m [OpT.mk 2 [a.Names.getD i default] [] noNode] = _
      rw [raw_one, apply_rem, e]) a.Kids.length 0 a (by omega) ⟨ma, fun r => by simp⟩
  obtain ⟨m1, e1, hm1, h1⟩ := p1
  have h1' : ∀ r, lk m1 r = if r ∈ a.Names then lk b r else none := fun r => by
    rw [h1, List.take_of_length_le (by omega)]
    by_cases c : r ∈ a.Names
    · rw [if_pos c, if_pos c]
    · rw [if_neg c, if_neg c, (lk_none ma.map).2 c]
  have p2 := raw_flat (N := b.Kids.length) (P := fun k m => Mp m ∧ ∀ r, lk m r = if r ∈ a.Names ∨ r ∈ b.Names.take k then lk b r else none)
    (g := fun k => if (lk a (b.Names.getD k default)).isSome then [] else [OpT.mk 1 [b.Names.getD k default] [] (b.Kids.getD k default)]) (by
    intro k m hk ⟨hm, hr⟩
    have hk' : k < b.Names.length := by rw [← hlb]; exact hk
    have hy := lk_at mb.map hk
    have hnt := not_take mb.map hk'
    by_cases c : (lk a (b.Names.getD k default)).isSome = true
    · have ca := (lk_mem ma.map).1 c
      refine ⟨m, by simp only [c, if_true]; rfl, hm, fun r => ?_⟩
      rw [hr]
      by_cases d : r ∈ a.Names ∨ r ∈ b.Names.take k
      · rw [if_pos d, if_pos (d.imp_right fun q => (mem_take_succ hk').2 (.inl q))]
      · rw [if_neg d, if_neg]
        rintro (q | q)
        · exact d (.inl q)
        · rcases (mem_take_succ hk').1 q with q | q
          · exact d (.inr q)
          · exact d (.inl (q ▸ ca))
    · have ca : b.Names.getD k default ∉ a.Names := fun q => c ((lk_mem ma.map).2 q)
      have hn : b.Names.getD k default ∉ m.Names := by
        rw [← lk_none hm.map, hr, if_neg]
        rintro (q | q)
        · exact ca q
        · exact hnt q
      obtain ⟨m', e, g1, g2⟩ := add_lk (v := b.Kids.getD k default) hm.map hn
      refine ⟨m', ?_, g1, fun r => ?_⟩
      · simp only [c]
        show rawO m [OpT.mk 1 [b.Names.getD k default] [] (b.Kids.getD k default)] = _
        rw [raw_one, apply_add, e]
      · rw [g2]
        by_cases d : r = b.Names.getD k default
        · rw [if_pos d, if_pos (.inr ((mem_take_succ hk').2 (.inr d))), d, hy]
        · rw [if_neg d, hr]
          by_cases q : r ∈ a.Names ∨ r ∈ b.Names.take k
          · rw [if_pos q, if_pos (q.imp_right fun w => (mem_take_succ hk').2 (.inl w))]
          · rw [if_neg q, if_neg]
            rintro (w | w)
            · exact q (.inl w)
            · rcases (mem_take_succ hk').1 w with w | w
              · exact q (.inr w)
              · exact d w) b.Kids.length 0 m1 (by omega) ⟨hm1, fun r => by rw [h1']; simp⟩
  obtain ⟨m2, e2, hm2, h2⟩ := p2
  have : m2 = b := map_ext hm2.map mb.map (by rw [hm2.num, mb.num]) (by rw [hm2.text, mb.text]) (fun r => by
    rw [h2, List.take_of_length_le (by omega)]
    by_cases c : r ∈ a.Names ∨ r ∈ b.Names
    · rw [if_pos c]
    · rw [if_neg c]
      exact ((lk_none mb.map).2 (fun q => c (.inr q))).symm)
  subst this
  unfold dMaps
  rw [raw_app, e1]
  exact e2
def ln (l : List NodeT) : NodeT := NodeT.mk 3 0 [] [] l
theorem ln_of {n : NodeT} (h : Parts n = true) (hk : n.Kind = 3) : n = ln n.Kids ∧ n.Kids.length ≤ 6 := by
  obtain ⟨h1, h2, h3, h4⟩ := parts_list h hk
  refine ⟨?_, h4⟩
  cases n with
  | mk k nu t na ki =>
    simp only at h1 h2 h3 hk
    subst h1 h2 h3 hk
    rfl
theorem decN_inj {i j : Nat} (hi : i < 10) (hj : j < 10) (h : decN i = decN j) : i = j := by
  rw [decN_small hi, decN_small hj, List.cons.injEq] at h
  have := congrArg UInt8.toNat h.1
  rw [UInt8.toNat_ofNat', UInt8.toNat_ofNat'] at this
  omega
theorem plc_ln {l : List NodeT} (hl : l.length ≤ 9) {i : Nat} (hi : i ≤ l.length) : plc (ln l) (decN i) = if i < l.length then some i else none := by
  have hh : ∀ q, q < 10 → hit (ln l) (decN i) q = true → q = i := fun q hq h => by
    rw [hit_list (n := ln l) rfl, beq_iff_eq] at h
    exact decN_inj hq (by omega) h
  by_cases c : i < l.length
  · rw [if_pos c, plc_some]
    refine ⟨c, by rw [hit_list (n := ln l) rfl]; simp, fun q hq => ?_⟩
    cases e : hit (ln l) (decN i) q with
    | false => rfl
    | true => have := hh q (by omega) e; omega
  · rw [if_neg c, plc_none]
    intro q hq
    have hq' : q < l.length := hq
    cases e : hit (ln l) (decN i) q with
    | false => rfl
    | true => have := hh q (by omega) e; omega
theorem rem_ln {l : List NodeT} {i : Nat} (hl : l.length ≤ 9) (hi : i < l.length) : remN (ln l) (decN i) = some (ln (dropL l i)) := by
  unfold remN
  rw [plc_ln hl (by omega), if_pos hi]
  rfl
theorem add_ln {l : List NodeT} {v : NodeT} (hl : l.length ≤ 9) : addN (ln l) (decN l.length) v = some (ln (l ++ [v])) := by
  unfold addN
  rw [plc_ln hl (by omega), if_neg (by omega)]
  show (if (3 : Int) = 3 then _ else _) = _
  rw [if_pos rfl, if_pos (.inr rfl)]
  show some (ln (insL l l.length v)) = _
  unfold insL
  simp
theorem raw_rems {lb : Nat} : ∀ (k : Nat) (l : List NodeT), l.length = lb + k → l.length ≤ 9 → rawO (ln l) ((List.range' lb k).reverse.map fun i => OpT.mk 2 [decN i] [] noNode) = some (ln (l.take lb)) := by
  intro k
  induction k with
  | zero =>
    intro l hl _
    rw [List.take_of_length_le (by omega)]
    rfl
  | succ k ih =>
    intro l hl h9
    rw [List.range'_concat, List.reverse_append, List.reverse_singleton, List.singleton_append, List.map_cons, rawO, apply_rem, Nat.one_mul, rem_ln h9 (by omega)]
    have hd := dropL_len (l := l) (k := lb + k) (by omega)
    show rawO (ln (dropL l (lb + k))) _ = _
    rw [ih _ (by omega) (by omega)]
    congr 2
    unfold dropL
    rw [List.drop_of_length_le (by omega), List.append_nil, List.take_take, Nat.min_eq_left (by omega)]
theorem raw_adds {L : List NodeT} : ∀ (k i : Nat), i + k = L.length → L.length ≤ 9 → rawO (ln (L.take i)) ((List.range' i k).map fun i => OpT.mk 1 [decN i] [] (L.getD i default)) = some (ln L) := by
  intro k
  induction k with
  | zero =>
    intro i hi _
    rw [List.take_of_length_le (by omega)]
    rfl
  | succ k ih =>
    intro i hi h9
    have e : (L.take i).length = i := by simp; omega
    have ha := add_ln (l := L.take i) (v := L.getD i default) (by omega)
    rw [e] at ha
    rw [List.range'_succ, List.map_cons, rawO, apply_add, ha]
    show rawO (ln (L.take i ++ [L.getD i default])) _ = _
    rw [getD_of_lt _ (by omega : i < L.length), ← List.take_succ_eq_append_getElem (by omega)]
    exact ih (i + 1) (by omega) h9
theorem raw_lists {F : NodeT → NodeT → List OpT} {A B : List NodeT} (ha : A.length ≤ 6) (hb : B.length ≤ 6) (hg : ∀ x y o, o ∈ F x y → GoodO o)
    (hF : ∀ x y, x ∈ A → y ∈ B → rawO x (F x y) = some y) : rawO (ln A) (dLists F (ln A) (ln B)) = some (ln B) := by
  have p1 := raw_flat (N := min A.length B.length) (P := fun i m => m = ln (B.take i ++ A.drop i))
    (g := fun i => (F (A.getD i default) (B.getD i default)).map (und (decN i))) (by
    intro i m hi e
    subst e
    have ia : i < A.length := by omega
    have ib : i < B.length := by omega
    have hl : (B.take i ++ A.drop i).length = A.length := by simp; omega
    have hp := plc_ln (l := B.take i ++ A.drop i) (by omega) (i := i) (by omega)
    rw [if_pos (by omega)] at hp
    have hk : (ln (B.take i ++ A.drop i)).Kids.getD i default = A.getD i default := by
      show (B.take i ++ A.drop i).getD i default = _
      have e1 : (B.take i).length = i := by simp; omega
      simp only [List.getD]
      rw [List.getElem?_append_right (by omega), e1, List.getElem?_drop]
      simp
    refine ⟨_, by rw [raw_und (hg _ _) hp, hk, hF _ _ (getD_mem default ia) (getD_mem default ib)]; rfl, ?_⟩
    show ln ((B.take i ++ A.drop i).set i (B.getD i default)) = ln (B.take (i + 1) ++ A.drop (i + 1))
    congr 1
    have e1 : (B.take i).length = i := by simp; omega
    rw [List.set_append_right _ _ (by omega), e1, Nat.sub_self, drop_of_lt (default : NodeT) ia, List.set_cons_zero, List.take_succ_eq_append_getElem ib, List.append_assoc, getD_of_lt _ ib]
    rfl) (min A.length B.length) 0 (ln A) (by omega) (by simp)
  obtain ⟨m1, e1, rfl⟩ := p1
  show rawO (ln A) (dLists F (ln A) (ln B)) = some (ln B)
  unfold dLists
  show rawO (ln A) (((List.range' 0 (min A.length B.length)).flatMap fun i => (F (A.getD i default) (B.getD i default)).map (und (decN i))) ++
    ((List.range' B.length (A.length - B.length)).reverse.map fun i => OpT.mk 2 [decN i] [] noNode) ++ ((List.range' A.length (B.length - A.length)).map fun i => OpT.mk 1 [decN i] [] (B.getD i default))) = _
  rw [raw_app, raw_app, e1, Option.bind_some]
  by_cases c : A.length ≤ B.length
  · have z : A.length - B.length = 0 := by omega
    rw [z, Nat.min_eq_left c, List.drop_of_length_le (Nat.le_refl _), List.append_nil]
    exact raw_adds _ _ (by omega) (by omega)
  · have z : B.length - A.length = 0 := by omega
    rw [z, Nat.min_eq_right (by omega), raw_rems (A.length - B.length) _ (by simp) (by simp; omega), Option.bind_some]
    show some (ln ((B.take B.length ++ A.drop B.length).take B.length)) = some (ln B)
    rw [List.take_length, List.take_left]
theorem diff_raw : ∀ (d : Nat) {a b : NodeT}, Shape d a = true → Shape d b = true → rawO a (diffM d a b) = some b
  | 0, _, _, h, _ => by cases h
  | d + 1, a, b, ha, hb => by
    rw [diffM_succ]
    have pa := shape_parts ha
    have pb := shape_parts hb
    by_cases e : a = b
    · rw [if_pos e, e]; rfl
    rw [if_neg e]
    by_cases h4 : a.Kind = 4 ∧ b.Kind = 4
    · rw [if_pos h4]
      exact raw_maps (mp_of pa h4.1) (mp_of pb h4.2) (fun x y o h => diffM_good d h) (fun s x y hx hy => diff_raw d (kid_shape ha hx) (kid_shape hb hy))
    rw [if_neg h4]
    by_cases h3 : a.Kind = 3 ∧ b.Kind = 3
    · rw [if_pos h3]
      obtain ⟨ea, la⟩ := ln_of pa h3.1
      obtain ⟨eb, lb⟩ := ln_of pb h3.2
      rw [ea, eb]
      exact raw_lists la lb (fun x y o h => diffM_good d h) (fun x y hx hy => diff_raw d (shape_kids ha x hx) (shape_kids hb y hy))
    rw [if_neg h3, raw_one, apply_set]
structure DifO (d : Nat) (o : OpT) : Prop where
  k1 : 1 ≤ o.Kind
  k3 : o.Kind ≤ 3
  frm : o.From = []
  len : o.Path.length ≤ d
  txt : ∀ s, s ∈ o.Path → s.length ≤ 12
  val : Fine 12 5 o.Value
theorem fine_none : Fine 12 5 noNode := val_fine val_no
theorem dif_und {d : Nat} {s : Txt} {o : OpT} (h : DifO d o) (hs : s.length ≤ 12) : DifO (d + 1) (und s o) :=
  ⟨h.k1, h.k3, rfl, by show (s :: o.Path).length ≤ _; have := h.len; simp; omega, fun t ht => by rcases List.mem_cons.1 ht with e | e; exact e ▸ hs; exact h.txt t e, h.val⟩
theorem dif_one {d : Nat} {k : Int} {s : Txt} {v : NodeT} (h1 : 1 ≤ k) (h3 : k ≤ 3) (hs : s.length ≤ 12) (hv : Fine 12 5 v) : DifO (d + 1) (OpT.mk k [s] [] v) :=
  ⟨h1, h3, rfl, by simp, fun t ht => by rw [List.mem_singleton.1 ht]; exact hs, hv⟩
theorem decN_short {i : Nat} (h : i < 10) : (decN i).length ≤ 12 := by rw [decN_small h]; simp
theorem shape_f {d : Nat} {n : NodeT} (hd : d ≤ 5) (h : Shape d n = true) : Fine 12 5 n := (shape_fine h).mono (Nat.le_refl _) hd
theorem diff_ops : ∀ (d : Nat) {a b : NodeT} {o : OpT}, d ≤ 5 → Shape d a = true → Shape d b = true → o ∈ diffM d a b → DifO d o
  | 0, _, _, _, _, h, _, _ => by cases h
  | d + 1, a, b, o, hd, ha, hb, h => by
    rw [diffM_succ] at h
    have pa := shape_parts ha
    have pb := shape_parts hb
    have hla := shape_len ha
    have hlb := shape_len hb
    split at h
    · cases h
    · split at h
      · rename_i h4
        obtain ⟨ma, _, na⟩ := mapN_of pa h4.1
        obtain ⟨mb, _, nb⟩ := mapN_of pb h4.2
        have la := ma.len
        have lb := mb.len
        rcases List.mem_append.1 h with h | h
        · obtain ⟨i, hi, h⟩ := List.mem_flatMap.1 h
          have hi' : i < a.Kids.length := by simp at hi; exact hi
          have hs := na _ (getD_mem default (show i < a.Names.length by omega))
          split at h
          · rename_i y hy
            obtain ⟨q, hq, rfl⟩ := List.mem_map.1 h
            exact dif_und (diff_ops d (by omega) (shape_kid ha hi') (kid_shape hb hy) hq) hs
          · rw [List.mem_singleton] at h; subst h; exact dif_one (by omega) (by omega) hs fine_none
        · obtain ⟨i, hi, h⟩ := List.mem_flatMap.1 h
          have hi' : i < b.Kids.length := by simp at hi; exact hi
          have hs := nb _ (getD_mem default (show i < b.Names.length by omega))
          split at h
          · cases h
          · rw [List.mem_singleton] at h; subst h; exact dif_one (by omega) (by omega) hs (shape_f (by omega) (shape_kid hb hi'))
      · split at h
        · rcases List.mem_append.1 h with h | h
          · rcases List.mem_append.1 h with h | h
            · obtain ⟨i, hi, h⟩ := List.mem_flatMap.1 h
              have hi' : i < a.Kids.length ∧ i < b.Kids.length := by simp at hi; omega
              obtain ⟨q, hq, rfl⟩ := List.mem_map.1 h
              exact dif_und (diff_ops d (by omega) (shape_kid ha hi'.1) (shape_kid hb hi'.2) hq) (decN_short (by omega))
            · obtain ⟨i, hi, rfl⟩ := List.mem_map.1 h
              have hi' : i < 6 := by simp at hi; omega
              exact dif_one (by omega) (by omega) (decN_short (by omega)) fine_none
          · obtain ⟨i, hi, rfl⟩ := List.mem_map.1 h
            have hi' : i < b.Kids.length := by simp at hi; omega
            exact dif_one (by omega) (by omega) (decN_short (by omega)) (shape_f (by omega) (shape_kid hb hi'))
        · rw [List.mem_singleton] at h; subst h
          exact ⟨(by show (1:Int) ≤ 3; omega), (by show (3:Int) ≤ 3; omega), rfl, (by simp), (fun t ht => (by cases ht)), shape_f hd hb⟩
theorem flat_len {g : Nat → List OpT} {f : Nat → Nat} : ∀ (k i : Nat), (∀ j, i ≤ j → j < i + k → (g j).length ≤ f j) → ((List.range' i k).flatMap g).length ≤ ((List.range' i k).map f).sum := by
  intro k
  induction k with
  | zero => intro i _; simp
  | succ k ih =>
    intro i h
    have h1 := h i (by omega) (by omega)
    have h2 := ih (i + 1) (fun j h1 h2 => h j (by omega) (by omega))
    rw [List.range'_succ, List.flatMap_cons, List.length_append, List.map_cons, List.sum_cons]
    omega
theorem sum_range {f : NodeT → Nat} : ∀ (k i : Nat) (l : List NodeT), i + k ≤ l.length → ((List.range' i k).map fun j => f (l.getD j default)).sum ≤ ((l.drop i).map f).sum := by
  intro k
  induction k with
  | zero => intro i l _; simp
  | succ k ih =>
    intro i l h
    rw [List.range'_succ, List.map_cons, List.sum_cons, drop_of_lt (default : NodeT) (by omega : i < l.length), List.map_cons, List.sum_cons]
    have := ih (i + 1) l (by omega)
    omega
theorem cnt_pos {d : Nat} {n : NodeT} (h : Shape d n = true) : 1 ≤ Cnt d n := by
  cases d with
  | zero => cases h
  | succ d => unfold Cnt; omega
theorem sum_mul {f : NodeT → Nat} {c : Nat} : ∀ l : List NodeT, (l.map fun x => c * f x).sum = c * (l.map f).sum
  | [] => by simp
  | x :: l => by rw [List.map_cons, List.sum_cons, List.map_cons, List.sum_cons, sum_mul l, Nat.mul_add]
theorem diff_len : ∀ (d : Nat) {a b : NodeT}, Shape d a = true → Shape d b = true → (diffM d a b).length ≤ 13 * Cnt d a
  | 0, _, _, h, _ => by cases h
  | d + 1, a, b, ha, hb => by
    rw [diffM_succ]
    have pa := shape_parts ha
    have pb := shape_parts hb
    have hla := shape_len ha
    have hlb := shape_len hb
    have hc : Cnt (d + 1) a = 1 + (a.Kids.map (Cnt d)).sum := by rw [Cnt]
    have hs := sum_range (f := fun x => 13 * Cnt d x) a.Kids.length 0 a.Kids (by omega)
    rw [List.drop_zero, sum_mul] at hs
    have hs' := sum_range (f := fun x => 13 * Cnt d x) (min a.Kids.length b.Kids.length) 0 a.Kids (by omega)
    rw [List.drop_zero, sum_mul] at hs'
    split
    · simp
    · split
      · rename_i h4
        unfold dMaps
        rw [List.length_append]
        have f1 := flat_len (f := fun i => 13 * Cnt d (a.Kids.getD i default)) (g := fun i => match lk b (a.Names.getD i default) with
          | some y => (diffM d (a.Kids.getD i default) y).map (und (a.Names.getD i default))
          | none => [OpT.mk 2 [a.Names.getD i default] [] noNode]) a.Kids.length 0 (fun j _ hj => by
            have hk := shape_kid ha (show j < a.Kids.length by omega)
            show List.length (match lk b (a.Names.getD j default) with | some y => _ | none => _) ≤ _
            split
            · rename_i y hy
              rw [List.length_map]
              exact diff_len d hk (kid_shape hb hy)
            · have := cnt_pos hk
              simp only [List.length_singleton]; omega)
        have f2 := flat_len (f := fun _ => 1) (g := fun k => if (lk a (b.Names.getD k default)).isSome then [] else [OpT.mk 1 [b.Names.getD k default] [] (b.Kids.getD k default)]) b.Kids.length 0 (fun j _ _ => by
            show List.length (if _ then _ else _) ≤ _
            split <;> simp)
        simp only [List.map_const', List.length_range', List.sum_replicate_nat] at f2
        omega
      · split
        · unfold dLists
          rw [List.length_append, List.length_append, List.length_map, List.length_map, List.length_reverse, List.length_range', List.length_range']
          have f1 := flat_len (f := fun i => 13 * Cnt d (a.Kids.getD i default)) (g := fun i => (diffM d (a.Kids.getD i default) (b.Kids.getD i default)).map (und (decN i))) (min a.Kids.length b.Kids.length) 0 (fun j _ hj => by
            show List.length ((diffM d (a.Kids.getD j default) (b.Kids.getD j default)).map (und (decN j))) ≤ _
            rw [List.length_map]
            exact diff_len d (shape_kid ha (by omega)) (shape_kid hb (by omega)))
          omega
        · simp only [List.length_singleton]; omega
end Go.Ab
end
section
namespace Go.Ab
open Go
set_option maxRecDepth 100000
set_option linter.unusedSectionVars false
def gA (F : NodeT → NodeT → List OpT) (a b : NodeT) (i : Nat) : List OpT := match lk b (a.Names.getD i default) with
    | some y => (F (a.Kids.getD i default) y).map (und (a.Names.getD i default))
    | none => [OpT.mk 2 [a.Names.getD i default] [] noNode]
def gB (a b : NodeT) (k : Nat) : List OpT := if (lk a (b.Names.getD k default)).isSome then [] else [OpT.mk 1 [b.Names.getD k default] [] (b.Kids.getD k default)]
def gL (F : NodeT → NodeT → List OpT) (a b : NodeT) (i : Nat) : List OpT := (F (a.Kids.getD i default) (b.Kids.getD i default)).map (und (decN i))
def remO (i : Nat) : OpT := OpT.mk 2 [decN i] [] noNode
def addO (b : NodeT) (i : Nat) : OpT := OpT.mk 1 [decN i] [] (b.Kids.getD i default)
theorem dMaps_eq {F : NodeT → NodeT → List OpT} {a b : NodeT} : dMaps F a b = (List.range' 0 a.Kids.length).flatMap (gA F a b) ++ (List.range' 0 b.Kids.length).flatMap (gB a b) := rfl
theorem dLists_eq {F : NodeT → NodeT → List OpT} {a b : NodeT} : dLists F a b = (List.range' 0 (min a.Kids.length b.Kids.length)).flatMap (gL F a b) ++
    ((List.range' (min a.Kids.length b.Kids.length) (a.Kids.length - min a.Kids.length b.Kids.length)).reverse.map remO ++
    (List.range' (min a.Kids.length b.Kids.length) (b.Kids.length - min a.Kids.length b.Kids.length)).map (addO b)) := by
  unfold dLists gL
  rw [List.append_assoc]
  by_cases c : a.Kids.length ≤ b.Kids.length
  · rw [Nat.min_eq_left c, Nat.sub_eq_zero_of_le c, Nat.sub_self]; rfl
  · rw [Nat.min_eq_right (by omega), Nat.sub_eq_zero_of_le (show b.Kids.length ≤ a.Kids.length by omega), Nat.sub_self]; rfl
theorem imin {a b : Nat} : (if ((b : Nat) : Int) < ((a : Nat) : Int) then ((b : Nat) : Int) else ((a : Nat) : Int)) = ((min a b : Nat) : Int) := by
  by_cases h : b < a
  · rw [if_pos (by omega)]; omega
  · rw [if_neg (by omega)]; omega
theorem wrap_in {x : Int} (h0 : -9223372036854775808 ≤ x) (h1 : x < 9223372036854775808) : IntKind.wrap .i64 x = x := by
  simp only [IntKind.wrap, IntKind.bits, IntKind.signed]
  simp
  omega
theorem plcI_neg {o : Option Nat} : decide (plcI o < 0) = !o.isSome := by
  cases o with
  | none => rfl
  | some j => exact decide_eq_false (by simp only [plcI]; omega)
theorem lk_isSome {n : NodeT} {s : Txt} : (lk n s).isSome = (plc n s).isSome := by unfold lk; rw [Option.isSome_map]
theorem dif_path {d : Nat} {a b : NodeT} (hd : d ≤ 5) (ha : Shape d a = true) (hb : Shape d b = true) : ∀ o, o ∈ diffM d a b → o.Path.length ≤ 1000 := fun o ho => by
  have := (diff_ops d hd ha hb ho).len
  omega
theorem cnt_bound {d : Nat} {a : NodeT} (hd : d ≤ 5) (h : Shape d a = true) : 13 * Cnt d a ≤ 300000 := by
  have := cnt_le h
  have := pow_le hd
  omega
theorem diff_short {d : Nat} {a b : NodeT} (hd : d ≤ 5) (ha : Shape d a = true) (hb : Shape d b = true) : (diffM d a b).length ≤ 300000 := by
  have := diff_len d ha hb
  have := cnt_bound hd ha
  omega
section
variable {d : Nat} {a b : NodeT} (hd : d ≤ 4) (ha : Shape (d + 1) a = true) (hb : Shape (d + 1) b = true)
include hd ha hb
theorem T.spec_diffMaps.L2 (mb : MapN b) : ∀ (t k : Nat) (z : List OpT), k + t = b.Kids.length → z.length + t ≤ 3000000 →
    Ev (fun f => G.spec_diffMaps.L2 f a b (k : Int) z) (z ++ (List.range' k t).flatMap (gB a b)) := by
  have hlb := mb.len
  have h6 := shape_len hb
  intro t
  induction t with
  | zero =>
    intro k z hk hz
    refine Ev.up ?_
    simp only [G.spec_diffMaps.L2]
    exact Ev.cf (decide_eq_false (by omega)) (Ev.ret' (by simp))
  | succ t ih =>
    intro k z hk hz
    refine Ev.up ?_
    simp only [G.spec_diffMaps.L2, Int.toNat_natCast, wrap_suc (show k + 1 < 9223372036854775808 by omega)]
    refine Ev.ct (decide_eq_true (by omega)) (Ev.chk (by omega) (Ev.bind (T.spec_place _ lim12 (shape_fine ha)) ?_))
    rw [plcI_neg, ← lk_isSome, List.range'_succ, List.flatMap_cons]
    refine Ev.ite (fun e => ?_) (fun e => ?_)
    · refine Ev.chk (by omega) (Ev.chk (by omega) (Ev.bind (T.spec_op lim12 (shape_fine (shape_kid hb (by omega)))) (Ev.chk (by omega) ?_)))
      refine (ih (k + 1) _ (by omega) (by simp; omega)).eq ?_
      have : (lk a (b.Names.getD k default)).isSome = false := by simpa using e
      unfold gB
      rw [this]
      simp
    · refine (ih (k + 1) _ (by omega) (by omega)).eq ?_
      have : (lk a (b.Names.getD k default)).isSome = true := by simpa using e
      have g : gB a b k = [] := by unfold gB; rw [this]; rfl
      rw [g]
      rfl
theorem T.spec_diffMaps.L1 (ma : MapN a) (mb : MapN b) (hs : ∀ x y, Shape d x = true → Shape d y = true → Ev (fun f => G.spec_diff f x y) (diffM d x y)) : ∀ (t i : Nat) (z : List OpT), i + t = a.Kids.length → z.length + 300000 * t ≤ 2900000 →
    Ev (fun f => G.spec_diffMaps.L1 f a b (i : Int) z) (z ++ ((List.range' i t).flatMap (gA (diffM d) a b) ++ (List.range' 0 b.Kids.length).flatMap (gB a b))) := by
  have hla := ma.len
  have h6 := shape_len ha
  have h7 := shape_len hb
  intro t
  induction t with
  | zero =>
    intro i z hi hz
    refine Ev.up ?_
    simp only [G.spec_diffMaps.L1]
    exact Ev.cf (decide_eq_false (by omega)) ((T.spec_diffMaps.L2 hd ha hb mb b.Kids.length 0 z (by omega) (by omega)).eq (by simp))
  | succ t ih =>
    intro i z hi hz
    have hx := shape_kid ha (show i < a.Kids.length by omega)
    refine Ev.up ?_
    simp only [G.spec_diffMaps.L1, Int.toNat_natCast, wrap_suc (show i + 1 < 9223372036854775808 by omega)]
    refine Ev.ct (decide_eq_true (by omega)) (Ev.chk (by omega) (Ev.bind (T.spec_place _ lim12 (shape_fine hb)) ?_))
    rw [List.range'_succ, List.flatMap_cons]
    cases hp : plc b (a.Names.getD i default) with
    | none =>
      have g : gA (diffM d) a b i = [OpT.mk 2 [a.Names.getD i default] [] noNode] := by unfold gA lk; rw [hp]; rfl
      refine Ev.ct (by decide) (Ev.chk (by omega) (Ev.bind (T.spec_op lim12 fine_none) (Ev.chk (by omega) ?_)))
      refine (ih (i + 1) _ (by omega) (by simp; omega)).eq ?_
      rw [g]
      simp [noNode]
    | some j =>
      have hj := plc_lt hp
      have hy := shape_kid hb hj
      have g : gA (diffM d) a b i = (diffM d (a.Kids.getD i default) (b.Kids.getD j default)).map (und (a.Names.getD i default)) := by unfold gA lk; rw [hp]; rfl
      have hl := diff_short (by omega) hx hy
      simp only [plcI, Int.toNat_natCast]
      refine Ev.cf (decide_eq_false (by omega)) (Ev.chk (by omega) (Ev.chk (by omega) (Ev.chk (by omega) (Ev.bind (hs _ _ hx hy) (Ev.bind (T.spec_under (by omega) (dif_path (by omega) hx hy)) (Ev.chk (by rw [List.length_map]; omega) ?_))))))
      refine (ih (i + 1) _ (by omega) (by rw [List.length_append, List.length_map]; omega)).eq ?_
      rw [g]
      simp
theorem T.spec_diffLists.L3 : ∀ (t i : Nat) (z : List OpT), i + t = b.Kids.length → z.length + t ≤ 3000000 →
    Ev (fun f => G.spec_diffLists.L3 f b (i : Int) z) (z ++ (List.range' i t).map (addO b)) := by
  have h6 := shape_len hb
  intro t
  induction t with
  | zero =>
    intro i z hi hz
    refine Ev.up ?_
    simp only [G.spec_diffLists.L3]
    exact Ev.cf (decide_eq_false (by omega)) (Ev.ret' (by simp))
  | succ t ih =>
    intro i z hi hz
    refine Ev.up ?_
    simp only [G.spec_diffLists.L3, Int.toNat_natCast, wrap_suc (show i + 1 < 9223372036854775808 by omega)]
    refine Ev.ct (decide_eq_true (by omega)) (Ev.bind (T.decimal (by unfold lim; omega)) (Ev.chk (by omega) (Ev.bind (T.spec_op lim12 (shape_fine (shape_kid hb (by omega)))) (Ev.chk (by omega) ?_))))
    refine (ih (i + 1) _ (by omega) (by simp; omega)).eq ?_
    rw [List.range'_succ]
    simp [addO]
theorem T.spec_diffLists.L2 : ∀ (t : Nat) (x : Int) (z : List OpT), min a.Kids.length b.Kids.length + t ≤ 6 → x = ((min a.Kids.length b.Kids.length + t : Nat) : Int) - 1 → z.length + t ≤ 2900000 →
    Ev (fun f => G.spec_diffLists.L2 f a b x z) (z ++ ((List.range' (min a.Kids.length b.Kids.length) t).reverse.map remO ++ (List.range' (min a.Kids.length b.Kids.length) (b.Kids.length - min a.Kids.length b.Kids.length)).map (addO b))) := by
  have h6 := shape_len hb
  intro t
  induction t with
  | zero =>
    intro x z hm hx hz
    refine Ev.up ?_
    simp only [G.spec_diffLists.L2, imin]
    exact Ev.cf (decide_eq_false (by omega)) ((T.spec_diffLists.L3 hd ha hb (b.Kids.length - min a.Kids.length b.Kids.length) _ z (by omega) (by omega)).eq (by simp))
  | succ t ih =>
    intro x z hm hx hz
    have ex : x = ((min a.Kids.length b.Kids.length + t : Nat) : Int) := by omega
    subst ex
    refine Ev.up ?_
    simp only [G.spec_diffLists.L2, imin]
    refine Ev.ct (decide_eq_true (by omega)) (Ev.bind (T.decimal (by unfold lim; omega)) (Ev.bind (T.spec_op lim12 fine_none) (Ev.chk (by omega) ?_)))
    rw [wrap_in (by omega) (by omega)]
    refine (ih _ _ (by omega) rfl (by simp; omega)).eq ?_
    rw [List.range'_concat, List.reverse_append, List.reverse_singleton, Nat.one_mul]
    simp [remO, noNode]
theorem T.spec_diffLists.L1 (hs : ∀ x y, Shape d x = true → Shape d y = true → Ev (fun f => G.spec_diff f x y) (diffM d x y)) : ∀ (t i : Nat) (z : List OpT), i + t = min a.Kids.length b.Kids.length → z.length + 300000 * t ≤ 2800000 →
    Ev (fun f => G.spec_diffLists.L1 f a b (i : Int) z) (z ++ ((List.range' i t).flatMap (gL (diffM d) a b) ++ ((List.range' (min a.Kids.length b.Kids.length) (a.Kids.length - min a.Kids.length b.Kids.length)).reverse.map remO ++
    (List.range' (min a.Kids.length b.Kids.length) (b.Kids.length - min a.Kids.length b.Kids.length)).map (addO b)))) := by
  have h6 := shape_len ha
  have h7 := shape_len hb
  intro t
  induction t with
  | zero =>
    intro i z hi hz
    refine Ev.up ?_
    have w : IntKind.wrap .i64 (((a.Kids.length : Nat) : Int) - 1) = ((a.Kids.length : Nat) : Int) - 1 := wrap_in (by omega) (by omega)
    simp only [G.spec_diffLists.L1, imin, w]
    exact Ev.cf (decide_eq_false (by omega)) ((T.spec_diffLists.L2 hd ha hb (a.Kids.length - min a.Kids.length b.Kids.length) _ z (by omega) (by omega) (by omega)).eq (by simp))
  | succ t ih =>
    intro i z hi hz
    have hx := shape_kid ha (show i < a.Kids.length by omega)
    have hy := shape_kid hb (show i < b.Kids.length by omega)
    have hl := diff_short (by omega) hx hy
    refine Ev.up ?_
    simp only [G.spec_diffLists.L1, imin, Int.toNat_natCast, wrap_suc (show i + 1 < 9223372036854775808 by omega)]
    refine Ev.ct (decide_eq_true (by omega)) (Ev.bind (T.decimal (by unfold lim; omega)) (Ev.chk (by omega) (Ev.chk (by omega) (Ev.bind (hs _ _ hx hy) (Ev.bind (T.spec_under (by omega) (dif_path (by omega) hx hy)) (Ev.chk (by rw [List.length_map]; omega) ?_))))))
    refine (ih (i + 1) _ (by omega) (by rw [List.length_append, List.length_map]; omega)).eq ?_
    rw [List.range'_succ, List.flatMap_cons]
    simp [gL]
end
theorem T.spec_diff : ∀ (d : Nat) {a b : NodeT}, d ≤ 5 → Shape d a = true → Shape d b = true → Ev (fun f => G.spec_diff f a b) (diffM d a b)
  | 0, _, _, _, h, _ => by cases h
  | d + 1, a, b, hd, ha, hb => by
    have h6 := shape_len ha
    have h7 := shape_len hb
    obtain ⟨v, gs, hv⟩ := T.spec_same ha hb
    have one : Ev (fun f => Option.bind (G.spec_op f 3 [] b) fun v => some [v]) [OpT.mk 3 [] [] b] := Ev.bind (T.spec_op lim12 (shape_fine hb)) (Ev.ret _)
    refine Ev.up ?_
    simp only [G.spec_diff]
    rw [diffM_succ]
    refine Ev.bind gs ?_
    by_cases e : a = b
    · rw [if_pos e]
      exact Ev.ct (hv.2 e) (Ev.ret _)
    rw [if_neg e]
    refine Ev.cf (bool_of hv e) ?_
    have k3 : Ev (fun f => cond (a.Kind == 3) (cond (b.Kind == 3) (Option.bind (G.spec_diffLists f a b) fun v => some v) (Option.bind (G.spec_op f 3 [] b) fun v => some [v])) (Option.bind (G.spec_op f 3 [] b) fun v => some [v]))
        (if a.Kind = 3 ∧ b.Kind = 3 then dLists (diffM d) a b else [OpT.mk 3 [] [] b]) := by
      refine Ev.ite (fun ka => ?_) (fun ka => ?_)
      · have ka' : a.Kind = 3 := by simpa using ka
        refine Ev.ite (fun kb => ?_) (fun kb => ?_)
        · have kb' : b.Kind = 3 := by simpa using kb
          rw [if_pos ⟨ka', kb'⟩, dLists_eq]
          refine Ev.bind (Ev.up ?_) (Ev.ret _)
          simp only [G.spec_diffLists]
          exact (T.spec_diffLists.L1 (by omega) ha hb (fun x y hx hy => T.spec_diff d (by omega) hx hy) (min a.Kids.length b.Kids.length) 0 [] (by omega) (by simp; omega)).eq (by simp)
        · have kb' : ¬ b.Kind = 3 := by simpa using kb
          rw [if_neg (fun h => kb' h.2)]
          exact one
      · have ka' : ¬ a.Kind = 3 := by simpa using ka
        rw [if_neg (fun h => ka' h.1)]
        exact one
    refine Ev.ite (fun ka => ?_) (fun ka => ?_)
    · have ka' : a.Kind = 4 := by simpa using ka
      refine Ev.ite (fun kb => ?_) (fun kb => ?_)
      · have kb' : b.Kind = 4 := by simpa using kb
        rw [if_pos ⟨ka', kb'⟩, dMaps_eq]
        refine Ev.bind (Ev.up ?_) (Ev.ret _)
        simp only [G.spec_diffMaps]
        exact (T.spec_diffMaps.L1 (by omega) ha hb (mapN_of (shape_parts ha) ka').1 (mapN_of (shape_parts hb) kb').1 (fun x y hx hy => T.spec_diff d (by omega) hx hy) a.Kids.length 0 [] (by omega) (by simp; omega)).eq (by simp)
      · have kb' : ¬ b.Kind = 4 := by simpa using kb
        rw [if_neg (fun h => kb' h.2)]
        exact k3
    · have ka' : ¬ a.Kind = 4 := by simpa using ka
      rw [if_neg (fun h => ka' h.1)]
      exact k3
def upn (p : List Txt) (o : OpT) : OpT := OpT.mk o.Kind (p ++ o.Path) [] o.Value
theorem upn_und {p : List Txt} {s : Txt} {o : OpT} : upn p (und s o) = upn (p ++ [s]) o := by simp [upn, und]
theorem map_und {p : List Txt} {s : Txt} {l : List OpT} : (l.map (und s)).map (upn p) = l.map (upn (p ++ [s])) := by
  rw [List.map_map]
  congr 1
  funext o
  exact upn_und
theorem T.bs {n : NodeT} (s : Txt) (h : MapN n) (hl : n.Names.length ≤ 1000) : ∃ p : Nat, Ev (fun f => G.slices_BinarySearch_string f n.Names s) ((p : Int), (plc n s).isSome) ∧ ∀ j, plc n s = some j → p = j := by
  obtain ⟨p, g, hp⟩ := T.slices_BinarySearch_string s (by unfold big; omega) h.asc
  have hpl := plc_lb h.kind h.asc h.len hp
  cases hc : decide (p < n.Names.length) && n.Names.getD p default == s with
  | true =>
    rw [hc] at g hpl
    rw [if_pos rfl] at hpl
    refine ⟨p, by rw [hpl]; exact g, fun j hj => ?_⟩
    rw [hpl] at hj
    exact Option.some.inj hj
  | false =>
    rw [hc] at g hpl
    rw [if_neg (by simp)] at hpl
    refine ⟨p, by rw [hpl]; exact g, fun j hj => ?_⟩
    rw [hpl] at hj
    cases hj
section
variable {d : Nat} {a b : NodeT} {p : List Txt} (hd : d ≤ 4) (hp : p.length + (d + 1) ≤ 100) (ha : Shape (d + 1) a = true) (hb : Shape (d + 1) b = true)
include hd hp ha hb
theorem T.visitMaps.L2 (ma : MapN a) (mb : MapN b) : ∀ (t k : Nat) (z : List OpT), k + t = b.Kids.length → z.length + t ≤ 100000000 →
    Ev (fun f => G.impl_differences_visitMaps.L2 f a b p (k : Int) z) (DifferencesT.mk (z ++ ((List.range' k t).flatMap (gB a b)).map (upn p))) := by
  have hlb := mb.len
  have hla := ma.len
  have h6 := shape_len hb
  have h7 := shape_len ha
  intro t
  induction t with
  | zero =>
    intro k z hk hz
    refine Ev.up ?_
    simp only [G.impl_differences_visitMaps.L2]
    exact Ev.cf (decide_eq_false (by omega)) (Ev.ret' (by simp))
  | succ t ih =>
    intro k z hk hz
    obtain ⟨q, gq, hq⟩ := T.bs (b.Names.getD k default) ma (by omega)
    refine Ev.up ?_
    simp only [G.impl_differences_visitMaps.L2, Int.toNat_natCast, wrap_suc (show k + 1 < 9223372036854775808 by omega)]
    refine Ev.ct (decide_eq_true (by omega)) (Ev.chk (by omega) (Ev.bind gq ?_))
    rw [← lk_isSome, List.range'_succ, List.flatMap_cons, List.map_append]
    refine Ev.ite (fun e => ?_) (fun e => ?_)
    · refine (ih (k + 1) _ (by omega) (by omega)).eq ?_
      have g : gB a b k = [] := by unfold gB; rw [show (lk a (b.Names.getD k default)).isSome = true from e]; rfl
      rw [g]
      rfl
    · refine Ev.bind (T.impl_stepBehind (by omega)) (Ev.chk (by omega) (Ev.bind (T.impl_put lim12 (shape_fine (shape_kid hb (by omega))) (by simp; omega) (by show z.length ≤ _; omega)) ?_))
      refine (ih (k + 1) _ (by omega) (by simp; omega)).eq ?_
      have g : gB a b k = [OpT.mk 1 [b.Names.getD k default] [] (b.Kids.getD k default)] := by unfold gB; rw [show (lk a (b.Names.getD k default)).isSome = false from e]; rfl
      rw [g]
      simp [upn]
theorem T.visitMaps.L1 (ma : MapN a) (mb : MapN b) (hs : ∀ x y q D, q.length + d ≤ 100 → D.list.length + 3000000 * d ≤ 99000000 → Shape d x = true → Shape d y = true → Ev (fun f => G.impl_differences_visit f D x y q) (DifferencesT.mk (D.list ++ (diffM d x y).map (upn q)))) :
    ∀ (t i : Nat) (z : List OpT), i + t = a.Kids.length → z.length + 300000 * t + 3000000 * d ≤ 99000000 →
    Ev (fun f => G.impl_differences_visitMaps.L1 f a b p (i : Int) z) (DifferencesT.mk (z ++ ((List.range' i t).flatMap (gA (diffM d) a b) ++ (List.range' 0 b.Kids.length).flatMap (gB a b)).map (upn p))) := by
  have hla := ma.len
  have hlb := mb.len
  have h6 := shape_len ha
  have h7 := shape_len hb
  intro t
  induction t with
  | zero =>
    intro i z hi hz
    refine Ev.up ?_
    simp only [G.impl_differences_visitMaps.L1]
    exact Ev.cf (decide_eq_false (by omega)) ((T.visitMaps.L2 hd hp ha hb ma mb b.Kids.length 0 z (by omega) (by omega)).eq (by simp))
  | succ t ih =>
    intro i z hi hz
    have hx := shape_kid ha (show i < a.Kids.length by omega)
    obtain ⟨q, gq, hq⟩ := T.bs (a.Names.getD i default) mb (by omega)
    refine Ev.up ?_
    simp only [G.impl_differences_visitMaps.L1, Int.toNat_natCast, wrap_suc (show i + 1 < 9223372036854775808 by omega)]
    refine Ev.ct (decide_eq_true (by omega)) (Ev.chk (by omega) (Ev.bind gq ?_))
    rw [List.range'_succ, List.flatMap_cons]
    cases hpl : plc b (a.Names.getD i default) with
    | none =>
      have g : gA (diffM d) a b i = [OpT.mk 2 [a.Names.getD i default] [] noNode] := by unfold gA lk; rw [hpl]; rfl
      refine Ev.cf rfl (Ev.bind (T.impl_stepBehind (by omega)) (Ev.bind (T.impl_put lim12 fine_none (by simp; omega) (by show z.length ≤ _; omega)) ?_))
      refine (ih (i + 1) _ (by omega) (by simp; omega)).eq ?_
      rw [g]
      simp [noNode, upn]
    | some j =>
      have hj := plc_lt hpl
      have hy := shape_kid hb hj
      have e := hq j hpl
      subst e
      have g : gA (diffM d) a b i = (diffM d (a.Kids.getD i default) (b.Kids.getD q default)).map (und (a.Names.getD i default)) := by unfold gA lk; rw [hpl]; rfl
      have hl := diff_short (by omega) hx hy
      simp only [Int.toNat_natCast]
      refine Ev.ct rfl (Ev.chk (by omega) (Ev.chk (by omega) (Ev.bind (T.impl_stepBehind (by omega)) (Ev.bind (hs _ _ _ _ (by simp; omega) (by show z.length + _ ≤ _; omega) hx hy) ?_))))
      refine (ih (i + 1) _ (by omega) (by show (z ++ List.map _ _).length + _ + _ ≤ _; rw [List.length_append, List.length_map]; omega)).eq ?_
      rw [g]
      simp only [List.map_append, map_und, List.append_assoc]
theorem T.visitLists.L3 : ∀ (t i : Nat) (z : List OpT), i + t = b.Kids.length → z.length + t ≤ 100000000 →
    Ev (fun f => G.impl_differences_visitLists.L3 f b p (i : Int) z) (DifferencesT.mk (z ++ ((List.range' i t).map (addO b)).map (upn p))) := by
  have h6 := shape_len hb
  intro t
  induction t with
  | zero =>
    intro i z hi hz
    refine Ev.up ?_
    simp only [G.impl_differences_visitLists.L3]
    exact Ev.cf (decide_eq_false (by omega)) (Ev.ret' (by simp))
  | succ t ih =>
    intro i z hi hz
    refine Ev.up ?_
    simp only [G.impl_differences_visitLists.L3, Int.toNat_natCast, wrap_suc (show i + 1 < 9223372036854775808 by omega)]
    refine Ev.ct (decide_eq_true (by omega)) (Ev.bind (T.strconv_Itoa (by omega)) (Ev.bind (T.impl_stepBehind (by omega)) (Ev.chk (by omega) (Ev.bind (T.impl_put lim12 (shape_fine (shape_kid hb (by omega))) (by simp; omega) (by show z.length ≤ _; omega)) ?_))))
    refine (ih (i + 1) _ (by omega) (by simp; omega)).eq ?_
    rw [List.range'_succ]
    simp [addO, upn]
theorem T.visitLists.L2 : ∀ (t : Nat) (x : Int) (z : List OpT), min a.Kids.length b.Kids.length + t ≤ 6 → x = ((min a.Kids.length b.Kids.length + t : Nat) : Int) - 1 → z.length + t ≤ 99500000 →
    Ev (fun f => G.impl_differences_visitLists.L2 f a b p x z) (DifferencesT.mk (z ++ ((List.range' (min a.Kids.length b.Kids.length) t).reverse.map remO ++ (List.range' (min a.Kids.length b.Kids.length) (b.Kids.length - min a.Kids.length b.Kids.length)).map (addO b)).map (upn p))) := by
  have h6 := shape_len hb
  intro t
  induction t with
  | zero =>
    intro x z hm hx hz
    refine Ev.up ?_
    simp only [G.impl_differences_visitLists.L2, imin]
    exact Ev.cf (decide_eq_false (by omega)) ((T.visitLists.L3 hd hp ha hb (b.Kids.length - min a.Kids.length b.Kids.length) _ z (by omega) (by omega)).eq (by simp))
  | succ t ih =>
    intro x z hm hx hz
    have ex : x = ((min a.Kids.length b.Kids.length + t : Nat) : Int) := by omega
    subst ex
    refine Ev.up ?_
    simp only [G.impl_differences_visitLists.L2, imin]
    refine Ev.ct (decide_eq_true (by omega)) (Ev.bind (T.strconv_Itoa (by omega)) (Ev.bind (T.impl_stepBehind (by omega)) (Ev.bind (T.impl_put lim12 fine_none (by simp; omega) (by show z.length ≤ _; omega)) ?_)))
    rw [wrap_in (by omega) (by omega)]
    refine (ih _ _ (by omega) rfl (by simp; omega)).eq ?_
    rw [List.range'_concat, List.reverse_append, List.reverse_singleton, Nat.one_mul]
    simp [remO, noNode, upn]
theorem T.visitLists.L1 (hs : ∀ x y q D, q.length + d ≤ 100 → D.list.length + 3000000 * d ≤ 99000000 → Shape d x = true → Shape d y = true → Ev (fun f => G.impl_differences_visit f D x y q) (DifferencesT.mk (D.list ++ (diffM d x y).map (upn q)))) :
    ∀ (t i : Nat) (z : List OpT), i + t = min a.Kids.length b.Kids.length → z.length + 300000 * t + 3000000 * d ≤ 99000000 →
    Ev (fun f => G.impl_differences_visitLists.L1 f a b p (i : Int) z) (DifferencesT.mk (z ++ ((List.range' i t).flatMap (gL (diffM d) a b) ++ ((List.range' (min a.Kids.length b.Kids.length) (a.Kids.length - min a.Kids.length b.Kids.length)).reverse.map remO ++
    (List.range' (min a.Kids.length b.Kids.length) (b.Kids.length - min a.Kids.length b.Kids.length)).map (addO b))).map (upn p))) := by
  have h6 := shape_len ha
  have h7 := shape_len hb
  intro t
  induction t with
  | zero =>
    intro i z hi hz
    refine Ev.up ?_
    have w : IntKind.wrap .i64 (((a.Kids.length : Nat) : Int) - 1) = ((a.Kids.length : Nat) : Int) - 1 := wrap_in (by omega) (by omega)
    simp only [G.impl_differences_visitLists.L1, imin, w]
    exact Ev.cf (decide_eq_false (by omega)) ((T.visitLists.L2 hd hp ha hb (a.Kids.length - min a.Kids.length b.Kids.length) _ z (by omega) (by omega) (by omega)).eq (by simp))
  | succ t ih =>
    intro i z hi hz
    have hx := shape_kid ha (show i < a.Kids.length by omega)
    have hy := shape_kid hb (show i < b.Kids.length by omega)
    have hl := diff_short (by omega) hx hy
    refine Ev.up ?_
    simp only [G.impl_differences_visitLists.L1, imin, Int.toNat_natCast, wrap_suc (show i + 1 < 9223372036854775808 by omega)]
    refine Ev.ct (decide_eq_true (by omega)) (Ev.chk (by omega) (Ev.chk (by omega) (Ev.bind (T.strconv_Itoa (by omega)) (Ev.bind (T.impl_stepBehind (by omega)) (Ev.bind (hs _ _ _ _ (by simp; omega) (by show z.length + _ ≤ _; omega) hx hy) ?_)))))
    refine (ih (i + 1) _ (by omega) (by show (z ++ List.map _ _).length + _ + _ ≤ _; rw [List.length_append, List.length_map]; omega)).eq ?_
    rw [List.range'_succ, List.flatMap_cons]
    simp only [gL, List.map_append, map_und, List.append_assoc]
end
theorem T.visit : ∀ (d : Nat) {a b : NodeT} {p : List Txt} {D : DifferencesT}, d ≤ 5 → p.length + d ≤ 100 → D.list.length + 3000000 * d ≤ 99000000 → Shape d a = true → Shape d b = true → Ev (fun f => G.impl_differences_visit f D a b p) (DifferencesT.mk (D.list ++ (diffM d a b).map (upn p)))
  | 0, _, _, _, _, _, _, _, h, _ => by cases h
  | d + 1, a, b, p, D, hd, hp, hD, ha, hb => by
    have h6 := shape_len ha
    have h7 := shape_len hb
    obtain ⟨v, gs, hv⟩ := T.impl_sameNode ha hb
    have hrec := fun (x y : NodeT) (q : List Txt) (D' : DifferencesT) (hq : q.length + d ≤ 100) (hD' : D'.list.length + 3000000 * d ≤ 99000000) (hx : Shape d x = true) (hy : Shape d y = true) => T.visit d (p := q) (D := D') (by omega) (by omega) hD' hx hy
    have one : Ev (fun f => Option.bind (G.impl_differences_put f D 3 p b) fun v => some v) (DifferencesT.mk (D.list ++ [OpT.mk 3 [] [] b].map (upn p))) := Ev.bind (T.impl_put lim12 (shape_fine hb) (by omega) (by omega)) (Ev.ret' (by simp [upn]))
    refine Ev.up ?_
    simp only [G.impl_differences_visit]
    rw [diffM_succ]
    refine Ev.bind gs ?_
    by_cases e : a = b
    · rw [if_pos e]
      exact Ev.ct (hv.2 e) (Ev.ret' (by simp))
    rw [if_neg e]
    refine Ev.cf (bool_of hv e) ?_
    have k3 : Ev (fun f => cond (a.Kind == 3) (cond (b.Kind == 3) (Option.bind (G.impl_differences_visitLists f D a b p) fun v => some v) (Option.bind (G.impl_differences_put f D 3 p b) fun v => some v)) (Option.bind (G.impl_differences_put f D 3 p b) fun v => some v))
        (DifferencesT.mk (D.list ++ (if a.Kind = 3 ∧ b.Kind = 3 then dLists (diffM d) a b else [OpT.mk 3 [] [] b]).map (upn p))) := by
      refine Ev.ite (fun ka => ?_) (fun ka => ?_)
      · have ka' : a.Kind = 3 := by simpa using ka
        refine Ev.ite (fun kb => ?_) (fun kb => ?_)
        · have kb' : b.Kind = 3 := by simpa using kb
          rw [if_pos ⟨ka', kb'⟩, dLists_eq]
          refine Ev.bind (Ev.up ?_) (Ev.ret _)
          simp only [G.impl_differences_visitLists]
          exact T.visitLists.L1 (by omega) (by omega) ha hb hrec (min a.Kids.length b.Kids.length) 0 _ (by omega) (by omega)
        · have kb' : ¬ b.Kind = 3 := by simpa using kb
          rw [if_neg (fun h => kb' h.2)]
          exact one
      · have ka' : ¬ a.Kind = 3 := by simpa using ka
        rw [if_neg (fun h => ka' h.1)]
        exact one
    refine Ev.ite (fun ka => ?_) (fun ka => ?_)
    · have ka' : a.Kind = 4 := by simpa using ka
      refine Ev.ite (fun kb => ?_) (fun kb => ?_)
      · have kb' : b.Kind = 4 := by simpa using kb
        rw [if_pos ⟨ka', kb'⟩, dMaps_eq]
        refine Ev.bind (Ev.up ?_) (Ev.ret _)
        simp only [G.impl_differences_visitMaps]
        exact T.visitMaps.L1 (by omega) (by omega) ha hb (mapN_of (shape_parts ha) ka').1 (mapN_of (shape_parts hb) kb').1 hrec a.Kids.length 0 _ (by omega) (by omega)
      · have kb' : ¬ b.Kind = 4 := by simpa using kb
        rw [if_neg (fun h => kb' h.2)]
        exact k3
    · have ka' : ¬ a.Kind = 4 := by simpa using ka
      rw [if_neg (fun h => ka' h.1)]
      exact k3
end Go.Ab
end
section
namespace Go.Ab
open Go
set_option maxRecDepth 100000
noncomputable def DifM (a b : NodeT) : List OpT × Bool := if Val a && Val b then (if (PatchM a (diffM 5 a b)).isSome then (diffM 5 a b, true) else ([], false)) else ([], false)
theorem difO_fine {d : Nat} {o : OpT} (hd : d ≤ 5) (h : DifO d o) : FineOE o := by
  refine ⟨5, ⟨by have := h.len; omega, fun s hs => by have := h.txt s hs; omega⟩, ?_, h.val.mono (by omega) (Nat.le_refl _)⟩
  rw [h.frm]
  exact ⟨by simp, fun s hs => by cases hs⟩
theorem diff_fine {a b : NodeT} (ha : Val a = true) (hb : Val b = true) : FineL (diffM 5 a b) := by
  have := diff_len 5 (val_shape ha) (val_shape hb)
  have := val_cnt ha
  exact ⟨by omega, fun o ho => difO_fine (Nat.le_refl _) (diff_ops 5 (by omega) (val_shape ha) (val_shape hb) ho)⟩
theorem upn_nil {l : List OpT} (h : ∀ o, o ∈ l → o.From = []) : l.map (upn []) = l := by
  have : l.map (upn []) = l.map id := List.map_congr_left (fun o ho => by
    have := h o ho
    cases o
    simp only at this
    subst this
    rfl)
  rw [this, List.map_id]
theorem visit5 {a b : NodeT} (ha : Val a = true) (hb : Val b = true) : Ev (fun f => G.impl_differences_visit f (DifferencesT.mk []) a b []) (DifferencesT.mk (diffM 5 a b)) := by
  refine (T.visit 5 (by omega) (by simp) (by simp) (val_shape ha) (val_shape hb)).eq ?_
  rw [upn_nil (fun o ho => (diff_ops 5 (by omega) (val_shape ha) (val_shape hb) ho).frm)]
  rfl
section
variable {B D E : Nat} {a b : NodeT} (hB : B ≤ lim) (ha : Fine B D a) (hb : Fine B E b)
include hB ha hb
theorem T.impl_DiffNodes : Ev (fun f => G.impl_DiffNodes f a b) (DifM a b) := by
  refine Ev.up ?_
  simp only [G.impl_DiffNodes]
  unfold DifM
  refine Ev.bind (T.impl_ValidNode hB ha) (Ev.ite (fun e1 => ?_) (fun e1 => Ev.ret' (by rw [e1]; rfl)))
  refine Ev.bind (T.impl_ValidNode hB hb) (Ev.ite (fun e2 => ?_) (fun e2 => Ev.ret' (by rw [e1, e2]; rfl)))
  refine Ev.up ?_
  simp only [G.impl_DiffNodes.K1]
  rw [e1, e2]
  refine Ev.bind (visit5 e1 e2) (Ev.bind (T.impl_ApplyPatch hB ha (diff_fine e1 e2)) ?_)
  cases PatchM a (diffM 5 a b) with
  | none => exact Ev.cf rfl (Ev.ret _)
  | some m => exact Ev.ct rfl (Ev.ret _)
theorem T.spec_DiffNodes : Ev (fun f => G.spec_DiffNodes f a b) (DifM a b) := by
  refine Ev.up ?_
  simp only [G.spec_DiffNodes]
  unfold DifM
  refine Ev.bind (T.spec_validNode hB ha) (Ev.ite (fun e1 => ?_) (fun e1 => Ev.ret' (by rw [e1]; rfl)))
  refine Ev.bind (T.spec_validNode hB hb) (Ev.ite (fun e2 => ?_) (fun e2 => Ev.ret' (by rw [e1, e2]; rfl)))
  rw [e1, e2]
  refine Ev.bind (T.spec_diff 5 (by omega) (val_shape e1) (val_shape e2)) (Ev.bind (T.spec_validPatch (diff_fine e1 e2)) ?_)
  refine Ev.ite (fun e3 => ?_) (fun e3 => Ev.ret' ?_)
  · refine Ev.bind (T.spec_ApplyPatch hB ha (diff_fine e1 e2)) ?_
    cases PatchM a (diffM 5 a b) with
    | none => exact Ev.cf rfl (Ev.ret _)
    | some m => exact Ev.ct rfl (Ev.ret _)
  · have : PatchM a (diffM 5 a b) = none := by unfold PatchM; rw [e1, e3]; rfl
    rw [this]; rfl
end
structure Dif (a b : NodeT) : Prop where
  va : Val a = true
  vb : Val b = true
  run : PatchM a (diffM 5 a b) = some b
  is : DifM a b = (diffM 5 a b, true)
  pat : PatV (diffM 5 a b) = true
theorem dif_cases (a b : NodeT) : DifM a b = ([], false) ∨ Dif a b := by
  cases h : Val a && Val b with
  | false => exact .inl (by unfold DifM; rw [h]; rfl)
  | true =>
    obtain ⟨va, vb⟩ : Val a = true ∧ Val b = true := by simpa using h
    cases hp : PatchM a (diffM 5 a b) with
    | none => exact .inl (by unfold DifM; rw [h, hp]; rfl)
    | some m =>
      refine .inr ?_
      obtain ⟨_, hv, hr, _⟩ := patchM_some hp
      have := raw_of_run hr
      rw [diff_raw 5 (val_shape va) (val_shape vb)] at this
      have e := Option.some.inj this
      subst e
      exact ⟨va, vb, hp, by unfold DifM; rw [h, hp]; rfl, hv⟩
theorem dif_fine (a b : NodeT) : FineL (DifM a b).1 := by
  rcases dif_cases a b with h | h
  · rw [h]; exact ⟨by simp, fun o ho => by cases ho⟩
  · rw [h.is]; exact diff_fine h.va h.vb
theorem N2.fine {x : NodeT × NodeT} (h : N2 x) : ∃ D E, Fine 60 D x.1 ∧ Fine 60 E x.2 := by
  obtain ⟨⟨D, h1⟩, ⟨E, h2⟩⟩ := h
  exact ⟨D, E, h1, h2⟩
theorem T.law_DiffNodes {c : List Int} (hc : Bytes c) : Ev (fun f => G.laws_FnDiffNodes f c) true := by
  refine Ev.up ?_
  simp only [G.laws_FnDiffNodes]
  refine Ev.ite (fun _ => Ev.ret _) (fun e => ?_)
  obtain ⟨⟨a, b⟩, g, hab⟩ := D.DrawDiffNodes hc (by simp at e; omega)
  obtain ⟨D, E, ha, hb⟩ := hab.fine
  have eq := equalOps_self (dif_fine a b)
  refine Ev.bind g (Ev.bind (T.impl_DiffNodes lim60 ha hb) (Ev.bind (T.spec_DiffNodes lim60 ha hb) (Ev.bind eq (Ev.ct rfl ?_))))
  rcases dif_cases a b with h | h
  · rw [h] at eq ⊢
    exact evd
  · have hP := T.impl_ApplyPatch lim60 ha (diff_fine h.va h.vb)
    rw [h.run] at hP
    have en := equal_val h.vb
    rw [h.is]
    refine Ev.ct rfl (Ev.ct rfl (Ev.up ?_))
    simp only [G.laws_FnDiffNodes.K1]
    exact Ev.bind hP (Ev.ct rfl (Ev.bind en (Ev.ret _)))
end Go.Ab
end
section
namespace Go.Ab
open Go
set_option maxRecDepth 100000
set_option maxHeartbeats 4000000
set_option linter.unusedVariables false
set_option linter.unusedSimpArgs false
theorem F.cmp_isNaN_int {n : Nat} : ∀ {a_x1 : Int} {r : Bool}, G.cmp_isNaN_int n a_x1 = some r → APure Go.Proofs.Tryz.prog 164 [.one (.c (.lit (.int .i64 a_x1)))] (.one (.c (.lit (.bool r)))) := by
  intro a_x1 r h
  refine fun_pure K.cmp_isNaN_int (ofK ?_)
  unfold C.cmp_isNaN_int
  rcases n with _ | n <;> simp only [G.cmp_isNaN_int, reduceCtorEq] at h
  obtain ⟨zc, zg, zk, zu, ze, zj, zt⟩ := pp () <| pp () <| pp () <| pp () <| pp () <| pp () <| ()
  exact drv
theorem F.cmp_Compare_int {n : Nat} : ∀ {a_x1 : Int} {a_y1 : Int} {r : Int}, G.cmp_Compare_int n a_x1 a_y1 = some r → APure Go.Proofs.Tryz.prog 110 [.one (.c (.lit (.int .i64 a_x1))), .one (.c (.lit (.int .i64 a_y1)))] (.one (.c (.lit (.int .i64 r)))) := by
  intro a_x1 a_y1 r h
  refine fun_pure K.cmp_Compare_int (ofK ?_)
  unfold C.cmp_Compare_int
  rcases n with _ | n <;> simp only [G.cmp_Compare_int, reduceCtorEq] at h
  obtain ⟨zc, zg, zk, zu, ze, zj, zt⟩ := pp (pp @F.cmp_isNaN_int ()) <| pp () <| pp () <| pp () <| pp () <| pp () <| ()
  exact drv
theorem F.cmp_isNaN_string {n : Nat} : ∀ {a_x1 : Txt} {r : Bool}, G.cmp_isNaN_string n a_x1 = some r → APure Go.Proofs.Tryz.prog 178 [.one (.c (.str a_x1))] (.one (.c (.lit (.bool r)))) := by
  intro a_x1 r h
  refine fun_pure K.cmp_isNaN_string (ofK ?_)
  unfold C.cmp_isNaN_string
  rcases n with _ | n <;> simp only [G.cmp_isNaN_string, reduceCtorEq] at h
  obtain ⟨zc, zg, zk, zu, ze, zj, zt⟩ := pp () <| pp () <| pp () <| pp () <| pp () <| pp () <| ()
  exact drv
theorem F.cmp_Less_string {n : Nat} : ∀ {a_x1 : Txt} {a_y1 : Txt} {r : Bool}, G.cmp_Less_string n a_x1 a_y1 = some r → APure Go.Proofs.Tryz.prog 137 [.one (.c (.str a_x1)), .one (.c (.str a_y1))] (.one (.c (.lit (.bool r)))) := by
  intro a_x1 a_y1 r h
  refine fun_pure K.cmp_Less_string (ofK ?_)
  unfold C.cmp_Less_string
  rcases n with _ | n <;> simp only [G.cmp_Less_string, reduceCtorEq] at h
  obtain ⟨zc, zg, zk, zu, ze, zj, zt⟩ := pp (pp @F.cmp_isNaN_string ()) <| pp () <| pp () <| pp () <| pp () <| pp () <| ()
  exact drv
theorem F.impl_copyNode_n : ∀ (n : Nat), ∀ {a_n1 : NodeT} {r : NodeT}, G.impl_copyNode n a_n1 = some r → APure Go.Proofs.Tryz.prog 61 [.agg [.c (.lit (.int .i64 a_n1.Kind)), .c (.lit (.int .i64 a_n1.Num)), .c (.str a_n1.Text), .c (.sl 1 (List.map cS a_n1.Names)), .c (.sl 5 (List.map NodeT.cells a_n1.Kids))]] (.agg [.c (.lit (.int .i64 r.Kind)), .c (.lit (.int .i64 r.Num)), .c (.str r.Text), .c (.sl 1 (List.map cS r.Names)), .c (.sl 5 (List.map NodeT.cells r.Kids))]) := by
  intro n
  induction n using Nat.strongRecOn with | _ n ih =>
  intro a_n1 r h
  refine fun_pure K.impl_copyNode (ofK ?_)
  unfold C.impl_copyNode
  rcases n with _ | n <;> simp only [G.impl_copyNode, reduceCtorEq] at h
  obtain ⟨zc, zg, zk, zu, ze, zj, zt⟩ := pp (pp ih ()) <| pp () <| pp (pp (@lopX (List Txt × Int × List NodeT) _ (fun n x => G.impl_copyNode.L2 n a_n1 x.1 x.2.1 x.2.2) r (fun x => ASt.of [(2, .v true (.one (.ptr 113 0))), (3, .v true (.one (.ptr 114 0))), (37, .v true (.one (.c (.sl 5 (List.map NodeT.cells a_n1.Kids))))), (38, .v true (.one (.c (.lit (.int .i64 ((a_n1.Kids.length : Nat) : Int)))))), (39, .v true (.one (.c (.lit (.int .i64 x.2.1)))))] [(113, .var [.c (.lit (.int .i64 0)), .c (.lit (.int .i64 0)), .c (.str []), .nsl 1, .nsl 5]), (114, .var [.c (.lit (.int .i64 a_n1.Kind)), .c (.lit (.int .i64 a_n1.Num)), .c (.str a_n1.Text), .own 115 x.1.length 1, .own 116 x.2.2.length 5]), (115, .dat 1 (List.map cS x.1)), (116, .dat 5 (List.map NodeT.cells x.2.2))])) ()) <| pp (pp (@cutX (List Txt) _ (fun n x => G.impl_copyNode.K1 n a_n1 x) r (fun x => ASt.of [(1, .v true (.one (.ptr 101 0))), (2, .v true (.one (.ptr 102 0))), (3, .v true (.one (.ptr 103 0)))] [(101, .var [.c (.lit (.int .i64 a_n1.Kind)), .c (.lit (.int .i64 a_n1.Num)), .c (.str a_n1.Text), .c (.sl 1 (List.map cS a_n1.Names)), .c (.sl 5 (List.map NodeT.cells a_n1.Kids))]), (102, .var [.c (.lit (.int .i64 0)), .c (.lit (.int .i64 0)), .c (.str []), .nsl 1, .nsl 5]), (103, .var [.c (.lit (.int .i64 a_n1.Kind)), .c (.lit (.int .i64 a_n1.Num)), .c (.str a_n1.Text), .own 104 x.length 1, .nsl 5]), (104, .dat 1 (List.map cS x))])) ()) <| pp (pp (And.intro @G.impl_copyNode.K1.eq_1 <| And.intro @G.impl_copyNode.K1.eq_2 <| And.intro @G.impl_copyNode.L2.eq_1 <| @G.impl_copyNode.L2.eq_2) ()) <| pp (pp (@weakX [] [(101, 10), (102, 11), (103, 12), (104, 13)] []) <| pp (@weakX [] [(101, 10), (102, 11), (103, 12)] [104]) <| pp (@weakX [] [(113, 102), (114, 103), (115, 104), (116, 14)] []) <| pp (@weakX [] [(113, 113), (114, 114), (115, 115), (116, 116)] []) ()) <| ()
  exact drv
theorem F.impl_copyNode {n : Nat} : ∀ {a_n1 : NodeT} {r : NodeT}, G.impl_copyNode n a_n1 = some r → APure Go.Proofs.Tryz.prog 61 [.agg [.c (.lit (.int .i64 a_n1.Kind)), .c (.lit (.int .i64 a_n1.Num)), .c (.str a_n1.Text), .c (.sl 1 (List.map cS a_n1.Names)), .c (.sl 5 (List.map NodeT.cells a_n1.Kids))]] (.agg [.c (.lit (.int .i64 r.Kind)), .c (.lit (.int .i64 r.Num)), .c (.str r.Text), .c (.sl 1 (List.map cS r.Names)), .c (.sl 5 (List.map NodeT.cells r.Kids))]) := F.impl_copyNode_n n
theorem F.impl_copyNode_o {n : Nat} : ∀ {a_n1 : NodeT} {r : NodeT}, G.impl_copyNode n a_n1 = some r → ACalls Go.Proofs.Tryz.prog 61 [.agg [.c (.lit (.int .i64 a_n1.Kind)), .c (.lit (.int .i64 a_n1.Num)), .c (.str a_n1.Text), .c (.sl 1 (List.map cS a_n1.Names)), .c (.sl 5 (List.map NodeT.cells a_n1.Kids))]] [] (fun r1 b1 => r1 = .agg [.c (.lit (.int .i64 r.Kind)), .c (.lit (.int .i64 r.Num)), .c (.str r.Text), .own 0 r.Names.length 1, .own 1 r.Kids.length 5] ∧ b1 = [.dat 1 (List.map cS r.Names), .dat 5 (List.map NodeT.cells r.Kids)]) := by
  intro a_n1 r h
  refine fun_sound K.impl_copyNode (ofK ?_)
  unfold C.impl_copyNode
  rcases n with _ | n <;> simp only [G.impl_copyNode, reduceCtorEq] at h
  obtain ⟨zc, zg, zk, zu, ze, zj, zt⟩ := pp (pp @F.impl_copyNode ()) <| pp () <| pp (pp (@lopX (List Txt × Int × List NodeT) _ (fun n x => G.impl_copyNode.L2 n a_n1 x.1 x.2.1 x.2.2) r (fun x => ASt.of [(2, .v true (.one (.ptr 113 0))), (3, .v true (.one (.ptr 114 0))), (37, .v true (.one (.c (.sl 5 (List.map NodeT.cells a_n1.Kids))))), (38, .v true (.one (.c (.lit (.int .i64 ((a_n1.Kids.length : Nat) : Int)))))), (39, .v true (.one (.c (.lit (.int .i64 x.2.1)))))] [(113, .var [.c (.lit (.int .i64 0)), .c (.lit (.int .i64 0)), .c (.str []), .nsl 1, .nsl 5]), (114, .var [.c (.lit (.int .i64 a_n1.Kind)), .c (.lit (.int .i64 a_n1.Num)), .c (.str a_n1.Text), .own 115 x.1.length 1, .own 116 x.2.2.length 5]), (115, .dat 1 (List.map cS x.1)), (116, .dat 5 (List.map NodeT.cells x.2.2))])) ()) <| pp (pp (@cutX (List Txt) _ (fun n x => G.impl_copyNode.K1 n a_n1 x) r (fun x => ASt.of [(1, .v true (.one (.ptr 101 0))), (2, .v true (.one (.ptr 102 0))), (3, .v true (.one (.ptr 103 0)))] [(101, .var [.c (.lit (.int .i64 a_n1.Kind)), .c (.lit (.int .i64 a_n1.Num)), .c (.str a_n1.Text), .c (.sl 1 (List.map cS a_n1.Names)), .c (.sl 5 (List.map NodeT.cells a_n1.Kids))]), (102, .var [.c (.lit (.int .i64 0)), .c (.lit (.int .i64 0)), .c (.str []), .nsl 1, .nsl 5]), (103, .var [.c (.lit (.int .i64 a_n1.Kind)), .c (.lit (.int .i64 a_n1.Num)), .c (.str a_n1.Text), .own 104 x.length 1, .nsl 5]), (104, .dat 1 (List.map cS x))])) ()) <| pp (pp (And.intro @G.impl_copyNode.K1.eq_1 <| And.intro @G.impl_copyNode.K1.eq_2 <| And.intro @G.impl_copyNode.L2.eq_1 <| @G.impl_copyNode.L2.eq_2) ()) <| pp (pp (@weakX [] [(101, 10), (102, 11), (103, 12), (104, 13)] []) <| pp (@weakX [] [(101, 10), (102, 11), (103, 12)] [104]) <| pp (@weakX [] [(113, 102), (114, 103), (115, 104), (116, 14)] []) <| pp (@weakX [] [(113, 113), (114, 114), (115, 115), (116, 116)] []) ()) <| (pp (@retX [] [(0, 115), (1, 116)] []) <| pp (@retX [] [(0, 104)] [1]) ())
  exact drv
theorem F.slices_isNaN_string {n : Nat} : ∀ {a_x1 : Txt} {r : Bool}, G.slices_isNaN_string n a_x1 = some r → APure Go.Proofs.Tryz.prog 138 [.one (.c (.str a_x1))] (.one (.c (.lit (.bool r)))) := by
  intro a_x1 r h
  refine fun_pure K.slices_isNaN_string (ofK ?_)
  unfold C.slices_isNaN_string
  rcases n with _ | n <;> simp only [G.slices_isNaN_string, reduceCtorEq] at h
  obtain ⟨zc, zg, zk, zu, ze, zj, zt⟩ := pp () <| pp () <| pp () <| pp () <| pp () <| pp () <| ()
  exact drv
theorem F.slices_BinarySearch_string {n : Nat} : ∀ {a_x1 : List Txt} {a_target1 : Txt} {r : Int × Bool}, G.slices_BinarySearch_string n a_x1 a_target1 = some r → APure Go.Proofs.Tryz.prog 94 [.one (.c (.sl 1 (List.map cS a_x1))), .one (.c (.str a_target1))] (.tup [(false, [.c (.lit (.int .i64 r.1))]), (false, [.c (.lit (.bool r.2))])]) := by
  intro a_x1 a_target1 r h
  refine fun_pure K.slices_BinarySearch_string (ofK ?_)
  unfold C.slices_BinarySearch_string
  rcases n with _ | n <;> simp only [G.slices_BinarySearch_string, reduceCtorEq] at h
  obtain ⟨zc, zg, zk, zu, ze, zj, zt⟩ := pp (pp @F.cmp_Less_string <| pp @F.slices_isNaN_string ()) <| pp () <| pp (pp (@lopX (Int × Int) _ (fun n x => G.slices_BinarySearch_string.L1 n a_x1 a_target1 x.1 x.2) r (fun x => ASt.of [(0, .v true (.one (.c (.sl 1 (List.map cS a_x1))))), (1, .v true (.one (.c (.str a_target1)))), (6, .v true (.one (.c (.lit (.int .i64 ((a_x1.length : Nat) : Int)))))), (7, .v true (.one (.c (.lit (.int .i64 x.1))))), (8, .v true (.one (.c (.lit (.int .i64 x.2)))))] [])) ()) <| pp () <| pp (pp (And.intro @G.slices_BinarySearch_string.L1.eq_1 <| @G.slices_BinarySearch_string.L1.eq_2) ()) <| pp (pp (@weakX [] [] []) ()) <| ()
  exact drv
theorem F.internal_strconv_log10Pow2 {n : Nat} : ∀ {a_x1 : Int} {r : Int}, G.internal_strconv_log10Pow2 n a_x1 = some r → APure Go.Proofs.Tryz.prog 213 [.one (.c (.lit (.int .i64 a_x1)))] (.one (.c (.lit (.int .i64 r)))) := by
  intro a_x1 r h
  refine fun_pure K.internal_strconv_log10Pow2 (ofK ?_)
  unfold C.internal_strconv_log10Pow2
  rcases n with _ | n <;> simp only [G.internal_strconv_log10Pow2, reduceCtorEq] at h
  obtain ⟨zc, zg, zk, zu, ze, zj, zt⟩ := pp () <| pp () <| pp () <| pp () <| pp () <| pp () <| ()
  exact drv
theorem F.math_bits_Len64 {n : Nat} : ∀ {a_x1 : Int} {r : Int}, G.math_bits_Len64 n a_x1 = some r → APure Go.Proofs.Tryz.prog 163 [.one (.c (.lit (.int .u64 a_x1)))] (.one (.c (.lit (.int .i64 r)))) := by
  intro a_x1 r h
  refine fun_pure K.math_bits_Len64 (ofK ?_)
  unfold C.math_bits_Len64
  rcases n with _ | n <;> simp only [G.math_bits_Len64, reduceCtorEq] at h
  have := Mk.mk 1; have := Mk.mk 2
  obtain ⟨zc, zg, zk, zu, ze, zj, zt, zq⟩ := pp () <| pp () <| pp () <| pp (pp (@cutX (Int × Int) _ (fun n x => G.math_bits_Len64.K1 n x.1 x.2) r (fun x => ASt.of [(0, .v true (.one (.c (.lit (.int .u64 x.1))))), (2, .v true (.one (.c (.lit (.int .i64 x.2)))))] [])) <| pp (@cutX (Int × Int) _ (fun n x => G.math_bits_Len64.K2 n x.1 x.2) r (fun x => ASt.of [(0, .v true (.one (.c (.lit (.int .u64 x.1))))), (2, .v true (.one (.c (.lit (.int .i64 x.2)))))] [])) ()) <| pp (pp (And.intro @G.math_bits_Len64.K1.eq_1 <| And.intro @G.math_bits_Len64.K1.eq_2 <| And.intro @G.math_bits_Len64.K2.eq_1 <| @G.math_bits_Len64.K2.eq_2) ()) <| pp (pp (@weakX [] [] []) ()) <| pp () <| (pp (pp (rfl : @G.math_bits_Len64.K1 = _) ()) <| pp (pp (rfl : @G.math_bits_Len64.K2 = _) <| pp (rfl : @G.math_bits_Len64.K1 = _) ()) ())
  exact drvM
theorem F.internal_strconv_numDigits {n : Nat} : ∀ {a_d1 : Int} {r : Int}, G.internal_strconv_numDigits n a_d1 = some r → APure Go.Proofs.Tryz.prog 208 [.one (.c (.lit (.int .u64 a_d1)))] (.one (.c (.lit (.int .i64 r)))) := by
  intro a_d1 r h
  refine fun_pure K.internal_strconv_numDigits (ofK ?_)
  unfold C.internal_strconv_numDigits
  rcases n with _ | n <;> simp only [G.internal_strconv_numDigits, reduceCtorEq] at h
  obtain ⟨zc, zg, zk, zu, ze, zj, zt⟩ := pp (pp @F.math_bits_Len64 <| pp @F.internal_strconv_log10Pow2 ()) <| pp () <| pp () <| pp () <| pp () <| pp () <| ()
  exact drv
theorem F.internal_strconv_small {n : Nat} : ∀ {a_i1 : Int} {r : Txt}, G.internal_strconv_small n a_i1 = some r → APure Go.Proofs.Tryz.prog 207 [.one (.c (.lit (.int .i64 a_i1)))] (.one (.c (.str r))) := by
  intro a_i1 r h
  refine fun_pure K.internal_strconv_small (ofK ?_)
  unfold C.internal_strconv_small
  rcases n with _ | n <;> simp only [G.internal_strconv_small, reduceCtorEq] at h
  obtain ⟨zc, zg, zk, zu, ze, zj, zt⟩ := pp () <| pp () <| pp () <| pp () <| pp () <| pp () <| ()
  exact drv
theorem F.internal_strconv_FormatInt {n : Nat} : ∀ {a_i1 : Int} {a_base1 : Int} {r : Txt}, G.internal_strconv_FormatInt n a_i1 a_base1 = some r → APure Go.Proofs.Tryz.prog 201 [.one (.c (.lit (.int .i64 a_i1))), .one (.c (.lit (.int .i64 a_base1)))] (.one (.c (.str r))) := by
  intro a_i1 a_base1 r h
  refine fun_pure K.internal_strconv_FormatInt (ofK ?_)
  unfold C.internal_strconv_FormatInt
  rcases n with _ | n <;> simp only [G.internal_strconv_FormatInt, reduceCtorEq] at h
  have := Mk.mk 1; have := Mk.mk 2
  obtain ⟨zc, zg, zk, zu, ze, zj, zt, zq⟩ := pp (pp @F.internal_strconv_small <| pp @F.internal_strconv_numDigits ()) <| pp () <| pp () <| pp (pp (@cutX (Int × List Int) _ (fun n x => G.internal_strconv_FormatInt.K1 n x.1 x.2) r (fun x => ASt.of [(0, .v true (.one (.c (.lit (.int .i64 a_i1))))), (5, .v true (.one (.aptr 101 0 1 0))), (6, .v true (.one (.c (.lit (.int .u64 x.1)))))] [(101, .dat 1 (List.map cU x.2))])) <| pp (@cutX (Int × List Int) _ (fun n x => G.internal_strconv_FormatInt.K2 n x.1 x.2) r (fun x => ASt.of [(0, .v true (.one (.c (.lit (.int .i64 a_i1))))), (5, .v true (.one (.aptr 102 0 1 0))), (6, .v true (.one (.c (.lit (.int .u64 x.1)))))] [(102, .dat 1 (List.map cU x.2))])) ()) <| pp (pp (And.intro @G.internal_strconv_FormatInt.K1.eq_1 <| And.intro @G.internal_strconv_FormatInt.K1.eq_2 <| And.intro @G.internal_strconv_FormatInt.K2.eq_1 <| @G.internal_strconv_FormatInt.K2.eq_2) ()) <| pp (pp (@weakX [] [(101, 10)] []) <| pp (@weakX [] [(102, 10)] []) ()) <| pp () <| (pp (pp (rfl : @G.internal_strconv_FormatInt.K1 = _) ()) <| pp (pp (rfl : @G.internal_strconv_FormatInt.K2 = _) ()) ())
  exact drvM
theorem F.internal_strconv_Itoa {n : Nat} : ∀ {a_i1 : Int} {r : Txt}, G.internal_strconv_Itoa n a_i1 = some r → APure Go.Proofs.Tryz.prog 177 [.one (.c (.lit (.int .i64 a_i1)))] (.one (.c (.str r))) := by
  intro a_i1 r h
  refine fun_pure K.internal_strconv_Itoa (ofK ?_)
  unfold C.internal_strconv_Itoa
  rcases n with _ | n <;> simp only [G.internal_strconv_Itoa, reduceCtorEq] at h
  obtain ⟨zc, zg, zk, zu, ze, zj, zt⟩ := pp (pp @F.internal_strconv_FormatInt ()) <| pp () <| pp () <| pp () <| pp () <| pp () <| ()
  exact drv
theorem F.strconv_Itoa {n : Nat} : ∀ {a_i1 : Int} {r : Txt}, G.strconv_Itoa n a_i1 = some r → APure Go.Proofs.Tryz.prog 130 [.one (.c (.lit (.int .i64 a_i1)))] (.one (.c (.str r))) := by
  intro a_i1 r h
  refine fun_pure K.strconv_Itoa (ofK ?_)
  unfold C.strconv_Itoa
  rcases n with _ | n <;> simp only [G.strconv_Itoa, reduceCtorEq] at h
  obtain ⟨zc, zg, zk, zu, ze, zj, zt⟩ := pp (pp @F.internal_strconv_Itoa ()) <| pp () <| pp () <| pp () <| pp () <| pp () <| ()
  exact drv
theorem F.impl_kidIndex {n : Nat} : ∀ {a_n1 : NodeT} {a_step1 : Txt} {r : Int × Bool}, G.impl_kidIndex n a_n1 a_step1 = some r → APure Go.Proofs.Tryz.prog 107 [.agg [.c (.lit (.int .i64 a_n1.Kind)), .c (.lit (.int .i64 a_n1.Num)), .c (.str a_n1.Text), .c (.sl 1 (List.map cS a_n1.Names)), .c (.sl 5 (List.map NodeT.cells a_n1.Kids))], .one (.c (.str a_step1))] (.tup [(false, [.c (.lit (.int .i64 r.1))]), (false, [.c (.lit (.bool r.2))])]) := by
  intro a_n1 a_step1 r h
  refine fun_pure K.impl_kidIndex (ofK ?_)
  unfold C.impl_kidIndex
  rcases n with _ | n <;> simp only [G.impl_kidIndex, reduceCtorEq] at h
  obtain ⟨zc, zg, zk, zu, ze, zj, zt⟩ := pp (pp @F.slices_BinarySearch_string <| pp @F.strconv_Itoa ()) <| pp () <| pp (pp (@lopX (Int) _ (fun n x => G.impl_kidIndex.L1 n a_n1 a_step1 x) r (fun x => ASt.of [(1, .v true (.one (.c (.str a_step1)))), (21, .v true (.one (.c (.lit (.int .i64 ((a_n1.Kids.length : Nat) : Int)))))), (22, .v true (.one (.c (.lit (.int .i64 x)))))] [])) ()) <| pp () <| pp (pp (And.intro @G.impl_kidIndex.L1.eq_1 <| @G.impl_kidIndex.L1.eq_2) ()) <| pp (pp (@weakX [] [] []) ()) <| ()
  exact drv
theorem FZ.slices_Insert_impl_Node {es : List (List Cell)} {v : List Cell} {c i : Nat} (hc : es.length ≤ c) (hi : i ≤ es.length) (hb : (es.length + 1) * 86 ≤ 2 ^ 46) :
    ACalls Go.Proofs.Tryz.prog 140 [.one (.sub 0 0 es.length (some c) 5), .one (.c (.lit (.int .i64 (i : Int)))), .one (.own 1 1 5)] [.dat 5 es, .dat 5 [v]]
      (fun r1 b1 => r1 = .one (.own 2 (es.length + 1) 5) ∧ b1 = [.dead, .dat 5 [v], .dat 5 (es.take i ++ v :: es.drop i)]) := by
  have hw : IntKind.wrap .i64 ((es.length : Int) + ((1 : Nat) : Int)) = ((es.length + 1 : Nat) : Int) := by rw [wrap_id] <;> omega
  have hw2 : IntKind.wrap .i64 ((i : Int) + ((1 : Nat) : Int)) = ((i + 1 : Nat) : Int) := by rw [wrap_id] <;> omega
  have hw3 : IntKind.wrap .i64 (((es.length + 1 : Nat) : Int) - i) = ((es.length + 1 - i : Nat) : Int) := by rw [wrap_id] <;> omega
  refine fun_sound K.slices_Insert_impl_Node (ofK ?_)
  unfold C.slices_Insert_impl_Node
  have h10 : (((1 : Nat) : Int) == 0) = false := rfl
  by_cases h1 : i = es.length
  · subst h1
    have he : (((es.length : Nat) : Int) == ((es.length : Nat) : Int)) = true := by simp
    simp -dsimp only [egR, AOp.opds, AOp.f, AOp.rd, intBin, storeV, lvl, srcOf, reduceIte, Nat.reduceEqDiff, Nat.reduceAdd, Nat.reduceLeDiff, Nat.reduceBEq, reduceCtorEq, Int.reduceBNe, Int.reduceBEq, Int.reduceLT, Int.reduceLE, Int.reduceNeg, Nat.reduceLT, strBin, Int.reduceToNat, renC, ssliceV, sl3V, sappV, scpyV, appzV, sclrV, truncS, Option.map_none, Int.sub_zero, Nat.sub_zero, Int.toNat_sub, Int.ofNat_zero, List.drop_zero, List.take_length, Nat.add_sub_cancel, h10]
    repeat refine And.intro (by first | (show logOK _ _ _ _ = true; kernel_rfl) | (show callOK _ _ = true; kernel_rfl) | omega | assumption) ?_
    have e : es ++ [v] ++ List.drop (es.length + 1) es = es ++ v :: List.drop es.length es := by simp
    have e2 : es ++ [v] = es ++ v :: List.drop es.length es := by simp
    by_cases hr : es.length + 1 ≤ c
    · simp -dsimp only [egR, AOp.opds, AOp.f, AOp.rd, intBin, storeV, lvl, srcOf, reduceIte, Nat.reduceEqDiff, Nat.reduceAdd, Nat.reduceLeDiff, Nat.reduceBEq, reduceCtorEq, Int.reduceBNe, Int.reduceBEq, Int.reduceLT, Int.reduceLE, Int.reduceNeg, Nat.reduceLT, strBin, Int.reduceToNat, renC, ssliceV, sl3V, sappV, scpyV, appzV, sclrV, truncS, Option.map_none, Int.sub_zero, Nat.sub_zero, Int.toNat_sub, Int.ofNat_zero, List.drop_zero, List.take_length, Nat.add_sub_cancel, hr]
      repeat refine And.intro (by first | (show logOK _ _ _ _ = true; kernel_rfl) | (show callOK _ _ = true; kernel_rfl) | omega | assumption) ?_
      rw [e]
      refine ret_of [] [(0, 0), (1, 1), (2, 0)] [] (by rfl) ?_ ?_ ?_ <;> (simp -dsimp only [rwR, wkB, wkC, reduceIte, Nat.reduceEqDiff, reduceCtorEq, Nat.reduceAdd, Nat.reduceLeDiff] <;> first | (simp [List.take_of_length_le]; done) | ((try simp only [List.map_take, List.map_drop, List.map_append, List.map_cons, List.map_nil]) <;> (repeat' apply And.intro) <;> first | rfl | (simp; done) | (simp <;> omega; done) | (congr 1; exact (List.take_of_length_le (by simp <;> omega)).symm)))
    · simp -dsimp only [egR, AOp.opds, AOp.f, AOp.rd, intBin, storeV, lvl, srcOf, reduceIte, Nat.reduceEqDiff, Nat.reduceAdd, Nat.reduceLeDiff, Nat.reduceBEq, reduceCtorEq, Int.reduceBNe, Int.reduceBEq, Int.reduceLT, Int.reduceLE, Int.reduceNeg, Nat.reduceLT, strBin, Int.reduceToNat, renC, ssliceV, sl3V, sappV, scpyV, appzV, sclrV, truncS, Option.map_none, Int.sub_zero, Nat.sub_zero, Int.toNat_sub, Int.ofNat_zero, List.drop_zero, List.take_length, Nat.add_sub_cancel, hr]
      repeat refine And.intro (by first | (show logOK _ _ _ _ = true; kernel_rfl) | (show callOK _ _ = true; kernel_rfl) | omega | assumption) ?_
      rw [e2]
      refine ret_of [] [(0, 0), (1, 1), (2, 10)] [] (by rfl) ?_ ?_ ?_ <;> (simp -dsimp only [rwR, wkB, wkC, reduceIte, Nat.reduceEqDiff, reduceCtorEq, Nat.reduceAdd, Nat.reduceLeDiff] <;> first | (simp [List.take_of_length_le]; done) | ((try simp only [List.map_take, List.map_drop, List.map_append, List.map_cons, List.map_nil]) <;> (repeat' apply And.intro) <;> first | rfl | (simp; done) | (simp <;> omega; done) | (congr 1; exact (List.take_of_length_le (by simp <;> omega)).symm)))
  · have he : (((i : Nat) : Int) == ((es.length : Nat) : Int)) = false := by simp; omega
    simp -dsimp only [egR, AOp.opds, AOp.f, AOp.rd, intBin, storeV, lvl, srcOf, reduceIte, Nat.reduceEqDiff, Nat.reduceAdd, Nat.reduceLeDiff, Nat.reduceBEq, reduceCtorEq, Int.reduceBNe, Int.reduceBEq, Int.reduceLT, Int.reduceLE, Int.reduceNeg, Nat.reduceLT, strBin, Int.reduceToNat, renC, ssliceV, sl3V, sappV, scpyV, appzV, sclrV, truncS, Option.map_none, Int.sub_zero, Nat.sub_zero, Int.toNat_sub, Int.ofNat_zero, List.drop_zero, List.take_length, Nat.add_sub_cancel, h10]
    repeat refine And.intro (by first | (show logOK _ _ _ _ = true; kernel_rfl) | (show callOK _ _ = true; kernel_rfl) | omega | assumption) ?_
    simp -dsimp only [egR, AOp.opds, AOp.f, AOp.rd, intBin, storeV, lvl, srcOf, reduceIte, Nat.reduceEqDiff, Nat.reduceAdd, Nat.reduceLeDiff, Nat.reduceBEq, reduceCtorEq, Int.reduceBNe, Int.reduceBEq, Int.reduceLT, Int.reduceLE, Int.reduceNeg, Nat.reduceLT, strBin, Int.reduceToNat, renC, ssliceV, sl3V, sappV, scpyV, appzV, sclrV, truncS, Option.map_none, Int.sub_zero, Nat.sub_zero, Int.toNat_sub, Int.ofNat_zero, List.drop_zero, List.take_length, Nat.add_sub_cancel, he]
    by_cases hr : es.length + 1 ≤ c
    · have hd : decide ((c : Int) < ((es.length + 1 : Nat) : Int)) = false := by simp; omega
      simp -dsimp only [egR, AOp.opds, AOp.f, AOp.rd, intBin, storeV, lvl, srcOf, reduceIte, Nat.reduceEqDiff, Nat.reduceAdd, Nat.reduceLeDiff, Nat.reduceBEq, reduceCtorEq, Int.reduceBNe, Int.reduceBEq, Int.reduceLT, Int.reduceLE, Int.reduceNeg, Nat.reduceLT, strBin, Int.reduceToNat, renC, ssliceV, sl3V, sappV, scpyV, appzV, sclrV, truncS, Option.map_none, Int.sub_zero, Nat.sub_zero, Int.toNat_sub, Int.ofNat_zero, List.drop_zero, List.take_length, Nat.add_sub_cancel, hw, hd]
      repeat refine And.intro (by first | (show logOK _ _ _ _ = true; kernel_rfl) | (show callOK _ _ = true; kernel_rfl) | omega | assumption) ?_
      simp -dsimp only [egR, AOp.opds, AOp.f, AOp.rd, intBin, storeV, lvl, srcOf, reduceIte, Nat.reduceEqDiff, Nat.reduceAdd, Nat.reduceLeDiff, Nat.reduceBEq, reduceCtorEq, Int.reduceBNe, Int.reduceBEq, Int.reduceLT, Int.reduceLE, Int.reduceNeg, Nat.reduceLT, strBin, Int.reduceToNat, renC, ssliceV, sl3V, sappV, scpyV, appzV, sclrV, truncS, Option.map_none, Int.sub_zero, Nat.sub_zero, Int.toNat_sub, Int.ofNat_zero, List.drop_zero, List.take_length, Nat.add_sub_cancel, hw2]
      repeat refine And.intro (by first | (show logOK _ _ _ _ = true; kernel_rfl) | (show callOK _ _ = true; kernel_rfl) | omega | assumption) ?_
      refine And.intro (by simp; omega) ?_
      have e := ins1 es v i (by omega)
      simp only [splice] at e
      rw [e]
      refine ret_of [] [(0, 0), (1, 1), (2, 0)] [] (by rfl) ?_ ?_ ?_ <;> (simp -dsimp only [rwR, wkB, wkC, reduceIte, Nat.reduceEqDiff, reduceCtorEq, Nat.reduceAdd, Nat.reduceLeDiff] <;> first | (simp [List.take_of_length_le]; done) | ((try simp only [List.map_take, List.map_drop, List.map_append, List.map_cons, List.map_nil]) <;> (repeat' apply And.intro) <;> first | rfl | (simp; done) | (simp <;> omega; done) | (congr 1; exact (List.take_of_length_le (by simp <;> omega)).symm)))
    · have hd : decide ((c : Int) < ((es.length + 1 : Nat) : Int)) = true := by simp; omega
      have hx : c < i + (es.length + 1 - i) := by omega
      simp -dsimp only [egR, AOp.opds, AOp.f, AOp.rd, intBin, storeV, lvl, srcOf, reduceIte, Nat.reduceEqDiff, Nat.reduceAdd, Nat.reduceLeDiff, Nat.reduceBEq, reduceCtorEq, Int.reduceBNe, Int.reduceBEq, Int.reduceLT, Int.reduceLE, Int.reduceNeg, Nat.reduceLT, strBin, Int.reduceToNat, renC, ssliceV, sl3V, sappV, scpyV, appzV, sclrV, truncS, Option.map_none, Int.sub_zero, Nat.sub_zero, Int.toNat_sub, Int.ofNat_zero, List.drop_zero, List.take_length, Nat.add_sub_cancel, hw, hd, hw2, hw3]
      repeat refine And.intro (by first | (show logOK _ _ _ _ = true; kernel_rfl) | (show callOK _ _ = true; kernel_rfl) | omega | assumption) ?_
      refine And.intro (by simp; omega) ?_
      repeat refine And.intro (by first | (show logOK _ _ _ _ = true; kernel_rfl) | (show callOK _ _ = true; kernel_rfl) | omega | assumption) ?_
      refine And.intro ⟨by omega, by simp; omega⟩ ?_
      repeat refine And.intro (by first | (show logOK _ _ _ _ = true; kernel_rfl) | (show callOK _ _ = true; kernel_rfl) | omega | assumption) ?_
      have e := ins2 es v [.lit (.int .i64 0), .lit (.int .i64 0), .str [], .sl 1 [], .sl 5 []] i _ (by omega) rfl
      simp only [splice] at e
      have e0 : i + (es.length + 1 - i) = es.length + 1 := by omega
      rw [e, e0]
      refine ret_of [] [(0, 0), (1, 1), (2, 11)] [] (by rfl) ?_ ?_ ?_ <;> (simp -dsimp only [rwR, wkB, wkC, reduceIte, Nat.reduceEqDiff, reduceCtorEq, Nat.reduceAdd, Nat.reduceLeDiff] <;> first | (simp [List.take_of_length_le]; done) | ((try simp only [List.map_take, List.map_drop, List.map_append, List.map_cons, List.map_nil]) <;> (repeat' apply And.intro) <;> first | rfl | (simp; done) | (simp <;> omega; done) | (congr 1; exact (List.take_of_length_le (by simp <;> omega)).symm)))
theorem F.slices_Insert_impl_Node {n : Nat} : ∀ {a_s1 : List NodeT} {a_i1 : Int} {a_v1 : List NodeT} {r : List NodeT}, G.slices_Insert_impl_Node n a_s1 a_i1 a_v1 = some r →
    ACalls Go.Proofs.Tryz.prog 140 [.one (.own 0 a_s1.length 5), .one (.c (.lit (.int .i64 a_i1))), .one (.own 1 a_v1.length 5)] [.dat 5 (List.map NodeT.cells a_s1), .dat 5 (List.map NodeT.cells a_v1)]
      (fun r1 b1 => r1 = .one (.own 2 r.length 5) ∧ b1 = [.dead, .dat 5 (List.map NodeT.cells a_v1), .dat 5 (List.map NodeT.cells r)]) := by
  intro s i v r h
  cases n with
  | zero => simp only [G.slices_Insert_impl_Node, reduceCtorEq] at h
  | succ n =>
    simp only [G.slices_Insert_impl_Node] at h
    obtain ⟨⟨q1, q2, q3, q4⟩, h⟩ := chk_some.1 h
    cases h
    obtain ⟨x, rfl⟩ := List.length_eq_one_iff.1 q3
    obtain ⟨k, rfl⟩ : ∃ k : Nat, i = k := ⟨i.toNat, by omega⟩
    refine caps_of (fun c hc => ?_)
    have hf := FZ.slices_Insert_impl_Node (es := List.map NodeT.cells s) (v := NodeT.cells x) (c := c) (i := k) (by simpa using hc) (by rw [List.length_map]; omega) (by rw [List.length_map]; exact q4)
    have e1 : (List.take k s ++ [x] ++ List.drop k s).length = s.length + 1 := by simp; omega
    rw [Int.toNat_natCast, e1]
    simpa using hf
theorem FZ.slices_Insert_string {es : List (List Cell)} {v : List Cell} {c i : Nat} (hc : es.length ≤ c) (hi : i ≤ es.length) (hb : (es.length + 1) * 18 ≤ 2 ^ 46) :
    ACalls Go.Proofs.Tryz.prog 139 [.one (.sub 0 0 es.length (some c) 1), .one (.c (.lit (.int .i64 (i : Int)))), .one (.own 1 1 1)] [.dat 1 es, .dat 1 [v]]
      (fun r1 b1 => r1 = .one (.own 2 (es.length + 1) 1) ∧ b1 = [.dead, .dat 1 [v], .dat 1 (es.take i ++ v :: es.drop i)]) := by
  have hw : IntKind.wrap .i64 ((es.length : Int) + ((1 : Nat) : Int)) = ((es.length + 1 : Nat) : Int) := by rw [wrap_id] <;> omega
  have hw2 : IntKind.wrap .i64 ((i : Int) + ((1 : Nat) : Int)) = ((i + 1 : Nat) : Int) := by rw [wrap_id] <;> omega
  have hw3 : IntKind.wrap .i64 (((es.length + 1 : Nat) : Int) - i) = ((es.length + 1 - i : Nat) : Int) := by rw [wrap_id] <;> omega
  refine fun_sound K.slices_Insert_string (ofK ?_)
  unfold C.slices_Insert_string
  have h10 : (((1 : Nat) : Int) == 0) = false := rfl
  by_cases h1 : i = es.length
  · subst h1
    have he : (((es.length : Nat) : Int) == ((es.length : Nat) : Int)) = true := by simp
    simp -dsimp only [egR, AOp.opds, AOp.f, AOp.rd, intBin, storeV, lvl, srcOf, reduceIte, Nat.reduceEqDiff, Nat.reduceAdd, Nat.reduceLeDiff, Nat.reduceBEq, reduceCtorEq, Int.reduceBNe, Int.reduceBEq, Int.reduceLT, Int.reduceLE, Int.reduceNeg, Nat.reduceLT, strBin, Int.reduceToNat, renC, ssliceV, sl3V, sappV, scpyV, appzV, sclrV, truncS, Option.map_none, Int.sub_zero, Nat.sub_zero, Int.toNat_sub, Int.ofNat_zero, List.drop_zero, List.take_length, Nat.add_sub_cancel, h10]
    repeat refine And.intro (by first | (show logOK _ _ _ _ = true; kernel_rfl) | (show callOK _ _ = true; kernel_rfl) | omega | assumption) ?_
    have e : es ++ [v] ++ List.drop (es.length + 1) es = es ++ v :: List.drop es.length es := by simp
    have e2 : es ++ [v] = es ++ v :: List.drop es.length es := by simp
    by_cases hr : es.length + 1 ≤ c
    · simp -dsimp only [egR, AOp.opds, AOp.f, AOp.rd, intBin, storeV, lvl, srcOf, reduceIte, Nat.reduceEqDiff, Nat.reduceAdd, Nat.reduceLeDiff, Nat.reduceBEq, reduceCtorEq, Int.reduceBNe, Int.reduceBEq, Int.reduceLT, Int.reduceLE, Int.reduceNeg, Nat.reduceLT, strBin, Int.reduceToNat, renC, ssliceV, sl3V, sappV, scpyV, appzV, sclrV, truncS, Option.map_none, Int.sub_zero, Nat.sub_zero, Int.toNat_sub, Int.ofNat_zero, List.drop_zero, List.take_length, Nat.add_sub_cancel, hr]
      repeat refine And.intro (by first | (show logOK _ _ _ _ = true; kernel_rfl) | (show callOK _ _ = true; kernel_rfl) | omega | assumption) ?_
      rw [e]
      refine ret_of [] [(0, 0), (1, 1), (2, 0)] [] (by rfl) ?_ ?_ ?_ <;> (simp -dsimp only [rwR, wkB, wkC, reduceIte, Nat.reduceEqDiff, reduceCtorEq, Nat.reduceAdd, Nat.reduceLeDiff] <;> first | (simp [List.take_of_length_le]; done) | ((try simp only [List.map_take, List.map_drop, List.map_append, List.map_cons, List.map_nil]) <;> (repeat' apply And.intro) <;> first | rfl | (simp; done) | (simp <;> omega; done) | (congr 1; exact (List.take_of_length_le (by simp <;> omega)).symm)))
    · simp -dsimp only [egR, AOp.opds, AOp.f, AOp.rd, intBin, storeV, lvl, srcOf, reduceIte, Nat.reduceEqDiff, Nat.reduceAdd, Nat.reduceLeDiff, Nat.reduceBEq, reduceCtorEq, Int.reduceBNe, Int.reduceBEq, Int.reduceLT, Int.reduceLE, Int.reduceNeg, Nat.reduceLT, strBin, Int.reduceToNat, renC, ssliceV, sl3V, sappV, scpyV, appzV, sclrV, truncS, Option.map_none, Int.sub_zero, Nat.sub_zero, Int.toNat_sub, Int.ofNat_zero, List.drop_zero, List.take_length, Nat.add_sub_cancel, hr]
      repeat refine And.intro (by first | (show logOK _ _ _ _ = true; kernel_rfl) | (show callOK _ _ = true; kernel_rfl) | omega | assumption) ?_
      rw [e2]
      refine ret_of [] [(0, 0), (1, 1), (2, 10)] [] (by rfl) ?_ ?_ ?_ <;> (simp -dsimp only [rwR, wkB, wkC, reduceIte, Nat.reduceEqDiff, reduceCtorEq, Nat.reduceAdd, Nat.reduceLeDiff] <;> first | (simp [List.take_of_length_le]; done) | ((try simp only [List.map_take, List.map_drop, List.map_append, List.map_cons, List.map_nil]) <;> (repeat' apply And.intro) <;> first | rfl | (simp; done) | (simp <;> omega; done) | (congr 1; exact (List.take_of_length_le (by simp <;> omega)).symm)))
  · have he : (((i : Nat) : Int) == ((es.length : Nat) : Int)) = false := by simp; omega
    simp -dsimp only [egR, AOp.opds, AOp.f, AOp.rd, intBin, storeV, lvl, srcOf, reduceIte, Nat.reduceEqDiff, Nat.reduceAdd, Nat.reduceLeDiff, Nat.reduceBEq, reduceCtorEq, Int.reduceBNe, Int.reduceBEq, Int.reduceLT, Int.reduceLE, Int.reduceNeg, Nat.reduceLT, strBin, Int.reduceToNat, renC, ssliceV, sl3V, sappV, scpyV, appzV, sclrV, truncS, Option.map_none, Int.sub_zero, Nat.sub_zero, Int.toNat_sub, Int.ofNat_zero, List.drop_zero, List.take_length, Nat.add_sub_cancel, h10]
    repeat refine And.intro (by first | (show logOK _ _ _ _ = true; kernel_rfl) | (show callOK _ _ = true; kernel_rfl) | omega | assumption) ?_
    simp -dsimp only [egR, AOp.opds, AOp.f, AOp.rd, intBin, storeV, lvl, srcOf, reduceIte, Nat.reduceEqDiff, Nat.reduceAdd, Nat.reduceLeDiff, Nat.reduceBEq, reduceCtorEq, Int.reduceBNe, Int.reduceBEq, Int.reduceLT, Int.reduceLE, Int.reduceNeg, Nat.reduceLT, strBin, Int.reduceToNat, renC, ssliceV, sl3V, sappV, scpyV, appzV, sclrV, truncS, Option.map_none, Int.sub_zero, Nat.sub_zero, Int.toNat_sub, Int.ofNat_zero, List.drop_zero, List.take_length, Nat.add_sub_cancel, he]
    by_cases hr : es.length + 1 ≤ c
    · have hd : decide ((c : Int) < ((es.length + 1 : Nat) : Int)) = false := by simp; omega
      simp -dsimp only [egR, AOp.opds, AOp.f, AOp.rd, intBin, storeV, lvl, srcOf, reduceIte, Nat.reduceEqDiff, Nat.reduceAdd, Nat.reduceLeDiff, Nat.reduceBEq, reduceCtorEq, Int.reduceBNe, Int.reduceBEq, Int.reduceLT, Int.reduceLE, Int.reduceNeg, Nat.reduceLT, strBin, Int.reduceToNat, renC, ssliceV, sl3V, sappV, scpyV, appzV, sclrV, truncS, Option.map_none, Int.sub_zero, Nat.sub_zero, Int.toNat_sub, Int.ofNat_zero, List.drop_zero, List.take_length, Nat.add_sub_cancel, hw, hd]
      repeat refine And.intro (by first | (show logOK _ _ _ _ = true; kernel_rfl) | (show callOK _ _ = true; kernel_rfl) | omega | assumption) ?_
      simp -dsimp only [egR, AOp.opds, AOp.f, AOp.rd, intBin, storeV, lvl, srcOf, reduceIte, Nat.reduceEqDiff, Nat.reduceAdd, Nat.reduceLeDiff, Nat.reduceBEq, reduceCtorEq, Int.reduceBNe, Int.reduceBEq, Int.reduceLT, Int.reduceLE, Int.reduceNeg, Nat.reduceLT, strBin, Int.reduceToNat, renC, ssliceV, sl3V, sappV, scpyV, appzV, sclrV, truncS, Option.map_none, Int.sub_zero, Nat.sub_zero, Int.toNat_sub, Int.ofNat_zero, List.drop_zero, List.take_length, Nat.add_sub_cancel, hw2]
      repeat refine And.intro (by first | (show logOK _ _ _ _ = true; kernel_rfl) | (show callOK _ _ = true; kernel_rfl) | omega | assumption) ?_
      refine And.intro (by simp; omega) ?_
      have e := ins1 es v i (by omega)
      simp only [splice] at e
      rw [e]
      refine ret_of [] [(0, 0), (1, 1), (2, 0)] [] (by rfl) ?_ ?_ ?_ <;> (simp -dsimp only [rwR, wkB, wkC, reduceIte, Nat.reduceEqDiff, reduceCtorEq, Nat.reduceAdd, Nat.reduceLeDiff] <;> first | (simp [List.take_of_length_le]; done) | ((try simp only [List.map_take, List.map_drop, List.map_append, List.map_cons, List.map_nil]) <;> (repeat' apply And.intro) <;> first | rfl | (simp; done) | (simp <;> omega; done) | (congr 1; exact (List.take_of_length_le (by simp <;> omega)).symm)))
    · have hd : decide ((c : Int) < ((es.length + 1 : Nat) : Int)) = true := by simp; omega
      have hx : c < i + (es.length + 1 - i) := by omega
      simp -dsimp only [egR, AOp.opds, AOp.f, AOp.rd, intBin, storeV, lvl, srcOf, reduceIte, Nat.reduceEqDiff, Nat.reduceAdd, Nat.reduceLeDiff, Nat.reduceBEq, reduceCtorEq, Int.reduceBNe, Int.reduceBEq, Int.reduceLT, Int.reduceLE, Int.reduceNeg, Nat.reduceLT, strBin, Int.reduceToNat, renC, ssliceV, sl3V, sappV, scpyV, appzV, sclrV, truncS, Option.map_none, Int.sub_zero, Nat.sub_zero, Int.toNat_sub, Int.ofNat_zero, List.drop_zero, List.take_length, Nat.add_sub_cancel, hw, hd, hw2, hw3]
      repeat refine And.intro (by first | (show logOK _ _ _ _ = true; kernel_rfl) | (show callOK _ _ = true; kernel_rfl) | omega | assumption) ?_
      refine And.intro (by simp; omega) ?_
      repeat refine And.intro (by first | (show logOK _ _ _ _ = true; kernel_rfl) | (show callOK _ _ = true; kernel_rfl) | omega | assumption) ?_
      refine And.intro ⟨by omega, by simp; omega⟩ ?_
      repeat refine And.intro (by first | (show logOK _ _ _ _ = true; kernel_rfl) | (show callOK _ _ = true; kernel_rfl) | omega | assumption) ?_
      have e := ins2 es v [.str []] i _ (by omega) rfl
      simp only [splice] at e
      have e0 : i + (es.length + 1 - i) = es.length + 1 := by omega
      rw [e, e0]
      refine ret_of [] [(0, 0), (1, 1), (2, 11)] [] (by rfl) ?_ ?_ ?_ <;> (simp -dsimp only [rwR, wkB, wkC, reduceIte, Nat.reduceEqDiff, reduceCtorEq, Nat.reduceAdd, Nat.reduceLeDiff] <;> first | (simp [List.take_of_length_le]; done) | ((try simp only [List.map_take, List.map_drop, List.map_append, List.map_cons, List.map_nil]) <;> (repeat' apply And.intro) <;> first | rfl | (simp; done) | (simp <;> omega; done) | (congr 1; exact (List.take_of_length_le (by simp <;> omega)).symm)))
theorem F.slices_Insert_string {n : Nat} : ∀ {a_s1 : List Txt} {a_i1 : Int} {a_v1 : List Txt} {r : List Txt}, G.slices_Insert_string n a_s1 a_i1 a_v1 = some r →
    ACalls Go.Proofs.Tryz.prog 139 [.one (.own 0 a_s1.length 1), .one (.c (.lit (.int .i64 a_i1))), .one (.own 1 a_v1.length 1)] [.dat 1 (List.map cS a_s1), .dat 1 (List.map cS a_v1)]
      (fun r1 b1 => r1 = .one (.own 2 r.length 1) ∧ b1 = [.dead, .dat 1 (List.map cS a_v1), .dat 1 (List.map cS r)]) := by
  intro s i v r h
  cases n with
  | zero => simp only [G.slices_Insert_string, reduceCtorEq] at h
  | succ n =>
    simp only [G.slices_Insert_string] at h
    obtain ⟨⟨q1, q2, q3, q4⟩, h⟩ := chk_some.1 h
    cases h
    obtain ⟨x, rfl⟩ := List.length_eq_one_iff.1 q3
    obtain ⟨k, rfl⟩ : ∃ k : Nat, i = k := ⟨i.toNat, by omega⟩
    refine caps_of (fun c hc => ?_)
    have hf := FZ.slices_Insert_string (es := List.map cS s) (v := cS x) (c := c) (i := k) (by simpa using hc) (by rw [List.length_map]; omega) (by rw [List.length_map]; exact q4)
    have e1 : (List.take k s ++ [x] ++ List.drop k s).length = s.length + 1 := by simp; omega
    rw [Int.toNat_natCast, e1]
    simpa using hf
theorem F.impl_putName {n : Nat} : ∀ {p_n1 : NodeT} {a_name1 : Txt} {a_value1 : NodeT} {r : NodeT}, G.impl_putName n p_n1 a_name1 a_value1 = some r → ACalls Go.Proofs.Tryz.prog 95 [.one (.ptr 0 0), .one (.c (.str a_name1)), .agg [.c (.lit (.int .i64 a_value1.Kind)), .c (.lit (.int .i64 a_value1.Num)), .c (.str a_value1.Text), .c (.sl 1 (List.map cS a_value1.Names)), .c (.sl 5 (List.map NodeT.cells a_value1.Kids))]] [.var [.c (.lit (.int .i64 p_n1.Kind)), .c (.lit (.int .i64 p_n1.Num)), .c (.str p_n1.Text), .own 1 p_n1.Names.length 1, .own 2 p_n1.Kids.length 5], .dat 1 (List.map cS p_n1.Names), .dat 5 (List.map NodeT.cells p_n1.Kids)] (fun r1 b1 => r1 = .tup [] ∧ b1 = [.var [.c (.lit (.int .i64 r.Kind)), .c (.lit (.int .i64 r.Num)), .c (.str r.Text), .own 3 r.Names.length 1, .own 4 r.Kids.length 5], .dead, .dead, .dat 1 (List.map cS r.Names), .dat 5 (List.map NodeT.cells r.Kids)]) := by
  intro p_n1 a_name1 a_value1 r h
  refine fun_sound K.impl_putName (ofK ?_)
  unfold C.impl_putName
  rcases n with _ | n <;> simp only [G.impl_putName, reduceCtorEq] at h
  obtain ⟨zc, zg, zk, zu, ze, zj, zt⟩ := pp (pp @F.slices_BinarySearch_string ()) <| pp (pp (pp @F.slices_Insert_string (@cG [1, 11] [101])) <| pp (pp @F.slices_Insert_impl_Node (@cG [2, 12] [102])) ()) <| pp () <| pp () <| pp () <| pp () <| (pp (@retX [] [(0, 0), (1, 1), (2, 2), (3, 1), (4, 2)] []) <| pp (@retX [] [(0, 0), (1, 1), (2, 2), (3, 101), (4, 102)] []) ())
  exact drv
theorem F.impl_addKid {n : Nat} : ∀ {a_n1 : NodeT} {a_step1 : Txt} {a_value1 : NodeT} {r : NodeT × Bool}, G.impl_addKid n a_n1 a_step1 a_value1 = some r → APure Go.Proofs.Tryz.prog 185 [.agg [.c (.lit (.int .i64 a_n1.Kind)), .c (.lit (.int .i64 a_n1.Num)), .c (.str a_n1.Text), .c (.sl 1 (List.map cS a_n1.Names)), .c (.sl 5 (List.map NodeT.cells a_n1.Kids))], .one (.c (.str a_step1)), .agg [.c (.lit (.int .i64 a_value1.Kind)), .c (.lit (.int .i64 a_value1.Num)), .c (.str a_value1.Text), .c (.sl 1 (List.map cS a_value1.Names)), .c (.sl 5 (List.map NodeT.cells a_value1.Kids))]] (.tup [(true, [.c (.lit (.int .i64 r.1.Kind)), .c (.lit (.int .i64 r.1.Num)), .c (.str r.1.Text), .c (.sl 1 (List.map cS r.1.Names)), .c (.sl 5 (List.map NodeT.cells r.1.Kids))]), (false, [.c (.lit (.bool r.2))])]) := by
  intro a_n1 a_step1 a_value1 r h
  refine fun_pure K.impl_addKid (ofK ?_)
  unfold C.impl_addKid
  rcases n with _ | n <;> simp only [G.impl_addKid, reduceCtorEq] at h
  obtain ⟨zc, zg, zk, zu, ze, zj, zt⟩ := pp (pp @F.impl_kidIndex <| pp @F.strconv_Itoa ()) <| pp (pp (pp @F.impl_copyNode_o (@cG [] [101, 102])) <| pp (pp @F.impl_copyNode_o (@cG [] [103, 104])) <| pp (pp @F.impl_putName (@cH [13, 101, 102] [105, 106])) <| pp (pp @F.impl_copyNode_o (@cG [] [112, 113])) <| pp (pp @F.slices_Insert_impl_Node (@cG [111, 14] [114])) ()) <| pp () <| pp (pp (@cutX (NodeT × Int × Bool) _ (fun n x => G.impl_addKid.K1 n a_value1 x.1 x.2.1 x.2.2) r (fun x => ASt.of [(5, .v true (.one (.ptr 107 0))), (6, .v true (.one (.ptr 108 0))), (8, .v true (.one (.ptr 109 0))), (9, .v true (.one (.c (.lit (.int .i64 x.2.1))))), (10, .v true (.one (.c (.lit (.bool x.2.2)))))] [(107, .var [.c (.lit (.int .i64 a_value1.Kind)), .c (.lit (.int .i64 a_value1.Num)), .c (.str a_value1.Text), .c (.sl 1 (List.map cS a_value1.Names)), .c (.sl 5 (List.map NodeT.cells a_value1.Kids))]), (108, .var [.c (.lit (.int .i64 0)), .c (.lit (.int .i64 0)), .c (.str []), .nsl 1, .nsl 5]), (109, .var [.c (.lit (.int .i64 x.1.Kind)), .c (.lit (.int .i64 x.1.Num)), .c (.str x.1.Text), .own 110 x.1.Names.length 1, .own 111 x.1.Kids.length 5]), (110, .dat 1 (List.map cS x.1.Names)), (111, .dat 5 (List.map NodeT.cells x.1.Kids))])) ()) <| pp (pp (And.intro @G.impl_addKid.K1.eq_1 <| @G.impl_addKid.K1.eq_2) ()) <| pp (pp (@weakX [] [(107, 11), (108, 12), (109, 13), (110, 101), (111, 102)] []) ()) <| ()
  exact drv
theorem F.impl_AddNode_1 {n : Nat} : ∀ {a_parent1 : NodeT} {p_cap01 : List Txt} {p_cap11 : Int} {p_cap21 : NodeT} {r : NodeT × Bool}, G.impl_AddNode_1 n a_parent1 p_cap01 p_cap11 p_cap21 = some r → ACalls Go.Proofs.Tryz.prog 184 [.agg [.c (.lit (.int .i64 a_parent1.Kind)), .c (.lit (.int .i64 a_parent1.Num)), .c (.str a_parent1.Text), .c (.sl 1 (List.map cS a_parent1.Names)), .c (.sl 5 (List.map NodeT.cells a_parent1.Kids))], .one (.ptr 0 0), .one (.ptr 1 0), .one (.ptr 2 0)] [.var [.c (.sl 1 (List.map cS p_cap01))], .var [.c (.lit (.int .i64 p_cap11))], .var [.c (.lit (.int .i64 p_cap21.Kind)), .c (.lit (.int .i64 p_cap21.Num)), .c (.str p_cap21.Text), .c (.sl 1 (List.map cS p_cap21.Names)), .c (.sl 5 (List.map NodeT.cells p_cap21.Kids))]] (fun r1 b1 => r1 = .tup [(true, [.c (.lit (.int .i64 r.1.Kind)), .c (.lit (.int .i64 r.1.Num)), .c (.str r.1.Text), .c (.sl 1 (List.map cS r.1.Names)), .c (.sl 5 (List.map NodeT.cells r.1.Kids))]), (false, [.c (.lit (.bool r.2))])] ∧ b1 = [.var [.c (.sl 1 (List.map cS p_cap01))], .var [.c (.lit (.int .i64 p_cap11))], .var [.c (.lit (.int .i64 p_cap21.Kind)), .c (.lit (.int .i64 p_cap21.Num)), .c (.str p_cap21.Text), .c (.sl 1 (List.map cS p_cap21.Names)), .c (.sl 5 (List.map NodeT.cells p_cap21.Kids))]]) := by
  intro a_parent1 p_cap01 p_cap11 p_cap21 r h
  refine fun_sound K.impl_AddNode_1 (ofK ?_)
  unfold C.impl_AddNode_1
  rcases n with _ | n <;> simp only [G.impl_AddNode_1, reduceCtorEq] at h
  obtain ⟨zc, zg, zk, zu, ze, zj, zt⟩ := pp (pp @F.impl_addKid ()) <| pp () <| pp () <| pp () <| pp () <| pp () <| (pp (@retX [] [(0, 0), (1, 1), (2, 2)] []) ())
  exact drv
theorem F.impl_isPlainText {n : Nat} : ∀ {a_s1 : Txt} {r : Bool}, G.impl_isPlainText n a_s1 = some r → APure Go.Proofs.Tryz.prog 106 [.one (.c (.str a_s1))] (.one (.c (.lit (.bool r)))) := by
  intro a_s1 r h
  refine fun_pure K.impl_isPlainText (ofK ?_)
  unfold C.impl_isPlainText
  rcases n with _ | n <;> simp only [G.impl_isPlainText, reduceCtorEq] at h
  obtain ⟨zc, zg, zk, zu, ze, zj, zt⟩ := pp () <| pp () <| pp (pp (@lopX (Int) _ (fun n x => G.impl_isPlainText.L1 n a_s1 x) r (fun x => ASt.of [(0, .v true (.one (.c (.str a_s1)))), (3, .v true (.one (.c (.lit (.int .i64 x)))))] [])) ()) <| pp () <| pp (pp (And.intro @G.impl_isPlainText.L1.eq_1 <| @G.impl_isPlainText.L1.eq_2) ()) <| pp (pp (@weakX [] [] []) ()) <| ()
  exact drv
theorem F.impl_areNames {n : Nat} : ∀ {a_names1 : List Txt} {r : Bool}, G.impl_areNames n a_names1 = some r → APure Go.Proofs.Tryz.prog 176 [.one (.c (.sl 1 (List.map cS a_names1)))] (.one (.c (.lit (.bool r)))) := by
  intro a_names1 r h
  refine fun_pure K.impl_areNames (ofK ?_)
  unfold C.impl_areNames
  rcases n with _ | n <;> simp only [G.impl_areNames, reduceCtorEq] at h
  obtain ⟨zc, zg, zk, zu, ze, zj, zt⟩ := pp (pp @F.impl_isPlainText ()) <| pp () <| pp (pp (@lopX (Int) _ (fun n x => G.impl_areNames.L1 n a_names1 x) r (fun x => ASt.of [(0, .v true (.one (.c (.sl 1 (List.map cS a_names1))))), (8, .v true (.one (.c (.sl 1 (List.map cS a_names1))))), (9, .v true (.one (.c (.lit (.int .i64 ((a_names1.length : Nat) : Int)))))), (10, .v true (.one (.c (.lit (.int .i64 x)))))] [])) ()) <| pp () <| pp (pp (And.intro @G.impl_areNames.L1.eq_1 <| @G.impl_areNames.L1.eq_2) ()) <| pp (pp (@weakX [] [] []) ()) <| ()
  exact drv
theorem F.impl_hasValidParts {n : Nat} : ∀ {a_n1 : NodeT} {r : Bool}, G.impl_hasValidParts n a_n1 = some r → APure Go.Proofs.Tryz.prog 128 [.agg [.c (.lit (.int .i64 a_n1.Kind)), .c (.lit (.int .i64 a_n1.Num)), .c (.str a_n1.Text), .c (.sl 1 (List.map cS a_n1.Names)), .c (.sl 5 (List.map NodeT.cells a_n1.Kids))]] (.one (.c (.lit (.bool r)))) := by
  intro a_n1 r h
  refine fun_pure K.impl_hasValidParts (ofK ?_)
  unfold C.impl_hasValidParts
  rcases n with _ | n <;> simp only [G.impl_hasValidParts, reduceCtorEq] at h
  obtain ⟨zc, zg, zk, zu, ze, zj, zt⟩ := pp (pp @F.impl_isPlainText <| pp @F.impl_areNames ()) <| pp () <| pp () <| pp (pp (@cutX (Unit) _ (fun n x => G.impl_hasValidParts.K1 n a_n1) r (fun x => ASt.of [(1, .v true (.one (.ptr 101 0))), (20, .v true (.one (.c (.lit (.bool false)))))] [(101, .var [.c (.lit (.int .i64 a_n1.Kind)), .c (.lit (.int .i64 a_n1.Num)), .c (.str a_n1.Text), .c (.sl 1 (List.map cS a_n1.Names)), .c (.sl 5 (List.map NodeT.cells a_n1.Kids))])])) ()) <| pp (pp (And.intro @G.impl_hasValidParts.K1.eq_1 <| @G.impl_hasValidParts.K1.eq_2) ()) <| pp (pp (@weakX [] [(101, 10)] []) ()) <| ()
  exact drv
theorem F.impl_measureNode_n : ∀ (n : Nat), ∀ {a_n1 : NodeT} {a_level1 : Int} {r : Int × Int × Bool}, G.impl_measureNode n a_n1 a_level1 = some r → APure Go.Proofs.Tryz.prog 77 [.agg [.c (.lit (.int .i64 a_n1.Kind)), .c (.lit (.int .i64 a_n1.Num)), .c (.str a_n1.Text), .c (.sl 1 (List.map cS a_n1.Names)), .c (.sl 5 (List.map NodeT.cells a_n1.Kids))], .one (.c (.lit (.int .i64 a_level1)))] (.tup [(false, [.c (.lit (.int .i64 r.1))]), (false, [.c (.lit (.int .i64 r.2.1))]), (false, [.c (.lit (.bool r.2.2))])]) := by
  intro n
  induction n using Nat.strongRecOn with | _ n ih =>
  intro a_n1 a_level1 r h
  refine fun_pure K.impl_measureNode (ofK ?_)
  unfold C.impl_measureNode
  rcases n with _ | n <;> simp only [G.impl_measureNode, reduceCtorEq] at h
  obtain ⟨zc, zg, zk, zu, ze, zj, zt⟩ := pp (pp ih <| pp @F.impl_hasValidParts ()) <| pp () <| pp (pp (@lopX (Int × Int × Int) _ (fun n x => G.impl_measureNode.L1 n a_n1 a_level1 x.1 x.2.1 x.2.2) r (fun x => ASt.of [(1, .v true (.one (.c (.lit (.int .i64 a_level1))))), (4, .v true (.one (.c (.lit (.int .i64 x.1))))), (5, .v true (.one (.c (.lit (.int .i64 x.2.1))))), (20, .v true (.one (.c (.sl 5 (List.map NodeT.cells a_n1.Kids))))), (21, .v true (.one (.c (.lit (.int .i64 ((a_n1.Kids.length : Nat) : Int)))))), (22, .v true (.one (.c (.lit (.int .i64 x.2.2)))))] [])) ()) <| pp () <| pp (pp (And.intro @G.impl_measureNode.L1.eq_1 <| @G.impl_measureNode.L1.eq_2) ()) <| pp (pp (@weakX [] [] []) ()) <| ()
  exact drv
theorem F.impl_measureNode {n : Nat} : ∀ {a_n1 : NodeT} {a_level1 : Int} {r : Int × Int × Bool}, G.impl_measureNode n a_n1 a_level1 = some r → APure Go.Proofs.Tryz.prog 77 [.agg [.c (.lit (.int .i64 a_n1.Kind)), .c (.lit (.int .i64 a_n1.Num)), .c (.str a_n1.Text), .c (.sl 1 (List.map cS a_n1.Names)), .c (.sl 5 (List.map NodeT.cells a_n1.Kids))], .one (.c (.lit (.int .i64 a_level1)))] (.tup [(false, [.c (.lit (.int .i64 r.1))]), (false, [.c (.lit (.int .i64 r.2.1))]), (false, [.c (.lit (.bool r.2.2))])]) := F.impl_measureNode_n n
theorem F.impl_ValidNode {n : Nat} : ∀ {a_n1 : NodeT} {r : Bool}, G.impl_ValidNode n a_n1 = some r → APure Go.Proofs.Tryz.prog 38 [.agg [.c (.lit (.int .i64 a_n1.Kind)), .c (.lit (.int .i64 a_n1.Num)), .c (.str a_n1.Text), .c (.sl 1 (List.map cS a_n1.Names)), .c (.sl 5 (List.map NodeT.cells a_n1.Kids))]] (.one (.c (.lit (.bool r)))) := by
  intro a_n1 r h
  refine fun_pure K.impl_ValidNode (ofK ?_)
  unfold C.impl_ValidNode
  rcases n with _ | n <;> simp only [G.impl_ValidNode, reduceCtorEq] at h
  obtain ⟨zc, zg, zk, zu, ze, zj, zt⟩ := pp (pp @F.impl_measureNode ()) <| pp () <| pp () <| pp () <| pp () <| pp () <| ()
  exact drv
theorem F.impl_changeAt__impl_AddNode_1_n : ∀ (n : Nat), ∀ {a_n1 : NodeT} {a_path1 : List Txt} {p_cap01 : List Txt} {p_cap11 : Int} {p_cap21 : NodeT} {r : NodeT × Bool}, G.impl_changeAt__impl_AddNode_1 n a_n1 a_path1 p_cap01 p_cap11 p_cap21 = some r → ACalls Go.Proofs.Tryz.prog 183 [.agg [.c (.lit (.int .i64 a_n1.Kind)), .c (.lit (.int .i64 a_n1.Num)), .c (.str a_n1.Text), .c (.sl 1 (List.map cS a_n1.Names)), .c (.sl 5 (List.map NodeT.cells a_n1.Kids))], .one (.c (.sl 1 (List.map cS a_path1))), .one (.fn 184 [0, 1, 2])] [.var [.c (.sl 1 (List.map cS p_cap01))], .var [.c (.lit (.int .i64 p_cap11))], .var [.c (.lit (.int .i64 p_cap21.Kind)), .c (.lit (.int .i64 p_cap21.Num)), .c (.str p_cap21.Text), .c (.sl 1 (List.map cS p_cap21.Names)), .c (.sl 5 (List.map NodeT.cells p_cap21.Kids))]] (fun r1 b1 => r1 = .tup [(true, [.c (.lit (.int .i64 r.1.Kind)), .c (.lit (.int .i64 r.1.Num)), .c (.str r.1.Text), .c (.sl 1 (List.map cS r.1.Names)), .c (.sl 5 (List.map NodeT.cells r.1.Kids))]), (false, [.c (.lit (.bool r.2))])] ∧ b1 = [.var [.c (.sl 1 (List.map cS p_cap01))], .var [.c (.lit (.int .i64 p_cap11))], .var [.c (.lit (.int .i64 p_cap21.Kind)), .c (.lit (.int .i64 p_cap21.Num)), .c (.str p_cap21.Text), .c (.sl 1 (List.map cS p_cap21.Names)), .c (.sl 5 (List.map NodeT.cells p_cap21.Kids))]]) := by
  intro n
  induction n using Nat.strongRecOn with | _ n ih =>
  intro a_n1 a_path1 p_cap01 p_cap11 p_cap21 r h
  refine fun_sound K.impl_changeAt__impl_AddNode_1 (ofK ?_)
  unfold C.impl_changeAt
  rcases n with _ | n <;> simp only [G.impl_changeAt__impl_AddNode_1, reduceCtorEq] at h
  obtain ⟨zc, zg, zk, zu, ze, zj, zt⟩ := pp (pp @F.impl_kidIndex ()) <| pp (pp (pp ih (@cG [0, 1, 2] [])) <| pp (pp @F.impl_AddNode_1 (@cG [0, 1, 2] [])) <| pp (pp @F.impl_copyNode_o (@cG [] [101, 102])) ()) <| pp () <| pp () <| pp () <| pp () <| (pp (@retX [] [(0, 0), (1, 1), (2, 2)] []) <| pp (@retX [101, 102] [(0, 0), (1, 1), (2, 2)] []) ())
  exact drv
theorem F.impl_changeAt__impl_AddNode_1 {n : Nat} : ∀ {a_n1 : NodeT} {a_path1 : List Txt} {p_cap01 : List Txt} {p_cap11 : Int} {p_cap21 : NodeT} {r : NodeT × Bool}, G.impl_changeAt__impl_AddNode_1 n a_n1 a_path1 p_cap01 p_cap11 p_cap21 = some r → ACalls Go.Proofs.Tryz.prog 183 [.agg [.c (.lit (.int .i64 a_n1.Kind)), .c (.lit (.int .i64 a_n1.Num)), .c (.str a_n1.Text), .c (.sl 1 (List.map cS a_n1.Names)), .c (.sl 5 (List.map NodeT.cells a_n1.Kids))], .one (.c (.sl 1 (List.map cS a_path1))), .one (.fn 184 [0, 1, 2])] [.var [.c (.sl 1 (List.map cS p_cap01))], .var [.c (.lit (.int .i64 p_cap11))], .var [.c (.lit (.int .i64 p_cap21.Kind)), .c (.lit (.int .i64 p_cap21.Num)), .c (.str p_cap21.Text), .c (.sl 1 (List.map cS p_cap21.Names)), .c (.sl 5 (List.map NodeT.cells p_cap21.Kids))]] (fun r1 b1 => r1 = .tup [(true, [.c (.lit (.int .i64 r.1.Kind)), .c (.lit (.int .i64 r.1.Num)), .c (.str r.1.Text), .c (.sl 1 (List.map cS r.1.Names)), .c (.sl 5 (List.map NodeT.cells r.1.Kids))]), (false, [.c (.lit (.bool r.2))])] ∧ b1 = [.var [.c (.sl 1 (List.map cS p_cap01))], .var [.c (.lit (.int .i64 p_cap11))], .var [.c (.lit (.int .i64 p_cap21.Kind)), .c (.lit (.int .i64 p_cap21.Num)), .c (.str p_cap21.Text), .c (.sl 1 (List.map cS p_cap21.Names)), .c (.sl 5 (List.map NodeT.cells p_cap21.Kids))]]) := F.impl_changeAt__impl_AddNode_1_n n
theorem F.impl_checked {n : Nat} : ∀ {a_n1 : NodeT} {a_ok1 : Bool} {r : NodeT × Bool}, G.impl_checked n a_n1 a_ok1 = some r → APure Go.Proofs.Tryz.prog 46 [.agg [.c (.lit (.int .i64 a_n1.Kind)), .c (.lit (.int .i64 a_n1.Num)), .c (.str a_n1.Text), .c (.sl 1 (List.map cS a_n1.Names)), .c (.sl 5 (List.map NodeT.cells a_n1.Kids))], .one (.c (.lit (.bool a_ok1)))] (.tup [(true, [.c (.lit (.int .i64 r.1.Kind)), .c (.lit (.int .i64 r.1.Num)), .c (.str r.1.Text), .c (.sl 1 (List.map cS r.1.Names)), .c (.sl 5 (List.map NodeT.cells r.1.Kids))]), (false, [.c (.lit (.bool r.2))])]) := by
  intro a_n1 a_ok1 r h
  refine fun_pure K.impl_checked (ofK ?_)
  unfold C.impl_checked
  rcases n with _ | n <;> simp only [G.impl_checked, reduceCtorEq] at h
  obtain ⟨zc, zg, zk, zu, ze, zj, zt⟩ := pp (pp @F.impl_ValidNode ()) <| pp () <| pp () <| pp () <| pp () <| pp () <| ()
  exact drv
theorem F.impl_isPath {n : Nat} : ∀ {a_path1 : List Txt} {r : Bool}, G.impl_isPath n a_path1 = some r → APure Go.Proofs.Tryz.prog 59 [.one (.c (.sl 1 (List.map cS a_path1)))] (.one (.c (.lit (.bool r)))) := by
  intro a_path1 r h
  refine fun_pure K.impl_isPath (ofK ?_)
  unfold C.impl_isPath
  rcases n with _ | n <;> simp only [G.impl_isPath, reduceCtorEq] at h
  obtain ⟨zc, zg, zk, zu, ze, zj, zt⟩ := pp (pp @F.impl_isPlainText ()) <| pp () <| pp (pp (@lopX (Int) _ (fun n x => G.impl_isPath.L1 n a_path1 x) r (fun x => ASt.of [(8, .v true (.one (.c (.sl 1 (List.map cS a_path1))))), (9, .v true (.one (.c (.lit (.int .i64 ((a_path1.length : Nat) : Int)))))), (10, .v true (.one (.c (.lit (.int .i64 x)))))] [])) ()) <| pp () <| pp (pp (And.intro @G.impl_isPath.L1.eq_1 <| @G.impl_isPath.L1.eq_2) ()) <| pp (pp (@weakX [] [] []) ()) <| ()
  exact drv
theorem F.impl_AddNode {n : Nat} : ∀ {a_n1 : NodeT} {a_path1 : List Txt} {a_value1 : NodeT} {r : NodeT × Bool}, G.impl_AddNode n a_n1 a_path1 a_value1 = some r → APure Go.Proofs.Tryz.prog 143 [.agg [.c (.lit (.int .i64 a_n1.Kind)), .c (.lit (.int .i64 a_n1.Num)), .c (.str a_n1.Text), .c (.sl 1 (List.map cS a_n1.Names)), .c (.sl 5 (List.map NodeT.cells a_n1.Kids))], .one (.c (.sl 1 (List.map cS a_path1))), .agg [.c (.lit (.int .i64 a_value1.Kind)), .c (.lit (.int .i64 a_value1.Num)), .c (.str a_value1.Text), .c (.sl 1 (List.map cS a_value1.Names)), .c (.sl 5 (List.map NodeT.cells a_value1.Kids))]] (.tup [(true, [.c (.lit (.int .i64 r.1.Kind)), .c (.lit (.int .i64 r.1.Num)), .c (.str r.1.Text), .c (.sl 1 (List.map cS r.1.Names)), .c (.sl 5 (List.map NodeT.cells r.1.Kids))]), (false, [.c (.lit (.bool r.2))])]) := by
  intro a_n1 a_path1 a_value1 r h
  refine fun_pure K.impl_AddNode (ofK ?_)
  unfold C.impl_AddNode
  rcases n with _ | n <;> simp only [G.impl_AddNode, reduceCtorEq] at h
  obtain ⟨zc, zg, zk, zu, ze, zj, zt⟩ := pp (pp @F.impl_ValidNode <| pp @F.impl_isPath <| pp @F.impl_copyNode <| pp @F.impl_checked ()) <| pp (pp (pp @F.impl_changeAt__impl_AddNode_1 (@cG [11, 14, 12] [])) ()) <| pp () <| pp () <| pp () <| pp () <| ()
  exact drv
theorem F.impl_findNode {n : Nat} : ∀ {a_n1 : NodeT} {a_path1 : List Txt} {r : NodeT × Bool}, G.impl_findNode n a_n1 a_path1 = some r → APure Go.Proofs.Tryz.prog 60 [.agg [.c (.lit (.int .i64 a_n1.Kind)), .c (.lit (.int .i64 a_n1.Num)), .c (.str a_n1.Text), .c (.sl 1 (List.map cS a_n1.Names)), .c (.sl 5 (List.map NodeT.cells a_n1.Kids))], .one (.c (.sl 1 (List.map cS a_path1)))] (.tup [(true, [.c (.lit (.int .i64 r.1.Kind)), .c (.lit (.int .i64 r.1.Num)), .c (.str r.1.Text), .c (.sl 1 (List.map cS r.1.Names)), .c (.sl 5 (List.map NodeT.cells r.1.Kids))]), (false, [.c (.lit (.bool r.2))])]) := by
  intro a_n1 a_path1 r h
  refine fun_pure K.impl_findNode (ofK ?_)
  unfold C.impl_findNode
  rcases n with _ | n <;> simp only [G.impl_findNode, reduceCtorEq] at h
  obtain ⟨zc, zg, zk, zu, ze, zj, zt⟩ := pp (pp @F.impl_kidIndex ()) <| pp () <| pp (pp (@lopX (Int × Int × Int × Txt × List Txt × List NodeT) _ (fun n x => G.impl_findNode.L1 n a_path1 x.1 x.2.1 x.2.2.1 x.2.2.2.1 x.2.2.2.2.1 x.2.2.2.2.2) r (fun x => ASt.of [(2, .v true (.one (.ptr 105 0))), (4, .v true (.one (.ptr 106 0))), (10, .v true (.one (.c (.sl 1 (List.map cS a_path1))))), (11, .v true (.one (.c (.lit (.int .i64 ((a_path1.length : Nat) : Int)))))), (12, .v true (.one (.c (.lit (.int .i64 x.1)))))] [(105, .var [.c (.lit (.int .i64 x.2.1)), .c (.lit (.int .i64 x.2.2.1)), .c (.str x.2.2.2.1), .c (.sl 1 (List.map cS x.2.2.2.2.1)), .c (.sl 5 (List.map NodeT.cells x.2.2.2.2.2))]), (106, .var [.c (.lit (.int .i64 0)), .c (.lit (.int .i64 0)), .c (.str []), .nsl 1, .nsl 5])])) ()) <| pp () <| pp (pp (And.intro @G.impl_findNode.L1.eq_1 <| @G.impl_findNode.L1.eq_2) ()) <| pp (pp (@weakX [] [(105, 10), (106, 11)] []) <| pp (@weakX [] [(105, 105), (106, 106)] []) ()) <| ()
  exact drv
theorem F.impl_NodeAt {n : Nat} : ∀ {a_n1 : NodeT} {a_path1 : List Txt} {r : NodeT × Bool}, G.impl_NodeAt n a_n1 a_path1 = some r → APure Go.Proofs.Tryz.prog 30 [.agg [.c (.lit (.int .i64 a_n1.Kind)), .c (.lit (.int .i64 a_n1.Num)), .c (.str a_n1.Text), .c (.sl 1 (List.map cS a_n1.Names)), .c (.sl 5 (List.map NodeT.cells a_n1.Kids))], .one (.c (.sl 1 (List.map cS a_path1)))] (.tup [(true, [.c (.lit (.int .i64 r.1.Kind)), .c (.lit (.int .i64 r.1.Num)), .c (.str r.1.Text), .c (.sl 1 (List.map cS r.1.Names)), .c (.sl 5 (List.map NodeT.cells r.1.Kids))]), (false, [.c (.lit (.bool r.2))])]) := by
  intro a_n1 a_path1 r h
  refine fun_pure K.impl_NodeAt (ofK ?_)
  unfold C.impl_NodeAt
  rcases n with _ | n <;> simp only [G.impl_NodeAt, reduceCtorEq] at h
  obtain ⟨zc, zg, zk, zu, ze, zj, zt⟩ := pp (pp @F.impl_ValidNode <| pp @F.impl_isPath <| pp @F.impl_findNode <| pp @F.impl_copyNode ()) <| pp () <| pp () <| pp () <| pp () <| pp () <| ()
  exact drv
theorem FZ.slices_Delete_impl_Node {es : List (List Cell)} {c i j : Nat} (hc : es.length ≤ c) (hi : i < j) (hj : j ≤ es.length) (hb : es.length * 86 ≤ 2 ^ 46) :
    ACalls Go.Proofs.Tryz.prog 142 [.one (.sub 0 0 es.length (some c) 5), .one (.c (.lit (.int .i64 (i : Int)))), .one (.c (.lit (.int .i64 (j : Int))))] [.dat 5 es]
      (fun r1 b1 => r1 = .one (.own 1 (i + (es.length - j)) 5) ∧ b1 = [.dead, .dat 5 (es.take i ++ es.drop j)]) := by
  refine fun_sound K.slices_Delete_impl_Node (ofK ?_)
  unfold C.slices_Delete_impl_Node
  have he : (((i : Nat) : Int) == ((j : Nat) : Int)) = false := by simp; omega
  have ht : List.take (es.length - j) (List.drop j es) = List.drop j es := List.take_of_length_le (by simp)
  have hr : i + (es.length - j) ≤ c := by omega
  simp -dsimp only [egR, AOp.opds, AOp.f, AOp.rd, intBin, storeV, lvl, srcOf, reduceIte, Nat.reduceEqDiff, Nat.reduceAdd, Nat.reduceLeDiff, Nat.reduceBEq, reduceCtorEq, Int.reduceBNe, Int.reduceBEq, Int.reduceLT, Int.reduceLE, Int.reduceNeg, Nat.reduceLT, strBin, Int.reduceToNat, renC, ssliceV, sl3V, sappV, scpyV, appzV, sclrV, truncS, Option.map_none, Int.sub_zero, Nat.sub_zero, Int.toNat_sub, Int.ofNat_zero, List.drop_zero, List.take_length, Nat.add_sub_cancel, he]
  repeat refine And.intro (by first | (show logOK _ _ _ _ = true; kernel_rfl) | (show callOK _ _ = true; kernel_rfl) | omega | assumption) ?_
  simp -dsimp only [egR, AOp.opds, AOp.f, AOp.rd, intBin, storeV, lvl, srcOf, reduceIte, Nat.reduceEqDiff, Nat.reduceAdd, Nat.reduceLeDiff, Nat.reduceBEq, reduceCtorEq, Int.reduceBNe, Int.reduceBEq, Int.reduceLT, Int.reduceLE, Int.reduceNeg, Nat.reduceLT, strBin, Int.reduceToNat, renC, ssliceV, sl3V, sappV, scpyV, appzV, sclrV, truncS, Option.map_none, Int.sub_zero, Nat.sub_zero, Int.toNat_sub, Int.ofNat_zero, List.drop_zero, List.take_length, Nat.add_sub_cancel, ht, List.length_drop, hr]
  repeat refine And.intro (by first | (show logOK _ _ _ _ = true; kernel_rfl) | (show callOK _ _ = true; kernel_rfl) | omega | assumption) ?_
  refine And.intro (by simp; omega) ?_
  have e4 : (List.take i es).length = i := by simp; omega
  have e : List.take (i + (es.length - j)) (List.take i es ++ List.drop j es ++ List.drop (i + (es.length - j)) es) = List.take i es ++ List.drop j es := by
    have e5 : (List.take i es ++ List.drop j es).length = i + (es.length - j) := by rw [List.length_append, e4, List.length_drop]
    rw [List.take_append_of_le_length (by omega), List.take_of_length_le (by omega)]
  rw [e, List.append_assoc]
  generalize List.replicate (es.length - (i + (es.length - j))) [.lit (.int .i64 0), .lit (.int .i64 0), .str [], .sl 1 [], .sl 5 []] ++ List.drop (i + (es.length - j) + (es.length - (i + (es.length - j)))) (List.take i es ++ List.drop j es ++ List.drop (i + (es.length - j)) es) = T
  generalize List.take i es ++ List.drop j es = A
  refine ret_of [] [(0, 0), (1, 0)] [] (by rfl) ?_ ?_ ?_ <;> (simp -dsimp only [rwR, wkB, wkC, reduceIte, Nat.reduceEqDiff, reduceCtorEq, Nat.reduceAdd, Nat.reduceLeDiff] <;> first | (simp [List.take_of_length_le]; done) | ((try simp only [List.map_take, List.map_drop, List.map_append, List.map_cons, List.map_nil]) <;> (repeat' apply And.intro) <;> first | rfl | (simp; done) | (simp <;> omega; done) | (congr 1; exact (List.take_of_length_le (by simp <;> omega)).symm)))
theorem F.slices_Delete_impl_Node {n : Nat} : ∀ {a_s1 : List NodeT} {a_i1 : Int} {a_j1 : Int} {r : List NodeT}, G.slices_Delete_impl_Node n a_s1 a_i1 a_j1 = some r →
    ACalls Go.Proofs.Tryz.prog 142 [.one (.own 0 a_s1.length 5), .one (.c (.lit (.int .i64 a_i1))), .one (.c (.lit (.int .i64 a_j1)))] [.dat 5 (List.map NodeT.cells a_s1)]
      (fun r1 b1 => r1 = .one (.own 1 r.length 5) ∧ b1 = [.dead, .dat 5 (List.map NodeT.cells r)]) := by
  intro s i j r h
  cases n with
  | zero => simp only [G.slices_Delete_impl_Node, reduceCtorEq] at h
  | succ n =>
    simp only [G.slices_Delete_impl_Node] at h
    obtain ⟨⟨q1, q2, q3, q4⟩, h⟩ := chk_some.1 h
    cases h
    obtain ⟨k, rfl⟩ : ∃ k : Nat, i = k := ⟨i.toNat, by omega⟩
    obtain ⟨l, rfl⟩ : ∃ l : Nat, j = l := ⟨j.toNat, by omega⟩
    refine caps_of (fun c hc => ?_)
    have hf := FZ.slices_Delete_impl_Node (es := List.map NodeT.cells s) (c := c) (i := k) (j := l) (by simpa using hc) (by omega) (by rw [List.length_map]; omega) (by rw [List.length_map]; exact q4)
    have e1 : (List.take k s ++ List.drop l s).length = k + (s.length - l) := by simp; omega
    rw [Int.toNat_natCast, Int.toNat_natCast, e1]
    simpa using hf
theorem FZ.slices_Delete_string {es : List (List Cell)} {c i j : Nat} (hc : es.length ≤ c) (hi : i < j) (hj : j ≤ es.length) (hb : es.length * 18 ≤ 2 ^ 46) :
    ACalls Go.Proofs.Tryz.prog 141 [.one (.sub 0 0 es.length (some c) 1), .one (.c (.lit (.int .i64 (i : Int)))), .one (.c (.lit (.int .i64 (j : Int))))] [.dat 1 es]
      (fun r1 b1 => r1 = .one (.own 1 (i + (es.length - j)) 1) ∧ b1 = [.dead, .dat 1 (es.take i ++ es.drop j)]) := by
  refine fun_sound K.slices_Delete_string (ofK ?_)
  unfold C.slices_Delete_string
  have he : (((i : Nat) : Int) == ((j : Nat) : Int)) = false := by simp; omega
  have ht : List.take (es.length - j) (List.drop j es) = List.drop j es := List.take_of_length_le (by simp)
  have hr : i + (es.length - j) ≤ c := by omega
  simp -dsimp only [egR, AOp.opds, AOp.f, AOp.rd, intBin, storeV, lvl, srcOf, reduceIte, Nat.reduceEqDiff, Nat.reduceAdd, Nat.reduceLeDiff, Nat.reduceBEq, reduceCtorEq, Int.reduceBNe, Int.reduceBEq, Int.reduceLT, Int.reduceLE, Int.reduceNeg, Nat.reduceLT, strBin, Int.reduceToNat, renC, ssliceV, sl3V, sappV, scpyV, appzV, sclrV, truncS, Option.map_none, Int.sub_zero, Nat.sub_zero, Int.toNat_sub, Int.ofNat_zero, List.drop_zero, List.take_length, Nat.add_sub_cancel, he]
  repeat refine And.intro (by first | (show logOK _ _ _ _ = true; kernel_rfl) | (show callOK _ _ = true; kernel_rfl) | omega | assumption) ?_
  simp -dsimp only [egR, AOp.opds, AOp.f, AOp.rd, intBin, storeV, lvl, srcOf, reduceIte, Nat.reduceEqDiff, Nat.reduceAdd, Nat.reduceLeDiff, Nat.reduceBEq, reduceCtorEq, Int.reduceBNe, Int.reduceBEq, Int.reduceLT, Int.reduceLE, Int.reduceNeg, Nat.reduceLT, strBin, Int.reduceToNat, renC, ssliceV, sl3V, sappV, scpyV, appzV, sclrV, truncS, Option.map_none, Int.sub_zero, Nat.sub_zero, Int.toNat_sub, Int.ofNat_zero, List.drop_zero, List.take_length, Nat.add_sub_cancel, ht, List.length_drop, hr]
  repeat refine And.intro (by first | (show logOK _ _ _ _ = true; kernel_rfl) | (show callOK _ _ = true; kernel_rfl) | omega | assumption) ?_
  refine And.intro (by simp; omega) ?_
  have e4 : (List.take i es).length = i := by simp; omega
  have e : List.take (i + (es.length - j)) (List.take i es ++ List.drop j es ++ List.drop (i + (es.length - j)) es) = List.take i es ++ List.drop j es := by
    have e5 : (List.take i es ++ List.drop j es).length = i + (es.length - j) := by rw [List.length_append, e4, List.length_drop]
    rw [List.take_append_of_le_length (by omega), List.take_of_length_le (by omega)]
  rw [e, List.append_assoc]
  generalize List.replicate (es.length - (i + (es.length - j))) [.str []] ++ List.drop (i + (es.length - j) + (es.length - (i + (es.length - j)))) (List.take i es ++ List.drop j es ++ List.drop (i + (es.length - j)) es) = T
  generalize List.take i es ++ List.drop j es = A
  refine ret_of [] [(0, 0), (1, 0)] [] (by rfl) ?_ ?_ ?_ <;> (simp -dsimp only [rwR, wkB, wkC, reduceIte, Nat.reduceEqDiff, reduceCtorEq, Nat.reduceAdd, Nat.reduceLeDiff] <;> first | (simp [List.take_of_length_le]; done) | ((try simp only [List.map_take, List.map_drop, List.map_append, List.map_cons, List.map_nil]) <;> (repeat' apply And.intro) <;> first | rfl | (simp; done) | (simp <;> omega; done) | (congr 1; exact (List.take_of_length_le (by simp <;> omega)).symm)))
theorem F.slices_Delete_string {n : Nat} : ∀ {a_s1 : List Txt} {a_i1 : Int} {a_j1 : Int} {r : List Txt}, G.slices_Delete_string n a_s1 a_i1 a_j1 = some r →
    ACalls Go.Proofs.Tryz.prog 141 [.one (.own 0 a_s1.length 1), .one (.c (.lit (.int .i64 a_i1))), .one (.c (.lit (.int .i64 a_j1)))] [.dat 1 (List.map cS a_s1)]
      (fun r1 b1 => r1 = .one (.own 1 r.length 1) ∧ b1 = [.dead, .dat 1 (List.map cS r)]) := by
  intro s i j r h
  cases n with
  | zero => simp only [G.slices_Delete_string, reduceCtorEq] at h
  | succ n =>
    simp only [G.slices_Delete_string] at h
    obtain ⟨⟨q1, q2, q3, q4⟩, h⟩ := chk_some.1 h
    cases h
    obtain ⟨k, rfl⟩ : ∃ k : Nat, i = k := ⟨i.toNat, by omega⟩
    obtain ⟨l, rfl⟩ : ∃ l : Nat, j = l := ⟨j.toNat, by omega⟩
    refine caps_of (fun c hc => ?_)
    have hf := FZ.slices_Delete_string (es := List.map cS s) (c := c) (i := k) (j := l) (by simpa using hc) (by omega) (by rw [List.length_map]; omega) (by rw [List.length_map]; exact q4)
    have e1 : (List.take k s ++ List.drop l s).length = k + (s.length - l) := by simp; omega
    rw [Int.toNat_natCast, Int.toNat_natCast, e1]
    simpa using hf
theorem F.impl_RemoveNode_1 {n : Nat} : ∀ {a_parent1 : NodeT} {p_cap01 : List Txt} {p_cap11 : Int} {r : NodeT × Bool}, G.impl_RemoveNode_1 n a_parent1 p_cap01 p_cap11 = some r → ACalls Go.Proofs.Tryz.prog 186 [.agg [.c (.lit (.int .i64 a_parent1.Kind)), .c (.lit (.int .i64 a_parent1.Num)), .c (.str a_parent1.Text), .c (.sl 1 (List.map cS a_parent1.Names)), .c (.sl 5 (List.map NodeT.cells a_parent1.Kids))], .one (.ptr 0 0), .one (.ptr 1 0)] [.var [.c (.sl 1 (List.map cS p_cap01))], .var [.c (.lit (.int .i64 p_cap11))]] (fun r1 b1 => r1 = .tup [(true, [.c (.lit (.int .i64 r.1.Kind)), .c (.lit (.int .i64 r.1.Num)), .c (.str r.1.Text), .c (.sl 1 (List.map cS r.1.Names)), .c (.sl 5 (List.map NodeT.cells r.1.Kids))]), (false, [.c (.lit (.bool r.2))])] ∧ b1 = [.var [.c (.sl 1 (List.map cS p_cap01))], .var [.c (.lit (.int .i64 p_cap11))]]) := by
  intro a_parent1 p_cap01 p_cap11 r h
  refine fun_sound K.impl_RemoveNode_1 (ofK ?_)
  unfold C.impl_RemoveNode_1
  rcases n with _ | n <;> simp only [G.impl_RemoveNode_1, reduceCtorEq] at h
  obtain ⟨zc, zg, zk, zu, ze, zj, zt⟩ := pp (pp @F.impl_kidIndex ()) <| pp (pp (pp @F.impl_copyNode_o (@cG [] [101, 102])) <| pp (pp @F.slices_Delete_string (@cG [101] [109])) <| pp (pp @F.slices_Delete_impl_Node (@cG [107] [108])) ()) <| pp () <| pp (pp (@cutX ((Int × Bool) × NodeT × List Txt) _ (fun n x => G.impl_RemoveNode_1.K1 n x.1 x.2.1 x.2.2) r (fun x => ASt.of [(4, .v true (.one (.ptr 104 0))), (6, .v true (.one (.c (.lit (.int .i64 x.1.1))))), (8, .v true (.one (.ptr 105 0)))] [(0, .var [.c (.sl 1 (List.map cS p_cap01))]), (1, .var [.c (.lit (.int .i64 p_cap11))]), (104, .var [.c (.lit (.int .i64 0)), .c (.lit (.int .i64 0)), .c (.str []), .nsl 1, .nsl 5]), (105, .var [.c (.lit (.int .i64 x.2.1.Kind)), .c (.lit (.int .i64 x.2.1.Num)), .c (.str x.2.1.Text), .own 106 x.2.2.length 1, .own 107 x.2.1.Kids.length 5]), (106, .dat 1 (List.map cS x.2.2)), (107, .dat 5 (List.map NodeT.cells x.2.1.Kids))])) ()) <| pp (pp (And.intro @G.impl_RemoveNode_1.K1.eq_1 <| @G.impl_RemoveNode_1.K1.eq_2) ()) <| pp (pp (@weakX [] [(0, 0), (1, 1), (104, 11), (105, 12), (106, 109), (107, 102)] []) <| pp (@weakX [] [(0, 0), (1, 1), (104, 11), (105, 12), (106, 101), (107, 102)] []) ()) <| (pp (@retX [106, 108] [(0, 0), (1, 1)] []) <| pp (@retX [] [(0, 0), (1, 1)] []) ())
  exact drv
theorem F.impl_changeAt__impl_RemoveNode_1_n : ∀ (n : Nat), ∀ {a_n1 : NodeT} {a_path1 : List Txt} {p_cap01 : List Txt} {p_cap11 : Int} {r : NodeT × Bool}, G.impl_changeAt__impl_RemoveNode_1 n a_n1 a_path1 p_cap01 p_cap11 = some r → ACalls Go.Proofs.Tryz.prog 183 [.agg [.c (.lit (.int .i64 a_n1.Kind)), .c (.lit (.int .i64 a_n1.Num)), .c (.str a_n1.Text), .c (.sl 1 (List.map cS a_n1.Names)), .c (.sl 5 (List.map NodeT.cells a_n1.Kids))], .one (.c (.sl 1 (List.map cS a_path1))), .one (.fn 186 [0, 1])] [.var [.c (.sl 1 (List.map cS p_cap01))], .var [.c (.lit (.int .i64 p_cap11))]] (fun r1 b1 => r1 = .tup [(true, [.c (.lit (.int .i64 r.1.Kind)), .c (.lit (.int .i64 r.1.Num)), .c (.str r.1.Text), .c (.sl 1 (List.map cS r.1.Names)), .c (.sl 5 (List.map NodeT.cells r.1.Kids))]), (false, [.c (.lit (.bool r.2))])] ∧ b1 = [.var [.c (.sl 1 (List.map cS p_cap01))], .var [.c (.lit (.int .i64 p_cap11))]]) := by
  intro n
  induction n using Nat.strongRecOn with | _ n ih =>
  intro a_n1 a_path1 p_cap01 p_cap11 r h
  refine fun_sound K.impl_changeAt__impl_RemoveNode_1 (ofK ?_)
  unfold C.impl_changeAt
  rcases n with _ | n <;> simp only [G.impl_changeAt__impl_RemoveNode_1, reduceCtorEq] at h
  obtain ⟨zc, zg, zk, zu, ze, zj, zt⟩ := pp (pp @F.impl_kidIndex ()) <| pp (pp (pp ih (@cG [0, 1] [])) <| pp (pp @F.impl_RemoveNode_1 (@cG [0, 1] [])) <| pp (pp @F.impl_copyNode_o (@cG [] [101, 102])) ()) <| pp () <| pp () <| pp () <| pp () <| (pp (@retX [] [(0, 0), (1, 1)] []) <| pp (@retX [101, 102] [(0, 0), (1, 1)] []) ())
  exact drv
theorem F.impl_changeAt__impl_RemoveNode_1 {n : Nat} : ∀ {a_n1 : NodeT} {a_path1 : List Txt} {p_cap01 : List Txt} {p_cap11 : Int} {r : NodeT × Bool}, G.impl_changeAt__impl_RemoveNode_1 n a_n1 a_path1 p_cap01 p_cap11 = some r → ACalls Go.Proofs.Tryz.prog 183 [.agg [.c (.lit (.int .i64 a_n1.Kind)), .c (.lit (.int .i64 a_n1.Num)), .c (.str a_n1.Text), .c (.sl 1 (List.map cS a_n1.Names)), .c (.sl 5 (List.map NodeT.cells a_n1.Kids))], .one (.c (.sl 1 (List.map cS a_path1))), .one (.fn 186 [0, 1])] [.var [.c (.sl 1 (List.map cS p_cap01))], .var [.c (.lit (.int .i64 p_cap11))]] (fun r1 b1 => r1 = .tup [(true, [.c (.lit (.int .i64 r.1.Kind)), .c (.lit (.int .i64 r.1.Num)), .c (.str r.1.Text), .c (.sl 1 (List.map cS r.1.Names)), .c (.sl 5 (List.map NodeT.cells r.1.Kids))]), (false, [.c (.lit (.bool r.2))])] ∧ b1 = [.var [.c (.sl 1 (List.map cS p_cap01))], .var [.c (.lit (.int .i64 p_cap11))]]) := F.impl_changeAt__impl_RemoveNode_1_n n
theorem F.impl_RemoveNode {n : Nat} : ∀ {a_n1 : NodeT} {a_path1 : List Txt} {r : NodeT × Bool}, G.impl_RemoveNode n a_n1 a_path1 = some r → APure Go.Proofs.Tryz.prog 144 [.agg [.c (.lit (.int .i64 a_n1.Kind)), .c (.lit (.int .i64 a_n1.Num)), .c (.str a_n1.Text), .c (.sl 1 (List.map cS a_n1.Names)), .c (.sl 5 (List.map NodeT.cells a_n1.Kids))], .one (.c (.sl 1 (List.map cS a_path1)))] (.tup [(true, [.c (.lit (.int .i64 r.1.Kind)), .c (.lit (.int .i64 r.1.Num)), .c (.str r.1.Text), .c (.sl 1 (List.map cS r.1.Names)), .c (.sl 5 (List.map NodeT.cells r.1.Kids))]), (false, [.c (.lit (.bool r.2))])]) := by
  intro a_n1 a_path1 r h
  refine fun_pure K.impl_RemoveNode (ofK ?_)
  unfold C.impl_RemoveNode
  rcases n with _ | n <;> simp only [G.impl_RemoveNode, reduceCtorEq] at h
  obtain ⟨zc, zg, zk, zu, ze, zj, zt⟩ := pp (pp @F.impl_ValidNode <| pp @F.impl_isPath ()) <| pp (pp (pp @F.impl_changeAt__impl_RemoveNode_1 (@cG [11, 13] [])) ()) <| pp () <| pp () <| pp () <| pp () <| ()
  exact drv
theorem F.impl_SetNode_1 {n : Nat} : ∀ {a_a1 : NodeT} {p_cap01 : NodeT} {r : NodeT × Bool}, G.impl_SetNode_1 n a_a1 p_cap01 = some r → ACalls Go.Proofs.Tryz.prog 187 [.agg [.c (.lit (.int .i64 a_a1.Kind)), .c (.lit (.int .i64 a_a1.Num)), .c (.str a_a1.Text), .c (.sl 1 (List.map cS a_a1.Names)), .c (.sl 5 (List.map NodeT.cells a_a1.Kids))], .one (.ptr 0 0)] [.var [.c (.lit (.int .i64 p_cap01.Kind)), .c (.lit (.int .i64 p_cap01.Num)), .c (.str p_cap01.Text), .c (.sl 1 (List.map cS p_cap01.Names)), .c (.sl 5 (List.map NodeT.cells p_cap01.Kids))]] (fun r1 b1 => r1 = .tup [(true, [.c (.lit (.int .i64 r.1.Kind)), .c (.lit (.int .i64 r.1.Num)), .c (.str r.1.Text), .c (.sl 1 (List.map cS r.1.Names)), .c (.sl 5 (List.map NodeT.cells r.1.Kids))]), (false, [.c (.lit (.bool r.2))])] ∧ b1 = [.var [.c (.lit (.int .i64 p_cap01.Kind)), .c (.lit (.int .i64 p_cap01.Num)), .c (.str p_cap01.Text), .c (.sl 1 (List.map cS p_cap01.Names)), .c (.sl 5 (List.map NodeT.cells p_cap01.Kids))]]) := by
  intro a_a1 p_cap01 r h
  refine fun_sound K.impl_SetNode_1 (ofK ?_)
  unfold C.impl_SetNode_1
  rcases n with _ | n <;> simp only [G.impl_SetNode_1, reduceCtorEq] at h
  obtain ⟨zc, zg, zk, zu, ze, zj, zt⟩ := pp (pp @F.impl_copyNode ()) <| pp () <| pp () <| pp () <| pp () <| pp () <| (pp (@retX [] [(0, 0)] []) ())
  exact drv
theorem F.impl_changeAt__impl_SetNode_1_n : ∀ (n : Nat), ∀ {a_n1 : NodeT} {a_path1 : List Txt} {p_cap01 : NodeT} {r : NodeT × Bool}, G.impl_changeAt__impl_SetNode_1 n a_n1 a_path1 p_cap01 = some r → ACalls Go.Proofs.Tryz.prog 183 [.agg [.c (.lit (.int .i64 a_n1.Kind)), .c (.lit (.int .i64 a_n1.Num)), .c (.str a_n1.Text), .c (.sl 1 (List.map cS a_n1.Names)), .c (.sl 5 (List.map NodeT.cells a_n1.Kids))], .one (.c (.sl 1 (List.map cS a_path1))), .one (.fn 187 [0])] [.var [.c (.lit (.int .i64 p_cap01.Kind)), .c (.lit (.int .i64 p_cap01.Num)), .c (.str p_cap01.Text), .c (.sl 1 (List.map cS p_cap01.Names)), .c (.sl 5 (List.map NodeT.cells p_cap01.Kids))]] (fun r1 b1 => r1 = .tup [(true, [.c (.lit (.int .i64 r.1.Kind)), .c (.lit (.int .i64 r.1.Num)), .c (.str r.1.Text), .c (.sl 1 (List.map cS r.1.Names)), .c (.sl 5 (List.map NodeT.cells r.1.Kids))]), (false, [.c (.lit (.bool r.2))])] ∧ b1 = [.var [.c (.lit (.int .i64 p_cap01.Kind)), .c (.lit (.int .i64 p_cap01.Num)), .c (.str p_cap01.Text), .c (.sl 1 (List.map cS p_cap01.Names)), .c (.sl 5 (List.map NodeT.cells p_cap01.Kids))]]) := by
  intro n
  induction n using Nat.strongRecOn with | _ n ih =>
  intro a_n1 a_path1 p_cap01 r h
  refine fun_sound K.impl_changeAt__impl_SetNode_1 (ofK ?_)
  unfold C.impl_changeAt
  rcases n with _ | n <;> simp only [G.impl_changeAt__impl_SetNode_1, reduceCtorEq] at h
  obtain ⟨zc, zg, zk, zu, ze, zj, zt⟩ := pp (pp @F.impl_kidIndex ()) <| pp (pp (pp ih (@cG [0] [])) <| pp (pp @F.impl_SetNode_1 (@cG [0] [])) <| pp (pp @F.impl_copyNode_o (@cG [] [101, 102])) ()) <| pp () <| pp () <| pp () <| pp () <| (pp (@retX [] [(0, 0)] []) <| pp (@retX [101, 102] [(0, 0)] []) ())
  exact drv
theorem F.impl_changeAt__impl_SetNode_1 {n : Nat} : ∀ {a_n1 : NodeT} {a_path1 : List Txt} {p_cap01 : NodeT} {r : NodeT × Bool}, G.impl_changeAt__impl_SetNode_1 n a_n1 a_path1 p_cap01 = some r → ACalls Go.Proofs.Tryz.prog 183 [.agg [.c (.lit (.int .i64 a_n1.Kind)), .c (.lit (.int .i64 a_n1.Num)), .c (.str a_n1.Text), .c (.sl 1 (List.map cS a_n1.Names)), .c (.sl 5 (List.map NodeT.cells a_n1.Kids))], .one (.c (.sl 1 (List.map cS a_path1))), .one (.fn 187 [0])] [.var [.c (.lit (.int .i64 p_cap01.Kind)), .c (.lit (.int .i64 p_cap01.Num)), .c (.str p_cap01.Text), .c (.sl 1 (List.map cS p_cap01.Names)), .c (.sl 5 (List.map NodeT.cells p_cap01.Kids))]] (fun r1 b1 => r1 = .tup [(true, [.c (.lit (.int .i64 r.1.Kind)), .c (.lit (.int .i64 r.1.Num)), .c (.str r.1.Text), .c (.sl 1 (List.map cS r.1.Names)), .c (.sl 5 (List.map NodeT.cells r.1.Kids))]), (false, [.c (.lit (.bool r.2))])] ∧ b1 = [.var [.c (.lit (.int .i64 p_cap01.Kind)), .c (.lit (.int .i64 p_cap01.Num)), .c (.str p_cap01.Text), .c (.sl 1 (List.map cS p_cap01.Names)), .c (.sl 5 (List.map NodeT.cells p_cap01.Kids))]]) := F.impl_changeAt__impl_SetNode_1_n n
theorem F.impl_SetNode {n : Nat} : ∀ {a_n1 : NodeT} {a_path1 : List Txt} {a_value1 : NodeT} {r : NodeT × Bool}, G.impl_SetNode n a_n1 a_path1 a_value1 = some r → APure Go.Proofs.Tryz.prog 145 [.agg [.c (.lit (.int .i64 a_n1.Kind)), .c (.lit (.int .i64 a_n1.Num)), .c (.str a_n1.Text), .c (.sl 1 (List.map cS a_n1.Names)), .c (.sl 5 (List.map NodeT.cells a_n1.Kids))], .one (.c (.sl 1 (List.map cS a_path1))), .agg [.c (.lit (.int .i64 a_value1.Kind)), .c (.lit (.int .i64 a_value1.Num)), .c (.str a_value1.Text), .c (.sl 1 (List.map cS a_value1.Names)), .c (.sl 5 (List.map NodeT.cells a_value1.Kids))]] (.tup [(true, [.c (.lit (.int .i64 r.1.Kind)), .c (.lit (.int .i64 r.1.Num)), .c (.str r.1.Text), .c (.sl 1 (List.map cS r.1.Names)), .c (.sl 5 (List.map NodeT.cells r.1.Kids))]), (false, [.c (.lit (.bool r.2))])]) := by
  intro a_n1 a_path1 a_value1 r h
  refine fun_pure K.impl_SetNode (ofK ?_)
  unfold C.impl_SetNode
  rcases n with _ | n <;> simp only [G.impl_SetNode, reduceCtorEq] at h
  obtain ⟨zc, zg, zk, zu, ze, zj, zt⟩ := pp (pp @F.impl_ValidNode <| pp @F.impl_isPath <| pp @F.impl_checked ()) <| pp (pp (pp @F.impl_changeAt__impl_SetNode_1 (@cG [11] [])) ()) <| pp () <| pp () <| pp () <| pp () <| ()
  exact drv
theorem F.impl_isOp {n : Nat} : ∀ {a_o1 : OpT} {r : Bool}, G.impl_isOp n a_o1 = some r → APure Go.Proofs.Tryz.prog 97 [.agg [.c (.lit (.int .i64 a_o1.Kind)), .c (.sl 1 (List.map cS a_o1.Path)), .c (.sl 1 (List.map cS a_o1.From)), .c (.lit (.int .i64 a_o1.Value.Kind)), .c (.lit (.int .i64 a_o1.Value.Num)), .c (.str a_o1.Value.Text), .c (.sl 1 (List.map cS a_o1.Value.Names)), .c (.sl 5 (List.map NodeT.cells a_o1.Value.Kids))]] (.one (.c (.lit (.bool r)))) := by
  intro a_o1 r h
  refine fun_pure K.impl_isOp (ofK ?_)
  unfold C.impl_isOp
  rcases n with _ | n <;> simp only [G.impl_isOp, reduceCtorEq] at h
  obtain ⟨zc, zg, zk, zu, ze, zj, zt⟩ := pp (pp @F.impl_isPath <| pp @F.impl_ValidNode ()) <| pp () <| pp () <| pp () <| pp () <| pp () <| ()
  exact drv
theorem F.slices_Equal_string {n : Nat} : ∀ {a_s11 : List Txt} {a_s21 : List Txt} {r : Bool}, G.slices_Equal_string n a_s11 a_s21 = some r → APure Go.Proofs.Tryz.prog 188 [.one (.c (.sl 1 (List.map cS a_s11))), .one (.c (.sl 1 (List.map cS a_s21)))] (.one (.c (.lit (.bool r)))) := by
  intro a_s11 a_s21 r h
  refine fun_pure K.slices_Equal_string (ofK ?_)
  unfold C.slices_Equal_string
  rcases n with _ | n <;> simp only [G.slices_Equal_string, reduceCtorEq] at h
  obtain ⟨zc, zg, zk, zu, ze, zj, zt⟩ := pp () <| pp () <| pp (pp (@lopX (Int) _ (fun n x => G.slices_Equal_string.L1 n a_s11 a_s21 x) r (fun x => ASt.of [(0, .v true (.one (.c (.sl 1 (List.map cS a_s11))))), (1, .v true (.one (.c (.sl 1 (List.map cS a_s21))))), (12, .v true (.one (.c (.lit (.int .i64 ((a_s11.length : Nat) : Int)))))), (13, .v true (.one (.c (.lit (.int .i64 x)))))] [])) ()) <| pp () <| pp (pp (And.intro @G.slices_Equal_string.L1.eq_1 <| @G.slices_Equal_string.L1.eq_2) ()) <| pp (pp (@weakX [] [] []) ()) <| ()
  exact drv
theorem F.impl_moveNode {n : Nat} : ∀ {a_n1 : NodeT} {a_from1 : List Txt} {a_path1 : List Txt} {r : NodeT × Bool}, G.impl_moveNode n a_n1 a_from1 a_path1 = some r → APure Go.Proofs.Tryz.prog 146 [.agg [.c (.lit (.int .i64 a_n1.Kind)), .c (.lit (.int .i64 a_n1.Num)), .c (.str a_n1.Text), .c (.sl 1 (List.map cS a_n1.Names)), .c (.sl 5 (List.map NodeT.cells a_n1.Kids))], .one (.c (.sl 1 (List.map cS a_from1))), .one (.c (.sl 1 (List.map cS a_path1)))] (.tup [(true, [.c (.lit (.int .i64 r.1.Kind)), .c (.lit (.int .i64 r.1.Num)), .c (.str r.1.Text), .c (.sl 1 (List.map cS r.1.Names)), .c (.sl 5 (List.map NodeT.cells r.1.Kids))]), (false, [.c (.lit (.bool r.2))])]) := by
  intro a_n1 a_from1 a_path1 r h
  refine fun_pure K.impl_moveNode (ofK ?_)
  unfold C.impl_moveNode
  rcases n with _ | n <;> simp only [G.impl_moveNode, reduceCtorEq] at h
  obtain ⟨zc, zg, zk, zu, ze, zj, zt⟩ := pp (pp @F.impl_NodeAt <| pp @F.slices_Equal_string <| pp @F.impl_copyNode <| pp @F.impl_RemoveNode <| pp @F.impl_AddNode ()) <| pp () <| pp () <| pp () <| pp () <| pp () <| ()
  exact drv
theorem F.internal_bytealg_CompareString {n : Nat} : ∀ {a_a1 : Txt} {a_b1 : Txt} {r : Int}, G.internal_bytealg_CompareString n a_a1 a_b1 = some r → APure Go.Proofs.Tryz.prog 111 [.one (.c (.str a_a1)), .one (.c (.str a_b1))] (.one (.c (.lit (.int .i64 r)))) := by
  intro a_a1 a_b1 r h
  refine fun_pure K.internal_bytealg_CompareString (ofK ?_)
  unfold C.internal_bytealg_CompareString
  rcases n with _ | n <;> simp only [G.internal_bytealg_CompareString, reduceCtorEq] at h
  obtain ⟨zc, zg, zk, zu, ze, zj, zt⟩ := pp () <| pp () <| pp () <| pp () <| pp () <| pp () <| ()
  exact drv
theorem F.strings_Compare {n : Nat} : ∀ {a_a1 : Txt} {a_b1 : Txt} {r : Int}, G.strings_Compare n a_a1 a_b1 = some r → APure Go.Proofs.Tryz.prog 66 [.one (.c (.str a_a1)), .one (.c (.str a_b1))] (.one (.c (.lit (.int .i64 r)))) := by
  intro a_a1 a_b1 r h
  refine fun_pure K.strings_Compare (ofK ?_)
  unfold C.strings_Compare
  rcases n with _ | n <;> simp only [G.strings_Compare, reduceCtorEq] at h
  obtain ⟨zc, zg, zk, zu, ze, zj, zt⟩ := pp (pp @F.internal_bytealg_CompareString ()) <| pp () <| pp () <| pp () <| pp () <| pp () <| ()
  exact drv
theorem F.impl_compareValid_n : ∀ (n : Nat), ∀ {a_a1 : NodeT} {a_b1 : NodeT} {r : Int}, G.impl_compareValid n a_a1 a_b1 = some r → APure Go.Proofs.Tryz.prog 65 [.agg [.c (.lit (.int .i64 a_a1.Kind)), .c (.lit (.int .i64 a_a1.Num)), .c (.str a_a1.Text), .c (.sl 1 (List.map cS a_a1.Names)), .c (.sl 5 (List.map NodeT.cells a_a1.Kids))], .agg [.c (.lit (.int .i64 a_b1.Kind)), .c (.lit (.int .i64 a_b1.Num)), .c (.str a_b1.Text), .c (.sl 1 (List.map cS a_b1.Names)), .c (.sl 5 (List.map NodeT.cells a_b1.Kids))]] (.one (.c (.lit (.int .i64 r)))) := by
  intro n
  induction n using Nat.strongRecOn with | _ n ih =>
  intro a_a1 a_b1 r h
  refine fun_pure K.impl_compareValid (ofK ?_)
  unfold C.impl_compareValid
  rcases n with _ | n <;> simp only [G.impl_compareValid, reduceCtorEq] at h
  obtain ⟨zc, zg, zk, zu, ze, zj, zt⟩ := pp (pp ih <| pp @F.cmp_Compare_int <| pp @F.strings_Compare ()) <| pp () <| pp (pp (@lopX (Int) _ (fun n x => G.impl_compareValid.L3 n a_a1 a_b1 x) r (fun x => ASt.of [(2, .v true (.one (.ptr 109 0))), (3, .v true (.one (.ptr 110 0))), (8, .v true (.one (.c (.lit (.int .i64 x)))))] [(109, .var [.c (.lit (.int .i64 a_a1.Kind)), .c (.lit (.int .i64 a_a1.Num)), .c (.str a_a1.Text), .c (.sl 1 (List.map cS a_a1.Names)), .c (.sl 5 (List.map NodeT.cells a_a1.Kids))]), (110, .var [.c (.lit (.int .i64 a_b1.Kind)), .c (.lit (.int .i64 a_b1.Num)), .c (.str a_b1.Text), .c (.sl 1 (List.map cS a_b1.Names)), .c (.sl 5 (List.map NodeT.cells a_b1.Kids))])])) ()) <| pp (pp (@cutX (Int) _ (fun n x => G.impl_compareValid.K4 n a_a1 a_b1 x) r (fun x => ASt.of [(2, .v true (.one (.ptr 111 0))), (3, .v true (.one (.ptr 112 0))), (8, .v true (.one (.c (.lit (.int .i64 x)))))] [(111, .var [.c (.lit (.int .i64 a_a1.Kind)), .c (.lit (.int .i64 a_a1.Num)), .c (.str a_a1.Text), .c (.sl 1 (List.map cS a_a1.Names)), .c (.sl 5 (List.map NodeT.cells a_a1.Kids))]), (112, .var [.c (.lit (.int .i64 a_b1.Kind)), .c (.lit (.int .i64 a_b1.Num)), .c (.str a_b1.Text), .c (.sl 1 (List.map cS a_b1.Names)), .c (.sl 5 (List.map NodeT.cells a_b1.Kids))])])) ()) <| pp (pp (And.intro @G.impl_compareValid.L3.eq_1 <| And.intro @G.impl_compareValid.L3.eq_2 <| And.intro @G.impl_compareValid.K4.eq_1 <| @G.impl_compareValid.K4.eq_2) ()) <| pp (pp (@weakX [] [(109, 10), (110, 11)] []) <| pp (@weakX [] [(111, 109), (112, 110)] []) <| pp (@weakX [] [(109, 111), (110, 112)] []) ()) <| ()
  exact drv
theorem F.impl_compareValid {n : Nat} : ∀ {a_a1 : NodeT} {a_b1 : NodeT} {r : Int}, G.impl_compareValid n a_a1 a_b1 = some r → APure Go.Proofs.Tryz.prog 65 [.agg [.c (.lit (.int .i64 a_a1.Kind)), .c (.lit (.int .i64 a_a1.Num)), .c (.str a_a1.Text), .c (.sl 1 (List.map cS a_a1.Names)), .c (.sl 5 (List.map NodeT.cells a_a1.Kids))], .agg [.c (.lit (.int .i64 a_b1.Kind)), .c (.lit (.int .i64 a_b1.Num)), .c (.str a_b1.Text), .c (.sl 1 (List.map cS a_b1.Names)), .c (.sl 5 (List.map NodeT.cells a_b1.Kids))]] (.one (.c (.lit (.int .i64 r)))) := F.impl_compareValid_n n
theorem F.impl_sameNode {n : Nat} : ∀ {a_a1 : NodeT} {a_b1 : NodeT} {r : Bool}, G.impl_sameNode n a_a1 a_b1 = some r → APure Go.Proofs.Tryz.prog 78 [.agg [.c (.lit (.int .i64 a_a1.Kind)), .c (.lit (.int .i64 a_a1.Num)), .c (.str a_a1.Text), .c (.sl 1 (List.map cS a_a1.Names)), .c (.sl 5 (List.map NodeT.cells a_a1.Kids))], .agg [.c (.lit (.int .i64 a_b1.Kind)), .c (.lit (.int .i64 a_b1.Num)), .c (.str a_b1.Text), .c (.sl 1 (List.map cS a_b1.Names)), .c (.sl 5 (List.map NodeT.cells a_b1.Kids))]] (.one (.c (.lit (.bool r)))) := by
  intro a_a1 a_b1 r h
  refine fun_pure K.impl_sameNode (ofK ?_)
  unfold C.impl_sameNode
  rcases n with _ | n <;> simp only [G.impl_sameNode, reduceCtorEq] at h
  obtain ⟨zc, zg, zk, zu, ze, zj, zt⟩ := pp (pp @F.impl_compareValid ()) <| pp () <| pp () <| pp () <| pp () <| pp () <| ()
  exact drv
theorem F.impl_testNode {n : Nat} : ∀ {a_n1 : NodeT} {a_path1 : List Txt} {a_value1 : NodeT} {r : NodeT × Bool}, G.impl_testNode n a_n1 a_path1 a_value1 = some r → APure Go.Proofs.Tryz.prog 147 [.agg [.c (.lit (.int .i64 a_n1.Kind)), .c (.lit (.int .i64 a_n1.Num)), .c (.str a_n1.Text), .c (.sl 1 (List.map cS a_n1.Names)), .c (.sl 5 (List.map NodeT.cells a_n1.Kids))], .one (.c (.sl 1 (List.map cS a_path1))), .agg [.c (.lit (.int .i64 a_value1.Kind)), .c (.lit (.int .i64 a_value1.Num)), .c (.str a_value1.Text), .c (.sl 1 (List.map cS a_value1.Names)), .c (.sl 5 (List.map NodeT.cells a_value1.Kids))]] (.tup [(true, [.c (.lit (.int .i64 r.1.Kind)), .c (.lit (.int .i64 r.1.Num)), .c (.str r.1.Text), .c (.sl 1 (List.map cS r.1.Names)), .c (.sl 5 (List.map NodeT.cells r.1.Kids))]), (false, [.c (.lit (.bool r.2))])]) := by
  intro a_n1 a_path1 a_value1 r h
  refine fun_pure K.impl_testNode (ofK ?_)
  unfold C.impl_testNode
  rcases n with _ | n <;> simp only [G.impl_testNode, reduceCtorEq] at h
  obtain ⟨zc, zg, zk, zu, ze, zj, zt⟩ := pp (pp @F.impl_findNode <| pp @F.impl_sameNode <| pp @F.impl_copyNode ()) <| pp () <| pp () <| pp () <| pp () <| pp () <| ()
  exact drv
theorem F.impl_ApplyOp {n : Nat} : ∀ {a_n1 : NodeT} {a_o1 : OpT} {r : NodeT × Bool}, G.impl_ApplyOp n a_n1 a_o1 = some r → APure Go.Proofs.Tryz.prog 98 [.agg [.c (.lit (.int .i64 a_n1.Kind)), .c (.lit (.int .i64 a_n1.Num)), .c (.str a_n1.Text), .c (.sl 1 (List.map cS a_n1.Names)), .c (.sl 5 (List.map NodeT.cells a_n1.Kids))], .agg [.c (.lit (.int .i64 a_o1.Kind)), .c (.sl 1 (List.map cS a_o1.Path)), .c (.sl 1 (List.map cS a_o1.From)), .c (.lit (.int .i64 a_o1.Value.Kind)), .c (.lit (.int .i64 a_o1.Value.Num)), .c (.str a_o1.Value.Text), .c (.sl 1 (List.map cS a_o1.Value.Names)), .c (.sl 5 (List.map NodeT.cells a_o1.Value.Kids))]] (.tup [(true, [.c (.lit (.int .i64 r.1.Kind)), .c (.lit (.int .i64 r.1.Num)), .c (.str r.1.Text), .c (.sl 1 (List.map cS r.1.Names)), .c (.sl 5 (List.map NodeT.cells r.1.Kids))]), (false, [.c (.lit (.bool r.2))])]) := by
  intro a_n1 a_o1 r h
  refine fun_pure K.impl_ApplyOp (ofK ?_)
  unfold C.impl_ApplyOp
  rcases n with _ | n <;> simp only [G.impl_ApplyOp, reduceCtorEq] at h
  obtain ⟨zc, zg, zk, zu, ze, zj, zt⟩ := pp (pp @F.impl_ValidNode <| pp @F.impl_isOp <| pp @F.impl_AddNode <| pp @F.impl_RemoveNode <| pp @F.impl_SetNode <| pp @F.impl_moveNode <| pp @F.impl_NodeAt <| pp @F.impl_testNode ()) <| pp () <| pp () <| pp () <| pp () <| pp () <| ()
  exact drv
theorem F.impl_arePatchOps {n : Nat} : ∀ {a_list1 : List OpT} {r : Bool}, G.impl_arePatchOps n a_list1 = some r → APure Go.Proofs.Tryz.prog 52 [.one (.c (.sl 8 (List.map OpT.cells a_list1)))] (.one (.c (.lit (.bool r)))) := by
  intro a_list1 r h
  refine fun_pure K.impl_arePatchOps (ofK ?_)
  unfold C.impl_arePatchOps
  rcases n with _ | n <;> simp only [G.impl_arePatchOps, reduceCtorEq] at h
  obtain ⟨zc, zg, zk, zu, ze, zj, zt⟩ := pp (pp @F.impl_isOp ()) <| pp () <| pp (pp (@lopX (Int) _ (fun n x => G.impl_arePatchOps.L1 n a_list1 x) r (fun x => ASt.of [(8, .v true (.one (.c (.sl 8 (List.map OpT.cells a_list1))))), (9, .v true (.one (.c (.lit (.int .i64 ((a_list1.length : Nat) : Int)))))), (10, .v true (.one (.c (.lit (.int .i64 x)))))] [])) ()) <| pp () <| pp (pp (And.intro @G.impl_arePatchOps.L1.eq_1 <| @G.impl_arePatchOps.L1.eq_2) ()) <| pp (pp (@weakX [] [] []) ()) <| ()
  exact drv
theorem F.impl_runPatch {n : Nat} : ∀ {a_n1 : NodeT} {a_list1 : List OpT} {r : NodeT × Int}, G.impl_runPatch n a_n1 a_list1 = some r → APure Go.Proofs.Tryz.prog 53 [.agg [.c (.lit (.int .i64 a_n1.Kind)), .c (.lit (.int .i64 a_n1.Num)), .c (.str a_n1.Text), .c (.sl 1 (List.map cS a_n1.Names)), .c (.sl 5 (List.map NodeT.cells a_n1.Kids))], .one (.c (.sl 8 (List.map OpT.cells a_list1)))] (.tup [(true, [.c (.lit (.int .i64 r.1.Kind)), .c (.lit (.int .i64 r.1.Num)), .c (.str r.1.Text), .c (.sl 1 (List.map cS r.1.Names)), .c (.sl 5 (List.map NodeT.cells r.1.Kids))]), (false, [.c (.lit (.int .i64 r.2))])]) := by
  intro a_n1 a_list1 r h
  refine fun_pure K.impl_runPatch (ofK ?_)
  unfold C.impl_runPatch
  rcases n with _ | n <;> simp only [G.impl_runPatch, reduceCtorEq] at h
  obtain ⟨zc, zg, zk, zu, ze, zj, zt⟩ := pp (pp @F.impl_copyNode <| pp @F.impl_ApplyOp ()) <| pp () <| pp (pp (@lopX (Int × Int × Int × Txt × List Txt × List NodeT) _ (fun n x => G.impl_runPatch.L1 n a_list1 x.1 x.2.1 x.2.2.1 x.2.2.2.1 x.2.2.2.2.1 x.2.2.2.2.2) r (fun x => ASt.of [(1, .v true (.one (.c (.sl 8 (List.map OpT.cells a_list1))))), (4, .v true (.one (.ptr 105 0))), (6, .v true (.one (.ptr 106 0))), (13, .v true (.one (.c (.sl 8 (List.map OpT.cells a_list1))))), (14, .v true (.one (.c (.lit (.int .i64 ((a_list1.length : Nat) : Int)))))), (15, .v true (.one (.c (.lit (.int .i64 x.1)))))] [(105, .var [.c (.lit (.int .i64 0)), .c (.lit (.int .i64 0)), .c (.str []), .nsl 1, .nsl 5]), (106, .var [.c (.lit (.int .i64 x.2.1)), .c (.lit (.int .i64 x.2.2.1)), .c (.str x.2.2.2.1), .c (.sl 1 (List.map cS x.2.2.2.2.1)), .c (.sl 5 (List.map NodeT.cells x.2.2.2.2.2))])])) ()) <| pp () <| pp (pp (And.intro @G.impl_runPatch.L1.eq_1 <| @G.impl_runPatch.L1.eq_2) ()) <| pp (pp (@weakX [] [(105, 11), (106, 12)] []) <| pp (@weakX [] [(105, 105), (106, 106)] []) ()) <| ()
  exact drv
theorem F.impl_ApplyPatch {n : Nat} : ∀ {a_n1 : NodeT} {a_list1 : List OpT} {r : NodeT × Bool}, G.impl_ApplyPatch n a_n1 a_list1 = some r → APure Go.Proofs.Tryz.prog 21 [.agg [.c (.lit (.int .i64 a_n1.Kind)), .c (.lit (.int .i64 a_n1.Num)), .c (.str a_n1.Text), .c (.sl 1 (List.map cS a_n1.Names)), .c (.sl 5 (List.map NodeT.cells a_n1.Kids))], .one (.c (.sl 8 (List.map OpT.cells a_list1)))] (.tup [(true, [.c (.lit (.int .i64 r.1.Kind)), .c (.lit (.int .i64 r.1.Num)), .c (.str r.1.Text), .c (.sl 1 (List.map cS r.1.Names)), .c (.sl 5 (List.map NodeT.cells r.1.Kids))]), (false, [.c (.lit (.bool r.2))])]) := by
  intro a_n1 a_list1 r h
  refine fun_pure K.impl_ApplyPatch (ofK ?_)
  unfold C.impl_ApplyPatch
  rcases n with _ | n <;> simp only [G.impl_ApplyPatch, reduceCtorEq] at h
  obtain ⟨zc, zg, zk, zu, ze, zj, zt⟩ := pp (pp @F.impl_ValidNode <| pp @F.impl_arePatchOps <| pp @F.impl_runPatch ()) <| pp () <| pp () <| pp () <| pp () <| pp () <| ()
  exact drv
theorem F.impl_copyTexts {n : Nat} : ∀ {a_list1 : List Txt} {r : List Txt}, G.impl_copyTexts n a_list1 = some r → APure Go.Proofs.Tryz.prog 131 [.one (.c (.sl 1 (List.map cS a_list1)))] (.one (.c (.sl 1 (List.map cS r)))) := by
  intro a_list1 r h
  refine fun_pure K.impl_copyTexts (ofK ?_)
  unfold C.impl_copyTexts
  rcases n with _ | n <;> simp only [G.impl_copyTexts, reduceCtorEq] at h
  obtain ⟨zc, zg, zk, zu, ze, zj, zt⟩ := pp () <| pp () <| pp () <| pp () <| pp () <| pp () <| ()
  exact drv
theorem F.impl_differences_put {n : Nat} : ∀ {p_d1 : DifferencesT} {a_kind1 : Int} {a_path1 : List Txt} {a_value1 : NodeT} {r : DifferencesT}, G.impl_differences_put n p_d1 a_kind1 a_path1 a_value1 = some r → ACalls Go.Proofs.Tryz.prog 81 [.one (.ptr 0 0), .one (.c (.lit (.int .i64 a_kind1))), .one (.c (.sl 1 (List.map cS a_path1))), .agg [.c (.lit (.int .i64 a_value1.Kind)), .c (.lit (.int .i64 a_value1.Num)), .c (.str a_value1.Text), .c (.sl 1 (List.map cS a_value1.Names)), .c (.sl 5 (List.map NodeT.cells a_value1.Kids))]] [.var [.own 1 p_d1.list.length 8], .dat 8 (List.map OpT.cells p_d1.list)] (fun r1 b1 => r1 = .tup [] ∧ b1 = [.var [.own 2 r.list.length 8], .dead, .dat 8 (List.map OpT.cells r.list)]) := by
  intro p_d1 a_kind1 a_path1 a_value1 r h
  refine fun_sound K.impl_differences_put (ofK ?_)
  unfold C.impl_differences_put
  rcases n with _ | n <;> simp only [G.impl_differences_put, reduceCtorEq] at h
  obtain ⟨zc, zg, zk, zu, ze, zj, zt⟩ := pp (pp @F.impl_copyTexts <| pp @F.impl_copyNode ()) <| pp () <| pp () <| pp () <| pp () <| pp () <| (pp (@retX [] [(0, 0), (1, 1), (2, 12)] []) ())
  exact drv
theorem F.impl_stepBehind {n : Nat} : ∀ {a_path1 : List Txt} {a_step1 : Txt} {r : List Txt}, G.impl_stepBehind n a_path1 a_step1 = some r → APure Go.Proofs.Tryz.prog 129 [.one (.c (.sl 1 (List.map cS a_path1))), .one (.c (.str a_step1))] (.one (.c (.sl 1 (List.map cS r)))) := by
  intro a_path1 a_step1 r h
  refine fun_pure K.impl_stepBehind (ofK ?_)
  unfold C.impl_stepBehind
  rcases n with _ | n <;> simp only [G.impl_stepBehind, reduceCtorEq] at h
  obtain ⟨zc, zg, zk, zu, ze, zj, zt⟩ := pp () <| pp () <| pp () <| pp () <| pp () <| pp () <| ()
  exact drv
theorem F.scc_impl_differences_visit : ∀ (n : Nat), (∀ {p_d1 : DifferencesT} {a_a1 : NodeT} {a_b1 : NodeT} {a_path1 : List Txt} {r : DifferencesT}, G.impl_differences_visit n p_d1 a_a1 a_b1 a_path1 = some r → ACalls Go.Proofs.Tryz.prog 39 [.one (.ptr 0 0), .agg [.c (.lit (.int .i64 a_a1.Kind)), .c (.lit (.int .i64 a_a1.Num)), .c (.str a_a1.Text), .c (.sl 1 (List.map cS a_a1.Names)), .c (.sl 5 (List.map NodeT.cells a_a1.Kids))], .agg [.c (.lit (.int .i64 a_b1.Kind)), .c (.lit (.int .i64 a_b1.Num)), .c (.str a_b1.Text), .c (.sl 1 (List.map cS a_b1.Names)), .c (.sl 5 (List.map NodeT.cells a_b1.Kids))], .one (.c (.sl 1 (List.map cS a_path1)))] [.var [.own 1 p_d1.list.length 8], .dat 8 (List.map OpT.cells p_d1.list)] (fun r1 b1 => r1 = .tup [] ∧ b1 = [.var [.own 2 r.list.length 8], .dead, .dat 8 (List.map OpT.cells r.list)])) ∧ (∀ {p_d1 : DifferencesT} {a_a1 : NodeT} {a_b1 : NodeT} {a_path1 : List Txt} {r : DifferencesT}, G.impl_differences_visitLists n p_d1 a_a1 a_b1 a_path1 = some r → ACalls Go.Proofs.Tryz.prog 80 [.one (.ptr 0 0), .agg [.c (.lit (.int .i64 a_a1.Kind)), .c (.lit (.int .i64 a_a1.Num)), .c (.str a_a1.Text), .c (.sl 1 (List.map cS a_a1.Names)), .c (.sl 5 (List.map NodeT.cells a_a1.Kids))], .agg [.c (.lit (.int .i64 a_b1.Kind)), .c (.lit (.int .i64 a_b1.Num)), .c (.str a_b1.Text), .c (.sl 1 (List.map cS a_b1.Names)), .c (.sl 5 (List.map NodeT.cells a_b1.Kids))], .one (.c (.sl 1 (List.map cS a_path1)))] [.var [.own 1 p_d1.list.length 8], .dat 8 (List.map OpT.cells p_d1.list)] (fun r1 b1 => r1 = .tup [] ∧ b1 = [.var [.own 2 r.list.length 8], .dead, .dat 8 (List.map OpT.cells r.list)])) ∧ (∀ {p_d1 : DifferencesT} {a_a1 : NodeT} {a_b1 : NodeT} {a_path1 : List Txt} {r : DifferencesT}, G.impl_differences_visitMaps n p_d1 a_a1 a_b1 a_path1 = some r → ACalls Go.Proofs.Tryz.prog 79 [.one (.ptr 0 0), .agg [.c (.lit (.int .i64 a_a1.Kind)), .c (.lit (.int .i64 a_a1.Num)), .c (.str a_a1.Text), .c (.sl 1 (List.map cS a_a1.Names)), .c (.sl 5 (List.map NodeT.cells a_a1.Kids))], .agg [.c (.lit (.int .i64 a_b1.Kind)), .c (.lit (.int .i64 a_b1.Num)), .c (.str a_b1.Text), .c (.sl 1 (List.map cS a_b1.Names)), .c (.sl 5 (List.map NodeT.cells a_b1.Kids))], .one (.c (.sl 1 (List.map cS a_path1)))] [.var [.own 1 p_d1.list.length 8], .dat 8 (List.map OpT.cells p_d1.list)] (fun r1 b1 => r1 = .tup [] ∧ b1 = [.var [.own 2 r.list.length 8], .dead, .dat 8 (List.map OpT.cells r.list)])) := by
  intro n
  induction n using Nat.strongRecOn with | _ n ih =>
  refine ⟨?_, ?_, ?_⟩
  · intro p_d1 a_a1 a_b1 a_path1 r h
    refine fun_sound K.impl_differences_visit (ofK ?_)
    unfold C.impl_differences_visit
    rcases n with _ | n <;> simp only [G.impl_differences_visit, reduceCtorEq] at h
    obtain ⟨zc, zg, zk, zu, ze, zj, zt⟩ := pp (pp @F.impl_sameNode ()) <| pp (pp (pp (ihR (ihR ih)) (@cG [0, 1] [101])) <| pp (pp (ihL (ihR ih)) (@cG [0, 1] [102])) <| pp (pp (ihL (ihR ih)) (@cG [0, 1] [105])) <| pp (pp @F.impl_differences_put (@cG [0, 1] [103])) <| pp (pp @F.impl_differences_put (@cG [0, 1] [104])) <| pp (pp @F.impl_differences_put (@cG [0, 1] [106])) <| pp (pp @F.impl_differences_put (@cG [0, 1] [107])) ()) <| pp () <| pp () <| pp () <| pp () <| (pp (@retX [] [(0, 0), (1, 1), (2, 1)] []) <| pp (@retX [] [(0, 0), (1, 1), (2, 101)] []) <| pp (@retX [] [(0, 0), (1, 1), (2, 102)] []) <| pp (@retX [] [(0, 0), (1, 1), (2, 103)] []) <| pp (@retX [] [(0, 0), (1, 1), (2, 104)] []) <| pp (@retX [] [(0, 0), (1, 1), (2, 105)] []) <| pp (@retX [] [(0, 0), (1, 1), (2, 106)] []) <| pp (@retX [] [(0, 0), (1, 1), (2, 107)] []) ())
    exact drv
  · intro p_d1 a_a1 a_b1 a_path1 r h
    refine fun_sound K.impl_differences_visitLists (ofK ?_)
    unfold C.impl_differences_visitLists
    rcases n with _ | n <;> simp only [G.impl_differences_visitLists, reduceCtorEq] at h
    obtain ⟨zc, zg, zk, zu, ze, zj, zt⟩ := pp (pp @F.strconv_Itoa <| pp @F.impl_stepBehind ()) <| pp (pp (pp (ihL ih) (@cG [0, 110] [111])) <| pp (pp @F.impl_differences_put (@cH [0, 119] [120])) <| pp (pp @F.impl_differences_put (@cG [0, 128] [129])) ()) <| pp (pp (@lopX (Int × List OpT) _ (fun n x => G.impl_differences_visitLists.L1 n a_a1 a_b1 a_path1 x.1 x.2) r (fun x => ASt.of [(0, .v true (.one (.ptr 0 0))), (3, .v true (.one (.c (.sl 1 (List.map cS a_path1))))), (5, .v true (.one (.ptr 108 0))), (6, .v true (.one (.ptr 109 0))), (8, .v true (.one (.c (.lit (.int .i64 (if ((a_b1.Kids.length : Nat) : Int) < ((a_a1.Kids.length : Nat) : Int) then ((a_b1.Kids.length : Nat) : Int) else ((a_a1.Kids.length : Nat) : Int))))))), (19, .v true (.one (.c (.lit (.int .i64 (if ((a_b1.Kids.length : Nat) : Int) < ((a_a1.Kids.length : Nat) : Int) then ((a_b1.Kids.length : Nat) : Int) else ((a_a1.Kids.length : Nat) : Int))))))), (20, .v true (.one (.c (.lit (.int .i64 x.1)))))] [(0, .var [.own 110 x.2.length 8]), (1, .dead), (108, .var [.c (.lit (.int .i64 a_a1.Kind)), .c (.lit (.int .i64 a_a1.Num)), .c (.str a_a1.Text), .c (.sl 1 (List.map cS a_a1.Names)), .c (.sl 5 (List.map NodeT.cells a_a1.Kids))]), (109, .var [.c (.lit (.int .i64 a_b1.Kind)), .c (.lit (.int .i64 a_b1.Num)), .c (.str a_b1.Text), .c (.sl 1 (List.map cS a_b1.Names)), .c (.sl 5 (List.map NodeT.cells a_b1.Kids))]), (110, .dat 8 (List.map OpT.cells x.2))])) <| pp (@lopX (Int × List OpT) _ (fun n x => G.impl_differences_visitLists.L2 n a_a1 a_b1 a_path1 x.1 x.2) r (fun x => ASt.of [(0, .v true (.one (.ptr 0 0))), (3, .v true (.one (.c (.sl 1 (List.map cS a_path1))))), (6, .v true (.one (.ptr 118 0))), (8, .v true (.one (.c (.lit (.int .i64 (if ((a_b1.Kids.length : Nat) : Int) < ((a_a1.Kids.length : Nat) : Int) then ((a_b1.Kids.length : Nat) : Int) else ((a_a1.Kids.length : Nat) : Int))))))), (10, .v true (.one (.c (.lit (.int .i64 x.1)))))] [(0, .var [.own 119 x.2.length 8]), (1, .dead), (118, .var [.c (.lit (.int .i64 a_b1.Kind)), .c (.lit (.int .i64 a_b1.Num)), .c (.str a_b1.Text), .c (.sl 1 (List.map cS a_b1.Names)), .c (.sl 5 (List.map NodeT.cells a_b1.Kids))]), (119, .dat 8 (List.map OpT.cells x.2))])) <| pp (@lopX (Int × List OpT) _ (fun n x => G.impl_differences_visitLists.L3 n a_b1 a_path1 x.1 x.2) r (fun x => ASt.of [(0, .v true (.one (.ptr 0 0))), (3, .v true (.one (.c (.sl 1 (List.map cS a_path1))))), (6, .v true (.one (.ptr 127 0))), (11, .v true (.one (.c (.lit (.int .i64 x.1)))))] [(0, .var [.own 128 x.2.length 8]), (1, .dead), (127, .var [.c (.lit (.int .i64 a_b1.Kind)), .c (.lit (.int .i64 a_b1.Num)), .c (.str a_b1.Text), .c (.sl 1 (List.map cS a_b1.Names)), .c (.sl 5 (List.map NodeT.cells a_b1.Kids))]), (128, .dat 8 (List.map OpT.cells x.2))])) ()) <| pp () <| pp (pp (And.intro @G.impl_differences_visitLists.L1.eq_1 <| And.intro @G.impl_differences_visitLists.L1.eq_2 <| And.intro @G.impl_differences_visitLists.L2.eq_1 <| And.intro @G.impl_differences_visitLists.L2.eq_2 <| And.intro @G.impl_differences_visitLists.L3.eq_1 <| @G.impl_differences_visitLists.L3.eq_2) ()) <| pp (pp (@weakX [] [(0, 0), (1, 1), (108, 10), (109, 11), (110, 1)] []) <| pp (@weakX [] [(0, 0), (1, 1), (108, 108), (109, 109), (110, 111)] []) <| pp (@weakX [] [(0, 0), (1, 1), (118, 109), (119, 110)] []) <| pp (@weakX [] [(0, 0), (1, 1), (118, 118), (119, 120)] []) <| pp (@weakX [] [(0, 0), (1, 1), (127, 118), (128, 119)] []) <| pp (@weakX [] [(0, 0), (1, 1), (127, 127), (128, 129)] []) ()) <| (pp (@retX [] [(0, 0), (1, 1), (2, 128)] []) ())
    exact drv
  · intro p_d1 a_a1 a_b1 a_path1 r h
    refine fun_sound K.impl_differences_visitMaps (ofK ?_)
    unfold C.impl_differences_visitMaps
    rcases n with _ | n <;> simp only [G.impl_differences_visitMaps, reduceCtorEq] at h
    obtain ⟨zc, zg, zk, zu, ze, zj, zt⟩ := pp (pp @F.slices_BinarySearch_string <| pp @F.impl_stepBehind ()) <| pp (pp (pp (ihL ih) (@cG [0, 112] [113])) <| pp (pp @F.impl_differences_put (@cH [0, 112] [114])) <| pp (pp @F.impl_differences_put (@cG [0, 125] [126])) ()) <| pp (pp (@lopX (Int × List OpT) _ (fun n x => G.impl_differences_visitMaps.L1 n a_a1 a_b1 a_path1 x.1 x.2) r (fun x => ASt.of [(0, .v true (.one (.ptr 0 0))), (3, .v true (.one (.c (.sl 1 (List.map cS a_path1))))), (5, .v true (.one (.ptr 110 0))), (6, .v true (.one (.ptr 111 0))), (17, .v true (.one (.c (.sl 1 (List.map cS a_a1.Names))))), (18, .v true (.one (.c (.lit (.int .i64 ((a_a1.Names.length : Nat) : Int)))))), (19, .v true (.one (.c (.lit (.int .i64 x.1)))))] [(0, .var [.own 112 x.2.length 8]), (1, .dead), (110, .var [.c (.lit (.int .i64 a_a1.Kind)), .c (.lit (.int .i64 a_a1.Num)), .c (.str a_a1.Text), .c (.sl 1 (List.map cS a_a1.Names)), .c (.sl 5 (List.map NodeT.cells a_a1.Kids))]), (111, .var [.c (.lit (.int .i64 a_b1.Kind)), .c (.lit (.int .i64 a_b1.Num)), .c (.str a_b1.Text), .c (.sl 1 (List.map cS a_b1.Names)), .c (.sl 5 (List.map NodeT.cells a_b1.Kids))]), (112, .dat 8 (List.map OpT.cells x.2))])) <| pp (@lopX (Int × List OpT) _ (fun n x => G.impl_differences_visitMaps.L2 n a_a1 a_b1 a_path1 x.1 x.2) r (fun x => ASt.of [(0, .v true (.one (.ptr 0 0))), (3, .v true (.one (.c (.sl 1 (List.map cS a_path1))))), (5, .v true (.one (.ptr 123 0))), (6, .v true (.one (.ptr 124 0))), (55, .v true (.one (.c (.sl 1 (List.map cS a_b1.Names))))), (56, .v true (.one (.c (.lit (.int .i64 ((a_b1.Names.length : Nat) : Int)))))), (57, .v true (.one (.c (.lit (.int .i64 x.1)))))] [(0, .var [.own 125 x.2.length 8]), (1, .dead), (123, .var [.c (.lit (.int .i64 a_a1.Kind)), .c (.lit (.int .i64 a_a1.Num)), .c (.str a_a1.Text), .c (.sl 1 (List.map cS a_a1.Names)), .c (.sl 5 (List.map NodeT.cells a_a1.Kids))]), (124, .var [.c (.lit (.int .i64 a_b1.Kind)), .c (.lit (.int .i64 a_b1.Num)), .c (.str a_b1.Text), .c (.sl 1 (List.map cS a_b1.Names)), .c (.sl 5 (List.map NodeT.cells a_b1.Kids))]), (125, .dat 8 (List.map OpT.cells x.2))])) ()) <| pp () <| pp (pp (And.intro @G.impl_differences_visitMaps.L1.eq_1 <| And.intro @G.impl_differences_visitMaps.L1.eq_2 <| And.intro @G.impl_differences_visitMaps.L2.eq_1 <| @G.impl_differences_visitMaps.L2.eq_2) ()) <| pp (pp (@weakX [] [(0, 0), (1, 1), (110, 10), (111, 11), (112, 1)] []) <| pp (@weakX [] [(0, 0), (1, 1), (110, 110), (111, 111), (112, 113)] []) <| pp (@weakX [] [(0, 0), (1, 1), (110, 110), (111, 111), (112, 114)] []) <| pp (@weakX [] [(0, 0), (1, 1), (123, 110), (124, 111), (125, 112)] []) <| pp (@weakX [] [(0, 0), (1, 1), (123, 123), (124, 124), (125, 125)] []) <| pp (@weakX [] [(0, 0), (1, 1), (123, 123), (124, 124), (125, 126)] []) ()) <| (pp (@retX [] [(0, 0), (1, 1), (2, 125)] []) ())
    exact drv
theorem F.impl_differences_visit {n : Nat} : ∀ {p_d1 : DifferencesT} {a_a1 : NodeT} {a_b1 : NodeT} {a_path1 : List Txt} {r : DifferencesT}, G.impl_differences_visit n p_d1 a_a1 a_b1 a_path1 = some r → ACalls Go.Proofs.Tryz.prog 39 [.one (.ptr 0 0), .agg [.c (.lit (.int .i64 a_a1.Kind)), .c (.lit (.int .i64 a_a1.Num)), .c (.str a_a1.Text), .c (.sl 1 (List.map cS a_a1.Names)), .c (.sl 5 (List.map NodeT.cells a_a1.Kids))], .agg [.c (.lit (.int .i64 a_b1.Kind)), .c (.lit (.int .i64 a_b1.Num)), .c (.str a_b1.Text), .c (.sl 1 (List.map cS a_b1.Names)), .c (.sl 5 (List.map NodeT.cells a_b1.Kids))], .one (.c (.sl 1 (List.map cS a_path1)))] [.var [.own 1 p_d1.list.length 8], .dat 8 (List.map OpT.cells p_d1.list)] (fun r1 b1 => r1 = .tup [] ∧ b1 = [.var [.own 2 r.list.length 8], .dead, .dat 8 (List.map OpT.cells r.list)]) := (F.scc_impl_differences_visit n).1
theorem F.impl_DiffNodes {n : Nat} : ∀ {a_a1 : NodeT} {a_b1 : NodeT} {r : List OpT × Bool}, G.impl_DiffNodes n a_a1 a_b1 = some r → APure Go.Proofs.Tryz.prog 15 [.agg [.c (.lit (.int .i64 a_a1.Kind)), .c (.lit (.int .i64 a_a1.Num)), .c (.str a_a1.Text), .c (.sl 1 (List.map cS a_a1.Names)), .c (.sl 5 (List.map NodeT.cells a_a1.Kids))], .agg [.c (.lit (.int .i64 a_b1.Kind)), .c (.lit (.int .i64 a_b1.Num)), .c (.str a_b1.Text), .c (.sl 1 (List.map cS a_b1.Names)), .c (.sl 5 (List.map NodeT.cells a_b1.Kids))]] (.tup [(false, [.c (.sl 8 (List.map OpT.cells r.1))]), (false, [.c (.lit (.bool r.2))])]) := by
  intro a_a1 a_b1 r h
  refine fun_pure K.impl_DiffNodes (ofK ?_)
  unfold C.impl_DiffNodes
  rcases n with _ | n <;> simp only [G.impl_DiffNodes, reduceCtorEq] at h
  obtain ⟨zc, zg, zk, zu, ze, zj, zt⟩ := pp (pp @F.impl_ValidNode <| pp @F.impl_ApplyPatch ()) <| pp (pp (pp @F.impl_differences_visit (@cH [103, 104] [105])) ()) <| pp () <| pp (pp (@cutX (Unit) _ (fun n x => G.impl_DiffNodes.K1 n a_a1 a_b1) r (fun x => ASt.of [(2, .v true (.one (.ptr 101 0))), (3, .v true (.one (.ptr 102 0))), (6, .v true (.one (.ptr 103 0)))] [(101, .var [.c (.lit (.int .i64 a_a1.Kind)), .c (.lit (.int .i64 a_a1.Num)), .c (.str a_a1.Text), .c (.sl 1 (List.map cS a_a1.Names)), .c (.sl 5 (List.map NodeT.cells a_a1.Kids))]), (102, .var [.c (.lit (.int .i64 a_b1.Kind)), .c (.lit (.int .i64 a_b1.Num)), .c (.str a_b1.Text), .c (.sl 1 (List.map cS a_b1.Names)), .c (.sl 5 (List.map NodeT.cells a_b1.Kids))]), (103, .var [.own 104 0 8]), (104, .dat 8 (List.map OpT.cells []))])) ()) <| pp (pp (And.intro @G.impl_DiffNodes.K1.eq_1 <| @G.impl_DiffNodes.K1.eq_2) ()) <| pp (pp (@weakX [] [(101, 10), (102, 11), (103, 12)] [104]) ()) <| ()
  exact drv
theorem F.laws_equalTexts {n : Nat} : ∀ {a_a1 : List Txt} {a_b1 : List Txt} {r : Bool}, G.laws_equalTexts n a_a1 a_b1 = some r → APure Go.Proofs.Tryz.prog 31 [.one (.c (.sl 1 (List.map cS a_a1))), .one (.c (.sl 1 (List.map cS a_b1)))] (.one (.c (.lit (.bool r)))) := by
  intro a_a1 a_b1 r h
  refine fun_pure K.laws_equalTexts (ofK ?_)
  unfold C.laws_equalTexts
  rcases n with _ | n <;> simp only [G.laws_equalTexts, reduceCtorEq] at h
  obtain ⟨zc, zg, zk, zu, ze, zj, zt⟩ := pp () <| pp () <| pp (pp (@lopX (Int) _ (fun n x => G.laws_equalTexts.L1 n a_a1 a_b1 x) r (fun x => ASt.of [(0, .v true (.one (.c (.sl 1 (List.map cS a_a1))))), (1, .v true (.one (.c (.sl 1 (List.map cS a_b1))))), (5, .v true (.one (.c (.lit (.int .i64 x)))))] [])) ()) <| pp () <| pp (pp (And.intro @G.laws_equalTexts.L1.eq_1 <| @G.laws_equalTexts.L1.eq_2) ()) <| pp (pp (@weakX [] [] []) ()) <| ()
  exact drv
theorem F.scc_laws_equalNode : ∀ (n : Nat), (∀ {a_a1 : NodeT} {a_b1 : NodeT} {r : Bool}, G.laws_equalNode n a_a1 a_b1 = some r → APure Go.Proofs.Tryz.prog 16 [.agg [.c (.lit (.int .i64 a_a1.Kind)), .c (.lit (.int .i64 a_a1.Num)), .c (.str a_a1.Text), .c (.sl 1 (List.map cS a_a1.Names)), .c (.sl 5 (List.map NodeT.cells a_a1.Kids))], .agg [.c (.lit (.int .i64 a_b1.Kind)), .c (.lit (.int .i64 a_b1.Num)), .c (.str a_b1.Text), .c (.sl 1 (List.map cS a_b1.Names)), .c (.sl 5 (List.map NodeT.cells a_b1.Kids))]] (.one (.c (.lit (.bool r))))) ∧ (∀ {a_a1 : List NodeT} {a_b1 : List NodeT} {r : Bool}, G.laws_equalNodes n a_a1 a_b1 = some r → APure Go.Proofs.Tryz.prog 42 [.one (.c (.sl 5 (List.map NodeT.cells a_a1))), .one (.c (.sl 5 (List.map NodeT.cells a_b1)))] (.one (.c (.lit (.bool r))))) := by
  intro n
  induction n using Nat.strongRecOn with | _ n ih =>
  refine ⟨?_, ?_⟩
  · intro a_a1 a_b1 r h
    refine fun_pure K.laws_equalNode (ofK ?_)
    unfold C.laws_equalNode
    rcases n with _ | n <;> simp only [G.laws_equalNode, reduceCtorEq] at h
    obtain ⟨zc, zg, zk, zu, ze, zj, zt⟩ := pp (pp ((ihR ih)) <| pp @F.laws_equalTexts ()) <| pp () <| pp () <| pp () <| pp () <| pp () <| ()
    exact drv
  · intro a_a1 a_b1 r h
    refine fun_pure K.laws_equalNodes (ofK ?_)
    unfold C.laws_equalNodes
    rcases n with _ | n <;> simp only [G.laws_equalNodes, reduceCtorEq] at h
    obtain ⟨zc, zg, zk, zu, ze, zj, zt⟩ := pp (pp ((ihL ih)) ()) <| pp () <| pp (pp (@lopX (Int) _ (fun n x => G.laws_equalNodes.L1 n a_a1 a_b1 x) r (fun x => ASt.of [(0, .v true (.one (.c (.sl 5 (List.map NodeT.cells a_a1))))), (1, .v true (.one (.c (.sl 5 (List.map NodeT.cells a_b1))))), (5, .v true (.one (.c (.lit (.int .i64 x)))))] [])) ()) <| pp () <| pp (pp (And.intro @G.laws_equalNodes.L1.eq_1 <| @G.laws_equalNodes.L1.eq_2) ()) <| pp (pp (@weakX [] [] []) ()) <| ()
    exact drv
theorem F.laws_equalNode {n : Nat} : ∀ {a_a1 : NodeT} {a_b1 : NodeT} {r : Bool}, G.laws_equalNode n a_a1 a_b1 = some r → APure Go.Proofs.Tryz.prog 16 [.agg [.c (.lit (.int .i64 a_a1.Kind)), .c (.lit (.int .i64 a_a1.Num)), .c (.str a_a1.Text), .c (.sl 1 (List.map cS a_a1.Names)), .c (.sl 5 (List.map NodeT.cells a_a1.Kids))], .agg [.c (.lit (.int .i64 a_b1.Kind)), .c (.lit (.int .i64 a_b1.Num)), .c (.str a_b1.Text), .c (.sl 1 (List.map cS a_b1.Names)), .c (.sl 5 (List.map NodeT.cells a_b1.Kids))]] (.one (.c (.lit (.bool r)))) := (F.scc_laws_equalNode n).1
theorem F.laws_equalOps {n : Nat} : ∀ {a_a1 : List OpT} {a_b1 : List OpT} {r : Bool}, G.laws_equalOps n a_a1 a_b1 = some r → APure Go.Proofs.Tryz.prog 24 [.one (.c (.sl 8 (List.map OpT.cells a_a1))), .one (.c (.sl 8 (List.map OpT.cells a_b1)))] (.one (.c (.lit (.bool r)))) := by
  intro a_a1 a_b1 r h
  refine fun_pure K.laws_equalOps (ofK ?_)
  unfold C.laws_equalOps
  rcases n with _ | n <;> simp only [G.laws_equalOps, reduceCtorEq] at h
  obtain ⟨zc, zg, zk, zu, ze, zj, zt⟩ := pp (pp @F.laws_equalTexts <| pp @F.laws_equalNode ()) <| pp () <| pp (pp (@lopX (Int) _ (fun n x => G.laws_equalOps.L1 n a_a1 a_b1 x) r (fun x => ASt.of [(0, .v true (.one (.c (.sl 8 (List.map OpT.cells a_a1))))), (1, .v true (.one (.c (.sl 8 (List.map OpT.cells a_b1))))), (5, .v true (.one (.c (.lit (.int .i64 x)))))] [])) ()) <| pp () <| pp (pp (And.intro @G.laws_equalOps.L1.eq_1 <| @G.laws_equalOps.L1.eq_2) ()) <| pp (pp (@weakX [] [] []) ()) <| ()
  exact drv
theorem F.spec_copyNode_n : ∀ (n : Nat), ∀ {a_n1 : NodeT} {r : NodeT}, G.spec_copyNode n a_n1 = some r → APure Go.Proofs.Tryz.prog 88 [.agg [.c (.lit (.int .i64 a_n1.Kind)), .c (.lit (.int .i64 a_n1.Num)), .c (.str a_n1.Text), .c (.sl 1 (List.map cS a_n1.Names)), .c (.sl 5 (List.map NodeT.cells a_n1.Kids))]] (.agg [.c (.lit (.int .i64 r.Kind)), .c (.lit (.int .i64 r.Num)), .c (.str r.Text), .c (.sl 1 (List.map cS r.Names)), .c (.sl 5 (List.map NodeT.cells r.Kids))]) := by
  intro n
  induction n using Nat.strongRecOn with | _ n ih =>
  intro a_n1 r h
  refine fun_pure K.spec_copyNode (ofK ?_)
  unfold C.spec_copyNode
  rcases n with _ | n <;> simp only [G.spec_copyNode, reduceCtorEq] at h
  obtain ⟨zc, zg, zk, zu, ze, zj, zt⟩ := pp (pp ih ()) <| pp () <| pp (pp (@lopX (Int × List NodeT) _ (fun n x => G.spec_copyNode.L1 n a_n1 x.1 x.2) r (fun x => ASt.of [(1, .v true (.one (.ptr 107 0))), (2, .v true (.one (.ptr 108 0))), (3, .v true (.one (.own 109 x.2.length 5))), (4, .v true (.one (.c (.lit (.int .i64 x.1)))))] [(107, .var [.c (.lit (.int .i64 a_n1.Kind)), .c (.lit (.int .i64 a_n1.Num)), .c (.str a_n1.Text), .c (.sl 1 (List.map cS a_n1.Names)), .c (.sl 5 (List.map NodeT.cells a_n1.Kids))]), (108, .var [.c (.lit (.int .i64 0)), .c (.lit (.int .i64 0)), .c (.str []), .nsl 1, .nsl 5]), (109, .dat 5 (List.map NodeT.cells x.2))])) ()) <| pp () <| pp (pp (And.intro @G.spec_copyNode.L1.eq_1 <| @G.spec_copyNode.L1.eq_2) ()) <| pp (pp (@weakX [] [(107, 10), (108, 11), (109, 12)] []) <| pp (@weakX [] [(107, 107), (108, 108), (109, 14)] []) ()) <| ()
  exact drv
theorem F.spec_copyNode {n : Nat} : ∀ {a_n1 : NodeT} {r : NodeT}, G.spec_copyNode n a_n1 = some r → APure Go.Proofs.Tryz.prog 88 [.agg [.c (.lit (.int .i64 a_n1.Kind)), .c (.lit (.int .i64 a_n1.Num)), .c (.str a_n1.Text), .c (.sl 1 (List.map cS a_n1.Names)), .c (.sl 5 (List.map NodeT.cells a_n1.Kids))]] (.agg [.c (.lit (.int .i64 r.Kind)), .c (.lit (.int .i64 r.Num)), .c (.str r.Text), .c (.sl 1 (List.map cS r.Names)), .c (.sl 5 (List.map NodeT.cells r.Kids))]) := F.spec_copyNode_n n
theorem F.spec_copyNode_o {n : Nat} : ∀ {a_n1 : NodeT} {r : NodeT}, G.spec_copyNode n a_n1 = some r → ACalls Go.Proofs.Tryz.prog 88 [.agg [.c (.lit (.int .i64 a_n1.Kind)), .c (.lit (.int .i64 a_n1.Num)), .c (.str a_n1.Text), .c (.sl 1 (List.map cS a_n1.Names)), .c (.sl 5 (List.map NodeT.cells a_n1.Kids))]] [] (fun r1 b1 => r1 = .agg [.c (.lit (.int .i64 r.Kind)), .c (.lit (.int .i64 r.Num)), .c (.str r.Text), .own 0 r.Names.length 1, .own 1 r.Kids.length 5] ∧ b1 = [.dat 1 (List.map cS r.Names), .dat 5 (List.map NodeT.cells r.Kids)]) := by
  intro a_n1 r h
  refine fun_sound K.spec_copyNode (ofK ?_)
  unfold C.spec_copyNode
  rcases n with _ | n <;> simp only [G.spec_copyNode, reduceCtorEq] at h
  obtain ⟨zc, zg, zk, zu, ze, zj, zt⟩ := pp (pp @F.spec_copyNode ()) <| pp () <| pp (pp (@lopX (Int × List NodeT) _ (fun n x => G.spec_copyNode.L1 n a_n1 x.1 x.2) r (fun x => ASt.of [(1, .v true (.one (.ptr 107 0))), (2, .v true (.one (.ptr 108 0))), (3, .v true (.one (.own 109 x.2.length 5))), (4, .v true (.one (.c (.lit (.int .i64 x.1)))))] [(107, .var [.c (.lit (.int .i64 a_n1.Kind)), .c (.lit (.int .i64 a_n1.Num)), .c (.str a_n1.Text), .c (.sl 1 (List.map cS a_n1.Names)), .c (.sl 5 (List.map NodeT.cells a_n1.Kids))]), (108, .var [.c (.lit (.int .i64 0)), .c (.lit (.int .i64 0)), .c (.str []), .nsl 1, .nsl 5]), (109, .dat 5 (List.map NodeT.cells x.2))])) ()) <| pp () <| pp (pp (And.intro @G.spec_copyNode.L1.eq_1 <| @G.spec_copyNode.L1.eq_2) ()) <| pp (pp (@weakX [] [(107, 10), (108, 11), (109, 12)] []) <| pp (@weakX [] [(107, 107), (108, 108), (109, 14)] []) ()) <| (pp (@retX [] [(0, 16), (1, 109)] []) ())
  exact drv
theorem F.spec_decimal_n : ∀ (n : Nat), ∀ {a_n1 : Int} {r : Txt}, G.spec_decimal n a_n1 = some r → APure Go.Proofs.Tryz.prog 135 [.one (.c (.lit (.int .i64 a_n1)))] (.one (.c (.str r))) := by
  intro n
  induction n using Nat.strongRecOn with | _ n ih =>
  intro a_n1 r h
  refine fun_pure K.spec_decimal (ofK ?_)
  unfold C.spec_decimal
  rcases n with _ | n <;> simp only [G.spec_decimal, reduceCtorEq] at h
  obtain ⟨zc, zg, zk, zu, ze, zj, zt⟩ := pp (pp ih ()) <| pp () <| pp () <| pp () <| pp () <| pp () <| ()
  exact drv
theorem F.spec_decimal {n : Nat} : ∀ {a_n1 : Int} {r : Txt}, G.spec_decimal n a_n1 = some r → APure Go.Proofs.Tryz.prog 135 [.one (.c (.lit (.int .i64 a_n1)))] (.one (.c (.str r))) := F.spec_decimal_n n
theorem F.spec_place {n : Nat} : ∀ {a_n1 : NodeT} {a_step1 : Txt} {r : Int}, G.spec_place n a_n1 a_step1 = some r → APure Go.Proofs.Tryz.prog 89 [.agg [.c (.lit (.int .i64 a_n1.Kind)), .c (.lit (.int .i64 a_n1.Num)), .c (.str a_n1.Text), .c (.sl 1 (List.map cS a_n1.Names)), .c (.sl 5 (List.map NodeT.cells a_n1.Kids))], .one (.c (.str a_step1))] (.one (.c (.lit (.int .i64 r)))) := by
  intro a_n1 a_step1 r h
  refine fun_pure K.spec_place (ofK ?_)
  unfold C.spec_place
  rcases n with _ | n <;> simp only [G.spec_place, reduceCtorEq] at h
  obtain ⟨zc, zg, zk, zu, ze, zj, zt⟩ := pp (pp @F.spec_decimal ()) <| pp () <| pp (pp (@lopX (Int) _ (fun n x => G.spec_place.L1 n a_n1 a_step1 x) r (fun x => ASt.of [(1, .v true (.one (.c (.str a_step1)))), (2, .v true (.one (.ptr 103 0))), (5, .v true (.one (.c (.lit (.int .i64 x)))))] [(103, .var [.c (.lit (.int .i64 a_n1.Kind)), .c (.lit (.int .i64 a_n1.Num)), .c (.str a_n1.Text), .c (.sl 1 (List.map cS a_n1.Names)), .c (.sl 5 (List.map NodeT.cells a_n1.Kids))])])) ()) <| pp () <| pp (pp (And.intro @G.spec_place.L1.eq_1 <| @G.spec_place.L1.eq_2) ()) <| pp (pp (@weakX [] [(103, 10)] []) <| pp (@weakX [] [(103, 103)] []) ()) <| ()
  exact drv
theorem F.spec_slot {n : Nat} : ∀ {a_n1 : NodeT} {a_step1 : Txt} {r : Int × Bool}, G.spec_slot n a_n1 a_step1 = some r → APure Go.Proofs.Tryz.prog 136 [.agg [.c (.lit (.int .i64 a_n1.Kind)), .c (.lit (.int .i64 a_n1.Num)), .c (.str a_n1.Text), .c (.sl 1 (List.map cS a_n1.Names)), .c (.sl 5 (List.map NodeT.cells a_n1.Kids))], .one (.c (.str a_step1))] (.tup [(false, [.c (.lit (.int .i64 r.1))]), (false, [.c (.lit (.bool r.2))])]) := by
  intro a_n1 a_step1 r h
  refine fun_pure K.spec_slot (ofK ?_)
  unfold C.spec_slot
  rcases n with _ | n <;> simp only [G.spec_slot, reduceCtorEq] at h
  obtain ⟨zc, zg, zk, zu, ze, zj, zt⟩ := pp (pp @F.spec_place <| pp @F.spec_decimal ()) <| pp () <| pp (pp (@lopX (Int) _ (fun n x => G.spec_slot.L1 n a_n1 a_step1 x) r (fun x => ASt.of [(1, .v true (.one (.c (.str a_step1)))), (2, .v true (.one (.ptr 103 0))), (7, .v true (.one (.c (.lit (.int .i64 x)))))] [(103, .var [.c (.lit (.int .i64 a_n1.Kind)), .c (.lit (.int .i64 a_n1.Num)), .c (.str a_n1.Text), .c (.sl 1 (List.map cS a_n1.Names)), .c (.sl 5 (List.map NodeT.cells a_n1.Kids))])])) <| pp (@lopX (Int) _ (fun n x => G.spec_slot.L2 n a_n1 a_step1 x) r (fun x => ASt.of [(1, .v true (.one (.c (.str a_step1)))), (2, .v true (.one (.ptr 106 0))), (7, .v true (.one (.c (.lit (.int .i64 x)))))] [(106, .var [.c (.lit (.int .i64 a_n1.Kind)), .c (.lit (.int .i64 a_n1.Num)), .c (.str a_n1.Text), .c (.sl 1 (List.map cS a_n1.Names)), .c (.sl 5 (List.map NodeT.cells a_n1.Kids))])])) ()) <| pp () <| pp (pp (And.intro @G.spec_slot.L1.eq_1 <| And.intro @G.spec_slot.L1.eq_2 <| And.intro @G.spec_slot.L2.eq_1 <| @G.spec_slot.L2.eq_2) ()) <| pp (pp (@weakX [] [(103, 10)] []) <| pp (@weakX [] [(103, 103)] []) <| pp (@weakX [] [(106, 10)] []) <| pp (@weakX [] [(106, 106)] []) ()) <| ()
  exact drv
theorem F.spec_withKid {n : Nat} : ∀ {a_n1 : NodeT} {a_k1 : Int} {a_kid1 : NodeT} {r : NodeT}, G.spec_withKid n a_n1 a_k1 a_kid1 = some r → APure Go.Proofs.Tryz.prog 91 [.agg [.c (.lit (.int .i64 a_n1.Kind)), .c (.lit (.int .i64 a_n1.Num)), .c (.str a_n1.Text), .c (.sl 1 (List.map cS a_n1.Names)), .c (.sl 5 (List.map NodeT.cells a_n1.Kids))], .one (.c (.lit (.int .i64 a_k1))), .agg [.c (.lit (.int .i64 a_kid1.Kind)), .c (.lit (.int .i64 a_kid1.Num)), .c (.str a_kid1.Text), .c (.sl 1 (List.map cS a_kid1.Names)), .c (.sl 5 (List.map NodeT.cells a_kid1.Kids))]] (.agg [.c (.lit (.int .i64 r.Kind)), .c (.lit (.int .i64 r.Num)), .c (.str r.Text), .c (.sl 1 (List.map cS r.Names)), .c (.sl 5 (List.map NodeT.cells r.Kids))]) := by
  intro a_n1 a_k1 a_kid1 r h
  refine fun_pure K.spec_withKid (ofK ?_)
  unfold C.spec_withKid
  rcases n with _ | n <;> simp only [G.spec_withKid, reduceCtorEq] at h
  obtain ⟨zc, zg, zk, zu, ze, zj, zt⟩ := pp () <| pp (pp (pp @F.spec_copyNode_o (@cG [] [101, 102])) <| pp (pp @F.spec_copyNode_o (@cG [] [103, 104])) ()) <| pp () <| pp () <| pp () <| pp () <| ()
  exact drv
theorem F.spec_withKid_o {n : Nat} : ∀ {a_n1 : NodeT} {a_k1 : Int} {a_kid1 : NodeT} {r : NodeT}, G.spec_withKid n a_n1 a_k1 a_kid1 = some r → ACalls Go.Proofs.Tryz.prog 91 [.agg [.c (.lit (.int .i64 a_n1.Kind)), .c (.lit (.int .i64 a_n1.Num)), .c (.str a_n1.Text), .c (.sl 1 (List.map cS a_n1.Names)), .c (.sl 5 (List.map NodeT.cells a_n1.Kids))], .one (.c (.lit (.int .i64 a_k1))), .agg [.c (.lit (.int .i64 a_kid1.Kind)), .c (.lit (.int .i64 a_kid1.Num)), .c (.str a_kid1.Text), .c (.sl 1 (List.map cS a_kid1.Names)), .c (.sl 5 (List.map NodeT.cells a_kid1.Kids))]] [] (fun r1 b1 => r1 = .agg [.c (.lit (.int .i64 r.Kind)), .c (.lit (.int .i64 r.Num)), .c (.str r.Text), .own 0 r.Names.length 1, .own 1 r.Kids.length 5] ∧ b1 = [.dat 1 (List.map cS r.Names), .dat 5 (List.map NodeT.cells r.Kids)]) := by
  intro a_n1 a_k1 a_kid1 r h
  refine fun_sound K.spec_withKid (ofK ?_)
  unfold C.spec_withKid
  rcases n with _ | n <;> simp only [G.spec_withKid, reduceCtorEq] at h
  obtain ⟨zc, zg, zk, zu, ze, zj, zt⟩ := pp () <| pp (pp (pp @F.spec_copyNode_o (@cG [] [101, 102])) <| pp (pp @F.spec_copyNode_o (@cG [] [103, 104])) ()) <| pp () <| pp () <| pp () <| pp () <| (pp (@retX [] [(0, 101), (1, 102)] []) ())
  exact drv
theorem F.spec_addHere {n : Nat} : ∀ {a_n1 : NodeT} {a_step1 : Txt} {a_value1 : NodeT} {r : NodeT × Bool}, G.spec_addHere n a_n1 a_step1 a_value1 = some r → APure Go.Proofs.Tryz.prog 92 [.agg [.c (.lit (.int .i64 a_n1.Kind)), .c (.lit (.int .i64 a_n1.Num)), .c (.str a_n1.Text), .c (.sl 1 (List.map cS a_n1.Names)), .c (.sl 5 (List.map NodeT.cells a_n1.Kids))], .one (.c (.str a_step1)), .agg [.c (.lit (.int .i64 a_value1.Kind)), .c (.lit (.int .i64 a_value1.Num)), .c (.str a_value1.Text), .c (.sl 1 (List.map cS a_value1.Names)), .c (.sl 5 (List.map NodeT.cells a_value1.Kids))]] (.tup [(true, [.c (.lit (.int .i64 r.1.Kind)), .c (.lit (.int .i64 r.1.Num)), .c (.str r.1.Text), .c (.sl 1 (List.map cS r.1.Names)), .c (.sl 5 (List.map NodeT.cells r.1.Kids))]), (false, [.c (.lit (.bool r.2))])]) := by
  intro a_n1 a_step1 a_value1 r h
  refine fun_pure K.spec_addHere (ofK ?_)
  unfold C.spec_addHere
  rcases n with _ | n <;> simp only [G.spec_addHere, reduceCtorEq] at h
  obtain ⟨zc, zg, zk, zu, ze, zj, zt⟩ := pp (pp @F.spec_slot <| pp @F.spec_withKid <| pp @F.spec_copyNode ()) <| pp () <| pp () <| pp () <| pp () <| pp () <| ()
  exact drv
theorem F.spec_addHere_o {n : Nat} : ∀ {a_n1 : NodeT} {a_step1 : Txt} {a_value1 : NodeT} {r : NodeT × Bool}, G.spec_addHere n a_n1 a_step1 a_value1 = some r → ACalls Go.Proofs.Tryz.prog 92 [.agg [.c (.lit (.int .i64 a_n1.Kind)), .c (.lit (.int .i64 a_n1.Num)), .c (.str a_n1.Text), .c (.sl 1 (List.map cS a_n1.Names)), .c (.sl 5 (List.map NodeT.cells a_n1.Kids))], .one (.c (.str a_step1)), .agg [.c (.lit (.int .i64 a_value1.Kind)), .c (.lit (.int .i64 a_value1.Num)), .c (.str a_value1.Text), .c (.sl 1 (List.map cS a_value1.Names)), .c (.sl 5 (List.map NodeT.cells a_value1.Kids))]] [] (fun r1 b1 => r1 = .tup [(true, [.c (.lit (.int .i64 r.1.Kind)), .c (.lit (.int .i64 r.1.Num)), .c (.str r.1.Text), .own 0 r.1.Names.length 1, .own 1 r.1.Kids.length 5]), (false, [.c (.lit (.bool r.2))])] ∧ b1 = [.dat 1 (List.map cS r.1.Names), .dat 5 (List.map NodeT.cells r.1.Kids)]) := by
  intro a_n1 a_step1 a_value1 r h
  refine fun_sound K.spec_addHere (ofK ?_)
  unfold C.spec_addHere
  rcases n with _ | n <;> simp only [G.spec_addHere, reduceCtorEq] at h
  obtain ⟨zc, zg, zk, zu, ze, zj, zt⟩ := pp (pp @F.spec_slot <| pp @F.spec_copyNode ()) <| pp (pp (pp @F.spec_withKid_o (@cG [] [101, 102])) ()) <| pp () <| pp () <| pp () <| pp () <| (pp (@retX [] [] [0, 1]) <| pp (@retX [] [(0, 101), (1, 102)] []) <| pp (@retX [] [(0, 19), (1, 18)] []) <| pp (@retX [] [(0, 24), (1, 18)] []) ())
  exact drv
theorem F.spec_at {n : Nat} : ∀ {a_n1 : NodeT} {a_path1 : List Txt} {r : NodeT × Bool}, G.spec_at n a_n1 a_path1 = some r → APure Go.Proofs.Tryz.prog 115 [.agg [.c (.lit (.int .i64 a_n1.Kind)), .c (.lit (.int .i64 a_n1.Num)), .c (.str a_n1.Text), .c (.sl 1 (List.map cS a_n1.Names)), .c (.sl 5 (List.map NodeT.cells a_n1.Kids))], .one (.c (.sl 1 (List.map cS a_path1)))] (.tup [(true, [.c (.lit (.int .i64 r.1.Kind)), .c (.lit (.int .i64 r.1.Num)), .c (.str r.1.Text), .c (.sl 1 (List.map cS r.1.Names)), .c (.sl 5 (List.map NodeT.cells r.1.Kids))]), (false, [.c (.lit (.bool r.2))])]) := by
  intro a_n1 a_path1 r h
  refine fun_pure K.spec_at (ofK ?_)
  unfold C.spec_at
  rcases n with _ | n <;> simp only [G.spec_at, reduceCtorEq] at h
  obtain ⟨zc, zg, zk, zu, ze, zj, zt⟩ := pp (pp @F.spec_place <| pp @F.spec_copyNode ()) <| pp () <| pp (pp (@lopX (Int × Int × Int × Txt × List Txt × List NodeT) _ (fun n x => G.spec_at.L1 n a_path1 x.1 x.2.1 x.2.2.1 x.2.2.2.1 x.2.2.2.2.1 x.2.2.2.2.2) r (fun x => ASt.of [(1, .v true (.one (.c (.sl 1 (List.map cS a_path1))))), (2, .v true (.one (.ptr 105 0))), (4, .v true (.one (.ptr 106 0))), (6, .v true (.one (.c (.lit (.int .i64 x.1)))))] [(105, .var [.c (.lit (.int .i64 x.2.1)), .c (.lit (.int .i64 x.2.2.1)), .c (.str x.2.2.2.1), .c (.sl 1 (List.map cS x.2.2.2.2.1)), .c (.sl 5 (List.map NodeT.cells x.2.2.2.2.2))]), (106, .var [.c (.lit (.int .i64 0)), .c (.lit (.int .i64 0)), .c (.str []), .nsl 1, .nsl 5])])) ()) <| pp () <| pp (pp (And.intro @G.spec_at.L1.eq_1 <| @G.spec_at.L1.eq_2) ()) <| pp (pp (@weakX [] [(105, 10), (106, 11)] []) <| pp (@weakX [] [(105, 105), (106, 106)] []) ()) <| ()
  exact drv
theorem F.spec_setAt_n : ∀ (n : Nat), ∀ {a_n1 : NodeT} {a_path1 : List Txt} {a_value1 : NodeT} {r : NodeT × Bool}, G.spec_setAt n a_n1 a_path1 a_value1 = some r → APure Go.Proofs.Tryz.prog 127 [.agg [.c (.lit (.int .i64 a_n1.Kind)), .c (.lit (.int .i64 a_n1.Num)), .c (.str a_n1.Text), .c (.sl 1 (List.map cS a_n1.Names)), .c (.sl 5 (List.map NodeT.cells a_n1.Kids))], .one (.c (.sl 1 (List.map cS a_path1))), .agg [.c (.lit (.int .i64 a_value1.Kind)), .c (.lit (.int .i64 a_value1.Num)), .c (.str a_value1.Text), .c (.sl 1 (List.map cS a_value1.Names)), .c (.sl 5 (List.map NodeT.cells a_value1.Kids))]] (.tup [(true, [.c (.lit (.int .i64 r.1.Kind)), .c (.lit (.int .i64 r.1.Num)), .c (.str r.1.Text), .c (.sl 1 (List.map cS r.1.Names)), .c (.sl 5 (List.map NodeT.cells r.1.Kids))]), (false, [.c (.lit (.bool r.2))])]) := by
  intro n
  induction n using Nat.strongRecOn with | _ n ih =>
  intro a_n1 a_path1 a_value1 r h
  refine fun_pure K.spec_setAt (ofK ?_)
  unfold C.spec_setAt
  rcases n with _ | n <;> simp only [G.spec_setAt, reduceCtorEq] at h
  obtain ⟨zc, zg, zk, zu, ze, zj, zt⟩ := pp (pp ih <| pp @F.spec_copyNode <| pp @F.spec_place <| pp @F.spec_withKid ()) <| pp () <| pp () <| pp () <| pp () <| pp () <| ()
  exact drv
theorem F.spec_setAt {n : Nat} : ∀ {a_n1 : NodeT} {a_path1 : List Txt} {a_value1 : NodeT} {r : NodeT × Bool}, G.spec_setAt n a_n1 a_path1 a_value1 = some r → APure Go.Proofs.Tryz.prog 127 [.agg [.c (.lit (.int .i64 a_n1.Kind)), .c (.lit (.int .i64 a_n1.Num)), .c (.str a_n1.Text), .c (.sl 1 (List.map cS a_n1.Names)), .c (.sl 5 (List.map NodeT.cells a_n1.Kids))], .one (.c (.sl 1 (List.map cS a_path1))), .agg [.c (.lit (.int .i64 a_value1.Kind)), .c (.lit (.int .i64 a_value1.Num)), .c (.str a_value1.Text), .c (.sl 1 (List.map cS a_value1.Names)), .c (.sl 5 (List.map NodeT.cells a_value1.Kids))]] (.tup [(true, [.c (.lit (.int .i64 r.1.Kind)), .c (.lit (.int .i64 r.1.Num)), .c (.str r.1.Text), .c (.sl 1 (List.map cS r.1.Names)), .c (.sl 5 (List.map NodeT.cells r.1.Kids))]), (false, [.c (.lit (.bool r.2))])]) := F.spec_setAt_n n
theorem F.spec_addAt {n : Nat} : ∀ {a_n1 : NodeT} {a_path1 : List Txt} {a_value1 : NodeT} {r : NodeT × Bool}, G.spec_addAt n a_n1 a_path1 a_value1 = some r → APure Go.Proofs.Tryz.prog 124 [.agg [.c (.lit (.int .i64 a_n1.Kind)), .c (.lit (.int .i64 a_n1.Num)), .c (.str a_n1.Text), .c (.sl 1 (List.map cS a_n1.Names)), .c (.sl 5 (List.map NodeT.cells a_n1.Kids))], .one (.c (.sl 1 (List.map cS a_path1))), .agg [.c (.lit (.int .i64 a_value1.Kind)), .c (.lit (.int .i64 a_value1.Num)), .c (.str a_value1.Text), .c (.sl 1 (List.map cS a_value1.Names)), .c (.sl 5 (List.map NodeT.cells a_value1.Kids))]] (.tup [(true, [.c (.lit (.int .i64 r.1.Kind)), .c (.lit (.int .i64 r.1.Num)), .c (.str r.1.Text), .c (.sl 1 (List.map cS r.1.Names)), .c (.sl 5 (List.map NodeT.cells r.1.Kids))]), (false, [.c (.lit (.bool r.2))])]) := by
  intro a_n1 a_path1 a_value1 r h
  refine fun_pure K.spec_addAt (ofK ?_)
  unfold C.spec_addAt
  rcases n with _ | n <;> simp only [G.spec_addAt, reduceCtorEq] at h
  obtain ⟨zc, zg, zk, zu, ze, zj, zt⟩ := pp (pp @F.spec_copyNode <| pp @F.spec_at <| pp @F.spec_addHere <| pp @F.spec_setAt ()) <| pp () <| pp () <| pp () <| pp () <| pp () <| ()
  exact drv
theorem F.spec_begins {n : Nat} : ∀ {a_path1 : List Txt} {a_with1 : List Txt} {r : Bool}, G.spec_begins n a_path1 a_with1 = some r → APure Go.Proofs.Tryz.prog 189 [.one (.c (.sl 1 (List.map cS a_path1))), .one (.c (.sl 1 (List.map cS a_with1)))] (.one (.c (.lit (.bool r)))) := by
  intro a_path1 a_with1 r h
  refine fun_pure K.spec_begins (ofK ?_)
  unfold C.spec_begins
  rcases n with _ | n <;> simp only [G.spec_begins, reduceCtorEq] at h
  obtain ⟨zc, zg, zk, zu, ze, zj, zt⟩ := pp () <| pp () <| pp (pp (@lopX (Int) _ (fun n x => G.spec_begins.L1 n a_path1 a_with1 x) r (fun x => ASt.of [(0, .v true (.one (.c (.sl 1 (List.map cS a_path1))))), (1, .v true (.one (.c (.sl 1 (List.map cS a_with1))))), (5, .v true (.one (.c (.lit (.int .i64 x)))))] [])) ()) <| pp () <| pp (pp (And.intro @G.spec_begins.L1.eq_1 <| @G.spec_begins.L1.eq_2) ()) <| pp (pp (@weakX [] [] []) ()) <| ()
  exact drv
theorem F.spec_removeAt {n : Nat} : ∀ {a_n1 : NodeT} {a_path1 : List Txt} {r : NodeT × Bool}, G.spec_removeAt n a_n1 a_path1 = some r → APure Go.Proofs.Tryz.prog 90 [.agg [.c (.lit (.int .i64 a_n1.Kind)), .c (.lit (.int .i64 a_n1.Num)), .c (.str a_n1.Text), .c (.sl 1 (List.map cS a_n1.Names)), .c (.sl 5 (List.map NodeT.cells a_n1.Kids))], .one (.c (.sl 1 (List.map cS a_path1)))] (.tup [(true, [.c (.lit (.int .i64 r.1.Kind)), .c (.lit (.int .i64 r.1.Num)), .c (.str r.1.Text), .c (.sl 1 (List.map cS r.1.Names)), .c (.sl 5 (List.map NodeT.cells r.1.Kids))]), (false, [.c (.lit (.bool r.2))])]) := by
  intro a_n1 a_path1 r h
  refine fun_pure K.spec_removeAt (ofK ?_)
  unfold C.spec_removeAt
  rcases n with _ | n <;> simp only [G.spec_removeAt, reduceCtorEq] at h
  obtain ⟨zc, zg, zk, zu, ze, zj, zt⟩ := pp (pp @F.spec_at <| pp @F.spec_place <| pp @F.spec_setAt ()) <| pp () <| pp () <| pp (pp (@cutX ((NodeT × Bool) × List NodeT × List Txt) _ (fun n x => G.spec_removeAt.K1 n a_n1 a_path1 x.1 x.2.1 x.2.2) r (fun x => ASt.of [(1, .v true (.one (.c (.sl 1 (List.map cS a_path1))))), (2, .v true (.one (.ptr 101 0))), (4, .v true (.one (.ptr 102 0))), (6, .v true (.one (.c (.lit (.int .i64 (IntKind.wrap .i64 (((a_path1.length : Nat) : Int) - 1))))))), (7, .v true (.one (.ptr 103 0))), (10, .v true (.one (.own 104 x.2.1.length 5))), (11, .v true (.one (.own 105 x.2.2.length 1)))] [(101, .var [.c (.lit (.int .i64 a_n1.Kind)), .c (.lit (.int .i64 a_n1.Num)), .c (.str a_n1.Text), .c (.sl 1 (List.map cS a_n1.Names)), .c (.sl 5 (List.map NodeT.cells a_n1.Kids))]), (102, .var [.c (.lit (.int .i64 0)), .c (.lit (.int .i64 0)), .c (.str []), .nsl 1, .nsl 5]), (103, .var [.c (.lit (.int .i64 x.1.1.Kind)), .c (.lit (.int .i64 x.1.1.Num)), .c (.str x.1.1.Text), .c (.sl 1 (List.map cS x.1.1.Names)), .c (.sl 5 (List.map NodeT.cells x.1.1.Kids))]), (104, .dat 5 (List.map NodeT.cells x.2.1)), (105, .dat 1 (List.map cS x.2.2))])) ()) <| pp (pp (And.intro @G.spec_removeAt.K1.eq_1 <| @G.spec_removeAt.K1.eq_2) ()) <| pp (pp (@weakX [] [(101, 10), (102, 11), (103, 12), (104, 15), (105, 19)] []) <| pp (@weakX [] [(101, 10), (102, 11), (103, 12), (104, 15), (105, 16)] []) ()) <| ()
  exact drv
theorem F.spec_toInt {n : Nat} : ∀ {a_b1 : Bool} {r : Int}, G.spec_toInt n a_b1 = some r → APure Go.Proofs.Tryz.prog 198 [.one (.c (.lit (.bool a_b1)))] (.one (.c (.lit (.int .i64 r)))) := by
  intro a_b1 r h
  refine fun_pure K.spec_toInt (ofK ?_)
  unfold C.spec_toInt
  rcases n with _ | n <;> simp only [G.spec_toInt, reduceCtorEq] at h
  obtain ⟨zc, zg, zk, zu, ze, zj, zt⟩ := pp () <| pp () <| pp () <| pp () <| pp () <| pp () <| ()
  exact drv
theorem F.spec_order {n : Nat} : ∀ {a_a1 : Int} {a_b1 : Int} {r : Int}, G.spec_order n a_a1 a_b1 = some r → APure Go.Proofs.Tryz.prog 166 [.one (.c (.lit (.int .i64 a_a1))), .one (.c (.lit (.int .i64 a_b1)))] (.one (.c (.lit (.int .i64 r)))) := by
  intro a_a1 a_b1 r h
  refine fun_pure K.spec_order (ofK ?_)
  unfold C.spec_order
  rcases n with _ | n <;> simp only [G.spec_order, reduceCtorEq] at h
  obtain ⟨zc, zg, zk, zu, ze, zj, zt⟩ := pp (pp @F.spec_toInt ()) <| pp () <| pp () <| pp () <| pp () <| pp () <| ()
  exact drv
theorem F.spec_orderText {n : Nat} : ∀ {a_a1 : Txt} {a_b1 : Txt} {r : Int}, G.spec_orderText n a_a1 a_b1 = some r → APure Go.Proofs.Tryz.prog 167 [.one (.c (.str a_a1)), .one (.c (.str a_b1))] (.one (.c (.lit (.int .i64 r)))) := by
  intro a_a1 a_b1 r h
  refine fun_pure K.spec_orderText (ofK ?_)
  unfold C.spec_orderText
  rcases n with _ | n <;> simp only [G.spec_orderText, reduceCtorEq] at h
  obtain ⟨zc, zg, zk, zu, ze, zj, zt⟩ := pp (pp @F.spec_toInt ()) <| pp () <| pp () <| pp () <| pp () <| pp () <| ()
  exact drv
theorem F.spec_compare_n : ∀ (n : Nat), ∀ {a_a1 : NodeT} {a_b1 : NodeT} {r : Int}, G.spec_compare n a_a1 a_b1 = some r → APure Go.Proofs.Tryz.prog 116 [.agg [.c (.lit (.int .i64 a_a1.Kind)), .c (.lit (.int .i64 a_a1.Num)), .c (.str a_a1.Text), .c (.sl 1 (List.map cS a_a1.Names)), .c (.sl 5 (List.map NodeT.cells a_a1.Kids))], .agg [.c (.lit (.int .i64 a_b1.Kind)), .c (.lit (.int .i64 a_b1.Num)), .c (.str a_b1.Text), .c (.sl 1 (List.map cS a_b1.Names)), .c (.sl 5 (List.map NodeT.cells a_b1.Kids))]] (.one (.c (.lit (.int .i64 r)))) := by
  intro n
  induction n using Nat.strongRecOn with | _ n ih =>
  intro a_a1 a_b1 r h
  refine fun_pure K.spec_compare (ofK ?_)
  unfold C.spec_compare
  rcases n with _ | n <;> simp only [G.spec_compare, reduceCtorEq] at h
  obtain ⟨zc, zg, zk, zu, ze, zj, zt⟩ := pp (pp ih <| pp @F.spec_order <| pp @F.spec_orderText ()) <| pp () <| pp (pp (@lopX (Int) _ (fun n x => G.spec_compare.L1 n a_a1 a_b1 x) r (fun x => ASt.of [(2, .v true (.one (.ptr 105 0))), (3, .v true (.one (.ptr 106 0))), (5, .v true (.one (.c (.lit (.int .i64 x)))))] [(105, .var [.c (.lit (.int .i64 a_a1.Kind)), .c (.lit (.int .i64 a_a1.Num)), .c (.str a_a1.Text), .c (.sl 1 (List.map cS a_a1.Names)), .c (.sl 5 (List.map NodeT.cells a_a1.Kids))]), (106, .var [.c (.lit (.int .i64 a_b1.Kind)), .c (.lit (.int .i64 a_b1.Num)), .c (.str a_b1.Text), .c (.sl 1 (List.map cS a_b1.Names)), .c (.sl 5 (List.map NodeT.cells a_b1.Kids))])])) ()) <| pp () <| pp (pp (And.intro @G.spec_compare.L1.eq_1 <| @G.spec_compare.L1.eq_2) ()) <| pp (pp (@weakX [] [(105, 10), (106, 11)] []) <| pp (@weakX [] [(105, 105), (106, 106)] []) ()) <| ()
  exact drv
theorem F.spec_compare {n : Nat} : ∀ {a_a1 : NodeT} {a_b1 : NodeT} {r : Int}, G.spec_compare n a_a1 a_b1 = some r → APure Go.Proofs.Tryz.prog 116 [.agg [.c (.lit (.int .i64 a_a1.Kind)), .c (.lit (.int .i64 a_a1.Num)), .c (.str a_a1.Text), .c (.sl 1 (List.map cS a_a1.Names)), .c (.sl 5 (List.map NodeT.cells a_a1.Kids))], .agg [.c (.lit (.int .i64 a_b1.Kind)), .c (.lit (.int .i64 a_b1.Num)), .c (.str a_b1.Text), .c (.sl 1 (List.map cS a_b1.Names)), .c (.sl 5 (List.map NodeT.cells a_b1.Kids))]] (.one (.c (.lit (.int .i64 r)))) := F.spec_compare_n n
theorem F.spec_same {n : Nat} : ∀ {a_a1 : NodeT} {a_b1 : NodeT} {r : Bool}, G.spec_same n a_a1 a_b1 = some r → APure Go.Proofs.Tryz.prog 84 [.agg [.c (.lit (.int .i64 a_a1.Kind)), .c (.lit (.int .i64 a_a1.Num)), .c (.str a_a1.Text), .c (.sl 1 (List.map cS a_a1.Names)), .c (.sl 5 (List.map NodeT.cells a_a1.Kids))], .agg [.c (.lit (.int .i64 a_b1.Kind)), .c (.lit (.int .i64 a_b1.Num)), .c (.str a_b1.Text), .c (.sl 1 (List.map cS a_b1.Names)), .c (.sl 5 (List.map NodeT.cells a_b1.Kids))]] (.one (.c (.lit (.bool r)))) := by
  intro a_a1 a_b1 r h
  refine fun_pure K.spec_same (ofK ?_)
  unfold C.spec_same
  rcases n with _ | n <;> simp only [G.spec_same, reduceCtorEq] at h
  obtain ⟨zc, zg, zk, zu, ze, zj, zt⟩ := pp (pp @F.spec_compare ()) <| pp () <| pp () <| pp () <| pp () <| pp () <| ()
  exact drv
theorem F.spec_apply {n : Nat} : ∀ {a_n1 : NodeT} {a_o1 : OpT} {r : NodeT × Bool}, G.spec_apply n a_n1 a_o1 = some r → APure Go.Proofs.Tryz.prog 148 [.agg [.c (.lit (.int .i64 a_n1.Kind)), .c (.lit (.int .i64 a_n1.Num)), .c (.str a_n1.Text), .c (.sl 1 (List.map cS a_n1.Names)), .c (.sl 5 (List.map NodeT.cells a_n1.Kids))], .agg [.c (.lit (.int .i64 a_o1.Kind)), .c (.sl 1 (List.map cS a_o1.Path)), .c (.sl 1 (List.map cS a_o1.From)), .c (.lit (.int .i64 a_o1.Value.Kind)), .c (.lit (.int .i64 a_o1.Value.Num)), .c (.str a_o1.Value.Text), .c (.sl 1 (List.map cS a_o1.Value.Names)), .c (.sl 5 (List.map NodeT.cells a_o1.Value.Kids))]] (.tup [(true, [.c (.lit (.int .i64 r.1.Kind)), .c (.lit (.int .i64 r.1.Num)), .c (.str r.1.Text), .c (.sl 1 (List.map cS r.1.Names)), .c (.sl 5 (List.map NodeT.cells r.1.Kids))]), (false, [.c (.lit (.bool r.2))])]) := by
  intro a_n1 a_o1 r h
  refine fun_pure K.spec_apply (ofK ?_)
  unfold C.spec_apply
  rcases n with _ | n <;> simp only [G.spec_apply, reduceCtorEq] at h
  obtain ⟨zc, zg, zk, zu, ze, zj, zt⟩ := pp (pp @F.spec_addAt <| pp @F.spec_removeAt <| pp @F.spec_setAt <| pp @F.spec_at <| pp @F.spec_same <| pp @F.spec_begins <| pp @F.spec_copyNode ()) <| pp () <| pp () <| pp (pp (@cutX (List Txt) _ (fun n x => G.spec_apply.K1 n a_n1 a_o1 x) r (fun x => ASt.of [(2, .v true (.one (.ptr 101 0))), (3, .v true (.one (.ptr 102 0))), (4, .v true (.one (.ptr 103 0))), (6, .v true (.one (.c (.sl 1 (List.map cS x)))))] [(101, .var [.c (.lit (.int .i64 a_n1.Kind)), .c (.lit (.int .i64 a_n1.Num)), .c (.str a_n1.Text), .c (.sl 1 (List.map cS a_n1.Names)), .c (.sl 5 (List.map NodeT.cells a_n1.Kids))]), (102, .var [.c (.lit (.int .i64 a_o1.Kind)), .c (.sl 1 (List.map cS a_o1.Path)), .c (.sl 1 (List.map cS a_o1.From)), .c (.lit (.int .i64 a_o1.Value.Kind)), .c (.lit (.int .i64 a_o1.Value.Num)), .c (.str a_o1.Value.Text), .c (.sl 1 (List.map cS a_o1.Value.Names)), .c (.sl 5 (List.map NodeT.cells a_o1.Value.Kids))]), (103, .var [.c (.lit (.int .i64 0)), .c (.lit (.int .i64 0)), .c (.str []), .nsl 1, .nsl 5])])) ()) <| pp (pp (And.intro @G.spec_apply.K1.eq_1 <| @G.spec_apply.K1.eq_2) ()) <| pp (pp (@weakX [] [(101, 10), (102, 11), (103, 12)] []) ()) <| ()
  exact drv
theorem F.spec_count_n : ∀ (n : Nat), ∀ {a_n1 : NodeT} {r : Int}, G.spec_count n a_n1 = some r → APure Go.Proofs.Tryz.prog 83 [.agg [.c (.lit (.int .i64 a_n1.Kind)), .c (.lit (.int .i64 a_n1.Num)), .c (.str a_n1.Text), .c (.sl 1 (List.map cS a_n1.Names)), .c (.sl 5 (List.map NodeT.cells a_n1.Kids))]] (.one (.c (.lit (.int .i64 r)))) := by
  intro n
  induction n using Nat.strongRecOn with | _ n ih =>
  intro a_n1 r h
  refine fun_pure K.spec_count (ofK ?_)
  unfold C.spec_count
  rcases n with _ | n <;> simp only [G.spec_count, reduceCtorEq] at h
  obtain ⟨zc, zg, zk, zu, ze, zj, zt⟩ := pp (pp ih ()) <| pp () <| pp (pp (@lopX (Int × Int) _ (fun n x => G.spec_count.L1 n a_n1 x.1 x.2) r (fun x => ASt.of [(1, .v true (.one (.ptr 103 0))), (3, .v true (.one (.c (.lit (.int .i64 x.1))))), (4, .v true (.one (.c (.lit (.int .i64 x.2)))))] [(103, .var [.c (.lit (.int .i64 a_n1.Kind)), .c (.lit (.int .i64 a_n1.Num)), .c (.str a_n1.Text), .c (.sl 1 (List.map cS a_n1.Names)), .c (.sl 5 (List.map NodeT.cells a_n1.Kids))])])) ()) <| pp () <| pp (pp (And.intro @G.spec_count.L1.eq_1 <| @G.spec_count.L1.eq_2) ()) <| pp (pp (@weakX [] [(103, 10)] []) <| pp (@weakX [] [(103, 103)] []) ()) <| ()
  exact drv
theorem F.spec_count {n : Nat} : ∀ {a_n1 : NodeT} {r : Int}, G.spec_count n a_n1 = some r → APure Go.Proofs.Tryz.prog 83 [.agg [.c (.lit (.int .i64 a_n1.Kind)), .c (.lit (.int .i64 a_n1.Num)), .c (.str a_n1.Text), .c (.sl 1 (List.map cS a_n1.Names)), .c (.sl 5 (List.map NodeT.cells a_n1.Kids))]] (.one (.c (.lit (.int .i64 r)))) := F.spec_count_n n
theorem F.spec_inRange {n : Nat} : ∀ {a_n1 : Int} {a_low1 : Int} {a_high1 : Int} {r : Bool}, G.spec_inRange n a_n1 a_low1 a_high1 = some r → APure Go.Proofs.Tryz.prog 113 [.one (.c (.lit (.int .i64 a_n1))), .one (.c (.lit (.int .i64 a_low1))), .one (.c (.lit (.int .i64 a_high1)))] (.one (.c (.lit (.bool r)))) := by
  intro a_n1 a_low1 a_high1 r h
  refine fun_pure K.spec_inRange (ofK ?_)
  unfold C.spec_inRange
  rcases n with _ | n <;> simp only [G.spec_inRange, reduceCtorEq] at h
  obtain ⟨zc, zg, zk, zu, ze, zj, zt⟩ := pp () <| pp () <| pp () <| pp () <| pp () <| pp () <| ()
  exact drv
theorem F.spec_validText {n : Nat} : ∀ {a_s1 : Txt} {r : Bool}, G.spec_validText n a_s1 = some r → APure Go.Proofs.Tryz.prog 114 [.one (.c (.str a_s1))] (.one (.c (.lit (.bool r)))) := by
  intro a_s1 r h
  refine fun_pure K.spec_validText (ofK ?_)
  unfold C.spec_validText
  rcases n with _ | n <;> simp only [G.spec_validText, reduceCtorEq] at h
  obtain ⟨zc, zg, zk, zu, ze, zj, zt⟩ := pp (pp @F.spec_inRange ()) <| pp () <| pp (pp (@lopX (Int) _ (fun n x => G.spec_validText.L1 n a_s1 x) r (fun x => ASt.of [(0, .v true (.one (.c (.str a_s1)))), (3, .v true (.one (.c (.lit (.int .i64 x)))))] [])) ()) <| pp () <| pp (pp (And.intro @G.spec_validText.L1.eq_1 <| @G.spec_validText.L1.eq_2) ()) <| pp (pp (@weakX [] [] []) ()) <| ()
  exact drv
theorem F.spec_names {n : Nat} : ∀ {a_list1 : List Txt} {r : Bool}, G.spec_names n a_list1 = some r → APure Go.Proofs.Tryz.prog 133 [.one (.c (.sl 1 (List.map cS a_list1)))] (.one (.c (.lit (.bool r)))) := by
  intro a_list1 r h
  refine fun_pure K.spec_names (ofK ?_)
  unfold C.spec_names
  rcases n with _ | n <;> simp only [G.spec_names, reduceCtorEq] at h
  obtain ⟨zc, zg, zk, zu, ze, zj, zt⟩ := pp (pp @F.spec_validText ()) <| pp () <| pp (pp (@lopX (Int) _ (fun n x => G.spec_names.L1 n a_list1 x) r (fun x => ASt.of [(0, .v true (.one (.c (.sl 1 (List.map cS a_list1))))), (3, .v true (.one (.c (.lit (.int .i64 x)))))] [])) ()) <| pp () <| pp (pp (And.intro @G.spec_names.L1.eq_1 <| @G.spec_names.L1.eq_2) ()) <| pp (pp (@weakX [] [] []) ()) <| ()
  exact drv
theorem F.scc_spec_kids : ∀ (n : Nat), (∀ {a_n1 : NodeT} {a_depth1 : Int} {r : Bool}, G.spec_kids n a_n1 a_depth1 = some r → APure Go.Proofs.Tryz.prog 132 [.agg [.c (.lit (.int .i64 a_n1.Kind)), .c (.lit (.int .i64 a_n1.Num)), .c (.str a_n1.Text), .c (.sl 1 (List.map cS a_n1.Names)), .c (.sl 5 (List.map NodeT.cells a_n1.Kids))], .one (.c (.lit (.int .i64 a_depth1)))] (.one (.c (.lit (.bool r))))) ∧ (∀ {a_n1 : NodeT} {a_depth1 : Int} {r : Bool}, G.spec_shape n a_n1 a_depth1 = some r → APure Go.Proofs.Tryz.prog 82 [.agg [.c (.lit (.int .i64 a_n1.Kind)), .c (.lit (.int .i64 a_n1.Num)), .c (.str a_n1.Text), .c (.sl 1 (List.map cS a_n1.Names)), .c (.sl 5 (List.map NodeT.cells a_n1.Kids))], .one (.c (.lit (.int .i64 a_depth1)))] (.one (.c (.lit (.bool r))))) := by
  intro n
  induction n using Nat.strongRecOn with | _ n ih =>
  refine ⟨?_, ?_⟩
  · intro a_n1 a_depth1 r h
    refine fun_pure K.spec_kids (ofK ?_)
    unfold C.spec_kids
    rcases n with _ | n <;> simp only [G.spec_kids, reduceCtorEq] at h
    obtain ⟨zc, zg, zk, zu, ze, zj, zt⟩ := pp (pp ((ihR ih)) ()) <| pp () <| pp (pp (@lopX (Int) _ (fun n x => G.spec_kids.L1 n a_n1 a_depth1 x) r (fun x => ASt.of [(1, .v true (.one (.c (.lit (.int .i64 a_depth1))))), (2, .v true (.one (.ptr 103 0))), (5, .v true (.one (.c (.lit (.int .i64 x)))))] [(103, .var [.c (.lit (.int .i64 a_n1.Kind)), .c (.lit (.int .i64 a_n1.Num)), .c (.str a_n1.Text), .c (.sl 1 (List.map cS a_n1.Names)), .c (.sl 5 (List.map NodeT.cells a_n1.Kids))])])) ()) <| pp () <| pp (pp (And.intro @G.spec_kids.L1.eq_1 <| @G.spec_kids.L1.eq_2) ()) <| pp (pp (@weakX [] [(103, 10)] []) <| pp (@weakX [] [(103, 103)] []) ()) <| ()
    exact drv
  · intro a_n1 a_depth1 r h
    refine fun_pure K.spec_shape (ofK ?_)
    unfold C.spec_shape
    rcases n with _ | n <;> simp only [G.spec_shape, reduceCtorEq] at h
    obtain ⟨zc, zg, zk, zu, ze, zj, zt⟩ := pp (pp ((ihL ih)) <| pp @F.spec_inRange <| pp @F.spec_validText <| pp @F.spec_names ()) <| pp () <| pp () <| pp (pp (@cutX (Unit) _ (fun n x => G.spec_shape.K1 n a_n1 a_depth1) r (fun x => ASt.of [(1, .v true (.one (.c (.lit (.int .i64 a_depth1))))), (2, .v true (.one (.ptr 101 0))), (54, .v true (.one (.c (.lit (.bool false)))))] [(101, .var [.c (.lit (.int .i64 a_n1.Kind)), .c (.lit (.int .i64 a_n1.Num)), .c (.str a_n1.Text), .c (.sl 1 (List.map cS a_n1.Names)), .c (.sl 5 (List.map NodeT.cells a_n1.Kids))])])) ()) <| pp (pp (And.intro @G.spec_shape.K1.eq_1 <| @G.spec_shape.K1.eq_2) ()) <| pp (pp (@weakX [] [(101, 10)] []) ()) <| ()
    exact drv
theorem F.spec_shape {n : Nat} : ∀ {a_n1 : NodeT} {a_depth1 : Int} {r : Bool}, G.spec_shape n a_n1 a_depth1 = some r → APure Go.Proofs.Tryz.prog 82 [.agg [.c (.lit (.int .i64 a_n1.Kind)), .c (.lit (.int .i64 a_n1.Num)), .c (.str a_n1.Text), .c (.sl 1 (List.map cS a_n1.Names)), .c (.sl 5 (List.map NodeT.cells a_n1.Kids))], .one (.c (.lit (.int .i64 a_depth1)))] (.one (.c (.lit (.bool r)))) := (F.scc_spec_kids n).2
theorem F.spec_validNode {n : Nat} : ∀ {a_n1 : NodeT} {r : Bool}, G.spec_validNode n a_n1 = some r → APure Go.Proofs.Tryz.prog 40 [.agg [.c (.lit (.int .i64 a_n1.Kind)), .c (.lit (.int .i64 a_n1.Num)), .c (.str a_n1.Text), .c (.sl 1 (List.map cS a_n1.Names)), .c (.sl 5 (List.map NodeT.cells a_n1.Kids))]] (.one (.c (.lit (.bool r)))) := by
  intro a_n1 r h
  refine fun_pure K.spec_validNode (ofK ?_)
  unfold C.spec_validNode
  rcases n with _ | n <;> simp only [G.spec_validNode, reduceCtorEq] at h
  obtain ⟨zc, zg, zk, zu, ze, zj, zt⟩ := pp (pp @F.spec_shape <| pp @F.spec_count ()) <| pp () <| pp () <| pp () <| pp () <| pp () <| ()
  exact drv
theorem F.spec_checked {n : Nat} : ∀ {a_n1 : NodeT} {a_ok1 : Bool} {r : NodeT × Bool}, G.spec_checked n a_n1 a_ok1 = some r → APure Go.Proofs.Tryz.prog 49 [.agg [.c (.lit (.int .i64 a_n1.Kind)), .c (.lit (.int .i64 a_n1.Num)), .c (.str a_n1.Text), .c (.sl 1 (List.map cS a_n1.Names)), .c (.sl 5 (List.map NodeT.cells a_n1.Kids))], .one (.c (.lit (.bool a_ok1)))] (.tup [(true, [.c (.lit (.int .i64 r.1.Kind)), .c (.lit (.int .i64 r.1.Num)), .c (.str r.1.Text), .c (.sl 1 (List.map cS r.1.Names)), .c (.sl 5 (List.map NodeT.cells r.1.Kids))]), (false, [.c (.lit (.bool r.2))])]) := by
  intro a_n1 a_ok1 r h
  refine fun_pure K.spec_checked (ofK ?_)
  unfold C.spec_checked
  rcases n with _ | n <;> simp only [G.spec_checked, reduceCtorEq] at h
  obtain ⟨zc, zg, zk, zu, ze, zj, zt⟩ := pp (pp @F.spec_validNode ()) <| pp () <| pp () <| pp () <| pp () <| pp () <| ()
  exact drv
theorem F.spec_checkedOp {n : Nat} : ∀ {a_n1 : NodeT} {a_o1 : OpT} {r : NodeT × Bool}, G.spec_checkedOp n a_n1 a_o1 = some r → APure Go.Proofs.Tryz.prog 100 [.agg [.c (.lit (.int .i64 a_n1.Kind)), .c (.lit (.int .i64 a_n1.Num)), .c (.str a_n1.Text), .c (.sl 1 (List.map cS a_n1.Names)), .c (.sl 5 (List.map NodeT.cells a_n1.Kids))], .agg [.c (.lit (.int .i64 a_o1.Kind)), .c (.sl 1 (List.map cS a_o1.Path)), .c (.sl 1 (List.map cS a_o1.From)), .c (.lit (.int .i64 a_o1.Value.Kind)), .c (.lit (.int .i64 a_o1.Value.Num)), .c (.str a_o1.Value.Text), .c (.sl 1 (List.map cS a_o1.Value.Names)), .c (.sl 5 (List.map NodeT.cells a_o1.Value.Kids))]] (.tup [(true, [.c (.lit (.int .i64 r.1.Kind)), .c (.lit (.int .i64 r.1.Num)), .c (.str r.1.Text), .c (.sl 1 (List.map cS r.1.Names)), .c (.sl 5 (List.map NodeT.cells r.1.Kids))]), (false, [.c (.lit (.bool r.2))])]) := by
  intro a_n1 a_o1 r h
  refine fun_pure K.spec_checkedOp (ofK ?_)
  unfold C.spec_checkedOp
  rcases n with _ | n <;> simp only [G.spec_checkedOp, reduceCtorEq] at h
  obtain ⟨zc, zg, zk, zu, ze, zj, zt⟩ := pp (pp @F.spec_apply <| pp @F.spec_checked <| pp @F.spec_copyNode ()) <| pp () <| pp () <| pp () <| pp () <| pp () <| ()
  exact drv
theorem F.spec_validPath {n : Nat} : ∀ {a_path1 : List Txt} {r : Bool}, G.spec_validPath n a_path1 = some r → APure Go.Proofs.Tryz.prog 68 [.one (.c (.sl 1 (List.map cS a_path1)))] (.one (.c (.lit (.bool r)))) := by
  intro a_path1 r h
  refine fun_pure K.spec_validPath (ofK ?_)
  unfold C.spec_validPath
  rcases n with _ | n <;> simp only [G.spec_validPath, reduceCtorEq] at h
  obtain ⟨zc, zg, zk, zu, ze, zj, zt⟩ := pp (pp @F.spec_validText ()) <| pp () <| pp (pp (@lopX (Int) _ (fun n x => G.spec_validPath.L1 n a_path1 x) r (fun x => ASt.of [(0, .v true (.one (.c (.sl 1 (List.map cS a_path1))))), (3, .v true (.one (.c (.lit (.int .i64 x)))))] [])) ()) <| pp () <| pp (pp (And.intro @G.spec_validPath.L1.eq_1 <| @G.spec_validPath.L1.eq_2) ()) <| pp (pp (@weakX [] [] []) ()) <| ()
  exact drv
theorem F.spec_validOp {n : Nat} : ∀ {a_o1 : OpT} {r : Bool}, G.spec_validOp n a_o1 = some r → APure Go.Proofs.Tryz.prog 99 [.agg [.c (.lit (.int .i64 a_o1.Kind)), .c (.sl 1 (List.map cS a_o1.Path)), .c (.sl 1 (List.map cS a_o1.From)), .c (.lit (.int .i64 a_o1.Value.Kind)), .c (.lit (.int .i64 a_o1.Value.Num)), .c (.str a_o1.Value.Text), .c (.sl 1 (List.map cS a_o1.Value.Names)), .c (.sl 5 (List.map NodeT.cells a_o1.Value.Kids))]] (.one (.c (.lit (.bool r)))) := by
  intro a_o1 r h
  refine fun_pure K.spec_validOp (ofK ?_)
  unfold C.spec_validOp
  rcases n with _ | n <;> simp only [G.spec_validOp, reduceCtorEq] at h
  obtain ⟨zc, zg, zk, zu, ze, zj, zt⟩ := pp (pp @F.spec_inRange <| pp @F.spec_validPath <| pp @F.spec_validNode ()) <| pp () <| pp () <| pp () <| pp () <| pp () <| ()
  exact drv
theorem F.spec_validPatch {n : Nat} : ∀ {a_list1 : List OpT} {r : Bool}, G.spec_validPatch n a_list1 = some r → APure Go.Proofs.Tryz.prog 54 [.one (.c (.sl 8 (List.map OpT.cells a_list1)))] (.one (.c (.lit (.bool r)))) := by
  intro a_list1 r h
  refine fun_pure K.spec_validPatch (ofK ?_)
  unfold C.spec_validPatch
  rcases n with _ | n <;> simp only [G.spec_validPatch, reduceCtorEq] at h
  obtain ⟨zc, zg, zk, zu, ze, zj, zt⟩ := pp (pp @F.spec_validOp ()) <| pp () <| pp (pp (@lopX (Int) _ (fun n x => G.spec_validPatch.L1 n a_list1 x) r (fun x => ASt.of [(0, .v true (.one (.c (.sl 8 (List.map OpT.cells a_list1))))), (3, .v true (.one (.c (.lit (.int .i64 x)))))] [])) ()) <| pp () <| pp (pp (And.intro @G.spec_validPatch.L1.eq_1 <| @G.spec_validPatch.L1.eq_2) ()) <| pp (pp (@weakX [] [] []) ()) <| ()
  exact drv
theorem F.spec_ApplyPatch {n : Nat} : ∀ {a_n1 : NodeT} {a_list1 : List OpT} {r : NodeT × Bool}, G.spec_ApplyPatch n a_n1 a_list1 = some r → APure Go.Proofs.Tryz.prog 55 [.agg [.c (.lit (.int .i64 a_n1.Kind)), .c (.lit (.int .i64 a_n1.Num)), .c (.str a_n1.Text), .c (.sl 1 (List.map cS a_n1.Names)), .c (.sl 5 (List.map NodeT.cells a_n1.Kids))], .one (.c (.sl 8 (List.map OpT.cells a_list1)))] (.tup [(true, [.c (.lit (.int .i64 r.1.Kind)), .c (.lit (.int .i64 r.1.Num)), .c (.str r.1.Text), .c (.sl 1 (List.map cS r.1.Names)), .c (.sl 5 (List.map NodeT.cells r.1.Kids))]), (false, [.c (.lit (.bool r.2))])]) := by
  intro a_n1 a_list1 r h
  refine fun_pure K.spec_ApplyPatch (ofK ?_)
  unfold C.spec_ApplyPatch
  rcases n with _ | n <;> simp only [G.spec_ApplyPatch, reduceCtorEq] at h
  obtain ⟨zc, zg, zk, zu, ze, zj, zt⟩ := pp (pp @F.spec_validNode <| pp @F.spec_validPatch <| pp @F.spec_copyNode <| pp @F.spec_checkedOp ()) <| pp () <| pp (pp (@lopX (Int × Int × Int × Txt × List Txt × List NodeT) _ (fun n x => G.spec_ApplyPatch.L1 n a_list1 x.1 x.2.1 x.2.2.1 x.2.2.2.1 x.2.2.2.2.1 x.2.2.2.2.2) r (fun x => ASt.of [(1, .v true (.one (.c (.sl 8 (List.map OpT.cells a_list1))))), (4, .v true (.one (.ptr 105 0))), (6, .v true (.one (.ptr 106 0))), (7, .v true (.one (.c (.lit (.int .i64 x.1)))))] [(105, .var [.c (.lit (.int .i64 0)), .c (.lit (.int .i64 0)), .c (.str []), .nsl 1, .nsl 5]), (106, .var [.c (.lit (.int .i64 x.2.1)), .c (.lit (.int .i64 x.2.2.1)), .c (.str x.2.2.2.1), .c (.sl 1 (List.map cS x.2.2.2.2.1)), .c (.sl 5 (List.map NodeT.cells x.2.2.2.2.2))])])) ()) <| pp () <| pp (pp (And.intro @G.spec_ApplyPatch.L1.eq_1 <| @G.spec_ApplyPatch.L1.eq_2) ()) <| pp (pp (@weakX [] [(105, 11), (106, 12)] []) <| pp (@weakX [] [(105, 105), (106, 106)] []) ()) <| ()
  exact drv
theorem F.spec_op {n : Nat} : ∀ {a_kind1 : Int} {a_path1 : List Txt} {a_value1 : NodeT} {r : OpT}, G.spec_op n a_kind1 a_path1 a_value1 = some r → APure Go.Proofs.Tryz.prog 87 [.one (.c (.lit (.int .i64 a_kind1))), .one (.c (.sl 1 (List.map cS a_path1))), .agg [.c (.lit (.int .i64 a_value1.Kind)), .c (.lit (.int .i64 a_value1.Num)), .c (.str a_value1.Text), .c (.sl 1 (List.map cS a_value1.Names)), .c (.sl 5 (List.map NodeT.cells a_value1.Kids))]] (.agg [.c (.lit (.int .i64 r.Kind)), .c (.sl 1 (List.map cS r.Path)), .c (.sl 1 (List.map cS r.From)), .c (.lit (.int .i64 r.Value.Kind)), .c (.lit (.int .i64 r.Value.Num)), .c (.str r.Value.Text), .c (.sl 1 (List.map cS r.Value.Names)), .c (.sl 5 (List.map NodeT.cells r.Value.Kids))]) := by
  intro a_kind1 a_path1 a_value1 r h
  refine fun_pure K.spec_op (ofK ?_)
  unfold C.spec_op
  rcases n with _ | n <;> simp only [G.spec_op, reduceCtorEq] at h
  obtain ⟨zc, zg, zk, zu, ze, zj, zt⟩ := pp (pp @F.spec_copyNode ()) <| pp () <| pp () <| pp () <| pp () <| pp () <| ()
  exact drv
theorem F.spec_under {n : Nat} : ∀ {a_step1 : Txt} {a_list1 : List OpT} {r : List OpT}, G.spec_under n a_step1 a_list1 = some r → APure Go.Proofs.Tryz.prog 134 [.one (.c (.str a_step1)), .one (.c (.sl 8 (List.map OpT.cells a_list1)))] (.one (.c (.sl 8 (List.map OpT.cells r)))) := by
  intro a_step1 a_list1 r h
  refine fun_pure K.spec_under (ofK ?_)
  unfold C.spec_under
  rcases n with _ | n <;> simp only [G.spec_under, reduceCtorEq] at h
  obtain ⟨zc, zg, zk, zu, ze, zj, zt⟩ := pp () <| pp () <| pp (pp (@lopX (Int × List OpT) _ (fun n x => G.spec_under.L1 n a_step1 a_list1 x.1 x.2) r (fun x => ASt.of [(0, .v true (.one (.c (.str a_step1)))), (1, .v true (.one (.c (.sl 8 (List.map OpT.cells a_list1))))), (5, .v true (.one (.own 103 x.2.length 8))), (6, .v true (.one (.c (.lit (.int .i64 x.1)))))] [(103, .dat 8 (List.map OpT.cells x.2))])) ()) <| pp () <| pp (pp (And.intro @G.spec_under.L1.eq_1 <| @G.spec_under.L1.eq_2) ()) <| pp (pp (@weakX [] [(103, 10)] []) <| pp (@weakX [] [(103, 15)] []) ()) <| ()
  exact drv
theorem F.scc_spec_diff : ∀ (n : Nat), (∀ {a_a1 : NodeT} {a_b1 : NodeT} {r : List OpT}, G.spec_diff n a_a1 a_b1 = some r → APure Go.Proofs.Tryz.prog 41 [.agg [.c (.lit (.int .i64 a_a1.Kind)), .c (.lit (.int .i64 a_a1.Num)), .c (.str a_a1.Text), .c (.sl 1 (List.map cS a_a1.Names)), .c (.sl 5 (List.map NodeT.cells a_a1.Kids))], .agg [.c (.lit (.int .i64 a_b1.Kind)), .c (.lit (.int .i64 a_b1.Num)), .c (.str a_b1.Text), .c (.sl 1 (List.map cS a_b1.Names)), .c (.sl 5 (List.map NodeT.cells a_b1.Kids))]] (.one (.c (.sl 8 (List.map OpT.cells r))))) ∧ (∀ {a_a1 : NodeT} {a_b1 : NodeT} {r : List OpT}, G.spec_diffLists n a_a1 a_b1 = some r → APure Go.Proofs.Tryz.prog 86 [.agg [.c (.lit (.int .i64 a_a1.Kind)), .c (.lit (.int .i64 a_a1.Num)), .c (.str a_a1.Text), .c (.sl 1 (List.map cS a_a1.Names)), .c (.sl 5 (List.map NodeT.cells a_a1.Kids))], .agg [.c (.lit (.int .i64 a_b1.Kind)), .c (.lit (.int .i64 a_b1.Num)), .c (.str a_b1.Text), .c (.sl 1 (List.map cS a_b1.Names)), .c (.sl 5 (List.map NodeT.cells a_b1.Kids))]] (.one (.c (.sl 8 (List.map OpT.cells r))))) ∧ (∀ {a_a1 : NodeT} {a_b1 : NodeT} {r : List OpT}, G.spec_diffMaps n a_a1 a_b1 = some r → APure Go.Proofs.Tryz.prog 85 [.agg [.c (.lit (.int .i64 a_a1.Kind)), .c (.lit (.int .i64 a_a1.Num)), .c (.str a_a1.Text), .c (.sl 1 (List.map cS a_a1.Names)), .c (.sl 5 (List.map NodeT.cells a_a1.Kids))], .agg [.c (.lit (.int .i64 a_b1.Kind)), .c (.lit (.int .i64 a_b1.Num)), .c (.str a_b1.Text), .c (.sl 1 (List.map cS a_b1.Names)), .c (.sl 5 (List.map NodeT.cells a_b1.Kids))]] (.one (.c (.sl 8 (List.map OpT.cells r))))) := by
  intro n
  induction n using Nat.strongRecOn with | _ n ih =>
  refine ⟨?_, ?_, ?_⟩
  · intro a_a1 a_b1 r h
    refine fun_pure K.spec_diff (ofK ?_)
    unfold C.spec_diff
    rcases n with _ | n <;> simp only [G.spec_diff, reduceCtorEq] at h
    obtain ⟨zc, zg, zk, zu, ze, zj, zt⟩ := pp (pp ((ihR (ihR ih))) <| pp ((ihL (ihR ih))) <| pp @F.spec_same <| pp @F.spec_op ()) <| pp () <| pp () <| pp () <| pp () <| pp () <| ()
    exact drv
  · intro a_a1 a_b1 r h
    refine fun_pure K.spec_diffLists (ofK ?_)
    unfold C.spec_diffLists
    rcases n with _ | n <;> simp only [G.spec_diffLists, reduceCtorEq] at h
    obtain ⟨zc, zg, zk, zu, ze, zj, zt⟩ := pp (pp ((ihL ih)) <| pp @F.spec_decimal <| pp @F.spec_under <| pp @F.spec_op ()) <| pp () <| pp (pp (@lopX (Int × List OpT) _ (fun n x => G.spec_diffLists.L1 n a_a1 a_b1 x.1 x.2) r (fun x => ASt.of [(2, .v true (.one (.ptr 107 0))), (3, .v true (.one (.ptr 108 0))), (5, .v true (.one (.own 109 x.2.length 8))), (6, .v true (.one (.c (.lit (.int .i64 (if ((a_b1.Kids.length : Nat) : Int) < ((a_a1.Kids.length : Nat) : Int) then ((a_b1.Kids.length : Nat) : Int) else ((a_a1.Kids.length : Nat) : Int))))))), (7, .v true (.one (.c (.lit (.int .i64 x.1)))))] [(107, .var [.c (.lit (.int .i64 a_a1.Kind)), .c (.lit (.int .i64 a_a1.Num)), .c (.str a_a1.Text), .c (.sl 1 (List.map cS a_a1.Names)), .c (.sl 5 (List.map NodeT.cells a_a1.Kids))]), (108, .var [.c (.lit (.int .i64 a_b1.Kind)), .c (.lit (.int .i64 a_b1.Num)), .c (.str a_b1.Text), .c (.sl 1 (List.map cS a_b1.Names)), .c (.sl 5 (List.map NodeT.cells a_b1.Kids))]), (109, .dat 8 (List.map OpT.cells x.2))])) <| pp (@lopX (Int × List OpT) _ (fun n x => G.spec_diffLists.L2 n a_a1 a_b1 x.1 x.2) r (fun x => ASt.of [(3, .v true (.one (.ptr 114 0))), (5, .v true (.one (.own 115 x.2.length 8))), (6, .v true (.one (.c (.lit (.int .i64 (if ((a_b1.Kids.length : Nat) : Int) < ((a_a1.Kids.length : Nat) : Int) then ((a_b1.Kids.length : Nat) : Int) else ((a_a1.Kids.length : Nat) : Int))))))), (8, .v true (.one (.c (.lit (.int .i64 x.1)))))] [(114, .var [.c (.lit (.int .i64 a_b1.Kind)), .c (.lit (.int .i64 a_b1.Num)), .c (.str a_b1.Text), .c (.sl 1 (List.map cS a_b1.Names)), .c (.sl 5 (List.map NodeT.cells a_b1.Kids))]), (115, .dat 8 (List.map OpT.cells x.2))])) <| pp (@lopX (Int × List OpT) _ (fun n x => G.spec_diffLists.L3 n a_b1 x.1 x.2) r (fun x => ASt.of [(3, .v true (.one (.ptr 120 0))), (5, .v true (.one (.own 121 x.2.length 8))), (9, .v true (.one (.c (.lit (.int .i64 x.1)))))] [(120, .var [.c (.lit (.int .i64 a_b1.Kind)), .c (.lit (.int .i64 a_b1.Num)), .c (.str a_b1.Text), .c (.sl 1 (List.map cS a_b1.Names)), .c (.sl 5 (List.map NodeT.cells a_b1.Kids))]), (121, .dat 8 (List.map OpT.cells x.2))])) ()) <| pp () <| pp (pp (And.intro @G.spec_diffLists.L1.eq_1 <| And.intro @G.spec_diffLists.L1.eq_2 <| And.intro @G.spec_diffLists.L2.eq_1 <| And.intro @G.spec_diffLists.L2.eq_2 <| And.intro @G.spec_diffLists.L3.eq_1 <| @G.spec_diffLists.L3.eq_2) ()) <| pp (pp (@weakX [] [(107, 10), (108, 11), (109, 12)] []) <| pp (@weakX [] [(107, 107), (108, 108), (109, 13)] []) <| pp (@weakX [] [(114, 108), (115, 109)] []) <| pp (@weakX [] [(114, 114), (115, 16)] []) <| pp (@weakX [] [(120, 114), (121, 115)] []) <| pp (@weakX [] [(120, 120), (121, 19)] []) ()) <| ()
    exact drv
  · intro a_a1 a_b1 r h
    refine fun_pure K.spec_diffMaps (ofK ?_)
    unfold C.spec_diffMaps
    rcases n with _ | n <;> simp only [G.spec_diffMaps, reduceCtorEq] at h
    obtain ⟨zc, zg, zk, zu, ze, zj, zt⟩ := pp (pp ((ihL ih)) <| pp @F.spec_place <| pp @F.spec_op <| pp @F.spec_under ()) <| pp () <| pp (pp (@lopX (Int × List OpT) _ (fun n x => G.spec_diffMaps.L1 n a_a1 a_b1 x.1 x.2) r (fun x => ASt.of [(2, .v true (.one (.ptr 107 0))), (3, .v true (.one (.ptr 108 0))), (5, .v true (.one (.own 109 x.2.length 8))), (6, .v true (.one (.c (.lit (.int .i64 x.1)))))] [(107, .var [.c (.lit (.int .i64 a_a1.Kind)), .c (.lit (.int .i64 a_a1.Num)), .c (.str a_a1.Text), .c (.sl 1 (List.map cS a_a1.Names)), .c (.sl 5 (List.map NodeT.cells a_a1.Kids))]), (108, .var [.c (.lit (.int .i64 a_b1.Kind)), .c (.lit (.int .i64 a_b1.Num)), .c (.str a_b1.Text), .c (.sl 1 (List.map cS a_b1.Names)), .c (.sl 5 (List.map NodeT.cells a_b1.Kids))]), (109, .dat 8 (List.map OpT.cells x.2))])) <| pp (@lopX (Int × List OpT) _ (fun n x => G.spec_diffMaps.L2 n a_a1 a_b1 x.1 x.2) r (fun x => ASt.of [(2, .v true (.one (.ptr 116 0))), (3, .v true (.one (.ptr 117 0))), (5, .v true (.one (.own 118 x.2.length 8))), (8, .v true (.one (.c (.lit (.int .i64 x.1)))))] [(116, .var [.c (.lit (.int .i64 a_a1.Kind)), .c (.lit (.int .i64 a_a1.Num)), .c (.str a_a1.Text), .c (.sl 1 (List.map cS a_a1.Names)), .c (.sl 5 (List.map NodeT.cells a_a1.Kids))]), (117, .var [.c (.lit (.int .i64 a_b1.Kind)), .c (.lit (.int .i64 a_b1.Num)), .c (.str a_b1.Text), .c (.sl 1 (List.map cS a_b1.Names)), .c (.sl 5 (List.map NodeT.cells a_b1.Kids))]), (118, .dat 8 (List.map OpT.cells x.2))])) ()) <| pp () <| pp (pp (And.intro @G.spec_diffMaps.L1.eq_1 <| And.intro @G.spec_diffMaps.L1.eq_2 <| And.intro @G.spec_diffMaps.L2.eq_1 <| @G.spec_diffMaps.L2.eq_2) ()) <| pp (pp (@weakX [] [(107, 10), (108, 11), (109, 12)] []) <| pp (@weakX [] [(107, 107), (108, 108), (109, 15)] []) <| pp (@weakX [] [(107, 107), (108, 108), (109, 16)] []) <| pp (@weakX [] [(116, 107), (117, 108), (118, 109)] []) <| pp (@weakX [] [(116, 116), (117, 117), (118, 19)] []) <| pp (@weakX [] [(116, 116), (117, 117), (118, 118)] []) ()) <| ()
    exact drv
theorem F.spec_diff {n : Nat} : ∀ {a_a1 : NodeT} {a_b1 : NodeT} {r : List OpT}, G.spec_diff n a_a1 a_b1 = some r → APure Go.Proofs.Tryz.prog 41 [.agg [.c (.lit (.int .i64 a_a1.Kind)), .c (.lit (.int .i64 a_a1.Num)), .c (.str a_a1.Text), .c (.sl 1 (List.map cS a_a1.Names)), .c (.sl 5 (List.map NodeT.cells a_a1.Kids))], .agg [.c (.lit (.int .i64 a_b1.Kind)), .c (.lit (.int .i64 a_b1.Num)), .c (.str a_b1.Text), .c (.sl 1 (List.map cS a_b1.Names)), .c (.sl 5 (List.map NodeT.cells a_b1.Kids))]] (.one (.c (.sl 8 (List.map OpT.cells r)))) := (F.scc_spec_diff n).1
theorem F.spec_DiffNodes {n : Nat} : ∀ {a_a1 : NodeT} {a_b1 : NodeT} {r : List OpT × Bool}, G.spec_DiffNodes n a_a1 a_b1 = some r → APure Go.Proofs.Tryz.prog 23 [.agg [.c (.lit (.int .i64 a_a1.Kind)), .c (.lit (.int .i64 a_a1.Num)), .c (.str a_a1.Text), .c (.sl 1 (List.map cS a_a1.Names)), .c (.sl 5 (List.map NodeT.cells a_a1.Kids))], .agg [.c (.lit (.int .i64 a_b1.Kind)), .c (.lit (.int .i64 a_b1.Num)), .c (.str a_b1.Text), .c (.sl 1 (List.map cS a_b1.Names)), .c (.sl 5 (List.map NodeT.cells a_b1.Kids))]] (.tup [(false, [.c (.sl 8 (List.map OpT.cells r.1))]), (false, [.c (.lit (.bool r.2))])]) := by
  intro a_a1 a_b1 r h
  refine fun_pure K.spec_DiffNodes (ofK ?_)
  unfold C.spec_DiffNodes
  rcases n with _ | n <;> simp only [G.spec_DiffNodes, reduceCtorEq] at h
  obtain ⟨zc, zg, zk, zu, ze, zj, zt⟩ := pp (pp @F.spec_validNode <| pp @F.spec_diff <| pp @F.spec_validPatch <| pp @F.spec_ApplyPatch ()) <| pp () <| pp () <| pp () <| pp () <| pp () <| ()
  exact drv
theorem F.spec_reader_pick {n : Nat} : ∀ {p_r1 : ReaderT} {a_n1 : Int} {r : Int × ReaderT}, G.spec_reader_pick n p_r1 a_n1 = some r → ACalls Go.Proofs.Tryz.prog 43 [.one (.ptr 0 0), .one (.c (.lit (.int .i64 a_n1)))] [.var [.c (.sl 1 (List.map cU p_r1.b)), .c (.lit (.int .i64 p_r1.p))]] (fun r1 b1 => r1 = .one (.c (.lit (.int .i64 r.1))) ∧ b1 = [.var [.c (.sl 1 (List.map cU r.2.b)), .c (.lit (.int .i64 r.2.p))]]) := by
  intro p_r1 a_n1 r h
  refine fun_sound K.spec_reader_pick (ofK ?_)
  unfold C.spec_reader_pick
  rcases n with _ | n <;> simp only [G.spec_reader_pick, reduceCtorEq] at h
  obtain ⟨zc, zg, zk, zu, ze, zj, zt⟩ := pp () <| pp () <| pp () <| pp () <| pp () <| pp () <| (pp (@retX [] [(0, 0)] []) ())
  exact drv
theorem F.spec_reader_one {n : Nat} : ∀ {p_r1 : ReaderT} {a_list1 : List Int} {r : Int × ReaderT}, G.spec_reader_one n p_r1 a_list1 = some r → ACalls Go.Proofs.Tryz.prog 102 [.one (.ptr 0 0), .one (.c (.sl 1 (List.map cI a_list1)))] [.var [.c (.sl 1 (List.map cU p_r1.b)), .c (.lit (.int .i64 p_r1.p))]] (fun r1 b1 => r1 = .one (.c (.lit (.int .i64 r.1))) ∧ b1 = [.var [.c (.sl 1 (List.map cU r.2.b)), .c (.lit (.int .i64 r.2.p))]]) := by
  intro p_r1 a_list1 r h
  refine fun_sound K.spec_reader_one (ofK ?_)
  unfold C.spec_reader_one
  rcases n with _ | n <;> simp only [G.spec_reader_one, reduceCtorEq] at h
  obtain ⟨zc, zg, zk, zu, ze, zj, zt⟩ := pp () <| pp (pp (pp @F.spec_reader_pick (@cG [0] [])) ()) <| pp () <| pp () <| pp () <| pp () <| (pp (@retX [] [(0, 0)] []) ())
  exact drv
theorem F.spec_reader_of {n : Nat} : ∀ {p_r1 : ReaderT} {a_list1 : List Txt} {r : Txt × ReaderT}, G.spec_reader_of n p_r1 a_list1 = some r → ACalls Go.Proofs.Tryz.prog 125 [.one (.ptr 0 0), .one (.c (.sl 1 (List.map cS a_list1)))] [.var [.c (.sl 1 (List.map cU p_r1.b)), .c (.lit (.int .i64 p_r1.p))]] (fun r1 b1 => r1 = .one (.c (.str r.1)) ∧ b1 = [.var [.c (.sl 1 (List.map cU r.2.b)), .c (.lit (.int .i64 r.2.p))]]) := by
  intro p_r1 a_list1 r h
  refine fun_sound K.spec_reader_of (ofK ?_)
  unfold C.spec_reader_of
  rcases n with _ | n <;> simp only [G.spec_reader_of, reduceCtorEq] at h
  obtain ⟨zc, zg, zk, zu, ze, zj, zt⟩ := pp () <| pp (pp (pp @F.spec_reader_pick (@cG [0] [])) ()) <| pp () <| pp () <| pp () <| pp () <| (pp (@retX [] [(0, 0)] []) ())
  exact drv
theorem F.spec_someText {n : Nat} : ∀ {p_r1 : ReaderT} {r : Txt × ReaderT}, G.spec_someText n p_r1 = some r → ACalls Go.Proofs.Tryz.prog 175 [.one (.ptr 0 0)] [.var [.c (.sl 1 (List.map cU p_r1.b)), .c (.lit (.int .i64 p_r1.p))]] (fun r1 b1 => r1 = .one (.c (.str r.1)) ∧ b1 = [.var [.c (.sl 1 (List.map cU r.2.b)), .c (.lit (.int .i64 r.2.p))]]) := by
  intro p_r1 r h
  refine fun_sound K.spec_someText (ofK ?_)
  unfold C.spec_someText
  rcases n with _ | n <;> simp only [G.spec_someText, reduceCtorEq] at h
  obtain ⟨zc, zg, zk, zu, ze, zj, zt⟩ := pp () <| pp (pp (pp @F.spec_reader_of (@cH [0] [])) ()) <| pp () <| pp () <| pp () <| pp () <| (pp (@retX [] [(0, 0)] []) ())
  exact drv
theorem F.spec_someName {n : Nat} : ∀ {p_r1 : ReaderT} {r : Txt × ReaderT}, G.spec_someName n p_r1 = some r → ACalls Go.Proofs.Tryz.prog 200 [.one (.ptr 0 0)] [.var [.c (.sl 1 (List.map cU p_r1.b)), .c (.lit (.int .i64 p_r1.p))]] (fun r1 b1 => r1 = .one (.c (.str r.1)) ∧ b1 = [.var [.c (.sl 1 (List.map cU r.2.b)), .c (.lit (.int .i64 r.2.p))]]) := by
  intro p_r1 r h
  refine fun_sound K.spec_someName (ofK ?_)
  unfold C.spec_someName
  rcases n with _ | n <;> simp only [G.spec_someName, reduceCtorEq] at h
  obtain ⟨zc, zg, zk, zu, ze, zj, zt⟩ := pp () <| pp (pp (pp @F.spec_reader_of (@cH [0] [])) ()) <| pp () <| pp () <| pp () <| pp () <| (pp (@retX [] [(0, 0)] []) ())
  exact drv
theorem F.scc_spec_randomMap : ∀ (n : Nat), (∀ {p_r1 : ReaderT} {a_depth1 : Int} {r : NodeT × ReaderT}, G.spec_randomMap n p_r1 a_depth1 = some r → ACalls Go.Proofs.Tryz.prog 174 [.one (.ptr 0 0), .one (.c (.lit (.int .i64 a_depth1)))] [.var [.c (.sl 1 (List.map cU p_r1.b)), .c (.lit (.int .i64 p_r1.p))]] (fun r1 b1 => r1 = .agg [.c (.lit (.int .i64 r.1.Kind)), .c (.lit (.int .i64 r.1.Num)), .c (.str r.1.Text), .c (.sl 1 (List.map cS r.1.Names)), .c (.sl 5 (List.map NodeT.cells r.1.Kids))] ∧ b1 = [.var [.c (.sl 1 (List.map cU r.2.b)), .c (.lit (.int .i64 r.2.p))]])) ∧ (∀ {p_r1 : ReaderT} {a_depth1 : Int} {r : NodeT × ReaderT}, G.spec_randomNode n p_r1 a_depth1 = some r → ACalls Go.Proofs.Tryz.prog 126 [.one (.ptr 0 0), .one (.c (.lit (.int .i64 a_depth1)))] [.var [.c (.sl 1 (List.map cU p_r1.b)), .c (.lit (.int .i64 p_r1.p))]] (fun r1 b1 => r1 = .agg [.c (.lit (.int .i64 r.1.Kind)), .c (.lit (.int .i64 r.1.Num)), .c (.str r.1.Text), .c (.sl 1 (List.map cS r.1.Names)), .c (.sl 5 (List.map NodeT.cells r.1.Kids))] ∧ b1 = [.var [.c (.sl 1 (List.map cU r.2.b)), .c (.lit (.int .i64 r.2.p))]])) := by
  intro n
  induction n using Nat.strongRecOn with | _ n ih =>
  refine ⟨?_, ?_⟩
  · intro p_r1 a_depth1 r h
    refine fun_sound K.spec_randomMap (ofK ?_)
    unfold C.spec_randomMap
    rcases n with _ | n <;> simp only [G.spec_randomMap, reduceCtorEq] at h
    obtain ⟨zc, zg, zk, zu, ze, zj, zt⟩ := pp (pp @F.spec_place <| pp @F.spec_addHere ()) <| pp (pp (pp (ihR ih) (@cG [0] [])) <| pp (pp @F.spec_reader_one (@cH [0] [])) <| pp (pp @F.spec_someName (@cG [0] [])) ()) <| pp (pp (@lopX (Int × List Int × Int × Int × Int × Txt × List Txt × List NodeT) _ (fun n x => G.spec_randomMap.L1 n a_depth1 x.1 x.2.1 x.2.2.1 x.2.2.2.1 x.2.2.2.2.1 x.2.2.2.2.2.1 x.2.2.2.2.2.2.1 x.2.2.2.2.2.2.2) r (fun x => ASt.of [(0, .v true (.one (.ptr 0 0))), (1, .v true (.one (.c (.lit (.int .i64 a_depth1))))), (4, .v true (.one (.ptr 107 0))), (5, .v true (.one (.ptr 108 0))), (6, .v true (.one (.c (.lit (.int .i64 x.1)))))] [(0, .var [.c (.sl 1 (List.map cU x.2.1)), .c (.lit (.int .i64 x.2.2.1))]), (107, .var [.c (.lit (.int .i64 0)), .c (.lit (.int .i64 0)), .c (.str []), .nsl 1, .nsl 5]), (108, .var [.c (.lit (.int .i64 x.2.2.2.1)), .c (.lit (.int .i64 x.2.2.2.2.1)), .c (.str x.2.2.2.2.2.1), .c (.sl 1 (List.map cS x.2.2.2.2.2.2.1)), .c (.sl 5 (List.map NodeT.cells x.2.2.2.2.2.2.2))])])) ()) <| pp () <| pp (pp (And.intro @G.spec_randomMap.L1.eq_1 <| @G.spec_randomMap.L1.eq_2) ()) <| pp (pp (@weakX [11, 12] [(0, 0), (107, 10), (108, 13)] []) <| pp (@weakX [] [(0, 0), (107, 107), (108, 108)] []) ()) <| (pp (@retX [] [(0, 0)] []) ())
    exact drv
  · intro p_r1 a_depth1 r h
    refine fun_sound K.spec_randomNode (ofK ?_)
    unfold C.spec_randomNode
    rcases n with _ | n <;> simp only [G.spec_randomNode, reduceCtorEq] at h
    obtain ⟨zc, zg, zk, zu, ze, zj, zt⟩ := pp () <| pp (pp (pp (ihR ih) (@cG [0] [])) <| pp (pp (ihL ih) (@cG [0] [])) <| pp (pp @F.spec_reader_pick (@cG [0] [])) <| pp (pp @F.spec_reader_one (@cH [0] [])) <| pp (pp @F.spec_someText (@cG [0] [])) ()) <| pp (pp (@lopX (Int × Int × List Int × Int × List NodeT) _ (fun n x => G.spec_randomNode.L2 n a_depth1 x.1 x.2.1 x.2.2.1 x.2.2.2.1 x.2.2.2.2) r (fun x => ASt.of [(0, .v true (.one (.ptr 0 0))), (1, .v true (.one (.c (.lit (.int .i64 a_depth1))))), (4, .v true (.one (.ptr 106 0))), (5, .v true (.one (.c (.lit (.int .i64 x.1))))), (6, .v true (.one (.own 107 x.2.2.2.2.length 5))), (7, .v true (.one (.c (.lit (.int .i64 x.2.1)))))] [(0, .var [.c (.sl 1 (List.map cU x.2.2.1)), .c (.lit (.int .i64 x.2.2.2.1))]), (106, .var [.c (.lit (.int .i64 0)), .c (.lit (.int .i64 0)), .c (.str []), .nsl 1, .nsl 5]), (107, .dat 5 (List.map NodeT.cells x.2.2.2.2))])) ()) <| pp (pp (@cutX (Int × List Int × Int) _ (fun n x => G.spec_randomNode.K1 n a_depth1 x.1 x.2.1 x.2.2) r (fun x => ASt.of [(0, .v true (.one (.ptr 0 0))), (1, .v true (.one (.c (.lit (.int .i64 a_depth1))))), (4, .v true (.one (.ptr 101 0))), (5, .v true (.one (.c (.lit (.int .i64 x.1)))))] [(0, .var [.c (.sl 1 (List.map cU x.2.1)), .c (.lit (.int .i64 x.2.2))]), (101, .var [.c (.lit (.int .i64 0)), .c (.lit (.int .i64 0)), .c (.str []), .nsl 1, .nsl 5])])) ()) <| pp (pp (And.intro @G.spec_randomNode.K1.eq_1 <| And.intro @G.spec_randomNode.K1.eq_2 <| And.intro @G.spec_randomNode.L2.eq_1 <| @G.spec_randomNode.L2.eq_2) ()) <| pp (pp (@weakX [] [(0, 0), (101, 10)] []) <| pp (@weakX [] [(0, 0), (106, 101), (107, 12)] []) <| pp (@weakX [] [(0, 0), (106, 106), (107, 14)] []) ()) <| (pp (@retX [] [(0, 0)] []) <| pp (@retX [15, 107] [(0, 0)] []) ())
    exact drv
theorem F.spec_randomMap {n : Nat} : ∀ {p_r1 : ReaderT} {a_depth1 : Int} {r : NodeT × ReaderT}, G.spec_randomMap n p_r1 a_depth1 = some r → ACalls Go.Proofs.Tryz.prog 174 [.one (.ptr 0 0), .one (.c (.lit (.int .i64 a_depth1)))] [.var [.c (.sl 1 (List.map cU p_r1.b)), .c (.lit (.int .i64 p_r1.p))]] (fun r1 b1 => r1 = .agg [.c (.lit (.int .i64 r.1.Kind)), .c (.lit (.int .i64 r.1.Num)), .c (.str r.1.Text), .c (.sl 1 (List.map cS r.1.Names)), .c (.sl 5 (List.map NodeT.cells r.1.Kids))] ∧ b1 = [.var [.c (.sl 1 (List.map cU r.2.b)), .c (.lit (.int .i64 r.2.p))]]) := (F.scc_spec_randomMap n).1
theorem F.spec_randomNode {n : Nat} : ∀ {p_r1 : ReaderT} {a_depth1 : Int} {r : NodeT × ReaderT}, G.spec_randomNode n p_r1 a_depth1 = some r → ACalls Go.Proofs.Tryz.prog 126 [.one (.ptr 0 0), .one (.c (.lit (.int .i64 a_depth1)))] [.var [.c (.sl 1 (List.map cU p_r1.b)), .c (.lit (.int .i64 p_r1.p))]] (fun r1 b1 => r1 = .agg [.c (.lit (.int .i64 r.1.Kind)), .c (.lit (.int .i64 r.1.Num)), .c (.str r.1.Text), .c (.sl 1 (List.map cS r.1.Names)), .c (.sl 5 (List.map NodeT.cells r.1.Kids))] ∧ b1 = [.var [.c (.sl 1 (List.map cU r.2.b)), .c (.lit (.int .i64 r.2.p))]]) := (F.scc_spec_randomMap n).2
theorem F.spec_randomMap_o {n : Nat} : ∀ {p_r1 : ReaderT} {a_depth1 : Int} {r : NodeT × ReaderT}, G.spec_randomMap n p_r1 a_depth1 = some r → ACalls Go.Proofs.Tryz.prog 174 [.one (.ptr 0 0), .one (.c (.lit (.int .i64 a_depth1)))] [.var [.c (.sl 1 (List.map cU p_r1.b)), .c (.lit (.int .i64 p_r1.p))]] (fun r1 b1 => r1 = .agg [.c (.lit (.int .i64 r.1.Kind)), .c (.lit (.int .i64 r.1.Num)), .c (.str r.1.Text), .own 1 r.1.Names.length 1, .own 2 r.1.Kids.length 5] ∧ b1 = [.var [.c (.sl 1 (List.map cU r.2.b)), .c (.lit (.int .i64 r.2.p))], .dat 1 (List.map cS r.1.Names), .dat 5 (List.map NodeT.cells r.1.Kids)]) := by
  intro p_r1 a_depth1 r h
  refine fun_sound K.spec_randomMap (ofK ?_)
  unfold C.spec_randomMap
  rcases n with _ | n <;> simp only [G.spec_randomMap, reduceCtorEq] at h
  obtain ⟨zc, zg, zk, zu, ze, zj, zt⟩ := pp (pp @F.spec_place ()) <| pp (pp (pp @F.spec_reader_one (@cH [0] [])) <| pp (pp @F.spec_someName (@cG [0] [])) <| pp (pp @F.spec_randomNode (@cG [0] [])) <| pp (pp @F.spec_addHere_o (@cH [] [117, 118])) ()) <| pp (pp (@lopX (Int × List Int × Int × Int × Int × Txt × List Txt × List NodeT) _ (fun n x => G.spec_randomMap.L1 n a_depth1 x.1 x.2.1 x.2.2.1 x.2.2.2.1 x.2.2.2.2.1 x.2.2.2.2.2.1 x.2.2.2.2.2.2.1 x.2.2.2.2.2.2.2) r (fun x => ASt.of [(0, .v true (.one (.ptr 0 0))), (1, .v true (.one (.c (.lit (.int .i64 a_depth1))))), (4, .v true (.one (.ptr 113 0))), (5, .v true (.one (.ptr 114 0))), (6, .v true (.one (.c (.lit (.int .i64 x.1)))))] [(0, .var [.c (.sl 1 (List.map cU x.2.1)), .c (.lit (.int .i64 x.2.2.1))]), (113, .var [.c (.lit (.int .i64 0)), .c (.lit (.int .i64 0)), .c (.str []), .nsl 1, .nsl 5]), (114, .var [.c (.lit (.int .i64 x.2.2.2.1)), .c (.lit (.int .i64 x.2.2.2.2.1)), .c (.str x.2.2.2.2.2.1), .own 115 x.2.2.2.2.2.2.1.length 1, .own 116 x.2.2.2.2.2.2.2.length 5]), (115, .dat 1 (List.map cS x.2.2.2.2.2.2.1)), (116, .dat 5 (List.map NodeT.cells x.2.2.2.2.2.2.2))])) ()) <| pp () <| pp (pp (And.intro @G.spec_randomMap.L1.eq_1 <| @G.spec_randomMap.L1.eq_2) ()) <| pp (pp (@weakX [] [(0, 0), (113, 10), (114, 13), (115, 11), (116, 12)] []) <| pp (@weakX [] [(0, 0), (113, 113), (114, 114), (115, 117), (116, 118)] []) <| pp (@weakX [] [(0, 0), (113, 113), (114, 114), (115, 115), (116, 116)] []) ()) <| (pp (@retX [] [(0, 0), (1, 115), (2, 116)] []) ())
  exact drv
theorem F.spec_randomNode_o {n : Nat} : ∀ {p_r1 : ReaderT} {a_depth1 : Int} {r : NodeT × ReaderT}, G.spec_randomNode n p_r1 a_depth1 = some r → ACalls Go.Proofs.Tryz.prog 126 [.one (.ptr 0 0), .one (.c (.lit (.int .i64 a_depth1)))] [.var [.c (.sl 1 (List.map cU p_r1.b)), .c (.lit (.int .i64 p_r1.p))]] (fun r1 b1 => r1 = .agg [.c (.lit (.int .i64 r.1.Kind)), .c (.lit (.int .i64 r.1.Num)), .c (.str r.1.Text), .own 1 r.1.Names.length 1, .own 2 r.1.Kids.length 5] ∧ b1 = [.var [.c (.sl 1 (List.map cU r.2.b)), .c (.lit (.int .i64 r.2.p))], .dat 1 (List.map cS r.1.Names), .dat 5 (List.map NodeT.cells r.1.Kids)]) := by
  intro p_r1 a_depth1 r h
  refine fun_sound K.spec_randomNode (ofK ?_)
  unfold C.spec_randomNode
  rcases n with _ | n <;> simp only [G.spec_randomNode, reduceCtorEq] at h
  obtain ⟨zc, zg, zk, zu, ze, zj, zt⟩ := pp () <| pp (pp (pp @F.spec_reader_pick (@cG [0] [])) <| pp (pp @F.spec_reader_one (@cH [0] [])) <| pp (pp @F.spec_someText (@cG [0] [])) <| pp (pp @F.spec_randomNode (@cG [0] [])) <| pp (pp @F.spec_randomMap_o (@cG [0] [108, 109])) ()) <| pp (pp (@lopX (Int × Int × List Int × Int × List NodeT) _ (fun n x => G.spec_randomNode.L2 n a_depth1 x.1 x.2.1 x.2.2.1 x.2.2.2.1 x.2.2.2.2) r (fun x => ASt.of [(0, .v true (.one (.ptr 0 0))), (1, .v true (.one (.c (.lit (.int .i64 a_depth1))))), (4, .v true (.one (.ptr 106 0))), (5, .v true (.one (.c (.lit (.int .i64 x.1))))), (6, .v true (.one (.own 107 x.2.2.2.2.length 5))), (7, .v true (.one (.c (.lit (.int .i64 x.2.1)))))] [(0, .var [.c (.sl 1 (List.map cU x.2.2.1)), .c (.lit (.int .i64 x.2.2.2.1))]), (106, .var [.c (.lit (.int .i64 0)), .c (.lit (.int .i64 0)), .c (.str []), .nsl 1, .nsl 5]), (107, .dat 5 (List.map NodeT.cells x.2.2.2.2))])) ()) <| pp (pp (@cutX (Int × List Int × Int) _ (fun n x => G.spec_randomNode.K1 n a_depth1 x.1 x.2.1 x.2.2) r (fun x => ASt.of [(0, .v true (.one (.ptr 0 0))), (1, .v true (.one (.c (.lit (.int .i64 a_depth1))))), (4, .v true (.one (.ptr 101 0))), (5, .v true (.one (.c (.lit (.int .i64 x.1)))))] [(0, .var [.c (.sl 1 (List.map cU x.2.1)), .c (.lit (.int .i64 x.2.2))]), (101, .var [.c (.lit (.int .i64 0)), .c (.lit (.int .i64 0)), .c (.str []), .nsl 1, .nsl 5])])) ()) <| pp (pp (And.intro @G.spec_randomNode.K1.eq_1 <| And.intro @G.spec_randomNode.K1.eq_2 <| And.intro @G.spec_randomNode.L2.eq_1 <| @G.spec_randomNode.L2.eq_2) ()) <| pp (pp (@weakX [] [(0, 0), (101, 10)] []) <| pp (@weakX [] [(0, 0), (106, 101), (107, 12)] []) <| pp (@weakX [] [(0, 0), (106, 106), (107, 14)] []) ()) <| (pp (@retX [] [(0, 0)] [1, 2]) <| pp (@retX [] [(0, 0), (1, 15), (2, 107)] []) <| pp (@retX [] [(0, 0), (1, 108), (2, 109)] []) ())
  exact drv
theorem F.spec_someNode {n : Nat} : ∀ {p_r1 : ReaderT} {r : NodeT × ReaderT}, G.spec_someNode n p_r1 = some r → ACalls Go.Proofs.Tryz.prog 122 [.one (.ptr 0 0)] [.var [.c (.sl 1 (List.map cU p_r1.b)), .c (.lit (.int .i64 p_r1.p))]] (fun r1 b1 => r1 = .agg [.c (.lit (.int .i64 r.1.Kind)), .c (.lit (.int .i64 r.1.Num)), .c (.str r.1.Text), .c (.sl 1 (List.map cS r.1.Names)), .c (.sl 5 (List.map NodeT.cells r.1.Kids))] ∧ b1 = [.var [.c (.sl 1 (List.map cU r.2.b)), .c (.lit (.int .i64 r.2.p))]]) := by
  intro p_r1 r h
  refine fun_sound K.spec_someNode (ofK ?_)
  unfold C.spec_someNode
  rcases n with _ | n <;> simp only [G.spec_someNode, reduceCtorEq] at h
  obtain ⟨zc, zg, zk, zu, ze, zj, zt⟩ := pp (pp @F.spec_validNode ()) <| pp (pp (pp @F.spec_randomNode (@cG [0] [])) <| pp (pp @F.spec_reader_pick (@cG [0] [])) <| pp (pp @F.spec_randomMap (@cG [0] [])) ()) <| pp () <| pp (pp (@cutX (List Int × Int × Int × Int × Txt × List Txt × List NodeT) _ (fun n x => G.spec_someNode.K1 n x.1 x.2.1 x.2.2.1 x.2.2.2.1 x.2.2.2.2.1 x.2.2.2.2.2.1 x.2.2.2.2.2.2) r (fun x => ASt.of [(2, .v true (.one (.ptr 101 0))), (3, .v true (.one (.ptr 102 0)))] [(0, .var [.c (.sl 1 (List.map cU x.1)), .c (.lit (.int .i64 x.2.1))]), (101, .var [.c (.lit (.int .i64 0)), .c (.lit (.int .i64 0)), .c (.str []), .nsl 1, .nsl 5]), (102, .var [.c (.lit (.int .i64 x.2.2.1)), .c (.lit (.int .i64 x.2.2.2.1)), .c (.str x.2.2.2.2.1), .c (.sl 1 (List.map cS x.2.2.2.2.2.1)), .c (.sl 5 (List.map NodeT.cells x.2.2.2.2.2.2))])])) ()) <| pp (pp (And.intro @G.spec_someNode.K1.eq_1 <| @G.spec_someNode.K1.eq_2) ()) <| pp (pp (@weakX [] [(0, 0), (101, 10), (102, 11)] []) ()) <| (pp (@retX [] [(0, 0)] []) ())
  exact drv
theorem F.spec_someNode_o {n : Nat} : ∀ {p_r1 : ReaderT} {r : NodeT × ReaderT}, G.spec_someNode n p_r1 = some r → ACalls Go.Proofs.Tryz.prog 122 [.one (.ptr 0 0)] [.var [.c (.sl 1 (List.map cU p_r1.b)), .c (.lit (.int .i64 p_r1.p))]] (fun r1 b1 => r1 = .agg [.c (.lit (.int .i64 r.1.Kind)), .c (.lit (.int .i64 r.1.Num)), .c (.str r.1.Text), .own 1 r.1.Names.length 1, .own 2 r.1.Kids.length 5] ∧ b1 = [.var [.c (.sl 1 (List.map cU r.2.b)), .c (.lit (.int .i64 r.2.p))], .dat 1 (List.map cS r.1.Names), .dat 5 (List.map NodeT.cells r.1.Kids)]) := by
  intro p_r1 r h
  refine fun_sound K.spec_someNode (ofK ?_)
  unfold C.spec_someNode
  rcases n with _ | n <;> simp only [G.spec_someNode, reduceCtorEq] at h
  obtain ⟨zc, zg, zk, zu, ze, zj, zt⟩ := pp (pp @F.spec_validNode ()) <| pp (pp (pp @F.spec_randomNode_o (@cG [0] [101, 102])) <| pp (pp @F.spec_reader_pick (@cG [0] [])) <| pp (pp @F.spec_randomMap_o (@cG [0] [109, 110])) ()) <| pp () <| pp (pp (@cutX (List Int × Int × Int × Int × Txt × List Txt × List NodeT) _ (fun n x => G.spec_someNode.K1 n x.1 x.2.1 x.2.2.1 x.2.2.2.1 x.2.2.2.2.1 x.2.2.2.2.2.1 x.2.2.2.2.2.2) r (fun x => ASt.of [(2, .v true (.one (.ptr 105 0))), (3, .v true (.one (.ptr 106 0)))] [(0, .var [.c (.sl 1 (List.map cU x.1)), .c (.lit (.int .i64 x.2.1))]), (105, .var [.c (.lit (.int .i64 0)), .c (.lit (.int .i64 0)), .c (.str []), .nsl 1, .nsl 5]), (106, .var [.c (.lit (.int .i64 x.2.2.1)), .c (.lit (.int .i64 x.2.2.2.1)), .c (.str x.2.2.2.2.1), .own 107 x.2.2.2.2.2.1.length 1, .own 108 x.2.2.2.2.2.2.length 5]), (107, .dat 1 (List.map cS x.2.2.2.2.2.1)), (108, .dat 5 (List.map NodeT.cells x.2.2.2.2.2.2))])) ()) <| pp (pp (And.intro @G.spec_someNode.K1.eq_1 <| @G.spec_someNode.K1.eq_2) ()) <| pp (pp (@weakX [] [(0, 0), (105, 10), (106, 11), (107, 109), (108, 110)] []) <| pp (@weakX [] [(0, 0), (105, 10), (106, 11), (107, 101), (108, 102)] []) ()) <| (pp (@retX [] [(0, 0), (1, 107), (2, 108)] []) <| pp (@retX [] [(0, 0)] [1, 2]) ())
  exact drv
theorem F.spec_anyNode {n : Nat} : ∀ {p_r1 : ReaderT} {r : NodeT × ReaderT}, G.spec_anyNode n p_r1 = some r → ACalls Go.Proofs.Tryz.prog 75 [.one (.ptr 0 0)] [.var [.c (.sl 1 (List.map cU p_r1.b)), .c (.lit (.int .i64 p_r1.p))]] (fun r1 b1 => r1 = .agg [.c (.lit (.int .i64 r.1.Kind)), .c (.lit (.int .i64 r.1.Num)), .c (.str r.1.Text), .c (.sl 1 (List.map cS r.1.Names)), .c (.sl 5 (List.map NodeT.cells r.1.Kids))] ∧ b1 = [.var [.c (.sl 1 (List.map cU r.2.b)), .c (.lit (.int .i64 r.2.p))]]) := by
  intro p_r1 r h
  refine fun_sound K.spec_anyNode (ofK ?_)
  unfold C.spec_anyNode
  rcases n with _ | n <;> simp only [G.spec_anyNode, reduceCtorEq] at h
  obtain ⟨zc, zg, zk, zu, ze, zj, zt⟩ := pp (pp @F.spec_copyNode ()) <| pp (pp (pp @F.spec_someNode_o (@cG [0] [101, 102])) <| pp (pp @F.spec_reader_pick (@cG [0] [])) <| pp (pp @F.spec_reader_one (@cH [0] [])) ()) <| pp (pp (@lopX ((NodeT × ReaderT) × Int × List Int × Int × List NodeT) _ (fun n x => G.spec_anyNode.L1 n x.1 x.2.1 x.2.2.1 x.2.2.2.1 x.2.2.2.2) r (fun x => ASt.of [(0, .v true (.one (.ptr 0 0))), (2, .v true (.one (.ptr 113 0))), (3, .v true (.one (.ptr 114 0))), (4, .v true (.one (.own 115 x.2.2.2.2.length 5))), (5, .v true (.one (.c (.lit (.int .i64 x.2.1)))))] [(0, .var [.c (.sl 1 (List.map cU x.2.2.1)), .c (.lit (.int .i64 x.2.2.2.1))]), (113, .var [.c (.lit (.int .i64 0)), .c (.lit (.int .i64 0)), .c (.str []), .nsl 1, .nsl 5]), (114, .var [.c (.lit (.int .i64 x.1.1.Kind)), .c (.lit (.int .i64 x.1.1.Num)), .c (.str x.1.1.Text), .own 116 x.1.1.Names.length 1, .own 117 x.1.1.Kids.length 5]), (115, .dat 5 (List.map NodeT.cells x.2.2.2.2)), (116, .frz 1 (List.map cS x.1.1.Names)), (117, .frz 5 (List.map NodeT.cells x.1.1.Kids))])) ()) <| pp () <| pp (pp (And.intro @G.spec_anyNode.L1.eq_1 <| @G.spec_anyNode.L1.eq_2) ()) <| pp (pp (@weakX [101, 102] [(0, 0), (113, 10), (114, 11), (115, 20), (116, 101), (117, 102)] []) <| pp (@weakX [] [(0, 0), (113, 113), (114, 114), (115, 22), (116, 116), (117, 117)] []) ()) <| (pp (@retX [101, 102] [(0, 0)] []) <| pp (@retX [15, 102] [(0, 0)] []) <| pp (@retX [19] [(0, 0)] []) <| pp (@retX [115] [(0, 0)] []) ())
  exact drv
theorem F.spec_all_n : ∀ (n : Nat), ∀ {a_n1 : NodeT} {r : List (List Txt)}, G.spec_all n a_n1 = some r → APure Go.Proofs.Tryz.prog 123 [.agg [.c (.lit (.int .i64 a_n1.Kind)), .c (.lit (.int .i64 a_n1.Num)), .c (.str a_n1.Text), .c (.sl 1 (List.map cS a_n1.Names)), .c (.sl 5 (List.map NodeT.cells a_n1.Kids))]] (.one (.c (.sl 1 (List.map (cL 1 cS) r)))) := by
  intro n
  induction n using Nat.strongRecOn with | _ n ih =>
  intro a_n1 r h
  refine fun_pure K.spec_all (ofK ?_)
  unfold C.spec_all
  rcases n with _ | n <;> simp only [G.spec_all, reduceCtorEq] at h
  obtain ⟨zc, zg, zk, zu, ze, zj, zt⟩ := pp (pp ih <| pp @F.spec_decimal ()) <| pp () <| pp (pp (@lopX (Int × List (List Txt)) _ (fun n x => G.spec_all.L5 n a_n1 x.1 x.2) r (fun x => ASt.of [(1, .v true (.one (.ptr 121 0))), (3, .v true (.one (.own 122 x.2.length 1))), (4, .v true (.one (.c (.lit (.int .i64 x.1)))))] [(121, .var [.c (.lit (.int .i64 a_n1.Kind)), .c (.lit (.int .i64 a_n1.Num)), .c (.str a_n1.Text), .c (.sl 1 (List.map cS a_n1.Names)), .c (.sl 5 (List.map NodeT.cells a_n1.Kids))]), (122, .dat 1 (List.map (cL 1 cS) x.2))])) <| pp (@lopX (Int × Txt × List (List Txt) × Int × List (List Txt)) _ (fun n x => G.spec_all.L7 n a_n1 x.1 x.2.1 x.2.2.1 x.2.2.2.1 x.2.2.2.2) r (fun x => ASt.of [(1, .v true (.one (.ptr 129 0))), (3, .v true (.one (.own 130 x.2.2.2.2.length 1))), (4, .v true (.one (.c (.lit (.int .i64 x.1))))), (5, .v true (.one (.c (.str x.2.1)))), (6, .v true (.one (.c (.sl 1 (List.map (cL 1 cS) x.2.2.1))))), (7, .v true (.one (.c (.lit (.int .i64 x.2.2.2.1)))))] [(129, .var [.c (.lit (.int .i64 a_n1.Kind)), .c (.lit (.int .i64 a_n1.Num)), .c (.str a_n1.Text), .c (.sl 1 (List.map cS a_n1.Names)), .c (.sl 5 (List.map NodeT.cells a_n1.Kids))]), (130, .dat 1 (List.map (cL 1 cS) x.2.2.2.2))])) ()) <| pp (pp (@cutX (Int × List (List Txt) × Txt) _ (fun n x => G.spec_all.K6 n a_n1 x.1 x.2.1 x.2.2) r (fun x => ASt.of [(1, .v true (.one (.ptr 123 0))), (3, .v true (.one (.own 124 x.2.1.length 1))), (4, .v true (.one (.c (.lit (.int .i64 x.1))))), (5, .v true (.one (.c (.str x.2.2))))] [(123, .var [.c (.lit (.int .i64 a_n1.Kind)), .c (.lit (.int .i64 a_n1.Num)), .c (.str a_n1.Text), .c (.sl 1 (List.map cS a_n1.Names)), .c (.sl 5 (List.map NodeT.cells a_n1.Kids))]), (124, .dat 1 (List.map (cL 1 cS) x.2.1))])) ()) <| pp (pp (And.intro @G.spec_all.L5.eq_1 <| And.intro @G.spec_all.L5.eq_2 <| And.intro @G.spec_all.K6.eq_1 <| And.intro @G.spec_all.K6.eq_2 <| And.intro @G.spec_all.L7.eq_1 <| @G.spec_all.L7.eq_2) ()) <| pp (pp (@weakX [] [(121, 10), (122, 12)] []) <| pp (@weakX [] [(123, 121), (124, 122)] []) <| pp (@weakX [] [(129, 123), (130, 124)] []) <| pp (@weakX [] [(129, 129), (130, 16)] []) <| pp (@weakX [] [(121, 129), (122, 130)] []) ()) <| ()
  exact drv
theorem F.spec_all {n : Nat} : ∀ {a_n1 : NodeT} {r : List (List Txt)}, G.spec_all n a_n1 = some r → APure Go.Proofs.Tryz.prog 123 [.agg [.c (.lit (.int .i64 a_n1.Kind)), .c (.lit (.int .i64 a_n1.Num)), .c (.str a_n1.Text), .c (.sl 1 (List.map cS a_n1.Names)), .c (.sl 5 (List.map NodeT.cells a_n1.Kids))]] (.one (.c (.sl 1 (List.map (cL 1 cS) r)))) := F.spec_all_n n
theorem F.spec_nearNode {n : Nat} : ∀ {p_r1 : ReaderT} {a_n1 : NodeT} {r : NodeT × ReaderT}, G.spec_nearNode n p_r1 a_n1 = some r → ACalls Go.Proofs.Tryz.prog 76 [.one (.ptr 0 0), .agg [.c (.lit (.int .i64 a_n1.Kind)), .c (.lit (.int .i64 a_n1.Num)), .c (.str a_n1.Text), .c (.sl 1 (List.map cS a_n1.Names)), .c (.sl 5 (List.map NodeT.cells a_n1.Kids))]] [.var [.c (.sl 1 (List.map cU p_r1.b)), .c (.lit (.int .i64 p_r1.p))]] (fun r1 b1 => r1 = .agg [.c (.lit (.int .i64 r.1.Kind)), .c (.lit (.int .i64 r.1.Num)), .c (.str r.1.Text), .c (.sl 1 (List.map cS r.1.Names)), .c (.sl 5 (List.map NodeT.cells r.1.Kids))] ∧ b1 = [.var [.c (.sl 1 (List.map cU r.2.b)), .c (.lit (.int .i64 r.2.p))]]) := by
  intro p_r1 a_n1 r h
  refine fun_sound K.spec_nearNode (ofK ?_)
  unfold C.spec_nearNode
  rcases n with _ | n <;> simp only [G.spec_nearNode, reduceCtorEq] at h
  obtain ⟨zc, zg, zk, zu, ze, zj, zt⟩ := pp (pp @F.spec_all <| pp @F.spec_copyNode <| pp @F.spec_removeAt <| pp @F.spec_addAt <| pp @F.spec_setAt <| pp @F.spec_validNode ()) <| pp (pp (pp @F.spec_reader_pick (@cG [0] [])) <| pp (pp @F.spec_reader_of (@cH [0] [])) <| pp (pp @F.spec_randomNode (@cG [0] [])) <| pp (pp @F.spec_someNode (@cG [0] [])) ()) <| pp () <| pp (pp (@cutX (Bool × List Int × Int × Int × Int × Txt × List Txt × List NodeT) _ (fun n x => G.spec_nearNode.K1 n a_n1 x.1 x.2.1 x.2.2.1 x.2.2.2.1 x.2.2.2.2.1 x.2.2.2.2.2.1 x.2.2.2.2.2.2.1 x.2.2.2.2.2.2.2) r (fun x => ASt.of [(3, .v true (.one (.ptr 101 0))), (4, .v true (.one (.ptr 102 0))), (7, .v true (.one (.ptr 103 0))), (8, .v true (.one (.c (.lit (.bool x.1)))))] [(0, .var [.c (.sl 1 (List.map cU x.2.1)), .c (.lit (.int .i64 x.2.2.1))]), (101, .var [.c (.lit (.int .i64 a_n1.Kind)), .c (.lit (.int .i64 a_n1.Num)), .c (.str a_n1.Text), .c (.sl 1 (List.map cS a_n1.Names)), .c (.sl 5 (List.map NodeT.cells a_n1.Kids))]), (102, .var [.c (.lit (.int .i64 0)), .c (.lit (.int .i64 0)), .c (.str []), .nsl 1, .nsl 5]), (103, .var [.c (.lit (.int .i64 x.2.2.2.1)), .c (.lit (.int .i64 x.2.2.2.2.1)), .c (.str x.2.2.2.2.2.1), .c (.sl 1 (List.map cS x.2.2.2.2.2.2.1)), .c (.sl 5 (List.map NodeT.cells x.2.2.2.2.2.2.2))])])) ()) <| pp (pp (And.intro @G.spec_nearNode.K1.eq_1 <| @G.spec_nearNode.K1.eq_2) ()) <| pp (pp (@weakX [] [(0, 0), (101, 10), (102, 11), (103, 12)] []) ()) <| (pp (@retX [] [(0, 0)] []) ())
  exact drv
theorem F.spec_anyPair {n : Nat} : ∀ {p_r1 : ReaderT} {r : NodeT × NodeT × ReaderT}, G.spec_anyPair n p_r1 = some r → ACalls Go.Proofs.Tryz.prog 36 [.one (.ptr 0 0)] [.var [.c (.sl 1 (List.map cU p_r1.b)), .c (.lit (.int .i64 p_r1.p))]] (fun r1 b1 => r1 = .tup [(true, [.c (.lit (.int .i64 r.1.Kind)), .c (.lit (.int .i64 r.1.Num)), .c (.str r.1.Text), .c (.sl 1 (List.map cS r.1.Names)), .c (.sl 5 (List.map NodeT.cells r.1.Kids))]), (true, [.c (.lit (.int .i64 r.2.1.Kind)), .c (.lit (.int .i64 r.2.1.Num)), .c (.str r.2.1.Text), .c (.sl 1 (List.map cS r.2.1.Names)), .c (.sl 5 (List.map NodeT.cells r.2.1.Kids))])] ∧ b1 = [.var [.c (.sl 1 (List.map cU r.2.2.b)), .c (.lit (.int .i64 r.2.2.p))]]) := by
  intro p_r1 r h
  refine fun_sound K.spec_anyPair (ofK ?_)
  unfold C.spec_anyPair
  rcases n with _ | n <;> simp only [G.spec_anyPair, reduceCtorEq] at h
  obtain ⟨zc, zg, zk, zu, ze, zj, zt⟩ := pp (pp @F.spec_validNode ()) <| pp (pp (pp @F.spec_anyNode (@cG [0] [])) <| pp (pp @F.spec_reader_pick (@cG [0] [])) <| pp (pp @F.spec_nearNode (@cG [0] [])) ()) <| pp () <| pp () <| pp () <| pp () <| (pp (@retX [] [(0, 0)] []) ())
  exact drv
theorem F.spec_newReader {n : Nat} : ∀ {a_code1 : List Int} {r : ReaderT}, G.spec_newReader n a_code1 = some r → ACalls Go.Proofs.Tryz.prog 37 [.one (.c (.sl 1 (List.map cU a_code1)))] [] (fun r1 b1 => r1 = .one (.ptr 0 0) ∧ b1 = [.var [.c (.sl 1 (List.map cU r.b)), .c (.lit (.int .i64 r.p))]]) := by
  intro a_code1 r h
  refine fun_sound K.spec_newReader (ofK ?_)
  unfold C.spec_newReader
  rcases n with _ | n <;> simp only [G.spec_newReader, reduceCtorEq] at h
  obtain ⟨zc, zg, zk, zu, ze, zj, zt⟩ := pp () <| pp () <| pp () <| pp () <| pp () <| pp () <| (pp (@retX [] [(0, 10)] []) ())
  exact drv
theorem F.spec_DrawDiffNodes {n : Nat} : ∀ {a_code1 : List Int} {r : NodeT × NodeT}, G.spec_DrawDiffNodes n a_code1 = some r → APure Go.Proofs.Tryz.prog 22 [.one (.c (.sl 1 (List.map cU a_code1)))] (.tup [(true, [.c (.lit (.int .i64 r.1.Kind)), .c (.lit (.int .i64 r.1.Num)), .c (.str r.1.Text), .c (.sl 1 (List.map cS r.1.Names)), .c (.sl 5 (List.map NodeT.cells r.1.Kids))]), (true, [.c (.lit (.int .i64 r.2.Kind)), .c (.lit (.int .i64 r.2.Num)), .c (.str r.2.Text), .c (.sl 1 (List.map cS r.2.Names)), .c (.sl 5 (List.map NodeT.cells r.2.Kids))])]) := by
  intro a_code1 r h
  refine fun_pure K.spec_DrawDiffNodes (ofK ?_)
  unfold C.spec_DrawDiffNodes
  rcases n with _ | n <;> simp only [G.spec_DrawDiffNodes, reduceCtorEq] at h
  obtain ⟨zc, zg, zk, zu, ze, zj, zt⟩ := pp () <| pp (pp (pp @F.spec_newReader (@cG [] [101])) <| pp (pp @F.spec_anyPair (@cG [101] [])) ()) <| pp () <| pp () <| pp () <| pp () <| ()
  exact drv
theorem F.laws_FnDiffNodes {n : Nat} : ∀ {a_code1 : List Int} {r : Bool}, G.laws_FnDiffNodes n a_code1 = some r → APure Go.Proofs.Tryz.prog 5 [.one (.c (.sl 1 (List.map cU a_code1)))] (.one (.c (.lit (.bool r)))) := by
  intro a_code1 r h
  refine fun_pure K.laws_FnDiffNodes (ofK ?_)
  unfold C.laws_FnDiffNodes
  rcases n with _ | n <;> simp only [G.laws_FnDiffNodes, reduceCtorEq] at h
  obtain ⟨zc, zg, zk, zu, ze, zj, zt⟩ := pp (pp @F.spec_DrawDiffNodes <| pp @F.impl_DiffNodes <| pp @F.spec_DiffNodes <| pp @F.laws_equalOps <| pp @F.impl_ApplyPatch <| pp @F.laws_equalNode ()) <| pp () <| pp () <| pp (pp (@cutX ((NodeT × NodeT) × (List OpT × Bool)) _ (fun n x => G.laws_FnDiffNodes.K1 n x.1 x.2) r (fun x => ASt.of [(3, .v true (.one (.ptr 101 0))), (4, .v true (.one (.ptr 102 0))), (5, .v true (.one (.c (.sl 8 (List.map OpT.cells x.2.1))))), (6, .v true (.one (.c (.lit (.bool true))))), (8, .v true (.one (.c (.lit (.bool true))))), (43, .v true (.one (.c (.lit (.bool false)))))] [(101, .var [.c (.lit (.int .i64 x.1.1.Kind)), .c (.lit (.int .i64 x.1.1.Num)), .c (.str x.1.1.Text), .c (.sl 1 (List.map cS x.1.1.Names)), .c (.sl 5 (List.map NodeT.cells x.1.1.Kids))]), (102, .var [.c (.lit (.int .i64 x.1.2.Kind)), .c (.lit (.int .i64 x.1.2.Num)), .c (.str x.1.2.Text), .c (.sl 1 (List.map cS x.1.2.Names)), .c (.sl 5 (List.map NodeT.cells x.1.2.Kids))])])) ()) <| pp (pp (And.intro @G.laws_FnDiffNodes.K1.eq_1 <| @G.laws_FnDiffNodes.K1.eq_2) ()) <| pp (pp (@weakX [] [(101, 10), (102, 11)] []) ()) <| ()
  exact drv
end Go.Ab
end
