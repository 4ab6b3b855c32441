/- The law FnDiffNodesMerge of the package laws answers true for every code of bytes and leaves it as it is: the abstract interpreter of the program, the printed functions and proofs, the laws of the data, the statement (part 5 of the proof). Conditions: none but what the row lists. -/
import Derived.Test.YtjflgnaccghfmaaGreatDoorE2
set_option linter.unusedVariables false
set_option linter.unusedSimpArgs false
section
namespace Go.Ab
open Go
set_option maxRecDepth 100000
def dMaps (F : NodeT → NodeT → List OpT) (a b : NodeT) : List OpT :=
  ((List.range' 0 a.Kids.length).flatMap fun i => match lk b (a.Names.getD i default) with
    | some y => (F (a.Kids.getD i default) y).map (und (a.Names.getD i default))
    | none => [OpT.mk 2 [a.Names.getD i default] [] noNode]) ++
  ((List.range' 0 b.Kids.length).flatMap fun k => if (lk a (b.Names.getD k default)).isSome then [] else [OpT.mk 1 [b.Names.getD k default] [] (b.Kids.getD k default)])
def dLists (F : NodeT → NodeT → List OpT) (a b : NodeT) : List OpT :=
  ((List.range' 0 (min a.Kids.length b.Kids.length)).flatMap fun i => (F (a.Kids.getD i default) (b.Kids.getD i default)).map (und (decN i))) ++
  ((List.range' b.Kids.length (a.Kids.length - b.Kids.length)).reverse.map fun i => OpT.mk 2 [decN i] [] noNode) ++
  ((List.range' a.Kids.length (b.Kids.length - a.Kids.length)).map fun i => OpT.mk 1 [decN i] [] (b.Kids.getD i default))
open Classical in
noncomputable def diffM : Nat → NodeT → NodeT → List OpT
  | 0, _, _ => []
  | d + 1, a, b => if a = b then [] else if a.Kind = 4 ∧ b.Kind = 4 then dMaps (diffM d) a b else if a.Kind = 3 ∧ b.Kind = 3 then dLists (diffM d) a b else [OpT.mk 3 [] [] b]
open Classical in
theorem diffM_succ {d : Nat} {a b : NodeT} : diffM (d + 1) a b = if a = b then [] else if a.Kind = 4 ∧ b.Kind = 4 then dMaps (diffM d) a b else if a.Kind = 3 ∧ b.Kind = 3 then dLists (diffM d) a b else [OpT.mk 3 [] [] b] := by rw [diffM]
theorem und_good {s : Txt} {o : OpT} (h : GoodO o) : GoodO (und s o) := by
  rcases h with h | ⟨h, _⟩
  · exact .inl h
  · exact .inr ⟨h, by simp [und]⟩
theorem diffM_good : ∀ (d : Nat) {a b : NodeT} {o : OpT}, o ∈ diffM d a b → GoodO o
  | 0, _, _, _, h => by cases h
  | d + 1, a, b, o, h => by
    rw [diffM_succ] at h
    split at h
    · cases h
    · split at h
      · rcases List.mem_append.1 h with h | h
        · obtain ⟨i, _, h⟩ := List.mem_flatMap.1 h
          split at h
          · obtain ⟨q, hq, rfl⟩ := List.mem_map.1 h
            exact und_good (diffM_good d hq)
          · rw [List.mem_singleton] at h; subst h; exact .inr ⟨.inr rfl, by simp⟩
        · obtain ⟨i, _, h⟩ := List.mem_flatMap.1 h
          split at h
          · cases h
          · rw [List.mem_singleton] at h; subst h; exact .inr ⟨.inl rfl, by simp⟩
      · split at h
        · rcases List.mem_append.1 h with h | h
          · rcases List.mem_append.1 h with h | h
            · obtain ⟨i, _, h⟩ := List.mem_flatMap.1 h
              obtain ⟨q, hq, rfl⟩ := List.mem_map.1 h
              exact und_good (diffM_good d hq)
            · obtain ⟨i, _, rfl⟩ := List.mem_map.1 h; exact .inr ⟨.inr rfl, by simp⟩
          · obtain ⟨i, _, rfl⟩ := List.mem_map.1 h; exact .inr ⟨.inl rfl, by simp⟩
        · rw [List.mem_singleton] at h; subst h; exact .inl rfl
structure Mp (m : NodeT) : Prop where
  map : MapN m
  num : m.Num = 0
  text : m.Text = []
theorem mp_of {n : NodeT} (h : Parts n = true) (hk : n.Kind = 4) : Mp n := ⟨(mapN_of h hk).1, (parts_map h hk).1, (parts_map h hk).2.1⟩
theorem lk_plc {m x : NodeT} {s : Txt} (h : lk m s = some x) : ∃ j, plc m s = some j ∧ m.Kids.getD j default = x := by
  unfold lk at h
  exact Option.map_eq_some_iff.1 h
theorem lk_at {m : NodeT} (h : MapN m) {i : Nat} (hi : i < m.Kids.length) : lk m (m.Names.getD i default) = some (m.Kids.getD i default) := by
  have hi' : i < m.Names.length := by rw [← h.len]; exact hi
  rw [lk_pairs h, getD_of_lt _ hi, getD_of_lt _ hi']
  exact List.mem_iff_getElem.2 ⟨i, by simp; omega, by simp⟩
theorem name_inj {m : NodeT} (h : MapN m) {i j : Nat} (hi : i < m.Names.length) (hj : j < m.Names.length) (e : m.Names.getD i default = m.Names.getD j default) : i = j := by
  rcases Nat.lt_trichotomy i j with k | k | k
  · exact absurd e (bl_ne (Asc_lt h.asc i j k hj))
  · exact k
  · exact absurd e.symm (bl_ne (Asc_lt h.asc j i k hi))
theorem lk_setK {m y : NodeT} {s : Txt} {j : Nat} (h : MapN m) (hj : plc m s = some j) (r : Txt) : lk (setK m j y) r = if r = s then some y else lk m r := by
  unfold lk
  rw [plc_setK]
  by_cases e : r = s
  · subst e
    rw [if_pos rfl, hj, Option.map_some, kid_setK (plc_lt hj)]
  · rw [if_neg e]
    cases hr : plc m r with
    | none => rfl
    | some i =>
      have hne : j ≠ i := fun e2 => by
        subst e2
        have a := plc_hit hj
        have b := plc_hit hr
        rw [hit_map h.kind, beq_iff_eq] at a b
        exact e (b.symm.trans a)
      simp [setK, List.getD, List.getElem?_set, hne]
theorem mp_setK {m y : NodeT} {j : Nat} (h : Mp m) : Mp (setK m j y) := ⟨⟨h.map.kind, h.map.asc, by show (m.Kids.set j y).length = m.Names.length; rw [List.length_set]; exact h.map.len⟩, h.num, h.text⟩
theorem mem_dropL {α : Type} {l : List α} {k : Nat} {y : α} : y ∈ dropL l k ↔ ∃ i, ∃ h : i < l.length, i ≠ k ∧ l[i] = y := by
  unfold dropL
  rw [List.mem_append, List.mem_take_iff_getElem, List.mem_drop_iff_getElem]
  constructor
  · rintro (⟨i, h, e⟩ | ⟨i, h, e⟩)
    · exact ⟨i, by omega, by omega, e⟩
    · exact ⟨k + 1 + i, by omega, by omega, e⟩
  · rintro ⟨i, h, hk, e⟩
    by_cases c : i < k
    · exact .inl ⟨i, by omega, e⟩
    · refine .inr ⟨i - (k + 1), by omega, ?_⟩
      have : k + 1 + (i - (k + 1)) = i := by omega
      simp only [this]; exact e
theorem zip_dropL {α β : Type} {a : List α} {b : List β} {k : Nat} (h : a.length = b.length) : (dropL a k).zip (dropL b k) = dropL (a.zip b) k := by
  unfold dropL
  rw [List.zip_append (by simp [h])]
  have e1 : (a.zip b).take k = (a.take k).zip (b.take k) := by rw [List.zip, List.take_zipWith]
  have e2 : (a.zip b).drop (k + 1) = (a.drop (k + 1)).zip (b.drop (k + 1)) := by rw [List.zip, List.drop_zipWith]
  rw [e1, e2]
theorem rem_lk {m : NodeT} {s : Txt} (h : MapN m) (hs : s ∈ m.Names) : ∃ m', remN m s = some m' ∧ Mp m' ∧ ∀ r, lk m' r = if r = s then none else lk m r := by
  obtain ⟨x, hx⟩ := Option.isSome_iff_exists.1 ((lk_mem h).2 hs)
  obtain ⟨j, hj, _⟩ := lk_plc hx
  obtain ⟨hjl, hjh, _⟩ := plc_some.1 hj
  rw [hit_map h.kind, beq_iff_eq] at hjh
  have hjn : j < m.Names.length := by rw [← h.len]; exact hjl
  have hM : MapN (NodeT.mk 4 0 [] (dropL m.Names j) (dropL m.Kids j)) := by
    refine ⟨rfl, asc_pairwise.2 ((asc_pairwise.1 h.asc).sublist (dropL_sub _ _)), ?_⟩
    show (dropL m.Kids j).length = (dropL m.Names j).length
    rw [dropL_len hjl, dropL_len hjn, h.len]
  refine ⟨_, ?_, ⟨hM, rfl, rfl⟩, fun r => ?_⟩
  · unfold remN
    rw [hj]
    simp only [h.kind, if_true]
  · apply Option.ext
    intro x
    rw [lk_pairs hM]
    show (r, x) ∈ (dropL m.Names j).zip (dropL m.Kids j) ↔ _
    rw [zip_dropL h.len.symm, mem_dropL]
    by_cases e : r = s
    · rw [if_pos e]
      constructor
      · rintro ⟨i, hi, hne, e2⟩
        have l1 : i < m.Names.length := by simp at hi; omega
        rw [List.getElem_zip, Prod.mk.injEq] at e2
        refine absurd (name_inj h l1 hjn ?_) hne
        rw [getD_of_lt _ l1, e2.1, hjh, e]
      · intro e2; cases e2
    · rw [if_neg e, lk_pairs h, List.mem_iff_getElem]
      constructor
      · rintro ⟨i, hi, _, e2⟩
        exact ⟨i, hi, e2⟩
      · rintro ⟨i, hi, e2⟩
        refine ⟨i, hi, fun c => ?_, e2⟩
        subst c
        rw [List.getElem_zip, Prod.mk.injEq] at e2
        rw [getD_of_lt _ hjn, e2.1] at hjh
        exact e hjh
theorem add_lk {m v : NodeT} {s : Txt} (h : MapN m) (hs : s ∉ m.Names) : ∃ m', addN m s v = some m' ∧ Mp m' ∧ ∀ r, lk m' r = if r = s then some v else lk m r := by
  obtain ⟨m', e, k1, k2, k3, k4, k5⟩ := addN_map (v := v) h hs
  have hM : MapN m' := ⟨k1, ins_asc h hs e, k4⟩
  refine ⟨m', e, ⟨hM, k2, k3⟩, fun r => ?_⟩
  apply Option.ext
  intro x
  rw [lk_pairs hM, k5]
  by_cases c : r = s
  · rw [if_pos c]
    constructor
    · rintro (q | q)
      · rw [Prod.mk.injEq] at q; rw [q.2]
      · have := (lk_none h).2 hs
        rw [← lk_pairs h, c, this] at q
        cases q
    · intro q; cases q; exact .inl (by rw [c])
  · rw [if_neg c, lk_pairs h]
    constructor
    · rintro (q | q)
      · rw [Prod.mk.injEq] at q; exact absurd q.1 c
      · exact q
    · exact .inr
theorem apply_rem {n v : NodeT} {s : Txt} : applyN n (OpT.mk 2 [s] [] v) = remN n s := by
  unfold applyN
  simp only [show ¬ ((2 : Int) = 1) by decide, if_false, if_true]
  unfold remAtN
  rw [if_neg (by simp)]
  rfl
theorem apply_add {n v : NodeT} {s : Txt} : applyN n (OpT.mk 1 [s] [] v) = addN n s v := by
  unfold applyN
  simp only [if_true]
  unfold addAtN
  rw [if_neg (by simp)]
  rfl
theorem apply_set {n v : NodeT} : applyN n (OpT.mk 3 [] [] v) = some v := by
  unfold applyN
  simp only [show ¬ ((3 : Int) = 1) by decide, show ¬ ((3 : Int) = 2) by decide, if_false, if_true]
  rfl
theorem raw_one {n : NodeT} {o : OpT} : rawO n [o] = applyN n o := by
  rw [rawO]
  cases applyN n o <;> rfl
theorem raw_flat {g : Nat → List OpT} {P : Nat → NodeT → Prop} {N : Nat} (step : ∀ i m, i < N → P i m → ∃ m', rawO m (g i) = some m' ∧ P (i + 1) m') :
    ∀ k i m, i + k = N → P i m → ∃ m', rawO m ((List.range' i k).flatMap g) = some m' ∧ P N m' := by
  intro k
  induction k with
  | zero =>
    intro i m hi h
    have : i = N := by omega
    subst this
    exact ⟨m, rfl, h⟩
  | succ k ih =>
    intro i m hi h
    obtain ⟨m1, e1, h1⟩ := step i m (by omega) h
    obtain ⟨m2, e2, h2⟩ := ih (i + 1) m1 (by omega) h1
    refine ⟨m2, ?_, h2⟩
    rw [List.range'_succ, List.flatMap_cons, raw_app, e1]
    exact e2
theorem mem_take_succ {l : List Txt} {i : Nat} (h : i < l.length) {r : Txt} : r ∈ l.take (i + 1) ↔ r ∈ l.take i ∨ r = l.getD i default := by
  rw [List.take_succ_eq_append_getElem h, List.mem_append, List.mem_singleton, getD_of_lt _ h]
theorem not_take {m : NodeT} (h : MapN m) {i : Nat} (hi : i < m.Names.length) : m.Names.getD i default ∉ m.Names.take i := by
  intro c
  obtain ⟨j, hj, e⟩ := List.mem_take_iff_getElem.1 c
  have hj' : j < m.Names.length := by omega
  have := name_inj h hj' hi (by rw [getD_of_lt _ hj']; exact e)
  omega
theorem raw_maps {F : NodeT → NodeT → List OpT} {a b : NodeT} (ma : Mp a) (mb : Mp b) (hg : ∀ x y o, o ∈ F x y → GoodO o)
    (hF : ∀ s x y, lk a s = some x → lk b s = some y → rawO x (F x y) = some y) : rawO a (dMaps F a b) = some b := by
  have hla := ma.map.len
  have hlb := mb.map.len
  have p1 := raw_flat (N := a.Kids.length) (P := fun i m => Mp m ∧ ∀ r, lk m r = if r ∈ a.Names.take i then lk b r else lk a r)
    (g := fun i => match lk b (a.Names.getD i default) with
      | some y => (F (a.Kids.getD i default) y).map (und (a.Names.getD i default))
      | none => [OpT.mk 2 [a.Names.getD i default] [] noNode]) (by
    intro i m hi ⟨hm, hr⟩
    have hi' : i < a.Names.length := by rw [← hla]; exact hi
    have hx := lk_at ma.map hi
    have hnt := not_take ma.map hi'
    have hms : lk m (a.Names.getD i default) = some (a.Kids.getD i default) := by rw [hr, if_neg hnt, hx]
    have fin : ∀ m', Mp m' → (∀ r, lk m' r = if r = a.Names.getD i default then lk b (a.Names.getD i default) else lk m r) → Mp m' ∧ ∀ r, lk m' r = if r ∈ a.Names.take (i + 1) then lk b r else lk a r := fun m' h1 h2 => by
      refine ⟨h1, fun r => ?_⟩
      rw [h2]
      by_cases c : r = a.Names.getD i default
      · rw [if_pos c, if_pos ((mem_take_succ hi').2 (.inr c)), c]
      · rw [if_neg c, hr]
        by_cases d : r ∈ a.Names.take i
        · rw [if_pos d, if_pos ((mem_take_succ hi').2 (.inl d))]
        · rw [if_neg d, if_neg (fun q => ((mem_take_succ hi').1 q).elim d c)]
    cases hy : lk b (a.Names.getD i default) with
    | some y =>
      obtain ⟨j, hj, ej⟩ := lk_plc hms
      refine ⟨setK m j y, ?_, fin _ (mp_setK hm) (fun r => by rw [lk_setK hm.map hj, hy])⟩
      show rawO m ((F (a.Kids.getD i default) y).map (und (a.Names.getD i default))) = _
      rw [raw_und (hg _ _) hj, ej, hF _ _ _ hx hy]
      rfl
    | none =>
      obtain ⟨m', e, h1, h2⟩ := rem_lk hm.map ((lk_mem hm.map).1 (by rw [hms]; rfl))
      refine ⟨m', ?_, fin _ h1 (fun r => by rw [h2, hy])⟩
      show rawO m [OpT.mk 2 [a.Names.getD i default] [] noNode] = _
      rw [raw_one, apply_rem, e]) a.Kids.length 0 a (by omega) ⟨ma, fun r => by simp⟩
  obtain ⟨m1, e1, hm1, h1⟩ := p1
  have h1' : ∀ r, lk m1 r = if r ∈ a.Names then lk b r else none := fun r => by
    rw [h1, List.take_of_length_le (by omega)]
    by_cases c : r ∈ a.Names
    · rw [if_pos c, if_pos c]
    · rw [if_neg c, if_neg c, (lk_none ma.map).2 c]
  have p2 := raw_flat (N := b.Kids.length) (P := fun k m => Mp m ∧ ∀ r, lk m r = if r ∈ a.Names ∨ r ∈ b.Names.take k then lk b r else none)
    (g := fun k => if (lk a (b.Names.getD k default)).isSome then [] else [OpT.mk 1 [b.Names.getD k default] [] (b.Kids.getD k default)]) (by
    intro k m hk ⟨hm, hr⟩
    have hk' : k < b.Names.length := by rw [← hlb]; exact hk
    have hy := lk_at mb.map hk
    have hnt := not_take mb.map hk'
    by_cases c : (lk a (b.Names.getD k default)).isSome = true
    · have ca := (lk_mem ma.map).1 c
      refine ⟨m, by simp only [c, if_true]; rfl, hm, fun r => ?_⟩
      rw [hr]
      by_cases d : r ∈ a.Names ∨ r ∈ b.Names.take k
      · rw [if_pos d, if_pos (d.imp_right fun q => (mem_take_succ hk').2 (.inl q))]
      · rw [if_neg d, if_neg]
        rintro (q | q)
        · exact d (.inl q)
        · rcases (mem_take_succ hk').1 q with q | q
          · exact d (.inr q)
          · exact d (.inl (q ▸ ca))
    · have ca : b.Names.getD k default ∉ a.Names := fun q => c ((lk_mem ma.map).2 q)
      have hn : b.Names.getD k default ∉ m.Names := by
        rw [← lk_none hm.map, hr, if_neg]
        rintro (q | q)
        · exact ca q
        · exact hnt q
      obtain ⟨m', e, g1, g2⟩ := add_lk (v := b.Kids.getD k default) hm.map hn
      refine ⟨m', ?_, g1, fun r => ?_⟩
      · simp only [c]
        show rawO m [OpT.mk 1 [b.Names.getD k default] [] (b.Kids.getD k default)] = _
        rw [raw_one, apply_add, e]
      · rw [g2]
        by_cases d : r = b.Names.getD k default
        · rw [if_pos d, if_pos (.inr ((mem_take_succ hk').2 (.inr d))), d, hy]
        · rw [if_neg d, hr]
          by_cases q : r ∈ a.Names ∨ r ∈ b.Names.take k
          · rw [if_pos q, if_pos (q.imp_right fun w => (mem_take_succ hk').2 (.inl w))]
          · rw [if_neg q, if_neg]
            rintro (w | w)
            · exact q (.inl w)
            · rcases (mem_take_succ hk').1 w with w | w
              · exact q (.inr w)
              · exact d w) b.Kids.length 0 m1 (by omega) ⟨hm1, fun r => by rw [h1']; simp⟩
  obtain ⟨m2, e2, hm2, h2⟩ := p2
  have : m2 = b := map_ext hm2.map mb.map (by rw [hm2.num, mb.num]) (by rw [hm2.text, mb.text]) (fun r => by
    rw [h2, List.take_of_length_le (by omega)]
    by_cases c : r ∈ a.Names ∨ r ∈ b.Names
    · rw [if_pos c]
    · rw [if_neg c]
      exact ((lk_none mb.map).2 (fun q => c (.inr q))).symm)
  subst this
  unfold dMaps
  rw [raw_app, e1]
  exact e2
def ln (l : List NodeT) : NodeT := NodeT.mk 3 0 [] [] l
theorem ln_of {n : NodeT} (h : Parts n = true) (hk : n.Kind = 3) : n = ln n.Kids ∧ n.Kids.length ≤ 6 := by
  obtain ⟨h1, h2, h3, h4⟩ := parts_list h hk
  refine ⟨?_, h4⟩
  cases n with
  | mk k nu t na ki =>
    simp only at h1 h2 h3 hk
    subst h1 h2 h3 hk
    rfl
theorem decN_inj {i j : Nat} (hi : i < 10) (hj : j < 10) (h : decN i = decN j) : i = j := by
  rw [decN_small hi, decN_small hj, List.cons.injEq] at h
  have := congrArg UInt8.toNat h.1
  rw [UInt8.toNat_ofNat', UInt8.toNat_ofNat'] at this
  omega
theorem plc_ln {l : List NodeT} (hl : l.length ≤ 9) {i : Nat} (hi : i ≤ l.length) : plc (ln l) (decN i) = if i < l.length then some i else none := by
  have hh : ∀ q, q < 10 → hit (ln l) (decN i) q = true → q = i := fun q hq h => by
    rw [hit_list (n := ln l) rfl, beq_iff_eq] at h
    exact decN_inj hq (by omega) h
  by_cases c : i < l.length
  · rw [if_pos c, plc_some]
    refine ⟨c, by rw [hit_list (n := ln l) rfl]; simp, fun q hq => ?_⟩
    cases e : hit (ln l) (decN i) q with
    | false => rfl
    | true => have := hh q (by omega) e; omega
  · rw [if_neg c, plc_none]
    intro q hq
    have hq' : q < l.length := hq
    cases e : hit (ln l) (decN i) q with
    | false => rfl
    | true => have := hh q (by omega) e; omega
theorem rem_ln {l : List NodeT} {i : Nat} (hl : l.length ≤ 9) (hi : i < l.length) : remN (ln l) (decN i) = some (ln (dropL l i)) := by
  unfold remN
  rw [plc_ln hl (by omega), if_pos hi]
  rfl
theorem add_ln {l : List NodeT} {v : NodeT} (hl : l.length ≤ 9) : addN (ln l) (decN l.length) v = some (ln (l ++ [v])) := by
  unfold addN
  rw [plc_ln hl (by omega), if_neg (by omega)]
  show (if (3 : Int) = 3 then _ else _) = _
  rw [if_pos rfl, if_pos (.inr rfl)]
  show some (ln (insL l l.length v)) = _
  unfold insL
  simp
theorem raw_rems {lb : Nat} : ∀ (k : Nat) (l : List NodeT), l.length = lb + k → l.length ≤ 9 → rawO (ln l) ((List.range' lb k).reverse.map fun i => OpT.mk 2 [decN i] [] noNode) = some (ln (l.take lb)) := by
  intro k
  induction k with
  | zero =>
    intro l hl _
    rw [List.take_of_length_le (by omega)]
    rfl
  | succ k ih =>
    intro l hl h9
    rw [List.range'_concat, List.reverse_append, List.reverse_singleton, List.singleton_append, List.map_cons, rawO, apply_rem, Nat.one_mul, rem_ln h9 (by omega)]
    have hd := dropL_len (l := l) (k := lb + k) (by omega)
    show rawO (ln (dropL l (lb + k))) _ = _
    rw [ih _ (by omega) (by omega)]
    congr 2
    unfold dropL
    rw [List.drop_of_length_le (by omega), List.append_nil, List.take_take, Nat.min_eq_left (by omega)]
theorem raw_adds {L : List NodeT} : ∀ (k i : Nat), i + k = L.length → L.length ≤ 9 → rawO (ln (L.take i)) ((List.range' i k).map fun i => OpT.mk 1 [decN i] [] (L.getD i default)) = some (ln L) := by
  intro k
  induction k with
  | zero =>
    intro i hi _
    rw [List.take_of_length_le (by omega)]
    rfl
  | succ k ih =>
    intro i hi h9
    have e : (L.take i).length = i := by simp; omega
    have ha := add_ln (l := L.take i) (v := L.getD i default) (by omega)
    rw [e] at ha
    rw [List.range'_succ, List.map_cons, rawO, apply_add, ha]
    show rawO (ln (L.take i ++ [L.getD i default])) _ = _
    rw [getD_of_lt _ (by omega : i < L.length), ← List.take_succ_eq_append_getElem (by omega)]
    exact ih (i + 1) (by omega) h9
theorem raw_lists {F : NodeT → NodeT → List OpT} {A B : List NodeT} (ha : A.length ≤ 6) (hb : B.length ≤ 6) (hg : ∀ x y o, o ∈ F x y → GoodO o)
    (hF : ∀ x y, x ∈ A → y ∈ B → rawO x (F x y) = some y) : rawO (ln A) (dLists F (ln A) (ln B)) = some (ln B) := by
  have p1 := raw_flat (N := min A.length B.length) (P := fun i m => m = ln (B.take i ++ A.drop i))
    (g := fun i => (F (A.getD i default) (B.getD i default)).map (und (decN i))) (by
    intro i m hi e
    subst e
    have ia : i < A.length := by omega
    have ib : i < B.length := by omega
    have hl : (B.take i ++ A.drop i).length = A.length := by simp; omega
    have hp := plc_ln (l := B.take i ++ A.drop i) (by omega) (i := i) (by omega)
    rw [if_pos (by omega)] at hp
    have hk : (ln (B.take i ++ A.drop i)).Kids.getD i default = A.getD i default := by
      show (B.take i ++ A.drop i).getD i default = _
      have e1 : (B.take i).length = i := by simp; omega
      simp only [List.getD]
      rw [List.getElem?_append_right (by omega), e1, List.getElem?_drop]
      simp
    refine ⟨_, by rw [raw_und (hg _ _) hp, hk, hF _ _ (getD_mem default ia) (getD_mem default ib)]; rfl, ?_⟩
    show ln ((B.take i ++ A.drop i).set i (B.getD i default)) = ln (B.take (i + 1) ++ A.drop (i + 1))
    congr 1
    have e1 : (B.take i).length = i := by simp; omega
    rw [List.set_append_right _ _ (by omega), e1, Nat.sub_self, drop_of_lt (default : NodeT) ia, List.set_cons_zero, List.take_succ_eq_append_getElem ib, List.append_assoc, getD_of_lt _ ib]
    rfl) (min A.length B.length) 0 (ln A) (by omega) (by simp)
  obtain ⟨m1, e1, rfl⟩ := p1
  show rawO (ln A) (dLists F (ln A) (ln B)) = some (ln B)
  unfold dLists
  show rawO (ln A) (((List.range' 0 (min A.length B.length)).flatMap fun i => (F (A.getD i default) (B.getD i default)).map (und (decN i))) ++
    ((List.range' B.length (A.length - B.length)).reverse.map fun i => OpT.mk 2 [decN i] [] noNode) ++ ((List.range' A.length (B.length - A.length)).map fun i => OpT.mk 1 [decN i] [] (B.getD i default))) = _
  rw [raw_app, raw_app, e1, Option.bind_some]
  by_cases c : A.length ≤ B.length
  · have z : A.length - B.length = 0 := by omega
    rw [z, Nat.min_eq_left c, List.drop_of_length_le (Nat.le_refl _), List.append_nil]
    exact raw_adds _ _ (by omega) (by omega)
  · have z : B.length - A.length = 0 := by omega
    rw [z, Nat.min_eq_right (by omega), raw_rems (A.length - B.length) _ (by simp) (by simp; omega), Option.bind_some]
    show some (ln ((B.take B.length ++ A.drop B.length).take B.length)) = some (ln B)
    rw [List.take_length, List.take_left]
theorem diff_raw : ∀ (d : Nat) {a b : NodeT}, Shape d a = true → Shape d b = true → rawO a (diffM d a b) = some b
  | 0, _, _, h, _ => by cases h
  | d + 1, a, b, ha, hb => by
    rw [diffM_succ]
    have pa := shape_parts ha
    have pb := shape_parts hb
    by_cases e : a = b
    · rw [if_pos e, e]; rfl
    rw [if_neg e]
    by_cases h4 : a.Kind = 4 ∧ b.Kind = 4
    · rw [if_pos h4]
      exact raw_maps (mp_of pa h4.1) (mp_of pb h4.2) (fun x y o h => diffM_good d h) (fun s x y hx hy => diff_raw d (kid_shape ha hx) (kid_shape hb hy))
    rw [if_neg h4]
    by_cases h3 : a.Kind = 3 ∧ b.Kind = 3
    · rw [if_pos h3]
      obtain ⟨ea, la⟩ := ln_of pa h3.1
      obtain ⟨eb, lb⟩ := ln_of pb h3.2
      rw [ea, eb]
      exact raw_lists la lb (fun x y o h => diffM_good d h) (fun x y hx hy => diff_raw d (shape_kids ha x hx) (shape_kids hb y hy))
    rw [if_neg h3, raw_one, apply_set]
structure DifO (d : Nat) (o : OpT) : Prop where
  k1 : 1 ≤ o.Kind
  k3 : o.Kind ≤ 3
  frm : o.From = []
  len : o.Path.length ≤ d
  txt : ∀ s, s ∈ o.Path → s.length ≤ 12
  val : Fine 12 5 o.Value
theorem fine_none : Fine 12 5 noNode := val_fine val_no
theorem dif_und {d : Nat} {s : Txt} {o : OpT} (h : DifO d o) (hs : s.length ≤ 12) : DifO (d + 1) (und s o) :=
  ⟨h.k1, h.k3, rfl, by show (s :: o.Path).length ≤ _; have := h.len; simp; omega, fun t ht => by rcases List.mem_cons.1 ht with e | e; exact e ▸ hs; exact h.txt t e, h.val⟩
theorem dif_one {d : Nat} {k : Int} {s : Txt} {v : NodeT} (h1 : 1 ≤ k) (h3 : k ≤ 3) (hs : s.length ≤ 12) (hv : Fine 12 5 v) : DifO (d + 1) (OpT.mk k [s] [] v) :=
  ⟨h1, h3, rfl, by simp, fun t ht => by rw [List.mem_singleton.1 ht]; exact hs, hv⟩
theorem decN_short {i : Nat} (h : i < 10) : (decN i).length ≤ 12 := by rw [decN_small h]; simp
theorem shape_f {d : Nat} {n : NodeT} (hd : d ≤ 5) (h : Shape d n = true) : Fine 12 5 n := (shape_fine h).mono (Nat.le_refl _) hd
theorem diff_ops : ∀ (d : Nat) {a b : NodeT} {o : OpT}, d ≤ 5 → Shape d a = true → Shape d b = true → o ∈ diffM d a b → DifO d o
  | 0, _, _, _, _, h, _, _ => by cases h
  | d + 1, a, b, o, hd, ha, hb, h => by
    rw [diffM_succ] at h
    have pa := shape_parts ha
    have pb := shape_parts hb
    have hla := shape_len ha
    have hlb := shape_len hb
    split at h
    · cases h
    · split at h
      · rename_i h4
        obtain ⟨ma, _, na⟩ := mapN_of pa h4.1
        obtain ⟨mb, _, nb⟩ := mapN_of pb h4.2
        have la := ma.len
        have lb := mb.len
        rcases List.mem_append.1 h with h | h
        · obtain ⟨i, hi, h⟩ := List.mem_flatMap.1 h
          have hi' : i < a.Kids.length := by simp at hi; exact hi
          have hs := na _ (getD_mem default (show i < a.Names.length by omega))
          split at h
          · rename_i y hy
            obtain ⟨q, hq, rfl⟩ := List.mem_map.1 h
            exact dif_und (diff_ops d (by omega) (shape_kid ha hi') (kid_shape hb hy) hq) hs
          · rw [List.mem_singleton] at h; subst h; exact dif_one (by omega) (by omega) hs fine_none
        · obtain ⟨i, hi, h⟩ := List.mem_flatMap.1 h
          have hi' : i < b.Kids.length := by simp at hi; exact hi
          have hs := nb _ (getD_mem default (show i < b.Names.length by omega))
          split at h
          · cases h
          · rw [List.mem_singleton] at h; subst h; exact dif_one (by omega) (by omega) hs (shape_f (by omega) (shape_kid hb hi'))
      · split at h
        · rcases List.mem_append.1 h with h | h
          · rcases List.mem_append.1 h with h | h
            · obtain ⟨i, hi, h⟩ := List.mem_flatMap.1 h
              have hi' : i < a.Kids.length ∧ i < b.Kids.length := by simp at hi; omega
              obtain ⟨q, hq, rfl⟩ := List.mem_map.1 h
              exact dif_und (diff_ops d (by omega) (shape_kid ha hi'.1) (shape_kid hb hi'.2) hq) (decN_short (by omega))
            · obtain ⟨i, hi, rfl⟩ := List.mem_map.1 h
              have hi' : i < 6 := by simp at hi; omega
              exact dif_one (by omega) (by omega) (decN_short (by omega)) fine_none
          · obtain ⟨i, hi, rfl⟩ := List.mem_map.1 h
            have hi' : i < b.Kids.length := by simp at hi; omega
            exact dif_one (by omega) (by omega) (decN_short (by omega)) (shape_f (by omega) (shape_kid hb hi'))
        · rw [List.mem_singleton] at h; subst h
          exact ⟨(by show (1:Int) ≤ 3; omega), (by show (3:Int) ≤ 3; omega), rfl, (by simp), (fun t ht => (by cases ht)), shape_f hd hb⟩
theorem flat_len {g : Nat → List OpT} {f : Nat → Nat} : ∀ (k i : Nat), (∀ j, i ≤ j → j < i + k → (g j).length ≤ f j) → ((List.range' i k).flatMap g).length ≤ ((List.range' i k).map f).sum := by
  intro k
  induction k with
  | zero => intro i _; simp
  | succ k ih =>
    intro i h
    have h1 := h i (by omega) (by omega)
    have h2 := ih (i + 1) (fun j h1 h2 => h j (by omega) (by omega))
    rw [List.range'_succ, List.flatMap_cons, List.length_append, List.map_cons, List.sum_cons]
    omega
theorem sum_range {f : NodeT → Nat} : ∀ (k i : Nat) (l : List NodeT), i + k ≤ l.length → ((List.range' i k).map fun j => f (l.getD j default)).sum ≤ ((l.drop i).map f).sum := by
  intro k
  induction k with
  | zero => intro i l _; simp
  | succ k ih =>
    intro i l h
    rw [List.range'_succ, List.map_cons, List.sum_cons, drop_of_lt (default : NodeT) (by omega : i < l.length), List.map_cons, List.sum_cons]
    have := ih (i + 1) l (by omega)
    omega
theorem cnt_pos {d : Nat} {n : NodeT} (h : Shape d n = true) : 1 ≤ Cnt d n := by
  cases d with
  | zero => cases h
  | succ d => unfold Cnt; omega
theorem sum_mul {f : NodeT → Nat} {c : Nat} : ∀ l : List NodeT, (l.map fun x => c * f x).sum = c * (l.map f).sum
  | [] => by simp
  | x :: l => by rw [List.map_cons, List.sum_cons, List.map_cons, List.sum_cons, sum_mul l, Nat.mul_add]
theorem diff_len : ∀ (d : Nat) {a b : NodeT}, Shape d a = true → Shape d b = true → (diffM d a b).length ≤ 13 * Cnt d a
  | 0, _, _, h, _ => by cases h
  | d + 1, a, b, ha, hb => by
    rw [diffM_succ]
    have pa := shape_parts ha
    have pb := shape_parts hb
    have hla := shape_len ha
    have hlb := shape_len hb
    have hc : Cnt (d + 1) a = 1 + (a.Kids.map (Cnt d)).sum := by rw [Cnt]
    have hs := sum_range (f := fun x => 13 * Cnt d x) a.Kids.length 0 a.Kids (by omega)
    rw [List.drop_zero, sum_mul] at hs
    have hs' := sum_range (f := fun x => 13 * Cnt d x) (min a.Kids.length b.Kids.length) 0 a.Kids (by omega)
    rw [List.drop_zero, sum_mul] at hs'
    split
    · simp
    · split
      · rename_i h4
        unfold dMaps
        rw [List.length_append]
        have f1 := flat_len (f := fun i => 13 * Cnt d (a.Kids.getD i default)) (g := fun i => match lk b (a.Names.getD i default) with
          | some y => (diffM d (a.Kids.getD i default) y).map (und (a.Names.getD i default))
          | none => [OpT.mk 2 [a.Names.getD i default] [] noNode]) a.Kids.length 0 (fun j _ hj => by
            have hk := shape_kid ha (show j < a.Kids.length by omega)
            show List.length (match lk b (a.Names.getD j default) with | some y => _ | none => _) ≤ _
            split
            · rename_i y hy
              rw [List.length_map]
              exact diff_len d hk (kid_shape hb hy)
            · have := cnt_pos hk
              simp only [List.length_singleton]; omega)
        have f2 := flat_len (f := fun _ => 1) (g := fun k => if (lk a (b.Names.getD k default)).isSome then [] else [OpT.mk 1 [b.Names.getD k default] [] (b.Kids.getD k default)]) b.Kids.length 0 (fun j _ _ => by
            show List.length (if _ then _ else _) ≤ _
            split <;> simp)
        simp only [List.map_const', List.length_range', List.sum_replicate_nat] at f2
        omega
      · split
        · unfold dLists
          rw [List.length_append, List.length_append, List.length_map, List.length_map, List.length_reverse, List.length_range', List.length_range']
          have f1 := flat_len (f := fun i => 13 * Cnt d (a.Kids.getD i default)) (g := fun i => (diffM d (a.Kids.getD i default) (b.Kids.getD i default)).map (und (decN i))) (min a.Kids.length b.Kids.length) 0 (fun j _ hj => by
            show List.length ((diffM d (a.Kids.getD j default) (b.Kids.getD j default)).map (und (decN j))) ≤ _
            rw [List.length_map]
            exact diff_len d (shape_kid ha (by omega)) (shape_kid hb (by omega)))
          omega
        · simp only [List.length_singleton]; omega
end Go.Ab
end
section
namespace Go.Ab
open Go
set_option maxRecDepth 100000
set_option linter.unusedSectionVars false
def gA (F : NodeT → NodeT → List OpT) (a b : NodeT) (i : Nat) : List OpT := match lk b (a.Names.getD i default) with
    | some y => (F (a.Kids.getD i default) y).map (und (a.Names.getD i default))
    | none => [OpT.mk 2 [a.Names.getD i default] [] noNode]
def gB (a b : NodeT) (k : Nat) : List OpT := if (lk a (b.Names.getD k default)).isSome then [] else [OpT.mk 1 [b.Names.getD k default] [] (b.Kids.getD k default)]
def gL (F : NodeT → NodeT → List OpT) (a b : NodeT) (i : Nat) : List OpT := (F (a.Kids.getD i default) (b.Kids.getD i default)).map (und (decN i))
def remO (i : Nat) : OpT := OpT.mk 2 [decN i] [] noNode
def addO (b : NodeT) (i : Nat) : OpT := OpT.mk 1 [decN i] [] (b.Kids.getD i default)
theorem dMaps_eq {F : NodeT → NodeT → List OpT} {a b : NodeT} : dMaps F a b = (List.range' 0 a.Kids.length).flatMap (gA F a b) ++ (List.range' 0 b.Kids.length).flatMap (gB a b) := rfl
theorem dLists_eq {F : NodeT → NodeT → List OpT} {a b : NodeT} : dLists F a b = (List.range' 0 (min a.Kids.length b.Kids.length)).flatMap (gL F a b) ++
    ((List.range' (min a.Kids.length b.Kids.length) (a.Kids.length - min a.Kids.length b.Kids.length)).reverse.map remO ++
    (List.range' (min a.Kids.length b.Kids.length) (b.Kids.length - min a.Kids.length b.Kids.length)).map (addO b)) := by
  unfold dLists gL
  rw [List.append_assoc]
  by_cases c : a.Kids.length ≤ b.Kids.length
  · rw [Nat.min_eq_left c, Nat.sub_eq_zero_of_le c, Nat.sub_self]; rfl
  · rw [Nat.min_eq_right (by omega), Nat.sub_eq_zero_of_le (show b.Kids.length ≤ a.Kids.length by omega), Nat.sub_self]; rfl
theorem imin {a b : Nat} : (if ((b : Nat) : Int) < ((a : Nat) : Int) then ((b : Nat) : Int) else ((a : Nat) : Int)) = ((min a b : Nat) : Int) := by
  by_cases h : b < a
  · rw [if_pos (by omega)]; omega
  · rw [if_neg (by omega)]; omega
theorem wrap_in {x : Int} (h0 : -9223372036854775808 ≤ x) (h1 : x < 9223372036854775808) : IntKind.wrap .i64 x = x := by
  simp only [IntKind.wrap, IntKind.bits, IntKind.signed]
  simp
  omega
theorem plcI_neg {o : Option Nat} : decide (plcI o < 0) = !o.isSome := by
  cases o with
  | none => rfl
  | some j => exact decide_eq_false (by simp only [plcI]; omega)
theorem lk_isSome {n : NodeT} {s : Txt} : (lk n s).isSome = (plc n s).isSome := by unfold lk; rw [Option.isSome_map]
theorem cnt_bound {d : Nat} {a : NodeT} (hd : d ≤ 5) (h : Shape d a = true) : 13 * Cnt d a ≤ 300000 := by
  have := cnt_le h
  have := pow_le hd
  omega
theorem diff_short {d : Nat} {a b : NodeT} (hd : d ≤ 5) (ha : Shape d a = true) (hb : Shape d b = true) : (diffM d a b).length ≤ 300000 := by
  have := diff_len d ha hb
  have := cnt_bound hd ha
  omega
section
variable {d : Nat} {a b : NodeT} (hd : d ≤ 4) (ha : Shape (d + 1) a = true) (hb : Shape (d + 1) b = true)
include hd ha hb
end
def upn (p : List Txt) (o : OpT) : OpT := OpT.mk o.Kind (p ++ o.Path) [] o.Value
theorem upn_und {p : List Txt} {s : Txt} {o : OpT} : upn p (und s o) = upn (p ++ [s]) o := by simp [upn, und]
theorem map_und {p : List Txt} {s : Txt} {l : List OpT} : (l.map (und s)).map (upn p) = l.map (upn (p ++ [s])) := by
  rw [List.map_map]
  congr 1
  funext o
  exact upn_und
theorem T.bs {n : NodeT} (s : Txt) (h : MapN n) (hl : n.Names.length ≤ 1000) : ∃ p : Nat, Ev (fun f => G.slices_BinarySearch_string f n.Names s) ((p : Int), (plc n s).isSome) ∧ ∀ j, plc n s = some j → p = j := by
  obtain ⟨p, g, hp⟩ := T.slices_BinarySearch_string s (by unfold big; omega) h.asc
  have hpl := plc_lb h.kind h.asc h.len hp
  cases hc : decide (p < n.Names.length) && n.Names.getD p default == s with
  | true =>
    rw [hc] at g hpl
    rw [if_pos rfl] at hpl
    refine ⟨p, by rw [hpl]; exact g, fun j hj => ?_⟩
    rw [hpl] at hj
    exact Option.some.inj hj
  | false =>
    rw [hc] at g hpl
    rw [if_neg (by simp)] at hpl
    refine ⟨p, by rw [hpl]; exact g, fun j hj => ?_⟩
    rw [hpl] at hj
    cases hj
section
variable {d : Nat} {a b : NodeT} {p : List Txt} (hd : d ≤ 4) (hp : p.length + (d + 1) ≤ 100) (ha : Shape (d + 1) a = true) (hb : Shape (d + 1) b = true)
include hd hp ha hb
theorem T.visitMaps.L2 (ma : MapN a) (mb : MapN b) : ∀ (t k : Nat) (z : List OpT), k + t = b.Kids.length → z.length + t ≤ 100000000 →
    Ev (fun f => G.impl_differences_visitMaps.L2 f a b p (k : Int) z) (DifferencesT.mk (z ++ ((List.range' k t).flatMap (gB a b)).map (upn p))) := by
  have hlb := mb.len
  have hla := ma.len
  have h6 := shape_len hb
  have h7 := shape_len ha
  intro t
  induction t with
  | zero =>
    intro k z hk hz
    refine Ev.up ?_
    simp only [G.impl_differences_visitMaps.L2]
    exact Ev.cf (decide_eq_false (by omega)) (Ev.ret' (by simp))
  | succ t ih =>
    intro k z hk hz
    obtain ⟨q, gq, hq⟩ := T.bs (b.Names.getD k default) ma (by omega)
    refine Ev.up ?_
    simp only [G.impl_differences_visitMaps.L2, Int.toNat_natCast, wrap_suc (show k + 1 < 9223372036854775808 by omega)]
    refine Ev.ct (decide_eq_true (by omega)) (Ev.chk (by omega) (Ev.bind gq ?_))
    rw [← lk_isSome, List.range'_succ, List.flatMap_cons, List.map_append]
    refine Ev.ite (fun e => ?_) (fun e => ?_)
    · refine (ih (k + 1) _ (by omega) (by omega)).eq ?_
      have g : gB a b k = [] := by unfold gB; rw [show (lk a (b.Names.getD k default)).isSome = true from e]; rfl
      rw [g]
      rfl
    · refine Ev.bind (T.impl_stepBehind (by omega)) (Ev.chk (by omega) (Ev.bind (T.impl_put lim12 (shape_fine (shape_kid hb (by omega))) (by simp; omega) (by show z.length ≤ _; omega)) ?_))
      refine (ih (k + 1) _ (by omega) (by simp; omega)).eq ?_
      have g : gB a b k = [OpT.mk 1 [b.Names.getD k default] [] (b.Kids.getD k default)] := by unfold gB; rw [show (lk a (b.Names.getD k default)).isSome = false from e]; rfl
      rw [g]
      simp [upn]
theorem T.visitMaps.L1 (ma : MapN a) (mb : MapN b) (hs : ∀ x y q D, q.length + d ≤ 100 → D.list.length + 3000000 * d ≤ 99000000 → Shape d x = true → Shape d y = true → Ev (fun f => G.impl_differences_visit f D x y q) (DifferencesT.mk (D.list ++ (diffM d x y).map (upn q)))) :
    ∀ (t i : Nat) (z : List OpT), i + t = a.Kids.length → z.length + 300000 * t + 3000000 * d ≤ 99000000 →
    Ev (fun f => G.impl_differences_visitMaps.L1 f a b p (i : Int) z) (DifferencesT.mk (z ++ ((List.range' i t).flatMap (gA (diffM d) a b) ++ (List.range' 0 b.Kids.length).flatMap (gB a b)).map (upn p))) := by
  have hla := ma.len
  have hlb := mb.len
  have h6 := shape_len ha
  have h7 := shape_len hb
  intro t
  induction t with
  | zero =>
    intro i z hi hz
    refine Ev.up ?_
    simp only [G.impl_differences_visitMaps.L1]
    exact Ev.cf (decide_eq_false (by omega)) ((T.visitMaps.L2 hd hp ha hb ma mb b.Kids.length 0 z (by omega) (by omega)).eq (by simp))
  | succ t ih =>
    intro i z hi hz
    have hx := shape_kid ha (show i < a.Kids.length by omega)
    obtain ⟨q, gq, hq⟩ := T.bs (a.Names.getD i default) mb (by omega)
    refine Ev.up ?_
    simp only [G.impl_differences_visitMaps.L1, Int.toNat_natCast, wrap_suc (show i + 1 < 9223372036854775808 by omega)]
    refine Ev.ct (decide_eq_true (by omega)) (Ev.chk (by omega) (Ev.bind gq ?_))
    rw [List.range'_succ, List.flatMap_cons]
    cases hpl : plc b (a.Names.getD i default) with
    | none =>
      have g : gA (diffM d) a b i = [OpT.mk 2 [a.Names.getD i default] [] noNode] := by unfold gA lk; rw [hpl]; rfl
      refine Ev.cf rfl (Ev.bind (T.impl_stepBehind (by omega)) (Ev.bind (T.impl_put lim12 fine_none (by simp; omega) (by show z.length ≤ _; omega)) ?_))
      refine (ih (i + 1) _ (by omega) (by simp; omega)).eq ?_
      rw [g]
      simp [noNode, upn]
    | some j =>
      have hj := plc_lt hpl
      have hy := shape_kid hb hj
      have e := hq j hpl
      subst e
      have g : gA (diffM d) a b i = (diffM d (a.Kids.getD i default) (b.Kids.getD q default)).map (und (a.Names.getD i default)) := by unfold gA lk; rw [hpl]; rfl
      have hl := diff_short (by omega) hx hy
      simp only [Int.toNat_natCast]
      refine Ev.ct rfl (Ev.chk (by omega) (Ev.chk (by omega) (Ev.bind (T.impl_stepBehind (by omega)) (Ev.bind (hs _ _ _ _ (by simp; omega) (by show z.length + _ ≤ _; omega) hx hy) ?_))))
      refine (ih (i + 1) _ (by omega) (by show (z ++ List.map _ _).length + _ + _ ≤ _; rw [List.length_append, List.length_map]; omega)).eq ?_
      rw [g]
      simp only [List.map_append, map_und, List.append_assoc]
theorem T.visitLists.L3 : ∀ (t i : Nat) (z : List OpT), i + t = b.Kids.length → z.length + t ≤ 100000000 →
    Ev (fun f => G.impl_differences_visitLists.L3 f b p (i : Int) z) (DifferencesT.mk (z ++ ((List.range' i t).map (addO b)).map (upn p))) := by
  have h6 := shape_len hb
  intro t
  induction t with
  | zero =>
    intro i z hi hz
    refine Ev.up ?_
    simp only [G.impl_differences_visitLists.L3]
    exact Ev.cf (decide_eq_false (by omega)) (Ev.ret' (by simp))
  | succ t ih =>
    intro i z hi hz
    refine Ev.up ?_
    simp only [G.impl_differences_visitLists.L3, Int.toNat_natCast, wrap_suc (show i + 1 < 9223372036854775808 by omega)]
    refine Ev.ct (decide_eq_true (by omega)) (Ev.bind (T.strconv_Itoa (by omega)) (Ev.bind (T.impl_stepBehind (by omega)) (Ev.chk (by omega) (Ev.bind (T.impl_put lim12 (shape_fine (shape_kid hb (by omega))) (by simp; omega) (by show z.length ≤ _; omega)) ?_))))
    refine (ih (i + 1) _ (by omega) (by simp; omega)).eq ?_
    rw [List.range'_succ]
    simp [addO, upn]
theorem T.visitLists.L2 : ∀ (t : Nat) (x : Int) (z : List OpT), min a.Kids.length b.Kids.length + t ≤ 6 → x = ((min a.Kids.length b.Kids.length + t : Nat) : Int) - 1 → z.length + t ≤ 99500000 →
    Ev (fun f => G.impl_differences_visitLists.L2 f a b p x z) (DifferencesT.mk (z ++ ((List.range' (min a.Kids.length b.Kids.length) t).reverse.map remO ++ (List.range' (min a.Kids.length b.Kids.length) (b.Kids.length - min a.Kids.length b.Kids.length)).map (addO b)).map (upn p))) := by
  have h6 := shape_len hb
  intro t
  induction t with
  | zero =>
    intro x z hm hx hz
    refine Ev.up ?_
    simp only [G.impl_differences_visitLists.L2, imin]
    exact Ev.cf (decide_eq_false (by omega)) ((T.visitLists.L3 hd hp ha hb (b.Kids.length - min a.Kids.length b.Kids.length) _ z (by omega) (by omega)).eq (by simp))
  | succ t ih =>
    intro x z hm hx hz
    have ex : x = ((min a.Kids.length b.Kids.length + t : Nat) : Int) := by omega
    subst ex
    refine Ev.up ?_
    simp only [G.impl_differences_visitLists.L2, imin]
    refine Ev.ct (decide_eq_true (by omega)) (Ev.bind (T.strconv_Itoa (by omega)) (Ev.bind (T.impl_stepBehind (by omega)) (Ev.bind (T.impl_put lim12 fine_none (by simp; omega) (by show z.length ≤ _; omega)) ?_)))
    rw [wrap_in (by omega) (by omega)]
    refine (ih _ _ (by omega) rfl (by simp; omega)).eq ?_
    rw [List.range'_concat, List.reverse_append, List.reverse_singleton, Nat.one_mul]
    simp [remO, noNode, upn]
theorem T.visitLists.L1 (hs : ∀ x y q D, q.length + d ≤ 100 → D.list.length + 3000000 * d ≤ 99000000 → Shape d x = true → Shape d y = true → Ev (fun f => G.impl_differences_visit f D x y q) (DifferencesT.mk (D.list ++ (diffM d x y).map (upn q)))) :
    ∀ (t i : Nat) (z : List OpT), i + t = min a.Kids.length b.Kids.length → z.length + 300000 * t + 3000000 * d ≤ 99000000 →
    Ev (fun f => G.impl_differences_visitLists.L1 f a b p (i : Int) z) (DifferencesT.mk (z ++ ((List.range' i t).flatMap (gL (diffM d) a b) ++ ((List.range' (min a.Kids.length b.Kids.length) (a.Kids.length - min a.Kids.length b.Kids.length)).reverse.map remO ++
    (List.range' (min a.Kids.length b.Kids.length) (b.Kids.length - min a.Kids.length b.Kids.length)).map (addO b))).map (upn p))) := by
  have h6 := shape_len ha
  have h7 := shape_len hb
  intro t
  induction t with
  | zero =>
    intro i z hi hz
    refine Ev.up ?_
    have w : IntKind.wrap .i64 (((a.Kids.length : Nat) : Int) - 1) = ((a.Kids.length : Nat) : Int) - 1 := wrap_in (by omega) (by omega)
    simp only [G.impl_differences_visitLists.L1, imin, w]
    exact Ev.cf (decide_eq_false (by omega)) ((T.visitLists.L2 hd hp ha hb (a.Kids.length - min a.Kids.length b.Kids.length) _ z (by omega) (by omega) (by omega)).eq (by simp))
  | succ t ih =>
    intro i z hi hz
    have hx := shape_kid ha (show i < a.Kids.length by omega)
    have hy := shape_kid hb (show i < b.Kids.length by omega)
    have hl := diff_short (by omega) hx hy
    refine Ev.up ?_
    simp only [G.impl_differences_visitLists.L1, imin, Int.toNat_natCast, wrap_suc (show i + 1 < 9223372036854775808 by omega)]
    refine Ev.ct (decide_eq_true (by omega)) (Ev.chk (by omega) (Ev.chk (by omega) (Ev.bind (T.strconv_Itoa (by omega)) (Ev.bind (T.impl_stepBehind (by omega)) (Ev.bind (hs _ _ _ _ (by simp; omega) (by show z.length + _ ≤ _; omega) hx hy) ?_)))))
    refine (ih (i + 1) _ (by omega) (by show (z ++ List.map _ _).length + _ + _ ≤ _; rw [List.length_append, List.length_map]; omega)).eq ?_
    rw [List.range'_succ, List.flatMap_cons]
    simp only [gL, List.map_append, map_und, List.append_assoc]
end
theorem T.visit : ∀ (d : Nat) {a b : NodeT} {p : List Txt} {D : DifferencesT}, d ≤ 5 → p.length + d ≤ 100 → D.list.length + 3000000 * d ≤ 99000000 → Shape d a = true → Shape d b = true → Ev (fun f => G.impl_differences_visit f D a b p) (DifferencesT.mk (D.list ++ (diffM d a b).map (upn p)))
  | 0, _, _, _, _, _, _, _, h, _ => by cases h
  | d + 1, a, b, p, D, hd, hp, hD, ha, hb => by
    have h6 := shape_len ha
    have h7 := shape_len hb
    obtain ⟨v, gs, hv⟩ := T.impl_sameNode ha hb
    have hrec := fun (x y : NodeT) (q : List Txt) (D' : DifferencesT) (hq : q.length + d ≤ 100) (hD' : D'.list.length + 3000000 * d ≤ 99000000) (hx : Shape d x = true) (hy : Shape d y = true) => T.visit d (p := q) (D := D') (by omega) (by omega) hD' hx hy
    have one : Ev (fun f => Option.bind (G.impl_differences_put f D 3 p b) fun v => some v) (DifferencesT.mk (D.list ++ [OpT.mk 3 [] [] b].map (upn p))) := Ev.bind (T.impl_put lim12 (shape_fine hb) (by omega) (by omega)) (Ev.ret' (by simp [upn]))
    refine Ev.up ?_
    simp only [G.impl_differences_visit]
    rw [diffM_succ]
    refine Ev.bind gs ?_
    by_cases e : a = b
    · rw [if_pos e]
      exact Ev.ct (hv.2 e) (Ev.ret' (by simp))
    rw [if_neg e]
    refine Ev.cf (bool_of hv e) ?_
    have k3 : Ev (fun f => cond (a.Kind == 3) (cond (b.Kind == 3) (Option.bind (G.impl_differences_visitLists f D a b p) fun v => some v) (Option.bind (G.impl_differences_put f D 3 p b) fun v => some v)) (Option.bind (G.impl_differences_put f D 3 p b) fun v => some v))
        (DifferencesT.mk (D.list ++ (if a.Kind = 3 ∧ b.Kind = 3 then dLists (diffM d) a b else [OpT.mk 3 [] [] b]).map (upn p))) := by
      refine Ev.ite (fun ka => ?_) (fun ka => ?_)
      · have ka' : a.Kind = 3 := by simpa using ka
        refine Ev.ite (fun kb => ?_) (fun kb => ?_)
        · have kb' : b.Kind = 3 := by simpa using kb
          rw [if_pos ⟨ka', kb'⟩, dLists_eq]
          refine Ev.bind (Ev.up ?_) (Ev.ret _)
          simp only [G.impl_differences_visitLists]
          exact T.visitLists.L1 (by omega) (by omega) ha hb hrec (min a.Kids.length b.Kids.length) 0 _ (by omega) (by omega)
        · have kb' : ¬ b.Kind = 3 := by simpa using kb
          rw [if_neg (fun h => kb' h.2)]
          exact one
      · have ka' : ¬ a.Kind = 3 := by simpa using ka
        rw [if_neg (fun h => ka' h.1)]
        exact one
    refine Ev.ite (fun ka => ?_) (fun ka => ?_)
    · have ka' : a.Kind = 4 := by simpa using ka
      refine Ev.ite (fun kb => ?_) (fun kb => ?_)
      · have kb' : b.Kind = 4 := by simpa using kb
        rw [if_pos ⟨ka', kb'⟩, dMaps_eq]
        refine Ev.bind (Ev.up ?_) (Ev.ret _)
        simp only [G.impl_differences_visitMaps]
        exact T.visitMaps.L1 (by omega) (by omega) ha hb (mapN_of (shape_parts ha) ka').1 (mapN_of (shape_parts hb) kb').1 hrec a.Kids.length 0 _ (by omega) (by omega)
      · have kb' : ¬ b.Kind = 4 := by simpa using kb
        rw [if_neg (fun h => kb' h.2)]
        exact k3
    · have ka' : ¬ a.Kind = 4 := by simpa using ka
      rw [if_neg (fun h => ka' h.1)]
      exact k3
end Go.Ab
end
section
namespace Go.Ab
open Go
set_option maxRecDepth 100000
noncomputable def DifM (a b : NodeT) : List OpT × Bool := if Val a && Val b then (if (PatchM a (diffM 5 a b)).isSome then (diffM 5 a b, true) else ([], false)) else ([], false)
theorem difO_fine {d : Nat} {o : OpT} (hd : d ≤ 5) (h : DifO d o) : FineOE o := by
  refine ⟨5, ⟨by have := h.len; omega, fun s hs => by have := h.txt s hs; omega⟩, ?_, h.val.mono (by omega) (Nat.le_refl _)⟩
  rw [h.frm]
  exact ⟨by simp, fun s hs => by cases hs⟩
theorem diff_fine {a b : NodeT} (ha : Val a = true) (hb : Val b = true) : FineL (diffM 5 a b) := by
  have := diff_len 5 (val_shape ha) (val_shape hb)
  have := val_cnt ha
  exact ⟨by omega, fun o ho => difO_fine (Nat.le_refl _) (diff_ops 5 (by omega) (val_shape ha) (val_shape hb) ho)⟩
theorem upn_nil {l : List OpT} (h : ∀ o, o ∈ l → o.From = []) : l.map (upn []) = l := by
  have : l.map (upn []) = l.map id := List.map_congr_left (fun o ho => by
    have := h o ho
    cases o
    simp only at this
    subst this
    rfl)
  rw [this, List.map_id]
theorem visit5 {a b : NodeT} (ha : Val a = true) (hb : Val b = true) : Ev (fun f => G.impl_differences_visit f (DifferencesT.mk []) a b []) (DifferencesT.mk (diffM 5 a b)) := by
  refine (T.visit 5 (by omega) (by simp) (by simp) (val_shape ha) (val_shape hb)).eq ?_
  rw [upn_nil (fun o ho => (diff_ops 5 (by omega) (val_shape ha) (val_shape hb) ho).frm)]
  rfl
section
variable {B D E : Nat} {a b : NodeT} (hB : B ≤ lim) (ha : Fine B D a) (hb : Fine B E b)
include hB ha hb
theorem T.impl_DiffNodes : Ev (fun f => G.impl_DiffNodes f a b) (DifM a b) := by
  refine Ev.up ?_
  simp only [G.impl_DiffNodes]
  unfold DifM
  refine Ev.bind (T.impl_ValidNode hB ha) (Ev.ite (fun e1 => ?_) (fun e1 => Ev.ret' (by rw [e1]; rfl)))
  refine Ev.bind (T.impl_ValidNode hB hb) (Ev.ite (fun e2 => ?_) (fun e2 => Ev.ret' (by rw [e1, e2]; rfl)))
  refine Ev.up ?_
  simp only [G.impl_DiffNodes.K1]
  rw [e1, e2]
  refine Ev.bind (visit5 e1 e2) (Ev.bind (T.impl_ApplyPatch hB ha (diff_fine e1 e2)) ?_)
  cases PatchM a (diffM 5 a b) with
  | none => exact Ev.cf rfl (Ev.ret _)
  | some m => exact Ev.ct rfl (Ev.ret _)
end
structure Dif (a b : NodeT) : Prop where
  va : Val a = true
  vb : Val b = true
  run : PatchM a (diffM 5 a b) = some b
  is : DifM a b = (diffM 5 a b, true)
  pat : PatV (diffM 5 a b) = true
theorem dif_cases (a b : NodeT) : DifM a b = ([], false) ∨ Dif a b := by
  cases h : Val a && Val b with
  | false => exact .inl (by unfold DifM; rw [h]; rfl)
  | true =>
    obtain ⟨va, vb⟩ : Val a = true ∧ Val b = true := by simpa using h
    cases hp : PatchM a (diffM 5 a b) with
    | none => exact .inl (by unfold DifM; rw [h, hp]; rfl)
    | some m =>
      refine .inr ?_
      obtain ⟨_, hv, hr, _⟩ := patchM_some hp
      have := raw_of_run hr
      rw [diff_raw 5 (val_shape va) (val_shape vb)] at this
      have e := Option.some.inj this
      subst e
      exact ⟨va, vb, hp, by unfold DifM; rw [h, hp]; rfl, hv⟩
theorem N2.fine {x : NodeT × NodeT} (h : N2 x) : ∃ D E, Fine 60 D x.1 ∧ Fine 60 E x.2 := by
  obtain ⟨⟨D, h1⟩, ⟨E, h2⟩⟩ := h
  exact ⟨D, E, h1, h2⟩
end Go.Ab
end
section
namespace Go.Ab
open Go
set_option maxRecDepth 100000
set_option linter.unusedSectionVars false
structure MF (D c : Nat) (m : NodeT) : Prop where
  mp : Mp m
  cnt : m.Names.length ≤ c
  sh : ∀ s, s ∈ m.Names → s.length ≤ 12
  kid : ∀ k, k ∈ m.Kids → Fine 12 D k
theorem MF.fine {D c : Nat} {m : NodeT} (h : MF D c m) (hc : c ≤ 12) : Fine 12 (D + 1) m := by
  have h1 := h.cnt
  have h2 := h.mp.map.len
  exact ⟨by rw [h.mp.text]; simp, by omega, h.sh, by omega, fun _ => by omega, h.kid⟩
theorem ins_length {α : Type} {l : List α} {k : Nat} {v : α} (h : k ≤ l.length) : (insL l k v).length = l.length + 1 := by unfold insL; simp; omega
theorem no_fine {D : Nat} (h : 1 ≤ D) : Fine 12 D noNode := (fine_leaf (by decide) rfl rfl : Fine 12 1 noNode).mono (Nat.le_refl _) h
theorem addN_in {m v : NodeT} {s : Txt} {j : Nat} (h : MapN m) (hj : plc m s = some j) : addN m s v = some (setK m j v) := by
  unfold addN
  rw [hj]
  simp [h.kind]
theorem addN_out {m v : NodeT} {s : Txt} (h : MapN m) (hj : plc m s = none) : addN m s v = some (NodeT.mk 4 0 [] (insL m.Names (slt m s) s) (insL m.Kids (slt m s) v)) := by
  unfold addN
  rw [hj]
  simp [h.kind]
theorem plc_out {m : NodeT} {s : Txt} (h : MapN m) : plc m s = none ↔ s ∉ m.Names := by
  rw [← lk_none h]
  unfold lk
  simp
theorem mf_put {D c : Nat} {m v : NodeT} {s : Txt} (h : MF D c m) (hs : s.length ≤ 12) (hv : Fine 12 D v) :
    ∃ m', addN m s v = some m' ∧ MF D (c + 1) m' ∧ ∀ r, lk m' r = if r = s then some v else lk m r := by
  cases hj : plc m s with
  | some j =>
    refine ⟨setK m j v, addN_in h.mp.map hj, ⟨mp_setK h.mp, Nat.le_succ_of_le h.cnt, h.sh, fun k hk => ?_⟩, lk_setK h.mp.map hj⟩
    rcases List.mem_or_eq_of_mem_set hk with q | q
    · exact h.kid k q
    · exact q ▸ hv
  | none =>
    obtain ⟨m', e, g1, g2⟩ := add_lk (v := v) h.mp.map ((plc_out h.mp.map).1 hj)
    refine ⟨m', e, ?_, g2⟩
    rw [addN_out h.mp.map hj, Option.some.injEq] at e
    subst e
    have hsl := slt_le m s
    have hl := h.mp.map.len
    refine ⟨g1, ?_, fun t ht => ?_, fun k hk => ?_⟩
    · show (insL m.Names (slt m s) s).length ≤ _
      rw [ins_length (by omega)]
      have := h.cnt
      omega
    · rcases ins_mem.1 ht with q | q
      · exact q ▸ hs
      · exact h.sh t q
    · rcases ins_mem.1 hk with q | q
      · exact q ▸ hv
      · exact h.kid k q
theorem mf_rem {D c : Nat} {m : NodeT} {s : Txt} (h : MF D c m) : MF D c ((remN m s).getD m) ∧ ∀ r, lk ((remN m s).getD m) r = if r = s then none else lk m r := by
  cases hj : plc m s with
  | none =>
    have : remN m s = none := by unfold remN; rw [hj]
    rw [this]
    refine ⟨h, fun r => ?_⟩
    by_cases c : r = s
    · rw [if_pos c, c]
      exact (lk_none h.mp.map).2 ((plc_out h.mp.map).1 hj)
    · rw [if_neg c]; rfl
  | some j =>
    have hs : s ∈ m.Names := by
      apply Classical.byContradiction
      intro q
      rw [(plc_out h.mp.map).2 q] at hj
      cases hj
    obtain ⟨m', e, g1, g2⟩ := rem_lk h.mp.map hs
    rw [e]
    refine ⟨?_, g2⟩
    unfold remN at e
    rw [hj] at e
    simp only [h.mp.map.kind, if_true, Option.some.injEq] at e
    subst e
    have hjl := plc_lt hj
    refine ⟨g1, ?_, fun t ht => h.sh t ((dropL_sub _ _).subset ht), fun k hk => h.kid k ((dropL_sub _ _).subset hk)⟩
    show (dropL m.Names j).length ≤ c
    have := h.mp.map.len
    rw [dropL_len (by omega)]
    have := h.cnt
    omega
theorem T.putName_mp {n v : NodeT} (s : Txt) (h : Mp n) (hn : n.Names.length ≤ 1000) : ∃ m, addN n s v = some m ∧ Ev (fun f => G.impl_putName f n s v) m := by
  have hk := h.map.kind
  have hkl := h.map.len
  obtain ⟨p, g, hlb⟩ := T.slices_BinarySearch_string s (by unfold big; omega) h.map.asc
  have hpl := plc_lb hk h.map.asc hkl hlb
  have hple := hlb.le
  cases hc : decide (p < n.Names.length) && n.Names.getD p default == s with
  | true =>
    rw [hc, if_pos rfl] at hpl
    refine ⟨setK n p v, addN_in h.map hpl, Ev.up ?_⟩
    simp only [G.impl_putName]
    have := plc_lt hpl
    refine Ev.bind g (Ev.ct hc (Ev.chk (by omega) (Ev.ret' ?_)))
    rw [Int.toNat_natCast]; rfl
  | false =>
    rw [hc, if_neg (by simp)] at hpl
    have hsl := slt_lb h.map.asc hkl hlb hc
    refine ⟨NodeT.mk 4 0 [] (insL n.Names p s) (insL n.Kids p v), by rw [addN_out h.map hpl, hsl], Ev.up ?_⟩
    simp only [G.impl_putName]
    refine Ev.bind g (Ev.cf hc ?_)
    have i1 : Ev (fun f => G.slices_Insert_string f n.Names (p : Int) [s]) (insL n.Names p s) := by
      refine Ev.up ?_
      simp only [G.slices_Insert_string]
      refine Ev.chk (by simp; omega) (Ev.ret' ?_)
      rw [Int.toNat_natCast]; rfl
    have i2 : Ev (fun f => G.slices_Insert_impl_Node f n.Kids (p : Int) [v]) (insL n.Kids p v) := by
      refine Ev.up ?_
      simp only [G.slices_Insert_impl_Node]
      refine Ev.chk (by simp; omega) (Ev.ret' ?_)
      rw [Int.toNat_natCast]; rfl
    exact Ev.bind i1 (Ev.bind i2 (Ev.ret' (by rw [h.num, h.text, hk])))
theorem T.dropName {n : NodeT} (s : Txt) (h : Mp n) (hn : n.Names.length ≤ 1000) : Ev (fun f => G.impl_dropName f n s) ((remN n s).getD n) := by
  have hkl := h.map.len
  obtain ⟨p, g, hp⟩ := T.bs s h.map hn
  refine Ev.up ?_
  simp only [G.impl_dropName]
  refine Ev.bind g ?_
  unfold remN
  cases hj : plc n s with
  | none => exact Ev.cf rfl (Ev.ret _)
  | some j =>
    have e := hp j hj
    subst e
    have hpl := plc_lt hj
    simp only [wrap_suc (show p + 1 < 9223372036854775808 by omega)]
    have d1 : Ev (fun f => G.slices_Delete_impl_Node f n.Kids (p : Int) ((p + 1 : Nat) : Int)) (dropL n.Kids p) := by
      refine Ev.up ?_
      simp only [G.slices_Delete_impl_Node, Int.toNat_natCast]
      exact Ev.chk (by omega) (Ev.ret _)
    have d2 : Ev (fun f => G.slices_Delete_string f n.Names (p : Int) ((p + 1 : Nat) : Int)) (dropL n.Names p) := by
      refine Ev.up ?_
      simp only [G.slices_Delete_string, Int.toNat_natCast]
      exact Ev.chk (by omega) (Ev.ret _)
    refine Ev.ct rfl (Ev.bind d2 (Ev.bind d1 (Ev.ret' ?_)))
    simp [h.map.kind, h.num, h.text]
def putT (m : NodeT) (s : Txt) (v : NodeT) : NodeT := (addN m s v).getD m
open Classical in
noncomputable def fA (F : NodeT → NodeT → NodeT) (a b m : NodeT) (i : Nat) : NodeT := match lk b (a.Names.getD i default) with
  | none => putT m (a.Names.getD i default) noNode
  | some y => if a.Kids.getD i default = y then m else putT m (a.Names.getD i default) (F (a.Kids.getD i default) y)
def fB (a b m : NodeT) (k : Nat) : NodeT := if (lk a (b.Names.getD k default)).isSome then m else putT m (b.Names.getD k default) (b.Kids.getD k default)
noncomputable def pbM : Nat → NodeT → NodeT → NodeT
  | 0, _, b => b
  | d + 1, a, b => if a.Kind = 4 ∧ b.Kind = 4 then (List.range' 0 b.Kids.length).foldl (fB a b) ((List.range' 0 a.Kids.length).foldl (fA (pbM d) a b) empM) else b
theorem pbM_succ {d : Nat} {a b : NodeT} : pbM (d + 1) a b = if a.Kind = 4 ∧ b.Kind = 4 then (List.range' 0 b.Kids.length).foldl (fB a b) ((List.range' 0 a.Kids.length).foldl (fA (pbM d) a b) empM) else b := by rw [pbM]
theorem mf_emp {D : Nat} : MF D 0 empM := ⟨⟨⟨rfl, rfl, rfl⟩, rfl, rfl⟩, Nat.le_refl _, (fun s hs => by cases hs), (fun k hk => by cases hk)⟩
theorem lk_emp (r : Txt) : lk empM r = none := rfl
structure MS (d : Nat) (a : NodeT) : Prop where
  mp : Mp a
  sh : Shape (d + 1) a = true
  len : a.Names.length ≤ 6
  txt : ∀ s, s ∈ a.Names → s.length ≤ 12
theorem ms_of {d : Nat} {a : NodeT} (h : Shape (d + 1) a = true) (hk : a.Kind = 4) : MS d a := by
  obtain ⟨_, h2, h3⟩ := mapN_of (shape_parts h) hk
  exact ⟨mp_of (shape_parts h) hk, h, h2, h3⟩
theorem MS.name {d : Nat} {a : NodeT} (h : MS d a) {i : Nat} (hi : i < a.Kids.length) : (a.Names.getD i default).length ≤ 12 := h.txt _ (getD_mem default (by rw [← h.mp.map.len]; exact hi))
theorem MS.mf {d : Nat} {a : NodeT} (h : MS d a) : MF d 6 a := ⟨h.mp, h.len, h.txt, fun k hk => shape_fine (shape_kids h.sh k hk)⟩
theorem mf_mono {D E c e : Nat} {m : NodeT} (h : MF D c m) (hD : D ≤ E) (hc : c ≤ e) : MF E e m := ⟨h.mp, Nat.le_trans h.cnt hc, h.sh, fun k hk => (h.kid k hk).mono (Nat.le_refl _) hD⟩
theorem put_mf {D c : Nat} {m v : NodeT} {s : Txt} (h : MF D c m) (hs : s.length ≤ 12) (hv : Fine 12 D v) : addN m s v = some (putT m s v) ∧ MF D (c + 1) (putT m s v) ∧ ∀ r, lk (putT m s v) r = if r = s then some v else lk m r := by
  obtain ⟨m', e, h1, h2⟩ := mf_put h hs hv
  have : putT m s v = m' := by unfold putT; rw [e]; rfl
  rw [this]
  exact ⟨e, h1, h2⟩
theorem range_concat (k : Nat) : List.range' 0 (k + 1) = List.range' 0 k ++ [k] := by rw [List.range'_concat]; simp
theorem not_taken {a : NodeT} (h : MapN a) {i : Nat} (hi : i < a.Kids.length) : a.Names.getD i default ∉ a.Names.take i := not_take h (by rw [← h.len]; exact hi)
section
variable {d : Nat} {a b : NodeT} {F : NodeT → NodeT → NodeT} (ma : MS d a) (mb : MS d b)
include ma mb
theorem fA_facts (hF : ∀ x y, Shape d x = true → Shape d y = true → Fine 12 (d + 1) (F x y)) : ∀ i, i ≤ a.Kids.length → MF (d + 1) i ((List.range' 0 i).foldl (fA F a b) empM) ∧
    ∀ r, lk ((List.range' 0 i).foldl (fA F a b) empM) r = if r ∈ a.Names.take i then (match lk a r, lk b r with | some _, none => some noNode | some x, some y => (@ite _ (x = y) (Classical.propDecidable _) none (some (F x y))) | none, _ => none) else none := by
  intro i
  induction i with
  | zero => intro _; exact ⟨mf_emp, fun r => rfl⟩
  | succ i ih =>
    intro hi
    obtain ⟨h1, h2⟩ := ih (by omega)
    have hi' : i < a.Kids.length := by omega
    have hin : i < a.Names.length := by rw [← ma.mp.map.len]; exact hi'
    have hx := lk_at ma.mp.map hi'
    have hnt := not_taken ma.mp.map hi'
    have hsx := shape_kid ma.sh hi'
    rw [range_concat, List.foldl_append, List.foldl_cons, List.foldl_nil]
    generalize (List.range' 0 i).foldl (fA F a b) empM = m at h1 h2 ⊢
    have hms : lk m (a.Names.getD i default) = none := by rw [h2, if_neg hnt]
    have fin : ∀ (m' : NodeT) (w : Option NodeT), (∀ r, lk m' r = if r = a.Names.getD i default then w else lk m r) →
        w = (match lk a (a.Names.getD i default), lk b (a.Names.getD i default) with | some _, none => some noNode | some x, some y => (@ite _ (x = y) (Classical.propDecidable _) none (some (F x y))) | none, _ => none) →
        ∀ r, lk m' r = if r ∈ a.Names.take (i + 1) then (match lk a r, lk b r with | some _, none => some noNode | some x, some y => (@ite _ (x = y) (Classical.propDecidable _) none (some (F x y))) | none, _ => none) else none := fun m' w g e r => by
      rw [g]
      by_cases c : r = a.Names.getD i default
      · rw [if_pos c, if_pos ((mem_take_succ hin).2 (.inr c)), e, c]
      · rw [if_neg c, h2]
        by_cases q : r ∈ a.Names.take i
        · rw [if_pos q, if_pos ((mem_take_succ hin).2 (.inl q))]
        · rw [if_neg q, if_neg (fun z => ((mem_take_succ hin).1 z).elim q c)]
    unfold fA
    cases hy : lk b (a.Names.getD i default) with
    | none =>
      obtain ⟨_, g1, g2⟩ := put_mf h1 (ma.name hi') (no_fine (by omega))
      exact ⟨g1, fin _ _ g2 (by rw [hx, hy])⟩
    | some y =>
      have hsy := kid_shape mb.sh hy
      simp only
      by_cases c : a.Kids.getD i default = y
      · rw [if_pos c]
        refine ⟨mf_mono h1 (Nat.le_refl _) (by omega), fin m none (fun r => ?_) (by rw [hx, hy]; simp only [if_pos c])⟩
        by_cases q : r = a.Names.getD i default
        · rw [if_pos q, q, hms]
        · rw [if_neg q]
      · rw [if_neg c]
        obtain ⟨_, g1, g2⟩ := put_mf h1 (ma.name hi') (hF _ _ hsx hsy)
        exact ⟨g1, fin _ _ g2 (by rw [hx, hy]; simp only [if_neg c])⟩
theorem fB_facts {m0 : NodeT} {c : Nat} (h0 : MF (d + 1) c m0) : ∀ k, k ≤ b.Kids.length → MF (d + 1) (c + k) ((List.range' 0 k).foldl (fB a b) m0) ∧
    ∀ r, lk ((List.range' 0 k).foldl (fB a b) m0) r = if r ∈ b.Names.take k ∧ lk a r = none then lk b r else lk m0 r := by
  intro k
  induction k with
  | zero => intro _; exact ⟨h0, fun r => by simp⟩
  | succ k ih =>
    intro hk
    obtain ⟨h1, h2⟩ := ih (by omega)
    have hk' : k < b.Kids.length := by omega
    have hin : k < b.Names.length := by rw [← mb.mp.map.len]; exact hk'
    have hy := lk_at mb.mp.map hk'
    rw [range_concat, List.foldl_append, List.foldl_cons, List.foldl_nil]
    generalize (List.range' 0 k).foldl (fB a b) m0 = m at h1 h2 ⊢
    unfold fB
    cases hx : lk a (b.Names.getD k default) with
    | some x =>
      refine ⟨mf_mono h1 (Nat.le_refl _) (by omega), fun r => ?_⟩
      show lk m r = _
      rw [h2]
      by_cases q : r ∈ b.Names.take k ∧ lk a r = none
      · rw [if_pos q, if_pos ⟨(mem_take_succ hin).2 (.inl q.1), q.2⟩]
      · rw [if_neg q, if_neg]
        rintro ⟨z, w⟩
        rcases (mem_take_succ hin).1 z with z | z
        · exact q ⟨z, w⟩
        · rw [z, hx] at w; cases w
    | none =>
      obtain ⟨_, g1, g2⟩ := put_mf h1 (mb.name hk') ((shape_fine (shape_kid mb.sh hk')).mono (Nat.le_refl _) (by omega : d ≤ d + 1))
      refine ⟨g1, fun r => ?_⟩
      show lk (putT m (b.Names.getD k default) (b.Kids.getD k default)) r = _
      rw [g2]
      by_cases z : r = b.Names.getD k default
      · rw [if_pos z, if_pos ⟨(mem_take_succ hin).2 (.inr z), z ▸ hx⟩, z, hy]
      · rw [if_neg z, h2]
        by_cases q : r ∈ b.Names.take k ∧ lk a r = none
        · rw [if_pos q, if_pos ⟨(mem_take_succ hin).2 (.inl q.1), q.2⟩]
        · rw [if_neg q, if_neg]
          rintro ⟨u, w⟩
          rcases (mem_take_succ hin).1 u with u | u
          · exact q ⟨u, w⟩
          · exact z u
end
theorem pb_fine : ∀ (d : Nat) {a b : NodeT}, Shape d a = true → Shape d b = true → Fine 12 (d + 1) (pbM d a b)
  | 0, _, _, h, _ => by cases h
  | d + 1, a, b, ha, hb => by
    rw [pbM_succ]
    by_cases h4 : a.Kind = 4 ∧ b.Kind = 4
    · rw [if_pos h4]
      have ma := ms_of ha h4.1
      have mb := ms_of hb h4.2
      have h1 := (fA_facts ma mb (F := pbM d) (fun x y hx hy => pb_fine d hx hy) a.Kids.length (Nat.le_refl _)).1
      have h2 := (fB_facts ma mb h1 b.Kids.length (Nat.le_refl _)).1
      have := ma.len
      have := mb.len
      have := ma.mp.map.len
      have := mb.mp.map.len
      exact h2.fine (by omega)
    · rw [if_neg h4]
      exact (shape_fine hb).mono (Nat.le_refl _) (by omega)
theorem pb_map {d : Nat} {a b : NodeT} (ha : Shape (d + 1) a = true) (hb : Shape (d + 1) b = true) (ka : a.Kind = 4) (kb : b.Kind = 4) : Mp (pbM (d + 1) a b) ∧
    ∀ r, lk (pbM (d + 1) a b) r = (match lk a r, lk b r with | some _, none => some noNode | some x, some y => (@ite _ (x = y) (Classical.propDecidable _) none (some (pbM d x y))) | none, o => o) := by
  rw [pbM_succ, if_pos ⟨ka, kb⟩]
  have ma := ms_of ha ka
  have mb := ms_of hb kb
  obtain ⟨h1, g1⟩ := fA_facts ma mb (F := pbM d) (fun x y hx hy => pb_fine d hx hy) a.Kids.length (Nat.le_refl _)
  obtain ⟨h2, g2⟩ := fB_facts ma mb h1 b.Kids.length (Nat.le_refl _)
  refine ⟨h2.mp, fun r => ?_⟩
  have la := ma.mp.map.len
  have lb := mb.mp.map.len
  rw [g2, g1, List.take_of_length_le (by omega), List.take_of_length_le (by omega)]
  cases hx : lk a r with
  | some x =>
    have : r ∈ a.Names := (lk_mem ma.mp.map).1 (by rw [hx]; rfl)
    rw [if_neg (by simp), if_pos this]
    cases lk b r <;> rfl
  | none =>
    have : r ∉ a.Names := (lk_none ma.mp.map).1 hx
    rw [if_neg this]
    cases hy : lk b r with
    | none => simp
    | some y =>
      have : r ∈ b.Names := (lk_mem mb.mp.map).1 (by rw [hy]; rfl)
      rw [if_pos ⟨this, rfl⟩]
def mgF (F : NodeT → NodeT → NodeT) (p m : NodeT) (i : Nat) : NodeT :=
  if (p.Kids.getD i default).Kind = 0 then (remN m (p.Names.getD i default)).getD m else putT m (p.Names.getD i default) (F ((lk m (p.Names.getD i default)).getD noNode) (p.Kids.getD i default))
def bas (n : NodeT) : NodeT := if n.Kind = 4 then n else empM
def mgM : Nat → NodeT → NodeT → NodeT
  | 0, _, p => p
  | d + 1, n, p => if p.Kind = 4 then (List.range' 0 p.Kids.length).foldl (mgF (mgM d) p) (bas n) else p
theorem mgM_succ {d : Nat} {n p : NodeT} : mgM (d + 1) n p = if p.Kind = 4 then (List.range' 0 p.Kids.length).foldl (mgF (mgM d) p) (bas n) else p := by rw [mgM]
def mgV (F : NodeT → NodeT → NodeT) (n0 p : NodeT) (r : Txt) : Option NodeT := match lk p r with
  | none => lk n0 r
  | some q => if q.Kind = 0 then none else some (F ((lk n0 r).getD noNode) q)
theorem mgF_facts {d D c : Nat} {n0 p : NodeT} {F : NodeT → NodeT → NodeT} (mp : MS d p) (h0 : MF D c n0) {Q : NodeT → Prop} (hQ : Q noNode) (hq : ∀ k, k ∈ n0.Kids → Q k) (hF : ∀ o q, Q o → Shape d q = true → Fine 12 D (F o q)) :
    ∀ i, i ≤ p.Kids.length → MF D (c + i) ((List.range' 0 i).foldl (mgF F p) n0) ∧ ∀ r, lk ((List.range' 0 i).foldl (mgF F p) n0) r = if r ∈ p.Names.take i then mgV F n0 p r else lk n0 r := by
  intro i
  induction i with
  | zero => intro _; exact ⟨h0, fun r => by simp⟩
  | succ i ih =>
    intro hi
    obtain ⟨h1, h2⟩ := ih (by omega)
    have hi' : i < p.Kids.length := by omega
    have hin : i < p.Names.length := by rw [← mp.mp.map.len]; exact hi'
    have hx := lk_at mp.mp.map hi'
    have hnt := not_taken mp.mp.map hi'
    rw [range_concat, List.foldl_append, List.foldl_cons, List.foldl_nil]
    generalize (List.range' 0 i).foldl (mgF F p) n0 = m at h1 h2 ⊢
    have hms : lk m (p.Names.getD i default) = lk n0 (p.Names.getD i default) := by rw [h2, if_neg hnt]
    have fin : ∀ (m' : NodeT), (∀ r, lk m' r = if r = p.Names.getD i default then mgV F n0 p (p.Names.getD i default) else lk m r) → ∀ r, lk m' r = if r ∈ p.Names.take (i + 1) then mgV F n0 p r else lk n0 r := fun m' g r => by
      rw [g]
      by_cases c : r = p.Names.getD i default
      · rw [if_pos c, if_pos ((mem_take_succ hin).2 (.inr c)), c]
      · rw [if_neg c, h2]
        by_cases q : r ∈ p.Names.take i
        · rw [if_pos q, if_pos ((mem_take_succ hin).2 (.inl q))]
        · rw [if_neg q, if_neg (fun z => ((mem_take_succ hin).1 z).elim q c)]
    unfold mgF
    by_cases c : (p.Kids.getD i default).Kind = 0
    · rw [if_pos c]
      obtain ⟨g1, g2⟩ := mf_rem (s := p.Names.getD i default) h1
      refine ⟨mf_mono g1 (Nat.le_refl _) (by omega), fin _ (fun r => ?_)⟩
      rw [g2]
      have : mgV F n0 p (p.Names.getD i default) = none := by unfold mgV; rw [hx]; simp only [if_pos c]
      rw [this]
    · rw [if_neg c, hms]
      have hold : Q ((lk n0 (p.Names.getD i default)).getD noNode) := by
        cases hl : lk n0 (p.Names.getD i default) with
        | none => exact hQ
        | some x => exact hq _ (lk_kid hl)
      obtain ⟨_, g1, g2⟩ := put_mf h1 (mp.name hi') (hF _ _ hold (shape_kid mp.sh hi'))
      refine ⟨g1, fin _ (fun r => ?_)⟩
      rw [g2]
      have : mgV F n0 p (p.Names.getD i default) = some (F ((lk n0 (p.Names.getD i default)).getD noNode) (p.Kids.getD i default)) := by unfold mgV; rw [hx]; simp only [if_neg c]
      rw [this]
end Go.Ab
end
section
namespace Go.Ab
open Go
set_option maxRecDepth 100000
set_option linter.unusedSectionVars false
abbrev ShN (E : Nat) (n : NodeT) : Prop := Shape E n = true ∨ n = noNode
theorem bas_mf {E : Nat} {n : NodeT} (h : ShN E n) : ∃ e, (e + 1 = E ∨ e = 0) ∧ MF e 6 (bas n) ∧ ∀ k, k ∈ (bas n).Kids → ShN e k := by
  unfold bas
  by_cases hk : n.Kind = 4
  · rw [if_pos hk]
    rcases h with h | h
    · cases E with
      | zero => cases h
      | succ e => exact ⟨e, .inl rfl, (ms_of h hk).mf, fun k hk' => .inl (shape_kids h k hk')⟩
    · rw [h] at hk; cases hk
  · rw [if_neg hk]
    exact ⟨0, .inr rfl, mf_mono mf_emp (Nat.le_refl _) (by omega), fun k hk' => by cases hk'⟩
theorem mg_fine : ∀ (d : Nat) {E : Nat} {n p : NodeT}, Shape d p = true → ShN E n → Fine 12 (d + E + 1) (mgM d n p)
  | 0, _, _, _, h, _ => by cases h
  | d + 1, E, n, p, hp, hn => by
    rw [mgM_succ]
    by_cases h4 : p.Kind = 4
    · rw [if_pos h4]
      have mp := ms_of hp h4
      obtain ⟨e, he, hb, hk⟩ := bas_mf hn
      have h := (mgF_facts (F := mgM d) (D := d + e + 1) mp (mf_mono hb (by omega) (Nat.le_refl _)) (Q := ShN e) (.inr rfl) hk (fun o q ho hq => mg_fine d hq ho) p.Kids.length (Nat.le_refl _)).1
      have := mp.len
      have := mp.mp.map.len
      exact (h.fine (by omega)).mono (Nat.le_refl _) (by omega)
    · rw [if_neg h4]
      exact (shape_fine hp).mono (Nat.le_refl _) (by omega)
theorem mg_map {d E : Nat} {n p : NodeT} (hp : Shape (d + 1) p = true) (hk : p.Kind = 4) (hn : ShN E n) : Mp (mgM (d + 1) n p) ∧ ∀ r, lk (mgM (d + 1) n p) r = mgV (mgM d) (bas n) p r := by
  rw [mgM_succ, if_pos hk]
  have mp := ms_of hp hk
  obtain ⟨e, he, hb, hq⟩ := bas_mf hn
  obtain ⟨h, g⟩ := mgF_facts (F := mgM d) (D := d + e + 1) mp (mf_mono hb (by omega) (Nat.le_refl _)) (Q := ShN e) (.inr rfl) hq (fun o q ho hq => mg_fine d hq ho) p.Kids.length (Nat.le_refl _)
  refine ⟨h.mp, fun r => ?_⟩
  have := mp.mp.map.len
  rw [g, List.take_of_length_le (by omega)]
  by_cases c : r ∈ p.Names
  · rw [if_pos c]
  · rw [if_neg c]
    unfold mgV
    rw [(lk_none mp.mp.map).2 c]
def plB : Nat → NodeT → Bool
  | 0, _ => true
  | d + 1, n => !(n.Kind == 4) || n.Kids.all fun k => !(k.Kind == 0) && plB d k
theorem plB_kid {d : Nat} {n x : NodeT} {s : Txt} (h : plB (d + 1) n = true) (hk : n.Kind = 4) (hx : lk n s = some x) : x.Kind ≠ 0 ∧ plB d x = true := by
  unfold plB at h
  rw [hk] at h
  have := List.all_eq_true.1 (show (n.Kids.all fun k => !(k.Kind == 0) && plB d k) = true by simpa using h) x (lk_kid hx)
  simpa using this
theorem mg_plain : ∀ (d : Nat) {E : Nat} {n b : NodeT}, Shape d b = true → ShN E n → n.Kind ≠ 4 → plB d b = true → mgM d n b = b
  | 0, _, _, _, h, _, _, _ => by cases h
  | d + 1, E, n, b, hb, hn, hk, hp => by
    by_cases h4 : b.Kind = 4
    · obtain ⟨g1, g2⟩ := mg_map hb h4 hn
      have mb := mp_of (shape_parts hb) h4
      refine map_ext g1.map mb.map (by rw [g1.num, mb.num]) (by rw [g1.text, mb.text]) (fun r => ?_)
      have e0 : bas n = empM := by unfold bas; rw [if_neg hk]
      rw [g2, e0]
      unfold mgV
      cases hy : lk b r with
      | none => rfl
      | some y =>
        obtain ⟨h1, h2⟩ := plB_kid hp h4 hy
        simp only [if_neg h1, lk_emp]
        exact congrArg some (mg_plain d (E := 0) (kid_shape hb hy) (.inr rfl) (by decide) h2)
    · rw [mgM_succ, if_neg h4]
theorem mg_between : ∀ (d : Nat) {a b : NodeT}, Shape d a = true → Shape d b = true → plB d b = true → Shape d (pbM d a b) = true → mgM d a (pbM d a b) = b
  | 0, _, _, h, _, _, _ => by cases h
  | d + 1, a, b, ha, hb, hp, hs => by
    by_cases h4 : a.Kind = 4 ∧ b.Kind = 4
    · obtain ⟨p1, p2⟩ := pb_map ha hb h4.1 h4.2
      obtain ⟨g1, g2⟩ := mg_map hs p1.map.kind (.inl ha)
      have ma := mp_of (shape_parts ha) h4.1
      have mb := mp_of (shape_parts hb) h4.2
      refine map_ext g1.map mb.map (by rw [g1.num, mb.num]) (by rw [g1.text, mb.text]) (fun r => ?_)
      have e0 : bas a = a := by unfold bas; rw [if_pos h4.1]
      rw [g2, e0]
      have hpr := p2 r
      unfold mgV
      cases hx : lk a r with
      | none =>
        cases hy : lk b r with
        | none =>
          rw [hx, hy] at hpr
          rw [hpr]
        | some y =>
          rw [hx, hy] at hpr
          rw [hpr]
          obtain ⟨h1, h2⟩ := plB_kid hp h4.2 hy
          simp only [if_neg h1]
          exact congrArg some (mg_plain d (E := 0) (kid_shape hb hy) (.inr rfl) (by decide) h2)
      | some x =>
        cases hy : lk b r with
        | none =>
          rw [hx, hy] at hpr
          rw [hpr]
          simp only
          rw [if_pos (show noNode.Kind = 0 from rfl)]
        | some y =>
          rw [hx, hy] at hpr
          simp only at hpr
          by_cases c : x = y
          · rw [if_pos c] at hpr
            rw [hpr, c]
          · rw [if_neg c] at hpr
            obtain ⟨h1, h2⟩ := plB_kid hp h4.2 hy
            have hq : (pbM d x y).Kind ≠ 0 := by
              cases d with
              | zero => exact h1
              | succ d =>
                rw [pbM_succ]
                by_cases q : x.Kind = 4 ∧ y.Kind = 4
                · have := (pb_map (kid_shape ha hx) (kid_shape hb hy) q.1 q.2).1.map.kind
                  rw [pbM_succ] at this
                  rw [this]; decide
                · rw [if_neg q]; exact h1
            have hsp : Shape d (pbM d x y) = true := kid_shape hs hpr
            rw [hpr]
            simp only [if_neg hq]
            exact congrArg some (mg_between d (kid_shape ha hx) (kid_shape hb hy) h2 hsp)
    · rw [pbM_succ, if_neg h4]
      by_cases kb : b.Kind = 4
      · exact mg_plain (d + 1) hb (.inl ha) (fun ka => h4 ⟨ka, kb⟩) hp
      · rw [mgM_succ, if_neg kb]
theorem T.impl_plain : ∀ (d : Nat) {n : NodeT}, Shape d n = true → Ev (fun f => G.impl_isPlainValid f n) (plB d n)
  | 0, _, h => by cases h
  | d + 1, n, hn => by
    have h6 := shape_len hn
    have L : ∀ (t i : Nat), i + t = n.Kids.length → Ev (fun f => G.impl_isPlainValid.L1 f n (i : Int)) ((n.Kids.drop i).all fun k => !(k.Kind == 0) && plB d k) := by
      intro t
      induction t with
      | zero =>
        intro i hi
        refine Ev.up ?_
        simp only [G.impl_isPlainValid.L1]
        refine Ev.cf (decide_eq_false (by omega)) (Ev.ret' ?_)
        rw [List.drop_of_length_le (by omega)]; rfl
      | succ t ih =>
        intro i hi
        have hk := shape_kid hn (show i < n.Kids.length by omega)
        refine Ev.up ?_
        simp only [G.impl_isPlainValid.L1, Int.toNat_natCast, wrap_suc (show i + 1 < 9223372036854775808 by omega)]
        rw [drop_of_lt (default : NodeT) (show i < n.Kids.length by omega), List.all_cons]
        refine Ev.ct (decide_eq_true (by omega)) (Ev.chk (by omega) (Ev.ite (fun e => Ev.ret' (by rw [e]; rfl)) (fun e => ?_)))
        refine Ev.bind (T.impl_plain d hk) (Ev.ite (fun e2 => ?_) (fun e2 => Ev.ret' (by rw [e2]; simp)))
        exact (ih (i + 1) (by omega)).eq (by rw [e, e2]; rfl)
    refine Ev.up ?_
    simp only [G.impl_isPlainValid]
    unfold plB
    refine Ev.ite (fun e => Ev.ret' ?_) (fun e => ?_)
    · have : (n.Kind == 4) = false := by simpa using e
      rw [this]; rfl
    · have : (n.Kind == 4) = true := by simpa using e
      exact (L n.Kids.length 0 (by omega)).eq (by rw [this]; rfl)
theorem T.spec_plain : ∀ (d : Nat) {n : NodeT}, Shape d n = true → Ev (fun f => G.spec_plain f n) (plB d n)
  | 0, _, h => by cases h
  | d + 1, n, hn => by
    have h6 := shape_len hn
    have L : ∀ (t i : Nat), i + t = n.Kids.length → Ev (fun f => G.spec_plain.L1 f n (i : Int)) (!(n.Kind == 4) || (n.Kids.drop i).all fun k => !(k.Kind == 0) && plB d k) := by
      intro t
      induction t with
      | zero =>
        intro i hi
        refine Ev.up ?_
        simp only [G.spec_plain.L1]
        refine Ev.cf (decide_eq_false (by omega)) (Ev.ret' ?_)
        rw [List.drop_of_length_le (by omega)]; simp
      | succ t ih =>
        intro i hi
        have hk := shape_kid hn (show i < n.Kids.length by omega)
        refine Ev.up ?_
        simp only [G.spec_plain.L1, Int.toNat_natCast, wrap_suc (show i + 1 < 9223372036854775808 by omega)]
        refine Ev.ct (decide_eq_true (by omega)) (Ev.ite (fun e0 => ?_) (fun e0 => (ih (i + 1) (by omega)).eq (by rw [e0]; rfl)))
        rw [drop_of_lt (default : NodeT) (show i < n.Kids.length by omega), List.all_cons]
        refine Ev.chk (by omega) (Ev.ite (fun e => Ev.ret' (by rw [e, e0]; rfl)) (fun e => Ev.chk (by omega) ?_))
        refine Ev.bind (T.spec_plain d hk) (Ev.ite (fun e2 => ?_) (fun e2 => Ev.ret' (by rw [e2, e0]; simp)))
        exact (ih (i + 1) (by omega)).eq (by rw [e, e2]; rfl)
    refine Ev.up ?_
    simp only [G.spec_plain]
    exact L n.Kids.length 0 (by omega)
section
variable {d : Nat} {a b : NodeT} (ma : MS d a) (mb : MS d b) (hd : d ≤ 5)
include ma mb hd
theorem T.patchBetween.L2 {c : Nat} {m0 : NodeT} (h0 : MF (d + 1) c m0) (hc : c ≤ 6) : ∀ (t k : Nat), k + t = b.Kids.length →
    Ev (fun f => G.impl_patchBetween.L2 f a b (k : Int) ((List.range' 0 k).foldl (fB a b) m0).Kind ((List.range' 0 k).foldl (fB a b) m0).Num ((List.range' 0 k).foldl (fB a b) m0).Text ((List.range' 0 k).foldl (fB a b) m0).Names ((List.range' 0 k).foldl (fB a b) m0).Kids) ((List.range' 0 b.Kids.length).foldl (fB a b) m0) := by
  have hl := mb.len
  have hk := mb.mp.map.len
  have hla := ma.len
  intro t
  induction t with
  | zero =>
    intro k hk'
    have : k = b.Kids.length := by omega
    subst this
    refine Ev.up ?_
    simp only [G.impl_patchBetween.L2]
    exact Ev.cf (decide_eq_false (by omega)) (Ev.ret' (NodeT.eta _))
  | succ t ih =>
    intro k hk'
    have hi := ih (k + 1) (by omega)
    rw [range_concat, List.foldl_append, List.foldl_cons, List.foldl_nil] at hi
    obtain ⟨h1, _⟩ := fB_facts ma mb h0 k (by omega)
    generalize (List.range' 0 k).foldl (fB a b) m0 = m at h1 hi ⊢
    obtain ⟨q, gq, hq⟩ := T.bs (b.Names.getD k default) ma.mp.map (by omega)
    refine Ev.up ?_
    simp only [G.impl_patchBetween.L2, Int.toNat_natCast, wrap_suc (show k + 1 < 9223372036854775808 by omega), NodeT.eta]
    unfold fB at hi
    refine Ev.ct (decide_eq_true (by omega)) (Ev.chk (by omega) (Ev.bind gq ?_))
    rw [← lk_isSome]
    refine Ev.ite (fun e => ?_) (fun e => ?_)
    · have e : (lk a (b.Names.getD k default)).isSome = true := e
      simp only [e, if_true] at hi
      exact hi
    · have e : (lk a (b.Names.getD k default)).isSome = false := e
      simp only [e] at hi
      have hf := (shape_fine (shape_kid mb.sh (show k < b.Kids.length by omega))).mono (Nat.le_refl _) (by omega : d ≤ d + 1)
      obtain ⟨g1, _⟩ := put_mf h1 (mb.name (show k < b.Kids.length by omega)) hf
      have := h1.cnt
      obtain ⟨m', g2, g3⟩ := T.putName_mp (v := b.Kids.getD k default) (b.Names.getD k default) h1.mp (by omega)
      rw [g1] at g2
      cases g2
      exact Ev.chk (by omega) (Ev.bind (T.impl_copyNode lim12 hf) (Ev.bind g3 hi))
theorem T.patchBetween.L1 (hs : ∀ x y, Shape d x = true → Shape d y = true → Ev (fun f => G.impl_patchBetween f x y) (pbM d x y)) : ∀ (t i : Nat), i + t = a.Kids.length →
    Ev (fun f => G.impl_patchBetween.L1 f a b (i : Int) ((List.range' 0 i).foldl (fA (pbM d) a b) empM).Kind ((List.range' 0 i).foldl (fA (pbM d) a b) empM).Num ((List.range' 0 i).foldl (fA (pbM d) a b) empM).Text ((List.range' 0 i).foldl (fA (pbM d) a b) empM).Names ((List.range' 0 i).foldl (fA (pbM d) a b) empM).Kids) (pbM (d + 1) a b) := by
  have hl := ma.len
  have hk := ma.mp.map.len
  have hlb := mb.len
  intro t
  induction t with
  | zero =>
    intro i hi
    have : i = a.Kids.length := by omega
    subst this
    have h1 := (fA_facts ma mb (F := pbM d) (fun x y hx hy => pb_fine d hx hy) a.Kids.length (Nat.le_refl _)).1
    refine Ev.up ?_
    simp only [G.impl_patchBetween.L1]
    refine Ev.cf (decide_eq_false (by omega)) ((T.patchBetween.L2 ma mb hd h1 (by omega) b.Kids.length 0 (by omega)).eq ?_)
    rw [pbM_succ, if_pos ⟨ma.mp.map.kind, mb.mp.map.kind⟩]
  | succ t ih =>
    intro i hi
    have hn := ih (i + 1) (by omega)
    rw [range_concat, List.foldl_append, List.foldl_cons, List.foldl_nil] at hn
    obtain ⟨h1, _⟩ := fA_facts ma mb (F := pbM d) (fun x y hx hy => pb_fine d hx hy) i (by omega)
    generalize (List.range' 0 i).foldl (fA (pbM d) a b) empM = m at h1 hn ⊢
    obtain ⟨q, gq, hq⟩ := T.bs (a.Names.getD i default) mb.mp.map (by omega)
    have hx := shape_kid ma.sh (show i < a.Kids.length by omega)
    have hc := h1.cnt
    have put : ∀ v, Fine 12 (d + 1) v → Ev (fun f => G.impl_putName f m (a.Names.getD i default) v) (putT m (a.Names.getD i default) v) := fun v hv => by
      obtain ⟨g1, _⟩ := put_mf h1 (ma.name (show i < a.Kids.length by omega)) hv
      obtain ⟨m', g2, g3⟩ := T.putName_mp (v := v) (a.Names.getD i default) h1.mp (by omega)
      rw [g1] at g2
      cases g2
      exact g3
    refine Ev.up ?_
    simp only [G.impl_patchBetween.L1, Int.toNat_natCast, wrap_suc (show i + 1 < 9223372036854775808 by omega), NodeT.eta]
    unfold fA lk at hn
    refine Ev.ct (decide_eq_true (by omega)) (Ev.chk (by omega) (Ev.bind gq ?_))
    cases hj : plc b (a.Names.getD i default) with
    | none =>
      rw [hj] at hn
      simp only [Option.map_none] at hn
      exact Ev.cf rfl (Ev.bind (put noNode (no_fine (by omega))) hn)
    | some j =>
      have e := hq j hj
      subst e
      have hjl := plc_lt hj
      have hy := shape_kid mb.sh hjl
      rw [hj] at hn
      simp only [Option.map_some] at hn
      obtain ⟨v, gs, hv⟩ := T.impl_sameNode hx hy
      simp only [Int.toNat_natCast]
      refine Ev.ct rfl (Ev.chk (by omega) (Ev.chk (by omega) (Ev.bind gs ?_)))
      by_cases c : a.Kids.getD i default = b.Kids.getD q default
      · simp only [if_pos c] at hn
        exact Ev.ct (hv.2 c) hn
      · simp only [if_neg c] at hn
        exact Ev.cf (bool_of hv c) (Ev.chk (by omega) (Ev.chk (by omega) (Ev.bind (hs _ _ hx hy) (Ev.bind (put _ (pb_fine d hx hy)) hn))))
theorem T.mergeFor.L2 {c : Nat} {m0 : NodeT} (h0 : MF (d + 1) c m0) (hc : c ≤ 6) : ∀ (t k : Nat), k + t = b.Kids.length →
    Ev (fun f => G.spec_mergeFor.L2 f a b (k : Int) ((List.range' 0 k).foldl (fB a b) m0).Kind ((List.range' 0 k).foldl (fB a b) m0).Num ((List.range' 0 k).foldl (fB a b) m0).Text ((List.range' 0 k).foldl (fB a b) m0).Names ((List.range' 0 k).foldl (fB a b) m0).Kids) ((List.range' 0 b.Kids.length).foldl (fB a b) m0) := by
  have hl := mb.len
  have hk := mb.mp.map.len
  have hla := ma.len
  intro t
  induction t with
  | zero =>
    intro k hk'
    have : k = b.Kids.length := by omega
    subst this
    refine Ev.up ?_
    simp only [G.spec_mergeFor.L2]
    exact Ev.cf (decide_eq_false (by omega)) (Ev.ret' (NodeT.eta _))
  | succ t ih =>
    intro k hk'
    have hi := ih (k + 1) (by omega)
    rw [range_concat, List.foldl_append, List.foldl_cons, List.foldl_nil] at hi
    obtain ⟨h1, _⟩ := fB_facts ma mb h0 k (by omega)
    generalize (List.range' 0 k).foldl (fB a b) m0 = m at h1 hi ⊢
    refine Ev.up ?_
    simp only [G.spec_mergeFor.L2, Int.toNat_natCast, wrap_suc (show k + 1 < 9223372036854775808 by omega), NodeT.eta]
    unfold fB at hi
    refine Ev.ct (decide_eq_true (by omega)) (Ev.chk (by omega) (Ev.bind (T.spec_place _ lim12 (shape_fine ma.sh)) ?_))
    rw [plcI_neg, ← lk_isSome]
    refine Ev.ite (fun e => ?_) (fun e => ?_)
    · have e : (lk a (b.Names.getD k default)).isSome = false := by simpa using e
      simp only [e] at hi
      have hf := (shape_fine (shape_kid mb.sh (show k < b.Kids.length by omega))).mono (Nat.le_refl _) (by omega : d ≤ d + 1)
      obtain ⟨g1, _⟩ := put_mf h1 (mb.name (show k < b.Kids.length by omega)) hf
      have g3 := T.spec_addHere (b.Names.getD k default) (show 12 < lim by decide) (h1.fine (by omega)) hf
      rw [g1] at g3
      exact Ev.chk (by omega) (Ev.chk (by omega) (Ev.bind g3 hi))
    · have e : (lk a (b.Names.getD k default)).isSome = true := by simpa using e
      simp only [e, if_true] at hi
      exact hi
theorem T.mergeFor.L1 (hs : ∀ x y, Shape d x = true → Shape d y = true → Ev (fun f => G.spec_mergeFor f x y) (pbM d x y)) : ∀ (t i : Nat), i + t = a.Kids.length →
    Ev (fun f => G.spec_mergeFor.L1 f a b (i : Int) ((List.range' 0 i).foldl (fA (pbM d) a b) empM).Kind ((List.range' 0 i).foldl (fA (pbM d) a b) empM).Num ((List.range' 0 i).foldl (fA (pbM d) a b) empM).Text ((List.range' 0 i).foldl (fA (pbM d) a b) empM).Names ((List.range' 0 i).foldl (fA (pbM d) a b) empM).Kids) (pbM (d + 1) a b) := by
  have hl := ma.len
  have hk := ma.mp.map.len
  have hlb := mb.len
  intro t
  induction t with
  | zero =>
    intro i hi
    have : i = a.Kids.length := by omega
    subst this
    have h1 := (fA_facts ma mb (F := pbM d) (fun x y hx hy => pb_fine d hx hy) a.Kids.length (Nat.le_refl _)).1
    refine Ev.up ?_
    simp only [G.spec_mergeFor.L1]
    refine Ev.cf (decide_eq_false (by omega)) ((T.mergeFor.L2 ma mb hd h1 (by omega) b.Kids.length 0 (by omega)).eq ?_)
    rw [pbM_succ, if_pos ⟨ma.mp.map.kind, mb.mp.map.kind⟩]
  | succ t ih =>
    intro i hi
    have hn := ih (i + 1) (by omega)
    rw [range_concat, List.foldl_append, List.foldl_cons, List.foldl_nil] at hn
    obtain ⟨h1, _⟩ := fA_facts ma mb (F := pbM d) (fun x y hx hy => pb_fine d hx hy) i (by omega)
    generalize (List.range' 0 i).foldl (fA (pbM d) a b) empM = m at h1 hn ⊢
    have hx := shape_kid ma.sh (show i < a.Kids.length by omega)
    have hc := h1.cnt
    have put : ∀ v, Fine 12 (d + 1) v → Ev (fun f => G.spec_addHere f m (a.Names.getD i default) v) (putT m (a.Names.getD i default) v, true) := fun v hv => by
      obtain ⟨g1, _⟩ := put_mf h1 (ma.name (show i < a.Kids.length by omega)) hv
      have g3 := T.spec_addHere (a.Names.getD i default) (show 12 < lim by decide) (h1.fine (by omega)) hv
      rw [g1] at g3
      exact g3
    refine Ev.up ?_
    simp only [G.spec_mergeFor.L1, Int.toNat_natCast, wrap_suc (show i + 1 < 9223372036854775808 by omega), NodeT.eta]
    unfold fA lk at hn
    refine Ev.ct (decide_eq_true (by omega)) (Ev.chk (by omega) (Ev.bind (T.spec_place _ lim12 (shape_fine mb.sh)) ?_))
    cases hj : plc b (a.Names.getD i default) with
    | none =>
      rw [hj] at hn
      simp only [Option.map_none] at hn
      exact Ev.ct (by decide) (Ev.chk (by omega) (Ev.bind (put noNode (no_fine (by omega))) hn))
    | some j =>
      have hjl := plc_lt hj
      have hy := shape_kid mb.sh hjl
      rw [hj] at hn
      simp only [Option.map_some] at hn
      obtain ⟨v, gs, hv⟩ := T.spec_same hx hy
      simp only [plcI, Int.toNat_natCast]
      refine Ev.cf (decide_eq_false (by omega)) (Ev.chk (by omega) (Ev.chk (by omega) (Ev.bind gs ?_)))
      by_cases c : a.Kids.getD i default = b.Kids.getD j default
      · simp only [if_pos c] at hn
        exact Ev.ct (hv.2 c) hn
      · simp only [if_neg c] at hn
        exact Ev.cf (bool_of hv c) (Ev.chk (by omega) (Ev.chk (by omega) (Ev.chk (by omega) (Ev.bind (hs _ _ hx hy) (Ev.bind (put _ (pb_fine d hx hy)) hn)))))
end
theorem T.patchBetween : ∀ (d : Nat) {a b : NodeT}, d ≤ 5 → Shape d a = true → Shape d b = true → Ev (fun f => G.impl_patchBetween f a b) (pbM d a b)
  | 0, _, _, _, h, _ => by cases h
  | d + 1, a, b, hd, ha, hb => by
    have cb : Ev (fun f => Option.bind (G.impl_copyNode f b) fun v => some v) b := Ev.bind (T.impl_copyNode lim12 (shape_fine hb)) (Ev.ret _)
    refine Ev.up ?_
    simp only [G.impl_patchBetween]
    refine Ev.ite (fun e => ?_) (fun e => Ev.ite (fun e2 => ?_) (fun e2 => ?_))
    · have : ¬ a.Kind = 4 := by simpa using e
      rw [pbM_succ, if_neg (fun h => this h.1)]
      exact cb
    · have : ¬ b.Kind = 4 := by simpa using e2
      rw [pbM_succ, if_neg (fun h => this h.2)]
      exact cb
    · have ka : a.Kind = 4 := by simpa using e
      have kb : b.Kind = 4 := by simpa using e2
      exact T.patchBetween.L1 (ms_of ha ka) (ms_of hb kb) (by omega) (fun x y hx hy => T.patchBetween d (by omega) hx hy) a.Kids.length 0 (by omega)
theorem T.mergeFor : ∀ (d : Nat) {a b : NodeT}, d ≤ 5 → Shape d a = true → Shape d b = true → Ev (fun f => G.spec_mergeFor f a b) (pbM d a b)
  | 0, _, _, _, h, _ => by cases h
  | d + 1, a, b, hd, ha, hb => by
    have cb : Ev (fun f => Option.bind (G.spec_copyNode f b) fun v => some v) b := Ev.bind (T.spec_copyNode lim12 (shape_fine hb)) (Ev.ret _)
    refine Ev.up ?_
    simp only [G.spec_mergeFor]
    refine Ev.ite (fun e => ?_) (fun e => Ev.ite (fun e2 => ?_) (fun e2 => ?_))
    · have : ¬ a.Kind = 4 := by simpa using e
      rw [pbM_succ, if_neg (fun h => this h.1)]
      exact cb
    · have : ¬ b.Kind = 4 := by simpa using e2
      rw [pbM_succ, if_neg (fun h => this h.2)]
      exact cb
    · have ka : a.Kind = 4 := by simpa using e
      have kb : b.Kind = 4 := by simpa using e2
      exact T.mergeFor.L1 (ms_of ha ka) (ms_of hb kb) (by omega) (fun x y hx hy => T.mergeFor d (by omega) hx hy) a.Kids.length 0 (by omega)
end Go.Ab
end
section
namespace Go.Ab
open Go
set_option maxRecDepth 100000
set_option linter.unusedSectionVars false
section
variable {d e : Nat} {n0 p : NodeT} (mp : MS d p) (h0 : MF (d + e + 1) 6 n0) (hq : ∀ k, k ∈ n0.Kids → ShN e k) (hd : d ≤ 5)
include mp h0 hq hd
theorem T.mergeValid.L4 (hs : ∀ o q, ShN e o → Shape d q = true → Ev (fun f => G.impl_mergeValid f o q) (mgM d o q)) : ∀ (t i : Nat), i + t = p.Kids.length →
    Ev (fun f => G.impl_mergeValid.L4 f p (i : Int) ((List.range' 0 i).foldl (mgF (mgM d) p) n0).Kind ((List.range' 0 i).foldl (mgF (mgM d) p) n0).Num ((List.range' 0 i).foldl (mgF (mgM d) p) n0).Text ((List.range' 0 i).foldl (mgF (mgM d) p) n0).Names ((List.range' 0 i).foldl (mgF (mgM d) p) n0).Kids) ((List.range' 0 p.Kids.length).foldl (mgF (mgM d) p) n0) := by
  have hl := mp.len
  have hk := mp.mp.map.len
  intro t
  induction t with
  | zero =>
    intro i hi
    have : i = p.Kids.length := by omega
    subst this
    refine Ev.up ?_
    simp only [G.impl_mergeValid.L4]
    exact Ev.cf (decide_eq_false (by omega)) (Ev.ret' (NodeT.eta _))
  | succ t ih =>
    intro i hi
    have hn := ih (i + 1) (by omega)
    rw [range_concat, List.foldl_append, List.foldl_cons, List.foldl_nil] at hn
    have hF := fun (o q : NodeT) (ho : ShN e o) (hq : Shape d q = true) => mg_fine d hq ho
    obtain ⟨h1, h2⟩ := mgF_facts mp h0 (Q := ShN e) (.inr rfl) hq hF i (by omega)
    generalize (List.range' 0 i).foldl (mgF (mgM d) p) n0 = m at h1 h2 hn ⊢
    have hi' : i < p.Kids.length := by omega
    have hx := shape_kid mp.sh hi'
    have hc := h1.cnt
    have hms : lk m (p.Names.getD i default) = lk n0 (p.Names.getD i default) := by rw [h2, if_neg (not_taken mp.mp.map hi')]
    obtain ⟨q, gq, hqj⟩ := T.bs (p.Names.getD i default) h1.mp.map (by omega)
    refine Ev.up ?_
    simp only [G.impl_mergeValid.L4, Int.toNat_natCast, wrap_suc (show i + 1 < 9223372036854775808 by omega), NodeT.eta]
    unfold mgF at hn
    refine Ev.ct (decide_eq_true (by omega)) (Ev.chk (by omega) (Ev.chk (by omega) ?_))
    by_cases c : (p.Kids.getD i default).Kind = 0
    · rw [if_pos c] at hn
      exact Ev.ct (by simpa using c) (Ev.bind (T.dropName _ h1.mp (by omega)) hn)
    · rw [if_neg c] at hn
      have fin : ∀ o, o = (lk m (p.Names.getD i default)).getD noNode → Ev (fun f => G.impl_mergeValid.K5 f p (i : Int) m.Kind m.Num m.Text m.Names m.Kids o.Kind o.Num o.Text o.Names o.Kids) ((List.range' 0 p.Kids.length).foldl (mgF (mgM d) p) n0) := fun o ho => by
        have hso : ShN e o := by
          rw [ho, hms]
          cases hl' : lk n0 (p.Names.getD i default) with
          | none => exact .inr rfl
          | some x => exact hq x (lk_kid hl')
        have hf := hF _ _ hso hx
        obtain ⟨g1, _⟩ := put_mf h1 (mp.name hi') hf
        obtain ⟨m', g2, g3⟩ := T.putName_mp (v := mgM d o (p.Kids.getD i default)) (p.Names.getD i default) h1.mp (by omega)
        rw [g1] at g2
        cases g2
        rw [← ho] at hn
        refine Ev.up ?_
        simp only [G.impl_mergeValid.K5, Int.toNat_natCast, wrap_suc (show i + 1 < 9223372036854775808 by omega), NodeT.eta]
        exact Ev.chk (by omega) (Ev.bind (hs _ _ hso hx) (Ev.bind g3 hn))
      refine Ev.cf (by simpa using c) (Ev.bind gq ?_)
      cases hj : plc m (p.Names.getD i default) with
      | none => exact Ev.cf rfl (fin noNode (by unfold lk; rw [hj]; rfl))
      | some j =>
        have ej := hqj j hj
        subst ej
        have hjl := plc_lt hj
        simp only [Int.toNat_natCast]
        exact Ev.ct rfl (Ev.chk (by omega) (fin (m.Kids.getD q default) (by unfold lk; rw [hj]; rfl)))
end
theorem T.mergeValid : ∀ (d : Nat) {E : Nat} {n p : NodeT}, d ≤ 5 → Shape d p = true → ShN E n → Ev (fun f => G.impl_mergeValid f n p) (mgM d n p)
  | 0, _, _, _, _, h, _ => by cases h
  | d + 1, E, n, p, hd, hp, hn => by
    refine Ev.up ?_
    simp only [G.impl_mergeValid]
    rw [mgM_succ]
    refine Ev.ite (fun c => ?_) (fun c => ?_)
    · have : ¬ p.Kind = 4 := by simpa using c
      rw [if_neg this]
      exact Ev.bind (T.impl_copyNode lim12 (shape_fine hp)) (Ev.ret _)
    · have kp : p.Kind = 4 := by simpa using c
      rw [if_pos kp]
      have mp := ms_of hp kp
      obtain ⟨e, he, hb, hq⟩ := bas_mf hn
      have L := T.mergeValid.L4 mp (mf_mono hb (by omega : e ≤ d + e + 1) (Nat.le_refl _)) hq (by omega) (fun o q ho hq => T.mergeValid d (by omega) hq ho) p.Kids.length 0 (by omega)
      have L' : Ev (fun f => G.impl_mergeValid.K1 f p (bas n).Kind (bas n).Num (bas n).Text (bas n).Names (bas n).Kids) ((List.range' 0 p.Kids.length).foldl (mgF (mgM d) p) (bas n)) := by
        refine Ev.up ?_
        simp only [G.impl_mergeValid.K1]
        exact L
      unfold bas at L' ⊢
      refine Ev.ite (fun c => ?_) (fun c => ?_)
      · have kn : n.Kind = 4 := by simpa using c
        rw [if_pos kn] at L' ⊢
        have hf : Fine 12 E n := by
          rcases hn with h | h
          · exact shape_fine h
          · rw [h] at kn; cases kn
        exact Ev.bind (T.impl_copyNode lim12 hf) L'
      · have kn : ¬ n.Kind = 4 := by simpa using c
        rw [if_neg kn] at L' ⊢
        exact L'
theorem T.spec_merge0 : ∀ (d : Nat) {p : NodeT}, d ≤ 5 → Shape d p = true → Ev (fun f => G.spec_merge f noNode p) (mgM d noNode p)
  | 0, _, _, h => by cases h
  | d + 1, p, hd, hp => by
    refine Ev.up ?_
    simp only [G.spec_merge]
    rw [mgM_succ]
    refine Ev.ite (fun c => ?_) (fun c => ?_)
    · have : ¬ p.Kind = 4 := by simpa using c
      rw [if_neg this]
      exact Ev.bind (T.spec_copyNode lim12 (shape_fine hp)) (Ev.ret _)
    · have kp : p.Kind = 4 := by simpa using c
      rw [if_pos kp]
      have mp := ms_of hp kp
      have hl := mp.len
      have hk := mp.mp.map.len
      have hF := fun (o q : NodeT) (ho : ShN 0 o) (hq : Shape d q = true) => mg_fine d hq ho
      have facts := fun i hi => mgF_facts (F := mgM d) (D := d + 0 + 1) (c := 0) (n0 := empM) mp mf_emp (Q := ShN 0) (.inr rfl) (fun k hk => by cases hk) hF i hi
      have L : ∀ (t i : Nat), i + t = p.Kids.length → Ev (fun f => G.spec_merge.L2 f p (i : Int) ((List.range' 0 i).foldl (mgF (mgM d) p) empM).Kind ((List.range' 0 i).foldl (mgF (mgM d) p) empM).Num ((List.range' 0 i).foldl (mgF (mgM d) p) empM).Text ((List.range' 0 i).foldl (mgF (mgM d) p) empM).Names ((List.range' 0 i).foldl (mgF (mgM d) p) empM).Kids) ((List.range' 0 p.Kids.length).foldl (mgF (mgM d) p) empM) := by
        intro t
        induction t with
        | zero =>
          intro i hi
          have : i = p.Kids.length := by omega
          subst this
          refine Ev.up ?_
          simp only [G.spec_merge.L2]
          exact Ev.cf (decide_eq_false (by omega)) (Ev.ret' (NodeT.eta _))
        | succ t ih =>
          intro i hi
          have hn := ih (i + 1) (by omega)
          rw [range_concat, List.foldl_append, List.foldl_cons, List.foldl_nil] at hn
          obtain ⟨h1, h2⟩ := facts i (by omega)
          generalize (List.range' 0 i).foldl (mgF (mgM d) p) empM = m at h1 h2 hn ⊢
          have hi' : i < p.Kids.length := by omega
          have hx := shape_kid mp.sh hi'
          have hc := h1.cnt
          have hms : lk m (p.Names.getD i default) = none := by rw [h2, if_neg (not_taken mp.mp.map hi')]; rfl
          have hpl : plc m (p.Names.getD i default) = none := by unfold lk at hms; simpa using hms
          refine Ev.up ?_
          simp only [G.spec_merge.L2, Int.toNat_natCast, wrap_suc (show i + 1 < 9223372036854775808 by omega), NodeT.eta]
          unfold mgF at hn
          refine Ev.ct (decide_eq_true (by omega)) (Ev.chk (by omega) (Ev.bind (T.spec_place _ lim12 (h1.fine (by omega))) (Ev.chk (by omega) ?_)))
          rw [hpl]
          have neg : decide (0 ≤ plcI none) = false := by decide
          by_cases c : (p.Kids.getD i default).Kind = 0
          · rw [if_pos c] at hn
            have : (remN m (p.Names.getD i default)).getD m = m := by unfold remN; rw [hpl]; rfl
            rw [this] at hn
            exact Ev.ct (by simpa using c) (Ev.cf neg (Ev.chk (by omega) (Ev.cf (by simpa using c) (Ev.chk (by omega) hn))))
          · rw [if_neg c, hms] at hn
            have hf := hF noNode _ (.inr rfl) hx
            obtain ⟨g1, _⟩ := put_mf h1 (mp.name hi') hf
            have g3 := T.spec_addHere (p.Names.getD i default) (show 12 < lim by decide) (h1.fine (by omega)) hf
            rw [g1] at g3
            exact Ev.cf (by simpa using c) (Ev.chk (by omega) (Ev.ct (by simpa using c) (Ev.cf neg (Ev.chk (by omega) (Ev.chk (by omega) (Ev.bind (T.spec_merge0 d (by omega) hx) (Ev.bind g3 hn)))))))
      refine Ev.cf rfl (Ev.up ?_)
      simp only [G.spec_merge.K1]
      exact L p.Kids.length 0 (by omega)
theorem D.DrawMergeFor {c : List Int} (hc : Bytes c) (hl : c.length ≤ 1048576) : Tot N2 (fun f => G.spec_DrawMergeFor f c) := by
  refine Tot.up ?_
  simp only [G.spec_DrawMergeFor]
  refine Tot.bind (D.newReader hc hl) (fun r hr => Tot.bind (D.anyPair hr) ?_)
  rintro ⟨a, b, r1⟩ ⟨ha, ⟨E, hb⟩, hr1⟩
  refine Tot.bind (D.pick (m := 3) hr1 (by omega) rfl (by decide) (by decide)) ?_
  rintro ⟨x, r2⟩ _
  refine Tot.ite (fun _ => ?_) (fun _ => Tot.ret ⟨ha, ⟨E, hb⟩⟩)
  refine Tot.bindE (T.spec_validNode lim60 hb) (Tot.ite (fun e => ?_) (fun _ => Tot.ret ⟨ha, ⟨E, hb⟩⟩))
  exact Tot.bindE (T.spec_merge0 5 (by omega) (val_shape e)) (Tot.ret ⟨ha, ⟨_, (mg_fine 5 (E := 0) (val_shape e) (.inr rfl)).mono (by omega) (Nat.le_refl _)⟩⟩)
noncomputable def ForM (a b : NodeT) : Option NodeT := if Val a && (Val b && plB 5 b) then (some (pbM 5 a b)).filter Val else none
section
variable {D E : Nat} {a b : NodeT} (ha : Fine 60 D a) (hb : Fine 60 E b)
include ha hb
theorem T.impl_MergeFor : Ev (fun f => G.impl_MergeFor f a b) (pairO (ForM a b)) := by
  refine Ev.up ?_
  simp only [G.impl_MergeFor]
  unfold ForM
  refine Ev.bind (T.impl_ValidNode lim60 ha) (Ev.ite (fun e1 => ?_) (fun e1 => Ev.ret' (by rw [e1]; rfl)))
  have hp : Ev (fun f => G.impl_IsPlain f b) (Val b && plB 5 b) := by
    refine Ev.up ?_
    simp only [G.impl_IsPlain]
    refine Ev.bind (T.impl_ValidNode lim60 hb) (Ev.ite (fun e2 => ?_) (fun e2 => Ev.ret' (by rw [e2]; rfl)))
    exact Ev.bind (T.impl_plain 5 (val_shape e2)) (Ev.ret' (by rw [e2]; rfl))
  refine Ev.bind hp (Ev.ite (fun e2 => ?_) (fun e2 => Ev.ret' (by rw [e1, e2]; rfl)))
  obtain ⟨vb, _⟩ : Val b = true ∧ plB 5 b = true := by simpa using e2
  have gp := T.patchBetween 5 (by omega) (val_shape e1) (val_shape vb)
  have gc := T.impl_checked (o := some (pbM 5 a b)) lim12 (fun m hm => by cases hm; exact pb_fine 5 (val_shape e1) (val_shape vb))
  rw [e1, e2]
  exact Ev.bind gp (Ev.bind gc (Ev.ret _))
theorem T.spec_MergeFor : Ev (fun f => G.spec_MergeFor f a b) (pairO (ForM a b)) := by
  refine Ev.up ?_
  simp only [G.spec_MergeFor]
  unfold ForM
  refine Ev.bind (T.spec_validNode lim60 ha) (Ev.ite (fun e1 => ?_) (fun e1 => Ev.ret' (by rw [e1]; rfl)))
  refine Ev.bind (T.spec_validNode lim60 hb) (Ev.ite (fun e2 => ?_) (fun e2 => Ev.ret' (by rw [e1, e2]; rfl)))
  refine Ev.bind (T.spec_plain 5 (val_shape e2)) (Ev.ite (fun e3 => ?_) (fun e3 => Ev.ret' (by rw [e1, e2, e3]; rfl)))
  have gp := T.mergeFor 5 (by omega) (val_shape e1) (val_shape e2)
  have gc := T.spec_checked (o := some (pbM 5 a b)) lim12 (fun m hm => by cases hm; exact pb_fine 5 (val_shape e1) (val_shape e2))
  rw [e1, e2, e3]
  exact Ev.bind gp (Ev.bind gc (Ev.ret _))
end
theorem T.impl_MergeNode {D E : Nat} {n p : NodeT} (hn : Fine 60 D n) (hp : Fine 60 E p) : Ev (fun f => G.impl_MergeNode f n p) (pairO (if Val n && Val p then (some (mgM 5 n p)).filter Val else none)) := by
  refine Ev.up ?_
  simp only [G.impl_MergeNode]
  refine Ev.bind (T.impl_ValidNode lim60 hn) (Ev.ite (fun e1 => ?_) (fun e1 => Ev.ret' (by rw [e1]; rfl)))
  refine Ev.bind (T.impl_ValidNode lim60 hp) (Ev.ite (fun e2 => ?_) (fun e2 => Ev.ret' (by rw [e1, e2]; rfl)))
  have gp := T.mergeValid 5 (by omega) (val_shape e2) (.inl (val_shape e1))
  have gc := T.impl_checked (o := some (mgM 5 n p)) lim12 (fun m hm => by cases hm; exact mg_fine 5 (val_shape e2) (.inl (val_shape e1)))
  rw [e1, e2]
  exact Ev.bind gp (Ev.bind gc (Ev.ret _))
theorem for_val {a b p : NodeT} (h : ForM a b = some p) : Val a = true ∧ Val b = true ∧ plB 5 b = true ∧ p = pbM 5 a b ∧ Val p = true := by
  unfold ForM at h
  split at h
  · rename_i c
    obtain ⟨h1, h2⟩ := filter_facts h
    cases h1
    obtain ⟨c1, c2, c3⟩ : Val a = true ∧ Val b = true ∧ plB 5 b = true := by simpa using c
    exact ⟨c1, c2, c3, rfl, h2⟩
  · cases h
theorem T.law_DiffNodesMerge {c : List Int} (hc : Bytes c) : Ev (fun f => G.laws_FnDiffNodesMerge f c) true := by
  refine Ev.up ?_
  simp only [G.laws_FnDiffNodesMerge]
  refine Ev.ite (fun _ => Ev.ret _) (fun e => ?_)
  obtain ⟨⟨a, b⟩, g, hab⟩ := D.DrawMergeFor hc (by simp at e; omega)
  obtain ⟨D, E, ha, hb⟩ := hab.fine
  have eq := pair_self (ForM a b) (fun m hm => (for_val hm).2.2.2.2)
  refine Ev.bind g (Ev.bind (T.impl_MergeFor ha hb) (Ev.bind (T.spec_MergeFor ha hb) (Ev.bind eq (Ev.ct rfl ?_))))
  cases h : ForM a b with
  | none =>
    rw [h] at eq
    exact evd
  | some p =>
    obtain ⟨va, vb, hp, rfl, vp⟩ := for_val h
    refine Ev.ct rfl (Ev.ct rfl (Ev.up ?_))
    simp only [G.laws_FnDiffNodesMerge.K1]
    have hM := T.impl_MergeNode ha (fine_val vp)
    rw [va, vp, mg_between 5 (val_shape va) (val_shape vb) hp (val_shape vp)] at hM
    have hf : (some b).filter Val = some b := by simp [Option.filter, vb]
    simp only [Bool.and_self, if_true, hf] at hM
    refine Ev.bind hM (Ev.bind (T.impl_DiffNodes lim60 ha hb) (Ev.ct rfl ?_))
    rcases dif_cases a b with h | h
    · rw [h]
      exact Ev.cf rfl (Ev.ret _)
    · have hP := T.impl_ApplyPatch lim60 ha (diff_fine h.va h.vb)
      rw [h.run] at hP
      rw [h.is]
      exact Ev.ct rfl (Ev.bind hP (Ev.ct rfl (Ev.bind (equal_val h.vb) (Ev.ret _))))
end Go.Ab
end
section
namespace Go.Ab
open Go
set_option maxRecDepth 100000
set_option maxHeartbeats 4000000
set_option linter.unusedVariables false
set_option linter.unusedSimpArgs false
theorem F.cmp_isNaN_int {n : Nat} : ∀ {a_x1 : Int} {r : Bool}, G.cmp_isNaN_int n a_x1 = some r → APure Go.Proofs.Tryz.prog 164 [.one (.c (.lit (.int .i64 a_x1)))] (.one (.c (.lit (.bool r)))) := by
  intro a_x1 r h
  refine fun_pure K.cmp_isNaN_int (ofK ?_)
  unfold C.cmp_isNaN_int
  rcases n with _ | n <;> simp only [G.cmp_isNaN_int, reduceCtorEq] at h
  obtain ⟨zc, zg, zk, zu, ze, zj, zt⟩ := pp () <| pp () <| pp () <| pp () <| pp () <| pp () <| ()
  exact drv
theorem F.cmp_Compare_int {n : Nat} : ∀ {a_x1 : Int} {a_y1 : Int} {r : Int}, G.cmp_Compare_int n a_x1 a_y1 = some r → APure Go.Proofs.Tryz.prog 110 [.one (.c (.lit (.int .i64 a_x1))), .one (.c (.lit (.int .i64 a_y1)))] (.one (.c (.lit (.int .i64 r)))) := by
  intro a_x1 a_y1 r h
  refine fun_pure K.cmp_Compare_int (ofK ?_)
  unfold C.cmp_Compare_int
  rcases n with _ | n <;> simp only [G.cmp_Compare_int, reduceCtorEq] at h
  obtain ⟨zc, zg, zk, zu, ze, zj, zt⟩ := pp (pp @F.cmp_isNaN_int ()) <| pp () <| pp () <| pp () <| pp () <| pp () <| ()
  exact drv
theorem F.cmp_isNaN_string {n : Nat} : ∀ {a_x1 : Txt} {r : Bool}, G.cmp_isNaN_string n a_x1 = some r → APure Go.Proofs.Tryz.prog 178 [.one (.c (.str a_x1))] (.one (.c (.lit (.bool r)))) := by
  intro a_x1 r h
  refine fun_pure K.cmp_isNaN_string (ofK ?_)
  unfold C.cmp_isNaN_string
  rcases n with _ | n <;> simp only [G.cmp_isNaN_string, reduceCtorEq] at h
  obtain ⟨zc, zg, zk, zu, ze, zj, zt⟩ := pp () <| pp () <| pp () <| pp () <| pp () <| pp () <| ()
  exact drv
theorem F.cmp_Less_string {n : Nat} : ∀ {a_x1 : Txt} {a_y1 : Txt} {r : Bool}, G.cmp_Less_string n a_x1 a_y1 = some r → APure Go.Proofs.Tryz.prog 137 [.one (.c (.str a_x1)), .one (.c (.str a_y1))] (.one (.c (.lit (.bool r)))) := by
  intro a_x1 a_y1 r h
  refine fun_pure K.cmp_Less_string (ofK ?_)
  unfold C.cmp_Less_string
  rcases n with _ | n <;> simp only [G.cmp_Less_string, reduceCtorEq] at h
  obtain ⟨zc, zg, zk, zu, ze, zj, zt⟩ := pp (pp @F.cmp_isNaN_string ()) <| pp () <| pp () <| pp () <| pp () <| pp () <| ()
  exact drv
theorem F.impl_copyNode_n : ∀ (n : Nat), ∀ {a_n1 : NodeT} {r : NodeT}, G.impl_copyNode n a_n1 = some r → APure Go.Proofs.Tryz.prog 61 [.agg [.c (.lit (.int .i64 a_n1.Kind)), .c (.lit (.int .i64 a_n1.Num)), .c (.str a_n1.Text), .c (.sl 1 (List.map cS a_n1.Names)), .c (.sl 5 (List.map NodeT.cells a_n1.Kids))]] (.agg [.c (.lit (.int .i64 r.Kind)), .c (.lit (.int .i64 r.Num)), .c (.str r.Text), .c (.sl 1 (List.map cS r.Names)), .c (.sl 5 (List.map NodeT.cells r.Kids))]) := by
  intro n
  induction n using Nat.strongRecOn with | _ n ih =>
  intro a_n1 r h
  refine fun_pure K.impl_copyNode (ofK ?_)
  unfold C.impl_copyNode
  rcases n with _ | n <;> simp only [G.impl_copyNode, reduceCtorEq] at h
  obtain ⟨zc, zg, zk, zu, ze, zj, zt⟩ := pp (pp ih ()) <| pp () <| pp (pp (@lopX (List Txt × Int × List NodeT) _ (fun n x => G.impl_copyNode.L2 n a_n1 x.1 x.2.1 x.2.2) r (fun x => ASt.of [(2, .v true (.one (.ptr 113 0))), (3, .v true (.one (.ptr 114 0))), (37, .v true (.one (.c (.sl 5 (List.map NodeT.cells a_n1.Kids))))), (38, .v true (.one (.c (.lit (.int .i64 ((a_n1.Kids.length : Nat) : Int)))))), (39, .v true (.one (.c (.lit (.int .i64 x.2.1)))))] [(113, .var [.c (.lit (.int .i64 0)), .c (.lit (.int .i64 0)), .c (.str []), .nsl 1, .nsl 5]), (114, .var [.c (.lit (.int .i64 a_n1.Kind)), .c (.lit (.int .i64 a_n1.Num)), .c (.str a_n1.Text), .own 115 x.1.length 1, .own 116 x.2.2.length 5]), (115, .dat 1 (List.map cS x.1)), (116, .dat 5 (List.map NodeT.cells x.2.2))])) ()) <| pp (pp (@cutX (List Txt) _ (fun n x => G.impl_copyNode.K1 n a_n1 x) r (fun x => ASt.of [(1, .v true (.one (.ptr 101 0))), (2, .v true (.one (.ptr 102 0))), (3, .v true (.one (.ptr 103 0)))] [(101, .var [.c (.lit (.int .i64 a_n1.Kind)), .c (.lit (.int .i64 a_n1.Num)), .c (.str a_n1.Text), .c (.sl 1 (List.map cS a_n1.Names)), .c (.sl 5 (List.map NodeT.cells a_n1.Kids))]), (102, .var [.c (.lit (.int .i64 0)), .c (.lit (.int .i64 0)), .c (.str []), .nsl 1, .nsl 5]), (103, .var [.c (.lit (.int .i64 a_n1.Kind)), .c (.lit (.int .i64 a_n1.Num)), .c (.str a_n1.Text), .own 104 x.length 1, .nsl 5]), (104, .dat 1 (List.map cS x))])) ()) <| pp (pp (And.intro @G.impl_copyNode.K1.eq_1 <| And.intro @G.impl_copyNode.K1.eq_2 <| And.intro @G.impl_copyNode.L2.eq_1 <| @G.impl_copyNode.L2.eq_2) ()) <| pp (pp (@weakX [] [(101, 10), (102, 11), (103, 12), (104, 13)] []) <| pp (@weakX [] [(101, 10), (102, 11), (103, 12)] [104]) <| pp (@weakX [] [(113, 102), (114, 103), (115, 104), (116, 14)] []) <| pp (@weakX [] [(113, 113), (114, 114), (115, 115), (116, 116)] []) ()) <| ()
  exact drv
theorem F.impl_copyNode {n : Nat} : ∀ {a_n1 : NodeT} {r : NodeT}, G.impl_copyNode n a_n1 = some r → APure Go.Proofs.Tryz.prog 61 [.agg [.c (.lit (.int .i64 a_n1.Kind)), .c (.lit (.int .i64 a_n1.Num)), .c (.str a_n1.Text), .c (.sl 1 (List.map cS a_n1.Names)), .c (.sl 5 (List.map NodeT.cells a_n1.Kids))]] (.agg [.c (.lit (.int .i64 r.Kind)), .c (.lit (.int .i64 r.Num)), .c (.str r.Text), .c (.sl 1 (List.map cS r.Names)), .c (.sl 5 (List.map NodeT.cells r.Kids))]) := F.impl_copyNode_n n
theorem F.impl_copyNode_o {n : Nat} : ∀ {a_n1 : NodeT} {r : NodeT}, G.impl_copyNode n a_n1 = some r → ACalls Go.Proofs.Tryz.prog 61 [.agg [.c (.lit (.int .i64 a_n1.Kind)), .c (.lit (.int .i64 a_n1.Num)), .c (.str a_n1.Text), .c (.sl 1 (List.map cS a_n1.Names)), .c (.sl 5 (List.map NodeT.cells a_n1.Kids))]] [] (fun r1 b1 => r1 = .agg [.c (.lit (.int .i64 r.Kind)), .c (.lit (.int .i64 r.Num)), .c (.str r.Text), .own 0 r.Names.length 1, .own 1 r.Kids.length 5] ∧ b1 = [.dat 1 (List.map cS r.Names), .dat 5 (List.map NodeT.cells r.Kids)]) := by
  intro a_n1 r h
  refine fun_sound K.impl_copyNode (ofK ?_)
  unfold C.impl_copyNode
  rcases n with _ | n <;> simp only [G.impl_copyNode, reduceCtorEq] at h
  obtain ⟨zc, zg, zk, zu, ze, zj, zt⟩ := pp (pp @F.impl_copyNode ()) <| pp () <| pp (pp (@lopX (List Txt × Int × List NodeT) _ (fun n x => G.impl_copyNode.L2 n a_n1 x.1 x.2.1 x.2.2) r (fun x => ASt.of [(2, .v true (.one (.ptr 113 0))), (3, .v true (.one (.ptr 114 0))), (37, .v true (.one (.c (.sl 5 (List.map NodeT.cells a_n1.Kids))))), (38, .v true (.one (.c (.lit (.int .i64 ((a_n1.Kids.length : Nat) : Int)))))), (39, .v true (.one (.c (.lit (.int .i64 x.2.1)))))] [(113, .var [.c (.lit (.int .i64 0)), .c (.lit (.int .i64 0)), .c (.str []), .nsl 1, .nsl 5]), (114, .var [.c (.lit (.int .i64 a_n1.Kind)), .c (.lit (.int .i64 a_n1.Num)), .c (.str a_n1.Text), .own 115 x.1.length 1, .own 116 x.2.2.length 5]), (115, .dat 1 (List.map cS x.1)), (116, .dat 5 (List.map NodeT.cells x.2.2))])) ()) <| pp (pp (@cutX (List Txt) _ (fun n x => G.impl_copyNode.K1 n a_n1 x) r (fun x => ASt.of [(1, .v true (.one (.ptr 101 0))), (2, .v true (.one (.ptr 102 0))), (3, .v true (.one (.ptr 103 0)))] [(101, .var [.c (.lit (.int .i64 a_n1.Kind)), .c (.lit (.int .i64 a_n1.Num)), .c (.str a_n1.Text), .c (.sl 1 (List.map cS a_n1.Names)), .c (.sl 5 (List.map NodeT.cells a_n1.Kids))]), (102, .var [.c (.lit (.int .i64 0)), .c (.lit (.int .i64 0)), .c (.str []), .nsl 1, .nsl 5]), (103, .var [.c (.lit (.int .i64 a_n1.Kind)), .c (.lit (.int .i64 a_n1.Num)), .c (.str a_n1.Text), .own 104 x.length 1, .nsl 5]), (104, .dat 1 (List.map cS x))])) ()) <| pp (pp (And.intro @G.impl_copyNode.K1.eq_1 <| And.intro @G.impl_copyNode.K1.eq_2 <| And.intro @G.impl_copyNode.L2.eq_1 <| @G.impl_copyNode.L2.eq_2) ()) <| pp (pp (@weakX [] [(101, 10), (102, 11), (103, 12), (104, 13)] []) <| pp (@weakX [] [(101, 10), (102, 11), (103, 12)] [104]) <| pp (@weakX [] [(113, 102), (114, 103), (115, 104), (116, 14)] []) <| pp (@weakX [] [(113, 113), (114, 114), (115, 115), (116, 116)] []) ()) <| (pp (@retX [] [(0, 115), (1, 116)] []) <| pp (@retX [] [(0, 104)] [1]) ())
  exact drv
theorem F.slices_isNaN_string {n : Nat} : ∀ {a_x1 : Txt} {r : Bool}, G.slices_isNaN_string n a_x1 = some r → APure Go.Proofs.Tryz.prog 138 [.one (.c (.str a_x1))] (.one (.c (.lit (.bool r)))) := by
  intro a_x1 r h
  refine fun_pure K.slices_isNaN_string (ofK ?_)
  unfold C.slices_isNaN_string
  rcases n with _ | n <;> simp only [G.slices_isNaN_string, reduceCtorEq] at h
  obtain ⟨zc, zg, zk, zu, ze, zj, zt⟩ := pp () <| pp () <| pp () <| pp () <| pp () <| pp () <| ()
  exact drv
theorem F.slices_BinarySearch_string {n : Nat} : ∀ {a_x1 : List Txt} {a_target1 : Txt} {r : Int × Bool}, G.slices_BinarySearch_string n a_x1 a_target1 = some r → APure Go.Proofs.Tryz.prog 94 [.one (.c (.sl 1 (List.map cS a_x1))), .one (.c (.str a_target1))] (.tup [(false, [.c (.lit (.int .i64 r.1))]), (false, [.c (.lit (.bool r.2))])]) := by
  intro a_x1 a_target1 r h
  refine fun_pure K.slices_BinarySearch_string (ofK ?_)
  unfold C.slices_BinarySearch_string
  rcases n with _ | n <;> simp only [G.slices_BinarySearch_string, reduceCtorEq] at h
  obtain ⟨zc, zg, zk, zu, ze, zj, zt⟩ := pp (pp @F.cmp_Less_string <| pp @F.slices_isNaN_string ()) <| pp () <| pp (pp (@lopX (Int × Int) _ (fun n x => G.slices_BinarySearch_string.L1 n a_x1 a_target1 x.1 x.2) r (fun x => ASt.of [(0, .v true (.one (.c (.sl 1 (List.map cS a_x1))))), (1, .v true (.one (.c (.str a_target1)))), (6, .v true (.one (.c (.lit (.int .i64 ((a_x1.length : Nat) : Int)))))), (7, .v true (.one (.c (.lit (.int .i64 x.1))))), (8, .v true (.one (.c (.lit (.int .i64 x.2)))))] [])) ()) <| pp () <| pp (pp (And.intro @G.slices_BinarySearch_string.L1.eq_1 <| @G.slices_BinarySearch_string.L1.eq_2) ()) <| pp (pp (@weakX [] [] []) ()) <| ()
  exact drv
theorem F.internal_strconv_log10Pow2 {n : Nat} : ∀ {a_x1 : Int} {r : Int}, G.internal_strconv_log10Pow2 n a_x1 = some r → APure Go.Proofs.Tryz.prog 213 [.one (.c (.lit (.int .i64 a_x1)))] (.one (.c (.lit (.int .i64 r)))) := by
  intro a_x1 r h
  refine fun_pure K.internal_strconv_log10Pow2 (ofK ?_)
  unfold C.internal_strconv_log10Pow2
  rcases n with _ | n <;> simp only [G.internal_strconv_log10Pow2, reduceCtorEq] at h
  obtain ⟨zc, zg, zk, zu, ze, zj, zt⟩ := pp () <| pp () <| pp () <| pp () <| pp () <| pp () <| ()
  exact drv
theorem F.math_bits_Len64 {n : Nat} : ∀ {a_x1 : Int} {r : Int}, G.math_bits_Len64 n a_x1 = some r → APure Go.Proofs.Tryz.prog 163 [.one (.c (.lit (.int .u64 a_x1)))] (.one (.c (.lit (.int .i64 r)))) := by
  intro a_x1 r h
  refine fun_pure K.math_bits_Len64 (ofK ?_)
  unfold C.math_bits_Len64
  rcases n with _ | n <;> simp only [G.math_bits_Len64, reduceCtorEq] at h
  have := Mk.mk 1; have := Mk.mk 2
  obtain ⟨zc, zg, zk, zu, ze, zj, zt, zq⟩ := pp () <| pp () <| pp () <| pp (pp (@cutX (Int × Int) _ (fun n x => G.math_bits_Len64.K1 n x.1 x.2) r (fun x => ASt.of [(0, .v true (.one (.c (.lit (.int .u64 x.1))))), (2, .v true (.one (.c (.lit (.int .i64 x.2)))))] [])) <| pp (@cutX (Int × Int) _ (fun n x => G.math_bits_Len64.K2 n x.1 x.2) r (fun x => ASt.of [(0, .v true (.one (.c (.lit (.int .u64 x.1))))), (2, .v true (.one (.c (.lit (.int .i64 x.2)))))] [])) ()) <| pp (pp (And.intro @G.math_bits_Len64.K1.eq_1 <| And.intro @G.math_bits_Len64.K1.eq_2 <| And.intro @G.math_bits_Len64.K2.eq_1 <| @G.math_bits_Len64.K2.eq_2) ()) <| pp (pp (@weakX [] [] []) ()) <| pp () <| (pp (pp (rfl : @G.math_bits_Len64.K1 = _) ()) <| pp (pp (rfl : @G.math_bits_Len64.K2 = _) <| pp (rfl : @G.math_bits_Len64.K1 = _) ()) ())
  exact drvM
theorem F.internal_strconv_numDigits {n : Nat} : ∀ {a_d1 : Int} {r : Int}, G.internal_strconv_numDigits n a_d1 = some r → APure Go.Proofs.Tryz.prog 208 [.one (.c (.lit (.int .u64 a_d1)))] (.one (.c (.lit (.int .i64 r)))) := by
  intro a_d1 r h
  refine fun_pure K.internal_strconv_numDigits (ofK ?_)
  unfold C.internal_strconv_numDigits
  rcases n with _ | n <;> simp only [G.internal_strconv_numDigits, reduceCtorEq] at h
  obtain ⟨zc, zg, zk, zu, ze, zj, zt⟩ := pp (pp @F.math_bits_Len64 <| pp @F.internal_strconv_log10Pow2 ()) <| pp () <| pp () <| pp () <| pp () <| pp () <| ()
  exact drv
theorem F.internal_strconv_small {n : Nat} : ∀ {a_i1 : Int} {r : Txt}, G.internal_strconv_small n a_i1 = some r → APure Go.Proofs.Tryz.prog 207 [.one (.c (.lit (.int .i64 a_i1)))] (.one (.c (.str r))) := by
  intro a_i1 r h
  refine fun_pure K.internal_strconv_small (ofK ?_)
  unfold C.internal_strconv_small
  rcases n with _ | n <;> simp only [G.internal_strconv_small, reduceCtorEq] at h
  obtain ⟨zc, zg, zk, zu, ze, zj, zt⟩ := pp () <| pp () <| pp () <| pp () <| pp () <| pp () <| ()
  exact drv
theorem F.internal_strconv_FormatInt {n : Nat} : ∀ {a_i1 : Int} {a_base1 : Int} {r : Txt}, G.internal_strconv_FormatInt n a_i1 a_base1 = some r → APure Go.Proofs.Tryz.prog 201 [.one (.c (.lit (.int .i64 a_i1))), .one (.c (.lit (.int .i64 a_base1)))] (.one (.c (.str r))) := by
  intro a_i1 a_base1 r h
  refine fun_pure K.internal_strconv_FormatInt (ofK ?_)
  unfold C.internal_strconv_FormatInt
  rcases n with _ | n <;> simp only [G.internal_strconv_FormatInt, reduceCtorEq] at h
  have := Mk.mk 1; have := Mk.mk 2
  obtain ⟨zc, zg, zk, zu, ze, zj, zt, zq⟩ := pp (pp @F.internal_strconv_small <| pp @F.internal_strconv_numDigits ()) <| pp () <| pp () <| pp (pp (@cutX (Int × List Int) _ (fun n x => G.internal_strconv_FormatInt.K1 n x.1 x.2) r (fun x => ASt.of [(0, .v true (.one (.c (.lit (.int .i64 a_i1))))), (5, .v true (.one (.aptr 101 0 1 0))), (6, .v true (.one (.c (.lit (.int .u64 x.1)))))] [(101, .dat 1 (List.map cU x.2))])) <| pp (@cutX (Int × List Int) _ (fun n x => G.internal_strconv_FormatInt.K2 n x.1 x.2) r (fun x => ASt.of [(0, .v true (.one (.c (.lit (.int .i64 a_i1))))), (5, .v true (.one (.aptr 102 0 1 0))), (6, .v true (.one (.c (.lit (.int .u64 x.1)))))] [(102, .dat 1 (List.map cU x.2))])) ()) <| pp (pp (And.intro @G.internal_strconv_FormatInt.K1.eq_1 <| And.intro @G.internal_strconv_FormatInt.K1.eq_2 <| And.intro @G.internal_strconv_FormatInt.K2.eq_1 <| @G.internal_strconv_FormatInt.K2.eq_2) ()) <| pp (pp (@weakX [] [(101, 10)] []) <| pp (@weakX [] [(102, 10)] []) ()) <| pp () <| (pp (pp (rfl : @G.internal_strconv_FormatInt.K1 = _) ()) <| pp (pp (rfl : @G.internal_strconv_FormatInt.K2 = _) ()) ())
  exact drvM
theorem F.internal_strconv_Itoa {n : Nat} : ∀ {a_i1 : Int} {r : Txt}, G.internal_strconv_Itoa n a_i1 = some r → APure Go.Proofs.Tryz.prog 177 [.one (.c (.lit (.int .i64 a_i1)))] (.one (.c (.str r))) := by
  intro a_i1 r h
  refine fun_pure K.internal_strconv_Itoa (ofK ?_)
  unfold C.internal_strconv_Itoa
  rcases n with _ | n <;> simp only [G.internal_strconv_Itoa, reduceCtorEq] at h
  obtain ⟨zc, zg, zk, zu, ze, zj, zt⟩ := pp (pp @F.internal_strconv_FormatInt ()) <| pp () <| pp () <| pp () <| pp () <| pp () <| ()
  exact drv
theorem F.strconv_Itoa {n : Nat} : ∀ {a_i1 : Int} {r : Txt}, G.strconv_Itoa n a_i1 = some r → APure Go.Proofs.Tryz.prog 130 [.one (.c (.lit (.int .i64 a_i1)))] (.one (.c (.str r))) := by
  intro a_i1 r h
  refine fun_pure K.strconv_Itoa (ofK ?_)
  unfold C.strconv_Itoa
  rcases n with _ | n <;> simp only [G.strconv_Itoa, reduceCtorEq] at h
  obtain ⟨zc, zg, zk, zu, ze, zj, zt⟩ := pp (pp @F.internal_strconv_Itoa ()) <| pp () <| pp () <| pp () <| pp () <| pp () <| ()
  exact drv
theorem F.impl_kidIndex {n : Nat} : ∀ {a_n1 : NodeT} {a_step1 : Txt} {r : Int × Bool}, G.impl_kidIndex n a_n1 a_step1 = some r → APure Go.Proofs.Tryz.prog 107 [.agg [.c (.lit (.int .i64 a_n1.Kind)), .c (.lit (.int .i64 a_n1.Num)), .c (.str a_n1.Text), .c (.sl 1 (List.map cS a_n1.Names)), .c (.sl 5 (List.map NodeT.cells a_n1.Kids))], .one (.c (.str a_step1))] (.tup [(false, [.c (.lit (.int .i64 r.1))]), (false, [.c (.lit (.bool r.2))])]) := by
  intro a_n1 a_step1 r h
  refine fun_pure K.impl_kidIndex (ofK ?_)
  unfold C.impl_kidIndex
  rcases n with _ | n <;> simp only [G.impl_kidIndex, reduceCtorEq] at h
  obtain ⟨zc, zg, zk, zu, ze, zj, zt⟩ := pp (pp @F.slices_BinarySearch_string <| pp @F.strconv_Itoa ()) <| pp () <| pp (pp (@lopX (Int) _ (fun n x => G.impl_kidIndex.L1 n a_n1 a_step1 x) r (fun x => ASt.of [(1, .v true (.one (.c (.str a_step1)))), (21, .v true (.one (.c (.lit (.int .i64 ((a_n1.Kids.length : Nat) : Int)))))), (22, .v true (.one (.c (.lit (.int .i64 x)))))] [])) ()) <| pp () <| pp (pp (And.intro @G.impl_kidIndex.L1.eq_1 <| @G.impl_kidIndex.L1.eq_2) ()) <| pp (pp (@weakX [] [] []) ()) <| ()
  exact drv
theorem FZ.slices_Insert_impl_Node {es : List (List Cell)} {v : List Cell} {c i : Nat} (hc : es.length ≤ c) (hi : i ≤ es.length) (hb : (es.length + 1) * 86 ≤ 2 ^ 46) :
    ACalls Go.Proofs.Tryz.prog 140 [.one (.sub 0 0 es.length (some c) 5), .one (.c (.lit (.int .i64 (i : Int)))), .one (.own 1 1 5)] [.dat 5 es, .dat 5 [v]]
      (fun r1 b1 => r1 = .one (.own 2 (es.length + 1) 5) ∧ b1 = [.dead, .dat 5 [v], .dat 5 (es.take i ++ v :: es.drop i)]) := by
  have hw : IntKind.wrap .i64 ((es.length : Int) + ((1 : Nat) : Int)) = ((es.length + 1 : Nat) : Int) := by rw [wrap_id] <;> omega
  have hw2 : IntKind.wrap .i64 ((i : Int) + ((1 : Nat) : Int)) = ((i + 1 : Nat) : Int) := by rw [wrap_id] <;> omega
  have hw3 : IntKind.wrap .i64 (((es.length + 1 : Nat) : Int) - i) = ((es.length + 1 - i : Nat) : Int) := by rw [wrap_id] <;> omega
  refine fun_sound K.slices_Insert_impl_Node (ofK ?_)
  unfold C.slices_Insert_impl_Node
  have h10 : (((1 : Nat) : Int) == 0) = false := rfl
  by_cases h1 : i = es.length
  · subst h1
    have he : (((es.length : Nat) : Int) == ((es.length : Nat) : Int)) = true := by simp
    simp -dsimp only [egR, AOp.opds, AOp.f, AOp.rd, intBin, storeV, lvl, srcOf, reduceIte, Nat.reduceEqDiff, Nat.reduceAdd, Nat.reduceLeDiff, Nat.reduceBEq, reduceCtorEq, Int.reduceBNe, Int.reduceBEq, Int.reduceLT, Int.reduceLE, Int.reduceNeg, Nat.reduceLT, strBin, Int.reduceToNat, renC, ssliceV, sl3V, sappV, scpyV, appzV, sclrV, truncS, Option.map_none, Int.sub_zero, Nat.sub_zero, Int.toNat_sub, Int.ofNat_zero, List.drop_zero, List.take_length, Nat.add_sub_cancel, h10]
    repeat refine And.intro (by first | (show logOK _ _ _ _ = true; kernel_rfl) | (show callOK _ _ = true; kernel_rfl) | omega | assumption) ?_
    have e : es ++ [v] ++ List.drop (es.length + 1) es = es ++ v :: List.drop es.length es := by simp
    have e2 : es ++ [v] = es ++ v :: List.drop es.length es := by simp
    by_cases hr : es.length + 1 ≤ c
    · simp -dsimp only [egR, AOp.opds, AOp.f, AOp.rd, intBin, storeV, lvl, srcOf, reduceIte, Nat.reduceEqDiff, Nat.reduceAdd, Nat.reduceLeDiff, Nat.reduceBEq, reduceCtorEq, Int.reduceBNe, Int.reduceBEq, Int.reduceLT, Int.reduceLE, Int.reduceNeg, Nat.reduceLT, strBin, Int.reduceToNat, renC, ssliceV, sl3V, sappV, scpyV, appzV, sclrV, truncS, Option.map_none, Int.sub_zero, Nat.sub_zero, Int.toNat_sub, Int.ofNat_zero, List.drop_zero, List.take_length, Nat.add_sub_cancel, hr]
      repeat refine And.intro (by first | (show logOK _ _ _ _ = true; kernel_rfl) | (show callOK _ _ = true; kernel_rfl) | omega | assumption) ?_
      rw [e]
      refine ret_of [] [(0, 0), (1, 1), (2, 0)] [] (by rfl) ?_ ?_ ?_ <;> (simp -dsimp only [rwR, wkB, wkC, reduceIte, Nat.reduceEqDiff, reduceCtorEq, Nat.reduceAdd, Nat.reduceLeDiff] <;> first | (simp [List.take_of_length_le]; done) | ((try simp only [List.map_take, List.map_drop, List.map_append, List.map_cons, List.map_nil]) <;> (repeat' apply And.intro) <;> first | rfl | (simp; done) | (simp <;> omega; done) | (congr 1; exact (List.take_of_length_le (by simp <;> omega)).symm)))
    · simp -dsimp only [egR, AOp.opds, AOp.f, AOp.rd, intBin, storeV, lvl, srcOf, reduceIte, Nat.reduceEqDiff, Nat.reduceAdd, Nat.reduceLeDiff, Nat.reduceBEq, reduceCtorEq, Int.reduceBNe, Int.reduceBEq, Int.reduceLT, Int.reduceLE, Int.reduceNeg, Nat.reduceLT, strBin, Int.reduceToNat, renC, ssliceV, sl3V, sappV, scpyV, appzV, sclrV, truncS, Option.map_none, Int.sub_zero, Nat.sub_zero, Int.toNat_sub, Int.ofNat_zero, List.drop_zero, List.take_length, Nat.add_sub_cancel, hr]
      repeat refine And.intro (by first | (show logOK _ _ _ _ = true; kernel_rfl) | (show callOK _ _ = true; kernel_rfl) | omega | assumption) ?_
      rw [e2]
      refine ret_of [] [(0, 0), (1, 1), (2, 10)] [] (by rfl) ?_ ?_ ?_ <;> (simp -dsimp only [rwR, wkB, wkC, reduceIte, Nat.reduceEqDiff, reduceCtorEq, Nat.reduceAdd, Nat.reduceLeDiff] <;> first | (simp [List.take_of_length_le]; done) | ((try simp only [List.map_take, List.map_drop, List.map_append, List.map_cons, List.map_nil]) <;> (repeat' apply And.intro) <;> first | rfl | (simp; done) | (simp <;> omega; done) | (congr 1; exact (List.take_of_length_le (by simp <;> omega)).symm)))
  · have he : (((i : Nat) : Int) == ((es.length : Nat) : Int)) = false := by simp; omega
    simp -dsimp only [egR, AOp.opds, AOp.f, AOp.rd, intBin, storeV, lvl, srcOf, reduceIte, Nat.reduceEqDiff, Nat.reduceAdd, Nat.reduceLeDiff, Nat.reduceBEq, reduceCtorEq, Int.reduceBNe, Int.reduceBEq, Int.reduceLT, Int.reduceLE, Int.reduceNeg, Nat.reduceLT, strBin, Int.reduceToNat, renC, ssliceV, sl3V, sappV, scpyV, appzV, sclrV, truncS, Option.map_none, Int.sub_zero, Nat.sub_zero, Int.toNat_sub, Int.ofNat_zero, List.drop_zero, List.take_length, Nat.add_sub_cancel, h10]
    repeat refine And.intro (by first | (show logOK _ _ _ _ = true; kernel_rfl) | (show callOK _ _ = true; kernel_rfl) | omega | assumption) ?_
    simp -dsimp only [egR, AOp.opds, AOp.f, AOp.rd, intBin, storeV, lvl, srcOf, reduceIte, Nat.reduceEqDiff, Nat.reduceAdd, Nat.reduceLeDiff, Nat.reduceBEq, reduceCtorEq, Int.reduceBNe, Int.reduceBEq, Int.reduceLT, Int.reduceLE, Int.reduceNeg, Nat.reduceLT, strBin, Int.reduceToNat, renC, ssliceV, sl3V, sappV, scpyV, appzV, sclrV, truncS, Option.map_none, Int.sub_zero, Nat.sub_zero, Int.toNat_sub, Int.ofNat_zero, List.drop_zero, List.take_length, Nat.add_sub_cancel, he]
    by_cases hr : es.length + 1 ≤ c
    · have hd : decide ((c : Int) < ((es.length + 1 : Nat) : Int)) = false := by simp; omega
      simp -dsimp only [egR, AOp.opds, AOp.f, AOp.rd, intBin, storeV, lvl, srcOf, reduceIte, Nat.reduceEqDiff, Nat.reduceAdd, Nat.reduceLeDiff, Nat.reduceBEq, reduceCtorEq, Int.reduceBNe, Int.reduceBEq, Int.reduceLT, Int.reduceLE, Int.reduceNeg, Nat.reduceLT, strBin, Int.reduceToNat, renC, ssliceV, sl3V, sappV, scpyV, appzV, sclrV, truncS, Option.map_none, Int.sub_zero, Nat.sub_zero, Int.toNat_sub, Int.ofNat_zero, List.drop_zero, List.take_length, Nat.add_sub_cancel, hw, hd]
      repeat refine And.intro (by first | (show logOK _ _ _ _ = true; kernel_rfl) | (show callOK _ _ = true; kernel_rfl) | omega | assumption) ?_
      simp -dsimp only [egR, AOp.opds, AOp.f, AOp.rd, intBin, storeV, lvl, srcOf, reduceIte, Nat.reduceEqDiff, Nat.reduceAdd, Nat.reduceLeDiff, Nat.reduceBEq, reduceCtorEq, Int.reduceBNe, Int.reduceBEq, Int.reduceLT, Int.reduceLE, Int.reduceNeg, Nat.reduceLT, strBin, Int.reduceToNat, renC, ssliceV, sl3V, sappV, scpyV, appzV, sclrV, truncS, Option.map_none, Int.sub_zero, Nat.sub_zero, Int.toNat_sub, Int.ofNat_zero, List.drop_zero, List.take_length, Nat.add_sub_cancel, hw2]
      repeat refine And.intro (by first | (show logOK _ _ _ _ = true; kernel_rfl) | (show callOK _ _ = true; kernel_rfl) | omega | assumption) ?_
      refine And.intro (by simp; omega) ?_
      have e := ins1 es v i (by omega)
      simp only [splice] at e
      rw [e]
      refine ret_of [] [(0, 0), (1, 1), (2, 0)] [] (by rfl) ?_ ?_ ?_ <;> (simp -dsimp only [rwR, wkB, wkC, reduceIte, Nat.reduceEqDiff, reduceCtorEq, Nat.reduceAdd, Nat.reduceLeDiff] <;> first | (simp [List.take_of_length_le]; done) | ((try simp only [List.map_take, List.map_drop, List.map_append, List.map_cons, List.map_nil]) <;> (repeat' apply And.intro) <;> first | rfl | (simp; done) | (simp <;> omega; done) | (congr 1; exact (List.take_of_length_le (by simp <;> omega)).symm)))
    · have hd : decide ((c : Int) < ((es.length + 1 : Nat) : Int)) = true := by simp; omega
      have hx : c < i + (es.length + 1 - i) := by omega
      simp -dsimp only [egR, AOp.opds, AOp.f, AOp.rd, intBin, storeV, lvl, srcOf, reduceIte, Nat.reduceEqDiff, Nat.reduceAdd, Nat.reduceLeDiff, Nat.reduceBEq, reduceCtorEq, Int.reduceBNe, Int.reduceBEq, Int.reduceLT, Int.reduceLE, Int.reduceNeg, Nat.reduceLT, strBin, Int.reduceToNat, renC, ssliceV, sl3V, sappV, scpyV, appzV, sclrV, truncS, Option.map_none, Int.sub_zero, Nat.sub_zero, Int.toNat_sub, Int.ofNat_zero, List.drop_zero, List.take_length, Nat.add_sub_cancel, hw, hd, hw2, hw3]
      repeat refine And.intro (by first | (show logOK _ _ _ _ = true; kernel_rfl) | (show callOK _ _ = true; kernel_rfl) | omega | assumption) ?_
      refine And.intro (by simp; omega) ?_
      repeat refine And.intro (by first | (show logOK _ _ _ _ = true; kernel_rfl) | (show callOK _ _ = true; kernel_rfl) | omega | assumption) ?_
      refine And.intro ⟨by omega, by simp; omega⟩ ?_
      repeat refine And.intro (by first | (show logOK _ _ _ _ = true; kernel_rfl) | (show callOK _ _ = true; kernel_rfl) | omega | assumption) ?_
      have e := ins2 es v [.lit (.int .i64 0), .lit (.int .i64 0), .str [], .sl 1 [], .sl 5 []] i _ (by omega) rfl
      simp only [splice] at e
      have e0 : i + (es.length + 1 - i) = es.length + 1 := by omega
      rw [e, e0]
      refine ret_of [] [(0, 0), (1, 1), (2, 11)] [] (by rfl) ?_ ?_ ?_ <;> (simp -dsimp only [rwR, wkB, wkC, reduceIte, Nat.reduceEqDiff, reduceCtorEq, Nat.reduceAdd, Nat.reduceLeDiff] <;> first | (simp [List.take_of_length_le]; done) | ((try simp only [List.map_take, List.map_drop, List.map_append, List.map_cons, List.map_nil]) <;> (repeat' apply And.intro) <;> first | rfl | (simp; done) | (simp <;> omega; done) | (congr 1; exact (List.take_of_length_le (by simp <;> omega)).symm)))
theorem F.slices_Insert_impl_Node {n : Nat} : ∀ {a_s1 : List NodeT} {a_i1 : Int} {a_v1 : List NodeT} {r : List NodeT}, G.slices_Insert_impl_Node n a_s1 a_i1 a_v1 = some r →
    ACalls Go.Proofs.Tryz.prog 140 [.one (.own 0 a_s1.length 5), .one (.c (.lit (.int .i64 a_i1))), .one (.own 1 a_v1.length 5)] [.dat 5 (List.map NodeT.cells a_s1), .dat 5 (List.map NodeT.cells a_v1)]
      (fun r1 b1 => r1 = .one (.own 2 r.length 5) ∧ b1 = [.dead, .dat 5 (List.map NodeT.cells a_v1), .dat 5 (List.map NodeT.cells r)]) := by
  intro s i v r h
  cases n with
  | zero => simp only [G.slices_Insert_impl_Node, reduceCtorEq] at h
  | succ n =>
    simp only [G.slices_Insert_impl_Node] at h
    obtain ⟨⟨q1, q2, q3, q4⟩, h⟩ := chk_some.1 h
    cases h
    obtain ⟨x, rfl⟩ := List.length_eq_one_iff.1 q3
    obtain ⟨k, rfl⟩ : ∃ k : Nat, i = k := ⟨i.toNat, by omega⟩
    refine caps_of (fun c hc => ?_)
    have hf := FZ.slices_Insert_impl_Node (es := List.map NodeT.cells s) (v := NodeT.cells x) (c := c) (i := k) (by simpa using hc) (by rw [List.length_map]; omega) (by rw [List.length_map]; exact q4)
    have e1 : (List.take k s ++ [x] ++ List.drop k s).length = s.length + 1 := by simp; omega
    rw [Int.toNat_natCast, e1]
    simpa using hf
theorem FZ.slices_Insert_string {es : List (List Cell)} {v : List Cell} {c i : Nat} (hc : es.length ≤ c) (hi : i ≤ es.length) (hb : (es.length + 1) * 18 ≤ 2 ^ 46) :
    ACalls Go.Proofs.Tryz.prog 139 [.one (.sub 0 0 es.length (some c) 1), .one (.c (.lit (.int .i64 (i : Int)))), .one (.own 1 1 1)] [.dat 1 es, .dat 1 [v]]
      (fun r1 b1 => r1 = .one (.own 2 (es.length + 1) 1) ∧ b1 = [.dead, .dat 1 [v], .dat 1 (es.take i ++ v :: es.drop i)]) := by
  have hw : IntKind.wrap .i64 ((es.length : Int) + ((1 : Nat) : Int)) = ((es.length + 1 : Nat) : Int) := by rw [wrap_id] <;> omega
  have hw2 : IntKind.wrap .i64 ((i : Int) + ((1 : Nat) : Int)) = ((i + 1 : Nat) : Int) := by rw [wrap_id] <;> omega
  have hw3 : IntKind.wrap .i64 (((es.length + 1 : Nat) : Int) - i) = ((es.length + 1 - i : Nat) : Int) := by rw [wrap_id] <;> omega
  refine fun_sound K.slices_Insert_string (ofK ?_)
  unfold C.slices_Insert_string
  have h10 : (((1 : Nat) : Int) == 0) = false := rfl
  by_cases h1 : i = es.length
  · subst h1
    have he : (((es.length : Nat) : Int) == ((es.length : Nat) : Int)) = true := by simp
    simp -dsimp only [egR, AOp.opds, AOp.f, AOp.rd, intBin, storeV, lvl, srcOf, reduceIte, Nat.reduceEqDiff, Nat.reduceAdd, Nat.reduceLeDiff, Nat.reduceBEq, reduceCtorEq, Int.reduceBNe, Int.reduceBEq, Int.reduceLT, Int.reduceLE, Int.reduceNeg, Nat.reduceLT, strBin, Int.reduceToNat, renC, ssliceV, sl3V, sappV, scpyV, appzV, sclrV, truncS, Option.map_none, Int.sub_zero, Nat.sub_zero, Int.toNat_sub, Int.ofNat_zero, List.drop_zero, List.take_length, Nat.add_sub_cancel, h10]
    repeat refine And.intro (by first | (show logOK _ _ _ _ = true; kernel_rfl) | (show callOK _ _ = true; kernel_rfl) | omega | assumption) ?_
    have e : es ++ [v] ++ List.drop (es.length + 1) es = es ++ v :: List.drop es.length es := by simp
    have e2 : es ++ [v] = es ++ v :: List.drop es.length es := by simp
    by_cases hr : es.length + 1 ≤ c
    · simp -dsimp only [egR, AOp.opds, AOp.f, AOp.rd, intBin, storeV, lvl, srcOf, reduceIte, Nat.reduceEqDiff, Nat.reduceAdd, Nat.reduceLeDiff, Nat.reduceBEq, reduceCtorEq, Int.reduceBNe, Int.reduceBEq, Int.reduceLT, Int.reduceLE, Int.reduceNeg, Nat.reduceLT, strBin, Int.reduceToNat, renC, ssliceV, sl3V, sappV, scpyV, appzV, sclrV, truncS, Option.map_none, Int.sub_zero, Nat.sub_zero, Int.toNat_sub, Int.ofNat_zero, List.drop_zero, List.take_length, Nat.add_sub_cancel, hr]
      repeat refine And.intro (by first | (show logOK _ _ _ _ = true; kernel_rfl) | (show callOK _ _ = true; kernel_rfl) | omega | assumption) ?_
      rw [e]
      refine ret_of [] [(0, 0), (1, 1), (2, 0)] [] (by rfl) ?_ ?_ ?_ <;> (simp -dsimp only [rwR, wkB, wkC, reduceIte, Nat.reduceEqDiff, reduceCtorEq, Nat.reduceAdd, Nat.reduceLeDiff] <;> first | (simp [List.take_of_length_le]; done) | ((try simp only [List.map_take, List.map_drop, List.map_append, List.map_cons, List.map_nil]) <;> (repeat' apply And.intro) <;> first | rfl | (simp; done) | (simp <;> omega; done) | (congr 1; exact (List.take_of_length_le (by simp <;> omega)).symm)))
    · simp -dsimp only [egR, AOp.opds, AOp.f, AOp.rd, intBin, storeV, lvl, srcOf, reduceIte, Nat.reduceEqDiff, Nat.reduceAdd, Nat.reduceLeDiff, Nat.reduceBEq, reduceCtorEq, Int.reduceBNe, Int.reduceBEq, Int.reduceLT, Int.reduceLE, Int.reduceNeg, Nat.reduceLT, strBin, Int.reduceToNat, renC, ssliceV, sl3V, sappV, scpyV, appzV, sclrV, truncS, Option.map_none, Int.sub_zero, Nat.sub_zero, Int.toNat_sub, Int.ofNat_zero, List.drop_zero, List.take_length, Nat.add_sub_cancel, hr]
      repeat refine And.intro (by first | (show logOK _ _ _ _ = true; kernel_rfl) | (show callOK _ _ = true; kernel_rfl) | omega | assumption) ?_
      rw [e2]
      refine ret_of [] [(0, 0), (1, 1), (2, 10)] [] (by rfl) ?_ ?_ ?_ <;> (simp -dsimp only [rwR, wkB, wkC, reduceIte, Nat.reduceEqDiff, reduceCtorEq, Nat.reduceAdd, Nat.reduceLeDiff] <;> first | (simp [List.take_of_length_le]; done) | ((try simp only [List.map_take, List.map_drop, List.map_append, List.map_cons, List.map_nil]) <;> (repeat' apply And.intro) <;> first | rfl | (simp; done) | (simp <;> omega; done) | (congr 1; exact (List.take_of_length_le (by simp <;> omega)).symm)))
  · have he : (((i : Nat) : Int) == ((es.length : Nat) : Int)) = false := by simp; omega
    simp -dsimp only [egR, AOp.opds, AOp.f, AOp.rd, intBin, storeV, lvl, srcOf, reduceIte, Nat.reduceEqDiff, Nat.reduceAdd, Nat.reduceLeDiff, Nat.reduceBEq, reduceCtorEq, Int.reduceBNe, Int.reduceBEq, Int.reduceLT, Int.reduceLE, Int.reduceNeg, Nat.reduceLT, strBin, Int.reduceToNat, renC, ssliceV, sl3V, sappV, scpyV, appzV, sclrV, truncS, Option.map_none, Int.sub_zero, Nat.sub_zero, Int.toNat_sub, Int.ofNat_zero, List.drop_zero, List.take_length, Nat.add_sub_cancel, h10]
    repeat refine And.intro (by first | (show logOK _ _ _ _ = true; kernel_rfl) | (show callOK _ _ = true; kernel_rfl) | omega | assumption) ?_
    simp -dsimp only [egR, AOp.opds, AOp.f, AOp.rd, intBin, storeV, lvl, srcOf, reduceIte, Nat.reduceEqDiff, Nat.reduceAdd, Nat.reduceLeDiff, Nat.reduceBEq, reduceCtorEq, Int.reduceBNe, Int.reduceBEq, Int.reduceLT, Int.reduceLE, Int.reduceNeg, Nat.reduceLT, strBin, Int.reduceToNat, renC, ssliceV, sl3V, sappV, scpyV, appzV, sclrV, truncS, Option.map_none, Int.sub_zero, Nat.sub_zero, Int.toNat_sub, Int.ofNat_zero, List.drop_zero, List.take_length, Nat.add_sub_cancel, he]
    by_cases hr : es.length + 1 ≤ c
    · have hd : decide ((c : Int) < ((es.length + 1 : Nat) : Int)) = false := by simp; omega
      simp -dsimp only [egR, AOp.opds, AOp.f, AOp.rd, intBin, storeV, lvl, srcOf, reduceIte, Nat.reduceEqDiff, Nat.reduceAdd, Nat.reduceLeDiff, Nat.reduceBEq, reduceCtorEq, Int.reduceBNe, Int.reduceBEq, Int.reduceLT, Int.reduceLE, Int.reduceNeg, Nat.reduceLT, strBin, Int.reduceToNat, renC, ssliceV, sl3V, sappV, scpyV, appzV, sclrV, truncS, Option.map_none, Int.sub_zero, Nat.sub_zero, Int.toNat_sub, Int.ofNat_zero, List.drop_zero, List.take_length, Nat.add_sub_cancel, hw, hd]
      repeat refine And.intro (by first | (show logOK _ _ _ _ = true; kernel_rfl) | (show callOK _ _ = true; kernel_rfl) | omega | assumption) ?_
      simp -dsimp only [egR, AOp.opds, AOp.f, AOp.rd, intBin, storeV, lvl, srcOf, reduceIte, Nat.reduceEqDiff, Nat.reduceAdd, Nat.reduceLeDiff, Nat.reduceBEq, reduceCtorEq, Int.reduceBNe, Int.reduceBEq, Int.reduceLT, Int.reduceLE, Int.reduceNeg, Nat.reduceLT, strBin, Int.reduceToNat, renC, ssliceV, sl3V, sappV, scpyV, appzV, sclrV, truncS, Option.map_none, Int.sub_zero, Nat.sub_zero, Int.toNat_sub, Int.ofNat_zero, List.drop_zero, List.take_length, Nat.add_sub_cancel, hw2]
      repeat refine And.intro (by first | (show logOK _ _ _ _ = true; kernel_rfl) | (show callOK _ _ = true; kernel_rfl) | omega | assumption) ?_
      refine And.intro (by simp; omega) ?_
      have e := ins1 es v i (by omega)
      simp only [splice] at e
      rw [e]
      refine ret_of [] [(0, 0), (1, 1), (2, 0)] [] (by rfl) ?_ ?_ ?_ <;> (simp -dsimp only [rwR, wkB, wkC, reduceIte, Nat.reduceEqDiff, reduceCtorEq, Nat.reduceAdd, Nat.reduceLeDiff] <;> first | (simp [List.take_of_length_le]; done) | ((try simp only [List.map_take, List.map_drop, List.map_append, List.map_cons, List.map_nil]) <;> (repeat' apply And.intro) <;> first | rfl | (simp; done) | (simp <;> omega; done) | (congr 1; exact (List.take_of_length_le (by simp <;> omega)).symm)))
    · have hd : decide ((c : Int) < ((es.length + 1 : Nat) : Int)) = true := by simp; omega
      have hx : c < i + (es.length + 1 - i) := by omega
      simp -dsimp only [egR, AOp.opds, AOp.f, AOp.rd, intBin, storeV, lvl, srcOf, reduceIte, Nat.reduceEqDiff, Nat.reduceAdd, Nat.reduceLeDiff, Nat.reduceBEq, reduceCtorEq, Int.reduceBNe, Int.reduceBEq, Int.reduceLT, Int.reduceLE, Int.reduceNeg, Nat.reduceLT, strBin, Int.reduceToNat, renC, ssliceV, sl3V, sappV, scpyV, appzV, sclrV, truncS, Option.map_none, Int.sub_zero, Nat.sub_zero, Int.toNat_sub, Int.ofNat_zero, List.drop_zero, List.take_length, Nat.add_sub_cancel, hw, hd, hw2, hw3]
      repeat refine And.intro (by first | (show logOK _ _ _ _ = true; kernel_rfl) | (show callOK _ _ = true; kernel_rfl) | omega | assumption) ?_
      refine And.intro (by simp; omega) ?_
      repeat refine And.intro (by first | (show logOK _ _ _ _ = true; kernel_rfl) | (show callOK _ _ = true; kernel_rfl) | omega | assumption) ?_
      refine And.intro ⟨by omega, by simp; omega⟩ ?_
      repeat refine And.intro (by first | (show logOK _ _ _ _ = true; kernel_rfl) | (show callOK _ _ = true; kernel_rfl) | omega | assumption) ?_
      have e := ins2 es v [.str []] i _ (by omega) rfl
      simp only [splice] at e
      have e0 : i + (es.length + 1 - i) = es.length + 1 := by omega
      rw [e, e0]
      refine ret_of [] [(0, 0), (1, 1), (2, 11)] [] (by rfl) ?_ ?_ ?_ <;> (simp -dsimp only [rwR, wkB, wkC, reduceIte, Nat.reduceEqDiff, reduceCtorEq, Nat.reduceAdd, Nat.reduceLeDiff] <;> first | (simp [List.take_of_length_le]; done) | ((try simp only [List.map_take, List.map_drop, List.map_append, List.map_cons, List.map_nil]) <;> (repeat' apply And.intro) <;> first | rfl | (simp; done) | (simp <;> omega; done) | (congr 1; exact (List.take_of_length_le (by simp <;> omega)).symm)))
theorem F.slices_Insert_string {n : Nat} : ∀ {a_s1 : List Txt} {a_i1 : Int} {a_v1 : List Txt} {r : List Txt}, G.slices_Insert_string n a_s1 a_i1 a_v1 = some r →
    ACalls Go.Proofs.Tryz.prog 139 [.one (.own 0 a_s1.length 1), .one (.c (.lit (.int .i64 a_i1))), .one (.own 1 a_v1.length 1)] [.dat 1 (List.map cS a_s1), .dat 1 (List.map cS a_v1)]
      (fun r1 b1 => r1 = .one (.own 2 r.length 1) ∧ b1 = [.dead, .dat 1 (List.map cS a_v1), .dat 1 (List.map cS r)]) := by
  intro s i v r h
  cases n with
  | zero => simp only [G.slices_Insert_string, reduceCtorEq] at h
  | succ n =>
    simp only [G.slices_Insert_string] at h
    obtain ⟨⟨q1, q2, q3, q4⟩, h⟩ := chk_some.1 h
    cases h
    obtain ⟨x, rfl⟩ := List.length_eq_one_iff.1 q3
    obtain ⟨k, rfl⟩ : ∃ k : Nat, i = k := ⟨i.toNat, by omega⟩
    refine caps_of (fun c hc => ?_)
    have hf := FZ.slices_Insert_string (es := List.map cS s) (v := cS x) (c := c) (i := k) (by simpa using hc) (by rw [List.length_map]; omega) (by rw [List.length_map]; exact q4)
    have e1 : (List.take k s ++ [x] ++ List.drop k s).length = s.length + 1 := by simp; omega
    rw [Int.toNat_natCast, e1]
    simpa using hf
theorem F.impl_putName {n : Nat} : ∀ {p_n1 : NodeT} {a_name1 : Txt} {a_value1 : NodeT} {r : NodeT}, G.impl_putName n p_n1 a_name1 a_value1 = some r → ACalls Go.Proofs.Tryz.prog 95 [.one (.ptr 0 0), .one (.c (.str a_name1)), .agg [.c (.lit (.int .i64 a_value1.Kind)), .c (.lit (.int .i64 a_value1.Num)), .c (.str a_value1.Text), .c (.sl 1 (List.map cS a_value1.Names)), .c (.sl 5 (List.map NodeT.cells a_value1.Kids))]] [.var [.c (.lit (.int .i64 p_n1.Kind)), .c (.lit (.int .i64 p_n1.Num)), .c (.str p_n1.Text), .own 1 p_n1.Names.length 1, .own 2 p_n1.Kids.length 5], .dat 1 (List.map cS p_n1.Names), .dat 5 (List.map NodeT.cells p_n1.Kids)] (fun r1 b1 => r1 = .tup [] ∧ b1 = [.var [.c (.lit (.int .i64 r.Kind)), .c (.lit (.int .i64 r.Num)), .c (.str r.Text), .own 3 r.Names.length 1, .own 4 r.Kids.length 5], .dead, .dead, .dat 1 (List.map cS r.Names), .dat 5 (List.map NodeT.cells r.Kids)]) := by
  intro p_n1 a_name1 a_value1 r h
  refine fun_sound K.impl_putName (ofK ?_)
  unfold C.impl_putName
  rcases n with _ | n <;> simp only [G.impl_putName, reduceCtorEq] at h
  obtain ⟨zc, zg, zk, zu, ze, zj, zt⟩ := pp (pp @F.slices_BinarySearch_string ()) <| pp (pp (pp @F.slices_Insert_string (@cG [1, 11] [101])) <| pp (pp @F.slices_Insert_impl_Node (@cG [2, 12] [102])) ()) <| pp () <| pp () <| pp () <| pp () <| (pp (@retX [] [(0, 0), (1, 1), (2, 2), (3, 1), (4, 2)] []) <| pp (@retX [] [(0, 0), (1, 1), (2, 2), (3, 101), (4, 102)] []) ())
  exact drv
theorem F.impl_addKid {n : Nat} : ∀ {a_n1 : NodeT} {a_step1 : Txt} {a_value1 : NodeT} {r : NodeT × Bool}, G.impl_addKid n a_n1 a_step1 a_value1 = some r → APure Go.Proofs.Tryz.prog 185 [.agg [.c (.lit (.int .i64 a_n1.Kind)), .c (.lit (.int .i64 a_n1.Num)), .c (.str a_n1.Text), .c (.sl 1 (List.map cS a_n1.Names)), .c (.sl 5 (List.map NodeT.cells a_n1.Kids))], .one (.c (.str a_step1)), .agg [.c (.lit (.int .i64 a_value1.Kind)), .c (.lit (.int .i64 a_value1.Num)), .c (.str a_value1.Text), .c (.sl 1 (List.map cS a_value1.Names)), .c (.sl 5 (List.map NodeT.cells a_value1.Kids))]] (.tup [(true, [.c (.lit (.int .i64 r.1.Kind)), .c (.lit (.int .i64 r.1.Num)), .c (.str r.1.Text), .c (.sl 1 (List.map cS r.1.Names)), .c (.sl 5 (List.map NodeT.cells r.1.Kids))]), (false, [.c (.lit (.bool r.2))])]) := by
  intro a_n1 a_step1 a_value1 r h
  refine fun_pure K.impl_addKid (ofK ?_)
  unfold C.impl_addKid
  rcases n with _ | n <;> simp only [G.impl_addKid, reduceCtorEq] at h
  obtain ⟨zc, zg, zk, zu, ze, zj, zt⟩ := pp (pp @F.impl_kidIndex <| pp @F.strconv_Itoa ()) <| pp (pp (pp @F.impl_copyNode_o (@cG [] [101, 102])) <| pp (pp @F.impl_copyNode_o (@cG [] [103, 104])) <| pp (pp @F.impl_putName (@cH [13, 101, 102] [105, 106])) <| pp (pp @F.impl_copyNode_o (@cG [] [112, 113])) <| pp (pp @F.slices_Insert_impl_Node (@cG [111, 14] [114])) ()) <| pp () <| pp (pp (@cutX (NodeT × Int × Bool) _ (fun n x => G.impl_addKid.K1 n a_value1 x.1 x.2.1 x.2.2) r (fun x => ASt.of [(5, .v true (.one (.ptr 107 0))), (6, .v true (.one (.ptr 108 0))), (8, .v true (.one (.ptr 109 0))), (9, .v true (.one (.c (.lit (.int .i64 x.2.1))))), (10, .v true (.one (.c (.lit (.bool x.2.2)))))] [(107, .var [.c (.lit (.int .i64 a_value1.Kind)), .c (.lit (.int .i64 a_value1.Num)), .c (.str a_value1.Text), .c (.sl 1 (List.map cS a_value1.Names)), .c (.sl 5 (List.map NodeT.cells a_value1.Kids))]), (108, .var [.c (.lit (.int .i64 0)), .c (.lit (.int .i64 0)), .c (.str []), .nsl 1, .nsl 5]), (109, .var [.c (.lit (.int .i64 x.1.Kind)), .c (.lit (.int .i64 x.1.Num)), .c (.str x.1.Text), .own 110 x.1.Names.length 1, .own 111 x.1.Kids.length 5]), (110, .dat 1 (List.map cS x.1.Names)), (111, .dat 5 (List.map NodeT.cells x.1.Kids))])) ()) <| pp (pp (And.intro @G.impl_addKid.K1.eq_1 <| @G.impl_addKid.K1.eq_2) ()) <| pp (pp (@weakX [] [(107, 11), (108, 12), (109, 13), (110, 101), (111, 102)] []) ()) <| ()
  exact drv
theorem F.impl_AddNode_1 {n : Nat} : ∀ {a_parent1 : NodeT} {p_cap01 : List Txt} {p_cap11 : Int} {p_cap21 : NodeT} {r : NodeT × Bool}, G.impl_AddNode_1 n a_parent1 p_cap01 p_cap11 p_cap21 = some r → ACalls Go.Proofs.Tryz.prog 184 [.agg [.c (.lit (.int .i64 a_parent1.Kind)), .c (.lit (.int .i64 a_parent1.Num)), .c (.str a_parent1.Text), .c (.sl 1 (List.map cS a_parent1.Names)), .c (.sl 5 (List.map NodeT.cells a_parent1.Kids))], .one (.ptr 0 0), .one (.ptr 1 0), .one (.ptr 2 0)] [.var [.c (.sl 1 (List.map cS p_cap01))], .var [.c (.lit (.int .i64 p_cap11))], .var [.c (.lit (.int .i64 p_cap21.Kind)), .c (.lit (.int .i64 p_cap21.Num)), .c (.str p_cap21.Text), .c (.sl 1 (List.map cS p_cap21.Names)), .c (.sl 5 (List.map NodeT.cells p_cap21.Kids))]] (fun r1 b1 => r1 = .tup [(true, [.c (.lit (.int .i64 r.1.Kind)), .c (.lit (.int .i64 r.1.Num)), .c (.str r.1.Text), .c (.sl 1 (List.map cS r.1.Names)), .c (.sl 5 (List.map NodeT.cells r.1.Kids))]), (false, [.c (.lit (.bool r.2))])] ∧ b1 = [.var [.c (.sl 1 (List.map cS p_cap01))], .var [.c (.lit (.int .i64 p_cap11))], .var [.c (.lit (.int .i64 p_cap21.Kind)), .c (.lit (.int .i64 p_cap21.Num)), .c (.str p_cap21.Text), .c (.sl 1 (List.map cS p_cap21.Names)), .c (.sl 5 (List.map NodeT.cells p_cap21.Kids))]]) := by
  intro a_parent1 p_cap01 p_cap11 p_cap21 r h
  refine fun_sound K.impl_AddNode_1 (ofK ?_)
  unfold C.impl_AddNode_1
  rcases n with _ | n <;> simp only [G.impl_AddNode_1, reduceCtorEq] at h
  obtain ⟨zc, zg, zk, zu, ze, zj, zt⟩ := pp (pp @F.impl_addKid ()) <| pp () <| pp () <| pp () <| pp () <| pp () <| (pp (@retX [] [(0, 0), (1, 1), (2, 2)] []) ())
  exact drv
theorem F.impl_isPlainText {n : Nat} : ∀ {a_s1 : Txt} {r : Bool}, G.impl_isPlainText n a_s1 = some r → APure Go.Proofs.Tryz.prog 106 [.one (.c (.str a_s1))] (.one (.c (.lit (.bool r)))) := by
  intro a_s1 r h
  refine fun_pure K.impl_isPlainText (ofK ?_)
  unfold C.impl_isPlainText
  rcases n with _ | n <;> simp only [G.impl_isPlainText, reduceCtorEq] at h
  obtain ⟨zc, zg, zk, zu, ze, zj, zt⟩ := pp () <| pp () <| pp (pp (@lopX (Int) _ (fun n x => G.impl_isPlainText.L1 n a_s1 x) r (fun x => ASt.of [(0, .v true (.one (.c (.str a_s1)))), (3, .v true (.one (.c (.lit (.int .i64 x)))))] [])) ()) <| pp () <| pp (pp (And.intro @G.impl_isPlainText.L1.eq_1 <| @G.impl_isPlainText.L1.eq_2) ()) <| pp (pp (@weakX [] [] []) ()) <| ()
  exact drv
theorem F.impl_areNames {n : Nat} : ∀ {a_names1 : List Txt} {r : Bool}, G.impl_areNames n a_names1 = some r → APure Go.Proofs.Tryz.prog 176 [.one (.c (.sl 1 (List.map cS a_names1)))] (.one (.c (.lit (.bool r)))) := by
  intro a_names1 r h
  refine fun_pure K.impl_areNames (ofK ?_)
  unfold C.impl_areNames
  rcases n with _ | n <;> simp only [G.impl_areNames, reduceCtorEq] at h
  obtain ⟨zc, zg, zk, zu, ze, zj, zt⟩ := pp (pp @F.impl_isPlainText ()) <| pp () <| pp (pp (@lopX (Int) _ (fun n x => G.impl_areNames.L1 n a_names1 x) r (fun x => ASt.of [(0, .v true (.one (.c (.sl 1 (List.map cS a_names1))))), (8, .v true (.one (.c (.sl 1 (List.map cS a_names1))))), (9, .v true (.one (.c (.lit (.int .i64 ((a_names1.length : Nat) : Int)))))), (10, .v true (.one (.c (.lit (.int .i64 x)))))] [])) ()) <| pp () <| pp (pp (And.intro @G.impl_areNames.L1.eq_1 <| @G.impl_areNames.L1.eq_2) ()) <| pp (pp (@weakX [] [] []) ()) <| ()
  exact drv
theorem F.impl_hasValidParts {n : Nat} : ∀ {a_n1 : NodeT} {r : Bool}, G.impl_hasValidParts n a_n1 = some r → APure Go.Proofs.Tryz.prog 128 [.agg [.c (.lit (.int .i64 a_n1.Kind)), .c (.lit (.int .i64 a_n1.Num)), .c (.str a_n1.Text), .c (.sl 1 (List.map cS a_n1.Names)), .c (.sl 5 (List.map NodeT.cells a_n1.Kids))]] (.one (.c (.lit (.bool r)))) := by
  intro a_n1 r h
  refine fun_pure K.impl_hasValidParts (ofK ?_)
  unfold C.impl_hasValidParts
  rcases n with _ | n <;> simp only [G.impl_hasValidParts, reduceCtorEq] at h
  obtain ⟨zc, zg, zk, zu, ze, zj, zt⟩ := pp (pp @F.impl_isPlainText <| pp @F.impl_areNames ()) <| pp () <| pp () <| pp (pp (@cutX (Unit) _ (fun n x => G.impl_hasValidParts.K1 n a_n1) r (fun x => ASt.of [(1, .v true (.one (.ptr 101 0))), (20, .v true (.one (.c (.lit (.bool false)))))] [(101, .var [.c (.lit (.int .i64 a_n1.Kind)), .c (.lit (.int .i64 a_n1.Num)), .c (.str a_n1.Text), .c (.sl 1 (List.map cS a_n1.Names)), .c (.sl 5 (List.map NodeT.cells a_n1.Kids))])])) ()) <| pp (pp (And.intro @G.impl_hasValidParts.K1.eq_1 <| @G.impl_hasValidParts.K1.eq_2) ()) <| pp (pp (@weakX [] [(101, 10)] []) ()) <| ()
  exact drv
theorem F.impl_measureNode_n : ∀ (n : Nat), ∀ {a_n1 : NodeT} {a_level1 : Int} {r : Int × Int × Bool}, G.impl_measureNode n a_n1 a_level1 = some r → APure Go.Proofs.Tryz.prog 77 [.agg [.c (.lit (.int .i64 a_n1.Kind)), .c (.lit (.int .i64 a_n1.Num)), .c (.str a_n1.Text), .c (.sl 1 (List.map cS a_n1.Names)), .c (.sl 5 (List.map NodeT.cells a_n1.Kids))], .one (.c (.lit (.int .i64 a_level1)))] (.tup [(false, [.c (.lit (.int .i64 r.1))]), (false, [.c (.lit (.int .i64 r.2.1))]), (false, [.c (.lit (.bool r.2.2))])]) := by
  intro n
  induction n using Nat.strongRecOn with | _ n ih =>
  intro a_n1 a_level1 r h
  refine fun_pure K.impl_measureNode (ofK ?_)
  unfold C.impl_measureNode
  rcases n with _ | n <;> simp only [G.impl_measureNode, reduceCtorEq] at h
  obtain ⟨zc, zg, zk, zu, ze, zj, zt⟩ := pp (pp ih <| pp @F.impl_hasValidParts ()) <| pp () <| pp (pp (@lopX (Int × Int × Int) _ (fun n x => G.impl_measureNode.L1 n a_n1 a_level1 x.1 x.2.1 x.2.2) r (fun x => ASt.of [(1, .v true (.one (.c (.lit (.int .i64 a_level1))))), (4, .v true (.one (.c (.lit (.int .i64 x.1))))), (5, .v true (.one (.c (.lit (.int .i64 x.2.1))))), (20, .v true (.one (.c (.sl 5 (List.map NodeT.cells a_n1.Kids))))), (21, .v true (.one (.c (.lit (.int .i64 ((a_n1.Kids.length : Nat) : Int)))))), (22, .v true (.one (.c (.lit (.int .i64 x.2.2)))))] [])) ()) <| pp () <| pp (pp (And.intro @G.impl_measureNode.L1.eq_1 <| @G.impl_measureNode.L1.eq_2) ()) <| pp (pp (@weakX [] [] []) ()) <| ()
  exact drv
theorem F.impl_measureNode {n : Nat} : ∀ {a_n1 : NodeT} {a_level1 : Int} {r : Int × Int × Bool}, G.impl_measureNode n a_n1 a_level1 = some r → APure Go.Proofs.Tryz.prog 77 [.agg [.c (.lit (.int .i64 a_n1.Kind)), .c (.lit (.int .i64 a_n1.Num)), .c (.str a_n1.Text), .c (.sl 1 (List.map cS a_n1.Names)), .c (.sl 5 (List.map NodeT.cells a_n1.Kids))], .one (.c (.lit (.int .i64 a_level1)))] (.tup [(false, [.c (.lit (.int .i64 r.1))]), (false, [.c (.lit (.int .i64 r.2.1))]), (false, [.c (.lit (.bool r.2.2))])]) := F.impl_measureNode_n n
theorem F.impl_ValidNode {n : Nat} : ∀ {a_n1 : NodeT} {r : Bool}, G.impl_ValidNode n a_n1 = some r → APure Go.Proofs.Tryz.prog 38 [.agg [.c (.lit (.int .i64 a_n1.Kind)), .c (.lit (.int .i64 a_n1.Num)), .c (.str a_n1.Text), .c (.sl 1 (List.map cS a_n1.Names)), .c (.sl 5 (List.map NodeT.cells a_n1.Kids))]] (.one (.c (.lit (.bool r)))) := by
  intro a_n1 r h
  refine fun_pure K.impl_ValidNode (ofK ?_)
  unfold C.impl_ValidNode
  rcases n with _ | n <;> simp only [G.impl_ValidNode, reduceCtorEq] at h
  obtain ⟨zc, zg, zk, zu, ze, zj, zt⟩ := pp (pp @F.impl_measureNode ()) <| pp () <| pp () <| pp () <| pp () <| pp () <| ()
  exact drv
theorem F.impl_changeAt__impl_AddNode_1_n : ∀ (n : Nat), ∀ {a_n1 : NodeT} {a_path1 : List Txt} {p_cap01 : List Txt} {p_cap11 : Int} {p_cap21 : NodeT} {r : NodeT × Bool}, G.impl_changeAt__impl_AddNode_1 n a_n1 a_path1 p_cap01 p_cap11 p_cap21 = some r → ACalls Go.Proofs.Tryz.prog 183 [.agg [.c (.lit (.int .i64 a_n1.Kind)), .c (.lit (.int .i64 a_n1.Num)), .c (.str a_n1.Text), .c (.sl 1 (List.map cS a_n1.Names)), .c (.sl 5 (List.map NodeT.cells a_n1.Kids))], .one (.c (.sl 1 (List.map cS a_path1))), .one (.fn 184 [0, 1, 2])] [.var [.c (.sl 1 (List.map cS p_cap01))], .var [.c (.lit (.int .i64 p_cap11))], .var [.c (.lit (.int .i64 p_cap21.Kind)), .c (.lit (.int .i64 p_cap21.Num)), .c (.str p_cap21.Text), .c (.sl 1 (List.map cS p_cap21.Names)), .c (.sl 5 (List.map NodeT.cells p_cap21.Kids))]] (fun r1 b1 => r1 = .tup [(true, [.c (.lit (.int .i64 r.1.Kind)), .c (.lit (.int .i64 r.1.Num)), .c (.str r.1.Text), .c (.sl 1 (List.map cS r.1.Names)), .c (.sl 5 (List.map NodeT.cells r.1.Kids))]), (false, [.c (.lit (.bool r.2))])] ∧ b1 = [.var [.c (.sl 1 (List.map cS p_cap01))], .var [.c (.lit (.int .i64 p_cap11))], .var [.c (.lit (.int .i64 p_cap21.Kind)), .c (.lit (.int .i64 p_cap21.Num)), .c (.str p_cap21.Text), .c (.sl 1 (List.map cS p_cap21.Names)), .c (.sl 5 (List.map NodeT.cells p_cap21.Kids))]]) := by
  intro n
  induction n using Nat.strongRecOn with | _ n ih =>
  intro a_n1 a_path1 p_cap01 p_cap11 p_cap21 r h
  refine fun_sound K.impl_changeAt__impl_AddNode_1 (ofK ?_)
  unfold C.impl_changeAt
  rcases n with _ | n <;> simp only [G.impl_changeAt__impl_AddNode_1, reduceCtorEq] at h
  obtain ⟨zc, zg, zk, zu, ze, zj, zt⟩ := pp (pp @F.impl_kidIndex ()) <| pp (pp (pp ih (@cG [0, 1, 2] [])) <| pp (pp @F.impl_AddNode_1 (@cG [0, 1, 2] [])) <| pp (pp @F.impl_copyNode_o (@cG [] [101, 102])) ()) <| pp () <| pp () <| pp () <| pp () <| (pp (@retX [] [(0, 0), (1, 1), (2, 2)] []) <| pp (@retX [101, 102] [(0, 0), (1, 1), (2, 2)] []) ())
  exact drv
theorem F.impl_changeAt__impl_AddNode_1 {n : Nat} : ∀ {a_n1 : NodeT} {a_path1 : List Txt} {p_cap01 : List Txt} {p_cap11 : Int} {p_cap21 : NodeT} {r : NodeT × Bool}, G.impl_changeAt__impl_AddNode_1 n a_n1 a_path1 p_cap01 p_cap11 p_cap21 = some r → ACalls Go.Proofs.Tryz.prog 183 [.agg [.c (.lit (.int .i64 a_n1.Kind)), .c (.lit (.int .i64 a_n1.Num)), .c (.str a_n1.Text), .c (.sl 1 (List.map cS a_n1.Names)), .c (.sl 5 (List.map NodeT.cells a_n1.Kids))], .one (.c (.sl 1 (List.map cS a_path1))), .one (.fn 184 [0, 1, 2])] [.var [.c (.sl 1 (List.map cS p_cap01))], .var [.c (.lit (.int .i64 p_cap11))], .var [.c (.lit (.int .i64 p_cap21.Kind)), .c (.lit (.int .i64 p_cap21.Num)), .c (.str p_cap21.Text), .c (.sl 1 (List.map cS p_cap21.Names)), .c (.sl 5 (List.map NodeT.cells p_cap21.Kids))]] (fun r1 b1 => r1 = .tup [(true, [.c (.lit (.int .i64 r.1.Kind)), .c (.lit (.int .i64 r.1.Num)), .c (.str r.1.Text), .c (.sl 1 (List.map cS r.1.Names)), .c (.sl 5 (List.map NodeT.cells r.1.Kids))]), (false, [.c (.lit (.bool r.2))])] ∧ b1 = [.var [.c (.sl 1 (List.map cS p_cap01))], .var [.c (.lit (.int .i64 p_cap11))], .var [.c (.lit (.int .i64 p_cap21.Kind)), .c (.lit (.int .i64 p_cap21.Num)), .c (.str p_cap21.Text), .c (.sl 1 (List.map cS p_cap21.Names)), .c (.sl 5 (List.map NodeT.cells p_cap21.Kids))]]) := F.impl_changeAt__impl_AddNode_1_n n
theorem F.impl_checked {n : Nat} : ∀ {a_n1 : NodeT} {a_ok1 : Bool} {r : NodeT × Bool}, G.impl_checked n a_n1 a_ok1 = some r → APure Go.Proofs.Tryz.prog 46 [.agg [.c (.lit (.int .i64 a_n1.Kind)), .c (.lit (.int .i64 a_n1.Num)), .c (.str a_n1.Text), .c (.sl 1 (List.map cS a_n1.Names)), .c (.sl 5 (List.map NodeT.cells a_n1.Kids))], .one (.c (.lit (.bool a_ok1)))] (.tup [(true, [.c (.lit (.int .i64 r.1.Kind)), .c (.lit (.int .i64 r.1.Num)), .c (.str r.1.Text), .c (.sl 1 (List.map cS r.1.Names)), .c (.sl 5 (List.map NodeT.cells r.1.Kids))]), (false, [.c (.lit (.bool r.2))])]) := by
  intro a_n1 a_ok1 r h
  refine fun_pure K.impl_checked (ofK ?_)
  unfold C.impl_checked
  rcases n with _ | n <;> simp only [G.impl_checked, reduceCtorEq] at h
  obtain ⟨zc, zg, zk, zu, ze, zj, zt⟩ := pp (pp @F.impl_ValidNode ()) <| pp () <| pp () <| pp () <| pp () <| pp () <| ()
  exact drv
theorem F.impl_isPath {n : Nat} : ∀ {a_path1 : List Txt} {r : Bool}, G.impl_isPath n a_path1 = some r → APure Go.Proofs.Tryz.prog 59 [.one (.c (.sl 1 (List.map cS a_path1)))] (.one (.c (.lit (.bool r)))) := by
  intro a_path1 r h
  refine fun_pure K.impl_isPath (ofK ?_)
  unfold C.impl_isPath
  rcases n with _ | n <;> simp only [G.impl_isPath, reduceCtorEq] at h
  obtain ⟨zc, zg, zk, zu, ze, zj, zt⟩ := pp (pp @F.impl_isPlainText ()) <| pp () <| pp (pp (@lopX (Int) _ (fun n x => G.impl_isPath.L1 n a_path1 x) r (fun x => ASt.of [(8, .v true (.one (.c (.sl 1 (List.map cS a_path1))))), (9, .v true (.one (.c (.lit (.int .i64 ((a_path1.length : Nat) : Int)))))), (10, .v true (.one (.c (.lit (.int .i64 x)))))] [])) ()) <| pp () <| pp (pp (And.intro @G.impl_isPath.L1.eq_1 <| @G.impl_isPath.L1.eq_2) ()) <| pp (pp (@weakX [] [] []) ()) <| ()
  exact drv
theorem F.impl_AddNode {n : Nat} : ∀ {a_n1 : NodeT} {a_path1 : List Txt} {a_value1 : NodeT} {r : NodeT × Bool}, G.impl_AddNode n a_n1 a_path1 a_value1 = some r → APure Go.Proofs.Tryz.prog 143 [.agg [.c (.lit (.int .i64 a_n1.Kind)), .c (.lit (.int .i64 a_n1.Num)), .c (.str a_n1.Text), .c (.sl 1 (List.map cS a_n1.Names)), .c (.sl 5 (List.map NodeT.cells a_n1.Kids))], .one (.c (.sl 1 (List.map cS a_path1))), .agg [.c (.lit (.int .i64 a_value1.Kind)), .c (.lit (.int .i64 a_value1.Num)), .c (.str a_value1.Text), .c (.sl 1 (List.map cS a_value1.Names)), .c (.sl 5 (List.map NodeT.cells a_value1.Kids))]] (.tup [(true, [.c (.lit (.int .i64 r.1.Kind)), .c (.lit (.int .i64 r.1.Num)), .c (.str r.1.Text), .c (.sl 1 (List.map cS r.1.Names)), .c (.sl 5 (List.map NodeT.cells r.1.Kids))]), (false, [.c (.lit (.bool r.2))])]) := by
  intro a_n1 a_path1 a_value1 r h
  refine fun_pure K.impl_AddNode (ofK ?_)
  unfold C.impl_AddNode
  rcases n with _ | n <;> simp only [G.impl_AddNode, reduceCtorEq] at h
  obtain ⟨zc, zg, zk, zu, ze, zj, zt⟩ := pp (pp @F.impl_ValidNode <| pp @F.impl_isPath <| pp @F.impl_copyNode <| pp @F.impl_checked ()) <| pp (pp (pp @F.impl_changeAt__impl_AddNode_1 (@cG [11, 14, 12] [])) ()) <| pp () <| pp () <| pp () <| pp () <| ()
  exact drv
theorem F.impl_findNode {n : Nat} : ∀ {a_n1 : NodeT} {a_path1 : List Txt} {r : NodeT × Bool}, G.impl_findNode n a_n1 a_path1 = some r → APure Go.Proofs.Tryz.prog 60 [.agg [.c (.lit (.int .i64 a_n1.Kind)), .c (.lit (.int .i64 a_n1.Num)), .c (.str a_n1.Text), .c (.sl 1 (List.map cS a_n1.Names)), .c (.sl 5 (List.map NodeT.cells a_n1.Kids))], .one (.c (.sl 1 (List.map cS a_path1)))] (.tup [(true, [.c (.lit (.int .i64 r.1.Kind)), .c (.lit (.int .i64 r.1.Num)), .c (.str r.1.Text), .c (.sl 1 (List.map cS r.1.Names)), .c (.sl 5 (List.map NodeT.cells r.1.Kids))]), (false, [.c (.lit (.bool r.2))])]) := by
  intro a_n1 a_path1 r h
  refine fun_pure K.impl_findNode (ofK ?_)
  unfold C.impl_findNode
  rcases n with _ | n <;> simp only [G.impl_findNode, reduceCtorEq] at h
  obtain ⟨zc, zg, zk, zu, ze, zj, zt⟩ := pp (pp @F.impl_kidIndex ()) <| pp () <| pp (pp (@lopX (Int × Int × Int × Txt × List Txt × List NodeT) _ (fun n x => G.impl_findNode.L1 n a_path1 x.1 x.2.1 x.2.2.1 x.2.2.2.1 x.2.2.2.2.1 x.2.2.2.2.2) r (fun x => ASt.of [(2, .v true (.one (.ptr 105 0))), (4, .v true (.one (.ptr 106 0))), (10, .v true (.one (.c (.sl 1 (List.map cS a_path1))))), (11, .v true (.one (.c (.lit (.int .i64 ((a_path1.length : Nat) : Int)))))), (12, .v true (.one (.c (.lit (.int .i64 x.1)))))] [(105, .var [.c (.lit (.int .i64 x.2.1)), .c (.lit (.int .i64 x.2.2.1)), .c (.str x.2.2.2.1), .c (.sl 1 (List.map cS x.2.2.2.2.1)), .c (.sl 5 (List.map NodeT.cells x.2.2.2.2.2))]), (106, .var [.c (.lit (.int .i64 0)), .c (.lit (.int .i64 0)), .c (.str []), .nsl 1, .nsl 5])])) ()) <| pp () <| pp (pp (And.intro @G.impl_findNode.L1.eq_1 <| @G.impl_findNode.L1.eq_2) ()) <| pp (pp (@weakX [] [(105, 10), (106, 11)] []) <| pp (@weakX [] [(105, 105), (106, 106)] []) ()) <| ()
  exact drv
theorem F.impl_NodeAt {n : Nat} : ∀ {a_n1 : NodeT} {a_path1 : List Txt} {r : NodeT × Bool}, G.impl_NodeAt n a_n1 a_path1 = some r → APure Go.Proofs.Tryz.prog 30 [.agg [.c (.lit (.int .i64 a_n1.Kind)), .c (.lit (.int .i64 a_n1.Num)), .c (.str a_n1.Text), .c (.sl 1 (List.map cS a_n1.Names)), .c (.sl 5 (List.map NodeT.cells a_n1.Kids))], .one (.c (.sl 1 (List.map cS a_path1)))] (.tup [(true, [.c (.lit (.int .i64 r.1.Kind)), .c (.lit (.int .i64 r.1.Num)), .c (.str r.1.Text), .c (.sl 1 (List.map cS r.1.Names)), .c (.sl 5 (List.map NodeT.cells r.1.Kids))]), (false, [.c (.lit (.bool r.2))])]) := by
  intro a_n1 a_path1 r h
  refine fun_pure K.impl_NodeAt (ofK ?_)
  unfold C.impl_NodeAt
  rcases n with _ | n <;> simp only [G.impl_NodeAt, reduceCtorEq] at h
  obtain ⟨zc, zg, zk, zu, ze, zj, zt⟩ := pp (pp @F.impl_ValidNode <| pp @F.impl_isPath <| pp @F.impl_findNode <| pp @F.impl_copyNode ()) <| pp () <| pp () <| pp () <| pp () <| pp () <| ()
  exact drv
theorem FZ.slices_Delete_impl_Node {es : List (List Cell)} {c i j : Nat} (hc : es.length ≤ c) (hi : i < j) (hj : j ≤ es.length) (hb : es.length * 86 ≤ 2 ^ 46) :
    ACalls Go.Proofs.Tryz.prog 142 [.one (.sub 0 0 es.length (some c) 5), .one (.c (.lit (.int .i64 (i : Int)))), .one (.c (.lit (.int .i64 (j : Int))))] [.dat 5 es]
      (fun r1 b1 => r1 = .one (.own 1 (i + (es.length - j)) 5) ∧ b1 = [.dead, .dat 5 (es.take i ++ es.drop j)]) := by
  refine fun_sound K.slices_Delete_impl_Node (ofK ?_)
  unfold C.slices_Delete_impl_Node
  have he : (((i : Nat) : Int) == ((j : Nat) : Int)) = false := by simp; omega
  have ht : List.take (es.length - j) (List.drop j es) = List.drop j es := List.take_of_length_le (by simp)
  have hr : i + (es.length - j) ≤ c := by omega
  simp -dsimp only [egR, AOp.opds, AOp.f, AOp.rd, intBin, storeV, lvl, srcOf, reduceIte, Nat.reduceEqDiff, Nat.reduceAdd, Nat.reduceLeDiff, Nat.reduceBEq, reduceCtorEq, Int.reduceBNe, Int.reduceBEq, Int.reduceLT, Int.reduceLE, Int.reduceNeg, Nat.reduceLT, strBin, Int.reduceToNat, renC, ssliceV, sl3V, sappV, scpyV, appzV, sclrV, truncS, Option.map_none, Int.sub_zero, Nat.sub_zero, Int.toNat_sub, Int.ofNat_zero, List.drop_zero, List.take_length, Nat.add_sub_cancel, he]
  repeat refine And.intro (by first | (show logOK _ _ _ _ = true; kernel_rfl) | (show callOK _ _ = true; kernel_rfl) | omega | assumption) ?_
  simp -dsimp only [egR, AOp.opds, AOp.f, AOp.rd, intBin, storeV, lvl, srcOf, reduceIte, Nat.reduceEqDiff, Nat.reduceAdd, Nat.reduceLeDiff, Nat.reduceBEq, reduceCtorEq, Int.reduceBNe, Int.reduceBEq, Int.reduceLT, Int.reduceLE, Int.reduceNeg, Nat.reduceLT, strBin, Int.reduceToNat, renC, ssliceV, sl3V, sappV, scpyV, appzV, sclrV, truncS, Option.map_none, Int.sub_zero, Nat.sub_zero, Int.toNat_sub, Int.ofNat_zero, List.drop_zero, List.take_length, Nat.add_sub_cancel, ht, List.length_drop, hr]
  repeat refine And.intro (by first | (show logOK _ _ _ _ = true; kernel_rfl) | (show callOK _ _ = true; kernel_rfl) | omega | assumption) ?_
  refine And.intro (by simp; omega) ?_
  have e4 : (List.take i es).length = i := by simp; omega
  have e : List.take (i + (es.length - j)) (List.take i es ++ List.drop j es ++ List.drop (i + (es.length - j)) es) = List.take i es ++ List.drop j es := by
    have e5 : (List.take i es ++ List.drop j es).length = i + (es.length - j) := by rw [List.length_append, e4, List.length_drop]
    rw [List.take_append_of_le_length (by omega), List.take_of_length_le (by omega)]
  rw [e, List.append_assoc]
  generalize List.replicate (es.length - (i + (es.length - j))) [.lit (.int .i64 0), .lit (.int .i64 0), .str [], .sl 1 [], .sl 5 []] ++ List.drop (i + (es.length - j) + (es.length - (i + (es.length - j)))) (List.take i es ++ List.drop j es ++ List.drop (i + (es.length - j)) es) = T
  generalize List.take i es ++ List.drop j es = A
  refine ret_of [] [(0, 0), (1, 0)] [] (by rfl) ?_ ?_ ?_ <;> (simp -dsimp only [rwR, wkB, wkC, reduceIte, Nat.reduceEqDiff, reduceCtorEq, Nat.reduceAdd, Nat.reduceLeDiff] <;> first | (simp [List.take_of_length_le]; done) | ((try simp only [List.map_take, List.map_drop, List.map_append, List.map_cons, List.map_nil]) <;> (repeat' apply And.intro) <;> first | rfl | (simp; done) | (simp <;> omega; done) | (congr 1; exact (List.take_of_length_le (by simp <;> omega)).symm)))
theorem F.slices_Delete_impl_Node {n : Nat} : ∀ {a_s1 : List NodeT} {a_i1 : Int} {a_j1 : Int} {r : List NodeT}, G.slices_Delete_impl_Node n a_s1 a_i1 a_j1 = some r →
    ACalls Go.Proofs.Tryz.prog 142 [.one (.own 0 a_s1.length 5), .one (.c (.lit (.int .i64 a_i1))), .one (.c (.lit (.int .i64 a_j1)))] [.dat 5 (List.map NodeT.cells a_s1)]
      (fun r1 b1 => r1 = .one (.own 1 r.length 5) ∧ b1 = [.dead, .dat 5 (List.map NodeT.cells r)]) := by
  intro s i j r h
  cases n with
  | zero => simp only [G.slices_Delete_impl_Node, reduceCtorEq] at h
  | succ n =>
    simp only [G.slices_Delete_impl_Node] at h
    obtain ⟨⟨q1, q2, q3, q4⟩, h⟩ := chk_some.1 h
    cases h
    obtain ⟨k, rfl⟩ : ∃ k : Nat, i = k := ⟨i.toNat, by omega⟩
    obtain ⟨l, rfl⟩ : ∃ l : Nat, j = l := ⟨j.toNat, by omega⟩
    refine caps_of (fun c hc => ?_)
    have hf := FZ.slices_Delete_impl_Node (es := List.map NodeT.cells s) (c := c) (i := k) (j := l) (by simpa using hc) (by omega) (by rw [List.length_map]; omega) (by rw [List.length_map]; exact q4)
    have e1 : (List.take k s ++ List.drop l s).length = k + (s.length - l) := by simp; omega
    rw [Int.toNat_natCast, Int.toNat_natCast, e1]
    simpa using hf
theorem FZ.slices_Delete_string {es : List (List Cell)} {c i j : Nat} (hc : es.length ≤ c) (hi : i < j) (hj : j ≤ es.length) (hb : es.length * 18 ≤ 2 ^ 46) :
    ACalls Go.Proofs.Tryz.prog 141 [.one (.sub 0 0 es.length (some c) 1), .one (.c (.lit (.int .i64 (i : Int)))), .one (.c (.lit (.int .i64 (j : Int))))] [.dat 1 es]
      (fun r1 b1 => r1 = .one (.own 1 (i + (es.length - j)) 1) ∧ b1 = [.dead, .dat 1 (es.take i ++ es.drop j)]) := by
  refine fun_sound K.slices_Delete_string (ofK ?_)
  unfold C.slices_Delete_string
  have he : (((i : Nat) : Int) == ((j : Nat) : Int)) = false := by simp; omega
  have ht : List.take (es.length - j) (List.drop j es) = List.drop j es := List.take_of_length_le (by simp)
  have hr : i + (es.length - j) ≤ c := by omega
  simp -dsimp only [egR, AOp.opds, AOp.f, AOp.rd, intBin, storeV, lvl, srcOf, reduceIte, Nat.reduceEqDiff, Nat.reduceAdd, Nat.reduceLeDiff, Nat.reduceBEq, reduceCtorEq, Int.reduceBNe, Int.reduceBEq, Int.reduceLT, Int.reduceLE, Int.reduceNeg, Nat.reduceLT, strBin, Int.reduceToNat, renC, ssliceV, sl3V, sappV, scpyV, appzV, sclrV, truncS, Option.map_none, Int.sub_zero, Nat.sub_zero, Int.toNat_sub, Int.ofNat_zero, List.drop_zero, List.take_length, Nat.add_sub_cancel, he]
  repeat refine And.intro (by first | (show logOK _ _ _ _ = true; kernel_rfl) | (show callOK _ _ = true; kernel_rfl) | omega | assumption) ?_
  simp -dsimp only [egR, AOp.opds, AOp.f, AOp.rd, intBin, storeV, lvl, srcOf, reduceIte, Nat.reduceEqDiff, Nat.reduceAdd, Nat.reduceLeDiff, Nat.reduceBEq, reduceCtorEq, Int.reduceBNe, Int.reduceBEq, Int.reduceLT, Int.reduceLE, Int.reduceNeg, Nat.reduceLT, strBin, Int.reduceToNat, renC, ssliceV, sl3V, sappV, scpyV, appzV, sclrV, truncS, Option.map_none, Int.sub_zero, Nat.sub_zero, Int.toNat_sub, Int.ofNat_zero, List.drop_zero, List.take_length, Nat.add_sub_cancel, ht, List.length_drop, hr]
  repeat refine And.intro (by first | (show logOK _ _ _ _ = true; kernel_rfl) | (show callOK _ _ = true; kernel_rfl) | omega | assumption) ?_
  refine And.intro (by simp; omega) ?_
  have e4 : (List.take i es).length = i := by simp; omega
  have e : List.take (i + (es.length - j)) (List.take i es ++ List.drop j es ++ List.drop (i + (es.length - j)) es) = List.take i es ++ List.drop j es := by
    have e5 : (List.take i es ++ List.drop j es).length = i + (es.length - j) := by rw [List.length_append, e4, List.length_drop]
    rw [List.take_append_of_le_length (by omega), List.take_of_length_le (by omega)]
  rw [e, List.append_assoc]
  generalize List.replicate (es.length - (i + (es.length - j))) [.str []] ++ List.drop (i + (es.length - j) + (es.length - (i + (es.length - j)))) (List.take i es ++ List.drop j es ++ List.drop (i + (es.length - j)) es) = T
  generalize List.take i es ++ List.drop j es = A
  refine ret_of [] [(0, 0), (1, 0)] [] (by rfl) ?_ ?_ ?_ <;> (simp -dsimp only [rwR, wkB, wkC, reduceIte, Nat.reduceEqDiff, reduceCtorEq, Nat.reduceAdd, Nat.reduceLeDiff] <;> first | (simp [List.take_of_length_le]; done) | ((try simp only [List.map_take, List.map_drop, List.map_append, List.map_cons, List.map_nil]) <;> (repeat' apply And.intro) <;> first | rfl | (simp; done) | (simp <;> omega; done) | (congr 1; exact (List.take_of_length_le (by simp <;> omega)).symm)))
theorem F.slices_Delete_string {n : Nat} : ∀ {a_s1 : List Txt} {a_i1 : Int} {a_j1 : Int} {r : List Txt}, G.slices_Delete_string n a_s1 a_i1 a_j1 = some r →
    ACalls Go.Proofs.Tryz.prog 141 [.one (.own 0 a_s1.length 1), .one (.c (.lit (.int .i64 a_i1))), .one (.c (.lit (.int .i64 a_j1)))] [.dat 1 (List.map cS a_s1)]
      (fun r1 b1 => r1 = .one (.own 1 r.length 1) ∧ b1 = [.dead, .dat 1 (List.map cS r)]) := by
  intro s i j r h
  cases n with
  | zero => simp only [G.slices_Delete_string, reduceCtorEq] at h
  | succ n =>
    simp only [G.slices_Delete_string] at h
    obtain ⟨⟨q1, q2, q3, q4⟩, h⟩ := chk_some.1 h
    cases h
    obtain ⟨k, rfl⟩ : ∃ k : Nat, i = k := ⟨i.toNat, by omega⟩
    obtain ⟨l, rfl⟩ : ∃ l : Nat, j = l := ⟨j.toNat, by omega⟩
    refine caps_of (fun c hc => ?_)
    have hf := FZ.slices_Delete_string (es := List.map cS s) (c := c) (i := k) (j := l) (by simpa using hc) (by omega) (by rw [List.length_map]; omega) (by rw [List.length_map]; exact q4)
    have e1 : (List.take k s ++ List.drop l s).length = k + (s.length - l) := by simp; omega
    rw [Int.toNat_natCast, Int.toNat_natCast, e1]
    simpa using hf
theorem F.impl_RemoveNode_1 {n : Nat} : ∀ {a_parent1 : NodeT} {p_cap01 : List Txt} {p_cap11 : Int} {r : NodeT × Bool}, G.impl_RemoveNode_1 n a_parent1 p_cap01 p_cap11 = some r → ACalls Go.Proofs.Tryz.prog 186 [.agg [.c (.lit (.int .i64 a_parent1.Kind)), .c (.lit (.int .i64 a_parent1.Num)), .c (.str a_parent1.Text), .c (.sl 1 (List.map cS a_parent1.Names)), .c (.sl 5 (List.map NodeT.cells a_parent1.Kids))], .one (.ptr 0 0), .one (.ptr 1 0)] [.var [.c (.sl 1 (List.map cS p_cap01))], .var [.c (.lit (.int .i64 p_cap11))]] (fun r1 b1 => r1 = .tup [(true, [.c (.lit (.int .i64 r.1.Kind)), .c (.lit (.int .i64 r.1.Num)), .c (.str r.1.Text), .c (.sl 1 (List.map cS r.1.Names)), .c (.sl 5 (List.map NodeT.cells r.1.Kids))]), (false, [.c (.lit (.bool r.2))])] ∧ b1 = [.var [.c (.sl 1 (List.map cS p_cap01))], .var [.c (.lit (.int .i64 p_cap11))]]) := by
  intro a_parent1 p_cap01 p_cap11 r h
  refine fun_sound K.impl_RemoveNode_1 (ofK ?_)
  unfold C.impl_RemoveNode_1
  rcases n with _ | n <;> simp only [G.impl_RemoveNode_1, reduceCtorEq] at h
  obtain ⟨zc, zg, zk, zu, ze, zj, zt⟩ := pp (pp @F.impl_kidIndex ()) <| pp (pp (pp @F.impl_copyNode_o (@cG [] [101, 102])) <| pp (pp @F.slices_Delete_string (@cG [101] [109])) <| pp (pp @F.slices_Delete_impl_Node (@cG [107] [108])) ()) <| pp () <| pp (pp (@cutX ((Int × Bool) × NodeT × List Txt) _ (fun n x => G.impl_RemoveNode_1.K1 n x.1 x.2.1 x.2.2) r (fun x => ASt.of [(4, .v true (.one (.ptr 104 0))), (6, .v true (.one (.c (.lit (.int .i64 x.1.1))))), (8, .v true (.one (.ptr 105 0)))] [(0, .var [.c (.sl 1 (List.map cS p_cap01))]), (1, .var [.c (.lit (.int .i64 p_cap11))]), (104, .var [.c (.lit (.int .i64 0)), .c (.lit (.int .i64 0)), .c (.str []), .nsl 1, .nsl 5]), (105, .var [.c (.lit (.int .i64 x.2.1.Kind)), .c (.lit (.int .i64 x.2.1.Num)), .c (.str x.2.1.Text), .own 106 x.2.2.length 1, .own 107 x.2.1.Kids.length 5]), (106, .dat 1 (List.map cS x.2.2)), (107, .dat 5 (List.map NodeT.cells x.2.1.Kids))])) ()) <| pp (pp (And.intro @G.impl_RemoveNode_1.K1.eq_1 <| @G.impl_RemoveNode_1.K1.eq_2) ()) <| pp (pp (@weakX [] [(0, 0), (1, 1), (104, 11), (105, 12), (106, 109), (107, 102)] []) <| pp (@weakX [] [(0, 0), (1, 1), (104, 11), (105, 12), (106, 101), (107, 102)] []) ()) <| (pp (@retX [106, 108] [(0, 0), (1, 1)] []) <| pp (@retX [] [(0, 0), (1, 1)] []) ())
  exact drv
theorem F.impl_changeAt__impl_RemoveNode_1_n : ∀ (n : Nat), ∀ {a_n1 : NodeT} {a_path1 : List Txt} {p_cap01 : List Txt} {p_cap11 : Int} {r : NodeT × Bool}, G.impl_changeAt__impl_RemoveNode_1 n a_n1 a_path1 p_cap01 p_cap11 = some r → ACalls Go.Proofs.Tryz.prog 183 [.agg [.c (.lit (.int .i64 a_n1.Kind)), .c (.lit (.int .i64 a_n1.Num)), .c (.str a_n1.Text), .c (.sl 1 (List.map cS a_n1.Names)), .c (.sl 5 (List.map NodeT.cells a_n1.Kids))], .one (.c (.sl 1 (List.map cS a_path1))), .one (.fn 186 [0, 1])] [.var [.c (.sl 1 (List.map cS p_cap01))], .var [.c (.lit (.int .i64 p_cap11))]] (fun r1 b1 => r1 = .tup [(true, [.c (.lit (.int .i64 r.1.Kind)), .c (.lit (.int .i64 r.1.Num)), .c (.str r.1.Text), .c (.sl 1 (List.map cS r.1.Names)), .c (.sl 5 (List.map NodeT.cells r.1.Kids))]), (false, [.c (.lit (.bool r.2))])] ∧ b1 = [.var [.c (.sl 1 (List.map cS p_cap01))], .var [.c (.lit (.int .i64 p_cap11))]]) := by
  intro n
  induction n using Nat.strongRecOn with | _ n ih =>
  intro a_n1 a_path1 p_cap01 p_cap11 r h
  refine fun_sound K.impl_changeAt__impl_RemoveNode_1 (ofK ?_)
  unfold C.impl_changeAt
  rcases n with _ | n <;> simp only [G.impl_changeAt__impl_RemoveNode_1, reduceCtorEq] at h
  obtain ⟨zc, zg, zk, zu, ze, zj, zt⟩ := pp (pp @F.impl_kidIndex ()) <| pp (pp (pp ih (@cG [0, 1] [])) <| pp (pp @F.impl_RemoveNode_1 (@cG [0, 1] [])) <| pp (pp @F.impl_copyNode_o (@cG [] [101, 102])) ()) <| pp () <| pp () <| pp () <| pp () <| (pp (@retX [] [(0, 0), (1, 1)] []) <| pp (@retX [101, 102] [(0, 0), (1, 1)] []) ())
  exact drv
theorem F.impl_changeAt__impl_RemoveNode_1 {n : Nat} : ∀ {a_n1 : NodeT} {a_path1 : List Txt} {p_cap01 : List Txt} {p_cap11 : Int} {r : NodeT × Bool}, G.impl_changeAt__impl_RemoveNode_1 n a_n1 a_path1 p_cap01 p_cap11 = some r → ACalls Go.Proofs.Tryz.prog 183 [.agg [.c (.lit (.int .i64 a_n1.Kind)), .c (.lit (.int .i64 a_n1.Num)), .c (.str a_n1.Text), .c (.sl 1 (List.map cS a_n1.Names)), .c (.sl 5 (List.map NodeT.cells a_n1.Kids))], .one (.c (.sl 1 (List.map cS a_path1))), .one (.fn 186 [0, 1])] [.var [.c (.sl 1 (List.map cS p_cap01))], .var [.c (.lit (.int .i64 p_cap11))]] (fun r1 b1 => r1 = .tup [(true, [.c (.lit (.int .i64 r.1.Kind)), .c (.lit (.int .i64 r.1.Num)), .c (.str r.1.Text), .c (.sl 1 (List.map cS r.1.Names)), .c (.sl 5 (List.map NodeT.cells r.1.Kids))]), (false, [.c (.lit (.bool r.2))])] ∧ b1 = [.var [.c (.sl 1 (List.map cS p_cap01))], .var [.c (.lit (.int .i64 p_cap11))]]) := F.impl_changeAt__impl_RemoveNode_1_n n
theorem F.impl_RemoveNode {n : Nat} : ∀ {a_n1 : NodeT} {a_path1 : List Txt} {r : NodeT × Bool}, G.impl_RemoveNode n a_n1 a_path1 = some r → APure Go.Proofs.Tryz.prog 144 [.agg [.c (.lit (.int .i64 a_n1.Kind)), .c (.lit (.int .i64 a_n1.Num)), .c (.str a_n1.Text), .c (.sl 1 (List.map cS a_n1.Names)), .c (.sl 5 (List.map NodeT.cells a_n1.Kids))], .one (.c (.sl 1 (List.map cS a_path1)))] (.tup [(true, [.c (.lit (.int .i64 r.1.Kind)), .c (.lit (.int .i64 r.1.Num)), .c (.str r.1.Text), .c (.sl 1 (List.map cS r.1.Names)), .c (.sl 5 (List.map NodeT.cells r.1.Kids))]), (false, [.c (.lit (.bool r.2))])]) := by
  intro a_n1 a_path1 r h
  refine fun_pure K.impl_RemoveNode (ofK ?_)
  unfold C.impl_RemoveNode
  rcases n with _ | n <;> simp only [G.impl_RemoveNode, reduceCtorEq] at h
  obtain ⟨zc, zg, zk, zu, ze, zj, zt⟩ := pp (pp @F.impl_ValidNode <| pp @F.impl_isPath ()) <| pp (pp (pp @F.impl_changeAt__impl_RemoveNode_1 (@cG [11, 13] [])) ()) <| pp () <| pp () <| pp () <| pp () <| ()
  exact drv
theorem F.impl_SetNode_1 {n : Nat} : ∀ {a_a1 : NodeT} {p_cap01 : NodeT} {r : NodeT × Bool}, G.impl_SetNode_1 n a_a1 p_cap01 = some r → ACalls Go.Proofs.Tryz.prog 187 [.agg [.c (.lit (.int .i64 a_a1.Kind)), .c (.lit (.int .i64 a_a1.Num)), .c (.str a_a1.Text), .c (.sl 1 (List.map cS a_a1.Names)), .c (.sl 5 (List.map NodeT.cells a_a1.Kids))], .one (.ptr 0 0)] [.var [.c (.lit (.int .i64 p_cap01.Kind)), .c (.lit (.int .i64 p_cap01.Num)), .c (.str p_cap01.Text), .c (.sl 1 (List.map cS p_cap01.Names)), .c (.sl 5 (List.map NodeT.cells p_cap01.Kids))]] (fun r1 b1 => r1 = .tup [(true, [.c (.lit (.int .i64 r.1.Kind)), .c (.lit (.int .i64 r.1.Num)), .c (.str r.1.Text), .c (.sl 1 (List.map cS r.1.Names)), .c (.sl 5 (List.map NodeT.cells r.1.Kids))]), (false, [.c (.lit (.bool r.2))])] ∧ b1 = [.var [.c (.lit (.int .i64 p_cap01.Kind)), .c (.lit (.int .i64 p_cap01.Num)), .c (.str p_cap01.Text), .c (.sl 1 (List.map cS p_cap01.Names)), .c (.sl 5 (List.map NodeT.cells p_cap01.Kids))]]) := by
  intro a_a1 p_cap01 r h
  refine fun_sound K.impl_SetNode_1 (ofK ?_)
  unfold C.impl_SetNode_1
  rcases n with _ | n <;> simp only [G.impl_SetNode_1, reduceCtorEq] at h
  obtain ⟨zc, zg, zk, zu, ze, zj, zt⟩ := pp (pp @F.impl_copyNode ()) <| pp () <| pp () <| pp () <| pp () <| pp () <| (pp (@retX [] [(0, 0)] []) ())
  exact drv
theorem F.impl_changeAt__impl_SetNode_1_n : ∀ (n : Nat), ∀ {a_n1 : NodeT} {a_path1 : List Txt} {p_cap01 : NodeT} {r : NodeT × Bool}, G.impl_changeAt__impl_SetNode_1 n a_n1 a_path1 p_cap01 = some r → ACalls Go.Proofs.Tryz.prog 183 [.agg [.c (.lit (.int .i64 a_n1.Kind)), .c (.lit (.int .i64 a_n1.Num)), .c (.str a_n1.Text), .c (.sl 1 (List.map cS a_n1.Names)), .c (.sl 5 (List.map NodeT.cells a_n1.Kids))], .one (.c (.sl 1 (List.map cS a_path1))), .one (.fn 187 [0])] [.var [.c (.lit (.int .i64 p_cap01.Kind)), .c (.lit (.int .i64 p_cap01.Num)), .c (.str p_cap01.Text), .c (.sl 1 (List.map cS p_cap01.Names)), .c (.sl 5 (List.map NodeT.cells p_cap01.Kids))]] (fun r1 b1 => r1 = .tup [(true, [.c (.lit (.int .i64 r.1.Kind)), .c (.lit (.int .i64 r.1.Num)), .c (.str r.1.Text), .c (.sl 1 (List.map cS r.1.Names)), .c (.sl 5 (List.map NodeT.cells r.1.Kids))]), (false, [.c (.lit (.bool r.2))])] ∧ b1 = [.var [.c (.lit (.int .i64 p_cap01.Kind)), .c (.lit (.int .i64 p_cap01.Num)), .c (.str p_cap01.Text), .c (.sl 1 (List.map cS p_cap01.Names)), .c (.sl 5 (List.map NodeT.cells p_cap01.Kids))]]) := by
  intro n
  induction n using Nat.strongRecOn with | _ n ih =>
  intro a_n1 a_path1 p_cap01 r h
  refine fun_sound K.impl_changeAt__impl_SetNode_1 (ofK ?_)
  unfold C.impl_changeAt
  rcases n with _ | n <;> simp only [G.impl_changeAt__impl_SetNode_1, reduceCtorEq] at h
  obtain ⟨zc, zg, zk, zu, ze, zj, zt⟩ := pp (pp @F.impl_kidIndex ()) <| pp (pp (pp ih (@cG [0] [])) <| pp (pp @F.impl_SetNode_1 (@cG [0] [])) <| pp (pp @F.impl_copyNode_o (@cG [] [101, 102])) ()) <| pp () <| pp () <| pp () <| pp () <| (pp (@retX [] [(0, 0)] []) <| pp (@retX [101, 102] [(0, 0)] []) ())
  exact drv
theorem F.impl_changeAt__impl_SetNode_1 {n : Nat} : ∀ {a_n1 : NodeT} {a_path1 : List Txt} {p_cap01 : NodeT} {r : NodeT × Bool}, G.impl_changeAt__impl_SetNode_1 n a_n1 a_path1 p_cap01 = some r → ACalls Go.Proofs.Tryz.prog 183 [.agg [.c (.lit (.int .i64 a_n1.Kind)), .c (.lit (.int .i64 a_n1.Num)), .c (.str a_n1.Text), .c (.sl 1 (List.map cS a_n1.Names)), .c (.sl 5 (List.map NodeT.cells a_n1.Kids))], .one (.c (.sl 1 (List.map cS a_path1))), .one (.fn 187 [0])] [.var [.c (.lit (.int .i64 p_cap01.Kind)), .c (.lit (.int .i64 p_cap01.Num)), .c (.str p_cap01.Text), .c (.sl 1 (List.map cS p_cap01.Names)), .c (.sl 5 (List.map NodeT.cells p_cap01.Kids))]] (fun r1 b1 => r1 = .tup [(true, [.c (.lit (.int .i64 r.1.Kind)), .c (.lit (.int .i64 r.1.Num)), .c (.str r.1.Text), .c (.sl 1 (List.map cS r.1.Names)), .c (.sl 5 (List.map NodeT.cells r.1.Kids))]), (false, [.c (.lit (.bool r.2))])] ∧ b1 = [.var [.c (.lit (.int .i64 p_cap01.Kind)), .c (.lit (.int .i64 p_cap01.Num)), .c (.str p_cap01.Text), .c (.sl 1 (List.map cS p_cap01.Names)), .c (.sl 5 (List.map NodeT.cells p_cap01.Kids))]]) := F.impl_changeAt__impl_SetNode_1_n n
theorem F.impl_SetNode {n : Nat} : ∀ {a_n1 : NodeT} {a_path1 : List Txt} {a_value1 : NodeT} {r : NodeT × Bool}, G.impl_SetNode n a_n1 a_path1 a_value1 = some r → APure Go.Proofs.Tryz.prog 145 [.agg [.c (.lit (.int .i64 a_n1.Kind)), .c (.lit (.int .i64 a_n1.Num)), .c (.str a_n1.Text), .c (.sl 1 (List.map cS a_n1.Names)), .c (.sl 5 (List.map NodeT.cells a_n1.Kids))], .one (.c (.sl 1 (List.map cS a_path1))), .agg [.c (.lit (.int .i64 a_value1.Kind)), .c (.lit (.int .i64 a_value1.Num)), .c (.str a_value1.Text), .c (.sl 1 (List.map cS a_value1.Names)), .c (.sl 5 (List.map NodeT.cells a_value1.Kids))]] (.tup [(true, [.c (.lit (.int .i64 r.1.Kind)), .c (.lit (.int .i64 r.1.Num)), .c (.str r.1.Text), .c (.sl 1 (List.map cS r.1.Names)), .c (.sl 5 (List.map NodeT.cells r.1.Kids))]), (false, [.c (.lit (.bool r.2))])]) := by
  intro a_n1 a_path1 a_value1 r h
  refine fun_pure K.impl_SetNode (ofK ?_)
  unfold C.impl_SetNode
  rcases n with _ | n <;> simp only [G.impl_SetNode, reduceCtorEq] at h
  obtain ⟨zc, zg, zk, zu, ze, zj, zt⟩ := pp (pp @F.impl_ValidNode <| pp @F.impl_isPath <| pp @F.impl_checked ()) <| pp (pp (pp @F.impl_changeAt__impl_SetNode_1 (@cG [11] [])) ()) <| pp () <| pp () <| pp () <| pp () <| ()
  exact drv
theorem F.impl_isOp {n : Nat} : ∀ {a_o1 : OpT} {r : Bool}, G.impl_isOp n a_o1 = some r → APure Go.Proofs.Tryz.prog 97 [.agg [.c (.lit (.int .i64 a_o1.Kind)), .c (.sl 1 (List.map cS a_o1.Path)), .c (.sl 1 (List.map cS a_o1.From)), .c (.lit (.int .i64 a_o1.Value.Kind)), .c (.lit (.int .i64 a_o1.Value.Num)), .c (.str a_o1.Value.Text), .c (.sl 1 (List.map cS a_o1.Value.Names)), .c (.sl 5 (List.map NodeT.cells a_o1.Value.Kids))]] (.one (.c (.lit (.bool r)))) := by
  intro a_o1 r h
  refine fun_pure K.impl_isOp (ofK ?_)
  unfold C.impl_isOp
  rcases n with _ | n <;> simp only [G.impl_isOp, reduceCtorEq] at h
  obtain ⟨zc, zg, zk, zu, ze, zj, zt⟩ := pp (pp @F.impl_isPath <| pp @F.impl_ValidNode ()) <| pp () <| pp () <| pp () <| pp () <| pp () <| ()
  exact drv
theorem F.slices_Equal_string {n : Nat} : ∀ {a_s11 : List Txt} {a_s21 : List Txt} {r : Bool}, G.slices_Equal_string n a_s11 a_s21 = some r → APure Go.Proofs.Tryz.prog 188 [.one (.c (.sl 1 (List.map cS a_s11))), .one (.c (.sl 1 (List.map cS a_s21)))] (.one (.c (.lit (.bool r)))) := by
  intro a_s11 a_s21 r h
  refine fun_pure K.slices_Equal_string (ofK ?_)
  unfold C.slices_Equal_string
  rcases n with _ | n <;> simp only [G.slices_Equal_string, reduceCtorEq] at h
  obtain ⟨zc, zg, zk, zu, ze, zj, zt⟩ := pp () <| pp () <| pp (pp (@lopX (Int) _ (fun n x => G.slices_Equal_string.L1 n a_s11 a_s21 x) r (fun x => ASt.of [(0, .v true (.one (.c (.sl 1 (List.map cS a_s11))))), (1, .v true (.one (.c (.sl 1 (List.map cS a_s21))))), (12, .v true (.one (.c (.lit (.int .i64 ((a_s11.length : Nat) : Int)))))), (13, .v true (.one (.c (.lit (.int .i64 x)))))] [])) ()) <| pp () <| pp (pp (And.intro @G.slices_Equal_string.L1.eq_1 <| @G.slices_Equal_string.L1.eq_2) ()) <| pp (pp (@weakX [] [] []) ()) <| ()
  exact drv
theorem F.impl_moveNode {n : Nat} : ∀ {a_n1 : NodeT} {a_from1 : List Txt} {a_path1 : List Txt} {r : NodeT × Bool}, G.impl_moveNode n a_n1 a_from1 a_path1 = some r → APure Go.Proofs.Tryz.prog 146 [.agg [.c (.lit (.int .i64 a_n1.Kind)), .c (.lit (.int .i64 a_n1.Num)), .c (.str a_n1.Text), .c (.sl 1 (List.map cS a_n1.Names)), .c (.sl 5 (List.map NodeT.cells a_n1.Kids))], .one (.c (.sl 1 (List.map cS a_from1))), .one (.c (.sl 1 (List.map cS a_path1)))] (.tup [(true, [.c (.lit (.int .i64 r.1.Kind)), .c (.lit (.int .i64 r.1.Num)), .c (.str r.1.Text), .c (.sl 1 (List.map cS r.1.Names)), .c (.sl 5 (List.map NodeT.cells r.1.Kids))]), (false, [.c (.lit (.bool r.2))])]) := by
  intro a_n1 a_from1 a_path1 r h
  refine fun_pure K.impl_moveNode (ofK ?_)
  unfold C.impl_moveNode
  rcases n with _ | n <;> simp only [G.impl_moveNode, reduceCtorEq] at h
  obtain ⟨zc, zg, zk, zu, ze, zj, zt⟩ := pp (pp @F.impl_NodeAt <| pp @F.slices_Equal_string <| pp @F.impl_copyNode <| pp @F.impl_RemoveNode <| pp @F.impl_AddNode ()) <| pp () <| pp () <| pp () <| pp () <| pp () <| ()
  exact drv
theorem F.internal_bytealg_CompareString {n : Nat} : ∀ {a_a1 : Txt} {a_b1 : Txt} {r : Int}, G.internal_bytealg_CompareString n a_a1 a_b1 = some r → APure Go.Proofs.Tryz.prog 111 [.one (.c (.str a_a1)), .one (.c (.str a_b1))] (.one (.c (.lit (.int .i64 r)))) := by
  intro a_a1 a_b1 r h
  refine fun_pure K.internal_bytealg_CompareString (ofK ?_)
  unfold C.internal_bytealg_CompareString
  rcases n with _ | n <;> simp only [G.internal_bytealg_CompareString, reduceCtorEq] at h
  obtain ⟨zc, zg, zk, zu, ze, zj, zt⟩ := pp () <| pp () <| pp () <| pp () <| pp () <| pp () <| ()
  exact drv
theorem F.strings_Compare {n : Nat} : ∀ {a_a1 : Txt} {a_b1 : Txt} {r : Int}, G.strings_Compare n a_a1 a_b1 = some r → APure Go.Proofs.Tryz.prog 66 [.one (.c (.str a_a1)), .one (.c (.str a_b1))] (.one (.c (.lit (.int .i64 r)))) := by
  intro a_a1 a_b1 r h
  refine fun_pure K.strings_Compare (ofK ?_)
  unfold C.strings_Compare
  rcases n with _ | n <;> simp only [G.strings_Compare, reduceCtorEq] at h
  obtain ⟨zc, zg, zk, zu, ze, zj, zt⟩ := pp (pp @F.internal_bytealg_CompareString ()) <| pp () <| pp () <| pp () <| pp () <| pp () <| ()
  exact drv
theorem F.impl_compareValid_n : ∀ (n : Nat), ∀ {a_a1 : NodeT} {a_b1 : NodeT} {r : Int}, G.impl_compareValid n a_a1 a_b1 = some r → APure Go.Proofs.Tryz.prog 65 [.agg [.c (.lit (.int .i64 a_a1.Kind)), .c (.lit (.int .i64 a_a1.Num)), .c (.str a_a1.Text), .c (.sl 1 (List.map cS a_a1.Names)), .c (.sl 5 (List.map NodeT.cells a_a1.Kids))], .agg [.c (.lit (.int .i64 a_b1.Kind)), .c (.lit (.int .i64 a_b1.Num)), .c (.str a_b1.Text), .c (.sl 1 (List.map cS a_b1.Names)), .c (.sl 5 (List.map NodeT.cells a_b1.Kids))]] (.one (.c (.lit (.int .i64 r)))) := by
  intro n
  induction n using Nat.strongRecOn with | _ n ih =>
  intro a_a1 a_b1 r h
  refine fun_pure K.impl_compareValid (ofK ?_)
  unfold C.impl_compareValid
  rcases n with _ | n <;> simp only [G.impl_compareValid, reduceCtorEq] at h
  obtain ⟨zc, zg, zk, zu, ze, zj, zt⟩ := pp (pp ih <| pp @F.cmp_Compare_int <| pp @F.strings_Compare ()) <| pp () <| pp (pp (@lopX (Int) _ (fun n x => G.impl_compareValid.L3 n a_a1 a_b1 x) r (fun x => ASt.of [(2, .v true (.one (.ptr 109 0))), (3, .v true (.one (.ptr 110 0))), (8, .v true (.one (.c (.lit (.int .i64 x)))))] [(109, .var [.c (.lit (.int .i64 a_a1.Kind)), .c (.lit (.int .i64 a_a1.Num)), .c (.str a_a1.Text), .c (.sl 1 (List.map cS a_a1.Names)), .c (.sl 5 (List.map NodeT.cells a_a1.Kids))]), (110, .var [.c (.lit (.int .i64 a_b1.Kind)), .c (.lit (.int .i64 a_b1.Num)), .c (.str a_b1.Text), .c (.sl 1 (List.map cS a_b1.Names)), .c (.sl 5 (List.map NodeT.cells a_b1.Kids))])])) ()) <| pp (pp (@cutX (Int) _ (fun n x => G.impl_compareValid.K4 n a_a1 a_b1 x) r (fun x => ASt.of [(2, .v true (.one (.ptr 111 0))), (3, .v true (.one (.ptr 112 0))), (8, .v true (.one (.c (.lit (.int .i64 x)))))] [(111, .var [.c (.lit (.int .i64 a_a1.Kind)), .c (.lit (.int .i64 a_a1.Num)), .c (.str a_a1.Text), .c (.sl 1 (List.map cS a_a1.Names)), .c (.sl 5 (List.map NodeT.cells a_a1.Kids))]), (112, .var [.c (.lit (.int .i64 a_b1.Kind)), .c (.lit (.int .i64 a_b1.Num)), .c (.str a_b1.Text), .c (.sl 1 (List.map cS a_b1.Names)), .c (.sl 5 (List.map NodeT.cells a_b1.Kids))])])) ()) <| pp (pp (And.intro @G.impl_compareValid.L3.eq_1 <| And.intro @G.impl_compareValid.L3.eq_2 <| And.intro @G.impl_compareValid.K4.eq_1 <| @G.impl_compareValid.K4.eq_2) ()) <| pp (pp (@weakX [] [(109, 10), (110, 11)] []) <| pp (@weakX [] [(111, 109), (112, 110)] []) <| pp (@weakX [] [(109, 111), (110, 112)] []) ()) <| ()
  exact drv
theorem F.impl_compareValid {n : Nat} : ∀ {a_a1 : NodeT} {a_b1 : NodeT} {r : Int}, G.impl_compareValid n a_a1 a_b1 = some r → APure Go.Proofs.Tryz.prog 65 [.agg [.c (.lit (.int .i64 a_a1.Kind)), .c (.lit (.int .i64 a_a1.Num)), .c (.str a_a1.Text), .c (.sl 1 (List.map cS a_a1.Names)), .c (.sl 5 (List.map NodeT.cells a_a1.Kids))], .agg [.c (.lit (.int .i64 a_b1.Kind)), .c (.lit (.int .i64 a_b1.Num)), .c (.str a_b1.Text), .c (.sl 1 (List.map cS a_b1.Names)), .c (.sl 5 (List.map NodeT.cells a_b1.Kids))]] (.one (.c (.lit (.int .i64 r)))) := F.impl_compareValid_n n
theorem F.impl_sameNode {n : Nat} : ∀ {a_a1 : NodeT} {a_b1 : NodeT} {r : Bool}, G.impl_sameNode n a_a1 a_b1 = some r → APure Go.Proofs.Tryz.prog 78 [.agg [.c (.lit (.int .i64 a_a1.Kind)), .c (.lit (.int .i64 a_a1.Num)), .c (.str a_a1.Text), .c (.sl 1 (List.map cS a_a1.Names)), .c (.sl 5 (List.map NodeT.cells a_a1.Kids))], .agg [.c (.lit (.int .i64 a_b1.Kind)), .c (.lit (.int .i64 a_b1.Num)), .c (.str a_b1.Text), .c (.sl 1 (List.map cS a_b1.Names)), .c (.sl 5 (List.map NodeT.cells a_b1.Kids))]] (.one (.c (.lit (.bool r)))) := by
  intro a_a1 a_b1 r h
  refine fun_pure K.impl_sameNode (ofK ?_)
  unfold C.impl_sameNode
  rcases n with _ | n <;> simp only [G.impl_sameNode, reduceCtorEq] at h
  obtain ⟨zc, zg, zk, zu, ze, zj, zt⟩ := pp (pp @F.impl_compareValid ()) <| pp () <| pp () <| pp () <| pp () <| pp () <| ()
  exact drv
theorem F.impl_testNode {n : Nat} : ∀ {a_n1 : NodeT} {a_path1 : List Txt} {a_value1 : NodeT} {r : NodeT × Bool}, G.impl_testNode n a_n1 a_path1 a_value1 = some r → APure Go.Proofs.Tryz.prog 147 [.agg [.c (.lit (.int .i64 a_n1.Kind)), .c (.lit (.int .i64 a_n1.Num)), .c (.str a_n1.Text), .c (.sl 1 (List.map cS a_n1.Names)), .c (.sl 5 (List.map NodeT.cells a_n1.Kids))], .one (.c (.sl 1 (List.map cS a_path1))), .agg [.c (.lit (.int .i64 a_value1.Kind)), .c (.lit (.int .i64 a_value1.Num)), .c (.str a_value1.Text), .c (.sl 1 (List.map cS a_value1.Names)), .c (.sl 5 (List.map NodeT.cells a_value1.Kids))]] (.tup [(true, [.c (.lit (.int .i64 r.1.Kind)), .c (.lit (.int .i64 r.1.Num)), .c (.str r.1.Text), .c (.sl 1 (List.map cS r.1.Names)), .c (.sl 5 (List.map NodeT.cells r.1.Kids))]), (false, [.c (.lit (.bool r.2))])]) := by
  intro a_n1 a_path1 a_value1 r h
  refine fun_pure K.impl_testNode (ofK ?_)
  unfold C.impl_testNode
  rcases n with _ | n <;> simp only [G.impl_testNode, reduceCtorEq] at h
  obtain ⟨zc, zg, zk, zu, ze, zj, zt⟩ := pp (pp @F.impl_findNode <| pp @F.impl_sameNode <| pp @F.impl_copyNode ()) <| pp () <| pp () <| pp () <| pp () <| pp () <| ()
  exact drv
theorem F.impl_ApplyOp {n : Nat} : ∀ {a_n1 : NodeT} {a_o1 : OpT} {r : NodeT × Bool}, G.impl_ApplyOp n a_n1 a_o1 = some r → APure Go.Proofs.Tryz.prog 98 [.agg [.c (.lit (.int .i64 a_n1.Kind)), .c (.lit (.int .i64 a_n1.Num)), .c (.str a_n1.Text), .c (.sl 1 (List.map cS a_n1.Names)), .c (.sl 5 (List.map NodeT.cells a_n1.Kids))], .agg [.c (.lit (.int .i64 a_o1.Kind)), .c (.sl 1 (List.map cS a_o1.Path)), .c (.sl 1 (List.map cS a_o1.From)), .c (.lit (.int .i64 a_o1.Value.Kind)), .c (.lit (.int .i64 a_o1.Value.Num)), .c (.str a_o1.Value.Text), .c (.sl 1 (List.map cS a_o1.Value.Names)), .c (.sl 5 (List.map NodeT.cells a_o1.Value.Kids))]] (.tup [(true, [.c (.lit (.int .i64 r.1.Kind)), .c (.lit (.int .i64 r.1.Num)), .c (.str r.1.Text), .c (.sl 1 (List.map cS r.1.Names)), .c (.sl 5 (List.map NodeT.cells r.1.Kids))]), (false, [.c (.lit (.bool r.2))])]) := by
  intro a_n1 a_o1 r h
  refine fun_pure K.impl_ApplyOp (ofK ?_)
  unfold C.impl_ApplyOp
  rcases n with _ | n <;> simp only [G.impl_ApplyOp, reduceCtorEq] at h
  obtain ⟨zc, zg, zk, zu, ze, zj, zt⟩ := pp (pp @F.impl_ValidNode <| pp @F.impl_isOp <| pp @F.impl_AddNode <| pp @F.impl_RemoveNode <| pp @F.impl_SetNode <| pp @F.impl_moveNode <| pp @F.impl_NodeAt <| pp @F.impl_testNode ()) <| pp () <| pp () <| pp () <| pp () <| pp () <| ()
  exact drv
theorem F.impl_arePatchOps {n : Nat} : ∀ {a_list1 : List OpT} {r : Bool}, G.impl_arePatchOps n a_list1 = some r → APure Go.Proofs.Tryz.prog 52 [.one (.c (.sl 8 (List.map OpT.cells a_list1)))] (.one (.c (.lit (.bool r)))) := by
  intro a_list1 r h
  refine fun_pure K.impl_arePatchOps (ofK ?_)
  unfold C.impl_arePatchOps
  rcases n with _ | n <;> simp only [G.impl_arePatchOps, reduceCtorEq] at h
  obtain ⟨zc, zg, zk, zu, ze, zj, zt⟩ := pp (pp @F.impl_isOp ()) <| pp () <| pp (pp (@lopX (Int) _ (fun n x => G.impl_arePatchOps.L1 n a_list1 x) r (fun x => ASt.of [(8, .v true (.one (.c (.sl 8 (List.map OpT.cells a_list1))))), (9, .v true (.one (.c (.lit (.int .i64 ((a_list1.length : Nat) : Int)))))), (10, .v true (.one (.c (.lit (.int .i64 x)))))] [])) ()) <| pp () <| pp (pp (And.intro @G.impl_arePatchOps.L1.eq_1 <| @G.impl_arePatchOps.L1.eq_2) ()) <| pp (pp (@weakX [] [] []) ()) <| ()
  exact drv
theorem F.impl_runPatch {n : Nat} : ∀ {a_n1 : NodeT} {a_list1 : List OpT} {r : NodeT × Int}, G.impl_runPatch n a_n1 a_list1 = some r → APure Go.Proofs.Tryz.prog 53 [.agg [.c (.lit (.int .i64 a_n1.Kind)), .c (.lit (.int .i64 a_n1.Num)), .c (.str a_n1.Text), .c (.sl 1 (List.map cS a_n1.Names)), .c (.sl 5 (List.map NodeT.cells a_n1.Kids))], .one (.c (.sl 8 (List.map OpT.cells a_list1)))] (.tup [(true, [.c (.lit (.int .i64 r.1.Kind)), .c (.lit (.int .i64 r.1.Num)), .c (.str r.1.Text), .c (.sl 1 (List.map cS r.1.Names)), .c (.sl 5 (List.map NodeT.cells r.1.Kids))]), (false, [.c (.lit (.int .i64 r.2))])]) := by
  intro a_n1 a_list1 r h
  refine fun_pure K.impl_runPatch (ofK ?_)
  unfold C.impl_runPatch
  rcases n with _ | n <;> simp only [G.impl_runPatch, reduceCtorEq] at h
  obtain ⟨zc, zg, zk, zu, ze, zj, zt⟩ := pp (pp @F.impl_copyNode <| pp @F.impl_ApplyOp ()) <| pp () <| pp (pp (@lopX (Int × Int × Int × Txt × List Txt × List NodeT) _ (fun n x => G.impl_runPatch.L1 n a_list1 x.1 x.2.1 x.2.2.1 x.2.2.2.1 x.2.2.2.2.1 x.2.2.2.2.2) r (fun x => ASt.of [(1, .v true (.one (.c (.sl 8 (List.map OpT.cells a_list1))))), (4, .v true (.one (.ptr 105 0))), (6, .v true (.one (.ptr 106 0))), (13, .v true (.one (.c (.sl 8 (List.map OpT.cells a_list1))))), (14, .v true (.one (.c (.lit (.int .i64 ((a_list1.length : Nat) : Int)))))), (15, .v true (.one (.c (.lit (.int .i64 x.1)))))] [(105, .var [.c (.lit (.int .i64 0)), .c (.lit (.int .i64 0)), .c (.str []), .nsl 1, .nsl 5]), (106, .var [.c (.lit (.int .i64 x.2.1)), .c (.lit (.int .i64 x.2.2.1)), .c (.str x.2.2.2.1), .c (.sl 1 (List.map cS x.2.2.2.2.1)), .c (.sl 5 (List.map NodeT.cells x.2.2.2.2.2))])])) ()) <| pp () <| pp (pp (And.intro @G.impl_runPatch.L1.eq_1 <| @G.impl_runPatch.L1.eq_2) ()) <| pp (pp (@weakX [] [(105, 11), (106, 12)] []) <| pp (@weakX [] [(105, 105), (106, 106)] []) ()) <| ()
  exact drv
theorem F.impl_ApplyPatch {n : Nat} : ∀ {a_n1 : NodeT} {a_list1 : List OpT} {r : NodeT × Bool}, G.impl_ApplyPatch n a_n1 a_list1 = some r → APure Go.Proofs.Tryz.prog 21 [.agg [.c (.lit (.int .i64 a_n1.Kind)), .c (.lit (.int .i64 a_n1.Num)), .c (.str a_n1.Text), .c (.sl 1 (List.map cS a_n1.Names)), .c (.sl 5 (List.map NodeT.cells a_n1.Kids))], .one (.c (.sl 8 (List.map OpT.cells a_list1)))] (.tup [(true, [.c (.lit (.int .i64 r.1.Kind)), .c (.lit (.int .i64 r.1.Num)), .c (.str r.1.Text), .c (.sl 1 (List.map cS r.1.Names)), .c (.sl 5 (List.map NodeT.cells r.1.Kids))]), (false, [.c (.lit (.bool r.2))])]) := by
  intro a_n1 a_list1 r h
  refine fun_pure K.impl_ApplyPatch (ofK ?_)
  unfold C.impl_ApplyPatch
  rcases n with _ | n <;> simp only [G.impl_ApplyPatch, reduceCtorEq] at h
  obtain ⟨zc, zg, zk, zu, ze, zj, zt⟩ := pp (pp @F.impl_ValidNode <| pp @F.impl_arePatchOps <| pp @F.impl_runPatch ()) <| pp () <| pp () <| pp () <| pp () <| pp () <| ()
  exact drv
theorem F.impl_copyTexts {n : Nat} : ∀ {a_list1 : List Txt} {r : List Txt}, G.impl_copyTexts n a_list1 = some r → APure Go.Proofs.Tryz.prog 131 [.one (.c (.sl 1 (List.map cS a_list1)))] (.one (.c (.sl 1 (List.map cS r)))) := by
  intro a_list1 r h
  refine fun_pure K.impl_copyTexts (ofK ?_)
  unfold C.impl_copyTexts
  rcases n with _ | n <;> simp only [G.impl_copyTexts, reduceCtorEq] at h
  obtain ⟨zc, zg, zk, zu, ze, zj, zt⟩ := pp () <| pp () <| pp () <| pp () <| pp () <| pp () <| ()
  exact drv
theorem F.impl_differences_put {n : Nat} : ∀ {p_d1 : DifferencesT} {a_kind1 : Int} {a_path1 : List Txt} {a_value1 : NodeT} {r : DifferencesT}, G.impl_differences_put n p_d1 a_kind1 a_path1 a_value1 = some r → ACalls Go.Proofs.Tryz.prog 81 [.one (.ptr 0 0), .one (.c (.lit (.int .i64 a_kind1))), .one (.c (.sl 1 (List.map cS a_path1))), .agg [.c (.lit (.int .i64 a_value1.Kind)), .c (.lit (.int .i64 a_value1.Num)), .c (.str a_value1.Text), .c (.sl 1 (List.map cS a_value1.Names)), .c (.sl 5 (List.map NodeT.cells a_value1.Kids))]] [.var [.own 1 p_d1.list.length 8], .dat 8 (List.map OpT.cells p_d1.list)] (fun r1 b1 => r1 = .tup [] ∧ b1 = [.var [.own 2 r.list.length 8], .dead, .dat 8 (List.map OpT.cells r.list)]) := by
  intro p_d1 a_kind1 a_path1 a_value1 r h
  refine fun_sound K.impl_differences_put (ofK ?_)
  unfold C.impl_differences_put
  rcases n with _ | n <;> simp only [G.impl_differences_put, reduceCtorEq] at h
  obtain ⟨zc, zg, zk, zu, ze, zj, zt⟩ := pp (pp @F.impl_copyTexts <| pp @F.impl_copyNode ()) <| pp () <| pp () <| pp () <| pp () <| pp () <| (pp (@retX [] [(0, 0), (1, 1), (2, 12)] []) ())
  exact drv
theorem F.impl_stepBehind {n : Nat} : ∀ {a_path1 : List Txt} {a_step1 : Txt} {r : List Txt}, G.impl_stepBehind n a_path1 a_step1 = some r → APure Go.Proofs.Tryz.prog 129 [.one (.c (.sl 1 (List.map cS a_path1))), .one (.c (.str a_step1))] (.one (.c (.sl 1 (List.map cS r)))) := by
  intro a_path1 a_step1 r h
  refine fun_pure K.impl_stepBehind (ofK ?_)
  unfold C.impl_stepBehind
  rcases n with _ | n <;> simp only [G.impl_stepBehind, reduceCtorEq] at h
  obtain ⟨zc, zg, zk, zu, ze, zj, zt⟩ := pp () <| pp () <| pp () <| pp () <| pp () <| pp () <| ()
  exact drv
theorem F.scc_impl_differences_visit : ∀ (n : Nat), (∀ {p_d1 : DifferencesT} {a_a1 : NodeT} {a_b1 : NodeT} {a_path1 : List Txt} {r : DifferencesT}, G.impl_differences_visit n p_d1 a_a1 a_b1 a_path1 = some r → ACalls Go.Proofs.Tryz.prog 39 [.one (.ptr 0 0), .agg [.c (.lit (.int .i64 a_a1.Kind)), .c (.lit (.int .i64 a_a1.Num)), .c (.str a_a1.Text), .c (.sl 1 (List.map cS a_a1.Names)), .c (.sl 5 (List.map NodeT.cells a_a1.Kids))], .agg [.c (.lit (.int .i64 a_b1.Kind)), .c (.lit (.int .i64 a_b1.Num)), .c (.str a_b1.Text), .c (.sl 1 (List.map cS a_b1.Names)), .c (.sl 5 (List.map NodeT.cells a_b1.Kids))], .one (.c (.sl 1 (List.map cS a_path1)))] [.var [.own 1 p_d1.list.length 8], .dat 8 (List.map OpT.cells p_d1.list)] (fun r1 b1 => r1 = .tup [] ∧ b1 = [.var [.own 2 r.list.length 8], .dead, .dat 8 (List.map OpT.cells r.list)])) ∧ (∀ {p_d1 : DifferencesT} {a_a1 : NodeT} {a_b1 : NodeT} {a_path1 : List Txt} {r : DifferencesT}, G.impl_differences_visitLists n p_d1 a_a1 a_b1 a_path1 = some r → ACalls Go.Proofs.Tryz.prog 80 [.one (.ptr 0 0), .agg [.c (.lit (.int .i64 a_a1.Kind)), .c (.lit (.int .i64 a_a1.Num)), .c (.str a_a1.Text), .c (.sl 1 (List.map cS a_a1.Names)), .c (.sl 5 (List.map NodeT.cells a_a1.Kids))], .agg [.c (.lit (.int .i64 a_b1.Kind)), .c (.lit (.int .i64 a_b1.Num)), .c (.str a_b1.Text), .c (.sl 1 (List.map cS a_b1.Names)), .c (.sl 5 (List.map NodeT.cells a_b1.Kids))], .one (.c (.sl 1 (List.map cS a_path1)))] [.var [.own 1 p_d1.list.length 8], .dat 8 (List.map OpT.cells p_d1.list)] (fun r1 b1 => r1 = .tup [] ∧ b1 = [.var [.own 2 r.list.length 8], .dead, .dat 8 (List.map OpT.cells r.list)])) ∧ (∀ {p_d1 : DifferencesT} {a_a1 : NodeT} {a_b1 : NodeT} {a_path1 : List Txt} {r : DifferencesT}, G.impl_differences_visitMaps n p_d1 a_a1 a_b1 a_path1 = some r → ACalls Go.Proofs.Tryz.prog 79 [.one (.ptr 0 0), .agg [.c (.lit (.int .i64 a_a1.Kind)), .c (.lit (.int .i64 a_a1.Num)), .c (.str a_a1.Text), .c (.sl 1 (List.map cS a_a1.Names)), .c (.sl 5 (List.map NodeT.cells a_a1.Kids))], .agg [.c (.lit (.int .i64 a_b1.Kind)), .c (.lit (.int .i64 a_b1.Num)), .c (.str a_b1.Text), .c (.sl 1 (List.map cS a_b1.Names)), .c (.sl 5 (List.map NodeT.cells a_b1.Kids))], .one (.c (.sl 1 (List.map cS a_path1)))] [.var [.own 1 p_d1.list.length 8], .dat 8 (List.map OpT.cells p_d1.list)] (fun r1 b1 => r1 = .tup [] ∧ b1 = [.var [.own 2 r.list.length 8], .dead, .dat 8 (List.map OpT.cells r.list)])) := by
  intro n
  induction n using Nat.strongRecOn with | _ n ih =>
  refine ⟨?_, ?_, ?_⟩
  · intro p_d1 a_a1 a_b1 a_path1 r h
    refine fun_sound K.impl_differences_visit (ofK ?_)
    unfold C.impl_differences_visit
    rcases n with _ | n <;> simp only [G.impl_differences_visit, reduceCtorEq] at h
    obtain ⟨zc, zg, zk, zu, ze, zj, zt⟩ := pp (pp @F.impl_sameNode ()) <| pp (pp (pp (ihR (ihR ih)) (@cG [0, 1] [101])) <| pp (pp (ihL (ihR ih)) (@cG [0, 1] [102])) <| pp (pp (ihL (ihR ih)) (@cG [0, 1] [105])) <| pp (pp @F.impl_differences_put (@cG [0, 1] [103])) <| pp (pp @F.impl_differences_put (@cG [0, 1] [104])) <| pp (pp @F.impl_differences_put (@cG [0, 1] [106])) <| pp (pp @F.impl_differences_put (@cG [0, 1] [107])) ()) <| pp () <| pp () <| pp () <| pp () <| (pp (@retX [] [(0, 0), (1, 1), (2, 1)] []) <| pp (@retX [] [(0, 0), (1, 1), (2, 101)] []) <| pp (@retX [] [(0, 0), (1, 1), (2, 102)] []) <| pp (@retX [] [(0, 0), (1, 1), (2, 103)] []) <| pp (@retX [] [(0, 0), (1, 1), (2, 104)] []) <| pp (@retX [] [(0, 0), (1, 1), (2, 105)] []) <| pp (@retX [] [(0, 0), (1, 1), (2, 106)] []) <| pp (@retX [] [(0, 0), (1, 1), (2, 107)] []) ())
    exact drv
  · intro p_d1 a_a1 a_b1 a_path1 r h
    refine fun_sound K.impl_differences_visitLists (ofK ?_)
    unfold C.impl_differences_visitLists
    rcases n with _ | n <;> simp only [G.impl_differences_visitLists, reduceCtorEq] at h
    obtain ⟨zc, zg, zk, zu, ze, zj, zt⟩ := pp (pp @F.strconv_Itoa <| pp @F.impl_stepBehind ()) <| pp (pp (pp (ihL ih) (@cG [0, 110] [111])) <| pp (pp @F.impl_differences_put (@cH [0, 119] [120])) <| pp (pp @F.impl_differences_put (@cG [0, 128] [129])) ()) <| pp (pp (@lopX (Int × List OpT) _ (fun n x => G.impl_differences_visitLists.L1 n a_a1 a_b1 a_path1 x.1 x.2) r (fun x => ASt.of [(0, .v true (.one (.ptr 0 0))), (3, .v true (.one (.c (.sl 1 (List.map cS a_path1))))), (5, .v true (.one (.ptr 108 0))), (6, .v true (.one (.ptr 109 0))), (8, .v true (.one (.c (.lit (.int .i64 (if ((a_b1.Kids.length : Nat) : Int) < ((a_a1.Kids.length : Nat) : Int) then ((a_b1.Kids.length : Nat) : Int) else ((a_a1.Kids.length : Nat) : Int))))))), (19, .v true (.one (.c (.lit (.int .i64 (if ((a_b1.Kids.length : Nat) : Int) < ((a_a1.Kids.length : Nat) : Int) then ((a_b1.Kids.length : Nat) : Int) else ((a_a1.Kids.length : Nat) : Int))))))), (20, .v true (.one (.c (.lit (.int .i64 x.1)))))] [(0, .var [.own 110 x.2.length 8]), (1, .dead), (108, .var [.c (.lit (.int .i64 a_a1.Kind)), .c (.lit (.int .i64 a_a1.Num)), .c (.str a_a1.Text), .c (.sl 1 (List.map cS a_a1.Names)), .c (.sl 5 (List.map NodeT.cells a_a1.Kids))]), (109, .var [.c (.lit (.int .i64 a_b1.Kind)), .c (.lit (.int .i64 a_b1.Num)), .c (.str a_b1.Text), .c (.sl 1 (List.map cS a_b1.Names)), .c (.sl 5 (List.map NodeT.cells a_b1.Kids))]), (110, .dat 8 (List.map OpT.cells x.2))])) <| pp (@lopX (Int × List OpT) _ (fun n x => G.impl_differences_visitLists.L2 n a_a1 a_b1 a_path1 x.1 x.2) r (fun x => ASt.of [(0, .v true (.one (.ptr 0 0))), (3, .v true (.one (.c (.sl 1 (List.map cS a_path1))))), (6, .v true (.one (.ptr 118 0))), (8, .v true (.one (.c (.lit (.int .i64 (if ((a_b1.Kids.length : Nat) : Int) < ((a_a1.Kids.length : Nat) : Int) then ((a_b1.Kids.length : Nat) : Int) else ((a_a1.Kids.length : Nat) : Int))))))), (10, .v true (.one (.c (.lit (.int .i64 x.1)))))] [(0, .var [.own 119 x.2.length 8]), (1, .dead), (118, .var [.c (.lit (.int .i64 a_b1.Kind)), .c (.lit (.int .i64 a_b1.Num)), .c (.str a_b1.Text), .c (.sl 1 (List.map cS a_b1.Names)), .c (.sl 5 (List.map NodeT.cells a_b1.Kids))]), (119, .dat 8 (List.map OpT.cells x.2))])) <| pp (@lopX (Int × List OpT) _ (fun n x => G.impl_differences_visitLists.L3 n a_b1 a_path1 x.1 x.2) r (fun x => ASt.of [(0, .v true (.one (.ptr 0 0))), (3, .v true (.one (.c (.sl 1 (List.map cS a_path1))))), (6, .v true (.one (.ptr 127 0))), (11, .v true (.one (.c (.lit (.int .i64 x.1)))))] [(0, .var [.own 128 x.2.length 8]), (1, .dead), (127, .var [.c (.lit (.int .i64 a_b1.Kind)), .c (.lit (.int .i64 a_b1.Num)), .c (.str a_b1.Text), .c (.sl 1 (List.map cS a_b1.Names)), .c (.sl 5 (List.map NodeT.cells a_b1.Kids))]), (128, .dat 8 (List.map OpT.cells x.2))])) ()) <| pp () <| pp (pp (And.intro @G.impl_differences_visitLists.L1.eq_1 <| And.intro @G.impl_differences_visitLists.L1.eq_2 <| And.intro @G.impl_differences_visitLists.L2.eq_1 <| And.intro @G.impl_differences_visitLists.L2.eq_2 <| And.intro @G.impl_differences_visitLists.L3.eq_1 <| @G.impl_differences_visitLists.L3.eq_2) ()) <| pp (pp (@weakX [] [(0, 0), (1, 1), (108, 10), (109, 11), (110, 1)] []) <| pp (@weakX [] [(0, 0), (1, 1), (108, 108), (109, 109), (110, 111)] []) <| pp (@weakX [] [(0, 0), (1, 1), (118, 109), (119, 110)] []) <| pp (@weakX [] [(0, 0), (1, 1), (118, 118), (119, 120)] []) <| pp (@weakX [] [(0, 0), (1, 1), (127, 118), (128, 119)] []) <| pp (@weakX [] [(0, 0), (1, 1), (127, 127), (128, 129)] []) ()) <| (pp (@retX [] [(0, 0), (1, 1), (2, 128)] []) ())
    exact drv
  · intro p_d1 a_a1 a_b1 a_path1 r h
    refine fun_sound K.impl_differences_visitMaps (ofK ?_)
    unfold C.impl_differences_visitMaps
    rcases n with _ | n <;> simp only [G.impl_differences_visitMaps, reduceCtorEq] at h
    obtain ⟨zc, zg, zk, zu, ze, zj, zt⟩ := pp (pp @F.slices_BinarySearch_string <| pp @F.impl_stepBehind ()) <| pp (pp (pp (ihL ih) (@cG [0, 112] [113])) <| pp (pp @F.impl_differences_put (@cH [0, 112] [114])) <| pp (pp @F.impl_differences_put (@cG [0, 125] [126])) ()) <| pp (pp (@lopX (Int × List OpT) _ (fun n x => G.impl_differences_visitMaps.L1 n a_a1 a_b1 a_path1 x.1 x.2) r (fun x => ASt.of [(0, .v true (.one (.ptr 0 0))), (3, .v true (.one (.c (.sl 1 (List.map cS a_path1))))), (5, .v true (.one (.ptr 110 0))), (6, .v true (.one (.ptr 111 0))), (17, .v true (.one (.c (.sl 1 (List.map cS a_a1.Names))))), (18, .v true (.one (.c (.lit (.int .i64 ((a_a1.Names.length : Nat) : Int)))))), (19, .v true (.one (.c (.lit (.int .i64 x.1)))))] [(0, .var [.own 112 x.2.length 8]), (1, .dead), (110, .var [.c (.lit (.int .i64 a_a1.Kind)), .c (.lit (.int .i64 a_a1.Num)), .c (.str a_a1.Text), .c (.sl 1 (List.map cS a_a1.Names)), .c (.sl 5 (List.map NodeT.cells a_a1.Kids))]), (111, .var [.c (.lit (.int .i64 a_b1.Kind)), .c (.lit (.int .i64 a_b1.Num)), .c (.str a_b1.Text), .c (.sl 1 (List.map cS a_b1.Names)), .c (.sl 5 (List.map NodeT.cells a_b1.Kids))]), (112, .dat 8 (List.map OpT.cells x.2))])) <| pp (@lopX (Int × List OpT) _ (fun n x => G.impl_differences_visitMaps.L2 n a_a1 a_b1 a_path1 x.1 x.2) r (fun x => ASt.of [(0, .v true (.one (.ptr 0 0))), (3, .v true (.one (.c (.sl 1 (List.map cS a_path1))))), (5, .v true (.one (.ptr 123 0))), (6, .v true (.one (.ptr 124 0))), (55, .v true (.one (.c (.sl 1 (List.map cS a_b1.Names))))), (56, .v true (.one (.c (.lit (.int .i64 ((a_b1.Names.length : Nat) : Int)))))), (57, .v true (.one (.c (.lit (.int .i64 x.1)))))] [(0, .var [.own 125 x.2.length 8]), (1, .dead), (123, .var [.c (.lit (.int .i64 a_a1.Kind)), .c (.lit (.int .i64 a_a1.Num)), .c (.str a_a1.Text), .c (.sl 1 (List.map cS a_a1.Names)), .c (.sl 5 (List.map NodeT.cells a_a1.Kids))]), (124, .var [.c (.lit (.int .i64 a_b1.Kind)), .c (.lit (.int .i64 a_b1.Num)), .c (.str a_b1.Text), .c (.sl 1 (List.map cS a_b1.Names)), .c (.sl 5 (List.map NodeT.cells a_b1.Kids))]), (125, .dat 8 (List.map OpT.cells x.2))])) ()) <| pp () <| pp (pp (And.intro @G.impl_differences_visitMaps.L1.eq_1 <| And.intro @G.impl_differences_visitMaps.L1.eq_2 <| And.intro @G.impl_differences_visitMaps.L2.eq_1 <| @G.impl_differences_visitMaps.L2.eq_2) ()) <| pp (pp (@weakX [] [(0, 0), (1, 1), (110, 10), (111, 11), (112, 1)] []) <| pp (@weakX [] [(0, 0), (1, 1), (110, 110), (111, 111), (112, 113)] []) <| pp (@weakX [] [(0, 0), (1, 1), (110, 110), (111, 111), (112, 114)] []) <| pp (@weakX [] [(0, 0), (1, 1), (123, 110), (124, 111), (125, 112)] []) <| pp (@weakX [] [(0, 0), (1, 1), (123, 123), (124, 124), (125, 125)] []) <| pp (@weakX [] [(0, 0), (1, 1), (123, 123), (124, 124), (125, 126)] []) ()) <| (pp (@retX [] [(0, 0), (1, 1), (2, 125)] []) ())
    exact drv
theorem F.impl_differences_visit {n : Nat} : ∀ {p_d1 : DifferencesT} {a_a1 : NodeT} {a_b1 : NodeT} {a_path1 : List Txt} {r : DifferencesT}, G.impl_differences_visit n p_d1 a_a1 a_b1 a_path1 = some r → ACalls Go.Proofs.Tryz.prog 39 [.one (.ptr 0 0), .agg [.c (.lit (.int .i64 a_a1.Kind)), .c (.lit (.int .i64 a_a1.Num)), .c (.str a_a1.Text), .c (.sl 1 (List.map cS a_a1.Names)), .c (.sl 5 (List.map NodeT.cells a_a1.Kids))], .agg [.c (.lit (.int .i64 a_b1.Kind)), .c (.lit (.int .i64 a_b1.Num)), .c (.str a_b1.Text), .c (.sl 1 (List.map cS a_b1.Names)), .c (.sl 5 (List.map NodeT.cells a_b1.Kids))], .one (.c (.sl 1 (List.map cS a_path1)))] [.var [.own 1 p_d1.list.length 8], .dat 8 (List.map OpT.cells p_d1.list)] (fun r1 b1 => r1 = .tup [] ∧ b1 = [.var [.own 2 r.list.length 8], .dead, .dat 8 (List.map OpT.cells r.list)]) := (F.scc_impl_differences_visit n).1
theorem F.impl_DiffNodes {n : Nat} : ∀ {a_a1 : NodeT} {a_b1 : NodeT} {r : List OpT × Bool}, G.impl_DiffNodes n a_a1 a_b1 = some r → APure Go.Proofs.Tryz.prog 15 [.agg [.c (.lit (.int .i64 a_a1.Kind)), .c (.lit (.int .i64 a_a1.Num)), .c (.str a_a1.Text), .c (.sl 1 (List.map cS a_a1.Names)), .c (.sl 5 (List.map NodeT.cells a_a1.Kids))], .agg [.c (.lit (.int .i64 a_b1.Kind)), .c (.lit (.int .i64 a_b1.Num)), .c (.str a_b1.Text), .c (.sl 1 (List.map cS a_b1.Names)), .c (.sl 5 (List.map NodeT.cells a_b1.Kids))]] (.tup [(false, [.c (.sl 8 (List.map OpT.cells r.1))]), (false, [.c (.lit (.bool r.2))])]) := by
  intro a_a1 a_b1 r h
  refine fun_pure K.impl_DiffNodes (ofK ?_)
  unfold C.impl_DiffNodes
  rcases n with _ | n <;> simp only [G.impl_DiffNodes, reduceCtorEq] at h
  obtain ⟨zc, zg, zk, zu, ze, zj, zt⟩ := pp (pp @F.impl_ValidNode <| pp @F.impl_ApplyPatch ()) <| pp (pp (pp @F.impl_differences_visit (@cH [103, 104] [105])) ()) <| pp () <| pp (pp (@cutX (Unit) _ (fun n x => G.impl_DiffNodes.K1 n a_a1 a_b1) r (fun x => ASt.of [(2, .v true (.one (.ptr 101 0))), (3, .v true (.one (.ptr 102 0))), (6, .v true (.one (.ptr 103 0)))] [(101, .var [.c (.lit (.int .i64 a_a1.Kind)), .c (.lit (.int .i64 a_a1.Num)), .c (.str a_a1.Text), .c (.sl 1 (List.map cS a_a1.Names)), .c (.sl 5 (List.map NodeT.cells a_a1.Kids))]), (102, .var [.c (.lit (.int .i64 a_b1.Kind)), .c (.lit (.int .i64 a_b1.Num)), .c (.str a_b1.Text), .c (.sl 1 (List.map cS a_b1.Names)), .c (.sl 5 (List.map NodeT.cells a_b1.Kids))]), (103, .var [.own 104 0 8]), (104, .dat 8 (List.map OpT.cells []))])) ()) <| pp (pp (And.intro @G.impl_DiffNodes.K1.eq_1 <| @G.impl_DiffNodes.K1.eq_2) ()) <| pp (pp (@weakX [] [(101, 10), (102, 11), (103, 12)] [104]) ()) <| ()
  exact drv
theorem F.impl_isPlainValid_n : ∀ (n : Nat), ∀ {a_n1 : NodeT} {r : Bool}, G.impl_isPlainValid n a_n1 = some r → APure Go.Proofs.Tryz.prog 93 [.agg [.c (.lit (.int .i64 a_n1.Kind)), .c (.lit (.int .i64 a_n1.Num)), .c (.str a_n1.Text), .c (.sl 1 (List.map cS a_n1.Names)), .c (.sl 5 (List.map NodeT.cells a_n1.Kids))]] (.one (.c (.lit (.bool r)))) := by
  intro n
  induction n using Nat.strongRecOn with | _ n ih =>
  intro a_n1 r h
  refine fun_pure K.impl_isPlainValid (ofK ?_)
  unfold C.impl_isPlainValid
  rcases n with _ | n <;> simp only [G.impl_isPlainValid, reduceCtorEq] at h
  obtain ⟨zc, zg, zk, zu, ze, zj, zt⟩ := pp (pp ih ()) <| pp () <| pp (pp (@lopX (Int) _ (fun n x => G.impl_isPlainValid.L1 n a_n1 x) r (fun x => ASt.of [(9, .v true (.one (.c (.sl 5 (List.map NodeT.cells a_n1.Kids))))), (10, .v true (.one (.c (.lit (.int .i64 ((a_n1.Kids.length : Nat) : Int)))))), (11, .v true (.one (.c (.lit (.int .i64 x)))))] [])) ()) <| pp () <| pp (pp (And.intro @G.impl_isPlainValid.L1.eq_1 <| @G.impl_isPlainValid.L1.eq_2) ()) <| pp (pp (@weakX [] [] []) ()) <| ()
  exact drv
theorem F.impl_isPlainValid {n : Nat} : ∀ {a_n1 : NodeT} {r : Bool}, G.impl_isPlainValid n a_n1 = some r → APure Go.Proofs.Tryz.prog 93 [.agg [.c (.lit (.int .i64 a_n1.Kind)), .c (.lit (.int .i64 a_n1.Num)), .c (.str a_n1.Text), .c (.sl 1 (List.map cS a_n1.Names)), .c (.sl 5 (List.map NodeT.cells a_n1.Kids))]] (.one (.c (.lit (.bool r)))) := F.impl_isPlainValid_n n
theorem F.impl_IsPlain {n : Nat} : ∀ {a_n1 : NodeT} {r : Bool}, G.impl_IsPlain n a_n1 = some r → APure Go.Proofs.Tryz.prog 45 [.agg [.c (.lit (.int .i64 a_n1.Kind)), .c (.lit (.int .i64 a_n1.Num)), .c (.str a_n1.Text), .c (.sl 1 (List.map cS a_n1.Names)), .c (.sl 5 (List.map NodeT.cells a_n1.Kids))]] (.one (.c (.lit (.bool r)))) := by
  intro a_n1 r h
  refine fun_pure K.impl_IsPlain (ofK ?_)
  unfold C.impl_IsPlain
  rcases n with _ | n <;> simp only [G.impl_IsPlain, reduceCtorEq] at h
  obtain ⟨zc, zg, zk, zu, ze, zj, zt⟩ := pp (pp @F.impl_ValidNode <| pp @F.impl_isPlainValid ()) <| pp () <| pp () <| pp () <| pp () <| pp () <| ()
  exact drv
theorem F.impl_patchBetween_n : ∀ (n : Nat), ∀ {a_a1 : NodeT} {a_b1 : NodeT} {r : NodeT}, G.impl_patchBetween n a_a1 a_b1 = some r → APure Go.Proofs.Tryz.prog 47 [.agg [.c (.lit (.int .i64 a_a1.Kind)), .c (.lit (.int .i64 a_a1.Num)), .c (.str a_a1.Text), .c (.sl 1 (List.map cS a_a1.Names)), .c (.sl 5 (List.map NodeT.cells a_a1.Kids))], .agg [.c (.lit (.int .i64 a_b1.Kind)), .c (.lit (.int .i64 a_b1.Num)), .c (.str a_b1.Text), .c (.sl 1 (List.map cS a_b1.Names)), .c (.sl 5 (List.map NodeT.cells a_b1.Kids))]] (.agg [.c (.lit (.int .i64 r.Kind)), .c (.lit (.int .i64 r.Num)), .c (.str r.Text), .c (.sl 1 (List.map cS r.Names)), .c (.sl 5 (List.map NodeT.cells r.Kids))]) := by
  intro n
  induction n using Nat.strongRecOn with | _ n ih =>
  intro a_a1 a_b1 r h
  refine fun_pure K.impl_patchBetween (ofK ?_)
  unfold C.impl_patchBetween
  rcases n with _ | n <;> simp only [G.impl_patchBetween, reduceCtorEq] at h
  obtain ⟨zc, zg, zk, zu, ze, zj, zt⟩ := pp (pp ih <| pp @F.impl_copyNode <| pp @F.slices_BinarySearch_string <| pp @F.impl_sameNode ()) <| pp (pp (pp @F.impl_putName (@cG [126, 127, 128] [129, 130])) <| pp (pp @F.impl_putName (@cH [126, 127, 128] [131, 132])) <| pp (pp @F.impl_putName (@cG [152, 153, 154] [155, 156])) ()) <| pp (pp (@lopX (Int × Int × Int × Txt × List Txt × List NodeT) _ (fun n x => G.impl_patchBetween.L1 n a_a1 a_b1 x.1 x.2.1 x.2.2.1 x.2.2.2.1 x.2.2.2.2.1 x.2.2.2.2.2) r (fun x => ASt.of [(2, .v true (.one (.ptr 123 0))), (3, .v true (.one (.ptr 124 0))), (4, .v true (.one (.ptr 125 0))), (5, .v true (.one (.ptr 126 0))), (26, .v true (.one (.c (.sl 1 (List.map cS a_a1.Names))))), (27, .v true (.one (.c (.lit (.int .i64 ((a_a1.Names.length : Nat) : Int)))))), (28, .v true (.one (.c (.lit (.int .i64 x.1)))))] [(123, .var [.c (.lit (.int .i64 a_a1.Kind)), .c (.lit (.int .i64 a_a1.Num)), .c (.str a_a1.Text), .c (.sl 1 (List.map cS a_a1.Names)), .c (.sl 5 (List.map NodeT.cells a_a1.Kids))]), (124, .var [.c (.lit (.int .i64 a_b1.Kind)), .c (.lit (.int .i64 a_b1.Num)), .c (.str a_b1.Text), .c (.sl 1 (List.map cS a_b1.Names)), .c (.sl 5 (List.map NodeT.cells a_b1.Kids))]), (125, .var [.c (.lit (.int .i64 0)), .c (.lit (.int .i64 0)), .c (.str []), .nsl 1, .nsl 5]), (126, .var [.c (.lit (.int .i64 x.2.1)), .c (.lit (.int .i64 x.2.2.1)), .c (.str x.2.2.2.1), .own 127 x.2.2.2.2.1.length 1, .own 128 x.2.2.2.2.2.length 5]), (127, .dat 1 (List.map cS x.2.2.2.2.1)), (128, .dat 5 (List.map NodeT.cells x.2.2.2.2.2))])) <| pp (@lopX (Int × Int × Int × Txt × List Txt × List NodeT) _ (fun n x => G.impl_patchBetween.L2 n a_a1 a_b1 x.1 x.2.1 x.2.2.1 x.2.2.2.1 x.2.2.2.2.1 x.2.2.2.2.2) r (fun x => ASt.of [(2, .v true (.one (.ptr 149 0))), (3, .v true (.one (.ptr 150 0))), (4, .v true (.one (.ptr 151 0))), (5, .v true (.one (.ptr 152 0))), (74, .v true (.one (.c (.sl 1 (List.map cS a_b1.Names))))), (75, .v true (.one (.c (.lit (.int .i64 ((a_b1.Names.length : Nat) : Int)))))), (76, .v true (.one (.c (.lit (.int .i64 x.1)))))] [(149, .var [.c (.lit (.int .i64 a_a1.Kind)), .c (.lit (.int .i64 a_a1.Num)), .c (.str a_a1.Text), .c (.sl 1 (List.map cS a_a1.Names)), .c (.sl 5 (List.map NodeT.cells a_a1.Kids))]), (150, .var [.c (.lit (.int .i64 a_b1.Kind)), .c (.lit (.int .i64 a_b1.Num)), .c (.str a_b1.Text), .c (.sl 1 (List.map cS a_b1.Names)), .c (.sl 5 (List.map NodeT.cells a_b1.Kids))]), (151, .var [.c (.lit (.int .i64 0)), .c (.lit (.int .i64 0)), .c (.str []), .nsl 1, .nsl 5]), (152, .var [.c (.lit (.int .i64 x.2.1)), .c (.lit (.int .i64 x.2.2.1)), .c (.str x.2.2.2.1), .own 153 x.2.2.2.2.1.length 1, .own 154 x.2.2.2.2.2.length 5]), (153, .dat 1 (List.map cS x.2.2.2.2.1)), (154, .dat 5 (List.map NodeT.cells x.2.2.2.2.2))])) ()) <| pp () <| pp (pp (And.intro @G.impl_patchBetween.L1.eq_1 <| And.intro @G.impl_patchBetween.L1.eq_2 <| And.intro @G.impl_patchBetween.L2.eq_1 <| @G.impl_patchBetween.L2.eq_2) ()) <| pp (pp (@weakX [] [(123, 10), (124, 11), (125, 12), (126, 13)] [127, 128]) <| pp (@weakX [] [(123, 123), (124, 124), (125, 125), (126, 126), (127, 127), (128, 128)] []) <| pp (@weakX [] [(123, 123), (124, 124), (125, 125), (126, 126), (127, 129), (128, 130)] []) <| pp (@weakX [] [(123, 123), (124, 124), (125, 125), (126, 126), (127, 131), (128, 132)] []) <| pp (@weakX [] [(149, 123), (150, 124), (151, 125), (152, 126), (153, 127), (154, 128)] []) <| pp (@weakX [] [(149, 149), (150, 150), (151, 151), (152, 152), (153, 153), (154, 154)] []) <| pp (@weakX [] [(149, 149), (150, 150), (151, 151), (152, 152), (153, 155), (154, 156)] []) ()) <| ()
  exact drv
theorem F.impl_patchBetween {n : Nat} : ∀ {a_a1 : NodeT} {a_b1 : NodeT} {r : NodeT}, G.impl_patchBetween n a_a1 a_b1 = some r → APure Go.Proofs.Tryz.prog 47 [.agg [.c (.lit (.int .i64 a_a1.Kind)), .c (.lit (.int .i64 a_a1.Num)), .c (.str a_a1.Text), .c (.sl 1 (List.map cS a_a1.Names)), .c (.sl 5 (List.map NodeT.cells a_a1.Kids))], .agg [.c (.lit (.int .i64 a_b1.Kind)), .c (.lit (.int .i64 a_b1.Num)), .c (.str a_b1.Text), .c (.sl 1 (List.map cS a_b1.Names)), .c (.sl 5 (List.map NodeT.cells a_b1.Kids))]] (.agg [.c (.lit (.int .i64 r.Kind)), .c (.lit (.int .i64 r.Num)), .c (.str r.Text), .c (.sl 1 (List.map cS r.Names)), .c (.sl 5 (List.map NodeT.cells r.Kids))]) := F.impl_patchBetween_n n
theorem F.impl_MergeFor {n : Nat} : ∀ {a_a1 : NodeT} {a_b1 : NodeT} {r : NodeT × Bool}, G.impl_MergeFor n a_a1 a_b1 = some r → APure Go.Proofs.Tryz.prog 18 [.agg [.c (.lit (.int .i64 a_a1.Kind)), .c (.lit (.int .i64 a_a1.Num)), .c (.str a_a1.Text), .c (.sl 1 (List.map cS a_a1.Names)), .c (.sl 5 (List.map NodeT.cells a_a1.Kids))], .agg [.c (.lit (.int .i64 a_b1.Kind)), .c (.lit (.int .i64 a_b1.Num)), .c (.str a_b1.Text), .c (.sl 1 (List.map cS a_b1.Names)), .c (.sl 5 (List.map NodeT.cells a_b1.Kids))]] (.tup [(true, [.c (.lit (.int .i64 r.1.Kind)), .c (.lit (.int .i64 r.1.Num)), .c (.str r.1.Text), .c (.sl 1 (List.map cS r.1.Names)), .c (.sl 5 (List.map NodeT.cells r.1.Kids))]), (false, [.c (.lit (.bool r.2))])]) := by
  intro a_a1 a_b1 r h
  refine fun_pure K.impl_MergeFor (ofK ?_)
  unfold C.impl_MergeFor
  rcases n with _ | n <;> simp only [G.impl_MergeFor, reduceCtorEq] at h
  obtain ⟨zc, zg, zk, zu, ze, zj, zt⟩ := pp (pp @F.impl_ValidNode <| pp @F.impl_IsPlain <| pp @F.impl_patchBetween <| pp @F.impl_checked ()) <| pp () <| pp () <| pp () <| pp () <| pp () <| ()
  exact drv
theorem F.impl_dropName {n : Nat} : ∀ {p_n1 : NodeT} {a_name1 : Txt} {r : NodeT}, G.impl_dropName n p_n1 a_name1 = some r → ACalls Go.Proofs.Tryz.prog 96 [.one (.ptr 0 0), .one (.c (.str a_name1))] [.var [.c (.lit (.int .i64 p_n1.Kind)), .c (.lit (.int .i64 p_n1.Num)), .c (.str p_n1.Text), .own 1 p_n1.Names.length 1, .own 2 p_n1.Kids.length 5], .dat 1 (List.map cS p_n1.Names), .dat 5 (List.map NodeT.cells p_n1.Kids)] (fun r1 b1 => r1 = .tup [] ∧ b1 = [.var [.c (.lit (.int .i64 r.Kind)), .c (.lit (.int .i64 r.Num)), .c (.str r.Text), .own 3 r.Names.length 1, .own 4 r.Kids.length 5], .dead, .dead, .dat 1 (List.map cS r.Names), .dat 5 (List.map NodeT.cells r.Kids)]) := by
  intro p_n1 a_name1 r h
  refine fun_sound K.impl_dropName (ofK ?_)
  unfold C.impl_dropName
  rcases n with _ | n <;> simp only [G.impl_dropName, reduceCtorEq] at h
  obtain ⟨zc, zg, zk, zu, ze, zj, zt⟩ := pp (pp @F.slices_BinarySearch_string ()) <| pp (pp (pp @F.slices_Delete_string (@cG [1] [101])) <| pp (pp @F.slices_Delete_impl_Node (@cG [2] [102])) ()) <| pp () <| pp () <| pp () <| pp () <| (pp (@retX [] [(0, 0), (1, 1), (2, 2), (3, 101), (4, 102)] []) <| pp (@retX [] [(0, 0), (1, 1), (2, 2), (3, 1), (4, 2)] []) ())
  exact drv
theorem F.impl_mergeValid_n : ∀ (n : Nat), ∀ {a_n1 : NodeT} {a_patch1 : NodeT} {r : NodeT}, G.impl_mergeValid n a_n1 a_patch1 = some r → APure Go.Proofs.Tryz.prog 51 [.agg [.c (.lit (.int .i64 a_n1.Kind)), .c (.lit (.int .i64 a_n1.Num)), .c (.str a_n1.Text), .c (.sl 1 (List.map cS a_n1.Names)), .c (.sl 5 (List.map NodeT.cells a_n1.Kids))], .agg [.c (.lit (.int .i64 a_patch1.Kind)), .c (.lit (.int .i64 a_patch1.Num)), .c (.str a_patch1.Text), .c (.sl 1 (List.map cS a_patch1.Names)), .c (.sl 5 (List.map NodeT.cells a_patch1.Kids))]] (.agg [.c (.lit (.int .i64 r.Kind)), .c (.lit (.int .i64 r.Num)), .c (.str r.Text), .c (.sl 1 (List.map cS r.Names)), .c (.sl 5 (List.map NodeT.cells r.Kids))]) := by
  intro n
  induction n using Nat.strongRecOn with | _ n ih =>
  intro a_n1 a_patch1 r h
  refine fun_pure K.impl_mergeValid (ofK ?_)
  unfold C.impl_mergeValid
  rcases n with _ | n <;> simp only [G.impl_mergeValid, reduceCtorEq] at h
  have := Mk.mk 1; have := Mk.mk 2
  obtain ⟨zc, zg, zk, zu, ze, zj, zt, zq⟩ := pp (pp ih <| pp @F.slices_BinarySearch_string ()) <| pp (pp (pp @F.impl_copyNode_o (@cG [] [101, 102])) <| pp (pp @F.impl_copyNode_o (@cG [] [155, 156])) <| pp (pp @F.impl_dropName (@cG [142, 143, 144] [145, 146])) <| pp (pp @F.impl_putName (@cG [149, 151, 152] [153, 154])) ()) <| pp (pp (@lopX (Int × Int × Int × Txt × List Txt × List NodeT) _ (fun n x => G.impl_mergeValid.L4 n a_patch1 x.1 x.2.1 x.2.2.1 x.2.2.2.1 x.2.2.2.2.1 x.2.2.2.2.2) r (fun x => ASt.of [(3, .v true (.one (.ptr 140 0))), (4, .v true (.one (.ptr 141 0))), (5, .v true (.one (.ptr 142 0))), (23, .v true (.one (.c (.sl 1 (List.map cS a_patch1.Names))))), (24, .v true (.one (.c (.lit (.int .i64 ((a_patch1.Names.length : Nat) : Int)))))), (25, .v true (.one (.c (.lit (.int .i64 x.1)))))] [(140, .var [.c (.lit (.int .i64 a_patch1.Kind)), .c (.lit (.int .i64 a_patch1.Num)), .c (.str a_patch1.Text), .c (.sl 1 (List.map cS a_patch1.Names)), .c (.sl 5 (List.map NodeT.cells a_patch1.Kids))]), (141, .var [.c (.lit (.int .i64 0)), .c (.lit (.int .i64 0)), .c (.str []), .nsl 1, .nsl 5]), (142, .var [.c (.lit (.int .i64 x.2.1)), .c (.lit (.int .i64 x.2.2.1)), .c (.str x.2.2.2.1), .own 143 x.2.2.2.2.1.length 1, .own 144 x.2.2.2.2.2.length 5]), (143, .dat 1 (List.map cS x.2.2.2.2.1)), (144, .dat 5 (List.map NodeT.cells x.2.2.2.2.2))])) ()) <| pp (pp (@cutX (Int × Int × Txt × List Txt × List NodeT) _ (fun n x => G.impl_mergeValid.K1 n a_patch1 x.1 x.2.1 x.2.2.1 x.2.2.2.1 x.2.2.2.2) r (fun x => ASt.of [(3, .v true (.one (.ptr 105 0))), (4, .v true (.one (.ptr 106 0))), (5, .v true (.one (.ptr 107 0)))] [(105, .var [.c (.lit (.int .i64 a_patch1.Kind)), .c (.lit (.int .i64 a_patch1.Num)), .c (.str a_patch1.Text), .c (.sl 1 (List.map cS a_patch1.Names)), .c (.sl 5 (List.map NodeT.cells a_patch1.Kids))]), (106, .var [.c (.lit (.int .i64 0)), .c (.lit (.int .i64 0)), .c (.str []), .nsl 1, .nsl 5]), (107, .var [.c (.lit (.int .i64 x.1)), .c (.lit (.int .i64 x.2.1)), .c (.str x.2.2.1), .own 108 x.2.2.2.1.length 1, .own 109 x.2.2.2.2.length 5]), (108, .dat 1 (List.map cS x.2.2.2.1)), (109, .dat 5 (List.map NodeT.cells x.2.2.2.2))])) <| pp (@cutX (Int × Int × Int × Txt × List Txt × List NodeT × Int × Int × Txt × List Txt × List NodeT) _ (fun n x => G.impl_mergeValid.K5 n a_patch1 x.1 x.2.1 x.2.2.1 x.2.2.2.1 x.2.2.2.2.1 x.2.2.2.2.2.1 x.2.2.2.2.2.2.1 x.2.2.2.2.2.2.2.1 x.2.2.2.2.2.2.2.2.1 x.2.2.2.2.2.2.2.2.2.1 x.2.2.2.2.2.2.2.2.2.2) r (fun x => ASt.of [(3, .v true (.one (.ptr 147 0))), (4, .v true (.one (.ptr 148 0))), (5, .v true (.one (.ptr 149 0))), (6, .v true (.one (.c (.lit (.int .i64 x.1))))), (7, .v true (.one (.c (.str (a_patch1.Names.getD x.1.toNat default))))), (8, .v true (.one (.ptr 150 0))), (23, .v true (.one (.c (.sl 1 (List.map cS a_patch1.Names))))), (24, .v true (.one (.c (.lit (.int .i64 ((a_patch1.Names.length : Nat) : Int)))))), (25, .v true (.one (.c (.lit (.int .i64 x.1)))))] [(147, .var [.c (.lit (.int .i64 a_patch1.Kind)), .c (.lit (.int .i64 a_patch1.Num)), .c (.str a_patch1.Text), .c (.sl 1 (List.map cS a_patch1.Names)), .c (.sl 5 (List.map NodeT.cells a_patch1.Kids))]), (148, .var [.c (.lit (.int .i64 0)), .c (.lit (.int .i64 0)), .c (.str []), .nsl 1, .nsl 5]), (149, .var [.c (.lit (.int .i64 x.2.1)), .c (.lit (.int .i64 x.2.2.1)), .c (.str x.2.2.2.1), .own 151 x.2.2.2.2.1.length 1, .own 152 x.2.2.2.2.2.1.length 5]), (150, .var [.c (.lit (.int .i64 x.2.2.2.2.2.2.1)), .c (.lit (.int .i64 x.2.2.2.2.2.2.2.1)), .c (.str x.2.2.2.2.2.2.2.2.1), .c (.sl 1 (List.map cS x.2.2.2.2.2.2.2.2.2.1)), .c (.sl 5 (List.map NodeT.cells x.2.2.2.2.2.2.2.2.2.2))]), (151, .dat 1 (List.map cS x.2.2.2.2.1)), (152, .dat 5 (List.map NodeT.cells x.2.2.2.2.2.1))])) ()) <| pp (pp (And.intro @G.impl_mergeValid.K1.eq_1 <| And.intro @G.impl_mergeValid.K1.eq_2 <| And.intro @G.impl_mergeValid.L4.eq_1 <| And.intro @G.impl_mergeValid.L4.eq_2 <| And.intro @G.impl_mergeValid.K5.eq_1 <| @G.impl_mergeValid.K5.eq_2) ()) <| pp (pp (@weakX [] [(105, 11), (106, 12), (107, 13), (108, 155), (109, 156)] []) <| pp (@weakX [] [(105, 11), (106, 12), (107, 13)] [108, 109]) <| pp (@weakX [] [(140, 105), (141, 106), (142, 107), (143, 108), (144, 109)] []) <| pp (@weakX [] [(140, 140), (141, 141), (142, 142), (143, 145), (144, 146)] []) <| pp (@weakX [] [(147, 140), (148, 141), (149, 142), (150, 14), (151, 143), (152, 144)] []) <| pp (@weakX [] [(140, 147), (141, 148), (142, 149), (143, 153), (144, 154)] []) <| pp (@weakX [] [(105, 11), (106, 12), (107, 13), (108, 101), (109, 102)] []) ()) <| pp () <| (pp (pp (rfl : @G.impl_mergeValid.K1 = _) ()) <| pp (pp (rfl : @G.impl_mergeValid.K5 = _) <| pp (rfl : @G.impl_mergeValid.L4 = _) <| pp (rfl : @G.impl_mergeValid.K1 = _) ()) ())
  exact drvM
theorem F.impl_mergeValid {n : Nat} : ∀ {a_n1 : NodeT} {a_patch1 : NodeT} {r : NodeT}, G.impl_mergeValid n a_n1 a_patch1 = some r → APure Go.Proofs.Tryz.prog 51 [.agg [.c (.lit (.int .i64 a_n1.Kind)), .c (.lit (.int .i64 a_n1.Num)), .c (.str a_n1.Text), .c (.sl 1 (List.map cS a_n1.Names)), .c (.sl 5 (List.map NodeT.cells a_n1.Kids))], .agg [.c (.lit (.int .i64 a_patch1.Kind)), .c (.lit (.int .i64 a_patch1.Num)), .c (.str a_patch1.Text), .c (.sl 1 (List.map cS a_patch1.Names)), .c (.sl 5 (List.map NodeT.cells a_patch1.Kids))]] (.agg [.c (.lit (.int .i64 r.Kind)), .c (.lit (.int .i64 r.Num)), .c (.str r.Text), .c (.sl 1 (List.map cS r.Names)), .c (.sl 5 (List.map NodeT.cells r.Kids))]) := F.impl_mergeValid_n n
theorem F.impl_MergeNode {n : Nat} : ∀ {a_n1 : NodeT} {a_patch1 : NodeT} {r : NodeT × Bool}, G.impl_MergeNode n a_n1 a_patch1 = some r → APure Go.Proofs.Tryz.prog 20 [.agg [.c (.lit (.int .i64 a_n1.Kind)), .c (.lit (.int .i64 a_n1.Num)), .c (.str a_n1.Text), .c (.sl 1 (List.map cS a_n1.Names)), .c (.sl 5 (List.map NodeT.cells a_n1.Kids))], .agg [.c (.lit (.int .i64 a_patch1.Kind)), .c (.lit (.int .i64 a_patch1.Num)), .c (.str a_patch1.Text), .c (.sl 1 (List.map cS a_patch1.Names)), .c (.sl 5 (List.map NodeT.cells a_patch1.Kids))]] (.tup [(true, [.c (.lit (.int .i64 r.1.Kind)), .c (.lit (.int .i64 r.1.Num)), .c (.str r.1.Text), .c (.sl 1 (List.map cS r.1.Names)), .c (.sl 5 (List.map NodeT.cells r.1.Kids))]), (false, [.c (.lit (.bool r.2))])]) := by
  intro a_n1 a_patch1 r h
  refine fun_pure K.impl_MergeNode (ofK ?_)
  unfold C.impl_MergeNode
  rcases n with _ | n <;> simp only [G.impl_MergeNode, reduceCtorEq] at h
  obtain ⟨zc, zg, zk, zu, ze, zj, zt⟩ := pp (pp @F.impl_ValidNode <| pp @F.impl_mergeValid <| pp @F.impl_checked ()) <| pp () <| pp () <| pp () <| pp () <| pp () <| ()
  exact drv
theorem F.laws_equalTexts {n : Nat} : ∀ {a_a1 : List Txt} {a_b1 : List Txt} {r : Bool}, G.laws_equalTexts n a_a1 a_b1 = some r → APure Go.Proofs.Tryz.prog 31 [.one (.c (.sl 1 (List.map cS a_a1))), .one (.c (.sl 1 (List.map cS a_b1)))] (.one (.c (.lit (.bool r)))) := by
  intro a_a1 a_b1 r h
  refine fun_pure K.laws_equalTexts (ofK ?_)
  unfold C.laws_equalTexts
  rcases n with _ | n <;> simp only [G.laws_equalTexts, reduceCtorEq] at h
  obtain ⟨zc, zg, zk, zu, ze, zj, zt⟩ := pp () <| pp () <| pp (pp (@lopX (Int) _ (fun n x => G.laws_equalTexts.L1 n a_a1 a_b1 x) r (fun x => ASt.of [(0, .v true (.one (.c (.sl 1 (List.map cS a_a1))))), (1, .v true (.one (.c (.sl 1 (List.map cS a_b1))))), (5, .v true (.one (.c (.lit (.int .i64 x)))))] [])) ()) <| pp () <| pp (pp (And.intro @G.laws_equalTexts.L1.eq_1 <| @G.laws_equalTexts.L1.eq_2) ()) <| pp (pp (@weakX [] [] []) ()) <| ()
  exact drv
theorem F.scc_laws_equalNode : ∀ (n : Nat), (∀ {a_a1 : NodeT} {a_b1 : NodeT} {r : Bool}, G.laws_equalNode n a_a1 a_b1 = some r → APure Go.Proofs.Tryz.prog 16 [.agg [.c (.lit (.int .i64 a_a1.Kind)), .c (.lit (.int .i64 a_a1.Num)), .c (.str a_a1.Text), .c (.sl 1 (List.map cS a_a1.Names)), .c (.sl 5 (List.map NodeT.cells a_a1.Kids))], .agg [.c (.lit (.int .i64 a_b1.Kind)), .c (.lit (.int .i64 a_b1.Num)), .c (.str a_b1.Text), .c (.sl 1 (List.map cS a_b1.Names)), .c (.sl 5 (List.map NodeT.cells a_b1.Kids))]] (.one (.c (.lit (.bool r))))) ∧ (∀ {a_a1 : List NodeT} {a_b1 : List NodeT} {r : Bool}, G.laws_equalNodes n a_a1 a_b1 = some r → APure Go.Proofs.Tryz.prog 42 [.one (.c (.sl 5 (List.map NodeT.cells a_a1))), .one (.c (.sl 5 (List.map NodeT.cells a_b1)))] (.one (.c (.lit (.bool r))))) := by
  intro n
  induction n using Nat.strongRecOn with | _ n ih =>
  refine ⟨?_, ?_⟩
  · intro a_a1 a_b1 r h
    refine fun_pure K.laws_equalNode (ofK ?_)
    unfold C.laws_equalNode
    rcases n with _ | n <;> simp only [G.laws_equalNode, reduceCtorEq] at h
    obtain ⟨zc, zg, zk, zu, ze, zj, zt⟩ := pp (pp ((ihR ih)) <| pp @F.laws_equalTexts ()) <| pp () <| pp () <| pp () <| pp () <| pp () <| ()
    exact drv
  · intro a_a1 a_b1 r h
    refine fun_pure K.laws_equalNodes (ofK ?_)
    unfold C.laws_equalNodes
    rcases n with _ | n <;> simp only [G.laws_equalNodes, reduceCtorEq] at h
    obtain ⟨zc, zg, zk, zu, ze, zj, zt⟩ := pp (pp ((ihL ih)) ()) <| pp () <| pp (pp (@lopX (Int) _ (fun n x => G.laws_equalNodes.L1 n a_a1 a_b1 x) r (fun x => ASt.of [(0, .v true (.one (.c (.sl 5 (List.map NodeT.cells a_a1))))), (1, .v true (.one (.c (.sl 5 (List.map NodeT.cells a_b1))))), (5, .v true (.one (.c (.lit (.int .i64 x)))))] [])) ()) <| pp () <| pp (pp (And.intro @G.laws_equalNodes.L1.eq_1 <| @G.laws_equalNodes.L1.eq_2) ()) <| pp (pp (@weakX [] [] []) ()) <| ()
    exact drv
theorem F.laws_equalNode {n : Nat} : ∀ {a_a1 : NodeT} {a_b1 : NodeT} {r : Bool}, G.laws_equalNode n a_a1 a_b1 = some r → APure Go.Proofs.Tryz.prog 16 [.agg [.c (.lit (.int .i64 a_a1.Kind)), .c (.lit (.int .i64 a_a1.Num)), .c (.str a_a1.Text), .c (.sl 1 (List.map cS a_a1.Names)), .c (.sl 5 (List.map NodeT.cells a_a1.Kids))], .agg [.c (.lit (.int .i64 a_b1.Kind)), .c (.lit (.int .i64 a_b1.Num)), .c (.str a_b1.Text), .c (.sl 1 (List.map cS a_b1.Names)), .c (.sl 5 (List.map NodeT.cells a_b1.Kids))]] (.one (.c (.lit (.bool r)))) := (F.scc_laws_equalNode n).1
theorem F.spec_copyNode_n : ∀ (n : Nat), ∀ {a_n1 : NodeT} {r : NodeT}, G.spec_copyNode n a_n1 = some r → APure Go.Proofs.Tryz.prog 88 [.agg [.c (.lit (.int .i64 a_n1.Kind)), .c (.lit (.int .i64 a_n1.Num)), .c (.str a_n1.Text), .c (.sl 1 (List.map cS a_n1.Names)), .c (.sl 5 (List.map NodeT.cells a_n1.Kids))]] (.agg [.c (.lit (.int .i64 r.Kind)), .c (.lit (.int .i64 r.Num)), .c (.str r.Text), .c (.sl 1 (List.map cS r.Names)), .c (.sl 5 (List.map NodeT.cells r.Kids))]) := by
  intro n
  induction n using Nat.strongRecOn with | _ n ih =>
  intro a_n1 r h
  refine fun_pure K.spec_copyNode (ofK ?_)
  unfold C.spec_copyNode
  rcases n with _ | n <;> simp only [G.spec_copyNode, reduceCtorEq] at h
  obtain ⟨zc, zg, zk, zu, ze, zj, zt⟩ := pp (pp ih ()) <| pp () <| pp (pp (@lopX (Int × List NodeT) _ (fun n x => G.spec_copyNode.L1 n a_n1 x.1 x.2) r (fun x => ASt.of [(1, .v true (.one (.ptr 107 0))), (2, .v true (.one (.ptr 108 0))), (3, .v true (.one (.own 109 x.2.length 5))), (4, .v true (.one (.c (.lit (.int .i64 x.1)))))] [(107, .var [.c (.lit (.int .i64 a_n1.Kind)), .c (.lit (.int .i64 a_n1.Num)), .c (.str a_n1.Text), .c (.sl 1 (List.map cS a_n1.Names)), .c (.sl 5 (List.map NodeT.cells a_n1.Kids))]), (108, .var [.c (.lit (.int .i64 0)), .c (.lit (.int .i64 0)), .c (.str []), .nsl 1, .nsl 5]), (109, .dat 5 (List.map NodeT.cells x.2))])) ()) <| pp () <| pp (pp (And.intro @G.spec_copyNode.L1.eq_1 <| @G.spec_copyNode.L1.eq_2) ()) <| pp (pp (@weakX [] [(107, 10), (108, 11), (109, 12)] []) <| pp (@weakX [] [(107, 107), (108, 108), (109, 14)] []) ()) <| ()
  exact drv
theorem F.spec_copyNode {n : Nat} : ∀ {a_n1 : NodeT} {r : NodeT}, G.spec_copyNode n a_n1 = some r → APure Go.Proofs.Tryz.prog 88 [.agg [.c (.lit (.int .i64 a_n1.Kind)), .c (.lit (.int .i64 a_n1.Num)), .c (.str a_n1.Text), .c (.sl 1 (List.map cS a_n1.Names)), .c (.sl 5 (List.map NodeT.cells a_n1.Kids))]] (.agg [.c (.lit (.int .i64 r.Kind)), .c (.lit (.int .i64 r.Num)), .c (.str r.Text), .c (.sl 1 (List.map cS r.Names)), .c (.sl 5 (List.map NodeT.cells r.Kids))]) := F.spec_copyNode_n n
theorem F.spec_copyNode_o {n : Nat} : ∀ {a_n1 : NodeT} {r : NodeT}, G.spec_copyNode n a_n1 = some r → ACalls Go.Proofs.Tryz.prog 88 [.agg [.c (.lit (.int .i64 a_n1.Kind)), .c (.lit (.int .i64 a_n1.Num)), .c (.str a_n1.Text), .c (.sl 1 (List.map cS a_n1.Names)), .c (.sl 5 (List.map NodeT.cells a_n1.Kids))]] [] (fun r1 b1 => r1 = .agg [.c (.lit (.int .i64 r.Kind)), .c (.lit (.int .i64 r.Num)), .c (.str r.Text), .own 0 r.Names.length 1, .own 1 r.Kids.length 5] ∧ b1 = [.dat 1 (List.map cS r.Names), .dat 5 (List.map NodeT.cells r.Kids)]) := by
  intro a_n1 r h
  refine fun_sound K.spec_copyNode (ofK ?_)
  unfold C.spec_copyNode
  rcases n with _ | n <;> simp only [G.spec_copyNode, reduceCtorEq] at h
  obtain ⟨zc, zg, zk, zu, ze, zj, zt⟩ := pp (pp @F.spec_copyNode ()) <| pp () <| pp (pp (@lopX (Int × List NodeT) _ (fun n x => G.spec_copyNode.L1 n a_n1 x.1 x.2) r (fun x => ASt.of [(1, .v true (.one (.ptr 107 0))), (2, .v true (.one (.ptr 108 0))), (3, .v true (.one (.own 109 x.2.length 5))), (4, .v true (.one (.c (.lit (.int .i64 x.1)))))] [(107, .var [.c (.lit (.int .i64 a_n1.Kind)), .c (.lit (.int .i64 a_n1.Num)), .c (.str a_n1.Text), .c (.sl 1 (List.map cS a_n1.Names)), .c (.sl 5 (List.map NodeT.cells a_n1.Kids))]), (108, .var [.c (.lit (.int .i64 0)), .c (.lit (.int .i64 0)), .c (.str []), .nsl 1, .nsl 5]), (109, .dat 5 (List.map NodeT.cells x.2))])) ()) <| pp () <| pp (pp (And.intro @G.spec_copyNode.L1.eq_1 <| @G.spec_copyNode.L1.eq_2) ()) <| pp (pp (@weakX [] [(107, 10), (108, 11), (109, 12)] []) <| pp (@weakX [] [(107, 107), (108, 108), (109, 14)] []) ()) <| (pp (@retX [] [(0, 16), (1, 109)] []) ())
  exact drv
theorem F.spec_reader_pick {n : Nat} : ∀ {p_r1 : ReaderT} {a_n1 : Int} {r : Int × ReaderT}, G.spec_reader_pick n p_r1 a_n1 = some r → ACalls Go.Proofs.Tryz.prog 43 [.one (.ptr 0 0), .one (.c (.lit (.int .i64 a_n1)))] [.var [.c (.sl 1 (List.map cU p_r1.b)), .c (.lit (.int .i64 p_r1.p))]] (fun r1 b1 => r1 = .one (.c (.lit (.int .i64 r.1))) ∧ b1 = [.var [.c (.sl 1 (List.map cU r.2.b)), .c (.lit (.int .i64 r.2.p))]]) := by
  intro p_r1 a_n1 r h
  refine fun_sound K.spec_reader_pick (ofK ?_)
  unfold C.spec_reader_pick
  rcases n with _ | n <;> simp only [G.spec_reader_pick, reduceCtorEq] at h
  obtain ⟨zc, zg, zk, zu, ze, zj, zt⟩ := pp () <| pp () <| pp () <| pp () <| pp () <| pp () <| (pp (@retX [] [(0, 0)] []) ())
  exact drv
theorem F.spec_reader_one {n : Nat} : ∀ {p_r1 : ReaderT} {a_list1 : List Int} {r : Int × ReaderT}, G.spec_reader_one n p_r1 a_list1 = some r → ACalls Go.Proofs.Tryz.prog 102 [.one (.ptr 0 0), .one (.c (.sl 1 (List.map cI a_list1)))] [.var [.c (.sl 1 (List.map cU p_r1.b)), .c (.lit (.int .i64 p_r1.p))]] (fun r1 b1 => r1 = .one (.c (.lit (.int .i64 r.1))) ∧ b1 = [.var [.c (.sl 1 (List.map cU r.2.b)), .c (.lit (.int .i64 r.2.p))]]) := by
  intro p_r1 a_list1 r h
  refine fun_sound K.spec_reader_one (ofK ?_)
  unfold C.spec_reader_one
  rcases n with _ | n <;> simp only [G.spec_reader_one, reduceCtorEq] at h
  obtain ⟨zc, zg, zk, zu, ze, zj, zt⟩ := pp () <| pp (pp (pp @F.spec_reader_pick (@cG [0] [])) ()) <| pp () <| pp () <| pp () <| pp () <| (pp (@retX [] [(0, 0)] []) ())
  exact drv
theorem F.spec_decimal_n : ∀ (n : Nat), ∀ {a_n1 : Int} {r : Txt}, G.spec_decimal n a_n1 = some r → APure Go.Proofs.Tryz.prog 135 [.one (.c (.lit (.int .i64 a_n1)))] (.one (.c (.str r))) := by
  intro n
  induction n using Nat.strongRecOn with | _ n ih =>
  intro a_n1 r h
  refine fun_pure K.spec_decimal (ofK ?_)
  unfold C.spec_decimal
  rcases n with _ | n <;> simp only [G.spec_decimal, reduceCtorEq] at h
  obtain ⟨zc, zg, zk, zu, ze, zj, zt⟩ := pp (pp ih ()) <| pp () <| pp () <| pp () <| pp () <| pp () <| ()
  exact drv
theorem F.spec_decimal {n : Nat} : ∀ {a_n1 : Int} {r : Txt}, G.spec_decimal n a_n1 = some r → APure Go.Proofs.Tryz.prog 135 [.one (.c (.lit (.int .i64 a_n1)))] (.one (.c (.str r))) := F.spec_decimal_n n
theorem F.spec_place {n : Nat} : ∀ {a_n1 : NodeT} {a_step1 : Txt} {r : Int}, G.spec_place n a_n1 a_step1 = some r → APure Go.Proofs.Tryz.prog 89 [.agg [.c (.lit (.int .i64 a_n1.Kind)), .c (.lit (.int .i64 a_n1.Num)), .c (.str a_n1.Text), .c (.sl 1 (List.map cS a_n1.Names)), .c (.sl 5 (List.map NodeT.cells a_n1.Kids))], .one (.c (.str a_step1))] (.one (.c (.lit (.int .i64 r)))) := by
  intro a_n1 a_step1 r h
  refine fun_pure K.spec_place (ofK ?_)
  unfold C.spec_place
  rcases n with _ | n <;> simp only [G.spec_place, reduceCtorEq] at h
  obtain ⟨zc, zg, zk, zu, ze, zj, zt⟩ := pp (pp @F.spec_decimal ()) <| pp () <| pp (pp (@lopX (Int) _ (fun n x => G.spec_place.L1 n a_n1 a_step1 x) r (fun x => ASt.of [(1, .v true (.one (.c (.str a_step1)))), (2, .v true (.one (.ptr 103 0))), (5, .v true (.one (.c (.lit (.int .i64 x)))))] [(103, .var [.c (.lit (.int .i64 a_n1.Kind)), .c (.lit (.int .i64 a_n1.Num)), .c (.str a_n1.Text), .c (.sl 1 (List.map cS a_n1.Names)), .c (.sl 5 (List.map NodeT.cells a_n1.Kids))])])) ()) <| pp () <| pp (pp (And.intro @G.spec_place.L1.eq_1 <| @G.spec_place.L1.eq_2) ()) <| pp (pp (@weakX [] [(103, 10)] []) <| pp (@weakX [] [(103, 103)] []) ()) <| ()
  exact drv
theorem F.spec_slot {n : Nat} : ∀ {a_n1 : NodeT} {a_step1 : Txt} {r : Int × Bool}, G.spec_slot n a_n1 a_step1 = some r → APure Go.Proofs.Tryz.prog 136 [.agg [.c (.lit (.int .i64 a_n1.Kind)), .c (.lit (.int .i64 a_n1.Num)), .c (.str a_n1.Text), .c (.sl 1 (List.map cS a_n1.Names)), .c (.sl 5 (List.map NodeT.cells a_n1.Kids))], .one (.c (.str a_step1))] (.tup [(false, [.c (.lit (.int .i64 r.1))]), (false, [.c (.lit (.bool r.2))])]) := by
  intro a_n1 a_step1 r h
  refine fun_pure K.spec_slot (ofK ?_)
  unfold C.spec_slot
  rcases n with _ | n <;> simp only [G.spec_slot, reduceCtorEq] at h
  obtain ⟨zc, zg, zk, zu, ze, zj, zt⟩ := pp (pp @F.spec_place <| pp @F.spec_decimal ()) <| pp () <| pp (pp (@lopX (Int) _ (fun n x => G.spec_slot.L1 n a_n1 a_step1 x) r (fun x => ASt.of [(1, .v true (.one (.c (.str a_step1)))), (2, .v true (.one (.ptr 103 0))), (7, .v true (.one (.c (.lit (.int .i64 x)))))] [(103, .var [.c (.lit (.int .i64 a_n1.Kind)), .c (.lit (.int .i64 a_n1.Num)), .c (.str a_n1.Text), .c (.sl 1 (List.map cS a_n1.Names)), .c (.sl 5 (List.map NodeT.cells a_n1.Kids))])])) <| pp (@lopX (Int) _ (fun n x => G.spec_slot.L2 n a_n1 a_step1 x) r (fun x => ASt.of [(1, .v true (.one (.c (.str a_step1)))), (2, .v true (.one (.ptr 106 0))), (7, .v true (.one (.c (.lit (.int .i64 x)))))] [(106, .var [.c (.lit (.int .i64 a_n1.Kind)), .c (.lit (.int .i64 a_n1.Num)), .c (.str a_n1.Text), .c (.sl 1 (List.map cS a_n1.Names)), .c (.sl 5 (List.map NodeT.cells a_n1.Kids))])])) ()) <| pp () <| pp (pp (And.intro @G.spec_slot.L1.eq_1 <| And.intro @G.spec_slot.L1.eq_2 <| And.intro @G.spec_slot.L2.eq_1 <| @G.spec_slot.L2.eq_2) ()) <| pp (pp (@weakX [] [(103, 10)] []) <| pp (@weakX [] [(103, 103)] []) <| pp (@weakX [] [(106, 10)] []) <| pp (@weakX [] [(106, 106)] []) ()) <| ()
  exact drv
theorem F.spec_withKid {n : Nat} : ∀ {a_n1 : NodeT} {a_k1 : Int} {a_kid1 : NodeT} {r : NodeT}, G.spec_withKid n a_n1 a_k1 a_kid1 = some r → APure Go.Proofs.Tryz.prog 91 [.agg [.c (.lit (.int .i64 a_n1.Kind)), .c (.lit (.int .i64 a_n1.Num)), .c (.str a_n1.Text), .c (.sl 1 (List.map cS a_n1.Names)), .c (.sl 5 (List.map NodeT.cells a_n1.Kids))], .one (.c (.lit (.int .i64 a_k1))), .agg [.c (.lit (.int .i64 a_kid1.Kind)), .c (.lit (.int .i64 a_kid1.Num)), .c (.str a_kid1.Text), .c (.sl 1 (List.map cS a_kid1.Names)), .c (.sl 5 (List.map NodeT.cells a_kid1.Kids))]] (.agg [.c (.lit (.int .i64 r.Kind)), .c (.lit (.int .i64 r.Num)), .c (.str r.Text), .c (.sl 1 (List.map cS r.Names)), .c (.sl 5 (List.map NodeT.cells r.Kids))]) := by
  intro a_n1 a_k1 a_kid1 r h
  refine fun_pure K.spec_withKid (ofK ?_)
  unfold C.spec_withKid
  rcases n with _ | n <;> simp only [G.spec_withKid, reduceCtorEq] at h
  obtain ⟨zc, zg, zk, zu, ze, zj, zt⟩ := pp () <| pp (pp (pp @F.spec_copyNode_o (@cG [] [101, 102])) <| pp (pp @F.spec_copyNode_o (@cG [] [103, 104])) ()) <| pp () <| pp () <| pp () <| pp () <| ()
  exact drv
theorem F.spec_withKid_o {n : Nat} : ∀ {a_n1 : NodeT} {a_k1 : Int} {a_kid1 : NodeT} {r : NodeT}, G.spec_withKid n a_n1 a_k1 a_kid1 = some r → ACalls Go.Proofs.Tryz.prog 91 [.agg [.c (.lit (.int .i64 a_n1.Kind)), .c (.lit (.int .i64 a_n1.Num)), .c (.str a_n1.Text), .c (.sl 1 (List.map cS a_n1.Names)), .c (.sl 5 (List.map NodeT.cells a_n1.Kids))], .one (.c (.lit (.int .i64 a_k1))), .agg [.c (.lit (.int .i64 a_kid1.Kind)), .c (.lit (.int .i64 a_kid1.Num)), .c (.str a_kid1.Text), .c (.sl 1 (List.map cS a_kid1.Names)), .c (.sl 5 (List.map NodeT.cells a_kid1.Kids))]] [] (fun r1 b1 => r1 = .agg [.c (.lit (.int .i64 r.Kind)), .c (.lit (.int .i64 r.Num)), .c (.str r.Text), .own 0 r.Names.length 1, .own 1 r.Kids.length 5] ∧ b1 = [.dat 1 (List.map cS r.Names), .dat 5 (List.map NodeT.cells r.Kids)]) := by
  intro a_n1 a_k1 a_kid1 r h
  refine fun_sound K.spec_withKid (ofK ?_)
  unfold C.spec_withKid
  rcases n with _ | n <;> simp only [G.spec_withKid, reduceCtorEq] at h
  obtain ⟨zc, zg, zk, zu, ze, zj, zt⟩ := pp () <| pp (pp (pp @F.spec_copyNode_o (@cG [] [101, 102])) <| pp (pp @F.spec_copyNode_o (@cG [] [103, 104])) ()) <| pp () <| pp () <| pp () <| pp () <| (pp (@retX [] [(0, 101), (1, 102)] []) ())
  exact drv
theorem F.spec_addHere {n : Nat} : ∀ {a_n1 : NodeT} {a_step1 : Txt} {a_value1 : NodeT} {r : NodeT × Bool}, G.spec_addHere n a_n1 a_step1 a_value1 = some r → APure Go.Proofs.Tryz.prog 92 [.agg [.c (.lit (.int .i64 a_n1.Kind)), .c (.lit (.int .i64 a_n1.Num)), .c (.str a_n1.Text), .c (.sl 1 (List.map cS a_n1.Names)), .c (.sl 5 (List.map NodeT.cells a_n1.Kids))], .one (.c (.str a_step1)), .agg [.c (.lit (.int .i64 a_value1.Kind)), .c (.lit (.int .i64 a_value1.Num)), .c (.str a_value1.Text), .c (.sl 1 (List.map cS a_value1.Names)), .c (.sl 5 (List.map NodeT.cells a_value1.Kids))]] (.tup [(true, [.c (.lit (.int .i64 r.1.Kind)), .c (.lit (.int .i64 r.1.Num)), .c (.str r.1.Text), .c (.sl 1 (List.map cS r.1.Names)), .c (.sl 5 (List.map NodeT.cells r.1.Kids))]), (false, [.c (.lit (.bool r.2))])]) := by
  intro a_n1 a_step1 a_value1 r h
  refine fun_pure K.spec_addHere (ofK ?_)
  unfold C.spec_addHere
  rcases n with _ | n <;> simp only [G.spec_addHere, reduceCtorEq] at h
  obtain ⟨zc, zg, zk, zu, ze, zj, zt⟩ := pp (pp @F.spec_slot <| pp @F.spec_withKid <| pp @F.spec_copyNode ()) <| pp () <| pp () <| pp () <| pp () <| pp () <| ()
  exact drv
theorem F.spec_addHere_o {n : Nat} : ∀ {a_n1 : NodeT} {a_step1 : Txt} {a_value1 : NodeT} {r : NodeT × Bool}, G.spec_addHere n a_n1 a_step1 a_value1 = some r → ACalls Go.Proofs.Tryz.prog 92 [.agg [.c (.lit (.int .i64 a_n1.Kind)), .c (.lit (.int .i64 a_n1.Num)), .c (.str a_n1.Text), .c (.sl 1 (List.map cS a_n1.Names)), .c (.sl 5 (List.map NodeT.cells a_n1.Kids))], .one (.c (.str a_step1)), .agg [.c (.lit (.int .i64 a_value1.Kind)), .c (.lit (.int .i64 a_value1.Num)), .c (.str a_value1.Text), .c (.sl 1 (List.map cS a_value1.Names)), .c (.sl 5 (List.map NodeT.cells a_value1.Kids))]] [] (fun r1 b1 => r1 = .tup [(true, [.c (.lit (.int .i64 r.1.Kind)), .c (.lit (.int .i64 r.1.Num)), .c (.str r.1.Text), .own 0 r.1.Names.length 1, .own 1 r.1.Kids.length 5]), (false, [.c (.lit (.bool r.2))])] ∧ b1 = [.dat 1 (List.map cS r.1.Names), .dat 5 (List.map NodeT.cells r.1.Kids)]) := by
  intro a_n1 a_step1 a_value1 r h
  refine fun_sound K.spec_addHere (ofK ?_)
  unfold C.spec_addHere
  rcases n with _ | n <;> simp only [G.spec_addHere, reduceCtorEq] at h
  obtain ⟨zc, zg, zk, zu, ze, zj, zt⟩ := pp (pp @F.spec_slot <| pp @F.spec_copyNode ()) <| pp (pp (pp @F.spec_withKid_o (@cG [] [101, 102])) ()) <| pp () <| pp () <| pp () <| pp () <| (pp (@retX [] [] [0, 1]) <| pp (@retX [] [(0, 101), (1, 102)] []) <| pp (@retX [] [(0, 19), (1, 18)] []) <| pp (@retX [] [(0, 24), (1, 18)] []) ())
  exact drv
theorem F.spec_reader_of {n : Nat} : ∀ {p_r1 : ReaderT} {a_list1 : List Txt} {r : Txt × ReaderT}, G.spec_reader_of n p_r1 a_list1 = some r → ACalls Go.Proofs.Tryz.prog 125 [.one (.ptr 0 0), .one (.c (.sl 1 (List.map cS a_list1)))] [.var [.c (.sl 1 (List.map cU p_r1.b)), .c (.lit (.int .i64 p_r1.p))]] (fun r1 b1 => r1 = .one (.c (.str r.1)) ∧ b1 = [.var [.c (.sl 1 (List.map cU r.2.b)), .c (.lit (.int .i64 r.2.p))]]) := by
  intro p_r1 a_list1 r h
  refine fun_sound K.spec_reader_of (ofK ?_)
  unfold C.spec_reader_of
  rcases n with _ | n <;> simp only [G.spec_reader_of, reduceCtorEq] at h
  obtain ⟨zc, zg, zk, zu, ze, zj, zt⟩ := pp () <| pp (pp (pp @F.spec_reader_pick (@cG [0] [])) ()) <| pp () <| pp () <| pp () <| pp () <| (pp (@retX [] [(0, 0)] []) ())
  exact drv
theorem F.spec_someText {n : Nat} : ∀ {p_r1 : ReaderT} {r : Txt × ReaderT}, G.spec_someText n p_r1 = some r → ACalls Go.Proofs.Tryz.prog 175 [.one (.ptr 0 0)] [.var [.c (.sl 1 (List.map cU p_r1.b)), .c (.lit (.int .i64 p_r1.p))]] (fun r1 b1 => r1 = .one (.c (.str r.1)) ∧ b1 = [.var [.c (.sl 1 (List.map cU r.2.b)), .c (.lit (.int .i64 r.2.p))]]) := by
  intro p_r1 r h
  refine fun_sound K.spec_someText (ofK ?_)
  unfold C.spec_someText
  rcases n with _ | n <;> simp only [G.spec_someText, reduceCtorEq] at h
  obtain ⟨zc, zg, zk, zu, ze, zj, zt⟩ := pp () <| pp (pp (pp @F.spec_reader_of (@cH [0] [])) ()) <| pp () <| pp () <| pp () <| pp () <| (pp (@retX [] [(0, 0)] []) ())
  exact drv
theorem F.spec_someName {n : Nat} : ∀ {p_r1 : ReaderT} {r : Txt × ReaderT}, G.spec_someName n p_r1 = some r → ACalls Go.Proofs.Tryz.prog 200 [.one (.ptr 0 0)] [.var [.c (.sl 1 (List.map cU p_r1.b)), .c (.lit (.int .i64 p_r1.p))]] (fun r1 b1 => r1 = .one (.c (.str r.1)) ∧ b1 = [.var [.c (.sl 1 (List.map cU r.2.b)), .c (.lit (.int .i64 r.2.p))]]) := by
  intro p_r1 r h
  refine fun_sound K.spec_someName (ofK ?_)
  unfold C.spec_someName
  rcases n with _ | n <;> simp only [G.spec_someName, reduceCtorEq] at h
  obtain ⟨zc, zg, zk, zu, ze, zj, zt⟩ := pp () <| pp (pp (pp @F.spec_reader_of (@cH [0] [])) ()) <| pp () <| pp () <| pp () <| pp () <| (pp (@retX [] [(0, 0)] []) ())
  exact drv
theorem F.scc_spec_randomMap : ∀ (n : Nat), (∀ {p_r1 : ReaderT} {a_depth1 : Int} {r : NodeT × ReaderT}, G.spec_randomMap n p_r1 a_depth1 = some r → ACalls Go.Proofs.Tryz.prog 174 [.one (.ptr 0 0), .one (.c (.lit (.int .i64 a_depth1)))] [.var [.c (.sl 1 (List.map cU p_r1.b)), .c (.lit (.int .i64 p_r1.p))]] (fun r1 b1 => r1 = .agg [.c (.lit (.int .i64 r.1.Kind)), .c (.lit (.int .i64 r.1.Num)), .c (.str r.1.Text), .c (.sl 1 (List.map cS r.1.Names)), .c (.sl 5 (List.map NodeT.cells r.1.Kids))] ∧ b1 = [.var [.c (.sl 1 (List.map cU r.2.b)), .c (.lit (.int .i64 r.2.p))]])) ∧ (∀ {p_r1 : ReaderT} {a_depth1 : Int} {r : NodeT × ReaderT}, G.spec_randomNode n p_r1 a_depth1 = some r → ACalls Go.Proofs.Tryz.prog 126 [.one (.ptr 0 0), .one (.c (.lit (.int .i64 a_depth1)))] [.var [.c (.sl 1 (List.map cU p_r1.b)), .c (.lit (.int .i64 p_r1.p))]] (fun r1 b1 => r1 = .agg [.c (.lit (.int .i64 r.1.Kind)), .c (.lit (.int .i64 r.1.Num)), .c (.str r.1.Text), .c (.sl 1 (List.map cS r.1.Names)), .c (.sl 5 (List.map NodeT.cells r.1.Kids))] ∧ b1 = [.var [.c (.sl 1 (List.map cU r.2.b)), .c (.lit (.int .i64 r.2.p))]])) := by
  intro n
  induction n using Nat.strongRecOn with | _ n ih =>
  refine ⟨?_, ?_⟩
  · intro p_r1 a_depth1 r h
    refine fun_sound K.spec_randomMap (ofK ?_)
    unfold C.spec_randomMap
    rcases n with _ | n <;> simp only [G.spec_randomMap, reduceCtorEq] at h
    obtain ⟨zc, zg, zk, zu, ze, zj, zt⟩ := pp (pp @F.spec_place <| pp @F.spec_addHere ()) <| pp (pp (pp (ihR ih) (@cG [0] [])) <| pp (pp @F.spec_reader_one (@cH [0] [])) <| pp (pp @F.spec_someName (@cG [0] [])) ()) <| pp (pp (@lopX (Int × List Int × Int × Int × Int × Txt × List Txt × List NodeT) _ (fun n x => G.spec_randomMap.L1 n a_depth1 x.1 x.2.1 x.2.2.1 x.2.2.2.1 x.2.2.2.2.1 x.2.2.2.2.2.1 x.2.2.2.2.2.2.1 x.2.2.2.2.2.2.2) r (fun x => ASt.of [(0, .v true (.one (.ptr 0 0))), (1, .v true (.one (.c (.lit (.int .i64 a_depth1))))), (4, .v true (.one (.ptr 107 0))), (5, .v true (.one (.ptr 108 0))), (6, .v true (.one (.c (.lit (.int .i64 x.1)))))] [(0, .var [.c (.sl 1 (List.map cU x.2.1)), .c (.lit (.int .i64 x.2.2.1))]), (107, .var [.c (.lit (.int .i64 0)), .c (.lit (.int .i64 0)), .c (.str []), .nsl 1, .nsl 5]), (108, .var [.c (.lit (.int .i64 x.2.2.2.1)), .c (.lit (.int .i64 x.2.2.2.2.1)), .c (.str x.2.2.2.2.2.1), .c (.sl 1 (List.map cS x.2.2.2.2.2.2.1)), .c (.sl 5 (List.map NodeT.cells x.2.2.2.2.2.2.2))])])) ()) <| pp () <| pp (pp (And.intro @G.spec_randomMap.L1.eq_1 <| @G.spec_randomMap.L1.eq_2) ()) <| pp (pp (@weakX [11, 12] [(0, 0), (107, 10), (108, 13)] []) <| pp (@weakX [] [(0, 0), (107, 107), (108, 108)] []) ()) <| (pp (@retX [] [(0, 0)] []) ())
    exact drv
  · intro p_r1 a_depth1 r h
    refine fun_sound K.spec_randomNode (ofK ?_)
    unfold C.spec_randomNode
    rcases n with _ | n <;> simp only [G.spec_randomNode, reduceCtorEq] at h
    obtain ⟨zc, zg, zk, zu, ze, zj, zt⟩ := pp () <| pp (pp (pp (ihR ih) (@cG [0] [])) <| pp (pp (ihL ih) (@cG [0] [])) <| pp (pp @F.spec_reader_pick (@cG [0] [])) <| pp (pp @F.spec_reader_one (@cH [0] [])) <| pp (pp @F.spec_someText (@cG [0] [])) ()) <| pp (pp (@lopX (Int × Int × List Int × Int × List NodeT) _ (fun n x => G.spec_randomNode.L2 n a_depth1 x.1 x.2.1 x.2.2.1 x.2.2.2.1 x.2.2.2.2) r (fun x => ASt.of [(0, .v true (.one (.ptr 0 0))), (1, .v true (.one (.c (.lit (.int .i64 a_depth1))))), (4, .v true (.one (.ptr 106 0))), (5, .v true (.one (.c (.lit (.int .i64 x.1))))), (6, .v true (.one (.own 107 x.2.2.2.2.length 5))), (7, .v true (.one (.c (.lit (.int .i64 x.2.1)))))] [(0, .var [.c (.sl 1 (List.map cU x.2.2.1)), .c (.lit (.int .i64 x.2.2.2.1))]), (106, .var [.c (.lit (.int .i64 0)), .c (.lit (.int .i64 0)), .c (.str []), .nsl 1, .nsl 5]), (107, .dat 5 (List.map NodeT.cells x.2.2.2.2))])) ()) <| pp (pp (@cutX (Int × List Int × Int) _ (fun n x => G.spec_randomNode.K1 n a_depth1 x.1 x.2.1 x.2.2) r (fun x => ASt.of [(0, .v true (.one (.ptr 0 0))), (1, .v true (.one (.c (.lit (.int .i64 a_depth1))))), (4, .v true (.one (.ptr 101 0))), (5, .v true (.one (.c (.lit (.int .i64 x.1)))))] [(0, .var [.c (.sl 1 (List.map cU x.2.1)), .c (.lit (.int .i64 x.2.2))]), (101, .var [.c (.lit (.int .i64 0)), .c (.lit (.int .i64 0)), .c (.str []), .nsl 1, .nsl 5])])) ()) <| pp (pp (And.intro @G.spec_randomNode.K1.eq_1 <| And.intro @G.spec_randomNode.K1.eq_2 <| And.intro @G.spec_randomNode.L2.eq_1 <| @G.spec_randomNode.L2.eq_2) ()) <| pp (pp (@weakX [] [(0, 0), (101, 10)] []) <| pp (@weakX [] [(0, 0), (106, 101), (107, 12)] []) <| pp (@weakX [] [(0, 0), (106, 106), (107, 14)] []) ()) <| (pp (@retX [] [(0, 0)] []) <| pp (@retX [15, 107] [(0, 0)] []) ())
    exact drv
theorem F.spec_randomMap {n : Nat} : ∀ {p_r1 : ReaderT} {a_depth1 : Int} {r : NodeT × ReaderT}, G.spec_randomMap n p_r1 a_depth1 = some r → ACalls Go.Proofs.Tryz.prog 174 [.one (.ptr 0 0), .one (.c (.lit (.int .i64 a_depth1)))] [.var [.c (.sl 1 (List.map cU p_r1.b)), .c (.lit (.int .i64 p_r1.p))]] (fun r1 b1 => r1 = .agg [.c (.lit (.int .i64 r.1.Kind)), .c (.lit (.int .i64 r.1.Num)), .c (.str r.1.Text), .c (.sl 1 (List.map cS r.1.Names)), .c (.sl 5 (List.map NodeT.cells r.1.Kids))] ∧ b1 = [.var [.c (.sl 1 (List.map cU r.2.b)), .c (.lit (.int .i64 r.2.p))]]) := (F.scc_spec_randomMap n).1
theorem F.spec_randomNode {n : Nat} : ∀ {p_r1 : ReaderT} {a_depth1 : Int} {r : NodeT × ReaderT}, G.spec_randomNode n p_r1 a_depth1 = some r → ACalls Go.Proofs.Tryz.prog 126 [.one (.ptr 0 0), .one (.c (.lit (.int .i64 a_depth1)))] [.var [.c (.sl 1 (List.map cU p_r1.b)), .c (.lit (.int .i64 p_r1.p))]] (fun r1 b1 => r1 = .agg [.c (.lit (.int .i64 r.1.Kind)), .c (.lit (.int .i64 r.1.Num)), .c (.str r.1.Text), .c (.sl 1 (List.map cS r.1.Names)), .c (.sl 5 (List.map NodeT.cells r.1.Kids))] ∧ b1 = [.var [.c (.sl 1 (List.map cU r.2.b)), .c (.lit (.int .i64 r.2.p))]]) := (F.scc_spec_randomMap n).2
theorem F.spec_randomMap_o {n : Nat} : ∀ {p_r1 : ReaderT} {a_depth1 : Int} {r : NodeT × ReaderT}, G.spec_randomMap n p_r1 a_depth1 = some r → ACalls Go.Proofs.Tryz.prog 174 [.one (.ptr 0 0), .one (.c (.lit (.int .i64 a_depth1)))] [.var [.c (.sl 1 (List.map cU p_r1.b)), .c (.lit (.int .i64 p_r1.p))]] (fun r1 b1 => r1 = .agg [.c (.lit (.int .i64 r.1.Kind)), .c (.lit (.int .i64 r.1.Num)), .c (.str r.1.Text), .own 1 r.1.Names.length 1, .own 2 r.1.Kids.length 5] ∧ b1 = [.var [.c (.sl 1 (List.map cU r.2.b)), .c (.lit (.int .i64 r.2.p))], .dat 1 (List.map cS r.1.Names), .dat 5 (List.map NodeT.cells r.1.Kids)]) := by
  intro p_r1 a_depth1 r h
  refine fun_sound K.spec_randomMap (ofK ?_)
  unfold C.spec_randomMap
  rcases n with _ | n <;> simp only [G.spec_randomMap, reduceCtorEq] at h
  obtain ⟨zc, zg, zk, zu, ze, zj, zt⟩ := pp (pp @F.spec_place ()) <| pp (pp (pp @F.spec_reader_one (@cH [0] [])) <| pp (pp @F.spec_someName (@cG [0] [])) <| pp (pp @F.spec_randomNode (@cG [0] [])) <| pp (pp @F.spec_addHere_o (@cH [] [117, 118])) ()) <| pp (pp (@lopX (Int × List Int × Int × Int × Int × Txt × List Txt × List NodeT) _ (fun n x => G.spec_randomMap.L1 n a_depth1 x.1 x.2.1 x.2.2.1 x.2.2.2.1 x.2.2.2.2.1 x.2.2.2.2.2.1 x.2.2.2.2.2.2.1 x.2.2.2.2.2.2.2) r (fun x => ASt.of [(0, .v true (.one (.ptr 0 0))), (1, .v true (.one (.c (.lit (.int .i64 a_depth1))))), (4, .v true (.one (.ptr 113 0))), (5, .v true (.one (.ptr 114 0))), (6, .v true (.one (.c (.lit (.int .i64 x.1)))))] [(0, .var [.c (.sl 1 (List.map cU x.2.1)), .c (.lit (.int .i64 x.2.2.1))]), (113, .var [.c (.lit (.int .i64 0)), .c (.lit (.int .i64 0)), .c (.str []), .nsl 1, .nsl 5]), (114, .var [.c (.lit (.int .i64 x.2.2.2.1)), .c (.lit (.int .i64 x.2.2.2.2.1)), .c (.str x.2.2.2.2.2.1), .own 115 x.2.2.2.2.2.2.1.length 1, .own 116 x.2.2.2.2.2.2.2.length 5]), (115, .dat 1 (List.map cS x.2.2.2.2.2.2.1)), (116, .dat 5 (List.map NodeT.cells x.2.2.2.2.2.2.2))])) ()) <| pp () <| pp (pp (And.intro @G.spec_randomMap.L1.eq_1 <| @G.spec_randomMap.L1.eq_2) ()) <| pp (pp (@weakX [] [(0, 0), (113, 10), (114, 13), (115, 11), (116, 12)] []) <| pp (@weakX [] [(0, 0), (113, 113), (114, 114), (115, 117), (116, 118)] []) <| pp (@weakX [] [(0, 0), (113, 113), (114, 114), (115, 115), (116, 116)] []) ()) <| (pp (@retX [] [(0, 0), (1, 115), (2, 116)] []) ())
  exact drv
theorem F.spec_randomNode_o {n : Nat} : ∀ {p_r1 : ReaderT} {a_depth1 : Int} {r : NodeT × ReaderT}, G.spec_randomNode n p_r1 a_depth1 = some r → ACalls Go.Proofs.Tryz.prog 126 [.one (.ptr 0 0), .one (.c (.lit (.int .i64 a_depth1)))] [.var [.c (.sl 1 (List.map cU p_r1.b)), .c (.lit (.int .i64 p_r1.p))]] (fun r1 b1 => r1 = .agg [.c (.lit (.int .i64 r.1.Kind)), .c (.lit (.int .i64 r.1.Num)), .c (.str r.1.Text), .own 1 r.1.Names.length 1, .own 2 r.1.Kids.length 5] ∧ b1 = [.var [.c (.sl 1 (List.map cU r.2.b)), .c (.lit (.int .i64 r.2.p))], .dat 1 (List.map cS r.1.Names), .dat 5 (List.map NodeT.cells r.1.Kids)]) := by
  intro p_r1 a_depth1 r h
  refine fun_sound K.spec_randomNode (ofK ?_)
  unfold C.spec_randomNode
  rcases n with _ | n <;> simp only [G.spec_randomNode, reduceCtorEq] at h
  obtain ⟨zc, zg, zk, zu, ze, zj, zt⟩ := pp () <| pp (pp (pp @F.spec_reader_pick (@cG [0] [])) <| pp (pp @F.spec_reader_one (@cH [0] [])) <| pp (pp @F.spec_someText (@cG [0] [])) <| pp (pp @F.spec_randomNode (@cG [0] [])) <| pp (pp @F.spec_randomMap_o (@cG [0] [108, 109])) ()) <| pp (pp (@lopX (Int × Int × List Int × Int × List NodeT) _ (fun n x => G.spec_randomNode.L2 n a_depth1 x.1 x.2.1 x.2.2.1 x.2.2.2.1 x.2.2.2.2) r (fun x => ASt.of [(0, .v true (.one (.ptr 0 0))), (1, .v true (.one (.c (.lit (.int .i64 a_depth1))))), (4, .v true (.one (.ptr 106 0))), (5, .v true (.one (.c (.lit (.int .i64 x.1))))), (6, .v true (.one (.own 107 x.2.2.2.2.length 5))), (7, .v true (.one (.c (.lit (.int .i64 x.2.1)))))] [(0, .var [.c (.sl 1 (List.map cU x.2.2.1)), .c (.lit (.int .i64 x.2.2.2.1))]), (106, .var [.c (.lit (.int .i64 0)), .c (.lit (.int .i64 0)), .c (.str []), .nsl 1, .nsl 5]), (107, .dat 5 (List.map NodeT.cells x.2.2.2.2))])) ()) <| pp (pp (@cutX (Int × List Int × Int) _ (fun n x => G.spec_randomNode.K1 n a_depth1 x.1 x.2.1 x.2.2) r (fun x => ASt.of [(0, .v true (.one (.ptr 0 0))), (1, .v true (.one (.c (.lit (.int .i64 a_depth1))))), (4, .v true (.one (.ptr 101 0))), (5, .v true (.one (.c (.lit (.int .i64 x.1)))))] [(0, .var [.c (.sl 1 (List.map cU x.2.1)), .c (.lit (.int .i64 x.2.2))]), (101, .var [.c (.lit (.int .i64 0)), .c (.lit (.int .i64 0)), .c (.str []), .nsl 1, .nsl 5])])) ()) <| pp (pp (And.intro @G.spec_randomNode.K1.eq_1 <| And.intro @G.spec_randomNode.K1.eq_2 <| And.intro @G.spec_randomNode.L2.eq_1 <| @G.spec_randomNode.L2.eq_2) ()) <| pp (pp (@weakX [] [(0, 0), (101, 10)] []) <| pp (@weakX [] [(0, 0), (106, 101), (107, 12)] []) <| pp (@weakX [] [(0, 0), (106, 106), (107, 14)] []) ()) <| (pp (@retX [] [(0, 0)] [1, 2]) <| pp (@retX [] [(0, 0), (1, 15), (2, 107)] []) <| pp (@retX [] [(0, 0), (1, 108), (2, 109)] []) ())
  exact drv
theorem F.spec_count_n : ∀ (n : Nat), ∀ {a_n1 : NodeT} {r : Int}, G.spec_count n a_n1 = some r → APure Go.Proofs.Tryz.prog 83 [.agg [.c (.lit (.int .i64 a_n1.Kind)), .c (.lit (.int .i64 a_n1.Num)), .c (.str a_n1.Text), .c (.sl 1 (List.map cS a_n1.Names)), .c (.sl 5 (List.map NodeT.cells a_n1.Kids))]] (.one (.c (.lit (.int .i64 r)))) := by
  intro n
  induction n using Nat.strongRecOn with | _ n ih =>
  intro a_n1 r h
  refine fun_pure K.spec_count (ofK ?_)
  unfold C.spec_count
  rcases n with _ | n <;> simp only [G.spec_count, reduceCtorEq] at h
  obtain ⟨zc, zg, zk, zu, ze, zj, zt⟩ := pp (pp ih ()) <| pp () <| pp (pp (@lopX (Int × Int) _ (fun n x => G.spec_count.L1 n a_n1 x.1 x.2) r (fun x => ASt.of [(1, .v true (.one (.ptr 103 0))), (3, .v true (.one (.c (.lit (.int .i64 x.1))))), (4, .v true (.one (.c (.lit (.int .i64 x.2)))))] [(103, .var [.c (.lit (.int .i64 a_n1.Kind)), .c (.lit (.int .i64 a_n1.Num)), .c (.str a_n1.Text), .c (.sl 1 (List.map cS a_n1.Names)), .c (.sl 5 (List.map NodeT.cells a_n1.Kids))])])) ()) <| pp () <| pp (pp (And.intro @G.spec_count.L1.eq_1 <| @G.spec_count.L1.eq_2) ()) <| pp (pp (@weakX [] [(103, 10)] []) <| pp (@weakX [] [(103, 103)] []) ()) <| ()
  exact drv
theorem F.spec_count {n : Nat} : ∀ {a_n1 : NodeT} {r : Int}, G.spec_count n a_n1 = some r → APure Go.Proofs.Tryz.prog 83 [.agg [.c (.lit (.int .i64 a_n1.Kind)), .c (.lit (.int .i64 a_n1.Num)), .c (.str a_n1.Text), .c (.sl 1 (List.map cS a_n1.Names)), .c (.sl 5 (List.map NodeT.cells a_n1.Kids))]] (.one (.c (.lit (.int .i64 r)))) := F.spec_count_n n
theorem F.spec_inRange {n : Nat} : ∀ {a_n1 : Int} {a_low1 : Int} {a_high1 : Int} {r : Bool}, G.spec_inRange n a_n1 a_low1 a_high1 = some r → APure Go.Proofs.Tryz.prog 113 [.one (.c (.lit (.int .i64 a_n1))), .one (.c (.lit (.int .i64 a_low1))), .one (.c (.lit (.int .i64 a_high1)))] (.one (.c (.lit (.bool r)))) := by
  intro a_n1 a_low1 a_high1 r h
  refine fun_pure K.spec_inRange (ofK ?_)
  unfold C.spec_inRange
  rcases n with _ | n <;> simp only [G.spec_inRange, reduceCtorEq] at h
  obtain ⟨zc, zg, zk, zu, ze, zj, zt⟩ := pp () <| pp () <| pp () <| pp () <| pp () <| pp () <| ()
  exact drv
theorem F.spec_validText {n : Nat} : ∀ {a_s1 : Txt} {r : Bool}, G.spec_validText n a_s1 = some r → APure Go.Proofs.Tryz.prog 114 [.one (.c (.str a_s1))] (.one (.c (.lit (.bool r)))) := by
  intro a_s1 r h
  refine fun_pure K.spec_validText (ofK ?_)
  unfold C.spec_validText
  rcases n with _ | n <;> simp only [G.spec_validText, reduceCtorEq] at h
  obtain ⟨zc, zg, zk, zu, ze, zj, zt⟩ := pp (pp @F.spec_inRange ()) <| pp () <| pp (pp (@lopX (Int) _ (fun n x => G.spec_validText.L1 n a_s1 x) r (fun x => ASt.of [(0, .v true (.one (.c (.str a_s1)))), (3, .v true (.one (.c (.lit (.int .i64 x)))))] [])) ()) <| pp () <| pp (pp (And.intro @G.spec_validText.L1.eq_1 <| @G.spec_validText.L1.eq_2) ()) <| pp (pp (@weakX [] [] []) ()) <| ()
  exact drv
theorem F.spec_names {n : Nat} : ∀ {a_list1 : List Txt} {r : Bool}, G.spec_names n a_list1 = some r → APure Go.Proofs.Tryz.prog 133 [.one (.c (.sl 1 (List.map cS a_list1)))] (.one (.c (.lit (.bool r)))) := by
  intro a_list1 r h
  refine fun_pure K.spec_names (ofK ?_)
  unfold C.spec_names
  rcases n with _ | n <;> simp only [G.spec_names, reduceCtorEq] at h
  obtain ⟨zc, zg, zk, zu, ze, zj, zt⟩ := pp (pp @F.spec_validText ()) <| pp () <| pp (pp (@lopX (Int) _ (fun n x => G.spec_names.L1 n a_list1 x) r (fun x => ASt.of [(0, .v true (.one (.c (.sl 1 (List.map cS a_list1))))), (3, .v true (.one (.c (.lit (.int .i64 x)))))] [])) ()) <| pp () <| pp (pp (And.intro @G.spec_names.L1.eq_1 <| @G.spec_names.L1.eq_2) ()) <| pp (pp (@weakX [] [] []) ()) <| ()
  exact drv
theorem F.scc_spec_kids : ∀ (n : Nat), (∀ {a_n1 : NodeT} {a_depth1 : Int} {r : Bool}, G.spec_kids n a_n1 a_depth1 = some r → APure Go.Proofs.Tryz.prog 132 [.agg [.c (.lit (.int .i64 a_n1.Kind)), .c (.lit (.int .i64 a_n1.Num)), .c (.str a_n1.Text), .c (.sl 1 (List.map cS a_n1.Names)), .c (.sl 5 (List.map NodeT.cells a_n1.Kids))], .one (.c (.lit (.int .i64 a_depth1)))] (.one (.c (.lit (.bool r))))) ∧ (∀ {a_n1 : NodeT} {a_depth1 : Int} {r : Bool}, G.spec_shape n a_n1 a_depth1 = some r → APure Go.Proofs.Tryz.prog 82 [.agg [.c (.lit (.int .i64 a_n1.Kind)), .c (.lit (.int .i64 a_n1.Num)), .c (.str a_n1.Text), .c (.sl 1 (List.map cS a_n1.Names)), .c (.sl 5 (List.map NodeT.cells a_n1.Kids))], .one (.c (.lit (.int .i64 a_depth1)))] (.one (.c (.lit (.bool r))))) := by
  intro n
  induction n using Nat.strongRecOn with | _ n ih =>
  refine ⟨?_, ?_⟩
  · intro a_n1 a_depth1 r h
    refine fun_pure K.spec_kids (ofK ?_)
    unfold C.spec_kids
    rcases n with _ | n <;> simp only [G.spec_kids, reduceCtorEq] at h
    obtain ⟨zc, zg, zk, zu, ze, zj, zt⟩ := pp (pp ((ihR ih)) ()) <| pp () <| pp (pp (@lopX (Int) _ (fun n x => G.spec_kids.L1 n a_n1 a_depth1 x) r (fun x => ASt.of [(1, .v true (.one (.c (.lit (.int .i64 a_depth1))))), (2, .v true (.one (.ptr 103 0))), (5, .v true (.one (.c (.lit (.int .i64 x)))))] [(103, .var [.c (.lit (.int .i64 a_n1.Kind)), .c (.lit (.int .i64 a_n1.Num)), .c (.str a_n1.Text), .c (.sl 1 (List.map cS a_n1.Names)), .c (.sl 5 (List.map NodeT.cells a_n1.Kids))])])) ()) <| pp () <| pp (pp (And.intro @G.spec_kids.L1.eq_1 <| @G.spec_kids.L1.eq_2) ()) <| pp (pp (@weakX [] [(103, 10)] []) <| pp (@weakX [] [(103, 103)] []) ()) <| ()
    exact drv
  · intro a_n1 a_depth1 r h
    refine fun_pure K.spec_shape (ofK ?_)
    unfold C.spec_shape
    rcases n with _ | n <;> simp only [G.spec_shape, reduceCtorEq] at h
    obtain ⟨zc, zg, zk, zu, ze, zj, zt⟩ := pp (pp ((ihL ih)) <| pp @F.spec_inRange <| pp @F.spec_validText <| pp @F.spec_names ()) <| pp () <| pp () <| pp (pp (@cutX (Unit) _ (fun n x => G.spec_shape.K1 n a_n1 a_depth1) r (fun x => ASt.of [(1, .v true (.one (.c (.lit (.int .i64 a_depth1))))), (2, .v true (.one (.ptr 101 0))), (54, .v true (.one (.c (.lit (.bool false)))))] [(101, .var [.c (.lit (.int .i64 a_n1.Kind)), .c (.lit (.int .i64 a_n1.Num)), .c (.str a_n1.Text), .c (.sl 1 (List.map cS a_n1.Names)), .c (.sl 5 (List.map NodeT.cells a_n1.Kids))])])) ()) <| pp (pp (And.intro @G.spec_shape.K1.eq_1 <| @G.spec_shape.K1.eq_2) ()) <| pp (pp (@weakX [] [(101, 10)] []) ()) <| ()
    exact drv
theorem F.spec_shape {n : Nat} : ∀ {a_n1 : NodeT} {a_depth1 : Int} {r : Bool}, G.spec_shape n a_n1 a_depth1 = some r → APure Go.Proofs.Tryz.prog 82 [.agg [.c (.lit (.int .i64 a_n1.Kind)), .c (.lit (.int .i64 a_n1.Num)), .c (.str a_n1.Text), .c (.sl 1 (List.map cS a_n1.Names)), .c (.sl 5 (List.map NodeT.cells a_n1.Kids))], .one (.c (.lit (.int .i64 a_depth1)))] (.one (.c (.lit (.bool r)))) := (F.scc_spec_kids n).2
theorem F.spec_validNode {n : Nat} : ∀ {a_n1 : NodeT} {r : Bool}, G.spec_validNode n a_n1 = some r → APure Go.Proofs.Tryz.prog 40 [.agg [.c (.lit (.int .i64 a_n1.Kind)), .c (.lit (.int .i64 a_n1.Num)), .c (.str a_n1.Text), .c (.sl 1 (List.map cS a_n1.Names)), .c (.sl 5 (List.map NodeT.cells a_n1.Kids))]] (.one (.c (.lit (.bool r)))) := by
  intro a_n1 r h
  refine fun_pure K.spec_validNode (ofK ?_)
  unfold C.spec_validNode
  rcases n with _ | n <;> simp only [G.spec_validNode, reduceCtorEq] at h
  obtain ⟨zc, zg, zk, zu, ze, zj, zt⟩ := pp (pp @F.spec_shape <| pp @F.spec_count ()) <| pp () <| pp () <| pp () <| pp () <| pp () <| ()
  exact drv
theorem F.spec_someNode {n : Nat} : ∀ {p_r1 : ReaderT} {r : NodeT × ReaderT}, G.spec_someNode n p_r1 = some r → ACalls Go.Proofs.Tryz.prog 122 [.one (.ptr 0 0)] [.var [.c (.sl 1 (List.map cU p_r1.b)), .c (.lit (.int .i64 p_r1.p))]] (fun r1 b1 => r1 = .agg [.c (.lit (.int .i64 r.1.Kind)), .c (.lit (.int .i64 r.1.Num)), .c (.str r.1.Text), .c (.sl 1 (List.map cS r.1.Names)), .c (.sl 5 (List.map NodeT.cells r.1.Kids))] ∧ b1 = [.var [.c (.sl 1 (List.map cU r.2.b)), .c (.lit (.int .i64 r.2.p))]]) := by
  intro p_r1 r h
  refine fun_sound K.spec_someNode (ofK ?_)
  unfold C.spec_someNode
  rcases n with _ | n <;> simp only [G.spec_someNode, reduceCtorEq] at h
  obtain ⟨zc, zg, zk, zu, ze, zj, zt⟩ := pp (pp @F.spec_validNode ()) <| pp (pp (pp @F.spec_randomNode (@cG [0] [])) <| pp (pp @F.spec_reader_pick (@cG [0] [])) <| pp (pp @F.spec_randomMap (@cG [0] [])) ()) <| pp () <| pp (pp (@cutX (List Int × Int × Int × Int × Txt × List Txt × List NodeT) _ (fun n x => G.spec_someNode.K1 n x.1 x.2.1 x.2.2.1 x.2.2.2.1 x.2.2.2.2.1 x.2.2.2.2.2.1 x.2.2.2.2.2.2) r (fun x => ASt.of [(2, .v true (.one (.ptr 101 0))), (3, .v true (.one (.ptr 102 0)))] [(0, .var [.c (.sl 1 (List.map cU x.1)), .c (.lit (.int .i64 x.2.1))]), (101, .var [.c (.lit (.int .i64 0)), .c (.lit (.int .i64 0)), .c (.str []), .nsl 1, .nsl 5]), (102, .var [.c (.lit (.int .i64 x.2.2.1)), .c (.lit (.int .i64 x.2.2.2.1)), .c (.str x.2.2.2.2.1), .c (.sl 1 (List.map cS x.2.2.2.2.2.1)), .c (.sl 5 (List.map NodeT.cells x.2.2.2.2.2.2))])])) ()) <| pp (pp (And.intro @G.spec_someNode.K1.eq_1 <| @G.spec_someNode.K1.eq_2) ()) <| pp (pp (@weakX [] [(0, 0), (101, 10), (102, 11)] []) ()) <| (pp (@retX [] [(0, 0)] []) ())
  exact drv
theorem F.spec_someNode_o {n : Nat} : ∀ {p_r1 : ReaderT} {r : NodeT × ReaderT}, G.spec_someNode n p_r1 = some r → ACalls Go.Proofs.Tryz.prog 122 [.one (.ptr 0 0)] [.var [.c (.sl 1 (List.map cU p_r1.b)), .c (.lit (.int .i64 p_r1.p))]] (fun r1 b1 => r1 = .agg [.c (.lit (.int .i64 r.1.Kind)), .c (.lit (.int .i64 r.1.Num)), .c (.str r.1.Text), .own 1 r.1.Names.length 1, .own 2 r.1.Kids.length 5] ∧ b1 = [.var [.c (.sl 1 (List.map cU r.2.b)), .c (.lit (.int .i64 r.2.p))], .dat 1 (List.map cS r.1.Names), .dat 5 (List.map NodeT.cells r.1.Kids)]) := by
  intro p_r1 r h
  refine fun_sound K.spec_someNode (ofK ?_)
  unfold C.spec_someNode
  rcases n with _ | n <;> simp only [G.spec_someNode, reduceCtorEq] at h
  obtain ⟨zc, zg, zk, zu, ze, zj, zt⟩ := pp (pp @F.spec_validNode ()) <| pp (pp (pp @F.spec_randomNode_o (@cG [0] [101, 102])) <| pp (pp @F.spec_reader_pick (@cG [0] [])) <| pp (pp @F.spec_randomMap_o (@cG [0] [109, 110])) ()) <| pp () <| pp (pp (@cutX (List Int × Int × Int × Int × Txt × List Txt × List NodeT) _ (fun n x => G.spec_someNode.K1 n x.1 x.2.1 x.2.2.1 x.2.2.2.1 x.2.2.2.2.1 x.2.2.2.2.2.1 x.2.2.2.2.2.2) r (fun x => ASt.of [(2, .v true (.one (.ptr 105 0))), (3, .v true (.one (.ptr 106 0)))] [(0, .var [.c (.sl 1 (List.map cU x.1)), .c (.lit (.int .i64 x.2.1))]), (105, .var [.c (.lit (.int .i64 0)), .c (.lit (.int .i64 0)), .c (.str []), .nsl 1, .nsl 5]), (106, .var [.c (.lit (.int .i64 x.2.2.1)), .c (.lit (.int .i64 x.2.2.2.1)), .c (.str x.2.2.2.2.1), .own 107 x.2.2.2.2.2.1.length 1, .own 108 x.2.2.2.2.2.2.length 5]), (107, .dat 1 (List.map cS x.2.2.2.2.2.1)), (108, .dat 5 (List.map NodeT.cells x.2.2.2.2.2.2))])) ()) <| pp (pp (And.intro @G.spec_someNode.K1.eq_1 <| @G.spec_someNode.K1.eq_2) ()) <| pp (pp (@weakX [] [(0, 0), (105, 10), (106, 11), (107, 109), (108, 110)] []) <| pp (@weakX [] [(0, 0), (105, 10), (106, 11), (107, 101), (108, 102)] []) ()) <| (pp (@retX [] [(0, 0), (1, 107), (2, 108)] []) <| pp (@retX [] [(0, 0)] [1, 2]) ())
  exact drv
theorem F.spec_anyNode {n : Nat} : ∀ {p_r1 : ReaderT} {r : NodeT × ReaderT}, G.spec_anyNode n p_r1 = some r → ACalls Go.Proofs.Tryz.prog 75 [.one (.ptr 0 0)] [.var [.c (.sl 1 (List.map cU p_r1.b)), .c (.lit (.int .i64 p_r1.p))]] (fun r1 b1 => r1 = .agg [.c (.lit (.int .i64 r.1.Kind)), .c (.lit (.int .i64 r.1.Num)), .c (.str r.1.Text), .c (.sl 1 (List.map cS r.1.Names)), .c (.sl 5 (List.map NodeT.cells r.1.Kids))] ∧ b1 = [.var [.c (.sl 1 (List.map cU r.2.b)), .c (.lit (.int .i64 r.2.p))]]) := by
  intro p_r1 r h
  refine fun_sound K.spec_anyNode (ofK ?_)
  unfold C.spec_anyNode
  rcases n with _ | n <;> simp only [G.spec_anyNode, reduceCtorEq] at h
  obtain ⟨zc, zg, zk, zu, ze, zj, zt⟩ := pp (pp @F.spec_copyNode ()) <| pp (pp (pp @F.spec_someNode_o (@cG [0] [101, 102])) <| pp (pp @F.spec_reader_pick (@cG [0] [])) <| pp (pp @F.spec_reader_one (@cH [0] [])) ()) <| pp (pp (@lopX ((NodeT × ReaderT) × Int × List Int × Int × List NodeT) _ (fun n x => G.spec_anyNode.L1 n x.1 x.2.1 x.2.2.1 x.2.2.2.1 x.2.2.2.2) r (fun x => ASt.of [(0, .v true (.one (.ptr 0 0))), (2, .v true (.one (.ptr 113 0))), (3, .v true (.one (.ptr 114 0))), (4, .v true (.one (.own 115 x.2.2.2.2.length 5))), (5, .v true (.one (.c (.lit (.int .i64 x.2.1)))))] [(0, .var [.c (.sl 1 (List.map cU x.2.2.1)), .c (.lit (.int .i64 x.2.2.2.1))]), (113, .var [.c (.lit (.int .i64 0)), .c (.lit (.int .i64 0)), .c (.str []), .nsl 1, .nsl 5]), (114, .var [.c (.lit (.int .i64 x.1.1.Kind)), .c (.lit (.int .i64 x.1.1.Num)), .c (.str x.1.1.Text), .own 116 x.1.1.Names.length 1, .own 117 x.1.1.Kids.length 5]), (115, .dat 5 (List.map NodeT.cells x.2.2.2.2)), (116, .frz 1 (List.map cS x.1.1.Names)), (117, .frz 5 (List.map NodeT.cells x.1.1.Kids))])) ()) <| pp () <| pp (pp (And.intro @G.spec_anyNode.L1.eq_1 <| @G.spec_anyNode.L1.eq_2) ()) <| pp (pp (@weakX [101, 102] [(0, 0), (113, 10), (114, 11), (115, 20), (116, 101), (117, 102)] []) <| pp (@weakX [] [(0, 0), (113, 113), (114, 114), (115, 22), (116, 116), (117, 117)] []) ()) <| (pp (@retX [101, 102] [(0, 0)] []) <| pp (@retX [15, 102] [(0, 0)] []) <| pp (@retX [19] [(0, 0)] []) <| pp (@retX [115] [(0, 0)] []) ())
  exact drv
theorem F.spec_at {n : Nat} : ∀ {a_n1 : NodeT} {a_path1 : List Txt} {r : NodeT × Bool}, G.spec_at n a_n1 a_path1 = some r → APure Go.Proofs.Tryz.prog 115 [.agg [.c (.lit (.int .i64 a_n1.Kind)), .c (.lit (.int .i64 a_n1.Num)), .c (.str a_n1.Text), .c (.sl 1 (List.map cS a_n1.Names)), .c (.sl 5 (List.map NodeT.cells a_n1.Kids))], .one (.c (.sl 1 (List.map cS a_path1)))] (.tup [(true, [.c (.lit (.int .i64 r.1.Kind)), .c (.lit (.int .i64 r.1.Num)), .c (.str r.1.Text), .c (.sl 1 (List.map cS r.1.Names)), .c (.sl 5 (List.map NodeT.cells r.1.Kids))]), (false, [.c (.lit (.bool r.2))])]) := by
  intro a_n1 a_path1 r h
  refine fun_pure K.spec_at (ofK ?_)
  unfold C.spec_at
  rcases n with _ | n <;> simp only [G.spec_at, reduceCtorEq] at h
  obtain ⟨zc, zg, zk, zu, ze, zj, zt⟩ := pp (pp @F.spec_place <| pp @F.spec_copyNode ()) <| pp () <| pp (pp (@lopX (Int × Int × Int × Txt × List Txt × List NodeT) _ (fun n x => G.spec_at.L1 n a_path1 x.1 x.2.1 x.2.2.1 x.2.2.2.1 x.2.2.2.2.1 x.2.2.2.2.2) r (fun x => ASt.of [(1, .v true (.one (.c (.sl 1 (List.map cS a_path1))))), (2, .v true (.one (.ptr 105 0))), (4, .v true (.one (.ptr 106 0))), (6, .v true (.one (.c (.lit (.int .i64 x.1)))))] [(105, .var [.c (.lit (.int .i64 x.2.1)), .c (.lit (.int .i64 x.2.2.1)), .c (.str x.2.2.2.1), .c (.sl 1 (List.map cS x.2.2.2.2.1)), .c (.sl 5 (List.map NodeT.cells x.2.2.2.2.2))]), (106, .var [.c (.lit (.int .i64 0)), .c (.lit (.int .i64 0)), .c (.str []), .nsl 1, .nsl 5])])) ()) <| pp () <| pp (pp (And.intro @G.spec_at.L1.eq_1 <| @G.spec_at.L1.eq_2) ()) <| pp (pp (@weakX [] [(105, 10), (106, 11)] []) <| pp (@weakX [] [(105, 105), (106, 106)] []) ()) <| ()
  exact drv
theorem F.spec_setAt_n : ∀ (n : Nat), ∀ {a_n1 : NodeT} {a_path1 : List Txt} {a_value1 : NodeT} {r : NodeT × Bool}, G.spec_setAt n a_n1 a_path1 a_value1 = some r → APure Go.Proofs.Tryz.prog 127 [.agg [.c (.lit (.int .i64 a_n1.Kind)), .c (.lit (.int .i64 a_n1.Num)), .c (.str a_n1.Text), .c (.sl 1 (List.map cS a_n1.Names)), .c (.sl 5 (List.map NodeT.cells a_n1.Kids))], .one (.c (.sl 1 (List.map cS a_path1))), .agg [.c (.lit (.int .i64 a_value1.Kind)), .c (.lit (.int .i64 a_value1.Num)), .c (.str a_value1.Text), .c (.sl 1 (List.map cS a_value1.Names)), .c (.sl 5 (List.map NodeT.cells a_value1.Kids))]] (.tup [(true, [.c (.lit (.int .i64 r.1.Kind)), .c (.lit (.int .i64 r.1.Num)), .c (.str r.1.Text), .c (.sl 1 (List.map cS r.1.Names)), .c (.sl 5 (List.map NodeT.cells r.1.Kids))]), (false, [.c (.lit (.bool r.2))])]) := by
  intro n
  induction n using Nat.strongRecOn with | _ n ih =>
  intro a_n1 a_path1 a_value1 r h
  refine fun_pure K.spec_setAt (ofK ?_)
  unfold C.spec_setAt
  rcases n with _ | n <;> simp only [G.spec_setAt, reduceCtorEq] at h
  obtain ⟨zc, zg, zk, zu, ze, zj, zt⟩ := pp (pp ih <| pp @F.spec_copyNode <| pp @F.spec_place <| pp @F.spec_withKid ()) <| pp () <| pp () <| pp () <| pp () <| pp () <| ()
  exact drv
theorem F.spec_setAt {n : Nat} : ∀ {a_n1 : NodeT} {a_path1 : List Txt} {a_value1 : NodeT} {r : NodeT × Bool}, G.spec_setAt n a_n1 a_path1 a_value1 = some r → APure Go.Proofs.Tryz.prog 127 [.agg [.c (.lit (.int .i64 a_n1.Kind)), .c (.lit (.int .i64 a_n1.Num)), .c (.str a_n1.Text), .c (.sl 1 (List.map cS a_n1.Names)), .c (.sl 5 (List.map NodeT.cells a_n1.Kids))], .one (.c (.sl 1 (List.map cS a_path1))), .agg [.c (.lit (.int .i64 a_value1.Kind)), .c (.lit (.int .i64 a_value1.Num)), .c (.str a_value1.Text), .c (.sl 1 (List.map cS a_value1.Names)), .c (.sl 5 (List.map NodeT.cells a_value1.Kids))]] (.tup [(true, [.c (.lit (.int .i64 r.1.Kind)), .c (.lit (.int .i64 r.1.Num)), .c (.str r.1.Text), .c (.sl 1 (List.map cS r.1.Names)), .c (.sl 5 (List.map NodeT.cells r.1.Kids))]), (false, [.c (.lit (.bool r.2))])]) := F.spec_setAt_n n
theorem F.spec_addAt {n : Nat} : ∀ {a_n1 : NodeT} {a_path1 : List Txt} {a_value1 : NodeT} {r : NodeT × Bool}, G.spec_addAt n a_n1 a_path1 a_value1 = some r → APure Go.Proofs.Tryz.prog 124 [.agg [.c (.lit (.int .i64 a_n1.Kind)), .c (.lit (.int .i64 a_n1.Num)), .c (.str a_n1.Text), .c (.sl 1 (List.map cS a_n1.Names)), .c (.sl 5 (List.map NodeT.cells a_n1.Kids))], .one (.c (.sl 1 (List.map cS a_path1))), .agg [.c (.lit (.int .i64 a_value1.Kind)), .c (.lit (.int .i64 a_value1.Num)), .c (.str a_value1.Text), .c (.sl 1 (List.map cS a_value1.Names)), .c (.sl 5 (List.map NodeT.cells a_value1.Kids))]] (.tup [(true, [.c (.lit (.int .i64 r.1.Kind)), .c (.lit (.int .i64 r.1.Num)), .c (.str r.1.Text), .c (.sl 1 (List.map cS r.1.Names)), .c (.sl 5 (List.map NodeT.cells r.1.Kids))]), (false, [.c (.lit (.bool r.2))])]) := by
  intro a_n1 a_path1 a_value1 r h
  refine fun_pure K.spec_addAt (ofK ?_)
  unfold C.spec_addAt
  rcases n with _ | n <;> simp only [G.spec_addAt, reduceCtorEq] at h
  obtain ⟨zc, zg, zk, zu, ze, zj, zt⟩ := pp (pp @F.spec_copyNode <| pp @F.spec_at <| pp @F.spec_addHere <| pp @F.spec_setAt ()) <| pp () <| pp () <| pp () <| pp () <| pp () <| ()
  exact drv
theorem F.spec_all_n : ∀ (n : Nat), ∀ {a_n1 : NodeT} {r : List (List Txt)}, G.spec_all n a_n1 = some r → APure Go.Proofs.Tryz.prog 123 [.agg [.c (.lit (.int .i64 a_n1.Kind)), .c (.lit (.int .i64 a_n1.Num)), .c (.str a_n1.Text), .c (.sl 1 (List.map cS a_n1.Names)), .c (.sl 5 (List.map NodeT.cells a_n1.Kids))]] (.one (.c (.sl 1 (List.map (cL 1 cS) r)))) := by
  intro n
  induction n using Nat.strongRecOn with | _ n ih =>
  intro a_n1 r h
  refine fun_pure K.spec_all (ofK ?_)
  unfold C.spec_all
  rcases n with _ | n <;> simp only [G.spec_all, reduceCtorEq] at h
  obtain ⟨zc, zg, zk, zu, ze, zj, zt⟩ := pp (pp ih <| pp @F.spec_decimal ()) <| pp () <| pp (pp (@lopX (Int × List (List Txt)) _ (fun n x => G.spec_all.L5 n a_n1 x.1 x.2) r (fun x => ASt.of [(1, .v true (.one (.ptr 121 0))), (3, .v true (.one (.own 122 x.2.length 1))), (4, .v true (.one (.c (.lit (.int .i64 x.1)))))] [(121, .var [.c (.lit (.int .i64 a_n1.Kind)), .c (.lit (.int .i64 a_n1.Num)), .c (.str a_n1.Text), .c (.sl 1 (List.map cS a_n1.Names)), .c (.sl 5 (List.map NodeT.cells a_n1.Kids))]), (122, .dat 1 (List.map (cL 1 cS) x.2))])) <| pp (@lopX (Int × Txt × List (List Txt) × Int × List (List Txt)) _ (fun n x => G.spec_all.L7 n a_n1 x.1 x.2.1 x.2.2.1 x.2.2.2.1 x.2.2.2.2) r (fun x => ASt.of [(1, .v true (.one (.ptr 129 0))), (3, .v true (.one (.own 130 x.2.2.2.2.length 1))), (4, .v true (.one (.c (.lit (.int .i64 x.1))))), (5, .v true (.one (.c (.str x.2.1)))), (6, .v true (.one (.c (.sl 1 (List.map (cL 1 cS) x.2.2.1))))), (7, .v true (.one (.c (.lit (.int .i64 x.2.2.2.1)))))] [(129, .var [.c (.lit (.int .i64 a_n1.Kind)), .c (.lit (.int .i64 a_n1.Num)), .c (.str a_n1.Text), .c (.sl 1 (List.map cS a_n1.Names)), .c (.sl 5 (List.map NodeT.cells a_n1.Kids))]), (130, .dat 1 (List.map (cL 1 cS) x.2.2.2.2))])) ()) <| pp (pp (@cutX (Int × List (List Txt) × Txt) _ (fun n x => G.spec_all.K6 n a_n1 x.1 x.2.1 x.2.2) r (fun x => ASt.of [(1, .v true (.one (.ptr 123 0))), (3, .v true (.one (.own 124 x.2.1.length 1))), (4, .v true (.one (.c (.lit (.int .i64 x.1))))), (5, .v true (.one (.c (.str x.2.2))))] [(123, .var [.c (.lit (.int .i64 a_n1.Kind)), .c (.lit (.int .i64 a_n1.Num)), .c (.str a_n1.Text), .c (.sl 1 (List.map cS a_n1.Names)), .c (.sl 5 (List.map NodeT.cells a_n1.Kids))]), (124, .dat 1 (List.map (cL 1 cS) x.2.1))])) ()) <| pp (pp (And.intro @G.spec_all.L5.eq_1 <| And.intro @G.spec_all.L5.eq_2 <| And.intro @G.spec_all.K6.eq_1 <| And.intro @G.spec_all.K6.eq_2 <| And.intro @G.spec_all.L7.eq_1 <| @G.spec_all.L7.eq_2) ()) <| pp (pp (@weakX [] [(121, 10), (122, 12)] []) <| pp (@weakX [] [(123, 121), (124, 122)] []) <| pp (@weakX [] [(129, 123), (130, 124)] []) <| pp (@weakX [] [(129, 129), (130, 16)] []) <| pp (@weakX [] [(121, 129), (122, 130)] []) ()) <| ()
  exact drv
theorem F.spec_all {n : Nat} : ∀ {a_n1 : NodeT} {r : List (List Txt)}, G.spec_all n a_n1 = some r → APure Go.Proofs.Tryz.prog 123 [.agg [.c (.lit (.int .i64 a_n1.Kind)), .c (.lit (.int .i64 a_n1.Num)), .c (.str a_n1.Text), .c (.sl 1 (List.map cS a_n1.Names)), .c (.sl 5 (List.map NodeT.cells a_n1.Kids))]] (.one (.c (.sl 1 (List.map (cL 1 cS) r)))) := F.spec_all_n n
theorem F.spec_removeAt {n : Nat} : ∀ {a_n1 : NodeT} {a_path1 : List Txt} {r : NodeT × Bool}, G.spec_removeAt n a_n1 a_path1 = some r → APure Go.Proofs.Tryz.prog 90 [.agg [.c (.lit (.int .i64 a_n1.Kind)), .c (.lit (.int .i64 a_n1.Num)), .c (.str a_n1.Text), .c (.sl 1 (List.map cS a_n1.Names)), .c (.sl 5 (List.map NodeT.cells a_n1.Kids))], .one (.c (.sl 1 (List.map cS a_path1)))] (.tup [(true, [.c (.lit (.int .i64 r.1.Kind)), .c (.lit (.int .i64 r.1.Num)), .c (.str r.1.Text), .c (.sl 1 (List.map cS r.1.Names)), .c (.sl 5 (List.map NodeT.cells r.1.Kids))]), (false, [.c (.lit (.bool r.2))])]) := by
  intro a_n1 a_path1 r h
  refine fun_pure K.spec_removeAt (ofK ?_)
  unfold C.spec_removeAt
  rcases n with _ | n <;> simp only [G.spec_removeAt, reduceCtorEq] at h
  obtain ⟨zc, zg, zk, zu, ze, zj, zt⟩ := pp (pp @F.spec_at <| pp @F.spec_place <| pp @F.spec_setAt ()) <| pp () <| pp () <| pp (pp (@cutX ((NodeT × Bool) × List NodeT × List Txt) _ (fun n x => G.spec_removeAt.K1 n a_n1 a_path1 x.1 x.2.1 x.2.2) r (fun x => ASt.of [(1, .v true (.one (.c (.sl 1 (List.map cS a_path1))))), (2, .v true (.one (.ptr 101 0))), (4, .v true (.one (.ptr 102 0))), (6, .v true (.one (.c (.lit (.int .i64 (IntKind.wrap .i64 (((a_path1.length : Nat) : Int) - 1))))))), (7, .v true (.one (.ptr 103 0))), (10, .v true (.one (.own 104 x.2.1.length 5))), (11, .v true (.one (.own 105 x.2.2.length 1)))] [(101, .var [.c (.lit (.int .i64 a_n1.Kind)), .c (.lit (.int .i64 a_n1.Num)), .c (.str a_n1.Text), .c (.sl 1 (List.map cS a_n1.Names)), .c (.sl 5 (List.map NodeT.cells a_n1.Kids))]), (102, .var [.c (.lit (.int .i64 0)), .c (.lit (.int .i64 0)), .c (.str []), .nsl 1, .nsl 5]), (103, .var [.c (.lit (.int .i64 x.1.1.Kind)), .c (.lit (.int .i64 x.1.1.Num)), .c (.str x.1.1.Text), .c (.sl 1 (List.map cS x.1.1.Names)), .c (.sl 5 (List.map NodeT.cells x.1.1.Kids))]), (104, .dat 5 (List.map NodeT.cells x.2.1)), (105, .dat 1 (List.map cS x.2.2))])) ()) <| pp (pp (And.intro @G.spec_removeAt.K1.eq_1 <| @G.spec_removeAt.K1.eq_2) ()) <| pp (pp (@weakX [] [(101, 10), (102, 11), (103, 12), (104, 15), (105, 19)] []) <| pp (@weakX [] [(101, 10), (102, 11), (103, 12), (104, 15), (105, 16)] []) ()) <| ()
  exact drv
theorem F.spec_nearNode {n : Nat} : ∀ {p_r1 : ReaderT} {a_n1 : NodeT} {r : NodeT × ReaderT}, G.spec_nearNode n p_r1 a_n1 = some r → ACalls Go.Proofs.Tryz.prog 76 [.one (.ptr 0 0), .agg [.c (.lit (.int .i64 a_n1.Kind)), .c (.lit (.int .i64 a_n1.Num)), .c (.str a_n1.Text), .c (.sl 1 (List.map cS a_n1.Names)), .c (.sl 5 (List.map NodeT.cells a_n1.Kids))]] [.var [.c (.sl 1 (List.map cU p_r1.b)), .c (.lit (.int .i64 p_r1.p))]] (fun r1 b1 => r1 = .agg [.c (.lit (.int .i64 r.1.Kind)), .c (.lit (.int .i64 r.1.Num)), .c (.str r.1.Text), .c (.sl 1 (List.map cS r.1.Names)), .c (.sl 5 (List.map NodeT.cells r.1.Kids))] ∧ b1 = [.var [.c (.sl 1 (List.map cU r.2.b)), .c (.lit (.int .i64 r.2.p))]]) := by
  intro p_r1 a_n1 r h
  refine fun_sound K.spec_nearNode (ofK ?_)
  unfold C.spec_nearNode
  rcases n with _ | n <;> simp only [G.spec_nearNode, reduceCtorEq] at h
  obtain ⟨zc, zg, zk, zu, ze, zj, zt⟩ := pp (pp @F.spec_all <| pp @F.spec_copyNode <| pp @F.spec_removeAt <| pp @F.spec_addAt <| pp @F.spec_setAt <| pp @F.spec_validNode ()) <| pp (pp (pp @F.spec_reader_pick (@cG [0] [])) <| pp (pp @F.spec_reader_of (@cH [0] [])) <| pp (pp @F.spec_randomNode (@cG [0] [])) <| pp (pp @F.spec_someNode (@cG [0] [])) ()) <| pp () <| pp (pp (@cutX (Bool × List Int × Int × Int × Int × Txt × List Txt × List NodeT) _ (fun n x => G.spec_nearNode.K1 n a_n1 x.1 x.2.1 x.2.2.1 x.2.2.2.1 x.2.2.2.2.1 x.2.2.2.2.2.1 x.2.2.2.2.2.2.1 x.2.2.2.2.2.2.2) r (fun x => ASt.of [(3, .v true (.one (.ptr 101 0))), (4, .v true (.one (.ptr 102 0))), (7, .v true (.one (.ptr 103 0))), (8, .v true (.one (.c (.lit (.bool x.1)))))] [(0, .var [.c (.sl 1 (List.map cU x.2.1)), .c (.lit (.int .i64 x.2.2.1))]), (101, .var [.c (.lit (.int .i64 a_n1.Kind)), .c (.lit (.int .i64 a_n1.Num)), .c (.str a_n1.Text), .c (.sl 1 (List.map cS a_n1.Names)), .c (.sl 5 (List.map NodeT.cells a_n1.Kids))]), (102, .var [.c (.lit (.int .i64 0)), .c (.lit (.int .i64 0)), .c (.str []), .nsl 1, .nsl 5]), (103, .var [.c (.lit (.int .i64 x.2.2.2.1)), .c (.lit (.int .i64 x.2.2.2.2.1)), .c (.str x.2.2.2.2.2.1), .c (.sl 1 (List.map cS x.2.2.2.2.2.2.1)), .c (.sl 5 (List.map NodeT.cells x.2.2.2.2.2.2.2))])])) ()) <| pp (pp (And.intro @G.spec_nearNode.K1.eq_1 <| @G.spec_nearNode.K1.eq_2) ()) <| pp (pp (@weakX [] [(0, 0), (101, 10), (102, 11), (103, 12)] []) ()) <| (pp (@retX [] [(0, 0)] []) ())
  exact drv
end Go.Ab
end
