/- The law FnApplyOpMove of the package laws answers true for every code of bytes and leaves it as it is: the abstract interpreter of the program, the printed functions and proofs, the laws of the data, the statement (part 5 of the proof). Conditions: none but what the row lists. -/
import Derived.Test.YtflehdldhoebbaaGreatDoorN2
set_option linter.unusedVariables false
set_option linter.unusedSimpArgs false
section
namespace Go.Ab
open Go
def Tot {α : Type} (Q : α → Prop) (F : Nat → Option α) : Prop := ∃ x, Ev F x ∧ Q x
section
variable {α β : Type} {Q : α → Prop} {F F' : Nat → Option α}
theorem Tot.up (h : Tot Q (fun n => F (n + 1))) : Tot Q F := let ⟨x, g, q⟩ := h; ⟨x, Ev.up g, q⟩
theorem Tot.ret {x : α} (h : Q x) : Tot Q (fun _ => some x) := ⟨x, Ev.ret x, h⟩
theorem Tot.bind {P : β → Prop} {h : Nat → Option β} {k : Nat → β → Option α} (h1 : Tot P h) (h2 : ∀ x, P x → Tot Q (fun n => k n x)) : Tot Q (fun n => Option.bind (h n) (k n)) := by
  obtain ⟨x, g, p⟩ := h1
  obtain ⟨y, g', q⟩ := h2 x p
  exact ⟨y, Ev.bind g g', q⟩
theorem Tot.bindE {a : β} {h : Nat → Option β} {k : Nat → β → Option α} (h1 : Ev h a) (h2 : Tot Q (fun n => k n a)) : Tot Q (fun n => Option.bind (h n) (k n)) := by
  obtain ⟨y, g', q⟩ := h2
  exact ⟨y, Ev.bind h1 g', q⟩
theorem Tot.chk {p : Prop} [Decidable p] (hp : p) (h : Tot Q F) : Tot Q (fun n => Ab.chk p (F n)) := let ⟨x, g, q⟩ := h; ⟨x, Ev.chk hp g, q⟩
theorem Tot.ite {c : Bool} (h : c = true → Tot Q F) (h' : c = false → Tot Q F') : Tot Q (fun n => cond c (F n) (F' n)) := by
  cases c
  · exact h' rfl
  · exact h rfl
theorem Tot.mono {P : α → Prop} (h : Tot P F) (hq : ∀ x, P x → Q x) : Tot Q F := let ⟨x, g, q⟩ := h; ⟨x, g, hq x q⟩
end
abbrev Dr {α : Type} (L : Nat) (Q : α → Prop) (F : Nat → Option (α × ReaderT)) : Prop := Tot (fun x => Q x.1 ∧ RdOK L x.2) F
theorem D.pick {K : Nat} {r : ReaderT} (hr : RdOK K r) (hK : K ≤ 1000000000) {M : Int} {m : Nat} (hM : M = (m : Int)) (h0 : 0 < m) (h1 : m ≤ 1000000000) :
    Dr (K + 1) (fun x : Int => ∃ v : Nat, x = (v : Int) ∧ v < m) (fun f => G.spec_reader_pick f r M) := by
  subst hM
  obtain ⟨v, r', g, hv, hr'⟩ := T.pick hr hK h0 h1
  exact ⟨_, g, ⟨v, rfl, hv⟩, hr'⟩
theorem D.one {K : Nat} {r : ReaderT} (hr : RdOK K r) (hK : K ≤ 1000000000) (l : List Int) (h0 : 0 < l.length) (h1 : l.length ≤ 1000) : Dr (K + 1) (fun x : Int => x ∈ l) (fun f => G.spec_reader_one f r l) := by
  obtain ⟨v, r', g, hv, hr'⟩ := T.one hr hK l h0 h1
  exact ⟨_, g, hv, hr'⟩
theorem D.of {K m : Nat} {r : ReaderT} (hr : RdOK K r) (hK : K ≤ 1000000000) (l : List Txt) (h0 : 0 < l.length) (h1 : l.length ≤ 1000) (hm : l.all (fun s => decide (s.length ≤ m)) = true) :
    Dr (K + 1) (fun x : Txt => x.length ≤ m) (fun f => G.spec_reader_of f r l) := by
  obtain ⟨v, r', g, hv, hr'⟩ := T.of hr hK l h0 h1
  exact ⟨_, g, all_len hm hv, hr'⟩
abbrev FineE (B : Nat) (n : NodeT) : Prop := ∃ D, Fine B D n
theorem D.randomMap {d M : Nat} (hM : M ≤ 900000000) (hd : d ≤ 10) (hrec : ∀ K r, RdOK K r → K ≤ M → Drawn d K (fun f => G.spec_randomNode f r ((d + 1 : Nat) : Int)))
    {K : Nat} {r : ReaderT} (hr : RdOK K r) (hK : K + 1 + 4 * (1 + stp d) ≤ M) : Dr (K + 1 + 4 * (1 + stp d)) (FineE (24 + 20 * d)) (fun f => G.spec_randomMap f r ((d + 2 : Nat) : Int)) := by
  refine Tot.up ?_
  simp only [G.spec_randomMap]
  refine Tot.bind (D.one hr (by omega) [2, 3, 1, 0, 4] (by decide) (by decide)) ?_
  rintro ⟨x, r'⟩ ⟨hx, hr'⟩
  obtain ⟨j, rfl, hj⟩ : ∃ j : Nat, x = (j : Int) ∧ j ≤ 4 := ⟨x.toNat, by simp at hx; omega⟩
  have hm : j * (1 + stp d) ≤ 4 * (1 + stp d) := Nat.mul_le_mul_right _ hj
  obtain ⟨m, r2, D', g, hm', hr2⟩ := T.randomMap.L1 hM hd hrec j (K + 1) (20 + 20 * d) 1 r' (NodeT.mk 4 0 [] [] []) hr' (by omega) (Nat.le_refl _) (by omega) (fine_leaf (by simp) rfl rfl)
  exact ⟨(m, r2), g, ⟨D', hm'.mono (by omega) (Nat.le_refl _)⟩, hr2.mono (by omega)⟩
theorem fine_list {B D : Nat} {k : Int} {l : List NodeT} (hk : k ≠ 4) (hl : l.length ≤ B) (h : ∀ x, x ∈ l → Fine B D x) : Fine B (D + 1) (NodeT.mk k 0 [] [] l) :=
  ⟨by simp, by simp, by simp, hl, fun e => absurd e hk, h⟩
theorem D.randomNode.L2 {d M : Nat} (hd : d ≤ 10) (hrec : ∀ K r, RdOK K r → K ≤ M → Drawn d K (fun f => G.spec_randomNode f r ((d + 1 : Nat) : Int))) :
    ∀ (j K D : Nat) (r : ReaderT) (z : List NodeT), RdOK K r → K + j * stp d ≤ M → z.length + j ≤ 10 → (∀ x, x ∈ z → Fine (20 + 20 * d) D x) →
      Dr (K + j * stp d) (FineE (20 + 20 * d)) (fun f => G.spec_randomNode.L2 f ((d + 2 : Nat) : Int) 3 (j : Int) r.b r.p z) := by
  intro j
  induction j with
  | zero =>
    intro K D r z hr hK hz hf
    refine Tot.up ?_
    simp only [G.spec_randomNode.L2]
    exact ⟨_, Ev.cf (by simp) (Ev.ret _), ⟨D + 1, fine_list (by decide) (by omega) hf⟩, hr.mono (by omega)⟩
  | succ j ih =>
    intro K D r z hr hK hz hf
    rw [Nat.add_mul] at hK
    have w : IntKind.wrap .i64 (((d + 2 : Nat) : Int) - 1) = ((d + 1 : Nat) : Int) := wrapN (by omega) (by omega)
    have w2 : IntKind.wrap .i64 (((j + 1 : Nat) : Int) - 1) = (j : Int) := wrapN (by omega) (by omega)
    obtain ⟨kid, r2, E, g2, hk, hr2⟩ := hrec K r hr (by omega)
    refine Tot.up ?_
    simp only [G.spec_randomNode.L2, w, w2]
    obtain ⟨x, g, hx, hr'⟩ := ih (K + stp d) (max D E) r2 (z ++ [kid]) hr2 (by omega) (by simp; omega) (fun x hx => by
      rcases List.mem_append.1 hx with h | h
      · exact (hf x h).mono (Nat.le_refl _) (Nat.le_max_left _ _)
      · simp only [List.mem_singleton] at h; subst h; exact hk.mono (Nat.le_refl _) (Nat.le_max_right _ _))
    exact ⟨x, Ev.ct (by simp) (Ev.bind g2 (Ev.chk (by omega) g)), hx, hr'.mono (by rw [Nat.add_mul]; omega)⟩
theorem D.randomNode.K1 {d k : Nat} (hd : d ≤ 10) (hk : k < 3 ∨ (k < 5 ∧ ∃ e, d = e + 1 ∧ ∀ K r, RdOK K r → K ≤ 900000000 - stp e → Drawn e K (fun f => G.spec_randomNode f r ((e + 1 : Nat) : Int))))
    {K : Nat} {r : ReaderT} (hr : RdOK K r) (hK : K + stp d ≤ 900000002) : Dr (K + stp d - 2) (FineE (20 + 20 * d)) (fun f => G.spec_randomNode.K1 f ((d + 1 : Nat) : Int) (k : Int) r.b r.p) := by
  have h2 : 4 ≤ stp d := by cases d <;> simp only [stp] <;> omega
  refine Tot.up ?_
  simp only [G.spec_randomNode.K1]
  refine Tot.ite (fun e => ?_) (fun e1 => Tot.ite (fun e => ?_) (fun e2 => Tot.ite (fun e => ?_) (fun e3 => Tot.ite (fun e => ?_) (fun e4 => ?_))))
  · refine Tot.bind (D.pick (m := 250) hr (by omega) rfl (by decide) (by decide)) ?_
    rintro ⟨x, r1⟩ ⟨_, hr1⟩
    refine Tot.bind (D.one hr1 (by omega) _ (by simp) (by simp)) ?_
    rintro ⟨y, r2⟩ ⟨_, hr2⟩
    exact Tot.ret ⟨⟨1, fine_leaf (by simp) rfl rfl⟩, hr2.mono (by omega)⟩
  · obtain ⟨x, r1, g, hx, hr1⟩ := T.someText hr (by omega)
    exact Tot.bindE g (Tot.ret ⟨⟨1, fine_leaf (by show x.length ≤ _; omega) rfl rfl⟩, hr1.mono (by omega)⟩)
  · rcases hk with hk | ⟨hk, e', rfl, hrec⟩
    · have : (k : Int) = 3 := by simpa using e
      omega
    · have hk3 : k = 3 := by have : (k : Int) = 3 := by simpa using e
                             omega
      subst hk3
      refine Tot.bind (D.pick (m := 4) hr (by omega) rfl (by decide) (by decide)) ?_
      rintro ⟨x, r1⟩ ⟨⟨j, rfl, hj⟩, hr1⟩
      have hm : j * stp e' ≤ 3 * stp e' := Nat.mul_le_mul_right _ (by omega)
      simp only [stp] at hK h2 ⊢
      refine (D.randomNode.L2 (by omega) hrec j (K + 1) 0 r1 [] hr1 (by omega) (by simp; omega) (fun x h => by cases h)).mono ?_
      rintro ⟨n, r2⟩ ⟨⟨D, hn⟩, hr2⟩
      exact ⟨⟨D, hn.mono (by omega) (Nat.le_refl _)⟩, hr2.mono (by omega)⟩
  · rcases hk with hk | ⟨hk, e', rfl, hrec⟩
    · have : (k : Int) = 4 := by simpa using e
      omega
    · simp only [stp] at hK h2 ⊢
      refine Tot.bind (D.randomMap (Nat.sub_le _ _) (by omega) hrec hr (by omega)) ?_
      rintro ⟨n, r2⟩ ⟨⟨D, hn⟩, hr2⟩
      exact Tot.ret ⟨⟨D, hn.mono (by omega) (Nat.le_refl _)⟩, hr2.mono (by omega)⟩
  · exact Tot.ret ⟨⟨1, fine_leaf (by simp) rfl rfl⟩, hr.mono (by omega)⟩
theorem D.randomNode : ∀ (d : Nat), d ≤ 10 → ∀ K r, RdOK K r → K + stp d ≤ 900000000 → Dr (K + stp d) (FineE (20 + 20 * d)) (fun f => G.spec_randomNode f r ((d + 1 : Nat) : Int))
  | 0, hd, K, r, hr, hK => by
    refine Tot.up ?_
    simp only [G.spec_randomNode]
    refine Tot.bind (D.pick (m := 5) hr (by omega) rfl (by decide) (by decide)) ?_
    rintro ⟨x, r1⟩ ⟨_, hr1⟩
    refine Tot.ite (fun _ => ?_) (fun e => by simp at e)
    refine Tot.bind (D.pick (m := 3) hr1 (by omega) rfl (by decide) (by decide)) ?_
    rintro ⟨y, r2⟩ ⟨⟨k, rfl, hk⟩, hr2⟩
    refine (D.randomNode.K1 (d := 0) (by omega) (.inl hk) (K := K + 2) hr2 (by omega)).mono ?_
    rintro ⟨n, r3⟩ ⟨hn, hr3⟩
    exact ⟨hn, hr3.mono (by omega)⟩
  | d + 1, hd, K, r, hr, hK => by
    refine Tot.up ?_
    simp only [G.spec_randomNode]
    refine Tot.bind (D.pick (m := 5) hr (by omega) rfl (by decide) (by decide)) ?_
    rintro ⟨x, r1⟩ ⟨⟨k, rfl, hk⟩, hr1⟩
    refine Tot.ite (fun e => by simp at e; omega) (fun _ => ?_)
    refine (D.randomNode.K1 (d := d + 1) (by omega) (.inr ⟨hk, d, rfl, fun K' r' hr' hK' => ?_⟩) (K := K + 1) hr1 (by omega)).mono ?_
    · have hs : stp d ≤ 900000000 := by simp only [stp] at hK; omega
      obtain ⟨⟨n, r2⟩, g, ⟨D, hn⟩, hr2⟩ := D.randomNode d (by omega) K' r' hr' (by omega)
      exact ⟨n, r2, D, g, hn, hr2⟩
    · rintro ⟨n, r3⟩ ⟨hn, hr3⟩
      exact ⟨hn, hr3.mono (by omega)⟩
theorem D.node (d : Nat) (hd : d ≤ 2) {M : Int} (hM : M = ((d + 1 : Nat) : Int)) {K : Nat} {r : ReaderT} (hr : RdOK K r) (hK : K ≤ 800000000) : Dr (K + 300) (FineE 60) (fun f => G.spec_randomNode f r M) := by
  subst hM
  have h : stp d ≤ 284 := by
    match d, hd with
    | 0, _ => decide
    | 1, _ => decide
    | 2, _ => decide
  refine (D.randomNode d (by omega) K r hr (by omega)).mono ?_
  rintro ⟨n, r'⟩ ⟨⟨D, hn⟩, hr'⟩
  exact ⟨⟨D, hn.mono (by omega) (Nat.le_refl _)⟩, hr'.mono (by omega)⟩
theorem D.map3 {K : Nat} {r : ReaderT} (hr : RdOK K r) (hK : K ≤ 800000000) : Dr (K + 300) (FineE 60) (fun f => G.spec_randomMap f r 3) := by
  have h1 : stp 1 = 44 := by decide
  refine (D.randomMap (d := 1) (M := 800001000) (by omega) (by decide) (fun K' r' hr' hK' => ?_) hr (by omega)).mono ?_
  · obtain ⟨⟨n, r2⟩, g, ⟨D, hn⟩, hr2⟩ := D.randomNode 1 (by omega) K' r' hr' (by omega)
    exact ⟨n, r2, D, g, hn, hr2⟩
  · rintro ⟨n, r'⟩ ⟨⟨D, hn⟩, hr'⟩
    exact ⟨⟨D, hn.mono (by omega) (Nat.le_refl _)⟩, hr'.mono (by omega)⟩
theorem lim60 : 60 ≤ lim := by decide
theorem val_no : Val noNode = true := by decide
theorem D.someNode.K1 {K : Nat} {r : ReaderT} {n : NodeT} (hr : RdOK K r) (hn : FineE 60 n) : Dr K (fun x => Val x = true) (fun f => G.spec_someNode.K1 f r.b r.p n.Kind n.Num n.Text n.Names n.Kids) := by
  obtain ⟨D, hn⟩ := hn
  refine Tot.up ?_
  simp only [G.spec_someNode.K1, NodeT.eta]
  refine Tot.bindE (T.spec_validNode lim60 hn) (Tot.ite (fun e => Tot.ret ⟨e, hr⟩) (fun _ => Tot.ret ⟨val_no, hr⟩))
theorem D.someNode {K : Nat} {r : ReaderT} (hr : RdOK K r) (hK : K ≤ 700000000) : Dr (K + 601) (fun x => Val x = true) (fun f => G.spec_someNode f r) := by
  refine Tot.up ?_
  simp only [G.spec_someNode]
  refine Tot.bind (D.node 2 (by decide) rfl hr (by omega)) ?_
  rintro ⟨n, r1⟩ ⟨hn, hr1⟩
  refine Tot.bind (D.pick (m := 3) hr1 (by omega) rfl (by decide) (by decide)) ?_
  rintro ⟨x, r2⟩ ⟨_, hr2⟩
  refine Tot.ite (fun _ => ?_) (fun _ => ?_)
  · refine Tot.bind (D.map3 hr2 (by omega)) ?_
    rintro ⟨m, r3⟩ ⟨hm, hr3⟩
    exact (D.someNode.K1 hr3 hm).mono (fun x h => ⟨h.1, h.2.mono (by omega)⟩)
  · exact (D.someNode.K1 hr2 hn).mono (fun x h => ⟨h.1, h.2.mono (by omega)⟩)
theorem D.anyNode.L1 {v : NodeT × ReaderT} (hv : Val v.1 = true) : ∀ (k i K : Nat) (r : ReaderT) (z : List NodeT), i + k = 7 → RdOK K r → K + k + 1 ≤ 900000000 → z.length = i → (∀ x, x ∈ z → Fine 14 5 x) →
    Dr (K + k + 1) (FineE 14) (fun f => G.spec_anyNode.L1 f v (i : Int) r.b r.p z) := by
  intro k
  induction k with
  | zero =>
    intro i K r z hi hr hK hz hf
    refine Tot.up ?_
    simp only [G.spec_anyNode.L1]
    refine Tot.bind (D.pick (m := 2) hr (by omega) rfl (by decide) (by decide)) ?_
    rintro ⟨x, r1⟩ ⟨⟨q, rfl, hq⟩, hr1⟩
    have w : IntKind.wrap .i64 (6 + ((q : Nat) : Int)) = ((6 + q : Nat) : Int) := wrapN (by omega) (by omega)
    simp only [w]
    refine Tot.ite (fun e => by simp at e; omega) (fun _ => Tot.ret ⟨⟨6, fine_list (by decide) (by omega) hf⟩, hr1⟩)
  | succ k ih =>
    intro i K r z hi hr hK hz hf
    refine Tot.up ?_
    simp only [G.spec_anyNode.L1, wrap_suc (show i + 1 < 9223372036854775808 by omega)]
    refine Tot.bind (D.pick (m := 2) hr (by omega) rfl (by decide) (by decide)) ?_
    rintro ⟨x, r1⟩ ⟨_, hr1⟩
    refine Tot.ite (fun _ => ?_) (fun _ => Tot.ret ⟨⟨6, fine_list (by decide) (by omega) hf⟩, hr1.mono (by omega)⟩)
    refine Tot.bindE (T.spec_copyNode lim12 (val_fine hv)) (Tot.chk (by omega) ?_)
    refine (ih (i + 1) (K + 1) r1 (z ++ [v.1]) (by omega) hr1 (by omega) (by simp; omega) (fun x hx => ?_)).mono (fun x h => ⟨h.1, h.2.mono (by omega)⟩)
    rcases List.mem_append.1 hx with h | h
    · exact hf x h
    · simp only [List.mem_singleton] at h; subst h; exact (val_fine hv).mono (by omega) (Nat.le_refl _)
theorem D.anyNode {K : Nat} {r : ReaderT} (hr : RdOK K r) (hK : K ≤ 600000000) : Dr (K + 620) (FineE 14) (fun f => G.spec_anyNode f r) := by
  refine Tot.up ?_
  simp only [G.spec_anyNode]
  refine Tot.bind (D.someNode hr (by omega)) ?_
  rintro ⟨n, r1⟩ ⟨hn, hr1⟩
  replace hn : Val n = true := hn
  have hf := val_fine hn
  obtain ⟨f1, f2, f3, f4, f5, f6⟩ := hf
  have hks : ∀ k, k ∈ n.Kids → Fine 14 4 k := fun k hk => (f6 k hk).mono (by omega) (Nat.le_refl _)
  have hns : ∀ s, s ∈ n.Names → s.length ≤ 14 := fun s hs => Nat.le_trans (f3 s hs) (by omega)
  refine Tot.bind (D.pick (m := 40) hr1 (by omega) rfl (by decide) (by decide)) ?_
  rintro ⟨x, r2⟩ ⟨_, hr2⟩
  refine Tot.ite (fun _ => ?_) (fun _ => Tot.ite (fun _ => ?_) (fun _ => Tot.ite (fun _ => ?_) (fun _ => Tot.ite (fun _ => ?_) (fun _ => Tot.ite (fun _ => ?_) (fun _ => Tot.ite (fun _ => ?_) (fun _ => ?_))))))
  · refine Tot.bind (D.one hr2 (by omega) _ (by decide) (by decide)) ?_
    rintro ⟨y, r3⟩ ⟨hy, hr3⟩
    refine Tot.ret ⟨⟨5, by show n.Text.length ≤ 14; omega, by show n.Names.length ≤ 14; omega, hns, by show n.Kids.length ≤ 14; omega, fun e => ?_, hks⟩, hr3.mono (by omega)⟩
    have e : y = 4 := e
    subst e
    simp at hy
  · refine Tot.bind (D.one hr2 (by omega) _ (by decide) (by decide)) ?_
    rintro ⟨y, r3⟩ ⟨hy, hr3⟩
    exact Tot.ret ⟨⟨5, by show n.Text.length ≤ 14; omega, by show n.Names.length ≤ 14; omega, hns, by show n.Kids.length ≤ 14; omega, f5, hks⟩, hr3.mono (by omega)⟩
  · exact Tot.ret ⟨⟨5, by simp, by show n.Names.length ≤ 14; omega, hns, by show n.Kids.length ≤ 14; omega, f5, hks⟩, hr2.mono (by omega)⟩
  · refine Tot.chk (by simp only; omega) (Tot.ret ⟨⟨5, by show n.Text.length ≤ 14; omega, by show (n.Names ++ [[]]).length ≤ 14; simp; omega, fun s hs => ?_, by show n.Kids.length ≤ 14; omega, fun e => ?_, hks⟩, hr2.mono (by omega)⟩)
    · rcases List.mem_append.1 hs with h | h
      · exact hns s h
      · simp only [List.mem_singleton] at h; subst h; simp
    · have := f5 e
      show n.Kids.length ≤ (n.Names ++ [[]]).length
      simp; omega
  · have h0 : Fine 14 5 n := (val_fine hn).mono (by omega) (Nat.le_refl _)
    have up : ∀ {D m}, Fine 14 D m → Fine 14 (D + 1) (NodeT.mk 3 0 [] [] [m]) := fun hm => fine_list (by decide) (by simp) (fun x hx => by simp only [List.mem_singleton] at hx; subst hx; exact hm)
    exact Tot.ret ⟨⟨9, up (up (up (up h0)))⟩, hr2.mono (by omega)⟩
  · exact (D.anyNode.L1 (v := (n, r1)) hn 7 0 (K + 601 + 1) r2 [] (by omega) hr2 (by omega) rfl (fun x h => by cases h)).mono (fun x h => ⟨h.1, h.2.mono (by omega)⟩)
  · exact Tot.ret ⟨⟨5, (val_fine hn).mono (by omega) (Nat.le_refl _)⟩, hr2.mono (by omega)⟩
end Go.Ab
end
section
namespace Go.Ab
open Go
theorem D.anyPath.L1 : ∀ (j K : Nat) (r : ReaderT) (z : List Txt), RdOK K r → K + j + 2 ≤ 900000000 → z.length + j ≤ 6 → (∀ s, s ∈ z → s.length ≤ 13) →
    Dr (K + j + 2) (FineP 13) (fun f => G.spec_anyPath.L1 f (j : Int) r.b r.p z) := by
  intro j
  induction j with
  | zero =>
    intro K r z hr hK hz hs
    refine Tot.up ?_
    simp only [G.spec_anyPath.L1]
    refine Tot.ite (fun e => by simp at e) (fun _ => Tot.ite (fun e => ?_) (fun _ => Tot.ret ⟨⟨by show z.length ≤ 13; omega, hs⟩, hr.mono (by omega)⟩))
    refine Tot.bind (D.pick (m := 20) hr (by omega) rfl (by decide) (by decide)) ?_
    rintro ⟨x, r1⟩ ⟨_, hr1⟩
    refine Tot.ite (fun _ => ?_) (fun _ => Tot.ret ⟨⟨by show z.length ≤ 13; omega, hs⟩, hr1.mono (by omega)⟩)
    refine Tot.bind (D.of (m := 13) hr1 (by omega) _ (by decide) (by decide) (by decide)) ?_
    rintro ⟨y, r2⟩ ⟨hy, hr2⟩
    refine Tot.chk (by simp at e; omega) (Tot.ret ⟨⟨by show (z.set 0 y).length ≤ 13; simp; omega, fun s h => ?_⟩, hr2.mono (by omega)⟩)
    rcases List.mem_or_eq_of_mem_set h with h | rfl
    · exact hs s h
    · exact hy
  | succ j ih =>
    intro K r z hr hK hz hs
    have w2 : IntKind.wrap .i64 (((j + 1 : Nat) : Int) - 1) = (j : Int) := wrapN (by omega) (by omega)
    refine Tot.up ?_
    simp only [G.spec_anyPath.L1, w2]
    refine Tot.ite (fun _ => ?_) (fun e => by simp at e)
    refine Tot.bind (D.of (m := 13) hr (by omega) _ (by decide) (by decide) (by decide)) ?_
    rintro ⟨y, r1⟩ ⟨hy, hr1⟩
    refine Tot.chk (by omega) ?_
    refine (ih (K + 1) r1 (z ++ [y]) hr1 (by omega) (by simp; omega) (fun s h => ?_)).mono (fun x h => ⟨h.1, h.2.mono (by omega)⟩)
    rcases List.mem_append.1 h with h | h
    · exact hs s h
    · simp only [List.mem_singleton] at h; subst h; exact hy
theorem D.anyPath {K : Nat} {r : ReaderT} (hr : RdOK K r) (hK : K ≤ 800000000) : Dr (K + 9) (FineP 13) (fun f => G.spec_anyPath f r) := by
  refine Tot.up ?_
  simp only [G.spec_anyPath]
  refine Tot.bind (D.one hr (by omega) [1, 2, 1, 0, 3, 5, 6] (by decide) (by decide)) ?_
  rintro ⟨x, r'⟩ ⟨hx, hr'⟩
  obtain ⟨j, rfl, hj⟩ : ∃ j : Nat, x = (j : Int) ∧ j ≤ 6 := ⟨x.toNat, by simp at hx; omega⟩
  exact (D.anyPath.L1 j (K + 1) r' [] hr' (by omega) (by simp; omega) (fun s h => by cases h)).mono (fun x h => ⟨h.1, h.2.mono (by omega)⟩)
def Few (m d : Nat) (l : List (List Txt)) : Prop := l.length ≤ m ∧ ∀ p, p ∈ l → p.length ≤ d ∧ ∀ s, s ∈ p → s.length ≤ 12
theorem few_add {m d k : Nat} {l : List (List Txt)} {s : Txt} {p : List Txt} (h : Few (m + k) (d + 1) l) (hl : l.length < m + k) (hs : s.length ≤ 12) (hp : p.length ≤ d ∧ ∀ s, s ∈ p → s.length ≤ 12) : Few (m + k) (d + 1) (l ++ [[s] ++ p]) := by
  refine ⟨by simp; omega, fun q hq => ?_⟩
  rcases List.mem_append.1 hq with h' | h'
  · exact h.2 q h'
  · simp only [List.mem_singleton] at h'
    subst h'
    refine ⟨by simp; omega, fun t ht => ?_⟩
    rcases List.mem_append.1 ht with h' | h'
    · simp only [List.mem_singleton] at h'; subst h'; exact hs
    · exact hp.2 t h'
theorem D.all.L7 {n : NodeT} {i M d : Nat} {s : Txt} {v : List (List Txt)} {Q : List (List Txt) → Prop} (hv : Few M d v) (hM : M ≤ 20000) (hd : d ≤ 5) (hs : s.length ≤ 12) (C : Nat) (hC : C ≤ 900000)
    (next : ∀ z, Few (C + M) (d + 1) z → Tot Q (fun f => G.spec_all.L5 f n (IntKind.wrap .i64 ((i : Int) + 1)) z)) :
    ∀ (k j : Nat) (z : List (List Txt)), j + k = v.length → Few (C + j) (d + 1) z → Tot Q (fun f => G.spec_all.L7 f n (i : Int) s v (j : Int) z) := by
  have hl := hv.1
  intro k
  induction k with
  | zero =>
    intro j z hj hz
    refine Tot.up ?_
    simp only [G.spec_all.L7]
    refine Tot.ite (fun e => by simp at e; omega) (fun _ => next z ⟨by have := hz.1; omega, hz.2⟩)
  | succ k ih =>
    intro j z hj hz
    have hjv : j < v.length := by omega
    have hp := hv.2 _ (List.getElem_mem hjv)
    have hz1 := hz.1
    refine Tot.up ?_
    simp only [G.spec_all.L7, Int.toNat_natCast, wrap_suc (show j + 1 < 9223372036854775808 by omega), getD_of_lt _ hjv]
    refine Tot.ite (fun _ => ?_) (fun e => by simp at e; omega)
    refine Tot.chk (by omega) (Tot.chk (by omega) (Tot.chk (by omega) ?_))
    refine ih (j + 1) _ (by omega) ?_
    exact few_add (m := C) (k := j + 1) ⟨by omega, hz.2⟩ (by omega) hs hp
theorem D.all : ∀ (d : Nat) {n : NodeT}, d ≤ 5 → Shape d n = true → Tot (Few (7 ^ d) d) (fun f => G.spec_all f n)
  | 0, _, _, h => by cases h
  | d + 1, n, hd, h => by
    have hk := shape_len h
    have hf := shape_fine h
    have h7 := pow_le (show d ≤ 5 by omega)
    have hns : ∀ i, i < n.Names.length → (n.Names.getD i default).length ≤ 12 := fun i hi => by
      rw [getD_of_lt _ hi]; exact hf.2.2.1 _ (List.getElem_mem hi)
    have L5 : ∀ (k i : Nat) (z : List (List Txt)), i + k = n.Kids.length → Few (1 + i * 7 ^ d) (d + 1) z → Tot (Few (7 ^ (d + 1)) (d + 1)) (fun f => G.spec_all.L5 f n (i : Int) z) := by
      intro k
      induction k with
      | zero =>
        intro i z hi hz
        have hm : i * 7 ^ d ≤ 6 * 7 ^ d := Nat.mul_le_mul_right _ (by omega)
        have h1 : 0 < 7 ^ d := Nat.pow_pos (by omega)
        refine Tot.up ?_
        simp only [G.spec_all.L5]
        refine Tot.ite (fun e => by simp at e; omega) (fun _ => Tot.ret ⟨?_, hz.2⟩)
        have := hz.1
        rw [Nat.pow_succ]; omega
      | succ k ih =>
        intro i z hi hz
        have hm : i * 7 ^ d ≤ 6 * 7 ^ d := Nat.mul_le_mul_right _ (by omega)
        have K6 : ∀ s : Txt, s.length ≤ 12 → Tot (Few (7 ^ (d + 1)) (d + 1)) (fun f => G.spec_all.K6 f n (i : Int) z s) := fun s hs => by
          refine Tot.up ?_
          simp only [G.spec_all.K6, Int.toNat_natCast]
          refine Tot.chk (by omega) (Tot.bind (D.all d (by omega) (shape_kid h (j := i) (by omega))) ?_)
          intro v hv
          refine D.all.L7 hv (by omega) (by omega) hs (1 + i * 7 ^ d) (by omega) (fun z' hz' => ?_) v.length 0 z (by omega) hz
          rw [wrap_suc (by omega)]
          exact ih (i + 1) z' (by omega) ⟨by have := hz'.1; rw [Nat.add_mul]; omega, hz'.2⟩
        refine Tot.up ?_
        simp only [G.spec_all.L5, Int.toNat_natCast]
        refine Tot.ite (fun _ => ?_) (fun e => by simp at e; omega)
        refine Tot.bindE (T.decimal (i := i) (by unfold lim; omega)) (Tot.ite (fun e => ?_) (fun _ => ?_))
        · have h4 : n.Kind = 4 := by simpa using e
          have hnl := shape_names h h4
          exact Tot.chk (by omega) (K6 _ (hns i (by omega)))
        · exact K6 _ (by unfold decN; rw [if_pos (by omega)]; simp)
    refine Tot.up ?_
    simp only [G.spec_all]
    exact L5 n.Kids.length 0 [[]] (by omega) ⟨by simp, fun p hp => by simp only [List.mem_singleton] at hp; subst hp; exact ⟨by simp, fun s hs => by cases hs⟩⟩
theorem D.AllPaths {B E : Nat} {n : NodeT} (hB : B ≤ lim) (h : Fine B E n) : Tot (Few (7 ^ 5) 5) (fun f => G.spec_AllPaths f n) := by
  refine Tot.up ?_
  simp only [G.spec_AllPaths]
  refine Tot.bindE (T.spec_validNode hB h) (Tot.ite (fun e => ?_) (fun _ => Tot.ret ⟨by simp, fun p hp => by cases hp⟩))
  exact Tot.bind (D.all 5 (by omega) (val_shape e)) (fun v hv => Tot.ret hv)
theorem D.pathIn {K B E : Nat} {r : ReaderT} {n : NodeT} (hB : B ≤ lim) (h : Fine B E n) (hr : RdOK K r) (hK : K ≤ 700000000) : Dr (K + 10) (FineP 13) (fun f => G.spec_pathIn f r n) := by
  refine Tot.up ?_
  simp only [G.spec_pathIn]
  refine Tot.bind (D.AllPaths hB h) ?_
  intro l hl
  have h7 : (7 : Nat) ^ 5 = 16807 := by decide
  have hl1 := hl.1
  refine Tot.ite (fun e => ?_) (fun _ => ?_)
  · have hl0 : 0 < l.length := by simpa using e
    refine Tot.bind (D.pick (m := 4) hr (by omega) rfl (by decide) (by decide)) ?_
    rintro ⟨x, r1⟩ ⟨_, hr1⟩
    refine Tot.ite (fun _ => ?_) (fun _ => ?_)
    · refine Tot.bind (D.pick (m := l.length) hr1 (by omega) rfl hl0 (by omega)) ?_
      rintro ⟨y, r2⟩ ⟨⟨q, rfl, hq⟩, hr2⟩
      have hp := hl.2 _ (List.getElem_mem hq)
      refine Tot.chk (by simp only; omega) (Tot.ret ⟨?_, hr2.mono (by omega)⟩)
      simp only [Int.toNat_natCast, getD_of_lt _ hq]
      exact ⟨by omega, fun s hs => Nat.le_trans (hp.2 s hs) (by omega)⟩
    · exact Tot.bind (D.anyPath hr1 (by omega)) (fun x h => Tot.ret ⟨h.1, h.2.mono (by omega)⟩)
  · exact Tot.bind (D.anyPath hr (by omega)) (fun x h => Tot.ret ⟨h.1, h.2.mono (by omega)⟩)
end Go.Ab
end
section
namespace Go.Ab
open Go
abbrev FineOE (o : OpT) : Prop := ∃ E, FineO 60 E o
theorem FineP.mono {B C : Nat} {p : List Txt} (h : FineP B p) (hB : B ≤ C) : FineP C p := ⟨Nat.le_trans h.1 hB, fun s hs => Nat.le_trans (h.2 s hs) hB⟩
theorem fineP_nil : FineP 13 [] := ⟨by simp, fun s h => by cases h⟩
theorem fine_no : Fine 60 1 (NodeT.mk 0 0 [] [] []) := fine_leaf (by simp) rfl rfl
section
variable {v1 : Int × ReaderT} {v2 : List Txt × ReaderT} {K : Nat} {r : ReaderT} {fr : List Txt} {m : NodeT}
theorem D.someOp.K4 (hp : FineP 13 v2.1) (hf : FineP 13 fr) (hm : FineE 60 m) (hr : RdOK K r) (hK : K ≤ 900000000) (t : Bool) (ht : t = true → v2.1.length < 4) :
    Dr (K + 1) FineOE (fun f => G.spec_someOp.K4 f v1 v2 fr m.Kind m.Num m.Text m.Names m.Kids t r.b r.p) := by
  obtain ⟨E, hm⟩ := hm
  have hl := hp.1
  refine Tot.up ?_
  simp only [G.spec_someOp.K4, NodeT.eta]
  refine Tot.ite (fun e => ?_) (fun _ => Tot.ret ⟨⟨E, hp.mono (by omega), hf.mono (by omega), hm⟩, hr.mono (by omega)⟩)
  have h4 := ht e
  refine Tot.chk (by omega) (Tot.bind (D.of (m := 13) hr (by omega) _ (by decide) (by decide) (by decide)) ?_)
  rintro ⟨y, r1⟩ ⟨hy, hr1⟩
  refine Tot.chk (by omega) (Tot.ret ⟨⟨E, ⟨by show (v2.1 ++ [y]).length ≤ 60; simp; omega, fun s hs => ?_⟩, hf.mono (by omega), hm⟩, hr1⟩)
  rcases List.mem_append.1 hs with h | h
  · exact Nat.le_trans (hp.2 s h) (by omega)
  · simp only [List.mem_singleton] at h; subst h; exact Nat.le_trans hy (by omega)
theorem D.someOp.K3 (hp : FineP 13 v2.1) (hf : FineP 13 fr) (hm : FineE 60 m) (hr : RdOK K r) (hK : K ≤ 800000000) :
    Dr (K + 2) FineOE (fun f => G.spec_someOp.K3 f v1 v2 r.b r.p fr m.Kind m.Num m.Text m.Names m.Kids) := by
  refine Tot.up ?_
  simp only [G.spec_someOp.K3]
  have go : ∀ {g : Nat → Option (OpT × ReaderT)}, v2.1.length < 4 → Dr (K + 2) FineOE (fun f => Option.bind (G.spec_reader_pick f r 2) fun v => G.spec_someOp.K4 f v1 v2 fr m.Kind m.Num m.Text m.Names m.Kids (v.1 == 0) v.2.b v.2.p) := fun {g} h4 => by
    refine Tot.bind (D.pick (m := 2) hr (by omega) rfl (by decide) (by decide)) ?_
    rintro ⟨x, r1⟩ ⟨_, hr1⟩
    exact D.someOp.K4 hp hf hm hr1 (by omega) _ (fun _ => h4)
  have no : Dr (K + 2) FineOE (fun f => G.spec_someOp.K4 f v1 v2 fr m.Kind m.Num m.Text m.Names m.Kids false r.b r.p) :=
    (D.someOp.K4 hp hf hm hr (by omega) false (fun h => by cases h)).mono (fun x h => ⟨h.1, h.2.mono (by omega)⟩)
  refine Tot.ite (fun e => ?_) (fun _ => no)
  have h4 : v2.1.length < 4 := by simp at e; omega
  exact Tot.ite (fun _ => go (g := fun _ => none) h4) (fun _ => Tot.ite (fun _ => go (g := fun _ => none) h4) (fun _ => Tot.ite (fun _ => go (g := fun _ => none) h4) (fun _ => no)))
theorem D.someOp.K6 {B E : Nat} {n : NodeT} (hB : B ≤ lim) (hn : Fine B E n) (hp : FineP 13 v2.1) (hr : RdOK K v2.2) (hK : K ≤ 700000000) (t : Bool) :
    Dr (K + 12) FineOE (fun f => G.spec_someOp.K6 f n v1 v2 t) := by
  refine Tot.up ?_
  simp only [G.spec_someOp.K6]
  refine Tot.ite (fun _ => ?_) (fun _ => (D.someOp.K3 (m := NodeT.mk 0 0 [] [] []) hp fineP_nil ⟨1, fine_no⟩ hr (by omega)).mono (fun x h => ⟨h.1, h.2.mono (by omega)⟩))
  refine Tot.bind (D.pathIn hB hn hr (by omega)) ?_
  rintro ⟨p, r1⟩ ⟨hq, hr1⟩
  exact D.someOp.K3 (m := NodeT.mk 0 0 [] [] []) hp hq ⟨1, fine_no⟩ hr1 (by omega)
theorem D.someOp.K5 {E : Nat} {n : NodeT} (hn : Fine 60 E n) (hp : FineP 13 v2.1) (hr : RdOK K v2.2) (hK : K ≤ 700000000) (t : Bool) :
    Dr (K + 302) FineOE (fun f => G.spec_someOp.K5 f n v1 v2 t) := by
  refine Tot.up ?_
  simp only [G.spec_someOp.K5]
  have no : ∀ {r K'}, RdOK K' r → K' ≤ K + 1 → Dr (K + 302) FineOE (fun f => G.spec_someOp.K3 f v1 v2 r.b r.p [] 0 0 [] [] []) := fun {r K'} h h' =>
    (D.someOp.K3 (m := NodeT.mk 0 0 [] [] []) hp fineP_nil ⟨1, fine_no⟩ h (by omega)).mono (fun x h => ⟨h.1, h.2.mono (by omega)⟩)
  refine Tot.ite (fun _ => ?_) (fun _ => Tot.ite (fun _ => ?_) (fun _ => ?_))
  · refine Tot.bind (D.node 1 (by decide) rfl hr (by omega)) ?_
    rintro ⟨m, r1⟩ ⟨hm, hr1⟩
    exact D.someOp.K3 hp fineP_nil hm hr1 (by omega)
  · refine Tot.bindE (T.spec_at v2.1 lim60 (by have := hp.1; unfold big; omega) hn) ?_
    cases ha : atN n v2.1 with
    | none => exact no hr (by omega)
    | some t =>
      refine Tot.bind (D.pick (m := 3) hr (by omega) rfl (by decide) (by decide)) ?_
      rintro ⟨x, r1⟩ ⟨_, hr1⟩
      refine Tot.ite (fun _ => ?_) (fun _ => no hr1 (by omega))
      exact (D.someOp.K3 hp fineP_nil ⟨E, fine_at _ hn ha⟩ hr1 (by omega)).mono (fun x h => ⟨h.1, h.2.mono (by omega)⟩)
  · refine Tot.ite (fun _ => ?_) (fun _ => ?_)
    · exact (D.someOp.K6 lim60 hn hp hr hK true).mono (fun x h => ⟨h.1, h.2.mono (by omega)⟩)
    · exact (D.someOp.K6 lim60 hn hp hr hK _).mono (fun x h => ⟨h.1, h.2.mono (by omega)⟩)
end
theorem D.someOp {K E : Nat} {r : ReaderT} {n : NodeT} (hn : Fine 60 E n) (hr : RdOK K r) (hK : K ≤ 600000000) : Dr (K + 320) FineOE (fun f => G.spec_someOp f r n) := by
  refine Tot.up ?_
  simp only [G.spec_someOp]
  refine Tot.bind (D.pick (m := 6) hr (by omega) rfl (by decide) (by decide)) ?_
  rintro ⟨x, r1⟩ ⟨_, hr1⟩
  refine Tot.bind (D.pathIn lim60 hn hr1 (by omega)) ?_
  rintro ⟨p, r2⟩ ⟨hp, hr2⟩
  exact Tot.ite (fun _ => (D.someOp.K5 (v2 := (p, r2)) hn hp hr2 (by omega) true).mono (fun x h => ⟨h.1, h.2.mono (by omega)⟩)) (fun _ => (D.someOp.K5 (v2 := (p, r2)) hn hp hr2 (by omega) _).mono (fun x h => ⟨h.1, h.2.mono (by omega)⟩))
theorem D.anyOp {K E : Nat} {r : ReaderT} {n : NodeT} (hn : Fine 60 E n) (hr : RdOK K r) (hK : K ≤ 500000000) : Dr (K + 1000) FineOE (fun f => G.spec_anyOp f r n) := by
  refine Tot.up ?_
  simp only [G.spec_anyOp]
  refine Tot.bind (D.someOp hn hr (by omega)) ?_
  rintro ⟨o, r1⟩ ⟨⟨F, ho⟩, hr1⟩
  refine Tot.bind (D.pick (m := 30) hr1 (by omega) rfl (by decide) (by decide)) ?_
  rintro ⟨x, r2⟩ ⟨_, hr2⟩
  refine Tot.ite (fun _ => ?_) (fun _ => Tot.ite (fun _ => ?_) (fun _ => Tot.ite (fun _ => ?_) (fun _ => Tot.ret ⟨⟨F, ho⟩, hr2.mono (by omega)⟩)))
  · refine Tot.bind (D.one hr2 (by omega) _ (by decide) (by decide)) ?_
    rintro ⟨y, r3⟩ ⟨_, hr3⟩
    exact Tot.ret ⟨⟨F, ho.path, ho.from_, ho.val⟩, hr3.mono (by omega)⟩
  · refine Tot.bind (D.anyNode hr2 (by omega)) ?_
    rintro ⟨m, r3⟩ ⟨⟨F', hm⟩, hr3⟩
    exact Tot.ret ⟨⟨F', ho.path, ho.from_, hm.mono (by omega) (Nat.le_refl _)⟩, hr3.mono (by omega)⟩
  · refine Tot.bind (D.anyPath hr2 (by omega)) ?_
    rintro ⟨p, r3⟩ ⟨hp, hr3⟩
    exact Tot.ret ⟨⟨F, hp.mono (by omega), ho.from_, ho.val⟩, hr3.mono (by omega)⟩
def Bytes (l : List Int) : Prop := ∀ z, z ∈ l → 0 ≤ z ∧ z < 256
theorem D.newReader {c : List Int} (hc : Bytes c) (hl : c.length ≤ 1048576) : Tot (RdOK 0) (fun f => G.spec_newReader f c) := by
  refine Tot.up ?_
  simp only [G.spec_newReader]
  refine Tot.ite (fun e => ?_) (fun e => ?_)
  · have h : 2000 < c.length := by simp at e; omega
    exact Tot.chk (by omega) (Tot.ret ⟨by show (c.take 2000).length ≤ 2000; simp; omega, fun z hz => hc z (List.mem_of_mem_take hz), Int.le_refl _, Int.le_refl _⟩)
  · have h : c.length ≤ 2000 := by simp at e; omega
    exact Tot.ret ⟨h, hc, Int.le_refl _, Int.le_refl _⟩
structure NO (n : NodeT) (o : OpT) : Prop where
  node : ∃ E, Fine 60 E n
  op : ∃ E, FineO 60 E o
theorem D.DrawApplyOp {c : List Int} (hc : Bytes c) (hl : c.length ≤ 1048576) : Tot (fun x => NO x.1 x.2) (fun f => G.spec_DrawApplyOp f c) := by
  refine Tot.up ?_
  simp only [G.spec_DrawApplyOp]
  refine Tot.bind (D.newReader hc hl) (fun r hr => Tot.bind (D.anyNode hr (by omega)) ?_)
  rintro ⟨n, r1⟩ ⟨⟨E, hn⟩, hr1⟩
  have hn' := hn.mono (show 14 ≤ 60 by omega) (Nat.le_refl _)
  exact Tot.bind (D.anyOp hn' hr1 (by omega)) (fun x h => Tot.ret ⟨⟨E, hn'⟩, h.1⟩)
theorem T.laws_equalTexts.L1 {a b : List Txt} (hl : a.length = b.length) (hb : a.length < big) : ∀ (k i : Nat), i + k = a.length → Ev (fun f => G.laws_equalTexts.L1 f a b i) (decide (a.drop i = b.drop i)) := by
  unfold big at hb
  intro k
  induction k with
  | zero =>
    intro i hi
    refine Ev.up ?_
    simp only [G.laws_equalTexts.L1]
    refine Ev.cf (by simp; omega) (Ev.ret' ?_)
    rw [List.drop_of_length_le (by omega), List.drop_of_length_le (by omega)]
    simp
  | succ k ih =>
    intro i hi
    refine Ev.up ?_
    simp only [G.laws_equalTexts.L1, Int.toNat_natCast, wrap_suc (show i + 1 < 9223372036854775808 by omega)]
    refine Ev.ct (by simp; omega) (Ev.chk (by omega) (Ev.chk (by omega) ?_))
    rw [drop_of_lt (default : Txt) (by omega : i < a.length), drop_of_lt (default : Txt) (by omega : i < b.length)]
    refine Ev.ite (fun e => (ih (i + 1) (by omega)).eq ?_) (fun e => Ev.ret' ?_)
    · have e : a.getD i default = b.getD i default := by simpa using e
      rw [e]; simp
    · have e : a.getD i default ≠ b.getD i default := by simpa using e
      symm
      exact decide_eq_false (fun h => e (List.cons.inj h).1)
theorem T.laws_equalTexts {a b : List Txt} (hb : a.length < big) : Ev (fun f => G.laws_equalTexts f a b) (decide (a = b)) := by
  refine Ev.up ?_
  simp only [G.laws_equalTexts]
  refine Ev.ite (fun e => Ev.ret' ?_) (fun e => ?_)
  · have e : a.length ≠ b.length := fun h => by rw [h] at e; simp at e
    symm
    exact decide_eq_false (fun h => e (by rw [h]))
  · have e : ((a.length : Nat) : Int) = ((b.length : Nat) : Int) := by simpa using e
    exact T.laws_equalTexts.L1 (by omega) hb a.length 0 (by omega)
open Classical in
theorem T.laws_equalNodes.L1 {a b : List NodeT} (hl : a.length = b.length) (hb : a.length < big) (hs : ∀ x y, x ∈ a → y ∈ b → Ev (fun f => G.laws_equalNode f x y) (decide (x = y))) :
    ∀ (k i : Nat), i + k = a.length → Ev (fun f => G.laws_equalNodes.L1 f a b i) (decide (a.drop i = b.drop i)) := by
  unfold big at hb
  intro k
  induction k with
  | zero =>
    intro i hi
    refine Ev.up ?_
    simp only [G.laws_equalNodes.L1]
    refine Ev.cf (by simp; omega) (Ev.ret' ?_)
    rw [List.drop_of_length_le (by omega), List.drop_of_length_le (by omega)]
    simp
  | succ k ih =>
    intro i hi
    refine Ev.up ?_
    simp only [G.laws_equalNodes.L1, Int.toNat_natCast, wrap_suc (show i + 1 < 9223372036854775808 by omega)]
    refine Ev.ct (by simp; omega) (Ev.chk (by omega) (Ev.chk (by omega) ?_))
    have ha : a.getD i default ∈ a := by rw [getD_of_lt _ (by omega : i < a.length)]; exact List.getElem_mem _
    have hb' : b.getD i default ∈ b := by rw [getD_of_lt _ (by omega : i < b.length)]; exact List.getElem_mem _
    refine Ev.bind (hs _ _ ha hb') ?_
    rw [drop_of_lt (default : NodeT) (by omega : i < a.length), drop_of_lt (default : NodeT) (by omega : i < b.length)]
    refine Ev.ite (fun e => (ih (i + 1) (by omega)).eq ?_) (fun e => Ev.ret' ?_)
    · have e : a.getD i default = b.getD i default := by simpa using e
      rw [e]; simp
    · have e : a.getD i default ≠ b.getD i default := by simpa using e
      symm
      exact decide_eq_false (fun h => e (List.cons.inj h).1)
open Classical in
theorem T.laws_equalNode {B C : Nat} (hB : B ≤ lim) (hC : C ≤ lim) : ∀ {D E : Nat} {a b : NodeT}, Fine B D a → Fine C E b → Ev (fun f => G.laws_equalNode f a b) (decide (a = b))
  | 0, _, _, _, h, _ => h.elim
  | _ + 1, 0, _, _, _, h => h.elim
  | D + 1, E + 1, a, b, ha, hb => by
    have hka := ha.kids
    have hna := ha.names
    have hl : lim < big := by decide
    refine Ev.up ?_
    simp only [G.laws_equalNode]
    by_cases h1 : a.Kind = b.Kind
    · refine Ev.ct (by simpa using h1) ?_
      by_cases h2 : a.Num = b.Num
      · refine Ev.ct (by simpa using h2) ?_
        by_cases h3 : a.Text = b.Text
        · refine Ev.ct (by simpa using h3) (Ev.bind (T.laws_equalTexts (by omega)) ?_)
          by_cases h4 : a.Names = b.Names
          · refine Ev.ct (by simpa using h4) ?_
            by_cases h5 : a.Kids.length = b.Kids.length
            · have hk : Ev (fun f => G.laws_equalNodes f a.Kids b.Kids) (decide (a.Kids = b.Kids)) := by
                refine Ev.up ?_
                simp only [G.laws_equalNodes]
                refine Ev.cf (by rw [h5]; simp) ?_
                exact T.laws_equalNodes.L1 h5 (by omega) (fun x y hx hy => T.laws_equalNode hB hC (ha.2.2.2.2.2 x hx) (hb.2.2.2.2.2 y hy)) a.Kids.length 0 (by omega)
              refine Ev.bind hk (Ev.ret' ?_)
              apply decide_eq_decide.2
              constructor
              · intro h
                cases a; cases b
                simp only at h h1 h2 h3 h4
                rw [h, h1, h2, h3, h4]
              · intro h; rw [h]
            · have hk : Ev (fun f => G.laws_equalNodes f a.Kids b.Kids) false := by
                refine Ev.up ?_
                simp only [G.laws_equalNodes]
                exact Ev.ct (by simp; omega) (Ev.ret _)
              exact Ev.bind hk (Ev.ret' (decide_eq_false (fun h => h5 (by rw [h]))).symm)
          · exact Ev.cf (by simpa using h4) (Ev.ret' (decide_eq_false (fun h => h4 (by rw [h]))).symm)
        · exact Ev.cf (by simpa using h3) (Ev.ret' (decide_eq_false (fun h => h3 (by rw [h]))).symm)
      · exact Ev.cf (by simpa using h2) (Ev.ret' (decide_eq_false (fun h => h2 (by rw [h]))).symm)
    · exact Ev.cf (by simpa using h1) (Ev.ret' (decide_eq_false (fun h => h1 (by rw [h]))).symm)
theorem T.equal_self {B D : Nat} (hB : B ≤ lim) {a : NodeT} (h : Fine B D a) : Ev (fun f => G.laws_equalNode f a a) true := (T.laws_equalNode hB hB h h).eq (by simp)
end Go.Ab
end
section
namespace Go.Ab
open Go
theorem lim62 : 60 + 2 < lim := by decide
theorem NO.fine {n : NodeT} {o : OpT} (h : NO n o) : ∃ E, Fine 60 E n ∧ FineO 60 E o := by
  obtain ⟨⟨E, hn⟩, ⟨F, ho⟩⟩ := h
  exact ⟨max E F, hn.mono (Nat.le_refl _) (Nat.le_max_left _ _), ho.path, ho.from_, ho.val.mono (Nat.le_refl _) (Nat.le_max_right _ _)⟩
theorem equal_val {m : NodeT} (h : Val m = true) : Ev (fun f => G.laws_equalNode f m m) true := T.equal_self lim12 (val_fine h)
theorem equal_no : Ev (fun f => G.laws_equalNode f noNode noNode) true := equal_val val_no
structure Applied (n : NodeT) (o : OpT) (m : NodeT) : Prop where
  vn : Val n = true
  vo : OpV o = true
  app : applyN n o = some m
  vm : Val m = true
theorem applied {n m : NodeT} {o : OpT} (h : ApplyM n o = some m) : Applied n o m := by
  unfold ApplyM at h
  split at h
  · rename_i hv
    simp only [Bool.and_eq_true] at hv
    obtain ⟨h1, h2⟩ := Option.filter_eq_some_iff.1 h
    exact ⟨hv.1, hv.2, h1, h2⟩
  · cases h
theorem opV_parts {o : OpT} (h : OpV o = true) : 1 ≤ o.Kind ∧ o.Kind ≤ 6 ∧ PP o.Path = true ∧ PP o.From = true ∧ Val o.Value = true := by
  unfold OpV at h
  simp only [Bool.and_eq_true, decide_eq_true_eq] at h
  exact ⟨h.1.1.1.1, h.1.1.1.2, h.1.1.2, h.1.2, h.2⟩
theorem filter_some {o : Option NodeT} {m : NodeT} (h : o = some m) (hv : Val m = true) : o.filter Val = some m := by rw [h]; simp [Option.filter, hv]
theorem addM_of {n r m : NodeT} {p : List Txt} (hn : Val n = true) (hp : PP p = true) (hr : Val r = true) (h : addAtN n p r = some m) (hm : Val m = true) : AddM n p r = some m := by
  unfold AddM
  rw [hn, hp, hr]
  exact filter_some h hm
end Go.Ab
end
section
namespace Go.Ab
open Go
theorem at_facts' {n t : NodeT} {p : List Txt} (hn : Val n = true) (hp : PP p = true) (h : atN n p = some t) : AtM n p = some t := by unfold AtM; rw [hn, hp]; exact h
theorem init_last {p : List Txt} (h : p ≠ []) : initS p ++ [lastS p] = p := by
  unfold initS lastS
  have hl : 0 < p.length := by cases p with
    | nil => exact absurd rfl h
    | cons a r => simp
  have e : p.drop (p.length - 1) = [p.getD (p.length - 1) default] := by
    rw [drop_of_lt (default : Txt) (by omega), List.drop_of_length_le (by omega)]
  rw [← e, List.take_append_drop]
theorem copy_facts {n m : NodeT} {o : OpT} (h : ApplyM n o = some m) (hk : o.Kind = 5) : ∃ t, atN n o.From = some t ∧ addAtN n o.Path t = some m := by
  obtain ⟨vn, vo, app, vm⟩ := applied h
  unfold applyN at app
  simp only [hk] at app
  cases ha : atN n o.From with
  | none => simp [ha] at app
  | some t => simp [ha] at app; exact ⟨t, rfl, app⟩
end Go.Ab
end
section
namespace Go.Ab
open Go
theorem cnt_suc : ∀ (d : Nat) (n : NodeT), Cnt d n ≤ Cnt (d + 1) n
  | 0, _ => Nat.zero_le _
  | d + 1, n => by
    show 1 + (n.Kids.map (Cnt d)).sum ≤ 1 + (n.Kids.map (Cnt (d + 1))).sum
    have : ∀ l : List NodeT, (l.map (Cnt d)).sum ≤ (l.map (Cnt (d + 1))).sum := fun l => by
      induction l with
      | nil => simp
      | cons x r ih => simp only [List.map_cons, List.sum_cons]; have := cnt_suc d x; omega
    have := this n.Kids
    omega
theorem sum_set_eq {α : Type} (f : α → Nat) {c : α} (d : α) : ∀ {l : List α} {j : Nat}, j < l.length → ((l.set j c).map f).sum + f (l.getD j d) = (l.map f).sum + f c
  | [], _, h => by simp at h
  | x :: l, 0, _ => by simp [List.getD]; omega
  | x :: l, j + 1, h => by
    have := sum_set_eq f (c := c) d (l := l) (j := j) (by simpa using h)
    simp only [List.set_cons_succ, List.map_cons, List.sum_cons, List.getD_cons_succ]
    omega
theorem sum_ins {α : Type} (f : α → Nat) (l : List α) (k : Nat) (v : α) : ((insL l k v).map f).sum = (l.map f).sum + f v := by
  unfold insL
  have e := congrArg (fun l : List α => (l.map f).sum) (List.take_append_drop k l)
  simp only [List.map_append, List.sum_append, List.map_cons, List.map_nil, List.sum_cons, List.sum_nil] at e ⊢
  omega
theorem sum_drop {α : Type} (f : α → Nat) {l : List α} {k : Nat} (d : α) (h : k < l.length) : ((dropL l k).map f).sum + f (l.getD k d) = (l.map f).sum := by
  unfold dropL
  have e := congrArg (fun l : List α => (l.map f).sum) (List.take_append_drop k l)
  rw [drop_of_lt d h] at e
  simp only [List.map_append, List.sum_append, List.map_cons, List.sum_cons] at e ⊢
  omega
theorem cnt_add {k k' t : NodeT} {s : Txt} (h : addN k s t = some k') : ∀ d, Cnt d k' ≤ Cnt d k + Cnt d t
  | 0 => Nat.zero_le _
  | d + 1 => by
    have ht := cnt_suc d t
    show 1 + (k'.Kids.map (Cnt d)).sum ≤ (1 + (k.Kids.map (Cnt d)).sum) + Cnt (d + 1) t
    have ins : ∀ j, k'.Kids = insL k.Kids j t → 1 + (k'.Kids.map (Cnt d)).sum ≤ (1 + (k.Kids.map (Cnt d)).sum) + Cnt (d + 1) t := fun j e => by
      rw [e, sum_ins]; omega
    unfold addN at h
    cases hj : plc k s with
    | some j =>
      rw [hj] at h
      by_cases h4 : k.Kind = 4
      · simp only [h4, if_true, Option.some.injEq] at h
        subst h
        have := sum_set_eq (Cnt d) (c := t) default (plc_lt hj)
        show 1 + ((k.Kids.set j t).map (Cnt d)).sum ≤ _
        omega
      · simp only [if_neg h4, Option.some.injEq] at h
        subst h
        exact ins j rfl
    | none =>
      rw [hj] at h
      by_cases h3 : k.Kind = 3
      · simp only [h3, if_true] at h
        split at h
        · simp only [Option.some.injEq] at h
          subst h
          exact ins k.Kids.length rfl
        · cases h
      · by_cases h4 : k.Kind = 4
        · simp only [if_neg h3, h4] at h
          rw [if_neg (by omega)] at h
          simp only [if_true, Option.some.injEq] at h
          subst h
          exact ins (slt k s) rfl
        · simp [h3, h4] at h
theorem cnt_chg {f : NodeT → Option NodeT} {t : NodeT} (hf : ∀ k k', f k = some k' → ∀ d, Cnt d k' ≤ Cnt d k + Cnt d t) : ∀ (q : List Txt) {n m : NodeT}, chgN f n q = some m → ∀ d, Cnt d m ≤ Cnt d n + Cnt d t
  | [], n, m, h, d => hf n m h d
  | s :: q, n, m, h, 0 => Nat.zero_le _
  | s :: q, n, m, h, d + 1 => by
    rw [chgN] at h
    cases hj : plc n s with
    | none => rw [hj] at h; cases h
    | some j =>
      rw [hj] at h
      simp only [Option.map_eq_some_iff] at h
      obtain ⟨c, hc, rfl⟩ := h
      have h1 := cnt_chg hf q hc d
      have h2 := sum_set_eq (Cnt d) (c := c) default (plc_lt hj)
      have h3 := cnt_suc d t
      show 1 + ((n.Kids.set j c).map (Cnt d)).sum ≤ (1 + (n.Kids.map (Cnt d)).sum) + Cnt (d + 1) t
      omega
theorem cnt_addAt {n m t : NodeT} {p : List Txt} (h : addAtN n p t = some m) (d : Nat) : Cnt d m ≤ Cnt d n + Cnt d t := by
  unfold addAtN at h
  split at h
  · cases h; omega
  · exact cnt_chg (fun k k' hk => cnt_add hk) _ h d
theorem cnt_rem : ∀ (q : List Txt) {d : Nat} {n r t : NodeT} {s : Txt}, d ≤ 5 → Shape d n = true → chgN (fun k => remN k s) n q = some r → atN n (q ++ [s]) = some t → Cnt d r + Cnt 5 t ≤ Cnt d n
  | _, 0, _, _, _, _, _, h, _, _ => by cases h
  | [], d + 1, n, r, t, s, hd, hn, h, ha => by
    have h : remN n s = some r := h
    unfold remN at h
    rw [List.nil_append, atN] at ha
    cases hj : plc n s with
    | none => rw [hj] at h; cases h
    | some j =>
      rw [hj] at h ha
      have hl := plc_lt hj
      have ht : n.Kids.getD j default = t := Option.some.inj ha
      have hk : r.Kids = dropL n.Kids j := by
        simp only [Option.some.injEq] at h
        subst h
        rfl
      have h1 := sum_drop (Cnt d) (default : NodeT) hl
      rw [ht] at h1
      have h2 : Cnt d t = Cnt 5 t := cnt_mono (by omega) (by rw [← ht]; exact shape_kid hn hl)
      show (1 + (r.Kids.map (Cnt d)).sum) + Cnt 5 t ≤ 1 + (n.Kids.map (Cnt d)).sum
      rw [hk]
      omega
  | a :: q, d + 1, n, r, t, s, hd, hn, h, ha => by
    rw [chgN] at h
    rw [List.cons_append, atN] at ha
    cases hj : plc n a with
    | none => rw [hj] at h; cases h
    | some j =>
      rw [hj] at h ha
      have hl := plc_lt hj
      simp only [Option.map_eq_some_iff] at h
      obtain ⟨c, hc, rfl⟩ := h
      have h1 := cnt_rem q (by omega) (shape_kid hn hl) hc ha
      have h2 := sum_set_eq (Cnt d) (c := c) default hl
      show (1 + ((n.Kids.set j c).map (Cnt d)).sum) + Cnt 5 t ≤ 1 + (n.Kids.map (Cnt d)).sum
      omega
theorem cnt_remAt {n r t : NodeT} {p : List Txt} (hn : Shape 5 n = true) (h : remAtN n p = some r) (ha : atN n p = some t) : Cnt 5 r + Cnt 5 t ≤ Cnt 5 n := by
  unfold remAtN at h
  split at h
  · cases h
  · rename_i hp
    refine cnt_rem (initS p) (Nat.le_refl _) hn h ?_
    rw [init_last hp]; exact ha
theorem T.impl_NodeCount {n : NodeT} (h : Val n = true) : Ev (fun f => G.impl_NodeCount f n) ((Cnt 5 n : Nat) : Int) := by
  obtain ⟨c, dp, g, hc⟩ := T.impl_measureNode lim12 5 1 5 n (by omega) (by omega) (val_fine h)
  have hs := val_shape h
  have hl := val_cnt h
  have e := hc hs
  subst e
  rw [hs] at g
  refine Ev.up ?_
  simp only [G.impl_NodeCount]
  exact Ev.bind g (Ev.ct rfl (Ev.cf (by simp; omega) (Ev.ret _)))
theorem move_facts {n m : NodeT} {o : OpT} (h : ApplyM n o = some m) (hk : o.Kind = 4) (hne : o.Path ≠ o.From) : ∃ t r, atN n o.From = some t ∧ remAtN n o.From = some r ∧ addAtN r o.Path t = some m := by
  obtain ⟨vn, vo, app, vm⟩ := applied h
  unfold applyN at app
  simp only [hk] at app
  cases ha : atN n o.From with
  | none => simp [ha] at app
  | some t =>
    simp [ha] at app
    unfold movN at app
    split at app
    · rename_i hp
      split at app
      · rename_i hl
        exact absurd (hp.eq_of_length hl.symm).symm hne
      · cases app
    · cases hr : remAtN n o.From with
      | none => rw [hr] at app; cases app
      | some r => rw [hr] at app; exact ⟨t, r, rfl, rfl, app⟩
theorem T.law_ApplyOpMove {c : List Int} (hc : Bytes c) : Ev (fun f => G.laws_FnApplyOpMove f c) true := by
  refine Ev.up ?_
  simp only [G.laws_FnApplyOpMove]
  refine Ev.ite (fun _ => Ev.ret _) (fun e => ?_)
  obtain ⟨⟨n, o⟩, g, hno⟩ := D.DrawApplyOp hc (by simp at e; omega)
  obtain ⟨E, hn, ho⟩ := hno.fine
  refine Ev.bind g (Ev.bind (T.impl_ApplyOp lim62 hn ho) (Ev.bind (T.spec_ApplyOp lim60 hn ho) ?_))
  cases h : ApplyM n o with
  | none => exact Ev.bind equal_no (Ev.ct rfl (Ev.cf rfl (Ev.cf rfl (Ev.bind equal_no (Ev.ct rfl (Ev.ret _))))))
  | some m =>
    obtain ⟨vn, vo, app, vm⟩ := applied h
    obtain ⟨k1, k2, pp, pf, vv⟩ := opV_parts vo
    refine Ev.bind (equal_val vm) (Ev.ct rfl (Ev.ct rfl (Ev.ct rfl ?_)))
    have same : Ev (fun f => Option.bind (G.laws_equalNode f m m) fun v => cond v (some true) (some false)) true := Ev.bind (equal_val vm) (Ev.ct rfl (Ev.ret _))
    have hpl : o.Path.length < big := by have : o.Path.length ≤ 60 := ho.path.1; unfold big; omega
    have vA : ∀ {x}, Val x = true → Fine 60 5 x := fun hx => (val_fine hx).mono (by omega) (Nat.le_refl _)
    have last : (o.Kind = 4 ∨ o.Kind = 5) → o.Path ≠ o.From → Ev (fun f => G.laws_FnApplyOpMove.K1 f (n, o) (pairO (some m))) true := fun hk hne => by
      refine Ev.up ?_
      simp only [G.laws_FnApplyOpMove.K1]
      have hA := T.impl_NodeAt lim62 hn ho.from_
      rcases hk with hk | hk
      · obtain ⟨t, r, hat, hrem, hadd⟩ := move_facts h hk hne
        have vt := at_val vn hat
        have vr := rem_val vn hrem
        rw [at_facts' vn pf hat] at hA
        have hR := T.impl_RemoveNode lim62 hn ho.from_
        rw [show RemM n o.From = some r by unfold RemM; rw [vn, pf]; exact hrem] at hR
        have hP := T.impl_AddNode lim62 (vA vr) ho.path (vA vt)
        rw [addM_of vr pp vt hadd vm] at hP
        refine Ev.bind hA (Ev.ct (by simpa using hk) (Ev.bind hR (Ev.up ?_)))
        simp only [G.laws_FnApplyOpMove.K2, NodeT.eta]
        refine Ev.bind hP (Ev.ct rfl (Ev.ct rfl (Ev.ct rfl (Ev.bind (equal_val vm) (Ev.ct rfl (Ev.cf (by rw [hk]; rfl) ?_))))))
        refine Ev.bind (T.impl_NodeCount vm) (Ev.bind (T.impl_NodeCount vn) (Ev.ret' ?_))
        have c1 := cnt_addAt hadd 5
        have c2 := cnt_remAt (val_shape vn) hrem hat
        show decide (((Cnt 5 m : Nat) : Int) ≤ ((Cnt 5 n : Nat) : Int)) = true
        simp; omega
      · obtain ⟨t, hat, hadd⟩ := copy_facts h hk
        have vt := at_val vn hat
        rw [at_facts' vn pf hat] at hA
        have hP := T.impl_AddNode lim62 (vA vn) ho.path (vA vt)
        rw [addM_of vn pp vt hadd vm] at hP
        refine Ev.bind hA (Ev.cf (by rw [hk]; rfl) (Ev.up ?_))
        simp only [G.laws_FnApplyOpMove.K2, NodeT.eta]
        exact Ev.bind hP (Ev.ct rfl (Ev.ct rfl (Ev.ct rfl (Ev.bind (equal_val vm) (Ev.ct rfl (Ev.ct (by rw [hk]; rfl) (Ev.ret _)))))))
    have eq := T.laws_equalTexts (b := o.From) hpl
    have both : (o.Kind = 4 ∨ o.Kind = 5) → Ev (fun f => Option.bind (G.laws_equalTexts f o.Path o.From) fun v => cond v (Option.bind (G.laws_equalNode f m m) fun v => cond v (some true) (some false)) (G.laws_FnApplyOpMove.K1 f (n, o) (pairO (some m)))) true := fun hk => by
      refine Ev.bind eq (Ev.ite (fun _ => same) (fun e => last hk (by simpa using e)))
    refine Ev.ite (fun _ => Ev.ite (fun _ => same) (fun e => both (.inr (by simpa using e)))) (fun e => both (.inl (by simpa using e)))
end Go.Ab
end
section
namespace Go.Ab
open Go
set_option maxRecDepth 100000
set_option maxHeartbeats 4000000
set_option linter.unusedVariables false
set_option linter.unusedSimpArgs false
theorem F.cmp_isNaN_int {n : Nat} : ∀ {a_x1 : Int} {r : Bool}, G.cmp_isNaN_int n a_x1 = some r → APure Go.Proofs.Tryz.prog 99 [.one (.c (.lit (.int .i64 a_x1)))] (.one (.c (.lit (.bool r)))) := by
  intro a_x1 r h
  refine fun_pure K.cmp_isNaN_int (ofK ?_)
  unfold C.cmp_isNaN_int
  rcases n with _ | n <;> simp only [G.cmp_isNaN_int, reduceCtorEq] at h
  repeat' first
  | ((with_reducible replace h := kq0 h); obtain ⟨_, _, h⟩ := h)
  | ((with_reducible replace h := kq1 h); obtain ⟨_, _, h⟩ := h)
  | ((with_reducible replace h := kq h); obtain ⟨_, h⟩ := h)
  | ((with_reducible replace h := sq h); subst h; have h := True.intro)
  | (try simp -dsimp only [egR, AOp.opds, AOp.f, AOp.rd, intBin, storeV, lvl, srcOf, reduceIte, Nat.reduceEqDiff, Nat.reduceAdd, Nat.reduceLeDiff, Nat.reduceBEq, reduceCtorEq, Int.reduceBNe, Int.reduceBEq, Int.reduceLT, Int.reduceLE, Int.reduceNeg, Nat.reduceLT, strBin, Int.reduceToNat, renC, *]
     repeat ((with_reducible refine And.intro ?_ ?_); focus first | (show logOK _ _ _ _ = true; kernel_rfl) | (show callOK _ _ = true; kernel_rfl) | omega | assumption | (show _ ≤ maxLen; decide))
     first
     | with_reducible refine callN ?_
     | ((with_reducible replace h := cq h); rcases h with ⟨_, h⟩ | ⟨_, h⟩)
     | ((with_reducible refine isEnd ?_); (simp -dsimp only [peR, reduceIte, Nat.reduceEqDiff, Nat.reduceAdd, Nat.reduceLeDiff, reduceCtorEq] <;> simp [List.take_of_length_le]; done)))
theorem F.cmp_Compare_int {n : Nat} : ∀ {a_x1 : Int} {a_y1 : Int} {r : Int}, G.cmp_Compare_int n a_x1 a_y1 = some r → APure Go.Proofs.Tryz.prog 87 [.one (.c (.lit (.int .i64 a_x1))), .one (.c (.lit (.int .i64 a_y1)))] (.one (.c (.lit (.int .i64 r)))) := by
  intro a_x1 a_y1 r h
  refine fun_pure K.cmp_Compare_int (ofK ?_)
  unfold C.cmp_Compare_int
  rcases n with _ | n <;> simp only [G.cmp_Compare_int, reduceCtorEq] at h
  repeat' first
  | ((with_reducible replace h := kq0 h); obtain ⟨_, _, h⟩ := h)
  | ((with_reducible replace h := kq1 h); obtain ⟨_, _, h⟩ := h)
  | ((with_reducible replace h := kq h); obtain ⟨_, h⟩ := h)
  | ((with_reducible replace h := sq h); subst h; have h := True.intro)
  | (try simp -dsimp only [egR, AOp.opds, AOp.f, AOp.rd, intBin, storeV, lvl, srcOf, reduceIte, Nat.reduceEqDiff, Nat.reduceAdd, Nat.reduceLeDiff, Nat.reduceBEq, reduceCtorEq, Int.reduceBNe, Int.reduceBEq, Int.reduceLT, Int.reduceLE, Int.reduceNeg, Nat.reduceLT, strBin, Int.reduceToNat, renC, *]
     repeat ((with_reducible refine And.intro ?_ ?_); focus first | (show logOK _ _ _ _ = true; kernel_rfl) | (show callOK _ _ = true; kernel_rfl) | omega | assumption | (show _ ≤ maxLen; decide))
     first
     | with_reducible refine callN ?_
     | ((with_reducible refine isCall ?_); (with_reducible replace h := bq h); first | (obtain ⟨v1, hv, h⟩ := h; (with_reducible have hc := F.cmp_isNaN_int hv); refine callL (fun _ => hc) rfl rfl ?_))
     | ((with_reducible replace h := cq h); rcases h with ⟨_, h⟩ | ⟨_, h⟩)
     | ((with_reducible refine isEnd ?_); (simp -dsimp only [peR, reduceIte, Nat.reduceEqDiff, Nat.reduceAdd, Nat.reduceLeDiff, reduceCtorEq] <;> simp [List.take_of_length_le]; done)))
theorem F.cmp_isNaN_string {n : Nat} : ∀ {a_x1 : Txt} {r : Bool}, G.cmp_isNaN_string n a_x1 = some r → APure Go.Proofs.Tryz.prog 95 [.one (.c (.str a_x1))] (.one (.c (.lit (.bool r)))) := by
  intro a_x1 r h
  refine fun_pure K.cmp_isNaN_string (ofK ?_)
  unfold C.cmp_isNaN_string
  rcases n with _ | n <;> simp only [G.cmp_isNaN_string, reduceCtorEq] at h
  repeat' first
  | ((with_reducible replace h := kq0 h); obtain ⟨_, _, h⟩ := h)
  | ((with_reducible replace h := kq1 h); obtain ⟨_, _, h⟩ := h)
  | ((with_reducible replace h := kq h); obtain ⟨_, h⟩ := h)
  | ((with_reducible replace h := sq h); subst h; have h := True.intro)
  | (try simp -dsimp only [egR, AOp.opds, AOp.f, AOp.rd, intBin, storeV, lvl, srcOf, reduceIte, Nat.reduceEqDiff, Nat.reduceAdd, Nat.reduceLeDiff, Nat.reduceBEq, reduceCtorEq, Int.reduceBNe, Int.reduceBEq, Int.reduceLT, Int.reduceLE, Int.reduceNeg, Nat.reduceLT, strBin, Int.reduceToNat, renC, *]
     repeat ((with_reducible refine And.intro ?_ ?_); focus first | (show logOK _ _ _ _ = true; kernel_rfl) | (show callOK _ _ = true; kernel_rfl) | omega | assumption | (show _ ≤ maxLen; decide))
     first
     | with_reducible refine callN ?_
     | ((with_reducible replace h := cq h); rcases h with ⟨_, h⟩ | ⟨_, h⟩)
     | ((with_reducible refine isEnd ?_); (simp -dsimp only [peR, reduceIte, Nat.reduceEqDiff, Nat.reduceAdd, Nat.reduceLeDiff, reduceCtorEq] <;> simp [List.take_of_length_le]; done)))
theorem F.cmp_Less_string {n : Nat} : ∀ {a_x1 : Txt} {a_y1 : Txt} {r : Bool}, G.cmp_Less_string n a_x1 a_y1 = some r → APure Go.Proofs.Tryz.prog 79 [.one (.c (.str a_x1)), .one (.c (.str a_y1))] (.one (.c (.lit (.bool r)))) := by
  intro a_x1 a_y1 r h
  refine fun_pure K.cmp_Less_string (ofK ?_)
  unfold C.cmp_Less_string
  rcases n with _ | n <;> simp only [G.cmp_Less_string, reduceCtorEq] at h
  repeat' first
  | ((with_reducible replace h := kq0 h); obtain ⟨_, _, h⟩ := h)
  | ((with_reducible replace h := kq1 h); obtain ⟨_, _, h⟩ := h)
  | ((with_reducible replace h := kq h); obtain ⟨_, h⟩ := h)
  | ((with_reducible replace h := sq h); subst h; have h := True.intro)
  | (try simp -dsimp only [egR, AOp.opds, AOp.f, AOp.rd, intBin, storeV, lvl, srcOf, reduceIte, Nat.reduceEqDiff, Nat.reduceAdd, Nat.reduceLeDiff, Nat.reduceBEq, reduceCtorEq, Int.reduceBNe, Int.reduceBEq, Int.reduceLT, Int.reduceLE, Int.reduceNeg, Nat.reduceLT, strBin, Int.reduceToNat, renC, *]
     repeat ((with_reducible refine And.intro ?_ ?_); focus first | (show logOK _ _ _ _ = true; kernel_rfl) | (show callOK _ _ = true; kernel_rfl) | omega | assumption | (show _ ≤ maxLen; decide))
     first
     | with_reducible refine callN ?_
     | ((with_reducible refine isCall ?_); (with_reducible replace h := bq h); first | (obtain ⟨v1, hv, h⟩ := h; (with_reducible have hc := F.cmp_isNaN_string hv); refine callL (fun _ => hc) rfl rfl ?_))
     | ((with_reducible replace h := cq h); rcases h with ⟨_, h⟩ | ⟨_, h⟩)
     | ((with_reducible refine isEnd ?_); (simp -dsimp only [peR, reduceIte, Nat.reduceEqDiff, Nat.reduceAdd, Nat.reduceLeDiff, reduceCtorEq] <;> simp [List.take_of_length_le]; done)))
theorem F.impl_copyNode_n : ∀ (n : Nat), ∀ {a_n1 : NodeT} {r : NodeT}, G.impl_copyNode n a_n1 = some r → APure Go.Proofs.Tryz.prog 29 [.agg [.c (.lit (.int .i64 a_n1.Kind)), .c (.lit (.int .i64 a_n1.Num)), .c (.str a_n1.Text), .c (.sl 1 (List.map cS a_n1.Names)), .c (.sl 5 (List.map NodeT.cells a_n1.Kids))]] (.agg [.c (.lit (.int .i64 r.Kind)), .c (.lit (.int .i64 r.Num)), .c (.str r.Text), .c (.sl 1 (List.map cS r.Names)), .c (.sl 5 (List.map NodeT.cells r.Kids))]) := by
  intro n
  induction n using Nat.strongRecOn with | _ n ih =>
  intro a_n1 r h
  refine fun_pure K.impl_copyNode (ofK ?_)
  unfold C.impl_copyNode
  rcases n with _ | n <;> simp only [G.impl_copyNode, reduceCtorEq] at h
  have := Mk.mk 1; have := Mk.mk 2
  repeat' first
  | (clear h; (with_reducible rintro ⟨n, z1⟩ ⟨hn, h⟩); (with_reducible replace h : G.impl_copyNode.K1 _ _ _ = some _ := h); rcases n with _ | n <;> simp only [G.impl_copyNode.K1, reduceCtorEq] at h <;> simp only at hn)
  | (clear h; (with_reducible rintro ⟨n, x_t2, z4⟩ ⟨hn, h⟩); (with_reducible replace h : G.impl_copyNode.L2 _ _ _ _ _ = some _ := h); rcases n with _ | n <;> simp only [G.impl_copyNode.L2, reduceCtorEq] at h <;> simp only at hn)
  | ((with_reducible replace h := kq0 h); obtain ⟨_, _, h⟩ := h)
  | ((with_reducible replace h := kq1 h); obtain ⟨_, _, h⟩ := h)
  | ((with_reducible replace h := kq h); obtain ⟨_, h⟩ := h)
  | ((with_reducible replace h := sq h); subst h; have h := True.intro)
  | (try simp -dsimp only [egR, AOp.opds, AOp.f, AOp.rd, intBin, storeV, lvl, srcOf, reduceIte, Nat.reduceEqDiff, Nat.reduceAdd, Nat.reduceLeDiff, Nat.reduceBEq, reduceCtorEq, Int.reduceBNe, Int.reduceBEq, Int.reduceLT, Int.reduceLE, Int.reduceNeg, Nat.reduceLT, strBin, Int.reduceToNat, renC, *]
     repeat ((with_reducible refine And.intro ?_ ?_); focus first | (show logOK _ _ _ _ = true; kernel_rfl) | (show callOK _ _ = true; kernel_rfl) | omega | assumption | (show _ ≤ maxLen; decide))
     first
     | with_reducible refine callN ?_
     | ((with_reducible refine isCut ?_); rename Mk 1 => tk; clear tk; have : True := (by rewrite [show @G.impl_copyNode.K1 = _ from rfl] at h; exact True.intro); refine cutK (X := Nat × List Txt) (fun x => x.1 ≤ n ∧ G.impl_copyNode.K1 x.1 a_n1 x.2 = some r) (fun x => ASt.of [(1, .v true (.one (.ptr 101 0))), (2, .v true (.one (.ptr 102 0))), (3, .v true (.one (.ptr 103 0)))] [(101, .var [.c (.lit (.int .i64 a_n1.Kind)), .c (.lit (.int .i64 a_n1.Num)), .c (.str a_n1.Text), .c (.sl 1 (List.map cS a_n1.Names)), .c (.sl 5 (List.map NodeT.cells a_n1.Kids))]), (102, .var [.c (.lit (.int .i64 0)), .c (.lit (.int .i64 0)), .c (.str []), .nsl 1, .nsl 5]), (103, .var [.c (.lit (.int .i64 a_n1.Kind)), .c (.lit (.int .i64 a_n1.Num)), .c (.str a_n1.Text), .own 104 x.2.length 1, .nsl 5]), (104, .dat 1 (List.map cS x.2))]) ?_ ?_)
     | ((with_reducible refine isLoop ?_); rename Mk 2 => tk; clear tk; have : True := (by (first | rewrite [show @G.impl_copyNode.L2 = _ from rfl] at h | rewrite [show @G.impl_copyNode.K1 = _ from rfl] at h); exact True.intro); refine loopE (X := Nat × Int × List NodeT) (fun x => x.1 ≤ n ∧ G.impl_copyNode.L2 x.1 a_n1 z1 x.2.1 x.2.2 = some r) (fun x => ASt.of [(2, .v true (.one (.ptr 113 0))), (3, .v true (.one (.ptr 114 0))), (37, .v true (.one (.c (.sl 5 (List.map NodeT.cells a_n1.Kids))))), (38, .v true (.one (.c (.lit (.int .i64 ((a_n1.Kids.length : Nat) : Int)))))), (39, .v true (.one (.c (.lit (.int .i64 x.2.1)))))] [(113, .var [.c (.lit (.int .i64 0)), .c (.lit (.int .i64 0)), .c (.str []), .nsl 1, .nsl 5]), (114, .var [.c (.lit (.int .i64 a_n1.Kind)), .c (.lit (.int .i64 a_n1.Num)), .c (.str a_n1.Text), .own 115 z1.length 1, .own 116 x.2.2.length 5]), (115, .dat 1 (List.map cS z1)), (116, .dat 5 (List.map NodeT.cells x.2.2))]) (fun x => x.1) (by simp only [Prod.exists]; exact ⟨_, _, _, ⟨Nat.le_refl _, h⟩, weak_of [] [(113, 102), (114, 103), (115, 104), (116, 14)] [] (by rfl) (by (simp -dsimp only [wkR, wkB, wkC, reduceIte, Nat.reduceEqDiff, reduceCtorEq] <;> simp [List.take_of_length_le]; done)) (by (simp -dsimp only [wkR, wkB, wkC, reduceIte, Nat.reduceEqDiff, reduceCtorEq] <;> simp [List.take_of_length_le]; done))⟩) ?_)
     | ((with_reducible refine isCall ?_); (with_reducible replace h := bq h); first | (obtain ⟨v3, hv, h⟩ := h; have hc := ih _ (by omega) hv; refine callP hc rfl rfl ?_))
     | ((with_reducible replace h := cq h); rcases h with ⟨c, h⟩ | ⟨c, h⟩ <;> try (simp only [*, Bool.false_eq_true, reduceCtorEq] at c; done))
     | ((with_reducible refine isEx ?_); simp only [Prod.exists]; refine ⟨_, _, ⟨?_, h⟩, weak_of [] [(101, 10), (102, 11), (103, 12), (104, 13)] [] ?_ ?_ ?_⟩; (focus omega); (focus rfl); (iterate 2 focus (simp -dsimp only [wkR, wkB, wkC, reduceIte, Nat.reduceEqDiff, reduceCtorEq] <;> simp [List.take_of_length_le]; done)))
     | ((with_reducible refine isEx ?_); simp only [Prod.exists]; refine ⟨_, _, ⟨?_, h⟩, weak_of [] [(101, 10), (102, 11), (103, 12)] [104] ?_ ?_ ?_⟩; (focus omega); (focus rfl); (iterate 2 focus (simp -dsimp only [wkR, wkB, wkC, reduceIte, Nat.reduceEqDiff, reduceCtorEq] <;> simp [List.take_of_length_le]; done)))
     | ((with_reducible refine isEx ?_); simp only [Prod.exists]; refine ⟨_, _, _, ⟨⟨?_, h⟩, ?_⟩, weak_of [] [(113, 113), (114, 114), (115, 115), (116, 116)] [] ?_ ?_ ?_⟩; (iterate 2 focus omega); (focus rfl); (iterate 2 focus (simp -dsimp only [wkR, wkB, wkC, reduceIte, Nat.reduceEqDiff, reduceCtorEq] <;> simp [List.take_of_length_le]; done)))
     | ((with_reducible refine isEnd ?_); (simp -dsimp only [peR, reduceIte, Nat.reduceEqDiff, Nat.reduceAdd, Nat.reduceLeDiff, reduceCtorEq] <;> simp [List.take_of_length_le]; done)))
theorem F.impl_copyNode {n : Nat} : ∀ {a_n1 : NodeT} {r : NodeT}, G.impl_copyNode n a_n1 = some r → APure Go.Proofs.Tryz.prog 29 [.agg [.c (.lit (.int .i64 a_n1.Kind)), .c (.lit (.int .i64 a_n1.Num)), .c (.str a_n1.Text), .c (.sl 1 (List.map cS a_n1.Names)), .c (.sl 5 (List.map NodeT.cells a_n1.Kids))]] (.agg [.c (.lit (.int .i64 r.Kind)), .c (.lit (.int .i64 r.Num)), .c (.str r.Text), .c (.sl 1 (List.map cS r.Names)), .c (.sl 5 (List.map NodeT.cells r.Kids))]) := F.impl_copyNode_n n
theorem F.impl_copyNode_o {n : Nat} : ∀ {a_n1 : NodeT} {r : NodeT}, G.impl_copyNode n a_n1 = some r → ACalls Go.Proofs.Tryz.prog 29 [.agg [.c (.lit (.int .i64 a_n1.Kind)), .c (.lit (.int .i64 a_n1.Num)), .c (.str a_n1.Text), .c (.sl 1 (List.map cS a_n1.Names)), .c (.sl 5 (List.map NodeT.cells a_n1.Kids))]] [] (fun r1 b1 => r1 = .agg [.c (.lit (.int .i64 r.Kind)), .c (.lit (.int .i64 r.Num)), .c (.str r.Text), .own 0 r.Names.length 1, .own 1 r.Kids.length 5] ∧ b1 = [.dat 1 (List.map cS r.Names), .dat 5 (List.map NodeT.cells r.Kids)]) := by
  intro a_n1 r h
  refine fun_sound K.impl_copyNode (ofK ?_)
  unfold C.impl_copyNode
  rcases n with _ | n <;> simp only [G.impl_copyNode, reduceCtorEq] at h
  have := Mk.mk 1; have := Mk.mk 2
  repeat' first
  | (clear h; (with_reducible rintro ⟨n, z1⟩ ⟨hn, h⟩); (with_reducible replace h : G.impl_copyNode.K1 _ _ _ = some _ := h); rcases n with _ | n <;> simp only [G.impl_copyNode.K1, reduceCtorEq] at h <;> simp only at hn)
  | (clear h; (with_reducible rintro ⟨n, x_t2, z4⟩ ⟨hn, h⟩); (with_reducible replace h : G.impl_copyNode.L2 _ _ _ _ _ = some _ := h); rcases n with _ | n <;> simp only [G.impl_copyNode.L2, reduceCtorEq] at h <;> simp only at hn)
  | ((with_reducible replace h := kq0 h); obtain ⟨_, _, h⟩ := h)
  | ((with_reducible replace h := kq1 h); obtain ⟨_, _, h⟩ := h)
  | ((with_reducible replace h := kq h); obtain ⟨_, h⟩ := h)
  | ((with_reducible replace h := sq h); subst h; have h := True.intro)
  | (try simp -dsimp only [egR, AOp.opds, AOp.f, AOp.rd, intBin, storeV, lvl, srcOf, reduceIte, Nat.reduceEqDiff, Nat.reduceAdd, Nat.reduceLeDiff, Nat.reduceBEq, reduceCtorEq, Int.reduceBNe, Int.reduceBEq, Int.reduceLT, Int.reduceLE, Int.reduceNeg, Nat.reduceLT, strBin, Int.reduceToNat, renC, *]
     repeat ((with_reducible refine And.intro ?_ ?_); focus first | (show logOK _ _ _ _ = true; kernel_rfl) | (show callOK _ _ = true; kernel_rfl) | omega | assumption | (show _ ≤ maxLen; decide))
     first
     | with_reducible refine callN ?_
     | ((with_reducible refine isCut ?_); rename Mk 1 => tk; clear tk; have : True := (by rewrite [show @G.impl_copyNode.K1 = _ from rfl] at h; exact True.intro); refine cutK (X := Nat × List Txt) (fun x => x.1 ≤ n ∧ G.impl_copyNode.K1 x.1 a_n1 x.2 = some r) (fun x => ASt.of [(1, .v true (.one (.ptr 101 0))), (2, .v true (.one (.ptr 102 0))), (3, .v true (.one (.ptr 103 0)))] [(101, .var [.c (.lit (.int .i64 a_n1.Kind)), .c (.lit (.int .i64 a_n1.Num)), .c (.str a_n1.Text), .c (.sl 1 (List.map cS a_n1.Names)), .c (.sl 5 (List.map NodeT.cells a_n1.Kids))]), (102, .var [.c (.lit (.int .i64 0)), .c (.lit (.int .i64 0)), .c (.str []), .nsl 1, .nsl 5]), (103, .var [.c (.lit (.int .i64 a_n1.Kind)), .c (.lit (.int .i64 a_n1.Num)), .c (.str a_n1.Text), .own 104 x.2.length 1, .nsl 5]), (104, .dat 1 (List.map cS x.2))]) ?_ ?_)
     | ((with_reducible refine isLoop ?_); rename Mk 2 => tk; clear tk; have : True := (by (first | rewrite [show @G.impl_copyNode.L2 = _ from rfl] at h | rewrite [show @G.impl_copyNode.K1 = _ from rfl] at h); exact True.intro); refine loopE (X := Nat × Int × List NodeT) (fun x => x.1 ≤ n ∧ G.impl_copyNode.L2 x.1 a_n1 z1 x.2.1 x.2.2 = some r) (fun x => ASt.of [(2, .v true (.one (.ptr 113 0))), (3, .v true (.one (.ptr 114 0))), (37, .v true (.one (.c (.sl 5 (List.map NodeT.cells a_n1.Kids))))), (38, .v true (.one (.c (.lit (.int .i64 ((a_n1.Kids.length : Nat) : Int)))))), (39, .v true (.one (.c (.lit (.int .i64 x.2.1)))))] [(113, .var [.c (.lit (.int .i64 0)), .c (.lit (.int .i64 0)), .c (.str []), .nsl 1, .nsl 5]), (114, .var [.c (.lit (.int .i64 a_n1.Kind)), .c (.lit (.int .i64 a_n1.Num)), .c (.str a_n1.Text), .own 115 z1.length 1, .own 116 x.2.2.length 5]), (115, .dat 1 (List.map cS z1)), (116, .dat 5 (List.map NodeT.cells x.2.2))]) (fun x => x.1) (by simp only [Prod.exists]; exact ⟨_, _, _, ⟨Nat.le_refl _, h⟩, weak_of [] [(113, 102), (114, 103), (115, 104), (116, 14)] [] (by rfl) (by (simp -dsimp only [wkR, wkB, wkC, reduceIte, Nat.reduceEqDiff, reduceCtorEq] <;> simp [List.take_of_length_le]; done)) (by (simp -dsimp only [wkR, wkB, wkC, reduceIte, Nat.reduceEqDiff, reduceCtorEq] <;> simp [List.take_of_length_le]; done))⟩) ?_)
     | ((with_reducible refine isCall ?_); (with_reducible replace h := bq h); first | (obtain ⟨v3, hv, h⟩ := h; (with_reducible have hc := F.impl_copyNode hv); refine callP hc rfl rfl ?_))
     | ((with_reducible replace h := cq h); rcases h with ⟨c, h⟩ | ⟨c, h⟩ <;> try (simp only [*, Bool.false_eq_true, reduceCtorEq] at c; done))
     | ((with_reducible refine isEx ?_); simp only [Prod.exists]; refine ⟨_, _, ⟨?_, h⟩, weak_of [] [(101, 10), (102, 11), (103, 12), (104, 13)] [] ?_ ?_ ?_⟩; (focus omega); (focus rfl); (iterate 2 focus (simp -dsimp only [wkR, wkB, wkC, reduceIte, Nat.reduceEqDiff, reduceCtorEq] <;> simp [List.take_of_length_le]; done)))
     | ((with_reducible refine isEx ?_); simp only [Prod.exists]; refine ⟨_, _, ⟨?_, h⟩, weak_of [] [(101, 10), (102, 11), (103, 12)] [104] ?_ ?_ ?_⟩; (focus omega); (focus rfl); (iterate 2 focus (simp -dsimp only [wkR, wkB, wkC, reduceIte, Nat.reduceEqDiff, reduceCtorEq] <;> simp [List.take_of_length_le]; done)))
     | ((with_reducible refine isEx ?_); simp only [Prod.exists]; refine ⟨_, _, _, ⟨⟨?_, h⟩, ?_⟩, weak_of [] [(113, 113), (114, 114), (115, 115), (116, 116)] [] ?_ ?_ ?_⟩; (iterate 2 focus omega); (focus rfl); (iterate 2 focus (simp -dsimp only [wkR, wkB, wkC, reduceIte, Nat.reduceEqDiff, reduceCtorEq] <;> simp [List.take_of_length_le]; done)))
     | ((with_reducible refine isRet ?_); first | (refine ret_of [] [(0, 115), (1, 116)] [] ?_ ?_ ?_ ?_; (focus rfl); (iterate 3 focus (simp -dsimp only [rwR, wkB, wkC, reduceIte, Nat.reduceEqDiff, reduceCtorEq, Nat.reduceAdd, Nat.reduceLeDiff] <;> simp [List.take_of_length_le]; done))) | (refine ret_of [] [(0, 104)] [1] ?_ ?_ ?_ ?_; (focus rfl); (iterate 3 focus (simp -dsimp only [rwR, wkB, wkC, reduceIte, Nat.reduceEqDiff, reduceCtorEq, Nat.reduceAdd, Nat.reduceLeDiff] <;> simp [List.take_of_length_le]; done)))))
theorem F.slices_isNaN_string {n : Nat} : ∀ {a_x1 : Txt} {r : Bool}, G.slices_isNaN_string n a_x1 = some r → APure Go.Proofs.Tryz.prog 80 [.one (.c (.str a_x1))] (.one (.c (.lit (.bool r)))) := by
  intro a_x1 r h
  refine fun_pure K.slices_isNaN_string (ofK ?_)
  unfold C.slices_isNaN_string
  rcases n with _ | n <;> simp only [G.slices_isNaN_string, reduceCtorEq] at h
  repeat' first
  | ((with_reducible replace h := kq0 h); obtain ⟨_, _, h⟩ := h)
  | ((with_reducible replace h := kq1 h); obtain ⟨_, _, h⟩ := h)
  | ((with_reducible replace h := kq h); obtain ⟨_, h⟩ := h)
  | ((with_reducible replace h := sq h); subst h; have h := True.intro)
  | (try simp -dsimp only [egR, AOp.opds, AOp.f, AOp.rd, intBin, storeV, lvl, srcOf, reduceIte, Nat.reduceEqDiff, Nat.reduceAdd, Nat.reduceLeDiff, Nat.reduceBEq, reduceCtorEq, Int.reduceBNe, Int.reduceBEq, Int.reduceLT, Int.reduceLE, Int.reduceNeg, Nat.reduceLT, strBin, Int.reduceToNat, renC, *]
     repeat ((with_reducible refine And.intro ?_ ?_); focus first | (show logOK _ _ _ _ = true; kernel_rfl) | (show callOK _ _ = true; kernel_rfl) | omega | assumption | (show _ ≤ maxLen; decide))
     first
     | with_reducible refine callN ?_
     | ((with_reducible replace h := cq h); rcases h with ⟨_, h⟩ | ⟨_, h⟩)
     | ((with_reducible refine isEnd ?_); (simp -dsimp only [peR, reduceIte, Nat.reduceEqDiff, Nat.reduceAdd, Nat.reduceLeDiff, reduceCtorEq] <;> simp [List.take_of_length_le]; done)))
theorem F.slices_BinarySearch_string {n : Nat} : ∀ {a_x1 : List Txt} {a_target1 : Txt} {r : Int × Bool}, G.slices_BinarySearch_string n a_x1 a_target1 = some r → APure Go.Proofs.Tryz.prog 59 [.one (.c (.sl 1 (List.map cS a_x1))), .one (.c (.str a_target1))] (.tup [(false, [.c (.lit (.int .i64 r.1))]), (false, [.c (.lit (.bool r.2))])]) := by
  intro a_x1 a_target1 r h
  refine fun_pure K.slices_BinarySearch_string (ofK ?_)
  unfold C.slices_BinarySearch_string
  rcases n with _ | n <;> simp only [G.slices_BinarySearch_string, reduceCtorEq] at h
  repeat' first
  | (clear h; (with_reducible rintro ⟨n, x_i2, x_j2⟩ ⟨hn, h⟩); (with_reducible replace h : G.slices_BinarySearch_string.L1 _ _ _ _ _ = some _ := h); rcases n with _ | n <;> simp only [G.slices_BinarySearch_string.L1, reduceCtorEq] at h <;> simp only at hn)
  | ((with_reducible replace h := kq0 h); obtain ⟨_, _, h⟩ := h)
  | ((with_reducible replace h := kq1 h); obtain ⟨_, _, h⟩ := h)
  | ((with_reducible replace h := kq h); obtain ⟨_, h⟩ := h)
  | ((with_reducible replace h := sq h); subst h; have h := True.intro)
  | (try simp -dsimp only [egR, AOp.opds, AOp.f, AOp.rd, intBin, storeV, lvl, srcOf, reduceIte, Nat.reduceEqDiff, Nat.reduceAdd, Nat.reduceLeDiff, Nat.reduceBEq, reduceCtorEq, Int.reduceBNe, Int.reduceBEq, Int.reduceLT, Int.reduceLE, Int.reduceNeg, Nat.reduceLT, strBin, Int.reduceToNat, renC, *]
     repeat ((with_reducible refine And.intro ?_ ?_); focus first | (show logOK _ _ _ _ = true; kernel_rfl) | (show callOK _ _ = true; kernel_rfl) | omega | assumption | (show _ ≤ maxLen; decide))
     first
     | with_reducible refine callN ?_
     | ((with_reducible refine isLoop ?_); refine loopE (X := Nat × Int × Int) (fun x => x.1 ≤ n ∧ G.slices_BinarySearch_string.L1 x.1 a_x1 a_target1 x.2.1 x.2.2 = some r) (fun x => ASt.of [(0, .v true (.one (.c (.sl 1 (List.map cS a_x1))))), (1, .v true (.one (.c (.str a_target1)))), (6, .v true (.one (.c (.lit (.int .i64 ((a_x1.length : Nat) : Int)))))), (7, .v true (.one (.c (.lit (.int .i64 x.2.1))))), (8, .v true (.one (.c (.lit (.int .i64 x.2.2)))))] []) (fun x => x.1) (by simp only [Prod.exists]; exact ⟨_, _, _, ⟨Nat.le_refl _, h⟩, weak_of [] [] [] (by rfl) (by (simp -dsimp only [wkR, wkB, wkC, reduceIte, Nat.reduceEqDiff, reduceCtorEq] <;> simp [List.take_of_length_le]; done)) (by (simp -dsimp only [wkR, wkB, wkC, reduceIte, Nat.reduceEqDiff, reduceCtorEq] <;> simp [List.take_of_length_le]; done))⟩) ?_)
     | ((with_reducible refine isCall ?_); (with_reducible replace h := bq h); first | (obtain ⟨v3, hv, h⟩ := h; (with_reducible have hc := F.cmp_Less_string hv); refine callL (fun _ => hc) rfl rfl ?_) | (obtain ⟨v4, hv, h⟩ := h; (with_reducible have hc := F.slices_isNaN_string hv); refine callL (fun _ => hc) rfl rfl ?_))
     | ((with_reducible replace h := cq h); rcases h with ⟨c, h⟩ | ⟨c, h⟩ <;> try (simp only [*, Bool.false_eq_true, reduceCtorEq] at c; done))
     | ((with_reducible refine isEx ?_); simp only [Prod.exists]; refine ⟨_, _, _, ⟨⟨?_, h⟩, ?_⟩, weak_of [] [] [] ?_ ?_ ?_⟩; (iterate 2 focus omega); (focus rfl); (iterate 2 focus (simp -dsimp only [wkR, wkB, wkC, reduceIte, Nat.reduceEqDiff, reduceCtorEq] <;> simp [List.take_of_length_le]; done)))
     | ((with_reducible refine isEnd ?_); (simp -dsimp only [peR, reduceIte, Nat.reduceEqDiff, Nat.reduceAdd, Nat.reduceLeDiff, reduceCtorEq] <;> simp [List.take_of_length_le]; done)))
theorem F.internal_strconv_formatBase10 {n : Nat} : ∀ {a_a1 : List Int} {a_u1 : Int} {r : Unit}, G.internal_strconv_formatBase10 n a_a1 a_u1 = some r → APure Go.Proofs.Tryz.prog 106 [.one (.c (.sl 1 (List.map cU a_a1))), .one (.c (.lit (.int .u64 a_u1)))] (.tup []) := by
  intro a_a1 a_u1 r h
  refine fun_pure K.internal_strconv_formatBase10 (ofK ?_)
  unfold C.internal_strconv_formatBase10
  rcases n with _ | n <;> simp only [G.internal_strconv_formatBase10, reduceCtorEq] at h
  have := Mk.mk 1; have := Mk.mk 2; have := Mk.mk 3
  repeat' first
  | (clear h; (with_reducible rintro ⟨n, _⟩ ⟨hn, h⟩); (with_reducible replace h : G.internal_strconv_formatBase10.L1 _ _ _ = some _ := h); rcases n with _ | n <;> simp only [G.internal_strconv_formatBase10.L1, reduceCtorEq] at h <;> simp only at hn)
  | (clear h; (with_reducible rintro ⟨n, _⟩ ⟨hn, h⟩); (with_reducible replace h : G.internal_strconv_formatBase10.K2 _ _ _ = some _ := h); rcases n with _ | n <;> simp only [G.internal_strconv_formatBase10.K2, reduceCtorEq] at h <;> simp only at hn)
  | (clear h; (with_reducible rintro ⟨n, _⟩ ⟨hn, h⟩); (with_reducible replace h : G.internal_strconv_formatBase10.K3 _ _ = some _ := h); rcases n with _ | n <;> simp only [G.internal_strconv_formatBase10.K3, reduceCtorEq] at h <;> simp only at hn)
  | (simp only [reduceCtorEq] at h; done)
  | ((with_reducible replace h := kq0 h); obtain ⟨_, _, h⟩ := h)
  | ((with_reducible replace h := kq1 h); obtain ⟨_, _, h⟩ := h)
  | ((with_reducible replace h := kq h); obtain ⟨_, h⟩ := h)
  | ((with_reducible replace h := sq h); subst h; have h := True.intro)
  | (try simp -dsimp only [egR, AOp.opds, AOp.f, AOp.rd, intBin, storeV, lvl, srcOf, reduceIte, Nat.reduceEqDiff, Nat.reduceAdd, Nat.reduceLeDiff, Nat.reduceBEq, reduceCtorEq, Int.reduceBNe, Int.reduceBEq, Int.reduceLT, Int.reduceLE, Int.reduceNeg, Nat.reduceLT, strBin, Int.reduceToNat, renC, *]
     repeat ((with_reducible refine And.intro ?_ ?_); focus first | (show logOK _ _ _ _ = true; kernel_rfl) | (show callOK _ _ = true; kernel_rfl) | omega | assumption | (show _ ≤ maxLen; decide))
     first
     | with_reducible refine callN ?_
     | ((with_reducible refine isLoop ?_); rename Mk 1 => tk; clear tk; have : True := (by rewrite [show @G.internal_strconv_formatBase10.L1 = _ from rfl] at h; exact True.intro); refine loopE (X := Nat × Unit) (fun x => x.1 ≤ n ∧ G.internal_strconv_formatBase10.L1 x.1 a_a1 a_u1 = some r) (fun x => ASt.of [(0, .v true (.one (.c (.sl 1 (List.map cU a_a1))))), (1, .v true (.one (.c (.lit (.int .u64 a_u1))))), (4, .v true (.one (.c (.lit (.int .i64 ((a_a1.length : Nat) : Int))))))] []) (fun x => x.1) (by simp only [Prod.exists]; exact ⟨_, (), ⟨Nat.le_refl _, h⟩, weak_of [] [] [] (by rfl) (by (simp -dsimp only [wkR, wkB, wkC, reduceIte, Nat.reduceEqDiff, reduceCtorEq] <;> simp [List.take_of_length_le]; done)) (by (simp -dsimp only [wkR, wkB, wkC, reduceIte, Nat.reduceEqDiff, reduceCtorEq] <;> simp [List.take_of_length_le]; done))⟩) ?_)
     | ((with_reducible refine isCut ?_); rename Mk 2 => tk; clear tk; have : True := (by (first | rewrite [show @G.internal_strconv_formatBase10.K2 = _ from rfl] at h | rewrite [show @G.internal_strconv_formatBase10.L1 = _ from rfl] at h); exact True.intro); refine cutK (X := Nat × Unit) (fun x => x.1 ≤ n ∧ G.internal_strconv_formatBase10.K2 x.1 a_a1 a_u1 = some r) (fun x => ASt.of [(0, .v true (.one (.c (.sl 1 (List.map cU a_a1))))), (4, .v true (.one (.c (.lit (.int .i64 ((a_a1.length : Nat) : Int)))))), (12, .v true (.one (.c (.lit (.int .u32 (IntKind.wrap .u32 (a_u1))))))), (99, .v true (.one (.c (.lit (.bool false)))))] []) ?_ ?_)
     | ((with_reducible refine isCut ?_); rename Mk 3 => tk; clear tk; have : True := (by (first | rewrite [show @G.internal_strconv_formatBase10.K3 = _ from rfl] at h | rewrite [show @G.internal_strconv_formatBase10.K2 = _ from rfl] at h | rewrite [show @G.internal_strconv_formatBase10.L1 = _ from rfl] at h); exact True.intro); refine cutK (X := Nat × Unit) (fun x => x.1 ≤ n ∧ G.internal_strconv_formatBase10.K3 x.1 a_a1 = some r) (fun x => ASt.of [(0, .v true (.one (.c (.sl 1 (List.map cU a_a1))))), (4, .v true (.one (.c (.lit (.int .i64 ((a_a1.length : Nat) : Int)))))), (12, .v true (.one (.c (.lit (.int .u32 (IntKind.wrap .u32 (a_u1))))))), (139, .v true (.one (.c (.lit (.bool false)))))] []) ?_ ?_)
     | ((with_reducible replace h := cq h); rcases h with ⟨c, h⟩ | ⟨c, h⟩ <;> try (simp only [*, Bool.false_eq_true, reduceCtorEq] at c; done))
     | ((with_reducible refine isEx ?_); simp only [Prod.exists]; refine ⟨_, (), ⟨?_, h⟩, weak_of [] [] [] ?_ ?_ ?_⟩; (focus omega); (focus rfl); (iterate 2 focus (simp -dsimp only [wkR, wkB, wkC, reduceIte, Nat.reduceEqDiff, reduceCtorEq] <;> simp [List.take_of_length_le]; done)))
     | ((with_reducible refine isEnd ?_); (simp -dsimp only [peR, reduceIte, Nat.reduceEqDiff, Nat.reduceAdd, Nat.reduceLeDiff, reduceCtorEq] <;> simp [List.take_of_length_le]; done)))
theorem F.internal_strconv_log10Pow2 {n : Nat} : ∀ {a_x1 : Int} {r : Int}, G.internal_strconv_log10Pow2 n a_x1 = some r → APure Go.Proofs.Tryz.prog 112 [.one (.c (.lit (.int .i64 a_x1)))] (.one (.c (.lit (.int .i64 r)))) := by
  intro a_x1 r h
  refine fun_pure K.internal_strconv_log10Pow2 (ofK ?_)
  unfold C.internal_strconv_log10Pow2
  rcases n with _ | n <;> simp only [G.internal_strconv_log10Pow2, reduceCtorEq] at h
  repeat' first
  | ((with_reducible replace h := kq0 h); obtain ⟨_, _, h⟩ := h)
  | ((with_reducible replace h := kq1 h); obtain ⟨_, _, h⟩ := h)
  | ((with_reducible replace h := kq h); obtain ⟨_, h⟩ := h)
  | ((with_reducible replace h := sq h); subst h; have h := True.intro)
  | (try simp -dsimp only [egR, AOp.opds, AOp.f, AOp.rd, intBin, storeV, lvl, srcOf, reduceIte, Nat.reduceEqDiff, Nat.reduceAdd, Nat.reduceLeDiff, Nat.reduceBEq, reduceCtorEq, Int.reduceBNe, Int.reduceBEq, Int.reduceLT, Int.reduceLE, Int.reduceNeg, Nat.reduceLT, strBin, Int.reduceToNat, renC, *]
     repeat ((with_reducible refine And.intro ?_ ?_); focus first | (show logOK _ _ _ _ = true; kernel_rfl) | (show callOK _ _ = true; kernel_rfl) | omega | assumption | (show _ ≤ maxLen; decide))
     first
     | with_reducible refine callN ?_
     | ((with_reducible replace h := cq h); rcases h with ⟨_, h⟩ | ⟨_, h⟩)
     | ((with_reducible refine isEnd ?_); (simp -dsimp only [peR, reduceIte, Nat.reduceEqDiff, Nat.reduceAdd, Nat.reduceLeDiff, reduceCtorEq] <;> simp [List.take_of_length_le]; done)))
theorem F.math_bits_Len64 {n : Nat} : ∀ {a_x1 : Int} {r : Int}, G.math_bits_Len64 n a_x1 = some r → APure Go.Proofs.Tryz.prog 113 [.one (.c (.lit (.int .u64 a_x1)))] (.one (.c (.lit (.int .i64 r)))) := by
  intro a_x1 r h
  refine fun_pure K.math_bits_Len64 (ofK ?_)
  unfold C.math_bits_Len64
  rcases n with _ | n <;> simp only [G.math_bits_Len64, reduceCtorEq] at h
  have := Mk.mk 1; have := Mk.mk 2
  repeat' first
  | (clear h; (with_reducible rintro ⟨n, x_x1, x_n1⟩ ⟨hn, h⟩); (with_reducible replace h : G.math_bits_Len64.K1 _ _ _ = some _ := h); rcases n with _ | n <;> simp only [G.math_bits_Len64.K1, reduceCtorEq] at h <;> simp only at hn)
  | (clear h; (with_reducible rintro ⟨n, x_x2, x_n2⟩ ⟨hn, h⟩); (with_reducible replace h : G.math_bits_Len64.K2 _ _ _ = some _ := h); rcases n with _ | n <;> simp only [G.math_bits_Len64.K2, reduceCtorEq] at h <;> simp only at hn)
  | ((with_reducible replace h := kq0 h); obtain ⟨_, _, h⟩ := h)
  | ((with_reducible replace h := kq1 h); obtain ⟨_, _, h⟩ := h)
  | ((with_reducible replace h := kq h); obtain ⟨_, h⟩ := h)
  | ((with_reducible replace h := sq h); subst h; have h := True.intro)
  | (try simp -dsimp only [egR, AOp.opds, AOp.f, AOp.rd, intBin, storeV, lvl, srcOf, reduceIte, Nat.reduceEqDiff, Nat.reduceAdd, Nat.reduceLeDiff, Nat.reduceBEq, reduceCtorEq, Int.reduceBNe, Int.reduceBEq, Int.reduceLT, Int.reduceLE, Int.reduceNeg, Nat.reduceLT, strBin, Int.reduceToNat, renC, *]
     repeat ((with_reducible refine And.intro ?_ ?_); focus first | (show logOK _ _ _ _ = true; kernel_rfl) | (show callOK _ _ = true; kernel_rfl) | omega | assumption | (show _ ≤ maxLen; decide))
     first
     | with_reducible refine callN ?_
     | ((with_reducible refine isCut ?_); rename Mk 1 => tk; clear tk; have : True := (by rewrite [show @G.math_bits_Len64.K1 = _ from rfl] at h; exact True.intro); refine cutK (X := Nat × Int × Int) (fun x => x.1 ≤ n ∧ G.math_bits_Len64.K1 x.1 x.2.1 x.2.2 = some r) (fun x => ASt.of [(0, .v true (.one (.c (.lit (.int .u64 x.2.1))))), (2, .v true (.one (.c (.lit (.int .i64 x.2.2)))))] []) ?_ ?_)
     | ((with_reducible refine isCut ?_); rename Mk 2 => tk; clear tk; have : True := (by (first | rewrite [show @G.math_bits_Len64.K2 = _ from rfl] at h | rewrite [show @G.math_bits_Len64.K1 = _ from rfl] at h); exact True.intro); refine cutK (X := Nat × Int × Int) (fun x => x.1 ≤ n ∧ G.math_bits_Len64.K2 x.1 x.2.1 x.2.2 = some r) (fun x => ASt.of [(0, .v true (.one (.c (.lit (.int .u64 x.2.1))))), (2, .v true (.one (.c (.lit (.int .i64 x.2.2)))))] []) ?_ ?_)
     | ((with_reducible replace h := cq h); rcases h with ⟨c, h⟩ | ⟨c, h⟩ <;> try (simp only [*, Bool.false_eq_true, reduceCtorEq] at c; done))
     | ((with_reducible refine isEx ?_); simp only [Prod.exists]; refine ⟨_, _, _, ⟨?_, h⟩, weak_of [] [] [] ?_ ?_ ?_⟩; (focus omega); (focus rfl); (iterate 2 focus (simp -dsimp only [wkR, wkB, wkC, reduceIte, Nat.reduceEqDiff, reduceCtorEq] <;> simp [List.take_of_length_le]; done)))
     | ((with_reducible refine isEnd ?_); (simp -dsimp only [peR, reduceIte, Nat.reduceEqDiff, Nat.reduceAdd, Nat.reduceLeDiff, reduceCtorEq] <;> simp [List.take_of_length_le]; done)))
theorem F.internal_strconv_numDigits {n : Nat} : ∀ {a_d1 : Int} {r : Int}, G.internal_strconv_numDigits n a_d1 = some r → APure Go.Proofs.Tryz.prog 105 [.one (.c (.lit (.int .u64 a_d1)))] (.one (.c (.lit (.int .i64 r)))) := by
  intro a_d1 r h
  refine fun_pure K.internal_strconv_numDigits (ofK ?_)
  unfold C.internal_strconv_numDigits
  rcases n with _ | n <;> simp only [G.internal_strconv_numDigits, reduceCtorEq] at h
  repeat' first
  | (simp only [reduceCtorEq] at h; done)
  | ((with_reducible replace h := kq0 h); obtain ⟨_, _, h⟩ := h)
  | ((with_reducible replace h := kq1 h); obtain ⟨_, _, h⟩ := h)
  | ((with_reducible replace h := kq h); obtain ⟨_, h⟩ := h)
  | ((with_reducible replace h := sq h); subst h; have h := True.intro)
  | (try simp -dsimp only [egR, AOp.opds, AOp.f, AOp.rd, intBin, storeV, lvl, srcOf, reduceIte, Nat.reduceEqDiff, Nat.reduceAdd, Nat.reduceLeDiff, Nat.reduceBEq, reduceCtorEq, Int.reduceBNe, Int.reduceBEq, Int.reduceLT, Int.reduceLE, Int.reduceNeg, Nat.reduceLT, strBin, Int.reduceToNat, renC, *]
     repeat ((with_reducible refine And.intro ?_ ?_); focus first | (show logOK _ _ _ _ = true; kernel_rfl) | (show callOK _ _ = true; kernel_rfl) | omega | assumption | (show _ ≤ maxLen; decide))
     first
     | with_reducible refine callN ?_
     | ((with_reducible refine isCall ?_); (with_reducible replace h := bq h); first | (obtain ⟨v1, hv, h⟩ := h; (with_reducible have hc := F.math_bits_Len64 hv); refine callL (fun _ => hc) rfl rfl ?_) | (obtain ⟨v2, hv, h⟩ := h; (with_reducible have hc := F.internal_strconv_log10Pow2 hv); refine callL (fun _ => hc) rfl rfl ?_))
     | ((with_reducible replace h := cq h); rcases h with ⟨_, h⟩ | ⟨_, h⟩)
     | (cases h; done))
theorem F.internal_strconv_small {n : Nat} : ∀ {a_i1 : Int} {r : Txt}, G.internal_strconv_small n a_i1 = some r → APure Go.Proofs.Tryz.prog 104 [.one (.c (.lit (.int .i64 a_i1)))] (.one (.c (.str r))) := by
  intro a_i1 r h
  refine fun_pure K.internal_strconv_small (ofK ?_)
  unfold C.internal_strconv_small
  rcases n with _ | n <;> simp only [G.internal_strconv_small, reduceCtorEq] at h
  repeat' first
  | ((with_reducible replace h := kq0 h); obtain ⟨_, _, h⟩ := h)
  | ((with_reducible replace h := kq1 h); obtain ⟨_, _, h⟩ := h)
  | ((with_reducible replace h := kq h); obtain ⟨_, h⟩ := h)
  | ((with_reducible replace h := sq h); subst h; have h := True.intro)
  | (try simp -dsimp only [egR, AOp.opds, AOp.f, AOp.rd, intBin, storeV, lvl, srcOf, reduceIte, Nat.reduceEqDiff, Nat.reduceAdd, Nat.reduceLeDiff, Nat.reduceBEq, reduceCtorEq, Int.reduceBNe, Int.reduceBEq, Int.reduceLT, Int.reduceLE, Int.reduceNeg, Nat.reduceLT, strBin, Int.reduceToNat, renC, *]
     repeat ((with_reducible refine And.intro ?_ ?_); focus first | (show logOK _ _ _ _ = true; kernel_rfl) | (show callOK _ _ = true; kernel_rfl) | omega | assumption | (show _ ≤ maxLen; decide))
     first
     | with_reducible refine callN ?_
     | ((with_reducible replace h := cq h); rcases h with ⟨_, h⟩ | ⟨_, h⟩)
     | ((with_reducible refine isEnd ?_); (simp -dsimp only [peR, reduceIte, Nat.reduceEqDiff, Nat.reduceAdd, Nat.reduceLeDiff, reduceCtorEq] <;> simp [List.take_of_length_le]; done)))
theorem F.internal_strconv_FormatInt {n : Nat} : ∀ {a_i1 : Int} {a_base1 : Int} {r : Txt}, G.internal_strconv_FormatInt n a_i1 a_base1 = some r → APure Go.Proofs.Tryz.prog 93 [.one (.c (.lit (.int .i64 a_i1))), .one (.c (.lit (.int .i64 a_base1)))] (.one (.c (.str r))) := by
  intro a_i1 a_base1 r h
  refine fun_pure K.internal_strconv_FormatInt (ofK ?_)
  unfold C.internal_strconv_FormatInt
  rcases n with _ | n <;> simp only [G.internal_strconv_FormatInt, reduceCtorEq] at h
  have := Mk.mk 1; have := Mk.mk 2
  repeat' first
  | (clear h; (with_reducible rintro ⟨n, x_u1, z1⟩ ⟨hn, h⟩); (with_reducible replace h : G.internal_strconv_FormatInt.K1 _ _ _ = some _ := h); rcases n with _ | n <;> simp only [G.internal_strconv_FormatInt.K1, reduceCtorEq] at h <;> simp only at hn)
  | (clear h; (with_reducible rintro ⟨n, x_u2, z2⟩ ⟨hn, h⟩); (with_reducible replace h : G.internal_strconv_FormatInt.K2 _ _ _ = some _ := h); rcases n with _ | n <;> simp only [G.internal_strconv_FormatInt.K2, reduceCtorEq] at h <;> simp only at hn)
  | (simp only [reduceCtorEq] at h; done)
  | ((with_reducible replace h := kq0 h); obtain ⟨_, _, h⟩ := h)
  | ((with_reducible replace h := kq1 h); obtain ⟨_, _, h⟩ := h)
  | ((with_reducible replace h := kq h); obtain ⟨_, h⟩ := h)
  | ((with_reducible replace h := sq h); subst h; have h := True.intro)
  | (try simp -dsimp only [egR, AOp.opds, AOp.f, AOp.rd, intBin, storeV, lvl, srcOf, reduceIte, Nat.reduceEqDiff, Nat.reduceAdd, Nat.reduceLeDiff, Nat.reduceBEq, reduceCtorEq, Int.reduceBNe, Int.reduceBEq, Int.reduceLT, Int.reduceLE, Int.reduceNeg, Nat.reduceLT, strBin, Int.reduceToNat, renC, *]
     repeat ((with_reducible refine And.intro ?_ ?_); focus first | (show logOK _ _ _ _ = true; kernel_rfl) | (show callOK _ _ = true; kernel_rfl) | omega | assumption | (show _ ≤ maxLen; decide))
     first
     | with_reducible refine callN ?_
     | ((with_reducible refine isCut ?_); rename Mk 1 => tk; clear tk; have : True := (by rewrite [show @G.internal_strconv_FormatInt.K1 = _ from rfl] at h; exact True.intro); refine cutK (X := Nat × Int × List Int) (fun x => x.1 ≤ n ∧ G.internal_strconv_FormatInt.K1 x.1 x.2.1 x.2.2 = some r) (fun x => ASt.of [(0, .v true (.one (.c (.lit (.int .i64 a_i1))))), (5, .v true (.one (.aptr 101 0 1 0))), (6, .v true (.one (.c (.lit (.int .u64 x.2.1)))))] [(101, .dat 1 (List.map cU x.2.2))]) ?_ ?_)
     | ((with_reducible refine isCut ?_); rename Mk 2 => tk; clear tk; have : True := (by rewrite [show @G.internal_strconv_FormatInt.K2 = _ from rfl] at h; exact True.intro); refine cutK (X := Nat × Int × List Int) (fun x => x.1 ≤ n ∧ G.internal_strconv_FormatInt.K2 x.1 x.2.1 x.2.2 = some r) (fun x => ASt.of [(0, .v true (.one (.c (.lit (.int .i64 a_i1))))), (5, .v true (.one (.aptr 102 0 1 0))), (6, .v true (.one (.c (.lit (.int .u64 x.2.1)))))] [(102, .dat 1 (List.map cU x.2.2))]) ?_ ?_)
     | ((with_reducible refine isCall ?_); (with_reducible replace h := bq h); first | (obtain ⟨v1, hv, h⟩ := h; (with_reducible have hc := F.internal_strconv_small hv); refine callL (fun _ => hc) rfl rfl ?_) | (obtain ⟨v2, hv, h⟩ := h; (with_reducible have hc := F.internal_strconv_numDigits hv); refine callL (fun _ => hc) rfl rfl ?_))
     | ((with_reducible replace h := cq h); rcases h with ⟨c, h⟩ | ⟨c, h⟩ <;> try (simp only [*, Bool.false_eq_true, reduceCtorEq] at c; done))
     | ((with_reducible refine isEx ?_); simp only [Prod.exists]; refine ⟨_, _, _, ⟨?_, h⟩, weak_of [] [(101, 10)] [] ?_ ?_ ?_⟩; (focus omega); (focus rfl); (iterate 2 focus (simp -dsimp only [wkR, wkB, wkC, reduceIte, Nat.reduceEqDiff, reduceCtorEq] <;> simp [List.take_of_length_le]; done)))
     | ((with_reducible refine isEx ?_); simp only [Prod.exists]; refine ⟨_, _, _, ⟨?_, h⟩, weak_of [] [(102, 10)] [] ?_ ?_ ?_⟩; (focus omega); (focus rfl); (iterate 2 focus (simp -dsimp only [wkR, wkB, wkC, reduceIte, Nat.reduceEqDiff, reduceCtorEq] <;> simp [List.take_of_length_le]; done)))
     | ((with_reducible refine isEnd ?_); (simp -dsimp only [peR, reduceIte, Nat.reduceEqDiff, Nat.reduceAdd, Nat.reduceLeDiff, reduceCtorEq] <;> simp [List.take_of_length_le]; done)))
theorem F.internal_strconv_Itoa {n : Nat} : ∀ {a_i1 : Int} {r : Txt}, G.internal_strconv_Itoa n a_i1 = some r → APure Go.Proofs.Tryz.prog 76 [.one (.c (.lit (.int .i64 a_i1)))] (.one (.c (.str r))) := by
  intro a_i1 r h
  refine fun_pure K.internal_strconv_Itoa (ofK ?_)
  unfold C.internal_strconv_Itoa
  rcases n with _ | n <;> simp only [G.internal_strconv_Itoa, reduceCtorEq] at h
  repeat' first
  | ((with_reducible replace h := kq0 h); obtain ⟨_, _, h⟩ := h)
  | ((with_reducible replace h := kq1 h); obtain ⟨_, _, h⟩ := h)
  | ((with_reducible replace h := kq h); obtain ⟨_, h⟩ := h)
  | ((with_reducible replace h := sq h); subst h; have h := True.intro)
  | (try simp -dsimp only [egR, AOp.opds, AOp.f, AOp.rd, intBin, storeV, lvl, srcOf, reduceIte, Nat.reduceEqDiff, Nat.reduceAdd, Nat.reduceLeDiff, Nat.reduceBEq, reduceCtorEq, Int.reduceBNe, Int.reduceBEq, Int.reduceLT, Int.reduceLE, Int.reduceNeg, Nat.reduceLT, strBin, Int.reduceToNat, renC, *]
     repeat ((with_reducible refine And.intro ?_ ?_); focus first | (show logOK _ _ _ _ = true; kernel_rfl) | (show callOK _ _ = true; kernel_rfl) | omega | assumption | (show _ ≤ maxLen; decide))
     first
     | with_reducible refine callN ?_
     | ((with_reducible refine isCall ?_); (with_reducible replace h := bq h); first | (obtain ⟨v1, hv, h⟩ := h; (with_reducible have hc := F.internal_strconv_FormatInt hv); refine callL (fun _ => hc) rfl rfl ?_))
     | ((with_reducible replace h := cq h); rcases h with ⟨_, h⟩ | ⟨_, h⟩)
     | ((with_reducible refine isEnd ?_); (simp -dsimp only [peR, reduceIte, Nat.reduceEqDiff, Nat.reduceAdd, Nat.reduceLeDiff, reduceCtorEq] <;> simp [List.take_of_length_le]; done)))
theorem F.strconv_Itoa {n : Nat} : ∀ {a_i1 : Int} {r : Txt}, G.strconv_Itoa n a_i1 = some r → APure Go.Proofs.Tryz.prog 57 [.one (.c (.lit (.int .i64 a_i1)))] (.one (.c (.str r))) := by
  intro a_i1 r h
  refine fun_pure K.strconv_Itoa (ofK ?_)
  unfold C.strconv_Itoa
  rcases n with _ | n <;> simp only [G.strconv_Itoa, reduceCtorEq] at h
  repeat' first
  | ((with_reducible replace h := kq0 h); obtain ⟨_, _, h⟩ := h)
  | ((with_reducible replace h := kq1 h); obtain ⟨_, _, h⟩ := h)
  | ((with_reducible replace h := kq h); obtain ⟨_, h⟩ := h)
  | ((with_reducible replace h := sq h); subst h; have h := True.intro)
  | (try simp -dsimp only [egR, AOp.opds, AOp.f, AOp.rd, intBin, storeV, lvl, srcOf, reduceIte, Nat.reduceEqDiff, Nat.reduceAdd, Nat.reduceLeDiff, Nat.reduceBEq, reduceCtorEq, Int.reduceBNe, Int.reduceBEq, Int.reduceLT, Int.reduceLE, Int.reduceNeg, Nat.reduceLT, strBin, Int.reduceToNat, renC, *]
     repeat ((with_reducible refine And.intro ?_ ?_); focus first | (show logOK _ _ _ _ = true; kernel_rfl) | (show callOK _ _ = true; kernel_rfl) | omega | assumption | (show _ ≤ maxLen; decide))
     first
     | with_reducible refine callN ?_
     | ((with_reducible refine isCall ?_); (with_reducible replace h := bq h); first | (obtain ⟨v1, hv, h⟩ := h; (with_reducible have hc := F.internal_strconv_Itoa hv); refine callL (fun _ => hc) rfl rfl ?_))
     | ((with_reducible replace h := cq h); rcases h with ⟨_, h⟩ | ⟨_, h⟩)
     | ((with_reducible refine isEnd ?_); (simp -dsimp only [peR, reduceIte, Nat.reduceEqDiff, Nat.reduceAdd, Nat.reduceLeDiff, reduceCtorEq] <;> simp [List.take_of_length_le]; done)))
theorem F.impl_kidIndex {n : Nat} : ∀ {a_n1 : NodeT} {a_step1 : Txt} {r : Int × Bool}, G.impl_kidIndex n a_n1 a_step1 = some r → APure Go.Proofs.Tryz.prog 35 [.agg [.c (.lit (.int .i64 a_n1.Kind)), .c (.lit (.int .i64 a_n1.Num)), .c (.str a_n1.Text), .c (.sl 1 (List.map cS a_n1.Names)), .c (.sl 5 (List.map NodeT.cells a_n1.Kids))], .one (.c (.str a_step1))] (.tup [(false, [.c (.lit (.int .i64 r.1))]), (false, [.c (.lit (.bool r.2))])]) := by
  intro a_n1 a_step1 r h
  refine fun_pure K.impl_kidIndex (ofK ?_)
  unfold C.impl_kidIndex
  rcases n with _ | n <;> simp only [G.impl_kidIndex, reduceCtorEq] at h
  repeat' first
  | (clear h; (with_reducible rintro ⟨n, x_t2⟩ ⟨hn, h⟩); (with_reducible replace h : G.impl_kidIndex.L1 _ _ _ _ = some _ := h); rcases n with _ | n <;> simp only [G.impl_kidIndex.L1, reduceCtorEq] at h <;> simp only at hn)
  | ((with_reducible replace h := kq0 h); obtain ⟨_, _, h⟩ := h)
  | ((with_reducible replace h := kq1 h); obtain ⟨_, _, h⟩ := h)
  | ((with_reducible replace h := kq h); obtain ⟨_, h⟩ := h)
  | ((with_reducible replace h := sq h); subst h; have h := True.intro)
  | (try simp -dsimp only [egR, AOp.opds, AOp.f, AOp.rd, intBin, storeV, lvl, srcOf, reduceIte, Nat.reduceEqDiff, Nat.reduceAdd, Nat.reduceLeDiff, Nat.reduceBEq, reduceCtorEq, Int.reduceBNe, Int.reduceBEq, Int.reduceLT, Int.reduceLE, Int.reduceNeg, Nat.reduceLT, strBin, Int.reduceToNat, renC, *]
     repeat ((with_reducible refine And.intro ?_ ?_); focus first | (show logOK _ _ _ _ = true; kernel_rfl) | (show callOK _ _ = true; kernel_rfl) | omega | assumption | (show _ ≤ maxLen; decide))
     first
     | with_reducible refine callN ?_
     | ((with_reducible refine isLoop ?_); refine loopE (X := Nat × Int) (fun x => x.1 ≤ n ∧ G.impl_kidIndex.L1 x.1 a_n1 a_step1 x.2 = some r) (fun x => ASt.of [(1, .v true (.one (.c (.str a_step1)))), (21, .v true (.one (.c (.lit (.int .i64 ((a_n1.Kids.length : Nat) : Int)))))), (22, .v true (.one (.c (.lit (.int .i64 x.2)))))] []) (fun x => x.1) (by simp only [Prod.exists]; exact ⟨_, _, ⟨Nat.le_refl _, h⟩, weak_of [] [] [] (by rfl) (by (simp -dsimp only [wkR, wkB, wkC, reduceIte, Nat.reduceEqDiff, reduceCtorEq] <;> simp [List.take_of_length_le]; done)) (by (simp -dsimp only [wkR, wkB, wkC, reduceIte, Nat.reduceEqDiff, reduceCtorEq] <;> simp [List.take_of_length_le]; done))⟩) ?_)
     | ((with_reducible refine isCall ?_); (with_reducible replace h := bq h); first | (obtain ⟨v1, hv, h⟩ := h; (with_reducible have hc := F.slices_BinarySearch_string hv); refine callL (fun _ => hc) rfl rfl ?_) | (obtain ⟨v4, hv, h⟩ := h; (with_reducible have hc := F.strconv_Itoa hv); refine callL (fun _ => hc) rfl rfl ?_))
     | ((with_reducible replace h := cq h); rcases h with ⟨c, h⟩ | ⟨c, h⟩ <;> try (simp only [*, Bool.false_eq_true, reduceCtorEq] at c; done))
     | ((with_reducible refine isEx ?_); simp only [Prod.exists]; refine ⟨_, _, ⟨⟨?_, h⟩, ?_⟩, weak_of [] [] [] ?_ ?_ ?_⟩; (iterate 2 focus omega); (focus rfl); (iterate 2 focus (simp -dsimp only [wkR, wkB, wkC, reduceIte, Nat.reduceEqDiff, reduceCtorEq] <;> simp [List.take_of_length_le]; done)))
     | ((with_reducible refine isEnd ?_); (simp -dsimp only [peR, reduceIte, Nat.reduceEqDiff, Nat.reduceAdd, Nat.reduceLeDiff, reduceCtorEq] <;> simp [List.take_of_length_le]; done)))
theorem FZ.slices_Insert_impl_Node {es : List (List Cell)} {v : List Cell} {c i : Nat} (hc : es.length ≤ c) (hi : i ≤ es.length) (hb : (es.length + 1) * 86 ≤ 2 ^ 46) :
    ACalls Go.Proofs.Tryz.prog 58 [.one (.sub 0 0 es.length (some c) 5), .one (.c (.lit (.int .i64 (i : Int)))), .one (.own 1 1 5)] [.dat 5 es, .dat 5 [v]]
      (fun r1 b1 => r1 = .one (.own 2 (es.length + 1) 5) ∧ b1 = [.dead, .dat 5 [v], .dat 5 (es.take i ++ v :: es.drop i)]) := by
  have hw : IntKind.wrap .i64 ((es.length : Int) + ((1 : Nat) : Int)) = ((es.length + 1 : Nat) : Int) := by rw [wrap_id] <;> omega
  have hw2 : IntKind.wrap .i64 ((i : Int) + ((1 : Nat) : Int)) = ((i + 1 : Nat) : Int) := by rw [wrap_id] <;> omega
  have hw3 : IntKind.wrap .i64 (((es.length + 1 : Nat) : Int) - i) = ((es.length + 1 - i : Nat) : Int) := by rw [wrap_id] <;> omega
  refine fun_sound K.slices_Insert_impl_Node (ofK ?_)
  unfold C.slices_Insert_impl_Node
  have h10 : (((1 : Nat) : Int) == 0) = false := rfl
  by_cases h1 : i = es.length
  · subst h1
    have he : (((es.length : Nat) : Int) == ((es.length : Nat) : Int)) = true := by simp
    simp -dsimp only [egR, AOp.opds, AOp.f, AOp.rd, intBin, storeV, lvl, srcOf, reduceIte, Nat.reduceEqDiff, Nat.reduceAdd, Nat.reduceLeDiff, Nat.reduceBEq, reduceCtorEq, Int.reduceBNe, Int.reduceBEq, Int.reduceLT, Int.reduceLE, Int.reduceNeg, Nat.reduceLT, strBin, Int.reduceToNat, renC, ssliceV, sl3V, sappV, scpyV, appzV, sclrV, truncS, Option.map_none, Int.sub_zero, Nat.sub_zero, Int.toNat_sub, Int.ofNat_zero, List.drop_zero, List.take_length, Nat.add_sub_cancel, h10]
    repeat refine And.intro (by first | (show logOK _ _ _ _ = true; kernel_rfl) | (show callOK _ _ = true; kernel_rfl) | omega | assumption) ?_
    have e : es ++ [v] ++ List.drop (es.length + 1) es = es ++ v :: List.drop es.length es := by simp
    have e2 : es ++ [v] = es ++ v :: List.drop es.length es := by simp
    by_cases hr : es.length + 1 ≤ c
    · simp -dsimp only [egR, AOp.opds, AOp.f, AOp.rd, intBin, storeV, lvl, srcOf, reduceIte, Nat.reduceEqDiff, Nat.reduceAdd, Nat.reduceLeDiff, Nat.reduceBEq, reduceCtorEq, Int.reduceBNe, Int.reduceBEq, Int.reduceLT, Int.reduceLE, Int.reduceNeg, Nat.reduceLT, strBin, Int.reduceToNat, renC, ssliceV, sl3V, sappV, scpyV, appzV, sclrV, truncS, Option.map_none, Int.sub_zero, Nat.sub_zero, Int.toNat_sub, Int.ofNat_zero, List.drop_zero, List.take_length, Nat.add_sub_cancel, hr]
      repeat refine And.intro (by first | (show logOK _ _ _ _ = true; kernel_rfl) | (show callOK _ _ = true; kernel_rfl) | omega | assumption) ?_
      rw [e]
      refine ret_of [] [(0, 0), (1, 1), (2, 0)] [] (by rfl) ?_ ?_ ?_ <;> (simp -dsimp only [rwR, wkB, wkC, reduceIte, Nat.reduceEqDiff, reduceCtorEq, Nat.reduceAdd, Nat.reduceLeDiff] <;> first | (simp [List.take_of_length_le]; done) | ((try simp only [List.map_take, List.map_drop, List.map_append, List.map_cons, List.map_nil]) <;> (repeat' apply And.intro) <;> first | rfl | (simp; done) | (simp <;> omega; done) | (congr 1; exact (List.take_of_length_le (by simp <;> omega)).symm)))
    · simp -dsimp only [egR, AOp.opds, AOp.f, AOp.rd, intBin, storeV, lvl, srcOf, reduceIte, Nat.reduceEqDiff, Nat.reduceAdd, Nat.reduceLeDiff, Nat.reduceBEq, reduceCtorEq, Int.reduceBNe, Int.reduceBEq, Int.reduceLT, Int.reduceLE, Int.reduceNeg, Nat.reduceLT, strBin, Int.reduceToNat, renC, ssliceV, sl3V, sappV, scpyV, appzV, sclrV, truncS, Option.map_none, Int.sub_zero, Nat.sub_zero, Int.toNat_sub, Int.ofNat_zero, List.drop_zero, List.take_length, Nat.add_sub_cancel, hr]
      repeat refine And.intro (by first | (show logOK _ _ _ _ = true; kernel_rfl) | (show callOK _ _ = true; kernel_rfl) | omega | assumption) ?_
      rw [e2]
      refine ret_of [] [(0, 0), (1, 1), (2, 10)] [] (by rfl) ?_ ?_ ?_ <;> (simp -dsimp only [rwR, wkB, wkC, reduceIte, Nat.reduceEqDiff, reduceCtorEq, Nat.reduceAdd, Nat.reduceLeDiff] <;> first | (simp [List.take_of_length_le]; done) | ((try simp only [List.map_take, List.map_drop, List.map_append, List.map_cons, List.map_nil]) <;> (repeat' apply And.intro) <;> first | rfl | (simp; done) | (simp <;> omega; done) | (congr 1; exact (List.take_of_length_le (by simp <;> omega)).symm)))
  · have he : (((i : Nat) : Int) == ((es.length : Nat) : Int)) = false := by simp; omega
    simp -dsimp only [egR, AOp.opds, AOp.f, AOp.rd, intBin, storeV, lvl, srcOf, reduceIte, Nat.reduceEqDiff, Nat.reduceAdd, Nat.reduceLeDiff, Nat.reduceBEq, reduceCtorEq, Int.reduceBNe, Int.reduceBEq, Int.reduceLT, Int.reduceLE, Int.reduceNeg, Nat.reduceLT, strBin, Int.reduceToNat, renC, ssliceV, sl3V, sappV, scpyV, appzV, sclrV, truncS, Option.map_none, Int.sub_zero, Nat.sub_zero, Int.toNat_sub, Int.ofNat_zero, List.drop_zero, List.take_length, Nat.add_sub_cancel, h10]
    repeat refine And.intro (by first | (show logOK _ _ _ _ = true; kernel_rfl) | (show callOK _ _ = true; kernel_rfl) | omega | assumption) ?_
    simp -dsimp only [egR, AOp.opds, AOp.f, AOp.rd, intBin, storeV, lvl, srcOf, reduceIte, Nat.reduceEqDiff, Nat.reduceAdd, Nat.reduceLeDiff, Nat.reduceBEq, reduceCtorEq, Int.reduceBNe, Int.reduceBEq, Int.reduceLT, Int.reduceLE, Int.reduceNeg, Nat.reduceLT, strBin, Int.reduceToNat, renC, ssliceV, sl3V, sappV, scpyV, appzV, sclrV, truncS, Option.map_none, Int.sub_zero, Nat.sub_zero, Int.toNat_sub, Int.ofNat_zero, List.drop_zero, List.take_length, Nat.add_sub_cancel, he]
    by_cases hr : es.length + 1 ≤ c
    · have hd : decide ((c : Int) < ((es.length + 1 : Nat) : Int)) = false := by simp; omega
      simp -dsimp only [egR, AOp.opds, AOp.f, AOp.rd, intBin, storeV, lvl, srcOf, reduceIte, Nat.reduceEqDiff, Nat.reduceAdd, Nat.reduceLeDiff, Nat.reduceBEq, reduceCtorEq, Int.reduceBNe, Int.reduceBEq, Int.reduceLT, Int.reduceLE, Int.reduceNeg, Nat.reduceLT, strBin, Int.reduceToNat, renC, ssliceV, sl3V, sappV, scpyV, appzV, sclrV, truncS, Option.map_none, Int.sub_zero, Nat.sub_zero, Int.toNat_sub, Int.ofNat_zero, List.drop_zero, List.take_length, Nat.add_sub_cancel, hw, hd]
      repeat refine And.intro (by first | (show logOK _ _ _ _ = true; kernel_rfl) | (show callOK _ _ = true; kernel_rfl) | omega | assumption) ?_
      simp -dsimp only [egR, AOp.opds, AOp.f, AOp.rd, intBin, storeV, lvl, srcOf, reduceIte, Nat.reduceEqDiff, Nat.reduceAdd, Nat.reduceLeDiff, Nat.reduceBEq, reduceCtorEq, Int.reduceBNe, Int.reduceBEq, Int.reduceLT, Int.reduceLE, Int.reduceNeg, Nat.reduceLT, strBin, Int.reduceToNat, renC, ssliceV, sl3V, sappV, scpyV, appzV, sclrV, truncS, Option.map_none, Int.sub_zero, Nat.sub_zero, Int.toNat_sub, Int.ofNat_zero, List.drop_zero, List.take_length, Nat.add_sub_cancel, hw2]
      repeat refine And.intro (by first | (show logOK _ _ _ _ = true; kernel_rfl) | (show callOK _ _ = true; kernel_rfl) | omega | assumption) ?_
      refine And.intro (by simp; omega) ?_
      have e := ins1 es v i (by omega)
      simp only [splice] at e
      rw [e]
      refine ret_of [] [(0, 0), (1, 1), (2, 0)] [] (by rfl) ?_ ?_ ?_ <;> (simp -dsimp only [rwR, wkB, wkC, reduceIte, Nat.reduceEqDiff, reduceCtorEq, Nat.reduceAdd, Nat.reduceLeDiff] <;> first | (simp [List.take_of_length_le]; done) | ((try simp only [List.map_take, List.map_drop, List.map_append, List.map_cons, List.map_nil]) <;> (repeat' apply And.intro) <;> first | rfl | (simp; done) | (simp <;> omega; done) | (congr 1; exact (List.take_of_length_le (by simp <;> omega)).symm)))
    · have hd : decide ((c : Int) < ((es.length + 1 : Nat) : Int)) = true := by simp; omega
      have hx : c < i + (es.length + 1 - i) := by omega
      simp -dsimp only [egR, AOp.opds, AOp.f, AOp.rd, intBin, storeV, lvl, srcOf, reduceIte, Nat.reduceEqDiff, Nat.reduceAdd, Nat.reduceLeDiff, Nat.reduceBEq, reduceCtorEq, Int.reduceBNe, Int.reduceBEq, Int.reduceLT, Int.reduceLE, Int.reduceNeg, Nat.reduceLT, strBin, Int.reduceToNat, renC, ssliceV, sl3V, sappV, scpyV, appzV, sclrV, truncS, Option.map_none, Int.sub_zero, Nat.sub_zero, Int.toNat_sub, Int.ofNat_zero, List.drop_zero, List.take_length, Nat.add_sub_cancel, hw, hd, hw2, hw3]
      repeat refine And.intro (by first | (show logOK _ _ _ _ = true; kernel_rfl) | (show callOK _ _ = true; kernel_rfl) | omega | assumption) ?_
      refine And.intro (by simp; omega) ?_
      repeat refine And.intro (by first | (show logOK _ _ _ _ = true; kernel_rfl) | (show callOK _ _ = true; kernel_rfl) | omega | assumption) ?_
      refine And.intro ⟨by omega, by simp; omega⟩ ?_
      repeat refine And.intro (by first | (show logOK _ _ _ _ = true; kernel_rfl) | (show callOK _ _ = true; kernel_rfl) | omega | assumption) ?_
      have e := ins2 es v [.lit (.int .i64 0), .lit (.int .i64 0), .str [], .sl 1 [], .sl 5 []] i _ (by omega) rfl
      simp only [splice] at e
      have e0 : i + (es.length + 1 - i) = es.length + 1 := by omega
      rw [e, e0]
      refine ret_of [] [(0, 0), (1, 1), (2, 11)] [] (by rfl) ?_ ?_ ?_ <;> (simp -dsimp only [rwR, wkB, wkC, reduceIte, Nat.reduceEqDiff, reduceCtorEq, Nat.reduceAdd, Nat.reduceLeDiff] <;> first | (simp [List.take_of_length_le]; done) | ((try simp only [List.map_take, List.map_drop, List.map_append, List.map_cons, List.map_nil]) <;> (repeat' apply And.intro) <;> first | rfl | (simp; done) | (simp <;> omega; done) | (congr 1; exact (List.take_of_length_le (by simp <;> omega)).symm)))
theorem F.slices_Insert_impl_Node {n : Nat} : ∀ {a_s1 : List NodeT} {a_i1 : Int} {a_v1 : List NodeT} {r : List NodeT}, G.slices_Insert_impl_Node n a_s1 a_i1 a_v1 = some r →
    ACalls Go.Proofs.Tryz.prog 58 [.one (.own 0 a_s1.length 5), .one (.c (.lit (.int .i64 a_i1))), .one (.own 1 a_v1.length 5)] [.dat 5 (List.map NodeT.cells a_s1), .dat 5 (List.map NodeT.cells a_v1)]
      (fun r1 b1 => r1 = .one (.own 2 r.length 5) ∧ b1 = [.dead, .dat 5 (List.map NodeT.cells a_v1), .dat 5 (List.map NodeT.cells r)]) := by
  intro s i v r h
  cases n with
  | zero => simp only [G.slices_Insert_impl_Node, reduceCtorEq] at h
  | succ n =>
    simp only [G.slices_Insert_impl_Node] at h
    obtain ⟨⟨q1, q2, q3, q4⟩, h⟩ := chk_some.1 h
    cases h
    obtain ⟨x, rfl⟩ := List.length_eq_one_iff.1 q3
    obtain ⟨k, rfl⟩ : ∃ k : Nat, i = k := ⟨i.toNat, by omega⟩
    refine caps_of (fun c hc => ?_)
    have hf := FZ.slices_Insert_impl_Node (es := List.map NodeT.cells s) (v := NodeT.cells x) (c := c) (i := k) (by simpa using hc) (by rw [List.length_map]; omega) (by rw [List.length_map]; exact q4)
    have e1 : (List.take k s ++ [x] ++ List.drop k s).length = s.length + 1 := by simp; omega
    rw [Int.toNat_natCast, e1]
    simpa using hf
theorem FZ.slices_Insert_string {es : List (List Cell)} {v : List Cell} {c i : Nat} (hc : es.length ≤ c) (hi : i ≤ es.length) (hb : (es.length + 1) * 18 ≤ 2 ^ 46) :
    ACalls Go.Proofs.Tryz.prog 75 [.one (.sub 0 0 es.length (some c) 1), .one (.c (.lit (.int .i64 (i : Int)))), .one (.own 1 1 1)] [.dat 1 es, .dat 1 [v]]
      (fun r1 b1 => r1 = .one (.own 2 (es.length + 1) 1) ∧ b1 = [.dead, .dat 1 [v], .dat 1 (es.take i ++ v :: es.drop i)]) := by
  have hw : IntKind.wrap .i64 ((es.length : Int) + ((1 : Nat) : Int)) = ((es.length + 1 : Nat) : Int) := by rw [wrap_id] <;> omega
  have hw2 : IntKind.wrap .i64 ((i : Int) + ((1 : Nat) : Int)) = ((i + 1 : Nat) : Int) := by rw [wrap_id] <;> omega
  have hw3 : IntKind.wrap .i64 (((es.length + 1 : Nat) : Int) - i) = ((es.length + 1 - i : Nat) : Int) := by rw [wrap_id] <;> omega
  refine fun_sound K.slices_Insert_string (ofK ?_)
  unfold C.slices_Insert_string
  have h10 : (((1 : Nat) : Int) == 0) = false := rfl
  by_cases h1 : i = es.length
  · subst h1
    have he : (((es.length : Nat) : Int) == ((es.length : Nat) : Int)) = true := by simp
    simp -dsimp only [egR, AOp.opds, AOp.f, AOp.rd, intBin, storeV, lvl, srcOf, reduceIte, Nat.reduceEqDiff, Nat.reduceAdd, Nat.reduceLeDiff, Nat.reduceBEq, reduceCtorEq, Int.reduceBNe, Int.reduceBEq, Int.reduceLT, Int.reduceLE, Int.reduceNeg, Nat.reduceLT, strBin, Int.reduceToNat, renC, ssliceV, sl3V, sappV, scpyV, appzV, sclrV, truncS, Option.map_none, Int.sub_zero, Nat.sub_zero, Int.toNat_sub, Int.ofNat_zero, List.drop_zero, List.take_length, Nat.add_sub_cancel, h10]
    repeat refine And.intro (by first | (show logOK _ _ _ _ = true; kernel_rfl) | (show callOK _ _ = true; kernel_rfl) | omega | assumption) ?_
    have e : es ++ [v] ++ List.drop (es.length + 1) es = es ++ v :: List.drop es.length es := by simp
    have e2 : es ++ [v] = es ++ v :: List.drop es.length es := by simp
    by_cases hr : es.length + 1 ≤ c
    · simp -dsimp only [egR, AOp.opds, AOp.f, AOp.rd, intBin, storeV, lvl, srcOf, reduceIte, Nat.reduceEqDiff, Nat.reduceAdd, Nat.reduceLeDiff, Nat.reduceBEq, reduceCtorEq, Int.reduceBNe, Int.reduceBEq, Int.reduceLT, Int.reduceLE, Int.reduceNeg, Nat.reduceLT, strBin, Int.reduceToNat, renC, ssliceV, sl3V, sappV, scpyV, appzV, sclrV, truncS, Option.map_none, Int.sub_zero, Nat.sub_zero, Int.toNat_sub, Int.ofNat_zero, List.drop_zero, List.take_length, Nat.add_sub_cancel, hr]
      repeat refine And.intro (by first | (show logOK _ _ _ _ = true; kernel_rfl) | (show callOK _ _ = true; kernel_rfl) | omega | assumption) ?_
      rw [e]
      refine ret_of [] [(0, 0), (1, 1), (2, 0)] [] (by rfl) ?_ ?_ ?_ <;> (simp -dsimp only [rwR, wkB, wkC, reduceIte, Nat.reduceEqDiff, reduceCtorEq, Nat.reduceAdd, Nat.reduceLeDiff] <;> first | (simp [List.take_of_length_le]; done) | ((try simp only [List.map_take, List.map_drop, List.map_append, List.map_cons, List.map_nil]) <;> (repeat' apply And.intro) <;> first | rfl | (simp; done) | (simp <;> omega; done) | (congr 1; exact (List.take_of_length_le (by simp <;> omega)).symm)))
    · simp -dsimp only [egR, AOp.opds, AOp.f, AOp.rd, intBin, storeV, lvl, srcOf, reduceIte, Nat.reduceEqDiff, Nat.reduceAdd, Nat.reduceLeDiff, Nat.reduceBEq, reduceCtorEq, Int.reduceBNe, Int.reduceBEq, Int.reduceLT, Int.reduceLE, Int.reduceNeg, Nat.reduceLT, strBin, Int.reduceToNat, renC, ssliceV, sl3V, sappV, scpyV, appzV, sclrV, truncS, Option.map_none, Int.sub_zero, Nat.sub_zero, Int.toNat_sub, Int.ofNat_zero, List.drop_zero, List.take_length, Nat.add_sub_cancel, hr]
      repeat refine And.intro (by first | (show logOK _ _ _ _ = true; kernel_rfl) | (show callOK _ _ = true; kernel_rfl) | omega | assumption) ?_
      rw [e2]
      refine ret_of [] [(0, 0), (1, 1), (2, 10)] [] (by rfl) ?_ ?_ ?_ <;> (simp -dsimp only [rwR, wkB, wkC, reduceIte, Nat.reduceEqDiff, reduceCtorEq, Nat.reduceAdd, Nat.reduceLeDiff] <;> first | (simp [List.take_of_length_le]; done) | ((try simp only [List.map_take, List.map_drop, List.map_append, List.map_cons, List.map_nil]) <;> (repeat' apply And.intro) <;> first | rfl | (simp; done) | (simp <;> omega; done) | (congr 1; exact (List.take_of_length_le (by simp <;> omega)).symm)))
  · have he : (((i : Nat) : Int) == ((es.length : Nat) : Int)) = false := by simp; omega
    simp -dsimp only [egR, AOp.opds, AOp.f, AOp.rd, intBin, storeV, lvl, srcOf, reduceIte, Nat.reduceEqDiff, Nat.reduceAdd, Nat.reduceLeDiff, Nat.reduceBEq, reduceCtorEq, Int.reduceBNe, Int.reduceBEq, Int.reduceLT, Int.reduceLE, Int.reduceNeg, Nat.reduceLT, strBin, Int.reduceToNat, renC, ssliceV, sl3V, sappV, scpyV, appzV, sclrV, truncS, Option.map_none, Int.sub_zero, Nat.sub_zero, Int.toNat_sub, Int.ofNat_zero, List.drop_zero, List.take_length, Nat.add_sub_cancel, h10]
    repeat refine And.intro (by first | (show logOK _ _ _ _ = true; kernel_rfl) | (show callOK _ _ = true; kernel_rfl) | omega | assumption) ?_
    simp -dsimp only [egR, AOp.opds, AOp.f, AOp.rd, intBin, storeV, lvl, srcOf, reduceIte, Nat.reduceEqDiff, Nat.reduceAdd, Nat.reduceLeDiff, Nat.reduceBEq, reduceCtorEq, Int.reduceBNe, Int.reduceBEq, Int.reduceLT, Int.reduceLE, Int.reduceNeg, Nat.reduceLT, strBin, Int.reduceToNat, renC, ssliceV, sl3V, sappV, scpyV, appzV, sclrV, truncS, Option.map_none, Int.sub_zero, Nat.sub_zero, Int.toNat_sub, Int.ofNat_zero, List.drop_zero, List.take_length, Nat.add_sub_cancel, he]
    by_cases hr : es.length + 1 ≤ c
    · have hd : decide ((c : Int) < ((es.length + 1 : Nat) : Int)) = false := by simp; omega
      simp -dsimp only [egR, AOp.opds, AOp.f, AOp.rd, intBin, storeV, lvl, srcOf, reduceIte, Nat.reduceEqDiff, Nat.reduceAdd, Nat.reduceLeDiff, Nat.reduceBEq, reduceCtorEq, Int.reduceBNe, Int.reduceBEq, Int.reduceLT, Int.reduceLE, Int.reduceNeg, Nat.reduceLT, strBin, Int.reduceToNat, renC, ssliceV, sl3V, sappV, scpyV, appzV, sclrV, truncS, Option.map_none, Int.sub_zero, Nat.sub_zero, Int.toNat_sub, Int.ofNat_zero, List.drop_zero, List.take_length, Nat.add_sub_cancel, hw, hd]
      repeat refine And.intro (by first | (show logOK _ _ _ _ = true; kernel_rfl) | (show callOK _ _ = true; kernel_rfl) | omega | assumption) ?_
      simp -dsimp only [egR, AOp.opds, AOp.f, AOp.rd, intBin, storeV, lvl, srcOf, reduceIte, Nat.reduceEqDiff, Nat.reduceAdd, Nat.reduceLeDiff, Nat.reduceBEq, reduceCtorEq, Int.reduceBNe, Int.reduceBEq, Int.reduceLT, Int.reduceLE, Int.reduceNeg, Nat.reduceLT, strBin, Int.reduceToNat, renC, ssliceV, sl3V, sappV, scpyV, appzV, sclrV, truncS, Option.map_none, Int.sub_zero, Nat.sub_zero, Int.toNat_sub, Int.ofNat_zero, List.drop_zero, List.take_length, Nat.add_sub_cancel, hw2]
      repeat refine And.intro (by first | (show logOK _ _ _ _ = true; kernel_rfl) | (show callOK _ _ = true; kernel_rfl) | omega | assumption) ?_
      refine And.intro (by simp; omega) ?_
      have e := ins1 es v i (by omega)
      simp only [splice] at e
      rw [e]
      refine ret_of [] [(0, 0), (1, 1), (2, 0)] [] (by rfl) ?_ ?_ ?_ <;> (simp -dsimp only [rwR, wkB, wkC, reduceIte, Nat.reduceEqDiff, reduceCtorEq, Nat.reduceAdd, Nat.reduceLeDiff] <;> first | (simp [List.take_of_length_le]; done) | ((try simp only [List.map_take, List.map_drop, List.map_append, List.map_cons, List.map_nil]) <;> (repeat' apply And.intro) <;> first | rfl | (simp; done) | (simp <;> omega; done) | (congr 1; exact (List.take_of_length_le (by simp <;> omega)).symm)))
    · have hd : decide ((c : Int) < ((es.length + 1 : Nat) : Int)) = true := by simp; omega
      have hx : c < i + (es.length + 1 - i) := by omega
      simp -dsimp only [egR, AOp.opds, AOp.f, AOp.rd, intBin, storeV, lvl, srcOf, reduceIte, Nat.reduceEqDiff, Nat.reduceAdd, Nat.reduceLeDiff, Nat.reduceBEq, reduceCtorEq, Int.reduceBNe, Int.reduceBEq, Int.reduceLT, Int.reduceLE, Int.reduceNeg, Nat.reduceLT, strBin, Int.reduceToNat, renC, ssliceV, sl3V, sappV, scpyV, appzV, sclrV, truncS, Option.map_none, Int.sub_zero, Nat.sub_zero, Int.toNat_sub, Int.ofNat_zero, List.drop_zero, List.take_length, Nat.add_sub_cancel, hw, hd, hw2, hw3]
      repeat refine And.intro (by first | (show logOK _ _ _ _ = true; kernel_rfl) | (show callOK _ _ = true; kernel_rfl) | omega | assumption) ?_
      refine And.intro (by simp; omega) ?_
      repeat refine And.intro (by first | (show logOK _ _ _ _ = true; kernel_rfl) | (show callOK _ _ = true; kernel_rfl) | omega | assumption) ?_
      refine And.intro ⟨by omega, by simp; omega⟩ ?_
      repeat refine And.intro (by first | (show logOK _ _ _ _ = true; kernel_rfl) | (show callOK _ _ = true; kernel_rfl) | omega | assumption) ?_
      have e := ins2 es v [.str []] i _ (by omega) rfl
      simp only [splice] at e
      have e0 : i + (es.length + 1 - i) = es.length + 1 := by omega
      rw [e, e0]
      refine ret_of [] [(0, 0), (1, 1), (2, 11)] [] (by rfl) ?_ ?_ ?_ <;> (simp -dsimp only [rwR, wkB, wkC, reduceIte, Nat.reduceEqDiff, reduceCtorEq, Nat.reduceAdd, Nat.reduceLeDiff] <;> first | (simp [List.take_of_length_le]; done) | ((try simp only [List.map_take, List.map_drop, List.map_append, List.map_cons, List.map_nil]) <;> (repeat' apply And.intro) <;> first | rfl | (simp; done) | (simp <;> omega; done) | (congr 1; exact (List.take_of_length_le (by simp <;> omega)).symm)))
theorem F.slices_Insert_string {n : Nat} : ∀ {a_s1 : List Txt} {a_i1 : Int} {a_v1 : List Txt} {r : List Txt}, G.slices_Insert_string n a_s1 a_i1 a_v1 = some r →
    ACalls Go.Proofs.Tryz.prog 75 [.one (.own 0 a_s1.length 1), .one (.c (.lit (.int .i64 a_i1))), .one (.own 1 a_v1.length 1)] [.dat 1 (List.map cS a_s1), .dat 1 (List.map cS a_v1)]
      (fun r1 b1 => r1 = .one (.own 2 r.length 1) ∧ b1 = [.dead, .dat 1 (List.map cS a_v1), .dat 1 (List.map cS r)]) := by
  intro s i v r h
  cases n with
  | zero => simp only [G.slices_Insert_string, reduceCtorEq] at h
  | succ n =>
    simp only [G.slices_Insert_string] at h
    obtain ⟨⟨q1, q2, q3, q4⟩, h⟩ := chk_some.1 h
    cases h
    obtain ⟨x, rfl⟩ := List.length_eq_one_iff.1 q3
    obtain ⟨k, rfl⟩ : ∃ k : Nat, i = k := ⟨i.toNat, by omega⟩
    refine caps_of (fun c hc => ?_)
    have hf := FZ.slices_Insert_string (es := List.map cS s) (v := cS x) (c := c) (i := k) (by simpa using hc) (by rw [List.length_map]; omega) (by rw [List.length_map]; exact q4)
    have e1 : (List.take k s ++ [x] ++ List.drop k s).length = s.length + 1 := by simp; omega
    rw [Int.toNat_natCast, e1]
    simpa using hf
theorem F.impl_putName {n : Nat} : ∀ {p_n1 : NodeT} {a_name1 : Txt} {a_value1 : NodeT} {r : NodeT}, G.impl_putName n p_n1 a_name1 a_value1 = some r → ACalls Go.Proofs.Tryz.prog 56 [.one (.ptr 0 0), .one (.c (.str a_name1)), .agg [.c (.lit (.int .i64 a_value1.Kind)), .c (.lit (.int .i64 a_value1.Num)), .c (.str a_value1.Text), .c (.sl 1 (List.map cS a_value1.Names)), .c (.sl 5 (List.map NodeT.cells a_value1.Kids))]] [.var [.c (.lit (.int .i64 p_n1.Kind)), .c (.lit (.int .i64 p_n1.Num)), .c (.str p_n1.Text), .own 1 p_n1.Names.length 1, .own 2 p_n1.Kids.length 5], .dat 1 (List.map cS p_n1.Names), .dat 5 (List.map NodeT.cells p_n1.Kids)] (fun r1 b1 => r1 = .tup [] ∧ b1 = [.var [.c (.lit (.int .i64 r.Kind)), .c (.lit (.int .i64 r.Num)), .c (.str r.Text), .own 3 r.Names.length 1, .own 4 r.Kids.length 5], .dead, .dead, .dat 1 (List.map cS r.Names), .dat 5 (List.map NodeT.cells r.Kids)]) := by
  intro p_n1 a_name1 a_value1 r h
  refine fun_sound K.impl_putName (ofK ?_)
  unfold C.impl_putName
  rcases n with _ | n <;> simp only [G.impl_putName, reduceCtorEq] at h
  repeat' first
  | ((with_reducible replace h := kq0 h); obtain ⟨_, _, h⟩ := h)
  | ((with_reducible replace h := kq1 h); obtain ⟨_, _, h⟩ := h)
  | ((with_reducible replace h := kq h); obtain ⟨_, h⟩ := h)
  | ((with_reducible replace h := sq h); subst h; have h := True.intro)
  | (try simp -dsimp only [egR, AOp.opds, AOp.f, AOp.rd, intBin, storeV, lvl, srcOf, reduceIte, Nat.reduceEqDiff, Nat.reduceAdd, Nat.reduceLeDiff, Nat.reduceBEq, reduceCtorEq, Int.reduceBNe, Int.reduceBEq, Int.reduceLT, Int.reduceLE, Int.reduceNeg, Nat.reduceLT, strBin, Int.reduceToNat, renC, *]
     repeat ((with_reducible refine And.intro ?_ ?_); focus first | (show logOK _ _ _ _ = true; kernel_rfl) | (show callOK _ _ = true; kernel_rfl) | omega | assumption | (show _ ≤ maxLen; decide))
     first
     | with_reducible refine callN ?_
     | ((with_reducible refine isCall ?_); (with_reducible replace h := bq h); first | (obtain ⟨v1, hv, h⟩ := h; (with_reducible have hc := F.slices_BinarySearch_string hv); (refine callE hc ?_ ?_ rfl rfl ?_; (iterate 2 focus (simp only [lnR, reduceIte, Nat.reduceEqDiff] <;> fail)))) | (obtain ⟨v2, hv, h⟩ := h; (with_reducible have hc := F.slices_Insert_string hv); (refine callG [1, 11] [101] hc rfl rfl ?_ ?_ rfl rfl ?_ rfl ?_; (iterate 2 focus (simp only [ggR, renC, reduceIte, Nat.reduceEqDiff, Nat.reduceLeDiff, Nat.reduceAdd] <;> fail)); (focus first | rfl | (simp only [ggR, renC, reduceIte, Nat.reduceEqDiff, Nat.reduceLeDiff, Nat.reduceAdd] <;> fail)))) | (obtain ⟨v3, hv, h⟩ := h; (with_reducible have hc := F.slices_Insert_impl_Node hv); (refine callG [2, 12] [102] hc rfl rfl ?_ ?_ rfl rfl ?_ rfl ?_; (iterate 2 focus (simp only [ggR, renC, reduceIte, Nat.reduceEqDiff, Nat.reduceLeDiff, Nat.reduceAdd] <;> fail)); (focus first | rfl | (simp only [ggR, renC, reduceIte, Nat.reduceEqDiff, Nat.reduceLeDiff, Nat.reduceAdd] <;> fail)))))
     | ((with_reducible replace h := cq h); rcases h with ⟨_, h⟩ | ⟨_, h⟩)
     | ((with_reducible refine isRet ?_); first | (refine ret_of [] [(0, 0), (1, 1), (2, 2), (3, 1), (4, 2)] [] ?_ ?_ ?_ ?_; (focus rfl); (iterate 3 focus (simp -dsimp only [rwR, wkB, wkC, reduceIte, Nat.reduceEqDiff, reduceCtorEq, Nat.reduceAdd, Nat.reduceLeDiff] <;> simp [List.take_of_length_le]; done))) | (refine ret_of [] [(0, 0), (1, 1), (2, 2), (3, 101), (4, 102)] [] ?_ ?_ ?_ ?_; (focus rfl); (iterate 3 focus (simp -dsimp only [rwR, wkB, wkC, reduceIte, Nat.reduceEqDiff, reduceCtorEq, Nat.reduceAdd, Nat.reduceLeDiff] <;> simp [List.take_of_length_le]; done)))))
theorem F.impl_addKid {n : Nat} : ∀ {a_n1 : NodeT} {a_step1 : Txt} {a_value1 : NodeT} {r : NodeT × Bool}, G.impl_addKid n a_n1 a_step1 a_value1 = some r → APure Go.Proofs.Tryz.prog 33 [.agg [.c (.lit (.int .i64 a_n1.Kind)), .c (.lit (.int .i64 a_n1.Num)), .c (.str a_n1.Text), .c (.sl 1 (List.map cS a_n1.Names)), .c (.sl 5 (List.map NodeT.cells a_n1.Kids))], .one (.c (.str a_step1)), .agg [.c (.lit (.int .i64 a_value1.Kind)), .c (.lit (.int .i64 a_value1.Num)), .c (.str a_value1.Text), .c (.sl 1 (List.map cS a_value1.Names)), .c (.sl 5 (List.map NodeT.cells a_value1.Kids))]] (.tup [(true, [.c (.lit (.int .i64 r.1.Kind)), .c (.lit (.int .i64 r.1.Num)), .c (.str r.1.Text), .c (.sl 1 (List.map cS r.1.Names)), .c (.sl 5 (List.map NodeT.cells r.1.Kids))]), (false, [.c (.lit (.bool r.2))])]) := by
  intro a_n1 a_step1 a_value1 r h
  refine fun_pure K.impl_addKid (ofK ?_)
  unfold C.impl_addKid
  rcases n with _ | n <;> simp only [G.impl_addKid, reduceCtorEq] at h
  repeat' first
  | (clear h; (with_reducible rintro ⟨n, x_at1, x_ok1⟩ ⟨hn, h⟩); (with_reducible replace h : G.impl_addKid.K1 _ _ _ _ _ = some _ := h); rcases n with _ | n <;> simp only [G.impl_addKid.K1, reduceCtorEq] at h <;> simp only at hn)
  | ((with_reducible replace h := kq0 h); obtain ⟨_, _, h⟩ := h)
  | ((with_reducible replace h := kq1 h); obtain ⟨_, _, h⟩ := h)
  | ((with_reducible replace h := kq h); obtain ⟨_, h⟩ := h)
  | ((with_reducible replace h := sq h); subst h; have h := True.intro)
  | (try simp -dsimp only [egR, AOp.opds, AOp.f, AOp.rd, intBin, storeV, lvl, srcOf, reduceIte, Nat.reduceEqDiff, Nat.reduceAdd, Nat.reduceLeDiff, Nat.reduceBEq, reduceCtorEq, Int.reduceBNe, Int.reduceBEq, Int.reduceLT, Int.reduceLE, Int.reduceNeg, Nat.reduceLT, strBin, Int.reduceToNat, renC, *]
     repeat ((with_reducible refine And.intro ?_ ?_); focus first | (show logOK _ _ _ _ = true; kernel_rfl) | (show callOK _ _ = true; kernel_rfl) | omega | assumption | (show _ ≤ maxLen; decide))
     first
     | with_reducible refine callN ?_
     | ((with_reducible refine isCut ?_); refine cutK (X := Nat × Int × Bool) (fun x => x.1 ≤ n ∧ G.impl_addKid.K1 x.1 a_value1 v1 x.2.1 x.2.2 = some r) (fun x => ASt.of [(5, .v true (.one (.ptr 107 0))), (6, .v true (.one (.ptr 108 0))), (8, .v true (.one (.ptr 109 0))), (9, .v true (.one (.c (.lit (.int .i64 x.2.1))))), (10, .v true (.one (.c (.lit (.bool x.2.2)))))] [(107, .var [.c (.lit (.int .i64 a_value1.Kind)), .c (.lit (.int .i64 a_value1.Num)), .c (.str a_value1.Text), .c (.sl 1 (List.map cS a_value1.Names)), .c (.sl 5 (List.map NodeT.cells a_value1.Kids))]), (108, .var [.c (.lit (.int .i64 0)), .c (.lit (.int .i64 0)), .c (.str []), .nsl 1, .nsl 5]), (109, .var [.c (.lit (.int .i64 v1.Kind)), .c (.lit (.int .i64 v1.Num)), .c (.str v1.Text), .own 110 v1.Names.length 1, .own 111 v1.Kids.length 5]), (110, .dat 1 (List.map cS v1.Names)), (111, .dat 5 (List.map NodeT.cells v1.Kids))]) ?_ ?_)
     | ((with_reducible refine isCall ?_); (with_reducible replace h := bq h); first | (obtain ⟨v1, hv, h⟩ := h; (with_reducible have hc := F.impl_copyNode_o hv); first | (refine callG [] [101, 102] hc rfl rfl ?_ ?_ rfl rfl ?_ rfl ?_; (iterate 2 focus (simp only [ggR, renC, reduceIte, Nat.reduceEqDiff, Nat.reduceLeDiff, Nat.reduceAdd] <;> fail)); (focus first | rfl | (simp only [ggR, renC, reduceIte, Nat.reduceEqDiff, Nat.reduceLeDiff, Nat.reduceAdd] <;> fail))) | (refine callG [] [103, 104] hc rfl rfl ?_ ?_ rfl rfl ?_ rfl ?_; (iterate 2 focus (simp only [ggR, renC, reduceIte, Nat.reduceEqDiff, Nat.reduceLeDiff, Nat.reduceAdd] <;> fail)); (focus first | rfl | (simp only [ggR, renC, reduceIte, Nat.reduceEqDiff, Nat.reduceLeDiff, Nat.reduceAdd] <;> fail))) | (refine callG [] [112, 113] hc rfl rfl ?_ ?_ rfl rfl ?_ rfl ?_; (iterate 2 focus (simp only [ggR, renC, reduceIte, Nat.reduceEqDiff, Nat.reduceLeDiff, Nat.reduceAdd] <;> fail)); (focus first | rfl | (simp only [ggR, renC, reduceIte, Nat.reduceEqDiff, Nat.reduceLeDiff, Nat.reduceAdd] <;> fail)))) | (obtain ⟨v3, hv, h⟩ := h; (with_reducible have hc := F.impl_putName hv); (refine callH [13, 101, 102] [105, 106] hc ?_ ?_ rfl rfl ?_ ?_ rfl rfl rfl ?_; (iterate 4 focus (simp only [ghR, renC, reduceIte, Nat.reduceEqDiff, Nat.reduceLeDiff, Nat.reduceAdd, Nat.reduceBEq] <;> fail)))) | (obtain ⟨v4, hv, h⟩ := h; (with_reducible have hc := F.impl_kidIndex hv); refine callL (fun _ => hc) rfl rfl ?_) | (obtain ⟨v8, hv, h⟩ := h; (with_reducible have hc := F.strconv_Itoa hv); refine callL (fun _ => hc) rfl rfl ?_) | (obtain ⟨v7, hv, h⟩ := h; (with_reducible have hc := F.slices_Insert_impl_Node hv); (refine callG [111, 14] [114] hc rfl rfl ?_ ?_ rfl rfl ?_ rfl ?_; (iterate 2 focus (simp only [ggR, renC, reduceIte, Nat.reduceEqDiff, Nat.reduceLeDiff, Nat.reduceAdd] <;> fail)); (focus first | rfl | (simp only [ggR, renC, reduceIte, Nat.reduceEqDiff, Nat.reduceLeDiff, Nat.reduceAdd] <;> fail)))))
     | ((with_reducible replace h := cq h); rcases h with ⟨c, h⟩ | ⟨c, h⟩ <;> try (simp only [*, Bool.false_eq_true, reduceCtorEq] at c; done))
     | ((with_reducible refine isEx ?_); simp only [Prod.exists]; refine ⟨_, _, _, ⟨?_, h⟩, weak_of [] [(107, 11), (108, 12), (109, 13), (110, 101), (111, 102)] [] ?_ ?_ ?_⟩; (focus omega); (focus rfl); (iterate 2 focus (simp -dsimp only [wkR, wkB, wkC, reduceIte, Nat.reduceEqDiff, reduceCtorEq] <;> simp [List.take_of_length_le]; done)))
     | ((with_reducible refine isEnd ?_); (simp -dsimp only [peR, reduceIte, Nat.reduceEqDiff, Nat.reduceAdd, Nat.reduceLeDiff, reduceCtorEq] <;> simp [List.take_of_length_le]; done)))
theorem F.impl_AddNode_1 {n : Nat} : ∀ {a_parent1 : NodeT} {p_cap01 : List Txt} {p_cap11 : Int} {p_cap21 : NodeT} {r : NodeT × Bool}, G.impl_AddNode_1 n a_parent1 p_cap01 p_cap11 p_cap21 = some r → ACalls Go.Proofs.Tryz.prog 32 [.agg [.c (.lit (.int .i64 a_parent1.Kind)), .c (.lit (.int .i64 a_parent1.Num)), .c (.str a_parent1.Text), .c (.sl 1 (List.map cS a_parent1.Names)), .c (.sl 5 (List.map NodeT.cells a_parent1.Kids))], .one (.ptr 0 0), .one (.ptr 1 0), .one (.ptr 2 0)] [.var [.c (.sl 1 (List.map cS p_cap01))], .var [.c (.lit (.int .i64 p_cap11))], .var [.c (.lit (.int .i64 p_cap21.Kind)), .c (.lit (.int .i64 p_cap21.Num)), .c (.str p_cap21.Text), .c (.sl 1 (List.map cS p_cap21.Names)), .c (.sl 5 (List.map NodeT.cells p_cap21.Kids))]] (fun r1 b1 => r1 = .tup [(true, [.c (.lit (.int .i64 r.1.Kind)), .c (.lit (.int .i64 r.1.Num)), .c (.str r.1.Text), .c (.sl 1 (List.map cS r.1.Names)), .c (.sl 5 (List.map NodeT.cells r.1.Kids))]), (false, [.c (.lit (.bool r.2))])] ∧ b1 = [.var [.c (.sl 1 (List.map cS p_cap01))], .var [.c (.lit (.int .i64 p_cap11))], .var [.c (.lit (.int .i64 p_cap21.Kind)), .c (.lit (.int .i64 p_cap21.Num)), .c (.str p_cap21.Text), .c (.sl 1 (List.map cS p_cap21.Names)), .c (.sl 5 (List.map NodeT.cells p_cap21.Kids))]]) := by
  intro a_parent1 p_cap01 p_cap11 p_cap21 r h
  refine fun_sound K.impl_AddNode_1 (ofK ?_)
  unfold C.impl_AddNode_1
  rcases n with _ | n <;> simp only [G.impl_AddNode_1, reduceCtorEq] at h
  repeat' first
  | ((with_reducible replace h := kq0 h); obtain ⟨_, _, h⟩ := h)
  | ((with_reducible replace h := kq1 h); obtain ⟨_, _, h⟩ := h)
  | ((with_reducible replace h := kq h); obtain ⟨_, h⟩ := h)
  | ((with_reducible replace h := sq h); subst h; have h := True.intro)
  | (try simp -dsimp only [egR, AOp.opds, AOp.f, AOp.rd, intBin, storeV, lvl, srcOf, reduceIte, Nat.reduceEqDiff, Nat.reduceAdd, Nat.reduceLeDiff, Nat.reduceBEq, reduceCtorEq, Int.reduceBNe, Int.reduceBEq, Int.reduceLT, Int.reduceLE, Int.reduceNeg, Nat.reduceLT, strBin, Int.reduceToNat, renC, *]
     repeat ((with_reducible refine And.intro ?_ ?_); focus first | (show logOK _ _ _ _ = true; kernel_rfl) | (show callOK _ _ = true; kernel_rfl) | omega | assumption | (show _ ≤ maxLen; decide))
     first
     | with_reducible refine callN ?_
     | ((with_reducible refine isCall ?_); (with_reducible replace h := bq h); first | (obtain ⟨v1, hv, h⟩ := h; (with_reducible have hc := F.impl_addKid hv); refine callP hc rfl rfl ?_))
     | ((with_reducible replace h := cq h); rcases h with ⟨_, h⟩ | ⟨_, h⟩)
     | ((with_reducible refine isRet ?_); (refine ret_of [] [(0, 0), (1, 1), (2, 2)] [] ?_ ?_ ?_ ?_; (focus rfl); (iterate 3 focus (simp -dsimp only [rwR, wkB, wkC, reduceIte, Nat.reduceEqDiff, reduceCtorEq, Nat.reduceAdd, Nat.reduceLeDiff] <;> simp [List.take_of_length_le]; done)))))
theorem F.impl_isPlainText {n : Nat} : ∀ {a_s1 : Txt} {r : Bool}, G.impl_isPlainText n a_s1 = some r → APure Go.Proofs.Tryz.prog 55 [.one (.c (.str a_s1))] (.one (.c (.lit (.bool r)))) := by
  intro a_s1 r h
  refine fun_pure K.impl_isPlainText (ofK ?_)
  unfold C.impl_isPlainText
  rcases n with _ | n <;> simp only [G.impl_isPlainText, reduceCtorEq] at h
  repeat' first
  | (clear h; (with_reducible rintro ⟨n, x_i2⟩ ⟨hn, h⟩); (with_reducible replace h : G.impl_isPlainText.L1 _ _ _ = some _ := h); rcases n with _ | n <;> simp only [G.impl_isPlainText.L1, reduceCtorEq] at h <;> simp only at hn)
  | ((with_reducible replace h := kq0 h); obtain ⟨_, _, h⟩ := h)
  | ((with_reducible replace h := kq1 h); obtain ⟨_, _, h⟩ := h)
  | ((with_reducible replace h := kq h); obtain ⟨_, h⟩ := h)
  | ((with_reducible replace h := sq h); subst h; have h := True.intro)
  | (try simp -dsimp only [egR, AOp.opds, AOp.f, AOp.rd, intBin, storeV, lvl, srcOf, reduceIte, Nat.reduceEqDiff, Nat.reduceAdd, Nat.reduceLeDiff, Nat.reduceBEq, reduceCtorEq, Int.reduceBNe, Int.reduceBEq, Int.reduceLT, Int.reduceLE, Int.reduceNeg, Nat.reduceLT, strBin, Int.reduceToNat, renC, *]
     repeat ((with_reducible refine And.intro ?_ ?_); focus first | (show logOK _ _ _ _ = true; kernel_rfl) | (show callOK _ _ = true; kernel_rfl) | omega | assumption | (show _ ≤ maxLen; decide))
     first
     | with_reducible refine callN ?_
     | ((with_reducible refine isLoop ?_); refine loopE (X := Nat × Int) (fun x => x.1 ≤ n ∧ G.impl_isPlainText.L1 x.1 a_s1 x.2 = some r) (fun x => ASt.of [(0, .v true (.one (.c (.str a_s1)))), (3, .v true (.one (.c (.lit (.int .i64 x.2)))))] []) (fun x => x.1) (by simp only [Prod.exists]; exact ⟨_, _, ⟨Nat.le_refl _, h⟩, weak_of [] [] [] (by rfl) (by (simp -dsimp only [wkR, wkB, wkC, reduceIte, Nat.reduceEqDiff, reduceCtorEq] <;> simp [List.take_of_length_le]; done)) (by (simp -dsimp only [wkR, wkB, wkC, reduceIte, Nat.reduceEqDiff, reduceCtorEq] <;> simp [List.take_of_length_le]; done))⟩) ?_)
     | ((with_reducible replace h := cq h); rcases h with ⟨c, h⟩ | ⟨c, h⟩ <;> try (simp only [*, Bool.false_eq_true, reduceCtorEq] at c; done))
     | ((with_reducible refine isEx ?_); simp only [Prod.exists]; refine ⟨_, _, ⟨⟨?_, h⟩, ?_⟩, weak_of [] [] [] ?_ ?_ ?_⟩; (iterate 2 focus omega); (focus rfl); (iterate 2 focus (simp -dsimp only [wkR, wkB, wkC, reduceIte, Nat.reduceEqDiff, reduceCtorEq] <;> simp [List.take_of_length_le]; done)))
     | ((with_reducible refine isEnd ?_); (simp -dsimp only [peR, reduceIte, Nat.reduceEqDiff, Nat.reduceAdd, Nat.reduceLeDiff, reduceCtorEq] <;> simp [List.take_of_length_le]; done)))
theorem F.impl_areNames {n : Nat} : ∀ {a_names1 : List Txt} {r : Bool}, G.impl_areNames n a_names1 = some r → APure Go.Proofs.Tryz.prog 81 [.one (.c (.sl 1 (List.map cS a_names1)))] (.one (.c (.lit (.bool r)))) := by
  intro a_names1 r h
  refine fun_pure K.impl_areNames (ofK ?_)
  unfold C.impl_areNames
  rcases n with _ | n <;> simp only [G.impl_areNames, reduceCtorEq] at h
  repeat' first
  | (clear h; (with_reducible rintro ⟨n, x_t2⟩ ⟨hn, h⟩); (with_reducible replace h : G.impl_areNames.L1 _ _ _ = some _ := h); rcases n with _ | n <;> simp only [G.impl_areNames.L1, reduceCtorEq] at h <;> simp only at hn)
  | ((with_reducible replace h := kq0 h); obtain ⟨_, _, h⟩ := h)
  | ((with_reducible replace h := kq1 h); obtain ⟨_, _, h⟩ := h)
  | ((with_reducible replace h := kq h); obtain ⟨_, h⟩ := h)
  | ((with_reducible replace h := sq h); subst h; have h := True.intro)
  | (try simp -dsimp only [egR, AOp.opds, AOp.f, AOp.rd, intBin, storeV, lvl, srcOf, reduceIte, Nat.reduceEqDiff, Nat.reduceAdd, Nat.reduceLeDiff, Nat.reduceBEq, reduceCtorEq, Int.reduceBNe, Int.reduceBEq, Int.reduceLT, Int.reduceLE, Int.reduceNeg, Nat.reduceLT, strBin, Int.reduceToNat, renC, *]
     repeat ((with_reducible refine And.intro ?_ ?_); focus first | (show logOK _ _ _ _ = true; kernel_rfl) | (show callOK _ _ = true; kernel_rfl) | omega | assumption | (show _ ≤ maxLen; decide))
     first
     | with_reducible refine callN ?_
     | ((with_reducible refine isLoop ?_); refine loopE (X := Nat × Int) (fun x => x.1 ≤ n ∧ G.impl_areNames.L1 x.1 a_names1 x.2 = some r) (fun x => ASt.of [(0, .v true (.one (.c (.sl 1 (List.map cS a_names1))))), (8, .v true (.one (.c (.sl 1 (List.map cS a_names1))))), (9, .v true (.one (.c (.lit (.int .i64 ((a_names1.length : Nat) : Int)))))), (10, .v true (.one (.c (.lit (.int .i64 x.2)))))] []) (fun x => x.1) (by simp only [Prod.exists]; exact ⟨_, _, ⟨Nat.le_refl _, h⟩, weak_of [] [] [] (by rfl) (by (simp -dsimp only [wkR, wkB, wkC, reduceIte, Nat.reduceEqDiff, reduceCtorEq] <;> simp [List.take_of_length_le]; done)) (by (simp -dsimp only [wkR, wkB, wkC, reduceIte, Nat.reduceEqDiff, reduceCtorEq] <;> simp [List.take_of_length_le]; done))⟩) ?_)
     | ((with_reducible refine isCall ?_); (with_reducible replace h := bq h); first | (obtain ⟨v3, hv, h⟩ := h; (with_reducible have hc := F.impl_isPlainText hv); refine callL (fun _ => hc) rfl rfl ?_))
     | ((with_reducible replace h := cq h); rcases h with ⟨c, h⟩ | ⟨c, h⟩ <;> try (simp only [*, Bool.false_eq_true, reduceCtorEq] at c; done))
     | ((with_reducible refine isEx ?_); simp only [Prod.exists]; refine ⟨_, _, ⟨⟨?_, h⟩, ?_⟩, weak_of [] [] [] ?_ ?_ ?_⟩; (iterate 2 focus omega); (focus rfl); (iterate 2 focus (simp -dsimp only [wkR, wkB, wkC, reduceIte, Nat.reduceEqDiff, reduceCtorEq] <;> simp [List.take_of_length_le]; done)))
     | ((with_reducible refine isEnd ?_); (simp -dsimp only [peR, reduceIte, Nat.reduceEqDiff, Nat.reduceAdd, Nat.reduceLeDiff, reduceCtorEq] <;> simp [List.take_of_length_le]; done)))
theorem F.impl_hasValidParts {n : Nat} : ∀ {a_n1 : NodeT} {r : Bool}, G.impl_hasValidParts n a_n1 = some r → APure Go.Proofs.Tryz.prog 60 [.agg [.c (.lit (.int .i64 a_n1.Kind)), .c (.lit (.int .i64 a_n1.Num)), .c (.str a_n1.Text), .c (.sl 1 (List.map cS a_n1.Names)), .c (.sl 5 (List.map NodeT.cells a_n1.Kids))]] (.one (.c (.lit (.bool r)))) := by
  intro a_n1 r h
  refine fun_pure K.impl_hasValidParts (ofK ?_)
  unfold C.impl_hasValidParts
  rcases n with _ | n <;> simp only [G.impl_hasValidParts, reduceCtorEq] at h
  repeat' first
  | (clear h; (with_reducible rintro ⟨n, _⟩ ⟨hn, h⟩); (with_reducible replace h : G.impl_hasValidParts.K1 _ _ = some _ := h); rcases n with _ | n <;> simp only [G.impl_hasValidParts.K1, reduceCtorEq] at h <;> simp only at hn)
  | ((with_reducible replace h := kq0 h); obtain ⟨_, _, h⟩ := h)
  | ((with_reducible replace h := kq1 h); obtain ⟨_, _, h⟩ := h)
  | ((with_reducible replace h := kq h); obtain ⟨_, h⟩ := h)
  | ((with_reducible replace h := sq h); subst h; have h := True.intro)
  | (try simp -dsimp only [egR, AOp.opds, AOp.f, AOp.rd, intBin, storeV, lvl, srcOf, reduceIte, Nat.reduceEqDiff, Nat.reduceAdd, Nat.reduceLeDiff, Nat.reduceBEq, reduceCtorEq, Int.reduceBNe, Int.reduceBEq, Int.reduceLT, Int.reduceLE, Int.reduceNeg, Nat.reduceLT, strBin, Int.reduceToNat, renC, *]
     repeat ((with_reducible refine And.intro ?_ ?_); focus first | (show logOK _ _ _ _ = true; kernel_rfl) | (show callOK _ _ = true; kernel_rfl) | omega | assumption | (show _ ≤ maxLen; decide))
     first
     | with_reducible refine callN ?_
     | ((with_reducible refine isCut ?_); refine cutK (X := Nat × Unit) (fun x => x.1 ≤ n ∧ G.impl_hasValidParts.K1 x.1 a_n1 = some r) (fun x => ASt.of [(1, .v true (.one (.ptr 101 0))), (20, .v true (.one (.c (.lit (.bool false)))))] [(101, .var [.c (.lit (.int .i64 a_n1.Kind)), .c (.lit (.int .i64 a_n1.Num)), .c (.str a_n1.Text), .c (.sl 1 (List.map cS a_n1.Names)), .c (.sl 5 (List.map NodeT.cells a_n1.Kids))])]) ?_ ?_)
     | ((with_reducible refine isCall ?_); (with_reducible replace h := bq h); first | (obtain ⟨v1, hv, h⟩ := h; (with_reducible have hc := F.impl_isPlainText hv); refine callL (fun _ => hc) rfl rfl ?_) | (obtain ⟨v2, hv, h⟩ := h; (with_reducible have hc := F.impl_areNames hv); refine callL (fun _ => hc) rfl rfl ?_))
     | ((with_reducible replace h := cq h); rcases h with ⟨c, h⟩ | ⟨c, h⟩ <;> try (simp only [*, Bool.false_eq_true, reduceCtorEq] at c; done))
     | ((with_reducible refine isEx ?_); simp only [Prod.exists]; refine ⟨_, (), ⟨?_, h⟩, weak_of [] [(101, 10)] [] ?_ ?_ ?_⟩; (focus omega); (focus rfl); (iterate 2 focus (simp -dsimp only [wkR, wkB, wkC, reduceIte, Nat.reduceEqDiff, reduceCtorEq] <;> simp [List.take_of_length_le]; done)))
     | ((with_reducible refine isEnd ?_); (simp -dsimp only [peR, reduceIte, Nat.reduceEqDiff, Nat.reduceAdd, Nat.reduceLeDiff, reduceCtorEq] <;> simp [List.take_of_length_le]; done)))
theorem F.impl_measureNode_n : ∀ (n : Nat), ∀ {a_n1 : NodeT} {a_level1 : Int} {r : Int × Int × Bool}, G.impl_measureNode n a_n1 a_level1 = some r → APure Go.Proofs.Tryz.prog 39 [.agg [.c (.lit (.int .i64 a_n1.Kind)), .c (.lit (.int .i64 a_n1.Num)), .c (.str a_n1.Text), .c (.sl 1 (List.map cS a_n1.Names)), .c (.sl 5 (List.map NodeT.cells a_n1.Kids))], .one (.c (.lit (.int .i64 a_level1)))] (.tup [(false, [.c (.lit (.int .i64 r.1))]), (false, [.c (.lit (.int .i64 r.2.1))]), (false, [.c (.lit (.bool r.2.2))])]) := by
  intro n
  induction n using Nat.strongRecOn with | _ n ih =>
  intro a_n1 a_level1 r h
  refine fun_pure K.impl_measureNode (ofK ?_)
  unfold C.impl_measureNode
  rcases n with _ | n <;> simp only [G.impl_measureNode, reduceCtorEq] at h
  repeat' first
  | (clear h; (with_reducible rintro ⟨n, x_count2, x_depth2, x_t2⟩ ⟨hn, h⟩); (with_reducible replace h : G.impl_measureNode.L1 _ _ _ _ _ _ = some _ := h); rcases n with _ | n <;> simp only [G.impl_measureNode.L1, reduceCtorEq] at h <;> simp only at hn)
  | ((with_reducible replace h := kq0 h); obtain ⟨_, _, h⟩ := h)
  | ((with_reducible replace h := kq1 h); obtain ⟨_, _, h⟩ := h)
  | ((with_reducible replace h := kq h); obtain ⟨_, h⟩ := h)
  | ((with_reducible replace h := sq h); subst h; have h := True.intro)
  | (try simp -dsimp only [egR, AOp.opds, AOp.f, AOp.rd, intBin, storeV, lvl, srcOf, reduceIte, Nat.reduceEqDiff, Nat.reduceAdd, Nat.reduceLeDiff, Nat.reduceBEq, reduceCtorEq, Int.reduceBNe, Int.reduceBEq, Int.reduceLT, Int.reduceLE, Int.reduceNeg, Nat.reduceLT, strBin, Int.reduceToNat, renC, *]
     repeat ((with_reducible refine And.intro ?_ ?_); focus first | (show logOK _ _ _ _ = true; kernel_rfl) | (show callOK _ _ = true; kernel_rfl) | omega | assumption | (show _ ≤ maxLen; decide))
     first
     | with_reducible refine callN ?_
     | ((with_reducible refine isLoop ?_); refine loopE (X := Nat × Int × Int × Int) (fun x => x.1 ≤ n ∧ G.impl_measureNode.L1 x.1 a_n1 a_level1 x.2.1 x.2.2.1 x.2.2.2 = some r) (fun x => ASt.of [(1, .v true (.one (.c (.lit (.int .i64 a_level1))))), (4, .v true (.one (.c (.lit (.int .i64 x.2.1))))), (5, .v true (.one (.c (.lit (.int .i64 x.2.2.1))))), (20, .v true (.one (.c (.sl 5 (List.map NodeT.cells a_n1.Kids))))), (21, .v true (.one (.c (.lit (.int .i64 ((a_n1.Kids.length : Nat) : Int)))))), (22, .v true (.one (.c (.lit (.int .i64 x.2.2.2)))))] []) (fun x => x.1) (by simp only [Prod.exists]; exact ⟨_, _, _, _, ⟨Nat.le_refl _, h⟩, weak_of [] [] [] (by rfl) (by (simp -dsimp only [wkR, wkB, wkC, reduceIte, Nat.reduceEqDiff, reduceCtorEq] <;> simp [List.take_of_length_le]; done)) (by (simp -dsimp only [wkR, wkB, wkC, reduceIte, Nat.reduceEqDiff, reduceCtorEq] <;> simp [List.take_of_length_le]; done))⟩) ?_)
     | ((with_reducible refine isCall ?_); (with_reducible replace h := bq h); first | (obtain ⟨v1, hv, h⟩ := h; (with_reducible have hc := F.impl_hasValidParts hv); refine callL (fun _ => hc) rfl rfl ?_) | (obtain ⟨v4, hv, h⟩ := h; have hc := ih _ (by omega) hv; refine callL (fun _ => hc) rfl rfl ?_))
     | ((with_reducible replace h := cq h); rcases h with ⟨c, h⟩ | ⟨c, h⟩ <;> try (simp only [*, Bool.false_eq_true, reduceCtorEq] at c; done))
     | ((with_reducible refine isEx ?_); simp only [Prod.exists]; refine ⟨_, _, _, _, ⟨⟨?_, h⟩, ?_⟩, weak_of [] [] [] ?_ ?_ ?_⟩; (iterate 2 focus omega); (focus rfl); (iterate 2 focus (simp -dsimp only [wkR, wkB, wkC, reduceIte, Nat.reduceEqDiff, reduceCtorEq] <;> simp [List.take_of_length_le]; done)))
     | ((with_reducible refine isEnd ?_); (simp -dsimp only [peR, reduceIte, Nat.reduceEqDiff, Nat.reduceAdd, Nat.reduceLeDiff, reduceCtorEq] <;> simp [List.take_of_length_le]; done)))
theorem F.impl_measureNode {n : Nat} : ∀ {a_n1 : NodeT} {a_level1 : Int} {r : Int × Int × Bool}, G.impl_measureNode n a_n1 a_level1 = some r → APure Go.Proofs.Tryz.prog 39 [.agg [.c (.lit (.int .i64 a_n1.Kind)), .c (.lit (.int .i64 a_n1.Num)), .c (.str a_n1.Text), .c (.sl 1 (List.map cS a_n1.Names)), .c (.sl 5 (List.map NodeT.cells a_n1.Kids))], .one (.c (.lit (.int .i64 a_level1)))] (.tup [(false, [.c (.lit (.int .i64 r.1))]), (false, [.c (.lit (.int .i64 r.2.1))]), (false, [.c (.lit (.bool r.2.2))])]) := F.impl_measureNode_n n
theorem F.impl_ValidNode {n : Nat} : ∀ {a_n1 : NodeT} {r : Bool}, G.impl_ValidNode n a_n1 = some r → APure Go.Proofs.Tryz.prog 14 [.agg [.c (.lit (.int .i64 a_n1.Kind)), .c (.lit (.int .i64 a_n1.Num)), .c (.str a_n1.Text), .c (.sl 1 (List.map cS a_n1.Names)), .c (.sl 5 (List.map NodeT.cells a_n1.Kids))]] (.one (.c (.lit (.bool r)))) := by
  intro a_n1 r h
  refine fun_pure K.impl_ValidNode (ofK ?_)
  unfold C.impl_ValidNode
  rcases n with _ | n <;> simp only [G.impl_ValidNode, reduceCtorEq] at h
  repeat' first
  | ((with_reducible replace h := kq0 h); obtain ⟨_, _, h⟩ := h)
  | ((with_reducible replace h := kq1 h); obtain ⟨_, _, h⟩ := h)
  | ((with_reducible replace h := kq h); obtain ⟨_, h⟩ := h)
  | ((with_reducible replace h := sq h); subst h; have h := True.intro)
  | (try simp -dsimp only [egR, AOp.opds, AOp.f, AOp.rd, intBin, storeV, lvl, srcOf, reduceIte, Nat.reduceEqDiff, Nat.reduceAdd, Nat.reduceLeDiff, Nat.reduceBEq, reduceCtorEq, Int.reduceBNe, Int.reduceBEq, Int.reduceLT, Int.reduceLE, Int.reduceNeg, Nat.reduceLT, strBin, Int.reduceToNat, renC, *]
     repeat ((with_reducible refine And.intro ?_ ?_); focus first | (show logOK _ _ _ _ = true; kernel_rfl) | (show callOK _ _ = true; kernel_rfl) | omega | assumption | (show _ ≤ maxLen; decide))
     first
     | with_reducible refine callN ?_
     | ((with_reducible refine isCall ?_); (with_reducible replace h := bq h); first | (obtain ⟨v1, hv, h⟩ := h; (with_reducible have hc := F.impl_measureNode hv); refine callL (fun _ => hc) rfl rfl ?_))
     | ((with_reducible replace h := cq h); rcases h with ⟨_, h⟩ | ⟨_, h⟩)
     | ((with_reducible refine isEnd ?_); (simp -dsimp only [peR, reduceIte, Nat.reduceEqDiff, Nat.reduceAdd, Nat.reduceLeDiff, reduceCtorEq] <;> simp [List.take_of_length_le]; done)))
theorem F.impl_changeAt__impl_AddNode_1_n : ∀ (n : Nat), ∀ {a_n1 : NodeT} {a_path1 : List Txt} {p_cap01 : List Txt} {p_cap11 : Int} {p_cap21 : NodeT} {r : NodeT × Bool}, G.impl_changeAt__impl_AddNode_1 n a_n1 a_path1 p_cap01 p_cap11 p_cap21 = some r → ACalls Go.Proofs.Tryz.prog 31 [.agg [.c (.lit (.int .i64 a_n1.Kind)), .c (.lit (.int .i64 a_n1.Num)), .c (.str a_n1.Text), .c (.sl 1 (List.map cS a_n1.Names)), .c (.sl 5 (List.map NodeT.cells a_n1.Kids))], .one (.c (.sl 1 (List.map cS a_path1))), .one (.fn 32 [0, 1, 2])] [.var [.c (.sl 1 (List.map cS p_cap01))], .var [.c (.lit (.int .i64 p_cap11))], .var [.c (.lit (.int .i64 p_cap21.Kind)), .c (.lit (.int .i64 p_cap21.Num)), .c (.str p_cap21.Text), .c (.sl 1 (List.map cS p_cap21.Names)), .c (.sl 5 (List.map NodeT.cells p_cap21.Kids))]] (fun r1 b1 => r1 = .tup [(true, [.c (.lit (.int .i64 r.1.Kind)), .c (.lit (.int .i64 r.1.Num)), .c (.str r.1.Text), .c (.sl 1 (List.map cS r.1.Names)), .c (.sl 5 (List.map NodeT.cells r.1.Kids))]), (false, [.c (.lit (.bool r.2))])] ∧ b1 = [.var [.c (.sl 1 (List.map cS p_cap01))], .var [.c (.lit (.int .i64 p_cap11))], .var [.c (.lit (.int .i64 p_cap21.Kind)), .c (.lit (.int .i64 p_cap21.Num)), .c (.str p_cap21.Text), .c (.sl 1 (List.map cS p_cap21.Names)), .c (.sl 5 (List.map NodeT.cells p_cap21.Kids))]]) := by
  intro n
  induction n using Nat.strongRecOn with | _ n ih =>
  intro a_n1 a_path1 p_cap01 p_cap11 p_cap21 r h
  refine fun_sound K.impl_changeAt__impl_AddNode_1 (ofK ?_)
  unfold C.impl_changeAt
  rcases n with _ | n <;> simp only [G.impl_changeAt__impl_AddNode_1, reduceCtorEq] at h
  repeat' first
  | ((with_reducible replace h := kq0 h); obtain ⟨_, _, h⟩ := h)
  | ((with_reducible replace h := kq1 h); obtain ⟨_, _, h⟩ := h)
  | ((with_reducible replace h := kq h); obtain ⟨_, h⟩ := h)
  | ((with_reducible replace h := sq h); subst h; have h := True.intro)
  | (try simp -dsimp only [egR, AOp.opds, AOp.f, AOp.rd, intBin, storeV, lvl, srcOf, reduceIte, Nat.reduceEqDiff, Nat.reduceAdd, Nat.reduceLeDiff, Nat.reduceBEq, reduceCtorEq, Int.reduceBNe, Int.reduceBEq, Int.reduceLT, Int.reduceLE, Int.reduceNeg, Nat.reduceLT, strBin, Int.reduceToNat, renC, *]
     repeat ((with_reducible refine And.intro ?_ ?_); focus first | (show logOK _ _ _ _ = true; kernel_rfl) | (show callOK _ _ = true; kernel_rfl) | omega | assumption | (show _ ≤ maxLen; decide))
     first
     | with_reducible refine callN ?_
     | ((with_reducible refine isCall ?_); (with_reducible replace h := bq h); first | (obtain ⟨v1, hv, h⟩ := h; (with_reducible have hc := F.impl_AddNode_1 hv); (refine callG [0, 1, 2] [] hc rfl rfl ?_ ?_ rfl rfl ?_ rfl ?_; (iterate 2 focus (simp only [ggR, renC, reduceIte, Nat.reduceEqDiff, Nat.reduceLeDiff, Nat.reduceAdd] <;> fail)); (focus first | rfl | (simp only [ggR, renC, reduceIte, Nat.reduceEqDiff, Nat.reduceLeDiff, Nat.reduceAdd] <;> fail)))) | (obtain ⟨v2, hv, h⟩ := h; (with_reducible have hc := F.impl_kidIndex hv); refine callL (fun _ => hc) rfl rfl ?_) | (obtain ⟨v4, hv, h⟩ := h; (with_reducible have hc := F.impl_copyNode_o hv); (refine callG [] [101, 102] hc rfl rfl ?_ ?_ rfl rfl ?_ rfl ?_; (iterate 2 focus (simp only [ggR, renC, reduceIte, Nat.reduceEqDiff, Nat.reduceLeDiff, Nat.reduceAdd] <;> fail)); (focus first | rfl | (simp only [ggR, renC, reduceIte, Nat.reduceEqDiff, Nat.reduceLeDiff, Nat.reduceAdd] <;> fail)))) | (obtain ⟨v3, hv, h⟩ := h; have hc := ih _ (by omega) hv; (refine callG [0, 1, 2] [] hc rfl rfl ?_ ?_ rfl rfl ?_ rfl ?_; (iterate 2 focus (simp only [ggR, renC, reduceIte, Nat.reduceEqDiff, Nat.reduceLeDiff, Nat.reduceAdd] <;> fail)); (focus first | rfl | (simp only [ggR, renC, reduceIte, Nat.reduceEqDiff, Nat.reduceLeDiff, Nat.reduceAdd] <;> fail)))))
     | ((with_reducible replace h := cq h); rcases h with ⟨_, h⟩ | ⟨_, h⟩)
     | ((with_reducible refine isRet ?_); first | (refine ret_of [] [(0, 0), (1, 1), (2, 2)] [] ?_ ?_ ?_ ?_; (focus rfl); (iterate 3 focus (simp -dsimp only [rwR, wkB, wkC, reduceIte, Nat.reduceEqDiff, reduceCtorEq, Nat.reduceAdd, Nat.reduceLeDiff] <;> simp [List.take_of_length_le]; done))) | (refine ret_of [101, 102] [(0, 0), (1, 1), (2, 2)] [] ?_ ?_ ?_ ?_; (focus rfl); (iterate 3 focus (simp -dsimp only [rwR, wkB, wkC, reduceIte, Nat.reduceEqDiff, reduceCtorEq, Nat.reduceAdd, Nat.reduceLeDiff] <;> simp [List.take_of_length_le]; done)))))
theorem F.impl_changeAt__impl_AddNode_1 {n : Nat} : ∀ {a_n1 : NodeT} {a_path1 : List Txt} {p_cap01 : List Txt} {p_cap11 : Int} {p_cap21 : NodeT} {r : NodeT × Bool}, G.impl_changeAt__impl_AddNode_1 n a_n1 a_path1 p_cap01 p_cap11 p_cap21 = some r → ACalls Go.Proofs.Tryz.prog 31 [.agg [.c (.lit (.int .i64 a_n1.Kind)), .c (.lit (.int .i64 a_n1.Num)), .c (.str a_n1.Text), .c (.sl 1 (List.map cS a_n1.Names)), .c (.sl 5 (List.map NodeT.cells a_n1.Kids))], .one (.c (.sl 1 (List.map cS a_path1))), .one (.fn 32 [0, 1, 2])] [.var [.c (.sl 1 (List.map cS p_cap01))], .var [.c (.lit (.int .i64 p_cap11))], .var [.c (.lit (.int .i64 p_cap21.Kind)), .c (.lit (.int .i64 p_cap21.Num)), .c (.str p_cap21.Text), .c (.sl 1 (List.map cS p_cap21.Names)), .c (.sl 5 (List.map NodeT.cells p_cap21.Kids))]] (fun r1 b1 => r1 = .tup [(true, [.c (.lit (.int .i64 r.1.Kind)), .c (.lit (.int .i64 r.1.Num)), .c (.str r.1.Text), .c (.sl 1 (List.map cS r.1.Names)), .c (.sl 5 (List.map NodeT.cells r.1.Kids))]), (false, [.c (.lit (.bool r.2))])] ∧ b1 = [.var [.c (.sl 1 (List.map cS p_cap01))], .var [.c (.lit (.int .i64 p_cap11))], .var [.c (.lit (.int .i64 p_cap21.Kind)), .c (.lit (.int .i64 p_cap21.Num)), .c (.str p_cap21.Text), .c (.sl 1 (List.map cS p_cap21.Names)), .c (.sl 5 (List.map NodeT.cells p_cap21.Kids))]]) := F.impl_changeAt__impl_AddNode_1_n n
theorem F.impl_checked {n : Nat} : ∀ {a_n1 : NodeT} {a_ok1 : Bool} {r : NodeT × Bool}, G.impl_checked n a_n1 a_ok1 = some r → APure Go.Proofs.Tryz.prog 30 [.agg [.c (.lit (.int .i64 a_n1.Kind)), .c (.lit (.int .i64 a_n1.Num)), .c (.str a_n1.Text), .c (.sl 1 (List.map cS a_n1.Names)), .c (.sl 5 (List.map NodeT.cells a_n1.Kids))], .one (.c (.lit (.bool a_ok1)))] (.tup [(true, [.c (.lit (.int .i64 r.1.Kind)), .c (.lit (.int .i64 r.1.Num)), .c (.str r.1.Text), .c (.sl 1 (List.map cS r.1.Names)), .c (.sl 5 (List.map NodeT.cells r.1.Kids))]), (false, [.c (.lit (.bool r.2))])]) := by
  intro a_n1 a_ok1 r h
  refine fun_pure K.impl_checked (ofK ?_)
  unfold C.impl_checked
  rcases n with _ | n <;> simp only [G.impl_checked, reduceCtorEq] at h
  repeat' first
  | ((with_reducible replace h := kq0 h); obtain ⟨_, _, h⟩ := h)
  | ((with_reducible replace h := kq1 h); obtain ⟨_, _, h⟩ := h)
  | ((with_reducible replace h := kq h); obtain ⟨_, h⟩ := h)
  | ((with_reducible replace h := sq h); subst h; have h := True.intro)
  | (try simp -dsimp only [egR, AOp.opds, AOp.f, AOp.rd, intBin, storeV, lvl, srcOf, reduceIte, Nat.reduceEqDiff, Nat.reduceAdd, Nat.reduceLeDiff, Nat.reduceBEq, reduceCtorEq, Int.reduceBNe, Int.reduceBEq, Int.reduceLT, Int.reduceLE, Int.reduceNeg, Nat.reduceLT, strBin, Int.reduceToNat, renC, *]
     repeat ((with_reducible refine And.intro ?_ ?_); focus first | (show logOK _ _ _ _ = true; kernel_rfl) | (show callOK _ _ = true; kernel_rfl) | omega | assumption | (show _ ≤ maxLen; decide))
     first
     | with_reducible refine callN ?_
     | ((with_reducible refine isCall ?_); (with_reducible replace h := bq h); first | (obtain ⟨v1, hv, h⟩ := h; (with_reducible have hc := F.impl_ValidNode hv); refine callL (fun _ => hc) rfl rfl ?_))
     | ((with_reducible replace h := cq h); rcases h with ⟨_, h⟩ | ⟨_, h⟩)
     | ((with_reducible refine isEnd ?_); (simp -dsimp only [peR, reduceIte, Nat.reduceEqDiff, Nat.reduceAdd, Nat.reduceLeDiff, reduceCtorEq] <;> simp [List.take_of_length_le]; done)))
theorem F.impl_isPath {n : Nat} : ∀ {a_path1 : List Txt} {r : Bool}, G.impl_isPath n a_path1 = some r → APure Go.Proofs.Tryz.prog 28 [.one (.c (.sl 1 (List.map cS a_path1)))] (.one (.c (.lit (.bool r)))) := by
  intro a_path1 r h
  refine fun_pure K.impl_isPath (ofK ?_)
  unfold C.impl_isPath
  rcases n with _ | n <;> simp only [G.impl_isPath, reduceCtorEq] at h
  repeat' first
  | (clear h; (with_reducible rintro ⟨n, x_t2⟩ ⟨hn, h⟩); (with_reducible replace h : G.impl_isPath.L1 _ _ _ = some _ := h); rcases n with _ | n <;> simp only [G.impl_isPath.L1, reduceCtorEq] at h <;> simp only at hn)
  | ((with_reducible replace h := kq0 h); obtain ⟨_, _, h⟩ := h)
  | ((with_reducible replace h := kq1 h); obtain ⟨_, _, h⟩ := h)
  | ((with_reducible replace h := kq h); obtain ⟨_, h⟩ := h)
  | ((with_reducible replace h := sq h); subst h; have h := True.intro)
  | (try simp -dsimp only [egR, AOp.opds, AOp.f, AOp.rd, intBin, storeV, lvl, srcOf, reduceIte, Nat.reduceEqDiff, Nat.reduceAdd, Nat.reduceLeDiff, Nat.reduceBEq, reduceCtorEq, Int.reduceBNe, Int.reduceBEq, Int.reduceLT, Int.reduceLE, Int.reduceNeg, Nat.reduceLT, strBin, Int.reduceToNat, renC, *]
     repeat ((with_reducible refine And.intro ?_ ?_); focus first | (show logOK _ _ _ _ = true; kernel_rfl) | (show callOK _ _ = true; kernel_rfl) | omega | assumption | (show _ ≤ maxLen; decide))
     first
     | with_reducible refine callN ?_
     | ((with_reducible refine isLoop ?_); refine loopE (X := Nat × Int) (fun x => x.1 ≤ n ∧ G.impl_isPath.L1 x.1 a_path1 x.2 = some r) (fun x => ASt.of [(8, .v true (.one (.c (.sl 1 (List.map cS a_path1))))), (9, .v true (.one (.c (.lit (.int .i64 ((a_path1.length : Nat) : Int)))))), (10, .v true (.one (.c (.lit (.int .i64 x.2)))))] []) (fun x => x.1) (by simp only [Prod.exists]; exact ⟨_, _, ⟨Nat.le_refl _, h⟩, weak_of [] [] [] (by rfl) (by (simp -dsimp only [wkR, wkB, wkC, reduceIte, Nat.reduceEqDiff, reduceCtorEq] <;> simp [List.take_of_length_le]; done)) (by (simp -dsimp only [wkR, wkB, wkC, reduceIte, Nat.reduceEqDiff, reduceCtorEq] <;> simp [List.take_of_length_le]; done))⟩) ?_)
     | ((with_reducible refine isCall ?_); (with_reducible replace h := bq h); first | (obtain ⟨v3, hv, h⟩ := h; (with_reducible have hc := F.impl_isPlainText hv); refine callL (fun _ => hc) rfl rfl ?_))
     | ((with_reducible replace h := cq h); rcases h with ⟨c, h⟩ | ⟨c, h⟩ <;> try (simp only [*, Bool.false_eq_true, reduceCtorEq] at c; done))
     | ((with_reducible refine isEx ?_); simp only [Prod.exists]; refine ⟨_, _, ⟨⟨?_, h⟩, ?_⟩, weak_of [] [] [] ?_ ?_ ?_⟩; (iterate 2 focus omega); (focus rfl); (iterate 2 focus (simp -dsimp only [wkR, wkB, wkC, reduceIte, Nat.reduceEqDiff, reduceCtorEq] <;> simp [List.take_of_length_le]; done)))
     | ((with_reducible refine isEnd ?_); (simp -dsimp only [peR, reduceIte, Nat.reduceEqDiff, Nat.reduceAdd, Nat.reduceLeDiff, reduceCtorEq] <;> simp [List.take_of_length_le]; done)))
theorem F.impl_AddNode {n : Nat} : ∀ {a_n1 : NodeT} {a_path1 : List Txt} {a_value1 : NodeT} {r : NodeT × Bool}, G.impl_AddNode n a_n1 a_path1 a_value1 = some r → APure Go.Proofs.Tryz.prog 11 [.agg [.c (.lit (.int .i64 a_n1.Kind)), .c (.lit (.int .i64 a_n1.Num)), .c (.str a_n1.Text), .c (.sl 1 (List.map cS a_n1.Names)), .c (.sl 5 (List.map NodeT.cells a_n1.Kids))], .one (.c (.sl 1 (List.map cS a_path1))), .agg [.c (.lit (.int .i64 a_value1.Kind)), .c (.lit (.int .i64 a_value1.Num)), .c (.str a_value1.Text), .c (.sl 1 (List.map cS a_value1.Names)), .c (.sl 5 (List.map NodeT.cells a_value1.Kids))]] (.tup [(true, [.c (.lit (.int .i64 r.1.Kind)), .c (.lit (.int .i64 r.1.Num)), .c (.str r.1.Text), .c (.sl 1 (List.map cS r.1.Names)), .c (.sl 5 (List.map NodeT.cells r.1.Kids))]), (false, [.c (.lit (.bool r.2))])]) := by
  intro a_n1 a_path1 a_value1 r h
  refine fun_pure K.impl_AddNode (ofK ?_)
  unfold C.impl_AddNode
  rcases n with _ | n <;> simp only [G.impl_AddNode, reduceCtorEq] at h
  repeat' first
  | ((with_reducible replace h := kq0 h); obtain ⟨_, _, h⟩ := h)
  | ((with_reducible replace h := kq1 h); obtain ⟨_, _, h⟩ := h)
  | ((with_reducible replace h := kq h); obtain ⟨_, h⟩ := h)
  | ((with_reducible replace h := sq h); subst h; have h := True.intro)
  | (try simp -dsimp only [egR, AOp.opds, AOp.f, AOp.rd, intBin, storeV, lvl, srcOf, reduceIte, Nat.reduceEqDiff, Nat.reduceAdd, Nat.reduceLeDiff, Nat.reduceBEq, reduceCtorEq, Int.reduceBNe, Int.reduceBEq, Int.reduceLT, Int.reduceLE, Int.reduceNeg, Nat.reduceLT, strBin, Int.reduceToNat, renC, *]
     repeat ((with_reducible refine And.intro ?_ ?_); focus first | (show logOK _ _ _ _ = true; kernel_rfl) | (show callOK _ _ = true; kernel_rfl) | omega | assumption | (show _ ≤ maxLen; decide))
     first
     | with_reducible refine callN ?_
     | ((with_reducible refine isCall ?_); (with_reducible replace h := bq h); first | (obtain ⟨v1, hv, h⟩ := h; (with_reducible have hc := F.impl_ValidNode hv); refine callL (fun _ => hc) rfl rfl ?_) | (obtain ⟨v2, hv, h⟩ := h; (with_reducible have hc := F.impl_isPath hv); refine callL (fun _ => hc) rfl rfl ?_) | (obtain ⟨v4, hv, h⟩ := h; (with_reducible have hc := F.impl_copyNode hv); refine callP hc rfl rfl ?_) | (obtain ⟨v5, hv, h⟩ := h; (with_reducible have hc := F.impl_changeAt__impl_AddNode_1 hv); (refine callG [11, 14, 12] [] hc rfl rfl ?_ ?_ rfl rfl ?_ rfl ?_; (iterate 2 focus (simp only [ggR, renC, reduceIte, Nat.reduceEqDiff, Nat.reduceLeDiff, Nat.reduceAdd] <;> fail)); (focus first | rfl | (simp only [ggR, renC, reduceIte, Nat.reduceEqDiff, Nat.reduceLeDiff, Nat.reduceAdd] <;> fail)))) | (obtain ⟨v6, hv, h⟩ := h; (with_reducible have hc := F.impl_checked hv); refine callP hc rfl rfl ?_))
     | ((with_reducible replace h := cq h); rcases h with ⟨_, h⟩ | ⟨_, h⟩)
     | ((with_reducible refine isEnd ?_); (simp -dsimp only [peR, reduceIte, Nat.reduceEqDiff, Nat.reduceAdd, Nat.reduceLeDiff, reduceCtorEq] <;> simp [List.take_of_length_le]; done)))
theorem F.impl_findNode {n : Nat} : ∀ {a_n1 : NodeT} {a_path1 : List Txt} {r : NodeT × Bool}, G.impl_findNode n a_n1 a_path1 = some r → APure Go.Proofs.Tryz.prog 40 [.agg [.c (.lit (.int .i64 a_n1.Kind)), .c (.lit (.int .i64 a_n1.Num)), .c (.str a_n1.Text), .c (.sl 1 (List.map cS a_n1.Names)), .c (.sl 5 (List.map NodeT.cells a_n1.Kids))], .one (.c (.sl 1 (List.map cS a_path1)))] (.tup [(true, [.c (.lit (.int .i64 r.1.Kind)), .c (.lit (.int .i64 r.1.Num)), .c (.str r.1.Text), .c (.sl 1 (List.map cS r.1.Names)), .c (.sl 5 (List.map NodeT.cells r.1.Kids))]), (false, [.c (.lit (.bool r.2))])]) := by
  intro a_n1 a_path1 r h
  refine fun_pure K.impl_findNode (ofK ?_)
  unfold C.impl_findNode
  rcases n with _ | n <;> simp only [G.impl_findNode, reduceCtorEq] at h
  repeat' first
  | (clear h; (with_reducible rintro ⟨n, x_t2, y6, y7, y8, y9, y10⟩ ⟨hn, h⟩); (with_reducible replace h : G.impl_findNode.L1 _ _ _ _ _ _ _ _ = some _ := h); rcases n with _ | n <;> simp only [G.impl_findNode.L1, reduceCtorEq] at h <;> simp only at hn)
  | ((with_reducible replace h := kq0 h); obtain ⟨_, _, h⟩ := h)
  | ((with_reducible replace h := kq1 h); obtain ⟨_, _, h⟩ := h)
  | ((with_reducible replace h := kq h); obtain ⟨_, h⟩ := h)
  | ((with_reducible replace h := sq h); subst h; have h := True.intro)
  | (try simp -dsimp only [egR, AOp.opds, AOp.f, AOp.rd, intBin, storeV, lvl, srcOf, reduceIte, Nat.reduceEqDiff, Nat.reduceAdd, Nat.reduceLeDiff, Nat.reduceBEq, reduceCtorEq, Int.reduceBNe, Int.reduceBEq, Int.reduceLT, Int.reduceLE, Int.reduceNeg, Nat.reduceLT, strBin, Int.reduceToNat, renC, *]
     repeat ((with_reducible refine And.intro ?_ ?_); focus first | (show logOK _ _ _ _ = true; kernel_rfl) | (show callOK _ _ = true; kernel_rfl) | omega | assumption | (show _ ≤ maxLen; decide))
     first
     | with_reducible refine callN ?_
     | ((with_reducible refine isLoop ?_); refine loopE (X := Nat × Int × Int × Int × Txt × List Txt × List NodeT) (fun x => x.1 ≤ n ∧ G.impl_findNode.L1 x.1 a_path1 x.2.1 x.2.2.1 x.2.2.2.1 x.2.2.2.2.1 x.2.2.2.2.2.1 x.2.2.2.2.2.2 = some r) (fun x => ASt.of [(2, .v true (.one (.ptr 105 0))), (4, .v true (.one (.ptr 106 0))), (10, .v true (.one (.c (.sl 1 (List.map cS a_path1))))), (11, .v true (.one (.c (.lit (.int .i64 ((a_path1.length : Nat) : Int)))))), (12, .v true (.one (.c (.lit (.int .i64 x.2.1)))))] [(105, .var [.c (.lit (.int .i64 x.2.2.1)), .c (.lit (.int .i64 x.2.2.2.1)), .c (.str x.2.2.2.2.1), .c (.sl 1 (List.map cS x.2.2.2.2.2.1)), .c (.sl 5 (List.map NodeT.cells x.2.2.2.2.2.2))]), (106, .var [.c (.lit (.int .i64 0)), .c (.lit (.int .i64 0)), .c (.str []), .nsl 1, .nsl 5])]) (fun x => x.1) (by simp only [Prod.exists]; exact ⟨_, _, _, _, _, _, _, ⟨Nat.le_refl _, h⟩, weak_of [] [(105, 10), (106, 11)] [] (by rfl) (by (simp -dsimp only [wkR, wkB, wkC, reduceIte, Nat.reduceEqDiff, reduceCtorEq] <;> simp [List.take_of_length_le]; done)) (by (simp -dsimp only [wkR, wkB, wkC, reduceIte, Nat.reduceEqDiff, reduceCtorEq] <;> simp [List.take_of_length_le]; done))⟩) ?_)
     | ((with_reducible refine isCall ?_); (with_reducible replace h := bq h); first | (obtain ⟨v3, hv, h⟩ := h; (with_reducible have hc := F.impl_kidIndex hv); refine callL (fun _ => hc) rfl rfl ?_))
     | ((with_reducible replace h := cq h); rcases h with ⟨c, h⟩ | ⟨c, h⟩ <;> try (simp only [*, Bool.false_eq_true, reduceCtorEq] at c; done))
     | ((with_reducible refine isEx ?_); simp only [Prod.exists]; refine ⟨_, _, _, _, _, _, _, ⟨⟨?_, h⟩, ?_⟩, weak_of [] [(105, 105), (106, 106)] [] ?_ ?_ ?_⟩; (iterate 2 focus omega); (focus rfl); (iterate 2 focus (simp -dsimp only [wkR, wkB, wkC, reduceIte, Nat.reduceEqDiff, reduceCtorEq] <;> simp [List.take_of_length_le]; done)))
     | ((with_reducible refine isEnd ?_); (simp -dsimp only [peR, reduceIte, Nat.reduceEqDiff, Nat.reduceAdd, Nat.reduceLeDiff, reduceCtorEq] <;> simp [List.take_of_length_le]; done)))
theorem F.impl_NodeAt {n : Nat} : ∀ {a_n1 : NodeT} {a_path1 : List Txt} {r : NodeT × Bool}, G.impl_NodeAt n a_n1 a_path1 = some r → APure Go.Proofs.Tryz.prog 15 [.agg [.c (.lit (.int .i64 a_n1.Kind)), .c (.lit (.int .i64 a_n1.Num)), .c (.str a_n1.Text), .c (.sl 1 (List.map cS a_n1.Names)), .c (.sl 5 (List.map NodeT.cells a_n1.Kids))], .one (.c (.sl 1 (List.map cS a_path1)))] (.tup [(true, [.c (.lit (.int .i64 r.1.Kind)), .c (.lit (.int .i64 r.1.Num)), .c (.str r.1.Text), .c (.sl 1 (List.map cS r.1.Names)), .c (.sl 5 (List.map NodeT.cells r.1.Kids))]), (false, [.c (.lit (.bool r.2))])]) := by
  intro a_n1 a_path1 r h
  refine fun_pure K.impl_NodeAt (ofK ?_)
  unfold C.impl_NodeAt
  rcases n with _ | n <;> simp only [G.impl_NodeAt, reduceCtorEq] at h
  repeat' first
  | ((with_reducible replace h := kq0 h); obtain ⟨_, _, h⟩ := h)
  | ((with_reducible replace h := kq1 h); obtain ⟨_, _, h⟩ := h)
  | ((with_reducible replace h := kq h); obtain ⟨_, h⟩ := h)
  | ((with_reducible replace h := sq h); subst h; have h := True.intro)
  | (try simp -dsimp only [egR, AOp.opds, AOp.f, AOp.rd, intBin, storeV, lvl, srcOf, reduceIte, Nat.reduceEqDiff, Nat.reduceAdd, Nat.reduceLeDiff, Nat.reduceBEq, reduceCtorEq, Int.reduceBNe, Int.reduceBEq, Int.reduceLT, Int.reduceLE, Int.reduceNeg, Nat.reduceLT, strBin, Int.reduceToNat, renC, *]
     repeat ((with_reducible refine And.intro ?_ ?_); focus first | (show logOK _ _ _ _ = true; kernel_rfl) | (show callOK _ _ = true; kernel_rfl) | omega | assumption | (show _ ≤ maxLen; decide))
     first
     | with_reducible refine callN ?_
     | ((with_reducible refine isCall ?_); (with_reducible replace h := bq h); first | (obtain ⟨v1, hv, h⟩ := h; (with_reducible have hc := F.impl_ValidNode hv); refine callL (fun _ => hc) rfl rfl ?_) | (obtain ⟨v2, hv, h⟩ := h; (with_reducible have hc := F.impl_isPath hv); refine callL (fun _ => hc) rfl rfl ?_) | (obtain ⟨v3, hv, h⟩ := h; (with_reducible have hc := F.impl_findNode hv); refine callP hc rfl rfl ?_) | (obtain ⟨v4, hv, h⟩ := h; (with_reducible have hc := F.impl_copyNode hv); refine callP hc rfl rfl ?_))
     | ((with_reducible replace h := cq h); rcases h with ⟨_, h⟩ | ⟨_, h⟩)
     | ((with_reducible refine isEnd ?_); (simp -dsimp only [peR, reduceIte, Nat.reduceEqDiff, Nat.reduceAdd, Nat.reduceLeDiff, reduceCtorEq] <;> simp [List.take_of_length_le]; done)))
theorem FZ.slices_Delete_impl_Node {es : List (List Cell)} {c i j : Nat} (hc : es.length ≤ c) (hi : i < j) (hj : j ≤ es.length) (hb : es.length * 86 ≤ 2 ^ 46) :
    ACalls Go.Proofs.Tryz.prog 37 [.one (.sub 0 0 es.length (some c) 5), .one (.c (.lit (.int .i64 (i : Int)))), .one (.c (.lit (.int .i64 (j : Int))))] [.dat 5 es]
      (fun r1 b1 => r1 = .one (.own 1 (i + (es.length - j)) 5) ∧ b1 = [.dead, .dat 5 (es.take i ++ es.drop j)]) := by
  refine fun_sound K.slices_Delete_impl_Node (ofK ?_)
  unfold C.slices_Delete_impl_Node
  have he : (((i : Nat) : Int) == ((j : Nat) : Int)) = false := by simp; omega
  have ht : List.take (es.length - j) (List.drop j es) = List.drop j es := List.take_of_length_le (by simp)
  have hr : i + (es.length - j) ≤ c := by omega
  simp -dsimp only [egR, AOp.opds, AOp.f, AOp.rd, intBin, storeV, lvl, srcOf, reduceIte, Nat.reduceEqDiff, Nat.reduceAdd, Nat.reduceLeDiff, Nat.reduceBEq, reduceCtorEq, Int.reduceBNe, Int.reduceBEq, Int.reduceLT, Int.reduceLE, Int.reduceNeg, Nat.reduceLT, strBin, Int.reduceToNat, renC, ssliceV, sl3V, sappV, scpyV, appzV, sclrV, truncS, Option.map_none, Int.sub_zero, Nat.sub_zero, Int.toNat_sub, Int.ofNat_zero, List.drop_zero, List.take_length, Nat.add_sub_cancel, he]
  repeat refine And.intro (by first | (show logOK _ _ _ _ = true; kernel_rfl) | (show callOK _ _ = true; kernel_rfl) | omega | assumption) ?_
  simp -dsimp only [egR, AOp.opds, AOp.f, AOp.rd, intBin, storeV, lvl, srcOf, reduceIte, Nat.reduceEqDiff, Nat.reduceAdd, Nat.reduceLeDiff, Nat.reduceBEq, reduceCtorEq, Int.reduceBNe, Int.reduceBEq, Int.reduceLT, Int.reduceLE, Int.reduceNeg, Nat.reduceLT, strBin, Int.reduceToNat, renC, ssliceV, sl3V, sappV, scpyV, appzV, sclrV, truncS, Option.map_none, Int.sub_zero, Nat.sub_zero, Int.toNat_sub, Int.ofNat_zero, List.drop_zero, List.take_length, Nat.add_sub_cancel, ht, List.length_drop, hr]
  repeat refine And.intro (by first | (show logOK _ _ _ _ = true; kernel_rfl) | (show callOK _ _ = true; kernel_rfl) | omega | assumption) ?_
  refine And.intro (by simp; omega) ?_
  have e4 : (List.take i es).length = i := by simp; omega
  have e : List.take (i + (es.length - j)) (List.take i es ++ List.drop j es ++ List.drop (i + (es.length - j)) es) = List.take i es ++ List.drop j es := by
    have e5 : (List.take i es ++ List.drop j es).length = i + (es.length - j) := by rw [List.length_append, e4, List.length_drop]
    rw [List.take_append_of_le_length (by omega), List.take_of_length_le (by omega)]
  rw [e, List.append_assoc]
  generalize List.replicate (es.length - (i + (es.length - j))) [.lit (.int .i64 0), .lit (.int .i64 0), .str [], .sl 1 [], .sl 5 []] ++ List.drop (i + (es.length - j) + (es.length - (i + (es.length - j)))) (List.take i es ++ List.drop j es ++ List.drop (i + (es.length - j)) es) = T
  generalize List.take i es ++ List.drop j es = A
  refine ret_of [] [(0, 0), (1, 0)] [] (by rfl) ?_ ?_ ?_ <;> (simp -dsimp only [rwR, wkB, wkC, reduceIte, Nat.reduceEqDiff, reduceCtorEq, Nat.reduceAdd, Nat.reduceLeDiff] <;> first | (simp [List.take_of_length_le]; done) | ((try simp only [List.map_take, List.map_drop, List.map_append, List.map_cons, List.map_nil]) <;> (repeat' apply And.intro) <;> first | rfl | (simp; done) | (simp <;> omega; done) | (congr 1; exact (List.take_of_length_le (by simp <;> omega)).symm)))
theorem F.slices_Delete_impl_Node {n : Nat} : ∀ {a_s1 : List NodeT} {a_i1 : Int} {a_j1 : Int} {r : List NodeT}, G.slices_Delete_impl_Node n a_s1 a_i1 a_j1 = some r →
    ACalls Go.Proofs.Tryz.prog 37 [.one (.own 0 a_s1.length 5), .one (.c (.lit (.int .i64 a_i1))), .one (.c (.lit (.int .i64 a_j1)))] [.dat 5 (List.map NodeT.cells a_s1)]
      (fun r1 b1 => r1 = .one (.own 1 r.length 5) ∧ b1 = [.dead, .dat 5 (List.map NodeT.cells r)]) := by
  intro s i j r h
  cases n with
  | zero => simp only [G.slices_Delete_impl_Node, reduceCtorEq] at h
  | succ n =>
    simp only [G.slices_Delete_impl_Node] at h
    obtain ⟨⟨q1, q2, q3, q4⟩, h⟩ := chk_some.1 h
    cases h
    obtain ⟨k, rfl⟩ : ∃ k : Nat, i = k := ⟨i.toNat, by omega⟩
    obtain ⟨l, rfl⟩ : ∃ l : Nat, j = l := ⟨j.toNat, by omega⟩
    refine caps_of (fun c hc => ?_)
    have hf := FZ.slices_Delete_impl_Node (es := List.map NodeT.cells s) (c := c) (i := k) (j := l) (by simpa using hc) (by omega) (by rw [List.length_map]; omega) (by rw [List.length_map]; exact q4)
    have e1 : (List.take k s ++ List.drop l s).length = k + (s.length - l) := by simp; omega
    rw [Int.toNat_natCast, Int.toNat_natCast, e1]
    simpa using hf
theorem FZ.slices_Delete_string {es : List (List Cell)} {c i j : Nat} (hc : es.length ≤ c) (hi : i < j) (hj : j ≤ es.length) (hb : es.length * 18 ≤ 2 ^ 46) :
    ACalls Go.Proofs.Tryz.prog 36 [.one (.sub 0 0 es.length (some c) 1), .one (.c (.lit (.int .i64 (i : Int)))), .one (.c (.lit (.int .i64 (j : Int))))] [.dat 1 es]
      (fun r1 b1 => r1 = .one (.own 1 (i + (es.length - j)) 1) ∧ b1 = [.dead, .dat 1 (es.take i ++ es.drop j)]) := by
  refine fun_sound K.slices_Delete_string (ofK ?_)
  unfold C.slices_Delete_string
  have he : (((i : Nat) : Int) == ((j : Nat) : Int)) = false := by simp; omega
  have ht : List.take (es.length - j) (List.drop j es) = List.drop j es := List.take_of_length_le (by simp)
  have hr : i + (es.length - j) ≤ c := by omega
  simp -dsimp only [egR, AOp.opds, AOp.f, AOp.rd, intBin, storeV, lvl, srcOf, reduceIte, Nat.reduceEqDiff, Nat.reduceAdd, Nat.reduceLeDiff, Nat.reduceBEq, reduceCtorEq, Int.reduceBNe, Int.reduceBEq, Int.reduceLT, Int.reduceLE, Int.reduceNeg, Nat.reduceLT, strBin, Int.reduceToNat, renC, ssliceV, sl3V, sappV, scpyV, appzV, sclrV, truncS, Option.map_none, Int.sub_zero, Nat.sub_zero, Int.toNat_sub, Int.ofNat_zero, List.drop_zero, List.take_length, Nat.add_sub_cancel, he]
  repeat refine And.intro (by first | (show logOK _ _ _ _ = true; kernel_rfl) | (show callOK _ _ = true; kernel_rfl) | omega | assumption) ?_
  simp -dsimp only [egR, AOp.opds, AOp.f, AOp.rd, intBin, storeV, lvl, srcOf, reduceIte, Nat.reduceEqDiff, Nat.reduceAdd, Nat.reduceLeDiff, Nat.reduceBEq, reduceCtorEq, Int.reduceBNe, Int.reduceBEq, Int.reduceLT, Int.reduceLE, Int.reduceNeg, Nat.reduceLT, strBin, Int.reduceToNat, renC, ssliceV, sl3V, sappV, scpyV, appzV, sclrV, truncS, Option.map_none, Int.sub_zero, Nat.sub_zero, Int.toNat_sub, Int.ofNat_zero, List.drop_zero, List.take_length, Nat.add_sub_cancel, ht, List.length_drop, hr]
  repeat refine And.intro (by first | (show logOK _ _ _ _ = true; kernel_rfl) | (show callOK _ _ = true; kernel_rfl) | omega | assumption) ?_
  refine And.intro (by simp; omega) ?_
  have e4 : (List.take i es).length = i := by simp; omega
  have e : List.take (i + (es.length - j)) (List.take i es ++ List.drop j es ++ List.drop (i + (es.length - j)) es) = List.take i es ++ List.drop j es := by
    have e5 : (List.take i es ++ List.drop j es).length = i + (es.length - j) := by rw [List.length_append, e4, List.length_drop]
    rw [List.take_append_of_le_length (by omega), List.take_of_length_le (by omega)]
  rw [e, List.append_assoc]
  generalize List.replicate (es.length - (i + (es.length - j))) [.str []] ++ List.drop (i + (es.length - j) + (es.length - (i + (es.length - j)))) (List.take i es ++ List.drop j es ++ List.drop (i + (es.length - j)) es) = T
  generalize List.take i es ++ List.drop j es = A
  refine ret_of [] [(0, 0), (1, 0)] [] (by rfl) ?_ ?_ ?_ <;> (simp -dsimp only [rwR, wkB, wkC, reduceIte, Nat.reduceEqDiff, reduceCtorEq, Nat.reduceAdd, Nat.reduceLeDiff] <;> first | (simp [List.take_of_length_le]; done) | ((try simp only [List.map_take, List.map_drop, List.map_append, List.map_cons, List.map_nil]) <;> (repeat' apply And.intro) <;> first | rfl | (simp; done) | (simp <;> omega; done) | (congr 1; exact (List.take_of_length_le (by simp <;> omega)).symm)))
theorem F.slices_Delete_string {n : Nat} : ∀ {a_s1 : List Txt} {a_i1 : Int} {a_j1 : Int} {r : List Txt}, G.slices_Delete_string n a_s1 a_i1 a_j1 = some r →
    ACalls Go.Proofs.Tryz.prog 36 [.one (.own 0 a_s1.length 1), .one (.c (.lit (.int .i64 a_i1))), .one (.c (.lit (.int .i64 a_j1)))] [.dat 1 (List.map cS a_s1)]
      (fun r1 b1 => r1 = .one (.own 1 r.length 1) ∧ b1 = [.dead, .dat 1 (List.map cS r)]) := by
  intro s i j r h
  cases n with
  | zero => simp only [G.slices_Delete_string, reduceCtorEq] at h
  | succ n =>
    simp only [G.slices_Delete_string] at h
    obtain ⟨⟨q1, q2, q3, q4⟩, h⟩ := chk_some.1 h
    cases h
    obtain ⟨k, rfl⟩ : ∃ k : Nat, i = k := ⟨i.toNat, by omega⟩
    obtain ⟨l, rfl⟩ : ∃ l : Nat, j = l := ⟨j.toNat, by omega⟩
    refine caps_of (fun c hc => ?_)
    have hf := FZ.slices_Delete_string (es := List.map cS s) (c := c) (i := k) (j := l) (by simpa using hc) (by omega) (by rw [List.length_map]; omega) (by rw [List.length_map]; exact q4)
    have e1 : (List.take k s ++ List.drop l s).length = k + (s.length - l) := by simp; omega
    rw [Int.toNat_natCast, Int.toNat_natCast, e1]
    simpa using hf
theorem F.impl_RemoveNode_1 {n : Nat} : ∀ {a_parent1 : NodeT} {p_cap01 : List Txt} {p_cap11 : Int} {r : NodeT × Bool}, G.impl_RemoveNode_1 n a_parent1 p_cap01 p_cap11 = some r → ACalls Go.Proofs.Tryz.prog 34 [.agg [.c (.lit (.int .i64 a_parent1.Kind)), .c (.lit (.int .i64 a_parent1.Num)), .c (.str a_parent1.Text), .c (.sl 1 (List.map cS a_parent1.Names)), .c (.sl 5 (List.map NodeT.cells a_parent1.Kids))], .one (.ptr 0 0), .one (.ptr 1 0)] [.var [.c (.sl 1 (List.map cS p_cap01))], .var [.c (.lit (.int .i64 p_cap11))]] (fun r1 b1 => r1 = .tup [(true, [.c (.lit (.int .i64 r.1.Kind)), .c (.lit (.int .i64 r.1.Num)), .c (.str r.1.Text), .c (.sl 1 (List.map cS r.1.Names)), .c (.sl 5 (List.map NodeT.cells r.1.Kids))]), (false, [.c (.lit (.bool r.2))])] ∧ b1 = [.var [.c (.sl 1 (List.map cS p_cap01))], .var [.c (.lit (.int .i64 p_cap11))]]) := by
  intro a_parent1 p_cap01 p_cap11 r h
  refine fun_sound K.impl_RemoveNode_1 (ofK ?_)
  unfold C.impl_RemoveNode_1
  rcases n with _ | n <;> simp only [G.impl_RemoveNode_1, reduceCtorEq] at h
  repeat' first
  | (clear h; (with_reducible rintro ⟨n, z1⟩ ⟨hn, h⟩); (with_reducible replace h : G.impl_RemoveNode_1.K1 _ _ _ _ = some _ := h); rcases n with _ | n <;> simp only [G.impl_RemoveNode_1.K1, reduceCtorEq] at h <;> simp only at hn)
  | ((with_reducible replace h := kq0 h); obtain ⟨_, _, h⟩ := h)
  | ((with_reducible replace h := kq1 h); obtain ⟨_, _, h⟩ := h)
  | ((with_reducible replace h := kq h); obtain ⟨_, h⟩ := h)
  | ((with_reducible replace h := sq h); subst h; have h := True.intro)
  | (try simp -dsimp only [egR, AOp.opds, AOp.f, AOp.rd, intBin, storeV, lvl, srcOf, reduceIte, Nat.reduceEqDiff, Nat.reduceAdd, Nat.reduceLeDiff, Nat.reduceBEq, reduceCtorEq, Int.reduceBNe, Int.reduceBEq, Int.reduceLT, Int.reduceLE, Int.reduceNeg, Nat.reduceLT, strBin, Int.reduceToNat, renC, *]
     repeat ((with_reducible refine And.intro ?_ ?_); focus first | (show logOK _ _ _ _ = true; kernel_rfl) | (show callOK _ _ = true; kernel_rfl) | omega | assumption | (show _ ≤ maxLen; decide))
     first
     | with_reducible refine callN ?_
     | ((with_reducible refine isCut ?_); refine cutK (X := Nat × List Txt) (fun x => x.1 ≤ n ∧ G.impl_RemoveNode_1.K1 x.1 v1 v2 x.2 = some r) (fun x => ASt.of [(4, .v true (.one (.ptr 104 0))), (6, .v true (.one (.c (.lit (.int .i64 v1.1))))), (8, .v true (.one (.ptr 105 0)))] [(0, .var [.c (.sl 1 (List.map cS p_cap01))]), (1, .var [.c (.lit (.int .i64 p_cap11))]), (104, .var [.c (.lit (.int .i64 0)), .c (.lit (.int .i64 0)), .c (.str []), .nsl 1, .nsl 5]), (105, .var [.c (.lit (.int .i64 v2.Kind)), .c (.lit (.int .i64 v2.Num)), .c (.str v2.Text), .own 106 x.2.length 1, .own 107 v2.Kids.length 5]), (106, .dat 1 (List.map cS x.2)), (107, .dat 5 (List.map NodeT.cells v2.Kids))]) ?_ ?_)
     | ((with_reducible refine isCall ?_); (with_reducible replace h := bq h); first | (obtain ⟨v1, hv, h⟩ := h; (with_reducible have hc := F.impl_kidIndex hv); refine callL (fun _ => hc) rfl rfl ?_) | (obtain ⟨v2, hv, h⟩ := h; (with_reducible have hc := F.impl_copyNode_o hv); (refine callG [] [101, 102] hc rfl rfl ?_ ?_ rfl rfl ?_ rfl ?_; (iterate 2 focus (simp only [ggR, renC, reduceIte, Nat.reduceEqDiff, Nat.reduceLeDiff, Nat.reduceAdd] <;> fail)); (focus first | rfl | (simp only [ggR, renC, reduceIte, Nat.reduceEqDiff, Nat.reduceLeDiff, Nat.reduceAdd] <;> fail)))) | (obtain ⟨v5, hv, h⟩ := h; (with_reducible have hc := F.slices_Delete_string hv); (refine callG [101] [109] hc rfl rfl ?_ ?_ rfl rfl ?_ rfl ?_; (iterate 2 focus (simp only [ggR, renC, reduceIte, Nat.reduceEqDiff, Nat.reduceLeDiff, Nat.reduceAdd] <;> fail)); (focus first | rfl | (simp only [ggR, renC, reduceIte, Nat.reduceEqDiff, Nat.reduceLeDiff, Nat.reduceAdd] <;> fail)))) | (obtain ⟨v4, hv, h⟩ := h; (with_reducible have hc := F.slices_Delete_impl_Node hv); (refine callG [107] [108] hc rfl rfl ?_ ?_ rfl rfl ?_ rfl ?_; (iterate 2 focus (simp only [ggR, renC, reduceIte, Nat.reduceEqDiff, Nat.reduceLeDiff, Nat.reduceAdd] <;> fail)); (focus first | rfl | (simp only [ggR, renC, reduceIte, Nat.reduceEqDiff, Nat.reduceLeDiff, Nat.reduceAdd] <;> fail)))))
     | ((with_reducible replace h := cq h); rcases h with ⟨c, h⟩ | ⟨c, h⟩ <;> try (simp only [*, Bool.false_eq_true, reduceCtorEq] at c; done))
     | ((with_reducible refine isEx ?_); simp only [Prod.exists]; refine ⟨_, _, ⟨?_, h⟩, weak_of [] [(0, 0), (1, 1), (104, 11), (105, 12), (106, 109), (107, 102)] [] ?_ ?_ ?_⟩; (focus omega); (focus rfl); (iterate 2 focus (simp -dsimp only [wkR, wkB, wkC, reduceIte, Nat.reduceEqDiff, reduceCtorEq] <;> simp [List.take_of_length_le]; done)))
     | ((with_reducible refine isEx ?_); simp only [Prod.exists]; refine ⟨_, _, ⟨?_, h⟩, weak_of [] [(0, 0), (1, 1), (104, 11), (105, 12), (106, 101), (107, 102)] [] ?_ ?_ ?_⟩; (focus omega); (focus rfl); (iterate 2 focus (simp -dsimp only [wkR, wkB, wkC, reduceIte, Nat.reduceEqDiff, reduceCtorEq] <;> simp [List.take_of_length_le]; done)))
     | ((with_reducible refine isRet ?_); first | (refine ret_of [106, 108] [(0, 0), (1, 1)] [] ?_ ?_ ?_ ?_; (focus rfl); (iterate 3 focus (simp -dsimp only [rwR, wkB, wkC, reduceIte, Nat.reduceEqDiff, reduceCtorEq, Nat.reduceAdd, Nat.reduceLeDiff] <;> simp [List.take_of_length_le]; done))) | (refine ret_of [] [(0, 0), (1, 1)] [] ?_ ?_ ?_ ?_; (focus rfl); (iterate 3 focus (simp -dsimp only [rwR, wkB, wkC, reduceIte, Nat.reduceEqDiff, reduceCtorEq, Nat.reduceAdd, Nat.reduceLeDiff] <;> simp [List.take_of_length_le]; done)))))
theorem F.impl_changeAt__impl_RemoveNode_1_n : ∀ (n : Nat), ∀ {a_n1 : NodeT} {a_path1 : List Txt} {p_cap01 : List Txt} {p_cap11 : Int} {r : NodeT × Bool}, G.impl_changeAt__impl_RemoveNode_1 n a_n1 a_path1 p_cap01 p_cap11 = some r → ACalls Go.Proofs.Tryz.prog 31 [.agg [.c (.lit (.int .i64 a_n1.Kind)), .c (.lit (.int .i64 a_n1.Num)), .c (.str a_n1.Text), .c (.sl 1 (List.map cS a_n1.Names)), .c (.sl 5 (List.map NodeT.cells a_n1.Kids))], .one (.c (.sl 1 (List.map cS a_path1))), .one (.fn 34 [0, 1])] [.var [.c (.sl 1 (List.map cS p_cap01))], .var [.c (.lit (.int .i64 p_cap11))]] (fun r1 b1 => r1 = .tup [(true, [.c (.lit (.int .i64 r.1.Kind)), .c (.lit (.int .i64 r.1.Num)), .c (.str r.1.Text), .c (.sl 1 (List.map cS r.1.Names)), .c (.sl 5 (List.map NodeT.cells r.1.Kids))]), (false, [.c (.lit (.bool r.2))])] ∧ b1 = [.var [.c (.sl 1 (List.map cS p_cap01))], .var [.c (.lit (.int .i64 p_cap11))]]) := by
  intro n
  induction n using Nat.strongRecOn with | _ n ih =>
  intro a_n1 a_path1 p_cap01 p_cap11 r h
  refine fun_sound K.impl_changeAt__impl_RemoveNode_1 (ofK ?_)
  unfold C.impl_changeAt
  rcases n with _ | n <;> simp only [G.impl_changeAt__impl_RemoveNode_1, reduceCtorEq] at h
  repeat' first
  | ((with_reducible replace h := kq0 h); obtain ⟨_, _, h⟩ := h)
  | ((with_reducible replace h := kq1 h); obtain ⟨_, _, h⟩ := h)
  | ((with_reducible replace h := kq h); obtain ⟨_, h⟩ := h)
  | ((with_reducible replace h := sq h); subst h; have h := True.intro)
  | (try simp -dsimp only [egR, AOp.opds, AOp.f, AOp.rd, intBin, storeV, lvl, srcOf, reduceIte, Nat.reduceEqDiff, Nat.reduceAdd, Nat.reduceLeDiff, Nat.reduceBEq, reduceCtorEq, Int.reduceBNe, Int.reduceBEq, Int.reduceLT, Int.reduceLE, Int.reduceNeg, Nat.reduceLT, strBin, Int.reduceToNat, renC, *]
     repeat ((with_reducible refine And.intro ?_ ?_); focus first | (show logOK _ _ _ _ = true; kernel_rfl) | (show callOK _ _ = true; kernel_rfl) | omega | assumption | (show _ ≤ maxLen; decide))
     first
     | with_reducible refine callN ?_
     | ((with_reducible refine isCall ?_); (with_reducible replace h := bq h); first | (obtain ⟨v1, hv, h⟩ := h; (with_reducible have hc := F.impl_RemoveNode_1 hv); (refine callG [0, 1] [] hc rfl rfl ?_ ?_ rfl rfl ?_ rfl ?_; (iterate 2 focus (simp only [ggR, renC, reduceIte, Nat.reduceEqDiff, Nat.reduceLeDiff, Nat.reduceAdd] <;> fail)); (focus first | rfl | (simp only [ggR, renC, reduceIte, Nat.reduceEqDiff, Nat.reduceLeDiff, Nat.reduceAdd] <;> fail)))) | (obtain ⟨v2, hv, h⟩ := h; (with_reducible have hc := F.impl_kidIndex hv); refine callL (fun _ => hc) rfl rfl ?_) | (obtain ⟨v4, hv, h⟩ := h; (with_reducible have hc := F.impl_copyNode_o hv); (refine callG [] [101, 102] hc rfl rfl ?_ ?_ rfl rfl ?_ rfl ?_; (iterate 2 focus (simp only [ggR, renC, reduceIte, Nat.reduceEqDiff, Nat.reduceLeDiff, Nat.reduceAdd] <;> fail)); (focus first | rfl | (simp only [ggR, renC, reduceIte, Nat.reduceEqDiff, Nat.reduceLeDiff, Nat.reduceAdd] <;> fail)))) | (obtain ⟨v3, hv, h⟩ := h; have hc := ih _ (by omega) hv; (refine callG [0, 1] [] hc rfl rfl ?_ ?_ rfl rfl ?_ rfl ?_; (iterate 2 focus (simp only [ggR, renC, reduceIte, Nat.reduceEqDiff, Nat.reduceLeDiff, Nat.reduceAdd] <;> fail)); (focus first | rfl | (simp only [ggR, renC, reduceIte, Nat.reduceEqDiff, Nat.reduceLeDiff, Nat.reduceAdd] <;> fail)))))
     | ((with_reducible replace h := cq h); rcases h with ⟨_, h⟩ | ⟨_, h⟩)
     | ((with_reducible refine isRet ?_); first | (refine ret_of [] [(0, 0), (1, 1)] [] ?_ ?_ ?_ ?_; (focus rfl); (iterate 3 focus (simp -dsimp only [rwR, wkB, wkC, reduceIte, Nat.reduceEqDiff, reduceCtorEq, Nat.reduceAdd, Nat.reduceLeDiff] <;> simp [List.take_of_length_le]; done))) | (refine ret_of [101, 102] [(0, 0), (1, 1)] [] ?_ ?_ ?_ ?_; (focus rfl); (iterate 3 focus (simp -dsimp only [rwR, wkB, wkC, reduceIte, Nat.reduceEqDiff, reduceCtorEq, Nat.reduceAdd, Nat.reduceLeDiff] <;> simp [List.take_of_length_le]; done)))))
theorem F.impl_changeAt__impl_RemoveNode_1 {n : Nat} : ∀ {a_n1 : NodeT} {a_path1 : List Txt} {p_cap01 : List Txt} {p_cap11 : Int} {r : NodeT × Bool}, G.impl_changeAt__impl_RemoveNode_1 n a_n1 a_path1 p_cap01 p_cap11 = some r → ACalls Go.Proofs.Tryz.prog 31 [.agg [.c (.lit (.int .i64 a_n1.Kind)), .c (.lit (.int .i64 a_n1.Num)), .c (.str a_n1.Text), .c (.sl 1 (List.map cS a_n1.Names)), .c (.sl 5 (List.map NodeT.cells a_n1.Kids))], .one (.c (.sl 1 (List.map cS a_path1))), .one (.fn 34 [0, 1])] [.var [.c (.sl 1 (List.map cS p_cap01))], .var [.c (.lit (.int .i64 p_cap11))]] (fun r1 b1 => r1 = .tup [(true, [.c (.lit (.int .i64 r.1.Kind)), .c (.lit (.int .i64 r.1.Num)), .c (.str r.1.Text), .c (.sl 1 (List.map cS r.1.Names)), .c (.sl 5 (List.map NodeT.cells r.1.Kids))]), (false, [.c (.lit (.bool r.2))])] ∧ b1 = [.var [.c (.sl 1 (List.map cS p_cap01))], .var [.c (.lit (.int .i64 p_cap11))]]) := F.impl_changeAt__impl_RemoveNode_1_n n
theorem F.impl_RemoveNode {n : Nat} : ∀ {a_n1 : NodeT} {a_path1 : List Txt} {r : NodeT × Bool}, G.impl_RemoveNode n a_n1 a_path1 = some r → APure Go.Proofs.Tryz.prog 12 [.agg [.c (.lit (.int .i64 a_n1.Kind)), .c (.lit (.int .i64 a_n1.Num)), .c (.str a_n1.Text), .c (.sl 1 (List.map cS a_n1.Names)), .c (.sl 5 (List.map NodeT.cells a_n1.Kids))], .one (.c (.sl 1 (List.map cS a_path1)))] (.tup [(true, [.c (.lit (.int .i64 r.1.Kind)), .c (.lit (.int .i64 r.1.Num)), .c (.str r.1.Text), .c (.sl 1 (List.map cS r.1.Names)), .c (.sl 5 (List.map NodeT.cells r.1.Kids))]), (false, [.c (.lit (.bool r.2))])]) := by
  intro a_n1 a_path1 r h
  refine fun_pure K.impl_RemoveNode (ofK ?_)
  unfold C.impl_RemoveNode
  rcases n with _ | n <;> simp only [G.impl_RemoveNode, reduceCtorEq] at h
  repeat' first
  | ((with_reducible replace h := kq0 h); obtain ⟨_, _, h⟩ := h)
  | ((with_reducible replace h := kq1 h); obtain ⟨_, _, h⟩ := h)
  | ((with_reducible replace h := kq h); obtain ⟨_, h⟩ := h)
  | ((with_reducible replace h := sq h); subst h; have h := True.intro)
  | (try simp -dsimp only [egR, AOp.opds, AOp.f, AOp.rd, intBin, storeV, lvl, srcOf, reduceIte, Nat.reduceEqDiff, Nat.reduceAdd, Nat.reduceLeDiff, Nat.reduceBEq, reduceCtorEq, Int.reduceBNe, Int.reduceBEq, Int.reduceLT, Int.reduceLE, Int.reduceNeg, Nat.reduceLT, strBin, Int.reduceToNat, renC, *]
     repeat ((with_reducible refine And.intro ?_ ?_); focus first | (show logOK _ _ _ _ = true; kernel_rfl) | (show callOK _ _ = true; kernel_rfl) | omega | assumption | (show _ ≤ maxLen; decide))
     first
     | with_reducible refine callN ?_
     | ((with_reducible refine isCall ?_); (with_reducible replace h := bq h); first | (obtain ⟨v1, hv, h⟩ := h; (with_reducible have hc := F.impl_ValidNode hv); refine callL (fun _ => hc) rfl rfl ?_) | (obtain ⟨v2, hv, h⟩ := h; (with_reducible have hc := F.impl_isPath hv); refine callL (fun _ => hc) rfl rfl ?_) | (obtain ⟨v3, hv, h⟩ := h; (with_reducible have hc := F.impl_changeAt__impl_RemoveNode_1 hv); (refine callG [11, 13] [] hc rfl rfl ?_ ?_ rfl rfl ?_ rfl ?_; (iterate 2 focus (simp only [ggR, renC, reduceIte, Nat.reduceEqDiff, Nat.reduceLeDiff, Nat.reduceAdd] <;> fail)); (focus first | rfl | (simp only [ggR, renC, reduceIte, Nat.reduceEqDiff, Nat.reduceLeDiff, Nat.reduceAdd] <;> fail)))))
     | ((with_reducible replace h := cq h); rcases h with ⟨_, h⟩ | ⟨_, h⟩)
     | ((with_reducible refine isEnd ?_); (simp -dsimp only [peR, reduceIte, Nat.reduceEqDiff, Nat.reduceAdd, Nat.reduceLeDiff, reduceCtorEq] <;> simp [List.take_of_length_le]; done)))
theorem F.impl_SetNode_1 {n : Nat} : ∀ {a_a1 : NodeT} {p_cap01 : NodeT} {r : NodeT × Bool}, G.impl_SetNode_1 n a_a1 p_cap01 = some r → ACalls Go.Proofs.Tryz.prog 38 [.agg [.c (.lit (.int .i64 a_a1.Kind)), .c (.lit (.int .i64 a_a1.Num)), .c (.str a_a1.Text), .c (.sl 1 (List.map cS a_a1.Names)), .c (.sl 5 (List.map NodeT.cells a_a1.Kids))], .one (.ptr 0 0)] [.var [.c (.lit (.int .i64 p_cap01.Kind)), .c (.lit (.int .i64 p_cap01.Num)), .c (.str p_cap01.Text), .c (.sl 1 (List.map cS p_cap01.Names)), .c (.sl 5 (List.map NodeT.cells p_cap01.Kids))]] (fun r1 b1 => r1 = .tup [(true, [.c (.lit (.int .i64 r.1.Kind)), .c (.lit (.int .i64 r.1.Num)), .c (.str r.1.Text), .c (.sl 1 (List.map cS r.1.Names)), .c (.sl 5 (List.map NodeT.cells r.1.Kids))]), (false, [.c (.lit (.bool r.2))])] ∧ b1 = [.var [.c (.lit (.int .i64 p_cap01.Kind)), .c (.lit (.int .i64 p_cap01.Num)), .c (.str p_cap01.Text), .c (.sl 1 (List.map cS p_cap01.Names)), .c (.sl 5 (List.map NodeT.cells p_cap01.Kids))]]) := by
  intro a_a1 p_cap01 r h
  refine fun_sound K.impl_SetNode_1 (ofK ?_)
  unfold C.impl_SetNode_1
  rcases n with _ | n <;> simp only [G.impl_SetNode_1, reduceCtorEq] at h
  repeat' first
  | ((with_reducible replace h := kq0 h); obtain ⟨_, _, h⟩ := h)
  | ((with_reducible replace h := kq1 h); obtain ⟨_, _, h⟩ := h)
  | ((with_reducible replace h := kq h); obtain ⟨_, h⟩ := h)
  | ((with_reducible replace h := sq h); subst h; have h := True.intro)
  | (try simp -dsimp only [egR, AOp.opds, AOp.f, AOp.rd, intBin, storeV, lvl, srcOf, reduceIte, Nat.reduceEqDiff, Nat.reduceAdd, Nat.reduceLeDiff, Nat.reduceBEq, reduceCtorEq, Int.reduceBNe, Int.reduceBEq, Int.reduceLT, Int.reduceLE, Int.reduceNeg, Nat.reduceLT, strBin, Int.reduceToNat, renC, *]
     repeat ((with_reducible refine And.intro ?_ ?_); focus first | (show logOK _ _ _ _ = true; kernel_rfl) | (show callOK _ _ = true; kernel_rfl) | omega | assumption | (show _ ≤ maxLen; decide))
     first
     | with_reducible refine callN ?_
     | ((with_reducible refine isCall ?_); (with_reducible replace h := bq h); first | (obtain ⟨v1, hv, h⟩ := h; (with_reducible have hc := F.impl_copyNode hv); refine callP hc rfl rfl ?_))
     | ((with_reducible replace h := cq h); rcases h with ⟨_, h⟩ | ⟨_, h⟩)
     | ((with_reducible refine isRet ?_); (refine ret_of [] [(0, 0)] [] ?_ ?_ ?_ ?_; (focus rfl); (iterate 3 focus (simp -dsimp only [rwR, wkB, wkC, reduceIte, Nat.reduceEqDiff, reduceCtorEq, Nat.reduceAdd, Nat.reduceLeDiff] <;> simp [List.take_of_length_le]; done)))))
theorem F.impl_changeAt__impl_SetNode_1_n : ∀ (n : Nat), ∀ {a_n1 : NodeT} {a_path1 : List Txt} {p_cap01 : NodeT} {r : NodeT × Bool}, G.impl_changeAt__impl_SetNode_1 n a_n1 a_path1 p_cap01 = some r → ACalls Go.Proofs.Tryz.prog 31 [.agg [.c (.lit (.int .i64 a_n1.Kind)), .c (.lit (.int .i64 a_n1.Num)), .c (.str a_n1.Text), .c (.sl 1 (List.map cS a_n1.Names)), .c (.sl 5 (List.map NodeT.cells a_n1.Kids))], .one (.c (.sl 1 (List.map cS a_path1))), .one (.fn 38 [0])] [.var [.c (.lit (.int .i64 p_cap01.Kind)), .c (.lit (.int .i64 p_cap01.Num)), .c (.str p_cap01.Text), .c (.sl 1 (List.map cS p_cap01.Names)), .c (.sl 5 (List.map NodeT.cells p_cap01.Kids))]] (fun r1 b1 => r1 = .tup [(true, [.c (.lit (.int .i64 r.1.Kind)), .c (.lit (.int .i64 r.1.Num)), .c (.str r.1.Text), .c (.sl 1 (List.map cS r.1.Names)), .c (.sl 5 (List.map NodeT.cells r.1.Kids))]), (false, [.c (.lit (.bool r.2))])] ∧ b1 = [.var [.c (.lit (.int .i64 p_cap01.Kind)), .c (.lit (.int .i64 p_cap01.Num)), .c (.str p_cap01.Text), .c (.sl 1 (List.map cS p_cap01.Names)), .c (.sl 5 (List.map NodeT.cells p_cap01.Kids))]]) := by
  intro n
  induction n using Nat.strongRecOn with | _ n ih =>
  intro a_n1 a_path1 p_cap01 r h
  refine fun_sound K.impl_changeAt__impl_SetNode_1 (ofK ?_)
  unfold C.impl_changeAt
  rcases n with _ | n <;> simp only [G.impl_changeAt__impl_SetNode_1, reduceCtorEq] at h
  repeat' first
  | ((with_reducible replace h := kq0 h); obtain ⟨_, _, h⟩ := h)
  | ((with_reducible replace h := kq1 h); obtain ⟨_, _, h⟩ := h)
  | ((with_reducible replace h := kq h); obtain ⟨_, h⟩ := h)
  | ((with_reducible replace h := sq h); subst h; have h := True.intro)
  | (try simp -dsimp only [egR, AOp.opds, AOp.f, AOp.rd, intBin, storeV, lvl, srcOf, reduceIte, Nat.reduceEqDiff, Nat.reduceAdd, Nat.reduceLeDiff, Nat.reduceBEq, reduceCtorEq, Int.reduceBNe, Int.reduceBEq, Int.reduceLT, Int.reduceLE, Int.reduceNeg, Nat.reduceLT, strBin, Int.reduceToNat, renC, *]
     repeat ((with_reducible refine And.intro ?_ ?_); focus first | (show logOK _ _ _ _ = true; kernel_rfl) | (show callOK _ _ = true; kernel_rfl) | omega | assumption | (show _ ≤ maxLen; decide))
     first
     | with_reducible refine callN ?_
     | ((with_reducible refine isCall ?_); (with_reducible replace h := bq h); first | (obtain ⟨v1, hv, h⟩ := h; (with_reducible have hc := F.impl_SetNode_1 hv); (refine callG [0] [] hc rfl rfl ?_ ?_ rfl rfl ?_ rfl ?_; (iterate 2 focus (simp only [ggR, renC, reduceIte, Nat.reduceEqDiff, Nat.reduceLeDiff, Nat.reduceAdd] <;> fail)); (focus first | rfl | (simp only [ggR, renC, reduceIte, Nat.reduceEqDiff, Nat.reduceLeDiff, Nat.reduceAdd] <;> fail)))) | (obtain ⟨v2, hv, h⟩ := h; (with_reducible have hc := F.impl_kidIndex hv); refine callL (fun _ => hc) rfl rfl ?_) | (obtain ⟨v4, hv, h⟩ := h; (with_reducible have hc := F.impl_copyNode_o hv); (refine callG [] [101, 102] hc rfl rfl ?_ ?_ rfl rfl ?_ rfl ?_; (iterate 2 focus (simp only [ggR, renC, reduceIte, Nat.reduceEqDiff, Nat.reduceLeDiff, Nat.reduceAdd] <;> fail)); (focus first | rfl | (simp only [ggR, renC, reduceIte, Nat.reduceEqDiff, Nat.reduceLeDiff, Nat.reduceAdd] <;> fail)))) | (obtain ⟨v3, hv, h⟩ := h; have hc := ih _ (by omega) hv; (refine callG [0] [] hc rfl rfl ?_ ?_ rfl rfl ?_ rfl ?_; (iterate 2 focus (simp only [ggR, renC, reduceIte, Nat.reduceEqDiff, Nat.reduceLeDiff, Nat.reduceAdd] <;> fail)); (focus first | rfl | (simp only [ggR, renC, reduceIte, Nat.reduceEqDiff, Nat.reduceLeDiff, Nat.reduceAdd] <;> fail)))))
     | ((with_reducible replace h := cq h); rcases h with ⟨_, h⟩ | ⟨_, h⟩)
     | ((with_reducible refine isRet ?_); first | (refine ret_of [] [(0, 0)] [] ?_ ?_ ?_ ?_; (focus rfl); (iterate 3 focus (simp -dsimp only [rwR, wkB, wkC, reduceIte, Nat.reduceEqDiff, reduceCtorEq, Nat.reduceAdd, Nat.reduceLeDiff] <;> simp [List.take_of_length_le]; done))) | (refine ret_of [101, 102] [(0, 0)] [] ?_ ?_ ?_ ?_; (focus rfl); (iterate 3 focus (simp -dsimp only [rwR, wkB, wkC, reduceIte, Nat.reduceEqDiff, reduceCtorEq, Nat.reduceAdd, Nat.reduceLeDiff] <;> simp [List.take_of_length_le]; done)))))
theorem F.impl_changeAt__impl_SetNode_1 {n : Nat} : ∀ {a_n1 : NodeT} {a_path1 : List Txt} {p_cap01 : NodeT} {r : NodeT × Bool}, G.impl_changeAt__impl_SetNode_1 n a_n1 a_path1 p_cap01 = some r → ACalls Go.Proofs.Tryz.prog 31 [.agg [.c (.lit (.int .i64 a_n1.Kind)), .c (.lit (.int .i64 a_n1.Num)), .c (.str a_n1.Text), .c (.sl 1 (List.map cS a_n1.Names)), .c (.sl 5 (List.map NodeT.cells a_n1.Kids))], .one (.c (.sl 1 (List.map cS a_path1))), .one (.fn 38 [0])] [.var [.c (.lit (.int .i64 p_cap01.Kind)), .c (.lit (.int .i64 p_cap01.Num)), .c (.str p_cap01.Text), .c (.sl 1 (List.map cS p_cap01.Names)), .c (.sl 5 (List.map NodeT.cells p_cap01.Kids))]] (fun r1 b1 => r1 = .tup [(true, [.c (.lit (.int .i64 r.1.Kind)), .c (.lit (.int .i64 r.1.Num)), .c (.str r.1.Text), .c (.sl 1 (List.map cS r.1.Names)), .c (.sl 5 (List.map NodeT.cells r.1.Kids))]), (false, [.c (.lit (.bool r.2))])] ∧ b1 = [.var [.c (.lit (.int .i64 p_cap01.Kind)), .c (.lit (.int .i64 p_cap01.Num)), .c (.str p_cap01.Text), .c (.sl 1 (List.map cS p_cap01.Names)), .c (.sl 5 (List.map NodeT.cells p_cap01.Kids))]]) := F.impl_changeAt__impl_SetNode_1_n n
theorem F.impl_SetNode {n : Nat} : ∀ {a_n1 : NodeT} {a_path1 : List Txt} {a_value1 : NodeT} {r : NodeT × Bool}, G.impl_SetNode n a_n1 a_path1 a_value1 = some r → APure Go.Proofs.Tryz.prog 13 [.agg [.c (.lit (.int .i64 a_n1.Kind)), .c (.lit (.int .i64 a_n1.Num)), .c (.str a_n1.Text), .c (.sl 1 (List.map cS a_n1.Names)), .c (.sl 5 (List.map NodeT.cells a_n1.Kids))], .one (.c (.sl 1 (List.map cS a_path1))), .agg [.c (.lit (.int .i64 a_value1.Kind)), .c (.lit (.int .i64 a_value1.Num)), .c (.str a_value1.Text), .c (.sl 1 (List.map cS a_value1.Names)), .c (.sl 5 (List.map NodeT.cells a_value1.Kids))]] (.tup [(true, [.c (.lit (.int .i64 r.1.Kind)), .c (.lit (.int .i64 r.1.Num)), .c (.str r.1.Text), .c (.sl 1 (List.map cS r.1.Names)), .c (.sl 5 (List.map NodeT.cells r.1.Kids))]), (false, [.c (.lit (.bool r.2))])]) := by
  intro a_n1 a_path1 a_value1 r h
  refine fun_pure K.impl_SetNode (ofK ?_)
  unfold C.impl_SetNode
  rcases n with _ | n <;> simp only [G.impl_SetNode, reduceCtorEq] at h
  repeat' first
  | ((with_reducible replace h := kq0 h); obtain ⟨_, _, h⟩ := h)
  | ((with_reducible replace h := kq1 h); obtain ⟨_, _, h⟩ := h)
  | ((with_reducible replace h := kq h); obtain ⟨_, h⟩ := h)
  | ((with_reducible replace h := sq h); subst h; have h := True.intro)
  | (try simp -dsimp only [egR, AOp.opds, AOp.f, AOp.rd, intBin, storeV, lvl, srcOf, reduceIte, Nat.reduceEqDiff, Nat.reduceAdd, Nat.reduceLeDiff, Nat.reduceBEq, reduceCtorEq, Int.reduceBNe, Int.reduceBEq, Int.reduceLT, Int.reduceLE, Int.reduceNeg, Nat.reduceLT, strBin, Int.reduceToNat, renC, *]
     repeat ((with_reducible refine And.intro ?_ ?_); focus first | (show logOK _ _ _ _ = true; kernel_rfl) | (show callOK _ _ = true; kernel_rfl) | omega | assumption | (show _ ≤ maxLen; decide))
     first
     | with_reducible refine callN ?_
     | ((with_reducible refine isCall ?_); (with_reducible replace h := bq h); first | (obtain ⟨v1, hv, h⟩ := h; (with_reducible have hc := F.impl_ValidNode hv); refine callL (fun _ => hc) rfl rfl ?_) | (obtain ⟨v2, hv, h⟩ := h; (with_reducible have hc := F.impl_isPath hv); refine callL (fun _ => hc) rfl rfl ?_) | (obtain ⟨v4, hv, h⟩ := h; (with_reducible have hc := F.impl_changeAt__impl_SetNode_1 hv); (refine callG [11] [] hc rfl rfl ?_ ?_ rfl rfl ?_ rfl ?_; (iterate 2 focus (simp only [ggR, renC, reduceIte, Nat.reduceEqDiff, Nat.reduceLeDiff, Nat.reduceAdd] <;> fail)); (focus first | rfl | (simp only [ggR, renC, reduceIte, Nat.reduceEqDiff, Nat.reduceLeDiff, Nat.reduceAdd] <;> fail)))) | (obtain ⟨v5, hv, h⟩ := h; (with_reducible have hc := F.impl_checked hv); refine callP hc rfl rfl ?_))
     | ((with_reducible replace h := cq h); rcases h with ⟨_, h⟩ | ⟨_, h⟩)
     | ((with_reducible refine isEnd ?_); (simp -dsimp only [peR, reduceIte, Nat.reduceEqDiff, Nat.reduceAdd, Nat.reduceLeDiff, reduceCtorEq] <;> simp [List.take_of_length_le]; done)))
theorem F.impl_isOp {n : Nat} : ∀ {a_o1 : OpT} {r : Bool}, G.impl_isOp n a_o1 = some r → APure Go.Proofs.Tryz.prog 21 [.agg [.c (.lit (.int .i64 a_o1.Kind)), .c (.sl 1 (List.map cS a_o1.Path)), .c (.sl 1 (List.map cS a_o1.From)), .c (.lit (.int .i64 a_o1.Value.Kind)), .c (.lit (.int .i64 a_o1.Value.Num)), .c (.str a_o1.Value.Text), .c (.sl 1 (List.map cS a_o1.Value.Names)), .c (.sl 5 (List.map NodeT.cells a_o1.Value.Kids))]] (.one (.c (.lit (.bool r)))) := by
  intro a_o1 r h
  refine fun_pure K.impl_isOp (ofK ?_)
  unfold C.impl_isOp
  rcases n with _ | n <;> simp only [G.impl_isOp, reduceCtorEq] at h
  repeat' first
  | ((with_reducible replace h := kq0 h); obtain ⟨_, _, h⟩ := h)
  | ((with_reducible replace h := kq1 h); obtain ⟨_, _, h⟩ := h)
  | ((with_reducible replace h := kq h); obtain ⟨_, h⟩ := h)
  | ((with_reducible replace h := sq h); subst h; have h := True.intro)
  | (try simp -dsimp only [egR, AOp.opds, AOp.f, AOp.rd, intBin, storeV, lvl, srcOf, reduceIte, Nat.reduceEqDiff, Nat.reduceAdd, Nat.reduceLeDiff, Nat.reduceBEq, reduceCtorEq, Int.reduceBNe, Int.reduceBEq, Int.reduceLT, Int.reduceLE, Int.reduceNeg, Nat.reduceLT, strBin, Int.reduceToNat, renC, *]
     repeat ((with_reducible refine And.intro ?_ ?_); focus first | (show logOK _ _ _ _ = true; kernel_rfl) | (show callOK _ _ = true; kernel_rfl) | omega | assumption | (show _ ≤ maxLen; decide))
     first
     | with_reducible refine callN ?_
     | ((with_reducible refine isCall ?_); (with_reducible replace h := bq h); first | (obtain ⟨v1, hv, h⟩ := h; (with_reducible have hc := F.impl_isPath hv); refine callL (fun _ => hc) rfl rfl ?_) | (obtain ⟨v3, hv, h⟩ := h; (with_reducible have hc := F.impl_ValidNode hv); refine callL (fun _ => hc) rfl rfl ?_))
     | ((with_reducible replace h := cq h); rcases h with ⟨_, h⟩ | ⟨_, h⟩)
     | ((with_reducible refine isEnd ?_); (simp -dsimp only [peR, reduceIte, Nat.reduceEqDiff, Nat.reduceAdd, Nat.reduceLeDiff, reduceCtorEq] <;> simp [List.take_of_length_le]; done)))
theorem F.slices_Equal_string {n : Nat} : ∀ {a_s11 : List Txt} {a_s21 : List Txt} {r : Bool}, G.slices_Equal_string n a_s11 a_s21 = some r → APure Go.Proofs.Tryz.prog 47 [.one (.c (.sl 1 (List.map cS a_s11))), .one (.c (.sl 1 (List.map cS a_s21)))] (.one (.c (.lit (.bool r)))) := by
  intro a_s11 a_s21 r h
  refine fun_pure K.slices_Equal_string (ofK ?_)
  unfold C.slices_Equal_string
  rcases n with _ | n <;> simp only [G.slices_Equal_string, reduceCtorEq] at h
  repeat' first
  | (clear h; (with_reducible rintro ⟨n, x_t2⟩ ⟨hn, h⟩); (with_reducible replace h : G.slices_Equal_string.L1 _ _ _ _ = some _ := h); rcases n with _ | n <;> simp only [G.slices_Equal_string.L1, reduceCtorEq] at h <;> simp only at hn)
  | ((with_reducible replace h := kq0 h); obtain ⟨_, _, h⟩ := h)
  | ((with_reducible replace h := kq1 h); obtain ⟨_, _, h⟩ := h)
  | ((with_reducible replace h := kq h); obtain ⟨_, h⟩ := h)
  | ((with_reducible replace h := sq h); subst h; have h := True.intro)
  | (try simp -dsimp only [egR, AOp.opds, AOp.f, AOp.rd, intBin, storeV, lvl, srcOf, reduceIte, Nat.reduceEqDiff, Nat.reduceAdd, Nat.reduceLeDiff, Nat.reduceBEq, reduceCtorEq, Int.reduceBNe, Int.reduceBEq, Int.reduceLT, Int.reduceLE, Int.reduceNeg, Nat.reduceLT, strBin, Int.reduceToNat, renC, *]
     repeat ((with_reducible refine And.intro ?_ ?_); focus first | (show logOK _ _ _ _ = true; kernel_rfl) | (show callOK _ _ = true; kernel_rfl) | omega | assumption | (show _ ≤ maxLen; decide))
     first
     | with_reducible refine callN ?_
     | ((with_reducible refine isLoop ?_); refine loopE (X := Nat × Int) (fun x => x.1 ≤ n ∧ G.slices_Equal_string.L1 x.1 a_s11 a_s21 x.2 = some r) (fun x => ASt.of [(0, .v true (.one (.c (.sl 1 (List.map cS a_s11))))), (1, .v true (.one (.c (.sl 1 (List.map cS a_s21))))), (12, .v true (.one (.c (.lit (.int .i64 ((a_s11.length : Nat) : Int)))))), (13, .v true (.one (.c (.lit (.int .i64 x.2)))))] []) (fun x => x.1) (by simp only [Prod.exists]; exact ⟨_, _, ⟨Nat.le_refl _, h⟩, weak_of [] [] [] (by rfl) (by (simp -dsimp only [wkR, wkB, wkC, reduceIte, Nat.reduceEqDiff, reduceCtorEq] <;> simp [List.take_of_length_le]; done)) (by (simp -dsimp only [wkR, wkB, wkC, reduceIte, Nat.reduceEqDiff, reduceCtorEq] <;> simp [List.take_of_length_le]; done))⟩) ?_)
     | ((with_reducible replace h := cq h); rcases h with ⟨c, h⟩ | ⟨c, h⟩ <;> try (simp only [*, Bool.false_eq_true, reduceCtorEq] at c; done))
     | ((with_reducible refine isEx ?_); simp only [Prod.exists]; refine ⟨_, _, ⟨⟨?_, h⟩, ?_⟩, weak_of [] [] [] ?_ ?_ ?_⟩; (iterate 2 focus omega); (focus rfl); (iterate 2 focus (simp -dsimp only [wkR, wkB, wkC, reduceIte, Nat.reduceEqDiff, reduceCtorEq] <;> simp [List.take_of_length_le]; done)))
     | ((with_reducible refine isEnd ?_); (simp -dsimp only [peR, reduceIte, Nat.reduceEqDiff, Nat.reduceAdd, Nat.reduceLeDiff, reduceCtorEq] <;> simp [List.take_of_length_le]; done)))
theorem F.impl_moveNode {n : Nat} : ∀ {a_n1 : NodeT} {a_from1 : List Txt} {a_path1 : List Txt} {r : NodeT × Bool}, G.impl_moveNode n a_n1 a_from1 a_path1 = some r → APure Go.Proofs.Tryz.prog 22 [.agg [.c (.lit (.int .i64 a_n1.Kind)), .c (.lit (.int .i64 a_n1.Num)), .c (.str a_n1.Text), .c (.sl 1 (List.map cS a_n1.Names)), .c (.sl 5 (List.map NodeT.cells a_n1.Kids))], .one (.c (.sl 1 (List.map cS a_from1))), .one (.c (.sl 1 (List.map cS a_path1)))] (.tup [(true, [.c (.lit (.int .i64 r.1.Kind)), .c (.lit (.int .i64 r.1.Num)), .c (.str r.1.Text), .c (.sl 1 (List.map cS r.1.Names)), .c (.sl 5 (List.map NodeT.cells r.1.Kids))]), (false, [.c (.lit (.bool r.2))])]) := by
  intro a_n1 a_from1 a_path1 r h
  refine fun_pure K.impl_moveNode (ofK ?_)
  unfold C.impl_moveNode
  rcases n with _ | n <;> simp only [G.impl_moveNode, reduceCtorEq] at h
  repeat' first
  | ((with_reducible replace h := kq0 h); obtain ⟨_, _, h⟩ := h)
  | ((with_reducible replace h := kq1 h); obtain ⟨_, _, h⟩ := h)
  | ((with_reducible replace h := kq h); obtain ⟨_, h⟩ := h)
  | ((with_reducible replace h := sq h); subst h; have h := True.intro)
  | (try simp -dsimp only [egR, AOp.opds, AOp.f, AOp.rd, intBin, storeV, lvl, srcOf, reduceIte, Nat.reduceEqDiff, Nat.reduceAdd, Nat.reduceLeDiff, Nat.reduceBEq, reduceCtorEq, Int.reduceBNe, Int.reduceBEq, Int.reduceLT, Int.reduceLE, Int.reduceNeg, Nat.reduceLT, strBin, Int.reduceToNat, renC, *]
     repeat ((with_reducible refine And.intro ?_ ?_); focus first | (show logOK _ _ _ _ = true; kernel_rfl) | (show callOK _ _ = true; kernel_rfl) | omega | assumption | (show _ ≤ maxLen; decide))
     first
     | with_reducible refine callN ?_
     | ((with_reducible refine isCall ?_); (with_reducible replace h := bq h); first | (obtain ⟨v1, hv, h⟩ := h; (with_reducible have hc := F.impl_NodeAt hv); refine callP hc rfl rfl ?_) | (obtain ⟨v2, hv, h⟩ := h; (with_reducible have hc := F.slices_Equal_string hv); refine callL (fun _ => hc) rfl rfl ?_) | (obtain ⟨v3, hv, h⟩ := h; (with_reducible have hc := F.impl_copyNode hv); refine callP hc rfl rfl ?_) | (obtain ⟨v5, hv, h⟩ := h; (with_reducible have hc := F.impl_RemoveNode hv); refine callP hc rfl rfl ?_) | (obtain ⟨v6, hv, h⟩ := h; (with_reducible have hc := F.impl_AddNode hv); refine callP hc rfl rfl ?_))
     | ((with_reducible replace h := cq h); rcases h with ⟨_, h⟩ | ⟨_, h⟩)
     | ((with_reducible refine isEnd ?_); (simp -dsimp only [peR, reduceIte, Nat.reduceEqDiff, Nat.reduceAdd, Nat.reduceLeDiff, reduceCtorEq] <;> simp [List.take_of_length_le]; done)))
theorem F.internal_bytealg_CompareString {n : Nat} : ∀ {a_a1 : Txt} {a_b1 : Txt} {r : Int}, G.internal_bytealg_CompareString n a_a1 a_b1 = some r → APure Go.Proofs.Tryz.prog 100 [.one (.c (.str a_a1)), .one (.c (.str a_b1))] (.one (.c (.lit (.int .i64 r)))) := by
  intro a_a1 a_b1 r h
  refine fun_pure K.internal_bytealg_CompareString (ofK ?_)
  unfold C.internal_bytealg_CompareString
  rcases n with _ | n <;> simp only [G.internal_bytealg_CompareString, reduceCtorEq] at h
  repeat' first
  | ((with_reducible replace h := kq0 h); obtain ⟨_, _, h⟩ := h)
  | ((with_reducible replace h := kq1 h); obtain ⟨_, _, h⟩ := h)
  | ((with_reducible replace h := kq h); obtain ⟨_, h⟩ := h)
  | ((with_reducible replace h := sq h); subst h; have h := True.intro)
  | (try simp -dsimp only [egR, AOp.opds, AOp.f, AOp.rd, intBin, storeV, lvl, srcOf, reduceIte, Nat.reduceEqDiff, Nat.reduceAdd, Nat.reduceLeDiff, Nat.reduceBEq, reduceCtorEq, Int.reduceBNe, Int.reduceBEq, Int.reduceLT, Int.reduceLE, Int.reduceNeg, Nat.reduceLT, strBin, Int.reduceToNat, renC, *]
     repeat ((with_reducible refine And.intro ?_ ?_); focus first | (show logOK _ _ _ _ = true; kernel_rfl) | (show callOK _ _ = true; kernel_rfl) | omega | assumption | (show _ ≤ maxLen; decide))
     first
     | with_reducible refine callN ?_
     | ((with_reducible replace h := cq h); rcases h with ⟨_, h⟩ | ⟨_, h⟩)
     | ((with_reducible refine isEnd ?_); (simp -dsimp only [peR, reduceIte, Nat.reduceEqDiff, Nat.reduceAdd, Nat.reduceLeDiff, reduceCtorEq] <;> simp [List.take_of_length_le]; done)))
theorem F.strings_Compare {n : Nat} : ∀ {a_a1 : Txt} {a_b1 : Txt} {r : Int}, G.strings_Compare n a_a1 a_b1 = some r → APure Go.Proofs.Tryz.prog 88 [.one (.c (.str a_a1)), .one (.c (.str a_b1))] (.one (.c (.lit (.int .i64 r)))) := by
  intro a_a1 a_b1 r h
  refine fun_pure K.strings_Compare (ofK ?_)
  unfold C.strings_Compare
  rcases n with _ | n <;> simp only [G.strings_Compare, reduceCtorEq] at h
  repeat' first
  | ((with_reducible replace h := kq0 h); obtain ⟨_, _, h⟩ := h)
  | ((with_reducible replace h := kq1 h); obtain ⟨_, _, h⟩ := h)
  | ((with_reducible replace h := kq h); obtain ⟨_, h⟩ := h)
  | ((with_reducible replace h := sq h); subst h; have h := True.intro)
  | (try simp -dsimp only [egR, AOp.opds, AOp.f, AOp.rd, intBin, storeV, lvl, srcOf, reduceIte, Nat.reduceEqDiff, Nat.reduceAdd, Nat.reduceLeDiff, Nat.reduceBEq, reduceCtorEq, Int.reduceBNe, Int.reduceBEq, Int.reduceLT, Int.reduceLE, Int.reduceNeg, Nat.reduceLT, strBin, Int.reduceToNat, renC, *]
     repeat ((with_reducible refine And.intro ?_ ?_); focus first | (show logOK _ _ _ _ = true; kernel_rfl) | (show callOK _ _ = true; kernel_rfl) | omega | assumption | (show _ ≤ maxLen; decide))
     first
     | with_reducible refine callN ?_
     | ((with_reducible refine isCall ?_); (with_reducible replace h := bq h); first | (obtain ⟨v1, hv, h⟩ := h; (with_reducible have hc := F.internal_bytealg_CompareString hv); refine callL (fun _ => hc) rfl rfl ?_))
     | ((with_reducible replace h := cq h); rcases h with ⟨_, h⟩ | ⟨_, h⟩)
     | ((with_reducible refine isEnd ?_); (simp -dsimp only [peR, reduceIte, Nat.reduceEqDiff, Nat.reduceAdd, Nat.reduceLeDiff, reduceCtorEq] <;> simp [List.take_of_length_le]; done)))
theorem F.impl_compareValid_n : ∀ (n : Nat), ∀ {a_a1 : NodeT} {a_b1 : NodeT} {r : Int}, G.impl_compareValid n a_a1 a_b1 = some r → APure Go.Proofs.Tryz.prog 66 [.agg [.c (.lit (.int .i64 a_a1.Kind)), .c (.lit (.int .i64 a_a1.Num)), .c (.str a_a1.Text), .c (.sl 1 (List.map cS a_a1.Names)), .c (.sl 5 (List.map NodeT.cells a_a1.Kids))], .agg [.c (.lit (.int .i64 a_b1.Kind)), .c (.lit (.int .i64 a_b1.Num)), .c (.str a_b1.Text), .c (.sl 1 (List.map cS a_b1.Names)), .c (.sl 5 (List.map NodeT.cells a_b1.Kids))]] (.one (.c (.lit (.int .i64 r)))) := by
  intro n
  induction n using Nat.strongRecOn with | _ n ih =>
  intro a_a1 a_b1 r h
  refine fun_pure K.impl_compareValid (ofK ?_)
  unfold C.impl_compareValid
  rcases n with _ | n <;> simp only [G.impl_compareValid, reduceCtorEq] at h
  have := Mk.mk 3; have := Mk.mk 4
  repeat' first
  | (clear h; (with_reducible rintro ⟨n, x_i2⟩ ⟨hn, h⟩); (with_reducible replace h : G.impl_compareValid.L3 _ _ _ _ = some _ := h); rcases n with _ | n <;> simp only [G.impl_compareValid.L3, reduceCtorEq] at h <;> simp only at hn)
  | (clear h; (with_reducible rintro ⟨n, _⟩ ⟨hn, h⟩); (with_reducible replace h : G.impl_compareValid.K4 _ _ _ _ = some _ := h); rcases n with _ | n <;> simp only [G.impl_compareValid.K4, reduceCtorEq] at h <;> simp only at hn)
  | ((with_reducible replace h := kq0 h); obtain ⟨_, _, h⟩ := h)
  | ((with_reducible replace h := kq1 h); obtain ⟨_, _, h⟩ := h)
  | ((with_reducible replace h := kq h); obtain ⟨_, h⟩ := h)
  | ((with_reducible replace h := sq h); subst h; have h := True.intro)
  | (try simp -dsimp only [egR, AOp.opds, AOp.f, AOp.rd, intBin, storeV, lvl, srcOf, reduceIte, Nat.reduceEqDiff, Nat.reduceAdd, Nat.reduceLeDiff, Nat.reduceBEq, reduceCtorEq, Int.reduceBNe, Int.reduceBEq, Int.reduceLT, Int.reduceLE, Int.reduceNeg, Nat.reduceLT, strBin, Int.reduceToNat, renC, *]
     repeat ((with_reducible refine And.intro ?_ ?_); focus first | (show logOK _ _ _ _ = true; kernel_rfl) | (show callOK _ _ = true; kernel_rfl) | omega | assumption | (show _ ≤ maxLen; decide))
     first
     | with_reducible refine callN ?_
     | ((with_reducible refine isLoop ?_); rename Mk 3 => tk; clear tk; have : True := (by (first | rewrite [show @G.impl_compareValid.L3 = _ from rfl] at h | rewrite [show @G.impl_compareValid.K4 = _ from rfl] at h); exact True.intro); refine loopE (X := Nat × Int) (fun x => x.1 ≤ n ∧ G.impl_compareValid.L3 x.1 a_a1 a_b1 x.2 = some r) (fun x => ASt.of [(2, .v true (.one (.ptr 109 0))), (3, .v true (.one (.ptr 110 0))), (8, .v true (.one (.c (.lit (.int .i64 x.2)))))] [(109, .var [.c (.lit (.int .i64 a_a1.Kind)), .c (.lit (.int .i64 a_a1.Num)), .c (.str a_a1.Text), .c (.sl 1 (List.map cS a_a1.Names)), .c (.sl 5 (List.map NodeT.cells a_a1.Kids))]), (110, .var [.c (.lit (.int .i64 a_b1.Kind)), .c (.lit (.int .i64 a_b1.Num)), .c (.str a_b1.Text), .c (.sl 1 (List.map cS a_b1.Names)), .c (.sl 5 (List.map NodeT.cells a_b1.Kids))])]) (fun x => x.1) (by simp only [Prod.exists]; exact ⟨_, _, ⟨Nat.le_refl _, h⟩, weak_of [] [(109, 10), (110, 11)] [] (by rfl) (by (simp -dsimp only [wkR, wkB, wkC, reduceIte, Nat.reduceEqDiff, reduceCtorEq] <;> simp [List.take_of_length_le]; done)) (by (simp -dsimp only [wkR, wkB, wkC, reduceIte, Nat.reduceEqDiff, reduceCtorEq] <;> simp [List.take_of_length_le]; done))⟩) ?_)
     | ((with_reducible refine isCut ?_); rename Mk 4 => tk; clear tk; have : True := (by (first | rewrite [show @G.impl_compareValid.K4 = _ from rfl] at h | rewrite [show @G.impl_compareValid.L3 = _ from rfl] at h); exact True.intro); refine cutK (X := Nat × Unit) (fun x => x.1 ≤ n ∧ G.impl_compareValid.K4 x.1 a_a1 a_b1 x_i2 = some r) (fun x => ASt.of [(2, .v true (.one (.ptr 111 0))), (3, .v true (.one (.ptr 112 0))), (8, .v true (.one (.c (.lit (.int .i64 x_i2)))))] [(111, .var [.c (.lit (.int .i64 a_a1.Kind)), .c (.lit (.int .i64 a_a1.Num)), .c (.str a_a1.Text), .c (.sl 1 (List.map cS a_a1.Names)), .c (.sl 5 (List.map NodeT.cells a_a1.Kids))]), (112, .var [.c (.lit (.int .i64 a_b1.Kind)), .c (.lit (.int .i64 a_b1.Num)), .c (.str a_b1.Text), .c (.sl 1 (List.map cS a_b1.Names)), .c (.sl 5 (List.map NodeT.cells a_b1.Kids))])]) ?_ ?_)
     | ((with_reducible refine isCall ?_); (with_reducible replace h := bq h); first | (obtain ⟨v1, hv, h⟩ := h; (with_reducible have hc := F.cmp_Compare_int hv); refine callL (fun _ => hc) rfl rfl ?_) | (obtain ⟨v3, hv, h⟩ := h; (with_reducible have hc := F.strings_Compare hv); refine callL (fun _ => hc) rfl rfl ?_) | (obtain ⟨v11, hv, h⟩ := h; have hc := ih _ (by omega) hv; refine callL (fun _ => hc) rfl rfl ?_))
     | ((with_reducible replace h := cq h); rcases h with ⟨c, h⟩ | ⟨c, h⟩ <;> try (simp only [*, Bool.false_eq_true, reduceCtorEq] at c; done))
     | ((with_reducible refine isEx ?_); simp only [Prod.exists]; refine ⟨_, (), ⟨?_, h⟩, weak_of [] [(111, 109), (112, 110)] [] ?_ ?_ ?_⟩; (focus omega); (focus rfl); (iterate 2 focus (simp -dsimp only [wkR, wkB, wkC, reduceIte, Nat.reduceEqDiff, reduceCtorEq] <;> simp [List.take_of_length_le]; done)))
     | ((with_reducible refine isEx ?_); simp only [Prod.exists]; refine ⟨_, _, ⟨⟨?_, h⟩, ?_⟩, weak_of [] [(109, 111), (110, 112)] [] ?_ ?_ ?_⟩; (iterate 2 focus omega); (focus rfl); (iterate 2 focus (simp -dsimp only [wkR, wkB, wkC, reduceIte, Nat.reduceEqDiff, reduceCtorEq] <;> simp [List.take_of_length_le]; done)))
     | ((with_reducible refine isEnd ?_); (simp -dsimp only [peR, reduceIte, Nat.reduceEqDiff, Nat.reduceAdd, Nat.reduceLeDiff, reduceCtorEq] <;> simp [List.take_of_length_le]; done)))
theorem F.impl_compareValid {n : Nat} : ∀ {a_a1 : NodeT} {a_b1 : NodeT} {r : Int}, G.impl_compareValid n a_a1 a_b1 = some r → APure Go.Proofs.Tryz.prog 66 [.agg [.c (.lit (.int .i64 a_a1.Kind)), .c (.lit (.int .i64 a_a1.Num)), .c (.str a_a1.Text), .c (.sl 1 (List.map cS a_a1.Names)), .c (.sl 5 (List.map NodeT.cells a_a1.Kids))], .agg [.c (.lit (.int .i64 a_b1.Kind)), .c (.lit (.int .i64 a_b1.Num)), .c (.str a_b1.Text), .c (.sl 1 (List.map cS a_b1.Names)), .c (.sl 5 (List.map NodeT.cells a_b1.Kids))]] (.one (.c (.lit (.int .i64 r)))) := F.impl_compareValid_n n
theorem F.impl_sameNode {n : Nat} : ∀ {a_a1 : NodeT} {a_b1 : NodeT} {r : Bool}, G.impl_sameNode n a_a1 a_b1 = some r → APure Go.Proofs.Tryz.prog 48 [.agg [.c (.lit (.int .i64 a_a1.Kind)), .c (.lit (.int .i64 a_a1.Num)), .c (.str a_a1.Text), .c (.sl 1 (List.map cS a_a1.Names)), .c (.sl 5 (List.map NodeT.cells a_a1.Kids))], .agg [.c (.lit (.int .i64 a_b1.Kind)), .c (.lit (.int .i64 a_b1.Num)), .c (.str a_b1.Text), .c (.sl 1 (List.map cS a_b1.Names)), .c (.sl 5 (List.map NodeT.cells a_b1.Kids))]] (.one (.c (.lit (.bool r)))) := by
  intro a_a1 a_b1 r h
  refine fun_pure K.impl_sameNode (ofK ?_)
  unfold C.impl_sameNode
  rcases n with _ | n <;> simp only [G.impl_sameNode, reduceCtorEq] at h
  repeat' first
  | ((with_reducible replace h := kq0 h); obtain ⟨_, _, h⟩ := h)
  | ((with_reducible replace h := kq1 h); obtain ⟨_, _, h⟩ := h)
  | ((with_reducible replace h := kq h); obtain ⟨_, h⟩ := h)
  | ((with_reducible replace h := sq h); subst h; have h := True.intro)
  | (try simp -dsimp only [egR, AOp.opds, AOp.f, AOp.rd, intBin, storeV, lvl, srcOf, reduceIte, Nat.reduceEqDiff, Nat.reduceAdd, Nat.reduceLeDiff, Nat.reduceBEq, reduceCtorEq, Int.reduceBNe, Int.reduceBEq, Int.reduceLT, Int.reduceLE, Int.reduceNeg, Nat.reduceLT, strBin, Int.reduceToNat, renC, *]
     repeat ((with_reducible refine And.intro ?_ ?_); focus first | (show logOK _ _ _ _ = true; kernel_rfl) | (show callOK _ _ = true; kernel_rfl) | omega | assumption | (show _ ≤ maxLen; decide))
     first
     | with_reducible refine callN ?_
     | ((with_reducible refine isCall ?_); (with_reducible replace h := bq h); first | (obtain ⟨v1, hv, h⟩ := h; (with_reducible have hc := F.impl_compareValid hv); refine callL (fun _ => hc) rfl rfl ?_))
     | ((with_reducible replace h := cq h); rcases h with ⟨_, h⟩ | ⟨_, h⟩)
     | ((with_reducible refine isEnd ?_); (simp -dsimp only [peR, reduceIte, Nat.reduceEqDiff, Nat.reduceAdd, Nat.reduceLeDiff, reduceCtorEq] <;> simp [List.take_of_length_le]; done)))
theorem F.impl_testNode {n : Nat} : ∀ {a_n1 : NodeT} {a_path1 : List Txt} {a_value1 : NodeT} {r : NodeT × Bool}, G.impl_testNode n a_n1 a_path1 a_value1 = some r → APure Go.Proofs.Tryz.prog 23 [.agg [.c (.lit (.int .i64 a_n1.Kind)), .c (.lit (.int .i64 a_n1.Num)), .c (.str a_n1.Text), .c (.sl 1 (List.map cS a_n1.Names)), .c (.sl 5 (List.map NodeT.cells a_n1.Kids))], .one (.c (.sl 1 (List.map cS a_path1))), .agg [.c (.lit (.int .i64 a_value1.Kind)), .c (.lit (.int .i64 a_value1.Num)), .c (.str a_value1.Text), .c (.sl 1 (List.map cS a_value1.Names)), .c (.sl 5 (List.map NodeT.cells a_value1.Kids))]] (.tup [(true, [.c (.lit (.int .i64 r.1.Kind)), .c (.lit (.int .i64 r.1.Num)), .c (.str r.1.Text), .c (.sl 1 (List.map cS r.1.Names)), .c (.sl 5 (List.map NodeT.cells r.1.Kids))]), (false, [.c (.lit (.bool r.2))])]) := by
  intro a_n1 a_path1 a_value1 r h
  refine fun_pure K.impl_testNode (ofK ?_)
  unfold C.impl_testNode
  rcases n with _ | n <;> simp only [G.impl_testNode, reduceCtorEq] at h
  repeat' first
  | ((with_reducible replace h := kq0 h); obtain ⟨_, _, h⟩ := h)
  | ((with_reducible replace h := kq1 h); obtain ⟨_, _, h⟩ := h)
  | ((with_reducible replace h := kq h); obtain ⟨_, h⟩ := h)
  | ((with_reducible replace h := sq h); subst h; have h := True.intro)
  | (try simp -dsimp only [egR, AOp.opds, AOp.f, AOp.rd, intBin, storeV, lvl, srcOf, reduceIte, Nat.reduceEqDiff, Nat.reduceAdd, Nat.reduceLeDiff, Nat.reduceBEq, reduceCtorEq, Int.reduceBNe, Int.reduceBEq, Int.reduceLT, Int.reduceLE, Int.reduceNeg, Nat.reduceLT, strBin, Int.reduceToNat, renC, *]
     repeat ((with_reducible refine And.intro ?_ ?_); focus first | (show logOK _ _ _ _ = true; kernel_rfl) | (show callOK _ _ = true; kernel_rfl) | omega | assumption | (show _ ≤ maxLen; decide))
     first
     | with_reducible refine callN ?_
     | ((with_reducible refine isCall ?_); (with_reducible replace h := bq h); first | (obtain ⟨v1, hv, h⟩ := h; (with_reducible have hc := F.impl_findNode hv); refine callP hc rfl rfl ?_) | (obtain ⟨v2, hv, h⟩ := h; (with_reducible have hc := F.impl_sameNode hv); refine callL (fun _ => hc) rfl rfl ?_) | (obtain ⟨v3, hv, h⟩ := h; (with_reducible have hc := F.impl_copyNode hv); refine callP hc rfl rfl ?_))
     | ((with_reducible replace h := cq h); rcases h with ⟨_, h⟩ | ⟨_, h⟩)
     | ((with_reducible refine isEnd ?_); (simp -dsimp only [peR, reduceIte, Nat.reduceEqDiff, Nat.reduceAdd, Nat.reduceLeDiff, reduceCtorEq] <;> simp [List.take_of_length_le]; done)))
theorem F.impl_ApplyOp {n : Nat} : ∀ {a_n1 : NodeT} {a_o1 : OpT} {r : NodeT × Bool}, G.impl_ApplyOp n a_n1 a_o1 = some r → APure Go.Proofs.Tryz.prog 8 [.agg [.c (.lit (.int .i64 a_n1.Kind)), .c (.lit (.int .i64 a_n1.Num)), .c (.str a_n1.Text), .c (.sl 1 (List.map cS a_n1.Names)), .c (.sl 5 (List.map NodeT.cells a_n1.Kids))], .agg [.c (.lit (.int .i64 a_o1.Kind)), .c (.sl 1 (List.map cS a_o1.Path)), .c (.sl 1 (List.map cS a_o1.From)), .c (.lit (.int .i64 a_o1.Value.Kind)), .c (.lit (.int .i64 a_o1.Value.Num)), .c (.str a_o1.Value.Text), .c (.sl 1 (List.map cS a_o1.Value.Names)), .c (.sl 5 (List.map NodeT.cells a_o1.Value.Kids))]] (.tup [(true, [.c (.lit (.int .i64 r.1.Kind)), .c (.lit (.int .i64 r.1.Num)), .c (.str r.1.Text), .c (.sl 1 (List.map cS r.1.Names)), .c (.sl 5 (List.map NodeT.cells r.1.Kids))]), (false, [.c (.lit (.bool r.2))])]) := by
  intro a_n1 a_o1 r h
  refine fun_pure K.impl_ApplyOp (ofK ?_)
  unfold C.impl_ApplyOp
  rcases n with _ | n <;> simp only [G.impl_ApplyOp, reduceCtorEq] at h
  repeat' first
  | ((with_reducible replace h := kq0 h); obtain ⟨_, _, h⟩ := h)
  | ((with_reducible replace h := kq1 h); obtain ⟨_, _, h⟩ := h)
  | ((with_reducible replace h := kq h); obtain ⟨_, h⟩ := h)
  | ((with_reducible replace h := sq h); subst h; have h := True.intro)
  | (try simp -dsimp only [egR, AOp.opds, AOp.f, AOp.rd, intBin, storeV, lvl, srcOf, reduceIte, Nat.reduceEqDiff, Nat.reduceAdd, Nat.reduceLeDiff, Nat.reduceBEq, reduceCtorEq, Int.reduceBNe, Int.reduceBEq, Int.reduceLT, Int.reduceLE, Int.reduceNeg, Nat.reduceLT, strBin, Int.reduceToNat, renC, *]
     repeat ((with_reducible refine And.intro ?_ ?_); focus first | (show logOK _ _ _ _ = true; kernel_rfl) | (show callOK _ _ = true; kernel_rfl) | omega | assumption | (show _ ≤ maxLen; decide))
     first
     | with_reducible refine callN ?_
     | ((with_reducible refine isCall ?_); (with_reducible replace h := bq h); first | (obtain ⟨v1, hv, h⟩ := h; (with_reducible have hc := F.impl_ValidNode hv); refine callL (fun _ => hc) rfl rfl ?_) | (obtain ⟨v2, hv, h⟩ := h; (with_reducible have hc := F.impl_isOp hv); refine callL (fun _ => hc) rfl rfl ?_) | (obtain ⟨v3, hv, h⟩ := h; (with_reducible have hc := F.impl_AddNode hv); refine callP hc rfl rfl ?_) | (obtain ⟨v4, hv, h⟩ := h; (with_reducible have hc := F.impl_RemoveNode hv); refine callP hc rfl rfl ?_) | (obtain ⟨v5, hv, h⟩ := h; (with_reducible have hc := F.impl_SetNode hv); refine callP hc rfl rfl ?_) | (obtain ⟨v6, hv, h⟩ := h; (with_reducible have hc := F.impl_moveNode hv); refine callP hc rfl rfl ?_) | (obtain ⟨v7, hv, h⟩ := h; (with_reducible have hc := F.impl_NodeAt hv); refine callP hc rfl rfl ?_) | (obtain ⟨v9, hv, h⟩ := h; (with_reducible have hc := F.impl_testNode hv); refine callP hc rfl rfl ?_))
     | ((with_reducible replace h := cq h); rcases h with ⟨_, h⟩ | ⟨_, h⟩)
     | ((with_reducible refine isEnd ?_); (simp -dsimp only [peR, reduceIte, Nat.reduceEqDiff, Nat.reduceAdd, Nat.reduceLeDiff, reduceCtorEq] <;> simp [List.take_of_length_le]; done)))
theorem F.impl_NodeCount {n : Nat} : ∀ {a_n1 : NodeT} {r : Int}, G.impl_NodeCount n a_n1 = some r → APure Go.Proofs.Tryz.prog 17 [.agg [.c (.lit (.int .i64 a_n1.Kind)), .c (.lit (.int .i64 a_n1.Num)), .c (.str a_n1.Text), .c (.sl 1 (List.map cS a_n1.Names)), .c (.sl 5 (List.map NodeT.cells a_n1.Kids))]] (.one (.c (.lit (.int .i64 r)))) := by
  intro a_n1 r h
  refine fun_pure K.impl_NodeCount (ofK ?_)
  unfold C.impl_NodeCount
  rcases n with _ | n <;> simp only [G.impl_NodeCount, reduceCtorEq] at h
  repeat' first
  | ((with_reducible replace h := kq0 h); obtain ⟨_, _, h⟩ := h)
  | ((with_reducible replace h := kq1 h); obtain ⟨_, _, h⟩ := h)
  | ((with_reducible replace h := kq h); obtain ⟨_, h⟩ := h)
  | ((with_reducible replace h := sq h); subst h; have h := True.intro)
  | (try simp -dsimp only [egR, AOp.opds, AOp.f, AOp.rd, intBin, storeV, lvl, srcOf, reduceIte, Nat.reduceEqDiff, Nat.reduceAdd, Nat.reduceLeDiff, Nat.reduceBEq, reduceCtorEq, Int.reduceBNe, Int.reduceBEq, Int.reduceLT, Int.reduceLE, Int.reduceNeg, Nat.reduceLT, strBin, Int.reduceToNat, renC, *]
     repeat ((with_reducible refine And.intro ?_ ?_); focus first | (show logOK _ _ _ _ = true; kernel_rfl) | (show callOK _ _ = true; kernel_rfl) | omega | assumption | (show _ ≤ maxLen; decide))
     first
     | with_reducible refine callN ?_
     | ((with_reducible refine isCall ?_); (with_reducible replace h := bq h); first | (obtain ⟨v1, hv, h⟩ := h; (with_reducible have hc := F.impl_measureNode hv); refine callL (fun _ => hc) rfl rfl ?_))
     | ((with_reducible replace h := cq h); rcases h with ⟨_, h⟩ | ⟨_, h⟩)
     | ((with_reducible refine isEnd ?_); (simp -dsimp only [peR, reduceIte, Nat.reduceEqDiff, Nat.reduceAdd, Nat.reduceLeDiff, reduceCtorEq] <;> simp [List.take_of_length_le]; done)))
theorem F.laws_equalTexts {n : Nat} : ∀ {a_a1 : List Txt} {a_b1 : List Txt} {r : Bool}, G.laws_equalTexts n a_a1 a_b1 = some r → APure Go.Proofs.Tryz.prog 16 [.one (.c (.sl 1 (List.map cS a_a1))), .one (.c (.sl 1 (List.map cS a_b1)))] (.one (.c (.lit (.bool r)))) := by
  intro a_a1 a_b1 r h
  refine fun_pure K.laws_equalTexts (ofK ?_)
  unfold C.laws_equalTexts
  rcases n with _ | n <;> simp only [G.laws_equalTexts, reduceCtorEq] at h
  repeat' first
  | (clear h; (with_reducible rintro ⟨n, x_i2⟩ ⟨hn, h⟩); (with_reducible replace h : G.laws_equalTexts.L1 _ _ _ _ = some _ := h); rcases n with _ | n <;> simp only [G.laws_equalTexts.L1, reduceCtorEq] at h <;> simp only at hn)
  | ((with_reducible replace h := kq0 h); obtain ⟨_, _, h⟩ := h)
  | ((with_reducible replace h := kq1 h); obtain ⟨_, _, h⟩ := h)
  | ((with_reducible replace h := kq h); obtain ⟨_, h⟩ := h)
  | ((with_reducible replace h := sq h); subst h; have h := True.intro)
  | (try simp -dsimp only [egR, AOp.opds, AOp.f, AOp.rd, intBin, storeV, lvl, srcOf, reduceIte, Nat.reduceEqDiff, Nat.reduceAdd, Nat.reduceLeDiff, Nat.reduceBEq, reduceCtorEq, Int.reduceBNe, Int.reduceBEq, Int.reduceLT, Int.reduceLE, Int.reduceNeg, Nat.reduceLT, strBin, Int.reduceToNat, renC, *]
     repeat ((with_reducible refine And.intro ?_ ?_); focus first | (show logOK _ _ _ _ = true; kernel_rfl) | (show callOK _ _ = true; kernel_rfl) | omega | assumption | (show _ ≤ maxLen; decide))
     first
     | with_reducible refine callN ?_
     | ((with_reducible refine isLoop ?_); refine loopE (X := Nat × Int) (fun x => x.1 ≤ n ∧ G.laws_equalTexts.L1 x.1 a_a1 a_b1 x.2 = some r) (fun x => ASt.of [(0, .v true (.one (.c (.sl 1 (List.map cS a_a1))))), (1, .v true (.one (.c (.sl 1 (List.map cS a_b1))))), (5, .v true (.one (.c (.lit (.int .i64 x.2)))))] []) (fun x => x.1) (by simp only [Prod.exists]; exact ⟨_, _, ⟨Nat.le_refl _, h⟩, weak_of [] [] [] (by rfl) (by (simp -dsimp only [wkR, wkB, wkC, reduceIte, Nat.reduceEqDiff, reduceCtorEq] <;> simp [List.take_of_length_le]; done)) (by (simp -dsimp only [wkR, wkB, wkC, reduceIte, Nat.reduceEqDiff, reduceCtorEq] <;> simp [List.take_of_length_le]; done))⟩) ?_)
     | ((with_reducible replace h := cq h); rcases h with ⟨c, h⟩ | ⟨c, h⟩ <;> try (simp only [*, Bool.false_eq_true, reduceCtorEq] at c; done))
     | ((with_reducible refine isEx ?_); simp only [Prod.exists]; refine ⟨_, _, ⟨⟨?_, h⟩, ?_⟩, weak_of [] [] [] ?_ ?_ ?_⟩; (iterate 2 focus omega); (focus rfl); (iterate 2 focus (simp -dsimp only [wkR, wkB, wkC, reduceIte, Nat.reduceEqDiff, reduceCtorEq] <;> simp [List.take_of_length_le]; done)))
     | ((with_reducible refine isEnd ?_); (simp -dsimp only [peR, reduceIte, Nat.reduceEqDiff, Nat.reduceAdd, Nat.reduceLeDiff, reduceCtorEq] <;> simp [List.take_of_length_le]; done)))
theorem F.scc_laws_equalNode : ∀ (n : Nat), (∀ {a_a1 : NodeT} {a_b1 : NodeT} {r : Bool}, G.laws_equalNode n a_a1 a_b1 = some r → APure Go.Proofs.Tryz.prog 10 [.agg [.c (.lit (.int .i64 a_a1.Kind)), .c (.lit (.int .i64 a_a1.Num)), .c (.str a_a1.Text), .c (.sl 1 (List.map cS a_a1.Names)), .c (.sl 5 (List.map NodeT.cells a_a1.Kids))], .agg [.c (.lit (.int .i64 a_b1.Kind)), .c (.lit (.int .i64 a_b1.Num)), .c (.str a_b1.Text), .c (.sl 1 (List.map cS a_b1.Names)), .c (.sl 5 (List.map NodeT.cells a_b1.Kids))]] (.one (.c (.lit (.bool r))))) ∧ (∀ {a_a1 : List NodeT} {a_b1 : List NodeT} {r : Bool}, G.laws_equalNodes n a_a1 a_b1 = some r → APure Go.Proofs.Tryz.prog 27 [.one (.c (.sl 5 (List.map NodeT.cells a_a1))), .one (.c (.sl 5 (List.map NodeT.cells a_b1)))] (.one (.c (.lit (.bool r))))) := by
  intro n
  induction n using Nat.strongRecOn with | _ n ih =>
  refine ⟨?_, ?_⟩
  intro a_a1 a_b1 r h
  refine fun_pure K.laws_equalNode (ofK ?_)
  unfold C.laws_equalNode
  rcases n with _ | n <;> simp only [G.laws_equalNode, reduceCtorEq] at h
  rotate_left
  intro a_a1 a_b1 r h
  refine fun_pure K.laws_equalNodes (ofK ?_)
  unfold C.laws_equalNodes
  rcases n with _ | n <;> simp only [G.laws_equalNodes, reduceCtorEq] at h
  rotate_left
  all_goals repeat' first
  | (clear h; (with_reducible rintro ⟨n, x_i2⟩ ⟨hn, h⟩); (with_reducible replace h : G.laws_equalNodes.L1 _ _ _ _ = some _ := h); rcases n with _ | n <;> simp only [G.laws_equalNodes.L1, reduceCtorEq] at h <;> simp only at hn)
  | ((with_reducible replace h := kq0 h); obtain ⟨_, _, h⟩ := h)
  | ((with_reducible replace h := kq1 h); obtain ⟨_, _, h⟩ := h)
  | ((with_reducible replace h := kq h); obtain ⟨_, h⟩ := h)
  | ((with_reducible replace h := sq h); subst h; have h := True.intro)
  | (try simp -dsimp only [egR, AOp.opds, AOp.f, AOp.rd, intBin, storeV, lvl, srcOf, reduceIte, Nat.reduceEqDiff, Nat.reduceAdd, Nat.reduceLeDiff, Nat.reduceBEq, reduceCtorEq, Int.reduceBNe, Int.reduceBEq, Int.reduceLT, Int.reduceLE, Int.reduceNeg, Nat.reduceLT, strBin, Int.reduceToNat, renC, *]
     repeat ((with_reducible refine And.intro ?_ ?_); focus first | (show logOK _ _ _ _ = true; kernel_rfl) | (show callOK _ _ = true; kernel_rfl) | omega | assumption | (show _ ≤ maxLen; decide))
     first
     | with_reducible refine callN ?_
     | ((with_reducible refine isLoop ?_); refine loopE (X := Nat × Int) (fun x => x.1 ≤ n ∧ G.laws_equalNodes.L1 x.1 a_a1 a_b1 x.2 = some r) (fun x => ASt.of [(0, .v true (.one (.c (.sl 5 (List.map NodeT.cells a_a1))))), (1, .v true (.one (.c (.sl 5 (List.map NodeT.cells a_b1))))), (5, .v true (.one (.c (.lit (.int .i64 x.2)))))] []) (fun x => x.1) (by simp only [Prod.exists]; exact ⟨_, _, ⟨Nat.le_refl _, h⟩, weak_of [] [] [] (by rfl) (by (simp -dsimp only [wkR, wkB, wkC, reduceIte, Nat.reduceEqDiff, reduceCtorEq] <;> simp [List.take_of_length_le]; done)) (by (simp -dsimp only [wkR, wkB, wkC, reduceIte, Nat.reduceEqDiff, reduceCtorEq] <;> simp [List.take_of_length_le]; done))⟩) ?_)
     | ((with_reducible refine isCall ?_); (with_reducible replace h := bq h); first | (obtain ⟨v1, hv, h⟩ := h; (with_reducible have hc := F.laws_equalTexts hv); refine callL (fun _ => hc) rfl rfl ?_) | (obtain ⟨v2, hv, h⟩ := h; have hc := (ih _ (by omega)).2 hv; refine callL (fun _ => hc) rfl rfl ?_) | (obtain ⟨v3, hv, h⟩ := h; have hc := (ih _ (by omega)).1 hv; refine callL (fun _ => hc) rfl rfl ?_))
     | ((with_reducible replace h := cq h); rcases h with ⟨c, h⟩ | ⟨c, h⟩ <;> try (simp only [*, Bool.false_eq_true, reduceCtorEq] at c; done))
     | ((with_reducible refine isEx ?_); simp only [Prod.exists]; refine ⟨_, _, ⟨⟨?_, h⟩, ?_⟩, weak_of [] [] [] ?_ ?_ ?_⟩; (iterate 2 focus omega); (focus rfl); (iterate 2 focus (simp -dsimp only [wkR, wkB, wkC, reduceIte, Nat.reduceEqDiff, reduceCtorEq] <;> simp [List.take_of_length_le]; done)))
     | ((with_reducible refine isEnd ?_); (simp -dsimp only [peR, reduceIte, Nat.reduceEqDiff, Nat.reduceAdd, Nat.reduceLeDiff, reduceCtorEq] <;> simp [List.take_of_length_le]; done)))
theorem F.laws_equalNode {n : Nat} : ∀ {a_a1 : NodeT} {a_b1 : NodeT} {r : Bool}, G.laws_equalNode n a_a1 a_b1 = some r → APure Go.Proofs.Tryz.prog 10 [.agg [.c (.lit (.int .i64 a_a1.Kind)), .c (.lit (.int .i64 a_a1.Num)), .c (.str a_a1.Text), .c (.sl 1 (List.map cS a_a1.Names)), .c (.sl 5 (List.map NodeT.cells a_a1.Kids))], .agg [.c (.lit (.int .i64 a_b1.Kind)), .c (.lit (.int .i64 a_b1.Num)), .c (.str a_b1.Text), .c (.sl 1 (List.map cS a_b1.Names)), .c (.sl 5 (List.map NodeT.cells a_b1.Kids))]] (.one (.c (.lit (.bool r)))) := (F.scc_laws_equalNode n).1
theorem F.laws_equalNodes {n : Nat} : ∀ {a_a1 : List NodeT} {a_b1 : List NodeT} {r : Bool}, G.laws_equalNodes n a_a1 a_b1 = some r → APure Go.Proofs.Tryz.prog 27 [.one (.c (.sl 5 (List.map NodeT.cells a_a1))), .one (.c (.sl 5 (List.map NodeT.cells a_b1)))] (.one (.c (.lit (.bool r)))) := (F.scc_laws_equalNode n).2
theorem F.spec_copyNode_n : ∀ (n : Nat), ∀ {a_n1 : NodeT} {r : NodeT}, G.spec_copyNode n a_n1 = some r → APure Go.Proofs.Tryz.prog 44 [.agg [.c (.lit (.int .i64 a_n1.Kind)), .c (.lit (.int .i64 a_n1.Num)), .c (.str a_n1.Text), .c (.sl 1 (List.map cS a_n1.Names)), .c (.sl 5 (List.map NodeT.cells a_n1.Kids))]] (.agg [.c (.lit (.int .i64 r.Kind)), .c (.lit (.int .i64 r.Num)), .c (.str r.Text), .c (.sl 1 (List.map cS r.Names)), .c (.sl 5 (List.map NodeT.cells r.Kids))]) := by
  intro n
  induction n using Nat.strongRecOn with | _ n ih =>
  intro a_n1 r h
  refine fun_pure K.spec_copyNode (ofK ?_)
  unfold C.spec_copyNode
  rcases n with _ | n <;> simp only [G.spec_copyNode, reduceCtorEq] at h
  repeat' first
  | (clear h; (with_reducible rintro ⟨n, x_i2, z2⟩ ⟨hn, h⟩); (with_reducible replace h : G.spec_copyNode.L1 _ _ _ _ = some _ := h); rcases n with _ | n <;> simp only [G.spec_copyNode.L1, reduceCtorEq] at h <;> simp only at hn)
  | ((with_reducible replace h := kq0 h); obtain ⟨_, _, h⟩ := h)
  | ((with_reducible replace h := kq1 h); obtain ⟨_, _, h⟩ := h)
  | ((with_reducible replace h := kq h); obtain ⟨_, h⟩ := h)
  | ((with_reducible replace h := sq h); subst h; have h := True.intro)
  | (try simp -dsimp only [egR, AOp.opds, AOp.f, AOp.rd, intBin, storeV, lvl, srcOf, reduceIte, Nat.reduceEqDiff, Nat.reduceAdd, Nat.reduceLeDiff, Nat.reduceBEq, reduceCtorEq, Int.reduceBNe, Int.reduceBEq, Int.reduceLT, Int.reduceLE, Int.reduceNeg, Nat.reduceLT, strBin, Int.reduceToNat, renC, *]
     repeat ((with_reducible refine And.intro ?_ ?_); focus first | (show logOK _ _ _ _ = true; kernel_rfl) | (show callOK _ _ = true; kernel_rfl) | omega | assumption | (show _ ≤ maxLen; decide))
     first
     | with_reducible refine callN ?_
     | ((with_reducible refine isLoop ?_); refine loopE (X := Nat × Int × List NodeT) (fun x => x.1 ≤ n ∧ G.spec_copyNode.L1 x.1 a_n1 x.2.1 x.2.2 = some r) (fun x => ASt.of [(1, .v true (.one (.ptr 107 0))), (2, .v true (.one (.ptr 108 0))), (3, .v true (.one (.own 109 x.2.2.length 5))), (4, .v true (.one (.c (.lit (.int .i64 x.2.1)))))] [(107, .var [.c (.lit (.int .i64 a_n1.Kind)), .c (.lit (.int .i64 a_n1.Num)), .c (.str a_n1.Text), .c (.sl 1 (List.map cS a_n1.Names)), .c (.sl 5 (List.map NodeT.cells a_n1.Kids))]), (108, .var [.c (.lit (.int .i64 0)), .c (.lit (.int .i64 0)), .c (.str []), .nsl 1, .nsl 5]), (109, .dat 5 (List.map NodeT.cells x.2.2))]) (fun x => x.1) (by simp only [Prod.exists]; exact ⟨_, _, _, ⟨Nat.le_refl _, h⟩, weak_of [] [(107, 10), (108, 11), (109, 12)] [] (by rfl) (by (simp -dsimp only [wkR, wkB, wkC, reduceIte, Nat.reduceEqDiff, reduceCtorEq] <;> simp [List.take_of_length_le]; done)) (by (simp -dsimp only [wkR, wkB, wkC, reduceIte, Nat.reduceEqDiff, reduceCtorEq] <;> simp [List.take_of_length_le]; done))⟩) ?_)
     | ((with_reducible refine isCall ?_); (with_reducible replace h := bq h); first | (obtain ⟨v3, hv, h⟩ := h; have hc := ih _ (by omega) hv; refine callP hc rfl rfl ?_))
     | ((with_reducible replace h := cq h); rcases h with ⟨c, h⟩ | ⟨c, h⟩ <;> try (simp only [*, Bool.false_eq_true, reduceCtorEq] at c; done))
     | ((with_reducible refine isEx ?_); simp only [Prod.exists]; refine ⟨_, _, _, ⟨⟨?_, h⟩, ?_⟩, weak_of [] [(107, 107), (108, 108), (109, 14)] [] ?_ ?_ ?_⟩; (iterate 2 focus omega); (focus rfl); (iterate 2 focus (simp -dsimp only [wkR, wkB, wkC, reduceIte, Nat.reduceEqDiff, reduceCtorEq] <;> simp [List.take_of_length_le]; done)))
     | ((with_reducible refine isEnd ?_); (simp -dsimp only [peR, reduceIte, Nat.reduceEqDiff, Nat.reduceAdd, Nat.reduceLeDiff, reduceCtorEq] <;> simp [List.take_of_length_le]; done)))
theorem F.spec_copyNode {n : Nat} : ∀ {a_n1 : NodeT} {r : NodeT}, G.spec_copyNode n a_n1 = some r → APure Go.Proofs.Tryz.prog 44 [.agg [.c (.lit (.int .i64 a_n1.Kind)), .c (.lit (.int .i64 a_n1.Num)), .c (.str a_n1.Text), .c (.sl 1 (List.map cS a_n1.Names)), .c (.sl 5 (List.map NodeT.cells a_n1.Kids))]] (.agg [.c (.lit (.int .i64 r.Kind)), .c (.lit (.int .i64 r.Num)), .c (.str r.Text), .c (.sl 1 (List.map cS r.Names)), .c (.sl 5 (List.map NodeT.cells r.Kids))]) := F.spec_copyNode_n n
theorem F.spec_copyNode_o {n : Nat} : ∀ {a_n1 : NodeT} {r : NodeT}, G.spec_copyNode n a_n1 = some r → ACalls Go.Proofs.Tryz.prog 44 [.agg [.c (.lit (.int .i64 a_n1.Kind)), .c (.lit (.int .i64 a_n1.Num)), .c (.str a_n1.Text), .c (.sl 1 (List.map cS a_n1.Names)), .c (.sl 5 (List.map NodeT.cells a_n1.Kids))]] [] (fun r1 b1 => r1 = .agg [.c (.lit (.int .i64 r.Kind)), .c (.lit (.int .i64 r.Num)), .c (.str r.Text), .own 0 r.Names.length 1, .own 1 r.Kids.length 5] ∧ b1 = [.dat 1 (List.map cS r.Names), .dat 5 (List.map NodeT.cells r.Kids)]) := by
  intro a_n1 r h
  refine fun_sound K.spec_copyNode (ofK ?_)
  unfold C.spec_copyNode
  rcases n with _ | n <;> simp only [G.spec_copyNode, reduceCtorEq] at h
  repeat' first
  | (clear h; (with_reducible rintro ⟨n, x_i2, z2⟩ ⟨hn, h⟩); (with_reducible replace h : G.spec_copyNode.L1 _ _ _ _ = some _ := h); rcases n with _ | n <;> simp only [G.spec_copyNode.L1, reduceCtorEq] at h <;> simp only at hn)
  | ((with_reducible replace h := kq0 h); obtain ⟨_, _, h⟩ := h)
  | ((with_reducible replace h := kq1 h); obtain ⟨_, _, h⟩ := h)
  | ((with_reducible replace h := kq h); obtain ⟨_, h⟩ := h)
  | ((with_reducible replace h := sq h); subst h; have h := True.intro)
  | (try simp -dsimp only [egR, AOp.opds, AOp.f, AOp.rd, intBin, storeV, lvl, srcOf, reduceIte, Nat.reduceEqDiff, Nat.reduceAdd, Nat.reduceLeDiff, Nat.reduceBEq, reduceCtorEq, Int.reduceBNe, Int.reduceBEq, Int.reduceLT, Int.reduceLE, Int.reduceNeg, Nat.reduceLT, strBin, Int.reduceToNat, renC, *]
     repeat ((with_reducible refine And.intro ?_ ?_); focus first | (show logOK _ _ _ _ = true; kernel_rfl) | (show callOK _ _ = true; kernel_rfl) | omega | assumption | (show _ ≤ maxLen; decide))
     first
     | with_reducible refine callN ?_
     | ((with_reducible refine isLoop ?_); refine loopE (X := Nat × Int × List NodeT) (fun x => x.1 ≤ n ∧ G.spec_copyNode.L1 x.1 a_n1 x.2.1 x.2.2 = some r) (fun x => ASt.of [(1, .v true (.one (.ptr 107 0))), (2, .v true (.one (.ptr 108 0))), (3, .v true (.one (.own 109 x.2.2.length 5))), (4, .v true (.one (.c (.lit (.int .i64 x.2.1)))))] [(107, .var [.c (.lit (.int .i64 a_n1.Kind)), .c (.lit (.int .i64 a_n1.Num)), .c (.str a_n1.Text), .c (.sl 1 (List.map cS a_n1.Names)), .c (.sl 5 (List.map NodeT.cells a_n1.Kids))]), (108, .var [.c (.lit (.int .i64 0)), .c (.lit (.int .i64 0)), .c (.str []), .nsl 1, .nsl 5]), (109, .dat 5 (List.map NodeT.cells x.2.2))]) (fun x => x.1) (by simp only [Prod.exists]; exact ⟨_, _, _, ⟨Nat.le_refl _, h⟩, weak_of [] [(107, 10), (108, 11), (109, 12)] [] (by rfl) (by (simp -dsimp only [wkR, wkB, wkC, reduceIte, Nat.reduceEqDiff, reduceCtorEq] <;> simp [List.take_of_length_le]; done)) (by (simp -dsimp only [wkR, wkB, wkC, reduceIte, Nat.reduceEqDiff, reduceCtorEq] <;> simp [List.take_of_length_le]; done))⟩) ?_)
     | ((with_reducible refine isCall ?_); (with_reducible replace h := bq h); first | (obtain ⟨v3, hv, h⟩ := h; (with_reducible have hc := F.spec_copyNode hv); refine callP hc rfl rfl ?_))
     | ((with_reducible replace h := cq h); rcases h with ⟨c, h⟩ | ⟨c, h⟩ <;> try (simp only [*, Bool.false_eq_true, reduceCtorEq] at c; done))
     | ((with_reducible refine isEx ?_); simp only [Prod.exists]; refine ⟨_, _, _, ⟨⟨?_, h⟩, ?_⟩, weak_of [] [(107, 107), (108, 108), (109, 14)] [] ?_ ?_ ?_⟩; (iterate 2 focus omega); (focus rfl); (iterate 2 focus (simp -dsimp only [wkR, wkB, wkC, reduceIte, Nat.reduceEqDiff, reduceCtorEq] <;> simp [List.take_of_length_le]; done)))
     | ((with_reducible refine isRet ?_); (refine ret_of [] [(0, 16), (1, 109)] [] ?_ ?_ ?_ ?_; (focus rfl); (iterate 3 focus (simp -dsimp only [rwR, wkB, wkC, reduceIte, Nat.reduceEqDiff, reduceCtorEq, Nat.reduceAdd, Nat.reduceLeDiff] <;> simp [List.take_of_length_le]; done)))))
theorem F.spec_decimal_n : ∀ (n : Nat), ∀ {a_n1 : Int} {r : Txt}, G.spec_decimal n a_n1 = some r → APure Go.Proofs.Tryz.prog 96 [.one (.c (.lit (.int .i64 a_n1)))] (.one (.c (.str r))) := by
  intro n
  induction n using Nat.strongRecOn with | _ n ih =>
  intro a_n1 r h
  refine fun_pure K.spec_decimal (ofK ?_)
  unfold C.spec_decimal
  rcases n with _ | n <;> simp only [G.spec_decimal, reduceCtorEq] at h
  repeat' first
  | ((with_reducible replace h := kq0 h); obtain ⟨_, _, h⟩ := h)
  | ((with_reducible replace h := kq1 h); obtain ⟨_, _, h⟩ := h)
  | ((with_reducible replace h := kq h); obtain ⟨_, h⟩ := h)
  | ((with_reducible replace h := sq h); subst h; have h := True.intro)
  | (try simp -dsimp only [egR, AOp.opds, AOp.f, AOp.rd, intBin, storeV, lvl, srcOf, reduceIte, Nat.reduceEqDiff, Nat.reduceAdd, Nat.reduceLeDiff, Nat.reduceBEq, reduceCtorEq, Int.reduceBNe, Int.reduceBEq, Int.reduceLT, Int.reduceLE, Int.reduceNeg, Nat.reduceLT, strBin, Int.reduceToNat, renC, *]
     repeat ((with_reducible refine And.intro ?_ ?_); focus first | (show logOK _ _ _ _ = true; kernel_rfl) | (show callOK _ _ = true; kernel_rfl) | omega | assumption | (show _ ≤ maxLen; decide))
     first
     | with_reducible refine callN ?_
     | ((with_reducible refine isCall ?_); (with_reducible replace h := bq h); first | (obtain ⟨v1, hv, h⟩ := h; have hc := ih _ (by omega) hv; refine callL (fun _ => hc) rfl rfl ?_))
     | ((with_reducible replace h := cq h); rcases h with ⟨_, h⟩ | ⟨_, h⟩)
     | ((with_reducible refine isEnd ?_); (simp -dsimp only [peR, reduceIte, Nat.reduceEqDiff, Nat.reduceAdd, Nat.reduceLeDiff, reduceCtorEq] <;> simp [List.take_of_length_le]; done)))
theorem F.spec_decimal {n : Nat} : ∀ {a_n1 : Int} {r : Txt}, G.spec_decimal n a_n1 = some r → APure Go.Proofs.Tryz.prog 96 [.one (.c (.lit (.int .i64 a_n1)))] (.one (.c (.str r))) := F.spec_decimal_n n
theorem F.spec_place {n : Nat} : ∀ {a_n1 : NodeT} {a_step1 : Txt} {r : Int}, G.spec_place n a_n1 a_step1 = some r → APure Go.Proofs.Tryz.prog 84 [.agg [.c (.lit (.int .i64 a_n1.Kind)), .c (.lit (.int .i64 a_n1.Num)), .c (.str a_n1.Text), .c (.sl 1 (List.map cS a_n1.Names)), .c (.sl 5 (List.map NodeT.cells a_n1.Kids))], .one (.c (.str a_step1))] (.one (.c (.lit (.int .i64 r)))) := by
  intro a_n1 a_step1 r h
  refine fun_pure K.spec_place (ofK ?_)
  unfold C.spec_place
  rcases n with _ | n <;> simp only [G.spec_place, reduceCtorEq] at h
  repeat' first
  | (clear h; (with_reducible rintro ⟨n, x_i2⟩ ⟨hn, h⟩); (with_reducible replace h : G.spec_place.L1 _ _ _ _ = some _ := h); rcases n with _ | n <;> simp only [G.spec_place.L1, reduceCtorEq] at h <;> simp only at hn)
  | ((with_reducible replace h := kq0 h); obtain ⟨_, _, h⟩ := h)
  | ((with_reducible replace h := kq1 h); obtain ⟨_, _, h⟩ := h)
  | ((with_reducible replace h := kq h); obtain ⟨_, h⟩ := h)
  | ((with_reducible replace h := sq h); subst h; have h := True.intro)
  | (try simp -dsimp only [egR, AOp.opds, AOp.f, AOp.rd, intBin, storeV, lvl, srcOf, reduceIte, Nat.reduceEqDiff, Nat.reduceAdd, Nat.reduceLeDiff, Nat.reduceBEq, reduceCtorEq, Int.reduceBNe, Int.reduceBEq, Int.reduceLT, Int.reduceLE, Int.reduceNeg, Nat.reduceLT, strBin, Int.reduceToNat, renC, *]
     repeat ((with_reducible refine And.intro ?_ ?_); focus first | (show logOK _ _ _ _ = true; kernel_rfl) | (show callOK _ _ = true; kernel_rfl) | omega | assumption | (show _ ≤ maxLen; decide))
     first
     | with_reducible refine callN ?_
     | ((with_reducible refine isLoop ?_); refine loopE (X := Nat × Int) (fun x => x.1 ≤ n ∧ G.spec_place.L1 x.1 a_n1 a_step1 x.2 = some r) (fun x => ASt.of [(1, .v true (.one (.c (.str a_step1)))), (2, .v true (.one (.ptr 103 0))), (5, .v true (.one (.c (.lit (.int .i64 x.2)))))] [(103, .var [.c (.lit (.int .i64 a_n1.Kind)), .c (.lit (.int .i64 a_n1.Num)), .c (.str a_n1.Text), .c (.sl 1 (List.map cS a_n1.Names)), .c (.sl 5 (List.map NodeT.cells a_n1.Kids))])]) (fun x => x.1) (by simp only [Prod.exists]; exact ⟨_, _, ⟨Nat.le_refl _, h⟩, weak_of [] [(103, 10)] [] (by rfl) (by (simp -dsimp only [wkR, wkB, wkC, reduceIte, Nat.reduceEqDiff, reduceCtorEq] <;> simp [List.take_of_length_le]; done)) (by (simp -dsimp only [wkR, wkB, wkC, reduceIte, Nat.reduceEqDiff, reduceCtorEq] <;> simp [List.take_of_length_le]; done))⟩) ?_)
     | ((with_reducible refine isCall ?_); (with_reducible replace h := bq h); first | (obtain ⟨v5, hv, h⟩ := h; (with_reducible have hc := F.spec_decimal hv); refine callL (fun _ => hc) rfl rfl ?_))
     | ((with_reducible replace h := cq h); rcases h with ⟨c, h⟩ | ⟨c, h⟩ <;> try (simp only [*, Bool.false_eq_true, reduceCtorEq] at c; done))
     | ((with_reducible refine isEx ?_); simp only [Prod.exists]; refine ⟨_, _, ⟨⟨?_, h⟩, ?_⟩, weak_of [] [(103, 103)] [] ?_ ?_ ?_⟩; (iterate 2 focus omega); (focus rfl); (iterate 2 focus (simp -dsimp only [wkR, wkB, wkC, reduceIte, Nat.reduceEqDiff, reduceCtorEq] <;> simp [List.take_of_length_le]; done)))
     | ((with_reducible refine isEnd ?_); (simp -dsimp only [peR, reduceIte, Nat.reduceEqDiff, Nat.reduceAdd, Nat.reduceLeDiff, reduceCtorEq] <;> simp [List.take_of_length_le]; done)))
theorem F.spec_slot {n : Nat} : ∀ {a_n1 : NodeT} {a_step1 : Txt} {r : Int × Bool}, G.spec_slot n a_n1 a_step1 = some r → APure Go.Proofs.Tryz.prog 97 [.agg [.c (.lit (.int .i64 a_n1.Kind)), .c (.lit (.int .i64 a_n1.Num)), .c (.str a_n1.Text), .c (.sl 1 (List.map cS a_n1.Names)), .c (.sl 5 (List.map NodeT.cells a_n1.Kids))], .one (.c (.str a_step1))] (.tup [(false, [.c (.lit (.int .i64 r.1))]), (false, [.c (.lit (.bool r.2))])]) := by
  intro a_n1 a_step1 r h
  refine fun_pure K.spec_slot (ofK ?_)
  unfold C.spec_slot
  rcases n with _ | n <;> simp only [G.spec_slot, reduceCtorEq] at h
  have := Mk.mk 1; have := Mk.mk 2
  repeat' first
  | (clear h; (with_reducible rintro ⟨n, x_i2⟩ ⟨hn, h⟩); (with_reducible replace h : G.spec_slot.L1 _ _ _ _ = some _ := h); rcases n with _ | n <;> simp only [G.spec_slot.L1, reduceCtorEq] at h <;> simp only at hn)
  | (clear h; (with_reducible rintro ⟨n, x_i4⟩ ⟨hn, h⟩); (with_reducible replace h : G.spec_slot.L2 _ _ _ _ = some _ := h); rcases n with _ | n <;> simp only [G.spec_slot.L2, reduceCtorEq] at h <;> simp only at hn)
  | ((with_reducible replace h := kq0 h); obtain ⟨_, _, h⟩ := h)
  | ((with_reducible replace h := kq1 h); obtain ⟨_, _, h⟩ := h)
  | ((with_reducible replace h := kq h); obtain ⟨_, h⟩ := h)
  | ((with_reducible replace h := sq h); subst h; have h := True.intro)
  | (try simp -dsimp only [egR, AOp.opds, AOp.f, AOp.rd, intBin, storeV, lvl, srcOf, reduceIte, Nat.reduceEqDiff, Nat.reduceAdd, Nat.reduceLeDiff, Nat.reduceBEq, reduceCtorEq, Int.reduceBNe, Int.reduceBEq, Int.reduceLT, Int.reduceLE, Int.reduceNeg, Nat.reduceLT, strBin, Int.reduceToNat, renC, *]
     repeat ((with_reducible refine And.intro ?_ ?_); focus first | (show logOK _ _ _ _ = true; kernel_rfl) | (show callOK _ _ = true; kernel_rfl) | omega | assumption | (show _ ≤ maxLen; decide))
     first
     | with_reducible refine callN ?_
     | ((with_reducible refine isLoop ?_); rename Mk 1 => tk; clear tk; have : True := (by rewrite [show @G.spec_slot.L1 = _ from rfl] at h; exact True.intro); refine loopE (X := Nat × Int) (fun x => x.1 ≤ n ∧ G.spec_slot.L1 x.1 a_n1 a_step1 x.2 = some r) (fun x => ASt.of [(1, .v true (.one (.c (.str a_step1)))), (2, .v true (.one (.ptr 103 0))), (7, .v true (.one (.c (.lit (.int .i64 x.2)))))] [(103, .var [.c (.lit (.int .i64 a_n1.Kind)), .c (.lit (.int .i64 a_n1.Num)), .c (.str a_n1.Text), .c (.sl 1 (List.map cS a_n1.Names)), .c (.sl 5 (List.map NodeT.cells a_n1.Kids))])]) (fun x => x.1) (by simp only [Prod.exists]; exact ⟨_, _, ⟨Nat.le_refl _, h⟩, weak_of [] [(103, 10)] [] (by rfl) (by (simp -dsimp only [wkR, wkB, wkC, reduceIte, Nat.reduceEqDiff, reduceCtorEq] <;> simp [List.take_of_length_le]; done)) (by (simp -dsimp only [wkR, wkB, wkC, reduceIte, Nat.reduceEqDiff, reduceCtorEq] <;> simp [List.take_of_length_le]; done))⟩) ?_)
     | ((with_reducible refine isLoop ?_); rename Mk 2 => tk; clear tk; have : True := (by rewrite [show @G.spec_slot.L2 = _ from rfl] at h; exact True.intro); refine loopE (X := Nat × Int) (fun x => x.1 ≤ n ∧ G.spec_slot.L2 x.1 a_n1 a_step1 x.2 = some r) (fun x => ASt.of [(1, .v true (.one (.c (.str a_step1)))), (2, .v true (.one (.ptr 106 0))), (7, .v true (.one (.c (.lit (.int .i64 x.2)))))] [(106, .var [.c (.lit (.int .i64 a_n1.Kind)), .c (.lit (.int .i64 a_n1.Num)), .c (.str a_n1.Text), .c (.sl 1 (List.map cS a_n1.Names)), .c (.sl 5 (List.map NodeT.cells a_n1.Kids))])]) (fun x => x.1) (by simp only [Prod.exists]; exact ⟨_, _, ⟨Nat.le_refl _, h⟩, weak_of [] [(106, 10)] [] (by rfl) (by (simp -dsimp only [wkR, wkB, wkC, reduceIte, Nat.reduceEqDiff, reduceCtorEq] <;> simp [List.take_of_length_le]; done)) (by (simp -dsimp only [wkR, wkB, wkC, reduceIte, Nat.reduceEqDiff, reduceCtorEq] <;> simp [List.take_of_length_le]; done))⟩) ?_)
     | ((with_reducible refine isCall ?_); (with_reducible replace h := bq h); first | (obtain ⟨v1, hv, h⟩ := h; (with_reducible have hc := F.spec_place hv); refine callL (fun _ => hc) rfl rfl ?_) | (obtain ⟨v2, hv, h⟩ := h; (with_reducible have hc := F.spec_decimal hv); refine callL (fun _ => hc) rfl rfl ?_))
     | ((with_reducible replace h := cq h); rcases h with ⟨c, h⟩ | ⟨c, h⟩ <;> try (simp only [*, Bool.false_eq_true, reduceCtorEq] at c; done))
     | ((with_reducible refine isEx ?_); simp only [Prod.exists]; refine ⟨_, _, ⟨⟨?_, h⟩, ?_⟩, weak_of [] [(103, 103)] [] ?_ ?_ ?_⟩; (iterate 2 focus omega); (focus rfl); (iterate 2 focus (simp -dsimp only [wkR, wkB, wkC, reduceIte, Nat.reduceEqDiff, reduceCtorEq] <;> simp [List.take_of_length_le]; done)))
     | ((with_reducible refine isEx ?_); simp only [Prod.exists]; refine ⟨_, _, ⟨⟨?_, h⟩, ?_⟩, weak_of [] [(106, 106)] [] ?_ ?_ ?_⟩; (iterate 2 focus omega); (focus rfl); (iterate 2 focus (simp -dsimp only [wkR, wkB, wkC, reduceIte, Nat.reduceEqDiff, reduceCtorEq] <;> simp [List.take_of_length_le]; done)))
     | ((with_reducible refine isEnd ?_); (simp -dsimp only [peR, reduceIte, Nat.reduceEqDiff, Nat.reduceAdd, Nat.reduceLeDiff, reduceCtorEq] <;> simp [List.take_of_length_le]; done)))
theorem F.spec_withKid {n : Nat} : ∀ {a_n1 : NodeT} {a_k1 : Int} {a_kid1 : NodeT} {r : NodeT}, G.spec_withKid n a_n1 a_k1 a_kid1 = some r → APure Go.Proofs.Tryz.prog 89 [.agg [.c (.lit (.int .i64 a_n1.Kind)), .c (.lit (.int .i64 a_n1.Num)), .c (.str a_n1.Text), .c (.sl 1 (List.map cS a_n1.Names)), .c (.sl 5 (List.map NodeT.cells a_n1.Kids))], .one (.c (.lit (.int .i64 a_k1))), .agg [.c (.lit (.int .i64 a_kid1.Kind)), .c (.lit (.int .i64 a_kid1.Num)), .c (.str a_kid1.Text), .c (.sl 1 (List.map cS a_kid1.Names)), .c (.sl 5 (List.map NodeT.cells a_kid1.Kids))]] (.agg [.c (.lit (.int .i64 r.Kind)), .c (.lit (.int .i64 r.Num)), .c (.str r.Text), .c (.sl 1 (List.map cS r.Names)), .c (.sl 5 (List.map NodeT.cells r.Kids))]) := by
  intro a_n1 a_k1 a_kid1 r h
  refine fun_pure K.spec_withKid (ofK ?_)
  unfold C.spec_withKid
  rcases n with _ | n <;> simp only [G.spec_withKid, reduceCtorEq] at h
  repeat' first
  | ((with_reducible replace h := kq0 h); obtain ⟨_, _, h⟩ := h)
  | ((with_reducible replace h := kq1 h); obtain ⟨_, _, h⟩ := h)
  | ((with_reducible replace h := kq h); obtain ⟨_, h⟩ := h)
  | ((with_reducible replace h := sq h); subst h; have h := True.intro)
  | (try simp -dsimp only [egR, AOp.opds, AOp.f, AOp.rd, intBin, storeV, lvl, srcOf, reduceIte, Nat.reduceEqDiff, Nat.reduceAdd, Nat.reduceLeDiff, Nat.reduceBEq, reduceCtorEq, Int.reduceBNe, Int.reduceBEq, Int.reduceLT, Int.reduceLE, Int.reduceNeg, Nat.reduceLT, strBin, Int.reduceToNat, renC, *]
     repeat ((with_reducible refine And.intro ?_ ?_); focus first | (show logOK _ _ _ _ = true; kernel_rfl) | (show callOK _ _ = true; kernel_rfl) | omega | assumption | (show _ ≤ maxLen; decide))
     first
     | with_reducible refine callN ?_
     | ((with_reducible refine isCall ?_); (with_reducible replace h := bq h); first | (obtain ⟨v1, hv, h⟩ := h; (with_reducible have hc := F.spec_copyNode_o hv); first | (refine callG [] [101, 102] hc rfl rfl ?_ ?_ rfl rfl ?_ rfl ?_; (iterate 2 focus (simp only [ggR, renC, reduceIte, Nat.reduceEqDiff, Nat.reduceLeDiff, Nat.reduceAdd] <;> fail)); (focus first | rfl | (simp only [ggR, renC, reduceIte, Nat.reduceEqDiff, Nat.reduceLeDiff, Nat.reduceAdd] <;> fail))) | (refine callG [] [103, 104] hc rfl rfl ?_ ?_ rfl rfl ?_ rfl ?_; (iterate 2 focus (simp only [ggR, renC, reduceIte, Nat.reduceEqDiff, Nat.reduceLeDiff, Nat.reduceAdd] <;> fail)); (focus first | rfl | (simp only [ggR, renC, reduceIte, Nat.reduceEqDiff, Nat.reduceLeDiff, Nat.reduceAdd] <;> fail)))))
     | ((with_reducible replace h := cq h); rcases h with ⟨_, h⟩ | ⟨_, h⟩)
     | ((with_reducible refine isEnd ?_); (simp -dsimp only [peR, reduceIte, Nat.reduceEqDiff, Nat.reduceAdd, Nat.reduceLeDiff, reduceCtorEq] <;> simp [List.take_of_length_le]; done)))
theorem F.spec_withKid_o {n : Nat} : ∀ {a_n1 : NodeT} {a_k1 : Int} {a_kid1 : NodeT} {r : NodeT}, G.spec_withKid n a_n1 a_k1 a_kid1 = some r → ACalls Go.Proofs.Tryz.prog 89 [.agg [.c (.lit (.int .i64 a_n1.Kind)), .c (.lit (.int .i64 a_n1.Num)), .c (.str a_n1.Text), .c (.sl 1 (List.map cS a_n1.Names)), .c (.sl 5 (List.map NodeT.cells a_n1.Kids))], .one (.c (.lit (.int .i64 a_k1))), .agg [.c (.lit (.int .i64 a_kid1.Kind)), .c (.lit (.int .i64 a_kid1.Num)), .c (.str a_kid1.Text), .c (.sl 1 (List.map cS a_kid1.Names)), .c (.sl 5 (List.map NodeT.cells a_kid1.Kids))]] [] (fun r1 b1 => r1 = .agg [.c (.lit (.int .i64 r.Kind)), .c (.lit (.int .i64 r.Num)), .c (.str r.Text), .own 0 r.Names.length 1, .own 1 r.Kids.length 5] ∧ b1 = [.dat 1 (List.map cS r.Names), .dat 5 (List.map NodeT.cells r.Kids)]) := by
  intro a_n1 a_k1 a_kid1 r h
  refine fun_sound K.spec_withKid (ofK ?_)
  unfold C.spec_withKid
  rcases n with _ | n <;> simp only [G.spec_withKid, reduceCtorEq] at h
  repeat' first
  | ((with_reducible replace h := kq0 h); obtain ⟨_, _, h⟩ := h)
  | ((with_reducible replace h := kq1 h); obtain ⟨_, _, h⟩ := h)
  | ((with_reducible replace h := kq h); obtain ⟨_, h⟩ := h)
  | ((with_reducible replace h := sq h); subst h; have h := True.intro)
  | (try simp -dsimp only [egR, AOp.opds, AOp.f, AOp.rd, intBin, storeV, lvl, srcOf, reduceIte, Nat.reduceEqDiff, Nat.reduceAdd, Nat.reduceLeDiff, Nat.reduceBEq, reduceCtorEq, Int.reduceBNe, Int.reduceBEq, Int.reduceLT, Int.reduceLE, Int.reduceNeg, Nat.reduceLT, strBin, Int.reduceToNat, renC, *]
     repeat ((with_reducible refine And.intro ?_ ?_); focus first | (show logOK _ _ _ _ = true; kernel_rfl) | (show callOK _ _ = true; kernel_rfl) | omega | assumption | (show _ ≤ maxLen; decide))
     first
     | with_reducible refine callN ?_
     | ((with_reducible refine isCall ?_); (with_reducible replace h := bq h); first | (obtain ⟨v1, hv, h⟩ := h; (with_reducible have hc := F.spec_copyNode_o hv); first | (refine callG [] [101, 102] hc rfl rfl ?_ ?_ rfl rfl ?_ rfl ?_; (iterate 2 focus (simp only [ggR, renC, reduceIte, Nat.reduceEqDiff, Nat.reduceLeDiff, Nat.reduceAdd] <;> fail)); (focus first | rfl | (simp only [ggR, renC, reduceIte, Nat.reduceEqDiff, Nat.reduceLeDiff, Nat.reduceAdd] <;> fail))) | (refine callG [] [103, 104] hc rfl rfl ?_ ?_ rfl rfl ?_ rfl ?_; (iterate 2 focus (simp only [ggR, renC, reduceIte, Nat.reduceEqDiff, Nat.reduceLeDiff, Nat.reduceAdd] <;> fail)); (focus first | rfl | (simp only [ggR, renC, reduceIte, Nat.reduceEqDiff, Nat.reduceLeDiff, Nat.reduceAdd] <;> fail)))))
     | ((with_reducible replace h := cq h); rcases h with ⟨_, h⟩ | ⟨_, h⟩)
     | ((with_reducible refine isRet ?_); (refine ret_of [] [(0, 101), (1, 102)] [] ?_ ?_ ?_ ?_; (focus rfl); (iterate 3 focus (simp -dsimp only [rwR, wkB, wkC, reduceIte, Nat.reduceEqDiff, reduceCtorEq, Nat.reduceAdd, Nat.reduceLeDiff] <;> simp [List.take_of_length_le]; done)))))
theorem F.spec_addHere {n : Nat} : ∀ {a_n1 : NodeT} {a_step1 : Txt} {a_value1 : NodeT} {r : NodeT × Bool}, G.spec_addHere n a_n1 a_step1 a_value1 = some r → APure Go.Proofs.Tryz.prog 85 [.agg [.c (.lit (.int .i64 a_n1.Kind)), .c (.lit (.int .i64 a_n1.Num)), .c (.str a_n1.Text), .c (.sl 1 (List.map cS a_n1.Names)), .c (.sl 5 (List.map NodeT.cells a_n1.Kids))], .one (.c (.str a_step1)), .agg [.c (.lit (.int .i64 a_value1.Kind)), .c (.lit (.int .i64 a_value1.Num)), .c (.str a_value1.Text), .c (.sl 1 (List.map cS a_value1.Names)), .c (.sl 5 (List.map NodeT.cells a_value1.Kids))]] (.tup [(true, [.c (.lit (.int .i64 r.1.Kind)), .c (.lit (.int .i64 r.1.Num)), .c (.str r.1.Text), .c (.sl 1 (List.map cS r.1.Names)), .c (.sl 5 (List.map NodeT.cells r.1.Kids))]), (false, [.c (.lit (.bool r.2))])]) := by
  intro a_n1 a_step1 a_value1 r h
  refine fun_pure K.spec_addHere (ofK ?_)
  unfold C.spec_addHere
  rcases n with _ | n <;> simp only [G.spec_addHere, reduceCtorEq] at h
  repeat' first
  | ((with_reducible replace h := kq0 h); obtain ⟨_, _, h⟩ := h)
  | ((with_reducible replace h := kq1 h); obtain ⟨_, _, h⟩ := h)
  | ((with_reducible replace h := kq h); obtain ⟨_, h⟩ := h)
  | ((with_reducible replace h := sq h); subst h; have h := True.intro)
  | (try simp -dsimp only [egR, AOp.opds, AOp.f, AOp.rd, intBin, storeV, lvl, srcOf, reduceIte, Nat.reduceEqDiff, Nat.reduceAdd, Nat.reduceLeDiff, Nat.reduceBEq, reduceCtorEq, Int.reduceBNe, Int.reduceBEq, Int.reduceLT, Int.reduceLE, Int.reduceNeg, Nat.reduceLT, strBin, Int.reduceToNat, renC, *]
     repeat ((with_reducible refine And.intro ?_ ?_); focus first | (show logOK _ _ _ _ = true; kernel_rfl) | (show callOK _ _ = true; kernel_rfl) | omega | assumption | (show _ ≤ maxLen; decide))
     first
     | with_reducible refine callN ?_
     | ((with_reducible refine isCall ?_); (with_reducible replace h := bq h); first | (obtain ⟨v1, hv, h⟩ := h; (with_reducible have hc := F.spec_slot hv); refine callL (fun _ => hc) rfl rfl ?_) | (obtain ⟨v2, hv, h⟩ := h; (with_reducible have hc := F.spec_withKid hv); refine callP hc rfl rfl ?_) | (obtain ⟨v3, hv, h⟩ := h; (with_reducible have hc := F.spec_copyNode hv); refine callP hc rfl rfl ?_))
     | ((with_reducible replace h := cq h); rcases h with ⟨_, h⟩ | ⟨_, h⟩)
     | ((with_reducible refine isEnd ?_); (simp -dsimp only [peR, reduceIte, Nat.reduceEqDiff, Nat.reduceAdd, Nat.reduceLeDiff, reduceCtorEq] <;> first | (simp [List.take_of_length_le]; done) | ((try simp only [List.map_take, List.map_drop, List.map_append, List.map_cons, List.map_nil]) <;> (repeat' apply And.intro) <;> first | rfl | (simp; done) | (simp <;> omega; done) | (congr 1; exact (List.take_of_length_le (by simp <;> omega)).symm)))))
theorem F.spec_addHere_o {n : Nat} : ∀ {a_n1 : NodeT} {a_step1 : Txt} {a_value1 : NodeT} {r : NodeT × Bool}, G.spec_addHere n a_n1 a_step1 a_value1 = some r → ACalls Go.Proofs.Tryz.prog 85 [.agg [.c (.lit (.int .i64 a_n1.Kind)), .c (.lit (.int .i64 a_n1.Num)), .c (.str a_n1.Text), .c (.sl 1 (List.map cS a_n1.Names)), .c (.sl 5 (List.map NodeT.cells a_n1.Kids))], .one (.c (.str a_step1)), .agg [.c (.lit (.int .i64 a_value1.Kind)), .c (.lit (.int .i64 a_value1.Num)), .c (.str a_value1.Text), .c (.sl 1 (List.map cS a_value1.Names)), .c (.sl 5 (List.map NodeT.cells a_value1.Kids))]] [] (fun r1 b1 => r1 = .tup [(true, [.c (.lit (.int .i64 r.1.Kind)), .c (.lit (.int .i64 r.1.Num)), .c (.str r.1.Text), .own 0 r.1.Names.length 1, .own 1 r.1.Kids.length 5]), (false, [.c (.lit (.bool r.2))])] ∧ b1 = [.dat 1 (List.map cS r.1.Names), .dat 5 (List.map NodeT.cells r.1.Kids)]) := by
  intro a_n1 a_step1 a_value1 r h
  refine fun_sound K.spec_addHere (ofK ?_)
  unfold C.spec_addHere
  rcases n with _ | n <;> simp only [G.spec_addHere, reduceCtorEq] at h
  repeat' first
  | ((with_reducible replace h := kq0 h); obtain ⟨_, _, h⟩ := h)
  | ((with_reducible replace h := kq1 h); obtain ⟨_, _, h⟩ := h)
  | ((with_reducible replace h := kq h); obtain ⟨_, h⟩ := h)
  | ((with_reducible replace h := sq h); subst h; have h := True.intro)
  | (try simp -dsimp only [egR, AOp.opds, AOp.f, AOp.rd, intBin, storeV, lvl, srcOf, reduceIte, Nat.reduceEqDiff, Nat.reduceAdd, Nat.reduceLeDiff, Nat.reduceBEq, reduceCtorEq, Int.reduceBNe, Int.reduceBEq, Int.reduceLT, Int.reduceLE, Int.reduceNeg, Nat.reduceLT, strBin, Int.reduceToNat, renC, *]
     repeat ((with_reducible refine And.intro ?_ ?_); focus first | (show logOK _ _ _ _ = true; kernel_rfl) | (show callOK _ _ = true; kernel_rfl) | omega | assumption | (show _ ≤ maxLen; decide))
     first
     | with_reducible refine callN ?_
     | ((with_reducible refine isCall ?_); (with_reducible replace h := bq h); first | (obtain ⟨v1, hv, h⟩ := h; (with_reducible have hc := F.spec_slot hv); refine callL (fun _ => hc) rfl rfl ?_) | (obtain ⟨v2, hv, h⟩ := h; (with_reducible have hc := F.spec_withKid_o hv); (refine callG [] [101, 102] hc rfl rfl ?_ ?_ rfl rfl ?_ rfl ?_; (iterate 2 focus (simp only [ggR, renC, reduceIte, Nat.reduceEqDiff, Nat.reduceLeDiff, Nat.reduceAdd] <;> fail)); (focus first | rfl | (simp only [ggR, renC, reduceIte, Nat.reduceEqDiff, Nat.reduceLeDiff, Nat.reduceAdd] <;> fail)))) | (obtain ⟨v3, hv, h⟩ := h; (with_reducible have hc := F.spec_copyNode hv); refine callP hc rfl rfl ?_))
     | ((with_reducible replace h := cq h); rcases h with ⟨_, h⟩ | ⟨_, h⟩)
     | ((with_reducible refine isRet ?_); first | (refine ret_of [] [] [0, 1] ?_ ?_ ?_ ?_; (focus rfl); (iterate 3 focus (simp -dsimp only [rwR, wkB, wkC, reduceIte, Nat.reduceEqDiff, reduceCtorEq, Nat.reduceAdd, Nat.reduceLeDiff] <;> first | (simp [List.take_of_length_le]; done) | ((try simp only [List.map_take, List.map_drop, List.map_append, List.map_cons, List.map_nil]) <;> (repeat' apply And.intro) <;> first | rfl | (simp; done) | (simp <;> omega; done) | (congr 1; exact (List.take_of_length_le (by simp <;> omega)).symm))))) | (refine ret_of [] [(0, 101), (1, 102)] [] ?_ ?_ ?_ ?_; (focus rfl); (iterate 3 focus (simp -dsimp only [rwR, wkB, wkC, reduceIte, Nat.reduceEqDiff, reduceCtorEq, Nat.reduceAdd, Nat.reduceLeDiff] <;> first | (simp [List.take_of_length_le]; done) | ((try simp only [List.map_take, List.map_drop, List.map_append, List.map_cons, List.map_nil]) <;> (repeat' apply And.intro) <;> first | rfl | (simp; done) | (simp <;> omega; done) | (congr 1; exact (List.take_of_length_le (by simp <;> omega)).symm))))) | (refine ret_of [] [(0, 19), (1, 18)] [] ?_ ?_ ?_ ?_; (focus rfl); (iterate 3 focus (simp -dsimp only [rwR, wkB, wkC, reduceIte, Nat.reduceEqDiff, reduceCtorEq, Nat.reduceAdd, Nat.reduceLeDiff] <;> first | (simp [List.take_of_length_le]; done) | ((try simp only [List.map_take, List.map_drop, List.map_append, List.map_cons, List.map_nil]) <;> (repeat' apply And.intro) <;> first | rfl | (simp; done) | (simp <;> omega; done) | (congr 1; exact (List.take_of_length_le (by simp <;> omega)).symm))))) | (refine ret_of [] [(0, 24), (1, 18)] [] ?_ ?_ ?_ ?_; (focus rfl); (iterate 3 focus (simp -dsimp only [rwR, wkB, wkC, reduceIte, Nat.reduceEqDiff, reduceCtorEq, Nat.reduceAdd, Nat.reduceLeDiff] <;> first | (simp [List.take_of_length_le]; done) | ((try simp only [List.map_take, List.map_drop, List.map_append, List.map_cons, List.map_nil]) <;> (repeat' apply And.intro) <;> first | rfl | (simp; done) | (simp <;> omega; done) | (congr 1; exact (List.take_of_length_le (by simp <;> omega)).symm)))))))
theorem F.spec_at {n : Nat} : ∀ {a_n1 : NodeT} {a_path1 : List Txt} {r : NodeT × Bool}, G.spec_at n a_n1 a_path1 = some r → APure Go.Proofs.Tryz.prog 64 [.agg [.c (.lit (.int .i64 a_n1.Kind)), .c (.lit (.int .i64 a_n1.Num)), .c (.str a_n1.Text), .c (.sl 1 (List.map cS a_n1.Names)), .c (.sl 5 (List.map NodeT.cells a_n1.Kids))], .one (.c (.sl 1 (List.map cS a_path1)))] (.tup [(true, [.c (.lit (.int .i64 r.1.Kind)), .c (.lit (.int .i64 r.1.Num)), .c (.str r.1.Text), .c (.sl 1 (List.map cS r.1.Names)), .c (.sl 5 (List.map NodeT.cells r.1.Kids))]), (false, [.c (.lit (.bool r.2))])]) := by
  intro a_n1 a_path1 r h
  refine fun_pure K.spec_at (ofK ?_)
  unfold C.spec_at
  rcases n with _ | n <;> simp only [G.spec_at, reduceCtorEq] at h
  repeat' first
  | (clear h; (with_reducible rintro ⟨n, x_i2, y6, y7, y8, y9, y10⟩ ⟨hn, h⟩); (with_reducible replace h : G.spec_at.L1 _ _ _ _ _ _ _ _ = some _ := h); rcases n with _ | n <;> simp only [G.spec_at.L1, reduceCtorEq] at h <;> simp only at hn)
  | ((with_reducible replace h := kq0 h); obtain ⟨_, _, h⟩ := h)
  | ((with_reducible replace h := kq1 h); obtain ⟨_, _, h⟩ := h)
  | ((with_reducible replace h := kq h); obtain ⟨_, h⟩ := h)
  | ((with_reducible replace h := sq h); subst h; have h := True.intro)
  | (try simp -dsimp only [egR, AOp.opds, AOp.f, AOp.rd, intBin, storeV, lvl, srcOf, reduceIte, Nat.reduceEqDiff, Nat.reduceAdd, Nat.reduceLeDiff, Nat.reduceBEq, reduceCtorEq, Int.reduceBNe, Int.reduceBEq, Int.reduceLT, Int.reduceLE, Int.reduceNeg, Nat.reduceLT, strBin, Int.reduceToNat, renC, *]
     repeat ((with_reducible refine And.intro ?_ ?_); focus first | (show logOK _ _ _ _ = true; kernel_rfl) | (show callOK _ _ = true; kernel_rfl) | omega | assumption | (show _ ≤ maxLen; decide))
     first
     | with_reducible refine callN ?_
     | ((with_reducible refine isLoop ?_); refine loopE (X := Nat × Int × Int × Int × Txt × List Txt × List NodeT) (fun x => x.1 ≤ n ∧ G.spec_at.L1 x.1 a_path1 x.2.1 x.2.2.1 x.2.2.2.1 x.2.2.2.2.1 x.2.2.2.2.2.1 x.2.2.2.2.2.2 = some r) (fun x => ASt.of [(1, .v true (.one (.c (.sl 1 (List.map cS a_path1))))), (2, .v true (.one (.ptr 105 0))), (4, .v true (.one (.ptr 106 0))), (6, .v true (.one (.c (.lit (.int .i64 x.2.1)))))] [(105, .var [.c (.lit (.int .i64 x.2.2.1)), .c (.lit (.int .i64 x.2.2.2.1)), .c (.str x.2.2.2.2.1), .c (.sl 1 (List.map cS x.2.2.2.2.2.1)), .c (.sl 5 (List.map NodeT.cells x.2.2.2.2.2.2))]), (106, .var [.c (.lit (.int .i64 0)), .c (.lit (.int .i64 0)), .c (.str []), .nsl 1, .nsl 5])]) (fun x => x.1) (by simp only [Prod.exists]; exact ⟨_, _, _, _, _, _, _, ⟨Nat.le_refl _, h⟩, weak_of [] [(105, 10), (106, 11)] [] (by rfl) (by (simp -dsimp only [wkR, wkB, wkC, reduceIte, Nat.reduceEqDiff, reduceCtorEq] <;> simp [List.take_of_length_le]; done)) (by (simp -dsimp only [wkR, wkB, wkC, reduceIte, Nat.reduceEqDiff, reduceCtorEq] <;> simp [List.take_of_length_le]; done))⟩) ?_)
     | ((with_reducible refine isCall ?_); (with_reducible replace h := bq h); first | (obtain ⟨v3, hv, h⟩ := h; (with_reducible have hc := F.spec_place hv); refine callL (fun _ => hc) rfl rfl ?_) | (obtain ⟨v4, hv, h⟩ := h; (with_reducible have hc := F.spec_copyNode hv); refine callP hc rfl rfl ?_))
     | ((with_reducible replace h := cq h); rcases h with ⟨c, h⟩ | ⟨c, h⟩ <;> try (simp only [*, Bool.false_eq_true, reduceCtorEq] at c; done))
     | ((with_reducible refine isEx ?_); simp only [Prod.exists]; refine ⟨_, _, _, _, _, _, _, ⟨⟨?_, h⟩, ?_⟩, weak_of [] [(105, 105), (106, 106)] [] ?_ ?_ ?_⟩; (iterate 2 focus omega); (focus rfl); (iterate 2 focus (simp -dsimp only [wkR, wkB, wkC, reduceIte, Nat.reduceEqDiff, reduceCtorEq] <;> simp [List.take_of_length_le]; done)))
     | ((with_reducible refine isEnd ?_); (simp -dsimp only [peR, reduceIte, Nat.reduceEqDiff, Nat.reduceAdd, Nat.reduceLeDiff, reduceCtorEq] <;> simp [List.take_of_length_le]; done)))
theorem F.spec_setAt_n : ∀ (n : Nat), ∀ {a_n1 : NodeT} {a_path1 : List Txt} {a_value1 : NodeT} {r : NodeT × Bool}, G.spec_setAt n a_n1 a_path1 a_value1 = some r → APure Go.Proofs.Tryz.prog 72 [.agg [.c (.lit (.int .i64 a_n1.Kind)), .c (.lit (.int .i64 a_n1.Num)), .c (.str a_n1.Text), .c (.sl 1 (List.map cS a_n1.Names)), .c (.sl 5 (List.map NodeT.cells a_n1.Kids))], .one (.c (.sl 1 (List.map cS a_path1))), .agg [.c (.lit (.int .i64 a_value1.Kind)), .c (.lit (.int .i64 a_value1.Num)), .c (.str a_value1.Text), .c (.sl 1 (List.map cS a_value1.Names)), .c (.sl 5 (List.map NodeT.cells a_value1.Kids))]] (.tup [(true, [.c (.lit (.int .i64 r.1.Kind)), .c (.lit (.int .i64 r.1.Num)), .c (.str r.1.Text), .c (.sl 1 (List.map cS r.1.Names)), .c (.sl 5 (List.map NodeT.cells r.1.Kids))]), (false, [.c (.lit (.bool r.2))])]) := by
  intro n
  induction n using Nat.strongRecOn with | _ n ih =>
  intro a_n1 a_path1 a_value1 r h
  refine fun_pure K.spec_setAt (ofK ?_)
  unfold C.spec_setAt
  rcases n with _ | n <;> simp only [G.spec_setAt, reduceCtorEq] at h
  repeat' first
  | ((with_reducible replace h := kq0 h); obtain ⟨_, _, h⟩ := h)
  | ((with_reducible replace h := kq1 h); obtain ⟨_, _, h⟩ := h)
  | ((with_reducible replace h := kq h); obtain ⟨_, h⟩ := h)
  | ((with_reducible replace h := sq h); subst h; have h := True.intro)
  | (try simp -dsimp only [egR, AOp.opds, AOp.f, AOp.rd, intBin, storeV, lvl, srcOf, reduceIte, Nat.reduceEqDiff, Nat.reduceAdd, Nat.reduceLeDiff, Nat.reduceBEq, reduceCtorEq, Int.reduceBNe, Int.reduceBEq, Int.reduceLT, Int.reduceLE, Int.reduceNeg, Nat.reduceLT, strBin, Int.reduceToNat, renC, *]
     repeat ((with_reducible refine And.intro ?_ ?_); focus first | (show logOK _ _ _ _ = true; kernel_rfl) | (show callOK _ _ = true; kernel_rfl) | omega | assumption | (show _ ≤ maxLen; decide))
     first
     | with_reducible refine callN ?_
     | ((with_reducible refine isCall ?_); (with_reducible replace h := bq h); first | (obtain ⟨v1, hv, h⟩ := h; (with_reducible have hc := F.spec_copyNode hv); refine callP hc rfl rfl ?_) | (obtain ⟨v2, hv, h⟩ := h; (with_reducible have hc := F.spec_place hv); refine callL (fun _ => hc) rfl rfl ?_) | (obtain ⟨v4, hv, h⟩ := h; (with_reducible have hc := F.spec_withKid hv); refine callP hc rfl rfl ?_) | (obtain ⟨v3, hv, h⟩ := h; have hc := ih _ (by omega) hv; refine callP hc rfl rfl ?_))
     | ((with_reducible replace h := cq h); rcases h with ⟨_, h⟩ | ⟨_, h⟩)
     | ((with_reducible refine isEnd ?_); (simp -dsimp only [peR, reduceIte, Nat.reduceEqDiff, Nat.reduceAdd, Nat.reduceLeDiff, reduceCtorEq] <;> simp [List.take_of_length_le]; done)))
theorem F.spec_setAt {n : Nat} : ∀ {a_n1 : NodeT} {a_path1 : List Txt} {a_value1 : NodeT} {r : NodeT × Bool}, G.spec_setAt n a_n1 a_path1 a_value1 = some r → APure Go.Proofs.Tryz.prog 72 [.agg [.c (.lit (.int .i64 a_n1.Kind)), .c (.lit (.int .i64 a_n1.Num)), .c (.str a_n1.Text), .c (.sl 1 (List.map cS a_n1.Names)), .c (.sl 5 (List.map NodeT.cells a_n1.Kids))], .one (.c (.sl 1 (List.map cS a_path1))), .agg [.c (.lit (.int .i64 a_value1.Kind)), .c (.lit (.int .i64 a_value1.Num)), .c (.str a_value1.Text), .c (.sl 1 (List.map cS a_value1.Names)), .c (.sl 5 (List.map NodeT.cells a_value1.Kids))]] (.tup [(true, [.c (.lit (.int .i64 r.1.Kind)), .c (.lit (.int .i64 r.1.Num)), .c (.str r.1.Text), .c (.sl 1 (List.map cS r.1.Names)), .c (.sl 5 (List.map NodeT.cells r.1.Kids))]), (false, [.c (.lit (.bool r.2))])]) := F.spec_setAt_n n
theorem F.spec_addAt {n : Nat} : ∀ {a_n1 : NodeT} {a_path1 : List Txt} {a_value1 : NodeT} {r : NodeT × Bool}, G.spec_addAt n a_n1 a_path1 a_value1 = some r → APure Go.Proofs.Tryz.prog 70 [.agg [.c (.lit (.int .i64 a_n1.Kind)), .c (.lit (.int .i64 a_n1.Num)), .c (.str a_n1.Text), .c (.sl 1 (List.map cS a_n1.Names)), .c (.sl 5 (List.map NodeT.cells a_n1.Kids))], .one (.c (.sl 1 (List.map cS a_path1))), .agg [.c (.lit (.int .i64 a_value1.Kind)), .c (.lit (.int .i64 a_value1.Num)), .c (.str a_value1.Text), .c (.sl 1 (List.map cS a_value1.Names)), .c (.sl 5 (List.map NodeT.cells a_value1.Kids))]] (.tup [(true, [.c (.lit (.int .i64 r.1.Kind)), .c (.lit (.int .i64 r.1.Num)), .c (.str r.1.Text), .c (.sl 1 (List.map cS r.1.Names)), .c (.sl 5 (List.map NodeT.cells r.1.Kids))]), (false, [.c (.lit (.bool r.2))])]) := by
  intro a_n1 a_path1 a_value1 r h
  refine fun_pure K.spec_addAt (ofK ?_)
  unfold C.spec_addAt
  rcases n with _ | n <;> simp only [G.spec_addAt, reduceCtorEq] at h
  repeat' first
  | ((with_reducible replace h := kq0 h); obtain ⟨_, _, h⟩ := h)
  | ((with_reducible replace h := kq1 h); obtain ⟨_, _, h⟩ := h)
  | ((with_reducible replace h := kq h); obtain ⟨_, h⟩ := h)
  | ((with_reducible replace h := sq h); subst h; have h := True.intro)
  | (try simp -dsimp only [egR, AOp.opds, AOp.f, AOp.rd, intBin, storeV, lvl, srcOf, reduceIte, Nat.reduceEqDiff, Nat.reduceAdd, Nat.reduceLeDiff, Nat.reduceBEq, reduceCtorEq, Int.reduceBNe, Int.reduceBEq, Int.reduceLT, Int.reduceLE, Int.reduceNeg, Nat.reduceLT, strBin, Int.reduceToNat, renC, *]
     repeat ((with_reducible refine And.intro ?_ ?_); focus first | (show logOK _ _ _ _ = true; kernel_rfl) | (show callOK _ _ = true; kernel_rfl) | omega | assumption | (show _ ≤ maxLen; decide))
     first
     | with_reducible refine callN ?_
     | ((with_reducible refine isCall ?_); (with_reducible replace h := bq h); first | (obtain ⟨v1, hv, h⟩ := h; (with_reducible have hc := F.spec_copyNode hv); refine callP hc rfl rfl ?_) | (obtain ⟨v2, hv, h⟩ := h; (with_reducible have hc := F.spec_at hv); refine callP hc rfl rfl ?_) | (obtain ⟨v3, hv, h⟩ := h; (with_reducible have hc := F.spec_addHere hv); refine callP hc rfl rfl ?_) | (obtain ⟨v4, hv, h⟩ := h; (with_reducible have hc := F.spec_setAt hv); refine callP hc rfl rfl ?_))
     | ((with_reducible replace h := cq h); rcases h with ⟨_, h⟩ | ⟨_, h⟩)
     | ((with_reducible refine isEnd ?_); (simp -dsimp only [peR, reduceIte, Nat.reduceEqDiff, Nat.reduceAdd, Nat.reduceLeDiff, reduceCtorEq] <;> simp [List.take_of_length_le]; done)))
theorem F.spec_begins {n : Nat} : ∀ {a_path1 : List Txt} {a_with1 : List Txt} {r : Bool}, G.spec_begins n a_path1 a_with1 = some r → APure Go.Proofs.Tryz.prog 74 [.one (.c (.sl 1 (List.map cS a_path1))), .one (.c (.sl 1 (List.map cS a_with1)))] (.one (.c (.lit (.bool r)))) := by
  intro a_path1 a_with1 r h
  refine fun_pure K.spec_begins (ofK ?_)
  unfold C.spec_begins
  rcases n with _ | n <;> simp only [G.spec_begins, reduceCtorEq] at h
  repeat' first
  | (clear h; (with_reducible rintro ⟨n, x_i2⟩ ⟨hn, h⟩); (with_reducible replace h : G.spec_begins.L1 _ _ _ _ = some _ := h); rcases n with _ | n <;> simp only [G.spec_begins.L1, reduceCtorEq] at h <;> simp only at hn)
  | ((with_reducible replace h := kq0 h); obtain ⟨_, _, h⟩ := h)
  | ((with_reducible replace h := kq1 h); obtain ⟨_, _, h⟩ := h)
  | ((with_reducible replace h := kq h); obtain ⟨_, h⟩ := h)
  | ((with_reducible replace h := sq h); subst h; have h := True.intro)
  | (try simp -dsimp only [egR, AOp.opds, AOp.f, AOp.rd, intBin, storeV, lvl, srcOf, reduceIte, Nat.reduceEqDiff, Nat.reduceAdd, Nat.reduceLeDiff, Nat.reduceBEq, reduceCtorEq, Int.reduceBNe, Int.reduceBEq, Int.reduceLT, Int.reduceLE, Int.reduceNeg, Nat.reduceLT, strBin, Int.reduceToNat, renC, *]
     repeat ((with_reducible refine And.intro ?_ ?_); focus first | (show logOK _ _ _ _ = true; kernel_rfl) | (show callOK _ _ = true; kernel_rfl) | omega | assumption | (show _ ≤ maxLen; decide))
     first
     | with_reducible refine callN ?_
     | ((with_reducible refine isLoop ?_); refine loopE (X := Nat × Int) (fun x => x.1 ≤ n ∧ G.spec_begins.L1 x.1 a_path1 a_with1 x.2 = some r) (fun x => ASt.of [(0, .v true (.one (.c (.sl 1 (List.map cS a_path1))))), (1, .v true (.one (.c (.sl 1 (List.map cS a_with1))))), (5, .v true (.one (.c (.lit (.int .i64 x.2)))))] []) (fun x => x.1) (by simp only [Prod.exists]; exact ⟨_, _, ⟨Nat.le_refl _, h⟩, weak_of [] [] [] (by rfl) (by (simp -dsimp only [wkR, wkB, wkC, reduceIte, Nat.reduceEqDiff, reduceCtorEq] <;> simp [List.take_of_length_le]; done)) (by (simp -dsimp only [wkR, wkB, wkC, reduceIte, Nat.reduceEqDiff, reduceCtorEq] <;> simp [List.take_of_length_le]; done))⟩) ?_)
     | ((with_reducible replace h := cq h); rcases h with ⟨c, h⟩ | ⟨c, h⟩ <;> try (simp only [*, Bool.false_eq_true, reduceCtorEq] at c; done))
     | ((with_reducible refine isEx ?_); simp only [Prod.exists]; refine ⟨_, _, ⟨⟨?_, h⟩, ?_⟩, weak_of [] [] [] ?_ ?_ ?_⟩; (iterate 2 focus omega); (focus rfl); (iterate 2 focus (simp -dsimp only [wkR, wkB, wkC, reduceIte, Nat.reduceEqDiff, reduceCtorEq] <;> simp [List.take_of_length_le]; done)))
     | ((with_reducible refine isEnd ?_); (simp -dsimp only [peR, reduceIte, Nat.reduceEqDiff, Nat.reduceAdd, Nat.reduceLeDiff, reduceCtorEq] <;> simp [List.take_of_length_le]; done)))
theorem F.spec_removeAt {n : Nat} : ∀ {a_n1 : NodeT} {a_path1 : List Txt} {r : NodeT × Bool}, G.spec_removeAt n a_n1 a_path1 = some r → APure Go.Proofs.Tryz.prog 71 [.agg [.c (.lit (.int .i64 a_n1.Kind)), .c (.lit (.int .i64 a_n1.Num)), .c (.str a_n1.Text), .c (.sl 1 (List.map cS a_n1.Names)), .c (.sl 5 (List.map NodeT.cells a_n1.Kids))], .one (.c (.sl 1 (List.map cS a_path1)))] (.tup [(true, [.c (.lit (.int .i64 r.1.Kind)), .c (.lit (.int .i64 r.1.Num)), .c (.str r.1.Text), .c (.sl 1 (List.map cS r.1.Names)), .c (.sl 5 (List.map NodeT.cells r.1.Kids))]), (false, [.c (.lit (.bool r.2))])]) := by
  intro a_n1 a_path1 r h
  refine fun_pure K.spec_removeAt (ofK ?_)
  unfold C.spec_removeAt
  rcases n with _ | n <;> simp only [G.spec_removeAt, reduceCtorEq] at h
  repeat' first
  | (clear h; (with_reducible rintro ⟨n, z1, z2⟩ ⟨hn, h⟩); (with_reducible replace h : G.spec_removeAt.K1 _ _ _ _ _ _ = some _ := h); rcases n with _ | n <;> simp only [G.spec_removeAt.K1, reduceCtorEq] at h <;> simp only at hn)
  | ((with_reducible replace h := kq0 h); obtain ⟨_, _, h⟩ := h)
  | ((with_reducible replace h := kq1 h); obtain ⟨_, _, h⟩ := h)
  | ((with_reducible replace h := kq h); obtain ⟨_, h⟩ := h)
  | ((with_reducible replace h := sq h); subst h; have h := True.intro)
  | (try simp -dsimp only [egR, AOp.opds, AOp.f, AOp.rd, intBin, storeV, lvl, srcOf, reduceIte, Nat.reduceEqDiff, Nat.reduceAdd, Nat.reduceLeDiff, Nat.reduceBEq, reduceCtorEq, Int.reduceBNe, Int.reduceBEq, Int.reduceLT, Int.reduceLE, Int.reduceNeg, Nat.reduceLT, strBin, Int.reduceToNat, renC, *]
     repeat ((with_reducible refine And.intro ?_ ?_); focus first | (show logOK _ _ _ _ = true; kernel_rfl) | (show callOK _ _ = true; kernel_rfl) | omega | assumption | (show _ ≤ maxLen; decide))
     first
     | with_reducible refine callN ?_
     | ((with_reducible refine isCut ?_); refine cutK (X := Nat × List NodeT × List Txt) (fun x => x.1 ≤ n ∧ G.spec_removeAt.K1 x.1 a_n1 a_path1 v1 x.2.1 x.2.2 = some r) (fun x => ASt.of [(1, .v true (.one (.c (.sl 1 (List.map cS a_path1))))), (2, .v true (.one (.ptr 101 0))), (4, .v true (.one (.ptr 102 0))), (6, .v true (.one (.c (.lit (.int .i64 (IntKind.wrap .i64 (((a_path1.length : Nat) : Int) - 1))))))), (7, .v true (.one (.ptr 103 0))), (10, .v true (.one (.own 104 x.2.1.length 5))), (11, .v true (.one (.own 105 x.2.2.length 1)))] [(101, .var [.c (.lit (.int .i64 a_n1.Kind)), .c (.lit (.int .i64 a_n1.Num)), .c (.str a_n1.Text), .c (.sl 1 (List.map cS a_n1.Names)), .c (.sl 5 (List.map NodeT.cells a_n1.Kids))]), (102, .var [.c (.lit (.int .i64 0)), .c (.lit (.int .i64 0)), .c (.str []), .nsl 1, .nsl 5]), (103, .var [.c (.lit (.int .i64 v1.1.Kind)), .c (.lit (.int .i64 v1.1.Num)), .c (.str v1.1.Text), .c (.sl 1 (List.map cS v1.1.Names)), .c (.sl 5 (List.map NodeT.cells v1.1.Kids))]), (104, .dat 5 (List.map NodeT.cells x.2.1)), (105, .dat 1 (List.map cS x.2.2))]) ?_ ?_)
     | ((with_reducible refine isCall ?_); (with_reducible replace h := bq h); first | (obtain ⟨v1, hv, h⟩ := h; (with_reducible have hc := F.spec_at hv); refine callP hc rfl rfl ?_) | (obtain ⟨v2, hv, h⟩ := h; (with_reducible have hc := F.spec_place hv); refine callL (fun _ => hc) rfl rfl ?_) | (obtain ⟨v3, hv, h⟩ := h; (with_reducible have hc := F.spec_setAt hv); (refine callD hc ?_ ?_ rfl rfl ?_; (iterate 2 focus (simp only [lnR, reduceIte, Nat.reduceEqDiff] <;> fail)))))
     | ((with_reducible replace h := cq h); rcases h with ⟨c, h⟩ | ⟨c, h⟩ <;> try (simp only [*, Bool.false_eq_true, reduceCtorEq] at c; done))
     | ((with_reducible refine isEx ?_); simp only [Prod.exists]; refine ⟨_, _, _, ⟨?_, h⟩, weak_of [] [(101, 10), (102, 11), (103, 12), (104, 15), (105, 19)] [] ?_ ?_ ?_⟩; (focus omega); (focus rfl); (iterate 2 focus (simp -dsimp only [wkR, wkB, wkC, reduceIte, Nat.reduceEqDiff, reduceCtorEq] <;> simp [List.take_of_length_le]; done)))
     | ((with_reducible refine isEx ?_); simp only [Prod.exists]; refine ⟨_, _, _, ⟨?_, h⟩, weak_of [] [(101, 10), (102, 11), (103, 12), (104, 15), (105, 16)] [] ?_ ?_ ?_⟩; (focus omega); (focus rfl); (iterate 2 focus (simp -dsimp only [wkR, wkB, wkC, reduceIte, Nat.reduceEqDiff, reduceCtorEq] <;> simp [List.take_of_length_le]; done)))
     | ((with_reducible refine isEnd ?_); (simp -dsimp only [peR, reduceIte, Nat.reduceEqDiff, Nat.reduceAdd, Nat.reduceLeDiff, reduceCtorEq] <;> simp [List.take_of_length_le]; done)))
theorem F.spec_toInt {n : Nat} : ∀ {a_b1 : Bool} {r : Int}, G.spec_toInt n a_b1 = some r → APure Go.Proofs.Tryz.prog 110 [.one (.c (.lit (.bool a_b1)))] (.one (.c (.lit (.int .i64 r)))) := by
  intro a_b1 r h
  refine fun_pure K.spec_toInt (ofK ?_)
  unfold C.spec_toInt
  rcases n with _ | n <;> simp only [G.spec_toInt, reduceCtorEq] at h
  repeat' first
  | ((with_reducible replace h := kq0 h); obtain ⟨_, _, h⟩ := h)
  | ((with_reducible replace h := kq1 h); obtain ⟨_, _, h⟩ := h)
  | ((with_reducible replace h := kq h); obtain ⟨_, h⟩ := h)
  | ((with_reducible replace h := sq h); subst h; have h := True.intro)
  | (try simp -dsimp only [egR, AOp.opds, AOp.f, AOp.rd, intBin, storeV, lvl, srcOf, reduceIte, Nat.reduceEqDiff, Nat.reduceAdd, Nat.reduceLeDiff, Nat.reduceBEq, reduceCtorEq, Int.reduceBNe, Int.reduceBEq, Int.reduceLT, Int.reduceLE, Int.reduceNeg, Nat.reduceLT, strBin, Int.reduceToNat, renC, *]
     repeat ((with_reducible refine And.intro ?_ ?_); focus first | (show logOK _ _ _ _ = true; kernel_rfl) | (show callOK _ _ = true; kernel_rfl) | omega | assumption | (show _ ≤ maxLen; decide))
     first
     | with_reducible refine callN ?_
     | ((with_reducible replace h := cq h); rcases h with ⟨_, h⟩ | ⟨_, h⟩)
     | ((with_reducible refine isEnd ?_); (simp -dsimp only [peR, reduceIte, Nat.reduceEqDiff, Nat.reduceAdd, Nat.reduceLeDiff, reduceCtorEq] <;> simp [List.take_of_length_le]; done)))
end Go.Ab
end
