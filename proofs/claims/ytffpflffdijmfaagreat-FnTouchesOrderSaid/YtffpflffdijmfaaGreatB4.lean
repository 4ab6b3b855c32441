/- The law FnTouchesOrder of the package laws answers true for every code of bytes and leaves it as it is: the abstract interpreter of the program, the printed functions and proofs, the laws of the data, the statement (part 6 of the proof). Conditions: none but what the row lists. -/
import Derived.Test.YtffpflffdijmfaaGreatB3
set_option linter.unusedVariables false
set_option linter.unusedSimpArgs false
section
namespace Go.Ab
open Go Go.ChangeShapes Go.WideShapes Go.ChangeAt Go.RowKit
def I0 (W : World) : IH := fun b => match W.heap[b]? with
  | some (.cells c _ _) => some c
  | _ => none
theorem I0_agree (W : World) : Agree (I0 W) W := by
  intro b c h
  unfold I0 at h
  split at h
  · rename_i c' e fr hb
    cases h
    exact ⟨e, fr, hb⟩
  · cases h
theorem I0_cell (W : World) {a : Addr} {v : Value} (h : W.cell? a = some v) : (I0 W).cell a = some v := by
  unfold World.cell? at h
  unfold IH.cell I0
  split at h
  · rename_i c e fr hb
    split at h
    · cases h
    · rename_i hs
      rw [if_neg hs, hb]
      exact h
  · cases h
theorem below_of_frm {W W' : World} {M : Nat → Prop} (h : Frm W W' M) (hM : ∀ k, ¬ M k) : Below W.heap.size W W' :=
  ⟨h.os, h.tape, h.output, h.size, fun k hk => h.block k hk (hM k)⟩
theorem none_used (ρ : Ren) (k : Nat) : ¬ ∃ b, (bxL [] b).uses (ρ b) k := fun ⟨b, h⟩ => by
  simp only [bxL, List.getD_nil] at h
  exact h
abbrev byteC (z : Int) : List Cell := [.lit (.int .u8 z)]
theorem law_calls {P : Program} {f : FuncId} {H : Type} {enc : TypeId × Value → H} {W : World} {tb eb : TypeId} {v0 : Value} {d0 : DataW H} {p0 : List MemPlace} {base : Nat}
    (ht : P.underlying tb = some (.slice eb)) (he : P.underlying eb = some (.int .u8)) (hc : P.cellsOf eb = 1)
    (hval : Value.okWide P W .any base tb v0) (h0 : DataW.Trod enc P W 0 (fun _ => true) true tb v0 d0 p0)
    (hp : ∀ zs : List Int, zs.length ≤ maxLen → (∀ z, z ∈ zs → 0 ≤ z ∧ z < 256) → APure P f [vSl 1 (zs.map byteC)] (vBool true)) :
    Calls P f #[v0] W fun e W' => e = .returned (.bool true) ∧ Below W.heap.size W W' := by
  obtain ⟨a0, len, cap, rfl⟩ := okWide_slice ht hval
  obtain ⟨fuel, hf⟩ := h0
  have go : ∀ zs : List Int, zs.length ≤ maxLen → (∀ z, z ∈ zs → 0 ≤ z ∧ z < 256) → Rd (I0 W) (.slice a0 len cap) (.sl 1 (zs.map byteC)) →
      Calls P f #[.slice a0 len cap] W fun e W' => e = .returned (.bool true) ∧ Below W.heap.size W W' := by
    intro zs hl hz hr
    refine (hp zs hl hz (I0 W) (fun _ => none) W [.slice a0 len cap] (I0_agree W) ⟨fun b => by simp only [bxL, List.getD_nil]; exact rfl, fun b b' k h => (none_used (fun _ => none) k ⟨b, h⟩).elim, fun b k h => (none_used (fun _ => none) k ⟨b, h⟩).elim⟩ ⟨rfl, ?_⟩).mono ?_
    · intro j v x hv hx
      match j with
      | 0 =>
        simp only [List.getElem?_cons_zero, Option.some.injEq] at hv hx
        subst hv hx
        exact hr
      | j + 1 => simp at hv
    · rintro e W' ⟨v, J, σ, r, bs, rfl, ⟨rfl, rfl⟩, hg, _, _, _, hfr, _⟩
      refine ⟨?_, below_of_frm hfr (none_used (fun _ => none))⟩
      cases hg
      rfl
  rcases open_ints ht he hc hf with ⟨hcs, hx⟩ | ⟨a, len', cap', zs, hcs, _, hl, hm, hz, hx, hcell, hwz⟩
  · simp [Value.cells] at hcs
    obtain ⟨rfl, rfl, rfl⟩ := hcs
    exact go [] (Nat.zero_le _) (fun z h => by cases h) (.sl none 0 0 1 [] (fun _ _ => undef) rfl (Nat.le_refl _) (Nat.zero_le _) (fun e h => by cases h) (fun h => by omega) (fun ad h => by cases h) (fun i j c h => by simp at h))
  · simp [Value.cells] at hcs
    obtain ⟨rfl, rfl, rfl⟩ := hcs
    simp only [if_true] at hz
    have hb : ∀ z, z ∈ zs.take len → 0 ≤ z ∧ z < 256 := fun z hz' => by
      have h5 := hwz z (List.mem_of_mem_take hz')
      have e1 : IntKind.u8.min = 0 := rfl
      have e2 : IntKind.u8.max = 255 := rfl
      have : 0 ≤ z ∧ z ≤ 255 := by simpa [Lit.wf, e1, e2] using h5
      omega
    have hlen : (zs.take len).length = len := by rw [List.length_take]; omega
    refine go (zs.take len) (by omega) hb (.sl (some a) len cap 1 _ (fun i _ => .int .u8 (zs.getD i 0)) (by rw [List.length_map, hlen]) hl hm (fun e h => ?_) (fun _ h => by cases h) (fun ad hd i j hi hj => ?_) (fun i j c h => ?_))
    · obtain ⟨z, _, rfl⟩ := List.mem_map.1 h
      rfl
    · cases hd
      have e : i * 1 + j = i := by omega
      rw [e]
      exact I0_cell W (hcell i (by omega))
    · by_cases hi : i < len
      · have hi' : i < zs.length := by omega
        have e : ((zs.take len).map byteC).getD i [] = byteC (zs.getD i 0) := by
          simp [List.getD, List.getElem?_map, List.getElem?_take, hi, hi']
        rw [e] at h
        match j with
        | 0 =>
          simp only [List.getElem?_cons_zero, Option.some.injEq] at h
          subst h
          exact .lit _ rfl
        | j + 1 => simp at h
      · have e : ((zs.take len).map byteC).getD i [] = [] := by
          simp [List.getD, List.getElem?_map, List.getElem?_take, hi]
        rw [e] at h
        simp at h
end Go.Ab
end
section
namespace Go.Proofs.YtffpflffdijmfaaGreat.fnTouchesOrder
open Go Go.ChangeShapes Go.WideShapes Go.ChangeAt Go.RowKit Go.Ab
set_option maxRecDepth 100000
theorem own : ownKnob Tryz.prog.godebug = none := by kernel_rfl
theorem laidOut : laidOutB Tryz.prog = true := by kernel_rfl
theorem cellsB : Tryz.prog.cellsOf 5 = 1 := by kernel_rfl
theorem calls (zs : List Int) (hz : ∀ z, z ∈ zs → 0 ≤ z ∧ z < 256) : APure Tryz.prog 4 [vSl 1 (zs.map byteC)] (vBool true) := by
  obtain ⟨n, hn⟩ := (T.law_TouchesOrder hz).val
  exact F.laws_FnTouchesOrder hn
theorem contract (H : Type) (enc : TypeId × Value → H) (W : World) (base : Nat) (args : Array Value) (ds gs : List (DataW H)) (before : List MemPlace)
    (hval : ∀ (j : Nat) t v, Tryz.f4.params[j]? = some t → args[j]? = some v → Value.okWide Tryz.prog W .any base t v)
    (hW : DataW.Whole enc Tryz.prog Tryz.f4.params.toList Rows.fnTouchesOrderSpec.vars false W args.toList ds gs before) :
    Calls Tryz.prog 4 args W fun e W' => ∃ v, e = .returned v ∧ Rows.fnTouchesOrderSpec.post enc Tryz.prog Tryz.f4 false true false false W args v W' := by
  have hW' := hW
  obtain ⟨p, q, hA0, hV, rfl, hfz, hnd⟩ := hW
  have hA : DataW.TrodAll enc Tryz.prog W 0 (fun _ => true) true Tryz.f4.params.toList args.toList ds p := hA0
  rw [Tryz.params4] at hA hval
  obtain ⟨v0, vs0, d0, ds0, p0, q0, hargs, rfl, rfl, h0, r0⟩ := trodAll_cons hA
  obtain ⟨rfl, rfl, rfl⟩ := trodAll_nil r0
  obtain rfl : args = #[v0] := by cases args; simp_all
  obtain ⟨rfl, rfl⟩ := trodVars_none hV
  clear hA0
  simp only [List.append_nil] at hW'
  have hlt : ∀ x ∈ p0, x.block < W.heap.size := fun x hx => by simpa using hW'.lt x hx
  refine (law_calls (enc := enc) Tryz.underlying22 Tryz.underlying5 cellsB (hval 0 22 v0 rfl rfl) h0 (fun zs _ hz => calls zs hz)).mono fun e W' ⟨he, hb⟩ => ?_
  subst he
  have ht : DataW.TrodAll enc Tryz.prog W' 0 (fun b => decide (b < W.heap.size)) true [22] [v0] [d0] (p0 ++ []) := trodAll_cons_mk (Below.trod laidOut (by kernel_rfl) (of_decide_eq_true (by kernel_rfl)) h0 hb hlt) trodAll_mk0
  rw [List.append_nil] at ht
  exact ⟨_, rfl, _, _, _, [], p0, [], hW', trodAll_cons_mk (shut_bool Tryz.underlying4 _) trodAll_mk0,
    ht, rfl, hb.frame _, fun h => by cases h⟩
def tab (k : IntKind) (l : List Int) : Obj → Obj
  | .cells _ t frozen => .cells (l.map fun n => Value.int k n).toArray t frozen
  | o => o
noncomputable def laidWorld (os : Os) : World :=
  { World.holding Tryz.prog os ⟨#[], #[], []⟩ with heap := (World.holding Tryz.prog os ⟨#[], #[], []⟩).heap }
theorem laid_met (os : Os) : laidMet Tryz.prog Rows.fnTouchesOrderRow.laid ((laidWorld os).forCall (fun _ _ => 0) ⟨#[], #[.slice none 0 0], []⟩).memory :=
  laidMet_of_run' 80 (by kernel_rfl) (by kernel_rfl)
theorem reads (os : Os) {H : Type} (enc : TypeId × Value → H) : ∃ places, DataW.whole enc Tryz.prog ((laidWorld os).forCall (fun _ _ => 0) ⟨#[], #[.slice none 0 0], []⟩).memory Tryz.f4.params.toList Rows.fnTouchesOrderSpec.vars false #[Value.slice none 0 0].toList 8 = some ([.nil], [], places) :=
  ⟨[], by kernel_rfl⟩
theorem lifted (os : Os) (started : os.Started) (H : Type) (enc : TypeId × Value → H) (F : Stop.Interp) :
    ReturnsInHanded {} Tryz.checked os 4 .any ((OpenSpec.ofChange Rows.fnTouchesOrderSpec).preRow enc Tryz.prog Tryz.f4 Rows.fnTouchesOrderRow.domain false Rows.fnTouchesOrderRow.laid) (((OpenSpec.ofChange Rows.fnTouchesOrderSpec).at F).post enc Tryz.prog Tryz.f4 false true false false) := by
  obtain ⟨places, hx⟩ := reads os enc
  refine returnsInHanded_of_row (C := Tryz.checked) (s := OpenSpec.ofChange Rows.fnTouchesOrderSpec) own started (by kernel_rfl) Tryz.func4
    (witness_row_at (enc := enc) (C := Tryz.checked) false (laidWorld os) #[.slice none 0 0] rfl (by kernel_rfl) (by kernel_rfl) (by kernel_rfl)
      (OpenSpec.preRow_of_cond 8 hx (by kernel_rfl) (fun k hk => by cases hk) (by kernel_rfl) (laid_met os))) ?_
  intro W base args ds gs before hval hW _ _ _ hL _ _
  exact contract H enc W base args ds gs before hval hW
theorem j1 : (Rows.fnTouchesOrderRow.inPlace == Tryz.prog.inPlace 4) = true := by kernel_rfl
theorem j2 : (Rows.fnTouchesOrderRow.unfollowed == Tryz.prog.unfollowed 4) = true := by kernel_rfl
theorem j3 : (Rows.fnTouchesOrderRow.recurses == Tryz.prog.recurses 4) = true := by kernel_rfl
theorem j4 : (Rows.fnTouchesOrderRow.named == Tryz.prog.varsNamed 4) = true := by kernel_rfl
theorem j5 : joinedFacts Tryz.prog 4 Tryz.f4 (OpenSpec.ofChange Rows.fnTouchesOrderSpec).bare Rows.fnTouchesOrderRow = true := by
  unfold joinedFacts
  rw [j1, j2, j3, j4]
  kernel_rfl
theorem j6 : Tryz.prog.funcNamed Rows.fnTouchesOrderRow.func = some 4 := by kernel_rfl
theorem said : Rows.FnTouchesOrderSaid :=
  OpenClaim.holds_of_cond 4 Tryz.f4 rfl rfl rfl rfl rfl rfl rfl ⟨rfl, rfl, rfl, rfl, rfl⟩ rfl rfl rfl rfl rfl j6 Tryz.func4 j5
    (of_decide_eq_true (by kernel_rfl)) (by unfold Func.isWrapper; first | (rw [if_pos (by decide +kernel)]; kernel_rfl) | (rw [if_neg (by decide +kernel)]; exact ⟨rfl, rfl⟩))
    (fun os started H enc _ F => by rw [OpenClaim.pre_eq_preRow]; exact lifted os started H enc F)
end Go.Proofs.YtffpflffdijmfaaGreat.fnTouchesOrder
end
