/- The law FnTouchesSafe of the package laws answers true for every code of bytes and leaves it as it is: the abstract interpreter of the program, the printed functions and proofs, the laws of the data, the statement (part 5 of the proof). Conditions: none but what the row lists. -/
import Derived.Test.YtffpflffdijmfaaGreatA2
set_option linter.unusedVariables false
set_option linter.unusedSimpArgs false
section
namespace Go.Ab
open Go
set_option maxRecDepth 100000
theorem D.DrawTouches {c : List Int} (hc : Bytes c) (hl : c.length ≤ 1048576) : Tot FineB (fun f => G.spec_DrawTouches f c) := by
  refine Tot.up ?_
  simp only [G.spec_DrawTouches]
  refine Tot.bind (D.newReader hc hl) (fun r hr => Tot.bind (D.anyBatch hr (by omega)) ?_)
  rintro ⟨s, l, r1⟩ ⟨_, hl, _⟩
  exact Tot.ret hl
def uns (q : RequestT) : Bool := !(q.Method == 1)
def NamU (l : List RequestT) (t : Txt) : Prop := ∃ q, q ∈ l ∧ uns q = true ∧ q.Name = t
structure Tou (l : List RequestT) (q : List Txt) : Prop where
  asc : Asc q = true
  mem : ∀ t, t ∈ q ↔ BatV l = true ∧ NamU l t
  len : q.length ≤ 1000
theorem tou_uniq {l : List RequestT} {p q : List Txt} (hp : Tou l p) (hq : Tou l q) : p = q := asc_ext hp.asc hq.asc (fun t => by rw [hp.mem, hq.mem])
theorem bat_facts {l : List RequestT} (h : BatV l = true) : (∀ q, q ∈ l → RqV q = true) ∧ l.length ≤ 8 := by
  unfold BatV at h
  simp only [Bool.and_eq_true, decide_eq_true_eq, List.all_eq_true] at h
  exact h
theorem T.impl_Touches {l : List RequestT} (h : FineB l) : ∃ q, Ev (fun f => G.impl_Touches f l) q ∧ Tou l q := by
  have hb := T.impl_areRequests h
  cases hB : BatV l with
  | false =>
    refine ⟨[], Ev.up ?_, rfl, fun t => by simp [hB], by simp⟩
    simp only [G.impl_Touches]
    exact Ev.bind hb (Ev.cf hB (Ev.ret _))
  | true =>
    obtain ⟨hv, hl⟩ := bat_facts hB
    have hz : ((l.filter uns).map fun q => q.Name).length ≤ 8 := by rw [List.length_map]; exact Nat.le_trans (List.length_filter_le _ _) hl
    obtain ⟨q, g, hs, hm, hql⟩ := T.sort (l := (l.filter uns).map fun q => q.Name) (by omega)
    have L : ∀ (k i : Nat) (z : List Txt), i + k = l.length → z.length ≤ i → z ++ ((l.drop i).filter uns).map (fun q => q.Name) = (l.filter uns).map (fun q => q.Name) → Ev (fun f => G.impl_Touches.L1 f l i z) (ded q) := by
      intro k
      induction k with
      | zero =>
        intro i z hi hz' he
        rw [List.drop_of_length_le (by omega), List.filter_nil, List.map_nil, List.append_nil] at he
        refine Ev.up ?_
        simp only [G.impl_Touches.L1]
        rw [he]
        exact Ev.cf (decide_eq_false (by omega)) (Ev.bind g (Ev.chk hql.symm (Ev.bind (T.compact (by omega)) (Ev.ret _))))
      | succ k ih =>
        intro i z hi hz' he
        have hil : i < l.length := by omega
        have hq := hv _ (getD_mem default hil)
        rw [drop_of_lt (default : RequestT) hil, List.filter_cons] at he
        refine Ev.up ?_
        simp only [G.impl_Touches.L1, Int.toNat_natCast, wrap_suc (show i + 1 < 9223372036854775808 by omega)]
        refine Ev.ct (decide_eq_true (by omega)) (Ev.chk (by omega) (Ev.bind (T.impl_IsSafe lim60 (h.at_ hil)) ?_))
        rw [hq, Bool.true_and]
        refine Ev.ite (fun e => ih (i + 1) z (by omega) (by omega) ?_) (fun e => Ev.chk (by omega) (ih (i + 1) _ (by omega) (by simp; omega) ?_))
        · have : uns (l.getD i default) = false := by unfold uns; rw [show ((l.getD i default).Method == 1) = true from e]; rfl
          rw [this] at he
          simpa using he
        · have : uns (l.getD i default) = true := by unfold uns; rw [show ((l.getD i default).Method == 1) = false from e]; rfl
          rw [this] at he
          simpa using he
    refine ⟨ded q, Ev.up ?_, ded_asc hs, fun t => ?_, ?_⟩
    · simp only [G.impl_Touches]
      exact Ev.bind hb (Ev.ct hB (L l.length 0 [] (by omega) (by simp) (by simp)))
    · rw [ded_mem, hm]
      simp only [List.mem_map, List.mem_filter, hB, true_and]
      constructor
      · rintro ⟨x, ⟨a, b⟩, c⟩; exact ⟨x, a, b, c⟩
      · rintro ⟨x, a, b, c⟩; exact ⟨x, ⟨a, b⟩, c⟩
    · have hd : ∀ (m : List Txt) (x : Txt), (ddr x m).length ≤ m.length := by
        intro m
        induction m with
        | nil => intro x; simp [ddr]
        | cons y m ih =>
          intro x
          rw [ddr]
          split
          · have h1 := ih x; have h2 := ih y; simp; omega
          · have h1 := ih x; have h2 := ih y; simp; omega
      have : (ded q).length ≤ q.length := by
        cases q with
        | nil => simp [ded]
        | cons x q => have := hd q x; simp only [ded, List.length_cons]; omega
      omega
theorem T.spec_Touches {l : List RequestT} (h : FineB l) : ∃ q, Ev (fun f => G.spec_Touches f l) q ∧ Tou l q := by
  have hb := T.spec_validBatch h
  cases hB : BatV l with
  | false =>
    refine ⟨[], Ev.up ?_, rfl, fun t => by simp [hB], by simp⟩
    simp only [G.spec_Touches]
    exact Ev.bind hb (Ev.cf hB (Ev.ret _))
  | true =>
    obtain ⟨_, hl⟩ := bat_facts hB
    have L : ∀ (k i : Nat) (z : List Txt), i + k = l.length → z.length ≤ i → Asc z = true → (∀ t, t ∈ z ↔ NamU (l.take i) t) → ∃ q, Ev (fun f => G.spec_Touches.L1 f l z i) q ∧ Asc q = true ∧ (∀ t, t ∈ q ↔ NamU l t) ∧ q.length ≤ 8 := by
      intro k
      induction k with
      | zero =>
        intro i z hi hz ha hm
        rw [List.take_of_length_le (by omega)] at hm
        refine ⟨z, Ev.up ?_, ha, hm, by omega⟩
        simp only [G.spec_Touches.L1]
        exact Ev.cf (decide_eq_false (by omega)) (Ev.ret _)
      | succ k ih =>
        intro i z hi hz ha hm
        have hil : i < l.length := by omega
        have tk : ∀ t, NamU (l.take (i + 1)) t ↔ NamU (l.take i) t ∨ (uns (l.getD i default) = true ∧ (l.getD i default).Name = t) := fun t => by
          unfold NamU
          rw [List.take_succ_eq_append_getElem hil, ← getD_of_lt (default : RequestT) hil]
          constructor
          · rintro ⟨q, hq, a, b⟩
            rcases List.mem_append.1 hq with c | c
            · exact .inl ⟨q, c, a, b⟩
            · rw [List.mem_singleton.1 c] at a b; exact .inr ⟨a, b⟩
          · rintro (⟨q, hq, a, b⟩ | ⟨a, b⟩)
            · exact ⟨q, List.mem_append_left _ hq, a, b⟩
            · exact ⟨_, List.mem_append_right _ (List.mem_singleton.2 rfl), a, b⟩
        cases hu : uns (l.getD i default) with
        | true =>
          have hne : ((l.getD i default).Method != 1) = true := hu
          have hul := uni_len z [(l.getD i default).Name]
          obtain ⟨q, g, r1, r2, r3⟩ := ih (i + 1) (uni z [(l.getD i default).Name]) (by omega) (by simp only [List.length_singleton] at hul; omega) (uni_asc _ _ ha rfl) (fun t => by
            rw [uni_mem, tk, hm, hu, List.mem_singleton]
            constructor
            · rintro (a | a)
              · exact .inl a
              · exact .inr ⟨rfl, a.symm⟩
            · rintro (a | ⟨_, a⟩)
              · exact .inl a
              · exact .inr a.symm)
          refine ⟨q, Ev.up ?_, r1, r2, r3⟩
          simp only [G.spec_Touches.L1, Int.toNat_natCast, wrap_suc (show i + 1 < 9223372036854775808 by omega)]
          exact Ev.ct (decide_eq_true (by omega)) (Ev.chk (by omega) (Ev.ct hne (Ev.chk (by omega) (Ev.bind (T.spec_nameUnion (by omega) (by simp)) g))))
        | false =>
          have hne : ((l.getD i default).Method != 1) = false := hu
          obtain ⟨q, g, r1, r2, r3⟩ := ih (i + 1) z (by omega) (by omega) ha (fun t => by
            rw [tk, hm, hu]
            simp)
          refine ⟨q, Ev.up ?_, r1, r2, r3⟩
          simp only [G.spec_Touches.L1, Int.toNat_natCast, wrap_suc (show i + 1 < 9223372036854775808 by omega)]
          exact Ev.ct (decide_eq_true (by omega)) (Ev.chk (by omega) (Ev.cf hne g))
    obtain ⟨q, g, r1, r2, r3⟩ := L l.length 0 [] (by omega) (by simp) rfl (fun t => by simp [NamU])
    refine ⟨q, Ev.up ?_, r1, fun t => ?_, by omega⟩
    · simp only [G.spec_Touches]
      exact Ev.bind hb (Ev.ct hB g)
    · rw [r2, hB]; simp
theorem texts_self {q : List Txt} (h : q.length ≤ 1000) : Ev (fun f => G.laws_equalTexts f q q) true := (T.laws_equalTexts (by unfold big; omega)).eq (by simp)
theorem T.law_TouchesSafe {c : List Int} (hc : Bytes c) : Ev (fun f => G.laws_FnTouchesSafe f c) true := by
  refine Ev.up ?_
  simp only [G.laws_FnTouchesSafe]
  refine Ev.ite (fun _ => Ev.ret _) (fun e => ?_)
  obtain ⟨l, g, hl⟩ := D.DrawTouches hc (by simp at e; omega)
  obtain ⟨p, gp, hp⟩ := T.impl_Touches hl
  obtain ⟨q, gq, hq⟩ := T.spec_Touches hl
  have := tou_uniq hp hq
  subst this
  have f1 : ∀ {m : Int} {t : Txt}, t.length ≤ 60 → FineQ 60 (RequestT.mk m t [] [] noNode []) := fun ht => ⟨ht, fineP_no, fineP_no, ⟨5, fine_val val_no⟩, fineL_nil⟩
  obtain ⟨x, gx, hx⟩ := T.impl_Touches (l := [RequestT.mk 3 [97] [] [] noNode []]) ⟨by simp, fun q hq => by rw [List.mem_singleton.1 hq]; exact f1 (by decide)⟩
  obtain ⟨y, gy, hy⟩ := T.impl_Touches (l := [RequestT.mk 1 [97] [] [] noNode [], RequestT.mk 1 [98] [] [] noNode []]) ⟨by simp, fun q hq => by
    rcases List.mem_cons.1 hq with a | a
    · rw [a]; exact f1 (by decide)
    · rw [List.mem_singleton.1 a]; exact f1 (by decide)⟩
  have ex : x = [[97]] := by
    refine asc_ext hx.asc rfl (fun t => ?_)
    rw [hx.mem]
    have hB : BatV [RequestT.mk 3 [97] [] [] noNode []] = true := by decide
    rw [hB, List.mem_singleton]
    constructor
    · rintro ⟨_, q, hq, _, ht⟩
      rw [List.mem_singleton.1 hq] at ht
      exact ht.symm
    · intro ht
      exact ⟨rfl, _, List.mem_singleton.2 rfl, by decide, ht.symm⟩
  have ey : y = [] := by
    refine asc_ext hy.asc rfl (fun t => ?_)
    rw [hy.mem]
    constructor
    · rintro ⟨_, q, hq, hu, _⟩
      rcases List.mem_cons.1 hq with a | a
      · rw [a] at hu; cases hu
      · rw [List.mem_singleton.1 a] at hu; cases hu
    · intro ht; cases ht
  subst ex ey
  exact Ev.bind g (Ev.bind gp (Ev.bind gq (Ev.bind (texts_self hp.len) (Ev.ct rfl (Ev.bind gx (Ev.bind gy (Ev.bind (texts_self (by simp)) (Ev.ct rfl (Ev.ret' (by simp))))))))))
end Go.Ab
end
section
namespace Go.Ab
open Go
set_option maxRecDepth 100000
set_option maxHeartbeats 4000000
set_option linter.unusedVariables false
set_option linter.unusedSimpArgs false
theorem F.cmp_isNaN_string {n : Nat} : ∀ {a_x1 : Txt} {r : Bool}, G.cmp_isNaN_string n a_x1 = some r → APure Go.Proofs.Tryz.prog 84 [.one (.c (.str a_x1))] (.one (.c (.lit (.bool r)))) := by
  intro a_x1 r h
  refine fun_pure K.cmp_isNaN_string (ofK ?_)
  unfold C.cmp_isNaN_string
  rcases n with _ | n <;> simp only [G.cmp_isNaN_string, reduceCtorEq] at h
  obtain ⟨zc, zg, zk, zu, ze, zj, zt⟩ := pp () <| pp () <| pp () <| pp () <| pp () <| pp () <| ()
  exact drv
theorem F.cmp_Less_string {n : Nat} : ∀ {a_x1 : Txt} {a_y1 : Txt} {r : Bool}, G.cmp_Less_string n a_x1 a_y1 = some r → APure Go.Proofs.Tryz.prog 47 [.one (.c (.str a_x1)), .one (.c (.str a_y1))] (.one (.c (.lit (.bool r)))) := by
  intro a_x1 a_y1 r h
  refine fun_pure K.cmp_Less_string (ofK ?_)
  unfold C.cmp_Less_string
  rcases n with _ | n <;> simp only [G.cmp_Less_string, reduceCtorEq] at h
  obtain ⟨zc, zg, zk, zu, ze, zj, zt⟩ := pp (pp @F.cmp_isNaN_string ()) <| pp () <| pp () <| pp () <| pp () <| pp () <| ()
  exact drv
theorem F.impl_isPlainText {n : Nat} : ∀ {a_s1 : Txt} {r : Bool}, G.impl_isPlainText n a_s1 = some r → APure Go.Proofs.Tryz.prog 109 [.one (.c (.str a_s1))] (.one (.c (.lit (.bool r)))) := by
  intro a_s1 r h
  refine fun_pure K.impl_isPlainText (ofK ?_)
  unfold C.impl_isPlainText
  rcases n with _ | n <;> simp only [G.impl_isPlainText, reduceCtorEq] at h
  obtain ⟨zc, zg, zk, zu, ze, zj, zt⟩ := pp () <| pp () <| pp (pp (@lopX (Int) _ (fun n x => G.impl_isPlainText.L1 n a_s1 x) r (fun x => ASt.of [(0, .v true (.one (.c (.str a_s1)))), (3, .v true (.one (.c (.lit (.int .i64 x)))))] [])) ()) <| pp () <| pp (pp (And.intro @G.impl_isPlainText.L1.eq_1 <| @G.impl_isPlainText.L1.eq_2) ()) <| pp (pp (@weakX [] [] []) ()) <| ()
  exact drv
theorem F.impl_areNames {n : Nat} : ∀ {a_names1 : List Txt} {r : Bool}, G.impl_areNames n a_names1 = some r → APure Go.Proofs.Tryz.prog 110 [.one (.c (.sl 1 (List.map cS a_names1)))] (.one (.c (.lit (.bool r)))) := by
  intro a_names1 r h
  refine fun_pure K.impl_areNames (ofK ?_)
  unfold C.impl_areNames
  rcases n with _ | n <;> simp only [G.impl_areNames, reduceCtorEq] at h
  obtain ⟨zc, zg, zk, zu, ze, zj, zt⟩ := pp (pp @F.impl_isPlainText ()) <| pp () <| pp (pp (@lopX (Int) _ (fun n x => G.impl_areNames.L1 n a_names1 x) r (fun x => ASt.of [(0, .v true (.one (.c (.sl 1 (List.map cS a_names1))))), (8, .v true (.one (.c (.sl 1 (List.map cS a_names1))))), (9, .v true (.one (.c (.lit (.int .i64 ((a_names1.length : Nat) : Int)))))), (10, .v true (.one (.c (.lit (.int .i64 x)))))] [])) ()) <| pp () <| pp (pp (And.intro @G.impl_areNames.L1.eq_1 <| @G.impl_areNames.L1.eq_2) ()) <| pp (pp (@weakX [] [] []) ()) <| ()
  exact drv
theorem F.impl_hasValidParts {n : Nat} : ∀ {a_n1 : NodeT} {r : Bool}, G.impl_hasValidParts n a_n1 = some r → APure Go.Proofs.Tryz.prog 90 [.agg [.c (.lit (.int .i64 a_n1.Kind)), .c (.lit (.int .i64 a_n1.Num)), .c (.str a_n1.Text), .c (.sl 1 (List.map cS a_n1.Names)), .c (.sl 5 (List.map NodeT.cells a_n1.Kids))]] (.one (.c (.lit (.bool r)))) := by
  intro a_n1 r h
  refine fun_pure K.impl_hasValidParts (ofK ?_)
  unfold C.impl_hasValidParts
  rcases n with _ | n <;> simp only [G.impl_hasValidParts, reduceCtorEq] at h
  obtain ⟨zc, zg, zk, zu, ze, zj, zt⟩ := pp (pp @F.impl_isPlainText <| pp @F.impl_areNames ()) <| pp () <| pp () <| pp (pp (@cutX (Unit) _ (fun n x => G.impl_hasValidParts.K1 n a_n1) r (fun x => ASt.of [(1, .v true (.one (.ptr 101 0))), (20, .v true (.one (.c (.lit (.bool false)))))] [(101, .var [.c (.lit (.int .i64 a_n1.Kind)), .c (.lit (.int .i64 a_n1.Num)), .c (.str a_n1.Text), .c (.sl 1 (List.map cS a_n1.Names)), .c (.sl 5 (List.map NodeT.cells a_n1.Kids))])])) ()) <| pp (pp (And.intro @G.impl_hasValidParts.K1.eq_1 <| @G.impl_hasValidParts.K1.eq_2) ()) <| pp (pp (@weakX [] [(101, 10)] []) ()) <| ()
  exact drv
theorem F.impl_measureNode_n : ∀ (n : Nat), ∀ {a_n1 : NodeT} {a_level1 : Int} {r : Int × Int × Bool}, G.impl_measureNode n a_n1 a_level1 = some r → APure Go.Proofs.Tryz.prog 58 [.agg [.c (.lit (.int .i64 a_n1.Kind)), .c (.lit (.int .i64 a_n1.Num)), .c (.str a_n1.Text), .c (.sl 1 (List.map cS a_n1.Names)), .c (.sl 5 (List.map NodeT.cells a_n1.Kids))], .one (.c (.lit (.int .i64 a_level1)))] (.tup [(false, [.c (.lit (.int .i64 r.1))]), (false, [.c (.lit (.int .i64 r.2.1))]), (false, [.c (.lit (.bool r.2.2))])]) := by
  intro n
  induction n using Nat.strongRecOn with | _ n ih =>
  intro a_n1 a_level1 r h
  refine fun_pure K.impl_measureNode (ofK ?_)
  unfold C.impl_measureNode
  rcases n with _ | n <;> simp only [G.impl_measureNode, reduceCtorEq] at h
  obtain ⟨zc, zg, zk, zu, ze, zj, zt⟩ := pp (pp ih <| pp @F.impl_hasValidParts ()) <| pp () <| pp (pp (@lopX (Int × Int × Int) _ (fun n x => G.impl_measureNode.L1 n a_n1 a_level1 x.1 x.2.1 x.2.2) r (fun x => ASt.of [(1, .v true (.one (.c (.lit (.int .i64 a_level1))))), (4, .v true (.one (.c (.lit (.int .i64 x.1))))), (5, .v true (.one (.c (.lit (.int .i64 x.2.1))))), (20, .v true (.one (.c (.sl 5 (List.map NodeT.cells a_n1.Kids))))), (21, .v true (.one (.c (.lit (.int .i64 ((a_n1.Kids.length : Nat) : Int)))))), (22, .v true (.one (.c (.lit (.int .i64 x.2.2)))))] [])) ()) <| pp () <| pp (pp (And.intro @G.impl_measureNode.L1.eq_1 <| @G.impl_measureNode.L1.eq_2) ()) <| pp (pp (@weakX [] [] []) ()) <| ()
  exact drv
theorem F.impl_measureNode {n : Nat} : ∀ {a_n1 : NodeT} {a_level1 : Int} {r : Int × Int × Bool}, G.impl_measureNode n a_n1 a_level1 = some r → APure Go.Proofs.Tryz.prog 58 [.agg [.c (.lit (.int .i64 a_n1.Kind)), .c (.lit (.int .i64 a_n1.Num)), .c (.str a_n1.Text), .c (.sl 1 (List.map cS a_n1.Names)), .c (.sl 5 (List.map NodeT.cells a_n1.Kids))], .one (.c (.lit (.int .i64 a_level1)))] (.tup [(false, [.c (.lit (.int .i64 r.1))]), (false, [.c (.lit (.int .i64 r.2.1))]), (false, [.c (.lit (.bool r.2.2))])]) := F.impl_measureNode_n n
theorem F.impl_ValidNode {n : Nat} : ∀ {a_n1 : NodeT} {r : Bool}, G.impl_ValidNode n a_n1 = some r → APure Go.Proofs.Tryz.prog 29 [.agg [.c (.lit (.int .i64 a_n1.Kind)), .c (.lit (.int .i64 a_n1.Num)), .c (.str a_n1.Text), .c (.sl 1 (List.map cS a_n1.Names)), .c (.sl 5 (List.map NodeT.cells a_n1.Kids))]] (.one (.c (.lit (.bool r)))) := by
  intro a_n1 r h
  refine fun_pure K.impl_ValidNode (ofK ?_)
  unfold C.impl_ValidNode
  rcases n with _ | n <;> simp only [G.impl_ValidNode, reduceCtorEq] at h
  obtain ⟨zc, zg, zk, zu, ze, zj, zt⟩ := pp (pp @F.impl_measureNode ()) <| pp () <| pp () <| pp () <| pp () <| pp () <| ()
  exact drv
theorem F.impl_isPath {n : Nat} : ∀ {a_path1 : List Txt} {r : Bool}, G.impl_isPath n a_path1 = some r → APure Go.Proofs.Tryz.prog 91 [.one (.c (.sl 1 (List.map cS a_path1)))] (.one (.c (.lit (.bool r)))) := by
  intro a_path1 r h
  refine fun_pure K.impl_isPath (ofK ?_)
  unfold C.impl_isPath
  rcases n with _ | n <;> simp only [G.impl_isPath, reduceCtorEq] at h
  obtain ⟨zc, zg, zk, zu, ze, zj, zt⟩ := pp (pp @F.impl_isPlainText ()) <| pp () <| pp (pp (@lopX (Int) _ (fun n x => G.impl_isPath.L1 n a_path1 x) r (fun x => ASt.of [(8, .v true (.one (.c (.sl 1 (List.map cS a_path1))))), (9, .v true (.one (.c (.lit (.int .i64 ((a_path1.length : Nat) : Int)))))), (10, .v true (.one (.c (.lit (.int .i64 x)))))] [])) ()) <| pp () <| pp (pp (And.intro @G.impl_isPath.L1.eq_1 <| @G.impl_isPath.L1.eq_2) ()) <| pp (pp (@weakX [] [] []) ()) <| ()
  exact drv
theorem F.impl_isOp {n : Nat} : ∀ {a_o1 : OpT} {r : Bool}, G.impl_isOp n a_o1 = some r → APure Go.Proofs.Tryz.prog 59 [.agg [.c (.lit (.int .i64 a_o1.Kind)), .c (.sl 1 (List.map cS a_o1.Path)), .c (.sl 1 (List.map cS a_o1.From)), .c (.lit (.int .i64 a_o1.Value.Kind)), .c (.lit (.int .i64 a_o1.Value.Num)), .c (.str a_o1.Value.Text), .c (.sl 1 (List.map cS a_o1.Value.Names)), .c (.sl 5 (List.map NodeT.cells a_o1.Value.Kids))]] (.one (.c (.lit (.bool r)))) := by
  intro a_o1 r h
  refine fun_pure K.impl_isOp (ofK ?_)
  unfold C.impl_isOp
  rcases n with _ | n <;> simp only [G.impl_isOp, reduceCtorEq] at h
  obtain ⟨zc, zg, zk, zu, ze, zj, zt⟩ := pp (pp @F.impl_isPath <| pp @F.impl_ValidNode ()) <| pp () <| pp () <| pp () <| pp () <| pp () <| ()
  exact drv
theorem F.impl_arePatchOps {n : Nat} : ∀ {a_list1 : List OpT} {r : Bool}, G.impl_arePatchOps n a_list1 = some r → APure Go.Proofs.Tryz.prog 30 [.one (.c (.sl 8 (List.map OpT.cells a_list1)))] (.one (.c (.lit (.bool r)))) := by
  intro a_list1 r h
  refine fun_pure K.impl_arePatchOps (ofK ?_)
  unfold C.impl_arePatchOps
  rcases n with _ | n <;> simp only [G.impl_arePatchOps, reduceCtorEq] at h
  obtain ⟨zc, zg, zk, zu, ze, zj, zt⟩ := pp (pp @F.impl_isOp ()) <| pp () <| pp (pp (@lopX (Int) _ (fun n x => G.impl_arePatchOps.L1 n a_list1 x) r (fun x => ASt.of [(8, .v true (.one (.c (.sl 8 (List.map OpT.cells a_list1))))), (9, .v true (.one (.c (.lit (.int .i64 ((a_list1.length : Nat) : Int)))))), (10, .v true (.one (.c (.lit (.int .i64 x)))))] [])) ()) <| pp () <| pp (pp (And.intro @G.impl_arePatchOps.L1.eq_1 <| @G.impl_arePatchOps.L1.eq_2) ()) <| pp (pp (@weakX [] [] []) ()) <| ()
  exact drv
theorem F.internal_stringslite_IndexByte {n : Nat} : ∀ {a_s1 : Txt} {a_c1 : Int} {r : Int}, G.internal_stringslite_IndexByte n a_s1 a_c1 = some r → APure Go.Proofs.Tryz.prog 108 [.one (.c (.str a_s1)), .one (.c (.lit (.int .u8 a_c1)))] (.one (.c (.lit (.int .i64 r)))) := by
  intro a_s1 a_c1 r h
  refine fun_pure K.internal_stringslite_IndexByte (ofK ?_)
  unfold C.internal_stringslite_IndexByte
  rcases n with _ | n <;> simp only [G.internal_stringslite_IndexByte, reduceCtorEq] at h
  obtain ⟨zc, zg, zk, zu, ze, zj, zt⟩ := pp () <| pp () <| pp () <| pp () <| pp () <| pp () <| ()
  exact drv
theorem F.strings_IndexByte {n : Nat} : ∀ {a_s1 : Txt} {a_c1 : Int} {r : Int}, G.strings_IndexByte n a_s1 a_c1 = some r → APure Go.Proofs.Tryz.prog 89 [.one (.c (.str a_s1)), .one (.c (.lit (.int .u8 a_c1)))] (.one (.c (.lit (.int .i64 r)))) := by
  intro a_s1 a_c1 r h
  refine fun_pure K.strings_IndexByte (ofK ?_)
  unfold C.strings_IndexByte
  rcases n with _ | n <;> simp only [G.strings_IndexByte, reduceCtorEq] at h
  obtain ⟨zc, zg, zk, zu, ze, zj, zt⟩ := pp (pp @F.internal_stringslite_IndexByte ()) <| pp () <| pp () <| pp () <| pp () <| pp () <| ()
  exact drv
theorem F.impl_isSum {n : Nat} : ∀ {a_s1 : Txt} {r : Bool}, G.impl_isSum n a_s1 = some r → APure Go.Proofs.Tryz.prog 57 [.one (.c (.str a_s1))] (.one (.c (.lit (.bool r)))) := by
  intro a_s1 r h
  refine fun_pure K.impl_isSum (ofK ?_)
  unfold C.impl_isSum
  rcases n with _ | n <;> simp only [G.impl_isSum, reduceCtorEq] at h
  obtain ⟨zc, zg, zk, zu, ze, zj, zt⟩ := pp (pp @F.strings_IndexByte ()) <| pp () <| pp (pp (@lopX (Int) _ (fun n x => G.impl_isSum.L1 n a_s1 x) r (fun x => ASt.of [(0, .v true (.one (.c (.str a_s1)))), (3, .v true (.one (.c (.lit (.int .i64 x)))))] [])) ()) <| pp () <| pp (pp (And.intro @G.impl_isSum.L1.eq_1 <| @G.impl_isSum.L1.eq_2) ()) <| pp (pp (@weakX [] [] []) ()) <| ()
  exact drv
theorem F.impl_areTags {n : Nat} : ∀ {a_list1 : List Txt} {r : Bool}, G.impl_areTags n a_list1 = some r → APure Go.Proofs.Tryz.prog 28 [.one (.c (.sl 1 (List.map cS a_list1)))] (.one (.c (.lit (.bool r)))) := by
  intro a_list1 r h
  refine fun_pure K.impl_areTags (ofK ?_)
  unfold C.impl_areTags
  rcases n with _ | n <;> simp only [G.impl_areTags, reduceCtorEq] at h
  obtain ⟨zc, zg, zk, zu, ze, zj, zt⟩ := pp (pp @F.impl_isSum ()) <| pp () <| pp (pp (@lopX (Int) _ (fun n x => G.impl_areTags.L1 n a_list1 x) r (fun x => ASt.of [(8, .v true (.one (.c (.sl 1 (List.map cS a_list1))))), (9, .v true (.one (.c (.lit (.int .i64 ((a_list1.length : Nat) : Int)))))), (10, .v true (.one (.c (.lit (.int .i64 x)))))] [])) ()) <| pp () <| pp (pp (And.intro @G.impl_areTags.L1.eq_1 <| @G.impl_areTags.L1.eq_2) ()) <| pp (pp (@weakX [] [] []) ()) <| ()
  exact drv
theorem F.impl_isName {n : Nat} : ∀ {a_s1 : Txt} {r : Bool}, G.impl_isName n a_s1 = some r → APure Go.Proofs.Tryz.prog 27 [.one (.c (.str a_s1))] (.one (.c (.lit (.bool r)))) := by
  intro a_s1 r h
  refine fun_pure K.impl_isName (ofK ?_)
  unfold C.impl_isName
  rcases n with _ | n <;> simp only [G.impl_isName, reduceCtorEq] at h
  obtain ⟨zc, zg, zk, zu, ze, zj, zt⟩ := pp () <| pp () <| pp (pp (@lopX (Int) _ (fun n x => G.impl_isName.L1 n a_s1 x) r (fun x => ASt.of [(0, .v true (.one (.c (.str a_s1)))), (3, .v true (.one (.c (.lit (.int .i64 x)))))] [])) ()) <| pp () <| pp (pp (And.intro @G.impl_isName.L1.eq_1 <| @G.impl_isName.L1.eq_2) ()) <| pp (pp (@weakX [] [] []) ()) <| ()
  exact drv
theorem F.impl_isRequest {n : Nat} : ∀ {a_q1 : RequestT} {r : Bool}, G.impl_isRequest n a_q1 = some r → APure Go.Proofs.Tryz.prog 18 [.agg [.c (.lit (.int .i64 a_q1.Method)), .c (.str a_q1.Name), .c (.sl 1 (List.map cS a_q1.Want)), .c (.sl 1 (List.map cS a_q1.Avoid)), .c (.lit (.int .i64 a_q1.Body.Kind)), .c (.lit (.int .i64 a_q1.Body.Num)), .c (.str a_q1.Body.Text), .c (.sl 1 (List.map cS a_q1.Body.Names)), .c (.sl 5 (List.map NodeT.cells a_q1.Body.Kids)), .c (.sl 8 (List.map OpT.cells a_q1.Ops))]] (.one (.c (.lit (.bool r)))) := by
  intro a_q1 r h
  refine fun_pure K.impl_isRequest (ofK ?_)
  unfold C.impl_isRequest
  rcases n with _ | n <;> simp only [G.impl_isRequest, reduceCtorEq] at h
  obtain ⟨zc, zg, zk, zu, ze, zj, zt⟩ := pp (pp @F.impl_isName <| pp @F.impl_areTags <| pp @F.impl_ValidNode <| pp @F.impl_arePatchOps ()) <| pp () <| pp () <| pp () <| pp () <| pp () <| ()
  exact drv
theorem F.impl_IsSafe {n : Nat} : ∀ {a_q1 : RequestT} {r : Bool}, G.impl_IsSafe n a_q1 = some r → APure Go.Proofs.Tryz.prog 9 [.agg [.c (.lit (.int .i64 a_q1.Method)), .c (.str a_q1.Name), .c (.sl 1 (List.map cS a_q1.Want)), .c (.sl 1 (List.map cS a_q1.Avoid)), .c (.lit (.int .i64 a_q1.Body.Kind)), .c (.lit (.int .i64 a_q1.Body.Num)), .c (.str a_q1.Body.Text), .c (.sl 1 (List.map cS a_q1.Body.Names)), .c (.sl 5 (List.map NodeT.cells a_q1.Body.Kids)), .c (.sl 8 (List.map OpT.cells a_q1.Ops))]] (.one (.c (.lit (.bool r)))) := by
  intro a_q1 r h
  refine fun_pure K.impl_IsSafe (ofK ?_)
  unfold C.impl_IsSafe
  rcases n with _ | n <;> simp only [G.impl_IsSafe, reduceCtorEq] at h
  obtain ⟨zc, zg, zk, zu, ze, zj, zt⟩ := pp (pp @F.impl_isRequest ()) <| pp () <| pp () <| pp () <| pp () <| pp () <| ()
  exact drv
theorem F.impl_areRequests {n : Nat} : ∀ {a_list1 : List RequestT} {r : Bool}, G.impl_areRequests n a_list1 = some r → APure Go.Proofs.Tryz.prog 13 [.one (.c (.sl 10 (List.map RequestT.cells a_list1)))] (.one (.c (.lit (.bool r)))) := by
  intro a_list1 r h
  refine fun_pure K.impl_areRequests (ofK ?_)
  unfold C.impl_areRequests
  rcases n with _ | n <;> simp only [G.impl_areRequests, reduceCtorEq] at h
  obtain ⟨zc, zg, zk, zu, ze, zj, zt⟩ := pp (pp @F.impl_isRequest ()) <| pp () <| pp (pp (@lopX (Int) _ (fun n x => G.impl_areRequests.L1 n a_list1 x) r (fun x => ASt.of [(8, .v true (.one (.c (.sl 10 (List.map RequestT.cells a_list1))))), (9, .v true (.one (.c (.lit (.int .i64 ((a_list1.length : Nat) : Int)))))), (10, .v true (.one (.c (.lit (.int .i64 x)))))] [])) ()) <| pp () <| pp (pp (And.intro @G.impl_areRequests.L1.eq_1 <| @G.impl_areRequests.L1.eq_2) ()) <| pp (pp (@weakX [] [] []) ()) <| ()
  exact drv
theorem FZ.slices_Compact_string {n c : Nat} {s r : List Txt} (hc : s.length ≤ c) (h : G.slices_Compact_string n s = some r) :
    ACalls Go.Proofs.Tryz.prog 15 [.one (.sub 0 0 s.length (some c) 1)] [.dat 1 (List.map cS s)]
      (fun r1 b1 => r1 = .one (.own 1 r.length 1) ∧ b1 = [.dead, .dat 1 (List.map cS r)]) := by
  refine fun_sound K.slices_Compact_string (ofK ?_)
  unfold C.slices_Compact_string
  rcases n with _ | n <;> simp only [G.slices_Compact_string, reduceCtorEq] at h
  obtain ⟨zc, zg, zk, zu, ze, zj, zt⟩ := pp () <| pp () <| pp (pp (@lopX Nat _ (fun n x => G.slices_Compact_string.L1 n s x) r (fun x => ASt.of [(0, .v true (.one (.sub 0 0 s.length (some c) 1))), (3, .v true (.one (.c (.lit (.int .i64 (x : Int))))))] [(0, .dat 1 (List.map cS s))])) <|
    pp (@lopX (Nat × Nat × Nat × List Txt) _ (fun n x => G.slices_Compact_string.L2 n s.length x.1 x.2.1 x.2.2.1 x.2.2.2) r (fun x => ASt.of [(0, .v true (.one (.sub 0 0 s.length (some c) 1))), (3, .v true (.one (.c (.lit (.int .i64 (x.2.1 : Int)))))), (4, .v true (.one (.sub 0 x.1 (s.length - x.1) (some (c - x.1)) 1))), (5, .v true (.one (.c (.lit (.int .i64 (x.2.2.1 : Int))))))] [(0, .dat 1 (List.map cS x.2.2.2))])) ()) <|
    pp () <| pp (pp (And.intro @G.slices_Compact_string.L1.eq_1 <| And.intro @G.slices_Compact_string.L1.eq_2 <| And.intro @G.slices_Compact_string.L2.eq_1 @G.slices_Compact_string.L2.eq_2) ()) <| pp (pp (@weakX [] [(0, 0)] []) ()) <| pp (@retX [] [(0, 0), (1, 0)] []) ()
  exact drvS
theorem F.slices_Compact_string {n : Nat} : ∀ {a_s1 : List Txt} {r : List Txt}, G.slices_Compact_string n a_s1 = some r →
    ACalls Go.Proofs.Tryz.prog 15 [.one (.own 0 a_s1.length 1)] [.dat 1 (List.map cS a_s1)]
      (fun r1 b1 => r1 = .one (.own 1 r.length 1) ∧ b1 = [.dead, .dat 1 (List.map cS r)]) := by
  intro s r h
  exact caps_of (fun c hc => FZ.slices_Compact_string (by simpa using hc) h)
theorem F.math_bits_Len64 {n : Nat} : ∀ {a_x1 : Int} {r : Int}, G.math_bits_Len64 n a_x1 = some r → APure Go.Proofs.Tryz.prog 51 [.one (.c (.lit (.int .u64 a_x1)))] (.one (.c (.lit (.int .i64 r)))) := by
  intro a_x1 r h
  refine fun_pure K.math_bits_Len64 (ofK ?_)
  unfold C.math_bits_Len64
  rcases n with _ | n <;> simp only [G.math_bits_Len64, reduceCtorEq] at h
  have := Mk.mk 1; have := Mk.mk 2
  obtain ⟨zc, zg, zk, zu, ze, zj, zt, zq⟩ := pp () <| pp () <| pp () <| pp (pp (@cutX (Int × Int) _ (fun n x => G.math_bits_Len64.K1 n x.1 x.2) r (fun x => ASt.of [(0, .v true (.one (.c (.lit (.int .u64 x.1))))), (2, .v true (.one (.c (.lit (.int .i64 x.2)))))] [])) <| pp (@cutX (Int × Int) _ (fun n x => G.math_bits_Len64.K2 n x.1 x.2) r (fun x => ASt.of [(0, .v true (.one (.c (.lit (.int .u64 x.1))))), (2, .v true (.one (.c (.lit (.int .i64 x.2)))))] [])) ()) <| pp (pp (And.intro @G.math_bits_Len64.K1.eq_1 <| And.intro @G.math_bits_Len64.K1.eq_2 <| And.intro @G.math_bits_Len64.K2.eq_1 <| @G.math_bits_Len64.K2.eq_2) ()) <| pp (pp (@weakX [] [] []) ()) <| pp () <| (pp (pp (rfl : @G.math_bits_Len64.K1 = _) ()) <| pp (pp (rfl : @G.math_bits_Len64.K2 = _) <| pp (rfl : @G.math_bits_Len64.K1 = _) ()) ())
  exact drvM
theorem F.math_bits_Len {n : Nat} : ∀ {a_x1 : Int} {r : Int}, G.math_bits_Len n a_x1 = some r → APure Go.Proofs.Tryz.prog 25 [.one (.c (.lit (.int .u64 a_x1)))] (.one (.c (.lit (.int .i64 r)))) := by
  intro a_x1 r h
  refine fun_pure K.math_bits_Len (ofK ?_)
  unfold C.math_bits_Len
  rcases n with _ | n <;> simp only [G.math_bits_Len, reduceCtorEq] at h
  obtain ⟨zc, zg, zk, zu, ze, zj, zt⟩ := pp (pp @F.math_bits_Len64 ()) <| pp () <| pp () <| pp () <| pp () <| pp () <| ()
  exact drv
theorem F.slices_insertionSortOrdered_string {n : Nat} : ∀ {a_data1 : List Txt} {a_a1 : Int} {a_b1 : Int} {r : List Txt}, G.slices_insertionSortOrdered_string n a_data1 a_a1 a_b1 = some r → ACalls Go.Proofs.Tryz.prog 41 [.one (.own 0 a_data1.length 1), .one (.c (.lit (.int .i64 a_a1))), .one (.c (.lit (.int .i64 a_b1)))] [.dat 1 (List.map cS a_data1)] (fun r1 b1 => r1 = .tup [] ∧ b1 = [.dat 1 (List.map cS r)]) := by
  intro a_data1 a_a1 a_b1 r h
  refine fun_sound K.slices_insertionSortOrdered_string (ofK ?_)
  unfold C.slices_insertionSortOrdered_string
  rcases n with _ | n <;> simp only [G.slices_insertionSortOrdered_string, reduceCtorEq] at h
  obtain ⟨zc, zg, zk, zu, ze, zj, zt⟩ := pp (pp @F.cmp_Less_string ()) <| pp () <| pp (pp (@lopX (Int × List Txt) _ (fun n x => G.slices_insertionSortOrdered_string.L3 n a_a1 a_b1 x.1 x.2) r (fun x => ASt.of [(0, .v true (.one (.own 0 x.2.length 1))), (1, .v true (.one (.c (.lit (.int .i64 a_a1))))), (2, .v true (.one (.c (.lit (.int .i64 a_b1))))), (6, .v true (.one (.c (.lit (.int .i64 x.1)))))] [(0, .dat 1 (List.map cS x.2))])) <| pp (@lopX (Int × Int × List Txt) _ (fun n x => G.slices_insertionSortOrdered_string.L4 n a_a1 a_b1 x.1 x.2.1 x.2.2) r (fun x => ASt.of [(0, .v true (.one (.own 0 x.2.2.length 1))), (1, .v true (.one (.c (.lit (.int .i64 a_a1))))), (2, .v true (.one (.c (.lit (.int .i64 a_b1))))), (6, .v true (.one (.c (.lit (.int .i64 x.1))))), (7, .v true (.one (.c (.lit (.int .i64 x.2.1)))))] [(0, .dat 1 (List.map cS x.2.2))])) ()) <| pp () <| pp (pp (And.intro @G.slices_insertionSortOrdered_string.L3.eq_1 <| And.intro @G.slices_insertionSortOrdered_string.L3.eq_2 <| And.intro @G.slices_insertionSortOrdered_string.L4.eq_1 <| @G.slices_insertionSortOrdered_string.L4.eq_2) ()) <| pp (pp (@weakX [] [(0, 0)] []) ()) <| (pp (@retX [] [(0, 0)] []) ())
  exact drv
theorem F.slices_pdqsortOrdered_string_n : ∀ (n : Nat), ∀ {a_data1 : List Txt} {a_a1 : Int} {a_b1 : Int} {a_limit1 : Int} {r : List Txt}, G.slices_pdqsortOrdered_string n a_data1 a_a1 a_b1 a_limit1 = some r → ACalls Go.Proofs.Tryz.prog 24 [.one (.own 0 a_data1.length 1), .one (.c (.lit (.int .i64 a_a1))), .one (.c (.lit (.int .i64 a_b1))), .one (.c (.lit (.int .i64 a_limit1)))] [.dat 1 (List.map cS a_data1)] (fun r1 b1 => r1 = .tup [] ∧ b1 = [.dat 1 (List.map cS r)]) := by
  intro n
  induction n using Nat.strongRecOn with | _ n ih =>
  intro a_data1 a_a1 a_b1 a_limit1 r h
  refine fun_sound K.slices_pdqsortOrdered_string (ofK ?_)
  unfold C.slices_pdqsortOrdered_string
  rcases n with _ | n <;> simp only [G.slices_pdqsortOrdered_string, reduceCtorEq] at h
  obtain ⟨zc, zg, zk, zu, ze, zj, zt⟩ := pp () <| pp (pp (pp @F.slices_insertionSortOrdered_string (@cG [0] [])) ()) <| pp (pp (@lopX (Unit) _ (fun n x => G.slices_pdqsortOrdered_string.L2 n a_data1 a_a1 a_b1 a_limit1) r (fun x => ASt.of [(0, .v true (.one (.own 0 a_data1.length 1))), (1, .v true (.one (.c (.lit (.int .i64 a_a1))))), (2, .v true (.one (.c (.lit (.int .i64 a_b1))))), (3, .v true (.one (.c (.lit (.int .i64 a_limit1))))), (8, .v true (.one (.c (.lit (.bool true))))), (9, .v true (.one (.c (.lit (.bool true)))))] [(0, .dat 1 (List.map cS a_data1))])) ()) <| pp (pp (@cutX (Unit) _ (fun n x => G.slices_pdqsortOrdered_string.K3 n) r (fun x => ASt.of [(0, .v true (.one (.own 0 a_data1.length 1))), (1, .v true (.one (.c (.lit (.int .i64 a_a1))))), (2, .v true (.one (.c (.lit (.int .i64 a_b1))))), (3, .v true (.one (.c (.lit (.int .i64 a_limit1))))), (8, .v true (.one (.c (.lit (.bool true))))), (9, .v true (.one (.c (.lit (.bool true))))), (10, .v true (.one (.c (.lit (.int .i64 (IntKind.wrap .i64 (a_b1 - a_a1))))))), (35, .v true (.one (.c (.lit (.bool false)))))] [(0, .dat 1 (List.map cS a_data1))])) ()) <| pp (pp (And.intro @G.slices_pdqsortOrdered_string.L2.eq_1 <| And.intro @G.slices_pdqsortOrdered_string.L2.eq_2 <| And.intro @G.slices_pdqsortOrdered_string.K3.eq_1 <| @G.slices_pdqsortOrdered_string.K3.eq_2) ()) <| pp (pp (@weakX [] [(0, 0)] []) ()) <| (pp (@retX [] [(0, 0)] []) ())
  exact drv
theorem F.slices_pdqsortOrdered_string {n : Nat} : ∀ {a_data1 : List Txt} {a_a1 : Int} {a_b1 : Int} {a_limit1 : Int} {r : List Txt}, G.slices_pdqsortOrdered_string n a_data1 a_a1 a_b1 a_limit1 = some r → ACalls Go.Proofs.Tryz.prog 24 [.one (.own 0 a_data1.length 1), .one (.c (.lit (.int .i64 a_a1))), .one (.c (.lit (.int .i64 a_b1))), .one (.c (.lit (.int .i64 a_limit1)))] [.dat 1 (List.map cS a_data1)] (fun r1 b1 => r1 = .tup [] ∧ b1 = [.dat 1 (List.map cS r)]) := F.slices_pdqsortOrdered_string_n n
theorem F.slices_Sort_string {n : Nat} : ∀ {a_x1 : List Txt} {r : List Txt}, G.slices_Sort_string n a_x1 = some r → ACalls Go.Proofs.Tryz.prog 14 [.one (.own 0 a_x1.length 1)] [.dat 1 (List.map cS a_x1)] (fun r1 b1 => r1 = .tup [] ∧ b1 = [.dat 1 (List.map cS r)]) := by
  intro a_x1 r h
  refine fun_sound K.slices_Sort_string (ofK ?_)
  unfold C.slices_Sort_string
  rcases n with _ | n <;> simp only [G.slices_Sort_string, reduceCtorEq] at h
  obtain ⟨zc, zg, zk, zu, ze, zj, zt⟩ := pp (pp @F.math_bits_Len ()) <| pp (pp (pp @F.slices_pdqsortOrdered_string (@cG [0] [])) ()) <| pp () <| pp () <| pp () <| pp () <| (pp (@retX [] [(0, 0)] []) ())
  exact drv
theorem F.impl_Touches {n : Nat} : ∀ {a_list1 : List RequestT} {r : List Txt}, G.impl_Touches n a_list1 = some r → APure Go.Proofs.Tryz.prog 6 [.one (.c (.sl 10 (List.map RequestT.cells a_list1)))] (.one (.c (.sl 1 (List.map cS r)))) := by
  intro a_list1 r h
  refine fun_pure K.impl_Touches (ofK ?_)
  unfold C.impl_Touches
  rcases n with _ | n <;> simp only [G.impl_Touches, reduceCtorEq] at h
  obtain ⟨zc, zg, zk, zu, ze, zj, zt⟩ := pp (pp @F.impl_areRequests <| pp @F.impl_IsSafe ()) <| pp (pp (pp @F.slices_Sort_string (@cG [102] [])) <| pp (pp @F.slices_Compact_string (@cG [102] [103])) ()) <| pp (pp (@lopX (Int × List Txt) _ (fun n x => G.impl_Touches.L1 n a_list1 x.1 x.2) r (fun x => ASt.of [(3, .v true (.one (.own 102 x.2.length 1))), (9, .v true (.one (.c (.sl 10 (List.map RequestT.cells a_list1))))), (10, .v true (.one (.c (.lit (.int .i64 ((a_list1.length : Nat) : Int)))))), (11, .v true (.one (.c (.lit (.int .i64 x.1)))))] [(102, .dat 1 (List.map cS x.2))])) ()) <| pp () <| pp (pp (And.intro @G.impl_Touches.L1.eq_1 <| @G.impl_Touches.L1.eq_2) ()) <| pp (pp (@weakX [] [] [102]) <| pp (@weakX [] [(102, 102)] []) <| pp (@weakX [] [(102, 12)] []) ()) <| ()
  exact drv
theorem F.laws_equalTexts {n : Nat} : ∀ {a_a1 : List Txt} {a_b1 : List Txt} {r : Bool}, G.laws_equalTexts n a_a1 a_b1 = some r → APure Go.Proofs.Tryz.prog 7 [.one (.c (.sl 1 (List.map cS a_a1))), .one (.c (.sl 1 (List.map cS a_b1)))] (.one (.c (.lit (.bool r)))) := by
  intro a_a1 a_b1 r h
  refine fun_pure K.laws_equalTexts (ofK ?_)
  unfold C.laws_equalTexts
  rcases n with _ | n <;> simp only [G.laws_equalTexts, reduceCtorEq] at h
  obtain ⟨zc, zg, zk, zu, ze, zj, zt⟩ := pp () <| pp () <| pp (pp (@lopX (Int) _ (fun n x => G.laws_equalTexts.L1 n a_a1 a_b1 x) r (fun x => ASt.of [(0, .v true (.one (.c (.sl 1 (List.map cS a_a1))))), (1, .v true (.one (.c (.sl 1 (List.map cS a_b1))))), (5, .v true (.one (.c (.lit (.int .i64 x)))))] [])) ()) <| pp () <| pp (pp (And.intro @G.laws_equalTexts.L1.eq_1 <| @G.laws_equalTexts.L1.eq_2) ()) <| pp (pp (@weakX [] [] []) ()) <| ()
  exact drv
theorem F.spec_copyNode_n : ∀ (n : Nat), ∀ {a_n1 : NodeT} {r : NodeT}, G.spec_copyNode n a_n1 = some r → APure Go.Proofs.Tryz.prog 64 [.agg [.c (.lit (.int .i64 a_n1.Kind)), .c (.lit (.int .i64 a_n1.Num)), .c (.str a_n1.Text), .c (.sl 1 (List.map cS a_n1.Names)), .c (.sl 5 (List.map NodeT.cells a_n1.Kids))]] (.agg [.c (.lit (.int .i64 r.Kind)), .c (.lit (.int .i64 r.Num)), .c (.str r.Text), .c (.sl 1 (List.map cS r.Names)), .c (.sl 5 (List.map NodeT.cells r.Kids))]) := by
  intro n
  induction n using Nat.strongRecOn with | _ n ih =>
  intro a_n1 r h
  refine fun_pure K.spec_copyNode (ofK ?_)
  unfold C.spec_copyNode
  rcases n with _ | n <;> simp only [G.spec_copyNode, reduceCtorEq] at h
  obtain ⟨zc, zg, zk, zu, ze, zj, zt⟩ := pp (pp ih ()) <| pp () <| pp (pp (@lopX (Int × List NodeT) _ (fun n x => G.spec_copyNode.L1 n a_n1 x.1 x.2) r (fun x => ASt.of [(1, .v true (.one (.ptr 107 0))), (2, .v true (.one (.ptr 108 0))), (3, .v true (.one (.own 109 x.2.length 5))), (4, .v true (.one (.c (.lit (.int .i64 x.1)))))] [(107, .var [.c (.lit (.int .i64 a_n1.Kind)), .c (.lit (.int .i64 a_n1.Num)), .c (.str a_n1.Text), .c (.sl 1 (List.map cS a_n1.Names)), .c (.sl 5 (List.map NodeT.cells a_n1.Kids))]), (108, .var [.c (.lit (.int .i64 0)), .c (.lit (.int .i64 0)), .c (.str []), .nsl 1, .nsl 5]), (109, .dat 5 (List.map NodeT.cells x.2))])) ()) <| pp () <| pp (pp (And.intro @G.spec_copyNode.L1.eq_1 <| @G.spec_copyNode.L1.eq_2) ()) <| pp (pp (@weakX [] [(107, 10), (108, 11), (109, 12)] []) <| pp (@weakX [] [(107, 107), (108, 108), (109, 14)] []) ()) <| ()
  exact drv
theorem F.spec_copyNode {n : Nat} : ∀ {a_n1 : NodeT} {r : NodeT}, G.spec_copyNode n a_n1 = some r → APure Go.Proofs.Tryz.prog 64 [.agg [.c (.lit (.int .i64 a_n1.Kind)), .c (.lit (.int .i64 a_n1.Num)), .c (.str a_n1.Text), .c (.sl 1 (List.map cS a_n1.Names)), .c (.sl 5 (List.map NodeT.cells a_n1.Kids))]] (.agg [.c (.lit (.int .i64 r.Kind)), .c (.lit (.int .i64 r.Num)), .c (.str r.Text), .c (.sl 1 (List.map cS r.Names)), .c (.sl 5 (List.map NodeT.cells r.Kids))]) := F.spec_copyNode_n n
theorem F.spec_copyNode_o {n : Nat} : ∀ {a_n1 : NodeT} {r : NodeT}, G.spec_copyNode n a_n1 = some r → ACalls Go.Proofs.Tryz.prog 64 [.agg [.c (.lit (.int .i64 a_n1.Kind)), .c (.lit (.int .i64 a_n1.Num)), .c (.str a_n1.Text), .c (.sl 1 (List.map cS a_n1.Names)), .c (.sl 5 (List.map NodeT.cells a_n1.Kids))]] [] (fun r1 b1 => r1 = .agg [.c (.lit (.int .i64 r.Kind)), .c (.lit (.int .i64 r.Num)), .c (.str r.Text), .own 0 r.Names.length 1, .own 1 r.Kids.length 5] ∧ b1 = [.dat 1 (List.map cS r.Names), .dat 5 (List.map NodeT.cells r.Kids)]) := by
  intro a_n1 r h
  refine fun_sound K.spec_copyNode (ofK ?_)
  unfold C.spec_copyNode
  rcases n with _ | n <;> simp only [G.spec_copyNode, reduceCtorEq] at h
  obtain ⟨zc, zg, zk, zu, ze, zj, zt⟩ := pp (pp @F.spec_copyNode ()) <| pp () <| pp (pp (@lopX (Int × List NodeT) _ (fun n x => G.spec_copyNode.L1 n a_n1 x.1 x.2) r (fun x => ASt.of [(1, .v true (.one (.ptr 107 0))), (2, .v true (.one (.ptr 108 0))), (3, .v true (.one (.own 109 x.2.length 5))), (4, .v true (.one (.c (.lit (.int .i64 x.1)))))] [(107, .var [.c (.lit (.int .i64 a_n1.Kind)), .c (.lit (.int .i64 a_n1.Num)), .c (.str a_n1.Text), .c (.sl 1 (List.map cS a_n1.Names)), .c (.sl 5 (List.map NodeT.cells a_n1.Kids))]), (108, .var [.c (.lit (.int .i64 0)), .c (.lit (.int .i64 0)), .c (.str []), .nsl 1, .nsl 5]), (109, .dat 5 (List.map NodeT.cells x.2))])) ()) <| pp () <| pp (pp (And.intro @G.spec_copyNode.L1.eq_1 <| @G.spec_copyNode.L1.eq_2) ()) <| pp (pp (@weakX [] [(107, 10), (108, 11), (109, 12)] []) <| pp (@weakX [] [(107, 107), (108, 108), (109, 14)] []) ()) <| (pp (@retX [] [(0, 16), (1, 109)] []) ())
  exact drv
theorem F.spec_reader_pick {n : Nat} : ∀ {p_r1 : ReaderT} {a_n1 : Int} {r : Int × ReaderT}, G.spec_reader_pick n p_r1 a_n1 = some r → ACalls Go.Proofs.Tryz.prog 22 [.one (.ptr 0 0), .one (.c (.lit (.int .i64 a_n1)))] [.var [.c (.sl 1 (List.map cU p_r1.b)), .c (.lit (.int .i64 p_r1.p))]] (fun r1 b1 => r1 = .one (.c (.lit (.int .i64 r.1))) ∧ b1 = [.var [.c (.sl 1 (List.map cU r.2.b)), .c (.lit (.int .i64 r.2.p))]]) := by
  intro p_r1 a_n1 r h
  refine fun_sound K.spec_reader_pick (ofK ?_)
  unfold C.spec_reader_pick
  rcases n with _ | n <;> simp only [G.spec_reader_pick, reduceCtorEq] at h
  obtain ⟨zc, zg, zk, zu, ze, zj, zt⟩ := pp () <| pp () <| pp () <| pp () <| pp () <| pp () <| (pp (@retX [] [(0, 0)] []) ())
  exact drv
theorem F.spec_reader_one {n : Nat} : ∀ {p_r1 : ReaderT} {a_list1 : List Int} {r : Int × ReaderT}, G.spec_reader_one n p_r1 a_list1 = some r → ACalls Go.Proofs.Tryz.prog 20 [.one (.ptr 0 0), .one (.c (.sl 1 (List.map cI a_list1)))] [.var [.c (.sl 1 (List.map cU p_r1.b)), .c (.lit (.int .i64 p_r1.p))]] (fun r1 b1 => r1 = .one (.c (.lit (.int .i64 r.1))) ∧ b1 = [.var [.c (.sl 1 (List.map cU r.2.b)), .c (.lit (.int .i64 r.2.p))]]) := by
  intro p_r1 a_list1 r h
  refine fun_sound K.spec_reader_one (ofK ?_)
  unfold C.spec_reader_one
  rcases n with _ | n <;> simp only [G.spec_reader_one, reduceCtorEq] at h
  obtain ⟨zc, zg, zk, zu, ze, zj, zt⟩ := pp () <| pp (pp (pp @F.spec_reader_pick (@cG [0] [])) ()) <| pp () <| pp () <| pp () <| pp () <| (pp (@retX [] [(0, 0)] []) ())
  exact drv
theorem F.spec_decimal_n : ∀ (n : Nat), ∀ {a_n1 : Int} {r : Txt}, G.spec_decimal n a_n1 = some r → APure Go.Proofs.Tryz.prog 94 [.one (.c (.lit (.int .i64 a_n1)))] (.one (.c (.str r))) := by
  intro n
  induction n using Nat.strongRecOn with | _ n ih =>
  intro a_n1 r h
  refine fun_pure K.spec_decimal (ofK ?_)
  unfold C.spec_decimal
  rcases n with _ | n <;> simp only [G.spec_decimal, reduceCtorEq] at h
  obtain ⟨zc, zg, zk, zu, ze, zj, zt⟩ := pp (pp ih ()) <| pp () <| pp () <| pp () <| pp () <| pp () <| ()
  exact drv
theorem F.spec_decimal {n : Nat} : ∀ {a_n1 : Int} {r : Txt}, G.spec_decimal n a_n1 = some r → APure Go.Proofs.Tryz.prog 94 [.one (.c (.lit (.int .i64 a_n1)))] (.one (.c (.str r))) := F.spec_decimal_n n
theorem F.spec_place {n : Nat} : ∀ {a_n1 : NodeT} {a_step1 : Txt} {r : Int}, G.spec_place n a_n1 a_step1 = some r → APure Go.Proofs.Tryz.prog 98 [.agg [.c (.lit (.int .i64 a_n1.Kind)), .c (.lit (.int .i64 a_n1.Num)), .c (.str a_n1.Text), .c (.sl 1 (List.map cS a_n1.Names)), .c (.sl 5 (List.map NodeT.cells a_n1.Kids))], .one (.c (.str a_step1))] (.one (.c (.lit (.int .i64 r)))) := by
  intro a_n1 a_step1 r h
  refine fun_pure K.spec_place (ofK ?_)
  unfold C.spec_place
  rcases n with _ | n <;> simp only [G.spec_place, reduceCtorEq] at h
  obtain ⟨zc, zg, zk, zu, ze, zj, zt⟩ := pp (pp @F.spec_decimal ()) <| pp () <| pp (pp (@lopX (Int) _ (fun n x => G.spec_place.L1 n a_n1 a_step1 x) r (fun x => ASt.of [(1, .v true (.one (.c (.str a_step1)))), (2, .v true (.one (.ptr 103 0))), (5, .v true (.one (.c (.lit (.int .i64 x)))))] [(103, .var [.c (.lit (.int .i64 a_n1.Kind)), .c (.lit (.int .i64 a_n1.Num)), .c (.str a_n1.Text), .c (.sl 1 (List.map cS a_n1.Names)), .c (.sl 5 (List.map NodeT.cells a_n1.Kids))])])) ()) <| pp () <| pp (pp (And.intro @G.spec_place.L1.eq_1 <| @G.spec_place.L1.eq_2) ()) <| pp (pp (@weakX [] [(103, 10)] []) <| pp (@weakX [] [(103, 103)] []) ()) <| ()
  exact drv
theorem F.spec_slot {n : Nat} : ∀ {a_n1 : NodeT} {a_step1 : Txt} {r : Int × Bool}, G.spec_slot n a_n1 a_step1 = some r → APure Go.Proofs.Tryz.prog 111 [.agg [.c (.lit (.int .i64 a_n1.Kind)), .c (.lit (.int .i64 a_n1.Num)), .c (.str a_n1.Text), .c (.sl 1 (List.map cS a_n1.Names)), .c (.sl 5 (List.map NodeT.cells a_n1.Kids))], .one (.c (.str a_step1))] (.tup [(false, [.c (.lit (.int .i64 r.1))]), (false, [.c (.lit (.bool r.2))])]) := by
  intro a_n1 a_step1 r h
  refine fun_pure K.spec_slot (ofK ?_)
  unfold C.spec_slot
  rcases n with _ | n <;> simp only [G.spec_slot, reduceCtorEq] at h
  obtain ⟨zc, zg, zk, zu, ze, zj, zt⟩ := pp (pp @F.spec_place <| pp @F.spec_decimal ()) <| pp () <| pp (pp (@lopX (Int) _ (fun n x => G.spec_slot.L1 n a_n1 a_step1 x) r (fun x => ASt.of [(1, .v true (.one (.c (.str a_step1)))), (2, .v true (.one (.ptr 103 0))), (7, .v true (.one (.c (.lit (.int .i64 x)))))] [(103, .var [.c (.lit (.int .i64 a_n1.Kind)), .c (.lit (.int .i64 a_n1.Num)), .c (.str a_n1.Text), .c (.sl 1 (List.map cS a_n1.Names)), .c (.sl 5 (List.map NodeT.cells a_n1.Kids))])])) <| pp (@lopX (Int) _ (fun n x => G.spec_slot.L2 n a_n1 a_step1 x) r (fun x => ASt.of [(1, .v true (.one (.c (.str a_step1)))), (2, .v true (.one (.ptr 106 0))), (7, .v true (.one (.c (.lit (.int .i64 x)))))] [(106, .var [.c (.lit (.int .i64 a_n1.Kind)), .c (.lit (.int .i64 a_n1.Num)), .c (.str a_n1.Text), .c (.sl 1 (List.map cS a_n1.Names)), .c (.sl 5 (List.map NodeT.cells a_n1.Kids))])])) ()) <| pp () <| pp (pp (And.intro @G.spec_slot.L1.eq_1 <| And.intro @G.spec_slot.L1.eq_2 <| And.intro @G.spec_slot.L2.eq_1 <| @G.spec_slot.L2.eq_2) ()) <| pp (pp (@weakX [] [(103, 10)] []) <| pp (@weakX [] [(103, 103)] []) <| pp (@weakX [] [(106, 10)] []) <| pp (@weakX [] [(106, 106)] []) ()) <| ()
  exact drv
theorem F.spec_withKid {n : Nat} : ∀ {a_n1 : NodeT} {a_k1 : Int} {a_kid1 : NodeT} {r : NodeT}, G.spec_withKid n a_n1 a_k1 a_kid1 = some r → APure Go.Proofs.Tryz.prog 100 [.agg [.c (.lit (.int .i64 a_n1.Kind)), .c (.lit (.int .i64 a_n1.Num)), .c (.str a_n1.Text), .c (.sl 1 (List.map cS a_n1.Names)), .c (.sl 5 (List.map NodeT.cells a_n1.Kids))], .one (.c (.lit (.int .i64 a_k1))), .agg [.c (.lit (.int .i64 a_kid1.Kind)), .c (.lit (.int .i64 a_kid1.Num)), .c (.str a_kid1.Text), .c (.sl 1 (List.map cS a_kid1.Names)), .c (.sl 5 (List.map NodeT.cells a_kid1.Kids))]] (.agg [.c (.lit (.int .i64 r.Kind)), .c (.lit (.int .i64 r.Num)), .c (.str r.Text), .c (.sl 1 (List.map cS r.Names)), .c (.sl 5 (List.map NodeT.cells r.Kids))]) := by
  intro a_n1 a_k1 a_kid1 r h
  refine fun_pure K.spec_withKid (ofK ?_)
  unfold C.spec_withKid
  rcases n with _ | n <;> simp only [G.spec_withKid, reduceCtorEq] at h
  obtain ⟨zc, zg, zk, zu, ze, zj, zt⟩ := pp () <| pp (pp (pp @F.spec_copyNode_o (@cG [] [101, 102])) <| pp (pp @F.spec_copyNode_o (@cG [] [103, 104])) ()) <| pp () <| pp () <| pp () <| pp () <| ()
  exact drv
theorem F.spec_withKid_o {n : Nat} : ∀ {a_n1 : NodeT} {a_k1 : Int} {a_kid1 : NodeT} {r : NodeT}, G.spec_withKid n a_n1 a_k1 a_kid1 = some r → ACalls Go.Proofs.Tryz.prog 100 [.agg [.c (.lit (.int .i64 a_n1.Kind)), .c (.lit (.int .i64 a_n1.Num)), .c (.str a_n1.Text), .c (.sl 1 (List.map cS a_n1.Names)), .c (.sl 5 (List.map NodeT.cells a_n1.Kids))], .one (.c (.lit (.int .i64 a_k1))), .agg [.c (.lit (.int .i64 a_kid1.Kind)), .c (.lit (.int .i64 a_kid1.Num)), .c (.str a_kid1.Text), .c (.sl 1 (List.map cS a_kid1.Names)), .c (.sl 5 (List.map NodeT.cells a_kid1.Kids))]] [] (fun r1 b1 => r1 = .agg [.c (.lit (.int .i64 r.Kind)), .c (.lit (.int .i64 r.Num)), .c (.str r.Text), .own 0 r.Names.length 1, .own 1 r.Kids.length 5] ∧ b1 = [.dat 1 (List.map cS r.Names), .dat 5 (List.map NodeT.cells r.Kids)]) := by
  intro a_n1 a_k1 a_kid1 r h
  refine fun_sound K.spec_withKid (ofK ?_)
  unfold C.spec_withKid
  rcases n with _ | n <;> simp only [G.spec_withKid, reduceCtorEq] at h
  obtain ⟨zc, zg, zk, zu, ze, zj, zt⟩ := pp () <| pp (pp (pp @F.spec_copyNode_o (@cG [] [101, 102])) <| pp (pp @F.spec_copyNode_o (@cG [] [103, 104])) ()) <| pp () <| pp () <| pp () <| pp () <| (pp (@retX [] [(0, 101), (1, 102)] []) ())
  exact drv
theorem F.spec_addHere {n : Nat} : ∀ {a_n1 : NodeT} {a_step1 : Txt} {a_value1 : NodeT} {r : NodeT × Bool}, G.spec_addHere n a_n1 a_step1 a_value1 = some r → APure Go.Proofs.Tryz.prog 99 [.agg [.c (.lit (.int .i64 a_n1.Kind)), .c (.lit (.int .i64 a_n1.Num)), .c (.str a_n1.Text), .c (.sl 1 (List.map cS a_n1.Names)), .c (.sl 5 (List.map NodeT.cells a_n1.Kids))], .one (.c (.str a_step1)), .agg [.c (.lit (.int .i64 a_value1.Kind)), .c (.lit (.int .i64 a_value1.Num)), .c (.str a_value1.Text), .c (.sl 1 (List.map cS a_value1.Names)), .c (.sl 5 (List.map NodeT.cells a_value1.Kids))]] (.tup [(true, [.c (.lit (.int .i64 r.1.Kind)), .c (.lit (.int .i64 r.1.Num)), .c (.str r.1.Text), .c (.sl 1 (List.map cS r.1.Names)), .c (.sl 5 (List.map NodeT.cells r.1.Kids))]), (false, [.c (.lit (.bool r.2))])]) := by
  intro a_n1 a_step1 a_value1 r h
  refine fun_pure K.spec_addHere (ofK ?_)
  unfold C.spec_addHere
  rcases n with _ | n <;> simp only [G.spec_addHere, reduceCtorEq] at h
  obtain ⟨zc, zg, zk, zu, ze, zj, zt⟩ := pp (pp @F.spec_slot <| pp @F.spec_withKid <| pp @F.spec_copyNode ()) <| pp () <| pp () <| pp () <| pp () <| pp () <| ()
  exact drv
theorem F.spec_addHere_o {n : Nat} : ∀ {a_n1 : NodeT} {a_step1 : Txt} {a_value1 : NodeT} {r : NodeT × Bool}, G.spec_addHere n a_n1 a_step1 a_value1 = some r → ACalls Go.Proofs.Tryz.prog 99 [.agg [.c (.lit (.int .i64 a_n1.Kind)), .c (.lit (.int .i64 a_n1.Num)), .c (.str a_n1.Text), .c (.sl 1 (List.map cS a_n1.Names)), .c (.sl 5 (List.map NodeT.cells a_n1.Kids))], .one (.c (.str a_step1)), .agg [.c (.lit (.int .i64 a_value1.Kind)), .c (.lit (.int .i64 a_value1.Num)), .c (.str a_value1.Text), .c (.sl 1 (List.map cS a_value1.Names)), .c (.sl 5 (List.map NodeT.cells a_value1.Kids))]] [] (fun r1 b1 => r1 = .tup [(true, [.c (.lit (.int .i64 r.1.Kind)), .c (.lit (.int .i64 r.1.Num)), .c (.str r.1.Text), .own 0 r.1.Names.length 1, .own 1 r.1.Kids.length 5]), (false, [.c (.lit (.bool r.2))])] ∧ b1 = [.dat 1 (List.map cS r.1.Names), .dat 5 (List.map NodeT.cells r.1.Kids)]) := by
  intro a_n1 a_step1 a_value1 r h
  refine fun_sound K.spec_addHere (ofK ?_)
  unfold C.spec_addHere
  rcases n with _ | n <;> simp only [G.spec_addHere, reduceCtorEq] at h
  obtain ⟨zc, zg, zk, zu, ze, zj, zt⟩ := pp (pp @F.spec_slot <| pp @F.spec_copyNode ()) <| pp (pp (pp @F.spec_withKid_o (@cG [] [101, 102])) ()) <| pp () <| pp () <| pp () <| pp () <| (pp (@retX [] [] [0, 1]) <| pp (@retX [] [(0, 101), (1, 102)] []) <| pp (@retX [] [(0, 19), (1, 18)] []) <| pp (@retX [] [(0, 24), (1, 18)] []) ())
  exact drv
theorem F.spec_reader_of {n : Nat} : ∀ {p_r1 : ReaderT} {a_list1 : List Txt} {r : Txt × ReaderT}, G.spec_reader_of n p_r1 a_list1 = some r → ACalls Go.Proofs.Tryz.prog 63 [.one (.ptr 0 0), .one (.c (.sl 1 (List.map cS a_list1)))] [.var [.c (.sl 1 (List.map cU p_r1.b)), .c (.lit (.int .i64 p_r1.p))]] (fun r1 b1 => r1 = .one (.c (.str r.1)) ∧ b1 = [.var [.c (.sl 1 (List.map cU r.2.b)), .c (.lit (.int .i64 r.2.p))]]) := by
  intro p_r1 a_list1 r h
  refine fun_sound K.spec_reader_of (ofK ?_)
  unfold C.spec_reader_of
  rcases n with _ | n <;> simp only [G.spec_reader_of, reduceCtorEq] at h
  obtain ⟨zc, zg, zk, zu, ze, zj, zt⟩ := pp () <| pp (pp (pp @F.spec_reader_pick (@cG [0] [])) ()) <| pp () <| pp () <| pp () <| pp () <| (pp (@retX [] [(0, 0)] []) ())
  exact drv
theorem F.spec_someText {n : Nat} : ∀ {p_r1 : ReaderT} {r : Txt × ReaderT}, G.spec_someText n p_r1 = some r → ACalls Go.Proofs.Tryz.prog 96 [.one (.ptr 0 0)] [.var [.c (.sl 1 (List.map cU p_r1.b)), .c (.lit (.int .i64 p_r1.p))]] (fun r1 b1 => r1 = .one (.c (.str r.1)) ∧ b1 = [.var [.c (.sl 1 (List.map cU r.2.b)), .c (.lit (.int .i64 r.2.p))]]) := by
  intro p_r1 r h
  refine fun_sound K.spec_someText (ofK ?_)
  unfold C.spec_someText
  rcases n with _ | n <;> simp only [G.spec_someText, reduceCtorEq] at h
  obtain ⟨zc, zg, zk, zu, ze, zj, zt⟩ := pp () <| pp (pp (pp @F.spec_reader_of (@cH [0] [])) ()) <| pp () <| pp () <| pp () <| pp () <| (pp (@retX [] [(0, 0)] []) ())
  exact drv
theorem F.spec_someName {n : Nat} : ∀ {p_r1 : ReaderT} {r : Txt × ReaderT}, G.spec_someName n p_r1 = some r → ACalls Go.Proofs.Tryz.prog 97 [.one (.ptr 0 0)] [.var [.c (.sl 1 (List.map cU p_r1.b)), .c (.lit (.int .i64 p_r1.p))]] (fun r1 b1 => r1 = .one (.c (.str r.1)) ∧ b1 = [.var [.c (.sl 1 (List.map cU r.2.b)), .c (.lit (.int .i64 r.2.p))]]) := by
  intro p_r1 r h
  refine fun_sound K.spec_someName (ofK ?_)
  unfold C.spec_someName
  rcases n with _ | n <;> simp only [G.spec_someName, reduceCtorEq] at h
  obtain ⟨zc, zg, zk, zu, ze, zj, zt⟩ := pp () <| pp (pp (pp @F.spec_reader_of (@cH [0] [])) ()) <| pp () <| pp () <| pp () <| pp () <| (pp (@retX [] [(0, 0)] []) ())
  exact drv
theorem F.scc_spec_randomMap : ∀ (n : Nat), (∀ {p_r1 : ReaderT} {a_depth1 : Int} {r : NodeT × ReaderT}, G.spec_randomMap n p_r1 a_depth1 = some r → ACalls Go.Proofs.Tryz.prog 72 [.one (.ptr 0 0), .one (.c (.lit (.int .i64 a_depth1)))] [.var [.c (.sl 1 (List.map cU p_r1.b)), .c (.lit (.int .i64 p_r1.p))]] (fun r1 b1 => r1 = .agg [.c (.lit (.int .i64 r.1.Kind)), .c (.lit (.int .i64 r.1.Num)), .c (.str r.1.Text), .c (.sl 1 (List.map cS r.1.Names)), .c (.sl 5 (List.map NodeT.cells r.1.Kids))] ∧ b1 = [.var [.c (.sl 1 (List.map cU r.2.b)), .c (.lit (.int .i64 r.2.p))]])) ∧ (∀ {p_r1 : ReaderT} {a_depth1 : Int} {r : NodeT × ReaderT}, G.spec_randomNode n p_r1 a_depth1 = some r → ACalls Go.Proofs.Tryz.prog 71 [.one (.ptr 0 0), .one (.c (.lit (.int .i64 a_depth1)))] [.var [.c (.sl 1 (List.map cU p_r1.b)), .c (.lit (.int .i64 p_r1.p))]] (fun r1 b1 => r1 = .agg [.c (.lit (.int .i64 r.1.Kind)), .c (.lit (.int .i64 r.1.Num)), .c (.str r.1.Text), .c (.sl 1 (List.map cS r.1.Names)), .c (.sl 5 (List.map NodeT.cells r.1.Kids))] ∧ b1 = [.var [.c (.sl 1 (List.map cU r.2.b)), .c (.lit (.int .i64 r.2.p))]])) := by
  intro n
  induction n using Nat.strongRecOn with | _ n ih =>
  refine ⟨?_, ?_⟩
  · intro p_r1 a_depth1 r h
    refine fun_sound K.spec_randomMap (ofK ?_)
    unfold C.spec_randomMap
    rcases n with _ | n <;> simp only [G.spec_randomMap, reduceCtorEq] at h
    obtain ⟨zc, zg, zk, zu, ze, zj, zt⟩ := pp (pp @F.spec_place <| pp @F.spec_addHere ()) <| pp (pp (pp (ihR ih) (@cG [0] [])) <| pp (pp @F.spec_reader_one (@cH [0] [])) <| pp (pp @F.spec_someName (@cG [0] [])) ()) <| pp (pp (@lopX (Int × List Int × Int × Int × Int × Txt × List Txt × List NodeT) _ (fun n x => G.spec_randomMap.L1 n a_depth1 x.1 x.2.1 x.2.2.1 x.2.2.2.1 x.2.2.2.2.1 x.2.2.2.2.2.1 x.2.2.2.2.2.2.1 x.2.2.2.2.2.2.2) r (fun x => ASt.of [(0, .v true (.one (.ptr 0 0))), (1, .v true (.one (.c (.lit (.int .i64 a_depth1))))), (4, .v true (.one (.ptr 107 0))), (5, .v true (.one (.ptr 108 0))), (6, .v true (.one (.c (.lit (.int .i64 x.1)))))] [(0, .var [.c (.sl 1 (List.map cU x.2.1)), .c (.lit (.int .i64 x.2.2.1))]), (107, .var [.c (.lit (.int .i64 0)), .c (.lit (.int .i64 0)), .c (.str []), .nsl 1, .nsl 5]), (108, .var [.c (.lit (.int .i64 x.2.2.2.1)), .c (.lit (.int .i64 x.2.2.2.2.1)), .c (.str x.2.2.2.2.2.1), .c (.sl 1 (List.map cS x.2.2.2.2.2.2.1)), .c (.sl 5 (List.map NodeT.cells x.2.2.2.2.2.2.2))])])) ()) <| pp () <| pp (pp (And.intro @G.spec_randomMap.L1.eq_1 <| @G.spec_randomMap.L1.eq_2) ()) <| pp (pp (@weakX [11, 12] [(0, 0), (107, 10), (108, 13)] []) <| pp (@weakX [] [(0, 0), (107, 107), (108, 108)] []) ()) <| (pp (@retX [] [(0, 0)] []) ())
    exact drv
  · intro p_r1 a_depth1 r h
    refine fun_sound K.spec_randomNode (ofK ?_)
    unfold C.spec_randomNode
    rcases n with _ | n <;> simp only [G.spec_randomNode, reduceCtorEq] at h
    obtain ⟨zc, zg, zk, zu, ze, zj, zt⟩ := pp () <| pp (pp (pp (ihR ih) (@cG [0] [])) <| pp (pp (ihL ih) (@cG [0] [])) <| pp (pp @F.spec_reader_pick (@cG [0] [])) <| pp (pp @F.spec_reader_one (@cH [0] [])) <| pp (pp @F.spec_someText (@cG [0] [])) ()) <| pp (pp (@lopX (Int × Int × List Int × Int × List NodeT) _ (fun n x => G.spec_randomNode.L2 n a_depth1 x.1 x.2.1 x.2.2.1 x.2.2.2.1 x.2.2.2.2) r (fun x => ASt.of [(0, .v true (.one (.ptr 0 0))), (1, .v true (.one (.c (.lit (.int .i64 a_depth1))))), (4, .v true (.one (.ptr 106 0))), (5, .v true (.one (.c (.lit (.int .i64 x.1))))), (6, .v true (.one (.own 107 x.2.2.2.2.length 5))), (7, .v true (.one (.c (.lit (.int .i64 x.2.1)))))] [(0, .var [.c (.sl 1 (List.map cU x.2.2.1)), .c (.lit (.int .i64 x.2.2.2.1))]), (106, .var [.c (.lit (.int .i64 0)), .c (.lit (.int .i64 0)), .c (.str []), .nsl 1, .nsl 5]), (107, .dat 5 (List.map NodeT.cells x.2.2.2.2))])) ()) <| pp (pp (@cutX (Int × List Int × Int) _ (fun n x => G.spec_randomNode.K1 n a_depth1 x.1 x.2.1 x.2.2) r (fun x => ASt.of [(0, .v true (.one (.ptr 0 0))), (1, .v true (.one (.c (.lit (.int .i64 a_depth1))))), (4, .v true (.one (.ptr 101 0))), (5, .v true (.one (.c (.lit (.int .i64 x.1)))))] [(0, .var [.c (.sl 1 (List.map cU x.2.1)), .c (.lit (.int .i64 x.2.2))]), (101, .var [.c (.lit (.int .i64 0)), .c (.lit (.int .i64 0)), .c (.str []), .nsl 1, .nsl 5])])) ()) <| pp (pp (And.intro @G.spec_randomNode.K1.eq_1 <| And.intro @G.spec_randomNode.K1.eq_2 <| And.intro @G.spec_randomNode.L2.eq_1 <| @G.spec_randomNode.L2.eq_2) ()) <| pp (pp (@weakX [] [(0, 0), (101, 10)] []) <| pp (@weakX [] [(0, 0), (106, 101), (107, 12)] []) <| pp (@weakX [] [(0, 0), (106, 106), (107, 14)] []) ()) <| (pp (@retX [] [(0, 0)] []) <| pp (@retX [15, 107] [(0, 0)] []) ())
    exact drv
theorem F.spec_randomMap {n : Nat} : ∀ {p_r1 : ReaderT} {a_depth1 : Int} {r : NodeT × ReaderT}, G.spec_randomMap n p_r1 a_depth1 = some r → ACalls Go.Proofs.Tryz.prog 72 [.one (.ptr 0 0), .one (.c (.lit (.int .i64 a_depth1)))] [.var [.c (.sl 1 (List.map cU p_r1.b)), .c (.lit (.int .i64 p_r1.p))]] (fun r1 b1 => r1 = .agg [.c (.lit (.int .i64 r.1.Kind)), .c (.lit (.int .i64 r.1.Num)), .c (.str r.1.Text), .c (.sl 1 (List.map cS r.1.Names)), .c (.sl 5 (List.map NodeT.cells r.1.Kids))] ∧ b1 = [.var [.c (.sl 1 (List.map cU r.2.b)), .c (.lit (.int .i64 r.2.p))]]) := (F.scc_spec_randomMap n).1
theorem F.spec_randomNode {n : Nat} : ∀ {p_r1 : ReaderT} {a_depth1 : Int} {r : NodeT × ReaderT}, G.spec_randomNode n p_r1 a_depth1 = some r → ACalls Go.Proofs.Tryz.prog 71 [.one (.ptr 0 0), .one (.c (.lit (.int .i64 a_depth1)))] [.var [.c (.sl 1 (List.map cU p_r1.b)), .c (.lit (.int .i64 p_r1.p))]] (fun r1 b1 => r1 = .agg [.c (.lit (.int .i64 r.1.Kind)), .c (.lit (.int .i64 r.1.Num)), .c (.str r.1.Text), .c (.sl 1 (List.map cS r.1.Names)), .c (.sl 5 (List.map NodeT.cells r.1.Kids))] ∧ b1 = [.var [.c (.sl 1 (List.map cU r.2.b)), .c (.lit (.int .i64 r.2.p))]]) := (F.scc_spec_randomMap n).2
theorem F.spec_randomMap_o {n : Nat} : ∀ {p_r1 : ReaderT} {a_depth1 : Int} {r : NodeT × ReaderT}, G.spec_randomMap n p_r1 a_depth1 = some r → ACalls Go.Proofs.Tryz.prog 72 [.one (.ptr 0 0), .one (.c (.lit (.int .i64 a_depth1)))] [.var [.c (.sl 1 (List.map cU p_r1.b)), .c (.lit (.int .i64 p_r1.p))]] (fun r1 b1 => r1 = .agg [.c (.lit (.int .i64 r.1.Kind)), .c (.lit (.int .i64 r.1.Num)), .c (.str r.1.Text), .own 1 r.1.Names.length 1, .own 2 r.1.Kids.length 5] ∧ b1 = [.var [.c (.sl 1 (List.map cU r.2.b)), .c (.lit (.int .i64 r.2.p))], .dat 1 (List.map cS r.1.Names), .dat 5 (List.map NodeT.cells r.1.Kids)]) := by
  intro p_r1 a_depth1 r h
  refine fun_sound K.spec_randomMap (ofK ?_)
  unfold C.spec_randomMap
  rcases n with _ | n <;> simp only [G.spec_randomMap, reduceCtorEq] at h
  obtain ⟨zc, zg, zk, zu, ze, zj, zt⟩ := pp (pp @F.spec_place ()) <| pp (pp (pp @F.spec_reader_one (@cH [0] [])) <| pp (pp @F.spec_someName (@cG [0] [])) <| pp (pp @F.spec_randomNode (@cG [0] [])) <| pp (pp @F.spec_addHere_o (@cH [] [117, 118])) ()) <| pp (pp (@lopX (Int × List Int × Int × Int × Int × Txt × List Txt × List NodeT) _ (fun n x => G.spec_randomMap.L1 n a_depth1 x.1 x.2.1 x.2.2.1 x.2.2.2.1 x.2.2.2.2.1 x.2.2.2.2.2.1 x.2.2.2.2.2.2.1 x.2.2.2.2.2.2.2) r (fun x => ASt.of [(0, .v true (.one (.ptr 0 0))), (1, .v true (.one (.c (.lit (.int .i64 a_depth1))))), (4, .v true (.one (.ptr 113 0))), (5, .v true (.one (.ptr 114 0))), (6, .v true (.one (.c (.lit (.int .i64 x.1)))))] [(0, .var [.c (.sl 1 (List.map cU x.2.1)), .c (.lit (.int .i64 x.2.2.1))]), (113, .var [.c (.lit (.int .i64 0)), .c (.lit (.int .i64 0)), .c (.str []), .nsl 1, .nsl 5]), (114, .var [.c (.lit (.int .i64 x.2.2.2.1)), .c (.lit (.int .i64 x.2.2.2.2.1)), .c (.str x.2.2.2.2.2.1), .own 115 x.2.2.2.2.2.2.1.length 1, .own 116 x.2.2.2.2.2.2.2.length 5]), (115, .dat 1 (List.map cS x.2.2.2.2.2.2.1)), (116, .dat 5 (List.map NodeT.cells x.2.2.2.2.2.2.2))])) ()) <| pp () <| pp (pp (And.intro @G.spec_randomMap.L1.eq_1 <| @G.spec_randomMap.L1.eq_2) ()) <| pp (pp (@weakX [] [(0, 0), (113, 10), (114, 13), (115, 11), (116, 12)] []) <| pp (@weakX [] [(0, 0), (113, 113), (114, 114), (115, 117), (116, 118)] []) <| pp (@weakX [] [(0, 0), (113, 113), (114, 114), (115, 115), (116, 116)] []) ()) <| (pp (@retX [] [(0, 0), (1, 115), (2, 116)] []) ())
  exact drv
theorem F.spec_randomNode_o {n : Nat} : ∀ {p_r1 : ReaderT} {a_depth1 : Int} {r : NodeT × ReaderT}, G.spec_randomNode n p_r1 a_depth1 = some r → ACalls Go.Proofs.Tryz.prog 71 [.one (.ptr 0 0), .one (.c (.lit (.int .i64 a_depth1)))] [.var [.c (.sl 1 (List.map cU p_r1.b)), .c (.lit (.int .i64 p_r1.p))]] (fun r1 b1 => r1 = .agg [.c (.lit (.int .i64 r.1.Kind)), .c (.lit (.int .i64 r.1.Num)), .c (.str r.1.Text), .own 1 r.1.Names.length 1, .own 2 r.1.Kids.length 5] ∧ b1 = [.var [.c (.sl 1 (List.map cU r.2.b)), .c (.lit (.int .i64 r.2.p))], .dat 1 (List.map cS r.1.Names), .dat 5 (List.map NodeT.cells r.1.Kids)]) := by
  intro p_r1 a_depth1 r h
  refine fun_sound K.spec_randomNode (ofK ?_)
  unfold C.spec_randomNode
  rcases n with _ | n <;> simp only [G.spec_randomNode, reduceCtorEq] at h
  obtain ⟨zc, zg, zk, zu, ze, zj, zt⟩ := pp () <| pp (pp (pp @F.spec_reader_pick (@cG [0] [])) <| pp (pp @F.spec_reader_one (@cH [0] [])) <| pp (pp @F.spec_someText (@cG [0] [])) <| pp (pp @F.spec_randomNode (@cG [0] [])) <| pp (pp @F.spec_randomMap_o (@cG [0] [108, 109])) ()) <| pp (pp (@lopX (Int × Int × List Int × Int × List NodeT) _ (fun n x => G.spec_randomNode.L2 n a_depth1 x.1 x.2.1 x.2.2.1 x.2.2.2.1 x.2.2.2.2) r (fun x => ASt.of [(0, .v true (.one (.ptr 0 0))), (1, .v true (.one (.c (.lit (.int .i64 a_depth1))))), (4, .v true (.one (.ptr 106 0))), (5, .v true (.one (.c (.lit (.int .i64 x.1))))), (6, .v true (.one (.own 107 x.2.2.2.2.length 5))), (7, .v true (.one (.c (.lit (.int .i64 x.2.1)))))] [(0, .var [.c (.sl 1 (List.map cU x.2.2.1)), .c (.lit (.int .i64 x.2.2.2.1))]), (106, .var [.c (.lit (.int .i64 0)), .c (.lit (.int .i64 0)), .c (.str []), .nsl 1, .nsl 5]), (107, .dat 5 (List.map NodeT.cells x.2.2.2.2))])) ()) <| pp (pp (@cutX (Int × List Int × Int) _ (fun n x => G.spec_randomNode.K1 n a_depth1 x.1 x.2.1 x.2.2) r (fun x => ASt.of [(0, .v true (.one (.ptr 0 0))), (1, .v true (.one (.c (.lit (.int .i64 a_depth1))))), (4, .v true (.one (.ptr 101 0))), (5, .v true (.one (.c (.lit (.int .i64 x.1)))))] [(0, .var [.c (.sl 1 (List.map cU x.2.1)), .c (.lit (.int .i64 x.2.2))]), (101, .var [.c (.lit (.int .i64 0)), .c (.lit (.int .i64 0)), .c (.str []), .nsl 1, .nsl 5])])) ()) <| pp (pp (And.intro @G.spec_randomNode.K1.eq_1 <| And.intro @G.spec_randomNode.K1.eq_2 <| And.intro @G.spec_randomNode.L2.eq_1 <| @G.spec_randomNode.L2.eq_2) ()) <| pp (pp (@weakX [] [(0, 0), (101, 10)] []) <| pp (@weakX [] [(0, 0), (106, 101), (107, 12)] []) <| pp (@weakX [] [(0, 0), (106, 106), (107, 14)] []) ()) <| (pp (@retX [] [(0, 0)] [1, 2]) <| pp (@retX [] [(0, 0), (1, 15), (2, 107)] []) <| pp (@retX [] [(0, 0), (1, 108), (2, 109)] []) ())
  exact drv
theorem F.spec_count_n : ∀ (n : Nat), ∀ {a_n1 : NodeT} {r : Int}, G.spec_count n a_n1 = some r → APure Go.Proofs.Tryz.prog 87 [.agg [.c (.lit (.int .i64 a_n1.Kind)), .c (.lit (.int .i64 a_n1.Num)), .c (.str a_n1.Text), .c (.sl 1 (List.map cS a_n1.Names)), .c (.sl 5 (List.map NodeT.cells a_n1.Kids))]] (.one (.c (.lit (.int .i64 r)))) := by
  intro n
  induction n using Nat.strongRecOn with | _ n ih =>
  intro a_n1 r h
  refine fun_pure K.spec_count (ofK ?_)
  unfold C.spec_count
  rcases n with _ | n <;> simp only [G.spec_count, reduceCtorEq] at h
  obtain ⟨zc, zg, zk, zu, ze, zj, zt⟩ := pp (pp ih ()) <| pp () <| pp (pp (@lopX (Int × Int) _ (fun n x => G.spec_count.L1 n a_n1 x.1 x.2) r (fun x => ASt.of [(1, .v true (.one (.ptr 103 0))), (3, .v true (.one (.c (.lit (.int .i64 x.1))))), (4, .v true (.one (.c (.lit (.int .i64 x.2)))))] [(103, .var [.c (.lit (.int .i64 a_n1.Kind)), .c (.lit (.int .i64 a_n1.Num)), .c (.str a_n1.Text), .c (.sl 1 (List.map cS a_n1.Names)), .c (.sl 5 (List.map NodeT.cells a_n1.Kids))])])) ()) <| pp () <| pp (pp (And.intro @G.spec_count.L1.eq_1 <| @G.spec_count.L1.eq_2) ()) <| pp (pp (@weakX [] [(103, 10)] []) <| pp (@weakX [] [(103, 103)] []) ()) <| ()
  exact drv
theorem F.spec_count {n : Nat} : ∀ {a_n1 : NodeT} {r : Int}, G.spec_count n a_n1 = some r → APure Go.Proofs.Tryz.prog 87 [.agg [.c (.lit (.int .i64 a_n1.Kind)), .c (.lit (.int .i64 a_n1.Num)), .c (.str a_n1.Text), .c (.sl 1 (List.map cS a_n1.Names)), .c (.sl 5 (List.map NodeT.cells a_n1.Kids))]] (.one (.c (.lit (.int .i64 r)))) := F.spec_count_n n
theorem F.spec_inRange {n : Nat} : ∀ {a_n1 : Int} {a_low1 : Int} {a_high1 : Int} {r : Bool}, G.spec_inRange n a_n1 a_low1 a_high1 = some r → APure Go.Proofs.Tryz.prog 52 [.one (.c (.lit (.int .i64 a_n1))), .one (.c (.lit (.int .i64 a_low1))), .one (.c (.lit (.int .i64 a_high1)))] (.one (.c (.lit (.bool r)))) := by
  intro a_n1 a_low1 a_high1 r h
  refine fun_pure K.spec_inRange (ofK ?_)
  unfold C.spec_inRange
  rcases n with _ | n <;> simp only [G.spec_inRange, reduceCtorEq] at h
  obtain ⟨zc, zg, zk, zu, ze, zj, zt⟩ := pp () <| pp () <| pp () <| pp () <| pp () <| pp () <| ()
  exact drv
theorem F.spec_validText {n : Nat} : ∀ {a_s1 : Txt} {r : Bool}, G.spec_validText n a_s1 = some r → APure Go.Proofs.Tryz.prog 104 [.one (.c (.str a_s1))] (.one (.c (.lit (.bool r)))) := by
  intro a_s1 r h
  refine fun_pure K.spec_validText (ofK ?_)
  unfold C.spec_validText
  rcases n with _ | n <;> simp only [G.spec_validText, reduceCtorEq] at h
  obtain ⟨zc, zg, zk, zu, ze, zj, zt⟩ := pp (pp @F.spec_inRange ()) <| pp () <| pp (pp (@lopX (Int) _ (fun n x => G.spec_validText.L1 n a_s1 x) r (fun x => ASt.of [(0, .v true (.one (.c (.str a_s1)))), (3, .v true (.one (.c (.lit (.int .i64 x)))))] [])) ()) <| pp () <| pp (pp (And.intro @G.spec_validText.L1.eq_1 <| @G.spec_validText.L1.eq_2) ()) <| pp (pp (@weakX [] [] []) ()) <| ()
  exact drv
theorem F.spec_names {n : Nat} : ∀ {a_list1 : List Txt} {r : Bool}, G.spec_names n a_list1 = some r → APure Go.Proofs.Tryz.prog 106 [.one (.c (.sl 1 (List.map cS a_list1)))] (.one (.c (.lit (.bool r)))) := by
  intro a_list1 r h
  refine fun_pure K.spec_names (ofK ?_)
  unfold C.spec_names
  rcases n with _ | n <;> simp only [G.spec_names, reduceCtorEq] at h
  obtain ⟨zc, zg, zk, zu, ze, zj, zt⟩ := pp (pp @F.spec_validText ()) <| pp () <| pp (pp (@lopX (Int) _ (fun n x => G.spec_names.L1 n a_list1 x) r (fun x => ASt.of [(0, .v true (.one (.c (.sl 1 (List.map cS a_list1))))), (3, .v true (.one (.c (.lit (.int .i64 x)))))] [])) ()) <| pp () <| pp (pp (And.intro @G.spec_names.L1.eq_1 <| @G.spec_names.L1.eq_2) ()) <| pp (pp (@weakX [] [] []) ()) <| ()
  exact drv
theorem F.scc_spec_kids : ∀ (n : Nat), (∀ {a_n1 : NodeT} {a_depth1 : Int} {r : Bool}, G.spec_kids n a_n1 a_depth1 = some r → APure Go.Proofs.Tryz.prog 105 [.agg [.c (.lit (.int .i64 a_n1.Kind)), .c (.lit (.int .i64 a_n1.Num)), .c (.str a_n1.Text), .c (.sl 1 (List.map cS a_n1.Names)), .c (.sl 5 (List.map NodeT.cells a_n1.Kids))], .one (.c (.lit (.int .i64 a_depth1)))] (.one (.c (.lit (.bool r))))) ∧ (∀ {a_n1 : NodeT} {a_depth1 : Int} {r : Bool}, G.spec_shape n a_n1 a_depth1 = some r → APure Go.Proofs.Tryz.prog 86 [.agg [.c (.lit (.int .i64 a_n1.Kind)), .c (.lit (.int .i64 a_n1.Num)), .c (.str a_n1.Text), .c (.sl 1 (List.map cS a_n1.Names)), .c (.sl 5 (List.map NodeT.cells a_n1.Kids))], .one (.c (.lit (.int .i64 a_depth1)))] (.one (.c (.lit (.bool r))))) := by
  intro n
  induction n using Nat.strongRecOn with | _ n ih =>
  refine ⟨?_, ?_⟩
  · intro a_n1 a_depth1 r h
    refine fun_pure K.spec_kids (ofK ?_)
    unfold C.spec_kids
    rcases n with _ | n <;> simp only [G.spec_kids, reduceCtorEq] at h
    obtain ⟨zc, zg, zk, zu, ze, zj, zt⟩ := pp (pp ((ihR ih)) ()) <| pp () <| pp (pp (@lopX (Int) _ (fun n x => G.spec_kids.L1 n a_n1 a_depth1 x) r (fun x => ASt.of [(1, .v true (.one (.c (.lit (.int .i64 a_depth1))))), (2, .v true (.one (.ptr 103 0))), (5, .v true (.one (.c (.lit (.int .i64 x)))))] [(103, .var [.c (.lit (.int .i64 a_n1.Kind)), .c (.lit (.int .i64 a_n1.Num)), .c (.str a_n1.Text), .c (.sl 1 (List.map cS a_n1.Names)), .c (.sl 5 (List.map NodeT.cells a_n1.Kids))])])) ()) <| pp () <| pp (pp (And.intro @G.spec_kids.L1.eq_1 <| @G.spec_kids.L1.eq_2) ()) <| pp (pp (@weakX [] [(103, 10)] []) <| pp (@weakX [] [(103, 103)] []) ()) <| ()
    exact drv
  · intro a_n1 a_depth1 r h
    refine fun_pure K.spec_shape (ofK ?_)
    unfold C.spec_shape
    rcases n with _ | n <;> simp only [G.spec_shape, reduceCtorEq] at h
    obtain ⟨zc, zg, zk, zu, ze, zj, zt⟩ := pp (pp ((ihL ih)) <| pp @F.spec_inRange <| pp @F.spec_validText <| pp @F.spec_names ()) <| pp () <| pp () <| pp (pp (@cutX (Unit) _ (fun n x => G.spec_shape.K1 n a_n1 a_depth1) r (fun x => ASt.of [(1, .v true (.one (.c (.lit (.int .i64 a_depth1))))), (2, .v true (.one (.ptr 101 0))), (54, .v true (.one (.c (.lit (.bool false)))))] [(101, .var [.c (.lit (.int .i64 a_n1.Kind)), .c (.lit (.int .i64 a_n1.Num)), .c (.str a_n1.Text), .c (.sl 1 (List.map cS a_n1.Names)), .c (.sl 5 (List.map NodeT.cells a_n1.Kids))])])) ()) <| pp (pp (And.intro @G.spec_shape.K1.eq_1 <| @G.spec_shape.K1.eq_2) ()) <| pp (pp (@weakX [] [(101, 10)] []) ()) <| ()
    exact drv
theorem F.spec_shape {n : Nat} : ∀ {a_n1 : NodeT} {a_depth1 : Int} {r : Bool}, G.spec_shape n a_n1 a_depth1 = some r → APure Go.Proofs.Tryz.prog 86 [.agg [.c (.lit (.int .i64 a_n1.Kind)), .c (.lit (.int .i64 a_n1.Num)), .c (.str a_n1.Text), .c (.sl 1 (List.map cS a_n1.Names)), .c (.sl 5 (List.map NodeT.cells a_n1.Kids))], .one (.c (.lit (.int .i64 a_depth1)))] (.one (.c (.lit (.bool r)))) := (F.scc_spec_kids n).2
theorem F.spec_validNode {n : Nat} : ∀ {a_n1 : NodeT} {r : Bool}, G.spec_validNode n a_n1 = some r → APure Go.Proofs.Tryz.prog 55 [.agg [.c (.lit (.int .i64 a_n1.Kind)), .c (.lit (.int .i64 a_n1.Num)), .c (.str a_n1.Text), .c (.sl 1 (List.map cS a_n1.Names)), .c (.sl 5 (List.map NodeT.cells a_n1.Kids))]] (.one (.c (.lit (.bool r)))) := by
  intro a_n1 r h
  refine fun_pure K.spec_validNode (ofK ?_)
  unfold C.spec_validNode
  rcases n with _ | n <;> simp only [G.spec_validNode, reduceCtorEq] at h
  obtain ⟨zc, zg, zk, zu, ze, zj, zt⟩ := pp (pp @F.spec_shape <| pp @F.spec_count ()) <| pp () <| pp () <| pp () <| pp () <| pp () <| ()
  exact drv
theorem F.spec_someNode {n : Nat} : ∀ {p_r1 : ReaderT} {r : NodeT × ReaderT}, G.spec_someNode n p_r1 = some r → ACalls Go.Proofs.Tryz.prog 38 [.one (.ptr 0 0)] [.var [.c (.sl 1 (List.map cU p_r1.b)), .c (.lit (.int .i64 p_r1.p))]] (fun r1 b1 => r1 = .agg [.c (.lit (.int .i64 r.1.Kind)), .c (.lit (.int .i64 r.1.Num)), .c (.str r.1.Text), .c (.sl 1 (List.map cS r.1.Names)), .c (.sl 5 (List.map NodeT.cells r.1.Kids))] ∧ b1 = [.var [.c (.sl 1 (List.map cU r.2.b)), .c (.lit (.int .i64 r.2.p))]]) := by
  intro p_r1 r h
  refine fun_sound K.spec_someNode (ofK ?_)
  unfold C.spec_someNode
  rcases n with _ | n <;> simp only [G.spec_someNode, reduceCtorEq] at h
  obtain ⟨zc, zg, zk, zu, ze, zj, zt⟩ := pp (pp @F.spec_validNode ()) <| pp (pp (pp @F.spec_randomNode (@cG [0] [])) <| pp (pp @F.spec_reader_pick (@cG [0] [])) <| pp (pp @F.spec_randomMap (@cG [0] [])) ()) <| pp () <| pp (pp (@cutX (List Int × Int × Int × Int × Txt × List Txt × List NodeT) _ (fun n x => G.spec_someNode.K1 n x.1 x.2.1 x.2.2.1 x.2.2.2.1 x.2.2.2.2.1 x.2.2.2.2.2.1 x.2.2.2.2.2.2) r (fun x => ASt.of [(2, .v true (.one (.ptr 101 0))), (3, .v true (.one (.ptr 102 0)))] [(0, .var [.c (.sl 1 (List.map cU x.1)), .c (.lit (.int .i64 x.2.1))]), (101, .var [.c (.lit (.int .i64 0)), .c (.lit (.int .i64 0)), .c (.str []), .nsl 1, .nsl 5]), (102, .var [.c (.lit (.int .i64 x.2.2.1)), .c (.lit (.int .i64 x.2.2.2.1)), .c (.str x.2.2.2.2.1), .c (.sl 1 (List.map cS x.2.2.2.2.2.1)), .c (.sl 5 (List.map NodeT.cells x.2.2.2.2.2.2))])])) ()) <| pp (pp (And.intro @G.spec_someNode.K1.eq_1 <| @G.spec_someNode.K1.eq_2) ()) <| pp (pp (@weakX [] [(0, 0), (101, 10), (102, 11)] []) ()) <| (pp (@retX [] [(0, 0)] []) ())
  exact drv
theorem F.spec_someNode_o {n : Nat} : ∀ {p_r1 : ReaderT} {r : NodeT × ReaderT}, G.spec_someNode n p_r1 = some r → ACalls Go.Proofs.Tryz.prog 38 [.one (.ptr 0 0)] [.var [.c (.sl 1 (List.map cU p_r1.b)), .c (.lit (.int .i64 p_r1.p))]] (fun r1 b1 => r1 = .agg [.c (.lit (.int .i64 r.1.Kind)), .c (.lit (.int .i64 r.1.Num)), .c (.str r.1.Text), .own 1 r.1.Names.length 1, .own 2 r.1.Kids.length 5] ∧ b1 = [.var [.c (.sl 1 (List.map cU r.2.b)), .c (.lit (.int .i64 r.2.p))], .dat 1 (List.map cS r.1.Names), .dat 5 (List.map NodeT.cells r.1.Kids)]) := by
  intro p_r1 r h
  refine fun_sound K.spec_someNode (ofK ?_)
  unfold C.spec_someNode
  rcases n with _ | n <;> simp only [G.spec_someNode, reduceCtorEq] at h
  obtain ⟨zc, zg, zk, zu, ze, zj, zt⟩ := pp (pp @F.spec_validNode ()) <| pp (pp (pp @F.spec_randomNode_o (@cG [0] [101, 102])) <| pp (pp @F.spec_reader_pick (@cG [0] [])) <| pp (pp @F.spec_randomMap_o (@cG [0] [109, 110])) ()) <| pp () <| pp (pp (@cutX (List Int × Int × Int × Int × Txt × List Txt × List NodeT) _ (fun n x => G.spec_someNode.K1 n x.1 x.2.1 x.2.2.1 x.2.2.2.1 x.2.2.2.2.1 x.2.2.2.2.2.1 x.2.2.2.2.2.2) r (fun x => ASt.of [(2, .v true (.one (.ptr 105 0))), (3, .v true (.one (.ptr 106 0)))] [(0, .var [.c (.sl 1 (List.map cU x.1)), .c (.lit (.int .i64 x.2.1))]), (105, .var [.c (.lit (.int .i64 0)), .c (.lit (.int .i64 0)), .c (.str []), .nsl 1, .nsl 5]), (106, .var [.c (.lit (.int .i64 x.2.2.1)), .c (.lit (.int .i64 x.2.2.2.1)), .c (.str x.2.2.2.2.1), .own 107 x.2.2.2.2.2.1.length 1, .own 108 x.2.2.2.2.2.2.length 5]), (107, .dat 1 (List.map cS x.2.2.2.2.2.1)), (108, .dat 5 (List.map NodeT.cells x.2.2.2.2.2.2))])) ()) <| pp (pp (And.intro @G.spec_someNode.K1.eq_1 <| @G.spec_someNode.K1.eq_2) ()) <| pp (pp (@weakX [] [(0, 0), (105, 10), (106, 11), (107, 109), (108, 110)] []) <| pp (@weakX [] [(0, 0), (105, 10), (106, 11), (107, 101), (108, 102)] []) ()) <| (pp (@retX [] [(0, 0), (1, 107), (2, 108)] []) <| pp (@retX [] [(0, 0)] [1, 2]) ())
  exact drv
theorem F.spec_anyNode {n : Nat} : ∀ {p_r1 : ReaderT} {r : NodeT × ReaderT}, G.spec_anyNode n p_r1 = some r → ACalls Go.Proofs.Tryz.prog 33 [.one (.ptr 0 0)] [.var [.c (.sl 1 (List.map cU p_r1.b)), .c (.lit (.int .i64 p_r1.p))]] (fun r1 b1 => r1 = .agg [.c (.lit (.int .i64 r.1.Kind)), .c (.lit (.int .i64 r.1.Num)), .c (.str r.1.Text), .c (.sl 1 (List.map cS r.1.Names)), .c (.sl 5 (List.map NodeT.cells r.1.Kids))] ∧ b1 = [.var [.c (.sl 1 (List.map cU r.2.b)), .c (.lit (.int .i64 r.2.p))]]) := by
  intro p_r1 r h
  refine fun_sound K.spec_anyNode (ofK ?_)
  unfold C.spec_anyNode
  rcases n with _ | n <;> simp only [G.spec_anyNode, reduceCtorEq] at h
  obtain ⟨zc, zg, zk, zu, ze, zj, zt⟩ := pp (pp @F.spec_copyNode ()) <| pp (pp (pp @F.spec_someNode_o (@cG [0] [101, 102])) <| pp (pp @F.spec_reader_pick (@cG [0] [])) <| pp (pp @F.spec_reader_one (@cH [0] [])) ()) <| pp (pp (@lopX ((NodeT × ReaderT) × Int × List Int × Int × List NodeT) _ (fun n x => G.spec_anyNode.L1 n x.1 x.2.1 x.2.2.1 x.2.2.2.1 x.2.2.2.2) r (fun x => ASt.of [(0, .v true (.one (.ptr 0 0))), (2, .v true (.one (.ptr 113 0))), (3, .v true (.one (.ptr 114 0))), (4, .v true (.one (.own 115 x.2.2.2.2.length 5))), (5, .v true (.one (.c (.lit (.int .i64 x.2.1)))))] [(0, .var [.c (.sl 1 (List.map cU x.2.2.1)), .c (.lit (.int .i64 x.2.2.2.1))]), (113, .var [.c (.lit (.int .i64 0)), .c (.lit (.int .i64 0)), .c (.str []), .nsl 1, .nsl 5]), (114, .var [.c (.lit (.int .i64 x.1.1.Kind)), .c (.lit (.int .i64 x.1.1.Num)), .c (.str x.1.1.Text), .own 116 x.1.1.Names.length 1, .own 117 x.1.1.Kids.length 5]), (115, .dat 5 (List.map NodeT.cells x.2.2.2.2)), (116, .frz 1 (List.map cS x.1.1.Names)), (117, .frz 5 (List.map NodeT.cells x.1.1.Kids))])) ()) <| pp () <| pp (pp (And.intro @G.spec_anyNode.L1.eq_1 <| @G.spec_anyNode.L1.eq_2) ()) <| pp (pp (@weakX [101, 102] [(0, 0), (113, 10), (114, 11), (115, 20), (116, 101), (117, 102)] []) <| pp (@weakX [] [(0, 0), (113, 113), (114, 114), (115, 22), (116, 116), (117, 117)] []) ()) <| (pp (@retX [101, 102] [(0, 0)] []) <| pp (@retX [15, 102] [(0, 0)] []) <| pp (@retX [19] [(0, 0)] []) <| pp (@retX [115] [(0, 0)] []) ())
  exact drv
theorem F.spec_badName {n : Nat} : ∀ {p_r1 : ReaderT} {r : Txt × ReaderT}, G.spec_badName n p_r1 = some r → ACalls Go.Proofs.Tryz.prog 32 [.one (.ptr 0 0)] [.var [.c (.sl 1 (List.map cU p_r1.b)), .c (.lit (.int .i64 p_r1.p))]] (fun r1 b1 => r1 = .one (.c (.str r.1)) ∧ b1 = [.var [.c (.sl 1 (List.map cU r.2.b)), .c (.lit (.int .i64 r.2.p))]]) := by
  intro p_r1 r h
  refine fun_sound K.spec_badName (ofK ?_)
  unfold C.spec_badName
  rcases n with _ | n <;> simp only [G.spec_badName, reduceCtorEq] at h
  obtain ⟨zc, zg, zk, zu, ze, zj, zt⟩ := pp () <| pp (pp (pp @F.spec_reader_of (@cH [0] [])) ()) <| pp () <| pp () <| pp () <| pp () <| (pp (@retX [] [(0, 0)] []) ())
  exact drv
theorem F.spec_copyStore {n : Nat} : ∀ {a_s1 : StoreT} {r : StoreT}, G.spec_copyStore n a_s1 = some r → APure Go.Proofs.Tryz.prog 67 [.agg [.c (.sl 7 (List.map ItemT.cells a_s1.Items)), .c (.lit (.int .i64 a_s1.Clock))]] (.agg [.c (.sl 7 (List.map ItemT.cells r.Items)), .c (.lit (.int .i64 r.Clock))]) := by
  intro a_s1 r h
  refine fun_pure K.spec_copyStore (ofK ?_)
  unfold C.spec_copyStore
  rcases n with _ | n <;> simp only [G.spec_copyStore, reduceCtorEq] at h
  obtain ⟨zc, zg, zk, zu, ze, zj, zt⟩ := pp (pp @F.spec_copyNode ()) <| pp () <| pp (pp (@lopX (Int × List ItemT) _ (fun n x => G.spec_copyStore.L1 n a_s1 x.1 x.2) r (fun x => ASt.of [(1, .v true (.one (.ptr 107 0))), (2, .v true (.one (.ptr 108 0))), (3, .v true (.one (.own 109 x.2.length 7))), (4, .v true (.one (.c (.lit (.int .i64 x.1)))))] [(107, .var [.c (.sl 7 (List.map ItemT.cells a_s1.Items)), .c (.lit (.int .i64 a_s1.Clock))]), (108, .var [.nsl 7, .c (.lit (.int .i64 0))]), (109, .dat 7 (List.map ItemT.cells x.2))])) ()) <| pp () <| pp (pp (And.intro @G.spec_copyStore.L1.eq_1 <| @G.spec_copyStore.L1.eq_2) ()) <| pp (pp (@weakX [] [(107, 10), (108, 11), (109, 12)] []) <| pp (@weakX [] [(107, 107), (108, 108), (109, 14)] []) ()) <| ()
  exact drv
theorem F.spec_copyStore_r {n : Nat} : ∀ {a_s1 : StoreT} {r : StoreT}, G.spec_copyStore n a_s1 = some r → ACalls Go.Proofs.Tryz.prog 67 [.agg [.own 0 a_s1.Items.length 7, .c (.lit (.int .i64 a_s1.Clock))]] [.dat 7 (List.map ItemT.cells a_s1.Items)] (fun r1 b1 => r1 = .agg [.own 1 r.Items.length 7, .c (.lit (.int .i64 r.Clock))] ∧ b1 = [.dat 7 (List.map ItemT.cells a_s1.Items), .dat 7 (List.map ItemT.cells r.Items)]) := by
  intro a_s1 r h
  refine fun_sound K.spec_copyStore_r (ofK ?_)
  unfold C.spec_copyStore
  rcases n with _ | n <;> simp only [G.spec_copyStore, reduceCtorEq] at h
  obtain ⟨zc, zg, zk, zu, ze, zj, zt⟩ := pp (pp @F.spec_copyNode ()) <| pp () <| pp (pp (@lopX (Int × List ItemT) _ (fun n x => G.spec_copyStore.L1 n a_s1 x.1 x.2) r (fun x => ASt.of [(1, .v true (.one (.ptr 107 0))), (2, .v true (.one (.ptr 108 0))), (3, .v true (.one (.own 109 x.2.length 7))), (4, .v true (.one (.c (.lit (.int .i64 x.1)))))] [(0, .dat 7 (List.map ItemT.cells a_s1.Items)), (107, .var [.own 0 a_s1.Items.length 7, .c (.lit (.int .i64 a_s1.Clock))]), (108, .var [.nsl 7, .c (.lit (.int .i64 0))]), (109, .dat 7 (List.map ItemT.cells x.2))])) ()) <| pp () <| pp (pp (And.intro @G.spec_copyStore.L1.eq_1 <| @G.spec_copyStore.L1.eq_2) ()) <| pp (pp (@weakX [] [(0, 0), (107, 10), (108, 11), (109, 12)] []) <| pp (@weakX [] [(0, 0), (107, 107), (108, 108), (109, 14)] []) ()) <| (pp (@retX [] [(0, 0), (1, 109)] []) ())
  exact drv
theorem F.spec_find {n : Nat} : ∀ {a_s1 : StoreT} {a_name1 : Txt} {r : Int}, G.spec_find n a_s1 a_name1 = some r → APure Go.Proofs.Tryz.prog 66 [.agg [.c (.sl 7 (List.map ItemT.cells a_s1.Items)), .c (.lit (.int .i64 a_s1.Clock))], .one (.c (.str a_name1))] (.one (.c (.lit (.int .i64 r)))) := by
  intro a_s1 a_name1 r h
  refine fun_pure K.spec_find (ofK ?_)
  unfold C.spec_find
  rcases n with _ | n <;> simp only [G.spec_find, reduceCtorEq] at h
  obtain ⟨zc, zg, zk, zu, ze, zj, zt⟩ := pp () <| pp () <| pp (pp (@lopX (Int) _ (fun n x => G.spec_find.L1 n a_s1 a_name1 x) r (fun x => ASt.of [(1, .v true (.one (.c (.str a_name1)))), (2, .v true (.one (.ptr 103 0))), (5, .v true (.one (.c (.lit (.int .i64 x)))))] [(103, .var [.c (.sl 7 (List.map ItemT.cells a_s1.Items)), .c (.lit (.int .i64 a_s1.Clock))])])) ()) <| pp () <| pp (pp (And.intro @G.spec_find.L1.eq_1 <| @G.spec_find.L1.eq_2) ()) <| pp (pp (@weakX [] [(103, 10)] []) <| pp (@weakX [] [(103, 103)] []) ()) <| ()
  exact drv
theorem F.spec_validName {n : Nat} : ∀ {a_s1 : Txt} {r : Bool}, G.spec_validName n a_s1 = some r → APure Go.Proofs.Tryz.prog 53 [.one (.c (.str a_s1))] (.one (.c (.lit (.bool r)))) := by
  intro a_s1 r h
  refine fun_pure K.spec_validName (ofK ?_)
  unfold C.spec_validName
  rcases n with _ | n <;> simp only [G.spec_validName, reduceCtorEq] at h
  obtain ⟨zc, zg, zk, zu, ze, zj, zt⟩ := pp (pp @F.spec_inRange ()) <| pp () <| pp (pp (@lopX (Int) _ (fun n x => G.spec_validName.L1 n a_s1 x) r (fun x => ASt.of [(0, .v true (.one (.c (.str a_s1)))), (3, .v true (.one (.c (.lit (.int .i64 x)))))] [])) ()) <| pp () <| pp (pp (And.intro @G.spec_validName.L1.eq_1 <| @G.spec_validName.L1.eq_2) ()) <| pp (pp (@weakX [] [] []) ()) <| ()
  exact drv
theorem F.spec_validStore {n : Nat} : ∀ {a_s1 : StoreT} {r : Bool}, G.spec_validStore n a_s1 = some r → APure Go.Proofs.Tryz.prog 65 [.agg [.c (.sl 7 (List.map ItemT.cells a_s1.Items)), .c (.lit (.int .i64 a_s1.Clock))]] (.one (.c (.lit (.bool r)))) := by
  intro a_s1 r h
  refine fun_pure K.spec_validStore (ofK ?_)
  unfold C.spec_validStore
  rcases n with _ | n <;> simp only [G.spec_validStore, reduceCtorEq] at h
  obtain ⟨zc, zg, zk, zu, ze, zj, zt⟩ := pp (pp @F.spec_validName <| pp @F.spec_validNode <| pp @F.spec_inRange ()) <| pp () <| pp (pp (@lopX (Int) _ (fun n x => G.spec_validStore.L1 n a_s1 x) r (fun x => ASt.of [(1, .v true (.one (.ptr 103 0))), (3, .v true (.one (.c (.lit (.int .i64 x)))))] [(103, .var [.c (.sl 7 (List.map ItemT.cells a_s1.Items)), .c (.lit (.int .i64 a_s1.Clock))])])) ()) <| pp () <| pp (pp (And.intro @G.spec_validStore.L1.eq_1 <| @G.spec_validStore.L1.eq_2) ()) <| pp (pp (@weakX [] [(103, 10)] []) <| pp (@weakX [] [(103, 103)] []) ()) <| ()
  exact drv
theorem F.spec_GetItem {n : Nat} : ∀ {a_s1 : StoreT} {a_name1 : Txt} {r : ItemT × Bool}, G.spec_GetItem n a_s1 a_name1 = some r → APure Go.Proofs.Tryz.prog 35 [.agg [.c (.sl 7 (List.map ItemT.cells a_s1.Items)), .c (.lit (.int .i64 a_s1.Clock))], .one (.c (.str a_name1))] (.tup [(true, [.c (.str r.1.Name), .c (.lit (.int .i64 r.1.Version)), .c (.lit (.int .i64 r.1.Node.Kind)), .c (.lit (.int .i64 r.1.Node.Num)), .c (.str r.1.Node.Text), .c (.sl 1 (List.map cS r.1.Node.Names)), .c (.sl 5 (List.map NodeT.cells r.1.Node.Kids))]), (false, [.c (.lit (.bool r.2))])]) := by
  intro a_s1 a_name1 r h
  refine fun_pure K.spec_GetItem (ofK ?_)
  unfold C.spec_GetItem
  rcases n with _ | n <;> simp only [G.spec_GetItem, reduceCtorEq] at h
  obtain ⟨zc, zg, zk, zu, ze, zj, zt⟩ := pp (pp @F.spec_validStore <| pp @F.spec_find <| pp @F.spec_copyStore ()) <| pp () <| pp () <| pp () <| pp () <| pp () <| ()
  exact drv
theorem F.spec_quote {n : Nat} : ∀ {a_s1 : Txt} {r : Txt}, G.spec_quote n a_s1 = some r → APure Go.Proofs.Tryz.prog 95 [.one (.c (.str a_s1))] (.one (.c (.str r))) := by
  intro a_s1 r h
  refine fun_pure K.spec_quote (ofK ?_)
  unfold C.spec_quote
  rcases n with _ | n <;> simp only [G.spec_quote, reduceCtorEq] at h
  obtain ⟨zc, zg, zk, zu, ze, zj, zt⟩ := pp () <| pp () <| pp (pp (@lopX (Txt × Int) _ (fun n x => G.spec_quote.L1 n a_s1 x.1 x.2) r (fun x => ASt.of [(0, .v true (.one (.c (.str a_s1)))), (3, .v true (.one (.c (.str x.1)))), (4, .v true (.one (.c (.lit (.int .i64 x.2)))))] [])) ()) <| pp () <| pp (pp (And.intro @G.spec_quote.L1.eq_1 <| @G.spec_quote.L1.eq_2) ()) <| pp (pp (@weakX [] [] []) ()) <| ()
  exact drv
theorem F.spec_format_n : ∀ (n : Nat), ∀ {a_n1 : NodeT} {r : Txt}, G.spec_format n a_n1 = some r → APure Go.Proofs.Tryz.prog 70 [.agg [.c (.lit (.int .i64 a_n1.Kind)), .c (.lit (.int .i64 a_n1.Num)), .c (.str a_n1.Text), .c (.sl 1 (List.map cS a_n1.Names)), .c (.sl 5 (List.map NodeT.cells a_n1.Kids))]] (.one (.c (.str r))) := by
  intro n
  induction n using Nat.strongRecOn with | _ n ih =>
  intro a_n1 r h
  refine fun_pure K.spec_format (ofK ?_)
  unfold C.spec_format
  rcases n with _ | n <;> simp only [G.spec_format, reduceCtorEq] at h
  have := Mk.mk 1; have := Mk.mk 2
  obtain ⟨zc, zg, zk, zu, ze, zj, zt, zq⟩ := pp (pp ih <| pp @F.spec_decimal <| pp @F.spec_quote ()) <| pp () <| pp (pp (@lopX (Txt × Int) _ (fun n x => G.spec_format.L5 n a_n1 x.1 x.2) r (fun x => ASt.of [(1, .v true (.one (.ptr 107 0))), (3, .v true (.one (.c (.str x.1)))), (4, .v true (.one (.c (.lit (.int .i64 x.2)))))] [(107, .var [.c (.lit (.int .i64 a_n1.Kind)), .c (.lit (.int .i64 a_n1.Num)), .c (.str a_n1.Text), .c (.sl 1 (List.map cS a_n1.Names)), .c (.sl 5 (List.map NodeT.cells a_n1.Kids))])])) ()) <| pp (pp (@cutX (Int × Txt) _ (fun n x => G.spec_format.K6 n a_n1 x.1 x.2) r (fun x => ASt.of [(1, .v true (.one (.ptr 108 0))), (3, .v true (.one (.c (.str x.2)))), (4, .v true (.one (.c (.lit (.int .i64 x.1)))))] [(108, .var [.c (.lit (.int .i64 a_n1.Kind)), .c (.lit (.int .i64 a_n1.Num)), .c (.str a_n1.Text), .c (.sl 1 (List.map cS a_n1.Names)), .c (.sl 5 (List.map NodeT.cells a_n1.Kids))])])) <| pp (@cutX (Int × Txt) _ (fun n x => G.spec_format.K7 n a_n1 x.1 x.2) r (fun x => ASt.of [(1, .v true (.one (.ptr 109 0))), (3, .v true (.one (.c (.str x.2)))), (4, .v true (.one (.c (.lit (.int .i64 x.1)))))] [(109, .var [.c (.lit (.int .i64 a_n1.Kind)), .c (.lit (.int .i64 a_n1.Num)), .c (.str a_n1.Text), .c (.sl 1 (List.map cS a_n1.Names)), .c (.sl 5 (List.map NodeT.cells a_n1.Kids))])])) ()) <| pp (pp (And.intro @G.spec_format.L5.eq_1 <| And.intro @G.spec_format.L5.eq_2 <| And.intro @G.spec_format.K6.eq_1 <| And.intro @G.spec_format.K6.eq_2 <| And.intro @G.spec_format.K7.eq_1 <| @G.spec_format.K7.eq_2) ()) <| pp (pp (@weakX [] [(107, 10)] []) <| pp (@weakX [] [(108, 107)] []) <| pp (@weakX [] [(109, 108)] []) <| pp (@weakX [] [(107, 109)] []) ()) <| pp () <| (pp (pp (rfl : @G.spec_format.K6 = _) <| pp (rfl : @G.spec_format.L5 = _) <| pp (rfl : @G.spec_format.K7 = _) ()) <| pp (pp (rfl : @G.spec_format.K7 = _) <| pp (rfl : @G.spec_format.K6 = _) <| pp (rfl : @G.spec_format.L5 = _) ()) ())
  exact drvM
theorem F.spec_format {n : Nat} : ∀ {a_n1 : NodeT} {r : Txt}, G.spec_format n a_n1 = some r → APure Go.Proofs.Tryz.prog 70 [.agg [.c (.lit (.int .i64 a_n1.Kind)), .c (.lit (.int .i64 a_n1.Num)), .c (.str a_n1.Text), .c (.sl 1 (List.map cS a_n1.Names)), .c (.sl 5 (List.map NodeT.cells a_n1.Kids))]] (.one (.c (.str r))) := F.spec_format_n n
theorem F.spec_hex {n : Nat} : ∀ {a_n1 : Int} {r : Txt}, G.spec_hex n a_n1 = some r → APure Go.Proofs.Tryz.prog 68 [.one (.c (.lit (.int .i64 a_n1)))] (.one (.c (.str r))) := by
  intro a_n1 r h
  refine fun_pure K.spec_hex (ofK ?_)
  unfold C.spec_hex
  rcases n with _ | n <;> simp only [G.spec_hex, reduceCtorEq] at h
  obtain ⟨zc, zg, zk, zu, ze, zj, zt⟩ := pp () <| pp () <| pp () <| pp () <| pp () <| pp () <| ()
  exact drv
theorem F.spec_sumOf {n : Nat} : ∀ {a_s1 : Txt} {r : Int}, G.spec_sumOf n a_s1 = some r → APure Go.Proofs.Tryz.prog 69 [.one (.c (.str a_s1))] (.one (.c (.lit (.int .i64 r)))) := by
  intro a_s1 r h
  refine fun_pure K.spec_sumOf (ofK ?_)
  unfold C.spec_sumOf
  rcases n with _ | n <;> simp only [G.spec_sumOf, reduceCtorEq] at h
  obtain ⟨zc, zg, zk, zu, ze, zj, zt⟩ := pp () <| pp () <| pp (pp (@lopX (Int × Int) _ (fun n x => G.spec_sumOf.L1 n a_s1 x.1 x.2) r (fun x => ASt.of [(0, .v true (.one (.c (.str a_s1)))), (3, .v true (.one (.c (.lit (.int .i64 x.1))))), (4, .v true (.one (.c (.lit (.int .i64 x.2)))))] [])) ()) <| pp () <| pp (pp (And.intro @G.spec_sumOf.L1.eq_1 <| @G.spec_sumOf.L1.eq_2) ()) <| pp (pp (@weakX [] [] []) ()) <| ()
  exact drv
theorem F.spec_TagOf {n : Nat} : ∀ {a_n1 : NodeT} {r : Txt}, G.spec_TagOf n a_n1 = some r → APure Go.Proofs.Tryz.prog 37 [.agg [.c (.lit (.int .i64 a_n1.Kind)), .c (.lit (.int .i64 a_n1.Num)), .c (.str a_n1.Text), .c (.sl 1 (List.map cS a_n1.Names)), .c (.sl 5 (List.map NodeT.cells a_n1.Kids))]] (.one (.c (.str r))) := by
  intro a_n1 r h
  refine fun_pure K.spec_TagOf (ofK ?_)
  unfold C.spec_TagOf
  rcases n with _ | n <;> simp only [G.spec_TagOf, reduceCtorEq] at h
  obtain ⟨zc, zg, zk, zu, ze, zj, zt⟩ := pp (pp @F.spec_validNode <| pp @F.spec_format <| pp @F.spec_sumOf <| pp @F.spec_hex ()) <| pp () <| pp () <| pp () <| pp () <| pp () <| ()
  exact drv
theorem F.spec_anyTags {n : Nat} : ∀ {p_r1 : ReaderT} {a_tag1 : Txt} {r : List Txt × ReaderT}, G.spec_anyTags n p_r1 a_tag1 = some r → ACalls Go.Proofs.Tryz.prog 36 [.one (.ptr 0 0), .one (.c (.str a_tag1))] [.var [.c (.sl 1 (List.map cU p_r1.b)), .c (.lit (.int .i64 p_r1.p))]] (fun r1 b1 => r1 = .one (.c (.sl 1 (List.map cS r.1))) ∧ b1 = [.var [.c (.sl 1 (List.map cU r.2.b)), .c (.lit (.int .i64 r.2.p))]]) := by
  intro p_r1 a_tag1 r h
  refine fun_sound K.spec_anyTags (ofK ?_)
  unfold C.spec_anyTags
  rcases n with _ | n <;> simp only [G.spec_anyTags, reduceCtorEq] at h
  obtain ⟨zc, zg, zk, zu, ze, zj, zt⟩ := pp () <| pp (pp (pp @F.spec_reader_one (@cH [0] [])) <| pp (pp @F.spec_reader_of (@cH [0] [])) <| pp (pp @F.spec_reader_pick (@cG [0] [])) ()) <| pp (pp (@lopX (Int × List Int × Int × List Txt) _ (fun n x => G.spec_anyTags.L1 n a_tag1 x.1 x.2.1 x.2.2.1 x.2.2.2) r (fun x => ASt.of [(0, .v true (.one (.ptr 0 0))), (1, .v true (.one (.c (.str a_tag1)))), (5, .v true (.one (.own 103 x.2.2.2.length 1))), (6, .v true (.one (.c (.lit (.int .i64 x.1)))))] [(0, .var [.c (.sl 1 (List.map cU x.2.1)), .c (.lit (.int .i64 x.2.2.1))]), (103, .dat 1 (List.map cS x.2.2.2))])) ()) <| pp () <| pp (pp (And.intro @G.spec_anyTags.L1.eq_1 <| @G.spec_anyTags.L1.eq_2) ()) <| pp (pp (@weakX [] [(0, 0), (103, 10)] []) <| pp (@weakX [] [(0, 0), (103, 14)] []) ()) <| (pp (@retX [103] [(0, 0)] []) ())
  exact drv
theorem F.spec_itemName {n : Nat} : ∀ {p_r1 : ReaderT} {r : Txt × ReaderT}, G.spec_itemName n p_r1 = some r → ACalls Go.Proofs.Tryz.prog 61 [.one (.ptr 0 0)] [.var [.c (.sl 1 (List.map cU p_r1.b)), .c (.lit (.int .i64 p_r1.p))]] (fun r1 b1 => r1 = .one (.c (.str r.1)) ∧ b1 = [.var [.c (.sl 1 (List.map cU r.2.b)), .c (.lit (.int .i64 r.2.p))]]) := by
  intro p_r1 r h
  refine fun_sound K.spec_itemName (ofK ?_)
  unfold C.spec_itemName
  rcases n with _ | n <;> simp only [G.spec_itemName, reduceCtorEq] at h
  obtain ⟨zc, zg, zk, zu, ze, zj, zt⟩ := pp () <| pp (pp (pp @F.spec_reader_of (@cH [0] [])) ()) <| pp () <| pp () <| pp () <| pp () <| (pp (@retX [] [(0, 0)] []) ())
  exact drv
theorem F.spec_nameIn {n : Nat} : ∀ {p_r1 : ReaderT} {a_s1 : StoreT} {r : Txt × ReaderT}, G.spec_nameIn n p_r1 a_s1 = some r → ACalls Go.Proofs.Tryz.prog 34 [.one (.ptr 0 0), .agg [.c (.sl 7 (List.map ItemT.cells a_s1.Items)), .c (.lit (.int .i64 a_s1.Clock))]] [.var [.c (.sl 1 (List.map cU p_r1.b)), .c (.lit (.int .i64 p_r1.p))]] (fun r1 b1 => r1 = .one (.c (.str r.1)) ∧ b1 = [.var [.c (.sl 1 (List.map cU r.2.b)), .c (.lit (.int .i64 r.2.p))]]) := by
  intro p_r1 a_s1 r h
  refine fun_sound K.spec_nameIn (ofK ?_)
  unfold C.spec_nameIn
  rcases n with _ | n <;> simp only [G.spec_nameIn, reduceCtorEq] at h
  obtain ⟨zc, zg, zk, zu, ze, zj, zt⟩ := pp () <| pp (pp (pp @F.spec_reader_pick (@cG [0] [])) <| pp (pp @F.spec_badName (@cG [0] [])) <| pp (pp @F.spec_itemName (@cG [0] [])) ()) <| pp () <| pp () <| pp () <| pp () <| (pp (@retX [] [(0, 0)] []) ())
  exact drv
theorem F.spec_at {n : Nat} : ∀ {a_n1 : NodeT} {a_path1 : List Txt} {r : NodeT × Bool}, G.spec_at n a_n1 a_path1 = some r → APure Go.Proofs.Tryz.prog 78 [.agg [.c (.lit (.int .i64 a_n1.Kind)), .c (.lit (.int .i64 a_n1.Num)), .c (.str a_n1.Text), .c (.sl 1 (List.map cS a_n1.Names)), .c (.sl 5 (List.map NodeT.cells a_n1.Kids))], .one (.c (.sl 1 (List.map cS a_path1)))] (.tup [(true, [.c (.lit (.int .i64 r.1.Kind)), .c (.lit (.int .i64 r.1.Num)), .c (.str r.1.Text), .c (.sl 1 (List.map cS r.1.Names)), .c (.sl 5 (List.map NodeT.cells r.1.Kids))]), (false, [.c (.lit (.bool r.2))])]) := by
  intro a_n1 a_path1 r h
  refine fun_pure K.spec_at (ofK ?_)
  unfold C.spec_at
  rcases n with _ | n <;> simp only [G.spec_at, reduceCtorEq] at h
  obtain ⟨zc, zg, zk, zu, ze, zj, zt⟩ := pp (pp @F.spec_place <| pp @F.spec_copyNode ()) <| pp () <| pp (pp (@lopX (Int × Int × Int × Txt × List Txt × List NodeT) _ (fun n x => G.spec_at.L1 n a_path1 x.1 x.2.1 x.2.2.1 x.2.2.2.1 x.2.2.2.2.1 x.2.2.2.2.2) r (fun x => ASt.of [(1, .v true (.one (.c (.sl 1 (List.map cS a_path1))))), (2, .v true (.one (.ptr 105 0))), (4, .v true (.one (.ptr 106 0))), (6, .v true (.one (.c (.lit (.int .i64 x.1)))))] [(105, .var [.c (.lit (.int .i64 x.2.1)), .c (.lit (.int .i64 x.2.2.1)), .c (.str x.2.2.2.1), .c (.sl 1 (List.map cS x.2.2.2.2.1)), .c (.sl 5 (List.map NodeT.cells x.2.2.2.2.2))]), (106, .var [.c (.lit (.int .i64 0)), .c (.lit (.int .i64 0)), .c (.str []), .nsl 1, .nsl 5])])) ()) <| pp () <| pp (pp (And.intro @G.spec_at.L1.eq_1 <| @G.spec_at.L1.eq_2) ()) <| pp (pp (@weakX [] [(105, 10), (106, 11)] []) <| pp (@weakX [] [(105, 105), (106, 106)] []) ()) <| ()
  exact drv
theorem F.spec_setAt_n : ∀ (n : Nat), ∀ {a_n1 : NodeT} {a_path1 : List Txt} {a_value1 : NodeT} {r : NodeT × Bool}, G.spec_setAt n a_n1 a_path1 a_value1 = some r → APure Go.Proofs.Tryz.prog 76 [.agg [.c (.lit (.int .i64 a_n1.Kind)), .c (.lit (.int .i64 a_n1.Num)), .c (.str a_n1.Text), .c (.sl 1 (List.map cS a_n1.Names)), .c (.sl 5 (List.map NodeT.cells a_n1.Kids))], .one (.c (.sl 1 (List.map cS a_path1))), .agg [.c (.lit (.int .i64 a_value1.Kind)), .c (.lit (.int .i64 a_value1.Num)), .c (.str a_value1.Text), .c (.sl 1 (List.map cS a_value1.Names)), .c (.sl 5 (List.map NodeT.cells a_value1.Kids))]] (.tup [(true, [.c (.lit (.int .i64 r.1.Kind)), .c (.lit (.int .i64 r.1.Num)), .c (.str r.1.Text), .c (.sl 1 (List.map cS r.1.Names)), .c (.sl 5 (List.map NodeT.cells r.1.Kids))]), (false, [.c (.lit (.bool r.2))])]) := by
  intro n
  induction n using Nat.strongRecOn with | _ n ih =>
  intro a_n1 a_path1 a_value1 r h
  refine fun_pure K.spec_setAt (ofK ?_)
  unfold C.spec_setAt
  rcases n with _ | n <;> simp only [G.spec_setAt, reduceCtorEq] at h
  obtain ⟨zc, zg, zk, zu, ze, zj, zt⟩ := pp (pp ih <| pp @F.spec_copyNode <| pp @F.spec_place <| pp @F.spec_withKid ()) <| pp () <| pp () <| pp () <| pp () <| pp () <| ()
  exact drv
theorem F.spec_setAt {n : Nat} : ∀ {a_n1 : NodeT} {a_path1 : List Txt} {a_value1 : NodeT} {r : NodeT × Bool}, G.spec_setAt n a_n1 a_path1 a_value1 = some r → APure Go.Proofs.Tryz.prog 76 [.agg [.c (.lit (.int .i64 a_n1.Kind)), .c (.lit (.int .i64 a_n1.Num)), .c (.str a_n1.Text), .c (.sl 1 (List.map cS a_n1.Names)), .c (.sl 5 (List.map NodeT.cells a_n1.Kids))], .one (.c (.sl 1 (List.map cS a_path1))), .agg [.c (.lit (.int .i64 a_value1.Kind)), .c (.lit (.int .i64 a_value1.Num)), .c (.str a_value1.Text), .c (.sl 1 (List.map cS a_value1.Names)), .c (.sl 5 (List.map NodeT.cells a_value1.Kids))]] (.tup [(true, [.c (.lit (.int .i64 r.1.Kind)), .c (.lit (.int .i64 r.1.Num)), .c (.str r.1.Text), .c (.sl 1 (List.map cS r.1.Names)), .c (.sl 5 (List.map NodeT.cells r.1.Kids))]), (false, [.c (.lit (.bool r.2))])]) := F.spec_setAt_n n
theorem F.spec_addAt {n : Nat} : ∀ {a_n1 : NodeT} {a_path1 : List Txt} {a_value1 : NodeT} {r : NodeT × Bool}, G.spec_addAt n a_n1 a_path1 a_value1 = some r → APure Go.Proofs.Tryz.prog 75 [.agg [.c (.lit (.int .i64 a_n1.Kind)), .c (.lit (.int .i64 a_n1.Num)), .c (.str a_n1.Text), .c (.sl 1 (List.map cS a_n1.Names)), .c (.sl 5 (List.map NodeT.cells a_n1.Kids))], .one (.c (.sl 1 (List.map cS a_path1))), .agg [.c (.lit (.int .i64 a_value1.Kind)), .c (.lit (.int .i64 a_value1.Num)), .c (.str a_value1.Text), .c (.sl 1 (List.map cS a_value1.Names)), .c (.sl 5 (List.map NodeT.cells a_value1.Kids))]] (.tup [(true, [.c (.lit (.int .i64 r.1.Kind)), .c (.lit (.int .i64 r.1.Num)), .c (.str r.1.Text), .c (.sl 1 (List.map cS r.1.Names)), .c (.sl 5 (List.map NodeT.cells r.1.Kids))]), (false, [.c (.lit (.bool r.2))])]) := by
  intro a_n1 a_path1 a_value1 r h
  refine fun_pure K.spec_addAt (ofK ?_)
  unfold C.spec_addAt
  rcases n with _ | n <;> simp only [G.spec_addAt, reduceCtorEq] at h
  obtain ⟨zc, zg, zk, zu, ze, zj, zt⟩ := pp (pp @F.spec_copyNode <| pp @F.spec_at <| pp @F.spec_addHere <| pp @F.spec_setAt ()) <| pp () <| pp () <| pp () <| pp () <| pp () <| ()
  exact drv
theorem F.spec_all_n : ∀ (n : Nat), ∀ {a_n1 : NodeT} {r : List (List Txt)}, G.spec_all n a_n1 = some r → APure Go.Proofs.Tryz.prog 73 [.agg [.c (.lit (.int .i64 a_n1.Kind)), .c (.lit (.int .i64 a_n1.Num)), .c (.str a_n1.Text), .c (.sl 1 (List.map cS a_n1.Names)), .c (.sl 5 (List.map NodeT.cells a_n1.Kids))]] (.one (.c (.sl 1 (List.map (cL 1 cS) r)))) := by
  intro n
  induction n using Nat.strongRecOn with | _ n ih =>
  intro a_n1 r h
  refine fun_pure K.spec_all (ofK ?_)
  unfold C.spec_all
  rcases n with _ | n <;> simp only [G.spec_all, reduceCtorEq] at h
  obtain ⟨zc, zg, zk, zu, ze, zj, zt⟩ := pp (pp ih <| pp @F.spec_decimal ()) <| pp () <| pp (pp (@lopX (Int × List (List Txt)) _ (fun n x => G.spec_all.L5 n a_n1 x.1 x.2) r (fun x => ASt.of [(1, .v true (.one (.ptr 121 0))), (3, .v true (.one (.own 122 x.2.length 1))), (4, .v true (.one (.c (.lit (.int .i64 x.1)))))] [(121, .var [.c (.lit (.int .i64 a_n1.Kind)), .c (.lit (.int .i64 a_n1.Num)), .c (.str a_n1.Text), .c (.sl 1 (List.map cS a_n1.Names)), .c (.sl 5 (List.map NodeT.cells a_n1.Kids))]), (122, .dat 1 (List.map (cL 1 cS) x.2))])) <| pp (@lopX (Int × Txt × List (List Txt) × Int × List (List Txt)) _ (fun n x => G.spec_all.L7 n a_n1 x.1 x.2.1 x.2.2.1 x.2.2.2.1 x.2.2.2.2) r (fun x => ASt.of [(1, .v true (.one (.ptr 129 0))), (3, .v true (.one (.own 130 x.2.2.2.2.length 1))), (4, .v true (.one (.c (.lit (.int .i64 x.1))))), (5, .v true (.one (.c (.str x.2.1)))), (6, .v true (.one (.c (.sl 1 (List.map (cL 1 cS) x.2.2.1))))), (7, .v true (.one (.c (.lit (.int .i64 x.2.2.2.1)))))] [(129, .var [.c (.lit (.int .i64 a_n1.Kind)), .c (.lit (.int .i64 a_n1.Num)), .c (.str a_n1.Text), .c (.sl 1 (List.map cS a_n1.Names)), .c (.sl 5 (List.map NodeT.cells a_n1.Kids))]), (130, .dat 1 (List.map (cL 1 cS) x.2.2.2.2))])) ()) <| pp (pp (@cutX (Int × List (List Txt) × Txt) _ (fun n x => G.spec_all.K6 n a_n1 x.1 x.2.1 x.2.2) r (fun x => ASt.of [(1, .v true (.one (.ptr 123 0))), (3, .v true (.one (.own 124 x.2.1.length 1))), (4, .v true (.one (.c (.lit (.int .i64 x.1))))), (5, .v true (.one (.c (.str x.2.2))))] [(123, .var [.c (.lit (.int .i64 a_n1.Kind)), .c (.lit (.int .i64 a_n1.Num)), .c (.str a_n1.Text), .c (.sl 1 (List.map cS a_n1.Names)), .c (.sl 5 (List.map NodeT.cells a_n1.Kids))]), (124, .dat 1 (List.map (cL 1 cS) x.2.1))])) ()) <| pp (pp (And.intro @G.spec_all.L5.eq_1 <| And.intro @G.spec_all.L5.eq_2 <| And.intro @G.spec_all.K6.eq_1 <| And.intro @G.spec_all.K6.eq_2 <| And.intro @G.spec_all.L7.eq_1 <| @G.spec_all.L7.eq_2) ()) <| pp (pp (@weakX [] [(121, 10), (122, 12)] []) <| pp (@weakX [] [(123, 121), (124, 122)] []) <| pp (@weakX [] [(129, 123), (130, 124)] []) <| pp (@weakX [] [(129, 129), (130, 16)] []) <| pp (@weakX [] [(121, 129), (122, 130)] []) ()) <| ()
  exact drv
theorem F.spec_all {n : Nat} : ∀ {a_n1 : NodeT} {r : List (List Txt)}, G.spec_all n a_n1 = some r → APure Go.Proofs.Tryz.prog 73 [.agg [.c (.lit (.int .i64 a_n1.Kind)), .c (.lit (.int .i64 a_n1.Num)), .c (.str a_n1.Text), .c (.sl 1 (List.map cS a_n1.Names)), .c (.sl 5 (List.map NodeT.cells a_n1.Kids))]] (.one (.c (.sl 1 (List.map (cL 1 cS) r)))) := F.spec_all_n n
theorem F.spec_removeAt {n : Nat} : ∀ {a_n1 : NodeT} {a_path1 : List Txt} {r : NodeT × Bool}, G.spec_removeAt n a_n1 a_path1 = some r → APure Go.Proofs.Tryz.prog 74 [.agg [.c (.lit (.int .i64 a_n1.Kind)), .c (.lit (.int .i64 a_n1.Num)), .c (.str a_n1.Text), .c (.sl 1 (List.map cS a_n1.Names)), .c (.sl 5 (List.map NodeT.cells a_n1.Kids))], .one (.c (.sl 1 (List.map cS a_path1)))] (.tup [(true, [.c (.lit (.int .i64 r.1.Kind)), .c (.lit (.int .i64 r.1.Num)), .c (.str r.1.Text), .c (.sl 1 (List.map cS r.1.Names)), .c (.sl 5 (List.map NodeT.cells r.1.Kids))]), (false, [.c (.lit (.bool r.2))])]) := by
  intro a_n1 a_path1 r h
  refine fun_pure K.spec_removeAt (ofK ?_)
  unfold C.spec_removeAt
  rcases n with _ | n <;> simp only [G.spec_removeAt, reduceCtorEq] at h
  obtain ⟨zc, zg, zk, zu, ze, zj, zt⟩ := pp (pp @F.spec_at <| pp @F.spec_place <| pp @F.spec_setAt ()) <| pp () <| pp () <| pp (pp (@cutX ((NodeT × Bool) × List NodeT × List Txt) _ (fun n x => G.spec_removeAt.K1 n a_n1 a_path1 x.1 x.2.1 x.2.2) r (fun x => ASt.of [(1, .v true (.one (.c (.sl 1 (List.map cS a_path1))))), (2, .v true (.one (.ptr 101 0))), (4, .v true (.one (.ptr 102 0))), (6, .v true (.one (.c (.lit (.int .i64 (IntKind.wrap .i64 (((a_path1.length : Nat) : Int) - 1))))))), (7, .v true (.one (.ptr 103 0))), (10, .v true (.one (.own 104 x.2.1.length 5))), (11, .v true (.one (.own 105 x.2.2.length 1)))] [(101, .var [.c (.lit (.int .i64 a_n1.Kind)), .c (.lit (.int .i64 a_n1.Num)), .c (.str a_n1.Text), .c (.sl 1 (List.map cS a_n1.Names)), .c (.sl 5 (List.map NodeT.cells a_n1.Kids))]), (102, .var [.c (.lit (.int .i64 0)), .c (.lit (.int .i64 0)), .c (.str []), .nsl 1, .nsl 5]), (103, .var [.c (.lit (.int .i64 x.1.1.Kind)), .c (.lit (.int .i64 x.1.1.Num)), .c (.str x.1.1.Text), .c (.sl 1 (List.map cS x.1.1.Names)), .c (.sl 5 (List.map NodeT.cells x.1.1.Kids))]), (104, .dat 5 (List.map NodeT.cells x.2.1)), (105, .dat 1 (List.map cS x.2.2))])) ()) <| pp (pp (And.intro @G.spec_removeAt.K1.eq_1 <| @G.spec_removeAt.K1.eq_2) ()) <| pp (pp (@weakX [] [(101, 10), (102, 11), (103, 12), (104, 15), (105, 19)] []) <| pp (@weakX [] [(101, 10), (102, 11), (103, 12), (104, 15), (105, 16)] []) ()) <| ()
  exact drv
theorem F.spec_nearNode {n : Nat} : ∀ {p_r1 : ReaderT} {a_n1 : NodeT} {r : NodeT × ReaderT}, G.spec_nearNode n p_r1 a_n1 = some r → ACalls Go.Proofs.Tryz.prog 39 [.one (.ptr 0 0), .agg [.c (.lit (.int .i64 a_n1.Kind)), .c (.lit (.int .i64 a_n1.Num)), .c (.str a_n1.Text), .c (.sl 1 (List.map cS a_n1.Names)), .c (.sl 5 (List.map NodeT.cells a_n1.Kids))]] [.var [.c (.sl 1 (List.map cU p_r1.b)), .c (.lit (.int .i64 p_r1.p))]] (fun r1 b1 => r1 = .agg [.c (.lit (.int .i64 r.1.Kind)), .c (.lit (.int .i64 r.1.Num)), .c (.str r.1.Text), .c (.sl 1 (List.map cS r.1.Names)), .c (.sl 5 (List.map NodeT.cells r.1.Kids))] ∧ b1 = [.var [.c (.sl 1 (List.map cU r.2.b)), .c (.lit (.int .i64 r.2.p))]]) := by
  intro p_r1 a_n1 r h
  refine fun_sound K.spec_nearNode (ofK ?_)
  unfold C.spec_nearNode
  rcases n with _ | n <;> simp only [G.spec_nearNode, reduceCtorEq] at h
  obtain ⟨zc, zg, zk, zu, ze, zj, zt⟩ := pp (pp @F.spec_all <| pp @F.spec_copyNode <| pp @F.spec_removeAt <| pp @F.spec_addAt <| pp @F.spec_setAt <| pp @F.spec_validNode ()) <| pp (pp (pp @F.spec_reader_pick (@cG [0] [])) <| pp (pp @F.spec_reader_of (@cH [0] [])) <| pp (pp @F.spec_randomNode (@cG [0] [])) <| pp (pp @F.spec_someNode (@cG [0] [])) ()) <| pp () <| pp (pp (@cutX (Bool × List Int × Int × Int × Int × Txt × List Txt × List NodeT) _ (fun n x => G.spec_nearNode.K1 n a_n1 x.1 x.2.1 x.2.2.1 x.2.2.2.1 x.2.2.2.2.1 x.2.2.2.2.2.1 x.2.2.2.2.2.2.1 x.2.2.2.2.2.2.2) r (fun x => ASt.of [(3, .v true (.one (.ptr 101 0))), (4, .v true (.one (.ptr 102 0))), (7, .v true (.one (.ptr 103 0))), (8, .v true (.one (.c (.lit (.bool x.1)))))] [(0, .var [.c (.sl 1 (List.map cU x.2.1)), .c (.lit (.int .i64 x.2.2.1))]), (101, .var [.c (.lit (.int .i64 a_n1.Kind)), .c (.lit (.int .i64 a_n1.Num)), .c (.str a_n1.Text), .c (.sl 1 (List.map cS a_n1.Names)), .c (.sl 5 (List.map NodeT.cells a_n1.Kids))]), (102, .var [.c (.lit (.int .i64 0)), .c (.lit (.int .i64 0)), .c (.str []), .nsl 1, .nsl 5]), (103, .var [.c (.lit (.int .i64 x.2.2.2.1)), .c (.lit (.int .i64 x.2.2.2.2.1)), .c (.str x.2.2.2.2.2.1), .c (.sl 1 (List.map cS x.2.2.2.2.2.2.1)), .c (.sl 5 (List.map NodeT.cells x.2.2.2.2.2.2.2))])])) ()) <| pp (pp (And.intro @G.spec_nearNode.K1.eq_1 <| @G.spec_nearNode.K1.eq_2) ()) <| pp (pp (@weakX [] [(0, 0), (101, 10), (102, 11), (103, 12)] []) ()) <| (pp (@retX [] [(0, 0)] []) ())
  exact drv
theorem F.spec_AllPaths {n : Nat} : ∀ {a_n1 : NodeT} {r : List (List Txt)}, G.spec_AllPaths n a_n1 = some r → APure Go.Proofs.Tryz.prog 101 [.agg [.c (.lit (.int .i64 a_n1.Kind)), .c (.lit (.int .i64 a_n1.Num)), .c (.str a_n1.Text), .c (.sl 1 (List.map cS a_n1.Names)), .c (.sl 5 (List.map NodeT.cells a_n1.Kids))]] (.one (.c (.sl 1 (List.map (cL 1 cS) r)))) := by
  intro a_n1 r h
  refine fun_pure K.spec_AllPaths (ofK ?_)
  unfold C.spec_AllPaths
  rcases n with _ | n <;> simp only [G.spec_AllPaths, reduceCtorEq] at h
  obtain ⟨zc, zg, zk, zu, ze, zj, zt⟩ := pp (pp @F.spec_validNode <| pp @F.spec_all ()) <| pp () <| pp () <| pp () <| pp () <| pp () <| ()
  exact drv
theorem F.spec_anyPath {n : Nat} : ∀ {p_r1 : ReaderT} {r : List Txt × ReaderT}, G.spec_anyPath n p_r1 = some r → ACalls Go.Proofs.Tryz.prog 102 [.one (.ptr 0 0)] [.var [.c (.sl 1 (List.map cU p_r1.b)), .c (.lit (.int .i64 p_r1.p))]] (fun r1 b1 => r1 = .one (.c (.sl 1 (List.map cS r.1))) ∧ b1 = [.var [.c (.sl 1 (List.map cU r.2.b)), .c (.lit (.int .i64 r.2.p))]]) := by
  intro p_r1 r h
  refine fun_sound K.spec_anyPath (ofK ?_)
  unfold C.spec_anyPath
  rcases n with _ | n <;> simp only [G.spec_anyPath, reduceCtorEq] at h
  obtain ⟨zc, zg, zk, zu, ze, zj, zt⟩ := pp () <| pp (pp (pp @F.spec_reader_one (@cH [0] [])) <| pp (pp @F.spec_reader_of (@cH [0] [])) <| pp (pp @F.spec_reader_pick (@cG [0] [])) ()) <| pp (pp (@lopX (Int × List Int × Int × List Txt) _ (fun n x => G.spec_anyPath.L1 n x.1 x.2.1 x.2.2.1 x.2.2.2) r (fun x => ASt.of [(0, .v true (.one (.ptr 0 0))), (3, .v true (.one (.own 103 x.2.2.2.length 1))), (4, .v true (.one (.c (.lit (.int .i64 x.1)))))] [(0, .var [.c (.sl 1 (List.map cU x.2.1)), .c (.lit (.int .i64 x.2.2.1))]), (103, .dat 1 (List.map cS x.2.2.2))])) ()) <| pp () <| pp (pp (And.intro @G.spec_anyPath.L1.eq_1 <| @G.spec_anyPath.L1.eq_2) ()) <| pp (pp (@weakX [] [(0, 0), (103, 10)] []) <| pp (@weakX [] [(0, 0), (103, 14)] []) ()) <| (pp (@retX [103] [(0, 0)] []) ())
  exact drv
theorem F.spec_pathIn {n : Nat} : ∀ {p_r1 : ReaderT} {a_n1 : NodeT} {r : List Txt × ReaderT}, G.spec_pathIn n p_r1 a_n1 = some r → ACalls Go.Proofs.Tryz.prog 77 [.one (.ptr 0 0), .agg [.c (.lit (.int .i64 a_n1.Kind)), .c (.lit (.int .i64 a_n1.Num)), .c (.str a_n1.Text), .c (.sl 1 (List.map cS a_n1.Names)), .c (.sl 5 (List.map NodeT.cells a_n1.Kids))]] [.var [.c (.sl 1 (List.map cU p_r1.b)), .c (.lit (.int .i64 p_r1.p))]] (fun r1 b1 => r1 = .one (.c (.sl 1 (List.map cS r.1))) ∧ b1 = [.var [.c (.sl 1 (List.map cU r.2.b)), .c (.lit (.int .i64 r.2.p))]]) := by
  intro p_r1 a_n1 r h
  refine fun_sound K.spec_pathIn (ofK ?_)
  unfold C.spec_pathIn
  rcases n with _ | n <;> simp only [G.spec_pathIn, reduceCtorEq] at h
  obtain ⟨zc, zg, zk, zu, ze, zj, zt⟩ := pp (pp @F.spec_AllPaths ()) <| pp (pp (pp @F.spec_reader_pick (@cG [0] [])) <| pp (pp @F.spec_anyPath (@cG [0] [])) ()) <| pp () <| pp () <| pp () <| pp () <| (pp (@retX [] [(0, 0)] []) ())
  exact drv
theorem F.spec_someOp {n : Nat} : ∀ {p_r1 : ReaderT} {a_n1 : NodeT} {r : OpT × ReaderT}, G.spec_someOp n p_r1 a_n1 = some r → ACalls Go.Proofs.Tryz.prog 40 [.one (.ptr 0 0), .agg [.c (.lit (.int .i64 a_n1.Kind)), .c (.lit (.int .i64 a_n1.Num)), .c (.str a_n1.Text), .c (.sl 1 (List.map cS a_n1.Names)), .c (.sl 5 (List.map NodeT.cells a_n1.Kids))]] [.var [.c (.sl 1 (List.map cU p_r1.b)), .c (.lit (.int .i64 p_r1.p))]] (fun r1 b1 => r1 = .agg [.c (.lit (.int .i64 r.1.Kind)), .c (.sl 1 (List.map cS r.1.Path)), .c (.sl 1 (List.map cS r.1.From)), .c (.lit (.int .i64 r.1.Value.Kind)), .c (.lit (.int .i64 r.1.Value.Num)), .c (.str r.1.Value.Text), .c (.sl 1 (List.map cS r.1.Value.Names)), .c (.sl 5 (List.map NodeT.cells r.1.Value.Kids))] ∧ b1 = [.var [.c (.sl 1 (List.map cU r.2.b)), .c (.lit (.int .i64 r.2.p))]]) := by
  intro p_r1 a_n1 r h
  refine fun_sound K.spec_someOp (ofK ?_)
  unfold C.spec_someOp
  rcases n with _ | n <;> simp only [G.spec_someOp, reduceCtorEq] at h
  have := Mk.mk 1; have := Mk.mk 2; have := Mk.mk 3; have := Mk.mk 4
  obtain ⟨zc, zg, zk, zu, ze, zj, zt, zq⟩ := pp (pp @F.spec_at ()) <| pp (pp (pp @F.spec_reader_pick (@cG [0] [])) <| pp (pp @F.spec_pathIn (@cG [0] [])) <| pp (pp @F.spec_randomNode (@cG [0] [])) <| pp (pp @F.spec_reader_of (@cH [0] [])) ()) <| pp () <| pp (pp (@cutX ((Int × ReaderT) × (List Txt × ReaderT) × List Int × Int × List Txt × Int × Int × Txt × List Txt × List NodeT) _ (fun n x => G.spec_someOp.K3 n x.1 x.2.1 x.2.2.1 x.2.2.2.1 x.2.2.2.2.1 x.2.2.2.2.2.1 x.2.2.2.2.2.2.1 x.2.2.2.2.2.2.2.1 x.2.2.2.2.2.2.2.2.1 x.2.2.2.2.2.2.2.2.2) r (fun x => ASt.of [(0, .v true (.one (.ptr 0 0))), (4, .v true (.one (.ptr 109 0))), (5, .v true (.one (.ptr 110 0)))] [(0, .var [.c (.sl 1 (List.map cU x.2.2.1)), .c (.lit (.int .i64 x.2.2.2.1))]), (109, .var [.c (.lit (.int .i64 0)), .nsl 1, .nsl 1, .c (.lit (.int .i64 0)), .c (.lit (.int .i64 0)), .c (.str []), .nsl 1, .nsl 5]), (110, .var [.c (.lit (.int .i64 (IntKind.wrap .i64 (1 + x.1.1)))), .c (.sl 1 (List.map cS x.2.1.1)), .c (.sl 1 (List.map cS x.2.2.2.2.1)), .c (.lit (.int .i64 x.2.2.2.2.2.1)), .c (.lit (.int .i64 x.2.2.2.2.2.2.1)), .c (.str x.2.2.2.2.2.2.2.1), .c (.sl 1 (List.map cS x.2.2.2.2.2.2.2.2.1)), .c (.sl 5 (List.map NodeT.cells x.2.2.2.2.2.2.2.2.2))])])) <| pp (@cutX ((Int × ReaderT) × (List Txt × ReaderT) × Bool) _ (fun n x => G.spec_someOp.K5 n a_n1 x.1 x.2.1 x.2.2) r (fun x => ASt.of [(0, .v true (.one (.ptr 0 0))), (3, .v true (.one (.ptr 113 0))), (4, .v true (.one (.ptr 114 0))), (5, .v true (.one (.ptr 115 0))), (18, .v true (.one (.c (.lit (.int .i64 (IntKind.wrap .i64 (1 + x.1.1))))))), (19, .v true (.one (.c (.lit (.bool x.2.2)))))] [(0, .var [.c (.sl 1 (List.map cU x.2.1.2.b)), .c (.lit (.int .i64 x.2.1.2.p))]), (113, .var [.c (.lit (.int .i64 a_n1.Kind)), .c (.lit (.int .i64 a_n1.Num)), .c (.str a_n1.Text), .c (.sl 1 (List.map cS a_n1.Names)), .c (.sl 5 (List.map NodeT.cells a_n1.Kids))]), (114, .var [.c (.lit (.int .i64 0)), .nsl 1, .nsl 1, .c (.lit (.int .i64 0)), .c (.lit (.int .i64 0)), .c (.str []), .nsl 1, .nsl 5]), (115, .var [.c (.lit (.int .i64 (IntKind.wrap .i64 (1 + x.1.1)))), .c (.sl 1 (List.map cS x.2.1.1)), .own 116 0 1, .c (.lit (.int .i64 0)), .c (.lit (.int .i64 0)), .c (.str []), .nsl 1, .nsl 5]), (116, .dat 1 (List.map cS []))])) <| pp (@cutX ((Int × ReaderT) × (List Txt × ReaderT) × Bool) _ (fun n x => G.spec_someOp.K6 n a_n1 x.1 x.2.1 x.2.2) r (fun x => ASt.of [(0, .v true (.one (.ptr 0 0))), (3, .v true (.one (.ptr 117 0))), (4, .v true (.one (.ptr 118 0))), (5, .v true (.one (.ptr 119 0))), (42, .v true (.one (.c (.lit (.bool x.2.2)))))] [(0, .var [.c (.sl 1 (List.map cU x.2.1.2.b)), .c (.lit (.int .i64 x.2.1.2.p))]), (117, .var [.c (.lit (.int .i64 a_n1.Kind)), .c (.lit (.int .i64 a_n1.Num)), .c (.str a_n1.Text), .c (.sl 1 (List.map cS a_n1.Names)), .c (.sl 5 (List.map NodeT.cells a_n1.Kids))]), (118, .var [.c (.lit (.int .i64 0)), .nsl 1, .nsl 1, .c (.lit (.int .i64 0)), .c (.lit (.int .i64 0)), .c (.str []), .nsl 1, .nsl 5]), (119, .var [.c (.lit (.int .i64 (IntKind.wrap .i64 (1 + x.1.1)))), .c (.sl 1 (List.map cS x.2.1.1)), .own 120 0 1, .c (.lit (.int .i64 0)), .c (.lit (.int .i64 0)), .c (.str []), .nsl 1, .nsl 5]), (120, .dat 1 (List.map cS []))])) <| pp (@cutX ((Int × ReaderT) × (List Txt × ReaderT) × List Txt × Int × Int × Txt × List Txt × List NodeT × Bool × List Int × Int) _ (fun n x => G.spec_someOp.K4 n x.1 x.2.1 x.2.2.1 x.2.2.2.1 x.2.2.2.2.1 x.2.2.2.2.2.1 x.2.2.2.2.2.2.1 x.2.2.2.2.2.2.2.1 x.2.2.2.2.2.2.2.2.1 x.2.2.2.2.2.2.2.2.2.1 x.2.2.2.2.2.2.2.2.2.2) r (fun x => ASt.of [(0, .v true (.one (.ptr 0 0))), (4, .v true (.one (.ptr 111 0))), (5, .v true (.one (.ptr 112 0))), (72, .v true (.one (.c (.lit (.bool x.2.2.2.2.2.2.2.2.1)))))] [(0, .var [.c (.sl 1 (List.map cU x.2.2.2.2.2.2.2.2.2.1)), .c (.lit (.int .i64 x.2.2.2.2.2.2.2.2.2.2))]), (111, .var [.c (.lit (.int .i64 0)), .nsl 1, .nsl 1, .c (.lit (.int .i64 0)), .c (.lit (.int .i64 0)), .c (.str []), .nsl 1, .nsl 5]), (112, .var [.c (.lit (.int .i64 (IntKind.wrap .i64 (1 + x.1.1)))), .c (.sl 1 (List.map cS x.2.1.1)), .c (.sl 1 (List.map cS x.2.2.1)), .c (.lit (.int .i64 x.2.2.2.1)), .c (.lit (.int .i64 x.2.2.2.2.1)), .c (.str x.2.2.2.2.2.1), .c (.sl 1 (List.map cS x.2.2.2.2.2.2.1)), .c (.sl 5 (List.map NodeT.cells x.2.2.2.2.2.2.2.1))])])) ()) <| pp (pp (And.intro @G.spec_someOp.K3.eq_1 <| And.intro @G.spec_someOp.K3.eq_2 <| And.intro @G.spec_someOp.K5.eq_1 <| And.intro @G.spec_someOp.K5.eq_2 <| And.intro @G.spec_someOp.K6.eq_1 <| And.intro @G.spec_someOp.K6.eq_2 <| And.intro @G.spec_someOp.K4.eq_1 <| @G.spec_someOp.K4.eq_2) ()) <| pp (pp (@weakX [] [(0, 0), (113, 10), (114, 11), (115, 13), (116, 12)] []) <| pp (@weakX [116] [(0, 0), (109, 114), (110, 115)] []) <| pp (@weakX [] [(0, 0), (117, 113), (118, 114), (119, 115), (120, 116)] []) <| pp (@weakX [] [(0, 0), (109, 118), (110, 119)] []) <| pp (@weakX [120] [(0, 0), (109, 118), (110, 119)] []) <| pp (@weakX [] [(0, 0), (111, 109), (112, 110)] []) ()) <| pp (pp (@retX [19] [(0, 0)] []) <| pp (@retX [] [(0, 0)] []) ()) <| (pp (pp (rfl : @G.spec_someOp.K3 = _) <| pp (rfl : @G.spec_someOp.K6 = _) <| pp (rfl : @G.spec_someOp.K5 = _) ()) <| pp (pp (rfl : @G.spec_someOp.K5 = _) ()) <| pp (pp (rfl : @G.spec_someOp.K6 = _) <| pp (rfl : @G.spec_someOp.K5 = _) ()) <| pp (pp (rfl : @G.spec_someOp.K4 = _) <| pp (rfl : @G.spec_someOp.K3 = _) <| pp (rfl : @G.spec_someOp.K6 = _) <| pp (rfl : @G.spec_someOp.K5 = _) ()) ())
  exact drvM
theorem F.spec_someRequest {n : Nat} : ∀ {p_r1 : ReaderT} {a_s1 : StoreT} {r : RequestT × ReaderT}, G.spec_someRequest n p_r1 a_s1 = some r → ACalls Go.Proofs.Tryz.prog 23 [.one (.ptr 0 0), .agg [.c (.sl 7 (List.map ItemT.cells a_s1.Items)), .c (.lit (.int .i64 a_s1.Clock))]] [.var [.c (.sl 1 (List.map cU p_r1.b)), .c (.lit (.int .i64 p_r1.p))]] (fun r1 b1 => r1 = .agg [.c (.lit (.int .i64 r.1.Method)), .c (.str r.1.Name), .c (.sl 1 (List.map cS r.1.Want)), .c (.sl 1 (List.map cS r.1.Avoid)), .c (.lit (.int .i64 r.1.Body.Kind)), .c (.lit (.int .i64 r.1.Body.Num)), .c (.str r.1.Body.Text), .c (.sl 1 (List.map cS r.1.Body.Names)), .c (.sl 5 (List.map NodeT.cells r.1.Body.Kids)), .c (.sl 8 (List.map OpT.cells r.1.Ops))] ∧ b1 = [.var [.c (.sl 1 (List.map cU r.2.b)), .c (.lit (.int .i64 r.2.p))]]) := by
  intro p_r1 a_s1 r h
  refine fun_sound K.spec_someRequest (ofK ?_)
  unfold C.spec_someRequest
  rcases n with _ | n <;> simp only [G.spec_someRequest, reduceCtorEq] at h
  have := Mk.mk 1; have := Mk.mk 2; have := Mk.mk 3
  obtain ⟨zc, zg, zk, zu, ze, zj, zt, zq⟩ := pp (pp @F.spec_GetItem <| pp @F.spec_TagOf ()) <| pp (pp (pp @F.spec_nameIn (@cG [0] [])) <| pp (pp @F.spec_reader_pick (@cG [0] [])) <| pp (pp @F.spec_anyTags (@cG [0] [])) <| pp (pp @F.spec_someNode (@cG [0] [])) <| pp (pp @F.spec_nearNode (@cG [0] [])) <| pp (pp @F.spec_someOp (@cG [0] [])) ()) <| pp (pp (@lopX ((Txt × ReaderT) × (ItemT × Bool) × (Int × ReaderT) × List Txt × List Txt × Int × List Int × Int × List OpT) _ (fun n x => G.spec_someRequest.L5 n x.1 x.2.1 x.2.2.1 x.2.2.2.1 x.2.2.2.2.1 x.2.2.2.2.2.1 x.2.2.2.2.2.2.1 x.2.2.2.2.2.2.2.1 x.2.2.2.2.2.2.2.2) r (fun x => ASt.of [(0, .v true (.one (.ptr 0 0))), (4, .v true (.one (.ptr 133 0))), (6, .v true (.one (.ptr 134 0))), (7, .v true (.one (.c (.lit (.bool x.2.1.2))))), (8, .v true (.one (.ptr 135 0))), (9, .v true (.one (.c (.lit (.int .i64 x.2.2.2.2.2.1)))))] [(0, .var [.c (.sl 1 (List.map cU x.2.2.2.2.2.2.1)), .c (.lit (.int .i64 x.2.2.2.2.2.2.2.1))]), (133, .var [.c (.lit (.int .i64 0)), .c (.str []), .nsl 1, .nsl 1, .c (.lit (.int .i64 0)), .c (.lit (.int .i64 0)), .c (.str []), .nsl 1, .nsl 5, .nsl 8]), (134, .var [.c (.str x.2.1.1.Name), .c (.lit (.int .i64 x.2.1.1.Version)), .c (.lit (.int .i64 x.2.1.1.Node.Kind)), .c (.lit (.int .i64 x.2.1.1.Node.Num)), .c (.str x.2.1.1.Node.Text), .c (.sl 1 (List.map cS x.2.1.1.Node.Names)), .c (.sl 5 (List.map NodeT.cells x.2.1.1.Node.Kids))]), (135, .var [.c (.lit (.int .i64 (IntKind.wrap .i64 (1 + x.2.2.1.1)))), .c (.str x.1.1), .c (.sl 1 (List.map cS x.2.2.2.1)), .c (.sl 1 (List.map cS x.2.2.2.2.1)), .c (.lit (.int .i64 0)), .c (.lit (.int .i64 0)), .c (.str []), .nsl 1, .nsl 5, .own 136 x.2.2.2.2.2.2.2.2.length 8]), (136, .dat 8 (List.map OpT.cells x.2.2.2.2.2.2.2.2))])) ()) <| pp (pp (@cutX ((Txt × ReaderT) × (ItemT × Bool) × (Int × ReaderT) × List Int × Int × List Txt) _ (fun n x => G.spec_someRequest.K1 n x.1 x.2.1 x.2.2.1 x.2.2.2.1 x.2.2.2.2.1 x.2.2.2.2.2) r (fun x => ASt.of [(0, .v true (.one (.ptr 0 0))), (4, .v true (.one (.ptr 101 0))), (6, .v true (.one (.ptr 102 0))), (7, .v true (.one (.c (.lit (.bool x.2.1.2))))), (8, .v true (.one (.ptr 103 0)))] [(0, .var [.c (.sl 1 (List.map cU x.2.2.2.1)), .c (.lit (.int .i64 x.2.2.2.2.1))]), (101, .var [.c (.lit (.int .i64 0)), .c (.str []), .nsl 1, .nsl 1, .c (.lit (.int .i64 0)), .c (.lit (.int .i64 0)), .c (.str []), .nsl 1, .nsl 5, .nsl 8]), (102, .var [.c (.str x.2.1.1.Name), .c (.lit (.int .i64 x.2.1.1.Version)), .c (.lit (.int .i64 x.2.1.1.Node.Kind)), .c (.lit (.int .i64 x.2.1.1.Node.Num)), .c (.str x.2.1.1.Node.Text), .c (.sl 1 (List.map cS x.2.1.1.Node.Names)), .c (.sl 5 (List.map NodeT.cells x.2.1.1.Node.Kids))]), (103, .var [.c (.lit (.int .i64 (IntKind.wrap .i64 (1 + x.2.2.1.1)))), .c (.str x.1.1), .c (.sl 1 (List.map cS x.2.2.2.2.2)), .own 104 0 1, .c (.lit (.int .i64 0)), .c (.lit (.int .i64 0)), .c (.str []), .nsl 1, .nsl 5, .own 105 0 8]), (104, .dat 1 (List.map cS [])), (105, .dat 8 (List.map OpT.cells []))])) <| pp (@cutX ((Txt × ReaderT) × (ItemT × Bool) × (Int × ReaderT) × List Txt × List Int × Int × List Txt) _ (fun n x => G.spec_someRequest.K2 n x.1 x.2.1 x.2.2.1 x.2.2.2.1 x.2.2.2.2.1 x.2.2.2.2.2.1 x.2.2.2.2.2.2) r (fun x => ASt.of [(0, .v true (.one (.ptr 0 0))), (4, .v true (.one (.ptr 106 0))), (6, .v true (.one (.ptr 107 0))), (7, .v true (.one (.c (.lit (.bool x.2.1.2))))), (8, .v true (.one (.ptr 108 0)))] [(0, .var [.c (.sl 1 (List.map cU x.2.2.2.2.1)), .c (.lit (.int .i64 x.2.2.2.2.2.1))]), (106, .var [.c (.lit (.int .i64 0)), .c (.str []), .nsl 1, .nsl 1, .c (.lit (.int .i64 0)), .c (.lit (.int .i64 0)), .c (.str []), .nsl 1, .nsl 5, .nsl 8]), (107, .var [.c (.str x.2.1.1.Name), .c (.lit (.int .i64 x.2.1.1.Version)), .c (.lit (.int .i64 x.2.1.1.Node.Kind)), .c (.lit (.int .i64 x.2.1.1.Node.Num)), .c (.str x.2.1.1.Node.Text), .c (.sl 1 (List.map cS x.2.1.1.Node.Names)), .c (.sl 5 (List.map NodeT.cells x.2.1.1.Node.Kids))]), (108, .var [.c (.lit (.int .i64 (IntKind.wrap .i64 (1 + x.2.2.1.1)))), .c (.str x.1.1), .c (.sl 1 (List.map cS x.2.2.2.1)), .c (.sl 1 (List.map cS x.2.2.2.2.2.2)), .c (.lit (.int .i64 0)), .c (.lit (.int .i64 0)), .c (.str []), .nsl 1, .nsl 5, .own 109 0 8]), (109, .dat 8 (List.map OpT.cells []))])) <| pp (@cutX ((Txt × ReaderT) × (ItemT × Bool) × (Int × ReaderT) × List Txt × List Txt × List Int × Int × Int × Int × Txt × List Txt × List NodeT × List OpT) _ (fun n x => G.spec_someRequest.K4 n x.1 x.2.1 x.2.2.1 x.2.2.2.1 x.2.2.2.2.1 x.2.2.2.2.2.1 x.2.2.2.2.2.2.1 x.2.2.2.2.2.2.2.1 x.2.2.2.2.2.2.2.2.1 x.2.2.2.2.2.2.2.2.2.1 x.2.2.2.2.2.2.2.2.2.2.1 x.2.2.2.2.2.2.2.2.2.2.2.1 x.2.2.2.2.2.2.2.2.2.2.2.2) r (fun x => ASt.of [(0, .v true (.one (.ptr 0 0))), (4, .v true (.one (.ptr 122 0))), (7, .v true (.one (.c (.lit (.bool x.2.1.2))))), (8, .v true (.one (.ptr 123 0)))] [(0, .var [.c (.sl 1 (List.map cU x.2.2.2.2.2.1)), .c (.lit (.int .i64 x.2.2.2.2.2.2.1))]), (122, .var [.c (.lit (.int .i64 0)), .c (.str []), .nsl 1, .nsl 1, .c (.lit (.int .i64 0)), .c (.lit (.int .i64 0)), .c (.str []), .nsl 1, .nsl 5, .nsl 8]), (123, .var [.c (.lit (.int .i64 (IntKind.wrap .i64 (1 + x.2.2.1.1)))), .c (.str x.1.1), .c (.sl 1 (List.map cS x.2.2.2.1)), .c (.sl 1 (List.map cS x.2.2.2.2.1)), .c (.lit (.int .i64 x.2.2.2.2.2.2.2.1)), .c (.lit (.int .i64 x.2.2.2.2.2.2.2.2.1)), .c (.str x.2.2.2.2.2.2.2.2.2.1), .c (.sl 1 (List.map cS x.2.2.2.2.2.2.2.2.2.2.1)), .c (.sl 5 (List.map NodeT.cells x.2.2.2.2.2.2.2.2.2.2.2.1)), .own 124 x.2.2.2.2.2.2.2.2.2.2.2.2.length 8]), (124, .dat 8 (List.map OpT.cells x.2.2.2.2.2.2.2.2.2.2.2.2))])) ()) <| pp (pp (And.intro @G.spec_someRequest.K1.eq_1 <| And.intro @G.spec_someRequest.K1.eq_2 <| And.intro @G.spec_someRequest.K2.eq_1 <| And.intro @G.spec_someRequest.K2.eq_2 <| And.intro @G.spec_someRequest.K4.eq_1 <| And.intro @G.spec_someRequest.K4.eq_2 <| And.intro @G.spec_someRequest.L5.eq_1 <| @G.spec_someRequest.L5.eq_2) ()) <| pp (pp (@weakX [] [(0, 0), (101, 11), (102, 12), (103, 16), (104, 14), (105, 15)] []) <| pp (@weakX [13] [(0, 0), (101, 11), (102, 12), (103, 16), (104, 14), (105, 15)] []) <| pp (@weakX [] [(0, 0), (106, 101), (107, 102), (108, 103), (109, 105)] []) <| pp (@weakX [104] [(0, 0), (106, 101), (107, 102), (108, 103), (109, 105)] []) <| pp (@weakX [] [(0, 0), (122, 106), (123, 108), (124, 109)] []) <| pp (@weakX [] [(0, 0), (133, 106), (134, 107), (135, 108), (136, 109)] []) <| pp (@weakX [] [(0, 0), (133, 133), (134, 134), (135, 135), (136, 18)] []) <| pp (@weakX [] [(0, 0), (122, 133), (123, 135), (124, 136)] []) ()) <| pp (pp (@retX [124] [(0, 0)] []) ()) <| (pp (pp (rfl : @G.spec_someRequest.K1 = _) ()) <| pp (pp (rfl : @G.spec_someRequest.K2 = _) <| pp (rfl : @G.spec_someRequest.K1 = _) ()) <| pp (pp (rfl : @G.spec_someRequest.K4 = _) <| pp (rfl : @G.spec_someRequest.L5 = _) <| pp (rfl : @G.spec_someRequest.K2 = _) <| pp (rfl : @G.spec_someRequest.K1 = _) ()) ())
  exact drvM
theorem F.spec_anyRequest {n : Nat} : ∀ {p_r1 : ReaderT} {a_s1 : StoreT} {r : RequestT × ReaderT}, G.spec_anyRequest n p_r1 a_s1 = some r → ACalls Go.Proofs.Tryz.prog 21 [.one (.ptr 0 0), .agg [.c (.sl 7 (List.map ItemT.cells a_s1.Items)), .c (.lit (.int .i64 a_s1.Clock))]] [.var [.c (.sl 1 (List.map cU p_r1.b)), .c (.lit (.int .i64 p_r1.p))]] (fun r1 b1 => r1 = .agg [.c (.lit (.int .i64 r.1.Method)), .c (.str r.1.Name), .c (.sl 1 (List.map cS r.1.Want)), .c (.sl 1 (List.map cS r.1.Avoid)), .c (.lit (.int .i64 r.1.Body.Kind)), .c (.lit (.int .i64 r.1.Body.Num)), .c (.str r.1.Body.Text), .c (.sl 1 (List.map cS r.1.Body.Names)), .c (.sl 5 (List.map NodeT.cells r.1.Body.Kids)), .c (.sl 8 (List.map OpT.cells r.1.Ops))] ∧ b1 = [.var [.c (.sl 1 (List.map cU r.2.b)), .c (.lit (.int .i64 r.2.p))]]) := by
  intro p_r1 a_s1 r h
  refine fun_sound K.spec_anyRequest (ofK ?_)
  unfold C.spec_anyRequest
  rcases n with _ | n <;> simp only [G.spec_anyRequest, reduceCtorEq] at h
  obtain ⟨zc, zg, zk, zu, ze, zj, zt⟩ := pp () <| pp (pp (pp @F.spec_someRequest (@cG [0] [])) <| pp (pp @F.spec_reader_pick (@cG [0] [])) <| pp (pp @F.spec_reader_one (@cH [0] [])) <| pp (pp @F.spec_badName (@cG [0] [])) <| pp (pp @F.spec_anyNode (@cG [0] [])) ()) <| pp () <| pp () <| pp () <| pp () <| (pp (@retX [] [(0, 0)] []) ())
  exact drv
theorem F.spec_drop_r {n : Nat} : ∀ {a_s1 : StoreT} {a_name1 : Txt} {r : StoreT}, G.spec_drop n a_s1 a_name1 = some r → ACalls Go.Proofs.Tryz.prog 93 [.agg [.own 0 a_s1.Items.length 7, .c (.lit (.int .i64 a_s1.Clock))], .one (.c (.str a_name1))] [.dat 7 (List.map ItemT.cells a_s1.Items)] (fun r1 b1 => r1 = .agg [.own 1 r.Items.length 7, .c (.lit (.int .i64 r.Clock))] ∧ b1 = [.dat 7 (List.map ItemT.cells a_s1.Items), .dat 7 (List.map ItemT.cells r.Items)]) := by
  intro a_s1 a_name1 r h
  refine fun_sound K.spec_drop_r (ofK ?_)
  unfold C.spec_drop
  rcases n with _ | n <;> simp only [G.spec_drop, reduceCtorEq] at h
  obtain ⟨zc, zg, zk, zu, ze, zj, zt⟩ := pp () <| pp (pp (pp @F.spec_copyStore_r (@cG [0] [101])) ()) <| pp (pp (@lopX (StoreT × Int × List ItemT) _ (fun n x => G.spec_drop.L1 n a_s1 a_name1 x.1 x.2.1 x.2.2) r (fun x => ASt.of [(1, .v true (.one (.c (.str a_name1)))), (2, .v true (.one (.ptr 110 0))), (4, .v true (.one (.ptr 111 0))), (5, .v true (.one (.own 112 x.2.2.length 7))), (6, .v true (.one (.own 113 x.1.Items.length 7))), (7, .v true (.one (.c (.lit (.int .i64 x.2.1)))))] [(0, .dat 7 (List.map ItemT.cells a_s1.Items)), (110, .var [.own 0 a_s1.Items.length 7, .c (.lit (.int .i64 a_s1.Clock))]), (111, .var [.nsl 7, .c (.lit (.int .i64 0))]), (112, .dat 7 (List.map ItemT.cells x.2.2)), (113, .dat 7 (List.map ItemT.cells x.1.Items))])) ()) <| pp () <| pp (pp (And.intro @G.spec_drop.L1.eq_1 <| @G.spec_drop.L1.eq_2) ()) <| pp (pp (@weakX [] [(0, 0), (110, 10), (111, 11), (112, 12), (113, 101)] []) <| pp (@weakX [] [(0, 0), (110, 110), (111, 111), (112, 112), (113, 113)] []) <| pp (@weakX [] [(0, 0), (110, 110), (111, 111), (112, 14), (113, 113)] []) ()) <| (pp (@retX [] [(0, 0), (1, 112)] []) ())
  exact drv
theorem F.spec_DropItem_r {n : Nat} : ∀ {a_s1 : StoreT} {a_name1 : Txt} {r : StoreT × Bool}, G.spec_DropItem n a_s1 a_name1 = some r → ACalls Go.Proofs.Tryz.prog 62 [.agg [.own 0 a_s1.Items.length 7, .c (.lit (.int .i64 a_s1.Clock))], .one (.c (.str a_name1))] [.dat 7 (List.map ItemT.cells a_s1.Items)] (fun r1 b1 => r1 = .tup [(true, [.own 1 r.1.Items.length 7, .c (.lit (.int .i64 r.1.Clock))]), (false, [.c (.lit (.bool r.2))])] ∧ b1 = [.dat 7 (List.map ItemT.cells a_s1.Items), .dat 7 (List.map ItemT.cells r.1.Items)]) := by
  intro a_s1 a_name1 r h
  refine fun_sound K.spec_DropItem_r (ofK ?_)
  unfold C.spec_DropItem
  rcases n with _ | n <;> simp only [G.spec_DropItem, reduceCtorEq] at h
  obtain ⟨zc, zg, zk, zu, ze, zj, zt⟩ := pp (pp @F.spec_validStore <| pp @F.spec_find ()) <| pp (pp (pp @F.spec_drop_r (@cG [0] [101])) ()) <| pp () <| pp () <| pp () <| pp () <| (pp (@retX [] [(0, 0)] [1]) <| pp (@retX [] [(0, 0), (1, 101)] []) ())
  exact drv
theorem F.spec_put_r {n : Nat} : ∀ {a_s1 : StoreT} {a_name1 : Txt} {a_n1 : NodeT} {r : StoreT}, G.spec_put n a_s1 a_name1 a_n1 = some r → ACalls Go.Proofs.Tryz.prog 92 [.agg [.own 0 a_s1.Items.length 7, .c (.lit (.int .i64 a_s1.Clock))], .one (.c (.str a_name1)), .agg [.c (.lit (.int .i64 a_n1.Kind)), .c (.lit (.int .i64 a_n1.Num)), .c (.str a_n1.Text), .c (.sl 1 (List.map cS a_n1.Names)), .c (.sl 5 (List.map NodeT.cells a_n1.Kids))]] [.dat 7 (List.map ItemT.cells a_s1.Items)] (fun r1 b1 => r1 = .agg [.own 1 r.Items.length 7, .c (.lit (.int .i64 r.Clock))] ∧ b1 = [.dat 7 (List.map ItemT.cells a_s1.Items), .dat 7 (List.map ItemT.cells r.Items)]) := by
  intro a_s1 a_name1 a_n1 r h
  refine fun_sound K.spec_put_r (ofK ?_)
  unfold C.spec_put
  rcases n with _ | n <;> simp only [G.spec_put, reduceCtorEq] at h
  obtain ⟨zc, zg, zk, zu, ze, zj, zt⟩ := pp (pp @F.spec_copyNode ()) <| pp (pp (pp @F.spec_copyStore_r (@cG [0] [101])) ()) <| pp (pp (@lopX (NodeT × StoreT × Bool × Int × List ItemT) _ (fun n x => G.spec_put.L3 n a_s1 a_name1 x.1 x.2.1 x.2.2.1 x.2.2.2.1 x.2.2.2.2) r (fun x => ASt.of [(1, .v true (.one (.c (.str a_name1)))), (3, .v true (.one (.ptr 122 0))), (6, .v true (.one (.ptr 123 0))), (7, .v true (.one (.own 124 x.2.2.2.2.length 7))), (8, .v true (.one (.ptr 125 0))), (9, .v true (.one (.own 126 x.2.1.Items.length 7))), (10, .v true (.one (.c (.lit (.bool x.2.2.1))))), (11, .v true (.one (.c (.lit (.int .i64 x.2.2.2.1)))))] [(0, .dat 7 (List.map ItemT.cells a_s1.Items)), (122, .var [.own 0 a_s1.Items.length 7, .c (.lit (.int .i64 a_s1.Clock))]), (123, .var [.nsl 7, .c (.lit (.int .i64 0))]), (124, .dat 7 (List.map ItemT.cells x.2.2.2.2)), (125, .var [.c (.str a_name1), .c (.lit (.int .i64 (IntKind.wrap .i64 (a_s1.Clock + 1)))), .c (.lit (.int .i64 x.1.Kind)), .c (.lit (.int .i64 x.1.Num)), .c (.str x.1.Text), .c (.sl 1 (List.map cS x.1.Names)), .c (.sl 5 (List.map NodeT.cells x.1.Kids))]), (126, .dat 7 (List.map ItemT.cells x.2.1.Items))])) ()) <| pp (pp (@cutX (NodeT × StoreT × Int × Bool × List ItemT) _ (fun n x => G.spec_put.K4 n a_s1 a_name1 x.1 x.2.1 x.2.2.1 x.2.2.2.1 x.2.2.2.2) r (fun x => ASt.of [(1, .v true (.one (.c (.str a_name1)))), (3, .v true (.one (.ptr 127 0))), (6, .v true (.one (.ptr 128 0))), (7, .v true (.one (.own 129 x.2.2.2.2.length 7))), (8, .v true (.one (.ptr 130 0))), (9, .v true (.one (.own 131 x.2.1.Items.length 7))), (10, .v true (.one (.c (.lit (.bool x.2.2.2.1))))), (11, .v true (.one (.c (.lit (.int .i64 x.2.2.1)))))] [(0, .dat 7 (List.map ItemT.cells a_s1.Items)), (127, .var [.own 0 a_s1.Items.length 7, .c (.lit (.int .i64 a_s1.Clock))]), (128, .var [.nsl 7, .c (.lit (.int .i64 0))]), (129, .dat 7 (List.map ItemT.cells x.2.2.2.2)), (130, .var [.c (.str a_name1), .c (.lit (.int .i64 (IntKind.wrap .i64 (a_s1.Clock + 1)))), .c (.lit (.int .i64 x.1.Kind)), .c (.lit (.int .i64 x.1.Num)), .c (.str x.1.Text), .c (.sl 1 (List.map cS x.1.Names)), .c (.sl 5 (List.map NodeT.cells x.1.Kids))]), (131, .dat 7 (List.map ItemT.cells x.2.1.Items))])) ()) <| pp (pp (And.intro @G.spec_put.L3.eq_1 <| And.intro @G.spec_put.L3.eq_2 <| And.intro @G.spec_put.K4.eq_1 <| @G.spec_put.K4.eq_2) ()) <| pp (pp (@weakX [] [(0, 0), (122, 10), (123, 12), (124, 13), (125, 14), (126, 101)] []) <| pp (@weakX [] [(0, 0), (127, 122), (128, 123), (129, 124), (130, 125), (131, 126)] []) <| pp (@weakX [] [(0, 0), (127, 122), (128, 123), (129, 16), (130, 125), (131, 126)] []) <| pp (@weakX [] [(0, 0), (122, 127), (123, 128), (124, 129), (125, 130), (126, 131)] []) <| pp (@weakX [] [(0, 0), (122, 127), (123, 128), (124, 18), (125, 130), (126, 131)] []) ()) <| (pp (@retX [] [(0, 0), (1, 124)] []) <| pp (@retX [] [(0, 0), (1, 20)] []) ())
  exact drv
theorem F.spec_PutItem_r {n : Nat} : ∀ {a_s1 : StoreT} {a_name1 : Txt} {a_n1 : NodeT} {r : StoreT × Bool}, G.spec_PutItem n a_s1 a_name1 a_n1 = some r → ACalls Go.Proofs.Tryz.prog 60 [.agg [.own 0 a_s1.Items.length 7, .c (.lit (.int .i64 a_s1.Clock))], .one (.c (.str a_name1)), .agg [.c (.lit (.int .i64 a_n1.Kind)), .c (.lit (.int .i64 a_n1.Num)), .c (.str a_n1.Text), .c (.sl 1 (List.map cS a_n1.Names)), .c (.sl 5 (List.map NodeT.cells a_n1.Kids))]] [.dat 7 (List.map ItemT.cells a_s1.Items)] (fun r1 b1 => r1 = .tup [(true, [.own 1 r.1.Items.length 7, .c (.lit (.int .i64 r.1.Clock))]), (false, [.c (.lit (.bool r.2))])] ∧ b1 = [.dat 7 (List.map ItemT.cells a_s1.Items), .dat 7 (List.map ItemT.cells r.1.Items)]) := by
  intro a_s1 a_name1 a_n1 r h
  refine fun_sound K.spec_PutItem_r (ofK ?_)
  unfold C.spec_PutItem
  rcases n with _ | n <;> simp only [G.spec_PutItem, reduceCtorEq] at h
  obtain ⟨zc, zg, zk, zu, ze, zj, zt⟩ := pp (pp @F.spec_validStore <| pp @F.spec_validName <| pp @F.spec_validNode ()) <| pp (pp (pp @F.spec_put_r (@cG [0] [101])) ()) <| pp () <| pp () <| pp () <| pp () <| (pp (@retX [] [(0, 0), (1, 101)] []) <| pp (@retX [] [(0, 0)] [1]) ())
  exact drv
theorem F.spec_someStore_o {n : Nat} : ∀ {p_r1 : ReaderT} {r : StoreT × ReaderT}, G.spec_someStore n p_r1 = some r → ACalls Go.Proofs.Tryz.prog 31 [.one (.ptr 0 0)] [.var [.c (.sl 1 (List.map cU p_r1.b)), .c (.lit (.int .i64 p_r1.p))]] (fun r1 b1 => r1 = .agg [.own 1 r.1.Items.length 7, .c (.lit (.int .i64 r.1.Clock))] ∧ b1 = [.var [.c (.sl 1 (List.map cU r.2.b)), .c (.lit (.int .i64 r.2.p))], .dat 7 (List.map ItemT.cells r.1.Items)]) := by
  intro p_r1 r h
  refine fun_sound K.spec_someStore (ofK ?_)
  unfold C.spec_someStore
  rcases n with _ | n <;> simp only [G.spec_someStore, reduceCtorEq] at h
  obtain ⟨zc, zg, zk, zu, ze, zj, zt⟩ := pp () <| pp (pp (pp @F.spec_reader_one (@cH [0] [])) <| pp (pp @F.spec_itemName (@cG [0] [])) <| pp (pp @F.spec_someNode (@cG [0] [])) <| pp (pp @F.spec_PutItem_r (@cG [125] [126])) <| pp (pp @F.spec_reader_pick (@cG [0] [])) <| pp (pp @F.spec_DropItem_r (@cG [125] [133])) ()) <| pp (pp (@lopX (Int × List Int × Int × List ItemT × Int) _ (fun n x => G.spec_someStore.L3 n x.1 x.2.1 x.2.2.1 x.2.2.2.1 x.2.2.2.2) r (fun x => ASt.of [(0, .v true (.one (.ptr 0 0))), (2, .v true (.one (.ptr 123 0))), (3, .v true (.one (.ptr 124 0))), (4, .v true (.one (.c (.lit (.int .i64 x.1)))))] [(0, .var [.c (.sl 1 (List.map cU x.2.1)), .c (.lit (.int .i64 x.2.2.1))]), (123, .var [.nsl 7, .c (.lit (.int .i64 0))]), (124, .var [.own 125 x.2.2.2.1.length 7, .c (.lit (.int .i64 x.2.2.2.2))]), (125, .dat 7 (List.map ItemT.cells x.2.2.2.1))])) ()) <| pp (pp (@cutX (Int × List ItemT × Int × Bool × List Int × Int × List ItemT × Int) _ (fun n x => G.spec_someStore.K4 n x.1 x.2.1 x.2.2.1 x.2.2.2.1 x.2.2.2.2.1 x.2.2.2.2.2.1 x.2.2.2.2.2.2.1 x.2.2.2.2.2.2.2) r (fun x => ASt.of [(0, .v true (.one (.ptr 0 0))), (2, .v true (.one (.ptr 128 0))), (3, .v true (.one (.ptr 129 0))), (4, .v true (.one (.c (.lit (.int .i64 x.1))))), (5, .v true (.one (.ptr 130 0))), (6, .v true (.one (.c (.lit (.bool x.2.2.2.1)))))] [(0, .var [.c (.sl 1 (List.map cU x.2.2.2.2.1)), .c (.lit (.int .i64 x.2.2.2.2.2.1))]), (128, .var [.nsl 7, .c (.lit (.int .i64 0))]), (129, .var [.own 131 x.2.1.length 7, .c (.lit (.int .i64 x.2.2.1))]), (130, .var [.own 132 x.2.2.2.2.2.2.1.length 7, .c (.lit (.int .i64 x.2.2.2.2.2.2.2))]), (131, .dat 7 (List.map ItemT.cells x.2.1)), (132, .dat 7 (List.map ItemT.cells x.2.2.2.2.2.2.1))])) ()) <| pp (pp (And.intro @G.spec_someStore.L3.eq_1 <| And.intro @G.spec_someStore.L3.eq_2 <| And.intro @G.spec_someStore.K4.eq_1 <| @G.spec_someStore.K4.eq_2) ()) <| pp (pp (@weakX [] [(0, 0), (123, 10), (124, 12), (125, 11)] []) <| pp (@weakX [] [(0, 0), (128, 123), (129, 124), (130, 14), (131, 125), (132, 133)] []) <| pp (@weakX [] [(0, 0), (128, 123), (129, 124), (130, 14), (131, 125), (132, 126)] []) <| pp (@weakX [] [(0, 0), (123, 128), (124, 129), (125, 132)] []) <| pp (@weakX [] [(0, 0), (123, 128), (124, 129), (125, 131)] []) ()) <| (pp (@retX [] [(0, 0), (1, 125)] []) ())
  exact drv
theorem F.spec_anyStore {n : Nat} : ∀ {p_r1 : ReaderT} {r : StoreT × ReaderT}, G.spec_anyStore n p_r1 = some r → ACalls Go.Proofs.Tryz.prog 19 [.one (.ptr 0 0)] [.var [.c (.sl 1 (List.map cU p_r1.b)), .c (.lit (.int .i64 p_r1.p))]] (fun r1 b1 => r1 = .agg [.c (.sl 7 (List.map ItemT.cells r.1.Items)), .c (.lit (.int .i64 r.1.Clock))] ∧ b1 = [.var [.c (.sl 1 (List.map cU r.2.b)), .c (.lit (.int .i64 r.2.p))]]) := by
  intro p_r1 r h
  refine fun_sound K.spec_anyStore (ofK ?_)
  unfold C.spec_anyStore
  rcases n with _ | n <;> simp only [G.spec_anyStore, reduceCtorEq] at h
  obtain ⟨zc, zg, zk, zu, ze, zj, zt⟩ := pp () <| pp (pp (pp @F.spec_someStore_o (@cG [0] [101])) <| pp (pp @F.spec_reader_pick (@cG [0] [])) <| pp (pp @F.spec_reader_one (@cH [0] [])) <| pp (pp @F.spec_badName (@cG [0] [])) <| pp (pp @F.spec_anyNode (@cG [0] [])) ()) <| pp () <| pp () <| pp () <| pp () <| (pp (@retX [101] [(0, 0)] []) <| pp (@retX [14] [(0, 0)] []) ())
  exact drv
theorem F.spec_anyBatch {n : Nat} : ∀ {p_r1 : ReaderT} {r : StoreT × List RequestT × ReaderT}, G.spec_anyBatch n p_r1 = some r → ACalls Go.Proofs.Tryz.prog 11 [.one (.ptr 0 0)] [.var [.c (.sl 1 (List.map cU p_r1.b)), .c (.lit (.int .i64 p_r1.p))]] (fun r1 b1 => r1 = .tup [(true, [.c (.sl 7 (List.map ItemT.cells r.1.Items)), .c (.lit (.int .i64 r.1.Clock))]), (false, [.c (.sl 10 (List.map RequestT.cells r.2.1))])] ∧ b1 = [.var [.c (.sl 1 (List.map cU r.2.2.b)), .c (.lit (.int .i64 r.2.2.p))]]) := by
  intro p_r1 r h
  refine fun_sound K.spec_anyBatch (ofK ?_)
  unfold C.spec_anyBatch
  rcases n with _ | n <;> simp only [G.spec_anyBatch, reduceCtorEq] at h
  obtain ⟨zc, zg, zk, zu, ze, zj, zt⟩ := pp () <| pp (pp (pp @F.spec_anyStore (@cG [0] [])) <| pp (pp @F.spec_reader_one (@cH [0] [])) <| pp (pp @F.spec_anyRequest (@cG [0] [])) <| pp (pp @F.spec_reader_pick (@cG [0] [])) <| pp (pp @F.spec_someRequest (@cG [0] [])) ()) <| pp (pp (@lopX ((StoreT × ReaderT) × Int × List Int × Int × List RequestT) _ (fun n x => G.spec_anyBatch.L1 n x.1 x.2.1 x.2.2.1 x.2.2.2.1 x.2.2.2.2) r (fun x => ASt.of [(0, .v true (.one (.ptr 0 0))), (2, .v true (.one (.ptr 107 0))), (4, .v true (.one (.ptr 108 0))), (5, .v true (.one (.own 109 x.2.2.2.2.length 10))), (6, .v true (.one (.c (.lit (.int .i64 x.2.1)))))] [(0, .var [.c (.sl 1 (List.map cU x.2.2.1)), .c (.lit (.int .i64 x.2.2.2.1))]), (107, .var [.nsl 7, .c (.lit (.int .i64 0))]), (108, .var [.c (.sl 7 (List.map ItemT.cells x.1.1.Items)), .c (.lit (.int .i64 x.1.1.Clock))]), (109, .dat 10 (List.map RequestT.cells x.2.2.2.2))])) <| pp (@lopX ((StoreT × ReaderT) × List Int × Int × List RequestT) _ (fun n x => G.spec_anyBatch.L2 n x.1 x.2.1 x.2.2.1 x.2.2.2) r (fun x => ASt.of [(0, .v true (.one (.ptr 0 0))), (2, .v true (.one (.ptr 116 0))), (4, .v true (.one (.ptr 117 0))), (5, .v true (.one (.own 118 x.2.2.2.length 10)))] [(0, .var [.c (.sl 1 (List.map cU x.2.1)), .c (.lit (.int .i64 x.2.2.1))]), (116, .var [.nsl 7, .c (.lit (.int .i64 0))]), (117, .var [.c (.sl 7 (List.map ItemT.cells x.1.1.Items)), .c (.lit (.int .i64 x.1.1.Clock))]), (118, .dat 10 (List.map RequestT.cells x.2.2.2))])) ()) <| pp () <| pp (pp (And.intro @G.spec_anyBatch.L1.eq_1 <| And.intro @G.spec_anyBatch.L1.eq_2 <| And.intro @G.spec_anyBatch.L2.eq_1 <| @G.spec_anyBatch.L2.eq_2) ()) <| pp (pp (@weakX [] [(0, 0), (107, 10), (108, 11), (109, 12)] []) <| pp (@weakX [] [(0, 0), (107, 107), (108, 108), (109, 15)] []) <| pp (@weakX [] [(0, 0), (116, 107), (117, 108), (118, 109)] []) <| pp (@weakX [] [(0, 0), (116, 116), (117, 117), (118, 17)] []) ()) <| (pp (@retX [118] [(0, 0)] []) <| pp (@retX [109] [(0, 0)] []) ())
  exact drv
theorem F.spec_newReader {n : Nat} : ∀ {a_code1 : List Int} {r : ReaderT}, G.spec_newReader n a_code1 = some r → ACalls Go.Proofs.Tryz.prog 12 [.one (.c (.sl 1 (List.map cU a_code1)))] [] (fun r1 b1 => r1 = .one (.ptr 0 0) ∧ b1 = [.var [.c (.sl 1 (List.map cU r.b)), .c (.lit (.int .i64 r.p))]]) := by
  intro a_code1 r h
  refine fun_sound K.spec_newReader (ofK ?_)
  unfold C.spec_newReader
  rcases n with _ | n <;> simp only [G.spec_newReader, reduceCtorEq] at h
  obtain ⟨zc, zg, zk, zu, ze, zj, zt⟩ := pp () <| pp () <| pp () <| pp () <| pp () <| pp () <| (pp (@retX [] [(0, 10)] []) ())
  exact drv
theorem F.spec_DrawTouches {n : Nat} : ∀ {a_code1 : List Int} {r : List RequestT}, G.spec_DrawTouches n a_code1 = some r → APure Go.Proofs.Tryz.prog 5 [.one (.c (.sl 1 (List.map cU a_code1)))] (.one (.c (.sl 10 (List.map RequestT.cells r)))) := by
  intro a_code1 r h
  refine fun_pure K.spec_DrawTouches (ofK ?_)
  unfold C.spec_DrawTouches
  rcases n with _ | n <;> simp only [G.spec_DrawTouches, reduceCtorEq] at h
  obtain ⟨zc, zg, zk, zu, ze, zj, zt⟩ := pp () <| pp (pp (pp @F.spec_newReader (@cG [] [101])) <| pp (pp @F.spec_anyBatch (@cG [101] [])) ()) <| pp () <| pp () <| pp () <| pp () <| ()
  exact drv
theorem F.spec_nameUnion {n : Nat} : ∀ {a_a1 : List Txt} {a_b1 : List Txt} {r : List Txt}, G.spec_nameUnion n a_a1 a_b1 = some r → APure Go.Proofs.Tryz.prog 17 [.one (.c (.sl 1 (List.map cS a_a1))), .one (.c (.sl 1 (List.map cS a_b1)))] (.one (.c (.sl 1 (List.map cS r)))) := by
  intro a_a1 a_b1 r h
  refine fun_pure K.spec_nameUnion (ofK ?_)
  unfold C.spec_nameUnion
  rcases n with _ | n <;> simp only [G.spec_nameUnion, reduceCtorEq] at h
  obtain ⟨zc, zg, zk, zu, ze, zj, zt⟩ := pp () <| pp () <| pp (pp (@lopX (Int × Int × List Txt) _ (fun n x => G.spec_nameUnion.L1 n a_a1 a_b1 x.1 x.2.1 x.2.2) r (fun x => ASt.of [(0, .v true (.one (.c (.sl 1 (List.map cS a_a1))))), (1, .v true (.one (.c (.sl 1 (List.map cS a_b1))))), (5, .v true (.one (.own 103 x.2.2.length 1))), (6, .v true (.one (.c (.lit (.int .i64 x.1))))), (7, .v true (.one (.c (.lit (.int .i64 x.2.1)))))] [(103, .dat 1 (List.map cS x.2.2))])) ()) <| pp () <| pp (pp (And.intro @G.spec_nameUnion.L1.eq_1 <| @G.spec_nameUnion.L1.eq_2) ()) <| pp (pp (@weakX [] [(103, 10)] []) <| pp (@weakX [] [(103, 12)] []) <| pp (@weakX [] [(103, 14)] []) <| pp (@weakX [] [(103, 16)] []) ()) <| ()
  exact drv
theorem F.spec_validPath {n : Nat} : ∀ {a_path1 : List Txt} {r : Bool}, G.spec_validPath n a_path1 = some r → APure Go.Proofs.Tryz.prog 107 [.one (.c (.sl 1 (List.map cS a_path1)))] (.one (.c (.lit (.bool r)))) := by
  intro a_path1 r h
  refine fun_pure K.spec_validPath (ofK ?_)
  unfold C.spec_validPath
  rcases n with _ | n <;> simp only [G.spec_validPath, reduceCtorEq] at h
  obtain ⟨zc, zg, zk, zu, ze, zj, zt⟩ := pp (pp @F.spec_validText ()) <| pp () <| pp (pp (@lopX (Int) _ (fun n x => G.spec_validPath.L1 n a_path1 x) r (fun x => ASt.of [(0, .v true (.one (.c (.sl 1 (List.map cS a_path1))))), (3, .v true (.one (.c (.lit (.int .i64 x)))))] [])) ()) <| pp () <| pp (pp (And.intro @G.spec_validPath.L1.eq_1 <| @G.spec_validPath.L1.eq_2) ()) <| pp (pp (@weakX [] [] []) ()) <| ()
  exact drv
theorem F.spec_validOp {n : Nat} : ∀ {a_o1 : OpT} {r : Bool}, G.spec_validOp n a_o1 = some r → APure Go.Proofs.Tryz.prog 88 [.agg [.c (.lit (.int .i64 a_o1.Kind)), .c (.sl 1 (List.map cS a_o1.Path)), .c (.sl 1 (List.map cS a_o1.From)), .c (.lit (.int .i64 a_o1.Value.Kind)), .c (.lit (.int .i64 a_o1.Value.Num)), .c (.str a_o1.Value.Text), .c (.sl 1 (List.map cS a_o1.Value.Names)), .c (.sl 5 (List.map NodeT.cells a_o1.Value.Kids))]] (.one (.c (.lit (.bool r)))) := by
  intro a_o1 r h
  refine fun_pure K.spec_validOp (ofK ?_)
  unfold C.spec_validOp
  rcases n with _ | n <;> simp only [G.spec_validOp, reduceCtorEq] at h
  obtain ⟨zc, zg, zk, zu, ze, zj, zt⟩ := pp (pp @F.spec_inRange <| pp @F.spec_validPath <| pp @F.spec_validNode ()) <| pp () <| pp () <| pp () <| pp () <| pp () <| ()
  exact drv
theorem F.spec_validPatch {n : Nat} : ∀ {a_list1 : List OpT} {r : Bool}, G.spec_validPatch n a_list1 = some r → APure Go.Proofs.Tryz.prog 56 [.one (.c (.sl 8 (List.map OpT.cells a_list1)))] (.one (.c (.lit (.bool r)))) := by
  intro a_list1 r h
  refine fun_pure K.spec_validPatch (ofK ?_)
  unfold C.spec_validPatch
  rcases n with _ | n <;> simp only [G.spec_validPatch, reduceCtorEq] at h
  obtain ⟨zc, zg, zk, zu, ze, zj, zt⟩ := pp (pp @F.spec_validOp ()) <| pp () <| pp (pp (@lopX (Int) _ (fun n x => G.spec_validPatch.L1 n a_list1 x) r (fun x => ASt.of [(0, .v true (.one (.c (.sl 8 (List.map OpT.cells a_list1))))), (3, .v true (.one (.c (.lit (.int .i64 x)))))] [])) ()) <| pp () <| pp (pp (And.intro @G.spec_validPatch.L1.eq_1 <| @G.spec_validPatch.L1.eq_2) ()) <| pp (pp (@weakX [] [] []) ()) <| ()
  exact drv
theorem F.spec_validTag {n : Nat} : ∀ {a_s1 : Txt} {r : Bool}, G.spec_validTag n a_s1 = some r → APure Go.Proofs.Tryz.prog 85 [.one (.c (.str a_s1))] (.one (.c (.lit (.bool r)))) := by
  intro a_s1 r h
  refine fun_pure K.spec_validTag (ofK ?_)
  unfold C.spec_validTag
  rcases n with _ | n <;> simp only [G.spec_validTag, reduceCtorEq] at h
  obtain ⟨zc, zg, zk, zu, ze, zj, zt⟩ := pp (pp @F.spec_inRange ()) <| pp () <| pp (pp (@lopX (Int) _ (fun n x => G.spec_validTag.L1 n a_s1 x) r (fun x => ASt.of [(0, .v true (.one (.c (.str a_s1)))), (3, .v true (.one (.c (.lit (.int .i64 x)))))] [])) ()) <| pp () <| pp (pp (And.intro @G.spec_validTag.L1.eq_1 <| @G.spec_validTag.L1.eq_2) ()) <| pp (pp (@weakX [] [] []) ()) <| ()
  exact drv
theorem F.spec_validTags {n : Nat} : ∀ {a_list1 : List Txt} {r : Bool}, G.spec_validTags n a_list1 = some r → APure Go.Proofs.Tryz.prog 54 [.one (.c (.sl 1 (List.map cS a_list1)))] (.one (.c (.lit (.bool r)))) := by
  intro a_list1 r h
  refine fun_pure K.spec_validTags (ofK ?_)
  unfold C.spec_validTags
  rcases n with _ | n <;> simp only [G.spec_validTags, reduceCtorEq] at h
  obtain ⟨zc, zg, zk, zu, ze, zj, zt⟩ := pp (pp @F.spec_validTag ()) <| pp () <| pp (pp (@lopX (Int) _ (fun n x => G.spec_validTags.L1 n a_list1 x) r (fun x => ASt.of [(0, .v true (.one (.c (.sl 1 (List.map cS a_list1))))), (3, .v true (.one (.c (.lit (.int .i64 x)))))] [])) ()) <| pp () <| pp (pp (And.intro @G.spec_validTags.L1.eq_1 <| @G.spec_validTags.L1.eq_2) ()) <| pp (pp (@weakX [] [] []) ()) <| ()
  exact drv
theorem F.spec_validRequest {n : Nat} : ∀ {a_q1 : RequestT} {r : Bool}, G.spec_validRequest n a_q1 = some r → APure Go.Proofs.Tryz.prog 26 [.agg [.c (.lit (.int .i64 a_q1.Method)), .c (.str a_q1.Name), .c (.sl 1 (List.map cS a_q1.Want)), .c (.sl 1 (List.map cS a_q1.Avoid)), .c (.lit (.int .i64 a_q1.Body.Kind)), .c (.lit (.int .i64 a_q1.Body.Num)), .c (.str a_q1.Body.Text), .c (.sl 1 (List.map cS a_q1.Body.Names)), .c (.sl 5 (List.map NodeT.cells a_q1.Body.Kids)), .c (.sl 8 (List.map OpT.cells a_q1.Ops))]] (.one (.c (.lit (.bool r)))) := by
  intro a_q1 r h
  refine fun_pure K.spec_validRequest (ofK ?_)
  unfold C.spec_validRequest
  rcases n with _ | n <;> simp only [G.spec_validRequest, reduceCtorEq] at h
  obtain ⟨zc, zg, zk, zu, ze, zj, zt⟩ := pp (pp @F.spec_inRange <| pp @F.spec_validName <| pp @F.spec_validTags <| pp @F.spec_validNode <| pp @F.spec_validPatch ()) <| pp () <| pp () <| pp () <| pp () <| pp () <| ()
  exact drv
theorem F.spec_validBatch {n : Nat} : ∀ {a_list1 : List RequestT} {r : Bool}, G.spec_validBatch n a_list1 = some r → APure Go.Proofs.Tryz.prog 16 [.one (.c (.sl 10 (List.map RequestT.cells a_list1)))] (.one (.c (.lit (.bool r)))) := by
  intro a_list1 r h
  refine fun_pure K.spec_validBatch (ofK ?_)
  unfold C.spec_validBatch
  rcases n with _ | n <;> simp only [G.spec_validBatch, reduceCtorEq] at h
  obtain ⟨zc, zg, zk, zu, ze, zj, zt⟩ := pp (pp @F.spec_validRequest ()) <| pp () <| pp (pp (@lopX (Int) _ (fun n x => G.spec_validBatch.L1 n a_list1 x) r (fun x => ASt.of [(0, .v true (.one (.c (.sl 10 (List.map RequestT.cells a_list1))))), (3, .v true (.one (.c (.lit (.int .i64 x)))))] [])) ()) <| pp () <| pp (pp (And.intro @G.spec_validBatch.L1.eq_1 <| @G.spec_validBatch.L1.eq_2) ()) <| pp (pp (@weakX [] [] []) ()) <| ()
  exact drv
theorem F.spec_Touches {n : Nat} : ∀ {a_list1 : List RequestT} {r : List Txt}, G.spec_Touches n a_list1 = some r → APure Go.Proofs.Tryz.prog 8 [.one (.c (.sl 10 (List.map RequestT.cells a_list1)))] (.one (.c (.sl 1 (List.map cS r)))) := by
  intro a_list1 r h
  refine fun_pure K.spec_Touches (ofK ?_)
  unfold C.spec_Touches
  rcases n with _ | n <;> simp only [G.spec_Touches, reduceCtorEq] at h
  obtain ⟨zc, zg, zk, zu, ze, zj, zt⟩ := pp (pp @F.spec_validBatch <| pp @F.spec_nameUnion ()) <| pp () <| pp (pp (@lopX (List Txt × Int) _ (fun n x => G.spec_Touches.L1 n a_list1 x.1 x.2) r (fun x => ASt.of [(0, .v true (.one (.c (.sl 10 (List.map RequestT.cells a_list1))))), (3, .v true (.one (.c (.sl 1 (List.map cS x.1))))), (4, .v true (.one (.c (.lit (.int .i64 x.2)))))] [])) ()) <| pp () <| pp (pp (And.intro @G.spec_Touches.L1.eq_1 <| @G.spec_Touches.L1.eq_2) ()) <| pp (pp (@weakX [10] [] []) <| pp (@weakX [] [] []) ()) <| ()
  exact drv
theorem F.laws_FnTouchesSafe {n : Nat} : ∀ {a_code1 : List Int} {r : Bool}, G.laws_FnTouchesSafe n a_code1 = some r → APure Go.Proofs.Tryz.prog 3 [.one (.c (.sl 1 (List.map cU a_code1)))] (.one (.c (.lit (.bool r)))) := by
  intro a_code1 r h
  refine fun_pure K.laws_FnTouchesSafe (ofK ?_)
  unfold C.laws_FnTouchesSafe
  rcases n with _ | n <;> simp only [G.laws_FnTouchesSafe, reduceCtorEq] at h
  obtain ⟨zc, zg, zk, zu, ze, zj, zt⟩ := pp (pp @F.spec_DrawTouches <| pp @F.impl_Touches <| pp @F.spec_Touches <| pp @F.laws_equalTexts ()) <| pp () <| pp () <| pp () <| pp () <| pp () <| ()
  exact drv
end Go.Ab
end
