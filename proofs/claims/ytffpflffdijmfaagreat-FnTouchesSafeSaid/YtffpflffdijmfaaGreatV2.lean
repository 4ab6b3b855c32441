/- What abstract values, states and codes of the program's language mean, and that they are sound (part 2). No conditions. -/
import Derived.Test.YtffpflffdijmfaaGreatV1
set_option linter.unusedVariables false
set_option linter.unusedSimpArgs false
section
namespace Go.Ab
open Go
def chkA (P : Program) (n m : Nat) (op : Op) (d : Option Nat) : AOp → Bool
  | .mv x => chkMv n op x
  | .pick c a b => chkPick n op c a b
  | .load agg k p => chkLoad P n op agg k p
  | .store agg k p x => chkStore P n op agg k p x && d.isNone
  | .alloc l zs => chkAlloc P op zs && decide (m ≤ l)
  | .allocA l sz c zs => chkAllocA P op sz c zs && decide (m ≤ l)
  | .box l x => chkBox n op x && decide (m ≤ l)
  | .build zs ps => chkBuild P n op zs ps
  | .bslice l sz c zs ps => chkBslice P n op sz c zs ps && decide (m ≤ l)
  | .makes l sz bytes zs x y => chkMakes P n op sz bytes zs x y && decide (m ≤ l)
  | .bin o x y => chkBin n op o x y
  | .beq ng x y => chkBeq P n op ng x y
  | .not x => chkNot n op x
  | .neg x => chkNeg n op x
  | .cint k x => chkCint P n op k x
  | .cstr x => chkCstr P n op x
  | .same x => chkSame P n op x
  | .mkfn f cs => chkMkfn n op f cs
  | .slstr x lo hi => chkSlstr P n op x lo hi
  | .slsl sz x lo hi => chkSlsl P n op sz x lo hi
  | .slarr sz c x => chkSlarr P n op sz c x
  | .nilck x => chkNilck n op x
  | .faddr off x => chkFaddr P n op off x
  | .field agg off k x => chkField P n op agg off k x
  | .iaddr sz x i => chkIaddr P n op sz x i
  | .iaddrA sz c x i => chkIaddrA P n op sz c x i
  | .idxs x i => chkIdxs P n op x i
  | .extract x i => chkExtract n op x i
  | .len x => chkLen P n op x
  | .lens x => chkLens P n op x
  | .max x y => chkMm true n op x y
  | .min x y => chkMm false n op x y
  | .append l sz bytes s x => chkAppend P n op sz bytes s x && decide (m ≤ l)
  | .copy sz x y => chkCopy P n op sz x y
  | .shf l x y => chkShf n op l x y
  | .capo x => chkCapo P n op x
  | .sslice sz x lo hi => chkSslice P n op sz x lo hi
  | .sl3 sz x p q m => chkSl3 P n op sz x p q m
  | .sapp l sz bytes s x => chkAppend P n op sz bytes s x && decide (m ≤ l)
  | .scpy sz x y => chkCopy P n op sz x y
  | .sclr sz zs x => chkSclr P n op sz zs x
  | .appz l sz bytes zs s x => chkAppz P n op sz bytes zs s x && decide (m ≤ l)
  | .cmps x y => chkCmps P n op x y
  | .ovl x y => chkOvl P n op x y
  | .idxb x y => chkIdxb P n op x y
  | .stop => true
section
variable {P : Program} {E : Env} {I : IH} {ρ : Ren} {n : Nat} {st : ASt} {a : Act} {w : World}
theorem absent_is {x : Box} (h : match x with | .absent => True | _ => False) : isAbsent x := by cases x <;> first | trivial | exact h.elim
theorem op_sound (h : GX E I ρ n st a w) {o : Oper} {ao : AOp} (hc : chkA P n E.m o.op o.dst ao = true) (hv : ao.valid (Opd.ev st.tm)) (hvc : (ao.f (avOf st.tm) st.bx).vc) :
    Runs P E n o a w (st.setbs (ao.f (avOf st.tm) st.bx).sets) (ao.f (avOf st.tm) st.bx).v := by
  cases ao with
  | mv x => exact mv_runs h hc (hv x (by simp [AOp.opds]))
  | pick c x y =>
    simp only [AOp.f] at hvc ⊢
    obtain ⟨hg, hxy⟩ := hv
    split at hvc
    · rename_i t ht
      have ht' : ((Opd.ev st.tm c).x) = vBool t := ht
      rw [ht'] at hxy
      exact pick_runs h hc hg ht hxy.1 hxy.2
    · exact hvc.elim
  | load agg k p => 
    have hs : (loadV agg k (avOf st.tm p) st.bx).sets = [] := by
      unfold loadV at *
      simp only [AOp.f] at hvc
      unfold loadV at hvc
      split at hvc
      · split at hvc
        · split at hvc
          · rename_i hA; rw [if_pos hA]
          · rename_i hA; rw [if_neg hA]; split at hvc
            · rfl
            · exact hvc.elim
        · exact hvc.elim
      · split at hvc
        · split at hvc
          · rename_i hA; rw [if_pos hA]
          · rename_i hA; rw [if_neg hA]
        · exact hvc.elim
      · split at hvc
        · rename_i hA; rw [if_pos hA]
        · rename_i hA; rw [if_neg hA]
      · exact hvc.elim
    have := load_runs (P := P) h hc (hv p (by simp [AOp.opds])) hvc
    simp only [AOp.f, hs]
    exact this
  | store agg k p x =>
    simp only [chkA, Bool.and_eq_true, Option.isNone_iff_eq_none] at hc
    exact store_runs h hc.1 hc.2 (hv p (by simp [AOp.opds])) (hv x (by simp [AOp.opds])) hvc
  | alloc l zs =>
    simp only [chkA, Bool.and_eq_true, decide_eq_true_eq] at hc
    exact alloc_runs h hc.1 hc.2 (absent_is hvc)
  | allocA l sz c zs =>
    simp only [chkA, Bool.and_eq_true, decide_eq_true_eq] at hc
    exact allocA_runs h hc.1 hc.2 (absent_is hvc)
  | box l x =>
    simp only [chkA, Bool.and_eq_true, decide_eq_true_eq] at hc
    exact box_runs h hc.1 (hv x (by simp [AOp.opds])) hc.2 (absent_is hvc.1) hvc.2
  | build zs ps => exact build_runs h hc (fun p hp => hv p.2.2 (by simp only [AOp.opds, List.mem_map]; exact ⟨p, hp, rfl⟩)) hvc
  | bslice l sz c zs ps =>
    simp only [chkA, Bool.and_eq_true, decide_eq_true_eq] at hc
    simp only [AOp.f] at hvc ⊢
    split at hvc
    · rename_i l' hl'
      rw [setbs_frzs]
      exact bslice_runs h hc.1 (fun p hp => hv p.2 (by simp only [AOp.opds, List.mem_map]; exact ⟨p, hp, rfl⟩)) hc.2 (absent_is hvc.1) hl' hvc.2.1 hvc.2.2
    · exact hvc.elim
  | makes l sz bytes zs x y =>
    simp only [chkA, Bool.and_eq_true, decide_eq_true_eq] at hc
    simp only [AOp.f] at hvc ⊢
    split at hvc
    · rename_i k p k' q e1 e2
      obtain ⟨v1, v2, v3, v4, v5⟩ := hvc
      exact makes_runs h hc.1 (hv x (by simp [AOp.opds])) (hv y (by simp [AOp.opds])) e1 e2 hc.2 (absent_is v1) v2 v3 v4 v5
    · exact hvc.elim
  | bin b x y =>
    have hs : (binV b (avOf st.tm x) (avOf st.tm y)).sets = [] := by
      unfold binV; split
      · rfl
      · unfold strBin; cases b <;> rfl
      · rfl
    have := bin_runs (P := P) h hc (hv x (by simp [AOp.opds])) (hv y (by simp [AOp.opds])) hvc
    simp only [AOp.f, hs]
    exact this
  | beq ng x y =>
    have hs : (beqV ng (avOf st.tm x) (avOf st.tm y)).sets = [] := by unfold beqV; split <;> rfl
    have := beq_runs (P := P) h hc (hv x (by simp [AOp.opds])) (hv y (by simp [AOp.opds])) hvc
    simp only [AOp.f, hs]
    exact this
  | not x =>
    simp only [AOp.f] at hvc ⊢
    split at hvc
    · rename_i b hb; exact not_runs h hc (hv x (by simp [AOp.opds])) hb
    · exact hvc.elim
  | neg x =>
    simp only [AOp.f] at hvc ⊢
    split at hvc
    · rename_i k m hb; exact neg_runs h hc (hv x (by simp [AOp.opds])) hb
    · exact hvc.elim
  | cint k x =>
    simp only [AOp.f] at hvc ⊢
    split at hvc
    · rename_i j m hb; exact cint_runs h hc (hv x (by simp [AOp.opds])) hb
    · exact hvc.elim
  | cstr x =>
    simp only [AOp.f] at hvc ⊢
    split at hvc
    · rename_i p es hs
      split at hvc
      · rename_i l hl; exact cstr_runs h hc (hv x (by simp [AOp.opds])) hs hvc.1 hl hvc.2
      · exact hvc.elim
    · exact hvc.elim
  | same x =>
    simp only [AOp.f] at hvc ⊢
    split at hvc
    · rename_i l hb; exact same_runs h hc (hv x (by simp [AOp.opds])) hb
    · exact hvc.elim
  | mkfn f cs =>
    simp only [AOp.f] at hvc ⊢
    split at hvc
    · rename_i l hl; exact mkfn_runs h hc (fun x hx => hv x hx) hl
    · exact hvc.elim
  | slstr x lo hi =>
    simp only [AOp.f] at hvc ⊢
    split at hvc
    · rename_i s e1
      split at hvc
      · rename_i p q e2 e3
        exact slstr_runs h hc (hv x (by simp [AOp.opds])) (fun y hy => hv y (by simp only [AOp.opds]; simp at hy; simp [hy])) (fun y hy => hv y (by simp only [AOp.opds]; simp at hy; simp [hy])) e1 e2 e3 hvc.1 hvc.2.1 hvc.2.2
      · exact hvc.elim
    · exact hvc.elim
  | slsl sz x lo hi =>
    have hs : (slslV sz (avOf st.tm x) (bnd (avOf st.tm) lo 0) (bnd (avOf st.tm) hi)).sets = [] := by
      unfold slslV; split
      · split <;> rfl
      · split <;> rfl
      · split <;> rfl
      · rfl
    have := slsl_runs (P := P) h hc (hv x (by simp [AOp.opds])) (fun y hy => hv y (by simp only [AOp.opds]; simp at hy; simp [hy])) (fun y hy => hv y (by simp only [AOp.opds]; simp at hy; simp [hy])) hvc
    have e : ((AOp.slsl sz x lo hi).f (avOf st.tm) st.bx) = slslV sz (avOf st.tm x) (bnd (avOf st.tm) lo 0) (bnd (avOf st.tm) hi) := rfl
    rw [e, hs]
    exact this
  | slarr sz c x =>
    simp only [AOp.f] at hvc ⊢
    split at hvc
    · rename_i b sz' e1
      split at hvc
      · rename_i sz'' es e2
        obtain ⟨rfl, rfl, h3, h4⟩ := hvc
        exact slarr_runs h hc (hv x (by simp [AOp.opds])) e1 e2 h3
      · exact hvc.elim
    · exact hvc.elim
  | nilck x =>
    have hs : (nilckV (avOf st.tm x)).sets = [] := by unfold nilckV; split <;> rfl
    have := nilck_runs (P := P) h hc (hv x (by simp [AOp.opds])) hvc
    have e : ((AOp.nilck x).f (avOf st.tm) st.bx) = nilckV (avOf st.tm x) := rfl
    rw [e, hs]
    exact this
  | faddr off x =>
    have hs : (faddrV off (avOf st.tm x)).sets = [] := by unfold faddrV; split <;> rfl
    have := faddr_runs (P := P) h hc (hv x (by simp [AOp.opds])) hvc
    have e : ((AOp.faddr off x).f (avOf st.tm) st.bx) = faddrV off (avOf st.tm x) := rfl
    rw [e, hs]
    exact this
  | field agg off k x =>
    have hs : (fieldV agg off k (avOf st.tm x)).sets = [] := by
      unfold fieldV; split
      · split
        · rfl
        · split <;> rfl
      · rfl
    have := field_runs (P := P) h hc (hv x (by simp [AOp.opds])) hvc
    have e : ((AOp.field agg off k x).f (avOf st.tm) st.bx) = fieldV agg off k (avOf st.tm x) := rfl
    rw [e, hs]
    exact this
  | iaddr sz x i =>
    have hs : (iaddrV sz (avOf st.tm x) (avOf st.tm i)).sets = [] := by unfold iaddrV; split <;> rfl
    have := iaddr_runs (P := P) h hc (hv x (by simp [AOp.opds])) (hv i (by simp [AOp.opds])) hvc
    have e : ((AOp.iaddr sz x i).f (avOf st.tm) st.bx) = iaddrV sz (avOf st.tm x) (avOf st.tm i) := rfl
    rw [e, hs]
    exact this
  | iaddrA sz c x i =>
    simp only [AOp.f] at hvc ⊢
    split at hvc
    · rename_i b sz' k m e1 e2
      obtain ⟨rfl, h1, h2⟩ := hvc
      exact iaddrA_runs h hc (hv x (by simp [AOp.opds])) (hv i (by simp [AOp.opds])) e1 e2 h1 h2
    · exact hvc.elim
  | idxs x i =>
    simp only [AOp.f] at hvc ⊢
    split at hvc
    · rename_i s k m e1 e2
      exact idxs_runs h hc (hv x (by simp [AOp.opds])) (hv i (by simp [AOp.opds])) e1 e2 hvc.1 hvc.2
    · exact hvc.elim
  | extract x i =>
    have hs : (extractV (avOf st.tm x) i).sets = [] := by
      unfold extractV; split
      · split <;> rfl
      · rfl
    have := extract_runs (P := P) h hc (hv x (by simp [AOp.opds])) hvc
    have e : ((AOp.extract x i).f (avOf st.tm) st.bx) = extractV (avOf st.tm x) i := rfl
    rw [e, hs]
    exact this
  | len x =>
    have hs : (lenV (avOf st.tm x)).sets = [] := by unfold lenV; split <;> rfl
    have := len_runs (P := P) h hc (hv x (by simp [AOp.opds])) hvc
    have e : ((AOp.len x).f (avOf st.tm) st.bx) = lenV (avOf st.tm x) := rfl
    rw [e, hs]
    exact this
  | lens x =>
    simp only [AOp.f] at hvc ⊢
    split at hvc
    · rename_i s e1; exact lens_runs h hc (hv x (by simp [AOp.opds])) e1
    · exact hvc.elim
  | max x y =>
    simp only [AOp.f] at hvc ⊢
    split at hvc
    · rename_i k p k' q e1 e2
      have hvc : k = k' := hvc
      subst hvc
      exact max_runs h hc (hv x (by simp [AOp.opds])) (hv y (by simp [AOp.opds])) e1 e2
    · exact hvc.elim
  | min x y =>
    simp only [AOp.f] at hvc ⊢
    split at hvc
    · rename_i k p k' q e1 e2
      have hvc : k = k' := hvc
      subst hvc
      exact min_runs h hc (hv x (by simp [AOp.opds])) (hv y (by simp [AOp.opds])) e1 e2
    · exact hvc.elim
  | append l sz bytes s x =>
    simp only [chkA, Bool.and_eq_true, decide_eq_true_eq] at hc
    exact append_runs h hc.1 hc.2 (hv s (by simp [AOp.opds])) (hv x (by simp [AOp.opds])) hvc
  | copy sz d x => exact copy_runs h hc (hv d (by simp [AOp.opds])) (hv x (by simp [AOp.opds])) hvc
  | shf l x y =>
    have hs : (shfV l (avOf st.tm x) (avOf st.tm y)).sets = [] := by unfold shfV; (repeat' split) <;> rfl
    have := shf_runs (P := P) h hc (hv x (by simp [AOp.opds])) (hv y (by simp [AOp.opds])) hvc
    have e : ((AOp.shf l x y).f (avOf st.tm) st.bx) = shfV l (avOf st.tm x) (avOf st.tm y) := rfl
    rw [e, hs]
    exact this
  | capo x =>
    have hs : (capV (avOf st.tm x)).sets = [] := by unfold capV; (repeat' split) <;> rfl
    have := capo_runs (P := P) h hc (hv x (by simp [AOp.opds])) hvc
    have e : ((AOp.capo x).f (avOf st.tm) st.bx) = capV (avOf st.tm x) := rfl
    rw [e, hs]
    exact this
  | sslice sz x lo hi =>
    have hs : (ssliceV sz (avOf st.tm x) (bnd (avOf st.tm) lo 0) (bnd (avOf st.tm) hi)).sets = [] := by unfold ssliceV; (repeat' split) <;> rfl
    have := sslice_runs (P := P) h hc (hv x (by simp [AOp.opds])) (fun y hy => hv y (by simp only [AOp.opds, List.mem_cons, List.mem_append]; exact .inr (.inl hy))) (fun y hy => hv y (by simp only [AOp.opds, List.mem_cons, List.mem_append]; exact .inr (.inr hy))) hvc
    have e : ((AOp.sslice sz x lo hi).f (avOf st.tm) st.bx) = ssliceV sz (avOf st.tm x) (bnd (avOf st.tm) lo 0) (bnd (avOf st.tm) hi) := rfl
    rw [e, hs]
    exact this
  | sl3 sz x p q m =>
    have hs : (sl3V sz (avOf st.tm x) (avOf st.tm p) (avOf st.tm q) (avOf st.tm m)).sets = [] := by unfold sl3V; (repeat' split) <;> rfl
    have := sl3_runs (P := P) h hc (hv x (by simp [AOp.opds])) (hv p (by simp [AOp.opds])) (hv q (by simp [AOp.opds])) (hv m (by simp [AOp.opds])) hvc
    have e : ((AOp.sl3 sz x p q m).f (avOf st.tm) st.bx) = sl3V sz (avOf st.tm x) (avOf st.tm p) (avOf st.tm q) (avOf st.tm m) := rfl
    rw [e, hs]
    exact this
  | sapp l sz bytes s x =>
    simp only [chkA, Bool.and_eq_true, decide_eq_true_eq] at hc
    exact sapp_runs h hc.1 hc.2 (hv s (by simp [AOp.opds])) (hv x (by simp [AOp.opds])) hvc
  | appz l sz bytes zs s x =>
    simp only [chkA, Bool.and_eq_true, decide_eq_true_eq] at hc
    exact appz_runs h hc.1 hc.2 (hv s (by simp [AOp.opds])) (hv x (by simp [AOp.opds])) hvc
  | scpy sz d x => exact scpy_runs h hc (hv d (by simp [AOp.opds])) (hv x (by simp [AOp.opds])) hvc
  | sclr sz zs x => exact sclr_runs h hc (hv x (by simp [AOp.opds])) hvc
  | stop => exact hvc.elim
  | cmps x y =>
    have hs : (cmpsV (avOf st.tm x) (avOf st.tm y)).sets = [] := by unfold cmpsV; (repeat' split) <;> rfl
    have := cmps_runs (P := P) h hc (hv x (by simp [AOp.opds])) (hv y (by simp [AOp.opds])) hvc
    have e : ((AOp.cmps x y).f (avOf st.tm) st.bx) = cmpsV (avOf st.tm x) (avOf st.tm y) := rfl
    rw [e, hs]
    exact this
  | idxb x y =>
    have hs : (idxbV (avOf st.tm x) (avOf st.tm y)).sets = [] := by unfold idxbV; (repeat' split) <;> rfl
    have := idxb_runs (P := P) h hc (hv x (by simp [AOp.opds])) (hv y (by simp [AOp.opds])) hvc
    have e : ((AOp.idxb x y).f (avOf st.tm) st.bx) = idxbV (avOf st.tm x) (avOf st.tm y) := rfl
    rw [e, hs]
    exact this
  | ovl x y =>
    have hs : (ovlV (avOf st.tm x) (avOf st.tm y) st.bx).sets = [] := by unfold ovlV; (repeat' split) <;> rfl
    have := ovl_runs (P := P) h hc (hv x (by simp [AOp.opds])) (hv y (by simp [AOp.opds])) hvc
    have e : ((AOp.ovl x y).f (avOf st.tm) st.bx) = ovlV (avOf st.tm x) (avOf st.tm y) st.bx := rfl
    rw [e, hs]
    exact this
end
end Go.Ab
end
section
namespace Go.Ab
open Go
section
variable {P : Program} {E : Env} {I : IH} {ρ : Ren} {n : Nat} {st : ASt} {a : Act} {w : World}
def AK (E : Env) (n : Nat) (K : ASt → Prop) : Act → World → Prop := fun a w => ∃ I ρ st, K st ∧ GX E I ρ n st a w
theorem cv_gc (h : GX E I ρ n st a w) {bs : List Nat} {v : Value} {x y : AC} (hx : GC I ρ v x) (hc : Cv st.bx x y) (hb : ∀ b, b ∈ ownsOf [x] → b ∈ bs) : GC (lend I ρ w st.bx bs) ρ v y := by
  have hle := lend_le (st := st) h.bx bs
  cases hc with
  | refl => exact hx.mono hle (Ren.le_refl ρ)
  | nsl sz =>
    simp only [GC] at hx
    subst hx
    exact Rd.sl none 0 0 _ [] (fun _ _ => undef) rfl (Nat.le_refl _) (by simp [maxLen]) (by simp) (by simp) (by intro ad h; cases h) (by simp)
  | own b m sz es harr hm => exact lend_rd h (hb b (by simp [ownsOf])) harr hm hx
theorem ownsOf_cons {x : AC} {xs : List AC} {b : Nat} : b ∈ ownsOf (x :: xs) ↔ b ∈ ownsOf [x] ∨ b ∈ ownsOf xs := by
  cases x <;> simp [ownsOf]
theorem cvL_gcs (h : GX E I ρ n st a w) {bs : List Nat} {vs : List Value} {xs ys : List AC} (hx : GCs I ρ vs xs) (hc : CvL st.bx xs ys) (hb : ∀ b, b ∈ ownsOf xs → b ∈ bs) : GCs (lend I ρ w st.bx bs) ρ vs ys := by
  induction hc generalizing vs with
  | nil => exact ⟨hx.1, fun j v x hv hx => by simp at hx⟩
  | cons hxy ht ih =>
    rename_i x y xs ys
    cases vs with
    | nil => have := hx.1; simp at this
    | cons v vs =>
      have i1 := ih (vs := vs) ⟨by simpa using hx.1, fun j u z hu hz => hx.2 (j + 1) u z (by simpa using hu) (by simpa using hz)⟩ (fun b hb' => hb b (ownsOf_cons.2 (.inr hb')))
      have i0 := cv_gc h (hx.2 0 v x rfl rfl) hxy (fun b hb' => hb b (ownsOf_cons.2 (.inl hb')))
      refine ⟨by simp [i1.1], fun j u z hu hz => ?_⟩
      cases j with
      | zero => simp at hu hz; subst hu; subst hz; exact i0
      | succ j => exact i1.2 j u z (by simpa using hu) (by simpa using hz)
theorem cvA_gv (h : GX E I ρ n st a w) {bs : List Nat} {v : Value} {x y : AV} (hx : GV I ρ v x) (hc : CvA st.bx x y) (hb : ∀ b, b ∈ x.owns → b ∈ bs) : GV (lend I ρ w st.bx bs) ρ v y := by
  cases hc with
  | one hxy => exact cv_gc h hx hxy hb
  | agg hxy => obtain ⟨cs, rfl, hg⟩ := hx; exact ⟨cs, rfl, cvL_gcs h hg hxy hb⟩
theorem cvAs_gvs (h : GX E I ρ n st a w) {bs : List Nat} {vs : List Value} {xs ys : List AV} (hx : GVs I ρ vs xs) (hc : CvAs st.bx xs ys) (hb : ∀ b, b ∈ xs.flatMap AV.owns → b ∈ bs) : GVs (lend I ρ w st.bx bs) ρ vs ys := by
  induction hc generalizing vs with
  | nil => exact ⟨hx.1, fun j v x hv hx => by simp at hx⟩
  | cons hxy ht ih =>
    rename_i x y xs ys
    cases vs with
    | nil => have := hx.1; simp at this
    | cons v vs =>
      have i1 := ih (vs := vs) ⟨by simpa using hx.1, fun j u z hu hz => hx.2 (j + 1) u z (by simpa using hu) (by simpa using hz)⟩ (fun b hb' => hb b (by rw [List.flatMap_cons]; exact List.mem_append_right _ hb'))
      have i0 := cvA_gv h (hx.2 0 v x rfl rfl) hxy (fun b hb' => hb b (by rw [List.flatMap_cons]; exact List.mem_append_left _ hb'))
      refine ⟨by simp [i1.1], fun j u z hu hz => ?_⟩
      cases j with
      | zero => simp at hu hz; subst hu; subst hz; exact i0
      | succ j => exact i1.2 j u z (by simpa using hu) (by simpa using hz)
theorem gc_lit {I J : IH} {ρ σ : Ren} {v : Value} {x : AC} (h : GC I ρ v x) (hl : x.isLit = true) : GC J σ v x := by
  cases x with
  | c y =>
    cases y with
    | lit u => cases h with | lit v hv => exact Rd.lit _ hv
    | str l => cases h with | str l hl => exact Rd.str _ hl
    | sl sz es => cases hl
  | _ => cases hl
theorem gcs_lit {I J : IH} {ρ σ : Ren} {vs : List Value} {xs : List AC} (h : GCs I ρ vs xs) (hl : xs.all AC.isLit = true) : GCs J σ vs xs :=
  ⟨h.1, fun j v x hv hx => gc_lit (h.2 j v x hv hx) (List.all_eq_true.1 hl x (List.mem_of_getElem? hx))⟩
theorem gv_lit {I J : IH} {ρ σ : Ren} {v : Value} {x : AV} (h : GV I ρ v x) (hl : x.all AC.isLit = true) : GV J σ v x := by
  cases x with
  | one x => exact gc_lit h hl
  | agg xs => obtain ⟨cs, rfl, hg⟩ := h; exact ⟨cs, rfl, gcs_lit hg hl⟩
  | tup ps =>
    obtain ⟨vs, rfl, hs, hp⟩ := h
    refine ⟨vs, rfl, hs, fun j v p hv hq => ?_⟩
    have h1 := hp j v p hv hq
    have h2 := List.all_eq_true.1 hl p (List.mem_of_getElem? hq)
    unfold GP at h1 ⊢
    split at h1
    · rename_i hb; rw [if_pos hb]; obtain ⟨cs, rfl, hg⟩ := h1; exact ⟨cs, rfl, gcs_lit hg h2⟩
    · rename_i hb; rw [if_neg hb]; obtain ⟨x, hx, hg⟩ := h1; rw [hx] at h2; exact ⟨x, hx, gc_lit hg (by simpa using h2)⟩
theorem gc_data {I : IH} {ρ σ : Ren} {v : Value} {x : AC} (h : GC I ρ v x) (hl : x.isData = true) : GC I σ v x := by
  cases x with
  | c y => exact h
  | _ => cases hl
theorem gcs_data {I : IH} {ρ σ : Ren} {vs : List Value} {xs : List AC} (h : GCs I ρ vs xs) (hl : xs.all AC.isData = true) : GCs I σ vs xs :=
  ⟨h.1, fun j v x hv hx => gc_data (h.2 j v x hv hx) (List.all_eq_true.1 hl x (List.mem_of_getElem? hx))⟩
theorem gv_data {I : IH} {ρ σ : Ren} {v : Value} {x : AV} (h : GV I ρ v x) (hl : x.all AC.isData = true) : GV I σ v x := by
  cases x with
  | one x => exact gc_data h hl
  | agg xs => obtain ⟨cs, rfl, hg⟩ := h; exact ⟨cs, rfl, gcs_data hg hl⟩
  | tup ps =>
    obtain ⟨vs, rfl, hs, hp⟩ := h
    refine ⟨vs, rfl, hs, fun j v p hv hq => ?_⟩
    have h1 := hp j v p hv hq
    have h2 := List.all_eq_true.1 hl p (List.mem_of_getElem? hq)
    unfold GP at h1 ⊢
    split at h1
    · rename_i hb; rw [if_pos hb]; obtain ⟨cs, rfl, hg⟩ := h1; exact ⟨cs, rfl, gcs_data hg h2⟩
    · rename_i hb; rw [if_neg hb]; obtain ⟨x, hx, hg⟩ := h1; rw [hx] at h2; exact ⟨x, hx, gc_data hg (by simpa using h2)⟩
theorem gvs_data {I : IH} {ρ σ : Ren} {vs : List Value} {xs : List AV} (h : GVs I ρ vs xs) (hl : xs.all (·.all AC.isData) = true) : GVs I σ vs xs :=
  ⟨h.1, fun j v x hv hx => gv_data (h.2 j v x hv hx) (List.all_eq_true.1 hl x (List.mem_of_getElem? hx))⟩
theorem bxL_nil (b : Nat) : bxL [] b = .absent := by simp [bxL]
theorem no_uses {x : Option (Nat × Nat)} (b k : Nat) : ¬ (bxL [] b).uses x k := by rw [bxL_nil]; exact fun h => h
theorem GX.later (h : GX E I ρ n st a w) {w' : World} (hF : Frm w w' (fun _ => False)) : GX E I ρ n st a w' := by
  have hk : ∀ k, k < w.heap.size → w'.heap[k]? = w.heap[k]? := fun k hk => hF.block k hk (fun h => h)
  refine { h with agree := h.agree.other (fun k c hc => hk k (h.agree.lt hc)), bx := ?_, frm := h.frm.trans hF (fun _ _ hf => hf.elim), tm := h.tm, size := h.size, defers := h.defers }
  exact BX.step (fun _ => False) h.bx (IH.le_refl I) (Ren.le_refl ρ) (fun b _ => ⟨rfl, rfl⟩) (fun b k _ hu => hk k ((h.bx.ok b).lt hu)) (fun b hb => hb.elim) (fun b k hb => hb.elim) (fun b b' k hb => hb.elim) (fun b k _ hu => h.bx.fresh b k hu)
theorem nil_BX (I : IH) (w : World) : BX I (fun _ => none) w (bxL []) :=
  ⟨fun b => by rw [bxL_nil]; rfl, fun b b' k h => absurd h (no_uses b k), fun b k h => absurd h (no_uses b k)⟩
theorem call_lit (h : GX E I ρ n st a w) {f : FuncId} {vs : List Value} {avs ds : List AV} {r : AV} {d : Option Nat} {K : ASt → Prop} (hd' : ∀ x, d = some x → x < n) (hv : GVs I ρ vs avs) (hc : CvAs st.bx avs ds) (hd : ds.all (·.all AC.isData) = true) (hp : APure P f ds r) (hr : r.all AC.isLit = true)
    (k : K (st.putO d (.v true r))) : Calls P f vs.toArray w fun e w' => ∃ v, e = .returned v ∧ AK E n K (a.put d v) w' := by
  have hv1 := cvAs_gvs h (bs := avs.flatMap AV.owns) hv hc (fun b hb => hb)
  refine (hp (lend I ρ w st.bx (avs.flatMap AV.owns)) (fun _ => none) w vs (lend_agree h.agree _) (nil_BX _ _) (gvs_data hv1 hd)).mono ?_
  rintro e w' ⟨v, J, σ, r', bs, rfl, ⟨rfl, rfl⟩, hg, hA, hB, hle, hF, _⟩
  have hF' : Frm w w' (fun _ => False) := ⟨hF.os, hF.tape, hF.output, hF.size, fun k hk _ => hF.block k hk (fun ⟨b, hb⟩ => no_uses b k hb)⟩
  exact ⟨v, rfl, I, ρ, _, k, (h.later hF').putO hd' ⟨fun _ => gv_lit hg hr, fun e => by cases e⟩⟩
theorem call_pure (h : GX E I ρ n st a w) {f : FuncId} {vs : List Value} {avs ds : List AV} {r : AV} {d : Option Nat} {K : ASt → Prop} (hd' : ∀ x, d = some x → x < n) (hv : GVs I ρ vs avs) (hc : CvAs st.bx avs ds) (hd : ds.all (·.all AC.isData) = true) (hp : APure P f ds r) (hr : r.all AC.isData = true)
    (k : K ((st.frz (avs.flatMap AV.owns)).putO d (.v true r))) : Calls P f vs.toArray w fun e w' => ∃ v, e = .returned v ∧ AK E n K (a.put d v) w' := by
  have hv1 := cvAs_gvs h (bs := avs.flatMap AV.owns) hv hc (fun b hb => hb)
  refine (hp (lend I ρ w st.bx (avs.flatMap AV.owns)) (fun _ => none) w vs (lend_agree h.agree _) (nil_BX _ _) (gvs_data hv1 hd)).mono ?_
  rintro e w' ⟨v, J, σ, r', bs, rfl, ⟨rfl, rfl⟩, hg, hA, hB, hle, hF, _, hJ, _⟩
  have hF' : Frm w w' (fun _ => False) := ⟨hF.os, hF.tape, hF.output, hF.size, fun k hk _ => hF.block k hk (fun ⟨b, hb⟩ => no_uses b k hb)⟩
  have hJ' : ∀ k, k < w.heap.size → J k = lend I ρ w st.bx (avs.flatMap AV.owns) k := fun k hk => hJ k hk (fun ⟨b, hb⟩ => no_uses b k hb)
  refine ⟨v, rfl, J, ρ, _, k, ?_⟩
  generalize hBS : avs.flatMap AV.owns = BS at *
  have hIJ : I.le J := IH.le_trans (lend_le h.bx BS) hle
  have hk : ∀ k, k < w.heap.size → w'.heap[k]? = w.heap[k]? := fun k hk => hF'.block k hk (fun h => h)
  have huse : ∀ b k, ((st.frz BS).bx b).uses (ρ b) k → (st.bx b).uses (ρ b) k ∧ ¬ (∃ b' sz es cap, b' ∈ BS ∧ st.bx b' = .dat sz es ∧ ρ b' = some (k, cap) ∧ cap ≠ 0) := by
    intro b k hu
    rw [mem_frz] at hu
    by_cases hb : b ∈ BS
    · rw [if_pos hb] at hu
      cases hx : st.bx b with
      | var xs =>
        rw [hx] at hu
        refine ⟨hu, ?_⟩
        rintro ⟨b', sz, es, cap, _, hb', hr', h0⟩
        have := h.bx.inj b b' k (by rw [hx]; exact hu) (by rw [hb']; exact ⟨cap, hr', h0⟩)
        subst this
        rw [hx] at hb'; cases hb'
      | dat sz es => rw [hx] at hu; exact hu.elim
      | frz sz es => rw [hx] at hu; exact hu.elim
      | absent => rw [hx] at hu; exact hu.elim
      | dead => rw [hx] at hu; exact hu.elim
    · rw [if_neg hb] at hu
      refine ⟨hu, ?_⟩
      rintro ⟨b', sz, es, cap, hm', hb', hr', h0⟩
      have := h.bx.inj b b' k hu (by rw [hb']; exact ⟨cap, hr', h0⟩)
      subst this
      exact hb hm'
  have hfr : ∀ b k, ((st.frz BS).bx b).uses (ρ b) k → J k = none := fun b k hu => by
    obtain ⟨h1, h2⟩ := huse b k hu
    rw [hJ' k ((h.bx.ok b).lt h1)]
    unfold lend
    rw [if_neg h2]
    exact h.bx.fresh b k h1
  have hgx : GX E J ρ n (st.frz BS) a w' := by
    refine { agree := hA, bx := ⟨fun b => ?_, fun b b' k hb hb' => h.bx.inj b b' k (huse b k hb).1 (huse b' k hb').1, hfr⟩, tm := fun t ht => (h.tm t ht).mono hIJ (Ren.le_refl ρ), size := h.size, defers := h.defers, frm := h.frm.trans hF' (fun _ _ hf => hf.elim), own := fun b k hu => h.own b k (huse b k hu).1, ile := IH.le_trans h.ile hIJ, inew := fun k hk0 hM => ?_, keepρ := h.keepρ }
    · have hok := (h.bx.ok b).keep hIJ (Ren.le_refl ρ) rfl (fun k hu => hk k ((h.bx.ok b).lt hu))
      rw [mem_frz]
      by_cases hb : b ∈ BS
      · rw [if_pos hb]
        cases hx : st.bx b with
        | dat sz es =>
          rw [hx] at hok
          obtain ⟨kk, cap, hr', hl, hm, hsz, hcs⟩ := hok
          refine ⟨kk, cap, hr', hl, hm, hsz, fun h0 => ?_⟩
          obtain ⟨cs, e, hw, _, _, hrd⟩ := hcs h0
          have hu : (st.bx b).uses (ρ b) kk := by rw [hx]; exact ⟨cap, hr', h0⟩
          have hlt := (h.bx.ok b).lt hu
          refine ⟨cs, ?_, hrd⟩
          rw [hJ' kk hlt]
          unfold lend
          rw [if_pos ⟨b, sz, es, cap, hb, hx, hr', h0⟩, ← hk kk hlt, hw]
        | var xs => rw [hx] at hok; exact hok
        | frz sz es => rw [hx] at hok; exact hok
        | absent => rw [hx] at hok; exact hok
        | dead => rw [hx] at hok; exact hok
      · rw [if_neg hb]; exact hok
    · have hlt : k < w.heap.size := Nat.lt_of_lt_of_le hk0 h.frm.size
      rw [hJ' k hlt]
      unfold lend
      rw [if_neg]
      · exact h.inew k hk0 hM
      · rintro ⟨b', sz, es, cap, _, hb', hr', h0⟩
        rcases h.own b' k (by rw [hb']; exact ⟨cap, hr', h0⟩) with h1 | h1
        · omega
        · exact hM h1
  exact hgx.putO hd' ⟨fun _ => gv_data hg hr, fun e => by cases e⟩
end
end Go.Ab
end
section
namespace Go.Ab
open Go
section
variable {P : Program} {E : Env} {I : IH} {ρ : Ren} {n : Nat} {st : ASt} {a : Act} {w : World}
theorem setbs_other (l : List (Nat × Box)) (st : ASt) {b : Nat} (h : b ∉ l.map (·.1)) : (st.setbs l).bx b = st.bx b := by
  induction l generalizing st with
  | nil => rfl
  | cons x l ih =>
    obtain ⟨c, x⟩ := x
    simp only [List.map_cons, List.mem_cons, not_or] at h
    simp only [ASt.setbs, ih _ h.2, ASt.setb_bx]
    rw [if_neg h.1]
theorem setbs_at (l : List (Nat × Box)) (st : ASt) (hn : (l.map (·.1)).Nodup) {j b : Nat} {x : Box} (h : l[j]? = some (b, x)) : (st.setbs l).bx b = x := by
  induction l generalizing st j with
  | nil => simp at h
  | cons y l ih =>
    obtain ⟨c, y⟩ := y
    simp only [List.map_cons, List.nodup_cons] at hn
    cases j with
    | zero =>
      simp at h
      obtain ⟨rfl, rfl⟩ := h
      simp only [ASt.setbs]
      rw [setbs_other _ _ hn.1, ASt.setb_bx, if_pos rfl]
    | succ j =>
      simp only [ASt.setbs]
      exact ih _ hn.2 (by simpa using h)
theorem gc_ren {π : Nat → Nat} {I : IH} {ρ σ : Ren} {m : Nat} {v : Value} {x : AC} (h : GC I ρ v (renC π x)) (hl : x.refsLt m = true) (hs : ∀ b y, b < m → ρ (π b) = some y → σ b = some y) : GC I σ v x := by
  cases x with
  | c y => exact h
  | ptr b off => obtain ⟨k, cap, h1, h2⟩ := h; exact ⟨k, cap, hs _ _ (by simpa [AC.refsLt] using hl) h1, h2⟩
  | own b n sz => obtain ⟨k, cap, a, c, h1, h2⟩ := h; exact ⟨k, cap, a, c, hs _ _ (by simpa [AC.refsLt] using hl) h1, h2⟩
  | sub b lo n c sz => obtain ⟨k, cap, a, c', h1, h2⟩ := h; exact ⟨k, cap, a, c', hs _ _ (by simpa [AC.refsLt] using hl) h1, h2⟩
  | aptr b i sz off => obtain ⟨k, cap, h1, h2⟩ := h; exact ⟨k, cap, hs _ _ (by simpa [AC.refsLt] using hl) h1, h2⟩
  | nsl sz => exact h
  | eptr cs => exact h
  | junk => exact h
  | fn f caps =>
    obtain ⟨ks, h1, h2, h3⟩ := h
    refine ⟨ks, by simpa using h1, fun j b k hb hk => ?_, h3⟩
    obtain ⟨cap, hc⟩ := h2 j (π b) k (by simp [hb]) hk
    refine ⟨cap, hs _ _ ?_ hc⟩
    have := List.all_eq_true.1 hl b (List.mem_of_getElem? hb)
    simpa using this
theorem gcs_ren {π : Nat → Nat} {I : IH} {ρ σ : Ren} {m : Nat} {vs : List Value} {xs : List AC} (h : GCs I ρ vs (xs.map (renC π))) (hl : xs.all (AC.refsLt m) = true) (hs : ∀ b y, b < m → ρ (π b) = some y → σ b = some y) : GCs I σ vs xs :=
  ⟨by simpa using h.1, fun j v x hv hx => gc_ren (h.2 j v (renC π x) hv (by simp [hx])) (List.all_eq_true.1 hl x (List.mem_of_getElem? hx)) hs⟩
theorem gv_ren {π : Nat → Nat} {I : IH} {ρ σ : Ren} {m : Nat} {v : Value} {x : AV} (h : GV I ρ v (renA π x)) (hl : x.all (AC.refsLt m) = true) (hs : ∀ b y, b < m → ρ (π b) = some y → σ b = some y) : GV I σ v x := by
  cases x with
  | one x => exact gc_ren h hl hs
  | agg xs => obtain ⟨cs, rfl, hg⟩ := h; exact ⟨cs, rfl, gcs_ren hg hl hs⟩
  | tup ps =>
    obtain ⟨vs, rfl, hz, hp⟩ := h
    refine ⟨vs, rfl, by simpa using hz, fun j v p hv hq => ?_⟩
    have h1 := hp j v _ hv (by rw [List.getElem?_map, hq]; rfl)
    have h2 := List.all_eq_true.1 hl p (List.mem_of_getElem? hq)
    unfold GP at h1 ⊢
    simp only at h1
    split at h1
    · rename_i hb; rw [if_pos hb]; obtain ⟨cs, rfl, hg⟩ := h1; exact ⟨cs, rfl, gcs_ren hg h2 hs⟩
    · rename_i hb
      rw [if_neg hb]
      obtain ⟨x, hx, hg⟩ := h1
      cases hp2 : p.2 with
      | nil => rw [hp2] at hx; simp at hx
      | cons y t =>
        rw [hp2] at hx h2
        simp at hx
        obtain ⟨rfl, rfl⟩ := hx
        exact ⟨y, rfl, gc_ren hg (by simpa using h2) hs⟩
theorem gc_ner {π : Nat → Nat} {I : IH} {ρ σ : Ren} {v : Value} {x : AC} (h : GC I σ v x) (hs : ∀ b y, σ b = some y → ρ (π b) = some y) : GC I ρ v (renC π x) := by
  cases x with
  | c y => exact h
  | ptr b off => obtain ⟨k, cap, h1, h2⟩ := h; exact ⟨k, cap, hs _ _ h1, h2⟩
  | own b n sz => obtain ⟨k, cap, a, c, h1, h2⟩ := h; exact ⟨k, cap, a, c, hs _ _ h1, h2⟩
  | sub b lo n c sz => obtain ⟨k, cap, a, c', h1, h2⟩ := h; exact ⟨k, cap, a, c', hs _ _ h1, h2⟩
  | aptr b i sz off => obtain ⟨k, cap, h1, h2⟩ := h; exact ⟨k, cap, hs _ _ h1, h2⟩
  | nsl sz => exact h
  | eptr cs => exact h
  | junk => exact h
  | fn f caps =>
    obtain ⟨ks, h1, h2, h3⟩ := h
    refine ⟨ks, by simpa using h1, fun j b k hb hk => ?_, h3⟩
    rw [List.getElem?_map] at hb
    cases hc : caps[j]? with
    | none => rw [hc] at hb; cases hb
    | some c =>
      rw [hc] at hb
      simp at hb
      subst hb
      obtain ⟨cap, hc'⟩ := h2 j c k hc hk
      exact ⟨cap, hs _ _ hc'⟩
theorem gcs_ner {π : Nat → Nat} {I : IH} {ρ σ : Ren} {vs : List Value} {xs : List AC} (h : GCs I σ vs xs) (hs : ∀ b y, σ b = some y → ρ (π b) = some y) : GCs I ρ vs (xs.map (renC π)) := by
  refine ⟨by simpa using h.1, fun j v x hv hx => ?_⟩
  rw [List.getElem?_map] at hx
  cases hc : xs[j]? with
  | none => rw [hc] at hx; cases hx
  | some c =>
    rw [hc] at hx
    simp at hx
    subst hx
    exact gc_ner (h.2 j v c hv hc) hs
theorem gv_ner {π : Nat → Nat} {I : IH} {ρ σ : Ren} {v : Value} {x : AV} (h : GV I σ v x) (hs : ∀ b y, σ b = some y → ρ (π b) = some y) : GV I ρ v (renA π x) := by
  cases x with
  | one x => exact gc_ner h hs
  | agg xs => obtain ⟨cs, rfl, hg⟩ := h; exact ⟨cs, rfl, gcs_ner hg hs⟩
  | tup ps =>
    obtain ⟨vs, rfl, hz, hp⟩ := h
    refine ⟨vs, rfl, by simpa using hz, fun j v p hv hq => ?_⟩
    rw [List.getElem?_map] at hq
    cases hc : ps[j]? with
    | none => rw [hc] at hq; cases hq
    | some q =>
      rw [hc] at hq
      simp at hq
      subst hq
      have h1 := hp j v q hv hc
      unfold GP at h1 ⊢
      simp only
      split at h1
      · rename_i hb; rw [if_pos hb]; obtain ⟨cs, rfl, hg⟩ := h1; exact ⟨cs, rfl, gcs_ner hg hs⟩
      · rename_i hb; rw [if_neg hb]; obtain ⟨x, hx, hg⟩ := h1; exact ⟨renC π x, by rw [hx]; rfl, gc_ner hg hs⟩
theorem boxok_ren {π : Nat → Nat} {I : IH} {ρ σ : Ren} {m : Nat} {w : World} {b : Nat} {x : Box} (h : BoxOK I ρ w (π b) (renB π x)) (hl : x.refsLt m = true) (hb : σ b = ρ (π b)) (hs : ∀ b y, b < m → ρ (π b) = some y → σ b = some y) : BoxOK I σ w b x := by
  cases x with
  | absent => exact hb.trans h
  | dead => trivial
  | var xs =>
    obtain ⟨k, cap, cs, e, hr, hw, hz, hc⟩ := h
    refine ⟨k, cap, cs, e, hb.trans hr, hw, by simpa using hz, fun j u x hu hx => gc_ren (hc j u (renC π x) hu (by simp [hx])) (List.all_eq_true.1 hl x (List.mem_of_getElem? hx)) hs⟩
  | dat sz es => obtain ⟨k, cap, hr, h⟩ := h; exact ⟨k, cap, hb.trans hr, h⟩
  | frz sz es => obtain ⟨k, cap, hr, h⟩ := h; exact ⟨k, cap, hb.trans hr, h⟩
theorem boxok_ner {π : Nat → Nat} {I : IH} {ρ σ : Ren} {w : World} {b : Nat} {x : Box} (h : BoxOK I σ w b x) (hb : ρ (π b) = σ b) (hs : ∀ b y, σ b = some y → ρ (π b) = some y) : BoxOK I ρ w (π b) (renB π x) := by
  cases x with
  | absent => exact hb.trans h
  | dead => trivial
  | var xs =>
    obtain ⟨k, cap, cs, e, hr, hw, hz, hc⟩ := h
    refine ⟨k, cap, cs, e, hb.trans hr, hw, by simpa using hz, fun j u x hu hx => ?_⟩
    rw [List.getElem?_map] at hx
    cases hc' : xs[j]? with
    | none => rw [hc'] at hx; cases hx
    | some c =>
      rw [hc'] at hx
      simp at hx
      subst hx
      exact gc_ner (hc j u c hu hc') hs
  | dat sz es => obtain ⟨k, cap, hr, h⟩ := h; exact ⟨k, cap, hb.trans hr, h⟩
  | frz sz es => obtain ⟨k, cap, hr, h⟩ := h; exact ⟨k, cap, hb.trans hr, h⟩
theorem uses_ren {π : Nat → Nat} {x : Box} {p : Option (Nat × Nat)} {k : Nat} : (renB π x).uses p k ↔ x.uses p k := by
  cases x <;> exact Iff.rfl
theorem bxL_get {l : List Box} {b : Nat} (h : b < l.length) : l[b]? = some (bxL l b) := by
  unfold bxL; rw [List.getD_eq_getElem?_getD, List.getElem?_eq_getElem h]; rfl
theorem bxL_ge {l : List Box} {b : Nat} (h : l.length ≤ b) : bxL l b = .absent := by
  unfold bxL; rw [List.getD_eq_getElem?_getD, List.getElem?_eq_none h]; rfl
theorem call_gen (h : GX E I ρ n st a w) (hm : E.m ≤ 10) {f : FuncId} {vs : List Value} {avs ds : List AV} {d : Option Nat} {K : ASt → Prop} {fp : List Box} {L nu : List Nat} {post : AV → List Box → Prop} {sg : List Nat} (hL : sg ++ nu = L) (hd' : ∀ x, d = some x → x < n) (hv : GVs I ρ vs avs)
    (hl : sg.length = fp.length) (hn : L.Nodup) (hf : ∀ i, i < fp.length → st.bx (L.getD i 0) = renB (fun b => L.getD b 0) (fp.getD i .absent))
    (hnu : ∀ b, b ∈ nu → st.bx b = .absent ∧ 10 ≤ b) (hra : (ds.all fun x => x.all (AC.refsLt fp.length)) = true) (hrf : fp.all (Box.refsLt fp.length) = true) (ha : avs = ds.map (renA fun b => L.getD b 0)) (hp : ACalls P f ds fp post)
    (k : ∀ r bs, post r bs → bs.length = L.length ∧ K ((st.setbs (L.zip (bs.map (renB fun b => L.getD b 0)))).putO d (.v true (renA (fun b => L.getD b 0) r)))) :
    Calls P f vs.toArray w fun e w' => ∃ v, e = .returned v ∧ AK E n K (a.put d v) w' := by
  generalize hπ : (fun b => L.getD b 0) = π at hf ha k
  have hπb : ∀ b, L.getD b 0 = π b := fun b => congrFun hπ b
  have hLl : fp.length ≤ L.length := by rw [← hL]; simp; omega
  have hπin : ∀ b, b < L.length → L[b]? = some (π b) := fun b hb => by rw [← hπb, List.getD_eq_getElem?_getD, List.getElem?_eq_getElem hb]; rfl
  have hπmem : ∀ b, b < L.length → π b ∈ L := fun b hb => List.mem_of_getElem? (hπin b hb)
  have hπinj : ∀ b b', b < L.length → b' < L.length → π b = π b' → b = b' := fun b b' hb hb' e => by
    have h1 := hπin b hb; have h2 := hπin b' hb'
    rw [List.getElem?_eq_getElem hb] at h1; rw [List.getElem?_eq_getElem hb'] at h2
    simp at h1 h2
    have hpw := List.pairwise_iff_getElem.1 hn
    rcases Nat.lt_trichotomy b b' with hlt | heq | hlt
    · exact absurd (by rw [h1, h2, e]) (hpw b b' hb hb' hlt)
    · exact heq
    · exact absurd (by rw [h1, h2, e]) (hpw b' b hb' hb hlt)
  let ρc : Ren := fun b => if b < fp.length then ρ (π b) else none
  have hs : ∀ b y, b < fp.length → ρ (π b) = some y → ρc b = some y := fun b y hb e => by simp [ρc, hb, e]
  have hfb : ∀ b, b < fp.length → st.bx (π b) = renB π (bxL fp b) := fun b hb => by have := hf b hb; rw [hπb] at this; exact this
  have hub : ∀ b k, (bxL fp b).uses (ρc b) k → b < fp.length ∧ (st.bx (π b)).uses (ρ (π b)) k := fun b k hu => by
    by_cases hb : b < fp.length
    · refine ⟨hb, ?_⟩
      rw [hfb b hb, uses_ren]
      simpa [ρc, hb] using hu
    · rw [bxL_ge (by omega)] at hu; exact hu.elim
  have hBX : BX I ρc w (bxL fp) := by
    refine ⟨fun b => ?_, fun b b' k hb hb' => ?_, fun b k hb => ?_⟩
    · by_cases hb : b < fp.length
      · have := h.bx.ok (π b)
        rw [hfb b hb] at this
        exact boxok_ren this (List.all_eq_true.1 hrf _ (List.mem_of_getElem? (bxL_get hb))) (by simp [ρc, hb]) hs
      · rw [bxL_ge (by omega)]; show ρc b = none; simp [ρc, hb]
    · obtain ⟨h1, h2⟩ := hub b k hb
      obtain ⟨h1', h2'⟩ := hub b' k hb'
      exact hπinj b b' (by omega) (by omega) (h.bx.inj _ _ _ h2 h2')
    · exact h.bx.fresh _ _ (hub b k hb).2
  have hGV : GVs I ρc vs ds := by
    subst ha
    refine ⟨by simpa using hv.1, fun j v x hv' hx => ?_⟩
    exact gv_ren (hv.2 j v (renA π x) hv' (by simp [hx])) (List.all_eq_true.1 hra x (List.mem_of_getElem? hx)) hs
  refine (hp I ρc w vs h.agree hBX hGV).mono ?_
  rintro e w' ⟨v, J, σ, r, bs, rfl, hpost, hg, hA, hB, hle, hF, hbw, hJ, hσ⟩
  obtain ⟨hbl, hk⟩ := k r bs hpost
  refine ⟨v, rfl, ?_⟩
  have hσn : ∀ b, L.length ≤ b → σ b = none := fun b hb => by have := hB.ok b; rw [bxL_ge (by omega)] at this; exact this
  let ρ' : Ren := fun b => open Classical in if b ∈ L then σ (L.idxOf b) else ρ b
  have hρπ : ∀ b, b < L.length → ρ' (π b) = σ b := fun b hb => by
    have h1 := hπmem b hb
    simp only [ρ', h1, if_true]
    have hi := List.idxOf_lt_length_of_mem h1
    have h2 : L[L.idxOf (π b)]? = some (π b) := by rw [List.getElem?_eq_getElem hi]; simp
    have h3 := hπin _ hi
    rw [h2] at h3
    simp only [Option.some.injEq] at h3
    rw [← hπinj _ _ hb hi h3]
  have hρo : ∀ b, b ∉ L → ρ' b = ρ b := fun b hb => by simp [ρ', hb]
  have hin : ∀ b, b ∈ L → ∃ i, i < L.length ∧ π i = b := fun b hb => by
    have hi := List.idxOf_lt_length_of_mem hb
    refine ⟨_, hi, ?_⟩
    have h2 : L[L.idxOf b]? = some b := by rw [List.getElem?_eq_getElem hi]; simp
    have h3 := hπin _ hi
    rw [h2] at h3
    simpa using h3.symm
  have hnuπ : ∀ i, fp.length ≤ i → i < L.length → π i ∈ nu := fun i h1 h2 => by
    have h3 := hπin i h2
    rw [← hL, List.getElem?_append_right (by omega)] at h3
    exact List.mem_of_getElem? h3
  have hle' : ρ.le ρ' := fun b y hb => by
    by_cases hm' : b ∈ L
    · obtain ⟨i, hi, rfl⟩ := hin b hm'
      rw [hρπ i hi]
      by_cases hif : i < fp.length
      · rw [hσ i hif]; exact hs i y hif hb
      · have h1 := (hnu _ (hnuπ i (by omega) hi)).1
        have h2 := h.bx.ok (π i)
        rw [h1] at h2
        rw [show ρ (π i) = none from h2] at hb; cases hb
    · rw [hρo b hm']; exact hb
  have hsσ : ∀ b y, σ b = some y → ρ' (π b) = some y := fun b y hb => by
    by_cases hbL : b < L.length
    · rw [hρπ b hbL]; exact hb
    · rw [hσn b (by omega)] at hb; cases hb
  have hlz : (L.zip (bs.map (renB π))).map (·.1) = L := by
    rw [List.map_fst_zip]; simp [hbl]
  have hbx1 : ∀ i, i < L.length → (st.setbs (L.zip (bs.map (renB π)))).bx (π i) = renB π (bxL bs i) := fun i hi => by
    refine setbs_at _ _ (by rw [hlz]; exact hn) (j := i) ?_
    rw [List.getElem?_zip_eq_some]
    exact ⟨hπin i hi, by rw [List.getElem?_map, bxL_get (by omega)]; rfl⟩
  have hbx2 : ∀ b, b ∉ L → (st.setbs (L.zip (bs.map (renB π)))).bx b = st.bx b := fun b hb => setbs_other _ _ (by rw [hlz]; exact hb)
  have hnot : ∀ b k, b ∉ L → (st.bx b).uses (ρ b) k → k < w.heap.size ∧ ¬ ∃ b', (bxL fp b').uses (ρc b') k := fun b k hb hu => by
    refine ⟨(h.bx.ok b).lt hu, ?_⟩
    rintro ⟨b', hb'⟩
    obtain ⟨h1, h2⟩ := hub b' k hb'
    have := h.bx.inj _ _ _ hu h2
    exact hb (this ▸ hπmem b' (by omega))
  have hother : ∀ b k, b ∉ L → (st.bx b).uses (ρ b) k → w'.heap[k]? = w.heap[k]? := fun b k hb hu => let ⟨h1, h2⟩ := hnot b k hb hu; hF.block k h1 h2
  have hbw' : ∀ i k, i < L.length → (bxL bs i).uses (σ i) k → ∀ b, b ∉ L → ¬ (st.bx b).uses (ρ b) k := fun i k hi hu b hb hu' => by
    obtain ⟨h1, h2⟩ := hnot b k hb hu'
    rcases hbw i k hu with h3 | h3
    · omega
    · exact h2 h3
  generalize hst : st.setbs (L.zip (bs.map (renB π))) = st' at *
  have htm : st'.tm = st.tm := by rw [← hst, setbs_tm]
  have hgx : GX E J ρ' n st' a w' := by
    refine { agree := hA, bx := ⟨fun b => ?_, fun b b' k hb hb' => ?_, fun b k hb => ?_⟩, tm := fun t ht => ?_, size := h.size, defers := h.defers, frm := ?_, own := fun b k hb => ?_, ile := IH.le_trans h.ile hle, inew := fun k hk0 hM => ?_, keepρ := fun b hb => ?_ }
    · by_cases hb : b ∈ L
      · obtain ⟨i, hi, rfl⟩ := hin b hb
        rw [hbx1 i hi]
        exact boxok_ner (hB.ok i) (hρπ i hi) hsσ
      · rw [hbx2 b hb]
        exact (h.bx.ok b).keep hle hle' (hρo b hb) (fun k hu => hother b k hb hu)
    · by_cases hbL : b ∈ L
      · obtain ⟨i, hi, rfl⟩ := hin b hbL
        rw [hbx1 i hi, uses_ren, hρπ i hi] at hb
        by_cases hbL' : b' ∈ L
        · obtain ⟨i', hi', rfl⟩ := hin b' hbL'
          rw [hbx1 i' hi', uses_ren, hρπ i' hi'] at hb'
          rw [hB.inj _ _ _ hb hb']
        · rw [hbx2 b' hbL', hρo b' hbL'] at hb'
          exact absurd hb' (hbw' i k hi hb b' hbL')
      · rw [hbx2 b hbL, hρo b hbL] at hb
        by_cases hbL' : b' ∈ L
        · obtain ⟨i', hi', rfl⟩ := hin b' hbL'
          rw [hbx1 i' hi', uses_ren, hρπ i' hi'] at hb'
          exact absurd hb (hbw' i' k hi' hb' b hbL)
        · rw [hbx2 b' hbL', hρo b' hbL'] at hb'
          exact h.bx.inj _ _ _ hb hb'
    · by_cases hbL : b ∈ L
      · obtain ⟨i, hi, rfl⟩ := hin b hbL
        rw [hbx1 i hi, uses_ren, hρπ i hi] at hb
        exact hB.fresh _ _ hb
      · rw [hbx2 b hbL, hρo b hbL] at hb
        obtain ⟨h1, h2⟩ := hnot b k hbL hb
        rw [hJ k h1 h2]
        exact h.bx.fresh _ _ hb
    · rw [htm]; exact (h.tm t ht).mono hle hle'
    · refine h.frm.trans hF ?_
      rintro x hx ⟨b', hb'⟩
      rcases h.own _ _ (hub b' x hb').2 with h1 | h1
      · omega
      · exact h1
    · by_cases hbL : b ∈ L
      · obtain ⟨i, hi, rfl⟩ := hin b hbL
        rw [hbx1 i hi, uses_ren, hρπ i hi] at hb
        rcases hbw i k hb with h1 | ⟨b', hb'⟩
        · exact .inl (Nat.le_trans h.frm.size h1)
        · exact h.own _ _ (hub b' k hb').2
      · rw [hbx2 b hbL, hρo b hbL] at hb
        exact h.own _ _ hb
    · rw [hJ k (Nat.lt_of_lt_of_le hk0 h.frm.size)]
      · exact h.inew k hk0 hM
      · rintro ⟨b', hb'⟩
        rcases h.own _ _ (hub b' k hb').2 with h1 | h1
        · omega
        · exact hM h1
    · by_cases hbL : b ∈ L
      · obtain ⟨i, hi, rfl⟩ := hin b hbL
        rw [hρπ i hi]
        by_cases hif : i < fp.length
        · rw [hσ i hif, ← h.keepρ _ hb]; simp [ρc, hif]
        · have := (hnu _ (hnuπ i (by omega) hi)).2; omega
      · rw [hρo b hbL]; exact h.keepρ b hb
  exact ⟨J, ρ', _, hk, hgx.putO hd' ⟨fun _ => gv_ner hg hsσ, fun e => by cases e⟩⟩
end
end Go.Ab
end
section
namespace Go.Ab
open Go
section
variable {P : Program} {E : Env} {I : IH} {ρ : Ren} {n : Nat} {st : ASt} {a : Act} {w : World}
def chkOpds (n : Nat) : List Operand → List Opd → Bool
  | [], [] => true
  | x :: xs, y :: ys => chkOpd n x y && chkOpds n xs ys
  | _, _ => false
def chkGuard (n : Nat) (ops : Array Oper) : Option (Nat × Bool) → Option (Nat × Bool) → Bool
  | none, none => true
  | some (j, w), some (s, w') => w == w' && decide (s < n) && (match ops[j]? with | some o => o.dst == some s | none => false)
  | _, _ => false
def chkDst (n : Nat) : Option Nat → Option Nat → Bool
  | none, none => true
  | some x, some y => x == y && decide (x < n)
  | _, _ => false
def chkIns (P : Program) (n m : Nat) (op : Op) (d : Option Nat) : AIns → Bool
  | .op ao => chkA P n m op d ao
  | .call f args => match op with
    | .call ⟨.value (.func f'), az, _⟩ => f' == f && chkOpds n az.toList args && callOK P f
    | _ => false
  | .callv x args => match op with
    | .call ⟨.value x', az, _⟩ => chkOpd n x' x && chkOpds n az.toList args
    | _ => false
def chkOper (P : Program) (n m : Nat) (ops : Array Oper) (o : Oper) (ao : AOper) : Bool :=
  chkGuard n ops o.guard ao.g && chkDst n o.dst ao.d && chkIns P n m o.op o.dst ao.i
theorem opds_ok (h : GX E I ρ n st a w) : ∀ {xs : List Operand} {ys : List Opd}, chkOpds n xs ys = true → (∀ y, y ∈ ys → (y.ev st.tm).g = true) →
    GVs I ρ (xs.map a.eval) (ys.map (avOf st.tm))
  | [], [], _, _ => ⟨rfl, fun j v x hv hx => by simp at hv⟩
  | x :: xs, y :: ys, hc, hg => by
    simp only [chkOpds, Bool.and_eq_true] at hc
    have ih := opds_ok h hc.2 (fun y hy => hg y (List.mem_cons_of_mem _ hy))
    refine ⟨by simpa using ih.1, fun j v z hv hz => ?_⟩
    cases j with
    | zero =>
      simp at hv hz
      subst hv; subst hz
      exact opd_v h hc.1 (hg y (List.mem_cons_self ..))
    | succ j => exact ih.2 j v z (by simpa using hv) (by simpa using hz)
  | [], _ :: _, hc, _ => by cases hc
  | _ :: _, [], hc, _ => by cases hc
theorem dst_ok {d d' : Option Nat} (h : chkDst n d d' = true) : d = d' ∧ ∀ x, d' = some x → x < n := by
  unfold chkDst at h
  split at h
  · exact ⟨rfl, fun x hx => by cases hx⟩
  · simp only [Bool.and_eq_true, beq_iff_eq, decide_eq_true_eq] at h
    obtain ⟨rfl, h2⟩ := h
    exact ⟨rfl, fun x hx => by cases hx; exact h2⟩
  · cases h
theorem guard_ok (h : GX E I ρ n st a w) {ops : Array Oper} {o : Oper} {g : Option (Nat × Bool)} (hc : chkGuard n ops o.guard g = true) (hv : guardVC st.tm g) :
    Region.wanted o (yielded ops a.tmps) = guardV st.tm g := by
  unfold chkGuard at hc
  split at hc
  · rename_i e; simp [Region.wanted, e, guardV]
  · rename_i j wnt s wnt' e
    simp only [Bool.and_eq_true, beq_iff_eq, decide_eq_true_eq] at hc
    obtain ⟨⟨rfl, hs⟩, hj⟩ := hc
    have hb : (ops[j]?).bind (·.dst) = some s := by
      cases hoj : ops[j]? with
      | none => rw [hoj] at hj; cases hj
      | some o' => rw [hoj] at hj; simpa using hj
    have ht := h.tm s hs
    have hsz : s < a.tmps.size := by rw [h.size]; exact hs
    have hget : a.tmps[s]? = some (a.tmps.getD s undef) := by simp [Array.getD, hsz]
    simp only [Region.wanted, e, guardV, yielded, hb, Option.bind_some, hget]
    simp only [guardVC] at hv
    split at hv
    · rename_i x hg
      rw [hg] at ht
      have := ht.2 rfl
      rw [this, hg]
      simp [undef]
    · rename_i b hg
      rw [hg] at ht
      have := gv_bool (ht.1 rfl)
      rw [this, hg]
      simp
    · exact hv.elim
  · cases hc
theorem enter_of {o : Oper} {x : Operand} {az : Array Operand} {ts : Array TypeId} {f : FuncId} {caps : Array Value} (ho : o.op = .call ⟨.value x, az, ts⟩) (hx : a.eval x = .func (.func f) #[] caps) (hf : callOK P f = true) :
    (execOp a.eval o).run P w = .ok (.enter f (az.map a.eval ++ caps)) w := by
  unfold callOK at hf
  cases hp : P.funcs[f]? with
  | none => rw [hp] at hf; cases hf
  | some fn =>
    rw [hp] at hf
    simp only [Bool.and_eq_true, Bool.not_eq_true'] at hf
    obtain ⟨h1, h2⟩ := hf
    have h1' : ¬ fn.name = "runtime.NumGoroutine" := by simpa using h1
    obtain ⟨b, hb⟩ := Option.isSome_iff_exists.1 h2
    simp [execOp, ho, resolve, hx, Deferred.ofValue, invoke, callFunc, hp, h1', hb]
theorem upon_calls {o : Oper} {f : FuncId} {args : Array Value} {K : Act → World → Prop} {Q : Exit → Act → World → Prop} (he : (execOp a.eval o).run P w = .ok (.enter f args) w)
    (h : Calls P f args w fun e w' => ∃ v, e = .returned v ∧ K (a.put o.dst v) w') : o.wp P a w K Q := by
  unfold Oper.wp
  rw [he, Oper.upon_enter]
  refine h.mono ?_
  rintro e w' ⟨v, rfl, hk⟩
  exact hk
theorem tcall_sound (h : GX E I ρ n st a w) (hm : E.m ≤ 10) {f : FuncId} {vs : List Value} {avs : List AV} {d : Option Nat} {K : List Nat → List Nat → ASt → Prop} (hd : ∀ x, d = some x → x < n) (hv : GVs I ρ vs avs)
    (hT : TCall P f avs true d st K) : Calls P f vs.toArray w fun e w' => ∃ v, e = .returned v ∧ AK E n (fun st => ∃ rd wr, K rd wr st) (a.put d v) w' := by
  cases hT with
  | lit ds r hc hds hh hr k => exact call_lit h hd hv (hc rfl) hds (hh rfl) hr ⟨_, _, k⟩
  | pure ds r hp hc hds hh hr k => exact call_pure h hd hv hc hds hh hr ⟨_, _, k⟩
  | genL hp az hc ds fp sg nu post hl hn hf hne hnu hra hrf ha hh k =>
    have hv' := cvAs_gvs h (bs := avs.flatMap AV.owns) hv hc (fun b hb => hb)
    have h' := h.freeze (avs.flatMap AV.owns)
    refine call_gen h' hm rfl hd hv' hl hn hf (fun b hb => ⟨?_, (hnu b hb).2⟩) hra hrf ha hh (fun r bs hpo => ⟨(k r bs hpo).1, _, _, (k r bs hpo).2⟩)
    rw [mem_frz, (hnu b hb).1]
    split <;> rfl
  | gen hp ds fp sg nu post hl hn hf hne hnu hra hrf ha hh k => exact call_gen h hm rfl hd hv hl hn hf hnu hra hrf ha hh (fun r bs hpo => ⟨(k r bs hpo).1, _, _, (k r bs hpo).2⟩)
theorem tcall_skip {f : FuncId} {avs : List AV} {d : Option Nat} {K : List Nat → List Nat → ASt → Prop} (hT : TCall P f avs false d st K) : ∃ r rd wr, K rd wr (st.putO d (.v false r)) := by
  cases hT with
  | lit ds r hc hds hh hr k => exact ⟨_, _, _, k⟩
  | pure ds r hp => cases hp
  | gen hp => cases hp
  | genL hp => cases hp
def wpOper (P : Program) (ops : Array Oper) (Q : Exit → Act → World → Prop) (o : Oper) (K : Act → World → Prop) (a : Act) (w : World) : Prop :=
  if Region.wanted o (yielded ops a.tmps) then o.wp P a w K Q ∨ (o.asks P a w ∧ LetsOut Q) else K (a.put o.dst undef) w
theorem AK.imp {K K' : ASt → Prop} (hk : ∀ st, K st → K' st) {a : Act} {w : World} (h : AK E n K a w) : AK E n K' a w :=
  let ⟨I, ρ, st, h1, h2⟩ := h; ⟨I, ρ, st, hk _ h1, h2⟩
theorem T_sound (h : GX E I ρ n st a w) (hm : E.m ≤ 10) {ops : Array Oper} {Q : Exit → Act → World → Prop} {o : Oper} {ao : AOper} (hc : chkOper P n E.m ops o ao = true) {K : List Nat → List Nat → ASt → Prop} (hT : T P ao st K) :
    wpOper P ops Q o (AK E n fun st => ∃ rd wr, K rd wr st) a w := by
  simp only [chkOper, Bool.and_eq_true] at hc
  obtain ⟨⟨hcg, hcd⟩, hci⟩ := hc
  obtain ⟨hdd, hdn⟩ := dst_ok hcd
  obtain ⟨hgv, hT⟩ := hT
  have hw := guard_ok h hcg hgv
  have skip : ∀ r, (∃ rd wr, K rd wr (st.putO ao.d (.v false r))) → AK E n (fun st => ∃ rd wr, K rd wr st) (a.put o.dst undef) w := fun r hk =>
    ⟨I, ρ, _, hk, by rw [hdd]; exact h.putO hdn ⟨(fun e => by cases e), fun _ => rfl⟩⟩
  unfold wpOper
  rw [hw]
  cases hi : ao.i with
  | op op =>
    rw [hi] at hT hci
    obtain ⟨h1, h2⟩ := hT
    cases hp : guardV st.tm ao.g with
    | false =>
      simpa using skip _ ⟨_, _, h2 hp⟩
    | true =>
      obtain ⟨hv, hvc, h3⟩ := h1 hp
      obtain ⟨v, w', I', ρ', hr, hg, hgv'⟩ := op_sound h hci hv hvc
      simp only [if_true]
      refine .inl ?_
      have key : AK E n (fun st => ∃ rd wr, K rd wr st) (a.put o.dst v) w' := by
        refine ⟨I', ρ', _, ⟨_, _, h3⟩, ?_⟩
        rw [hdd]
        cases hd : ao.d with
        | none => exact hg
        | some d => exact hg.put (hdn d hd) ⟨fun _ => hgv' (by rw [hdd, hd]; simp), fun e => by cases e⟩
      unfold Oper.wp
      rcases hr with hr | ⟨hr, hnd⟩
      · rw [hr]; exact key
      · rw [hr, Oper.upon_skip]
        rw [hnd] at key ⊢
        exact key
  | call f args =>
    rw [hi] at hT hci
    simp only [chkIns] at hci
    split at hci
    · rename_i f' az ts ho
      simp only [Bool.and_eq_true, beq_iff_eq] at hci
      obtain ⟨⟨rfl, hca⟩, hok⟩ := hci
      obtain ⟨h1, h2⟩ := hT
      cases hp : guardV st.tm ao.g with
      | false =>
        rw [hp] at h2
        obtain ⟨r, hk⟩ := tcall_skip h2
        simpa using skip r hk
      | true =>
        rw [hp] at h1 h2
        simp only [if_true]
        refine .inl (upon_calls (enter_of ho (x := .func f') (caps := #[]) rfl hok) ?_)
        have hvs := opds_ok h hca (h1 rfl)
        have := tcall_sound h hm hdn hvs h2
        rw [hdd]
        simpa [← Array.toList_map] using this
    · cases hci
  | callv x args =>
    rw [hi] at hT hci
    simp only [chkIns] at hci
    split at hci
    · rename_i x' az ts ho
      simp only [Bool.and_eq_true] at hci
      obtain ⟨hcx, hca⟩ := hci
      obtain ⟨hg0, h2⟩ := hT
      cases hp : guardV st.tm ao.g with
      | false =>
        rw [hp] at h2
        obtain ⟨r, hk⟩ := tcall_skip h2
        simpa using skip r hk
      | true =>
      rw [hp] at h2
      obtain ⟨hg1, h1⟩ := hg0 hp
      split at h2
      · rename_i hb; cases hb
      · rename_i f caps _ hf
        obtain ⟨hok, h2⟩ := h2
        have hx := opd_v h hcx hg1
        rw [hf] at hx
        obtain ⟨ks, hk1, hk2, hk3⟩ := hx
        · skip
          simp only [if_true]
          refine .inl (upon_calls (enter_of ho hk3 hok) ?_)
          have hvs := opds_ok h hca h1
          have hvs' : GVs I ρ (az.toList.map a.eval ++ ks.map fun k => Value.pointer (some ⟨k, 0, none⟩)) (args.map (avOf st.tm) ++ caps.map fun b => AV.one (.ptr b 0)) := by
            refine ⟨by have := hvs.1; simp at this; simp [hk1, this], fun j v z hv hz => ?_⟩
            by_cases hj : j < (az.toList.map a.eval).length
            · rw [List.getElem?_append_left hj] at hv
              rw [List.getElem?_append_left (by rw [← hvs.1]; exact hj)] at hz
              exact hvs.2 j v z hv hz
            · rw [List.getElem?_append_right (by omega)] at hv
              rw [List.getElem?_append_right (by rw [← hvs.1]; omega)] at hz
              rw [hvs.1] at hv
              generalize j - (args.map (avOf st.tm)).length = i at hv hz
              rw [List.getElem?_map] at hv hz
              cases hki : ks[i]? with
              | none => rw [hki] at hv; cases hv
              | some k =>
                cases hci : caps[i]? with
                | none => rw [hci] at hz; cases hz
                | some b =>
                  rw [hki] at hv; rw [hci] at hz
                  simp at hv hz
                  subst hv; subst hz
                  obtain ⟨cap, hr⟩ := hk2 i b k hci hki
                  exact ⟨k, cap, hr, rfl⟩
          have := tcall_sound h hm hdn hvs' h2
          rw [hdd]
          have e : (az.map a.eval ++ (ks.map fun k => Value.pointer (some ⟨k, 0, none⟩)).toArray) = (az.toList.map a.eval ++ ks.map fun k => Value.pointer (some ⟨k, 0, none⟩)).toArray := by
            apply Array.ext'; simp
          rw [e]
          exact this
      · exact h2.elim
    · cases hci
end
end Go.Ab
end
section
namespace Go.Ab
open Go
section
variable {ev ev' : Opd → AV} {bx bx' : Nat → Box}
theorem bnd_congr {o : Option Opd} {k : Nat} (h : ∀ x, o = some x → ev x = ev' x) : bnd ev o k = bnd ev' o k := by
  cases o with
  | none => rfl
  | some x => simp only [bnd, h x rfl]
theorem datParts_congr {n sz : Nat} : ∀ {ps : List (Nat × Opd)}, (∀ p, p ∈ ps → ev p.2 = ev' p.2) → datParts ev bx n sz ps = datParts ev' bx n sz ps ∧ partOwns ev ps = partOwns ev' ps ∧ partLend ev bx ps = partLend ev' bx ps
  | [], _ => ⟨rfl, rfl, rfl⟩
  | (i, x) :: r, h => by
    obtain ⟨h1, h2, h3⟩ := datParts_congr (n := n) (sz := sz) (ps := r) (fun p hp => h p (List.mem_cons_of_mem _ hp))
    simp only [datParts, partOwns, partLend, h (i, x) (List.mem_cons_self ..), h1, h2, h3, and_self]
theorem f_ev (op : AOp) (he : ∀ x, x ∈ op.opds → ev x = ev' x) : op.f ev bx = op.f ev' bx := by
  cases op
  case build zs ps =>
    have h1 : ∀ p, p ∈ ps → ev p.2.2 = ev' p.2.2 := fun p hp => he _ (List.mem_map_of_mem hp)
    simp only [AOp.f]
    congr 1
    · apply propext
      constructor
      · intro h p hp; rw [← h1 p hp]; exact h p hp
      · intro h p hp; rw [h1 p hp]; exact h p hp
    · congr 2
      exact List.map_congr_left fun p hp => by rw [h1 p hp]
  case bslice l sz n zs ps =>
    have h1 : ∀ p, p ∈ ps → ev p.2 = ev' p.2 := fun p hp => he _ (List.mem_map_of_mem hp)
    obtain ⟨c1, c2, c3⟩ := datParts_congr (bx := bx) (n := n) (sz := sz) h1
    simp only [AOp.f, c1, c2, c3]
  case mkfn f cs =>
    have h1 : cs.map ev = cs.map ev' := List.map_congr_left fun x hx => he x hx
    simp only [AOp.f, h1]
  case slstr x lo hi =>
    have h1 := he x (by simp [AOp.opds])
    have h2 : ∀ y, lo = some y → ev y = ev' y := fun y hy => he y (by simp [AOp.opds, hy])
    have h3 : ∀ y, hi = some y → ev y = ev' y := fun y hy => he y (by simp [AOp.opds, hy])
    simp only [AOp.f, h1, bnd_congr h2, bnd_congr h3]
  case slsl sz x lo hi =>
    have h1 := he x (by simp [AOp.opds])
    have h2 : ∀ y, lo = some y → ev y = ev' y := fun y hy => he y (by simp [AOp.opds, hy])
    have h3 : ∀ y, hi = some y → ev y = ev' y := fun y hy => he y (by simp [AOp.opds, hy])
    simp only [AOp.f, h1, bnd_congr h2, bnd_congr h3]
  case sslice sz x lo hi =>
    have h1 := he x (by simp [AOp.opds])
    have h2 : ∀ y, lo = some y → ev y = ev' y := fun y hy => he y (by simp [AOp.opds, hy])
    have h3 : ∀ y, hi = some y → ev y = ev' y := fun y hy => he y (by simp [AOp.opds, hy])
    have h4 : bnd ev hi = bnd ev' hi := funext fun k => bnd_congr h3
    simp only [AOp.f, h1, bnd_congr h2, h4]
  all_goals
    simp only [AOp.opds, List.mem_cons, List.not_mem_nil, or_false, forall_eq_or_imp, forall_eq] at he
    simp only [AOp.f, he]
theorem rd_ev (op : AOp) (he : ∀ x, x ∈ op.opds → ev x = ev' x) : op.rd ev = op.rd ev' := by
  cases op
  case build zs ps => rfl
  case bslice l sz n zs ps =>
    have h1 : ∀ p, p ∈ ps → ev p.2 = ev' p.2 := fun p hp => he _ (List.mem_map_of_mem hp)
    simp only [AOp.rd, (datParts_congr (bx := fun _ => .absent) (n := n) (sz := sz) h1).2.1]
  case mkfn f cs => rfl
  case slstr x lo hi => rfl
  case slsl sz x lo hi => rfl
  case sslice sz x lo hi => rfl
  all_goals
    simp only [AOp.opds, List.mem_cons, List.not_mem_nil, or_false, forall_eq_or_imp, forall_eq] at he
    simp only [AOp.rd, he]
theorem srcOf_bx {sz : Nat} {x : AV} (h : ∀ b, b ∈ lvl x → bx b = bx' b) : srcOf sz x bx = srcOf sz x bx' := by
  cases x with
  | one x =>
    cases x
    case own b n sz' => simp only [srcOf, h b (by simp [lvl])]
    case sub b lo n c sz' => simp only [srcOf, h b (by simp [lvl])]
    case c y => cases y <;> rfl
    all_goals rfl
  | _ => rfl
theorem loadV_bx {agg : Bool} {k : Nat} {x : AV} (h : ∀ b, b ∈ lvl x → bx b = bx' b) : loadV agg k x bx = loadV agg k x bx' := by
  cases x with
  | one x =>
    cases x
    case ptr b off => simp only [loadV, h b (by simp [lvl])]
    case aptr b i sz off => simp only [loadV, h b (by simp [lvl])]
    all_goals rfl
  | _ => rfl
theorem dataOf_bx {x : AC} (h : ∀ b, b ∈ ownsOf [x] → bx b = bx' b) : dataOf bx x = dataOf bx' x := by
  cases x
  case own b n sz => simp only [dataOf, h b (by simp [ownsOf])]
  all_goals rfl
theorem owns_cons {x : AC} {r : List AC} {b : Nat} : b ∈ ownsOf (x :: r) ↔ b ∈ ownsOf [x] ∨ b ∈ ownsOf r := by
  cases x <;> simp [ownsOf]
theorem datas_bx : ∀ {xs : List AC}, (∀ b, b ∈ ownsOf xs → bx b = bx' b) → datas bx xs = datas bx' xs ∧ lendOK bx xs = lendOK bx' xs ∧ frzs bx (ownsOf xs) = frzs bx' (ownsOf xs)
  | [], _ => ⟨rfl, rfl, rfl⟩
  | x :: r, h => by
    obtain ⟨h1, h2, h3⟩ := datas_bx (xs := r) (fun b hb => h b (owns_cons.2 (.inr hb)))
    refine ⟨?_, ?_, List.map_congr_left fun b hb => by rw [h b hb]⟩
    · simp only [datas, h1, dataOf_bx (x := x) (fun b hb => h b (owns_cons.2 (.inl hb)))]
    · cases x
      case own b n sz => simp only [lendOK, h2, h b (by simp [ownsOf])]
      all_goals exact h2
theorem storeV_bx {agg : Bool} {k : Nat} {p x : AV} (h : ∀ b, b ∈ lvl p ++ (match p with | .one (.aptr _ _ _ _) => ownsOf x.cells | _ => []) → bx b = bx' b) : storeV agg k p x bx = storeV agg k p x bx' := by
  cases p with
  | one p =>
    cases p
    case ptr b off => simp only [storeV, h b (by simp [lvl])]
    case aptr b i sz off =>
      obtain ⟨h1, h2, h3⟩ := datas_bx (bx := bx) (bx' := bx') (xs := x.cells) (fun c hc => h c (by simp only [lvl, List.mem_append]; exact .inr hc))
      have h4 := h b (by simp [lvl])
      cases x <;> cases agg <;> first | rfl | (simp only [storeV, h4, h1, h2, h3])
    all_goals rfl
  | _ => rfl
theorem datParts_bx {n sz : Nat} : ∀ {ps : List (Nat × Opd)}, (∀ b, b ∈ partOwns ev ps → bx b = bx' b) → datParts ev bx n sz ps = datParts ev bx' n sz ps ∧ partLend ev bx ps = partLend ev bx' ps
  | [], _ => ⟨rfl, rfl⟩
  | (i, x) :: r, h => by
    obtain ⟨h1, h2⟩ := datParts_bx (n := n) (sz := sz) (ps := r) (fun b hb => h b (by simp only [partOwns, List.mem_append]; exact .inr hb))
    obtain ⟨g1, g2, g3⟩ := datas_bx (bx := bx) (bx' := bx') (xs := (ev x).cells) (fun b hb => h b (by simp only [partOwns, List.mem_append]; exact .inl hb))
    simp only [datParts, partLend, h1, h2, g1, g2, and_self]
theorem f_bx (op : AOp) (hb : ∀ b, b ∈ op.rd ev → bx b = bx' b) : op.f ev bx = op.f ev bx' := by
  cases op
  case load agg k p => exact loadV_bx hb
  case store agg k p x => exact storeV_bx hb
  case alloc l zs => simp only [AOp.f, hb l (by simp [AOp.rd])]
  case allocA l sz n zs => simp only [AOp.f, hb l (by simp [AOp.rd])]
  case box l x => simp only [AOp.f, hb l (by simp [AOp.rd])]
  case bslice l sz n zs ps =>
    obtain ⟨h1, h2⟩ := datParts_bx (bx := bx) (bx' := bx') (n := n) (sz := sz) (ps := ps) (fun b hm => hb b (by simp only [AOp.rd]; exact List.mem_cons_of_mem _ hm))
    have h3 : frzs bx (partOwns ev ps) = frzs bx' (partOwns ev ps) := List.map_congr_left fun b hm => by rw [hb b (by simp only [AOp.rd]; exact List.mem_cons_of_mem _ hm)]
    simp only [AOp.f, hb l (by simp [AOp.rd]), h1, h2, h3]
  case makes l sz bytes zs n m => simp only [AOp.f, hb l (by simp [AOp.rd])]
  case cstr x => simp only [AOp.f, srcOf_bx hb]
  case slarr sz n x =>
    simp only [AOp.f]
    cases hx : ev x with
    | one y =>
      cases y
      case aptr b i sz off =>
        have := hb b (by simp [AOp.rd, lvl, hx])
        cases i <;> cases off <;> simp only [this]
      all_goals rfl
    | _ => rfl
  case append l sz bytes s x =>
    have h1 := hb l (by simp [AOp.rd])
    simp only [AOp.f, srcOf_bx (x := ev x) (fun b hb' => hb b (by simp [AOp.rd, hb'])), h1]
    cases hs : ev s with
    | one y =>
      cases y
      case own b n sz' => simp only [hb b (by simp [AOp.rd, lvl, hs])]
      all_goals rfl
    | _ => rfl
  case copy sz d x =>
    simp only [AOp.f, srcOf_bx (x := ev x) (fun b hb' => hb b (by simp [AOp.rd, hb']))]
    cases hs : ev d with
    | one y =>
      cases y
      case own b n sz' => simp only [hb b (by simp [AOp.rd, lvl, hs])]
      all_goals rfl
    | _ => rfl
  case sapp l sz bytes s x =>
    have h1 := hb l (by simp [AOp.rd])
    simp only [AOp.f, sappV, srcOf_bx (x := ev x) (fun b hb' => hb b (by simp [AOp.rd, hb'])), h1]
    generalize srcOf sz (ev x) bx' = so
    cases hs : ev s with
    | one y =>
      cases y
      case sub b lo n c sz' =>
        have h2 := hb b (by simp [AOp.rd, lvl, hs])
        cases c <;> rcases so with _ | ⟨p, ys⟩ <;> first | rfl | (simp only [h2])
      all_goals (rcases so with _ | ⟨p, ys⟩ <;> rfl)
    | _ => rcases so with _ | ⟨p, ys⟩ <;> rfl
  case appz l sz bytes zs s x =>
    have h1 := hb l (by simp [AOp.rd])
    simp only [AOp.f, appzV, h1]
    generalize ev x = y'
    have hb2 : ∀ b, b ∈ lvl (ev s) → bx b = bx' b := fun b hb' => hb b (by simp [AOp.rd, hb'])
    rcases y' with x | x | x
    · rcases x with c | _ | _ | _ | _ | _ | _ | _ | _
      · rcases c with v | _ | _
        · cases v
          case int k q =>
            cases hs : ev s with
            | one y =>
              cases y
              case sub b lo n c sz' =>
                have h2 := hb2 b (by simp [lvl, hs])
                cases c <;> simp [h2]
              all_goals rfl
            | _ => rfl
          all_goals (generalize ev s = z; rcases z with (_ | _ | _ | _ | ⟨b, lo, n, _ | c, sz'⟩ | _ | _ | _ | _) | _ | _ <;> rfl)
        all_goals (generalize ev s = z; rcases z with (_ | _ | _ | _ | ⟨b, lo, n, _ | c, sz'⟩ | _ | _ | _ | _) | _ | _ <;> rfl)
      all_goals (generalize ev s = z; rcases z with (_ | _ | _ | _ | ⟨b, lo, n, _ | c, sz'⟩ | _ | _ | _ | _) | _ | _ <;> rfl)
    all_goals (generalize ev s = z; rcases z with (_ | _ | _ | _ | ⟨b, lo, n, _ | c, sz'⟩ | _ | _ | _ | _) | _ | _ <;> rfl)
  case scpy sz d x =>
    have ht : ∀ m, lvl (truncS m (ev x)) = lvl (ev x) := fun m => by rcases ev x with (_ | _ | _ | _ | _ | _ | _ | _ | _) | _ | _ <;> rfl
    have hsrc : ∀ m, srcOf sz (truncS m (ev x)) bx = srcOf sz (truncS m (ev x)) bx' := fun m => srcOf_bx (fun b hb' => hb b (by rw [ht] at hb'; simp [AOp.rd, hb']))
    simp only [AOp.f, scpyV, hsrc]
    cases hs : ev d with
    | one y =>
      cases y
      case own b n sz' =>
        have h2 := hb b (by simp [AOp.rd, lvl, hs])
        simp only [asSub]
        rcases srcOf sz (truncS n (ev x)) bx' with _ | ⟨p, ys⟩ <;> first | rfl | (simp only [h2])
      case sub b lo n c sz' =>
        have h2 := hb b (by simp [AOp.rd, lvl, hs])
        simp only [asSub]
        rcases srcOf sz (truncS n (ev x)) bx' with _ | ⟨p, ys⟩ <;> first | rfl | (simp only [h2])
      all_goals rfl
    | _ => rfl
  case ovl x y =>
    have key : ∀ (u : AV), (∀ b, b ∈ lvl u → bx b = bx' b) → ∀ b lo n c sz, asSub u = some (b, lo, n, c, sz) → bx b = bx' b := by
      intro u hu b lo n c sz hs
      unfold asSub at hs
      split at hs
      · cases hs; exact hu _ (by simp [lvl])
      · cases hs; exact hu _ (by simp [lvl])
      · cases hs
    have k1 := key (ev x) (fun b hb' => hb b (by simp [AOp.rd, hb']))
    have k2 := key (ev y) (fun b hb' => hb b (by simp [AOp.rd, hb']))
    simp only [AOp.f, ovlV]
    generalize asSub (ev x) = u at k1
    generalize asSub (ev y) = v at k2
    rcases u with _ | ⟨b, lo, n, c, sz⟩ <;> rcases v with _ | ⟨b', lo', n', c', sz'⟩ <;> try rfl
    simp only [k1 b lo n c sz rfl, k2 b' lo' n' c' sz' rfl]
  case sclr sz zs x =>
    simp only [AOp.f, sclrV]
    cases hs : ev x with
    | one y =>
      cases y
      case own b n sz' => simp only [asSub, hb b (by simp [AOp.rd, lvl, hs])]
      case sub b lo n c sz' => simp only [asSub, hb b (by simp [AOp.rd, lvl, hs])]
      all_goals rfl
    | _ => rfl
  all_goals rfl
theorem valid_ev {e e' : Opd → Slot} (op : AOp) (he : ∀ x, x ∈ op.opds → e x = e' x) (h : op.valid e) : op.valid e' := by
  cases op
  case pick c a b =>
    have h1 := he c (by simp [AOp.opds])
    have h2 := he a (by simp [AOp.opds])
    have h3 := he b (by simp [AOp.opds])
    simp only [AOp.valid, h1, h2, h3] at h ⊢
    exact h
  all_goals exact fun x hx => he x hx ▸ h x hx
theorem cv_bx {x y : AC} (h : Cv bx x y) (hb : ∀ b, b ∈ ownsOf [x] → bx b = bx' b) : Cv bx' x y := by
  cases h with
  | refl => exact .refl _
  | nsl sz => exact .nsl sz
  | own b n sz es ha hn => exact .own b n sz es (by rw [← hb b (by simp [ownsOf])]; exact ha) hn
theorem cvL_bx {xs ys : List AC} (h : CvL bx xs ys) (hb : ∀ b, b ∈ ownsOf xs → bx b = bx' b) : CvL bx' xs ys := by
  induction h with
  | nil => exact .nil
  | cons h t ih => exact .cons (cv_bx h fun b hb' => hb b (ownsOf_cons.2 (.inl hb'))) (ih fun b hb' => hb b (ownsOf_cons.2 (.inr hb')))
theorem cvA_bx {x y : AV} (h : CvA bx x y) (hb : ∀ b, b ∈ x.owns → bx b = bx' b) : CvA bx' x y := by
  cases h with
  | one h => exact .one (cv_bx h hb)
  | agg h => exact .agg (cvL_bx h hb)
theorem cvAs_bx {xs ys : List AV} (h : CvAs bx xs ys) (hb : ∀ b, b ∈ xs.flatMap AV.owns → bx b = bx' b) : CvAs bx' xs ys := by
  induction h with
  | nil => exact .nil
  | cons h t ih => exact .cons (cvA_bx h fun b hb' => hb b (by rw [List.flatMap_cons]; exact List.mem_append_left _ hb')) (ih fun b hb' => hb b (by rw [List.flatMap_cons]; exact List.mem_append_right _ hb'))
end
structure Desc where
  rd : List Nat
  wr : List Nat
  outs : Slot → List (Nat × Box) → Prop
inductive DCall (P : Program) (f : FuncId) (avs : List AV) (p : Bool) (bx : Nat → Box) : Desc → Prop
  | lit (ds : List AV) (r : AV) (hc : p = true → CvAs bx avs ds) (hd : ds.all (·.all AC.isData) = true) (h : p = true → APure P f ds r) (hr : r.all AC.isLit = true) :
      DCall P f avs p bx ⟨avs.flatMap AV.owns, [], fun s bs => s = .v p r ∧ bs = []⟩
  | pure (ds : List AV) (r : AV) (hp : p = true) (hc : CvAs bx avs ds) (hd : ds.all (·.all AC.isData) = true) (h : APure P f ds r) (hr : r.all AC.isData = true) :
      DCall P f avs p bx ⟨avs.flatMap AV.owns, avs.flatMap AV.owns, fun s bs => s = .v true r ∧ bs = (avs.flatMap AV.owns).map fun b => (b, frzB (bx b))⟩
  | gen (hp : p = true) (ds : List AV) (fp : List Box) (sg nu : List Nat) (post : AV → List Box → Prop)
      (hl : sg.length = fp.length) (hn : (sg ++ nu).Nodup) (hf : ∀ i, i < fp.length → bx ((sg ++ nu).getD i 0) = renB (fun b => (sg ++ nu).getD b 0) (fp.getD i .absent))
      (hne : ∃ r bs, post r bs) (hv : ∀ b, b ∈ nu → bx b = .absent ∧ 10 ≤ b) (hra : (ds.all fun x => x.all (AC.refsLt fp.length)) = true) (hrf : fp.all (Box.refsLt fp.length) = true) (ha : avs = ds.map (renA fun b => (sg ++ nu).getD b 0)) (h : ACalls P f ds fp post)
      (hlen : ∀ r bs, post r bs → bs.length = (sg ++ nu).length) :
      DCall P f avs p bx ⟨sg ++ nu, sg ++ nu, fun s bs => ∃ r bs', post r bs' ∧ s = .v true (renA (fun b => (sg ++ nu).getD b 0) r) ∧ bs = (sg ++ nu).zip (bs'.map (renB fun b => (sg ++ nu).getD b 0))⟩
  | genL (hp : p = true) (az : List AV) (hc : CvAs bx avs az) (ds : List AV) (fp : List Box) (sg nu : List Nat) (post : AV → List Box → Prop)
      (hl : sg.length = fp.length) (hn : (sg ++ nu).Nodup) (hf : ∀ i, i < fp.length → (if (sg ++ nu).getD i 0 ∈ avs.flatMap AV.owns then frzB (bx ((sg ++ nu).getD i 0)) else bx ((sg ++ nu).getD i 0)) = renB (fun b => (sg ++ nu).getD b 0) (fp.getD i .absent))
      (hne : ∃ r bs, post r bs) (hv : ∀ b, b ∈ nu → bx b = .absent ∧ 10 ≤ b) (hra : (ds.all fun x => x.all (AC.refsLt fp.length)) = true) (hrf : fp.all (Box.refsLt fp.length) = true) (ha : az = ds.map (renA fun b => (sg ++ nu).getD b 0)) (h : ACalls P f ds fp post)
      (hlen : ∀ r bs, post r bs → bs.length = (sg ++ nu).length) :
      DCall P f avs p bx ⟨avs.flatMap AV.owns ++ (sg ++ nu), avs.flatMap AV.owns ++ (sg ++ nu), fun s bs => ∃ r bs', post r bs' ∧ s = .v true (renA (fun b => (sg ++ nu).getD b 0) r) ∧
        bs = ((avs.flatMap AV.owns).map fun b => (b, frzB (bx b))) ++ (sg ++ nu).zip (bs'.map (renB fun b => (sg ++ nu).getD b 0))⟩
def DOf (P : Program) (o : AOper) (st : ASt) (D : Desc) : Prop :=
  guardVC st.tm o.g ∧ match o.i with
    | .op op => (guardV st.tm o.g = true → op.valid (Opd.ev st.tm) ∧ (op.f (avOf st.tm) st.bx).vc ∧
        D = ⟨op.rd (avOf st.tm), (op.f (avOf st.tm) st.bx).sets.map (·.1), fun s bs => s = .v true (op.f (avOf st.tm) st.bx).v ∧ bs = (op.f (avOf st.tm) st.bx).sets⟩) ∧
        (guardV st.tm o.g = false → D = ⟨[], [], fun s bs => s = .v false (.one .junk) ∧ bs = []⟩)
    | .call f args => (guardV st.tm o.g = true → ∀ x, x ∈ args → (x.ev st.tm).g = true) ∧ DCall P f (args.map (avOf st.tm)) (guardV st.tm o.g) st.bx D
    | .callv x args => (guardV st.tm o.g = true → (x.ev st.tm).g = true ∧ ∀ x, x ∈ args → (x.ev st.tm).g = true) ∧ match guardV st.tm o.g, avOf st.tm x with
      | false, _ => DCall P 0 [] false st.bx D
      | true, .one (.fn f caps) => callOK P f = true ∧ DCall P f (args.map (avOf st.tm) ++ caps.map fun b => .one (.ptr b 0)) true st.bx D
      | true, _ => False
section
variable {P : Program} {st st' : ASt} {K : List Nat → List Nat → ASt → Prop}
theorem tcall_iff {f : FuncId} {avs : List AV} {p : Bool} {d : Option Nat} : TCall P f avs p d st K ↔ ∃ D, DCall P f avs p st.bx D ∧ ∀ s bs, D.outs s bs → K D.rd D.wr ((st.setbs bs).putO d s) := by
  constructor
  · intro h
    cases h with
    | lit ds r hc hd hh hr k => exact ⟨_, .lit ds r hc hd hh hr, fun s bs ⟨h1, h2⟩ => by subst h1; subst h2; exact k⟩
    | pure ds r hp hc hd hh hr k => exact ⟨_, .pure ds r hp hc hd hh hr, fun s bs ⟨h1, h2⟩ => by subst h1; subst h2; rw [setbs_frz_eq]; exact k⟩
    | genL hp az hc ds fp sg nu post hl hn hf hne hv hra hrf ha hh k =>
      exact ⟨_, .genL hp az hc ds fp sg nu post hl hn hf hne hv hra hrf ha hh (fun r bs hp => (k r bs hp).1), fun s bs ⟨r, bs', hp, h1, h2⟩ => by
        subst h1; subst h2; rw [setbs_append, setbs_frz_eq]; exact (k r bs' hp).2⟩
    | gen hp ds fp sg nu post hl hn hf hne hv hra hrf ha hh k =>
      exact ⟨_, .gen hp ds fp sg nu post hl hn hf hne hv hra hrf ha hh (fun r bs hp => (k r bs hp).1), fun s bs ⟨r, bs', hp, h1, h2⟩ => by subst h1; subst h2; exact (k r bs' hp).2⟩
  · rintro ⟨D, hD, hk⟩
    cases hD with
    | lit ds r hc hd hh hr => exact .lit ds r hc hd hh hr (hk _ _ ⟨rfl, rfl⟩)
    | pure ds r hp hc hd hh hr => exact .pure ds r hp hc hd hh hr (by have := hk _ _ ⟨rfl, rfl⟩; rw [setbs_frz_eq] at this; exact this)
    | genL hp az hc ds fp sg nu post hl hn hf hne hv hra hrf ha hh hlen =>
      exact .genL hp az hc ds fp sg nu post hl hn hf hne hv hra hrf ha hh (fun r bs hp => ⟨hlen r bs hp, by have := hk _ _ ⟨r, bs, hp, rfl, rfl⟩; rw [setbs_append, setbs_frz_eq] at this; exact this⟩)
    | gen hp ds fp sg nu post hl hn hf hne hv hra hrf ha hh hlen =>
      exact .gen hp ds fp sg nu post hl hn hf hne hv hra hrf ha hh (fun r bs hp => ⟨hlen r bs hp, hk _ _ ⟨r, bs, hp, rfl, rfl⟩⟩)
theorem T_iff {o : AOper} : T P o st K ↔ ∃ D, DOf P o st D ∧ ∀ s bs, D.outs s bs → K D.rd D.wr ((st.setbs bs).putO o.d s) := by
  unfold T DOf
  cases o.i with
  | op op =>
    unfold TOp
    cases hp : guardV st.tm o.g with
    | true =>
      constructor
      · rintro ⟨hg, h1, _⟩
        obtain ⟨a1, a2, a3⟩ := h1 rfl
        exact ⟨_, ⟨hg, fun _ => ⟨a1, a2, rfl⟩, fun e => by cases e⟩, fun s bs ⟨e1, e2⟩ => by subst e1; subst e2; exact a3⟩
      · rintro ⟨D, ⟨hg, h1, _⟩, hk⟩
        obtain ⟨a1, a2, rfl⟩ := h1 rfl
        exact ⟨hg, fun _ => ⟨a1, a2, hk _ _ ⟨rfl, rfl⟩⟩, fun e => by cases e⟩
    | false =>
      constructor
      · rintro ⟨hg, _, h2⟩
        exact ⟨_, ⟨hg, (fun e => by cases e), fun _ => rfl⟩, fun s bs ⟨e1, e2⟩ => by subst e1; subst e2; exact h2 rfl⟩
      · rintro ⟨D, ⟨hg, _, h2⟩, hk⟩
        have := h2 rfl
        subst this
        exact ⟨hg, (fun e => by cases e), fun _ => hk _ _ ⟨rfl, rfl⟩⟩
  | call f args =>
    simp only [TCallK, tcall_iff]
    constructor
    · rintro ⟨hg, h1, D, h2, h3⟩; exact ⟨D, ⟨hg, h1, h2⟩, h3⟩
    · rintro ⟨D, ⟨hg, h1, h2⟩, h3⟩; exact ⟨hg, h1, D, h2, h3⟩
  | callv x args =>
    simp only
    cases guardV st.tm o.g with
    | false =>
      simp only [TCallK, tcall_iff]
      constructor
      · rintro ⟨hg, h1, D, h2, h3⟩; exact ⟨D, ⟨hg, h1, h2⟩, h3⟩
      · rintro ⟨D, ⟨hg, h1, h2⟩, h3⟩; exact ⟨hg, h1, D, h2, h3⟩
    | true =>
    cases avOf st.tm x with
    | one y =>
      cases y
      case fn f caps =>
        simp only [TCallK, tcall_iff]
        constructor
        · rintro ⟨hg, h1, h0, D, h2, h3⟩; exact ⟨D, ⟨hg, h1, h0, h2⟩, h3⟩
        · rintro ⟨D, ⟨hg, h1, h0, h2⟩, h3⟩; exact ⟨hg, h1, h0, D, h2, h3⟩
      all_goals exact ⟨fun h => h.2.2.elim, fun ⟨D, h, _⟩ => h.2.2.elim⟩
    | _ => exact ⟨fun h => h.2.2.elim, fun ⟨D, h, _⟩ => h.2.2.elim⟩
theorem DCall.bx {f : FuncId} {avs : List AV} {p : Bool} {bx bx' : Nat → Box} {D : Desc} (h : DCall P f avs p bx D) (hb : ∀ b, b ∈ D.rd → bx b = bx' b) : DCall P f avs p bx' D := by
  cases h with
  | lit ds r hc hd hh hr => exact .lit ds r (fun e => cvAs_bx (hc e) hb) hd hh hr
  | pure ds r hp hc hd hh hr =>
    have e : ((avs.flatMap AV.owns).map fun b => (b, frzB (bx b))) = (avs.flatMap AV.owns).map fun b => (b, frzB (bx' b)) := List.map_congr_left fun b hb' => by rw [hb b hb']
    simp only [e]
    exact .pure ds r hp (cvAs_bx hc hb) hd hh hr
  | genL hp az hc ds fp sg nu post hl hn hf hne hv hra hrf ha hh hlen =>
    have e : ((avs.flatMap AV.owns).map fun b => (b, frzB (bx b))) = (avs.flatMap AV.owns).map fun b => (b, frzB (bx' b)) := List.map_congr_left fun b hb' => by rw [hb b (List.mem_append_left _ hb')]
    simp only [e]
    refine .genL hp az (cvAs_bx hc fun b hm => hb b (List.mem_append_left _ hm)) ds fp sg nu post hl hn (fun i hi => ?_) hne (fun b hm => ?_) hra hrf ha hh hlen
    · rw [← hb]
      · exact hf i hi
      · show (sg ++ nu).getD i 0 ∈ avs.flatMap AV.owns ++ (sg ++ nu)
        have : i < (sg ++ nu).length := by simp; omega
        rw [List.getD_eq_getElem?_getD, List.getElem?_eq_getElem this]
        exact List.mem_append_right _ (List.getElem_mem this)
    · rw [← hb b (List.mem_append_right _ (List.mem_append_right _ hm))]; exact hv b hm
  | gen hp ds fp sg nu post hl hn hf hne hv hra hrf ha hh hlen =>
    refine .gen hp ds fp sg nu post hl hn (fun i hi => ?_) hne (fun b hm => ?_) hra hrf ha hh hlen
    · rw [← hb]
      · exact hf i hi
      · show (sg ++ nu).getD i 0 ∈ sg ++ nu
        have : i < (sg ++ nu).length := by simp; omega
        rw [List.getD_eq_getElem?_getD, List.getElem?_eq_getElem this]
        exact List.getElem_mem this
    · rw [← hb b (List.mem_append_right _ hm)]; exact hv b hm
theorem DCall.ne {f : FuncId} {avs : List AV} {p : Bool} {bx : Nat → Box} {D : Desc} (h : DCall P f avs p bx D) : ∃ s bs, D.outs s bs := by
  cases h with
  | lit => exact ⟨_, _, rfl, rfl⟩
  | pure => exact ⟨_, _, rfl, rfl⟩
  | gen hp ds fp sg nu post hl hn hf hne => obtain ⟨r, bs, h⟩ := hne; exact ⟨_, _, r, bs, h, rfl, rfl⟩
  | genL hp az hc ds fp sg nu post hl hn hf hne => obtain ⟨r, bs, h⟩ := hne; exact ⟨_, _, r, bs, h, rfl, rfl⟩
theorem DCall.fst {f : FuncId} {avs : List AV} {p : Bool} {bx : Nat → Box} {D : Desc} (h : DCall P f avs p bx D) {s : Slot} {bs : List (Nat × Box)} (ho : D.outs s bs) : ∀ b, b ∈ bs.map (·.1) → b ∈ D.wr := by
  cases h with
  | lit => obtain ⟨_, rfl⟩ := ho; intro b hb; simp at hb
  | pure => obtain ⟨_, rfl⟩ := ho; intro b hb; simpa using hb
  | genL hp az hc ds fp sg nu post hl hn hf hne =>
    obtain ⟨r, bs', _, _, rfl⟩ := ho
    intro b hb
    rw [List.map_append, List.mem_append] at hb
    rcases hb with hb | hb
    · exact List.mem_append_left _ (by simpa using hb)
    · obtain ⟨x, hx, rfl⟩ := List.mem_map.1 hb
      exact List.mem_append_right _ (List.of_mem_zip (a := x.1) (b := x.2) hx).1
  | gen hp ds fp sg nu post hl hn hf hne =>
    obtain ⟨r, bs', _, _, rfl⟩ := ho
    intro b hb
    obtain ⟨x, hx, rfl⟩ := List.mem_map.1 hb
    exact (List.of_mem_zip (a := x.1) (b := x.2) hx).1
theorem DOf.ne {o : AOper} {D : Desc} (h : DOf P o st D) : ∃ s bs, D.outs s bs := by
  obtain ⟨_, h⟩ := h
  split at h
  · cases hp : guardV st.tm o.g with
    | true => obtain ⟨_, _, rfl⟩ := h.1 hp; exact ⟨_, _, rfl, rfl⟩
    | false => have := h.2 hp; subst this; exact ⟨_, _, rfl, rfl⟩
  · exact h.2.ne
  · obtain ⟨_, h⟩ := h
    split at h
    · exact h.ne
    · exact h.2.ne
    · exact h.elim
theorem DOf.fst {o : AOper} {D : Desc} (h : DOf P o st D) {s : Slot} {bs : List (Nat × Box)} (ho : D.outs s bs) : ∀ b, b ∈ bs.map (·.1) → b ∈ D.wr := by
  obtain ⟨_, h⟩ := h
  split at h
  · cases hp : guardV st.tm o.g with
    | true => obtain ⟨_, _, rfl⟩ := h.1 hp; obtain ⟨_, rfl⟩ := ho; exact fun b hb => hb
    | false => have := h.2 hp; subst this; obtain ⟨_, rfl⟩ := ho; exact fun b hb => hb
  · exact h.2.fst ho
  · obtain ⟨_, h⟩ := h
    split at h
    · exact h.fst ho
    · exact h.2.fst ho
    · exact h.elim
def AIns.slots (i : AIns) : List Nat := match i with
  | AIns.op o => o.opds.flatMap Opd.slots
  | AIns.call _ args => args.flatMap Opd.slots
  | AIns.callv x args => x.slots ++ args.flatMap Opd.slots
def AOper.slots (o : AOper) : List Nat := o.g.toList.map (·.1) ++ o.i.slots
def AOper.isOp (o : AOper) : Bool := match o.i with
  | AIns.op _ => true
  | _ => false
theorem ev_tm {tm tm' : Nat → Slot} {x : Opd} (h : ∀ t, t ∈ x.slots → tm t = tm' t) : x.ev tm = x.ev tm' := by
  cases x with
  | t s => exact h s (by simp [Opd.slots])
  | k x => rfl
theorem guard_tm {tm tm' : Nat → Slot} {g : Option (Nat × Bool)} (h : ∀ t, t ∈ g.toList.map (·.1) → tm t = tm' t) : (guardVC tm g ↔ guardVC tm' g) ∧ guardV tm g = guardV tm' g := by
  cases g with
  | none => exact ⟨Iff.rfl, rfl⟩
  | some p =>
    obtain ⟨s, w⟩ := p
    have := h s (by simp)
    simp only [guardVC, guardV, this, and_self, iff_self]
theorem DOf.local {o : AOper} {D : Desc} (h : DOf P o st D) (ht : ∀ t, t ∈ o.slots → st.tm t = st'.tm t) (hb : ∀ b, b ∈ D.rd → st.bx b = st'.bx b) : DOf P o st' D := by
  unfold DOf at h ⊢
  obtain ⟨hg1, hg2⟩ := guard_tm (tm := st.tm) (tm' := st'.tm) (g := o.g) (fun t h' => ht t (List.mem_append_left _ h'))
  have ht' : ∀ t, t ∈ o.i.slots → st.tm t = st'.tm t := fun t h' => ht t (List.mem_append_right _ h')
  refine ⟨hg1.1 h.1, ?_⟩
  obtain ⟨_, h⟩ := h
  rw [hg2] at h
  cases hi : o.i with
  | op op =>
    simp only [hi, AIns.slots] at h ht' ⊢
    have he : ∀ x, x ∈ op.opds → Opd.ev st.tm x = Opd.ev st'.tm x := fun x hx => ev_tm fun t hm => ht' t (List.mem_flatMap.2 ⟨x, hx, hm⟩)
    have hea : ∀ x, x ∈ op.opds → avOf st.tm x = avOf st'.tm x := fun x hx => by unfold avOf; rw [he x hx]
    obtain ⟨h1, h2⟩ := h
    refine ⟨fun e => ?_, h2⟩
    obtain ⟨a1, a2, rfl⟩ := h1 e
    have hf : op.f (avOf st.tm) st.bx = op.f (avOf st'.tm) st'.bx := (f_bx op hb).trans (f_ev op hea)
    rw [hf] at a2
    refine ⟨valid_ev op he a1, a2, ?_⟩
    rw [hf, rd_ev op hea]
  | call f args =>
    simp only [hi, AIns.slots] at h ht' ⊢
    have he : ∀ x, x ∈ args → Opd.ev st.tm x = Opd.ev st'.tm x := fun x hx => ev_tm fun t hm => ht' t (List.mem_flatMap.2 ⟨x, hx, hm⟩)
    have hm : args.map (avOf st.tm) = args.map (avOf st'.tm) := List.map_congr_left fun x hx => by unfold avOf; rw [he x hx]
    rw [hm] at h
    exact ⟨fun e x hx => he x hx ▸ h.1 e x hx, h.2.bx hb⟩
  | callv x args =>
    simp only [hi, AIns.slots] at h ht' ⊢
    have he : ∀ x, x ∈ args → Opd.ev st.tm x = Opd.ev st'.tm x := fun x hx => ev_tm fun t hm => ht' t (List.mem_append_right _ (List.mem_flatMap.2 ⟨x, hx, hm⟩))
    have hex : Opd.ev st.tm x = Opd.ev st'.tm x := ev_tm fun t hm => ht' t (List.mem_append_left _ hm)
    have hm : args.map (avOf st.tm) = args.map (avOf st'.tm) := List.map_congr_left fun x hx => by unfold avOf; rw [he x hx]
    have hmx : avOf st.tm x = avOf st'.tm x := by unfold avOf; rw [hex]
    obtain ⟨h1, h2⟩ := h
    rw [hm, hmx] at h2
    refine ⟨fun e => ⟨hex ▸ (h1 e).1, fun y hy => he y hy ▸ (h1 e).2 y hy⟩, ?_⟩
    split at h2
    · exact h2.bx hb
    · exact ⟨h2.1, h2.2.bx hb⟩
    · exact h2.elim
theorem DOf.det {o : AOper} {D D' : Desc} (hop : o.isOp = true) (h : DOf P o st D) (h' : DOf P o st D') : D = D' := by
  unfold DOf at h h'
  unfold AOper.isOp at hop
  cases hi : o.i with
  | op op =>
    rw [hi] at h h'
    cases hp : guardV st.tm o.g with
    | true => exact (h.2.1 hp).2.2.trans (h'.2.1 hp).2.2.symm
    | false => exact (h.2.2 hp).trans (h'.2.2 hp).symm
  | call f args => rw [hi] at hop; cases hop
  | callv x args => rw [hi] at hop; cases hop
end
end Go.Ab
end
section
namespace Go.Ab
open Go
section
variable {P : Program} {st st' : ASt}
theorem disj_iff {a b : List Nat} : disj a b = true ↔ ∀ x, x ∈ a → x ∉ b := by
  simp [disj, List.all_eq_true]
def apart2 (x y : AOper) : Bool :=
  disj x.d.toList y.slots && disj y.d.toList x.slots && disj x.d.toList y.d.toList && (x.isOp || y.isOp)
def app (x : AOper) (st : ASt) (s : Slot) (bs : List (Nat × Box)) : ASt := (st.setbs bs).putO x.d s
theorem app_tm {x : AOper} {s : Slot} {bs : List (Nat × Box)} {t : Nat} (h : t ∉ x.d.toList) : (app x st s bs).tm t = st.tm t := by
  unfold app
  cases hd : x.d with
  | none => simp only [ASt.putO, setbs_tm]
  | some d =>
    simp only [ASt.putO, ASt.put_tm, setbs_tm]
    rw [if_neg]
    intro e; subst e; exact h (by simp [hd])
theorem putO_bx (st : ASt) (d : Option Nat) (s : Slot) : (st.putO d s).bx = st.bx := by cases d <;> rfl
theorem app_bx {x : AOper} {s : Slot} {bs : List (Nat × Box)} {b : Nat} (h : b ∉ bs.map (·.1)) : (app x st s bs).bx b = st.bx b := by
  unfold app
  rw [putO_bx, setbs_other _ _ h]
theorem setbs_bx_congr (l : List (Nat × Box)) {st st' : ASt} {b : Nat} (h : st.bx b = st'.bx b) : (st.setbs l).bx b = (st'.setbs l).bx b := by
  induction l generalizing st st' with
  | nil => exact h
  | cons x l ih =>
    obtain ⟨c, y⟩ := x
    simp only [ASt.setbs]
    apply ih
    simp only [ASt.setb_bx]
    split
    · rfl
    · exact h
theorem setbs_in_congr (l : List (Nat × Box)) {st st' : ASt} {b : Nat} (h : b ∈ l.map (·.1)) : (st.setbs l).bx b = (st'.setbs l).bx b := by
  induction l generalizing st st' with
  | nil => simp at h
  | cons x l ih =>
    obtain ⟨c, y⟩ := x
    simp only [ASt.setbs]
    by_cases hc : b = c
    · apply setbs_bx_congr
      simp [ASt.setb_bx, hc]
    · simp only [List.map_cons, List.mem_cons] at h
      exact ih (h.resolve_left hc)
theorem app_comm {x y : AOper} {s s' : Slot} {bs bs' : List (Nat × Box)} (hd : disj x.d.toList y.d.toList = true) (hb : ∀ b, b ∈ bs.map (·.1) → b ∉ bs'.map (·.1)) :
    app y (app x st s bs) s' bs' = app x (app y st s' bs') s bs := by
  rw [disj_iff] at hd
  apply ASt.ext'
  · funext t
    by_cases h1 : t ∈ x.d.toList
    · have h2 := hd t h1
      rw [app_tm h2]
      cases hx : x.d with
      | none => rw [hx] at h1; simp at h1
      | some d =>
        rw [hx] at h1
        simp at h1
        subst h1
        simp [app, hx, ASt.putO, ASt.put_tm]
    · rw [app_tm (x := x) h1]
      by_cases h2 : t ∈ y.d.toList
      · cases hy : y.d with
        | none => rw [hy] at h2; simp at h2
        | some d =>
          rw [hy] at h2
          simp at h2
          subst h2
          simp [app, hy, ASt.putO, ASt.put_tm]
      · rw [app_tm h2, app_tm h2, app_tm h1]
  · funext b
    by_cases h1 : b ∈ bs.map (·.1)
    · rw [app_bx (hb b h1)]
      unfold app
      rw [putO_bx, putO_bx]
      exact setbs_in_congr _ h1
    · rw [app_bx (x := x) h1]
      by_cases h2 : b ∈ bs'.map (·.1)
      · unfold app
        rw [putO_bx, putO_bx]
        exact setbs_in_congr _ h2
      · rw [app_bx h2, app_bx h2, app_bx h1]
def apartB (rd wr rd' wr' : List Nat) : Bool := disj wr' rd && disj wr' wr && disj rd' wr
theorem DOf.skip {x y : AOper} {D Dx : Desc} (h : DOf P y st D) (hx : DOf P x st Dx) (hs : disj x.d.toList y.slots = true) (hb : ∀ b, b ∈ Dx.wr → b ∉ D.rd) {s : Slot} {bs : List (Nat × Box)} (ho : Dx.outs s bs) : DOf P y (app x st s bs) D :=
  h.local (fun t ht => (app_tm fun hd => (disj_iff.1 hs) t hd ht).symm) (fun b hr => (app_bx fun hm => hb b (hx.fst ho b hm) hr).symm)
theorem DOf.unskip {x y : AOper} {D Dx : Desc} {s : Slot} {bs : List (Nat × Box)} (h : DOf P y (app x st s bs) D) (hx : DOf P x st Dx) (hs : disj x.d.toList y.slots = true) (hb : ∀ b, b ∈ Dx.wr → b ∉ D.rd) (ho : Dx.outs s bs) : DOf P y st D :=
  h.local (fun t ht => app_tm fun hd => (disj_iff.1 hs) t hd ht) (fun b hr => app_bx fun hm => hb b (hx.fst ho b hm) hr)
theorem apartB_spec {rd wr rd' wr' : List Nat} (h : apartB rd wr rd' wr' = true) : (∀ b, b ∈ wr → b ∉ rd') ∧ (∀ b, b ∈ wr' → b ∉ rd) ∧ (∀ b, b ∈ wr → b ∉ wr') := by
  simp only [apartB, Bool.and_eq_true, disj_iff] at h
  exact ⟨fun b h1 h2 => h.2 b h2 h1, h.1.1, fun b h1 h2 => h.1.2 b h2 h1⟩
theorem T_swap {x y : AOper} (hap : apart2 x y = true) {K : List Nat → List Nat → List Nat → List Nat → ASt → Prop}
    (h : T P x st fun rd wr st1 => T P y st1 fun rd' wr' st2 => apartB rd wr rd' wr' = true ∧ K rd wr rd' wr' st2) :
    T P y st fun rd' wr' st2 => T P x st2 fun rd wr st1 => apartB rd wr rd' wr' = true ∧ K rd wr rd' wr' st1 := by
  simp only [apart2, Bool.and_eq_true, Bool.or_eq_true] at hap
  obtain ⟨⟨⟨h1, h2⟩, h3⟩, h4⟩ := hap
  rw [T_iff] at h
  obtain ⟨Dx, hDx, h⟩ := h
  rcases h4 with h4 | h4
  ·
    obtain ⟨s, bs, ho⟩ := hDx.ne
    have hT := h s bs ho
    rw [T_iff] at hT
    obtain ⟨Dy, hDy, hk⟩ := hT
    obtain ⟨s', bs', ho'⟩ := hDy.ne
    obtain ⟨a1, a2, a3⟩ := apartB_spec (hk s' bs' ho').1
    have hDy0 : DOf P y st Dy := DOf.unskip hDy hDx h1 a1 ho
    rw [T_iff]
    refine ⟨Dy, hDy0, fun s' bs' ho' => ?_⟩
    rw [T_iff]
    refine ⟨Dx, hDx.skip hDy0 h2 a2 ho', fun s1 bs1 ho1 => ?_⟩
    have hT := h s1 bs1 ho1
    rw [T_iff] at hT
    obtain ⟨Dy1, hDy1, hk1⟩ := hT
    have hsame : s1 = s ∧ bs1 = bs := by
      obtain ⟨_, hD⟩ := hDx
      unfold AOper.isOp at h4
      split at h4
      · rename_i op hi
        rw [hi] at hD
        cases hp : guardV st.tm x.g with
        | true => obtain ⟨_, _, rfl⟩ := hD.1 hp; exact ⟨ho1.1.trans ho.1.symm, ho1.2.trans ho.2.symm⟩
        | false => have := hD.2 hp; subst this; exact ⟨ho1.1.trans ho.1.symm, ho1.2.trans ho.2.symm⟩
      · cases h4
    obtain ⟨rfl, rfl⟩ := hsame
    have := hk s' bs' ho'
    show _ ∧ K _ _ _ _ (app x (app y st s' bs') s1 bs1)
    rw [← app_comm h3 (fun b hb hb' => a3 b (hDx.fst ho b hb) (hDy0.fst ho' b hb'))]
    exact this
  ·
    obtain ⟨s, bs, ho⟩ := hDx.ne
    have hT := h s bs ho
    rw [T_iff] at hT
    obtain ⟨Dy, hDy, hk⟩ := hT
    obtain ⟨s', bs', ho'⟩ := hDy.ne
    obtain ⟨a1, a2, a3⟩ := apartB_spec (hk s' bs' ho').1
    have hDy0 : DOf P y st Dy := DOf.unskip hDy hDx h1 a1 ho
    rw [T_iff]
    refine ⟨Dy, hDy0, fun s' bs' ho' => ?_⟩
    rw [T_iff]
    refine ⟨Dx, hDx.skip hDy0 h2 a2 ho', fun s1 bs1 ho1 => ?_⟩
    have hT := h s1 bs1 ho1
    rw [T_iff] at hT
    obtain ⟨Dy1, hDy1, hk1⟩ := hT
    have hsame : Dy1 = Dy := by
      obtain ⟨s2, bs2, ho2⟩ := hDy1.ne
      obtain ⟨b1, _, _⟩ := apartB_spec (hk1 s2 bs2 ho2).1
      exact DOf.det h4 (DOf.unskip hDy1 hDx h1 b1 ho1) hDy0
    subst hsame
    have := hk1 s' bs' ho'
    show _ ∧ K _ _ _ _ (app x (app y st s' bs') s1 bs1)
    rw [← app_comm h3 (fun b hb hb' => a3 b (hDx.fst ho1 b hb) (hDy0.fst ho' b hb'))]
    exact this
theorem T_mono {x : AOper} {K K' : List Nat → List Nat → ASt → Prop} (hk : ∀ rd wr st, K rd wr st → K' rd wr st) (h : T P x st K) : T P x st K' := by
  rw [T_iff] at h ⊢
  obtain ⟨D, hD, h⟩ := h
  exact ⟨D, hD, fun s bs ho => hk _ _ _ (h s bs ho)⟩
abbrev Log := List (Nat × List Nat × List Nat)
theorem logOK_iff {aft rd wr : List Nat} {log : Log} : logOK aft rd wr log = true ↔ ∀ e, e ∈ log → e.1 ∈ aft ∨ apartB e.2.1 e.2.2 rd wr = true := by
  induction log with
  | nil => simp [logOK]
  | cons e l ih =>
    obtain ⟨j, r, w⟩ := e
    simp only [logOK, Bool.and_eq_true, Bool.or_eq_true, ih, List.mem_cons, forall_eq_or_imp, apartB, List.contains_iff_mem]
structure AItem where
  i : Nat
  o : AOper
  aft : List Nat
def wpI (P : Program) : List AItem → Log → ASt → (ASt → Prop) → Prop
  | [], _, st, K => K st
  | x :: r, log, st, K => T P x.o st fun rd wr st' => logOK x.aft rd wr log = true ∧ wpI P r ((x.i, rd, wr) :: log) st' K
theorem wpI_log {K : ASt → Prop} : ∀ {l : List AItem} {log log' : Log} {st : ASt}, (∀ e, e ∈ log' → e ∈ log) → wpI P l log st K → wpI P l log' st K
  | [], _, _, _, _, h => h
  | x :: r, log, log', st, hl, h => by
    refine T_mono (fun rd wr st' hk => ⟨?_, wpI_log (l := r) ?_ hk.2⟩) h
    · rw [logOK_iff] at hk ⊢
      exact fun e he => hk.1 e (hl e he)
    · intro e he
      rcases List.mem_cons.1 he with rfl | he
      · exact List.mem_cons_self ..
      · exact List.mem_cons_of_mem _ (hl e he)
theorem wpI_front {K : ASt → Prop} {x : AItem} {post : List AItem} : ∀ {pre : List AItem} {log : Log} {st : ASt}, (∀ p, p ∈ pre → p.i ∉ x.aft ∧ apart2 p.o x.o = true) → wpI P (pre ++ x :: post) log st K → wpI P (x :: (pre ++ post)) log st K
  | [], _, _, _, h => h
  | p :: pre, log, st, hp, h => by
    obtain ⟨hn, hap⟩ := hp p (List.mem_cons_self ..)
    have h1 : T P p.o st fun rd wr st1 => T P x.o st1 fun rd' wr' st2 => apartB rd wr rd' wr' = true ∧
        (logOK p.aft rd wr log = true ∧ logOK x.aft rd' wr' log = true ∧ wpI P (pre ++ post) ((x.i, rd', wr') :: (p.i, rd, wr) :: log) st2 K) := by
      refine T_mono (fun rd wr st1 hk => ?_) h
      have h2 := wpI_front (pre := pre) (fun q hq => hp q (List.mem_cons_of_mem _ hq)) hk.2
      refine T_mono (fun rd' wr' st2 hk2 => ?_) h2
      have hlog := logOK_iff.1 hk2.1
      refine ⟨(hlog (p.i, rd, wr) (List.mem_cons_self ..)).resolve_left hn, hk.1, logOK_iff.2 fun e he => hlog e (List.mem_cons_of_mem _ he), hk2.2⟩
    refine T_mono (fun rd' wr' st2 hk => ?_) (T_swap hap h1)
    rw [T_iff] at hk
    obtain ⟨D, hD, hk⟩ := hk
    refine ⟨?_, ?_⟩
    · obtain ⟨s, bs, ho⟩ := hD.ne
      exact (hk s bs ho).2.2.1
    · show T P p.o st2 _
      rw [T_iff]
      refine ⟨D, hD, fun s bs ho => ?_⟩
      obtain ⟨k1, k2, k3, k4⟩ := hk s bs ho
      refine ⟨logOK_iff.2 fun e he => ?_, wpI_log ?_ k4⟩
      · rcases List.mem_cons.1 he with rfl | he
        · right
          simp only [apartB, Bool.and_eq_true, disj_iff] at k1 ⊢
          exact ⟨⟨fun b h1 h2 => k1.2 b h2 h1, fun b h1 h2 => k1.1.2 b h2 h1⟩, fun b h1 h2 => k1.1.1 b h2 h1⟩
        · exact logOK_iff.1 k2 e he
      · intro e he
        simp only [List.mem_cons] at he ⊢
        rcases he with h | h | h
        · exact .inr (.inl h)
        · exact .inl h
        · exact .inr (.inr h)
end
end Go.Ab
end
section
namespace Go.Ab
open Go
section
variable {P : Program} {E : Env} {n : Nat} {ops : Array Oper} {Q : Exit → Act → World → Prop}
def chkOps (P : Program) (n m : Nat) (ops : Array Oper) : List Oper → List AOper → Bool
  | [], [] => true
  | o :: os, x :: xs => chkOper P n m ops o x && chkOps P n m ops os xs
  | _, _ => false
theorem regS_sound (hm : E.m ≤ 10) : ∀ {os : List Oper} {xs : List AOper} {K : ASt → Prop} {a : Act} {w : World}, chkOps P n E.m ops os xs = true → AK E n (fun st => wpOps P xs st K) a w →
    (∀ a w, AK E n K a w → Q .normal a w) → wpList P ops Q os a w
  | [], [], K, a, w, _, h, hq => hq a w h
  | o :: os, x :: xs, K, a, w, hc, h, hq => by
    simp only [chkOps, Bool.and_eq_true] at hc
    obtain ⟨I, ρ, st, hT, hg⟩ := h
    have h1 := T_sound (Q := Q) (ops := ops) hg hm hc.1 (show T P x st fun _ _ st' => wpOps P xs st' K from hT)
    unfold wpOper at h1
    unfold wpList
    have key : ∀ a w, AK E n (fun st => ∃ rd wr : List Nat, wpOps P xs st K) a w → wpList P ops Q os a w := fun a w hk =>
      regS_sound hm hc.2 (hk.imp fun st ⟨_, _, h⟩ => h) hq
    split
    · rename_i hw
      rw [if_pos hw] at h1
      exact h1.imp (Oper.wp_mono key) id
    · rename_i hw
      rw [if_neg hw] at h1
      exact key _ _ h1
  | [], _ :: _, _, _, _, hc, _, _ => by cases hc
  | _ :: _, [], _, _, _, hc, _, _ => by cases hc
def items : List (AOper × List Nat) → Nat → List AItem
  | [], _ => []
  | (o, aft) :: r, i => ⟨i, o, aft⟩ :: items r (i + 1)
theorem wpD_eq {K : ASt → Prop} : ∀ {l : List (AOper × List Nat)} {i : Nat} {log : Log} {st : ASt}, wpD P l i log st K = wpI P (items l i) log st K
  | [], _, _, _ => rfl
  | (o, aft) :: r, i, log, st => by
    simp only [wpD, items, wpI]
    congr 1
    funext rd wr st'
    rw [wpD_eq (l := r)]
def chkAft (L : List AItem) (o : Oper) (x : AItem) : Bool :=
  x.aft.all (fun j => o.after.toList.any fun e => Region.binds .any e && (e.on == j || L.any fun y => y.i == e.on && y.aft.contains j)) &&
  o.after.toList.all (fun e => !Region.binds .any e || decide (e.on < x.i))
def chkApart : List AItem → Bool
  | [] => true
  | x :: r => r.all (fun y => y.aft.contains x.i || apart2 x.o y.o) && chkApart r
def chkItem (P : Program) (n m : Nat) (ops : Array Oper) (L : List AItem) (x : AItem) : Bool :=
  match ops[x.i]? with
  | some o => chkOper P n m ops o x.o && chkAft L o x
  | none => false
def chkRD (P : Program) (n m : Nat) (ops : Array Oper) (l : List (AOper × List Nat)) : Bool :=
  l.length == ops.size && (items l 0).all (chkItem P n m ops (items l 0)) && chkApart (items l 0)
theorem items_lt : ∀ {l : List (AOper × List Nat)} {i : Nat}, (∀ x, x ∈ items l i → i ≤ x.i ∧ x.i < i + l.length) ∧ (items l i).Pairwise (fun x y => x.i < y.i) ∧ (∀ j, j < l.length → ∃ x, x ∈ items l i ∧ x.i = i + j)
  | [], i => ⟨fun x hx => by simp [items] at hx, .nil, fun j hj => by simp at hj⟩
  | (o, aft) :: r, i => by
    obtain ⟨h1, h2, h3⟩ := items_lt (l := r) (i := i + 1)
    simp only [items, List.length_cons]
    refine ⟨fun x hx => ?_, List.pairwise_cons.2 ⟨fun y hy => ?_, h2⟩, fun j hj => ?_⟩
    · rcases List.mem_cons.1 hx with rfl | hx
      · exact ⟨Nat.le_refl _, by simp⟩
      · have := h1 x hx; omega
    · have := (h1 y hy).1; show i < y.i; omega
    · cases j with
      | zero => exact ⟨_, List.mem_cons_self .., rfl⟩
      | succ j =>
        obtain ⟨x, hx, he⟩ := h3 j (by omega)
        exact ⟨x, List.mem_cons_of_mem _ hx, by omega⟩
theorem chkApart_pw : ∀ {l : List AItem}, chkApart l = true → l.Pairwise fun x y => x.i ∈ y.aft ∨ apart2 x.o y.o = true
  | [], _ => .nil
  | x :: r, h => by
    simp only [chkApart, Bool.and_eq_true, List.all_eq_true, Bool.or_eq_true, List.contains_iff_mem] at h
    exact List.pairwise_cons.2 ⟨h.1, chkApart_pw h.2⟩
theorem getD_ff {l : Array Bool} {i : Nat} (h : l.getD i true = false) : l.getD i false = false := by
  simp only [Array.getD_eq_getD_getElem?] at *
  cases hh : l[i]? with
  | none => rw [hh] at h; cases h
  | some b => rw [hh] at h; simpa using h
theorem any_sound (hm : E.m ≤ 10) {L : List (AOper × List Nat)} (hc : chkRD P n E.m ops L = true) {K : ASt → Prop} (hq : ∀ a w, AK E n K a w → Q .normal a w) :
    ∀ (fuel : Nat) (l : List AItem) (listed : Array Bool) (log : Log) (a : Act) (w : World), l.length ≤ fuel → l.Sublist (items L 0) → listed.size = ops.size →
      (∀ x, x ∈ items L 0 → (listed.getD x.i true = false ↔ x ∈ l)) →
      (∀ x, x ∈ items L 0 → listed.getD x.i false = true → ∀ j, j ∈ x.aft → listed.getD j false = true) →
      AK E n (fun st => wpI P l log st K) a w → wpAny P .any ops Q fuel listed a w := by
  simp only [chkRD, Bool.and_eq_true, beq_iff_eq, List.all_eq_true] at hc
  obtain ⟨⟨hlen, hit⟩, hap⟩ := hc
  obtain ⟨i1, i2, i3⟩ := items_lt (l := L) (i := 0)
  have hpw : (items L 0).Pairwise fun x y => x.i < y.i ∧ (x.i ∈ y.aft ∨ apart2 x.o y.o = true) := i2.and (chkApart_pw hap)
  have huniq : ∀ x y, x ∈ items L 0 → y ∈ items L 0 → x.i = y.i → x = y := by
    intro x y hx hy e
    obtain ⟨p, hp, rfl⟩ := List.getElem_of_mem hx
    obtain ⟨q, hq', rfl⟩ := List.getElem_of_mem hy
    have hpw' := List.pairwise_iff_getElem.1 i2
    rcases Nat.lt_trichotomy p q with h | h | h
    · have := hpw' p q hp hq' h; omega
    · subst h; rfl
    · have := hpw' q p hq' hp h; omega
  have hready : ∀ (l : List AItem) (listed : Array Bool), l.Sublist (items L 0) → listed.size = ops.size → (∀ x, x ∈ items L 0 → (listed.getD x.i true = false ↔ x ∈ l)) → Region.ready .any ops listed = [] → l = [] := by
    intro l listed hsub hsz hl hr
    cases l with
    | nil => rfl
    | cons x r =>
      exfalso
      have hx := hsub.subset (List.mem_cons_self ..)
      have hc := hit x hx
      unfold chkItem at hc
      cases ho : ops[x.i]? with
      | none => rw [ho] at hc; cases hc
      | some o =>
        rw [ho] at hc
        simp only [Bool.and_eq_true, chkAft, List.all_eq_true, Bool.or_eq_true, Bool.not_eq_true', decide_eq_true_eq] at hc
        have : x.i ∈ Region.ready .any ops listed := by
          rw [mem_ready]
          refine ⟨(hl x hx).2 (List.mem_cons_self ..), o, ho, fun e he hb => ?_⟩
          have hlt := (hc.2.2 e (by simpa using he)).resolve_left (by rw [hb]; simp)
          have hxi := i1 x hx
          obtain ⟨y, hy, hye⟩ := i3 e.on (by omega)
          have hye : y.i = e.on := by omega
          by_cases hyl : y ∈ x :: r
          · exfalso
            rcases List.mem_cons.1 hyl with rfl | hyr
            · omega
            · have := (List.pairwise_cons.1 (i2.sublist hsub)).1 y hyr
              omega
          · have h1 : ¬ listed.getD y.i true = false := fun h => hyl ((hl y hy).1 h)
            have hin : y.i < listed.size := by rw [hsz, ← hlen]; have := i1 y hy; omega
            rw [← hye]
            simp only [Array.getD_eq_getD_getElem?, Array.getElem?_eq_getElem hin, Option.getD_some] at h1 ⊢
            simpa using h1
        rw [hr] at this
        cases this
  intro fuel
  induction fuel with
  | zero =>
    intro l listed log a w hf hsub hsz hl _ h
    have : l = [] := List.length_eq_zero_iff.1 (by omega)
    subst this
    refine ⟨?_, hq a w h⟩
    cases hr : Region.ready .any ops listed with
    | nil => rfl
    | cons i r =>
      exfalso
      have hi : i ∈ Region.ready .any ops listed := by rw [hr]; exact List.mem_cons_self ..
      obtain ⟨hu, o, ho, _⟩ := mem_ready.1 hi
      have hlt := (Array.getElem?_eq_some_iff.1 ho).1
      obtain ⟨y, hy, hye⟩ := i3 i (by omega)
      have hye : y.i = i := by omega
      have := (hl y hy).1 (by rw [hye]; exact hu)
      cases this
  | succ fuel ih =>
    intro l listed log a w hf hsub hsz hl hdown h
    refine ⟨fun hr => ?_, fun i hi => ?_⟩
    · have := hready l listed hsub hsz hl hr
      subst this
      exact hq a w h
    · obtain ⟨hu, o, ho, hall⟩ := mem_ready.1 hi
      have hlt := (Array.getElem?_eq_some_iff.1 ho).1
      obtain ⟨x, hx, hxe⟩ := i3 i (by omega)
      have hxe : x.i = i := by omega
      subst hxe
      have hxl := (hl x hx).1 hu
      have hcx := hit x hx
      unfold chkItem at hcx
      rw [ho] at hcx
      simp only [Bool.and_eq_true] at hcx
      obtain ⟨hco, hca⟩ := hcx
      have haft : ∀ j, j ∈ x.aft → listed.getD j false = true := by
        intro j hj
        simp only [chkAft, Bool.and_eq_true, List.all_eq_true, List.any_eq_true, Bool.or_eq_true, beq_iff_eq] at hca
        obtain ⟨e, he, hb, hej⟩ := hca.1 j hj
        have hel := hall e (by simpa using he) hb
        rcases hej with rfl | ⟨y, hy, hye, hyj⟩
        · exact hel
        · rw [← hye] at hel
          exact hdown y hy hel j (by simpa using hyj)
      obtain ⟨pre, post, rfl⟩ := List.append_of_mem hxl
      have hpwl := hpw.sublist hsub
      rw [List.pairwise_append] at hpwl
      have hpre : ∀ p, p ∈ pre → p.i ∉ x.aft ∧ apart2 p.o x.o = true := by
        intro p hp
        have h1 := hpwl.2.2 p hp x (List.mem_cons_self ..)
        have hn : p.i ∉ x.aft := by
          intro hm'
          have h2 := haft _ hm'
          have h3 := (hl p (hsub.subset (List.mem_append_left _ hp))).2 (List.mem_append_left _ hp)
          rw [getD_ff h3] at h2
          cases h2
        exact ⟨hn, h1.2.resolve_left hn⟩
      obtain ⟨I, ρ, st, hT, hg⟩ := h
      have hT := wpI_front hpre hT
      have h1 := T_sound (Q := Q) (ops := ops) hg hm hco (show T P x.o st fun rd wr st' => logOK x.aft rd wr log = true ∧ wpI P (pre ++ post) ((x.i, rd, wr) :: log) st' K from hT)
      have key : ∀ a w, AK E n (fun st => ∃ rd wr, logOK x.aft rd wr log = true ∧ wpI P (pre ++ post) ((x.i, rd, wr) :: log) st K) a w → wpAny P .any ops Q fuel (listed.setIfInBounds x.i true) a w := by
        rintro a w ⟨I, ρ, st, ⟨rd, wr, _, hk⟩, hg⟩
        have hnx : x ∉ pre ++ post := by
          intro hxm
          rcases List.mem_append.1 hxm with h | h
          · have := (hpwl.2.2 x h x (List.mem_cons_self ..)).1; omega
          · have := ((List.pairwise_cons.1 hpwl.2.1).1 x h).1; omega
        refine ih (pre ++ post) _ ((x.i, rd, wr) :: log) a w (by simp at hf ⊢; omega) ?_ (by simp [hsz]) ?_ ?_ ⟨I, ρ, st, hk, hg⟩
        · exact (List.Sublist.append_left (List.sublist_cons_self x post) pre).trans hsub
        · intro y hy
          by_cases hyx : y = x
          · subst hyx
            constructor
            · intro h
              have hin : y.i < listed.size := by rw [hsz]; exact hlt
              simp [hin] at h
            · intro h; exact absurd h hnx
          · have hne : x.i ≠ y.i := fun e => hyx (huniq y x hy hx e.symm)
            rw [getD_set_ne true hne, hl y hy]
            simp only [List.mem_append, List.mem_cons, hyx, false_or]
        · intro y hy hyl j hj
          by_cases hyx : y = x
          · subst hyx; exact getD_set_true (haft j hj)
          · have hne : x.i ≠ y.i := fun e => hyx (huniq y x hy hx e.symm)
            rw [getD_set_ne false hne] at hyl
            exact getD_set_true (hdown y hy hyl j hj)
      unfold wpOp
      rw [ho]
      unfold wpOper at h1
      simp only
      split
      · rename_i hw
        rw [if_pos hw] at h1
        exact h1.imp (Oper.wp_mono key) id
      · rename_i hw
        rw [if_neg hw] at h1
        exact key _ _ h1
theorem regD_sound (hm : E.m ≤ 10) (hf : P.follows .mixedOrders = true) {L : List (AOper × List Nat)} (hc : chkRD P n E.m ops L = true) {K : ASt → Prop} (hq : ∀ a w, AK E n K a w → Q .normal a w)
    {id : Nat} {a : Act} {w : World} (h : AK E n (fun st => wpD P L 0 [] st K) a w) : (Code.region id ops true).wp P Q a w := by
  refine wp_region_any hf ?_
  have hlen : L.length = ops.size := by simp only [chkRD, Bool.and_eq_true, beq_iff_eq] at hc; exact hc.1.1
  have i0 := items_lt (l := L) (i := 0)
  have hil : (items L 0).length = L.length := by
    clear i0 hlen h hc
    generalize 0 = i
    induction L generalizing i with
    | nil => rfl
    | cons x r ih => obtain ⟨o, aft⟩ := x; simp [items, ih]
  refine any_sound hm hc hq ops.size (items L 0) (Array.replicate ops.size false) [] a _ (by omega) (List.Sublist.refl _) (by simp) ?_ ?_ ?_
  · intro x hx
    have := i0.1 x hx
    have hlt : x.i < ops.size := by omega
    simp [hlt, hx]
  · intro x hx h
    exfalso
    have := i0.1 x hx
    have hlt : x.i < ops.size := by omega
    simp [hlt] at h
  · obtain ⟨I, ρ, st, hT, hg⟩ := h
    exact ⟨I, ρ, st, Eq.mp (wpD_eq (P := P) (l := L) (i := 0) (log := []) (st := st) (K := K)) hT, hg.drew⟩
end
end Go.Ab
end
section
namespace Go.Ab
open Go
def wkC (zs : List Nat) (bx : Nat → Box) (π : Nat → Option Nat) (vs : List Nat) : AC → AC → Prop
  | _, .junk => True
  | .c x, .c y => x = y
  | .nsl sz, .c y => y = .sl sz []
  | .own b n sz, .c y => b ∈ zs ∧ match (bx b).arr with
    | some (sz', es) => sz' = sz ∧ n ≤ es.length ∧ y = .sl sz (es.take n)
    | none => False
  | .nsl sz, .nsl sz' => sz = sz'
  | .nsl sz, .own b n sz' => b ∈ vs ∧ n = 0 ∧ sz = sz'
  | .own b n sz, .own b' n' sz' => π b' = some b ∧ n = n' ∧ sz = sz'
  | .sub b lo n _ sz, .own b' n' sz' => π b' = some b ∧ lo = 0 ∧ n = n' ∧ sz = sz'
  | .sub b lo n c sz, .sub b' lo' n' c' sz' => π b' = some b ∧ lo = lo' ∧ n = n' ∧ c = c' ∧ sz = sz'
  | .ptr b o, .ptr b' o' => π b' = some b ∧ o = o'
  | .aptr b i sz o, .aptr b' i' sz' o' => π b' = some b ∧ i = i' ∧ sz = sz' ∧ o = o'
  | .eptr cs, .eptr cs' => cs = cs'
  | .fn f caps, .fn f' caps' => f = f' ∧ caps'.map π = caps.map some
  | _, _ => False
def wkCs (zs : List Nat) (bx : Nat → Box) (π : Nat → Option Nat) (vs : List Nat) : List AC → List AC → Prop
  | [], [] => True
  | x :: xs, y :: ys => wkC zs bx π vs x y ∧ wkCs zs bx π vs xs ys
  | _, _ => False
def wkPs (zs : List Nat) (bx : Nat → Box) (π : Nat → Option Nat) (vs : List Nat) : List (Bool × List AC) → List (Bool × List AC) → Prop
  | [], [] => True
  | (g, x) :: xs, (g', y) :: ys => g = g' ∧ wkCs zs bx π vs x y ∧ wkPs zs bx π vs xs ys
  | _, _ => False
def wkV (zs : List Nat) (bx : Nat → Box) (π : Nat → Option Nat) (vs : List Nat) : AV → AV → Prop
  | .one x, .one y => wkC zs bx π vs x y
  | .agg xs, .agg ys => wkCs zs bx π vs xs ys
  | .tup xs, .tup ys => wkPs zs bx π vs xs ys
  | _, _ => False
def wkB (zs : List Nat) (bx : Nat → Box) (π : Nat → Option Nat) (vs : List Nat) (b : Nat) : Box → Prop
  | .absent => π b = none ∧ b ∉ vs
  | .dead => True
  | .var ys => match π b with
    | some c => match bx c with
      | .var xs => wkCs zs bx π vs xs ys
      | _ => False
    | none => False
  | .dat sz es => match π b with
    | some c => c ∉ zs ∧ (bx c = .dat sz es ∨ ∃ t, bx c = .dat sz (es ++ t))
    | none => b ∈ vs ∧ es = []
  | .frz sz es => match π b with
    | some c => bx c = .frz sz es ∨ (c ∈ zs ∧ bx c = .dat sz es)
    | none => False
def Box.isDead : Box → Bool
  | .dead => true
  | _ => false
structure WkS (m : Nat) (bx bx' : Nat → Box) (zs : List Nat) (π : Nat → Option Nat) (vs : List Nat) : Prop where
  box : ∀ b, wkB zs bx π vs b (bx' b)
  inj : ∀ b b' c, (bx' b).isDead = false → (bx' b').isDead = false → π b = some c → π b' = some c → b = b'
  vir : ∀ b, b ∈ vs → π b = none
  fix : ∀ b, b < m → π b = some b ∨ (π b = none ∧ b ∉ vs ∧ bx b = .absent)
def wkSl (zs : List Nat) (bx : Nat → Box) (π : Nat → Option Nat) (vs : List Nat) : Slot → Slot → Prop
  | _, .none => True
  | .v g x, .v g' y => g = g' ∧ (g = true → wkV zs bx π vs x y)
  | _, _ => False
def Weak (m : Nat) (st S : ASt) : Prop := ∃ zs π vs, WkS m st.bx S.bx zs π vs ∧ ∀ t, wkSl zs st.bx π vs (st.tm t) (S.tm t)
section
variable {E : Env} {I : IH} {ρ : Ren} {n : Nat} {st : ASt} {a : Act} {w : World}
def renR (ρ : Ren) (π : Nat → Option Nat) (vs : List Nat) : Ren := fun b => match π b with
  | some c => ρ c
  | none => if b ∈ vs then some (0, 0) else none
theorem wk_gc (h : GX E I ρ n st a w) {zs vs : List Nat} {π : Nat → Option Nat} (hvs : ∀ b, b ∈ vs → π b = none) {v : Value} {x y : AC} (hx : GC I ρ v x) (hy : wkC zs st.bx π vs x y) : GC (lend I ρ w st.bx zs) (renR ρ π vs) v y := by
  have hle := lend_le h.bx zs
  cases y with
  | junk => exact hx.one
  | c y =>
    cases x with
    | c x => simp only [wkC] at hy; subst hy; exact Rd.mono hle hx
    | nsl sz =>
      simp only [wkC] at hy; subst hy
      simp only [GC] at hx; subst hx
      exact Rd.sl none 0 0 _ [] (fun _ _ => undef) rfl (Nat.le_refl _) (by simp [maxLen]) (by simp) (by simp) (by intro ad h; cases h) (by simp)
    | own b m sz =>
      simp only [wkC] at hy
      obtain ⟨hb, hy⟩ := hy
      split at hy
      · rename_i sz' es harr
        obtain ⟨rfl, hm, rfl⟩ := hy
        exact lend_rd h hb harr hm hx
      · exact hy.elim
    | _ => simp [wkC] at hy
  | nsl sz =>
    cases x <;> simp only [wkC] at hy
    subst hy; exact hx
  | own b' m' sz' =>
    cases x with
    | nsl sz =>
      simp only [wkC] at hy
      obtain ⟨hb, rfl, rfl⟩ := hy
      simp only [GC] at hx; subst hx
      exact ⟨0, 0, none, 0, by simp [renR, hvs b' hb, hb], rfl, Nat.le_refl _, Nat.le_refl _, fun h => absurd rfl h⟩
    | own b m sz =>
      simp only [wkC] at hy
      obtain ⟨hb, rfl, rfl⟩ := hy
      obtain ⟨k, cap, ad, c, hr, hrest⟩ := hx
      exact ⟨k, cap, ad, c, by simp only [renR, hb]; exact hr, hrest⟩
    | sub b lo m c0 sz =>
      simp only [wkC] at hy
      obtain ⟨hb, rfl, rfl, rfl⟩ := hy
      obtain ⟨k, cap, ad, c, hr, hv, hm, hcc, _, ha⟩ := hx
      refine ⟨k, cap, ad, c, by simp only [renR, hb]; exact hr, hv, hm, by omega, fun hc0 => ?_⟩
      have := ha (.inr ⟨rfl, hc0⟩)
      rw [Nat.zero_mul] at this
      exact this
    | _ => simp [wkC] at hy
  | sub b' lo' m' c' sz' =>
    cases x with
    | sub b lo m c sz =>
      simp only [wkC] at hy
      obtain ⟨hb, rfl, rfl, rfl, rfl⟩ := hy
      obtain ⟨k, cap, ad, c1, hr, hrest⟩ := hx
      exact ⟨k, cap, ad, c1, by simp only [renR, hb]; exact hr, hrest⟩
    | _ => simp [wkC] at hy
  | ptr b' o' =>
    cases x with
    | ptr b o =>
      simp only [wkC] at hy
      obtain ⟨hb, rfl⟩ := hy
      obtain ⟨k, cap, hr, hrest⟩ := hx
      exact ⟨k, cap, by simp only [renR, hb]; exact hr, hrest⟩
    | _ => simp [wkC] at hy
  | aptr b' i' sz' o' =>
    cases x with
    | aptr b i sz o =>
      simp only [wkC] at hy
      obtain ⟨hb, rfl, rfl, rfl⟩ := hy
      obtain ⟨k, cap, hr, hrest⟩ := hx
      exact ⟨k, cap, by simp only [renR, hb]; exact hr, hrest⟩
    | _ => simp [wkC] at hy
  | eptr cs' =>
    cases x with
    | eptr cs =>
      simp only [wkC] at hy
      subst hy
      obtain ⟨p, hv, hc⟩ := hx
      exact ⟨p, hv, fun j c hj => let ⟨u, h1, h2⟩ := hc j c hj; ⟨u, IH.le_cell hle h1, h2.mono hle⟩⟩
    | _ => simp [wkC] at hy
  | fn f' caps' =>
    cases x with
    | fn f caps =>
      simp only [wkC] at hy
      obtain ⟨rfl, hcs⟩ := hy
      obtain ⟨ks, hk1, hk2, hk3⟩ := hx
      have hlen : caps'.length = caps.length := by have := congrArg List.length hcs; simpa using this
      refine ⟨ks, by rw [hlen]; exact hk1, fun j b k hb hk => ?_, hk3⟩
      have hj : j < caps.length := by have := (List.getElem?_eq_some_iff.1 hb).1; omega
      have h1 : (caps'.map π)[j]? = (caps.map some)[j]? := by rw [hcs]
      rw [List.getElem?_map, List.getElem?_map, hb, List.getElem?_eq_getElem hj] at h1
      simp only [Option.map_some, Option.some.injEq] at h1
      obtain ⟨cap, hr⟩ := hk2 j _ k (List.getElem?_eq_getElem hj) hk
      exact ⟨cap, by simp only [renR, h1]; exact hr⟩
    | _ => simp [wkC] at hy
theorem wk_gcs (h : GX E I ρ n st a w) {zs vs : List Nat} {π : Nat → Option Nat} (hvs : ∀ b, b ∈ vs → π b = none) : ∀ {us : List Value} {xs ys : List AC}, GCs I ρ us xs → wkCs zs st.bx π vs xs ys → GCs (lend I ρ w st.bx zs) (renR ρ π vs) us ys
  | us, [], [], hx, _ => ⟨hx.1, fun j v x hv hx => by simp at hx⟩
  | u :: us, x :: xs, y :: ys, hx, hy => by
    have ih := wk_gcs h hvs (us := us) (xs := xs) (ys := ys) ⟨by simpa using hx.1, fun j v z hv hz => hx.2 (j + 1) v z (by simpa using hv) (by simpa using hz)⟩ hy.2
    refine ⟨by simp [ih.1], fun j v z hv hz => ?_⟩
    cases j with
    | zero =>
      simp at hv hz
      subst hv; subst hz
      exact wk_gc h hvs (hx.2 0 _ _ rfl rfl) hy.1
    | succ j => exact ih.2 j v z (by simpa using hv) (by simpa using hz)
  | [], _ :: _, _, hx, _ => by have := hx.1; simp at this
  | _, [], _ :: _, _, hy => by simp [wkCs] at hy
  | _, _ :: _, [], _, hy => by simp [wkCs] at hy
theorem wkPs_get {zs vs : List Nat} {bx : Nat → Box} {π : Nat → Option Nat} : ∀ {xs ys : List (Bool × List AC)}, wkPs zs bx π vs xs ys → xs.length = ys.length ∧ ∀ (j : Nat) (y : Bool × List AC), ys[j]? = some y → ∃ x : Bool × List AC, xs[j]? = some x ∧ x.1 = y.1 ∧ wkCs zs bx π vs x.2 y.2
  | [], [], _ => ⟨rfl, fun j y hy => by simp at hy⟩
  | (g, x) :: xs, (g', y) :: ys, h => by
    obtain ⟨h1, h2, h3⟩ := h
    obtain ⟨i1, i2⟩ := wkPs_get h3
    refine ⟨by simp [i1], fun j z hz => ?_⟩
    cases j with
    | zero => simp at hz; subst hz; exact ⟨(g, x), rfl, h1, h2⟩
    | succ j =>
      obtain ⟨q, hq, hr⟩ := i2 j z (by simpa using hz)
      exact ⟨q, by simpa using hq, hr⟩
  | [], _ :: _, h => by simp [wkPs] at h
  | _ :: _, [], h => by simp [wkPs] at h
theorem wk_gv (h : GX E I ρ n st a w) {zs vs : List Nat} {π : Nat → Option Nat} (hvs : ∀ b, b ∈ vs → π b = none) {v : Value} {x y : AV} (hx : GV I ρ v x) (hy : wkV zs st.bx π vs x y) : GV (lend I ρ w st.bx zs) (renR ρ π vs) v y := by
  cases x with
  | one x => cases y with
    | one y => exact wk_gc h hvs hx hy
    | _ => exact hy.elim
  | agg xs => cases y with
    | agg ys => obtain ⟨cs, rfl, hg⟩ := hx; exact ⟨cs, rfl, wk_gcs h hvs hg hy⟩
    | _ => exact hy.elim
  | tup ps => cases y with
    | tup qs =>
      obtain ⟨us, rfl, hl, hp⟩ := hx
      obtain ⟨i1, i2⟩ := wkPs_get (show wkPs zs st.bx π vs ps qs from hy)
      refine ⟨us, rfl, by rw [hl, i1], fun j v q hv hq => ?_⟩
      obtain ⟨p, hpj, e, hw⟩ := i2 j q hq
      have h1 := hp j v p hv hpj
      unfold GP at h1 ⊢
      rw [e] at h1
      split at h1
      · rename_i hb; rw [if_pos hb]; obtain ⟨cs, rfl, hg⟩ := h1; exact ⟨cs, rfl, wk_gcs h hvs hg hw⟩
      · rename_i hb
        rw [if_neg hb]
        obtain ⟨x, hx, hg⟩ := h1
        rw [hx] at hw
        cases hq2 : q.2 with
        | nil => rw [hq2] at hw; exact hw.elim
        | cons y t =>
          rw [hq2] at hw
          cases t with
          | nil => exact ⟨y, rfl, wk_gc h hvs hg hw.1⟩
          | cons z t => exact hw.2.elim
    | _ => exact hy.elim
theorem wks_sound (h : GX E I ρ n st a w) {m : Nat} (hm : E.m ≤ m) {bx' : Nat → Box} {zs vs : List Nat} {π : Nat → Option Nat} (hw : WkS m st.bx bx' zs π vs) :
    GX E (lend I ρ w st.bx zs) (renR ρ π vs) n ⟨fun _ => .none, bx'⟩ a w := by
  have hF := h.freeze zs
  generalize hJ : lend I ρ w st.bx zs = J at *
  have hnd : ∀ b k, (bx' b).uses (renR ρ π vs b) k → (bx' b).isDead = false := fun b k hu => by
    cases hx : bx' b with
    | dead => rw [hx] at hu; exact hu.elim
    | _ => rfl
  have huse : ∀ b k, (bx' b).uses (renR ρ π vs b) k → ∃ c, π b = some c ∧ ((st.frz zs).bx c).uses (ρ c) k := by
    intro b k hu
    have hb := hw.box b
    cases hx : bx' b with
    | var ys =>
      rw [hx] at hu hb
      simp only [wkB] at hb
      split at hb
      · rename_i c hc
        refine ⟨c, hc, ?_⟩
        split at hb
        · rename_i xs hxs
          rw [mem_frz, hxs]
          simp only [renR, hc] at hu
          split <;> exact hu
        · exact hb.elim
      · exact hb.elim
    | dat sz es =>
      rw [hx] at hu hb
      simp only [wkB] at hb
      split at hb
      · rename_i c hc
        refine ⟨c, hc, ?_⟩
        simp only [renR, hc] at hu
        rcases hb.2 with hb2 | ⟨t, hb2⟩
        · rw [mem_frz, if_neg hb.1, hb2]; exact hu
        · rw [mem_frz, if_neg hb.1, hb2]; exact hu
      · rename_i hc
        obtain ⟨cap, hu1, hu2⟩ := hu
        simp only [renR, hc, hb.1, if_true, Option.some.injEq, Prod.mk.injEq] at hu1
        exact absurd hu1.2.symm hu2
    | absent => rw [hx] at hu; exact hu.elim
    | dead => rw [hx] at hu; exact hu.elim
    | frz sz es => rw [hx] at hu; exact hu.elim
  refine { agree := hF.agree, bx := ⟨fun b => ?_, fun b b' k hb hb' => ?_, fun b k hb => ?_⟩, tm := fun t ht => trivial, size := h.size, defers := h.defers, frm := h.frm, own := fun b k hu => ?_, ile := hF.ile, inew := hF.inew, keepρ := fun b hb => ?_ }
  · have hb := hw.box b
    show BoxOK J (renR ρ π vs) w b (bx' b)
    cases hx : bx' b with
    | absent =>
      rw [hx] at hb
      show renR ρ π vs b = none
      simp only [renR, hb.1, hb.2, if_false]
    | dead => trivial
    | var ys =>
      rw [hx] at hb
      simp only [wkB] at hb
      split at hb
      · rename_i c hc
        split at hb
        · rename_i xs hxs
          have hok := h.bx.ok c
          rw [hxs] at hok
          obtain ⟨k, cap, cs, e, hr, hwk, hsz, hcs⟩ := hok
          have hg : GCs J (renR ρ π vs) cs.toList ys := by
            subst hJ
            exact wk_gcs h hw.vir ⟨by simpa using hsz, fun j u x hu hx => hcs j u x (by simpa using hu) hx⟩ hb
          refine ⟨k, cap, cs, e, by simp only [renR, hc]; exact hr, hwk, by simpa using hg.1, fun j u x hu hx => hg.2 j u x (by simpa using hu) hx⟩
        · exact hb.elim
      · exact hb.elim
    | dat sz es =>
      rw [hx] at hb
      simp only [wkB] at hb
      split at hb
      · rename_i c hc
        have hok := hF.bx.ok c
        rcases hb.2 with hb2 | ⟨t, hb2⟩
        · rw [mem_frz, if_neg hb.1, hb2] at hok
          obtain ⟨k, cap, hr, hrest⟩ := hok
          exact ⟨k, cap, by simp only [renR, hc]; exact hr, hrest⟩
        · rw [mem_frz, if_neg hb.1, hb2] at hok
          obtain ⟨k, cap, hr, h1, h2, h3, h4⟩ := hok
          refine ⟨k, cap, by simp only [renR, hc]; exact hr, by simp at h1; omega, h2, fun e he => h3 e (List.mem_append_left _ he), fun h0 => ?_⟩
          obtain ⟨cs, e, g1, g2, g3, g4⟩ := h4 h0
          refine ⟨cs, e, g1, g2, g3, fun i j c' hc' => g4 i j c' ?_⟩
          have hi := getD_nil_some hc'
          rw [← hc']
          congr 1
          simp only [List.getD]
          rw [List.getElem?_append_left hi]
      · rename_i hc
        obtain ⟨hv, rfl⟩ := hb
        exact ⟨0, 0, by simp only [renR, hc, hv, if_true], by simp, by simp [maxLen], by simp, fun h => absurd rfl h⟩
    | frz sz es =>
      rw [hx] at hb
      simp only [wkB] at hb
      split at hb
      · rename_i c hc
        have hok := hF.bx.ok c
        have e : (st.frz zs).bx c = .frz sz es := by
          rw [mem_frz]
          rcases hb with hb | ⟨hz, hb⟩
          · rw [hb]; split <;> rfl
          · rw [hb, if_pos hz]; rfl
        rw [e] at hok
        obtain ⟨k, cap, hr, hrest⟩ := hok
        exact ⟨k, cap, by simp only [renR, hc]; exact hr, hrest⟩
      · exact hb.elim
  · obtain ⟨c, hc, hu⟩ := huse b k hb
    obtain ⟨c', hc', hu'⟩ := huse b' k hb'
    have := hF.bx.inj c c' k hu hu'
    subst this
    exact hw.inj b b' c (hnd b k hb) (hnd b' k hb') hc hc'
  · obtain ⟨c, hc, hu⟩ := huse b k hb
    exact hF.bx.fresh c k hu
  · obtain ⟨c, hc, hu'⟩ := huse b k hu
    exact hF.own c k hu'
  · rcases hw.fix b (by omega) with hf | ⟨hf, hv, hab⟩
    · simp only [renR, hf]; exact h.keepρ b hb
    · have := h.bx.ok b
      rw [hab] at this
      rw [← h.keepρ b hb]
      simp only [renR, hf, hv, if_false]
      exact this.symm
theorem weak_sound (h : GX E I ρ n st a w) {m : Nat} (hm : E.m ≤ m) {S : ASt} (hw : Weak m st S) : ∃ J σ, GX E J σ n S a w := by
  obtain ⟨zs, π, vs, hs, ht⟩ := hw
  have h1 := wks_sound h hm hs
  refine ⟨_, _, { h1 with tm := fun t htn => ?_, bx := h1.bx, agree := h1.agree, size := h1.size, defers := h1.defers, frm := h1.frm, own := h1.own }⟩
  have h2 := ht t
  have h3 := h.tm t htn
  cases hS : S.tm t with
  | none => trivial
  | v g y =>
    rw [hS] at h2
    cases hst : st.tm t with
    | none => rw [hst] at h2; exact h2.elim
    | v g' x =>
      rw [hst] at h2 h3
      obtain ⟨rfl, hv⟩ := h2
      exact ⟨fun hg => wk_gv h hs.vir (h3.1 hg) (hv hg), h3.2⟩
theorem AK.weak {m : Nat} (hm : E.m ≤ m) {K : ASt → Prop} {X : Type} {J : X → Prop} {S : X → ASt} (hk : ∀ st, K st → ∃ x, J x ∧ Weak m st (S x)) {a : Act} {w : World} (h : AK E n K a w) : ∃ x, J x ∧ AK E n (fun st => st = S x) a w := by
  obtain ⟨I, ρ, st, hK, hg⟩ := h
  obtain ⟨x, hj, hw⟩ := hk st hK
  obtain ⟨I', ρ', hg'⟩ := weak_sound hg hm hw
  exact ⟨x, hj, I', ρ', _, rfl, hg'⟩
end
end Go.Ab
end
section
namespace Go.Ab
open Go
inductive ACode where
  | skip
  | reg (ops : List AOper) (keep : List Nat)
  | regD (ops : List (AOper × List Nat)) (keep : List Nat)
  | seq (a b : ACode)
  | cut (a b : ACode)
  | cond (c : Opd) (a b : ACode)
  | block (id : Nat) (a : ACode)
  | loop (a : ACode)
  | exit (id : Nat)
  | ret
  deriving Inhabited
inductive AExit where
  | normal
  | exit (id : Nat)
  | ret
abbrev AQ := AExit → ASt → Prop
def AExit.then (next : ASt → Prop) (Q : AQ) : AQ
  | .normal, st => next st
  | .exit id, st => Q (.exit id) st
  | .ret, st => Q .ret st
def AExit.inBlock (id : Nat) (Q : AQ) : AQ
  | .exit id', st => if id' = id then Q .normal st else Q (.exit id') st
  | .normal, st => Q .normal st
  | .ret, st => Q .ret st
def WLoop (body : AQ → ASt → Prop) (Q : AQ) (st : ASt) : Prop :=
  ∃ (X : Type) (J : X → Prop) (S : X → ASt) (μ : X → Nat), (∃ x, J x ∧ Weak 10 st (S x)) ∧
    ∀ x, J x → body (AExit.then (fun st' => ∃ x', (J x' ∧ μ x' < μ x) ∧ Weak 10 st' (S x')) Q) (S x)
def WCut (wa : AQ → ASt → Prop) (wb : AQ → ASt → Prop) (Q : AQ) (st : ASt) : Prop :=
  ∃ (X : Type) (J : X → Prop) (S : X → ASt), wa (AExit.then (fun st' => ∃ x, J x ∧ Weak 10 st' (S x)) Q) st ∧ ∀ x, J x → wb Q (S x)
def WLoopK (body : AQ → ASt → Prop) (Q : AQ) (st : ASt) (_ : DU body) (_ : DU Q) : Prop := WLoop body Q st
def WCutK (wa wb : AQ → ASt → Prop) (Q : AQ) (st : ASt) (_ : DU wa) (_ : DU wb) (_ : DU Q) : Prop := WCut wa wb Q st
def wpC (P : Program) : ACode → AQ → ASt → Prop
  | .skip, Q, st => Q .normal st
  | .reg ops keep, Q, st => wpOps P ops st fun st => Q .normal (st.keep keep)
  | .regD ops keep, Q, st => wpD P ops 0 [] st fun st => Q .normal (st.keep keep)
  | .seq a b, Q, st => wpC P a (AExit.then (wpC P b Q) Q) st
  | .cut a b, Q, st => WCutK (wpC P a) (wpC P b) Q st .mk .mk .mk
  | .cond c a b, Q, st => (c.ev st.tm).g = true ∧ match (c.ev st.tm).x with
    | .one (.c (.lit (.bool t))) => (t = true → wpC P a Q st) ∧ (t = false → wpC P b Q st)
    | _ => False
  | .block id a, Q, st => wpC P a (AExit.inBlock id Q) st
  | .loop a, Q, st => WLoopK (wpC P a) Q st .mk .mk
  | .exit id, Q, st => Q (.exit id) st
  | .ret, Q, st => Q .ret st
def chkC' (P : Program) (n m : Nat) : Code → ACode → Bool
  | .skip, .skip => true
  | .region _ ops false, .reg xs _ => chkOps P n m ops ops.toList xs
  | .region _ ops true, .regD xs _ => chkRD P n m ops xs && P.follows .mixedOrders
  | .seq a b, .seq x y => chkC' P n m a x && chkC' P n m b y
  | .seq a b, .cut x y => chkC' P n m a x && chkC' P n m b y
  | .cond c a b, .cond d x y => chkOpd n c d && chkC' P n m a x && chkC' P n m b y
  | .block i a, .block j x => i == j && chkC' P n m a x
  | .loop a, .loop x => chkC' P n m a x
  | .exit i, .exit j => i == j
  | .ret, .ret => true
  | _, _ => false
section
variable {P : Program} {E : Env} {n : Nat}
def CQ (E : Env) (n : Nat) (Q : AQ) : Exit → Act → World → Prop
  | .normal, a, w => AK E n (Q .normal) a w
  | .exit id, a, w => AK E n (Q (.exit id)) a w
  | .ret, a, w => AK E n (Q .ret) a w
  | _, _, _ => False
theorem CQ_then {Q : AQ} {next : ASt → Prop} {nx : Act → World → Prop} (h : ∀ a w, AK E n next a w → nx a w) (e : Exit) (a : Act) (w : World) (hq : CQ E n (AExit.then next Q) e a w) : Exit.then nx (CQ E n Q) e a w := by
  cases e with
  | normal => exact h a w hq
  | exit id => exact hq
  | ret => exact hq
  | goto l => exact hq
  | panic c => exact hq
  | outgrown => exact hq
theorem CQ_inBlock {Q : AQ} {id : Nat} (e : Exit) (a : Act) (w : World) (hq : CQ E n (AExit.inBlock id Q) e a w) : Exit.inBlock id (CQ E n Q) e a w := by
  cases e with
  | normal => exact hq
  | exit id' =>
    simp only [Exit.inBlock]
    by_cases h : id' = id
    · rw [if_pos h]; exact AK.imp (fun st (hs : AExit.inBlock id Q (.exit id') st) => by simp only [AExit.inBlock, if_pos h] at hs; exact hs) hq
    · rw [if_neg h]; exact AK.imp (fun st (hs : AExit.inBlock id Q (.exit id') st) => by simp only [AExit.inBlock, if_neg h] at hs; exact hs) hq
  | ret => exact hq
  | goto l => exact hq
  | panic c => exact hq
  | outgrown => exact hq
theorem GX.keep {I : IH} {ρ : Ren} {st : ASt} {a : Act} {w : World} (h : GX E I ρ n st a w) (ts : List Nat) : GX E I ρ n (st.keep ts) a w :=
  have ht : ∀ t, t < n → GSl I ρ (a.tmps.getD t undef) ((st.keep ts).tm t) := fun t ht => by
    simp only [ASt.keep]
    split
    · exact h.tm t ht
    · trivial
  { h with tm := ht, bx := h.bx, agree := h.agree, size := h.size, defers := h.defers, frm := h.frm, own := h.own }
theorem wp_loop_count {Q : Exit → Act → World → Prop} {a : Act} {w : World} {c : Code} (Inv : Nat → Act → World → Prop) (h0 : ∃ k, Inv k a w)
    (round : ∀ k a w, Inv k a w → c.wp P (Exit.then (fun a' w' => ∃ k', k' < k ∧ Inv k' a' w') Q) a w) : (Code.loop c).wp P Q a w := by
  have hmin : ∀ a w, (∃ k, Inv k a w) → ∃ k, Inv k a w ∧ ∀ j, j < k → ¬ Inv j a w := by
    intro a w ⟨k, hk⟩
    induction k using Nat.strongRecOn with
    | _ k ih =>
      by_cases h : ∃ j, j < k ∧ Inv j a w
      · obtain ⟨j, hj, hi⟩ := h; exact ih j hj hi
      · exact ⟨k, hk, fun j hj hi => h ⟨j, hj, hi⟩⟩
  let μ : Act → World → Nat := fun a w => open Classical in if h : ∃ k, Inv k a w then (hmin a w h).choose else 0
  have hμ : ∀ a w, (∃ k, Inv k a w) → Inv (μ a w) a w ∧ ∀ j, Inv j a w → μ a w ≤ j := by
    intro a w h
    have hs := (hmin a w h).choose_spec
    simp only [μ, dif_pos h]
    exact ⟨hs.1, fun j hj => Nat.le_of_not_lt fun hlt => hs.2 j hlt hj⟩
  refine wp_loop (fun a w => ∃ k, Inv k a w) μ h0 fun a w h => ?_
  refine wp_mono (round _ a w (hμ a w h).1) fun e a' w' hq => ?_
  cases e with
  | normal =>
    obtain ⟨k', hlt, hk⟩ := hq
    exact ⟨⟨k', hk⟩, Nat.lt_of_le_of_lt ((hμ a' w' ⟨k', hk⟩).2 k' hk) hlt⟩
  | exit id => exact hq
  | ret => exact hq
  | goto l => exact hq
  | panic c => exact hq
  | outgrown => exact hq
theorem code_sound (hm : E.m ≤ 10) : ∀ {ac : ACode} {c : Code} {Q : AQ} {a : Act} {w : World}, chkC' P n E.m c ac = true → AK E n (wpC P ac Q) a w → c.wp P (CQ E n Q) a w
  | .skip, c, Q, a, w, hc, h => by
    unfold chkC' at hc; split at hc <;> first | contradiction | skip
    exact wp_skip h
  | .reg xs keep, c, Q, a, w, hc, h => by
    unfold chkC' at hc; split at hc <;> first | contradiction | skip
    rename_i heq; cases heq
    refine wp_region_list (regS_sound hm hc h fun a w hk => ?_)
    obtain ⟨I, ρ, st, hk, hg⟩ := hk
    exact ⟨I, ρ, _, hk, hg.keep keep⟩
  | .regD xs keep, c, Q, a, w, hc, h => by
    unfold chkC' at hc; split at hc <;> first | contradiction | skip
    rename_i heq; cases heq
    simp only [Bool.and_eq_true] at hc
    refine regD_sound hm hc.2 hc.1 (fun a w hk => ?_) h
    obtain ⟨I, ρ, st, hk, hg⟩ := hk
    exact ⟨I, ρ, _, hk, hg.keep keep⟩
  | .seq x y, c, Q, a, w, hc, h => by
    unfold chkC' at hc; split at hc <;> first | contradiction | skip
    rename_i heq; cases heq
    simp only [Bool.and_eq_true] at hc
    exact wp_seq (wp_mono (code_sound hm hc.1 h) (CQ_then fun a w hk => code_sound hm hc.2 hk))
  | .cut x y, c, Q, a, w, hc, h => by
    unfold chkC' at hc; split at hc <;> first | contradiction | skip
    rename_i heq; cases heq
    simp only [Bool.and_eq_true] at hc
    obtain ⟨I, ρ, st, ⟨X, J, S, h1, h2⟩, hg⟩ := h
    refine wp_seq (wp_mono (code_sound hm hc.1 ⟨I, ρ, st, h1, hg⟩) (CQ_then fun a w hk => ?_))
    obtain ⟨x, hj, I', ρ', st', rfl, hg'⟩ := AK.weak hm (fun st h => h) hk
    exact code_sound hm hc.2 ⟨I', ρ', _, h2 x hj, hg'⟩
  | .cond d x y, c, Q, a, w, hc, h => by
    unfold chkC' at hc; split at hc <;> first | contradiction | skip
    rename_i heq; cases heq
    simp only [Bool.and_eq_true] at hc
    obtain ⟨I, ρ, st, ⟨h1, h2⟩, hg⟩ := h
    have hv := opd_v hg hc.1.1 h1
    unfold avOf at hv
    split at h2
    · rename_i t ht
      rw [ht] at hv
      exact wp_cond_split (gv_bool hv) (fun e => code_sound hm hc.1.2 ⟨I, ρ, st, h2.1 e, hg⟩) (fun e => code_sound hm hc.2 ⟨I, ρ, st, h2.2 e, hg⟩)
    · exact h2.elim
  | .block id x, c, Q, a, w, hc, h => by
    unfold chkC' at hc; split at hc <;> first | contradiction | skip
    rename_i heq; cases heq
    simp only [Bool.and_eq_true, beq_iff_eq] at hc
    obtain ⟨rfl, hc⟩ := hc
    exact wp_block (wp_mono (code_sound hm hc h) CQ_inBlock)
  | .loop x, c, Q, a, w, hc, h => by
    unfold chkC' at hc; split at hc <;> first | contradiction | skip
    rename_i heq; cases heq
    obtain ⟨I, ρ, st, ⟨X, J, S, μ, ⟨x0, hj0, hw0⟩, hr⟩, hg⟩ := h
    refine wp_loop_count (fun k a w => ∃ x, J x ∧ μ x = k ∧ AK E n (fun st => st = S x) a w) ?_ ?_
    · obtain ⟨I', ρ', hg'⟩ := weak_sound hg hm hw0
      exact ⟨_, x0, hj0, rfl, I', ρ', _, rfl, hg'⟩
    · rintro k a w ⟨x, hj, rfl, I, ρ, st, rfl, hg⟩
      refine wp_mono (code_sound hm hc ⟨I, ρ, _, hr x hj, hg⟩) (CQ_then fun a w hk => ?_)
      obtain ⟨x', ⟨hj', hlt⟩, hk'⟩ := AK.weak (J := fun x' => J x' ∧ μ x' < μ x) hm (fun st h => h) hk
      exact ⟨_, hlt, x', hj', rfl, hk'⟩
  | .exit id, c, Q, a, w, hc, h => by
    unfold chkC' at hc; split at hc <;> first | contradiction | skip
    rename_i heq; cases heq
    simp only [beq_iff_eq] at hc
    subst hc
    exact wp_exit h
  | .ret, c, Q, a, w, hc, h => by
    unfold chkC' at hc; split at hc <;> first | contradiction | skip
    exact wp_ret h
end
end Go.Ab
end
section
namespace Go.Ab
open Go
inductive ARes where
  | tmp (t : Nat)
  | cell (t : Nat) (agg : Bool) (k : Nat)
  deriving Inhabited
def ARes.ok (st : ASt) : ARes → Prop
  | .tmp t => (st.tm t).g = true
  | .cell t agg k => (st.tm t).g = true ∧ (loadV agg k (st.tm t).x st.bx).vc
def ARes.val (st : ASt) : ARes → AV
  | .tmp t => (st.tm t).x
  | .cell t agg k => (loadV agg k (st.tm t).x st.bx).v
def resOKs (st : ASt) : List ARes → Prop
  | [] => True
  | r :: rs => r.ok st ∧ (r.val st).flat ∧ resOKs st rs
def partOf : AV → Bool × List AC
  | .one x => (false, [x])
  | .agg xs => (true, xs)
  | .tup _ => (false, [])
def resParts (st : ASt) : List ARes → List (Bool × List AC)
  | [] => []
  | r :: rs => partOf (r.val st) :: resParts st rs
def retV (st : ASt) : List ARes → AV
  | [r] => r.val st
  | rs => .tup (resParts st rs)
def RetOK (rs : List ARes) (m : Nat) (post : AV → List Box → Prop) (st : ASt) : Prop :=
  resOKs st rs ∧ ∃ r bs zs π vs, post r bs ∧ WkS m st.bx (bxL bs) zs π vs ∧ wkV zs st.bx π vs (retV st rs) r
def chkR (P : Program) (n : Nat) : List ResultVar → List ARes → Bool
  | [], [] => true
  | .tmp t :: xs, .tmp s :: ys => t == s && decide (t < n) && chkR P n xs ys
  | .cell a t :: xs, .cell s agg k :: ys => a == s && decide (a < n) && tyOK P t agg k && chkR P n xs ys
  | _, _ => false
section
variable {P : Program} {E : Env} {I : IH} {ρ : Ren} {n : Nat} {st : ASt} {a : Act} {w : World}
theorem loadV_ptr {agg : Bool} {k : Nat} {p : AV} {pv : Value} {bx : Nat → Box} (hp : GV I ρ pv p) (hvc : (loadV agg k p bx).vc) : ∃ q, pv = .pointer (some q) := by
  cases p with
  | one p =>
    cases p with
    | ptr b off => obtain ⟨k, cap, _, rfl⟩ := hp; exact ⟨_, rfl⟩
    | aptr b i sz off => obtain ⟨k, cap, _, rfl⟩ := hp; exact ⟨_, rfl⟩
    | eptr cs => obtain ⟨q, rfl, _⟩ := hp; exact ⟨_, rfl⟩
    | _ => exact hvc.elim
  | _ => exact hvc.elim
def resG (tmps : Array Value) (x : ResultVar) : Sem Value := match x with
  | ResultVar.tmp t => pure (tmps.getD t undef)
  | ResultVar.cell b t => do loadVar t (← asAddr (tmps.getD b undef))
theorem results_eq (fn : Func) (tmps : Array Value) : results fn tmps = (do
    let vs ← fn.results.mapM (resG tmps)
    pure (if h : vs.size = 1 then vs[0] else .tuple vs)) := by
  unfold results
  congr 1
theorem res_runs (h : GX E I ρ n st a w) : ∀ {xs : List ResultVar} {rs : List ARes}, chkR P n xs rs = true → resOKs st rs →
    ∃ vs : List Value, (xs.mapM (resG a.tmps)).run P w = .ok vs w ∧ vs.length = rs.length ∧ ∀ (j : Nat) (v : Value) (r : ARes), vs[j]? = some v → rs[j]? = some r → GV I ρ v (r.val st)
  | [], [], _, _ => ⟨[], by simp, rfl, fun j v r hv => by simp at hv⟩
  | x :: xs, r :: rs, hc, hok => by
    obtain ⟨h1, h2, h3⟩ := hok
    have key : ∃ v, (resG a.tmps x).run P w = .ok v w ∧ GV I ρ v (r.val st) ∧ chkR P n xs rs = true := by
      cases x with
      | tmp t =>
        cases r with
        | tmp s =>
          simp only [chkR, Bool.and_eq_true, beq_iff_eq, decide_eq_true_eq] at hc
          obtain ⟨⟨rfl, hlt⟩, hc⟩ := hc
          have ht := h.tm t hlt
          simp only [ARes.ok] at h1
          refine ⟨a.tmps.getD t undef, rfl, ?_, hc⟩
          simp only [ARes.val]
          cases hs : st.tm t with
          | none => rw [hs] at h1; cases h1
          | v g x => rw [hs] at h1 ht; exact ht.1 h1
        | cell s agg k => simp [chkR] at hc
      | cell b t =>
        cases r with
        | tmp s => simp [chkR] at hc
        | cell s agg k =>
          simp only [chkR, Bool.and_eq_true, beq_iff_eq, decide_eq_true_eq] at hc
          obtain ⟨⟨⟨rfl, hlt⟩, hty⟩, hc⟩ := hc
          have ht := h.tm b hlt
          obtain ⟨hg, hvc⟩ := h1
          have hv : GV I ρ (a.tmps.getD b undef) (st.tm b).x := by
            cases hs : st.tm b with
            | none => rw [hs] at hg; cases hg
            | v g x => rw [hs] at hg ht; exact ht.1 hg
          obtain ⟨q, hq⟩ := loadV_ptr hv hvc
          obtain ⟨v, hrun, hgv⟩ := loadV_run (P := P) h hty hv hvc
          refine ⟨v, ?_, hgv, hc⟩
          unfold resG
          simp only [hq] at hrun ⊢
          simpa [Instr.loadAt, Instr.sureAddr, asAddr] using hrun
    obtain ⟨v, hv, hg, hc'⟩ := key
    obtain ⟨vs, hvs, hl, hgs⟩ := res_runs h hc' h3
    refine ⟨v :: vs, ?_, by simp [hl], fun j u r' hu hr => ?_⟩
    · rw [List.mapM_cons]
      simp [hv, hvs]
    · cases j with
      | zero => simp at hu hr; subst hu; subst hr; exact hg
      | succ j => exact hgs j u r' (by simpa using hu) (by simpa using hr)
  | [], _ :: _, hc, _ => by simp [chkR] at hc
  | x :: _, [], hc, _ => by cases x <;> simp [chkR] at hc
def slots0 : List AV → Nat → List (Nat × Slot)
  | [], _ => []
  | x :: xs, i => (i, .v true x) :: slots0 xs (i + 1)
def boxes0 : List Box → Nat → List (Nat × Box)
  | [], _ => []
  | x :: xs, i => (i, x) :: boxes0 xs (i + 1)
theorem look_slots0 : ∀ {xs : List AV} {i t : Nat}, lookT (slots0 xs i) t = if i ≤ t then (match xs[t - i]? with | some x => .v true x | none => .none) else .none
  | [], i, t => by simp [slots0, lookT]
  | x :: xs, i, t => by
    simp only [slots0, lookT]
    by_cases h : i = t
    · subst h; simp
    · rw [if_neg h, look_slots0 (xs := xs)]
      by_cases h' : i ≤ t
      · have e : t - i = (t - (i + 1)) + 1 := by omega
        rw [if_pos h', if_pos (by omega), e]; simp
      · rw [if_neg h', if_neg (by omega)]
theorem look_boxes0 : ∀ {xs : List Box} {i t : Nat}, lookB (boxes0 xs i) t = if i ≤ t then xs.getD (t - i) .absent else .absent
  | [], i, t => by simp [boxes0, lookB]
  | x :: xs, i, t => by
    simp only [boxes0, lookB]
    by_cases h : i = t
    · subst h; simp
    · rw [if_neg h, look_boxes0 (xs := xs)]
      by_cases h' : i ≤ t
      · have e : t - i = (t - (i + 1)) + 1 := by omega
        rw [if_pos h', if_pos (by omega), e]; simp
      · rw [if_neg h', if_neg (by omega)]
def st0 (args : List AV) (fp : List Box) : ASt := ASt.of (slots0 args 0) (boxes0 fp 0)
theorem st0_bx (args : List AV) (fp : List Box) : (st0 args fp).bx = bxL fp := by
  funext b
  unfold st0
  rw [of_bx, look_boxes0]
  simp [bxL]
def QF (rs : List ARes) (m : Nat) (post : AV → List Box → Prop) : AQ
  | .normal, st => RetOK rs m post st
  | .ret, st => RetOK rs m post st
  | .exit _, _ => False
def chkF (P : Program) (f : FuncId) (k m : Nat) (ac : ACode) (rs : List ARes) : Bool :=
  match P.funcs[f]? with
  | some fn => match fn.body with
    | some c => decide (k ≤ fn.ntmps) && decide (m ≤ 10) && chkC' P fn.ntmps m c ac && chkR P fn.ntmps fn.results.toList rs
    | none => false
  | none => false
theorem fun_sound {f : FuncId} {ac : ACode} {rs : List ARes} {args : List AV} {fp : List Box} {post : AV → List Box → Prop} (hc : chkF P f args.length fp.length ac rs = true)
    (hwp : wpC P ac (QF rs fp.length post) (st0 args fp)) : ACalls P f args fp post := by
  unfold chkF at hc
  split at hc
  · rename_i fn hf
    split at hc
    · rename_i c hb
      simp only [Bool.and_eq_true, decide_eq_true_eq] at hc
      obtain ⟨⟨⟨hk, hm⟩, hcc⟩, hcr⟩ := hc
      intro I ρ w vs hA hB hV
      let E : Env := ⟨w, I, fun k => ∃ b, (bxL fp b).uses (ρ b) k, ρ, fp.length⟩
      refine calls_of_wp hf hb ?_
      have hlen : vs.length = args.length := hV.1
      have hG : GX E I ρ fn.ntmps (st0 args fp) { tmps := vs.toArray ++ Array.replicate (fn.ntmps - vs.toArray.size) undef, defers := [] } w := by
        refine { agree := hA, bx := by rw [st0_bx]; exact hB, tm := fun t ht => ?_, size := by simp; omega, defers := rfl, frm := Frm.refl _ _, own := fun b k hu => ?_, ile := IH.le_refl _, inew := fun k _ _ => rfl, keepρ := fun b _ => rfl }
        · unfold st0
          rw [of_tm, look_slots0]
          simp only [Nat.zero_le, if_true, Nat.sub_zero]
          cases hx : args[t]? with
          | none => trivial
          | some x =>
            have hlt := (List.getElem?_eq_some_iff.1 hx).1
            have hvt : vs[t]? = some vs[t] := List.getElem?_eq_getElem (by omega)
            refine ⟨fun _ => ?_, fun e => by cases e⟩
            have hg := hV.2 t _ x hvt hx
            have e : ((vs.toArray ++ Array.replicate (fn.ntmps - vs.toArray.size) undef).getD t undef) = vs[t] := by
              rw [Array.getD_eq_getD_getElem?, Array.getElem?_append_left (by simp; omega)]
              simp [hvt]
            rw [e]
            exact hg
        · right
          rw [st0_bx] at hu
          exact ⟨b, hu⟩
      refine wp_mono (code_sound (E := E) hm hcc ⟨I, ρ, _, hwp, hG⟩) fun e a w' hq => ?_
      have key : AK E fn.ntmps (RetOK rs fp.length post) a w' → a.defers = [] ∧ ∃ v, (results fn a.tmps).run P w' = .ok v w' ∧ ∃ (v' : Value) (J : IH) (σ : Ren) (r : AV) (bs : List Box), Ending.returned v = .returned v' ∧ post r bs ∧ GV J σ v' r ∧ Agree J w' ∧ BX J σ w' (bxL bs) ∧
          I.le J ∧ Frm w w' (fun k => ∃ b, (bxL fp b).uses (ρ b) k) ∧
          (∀ b k, (bxL bs b).uses (σ b) k → w.heap.size ≤ k ∨ ∃ b', (bxL fp b').uses (ρ b') k) ∧
          (∀ k, k < w.heap.size → (¬ ∃ b, (bxL fp b).uses (ρ b) k) → J k = I k) ∧
          (∀ b, b < fp.length → σ b = ρ b) := by
        rintro ⟨I', ρ', st, ⟨hok, r, bs, zs, π, us, hp, hws, hwv⟩, hg⟩
        obtain ⟨ws, hrun, hl, hgs⟩ := res_runs hg hcr hok
        have hv : ∃ v, (results fn a.tmps).run P w' = .ok v w' ∧ GV I' ρ' v (retV st rs) := by
          have hrun' : (fn.results.mapM (resG a.tmps)).run P w' = .ok ws.toArray w' := by
            rw [Array.mapM_eq_mapM_toList]
            simp [hrun]
          rw [results_eq]
          by_cases h1 : ∃ r0, rs = [r0]
          · obtain ⟨r0, rfl⟩ := h1
            match ws, hl, hgs, hrun' with
            | [v0], _, hgs, hrun' => exact ⟨v0, by simp [hrun'], hgs 0 v0 r0 rfl rfl⟩
          · have hne : ws.length ≠ 1 := by
              intro h
              rw [hl] at h
              match rs, h, h1 with
              | [r0], _, h1 => exact h1 ⟨r0, rfl⟩
            have hrv : retV st rs = .tup (resParts st rs) := by
              match rs, h1 with
              | [], _ => rfl
              | [r0], h1 => exact absurd ⟨r0, rfl⟩ h1
              | _ :: _ :: _, _ => rfl
            refine ⟨.tuple ws.toArray, by simp [hrun', hne], ?_⟩
            rw [hrv]
            have hparts : ∀ {rs : List ARes}, resOKs st rs → (resParts st rs).length = rs.length ∧ ∀ (j : Nat) (p : Bool × List AC), (resParts st rs)[j]? = some p → ∃ r, rs[j]? = some r ∧ p = partOf (r.val st) ∧ (r.val st).flat := by
              intro rs
              induction rs with
              | nil => intro _; exact ⟨rfl, fun j p hp => by simp [resParts] at hp⟩
              | cons r0 rs ih =>
                rintro ⟨_, h2, h3⟩
                obtain ⟨j1, j2⟩ := ih h3
                refine ⟨by simp [resParts, j1], fun j p hp => ?_⟩
                cases j with
                | zero => simp [resParts] at hp; exact ⟨r0, rfl, hp.symm, h2⟩
                | succ j => obtain ⟨r', hr', h'⟩ := j2 j p (by simpa [resParts] using hp); exact ⟨r', by simpa using hr', h'⟩
            obtain ⟨p1, p2⟩ := hparts hok
            refine ⟨ws.toArray, rfl, by simp [hl, p1], fun j v p hv hp => ?_⟩
            obtain ⟨r', hr', rfl, hfl⟩ := p2 j p hp
            have hgv := hgs j v r' (by simpa using hv) hr'
            unfold GP
            cases hval : r'.val st with
            | one x => rw [hval] at hgv; simp only [partOf]; exact ⟨x, rfl, hgv⟩
            | agg xs => rw [hval] at hgv; simp only [partOf, if_true]; exact hgv
            | tup q => rw [hval] at hfl; exact hfl.elim
        obtain ⟨v, hrv, hgv⟩ := hv
        have hS := wks_sound hg (Nat.le_refl _) hws
        refine ⟨hg.defers, v, hrv, v, _, _, r, bs, rfl, hp, wk_gv hg hws.vir hgv hwv, hS.agree, hS.bx, hS.ile, hS.frm, hS.own, hS.inew, hS.keepρ⟩
      cases e with
      | normal => exact key hq
      | ret => exact key hq
      | exit id => obtain ⟨_, _, _, h, _⟩ := hq; exact h.elim
      | goto l => exact hq.elim
      | panic ch => exact hq.elim
      | outgrown => exact hq.elim
    · cases hc
  · cases hc
end
end Go.Ab
end
section
namespace Go.Ab
open Go
def piL : List (Nat × Nat) → Nat → Option Nat
  | [], _ => none
  | (b, c) :: r, x => if b = x then some c else piL r x
def wkTs (zs : List Nat) (bx : Nat → Box) (π : Nat → Option Nat) (vs : List Nat) (ts0 : List (Nat × Slot)) : List (Nat × Slot) → Prop
  | [] => True
  | (t, s) :: r => wkSl zs bx π vs (lookT ts0 t) s ∧ wkTs zs bx π vs ts0 r
def wkBs (zs : List Nat) (bx : Nat → Box) (π : Nat → Option Nat) (vs : List Nat) : List (Nat × Box) → Prop
  | [] => True
  | (b, x) :: r => wkB zs bx π vs b x ∧ wkBs zs bx π vs r
def Box.isAbs : Box → Bool
  | .absent => true
  | _ => false
def nodupB : List Nat → Bool
  | [] => true
  | x :: r => !r.contains x && nodupB r
def fst' {α : Type} : List (Nat × α) → List Nat
  | [] => []
  | x :: r => x.1 :: fst' r
def snd' : List (Nat × Nat) → List Nat
  | [] => []
  | x :: r => x.2 :: snd' r
def keysOK (m : Nat) (bs0 bs : List (Nat × Box)) (pi : List (Nat × Nat)) (vs : List Nat) : Bool :=
  nodupB (snd' (pi.filter fun p => !(lookB bs p.1).isDead)) && nodupB (fst' pi) && (fst' pi).all (fun b => (fst' bs).contains b) && vs.all (fun b => (fst' bs).contains b && !(fst' pi).contains b) &&
    (List.range m).all fun b => piL pi b == some b || (!(fst' pi).contains b && !vs.contains b && (lookB bs0 b).isAbs)
theorem nodupB_iff {l : List Nat} : nodupB l = true ↔ l.Nodup := by
  induction l with
  | nil => simp [nodupB]
  | cons x r ih => simp [nodupB, ih]
theorem piL_some : ∀ {pi : List (Nat × Nat)} {b c : Nat}, piL pi b = some c → (b, c) ∈ pi
  | [], _, _, h => by cases h
  | (x, y) :: r, b, c, h => by
    simp only [piL] at h
    split at h
    · rename_i e; subst e; cases h; exact List.mem_cons_self ..
    · exact List.mem_cons_of_mem _ (piL_some h)
theorem fst'_mem {α : Type} : ∀ {l : List (Nat × α)} {b : Nat}, b ∈ fst' l ↔ ∃ x, (b, x) ∈ l
  | [], b => by simp [fst']
  | (a, y) :: r, b => by
    simp only [fst', List.mem_cons, fst'_mem (l := r)]
    constructor
    · rintro (h | ⟨x, hx⟩)
      · subst h; exact ⟨y, .inl rfl⟩
      · exact ⟨x, .inr hx⟩
    · rintro ⟨x, h | h⟩
      · cases h; exact .inl rfl
      · exact .inr ⟨x, h⟩
theorem snd'_eq : ∀ {l : List (Nat × Nat)}, snd' l = l.map (·.2)
  | [] => rfl
  | x :: r => by simp [snd', snd'_eq (l := r)]
theorem piL_none {pi : List (Nat × Nat)} {b : Nat} (h : b ∉ fst' pi) : piL pi b = none := by
  cases hp : piL pi b with
  | none => rfl
  | some c => exact absurd (fst'_mem.2 ⟨c, piL_some hp⟩) h
theorem wkBs_mem {zs vs : List Nat} {bx : Nat → Box} {π : Nat → Option Nat} : ∀ {bs : List (Nat × Box)}, wkBs zs bx π vs bs → ∀ b x, (b, x) ∈ bs → wkB zs bx π vs b x
  | [], _, _, _, h => by cases h
  | (c, y) :: r, hw, b, x, h => by
    rcases List.mem_cons.1 h with h | h
    · cases h; exact hw.1
    · exact wkBs_mem hw.2 b x h
theorem wkTs_look {zs vs : List Nat} {bx : Nat → Box} {π : Nat → Option Nat} {ts0 : List (Nat × Slot)} : ∀ {ts : List (Nat × Slot)}, wkTs zs bx π vs ts0 ts → ∀ t, wkSl zs bx π vs (lookT ts0 t) (lookT ts t)
  | [], _, _ => by simp [lookT, wkSl]
  | (c, y) :: r, hw, t => by
    simp only [lookT]
    split
    · rename_i e; subst e; exact hw.1
    · exact wkTs_look hw.2 t
theorem lookB_mem {bs : List (Nat × Box)} {b : Nat} : (b, lookB bs b) ∈ bs ∨ (b ∉ fst' bs ∧ lookB bs b = .absent) := by
  induction bs with
  | nil => right; simp [fst', lookB]
  | cons p r ih =>
    obtain ⟨c, y⟩ := p
    simp only [lookB]
    by_cases h : c = b
    · subst h; left; simp
    · rw [if_neg h]
      rcases ih with ih | ⟨h1, h2⟩
      · left; exact List.mem_cons_of_mem _ ih
      · right; refine ⟨?_, h2⟩; simp only [fst', List.mem_cons, not_or]; exact ⟨fun e => h e.symm, h1⟩
theorem wks_of {m : Nat} {bs0 bs : List (Nat × Box)} (zs : List Nat) (pi : List (Nat × Nat)) (vs : List Nat) (hk : keysOK m bs0 bs pi vs = true) (hb : wkBs zs (lookB bs0) (piL pi) vs bs) : WkS m (lookB bs0) (lookB bs) zs (piL pi) vs := by
  simp only [keysOK, Bool.and_eq_true, List.all_eq_true, Bool.or_eq_true, beq_iff_eq, Bool.not_eq_true', List.mem_range, nodupB_iff, List.contains_iff_mem] at hk
  obtain ⟨⟨⟨⟨h1, _⟩, h3⟩, h4⟩, h5⟩ := hk
  have hmemF : ∀ {l : List Nat} {x : Nat}, l.contains x = false → x ∉ l := fun h hm => by
    rw [List.contains_iff_mem.2 hm] at h; cases h
  refine ⟨fun b => ?_, fun b b' c hd1 hd2 hb1 hb2 => ?_, fun b hv => piL_none (hmemF (h4 b hv).2), fun b hlt => ?_⟩
  · rcases lookB_mem (bs := bs) (b := b) with h | ⟨h, e⟩
    · exact wkBs_mem hb b _ h
    · rw [e]
      exact ⟨piL_none fun hm => h (h3 b hm), fun hm => h (h4 b hm).1⟩
  · have m1 : (b, c) ∈ pi.filter fun p => !(lookB bs p.1).isDead := List.mem_filter.2 ⟨piL_some hb1, by simp [hd1]⟩
    have m2 : (b', c) ∈ pi.filter fun p => !(lookB bs p.1).isDead := List.mem_filter.2 ⟨piL_some hb2, by simp [hd2]⟩
    rw [snd'_eq] at h1
    obtain ⟨i, hi, ei⟩ := List.getElem_of_mem m1
    obtain ⟨j, hj, ej⟩ := List.getElem_of_mem m2
    have hpw := List.pairwise_iff_getElem.1 h1
    rcases Nat.lt_trichotomy i j with h | h | h
    · have := hpw i j (by simpa using hi) (by simpa using hj) h
      simp [ei, ej] at this
    · subst h; rw [ei] at ej; cases ej; rfl
    · have := hpw j i (by simpa using hj) (by simpa using hi) h
      simp [ei, ej] at this
  · rcases h5 b hlt with h | ⟨⟨h, h'⟩, h''⟩
    · exact .inl h
    · refine .inr ⟨piL_none (hmemF h), hmemF h', ?_⟩
      cases hx : lookB bs0 b with
      | absent => rfl
      | _ => rw [hx] at h''; cases h''
theorem of_bx' (ts : List (Nat × Slot)) (bs : List (Nat × Box)) : (ASt.of ts bs).bx = lookB bs := funext fun b => of_bx ts bs b
theorem weak_of {m : Nat} {ts0 ts : List (Nat × Slot)} {bs0 bs : List (Nat × Box)} (zs : List Nat) (pi : List (Nat × Nat)) (vs : List Nat) (hk : keysOK m bs0 bs pi vs = true)
    (hb : wkBs zs (lookB bs0) (piL pi) vs bs) (ht : wkTs zs (lookB bs0) (piL pi) vs ts0 ts) : Weak m (ASt.of ts0 bs0) (ASt.of ts bs) := by
  refine ⟨zs, piL pi, vs, ?_, fun t => ?_⟩
  · rw [of_bx', of_bx']; exact wks_of zs pi vs hk hb
  · rw [of_bx', of_tm, of_tm]; exact wkTs_look ht t
def dC (bx : Nat → Box) : AC → AC → Prop
  | .c x, .c y => x = y
  | .nsl sz, .c y => y = .sl sz []
  | .own b n sz, .c y => match (bx b).arr with
    | some (sz', es) => sz' = sz ∧ n ≤ es.length ∧ y = .sl sz (es.take n)
    | none => False
  | _, _ => False
def dCs (bx : Nat → Box) : List AC → List AC → Prop
  | [], [] => True
  | x :: xs, y :: ys => dC bx x y ∧ dCs bx xs ys
  | _, _ => False
def dPs (bx : Nat → Box) : List (Bool × List AC) → List (Bool × List AC) → Prop
  | [], [] => True
  | (g, x) :: xs, (g', y) :: ys => g = g' ∧ dCs bx x y ∧ dPs bx xs ys
  | _, _ => False
def dV (bx : Nat → Box) : AV → AV → Prop
  | .one x, .one y => dC bx x y
  | .agg xs, .agg ys => dCs bx xs ys
  | .tup xs, .tup ys => dPs bx xs ys
  | _, _ => False
theorem dC_wk {bx : Nat → Box} {zs : List Nat} {x y : AC} (h : dC bx x y) (hz : ∀ b, b ∈ ownsOf [x] → b ∈ zs) : wkC zs bx (fun _ => none) [] x y := by
  cases x <;> cases y <;> simp only [dC] at h <;> try exact h
  exact ⟨hz _ (by simp [ownsOf]), h⟩
theorem dCs_wk {bx : Nat → Box} {zs : List Nat} : ∀ {xs ys : List AC}, dCs bx xs ys → (∀ b, b ∈ ownsOf xs → b ∈ zs) → wkCs zs bx (fun _ => none) [] xs ys
  | [], [], _, _ => trivial
  | x :: xs, y :: ys, h, hz => ⟨dC_wk h.1 fun b hb => hz b (ownsOf_cons.2 (.inl hb)), dCs_wk h.2 fun b hb => hz b (ownsOf_cons.2 (.inr hb))⟩
  | [], _ :: _, h, _ => h.elim
  | _ :: _, [], h, _ => h.elim
theorem dPs_wk {bx : Nat → Box} {zs : List Nat} : ∀ {xs ys : List (Bool × List AC)}, dPs bx xs ys → (∀ b, b ∈ (AV.tup xs).owns → b ∈ zs) → wkPs zs bx (fun _ => none) [] xs ys
  | [], [], _, _ => trivial
  | (g, x) :: xs, (g', y) :: ys, h, hz =>
    ⟨h.1, dCs_wk h.2.1 fun b hb => hz b (by simp only [AV.owns, List.flatMap_cons, List.mem_append]; exact .inl hb), dPs_wk h.2.2 fun b hb => hz b (by simp only [AV.owns, List.flatMap_cons, List.mem_append] at hb ⊢; exact .inr hb)⟩
  | [], _ :: _, h, _ => h.elim
  | _ :: _, [], h, _ => h.elim
theorem dV_wk {bx : Nat → Box} {x y : AV} (h : dV bx x y) : wkV x.owns bx (fun _ => none) [] x y := by
  cases x <;> cases y <;> simp only [dV] at h <;> first | exact h.elim | skip
  · exact dC_wk h fun b hb => hb
  · exact dCs_wk h fun b hb => hb
  · exact dPs_wk h fun b hb => hb
def PEnd (rs : List ARes) (r : AV) (st : ASt) : Prop := resOKs st rs ∧ dV st.bx (retV st rs) r
def QP (rs : List ARes) (r : AV) : AQ
  | .normal, st => PEnd rs r st
  | .ret, st => PEnd rs r st
  | .exit _, _ => False
theorem PEnd.ret {rs : List ARes} {r : AV} {st : ASt} (h : PEnd rs r st) : RetOK rs 0 (fun r' bs => r' = r ∧ bs = []) st :=
  ⟨h.1, r, [], _, _, [], ⟨rfl, rfl⟩, ⟨fun b => by rw [bxL_nil]; exact ⟨rfl, by simp⟩, fun b b' c _ _ h => by simp at h, fun b _ => rfl, fun b hb => by omega⟩, dV_wk h.2⟩
section
variable {P : Program}
theorem wpOps_mono : ∀ {l : List AOper} {st : ASt} {K K' : ASt → Prop}, (∀ st, K st → K' st) → wpOps P l st K → wpOps P l st K'
  | [], st, _, _, hk, h => hk st h
  | x :: r, _, _, _, hk, h => T_mono (fun _ _ _ h => wpOps_mono (l := r) hk h) (show T P x _ (fun _ _ st' => wpOps P r st' _) from h)
theorem wpD_mono : ∀ {l : List (AOper × List Nat)} {i : Nat} {log : Log} {st : ASt} {K K' : ASt → Prop}, (∀ st, K st → K' st) → wpD P l i log st K → wpD P l i log st K'
  | [], _, _, st, _, _, hk, h => hk st h
  | (o, aft) :: r, i, log, _, _, _, hk, h => T_mono (fun _ _ _ h => ⟨h.1, wpD_mono (l := r) hk h.2⟩) (show T P o _ (fun rd wr st' => logOK aft rd wr log = true ∧ wpD P r (i + 1) ((i, rd, wr) :: log) st' _) from h)
theorem wpC_mono : ∀ {c : ACode} {Q Q' : AQ} {st : ASt}, (∀ e st, Q e st → Q' e st) → wpC P c Q st → wpC P c Q' st
  | .skip, _, _, st, hq, h => hq .normal st h
  | .reg ops keep, _, _, st, hq, h => wpOps_mono (fun st h => hq .normal _ h) h
  | .regD ops keep, _, _, st, hq, h => wpD_mono (fun st h => hq .normal _ h) h
  | .seq a b, _, _, st, hq, h => wpC_mono (c := a) (fun e st h => by
      cases e with
      | normal => exact wpC_mono (c := b) hq h
      | exit id => exact hq _ _ h
      | ret => exact hq _ _ h) h
  | .cut a b, _, _, st, hq, ⟨X, J, S, h1, h2⟩ => ⟨X, J, S, wpC_mono (c := a) (fun e st h => by
      cases e with
      | normal => exact h
      | exit id => exact hq _ _ h
      | ret => exact hq _ _ h) h1, fun x hx => wpC_mono (c := b) hq (h2 x hx)⟩
  | .cond c a b, _, _, st, hq, ⟨h1, h2⟩ => ⟨h1, by
      split at h2
      · exact ⟨fun e => wpC_mono (c := a) hq (h2.1 e), fun e => wpC_mono (c := b) hq (h2.2 e)⟩
      · exact h2.elim⟩
  | .block id a, _, _, st, hq, h => wpC_mono (c := a) (fun e st h => by
      cases e with
      | normal => exact hq _ _ h
      | exit id' =>
        simp only [AExit.inBlock] at h ⊢
        split
        · rename_i e; rw [if_pos e] at h; exact hq _ _ h
        · rename_i e; rw [if_neg e] at h; exact hq _ _ h
      | ret => exact hq _ _ h) h
  | .loop a, _, _, st, hq, ⟨X, J, S, μ, h0, h1⟩ => ⟨X, J, S, μ, h0, fun x hx => wpC_mono (c := a) (fun e st h => by
      cases e with
      | normal => exact h
      | exit id => exact hq _ _ h
      | ret => exact hq _ _ h) (h1 x hx)⟩
  | .exit id, _, _, st, hq, h => hq _ _ h
  | .ret, _, _, st, hq, h => hq _ _ h
theorem fun_pure {f : FuncId} {ac : ACode} {rs : List ARes} {args : List AV} {r : AV} (hc : chkF P f args.length 0 ac rs = true) (hwp : wpC P ac (QP rs r) (st0 args [])) : APure P f args r := by
  refine fun_sound (fp := []) hc (wpC_mono (fun e st h => ?_) hwp)
  cases e with
  | normal => exact PEnd.ret h
  | ret => exact PEnd.ret h
  | exit id => exact h.elim
theorem WLoopK.intro {body : AQ → ASt → Prop} {Q : AQ} {st : ASt} {d1 : DU body} {d2 : DU Q} {X : Type} (J : X → Prop) (S : X → ASt) (μ : X → Nat) (x0 : X) (h0 : J x0) (hw : Weak 10 st (S x0))
    (h : ∀ x, J x → body (AExit.then (fun st' => ∃ x', (J x' ∧ μ x' < μ x) ∧ Weak 10 st' (S x')) Q) (S x)) : WLoopK body Q st d1 d2 :=
  ⟨X, J, S, μ, ⟨x0, h0, hw⟩, h⟩
theorem WCutK.intro {wa wb : AQ → ASt → Prop} {Q : AQ} {st : ASt} {d1 : DU wa} {d2 : DU wb} {d3 : DU Q} {X : Type} (J : X → Prop) (S : X → ASt)
    (h1 : wa (AExit.then (fun st' => ∃ x, J x ∧ Weak 10 st' (S x)) Q) st) (h2 : ∀ x, J x → wb Q (S x)) : WCutK wa wb Q st d1 d2 d3 :=
  ⟨X, J, S, h1, h2⟩
def lendC (bx : Nat → Box) : AC → AC
  | .nsl sz => .c (.sl sz [])
  | .own b n sz => match (bx b).arr with
    | some (_, es) => .c (.sl sz (es.take n))
    | none => .junk
  | x => x
def lendA (bx : Nat → Box) : AV → AV
  | .one x => .one (lendC bx x)
  | .agg xs => .agg (xs.map (lendC bx))
  | .tup xs => .tup xs
def lendOKs (bx : Nat → Box) : List AV → Prop
  | [] => True
  | .tup _ :: _ => False
  | x :: r => lendOK bx x.cells ∧ lendOKs bx r
theorem lendC_cv {bx : Nat → Box} : ∀ {xs : List AC}, lendOK bx xs → CvL bx xs (xs.map (lendC bx))
  | [], _ => .nil
  | x :: r, h => by
    cases x with
    | own b n sz =>
      obtain ⟨h1, h2⟩ := h
      refine .cons ?_ (lendC_cv h2)
      simp only [lendC]
      cases hb : (bx b).arr with
      | none => rw [hb] at h1; exact h1.elim
      | some p => obtain ⟨sz', es⟩ := p; rw [hb] at h1; obtain ⟨rfl, h1⟩ := h1; exact .own b n sz' es hb h1
    | nsl sz => exact .cons (.nsl sz) (lendC_cv (xs := r) h)
    | _ => exact .cons (.refl _) (lendC_cv (xs := r) h)
theorem lend_cvs {bx : Nat → Box} : ∀ {xs : List AV}, lendOKs bx xs → CvAs bx xs (xs.map (lendA bx))
  | [], _ => .nil
  | x :: r, h => by
    cases x with
    | one x =>
      refine .cons ?_ (lend_cvs h.2)
      have := lendC_cv (xs := [x]) h.1
      cases this with
      | cons h t => exact .one h
    | agg xs => exact .cons (.agg (lendC_cv h.1)) (lend_cvs h.2)
    | tup xs => exact h.elim
variable {f : FuncId} {avs : List AV} {p : Bool} {d : Option Nat} {st : ASt} {K : List Nat → List Nat → ASt → Prop} {du : DU K}
theorem TCallK.lit (r : AV) (h : p = true → APure P f (avs.map (lendA st.bx)) r) (hl : p = true → lendOKs st.bx avs) (hd : (avs.map (lendA st.bx)).all (·.all AC.isData) = true) (hr : r.all AC.isLit = true)
    (k : K (avs.flatMap AV.owns) [] (st.putO d (.v p r))) : TCallK P f avs p d st K du :=
  TCall.lit _ r (fun e => lend_cvs (hl e)) hd h hr k
theorem TCallK.pure (r : AV) (hp : p = true) (h : APure P f (avs.map (lendA st.bx)) r) (hl : lendOKs st.bx avs) (hd : (avs.map (lendA st.bx)).all (·.all AC.isData) = true) (hr : r.all AC.isData = true)
    (k : K (avs.flatMap AV.owns) (avs.flatMap AV.owns) ((st.frz (avs.flatMap AV.owns)).putO d (.v true r))) : TCallK P f avs p d st K du :=
  TCall.pure _ r hp (lend_cvs hl) hd h hr k
end
end Go.Ab
end
section
namespace Go.Ab
open Go
def TK (P : Program) (o : AOper) (st : ASt) (K : List Nat → List Nat → ASt → Prop) (_ : DU o) (_ : DU K) : Prop := T P o st K
def wpOpsK (P : Program) (ops : List AOper) (st : ASt) (K : ASt → Prop) (_ : DU ops) (_ : DU K) : Prop := wpOps P ops st K
def wpDK (P : Program) (ops : List (AOper × List Nat)) (i : Nat) (log : List (Nat × List Nat × List Nat)) (st : ASt) (K : ASt → Prop) (_ : DU ops) (_ : DU K) : Prop := wpD P ops i log st K
def wpCK (P : Program) (c : ACode) (Q : AQ) (st : ASt) (_ : DU c) (_ : DU Q) : Prop := wpC P c Q st
def QK (Q : AQ) (e : AExit) (st : ASt) (_ : DU Q) : Prop := Q e st
def thenK (c : ACode) (P : Program) (Q : AQ) : AQ := AExit.then (wpC P c Q) Q
section
variable {P : Program} {st : ASt} {K : List Nat → List Nat → ASt → Prop} {k : ASt → Prop} {Q : AQ}
theorem TK_call {g : Option (Nat × Bool)} {d : Option Nat} {f : FuncId} {args : List Opd} {d1 : DU (AOper.mk g d (.call f args))} {d2 : DU K} :
    TK P ⟨g, d, .call f args⟩ st K d1 d2 = (guardVC st.tm g ∧ (guardV st.tm g = true → ∀ x, x ∈ args → (x.ev st.tm).g = true) ∧ TCallK P f (args.map (avOf st.tm)) (guardV st.tm g) d st K .mk) := by
  unfold TK T; rfl
def TCallV (P : Program) (x : AV) (args : List AV) (p : Bool) (d : Option Nat) (st : ASt) (K : List Nat → List Nat → ASt → Prop) (_ : DU K) : Prop :=
  match p, x with
  | false, _ => TCallK P 0 [] false d st K .mk
  | true, .one (.fn f caps) => callOK P f = true ∧ TCallK P f (args ++ caps.map fun b => .one (.ptr b 0)) true d st K .mk
  | true, _ => False
theorem TCallV_eq {f : FuncId} {caps : List Nat} {args : List AV} {d : Option Nat} {du : DU K} : TCallV P (.one (.fn f caps)) args true d st K du = (callOK P f = true ∧ TCallK P f (args ++ caps.map fun b => .one (.ptr b 0)) true d st K .mk) := by
  unfold TCallV; rfl
theorem TCallV_f {x : AV} {args : List AV} {d : Option Nat} {du : DU K} : TCallV P x args false d st K du = TCallK P 0 [] false d st K .mk := by
  unfold TCallV; rfl
theorem TK_callv {g : Option (Nat × Bool)} {d : Option Nat} {x : Opd} {args : List Opd} {d1 : DU (AOper.mk g d (.callv x args))} {d2 : DU K} :
    TK P ⟨g, d, .callv x args⟩ st K d1 d2 = (guardVC st.tm g ∧ (guardV st.tm g = true → (x.ev st.tm).g = true ∧ ∀ x, x ∈ args → (x.ev st.tm).g = true) ∧ TCallV P (avOf st.tm x) (args.map (avOf st.tm)) (guardV st.tm g) d st K .mk) := by
  unfold TK T TCallV; rfl
theorem wpOpsK_nil {d1 : DU ([] : List AOper)} {d2 : DU k} : wpOpsK P [] st k d1 d2 = k st := by unfold wpOpsK wpOps; rfl
theorem wpOpsK_cons {o : AOper} {r : List AOper} {d1 : DU (o :: r)} {d2 : DU k} : wpOpsK P (o :: r) st k d1 d2 = TK P o st (fun _ _ st' => wpOpsK P r st' k .mk .mk) .mk .mk := by
  unfold wpOpsK TK; rfl
theorem wpDK_nil {i : Nat} {log : List (Nat × List Nat × List Nat)} {d1 : DU ([] : List (AOper × List Nat))} {d2 : DU k} : wpDK P [] i log st k d1 d2 = k st := by unfold wpDK wpD; rfl
theorem wpDK_cons {i : Nat} {log : List (Nat × List Nat × List Nat)} {o : AOper} {aft : List Nat} {r : List (AOper × List Nat)} {d1 : DU ((o, aft) :: r)} {d2 : DU k} :
    wpDK P ((o, aft) :: r) i log st k d1 d2 = TK P o st (fun rd wr st' => logOK aft rd wr log = true ∧ wpDK P r (i + 1) ((i, rd, wr) :: log) st' k .mk .mk) .mk .mk := by
  unfold wpDK TK; rfl
theorem wpCK_skip {d1 : DU ACode.skip} {d2 : DU Q} : wpCK P .skip Q st d1 d2 = QK Q .normal st .mk := by unfold wpCK wpC; rfl
theorem wpCK_reg {ops : List AOper} {keep : List Nat} {d1 : DU (ACode.reg ops keep)} {d2 : DU Q} : wpCK P (.reg ops keep) Q st d1 d2 = wpOpsK P ops st (fun st => QK Q .normal (st.keep keep) .mk) .mk .mk := by unfold wpCK wpC; rfl
theorem wpCK_regD {ops : List (AOper × List Nat)} {keep : List Nat} {d1 : DU (ACode.regD ops keep)} {d2 : DU Q} : wpCK P (.regD ops keep) Q st d1 d2 = wpDK P ops 0 [] st (fun st => QK Q .normal (st.keep keep) .mk) .mk .mk := by unfold wpCK wpC; rfl
theorem wpCK_seq {a b : ACode} {d1 : DU (ACode.seq a b)} {d2 : DU Q} : wpCK P (.seq a b) Q st d1 d2 = wpCK P a (thenK b P Q) st .mk .mk := by unfold wpCK; rw [wpC]; rfl
theorem wpCK_cut {a b : ACode} {d1 : DU (ACode.cut a b)} {d2 : DU Q} : wpCK P (.cut a b) Q st d1 d2 = WCutK (wpC P a) (wpC P b) Q st .mk .mk .mk := by unfold wpCK; rw [wpC]
theorem wpCK_loop {a : ACode} {d1 : DU (ACode.loop a)} {d2 : DU Q} : wpCK P (.loop a) Q st d1 d2 = WLoopK (wpC P a) Q st .mk .mk := by unfold wpCK; rw [wpC]
theorem wpCK_block {id : Nat} {a : ACode} {d1 : DU (ACode.block id a)} {d2 : DU Q} : wpCK P (.block id a) Q st d1 d2 = wpCK P a (AExit.inBlock id Q) st .mk .mk := by unfold wpCK; rw [wpC]
theorem wpCK_exit {id : Nat} {d1 : DU (ACode.exit id)} {d2 : DU Q} : wpCK P (.exit id) Q st d1 d2 = QK Q (.exit id) st .mk := by unfold wpCK wpC; rfl
theorem wpCK_ret {d1 : DU ACode.ret} {d2 : DU Q} : wpCK P .ret Q st d1 d2 = QK Q .ret st .mk := by unfold wpCK wpC; rfl
def condK (P : Program) (c : AV) (a b : ACode) (Q : AQ) (st : ASt) (_ : DU a) (_ : DU b) (_ : DU Q) : Prop :=
  match c with
  | .one (.c (.lit (.bool t))) => (t = true → wpC P a Q st) ∧ (t = false → wpC P b Q st)
  | _ => False
theorem wpCK_cond {c : Opd} {a b : ACode} {d1 : DU (ACode.cond c a b)} {d2 : DU Q} : wpCK P (.cond c a b) Q st d1 d2 = ((c.ev st.tm).g = true ∧ condK P (c.ev st.tm).x a b Q st .mk .mk .mk) := by
  unfold wpCK condK; rw [wpC] <;> rfl
theorem condK_t {a b : ACode} {d1 : DU a} {d2 : DU b} {d3 : DU Q} : condK P (.one (.c (.lit (.bool true)))) a b Q st d1 d2 d3 = wpCK P a Q st .mk .mk := by unfold condK wpCK; simp
theorem condK_f {a b : ACode} {d1 : DU a} {d2 : DU b} {d3 : DU Q} : condK P (.one (.c (.lit (.bool false)))) a b Q st d1 d2 d3 = wpCK P b Q st .mk .mk := by unfold condK wpCK; simp
theorem QK_then_n {b : ACode} {du : DU (thenK b P Q)} : QK (thenK b P Q) .normal st du = wpCK P b Q st .mk .mk := by unfold QK thenK wpCK; rfl
theorem QK_then_e {b : ACode} {id : Nat} {du : DU (thenK b P Q)} : QK (thenK b P Q) (.exit id) st du = QK Q (.exit id) st .mk := by unfold QK thenK; rfl
theorem QK_then_r {b : ACode} {du : DU (thenK b P Q)} : QK (thenK b P Q) .ret st du = QK Q .ret st .mk := by unfold QK thenK; rfl
theorem QK_next_n {k : ASt → Prop} {du : DU (AExit.then k Q)} : QK (AExit.then k Q) .normal st du = k st := by unfold QK; rfl
theorem QK_next_e {k : ASt → Prop} {id : Nat} {du : DU (AExit.then k Q)} : QK (AExit.then k Q) (.exit id) st du = QK Q (.exit id) st .mk := by unfold QK; rfl
theorem QK_next_r {k : ASt → Prop} {du : DU (AExit.then k Q)} : QK (AExit.then k Q) .ret st du = QK Q .ret st .mk := by unfold QK; rfl
theorem QK_block_n {id : Nat} {du : DU (AExit.inBlock id Q)} : QK (AExit.inBlock id Q) .normal st du = QK Q .normal st .mk := by unfold QK; rfl
theorem QK_block_e {id id' : Nat} {du : DU (AExit.inBlock id Q)} : QK (AExit.inBlock id Q) (.exit id') st du = if id' = id then QK Q .normal st .mk else QK Q (.exit id') st .mk := by unfold QK; rfl
theorem QK_block_r {id : Nat} {du : DU (AExit.inBlock id Q)} : QK (AExit.inBlock id Q) .ret st du = QK Q .ret st .mk := by unfold QK; rfl
theorem QK_QP_n {rs : List ARes} {r : AV} {du : DU (QP rs r)} : QK (QP rs r) .normal st du = PEnd rs r st := by unfold QK; rfl
theorem QK_QP_r {rs : List ARes} {r : AV} {du : DU (QP rs r)} : QK (QP rs r) .ret st du = PEnd rs r st := by unfold QK; rfl
theorem QK_QF_n {rs : List ARes} {m : Nat} {post : AV → List Box → Prop} {du : DU (QF rs m post)} : QK (QF rs m post) .normal st du = RetOK rs m post st := by unfold QK; rfl
theorem QK_QF_r {rs : List ARes} {m : Nat} {post : AV → List Box → Prop} {du : DU (QF rs m post)} : QK (QF rs m post) .ret st du = RetOK rs m post st := by unfold QK; rfl
theorem ofK {c : ACode} (h : wpCK P c Q st .mk .mk) : wpC P c Q st := h
theorem loopK {a : ACode} {d1 : DU (wpC P a)} {d2 : DU Q} {X : Type} (J : X → Prop) (S : X → ASt) (μ : X → Nat) (x0 : X) (h0 : J x0) (hw : Weak 10 st (S x0))
    (h : ∀ x, J x → wpCK P a (AExit.then (fun st' => ∃ x', (J x' ∧ μ x' < μ x) ∧ Weak 10 st' (S x')) Q) (S x) .mk .mk) : WLoopK (wpC P a) Q st d1 d2 :=
  WLoopK.intro J S μ x0 h0 hw h
theorem cutK {a b : ACode} {d1 : DU (wpC P a)} {d2 : DU (wpC P b)} {d3 : DU Q} {X : Type} (J : X → Prop) (S : X → ASt)
    (h1 : wpCK P a (AExit.then (fun st' => ∃ x, J x ∧ Weak 10 st' (S x)) Q) st .mk .mk) (h2 : ∀ x, J x → wpCK P b Q (S x) .mk .mk) : WCutK (wpC P a) (wpC P b) Q st d1 d2 d3 :=
  WCutK.intro J S h1 h2
end
end Go.Ab
end
section
namespace Go.Ab
open Go
inductive Nd where
  | mk (k w : Int) (s : List UInt8) (ws : List (List UInt8)) (ks : List Nd)
abbrev Txt := List UInt8
def txts (ws : List Txt) : List (List Cell) := ws.map fun w => [.str w]
mutual
def Nd.cells : Nd → List Cell
  | .mk k w s ws ks => [.lit (.int .i64 k), .lit (.int .i64 w), .str s, .sl 1 (txts ws), .sl 5 (Nd.cellsL ks)]
def Nd.cellsL : List Nd → List (List Cell)
  | [] => []
  | x :: r => x.cells :: Nd.cellsL r
end
theorem Nd.cellsL_eq (ks : List Nd) : Nd.cellsL ks = ks.map Nd.cells := by
  induction ks with
  | nil => rfl
  | cons x r ih => simp [Nd.cellsL, ih]
def simpleC : List AC → Bool
  | [] => true
  | .c _ :: r => simpleC r
  | _ => false
def simpleA : List AV → Bool
  | [] => true
  | .one (.c _) :: r => simpleA r
  | .agg xs :: r => simpleC xs && simpleA r
  | _ => false
theorem simpleC_spec {bx : Nat → Box} : ∀ {xs : List AC}, simpleC xs = true → xs.map (lendC bx) = xs ∧ lendOK bx xs ∧ xs.all AC.isData = true ∧ ownsOf xs = []
  | [], _ => ⟨rfl, trivial, rfl, rfl⟩
  | x :: r, h => by
    cases x with
    | c x =>
      obtain ⟨h1, h2, h3, h4⟩ := simpleC_spec (bx := bx) (xs := r) h
      exact ⟨by simp [lendC, h1], h2, by simp [AC.isData, h3], by simp [ownsOf, h4]⟩
    | _ => cases h
theorem simpleA_spec {bx : Nat → Box} : ∀ {xs : List AV}, simpleA xs = true → xs.map (lendA bx) = xs ∧ lendOKs bx xs ∧ xs.all (·.all AC.isData) = true ∧ xs.flatMap AV.owns = []
  | [], _ => ⟨rfl, trivial, rfl, rfl⟩
  | x :: r, h => by
    cases x with
    | one x =>
      cases x with
      | c x =>
        obtain ⟨h1, h2, h3, h4⟩ := simpleA_spec (bx := bx) (xs := r) h
        exact ⟨by simp [lendA, lendC, h1], ⟨trivial, h2⟩, by rw [List.all_cons, h3]; rfl, by simp [AV.owns, ownsOf, h4]⟩
      | _ => cases h
    | agg xs =>
      simp only [simpleA, Bool.and_eq_true] at h
      obtain ⟨h1, h2, h3, h4⟩ := simpleA_spec (bx := bx) (xs := r) h.2
      obtain ⟨j1, j2, j3, j4⟩ := simpleC_spec (bx := bx) h.1
      refine ⟨by simp only [List.map_cons, lendA, j1, h1], ⟨j2, h2⟩, ?_, by simp only [List.flatMap_cons, AV.owns, j4, h4, List.append_nil]⟩
      rw [List.all_cons, h3, Bool.and_true]
      exact j3
    | tup xs => cases h
section
variable {P : Program} {f : FuncId} {avs : List AV} {p : Bool} {d : Option Nat} {st : ASt} {K : List Nat → List Nat → ASt → Prop} {du : DU K}
theorem frz_nil (st : ASt) : st.frz [] = st := by
  apply ASt.ext'
  · rfl
  · funext b; simp [ASt.frz]
theorem callP {r : AV} (h : APure P f avs r) (hs : simpleA avs = true) (hr : r.all AC.isData = true) (k : K [] [] (st.putO d (.v true r))) : TCallK P f avs true d st K du := by
  obtain ⟨h1, h2, h3, h4⟩ := simpleA_spec (bx := st.bx) hs
  refine TCallK.pure r rfl (by rw [h1]; exact h) h2 (by rw [h1]; exact h3) hr ?_
  rw [h4, frz_nil]
  exact k
theorem callL {r : AV} (h : p = true → APure P f avs r) (hs : simpleA avs = true) (hr : r.all AC.isLit = true) (k : K [] [] (st.putO d (.v p r))) : TCallK P f avs p d st K du := by
  obtain ⟨h1, h2, h3, h4⟩ := simpleA_spec (bx := st.bx) hs
  refine TCallK.lit r (fun e => by rw [h1]; exact h e) (fun _ => h2) (by rw [h1]; exact h3) hr ?_
  rw [h4]
  exact k
end
theorem bq_t (b : Bool) : (b == true) = b := by cases b <;> rfl
theorem bq_f (b : Bool) : (b == false) = !b := by cases b <;> rfl
end Go.Ab
end
section
namespace Go.Ab
open Go
def cI (x : Int) : List Cell := [.lit (.int .i64 x)]
def cU (x : Int) : List Cell := [.lit (.int .u8 x)]
def cK (k : IntKind) (x : Int) : List Cell := [.lit (.int k x)]
def cB (x : Bool) : List Cell := [.lit (.bool x)]
def cS (x : Txt) : List Cell := [.str x]
def cL {α : Type} (sz : Nat) (f : α → List Cell) (xs : List α) : List Cell := [.sl sz (List.map f xs)]
def chk (c : Prop) [Decidable c] {α : Type} (k : Option α) : Option α := if c then k else none
theorem chk_some {c : Prop} [Decidable c] {α : Type} {k : Option α} {r : α} : chk c k = some r ↔ c ∧ k = some r := by
  unfold chk; split <;> simp [*]
theorem cond_some {b : Bool} {α : Type} {x y : Option α} {r : α} : cond b x y = some r ↔ (b = true ∧ x = some r) ∨ (b = false ∧ y = some r) := by
  cases b <;> simp
def bytesTxt (xs : List Int) : Txt := xs.map fun x => UInt8.ofNat x.toNat
theorem bytesOf_cU (xs : List Int) : bytesOf (List.map cU xs) = some (bytesTxt xs) := by
  induction xs with
  | nil => rfl
  | cons x r ih => simp [cU, bytesOf, ih, bytesTxt]
theorem bytesOf_nil : bytesOf [] = some [] := rfl
theorem bytesOf_one (n : Int) (r : List (List Cell)) : bytesOf ([.lit (.int .u8 n)] :: r) = Option.map (fun l => UInt8.ofNat n.toNat :: l) (bytesOf r) := by
  simp only [bytesOf]; cases bytesOf r <;> rfl
theorem bytesTxt_length (xs : List Int) : (bytesTxt xs).length = xs.length := by simp [bytesTxt]
theorem getD_mapL {α : Type} [Inhabited α] {f : α → List Cell} {xs : List α} {i : Nat} (h : i < xs.length) : (List.map f xs).getD i [] = f (xs.getD i default) := by
  simp [h]
theorem take_len {α : Type} {l : List α} {n : Nat} (h : l.length = n) : l.take n = l := by subst h; simp
theorem take_c1 {α : Type} {x : α} {l : List α} {n : Nat} (h : l.length = n) : (x :: l).take (1 + n) = x :: l := by subst h; rw [Nat.add_comm]; simp
theorem take_c2 {α : Type} {x y : α} {l : List α} {n : Nat} (h : l.length = n) : (x :: y :: l).take (2 + n) = x :: y :: l := by subst h; rw [Nat.add_comm]; simp
def frzL (l : List Nat) : List (Nat × Box) → List (Nat × Box)
  | [] => []
  | (b, x) :: r => (b, if l.contains b then frzB x else x) :: frzL l r
theorem frzL_look (l : List Nat) (bs : List (Nat × Box)) (b : Nat) : lookB (frzL l bs) b = if b ∈ l then frzB (lookB bs b) else lookB bs b := by
  induction bs with
  | nil => simp [frzL, lookB, frzB]
  | cons p r ih =>
    obtain ⟨c, x⟩ := p
    simp only [frzL, lookB, ih]
    by_cases h : c = b
    · subst h; simp
    · simp [h]
theorem of_frzL (ts : List (Nat × Slot)) (bs : List (Nat × Box)) (l : List Nat) : (ASt.of ts bs).frz l = ASt.of ts (frzL l bs) := by
  apply ASt.ext'
  · rfl
  · funext b
    simp only [ASt.frz]
    rw [of_bx, of_bx, frzL_look]
theorem frzL_nil (bs : List (Nat × Box)) : frzL [] bs = bs := by
  induction bs with
  | nil => rfl
  | cons p r ih => obtain ⟨c, x⟩ := p; simp [frzL, ih]
def TGK (g : Bool) (o : AOp) (d : Option Nat) (st : ASt) (K : List Nat → List Nat → ASt → Prop) (_ : DU o) (_ : DU K) : Prop := TOp o g d st K
def TOpV (valid : Prop) (rd : List Nat) (r : FR) (d : Option Nat) (st : ASt) (K : List Nat → List Nat → ASt → Prop) (_ : DU K) : Prop :=
  valid ∧ r.vc ∧ K rd (r.sets.map (·.1)) ((st.setbs r.sets).putO d (.v true r.v))
section
variable {P : Program} {st : ASt} {K : List Nat → List Nat → ASt → Prop}
theorem TK_op' {g : Option (Nat × Bool)} {d : Option Nat} {op : AOp} {d1 : DU (AOper.mk g d (.op op))} {d2 : DU K} :
    TK P ⟨g, d, .op op⟩ st K d1 d2 = (guardVC st.tm g ∧ TGK (guardV st.tm g) op d st K .mk .mk) := by
  unfold TK T TGK; rfl
theorem TGK_t {op : AOp} {d : Option Nat} {d1 : DU op} {d2 : DU K} : TGK true op d st K d1 d2 = TOpV (op.valid (Opd.ev st.tm)) (op.rd (avOf st.tm)) (op.f (avOf st.tm) st.bx) d st K .mk := by
  unfold TGK TOp TOpV; simp
theorem TGK_f {op : AOp} {d : Option Nat} {d1 : DU op} {d2 : DU K} : TGK false op d st K d1 d2 = K [] [] (st.putO d (.v false (.one .junk))) := by
  unfold TGK TOp; simp
theorem TOpV_m {valid : Prop} {rd : List Nat} {vc : Prop} {v : AV} {sets : List (Nat × Box)} {d : Option Nat} {du : DU K} :
    TOpV valid rd ⟨vc, v, sets⟩ d st K du = (valid ∧ vc ∧ K rd (sets.map (·.1)) ((st.setbs sets).putO d (.v true v))) := rfl
end
section
variable {P : Program} {f : FuncId} {avs : List AV} {d : Option Nat} {st : ASt} {K : List Nat → List Nat → ASt → Prop} {du : DU K}
theorem callD {avs' : List AV} {r : AV} (h : APure P f avs' r) (he : avs.map (lendA st.bx) = avs') (hl : lendOKs st.bx avs) (hd : avs'.all (·.all AC.isData) = true) (hr : r.all AC.isData = true)
    (k : K (avs.flatMap AV.owns) (avs.flatMap AV.owns) ((st.frz (avs.flatMap AV.owns)).putO d (.v true r))) : TCallK P f avs true d st K du := by
  subst he
  exact TCallK.pure r rfl h hl hd hr k
theorem callE {avs' : List AV} {r : AV} (h : APure P f avs' r) (he : avs.map (lendA st.bx) = avs') (hl : lendOKs st.bx avs) (hd : avs'.all (·.all AC.isData) = true) (hr : r.all AC.isLit = true)
    (k : K (avs.flatMap AV.owns) [] (st.putO d (.v true r))) : TCallK P f avs true d st K du := by
  subst he
  exact TCallK.lit r (fun _ => h) (fun _ => hl) hd hr k
theorem callN (k : K (avs.flatMap AV.owns) [] (st.putO d (.v false (.one (.c (.lit (.bool true))))))) : TCallK P f avs false d st K du :=
  TCall.lit [] (.one (.c (.lit (.bool true)))) (fun e => by cases e) rfl (fun e => by cases e) rfl k
def sgOK (st : ASt) (sg : List Nat) : List Box → Nat → Prop
  | [], _ => True
  | x :: r, i => st.bx (sg.getD i 0) = renB (fun b => sg.getD b 0) x ∧ sgOK st sg r (i + 1)
theorem sgOK_at {st : ASt} {sg : List Nat} : ∀ {fp : List Box} {i0 i : Nat}, sgOK st sg fp i0 → i < fp.length → st.bx (sg.getD (i0 + i) 0) = renB (fun b => sg.getD b 0) (fp.getD i .absent)
  | [], _, _, _, h => by simp at h
  | x :: r, i0, 0, h, _ => by simpa using h.1
  | x :: r, i0, i + 1, h, hi => by
    have := sgOK_at (i := i) h.2 (by simpa using hi)
    simpa [Nat.add_assoc, Nat.add_comm 1 i] using this
def nuOK (st : ASt) : List Nat → Prop
  | [] => True
  | b :: r => st.bx b = .absent ∧ 10 ≤ b ∧ nuOK st r
theorem nuOK_at {st : ASt} : ∀ {nu : List Nat}, nuOK st nu → ∀ b, b ∈ nu → st.bx b = .absent ∧ 10 ≤ b
  | [], _, _, h => by cases h
  | c :: r, h, b, hb => by
    rcases List.mem_cons.1 hb with e | e
    · subst e; exact ⟨h.1, h.2.1⟩
    · exact nuOK_at h.2.2 b e
theorem callG {ds : List AV} {fp bs0 : List Box} {r0 : AV} (sg nu : List Nat) (h : ACalls P f ds fp (fun r bs => r = r0 ∧ bs = bs0)) (hl : sg.length = fp.length) (hn : nodupB (sg ++ nu) = true) (hf : sgOK st (sg ++ nu) fp 0) (hv : nuOK st nu)
    (hra : (ds.all fun x => x.all (AC.refsLt fp.length)) = true) (hrf : fp.all (Box.refsLt fp.length) = true) (ha : avs = ds.map (renA fun b => (sg ++ nu).getD b 0)) (hb : bs0.length = (sg ++ nu).length)
    (k : K (sg ++ nu) (sg ++ nu) ((st.setbs ((sg ++ nu).zip (bs0.map (renB fun b => (sg ++ nu).getD b 0)))).putO d (.v true (renA (fun b => (sg ++ nu).getD b 0) r0)))) : TCallK P f avs true d st K du := by
  refine TCall.gen rfl ds fp sg nu _ hl (nodupB_iff.1 hn) (fun i hi => ?_) ⟨r0, bs0, rfl, rfl⟩ (nuOK_at hv) hra hrf ha h (fun r bs hp => ?_)
  · have := sgOK_at (i := i) hf hi
    rw [Nat.zero_add] at this
    exact this
  · obtain ⟨rfl, rfl⟩ := hp
    exact ⟨hb, k⟩
end
section
variable {P : Program} {f : FuncId} {avs : List AV} {d : Option Nat} {st : ASt} {K : List Nat → List Nat → ASt → Prop} {du : DU K}
theorem callH {ds : List AV} {fp bs0 : List Box} {r0 : AV} (sg nu : List Nat) (h : ACalls P f ds fp (fun r bs => r = r0 ∧ bs = bs0)) (he : avs.map (lendA st.bx) = ds.map (renA fun b => (sg ++ nu).getD b 0)) (hlo : lendOKs st.bx avs)
    (hl : sg.length = fp.length) (hn : nodupB (sg ++ nu) = true) (hf : sgOK (st.frz (avs.flatMap AV.owns)) (sg ++ nu) fp 0) (hv : nuOK st nu)
    (hra : (ds.all fun x => x.all (AC.refsLt fp.length)) = true) (hrf : fp.all (Box.refsLt fp.length) = true) (hb : bs0.length = (sg ++ nu).length)
    (k : K (avs.flatMap AV.owns ++ (sg ++ nu)) (avs.flatMap AV.owns ++ (sg ++ nu)) (((st.frz (avs.flatMap AV.owns)).setbs ((sg ++ nu).zip (bs0.map (renB fun b => (sg ++ nu).getD b 0)))).putO d (.v true (renA (fun b => (sg ++ nu).getD b 0) r0)))) : TCallK P f avs true d st K du := by
  refine TCall.genL rfl _ (lend_cvs hlo) ds fp sg nu _ hl (nodupB_iff.1 hn) (fun i hi => ?_) ⟨r0, bs0, rfl, rfl⟩ (nuOK_at hv) hra hrf he h (fun r bs hp => ?_)
  · have := sgOK_at (i := i) hf hi
    rw [Nat.zero_add] at this
    exact this
  · obtain ⟨rfl, rfl⟩ := hp
    exact ⟨hb, k⟩
end
theorem logOK_nn (aft : List Nat) (log : List (Nat × List Nat × List Nat)) : logOK aft [] [] log = true := by
  induction log with
  | nil => rfl
  | cons e r ih => obtain ⟨j, a, b⟩ := e; simp [logOK, disj, ih]
theorem logOK_n0 (aft rd wr : List Nat) : logOK aft rd wr [] = true := rfl
theorem bxL_eq (bs : List Box) : bxL bs = lookB (boxes0 bs 0) := by
  funext b
  rw [look_boxes0]
  simp [bxL]
theorem ret_of {rs : List ARes} {ts : List (Nat × Slot)} {bs0 : List (Nat × Box)} {m : Nat} {r : AV} {bs : List Box} (zs : List Nat) (pi : List (Nat × Nat)) (vs : List Nat) (hk : keysOK m bs0 (boxes0 bs 0) pi vs = true)
    (hok : resOKs (ASt.of ts bs0) rs) (hb : wkBs zs (lookB bs0) (piL pi) vs (boxes0 bs 0)) (hv : wkV zs (lookB bs0) (piL pi) vs (retV (ASt.of ts bs0) rs) r) :
    RetOK rs m (fun r1 b1 => r1 = r ∧ b1 = bs) (ASt.of ts bs0) := by
  refine ⟨hok, r, bs, zs, piL pi, vs, ⟨rfl, rfl⟩, ?_, ?_⟩
  · rw [of_bx', bxL_eq]; exact wks_of zs pi vs hk hb
  · rw [of_bx']; exact hv
end Go.Ab
end
section
namespace Go.Ab
open Go
section
variable {P : Program} {f : FuncId}
theorem caps_of {n sz : Nat} {az : List AV} {fp : List Box} {post : AV → List Box → Prop} (h : ∀ c, n ≤ c → ACalls P f (.one (.sub 0 0 n (some c) sz) :: az) fp post) :
    ACalls P f (.one (.own 0 n sz) :: az) fp post := by
  intro I ρ w vs ha hb hv
  obtain ⟨hl, hg⟩ := hv
  cases vs with
  | nil => simp at hl
  | cons v vs =>
    obtain ⟨k, cap, a, c, h1, h2, h3, h4, h5⟩ := hg 0 v _ rfl rfl
    refine h c h3 I ρ w (v :: vs) ha hb ⟨by simpa using hl, fun j u x hj hx => ?_⟩
    cases j with
    | zero =>
      simp at hj hx
      subst hj hx
      refine ⟨k, cap, a, c, h1, h2, h3, by omega, (fun c0 e => by cases e; rfl), fun e => ?_⟩
      rw [Nat.zero_mul]
      exact h5 (by rcases e with e | e <;> omega)
    | succ j => exact hg (j + 1) u x hj (by simpa using hx)
end
theorem wrap_id {x : Int} (h0 : 0 ≤ x) (h1 : x < 9223372036854775808) : IntKind.wrap .i64 x = x := by
  simp only [IntKind.wrap, IntKind.bits, IntKind.signed]
  simp
  omega
theorem dropS {α : Type} (f : α → List Cell) (k : Nat) (hf : ∀ t, (f t).length ≤ k) {l : List α} {i j : Nat} {v : List Cell} (hv : v.length ≤ k) : List.drop k (((List.map f l).set i v).getD j []) = [] := by
  have key : ∀ (m : List (List Cell)), (∀ y, y ∈ m → y.length ≤ k) → List.drop k (m.getD j []) = [] := by
    intro m hm
    apply List.drop_of_length_le
    by_cases hj : j < m.length
    · rw [show m.getD j [] = m[j] by simp [List.getD, hj]]; exact hm _ (List.getElem_mem hj)
    · rw [show m.getD j [] = [] by simp [List.getD, List.getElem?_eq_none (Nat.le_of_not_lt hj)]]; simp
  apply key
  intro y hy
  rcases List.mem_or_eq_of_mem_set hy with h | h
  · obtain ⟨t, _, rfl⟩ := List.mem_map.1 h; exact hf t
  · rw [h]; exact hv
theorem drop1S {l : List Txt} {i j : Nat} {x : Cell} : List.drop 1 (((List.map cS l).set i [x]).getD j []) = [] := dropS cS 1 (fun t => by simp [cS]) (by simp)
end Go.Ab
end
