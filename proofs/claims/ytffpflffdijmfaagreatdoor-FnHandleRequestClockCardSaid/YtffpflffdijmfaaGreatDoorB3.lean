/- The functions of the program that the laws reach: what they compute, the proofs that they do, the laws of the data (part 3). No conditions. -/
import Derived.Test.YtffpflffdijmfaaGreatDoorB2
set_option linter.unusedVariables false
set_option linter.unusedSimpArgs false
section
namespace Go.Ab
open Go
set_option maxRecDepth 100000
set_option linter.unusedSectionVars false
section
variable {d e:Nat} {n0 p:af} (mp:MS d p) (h0:MF (d+e+1) 6 n0) (hq:∀ k,k∈n0.Kids->ShN e k) (hd:d<=5)
include mp h0 hq hd
theorem T.wX.L4 (hs:∀ o q,ShN e o->Shape d q=true->Ev (fun f=>G.aT f o q) (yK d o q)):∀ (t i:Nat),i+t=p.Kids.length ->
    Ev (fun f=>G.aT.L4 f p (i:Int) ((List.range' 0 i).foldl (DX (yK d) p) n0).Kind ((List.range' 0 i).foldl (DX (yK d) p) n0).Num ((List.range' 0 i).foldl (DX (yK d) p) n0).Text ((List.range' 0 i).foldl (DX (yK d) p) n0).Names ((List.range' 0 i).foldl (DX (yK d) p) n0).Kids) ((List.range' 0 p.Kids.length).foldl (DX (yK d) p) n0):=by
  have hl:=mp.len
  have hk:=mp.mp.map.len
  intro t
  induction t with
  | zero =>
    intro i hi
    have:i=p.Kids.length:=by omega
    subst this
    refine Ev.up ?_
    simp only [G.aT.L4]
    exact Ev.cf (decide_eq_false (by omega)) (Ev.ret' (af.eta _))
  | succ t ih =>
    intro i hi
    have hn:=ih (i+1) (by omega)
    rw [wZ,List.foldl_append,List.foldl_cons,List.foldl_nil] at hn
    have hF:=fun (o q:af) (ho:ShN e o) (hq:Shape d q=true)=>Bl d hq ho
    obtain ⟨h1,h2⟩:=CS mp h0 (Q:=ShN e) (.inr rfl) hq hF i (by omega)
    generalize (List.range' 0 i).foldl (DX (yK d) p) n0=m at h1 h2 hn ⊢
    have hi':i<p.Kids.length:=by omega
    have hx:=o9 mp.sh hi'
    have hc:=h1.cnt
    have hms:lk m (p.Names.getD i default)=lk n0 (p.Names.getD i default):=by rw [h2,if_neg (CX mp.mp.map hi')]
    obtain ⟨q,gq,hqj⟩:=T.bs (p.Names.getD i default) h1.mp.map (by omega)
    refine Ev.up ?_
    simp only [G.aT.L4,Int.toNat_natCast,bP (show i+1<9223372036854775808 by omega),af.eta]
    unfold DX at hn
    refine Ev.ct (decide_eq_true (by omega)) (Ev.chk (by omega) (Ev.chk (by omega) ?_))
    by_cases c:(p.Kids.getD i default).Kind=0
    · rw [if_pos c] at hn
      exact Ev.ct (by simpa using c) (Ev.bind (T.QY _ h1.mp (by omega)) hn)
    · rw [if_neg c] at hn
      have fin:∀ o,o=(lk m (p.Names.getD i default)).getD lW->Ev (fun f=>G.aT.K5 f p (i:Int) m.Kind m.Num m.Text m.Names m.Kids o.Kind o.Num o.Text o.Names o.Kids) ((List.range' 0 p.Kids.length).foldl (DX (yK d) p) n0):=fun o ho=>by
        have hso:ShN e o:=by
          rw [ho,hms]
          cases hl':lk n0 (p.Names.getD i default) with
          | none=>exact .inr rfl
          | some x=>exact hq x (MP hl')
        have hf:=hF _ _ hso hx
        obtain ⟨g1,_⟩:=Nc h1 (mp.name hi') hf
        obtain ⟨m',g2,g3⟩:=T.Nb (v:=yK d o (p.Kids.getD i default)) (p.Names.getD i default) h1.mp (by omega)
        rw [g1] at g2
        cases g2
        rw [<- ho] at hn
        refine Ev.up ?_
        simp only [G.aT.K5,Int.toNat_natCast,bP (show i+1<9223372036854775808 by omega),af.eta]
        exact Ev.chk (by omega) (Ev.bind (hs _ _ hso hx) (Ev.bind g3 hn))
      refine Ev.cf (by simpa using c) (Ev.bind gq ?_)
      cases hj:rQ m (p.Names.getD i default) with
      | none=>exact Ev.cf rfl (fin lW (by unfold lk; rw [hj]; rfl))
      | some j =>
        have ej:=hqj j hj
        subst ej
        have hjl:=oM hj
        simp only [Int.toNat_natCast]
        exact Ev.ct rfl (Ev.chk (by omega) (fin (m.Kids.getD q default) (by unfold lk; rw [hj]; rfl)))
end
theorem T.wX:∀ (d:Nat) {E:Nat} {n p:af},d<=5->Shape d p=true->ShN E n->Ev (fun f=>G.aT f n p) (yK d n p)
  | 0,_,_,_,_,h,_=>by cases h
  | d+1,E,n,p,hd,hp,hn=>by
    refine Ev.up ?_
    simp only [G.aT]
    rw [Fj]
    refine Ev.ite (fun c => ?_) (fun c => ?_)
    · have:¬ p.Kind=4:=by simpa using c
      rw [if_neg this]
      exact Ev.bind (T.ax qc (nX hp)) (Ev.ret _)
    · have kp:p.Kind=4:=by simpa using c
      rw [if_pos kp]
      have mp:=NW hp kp
      obtain ⟨e,he,hb,hq⟩:=Lt hn
      have L:=T.wX.L4 mp (Bj hb (by omega:e<=d+e+1) (Nat.le_refl _)) hq (by omega) (fun o q ho hq=>T.wX d (by omega) hq ho) p.Kids.length 0 (by omega)
      have L':Ev (fun f=>G.aT.K1 f p (BP n).Kind (BP n).Num (BP n).Text (BP n).Names (BP n).Kids) ((List.range' 0 p.Kids.length).foldl (DX (yK d) p) (BP n)):=by
        refine Ev.up ?_
        simp only [G.aT.K1]
        exact L
      unfold BP at L' ⊢
      refine Ev.ite (fun c => ?_) (fun c => ?_)
      · have kn:n.Kind=4:=by simpa using c
        rw [if_pos kn] at L' ⊢
        have hf:Fine 12 E n:=by
          rcases hn with h | h
          · exact nX h
          · rw [h] at kn; cases kn
        exact Ev.bind (T.ax qc hf) L'
      · have kn:¬ n.Kind=4:=by simpa using c
        rw [if_neg kn] at L' ⊢
        exact L'
theorem T.jZ {D E:Nat} {n p:af} (hn:Fine 60 D n) (hp:Fine 60 E p):Ev (fun f=>G.jZ f n p) (jb (if Val n&&Val p then (some (yK 5 n p)).filter Val else none)):=by
  refine Ev.up ?_
  simp only [G.jZ]
  refine Ev.bind (T.aH mZ hn) (Ev.ite (fun e1 => ?_) (fun e1=>Ev.ret' (by rw [e1]; rfl)))
  refine Ev.bind (T.aH mZ hp) (Ev.ite (fun e2 => ?_) (fun e2=>Ev.ret' (by rw [e1,e2]; rfl)))
  have gp:=T.wX 5 (by omega) (jL e2) (.inl (jL e1))
  have gc:=T.jC (o:=some (yK 5 n p)) qc (fun m hm=>by cases hm; exact Bl 5 (jL e2) (.inl (jL e1)))
  rw [e1,e2]
  exact Ev.bind gp (Ev.bind gc (Ev.ret _))
end Go.Ab
end
section
namespace Go.Ab
open Go
set_option maxRecDepth 100000
def N8 (b:UInt8):Bool:=(decide (97<=b.toNat)&&decide (b.toNat<=122))||(decide (48<=b.toNat)&&decide (b.toNat<=57))
def KZ (s:aC):Bool:=s.all N8&&(decide (1<=s.length)&&decide (s.length<=8))
def KY (c:Int) (it:aB):Bool:=KZ it.Name&&(Val it.Node&&(decide (1<=it.Version)&&decide (it.Version<=c)))
def pX (l:List aB):List aC:=l.map fun it=>it.Name
def wP (s:StoreT):Bool:=(s.Items.all (KY s.Clock)&&Asc (pX s.Items))&&(decide (s.Items.length<=10)&&(decide (0<=s.Clock)&&decide (s.Clock<=999)))
structure qH (B:Nat) (s:StoreT):Prop where
  len:s.Items.length<=B
  Jo:∀ it,it∈s.Items->it.Name.length<=B
  NZ:∀ it,it∈s.Items->qG B it.Node
theorem pK {l:List aB} : (pX l).length=l.length:=by unfold pX; rw [List.length_map]
theorem vG {l:List aB} {i:Nat} (h:i<l.length):(pX l).getD i default=(l.getD i default).Name:=by
  rw [bM _ (by rw [pK]; exact h),bM _ h]
  unfold pX
  rw [List.getElem_map]
theorem JB {l:List aC} {i:Nat} (h0:0<i) (h:i<l.length):Asc (l.drop (i-1))=(bl (l.getD (i-1) default) (l.getD i default)&&Asc (l.drop i)):=by
  rw [drop_pred h0 h,Asc,bK (default:aC) h]
theorem NH {l:List aC} {i:Nat} (h:l.length<=i):Asc (l.drop (i-1))=true:=by
  by_cases h0:l.length<=i-1
  · rw [List.drop_of_length_le h0]; rfl
  · rw [bK (default:aC) (by omega:i-1<l.length),List.drop_of_length_le (by omega)]; rfl
theorem T.dm.L1 (s:aC) (hs:s.length<big):∀ (k i:Nat),i+k=s.length->Ev (fun f=>G.dm.L1 f s i) ((s.drop i).all N8&&(decide (1<=s.length)&&decide (s.length<=8))):=by
  unfold big at hs
  intro k
  induction k with
  | zero =>
    intro i hi
    refine Ev.up ?_
    simp only [G.dm.L1]
    refine Ev.cf (decide_eq_false (by omega)) (Ev.bind (T.cZ _ _ _) (Ev.ret' ?_))
    rw [List.drop_of_length_le (by omega),List.all_nil,Bool.true_and]
    congr 1<;>(apply decide_eq_decide.2; omega)
  | succ k ih =>
    intro i hi
    refine Ev.up ?_
    simp only [G.dm.L1,Int.toNat_natCast,vV,bP (show i+1<9223372036854775808 by omega)]
    rw [bK (0:UInt8) (by omega:i<s.length),List.all_cons]
    have e1:(decide ((97:Int)<=((s.getD i 0).toNat:Int))&&decide (((s.getD i 0).toNat:Int)<=122))=(decide (97<=(s.getD i 0).toNat)&&decide ((s.getD i 0).toNat<=122)):=by congr 1<;>(apply decide_eq_decide.2; omega)
    have e2:(decide ((48:Int)<=((s.getD i 0).toNat:Int))&&decide (((s.getD i 0).toNat:Int)<=57))=(decide (48<=(s.getD i 0).toNat)&&decide ((s.getD i 0).toNat<=57)):=by congr 1<;>(apply decide_eq_decide.2; omega)
    refine Ev.ct (decide_eq_true (by omega)) (Ev.chk (by omega) (Ev.bind (T.cZ _ _ _) ?_))
    rw [e1]
    refine Ev.ite (fun h => ?_) (fun h => ?_)
    · refine (ih (i+1) (by omega)).eq ?_
      unfold N8
      rw [show (decide (97<=(s.getD i 0).toNat)&&decide ((s.getD i 0).toNat<=122))=true from h,Bool.true_or,Bool.true_and]
    · refine Ev.chk (by omega) (Ev.bind (T.cZ _ _ _) ?_)
      rw [e2]
      refine Ev.ite (fun h2 => ?_) (fun h2=>Ev.ret' ?_)
      · refine (ih (i+1) (by omega)).eq ?_
        unfold N8
        rw [show (decide (48<=(s.getD i 0).toNat)&&decide ((s.getD i 0).toNat<=57))=true from h2,Bool.or_true,Bool.true_and]
      · unfold N8
        rw [show (decide (97<=(s.getD i 0).toNat)&&decide ((s.getD i 0).toNat<=122))=false from h,show (decide (48<=(s.getD i 0).toNat)&&decide ((s.getD i 0).toNat<=57))=false from h2]
        rfl
theorem T.dm (s:aC) (hs:s.length<big):Ev (fun f=>G.dm f s) (KZ s):=by
  refine Ev.up ?_
  simp only [G.dm]
  exact T.dm.L1 s hs s.length 0 (by omega)
theorem T.fK.L1 (s:aC) (hs:s.length<big):∀ (k i:Nat),i+k=s.length->Ev (fun f=>G.fK.L1 f s i) ((s.drop i).all N8):=by
  unfold big at hs
  intro k
  induction k with
  | zero =>
    intro i hi
    refine Ev.up ?_
    simp only [G.fK.L1]
    refine Ev.cf (decide_eq_false (by omega)) (Ev.ret' ?_)
    rw [List.drop_of_length_le (by omega)]; rfl
  | succ k ih =>
    intro i hi
    refine Ev.up ?_
    simp only [G.fK.L1,Int.toNat_natCast,bP (show i+1<9223372036854775808 by omega)]
    rw [bK (0:UInt8) (by omega:i<s.length),List.all_cons]
    have yes:N8 (s.getD i 0)=true->Ev (fun f=>G.fK.L1 f s ((i+1:Nat):Int)) (N8 (s.getD i 0)&&(s.drop (i+1)).all N8):=fun h=>(ih (i+1) (by omega)).eq (by rw [h]; rfl)
    have no:N8 (s.getD i 0)=false->Ev (fun _=>some false) (N8 (s.getD i 0)&&(s.drop (i+1)).all N8):=fun h=>Ev.ret' (by rw [h]; rfl)
    have ok:N8 (s.getD i 0)=decide ((97<=(s.getD i 0).toNat/\(s.getD i 0).toNat<=122)\/(48<=(s.getD i 0).toNat/\(s.getD i 0).toNat<=57)):=by unfold N8; simp
    refine Ev.ct (decide_eq_true (by omega)) (Ev.chk (by omega) ?_)
    refine Ev.ite (fun h => ?_) (fun h => ?_)
    · simp only [decide_eq_true_eq] at h
      refine Ev.chk (by omega) (Ev.ite (fun h2 => ?_) (fun h2 => ?_))
      · simp only [decide_eq_true_eq] at h2
        exact no (by rw [ok]; exact decide_eq_false (by omega))
      · simp only [decide_eq_false_iff_not] at h2
        refine Ev.chk (by omega) (Ev.ite (fun h3 => ?_) (fun h3 => ?_))
        · simp only [decide_eq_true_eq] at h3
          exact no (by rw [ok]; exact decide_eq_false (by omega))
        · simp only [decide_eq_false_iff_not] at h3
          exact yes (by rw [ok]; exact decide_eq_true (by omega))
    · simp only [decide_eq_false_iff_not] at h
      refine Ev.chk (by omega) (Ev.ite (fun h2 => ?_) (fun h2 => ?_))
      · simp only [decide_eq_true_eq] at h2
        refine Ev.chk (by omega) (Ev.cf (decide_eq_false (by omega)) (Ev.chk (by omega) (Ev.ct (decide_eq_true (by omega)) ?_)))
        exact no (by rw [ok]; exact decide_eq_false (by omega))
      · simp only [decide_eq_false_iff_not] at h2
        exact yes (by rw [ok]; exact decide_eq_true (by omega))
theorem T.fK (s:aC) (hs:s.length<big):Ev (fun f=>G.fK f s) (KZ s):=by
  refine Ev.up ?_
  simp only [G.fK]
  unfold KZ
  refine Ev.ite (fun h=>Ev.ret' ?_) (fun h=>Ev.ite (fun h2=>Ev.ret' ?_) (fun h2 => ?_))
  · have:s=[]:=by simpa using h
    subst this; rfl
  · simp only [decide_eq_true_eq] at h2
    rw [decide_eq_false (show ¬ s.length<=8 by omega),Bool.and_false,Bool.and_false]
  · simp only [decide_eq_false_iff_not] at h2
    have hne:s ≠ []:=by simpa using h
    have hl:1<=s.length:=by cases s with
      | nil=>exact absurd rfl hne
      | cons _ _=>simp
    refine (T.fK.L1 s hs s.length 0 (by omega)).eq ?_
    rw [decide_eq_true hl,decide_eq_true (show s.length<=8 by omega),List.drop_zero]
    simp
theorem qH.at_ {B:Nat} {s:StoreT} (h:qH B s) {i:Nat} (hi:i<s.Items.length):(s.Items.getD i default).Name.length<=B/\qG B (s.Items.getD i default).Node :=
  ⟨h.Jo _ (getD_mem default hi),h.NZ _ (getD_mem default hi)⟩
section
variable {B:Nat} {s:StoreT} (hB:B<=lim) (h:qH B s)
include hB h
theorem T.aZ.L1:∀ (k i:Nat),i+k=s.Items.length->Ev (fun f=>G.aZ.L1 f s i) (((s.Items.drop i).all (KY s.Clock)&&Asc ((pX s.Items).drop (i-1)))&&(decide (s.Items.length<=10)&&(decide (0<=s.Clock)&&decide (s.Clock<=999)))):=by
  have hl:=h.len
  unfold lim at hB
  intro k
  induction k with
  | zero =>
    intro i hi
    refine Ev.up ?_
    simp only [G.aZ.L1]
    rw [List.drop_of_length_le (by omega),NH (by rw [pK]; omega)]
    refine Ev.cf (decide_eq_false (by omega)) (Ev.ite (fun e => ?_) (fun e=>Ev.ret' ?_))
    · refine Ev.bind (T.cZ _ _ _) (Ev.ret' ?_)
      rw [decide_eq_true (show s.Items.length<=10 by simp only [decide_eq_true_eq] at e; omega)]
      simp
    · rw [decide_eq_false (show ¬ s.Items.length<=10 by simp only [decide_eq_false_iff_not] at e; omega)]
      simp
  | succ k ih =>
    intro i hi
    have hil:i<s.Items.length:=by omega
    obtain ⟨hn,⟨D,hd⟩⟩:=h.at_ hil
    refine Ev.up ?_
    simp only [G.aZ.L1,Int.toNat_natCast,bP (show i+1<9223372036854775808 by omega)]
    rw [bK (default:aB) hil,List.all_cons]
    refine Ev.ct (decide_eq_true (by omega)) (Ev.chk (by omega) ?_)
    unfold KY
    refine Ev.bind (T.dm _ (by unfold big; omega)) (Ev.ite (fun e1 => ?_) (fun e1=>Ev.ret' (by rw [e1]; simp)))
    refine Ev.bind (T.aV (by unfold lim; omega) hd) (Ev.ite (fun e2 => ?_) (fun e2=>Ev.ret' (by rw [e2]; simp)))
    refine Ev.bind (T.cZ _ _ _) (Ev.ite (fun e3 => ?_) (fun e3=>Ev.ret' (by rw [e3]; simp)))
    rw [e1,e2,e3]
    have ih':=ih (i+1) (by omega)
    unfold KY at ih'
    rw [Nat.add_sub_cancel] at ih'
    by_cases h0:0<i
    · have e:IntKind.wrap .i64 ((i:Int)-1)=((i-1:Nat):Int):=wrapN (by omega) (by omega)
      rw [e,Int.toNat_natCast]
      rw [JB h0 (by rw [pK]; exact hil),vG hil,vG (by omega:i-1<s.Items.length)]
      refine Ev.ct (decide_eq_true (by omega)) (Ev.chk (by omega) (Ev.ite (fun h1=>Ev.ret' ?_) (fun h1=>Ev.ite (fun h2=>Ev.ret' ?_) (fun h2 => ?_))))
      · rw [show bl (s.Items.getD (i-1) default).Name (s.Items.getD i default).Name=false from EE h1]; simp
      · rw [beq_iff_eq] at h2
        rw [show bl (s.Items.getD (i-1) default).Name (s.Items.getD i default).Name=false by rw [h2]; exact BQ _]; simp
      · have hb:bl (s.Items.getD (i-1) default).Name (s.Items.getD i default).Name=true:=by
          cases hb:bl (s.Items.getD (i-1) default).Name (s.Items.getD i default).Name with
          | true=>rfl
          | false=>rw [zJ h1 hb] at h2; simp at h2
        rw [hb]
        exact ih'.eq (by simp)
    · have:i=0:=by omega
      subst this
      exact Ev.cf (by decide) (ih'.eq (by simp))
theorem T.aZ:Ev (fun f=>G.aZ f s) (wP s):=by
  refine Ev.up ?_
  simp only [G.aZ]
  exact T.aZ.L1 hB h s.Items.length 0 (by omega)
theorem T.aW.L1:∀ (k i:Nat),i+k=s.Items.length->Ev (fun f=>G.aW.L1 f s i) ((s.Items.drop i).all (KY s.Clock)&&Asc ((pX s.Items).drop (i-1))):=by
  have hl:=h.len
  unfold lim at hB
  intro k
  induction k with
  | zero =>
    intro i hi
    refine Ev.up ?_
    simp only [G.aW.L1]
    rw [List.drop_of_length_le (by omega),NH (by rw [pK]; omega)]
    exact Ev.cf (decide_eq_false (by omega)) (Ev.ret _)
  | succ k ih =>
    intro i hi
    have hil:i<s.Items.length:=by omega
    obtain ⟨hn,⟨D,hd⟩⟩:=h.at_ hil
    refine Ev.up ?_
    simp only [G.aW.L1,Int.toNat_natCast,bP (show i+1<9223372036854775808 by omega)]
    rw [bK (default:aB) hil,List.all_cons]
    have ih':=ih (i+1) (by omega)
    rw [Nat.add_sub_cancel] at ih'
    refine Ev.ct (decide_eq_true (by omega)) (Ev.chk (by omega) ?_)
    refine Ev.bind (T.fK _ (by unfold big; omega)) (Ev.ite (fun e1 => ?_) (fun e1=>Ev.ret' (by unfold KY; rw [e1]; simp)))
    have tail:∀ q:Bool,(q=true->Asc ((pX s.Items).drop (i-1))=Asc ((pX s.Items).drop i))->q=true->Ev (fun f=>cond (decide ((s.Items.getD i default).Version<1)) (some false) (cond (decide (s.Clock<(s.Items.getD i default).Version)) (some false)
        (Option.bind (G.aH f (s.Items.getD i default).Node) fun v=>cond v (G.aW.L1 f s ((i+1:Nat):Int)) (some false)))) (KY s.Clock (s.Items.getD i default)&&(s.Items.drop (i+1)).all (KY s.Clock)&&Asc ((pX s.Items).drop (i-1))):=fun q hq hq'=>by
      rw [hq hq']
      refine Ev.ite (fun v1=>Ev.ret' ?_) (fun v1=>Ev.ite (fun v2=>Ev.ret' ?_) (fun v2 => ?_))
      · simp only [decide_eq_true_eq] at v1
        unfold KY
        rw [decide_eq_false (show ¬ 1<=(s.Items.getD i default).Version by omega)]; simp
      · simp only [decide_eq_true_eq] at v2
        unfold KY
        rw [decide_eq_false (show ¬ (s.Items.getD i default).Version<=s.Clock by omega)]; simp
      · simp only [decide_eq_false_iff_not] at v1 v2
        refine Ev.bind (T.aH (by unfold lim; omega) hd) (Ev.ite (fun e2 => ?_) (fun e2=>Ev.ret' (by unfold KY; rw [e2]; simp)))
        refine ih'.eq ?_
        have:KY s.Clock (s.Items.getD i default)=true:=by
          unfold KY
          rw [e1,e2,decide_eq_true (show 1<=(s.Items.getD i default).Version by omega),decide_eq_true (show (s.Items.getD i default).Version<=s.Clock by omega)]; rfl
        rw [this]; rfl
    by_cases h0:0<i
    · have e:IntKind.wrap .i64 ((i:Int)-1)=((i-1:Nat):Int):=wrapN (by omega) (by omega)
      rw [e,Int.toNat_natCast]
      have hst:=JB h0 (l:=pX s.Items) (by rw [pK]; exact hil)
      rw [vG hil,vG (by omega:i-1<s.Items.length)] at hst
      refine Ev.ct (decide_eq_true (by omega)) (Ev.chk (by omega) (Ev.ite (fun h1 => ?_) (fun h1=>Ev.ret' ?_)))
      · exact tail true (fun _=>by rw [hst,show bl (s.Items.getD (i-1) default).Name (s.Items.getD i default).Name=true from h1]; rfl) rfl
      · rw [hst,show bl (s.Items.getD (i-1) default).Name (s.Items.getD i default).Name=false from h1]; simp
    · have:i=0:=by omega
      subst this
      exact Ev.cf (by decide) (tail true (fun _=>rfl) rfl)
theorem T.aW:Ev (fun f=>G.aW f s) (wP s):=by
  refine Ev.up ?_
  simp only [G.aW]
  unfold wP
  refine Ev.ite (fun e=>Ev.ret' ?_) (fun e=>Ev.ite (fun e2=>Ev.ret' ?_) (fun e2=>Ev.ite (fun e3=>Ev.ret' ?_) (fun e3 => ?_)))
  · rw [decide_eq_false (show ¬ s.Items.length<=10 by simp only [decide_eq_true_eq] at e; omega)]; simp
  · rw [decide_eq_false (show ¬ 0<=s.Clock by simp only [decide_eq_true_eq] at e2; omega)]; simp
  · rw [decide_eq_false (show ¬ s.Clock<=999 by simp only [decide_eq_true_eq] at e3; omega)]; simp
  · simp only [decide_eq_false_iff_not] at e e2 e3
    refine (T.aW.L1 hB h s.Items.length 0 (by omega)).eq ?_
    rw [decide_eq_true (show s.Items.length<=10 by omega),decide_eq_true (show 0<=s.Clock by omega),decide_eq_true (show s.Clock<=999 by omega),List.drop_zero]
    simp
theorem T.aQ:Ev (fun f=>G.aQ f s) s:=by
  have hl:=h.len
  unfold lim at hB
  have L:∀ (k i:Nat),i+k=s.Items.length->Ev (fun f=>G.aQ.L1 f s i (s.Items.take i)) s:=by
    intro k
    induction k with
    | zero =>
      intro i hi
      refine Ev.up ?_
      simp only [G.aQ.L1]
      refine Ev.cf (decide_eq_false (by omega)) (Ev.ret' ?_)
      rw [List.take_of_length_le (by omega)]
    | succ k ih =>
      intro i hi
      have hil:i<s.Items.length:=by omega
      obtain ⟨hn,⟨D,hd⟩⟩:=h.at_ hil
      refine Ev.up ?_
      simp only [G.aQ.L1,Int.toNat_natCast,bP (show i+1<9223372036854775808 by omega)]
      refine Ev.ct (decide_eq_true (by omega)) (Ev.chk (by omega) (Ev.chk (by omega) (Ev.chk (by omega) (Ev.bind (T.au (by unfold lim; omega) hd) (Ev.chk (by simp; omega) ?_)))))
      have:=ih (i+1) (by omega)
      rw [List.take_succ_eq_append_getElem hil,<- bM (default:aB) hil] at this
      exact this
  refine Ev.up ?_
  simp only [G.aQ]
  exact L s.Items.length 0 (by omega)
theorem T.bf:Ev (fun f=>G.bf f s) s:=by
  have hl:=h.len
  unfold lim at hB
  have L:∀ (k i:Nat),i+k=s.Items.length->Ev (fun f=>G.bf.L1 f s i (s.Items.take i++List.replicate (s.Items.length-i) (aB.mk [] 0 (af.mk 0 0 [] [] [])))) s:=by
    intro k
    induction k with
    | zero =>
      intro i hi
      refine Ev.up ?_
      simp only [G.bf.L1]
      refine Ev.cf (decide_eq_false (by omega)) (Ev.ret' ?_)
      rw [List.take_of_length_le (by omega),show s.Items.length-i=0 by omega,List.replicate_zero,List.append_nil]
    | succ k ih =>
      intro i hi
      have hil:i<s.Items.length:=by omega
      obtain ⟨hn,⟨D,hd⟩⟩:=h.at_ hil
      have hc:Ev (fun f=>G.jV f (s.Items.getD i default)) (s.Items.getD i default):=by
        refine Ev.up ?_
        simp only [G.jV]
        exact Ev.bind (T.ax (by unfold lim; omega) hd) (Ev.ret _)
      refine Ev.up ?_
      simp only [G.bf.L1,Int.toNat_natCast,bP (show i+1<9223372036854775808 by omega)]
      refine Ev.ct (decide_eq_true (by omega)) (Ev.chk (by omega) (Ev.bind hc (Ev.chk (by simp; omega) ?_)))
      have hset:(s.Items.take i++List.replicate (s.Items.length-i) (aB.mk [] 0 (af.mk 0 0 [] [] []))).set i (s.Items.getD i default)=s.Items.take (i+1)++List.replicate (s.Items.length-(i+1)) (aB.mk [] 0 (af.mk 0 0 [] [] [])):=by
        obtain ⟨q,hq⟩:∃ q,s.Items.length-i=q+1:=⟨s.Items.length-i-1,by omega⟩
        have e1:(s.Items.take i).length=i:=by simp; omega
        rw [hq,List.replicate_succ,List.set_append_right _ _ (by omega),e1,Nat.sub_self,List.set_cons_zero,show s.Items.length-(i+1)=q by omega,List.take_succ_eq_append_getElem hil,bM _ hil,List.append_assoc]
        rfl
      rw [hset]
      exact ih (i+1) (by omega)
  refine Ev.up ?_
  simp only [G.bf]
  refine Ev.ite (fun e => ?_) (fun e=>Ev.ret' ?_)
  · refine Ev.chk (by omega) ?_
    have:=L s.Items.length 0 (by omega)
    rw [List.take_zero,List.nil_append,Nat.sub_zero] at this
    exact this
  · have:s.Items=[]:=List.eq_nil_of_length_eq_zero (by simp only [decide_eq_false_iff_not] at e; omega)
    cases s
    simp only at this
    subst this
    rfl
end
structure OD (s:StoreT):Prop where
  WZ:∀ it,it∈s.Items->KY s.Clock it=true
  AA:Asc (pX s.Items)=true
  len:s.Items.length<=10
  lo:0<=s.Clock
  hi:s.Clock<=999
theorem oH {s:StoreT} : wP s=true<->OD s:=by
  unfold wP
  simp only [Bool.and_eq_true,decide_eq_true_eq,List.all_eq_true]
  exact ⟨fun ⟨⟨h1,h2⟩,h3,h4,h5⟩=>⟨h1,h2,h3,h4,h5⟩,fun h=>⟨⟨h.WZ,h.AA⟩,h.len,h.lo,h.hi⟩⟩
structure XW (c:Int) (it:aB):Prop where
  Jo:KZ it.Name=true
  NZ:Val it.Node=true
  lo:1<=it.Version
  hi:it.Version<=c
theorem Ff {c:Int} {it:aB} : KY c it=true<->XW c it:=by
  unfold KY
  simp only [Bool.and_eq_true,decide_eq_true_eq]
  exact ⟨fun ⟨h1,h2,h3,h4⟩=>⟨h1,h2,h3,h4⟩,fun h=>⟨h.Jo,h.NZ,h.lo,h.hi⟩⟩
theorem Fq {s:aC} (h:KZ s=true):1<=s.length/\s.length<=8:=by
  unfold KZ at h
  simp only [Bool.and_eq_true,decide_eq_true_eq] at h
  exact h.2
theorem OD.it {s:StoreT} (h:OD s) {i:Nat} (hi:i<s.Items.length):XW s.Clock (s.Items.getD i default):=Ff.1 (h.WZ _ (getD_mem default hi))
theorem OD.fine {s:StoreT} (h:OD s):qH 60 s :=
  ⟨by have:=h.len; omega,fun it hi=>by have:=(Fq (Ff.1 (h.WZ it hi)).Jo).2; omega,fun it hi=>⟨5,mW (Ff.1 (h.WZ it hi)).NZ⟩⟩
def PO:StoreT:=StoreT.mk [] 0
theorem T.Q3.L1 {l:List aB} (t:aC) (hl:l.length<big) (hA:∀ i j,i<j->j<(pX l).length->bl ((pX l).getD i default) ((pX l).getD j default)=true) :
    ∀ (k i j:Nat),j-i<=k->i<=j->j<=l.length->(∀ q,q<i->bl ((pX l).getD q default) t=true)->(∀ q,j<=q->q<(pX l).length->bl ((pX l).getD q default) t=false) ->
      ∃ p:Nat,Ev (fun f=>G.aj.L1 f l t i j) ((p:Int),decide (p<l.length)&&(l.getD p default).Name==t)/\LB (pX l) t p:=by
  unfold big at hl
  have cmp:∀ i,Ev (fun f=>G.jY f (l.getD i default) t) (Go.Lib.compareBytes (l.getD i default).Name t):=fun i=>by
    refine Ev.up ?_
    simp only [G.jY]
    have h1:Ev (fun f=>G.strings_Compare f (l.getD i default).Name t) (Go.Lib.compareBytes (l.getD i default).Name t):=by
      refine Ev.up ?_
      simp only [G.strings_Compare]
      have:Ev (fun f=>G.bV f (l.getD i default).Name t) (Go.Lib.compareBytes (l.getD i default).Name t):=by
        refine Ev.up ?_
        simp only [G.bV]
        exact Ev.ret _
      exact Ev.bind this (Ev.ret _)
    exact Ev.bind h1 (Ev.ret _)
  have neg:∀ x y:aC,decide (Go.Lib.compareBytes x y<0)=bl x y:=fun x y=>by
    rw [VE]
    cases h:bl x y with
    | true=>rw [if_pos rfl]; rfl
    | false=>rw [if_neg (by simp)]; by_cases e:x=y<;>simp [e]
  have Yf:∀ x y:aC,(Go.Lib.compareBytes x y==0)=(x==y):=fun x y=>by
    rw [Bool.eq_iff_iff,beq_iff_eq,beq_iff_eq]; exact GU
  intro k
  induction k with
  | zero =>
    intro i j hk hij hj hlo hhi
    have:i=j:=by omega
    subst this
    refine ⟨i,Ev.up ?_,by rw [pK]; exact hj,hlo,hhi⟩
    simp only [G.aj.L1,Int.toNat_natCast]
    refine Ev.cf (by simp) (Ev.ite (fun e => ?_) (fun e=>Ev.ret' ?_))
    · have e':i<l.length:=by simpa using e
      refine Ev.chk (by omega) (Ev.bind (cmp i) (Ev.ret' ?_))
      rw [Yf,decide_eq_true e',Bool.true_and]
    · have d1:decide (i<l.length)=false:=by simpa using e
      rw [d1]; rfl
  | succ k ih =>
    intro i j hk hij hj hlo hhi
    by_cases he:i=j
    · exact ih i j (by omega) hij hj hlo hhi
    have h1:(i+j)/2<j:=by omega
    have h2:i<=(i+j)/2:=by omega
    have hat:=vG (l:=l) (i:=(i+j)/2) (by omega)
    cases hc:bl ((pX l).getD ((i+j)/2) default) t with
    | true =>
      obtain ⟨p,g,hp⟩:=ih ((i+j)/2+1) j (by omega) (by omega) hj (fun q hq=>by
        by_cases hq2:q=(i+j)/2
        · rw [hq2]; exact hc
        · exact qh (hA q ((i+j)/2) (by omega) (by rw [pK]; omega)) hc) hhi
      refine ⟨p,Ev.up ?_,hp⟩
      simp only [G.aj.L1]
      refine Ev.ct (by simp; omega) ?_
      rw [half i j (by omega),Int.toNat_natCast]
      refine Ev.chk (by omega) (Ev.bind (cmp _) (Ev.ct (by rw [neg,<- hat]; exact hc) ?_))
      rw [bP (by omega)]
      exact g
    | false =>
      obtain ⟨p,g,hp⟩:=ih i ((i+j)/2) (by omega) h2 (by omega) hlo (fun q hq hq2=>by
        by_cases hq3:q=(i+j)/2
        · rw [hq3]; exact hc
        · cases hb:bl ((pX l).getD q default) t with
          | false=>rfl
          | true=>rw [qh (hA ((i+j)/2) q (by omega) hq2) hb] at hc; cases hc)
      refine ⟨p,Ev.up ?_,hp⟩
      simp only [G.aj.L1]
      refine Ev.ct (by simp; omega) ?_
      rw [half i j (by omega),Int.toNat_natCast]
      refine Ev.chk (by omega) (Ev.bind (cmp _) (Ev.cf (by rw [neg,<- hat]; exact hc) ?_))
      exact g
theorem T.ja {l:List aB} (t:aC) (hl:l.length<big) (hA:Asc (pX l)=true) :
    ∃ p:Nat,Ev (fun f=>G.ja f l t) ((p:Int),decide (p<l.length)&&(l.getD p default).Name==t)/\LB (pX l) t p:=by
  obtain ⟨p,g,hp⟩:=T.Q3.L1 t hl (sZ hA) l.length 0 l.length (by omega) (by omega) (by omega) (fun q hq=>by omega) (fun q h1 h2=>by rw [pK] at h2; omega)
  refine ⟨p,Ev.up ?_,hp⟩
  simp only [G.ja]
  have g':Ev (fun f=>G.aj f l t) ((p:Int),decide (p<l.length)&&(l.getD p default).Name==t):=by
    refine Ev.up ?_
    simp only [G.aj]
    exact g
  exact Ev.bind g' (Ev.ret _)
end Go.Ab
end
section
namespace Go.Ab
open Go
set_option maxRecDepth 100000
set_option linter.unusedSectionVars false
def wY (x:aB):List aB->List aB
  | []=>[x]
  | y::r=>if bl y.Name x.Name then y::wY x r else if y.Name=x.Name then x::r else x::y::r
def Df (s:StoreT) (t:aC) (n:af):StoreT:=StoreT.mk (wY (aB.mk t (s.Clock+1) n) s.Items) (s.Clock+1)
def wO (s:StoreT) (t:aC) (n:af):Option StoreT:=if wP s&&KZ t&&Val n then (some (Df s t n)).filter wP else none
def xE:Option StoreT->StoreT × Bool
  | some s=>(s,true)
  | none=>(PO,false)
theorem Bv {s:StoreT} : xE ((some s).filter wP)=if wP s then (s,true) else (PO,false):=by
  cases h:wP s<;>simp [Option.filter,h,xE]
theorem Bo {y:aB} {r:List aB} : pX (y::r)=y.Name::pX r:=rfl
theorem Oa {x:aB} : ∀ {l:List aB} {p:Nat},LB (pX l) x.Name p->wY x l=if decide (p<l.length)&&(l.getD p default).Name==x.Name then l.set p x else l.take p++[x]++l.drop p
  | [],p,h=>by
    have:p=0:=by have:=h.le; simpa [pX] using this
    subst this
    rfl
  | y::r,0,h=>by
    have hb:bl y.Name x.Name=false:=h.hi 0 (by omega) (by rw [pK]; simp)
    rw [wY,hb,if_neg (by simp)]
    by_cases e:y.Name=x.Name
    · rw [if_pos e,if_pos (by simp [e])]; rfl
    · rw [if_neg e,if_neg (by simp [e])]; rfl
  | y::r,p+1,h=>by
    have hb:bl y.Name x.Name=true:=h.lo 0 (by omega)
    have hr:LB (pX r) x.Name p:=⟨by have:=h.le; rw [pK] at this ⊢; simp at this; omega,fun j hj=>by
      have:=h.lo (j+1) (by omega)
      rwa [Bo,List.getD_cons_succ] at this,fun j h1 h2=>by
      have:=h.hi (j+1) (by omega) (by rw [Bo]; simp; omega)
      rwa [Bo,List.getD_cons_succ] at this⟩
    rw [wY,if_pos hb,Oa hr]
    have e1:(decide (p+1<(y::r).length)&&((y::r).getD (p+1) default).Name==x.Name)=(decide (p<r.length)&&(r.getD p default).Name==x.Name):=by simp
    rw [e1]
    by_cases c:(decide (p<r.length)&&(r.getD p default).Name==x.Name)=true
    · rw [if_pos c,if_pos c]; rfl
    · rw [if_neg c,if_neg c]; rfl
theorem JA {y:aB} {r:List aB} (h:Asc (pX (y::r))=true):Asc (pX r)=true/\∀ z,z∈r->bl y.Name z.Name=true:=by
  rw [Bo] at h
  exact ⟨uA h,fun z hz=>vK h _ (List.mem_map.2 ⟨z,hz,rfl⟩)⟩
theorem uG {x:aB} : ∀ {l:List aB} {it:aB},Asc (pX l)=true->(it∈wY x l<->it=x\/(it∈l/\it.Name ≠ x.Name))
  | [],it,_=>by simp [wY]
  | y::r,it,h=>by
    obtain ⟨h1,h2⟩:=JA h
    rw [wY]
    cases hb:bl y.Name x.Name with
    | true =>
      have hne:=uU hb
      rw [if_pos rfl,List.mem_cons,uG h1,List.mem_cons]
      constructor
      · rintro (e | e | ⟨e,e2⟩)
        · exact .inr ⟨.inl e,e ▸ hne⟩
        · exact .inl e
        · exact .inr ⟨.inr e,e2⟩
      · rintro (e | ⟨e | e,e2⟩)
        · exact .inr (.inl e)
        · exact .inl e
        · exact .inr (.inr ⟨e,e2⟩)
    | false =>
      rw [if_neg (by simp)]
      by_cases e:y.Name=x.Name
      · rw [if_pos e,List.mem_cons,List.mem_cons]
        constructor
        · rintro (q | q)
          · exact .inl q
          · exact .inr ⟨.inr q,fun w=>by have:=uU (h2 it q); rw [e,w] at this; exact this rfl⟩
        · rintro (q | ⟨q | q,w⟩)
          · exact .inl q
          · exact absurd (q ▸ e) w
          · exact .inr q
      · rw [if_neg e,List.mem_cons,List.mem_cons]
        have hx:bl x.Name y.Name=true:=by
          cases k:bl x.Name y.Name with
          | true=>rfl
          | false=>exact absurd (zJ hb k) e
        constructor
        · rintro (q | q | q)
          · exact .inl q
          · exact .inr ⟨.inl q,q ▸ e⟩
          · exact .inr ⟨.inr q,fun w=>by have:=uU (qh hx (h2 it q)); rw [w] at this; exact this rfl⟩
        · rintro (q | ⟨q,_⟩)
          · exact .inl q
          · exact .inr q
theorem FB {x:aB} : ∀ {l:List aB},(wY x l).length<=l.length+1
  | []=>by simp [wY]
  | y::r=>by
    have:=FB (x:=x) (l:=r)
    rw [wY]
    split
    · simp only [List.length_cons]; omega
    · split<;>simp
theorem T.mX {l:List aB} {x:aB} (hl:l.length<=1000) (hA:Asc (pX l)=true):Ev (fun f=>G.mX f l x) (wY x l):=by
  obtain ⟨p,g,hp⟩:=T.ja x.Name (by unfold big; omega) hA
  have hle:=hp.le
  rw [pK] at hle
  rw [Oa hp]
  refine Ev.up ?_
  simp only [G.mX]
  refine Ev.bind g ?_
  cases hc:decide (p<l.length)&&(l.getD p default).Name==x.Name with
  | true =>
    rw [if_pos rfl]
    simp only [Bool.and_eq_true,decide_eq_true_eq] at hc
    exact Ev.ct rfl (Ev.chk (by omega) (Ev.ret' (by rw [Int.toNat_natCast])))
  | false =>
    rw [if_neg (by simp)]
    refine Ev.cf rfl (Ev.bind (Ev.up ?_) (Ev.ret _))
    simp only [G.fO]
    exact Ev.chk (by simp; omega) (Ev.ret' (by rw [Int.toNat_natCast]))
section
variable {B D:Nat} {s:StoreT} {t:aC} {n:af} (hB:B<=lim) (h:qH B s) (ht:t.length<=B) (hn:Fine B D n)
include hB h ht hn
theorem T.lD:Ev (fun f=>G.lD f s t n) (xE (wO s t n)):=by
  refine Ev.up ?_
  simp only [G.lD]
  unfold wO
  refine Ev.bind (T.aW hB h) (Ev.ite (fun e1 => ?_) (fun e1=>Ev.ret' (by rw [e1]; rfl)))
  refine Ev.bind (T.fK _ (by unfold big; unfold lim at hB; omega)) (Ev.ite (fun e2 => ?_) (fun e2=>Ev.ret' (by rw [e1,e2]; rfl)))
  refine Ev.bind (T.aH hB hn) (Ev.ite (fun e3 => ?_) (fun e3=>Ev.ret' (by rw [e1,e2,e3]; rfl)))
  have hs:=oH.1 e1
  have hl:=hs.len
  have hlo:=hs.lo
  have hhi:=hs.hi
  have w:IntKind.wrap .i64 (s.Clock+1)=s.Clock+1:=by rw [pM (by omega) (by omega)]
  rw [e1,e2,e3]
  refine Ev.bind (T.bf hB h) (Ev.bind (T.ax hB hn) ?_)
  rw [w]
  refine Ev.bind (T.mX (by omega) hs.AA) ?_
  have hf:qH 60 (Df s t n):=by
    have:=FB (x:=aB.mk t (s.Clock+1) n) (l:=s.Items)
    refine ⟨by show (wY _ _).length<=_; omega,fun it hi => ?_,fun it hi => ?_⟩
    · rcases (uG hs.AA).1 hi with e | ⟨e,_⟩
      · rw [e]; show t.length<=60; have:=(Fq e2).2; omega
      · exact hs.fine.Jo it e
    · rcases (uG hs.AA).1 hi with e | ⟨e,_⟩
      · rw [e]; exact ⟨5,mW e3⟩
      · exact hs.fine.NZ it e
  refine Ev.bind (T.aW mZ hf) ?_
  show Ev _ (xE ((some (Df s t n)).filter wP))
  rw [Bv]
  cases hv:wP (Df s t n) with
  | true=>exact Ev.ct hv (Ev.ret _)
  | false=>exact Ev.cf hv (Ev.ret _)
end
section
variable {s:StoreT} {t:aC} {n:af}
theorem T.eX.done (hl:s.Items.length<=1000):∀ (k i:Nat) (z:List aB),i+k=s.Items.length->z.length<=i+1->(∀ it,it∈s.Items.drop i->it.Name ≠ t) ->
    Ev (fun f=>G.eX.L3 f s t n s true i z) (StoreT.mk (z++s.Items.drop i) (IntKind.wrap .i64 (s.Clock+1))):=by
  intro k
  induction k with
  | zero =>
    intro i z hi hz _
    refine Ev.up ?_
    simp only [G.eX.L3]
    refine Ev.cf (decide_eq_false (by omega)) (Ev.ct rfl (Ev.ret' ?_))
    rw [List.drop_of_length_le (by omega),List.append_nil]
  | succ k ih =>
    intro i z hi hz hne
    have hil:i<s.Items.length:=by omega
    have hd:=bK (default:aB) hil
    rw [hd] at hne
    have h1:=hne (s.Items.getD i default) (by simp)
    refine Ev.up ?_
    simp only [G.eX.L3]
    refine Ev.ct (decide_eq_true (by omega)) (Ev.ct rfl (Ev.up ?_))
    simp only [G.eX.K4,Int.toNat_natCast,bP (show i+1<9223372036854775808 by omega)]
    refine Ev.chk (by omega) (Ev.cf (by simpa using h1) (Ev.chk (by omega) (Ev.chk (by omega) ?_)))
    refine (ih (i+1) _ (by omega) (by simp; omega) (fun it hit=>hne it (by simp [hit]))).eq ?_
    rw [hd]
    simp
theorem T.eX.more (hl:s.Items.length<=1000) (hA:Asc (pX s.Items)=true):∀ (k i:Nat) (z:List aB),i+k=s.Items.length->z.length<=i ->
    Ev (fun f=>G.eX.L3 f s t n s false i z) (StoreT.mk (z++wY (aB.mk t (IntKind.wrap .i64 (s.Clock+1)) n) (s.Items.drop i)) (IntKind.wrap .i64 (s.Clock+1))):=by
  intro k
  induction k with
  | zero =>
    intro i z hi hz
    refine Ev.up ?_
    simp only [G.eX.L3]
    refine Ev.cf (decide_eq_false (by omega)) (Ev.cf rfl (Ev.chk (by omega) (Ev.ret' ?_)))
    rw [List.drop_of_length_le (by omega)]
    rfl
  | succ k ih =>
    intro i z hi hz
    have hil:i<s.Items.length:=by omega
    have hd:=bK (default:aB) hil
    have later:∀ it,it∈s.Items.drop (i+1)->bl (s.Items.getD i default).Name it.Name=true:=fun it hit=>by
      obtain ⟨j,hj,e⟩:=List.mem_drop_iff_getElem.1 hit
      have hj':i+1+j<s.Items.length:=by omega
      have:=sZ hA i (i+1+j) (by omega) (by rw [pK]; exact hj')
      rw [vG hil,vG hj',bM _ hj',e] at this
      exact this
    refine Ev.up ?_
    simp only [G.eX.L3,Int.toNat_natCast]
    rw [hd,wY]
    refine Ev.ct (decide_eq_true (by omega)) (Ev.cf rfl (Ev.chk (by omega) ?_))
    refine Ev.ite (fun e => ?_) (fun e => ?_)
    · have e:bl (s.Items.getD i default).Name t=true:=e
      rw [if_pos e]
      refine Ev.up ?_
      simp only [G.eX.K4,Int.toNat_natCast,bP (show i+1<9223372036854775808 by omega)]
      refine Ev.chk (by omega) (Ev.cf (by simpa using uU e) (Ev.chk (by omega) (Ev.chk (by omega) ?_)))
      refine (ih (i+1) _ (by omega) (by simp; omega)).eq ?_
      simp
    · have e:bl (s.Items.getD i default).Name t=false:=e
      rw [if_neg (by simp only [e]; simp)]
      refine Ev.chk (by omega) (Ev.up ?_)
      simp only [G.eX.K4,Int.toNat_natCast,bP (show i+1<9223372036854775808 by omega)]
      refine Ev.chk (by omega) (Ev.ite (fun e2 => ?_) (fun e2 => ?_))
      · have e2:(s.Items.getD i default).Name=t:=by simpa using e2
        rw [if_pos e2]
        refine (T.eX.done hl k (i+1) _ (by omega) (by simp; omega) (fun it hit w=>by have:=uU (later it hit); rw [e2,w] at this; exact this rfl)).eq ?_
        simp
      · have e2:(s.Items.getD i default).Name ≠ t:=by simpa using e2
        rw [if_neg e2]
        have hx:bl t (s.Items.getD i default).Name=true:=by
          cases q:bl t (s.Items.getD i default).Name with
          | true=>rfl
          | false=>exact absurd (zJ e q) e2
        refine Ev.chk (by omega) (Ev.chk (by simp; omega) ?_)
        refine (T.eX.done hl k (i+1) _ (by omega) (by simp; omega) (fun it hit w=>by have:=uU (qh hx (later it hit)); rw [w] at this; exact this rfl)).eq ?_
        simp
end
section
variable {B D:Nat} {s:StoreT} {t:aC} {n:af} (hB:B<=lim) (h:qH B s)
include hB h
theorem T.eX (hn:Fine B D n) (hs:OD s):Ev (fun f=>G.eX f s t n) (Df s t n):=by
  have hl:=hs.len
  have hlo:=hs.lo
  have hhi:=hs.hi
  refine Ev.up ?_
  simp only [G.eX]
  refine Ev.bind (T.au hB hn) (Ev.bind (T.aQ hB h) ?_)
  refine (T.eX.more (by omega) hs.AA s.Items.length 0 [] (by omega) (by simp)).eq ?_
  rw [pM (by omega) (by omega)]
  rfl
theorem KF (hs:OD s) (ht:KZ t=true) (hn:Val n=true):qH 60 (Df s t n):=by
  have:=FB (x:=aB.mk t (s.Clock+1) n) (l:=s.Items)
  have:=hs.len
  refine ⟨by show (wY _ _).length<=_; omega,fun it hi => ?_,fun it hi => ?_⟩
  · rcases (uG hs.AA).1 hi with e | ⟨e,_⟩
    · rw [e]; show t.length<=60; have:=(Fq ht).2; omega
    · exact hs.fine.Jo it e
  · rcases (uG hs.AA).1 hi with e | ⟨e,_⟩
    · rw [e]; exact ⟨5,mW hn⟩
    · exact hs.fine.NZ it e
theorem T.nN (ht:t.length<=B) (hn:Fine B D n):Ev (fun f=>G.nN f s t n) (xE (wO s t n)):=by
  refine Ev.up ?_
  simp only [G.nN]
  unfold wO
  refine Ev.bind (T.aZ hB h) (Ev.ite (fun e1 => ?_) (fun e1=>Ev.ret' (by rw [e1]; rfl)))
  refine Ev.bind (T.dm _ (by unfold big; unfold lim at hB; omega)) (Ev.ite (fun e2 => ?_) (fun e2=>Ev.ret' (by rw [e1,e2]; rfl)))
  refine Ev.bind (T.aV hB hn) (Ev.ite (fun e3 => ?_) (fun e3=>Ev.ret' (by rw [e1,e2,e3]; rfl)))
  have hs:=oH.1 e1
  rw [e1,e2,e3]
  refine Ev.bind (T.eX hB h hn hs) (Ev.bind (T.aZ mZ (KF hB h hs e2 e3)) ?_)
  show Ev _ (xE ((some (Df s t n)).filter wP))
  rw [Bv]
  cases hv:wP (Df s t n) with
  | true=>exact Ev.ct rfl (Ev.ret _)
  | false=>exact Ev.cf rfl (Ev.ret _)
end
theorem FC {s m:StoreT} {t:aC} {n:af} (h:wO s t n=some m):wP s=true/\KZ t=true/\Val n=true/\m=Df s t n/\wP m=true:=by
  unfold wO at h
  split at h
  · rename_i c
    obtain ⟨⟨c1,c2⟩,c3⟩:(wP s=true/\KZ t=true)/\Val n=true:=by simpa using c
    obtain ⟨h1,h2⟩:=Option.filter_eq_some_iff.1 h
    cases h1
    exact ⟨c1,c2,c3,rfl,h2⟩
  · cases h
def Eh (l:List aB) (t:aC):Option Nat:=(List.range' 0 l.length).find? fun i=>(l.getD i default).Name==t
theorem uF {l:List aB} {t:aC} {j:Nat} : Eh l t=some j<->(j<l.length/\(l.getD j default).Name=t/\∀ q,q<j->(l.getD q default).Name ≠ t):=by
  unfold Eh
  rw [uq]
  constructor
  · rintro ⟨_,h2,h3,h4⟩
    exact ⟨by omega,by simpa using h3,fun q hq=>by simpa using h4 q (by omega) hq⟩
  · rintro ⟨h2,h3,h4⟩
    exact ⟨by omega,by omega,by simpa using h3,fun q _ hq=>by simpa using h4 q hq⟩
theorem J3 {l:List aB} {t:aC} : Eh l t=none<->∀ it,it∈l->it.Name ≠ t:=by
  unfold Eh
  rw [yE]
  constructor
  · intro h it hit
    obtain ⟨i,hi,e⟩:=List.mem_iff_getElem.1 hit
    have:=h i (by omega) (by omega)
    rw [bM _ hi,e] at this
    simpa using this
  · intro h q _ hq
    have:=h _ (getD_mem default (show q<l.length by omega))
    simpa using this
theorem T.iE {s:StoreT} (t:aC) (hl:s.Items.length<=lim):Ev (fun f=>G.iE f s t) (sS (Eh s.Items t)):=by
  unfold lim at hl
  have L:∀ (k i:Nat),i+k=s.Items.length->Ev (fun f=>G.iE.L1 f s t i) (sS ((List.range' i k).find? fun i=>(s.Items.getD i default).Name==t)):=by
    intro k
    induction k with
    | zero =>
      intro i hi
      refine Ev.up ?_
      simp only [G.iE.L1]
      exact Ev.cf (decide_eq_false (by omega)) (Ev.ret _)
    | succ k ih =>
      intro i hi
      refine Ev.up ?_
      simp only [G.iE.L1,Int.toNat_natCast,bP (show i+1<9223372036854775808 by omega)]
      rw [List.range'_succ,List.find?_cons]
      refine Ev.ct (decide_eq_true (by omega)) (Ev.chk (by omega) (Ev.ite (fun e=>Ev.ret' ?_) (fun e => ?_)))
      · simp only [show ((s.Items.getD i default).Name==t)=true from e]; rfl
      · simp only [show ((s.Items.getD i default).Name==t)=false from e]
        exact ih (i+1) (by omega)
  refine Ev.up ?_
  simp only [G.iE]
  exact L s.Items.length 0 (by omega)
def QX (s:StoreT) (t:aC):StoreT:=StoreT.mk (s.Items.filter fun it => !(it.Name==t)) (s.Clock+1)
def uS (s:StoreT) (t:aC):Option StoreT:=if wP s&&(Eh s.Items t).isSome && !(s.Clock==999) then some (QX s t) else none
theorem T.iO {B:Nat} {s:StoreT} {t:aC} (hB:B<=lim) (h:qH B s) (hs:OD s):Ev (fun f=>G.iO f s t) (QX s t):=by
  have hl:=hs.len
  have hlo:=hs.lo
  have hhi:=hs.hi
  have L:∀ (k i:Nat) (z:List aB),i+k=s.Items.length->z.length<=i->Ev (fun f=>G.iO.L1 f s t s i z) (StoreT.mk (z++(s.Items.drop i).filter fun it => !(it.Name==t)) (IntKind.wrap .i64 (s.Clock+1))):=by
    intro k
    induction k with
    | zero =>
      intro i z hi hz
      refine Ev.up ?_
      simp only [G.iO.L1]
      refine Ev.cf (decide_eq_false (by omega)) (Ev.ret' ?_)
      rw [List.drop_of_length_le (by omega)]; simp
    | succ k ih =>
      intro i z hi hz
      have hil:i<s.Items.length:=by omega
      refine Ev.up ?_
      simp only [G.iO.L1,Int.toNat_natCast,bP (show i+1<9223372036854775808 by omega)]
      rw [bK (default:aB) hil,List.filter_cons]
      refine Ev.ct (decide_eq_true (by omega)) (Ev.chk (by omega) (Ev.ite (fun e => ?_) (fun e => ?_)))
      · rw [show ((s.Items.getD i default).Name==t)=true from e]
        exact (ih (i+1) z (by omega) (by omega)).eq (by simp)
      · rw [show ((s.Items.getD i default).Name==t)=false from e]
        refine Ev.chk (by omega) (Ev.chk (by omega) ?_)
        exact (ih (i+1) _ (by omega) (by simp; omega)).eq (by simp)
  refine Ev.up ?_
  simp only [G.iO]
  refine Ev.bind (T.aQ hB h) ((L s.Items.length 0 [] (by omega) (by simp)).eq ?_)
  rw [pM (by omega) (by omega)]
  rfl
theorem T.mQ {B:Nat} {s:StoreT} {t:aC} (hB:B<=lim) (h:qH B s):Ev (fun f=>G.mQ f s t) (xE (uS s t)):=by
  have hl:=h.len
  refine Ev.up ?_
  simp only [G.mQ]
  unfold uS
  refine Ev.bind (T.aZ hB h) (Ev.ite (fun e1 => ?_) (fun e1=>Ev.ret' (by rw [e1]; rfl)))
  refine Ev.bind (T.iE t (Nat.le_trans hl hB)) ?_
  cases hf:Eh s.Items t with
  | none=>exact Ev.ct (by decide) (Ev.ret' (by rw [e1]; rfl))
  | some j =>
    refine Ev.cf (decide_eq_false (by simp only [sS]; omega)) (Ev.ite (fun e2=>Ev.ret' (by rw [e1,e2]; rfl)) (fun e2 => ?_))
    refine Ev.bind (T.iO hB h (oH.1 e1)) (Ev.ret' (by rw [e1,e2]; rfl))
theorem Uw {l m:List aC} (h:l.Sublist m) (hm:Asc m=true):Asc l=true:=pF.2 ((pF.1 hm).sublist h)
theorem JP {s m:StoreT} {t:aC} (h:uS s t=some m):wP s=true/\(Eh s.Items t).isSome=true/\s.Clock ≠ 999/\m=QX s t/\wP m=true:=by
  unfold uS at h
  split at h
  · rename_i c
    obtain ⟨⟨c1,c2⟩,c3⟩:(wP s=true/\(Eh s.Items t).isSome=true)/\s.Clock ≠ 999:=by simpa using c
    cases h
    have hs:=oH.1 c1
    refine ⟨c1,c2,c3,rfl,oH.2 ⟨fun it hit => ?_,?_,?_,?_,?_⟩⟩
    · have:=Ff.1 (hs.WZ it (List.mem_filter.1 hit).1)
      have hhi:=this.hi
      exact Ff.2 ⟨this.Jo,this.NZ,this.lo,by show it.Version<=s.Clock+1; omega⟩
    · exact Uw (List.Sublist.map _ List.filter_sublist) hs.AA
    · show (s.Items.filter _).length<=10
      exact Nat.le_trans (List.length_filter_le _ _) hs.len
    · show 0<=s.Clock+1
      have:=hs.lo
      omega
    · show s.Clock+1<=999
      have:=hs.hi
      omega
  · cases h
end Go.Ab
end
section
namespace Go.Ab
open Go
set_option maxRecDepth 100000
theorem D.Fg {K:Nat} {r:ReaderT} (hr:l9 K r) (hK:K<=1000000000):Dr (K+1) (fun x=>KZ x=true) (fun f=>G.jJ f r):=by
  refine Tot.up ?_
  simp only [G.jJ]
  obtain ⟨x,r',g,hx,hr'⟩:=T.of hr hK [[97],[98],[100,111,99],[122,122],[97,49],[109],[120,57],[98,111,111,107],[97,98,99,100,101,102,103,104],[113]] (by decide) (by decide)
  exact Tot.qJ g (Tot.ret ⟨List.all_eq_true.1 (by decide:List.all [[97],[98],[100,111,99],[122,122],[97,49],[109],[120,57],[98,111,111,107],[97,98,99,100,101,102,103,104],[113]] KZ=true) x hx,hr'⟩)
theorem D.Hz {K:Nat} {r:ReaderT} (hr:l9 K r) (hK:K<=1000000000):Dr (K+1) (fun x:aC=>x.length<=12) (fun f=>G.jS f r):=by
  refine Tot.up ?_
  simp only [G.jS]
  refine Tot.bind (D.of (m:=12) hr hK _ (by decide) (by decide) (by decide)) ?_
  rintro ⟨x,r'⟩ ⟨hx,hr'⟩
  exact Tot.ret ⟨hx,hr'⟩
theorem Tz:wP PO=true:=by decide
theorem D.uy.K4 {K:Nat} {Q:StoreT->Prop} {s m:StoreT} {j:Nat} {r:ReaderT} {ok:Bool} (hj:j+1<=1000)
    (h1:ok=true->Dr K Q (fun f=>G.dG.L3 f (j:Int) r.b r.p m.Items m.Clock)) (h2:Dr K Q (fun f=>G.dG.L3 f (j:Int) r.b r.p s.Items s.Clock)) :
    Dr K Q (fun f=>G.dG.K4 f ((j+1:Nat):Int) s.Items s.Clock ok r.b r.p m.Items m.Clock):=by
  have w:IntKind.wrap .i64 (((j+1:Nat):Int)-1)=(j:Int):=wrapN (by omega) (by omega)
  refine Tot.up ?_
  simp only [G.dG.K4,w]
  exact Tot.ite (fun e=>h1 e) (fun _=>h2)
theorem D.uy.L3:∀ (j K:Nat) (r:ReaderT) (s:StoreT),j<=12->l9 K r->K+700*j<=500000000->wP s=true ->
    Dr (K+700*j) (fun s=>wP s=true) (fun f=>G.dG.L3 f (j:Int) r.b r.p s.Items s.Clock):=by
  intro j
  induction j with
  | zero =>
    intro K r s _ hr _ hs
    refine Tot.up ?_
    simp only [G.dG.L3]
    exact Tot.ite (fun e=>by simp at e) (fun _=>Tot.ret ⟨hs,hr.mono (by omega)⟩)
  | succ j ih =>
    intro K r s hj hr hK hs
    refine Tot.up ?_
    simp only [G.dG.L3]
    refine Tot.ite (fun _ => ?_) (fun e=>absurd e (by simp))
    refine Tot.bind (D.Fg hr (by omega)) ?_
    rintro ⟨nm,r1⟩ ⟨hnm,hr1⟩
    refine Tot.bind (D.uK hr1 (by omega)) ?_
    rintro ⟨v,r2⟩ ⟨hv,hr2⟩
    have hfs:=(oH.1 hs).fine
    refine Tot.qJ (T.nN mZ hfs (by have:=(Fq hnm).2; omega) (mW hv)) ?_
    refine Tot.bind (D.pick (m:=8) hr2 (by omega) rfl (by decide) (by decide)) ?_
    rintro ⟨x,r3⟩ ⟨_,hr3⟩
    refine Tot.ite (fun _ => ?_) (fun _ => ?_)
    · refine Tot.bind (D.Fg hr3 (by omega)) ?_
      rintro ⟨XK,r4⟩ ⟨Ym,hr4⟩
      refine Tot.qJ (T.mQ mZ hfs) ?_
      refine D.uy.K4 (K:=K+700*(j+1)) (Q:=fun s=>wP s=true) (s:=s) (m:=(xE (uS s XK)).1) (r:=r4) (ok:=(xE (uS s XK)).2) (j:=j) (by omega) (fun e => ?_) ?_
      · cases hd:uS s XK with
        | none=>rw [hd] at e; cases e
        | some m =>
          have:=(ih (K+700) r4 m (by omega) (hr4.mono (by omega)) (by omega) (JP hd).2.2.2.2)
          refine Tot.mono this (fun x hx=>⟨hx.1,hx.2.mono (by omega)⟩)
      · exact Tot.mono (ih (K+700) r4 s (by omega) (hr4.mono (by omega)) (by omega) hs) (fun x hx=>⟨hx.1,hx.2.mono (by omega)⟩)
    · refine D.uy.K4 (K:=K+700*(j+1)) (Q:=fun s=>wP s=true) (s:=s) (m:=(xE (wO s nm v)).1) (r:=r3) (ok:=(xE (wO s nm v)).2) (j:=j) (by omega) (fun e => ?_) ?_
      · cases hd:wO s nm v with
        | none=>rw [hd] at e; cases e
        | some m =>
          exact Tot.mono (ih (K+700) r3 m (by omega) (hr3.mono (by omega)) (by omega) (FC hd).2.2.2.2) (fun x hx=>⟨hx.1,hx.2.mono (by omega)⟩)
      · exact Tot.mono (ih (K+700) r3 s (by omega) (hr3.mono (by omega)) (by omega) hs) (fun x hx=>⟨hx.1,hx.2.mono (by omega)⟩)
theorem D.uy {K:Nat} {r:ReaderT} (hr:l9 K r) (hK:K<=400000000):Dr (K+9000) (fun s=>wP s=true) (fun f=>G.dG f r):=by
  refine Tot.up ?_
  simp only [G.dG]
  obtain ⟨x,r1,g,hx,hr1⟩:=T.one hr (by omega) [3,4,2,5,0,12] (by decide) (by decide)
  refine Tot.qJ g ?_
  obtain ⟨j,hj,rfl⟩:∃ j:Nat,j<=12/\x=(j:Int):=by
    simp only [List.mem_cons,List.not_mem_nil,or_false] at hx
    rcases hx with rfl | rfl | rfl | rfl | rfl | rfl
    · exact ⟨3,by omega,rfl⟩
    · exact ⟨4,by omega,rfl⟩
    · exact ⟨2,by omega,rfl⟩
    · exact ⟨5,by omega,rfl⟩
    · exact ⟨0,by omega,rfl⟩
    · exact ⟨12,by omega,rfl⟩
  exact Tot.mono (D.uy.L3 j (K+1) r1 PO hj hr1 (by omega) Tz) (fun x hx=>⟨hx.1,hx.2.mono (by omega)⟩)
theorem G5 {s:StoreT} {x:aB} (h:qH 60 s) (hx:x.Name.length<=60) (hn:qG 60 x.Node):qH 60 (StoreT.mk (s.Items.set 0 x) s.Clock):=by
  refine ⟨by show (s.Items.set 0 x).length<=60; rw [List.length_set]; exact h.len,fun it hi => ?_,fun it hi => ?_⟩
  · rcases List.mem_or_eq_of_mem_set hi with e | e
    · exact h.Jo it e
    · exact e ▸ hx
  · rcases List.mem_or_eq_of_mem_set hi with e | e
    · exact h.NZ it e
    · exact e ▸ hn
theorem D.QE {K:Nat} {r:ReaderT} (hr:l9 K r) (hK:K<=300000000):Dr (K+10000) (qH 60) (fun f=>G.lQ f r):=by
  refine Tot.up ?_
  simp only [G.lQ]
  refine Tot.bind (D.uy hr (by omega)) ?_
  rintro ⟨s,r1⟩ ⟨hs,hr1⟩
  have hs:wP s=true:=hs
  have hf:=(oH.1 hs).fine
  have hl:=(oH.1 hs).len
  refine Tot.bind (D.pick (m:=30) hr1 (by omega) rfl (by decide) (by decide)) ?_
  rintro ⟨x,r2⟩ ⟨_,hr2⟩
  refine Tot.ite (fun _ => ?_) (fun _=>Tot.ite (fun _ => ?_) (fun _=>Tot.ite (fun _=>Tot.ite (fun e => ?_) (fun _=>Tot.ret ⟨hf,hr2.mono (by omega)⟩)) (fun _=>Tot.ite (fun _=>Tot.ite (fun e => ?_) (fun _=>Tot.ret ⟨hf,hr2.mono (by omega)⟩)) (fun _=>Tot.ret ⟨hf,hr2.mono (by omega)⟩))))
  · refine Tot.bind (D.one hr2 (by omega) _ (by decide) (by decide)) ?_
    rintro ⟨c,r3⟩ ⟨_,hr3⟩
    exact Tot.ret ⟨⟨hf.len,hf.Jo,hf.NZ⟩,hr3.mono (by omega)⟩
  · refine Tot.bind (D.Hz hr2 (by omega)) ?_
    rintro ⟨b,r3⟩ ⟨hb,hr3⟩
    have hb:b.length<=12:=hb
    refine Tot.chk (by simp only; omega) (Tot.ret ⟨⟨by show (s.Items++_).length<=60; simp; omega,fun it hi => ?_,fun it hi => ?_⟩,hr3.mono (by omega)⟩)
    · rcases List.mem_append.1 hi with e | e
      · exact hf.Jo it e
      · rw [List.mem_singleton.1 e]; show b.length<=60; omega
    · rcases List.mem_append.1 hi with e | e
      · exact hf.NZ it e
      · rw [List.mem_singleton.1 e]; exact ⟨5,mW uN⟩
  · have e':0<s.Items.length:=by simp only [decide_eq_true_eq] at e; omega
    obtain ⟨h1,h2⟩:=hf.at_ e'
    refine Tot.bind (D.one hr2 (by omega) _ (by simp) (by simp)) ?_
    rintro ⟨c,r3⟩ ⟨_,hr3⟩
    exact Tot.chk (by simp only; omega) (Tot.ret ⟨G5 hf h1 h2,hr3.mono (by omega)⟩)
  · have e':0<s.Items.length:=by simp only [decide_eq_true_eq] at e; omega
    obtain ⟨h1,h2⟩:=hf.at_ e'
    refine Tot.bind (D.Eb hr2 (by omega)) ?_
    rintro ⟨v,r3⟩ ⟨⟨E,hv⟩,hr3⟩
    exact Tot.chk (by simp only; omega) (Tot.ret ⟨G5 hf h1 ⟨E,hv.mono (by omega) (Nat.le_refl _)⟩,hr3.mono (by omega)⟩)
end Go.Ab
end
section
namespace Go.Ab
open Go
set_option maxRecDepth 100000
def SI (b:UInt8):Bool:=(decide (48<=b.toNat)&&decide (b.toNat<=57))||(decide (97<=b.toNat)&&decide (b.toNat<=102))
def Gi (s:aC):Bool:=s.all SI&&decide (s.length=4)
def Jq (s:aC):Bool:=s==[42]||Gi s
def xx (l:List aC):Bool:=l.all Jq&&decide (l.length<=4)
def hexD:aC:=[48,49,50,51,52,53,54,55,56,57,97,98,99,100,101,102]
theorem UO:∀ n:Nat,n<256->decide (Go.Lib.indexByte hexD (UInt8.ofNat n)<0) = !SI (UInt8.ofNat n):=by decide +kernel
theorem VS (b:UInt8):decide (Go.Lib.indexByte hexD b<0) = !SI b:=by
  have:=UO b.toNat b.toNat_lt
  rwa [UInt8.ofNat_toNat] at this
theorem T.gV (s:aC) (hs:s.length<big):Ev (fun f=>G.gV f s) (Gi s):=by
  unfold big at hs
  have L:∀ (k i:Nat),i+k=s.length->Ev (fun f=>G.gV.L1 f s i) ((s.drop i).all SI&&decide (s.length=4)):=by
    intro k
    induction k with
    | zero =>
      intro i hi
      refine Ev.up ?_
      simp only [G.gV.L1]
      refine Ev.cf (decide_eq_false (by omega)) (Ev.ret' ?_)
      rw [List.drop_of_length_le (by omega),List.all_nil,Bool.true_and,Bool.eq_iff_iff,beq_iff_eq,decide_eq_true_eq]
      omega
    | succ k ih =>
      intro i hi
      refine Ev.up ?_
      simp only [G.gV.L1,Int.toNat_natCast,vV,bP (show i+1<9223372036854775808 by omega)]
      rw [bK (0:UInt8) (by omega:i<s.length),List.all_cons]
      have e1:(decide ((48:Int)<=((s.getD i 0).toNat:Int))&&decide (((s.getD i 0).toNat:Int)<=57))=(decide (48<=(s.getD i 0).toNat)&&decide ((s.getD i 0).toNat<=57)):=by congr 1<;>(apply decide_eq_decide.2; omega)
      have e2:(decide ((97:Int)<=((s.getD i 0).toNat:Int))&&decide (((s.getD i 0).toNat:Int)<=102))=(decide (97<=(s.getD i 0).toNat)&&decide ((s.getD i 0).toNat<=102)):=by congr 1<;>(apply decide_eq_decide.2; omega)
      refine Ev.ct (decide_eq_true (by omega)) (Ev.chk (by omega) (Ev.bind (T.cZ _ _ _) ?_))
      rw [e1]
      refine Ev.ite (fun h => ?_) (fun h => ?_)
      · refine (ih (i+1) (by omega)).eq ?_
        unfold SI
        rw [show (decide (48<=(s.getD i 0).toNat)&&decide ((s.getD i 0).toNat<=57))=true from h,Bool.true_or,Bool.true_and]
      · refine Ev.chk (by omega) (Ev.bind (T.cZ _ _ _) ?_)
        rw [e2]
        refine Ev.ite (fun h2 => ?_) (fun h2=>Ev.ret' ?_)
        · refine (ih (i+1) (by omega)).eq ?_
          unfold SI
          rw [show (decide (97<=(s.getD i 0).toNat)&&decide ((s.getD i 0).toNat<=102))=true from h2,Bool.or_true,Bool.true_and]
        · unfold SI
          rw [show (decide (48<=(s.getD i 0).toNat)&&decide ((s.getD i 0).toNat<=57))=false from h,show (decide (97<=(s.getD i 0).toNat)&&decide ((s.getD i 0).toNat<=102))=false from h2]
          rfl
  refine Ev.up ?_
  simp only [G.gV]
  exact L s.length 0 (by omega)
theorem T.jk (s:aC) (hs:s.length<big):Ev (fun f=>G.jk f s) (Gi s):=by
  unfold big at hs
  have hI:∀ b:UInt8,Ev (fun f=>G.strings_IndexByte f [48,49,50,51,52,53,54,55,56,57,97,98,99,100,101,102] ((b.toNat:Nat):Int)) (Go.Lib.indexByte hexD b):=fun b=>by
    refine Ev.up ?_
    simp only [G.strings_IndexByte]
    refine Ev.bind (Ev.up ?_) (Ev.ret _)
    simp only [G.eH]
    refine Ev.ret' ?_
    rw [Int.toNat_natCast,show b.toNat.toUInt8=b from UInt8.ofNat_toNat]
    rfl
  have L:∀ (k i:Nat),i+k=s.length->Ev (fun f=>G.jk.L1 f s i) ((s.drop i).all SI):=by
    intro k
    induction k with
    | zero =>
      intro i hi
      refine Ev.up ?_
      simp only [G.jk.L1]
      refine Ev.cf (decide_eq_false (by omega)) (Ev.ret' ?_)
      rw [List.drop_of_length_le (by omega)]; rfl
    | succ k ih =>
      intro i hi
      refine Ev.up ?_
      simp only [G.jk.L1,Int.toNat_natCast,bP (show i+1<9223372036854775808 by omega)]
      rw [bK (0:UInt8) (by omega:i<s.length),List.all_cons]
      refine Ev.ct (decide_eq_true (by omega)) (Ev.chk (by omega) (Ev.bind (hI _) ?_))
      rw [VS]
      refine Ev.ite (fun h=>Ev.ret' ?_) (fun h=>(ih (i+1) (by omega)).eq ?_)
      · have:SI (s.getD i 0)=false:=by simpa using h
        rw [this]; rfl
      · have:SI (s.getD i 0)=true:=by simpa using h
        rw [this]; rfl
  refine Ev.up ?_
  simp only [G.jk]
  unfold Gi
  refine Ev.ite (fun e=>Ev.ret' ?_) (fun e => ?_)
  · have:¬ s.length=4:=by
      have:((s.length:Nat):Int) ≠ 4:=by simpa using e
      omega
    rw [decide_eq_false this,Bool.and_false]
  · have:s.length=4:=by
      have:((s.length:Nat):Int)=4:=by simpa using e
      omega
    exact (L s.length 0 (by omega)).eq (by rw [decide_eq_true this,Bool.and_true,List.drop_zero])
theorem T.fC {l:List aC} (h:Sm l):Ev (fun f=>G.fC f l) (xx l):=by
  have hl:=h.1
  unfold big at hl
  have L:∀ (k i:Nat),i+k=l.length->Ev (fun f=>G.fC.L1 f l i) ((l.drop i).all Jq&&decide (l.length<=4)):=by
    intro k
    induction k with
    | zero =>
      intro i hi
      refine Ev.up ?_
      simp only [G.fC.L1]
      refine Ev.cf (decide_eq_false (by omega)) (Ev.ret' ?_)
      rw [List.drop_of_length_le (by omega),List.all_nil,Bool.true_and]
      apply decide_eq_decide.2; omega
    | succ k ih =>
      intro i hi
      refine Ev.up ?_
      simp only [G.fC.L1,Int.toNat_natCast,bP (show i+1<9223372036854775808 by omega)]
      rw [bK (default:aC) (by omega:i<l.length),List.all_cons]
      unfold Jq
      refine Ev.ct (decide_eq_true (by omega)) (Ev.chk (by omega) (Ev.ite (fun e=>(ih (i+1) (by omega)).eq (by rw [e]; rfl)) (fun e=>Ev.chk (by omega) (Ev.bind (T.gV _ (h.get (by omega))) ?_))))
      exact Ev.ite (fun e2=>(ih (i+1) (by omega)).eq (by rw [e,e2]; rfl)) (fun e2=>Ev.ret' (by rw [e,e2]; rfl))
  refine Ev.up ?_
  simp only [G.fC]
  exact L l.length 0 (by omega)
theorem T.fG {l:List aC} (h:Sm l):Ev (fun f=>G.fG f l) (xx l):=by
  have hl:=h.1
  unfold big at hl
  have L:∀ (k i:Nat),i+k=l.length->Ev (fun f=>G.fG.L1 f l i) ((l.drop i).all Jq):=by
    intro k
    induction k with
    | zero =>
      intro i hi
      refine Ev.up ?_
      simp only [G.fG.L1]
      refine Ev.cf (decide_eq_false (by omega)) (Ev.ret' ?_)
      rw [List.drop_of_length_le (by omega)]; rfl
    | succ k ih =>
      intro i hi
      refine Ev.up ?_
      simp only [G.fG.L1,Int.toNat_natCast,bP (show i+1<9223372036854775808 by omega)]
      rw [bK (default:aC) (by omega:i<l.length),List.all_cons]
      unfold Jq
      refine Ev.ct (decide_eq_true (by omega)) (Ev.chk (by omega) (Ev.ite (fun e=>(ih (i+1) (by omega)).eq (by rw [e]; rfl)) (fun e=>Ev.bind (T.jk _ (h.get (by omega))) ?_)))
      exact Ev.ite (fun e2=>(ih (i+1) (by omega)).eq (by rw [e,e2]; rfl)) (fun e2=>Ev.ret' (by rw [e,e2]; rfl))
  refine Ev.up ?_
  simp only [G.fG]
  unfold xx
  refine Ev.ite (fun e=>Ev.ret' ?_) (fun e=>(L l.length 0 (by omega)).eq ?_)
  · rw [decide_eq_false (show ¬ l.length<=4 by simp only [decide_eq_true_eq] at e; omega),Bool.and_false]
  · rw [decide_eq_true (show l.length<=4 by simp only [decide_eq_false_iff_not] at e; omega),Bool.and_true,List.drop_zero]
structure Am (B:Nat) (q:RequestT):Prop where
  Jo:q.Name.length<=B
  want:nR B q.Want
  avoid:nR B q.l7
  body:qG B q.Body
  ops:zh q.Ops
def TZ (q:RequestT):Bool:=(decide (1<=q.Method)&&decide (q.Method<=5))&&(KZ q.Name&&(xx q.Want&&(xx q.l7&&(Val q.Body&&Ey q.Ops))))
section
variable {B:Nat} {q:RequestT} (hB:B<=lim) (h:Am B q)
include hB h
theorem T.jf:Ev (fun f=>G.jf f q) (TZ q):=by
  obtain ⟨E,hb⟩:=h.body
  have hn:=h.Jo
  unfold lim at hB
  refine Ev.up ?_
  simp only [G.jf]
  unfold TZ
  refine Ev.bind (T.cZ _ _ _) (Ev.ite (fun e1 => ?_) (fun e1=>Ev.ret' (by rw [e1]; rfl)))
  refine Ev.bind (T.dm _ (by unfold big; omega)) (Ev.ite (fun e2 => ?_) (fun e2=>Ev.ret' (by rw [e1,e2]; rfl)))
  refine Ev.bind (T.fC (h.want.sm (by unfold lim; omega))) (Ev.ite (fun e3 => ?_) (fun e3=>Ev.ret' (by rw [e1,e2,e3]; rfl)))
  refine Ev.bind (T.fC (h.avoid.sm (by unfold lim; omega))) (Ev.ite (fun e4 => ?_) (fun e4=>Ev.ret' (by rw [e1,e2,e3,e4]; rfl)))
  refine Ev.bind (T.aV (by unfold lim; omega) hb) (Ev.ite (fun e5 => ?_) (fun e5=>Ev.ret' (by rw [e1,e2,e3,e4,e5]; rfl)))
  exact Ev.bind (T.dB h.ops) (Ev.ret' (by rw [e1,e2,e3,e4,e5]; rfl))
theorem T.kz:Ev (fun f=>G.kz f q) (TZ q):=by
  obtain ⟨E,hb⟩:=h.body
  have hn:=h.Jo
  unfold lim at hB
  refine Ev.up ?_
  simp only [G.kz]
  unfold TZ
  refine Ev.ite (fun e0 => ?_) (fun e0=>Ev.ret' (by rw [e0]; rfl))
  refine Ev.ite (fun e1 => ?_) (fun e1=>Ev.ret' (by rw [e0,e1]; rfl))
  refine Ev.bind (T.fK _ (by unfold big; omega)) (Ev.ite (fun e2 => ?_) (fun e2=>Ev.ret' (by rw [e0,e1,e2]; rfl)))
  refine Ev.bind (T.fG (h.want.sm (by unfold lim; omega))) (Ev.ite (fun e3 => ?_) (fun e3=>Ev.ret' (by rw [e0,e1,e2,e3]; rfl)))
  refine Ev.bind (T.fG (h.avoid.sm (by unfold lim; omega))) (Ev.ite (fun e4 => ?_) (fun e4=>Ev.ret' (by rw [e0,e1,e2,e3,e4]; rfl)))
  refine Ev.bind (T.aH (by unfold lim; omega) hb) (Ev.ite (fun e5 => ?_) (fun e5=>Ev.ret' (by rw [e0,e1,e2,e3,e4,e5]; rfl)))
  exact Ev.bind (T.di h.ops) (Ev.ret' (by rw [e0,e1,e2,e3,e4,e5]; rfl))
end
structure Va (l:List RequestT):Prop where
  len:l.length<=1000
  req:∀ q,q∈l->Am 60 q
theorem Va.at_ {l:List RequestT} (h:Va l) {i:Nat} (hi:i<l.length):Am 60 (l.getD i default):=h.req _ (getD_mem default hi)
end Go.Ab
end
section
namespace Go.Ab
open Go
set_option maxRecDepth 100000
def Iz (z:Int):aC:=if z<0 then 45::tC (-z).toNat else tC z.toNat
def BC (b:UInt8):aC:=if b=34\/b=92 then [92,b] else [b]
def DY (s:aC):aC:=34::(s.flatMap BC++[34])
def rW (F:af->aC) (n:af) (i:Nat):aC:=((if 0<i then [44] else [])++(if n.Kind=4 then DY (n.Names.getD i default)++[58] else []))++F (n.Kids.getD i default)
def o5:Nat->af->aC
  | 0,_=>[]
  | d+1,n=>if n.Kind=1 then Iz n.Num else if n.Kind=2 then DY n.Text else if n.Kind=0 then [110,117,108,108] else
    if n.Kind=4 then ([123]++(List.range' 0 n.Kids.length).flatMap (rW (o5 d) n))++[125] else ([91]++(List.range' 0 n.Kids.length).flatMap (rW (o5 d) n))++[93]
theorem Ci {d:Nat} {n:af} : o5 (d+1) n=if n.Kind=1 then Iz n.Num else if n.Kind=2 then DY n.Text else if n.Kind=0 then [110,117,108,108] else
    if n.Kind=4 then ([123]++(List.range' 0 n.Kids.length).flatMap (rW (o5 d) n))++[125] else ([91]++(List.range' 0 n.Kids.length).flatMap (rW (o5 d) n))++[93]:=by rw [o5]
theorem maxL:4000000000<=maxLen:=by decide
theorem I7 (s:aC):(DY s).length<=2*s.length+2:=by
  have:(s.flatMap BC).length<=2*s.length:=by
    induction s with
    | nil=>simp
    | cons b s ih =>
      rw [List.flatMap_cons,List.length_append,List.length_cons]
      have:(BC b).length<=2:=by unfold BC; split<;>simp
      omega
  unfold DY
  simp only [List.length_cons,List.length_append,List.length_nil]
  omega
theorem Gx {s:aC} {i:Nat} (h:i<s.length):(s.take (i+1)).drop i=[s.getD i 0]:=by
  rw [List.take_succ_eq_append_getElem h,List.drop_append_of_le_length (by simp; omega),List.drop_of_length_le (by rw [List.length_take]; omega),List.nil_append,bM _ h]
theorem T.iW (s:aC) (hs:s.length<=1000000):Ev (fun f=>G.iW f s) (DY s):=by
  have hM:=maxL
  have L:∀ (k i:Nat) (z:aC),i+k=s.length->z.length<=2*i+1->Ev (fun f=>G.iW.L1 f s z i) (z++((s.drop i).flatMap BC++[34])):=by
    intro k
    induction k with
    | zero =>
      intro i z hi hz
      refine Ev.up ?_
      simp only [G.iW.L1]
      refine Ev.cf (decide_eq_false (by omega)) (Ev.chk (by omega) (Ev.ret' ?_))
      rw [List.drop_of_length_le (by omega)]; rfl
    | succ k ih =>
      intro i z hi hz
      have hil:i<s.length:=by omega
      have e1:=Gx hil
      have two:s.getD i 0=34\/s.getD i 0=92->Ev (fun f=>G.iW.L1 f s ((z++[92])++[s.getD i 0]) ((i+1:Nat):Int)) (z++((s.drop i).flatMap BC++[34])):=fun hq=>by
        refine (ih (i+1) _ (by omega) (by simp; omega)).eq ?_
        rw [bK (0:UInt8) hil,List.flatMap_cons]
        have:BC (s.getD i 0)=[92,s.getD i 0]:=if_pos hq
        rw [this]
        simp
      have Xk:∀ c:UInt8,((((s.getD i 0).toNat:Nat):Int)==((c.toNat:Nat):Int))=(s.getD i 0==c):=fun c=>by
        rw [Bool.eq_iff_iff,beq_iff_eq,beq_iff_eq]
        exact ⟨fun h=>UInt8.toNat_inj.1 (by omega),fun h=>by rw [h]⟩
      refine Ev.up ?_
      simp only [G.iW.L1,Int.toNat_natCast,bP (show i+1<9223372036854775808 by omega),e1]
      refine Ev.ct (decide_eq_true (by omega)) (Ev.chk (by omega) (Ev.ite (fun h => ?_) (fun h => ?_)))
      · have h:s.getD i 0=34:=by rw [show ((34:Int))=(((34:UInt8).toNat:Nat):Int) from rfl,Xk] at h; simpa using h
        exact Ev.chk (by omega) (Ev.chk (by omega) (Ev.chk (by simp only [List.length_singleton]; omega) (two (.inl h))))
      · have h:s.getD i 0 ≠ 34:=by rw [show ((34:Int))=(((34:UInt8).toNat:Nat):Int) from rfl,Xk] at h; simpa using h
        refine Ev.chk (by omega) (Ev.ite (fun h2 => ?_) (fun h2 => ?_))
        · have h2:s.getD i 0=92:=by rw [show ((92:Int))=(((92:UInt8).toNat:Nat):Int) from rfl,Xk] at h2; simpa using h2
          exact Ev.chk (by omega) (Ev.chk (by omega) (Ev.chk (by simp only [List.length_singleton]; omega) (two (.inr h2))))
        · have h2:s.getD i 0 ≠ 92:=by rw [show ((92:Int))=(((92:UInt8).toNat:Nat):Int) from rfl,Xk] at h2; simpa using h2
          refine Ev.chk (by omega) (Ev.chk (by simp only [List.length_singleton]; omega) ?_)
          refine (ih (i+1) _ (by omega) (by simp; omega)).eq ?_
          rw [bK (0:UInt8) hil,List.flatMap_cons]
          have:BC (s.getD i 0)=[s.getD i 0]:=if_neg (fun q=>q.elim h h2)
          rw [this]
          simp
  refine Ev.up ?_
  simp only [G.iW]
  exact (L s.length 0 [34] (by omega) (by simp)).eq (by rw [List.drop_zero]; rfl)
theorem xP:∀ {i:Nat},i<=999999->(tC i).length<=6:=by
  have step:∀ {i m:Nat},(tC (i/10)).length<=m->(tC i).length<=m+1:=fun {i m} h=>by
    rw [tC]
    split
    · simp
    · simp; omega
  intro i h
  have h1:(tC (i/10/10/10/10/10)).length<=1:=by rw [wV (by omega)]; simp
  exact step (step (step (step (step h1))))
theorem QW {z:Int} (h1 : -999999<=z) (h2:z<=999999):(Iz z).length<=7:=by
  unfold Iz
  split
  · have:=xP (i:=(-z).toNat) (by omega)
    simp; omega
  · have:=xP (i:=z.toNat) (by omega)
    omega
theorem T.Qc {z:Int} (h1 : -999999<=z) (h2:z<=999999):Ev (fun f=>G.gB f z) (Iz z):=by
  have hM:=maxL
  unfold Iz
  by_cases h:z<0
  · rw [if_pos h]
    have w:IntKind.wrap .i64 (0-z)=(((-z).toNat:Nat):Int):=wrapN (by omega) (by omega)
    have hl:=xP (i:=(-z).toNat) (by omega)
    refine Ev.up ?_
    simp only [G.gB,w]
    exact Ev.ct (decide_eq_true h) (Ev.cf (by simp only [beq_eq_false_iff_ne]; omega) (Ev.bind (T.decimal (by unfold lim; omega)) (Ev.chk (by omega) (Ev.ret' rfl))))
  · rw [if_neg h]
    obtain ⟨k,rfl⟩:∃ k:Nat,z=k:=⟨z.toNat,by omega⟩
    rw [Int.toNat_natCast]
    exact T.decimal (by unfold lim; omega)
theorem C9 {n:af} (h:Parts n=true) (hk:n.Kind=1) : -999999<=n.Num/\n.Num<=999999:=by
  unfold Parts at h
  simp [hk] at h
  omega
theorem Ac {n:af} (h:Parts n=true):n.Text.length<=12:=by
  by_cases hk:n.Kind=2
  · unfold Parts at h
    simp [hk] at h
    exact Fz h.2.1
  · unfold Parts at h
    simp only [Bool.and_eq_true,Bool.or_eq_true,beq_iff_eq] at h
    have:=h.1.1.2.resolve_left hk
    rw [this]; simp
theorem UH {α:Type} {g:Nat->List α} {m:Nat} : ∀ (k i:Nat),(∀ j,i<=j->j<i+k->(g j).length<=m)->((List.range' i k).flatMap g).length<=k*m:=by
  intro k
  induction k with
  | zero=>intro i _; simp
  | succ k ih =>
    intro i h
    have h1:=h i (by omega) (by omega)
    have h2:=ih (i+1) (fun j h1 h2=>h j (by omega) (by omega))
    rw [List.range'_succ,List.flatMap_cons,List.length_append,Nat.add_mul]
    omega
theorem Eg:∀ (d:Nat) {n:af},Shape d n=true->(o5 d n).length<=200*7^d
  | 0,_,h=>by cases h
  | d+1,n,h=>by
    have hp:=kE h
    have h6:=qy h
    have WQ:1<=7^d:=Nat.one_le_pow _ _ (by omega)
    rw [Ci,Nat.pow_succ]
    have hb:((List.range' 0 n.Kids.length).flatMap (rW (o5 d) n)).length<=6*(28+200*7^d):=by
      refine Nat.le_trans (UH (m:=28+200*7^d) _ _ (fun j _ hj => ?_)) (Nat.mul_le_mul_right _ h6)
      have hj':j<n.Kids.length:=by omega
      have hk:=Eg d (o9 h hj')
      unfold rW
      rw [List.length_append,List.length_append]
      have a1:(if 0<j then ([44]:aC) else []).length<=1:=by split<;>simp
      have a2:(if n.Kind=4 then DY (n.Names.getD j default)++[58] else []).length<=27:=by
        split
        · rename_i h4
          obtain ⟨mn,_,hn⟩:=Bi hp h4
          have:=hn _ (getD_mem default (show j<n.Names.length by rw [<- mn.len]; exact hj'))
          have:=I7 (n.Names.getD j default)
          simp only [List.length_append,List.length_singleton]
          omega
        · simp
      omega
    split
    · rename_i h1
      obtain ⟨b1,b2⟩:=C9 hp h1
      have:=QW b1 b2
      omega
    · split
      · have:=Ac hp
        have:=I7 n.Text
        omega
      · split
        · simp only [List.length_cons,List.length_nil]; omega
        · split
          · simp only [List.length_append,List.length_singleton]; omega
          · simp only [List.length_append,List.length_singleton]; omega
theorem T.bH:∀ (d:Nat) {n:af},d<=5->Shape d n=true->Ev (fun f=>G.bH f n) (o5 d n)
  | 0,_,_,h=>by cases h
  | d+1,n,hd,h=>by
    have hM:=maxL
    have hp:=kE h
    have h6:=qy h
    have WQ:=Dc hd
    rw [Nat.pow_succ] at WQ
    have L:∀ (k i:Nat) (z:aC),i+k=n.Kids.length->z.length<=i*1000000->Ev (fun f=>G.bH.L5 f n z i)
        (if n.Kind=4 then ([123]++(z++(List.range' i k).flatMap (rW (o5 d) n)))++[125] else ([91]++(z++(List.range' i k).flatMap (rW (o5 d) n)))++[93]):=by
      intro k
      induction k with
      | zero =>
        intro i z hi hz
        refine Ev.up ?_
        simp only [G.bH.L5]
        refine Ev.cf (decide_eq_false (by omega)) (Ev.ite (fun e=>Ev.chk (by omega) (Ev.chk (by omega) (Ev.ret' ?_))) (fun e=>Ev.chk (by omega) (Ev.chk (by omega) (Ev.ret' ?_))))
        · rw [if_pos (by simpa using e)]; simp
        · rw [if_neg (by simpa using e)]; simp
      | succ k ih =>
        intro i z hi hz
        have hil:i<n.Kids.length:=by omega
        have hk:=o9 h hil
        have hkl:=Eg d hk
        have K7:∀ z':aC,z'.length<=i*1000000+28->z'++o5 d (n.Kids.getD i default)=z++rW (o5 d) n i->Ev (fun f=>G.bH.K7 f n (i:Int) z')
            (if n.Kind=4 then ([123]++(z++(List.range' i (k+1)).flatMap (rW (o5 d) n)))++[125] else ([91]++(z++(List.range' i (k+1)).flatMap (rW (o5 d) n)))++[93]):=fun z' hz' he=>by
          refine Ev.up ?_
          simp only [G.bH.K7,Int.toNat_natCast,bP (show i+1<9223372036854775808 by omega)]
          refine Ev.chk (by omega) (Ev.bind (T.bH d (by omega) hk) (Ev.chk (by omega) ?_))
          refine (ih (i+1) _ (by omega) (by rw [List.length_append]; omega)).eq ?_
          rw [List.range'_succ,List.flatMap_cons,<- List.append_assoc z,<- he]
        have K6:∀ z':aC,z'=z++(if 0<i then [44] else [])->Ev (fun f=>G.bH.K6 f n (i:Int) z')
            (if n.Kind=4 then ([123]++(z++(List.range' i (k+1)).flatMap (rW (o5 d) n)))++[125] else ([91]++(z++(List.range' i (k+1)).flatMap (rW (o5 d) n)))++[93]):=fun z' he=>by
          have hz':z'.length<=i*1000000+1:=by
            rw [he,List.length_append]
            have:(if 0<i then ([44]:aC) else []).length<=1:=by split<;>simp
            omega
          refine Ev.up ?_
          simp only [G.bH.K6,Int.toNat_natCast]
          by_cases h4:n.Kind=4
          · obtain ⟨mn,_,hn⟩:=Bi hp h4
            have hin:i<n.Names.length:=by rw [<- mn.len]; exact hil
            have h12:=hn _ (getD_mem default hin)
            have hq:=I7 (n.Names.getD i default)
            refine Ev.ct (by simpa using h4) (Ev.chk (by omega) (Ev.bind (T.iW _ (by omega)) (Ev.chk (by omega) (Ev.chk (by omega) (K7 _ (by simp only [List.length_append,List.length_singleton]; omega) ?_)))))
            rw [he]
            unfold rW
            rw [if_pos h4]
            simp
          · refine Ev.cf (by simpa using h4) (K7 z' (Nat.le_trans hz' (Nat.add_le_add_left (by decide) _)) ?_)
            rw [he]
            unfold rW
            rw [if_neg h4]
            simp
        refine Ev.up ?_
        simp only [G.bH.L5]
        refine Ev.ct (decide_eq_true (by omega)) ?_
        by_cases h0:0<i
        · exact Ev.ct (decide_eq_true (by omega)) (Ev.chk (by omega) (K6 _ (by rw [if_pos h0])))
        · exact Ev.cf (decide_eq_false (by omega)) (K6 _ (by rw [if_neg h0,List.append_nil]))
    refine Ev.up ?_
    simp only [G.bH]
    rw [Ci]
    refine Ev.ite (fun e => ?_) (fun e1 => ?_)
    · have e:n.Kind=1:=by simpa using e
      rw [if_pos e]
      obtain ⟨b1,b2⟩:=C9 hp e
      exact Ev.bind (T.Qc b1 b2) (Ev.ret _)
    rw [if_neg (by simpa using e1)]
    refine Ev.ite (fun e => ?_) (fun e2 => ?_)
    · rw [if_pos (by simpa using e)]
      have:=Ac hp
      exact Ev.bind (T.iW _ (by omega)) (Ev.ret _)
    rw [if_neg (by simpa using e2)]
    refine Ev.ite (fun e => ?_) (fun e3 => ?_)
    · rw [if_pos (by simpa using e)]
      exact Ev.ret _
    rw [if_neg (by simpa using e3)]
    exact (L n.Kids.length 0 [] (by omega) (by simp)).eq (by simp)
def Qe (s:aC):Nat:=s.foldl (fun n b=>(131*n+b.toNat)%65521) 17
def O9 (k:Nat):UInt8:=hexD.getD k 0
def Gn (n:Nat):aC:=[O9 (n/4096),O9 (n/256%16),O9 (n/16%16),O9 (n%16)]
def su (n:af):aC:=if Val n then Gn (Qe (o5 5 n)) else []
theorem T.jy (s:aC) (hs:s.length<big):Ev (fun f=>G.jy f s) ((Qe s:Nat):Int):=by
  unfold big at hs
  have L:∀ (k i m:Nat),i+k=s.length->m<65521->Ev (fun f=>G.jy.L1 f s (m:Int) i) (((s.drop i).foldl (fun n b=>(131*n+b.toNat)%65521) m:Nat):Int):=by
    intro k
    induction k with
    | zero =>
      intro i m hi _
      refine Ev.up ?_
      simp only [G.jy.L1]
      refine Ev.cf (decide_eq_false (by omega)) (Ev.ret' ?_)
      rw [List.drop_of_length_le (by omega)]; rfl
    | succ k ih =>
      intro i m hi hm
      have hb:=(s.getD i 0).toNat_lt
      refine Ev.up ?_
      simp only [G.jy.L1,Int.toNat_natCast,vV,bP (show i+1<9223372036854775808 by omega),wrapN (x:=131*(m:Int)) (m:=131*m) (by omega) (by omega)]
      rw [wrapN (x:=((131*m:Nat):Int)+(((s.getD i 0).toNat:Nat):Int)) (m:=131*m+(s.getD i 0).toNat) (by omega) (by omega),show (65521:Int)=((65521:Nat):Int) from rfl,sU]
      rw [bK (0:UInt8) (by omega:i<s.length),List.foldl_cons]
      exact Ev.ct (decide_eq_true (by omega)) (Ev.chk (by omega) (ih (i+1) _ (by omega) (Nat.mod_lt _ (by omega))))
  refine Ev.up ?_
  simp only [G.jy]
  exact L s.length 0 17 (by omega) (by omega)
theorem sum_lt (s:aC):Qe s<65521:=by
  unfold Qe
  have:∀ (s:aC) (m:Nat),m<65521->s.foldl (fun n b=>(131*n+b.toNat)%65521) m<65521:=by
    intro s
    induction s with
    | nil=>intro m hm; exact hm
    | cons b s ih=>intro m hm; exact ih _ (Nat.mod_lt _ (by omega))
  exact this s 17 (by omega)
theorem T.nP {n:Nat} (h:n<65536):Ev (fun f=>G.nP f (n:Int)) (Gn n):=by
  have hM:=maxL
  have w1:IntKind.wrap .i64 (Int.tdiv (n:Int) 4096)=((n/4096:Nat):Int):=by rw [show (4096:Int)=((4096:Nat):Int) from rfl,wG]; exact wrapN rfl (by omega)
  have w2:IntKind.wrap .i64 (Int.tdiv (n:Int) 256)=((n/256:Nat):Int):=by rw [show (256:Int)=((256:Nat):Int) from rfl,wG]; exact wrapN rfl (by omega)
  have w3:IntKind.wrap .i64 (Int.tdiv (n:Int) 16)=((n/16:Nat):Int):=by rw [show (16:Int)=((16:Nat):Int) from rfl,wG]; exact wrapN rfl (by omega)
  have t2:Int.tmod ((n/256:Nat):Int) 16=((n/256%16:Nat):Int):=by rw [show (16:Int)=((16:Nat):Int) from rfl,sU]
  have t3:Int.tmod ((n/16:Nat):Int) 16=((n/16%16:Nat):Int):=by rw [show (16:Int)=((16:Nat):Int) from rfl,sU]
  have t4:Int.tmod (n:Int) 16=((n%16:Nat):Int):=by rw [show (16:Int)=((16:Nat):Int) from rfl,sU]
  refine Ev.up ?_
  simp only [G.nP,w1,w2,w3,t2,t3,t4,Int.toNat_natCast,UInt8.ofNat_toNat]
  exact Ev.chk (by omega) (Ev.chk (by omega) (Ev.chk (by omega) (Ev.chk (by omega) (Ev.chk (by omega) (Ev.ret' rfl)))))
theorem T.lY {B D:Nat} {n:af} (hB:B<=lim) (h:Fine B D n):Ev (fun f=>G.lY f n) (su n):=by
  refine Ev.up ?_
  simp only [G.lY]
  unfold su
  refine Ev.bind (T.aV hB h) (Ev.ite (fun e => ?_) (fun e=>Ev.ret' (by rw [e]; rfl)))
  rw [e]
  have hl:=Eg 5 (jL e)
  have hp:=Dc (Nat.le_refl 5)
  have:=sum_lt (o5 5 n)
  exact Ev.bind (T.bH 5 (by omega) (jL e)) (Ev.bind (T.jy _ (by unfold big; omega)) (Ev.bind (T.nP (by omega)) (Ev.ret _)))
theorem Jj (n:af):(su n).length<=4:=by
  unfold su
  split
  · simp [Gn]
  · simp
theorem D.V7 {K:Nat} {r:ReaderT} {s:StoreT} (hs:qH 60 s) (hr:l9 K r) (hK:K<=900000000):Dr (K+3) (fun x:aC=>x.length<=60) (fun f=>G.ny f r s):=by
  have hl:=hs.len
  have w:∀ {K':Nat} {r':ReaderT},l9 K' r'->K'+2<=K+3->Dr (K+3) (fun x:aC=>x.length<=60) (fun f=>Option.bind (G.ay f r' 12) fun v=>cond (v.1==0) (Option.bind (G.jS f v.2) fun v4=>some (v4.1,v4.2)) (Option.bind (G.jJ f v.2) fun v5=>some (v5.1,v5.2))):=fun hr' h=>by
    refine Tot.bind (D.pick (m:=12) hr' (by omega) rfl (by decide) (by decide)) ?_
    rintro ⟨x,r1⟩ ⟨_,hr1⟩
    refine Tot.ite (fun _ => ?_) (fun _ => ?_)
    · refine Tot.bind (D.Hz hr1 (by omega)) ?_
      rintro ⟨b,r2⟩ ⟨hb,hr2⟩
      have hb:b.length<=12:=hb
      exact Tot.ret ⟨by show b.length<=60; omega,hr2.mono (by omega)⟩
    · refine Tot.bind (D.Fg hr1 (by omega)) ?_
      rintro ⟨b,r2⟩ ⟨hb,hr2⟩
      have:=(Fq hb).2
      exact Tot.ret ⟨by show b.length<=60; simp only at this; omega,hr2.mono (by omega)⟩
  refine Tot.up ?_
  simp only [G.ny]
  refine Tot.ite (fun e => ?_) (fun _=>w hr (by omega))
  have e':0<s.Items.length:=by simp only [decide_eq_true_eq] at e; omega
  refine Tot.bind (D.pick (m:=4) hr (by omega) rfl (by decide) (by decide)) ?_
  rintro ⟨x,r1⟩ ⟨_,hr1⟩
  refine Tot.ite (fun _ => ?_) (fun _=>w hr1 (by omega))
  refine Tot.bind (D.pick (m:=s.Items.length) hr1 (by omega) rfl e' (by omega)) ?_
  rintro ⟨y,r2⟩ ⟨⟨j,rfl,hj⟩,hr2⟩
  refine Tot.chk (by omega) ?_
  simp only [Int.toNat_natCast]
  exact Tot.ret ⟨(hs.at_ hj).1,hr2.mono (by omega)⟩
def XL:aB:=aB.mk [] 0 lW
def N9:Option aB->aB × Bool
  | some it=>(it,true)
  | none=>(XL,false)
def wM (s:StoreT) (t:aC):Option aB:=if wP s then (Eh s.Items t).map fun j=>s.Items.getD j default else none
theorem T.lH {B:Nat} {s:StoreT} (t:aC) (hB:B<=lim) (h:qH B s):Ev (fun f=>G.lH f s t) (N9 (wM s t)):=by
  have hl:=h.len
  have hf:=T.iE (s:=s) t (Nat.le_trans hl hB)
  refine Ev.up ?_
  simp only [G.lH]
  unfold wM
  refine Ev.bind (T.aZ hB h) (Ev.ite (fun e => ?_) (fun e=>Ev.ret' (by rw [e]; rfl)))
  rw [e]
  refine Ev.bind hf ?_
  cases hj:Eh s.Items t with
  | none=>exact Ev.ct (by decide) (Ev.ret' rfl)
  | some j =>
    have hjl:=(uF.1 hj).1
    rw [hj] at hf
    refine Ev.cf (decide_eq_false (by simp only [sS]; omega)) (Ev.bind (T.aQ hB h) (Ev.bind hf (Ev.chk (by simp only [sS]; omega) (Ev.ret' ?_))))
    simp only [sS,Int.toNat_natCast]
    rfl
theorem CB {s:StoreT} {t:aC} {it:aB} (h:wM s t=some it):OD s/\it∈s.Items/\it.Name=t/\Val it.Node=true:=by
  unfold wM at h
  split at h
  · rename_i hs
    obtain ⟨j,hj,rfl⟩:=Option.map_eq_some_iff.1 h
    obtain ⟨h1,h2,_⟩:=uF.1 hj
    have:=oH.1 hs
    exact ⟨this,getD_mem default h1,h2,(this.it h1).NZ⟩
  · cases h
theorem Q9 (s:StoreT) (t:aC):Val (N9 (wM s t)).1.Node=true:=by
  cases h:wM s t with
  | none=>exact uN
  | some it=>exact (CB h).2.2.2
theorem D.NG {K:Nat} {r:ReaderT} {tag:aC} (ht:tag.length<=4) (hr:l9 K r) (hK:K<=900000000):Dr (K+20) (nR 60) (fun f=>G.jd f r tag):=by
  have L:∀ (j K:Nat) (r:ReaderT) (z:List aC),j<=5->z.length+j<=5->l9 K r->K+j+2<=990000000->(∀ s,s∈z->s.length<=60)->Dr (K+j+2) (nR 60) (fun f=>G.jd.L1 f tag (j:Int) r.b r.p z):=by
    intro j
    induction j with
    | zero =>
      intro K r z _ hz hr hK hs
      refine Tot.up ?_
      simp only [G.jd.L1]
      refine Tot.ite (fun e=>by simp at e) (fun _=>Tot.ite (fun e => ?_) (fun _=>Tot.ret ⟨⟨by show z.length<=60; omega,hs⟩,hr.mono (by omega)⟩))
      refine Tot.bind (D.pick (m:=20) hr (by omega) rfl (by decide) (by decide)) ?_
      rintro ⟨x,r1⟩ ⟨_,hr1⟩
      refine Tot.ite (fun _ => ?_) (fun _=>Tot.ret ⟨⟨by show z.length<=60; omega,hs⟩,hr1.mono (by omega)⟩)
      refine Tot.bind (D.of (m:=12) hr1 (by omega) _ (by decide) (by decide) (by decide)) ?_
      rintro ⟨y,r2⟩ ⟨hy,hr2⟩
      have hy:y.length<=12:=hy
      refine Tot.chk (by simp only [decide_eq_true_eq] at e; omega) (Tot.ret ⟨⟨by show (z.set 0 y).length<=60; rw [List.length_set]; omega,fun s hs' => ?_⟩,hr2.mono (by omega)⟩)
      rcases List.mem_or_eq_of_mem_set hs' with q | q
      · exact hs s q
      · rw [q]; omega
    | succ j ih =>
      intro K r z hj hz hr hK hs
      have w:IntKind.wrap .i64 (((j+1:Nat):Int)-1)=(j:Int):=wrapN (by omega) (by omega)
      refine Tot.up ?_
      simp only [G.jd.L1,w]
      refine Tot.ite (fun _ => ?_) (fun e=>absurd e (by simp))
      obtain ⟨x,r1,g,hx,hr1⟩:=T.of hr (by omega) [[42],[48,48,48,48],[49,50,97,98],[102,102,102,102],tag,tag] (by simp) (by simp)
      refine Tot.qJ g ?_
      have hxl:x.length<=60:=by
        simp only [List.mem_cons,List.not_mem_nil,or_false] at hx
        rcases hx with rfl | rfl | rfl | rfl | rfl | rfl<;>first | decide | omega
      refine Tot.chk (by omega) (Tot.mono (ih (K+1) r1 (z++[x]) (by omega) (by simp; omega) hr1 (by omega) (fun s hs' => ?_)) (fun y hy=>⟨hy.1,hy.2.mono (by omega)⟩))
      rcases List.mem_append.1 hs' with q | q
      · exact hs s q
      · rw [List.mem_singleton.1 q]; exact hxl
  refine Tot.up ?_
  simp only [G.jd]
  obtain ⟨x,r1,g,hx,hr1⟩:=T.one hr (by omega) [0,1,0,2,0,4,5] (by decide) (by decide)
  refine Tot.qJ g ?_
  obtain ⟨j,hj,rfl⟩:∃ j:Nat,j<=5/\x=(j:Int):=by
    simp only [List.mem_cons,List.not_mem_nil,or_false] at hx
    rcases hx with rfl | rfl | rfl | rfl | rfl | rfl | rfl
    · exact ⟨0,by omega,rfl⟩
    · exact ⟨1,by omega,rfl⟩
    · exact ⟨0,by omega,rfl⟩
    · exact ⟨2,by omega,rfl⟩
    · exact ⟨0,by omega,rfl⟩
    · exact ⟨4,by omega,rfl⟩
    · exact ⟨5,by omega,rfl⟩
  exact Tot.mono (L j (K+1) r1 [] hj (by simp; omega) hr1 (by omega) (fun s hs=>by cases hs)) (fun y hy=>⟨hy.1,hy.2.mono (by omega)⟩)
theorem JW:nR 60 []:=⟨by simp,fun s h=>by cases h⟩
abbrev Qx (x:RequestT):Prop:=Am 60 x
section
variable {K:Nat} {v1:aC × ReaderT} {v2:aB × Bool} {v3:Int × ReaderT} (h1:v1.1.length<=60) (h2:Val v2.1.Node=true)
include h1
theorem D.ni.K4 {r:ReaderT} {b:af} {w a:List aC} {z:List lU} (hw:nR 60 w) (ha:nR 60 a) (hb:qG 60 b) (hz:zh z) (hr:l9 K r) (hK:K<=900000000) :
    Dr (K+1) Qx (fun f=>G.aF.K4 f v1 v2 v3 w a r.b r.p b.Kind b.Num b.Text b.Names b.Kids z):=by
  have hb:qG 60 (af.mk b.Kind b.Num b.Text b.Names b.Kids):=by rw [af.eta]; exact hb
  refine Tot.up ?_
  simp only [G.aF.K4]
  refine Tot.ite (fun _=>Tot.ret ⟨⟨h1,hw,ha,hb,hz⟩,hr.mono (by omega)⟩) (fun _ => ?_)
  refine Tot.bind (D.pick (m:=2) hr (by omega) rfl (by decide) (by decide)) ?_
  rintro ⟨x,r1⟩ ⟨_,hr1⟩
  exact Tot.ite (fun _=>Tot.ret ⟨⟨h1,hw,ha,hb,hz⟩,hr1.mono (by omega)⟩) (fun _=>Tot.ret ⟨⟨h1,hw,ha,hb,hz⟩,hr1.mono (by omega)⟩)
include h2
theorem D.ni.L5 {w a:List aC} (hw:nR 60 w) (ha:nR 60 a):∀ (j K:Nat) (r:ReaderT) (z:List lU),z.length+j<=3->zh z->l9 K r->K+400*j+1<=500000000 ->
    Dr (K+400*j+1) Qx (fun f=>G.aF.L5 f v1 v2 v3 w a (j:Int) r.b r.p z):=by
  intro j
  induction j with
  | zero =>
    intro K r z _ hz hr hK
    refine Tot.up ?_
    simp only [G.aF.L5]
    exact Tot.ite (fun e=>by simp at e) (fun _=>Tot.mono (D.ni.K4 h1 (b:=lW) hw ha ⟨5,mW uN⟩ hz hr (by omega)) (fun x hx=>⟨hx.1,hx.2.mono (by omega)⟩))
  | succ j ih =>
    intro K r z hl hz hr hK
    have w':IntKind.wrap .i64 (((j+1:Nat):Int)-1)=(j:Int):=wrapN (by omega) (by omega)
    refine Tot.up ?_
    simp only [G.aF.L5,w']
    refine Tot.ite (fun _ => ?_) (fun e=>absurd e (by simp))
    refine Tot.bind (D.someOp (mW h2) hr (by omega)) ?_
    rintro ⟨o,r1⟩ ⟨ho,hr1⟩
    refine Tot.chk (by omega) (Tot.mono (ih (K+400) r1 (z++[o]) (by simp; omega) ⟨by simp; omega,fun x hx => ?_⟩ (hr1.mono (by omega)) (by omega)) (fun x hx=>⟨hx.1,hx.2.mono (by omega)⟩))
    rcases List.mem_append.1 hx with q | q
    · exact hz.2 x q
    · rw [List.mem_singleton.1 q]; exact ho
theorem D.ni.K2 {r:ReaderT} {w a:List aC} (hw:nR 60 w) (ha:nR 60 a) (hr:l9 K r) (hK:K<=300000000) :
    Dr (K+3000) Qx (fun f=>G.aF.K2 f v1 v2 v3 w r.b r.p a):=by
  have fin:∀ {K':Nat} {r':ReaderT} {b:af},qG 60 b->l9 K' r'->K'+1<=K+3000->Dr (K+3000) Qx (fun f=>G.aF.K4 f v1 v2 v3 w a r'.b r'.p b.Kind b.Num b.Text b.Names b.Kids []):=fun hb hr' h=>by
    exact Tot.mono (D.ni.K4 h1 hw ha hb (GZ) hr' (by omega)) (fun x hx=>⟨hx.1,hx.2.mono (by omega)⟩)
  refine Tot.up ?_
  simp only [G.aF.K2]
  refine Tot.ite (fun _ => ?_) (fun _=>Tot.ite (fun _ => ?_) (fun _=>Tot.ite (fun _ => ?_) (fun _=>fin (b:=lW) ⟨5,mW uN⟩ hr (by omega))))
  · refine Tot.bind (D.uK hr (by omega)) ?_
    rintro ⟨b,r1⟩ ⟨hb,hr1⟩
    exact fin ⟨5,mW hb⟩ hr1 (by omega)
  · refine Tot.bind (D.SA h2 hr (by omega)) ?_
    rintro ⟨b,r1⟩ ⟨hb,hr1⟩
    exact fin ⟨5,mW hb⟩ hr1 (by omega)
  · refine Tot.bind (D.pick (m:=3) hr (by omega) rfl (by decide) (by decide)) ?_
    rintro ⟨x,r1⟩ ⟨⟨j,rfl,hj⟩,hr1⟩
    exact Tot.mono (D.ni.L5 h1 h2 hw ha j (K+1) r1 [] (by simp; omega) GZ hr1 (by omega)) (fun x hx=>⟨hx.1,hx.2.mono (by omega)⟩)
theorem D.ni.K1 {r:ReaderT} {w:List aC} (hw:nR 60 w) (hr:l9 K r) (hK:K<=200000000) :
    Dr (K+3100) Qx (fun f=>G.aF.K1 f v1 v2 v3 r.b r.p w):=by
  refine Tot.up ?_
  simp only [G.aF.K1]
  refine Tot.bind (D.pick (m:=4) hr (by omega) rfl (by decide) (by decide)) ?_
  rintro ⟨x,r1⟩ ⟨_,hr1⟩
  refine Tot.ite (fun _ => ?_) (fun _=>Tot.mono (D.ni.K2 h1 h2 hw JW hr1 (by omega)) (fun x hx=>⟨hx.1,hx.2.mono (by omega)⟩))
  refine Tot.qJ (T.lY mZ (mW h2)) (Tot.bind (D.NG (Jj _) hr1 (by omega)) ?_)
  rintro ⟨t,r2⟩ ⟨ht,hr2⟩
  exact Tot.mono (D.ni.K2 h1 h2 hw ht hr2 (by omega)) (fun x hx=>⟨hx.1,hx.2.mono (by omega)⟩)
end
theorem D.ni {K:Nat} {r:ReaderT} {s:StoreT} (hs:qH 60 s) (hr:l9 K r) (hK:K<=100000000):Dr (K+3200) Qx (fun f=>G.aF f r s):=by
  refine Tot.up ?_
  simp only [G.aF]
  refine Tot.bind (D.V7 hs hr (by omega)) ?_
  rintro ⟨nm,r1⟩ ⟨hnm,hr1⟩
  refine Tot.qJ (T.lH nm mZ hs) ?_
  have hv:=Q9 s nm
  generalize N9 (wM s nm)=v2 at hv
  refine Tot.bind (D.pick (m:=5) hr1 (by omega) rfl (by decide) (by decide)) ?_
  rintro ⟨m,r2⟩ ⟨_,hr2⟩
  refine Tot.bind (D.pick (m:=3) hr2 (by omega) rfl (by decide) (by decide)) ?_
  rintro ⟨x,r3⟩ ⟨_,hr3⟩
  refine Tot.ite (fun _ => ?_) (fun _=>Tot.mono (D.ni.K1 hnm hv JW hr3 (by omega)) (fun x hx=>⟨hx.1,hx.2.mono (by omega)⟩))
  refine Tot.qJ (T.lY mZ (mW hv)) (Tot.bind (D.NG (Jj _) hr3 (by omega)) ?_)
  rintro ⟨t,r4⟩ ⟨ht,hr4⟩
  exact Tot.mono (D.ni.K1 hnm hv ht hr4 (by omega)) (fun x hx=>⟨hx.1,hx.2.mono (by omega)⟩)
theorem D.Lr {K:Nat} {r:ReaderT} {s:StoreT} (hs:qH 60 s) (hr:l9 K r) (hK:K<=90000000):Dr (K+4000) Qx (fun f=>G.kL f r s):=by
  refine Tot.up ?_
  simp only [G.kL]
  refine Tot.bind (D.ni hs hr (by omega)) ?_
  rintro ⟨q,r1⟩ ⟨hq,hr1⟩
  have hq:Am 60 q:=hq
  refine Tot.bind (D.pick (m:=30) hr1 (by omega) rfl (by decide) (by decide)) ?_
  rintro ⟨x,r2⟩ ⟨_,hr2⟩
  refine Tot.ite (fun _ => ?_) (fun _=>Tot.ite (fun _ => ?_) (fun _=>Tot.ite (fun _ => ?_) (fun _=>Tot.ret ⟨hq,hr2.mono (by omega)⟩)))
  · refine Tot.bind (D.one hr2 (by omega) _ (by decide) (by decide)) ?_
    rintro ⟨c,r3⟩ ⟨_,hr3⟩
    exact Tot.ret ⟨⟨hq.Jo,hq.want,hq.avoid,hq.body,hq.ops⟩,hr3.mono (by omega)⟩
  · refine Tot.bind (D.Hz hr2 (by omega)) ?_
    rintro ⟨b,r3⟩ ⟨hb,hr3⟩
    have hb:b.length<=12:=hb
    exact Tot.ret ⟨⟨by show b.length<=60; omega,hq.want,hq.avoid,hq.body,hq.ops⟩,hr3.mono (by omega)⟩
  · refine Tot.bind (D.Eb hr2 (by omega)) ?_
    rintro ⟨v,r3⟩ ⟨⟨E,hv⟩,hr3⟩
    exact Tot.ret ⟨⟨hq.Jo,hq.want,hq.avoid,⟨E,hv.mono (by omega) (Nat.le_refl _)⟩,hq.ops⟩,hr3.mono (by omega)⟩
end Go.Ab
end
section
namespace Go.Ab
open Go
set_option maxRecDepth 100000
theorem T.wb {b:dH} {c:Int} (hc:0<=c/\c<256) (hl:b.buf.length+1<=140737488355328):Ev (fun f=>G.aI f b c) ((),dH.mk (b.buf++[UInt8.ofNat c.toNat])):=by
  refine Ev.up ?_
  simp only [G.aI]
  exact Ev.chk ⟨hc,hl⟩ (Ev.ret _)
theorem T.ws {b:dH} {s:aC} (hl:b.buf.length+s.length<=140737488355328):Ev (fun f=>G.iM f b s) (((s.length:Nat):Int),(),dH.mk (b.buf++s)):=by
  refine Ev.up ?_
  simp only [G.iM]
  exact Ev.chk hl (Ev.ret _)
theorem T.bs' {b:dH} (hl:b.buf.length<=140737488355328):Ev (fun f=>G.kU f b) b.buf:=by
  refine Ev.up ?_
  simp only [G.kU]
  exact Ev.chk hl (Ev.ret _)
theorem Oi (b:UInt8):UInt8.ofNat ((b.toNat:Nat):Int).toNat=b:=by simp
theorem T.bT {s z:aC} (h:z.length+2*s.length+2<=4000000000):Ev (fun f=>G.bT f (dH.mk z) s) (dH.mk (z++DY s)):=by
  have wJ:∀ (z:aC) (b:UInt8),z.length<5000000000->Ev (fun f=>G.aI f (dH.mk z) ((b.toNat:Nat):Int)) ((),dH.mk (z++[b])):=fun z b hz=>by
    have:=T.wb (b:=dH.mk z) (c:=((b.toNat:Nat):Int)) (by have:=b.toNat_lt; omega) (by show z.length+1<=_; omega)
    rwa [Oi] at this
  have L:∀ (k i:Nat) (z:aC),i+k=s.length->z.length+2*k+1<=4000000001->Ev (fun f=>G.bT.L3 f s (i:Int) z) (dH.mk (z++((s.drop i).flatMap BC++[34]))):=by
    intro k
    induction k with
    | zero =>
      intro i z hi hz
      rw [List.drop_eq_nil_of_le (by omega)]
      refine Ev.up ?_
      simp only [G.bT.L3]
      exact Ev.cf (decide_eq_false (by omega)) (Ev.bind (wJ z 34 (by omega)) (Ev.ret' rfl))
    | succ k ih =>
      intro i z hi hz
      have hlt:i<s.length:=by omega
      have hd:s.drop i=s.getD i 0::s.drop (i+1):=by rw [List.drop_eq_getElem_cons hlt]; simp [List.getD,hlt]
      have hK:∀ z:aC,z.length+2*k+2<=4000000001->Ev (fun f=>G.bT.K4 f s (i:Int) z) (dH.mk (z++(s.getD i 0::((s.drop (i+1)).flatMap BC++[34])))):=fun z hz=>by
        refine Ev.up ?_
        simp only [G.bT.K4]
        rw [Int.toNat_natCast]
        refine Ev.chk (by omega) (Ev.bind (wJ z (s.getD i 0) (by omega)) ?_)
        rw [bP (by omega)]
        have:=ih (i+1) (z++[s.getD i 0]) (by omega) (by simp; omega)
        simpa using this
      rw [hd]
      refine Ev.up ?_
      simp only [G.bT.L3]
      rw [Int.toNat_natCast]
      refine Ev.ct (decide_eq_true (by omega)) (Ev.chk (by omega) (Ev.ite (fun e => ?_) (fun e=>Ev.chk (by omega) (Ev.ite (fun e2 => ?_) (fun e2 => ?_)))))
      · have hb:s.getD i 0=34:=UInt8.toNat_inj.1 (by have:=beq_iff_eq.1 e; show (s.getD i 0).toNat=34; omega)
        refine Ev.bind (wJ z 92 (by omega)) ?_
        have:=hK (z++[92]) (by simp; omega)
        rw [hb] at this ⊢
        simpa [BC] using this
      · have hb:s.getD i 0=92:=UInt8.toNat_inj.1 (by have:=beq_iff_eq.1 e2; show (s.getD i 0).toNat=92; omega)
        refine Ev.bind (wJ z 92 (by omega)) ?_
        have:=hK (z++[92]) (by simp; omega)
        rw [hb] at this ⊢
        simpa [BC] using this
      · have:=hK z (by omega)
        have hq:BC (s.getD i 0)=[s.getD i 0]:=by
          unfold BC
          rw [if_neg]
          rintro (h | h)
          · rw [h] at e; simp at e
          · rw [h] at e2; simp at e2
        rw [List.flatMap_cons,hq]
        simpa using this
  refine Ev.up ?_
  simp only [G.bT]
  refine Ev.bind (wJ z 34 (by omega)) ?_
  have:=L s.length 0 (z++[34]) (by omega) (by simp; omega)
  simpa [DY] using this
end Go.Ab
end
section
namespace Go.Ab
open Go
set_option maxRecDepth 100000
theorem RI (z:Int):Lib.itoa z=Iz z:=by
  unfold Lib.itoa Iz
  split
  · rw [MB (z.natAbs+1) z.natAbs (by omega),show z.natAbs=(-z).toNat from by omega]
  · rw [MB (z.toNat+1) z.toNat (by omega)]
theorem T.itoa {z:Int} (h : -900000000000000<=z/\z<=900000000000000):Ev (fun f=>G.strconv_Itoa f z) (Iz z):=by
  rw [<- RI]; exact T.Itoa h
theorem MZ {n:af} (h:Parts n=true):n.Kind=0\/n.Kind=1\/n.Kind=2\/n.Kind=3\/n.Kind=4:=by
  by_cases h0:n.Kind=0\/n.Kind=1\/n.Kind=2\/n.Kind=3\/n.Kind=4
  · exact h0
  · simp only [not_or] at h0
    obtain ⟨a,b,c,d,e⟩:=h0
    unfold Parts at h
    rw [if_neg a,if_neg b,if_neg c,if_neg d,if_neg e] at h
    simp at h
theorem wJ {z:aC} (b:UInt8) (hz:z.length<5000000000):Ev (fun f=>G.aI f (dH.mk z) ((b.toNat:Nat):Int)) ((),dH.mk (z++[b])):=by
  have:=T.wb (b:=dH.mk z) (c:=((b.toNat:Nat):Int)) (by have:=b.toNat_lt; omega) (by show z.length+1<=_; omega)
  rwa [Oi] at this
theorem JZ (F:af->aC) (n:af) (i:Nat):rW F n i=(if 0<i then [44] else [])++((if n.Kind=4 then DY (n.Names.getD i default)++[58] else [])++F (n.Kids.getD i default)):=by
  unfold rW; rw [List.append_assoc]
theorem T.aO:∀ (d:Nat) {n:af} {z:aC},Shape d n=true->z.length+(o5 d n).length<=2000000000->Ev (fun f=>G.aO f (dH.mk z) n) (dH.mk (z++o5 d n))
  | 0,_,_,h,_=>by cases h
  | d+1,n,z,h,hz=>by
    have hp:=kE h
    have h6:=qy h
    rw [Ci] at hz ⊢
    have L3:n.Kind=3->∀ (k i:Nat) (z:aC),i+k=n.Kids.length->z.length+((List.range' i k).flatMap (rW (o5 d) n)++[93]).length<=2000000000 ->
        Ev (fun f=>G.aO.L3 f n (i:Int) z) (dH.mk (z++((List.range' i k).flatMap (rW (o5 d) n)++[93]))):=by
      intro hk3 k
      induction k with
      | zero =>
        intro i z hi hz
        refine Ev.up ?_
        simp only [G.aO.L3]
        refine Ev.cf (decide_eq_false (by omega)) (Ev.bind (wJ 93 (by omega)) (Ev.ret' ?_))
        simp
      | succ k ih =>
        intro i z hi hz
        have hil:i<n.Kids.length:=by omega
        rw [List.range'_succ,List.flatMap_cons] at hz ⊢
        simp only [List.length_append] at hz
        have ez:rW (o5 d) n i=(if 0<i then [44] else [])++o5 d (n.Kids.getD i default):=by rw [JZ,if_neg (by omega:¬ n.Kind=4),List.nil_append]
        have hK:∀ z':aC,z'=z++(if 0<i then [44] else [])->Ev (fun f=>G.aO.K4 f n (i:Int) z') (dH.mk (z++((rW (o5 d) n i++(List.range' (i+1) k).flatMap (rW (o5 d) n))++[93]))):=fun z' he=>by
          have e2:z'++o5 d (n.Kids.getD i default)=z++rW (o5 d) n i:=by rw [he,ez,List.append_assoc]
          have e3:=congrArg List.length e2
          simp only [List.length_append] at e3
          refine Ev.up ?_
          simp only [G.aO.K4,Int.toNat_natCast,bP (show i+1<9223372036854775808 by omega)]
          refine Ev.bind (T.aO d (o9 h hil) (by omega)) ?_
          refine (ih (i+1) _ (by omega) (by simp only [List.length_append]; omega)).eq ?_
          rw [e2]; simp only [List.append_assoc]
        refine Ev.up ?_
        simp only [G.aO.L3]
        refine Ev.ct (decide_eq_true (by omega)) (Ev.chk (by omega) ?_)
        by_cases h0:0<i
        · exact Ev.ct (decide_eq_true (by omega)) (Ev.bind (wJ 44 (by omega)) (hK _ (by rw [if_pos h0])))
        · exact Ev.cf (decide_eq_false (by omega)) (hK _ (by rw [if_neg h0,List.append_nil]))
    have L7:n.Kind=4->∀ (k i:Nat) (z:aC),i+k=n.Kids.length->z.length+((List.range' i k).flatMap (rW (o5 d) n)++[125]).length<=2000000000 ->
        Ev (fun f=>G.aO.L7 f n (i:Int) z) (dH.mk (z++((List.range' i k).flatMap (rW (o5 d) n)++[125]))):=by
      intro hk4 k
      obtain ⟨mn,_,hn⟩:=Bi hp hk4
      induction k with
      | zero =>
        intro i z hi hz
        refine Ev.up ?_
        simp only [G.aO.L7]
        refine Ev.cf (decide_eq_false (by omega)) (Ev.bind (wJ 125 (by omega)) (Ev.ret' ?_))
        simp
      | succ k ih =>
        intro i z hi hz
        have hil:i<n.Kids.length:=by omega
        have hin:i<n.Names.length:=by rw [<- mn.len]; exact hil
        have h12:=hn _ (getD_mem default hin)
        rw [List.range'_succ,List.flatMap_cons] at hz ⊢
        simp only [List.length_append] at hz
        have ez:rW (o5 d) n i=(if 0<i then [44] else [])++((DY (n.Names.getD i default)++[58])++o5 d (n.Kids.getD i default)):=by rw [JZ,if_pos hk4]
        have hK:∀ z':aC,z'=z++(if 0<i then [44] else [])->Ev (fun f=>G.aO.K8 f n (i:Int) z') (dH.mk (z++((rW (o5 d) n i++(List.range' (i+1) k).flatMap (rW (o5 d) n))++[125]))):=fun z' he=>by
          have e2:((z'++DY (n.Names.getD i default))++[58])++o5 d (n.Kids.getD i default)=z++rW (o5 d) n i:=by rw [he,ez]; simp only [List.append_assoc]
          have e3:=congrArg List.length e2
          simp only [List.length_append] at e3
          refine Ev.up ?_
          simp only [G.aO.K8,Int.toNat_natCast,bP (show i+1<9223372036854775808 by omega)]
          refine Ev.chk (by omega) (Ev.bind (T.bT (by omega)) (Ev.bind (wJ 58 (by simp only [List.length_append]; omega)) ?_))
          refine Ev.bind (T.aO d (o9 h hil) (by simp only [List.length_append]; omega)) ?_
          refine (ih (i+1) _ (by omega) (by simp only [List.length_append]; omega)).eq ?_
          rw [e2]; simp only [List.append_assoc]
        refine Ev.up ?_
        simp only [G.aO.L7]
        refine Ev.ct (decide_eq_true (by omega)) (Ev.chk (by omega) ?_)
        by_cases h0:0<i
        · exact Ev.ct (decide_eq_true (by omega)) (Ev.bind (wJ 44 (by omega)) (hK _ (by rw [if_pos h0])))
        · exact Ev.cf (decide_eq_false (by omega)) (hK _ (by rw [if_neg h0,List.append_nil]))
    refine Ev.up ?_
    simp only [G.aO]
    rcases MZ hp with e | e | e | e | e<;>simp only [e,reduceIte,Int.reduceEq] at hz ⊢
    · exact Ev.ct rfl (Ev.bind (T.ws (by simp only [List.length_cons,List.length_nil] at hz ⊢; omega)) (Ev.ret _))
    · obtain ⟨b1,b2⟩:=C9 hp e
      exact Ev.cf rfl (Ev.ct rfl (Ev.bind (T.itoa (by omega)) (Ev.bind (T.ws (by show z.length+_<=_; omega)) (Ev.ret _))))
    · have:=Ac hp
      exact Ev.cf rfl (Ev.cf rfl (Ev.ct rfl (Ev.bind (T.bT (by omega)) (Ev.ret _))))
    · refine Ev.cf rfl (Ev.cf rfl (Ev.cf rfl (Ev.ct rfl (Ev.bind (wJ 91 (by omega)) ?_))))
      refine (L3 e n.Kids.length 0 (z++[91]) (by omega) (by simp only [List.length_append,List.length_cons,List.length_nil] at hz ⊢; omega)).eq ?_
      simp only [List.append_assoc]
    · refine Ev.cf rfl (Ev.cf rfl (Ev.cf rfl (Ev.cf rfl (Ev.ct rfl (Ev.bind (wJ 123 (by omega)) ?_)))))
      refine (L7 e n.Kids.length 0 (z++[123]) (by omega) (by simp only [List.length_append,List.length_cons,List.length_nil] at hz ⊢; omega)).eq ?_
      simp only [List.append_assoc]
theorem fmt5 {n:af} (h:Val n=true):(o5 5 n).length<=4000000:=by
  have:=Eg 5 (jL h)
  have:=Dc (Nat.le_refl 5)
  omega
def Vw (n:af):aC:=if Val n then o5 5 n else []
theorem T.jO {B D:Nat} {n:af} (hB:B<=lim) (h:Fine B D n):Ev (fun f=>G.jO f n) (Vw n):=by
  refine Ev.up ?_
  simp only [G.jO]
  unfold Vw
  refine Ev.bind (T.aH hB h) (Ev.ite (fun e => ?_) (fun e=>Ev.ret' (by rw [e]; rfl)))
  have hl:=fmt5 e
  rw [e]
  exact Ev.bind (T.aO 5 (jL e) (by simp only [List.length_nil]; omega)) (Ev.bind (T.bs' (by show (_:aC).length<=_; simp only [List.nil_append]; omega)) (Ev.ret _))
theorem T.dM (s:aC) (hs:s.length<big):Ev (fun f=>G.dM f s) (Gn (Qe s)):=by
  unfold big at hs
  have hM:=maxL
  have L2:∀ m:Nat,m<65521->Ev (fun f=>G.dM.L2 f (m:Int) 3 (List.replicate 4 0)) (Gn m):=fun m hm=>by
    have st:∀ m:Nat,m<65521->IntKind.wrap .i64 (Int.tdiv (m:Int) 16)=((m/16:Nat):Int):=fun m hm=>by rw [show (16:Int)=((16:Nat):Int) from rfl,wG]; exact wrapN rfl (by omega)
    have tm:∀ m:Nat,Int.tmod (m:Int) 16=((m%16:Nat):Int):=fun m=>by rw [show (16:Int)=((16:Nat):Int) from rfl,sU]
    refine Ev.up ?_
    simp only [G.dM.L2,tm,st m hm,Int.toNat_natCast]
    refine Ev.ct rfl (Ev.chk (by omega) (Ev.chk (by simp) (Ev.chk (by omega) ?_)))
    refine Ev.up ?_
    simp only [G.dM.L2,tm,st (m/16) (by omega),Int.toNat_natCast]
    refine Ev.ct rfl (Ev.chk (by omega) (Ev.chk (by simp; decide) (Ev.chk (by decide) ?_)))
    refine Ev.up ?_
    simp only [G.dM.L2,tm,st (m/16/16) (by omega),Int.toNat_natCast]
    refine Ev.ct rfl (Ev.chk (by omega) (Ev.chk (by simp; decide) (Ev.chk (by decide) ?_)))
    refine Ev.up ?_
    simp only [G.dM.L2,tm,st (m/16/16/16) (by omega),Int.toNat_natCast]
    refine Ev.ct rfl (Ev.chk (by omega) (Ev.chk (by simp; decide) (Ev.chk (by decide) ?_)))
    refine Ev.up ?_
    simp only [G.dM.L2]
    refine Ev.cf rfl (Ev.chk (by simp) (Ev.chk (by simp; omega) (Ev.ret' ?_)))
    unfold Gn O9
    rw [show m/4096=m/16/16/16%16 by omega,show m/256%16=m/16/16%16 by omega]
    show uC [((hexD.getD (m/16/16/16%16) 0).toNat:Int),((hexD.getD (m/16/16%16) 0).toNat:Int),((hexD.getD (m/16%16) 0).toNat:Int),((hexD.getD (m%16) 0).toNat:Int)]=_
    simp [uC]
  have L:∀ (k i m:Nat),i+k=s.length->m<65521->Ev (fun f=>G.dM.L1 f s (m:Int) i) (Gn ((s.drop i).foldl (fun n b=>(131*n+b.toNat)%65521) m)):=by
    intro k
    induction k with
    | zero =>
      intro i m hi hm
      refine Ev.up ?_
      simp only [G.dM.L1]
      rw [List.drop_of_length_le (by omega)]
      exact Ev.cf (decide_eq_false (by omega)) (L2 m hm)
    | succ k ih =>
      intro i m hi hm
      have hb:=(s.getD i 0).toNat_lt
      refine Ev.up ?_
      simp only [G.dM.L1,Int.toNat_natCast,vV,bP (show i+1<9223372036854775808 by omega),wrapN (x:=131*(m:Int)) (m:=131*m) (by omega) (by omega)]
      rw [wrapN (x:=((131*m:Nat):Int)+(((s.getD i 0).toNat:Nat):Int)) (m:=131*m+(s.getD i 0).toNat) (by omega) (by omega),show (65521:Int)=((65521:Nat):Int) from rfl,sU]
      rw [bK (0:UInt8) (by omega:i<s.length),List.foldl_cons]
      exact Ev.ct (decide_eq_true (by omega)) (Ev.chk (by omega) (ih (i+1) _ (by omega) (Nat.mod_lt _ (by omega))))
  refine Ev.up ?_
  simp only [G.dM]
  exact L s.length 0 17 (by omega) (by omega)
theorem T.lK {B D:Nat} {n:af} (hB:B<=lim) (h:Fine B D n):Ev (fun f=>G.lK f n) (su n):=by
  refine Ev.up ?_
  simp only [G.lK]
  unfold su
  refine Ev.bind (T.aH hB h) (Ev.ite (fun e => ?_) (fun e=>Ev.ret' (by rw [e]; rfl)))
  have hl:=fmt5 e
  have hf:=T.jO hB h
  unfold Vw at hf
  rw [e] at hf ⊢
  exact Ev.bind hf (Ev.bind (T.dM _ (by show (o5 5 n).length<_; unfold big; omega)) (Ev.ret _))
end Go.Ab
end
section
namespace Go.Ab
open Go
set_option maxRecDepth 100000
theorem PW {n:af} {s:aC} : qM n [s]=rY n s:=by
  unfold qM tX
  rfl
theorem T.dW:∀ (d:Nat) {E:Nat} {n p:af},d<=5->Shape d p=true->ShN E n->Ev (fun f=>G.dW f n p) (yK d n p)
  | 0,_,_,_,_,h,_=>by cases h
  | d+1,E,n,p,hd,hp,hn=>by
    refine Ev.up ?_
    simp only [G.dW]
    rw [Fj]
    refine Ev.ite (fun c => ?_) (fun c => ?_)
    · have:¬ p.Kind=4:=by simpa using c
      rw [if_neg this]
      exact Ev.bind (T.au qc (nX hp)) (Ev.ret _)
    · have kp:p.Kind=4:=by simpa using c
      rw [if_pos kp]
      have mp:=NW hp kp
      obtain ⟨e,he,hb,hq⟩:=Lt hn
      have hl:=mp.len
      have hk:=mp.mp.map.len
      have hF:=fun (o q:af) (ho:ShN e o) (hq:Shape d q=true)=>Bl d hq ho
      have facts:=fun i hi=>CS (F:=yK d) mp (Bj hb (by omega:e<=d+e+1) (Nat.le_refl _)) (Q:=ShN e) (.inr rfl) hq hF i hi
      have L:∀ (t i:Nat),i+t=p.Kids.length->Ev (fun f=>G.dW.L2 f p (i:Int) ((List.range' 0 i).foldl (DX (yK d) p) (BP n)).Kind ((List.range' 0 i).foldl (DX (yK d) p) (BP n)).Num ((List.range' 0 i).foldl (DX (yK d) p) (BP n)).Text ((List.range' 0 i).foldl (DX (yK d) p) (BP n)).Names ((List.range' 0 i).foldl (DX (yK d) p) (BP n)).Kids) ((List.range' 0 p.Kids.length).foldl (DX (yK d) p) (BP n)):=by
        intro t
        induction t with
        | zero =>
          intro i hi
          have:i=p.Kids.length:=by omega
          subst this
          refine Ev.up ?_
          simp only [G.dW.L2]
          exact Ev.cf (decide_eq_false (by omega)) (Ev.ret' (af.eta _))
        | succ t ih =>
          intro i hi
          have hnx:=ih (i+1) (by omega)
          rw [wZ,List.foldl_append,List.foldl_cons,List.foldl_nil] at hnx
          obtain ⟨h1,h2⟩:=facts i (by omega)
          generalize (List.range' 0 i).foldl (DX (yK d) p) (BP n)=m at h1 h2 hnx ⊢
          have hi':i<p.Kids.length:=by omega
          have hx:=o9 mp.sh hi'
          have hc:=h1.cnt
          have hms:lk m (p.Names.getD i default)=lk (BP n) (p.Names.getD i default):=by rw [h2,if_neg (CX mp.mp.map hi')]
          have hfm:=h1.fine (by omega)
          refine Ev.up ?_
          simp only [G.dW.L2,Int.toNat_natCast,bP (show i+1<9223372036854775808 by omega),af.eta]
          unfold DX at hnx
          refine Ev.ct (decide_eq_true (by omega)) (Ev.chk (by omega) (Ev.bind (T.dD _ qc hfm) (Ev.chk (by omega) ?_)))
          cases hpl:rQ m (p.Names.getD i default) with
          | none =>
            have neg:decide (0<=sS none)=false:=by decide
            have hlk:lk m (p.Names.getD i default)=none:=by unfold lk; rw [hpl]; rfl
            by_cases c:(p.Kids.getD i default).Kind=0
            · rw [if_pos c] at hnx
              have:(rY m (p.Names.getD i default)).getD m=m:=by unfold rY; rw [hpl]; rfl
              rw [this] at hnx
              exact Ev.ct (by simpa using c) (Ev.cf neg (Ev.chk (by omega) (Ev.cf (by simpa using c) (Ev.chk (by omega) hnx))))
            · rw [if_neg c,hlk] at hnx
              have hf:=hF lW _ (.inr rfl) hx
              obtain ⟨g1,_⟩:=Nc h1 (mp.name hi') hf
              have g3:=T.gZ (p.Names.getD i default) (show 12<lim by decide) hfm hf
              rw [g1] at g3
              exact Ev.cf (by simpa using c) (Ev.chk (by omega) (Ev.ct (by simpa using c) (Ev.cf neg (Ev.chk (by omega) (Ev.chk (by omega) (Ev.bind (T.dW d (by omega) hx (.inr rfl:ShN 0 lW)) (Ev.bind g3 hnx)))))))
          | some j =>
            have pos:decide (0<=sS (some j))=true:=decide_eq_true (by show (0:Int)<=(j:Int); omega)
            have hjl:=oM hpl
            have hlk:lk m (p.Names.getD i default)=some (m.Kids.getD j default):=by unfold lk; rw [hpl]; rfl
            by_cases c:(p.Kids.getD i default).Kind=0
            · rw [if_pos c] at hnx
              have g3:=T.dY [p.Names.getD i default] (show 12+1<lim by decide) (by unfold big; simp) hfm
              rw [PW] at g3
              obtain ⟨m',hm'⟩:∃ m',rY m (p.Names.getD i default)=some m':=by unfold rY; rw [hpl]; exact ⟨_,rfl⟩
              rw [hm'] at g3 hnx
              exact Ev.ct (by simpa using c) (Ev.ct pos (Ev.bind g3 hnx))
            · rw [if_neg c,hlk] at hnx
              have hso:ShN e (m.Kids.getD j default):=by
                rw [hms] at hlk
                exact hq _ (MP hlk)
              have hf:=hF _ _ hso hx
              have e1:KE m (p.Names.getD i default) (yK d (m.Kids.getD j default) (p.Kids.getD i default))=uJ m j (yK d (m.Kids.getD j default) (p.Kids.getD i default)):=by unfold KE; rw [Hu h1.mp.map hpl]; rfl
              rw [Option.getD_some,e1] at hnx
              refine Ev.cf (by simpa using c) (Ev.chk (by omega) (Ev.ct (by simpa using c) (Ev.ct pos ?_)))
              show Ev (fun f=>Ab.chk _ _) _
              simp only [sS,Int.toNat_natCast]
              exact Ev.chk (by omega) (Ev.chk (by omega) (Ev.bind (T.dW d (by omega) hx hso) (Ev.bind (T.iL qc hfm hf hjl) hnx)))
      have L':Ev (fun f=>G.dW.K1 f p (BP n).Kind (BP n).Num (BP n).Text (BP n).Names (BP n).Kids) ((List.range' 0 p.Kids.length).foldl (DX (yK d) p) (BP n)):=by
        refine Ev.up ?_
        simp only [G.dW.K1]
        exact L p.Kids.length 0 (by omega)
      unfold BP at L' ⊢
      refine Ev.ite (fun c => ?_) (fun c => ?_)
      · have kn:n.Kind=4:=by simpa using c
        rw [if_pos kn] at L' ⊢
        have hf:Fine 12 E n:=by
          rcases hn with h | h
          · exact nX h
          · rw [h] at kn; cases kn
        exact Ev.bind (T.au qc hf) L'
      · have kn:¬ n.Kind=4:=by simpa using c
        rw [if_neg kn] at L' ⊢
        exact L'
def Ou (n p:af):Option af:=if Val n&&Val p then (some (yK 5 n p)).filter Val else none
theorem T.jQ {D E:Nat} {n p:af} (hn:Fine 60 D n) (hp:Fine 60 E p):Ev (fun f=>G.jQ f n p) (jb (Ou n p)):=by
  refine Ev.up ?_
  simp only [G.jQ]
  unfold Ou
  refine Ev.bind (T.aV mZ hn) (Ev.ite (fun e1 => ?_) (fun e1=>Ev.ret' (by rw [e1]; rfl)))
  refine Ev.bind (T.aV mZ hp) (Ev.ite (fun e2 => ?_) (fun e2=>Ev.ret' (by rw [e1,e2]; rfl)))
  have gp:=T.dW 5 (by omega) (jL e2) (.inl (jL e1))
  have gc:=T.jH (o:=some (yK 5 n p)) qc (fun m hm=>by cases hm; exact Bl 5 (jL e2) (.inl (jL e1)))
  rw [e1,e2]
  exact Ev.bind gp (Ev.bind gc (Ev.ret _))
def Ov (l:List aC) (t:aC):Bool:=decide (t∈l)||decide (([42]:aC)∈l)
theorem T.iP {l:List aC} {t:aC} (hl:l.length<=1000):Ev (fun f=>G.iP f l t) (Ov l t):=by
  have L:∀ (k i:Nat),i+k=l.length->Ev (fun f=>G.iP.L1 f l t i) (Ov (l.drop i) t):=by
    intro k
    induction k with
    | zero =>
      intro i hi
      refine Ev.up ?_
      simp only [G.iP.L1]
      refine Ev.cf (decide_eq_false (by omega)) (Ev.ret' ?_)
      rw [List.drop_of_length_le (by omega)]; rfl
    | succ k ih =>
      intro i hi
      have e:Ov (l.drop i) t=(l.getD i default==t||(l.getD i default==[42]||Ov (l.drop (i+1)) t)):=by
        rw [bK default (by omega:i<l.length)]
        unfold Ov
        rw [Bool.eq_iff_iff]
        simp only [Bool.or_eq_true,decide_eq_true_eq,List.mem_cons,beq_iff_eq]
        constructor
        · rintro ((h | h) | (h | h))
          · exact .inl h.symm
          · exact .inr (.inr (.inl h))
          · exact .inr (.inl h.symm)
          · exact .inr (.inr (.inr h))
        · rintro (h | h | h | h)
          · exact .inl (.inl h.symm)
          · exact .inr (.inl h.symm)
          · exact .inl (.inr h)
          · exact .inr (.inr h)
      refine Ev.up ?_
      simp only [G.iP.L1,Int.toNat_natCast,bP (show i+1<9223372036854775808 by omega)]
      rw [e]
      refine Ev.ct (decide_eq_true (by omega)) (Ev.chk (by omega) (Ev.ite (fun e1=>Ev.ret' (by rw [e1]; rfl)) (fun e1=>Ev.chk (by omega) (Ev.ite (fun e2=>Ev.ret' (by rw [e1,e2]; rfl)) (fun e2 => ?_)))))
      rw [e1,e2]
      exact ih (i+1) (by omega)
  refine Ev.up ?_
  simp only [G.iP]
  exact L l.length 0 (by omega)
theorem T.Contains {l:List aC} {t:aC} (hl:l.length<=1000):Ev (fun f=>G.slices_Contains_string f l t) (decide (t∈l)):=by
  have L:∀ (k i:Nat),i+k=l.length->∃ r:Int,Ev (fun f=>G.slices_Index_string.L1 f l t i) r/\decide (0<=r)=decide (t∈l.drop i):=by
    intro k
    induction k with
    | zero =>
      intro i hi
      refine ⟨-1,Ev.up ?_,by rw [List.drop_of_length_le (by omega)]; simp⟩
      simp only [G.slices_Index_string.L1]
      exact Ev.cf (decide_eq_false (by omega)) (Ev.ret _)
    | succ k ih =>
      intro i hi
      rw [bK default (by omega:i<l.length)]
      by_cases c:t=l.getD i default
      · refine ⟨i,Ev.up ?_,by rw [<- c]; simp⟩
        simp only [G.slices_Index_string.L1,Int.toNat_natCast]
        exact Ev.ct (decide_eq_true (by omega)) (Ev.chk (by omega) (Ev.ct (beq_iff_eq.2 c) (Ev.ret _)))
      · obtain ⟨r,h1,h2⟩:=ih (i+1) (by omega)
        refine ⟨r,Ev.up ?_,by rw [h2]; simp only [List.mem_cons,c,false_or]⟩
        simp only [G.slices_Index_string.L1,Int.toNat_natCast,bP (show i+1<9223372036854775808 by omega)]
        exact Ev.ct (decide_eq_true (by omega)) (Ev.chk (by omega) (Ev.cf (beq_eq_false_iff_ne.2 c) h1))
  obtain ⟨r,h1,h2⟩:=L l.length 0 (by omega)
  rw [List.drop_zero] at h2
  refine Ev.up ?_
  simp only [G.slices_Contains_string]
  refine Ev.bind (a:=r) (Ev.up ?_) (Ev.ret' h2)
  simp only [G.slices_Index_string]
  exact h1
theorem T.jI {l:List aC} {t:aC} (hl:l.length<=1000):Ev (fun f=>G.jI f l t) (Ov l t):=by
  refine Ev.up ?_
  simp only [G.jI]
  unfold Ov
  exact Ev.bind (T.Contains hl) (Ev.ite (fun e=>Ev.ret' (by rw [e]; rfl)) (fun e=>Ev.bind (T.Contains hl) (Ev.ret' (by rw [e]; rfl))))
def vM (w a:List aC) (t:aC) (rd:Bool):Int :=
  if !w.isEmpty&&(t==[] || !Ov w t) then 412 else if !a.isEmpty&&(!(t==[])&&Ov a t) then (if rd then 304 else 412) else 200
theorem NV {α:Type} (l:List α):decide ((0:Int)<((l.length:Nat):Int)) = !l.isEmpty:=by cases l<;>simp
theorem T.lZ {w a:List aC} {t:aC} {rd:Bool} (hw:w.length<=1000) (ha:a.length<=1000):Ev (fun f=>G.lZ f w a t rd) (vM w a t rd):=by
  refine Ev.up ?_
  simp only [G.lZ,NV]
  unfold vM
  have A:=T.iP (t:=t) ha
  have W:=T.iP (t:=t) hw
  generalize Ov a t=na at *
  generalize Ov w t=nw at *
  generalize w.isEmpty=ew
  generalize a.isEmpty=ea
  generalize (t==[])=et
  cases ew<;>cases ea<;>cases et<;>cases na<;>cases nw<;>cases rd<;>exact Xl
theorem T.gm {w a:List aC} {t:aC} {rd:Bool} (hw:xx w=true) (ha:xx a=true) (sw:Sm w) (sa:Sm a) (ht:t=[]\/(Gi t=true/\t.length<big)) (lw:w.length<=1000) (la:a.length<=1000):Ev (fun f=>G.gm f w a t rd) (vM w a t rd):=by
  have K:Ev (fun f=>G.gm.K1 f w a t rd) (vM w a t rd):=by
    refine Ev.up ?_
    simp only [G.gm.K1,NV]
    unfold vM
    have A:=T.jI (t:=t) la
    have W:=T.jI (t:=t) lw
    clear ht
    generalize Ov a t=na at *
    generalize Ov w t=nw at *
    generalize w.isEmpty=ew
    generalize a.isEmpty=ea
    generalize (t==[])=et
    cases ew<;>cases ea<;>cases et<;>cases na<;>cases nw<;>cases rd<;>exact Xl
  refine Ev.up ?_
  simp only [G.gm]
  have h1:=T.fG sw
  have h2:=T.fG sa
  rw [hw] at h1
  rw [ha] at h2
  refine Ev.bind h1 (Ev.ct rfl (Ev.bind h2 (Ev.ct rfl (Ev.ite (fun _=>K) (fun e => ?_)))))
  rcases ht with h | ⟨h,hl⟩
  · rw [h] at e; cases e
  · have h3:=T.jk t hl
    rw [h] at h3
    exact Ev.bind h3 (Ev.ct rfl K)
end Go.Ab
end
section
namespace Go.Ab
open Go
set_option maxRecDepth 100000
theorem JV {l:List aB} {t:aC} {p:Nat} (hA:Asc (pX l)=true) (hp:LB (pX l) t p):Eh l t=if decide (p<l.length)&&(l.getD p default).Name==t then some p else none:=by
  have at_:∀ q,q<l.length->(pX l).getD q default=(l.getD q default).Name:=fun q h=>vG h
  by_cases c:p<l.length/\(l.getD p default).Name=t
  · rw [if_pos (by simpa using c)]
    refine uF.2 ⟨c.1,c.2,fun q hq => ?_⟩
    have:=hp.lo q hq
    rw [at_ q (by omega)] at this
    exact uU this
  · rw [if_neg (by simpa using c)]
    refine J3.2 fun it hit e => ?_
    obtain ⟨q,hq,rfl⟩:=List.mem_iff_getElem.1 hit
    have e:(l.getD q default).Name=t:=by rw [bM _ hq]; exact e
    by_cases h1:q<p
    · have:=hp.lo q h1
      rw [at_ q hq,e,BQ] at this; cases this
    · by_cases h2:q=p
      · subst h2; exact c ⟨hq,e⟩
      · have h3:=sZ hA p q (by omega) (by rw [pK]; exact hq)
        have h4:=hp.hi p (Nat.le_refl _) (by rw [pK]; omega)
        rw [at_ q hq,e] at h3
        rw [h3] at h4; cases h4
theorem JU {l:List aB} {t:aC} {j:Nat} (hA:Asc (pX l)=true) (h:Eh l t=some j):(l.filter fun it => !(it.Name==t))=l.take j++l.drop (j+1):=by
  obtain ⟨h1,h2,h3⟩:=uF.1 h
  have e:l=l.take j++l.getD j default::l.drop (j+1):=by rw [<- bK default h1,List.take_append_drop]
  have a1:(l.take j).filter (fun it => !(it.Name==t))=l.take j:=List.filter_eq_self.2 fun it hit=>by
    obtain ⟨q,hq,rfl⟩:=List.mem_iff_getElem.1 hit
    rw [List.length_take] at hq
    have:=h3 q (by omega)
    rw [bM _ (by omega)] at this
    rw [List.getElem_take]
    simpa using this
  have a2:(l.drop (j+1)).filter (fun it => !(it.Name==t))=l.drop (j+1):=List.filter_eq_self.2 fun it hit=>by
    obtain ⟨q,hq,rfl⟩:=List.mem_iff_getElem.1 hit
    rw [List.length_drop] at hq
    have:=sZ hA j (j+1+q) (by omega) (by rw [pK]; omega)
    rw [vG h1,vG (by omega),h2] at this
    have:=uU this
    rw [bM _ (by omega)] at this
    rw [List.getElem_drop]
    simpa using fun e=>this e.symm
  conv=>lhs; rw [e]
  rw [List.filter_append,List.filter_cons,a1,a2,h2]
  simp
section
variable {B:Nat} {s:StoreT} (t:aC) (hB:B<=lim) (h:qH B s)
include hB h
theorem T.lC:Ev (fun f=>G.lC f s t) (N9 (wM s t)):=by
  have hl:=h.len
  unfold lim at hB
  refine Ev.up ?_
  simp only [G.lC]
  unfold wM
  refine Ev.bind (T.aW hB h) (Ev.ite (fun e => ?_) (fun e=>Ev.ret' (by rw [e]; rfl)))
  have hs:=oH.1 e
  obtain ⟨p,g,hp⟩:=T.ja t (by unfold big; omega) hs.AA
  rw [if_pos e,JV hs.AA hp]
  refine Ev.bind g (Ev.ite (fun c => ?_) (fun c => ?_))
  · have c:decide (p<s.Items.length)&&(s.Items.getD p default).Name==t:=c
    rw [if_pos c]
    have c1:p<s.Items.length:=by simp only [Bool.and_eq_true,decide_eq_true_eq] at c; exact c.1
    obtain ⟨D,hD⟩:=(h.at_ c1).2
    refine Ev.chk (by show (0:Int)<=(p:Int)/\(p:Int)<_; omega) (Ev.bind (Ev.up ?_) (Ev.ret _))
    simp only [G.jV,Int.toNat_natCast]
    exact Ev.bind (T.ax hB hD) (Ev.ret _)
  · have c:(decide (p<s.Items.length)&&(s.Items.getD p default).Name==t)=false:=c
    rw [if_neg (by rw [c]; simp)]
    exact Ev.ret _
theorem T.kP:Ev (fun f=>G.kP f s t) (xE (uS s t)):=by
  have hl:=h.len
  unfold lim at hB
  refine Ev.up ?_
  simp only [G.kP]
  unfold uS
  refine Ev.bind (T.aW hB h) (Ev.ite (fun e => ?_) (fun e=>Ev.ret' (by rw [e]; rfl)))
  have hs:=oH.1 e
  have hsl:=hs.len
  have hlo:=hs.lo
  have hhi:=hs.hi
  obtain ⟨p,g,hp⟩:=T.ja t (by unfold big; omega) hs.AA
  have hf:=JV hs.AA hp
  refine Ev.ite (fun e2=>Ev.ret' (by rw [e2]; simp; rfl)) (fun e2 => ?_)
  refine Ev.bind g (Ev.ite (fun c => ?_) (fun c => ?_))
  · have c:(decide (p<s.Items.length)&&(s.Items.getD p default).Name==t)=true:=c
    rw [if_pos c] at hf
    have c1:p<s.Items.length:=by simp only [Bool.and_eq_true,decide_eq_true_eq] at c; exact c.1
    have w:IntKind.wrap .i64 (s.Clock+1)=s.Clock+1:=by rw [pM (by omega) (by omega)]
    refine Ev.bind (T.bf hB h) (Ev.bind (a:=s.Items.take p++s.Items.drop (p+1)) (Ev.up ?_) (Ev.ret' ?_))
    · simp only [G.fM,bP (show p+1<9223372036854775808 by omega),Int.toNat_natCast]
      exact Ev.chk (by omega) (Ev.ret _)
    · rw [w,<- JU hs.AA hf,e,e2,hf]
      rfl
  · have c:(decide (p<s.Items.length)&&(s.Items.getD p default).Name==t)=false:=c
    rw [if_neg (by rw [c]; simp)] at hf
    exact Ev.ret' (by rw [e,e2,hf]; rfl)
end
structure Wv (q:RequestT):Prop where
  lo:1<=q.Method
  hi:q.Method<=5
  Jo:KZ q.Name=true
  want:xx q.Want=true
  avoid:xx q.l7=true
  body:Val q.Body=true
  ops:Ey q.Ops=true
theorem Di {q:RequestT} : TZ q=true<->Wv q:=by
  unfold TZ
  simp only [Bool.and_eq_true,decide_eq_true_eq]
  exact ⟨fun ⟨⟨a,b⟩,c,d,e,f,g⟩=>⟨a,b,c,d,e,f,g⟩,fun ⟨a,b,c,d,e,f,g⟩=>⟨⟨a,b⟩,c,d,e,f,g⟩⟩
theorem TA {t:aC} (h:Gi t=true):t.length=4:=by
  unfold Gi at h
  simp only [Bool.and_eq_true,decide_eq_true_eq] at h
  exact h.2
theorem TD {t:aC} (h:Jq t=true):t.length<=4:=by
  unfold Jq at h
  simp only [Bool.or_eq_true,beq_iff_eq] at h
  rcases h with h | h
  · rw [h]; simp
  · rw [TA h]; exact Nat.le_refl _
theorem yw {l:List aC} (h:xx l=true):l.length<=4/\∀ t,t∈l->Jq t=true:=by
  unfold xx at h
  simp only [Bool.and_eq_true,decide_eq_true_eq,List.all_eq_true] at h
  exact ⟨h.2,h.1⟩
theorem En {l:List aC} (h:xx l=true):Sm l:=by
  obtain ⟨h1,h2⟩:=yw h
  refine ⟨by unfold big; omega,fun t ht => ?_⟩
  have:=TD (h2 t ht)
  unfold big; omega
theorem Ej:∀ k:Nat,k<16->SI (O9 k)=true:=by decide
theorem Rn {n:Nat} (h:n<65521):Gi (Gn n)=true:=by
  unfold Gi Gn
  simp only [List.all_cons,List.all_nil,Bool.and_true,Bool.and_eq_true,List.length_cons,List.length_nil,decide_true]
  exact ⟨Ej _ (by omega),Ej _ (by omega),Ej _ (by omega),Ej _ (by omega)⟩
theorem TC {n:af} (h:Val n=true):Gi (su n)=true:=by
  unfold su
  rw [if_pos h]
  exact Rn (sum_lt _)
def ans (c:Int):bn:=bn.mk c [] 0 lW
def Ea (s:StoreT) (t:aC) (n:af) (c:Int):StoreT × bn:=match wO s t n with
  | some m=>(m,bn.mk c (su n) m.Clock lW)
  | none=>(s,ans 422)
noncomputable def CU (old:af) (q:RequestT):Option af:=if q.Method=4 then xK old q.Ops else if q.Method=5 then Ou old q.Body else some q.Body
noncomputable def Rk (s:StoreT) (q:RequestT) (it:aB):StoreT × bn :=
  if q.Method=1 then (s,bn.mk 200 (su it.Node) it.Version it.Node) else if q.Method=3 then (match uS s q.Name with
    | some m=>(m,bn.mk 200 [] m.Clock lW)
    | none=>(s,ans 422)) else match CU it.Node q with
    | some n=>Ea s q.Name n 200
    | none=>(s,ans 422)
noncomputable def ML (s:StoreT) (q:RequestT):StoreT × bn:=match wM s q.Name with
  | none=>if q.Method=2 then (if vM q.Want q.l7 [] false=200 then Ea s q.Name q.Body 201 else (s,ans (vM q.Want q.l7 [] false))) else (s,ans 404)
  | some it=>if vM q.Want q.l7 (su it.Node) (q.Method==1)=200 then Rk s q it else (s,ans (vM q.Want q.l7 (su it.Node) (q.Method==1)))
noncomputable def Ap (s:StoreT) (q:RequestT):StoreT × bn:=if wP s&&TZ q then ML s q else (PO,ans 400)
theorem Nu {j:Nat} : decide (sS (some j)<0)=false:=decide_eq_false (by show ¬ (j:Int)<0; omega)
theorem UK {s:StoreT} {t:aC} (hs:wP s=true):wM s t=(Eh s.Items t).map fun j=>s.Items.getD j default:=by unfold wM; rw [if_pos hs]
theorem Kz {n m:af} {l:List lU} (h:xK n l=some m):Val m=true:=by
  unfold xK at h
  split at h
  · rename_i c
    exact SY (by simp at c; exact c.1) h
  · cases h
theorem Kv {n p m:af} (h:Ou n p=some m):Val m=true:=by
  unfold Ou at h
  split at h
  · exact (Option.filter_eq_some_iff.1 h).2
  · cases h
theorem SC {q:RequestT} {old n:af} (hr:TZ q=true) (h:CU old q=some n):Val n=true:=by
  unfold CU at h
  split at h
  · exact Kz h
  · split at h
    · exact Kv h
    · cases h; exact (Di.1 hr).body
theorem T.lG {q:RequestT} {old:af} (hq:Am 60 q) (ho:Val old=true):Ev (fun f=>G.lG f old q) (jb (CU old q)):=by
  refine Ev.up ?_
  simp only [G.lG]
  unfold CU
  have hp:=T.jM mZ (mW ho) hq.ops
  obtain ⟨D,hD⟩:=hq.body
  have hm:=T.jZ (mW ho) hD
  refine Ev.ite (fun e => ?_) (fun e=>Ev.ite (fun e2 => ?_) (fun e2 => ?_))
  · rw [if_pos (by simpa using e)]
    exact Ev.bind hp (Ev.ret _)
  · rw [if_neg (by simpa using e),if_pos (by simpa using e2)]
    exact Ev.bind hm (Ev.ret _)
  · rw [if_neg (by simpa using e),if_neg (by simpa using e2)]
    exact Ev.ret _
section
variable {s:StoreT} {q:RequestT} (hs:OD s) (hq:Am 60 q)
theorem T.iq (c:Int):Ev (fun f=>G.iq f c) (ans c):=by
  refine Ev.up ?_
  simp only [G.iq]
  exact Ev.ret _
theorem copyS (s:StoreT) (hs:OD s):Ev (fun f=>G.bf f s) s/\Ev (fun f=>G.aQ f s) s:=⟨T.bf mZ hs.fine,T.aQ mZ hs.fine⟩
include hs hq
theorem T.iT {old:af} {b:Bool} (hr:Wv q) (ho:Val old=true):Ev (fun f=>G.iT f s q old b) (match CU old q with
    | some n=>Ea s q.Name n (if b then 200 else 201)
    | none=>(s,ans 422)):=by
  obtain ⟨c1,_⟩:=copyS s hs
  refine Ev.up ?_
  simp only [G.iT]
  refine Ev.bind (T.lG hq ho) ?_
  cases hn:CU old q with
  | none=>exact Ev.cf rfl (Ev.bind c1 (Ev.ret _))
  | some n =>
    have hv:=SC (Di.2 hr) hn
    refine Ev.ct rfl (Ev.bind (T.lD mZ hs.fine hq.Jo (mW hv)) ?_)
    show Ev _ (Ea s q.Name n (if b then 200 else 201))
    unfold Ea
    simp only [jb]
    cases wO s q.Name n with
    | none=>exact Ev.cf rfl (Ev.bind c1 (Ev.ret _))
    | some m =>
      refine Ev.ct rfl (Ev.bind (T.lK qc (iJ hv)) ?_)
      cases b<;>exact Xl
theorem T.bz:Ev (fun f=>G.bz f s q) (Ap s q):=by
  obtain ⟨c1,_⟩:=copyS s hs
  have hsv:=oH.2 hs
  refine Ev.up ?_
  simp only [G.bz]
  unfold Ap
  refine Ev.bind (T.aW mZ hs.fine) (Ev.ite (fun _ => ?_) (fun e=>by rw [hsv] at e; cases e))
  refine Ev.bind (T.kz mZ hq) (Ev.ite (fun e => ?_) (fun e=>Ev.ret' (by rw [e,Bool.and_false]; rfl)))
  have hr:=Di.1 e
  have hw:=yw hr.want
  have ha:=yw hr.avoid
  rw [hsv,e]
  show Ev _ (ML s q)
  unfold ML
  refine Ev.bind (T.lC q.Name mZ hs.fine) ?_
  cases hg:wM s q.Name with
  | none =>
    refine Ev.cf rfl (Ev.ite (fun e2 => ?_) (fun e2 => ?_))
    · exact Ev.bind c1 (Ev.ret' (by show _=if q.Method=2 then _ else _; rw [if_neg (by simpa using e2)]; rfl))
    have e2:q.Method=2:=by simpa using e2
    show Ev _ (if q.Method=2 then _ else _)
    rw [if_pos e2]
    refine Ev.up ?_
    simp only [G.bz.K2,e2]
    refine Ev.bind (T.gm hr.want hr.avoid (En hr.want) (En hr.avoid) (.inl rfl) (by omega) (by omega)) (Ev.ite (fun e3 => ?_) (fun e3 => ?_))
    · exact Ev.bind c1 (Ev.ret' (by rw [if_neg (by simpa using e3)]; rfl))
    · have e3:vM q.Want q.l7 [] false=200:=by simpa using e3
      rw [if_pos e3]
      have:=T.iT (old:=lW) (b:=false) hs hq hr uN
      have hn:CU lW q=some q.Body:=by unfold CU; rw [if_neg (by omega),if_neg (by omega)]
      rw [hn] at this
      exact Ev.cf rfl (Ev.cf rfl (Ev.bind this (Ev.ret _)))
  | some it =>
    obtain ⟨_,_,_,hv⟩:=CB hg
    have hct:=T.gm (t:=su it.Node) (rd:=q.Method==1) hr.want hr.avoid (En hr.want) (En hr.avoid) (.inr ⟨TC hv,by have:=Jj it.Node; unfold big; omega⟩) (by omega) (by omega)
    refine Ev.ct rfl (Ev.bind (T.lK qc (iJ hv)) (Ev.up ?_))
    simp only [G.bz.K1]
    refine Ev.bind hct (Ev.ite (fun e3 => ?_) (fun e3 => ?_))
    · exact Ev.bind c1 (Ev.ret' (by show _=if _=_ then _ else _; rw [if_neg (by simpa using e3)]; rfl))
    show Ev _ (if _=_ then _ else _)
    rw [if_pos (by simpa using e3)]
    unfold Rk
    refine Ev.ite (fun e4 => ?_) (fun e4 => ?_)
    · rw [if_pos (by simpa using e4)]
      exact Ev.bind c1 (Ev.ret _)
    rw [if_neg (by simpa using e4)]
    refine Ev.ite (fun e5 => ?_) (fun e5 => ?_)
    · rw [if_pos (by simpa using e5)]
      refine Ev.bind (Ev.up ?_) (Ev.ret _)
      simp only [G.jP]
      refine Ev.bind (T.kP q.Name mZ hs.fine) ?_
      cases uS s q.Name with
      | none=>exact Ev.cf rfl (Ev.bind c1 (Ev.ret _))
      | some m=>exact Ev.ct rfl (Ev.ret _)
    · rw [if_neg (by simpa using e5)]
      exact Ev.bind (T.iT hs hq hr hv) (Ev.ret _)
omit hq
theorem T.kM (t:aC):Ev (fun f=>G.kM f s t) (match Eh s.Items t with
    | some j=>su (s.Items.getD j default).Node
    | none=>[]):=by
  have hl:=hs.len
  refine Ev.up ?_
  simp only [G.kM]
  refine Ev.bind (T.iE t (by unfold lim; omega)) ?_
  cases hj:Eh s.Items t with
  | none=>exact Ev.ct (by decide) (Ev.ret _)
  | some j =>
    have hjl:=(uF.1 hj).1
    have hv:=(hs.it hjl).NZ
    have h5:=fmt5 hv
    have:=sum_lt (o5 5 (s.Items.getD j default).Node)
    have e:su (s.Items.getD j default).Node=Gn (Qe (o5 5 (s.Items.getD j default).Node)):=by unfold su; rw [if_pos hv]
    refine Ev.cf Nu (Ev.chk (by show (0:Int)<=(j:Int)/\(j:Int)<_; omega) ?_)
    rw [show (sS (some j)).toNat=j from Int.toNat_natCast j]
    show Ev _ (su _)
    rw [e]
    exact Ev.bind (T.bH 5 (by omega) (jL hv)) (Ev.bind (T.jy _ (by unfold big; omega)) (Ev.bind (T.nP (by omega)) (Ev.ret _)))
theorem SV {x:aB} : ∃ j,Eh (wY x s.Items) x.Name=some j/\(wY x s.Items).getD j default=x:=by
  cases hj:Eh (wY x s.Items) x.Name with
  | none=>exact absurd rfl (J3.1 hj x ((uG hs.AA).2 (.inl rfl)))
  | some j =>
    obtain ⟨h1,h2,_⟩:=uF.1 hj
    refine ⟨j,rfl,?_⟩
    rcases (uG hs.AA).1 (getD_mem default h1) with e | ⟨_,e⟩
    · exact e
    · exact absurd h2 e
theorem T.iD {t:aC} {n:af} (ht:KZ t=true) (hn:Val n=true):Ev (fun f=>G.iD f s t n) (Ea s t n (if (Eh s.Items t).isSome then 200 else 201)):=by
  obtain ⟨_,c2⟩:=copyS s hs
  have hl:=hs.len
  have K:∀ c:Int,Ev (fun f=>G.iD.K1 f s t n c) (Ea s t n c):=fun c=>by
    have e:wO s t n=(some (Df s t n)).filter wP:=by unfold wO; rw [oH.2 hs,ht,hn]; rfl
    refine Ev.up ?_
    simp only [G.iD.K1]
    unfold Ea
    rw [e]
    refine Ev.bind (T.eX mZ hs.fine (mW hn) hs) (Ev.bind (T.aZ mZ (KF mZ hs.fine hs ht hn)) (Ev.ite (fun e1 => ?_) (fun e1 => ?_)))
    · obtain ⟨j,hj,hx⟩:=SV (x:=aB.mk t (s.Clock+1) n) hs
      have ht:=T.kM (s:=Df s t n) (oH.1 e1) t
      have hj:Eh (Df s t n).Items t=some j:=hj
      have hx:(Df s t n).Items.getD j default=aB.mk t (s.Clock+1) n:=hx
      rw [hj] at ht
      simp only [hx] at ht
      refine Ev.bind ht (Ev.ret' ?_)
      simp [Option.filter,e1]; rfl
    · refine Ev.bind c2 (Ev.bind (T.iq 422) (Ev.ret' ?_))
      simp [Option.filter,e1]
  refine Ev.up ?_
  simp only [G.iD]
  refine Ev.bind (T.iE t (by unfold lim; omega)) ?_
  cases Eh s.Items t with
  | none=>exact Ev.ct (by decide) (K _)
  | some j=>exact Ev.cf Nu (K _)
include hq
theorem T.fP (hr:Wv q):Ev (fun f=>G.fP f s q) (ML s q):=by
  obtain ⟨_,c2⟩:=copyS s hs
  have hl:=hs.len
  have hf:=T.iE (s:=s) q.Name (by unfold lim; omega)
  have htag:=T.kM hs q.Name
  have hw:=yw hr.want
  have ha:=yw hr.avoid
  have chk:∀ t,Ev (fun f=>G.lZ f q.Want q.l7 t (q.Method==1)) (vM q.Want q.l7 t (q.Method==1)):=fun t=>T.lZ (by omega) (by omega)
  have an:=T.iq
  obtain ⟨D,hD⟩:=hq.body
  have hwr:=fun {n:af} (hn:Val n=true)=>T.iD hs hr.Jo hn
  have K:∀ (o:Option af),(∀ n,o=some n->Val n=true)->Ev (fun f=>G.fP.K1 f s q (jb o).2 (jb o).1.Kind (jb o).1.Num (jb o).1.Text (jb o).1.Names (jb o).1.Kids) (match o with
      | some n=>Ea s q.Name n (if (Eh s.Items q.Name).isSome then 200 else 201)
      | none=>(s,ans 422))/\Ev (fun f=>G.fP.K2 f s q (jb o).2 (jb o).1.Kind (jb o).1.Num (jb o).1.Text (jb o).1.Names (jb o).1.Kids) (match o with
      | some n=>Ea s q.Name n (if (Eh s.Items q.Name).isSome then 200 else 201)
      | none=>(s,ans 422)):=fun o ho=>by
    cases o with
    | none =>
      constructor<;>refine Ev.up ?_
      · simp only [G.fP.K1]
        exact Ev.cf rfl (Ev.bind c2 (Ev.bind (an _) (Ev.ret _)))
      · simp only [G.fP.K2]
        exact Ev.cf rfl (Ev.bind c2 (Ev.bind (an _) (Ev.ret _)))
    | some n =>
      constructor<;>refine Ev.up ?_
      · simp only [G.fP.K1,af.eta]
        exact Ev.ct rfl (Ev.bind (hwr (ho n rfl)) (Ev.ret _))
      · simp only [G.fP.K2,af.eta]
        exact Ev.ct rfl (Ev.bind (hwr (ho n rfl)) (Ev.ret _))
  refine Ev.up ?_
  simp only [G.fP]
  unfold ML
  rw [UK (oH.2 hs)]
  refine Ev.bind hf ?_
  cases hj:Eh s.Items q.Name with
  | none =>
    rw [hj] at htag hwr
    refine Ev.ct (by decide) (Ev.ite (fun e => ?_) (fun e => ?_))
    · refine Ev.bind c2 (Ev.bind (an _) (Ev.ret' ?_))
      show _=if q.Method=2 then _ else _
      rw [if_neg (by simpa using e)]
    have e:q.Method=2:=by simpa using e
    show Ev _ (if q.Method=2 then _ else _)
    rw [if_pos e]
    have hc:=chk []
    simp only [e] at hc ⊢
    refine Ev.bind htag (Ev.bind hc (Ev.ite (fun e3 => ?_) (fun e3 => ?_)))
    · exact Ev.bind c2 (Ev.bind (an _) (Ev.ret' (by rw [if_neg (by simpa using e3)]; rfl)))
    · rw [if_pos (by simpa using e3)]
      exact Ev.cf rfl (Ev.ct rfl (Ev.bind (hwr hr.body) (Ev.ret _)))
  | some j =>
    rw [hj] at htag hwr K
    have hjl:=(uF.1 hj).1
    have hit:=hs.it hjl
    have hv:=hit.NZ
    have jn:(sS (some j)).toNat=j:=Int.toNat_natCast j
    have jr:0<=sS (some j)/\sS (some j)<((s.Items.length:Nat):Int):=by show (0:Int)<=(j:Int)/\(j:Int)<_; omega
    have hap:=T.dS mZ (mW hv) hq.ops
    have Yl:=T.jQ (mW hv) hD
    have k1:=K (xK (s.Items.getD j default).Node q.Ops) (fun n h=>Kz h)
    have k2:=K (Ou (s.Items.getD j default).Node q.Body) (fun n h=>Kv h)
    refine Ev.cf Nu (Ev.bind htag (Ev.bind (chk _) (Ev.ite (fun e3 => ?_) (fun e3 => ?_))))
    · refine Ev.bind c2 (Ev.bind (an _) (Ev.ret' ?_))
      show _=if _=_ then _ else _
      rw [if_neg (by simpa using e3)]
    have e3:vM q.Want q.l7 (su (s.Items.getD j default).Node) (q.Method==1)=200:=by simpa using e3
    show Ev _ (if _=_ then _ else _)
    rw [if_pos e3]
    unfold Rk
    simp only [jn,e3]
    refine Ev.ite (fun e4 => ?_) (fun e4 => ?_)
    · rw [if_pos (by simpa using e4)]
      exact Ev.bind c2 (Ev.bind htag (Ev.chk jr (Ev.chk jr (Ev.bind (T.au qc (iJ hv)) (Ev.ret _)))))
    have e4:¬ q.Method=1:=by simpa using e4
    rw [if_neg e4]
    refine Ev.ite (fun e5 => ?_) (fun e5 => ?_)
    · have e5:q.Method=2:=by simpa using e5
      rw [if_neg (by omega)]
      unfold CU
      rw [if_neg (by omega),if_neg (by omega)]
      exact Ev.bind (hwr hr.body) (Ev.ret _)
    refine Ev.ite (fun e6 => ?_) (fun e6 => ?_)
    · rw [if_pos (by simpa using e6)]
      unfold uS
      rw [oH.2 hs,hj]
      refine Ev.ite (fun e7 => ?_) (fun e7 => ?_)
      · exact Ev.bind c2 (Ev.bind (an _) (Ev.ret' (by rw [e7]; rfl)))
      · have hlo:=hs.lo
        have hhi:=hs.hi
        have w:IntKind.wrap .i64 (s.Clock+1)=s.Clock+1:=by rw [pM (by omega) (by omega)]
        rw [w,e7]
        exact Ev.bind (T.iO mZ hs.fine hs) (Ev.ret _)
    rw [if_neg (by simpa using e6)]
    unfold CU
    refine Ev.chk jr (Ev.bind hap (Ev.ite (fun e7 => ?_) (fun e7 => ?_)))
    · have e7:q.Method=5:=by simpa using e7
      rw [if_neg (by omega),if_pos e7]
      refine Ev.chk jr (Ev.bind Yl ?_)
      first | exact k2.1 | exact k2.2
    · have e7:¬ q.Method=5:=by simpa using e7
      have e5:¬ q.Method=2:=by simpa using e5
      have e6:¬ q.Method=3:=by simpa using e6
      have:=hr.lo
      have:=hr.hi
      rw [if_pos (by omega)]
      first | exact k1.1 | exact k1.2
theorem T.gW:Ev (fun f=>G.gW f s q) (Ap s q):=by
  have hsv:=oH.2 hs
  refine Ev.up ?_
  simp only [G.gW]
  unfold Ap
  refine Ev.bind (T.aZ mZ hs.fine) (Ev.ite (fun _ => ?_) (fun e=>by rw [hsv] at e; cases e))
  refine Ev.bind (T.jf mZ hq) (Ev.ite (fun e => ?_) (fun e=>Ev.bind (T.iq 400) (Ev.ret' (by rw [e,Bool.and_false]; rfl))))
  rw [hsv,e]
  exact Ev.bind (T.fP hs hq (Di.1 e)) (Ev.ret _)
end
end Go.Ab
end
section
namespace Go.Ab
open Go
set_option maxRecDepth 100000
section
variable {s:StoreT} {q:RequestT} (hs:qH 60 s) (hq:Am 60 q)
include hs hq
theorem T.Rz:Ev (fun f=>G.bz f s q) (Ap s q):=by
  cases hv:wP s with
  | true=>exact T.bz (oH.1 hv) hq
  | false =>
    refine Ev.up ?_
    simp only [G.bz]
    exact Ev.bind (T.aW mZ hs) (Ev.cf hv (Ev.ret' (by unfold Ap; rw [hv]; rfl)))
theorem T.Tu:Ev (fun f=>G.gW f s q) (Ap s q):=by
  cases hv:wP s with
  | true=>exact T.gW (oH.1 hv) hq
  | false =>
    refine Ev.up ?_
    simp only [G.gW]
    exact Ev.bind (T.aZ mZ hs) (Ev.cf hv (Ev.bind (T.iq 400) (Ev.ret' (by unfold Ap; rw [hv]; rfl))))
end
theorem GR (w a:List aC) (t:aC) (b:Bool):vM w a t b=200\/vM w a t b=304\/vM w a t b=412:=by
  unfold vM
  split
  · exact .inr (.inr rfl)
  · split
    · split
      · exact .inr (.inl rfl)
      · exact .inr (.inr rfl)
    · exact .inl rfl
inductive Ot (s:StoreT) (q:RequestT):StoreT × bn->Prop
  | no (c:Int) (h1:c ≠ 200) (h2:c ≠ 201) (h3:c ≠ 400) (h4:c=404<->(wM s q.Name=none/\q.Method ≠ 2)):Ot s q (s,ans c)
  | get (it:aB) (h1:q.Method=1) (h2:wM s q.Name=some it) (h3:vM q.Want q.l7 (su it.Node) true=200):Ot s q (s,bn.mk 200 (su it.Node) it.Version it.Node)
  | drop (it:aB) (m:StoreT) (h1:q.Method=3) (h2:wM s q.Name=some it) (h3:uS s q.Name=some m):Ot s q (m,bn.mk 200 [] m.Clock lW)
  | made (m:StoreT) (h1:q.Method=2) (h2:wM s q.Name=none) (h3:wO s q.Name q.Body=some m):Ot s q (m,bn.mk 201 (su q.Body) m.Clock lW)
  | put (it:aB) (n:af) (m:StoreT) (h1:q.Method=2\/q.Method=4\/q.Method=5) (h2:wM s q.Name=some it) (h3:CU it.Node q=some n) (h4:wO s q.Name n=some m) (h5:vM q.Want q.l7 (su it.Node) false=200):Ot s q (m,bn.mk 200 (su n) m.Clock lW)
theorem O5 {s:StoreT} {q:RequestT} (hr:Wv q):Ot s q (ML s q):=by
  have h1:=hr.lo
  have h5:=hr.hi
  unfold ML
  cases hg:wM s q.Name with
  | none =>
    show Ot s q (if q.Method=2 then _ else _)
    split
    · rename_i e
      rcases GR q.Want q.l7 [] false with h | h | h
      · rw [if_pos h]
        unfold Ea
        cases hp:wO s q.Name q.Body with
        | none=>exact .no _ (by decide) (by decide) (by decide) ⟨fun h=>by omega,fun h=>absurd e h.2⟩
        | some m=>exact .made m e hg hp
      · rw [if_neg (by omega),h]
        exact .no _ (by decide) (by decide) (by decide) ⟨fun h=>by omega,fun h=>absurd e h.2⟩
      · rw [if_neg (by omega),h]
        exact .no _ (by decide) (by decide) (by decide) ⟨fun h=>by omega,fun h=>absurd e h.2⟩
    · rename_i e
      exact .no _ (by decide) (by decide) (by decide) ⟨fun _=>⟨hg,e⟩,fun _=>rfl⟩
  | some it =>
    have no:∀ c:Int,c ≠ 200->c ≠ 201->c ≠ 400->c ≠ 404->Ot s q (s,ans c):=fun c a b d e => .no c a b d ⟨fun h=>absurd h e,fun h=>by rw [hg] at h; cases h.1⟩
    show Ot s q (if vM q.Want q.l7 (su it.Node) (q.Method==1)=200 then Rk s q it else (s,ans (vM q.Want q.l7 (su it.Node) (q.Method==1))))
    rcases GR q.Want q.l7 (su it.Node) (q.Method==1) with h | h | h
    · rw [if_pos h]
      unfold Rk
      split
      · rename_i e
        rw [show (q.Method==1)=true by simpa using e] at h
        exact .get it e hg h
      · split
        · rename_i e
          cases hd:uS s q.Name with
          | none=>exact no _ (by decide) (by decide) (by decide) (by decide)
          | some m=>exact .drop it m e hg hd
        · rename_i e1 e3
          rw [show (q.Method==1)=false by simpa using e1] at h
          cases hn:CU it.Node q with
          | none=>exact no _ (by decide) (by decide) (by decide) (by decide)
          | some n =>
            unfold Ea
            cases hp:wO s q.Name n with
            | none =>
              show Ot s q (match wO s q.Name n with
                | some m=>(m,bn.mk 200 (su n) m.Clock lW)
                | none=>(s,ans 422))
              rw [hp]
              exact no _ (by decide) (by decide) (by decide) (by decide)
            | some m =>
              show Ot s q (match wO s q.Name n with
                | some m=>(m,bn.mk 200 (su n) m.Clock lW)
                | none=>(s,ans 422))
              rw [hp]
              exact .put it n m (by omega) hg hn hp h
    · rw [if_neg (by omega),h]
      exact no _ (by decide) (by decide) (by decide) (by decide)
    · rw [if_neg (by omega),h]
      exact no _ (by decide) (by decide) (by decide) (by decide)
theorem Rl {s:StoreT} {q:RequestT} : (Ap s q=(PO,ans 400)/\(wP s&&TZ q)=false)\/(OD s/\Wv q/\Ot s q (Ap s q)):=by
  unfold Ap
  cases h:wP s&&TZ q with
  | false=>exact .inl ⟨rfl,rfl⟩
  | true =>
    obtain ⟨h1,h2⟩:=Bool.and_eq_true_iff.1 h
    exact .inr ⟨oH.1 h1,Di.1 h2,O5 (Di.1 h2)⟩
theorem UN {s:StoreT} {q:RequestT} {p:StoreT × bn} (hs:OD s) (h:Ot s q p):wP p.1=true/\Val p.2.Body=true:=by
  cases h with
  | no c=>exact ⟨oH.2 hs,uN⟩
  | get it h1 h2=>exact ⟨oH.2 hs,(CB h2).2.2.2⟩
  | drop it m h1 h2 h3=>exact ⟨(JP h3).2.2.2.2,uN⟩
  | made m h1 h2 h3=>exact ⟨(FC h3).2.2.2.2,uN⟩
  | put it n m h1 h2 h3 h4=>exact ⟨(FC h4).2.2.2.2,uN⟩
theorem Rj (s:StoreT) (q:RequestT):wP (Ap s q).1=true/\Val (Ap s q).2.Body=true:=by
  rcases Rl (s:=s) (q:=q) with ⟨h,_⟩ | ⟨hs,hr,h⟩
  · rw [h]; exact ⟨Tz,uN⟩
  · exact UN hs h
theorem JR {l:List aB} (hl:l.length<=60) (hn:∀ it,it∈l->qG 60 it.Node):Ev (fun f=>G.gI f l l) true:=by
  have L:∀ (k i:Nat),i+k=l.length->Ev (fun f=>G.gI.L1 f l l i) true:=by
    intro k
    induction k with
    | zero =>
      intro i hi
      refine Ev.up ?_
      simp only [G.gI.L1]
      exact Ev.cf (decide_eq_false (by omega)) (Ev.ret _)
    | succ k ih =>
      intro i hi
      obtain ⟨D,hD⟩:=hn _ (getD_mem default (by omega:i<l.length))
      refine Ev.up ?_
      simp only [G.gI.L1,Int.toNat_natCast,bP (show i+1<9223372036854775808 by omega)]
      exact Ev.ct (decide_eq_true (by omega)) (Ev.chk (by omega) (Ev.chk (by omega) (Ev.ct (by simp) (Ev.chk (by omega) (Ev.chk (by omega) (Ev.cf (by simp) (Ev.chk (by omega) (Ev.chk (by omega) (Ev.bind (T.EX mZ hD) (Ev.ct rfl (ih (i+1) (by omega))))))))))))
  refine Ev.up ?_
  simp only [G.gI]
  exact Ev.cf (by simp) (L l.length 0 (by omega))
theorem Dw {s:StoreT} (h:qH 60 s):Ev (fun f=>G.iy f s s) true:=by
  refine Ev.up ?_
  simp only [G.iy]
  exact Ev.ct (by simp) (Ev.bind (JR h.len h.NZ) (Ev.ret _))
theorem MC {r:bn} (h:Val r.Body=true):Ev (fun f=>G.iF f r r) true:=by
  refine Ev.up ?_
  simp only [G.iF]
  exact Ev.ct (by simp) (Ev.ct (by simp) (Ev.ct (by simp) (Ev.bind (O0 h) (Ev.ret _))))
theorem Oe {s:StoreT} (h:wP s=true):qH 60 s:=(oH.1 h).fine
theorem Y4 {m:Int} {t:aC} (ht:t.length<=60):Am 60 (RequestT.mk m t [] [] lW []):=⟨ht,JW,JW,⟨5,mW uN⟩,GZ⟩
abbrev SQ (x:StoreT × RequestT):Prop:=qH 60 x.1/\Am 60 x.2
theorem D.Ak {c:List Int} (hc:Bytes c) (hl:c.length<=1048576):Tot SQ (fun f=>G.iC f c):=by
  refine Tot.up ?_
  simp only [G.iC]
  refine Tot.bind (D.PN hc hl) (fun r hr=>Tot.bind (D.QE hr (by omega)) ?_)
  rintro ⟨s,r1⟩ ⟨hs,hr1⟩
  refine Tot.bind (D.Lr hs hr1 (by omega)) ?_
  rintro ⟨q,r2⟩ ⟨hq,_⟩
  exact Tot.ret ⟨hs,hq⟩
theorem D.Y3 {c:List Int} (hc:Bytes c) (hl:c.length<=1048576):Tot SQ (fun f=>G.YQ f c):=by
  refine Tot.up ?_
  simp only [G.YQ]
  refine Tot.bind (D.Ak hc hl) ?_
  rintro ⟨s,q⟩ h
  exact Tot.ret h
end Go.Ab
end
section
namespace Go.Ab
open Go
set_option maxRecDepth 100000
def good (c:Int):Bool:=c==200||c==201
noncomputable def Za (s:StoreT) (q:RequestT):Bool:=good (Ap s q).2.Status
section
variable {s:StoreT} {q:RequestT} (hs:qH 60 s) (hq:Am 60 q)
include hs hq
omit hs hq in
theorem T.YT (c:Int):Ev (fun f=>G.YT f c) (good c):=by
  refine Ev.up ?_
  simp only [G.YT]
  unfold good
  exact Ev.ite (fun e=>Ev.ret' (by rw [e]; rfl)) (fun e=>Ev.ret' (by rw [e]; rfl))
theorem T.YP:Ev (fun f=>G.YP f s q) (Za s q):=by
  refine Ev.up ?_
  simp only [G.YP]
  exact Ev.bind (T.Rz hs hq) (Ev.bind (T.YT _) (Ev.ret _))
theorem T.YR:Ev (fun f=>G.YR f s q) (Za s q):=by
  refine Ev.up ?_
  simp only [G.YR]
  unfold Za Ap
  refine Ev.bind (T.aZ mZ hs) (Ev.ite (fun e1 => ?_) (fun e1=>Ev.ret' (by rw [e1]; rfl)))
  refine Ev.bind (T.jf mZ hq) (Ev.ite (fun e2 => ?_) (fun e2=>Ev.ret' (by rw [e1,e2]; rfl)))
  rw [e1,e2]
  refine Ev.bind (T.fP (oH.1 e1) hq (Di.1 e2)) ?_
  show Ev _ (good (ML s q).2.Status)
  unfold good
  exact Ev.ite (fun e=>Ev.ret' (by rw [e]; rfl)) (fun e=>Ev.ret' (by rw [e]; rfl))
end
end Go.Ab
end
section
namespace Go.Ab
open Go
set_option maxRecDepth 100000
set_option maxHeartbeats 4000000
set_option linter.unusedVariables false
set_option linter.unusedSimpArgs false
abbrev wI (z:Int):AC := .c (.lit (.int .i64 z))
abbrev wS (s:aC):AC := .c (.str s)
abbrev wT (l:List aC):AC := .c (.sl 1 (List.map cS l))
abbrev wK (l:List af):AC := .c (.sl 5 (List.map af.cells l))
abbrev wN (x:af):List AC:=[wI x.Kind,wI x.Num,wS x.Text,wT x.Names,wK x.Kids]
abbrev eP (a b:Nat):Nat × Slot:=(a,.v true (.one (.ptr b 0)))
abbrev eI (a:Nat) (z:Int):Nat × Slot:=(a,.v true (.one (wI z)))
abbrev eS (a:Nat) (z:aC):Nat × Slot:=(a,.v true (.one (wS z)))
abbrev eT (a:Nat) (z:List aC):Nat × Slot:=(a,.v true (.one (wT z)))
theorem F.cmp_isNaN_int {n:Nat} : ∀ {kV:Int} {r:Bool},G.cmp_isNaN_int n kV=some r->bG pZ 213 [.one (wI kV)] (.one (.c (.lit (.bool r)))):=by
  intro kV r h
  refine aG K.cmp_isNaN_int (kF ?_)
  unfold C.cmp_isNaN_int
  rcases n with _ | n<;>simp only [G.cmp_isNaN_int,reduceCtorEq] at h
  obtain ⟨zc,zg,zk,zu,ze,zj,zt⟩:=pp () <| pp () <| pp () <| pp () <| pp () <| pp () <| ()
  exact kN
theorem F.cmp_Compare_int {n:Nat} : ∀ {kV:Int} {zB:Int} {r:Int},G.cmp_Compare_int n kV zB=some r->bG pZ 210 [.one (wI kV),.one (wI zB)] (.one (wI r)):=by
  intro kV zB r h
  refine aG K.cmp_Compare_int (kF ?_)
  unfold C.cmp_Compare_int
  rcases n with _ | n<;>simp only [G.cmp_Compare_int,reduceCtorEq] at h
  obtain ⟨zc,zg,zk,zu,ze,zj,zt⟩:=pp (pp @F.cmp_isNaN_int ()) <| pp () <| pp () <| pp () <| pp () <| pp () <| ()
  exact kN
theorem F.cmp_isNaN_string {n:Nat} : ∀ {kV:aC} {r:Bool},G.cmp_isNaN_string n kV=some r->bG pZ 192 [.one (wS kV)] (.one (.c (.lit (.bool r)))):=by
  intro kV r h
  refine aG K.cmp_isNaN_string (kF ?_)
  unfold C.cmp_isNaN_string
  rcases n with _ | n<;>simp only [G.cmp_isNaN_string,reduceCtorEq] at h
  obtain ⟨zc,zg,zk,zu,ze,zj,zt⟩:=pp () <| pp () <| pp () <| pp () <| pp () <| pp () <| ()
  exact kN
theorem F.cmp_Less_string {n:Nat} : ∀ {kV:aC} {zB:aC} {r:Bool},G.cmp_Less_string n kV zB=some r->bG pZ 174 [.one (wS kV),.one (wS zB)] (.one (.c (.lit (.bool r)))):=by
  intro kV zB r h
  refine aG K.cmp_Less_string (kF ?_)
  unfold C.cmp_Less_string
  rcases n with _ | n<;>simp only [G.cmp_Less_string,reduceCtorEq] at h
  obtain ⟨zc,zg,zk,zu,ze,zj,zt⟩:=pp (pp @F.cmp_isNaN_string ()) <| pp () <| pp () <| pp () <| pp () <| pp () <| ()
  exact kN
theorem F.DW:∀ (n:Nat),∀ {ag:af} {r:af},G.ax n ag=some r->bG pZ 33 [.agg (wN ag)] (.agg (wN r)):=by
  intro n
  induction n using Nat.strongRecOn with | _ n ih =>
  intro ag r h
  refine aG K.ax (kF ?_)
  unfold C.ax
  rcases n with _ | n<;>simp only [G.ax,reduceCtorEq] at h
  obtain ⟨zc,zg,zk,zu,ze,zj,zt⟩:=pp (pp ih ()) <| pp () <| pp (pp (@lS (List aC × Int × List af) _ (fun n x=>G.ax.L2 n ag x.1 x.2.1 x.2.2) r (fun x=>cu.of [eP 2 113,eP 3 114,(37,.v true (.one (wK ag.Kids))),eI 38 ((ag.Kids.length:Nat):Int),eI 39 x.2.1] [(113,.var zN),(114,.var [wI ag.Kind,wI ag.Num,wS ag.Text,.own 115 x.1.length 1,.own 116 x.2.2.length 5]),(115,.dat 1 (List.map cS x.1)),(116,.dat 5 (List.map af.cells x.2.2))])) ()) <| pp (pp (@pO (List aC) _ (fun n x=>G.ax.K1 n ag x) r (fun x=>cu.of [eP 1 101,eP 2 102,eP 3 103] [(101,.var (wN ag)),(102,.var zN),(103,.var [wI ag.Kind,wI ag.Num,wS ag.Text,.own 104 x.length 1,.fU 5]),(104,.dat 1 (List.map cS x))])) ()) <| pp (pp (And.intro @G.ax.K1.eq_1 <| And.intro @G.ax.K1.eq_2 <| And.intro @G.ax.L2.eq_1 <| @G.ax.L2.eq_2) ()) <| pp (pp (@bg [] [(101,10),(102,11),(103,12),(104,13)] []) <| pp (@bg [] [(101,10),(102,11),(103,12)] [104]) <| pp (@bg [] [(113,102),(114,103),(115,104),(116,14)] []) <| pp (@bg [] [(113,113),(114,114),(115,115),(116,116)] []) ()) <| ()
  exact kN
theorem F.ax {n:Nat} : ∀ {ag:af} {r:af},G.ax n ag=some r->bG pZ 33 [.agg (wN ag)] (.agg (wN r)):=F.DW n
theorem F.mF {n:Nat} : ∀ {ag:af} {r:af},G.ax n ag=some r->eF pZ 33 [.agg (wN ag)] [] (fun r1 b1=>r1 = .agg [wI r.Kind,wI r.Num,wS r.Text,.own 0 r.Names.length 1,.own 1 r.Kids.length 5]/\b1=[.dat 1 (List.map cS r.Names),.dat 5 (List.map af.cells r.Kids)]):=by
  intro ag r h
  refine dA K.ax (kF ?_)
  unfold C.ax
  rcases n with _ | n<;>simp only [G.ax,reduceCtorEq] at h
  obtain ⟨zc,zg,zk,zu,ze,zj,zt⟩:=pp (pp @F.ax ()) <| pp () <| pp (pp (@lS (List aC × Int × List af) _ (fun n x=>G.ax.L2 n ag x.1 x.2.1 x.2.2) r (fun x=>cu.of [eP 2 113,eP 3 114,(37,.v true (.one (wK ag.Kids))),eI 38 ((ag.Kids.length:Nat):Int),eI 39 x.2.1] [(113,.var zN),(114,.var [wI ag.Kind,wI ag.Num,wS ag.Text,.own 115 x.1.length 1,.own 116 x.2.2.length 5]),(115,.dat 1 (List.map cS x.1)),(116,.dat 5 (List.map af.cells x.2.2))])) ()) <| pp (pp (@pO (List aC) _ (fun n x=>G.ax.K1 n ag x) r (fun x=>cu.of [eP 1 101,eP 2 102,eP 3 103] [(101,.var (wN ag)),(102,.var zN),(103,.var [wI ag.Kind,wI ag.Num,wS ag.Text,.own 104 x.length 1,.fU 5]),(104,.dat 1 (List.map cS x))])) ()) <| pp (pp (And.intro @G.ax.K1.eq_1 <| And.intro @G.ax.K1.eq_2 <| And.intro @G.ax.L2.eq_1 <| @G.ax.L2.eq_2) ()) <| pp (pp (@bg [] [(101,10),(102,11),(103,12),(104,13)] []) <| pp (@bg [] [(101,10),(102,11),(103,12)] [104]) <| pp (@bg [] [(113,102),(114,103),(115,104),(116,14)] []) <| pp (@bg [] [(113,113),(114,114),(115,115),(116,116)] []) ()) <| (pp (@lT [] [(0,115),(1,116)] []) <| pp (@lT [] [(0,104)] [1]) ())
  exact kN
theorem F.slices_isNaN_string {n:Nat} : ∀ {kV:aC} {r:Bool},G.slices_isNaN_string n kV=some r->bG pZ 175 [.one (wS kV)] (.one (.c (.lit (.bool r)))):=by
  intro kV r h
  refine aG K.slices_isNaN_string (kF ?_)
  unfold C.slices_isNaN_string
  rcases n with _ | n<;>simp only [G.slices_isNaN_string,reduceCtorEq] at h
  obtain ⟨zc,zg,zk,zu,ze,zj,zt⟩:=pp () <| pp () <| pp () <| pp () <| pp () <| pp () <| ()
  exact kN
theorem F.slices_BinarySearch_string {n:Nat} : ∀ {kV:List aC} {jU:aC} {r:Int × Bool},G.slices_BinarySearch_string n kV jU=some r->bG pZ 159 [.one (wT kV),.one (wS jU)] (.oq [(false,[wI r.1]),(false,[.c (.lit (.bool r.2))])]):=by
  intro kV jU r h
  refine aG K.slices_BinarySearch_string (kF ?_)
  unfold C.slices_BinarySearch_string
  rcases n with _ | n<;>simp only [G.slices_BinarySearch_string,reduceCtorEq] at h
  obtain ⟨zc,zg,zk,zu,ze,zj,zt⟩:=pp (pp @F.cmp_Less_string <| pp @F.slices_isNaN_string ()) <| pp () <| pp (pp (@lS (Int × Int) _ (fun n x=>G.slices_BinarySearch_string.L1 n kV jU x.1 x.2) r (fun x=>cu.of [eT 0 kV,eS 1 jU,eI 6 ((kV.length:Nat):Int),eI 7 x.1,eI 8 x.2] [])) ()) <| pp () <| pp (pp (And.intro @G.slices_BinarySearch_string.L1.eq_1 <| @G.slices_BinarySearch_string.L1.eq_2) ()) <| pp (pp (@bg [] [] []) ()) <| ()
  exact kN
def B.ren:Go.Shelf.Ren:=⟨fun n=>match n with | 129=>200 | 166=>133 | 167=>136 | 169=>99 | 171=>134 | 240=>154 | 243=>155 | 246=>165 | 276=>164 | 283=>179 | 284=>180 | 285=>181 | 286=>182 | 317=>199 | 318=>201 | 319=>202 | 320=>203 | 337=>208 | 338=>209 | _=>0,fun n=>match n with | 0=>0 | 2=>2 | 3=>3 | 4=>4 | 5=>5 | 9=>9 | 20=>20 | 37=>22 | 46=>126 | 51=>176 | 53=>164 | 70=>113 | 72=>115 | 75=>134 | 80=>117 | 127=>139 | 164=>153 | 171=>163 | 173=>167 | 212=>175 | 213=>177 | 232=>182 | 233=>183 | _=>0,fun n=>match n with | 17=>1 | 18=>2 | 19=>3 | _=>0⟩
theorem B.YE:Go.Proofs.Builder.X72 pZ B.ren:=by constructor<;>kernel_rfl
theorem B.x:Go.Proofs.Builder.Extra pZ B.ren:=by constructor<;>first | exact B.YE | kernel_rfl | (intro w; kernel_rfl) | decide
theorem B.lays171:Go.Proofs.Lays.n171 pZ B.ren:=by constructor<;>first | kernel_rfl | (intro w; kernel_rfl)
theorem B.laysM171:Go.Proofs.LaysM.n171 pZ B.ren:=by constructor<;>first | exact B.lays171 | kernel_rfl | (intro w; kernel_rfl)
theorem F.strconv_Itoa {n:Nat} : ∀ {vN:Int} {r:aC},G.strconv_Itoa n vN=some r->bG pZ 134 [.one (wI vN)] (.one (wS r)):=by
  intro i r h
  rcases n with _ | n<;>simp only [G.strconv_Itoa,reduceCtorEq] at h
  obtain ⟨⟨h0,hl⟩,h⟩:=mg.1 h
  exact Ut B.laysM171 h0 (Nat.le_trans hl (by decide)) (by cases h; rfl)
theorem F.bF {n:Nat} : ∀ {ag:af} {dZ:aC} {r:Int × Bool},G.bF n ag dZ=some r->bG pZ 187 [.agg (wN ag),.one (wS dZ)] (.oq [(false,[wI r.1]),(false,[.c (.lit (.bool r.2))])]):=by
  intro ag dZ r h
  refine aG K.bF (kF ?_)
  unfold C.bF
  rcases n with _ | n<;>simp only [G.bF,reduceCtorEq] at h
  obtain ⟨zc,zg,zk,zu,ze,zj,zt⟩:=pp (pp @F.slices_BinarySearch_string <| pp @F.strconv_Itoa ()) <| pp () <| pp (pp (@lS (Int) _ (fun n x=>G.bF.L1 n ag dZ x) r (fun x=>cu.of [eS 1 dZ,eI 21 ((ag.Kids.length:Nat):Int),eI 22 x] [])) ()) <| pp () <| pp (pp (And.intro @G.bF.L1.eq_1 <| @G.bF.L1.eq_2) ()) <| pp (pp (@bg [] [] []) ()) <| ()
  exact kN
theorem FZ.bJ {es:List (List Cell)} {v:List Cell} {c i:Nat} (hc:es.length<=c) (hi:i<=es.length) (hb:(es.length+1)*86<=2^46) :
    eF pZ 177 [.one (.sub 0 0 es.length (some c) 5),.one (wI (i:Int)),.one (.own 1 1 5)] [.dat 5 es,.dat 5 [v]]
      (fun r1 b1=>r1 = .one (.own 2 (es.length+1) 5)/\b1=[.dead,.dat 5 [v],.dat 5 (es.take i++v::es.drop i)]):=by
  have hw:IntKind.wrap .i64 ((es.length:Int)+((1:Nat):Int))=((es.length+1:Nat):Int):=by rw [pM]<;>omega
  have hw2:IntKind.wrap .i64 ((i:Int)+((1:Nat):Int))=((i+1:Nat):Int):=by rw [pM]<;>omega
  have hw3:IntKind.wrap .i64 (((es.length+1:Nat):Int)-i)=((es.length+1-i:Nat):Int):=by rw [pM]<;>omega
  refine dA K.bJ (kF ?_)
  unfold C.bJ
  have h10:(((1:Nat):Int)==0)=false:=rfl
  by_cases h1:i=es.length
  · subst h1
    have he:(((es.length:Nat):Int)==((es.length:Nat):Int))=true:=by simp
    simp -dsimp only [qi,dh.fE,dh.f,dh.rd,gu,fD,lvl,gQ,reduceIte,Nat.reduceEqDiff,Nat.reduceAdd,Nat.reduceLeDiff,Nat.reduceBEq,reduceCtorEq,Int.reduceBNe,Int.reduceBEq,Int.reduceLT,Int.reduceLE,Int.reduceNeg,Nat.reduceLT,gz,Int.reduceToNat,iK,jT,pY,nI,nK,nH,nJ,truncS,Option.map_none,Int.sub_zero,Nat.sub_zero,Int.toNat_sub,Int.ofNat_zero,List.drop_zero,List.take_length,Nat.add_sub_cancel,h10]
    repeat refine And.intro (by first | (show gY _ _ _ _=true; kernel_rfl) | (show eY _ _=true; kernel_rfl) | omega | assumption) ?_
    have e:es++[v]++List.drop (es.length+1) es=es++v::List.drop es.length es:=by simp
    have e2:es++[v]=es++v::List.drop es.length es:=by simp
    by_cases hr:es.length+1<=c
    · simp -dsimp only [qi,dh.fE,dh.f,dh.rd,gu,fD,lvl,gQ,reduceIte,Nat.reduceEqDiff,Nat.reduceAdd,Nat.reduceLeDiff,Nat.reduceBEq,reduceCtorEq,Int.reduceBNe,Int.reduceBEq,Int.reduceLT,Int.reduceLE,Int.reduceNeg,Nat.reduceLT,gz,Int.reduceToNat,iK,jT,pY,nI,nK,nH,nJ,truncS,Option.map_none,Int.sub_zero,Nat.sub_zero,Int.toNat_sub,Int.ofNat_zero,List.drop_zero,List.take_length,Nat.add_sub_cancel,hr]
      repeat refine And.intro (by first | (show gY _ _ _ _=true; kernel_rfl) | (show eY _ _=true; kernel_rfl) | omega | assumption) ?_
      rw [e]
      refine oN [] [(0,0),(1,1),(2,0)] [] (by rfl) ?_ ?_ ?_<;>(simp -dsimp only [Gg,uh,qR,reduceIte,Nat.reduceEqDiff,reduceCtorEq,Nat.reduceAdd,Nat.reduceLeDiff]<;>first | (simp [List.take_of_length_le]; done) | ((try simp only [List.map_take,List.map_drop,List.map_append,List.map_cons,List.map_nil])<;>(repeat' apply And.intro)<;>first | rfl | (simp; done) | (simp<;>omega; done) | (congr 1; exact (List.take_of_length_le (by simp<;>omega)).symm)))
    · simp -dsimp only [qi,dh.fE,dh.f,dh.rd,gu,fD,lvl,gQ,reduceIte,Nat.reduceEqDiff,Nat.reduceAdd,Nat.reduceLeDiff,Nat.reduceBEq,reduceCtorEq,Int.reduceBNe,Int.reduceBEq,Int.reduceLT,Int.reduceLE,Int.reduceNeg,Nat.reduceLT,gz,Int.reduceToNat,iK,jT,pY,nI,nK,nH,nJ,truncS,Option.map_none,Int.sub_zero,Nat.sub_zero,Int.toNat_sub,Int.ofNat_zero,List.drop_zero,List.take_length,Nat.add_sub_cancel,hr]
      repeat refine And.intro (by first | (show gY _ _ _ _=true; kernel_rfl) | (show eY _ _=true; kernel_rfl) | omega | assumption) ?_
      rw [e2]
      refine oN [] [(0,0),(1,1),(2,10)] [] (by rfl) ?_ ?_ ?_<;>(simp -dsimp only [Gg,uh,qR,reduceIte,Nat.reduceEqDiff,reduceCtorEq,Nat.reduceAdd,Nat.reduceLeDiff]<;>first | (simp [List.take_of_length_le]; done) | ((try simp only [List.map_take,List.map_drop,List.map_append,List.map_cons,List.map_nil])<;>(repeat' apply And.intro)<;>first | rfl | (simp; done) | (simp<;>omega; done) | (congr 1; exact (List.take_of_length_le (by simp<;>omega)).symm)))
  · have he:(((i:Nat):Int)==((es.length:Nat):Int))=false:=by simp; omega
    simp -dsimp only [qi,dh.fE,dh.f,dh.rd,gu,fD,lvl,gQ,reduceIte,Nat.reduceEqDiff,Nat.reduceAdd,Nat.reduceLeDiff,Nat.reduceBEq,reduceCtorEq,Int.reduceBNe,Int.reduceBEq,Int.reduceLT,Int.reduceLE,Int.reduceNeg,Nat.reduceLT,gz,Int.reduceToNat,iK,jT,pY,nI,nK,nH,nJ,truncS,Option.map_none,Int.sub_zero,Nat.sub_zero,Int.toNat_sub,Int.ofNat_zero,List.drop_zero,List.take_length,Nat.add_sub_cancel,h10]
    repeat refine And.intro (by first | (show gY _ _ _ _=true; kernel_rfl) | (show eY _ _=true; kernel_rfl) | omega | assumption) ?_
    simp -dsimp only [qi,dh.fE,dh.f,dh.rd,gu,fD,lvl,gQ,reduceIte,Nat.reduceEqDiff,Nat.reduceAdd,Nat.reduceLeDiff,Nat.reduceBEq,reduceCtorEq,Int.reduceBNe,Int.reduceBEq,Int.reduceLT,Int.reduceLE,Int.reduceNeg,Nat.reduceLT,gz,Int.reduceToNat,iK,jT,pY,nI,nK,nH,nJ,truncS,Option.map_none,Int.sub_zero,Nat.sub_zero,Int.toNat_sub,Int.ofNat_zero,List.drop_zero,List.take_length,Nat.add_sub_cancel,he]
    by_cases hr:es.length+1<=c
    · have hd:decide ((c:Int)<((es.length+1:Nat):Int))=false:=by simp; omega
      simp -dsimp only [qi,dh.fE,dh.f,dh.rd,gu,fD,lvl,gQ,reduceIte,Nat.reduceEqDiff,Nat.reduceAdd,Nat.reduceLeDiff,Nat.reduceBEq,reduceCtorEq,Int.reduceBNe,Int.reduceBEq,Int.reduceLT,Int.reduceLE,Int.reduceNeg,Nat.reduceLT,gz,Int.reduceToNat,iK,jT,pY,nI,nK,nH,nJ,truncS,Option.map_none,Int.sub_zero,Nat.sub_zero,Int.toNat_sub,Int.ofNat_zero,List.drop_zero,List.take_length,Nat.add_sub_cancel,hw,hd]
      repeat refine And.intro (by first | (show gY _ _ _ _=true; kernel_rfl) | (show eY _ _=true; kernel_rfl) | omega | assumption) ?_
      simp -dsimp only [qi,dh.fE,dh.f,dh.rd,gu,fD,lvl,gQ,reduceIte,Nat.reduceEqDiff,Nat.reduceAdd,Nat.reduceLeDiff,Nat.reduceBEq,reduceCtorEq,Int.reduceBNe,Int.reduceBEq,Int.reduceLT,Int.reduceLE,Int.reduceNeg,Nat.reduceLT,gz,Int.reduceToNat,iK,jT,pY,nI,nK,nH,nJ,truncS,Option.map_none,Int.sub_zero,Nat.sub_zero,Int.toNat_sub,Int.ofNat_zero,List.drop_zero,List.take_length,Nat.add_sub_cancel,hw2]
      repeat refine And.intro (by first | (show gY _ _ _ _=true; kernel_rfl) | (show eY _ _=true; kernel_rfl) | omega | assumption) ?_
      refine And.intro (by simp; omega) ?_
      have e:=VW es v i (by omega)
      simp only [splice] at e
      rw [e]
      refine oN [] [(0,0),(1,1),(2,0)] [] (by rfl) ?_ ?_ ?_<;>(simp -dsimp only [Gg,uh,qR,reduceIte,Nat.reduceEqDiff,reduceCtorEq,Nat.reduceAdd,Nat.reduceLeDiff]<;>first | (simp [List.take_of_length_le]; done) | ((try simp only [List.map_take,List.map_drop,List.map_append,List.map_cons,List.map_nil])<;>(repeat' apply And.intro)<;>first | rfl | (simp; done) | (simp<;>omega; done) | (congr 1; exact (List.take_of_length_le (by simp<;>omega)).symm)))
    · have hd:decide ((c:Int)<((es.length+1:Nat):Int))=true:=by simp; omega
      have hx:c<i+(es.length+1-i):=by omega
      simp -dsimp only [qi,dh.fE,dh.f,dh.rd,gu,fD,lvl,gQ,reduceIte,Nat.reduceEqDiff,Nat.reduceAdd,Nat.reduceLeDiff,Nat.reduceBEq,reduceCtorEq,Int.reduceBNe,Int.reduceBEq,Int.reduceLT,Int.reduceLE,Int.reduceNeg,Nat.reduceLT,gz,Int.reduceToNat,iK,jT,pY,nI,nK,nH,nJ,truncS,Option.map_none,Int.sub_zero,Nat.sub_zero,Int.toNat_sub,Int.ofNat_zero,List.drop_zero,List.take_length,Nat.add_sub_cancel,hw,hd,hw2,hw3]
      repeat refine And.intro (by first | (show gY _ _ _ _=true; kernel_rfl) | (show eY _ _=true; kernel_rfl) | omega | assumption) ?_
      refine And.intro (by simp; omega) ?_
      repeat refine And.intro (by first | (show gY _ _ _ _=true; kernel_rfl) | (show eY _ _=true; kernel_rfl) | omega | assumption) ?_
      refine And.intro ⟨by omega,by simp; omega⟩ ?_
      repeat refine And.intro (by first | (show gY _ _ _ _=true; kernel_rfl) | (show eY _ _=true; kernel_rfl) | omega | assumption) ?_
      have e:=VX es v [.lit (.int .i64 0),.lit (.int .i64 0),.str [],.sl 1 [],.sl 5 []] i _ (by omega) rfl
      simp only [splice] at e
      have e0:i+(es.length+1-i)=es.length+1:=by omega
      rw [e,e0]
      refine oN [] [(0,0),(1,1),(2,11)] [] (by rfl) ?_ ?_ ?_<;>(simp -dsimp only [Gg,uh,qR,reduceIte,Nat.reduceEqDiff,reduceCtorEq,Nat.reduceAdd,Nat.reduceLeDiff]<;>first | (simp [List.take_of_length_le]; done) | ((try simp only [List.map_take,List.map_drop,List.map_append,List.map_cons,List.map_nil])<;>(repeat' apply And.intro)<;>first | rfl | (simp; done) | (simp<;>omega; done) | (congr 1; exact (List.take_of_length_le (by simp<;>omega)).symm)))
theorem F.bJ {n:Nat} : ∀ {ah:List af} {vN:Int} {rC:List af} {r:List af},G.bJ n ah vN rC=some r ->
    eF pZ 177 [.one (.own 0 ah.length 5),.one (wI vN),.one (.own 1 rC.length 5)] [.dat 5 (List.map af.cells ah),.dat 5 (List.map af.cells rC)]
      (fun r1 b1=>r1 = .one (.own 2 r.length 5)/\b1=[.dead,.dat 5 (List.map af.cells rC),.dat 5 (List.map af.cells r)]):=by
  intro s i v r h
  cases n with
  | zero=>simp only [G.bJ,reduceCtorEq] at h
  | succ n =>
    simp only [G.bJ] at h
    obtain ⟨⟨q1,q2,q3,q4⟩,h⟩:=mg.1 h
    cases h
    obtain ⟨x,rfl⟩:=List.length_eq_one_iff.1 q3
    obtain ⟨k,rfl⟩:∃ k:Nat,i=k:=⟨i.toNat,by omega⟩
    refine yC (fun c hc => ?_)
    have hf:=FZ.bJ (es:=List.map af.cells s) (v:=af.cells x) (c:=c) (i:=k) (by simpa using hc) (by rw [List.length_map]; omega) (by rw [List.length_map]; exact q4)
    have e1:(List.take k s++[x]++List.drop k s).length=s.length+1:=by simp; omega
    rw [Int.toNat_natCast,e1]
    simpa using hf
theorem FZ.fB {es:List (List Cell)} {v:List Cell} {c i:Nat} (hc:es.length<=c) (hi:i<=es.length) (hb:(es.length+1)*18<=2^46) :
    eF pZ 176 [.one (.sub 0 0 es.length (some c) 1),.one (wI (i:Int)),.one (.own 1 1 1)] [.dat 1 es,.dat 1 [v]]
      (fun r1 b1=>r1 = .one (.own 2 (es.length+1) 1)/\b1=[.dead,.dat 1 [v],.dat 1 (es.take i++v::es.drop i)]):=by
  have hw:IntKind.wrap .i64 ((es.length:Int)+((1:Nat):Int))=((es.length+1:Nat):Int):=by rw [pM]<;>omega
  have hw2:IntKind.wrap .i64 ((i:Int)+((1:Nat):Int))=((i+1:Nat):Int):=by rw [pM]<;>omega
  have hw3:IntKind.wrap .i64 (((es.length+1:Nat):Int)-i)=((es.length+1-i:Nat):Int):=by rw [pM]<;>omega
  refine dA K.fB (kF ?_)
  unfold C.fB
  have h10:(((1:Nat):Int)==0)=false:=rfl
  by_cases h1:i=es.length
  · subst h1
    have he:(((es.length:Nat):Int)==((es.length:Nat):Int))=true:=by simp
    simp -dsimp only [qi,dh.fE,dh.f,dh.rd,gu,fD,lvl,gQ,reduceIte,Nat.reduceEqDiff,Nat.reduceAdd,Nat.reduceLeDiff,Nat.reduceBEq,reduceCtorEq,Int.reduceBNe,Int.reduceBEq,Int.reduceLT,Int.reduceLE,Int.reduceNeg,Nat.reduceLT,gz,Int.reduceToNat,iK,jT,pY,nI,nK,nH,nJ,truncS,Option.map_none,Int.sub_zero,Nat.sub_zero,Int.toNat_sub,Int.ofNat_zero,List.drop_zero,List.take_length,Nat.add_sub_cancel,h10]
    repeat refine And.intro (by first | (show gY _ _ _ _=true; kernel_rfl) | (show eY _ _=true; kernel_rfl) | omega | assumption) ?_
    have e:es++[v]++List.drop (es.length+1) es=es++v::List.drop es.length es:=by simp
    have e2:es++[v]=es++v::List.drop es.length es:=by simp
    by_cases hr:es.length+1<=c
    · simp -dsimp only [qi,dh.fE,dh.f,dh.rd,gu,fD,lvl,gQ,reduceIte,Nat.reduceEqDiff,Nat.reduceAdd,Nat.reduceLeDiff,Nat.reduceBEq,reduceCtorEq,Int.reduceBNe,Int.reduceBEq,Int.reduceLT,Int.reduceLE,Int.reduceNeg,Nat.reduceLT,gz,Int.reduceToNat,iK,jT,pY,nI,nK,nH,nJ,truncS,Option.map_none,Int.sub_zero,Nat.sub_zero,Int.toNat_sub,Int.ofNat_zero,List.drop_zero,List.take_length,Nat.add_sub_cancel,hr]
      repeat refine And.intro (by first | (show gY _ _ _ _=true; kernel_rfl) | (show eY _ _=true; kernel_rfl) | omega | assumption) ?_
      rw [e]
      refine oN [] [(0,0),(1,1),(2,0)] [] (by rfl) ?_ ?_ ?_<;>(simp -dsimp only [Gg,uh,qR,reduceIte,Nat.reduceEqDiff,reduceCtorEq,Nat.reduceAdd,Nat.reduceLeDiff]<;>first | (simp [List.take_of_length_le]; done) | ((try simp only [List.map_take,List.map_drop,List.map_append,List.map_cons,List.map_nil])<;>(repeat' apply And.intro)<;>first | rfl | (simp; done) | (simp<;>omega; done) | (congr 1; exact (List.take_of_length_le (by simp<;>omega)).symm)))
    · simp -dsimp only [qi,dh.fE,dh.f,dh.rd,gu,fD,lvl,gQ,reduceIte,Nat.reduceEqDiff,Nat.reduceAdd,Nat.reduceLeDiff,Nat.reduceBEq,reduceCtorEq,Int.reduceBNe,Int.reduceBEq,Int.reduceLT,Int.reduceLE,Int.reduceNeg,Nat.reduceLT,gz,Int.reduceToNat,iK,jT,pY,nI,nK,nH,nJ,truncS,Option.map_none,Int.sub_zero,Nat.sub_zero,Int.toNat_sub,Int.ofNat_zero,List.drop_zero,List.take_length,Nat.add_sub_cancel,hr]
      repeat refine And.intro (by first | (show gY _ _ _ _=true; kernel_rfl) | (show eY _ _=true; kernel_rfl) | omega | assumption) ?_
      rw [e2]
      refine oN [] [(0,0),(1,1),(2,10)] [] (by rfl) ?_ ?_ ?_<;>(simp -dsimp only [Gg,uh,qR,reduceIte,Nat.reduceEqDiff,reduceCtorEq,Nat.reduceAdd,Nat.reduceLeDiff]<;>first | (simp [List.take_of_length_le]; done) | ((try simp only [List.map_take,List.map_drop,List.map_append,List.map_cons,List.map_nil])<;>(repeat' apply And.intro)<;>first | rfl | (simp; done) | (simp<;>omega; done) | (congr 1; exact (List.take_of_length_le (by simp<;>omega)).symm)))
  · have he:(((i:Nat):Int)==((es.length:Nat):Int))=false:=by simp; omega
    simp -dsimp only [qi,dh.fE,dh.f,dh.rd,gu,fD,lvl,gQ,reduceIte,Nat.reduceEqDiff,Nat.reduceAdd,Nat.reduceLeDiff,Nat.reduceBEq,reduceCtorEq,Int.reduceBNe,Int.reduceBEq,Int.reduceLT,Int.reduceLE,Int.reduceNeg,Nat.reduceLT,gz,Int.reduceToNat,iK,jT,pY,nI,nK,nH,nJ,truncS,Option.map_none,Int.sub_zero,Nat.sub_zero,Int.toNat_sub,Int.ofNat_zero,List.drop_zero,List.take_length,Nat.add_sub_cancel,h10]
    repeat refine And.intro (by first | (show gY _ _ _ _=true; kernel_rfl) | (show eY _ _=true; kernel_rfl) | omega | assumption) ?_
    simp -dsimp only [qi,dh.fE,dh.f,dh.rd,gu,fD,lvl,gQ,reduceIte,Nat.reduceEqDiff,Nat.reduceAdd,Nat.reduceLeDiff,Nat.reduceBEq,reduceCtorEq,Int.reduceBNe,Int.reduceBEq,Int.reduceLT,Int.reduceLE,Int.reduceNeg,Nat.reduceLT,gz,Int.reduceToNat,iK,jT,pY,nI,nK,nH,nJ,truncS,Option.map_none,Int.sub_zero,Nat.sub_zero,Int.toNat_sub,Int.ofNat_zero,List.drop_zero,List.take_length,Nat.add_sub_cancel,he]
    by_cases hr:es.length+1<=c
    · have hd:decide ((c:Int)<((es.length+1:Nat):Int))=false:=by simp; omega
      simp -dsimp only [qi,dh.fE,dh.f,dh.rd,gu,fD,lvl,gQ,reduceIte,Nat.reduceEqDiff,Nat.reduceAdd,Nat.reduceLeDiff,Nat.reduceBEq,reduceCtorEq,Int.reduceBNe,Int.reduceBEq,Int.reduceLT,Int.reduceLE,Int.reduceNeg,Nat.reduceLT,gz,Int.reduceToNat,iK,jT,pY,nI,nK,nH,nJ,truncS,Option.map_none,Int.sub_zero,Nat.sub_zero,Int.toNat_sub,Int.ofNat_zero,List.drop_zero,List.take_length,Nat.add_sub_cancel,hw,hd]
      repeat refine And.intro (by first | (show gY _ _ _ _=true; kernel_rfl) | (show eY _ _=true; kernel_rfl) | omega | assumption) ?_
      simp -dsimp only [qi,dh.fE,dh.f,dh.rd,gu,fD,lvl,gQ,reduceIte,Nat.reduceEqDiff,Nat.reduceAdd,Nat.reduceLeDiff,Nat.reduceBEq,reduceCtorEq,Int.reduceBNe,Int.reduceBEq,Int.reduceLT,Int.reduceLE,Int.reduceNeg,Nat.reduceLT,gz,Int.reduceToNat,iK,jT,pY,nI,nK,nH,nJ,truncS,Option.map_none,Int.sub_zero,Nat.sub_zero,Int.toNat_sub,Int.ofNat_zero,List.drop_zero,List.take_length,Nat.add_sub_cancel,hw2]
      repeat refine And.intro (by first | (show gY _ _ _ _=true; kernel_rfl) | (show eY _ _=true; kernel_rfl) | omega | assumption) ?_
      refine And.intro (by simp; omega) ?_
      have e:=VW es v i (by omega)
      simp only [splice] at e
      rw [e]
      refine oN [] [(0,0),(1,1),(2,0)] [] (by rfl) ?_ ?_ ?_<;>(simp -dsimp only [Gg,uh,qR,reduceIte,Nat.reduceEqDiff,reduceCtorEq,Nat.reduceAdd,Nat.reduceLeDiff]<;>first | (simp [List.take_of_length_le]; done) | ((try simp only [List.map_take,List.map_drop,List.map_append,List.map_cons,List.map_nil])<;>(repeat' apply And.intro)<;>first | rfl | (simp; done) | (simp<;>omega; done) | (congr 1; exact (List.take_of_length_le (by simp<;>omega)).symm)))
    · have hd:decide ((c:Int)<((es.length+1:Nat):Int))=true:=by simp; omega
      have hx:c<i+(es.length+1-i):=by omega
      simp -dsimp only [qi,dh.fE,dh.f,dh.rd,gu,fD,lvl,gQ,reduceIte,Nat.reduceEqDiff,Nat.reduceAdd,Nat.reduceLeDiff,Nat.reduceBEq,reduceCtorEq,Int.reduceBNe,Int.reduceBEq,Int.reduceLT,Int.reduceLE,Int.reduceNeg,Nat.reduceLT,gz,Int.reduceToNat,iK,jT,pY,nI,nK,nH,nJ,truncS,Option.map_none,Int.sub_zero,Nat.sub_zero,Int.toNat_sub,Int.ofNat_zero,List.drop_zero,List.take_length,Nat.add_sub_cancel,hw,hd,hw2,hw3]
      repeat refine And.intro (by first | (show gY _ _ _ _=true; kernel_rfl) | (show eY _ _=true; kernel_rfl) | omega | assumption) ?_
      refine And.intro (by simp; omega) ?_
      repeat refine And.intro (by first | (show gY _ _ _ _=true; kernel_rfl) | (show eY _ _=true; kernel_rfl) | omega | assumption) ?_
      refine And.intro ⟨by omega,by simp; omega⟩ ?_
      repeat refine And.intro (by first | (show gY _ _ _ _=true; kernel_rfl) | (show eY _ _=true; kernel_rfl) | omega | assumption) ?_
      have e:=VX es v [.str []] i _ (by omega) rfl
      simp only [splice] at e
      have e0:i+(es.length+1-i)=es.length+1:=by omega
      rw [e,e0]
      refine oN [] [(0,0),(1,1),(2,11)] [] (by rfl) ?_ ?_ ?_<;>(simp -dsimp only [Gg,uh,qR,reduceIte,Nat.reduceEqDiff,reduceCtorEq,Nat.reduceAdd,Nat.reduceLeDiff]<;>first | (simp [List.take_of_length_le]; done) | ((try simp only [List.map_take,List.map_drop,List.map_append,List.map_cons,List.map_nil])<;>(repeat' apply And.intro)<;>first | rfl | (simp; done) | (simp<;>omega; done) | (congr 1; exact (List.take_of_length_le (by simp<;>omega)).symm)))
theorem F.fB {n:Nat} : ∀ {ah:List aC} {vN:Int} {rC:List aC} {r:List aC},G.fB n ah vN rC=some r ->
    eF pZ 176 [.one (.own 0 ah.length 1),.one (wI vN),.one (.own 1 rC.length 1)] [.dat 1 (List.map cS ah),.dat 1 (List.map cS rC)]
      (fun r1 b1=>r1 = .one (.own 2 r.length 1)/\b1=[.dead,.dat 1 (List.map cS rC),.dat 1 (List.map cS r)]):=by
  intro s i v r h
  cases n with
  | zero=>simp only [G.fB,reduceCtorEq] at h
  | succ n =>
    simp only [G.fB] at h
    obtain ⟨⟨q1,q2,q3,q4⟩,h⟩:=mg.1 h
    cases h
    obtain ⟨x,rfl⟩:=List.length_eq_one_iff.1 q3
    obtain ⟨k,rfl⟩:∃ k:Nat,i=k:=⟨i.toNat,by omega⟩
    refine yC (fun c hc => ?_)
    have hf:=FZ.fB (es:=List.map cS s) (v:=cS x) (c:=c) (i:=k) (by simpa using hc) (by rw [List.length_map]; omega) (by rw [List.length_map]; exact q4)
    have e1:(List.take k s++[x]++List.drop k s).length=s.length+1:=by simp; omega
    rw [Int.toNat_natCast,e1]
    simpa using hf
theorem F.jD {n:Nat} : ∀ {pq:af} {aJ:aC} {bU:af} {r:af},G.jD n pq aJ bU=some r->eF pZ 160 [.one (.ptr 0 0),.one (wS aJ),.agg (wN bU)] [.var [wI pq.Kind,wI pq.Num,wS pq.Text,.own 1 pq.Names.length 1,.own 2 pq.Kids.length 5],.dat 1 (List.map cS pq.Names),.dat 5 (List.map af.cells pq.Kids)] (fun r1 b1=>r1 = .oq []/\b1=[.var [wI r.Kind,wI r.Num,wS r.Text,.own 3 r.Names.length 1,.own 4 r.Kids.length 5],.dead,.dead,.dat 1 (List.map cS r.Names),.dat 5 (List.map af.cells r.Kids)]):=by
  intro pq aJ bU r h
  refine dA K.jD (kF ?_)
  unfold C.jD
  rcases n with _ | n<;>simp only [G.jD,reduceCtorEq] at h
  obtain ⟨zc,zg,zk,zu,ze,zj,zt⟩:=pp (pp @F.slices_BinarySearch_string ()) <| pp (pp (pp @F.fB (@cG [1,11] [101])) <| pp (pp @F.bJ (@cG [2,12] [102])) ()) <| pp () <| pp () <| pp () <| pp () <| (pp (@lT [] [(0,0),(1,1),(2,2),(3,1),(4,2)] []) <| pp (@lT [] [(0,0),(1,1),(2,2),(3,101),(4,102)] []) ())
  exact kN
theorem F.gX {n:Nat} : ∀ {ag:af} {dZ:aC} {bU:af} {r:af × Bool},G.gX n ag dZ bU=some r->bG pZ 185 [.agg (wN ag),.one (wS dZ),.agg (wN bU)] (.oq [(true,(wN r.1)),(false,[.c (.lit (.bool r.2))])]):=by
  intro ag dZ bU r h
  refine aG K.gX (kF ?_)
  unfold C.gX
  rcases n with _ | n<;>simp only [G.gX,reduceCtorEq] at h
  obtain ⟨zc,zg,zk,zu,ze,zj,zt⟩:=pp (pp @F.bF <| pp @F.strconv_Itoa ()) <| pp (pp (pp @F.mF (@cG [] [101,102])) <| pp (pp @F.mF (@cG [] [103,104])) <| pp (pp @F.jD (@cH [13,101,102] [105,106])) <| pp (pp @F.mF (@cG [] [112,113])) <| pp (pp @F.bJ (@cG [111,14] [114])) ()) <| pp () <| pp (pp (@pO (af × Int × Bool) _ (fun n x=>G.gX.K1 n bU x.1 x.2.1 x.2.2) r (fun x=>cu.of [eP 5 107,eP 6 108,eP 8 109,eI 9 x.2.1,(10,.v true (.one (.c (.lit (.bool x.2.2)))))] [(107,.var (wN bU)),(108,.var zN),(109,.var [wI x.1.Kind,wI x.1.Num,wS x.1.Text,.own 110 x.1.Names.length 1,.own 111 x.1.Kids.length 5]),(110,.dat 1 (List.map cS x.1.Names)),(111,.dat 5 (List.map af.cells x.1.Kids))])) ()) <| pp (pp (And.intro @G.gX.K1.eq_1 <| @G.gX.K1.eq_2) ()) <| pp (pp (@bg [] [(107,11),(108,12),(109,13),(110,101),(111,102)] []) ()) <| ()
  exact kN
theorem F.kW {n:Nat} : ∀ {ou:af} {gy:List aC} {jA:Int} {oJ:af} {r:af × Bool},G.kW n ou gy jA oJ=some r->eF pZ 184 [.agg (wN ou),.one (.ptr 0 0),.one (.ptr 1 0),.one (.ptr 2 0)] [.var [wT gy],.var [wI jA],.var (wN oJ)] (fun r1 b1=>r1 = .oq [(true,(wN r.1)),(false,[.c (.lit (.bool r.2))])]/\b1=[.var [wT gy],.var [wI jA],.var (wN oJ)]):=by
  intro ou gy jA oJ r h
  refine dA K.kW (kF ?_)
  unfold C.kW
  rcases n with _ | n<;>simp only [G.kW,reduceCtorEq] at h
  obtain ⟨zc,zg,zk,zu,ze,zj,zt⟩:=pp (pp @F.gX ()) <| pp () <| pp () <| pp () <| pp () <| pp () <| (pp (@lT [] [(0,0),(1,1),(2,2)] []) ())
  exact kN
theorem F.bD {n:Nat} : ∀ {ah:aC} {r:Bool},G.bD n ah=some r->bG pZ 130 [.one (wS ah)] (.one (.c (.lit (.bool r)))):=by
  intro ah r h
  refine aG K.bD (kF ?_)
  unfold C.bD
  rcases n with _ | n<;>simp only [G.bD,reduceCtorEq] at h
  obtain ⟨zc,zg,zk,zu,ze,zj,zt⟩:=pp () <| pp () <| pp (pp (@lS (Int) _ (fun n x=>G.bD.L1 n ah x) r (fun x=>cu.of [eS 0 ah,eI 3 x] [])) ()) <| pp () <| pp (pp (And.intro @G.bD.L1.eq_1 <| @G.bD.L1.eq_2) ()) <| pp (pp (@bg [] [] []) ()) <| ()
  exact kN
theorem F.fH {n:Nat} : ∀ {mV:List aC} {r:Bool},G.fH n mV=some r->bG pZ 131 [.one (wT mV)] (.one (.c (.lit (.bool r)))):=by
  intro mV r h
  refine aG K.fH (kF ?_)
  unfold C.fH
  rcases n with _ | n<;>simp only [G.fH,reduceCtorEq] at h
  obtain ⟨zc,zg,zk,zu,ze,zj,zt⟩:=pp (pp @F.bD ()) <| pp () <| pp (pp (@lS (Int) _ (fun n x=>G.fH.L1 n mV x) r (fun x=>cu.of [eT 0 mV,eT 8 mV,eI 9 ((mV.length:Nat):Int),eI 10 x] [])) ()) <| pp () <| pp (pp (And.intro @G.fH.L1.eq_1 <| @G.fH.L1.eq_2) ()) <| pp (pp (@bg [] [] []) ()) <| ()
  exact kN
theorem F.bI {n:Nat} : ∀ {ag:af} {r:Bool},G.bI n ag=some r->bG pZ 95 [.agg (wN ag)] (.one (.c (.lit (.bool r)))):=by
  intro ag r h
  refine aG K.bI (kF ?_)
  unfold C.bI
  rcases n with _ | n<;>simp only [G.bI,reduceCtorEq] at h
  obtain ⟨zc,zg,zk,zu,ze,zj,zt⟩:=pp (pp @F.bD <| pp @F.fH ()) <| pp () <| pp () <| pp (pp (@pO (Unit) _ (fun n x=>G.bI.K1 n ag) r (fun x=>cu.of [eP 1 101,(20,.v true (.one (.c (.lit (.bool false)))))] [(101,.var (wN ag))])) ()) <| pp (pp (And.intro @G.bI.K1.eq_1 <| @G.bI.K1.eq_2) ()) <| pp (pp (@bg [] [(101,10)] []) ()) <| ()
  exact kN
theorem F.zU:∀ (n:Nat),∀ {ag:af} {oO:Int} {r:Int × Int × Bool},G.bu n ag oO=some r->bG pZ 59 [.agg (wN ag),.one (wI oO)] (.oq [(false,[wI r.1]),(false,[wI r.2.1]),(false,[.c (.lit (.bool r.2.2))])]):=by
  intro n
  induction n using Nat.strongRecOn with | _ n ih =>
  intro ag oO r h
  refine aG K.bu (kF ?_)
  unfold C.bu
  rcases n with _ | n<;>simp only [G.bu,reduceCtorEq] at h
  obtain ⟨zc,zg,zk,zu,ze,zj,zt⟩:=pp (pp ih <| pp @F.bI ()) <| pp () <| pp (pp (@lS (Int × Int × Int) _ (fun n x=>G.bu.L1 n ag oO x.1 x.2.1 x.2.2) r (fun x=>cu.of [eI 1 oO,eI 4 x.1,eI 5 x.2.1,(20,.v true (.one (wK ag.Kids))),eI 21 ((ag.Kids.length:Nat):Int),eI 22 x.2.2] [])) ()) <| pp () <| pp (pp (And.intro @G.bu.L1.eq_1 <| @G.bu.L1.eq_2) ()) <| pp (pp (@bg [] [] []) ()) <| ()
  exact kN
theorem F.bu {n:Nat} : ∀ {ag:af} {oO:Int} {r:Int × Int × Bool},G.bu n ag oO=some r->bG pZ 59 [.agg (wN ag),.one (wI oO)] (.oq [(false,[wI r.1]),(false,[wI r.2.1]),(false,[.c (.lit (.bool r.2.2))])]):=F.zU n
theorem F.aH {n:Nat} : ∀ {ag:af} {r:Bool},G.aH n ag=some r->bG pZ 30 [.agg (wN ag)] (.one (.c (.lit (.bool r)))):=by
  intro ag r h
  refine aG K.aH (kF ?_)
  unfold C.aH
  rcases n with _ | n<;>simp only [G.aH,reduceCtorEq] at h
  obtain ⟨zc,zg,zk,zu,ze,zj,zt⟩:=pp (pp @F.bu ()) <| pp () <| pp () <| pp () <| pp () <| pp () <| ()
  exact kN
theorem F.sD:∀ (n:Nat),∀ {ag:af} {ai:List aC} {gy:List aC} {jA:Int} {oJ:af} {r:af × Bool},G.dQ n ag ai gy jA oJ=some r->eF pZ 183 [.agg (wN ag),.one (wT ai),.one (.fn 184 [0,1,2])] [.var [wT gy],.var [wI jA],.var (wN oJ)] (fun r1 b1=>r1 = .oq [(true,(wN r.1)),(false,[.c (.lit (.bool r.2))])]/\b1=[.var [wT gy],.var [wI jA],.var (wN oJ)]):=by
  intro n
  induction n using Nat.strongRecOn with | _ n ih =>
  intro ag ai gy jA oJ r h
  refine dA K.dQ (kF ?_)
  unfold C.pU
  rcases n with _ | n<;>simp only [G.dQ,reduceCtorEq] at h
  obtain ⟨zc,zg,zk,zu,ze,zj,zt⟩:=pp (pp @F.bF ()) <| pp (pp (pp ih (@cG [0,1,2] [])) <| pp (pp @F.kW (@cG [0,1,2] [])) <| pp (pp @F.mF (@cG [] [101,102])) ()) <| pp () <| pp () <| pp () <| pp () <| (pp (@lT [] [(0,0),(1,1),(2,2)] []) <| pp (@lT [101,102] [(0,0),(1,1),(2,2)] []) ())
  exact kN
theorem F.dQ {n:Nat} : ∀ {ag:af} {ai:List aC} {gy:List aC} {jA:Int} {oJ:af} {r:af × Bool},G.dQ n ag ai gy jA oJ=some r->eF pZ 183 [.agg (wN ag),.one (wT ai),.one (.fn 184 [0,1,2])] [.var [wT gy],.var [wI jA],.var (wN oJ)] (fun r1 b1=>r1 = .oq [(true,(wN r.1)),(false,[.c (.lit (.bool r.2))])]/\b1=[.var [wT gy],.var [wI jA],.var (wN oJ)]):=F.sD n
theorem F.jC {n:Nat} : ∀ {ag:af} {xM:Bool} {r:af × Bool},G.jC n ag xM=some r->bG pZ 140 [.agg (wN ag),.one (.c (.lit (.bool xM)))] (.oq [(true,(wN r.1)),(false,[.c (.lit (.bool r.2))])]):=by
  intro ag xM r h
  refine aG K.jC (kF ?_)
  unfold C.jC
  rcases n with _ | n<;>simp only [G.jC,reduceCtorEq] at h
  obtain ⟨zc,zg,zk,zu,ze,zj,zt⟩:=pp (pp @F.aH ()) <| pp () <| pp () <| pp () <| pp () <| pp () <| ()
  exact kN
theorem F.dL {n:Nat} : ∀ {ai:List aC} {r:Bool},G.dL n ai=some r->bG pZ 125 [.one (wT ai)] (.one (.c (.lit (.bool r)))):=by
  intro ai r h
  refine aG K.dL (kF ?_)
  unfold C.dL
  rcases n with _ | n<;>simp only [G.dL,reduceCtorEq] at h
  obtain ⟨zc,zg,zk,zu,ze,zj,zt⟩:=pp (pp @F.bD ()) <| pp () <| pp (pp (@lS (Int) _ (fun n x=>G.dL.L1 n ai x) r (fun x=>cu.of [eT 8 ai,eI 9 ((ai.length:Nat):Int),eI 10 x] [])) ()) <| pp () <| pp (pp (And.intro @G.dL.L1.eq_1 <| @G.dL.L1.eq_2) ()) <| pp (pp (@bg [] [] []) ()) <| ()
  exact kN
theorem F.ji {n:Nat} : ∀ {ag:af} {ai:List aC} {bU:af} {r:af × Bool},G.ji n ag ai bU=some r->bG pZ 166 [.agg (wN ag),.one (wT ai),.agg (wN bU)] (.oq [(true,(wN r.1)),(false,[.c (.lit (.bool r.2))])]):=by
  intro ag ai bU r h
  refine aG K.ji (kF ?_)
  unfold C.ji
  rcases n with _ | n<;>simp only [G.ji,reduceCtorEq] at h
  obtain ⟨zc,zg,zk,zu,ze,zj,zt⟩:=pp (pp @F.aH <| pp @F.dL <| pp @F.ax <| pp @F.jC ()) <| pp (pp (pp @F.dQ (@cG [11,14,12] [])) ()) <| pp () <| pp () <| pp () <| pp () <| ()
  exact kN
theorem F.fJ {n:Nat} : ∀ {ag:af} {ai:List aC} {r:af × Bool},G.fJ n ag ai=some r->bG pZ 190 [.agg (wN ag),.one (wT ai)] (.oq [(true,(wN r.1)),(false,[.c (.lit (.bool r.2))])]):=by
  intro ag ai r h
  refine aG K.fJ (kF ?_)
  unfold C.fJ
  rcases n with _ | n<;>simp only [G.fJ,reduceCtorEq] at h
  obtain ⟨zc,zg,zk,zu,ze,zj,zt⟩:=pp (pp @F.bF ()) <| pp () <| pp (pp (@lS (Int × Int × Int × aC × List aC × List af) _ (fun n x=>G.fJ.L1 n ai x.1 x.2.1 x.2.2.1 x.2.2.2.1 x.2.2.2.2.1 x.2.2.2.2.2) r (fun x=>cu.of [eP 2 105,eP 4 106,eT 10 ai,eI 11 ((ai.length:Nat):Int),eI 12 x.1] [(105,.var [wI x.2.1,wI x.2.2.1,wS x.2.2.2.1,wT x.2.2.2.2.1,wK x.2.2.2.2.2]),(106,.var zN)])) ()) <| pp () <| pp (pp (And.intro @G.fJ.L1.eq_1 <| @G.fJ.L1.eq_2) ()) <| pp (pp (@bg [] [(105,10),(106,11)] []) <| pp (@bg [] [(105,105),(106,106)] []) ()) <| ()
  exact kN
theorem F.kS {n:Nat} : ∀ {ag:af} {ai:List aC} {r:af × Bool},G.kS n ag ai=some r->bG pZ 170 [.agg (wN ag),.one (wT ai)] (.oq [(true,(wN r.1)),(false,[.c (.lit (.bool r.2))])]):=by
  intro ag ai r h
  refine aG K.kS (kF ?_)
  unfold C.kS
  rcases n with _ | n<;>simp only [G.kS,reduceCtorEq] at h
  obtain ⟨zc,zg,zk,zu,ze,zj,zt⟩:=pp (pp @F.aH <| pp @F.dL <| pp @F.fJ <| pp @F.ax ()) <| pp () <| pp () <| pp () <| pp () <| pp () <| ()
  exact kN
theorem FZ.bW {es:List (List Cell)} {c i j:Nat} (hc:es.length<=c) (hi:i<j) (hj:j<=es.length) (hb:es.length*86<=2^46) :
    eF pZ 173 [.one (.sub 0 0 es.length (some c) 5),.one (wI (i:Int)),.one (wI (j:Int))] [.dat 5 es]
      (fun r1 b1=>r1 = .one (.own 1 (i+(es.length-j)) 5)/\b1=[.dead,.dat 5 (es.take i++es.drop j)]):=by
  refine dA K.bW (kF ?_)
  unfold C.bW
  have he:(((i:Nat):Int)==((j:Nat):Int))=false:=by simp; omega
  have ht:List.take (es.length-j) (List.drop j es)=List.drop j es:=List.take_of_length_le (by simp)
  have hr:i+(es.length-j)<=c:=by omega
  simp -dsimp only [qi,dh.fE,dh.f,dh.rd,gu,fD,lvl,gQ,reduceIte,Nat.reduceEqDiff,Nat.reduceAdd,Nat.reduceLeDiff,Nat.reduceBEq,reduceCtorEq,Int.reduceBNe,Int.reduceBEq,Int.reduceLT,Int.reduceLE,Int.reduceNeg,Nat.reduceLT,gz,Int.reduceToNat,iK,jT,pY,nI,nK,nH,nJ,truncS,Option.map_none,Int.sub_zero,Nat.sub_zero,Int.toNat_sub,Int.ofNat_zero,List.drop_zero,List.take_length,Nat.add_sub_cancel,he]
  repeat refine And.intro (by first | (show gY _ _ _ _=true; kernel_rfl) | (show eY _ _=true; kernel_rfl) | omega | assumption) ?_
  simp -dsimp only [qi,dh.fE,dh.f,dh.rd,gu,fD,lvl,gQ,reduceIte,Nat.reduceEqDiff,Nat.reduceAdd,Nat.reduceLeDiff,Nat.reduceBEq,reduceCtorEq,Int.reduceBNe,Int.reduceBEq,Int.reduceLT,Int.reduceLE,Int.reduceNeg,Nat.reduceLT,gz,Int.reduceToNat,iK,jT,pY,nI,nK,nH,nJ,truncS,Option.map_none,Int.sub_zero,Nat.sub_zero,Int.toNat_sub,Int.ofNat_zero,List.drop_zero,List.take_length,Nat.add_sub_cancel,ht,List.length_drop,hr]
  repeat refine And.intro (by first | (show gY _ _ _ _=true; kernel_rfl) | (show eY _ _=true; kernel_rfl) | omega | assumption) ?_
  refine And.intro (by simp; omega) ?_
  have e4:(List.take i es).length=i:=by simp; omega
  have e:List.take (i+(es.length-j)) (List.take i es++List.drop j es++List.drop (i+(es.length-j)) es)=List.take i es++List.drop j es:=by
    have e5:(List.take i es++List.drop j es).length=i+(es.length-j):=by rw [List.length_append,e4,List.length_drop]
    rw [List.take_append_of_le_length (by omega),List.take_of_length_le (by omega)]
  rw [e,List.append_assoc]
  generalize List.replicate (es.length-(i+(es.length-j))) [.lit (.int .i64 0),.lit (.int .i64 0),.str [],.sl 1 [],.sl 5 []]++List.drop (i+(es.length-j)+(es.length-(i+(es.length-j)))) (List.take i es++List.drop j es++List.drop (i+(es.length-j)) es)=T
  generalize List.take i es++List.drop j es=A
  refine oN [] [(0,0),(1,0)] [] (by rfl) ?_ ?_ ?_<;>(simp -dsimp only [Gg,uh,qR,reduceIte,Nat.reduceEqDiff,reduceCtorEq,Nat.reduceAdd,Nat.reduceLeDiff]<;>first | (simp [List.take_of_length_le]; done) | ((try simp only [List.map_take,List.map_drop,List.map_append,List.map_cons,List.map_nil])<;>(repeat' apply And.intro)<;>first | rfl | (simp; done) | (simp<;>omega; done) | (congr 1; exact (List.take_of_length_le (by simp<;>omega)).symm)))
theorem F.bW {n:Nat} : ∀ {ah:List af} {vN:Int} {Jr:Int} {r:List af},G.bW n ah vN Jr=some r ->
    eF pZ 173 [.one (.own 0 ah.length 5),.one (wI vN),.one (wI Jr)] [.dat 5 (List.map af.cells ah)]
      (fun r1 b1=>r1 = .one (.own 1 r.length 5)/\b1=[.dead,.dat 5 (List.map af.cells r)]):=by
  intro s i j r h
  cases n with
  | zero=>simp only [G.bW,reduceCtorEq] at h
  | succ n =>
    simp only [G.bW] at h
    obtain ⟨⟨q1,q2,q3,q4⟩,h⟩:=mg.1 h
    cases h
    obtain ⟨k,rfl⟩:∃ k:Nat,i=k:=⟨i.toNat,by omega⟩
    obtain ⟨l,rfl⟩:∃ l:Nat,j=l:=⟨j.toNat,by omega⟩
    refine yC (fun c hc => ?_)
    have hf:=FZ.bW (es:=List.map af.cells s) (c:=c) (i:=k) (j:=l) (by simpa using hc) (by omega) (by rw [List.length_map]; omega) (by rw [List.length_map]; exact q4)
    have e1:(List.take k s++List.drop l s).length=k+(s.length-l):=by simp; omega
    rw [Int.toNat_natCast,Int.toNat_natCast,e1]
    simpa using hf
theorem FZ.slices_Delete_string {es:List (List Cell)} {c i j:Nat} (hc:es.length<=c) (hi:i<j) (hj:j<=es.length) (hb:es.length*18<=2^46) :
    eF pZ 172 [.one (.sub 0 0 es.length (some c) 1),.one (wI (i:Int)),.one (wI (j:Int))] [.dat 1 es]
      (fun r1 b1=>r1 = .one (.own 1 (i+(es.length-j)) 1)/\b1=[.dead,.dat 1 (es.take i++es.drop j)]):=by
  refine dA K.slices_Delete_string (kF ?_)
  unfold C.slices_Delete_string
  have he:(((i:Nat):Int)==((j:Nat):Int))=false:=by simp; omega
  have ht:List.take (es.length-j) (List.drop j es)=List.drop j es:=List.take_of_length_le (by simp)
  have hr:i+(es.length-j)<=c:=by omega
  simp -dsimp only [qi,dh.fE,dh.f,dh.rd,gu,fD,lvl,gQ,reduceIte,Nat.reduceEqDiff,Nat.reduceAdd,Nat.reduceLeDiff,Nat.reduceBEq,reduceCtorEq,Int.reduceBNe,Int.reduceBEq,Int.reduceLT,Int.reduceLE,Int.reduceNeg,Nat.reduceLT,gz,Int.reduceToNat,iK,jT,pY,nI,nK,nH,nJ,truncS,Option.map_none,Int.sub_zero,Nat.sub_zero,Int.toNat_sub,Int.ofNat_zero,List.drop_zero,List.take_length,Nat.add_sub_cancel,he]
  repeat refine And.intro (by first | (show gY _ _ _ _=true; kernel_rfl) | (show eY _ _=true; kernel_rfl) | omega | assumption) ?_
  simp -dsimp only [qi,dh.fE,dh.f,dh.rd,gu,fD,lvl,gQ,reduceIte,Nat.reduceEqDiff,Nat.reduceAdd,Nat.reduceLeDiff,Nat.reduceBEq,reduceCtorEq,Int.reduceBNe,Int.reduceBEq,Int.reduceLT,Int.reduceLE,Int.reduceNeg,Nat.reduceLT,gz,Int.reduceToNat,iK,jT,pY,nI,nK,nH,nJ,truncS,Option.map_none,Int.sub_zero,Nat.sub_zero,Int.toNat_sub,Int.ofNat_zero,List.drop_zero,List.take_length,Nat.add_sub_cancel,ht,List.length_drop,hr]
  repeat refine And.intro (by first | (show gY _ _ _ _=true; kernel_rfl) | (show eY _ _=true; kernel_rfl) | omega | assumption) ?_
  refine And.intro (by simp; omega) ?_
  have e4:(List.take i es).length=i:=by simp; omega
  have e:List.take (i+(es.length-j)) (List.take i es++List.drop j es++List.drop (i+(es.length-j)) es)=List.take i es++List.drop j es:=by
    have e5:(List.take i es++List.drop j es).length=i+(es.length-j):=by rw [List.length_append,e4,List.length_drop]
    rw [List.take_append_of_le_length (by omega),List.take_of_length_le (by omega)]
  rw [e,List.append_assoc]
  generalize List.replicate (es.length-(i+(es.length-j))) [.str []]++List.drop (i+(es.length-j)+(es.length-(i+(es.length-j)))) (List.take i es++List.drop j es++List.drop (i+(es.length-j)) es)=T
  generalize List.take i es++List.drop j es=A
  refine oN [] [(0,0),(1,0)] [] (by rfl) ?_ ?_ ?_<;>(simp -dsimp only [Gg,uh,qR,reduceIte,Nat.reduceEqDiff,reduceCtorEq,Nat.reduceAdd,Nat.reduceLeDiff]<;>first | (simp [List.take_of_length_le]; done) | ((try simp only [List.map_take,List.map_drop,List.map_append,List.map_cons,List.map_nil])<;>(repeat' apply And.intro)<;>first | rfl | (simp; done) | (simp<;>omega; done) | (congr 1; exact (List.take_of_length_le (by simp<;>omega)).symm)))
theorem F.slices_Delete_string {n:Nat} : ∀ {ah:List aC} {vN:Int} {Jr:Int} {r:List aC},G.slices_Delete_string n ah vN Jr=some r ->
    eF pZ 172 [.one (.own 0 ah.length 1),.one (wI vN),.one (wI Jr)] [.dat 1 (List.map cS ah)]
      (fun r1 b1=>r1 = .one (.own 1 r.length 1)/\b1=[.dead,.dat 1 (List.map cS r)]):=by
  intro s i j r h
  cases n with
  | zero=>simp only [G.slices_Delete_string,reduceCtorEq] at h
  | succ n =>
    simp only [G.slices_Delete_string] at h
    obtain ⟨⟨q1,q2,q3,q4⟩,h⟩:=mg.1 h
    cases h
    obtain ⟨k,rfl⟩:∃ k:Nat,i=k:=⟨i.toNat,by omega⟩
    obtain ⟨l,rfl⟩:∃ l:Nat,j=l:=⟨j.toNat,by omega⟩
    refine yC (fun c hc => ?_)
    have hf:=FZ.slices_Delete_string (es:=List.map cS s) (c:=c) (i:=k) (j:=l) (by simpa using hc) (by omega) (by rw [List.length_map]; omega) (by rw [List.length_map]; exact q4)
    have e1:(List.take k s++List.drop l s).length=k+(s.length-l):=by simp; omega
    rw [Int.toNat_natCast,Int.toNat_natCast,e1]
    simpa using hf
theorem F.dK {n:Nat} : ∀ {ou:af} {gy:List aC} {jA:Int} {r:af × Bool},G.dK n ou gy jA=some r->eF pZ 186 [.agg (wN ou),.one (.ptr 0 0),.one (.ptr 1 0)] [.var [wT gy],.var [wI jA]] (fun r1 b1=>r1 = .oq [(true,(wN r.1)),(false,[.c (.lit (.bool r.2))])]/\b1=[.var [wT gy],.var [wI jA]]):=by
  intro ou gy jA r h
  refine dA K.dK (kF ?_)
  unfold C.dK
  rcases n with _ | n<;>simp only [G.dK,reduceCtorEq] at h
  obtain ⟨zc,zg,zk,zu,ze,zj,zt⟩:=pp (pp @F.bF ()) <| pp (pp (pp @F.mF (@cG [] [101,102])) <| pp (pp @F.slices_Delete_string (@cG [101] [109])) <| pp (pp @F.bW (@cG [107] [108])) ()) <| pp () <| pp (pp (@pO ((Int × Bool) × af × List aC) _ (fun n x=>G.dK.K1 n x.1 x.2.1 x.2.2) r (fun x=>cu.of [eP 4 104,eI 6 x.1.1,eP 8 105] [(0,.var [wT gy]),(1,.var [wI jA]),(104,.var zN),(105,.var [wI x.2.1.Kind,wI x.2.1.Num,wS x.2.1.Text,.own 106 x.2.2.length 1,.own 107 x.2.1.Kids.length 5]),(106,.dat 1 (List.map cS x.2.2)),(107,.dat 5 (List.map af.cells x.2.1.Kids))])) ()) <| pp (pp (And.intro @G.dK.K1.eq_1 <| @G.dK.K1.eq_2) ()) <| pp (pp (@bg [] [(0,0),(1,1),(104,11),(105,12),(106,109),(107,102)] []) <| pp (@bg [] [(0,0),(1,1),(104,11),(105,12),(106,101),(107,102)] []) ()) <| (pp (@lT [106,108] [(0,0),(1,1)] []) <| pp (@lT [] [(0,0),(1,1)] []) ())
  exact kN
theorem F.rD:∀ (n:Nat),∀ {ag:af} {ai:List aC} {gy:List aC} {jA:Int} {r:af × Bool},G.dn n ag ai gy jA=some r->eF pZ 183 [.agg (wN ag),.one (wT ai),.one (.fn 186 [0,1])] [.var [wT gy],.var [wI jA]] (fun r1 b1=>r1 = .oq [(true,(wN r.1)),(false,[.c (.lit (.bool r.2))])]/\b1=[.var [wT gy],.var [wI jA]]):=by
  intro n
  induction n using Nat.strongRecOn with | _ n ih =>
  intro ag ai gy jA r h
  refine dA K.dn (kF ?_)
  unfold C.pU
  rcases n with _ | n<;>simp only [G.dn,reduceCtorEq] at h
  obtain ⟨zc,zg,zk,zu,ze,zj,zt⟩:=pp (pp @F.bF ()) <| pp (pp (pp ih (@cG [0,1] [])) <| pp (pp @F.dK (@cG [0,1] [])) <| pp (pp @F.mF (@cG [] [101,102])) ()) <| pp () <| pp () <| pp () <| pp () <| (pp (@lT [] [(0,0),(1,1)] []) <| pp (@lT [101,102] [(0,0),(1,1)] []) ())
  exact kN
theorem F.dn {n:Nat} : ∀ {ag:af} {ai:List aC} {gy:List aC} {jA:Int} {r:af × Bool},G.dn n ag ai gy jA=some r->eF pZ 183 [.agg (wN ag),.one (wT ai),.one (.fn 186 [0,1])] [.var [wT gy],.var [wI jA]] (fun r1 b1=>r1 = .oq [(true,(wN r.1)),(false,[.c (.lit (.bool r.2))])]/\b1=[.var [wT gy],.var [wI jA]]):=F.rD n
theorem F.iw {n:Nat} : ∀ {ag:af} {ai:List aC} {r:af × Bool},G.iw n ag ai=some r->bG pZ 167 [.agg (wN ag),.one (wT ai)] (.oq [(true,(wN r.1)),(false,[.c (.lit (.bool r.2))])]):=by
  intro ag ai r h
  refine aG K.iw (kF ?_)
  unfold C.iw
  rcases n with _ | n<;>simp only [G.iw,reduceCtorEq] at h
  obtain ⟨zc,zg,zk,zu,ze,zj,zt⟩:=pp (pp @F.aH <| pp @F.dL ()) <| pp (pp (pp @F.dn (@cG [11,13] [])) ()) <| pp () <| pp () <| pp () <| pp () <| ()
  exact kN
theorem F.kX {n:Nat} : ∀ {dF:af} {gy:af} {r:af × Bool},G.kX n dF gy=some r->eF pZ 188 [.agg (wN dF),.one (.ptr 0 0)] [.var (wN gy)] (fun r1 b1=>r1 = .oq [(true,(wN r.1)),(false,[.c (.lit (.bool r.2))])]/\b1=[.var (wN gy)]):=by
  intro dF gy r h
  refine dA K.kX (kF ?_)
  unfold C.kX
  rcases n with _ | n<;>simp only [G.kX,reduceCtorEq] at h
  obtain ⟨zc,zg,zk,zu,ze,zj,zt⟩:=pp (pp @F.ax ()) <| pp () <| pp () <| pp () <| pp () <| pp () <| (pp (@lT [] [(0,0)] []) ())
  exact kN
theorem F.sF:∀ (n:Nat),∀ {ag:af} {ai:List aC} {gy:af} {r:af × Bool},G.dR n ag ai gy=some r->eF pZ 183 [.agg (wN ag),.one (wT ai),.one (.fn 188 [0])] [.var (wN gy)] (fun r1 b1=>r1 = .oq [(true,(wN r.1)),(false,[.c (.lit (.bool r.2))])]/\b1=[.var (wN gy)]):=by
  intro n
  induction n using Nat.strongRecOn with | _ n ih =>
  intro ag ai gy r h
  refine dA K.dR (kF ?_)
  unfold C.pU
  rcases n with _ | n<;>simp only [G.dR,reduceCtorEq] at h
  obtain ⟨zc,zg,zk,zu,ze,zj,zt⟩:=pp (pp @F.bF ()) <| pp (pp (pp ih (@cG [0] [])) <| pp (pp @F.kX (@cG [0] [])) <| pp (pp @F.mF (@cG [] [101,102])) ()) <| pp () <| pp () <| pp () <| pp () <| (pp (@lT [] [(0,0)] []) <| pp (@lT [101,102] [(0,0)] []) ())
  exact kN
theorem F.dR {n:Nat} : ∀ {ag:af} {ai:List aC} {gy:af} {r:af × Bool},G.dR n ag ai gy=some r->eF pZ 183 [.agg (wN ag),.one (wT ai),.one (.fn 188 [0])] [.var (wN gy)] (fun r1 b1=>r1 = .oq [(true,(wN r.1)),(false,[.c (.lit (.bool r.2))])]/\b1=[.var (wN gy)]):=F.sF n
theorem F.lF {n:Nat} : ∀ {ag:af} {ai:List aC} {bU:af} {r:af × Bool},G.lF n ag ai bU=some r->bG pZ 168 [.agg (wN ag),.one (wT ai),.agg (wN bU)] (.oq [(true,(wN r.1)),(false,[.c (.lit (.bool r.2))])]):=by
  intro ag ai bU r h
  refine aG K.lF (kF ?_)
  unfold C.lF
  rcases n with _ | n<;>simp only [G.lF,reduceCtorEq] at h
  obtain ⟨zc,zg,zk,zu,ze,zj,zt⟩:=pp (pp @F.aH <| pp @F.dL <| pp @F.jC ()) <| pp (pp (pp @F.dR (@cG [11] [])) ()) <| pp () <| pp () <| pp () <| pp () <| ()
  exact kN
theorem F.mJ {n:Nat} : ∀ {iQ:lU} {r:Bool},G.mJ n iQ=some r->bG pZ 90 [.agg [wI iQ.Kind,wT iQ.Path,wT iQ.From,wI iQ.Value.Kind,wI iQ.Value.Num,wS iQ.Value.Text,wT iQ.Value.Names,wK iQ.Value.Kids]] (.one (.c (.lit (.bool r)))):=by
  intro iQ r h
  refine aG K.mJ (kF ?_)
  unfold C.mJ
  rcases n with _ | n<;>simp only [G.mJ,reduceCtorEq] at h
  obtain ⟨zc,zg,zk,zu,ze,zj,zt⟩:=pp (pp @F.dL <| pp @F.aH ()) <| pp () <| pp () <| pp () <| pp () <| pp () <| ()
  exact kN
theorem F.slices_Equal_string {n:Nat} : ∀ {uT:List aC} {xy:List aC} {r:Bool},G.slices_Equal_string n uT xy=some r->bG pZ 189 [.one (wT uT),.one (wT xy)] (.one (.c (.lit (.bool r)))):=by
  intro uT xy r h
  refine aG K.slices_Equal_string (kF ?_)
  unfold C.slices_Equal_string
  rcases n with _ | n<;>simp only [G.slices_Equal_string,reduceCtorEq] at h
  obtain ⟨zc,zg,zk,zu,ze,zj,zt⟩:=pp () <| pp () <| pp (pp (@lS (Int) _ (fun n x=>G.slices_Equal_string.L1 n uT xy x) r (fun x=>cu.of [eT 0 uT,eT 1 xy,eI 12 ((uT.length:Nat):Int),eI 13 x] [])) ()) <| pp () <| pp (pp (And.intro @G.slices_Equal_string.L1.eq_1 <| @G.slices_Equal_string.L1.eq_2) ()) <| pp (pp (@bg [] [] []) ()) <| ()
  exact kN
theorem F.kQ {n:Nat} : ∀ {ag:af} {qp:List aC} {ai:List aC} {r:af × Bool},G.kQ n ag qp ai=some r->bG pZ 169 [.agg (wN ag),.one (wT qp),.one (wT ai)] (.oq [(true,(wN r.1)),(false,[.c (.lit (.bool r.2))])]):=by
  intro ag qp ai r h
  refine aG K.kQ (kF ?_)
  unfold C.kQ
  rcases n with _ | n<;>simp only [G.kQ,reduceCtorEq] at h
  obtain ⟨zc,zg,zk,zu,ze,zj,zt⟩:=pp (pp @F.kS <| pp @F.slices_Equal_string <| pp @F.ax <| pp @F.iw <| pp @F.ji ()) <| pp () <| pp () <| pp () <| pp () <| pp () <| ()
  exact kN
theorem F.bV {n:Nat} : ∀ {dF:aC} {dI:aC} {r:Int},G.bV n dF dI=some r->bG pZ 113 [.one (wS dF),.one (wS dI)] (.one (wI r)):=by
  intro dF dI r h
  refine aG K.bV (kF ?_)
  unfold C.bV
  rcases n with _ | n<;>simp only [G.bV,reduceCtorEq] at h
  obtain ⟨zc,zg,zk,zu,ze,zj,zt⟩:=pp () <| pp () <| pp () <| pp () <| pp () <| pp () <| ()
  exact kN
theorem F.strings_Compare {n:Nat} : ∀ {dF:aC} {dI:aC} {r:Int},G.strings_Compare n dF dI=some r->bG pZ 78 [.one (wS dF),.one (wS dI)] (.one (wI r)):=by
  intro dF dI r h
  refine aG K.strings_Compare (kF ?_)
  unfold C.strings_Compare
  rcases n with _ | n<;>simp only [G.strings_Compare,reduceCtorEq] at h
  obtain ⟨zc,zg,zk,zu,ze,zj,zt⟩:=pp (pp @F.bV ()) <| pp () <| pp () <| pp () <| pp () <| pp () <| ()
  exact kN
theorem F.yY:∀ (n:Nat),∀ {dF:af} {dI:af} {r:Int},G.aN n dF dI=some r->bG pZ 204 [.agg (wN dF),.agg (wN dI)] (.one (wI r)):=by
  intro n
  induction n using Nat.strongRecOn with | _ n ih =>
  intro dF dI r h
  refine aG K.aN (kF ?_)
  unfold C.aN
  rcases n with _ | n<;>simp only [G.aN,reduceCtorEq] at h
  obtain ⟨zc,zg,zk,zu,ze,zj,zt⟩:=pp (pp ih <| pp @F.cmp_Compare_int <| pp @F.strings_Compare ()) <| pp () <| pp (pp (@lS (Int) _ (fun n x=>G.aN.L3 n dF dI x) r (fun x=>cu.of [eP 2 109,eP 3 110,eI 8 x] [(109,.var (wN dF)),(110,.var (wN dI))])) ()) <| pp (pp (@pO (Int) _ (fun n x=>G.aN.K4 n dF dI x) r (fun x=>cu.of [eP 2 111,eP 3 112,eI 8 x] [(111,.var (wN dF)),(112,.var (wN dI))])) ()) <| pp (pp (And.intro @G.aN.L3.eq_1 <| And.intro @G.aN.L3.eq_2 <| And.intro @G.aN.K4.eq_1 <| @G.aN.K4.eq_2) ()) <| pp (pp (@bg [] [(109,10),(110,11)] []) <| pp (@bg [] [(111,109),(112,110)] []) <| pp (@bg [] [(109,111),(110,112)] []) ()) <| ()
  exact kN
theorem F.aN {n:Nat} : ∀ {dF:af} {dI:af} {r:Int},G.aN n dF dI=some r->bG pZ 204 [.agg (wN dF),.agg (wN dI)] (.one (wI r)):=F.yY n
theorem F.kR {n:Nat} : ∀ {dF:af} {dI:af} {r:Bool},G.kR n dF dI=some r->bG pZ 191 [.agg (wN dF),.agg (wN dI)] (.one (.c (.lit (.bool r)))):=by
  intro dF dI r h
  refine aG K.kR (kF ?_)
  unfold C.kR
  rcases n with _ | n<;>simp only [G.kR,reduceCtorEq] at h
  obtain ⟨zc,zg,zk,zu,ze,zj,zt⟩:=pp (pp @F.aN ()) <| pp () <| pp () <| pp () <| pp () <| pp () <| ()
  exact kN
theorem F.jW {n:Nat} : ∀ {ag:af} {ai:List aC} {bU:af} {r:af × Bool},G.jW n ag ai bU=some r->bG pZ 171 [.agg (wN ag),.one (wT ai),.agg (wN bU)] (.oq [(true,(wN r.1)),(false,[.c (.lit (.bool r.2))])]):=by
  intro ag ai bU r h
  refine aG K.jW (kF ?_)
  unfold C.jW
  rcases n with _ | n<;>simp only [G.jW,reduceCtorEq] at h
  obtain ⟨zc,zg,zk,zu,ze,zj,zt⟩:=pp (pp @F.fJ <| pp @F.kR <| pp @F.ax ()) <| pp () <| pp () <| pp () <| pp () <| pp () <| ()
  exact kN
theorem F.lu {n:Nat} : ∀ {ag:af} {iQ:lU} {r:af × Bool},G.lu n ag iQ=some r->bG pZ 157 [.agg (wN ag),.agg [wI iQ.Kind,wT iQ.Path,wT iQ.From,wI iQ.Value.Kind,wI iQ.Value.Num,wS iQ.Value.Text,wT iQ.Value.Names,wK iQ.Value.Kids]] (.oq [(true,(wN r.1)),(false,[.c (.lit (.bool r.2))])]):=by
  intro ag iQ r h
  refine aG K.lu (kF ?_)
  unfold C.lu
  rcases n with _ | n<;>simp only [G.lu,reduceCtorEq] at h
  obtain ⟨zc,zg,zk,zu,ze,zj,zt⟩:=pp (pp @F.aH <| pp @F.mJ <| pp @F.ji <| pp @F.iw <| pp @F.lF <| pp @F.kQ <| pp @F.kS <| pp @F.jW ()) <| pp () <| pp () <| pp () <| pp () <| pp () <| ()
  exact kN
theorem F.di {n:Nat} : ∀ {aA:List lU} {r:Bool},G.di n aA=some r->bG pZ 53 [.one (.c (.sl 8 (List.map lU.cells aA)))] (.one (.c (.lit (.bool r)))):=by
  intro aA r h
  refine aG K.di (kF ?_)
  unfold C.di
  rcases n with _ | n<;>simp only [G.di,reduceCtorEq] at h
  obtain ⟨zc,zg,zk,zu,ze,zj,zt⟩:=pp (pp @F.mJ ()) <| pp () <| pp (pp (@lS (Int) _ (fun n x=>G.di.L1 n aA x) r (fun x=>cu.of [(8,.v true (.one (.c (.sl 8 (List.map lU.cells aA))))),eI 9 ((aA.length:Nat):Int),eI 10 x] [])) ()) <| pp () <| pp (pp (And.intro @G.di.L1.eq_1 <| @G.di.L1.eq_2) ()) <| pp (pp (@bg [] [] []) ()) <| ()
  exact kN
theorem F.gG {n:Nat} : ∀ {ag:af} {aA:List lU} {r:af × Int},G.gG n ag aA=some r->bG pZ 139 [.agg (wN ag),.one (.c (.sl 8 (List.map lU.cells aA)))] (.oq [(true,(wN r.1)),(false,[wI r.2])]):=by
  intro ag aA r h
  refine aG K.gG (kF ?_)
  unfold C.gG
  rcases n with _ | n<;>simp only [G.gG,reduceCtorEq] at h
  obtain ⟨zc,zg,zk,zu,ze,zj,zt⟩:=pp (pp @F.ax <| pp @F.lu ()) <| pp () <| pp (pp (@lS (Int × Int × Int × aC × List aC × List af) _ (fun n x=>G.gG.L1 n aA x.1 x.2.1 x.2.2.1 x.2.2.2.1 x.2.2.2.2.1 x.2.2.2.2.2) r (fun x=>cu.of [(1,.v true (.one (.c (.sl 8 (List.map lU.cells aA))))),eP 4 105,eP 6 106,(13,.v true (.one (.c (.sl 8 (List.map lU.cells aA))))),eI 14 ((aA.length:Nat):Int),eI 15 x.1] [(105,.var zN),(106,.var [wI x.2.1,wI x.2.2.1,wS x.2.2.2.1,wT x.2.2.2.2.1,wK x.2.2.2.2.2])])) ()) <| pp () <| pp (pp (And.intro @G.gG.L1.eq_1 <| @G.gG.L1.eq_2) ()) <| pp (pp (@bg [] [(105,11),(106,12)] []) <| pp (@bg [] [(105,105),(106,106)] []) ()) <| ()
  exact kN
theorem F.jM {n:Nat} : ∀ {ag:af} {aA:List lU} {r:af × Bool},G.jM n ag aA=some r->bG pZ 103 [.agg (wN ag),.one (.c (.sl 8 (List.map lU.cells aA)))] (.oq [(true,(wN r.1)),(false,[.c (.lit (.bool r.2))])]):=by
  intro ag aA r h
  refine aG K.jM (kF ?_)
  unfold C.jM
  rcases n with _ | n<;>simp only [G.jM,reduceCtorEq] at h
  obtain ⟨zc,zg,zk,zu,ze,zj,zt⟩:=pp (pp @F.aH <| pp @F.di <| pp @F.gG ()) <| pp () <| pp () <| pp () <| pp () <| pp () <| ()
  exact kN
theorem F.eH {n:Nat} : ∀ {ah:aC} {Aw:Int} {r:Int},G.eH n ah Aw=some r->bG pZ 137 [.one (wS ah),.one (.c (.lit (.int .u8 Aw)))] (.one (wI r)):=by
  intro ah Aw r h
  refine aG K.eH (kF ?_)
  unfold C.eH
  rcases n with _ | n<;>simp only [G.eH,reduceCtorEq] at h
  obtain ⟨zc,zg,zk,zu,ze,zj,zt⟩:=pp () <| pp () <| pp () <| pp () <| pp () <| pp () <| ()
  exact kN
theorem F.strings_IndexByte {n:Nat} : ∀ {ah:aC} {Aw:Int} {r:Int},G.strings_IndexByte n ah Aw=some r->bG pZ 100 [.one (wS ah),.one (.c (.lit (.int .u8 Aw)))] (.one (wI r)):=by
  intro ah Aw r h
  refine aG K.strings_IndexByte (kF ?_)
  unfold C.strings_IndexByte
  rcases n with _ | n<;>simp only [G.strings_IndexByte,reduceCtorEq] at h
  obtain ⟨zc,zg,zk,zu,ze,zj,zt⟩:=pp (pp @F.eH ()) <| pp () <| pp () <| pp () <| pp () <| pp () <| ()
  exact kN
theorem F.jk {n:Nat} : ∀ {ah:aC} {r:Bool},G.jk n ah=some r->bG pZ 63 [.one (wS ah)] (.one (.c (.lit (.bool r)))):=by
  intro ah r h
  refine aG K.jk (kF ?_)
  unfold C.jk
  rcases n with _ | n<;>simp only [G.jk,reduceCtorEq] at h
  obtain ⟨zc,zg,zk,zu,ze,zj,zt⟩:=pp (pp @F.strings_IndexByte ()) <| pp () <| pp (pp (@lS (Int) _ (fun n x=>G.jk.L1 n ah x) r (fun x=>cu.of [eS 0 ah,eI 3 x] [])) ()) <| pp () <| pp (pp (And.intro @G.jk.L1.eq_1 <| @G.jk.L1.eq_2) ()) <| pp (pp (@bg [] [] []) ()) <| ()
  exact kN
theorem F.fG {n:Nat} : ∀ {aA:List aC} {r:Bool},G.fG n aA=some r->bG pZ 52 [.one (wT aA)] (.one (.c (.lit (.bool r)))):=by
  intro aA r h
  refine aG K.fG (kF ?_)
  unfold C.fG
  rcases n with _ | n<;>simp only [G.fG,reduceCtorEq] at h
  obtain ⟨zc,zg,zk,zu,ze,zj,zt⟩:=pp (pp @F.jk ()) <| pp () <| pp (pp (@lS (Int) _ (fun n x=>G.fG.L1 n aA x) r (fun x=>cu.of [eT 8 aA,eI 9 ((aA.length:Nat):Int),eI 10 x] [])) ()) <| pp () <| pp (pp (And.intro @G.fG.L1.eq_1 <| @G.fG.L1.eq_2) ()) <| pp (pp (@bg [] [] []) ()) <| ()
  exact kN
theorem F.slices_Index_string {n:Nat} : ∀ {ah:List aC} {rC:aC} {r:Int},G.slices_Index_string n ah rC=some r->bG pZ 138 [.one (wT ah),.one (wS rC)] (.one (wI r)):=by
  intro ah rC r h
  refine aG K.slices_Index_string (kF ?_)
  unfold C.slices_Index_string
  rcases n with _ | n<;>simp only [G.slices_Index_string,reduceCtorEq] at h
  obtain ⟨zc,zg,zk,zu,ze,zj,zt⟩:=pp () <| pp () <| pp (pp (@lS (Int) _ (fun n x=>G.slices_Index_string.L1 n ah rC x) r (fun x=>cu.of [eT 0 ah,eS 1 rC,eI 7 ((ah.length:Nat):Int),eI 8 x] [])) ()) <| pp () <| pp (pp (And.intro @G.slices_Index_string.L1.eq_1 <| @G.slices_Index_string.L1.eq_2) ()) <| pp (pp (@bg [] [] []) ()) <| ()
  exact kN
theorem F.slices_Contains_string {n:Nat} : ∀ {ah:List aC} {rC:aC} {r:Bool},G.slices_Contains_string n ah rC=some r->bG pZ 101 [.one (wT ah),.one (wS rC)] (.one (.c (.lit (.bool r)))):=by
  intro ah rC r h
  refine aG K.slices_Contains_string (kF ?_)
  unfold C.slices_Contains_string
  rcases n with _ | n<;>simp only [G.slices_Contains_string,reduceCtorEq] at h
  obtain ⟨zc,zg,zk,zu,ze,zj,zt⟩:=pp (pp @F.slices_Index_string ()) <| pp () <| pp () <| pp () <| pp () <| pp () <| ()
  exact kN
theorem F.jI {n:Nat} : ∀ {aA:List aC} {jh:aC} {r:Bool},G.jI n aA jh=some r->bG pZ 64 [.one (wT aA),.one (wS jh)] (.one (.c (.lit (.bool r)))):=by
  intro aA jh r h
  refine aG K.jI (kF ?_)
  unfold C.jI
  rcases n with _ | n<;>simp only [G.jI,reduceCtorEq] at h
  obtain ⟨zc,zg,zk,zu,ze,zj,zt⟩:=pp (pp @F.slices_Contains_string ()) <| pp () <| pp () <| pp () <| pp () <| pp () <| ()
  exact kN
theorem F.gm {n:Nat} : ∀ {og:List aC} {lJ:List aC} {jh:aC} {nC:Bool} {r:Int},G.gm n og lJ jh nC=some r->bG pZ 35 [.one (wT og),.one (wT lJ),.one (wS jh),.one (.c (.lit (.bool nC)))] (.one (wI r)):=by
  intro og lJ jh nC r h
  refine aG K.gm (kF ?_)
  unfold C.gm
  rcases n with _ | n<;>simp only [G.gm,reduceCtorEq] at h
  obtain ⟨zc,zg,zk,zu,ze,zj,zt⟩:=pp (pp @F.fG <| pp @F.jk <| pp @F.jI ()) <| pp () <| pp () <| pp (pp (@pO (Unit) _ (fun n x=>G.gm.K1 n og lJ jh nC) r (fun x=>cu.of [eT 0 og,eT 1 lJ,eS 2 jh,(3,.v true (.one (.c (.lit (.bool nC))))),(25,.v true (.one (.c (.lit (.bool false)))))] [])) ()) <| pp (pp (And.intro @G.gm.K1.eq_1 <| @G.gm.K1.eq_2) ()) <| pp (pp (@bg [] [] []) ()) <| ()
  exact kN
theorem F.fK {n:Nat} : ∀ {ah:aC} {r:Bool},G.fK n ah=some r->bG pZ 29 [.one (wS ah)] (.one (.c (.lit (.bool r)))):=by
  intro ah r h
  refine aG K.fK (kF ?_)
  unfold C.fK
  rcases n with _ | n<;>simp only [G.fK,reduceCtorEq] at h
  obtain ⟨zc,zg,zk,zu,ze,zj,zt⟩:=pp () <| pp () <| pp (pp (@lS (Int) _ (fun n x=>G.fK.L1 n ah x) r (fun x=>cu.of [eS 0 ah,eI 3 x] [])) ()) <| pp () <| pp (pp (And.intro @G.fK.L1.eq_1 <| @G.fK.L1.eq_2) ()) <| pp (pp (@bg [] [] []) ()) <| ()
  exact kN
theorem F.aW {n:Nat} : ∀ {ah:StoreT} {r:Bool},G.aW n ah=some r->bG pZ 24 [.agg [.c (.sl 7 (List.map aB.cells ah.Items)),wI ah.Clock]] (.one (.c (.lit (.bool r)))):=by
  intro ah r h
  refine aG K.aW (kF ?_)
  unfold C.aW
  rcases n with _ | n<;>simp only [G.aW,reduceCtorEq] at h
  obtain ⟨zc,zg,zk,zu,ze,zj,zt⟩:=pp (pp @F.fK <| pp @F.aH ()) <| pp () <| pp (pp (@lS (Int) _ (fun n x=>G.aW.L1 n ah x) r (fun x=>cu.of [eP 1 103,(20,.v true (.one (.c (.sl 7 (List.map aB.cells ah.Items))))),eI 21 ((ah.Items.length:Nat):Int),eI 22 x] [(103,.var [.c (.sl 7 (List.map aB.cells ah.Items)),wI ah.Clock])])) ()) <| pp () <| pp (pp (And.intro @G.aW.L1.eq_1 <| @G.aW.L1.eq_2) ()) <| pp (pp (@bg [] [(103,10)] []) <| pp (@bg [] [(103,103)] []) ()) <| ()
  exact kN
theorem F.jV {n:Nat} : ∀ {jF:aB} {r:aB},G.jV n jF=some r->bG pZ 43 [.agg [wS jF.Name,wI jF.Version,wI jF.Node.Kind,wI jF.Node.Num,wS jF.Node.Text,wT jF.Node.Names,wK jF.Node.Kids]] (.agg [wS r.Name,wI r.Version,wI r.Node.Kind,wI r.Node.Num,wS r.Node.Text,wT r.Node.Names,wK r.Node.Kids]):=by
  intro jF r h
  refine aG K.jV (kF ?_)
  unfold C.jV
  rcases n with _ | n<;>simp only [G.jV,reduceCtorEq] at h
  obtain ⟨zc,zg,zk,zu,ze,zj,zt⟩:=pp (pp @F.ax ()) <| pp () <| pp () <| pp () <| pp () <| pp () <| ()
  exact kN
theorem F.bf {n:Nat} : ∀ {ah:StoreT} {r:StoreT},G.bf n ah=some r->bG pZ 31 [.agg [.c (.sl 7 (List.map aB.cells ah.Items)),wI ah.Clock]] (.agg [.c (.sl 7 (List.map aB.cells r.Items)),wI r.Clock]):=by
  intro ah r h
  refine aG K.bf (kF ?_)
  unfold C.bf
  rcases n with _ | n<;>simp only [G.bf,reduceCtorEq] at h
  obtain ⟨zc,zg,zk,zu,ze,zj,zt⟩:=pp (pp @F.jV ()) <| pp () <| pp (pp (@lS (Int × List aB) _ (fun n x=>G.bf.L1 n ah x.1 x.2) r (fun x=>cu.of [eP 2 107,eP 3 108,(19,.v true (.one (.c (.sl 7 (List.map aB.cells ah.Items))))),eI 20 ((ah.Items.length:Nat):Int),eI 21 x.1] [(107,.var [.fU 7,wI 0]),(108,.var [.own 109 x.2.length 7,wI ah.Clock]),(109,.dat 7 (List.map aB.cells x.2))])) ()) <| pp () <| pp (pp (And.intro @G.bf.L1.eq_1 <| @G.bf.L1.eq_2) ()) <| pp (pp (@bg [] [(107,11),(108,12),(109,13)] []) <| pp (@bg [] [(107,107),(108,108),(109,109)] []) ()) <| ()
  exact kN
theorem F.wu {n:Nat} : ∀ {ah:StoreT} {r:StoreT},G.bf n ah=some r->eF pZ 31 [.agg [.c (.sl 7 (List.map aB.cells ah.Items)),wI ah.Clock]] [] (fun r1 b1=>r1 = .agg [.own 0 r.Items.length 7,wI r.Clock]/\b1=[.dat 7 (List.map aB.cells r.Items)]):=by
  intro ah r h
  refine dA K.bf (kF ?_)
  unfold C.bf
  rcases n with _ | n<;>simp only [G.bf,reduceCtorEq] at h
  obtain ⟨zc,zg,zk,zu,ze,zj,zt⟩:=pp (pp @F.jV ()) <| pp () <| pp (pp (@lS (Int × List aB) _ (fun n x=>G.bf.L1 n ah x.1 x.2) r (fun x=>cu.of [eP 2 107,eP 3 108,(19,.v true (.one (.c (.sl 7 (List.map aB.cells ah.Items))))),eI 20 ((ah.Items.length:Nat):Int),eI 21 x.1] [(107,.var [.fU 7,wI 0]),(108,.var [.own 109 x.2.length 7,wI ah.Clock]),(109,.dat 7 (List.map aB.cells x.2))])) ()) <| pp () <| pp (pp (And.intro @G.bf.L1.eq_1 <| @G.bf.L1.eq_2) ()) <| pp (pp (@bg [] [(107,11),(108,12),(109,13)] []) <| pp (@bg [] [(107,107),(108,108),(109,109)] []) ()) <| (pp (@lT [] [(0,109)] []) <| pp (@lT [] [] [0]) ())
  exact kN
theorem F.jY {n:Nat} : ∀ {jF:aB} {aJ:aC} {r:Int},G.jY n jF aJ=some r->bG pZ 77 [.agg [wS jF.Name,wI jF.Version,wI jF.Node.Kind,wI jF.Node.Num,wS jF.Node.Text,wT jF.Node.Names,wK jF.Node.Kids],.one (wS aJ)] (.one (wI r)):=by
  intro jF aJ r h
  refine aG K.jY (kF ?_)
  unfold C.jY
  rcases n with _ | n<;>simp only [G.jY,reduceCtorEq] at h
  obtain ⟨zc,zg,zk,zu,ze,zj,zt⟩:=pp (pp @F.strings_Compare ()) <| pp () <| pp () <| pp () <| pp () <| pp () <| ()
  exact kN
theorem F.aj {n:Nat} : ∀ {kV:List aB} {jU:aC} {r:Int × Bool},G.aj n kV jU=some r->bG pZ 76 [.one (.c (.sl 7 (List.map aB.cells kV))),.one (wS jU),.one (.fn 77 [])] (.oq [(false,[wI r.1]),(false,[.c (.lit (.bool r.2))])]):=by
  intro kV jU r h
  refine aG K.aj (kF ?_)
  unfold C.nD
  rcases n with _ | n<;>simp only [G.aj,reduceCtorEq] at h
  obtain ⟨zc,zg,zk,zu,ze,zj,zt⟩:=pp (pp @F.jY ()) <| pp () <| pp (pp (@lS (Int × Int) _ (fun n x=>G.aj.L1 n kV jU x.1 x.2) r (fun x=>cu.of [(0,.v true (.one (.c (.sl 7 (List.map aB.cells kV))))),eS 1 jU,(2,.v true (.one (.fn 77 []))),eI 8 ((kV.length:Nat):Int),eI 9 x.1,eI 10 x.2] [])) ()) <| pp () <| pp (pp (And.intro @G.aj.L1.eq_1 <| @G.aj.L1.eq_2) ()) <| pp (pp (@bg [] [] []) ()) <| ()
  exact kN
theorem F.ja {n:Nat} : ∀ {oG:List aB} {aJ:aC} {r:Int × Bool},G.ja n oG aJ=some r->bG pZ 42 [.one (.c (.sl 7 (List.map aB.cells oG))),.one (wS aJ)] (.oq [(false,[wI r.1]),(false,[.c (.lit (.bool r.2))])]):=by
  intro oG aJ r h
  refine aG K.ja (kF ?_)
  unfold C.ja
  rcases n with _ | n<;>simp only [G.ja,reduceCtorEq] at h
  obtain ⟨zc,zg,zk,zu,ze,zj,zt⟩:=pp () <| pp (pp (pp @F.aj (@cG [] [])) ()) <| pp () <| pp () <| pp () <| pp () <| ()
  exact kN
theorem FZ.fM {es:List (List Cell)} {c i j:Nat} (hc:es.length<=c) (hi:i<j) (hj:j<=es.length) (hb:es.length*112<=2^46) :
    eF pZ 102 [.one (.sub 0 0 es.length (some c) 7),.one (wI (i:Int)),.one (wI (j:Int))] [.dat 7 es]
      (fun r1 b1=>r1 = .one (.own 1 (i+(es.length-j)) 7)/\b1=[.dead,.dat 7 (es.take i++es.drop j)]):=by
  refine dA K.fM (kF ?_)
  unfold C.fM
  have he:(((i:Nat):Int)==((j:Nat):Int))=false:=by simp; omega
  have ht:List.take (es.length-j) (List.drop j es)=List.drop j es:=List.take_of_length_le (by simp)
  have hr:i+(es.length-j)<=c:=by omega
  simp -dsimp only [qi,dh.fE,dh.f,dh.rd,gu,fD,lvl,gQ,reduceIte,Nat.reduceEqDiff,Nat.reduceAdd,Nat.reduceLeDiff,Nat.reduceBEq,reduceCtorEq,Int.reduceBNe,Int.reduceBEq,Int.reduceLT,Int.reduceLE,Int.reduceNeg,Nat.reduceLT,gz,Int.reduceToNat,iK,jT,pY,nI,nK,nH,nJ,truncS,Option.map_none,Int.sub_zero,Nat.sub_zero,Int.toNat_sub,Int.ofNat_zero,List.drop_zero,List.take_length,Nat.add_sub_cancel,he]
  repeat refine And.intro (by first | (show gY _ _ _ _=true; kernel_rfl) | (show eY _ _=true; kernel_rfl) | omega | assumption) ?_
  simp -dsimp only [qi,dh.fE,dh.f,dh.rd,gu,fD,lvl,gQ,reduceIte,Nat.reduceEqDiff,Nat.reduceAdd,Nat.reduceLeDiff,Nat.reduceBEq,reduceCtorEq,Int.reduceBNe,Int.reduceBEq,Int.reduceLT,Int.reduceLE,Int.reduceNeg,Nat.reduceLT,gz,Int.reduceToNat,iK,jT,pY,nI,nK,nH,nJ,truncS,Option.map_none,Int.sub_zero,Nat.sub_zero,Int.toNat_sub,Int.ofNat_zero,List.drop_zero,List.take_length,Nat.add_sub_cancel,ht,List.length_drop,hr]
  repeat refine And.intro (by first | (show gY _ _ _ _=true; kernel_rfl) | (show eY _ _=true; kernel_rfl) | omega | assumption) ?_
  refine And.intro (by simp; omega) ?_
  have e4:(List.take i es).length=i:=by simp; omega
  have e:List.take (i+(es.length-j)) (List.take i es++List.drop j es++List.drop (i+(es.length-j)) es)=List.take i es++List.drop j es:=by
    have e5:(List.take i es++List.drop j es).length=i+(es.length-j):=by rw [List.length_append,e4,List.length_drop]
    rw [List.take_append_of_le_length (by omega),List.take_of_length_le (by omega)]
  rw [e,List.append_assoc]
  generalize List.replicate (es.length-(i+(es.length-j))) [.str [],.lit (.int .i64 0),.lit (.int .i64 0),.lit (.int .i64 0),.str [],.sl 1 [],.sl 5 []]++List.drop (i+(es.length-j)+(es.length-(i+(es.length-j)))) (List.take i es++List.drop j es++List.drop (i+(es.length-j)) es)=T
  generalize List.take i es++List.drop j es=A
  refine oN [] [(0,0),(1,0)] [] (by rfl) ?_ ?_ ?_<;>(simp -dsimp only [Gg,uh,qR,reduceIte,Nat.reduceEqDiff,reduceCtorEq,Nat.reduceAdd,Nat.reduceLeDiff]<;>first | (simp [List.take_of_length_le]; done) | ((try simp only [List.map_take,List.map_drop,List.map_append,List.map_cons,List.map_nil])<;>(repeat' apply And.intro)<;>first | rfl | (simp; done) | (simp<;>omega; done) | (congr 1; exact (List.take_of_length_le (by simp<;>omega)).symm)))
theorem F.fM {n:Nat} : ∀ {ah:List aB} {vN:Int} {Jr:Int} {r:List aB},G.fM n ah vN Jr=some r ->
    eF pZ 102 [.one (.own 0 ah.length 7),.one (wI vN),.one (wI Jr)] [.dat 7 (List.map aB.cells ah)]
      (fun r1 b1=>r1 = .one (.own 1 r.length 7)/\b1=[.dead,.dat 7 (List.map aB.cells r)]):=by
  intro s i j r h
  cases n with
  | zero=>simp only [G.fM,reduceCtorEq] at h
  | succ n =>
    simp only [G.fM] at h
    obtain ⟨⟨q1,q2,q3,q4⟩,h⟩:=mg.1 h
    cases h
    obtain ⟨k,rfl⟩:∃ k:Nat,i=k:=⟨i.toNat,by omega⟩
    obtain ⟨l,rfl⟩:∃ l:Nat,j=l:=⟨j.toNat,by omega⟩
    refine yC (fun c hc => ?_)
    have hf:=FZ.fM (es:=List.map aB.cells s) (c:=c) (i:=k) (j:=l) (by simpa using hc) (by omega) (by rw [List.length_map]; omega) (by rw [List.length_map]; exact q4)
    have e1:(List.take k s++List.drop l s).length=k+(s.length-l):=by simp; omega
    rw [Int.toNat_natCast,Int.toNat_natCast,e1]
    simpa using hf
theorem F.kP {n:Nat} : ∀ {ah:StoreT} {aJ:aC} {r:StoreT × Bool},G.kP n ah aJ=some r->bG pZ 65 [.agg [.c (.sl 7 (List.map aB.cells ah.Items)),wI ah.Clock],.one (wS aJ)] (.oq [(true,[.c (.sl 7 (List.map aB.cells r.1.Items)),wI r.1.Clock]),(false,[.c (.lit (.bool r.2))])]):=by
  intro ah aJ r h
  refine aG K.kP (kF ?_)
  unfold C.kP
  rcases n with _ | n<;>simp only [G.kP,reduceCtorEq] at h
  obtain ⟨zc,zg,zk,zu,ze,zj,zt⟩:=pp (pp @F.aW <| pp @F.ja ()) <| pp (pp (pp @F.wu (@cG [] [101])) <| pp (pp @F.fM (@cG [101] [102])) ()) <| pp () <| pp () <| pp () <| pp () <| ()
  exact kN
theorem B.lays167:Go.Proofs.Lays.n167 pZ B.ren:=by constructor<;>first | kernel_rfl | (intro w; kernel_rfl)
theorem F.aI {n:Nat} : ∀ {qx:dH} {Aw:Int} {r:Unit × dH},G.aI n qx Aw=some r->eF pZ 136 [.one (.ptr 0 0),.one (.c (.lit (.int .u8 Aw)))] [.var [.opt 115 0,.nY 1 qx.buf.length],.row 5 qx.buf] (fun r1 b1=>r1 = .one (.c (.lit .nilIface))/\b1=[.var [.opt 115 0,.nY 2 r.2.buf.length],.dead,.row 5 r.2.buf]):=by
  intro b c r h
  rcases n with _ | n<;>simp only [G.aI,reduceCtorEq] at h
  obtain ⟨⟨hc,hl⟩,h⟩:=mg.1 h
  cases h
  exact Ht B.lays167 B.x hc hl
theorem F.bT {n:Nat} : ∀ {qx:dH} {ah:aC} {r:dH},G.bT n qx ah=some r->eF pZ 135 [.one (.ptr 0 0),.one (wS ah)] [.var [.opt 115 0,.nY 1 qx.buf.length],.row 5 qx.buf] (fun r1 b1=>r1 = .oq []/\b1=[.var [.opt 115 0,.nY 2 r.buf.length],.dead,.row 5 r.buf]):=by
  intro qx ah r h
  refine dA K.bT (kF ?_)
  unfold C.bT
  rcases n with _ | n<;>simp only [G.bT,reduceCtorEq] at h
  obtain ⟨zc,zg,zk,zu,ze,zj,zt⟩:=pp () <| pp (pp (pp @F.aI (@cG [0,1] [101])) <| pp (pp @F.aI (@cG [0,116] [121])) <| pp (pp @F.aI (@cG [0,116] [122])) <| pp (pp @F.aI (@cG [0,119] [120])) <| pp (pp @F.aI (@cG [0,116] [123])) ()) <| pp (pp (@lS (Int × aC) _ (fun n x=>G.bT.L3 n ah x.1 x.2) r (fun x=>cu.of [eP 0 0,eS 1 ah,eI 4 x.1] [(0,.var [.opt 115 0,.nY 116 x.2.length]),(1,.dead),(116,.row 5 x.2)])) ()) <| pp (pp (@pO (Int × aC) _ (fun n x=>G.bT.K4 n ah x.1 x.2) r (fun x=>cu.of [eP 0 0,eS 1 ah,eI 4 x.1] [(0,.var [.opt 115 0,.nY 119 x.2.length]),(1,.dead),(119,.row 5 x.2)])) ()) <| pp (pp (And.intro @G.bT.L3.eq_1 <| And.intro @G.bT.L3.eq_2 <| And.intro @G.bT.K4.eq_1 <| @G.bT.K4.eq_2) ()) <| pp (pp (@bg [] [(0,0),(1,1),(116,101)] []) <| pp (@bg [] [(0,0),(1,1),(119,121)] []) <| pp (@bg [] [(0,0),(1,1),(119,122)] []) <| pp (@bg [] [(0,0),(1,1),(119,116)] []) <| pp (@bg [] [(0,0),(1,1),(116,120)] []) ()) <| (pp (@lT [] [(0,0),(1,1),(2,123)] []) <| pp (@lT [] [(0,0),(1,1),(2,121)] []) ())
  exact kN
theorem B.lays166:Go.Proofs.Lays.n166 pZ B.ren:=by constructor<;>first | kernel_rfl | (intro w; kernel_rfl)
theorem F.iM {n:Nat} : ∀ {qx:dH} {ah:aC} {r:Int × Unit × dH},G.iM n qx ah=some r->eF pZ 133 [.one (.ptr 0 0),.one (wS ah)] [.var [.opt 115 0,.nY 1 qx.buf.length],.row 5 qx.buf] (fun r1 b1=>r1 = .oq [(false,[wI r.1]),(false,[.c (.lit .nilIface)])]/\b1=[.var [.opt 115 0,.nY 2 r.2.2.buf.length],.dead,.row 5 r.2.2.buf]):=by
  intro b s r h
  rcases n with _ | n<;>simp only [G.iM,reduceCtorEq] at h
  obtain ⟨hl,h⟩:=mg.1 h
  cases h
  exact ED B.lays166 B.x hl
theorem F.CG:∀ (n:Nat),∀ {qx:dH} {ag:af} {r:dH},G.aO n qx ag=some r->eF pZ 98 [.one (.ptr 0 0),.agg (wN ag)] [.var [.opt 115 0,.nY 1 qx.buf.length],.row 5 qx.buf] (fun r1 b1=>r1 = .oq []/\b1=[.var [.opt 115 0,.nY 2 r.buf.length],.dead,.row 5 r.buf]):=by
  intro n
  induction n using Nat.strongRecOn with | _ n ih =>
  intro qx ag r h
  refine dA K.aO (kF ?_)
  unfold C.aO
  cases n with
  | zero=>simp only [G.aO,reduceCtorEq] at h
  | succ n =>
  simp only [G.aO] at h
  try simp -dsimp only [qi,dh.fE,dh.f,dh.rd,gu,fD,lvl,gQ,reduceIte,Nat.reduceEqDiff,Nat.reduceAdd,Nat.reduceLeDiff,Nat.reduceBEq,reduceCtorEq,Int.reduceBNe,Int.reduceBEq,Int.reduceLT,Int.reduceLE,Int.reduceNeg,Nat.reduceLT,gz,Int.reduceToNat,iK]
  repeat refine And.intro (by first | (show gY _ _ _ _=true; kernel_rfl) | (show eY _ _=true; kernel_rfl) | omega | assumption) ?_
  replace h:=oz.1 h
  rcases h with ⟨c1,h⟩ | ⟨c1,h⟩
  · replace h:=Option.bind_eq_some_iff.1 h
    obtain ⟨v1,hv1,h⟩:=h
    simp -dsimp only [qi,dh.fE,dh.f,dh.rd,gu,fD,lvl,gQ,reduceIte,Nat.reduceEqDiff,Nat.reduceAdd,Nat.reduceLeDiff,Nat.reduceBEq,reduceCtorEq,Int.reduceBNe,Int.reduceBEq,Int.reduceLT,Int.reduceLE,Int.reduceNeg,Nat.reduceLT,gz,Int.reduceToNat,iK,c1]
    repeat refine And.intro (by first | (show gY _ _ _ _=true; kernel_rfl) | (show eY _ _=true; kernel_rfl) | omega | assumption) ?_
    refine uV [0,1] [101] (F.iM hv1) rfl rfl (by simp only [vZ,iK,reduceIte,Nat.reduceEqDiff,Nat.reduceLeDiff,Nat.reduceAdd]<;>fail) (by simp only [vZ,iK,reduceIte,Nat.reduceEqDiff,Nat.reduceLeDiff,Nat.reduceAdd]<;>fail) rfl rfl (by first | rfl | (simp only [vZ,iK,reduceIte,Nat.reduceEqDiff,Nat.reduceLeDiff,Nat.reduceAdd]<;>fail)) rfl ?_
    simp -dsimp only [qi,dh.fE,dh.f,dh.rd,gu,fD,lvl,gQ,reduceIte,Nat.reduceEqDiff,Nat.reduceAdd,Nat.reduceLeDiff,Nat.reduceBEq,reduceCtorEq,Int.reduceBNe,Int.reduceBEq,Int.reduceLT,Int.reduceLE,Int.reduceNeg,Nat.reduceLT,gz,Int.reduceToNat,iK,c1]
    repeat refine And.intro (by first | (show gY _ _ _ _=true; kernel_rfl) | (show eY _ _=true; kernel_rfl) | omega | assumption) ?_
    cases h
    refine oN [] [(0,0),(1,1),(2,101)] [] (by rfl) ?_ ?_ ?_<;>(simp -dsimp only [Gg,uh,qR,reduceIte,Nat.reduceEqDiff,reduceCtorEq,Nat.reduceAdd,Nat.reduceLeDiff]<;>first | (simp [List.take_of_length_le]; done) | ((try simp only [List.map_take,List.map_drop,List.map_append,List.map_cons,List.map_nil])<;>(repeat' apply And.intro)<;>first | rfl | (simp; done) | (simp<;>omega; done) | (congr 1; exact (List.take_of_length_le (by simp<;>omega)).symm)))
  · try simp -dsimp only [qi,dh.fE,dh.f,dh.rd,gu,fD,lvl,gQ,reduceIte,Nat.reduceEqDiff,Nat.reduceAdd,Nat.reduceLeDiff,Nat.reduceBEq,reduceCtorEq,Int.reduceBNe,Int.reduceBEq,Int.reduceLT,Int.reduceLE,Int.reduceNeg,Nat.reduceLT,gz,Int.reduceToNat,iK,c1]
    repeat refine And.intro (by first | (show gY _ _ _ _=true; kernel_rfl) | (show eY _ _=true; kernel_rfl) | omega | assumption) ?_
    replace h:=oz.1 h
    rcases h with ⟨c2,h⟩ | ⟨c2,h⟩
    · replace h:=Option.bind_eq_some_iff.1 h
      obtain ⟨v2,hv2,h⟩:=h
      simp -dsimp only [qi,dh.fE,dh.f,dh.rd,gu,fD,lvl,gQ,reduceIte,Nat.reduceEqDiff,Nat.reduceAdd,Nat.reduceLeDiff,Nat.reduceBEq,reduceCtorEq,Int.reduceBNe,Int.reduceBEq,Int.reduceLT,Int.reduceLE,Int.reduceNeg,Nat.reduceLT,gz,Int.reduceToNat,iK,c1,c2]
      repeat refine And.intro (by first | (show gY _ _ _ _=true; kernel_rfl) | (show eY _ _=true; kernel_rfl) | omega | assumption) ?_
      refine QM (fun _=>F.strconv_Itoa hv2) rfl rfl ?_
      replace h:=Option.bind_eq_some_iff.1 h
      obtain ⟨v3,hv3,h⟩:=h
      simp -dsimp only [qi,dh.fE,dh.f,dh.rd,gu,fD,lvl,gQ,reduceIte,Nat.reduceEqDiff,Nat.reduceAdd,Nat.reduceLeDiff,Nat.reduceBEq,reduceCtorEq,Int.reduceBNe,Int.reduceBEq,Int.reduceLT,Int.reduceLE,Int.reduceNeg,Nat.reduceLT,gz,Int.reduceToNat,iK,c1,c2]
      repeat refine And.intro (by first | (show gY _ _ _ _=true; kernel_rfl) | (show eY _ _=true; kernel_rfl) | omega | assumption) ?_
      refine uV [0,1] [102] (F.iM hv3) rfl rfl (by simp only [vZ,iK,reduceIte,Nat.reduceEqDiff,Nat.reduceLeDiff,Nat.reduceAdd]<;>fail) (by simp only [vZ,iK,reduceIte,Nat.reduceEqDiff,Nat.reduceLeDiff,Nat.reduceAdd]<;>fail) rfl rfl (by first | rfl | (simp only [vZ,iK,reduceIte,Nat.reduceEqDiff,Nat.reduceLeDiff,Nat.reduceAdd]<;>fail)) rfl ?_
      simp -dsimp only [qi,dh.fE,dh.f,dh.rd,gu,fD,lvl,gQ,reduceIte,Nat.reduceEqDiff,Nat.reduceAdd,Nat.reduceLeDiff,Nat.reduceBEq,reduceCtorEq,Int.reduceBNe,Int.reduceBEq,Int.reduceLT,Int.reduceLE,Int.reduceNeg,Nat.reduceLT,gz,Int.reduceToNat,iK,c1,c2]
      repeat refine And.intro (by first | (show gY _ _ _ _=true; kernel_rfl) | (show eY _ _=true; kernel_rfl) | omega | assumption) ?_
      cases h
      refine oN [] [(0,0),(1,1),(2,102)] [] (by rfl) ?_ ?_ ?_<;>(simp -dsimp only [Gg,uh,qR,reduceIte,Nat.reduceEqDiff,reduceCtorEq,Nat.reduceAdd,Nat.reduceLeDiff]<;>first | (simp [List.take_of_length_le]; done) | ((try simp only [List.map_take,List.map_drop,List.map_append,List.map_cons,List.map_nil])<;>(repeat' apply And.intro)<;>first | rfl | (simp; done) | (simp<;>omega; done) | (congr 1; exact (List.take_of_length_le (by simp<;>omega)).symm)))
    · try simp -dsimp only [qi,dh.fE,dh.f,dh.rd,gu,fD,lvl,gQ,reduceIte,Nat.reduceEqDiff,Nat.reduceAdd,Nat.reduceLeDiff,Nat.reduceBEq,reduceCtorEq,Int.reduceBNe,Int.reduceBEq,Int.reduceLT,Int.reduceLE,Int.reduceNeg,Nat.reduceLT,gz,Int.reduceToNat,iK,c1,c2]
      repeat refine And.intro (by first | (show gY _ _ _ _=true; kernel_rfl) | (show eY _ _=true; kernel_rfl) | omega | assumption) ?_
      replace h:=oz.1 h
      rcases h with ⟨c3,h⟩ | ⟨c3,h⟩
      · replace h:=Option.bind_eq_some_iff.1 h
        obtain ⟨v4,hv4,h⟩:=h
        simp -dsimp only [qi,dh.fE,dh.f,dh.rd,gu,fD,lvl,gQ,reduceIte,Nat.reduceEqDiff,Nat.reduceAdd,Nat.reduceLeDiff,Nat.reduceBEq,reduceCtorEq,Int.reduceBNe,Int.reduceBEq,Int.reduceLT,Int.reduceLE,Int.reduceNeg,Nat.reduceLT,gz,Int.reduceToNat,iK,c1,c2,c3]
        repeat refine And.intro (by first | (show gY _ _ _ _=true; kernel_rfl) | (show eY _ _=true; kernel_rfl) | omega | assumption) ?_
        refine uV [0,1] [103] (F.bT hv4) rfl rfl (by simp only [vZ,iK,reduceIte,Nat.reduceEqDiff,Nat.reduceLeDiff,Nat.reduceAdd]<;>fail) (by simp only [vZ,iK,reduceIte,Nat.reduceEqDiff,Nat.reduceLeDiff,Nat.reduceAdd]<;>fail) rfl rfl (by first | rfl | (simp only [vZ,iK,reduceIte,Nat.reduceEqDiff,Nat.reduceLeDiff,Nat.reduceAdd]<;>fail)) rfl ?_
        simp -dsimp only [qi,dh.fE,dh.f,dh.rd,gu,fD,lvl,gQ,reduceIte,Nat.reduceEqDiff,Nat.reduceAdd,Nat.reduceLeDiff,Nat.reduceBEq,reduceCtorEq,Int.reduceBNe,Int.reduceBEq,Int.reduceLT,Int.reduceLE,Int.reduceNeg,Nat.reduceLT,gz,Int.reduceToNat,iK,c1,c2,c3]
        repeat refine And.intro (by first | (show gY _ _ _ _=true; kernel_rfl) | (show eY _ _=true; kernel_rfl) | omega | assumption) ?_
        cases h
        refine oN [] [(0,0),(1,1),(2,103)] [] (by rfl) ?_ ?_ ?_<;>(simp -dsimp only [Gg,uh,qR,reduceIte,Nat.reduceEqDiff,reduceCtorEq,Nat.reduceAdd,Nat.reduceLeDiff]<;>first | (simp [List.take_of_length_le]; done) | ((try simp only [List.map_take,List.map_drop,List.map_append,List.map_cons,List.map_nil])<;>(repeat' apply And.intro)<;>first | rfl | (simp; done) | (simp<;>omega; done) | (congr 1; exact (List.take_of_length_le (by simp<;>omega)).symm)))
      · try simp -dsimp only [qi,dh.fE,dh.f,dh.rd,gu,fD,lvl,gQ,reduceIte,Nat.reduceEqDiff,Nat.reduceAdd,Nat.reduceLeDiff,Nat.reduceBEq,reduceCtorEq,Int.reduceBNe,Int.reduceBEq,Int.reduceLT,Int.reduceLE,Int.reduceNeg,Nat.reduceLT,gz,Int.reduceToNat,iK,c1,c2,c3]
        repeat refine And.intro (by first | (show gY _ _ _ _=true; kernel_rfl) | (show eY _ _=true; kernel_rfl) | omega | assumption) ?_
        replace h:=oz.1 h
        rcases h with ⟨c4,h⟩ | ⟨c4,h⟩
        · replace h:=Option.bind_eq_some_iff.1 h
          obtain ⟨v5,hv5,h⟩:=h
          simp -dsimp only [qi,dh.fE,dh.f,dh.rd,gu,fD,lvl,gQ,reduceIte,Nat.reduceEqDiff,Nat.reduceAdd,Nat.reduceLeDiff,Nat.reduceBEq,reduceCtorEq,Int.reduceBNe,Int.reduceBEq,Int.reduceLT,Int.reduceLE,Int.reduceNeg,Nat.reduceLT,gz,Int.reduceToNat,iK,c1,c2,c3,c4]
          repeat refine And.intro (by first | (show gY _ _ _ _=true; kernel_rfl) | (show eY _ _=true; kernel_rfl) | omega | assumption) ?_
          refine uV [0,1] [104] (F.aI hv5) rfl rfl (by simp only [vZ,iK,reduceIte,Nat.reduceEqDiff,Nat.reduceLeDiff,Nat.reduceAdd]<;>fail) (by simp only [vZ,iK,reduceIte,Nat.reduceEqDiff,Nat.reduceLeDiff,Nat.reduceAdd]<;>fail) rfl rfl (by first | rfl | (simp only [vZ,iK,reduceIte,Nat.reduceEqDiff,Nat.reduceLeDiff,Nat.reduceAdd]<;>fail)) rfl ?_
          simp -dsimp only [qi,dh.fE,dh.f,dh.rd,gu,fD,lvl,gQ,reduceIte,Nat.reduceEqDiff,Nat.reduceAdd,Nat.reduceLeDiff,Nat.reduceBEq,reduceCtorEq,Int.reduceBNe,Int.reduceBEq,Int.reduceLT,Int.reduceLE,Int.reduceNeg,Nat.reduceLT,gz,Int.reduceToNat,iK,c1,c2,c3,c4]
          repeat refine And.intro (by first | (show gY _ _ _ _=true; kernel_rfl) | (show eY _ _=true; kernel_rfl) | omega | assumption) ?_
          refine Sl (X:=Nat × Int × aC) (fun x=>x.1<=n/\G.aO.L3 x.1 ag x.2.1 x.2.2=some r) (fun x=>cu.of [eP 0 0,(32,.v true (.one (wK ag.Kids))),eI 33 ((ag.Kids.length:Nat):Int),eI 34 x.2.1] [(0,.var [.opt 115 0,.nY 115 x.2.2.length]),(1,.dead),(115,.row 5 x.2.2)]) (fun x=>x.1) (n,0,v5.2.buf) ⟨Nat.le_refl n,h⟩ (ug [] [(0,0),(1,1),(115,104)] [] (by rfl) ?_ ?_) ?_
          · (simp -dsimp only [KP,uh,qR,reduceIte,Nat.reduceEqDiff,reduceCtorEq]<;>simp [List.take_of_length_le]; done)
          · (simp -dsimp only [KP,uh,qR,reduceIte,Nat.reduceEqDiff,reduceCtorEq]<;>simp [List.take_of_length_le]; done)
          rintro ⟨n,fV,z3⟩ ⟨hn,h⟩
          cases n with
          | zero=>simp only [G.aO.L3,reduceCtorEq] at h
          | succ n =>
          simp only [G.aO.L3] at h
          try simp -dsimp only [qi,dh.fE,dh.f,dh.rd,gu,fD,lvl,gQ,reduceIte,Nat.reduceEqDiff,Nat.reduceAdd,Nat.reduceLeDiff,Nat.reduceBEq,reduceCtorEq,Int.reduceBNe,Int.reduceBEq,Int.reduceLT,Int.reduceLE,Int.reduceNeg,Nat.reduceLT,gz,Int.reduceToNat,iK]
          repeat refine And.intro (by first | (show gY _ _ _ _=true; kernel_rfl) | (show eY _ _=true; kernel_rfl) | omega | assumption) ?_
          replace h:=oz.1 h
          rcases h with ⟨c9,h⟩ | ⟨c9,h⟩
          · replace h:=mg.1 h
            obtain ⟨q3,h⟩:=h
            have f3:fV.toNat<ag.Kids.length:=by omega
            simp -dsimp only [qi,dh.fE,dh.f,dh.rd,gu,fD,lvl,gQ,reduceIte,Nat.reduceEqDiff,Nat.reduceAdd,Nat.reduceLeDiff,Nat.reduceBEq,reduceCtorEq,Int.reduceBNe,Int.reduceBEq,Int.reduceLT,Int.reduceLE,Int.reduceNeg,Nat.reduceLT,gz,Int.reduceToNat,iK,c9,q3,f3]
            repeat refine And.intro (by first | (show gY _ _ _ _=true; kernel_rfl) | (show eY _ _=true; kernel_rfl) | omega | assumption) ?_
            refine VF (X:=Nat × aC) (fun x=>x.1<=n/\G.aO.K4 x.1 ag fV x.2=some r) (fun x=>cu.of [eP 0 0,eP 5 117,(32,.v true (.one (wK ag.Kids))),eI 33 ((ag.Kids.length:Nat):Int),eI 34 fV] [(0,.var [.opt 115 0,.nY 118 x.2.length]),(1,.dead),(117,.var [wI ((ag.Kids.getD fV.toNat default).Kind),wI ((ag.Kids.getD fV.toNat default).Num),wS ((ag.Kids.getD fV.toNat default).Text),wT ((ag.Kids.getD fV.toNat default).Names),wK ((ag.Kids.getD fV.toNat default).Kids)]),(118,.row 5 x.2)]) ?_ ?_
            · try simp -dsimp only [qi,dh.fE,dh.f,dh.rd,gu,fD,lvl,gQ,reduceIte,Nat.reduceEqDiff,Nat.reduceAdd,Nat.reduceLeDiff,Nat.reduceBEq,reduceCtorEq,Int.reduceBNe,Int.reduceBEq,Int.reduceLT,Int.reduceLE,Int.reduceNeg,Nat.reduceLT,gz,Int.reduceToNat,iK,c9,q3,f3]
              repeat refine And.intro (by first | (show gY _ _ _ _=true; kernel_rfl) | (show eY _ _=true; kernel_rfl) | omega | assumption) ?_
              replace h:=oz.1 h
              rcases h with ⟨c11,h⟩ | ⟨c11,h⟩
              · replace h:=Option.bind_eq_some_iff.1 h
                obtain ⟨v12,XE,h⟩:=h
                simp -dsimp only [qi,dh.fE,dh.f,dh.rd,gu,fD,lvl,gQ,reduceIte,Nat.reduceEqDiff,Nat.reduceAdd,Nat.reduceLeDiff,Nat.reduceBEq,reduceCtorEq,Int.reduceBNe,Int.reduceBEq,Int.reduceLT,Int.reduceLE,Int.reduceNeg,Nat.reduceLT,gz,Int.reduceToNat,iK,c9,q3,f3,c11]
                repeat refine And.intro (by first | (show gY _ _ _ _=true; kernel_rfl) | (show eY _ _=true; kernel_rfl) | omega | assumption) ?_
                refine uV [0,115] [120] (F.aI XE) rfl rfl (by simp only [vZ,iK,reduceIte,Nat.reduceEqDiff,Nat.reduceLeDiff,Nat.reduceAdd]<;>fail) (by simp only [vZ,iK,reduceIte,Nat.reduceEqDiff,Nat.reduceLeDiff,Nat.reduceAdd]<;>fail) rfl rfl (by first | rfl | (simp only [vZ,iK,reduceIte,Nat.reduceEqDiff,Nat.reduceLeDiff,Nat.reduceAdd]<;>fail)) rfl ?_
                simp -dsimp only [qi,dh.fE,dh.f,dh.rd,gu,fD,lvl,gQ,reduceIte,Nat.reduceEqDiff,Nat.reduceAdd,Nat.reduceLeDiff,Nat.reduceBEq,reduceCtorEq,Int.reduceBNe,Int.reduceBEq,Int.reduceLT,Int.reduceLE,Int.reduceNeg,Nat.reduceLT,gz,Int.reduceToNat,iK,c9,q3,f3,c11]
                repeat refine And.intro (by first | (show gY _ _ _ _=true; kernel_rfl) | (show eY _ _=true; kernel_rfl) | omega | assumption) ?_
                exact ⟨(n,v12.2.buf),⟨by omega,h⟩,ug [] [(0,0),(1,1),(117,11),(118,120)] [] (by rfl) (by (simp -dsimp only [KP,uh,qR,reduceIte,Nat.reduceEqDiff,reduceCtorEq]<;>simp [List.take_of_length_le]; done)) (by (simp -dsimp only [KP,uh,qR,reduceIte,Nat.reduceEqDiff,reduceCtorEq]<;>simp [List.take_of_length_le]; done))⟩
              · simp -dsimp only [qi,dh.fE,dh.f,dh.rd,gu,fD,lvl,gQ,reduceIte,Nat.reduceEqDiff,Nat.reduceAdd,Nat.reduceLeDiff,Nat.reduceBEq,reduceCtorEq,Int.reduceBNe,Int.reduceBEq,Int.reduceLT,Int.reduceLE,Int.reduceNeg,Nat.reduceLT,gz,Int.reduceToNat,iK,c9,q3,f3,c11]
                repeat refine And.intro (by first | (show gY _ _ _ _=true; kernel_rfl) | (show eY _ _=true; kernel_rfl) | omega | assumption) ?_
                exact ⟨(n,z3),⟨by omega,h⟩,ug [] [(0,0),(1,1),(117,11),(118,115)] [] (by rfl) (by (simp -dsimp only [KP,uh,qR,reduceIte,Nat.reduceEqDiff,reduceCtorEq]<;>simp [List.take_of_length_le]; done)) (by (simp -dsimp only [KP,uh,qR,reduceIte,Nat.reduceEqDiff,reduceCtorEq]<;>simp [List.take_of_length_le]; done))⟩
            rintro ⟨n,z4⟩ ⟨hn,h⟩
            cases n with
            | zero=>simp only [G.aO.K4,reduceCtorEq] at h
            | succ n =>
            simp only [G.aO.K4] at h
            replace h:=Option.bind_eq_some_iff.1 h
            obtain ⟨v11,XD,h⟩:=h
            simp -dsimp only [qi,dh.fE,dh.f,dh.rd,gu,fD,lvl,gQ,reduceIte,Nat.reduceEqDiff,Nat.reduceAdd,Nat.reduceLeDiff,Nat.reduceBEq,reduceCtorEq,Int.reduceBNe,Int.reduceBEq,Int.reduceLT,Int.reduceLE,Int.reduceNeg,Nat.reduceLT,gz,Int.reduceToNat,iK]
            repeat refine And.intro (by first | (show gY _ _ _ _=true; kernel_rfl) | (show eY _ _=true; kernel_rfl) | omega | assumption) ?_
            refine uV [0,118] [119] (ih _ (by omega) XD) rfl rfl (by simp only [vZ,iK,reduceIte,Nat.reduceEqDiff,Nat.reduceLeDiff,Nat.reduceAdd]<;>fail) (by simp only [vZ,iK,reduceIte,Nat.reduceEqDiff,Nat.reduceLeDiff,Nat.reduceAdd]<;>fail) rfl rfl (by first | rfl | (simp only [vZ,iK,reduceIte,Nat.reduceEqDiff,Nat.reduceLeDiff,Nat.reduceAdd]<;>fail)) rfl ?_
            simp -dsimp only [qi,dh.fE,dh.f,dh.rd,gu,fD,lvl,gQ,reduceIte,Nat.reduceEqDiff,Nat.reduceAdd,Nat.reduceLeDiff,Nat.reduceBEq,reduceCtorEq,Int.reduceBNe,Int.reduceBEq,Int.reduceLT,Int.reduceLE,Int.reduceNeg,Nat.reduceLT,gz,Int.reduceToNat,iK]
            repeat refine And.intro (by first | (show gY _ _ _ _=true; kernel_rfl) | (show eY _ _=true; kernel_rfl) | omega | assumption) ?_
            exact ⟨(n,(IntKind.wrap .i64 (fV+1)),v11.buf),⟨⟨by omega,h⟩,by simp only []; omega⟩,ug [] [(0,0),(1,1),(115,119)] [] (by rfl) (by (simp -dsimp only [KP,uh,qR,reduceIte,Nat.reduceEqDiff,reduceCtorEq]<;>simp [List.take_of_length_le]; done)) (by (simp -dsimp only [KP,uh,qR,reduceIte,Nat.reduceEqDiff,reduceCtorEq]<;>simp [List.take_of_length_le]; done))⟩
          · replace h:=Option.bind_eq_some_iff.1 h
            obtain ⟨v13,XF,h⟩:=h
            simp -dsimp only [qi,dh.fE,dh.f,dh.rd,gu,fD,lvl,gQ,reduceIte,Nat.reduceEqDiff,Nat.reduceAdd,Nat.reduceLeDiff,Nat.reduceBEq,reduceCtorEq,Int.reduceBNe,Int.reduceBEq,Int.reduceLT,Int.reduceLE,Int.reduceNeg,Nat.reduceLT,gz,Int.reduceToNat,iK,c9]
            repeat refine And.intro (by first | (show gY _ _ _ _=true; kernel_rfl) | (show eY _ _=true; kernel_rfl) | omega | assumption) ?_
            refine uV [0,115] [121] (F.aI XF) rfl rfl (by simp only [vZ,iK,reduceIte,Nat.reduceEqDiff,Nat.reduceLeDiff,Nat.reduceAdd]<;>fail) (by simp only [vZ,iK,reduceIte,Nat.reduceEqDiff,Nat.reduceLeDiff,Nat.reduceAdd]<;>fail) rfl rfl (by first | rfl | (simp only [vZ,iK,reduceIte,Nat.reduceEqDiff,Nat.reduceLeDiff,Nat.reduceAdd]<;>fail)) rfl ?_
            simp -dsimp only [qi,dh.fE,dh.f,dh.rd,gu,fD,lvl,gQ,reduceIte,Nat.reduceEqDiff,Nat.reduceAdd,Nat.reduceLeDiff,Nat.reduceBEq,reduceCtorEq,Int.reduceBNe,Int.reduceBEq,Int.reduceLT,Int.reduceLE,Int.reduceNeg,Nat.reduceLT,gz,Int.reduceToNat,iK,c9]
            repeat refine And.intro (by first | (show gY _ _ _ _=true; kernel_rfl) | (show eY _ _=true; kernel_rfl) | omega | assumption) ?_
            cases h
            refine oN [] [(0,0),(1,1),(2,121)] [] (by rfl) ?_ ?_ ?_<;>(simp -dsimp only [Gg,uh,qR,reduceIte,Nat.reduceEqDiff,reduceCtorEq,Nat.reduceAdd,Nat.reduceLeDiff]<;>first | (simp [List.take_of_length_le]; done) | ((try simp only [List.map_take,List.map_drop,List.map_append,List.map_cons,List.map_nil])<;>(repeat' apply And.intro)<;>first | rfl | (simp; done) | (simp<;>omega; done) | (congr 1; exact (List.take_of_length_le (by simp<;>omega)).symm)))
        · try simp -dsimp only [qi,dh.fE,dh.f,dh.rd,gu,fD,lvl,gQ,reduceIte,Nat.reduceEqDiff,Nat.reduceAdd,Nat.reduceLeDiff,Nat.reduceBEq,reduceCtorEq,Int.reduceBNe,Int.reduceBEq,Int.reduceLT,Int.reduceLE,Int.reduceNeg,Nat.reduceLT,gz,Int.reduceToNat,iK,c1,c2,c3,c4]
          repeat refine And.intro (by first | (show gY _ _ _ _=true; kernel_rfl) | (show eY _ _=true; kernel_rfl) | omega | assumption) ?_
          replace h:=oz.1 h
          rcases h with ⟨c12,h⟩ | ⟨c12,h⟩
          · replace h:=Option.bind_eq_some_iff.1 h
            obtain ⟨v14,XG,h⟩:=h
            simp -dsimp only [qi,dh.fE,dh.f,dh.rd,gu,fD,lvl,gQ,reduceIte,Nat.reduceEqDiff,Nat.reduceAdd,Nat.reduceLeDiff,Nat.reduceBEq,reduceCtorEq,Int.reduceBNe,Int.reduceBEq,Int.reduceLT,Int.reduceLE,Int.reduceNeg,Nat.reduceLT,gz,Int.reduceToNat,iK,c1,c2,c3,c4,c12]
            repeat refine And.intro (by first | (show gY _ _ _ _=true; kernel_rfl) | (show eY _ _=true; kernel_rfl) | omega | assumption) ?_
            refine uV [0,1] [122] (F.aI XG) rfl rfl (by simp only [vZ,iK,reduceIte,Nat.reduceEqDiff,Nat.reduceLeDiff,Nat.reduceAdd]<;>fail) (by simp only [vZ,iK,reduceIte,Nat.reduceEqDiff,Nat.reduceLeDiff,Nat.reduceAdd]<;>fail) rfl rfl (by first | rfl | (simp only [vZ,iK,reduceIte,Nat.reduceEqDiff,Nat.reduceLeDiff,Nat.reduceAdd]<;>fail)) rfl ?_
            simp -dsimp only [qi,dh.fE,dh.f,dh.rd,gu,fD,lvl,gQ,reduceIte,Nat.reduceEqDiff,Nat.reduceAdd,Nat.reduceLeDiff,Nat.reduceBEq,reduceCtorEq,Int.reduceBNe,Int.reduceBEq,Int.reduceLT,Int.reduceLE,Int.reduceNeg,Nat.reduceLT,gz,Int.reduceToNat,iK,c1,c2,c3,c4,c12]
            repeat refine And.intro (by first | (show gY _ _ _ _=true; kernel_rfl) | (show eY _ _=true; kernel_rfl) | omega | assumption) ?_
            refine Sl (X:=Nat × Int × aC) (fun x=>x.1<=n/\G.aO.L7 x.1 ag x.2.1 x.2.2=some r) (fun x=>cu.of [eP 0 0,eP 3 141,(54,.v true (.one (wK ag.Kids))),eI 55 ((ag.Kids.length:Nat):Int),eI 56 x.2.1] [(0,.var [.opt 115 0,.nY 142 x.2.2.length]),(1,.dead),(141,.var (wN ag)),(142,.row 5 x.2.2)]) (fun x=>x.1) (n,0,v14.2.buf) ⟨Nat.le_refl n,h⟩ (ug [] [(0,0),(1,1),(141,10),(142,122)] [] (by rfl) ?_ ?_) ?_
            · (simp -dsimp only [KP,uh,qR,reduceIte,Nat.reduceEqDiff,reduceCtorEq]<;>simp [List.take_of_length_le]; done)
            · (simp -dsimp only [KP,uh,qR,reduceIte,Nat.reduceEqDiff,reduceCtorEq]<;>simp [List.take_of_length_le]; done)
            rintro ⟨n,sV,z7⟩ ⟨hn,h⟩
            cases n with
            | zero=>simp only [G.aO.L7,reduceCtorEq] at h
            | succ n =>
            simp only [G.aO.L7] at h
            try simp -dsimp only [qi,dh.fE,dh.f,dh.rd,gu,fD,lvl,gQ,reduceIte,Nat.reduceEqDiff,Nat.reduceAdd,Nat.reduceLeDiff,Nat.reduceBEq,reduceCtorEq,Int.reduceBNe,Int.reduceBEq,Int.reduceLT,Int.reduceLE,Int.reduceNeg,Nat.reduceLT,gz,Int.reduceToNat,iK]
            repeat refine And.intro (by first | (show gY _ _ _ _=true; kernel_rfl) | (show eY _ _=true; kernel_rfl) | omega | assumption) ?_
            replace h:=oz.1 h
            rcases h with ⟨c17,h⟩ | ⟨c17,h⟩
            · replace h:=mg.1 h
              obtain ⟨q8,h⟩:=h
              have f8:sV.toNat<ag.Kids.length:=by omega
              simp -dsimp only [qi,dh.fE,dh.f,dh.rd,gu,fD,lvl,gQ,reduceIte,Nat.reduceEqDiff,Nat.reduceAdd,Nat.reduceLeDiff,Nat.reduceBEq,reduceCtorEq,Int.reduceBNe,Int.reduceBEq,Int.reduceLT,Int.reduceLE,Int.reduceNeg,Nat.reduceLT,gz,Int.reduceToNat,iK,c17,q8,f8]
              repeat refine And.intro (by first | (show gY _ _ _ _=true; kernel_rfl) | (show eY _ _=true; kernel_rfl) | omega | assumption) ?_
              refine VF (X:=Nat × aC) (fun x=>x.1<=n/\G.aO.K8 x.1 ag sV x.2=some r) (fun x=>cu.of [eP 0 0,eP 3 144,eI 6 sV,eP 7 145,(54,.v true (.one (wK ag.Kids))),eI 55 ((ag.Kids.length:Nat):Int),eI 56 sV] [(0,.var [.opt 115 0,.nY 146 x.2.length]),(1,.dead),(144,.var (wN ag)),(145,.var [wI ((ag.Kids.getD sV.toNat default).Kind),wI ((ag.Kids.getD sV.toNat default).Num),wS ((ag.Kids.getD sV.toNat default).Text),wT ((ag.Kids.getD sV.toNat default).Names),wK ((ag.Kids.getD sV.toNat default).Kids)]),(146,.row 5 x.2)]) ?_ ?_
              · try simp -dsimp only [qi,dh.fE,dh.f,dh.rd,gu,fD,lvl,gQ,reduceIte,Nat.reduceEqDiff,Nat.reduceAdd,Nat.reduceLeDiff,Nat.reduceBEq,reduceCtorEq,Int.reduceBNe,Int.reduceBEq,Int.reduceLT,Int.reduceLE,Int.reduceNeg,Nat.reduceLT,gz,Int.reduceToNat,iK,c17,q8,f8]
                repeat refine And.intro (by first | (show gY _ _ _ _=true; kernel_rfl) | (show eY _ _=true; kernel_rfl) | omega | assumption) ?_
                replace h:=oz.1 h
                rcases h with ⟨c19,h⟩ | ⟨c19,h⟩
                · replace h:=Option.bind_eq_some_iff.1 h
                  obtain ⟨v27,hv27,h⟩:=h
                  simp -dsimp only [qi,dh.fE,dh.f,dh.rd,gu,fD,lvl,gQ,reduceIte,Nat.reduceEqDiff,Nat.reduceAdd,Nat.reduceLeDiff,Nat.reduceBEq,reduceCtorEq,Int.reduceBNe,Int.reduceBEq,Int.reduceLT,Int.reduceLE,Int.reduceNeg,Nat.reduceLT,gz,Int.reduceToNat,iK,c17,q8,f8,c19]
                  repeat refine And.intro (by first | (show gY _ _ _ _=true; kernel_rfl) | (show eY _ _=true; kernel_rfl) | omega | assumption) ?_
                  refine uV [0,142] [150] (F.aI hv27) rfl rfl (by simp only [vZ,iK,reduceIte,Nat.reduceEqDiff,Nat.reduceLeDiff,Nat.reduceAdd]<;>fail) (by simp only [vZ,iK,reduceIte,Nat.reduceEqDiff,Nat.reduceLeDiff,Nat.reduceAdd]<;>fail) rfl rfl (by first | rfl | (simp only [vZ,iK,reduceIte,Nat.reduceEqDiff,Nat.reduceLeDiff,Nat.reduceAdd]<;>fail)) rfl ?_
                  simp -dsimp only [qi,dh.fE,dh.f,dh.rd,gu,fD,lvl,gQ,reduceIte,Nat.reduceEqDiff,Nat.reduceAdd,Nat.reduceLeDiff,Nat.reduceBEq,reduceCtorEq,Int.reduceBNe,Int.reduceBEq,Int.reduceLT,Int.reduceLE,Int.reduceNeg,Nat.reduceLT,gz,Int.reduceToNat,iK,c17,q8,f8,c19]
                  repeat refine And.intro (by first | (show gY _ _ _ _=true; kernel_rfl) | (show eY _ _=true; kernel_rfl) | omega | assumption) ?_
                  exact ⟨(n,v27.2.buf),⟨by omega,h⟩,ug [] [(0,0),(1,1),(144,141),(145,12),(146,150)] [] (by rfl) (by (simp -dsimp only [KP,uh,qR,reduceIte,Nat.reduceEqDiff,reduceCtorEq]<;>simp [List.take_of_length_le]; done)) (by (simp -dsimp only [KP,uh,qR,reduceIte,Nat.reduceEqDiff,reduceCtorEq]<;>simp [List.take_of_length_le]; done))⟩
                · simp -dsimp only [qi,dh.fE,dh.f,dh.rd,gu,fD,lvl,gQ,reduceIte,Nat.reduceEqDiff,Nat.reduceAdd,Nat.reduceLeDiff,Nat.reduceBEq,reduceCtorEq,Int.reduceBNe,Int.reduceBEq,Int.reduceLT,Int.reduceLE,Int.reduceNeg,Nat.reduceLT,gz,Int.reduceToNat,iK,c17,q8,f8,c19]
                  repeat refine And.intro (by first | (show gY _ _ _ _=true; kernel_rfl) | (show eY _ _=true; kernel_rfl) | omega | assumption) ?_
                  exact ⟨(n,z7),⟨by omega,h⟩,ug [] [(0,0),(1,1),(144,141),(145,12),(146,142)] [] (by rfl) (by (simp -dsimp only [KP,uh,qR,reduceIte,Nat.reduceEqDiff,reduceCtorEq]<;>simp [List.take_of_length_le]; done)) (by (simp -dsimp only [KP,uh,qR,reduceIte,Nat.reduceEqDiff,reduceCtorEq]<;>simp [List.take_of_length_le]; done))⟩
              rintro ⟨n,z8⟩ ⟨hn,h⟩
              cases n with
              | zero=>simp only [G.aO.K8,reduceCtorEq] at h
              | succ n =>
              simp only [G.aO.K8] at h
              replace h:=mg.1 h
              obtain ⟨q9,h⟩:=h
              have f9:sV.toNat<ag.Names.length:=by omega
              replace h:=Option.bind_eq_some_iff.1 h
              obtain ⟨v24,hv24,h⟩:=h
              simp -dsimp only [qi,dh.fE,dh.f,dh.rd,gu,fD,lvl,gQ,reduceIte,Nat.reduceEqDiff,Nat.reduceAdd,Nat.reduceLeDiff,Nat.reduceBEq,reduceCtorEq,Int.reduceBNe,Int.reduceBEq,Int.reduceLT,Int.reduceLE,Int.reduceNeg,Nat.reduceLT,gz,Int.reduceToNat,iK,q9,f9]
              repeat refine And.intro (by first | (show gY _ _ _ _=true; kernel_rfl) | (show eY _ _=true; kernel_rfl) | omega | assumption) ?_
              refine uV [0,146] [147] (F.bT hv24) rfl rfl (by simp only [vZ,iK,reduceIte,Nat.reduceEqDiff,Nat.reduceLeDiff,Nat.reduceAdd]<;>fail) (by simp only [vZ,iK,reduceIte,Nat.reduceEqDiff,Nat.reduceLeDiff,Nat.reduceAdd]<;>fail) rfl rfl (by first | rfl | (simp only [vZ,iK,reduceIte,Nat.reduceEqDiff,Nat.reduceLeDiff,Nat.reduceAdd]<;>fail)) rfl ?_
              replace h:=Option.bind_eq_some_iff.1 h
              obtain ⟨v25,hv25,h⟩:=h
              simp -dsimp only [qi,dh.fE,dh.f,dh.rd,gu,fD,lvl,gQ,reduceIte,Nat.reduceEqDiff,Nat.reduceAdd,Nat.reduceLeDiff,Nat.reduceBEq,reduceCtorEq,Int.reduceBNe,Int.reduceBEq,Int.reduceLT,Int.reduceLE,Int.reduceNeg,Nat.reduceLT,gz,Int.reduceToNat,iK,q9,f9]
              repeat refine And.intro (by first | (show gY _ _ _ _=true; kernel_rfl) | (show eY _ _=true; kernel_rfl) | omega | assumption) ?_
              refine uV [0,147] [148] (F.aI hv25) rfl rfl (by simp only [vZ,iK,reduceIte,Nat.reduceEqDiff,Nat.reduceLeDiff,Nat.reduceAdd]<;>fail) (by simp only [vZ,iK,reduceIte,Nat.reduceEqDiff,Nat.reduceLeDiff,Nat.reduceAdd]<;>fail) rfl rfl (by first | rfl | (simp only [vZ,iK,reduceIte,Nat.reduceEqDiff,Nat.reduceLeDiff,Nat.reduceAdd]<;>fail)) rfl ?_
              replace h:=Option.bind_eq_some_iff.1 h
              obtain ⟨v26,XH,h⟩:=h
              simp -dsimp only [qi,dh.fE,dh.f,dh.rd,gu,fD,lvl,gQ,reduceIte,Nat.reduceEqDiff,Nat.reduceAdd,Nat.reduceLeDiff,Nat.reduceBEq,reduceCtorEq,Int.reduceBNe,Int.reduceBEq,Int.reduceLT,Int.reduceLE,Int.reduceNeg,Nat.reduceLT,gz,Int.reduceToNat,iK,q9,f9]
              repeat refine And.intro (by first | (show gY _ _ _ _=true; kernel_rfl) | (show eY _ _=true; kernel_rfl) | omega | assumption) ?_
              refine uV [0,148] [149] (ih _ (by omega) XH) rfl rfl (by simp only [vZ,iK,reduceIte,Nat.reduceEqDiff,Nat.reduceLeDiff,Nat.reduceAdd]<;>fail) (by simp only [vZ,iK,reduceIte,Nat.reduceEqDiff,Nat.reduceLeDiff,Nat.reduceAdd]<;>fail) rfl rfl (by first | rfl | (simp only [vZ,iK,reduceIte,Nat.reduceEqDiff,Nat.reduceLeDiff,Nat.reduceAdd]<;>fail)) rfl ?_
              simp -dsimp only [qi,dh.fE,dh.f,dh.rd,gu,fD,lvl,gQ,reduceIte,Nat.reduceEqDiff,Nat.reduceAdd,Nat.reduceLeDiff,Nat.reduceBEq,reduceCtorEq,Int.reduceBNe,Int.reduceBEq,Int.reduceLT,Int.reduceLE,Int.reduceNeg,Nat.reduceLT,gz,Int.reduceToNat,iK,q9,f9]
              repeat refine And.intro (by first | (show gY _ _ _ _=true; kernel_rfl) | (show eY _ _=true; kernel_rfl) | omega | assumption) ?_
              exact ⟨(n,(IntKind.wrap .i64 (sV+1)),v26.buf),⟨⟨by omega,h⟩,by simp only []; omega⟩,ug [] [(0,0),(1,1),(141,144),(142,149)] [] (by rfl) (by (simp -dsimp only [KP,uh,qR,reduceIte,Nat.reduceEqDiff,reduceCtorEq]<;>simp [List.take_of_length_le]; done)) (by (simp -dsimp only [KP,uh,qR,reduceIte,Nat.reduceEqDiff,reduceCtorEq]<;>simp [List.take_of_length_le]; done))⟩
            · replace h:=Option.bind_eq_some_iff.1 h
              obtain ⟨v28,hv28,h⟩:=h
              simp -dsimp only [qi,dh.fE,dh.f,dh.rd,gu,fD,lvl,gQ,reduceIte,Nat.reduceEqDiff,Nat.reduceAdd,Nat.reduceLeDiff,Nat.reduceBEq,reduceCtorEq,Int.reduceBNe,Int.reduceBEq,Int.reduceLT,Int.reduceLE,Int.reduceNeg,Nat.reduceLT,gz,Int.reduceToNat,iK,c17]
              repeat refine And.intro (by first | (show gY _ _ _ _=true; kernel_rfl) | (show eY _ _=true; kernel_rfl) | omega | assumption) ?_
              refine uV [0,142] [151] (F.aI hv28) rfl rfl (by simp only [vZ,iK,reduceIte,Nat.reduceEqDiff,Nat.reduceLeDiff,Nat.reduceAdd]<;>fail) (by simp only [vZ,iK,reduceIte,Nat.reduceEqDiff,Nat.reduceLeDiff,Nat.reduceAdd]<;>fail) rfl rfl (by first | rfl | (simp only [vZ,iK,reduceIte,Nat.reduceEqDiff,Nat.reduceLeDiff,Nat.reduceAdd]<;>fail)) rfl ?_
              simp -dsimp only [qi,dh.fE,dh.f,dh.rd,gu,fD,lvl,gQ,reduceIte,Nat.reduceEqDiff,Nat.reduceAdd,Nat.reduceLeDiff,Nat.reduceBEq,reduceCtorEq,Int.reduceBNe,Int.reduceBEq,Int.reduceLT,Int.reduceLE,Int.reduceNeg,Nat.reduceLT,gz,Int.reduceToNat,iK,c17]
              repeat refine And.intro (by first | (show gY _ _ _ _=true; kernel_rfl) | (show eY _ _=true; kernel_rfl) | omega | assumption) ?_
              cases h
              refine oN [] [(0,0),(1,1),(2,151)] [] (by rfl) ?_ ?_ ?_<;>(simp -dsimp only [Gg,uh,qR,reduceIte,Nat.reduceEqDiff,reduceCtorEq,Nat.reduceAdd,Nat.reduceLeDiff]<;>first | (simp [List.take_of_length_le]; done) | ((try simp only [List.map_take,List.map_drop,List.map_append,List.map_cons,List.map_nil])<;>(repeat' apply And.intro)<;>first | rfl | (simp; done) | (simp<;>omega; done) | (congr 1; exact (List.take_of_length_le (by simp<;>omega)).symm)))
          · simp -dsimp only [qi,dh.fE,dh.f,dh.rd,gu,fD,lvl,gQ,reduceIte,Nat.reduceEqDiff,Nat.reduceAdd,Nat.reduceLeDiff,Nat.reduceBEq,reduceCtorEq,Int.reduceBNe,Int.reduceBEq,Int.reduceLT,Int.reduceLE,Int.reduceNeg,Nat.reduceLT,gz,Int.reduceToNat,iK,c1,c2,c3,c4,c12]
            repeat refine And.intro (by first | (show gY _ _ _ _=true; kernel_rfl) | (show eY _ _=true; kernel_rfl) | omega | assumption) ?_
            cases h
            refine oN [] [(0,0),(1,1),(2,1)] [] (by rfl) ?_ ?_ ?_<;>(simp -dsimp only [Gg,uh,qR,reduceIte,Nat.reduceEqDiff,reduceCtorEq,Nat.reduceAdd,Nat.reduceLeDiff]<;>first | (simp [List.take_of_length_le]; done) | ((try simp only [List.map_take,List.map_drop,List.map_append,List.map_cons,List.map_nil])<;>(repeat' apply And.intro)<;>first | rfl | (simp; done) | (simp<;>omega; done) | (congr 1; exact (List.take_of_length_le (by simp<;>omega)).symm)))
theorem F.aO {n:Nat} : ∀ {qx:dH} {ag:af} {r:dH},G.aO n qx ag=some r->eF pZ 98 [.one (.ptr 0 0),.agg (wN ag)] [.var [.opt 115 0,.nY 1 qx.buf.length],.row 5 qx.buf] (fun r1 b1=>r1 = .oq []/\b1=[.var [.opt 115 0,.nY 2 r.buf.length],.dead,.row 5 r.buf]):=F.CG n
theorem B.lays169:Go.Proofs.Lays.n169 pZ B.ren:=by constructor<;>first | kernel_rfl | (intro w; kernel_rfl)
theorem F.kU {n:Nat} : ∀ {qx:dH} {r:aC},G.kU n qx=some r->eF pZ 99 [.one (.ptr 0 0)] [.var [.opt 115 0,.nY 1 qx.buf.length],.row 5 qx.buf] (fun r1 b1=>r1 = .one (wS r)/\b1=[.dead,.dead]):=by
  intro b r h
  rcases n with _ | n<;>simp only [G.kU,reduceCtorEq] at h
  obtain ⟨hl,h⟩:=mg.1 h
  cases h
  exact OG B.lays169 B.x (Nat.le_trans hl (by decide))
theorem F.jO {n:Nat} : ∀ {ag:af} {r:aC},G.jO n ag=some r->bG pZ 62 [.agg (wN ag)] (.one (wS r)):=by
  intro ag r h
  refine aG K.jO (kF ?_)
  unfold C.jO
  rcases n with _ | n<;>simp only [G.jO,reduceCtorEq] at h
  obtain ⟨zc,zg,zk,zu,ze,zj,zt⟩:=pp (pp @F.aH ()) <| pp (pp (pp @F.aO (@cG [12,11] [101])) <| pp (pp @F.kU (@cG [12,101] [])) ()) <| pp () <| pp () <| pp () <| pp () <| ()
  exact kN
theorem F.lC {n:Nat} : ∀ {ah:StoreT} {aJ:aC} {r:aB × Bool},G.lC n ah aJ=some r->bG pZ 20 [.agg [.c (.sl 7 (List.map aB.cells ah.Items)),wI ah.Clock],.one (wS aJ)] (.oq [(true,[wS r.1.Name,wI r.1.Version,wI r.1.Node.Kind,wI r.1.Node.Num,wS r.1.Node.Text,wT r.1.Node.Names,wK r.1.Node.Kids]),(false,[.c (.lit (.bool r.2))])]):=by
  intro ah aJ r h
  refine aG K.lC (kF ?_)
  unfold C.lC
  rcases n with _ | n<;>simp only [G.lC,reduceCtorEq] at h
  obtain ⟨zc,zg,zk,zu,ze,zj,zt⟩:=pp (pp @F.aW <| pp @F.ja <| pp @F.jV ()) <| pp () <| pp () <| pp () <| pp () <| pp () <| ()
  exact kN
theorem F.dM {n:Nat} : ∀ {ah:aC} {r:aC},G.dM n ah=some r->bG pZ 61 [.one (wS ah)] (.one (wS r)):=by
  intro ah r h
  refine aG K.dM (kF ?_)
  unfold C.dM
  rcases n with _ | n<;>simp only [G.dM,reduceCtorEq] at h
  obtain ⟨zc,zg,zk,zu,ze,zj,zt⟩:=pp () <| pp () <| pp (pp (@lS (Int × Int) _ (fun n x=>G.dM.L1 n ah x.1 x.2) r (fun x=>cu.of [eS 0 ah,eI 3 x.1,eI 4 x.2] [])) <| pp (@lS (Int × Int × List Int) _ (fun n x=>G.dM.L2 n x.1 x.2.1 x.2.2) r (fun x=>cu.of [eI 3 x.1,(5,.v true (.one (.oZ 103 0 1 0))),eI 6 x.2.1] [(103,.dat 1 (List.map cU x.2.2))])) ()) <| pp () <| pp (pp (And.intro @G.dM.L1.eq_1 <| And.intro @G.dM.L1.eq_2 <| And.intro @G.dM.L2.eq_1 <| @G.dM.L2.eq_2) ()) <| pp (pp (@bg [] [] []) <| pp (@bg [] [(103,10)] []) <| pp (@bg [] [(103,103)] []) ()) <| ()
  exact kN
theorem F.lK {n:Nat} : ∀ {ag:af} {r:aC},G.lK n ag=some r->bG pZ 34 [.agg (wN ag)] (.one (wS r)):=by
  intro ag r h
  refine aG K.lK (kF ?_)
  unfold C.lK
  rcases n with _ | n<;>simp only [G.lK,reduceCtorEq] at h
  obtain ⟨zc,zg,zk,zu,ze,zj,zt⟩:=pp (pp @F.aH <| pp @F.jO <| pp @F.dM ()) <| pp () <| pp () <| pp () <| pp () <| pp () <| ()
  exact kN
theorem F.jP {n:Nat} : ∀ {ah:StoreT} {bC:RequestT} {r:StoreT × bn},G.jP n ah bC=some r->bG pZ 36 [.agg [.c (.sl 7 (List.map aB.cells ah.Items)),wI ah.Clock],.agg [wI bC.Method,wS bC.Name,wT bC.Want,wT bC.l7,wI bC.Body.Kind,wI bC.Body.Num,wS bC.Body.Text,wT bC.Body.Names,wK bC.Body.Kids,.c (.sl 8 (List.map lU.cells bC.Ops))]] (.oq [(true,[.c (.sl 7 (List.map aB.cells r.1.Items)),wI r.1.Clock]),(true,[wI r.2.Status,wS r.2.Tag,wI r.2.Version,wI r.2.Body.Kind,wI r.2.Body.Num,wS r.2.Body.Text,wT r.2.Body.Names,wK r.2.Body.Kids])]):=by
  intro ah bC r h
  refine aG K.jP (kF ?_)
  unfold C.jP
  rcases n with _ | n<;>simp only [G.jP,reduceCtorEq] at h
  obtain ⟨zc,zg,zk,zu,ze,zj,zt⟩:=pp (pp @F.kP <| pp @F.bf ()) <| pp () <| pp () <| pp () <| pp () <| pp () <| ()
  exact kN
theorem FZ.fO {es:List (List Cell)} {v:List Cell} {c i:Nat} (hc:es.length<=c) (hi:i<=es.length) (hb:(es.length+1)*112<=2^46) :
    eF pZ 60 [.one (.sub 0 0 es.length (some c) 7),.one (wI (i:Int)),.one (.own 1 1 7)] [.dat 7 es,.dat 7 [v]]
      (fun r1 b1=>r1 = .one (.own 2 (es.length+1) 7)/\b1=[.dead,.dat 7 [v],.dat 7 (es.take i++v::es.drop i)]):=by
  have hw:IntKind.wrap .i64 ((es.length:Int)+((1:Nat):Int))=((es.length+1:Nat):Int):=by rw [pM]<;>omega
  have hw2:IntKind.wrap .i64 ((i:Int)+((1:Nat):Int))=((i+1:Nat):Int):=by rw [pM]<;>omega
  have hw3:IntKind.wrap .i64 (((es.length+1:Nat):Int)-i)=((es.length+1-i:Nat):Int):=by rw [pM]<;>omega
  refine dA K.fO (kF ?_)
  unfold C.fO
  have h10:(((1:Nat):Int)==0)=false:=rfl
  by_cases h1:i=es.length
  · subst h1
    have he:(((es.length:Nat):Int)==((es.length:Nat):Int))=true:=by simp
    simp -dsimp only [qi,dh.fE,dh.f,dh.rd,gu,fD,lvl,gQ,reduceIte,Nat.reduceEqDiff,Nat.reduceAdd,Nat.reduceLeDiff,Nat.reduceBEq,reduceCtorEq,Int.reduceBNe,Int.reduceBEq,Int.reduceLT,Int.reduceLE,Int.reduceNeg,Nat.reduceLT,gz,Int.reduceToNat,iK,jT,pY,nI,nK,nH,nJ,truncS,Option.map_none,Int.sub_zero,Nat.sub_zero,Int.toNat_sub,Int.ofNat_zero,List.drop_zero,List.take_length,Nat.add_sub_cancel,h10]
    repeat refine And.intro (by first | (show gY _ _ _ _=true; kernel_rfl) | (show eY _ _=true; kernel_rfl) | omega | assumption) ?_
    have e:es++[v]++List.drop (es.length+1) es=es++v::List.drop es.length es:=by simp
    have e2:es++[v]=es++v::List.drop es.length es:=by simp
    by_cases hr:es.length+1<=c
    · simp -dsimp only [qi,dh.fE,dh.f,dh.rd,gu,fD,lvl,gQ,reduceIte,Nat.reduceEqDiff,Nat.reduceAdd,Nat.reduceLeDiff,Nat.reduceBEq,reduceCtorEq,Int.reduceBNe,Int.reduceBEq,Int.reduceLT,Int.reduceLE,Int.reduceNeg,Nat.reduceLT,gz,Int.reduceToNat,iK,jT,pY,nI,nK,nH,nJ,truncS,Option.map_none,Int.sub_zero,Nat.sub_zero,Int.toNat_sub,Int.ofNat_zero,List.drop_zero,List.take_length,Nat.add_sub_cancel,hr]
      repeat refine And.intro (by first | (show gY _ _ _ _=true; kernel_rfl) | (show eY _ _=true; kernel_rfl) | omega | assumption) ?_
      rw [e]
      refine oN [] [(0,0),(1,1),(2,0)] [] (by rfl) ?_ ?_ ?_<;>(simp -dsimp only [Gg,uh,qR,reduceIte,Nat.reduceEqDiff,reduceCtorEq,Nat.reduceAdd,Nat.reduceLeDiff]<;>first | (simp [List.take_of_length_le]; done) | ((try simp only [List.map_take,List.map_drop,List.map_append,List.map_cons,List.map_nil])<;>(repeat' apply And.intro)<;>first | rfl | (simp; done) | (simp<;>omega; done) | (congr 1; exact (List.take_of_length_le (by simp<;>omega)).symm)))
    · simp -dsimp only [qi,dh.fE,dh.f,dh.rd,gu,fD,lvl,gQ,reduceIte,Nat.reduceEqDiff,Nat.reduceAdd,Nat.reduceLeDiff,Nat.reduceBEq,reduceCtorEq,Int.reduceBNe,Int.reduceBEq,Int.reduceLT,Int.reduceLE,Int.reduceNeg,Nat.reduceLT,gz,Int.reduceToNat,iK,jT,pY,nI,nK,nH,nJ,truncS,Option.map_none,Int.sub_zero,Nat.sub_zero,Int.toNat_sub,Int.ofNat_zero,List.drop_zero,List.take_length,Nat.add_sub_cancel,hr]
      repeat refine And.intro (by first | (show gY _ _ _ _=true; kernel_rfl) | (show eY _ _=true; kernel_rfl) | omega | assumption) ?_
      rw [e2]
      refine oN [] [(0,0),(1,1),(2,10)] [] (by rfl) ?_ ?_ ?_<;>(simp -dsimp only [Gg,uh,qR,reduceIte,Nat.reduceEqDiff,reduceCtorEq,Nat.reduceAdd,Nat.reduceLeDiff]<;>first | (simp [List.take_of_length_le]; done) | ((try simp only [List.map_take,List.map_drop,List.map_append,List.map_cons,List.map_nil])<;>(repeat' apply And.intro)<;>first | rfl | (simp; done) | (simp<;>omega; done) | (congr 1; exact (List.take_of_length_le (by simp<;>omega)).symm)))
  · have he:(((i:Nat):Int)==((es.length:Nat):Int))=false:=by simp; omega
    simp -dsimp only [qi,dh.fE,dh.f,dh.rd,gu,fD,lvl,gQ,reduceIte,Nat.reduceEqDiff,Nat.reduceAdd,Nat.reduceLeDiff,Nat.reduceBEq,reduceCtorEq,Int.reduceBNe,Int.reduceBEq,Int.reduceLT,Int.reduceLE,Int.reduceNeg,Nat.reduceLT,gz,Int.reduceToNat,iK,jT,pY,nI,nK,nH,nJ,truncS,Option.map_none,Int.sub_zero,Nat.sub_zero,Int.toNat_sub,Int.ofNat_zero,List.drop_zero,List.take_length,Nat.add_sub_cancel,h10]
    repeat refine And.intro (by first | (show gY _ _ _ _=true; kernel_rfl) | (show eY _ _=true; kernel_rfl) | omega | assumption) ?_
    simp -dsimp only [qi,dh.fE,dh.f,dh.rd,gu,fD,lvl,gQ,reduceIte,Nat.reduceEqDiff,Nat.reduceAdd,Nat.reduceLeDiff,Nat.reduceBEq,reduceCtorEq,Int.reduceBNe,Int.reduceBEq,Int.reduceLT,Int.reduceLE,Int.reduceNeg,Nat.reduceLT,gz,Int.reduceToNat,iK,jT,pY,nI,nK,nH,nJ,truncS,Option.map_none,Int.sub_zero,Nat.sub_zero,Int.toNat_sub,Int.ofNat_zero,List.drop_zero,List.take_length,Nat.add_sub_cancel,he]
    by_cases hr:es.length+1<=c
    · have hd:decide ((c:Int)<((es.length+1:Nat):Int))=false:=by simp; omega
      simp -dsimp only [qi,dh.fE,dh.f,dh.rd,gu,fD,lvl,gQ,reduceIte,Nat.reduceEqDiff,Nat.reduceAdd,Nat.reduceLeDiff,Nat.reduceBEq,reduceCtorEq,Int.reduceBNe,Int.reduceBEq,Int.reduceLT,Int.reduceLE,Int.reduceNeg,Nat.reduceLT,gz,Int.reduceToNat,iK,jT,pY,nI,nK,nH,nJ,truncS,Option.map_none,Int.sub_zero,Nat.sub_zero,Int.toNat_sub,Int.ofNat_zero,List.drop_zero,List.take_length,Nat.add_sub_cancel,hw,hd]
      repeat refine And.intro (by first | (show gY _ _ _ _=true; kernel_rfl) | (show eY _ _=true; kernel_rfl) | omega | assumption) ?_
      simp -dsimp only [qi,dh.fE,dh.f,dh.rd,gu,fD,lvl,gQ,reduceIte,Nat.reduceEqDiff,Nat.reduceAdd,Nat.reduceLeDiff,Nat.reduceBEq,reduceCtorEq,Int.reduceBNe,Int.reduceBEq,Int.reduceLT,Int.reduceLE,Int.reduceNeg,Nat.reduceLT,gz,Int.reduceToNat,iK,jT,pY,nI,nK,nH,nJ,truncS,Option.map_none,Int.sub_zero,Nat.sub_zero,Int.toNat_sub,Int.ofNat_zero,List.drop_zero,List.take_length,Nat.add_sub_cancel,hw2]
      repeat refine And.intro (by first | (show gY _ _ _ _=true; kernel_rfl) | (show eY _ _=true; kernel_rfl) | omega | assumption) ?_
      refine And.intro (by simp; omega) ?_
      have e:=VW es v i (by omega)
      simp only [splice] at e
      rw [e]
      refine oN [] [(0,0),(1,1),(2,0)] [] (by rfl) ?_ ?_ ?_<;>(simp -dsimp only [Gg,uh,qR,reduceIte,Nat.reduceEqDiff,reduceCtorEq,Nat.reduceAdd,Nat.reduceLeDiff]<;>first | (simp [List.take_of_length_le]; done) | ((try simp only [List.map_take,List.map_drop,List.map_append,List.map_cons,List.map_nil])<;>(repeat' apply And.intro)<;>first | rfl | (simp; done) | (simp<;>omega; done) | (congr 1; exact (List.take_of_length_le (by simp<;>omega)).symm)))
    · have hd:decide ((c:Int)<((es.length+1:Nat):Int))=true:=by simp; omega
      have hx:c<i+(es.length+1-i):=by omega
      simp -dsimp only [qi,dh.fE,dh.f,dh.rd,gu,fD,lvl,gQ,reduceIte,Nat.reduceEqDiff,Nat.reduceAdd,Nat.reduceLeDiff,Nat.reduceBEq,reduceCtorEq,Int.reduceBNe,Int.reduceBEq,Int.reduceLT,Int.reduceLE,Int.reduceNeg,Nat.reduceLT,gz,Int.reduceToNat,iK,jT,pY,nI,nK,nH,nJ,truncS,Option.map_none,Int.sub_zero,Nat.sub_zero,Int.toNat_sub,Int.ofNat_zero,List.drop_zero,List.take_length,Nat.add_sub_cancel,hw,hd,hw2,hw3]
      repeat refine And.intro (by first | (show gY _ _ _ _=true; kernel_rfl) | (show eY _ _=true; kernel_rfl) | omega | assumption) ?_
      refine And.intro (by simp; omega) ?_
      repeat refine And.intro (by first | (show gY _ _ _ _=true; kernel_rfl) | (show eY _ _=true; kernel_rfl) | omega | assumption) ?_
      refine And.intro ⟨by omega,by simp; omega⟩ ?_
      repeat refine And.intro (by first | (show gY _ _ _ _=true; kernel_rfl) | (show eY _ _=true; kernel_rfl) | omega | assumption) ?_
      have e:=VX es v [.str [],.lit (.int .i64 0),.lit (.int .i64 0),.lit (.int .i64 0),.str [],.sl 1 [],.sl 5 []] i _ (by omega) rfl
      simp only [splice] at e
      have e0:i+(es.length+1-i)=es.length+1:=by omega
      rw [e,e0]
      refine oN [] [(0,0),(1,1),(2,11)] [] (by rfl) ?_ ?_ ?_<;>(simp -dsimp only [Gg,uh,qR,reduceIte,Nat.reduceEqDiff,reduceCtorEq,Nat.reduceAdd,Nat.reduceLeDiff]<;>first | (simp [List.take_of_length_le]; done) | ((try simp only [List.map_take,List.map_drop,List.map_append,List.map_cons,List.map_nil])<;>(repeat' apply And.intro)<;>first | rfl | (simp; done) | (simp<;>omega; done) | (congr 1; exact (List.take_of_length_le (by simp<;>omega)).symm)))
theorem F.fO {n:Nat} : ∀ {ah:List aB} {vN:Int} {rC:List aB} {r:List aB},G.fO n ah vN rC=some r ->
    eF pZ 60 [.one (.own 0 ah.length 7),.one (wI vN),.one (.own 1 rC.length 7)] [.dat 7 (List.map aB.cells ah),.dat 7 (List.map aB.cells rC)]
      (fun r1 b1=>r1 = .one (.own 2 r.length 7)/\b1=[.dead,.dat 7 (List.map aB.cells rC),.dat 7 (List.map aB.cells r)]):=by
  intro s i v r h
  cases n with
  | zero=>simp only [G.fO,reduceCtorEq] at h
  | succ n =>
    simp only [G.fO] at h
    obtain ⟨⟨q1,q2,q3,q4⟩,h⟩:=mg.1 h
    cases h
    obtain ⟨x,rfl⟩:=List.length_eq_one_iff.1 q3
    obtain ⟨k,rfl⟩:∃ k:Nat,i=k:=⟨i.toNat,by omega⟩
    refine yC (fun c hc => ?_)
    have hf:=FZ.fO (es:=List.map aB.cells s) (v:=aB.cells x) (c:=c) (i:=k) (by simpa using hc) (by rw [List.length_map]; omega) (by rw [List.length_map]; exact q4)
    have e1:(List.take k s++[x]++List.drop k s).length=s.length+1:=by simp; omega
    rw [Int.toNat_natCast,e1]
    simpa using hf
theorem F.mX {n:Nat} : ∀ {oG:List aB} {jF:aB} {r:List aB},G.mX n oG jF=some r->eF pZ 32 [.one (.own 0 oG.length 7),.agg [wS jF.Name,wI jF.Version,wI jF.Node.Kind,wI jF.Node.Num,wS jF.Node.Text,wT jF.Node.Names,wK jF.Node.Kids]] [.dat 7 (List.map aB.cells oG)] (fun r1 b1=>r1 = .one (.own 1 r.length 7)/\b1=[.dead,.dat 7 (List.map aB.cells r)]):=by
  intro oG jF r h
  refine dA K.mX (kF ?_)
  unfold C.mX
  rcases n with _ | n<;>simp only [G.mX,reduceCtorEq] at h
  obtain ⟨zc,zg,zk,zu,ze,zj,zt⟩:=pp (pp @F.ja ()) <| pp (pp (pp @F.fO (@cG [0,11] [101])) ()) <| pp () <| pp () <| pp () <| pp () <| (pp (@lT [] [(0,0),(1,0)] []) <| pp (@lT [] [(0,0),(1,101)] []) ())
  exact kN
theorem F.lD {n:Nat} : ∀ {ah:StoreT} {aJ:aC} {ag:af} {r:StoreT × Bool},G.lD n ah aJ ag=some r->bG pZ 13 [.agg [.c (.sl 7 (List.map aB.cells ah.Items)),wI ah.Clock],.one (wS aJ),.agg (wN ag)] (.oq [(true,[.c (.sl 7 (List.map aB.cells r.1.Items)),wI r.1.Clock]),(false,[.c (.lit (.bool r.2))])]):=by
  intro ah aJ ag r h
  refine aG K.lD (kF ?_)
  unfold C.lD
  rcases n with _ | n<;>simp only [G.lD,reduceCtorEq] at h
  obtain ⟨zc,zg,zk,zu,ze,zj,zt⟩:=pp (pp @F.aW <| pp @F.fK <| pp @F.aH <| pp @F.ax ()) <| pp (pp (pp @F.wu (@cG [] [101])) <| pp (pp @F.mX (@cG [101] [102])) ()) <| pp () <| pp () <| pp () <| pp () <| ()
  exact kN
theorem F.lM {n:Nat} : ∀ {pq:af} {aJ:aC} {r:af},G.lM n pq aJ=some r->eF pZ 158 [.one (.ptr 0 0),.one (wS aJ)] [.var [wI pq.Kind,wI pq.Num,wS pq.Text,.own 1 pq.Names.length 1,.own 2 pq.Kids.length 5],.dat 1 (List.map cS pq.Names),.dat 5 (List.map af.cells pq.Kids)] (fun r1 b1=>r1 = .oq []/\b1=[.var [wI r.Kind,wI r.Num,wS r.Text,.own 3 r.Names.length 1,.own 4 r.Kids.length 5],.dead,.dead,.dat 1 (List.map cS r.Names),.dat 5 (List.map af.cells r.Kids)]):=by
  intro pq aJ r h
  refine dA K.lM (kF ?_)
  unfold C.lM
  rcases n with _ | n<;>simp only [G.lM,reduceCtorEq] at h
  obtain ⟨zc,zg,zk,zu,ze,zj,zt⟩:=pp (pp @F.slices_BinarySearch_string ()) <| pp (pp (pp @F.slices_Delete_string (@cG [1] [101])) <| pp (pp @F.bW (@cG [2] [102])) ()) <| pp () <| pp () <| pp () <| pp () <| (pp (@lT [] [(0,0),(1,1),(2,2),(3,101),(4,102)] []) <| pp (@lT [] [(0,0),(1,1),(2,2),(3,1),(4,2)] []) ())
  exact kN
theorem F.Be:∀ (n:Nat),∀ {ag:af} {aS:af} {r:af},G.aT n ag aS=some r->bG pZ 141 [.agg (wN ag),.agg (wN aS)] (.agg (wN r)):=by
  intro n
  induction n using Nat.strongRecOn with | _ n ih =>
  intro ag aS r h
  refine aG K.aT (kF ?_)
  unfold C.aT
  rcases n with _ | n<;>simp only [G.aT,reduceCtorEq] at h
  have:=Mk.mk 1; have:=Mk.mk 2
  obtain ⟨zc,zg,zk,zu,ze,zj,zt,zq⟩:=pp (pp ih <| pp @F.slices_BinarySearch_string ()) <| pp (pp (pp @F.mF (@cG [] [101,102])) <| pp (pp @F.mF (@cG [] [155,156])) <| pp (pp @F.lM (@cG [142,143,144] [145,146])) <| pp (pp @F.jD (@cG [149,151,152] [153,154])) ()) <| pp (pp (@lS (Int × Int × Int × aC × List aC × List af) _ (fun n x=>G.aT.L4 n aS x.1 x.2.1 x.2.2.1 x.2.2.2.1 x.2.2.2.2.1 x.2.2.2.2.2) r (fun x=>cu.of [eP 3 140,eP 4 141,eP 5 142,eT 23 aS.Names,eI 24 ((aS.Names.length:Nat):Int),eI 25 x.1] [(140,.var (wN aS)),(141,.var zN),(142,.var [wI x.2.1,wI x.2.2.1,wS x.2.2.2.1,.own 143 x.2.2.2.2.1.length 1,.own 144 x.2.2.2.2.2.length 5]),(143,.dat 1 (List.map cS x.2.2.2.2.1)),(144,.dat 5 (List.map af.cells x.2.2.2.2.2))])) ()) <| pp (pp (@pO (Int × Int × aC × List aC × List af) _ (fun n x=>G.aT.K1 n aS x.1 x.2.1 x.2.2.1 x.2.2.2.1 x.2.2.2.2) r (fun x=>cu.of [eP 3 105,eP 4 106,eP 5 107] [(105,.var (wN aS)),(106,.var zN),(107,.var [wI x.1,wI x.2.1,wS x.2.2.1,.own 108 x.2.2.2.1.length 1,.own 109 x.2.2.2.2.length 5]),(108,.dat 1 (List.map cS x.2.2.2.1)),(109,.dat 5 (List.map af.cells x.2.2.2.2))])) <| pp (@pO (Int × Int × Int × aC × List aC × List af × Int × Int × aC × List aC × List af) _ (fun n x=>G.aT.K5 n aS x.1 x.2.1 x.2.2.1 x.2.2.2.1 x.2.2.2.2.1 x.2.2.2.2.2.1 x.2.2.2.2.2.2.1 x.2.2.2.2.2.2.2.1 x.2.2.2.2.2.2.2.2.1 x.2.2.2.2.2.2.2.2.2.1 x.2.2.2.2.2.2.2.2.2.2) r (fun x=>cu.of [eP 3 147,eP 4 148,eP 5 149,eI 6 x.1,eS 7 (aS.Names.getD x.1.toNat default),eP 8 150,eT 23 aS.Names,eI 24 ((aS.Names.length:Nat):Int),eI 25 x.1] [(147,.var (wN aS)),(148,.var zN),(149,.var [wI x.2.1,wI x.2.2.1,wS x.2.2.2.1,.own 151 x.2.2.2.2.1.length 1,.own 152 x.2.2.2.2.2.1.length 5]),(150,.var [wI x.2.2.2.2.2.2.1,wI x.2.2.2.2.2.2.2.1,wS x.2.2.2.2.2.2.2.2.1,wT x.2.2.2.2.2.2.2.2.2.1,wK x.2.2.2.2.2.2.2.2.2.2]),(151,.dat 1 (List.map cS x.2.2.2.2.1)),(152,.dat 5 (List.map af.cells x.2.2.2.2.2.1))])) ()) <| pp (pp (And.intro @G.aT.K1.eq_1 <| And.intro @G.aT.K1.eq_2 <| And.intro @G.aT.L4.eq_1 <| And.intro @G.aT.L4.eq_2 <| And.intro @G.aT.K5.eq_1 <| @G.aT.K5.eq_2) ()) <| pp (pp (@bg [] [(105,11),(106,12),(107,13),(108,155),(109,156)] []) <| pp (@bg [] [(105,11),(106,12),(107,13)] [108,109]) <| pp (@bg [] [(140,105),(141,106),(142,107),(143,108),(144,109)] []) <| pp (@bg [] [(140,140),(141,141),(142,142),(143,145),(144,146)] []) <| pp (@bg [] [(147,140),(148,141),(149,142),(150,14),(151,143),(152,144)] []) <| pp (@bg [] [(140,147),(141,148),(142,149),(143,153),(144,154)] []) <| pp (@bg [] [(105,11),(106,12),(107,13),(108,101),(109,102)] []) ()) <| pp () <| (pp (pp (rfl : @G.aT.K1=_) ()) <| pp (pp (rfl : @G.aT.K5=_) <| pp (rfl : @G.aT.L4=_) <| pp (rfl : @G.aT.K1=_) ()) ())
  exact OZ
theorem F.aT {n:Nat} : ∀ {ag:af} {aS:af} {r:af},G.aT n ag aS=some r->bG pZ 141 [.agg (wN ag),.agg (wN aS)] (.agg (wN r)):=F.Be n
theorem F.jZ {n:Nat} : ∀ {ag:af} {aS:af} {r:af × Bool},G.jZ n ag aS=some r->bG pZ 104 [.agg (wN ag),.agg (wN aS)] (.oq [(true,(wN r.1)),(false,[.c (.lit (.bool r.2))])]):=by
  intro ag aS r h
  refine aG K.jZ (kF ?_)
  unfold C.jZ
  rcases n with _ | n<;>simp only [G.jZ,reduceCtorEq] at h
  obtain ⟨zc,zg,zk,zu,ze,zj,zt⟩:=pp (pp @F.aH <| pp @F.aT <| pp @F.jC ()) <| pp () <| pp () <| pp () <| pp () <| pp () <| ()
  exact kN
theorem F.lG {n:Nat} : ∀ {tq:af} {bC:RequestT} {r:af × Bool},G.lG n tq bC=some r->bG pZ 66 [.agg (wN tq),.agg [wI bC.Method,wS bC.Name,wT bC.Want,wT bC.l7,wI bC.Body.Kind,wI bC.Body.Num,wS bC.Body.Text,wT bC.Body.Names,wK bC.Body.Kids,.c (.sl 8 (List.map lU.cells bC.Ops))]] (.oq [(true,(wN r.1)),(false,[.c (.lit (.bool r.2))])]):=by
  intro tq bC r h
  refine aG K.lG (kF ?_)
  unfold C.lG
  rcases n with _ | n<;>simp only [G.lG,reduceCtorEq] at h
  obtain ⟨zc,zg,zk,zu,ze,zj,zt⟩:=pp (pp @F.jM <| pp @F.jZ ()) <| pp () <| pp () <| pp () <| pp () <| pp () <| ()
  exact kN
theorem F.iT {n:Nat} : ∀ {ah:StoreT} {bC:RequestT} {tq:af} {xN:Bool} {r:StoreT × bn},G.iT n ah bC tq xN=some r->bG pZ 37 [.agg [.c (.sl 7 (List.map aB.cells ah.Items)),wI ah.Clock],.agg [wI bC.Method,wS bC.Name,wT bC.Want,wT bC.l7,wI bC.Body.Kind,wI bC.Body.Num,wS bC.Body.Text,wT bC.Body.Names,wK bC.Body.Kids,.c (.sl 8 (List.map lU.cells bC.Ops))],.agg (wN tq),.one (.c (.lit (.bool xN)))] (.oq [(true,[.c (.sl 7 (List.map aB.cells r.1.Items)),wI r.1.Clock]),(true,[wI r.2.Status,wS r.2.Tag,wI r.2.Version,wI r.2.Body.Kind,wI r.2.Body.Num,wS r.2.Body.Text,wT r.2.Body.Names,wK r.2.Body.Kids])]):=by
  intro ah bC tq xN r h
  refine aG K.iT (kF ?_)
  unfold C.iT
  rcases n with _ | n<;>simp only [G.iT,reduceCtorEq] at h
  obtain ⟨zc,zg,zk,zu,ze,zj,zt⟩:=pp (pp @F.lG <| pp @F.lD <| pp @F.lK <| pp @F.bf ()) <| pp () <| pp () <| pp () <| pp () <| pp () <| ()
  exact kN
theorem F.kz {n:Nat} : ∀ {bC:RequestT} {r:Bool},G.kz n bC=some r->bG pZ 27 [.agg [wI bC.Method,wS bC.Name,wT bC.Want,wT bC.l7,wI bC.Body.Kind,wI bC.Body.Num,wS bC.Body.Text,wT bC.Body.Names,wK bC.Body.Kids,.c (.sl 8 (List.map lU.cells bC.Ops))]] (.one (.c (.lit (.bool r)))):=by
  intro bC r h
  refine aG K.kz (kF ?_)
  unfold C.kz
  rcases n with _ | n<;>simp only [G.kz,reduceCtorEq] at h
  obtain ⟨zc,zg,zk,zu,ze,zj,zt⟩:=pp (pp @F.fK <| pp @F.fG <| pp @F.aH <| pp @F.di ()) <| pp () <| pp () <| pp () <| pp () <| pp () <| ()
  exact kN
theorem F.bz {n:Nat} : ∀ {ah:StoreT} {bC:RequestT} {r:StoreT × bn},G.bz n ah bC=some r->bG pZ 15 [.agg [.c (.sl 7 (List.map aB.cells ah.Items)),wI ah.Clock],.agg [wI bC.Method,wS bC.Name,wT bC.Want,wT bC.l7,wI bC.Body.Kind,wI bC.Body.Num,wS bC.Body.Text,wT bC.Body.Names,wK bC.Body.Kids,.c (.sl 8 (List.map lU.cells bC.Ops))]] (.oq [(true,[.c (.sl 7 (List.map aB.cells r.1.Items)),wI r.1.Clock]),(true,[wI r.2.Status,wS r.2.Tag,wI r.2.Version,wI r.2.Body.Kind,wI r.2.Body.Num,wS r.2.Body.Text,wT r.2.Body.Names,wK r.2.Body.Kids])]):=by
  intro ah bC r h
  refine aG K.bz (kF ?_)
  unfold C.bz
  rcases n with _ | n<;>simp only [G.bz,reduceCtorEq] at h
  have:=Mk.mk 1; have:=Mk.mk 2
  obtain ⟨zc,zg,zk,zu,ze,zj,zt,zq⟩:=pp (pp @F.aW <| pp @F.kz <| pp @F.lC <| pp @F.lK <| pp @F.gm <| pp @F.bf <| pp @F.jP <| pp @F.iT ()) <| pp () <| pp () <| pp (pp (@pO ((aB × Bool) × aC) _ (fun n x=>G.bz.K1 n ah bC x.1 x.2) r (fun x=>cu.of [eP 2 101,eP 3 102,eP 4 103,eP 5 104,eP 6 105,(7,.v true (.one (.c (.lit (.bool true))))),eS 8 x.2] [(101,.var [.c (.sl 7 (List.map aB.cells ah.Items)),wI ah.Clock]),(102,.var [wI bC.Method,wS bC.Name,wT bC.Want,wT bC.l7,wI bC.Body.Kind,wI bC.Body.Num,wS bC.Body.Text,wT bC.Body.Names,wK bC.Body.Kids,.c (.sl 8 (List.map lU.cells bC.Ops))]),(103,.var [.fU 7,wI 0]),(104,.var [wI 0,.c (.str []),wI 0,wI 0,wI 0,.c (.str []),.fU 1,.fU 5]),(105,.var [wS x.1.1.Name,wI x.1.1.Version,wI x.1.1.Node.Kind,wI x.1.1.Node.Num,wS x.1.1.Node.Text,wT x.1.1.Node.Names,wK x.1.1.Node.Kids])])) <| pp (@pO ((aB × Bool)) _ (fun n x=>G.bz.K2 n ah bC x) r (fun x=>cu.of [eP 2 106,eP 3 107,eP 4 108,eP 5 109,eP 6 110,(7,.v true (.one (.c (.lit (.bool false))))),(8,.v true (.one (.c (.str [])))),(37,.v true (.one (.c (.lit (.bool false)))))] [(106,.var [.c (.sl 7 (List.map aB.cells ah.Items)),wI ah.Clock]),(107,.var [wI bC.Method,wS bC.Name,wT bC.Want,wT bC.l7,wI bC.Body.Kind,wI bC.Body.Num,wS bC.Body.Text,wT bC.Body.Names,wK bC.Body.Kids,.c (.sl 8 (List.map lU.cells bC.Ops))]),(108,.var [.fU 7,wI 0]),(109,.var [wI 0,.c (.str []),wI 0,wI 0,wI 0,.c (.str []),.fU 1,.fU 5]),(110,.var [wS x.1.Name,wI x.1.Version,wI x.1.Node.Kind,wI x.1.Node.Num,wS x.1.Node.Text,wT x.1.Node.Names,wK x.1.Node.Kids])])) ()) <| pp (pp (And.intro @G.bz.K1.eq_1 <| And.intro @G.bz.K1.eq_2 <| And.intro @G.bz.K2.eq_1 <| @G.bz.K2.eq_2) ()) <| pp (pp (@bg [] [(101,10),(102,11),(103,12),(104,13),(105,14)] []) <| pp (@bg [] [(106,10),(107,11),(108,12),(109,13),(110,14)] []) ()) <| pp () <| (pp (pp (rfl : @G.bz.K1=_) ()) <| pp (pp (rfl : @G.bz.K2=_) ()) ())
  exact OZ
theorem F.YT {n:Nat} : ∀ {vO:Int} {r:Bool},G.YT n vO=some r->bG pZ 39 [.one (wI vO)] (.one (.c (.lit (.bool r)))):=by
  intro vO r h
  refine aG K.YT (kF ?_)
  unfold C.YT
  rcases n with _ | n<;>simp only [G.YT,reduceCtorEq] at h
  obtain ⟨zc,zg,zk,zu,ze,zj,zt⟩:=pp () <| pp () <| pp () <| pp () <| pp () <| pp () <| ()
  exact kN
theorem F.YP {n:Nat} : ∀ {ah:StoreT} {bC:RequestT} {r:Bool},G.YP n ah bC=some r->bG pZ 18 [.agg [.c (.sl 7 (List.map aB.cells ah.Items)),wI ah.Clock],.agg [wI bC.Method,wS bC.Name,wT bC.Want,wT bC.l7,wI bC.Body.Kind,wI bC.Body.Num,wS bC.Body.Text,wT bC.Body.Names,wK bC.Body.Kids,.c (.sl 8 (List.map lU.cells bC.Ops))]] (.one (.c (.lit (.bool r)))):=by
  intro ah bC r h
  refine aG K.YP (kF ?_)
  unfold C.YP
  rcases n with _ | n<;>simp only [G.YP,reduceCtorEq] at h
  obtain ⟨zc,zg,zk,zu,ze,zj,zt⟩:=pp (pp @F.bz <| pp @F.YT ()) <| pp () <| pp () <| pp () <| pp () <| pp () <| ()
  exact kN
theorem F.eu {n:Nat} : ∀ {dF:List aC} {dI:List aC} {r:Bool},G.eu n dF dI=some r->bG pZ 80 [.one (wT dF),.one (wT dI)] (.one (.c (.lit (.bool r)))):=by
  intro dF dI r h
  refine aG K.eu (kF ?_)
  unfold C.eu
  rcases n with _ | n<;>simp only [G.eu,reduceCtorEq] at h
  obtain ⟨zc,zg,zk,zu,ze,zj,zt⟩:=pp () <| pp () <| pp (pp (@lS (Int) _ (fun n x=>G.eu.L1 n dF dI x) r (fun x=>cu.of [eT 0 dF,eT 1 dI,eI 5 x] [])) ()) <| pp () <| pp (pp (And.intro @G.eu.L1.eq_1 <| @G.eu.L1.eq_2) ()) <| pp (pp (@bg [] [] []) ()) <| ()
  exact kN
theorem F.Ad:∀ (n:Nat),(∀ {dF:af} {dI:af} {r:Bool},G.gU n dF dI=some r->bG pZ 46 [.agg (wN dF),.agg (wN dI)] (.one (.c (.lit (.bool r)))))/\(∀ {dF:List af} {dI:List af} {r:Bool},G.fQ n dF dI=some r->bG pZ 81 [.one (wK dF),.one (wK dI)] (.one (.c (.lit (.bool r))))):=by
  intro n
  induction n using Nat.strongRecOn with | _ n ih =>
  refine ⟨?_,?_⟩
  · intro dF dI r h
    refine aG K.gU (kF ?_)
    unfold C.gU
    rcases n with _ | n<;>simp only [G.gU,reduceCtorEq] at h
    obtain ⟨zc,zg,zk,zu,ze,zj,zt⟩:=pp (pp ((ihR ih)) <| pp @F.eu ()) <| pp () <| pp () <| pp () <| pp () <| pp () <| ()
    exact kN
  · intro dF dI r h
    refine aG K.fQ (kF ?_)
    unfold C.fQ
    rcases n with _ | n<;>simp only [G.fQ,reduceCtorEq] at h
    obtain ⟨zc,zg,zk,zu,ze,zj,zt⟩:=pp (pp ((ihL ih)) ()) <| pp () <| pp (pp (@lS (Int) _ (fun n x=>G.fQ.L1 n dF dI x) r (fun x=>cu.of [(0,.v true (.one (wK dF))),(1,.v true (.one (wK dI))),eI 5 x] [])) ()) <| pp () <| pp (pp (And.intro @G.fQ.L1.eq_1 <| @G.fQ.L1.eq_2) ()) <| pp (pp (@bg [] [] []) ()) <| ()
    exact kN
theorem F.gU {n:Nat} : ∀ {dF:af} {dI:af} {r:Bool},G.gU n dF dI=some r->bG pZ 46 [.agg (wN dF),.agg (wN dI)] (.one (.c (.lit (.bool r)))):=(F.Ad n).1
theorem F.iF {n:Nat} : ∀ {dF:bn} {dI:bn} {r:Bool},G.iF n dF dI=some r->bG pZ 23 [.agg [wI dF.Status,wS dF.Tag,wI dF.Version,wI dF.Body.Kind,wI dF.Body.Num,wS dF.Body.Text,wT dF.Body.Names,wK dF.Body.Kids],.agg [wI dI.Status,wS dI.Tag,wI dI.Version,wI dI.Body.Kind,wI dI.Body.Num,wS dI.Body.Text,wT dI.Body.Names,wK dI.Body.Kids]] (.one (.c (.lit (.bool r)))):=by
  intro dF dI r h
  refine aG K.iF (kF ?_)
  unfold C.iF
  rcases n with _ | n<;>simp only [G.iF,reduceCtorEq] at h
  obtain ⟨zc,zg,zk,zu,ze,zj,zt⟩:=pp (pp @F.gU ()) <| pp () <| pp () <| pp () <| pp () <| pp () <| ()
  exact kN
theorem F.gI {n:Nat} : ∀ {dF:List aB} {dI:List aB} {r:Bool},G.gI n dF dI=some r->bG pZ 38 [.one (.c (.sl 7 (List.map aB.cells dF))),.one (.c (.sl 7 (List.map aB.cells dI)))] (.one (.c (.lit (.bool r)))):=by
  intro dF dI r h
  refine aG K.gI (kF ?_)
  unfold C.gI
  rcases n with _ | n<;>simp only [G.gI,reduceCtorEq] at h
  obtain ⟨zc,zg,zk,zu,ze,zj,zt⟩:=pp (pp @F.gU ()) <| pp () <| pp (pp (@lS (Int) _ (fun n x=>G.gI.L1 n dF dI x) r (fun x=>cu.of [(0,.v true (.one (.c (.sl 7 (List.map aB.cells dF))))),(1,.v true (.one (.c (.sl 7 (List.map aB.cells dI))))),eI 5 x] [])) ()) <| pp () <| pp (pp (And.intro @G.gI.L1.eq_1 <| @G.gI.L1.eq_2) ()) <| pp (pp (@bg [] [] []) ()) <| ()
  exact kN
theorem F.iy {n:Nat} : ∀ {dF:StoreT} {dI:StoreT} {r:Bool},G.iy n dF dI=some r->bG pZ 16 [.agg [.c (.sl 7 (List.map aB.cells dF.Items)),wI dF.Clock],.agg [.c (.sl 7 (List.map aB.cells dI.Items)),wI dI.Clock]] (.one (.c (.lit (.bool r)))):=by
  intro dF dI r h
  refine aG K.iy (kF ?_)
  unfold C.iy
  rcases n with _ | n<;>simp only [G.iy,reduceCtorEq] at h
  obtain ⟨zc,zg,zk,zu,ze,zj,zt⟩:=pp (pp @F.gI ()) <| pp () <| pp () <| pp () <| pp () <| pp () <| ()
  exact kN
theorem F.D7:∀ (n:Nat),∀ {ag:af} {r:af},G.au n ag=some r->bG pZ 71 [.agg (wN ag)] (.agg (wN r)):=by
  intro n
  induction n using Nat.strongRecOn with | _ n ih =>
  intro ag r h
  refine aG K.au (kF ?_)
  unfold C.au
  rcases n with _ | n<;>simp only [G.au,reduceCtorEq] at h
  obtain ⟨zc,zg,zk,zu,ze,zj,zt⟩:=pp (pp ih ()) <| pp () <| pp (pp (@lS (Int × List af) _ (fun n x=>G.au.L1 n ag x.1 x.2) r (fun x=>cu.of [eP 1 107,eP 2 108,(3,.v true (.one (.own 109 x.2.length 5))),eI 4 x.1] [(107,.var (wN ag)),(108,.var zN),(109,.dat 5 (List.map af.cells x.2))])) ()) <| pp () <| pp (pp (And.intro @G.au.L1.eq_1 <| @G.au.L1.eq_2) ()) <| pp (pp (@bg [] [(107,10),(108,11),(109,12)] []) <| pp (@bg [] [(107,107),(108,108),(109,14)] []) ()) <| ()
  exact kN
theorem F.au {n:Nat} : ∀ {ag:af} {r:af},G.au n ag=some r->bG pZ 71 [.agg (wN ag)] (.agg (wN r)):=F.D7 n
theorem F.ru {n:Nat} : ∀ {ag:af} {r:af},G.au n ag=some r->eF pZ 71 [.agg (wN ag)] [] (fun r1 b1=>r1 = .agg [wI r.Kind,wI r.Num,wS r.Text,.own 0 r.Names.length 1,.own 1 r.Kids.length 5]/\b1=[.dat 1 (List.map cS r.Names),.dat 5 (List.map af.cells r.Kids)]):=by
  intro ag r h
  refine dA K.au (kF ?_)
  unfold C.au
  rcases n with _ | n<;>simp only [G.au,reduceCtorEq] at h
  obtain ⟨zc,zg,zk,zu,ze,zj,zt⟩:=pp (pp @F.au ()) <| pp () <| pp (pp (@lS (Int × List af) _ (fun n x=>G.au.L1 n ag x.1 x.2) r (fun x=>cu.of [eP 1 107,eP 2 108,(3,.v true (.one (.own 109 x.2.length 5))),eI 4 x.1] [(107,.var (wN ag)),(108,.var zN),(109,.dat 5 (List.map af.cells x.2))])) ()) <| pp () <| pp (pp (And.intro @G.au.L1.eq_1 <| @G.au.L1.eq_2) ()) <| pp (pp (@bg [] [(107,10),(108,11),(109,12)] []) <| pp (@bg [] [(107,107),(108,108),(109,14)] []) ()) <| (pp (@lT [] [(0,16),(1,109)] []) ())
  exact kN
theorem F.ay {n:Nat} : ∀ {bQ:ReaderT} {ag:Int} {r:Int × ReaderT},G.ay n bQ ag=some r->eF pZ 48 [.one (.ptr 0 0),.one (wI ag)] [.var [.c (.sl 1 (List.map cU bQ.b)),wI bQ.p]] (fun r1 b1=>r1 = .one (wI r.1)/\b1=[.var [.c (.sl 1 (List.map cU r.2.b)),wI r.2.p]]):=by
  intro bQ ag r h
  refine dA K.ay (kF ?_)
  unfold C.ay
  rcases n with _ | n<;>simp only [G.ay,reduceCtorEq] at h
  obtain ⟨zc,zg,zk,zu,ze,zj,zt⟩:=pp () <| pp () <| pp () <| pp () <| pp () <| pp () <| (pp (@lT [] [(0,0)] []) ())
  exact kN
theorem F.bZ {n:Nat} : ∀ {bQ:ReaderT} {aA:List Int} {r:Int × ReaderT},G.bZ n bQ aA=some r->eF pZ 49 [.one (.ptr 0 0),.one (.c (.sl 1 (List.map cI aA)))] [.var [.c (.sl 1 (List.map cU bQ.b)),wI bQ.p]] (fun r1 b1=>r1 = .one (wI r.1)/\b1=[.var [.c (.sl 1 (List.map cU r.2.b)),wI r.2.p]]):=by
  intro bQ aA r h
  refine dA K.bZ (kF ?_)
  unfold C.bZ
  rcases n with _ | n<;>simp only [G.bZ,reduceCtorEq] at h
  obtain ⟨zc,zg,zk,zu,ze,zj,zt⟩:=pp () <| pp (pp (pp @F.ay (@cG [0] [])) ()) <| pp () <| pp () <| pp () <| pp () <| (pp (@lT [] [(0,0)] []) ())
  exact kN
theorem F.FU:∀ (n:Nat),∀ {ag:Int} {r:aC},G.gB n ag=some r->bG pZ 142 [.one (wI ag)] (.one (wS r)):=by
  intro n
  induction n using Nat.strongRecOn with | _ n ih =>
  intro ag r h
  refine aG K.gB (kF ?_)
  unfold C.gB
  rcases n with _ | n<;>simp only [G.gB,reduceCtorEq] at h
  obtain ⟨zc,zg,zk,zu,ze,zj,zt⟩:=pp (pp ih ()) <| pp () <| pp () <| pp () <| pp () <| pp () <| ()
  exact kN
theorem F.gB {n:Nat} : ∀ {ag:Int} {r:aC},G.gB n ag=some r->bG pZ 142 [.one (wI ag)] (.one (wS r)):=F.FU n
theorem F.dD {n:Nat} : ∀ {ag:af} {dZ:aC} {r:Int},G.dD n ag dZ=some r->bG pZ 145 [.agg (wN ag),.one (wS dZ)] (.one (wI r)):=by
  intro ag dZ r h
  refine aG K.dD (kF ?_)
  unfold C.dD
  rcases n with _ | n<;>simp only [G.dD,reduceCtorEq] at h
  obtain ⟨zc,zg,zk,zu,ze,zj,zt⟩:=pp (pp @F.gB ()) <| pp () <| pp (pp (@lS (Int) _ (fun n x=>G.dD.L1 n ag dZ x) r (fun x=>cu.of [eS 1 dZ,eP 2 103,eI 5 x] [(103,.var (wN ag))])) ()) <| pp () <| pp (pp (And.intro @G.dD.L1.eq_1 <| @G.dD.L1.eq_2) ()) <| pp (pp (@bg [] [(103,10)] []) <| pp (@bg [] [(103,103)] []) ()) <| ()
  exact kN
theorem F.ig {n:Nat} : ∀ {ag:af} {dZ:aC} {r:Int × Bool},G.ig n ag dZ=some r->bG pZ 163 [.agg (wN ag),.one (wS dZ)] (.oq [(false,[wI r.1]),(false,[.c (.lit (.bool r.2))])]):=by
  intro ag dZ r h
  refine aG K.ig (kF ?_)
  unfold C.ig
  rcases n with _ | n<;>simp only [G.ig,reduceCtorEq] at h
  obtain ⟨zc,zg,zk,zu,ze,zj,zt⟩:=pp (pp @F.dD <| pp @F.gB ()) <| pp () <| pp (pp (@lS (Int) _ (fun n x=>G.ig.L1 n ag dZ x) r (fun x=>cu.of [eS 1 dZ,eP 2 103,eI 7 x] [(103,.var (wN ag))])) <| pp (@lS (Int) _ (fun n x=>G.ig.L2 n ag dZ x) r (fun x=>cu.of [eS 1 dZ,eP 2 106,eI 7 x] [(106,.var (wN ag))])) ()) <| pp () <| pp (pp (And.intro @G.ig.L1.eq_1 <| And.intro @G.ig.L1.eq_2 <| And.intro @G.ig.L2.eq_1 <| @G.ig.L2.eq_2) ()) <| pp (pp (@bg [] [(103,10)] []) <| pp (@bg [] [(103,103)] []) <| pp (@bg [] [(106,10)] []) <| pp (@bg [] [(106,106)] []) ()) <| ()
  exact kN
theorem F.iL {n:Nat} : ∀ {ag:af} {Ez:Int} {wR:af} {r:af},G.iL n ag Ez wR=some r->bG pZ 146 [.agg (wN ag),.one (wI Ez),.agg (wN wR)] (.agg (wN r)):=by
  intro ag Ez wR r h
  refine aG K.iL (kF ?_)
  unfold C.iL
  rcases n with _ | n<;>simp only [G.iL,reduceCtorEq] at h
  obtain ⟨zc,zg,zk,zu,ze,zj,zt⟩:=pp () <| pp (pp (pp @F.ru (@cG [] [101,102])) <| pp (pp @F.ru (@cG [] [103,104])) ()) <| pp () <| pp () <| pp () <| pp () <| ()
  exact kN
theorem F.FV {n:Nat} : ∀ {ag:af} {Ez:Int} {wR:af} {r:af},G.iL n ag Ez wR=some r->eF pZ 146 [.agg (wN ag),.one (wI Ez),.agg (wN wR)] [] (fun r1 b1=>r1 = .agg [wI r.Kind,wI r.Num,wS r.Text,.own 0 r.Names.length 1,.own 1 r.Kids.length 5]/\b1=[.dat 1 (List.map cS r.Names),.dat 5 (List.map af.cells r.Kids)]):=by
  intro ag Ez wR r h
  refine dA K.iL (kF ?_)
  unfold C.iL
  rcases n with _ | n<;>simp only [G.iL,reduceCtorEq] at h
  obtain ⟨zc,zg,zk,zu,ze,zj,zt⟩:=pp () <| pp (pp (pp @F.ru (@cG [] [101,102])) <| pp (pp @F.ru (@cG [] [103,104])) ()) <| pp () <| pp () <| pp () <| pp () <| (pp (@lT [] [(0,101),(1,102)] []) ())
  exact kN
theorem F.gZ {n:Nat} : ∀ {ag:af} {dZ:aC} {bU:af} {r:af × Bool},G.gZ n ag dZ bU=some r->bG pZ 147 [.agg (wN ag),.one (wS dZ),.agg (wN bU)] (.oq [(true,(wN r.1)),(false,[.c (.lit (.bool r.2))])]):=by
  intro ag dZ bU r h
  refine aG K.gZ (kF ?_)
  unfold C.gZ
  rcases n with _ | n<;>simp only [G.gZ,reduceCtorEq] at h
  obtain ⟨zc,zg,zk,zu,ze,zj,zt⟩:=pp (pp @F.ig <| pp @F.iL <| pp @F.au ()) <| pp () <| pp () <| pp () <| pp () <| pp () <| ()
  exact kN
theorem F.FP {n:Nat} : ∀ {ag:af} {dZ:aC} {bU:af} {r:af × Bool},G.gZ n ag dZ bU=some r->eF pZ 147 [.agg (wN ag),.one (wS dZ),.agg (wN bU)] [] (fun r1 b1=>r1 = .oq [(true,[wI r.1.Kind,wI r.1.Num,wS r.1.Text,.own 0 r.1.Names.length 1,.own 1 r.1.Kids.length 5]),(false,[.c (.lit (.bool r.2))])]/\b1=[.dat 1 (List.map cS r.1.Names),.dat 5 (List.map af.cells r.1.Kids)]):=by
  intro ag dZ bU r h
  refine dA K.gZ (kF ?_)
  unfold C.gZ
  rcases n with _ | n<;>simp only [G.gZ,reduceCtorEq] at h
  obtain ⟨zc,zg,zk,zu,ze,zj,zt⟩:=pp (pp @F.ig <| pp @F.au ()) <| pp (pp (pp @F.FV (@cG [] [101,102])) ()) <| pp () <| pp () <| pp () <| pp () <| (pp (@lT [] [] [0,1]) <| pp (@lT [] [(0,101),(1,102)] []) <| pp (@lT [] [(0,19),(1,18)] []) <| pp (@lT [] [(0,24),(1,18)] []) ())
  exact kN
theorem F.dN {n:Nat} : ∀ {bQ:ReaderT} {aA:List aC} {r:aC × ReaderT},G.dN n bQ aA=some r->eF pZ 89 [.one (.ptr 0 0),.one (wT aA)] [.var [.c (.sl 1 (List.map cU bQ.b)),wI bQ.p]] (fun r1 b1=>r1 = .one (wS r.1)/\b1=[.var [.c (.sl 1 (List.map cU r.2.b)),wI r.2.p]]):=by
  intro bQ aA r h
  refine dA K.dN (kF ?_)
  unfold C.dN
  rcases n with _ | n<;>simp only [G.dN,reduceCtorEq] at h
  obtain ⟨zc,zg,zk,zu,ze,zj,zt⟩:=pp () <| pp (pp (pp @F.ay (@cG [0] [])) ()) <| pp () <| pp () <| pp () <| pp () <| (pp (@lT [] [(0,0)] []) ())
  exact kN
theorem F.lq {n:Nat} : ∀ {bQ:ReaderT} {r:aC × ReaderT},G.lq n bQ=some r->eF pZ 149 [.one (.ptr 0 0)] [.var [.c (.sl 1 (List.map cU bQ.b)),wI bQ.p]] (fun r1 b1=>r1 = .one (wS r.1)/\b1=[.var [.c (.sl 1 (List.map cU r.2.b)),wI r.2.p]]):=by
  intro bQ r h
  refine dA K.lq (kF ?_)
  unfold C.lq
  rcases n with _ | n<;>simp only [G.lq,reduceCtorEq] at h
  obtain ⟨zc,zg,zk,zu,ze,zj,zt⟩:=pp () <| pp (pp (pp @F.dN (@cH [0] [])) ()) <| pp () <| pp () <| pp () <| pp () <| (pp (@lT [] [(0,0)] []) ())
  exact kN
theorem F.lg {n:Nat} : ∀ {bQ:ReaderT} {r:aC × ReaderT},G.lg n bQ=some r->eF pZ 150 [.one (.ptr 0 0)] [.var [.c (.sl 1 (List.map cU bQ.b)),wI bQ.p]] (fun r1 b1=>r1 = .one (wS r.1)/\b1=[.var [.c (.sl 1 (List.map cU r.2.b)),wI r.2.p]]):=by
  intro bQ r h
  refine dA K.lg (kF ?_)
  unfold C.lg
  rcases n with _ | n<;>simp only [G.lg,reduceCtorEq] at h
  obtain ⟨zc,zg,zk,zu,ze,zj,zt⟩:=pp () <| pp (pp (pp @F.dN (@cH [0] [])) ()) <| pp () <| pp () <| pp () <| pp () <| (pp (@lT [] [(0,0)] []) ())
  exact kN
theorem F.uI:∀ (n:Nat),(∀ {bQ:ReaderT} {aY:Int} {r:af × ReaderT},G.bY n bQ aY=some r->eF pZ 118 [.one (.ptr 0 0),.one (wI aY)] [.var [.c (.sl 1 (List.map cU bQ.b)),wI bQ.p]] (fun r1 b1=>r1 = .agg (wN r.1)/\b1=[.var [.c (.sl 1 (List.map cU r.2.b)),wI r.2.p]]))/\(∀ {bQ:ReaderT} {aY:Int} {r:af × ReaderT},G.aK n bQ aY=some r->eF pZ 117 [.one (.ptr 0 0),.one (wI aY)] [.var [.c (.sl 1 (List.map cU bQ.b)),wI bQ.p]] (fun r1 b1=>r1 = .agg (wN r.1)/\b1=[.var [.c (.sl 1 (List.map cU r.2.b)),wI r.2.p]])):=by
  intro n
  induction n using Nat.strongRecOn with | _ n ih =>
  refine ⟨?_,?_⟩
  · intro bQ aY r h
    refine dA K.bY (kF ?_)
    unfold C.bY
    rcases n with _ | n<;>simp only [G.bY,reduceCtorEq] at h
    obtain ⟨zc,zg,zk,zu,ze,zj,zt⟩:=pp (pp @F.dD <| pp @F.gZ ()) <| pp (pp (pp (ihR ih) (@cG [0] [])) <| pp (pp @F.bZ (@cH [0] [])) <| pp (pp @F.lg (@cG [0] [])) ()) <| pp (pp (@lS (Int × List Int × Int × Int × Int × aC × List aC × List af) _ (fun n x=>G.bY.L1 n aY x.1 x.2.1 x.2.2.1 x.2.2.2.1 x.2.2.2.2.1 x.2.2.2.2.2.1 x.2.2.2.2.2.2.1 x.2.2.2.2.2.2.2) r (fun x=>cu.of [eP 0 0,eI 1 aY,eP 4 107,eP 5 108,eI 6 x.1] [(0,.var [.c (.sl 1 (List.map cU x.2.1)),wI x.2.2.1]),(107,.var zN),(108,.var [wI x.2.2.2.1,wI x.2.2.2.2.1,wS x.2.2.2.2.2.1,wT x.2.2.2.2.2.2.1,wK x.2.2.2.2.2.2.2])])) ()) <| pp () <| pp (pp (And.intro @G.bY.L1.eq_1 <| @G.bY.L1.eq_2) ()) <| pp (pp (@bg [11,12] [(0,0),(107,10),(108,13)] []) <| pp (@bg [] [(0,0),(107,107),(108,108)] []) ()) <| (pp (@lT [] [(0,0)] []) ())
    exact kN
  · intro bQ aY r h
    refine dA K.aK (kF ?_)
    unfold C.aK
    rcases n with _ | n<;>simp only [G.aK,reduceCtorEq] at h
    obtain ⟨zc,zg,zk,zu,ze,zj,zt⟩:=pp () <| pp (pp (pp (ihR ih) (@cG [0] [])) <| pp (pp (ihL ih) (@cG [0] [])) <| pp (pp @F.ay (@cG [0] [])) <| pp (pp @F.bZ (@cH [0] [])) <| pp (pp @F.lq (@cG [0] [])) ()) <| pp (pp (@lS (Int × Int × List Int × Int × List af) _ (fun n x=>G.aK.L2 n aY x.1 x.2.1 x.2.2.1 x.2.2.2.1 x.2.2.2.2) r (fun x=>cu.of [eP 0 0,eI 1 aY,eP 4 106,eI 5 x.1,(6,.v true (.one (.own 107 x.2.2.2.2.length 5))),eI 7 x.2.1] [(0,.var [.c (.sl 1 (List.map cU x.2.2.1)),wI x.2.2.2.1]),(106,.var zN),(107,.dat 5 (List.map af.cells x.2.2.2.2))])) ()) <| pp (pp (@pO (Int × List Int × Int) _ (fun n x=>G.aK.K1 n aY x.1 x.2.1 x.2.2) r (fun x=>cu.of [eP 0 0,eI 1 aY,eP 4 101,eI 5 x.1] [(0,.var [.c (.sl 1 (List.map cU x.2.1)),wI x.2.2]),(101,.var zN)])) ()) <| pp (pp (And.intro @G.aK.K1.eq_1 <| And.intro @G.aK.K1.eq_2 <| And.intro @G.aK.L2.eq_1 <| @G.aK.L2.eq_2) ()) <| pp (pp (@bg [] [(0,0),(101,10)] []) <| pp (@bg [] [(0,0),(106,101),(107,12)] []) <| pp (@bg [] [(0,0),(106,106),(107,14)] []) ()) <| (pp (@lT [] [(0,0)] []) <| pp (@lT [15,107] [(0,0)] []) ())
    exact kN
theorem F.bY {n:Nat} : ∀ {bQ:ReaderT} {aY:Int} {r:af × ReaderT},G.bY n bQ aY=some r->eF pZ 118 [.one (.ptr 0 0),.one (wI aY)] [.var [.c (.sl 1 (List.map cU bQ.b)),wI bQ.p]] (fun r1 b1=>r1 = .agg (wN r.1)/\b1=[.var [.c (.sl 1 (List.map cU r.2.b)),wI r.2.p]]):=(F.uI n).1
theorem F.aK {n:Nat} : ∀ {bQ:ReaderT} {aY:Int} {r:af × ReaderT},G.aK n bQ aY=some r->eF pZ 117 [.one (.ptr 0 0),.one (wI aY)] [.var [.c (.sl 1 (List.map cU bQ.b)),wI bQ.p]] (fun r1 b1=>r1 = .agg (wN r.1)/\b1=[.var [.c (.sl 1 (List.map cU r.2.b)),wI r.2.p]]):=(F.uI n).2
theorem F.wF {n:Nat} : ∀ {bQ:ReaderT} {aY:Int} {r:af × ReaderT},G.bY n bQ aY=some r->eF pZ 118 [.one (.ptr 0 0),.one (wI aY)] [.var [.c (.sl 1 (List.map cU bQ.b)),wI bQ.p]] (fun r1 b1=>r1 = .agg [wI r.1.Kind,wI r.1.Num,wS r.1.Text,.own 1 r.1.Names.length 1,.own 2 r.1.Kids.length 5]/\b1=[.var [.c (.sl 1 (List.map cU r.2.b)),wI r.2.p],.dat 1 (List.map cS r.1.Names),.dat 5 (List.map af.cells r.1.Kids)]):=by
  intro bQ aY r h
  refine dA K.bY (kF ?_)
  unfold C.bY
  rcases n with _ | n<;>simp only [G.bY,reduceCtorEq] at h
  obtain ⟨zc,zg,zk,zu,ze,zj,zt⟩:=pp (pp @F.dD ()) <| pp (pp (pp @F.bZ (@cH [0] [])) <| pp (pp @F.lg (@cG [0] [])) <| pp (pp @F.aK (@cG [0] [])) <| pp (pp @F.FP (@cH [] [117,118])) ()) <| pp (pp (@lS (Int × List Int × Int × Int × Int × aC × List aC × List af) _ (fun n x=>G.bY.L1 n aY x.1 x.2.1 x.2.2.1 x.2.2.2.1 x.2.2.2.2.1 x.2.2.2.2.2.1 x.2.2.2.2.2.2.1 x.2.2.2.2.2.2.2) r (fun x=>cu.of [eP 0 0,eI 1 aY,eP 4 113,eP 5 114,eI 6 x.1] [(0,.var [.c (.sl 1 (List.map cU x.2.1)),wI x.2.2.1]),(113,.var zN),(114,.var [wI x.2.2.2.1,wI x.2.2.2.2.1,wS x.2.2.2.2.2.1,.own 115 x.2.2.2.2.2.2.1.length 1,.own 116 x.2.2.2.2.2.2.2.length 5]),(115,.dat 1 (List.map cS x.2.2.2.2.2.2.1)),(116,.dat 5 (List.map af.cells x.2.2.2.2.2.2.2))])) ()) <| pp () <| pp (pp (And.intro @G.bY.L1.eq_1 <| @G.bY.L1.eq_2) ()) <| pp (pp (@bg [] [(0,0),(113,10),(114,13),(115,11),(116,12)] []) <| pp (@bg [] [(0,0),(113,113),(114,114),(115,117),(116,118)] []) <| pp (@bg [] [(0,0),(113,113),(114,114),(115,115),(116,116)] []) ()) <| (pp (@lT [] [(0,0),(1,115),(2,116)] []) ())
  exact kN
theorem F.BG {n:Nat} : ∀ {bQ:ReaderT} {aY:Int} {r:af × ReaderT},G.aK n bQ aY=some r->eF pZ 117 [.one (.ptr 0 0),.one (wI aY)] [.var [.c (.sl 1 (List.map cU bQ.b)),wI bQ.p]] (fun r1 b1=>r1 = .agg [wI r.1.Kind,wI r.1.Num,wS r.1.Text,.own 1 r.1.Names.length 1,.own 2 r.1.Kids.length 5]/\b1=[.var [.c (.sl 1 (List.map cU r.2.b)),wI r.2.p],.dat 1 (List.map cS r.1.Names),.dat 5 (List.map af.cells r.1.Kids)]):=by
  intro bQ aY r h
  refine dA K.aK (kF ?_)
  unfold C.aK
  rcases n with _ | n<;>simp only [G.aK,reduceCtorEq] at h
  obtain ⟨zc,zg,zk,zu,ze,zj,zt⟩:=pp () <| pp (pp (pp @F.ay (@cG [0] [])) <| pp (pp @F.bZ (@cH [0] [])) <| pp (pp @F.lq (@cG [0] [])) <| pp (pp @F.aK (@cG [0] [])) <| pp (pp @F.wF (@cG [0] [108,109])) ()) <| pp (pp (@lS (Int × Int × List Int × Int × List af) _ (fun n x=>G.aK.L2 n aY x.1 x.2.1 x.2.2.1 x.2.2.2.1 x.2.2.2.2) r (fun x=>cu.of [eP 0 0,eI 1 aY,eP 4 106,eI 5 x.1,(6,.v true (.one (.own 107 x.2.2.2.2.length 5))),eI 7 x.2.1] [(0,.var [.c (.sl 1 (List.map cU x.2.2.1)),wI x.2.2.2.1]),(106,.var zN),(107,.dat 5 (List.map af.cells x.2.2.2.2))])) ()) <| pp (pp (@pO (Int × List Int × Int) _ (fun n x=>G.aK.K1 n aY x.1 x.2.1 x.2.2) r (fun x=>cu.of [eP 0 0,eI 1 aY,eP 4 101,eI 5 x.1] [(0,.var [.c (.sl 1 (List.map cU x.2.1)),wI x.2.2]),(101,.var zN)])) ()) <| pp (pp (And.intro @G.aK.K1.eq_1 <| And.intro @G.aK.K1.eq_2 <| And.intro @G.aK.L2.eq_1 <| @G.aK.L2.eq_2) ()) <| pp (pp (@bg [] [(0,0),(101,10)] []) <| pp (@bg [] [(0,0),(106,101),(107,12)] []) <| pp (@bg [] [(0,0),(106,106),(107,14)] []) ()) <| (pp (@lT [] [(0,0)] [1,2]) <| pp (@lT [] [(0,0),(1,15),(2,107)] []) <| pp (@lT [] [(0,0),(1,108),(2,109)] []) ())
  exact kN
theorem F.Jg:∀ (n:Nat),∀ {ag:af} {r:Int},G.iV n ag=some r->bG pZ 93 [.agg (wN ag)] (.one (wI r)):=by
  intro n
  induction n using Nat.strongRecOn with | _ n ih =>
  intro ag r h
  refine aG K.iV (kF ?_)
  unfold C.iV
  rcases n with _ | n<;>simp only [G.iV,reduceCtorEq] at h
  obtain ⟨zc,zg,zk,zu,ze,zj,zt⟩:=pp (pp ih ()) <| pp () <| pp (pp (@lS (Int × Int) _ (fun n x=>G.iV.L1 n ag x.1 x.2) r (fun x=>cu.of [eP 1 103,eI 3 x.1,eI 4 x.2] [(103,.var (wN ag))])) ()) <| pp () <| pp (pp (And.intro @G.iV.L1.eq_1 <| @G.iV.L1.eq_2) ()) <| pp (pp (@bg [] [(103,10)] []) <| pp (@bg [] [(103,103)] []) ()) <| ()
  exact kN
theorem F.iV {n:Nat} : ∀ {ag:af} {r:Int},G.iV n ag=some r->bG pZ 93 [.agg (wN ag)] (.one (wI r)):=F.Jg n
theorem F.cZ {n:Nat} : ∀ {ag:Int} {EC:Int} {Az:Int} {r:Bool},G.cZ n ag EC Az=some r->bG pZ 54 [.one (wI ag),.one (wI EC),.one (wI Az)] (.one (.c (.lit (.bool r)))):=by
  intro ag EC Az r h
  refine aG K.cZ (kF ?_)
  unfold C.cZ
  rcases n with _ | n<;>simp only [G.cZ,reduceCtorEq] at h
  obtain ⟨zc,zg,zk,zu,ze,zj,zt⟩:=pp () <| pp () <| pp () <| pp () <| pp () <| pp () <| ()
  exact kN
end Go.Ab
end
