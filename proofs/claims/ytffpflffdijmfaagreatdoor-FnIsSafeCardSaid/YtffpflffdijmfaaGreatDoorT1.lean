/- The law FnIsSafe of the package laws answers true for every code of bytes and leaves it as it is (part 1). Conditions: none but what the row lists. -/
import Derived.Test.YtffpflffdijmfaaGreatDoorB4
set_option linter.unusedVariables false
set_option linter.unusedSimpArgs false
section
namespace Go.Ab
open Go
set_option maxRecDepth 100000
set_option maxHeartbeats 4000000
set_option linter.unusedVariables false
set_option linter.unusedSimpArgs false
def G.YX (f:Nat) (bC:RequestT):Option (Bool):=match f with
| 0=>none
| n+1 =>
((G.kz n bC).bind fun v1 =>
(cond v1
(some ((bC.Method==1)))
(some (false))))
def G.YZ (f:Nat) (ag:Int):Option (af):=match f with
| 0=>none
| n+1 =>
(some ((af.mk 1 ag [] [] [])))
def G.YU (f:Nat) (nM:List Int):Option (RequestT):=match f with
| 0=>none
| n+1 =>
((G.kZ n nM).bind fun v1 =>
((G.kL n v1 (StoreT.mk [] 0)).bind fun v2 =>
(some (v2.1))))
def G.YV (f:Nat) (bC:RequestT):Option (Bool):=match f with
| 0=>none
| n+1 =>
((G.jf n bC).bind fun v1 =>
(cond v1
(some ((bC.Method==1)))
(some (false))))
def G.YY (f:Nat) (nM:List Int):Option (Bool):=match f with
| 0=>none
| n+1 =>
(cond (decide (1048576<((nM.length:Nat):Int)))
(some (true))
((G.YU n nM).bind fun v1 =>
((G.YX n v1).bind fun v2 =>
((G.YV n v1).bind fun v3 =>
(cond v2
(cond v3
((G.YZ n 1).bind fun v4 =>
((G.lD n (StoreT.mk [] 0) [97] v4).bind fun v5 =>
((G.bz n v5.1 v1).bind fun v6 =>
((G.iy n v6.1 v5.1).bind fun v7 =>
(cond v7
(some ((v1.Method==1)))
(some (false)))))))
((G.YV n v1).bind fun v8 =>
(cond v8
(some (true))
(some (false)))))
(cond v3
((G.YV n v1).bind fun v9 =>
(cond v9
(some (false))
(some (true))))
((G.YV n v1).bind fun v10 =>
(cond v10
(some (false))
(some (true))))))))))
end Go.Ab
end
section
namespace Go.Ab
open Go
set_option maxRecDepth 100000
set_option maxHeartbeats 4000000
set_option linter.unusedVariables false
set_option linter.unusedSimpArgs false
def C.YX:aP:=(.seq (.reg [ qX 1 10 0,qB 2 false] [1]) (.seq (.reg [ qT 3 10 1,q1 4 27 3,zM 5 4,zG 5 true 6 (.fZ 0 (.t 1)),zG 5 true 7 (.load false 1 (.t 6)),zG 5 true 8 (.bin .eql (.t 7) (kI 1)),qP 9 5 8,zM 2 9] [2]) .ret))
theorem K.YX:dU pZ 11 1 0 C.YX [.tmp 2]=true:=by kernel_rfl
def C.YZ:aP:=(.seq (.reg [ qZ 2 10] [0,2]) (.seq (.reg [ zM 3 0,zA 4 (.build zN [(0,1,kI 1),(1,1,.t 3)]),qS 5 2 4] [2]) .ret))
theorem K.YZ:dU pZ 14 1 0 C.YZ [.cell 2 true 5]=true:=by kernel_rfl
def C.YU:aP:=(.seq (.reg [ zA 2 (.alloc 10 [je 0,.c (.str []),.fU 1,.fU 1,je 0,je 0,.c (.str []),.fU 1,.fU 5,.fU 8])] [0,2]) (.seq (.reg [ zM 4 0,q1 5 25 4,zM 3 5] [2,3]) (.seq (.reg [ zM 6 3,zA 7 (.build [.fU 7,je 0] []),q2 8 26 6 7,qS 10 2 8] [2]) .ret)))
theorem K.YU:dU pZ 10 1 0 C.YU [.cell 2 true 10]=true:=by kernel_rfl
def C.YV:aP:=(.seq (.reg [ qX 1 10 0,qB 2 false] [1]) (.seq (.reg [ qT 3 10 1,q1 4 28 3,zM 5 4,zG 5 true 6 (.fZ 0 (.t 1)),zG 5 true 7 (.load false 1 (.t 6)),zG 5 true 8 (.bin .eql (.t 7) (kI 1)),qP 9 5 8,zM 2 9] [2]) .ret))
theorem K.YV:dU pZ 12 1 0 C.YV [.tmp 2]=true:=by kernel_rfl
def C.YY:aP:=(.seq (.reg [ qB 2 false] [0]) (.seq (.seq (.reg [ zM 9 0,qL 10 9,zA 11 (.bin .gtr (.t 10) (kI 1048576))] [0,11]) (.cond (.t 11) (.seq (.reg [ qB 2 true] [2]) .ret) .skip)) (.seq (.reg [ zM 12 0,q1 13 10 12,zA 3 (.alloc 10 [je 0,.c (.str []),.fU 1,.fU 1,je 0,je 0,.c (.str []),.fU 1,.fU 5,.fU 8]),qS 10 3 13] [3]) (.seq (.reg [ qT 14 10 3,q1 15 11 14,zM 4 15] [3,4]) (.seq (.seq (.reg [ zM 16 4,qT 17 10 3,q1 18 12 17,zA 19 (.beq true (.t 16) (.t 18)),zM 20 19,zG 20 false 21 (.mv (.t 4)),zG 20 false 22 (.not (.t 21)),qQ 23 20 22] [3,4,23]) (.cond (.t 23) (.seq (.reg [ zM 24 4,qT 25 10 3,q1 26 12 25,zA 27 (.beq false (.t 24) (.t 26)),zM 2 27] [2]) .ret) .skip)) (.seq (.reg [ zA 29 (.build [.fU 7,je 0] []),⟨none,some 30,.call 14 [kI 1]⟩,⟨none,some 31,.call 13 [.t 29,.k (.c (.str [97])),.t 30]⟩,zM 28 31,qE 32 28 0,qE 33 28 1,zA 5 (.alloc 11 [.fU 7,je 0]),qS 2 5 32,zM 6 33] [3,5]) (.seq (.reg [ qT 35 2 5,qT 36 10 3,q2 37 15 35 36,zM 34 37,qE 38 34 0,qE 39 34 1,zA 7 (.alloc 12 [.fU 7,je 0]),zA 8 (.alloc 13 [je 0,.c (.str []),je 0,je 0,je 0,.c (.str []),.fU 1,.fU 5]),qS 2 7 38,qS 8 8 39] [3,5,7]) (.seq (.reg [ qT 40 2 7,qT 41 2 5,q2 42 16 40 41,zM 43 42,zG 43 true 44 (.fZ 0 (.t 3)),zG 43 true 45 (.load false 1 (.t 44)),zG 43 true 46 (.bin .eql (.t 45) (kI 1)),qP 47 43 46,zM 2 47] [2]) .ret))))))))
theorem K.YY:dU pZ 3 1 0 C.YY [.tmp 2]=true:=by kernel_rfl
end Go.Ab
end
section
namespace Go.Ab
open Go
set_option maxRecDepth 100000
theorem Y8:qH 60 PO:=⟨by decide,(fun it h=>by cases h),(fun it h=>by cases h)⟩
end Go.Ab
end
section
namespace Go.Ab
open Go
set_option maxRecDepth 100000
section
variable {B:Nat} {q:RequestT} (hB:B<=lim) (h:Am B q)
include hB h
theorem T.YX:Ev (fun f=>G.YX f q) (TZ q&&q.Method==1):=by
  refine Ev.up ?_
  simp only [G.YX]
  exact Ev.bind (T.kz hB h) (Ev.ite (fun e=>Ev.ret' (by rw [e]; rfl)) (fun e=>Ev.ret' (by rw [e]; rfl)))
end
end Go.Ab
end
section
namespace Go.Ab
open Go
set_option maxRecDepth 100000
theorem D.Y9 {c:List Int} (hc:Bytes c) (hl:c.length<=1048576):Tot (Am 60) (fun f=>G.YU f c):=by
  refine Tot.up ?_
  simp only [G.YU]
  refine Tot.bind (D.PN hc hl) (fun r hr=>Tot.bind (D.Lr Y8 hr (by omega)) ?_)
  rintro ⟨q,r2⟩ ⟨hq,_⟩
  exact Tot.ret hq
end Go.Ab
end
section
namespace Go.Ab
open Go
set_option maxRecDepth 100000
theorem T.YV {q:RequestT} (hq:Am 60 q):Ev (fun f=>G.YV f q) (TZ q&&q.Method==1):=by
  refine Ev.up ?_
  simp only [G.YV]
  exact Ev.bind (T.jf mZ hq) (Ev.ite (fun e=>Ev.ret' (by rw [e]; rfl)) (fun e=>Ev.ret' (by rw [e]; rfl)))
theorem T.Zc {c:List Int} (hc:Bytes c):Ev (fun f=>G.YY f c) true:=by
  refine Ev.up ?_
  simp only [G.YY]
  refine Ev.ite (fun _=>Ev.ret _) (fun e => ?_)
  obtain ⟨q,g,hq⟩:=D.Y9 hc (by simp at e; omega)
  have hI:=T.YX mZ hq
  have hS:=T.YV hq
  refine Ev.bind g (Ev.bind hI (Ev.bind hS ?_))
  cases hv:TZ q&&q.Method==1 with
  | false=>rw [hv] at hS; exact Ev.cf rfl (Ev.cf rfl (Ev.bind hS (Ev.cf rfl (Ev.ret _))))
  | true =>
    obtain ⟨h1,h2⟩:=Bool.and_eq_true_iff.1 hv
    have hn:Ev (fun f=>G.YZ f 1) (af.mk 1 1 [] [] []):=by
      refine Ev.up ?_
      simp only [G.YZ]
      exact Ev.ret _
    have vn:Val (af.mk 1 1 [] [] [])=true:=by decide
    have hP:=T.lD (t:=[97]) mZ Y8 (by simp) (mW vn)
    have hst:wP (xE (wO PO [97] (af.mk 1 1 [] [] []))).1=true:=by
      cases hp:wO PO [97] (af.mk 1 1 [] [] []) with
      | none=>exact Tz
      | some m=>exact (FC hp).2.2.2.2
    generalize (xE (wO PO [97] (af.mk 1 1 [] [] [])))=p at hP hst
    have hH:=T.Rz (Oe hst) hq
    have same:(Ap p.1 q).1=p.1:=by
      rcases Rl (s:=p.1) (q:=q) with ⟨_,h⟩ | ⟨hf,hr,h⟩
      · rw [hst,h1] at h; cases h
      · have h2:q.Method=1:=by simpa using h2
        generalize Ap p.1 q=w at h
        cases h with
        | no c=>rfl
        | get it=>rfl
        | drop it m h=>omega
        | made m h=>omega
        | put it n m h=>omega
    have es:=Dw (Oe hst)
    rw [<- same] at es
    have es':Ev (fun f=>G.iy f (Ap p.1 q).1 p.1) true:=by rw [same] at es ⊢; exact es
    exact Ev.ct rfl (Ev.ct rfl (Ev.bind hn (Ev.bind hP (Ev.bind hH (Ev.bind es' (Ev.ct rfl (Ev.ret' (by simpa using h2))))))))
end Go.Ab
end
section
namespace Go.Ab
open Go
set_option maxRecDepth 100000
set_option maxHeartbeats 4000000
set_option linter.unusedVariables false
set_option linter.unusedSimpArgs false
theorem F.YX {n:Nat} : ∀ {bC:RequestT} {r:Bool},G.YX n bC=some r->bG pZ 11 [.agg [wI bC.Method,wS bC.Name,wT bC.Want,wT bC.l7,wI bC.Body.Kind,wI bC.Body.Num,wS bC.Body.Text,wT bC.Body.Names,wK bC.Body.Kids,.c (.sl 8 (List.map lU.cells bC.Ops))]] (.one (.c (.lit (.bool r)))):=by
  intro bC r h
  refine aG K.YX (kF ?_)
  unfold C.YX
  rcases n with _ | n<;>simp only [G.YX,reduceCtorEq] at h
  obtain ⟨zc,zg,zk,zu,ze,zj,zt⟩:=pp (pp @F.kz ()) <| pp () <| pp () <| pp () <| pp () <| pp () <| ()
  exact kN
theorem F.YZ {n:Nat} : ∀ {ag:Int} {r:af},G.YZ n ag=some r->bG pZ 14 [.one (wI ag)] (.agg (wN r)):=by
  intro ag r h
  refine aG K.YZ (kF ?_)
  unfold C.YZ
  rcases n with _ | n<;>simp only [G.YZ,reduceCtorEq] at h
  obtain ⟨zc,zg,zk,zu,ze,zj,zt⟩:=pp () <| pp () <| pp () <| pp () <| pp () <| pp () <| ()
  exact kN
theorem F.YU {n:Nat} : ∀ {nM:List Int} {r:RequestT},G.YU n nM=some r->bG pZ 10 [.one (.c (.sl 1 (List.map cU nM)))] (.agg [wI r.Method,wS r.Name,wT r.Want,wT r.l7,wI r.Body.Kind,wI r.Body.Num,wS r.Body.Text,wT r.Body.Names,wK r.Body.Kids,.c (.sl 8 (List.map lU.cells r.Ops))]):=by
  intro nM r h
  refine aG K.YU (kF ?_)
  unfold C.YU
  rcases n with _ | n<;>simp only [G.YU,reduceCtorEq] at h
  obtain ⟨zc,zg,zk,zu,ze,zj,zt⟩:=pp () <| pp (pp (pp @F.kZ (@cG [] [101])) <| pp (pp @F.kL (@cH [101] [])) ()) <| pp () <| pp () <| pp () <| pp () <| ()
  exact kN
theorem F.YV {n:Nat} : ∀ {bC:RequestT} {r:Bool},G.YV n bC=some r->bG pZ 12 [.agg [wI bC.Method,wS bC.Name,wT bC.Want,wT bC.l7,wI bC.Body.Kind,wI bC.Body.Num,wS bC.Body.Text,wT bC.Body.Names,wK bC.Body.Kids,.c (.sl 8 (List.map lU.cells bC.Ops))]] (.one (.c (.lit (.bool r)))):=by
  intro bC r h
  refine aG K.YV (kF ?_)
  unfold C.YV
  rcases n with _ | n<;>simp only [G.YV,reduceCtorEq] at h
  obtain ⟨zc,zg,zk,zu,ze,zj,zt⟩:=pp (pp @F.jf ()) <| pp () <| pp () <| pp () <| pp () <| pp () <| ()
  exact kN
theorem F.YY {n:Nat} : ∀ {nM:List Int} {r:Bool},G.YY n nM=some r->bG pZ 3 [.one (.c (.sl 1 (List.map cU nM)))] (.one (.c (.lit (.bool r)))):=by
  intro nM r h
  refine aG K.YY (kF ?_)
  unfold C.YY
  rcases n with _ | n<;>simp only [G.YY,reduceCtorEq] at h
  obtain ⟨zc,zg,zk,zu,ze,zj,zt⟩:=pp (pp @F.YU <| pp @F.YX <| pp @F.YV <| pp @F.YZ <| pp @F.lD <| pp @F.bz <| pp @F.iy ()) <| pp () <| pp () <| pp () <| pp () <| pp () <| ()
  simp only [wN,wI,wS,wT,wK,zN,eP,eI,eS,eT] at zc zk zu zt zj ⊢
  exact kN
end Go.Ab
end
section
namespace Go.Proofs.YtffpflffdijmfaaGreatDoor.fnIsSafe
open Go Go.ChangeShapes Go.WideShapes Go.ChangeAt Go.RowKit Go.Ab
set_option maxRecDepth 100000
theorem own:ownKnob Tryz.prog.godebug=none:=by kernel_rfl
theorem laidOut:laidOutB Tryz.prog=true:=by kernel_rfl
theorem cellsB:Tryz.prog.cellsOf 5=1:=by kernel_rfl
theorem calls (zs:List Int) (hz:∀ z,z∈zs->0<=z/\z<256):bG Tryz.prog 3 [TF 1 (zs.map GK)] (oL true):=by
  obtain ⟨n,hn⟩:=(T.Zc hz).val
  exact F.YY hn
theorem met {W:World} (h:laidMetH Tryz.prog Rows.fnIsSafeRow.laid W):laidMet Tryz.prog Rows.fnIsSafeRow.laid W:=by
  unfold laidMetH at h
  rw [show (Rows.fnIsSafeRow.laid.filter fun x=>x.2.handleName?.isSome)=[] from by kernel_rfl] at h
  exact h
theorem tabs {W:World} (hL:laidMetH Tryz.prog Rows.fnIsSafeRow.laid W):Tabs Tryz.prog (I0 W):=by
  have h:=G7 2 (met hL)
  rw [show Rows.fnIsSafeRow.laid.drop 2=("internal/strconv.uint64pow10",Lib.tabData .u64 Lib.pow10Tab)::Rows.fnIsSafeRow.laid.drop 3 from by kernel_rfl] at h
  exact U5 (g:=1) (t:=175) (e:=164) (by kernel_rfl) (by kernel_rfl) (by kernel_rfl) (by kernel_rfl) (by kernel_rfl) (by kernel_rfl) h
theorem contract (H:Type) (enc:TypeId × Value->H) (W:World) (base:Nat) (args:Array Value) (ds gs:List (DataW H)) (before:List MemPlace)
    (hval:∀ (j:Nat) t v,Tryz.f3.params[j]? = some t->args[j]? = some v->Value.okWide Tryz.prog W .any base t v)
    (hW:DataW.Whole enc Tryz.prog Tryz.f3.params.toList Rows.fnIsSafeSpec.vars false W args.toList ds gs before)
    (hL:laidMetH Tryz.prog Rows.fnIsSafeRow.laid W) :
    Calls Tryz.prog 3 args W fun e W'=>∃ v,e = .returned v/\Rows.fnIsSafeSpec.post enc Tryz.prog Tryz.f3 false true false false W args v W':=by
  have hW':=hW
  obtain ⟨p,q,hA0,hV,rfl,hfz,hnd⟩:=hW
  have hA:DataW.TrodAll enc Tryz.prog W 0 (fun _=>true) true Tryz.f3.params.toList args.toList ds p:=hA0
  rw [Tryz.params3] at hA hval
  obtain ⟨v0,YK,d0,ds0,p0,q0,hargs,rfl,rfl,h0,r0⟩:=trodAll_cons hA
  obtain ⟨rfl,rfl,rfl⟩:=trodAll_nil r0
  obtain rfl:args = #[v0]:=by cases args; simp_all
  obtain ⟨rfl,rfl⟩:=trodVars_none hV
  clear hA0
  simp only [List.append_nil] at hW'
  have hlt:∀ x∈p0,x.block<W.heap.size:=fun x hx=>by simpa using hW'.lt x hx
  refine (Pm (enc:=enc) (tabs hL) Tryz.underlying22 Tryz.underlying5 cellsB (hval 0 22 v0 rfl rfl) h0 (fun zs _ hz=>calls zs hz)).mono fun e W' ⟨he,hb⟩ => ?_
  subst he
  have ht:DataW.TrodAll enc Tryz.prog W' 0 (fun b=>decide (b<W.heap.size)) true [22] [v0] [d0] (p0++[]):=trodAll_cons_mk (Below.trod laidOut (by kernel_rfl) (of_decide_eq_true (by kernel_rfl)) h0 hb hlt) trodAll_mk0
  rw [List.append_nil] at ht
  exact ⟨_,rfl,_,_,_,[],p0,[],hW',trodAll_cons_mk (shut_bool Tryz.underlying4 _) trodAll_mk0,
    ht,rfl,hb.frame _,fun h=>by cases h⟩
def tab (k:IntKind) (l:List Int):Obj->Obj
  | .cells _ t frozen => .cells (l.map fun n=>Value.int k n).toArray t frozen
  | o=>o
noncomputable def laidWorld (os:Os):World :=
  { World.holding Tryz.prog os ⟨#[],#[],[]⟩ with heap:=((((World.holding Tryz.prog os ⟨#[],#[],[]⟩).heap).modify 2 (tab .u8 [0,1,28,2,29,14,24,3,30,22,20,15,25,17,4,8,31,27,13,23,21,19,16,7,26,12,18,6,11,5,10,9])).modify 3 (tab .u8 [0,1,56,2,57,49,28,3,61,58,42,50,38,29,17,4,62,47,59,36,45,43,51,22,53,39,33,30,24,18,12,5,63,55,48,27,60,41,37,16,46,35,44,21,52,32,23,11,54,26,40,15,34,20,31,10,25,14,19,9,13,8,7,6])).modify 1 (tab .u64 [1,10,100,1000,10000,100000,1000000,10000000,100000000,1000000000,10000000000,100000000000,1000000000000,10000000000000,100000000000000,1000000000000000,10000000000000000,100000000000000000,1000000000000000000,10000000000000000000]) }
theorem laid_met (os:Os):laidMet Tryz.prog Rows.fnIsSafeRow.laid ((laidWorld os).forCall (fun _ _=>0) ⟨#[],#[.slice none 0 0],[]⟩).memory :=
  laidMet_of_run' 80 (by kernel_rfl) (by kernel_rfl)
theorem reads (os:Os) {H:Type} (enc:TypeId × Value->H):∃ places,DataW.whole enc Tryz.prog ((laidWorld os).forCall (fun _ _=>0) ⟨#[],#[.slice none 0 0],[]⟩).memory Tryz.f3.params.toList Rows.fnIsSafeSpec.vars false #[Value.slice none 0 0].toList 8=some ([.nil],[],places) :=
  ⟨[],by kernel_rfl⟩
theorem lifted (os:Os) (started:os.Started) (H:Type) (enc:TypeId × Value->H) (F:Stop.Interp) :
    ReturnsInHanded {} Tryz.checked os 3 .any ((OpenSpec.ofChange Rows.fnIsSafeSpec).preRow enc Tryz.prog Tryz.f3 Rows.fnIsSafeRow.domain false Rows.fnIsSafeRow.laid) (((OpenSpec.ofChange Rows.fnIsSafeSpec).at F).post enc Tryz.prog Tryz.f3 false true false false):=by
  obtain ⟨places,hx⟩:=reads os enc
  refine returnsInHanded_of_row (C:=Tryz.checked) (s:=OpenSpec.ofChange Rows.fnIsSafeSpec) own started (by kernel_rfl) Tryz.func3
    (witness_row_at (enc:=enc) (C:=Tryz.checked) false (laidWorld os) #[.slice none 0 0] rfl (by kernel_rfl) (by kernel_rfl) (by kernel_rfl)
      (OpenSpec.preRow_of_cond 8 hx (by kernel_rfl) (fun k hk=>by cases hk) (by kernel_rfl) (laid_met os))) ?_
  intro W base args ds gs before hval hW _ _ _ hL _ _
  exact contract H enc W base args ds gs before hval hW hL
theorem j1:(Rows.fnIsSafeRow.inPlace==Tryz.prog.inPlace 3)=true:=by kernel_rfl
theorem j2:(Rows.fnIsSafeRow.unfollowed==Tryz.prog.unfollowed 3)=true:=by kernel_rfl
theorem j3:(Rows.fnIsSafeRow.recurses==Tryz.prog.recurses 3)=true:=by kernel_rfl
theorem j4:(Rows.fnIsSafeRow.named==Tryz.prog.varsNamed 3)=true:=by kernel_rfl
theorem j5:joinedFacts Tryz.prog 3 Tryz.f3 (OpenSpec.ofChange Rows.fnIsSafeSpec).bare Rows.fnIsSafeRow=true:=by
  unfold joinedFacts
  rw [j1,j2,j3,j4]
  kernel_rfl
theorem j6:Tryz.prog.funcNamed Rows.fnIsSafeRow.func=some 3:=by kernel_rfl
theorem said:Rows.FnIsSafeSaid :=
  OpenClaim.holds_of_cond 3 Tryz.f3 rfl rfl rfl rfl rfl rfl rfl ⟨rfl,rfl,rfl,rfl,rfl⟩ rfl rfl rfl rfl rfl j6 Tryz.func3 j5
    (of_decide_eq_true (by kernel_rfl)) (by unfold Func.isWrapper; first | (rw [if_pos (by decide +kernel)]; kernel_rfl) | (rw [if_neg (by decide +kernel)]; exact ⟨rfl,rfl⟩))
    (fun os started H enc _ F=>by rw [OpenClaim.pre_eq_preRow]; exact lifted os started H enc F)
theorem jw:Rows.fnIsSafeRow.wfByText (OpenSpec.ofChange Rows.fnIsSafeSpec)=true:=by kernel_rfl
theorem jm:Tryz.pinned.checked.prog.mainIs=some (Rows.fnIsSafeCard.stood.harness.1,Rows.fnIsSafeCard.stood.harness.2.toList):=by kernel_rfl
theorem jg:false=Rows.fnIsSafeRow.goesBy Tryz.pinned.checked.prog:=by kernel_rfl
theorem plain (f:FuncId) (fn:Func) (hf:Tryz.pinned.checked.prog.funcNamed Rows.fnIsSafeRow.func=some f) (hfn:Tryz.pinned.checked.prog.funcs[f]? = some fn) :
    false=Tryz.pinned.checked.prog.looks []/\∀ (j:Nat) t,fn.params[j]? = some t->Tryz.pinned.checked.prog.wantsStandIn t=false:=by
  obtain rfl:f=3:=Option.some.inj ((show Tryz.prog.funcNamed Rows.fnIsSafeRow.func=some 3 by kernel_rfl).symm.trans hf) |>.symm
  obtain rfl:fn=Tryz.f3:=(Option.some.inj (Tryz.func3.symm.trans hfn)).symm
  refine ⟨by kernel_rfl,fun j t ht => ?_⟩
  rw [Tryz.params3] at ht
  obtain rfl:t=22:=by simpa using Array.mem_of_getElem? ht
  exact (show Tryz.prog.wantsStandIn 22=false by kernel_rfl)
theorem card:Rows.FnIsSafeCardSaid :=
  Claim7.holds_tied_plain_at .later [] _ _ _ _ said (fun _ h=>by cases h) jw (fun _ h=>by cases h) fnIsSafe_row_tie rfl ⟨rfl,rfl⟩ jm rfl plain jg
end Go.Proofs.YtffpflffdijmfaaGreatDoor.fnIsSafe
end
