/- The law FnRequestRoundTrip of the package laws answers true for every code of bytes and leaves it as it is (part 1). Conditions: none but what the row lists. -/
import Derived.Test.YtmhpmikikfjgcaaGreatDoorB3
set_option linter.unusedVariables false
set_option linter.unusedSimpArgs false
section
namespace Go.Ab
open Go
set_option maxRecDepth 100000
set_option maxHeartbeats 4000000
set_option linter.unusedVariables false
set_option linter.unusedSimpArgs false
def G.fU (f:Nat) (iW:List Int):Option (RequestT):=match f with
| 0=>none
| n+1 =>
((G.iV n iW).bind fun v1 =>
((G.dP n v1).bind fun v2 =>
(some (v2.1))))
def G.gy (f:Nat) (iW:List Int):Option (Bool):=match f with
| 0=>none
| n+1 =>
(cond (decide (1048576<((iW.length:Nat):Int)))
(some (true))
((G.fU n iW).bind fun v1 =>
((G.ah n v1).bind fun v2 =>
((G.aF n v1).bind fun v3 =>
(cond (v2==v3)
(cond (v2==[])
((G.aF n v1).bind fun v4 =>
(some ((v2==v4))))
(cond (decide (2000<((v2.length:Nat):Int)))
((G.aF n v1).bind fun v5 =>
(some ((v2==v5))))
((G.dG n v2).bind fun v6 =>
(cond v6.2
((G.gW n v6.1 v1).bind fun v7 =>
(some (v7)))
(some (false))))))
((G.aF n v1).bind fun v8 =>
(some ((v2==v8)))))))))
end Go.Ab
end
section
namespace Go.Ab
open Go
set_option maxRecDepth 100000
set_option maxHeartbeats 4000000
set_option linter.unusedVariables false
set_option linter.unusedSimpArgs false
def C.fU:bD:=(.seq (.reg [zA 2 (.alloc 10 [jc 0,.c (.str []),.nsl 1,.nsl 1,jc 0,jc 0,.c (.str []),.nsl 1,.nsl 5,.nsl 8])] [0,2]) (.seq (.reg [zM 3 0,q1 4 27 3,q1 5 26 4,qS 10 2 5] [2]) .ret))
theorem K.fU:fE pZ 10 1 0 C.fU [.cell 2 true 10]=true:=by kernel_rfl
def C.gy:bD:=(.seq (.reg [qB 2 false] [0]) (.seq (.seq (.reg [zM 7 0,qL 8 7,zA 9 (.bin .gtr (.t 8) (kI 1048576))] [0,9]) (.cond (.t 9) (.seq (.reg [qB 2 true] [2]) .ret) .skip)) (.seq (.reg [zM 10 0,q1 11 10 10,zA 3 (.alloc 10 [jc 0,.c (.str []),.nsl 1,.nsl 1,jc 0,jc 0,.c (.str []),.nsl 1,.nsl 5,.nsl 8]),qS 10 3 11] [3]) (.seq (.reg [qT 12 10 3,q1 13 11 12,zM 4 13] [3,4]) (.seq (.seq (.reg [zM 14 4,qT 15 10 3,q1 16 12 15,zA 17 (.bin .neq (.t 14) (.t 16)),zM 18 17,zG 18 false 19 (.mv (.t 4)),zG 18 false 20 (.bin .eql (.t 19) (.k (.c (.str [])))),qQ 21 18 20,zM 22 21,zG 22 false 23 (.mv (.t 4)),zG 22 false 24 (.lens (.t 23)),zG 22 false 25 (.bin .gtr (.t 24) (kI 2000)),qQ 26 22 25] [3,4,26]) (.cond (.t 26) (.seq (.reg [zM 27 4,qT 28 10 3,q1 29 12 28,zA 30 (.bin .eql (.t 27) (.t 29)),zM 2 30] [2]) .ret) .skip)) (.seq (.reg [zM 32 4,q1 33 13 32,zM 31 33,qE 34 31 0,qE 35 31 1,zA 5 (.alloc 11 [jc 0,.c (.str []),.nsl 1,.nsl 1,jc 0,jc 0,.c (.str []),.nsl 1,.nsl 5,.nsl 8]),qS 10 5 34,zM 6 35] [3,5,6]) (.seq (.reg [zM 36 6,zM 37 36,zG 37 true 38 (.load true 10 (.t 5)),zG 37 true 39 (.load true 10 (.t 3)),⟨(some (37,true)),some 40,.call 14 [.t 38,.t 39]⟩,qP 41 37 40,zM 2 41] [2]) .ret)))))))
theorem K.gy:fE pZ 3 1 0 C.gy [.tmp 2]=true:=by kernel_rfl
end Go.Ab
end
section
namespace Go.Ab
open Go
set_option maxRecDepth 100000
theorem D.uq {c:List Int} (hc:Bytes c) (hl:c.length<=1048576):Tot (oL 60) (fun f=>G.fU f c):=by
 refine Tot.up ?_
 simp only [G.fU]
 refine Tot.bind (D.zU hc hl) (fun r hr=>Tot.bind (D.wL hr) ?_)
 rintro ⟨q,r2⟩ ⟨hq,_⟩
 exact Tot.ret hq
end Go.Ab
end
section
namespace Go.Ab
open Go
set_option maxRecDepth 100000
theorem T.rf {c:List Int} (hc:Bytes c):Ev (fun f=>G.gy f c) true:=by
 refine Ev.up ?_
 simp only [G.gy]
 refine Ev.ite (fun _=>Ev.ret _) (fun e => ?_)
 obtain ⟨q,g,hq⟩:=D.uq hc (by simp at e; omega)
 have hI:=T.ah hq
 have hS:=T.aF hq
 have hlen:=Fv q
 have same:Ev (fun f=>Option.bind (G.aF f q) fun v=>some (jZ q==v)) true:=Ev.bind hS (Ev.ret' (by simp))
 refine Ev.bind g (Ev.bind hI (Ev.bind hS (Ev.ct (by simp) (Ev.ite (fun _=>same) (fun en=>Ev.ite (fun _=>same) (fun el => ?_))))))
 have en:jZ q ≠ []:=by simpa using en
 have el:(jZ q).length<=2000:=by simp only [decide_eq_false_iff_not] at el; omega
 obtain ⟨v,gv,hv⟩:=T.dG (s:=jZ q) (by omega)
 have:=hv.all q en el rfl
 subst this
 exact Ev.bind gv (Ev.ct rfl (Ev.bind (zI hq) (Ev.ret _)))
end Go.Ab
end
section
namespace Go.Ab
open Go
set_option maxRecDepth 100000
set_option maxHeartbeats 4000000
set_option linter.unusedVariables false
set_option linter.unusedSimpArgs false
theorem F.fU {n:Nat} : ∀ {iW r},G.fU n iW=some r->APure pZ 10 [.one (.c (.sl 1 (List.map cU iW)))] (.agg [wI r.Method,wS r.Name,wT r.Want,wT r.jk,wI r.Body.Kind,wI r.Body.Num,wS r.Body.Text,wT r.Body.Names,wK r.Body.Kids,.c (.sl 8 (List.map iI.cells r.Ops))]):=by
 intro iW r h
 refine aU K.fU (jG ?_)
 unfold C.fU
 rcases n with _ | n<;>simp only [G.fU,reduceCtorEq] at h
 have z:=pp () <| pp (pp (pp @F.iV (@cG [] [101])) <| pp (pp @F.dP (@cG [101] [])) ()) <| pp () <| pp () <| pp () <| pp () <| ()
 exact jK
theorem F.gy {n:Nat} : ∀ {iW r},G.gy n iW=some r->APure pZ 3 [.one (.c (.sl 1 (List.map cU iW)))] (.one (.c (.lit (.bool r)))):=by
 intro iW r h
 refine aU K.gy (jG ?_)
 unfold C.gy
 rcases n with _ | n<;>simp only [G.gy,reduceCtorEq] at h
 have z:=pp (pp @F.fU <| pp @F.ah <| pp @F.aF <| pp @F.dG <| pp @F.gW ()) <| pp () <| pp () <| pp () <| pp () <| pp () <| ()
 exact jK
end Go.Ab
end
section
namespace Go.Proofs.YtmhpmikikfjgcaaGreatDoor.fnRequestRoundTrip
open Go Go.ChangeShapes Go.WideShapes Go.ChangeAt Go.RowKit Go.Ab
set_option maxRecDepth 100000
theorem own:ownKnob Tryz.prog.godebug=none:=by kernel_rfl
theorem laidOut:laidOutB Tryz.prog=true:=by kernel_rfl
theorem cellsB:Tryz.prog.cellsOf 5=1:=by kernel_rfl
theorem calls (zs:List Int) (hz:∀ z,z∈zs->0<=z/\z<256):APure Tryz.prog 3 [vSl 1 (zs.map xH)] (vBool true):=by
 obtain ⟨n,hn⟩:=(T.rf hz).val
 exact F.gy hn
theorem met {W:World} (h:laidMetH Tryz.prog Rows.fnRequestRoundTripRow.laid W):laidMet Tryz.prog Rows.fnRequestRoundTripRow.laid W:=by
 unfold laidMetH at h
 rw [show (Rows.fnRequestRoundTripRow.laid.filter fun x=>x.2.handleName?.isSome)=[] from by kernel_rfl] at h
 exact h
theorem Nj {W:World} (hL:laidMetH Tryz.prog Rows.fnRequestRoundTripRow.laid W):∀ g,Tryz.prog.globalNamed "internal/strconv.uint64pow10" = some g->I0 W g=some (Lib.pow10Tab.map fun z=>Value.int .u64 z).toArray:=by
 have h:=nI 2 (met hL)
 rw [show Rows.fnRequestRoundTripRow.laid.drop 2=("internal/strconv.uint64pow10",Lib.tabData .u64 Lib.pow10Tab)::Rows.fnRequestRoundTripRow.laid.drop 3 from by kernel_rfl] at h
 exact Ji (g:=3) (t:=227) (e:=200) (by kernel_rfl) (by kernel_rfl) (by kernel_rfl) (by kernel_rfl) (by kernel_rfl) (by kernel_rfl) h
theorem Nk {W:World} (hS:W.ShapedOpen Tryz.prog):∀ g,Tryz.prog.globalNamed "internal/bytealg.MaxLen" = some g->∃ m,(I0 W).cell ⟨g,0,none⟩=some (.int .i64 m) :=
 IY (g:=0) (t:=3) hS (by kernel_rfl) (of_decide_eq_true (by kernel_rfl)) (by kernel_rfl) (by kernel_rfl) (by kernel_rfl) (by kernel_rfl)
theorem Dj : "*" ++ "errors.errorString" = "*errors.errorString" := by decide
theorem Jw (u:TypeId) (h:Tryz.prog.typeName? 3 u=some "*errors.errorString"):u=247 :=
 typeName_ptr_named (nm := "errors.errorString") (by rw [Dj]; kernel_rfl) (by kernel_rfl) (by decide) u (by rw [Dj]; exact h)
theorem Nl {W:World} (hL:laidMetH Tryz.prog Rows.fnRequestRoundTripRow.laid W):∀ g,Tryz.prog.globalNamed "strconv.ErrSyntax" = some g->∃ v,(I0 W).cell ⟨g,0,none⟩=some v/\(v = .nilIface\/∃ t p,v = .iface t p):=by
 have h:=nI 5 (met hL)
 rw [show Rows.fnRequestRoundTripRow.laid.drop 5=("strconv.ErrSyntax",.iface "*errors.errorString" (.ptr (.agg [.lit (.string [105,110,118,97,108,105,100,32,115,121,110,116,97,120])])))::Rows.fnRequestRoundTripRow.laid.drop 6 from by kernel_rfl] at h
 exact AO (g:=4) (ti:=85) (tp:=247) (te:=249) (ts:=9) (ms := #[("Error",90)]) (f := { name := "s",type:=9,offset:=0,embedded:=false,tag := "",pkgPath := "errors",byteOffset:=0 }) h (by kernel_rfl) (by kernel_rfl) (by kernel_rfl) Jw (by kernel_rfl) (by kernel_rfl) rfl rfl (by kernel_rfl) (by kernel_rfl) (by kernel_rfl)
theorem Np {W:World} (hL:laidMetH Tryz.prog Rows.fnRequestRoundTripRow.laid W):∀ g,Tryz.prog.globalNamed "strconv.ErrRange" = some g->∃ v,(I0 W).cell ⟨g,0,none⟩=some v/\(v = .nilIface\/∃ t p,v = .iface t p):=by
 have h:=nI 4 (met hL)
 rw [show Rows.fnRequestRoundTripRow.laid.drop 4=("strconv.ErrRange",.iface "*errors.errorString" (.ptr (.agg [.lit (.string [118,97,108,117,101,32,111,117,116,32,111,102,32,114,97,110,103,101])])))::Rows.fnRequestRoundTripRow.laid.drop 5 from by kernel_rfl] at h
 exact AO (g:=5) (ti:=85) (tp:=247) (te:=249) (ts:=9) (ms := #[("Error",90)]) (f := { name := "s",type:=9,offset:=0,embedded:=false,tag := "",pkgPath := "errors",byteOffset:=0 }) h (by kernel_rfl) (by kernel_rfl) (by kernel_rfl) Jw (by kernel_rfl) (by kernel_rfl) rfl rfl (by kernel_rfl) (by kernel_rfl) (by kernel_rfl)
theorem tabs {W:World} (hS:W.ShapedOpen Tryz.prog) (hL:laidMetH Tryz.prog Rows.fnRequestRoundTripRow.laid W):Tabs Tryz.prog (I0 W):=⟨Nj hL,Nk hS,Nl hL,Np hL⟩
theorem contract (H:Type) (enc:TypeId × Value->H) (W:World) (base:Nat) (args:Array Value) (ds gs:List (DataW H)) (before:List MemPlace)
  (hval:∀ (j:Nat) t v,Tryz.f3.params[j]? = some t->args[j]? = some v->Value.okWide Tryz.prog W .any base t v)
  (hW:DataW.Whole enc Tryz.prog Tryz.f3.params.toList Rows.fnRequestRoundTripSpec.vars false W args.toList ds gs before)
  (hS:W.ShapedOpen Tryz.prog) (hL:laidMetH Tryz.prog Rows.fnRequestRoundTripRow.laid W) :
  Calls Tryz.prog 3 args W fun e W'=>∃ v,e = .returned v/\Rows.fnRequestRoundTripSpec.post enc Tryz.prog Tryz.f3 false true false false W args v W':=by
 have hW':=hW
 obtain ⟨p,q,hA0,hV,rfl,hfz,hnd⟩:=hW
 have hA:DataW.TrodAll enc Tryz.prog W 0 (fun _=>true) true Tryz.f3.params.toList args.toList ds p:=hA0
 rw [Tryz.params3] at hA hval
 obtain ⟨v0,QB,d0,ds0,p0,q0,hargs,rfl,rfl,h0,r0⟩:=trodAll_cons hA
 obtain ⟨rfl,rfl,rfl⟩:=trodAll_nil r0
 obtain rfl:args = #[v0]:=by cases args; simp_all
 obtain ⟨rfl,rfl⟩:=trodVars_none hV
 clear hA0
 simp only [List.append_nil] at hW'
 have hlt:∀ x∈p0,x.block<W.heap.size:=fun x hx=>by simpa using hW'.lt x hx
 refine (zO (enc:=enc) (tabs hS hL) Tryz.underlying22 Tryz.underlying5 cellsB (hval 0 22 v0 rfl rfl) h0 (fun zs _ hz=>calls zs hz)).mono fun e W' ⟨he,hb⟩ => ?_
 subst he
 have ht:DataW.TrodAll enc Tryz.prog W' 0 (fun b=>decide (b<W.heap.size)) true [22] [v0] [d0] (p0++[]):=trodAll_cons_mk (Below.trod laidOut (by kernel_rfl) (of_decide_eq_true (by kernel_rfl)) h0 hb hlt) trodAll_mk0
 rw [List.append_nil] at ht
 exact ⟨_,rfl,_,_,_,[],p0,[],hW',trodAll_cons_mk (shut_bool Tryz.underlying4 _) trodAll_mk0,
  ht,rfl,hb.frame _,fun h=>by cases h⟩
noncomputable def laidWorld (os:Os):World:=World.laidAll Tryz.prog os Rows.fnRequestRoundTripRow.laid
theorem laid_met (os:Os):laidMet Tryz.prog Rows.fnRequestRoundTripRow.laid ((laidWorld os).forCall (fun _ _=>0) ⟨#[],#[.slice none 0 0],[]⟩).memory :=
 laidMet_laidAll _ (by kernel_rfl) (by kernel_rfl)
theorem reads (os:Os) {H:Type} (enc:TypeId × Value->H):∃ places,DataW.whole enc Tryz.prog ((laidWorld os).forCall (fun _ _=>0) ⟨#[],#[.slice none 0 0],[]⟩).memory Tryz.f3.params.toList Rows.fnRequestRoundTripSpec.vars false #[Value.slice none 0 0].toList 8=some ([.nil],[],places) :=
 ⟨[],by kernel_rfl⟩
theorem lifted (os:Os) (started:os.Started) (H:Type) (enc:TypeId × Value->H) (F:Stop.Interp) :
  ReturnsInHanded {} Tryz.checked os 3 .any ((OpenSpec.ofChange Rows.fnRequestRoundTripSpec).preRow enc Tryz.prog Tryz.f3 Rows.fnRequestRoundTripRow.domain false Rows.fnRequestRoundTripRow.laid) (((OpenSpec.ofChange Rows.fnRequestRoundTripSpec).at F).post enc Tryz.prog Tryz.f3 false true false false):=by
 obtain ⟨places,hx⟩:=reads os enc
 refine returnsInHanded_of_row (C:=Tryz.checked) (s:=OpenSpec.ofChange Rows.fnRequestRoundTripSpec) own started (by kernel_rfl) Tryz.func3
  (witness_row_atRef (enc:=enc) (C:=Tryz.checked) false (laidWorld os) #[.slice none 0 0] (World.laidAll_os _ _ _) (by kernel_rfl) (by kernel_rfl) (by kernel_rfl)
   (OpenSpec.preRow_of_cond 8 hx (by kernel_rfl) (fun k hk=>by cases hk) (by kernel_rfl) (laid_met os))) ?_
 intro W base args ds gs before hval hW _ _ _ hL hS _
 exact contract H enc W base args ds gs before hval hW hS hL
theorem j1:(Rows.fnRequestRoundTripRow.inPlace==Tryz.prog.inPlace 3)=true:=by kernel_rfl
theorem j2:(Rows.fnRequestRoundTripRow.unfollowed==Tryz.prog.unfollowed 3)=true:=by kernel_rfl
theorem j3:(Rows.fnRequestRoundTripRow.recurses==Tryz.prog.recurses 3)=true:=by kernel_rfl
theorem j4:(Rows.fnRequestRoundTripRow.named==Tryz.prog.varsNamed 3)=true:=by kernel_rfl
theorem j5:joinedFacts Tryz.prog 3 Tryz.f3 (OpenSpec.ofChange Rows.fnRequestRoundTripSpec).bare Rows.fnRequestRoundTripRow=true:=by
 unfold joinedFacts
 rw [j1,j2,j3,j4]
 kernel_rfl
theorem j6:Tryz.prog.funcNamed Rows.fnRequestRoundTripRow.func=some 3:=by kernel_rfl
theorem said:Rows.FnRequestRoundTripSaid :=
 OpenClaim.holds_of_cond 3 Tryz.f3 rfl rfl rfl rfl rfl rfl rfl ⟨rfl,rfl,rfl,rfl,rfl⟩ rfl rfl rfl rfl rfl j6 Tryz.func3 j5
  (of_decide_eq_true (by kernel_rfl)) (by unfold Func.isWrapper; first | (rw [if_pos (by decide +kernel)]; kernel_rfl) | (rw [if_neg (by decide +kernel)]; exact ⟨rfl,rfl⟩))
  (fun os started H enc _ F=>by rw [OpenClaim.pre_eq_preRow]; exact lifted os started H enc F)
theorem jw:Rows.fnRequestRoundTripRow.wfByText (OpenSpec.ofChange Rows.fnRequestRoundTripSpec)=true:=by kernel_rfl
theorem jm:Tryz.pinned.checked.prog.mainIs=some (Rows.fnRequestRoundTripCard.stood.harness.1,Rows.fnRequestRoundTripCard.stood.harness.2.toList):=by kernel_rfl
theorem jg:false=Rows.fnRequestRoundTripRow.goesBy Tryz.pinned.checked.prog:=by kernel_rfl
theorem plain (f:FuncId) (fn:Func) (hf:Tryz.pinned.checked.prog.funcNamed Rows.fnRequestRoundTripRow.func=some f) (hfn:Tryz.pinned.checked.prog.funcs[f]? = some fn) :
  true=Tryz.pinned.checked.prog.looks []/\∀ (j:Nat) t,fn.params[j]? = some t->Tryz.pinned.checked.prog.wantsStandIn t=false:=by
 obtain rfl:f=3:=Option.some.inj ((show Tryz.prog.funcNamed Rows.fnRequestRoundTripRow.func=some 3 by kernel_rfl).symm.trans hf) |>.symm
 obtain rfl:fn=Tryz.f3:=(Option.some.inj (Tryz.func3.symm.trans hfn)).symm
 refine ⟨by kernel_rfl,fun j t ht => ?_⟩
 rw [Tryz.params3] at ht
 obtain rfl:t=22:=by simpa using Array.mem_of_getElem? ht
 exact (show Tryz.prog.wantsStandIn 22=false by kernel_rfl)
theorem card:Rows.FnRequestRoundTripCardSaid :=
 Claim7.holds_tied_plain_at .later [] _ _ _ _ said (fun _ h=>by cases h) jw (fun _ h=>by cases h) fnRequestRoundTrip_row_tie rfl ⟨rfl,rfl⟩ jm rfl plain jg
end Go.Proofs.YtmhpmikikfjgcaaGreatDoor.fnRequestRoundTrip
end
