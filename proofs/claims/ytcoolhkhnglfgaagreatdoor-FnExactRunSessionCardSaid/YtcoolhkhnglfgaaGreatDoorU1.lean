/- The law FnExactRunSession of the package laws answers true for all arguments and leaves them as they are (part 1). Conditions: none but what the row lists. -/
import Derived.Test.YtcoolhkhnglfgaaGreatDoorC4
set_option linter.unusedVariables false
set_option linter.unusedSimpArgs false
set_option maxRecDepth 100000
open Go.Lib renaming pow10Tab->vW
open Go.OpenSpec renaming ofChange->vG
open List renaming append_nil->eX
open Nat renaming le_trans->ig
open Option.some renaming inj->yt
section
namespace Go.Proofs.YtcoolhkhnglfgaaGreatDoor.fnExactRunSession
open Go Go.ChangeShapes Go.WideShapes Go.ChangeAt Go.RowKit Go.Ab
theorem own : ownKnob Tryz.prog.godebug=none:=by kernel_rfl
theorem laidOut : laidOutB Tryz.prog=true:=by kernel_rfl
theorem met {W:World}(h:laidMetH Tryz.prog Rows.fnExactRunSessionRow.laid W):laidMet Tryz.prog Rows.fnExactRunSessionRow.laid W:=by unfold laidMetH at h;rw[show(Rows.fnExactRunSessionRow.laid.filter λx=>x.2.handleName?.isSome)=[]from by kernel_rfl]at h;exact h
theorem ahj {W:World} (hL:laidMetH Tryz.prog Rows.fnExactRunSessionRow.laid W):∀g,Tryz.prog.globalNamed "internal/strconv.uint64pow10" = some g->I0 W g=some (vW.map λz=>Go.Value.int .u64 z).toArray:=by
 have h:=Jw 2 (met hL);rw[show Rows.fnExactRunSessionRow.laid.drop 2=("internal/strconv.uint64pow10",Lib.tabData .u64 vW)::Rows.fnExactRunSessionRow.laid.drop 3 from by kernel_rfl]at h
 exact afC (g:=0) (t:=174) (e:=141) (by kernel_rfl) (by kernel_rfl) (by kernel_rfl) (by kernel_rfl) (by kernel_rfl) (by kernel_rfl) h
theorem ahk {W:World} (hS:W.ShapedOpen Tryz.prog):∀g,Tryz.prog.globalNamed "internal/bytealg.MaxLen" = some g->∃m,(I0 W).cell ⟨g,0,none⟩=some (.int .i64 m):=
 afy (g:=1) (t:=3) hS (by kernel_rfl) (of_decide_eq_true (by kernel_rfl)) (by kernel_rfl) (by kernel_rfl) (by kernel_rfl) (by kernel_rfl)
theorem aeP : "*" ++ "errors.errorString" = "*errors.errorString" :=by decide
theorem agC (u:TypeId) (h:Tryz.prog.typeName? 3 u=some "*errors.errorString"):u=227:=
 typeName_ptr_named (nm:= "errors.errorString") (by rw[aeP];kernel_rfl) (by kernel_rfl) (by decide) u (by rw[aeP];exact h)
theorem ahl {W:World} (hL:laidMetH Tryz.prog Rows.fnExactRunSessionRow.laid W):∀g,Tryz.prog.globalNamed "strconv.ErrSyntax" = some g->∃v,(I0 W).cell ⟨g,0,none⟩=some v/\(v = .nilIface\/∃t p,v = .iface t p):=by
 have h:=Jw 5 (met hL);rw[show Rows.fnExactRunSessionRow.laid.drop 5=("strconv.ErrSyntax",.iface "*errors.errorString" (.ptr (.agg [.lit (.string [105,110,118,97,108,105,100,32,115,121,110,116,97,120])])))::Rows.fnExactRunSessionRow.laid.drop 6 from by kernel_rfl]at h
 exact abf (g:=6) (ti:=42) (tp:=227) (te:=229) (ts:=9) (ms:= #[("Error",46)]) (f:={ name:= "s",type:=9,offset:=0,embedded:=false,tag:= "",pkgPath:= "errors",byteOffset:=0 }) h (by kernel_rfl) (by kernel_rfl) (by kernel_rfl) agC (by kernel_rfl) (by kernel_rfl) rfl rfl (by kernel_rfl) (by kernel_rfl) (by kernel_rfl)
theorem ahm {W:World} (hL:laidMetH Tryz.prog Rows.fnExactRunSessionRow.laid W):∀g,Tryz.prog.globalNamed "strconv.ErrRange" = some g->∃v,(I0 W).cell ⟨g,0,none⟩=some v/\(v = .nilIface\/∃t p,v = .iface t p):=by
 have h:=Jw 4 (met hL);rw[show Rows.fnExactRunSessionRow.laid.drop 4=("strconv.ErrRange",.iface "*errors.errorString" (.ptr (.agg [.lit (.string [118,97,108,117,101,32,111,117,116,32,111,102,32,114,97,110,103,101])])))::Rows.fnExactRunSessionRow.laid.drop 5 from by kernel_rfl]at h
 exact abf (g:=7) (ti:=42) (tp:=227) (te:=229) (ts:=9) (ms:= #[("Error",46)]) (f:={ name:= "s",type:=9,offset:=0,embedded:=false,tag:= "",pkgPath:= "errors",byteOffset:=0 }) h (by kernel_rfl) (by kernel_rfl) (by kernel_rfl) agC (by kernel_rfl) (by kernel_rfl) rfl rfl (by kernel_rfl) (by kernel_rfl) (by kernel_rfl)
theorem tabs {W:World}(hS:W.ShapedOpen Tryz.prog)(hL:laidMetH Tryz.prog Rows.fnExactRunSessionRow.laid W):Tabs Tryz.prog (I0 W):=⟨ahj hL,ahk hS,ahl hL,ahm hL⟩
theorem contract (H:Type)(enc:TypeId×Value->H)(W:World)(base:Nat)(args:Array Value)(ds gs:List (DataW H))(before:List MemPlace)
 (hval:∀(j:Nat) t v,Tryz.f3.params[j]? = some t->args[j]? = some v->Value.okWide Tryz.prog W .any base t v)
 (hW:DataW.Whole enc Tryz.prog Tryz.f3.params.toList Rows.fnExactRunSessionSpec.vars false W args.toList ds gs before)
 (hS:W.ShapedOpen Tryz.prog) (hL:laidMetH Tryz.prog Rows.fnExactRunSessionRow.laid W) :
 Calls Tryz.prog 3 args W λe W'=>∃v,e = .returned v/\Rows.fnExactRunSessionSpec.post enc Tryz.prog Tryz.f3 false true false false W args v W':=by
 have hW':=hW;obtain⟨p,q,hA0,hV,rfl,hfz,hnd⟩:=hW;have hA:DataW.TrodAll enc Tryz.prog W 0 (λ_=>true) true Tryz.f3.params.toList args.toList ds p:=hA0;rw[Tryz.params3]at hA hval;obtain⟨v0,vs0,d0,ds0,p0,q0,hargs,rfl,rfl,h0,r0⟩:=trodAll_cons hA;obtain⟨rfl,rfl,rfl⟩:=trodAll_nil r0;obtain rfl:args = #[v0]:=by cases args;simp_all
 obtain⟨rfl,rfl⟩:=trodVars_none hV;clear hA0;simp only[eX]at hW';have hlt:∀x∈p0,x.block<W.heap.size:=λx hx=>hW'.lt x (by simpa using hx);obtain⟨a0,len0,cap0,rfl⟩:=okWide_slice Tryz.underlying22 (hval 0 22 v0 rfl rfl);have hk0:=h0;obtain⟨f0,g0⟩:=h0;obtain⟨x0,u0,m0,n0⟩:=Z5 (t:=22) (tS:=9) (by kernel_rfl) (by kernel_rfl) (by kernel_rfl) g0;obtain⟨n,hn⟩:=(T.JO (ig m0 ags) (λs hs=>ig (n0 s hs) ags)).val;have key:=afq (tabs hS hL) (adU (agy (UN.fst (v:=.slice a0 len0 cap0) u0))) (F.mY hn);refine Calls.mono key λe W' ⟨he,hb⟩=>?_;subst he;have ht:DataW.TrodAll enc Tryz.prog W' 0 (λb=>decide (b<W.heap.size)) true [22] [_] [d0] (p0++[]):=trodAll_cons_mk (Below.trod laidOut (by kernel_rfl) (of_decide_eq_true (by kernel_rfl)) hk0 hb (λx hx=>hlt x hx)) (trodAll_mk0);simp only[eX]at ht;exact⟨_,rfl,_,_,_,[],_,[],hW',trodAll_cons_mk (shut_bool Tryz.underlying4 _) trodAll_mk0,
  ht,rfl,hb.frame _,λh=>by cases h⟩
noncomputable def laidWorld (os:Os):World:=World.laidAll Tryz.prog os Rows.fnExactRunSessionRow.laid
theorem laid_met (os:Os):laidMet Tryz.prog Rows.fnExactRunSessionRow.laid ((laidWorld os).forCall (λ_ _=>0) ⟨#[],#[.slice none 0 0],[]⟩).memory:=
 laidMet_laidAll _ (by kernel_rfl) (by kernel_rfl)
theorem reads (os:Os){H:Type}(enc:TypeId×Value->H):∃places,DataW.whole enc Tryz.prog ((laidWorld os).forCall (λ_ _=>0) ⟨#[],#[.slice none 0 0],[]⟩).memory Tryz.f3.params.toList Rows.fnExactRunSessionSpec.vars false #[.slice none 0 0].toList 8=some ([.nil],[],places):=
 ⟨[],by kernel_rfl⟩
theorem lifted (os:Os)(started:os.Started)(H:Type)(enc:TypeId×Value->H)(F:Stop.Interp) :
 ReturnsInHanded {} Tryz.checked os 3 .any ((vG Rows.fnExactRunSessionSpec).preRow enc Tryz.prog Tryz.f3 Rows.fnExactRunSessionRow.domain false Rows.fnExactRunSessionRow.laid) (((vG Rows.fnExactRunSessionSpec).at F).post enc Tryz.prog Tryz.f3 false true false false):=by
 obtain⟨places,hx⟩:=reads os enc;refine returnsInHanded_of_row (C:=Tryz.checked) (s:=vG Rows.fnExactRunSessionSpec) own started (by kernel_rfl) Tryz.func3
  (witness_row_atRef (enc:=enc) (C:=Tryz.checked) false (laidWorld os) #[.slice none 0 0] (World.laidAll_os _ _ _) (by kernel_rfl) (by kernel_rfl) (by kernel_rfl)
   (OpenSpec.preRow_of_cond 8 hx (by kernel_rfl) (λk hk=>by cases hk) (by kernel_rfl) (laid_met os))) ?_
 intro W base args ds gs before hval hW _ _ _ hL hS _;exact contract H enc W base args ds gs before hval hW hS hL
theorem j1 : (Rows.fnExactRunSessionRow.inPlace==Tryz.prog.inPlace 3)=true:=by kernel_rfl
theorem j2 : (Rows.fnExactRunSessionRow.unfollowed==Tryz.prog.unfollowed 3)=true:=by kernel_rfl
theorem j3 : (Rows.fnExactRunSessionRow.recurses==Tryz.prog.recurses 3)=true:=by kernel_rfl
theorem j4 : (Rows.fnExactRunSessionRow.named==Tryz.prog.varsNamed 3)=true:=by kernel_rfl
theorem j5 : joinedFacts Tryz.prog 3 Tryz.f3 (vG Rows.fnExactRunSessionSpec).bare Rows.fnExactRunSessionRow=true:=by
 unfold joinedFacts;rw[j1,j2,j3,j4]
 kernel_rfl
theorem j6 : Tryz.prog.funcNamed Rows.fnExactRunSessionRow.func=some 3:=by kernel_rfl
theorem said : Rows.FnExactRunSessionSaid:=
 OpenClaim.holds_of_cond 3 Tryz.f3 rfl rfl rfl rfl rfl rfl rfl ⟨rfl,rfl,rfl,rfl,rfl⟩ rfl rfl rfl rfl rfl j6 Tryz.func3 j5
  (of_decide_eq_true (by kernel_rfl)) (by unfold Func.isWrapper;first|(rw[if_pos (by decide +kernel)];kernel_rfl)|(rw[if_neg (by decide +kernel)];exact⟨rfl,rfl⟩))
  (λos started H enc _ F=>by rw[OpenClaim.pre_eq_preRow];exact lifted os started H enc F)
theorem jw : Rows.fnExactRunSessionRow.wfByText (vG Rows.fnExactRunSessionSpec)=true:=by kernel_rfl
theorem jm : Tryz.pinned.checked.prog.mainIs=some (Rows.fnExactRunSessionCard.stood.harness.1,Rows.fnExactRunSessionCard.stood.harness.2.toList):=by kernel_rfl
theorem jg : false=Rows.fnExactRunSessionRow.goesBy Tryz.pinned.checked.prog:=by kernel_rfl
theorem plain (f:FuncId)(fn:Func)(hf:Tryz.pinned.checked.prog.funcNamed Rows.fnExactRunSessionRow.func=some f)(hfn:Tryz.pinned.checked.prog.funcs[f]? = some fn) :
 true=Tryz.pinned.checked.prog.looks []/\∀(j:Nat) t,fn.params[j]? = some t->Tryz.pinned.checked.prog.wantsStandIn t=false:=by
 obtain rfl:f=3:=yt ((show Tryz.prog.funcNamed Rows.fnExactRunSessionRow.func=some 3 by kernel_rfl).symm.trans hf) |>.symm;obtain rfl:fn=Tryz.f3:=(yt (Tryz.func3.symm.trans hfn)).symm;refine⟨by kernel_rfl,λj t ht=>?_⟩;rw[Tryz.params3]at ht;obtain rfl:t=22:=by simpa using Array.mem_of_getElem? ht
 exact(show Tryz.prog.wantsStandIn 22=false by kernel_rfl)
theorem card : Rows.FnExactRunSessionCardSaid:=
 Claim7.holds_tied_plain_at .later [] _ _ _ _ said (λ_ h=>by cases h) jw (λ_ h=>by cases h) fnExactRunSession_row_tie rfl ⟨rfl,rfl⟩ jm rfl plain jg
end Go.Proofs.YtcoolhkhnglfgaaGreatDoor.fnExactRunSession
end
