/- The law FnSessionGet of the package laws answers true for every code of bytes and leaves it as it is (part 1). Conditions: none but what the row lists. -/
import Derived.Test.YtghoohcdipegcaaGreatDoorC4
set_option linter.unusedVariables false
set_option linter.unusedSimpArgs false
set_option maxRecDepth 100000
set_option maxHeartbeats 4000000
open Go.IntKind renaming wrap->af
open Go.Lib renaming pow10Tab->pV
open Go.OpenSpec renaming ofChange->jh
open List renaming append_nil->bM
open Option.some renaming inj->pW
namespace Go.Ab
open Go
def G.rJ (f:Nat)(rE:List Int):Option (Bool):=match f with
|0=>none
|n+1=>(cond (decide (1048576<(rE.length:Int)))
(some (true))
((G.iC n rE).bind λv1=>((G.dU n v1).bind λv2=>((G.iq n v1).bind λv3=>(cond (v2==v3)
(cond (decide (20<(af .i64 ((v1.length:Int)+2))))
((G.iq n v1).bind λv4=>(some ((v2==v4))))
(chk (v1.length*18<=2^46)
(chk ((v1.length+1)*18<=2^46)
((G.dU n (v1++[[99,108,111,99,107]])).bind λv5=>(chk (v1.length*18<=2^46)
(chk ((v1.length+2)*18<=2^46)
((G.dU n (v1++[[103,101,116,32,97,32,32,32,110,117,108,108],[99,108,111,99,107]])).bind λv6=>(cond (decide ((v5.length:Int)<(v2.length:Int)))
(some (false))
(cond (decide ((v6.length:Int)<(v2.length:Int)))
(some (false))
(chk (0<=(v2.length:Int)/\(v2.length:Int)<=(v5.length:Int)/\(v5.length:Int)<=(v5.length:Int))
(chk (0<=(v2.length:Int)/\(v2.length:Int)<=(v6.length:Int)/\(v6.length:Int)<=(v6.length:Int))
(cond (decide (((v5.drop v2.length).length:Int)<((v6.drop v2.length).length:Int)))
(chk (0<=(af .i64 (((v6.drop v2.length).length:Int)-((v5.drop v2.length).length:Int)))/\(af .i64 (((v6.drop v2.length).length:Int)-((v5.drop v2.length).length:Int)))<=((v6.drop v2.length).length:Int)/\((v6.drop v2.length).length:Int)<=((v6.drop v2.length).length:Int))
(some ((((v6.drop v2.length).drop ((af .i64 (((v6.drop v2.length).length:Int)-((v5.drop v2.length).length:Int))).toNat))==(v5.drop v2.length)))))
(some (false))))))))))))))
((G.iq n v1).bind λv7=>(some ((v2==v7)))))))))
def C.rJ : bZ:=(qs [qB 2 false] [0] (.seq (qs [zM 9 0,qL 10 9,qk 11 .gtr 10 1048576] [0,11] (qc 11 (qr [qB 2 true] [2]) .skip)) (qs [zM 12 0,q1 13 6 12,zM 3 13] [3] (qs [zM 14 3,q1 15 7 14,zM 4 15] [3,4] (.seq (qs [zM 16 4,zM 17 3,q1 18 8 17,qb 19 .neq 16 18,zM 20 19,qm 20 false 21 3,zG 20 false 22 (.len (.t 21)),zG 20 false 23 (.bin .add (.t 22) (kI 2)),zG 20 false 24 (.bin .gtr (.t 23) (kI 20)),qQ 25 20 24] [3,4,25] (qc 25 (qr [zM 26 4,zM 27 3,q1 28 8 27,qb 29 .eql 26 28,zM 2 29] [2]) .skip)) (qs [zA 30 (.jK 10 1 0 [.str []] []),zM 31 3,zA 32 (.append 11 1 16 (.t 30) (.t 31)),zA 33 (.jK 12 1 1 [.str []] [(0,.k (.c (.str [99,108,111,99,107])))]),zA 34 (.append 13 1 16 (.t 32) (.t 33)),q1 35 7 34,zM 5 35] [3,4,5] (qs [zA 36 (.jK 14 1 0 [.str []] []),zM 37 3,zA 38 (.append 15 1 16 (.t 36) (.t 37)),zA 39 (.jK 16 1 2 [.str []] [(0,.k (.c (.str [103,101,116,32,97,32,32,32,110,117,108,108]))),(1,.k (.c (.str [99,108,111,99,107])))]),zA 40 (.append 17 1 16 (.t 38) (.t 39)),q1 41 7 40,zM 6 41] [4,5,6] (.seq (qs [zM 42 5,ql 43 42,zM 44 4,ql 45 44,qb 46 .lss 43 45,zM 47 46,qm 47 false 48 6,zG 47 false 49 (.lens (.t 48)),qm 47 false 50 4,zG 47 false 51 (.lens (.t 50)),zG 47 false 52 (.bin .lss (.t 49) (.t 51)),qQ 53 47 52] [4,5,6,53] (qc 53 (qr [qB 2 false] [2]) .skip)) (qs [zM 54 5,zM 55 4,ql 56 55,zA 57 (.Cm (.t 54) (some (.t 56)) none),zM 7 57] [4,6,7] (qs [zM 58 6,zM 59 4,ql 60 59,zA 61 (.Cm (.t 58) (some (.t 60)) none),zM 8 61] [7,8] (qr [zM 62 8,ql 63 62,zM 64 7,ql 65 64,qb 66 .gtr 63 65,zM 67 66,qm 67 true 68 8,qm 67 true 69 8,zG 67 true 70 (.lens (.t 69)),qm 67 true 71 7,zG 67 true 72 (.lens (.t 71)),zG 67 true 73 (.bin .sub (.t 70) (.t 72)),zG 67 true 74 (.Cm (.t 68) (some (.t 73)) none),qm 67 true 75 7,zG 67 true 76 (.bin .eql (.t 74) (.t 75)),qP 77 67 76,zM 2 77] [2])))))))))))
theorem K.rJ : iZ pZ 4 1 0 C.rJ [.tmp 2]=true:=by kernel_rfl
theorem ae5 : EM []=[]:=rfl
abbrev Nr : aK:=[103,101,116,32,97,32,32,32,110,117,108,108]
theorem ace {s:StoreT}{q:RequestT}(h:q.Method=1):(Dc s q).1=s:=by
 unfold Dc;split
 ·rw[if_neg (by omega)]
 ·split
  ·unfold X7;rw[if_pos h]
  ·rfl
theorem ae9 : yt (RequestT.mk 1 [97] [] [] ve [])=Nr:=by
 have hv:Pq (RequestT.mk 1 [97] [] [] ve [])=true:=by decide
 unfold yt;rw[hv];show IY _=_;unfold IY hdT;rw[if_neg (show ¬(1:Int)=4 by decide)];have e1:Hq.getD ((RequestT.mk 1 [97] [] [] ve []).Method).toNat default=[103,101,116]:=rfl;have e2:nX 5 (RequestT.mk 1 [97] [] [] ve []).Body=[110,117,108,108]:=rfl;rw[e1,e2,ae5];rfl
theorem aey (x:SS):(Aa x Nr).2=x:=by have hp:N9 Nr=(RequestT.mk 1 [97] [] [] ve [],true):=(Zb Nr).choose_spec.all _ (by decide) (by decide) ae9;unfold Aa;rw[if_neg (by decide),if_neg (by decide),if_neg (by decide),if_neg (by decide),if_neg (by decide),hp,if_pos rfl,ace rfl]
theorem T.QX {c:List Int}(hc:Bytes c):Ev (λf=>G.rJ f c) true:=by
 refine Ev.up ?_;simp only[G.rJ];refine Ev.ite (λ_=>Ev.ret _) (λe=>?_);obtain⟨l,g,hl⟩:=D.Cc hc (by simp at e;omega);have h12:=hl.len;have same:Ev (λf=>Option.bind (G.iq f l) λv=>some (Jn l==v)) true:=Ev.bind hl.spec (Ev.ret' (by simp));have g1:=T.more hl [Df] (by simp) (λt ht=>by simp at ht;subst ht;simp);have g2:=T.more hl [Nr,Df] (by simp) (λt ht=>by simp at ht;rcases ht with rfl|rfl<;>simp);have hx:=Vj (a:=l) sv0;have e1:=NK (l:=l) (b:=[Df]) (by simp;omega);have e2:=NK (l:=l) (b:=[Nr,Df]) (by simp;omega);have hb:=MM hx Nr;have e3:FC (stM Zh l) [Nr,Df]=((Aa (stM Zh l) Nr).1++[10])++FC (stM Zh l) [Df]:=by simp only[FC,aey];simp
 rw[e1]at g1;rw[e2,e3]at g2;refine Ev.bind g (Ev.bind hl.impl (Ev.bind hl.spec (Ev.ct (by simp) (Ev.ite (λ_=>same) (λ_=>Ev.chk (by omega) (Ev.chk (by omega) (Ev.bind g1 (Ev.chk (by omega) (Ev.chk (by omega) (Ev.bind g2 (Zj ?_ ?_)))))))))))
 ·simp
 ·simp only[List.length_append,List.length_cons,List.length_nil];have:=hb.2;omega
theorem F.rJ {n:Nat} : ∀{rE r},G.rJ n rE=some r->dY pZ 4 [.one (.c (.sl 1 (List.map cU rE)))] (.one (.c (.lit (.bool r)))):=by
 intro rE r h;refine bg K.rJ (qx ?_);unfold C.rJ;rcases n with _|n<;>simp only[G.rJ,reduceCtorEq]at h;have z:=pp (pp @F.iC <|pp @F.dU <|pp @F.iq ()) <|pp () <|pp () <|pp () <|pp () <|pp () <|()
 exact rF
end Go.Ab
section
namespace Go.Proofs.YtghoohcdipegcaaGreatDoor.fnSessionGet
open Go Go.ChangeShapes Go.WideShapes Go.ChangeAt Go.RowKit Go.Ab
theorem own : ownKnob Tryz.prog.godebug=none:=by kernel_rfl
theorem laidOut : laidOutB Tryz.prog=true:=by kernel_rfl
theorem cellsB : Tryz.prog.cellsOf 5=1:=by kernel_rfl
theorem calls (zs:List Int)(hz:∀z,z∈zs->0<=z/\z<256):dY Tryz.prog 4 [vSl 1 (zs.map O4)] (yx true):=by obtain⟨n,hn⟩:=(T.QX hz).val;exact F.rJ hn
theorem met {W:World}(h:laidMetH Tryz.prog Rows.fnSessionGetRow.laid W):laidMet Tryz.prog Rows.fnSessionGetRow.laid W:=by unfold laidMetH at h;rw[show(Rows.fnSessionGetRow.laid.filter λx=>x.2.handleName?.isSome)=[]from by kernel_rfl]at h;exact h
theorem adw {W:World} (hL:laidMetH Tryz.prog Rows.fnSessionGetRow.laid W):∀g,Tryz.prog.globalNamed "internal/strconv.uint64pow10" = some g->I0 W g=some (pV.map λz=>Go.Value.int .u64 z).toArray:=by
 have h:=BJ 2 (met hL);rw[show Rows.fnSessionGetRow.laid.drop 2=("internal/strconv.uint64pow10",Go.Lib.tabData .u64 pV)::Rows.fnSessionGetRow.laid.drop 3 from by kernel_rfl]at h
 exact Yn (g:=0) (t:=175) (e:=132) (by kernel_rfl) (by kernel_rfl) (by kernel_rfl) (by kernel_rfl) (by kernel_rfl) (by kernel_rfl) h
theorem adx {W:World} (hS:W.ShapedOpen Tryz.prog):∀g,Tryz.prog.globalNamed "internal/bytealg.MaxLen" = some g->∃m,(I0 W).cell ⟨g,0,none⟩=some (.int .i64 m):=
 Yj (g:=1) (t:=3) hS (by kernel_rfl) (of_decide_eq_true (by kernel_rfl)) (by kernel_rfl) (by kernel_rfl) (by kernel_rfl) (by kernel_rfl)
theorem Ph : "*" ++ "errors.errorString" = "*errors.errorString" :=by decide
theorem WZ (u:TypeId) (h:Tryz.prog.typeName? 3 u=some "*errors.errorString"):u=234:=
 typeName_ptr_named (nm:= "errors.errorString") (by rw[Ph];kernel_rfl) (by kernel_rfl) (by decide) u (by rw[Ph];exact h)
theorem ady {W:World} (hL:laidMetH Tryz.prog Rows.fnSessionGetRow.laid W):∀g,Tryz.prog.globalNamed "strconv.ErrSyntax" = some g->∃v,(I0 W).cell ⟨g,0,none⟩=some v/\(v = .nilIface\/∃t p,v = .iface t p):=by
 have h:=BJ 5 (met hL);rw[show Rows.fnSessionGetRow.laid.drop 5=("strconv.ErrSyntax",.iface "*errors.errorString" (.ptr (.agg [.lit (.string [105,110,118,97,108,105,100,32,115,121,110,116,97,120])])))::Rows.fnSessionGetRow.laid.drop 6 from by kernel_rfl]at h
 exact Oq (g:=6) (ti:=42) (tp:=234) (te:=236) (ts:=9) (ms:= #[("Error",47)]) (f:={ name:= "s",type:=9,offset:=0,embedded:=false,tag:= "",pkgPath:= "errors",byteOffset:=0 }) h (by kernel_rfl) (by kernel_rfl) (by kernel_rfl) WZ (by kernel_rfl) (by kernel_rfl) rfl rfl (by kernel_rfl) (by kernel_rfl) (by kernel_rfl)
theorem adz {W:World} (hL:laidMetH Tryz.prog Rows.fnSessionGetRow.laid W):∀g,Tryz.prog.globalNamed "strconv.ErrRange" = some g->∃v,(I0 W).cell ⟨g,0,none⟩=some v/\(v = .nilIface\/∃t p,v = .iface t p):=by
 have h:=BJ 4 (met hL);rw[show Rows.fnSessionGetRow.laid.drop 4=("strconv.ErrRange",.iface "*errors.errorString" (.ptr (.agg [.lit (.string [118,97,108,117,101,32,111,117,116,32,111,102,32,114,97,110,103,101])])))::Rows.fnSessionGetRow.laid.drop 5 from by kernel_rfl]at h
 exact Oq (g:=7) (ti:=42) (tp:=234) (te:=236) (ts:=9) (ms:= #[("Error",47)]) (f:={ name:= "s",type:=9,offset:=0,embedded:=false,tag:= "",pkgPath:= "errors",byteOffset:=0 }) h (by kernel_rfl) (by kernel_rfl) (by kernel_rfl) WZ (by kernel_rfl) (by kernel_rfl) rfl rfl (by kernel_rfl) (by kernel_rfl) (by kernel_rfl)
theorem tabs {W:World}(hS:W.ShapedOpen Tryz.prog)(hL:laidMetH Tryz.prog Rows.fnSessionGetRow.laid W):Tabs Tryz.prog (I0 W):=⟨adw hL,adx hS,ady hL,adz hL⟩
theorem contract (H:Type)(enc:TypeId×Value->H)(W:World)(base:Nat)(args:Array Value)(ds gs:List (DataW H))(before:List MemPlace)
 (hval:∀(j:Nat) t v,Tryz.f4.params[j]? = some t->args[j]? = some v->Go.Value.okWide Tryz.prog W .any base t v)
 (hW:DataW.Whole enc Tryz.prog Tryz.f4.params.toList Rows.fnSessionGetSpec.vars false W args.toList ds gs before)
 (hS:W.ShapedOpen Tryz.prog) (hL:laidMetH Tryz.prog Rows.fnSessionGetRow.laid W) :
 Calls Tryz.prog 4 args W λe W'=>∃v,e = .returned v/\Rows.fnSessionGetSpec.post enc Tryz.prog Tryz.f4 false true false false W args v W':=by
 have hW':=hW;obtain⟨p,q,hA0,hV,rfl,hfz,hnd⟩:=hW;have hA:DataW.TrodAll enc Tryz.prog W 0 (λ_=>true) true Tryz.f4.params.toList args.toList ds p:=hA0;rw[Tryz.params4]at hA hval;obtain⟨v0,vs0,d0,ds0,p0,q0,hargs,rfl,rfl,h0,r0⟩:=trodAll_cons hA;obtain⟨rfl,rfl,rfl⟩:=trodAll_nil r0;obtain rfl:args = #[v0]:=by cases args;simp_all
 obtain⟨rfl,rfl⟩:=trodVars_none hV;clear hA0;simp only[bM]at hW';have hlt:∀x∈p0,x.block<W.heap.size:=λx hx=>by simpa using hW'.lt x hx
 refine(OE (enc:=enc) (tabs hS hL) Tryz.underlying22 Tryz.underlying5 cellsB (hval 0 22 v0 rfl rfl) h0 (λzs _ hz=>calls zs hz)).mono λe W' ⟨he,hb⟩=>?_;subst he;have ht:DataW.TrodAll enc Tryz.prog W' 0 (λb=>decide (b<W.heap.size)) true [22] [v0] [d0] (p0++[]):=trodAll_cons_mk (Below.trod laidOut (by kernel_rfl) (of_decide_eq_true (by kernel_rfl)) h0 hb hlt) trodAll_mk0;rw[bM]at ht;exact⟨_,rfl,_,_,_,[],p0,[],hW',trodAll_cons_mk (shut_bool Tryz.underlying4 _) trodAll_mk0,
  ht,rfl,hb.frame _,λh=>by cases h⟩
noncomputable def laidWorld (os:Os):World:=Go.World.laidAll Tryz.prog os Rows.fnSessionGetRow.laid
theorem laid_met (os:Os):laidMet Tryz.prog Rows.fnSessionGetRow.laid ((laidWorld os).forCall (λ_ _=>0) ⟨#[],#[.slice none 0 0],[]⟩).memory:=
 laidMet_laidAll _ (by kernel_rfl) (by kernel_rfl)
theorem reads (os:Os){H:Type}(enc:TypeId×Value->H):∃places,Go.DataW.whole enc Tryz.prog ((laidWorld os).forCall (λ_ _=>0) ⟨#[],#[.slice none 0 0],[]⟩).memory Tryz.f4.params.toList Rows.fnSessionGetSpec.vars false #[Go.Value.slice none 0 0].toList 8=some ([.nil],[],places):=
 ⟨[],by kernel_rfl⟩
theorem lifted (os:Os)(started:os.Started)(H:Type)(enc:TypeId×Value->H)(F:Stop.Interp) :
 ReturnsInHanded {} Tryz.checked os 4 .any ((jh Rows.fnSessionGetSpec).preRow enc Tryz.prog Tryz.f4 Rows.fnSessionGetRow.domain false Rows.fnSessionGetRow.laid) (((jh Rows.fnSessionGetSpec).at F).post enc Tryz.prog Tryz.f4 false true false false):=by
 obtain⟨places,hx⟩:=reads os enc;refine returnsInHanded_of_row (C:=Tryz.checked) (s:=jh Rows.fnSessionGetSpec) own started (by kernel_rfl) Tryz.func4
  (witness_row_atRef (enc:=enc) (C:=Tryz.checked) false (laidWorld os) #[.slice none 0 0] (Go.World.laidAll_os _ _ _) (by kernel_rfl) (by kernel_rfl) (by kernel_rfl)
   (Go.OpenSpec.preRow_of_cond 8 hx (by kernel_rfl) (λk hk=>by cases hk) (by kernel_rfl) (laid_met os))) ?_
 intro W base args ds gs before hval hW _ _ _ hL hS _;exact contract H enc W base args ds gs before hval hW hS hL
theorem j1 : (Rows.fnSessionGetRow.inPlace==Tryz.prog.inPlace 4)=true:=by kernel_rfl
theorem j2 : (Rows.fnSessionGetRow.unfollowed==Tryz.prog.unfollowed 4)=true:=by kernel_rfl
theorem j3 : (Rows.fnSessionGetRow.recurses==Tryz.prog.recurses 4)=true:=by kernel_rfl
theorem j4 : (Rows.fnSessionGetRow.named==Tryz.prog.varsNamed 4)=true:=by kernel_rfl
theorem j5 : joinedFacts Tryz.prog 4 Tryz.f4 (jh Rows.fnSessionGetSpec).bare Rows.fnSessionGetRow=true:=by
 unfold joinedFacts;rw[j1,j2,j3,j4]
 kernel_rfl
theorem j6 : Tryz.prog.funcNamed Rows.fnSessionGetRow.func=some 4:=by kernel_rfl
theorem said : Rows.FnSessionGetSaid:=
 Go.OpenClaim.holds_of_cond 4 Tryz.f4 rfl rfl rfl rfl rfl rfl rfl ⟨rfl,rfl,rfl,rfl,rfl⟩ rfl rfl rfl rfl rfl j6 Tryz.func4 j5
  (of_decide_eq_true (by kernel_rfl)) (by unfold Go.Func.isWrapper;first|(rw[if_pos (by decide +kernel)];kernel_rfl)|(rw[if_neg (by decide +kernel)];exact⟨rfl,rfl⟩))
  (λos started H enc _ F=>by rw[Go.OpenClaim.pre_eq_preRow];exact lifted os started H enc F)
theorem jw : Rows.fnSessionGetRow.wfByText (jh Rows.fnSessionGetSpec)=true:=by kernel_rfl
theorem jm : Tryz.pinned.checked.prog.mainIs=some (Rows.fnSessionGetCard.stood.harness.1,Rows.fnSessionGetCard.stood.harness.2.toList):=by kernel_rfl
theorem jg : false=Rows.fnSessionGetRow.goesBy Tryz.pinned.checked.prog:=by kernel_rfl
theorem plain (f:FuncId)(fn:Func)(hf:Tryz.pinned.checked.prog.funcNamed Rows.fnSessionGetRow.func=some f)(hfn:Tryz.pinned.checked.prog.funcs[f]? = some fn) :
 true=Tryz.pinned.checked.prog.looks []/\∀(j:Nat) t,fn.params[j]? = some t->Tryz.pinned.checked.prog.wantsStandIn t=false:=by
 obtain rfl:f=4:=pW ((show Tryz.prog.funcNamed Rows.fnSessionGetRow.func=some 4 by kernel_rfl).symm.trans hf) |>.symm;obtain rfl:fn=Tryz.f4:=(pW (Tryz.func4.symm.trans hfn)).symm;refine⟨by kernel_rfl,λj t ht=>?_⟩;rw[Tryz.params4]at ht;obtain rfl:t=22:=by simpa using Array.mem_of_getElem? ht
 exact(show Tryz.prog.wantsStandIn 22=false by kernel_rfl)
theorem card : Rows.FnSessionGetCardSaid:=
 Claim7.holds_tied_plain_at .later [] _ _ _ _ said (λ_ h=>by cases h) jw (λ_ h=>by cases h) fnSessionGet_row_tie rfl ⟨rfl,rfl⟩ jm rfl plain jg
end Go.Proofs.YtghoohcdipegcaaGreatDoor.fnSessionGet
end
