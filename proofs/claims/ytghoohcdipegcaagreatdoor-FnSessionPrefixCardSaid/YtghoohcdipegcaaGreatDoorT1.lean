/- The law FnSessionPrefix of the package laws answers true for every code of bytes and leaves it as it is (part 1). Conditions: none but what the row lists. -/
import Derived.Test.YtghoohcdipegcaaGreatDoorC4
set_option linter.unusedVariables false
set_option linter.unusedSimpArgs false
set_option maxRecDepth 100000
set_option maxHeartbeats 4000000
open Go.Lib renaming pow10Tab->pV
open Go.OpenSpec renaming ofChange->jh
open List renaming take_take->EX,append_nil->bM
open Option.some renaming inj->pW
namespace Go.Ab
open Go
def G.je.L1 (f:Nat)(v1:List aK)(v2:aK)(Jj:Int):Option (Bool):=match f with
|0=>none
|n+1=>(cond (decide (Jj<(v1.length:Int)))
(chk (0<=0/\0<=Jj/\Jj<=(v1.length:Int))
((G.dU n (v1.take Jj.toNat)).bind λv6=>(cond (decide ((v2.length:Int)<(v6.length:Int)))
(some (false))
(chk (0<=0/\0<=(v6.length:Int)/\(v6.length:Int)<=(v2.length:Int))
(cond ((v2.take v6.length)==v6)
(G.je.L1 n v1 v2 (Go.IntKind.wrap .i64 (Jj+1)))
(some (false)))))))
(some (true)))
def G.je (f:Nat)(rE:List Int):Option (Bool):=match f with
|0=>none
|n+1=>(cond (decide (1048576<(rE.length:Int)))
(some (true))
((G.iC n rE).bind λv1=>((G.dU n v1).bind λv2=>((G.iq n v1).bind λv3=>(cond (v2==v3)
(G.je.L1 n v1 v2 0)
(some (false)))))))
def C.je : bZ:=(qs [qB 2 false] [0] (.seq (qs [zM 7 0,qL 8 7,qk 9 .gtr 8 1048576] [0,9] (qc 9 (qr [qB 2 true] [2]) .skip)) (qs [zM 10 0,q1 11 6 10,zM 3 11] [3] (qs [zM 12 3,q1 13 7 12,zM 4 13] [3,4] (.seq (qs [zM 14 4,zM 15 3,q1 16 8 15,qb 17 .neq 14 16] [3,4,17] (qc 17 (qr [qB 2 false] [2]) .skip)) (.seq (qs [qI 5 0] [3,4,5] (.block 0 (.loop (.seq (qs [zM 18 5,zM 19 3,qL 20 19,qb 21 .lss 18 20] [3,4,5,21] (qc 21 .skip (.exit 0))) (.seq (.block 1 (qs [zM 24 3,zM 25 5,zA 26 (.FD 1 (.t 24) none (some (.t 25))),q1 27 7 26,zM 6 27] [3,4,5,6] (qs [zM 28 6,ql 29 28,zM 30 4,ql 31 30,qb 32 .gtr 29 31,zM 33 32,qm 33 false 34 4,qm 33 false 35 6,zG 33 false 36 (.lens (.t 35)),zG 33 false 37 (.Cm (.t 34) none (some (.t 36))),qm 33 false 38 6,zG 33 false 39 (.bin .neq (.t 37) (.t 38)),qQ 40 33 39] [3,4,5,40] (qc 40 (qr [qB 2 false] [2]) .skip)))) (.reg [zM 22 5,qk 23 .add 22 1,zM 5 23] [3,4,5])))))) (qr [qB 2 true] [2])))))))
theorem K.je : iZ pZ 5 1 0 C.je [.tmp 2]=true:=by kernel_rfl
theorem Yv (l:List aK)(n:Nat):Jn (l.take n) <+: Jn l:=by
 unfold Jn;have e:(l.take n).take 20=(l.take 20).take n:=by rw[EX,EX,Nat.min_comm]
 rw[e]
 conv=>rhs;rw[<- List.take_append_drop n (l.take 20)]
 rw[Rq];exact List.prefix_append _ _
theorem T.Np {c:List Int}(hc:Bytes c):Ev (λf=>G.je f c) true:=by
 refine Ev.up ?_;simp only[G.je];refine Ev.ite (λ_=>Ev.ret _) (λe=>?_);obtain⟨l,g,hl⟩:=D.Cc hc (by simp at e;omega);have h12:=hl.len;have L:∀(k i:Nat),i+k=l.length->Ev (λf=>G.je.L1 f l (Jn l) (i:Int)) true:=by
  intro k
  induction k with
  | zero=>intro i hi;refine Ev.up ?_;simp only[G.je.L1];exact Ev.cf (decide_eq_false (by omega)) (Ev.ret _)
  | succ k ih=>intro i hi;have hp:=Yv l i;have hle:=hp.length_le;have gi:Ev (λf=>G.dU f (l.take i)) (Jn (l.take i)):=T.dU (by rw[List.length_take];omega) (λt ht=>by have:=hl.txt t (List.mem_of_mem_take ht);omega);refine Ev.up ?_;simp only[G.je.L1,Int.toNat_natCast,dF (show i+1<9223372036854775808 by omega)];refine Ev.ct (decide_eq_true (by omega)) (Ev.chk ⟨by omega,by omega,by omega⟩ (Ev.bind gi (Ev.cf (decide_eq_false (by omega)) (Ev.chk ⟨by omega,by omega,by omega⟩ (Ev.ct ?_ (ih (i+1) (by omega)))))));rw[<- List.prefix_iff_eq_take.1 hp];simp
 exact Ev.bind g (Ev.bind hl.impl (Ev.bind hl.spec (Ev.ct (by simp) (L l.length 0 (by omega)))))
theorem F.je {n:Nat} : ∀{rE r},G.je n rE=some r->dY pZ 5 [.one (.c (.sl 1 (List.map cU rE)))] (.one (.c (.lit (.bool r)))):=by
 intro rE r h;refine bg K.je (qx ?_);unfold C.je;rcases n with _|n<;>simp only[G.je,reduceCtorEq]at h;have z:=pp (pp @F.iC <|pp @F.dU <|pp @F.iq ()) <|pp () <|pp (pp (@su (List aK×aK×Int) _ (λn x=>G.je.L1 n x.1 x.2.1 x.2.2) r (λx=>iH.of [eT 3 x.1,eS 4 x.2.1,eI 5 x.2.2] [])) ()) <|pp () <|pp (pp (aW @G.je.L1.eq_1 <|@G.je.L1.eq_2) ()) <|pp (pp (@dO [] [] []) ()) <|()
 exact rF
end Go.Ab
section
namespace Go.Proofs.YtghoohcdipegcaaGreatDoor.fnSessionPrefix
open Go Go.ChangeShapes Go.WideShapes Go.ChangeAt Go.RowKit Go.Ab
theorem own : ownKnob Tryz.prog.godebug=none:=by kernel_rfl
theorem laidOut : laidOutB Tryz.prog=true:=by kernel_rfl
theorem cellsB : Tryz.prog.cellsOf 5=1:=by kernel_rfl
theorem calls (zs:List Int)(hz:∀z,z∈zs->0<=z/\z<256):dY Tryz.prog 5 [vSl 1 (zs.map O4)] (yx true):=by obtain⟨n,hn⟩:=(T.Np hz).val;exact F.je hn
theorem met {W:World}(h:laidMetH Tryz.prog Rows.fnSessionPrefixRow.laid W):laidMet Tryz.prog Rows.fnSessionPrefixRow.laid W:=by unfold laidMetH at h;rw[show(Rows.fnSessionPrefixRow.laid.filter λx=>x.2.handleName?.isSome)=[]from by kernel_rfl]at h;exact h
theorem adw {W:World} (hL:laidMetH Tryz.prog Rows.fnSessionPrefixRow.laid W):∀g,Tryz.prog.globalNamed "internal/strconv.uint64pow10" = some g->I0 W g=some (pV.map λz=>Go.Value.int .u64 z).toArray:=by
 have h:=BJ 2 (met hL);rw[show Rows.fnSessionPrefixRow.laid.drop 2=("internal/strconv.uint64pow10",Go.Lib.tabData .u64 pV)::Rows.fnSessionPrefixRow.laid.drop 3 from by kernel_rfl]at h
 exact Yn (g:=0) (t:=175) (e:=132) (by kernel_rfl) (by kernel_rfl) (by kernel_rfl) (by kernel_rfl) (by kernel_rfl) (by kernel_rfl) h
theorem adx {W:World} (hS:W.ShapedOpen Tryz.prog):∀g,Tryz.prog.globalNamed "internal/bytealg.MaxLen" = some g->∃m,(I0 W).cell ⟨g,0,none⟩=some (.int .i64 m):=
 Yj (g:=1) (t:=3) hS (by kernel_rfl) (of_decide_eq_true (by kernel_rfl)) (by kernel_rfl) (by kernel_rfl) (by kernel_rfl) (by kernel_rfl)
theorem Ph : "*" ++ "errors.errorString" = "*errors.errorString" :=by decide
theorem WZ (u:TypeId) (h:Tryz.prog.typeName? 3 u=some "*errors.errorString"):u=234:=
 typeName_ptr_named (nm:= "errors.errorString") (by rw[Ph];kernel_rfl) (by kernel_rfl) (by decide) u (by rw[Ph];exact h)
theorem ady {W:World} (hL:laidMetH Tryz.prog Rows.fnSessionPrefixRow.laid W):∀g,Tryz.prog.globalNamed "strconv.ErrSyntax" = some g->∃v,(I0 W).cell ⟨g,0,none⟩=some v/\(v = .nilIface\/∃t p,v = .iface t p):=by
 have h:=BJ 5 (met hL);rw[show Rows.fnSessionPrefixRow.laid.drop 5=("strconv.ErrSyntax",.iface "*errors.errorString" (.ptr (.agg [.lit (.string [105,110,118,97,108,105,100,32,115,121,110,116,97,120])])))::Rows.fnSessionPrefixRow.laid.drop 6 from by kernel_rfl]at h
 exact Oq (g:=6) (ti:=42) (tp:=234) (te:=236) (ts:=9) (ms:= #[("Error",47)]) (f:={ name:= "s",type:=9,offset:=0,embedded:=false,tag:= "",pkgPath:= "errors",byteOffset:=0 }) h (by kernel_rfl) (by kernel_rfl) (by kernel_rfl) WZ (by kernel_rfl) (by kernel_rfl) rfl rfl (by kernel_rfl) (by kernel_rfl) (by kernel_rfl)
theorem adz {W:World} (hL:laidMetH Tryz.prog Rows.fnSessionPrefixRow.laid W):∀g,Tryz.prog.globalNamed "strconv.ErrRange" = some g->∃v,(I0 W).cell ⟨g,0,none⟩=some v/\(v = .nilIface\/∃t p,v = .iface t p):=by
 have h:=BJ 4 (met hL);rw[show Rows.fnSessionPrefixRow.laid.drop 4=("strconv.ErrRange",.iface "*errors.errorString" (.ptr (.agg [.lit (.string [118,97,108,117,101,32,111,117,116,32,111,102,32,114,97,110,103,101])])))::Rows.fnSessionPrefixRow.laid.drop 5 from by kernel_rfl]at h
 exact Oq (g:=7) (ti:=42) (tp:=234) (te:=236) (ts:=9) (ms:= #[("Error",47)]) (f:={ name:= "s",type:=9,offset:=0,embedded:=false,tag:= "",pkgPath:= "errors",byteOffset:=0 }) h (by kernel_rfl) (by kernel_rfl) (by kernel_rfl) WZ (by kernel_rfl) (by kernel_rfl) rfl rfl (by kernel_rfl) (by kernel_rfl) (by kernel_rfl)
theorem tabs {W:World}(hS:W.ShapedOpen Tryz.prog)(hL:laidMetH Tryz.prog Rows.fnSessionPrefixRow.laid W):Tabs Tryz.prog (I0 W):=⟨adw hL,adx hS,ady hL,adz hL⟩
theorem contract (H:Type)(enc:TypeId×Value->H)(W:World)(base:Nat)(args:Array Value)(ds gs:List (DataW H))(before:List MemPlace)
 (hval:∀(j:Nat) t v,Tryz.f5.params[j]? = some t->args[j]? = some v->Go.Value.okWide Tryz.prog W .any base t v)
 (hW:DataW.Whole enc Tryz.prog Tryz.f5.params.toList Rows.fnSessionPrefixSpec.vars false W args.toList ds gs before)
 (hS:W.ShapedOpen Tryz.prog) (hL:laidMetH Tryz.prog Rows.fnSessionPrefixRow.laid W) :
 Calls Tryz.prog 5 args W λe W'=>∃v,e = .returned v/\Rows.fnSessionPrefixSpec.post enc Tryz.prog Tryz.f5 false true false false W args v W':=by
 have hW':=hW;obtain⟨p,q,hA0,hV,rfl,hfz,hnd⟩:=hW;have hA:DataW.TrodAll enc Tryz.prog W 0 (λ_=>true) true Tryz.f5.params.toList args.toList ds p:=hA0;rw[Tryz.params5]at hA hval;obtain⟨v0,vs0,d0,ds0,p0,q0,hargs,rfl,rfl,h0,r0⟩:=trodAll_cons hA;obtain⟨rfl,rfl,rfl⟩:=trodAll_nil r0;obtain rfl:args = #[v0]:=by cases args;simp_all
 obtain⟨rfl,rfl⟩:=trodVars_none hV;clear hA0;simp only[bM]at hW';have hlt:∀x∈p0,x.block<W.heap.size:=λx hx=>by simpa using hW'.lt x hx
 refine(OE (enc:=enc) (tabs hS hL) Tryz.underlying22 Tryz.underlying5 cellsB (hval 0 22 v0 rfl rfl) h0 (λzs _ hz=>calls zs hz)).mono λe W' ⟨he,hb⟩=>?_;subst he;have ht:DataW.TrodAll enc Tryz.prog W' 0 (λb=>decide (b<W.heap.size)) true [22] [v0] [d0] (p0++[]):=trodAll_cons_mk (Below.trod laidOut (by kernel_rfl) (of_decide_eq_true (by kernel_rfl)) h0 hb hlt) trodAll_mk0;rw[bM]at ht;exact⟨_,rfl,_,_,_,[],p0,[],hW',trodAll_cons_mk (shut_bool Tryz.underlying4 _) trodAll_mk0,
  ht,rfl,hb.frame _,λh=>by cases h⟩
noncomputable def laidWorld (os:Os):World:=Go.World.laidAll Tryz.prog os Rows.fnSessionPrefixRow.laid
theorem laid_met (os:Os):laidMet Tryz.prog Rows.fnSessionPrefixRow.laid ((laidWorld os).forCall (λ_ _=>0) ⟨#[],#[.slice none 0 0],[]⟩).memory:=
 laidMet_laidAll _ (by kernel_rfl) (by kernel_rfl)
theorem reads (os:Os){H:Type}(enc:TypeId×Value->H):∃places,Go.DataW.whole enc Tryz.prog ((laidWorld os).forCall (λ_ _=>0) ⟨#[],#[.slice none 0 0],[]⟩).memory Tryz.f5.params.toList Rows.fnSessionPrefixSpec.vars false #[Go.Value.slice none 0 0].toList 8=some ([.nil],[],places):=
 ⟨[],by kernel_rfl⟩
theorem lifted (os:Os)(started:os.Started)(H:Type)(enc:TypeId×Value->H)(F:Stop.Interp) :
 ReturnsInHanded {} Tryz.checked os 5 .any ((jh Rows.fnSessionPrefixSpec).preRow enc Tryz.prog Tryz.f5 Rows.fnSessionPrefixRow.domain false Rows.fnSessionPrefixRow.laid) (((jh Rows.fnSessionPrefixSpec).at F).post enc Tryz.prog Tryz.f5 false true false false):=by
 obtain⟨places,hx⟩:=reads os enc;refine returnsInHanded_of_row (C:=Tryz.checked) (s:=jh Rows.fnSessionPrefixSpec) own started (by kernel_rfl) Tryz.func5
  (witness_row_atRef (enc:=enc) (C:=Tryz.checked) false (laidWorld os) #[.slice none 0 0] (Go.World.laidAll_os _ _ _) (by kernel_rfl) (by kernel_rfl) (by kernel_rfl)
   (Go.OpenSpec.preRow_of_cond 8 hx (by kernel_rfl) (λk hk=>by cases hk) (by kernel_rfl) (laid_met os))) ?_
 intro W base args ds gs before hval hW _ _ _ hL hS _;exact contract H enc W base args ds gs before hval hW hS hL
theorem j1 : (Rows.fnSessionPrefixRow.inPlace==Tryz.prog.inPlace 5)=true:=by kernel_rfl
theorem j2 : (Rows.fnSessionPrefixRow.unfollowed==Tryz.prog.unfollowed 5)=true:=by kernel_rfl
theorem j3 : (Rows.fnSessionPrefixRow.recurses==Tryz.prog.recurses 5)=true:=by kernel_rfl
theorem j4 : (Rows.fnSessionPrefixRow.named==Tryz.prog.varsNamed 5)=true:=by kernel_rfl
theorem j5 : joinedFacts Tryz.prog 5 Tryz.f5 (jh Rows.fnSessionPrefixSpec).bare Rows.fnSessionPrefixRow=true:=by
 unfold joinedFacts;rw[j1,j2,j3,j4]
 kernel_rfl
theorem j6 : Tryz.prog.funcNamed Rows.fnSessionPrefixRow.func=some 5:=by kernel_rfl
theorem said : Rows.FnSessionPrefixSaid:=
 Go.OpenClaim.holds_of_cond 5 Tryz.f5 rfl rfl rfl rfl rfl rfl rfl ⟨rfl,rfl,rfl,rfl,rfl⟩ rfl rfl rfl rfl rfl j6 Tryz.func5 j5
  (of_decide_eq_true (by kernel_rfl)) (by unfold Go.Func.isWrapper;first|(rw[if_pos (by decide +kernel)];kernel_rfl)|(rw[if_neg (by decide +kernel)];exact⟨rfl,rfl⟩))
  (λos started H enc _ F=>by rw[Go.OpenClaim.pre_eq_preRow];exact lifted os started H enc F)
theorem jw : Rows.fnSessionPrefixRow.wfByText (jh Rows.fnSessionPrefixSpec)=true:=by kernel_rfl
theorem jm : Tryz.pinned.checked.prog.mainIs=some (Rows.fnSessionPrefixCard.stood.harness.1,Rows.fnSessionPrefixCard.stood.harness.2.toList):=by kernel_rfl
theorem jg : false=Rows.fnSessionPrefixRow.goesBy Tryz.pinned.checked.prog:=by kernel_rfl
theorem plain (f:FuncId)(fn:Func)(hf:Tryz.pinned.checked.prog.funcNamed Rows.fnSessionPrefixRow.func=some f)(hfn:Tryz.pinned.checked.prog.funcs[f]? = some fn) :
 true=Tryz.pinned.checked.prog.looks []/\∀(j:Nat) t,fn.params[j]? = some t->Tryz.pinned.checked.prog.wantsStandIn t=false:=by
 obtain rfl:f=5:=pW ((show Tryz.prog.funcNamed Rows.fnSessionPrefixRow.func=some 5 by kernel_rfl).symm.trans hf) |>.symm;obtain rfl:fn=Tryz.f5:=(pW (Tryz.func5.symm.trans hfn)).symm;refine⟨by kernel_rfl,λj t ht=>?_⟩;rw[Tryz.params5]at ht;obtain rfl:t=22:=by simpa using Array.mem_of_getElem? ht
 exact(show Tryz.prog.wantsStandIn 22=false by kernel_rfl)
theorem card : Rows.FnSessionPrefixCardSaid:=
 Claim7.holds_tied_plain_at .later [] _ _ _ _ said (λ_ h=>by cases h) jw (λ_ h=>by cases h) fnSessionPrefix_row_tie rfl ⟨rfl,rfl⟩ jm rfl plain jg
end Go.Proofs.YtghoohcdipegcaaGreatDoor.fnSessionPrefix
end
