/- The law FnRunRequests of the package laws answers true for every code of bytes and leaves it as it is (part 1). Conditions: none but what the row lists. -/
import Derived.Test.YtaejlonmildglaaGreatDoorB4
set_option linter.unusedVariables false
set_option linter.unusedSimpArgs false
section
namespace Go.Ab
open Go
set_option maxRecDepth 100000
set_option maxHeartbeats 4000000
set_option linter.unusedVariables false
set_option linter.unusedSimpArgs false
def G.iR.K1 (f:Nat) (v1:StoreT × List RequestT) (v2:StoreT × List aj):Option (Bool):=match f with
| 0=>none
| n+1 =>
(chk (0<=0/\0<=(IntKind.wrap .i64 (Int.tdiv ((v1.2.length:Nat):Int) 2))/\(IntKind.wrap .i64 (Int.tdiv ((v1.2.length:Nat):Int) 2))<=((v1.2.length:Nat):Int))
((G.dF n v1.1 (v1.2.take ((IntKind.wrap .i64 (Int.tdiv ((v1.2.length:Nat):Int) 2)).toNat))).bind fun v12 =>
(chk (0<=(IntKind.wrap .i64 (Int.tdiv ((v1.2.length:Nat):Int) 2))/\(IntKind.wrap .i64 (Int.tdiv ((v1.2.length:Nat):Int) 2))<=((v1.2.length:Nat):Int)/\((v1.2.length:Nat):Int)<=((v1.2.length:Nat):Int))
((G.dF n v12.1 (v1.2.drop ((IntKind.wrap .i64 (Int.tdiv ((v1.2.length:Nat):Int) 2)).toNat))).bind fun v13 =>
((G.aK n v13.1 v2.1).bind fun v14 =>
(cond v14
(chk (v12.2.length*121<=2^46)
(chk ((v12.2.length+v13.2.length)*121<=2^46)
((G.aN n (v12.2++v13.2) v2.2).bind fun v15 =>
(some (v15)))))
(some (false))))))))
def G.iR (f:Nat) (dw:List Int):Option (Bool):=match f with
| 0=>none
| n+1 =>
(cond (decide (1048576<((dw.length:Nat):Int)))
(some (true))
((G.jc n dw).bind fun v1 =>
((G.dF n v1.1 v1.2).bind fun v2 =>
((G.eY n v1.1 v1.2).bind fun v3 =>
((G.aK n v2.1 v3.1).bind fun v16 =>
(cond v16
((G.aN n v2.2 v3.2).bind fun v17 =>
(cond v17
(cond (((v2.2.length:Nat):Int)==0)
((G.aK n v2.1 v3.1).bind fun v18 =>
(cond v18
((G.aN n v2.2 v3.2).bind fun v19 =>
(some (v19)))
(some (false))))
(G.iR.K1 n v1 v2))
((G.aK n v2.1 v3.1).bind fun v20 =>
(cond v20
((G.aN n v2.2 v3.2).bind fun v21 =>
(some (v21)))
(some (false))))))
((G.aK n v2.1 v3.1).bind fun v22 =>
(cond v22
((G.aN n v2.2 v3.2).bind fun v23 =>
(some (v23)))
(some (false))))))))))
end Go.Ab
end
section
namespace Go.Ab
open Go
set_option maxRecDepth 100000
set_option maxHeartbeats 4000000
set_option linter.unusedVariables false
set_option linter.unusedSimpArgs false
def C.iR:aT:=(.seq (.reg [qB 2 false] [0]) (.seq (.seq (.reg [zM 14 0,qL 15 14,zA 16 (.bin .gtr (.t 15) (kI 1048576))] [0,16]) (.cond (.t 16) (.seq (.reg [qB 2 true] [2]) .ret) .skip)) (.seq (.reg [zM 18 0,q1 19 24 18,zM 17 19,qE 20 17 0,qE 21 17 1,zA 3 (.alloc 10 [.cO 7,fD 0]),qS 2 3 20,zM 4 21] [3,4]) (.seq (.reg [qT 23 2 3,zM 24 4,q2 25 22 23 24,zM 22 25,qE 26 22 0,qE 27 22 1,zA 5 (.alloc 11 [.cO 7,fD 0]),qS 2 5 26,zM 6 27] [3,4,5,6]) (.seq (.reg [qT 29 2 3,zM 30 4,q2 31 25 29 30,zM 28 31,qE 32 28 0,qE 33 28 1,zA 7 (.alloc 12 [.cO 7,fD 0]),qS 2 7 32,zM 8 33] [3,4,5,6,7,8]) (.cut (.seq (.reg [qT 34 2 5,qT 35 2 7,q2 36 15 34 35,qO 37 36,zM 38 37,zG 38 false 39 (.mv (.t 6)),zG 38 false 40 (.mv (.t 8)),⟨(some (38,false)),some 41,.call 23 [.t 39,.t 40]⟩,zG 38 false 42 (.not (.t 41)),qQ 43 38 42,zM 44 43,zG 44 false 45 (.mv (.t 6)),zG 44 false 46 (.len (.t 45)),zG 44 false 47 (.bin .eql (.t 46) (kI 0)),qQ 48 44 47] [3,4,5,6,7,8,48]) (.cond (.t 48) (.seq (.reg [qT 49 2 5,qT 50 2 7,q2 51 15 49 50,zM 52 51,zG 52 true 53 (.mv (.t 6)),zG 52 true 54 (.mv (.t 8)),⟨(some (52,true)),some 55,.call 23 [.t 53,.t 54]⟩,qP 56 52 55,zM 2 56] [2]) .ret) .skip)) (.seq (.reg [zM 57 4,qL 58 57,zA 59 (.bin .quo (.t 58) (kI 2)),zM 9 59] [3,4,5,6,9]) (.seq (.kN [(qT 61 2 3,[]),(zM 62 4,[]),(zM 63 9,[]),(zA 64 (.uS 10 (.t 62) none (some (.t 63))),[1,2]),(q2 65 22 61 64,[0,1,2,3]),(zM 60 65,[0,1,2,3,4]),(qE 66 60 0,[0,1,2,3,4,5]),(qE 67 60 1,[0,1,2,3,4,5]),(zA 10 (.alloc 13 [.cO 7,fD 0]),[]),(qS 2 10 66,[0,1,2,3,4,5,6,8]),(zM 11 67,[0,1,2,3,4,5,6,7,8,9])] [4,5,6,9,10,11]) (.seq (.kN [(qT 69 2 10,[]),(zM 70 4,[]),(zM 71 9,[]),(zA 72 (.uS 10 (.t 70) (some (.t 71)) none),[1,2]),(q2 73 22 69 72,[0,1,2,3]),(zM 68 73,[0,1,2,3,4]),(qE 74 68 0,[0,1,2,3,4,5]),(qE 75 68 1,[0,1,2,3,4,5]),(zA 12 (.alloc 14 [.cO 7,fD 0]),[]),(qS 2 12 74,[0,1,2,3,4,5,6,8]),(zM 13 75,[0,1,2,3,4,5,6,7,8,9])] [5,6,11,12,13]) (.seq (.reg [qT 76 2 12,qT 77 2 5,q2 78 15 76 77,zM 79 78,zG 79 true 80 (.dJ 15 8 0 [.lit (.int .i64 0),.str [],.lit (.int .i64 0),.lit (.int .i64 0),.lit (.int .i64 0),.str [],.sl 1 [],.sl 5 []] []),zG 79 true 81 (.mv (.t 11)),zG 79 true 82 (.append 16 8 112 (.t 80) (.t 81)),zG 79 true 83 (.mv (.t 13)),zG 79 true 84 (.append 17 8 112 (.t 82) (.t 83)),zG 79 true 85 (.mv (.t 6)),⟨(some (79,true)),some 86,.call 23 [.t 84,.t 85]⟩,qP 87 79 86,zM 2 87] [2]) .ret))))))))))
theorem K.iR:dR pZ 7 1 0 C.iR [.tmp 2]=true:=by kernel_rfl
end Go.Ab
end
section
namespace Go.Ab
open Go
set_option maxRecDepth 100000
theorem NS:∀ {l k:List RequestT} {s:StoreT},runM s (l++k)=((runM (runM s l).1 k).1,(runM s l).2++(runM (runM s l).1 k).2)
  | [],k,s=>rfl
  | q::l,k,s=>by
    show ((runM (l7 s q).1 (l++k)).1,_::(runM (l7 s q).1 (l++k)).2)=_
    rw [NS]
    rfl
end Go.Ab
end
section
namespace Go.Ab
open Go
set_option maxRecDepth 100000
theorem TU {l:List RequestT} (h:wo l=true) (k:Nat):wo (l.take k)=true/\wo (l.drop k)=true:=by
 obtain ⟨h1,h2⟩:=AY h
 unfold wo
 simp only [Bool.and_eq_true,decide_eq_true_eq,List.all_eq_true,List.length_take,List.length_drop]
 exact ⟨⟨fun q hq=>h1 q (List.mem_of_mem_take hq),by omega⟩,⟨fun q hq=>h1 q (List.mem_of_mem_drop hq),by omega⟩⟩
theorem O6 {l:List RequestT} (h:xB l) (k:Nat):xB (l.take k)/\xB (l.drop k):=by
 have:=h.len
 exact ⟨⟨by rw [List.length_take]; omega,fun q hq=>h.req q (List.mem_of_mem_take hq)⟩,⟨by rw [List.length_drop]; omega,fun q hq=>h.req q (List.mem_of_mem_drop hq)⟩⟩
theorem YF {n:Nat} (h:n<=1000):IntKind.wrap .i64 (Int.tdiv ((n:Nat):Int) 2)=((n/2:Nat):Int):=by
 rw [show (2:Int)=((2:Nat):Int) from rfl,xx]; exact wrapN rfl (by omega)
theorem T.FW {c:List Int} (hc:Bytes c):Ev (fun f=>G.iR f c) true:=by
 refine Ev.up ?_
 simp only [G.iR]
 refine Ev.ite (fun _=>Ev.ret _) (fun e => ?_)
 obtain ⟨⟨s,l⟩,g,hs,hl⟩:=D.zB hc (by simp at e; omega)
 have hI:=T.dF hs hl
 have hS:=T.eY hs hl
 obtain ⟨v1,v2,v3⟩:=Xx (s:=s) hl
 have es:=pz (qm v1)
 have er:=uA v3 v2
 refine Ev.bind g (Ev.bind hI (Ev.bind hS (Ev.bind es (Ev.ct rfl (Ev.bind er (Ev.ct rfl (Ev.ite (fun _=>Qj) (fun e=>Ev.up ?_))))))))
 have hll:l.length<=1000:=hl.len
 have hv:uj s=true/\wo l=true:=by
  rw [<- Bool.and_eq_true_iff]
  cases h:uj s&&wo l with
  | true=>rfl
  | false=>unfold wu at e; rw [h] at e; cases e
 obtain ⟨b1,b2⟩:=TU hv.2 (l.length/2)
 obtain ⟨f1,f2⟩:=O6 hl (l.length/2)
 have r1:=T.dF hs f1
 have u1:wu s (l.take (l.length/2))=runM s (l.take (l.length/2)):=by unfold wu; rw [hv.1,b1]; rfl
 have w1:=(yD (l:=l.take (l.length/2)) hv.1)
 have r2:=T.dF (qm w1.1) f2
 have u2:wu (runM s (l.take (l.length/2))).1 (l.drop (l.length/2))=runM (runM s (l.take (l.length/2))).1 (l.drop (l.length/2)):=by unfold wu; rw [w1.1,b2]; rfl
 have w2:=(yD (l:=l.drop (l.length/2)) w1.1)
 have u3:wu s l=runM s (l.take (l.length/2)++l.drop (l.length/2)):=by unfold wu; rw [hv.1,hv.2,List.take_append_drop]; rfl
 rw [u1] at r1
 rw [u2] at r2
 rw [u3,NS] at es er ⊢
 have n1:=w1.2.2
 have n2:=w2.2.2
 rw [List.length_take] at n1
 rw [List.length_drop] at n2
 simp only [G.iR.K1,YF hll,Int.toNat_natCast]
 exact Ev.chk (by omega) (Ev.bind r1 (Ev.chk (by omega) (Ev.bind r2 (Ev.bind es (Ev.ct rfl (Ev.chk (by omega) (Ev.chk (by omega) (Ev.bind er (Ev.ret _)))))))))
end Go.Ab
end
section
namespace Go.Ab
open Go
set_option maxRecDepth 100000
set_option maxHeartbeats 4000000
set_option linter.unusedVariables false
set_option linter.unusedSimpArgs false
theorem F.iR {n:Nat} : ∀ {dw r},G.iR n dw=some r->bF pZ 7 [.one (.c (.sl 1 (List.map cU dw)))] (.one (.c (.lit (.bool r)))):=by
 intro dw r h
 refine aH K.iR (kK ?_)
 unfold C.iR
 rcases n with _ | n<;>simp only [G.iR,reduceCtorEq] at h
 have z:=pp (pp @F.jc <| pp @F.dF <| pp @F.eY <| pp @F.aK <| pp @F.aN ()) <| pp () <| pp () <| pp (pp (@pq ((StoreT × List RequestT) × (StoreT × List aj)) _ (fun n x=>G.iR.K1 n x.1 x.2) r (fun x=>dB.of [eP 3 101,(4,.v true (.one (.c (.sl 10 (List.map RequestT.cells x.1.2))))),eP 5 102,(6,.v true (.one (.c (.sl 8 (List.map aj.cells x.2.2))))),(48,.v true (.one (.c (.lit (.bool false)))))] [(101,.var [.c (.sl 7 (List.map aA.cells x.1.1.Items)),wI x.1.1.Clock]),(102,.var [.c (.sl 7 (List.map aA.cells x.2.1.Items)),wI x.2.1.Clock])])) ()) <| pp (pp (And.intro @G.iR.K1.eq_1 <| @G.iR.K1.eq_2) ()) <| pp (pp (@bf [] [(101,10),(102,11)] []) ()) <| ()
 exact lD
end Go.Ab
end
section
namespace Go.Proofs.YtaejlonmildglaaGreatDoor.fnRunRequests
open Go Go.ChangeShapes Go.WideShapes Go.ChangeAt Go.RowKit Go.Ab
set_option maxRecDepth 100000
theorem own:ownKnob Tryz.prog.godebug=none:=by kernel_rfl
theorem laidOut:laidOutB Tryz.prog=true:=by kernel_rfl
theorem cellsB:Tryz.prog.cellsOf 5=1:=by kernel_rfl
theorem calls (zs:List Int) (hz:∀ z,z∈zs->0<=z/\z<256):bF Tryz.prog 7 [Lt 1 (zs.map xH)] (oQ true):=by
 obtain ⟨n,hn⟩:=(T.FW hz).val
 exact F.iR hn
theorem met {W:World} (h:laidMetH Tryz.prog Rows.fnRunRequestsRow.laid W):laidMet Tryz.prog Rows.fnRunRequestsRow.laid W:=by
 unfold laidMetH at h
 rw [show (Rows.fnRunRequestsRow.laid.filter fun x=>x.2.handleName?.isSome)=[] from by kernel_rfl] at h
 exact h
theorem tabs {W:World} (hL:laidMetH Tryz.prog Rows.fnRunRequestsRow.laid W):Tabs Tryz.prog (I0 W):=by
 have h:=sD 2 (met hL)
 rw [show Rows.fnRunRequestsRow.laid.drop 2=("internal/strconv.uint64pow10",Lib.tabData .u64 Lib.pow10Tab)::Rows.fnRunRequestsRow.laid.drop 3 from by kernel_rfl] at h
 exact wG (g:=1) (t:=209) (e:=171) (by kernel_rfl) (by kernel_rfl) (by kernel_rfl) (by kernel_rfl) (by kernel_rfl) (by kernel_rfl) h
theorem contract (H:Type) (enc:TypeId × Value->H) (W:World) (base:Nat) (args:Array Value) (ds gs:List (DataW H)) (before:List MemPlace)
  (hval:∀ (j:Nat) t v,Tryz.f7.params[j]? = some t->args[j]? = some v->Value.okWide Tryz.prog W .any base t v)
  (hW:DataW.Whole enc Tryz.prog Tryz.f7.params.toList Rows.fnRunRequestsSpec.vars false W args.toList ds gs before)
  (hL:laidMetH Tryz.prog Rows.fnRunRequestsRow.laid W) :
  Calls Tryz.prog 7 args W fun e W'=>∃ v,e = .returned v/\Rows.fnRunRequestsSpec.post enc Tryz.prog Tryz.f7 false true false false W args v W':=by
 have hW':=hW
 obtain ⟨p,q,hA0,hV,rfl,hfz,hnd⟩:=hW
 have hA:DataW.TrodAll enc Tryz.prog W 0 (fun _=>true) true Tryz.f7.params.toList args.toList ds p:=hA0
 rw [Tryz.params7] at hA hval
 obtain ⟨v0,Xz,d0,ds0,p0,q0,hargs,rfl,rfl,h0,r0⟩:=trodAll_cons hA
 obtain ⟨rfl,rfl,rfl⟩:=trodAll_nil r0
 obtain rfl:args = #[v0]:=by cases args; simp_all
 obtain ⟨rfl,rfl⟩:=trodVars_none hV
 clear hA0
 simp only [List.append_nil] at hW'
 have hlt:∀ x∈p0,x.block<W.heap.size:=fun x hx=>by simpa using hW'.lt x hx
 refine (sW (enc:=enc) (tabs hL) Tryz.underlying22 Tryz.underlying5 cellsB (hval 0 22 v0 rfl rfl) h0 (fun zs _ hz=>calls zs hz)).mono fun e W' ⟨he,hb⟩ => ?_
 subst he
 have ht:DataW.TrodAll enc Tryz.prog W' 0 (fun b=>decide (b<W.heap.size)) true [22] [v0] [d0] (p0++[]):=trodAll_cons_mk (Below.trod laidOut (by kernel_rfl) (of_decide_eq_true (by kernel_rfl)) h0 hb hlt) trodAll_mk0
 rw [List.append_nil] at ht
 exact ⟨_,rfl,_,_,_,[],p0,[],hW',trodAll_cons_mk (shut_bool Tryz.underlying4 _) trodAll_mk0,
  ht,rfl,hb.frame _,fun h=>by cases h⟩
def tab (k:IntKind) (l:List Int):Obj->Obj
 | .cells _ t frozen => .cells (l.map fun n=>Value.int k n).toArray t frozen
 | o=>o
noncomputable def laidWorld (os:Os):World :=
 { World.holding Tryz.prog os ⟨#[],#[],[]⟩ with heap:=((((World.holding Tryz.prog os ⟨#[],#[],[]⟩).heap).modify 2 (tab .u8 [0,1,28,2,29,14,24,3,30,22,20,15,25,17,4,8,31,27,13,23,21,19,16,7,26,12,18,6,11,5,10,9])).modify 3 (tab .u8 [0,1,56,2,57,49,28,3,61,58,42,50,38,29,17,4,62,47,59,36,45,43,51,22,53,39,33,30,24,18,12,5,63,55,48,27,60,41,37,16,46,35,44,21,52,32,23,11,54,26,40,15,34,20,31,10,25,14,19,9,13,8,7,6])).modify 1 (tab .u64 [1,10,100,1000,10000,100000,1000000,10000000,100000000,1000000000,10000000000,100000000000,1000000000000,10000000000000,100000000000000,1000000000000000,10000000000000000,100000000000000000,1000000000000000000,10000000000000000000]) }
theorem laid_met (os:Os):laidMet Tryz.prog Rows.fnRunRequestsRow.laid ((laidWorld os).forCall (fun _ _=>0) ⟨#[],#[.slice none 0 0],[]⟩).memory :=
 laidMet_of_run' 80 (by kernel_rfl) (by kernel_rfl)
theorem reads (os:Os) {H:Type} (enc:TypeId × Value->H):∃ places,DataW.whole enc Tryz.prog ((laidWorld os).forCall (fun _ _=>0) ⟨#[],#[.slice none 0 0],[]⟩).memory Tryz.f7.params.toList Rows.fnRunRequestsSpec.vars false #[Value.slice none 0 0].toList 8=some ([.nil],[],places) :=
 ⟨[],by kernel_rfl⟩
theorem lifted (os:Os) (started:os.Started) (H:Type) (enc:TypeId × Value->H) (F:Stop.Interp) :
  ReturnsInHanded {} Tryz.checked os 7 .any ((OpenSpec.ofChange Rows.fnRunRequestsSpec).preRow enc Tryz.prog Tryz.f7 Rows.fnRunRequestsRow.domain false Rows.fnRunRequestsRow.laid) (((OpenSpec.ofChange Rows.fnRunRequestsSpec).at F).post enc Tryz.prog Tryz.f7 false true false false):=by
 obtain ⟨places,hx⟩:=reads os enc
 refine returnsInHanded_of_row (C:=Tryz.checked) (s:=OpenSpec.ofChange Rows.fnRunRequestsSpec) own started (by kernel_rfl) Tryz.func7
  (witness_row_at (enc:=enc) (C:=Tryz.checked) false (laidWorld os) #[.slice none 0 0] rfl (by kernel_rfl) (by kernel_rfl) (by kernel_rfl)
   (OpenSpec.preRow_of_cond 8 hx (by kernel_rfl) (fun k hk=>by cases hk) (by kernel_rfl) (laid_met os))) ?_
 intro W base args ds gs before hval hW _ _ _ hL _ _
 exact contract H enc W base args ds gs before hval hW hL
theorem j1:(Rows.fnRunRequestsRow.inPlace==Tryz.prog.inPlace 7)=true:=by kernel_rfl
theorem j2:(Rows.fnRunRequestsRow.unfollowed==Tryz.prog.unfollowed 7)=true:=by kernel_rfl
theorem j3:(Rows.fnRunRequestsRow.recurses==Tryz.prog.recurses 7)=true:=by kernel_rfl
theorem j4:(Rows.fnRunRequestsRow.named==Tryz.prog.varsNamed 7)=true:=by kernel_rfl
theorem j5:joinedFacts Tryz.prog 7 Tryz.f7 (OpenSpec.ofChange Rows.fnRunRequestsSpec).bare Rows.fnRunRequestsRow=true:=by
 unfold joinedFacts
 rw [j1,j2,j3,j4]
 kernel_rfl
theorem j6:Tryz.prog.funcNamed Rows.fnRunRequestsRow.func=some 7:=by kernel_rfl
theorem said:Rows.FnRunRequestsSaid :=
 OpenClaim.holds_of_cond 7 Tryz.f7 rfl rfl rfl rfl rfl rfl rfl ⟨rfl,rfl,rfl,rfl,rfl⟩ rfl rfl rfl rfl rfl j6 Tryz.func7 j5
  (of_decide_eq_true (by kernel_rfl)) (by unfold Func.isWrapper; first | (rw [if_pos (by decide +kernel)]; kernel_rfl) | (rw [if_neg (by decide +kernel)]; exact ⟨rfl,rfl⟩))
  (fun os started H enc _ F=>by rw [OpenClaim.pre_eq_preRow]; exact lifted os started H enc F)
theorem jw:Rows.fnRunRequestsRow.wfByText (OpenSpec.ofChange Rows.fnRunRequestsSpec)=true:=by kernel_rfl
theorem jm:Tryz.pinned.checked.prog.mainIs=some (Rows.fnRunRequestsCard.stood.harness.1,Rows.fnRunRequestsCard.stood.harness.2.toList):=by kernel_rfl
theorem jg:false=Rows.fnRunRequestsRow.goesBy Tryz.pinned.checked.prog:=by kernel_rfl
theorem plain (f:FuncId) (fn:Func) (hf:Tryz.pinned.checked.prog.funcNamed Rows.fnRunRequestsRow.func=some f) (hfn:Tryz.pinned.checked.prog.funcs[f]? = some fn) :
  false=Tryz.pinned.checked.prog.looks []/\∀ (j:Nat) t,fn.params[j]? = some t->Tryz.pinned.checked.prog.wantsStandIn t=false:=by
 obtain rfl:f=7:=Option.some.inj ((show Tryz.prog.funcNamed Rows.fnRunRequestsRow.func=some 7 by kernel_rfl).symm.trans hf) |>.symm
 obtain rfl:fn=Tryz.f7:=(Option.some.inj (Tryz.func7.symm.trans hfn)).symm
 refine ⟨by kernel_rfl,fun j t ht => ?_⟩
 rw [Tryz.params7] at ht
 obtain rfl:t=22:=by simpa using Array.mem_of_getElem? ht
 exact (show Tryz.prog.wantsStandIn 22=false by kernel_rfl)
theorem card:Rows.FnRunRequestsCardSaid :=
 Claim7.holds_tied_plain_at .later [] _ _ _ _ said (fun _ h=>by cases h) jw (fun _ h=>by cases h) fnRunRequests_row_tie rfl ⟨rfl,rfl⟩ jm rfl plain jg
end Go.Proofs.YtaejlonmildglaaGreatDoor.fnRunRequests
end
