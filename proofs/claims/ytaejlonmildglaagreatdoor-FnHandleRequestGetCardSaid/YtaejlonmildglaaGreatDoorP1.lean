/- The law FnHandleRequestGet of the package laws answers true for every code of bytes and leaves it as it is (part 1). Conditions: none but what the row lists. -/
import Derived.Test.YtaejlonmildglaaGreatDoorB4
set_option linter.unusedVariables false
set_option linter.unusedSimpArgs false
section
namespace Go.Ab
open Go
set_option maxRecDepth 100000
set_option maxHeartbeats 4000000
set_option linter.unusedVariables false
set_option linter.unusedSimpArgs false
def G.dM.K1 (f:Nat) (v1:StoreT × RequestT) (v2:StoreT × aj):Option (Bool):=match f with
| 0=>none
| n+1 =>
((G.aW n v2.1 (RequestT.mk 1 v1.2.Name [] [] (af.mk 0 0 [] [] []) [])).bind fun v14 =>
((G.aK n v14.1 v2.1).bind fun v15 =>
(cond v15
(cond (v14.2.Status==200)
((G.gu n v14.2.Body v1.2.Body).bind fun v16 =>
(cond v16
(cond (v14.2.Tag==v2.2.Tag)
(cond (v14.2.Version==v2.2.Version)
((G.lF n v1.2.Body).bind fun v17 =>
(some ((v14.2.Tag==v17))))
(some (false)))
(some (false)))
(some (false))))
(some (false)))
(some (false)))))
def G.dM (f:Nat) (dw:List Int):Option (Bool):=match f with
| 0=>none
| n+1 =>
(cond (decide (1048576<((dw.length:Nat):Int)))
(some (true))
((G.eX n dw).bind fun v1 =>
((G.aW n v1.1 v1.2).bind fun v2 =>
((G.dZ n v1.1 v1.2).bind fun v3 =>
((G.aK n v2.1 v3.1).bind fun v18 =>
(cond v18
((G.bG n v2.2 v3.2).bind fun v19 =>
(cond v19
(cond (v1.2.Method != 2)
((G.aK n v2.1 v3.1).bind fun v20 =>
(cond v20
((G.bG n v2.2 v3.2).bind fun v21 =>
(some (v21)))
(some (false))))
(cond (v2.2.Status != 200)
(cond (v2.2.Status != 201)
((G.aK n v2.1 v3.1).bind fun v22 =>
(cond v22
((G.bG n v2.2 v3.2).bind fun v23 =>
(some (v23)))
(some (false))))
(G.dM.K1 n v1 v2))
(G.dM.K1 n v1 v2)))
((G.aK n v2.1 v3.1).bind fun v24 =>
(cond v24
((G.bG n v2.2 v3.2).bind fun v25 =>
(some (v25)))
(some (false))))))
((G.aK n v2.1 v3.1).bind fun v26 =>
(cond v26
((G.bG n v2.2 v3.2).bind fun v27 =>
(some (v27)))
(some (false))))))))))
end Go.Ab
end
section
namespace Go.Ab
open Go
set_option maxRecDepth 100000
set_option maxHeartbeats 4000000
set_option linter.unusedVariables false
set_option linter.unusedSimpArgs false
def C.dM:aT:=(.seq (.reg [qB 2 false] [0]) (.seq (.seq (.reg [zM 11 0,qL 12 11,zA 13 (.bin .gtr (.t 12) (kI 1048576))] [0,13]) (.cond (.t 13) (.seq (.reg [qB 2 true] [2]) .ret) .skip)) (.seq (.reg [zM 15 0,q1 16 12 15,zM 14 16,qE 17 14 0,qE 18 14 1,zA 3 (.alloc 10 [.cO 7,fD 0]),zA 4 (.alloc 11 [fD 0,.c (.str []),.cO 1,.cO 1,fD 0,fD 0,.c (.str []),.cO 1,.cO 5,.cO 8]),qS 2 3 17,qS 10 4 18] [3,4]) (.seq (.reg [qT 20 2 3,qT 21 10 4,q2 22 13 20 21,zM 19 22,qE 23 19 0,qE 24 19 1,zA 5 (.alloc 12 [.cO 7,fD 0]),zA 6 (.alloc 13 [fD 0,.c (.str []),fD 0,fD 0,fD 0,.c (.str []),.cO 1,.cO 5]),qS 2 5 23,qS 8 6 24] [3,4,5,6]) (.seq (.reg [qT 26 2 3,qT 27 10 4,q2 28 14 26 27,zM 25 28,qE 29 25 0,qE 30 25 1,zA 7 (.alloc 14 [.cO 7,fD 0]),zA 8 (.alloc 15 [fD 0,.c (.str []),fD 0,fD 0,fD 0,.c (.str []),.cO 1,.cO 5]),qS 2 7 29,qS 8 8 30] [4,5,6,7,8]) (.cut (.seq (.reg [qT 31 2 5,qT 32 2 7,q2 33 15 31 32,qO 34 33,zM 35 34,zG 35 false 36 (.load true 8 (.t 6)),zG 35 false 37 (.load true 8 (.t 8)),⟨(some (35,false)),some 38,.call 16 [.t 36,.t 37]⟩,zG 35 false 39 (.not (.t 38)),qQ 40 35 39,zM 41 40,zG 41 false 42 (.eH 0 (.t 4)),zG 41 false 43 (.load false 1 (.t 42)),zG 41 false 44 (.bin .neq (.t 43) (kI 2)),qQ 45 41 44,zM 46 45,zG 46 false 47 (.eH 0 (.t 6)),zG 46 false 48 (.load false 1 (.t 47)),zG 46 false 49 (.bin .neq (.t 48) (kI 200)),zG 46 false 50 (.mv (.t 49)),zG 50 true 51 (.eH 0 (.t 6)),zG 50 true 52 (.load false 1 (.t 51)),zG 50 true 53 (.bin .neq (.t 52) (kI 201)),zG 46 false 54 (.pick (.t 50) (.t 53) (kB false)),qQ 55 46 54] [4,5,6,7,8,55]) (.cond (.t 55) (.seq (.reg [qT 56 2 5,qT 57 2 7,q2 58 15 56 57,zM 59 58,zG 59 true 60 (.load true 8 (.t 6)),zG 59 true 61 (.load true 8 (.t 8)),⟨(some (59,true)),some 62,.call 16 [.t 60,.t 61]⟩,qP 63 59 62,zM 2 63] [2]) .ret) .skip)) (.seq (.reg [qT 65 2 5,qA 66 1 4,qF 67 1 66,zA 68 (.build [fD 0,.c (.str []),.cO 1,.cO 1,fD 0,fD 0,.c (.str []),.cO 1,.cO 5,.cO 8] [(0,1,kI 1),(1,1,.t 67)]),q2 69 13 65 68,zM 64 69,qE 70 64 0,qE 71 64 1,zA 9 (.alloc 16 [.cO 7,fD 0]),zA 10 (.alloc 17 [fD 0,.c (.str []),fD 0,fD 0,fD 0,.c (.str []),.cO 1,.cO 5]),qS 2 9 70,qS 8 10 71] [4,5,6,9,10]) (.seq (.kN [(qT 72 2 9,[]),(qT 73 2 5,[]),(q2 74 15 72 73,[0,1]),(zM 75 74,[0,1,2]),(zG 75 true 76 (.eH 0 (.t 10)),[0,1,2,3]),(zG 75 true 77 (.load false 1 (.t 76)),[0,1,2,3,4]),(zG 75 true 78 (.bin .eql (.t 77) (kI 200)),[0,1,2,3,4,5]),(qP 79 75 78,[0,1,2,3,4,5,6]),(zM 80 79,[0,1,2,3,4,5,6,7]),(zG 80 true 81 (.eH 3 (.t 10)),[0,1,2,3,4,5,6,7,8]),(zG 80 true 82 (.load true 5 (.t 81)),[0,1,2,3,4,5,6,7,8,9]),(zG 80 true 83 (.eH 4 (.t 4)),[0,1,2,3,4,5,6,7,8]),(zG 80 true 84 (.load true 5 (.t 83)),[0,1,2,3,4,5,6,7,8,11]),(⟨(some (80,true)),some 85,.call 17 [.t 82,.t 84]⟩,[0,1,2,3,4,5,6,7,8,9,10,11,12]),(qP 86 80 85,[0,1,2,3,4,5,6,7,8,9,10,11,12,13]),(zM 87 86,[0,1,2,3,4,5,6,7,8,9,10,11,12,13,14]),(zG 87 true 88 (.eH 1 (.t 10)),[0,1,2,3,4,5,6,7,8,9,10,11,12,13,14,15]),(zG 87 true 89 (.load false 1 (.t 88)),[0,1,2,3,4,5,6,7,8,9,10,11,12,13,14,15,16]),(zG 87 true 90 (.eH 1 (.t 6)),[0,1,2,3,4,5,6,7,8,9,10,11,12,13,14,15]),(zG 87 true 91 (.load false 1 (.t 90)),[0,1,2,3,4,5,6,7,8,9,10,11,12,13,14,15,18]),(zG 87 true 92 (.bin .eql (.t 89) (.t 91)),[0,1,2,3,4,5,6,7,8,9,10,11,12,13,14,15,16,17,18,19]),(qP 93 87 92,[0,1,2,3,4,5,6,7,8,9,10,11,12,13,14,15,16,17,18,19,20]),(zM 94 93,[0,1,2,3,4,5,6,7,8,9,10,11,12,13,14,15,16,17,18,19,20,21]),(zG 94 true 95 (.eH 2 (.t 10)),[0,1,2,3,4,5,6,7,8,9,10,11,12,13,14,15,16,17,18,19,20,21,22]),(zG 94 true 96 (.load false 1 (.t 95)),[0,1,2,3,4,5,6,7,8,9,10,11,12,13,14,15,16,17,18,19,20,21,22,23]),(zG 94 true 97 (.eH 2 (.t 6)),[0,1,2,3,4,5,6,7,8,9,10,11,12,13,14,15,16,17,18,19,20,21,22]),(zG 94 true 98 (.load false 1 (.t 97)),[0,1,2,3,4,5,6,7,8,9,10,11,12,13,14,15,16,17,18,19,20,21,22,25]),(zG 94 true 99 (.bin .eql (.t 96) (.t 98)),[0,1,2,3,4,5,6,7,8,9,10,11,12,13,14,15,16,17,18,19,20,21,22,23,24,25,26]),(qP 100 94 99,[0,1,2,3,4,5,6,7,8,9,10,11,12,13,14,15,16,17,18,19,20,21,22,23,24,25,26,27]),(zM 101 100,[0,1,2,3,4,5,6,7,8,9,10,11,12,13,14,15,16,17,18,19,20,21,22,23,24,25,26,27,28]),(zG 101 true 102 (.eH 1 (.t 10)),[0,1,2,3,4,5,6,7,8,9,10,11,12,13,14,15,16,17,18,19,20,21,22,23,24,25,26,27,28,29]),(zG 101 true 103 (.load false 1 (.t 102)),[0,1,2,3,4,5,6,7,8,9,10,11,12,13,14,15,16,17,18,19,20,21,22,23,24,25,26,27,28,29,30]),(zG 101 true 104 (.eH 4 (.t 4)),[0,1,2,3,4,5,6,7,8,9,10,11,12,13,14,15,16,17,18,19,20,21,22,23,24,25,26,27,28,29]),(zG 101 true 105 (.load true 5 (.t 104)),[0,1,2,3,4,5,6,7,8,9,10,11,12,13,14,15,16,17,18,19,20,21,22,23,24,25,26,27,28,29,32]),(⟨(some (101,true)),some 106,.call 18 [.t 105]⟩,[0,1,2,3,4,5,6,7,8,9,10,11,12,13,14,15,16,17,18,19,20,21,22,23,24,25,26,27,28,29,32,33]),(zG 101 true 107 (.bin .eql (.t 103) (.t 106)),[0,1,2,3,4,5,6,7,8,9,10,11,12,13,14,15,16,17,18,19,20,21,22,23,24,25,26,27,28,29,30,31,32,33,34]),(qP 108 101 107,[0,1,2,3,4,5,6,7,8,9,10,11,12,13,14,15,16,17,18,19,20,21,22,23,24,25,26,27,28,29,30,31,32,33,34,35]),(zM 2 108,[0,1,2,3,4,5,6,7,8,9,10,11,12,13,14,15,16,17,18,19,20,21,22,23,24,25,26,27,28,29,30,31,32,33,34,35,36])] [2]) .ret))))))))
theorem K.dM:dR pZ 3 1 0 C.dM [.tmp 2]=true:=by kernel_rfl
end Go.Ab
end
section
namespace Go.Ab
open Go
set_option maxRecDepth 100000
theorem Rq {m:Int} {t:aG} (ht:t.length<=60):uU 60 (RequestT.mk m t [] [] mX []):=⟨ht,Ac,Ac,⟨5,nU vz⟩,Bc⟩
theorem Rh {s m:StoreT} {t:aG} {n:af} (h:vP s t n=some m):m.Clock=s.Clock+1:=by rw [(vK h).2.2.2.1]; rfl
end Go.Ab
end
section
namespace Go.Ab
open Go
set_option maxRecDepth 100000
theorem XK (t:aG) (b:Bool):uG [] [] t b=200:=rfl
end Go.Ab
end
section
namespace Go.Ab
open Go
set_option maxRecDepth 100000
theorem WS {s:StoreT} {t:aG} {it:aA} (hs:uj s=true) (ht:LJ t=true) (hg:qY s t=some it):l7 s (RequestT.mk 1 t [] [] mX [])=(s,aj.mk 200 (pK it.Node) it.Version it.Node):=by
 have hr:Jn (RequestT.mk 1 t [] [] mX [])=true:=vk.2 ⟨by show (1:Int)<=1; omega,by show (1:Int)<=5; omega,ht,rfl,rfl,vz,rfl⟩
 unfold l7 FU
 rw [hs,hr]
 show (match qY s t with
  | none=>_
  | some it=>if uG [] [] (pK it.Node) true=200 then Nl s _ it else _)=_
 rw [hg]
 show (if uG [] [] (pK it.Node) true=200 then Nl s _ it else _)=_
 rw [if_pos (XK _ _)]
 rfl
end Go.Ab
end
section
namespace Go.Ab
open Go
set_option maxRecDepth 100000
theorem T.Ah {c:List Int} (hc:Bytes c):Ev (fun f=>G.dM f c) true:=by
  refine Ev.up ?_
  simp only [G.dM]
  refine Ev.ite (fun _=>Ev.ret _) (fun e => ?_)
  obtain ⟨⟨s,q⟩,g,hs,hq⟩:=D.sH hc (by simp at e; omega)
  have hI:=T.vI hs hq
  have hS:=T.Aw hs hq
  obtain ⟨v1,v2⟩:=rW s q
  have es:=pz (qm v1)
  have er:=xg v2
  have K:q.Method=2->good (l7 s q).2.Status=true->Ev (fun f=>G.dM.K1 f (s,q) (l7 s q)) true:=fun e2 eg=>by
    rcases EJ (s:=s) (q:=q) with ⟨h,_⟩ | ⟨hf,hr,h⟩
    · rw [h] at eg; cases eg
    have hput:∃ m c,vP s q.Name q.Body=some m/\l7 s q=(m,aj.mk c (pK q.Body) m.Clock mX):=by
      generalize l7 s q=p at h eg
      cases h with
      | no c h1 h2 =>
        have:(c==200||c==201)=true:=eg
        simp at this
        rcases this with e | e
        · exact absurd e h1
        · exact absurd e h2
      | get it h1=>omega
      | drop it m h1=>omega
      | made m h1 h2 h3=>exact ⟨m,201,h3,rfl⟩
      | put it n m h1 h2 h3 h4 =>
        have:yY it.Node q=some q.Body:=by unfold yY; rw [if_neg (by omega),if_neg (by omega)]
        rw [this] at h3
        cases h3
        exact ⟨m,200,h4,rfl⟩
    obtain ⟨m,c,hp,hh⟩:=hput
    have hv:=(vK hp).2.2.2.2
    have k1:=T.vI (qm hv) (Rq (m:=1) hq.IY)
    rw [WS hv hr.IY (get_put hp)] at k1
    have em:=pz (qm hv)
    have eb:=A8 hr.body
    have et:=T.lF rH (jf hr.body)
    have ec:s.Clock+1=m.Clock:=(Rh hp).symm
    rw [hh]
    refine Ev.up ?_
    simp only [G.dM.K1]
    exact Ev.bind k1 (Ev.bind em (Ev.ct rfl (Ev.ct rfl (Ev.bind eb (Ev.ct rfl (Ev.ct (by simp) (Ev.ct (by simpa using ec) (Ev.bind et (Ev.ret' (by simp))))))))))
  refine Ev.bind g (Ev.bind hI (Ev.bind hS (Ev.bind es (Ev.ct rfl (Ev.bind er (Ev.ct rfl (Ev.ite (fun _=>Qj) (fun e2=>Ev.ite (fun e3=>Ev.ite (fun _=>Qj) (fun e4=>K ?_ ?_)) (fun e3=>K ?_ ?_)))))))))
  · exact (by simpa using e2)
  · have h3:(l7 s q).2.Status=201:=by simpa using e4
    unfold good; rw [h3]; rfl
  · exact (by simpa using e2)
  · have h3:(l7 s q).2.Status=200:=by simpa using e3
    unfold good; rw [h3]; rfl
end Go.Ab
end
section
namespace Go.Ab
open Go
set_option maxRecDepth 100000
set_option maxHeartbeats 4000000
set_option linter.unusedVariables false
set_option linter.unusedSimpArgs false
theorem F.dM {n:Nat} : ∀ {dw r},G.dM n dw=some r->bF pZ 3 [.one (.c (.sl 1 (List.map cU dw)))] (.one (.c (.lit (.bool r)))):=by
 intro dw r h
 refine aH K.dM (kK ?_)
 unfold C.dM
 rcases n with _ | n<;>simp only [G.dM,reduceCtorEq] at h
 have z:=pp (pp @F.eX <| pp @F.aW <| pp @F.dZ <| pp @F.aK <| pp @F.bG <| pp @F.gu <| pp @F.lF ()) <| pp () <| pp () <| pp (pp (@pq ((StoreT × RequestT) × (StoreT × aj)) _ (fun n x=>G.dM.K1 n x.1 x.2) r (fun x=>dB.of [eP 4 101,eP 5 102,eP 6 103,(55,.v true (.one (.c (.lit (.bool false)))))] [(101,.var [wI x.1.2.Method,wS x.1.2.Name,wT x.1.2.Want,wT x.1.2.lT,wI x.1.2.Body.Kind,wI x.1.2.Body.Num,wS x.1.2.Body.Text,wT x.1.2.Body.Names,wK x.1.2.Body.Kids,.c (.sl 8 (List.map nO.cells x.1.2.Ops))]),(102,.var [.c (.sl 7 (List.map aA.cells x.2.1.Items)),wI x.2.1.Clock]),(103,.var [wI x.2.2.Status,wS x.2.2.Tag,wI x.2.2.Version,wI x.2.2.Body.Kind,wI x.2.2.Body.Num,wS x.2.2.Body.Text,wT x.2.2.Body.Names,wK x.2.2.Body.Kids])])) ()) <| pp (pp (And.intro @G.dM.K1.eq_1 <| @G.dM.K1.eq_2) ()) <| pp (pp (@bf [] [(101,11),(102,12),(103,13)] []) ()) <| ()
 exact lD
end Go.Ab
end
section
namespace Go.Proofs.YtaejlonmildglaaGreatDoor.fnHandleRequestGet
open Go Go.ChangeShapes Go.WideShapes Go.ChangeAt Go.RowKit Go.Ab
set_option maxRecDepth 100000
theorem own:ownKnob Tryz.prog.godebug=none:=by kernel_rfl
theorem laidOut:laidOutB Tryz.prog=true:=by kernel_rfl
theorem cellsB:Tryz.prog.cellsOf 5=1:=by kernel_rfl
theorem calls (zs:List Int) (hz:∀ z,z∈zs->0<=z/\z<256):bF Tryz.prog 3 [Lt 1 (zs.map xH)] (oQ true):=by
 obtain ⟨n,hn⟩:=(T.Ah hz).val
 exact F.dM hn
theorem met {W:World} (h:laidMetH Tryz.prog Rows.fnHandleRequestGetRow.laid W):laidMet Tryz.prog Rows.fnHandleRequestGetRow.laid W:=by
 unfold laidMetH at h
 rw [show (Rows.fnHandleRequestGetRow.laid.filter fun x=>x.2.handleName?.isSome)=[] from by kernel_rfl] at h
 exact h
theorem tabs {W:World} (hL:laidMetH Tryz.prog Rows.fnHandleRequestGetRow.laid W):Tabs Tryz.prog (I0 W):=by
 have h:=sD 2 (met hL)
 rw [show Rows.fnHandleRequestGetRow.laid.drop 2=("internal/strconv.uint64pow10",Lib.tabData .u64 Lib.pow10Tab)::Rows.fnHandleRequestGetRow.laid.drop 3 from by kernel_rfl] at h
 exact wG (g:=1) (t:=209) (e:=171) (by kernel_rfl) (by kernel_rfl) (by kernel_rfl) (by kernel_rfl) (by kernel_rfl) (by kernel_rfl) h
theorem contract (H:Type) (enc:TypeId × Value->H) (W:World) (base:Nat) (args:Array Value) (ds gs:List (DataW H)) (before:List MemPlace)
  (hval:∀ (j:Nat) t v,Tryz.f3.params[j]? = some t->args[j]? = some v->Value.okWide Tryz.prog W .any base t v)
  (hW:DataW.Whole enc Tryz.prog Tryz.f3.params.toList Rows.fnHandleRequestGetSpec.vars false W args.toList ds gs before)
  (hL:laidMetH Tryz.prog Rows.fnHandleRequestGetRow.laid W) :
  Calls Tryz.prog 3 args W fun e W'=>∃ v,e = .returned v/\Rows.fnHandleRequestGetSpec.post enc Tryz.prog Tryz.f3 false true false false W args v W':=by
 have hW':=hW
 obtain ⟨p,q,hA0,hV,rfl,hfz,hnd⟩:=hW
 have hA:DataW.TrodAll enc Tryz.prog W 0 (fun _=>true) true Tryz.f3.params.toList args.toList ds p:=hA0
 rw [Tryz.params3] at hA hval
 obtain ⟨v0,Xz,d0,ds0,p0,q0,hargs,rfl,rfl,h0,r0⟩:=trodAll_cons hA
 obtain ⟨rfl,rfl,rfl⟩:=trodAll_nil r0
 obtain rfl:args = #[v0]:=by cases args; simp_all
 obtain ⟨rfl,rfl⟩:=trodVars_none hV
 clear hA0
 simp only [List.append_nil] at hW'
 have hlt:∀ x∈p0,x.block<W.heap.size:=fun x hx=>by simpa using hW'.lt x hx
 refine (sW (enc:=enc) (tabs hL) Tryz.underlying22 Tryz.underlying5 cellsB (hval 0 22 v0 rfl rfl) h0 (fun zs _ hz=>calls zs hz)).mono fun e W' ⟨he,hb⟩ => ?_
 subst he
 have ht:DataW.TrodAll enc Tryz.prog W' 0 (fun b=>decide (b<W.heap.size)) true [22] [v0] [d0] (p0++[]):=trodAll_cons_mk (Below.trod laidOut (by kernel_rfl) (of_decide_eq_true (by kernel_rfl)) h0 hb hlt) trodAll_mk0
 rw [List.append_nil] at ht
 exact ⟨_,rfl,_,_,_,[],p0,[],hW',trodAll_cons_mk (shut_bool Tryz.underlying4 _) trodAll_mk0,
  ht,rfl,hb.frame _,fun h=>by cases h⟩
def tab (k:IntKind) (l:List Int):Obj->Obj
 | .cells _ t frozen => .cells (l.map fun n=>Value.int k n).toArray t frozen
 | o=>o
noncomputable def laidWorld (os:Os):World :=
 { World.holding Tryz.prog os ⟨#[],#[],[]⟩ with heap:=((((World.holding Tryz.prog os ⟨#[],#[],[]⟩).heap).modify 2 (tab .u8 [0,1,28,2,29,14,24,3,30,22,20,15,25,17,4,8,31,27,13,23,21,19,16,7,26,12,18,6,11,5,10,9])).modify 3 (tab .u8 [0,1,56,2,57,49,28,3,61,58,42,50,38,29,17,4,62,47,59,36,45,43,51,22,53,39,33,30,24,18,12,5,63,55,48,27,60,41,37,16,46,35,44,21,52,32,23,11,54,26,40,15,34,20,31,10,25,14,19,9,13,8,7,6])).modify 1 (tab .u64 [1,10,100,1000,10000,100000,1000000,10000000,100000000,1000000000,10000000000,100000000000,1000000000000,10000000000000,100000000000000,1000000000000000,10000000000000000,100000000000000000,1000000000000000000,10000000000000000000]) }
theorem laid_met (os:Os):laidMet Tryz.prog Rows.fnHandleRequestGetRow.laid ((laidWorld os).forCall (fun _ _=>0) ⟨#[],#[.slice none 0 0],[]⟩).memory :=
 laidMet_of_run' 80 (by kernel_rfl) (by kernel_rfl)
theorem reads (os:Os) {H:Type} (enc:TypeId × Value->H):∃ places,DataW.whole enc Tryz.prog ((laidWorld os).forCall (fun _ _=>0) ⟨#[],#[.slice none 0 0],[]⟩).memory Tryz.f3.params.toList Rows.fnHandleRequestGetSpec.vars false #[Value.slice none 0 0].toList 8=some ([.nil],[],places) :=
 ⟨[],by kernel_rfl⟩
theorem lifted (os:Os) (started:os.Started) (H:Type) (enc:TypeId × Value->H) (F:Stop.Interp) :
  ReturnsInHanded {} Tryz.checked os 3 .any ((OpenSpec.ofChange Rows.fnHandleRequestGetSpec).preRow enc Tryz.prog Tryz.f3 Rows.fnHandleRequestGetRow.domain false Rows.fnHandleRequestGetRow.laid) (((OpenSpec.ofChange Rows.fnHandleRequestGetSpec).at F).post enc Tryz.prog Tryz.f3 false true false false):=by
 obtain ⟨places,hx⟩:=reads os enc
 refine returnsInHanded_of_row (C:=Tryz.checked) (s:=OpenSpec.ofChange Rows.fnHandleRequestGetSpec) own started (by kernel_rfl) Tryz.func3
  (witness_row_at (enc:=enc) (C:=Tryz.checked) false (laidWorld os) #[.slice none 0 0] rfl (by kernel_rfl) (by kernel_rfl) (by kernel_rfl)
   (OpenSpec.preRow_of_cond 8 hx (by kernel_rfl) (fun k hk=>by cases hk) (by kernel_rfl) (laid_met os))) ?_
 intro W base args ds gs before hval hW _ _ _ hL _ _
 exact contract H enc W base args ds gs before hval hW hL
theorem j1:(Rows.fnHandleRequestGetRow.inPlace==Tryz.prog.inPlace 3)=true:=by kernel_rfl
theorem j2:(Rows.fnHandleRequestGetRow.unfollowed==Tryz.prog.unfollowed 3)=true:=by kernel_rfl
theorem j3:(Rows.fnHandleRequestGetRow.recurses==Tryz.prog.recurses 3)=true:=by kernel_rfl
theorem j4:(Rows.fnHandleRequestGetRow.named==Tryz.prog.varsNamed 3)=true:=by kernel_rfl
theorem j5:joinedFacts Tryz.prog 3 Tryz.f3 (OpenSpec.ofChange Rows.fnHandleRequestGetSpec).bare Rows.fnHandleRequestGetRow=true:=by
 unfold joinedFacts
 rw [j1,j2,j3,j4]
 kernel_rfl
theorem j6:Tryz.prog.funcNamed Rows.fnHandleRequestGetRow.func=some 3:=by kernel_rfl
theorem said:Rows.FnHandleRequestGetSaid :=
 OpenClaim.holds_of_cond 3 Tryz.f3 rfl rfl rfl rfl rfl rfl rfl ⟨rfl,rfl,rfl,rfl,rfl⟩ rfl rfl rfl rfl rfl j6 Tryz.func3 j5
  (of_decide_eq_true (by kernel_rfl)) (by unfold Func.isWrapper; first | (rw [if_pos (by decide +kernel)]; kernel_rfl) | (rw [if_neg (by decide +kernel)]; exact ⟨rfl,rfl⟩))
  (fun os started H enc _ F=>by rw [OpenClaim.pre_eq_preRow]; exact lifted os started H enc F)
theorem jw:Rows.fnHandleRequestGetRow.wfByText (OpenSpec.ofChange Rows.fnHandleRequestGetSpec)=true:=by kernel_rfl
theorem jm:Tryz.pinned.checked.prog.mainIs=some (Rows.fnHandleRequestGetCard.stood.harness.1,Rows.fnHandleRequestGetCard.stood.harness.2.toList):=by kernel_rfl
theorem jg:false=Rows.fnHandleRequestGetRow.goesBy Tryz.pinned.checked.prog:=by kernel_rfl
theorem plain (f:FuncId) (fn:Func) (hf:Tryz.pinned.checked.prog.funcNamed Rows.fnHandleRequestGetRow.func=some f) (hfn:Tryz.pinned.checked.prog.funcs[f]? = some fn) :
  false=Tryz.pinned.checked.prog.looks []/\∀ (j:Nat) t,fn.params[j]? = some t->Tryz.pinned.checked.prog.wantsStandIn t=false:=by
 obtain rfl:f=3:=Option.some.inj ((show Tryz.prog.funcNamed Rows.fnHandleRequestGetRow.func=some 3 by kernel_rfl).symm.trans hf) |>.symm
 obtain rfl:fn=Tryz.f3:=(Option.some.inj (Tryz.func3.symm.trans hfn)).symm
 refine ⟨by kernel_rfl,fun j t ht => ?_⟩
 rw [Tryz.params3] at ht
 obtain rfl:t=22:=by simpa using Array.mem_of_getElem? ht
 exact (show Tryz.prog.wantsStandIn 22=false by kernel_rfl)
theorem card:Rows.FnHandleRequestGetCardSaid :=
 Claim7.holds_tied_plain_at .later [] _ _ _ _ said (fun _ h=>by cases h) jw (fun _ h=>by cases h) fnHandleRequestGet_row_tie rfl ⟨rfl,rfl⟩ jm rfl plain jg
end Go.Proofs.YtaejlonmildglaaGreatDoor.fnHandleRequestGet
end
