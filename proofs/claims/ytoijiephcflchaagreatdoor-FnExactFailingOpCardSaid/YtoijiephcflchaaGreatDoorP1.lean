/- The law FnExactFailingOp of the package laws answers true for all arguments and leaves them as they are (part 1). Conditions: none but what the row lists. -/
import Derived.Test.YtoijiephcflchaaGreatDoorB2
set_option linter.unusedVariables false
set_option linter.unusedSimpArgs false
section
namespace Go.Ab
open Go
set_option maxRecDepth 100000
set_option maxHeartbeats 4000000
set_option linter.unusedVariables false
set_option linter.unusedSimpArgs false
def G.jO (f:Nat) (ag:af) (aA:List jq):Option (Int):=match f with
| 0=>none
| n+1 =>
((G.aC n ag).bind fun v1 =>
(cond v1
((G.aT n aA).bind fun v2 =>
(cond v2
((G.dY n ag aA).bind fun v3 =>
(some (v3.2)))
(some ((-1)))))
(some ((-1)))))
def G.dn.L1 (f:Nat) (aA:List jq) (ak:Int) (y6:Int) (y7:Int) (y8:aS) (y9:List aS) (CE:List af):Option (Int):=match f with
| 0=>none
| n+1 =>
(cond (decide (ak<((aA.length:Nat):Int)))
(chk (0<=ak/\ak<((aA.length:Nat):Int))
((G.iH n (af.mk y6 y7 y8 y9 CE) (jq.mk ((aA.getD ak.toNat default).Kind) ((aA.getD ak.toNat default).Path) ((aA.getD ak.toNat default).From) ((aA.getD ak.toNat default).Value))).bind fun v5 =>
(cond v5.2
(G.dn.L1 n aA (IntKind.wrap .i64 (ak+1)) v5.1.Kind v5.1.Num v5.1.Text v5.1.Names v5.1.Kids)
(some (ak)))))
(some (((aA.length:Nat):Int))))
def G.dn (f:Nat) (ag:af) (aA:List jq):Option (Int):=match f with
| 0=>none
| n+1 =>
((G.bD n ag).bind fun v1 =>
(cond v1
((G.bf n aA).bind fun v2 =>
(cond v2
(G.dn.L1 n aA 0 ag.Kind ag.Num ag.Text ag.Names ag.Kids)
(some ((-1)))))
(some ((-1)))))
def G.fH (f:Nat) (CO:af) (rX:List jq):Option (Bool):=match f with
| 0=>none
| n+1 =>
((G.iy n CO 1048576).bind fun v1 =>
(cond (decide (v1<0))
(some (true))
((G.iR n rX v1).bind fun v2 =>
(cond (decide (v2<0))
(some (true))
((G.iD n CO).bind fun v3 =>
((G.iT n rX).bind fun v4 =>
((G.dn n v3 v4).bind fun v5 =>
((G.iD n CO).bind fun v6 =>
((G.iT n rX).bind fun v7 =>
((G.jO n v6 v7).bind fun v8 =>
(cond (v8 != v5)
(some (false))
((G.iD n CO).bind fun v9 =>
((G.jh n v6 v9).bind fun v10 =>
(cond v10
((G.iT n rX).bind fun v11 =>
((G.jv n v7 v11).bind fun v12 =>
(cond v12
(some (true))
(some (false)))))
(some (false))))))))))))))))
end Go.Ab
end
section
namespace Go.Ab
open Go
set_option maxRecDepth 100000
set_option maxHeartbeats 4000000
set_option linter.unusedVariables false
set_option linter.unusedSimpArgs false
def C.jO:aO:=(.seq (.reg [qX 2 10 0,qI 4 0] [1,2]) (.seq (.seq (.reg [qT 7 5 2,q1 8 57 7,qO 9 8,zM 10 9,zG 10 false 11 (.mv (.t 1)),⟨(some (10,false)),some 12,.call 58 [.t 11]⟩,zG 10 false 13 (.not (.t 12)),qQ 14 10 13] [1,2,14]) (.cond (.t 14) (.seq (.reg [qI 4 (-1)] [4]) .ret) .skip)) (.seq (.reg [qT 16 5 2,zM 17 1,q2 18 59 16 17,zM 15 18,qE 19 15 0,qE 20 15 1,qZ 5 11,qS 5 5 19,zM 6 20] [6]) (.seq (.reg [zM 21 6,zM 4 21] [4]) .ret))))
theorem K.jO:dO pZ 15 2 0 C.jO [.tmp 4]=true:=by kernel_rfl
def C.dn:aO:=(.seq (.reg [qX 2 10 0,qI 4 0] [1,2]) (.seq (.seq (.reg [qT 9 5 2,q1 10 53 9,qO 11 10,zM 12 11,zG 12 false 13 (.mv (.t 1)),⟨(some (12,false)),some 14,.call 54 [.t 13]⟩,zG 12 false 15 (.not (.t 14)),qQ 16 12 15] [1,2,16]) (.cond (.t 16) (.seq (.reg [qI 4 (-1)] [4]) .ret) .skip)) (.seq (.reg [qT 17 5 2,qZ 5 11,qS 5 5 17] [1,5]) (.seq (.seq (.reg [qI 6 0] [1,5,6]) (.block 0 (.loop (.seq (.seq (.reg [zM 18 6,zM 19 1,qL 20 19,zA 21 (.bin .lss (.t 18) (.t 20))] [1,5,6,21]) (.cond (.t 21) .skip (.exit 0))) (.seq (.block 1 (.seq (.kz [(qT 25 5 5,[]),(zM 26 1,[]),(zM 27 6,[]),(qD 28 8 26 27,[1,2]),(qT 29 8 28,[1,2,3]),(q2 30 55 25 29,[0,1,2,3,4]),(zM 24 30,[0,1,2,3,4,5]),(qE 31 24 0,[0,1,2,3,4,5,6]),(qE 32 24 1,[0,1,2,3,4,5,6]),(qZ 7 12,[]),(qS 5 7 31,[0,1,2,3,4,5,6,7,9]),(zM 8 32,[0,1,2,3,4,5,6,7,8,9,10])] [1,5,6,7,8]) (.seq (.seq (.reg [zM 33 8,qO 34 33] [1,5,6,7,34]) (.cond (.t 34) (.seq (.reg [zM 35 6,zM 4 35] [4]) .ret) .skip)) (.reg [qT 36 5 7,qS 5 5 36] [1,5,6])))) (.reg [zM 22 6,zA 23 (.bin .add (.t 22) (kI 1)),zM 6 23] [1,5,6])))))) (.seq (.reg [zM 37 1,qL 38 37,zM 4 38] [4]) .ret)))))
theorem K.dn:dO pZ 12 2 0 C.dn [.tmp 4]=true:=by kernel_rfl
def C.fH:aO:=(.seq (.reg [qX 2 10 0,qB 4 false] [1,2]) (.seq (.reg [qI 5 1048576] [1,2,5]) (.seq (.reg [qT 10 5 2,zM 11 5,q2 12 10 10 11,zM 5 12] [1,2,5]) (.seq (.seq (.reg [zM 13 5,zA 14 (.bin .lss (.t 13) (kI 0))] [1,2,5,14]) (.cond (.t 14) (.seq (.reg [qB 4 true] [4]) .ret) .skip)) (.seq (.reg [zM 15 1,zM 16 5,q2 17 11 15 16,zM 5 17] [1,2,5]) (.seq (.seq (.reg [zM 18 5,zA 19 (.bin .lss (.t 18) (kI 0))] [1,2,19]) (.cond (.t 19) (.seq (.reg [qB 4 true] [4]) .ret) .skip)) (.seq (.reg [qT 20 5 2,q1 21 13 20,zM 22 1,q1 23 14 22,q2 24 12 21 23,zM 6 24] [1,2,6]) (.seq (.reg [qT 25 5 2,q1 26 13 25,qZ 7 11,qS 5 7 26] [1,2,6,7]) (.seq (.reg [zM 27 1,q1 28 14 27,zM 8 28] [1,2,6,7,8]) (.seq (.reg [qT 29 5 7,zM 30 8,q2 31 15 29 30,zM 9 31] [1,2,6,7,8,9]) (.seq (.seq (.reg [zM 32 9,zM 33 6,zA 34 (.bin .neq (.t 32) (.t 33))] [1,2,7,8,34]) (.cond (.t 34) (.seq (.reg [qB 4 false] [4]) .ret) .skip)) (.seq (.seq (.kz [(qT 35 5 7,[]),(qT 36 5 2,[]),(q1 37 13 36,[1]),(q2 38 16 35 37,[0,1,2]),(qO 39 38,[0,1,2,3])] [1,8,39]) (.cond (.t 39) (.seq (.reg [qB 4 false] [4]) .ret) .skip)) (.seq (.seq (.reg [zM 40 8,zM 41 1,q1 42 14 41,q2 43 17 40 42,qO 44 43] [44]) (.cond (.t 44) (.seq (.reg [qB 4 false] [4]) .ret) .skip)) (.seq (.reg [qB 4 true] [4]) .ret))))))))))))))
theorem K.fH:dO pZ 3 2 0 C.fH [.tmp 4]=true:=by kernel_rfl
end Go.Ab
end
section
namespace Go.Ab
open Go
noncomputable def F9 (n:af) (l:List jq):Int:=if Val n&&wY l then ((vk n l:Nat):Int) else -1
theorem T.dn.L1 {l:List jq} (h:wY l=true):∀ (k i:Nat) (n:af),i+k=l.length->Val n=true ->
    Ev (fun f=>G.dn.L1 f l i n.Kind n.Num n.Text n.Names n.Kids) ((i+vk n (l.drop i):Nat):Int):=by
  obtain ⟨ho,hl⟩:=Ar h
  intro k
  induction k with
  | zero =>
    intro i n hi hn
    refine Ev.up ?_
    simp only [G.dn.L1,af.eta]
    refine Ev.cf (by simp; omega) (Ev.ret' ?_)
    rw [List.drop_of_length_le (by omega),vk]; omega
  | succ k ih =>
    intro i n hi hn
    have hlt:i<l.length:=by omega
    refine Ev.up ?_
    simp only [G.dn.L1,Int.toNat_natCast,jq.eta,af.eta,aV (show i+1<9223372036854775808 by omega)]
    have hv:=ho _ (getD_mem default hlt)
    refine Ev.ct (by simpa using hlt) (Ev.chk (by omega) (Ev.bind (Ea hn hv) ?_))
    rw [bg (default:jq) hlt,vk]
    cases ha:qW n (l.getD i default) with
    | none=>exact Ev.cf rfl (Ev.ret' (by simp))
    | some m =>
      refine Ev.ct rfl ((ih (i+1) m (by omega) (applied ha).vm).eq ?_)
      simp only
      omega
theorem T.dn {B E:Nat} {n:af} {l:List jq} (hB:B<=lim) (hn:Fine B E n) (hl:zB l):Ev (fun f=>G.dn f n l) (F9 n l):=by
 refine Ev.up ?_
 simp only [G.dn]
 unfold F9
 refine Ev.bind (T.bD hB hn) (Ev.ite (fun e1 => ?_) (fun e1=>Ev.ret' (by rw [e1]; rfl)))
 refine Ev.bind (T.bf hl) (Ev.ite (fun e2 => ?_) (fun e2=>Ev.ret' (by rw [e1,e2]; rfl)))
 rw [e1,e2,if_pos (by rfl)]
 exact (T.dn.L1 e2 l.length 0 n (by omega) e1).eq (by simp)
end Go.Ab
end
section
namespace Go.Ab
open Go
set_option maxRecDepth 100000
theorem T0.jO {B E:Nat} {n:af} {l:List jq} (hB:B<=lim) (hn:nM B E n) (hl:I7 l):Ev (fun f=>G.jO f n l) (F9 n l):=by
 refine Ev.up ?_
 simp only [G.jO]
 unfold F9
 refine Ev.bind (T0.aC hB hn) (Ev.ite (fun e1 => ?_) (fun e1=>Ev.ret' (by rw [e1]; rfl)))
 refine Ev.bind (T0.aT hl) (Ev.ite (fun e2 => ?_) (fun e2=>Ev.ret' (by rw [e1,e2]; rfl)))
 refine Ev.bind (T.dY e1 e2) (Ev.ret' ?_)
 rw [e1,e2,if_pos (by rfl)]
 unfold Pj
 cases hr:AO n l with
 | some m=>rw [Gn.2 (by rw [hr]; rfl)]
 | none=>simp
theorem T0.dn {B E:Nat} {n:af} {l:List jq} (hB:B<=lim) (hn:nM B E n) (hl:I7 l):Ev (fun f=>G.dn f n l) (F9 n l):=by
 refine Ev.up ?_
 simp only [G.dn]
 unfold F9
 refine Ev.bind (T0.bD hB hn) (Ev.ite (fun e1 => ?_) (fun e1=>Ev.ret' (by rw [e1]; rfl)))
 refine Ev.bind (T0.bf hl) (Ev.ite (fun e2 => ?_) (fun e2=>Ev.ret' (by rw [e1,e2]; rfl)))
 rw [e1,e2,if_pos (by rfl)]
 exact (T.dn.L1 e2 l.length 0 n (by omega) e1).eq (by simp)
end Go.Ab
end
section
namespace Go.Ab
open Go
set_option maxRecDepth 100000
theorem T.yX {D0:Nat} {n:af} {l:List jq} (hn0:nM mx D0 n) (h1:l.length<=mx) (hl0:∀ o,o∈l->∃ D,rH mx D o):Ev (fun f=>G.fH f n l) true:=by
 obtain ⟨D,hD,hl⟩:=rH.all D0 hl0
 have hn:nM mx D n:=hn0.mono (Nat.le_refl _) hD
 obtain ⟨v1,g1,a1,b1⟩:=T.E5 D hn (left:=1048576) (by omega) (by omega)
 by_cases c1:v1<0
 ·refine Ev.up ?_
  simp only [G.fH]
  exact Ev.bind g1 (Ev.ct (decide_eq_true c1) (Ev.ret _))
 obtain ⟨v2,g2,a2,b2⟩:=T.UZ h1 hl (left:=v1) (by omega) (by omega)
 by_cases c2:v2<0
 ·refine Ev.up ?_
  simp only [G.fH]
  exact Ev.bind g1 (Ev.cf (decide_eq_false c1) (Ev.bind g2 (Ev.ct (decide_eq_true c2) (Ev.ret _))))
 have fn:=b1 (by omega)
 obtain ⟨e1,e2⟩:=b2 (by omega)
 have hll:l.length<=lim:=by unfold lim; omega
 have tn:=T.Fb sG fn
 have tl:=T.U1 sG hll e2
 have en:=T.Ew sG fn
 have el:=T.UO sG hll e2
 have fl:I7 l:=⟨by omega,fun o ho=>⟨D,e2 o ho⟩⟩
 have hS:=T0.dn sG fn fl
 have hI:=T0.jO sG fn fl
 refine Ev.up ?_
 simp only [G.fH]
 exact Ev.bind g1 (Ev.cf (decide_eq_false c1) (Ev.bind g2 (Ev.cf (decide_eq_false c2) (Ev.bind tn (Ev.bind tl (Ev.bind hS (Ev.bind tn (Ev.bind tl (Ev.bind hI (Ev.cf (by simp) (Ev.bind tn (Ev.bind en (Ev.ct rfl (Ev.bind tl (Ev.bind el (Ev.ct rfl (Ev.ret _)))))))))))))))))
end Go.Ab
end
section
namespace Go.Ab
open Go
set_option maxRecDepth 100000
set_option maxHeartbeats 4000000
set_option linter.unusedVariables false
set_option linter.unusedSimpArgs false
theorem F.jO {n:Nat} : ∀ {ag aA r},G.jO n ag aA=some r->aZ pZ 15 [.agg (wN ag),.one (.c (.sl 8 (List.map jq.cells aA)))] (.one (wI r)):=by
 intro ag aA r h
 refine aB K.jO (jZ ?_)
 unfold C.jO
 rcases n with _ | n<;>simp only [G.jO,reduceCtorEq] at h
 have z:=pp (pp @F.aC <| pp @F.aT <| pp @F.dY ()) <| pp () <| pp () <| pp () <| pp () <| pp () <| ()
 exact kQ
theorem F.dn {n:Nat} : ∀ {ag aA r},G.dn n ag aA=some r->aZ pZ 12 [.agg (wN ag),.one (.c (.sl 8 (List.map jq.cells aA)))] (.one (wI r)):=by
 intro ag aA r h
 refine aB K.dn (jZ ?_)
 unfold C.dn
 rcases n with _ | n<;>simp only [G.dn,reduceCtorEq] at h
 have z:=pp (pp @F.bD <| pp @F.bf <| pp @F.iH ()) <| pp () <| pp (pp (@lQ (Int × Int × Int × aS × List aS × List af) _ (fun n x=>G.dn.L1 n aA x.1 x.2.1 x.2.2.1 x.2.2.2.1 x.2.2.2.2.1 x.2.2.2.2.2) r (fun x=>bZ.of [(1,.v true (.one (.c (.sl 8 (List.map jq.cells aA))))),eP 5 103,eI 6 x.1] [(103,.var [wI x.2.1,wI x.2.2.1,wS x.2.2.2.1,wT x.2.2.2.2.1,wK x.2.2.2.2.2])])) ()) <| pp () <| pp (pp (And.intro @G.dn.L1.eq_1 <| @G.dn.L1.eq_2) ()) <| pp (pp (@bQ [] [(103,11)] []) <| pp (@bQ [] [(103,103)] []) ()) <| ()
 exact kQ
theorem F.fH {n:Nat} : ∀ {CO rX r},G.fH n CO rX=some r->aZ pZ 3 [.agg (wN CO),.one (.c (.sl 8 (List.map jq.cells rX)))] (.one (.c (.lit (.bool r)))):=by
 intro CO rX r h
 refine aB K.fH (jZ ?_)
 unfold C.fH
 rcases n with _ | n<;>simp only [G.fH,reduceCtorEq] at h
 have z:=pp (pp @F.iy <| pp @F.iR <| pp @F.iD <| pp @F.iT <| pp @F.dn <| pp @F.jO <| pp @F.jh <| pp @F.jv ()) <| pp () <| pp () <| pp () <| pp () <| pp () <| ()
 exact kQ
end Go.Ab
end
section
namespace Go.Ab
open Go Go.ChangeShapes Go.WideShapes Go.ChangeAt Go.RowKit
theorem WL {I:IH} {ρ:Ren} {v:Value} {x:Cell} (h:Rd I v x):GV I ρ v (.one (.c x)):=h
end Go.Ab
end
section
namespace Go.Proofs.YtoijiephcflchaaGreatDoor.fnExactFailingOp
open Go Go.ChangeShapes Go.WideShapes Go.ChangeAt Go.RowKit Go.Ab
set_option maxRecDepth 100000
theorem own:ownKnob Tryz.prog.godebug=none:=by kernel_rfl
theorem laidOut:laidOutB Tryz.prog=true:=by kernel_rfl
theorem WM:zC Tryz.prog 3 9 22 25 23:=⟨by kernel_rfl,by kernel_rfl,by kernel_rfl,by kernel_rfl,⟨_,Tryz.underlying25,by kernel_rfl⟩,by kernel_rfl,by kernel_rfl,by kernel_rfl,by kernel_rfl,by kernel_rfl⟩
theorem Xv:Ja Tryz.prog 3 9 22 25 23 58 26:=⟨WM,by kernel_rfl,⟨_,Tryz.underlying58,by kernel_rfl⟩,by kernel_rfl,by kernel_rfl⟩
theorem met {W:World} (h:laidMetH Tryz.prog Rows.fnExactFailingOpRow.laid W):laidMet Tryz.prog Rows.fnExactFailingOpRow.laid W:=by
 unfold laidMetH at h
 rw [show (Rows.fnExactFailingOpRow.laid.filter fun x=>x.2.handleName?.isSome)=[] from by kernel_rfl] at h
 exact h
theorem tabs {W:World} (hL:laidMetH Tryz.prog Rows.fnExactFailingOpRow.laid W):Tabs Tryz.prog (I0 W):=by
 have h:=BP 2 (met hL)
 rw [show Rows.fnExactFailingOpRow.laid.drop 2=("internal/strconv.uint64pow10",Lib.tabData .u64 Lib.pow10Tab)::Rows.fnExactFailingOpRow.laid.drop 3 from by kernel_rfl] at h
 exact NI (g:=1) (t:=240) (e:=192) (by kernel_rfl) (by kernel_rfl) (by kernel_rfl) (by kernel_rfl) (by kernel_rfl) (by kernel_rfl) h
theorem contract (H:Type) (enc:TypeId × Value->H) (W:World) (base:Nat) (args:Array Value) (ds gs:List (DataW H)) (before:List MemPlace)
  (hval:∀ (j:Nat) t v,Tryz.f3.params[j]? = some t->args[j]? = some v->Value.okWide Tryz.prog W .any base t v)
  (hW:DataW.Whole enc Tryz.prog Tryz.f3.params.toList Rows.fnExactFailingOpSpec.vars false W args.toList ds gs before)
  (hL:laidMetH Tryz.prog Rows.fnExactFailingOpRow.laid W) :
  Calls Tryz.prog 3 args W fun e W'=>∃ v,e = .returned v/\Rows.fnExactFailingOpSpec.post enc Tryz.prog Tryz.f3 false true false false W args v W':=by
 have hW':=hW
 obtain ⟨p,q,hA0,hV,rfl,hfz,hnd⟩:=hW
 have hA:DataW.TrodAll enc Tryz.prog W 0 (fun _=>true) true Tryz.f3.params.toList args.toList ds p:=hA0
 rw [Tryz.params3] at hA hval
 obtain ⟨v0,Yf,d0,ds0,p0,q0,hargs,rfl,rfl,h0,r0⟩:=trodAll_cons hA
 obtain ⟨v1,vs1,d1,ds1,p1,q1,rfl,rfl,rfl,h1,r1⟩:=trodAll_cons r0
 obtain ⟨rfl,rfl,rfl⟩:=trodAll_nil r1
 obtain rfl:args = #[v0,v1]:=by cases args; simp_all
 obtain ⟨rfl,rfl⟩:=trodVars_none hV
 clear hA0
 simp only [List.append_nil] at hW'
 have hlt:∀ x∈(p0++p1),x.block<W.heap.size:=fun x hx=>hW'.lt x (by simpa using hx)
 obtain ⟨c0,rfl,_⟩:=okWide_struct Tryz.underlying25 (hval 0 25 v0 rfl rfl)
 have hk0:=h0
 obtain ⟨f0,g0⟩:=h0
 obtain ⟨x0,e0,_,m0⟩:=yj WM f0 g0
 rw [af.dZ] at e0
 obtain ⟨a1,len1,cap1,rfl⟩:=okWide_slice Tryz.underlying26 (hval 1 26 v1 rfl rfl)
 have hk1:=h1
 obtain ⟨f1,g1⟩:=h1
 obtain ⟨x1,w1,e1,u1,m1,n1⟩:=J7 Xv g1
 obtain rfl:_=w1:=by simpa [Value.cells] using e1
 obtain ⟨n,hn⟩:=(T.yX m0 m1 n1).val
 have key:=Q4 (tabs hL) (Nu (IB e0) (WL u1)) (F.fH hn)
 refine Calls.mono key fun e W' ⟨he,hb⟩ => ?_
 subst he
 have ht:DataW.TrodAll enc Tryz.prog W' 0 (fun b=>decide (b<W.heap.size)) true [25,26] [_,_] [d0,d1] (p0++(p1++[])):=trodAll_cons_mk (Below.trod laidOut (by kernel_rfl) (of_decide_eq_true (by kernel_rfl)) hk0 hb (fun x hx=>hlt x (List.mem_append_left _ hx))) (trodAll_cons_mk (Below.trod laidOut (by kernel_rfl) (of_decide_eq_true (by kernel_rfl)) hk1 hb (fun x hx=>hlt x (List.mem_append_right _ hx))) (trodAll_mk0))
 simp only [List.append_nil] at ht
 exact ⟨_,rfl,_,_,_,[],_,[],hW',trodAll_cons_mk (shut_bool Tryz.underlying4 _) trodAll_mk0,
  ht,rfl,hb.frame _,fun h=>by cases h⟩
def tab (k:IntKind) (l:List Int):Obj->Obj
 | .cells _ t frozen => .cells (l.map fun n=>Value.int k n).toArray t frozen
 | o=>o
noncomputable def laidWorld (os:Os):World :=
 { World.holding Tryz.prog os ⟨#[],#[],[]⟩ with heap:=((((World.holding Tryz.prog os ⟨#[],#[],[]⟩).heap).modify 2 (tab .u8 [0,1,28,2,29,14,24,3,30,22,20,15,25,17,4,8,31,27,13,23,21,19,16,7,26,12,18,6,11,5,10,9])).modify 3 (tab .u8 [0,1,56,2,57,49,28,3,61,58,42,50,38,29,17,4,62,47,59,36,45,43,51,22,53,39,33,30,24,18,12,5,63,55,48,27,60,41,37,16,46,35,44,21,52,32,23,11,54,26,40,15,34,20,31,10,25,14,19,9,13,8,7,6])).modify 1 (tab .u64 [1,10,100,1000,10000,100000,1000000,10000000,100000000,1000000000,10000000000,100000000000,1000000000000,10000000000000,100000000000000,1000000000000000,10000000000000000,100000000000000000,1000000000000000000,10000000000000000000]) }
theorem laid_met (os:Os):laidMet Tryz.prog Rows.fnExactFailingOpRow.laid ((laidWorld os).forCall (fun _ _=>0) ⟨#[],#[.agg #[.int .i64 0,.int .i64 0,.string ⟨#[]⟩,.slice none 0 0,.slice none 0 0],.slice none 0 0],[]⟩).memory :=
 laidMet_of_run' 80 (by kernel_rfl) (by kernel_rfl)
theorem reads (os:Os) {H:Type} (enc:TypeId × Value->H):∃ places,DataW.whole enc Tryz.prog ((laidWorld os).forCall (fun _ _=>0) ⟨#[],#[.agg #[.int .i64 0,.int .i64 0,.string ⟨#[]⟩,.slice none 0 0,.slice none 0 0],.slice none 0 0],[]⟩).memory Tryz.f3.params.toList Rows.fnExactFailingOpSpec.vars false #[.agg #[.int .i64 0,.int .i64 0,.string ⟨#[]⟩,.slice none 0 0,.slice none 0 0],.slice none 0 0].toList 8=some ([.agg [.lit (.int .i64 0),.lit (.int .i64 0),.lit (.string []),.nil,.nil],.nil],[],places) :=
 ⟨[],by kernel_rfl⟩
theorem lifted (os:Os) (started:os.Started) (H:Type) (enc:TypeId × Value->H) (F:Stop.Interp) :
  ReturnsInHanded {} Tryz.checked os 3 .any ((OpenSpec.ofChange Rows.fnExactFailingOpSpec).preRow enc Tryz.prog Tryz.f3 Rows.fnExactFailingOpRow.domain false Rows.fnExactFailingOpRow.laid) (((OpenSpec.ofChange Rows.fnExactFailingOpSpec).at F).post enc Tryz.prog Tryz.f3 false true false false):=by
 obtain ⟨places,hx⟩:=reads os enc
 refine returnsInHanded_of_row (C:=Tryz.checked) (s:=OpenSpec.ofChange Rows.fnExactFailingOpSpec) own started (by kernel_rfl) Tryz.func3
  (witness_row_at (enc:=enc) (C:=Tryz.checked) false (laidWorld os) #[.agg #[.int .i64 0,.int .i64 0,.string ⟨#[]⟩,.slice none 0 0,.slice none 0 0],.slice none 0 0] rfl (by kernel_rfl) (by kernel_rfl) (by kernel_rfl)
   (OpenSpec.preRow_of_cond 8 hx (by kernel_rfl) (fun k hk=>by cases hk) (by kernel_rfl) (laid_met os))) ?_
 intro W base args ds gs before hval hW _ _ _ hL _ _
 exact contract H enc W base args ds gs before hval hW hL
theorem j1:(Rows.fnExactFailingOpRow.inPlace==Tryz.prog.inPlace 3)=true:=by kernel_rfl
theorem j2:(Rows.fnExactFailingOpRow.unfollowed==Tryz.prog.unfollowed 3)=true:=by kernel_rfl
theorem j3:(Rows.fnExactFailingOpRow.recurses==Tryz.prog.recurses 3)=true:=by kernel_rfl
theorem j4:(Rows.fnExactFailingOpRow.named==Tryz.prog.varsNamed 3)=true:=by kernel_rfl
theorem j5:joinedFacts Tryz.prog 3 Tryz.f3 (OpenSpec.ofChange Rows.fnExactFailingOpSpec).bare Rows.fnExactFailingOpRow=true:=by
 unfold joinedFacts
 rw [j1,j2,j3,j4]
 kernel_rfl
theorem j6:Tryz.prog.funcNamed Rows.fnExactFailingOpRow.func=some 3:=by kernel_rfl
theorem said:Rows.FnExactFailingOpSaid :=
 OpenClaim.holds_of_cond 3 Tryz.f3 rfl rfl rfl rfl rfl rfl rfl ⟨rfl,rfl,rfl,rfl,rfl⟩ rfl rfl rfl rfl rfl j6 Tryz.func3 j5
  (of_decide_eq_true (by kernel_rfl)) (by unfold Func.isWrapper; first | (rw [if_pos (by decide +kernel)]; kernel_rfl) | (rw [if_neg (by decide +kernel)]; exact ⟨rfl,rfl⟩))
  (fun os started H enc _ F=>by rw [OpenClaim.pre_eq_preRow]; exact lifted os started H enc F)
theorem jw:Rows.fnExactFailingOpRow.wfByText (OpenSpec.ofChange Rows.fnExactFailingOpSpec)=true:=by kernel_rfl
theorem jm:Tryz.pinned.checked.prog.mainIs=some (Rows.fnExactFailingOpCard.stood.harness.1,Rows.fnExactFailingOpCard.stood.harness.2.toList):=by kernel_rfl
theorem jg:false=Rows.fnExactFailingOpRow.goesBy Tryz.pinned.checked.prog:=by kernel_rfl
theorem plain (f:FuncId) (fn:Func) (hf:Tryz.pinned.checked.prog.funcNamed Rows.fnExactFailingOpRow.func=some f) (hfn:Tryz.pinned.checked.prog.funcs[f]? = some fn) :
  false=Tryz.pinned.checked.prog.looks []/\∀ (j:Nat) t,fn.params[j]? = some t->Tryz.pinned.checked.prog.wantsStandIn t=false:=by
 obtain rfl:f=3:=Option.some.inj ((show Tryz.prog.funcNamed Rows.fnExactFailingOpRow.func=some 3 by kernel_rfl).symm.trans hf) |>.symm
 obtain rfl:fn=Tryz.f3:=(Option.some.inj (Tryz.func3.symm.trans hfn)).symm
 refine ⟨by kernel_rfl,fun j t ht => ?_⟩
 rw [Tryz.params3] at ht
 have ht':t=25\/t=26:=by simpa using Array.mem_of_getElem? ht
 rcases ht' with rfl | rfl
 ·exact (show Tryz.prog.wantsStandIn 25=false by kernel_rfl)
 ·exact (show Tryz.prog.wantsStandIn 26=false by kernel_rfl)
theorem card:Rows.FnExactFailingOpCardSaid :=
 Claim7.holds_tied_plain_at .later [] _ _ _ _ said (fun _ h=>by cases h) jw (fun _ h=>by cases h) fnExactFailingOp_row_tie rfl ⟨rfl,rfl⟩ jm rfl plain jg
end Go.Proofs.YtoijiephcflchaaGreatDoor.fnExactFailingOp
end
