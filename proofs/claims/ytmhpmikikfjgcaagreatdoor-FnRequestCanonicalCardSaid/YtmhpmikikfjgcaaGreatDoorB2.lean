/- The functions of the program that the laws reach: what they compute, the proofs that they do, the laws of the data (part 2). No conditions. -/
import Derived.Test.YtmhpmikikfjgcaaGreatDoorB1
set_option linter.unusedVariables false
set_option linter.unusedSimpArgs false
section
namespace Go.Ab
open Go
set_option maxRecDepth 100000
set_option maxHeartbeats 4000000
set_option linter.unusedVariables false
set_option linter.unusedSimpArgs false
def C.fV:bD:=(.seq (.reg [qX 3 10 0,qX 5 11 2,zA 6 (.alloc 12 [.nsl 7,jc 0])] [1,3,5,6]) (.seq (.reg [zA 12 (.bslice 13 7 0 [.str [],.lit (.int .i64 0),.lit (.int .i64 0),.lit (.int .i64 0),.str [],.sl 1 [],.sl 5 []] []),zM 7 12] [1,3,5,6,7]) (.seq (.jQ [(zM 13 1,[]),(qA 14 1 3,[]),(qF 15 1 14,[1]),(zA 16 (.bin .add (.t 15) (kI 1)),[1,2]),(qT 17 5 5,[]),(q1 18 87 17,[4]),(zA 19 (.build [.c (.str []),jc 0,jc 0,jc 0,.c (.str []),.nsl 1,.nsl 5] [(0,1,.t 13),(1,1,.t 16),(2,5,.t 18)]),[0,1,2,3,4,5]),(zA 8 (.alloc 14 [.c (.str []),jc 0,jc 0,jc 0,.c (.str []),.nsl 1,.nsl 5]),[]),(qS 7 8 19,[0,1,2,3,4,5,6,7])] [1,3,6,7,8]) (.seq (.reg [qT 20 2 3,q1 21 110 20,zA 22 (.field false 0 1 (.t 21)),zM 9 22] [1,3,6,7,8,9]) (.seq (.reg [qB 10 false] [1,3,6,7,8,9,10]) (.seq (.seq (.reg [qI 11 0] [1,3,6,7,8,9,10,11]) (.block 0 (.loop (.seq (.seq (.reg [zM 23 11,zM 24 9,qL 25 24,zA 26 (.bin .lss (.t 23) (.t 25))] [1,3,6,7,8,9,10,11,26]) (.cond (.t 26) .skip (.exit 0))) (.seq (.block 1 (.cut (.seq (.reg [zM 29 10,qO 30 29,zM 31 30,zG 31 true 32 (.mv (.t 9)),zG 31 true 33 (.mv (.t 11)),zG 31 true 34 (.iaddr 7 (.t 32) (.t 33)),zG 31 true 35 (.faddr 0 (.t 34)),zG 31 true 36 (.load false 1 (.t 35)),zG 31 true 37 (.mv (.t 1)),zG 31 true 38 (.bin .geq (.t 36) (.t 37)),qP 39 31 38] [1,3,6,7,8,9,10,11,39]) (.cond (.t 39) (.seq (.reg [zM 40 7,qT 41 7 8,zA 42 (.bslice 15 7 1 [.str [],.lit (.int .i64 0),.lit (.int .i64 0),.lit (.int .i64 0),.str [],.sl 1 [],.sl 5 []] [(0,.t 41)]),zA 43 (.append 16 7 104 (.t 40) (.t 42)),zM 7 43] [1,3,6,7,8,9,11]) (.reg [qB 10 true] [1,3,6,7,8,9,10,11])) .skip)) (.seq (.reg [zM 44 9,zM 45 11,qD 46 7 44 45,qA 47 0 46,qF 48 1 47,zM 49 1,zA 50 (.bin .neq (.t 48) (.t 49))] [1,3,6,7,8,9,10,11,50]) (.cond (.t 50) (.reg [zM 51 7,zM 52 9,zM 53 11,qD 54 7 52 53,qT 55 7 54,zA 56 (.bslice 17 7 1 [.str [],.lit (.int .i64 0),.lit (.int .i64 0),.lit (.int .i64 0),.str [],.sl 1 [],.sl 5 []] [(0,.t 55)]),zA 57 (.append 18 7 104 (.t 51) (.t 56)),zM 7 57] [1,3,6,7,8,9,10,11]) .skip)))) (.reg [zM 27 11,zA 28 (.bin .add (.t 27) (kI 1)),zM 11 28] [1,3,6,7,8,9,10,11])))))) (.seq (.seq (.reg [zM 58 10,qO 59 58] [3,6,7,8,59]) (.cond (.t 59) (.reg [zM 60 7,qT 61 7 8,zA 62 (.bslice 19 7 1 [.str [],.lit (.int .i64 0),.lit (.int .i64 0),.lit (.int .i64 0),.str [],.sl 1 [],.sl 5 []] [(0,.t 61)]),zA 63 (.append 20 7 104 (.t 60) (.t 62)),zM 7 63] [3,6,7]) .skip)) (.seq (.reg [zM 64 7,qA 65 1 3,qF 66 1 65,zA 67 (.bin .add (.t 66) (kI 1)),zA 68 (.build [.nsl 7,jc 0] [(0,1,.t 64),(1,1,.t 67)]),qS 2 6 68] [6]) .ret))))))))
theorem K.fV:fE pZ 166 3 0 C.fV [.cell 6 true 2]=true:=by kernel_rfl
def C.jC:bD:=(.seq (.reg [qX 3 10 0,qX 5 11 2,zA 6 (.alloc 12 [.nsl 7,jc 0]),qB 7 false] [1,3,5,6]) (.seq (.seq (.reg [qT 9 2 3,q1 10 165 9,qO 11 10,zM 12 11,zG 12 false 13 (.mv (.t 1)),⟨(some (12,false)),some 14,.call 79 [.t 13]⟩,zG 12 false 15 (.not (.t 14)),qQ 16 12 15,zM 17 16,zG 17 false 18 (.load true 5 (.t 5)),⟨(some (17,false)),some 19,.call 35 [.t 18]⟩,zG 17 false 20 (.not (.t 19)),qQ 21 17 20] [1,3,5,6,21]) (.cond (.t 21) (.seq (.reg [zA 22 (.build [.nsl 7,jc 0] []),qS 2 6 22,qB 7 false] [6,7]) .ret) .skip)) (.seq (.reg [qT 23 2 3,zM 24 1,qT 25 5 5,q3 26 166 23 24 25,zA 8 (.alloc 13 [.nsl 7,jc 0]),qS 2 8 26] [6,8]) (.seq (.seq (.reg [qT 27 2 8,q1 28 165 27,qO 29 28] [6,8,29]) (.cond (.t 29) (.seq (.reg [zA 30 (.build [.nsl 7,jc 0] []),qS 2 6 30,qB 7 false] [6,7]) .ret) .skip)) (.seq (.reg [qT 31 2 8,qS 2 6 31,qB 7 true] [6,7]) .ret)))))
theorem K.jC:fE pZ 120 3 0 C.jC [.cell 6 true 2,.tmp 7]=true:=by kernel_rfl
def C.dB:bD:=(.seq (.reg [zA 2 (.alloc 10 [.nsl 7,jc 0])] [0,2]) (.seq (.reg [zA 7 (.bslice 11 7 0 [.str [],.lit (.int .i64 0),.lit (.int .i64 0),.lit (.int .i64 0),.str [],.sl 1 [],.sl 5 []] []),zA 8 (.build [.nsl 7,jc 0] [(0,1,.t 7)]),zA 3 (.alloc 12 [.nsl 7,jc 0]),qS 2 3 8] [0,2,3]) (.seq (.seq (.reg [zM 9 0,zA 10 (.bslice 13 1 6 [.lit (.int .i64 0)] [(0,kI 3),(1,kI 4),(2,kI 2),(3,kI 5),(4,kI 0),(5,kI 12)]),q2 11 54 9 10,zM 4 11] [0,2,3,4]) (.block 0 (.loop (.seq (.seq (.reg [zM 12 4,zA 13 (.bin .gtr (.t 12) (kI 0))] [0,2,3,4,13]) (.cond (.t 13) .skip (.exit 0))) (.seq (.block 1 (.seq (.jQ [(qT 17 2 3,[]),(zM 18 0,[]),(q1 19 121 18,[1]),(zM 20 0,[]),(q1 21 122 20,[1,2,3]),(q3 22 120 17 19 21,[0,1,2,3,4]),(zM 16 22,[0,1,2,3,4,5]),(qE 23 16 0,[0,1,2,3,4,5,6]),(qE 24 16 1,[0,1,2,3,4,5,6]),(zA 5 (.alloc 14 [.nsl 7,jc 0]),[]),(qS 2 5 23,[0,1,2,3,4,5,6,7,9]),(zM 6 24,[0,1,2,3,4,5,6,7,8,9,10])] [0,2,3,4,5,6]) (.cut (.seq (.reg [zM 25 0,⟨none,some 26,.call 46 [.t 25,kI 8]⟩,zA 27 (.bin .eql (.t 26) (kI 0))] [0,2,3,4,5,6,27]) (.cond (.t 27) (.jQ [(qT 29 2 3,[]),(zM 30 0,[]),(q1 31 121 30,[1]),(q2 32 123 29 31,[0,1,2]),(zM 28 32,[0,1,2,3]),(qE 33 28 0,[0,1,2,3,4]),(qE 34 28 1,[0,1,2,3,4]),(qS 2 5 33,[0,1,2,3,4,5]),(zM 6 34,[0,1,2,3,4,5,6,7])] [0,2,3,4,5,6]) .skip)) (.seq (.reg [zM 35 6] [0,2,3,4,5,35]) (.cond (.t 35) (.reg [qT 36 2 5,qS 2 3 36] [0,2,3,4]) .skip))))) (.reg [zM 14 4,zA 15 (.bin .sub (.t 14) (kI 1)),zM 4 15] [0,2,3,4])))))) (.seq (.reg [qT 37 2 3,qS 2 2 37] [2]) .ret))))
theorem K.dB:fE pZ 69 1 1 C.dB [.cell 2 true 2]=true:=by kernel_rfl
def C.dP:bD:=(.seq (.reg [zA 2 (.alloc 10 [jc 0,.c (.str []),.nsl 1,.nsl 1,jc 0,jc 0,.c (.str []),.nsl 1,.nsl 5,.nsl 8])] [0,2]) (.seq (.reg [zM 4 0,zM 5 0,q1 6 69 5,q2 7 68 4 6,zA 3 (.alloc 11 [jc 0,.c (.str []),.nsl 1,.nsl 1,jc 0,jc 0,.c (.str []),.nsl 1,.nsl 5,.nsl 8]),qS 10 3 7] [0,2,3]) (.cut (.seq (.reg [qA 8 0 3,qF 9 1 8,zA 10 (.bin .neq (.t 9) (kI 2)),zM 11 10,zG 11 true 12 (.faddr 0 (.t 3)),zG 11 true 13 (.load false 1 (.t 12)),zG 11 true 14 (.bin .neq (.t 13) (kI 5)),qP 15 11 14,zM 16 15,zG 16 true 17 (.mv (.t 0)),⟨(some (16,true)),some 18,.call 46 [.t 17,kI 8]⟩,zG 16 true 19 (.bin .gtr (.t 18) (kI 0)),qP 20 16 19] [0,2,3,20]) (.cond (.t 20) (.reg [zA 21 (.build zN []),qA 22 4 3,qS 5 22 21] [0,2,3]) .skip)) (.seq (.seq (.reg [qA 23 0 3,qF 24 1 23,zA 25 (.bin .neq (.t 24) (kI 4)),zM 26 25,zG 26 true 27 (.mv (.t 0)),⟨(some (26,true)),some 28,.call 46 [.t 27,kI 8]⟩,zG 26 true 29 (.bin .gtr (.t 28) (kI 0)),qP 30 26 29] [2,3,30]) (.cond (.t 30) (.reg [zA 31 (.bslice 12 8 0 [.lit (.int .i64 0),.sl 1 [],.sl 1 [],.lit (.int .i64 0),.lit (.int .i64 0),.str [],.sl 1 [],.sl 5 []] []),qA 32 9 3,qU 1 32 31] [2,3]) .skip)) (.seq (.reg [qT 33 10 3,qS 10 2 33] [2]) .ret)))))
theorem K.dP:fE pZ 26 1 1 C.dP [.cell 2 true 10]=true:=by kernel_rfl
end Go.Ab
end
section
namespace Go.Ab
open Go
def Ev {α:Type} (g:Nat->Option α) (r:α):Prop:=∃ N,∀ n,N<=n->g n=some r
section
variable {α β:Type} {g g':Nat->Option α} {r s:α}
theorem Ev.ret (r:α):Ev (fun _=>some r) r:=⟨0,fun _ _=>rfl⟩
theorem Ev.ret' (h:s=r):Ev (fun _=>some s) r:=by subst h; exact Ev.ret _
theorem Ev.up (h:Ev (fun n=>g (n+1)) r):Ev g r:=by
 obtain ⟨N,h⟩:=h
 refine ⟨N+1,fun n hn => ?_⟩
 obtain ⟨m,rfl⟩:∃ m,n=m+1:=⟨n-1,by omega⟩
 exact h m (by omega)
theorem Ev.bind {h:Nat->Option β} {k:Nat->β->Option α} {a:β} (h1:Ev h a) (h2:Ev (fun n=>k n a) r):Ev (fun n=>Option.bind (h n) (k n)) r:=by
 obtain ⟨N,h1⟩:=h1
 obtain ⟨M,h2⟩:=h2
 refine ⟨max N M,fun n hn => ?_⟩
 show Option.bind (h n) (k n)=some r
 rw [h1 n (by omega)]
 exact h2 n (by omega)
theorem Ev.chk {p:Prop} [Decidable p] (hp:p) (h:Ev g r):Ev (fun n=>Ab.chk p (g n)) r:=by
 obtain ⟨N,h⟩:=h
 exact ⟨N,fun n hn=>by show Ab.chk p (g n)=some r; rw [Ab.chk,if_pos hp]; exact h n hn⟩
theorem Ev.ct {c:Bool} (hc:c=true) (h:Ev g r):Ev (fun n=>cond c (g n) (g' n)) r:=by subst hc; exact h
theorem Ev.cf {c:Bool} (hc:c=false) (h:Ev g' r):Ev (fun n=>cond c (g n) (g' n)) r:=by subst hc; exact h
theorem Ev.ite {c:Bool} (h:c=true->Ev g r) (h':c=false->Ev g' r):Ev (fun n=>cond c (g n) (g' n)) r:=by
 cases c
 ·exact h' rfl
 ·exact h rfl
theorem Ev.eq (h:Ev g r) (e:r=s):Ev g s:=e ▸ h
theorem Ev.val (h:Ev g r):∃ n,g n=some r:=⟨h.choose,h.choose_spec _ (Nat.le_refl _)⟩
end
theorem wrapN {x:Int} {m:Nat} (h:x=(m:Int)) (h1:m<9223372036854775808):IntKind.wrap .i64 x=(m:Int):=by
 rw [xk (by omega) (by omega),h]
theorem bu {i:Nat} (h1:i+1<9223372036854775808):IntKind.wrap .i64 ((i:Int)+1)=((i+1:Nat):Int):=wrapN (by omega) h1
theorem dI {α:Type} {l:List α} {i:Nat} (d:α) (h:i<l.length):l.getD i d=l[i]:=by simp [List.getD,h]
theorem aY {α:Type} {l:List α} {i:Nat} (d:α) (h:i<l.length):l.drop i=l.getD i d::l.drop (i+1):=by
 rw [dI d h,List.drop_eq_getElem_cons h]
abbrev bl (x y:List UInt8):Bool:=Op.bytesLess x y
theorem H6 (x:List UInt8):bl x []=false:=by cases x<;>rfl
theorem Ar (a b:UInt8) (x y:List UInt8):bl (a::x) (b::y)=(decide (a<b)||(a==b&&bl x y)):=rfl
theorem vO:∀ x:List UInt8,bl x x=false
 | []=>rfl
 | a::x=>by rw [Ar,vO x]; simp
theorem qM:∀ {x y z:List UInt8},bl x y=true->bl y z=true->bl x z=true
  | _,[],_,h,_=>by rw [H6] at h; cases h
  | _,_::_,[],_,h=>by rw [H6] at h; cases h
  | [],_::_,_::_,_,_=>rfl
  | a::x,b::y,c::z,h,k=>by
    rw [Ar] at *
    simp only [Bool.or_eq_true,Bool.and_eq_true,decide_eq_true_eq,beq_iff_eq] at *
    rcases h with h | ⟨rfl,h⟩<;>rcases k with k | ⟨rfl,k⟩
    · exact .inl (UInt8.lt_trans h k)
    · exact .inl h
    · exact .inl k
    · exact .inr ⟨rfl,qM h k⟩
theorem vP:∀ {x y:List UInt8},bl x y=false->bl y x=false->x=y
  | [],[],_,_=>rfl
  | [],_::_,h,_=>by cases h
  | _::_,[],_,h=>by cases h
  | a::x,b::y,h,k=>by
    rw [Ar] at *
    simp only [Bool.or_eq_false_iff,Bool.and_eq_false_iff,decide_eq_false_iff_not] at *
    obtain ⟨h1,h2⟩:=h
    obtain ⟨k1,k2⟩:=k
    have e:a=b:=by
      apply UInt8.toNat_inj.1
      simp only [UInt8.lt_iff_toNat_lt] at h1 k1
      omega
    subst e
    simp only [beq_self_eq_true,Bool.true_eq_false,false_or] at h2 k2
    rw [vP h2 k2]
theorem xG {x y:List UInt8} (h:bl x y=true):bl y x=false:=by
 cases k:bl y x with
 | false=>rfl
 | true=>have:=qM h k; rw [vO] at this; cases this
theorem zB {x y:List UInt8} (h:bl x y=true):x ≠ y:=by
 intro e; subst e; rw [vO] at h; cases h
end Go.Ab
end
section
namespace Go.Ab
open Go
def okB (b:UInt8):Bool:=decide (32<=b.toNat)&&decide (b.toNat<=126)
def PT (s:aA):Bool:=s.all okB&&decide (s.length<=12)
def PP (p:List aA):Bool:=p.all PT&&decide (p.length<=5)
def Asc:List aA->Bool
 | []=>true
 | [_]=>true
 | x::y::r=>Op.bytesLess x y&&Asc (y::r)
def big:Nat:=4611686018427387904
theorem rO (b:UInt8):IntKind.wrap .i64 ((b.toNat:Nat):Int)=(b.toNat:Int):=by
 have:=b.toNat_lt
 exact wrapN rfl (by omega)
theorem T.bG (a lo hi:Int):Ev (fun n=>G.bG n a lo hi) (decide (lo<=a)&&decide (a<=hi)):=by
 refine Ev.up ?_
 simp only [G.bG]
 refine Ev.ite (fun h => ?_) (fun h => ?_)
 ·exact Ev.ret' (by rw [h,Bool.true_and])
 ·exact Ev.ret' (by rw [h,Bool.false_and])
theorem T.dD.L1 (s:aA) (hs:s.length<big):∀ (k i:Nat),i+k=s.length->Ev (fun n=>G.dD.L1 n s i) ((s.drop i).all okB&&decide (s.length<=12)):=by
  unfold big at hs
  intro k
  induction k with
  | zero =>
    intro i hi
    refine Ev.up ?_
    simp only [G.dD.L1]
    refine Ev.cf (by simp; omega) (Ev.ret' ?_)
    rw [List.drop_of_length_le (by omega)]
    simp
    omega
  | succ k ih =>
    intro i hi
    refine Ev.up ?_
    simp only [G.dD.L1]
    refine Ev.ct (by simp; omega) (Ev.chk (by omega) ?_)
    refine Ev.bind (T.bG _ _ _) ?_
    rw [aY (0:UInt8) (by omega:i<s.length),List.all_cons,Int.toNat_natCast,rO]
    have e:(decide ((32:Int)<=((s.getD i 0).toNat:Int))&&decide (((s.getD i 0).toNat:Int)<=126))=okB (s.getD i 0):=by
      unfold okB; congr 1<;>(apply decide_eq_decide.2; omega)
    rw [e]
    refine Ev.ite (fun h => ?_) (fun h => ?_)
    · rw [bu (by omega),h,Bool.true_and]
      exact ih (i+1) (by omega)
    · exact Ev.ret' (by rw [h]; rfl)
theorem T.dD (s:aA) (hs:s.length<big):Ev (fun n=>G.dD n s) (PT s):=by
 refine Ev.up ?_
 simp only [G.dD]
 exact T.dD.L1 s hs s.length 0 (by omega)
theorem T.bJ.L1 (s:aA) (hs:s.length<big):∀ (k i:Nat),i+k=s.length->Ev (fun n=>G.bJ.L1 n s i) ((s.drop i).all okB):=by
  unfold big at hs
  intro k
  induction k with
  | zero =>
    intro i hi
    refine Ev.up ?_
    simp only [G.bJ.L1]
    refine Ev.cf (by simp; omega) (Ev.ret' ?_)
    rw [List.drop_of_length_le (by omega)]
    rfl
  | succ k ih =>
    intro i hi
    refine Ev.up ?_
    simp only [G.bJ.L1]
    rw [aY (0:UInt8) (by omega:i<s.length),List.all_cons,Int.toNat_natCast]
    refine Ev.ct (by simp; omega) (Ev.chk (by omega) ?_)
    refine Ev.ite (fun h => ?_) (fun h => ?_)
    · refine Ev.ret' ?_
      have:okB (s.getD i 0)=false:=by
        simp only [decide_eq_true_eq] at h
        simp only [okB,Bool.and_eq_false_iff,decide_eq_false_iff_not]
        omega
      rw [this]; rfl
    · refine Ev.chk (by omega) ?_
      refine Ev.ite (fun k => ?_) (fun k => ?_)
      · refine Ev.ret' ?_
        have:okB (s.getD i 0)=false:=by
          simp only [decide_eq_true_eq] at k
          simp only [okB,Bool.and_eq_false_iff,decide_eq_false_iff_not]
          omega
        rw [this]; rfl
      · have:okB (s.getD i 0)=true:=by
          simp only [decide_eq_false_iff_not] at h k
          simp only [okB,Bool.and_eq_true,decide_eq_true_eq]
          omega
        rw [this,Bool.true_and,bu (by omega)]
        exact ih (i+1) (by omega)
theorem T.bJ (s:aA) (hs:s.length<big):Ev (fun n=>G.bJ n s) (PT s):=by
 refine Ev.up ?_
 simp only [G.bJ]
 refine Ev.ite (fun h => ?_) (fun h => ?_)
 ·simp only [decide_eq_true_eq] at h
  refine Ev.ret' ?_
  have:decide (s.length<=12)=false:=by simp; omega
  rw [PT,this,Bool.and_false]
 ·simp only [decide_eq_false_iff_not] at h
  refine (T.bJ.L1 s hs s.length 0 (by omega)).eq ?_
  have:decide (s.length<=12)=true:=by simp; omega
  rw [PT,this,Bool.and_true,List.drop_zero]
def Sm (l:List aA):Prop:=l.length<big/\∀ s,s∈l->s.length<big
theorem Sm.get {l:List aA} (h:Sm l) {i:Nat} (hi:i<l.length):(l.getD i default).length<big:=by
 rw [dI _ hi]
 exact h.2 _ (List.getElem_mem hi)
theorem T.dM.L1 (p:List aA) (hp:Sm p):∀ (k i:Nat),i+k=p.length->Ev (fun n=>G.dM.L1 n p i) ((p.drop i).all PT&&decide (p.length<=5)):=by
  have hl:=hp.1
  unfold big at hl
  intro k
  induction k with
  | zero =>
    intro i hi
    refine Ev.up ?_
    simp only [G.dM.L1]
    refine Ev.cf (by simp; omega) (Ev.ret' ?_)
    rw [List.drop_of_length_le (by omega)]
    simp
    omega
  | succ k ih =>
    intro i hi
    refine Ev.up ?_
    simp only [G.dM.L1]
    refine Ev.ct (by simp; omega) (Ev.chk (by omega) ?_)
    rw [aY (default:aA) (by omega:i<p.length),List.all_cons,Int.toNat_natCast]
    refine Ev.bind (T.dD _ (hp.get (by omega))) ?_
    refine Ev.ite (fun h => ?_) (fun h => ?_)
    · rw [bu (by omega),h,Bool.true_and]
      exact ih (i+1) (by omega)
    · exact Ev.ret' (by rw [h]; rfl)
theorem T.dM (p:List aA) (hp:Sm p):Ev (fun n=>G.dM n p) (PP p):=by
 refine Ev.up ?_
 simp only [G.dM]
 exact T.dM.L1 p hp p.length 0 (by omega)
theorem T.fA.L1 (p:List aA) (hp:Sm p):∀ (k i:Nat),i+k=p.length->Ev (fun n=>G.fA.L1 n p i) ((p.drop i).all PT):=by
  have hl:=hp.1
  unfold big at hl
  intro k
  induction k with
  | zero =>
    intro i hi
    refine Ev.up ?_
    simp only [G.fA.L1]
    refine Ev.cf (by simp; omega) (Ev.ret' ?_)
    rw [List.drop_of_length_le (by omega)]
    rfl
  | succ k ih =>
    intro i hi
    refine Ev.up ?_
    simp only [G.fA.L1]
    refine Ev.ct (by simp; omega) (Ev.chk (by omega) ?_)
    rw [aY (default:aA) (by omega:i<p.length),List.all_cons,Int.toNat_natCast]
    refine Ev.bind (T.bJ _ (hp.get (by omega))) ?_
    refine Ev.ite (fun h => ?_) (fun h => ?_)
    · rw [bu (by omega),h,Bool.true_and]
      exact ih (i+1) (by omega)
    · exact Ev.ret' (by rw [h]; rfl)
theorem T.fA (p:List aA) (hp:Sm p):Ev (fun n=>G.fA n p) (PP p):=by
 refine Ev.up ?_
 simp only [G.fA]
 refine Ev.ite (fun h => ?_) (fun h => ?_)
 ·simp only [decide_eq_true_eq] at h
  refine Ev.ret' ?_
  have:decide (p.length<=5)=false:=by simp; omega
  rw [PP,this,Bool.and_false]
 ·simp only [decide_eq_false_iff_not] at h
  refine (T.fA.L1 p hp p.length 0 (by omega)).eq ?_
  have:decide (p.length<=5)=true:=by simp; omega
  rw [PP,this,Bool.and_true,List.drop_zero]
def NM (l:List aA):Bool:=l.all PT&&Asc l
theorem drop_pred {l:List aA} {i:Nat} (h0:0<i) (h:i<l.length):l.drop (i-1)=l.getD (i-1) default::l.getD i default::l.drop (i+1):=by
 rw [aY (default:aA) (by omega:i-1<l.length),show i-1+1=i by omega,aY (default:aA) h]
theorem T.gX.L1 (l:List aA) (hp:Sm l):∀ (k i:Nat),i+k=l.length->Ev (fun n=>G.gX.L1 n l i) ((l.drop i).all PT&&Asc (l.drop (i-1))):=by
  have hl:=hp.1
  unfold big at hl
  intro k
  induction k with
  | zero =>
    intro i hi
    refine Ev.up ?_
    simp only [G.gX.L1]
    refine Ev.cf (by simp; omega) (Ev.ret' ?_)
    rw [List.drop_of_length_le (by omega)]
    by_cases h0:i=0
    · rw [List.drop_of_length_le (by omega)]; rfl
    · rw [aY (default:aA) (by omega:i-1<l.length),List.drop_of_length_le (by omega)]; rfl
  | succ k ih =>
    intro i hi
    refine Ev.up ?_
    simp only [G.gX.L1]
    refine Ev.ct (by simp; omega) (Ev.chk (by omega) ?_)
    rw [aY (default:aA) (by omega:i<l.length),List.all_cons,Int.toNat_natCast]
    refine Ev.bind (T.dD _ (hp.get (by omega))) ?_
    refine Ev.ite (fun h => ?_) (fun h => ?_)
    · rw [h,Bool.true_and,bu (by omega)]
      refine Ev.ite (fun h0 => ?_) (fun h0 => ?_)
      · simp only [decide_eq_true_eq] at h0
        have e:IntKind.wrap .i64 ((i:Int)-1)=((i-1:Nat):Int):=wrapN (by omega) (by omega)
        rw [e,Int.toNat_natCast]
        refine Ev.chk (by omega) (Ev.chk (by omega) ?_)
        rw [drop_pred (by omega) (by omega),Asc]
        have hd:l.getD i default::l.drop (i+1)=l.drop (i+1-1):=by rw [Nat.add_sub_cancel,<- aY (default:aA) (by omega:i<l.length)]
        refine Ev.ite (fun h1 => ?_) (fun h1 => ?_)
        · exact Ev.ret' (by rw [show Op.bytesLess (l.getD (i-1) default) (l.getD i default)=false from xG h1]; simp)
        · refine Ev.ite (fun h2 => ?_) (fun h2 => ?_)
          · rw [beq_iff_eq] at h2
            exact Ev.ret' (by rw [show Op.bytesLess (l.getD (i-1) default) (l.getD i default)=false by rw [h2]; exact vO _]; simp)
          · have:Op.bytesLess (l.getD (i-1) default) (l.getD i default)=true:=by
              cases hb:Op.bytesLess (l.getD (i-1) default) (l.getD i default) with
              | true=>rfl
              | false=>rw [vP h1 hb] at h2; simp at h2
            rw [this,Bool.true_and,hd]
            exact ih (i+1) (by omega)
      · simp only [decide_eq_false_iff_not] at h0
        have:i=0:=by omega
        subst this
        exact ih 1 (by omega)
    · exact Ev.ret' (by rw [h]; rfl)
theorem T.gX (l:List aA) (hp:Sm l):Ev (fun n=>G.gX n l) (NM l):=by
 refine Ev.up ?_
 simp only [G.gX]
 exact T.gX.L1 l hp l.length 0 (by omega)
theorem T.dQ.L1 (l:List aA) (hp:Sm l):∀ (k i:Nat),i+k=l.length->Ev (fun n=>G.dQ.L1 n l i) ((l.drop i).all PT&&Asc (l.drop (i-1))):=by
  have hl:=hp.1
  unfold big at hl
  intro k
  induction k with
  | zero =>
    intro i hi
    refine Ev.up ?_
    simp only [G.dQ.L1]
    refine Ev.cf (by simp; omega) (Ev.ret' ?_)
    rw [List.drop_of_length_le (by omega)]
    by_cases h0:i=0
    · rw [List.drop_of_length_le (by omega)]; rfl
    · rw [aY (default:aA) (by omega:i-1<l.length),List.drop_of_length_le (by omega)]; rfl
  | succ k ih =>
    intro i hi
    refine Ev.up ?_
    simp only [G.dQ.L1]
    refine Ev.ct (by simp; omega) (Ev.chk (by omega) ?_)
    rw [aY (default:aA) (by omega:i<l.length),List.all_cons,Int.toNat_natCast]
    refine Ev.bind (T.bJ _ (hp.get (by omega))) ?_
    refine Ev.ite (fun h => ?_) (fun h => ?_)
    · rw [h,Bool.true_and,bu (by omega)]
      refine Ev.ite (fun h0 => ?_) (fun h0 => ?_)
      · simp only [decide_eq_true_eq] at h0
        have e:IntKind.wrap .i64 ((i:Int)-1)=((i-1:Nat):Int):=wrapN (by omega) (by omega)
        rw [e,Int.toNat_natCast]
        refine Ev.chk (by omega) ?_
        rw [drop_pred (by omega) (by omega),Asc]
        have hd:l.getD i default::l.drop (i+1)=l.drop (i+1-1):=by rw [Nat.add_sub_cancel,<- aY (default:aA) (by omega:i<l.length)]
        refine Ev.ite (fun h1 => ?_) (fun h1 => ?_)
        · rw [h1,Bool.true_and,hd]
          exact ih (i+1) (by omega)
        · exact Ev.ret' (by rw [h1]; simp)
      · simp only [decide_eq_false_iff_not] at h0
        have:i=0:=by omega
        subst this
        exact ih 1 (by omega)
    · exact Ev.ret' (by rw [h]; rfl)
theorem T.dQ (l:List aA) (hp:Sm l):Ev (fun n=>G.dQ n l) (NM l&&decide (l.length<=6)):=by
 refine Ev.up ?_
 simp only [G.dQ]
 refine Ev.ite (fun h => ?_) (fun h => ?_)
 ·simp only [decide_eq_true_eq] at h
  refine Ev.ret' ?_
  have:decide (l.length<=6)=false:=by simp; omega
  rw [this,Bool.and_false]
 ·simp only [decide_eq_false_iff_not] at h
  refine (T.dQ.L1 l hp l.length 0 (by omega)).eq ?_
  have:decide (l.length<=6)=true:=by simp; omega
  rw [NM,this,Bool.and_true,List.drop_zero]
end Go.Ab
end
section
namespace Go.Ab
open Go
def Fine (B:Nat):Nat->af->Prop
 | 0,_=>False
 | d+1,n=>n.Text.length<=B/\n.Names.length<=B/\(∀ s,s∈n.Names->s.length<=B)/\n.Kids.length<=B/\(n.Kind=4->n.Kids.length<=n.Names.length)/\∀ k,k∈n.Kids->Fine B d k
theorem Fine.mono {B C:Nat} (hB:B<=C):∀ {d e:Nat} {n:af},d<=e->Fine B d n->Fine C e n
  | 0,_,_,_,h=>h.elim
  | d+1,0,_,hd,_=>by omega
  | d+1,e+1,n,hd,h=>by
    obtain ⟨h1,h2,h3,h4,h5,h6⟩:=h
    exact ⟨by omega,by omega,fun s hs=>Nat.le_trans (h3 s hs) hB,by omega,h5,fun k hk=>(h6 k hk).mono hB (by omega)⟩
def lim:Nat:=4294967296
theorem Fine.sm {B d:Nat} {n:af} (hB:B<=lim) (h:Fine B d n):Sm n.Names:=by
  cases d with
  | zero=>exact h.elim
  | succ d =>
    obtain ⟨h1,h2,h3,h4,h5,h6⟩:=h
    unfold lim at hB
    exact ⟨by unfold big; omega,fun s hs=>by have:=h3 s hs; unfold big; omega⟩
theorem Fine.text {B d:Nat} {n:af} (hB:B<=lim) (h:Fine B d n):n.Text.length<big:=by
 cases d with
 | zero=>exact h.elim
 | succ d=>obtain ⟨h1,_⟩:=h; unfold lim at hB; unfold big; omega
theorem Fine.kids {B d:Nat} {n:af} (h:Fine B d n):n.Kids.length<=B:=by
 cases d with
 | zero=>exact h.elim
 | succ d=>exact h.2.2.2.1
theorem Fine.names {B d:Nat} {n:af} (h:Fine B d n):n.Names.length<=B:=by
 cases d with
 | zero=>exact h.elim
 | succ d=>exact h.2.1
theorem Fine.map {B d:Nat} {n:af} (h:Fine B d n) (hk:n.Kind=4):n.Kids.length<=n.Names.length:=by
 cases d with
 | zero=>exact h.elim
 | succ d=>exact h.2.2.2.2.1 hk
theorem Fine.kid {B d:Nat} {n:af} (h:Fine B (d+1) n) {i:Nat} (hi:i<n.Kids.length):Fine B d (n.Kids.getD i default):=by
 rw [dI _ hi]
 exact h.2.2.2.2.2 _ (List.getElem_mem hi)
def Parts (n:af):Bool :=
  (n.Kind==1||n.Num==0)&&(n.Kind==2||n.Text==[])&&(n.Kind==4||n.Names.length==0) &&
  (if n.Kind=0 then n.Kids.length==0 else if n.Kind=1 then (decide (-999999<=n.Num)&&decide (n.Num<=999999))&&n.Kids.length==0 else if n.Kind=2 then PT n.Text&&n.Kids.length==0
   else if n.Kind=3 then decide (n.Kids.length<=6) else if n.Kind=4 then NM n.Names&&decide (n.Names.length<=6)&&n.Kids.length==n.Names.length else false)
def Shape:Nat->af->Bool
 | 0,_=>false
 | d+1,n=>Parts n&&n.Kids.all (Shape d)
theorem ilen {a b:Nat} : (((a:Nat):Int)==((b:Nat):Int))=(a==b):=by
 rw [Bool.eq_iff_iff]; simp; omega
theorem LJ {a:Nat} : (((a:Nat):Int)==0)=(a==0):=by
 rw [Bool.eq_iff_iff]; simp
theorem ile {a b:Nat} : decide (((a:Nat):Int)<=((b:Nat):Int))=decide (a<=b):=by
 rw [Bool.eq_iff_iff]; simp
def nZ (n:af):Bool :=
  (n.Kind==4||n.Names.length==0) &&
  (if n.Kind=0 then n.Kids.length==0 else if n.Kind=1 then (decide (-999999<=n.Num)&&decide (n.Num<=999999))&&n.Kids.length==0 else if n.Kind=2 then PT n.Text&&n.Kids.length==0
   else if n.Kind=3 then decide (n.Kids.length<=6) else if n.Kind=4 then NM n.Names&&decide (n.Names.length<=6)&&n.Kids.length==n.Names.length else false)
theorem BF (n:af):Parts n=((n.Kind==1||n.Num==0)&&(n.Kind==2||n.Text==[])&&nZ n):=by
 unfold Parts nZ; simp only [Bool.and_assoc]
theorem T.aS.K1 {B d:Nat} {n:af} (hB:B<=lim) (h:Fine B d n):Ev (fun f=>G.aS.K1 f n) (nZ n):=by
 refine Ev.up ?_
 simp only [G.aS.K1]
 have ht:=T.bJ _ (h.text hB)
 have hn:=T.dQ _ (h.sm hB)
 have h0:decide ((0:Int)<((n.Names.length:Nat):Int)) = !(n.Names.length==0):=by
  cases hq:n.Names.length<;>simp
 have h6:decide (((n.Kids.length:Nat):Int)<=6)=decide (n.Kids.length<=6):=by rw [Bool.eq_iff_iff]; simp; omega
 rw [h0]
 have tail:Ev (fun f=>cond (n.Kind==0) (some (((n.Kids.length:Nat):Int)==0)) (cond (n.Kind==1) (cond (decide ((-999999)<=n.Num)) (cond (decide (n.Num<=999999)) (some (((n.Kids.length:Nat):Int)==0)) (some false)) (some false))
   (cond (n.Kind==2) (Option.bind (G.bJ f n.Text) fun v3=>cond v3 (some (((n.Kids.length:Nat):Int)==0)) (some false))
   (cond (n.Kind==3) (some (decide (((n.Kids.length:Nat):Int)<=6))) (cond (n.Kind==4) (Option.bind (G.dQ f n.Names) fun v4=>cond v4 (some (((n.Kids.length:Nat):Int)==((n.Names.length:Nat):Int))) (some false)) (some false))))))
   (if n.Kind=0 then n.Kids.length==0 else if n.Kind=1 then (decide (-999999<=n.Num)&&decide (n.Num<=999999))&&n.Kids.length==0 else if n.Kind=2 then PT n.Text&&n.Kids.length==0
    else if n.Kind=3 then decide (n.Kids.length<=6) else if n.Kind=4 then NM n.Names&&decide (n.Names.length<=6)&&n.Kids.length==n.Names.length else false):=by
  rw [LJ,ilen,h6]
  refine Ev.ite (fun e=>Ev.ret' ?_) (fun e0 => ?_)
  ·rw [if_pos (by simpa using e)]
  rw [if_neg (by simpa using e0)]
  refine Ev.ite (fun e => ?_) (fun e1 => ?_)
  ·rw [if_pos (by simpa using e)]
   refine Ev.ite (fun k=>Ev.ite (fun k2=>Ev.ret' ?_) (fun k2=>Ev.ret' ?_)) (fun k=>Ev.ret' ?_)
   ·rw [k,k2]; simp
   ·rw [k2]; simp
   ·rw [k]; simp
  rw [if_neg (by simpa using e1)]
  refine Ev.ite (fun e => ?_) (fun e2 => ?_)
  ·rw [if_pos (by simpa using e)]
   refine Ev.bind ht (Ev.ite (fun k=>Ev.ret' ?_) (fun k=>Ev.ret' ?_))
   ·rw [k,Bool.true_and]
   ·rw [k,Bool.false_and]
  rw [if_neg (by simpa using e2)]
  refine Ev.ite (fun e=>Ev.ret' ?_) (fun e3 => ?_)
  ·rw [if_pos (by simpa using e)]
  rw [if_neg (by simpa using e3)]
  refine Ev.ite (fun e => ?_) (fun e4=>Ev.ret' ?_)
  ·rw [if_pos (by simpa using e)]
   refine Ev.bind hn (Ev.ite (fun k=>Ev.ret' ?_) (fun k=>Ev.ret' ?_))
   ·rw [k,Bool.true_and]
   ·rw [k,Bool.false_and]
  ·rw [if_neg (by simpa using e4)]
 refine Ev.ite (fun e => ?_) (fun e => ?_)
 ·have e':(n.Kind==4)=false:=by simpa using e
  refine Ev.ite (fun k=>Ev.ret' ?_) (fun k => ?_)
  ·rw [Bool.not_eq_true'] at k; rw [nZ,e',k]; rfl
  ·rw [Bool.not_eq_false'] at k; exact tail.eq (by rw [nZ,k,Bool.or_true,Bool.true_and])
 ·have e':(n.Kind==4)=true:=by simpa using e
  exact tail.eq (by rw [nZ,e',Bool.true_or,Bool.true_and])
theorem T.aS {B d:Nat} {n:af} (hB:B<=lim) (h:Fine B d n):Ev (fun f=>G.aS f n) (Parts n):=by
 refine Ev.up ?_
 simp only [G.aS]
 have hk:=T.aS.K1 hB h
 rw [BF]
 have tail:Ev (fun f=>cond (n.Kind != 2) (cond (n.Text==[]) (G.aS.K1 f n) (some false)) (G.aS.K1 f n)) ((n.Kind==2||n.Text==[])&&nZ n):=by
  refine Ev.ite (fun e => ?_) (fun e => ?_)
  ·have e':(n.Kind==2)=false:=by simpa using e
   refine Ev.ite (fun k => ?_) (fun k=>Ev.ret' ?_)
   ·exact hk.eq (by rw [k,Bool.or_true,Bool.true_and])
   ·rw [e',k]; rfl
  ·have e':(n.Kind==2)=true:=by simpa using e
   exact hk.eq (by rw [e',Bool.true_or,Bool.true_and])
 refine Ev.ite (fun e => ?_) (fun e => ?_)
 ·have e':(n.Kind==1)=false:=by simpa using e
  refine Ev.ite (fun k=>Ev.ret' ?_) (fun k => ?_)
  ·have:(n.Num==0)=false:=by simpa using k
   rw [e',this]; rfl
  ·have:(n.Num==0)=true:=by simpa using k
   exact tail.eq (by rw [this,Bool.or_true,Bool.true_and])
 ·have e':(n.Kind==1)=true:=by simpa using e
  exact tail.eq (by rw [e',Bool.true_or,Bool.true_and])
end Go.Ab
end
section
namespace Go.Ab
open Go
theorem T.gB.L1 {B D d:Nat} {n:af} (hB:B<=lim) (h:Fine B (D+1) n) (hd:d<1000) (hs:∀ k,k∈n.Kids->Ev (fun f=>G.bW f k d) (Shape d k)) :
    ∀ (k i:Nat),i+k=n.Kids.length->Ev (fun f=>G.gB.L1 f n ((d+1:Nat):Int) i) ((n.Kids.drop i).all (Shape d)):=by
  have hl:=h.kids
  unfold lim at hB
  intro k
  induction k with
  | zero =>
    intro i hi
    refine Ev.up ?_
    simp only [G.gB.L1]
    refine Ev.cf (by simp; omega) (Ev.ret' ?_)
    rw [List.drop_of_length_le (by omega)]
    rfl
  | succ k ih =>
    intro i hi
    refine Ev.up ?_
    simp only [G.gB.L1]
    refine Ev.ct (by simp; omega) (Ev.chk (by omega) ?_)
    rw [aY (default:af) (by omega:i<n.Kids.length),List.all_cons,Int.toNat_natCast]
    have e:IntKind.wrap .i64 (((d+1:Nat):Int)-1)=(d:Int):=wrapN (by omega) (by omega)
    rw [e]
    refine Ev.bind (hs _ (by rw [dI _ (by omega:i<n.Kids.length)]; exact List.getElem_mem _)) ?_
    refine Ev.ite (fun h => ?_) (fun h => ?_)
    · rw [bu (by omega),h,Bool.true_and]
      exact ih (i+1) (by omega)
    · exact Ev.ret' (by rw [h]; rfl)
theorem T.gB {B D d:Nat} {n:af} (hB:B<=lim) (h:Fine B (D+1) n) (hd:d<1000) (hs:∀ k,k∈n.Kids->Ev (fun f=>G.bW f k d) (Shape d k)) :
  Ev (fun f=>G.gB f n ((d+1:Nat):Int)) (n.Kids.all (Shape d)):=by
 refine Ev.up ?_
 simp only [G.gB]
 exact T.gB.L1 hB h hd hs n.Kids.length 0 (by omega)
def Nv (d:Nat) (n:af):Bool :=
 if n.Kind=1 then decide (-999999<=n.Num)&&decide (n.Num<=999999) else if n.Kind=2 then PT n.Text else if n.Kind=3 then n.Kids.all (Shape d)
 else if n.Kind=4 then n.Names.length==n.Kids.length&&NM n.Names&&n.Kids.all (Shape d) else n.Kind==0
theorem T.bW.K1 {B D d:Nat} {n:af} (hB:B<=lim) (h:Fine B (D+1) n) (hd:d<1000) (hs:∀ k,k∈n.Kids->Ev (fun f=>G.bW f k d) (Shape d k)) :
  Ev (fun f=>G.bW.K1 f n ((d+1:Nat):Int)) (Nv d n):=by
 refine Ev.up ?_
 simp only [G.bW.K1]
 have hk:=T.gB hB h hd hs
 unfold Nv
 refine Ev.ite (fun e => ?_) (fun e1 => ?_)
 ·rw [if_pos (by simpa using e)]
  exact Ev.bind (T.bG _ _ _) (Ev.ret _)
 rw [if_neg (by simpa using e1)]
 refine Ev.ite (fun e => ?_) (fun e2 => ?_)
 ·rw [if_pos (by simpa using e)]
  exact Ev.bind (T.dD _ (h.text hB)) (Ev.ret _)
 rw [if_neg (by simpa using e2)]
 refine Ev.ite (fun e => ?_) (fun e3 => ?_)
 ·rw [if_pos (by simpa using e)]
  exact Ev.bind hk (Ev.ret _)
 rw [if_neg (by simpa using e3)]
 refine Ev.ite (fun e => ?_) (fun e4 => ?_)
 ·rw [if_pos (by simpa using e),ilen]
  refine Ev.ite (fun k => ?_) (fun k=>Ev.ret' (by rw [k]; rfl))
  refine Ev.bind (T.gX _ (h.sm hB)) ?_
  refine Ev.ite (fun k2 => ?_) (fun k2=>Ev.ret' (by rw [k2]; simp))
  exact Ev.bind hk (Ev.ret' (by rw [k,k2]; rfl))
 ·exact Ev.ret' (by rw [if_neg (by simpa using e4)])
theorem KO {a:Nat} : decide ((0:Int)<((a:Nat):Int)) = !(a==0):=by cases a<;>simp
theorem vS {c a:Bool} {g:Nat->Option Bool} {V:Bool} (h:Ev g V):Ev (fun f=>cond c (cond a (some false) (g f)) (g f)) ((!c || !a)&&V):=by
 cases c<;>cases a
 ·exact h
 ·exact h
 ·exact h
 ·exact Ev.ret _
theorem EK {c a:Bool} {g:Nat->Option Bool} {V:Bool} (h:Ev g V):Ev (fun f=>cond c (cond a (g f) (some false)) (g f)) ((!c||a)&&V):=by
 cases c<;>cases a
 ·exact h
 ·exact h
 ·exact Ev.ret _
 ·exact h
theorem qi {n:af} (h:6<n.Kids.length):Parts n=false:=by
  have e0:(n.Kids.length==0)=false:=beq_eq_false_iff_ne.2 (by omega)
  have e6:decide (n.Kids.length<=6)=false:=by simp; omega
  have e4:(NM n.Names&&decide (n.Names.length<=6)&&n.Kids.length==n.Names.length)=false:=by
    cases h1:decide (n.Names.length<=6) with
    | false=>simp
    | true =>
      have:(n.Kids.length==n.Names.length)=false:=by simp at h1; simp; omega
      rw [this,Bool.and_false]
  unfold Parts
  rw [e0,e6,e4]
  simp
theorem Dh {d:Nat} {n:af} (h:n.Kids.length<=6) :
  ((!(n.Kind != 1) || !(n.Num != 0))&&((!(n.Kind != 2)||n.Text==[])&&((!(n.Kind != 4) || !(!(n.Names.length==0)))&&((!(decide (n.Kind<3)) || !(!(n.Kids.length==0)))&&Nv d n))))=Shape (d+1) n:=by
 have e6:decide (n.Kids.length<=6)=true:=by simp; omega
 have hall:n.Kids.length=0->n.Kids.all (Shape d)=true:=fun e=>by rw [List.eq_nil_of_length_eq_zero e]; rfl
 have hb:∀ x y:Int,(!(x != y))=(x==y):=fun x y=>by simp [bne]
 rw [hb,hb,hb,hb]
 unfold Shape Parts Nv
 simp only [Bool.not_not,Bool.and_assoc]
 congr 1
 congr 1
 congr 1
 rw [e6]
 by_cases k0:n.Kind=0
 ·simp only [k0]; cases hz:(n.Kids.length==0)<;>simp_all
 by_cases k1:n.Kind=1
 ·simp only [k1]; cases hz:(n.Kids.length==0)<;>simp_all
 by_cases k2:n.Kind=2
 ·simp only [k2]; cases hz:(n.Kids.length==0)<;>simp_all
 by_cases k3:n.Kind=3
 ·simp [k3]
 by_cases k4:n.Kind=4
 ·simp only [k4]
  have hc:(n.Kids.length==n.Names.length)=(n.Names.length==n.Kids.length):=by rw [Bool.eq_iff_iff]; simp; omega
  rw [hc]
  cases hz:(n.Names.length==n.Kids.length)
  ·simp
  ·have:decide (n.Names.length<=6)=true:=by simp at hz; simp; omega
   simp [this]
 ·simp [k0,k1,k2,k3,k4]
def Cnt:Nat->af->Nat
 | 0,_=>0
 | d+1,n=>1+(n.Kids.map (Cnt d)).sum
theorem iq {d:Nat} {n:af} (h:Shape (d+1) n=true):Parts n=true:=by
 unfold Shape at h; simp only [Bool.and_eq_true] at h; exact h.1
theorem kN {d:Nat} {n:af} (h:Shape (d+1) n=true):∀ k,k∈n.Kids->Shape d k=true:=by
 unfold Shape at h; simp only [Bool.and_eq_true] at h; exact List.all_eq_true.1 h.2
theorem nK {d:Nat} {n:af} (h:Shape d n=true):n.Kids.length<=6:=by
  cases d with
  | zero=>cases h
  | succ d =>
    by_cases k:n.Kids.length<=6
    · exact k
    · have:=qi (n:=n) (by omega); rw [iq h] at this; cases this
theorem Jv {α:Type} (f:α->Nat) (m:Nat):∀ l:List α,(∀ x,x∈l->f x<=m)->(l.map f).sum<=l.length*m
  | [],_=>by simp
  | x::l,h=>by
    have h1:=Jv f m l (fun y hy=>h y (by simp [hy]))
    have h2:=h x (by simp)
    simp only [List.map_cons,List.sum_cons,List.length_cons,Nat.add_mul]
    omega
theorem cnt_le:∀ {d:Nat} {n:af},Shape d n=true->Cnt d n<=7^d
  | 0,_,h=>by cases h
  | d+1,n,h=>by
    have hk:=kN h
    have:=Jv (Cnt d) (7^d) n.Kids (fun k hk'=>cnt_le (hk k hk'))
    have h6:=nK h
    have hm:n.Kids.length*7^d<=6*7^d:=Nat.mul_le_mul_right _ h6
    have hp:1<=7^d:=Nat.one_le_pow _ _ (by omega)
    unfold Cnt
    rw [Nat.pow_succ]
    omega
theorem rE {d:Nat} (h:d<=5):7^d<=16807:=Nat.le_trans (Nat.pow_le_pow_right (by omega) h) (by decide)
theorem T.bW {B:Nat} (hB:B<=lim):∀ (d D:Nat) (n:af),d<1000->Fine B D n->Ev (fun f=>G.bW f n (d:Int)) (Shape d n):=by
  intro d
  induction d with
  | zero =>
    intro D n _ h
    refine Ev.up ?_
    simp only [G.bW]
    exact Ev.ct (by simp) (Ev.ret _)
  | succ d ih =>
    intro D n hd h
    cases D with
    | zero=>exact h.elim
    | succ D =>
    have hK:=T.bW.K1 (d:=d) hB h (by omega) (fun k hk=>ih D k (by omega) (h.2.2.2.2.2 k hk))
    refine Ev.up ?_
    simp only [G.bW]
    rw [KO,KO]
    have t1:=vS (c:=decide (n.Kind<3)) (a := !(n.Kids.length==0)) hK
    have t2:=vS (c:=n.Kind != 4) (a := !(n.Names.length==0)) t1
    have t3:=EK (c:=n.Kind != 2) (a:=n.Text==[]) t2
    have t4:=vS (c:=n.Kind != 1) (a:=n.Num != 0) t3
    refine Ev.cf (by simp; omega) ?_
    refine Ev.ite (fun e=>Ev.ret' ?_) (fun e=>t4.eq ?_)
    · simp only [decide_eq_true_eq] at e
      rw [Shape,qi (by omega)]; rfl
    · simp only [decide_eq_false_iff_not] at e
      exact Dh (by omega)
theorem T.eG.L1 {B D d:Nat} {n:af} (hB:B<=lim) (h:Fine B (D+1) n) (hs:∀ k,k∈n.Kids->Ev (fun f=>G.eG f k) ((Cnt d k:Nat):Int)) :
    ∀ (k i c:Nat),i+k=n.Kids.length->c+((n.Kids.drop i).map (Cnt d)).sum<big->Ev (fun f=>G.eG.L1 f n (c:Int) i) ((c+((n.Kids.drop i).map (Cnt d)).sum:Nat):Int):=by
  have hl:=h.kids
  unfold lim at hB
  unfold big
  intro k
  induction k with
  | zero =>
    intro i c hi hc
    refine Ev.up ?_
    simp only [G.eG.L1]
    refine Ev.cf (by simp; omega) (Ev.ret' ?_)
    rw [List.drop_of_length_le (by omega)]
    rfl
  | succ k ih =>
    intro i c hi
    rw [aY (default:af) (by omega:i<n.Kids.length),List.map_cons,List.sum_cons]
    intro hc
    refine Ev.up ?_
    simp only [G.eG.L1]
    refine Ev.ct (by simp; omega) (Ev.chk (by omega) ?_)
    rw [Int.toNat_natCast]
    refine Ev.bind (hs _ (by rw [dI _ (by omega:i<n.Kids.length)]; exact List.getElem_mem _)) ?_
    rw [bu (by omega),wrapN (m:=c+Cnt d (n.Kids.getD i default)) (by omega) (by omega)]
    exact (ih (i+1) (c+Cnt d (n.Kids.getD i default)) (by omega) (by omega)).eq (by congr 1; omega)
theorem T.eG {B:Nat} (hB:B<=lim):∀ (d D:Nat) (n:af),d<=5->Fine B D n->Shape d n=true->Ev (fun f=>G.eG f n) ((Cnt d n:Nat):Int):=by
  intro d
  induction d with
  | zero=>intro D n _ _ h; cases h
  | succ d ih =>
    intro D n hd h hS
    cases D with
    | zero=>exact h.elim
    | succ D =>
    have hS':=kN hS
    refine Ev.up ?_
    simp only [G.eG]
    have:=cnt_le (d:=d+1) (n:=n) hS
    have hp:=rE hd
    refine (T.eG.L1 hB h (fun k hk=>ih D k (by omega) (h.2.2.2.2.2 k hk) (hS' k hk)) n.Kids.length 0 1 (by omega) ?_).eq rfl
    rw [List.drop_zero]
    show Cnt (d+1) n<big
    unfold big
    omega
def Val (n:af):Bool:=Shape 5 n&&decide (Cnt 5 n<=40)
theorem T.aT {B D:Nat} {n:af} (hB:B<=lim) (h:Fine B D n):Ev (fun f=>G.aT f n) (Val n):=by
 refine Ev.up ?_
 simp only [G.aT]
 refine Ev.bind (T.bW hB 5 D n (by omega) h) (Ev.ite (fun e => ?_) (fun e=>Ev.ret' (by rw [Val,e]; rfl)))
 refine Ev.bind (T.eG hB 5 D n (by omega) h e) (Ev.ret' ?_)
 rw [Val,e,Bool.true_and]
 apply decide_eq_decide.2
 omega
theorem T.aJ.L1 {B D d l:Nat} {n:af} (hB:B<=lim) (h:Fine B (D+1) n) (hl:l<1000)
    (hs:∀ k,k∈n.Kids->∃ c dp,Ev (fun f=>G.aJ f k ((l+1:Nat):Int)) (c,dp,Shape d k)/\(Shape d k=true->c=((Cnt d k:Nat):Int))) :
    ∀ (k i c:Nat) (dp:Int),i+k=n.Kids.length->(n.Kids.drop i).all (Shape d)=true->c+((n.Kids.drop i).map (Cnt d)).sum<big ->
      ∃ Il,Ev (fun f=>G.aJ.L1 f n (l:Int) (c:Int) dp i) (((c+((n.Kids.drop i).map (Cnt d)).sum:Nat):Int),Il,true):=by
  have hk:=h.kids
  unfold lim at hB
  unfold big
  intro k
  induction k with
  | zero =>
    intro i c dp hi _ hc
    refine ⟨dp,Ev.up ?_⟩
    simp only [G.aJ.L1]
    refine Ev.cf (by simp; omega) (Ev.ret' ?_)
    rw [List.drop_of_length_le (by omega)]
    rfl
  | succ k ih =>
    intro i c dp hi
    rw [aY (default:af) (by omega:i<n.Kids.length),List.map_cons,List.sum_cons,List.all_cons,Bool.and_eq_true]
    intro ⟨hS,hA⟩ hc
    obtain ⟨c1,d1,h1,h2⟩:=hs (n.Kids.getD i default) (by rw [dI _ (by omega:i<n.Kids.length)]; exact List.getElem_mem _)
    have e:=h2 hS
    subst e
    obtain ⟨Il,g1⟩:=ih (i+1) (c+Cnt d (n.Kids.getD i default)) (if IntKind.wrap .i64 (d1+1)>dp then IntKind.wrap .i64 (d1+1) else dp) (by omega) hA (by omega)
    refine ⟨Il,Ev.up ?_⟩
    simp only [G.aJ.L1]
    refine Ev.ct (by simp; omega) (Ev.chk (by omega) ?_)
    rw [Int.toNat_natCast,bu (by omega)]
    refine Ev.bind h1 ?_
    refine Ev.ct hS ?_
    rw [bu (by omega),wrapN (m:=c+Cnt d (n.Kids.getD i default)) (by omega) (by omega)]
    exact g1.eq (by rw [Nat.add_assoc])
theorem T.aJ.OC {B D d l:Nat} {n:af} (hB:B<=lim) (h:Fine B (D+1) n) (hl:l<1000)
    (hs:∀ k,k∈n.Kids->∃ c dp,Ev (fun f=>G.aJ f k ((l+1:Nat):Int)) (c,dp,Shape d k)) :
    ∀ (k i:Nat) (c dp:Int),i+k=n.Kids.length->(n.Kids.drop i).all (Shape d)=false->Ev (fun f=>G.aJ.L1 f n (l:Int) c dp i) (0,0,false):=by
  have hk:=h.kids
  unfold lim at hB
  intro k
  induction k with
  | zero =>
    intro i c dp hi hA
    rw [List.drop_of_length_le (by omega)] at hA
    cases hA
  | succ k ih =>
    intro i c dp hi
    rw [aY (default:af) (by omega:i<n.Kids.length),List.all_cons]
    intro hA
    obtain ⟨c1,d1,h1⟩:=hs (n.Kids.getD i default) (by rw [dI _ (by omega:i<n.Kids.length)]; exact List.getElem_mem _)
    refine Ev.up ?_
    simp only [G.aJ.L1]
    refine Ev.ct (by simp; omega) (Ev.chk (by omega) ?_)
    rw [Int.toNat_natCast,bu (by omega)]
    refine Ev.bind h1 ?_
    refine Ev.ite (fun hS => ?_) (fun hS=>Ev.ret _)
    have hS:Shape d (n.Kids.getD i default)=true:=hS
    rw [hS,Bool.true_and] at hA
    rw [bu (by omega)]
    exact ih (i+1) _ _ (by omega) hA
theorem T.aJ {B:Nat} (hB:B<=lim):∀ (d l D:Nat) (n:af),d+l=6->1<=l->Fine B D n ->
    ∃ c dp,Ev (fun f=>G.aJ f n (l:Int)) (c,dp,Shape d n)/\(Shape d n=true->c=((Cnt d n:Nat):Int)):=by
  intro d
  induction d with
  | zero =>
    intro l D n hl h1 h
    refine ⟨0,0,Ev.up ?_,fun e=>by cases e⟩
    simp only [G.aJ]
    exact Ev.ct (by simp; omega) (Ev.ret _)
  | succ d ih =>
    intro l D n hl h1 h
    cases D with
    | zero=>exact h.elim
    | succ D =>
    have hs:=fun k (hk:k∈n.Kids)=>ih (l+1) D k (by omega) (by omega) (h.2.2.2.2.2 k hk)
    have hp:=T.aS hB h
    cases hS:Shape (d+1) n with
    | true =>
      have hk:=kN hS
      have hc:=cnt_le hS
      have hpw:=rE (d:=d+1) (by omega)
      obtain ⟨Il,g⟩:=T.aJ.L1 hB h (by omega) hs n.Kids.length 0 1 1 (by omega) (by rw [List.drop_zero]; exact List.all_eq_true.2 hk) (by rw [List.drop_zero]; unfold big; show Cnt (d+1) n<_; omega)
      rw [List.drop_zero] at g
      refine ⟨((Cnt (d+1) n:Nat):Int),Il,Ev.up ?_,fun _=>rfl⟩
      simp only [G.aJ]
      exact Ev.cf (by simp; omega) (Ev.bind hp (Ev.ct (iq hS) g))
    | false =>
      refine ⟨0,0,Ev.up ?_,fun e=>by cases e⟩
      simp only [G.aJ]
      refine Ev.cf (by simp; omega) (Ev.bind hp (Ev.ite (fun e => ?_) (fun e=>Ev.ret _)))
      refine T.aJ.OC (d:=d) hB h (by omega) (fun k hk => ?_) n.Kids.length 0 1 1 (by omega) ?_
      · obtain ⟨c,dp,g,_⟩:=hs k hk; exact ⟨c,dp,g⟩
      · rw [List.drop_zero]; unfold Shape at hS; rw [e,Bool.true_and] at hS; exact hS
theorem T.cZ {B D:Nat} {n:af} (hB:B<=lim) (h:Fine B D n):Ev (fun f=>G.cZ f n) (Val n):=by
 obtain ⟨c,dp,g,hc⟩:=T.aJ hB 5 1 D n rfl (by omega) h
 refine Ev.up ?_
 simp only [G.cZ]
 refine Ev.bind g (Ev.ite (fun e=>Ev.ret' ?_) (fun e=>Ev.ret' ?_))
 ·have e:Shape 5 n=true:=e
  show decide (c<=40)=_
  rw [hc e,Val,e,Bool.true_and]
  apply decide_eq_decide.2
  omega
 ·have e:Shape 5 n=false:=e
  rw [Val,e]; rfl
theorem T.ay.L1 {B D:Nat} {n:af} (hB:B<=lim) (h:Fine B (D+1) n) (hs:∀ k,k∈n.Kids->Ev (fun f=>G.ay f k) k) :
    ∀ (k i:Nat),i+k=n.Kids.length->Ev (fun f=>G.ay.L1 f n i (n.Kids.take i)) n:=by
  have hl:=h.kids
  have hn:=h.names
  unfold lim at hB
  intro k
  induction k with
  | zero =>
    intro i hi
    refine Ev.up ?_
    simp only [G.ay.L1]
    refine Ev.cf (by simp; omega) (Ev.chk (by omega) (Ev.ret' ?_))
    rw [List.take_of_length_le (by omega)]
    cases n; rfl
  | succ k ih =>
    intro i hi
    refine Ev.up ?_
    simp only [G.ay.L1]
    refine Ev.ct (by simp; omega) (Ev.chk (by omega) ?_)
    rw [Int.toNat_natCast]
    refine Ev.bind (hs _ (by rw [dI _ (by omega:i<n.Kids.length)]; exact List.getElem_mem _)) ?_
    refine Ev.chk (by rw [List.length_take]; omega) ?_
    have e:n.Kids.take i++[n.Kids.getD i default]=n.Kids.take (i+1):=by rw [dI _ (by omega:i<n.Kids.length),List.take_succ_eq_append_getElem (by omega)]
    rw [bu (by omega),e]
    exact ih (i+1) (by omega)
theorem T.ay {B:Nat} (hB:B<=lim):∀ {D:Nat} {n:af},Fine B D n->Ev (fun f=>G.ay f n) n:=by
  intro D
  induction D with
  | zero=>intro n h; exact h.elim
  | succ D ih =>
    intro n h
    refine Ev.up ?_
    simp only [G.ay]
    exact T.ay.L1 hB h (fun k hk=>ih (h.2.2.2.2.2 k hk)) n.Kids.length 0 (by omega)
theorem T.aX.L2 {B D:Nat} {n:af} (zs:List aA) (hB:B<=lim) (h:Fine B (D+1) n) (hs:∀ k,k∈n.Kids->Ev (fun f=>G.aX f k) k) :
    ∀ (k i:Nat) (z:List af),i+k=n.Kids.length->z.length=n.Kids.length->z.take i=n.Kids.take i->Ev (fun f=>G.aX.L2 f n zs i z) (af.mk n.Kind n.Num n.Text zs n.Kids):=by
  have hl:=h.kids
  unfold lim at hB
  intro k
  induction k with
  | zero =>
    intro i z hi hz ht
    refine Ev.up ?_
    simp only [G.aX.L2]
    refine Ev.cf (by simp; omega) (Ev.ret' ?_)
    rw [List.take_of_length_le (by omega),List.take_of_length_le (by omega)] at ht
    rw [ht]
  | succ k ih =>
    intro i z hi hz ht
    refine Ev.up ?_
    simp only [G.aX.L2]
    refine Ev.ct (by simp; omega) (Ev.chk (by omega) ?_)
    rw [Int.toNat_natCast]
    refine Ev.bind (hs _ (by rw [dI _ (by omega:i<n.Kids.length)]; exact List.getElem_mem _)) ?_
    refine Ev.chk (by omega) ?_
    rw [bu (by omega)]
    refine ih (i+1) _ (by omega) (by rw [List.length_set]; exact hz) ?_
    rw [dI _ (by omega:i<n.Kids.length),List.take_succ_eq_append_getElem (by rw [List.length_set]; omega),List.take_succ_eq_append_getElem (by omega:i<n.Kids.length),List.getElem_set_self,List.take_set_of_le (Nat.le_refl i),ht]
theorem T.aX {B:Nat} (hB:B<=lim):∀ {D:Nat} {n:af},Fine B D n->Ev (fun f=>G.aX f n) n:=by
  intro D
  induction D with
  | zero=>intro n h; exact h.elim
  | succ D ih =>
    intro n h
    have hl:=h.kids
    have hn:=h.names
    have hB':=hB
    unfold lim at hB'
    have hK:Ev (fun f=>G.aX.K1 f n n.Names) n:=by
      refine Ev.up ?_
      simp only [G.aX.K1]
      refine Ev.ite (fun e => ?_) (fun e=>Ev.ret' ?_)
      · refine Ev.chk (by omega) ?_
        refine (T.aX.L2 n.Names hB h (fun k hk=>ih (h.2.2.2.2.2 k hk)) n.Kids.length 0 (List.replicate n.Kids.length (af.mk 0 0 [] [] [])) (by omega) (by simp) rfl).eq ?_
        cases n; rfl
      · have:n.Kids=[]:=by
          apply List.eq_nil_of_length_eq_zero
          simp only [decide_eq_false_iff_not] at e; omega
        cases n; simp only at this; subst this; rfl
    refine Ev.up ?_
    simp only [G.aX]
    refine Ev.ite (fun e => ?_) (fun e => ?_)
    · exact Ev.chk (by omega) hK
    · have:n.Names=[]:=by
        apply List.eq_nil_of_length_eq_zero
        simp only [decide_eq_false_iff_not] at e; omega
      rw [this] at hK
      exact hK
end Go.Ab
end
section
namespace Go.Ab
open Go
def kT (i:Nat):aA:=if i<10 then [UInt8.ofNat (48+i)] else kT (i/10)++[UInt8.ofNat (48+i%10)]
 termination_by i
theorem kV {i:Nat} (h:i<10):kT i=[UInt8.ofNat (48+i)]:=by rw [kT,if_pos h]
theorem mZ {i:Nat} (h:¬ i<10):kT i=kT (i/10)++[UInt8.ofNat (48+i%10)]:=by rw [kT,if_neg h]
theorem Ih:∀ (k i:Nat),i<k->(kT i).length<=i+1:=by
  intro k
  induction k with
  | zero=>intro i h; omega
  | succ k ih =>
    intro i h
    by_cases hi:i<10
    · rw [kV hi]; simp
    · rw [mZ hi,List.length_append]
      have:=ih (i/10) (by omega)
      simp only [List.length_singleton]
      omega
theorem wrap_u8 {m:Nat} (h:m<256):IntKind.wrap .u8 (m:Int)=m:=by
 simp only [IntKind.wrap,IntKind.bits,IntKind.signed]
 simp
 omega
theorem T.fC:∀ (k i:Nat),i<k->i<lim->Ev (fun f=>G.fC f (i:Int)) (kT i):=by
  intro k
  induction k with
  | zero=>intro i h; omega
  | succ k ih =>
    intro i h hl
    unfold lim at hl
    have hm:4294967296<maxLen:=by decide
    refine Ev.up ?_
    simp only [G.fC]
    refine Ev.cf (by simp) ?_
    refine Ev.ite (fun e => ?_) (fun e => ?_)
    · simp only [decide_eq_true_eq] at e
      refine Ev.chk (by omega) (Ev.ret' ?_)
      rw [kV (by omega),wrapN (m:=48+i) (by omega) (by omega),wrap_u8 (by omega),Int.toNat_natCast]
    · simp only [decide_eq_false_iff_not] at e
      have e1:Int.tdiv (i:Int) 10=((i/10:Nat):Int):=by rw [Int.tdiv_eq_ediv_of_nonneg (by omega)]; omega
      have e2:Int.tmod (i:Int) 10=((i%10:Nat):Int):=by rw [Int.tmod_eq_emod_of_nonneg (by omega)]; omega
      rw [e1,e2,wrapN (m:=i/10) rfl (by omega),wrapN (m:=48+i%10) (by omega) (by omega),wrap_u8 (by omega),Int.toNat_natCast]
      refine Ev.bind (ih (i/10) (by omega) (by unfold lim; omega)) ?_
      have:=Ih (i/10+1) (i/10) (by omega)
      refine Ev.chk (by omega) (Ev.chk (by omega) (Ev.ret' ?_))
      exact (mZ (by omega)).symm
theorem T.decimal {i:Nat} (h:i<lim):Ev (fun f=>G.fC f (i:Int)) (kT i):=T.fC (i+1) i (by omega) h
theorem Ij:∀ (k i:Nat),i<k->Lib.decDigits i=kT i:=by
  intro k
  induction k with
  | zero=>intro i h; omega
  | succ k ih =>
    intro i h
    by_cases h10:i<10
    · rw [Lib.decDigits_one h10,kV h10]
    · rw [mZ h10,Lib.decDigits,dif_neg h10,ih (i/10) (by omega)]
theorem T.Itoa {n:Int} (h : -900000000000000<=n/\n<=900000000000000):Ev (fun f=>G.strconv_Itoa f n) (Lib.itoa n):=by
 refine Ev.up ?_
 simp only [G.strconv_Itoa]
 exact Ev.chk ⟨by omega,Nat.le_trans (Lib.itoa_length_le n (by omega) (by omega)) (by decide)⟩ (Ev.ret _)
def hit (n:af) (s:aA) (j:Nat):Bool:=(n.Kind==4&&n.Names.getD j default==s)||(n.Kind==3&&kT j==s)
def Gx (n:af) (s:aA):Option Nat:=(List.range' 0 n.Kids.length).find? (hit n s)
def uU:Option Nat->Int
 | some j=>j
 | none => -1
theorem Ej {n:af} {s:aA} {j:Nat} (h:Gx n s=some j):j<n.Kids.length:=by
 have:=List.mem_of_find?_eq_some h
 simp at this
 exact this
theorem Fe {n:af} {s:aA} {j:Nat} (h:Gx n s=some j):hit n s j=true:=List.find?_some h
theorem T.dU.L1 {B D:Nat} {n:af} (s:aA) (hB:B<=lim) (h:Fine B D n) :
    ∀ (k i:Nat),i+k=n.Kids.length->Ev (fun f=>G.dU.L1 f n s i) (uU ((List.range' i k).find? (hit n s))):=by
  have hl:=h.kids
  have hm:=h.map
  intro k
  induction k with
  | zero =>
    intro i hi
    refine Ev.up ?_
    simp only [G.dU.L1]
    exact Ev.cf (by simp; omega) (Ev.ret _)
  | succ k ih =>
    intro i hi
    have hih:=ih (i+1) (by omega)
    have hd:=T.decimal (i:=i) (by omega)
    unfold lim at hB
    rw [List.range'_succ,List.find?_cons]
    have OT:n.Kind ≠ 4->Ev (fun f=>cond (n.Kind==3) (Option.bind (G.fC f (i:Int)) fun v5=>cond (v5==s) (some (i:Int)) (G.dU.L1 f n s (IntKind.wrap .i64 ((i:Int)+1)))) (G.dU.L1 f n s (IntKind.wrap .i64 ((i:Int)+1))))
        (uU (match hit n s i with | true=>some i | false=>(List.range' (i+1) k).find? (hit n s))):=by
      intro h4
      have e4:(n.Kind==4)=false:=by simpa using h4
      rw [bu (by omega)]
      refine Ev.ite (fun e => ?_) (fun e => ?_)
      · refine Ev.bind hd (Ev.ite (fun e2=>Ev.ret' ?_) (fun e2 => ?_))
        · rw [show hit n s i=true by unfold hit; rw [e,e2,e4]; rfl]; rfl
        · exact hih.eq (by rw [show hit n s i=false by unfold hit; rw [e,e2,e4]; rfl])
      · exact hih.eq (by rw [show hit n s i=false by unfold hit; rw [e,e4]; rfl])
    refine Ev.up ?_
    simp only [G.dU.L1]
    refine Ev.ct (by simp; omega) ?_
    refine Ev.ite (fun e => ?_) (fun e=>OT (by simpa using e))
    have h4:n.Kind=4:=by simpa using e
    have:=hm h4
    refine Ev.chk (by omega) ?_
    rw [Int.toNat_natCast]
    refine Ev.ite (fun e2=>Ev.ret' ?_) (fun e2 => ?_)
    · rw [show hit n s i=true by unfold hit; rw [e,e2]; rfl]; rfl
    · refine Ev.cf (by rw [h4]; rfl) ?_
      rw [bu (by omega)]
      exact hih.eq (by rw [show hit n s i=false by unfold hit; rw [e2,h4]; rfl])
theorem T.dU {B D:Nat} {n:af} (s:aA) (hB:B<=lim) (h:Fine B D n):Ev (fun f=>G.dU f n s) (uU (Gx n s)):=by
 refine Ev.up ?_
 simp only [G.dU]
 exact T.dU.L1 s hB h n.Kids.length 0 (by omega)
theorem uo {x:aA} {l:List aA} (h:Asc (x::l)=true):Asc l=true:=by
 cases l with
 | nil=>rfl
 | cons y r=>rw [Asc,Bool.and_eq_true] at h; exact h.2
theorem um:∀ {l:List aA} {x:aA},Asc (x::l)=true->∀ y,y∈l->bl x y=true
  | [],_,_,y,hy=>by cases hy
  | z::r,x,h,y,hy=>by
    have h1:bl x z=true:=by rw [Asc,Bool.and_eq_true] at h; exact h.1
    rcases List.mem_cons.1 hy with rfl | hy
    · exact h1
    · exact qM h1 (um (uo h) y hy)
theorem Hr:∀ {l:List aA},Asc l=true->∀ i j,i<j->j<l.length->bl (l.getD i default) (l.getD j default)=true
  | [],_,i,j,_,hj=>by simp at hj
  | x::l,h,i,j,hij,hj=>by
    cases j with
    | zero=>omega
    | succ j =>
      rw [List.getD_cons_succ]
      have hj':j<l.length:=by simpa using hj
      cases i with
      | zero=>rw [List.getD_cons_zero,dI _ hj']; exact um h _ (List.getElem_mem _)
      | succ i=>rw [List.getD_cons_succ]; exact Hr (uo h) i j (by omega) hj'
end Go.Ab
end
section
namespace Go.Ab
open Go
theorem af.eta (n:af):af.mk n.Kind n.Num n.Text n.Names n.Kids=n:=by cases n; rfl
theorem zJ {p:Nat->Bool} : ∀ {k i j:Nat},(List.range' i k).find? p=some j<->(i<=j/\j<i+k/\p j=true/\∀ q,i<=q->q<j->p q=false):=by
  intro k
  induction k with
  | zero=>intro i j; simp; omega
  | succ k ih =>
    intro i j
    rw [List.range'_succ,List.find?_cons]
    cases h:p i with
    | true =>
      simp only [Option.some.injEq]
      constructor
      · rintro rfl
        exact ⟨by omega,by omega,h,fun q h1 h2=>by omega⟩
      · rintro ⟨h1,h2,h3,h4⟩
        by_cases e:i=j
        · exact e
        · have:=h4 i (by omega) (by omega); rw [h] at this; cases this
    | false =>
      simp only
      rw [ih]
      constructor
      · rintro ⟨h1,h2,h3,h4⟩
        refine ⟨by omega,by omega,h3,fun q g1 g2 => ?_⟩
        by_cases e:q=i
        · rw [e]; exact h
        · exact h4 q (by omega) g2
      · rintro ⟨h1,h2,h3,h4⟩
        have:j ≠ i:=fun e=>by rw [e,h] at h3; cases h3
        exact ⟨by omega,by omega,h3,fun q g1 g2=>h4 q (by omega) g2⟩
theorem nJ {n:af} (h:Parts n=true) (hk:n.Kind=4):n.Num=0/\n.Text=[]/\NM n.Names=true/\n.Names.length<=6/\n.Kids.length=n.Names.length:=by
 unfold Parts at h
 simp [hk] at h
 obtain ⟨⟨h1,h2⟩,⟨h3,h4⟩,h5⟩:=h
 exact ⟨h1,h2,h3,h4,h5⟩
theorem qg {n:af} (h:Parts n=true) (hk:n.Kind=3):n.Num=0/\n.Text=[]/\n.Names=[]/\n.Kids.length<=6:=by
 unfold Parts at h
 simp [hk] at h
 obtain ⟨⟨⟨h1,h2⟩,h3⟩,h4⟩:=h
 exact ⟨h1,h2,h3,h4⟩
theorem kW {n:af} (h:Parts n=true) (h4:n.Kind ≠ 4) (h3:n.Kind ≠ 3):n.Names=[]/\n.Kids=[]:=by
 unfold Parts at h
 have e4:(n.Kind==4)=false:=by simpa using h4
 simp only [Bool.and_eq_true,e4,Bool.false_or] at h
 obtain ⟨⟨_,h1⟩,h2⟩:=h
 refine ⟨List.eq_nil_of_length_eq_zero (by simpa using h1),List.eq_nil_of_length_eq_zero ?_⟩
 by_cases k0:n.Kind=0
 ·rw [if_pos k0] at h2; simpa using h2
 rw [if_neg k0] at h2
 by_cases k1:n.Kind=1
 ·rw [if_pos k1] at h2; simp at h2; rw [h2.2]; rfl
 rw [if_neg k1] at h2
 by_cases k2:n.Kind=2
 ·rw [if_pos k2] at h2; simp at h2; rw [h2.2]; rfl
 rw [if_neg k2,if_neg h3,if_neg h4] at h2
 cases h2
theorem Rz {l:List aA} (h:NM l=true):Asc l=true:=by unfold NM at h; simp only [Bool.and_eq_true] at h; exact h.2
theorem I5 {l:List aA} (h:NM l=true):∀ s,s∈l->PT s=true:=by unfold NM at h; simp only [Bool.and_eq_true] at h; exact List.all_eq_true.1 h.1
theorem Gw {n:af} (h:Parts n=true):n.Kids.length<=6:=by
 by_cases k:n.Kids.length<=6
 ·exact k
 ·rw [qi (by omega)] at h; cases h
theorem CG {n:af} (h4:n.Kind ≠ 4) (h3:n.Kind ≠ 3) (s:aA) (j:Nat):hit n s j=false:=by
 unfold hit
 rw [show (n.Kind==4)=false by simpa using h4,show (n.Kind==3)=false by simpa using h3]; rfl
def Mc:af->List aA->Option af
  | n,[]=>some n
  | n,s::p=>match Gx n s with
    | some j=>Mc (n.Kids.getD j default) p
    | none=>none
def rD:af:=af.mk 0 0 [] [] []
def qx:Option af->af × Bool
 | some n=>(n,true)
 | none=>(rD,false)
theorem T.jD.L1 {B:Nat} (p:List aA) (hB:B<=lim) (hp:p.length<big) :
    ∀ (k i D:Nat) (n:af),i+k=p.length->Fine B D n->Ev (fun f=>G.jD.L1 f p i n.Kind n.Num n.Text n.Names n.Kids) (qx (Mc n (p.drop i))):=by
  unfold big at hp
  intro k
  induction k with
  | zero =>
    intro i D n hi h
    refine Ev.up ?_
    simp only [G.jD.L1,af.eta]
    refine Ev.cf (by simp; omega) ?_
    rw [List.drop_of_length_le (by omega)]
    have hc:=T.ay hB h
    exact Ev.bind hc (Ev.ret _)
  | succ k ih =>
    intro i D n hi h
    refine Ev.up ?_
    simp only [G.jD.L1,af.eta]
    refine Ev.ct (by simp; omega) (Ev.chk (by omega) ?_)
    rw [aY (default:aA) (by omega:i<p.length),Int.toNat_natCast]
    have hP:=T.dU (p.getD i default) hB h
    refine Ev.bind hP ?_
    rw [Mc]
    cases hj:Gx n (p.getD i default) with
    | none=>exact Ev.ct rfl (Ev.ret _)
    | some j =>
      have hjl:=Ej hj
      cases D with
      | zero=>exact h.elim
      | succ D =>
      refine Ev.cf (decide_eq_false (by simp only [uU]; omega)) (Ev.chk (by simp only [uU]; omega) ?_)
      rw [bu (by omega)]
      exact ih (i+1) D _ (by omega) (h.kid hjl)
theorem T.jD {B D:Nat} {n:af} (p:List aA) (hB:B<=lim) (hp:p.length<big) (h:Fine B D n):Ev (fun f=>G.jD f n p) (qx (Mc n p)):=by
 refine Ev.up ?_
 simp only [G.jD]
 exact T.jD.L1 p hB hp p.length 0 D n (by omega) h
end Go.Ab
end
section
namespace Go.Ab
open Go
def GG (n:af) (j:Nat) (c:af):af:=af.mk n.Kind n.Num n.Text n.Names (n.Kids.set j c)
def Q7 (f:af->Option af):af->List aA->Option af
  | n,[]=>f n
  | n,s::p=>match Gx n s with
    | some j=>(Q7 f (n.Kids.getD j default) p).map (GG n j)
    | none=>none
def Rq (n:af) (p:List aA) (v:af):Option af:=Q7 (fun _=>some v) n p
theorem Rl (f:af->Option af):∀ (p:List aA) (n:af),Q7 f n p=(Mc n p).bind fun m=>(f m).bind fun m'=>Rq n p m'
  | [],n=>by
    show f n=(f n).bind fun m'=>some m'
    cases f n<;>rfl
  | s::p,n=>by
    rw [Q7,Mc]
    cases hj:Gx n s with
    | none=>rfl
    | some j =>
      simp only
      rw [Rl f p]
      cases ha:Mc (n.Kids.getD j default) p with
      | none=>rfl
      | some m =>
        simp only [Option.bind_some]
        cases hf:f m with
        | none=>rfl
        | some m' =>
          simp only [Option.bind_some]
          unfold Rq
          rw [Q7,hj]
theorem Ir {B D E:Nat} {n v:af} {j:Nat} (h:Fine B (D+1) n) (hv:Fine B E v):Fine B (max D E+1) (GG n j v):=by
 obtain ⟨h1,h2,h3,h4,h5,h6⟩:=h
 refine ⟨h1,h2,h3,by simpa [GG] using h4,by simpa [GG] using h5,fun k hk => ?_⟩
 rcases List.mem_or_eq_of_mem_set hk with hk | rfl
 ·exact (h6 k hk).mono (Nat.le_refl _) (Nat.le_max_left _ _)
 ·exact hv.mono (Nat.le_refl _) (Nat.le_max_right _ _)
theorem Q8 {B E:Nat} {f:af->Option af} : ∀ (p:List aA) {D:Nat} {n m:af},(∀ D' k k',Fine B D' k->f k=some k'->Fine B (D'+E) k')->Fine B D n->Q7 f n p=some m->Fine B (D+E) m
  | [],D,n,m,hf,h,hm=>hf D n m h hm
  | s::p,D,n,m,hf,h,hm=>by
    rw [Q7] at hm
    cases hj:Gx n s with
    | none=>rw [hj] at hm; cases hm
    | some j =>
      rw [hj] at hm
      simp only at hm
      cases D with
      | zero=>exact h.elim
      | succ D =>
      cases hc:Q7 f (n.Kids.getD j default) p with
      | none=>rw [hc] at hm; cases hm
      | some c =>
        rw [hc] at hm
        cases hm
        have:=Ir (j:=j) h (Q8 p hf (h.kid (Ej hj)) hc)
        exact this.mono (Nat.le_refl _) (by omega)
theorem Rj {B D E:Nat} {n v m:af} {p:List aA} (h:Fine B D n) (hv:Fine B E v) (hm:Rq n p v=some m):Fine B (D+E) m :=
 Q8 p (fun D' k k' _ e=>by cases e; exact hv.mono (Nat.le_refl _) (by omega)) h hm
theorem ES {B:Nat} : ∀ (p:List aA) {D:Nat} {n m:af},Fine B D n->Mc n p=some m->Fine B D m
  | [],_,_,_,h,e=>by cases e; exact h
  | s::p,D,n,m,h,e=>by
    rw [Mc] at e
    cases hj:Gx n s with
    | none=>rw [hj] at e; cases e
    | some j =>
      rw [hj] at e
      cases D with
      | zero=>exact h.elim
      | succ D=>exact (ES p (h.kid (Ej hj)) e).mono (Nat.le_refl _) (by omega)
theorem T.iC {B D E:Nat} {n v:af} {j:Nat} (hB:B<=lim) (h:Fine B D n) (hv:Fine B E v) (hj:j<n.Kids.length):Ev (fun f=>G.iC f n j v) (GG n j v):=by
 refine Ev.up ?_
 simp only [G.iC]
 refine Ev.bind (T.ay hB h) (Ev.bind (T.ay hB hv) (Ev.chk (by omega) (Ev.ret' ?_)))
 rw [Int.toNat_natCast]; rfl
theorem T.jM {B E:Nat} {v:af} (hB:B<=lim) (hv:Fine B E v):∀ (p:List aA) {D:Nat} {n:af},p.length<big->Fine B D n->Ev (fun f=>G.jM f n p v) (qx (Rq n p v))
  | [],D,n,_,h=>by
    refine Ev.up ?_
    simp only [G.jM]
    exact Ev.ct rfl (Ev.bind (T.ay hB hv) (Ev.ret _))
  | s::p,D,n,hp,h=>by
    simp only [List.length_cons] at hp
    have hp':=hp
    unfold big at hp'
    refine Ev.up ?_
    simp only [G.jM]
    refine Ev.cf (by simp; omega) (Ev.chk (by simp) ?_)
    rw [List.getD_cons_zero]
    refine Ev.bind (T.dU s hB h) ?_
    unfold Rq
    rw [Q7]
    cases hj:Gx n s with
    | none=>exact Ev.ct rfl (Ev.ret _)
    | some j =>
      have hjl:=Ej hj
      cases D with
      | zero=>exact h.elim
      | succ D =>
      refine Ev.cf (decide_eq_false (by simp only [uU]; omega)) (Ev.chk (by simp only [uU]; omega) (Ev.chk (by simp; omega) ?_))
      have hk:=h.kid hjl
      have ih:=T.jM hB hv p (by omega) hk
      refine Ev.bind (show Ev (fun f=>G.jM f (n.Kids.getD (uU (some j)).toNat default) ((s::p).drop 1) v) _ from ih) ?_
      show Ev _ (qx ((Rq (n.Kids.getD j default) p v).map (GG n j)))
      cases hc:Rq (n.Kids.getD j default) p v with
      | none=>exact Ev.cf rfl (Ev.ret _)
      | some c =>
        refine Ev.ct rfl ?_
        exact Ev.bind (T.iC hB h (Rj hk hv hc) hjl) (Ev.ret _)
theorem Be {s:aA} (h:PT s=true):s.length<=12:=by unfold PT at h; simp at h; exact h.2
theorem tZ:∀ {d:Nat} {n:af},Shape d n=true->Fine 12 d n
  | 0,_,h=>by cases h
  | d+1,n,h=>by
    have hp:=iq h
    have hk:=kN h
    have hl:=Gw hp
    refine ⟨?_,?_,?_,by omega,?_,fun k hk'=>tZ (hk k hk')⟩
    · by_cases h2:n.Kind=2
      · unfold Parts at hp; simp [h2] at hp; exact Be hp.2.1
      · have e2:(n.Kind==2)=false:=by simpa using h2
        unfold Parts at hp
        simp only [e2,Bool.false_or,Bool.and_eq_true] at hp
        have:=hp.1.1.2
        rw [beq_iff_eq] at this
        rw [this]; simp
    · by_cases h4:n.Kind=4
      · have:=(nJ hp h4).2.2.2.1; omega
      · by_cases h3:n.Kind=3
        · rw [(qg hp h3).2.2.1]; simp
        · rw [(kW hp h4 h3).1]; simp
    · intro s hs
      by_cases h4:n.Kind=4
      · exact Be (I5 (nJ hp h4).2.2.1 s hs)
      · by_cases h3:n.Kind=3
        · rw [(qg hp h3).2.2.1] at hs; cases hs
        · rw [(kW hp h4 h3).1] at hs; cases hs
    · intro h4; have:=(nJ hp h4).2.2.2.2; omega
theorem pz {d:Nat} {n:af} (h:Shape (d+1) n=true) {j:Nat} (hj:j<n.Kids.length):Shape d (n.Kids.getD j default)=true:=by
 rw [dI _ hj]; exact kN h _ (List.getElem_mem _)
theorem CV:12<=lim:=by decide
end Go.Ab
end
section
namespace Go.Ab
open Go
def insL {α:Type} (l:List α) (k:Nat) (v:α):List α:=(l.take k++[v])++l.drop k
def slt (n:af) (s:aA):Nat:=((List.range' 0 n.Kids.length).find? fun i=>bl s (n.Names.getD i default)).getD n.Kids.length
def addN (n:af) (s:aA) (v:af):Option af :=
  match Gx n s with
  | some k=>if n.Kind=4 then some (GG n k v) else some (af.mk n.Kind 0 [] [] (insL n.Kids k v))
  | none=>if n.Kind=3 then (if s=[45]\/s=kT n.Kids.length then some (af.mk n.Kind 0 [] [] (insL n.Kids n.Kids.length v)) else none)
    else if n.Kind=4 then some (af.mk n.Kind 0 [] (insL n.Names (slt n s) s) (insL n.Kids (slt n s) v)) else none
theorem Nc (n:af) (s:aA):slt n s<=n.Kids.length:=by
 unfold slt
 cases h:(List.range' 0 n.Kids.length).find? fun i=>bl s (n.Names.getD i default) with
 | none=>simp
 | some j=>have:=(zJ.1 h).2.1; simp only [Option.getD_some]; omega
def wH (n:af) (s:aA):Option (Nat × Bool) :=
  match Gx n s with
  | some k=>some (k,n.Kind==4)
  | none=>if n.Kind=3 then (if s=[45]\/s=kT n.Kids.length then some (n.Kids.length,false) else none)
    else if n.Kind=4 then some (slt n s,false) else none
def Jq:Option (Nat × Bool)->Int × Bool
 | some (k,b)=>((k:Int),b)
 | none=>(-1,false)
theorem T.fP.L1 {n:af} (s:aA) (hk:n.Kind ≠ 4):Ev (fun f=>G.fP.L1 f n s 0) (-1,false):=by
 refine Ev.up ?_
 simp only [G.fP.L1]
 exact Ev.cf (by simpa using hk) (Ev.ret _)
theorem T.fP.L2 {B D:Nat} {n:af} (s:aA) (hB:B<=lim) (h:Fine B D n) (hk:n.Kind=4) :
    ∀ (k i:Nat),i+k=n.Kids.length->Ev (fun f=>G.fP.L2 f n s i) (((((List.range' i k).find? fun i=>bl s (n.Names.getD i default)).getD n.Kids.length:Nat):Int),false):=by
  have hl:=h.kids
  have hm:=h.map hk
  unfold lim at hB
  intro k
  induction k with
  | zero =>
    intro i hi
    refine Ev.up ?_
    simp only [G.fP.L2]
    refine Ev.ct (by simpa using hk) (Ev.ct (by simp; omega) (Ev.ct (by simp; omega) (Ev.ret' ?_)))
    show ((i:Int),false)=(((n.Kids.length:Nat):Int),false)
    rw [show i=n.Kids.length by omega]
  | succ k ih =>
    intro i hi
    refine Ev.up ?_
    simp only [G.fP.L2]
    refine Ev.ct (by simpa using hk) (Ev.ct (by simp; omega) (Ev.cf (by simp; omega) (Ev.chk (by omega) ?_)))
    rw [List.range'_succ,List.find?_cons,Int.toNat_natCast]
    refine Ev.ite (fun e=>Ev.ret' ?_) (fun e => ?_)
    · rw [show bl s (n.Names.getD i default)=true from e]; rfl
    · rw [bu (by omega),show bl s (n.Names.getD i default)=false from e]
      exact ih (i+1) (by omega)
theorem T.fP {B D:Nat} {n:af} (s:aA) (hB:B<=lim) (h:Fine B D n) (hB':B<lim):Ev (fun f=>G.fP f n s) (Jq (wH n s)):=by
  have hl:=h.kids
  refine Ev.up ?_
  simp only [G.fP]
  refine Ev.bind (T.dU s hB h) ?_
  unfold wH
  cases hj:Gx n s with
  | some j=>exact Ev.ct (decide_eq_true (by simp only [uU]; omega)) (Ev.ret _)
  | none =>
    refine Ev.cf (by rfl) ?_
    simp only
    by_cases h3:n.Kind=3
    · rw [if_pos h3]
      refine Ev.ct (by simpa using h3) ?_
      refine Ev.ite (fun e=>Ev.ret' ?_) (fun e => ?_)
      · rw [if_pos (.inl (by simpa using e))]; rfl
      · refine Ev.bind (T.decimal (i:=n.Kids.length) (by omega)) (Ev.ite (fun e2=>Ev.ret' ?_) (fun e2 => ?_))
        · rw [if_pos (.inr (by simpa using e2))]; rfl
        · rw [if_neg (by simp at e e2; simp [e,e2])]
          exact T.fP.L1 s (by omega)
    · rw [if_neg h3]
      refine Ev.cf (by simpa using h3) ?_
      by_cases h4:n.Kind=4
      · rw [if_pos h4]
        exact T.fP.L2 s hB h h4 n.Kids.length 0 (by omega)
      · rw [if_neg h4]
        refine Ev.up ?_
        simp only [G.fP.L2]
        exact Ev.cf (by simpa using h4) (Ev.ret _)
theorem zy (n:af) (s:aA) (v:af):addN n s v=(wH n s).map fun q=>if q.2 then GG n q.1 v else if n.Kind=3 then af.mk n.Kind 0 [] [] (insL n.Kids q.1 v) else af.mk n.Kind 0 [] (insL n.Names q.1 s) (insL n.Kids q.1 v):=by
  unfold addN wH
  cases hj:Gx n s with
  | some j =>
    simp only [Option.map_some]
    by_cases h4:n.Kind=4
    · simp [h4]
    · have h3:n.Kind=3:=by
        by_cases h3:n.Kind=3
        · exact h3
        · have:=Fe hj; rw [CG h4 h3] at this; cases this
      simp [h3]
  | none =>
    simp only
    by_cases h3:n.Kind=3
    · simp only [h3,if_true]
      by_cases hs:s=[45]\/s=kT n.Kids.length
      · rw [if_pos hs,if_pos hs]; simp
      · rw [if_neg hs,if_neg hs]; rfl
    · rw [if_neg h3,if_neg h3]
      by_cases h4:n.Kind=4
      · rw [if_pos h4,if_pos h4]; simp [h3]
      · rw [if_neg h4,if_neg h4]; rfl
theorem Fh {n:af} {s:aA} {q:Nat × Bool} (h:wH n s=some q):q.1<=n.Kids.length/\(q.2=true->q.1<n.Kids.length)/\(n.Kind=3\/n.Kind=4):=by
  unfold wH at h
  cases hj:Gx n s with
  | some j =>
    rw [hj] at h
    cases h
    have:=Ej hj
    refine ⟨by omega,fun _=>this,?_⟩
    by_cases h4:n.Kind=4
    · exact .inr h4
    · by_cases h3:n.Kind=3
      · exact .inl h3
      · have:=Fe hj; rw [CG h4 h3] at this; cases this
  | none =>
    rw [hj] at h
    simp only at h
    by_cases h3:n.Kind=3
    · rw [if_pos h3] at h
      split at h
      · cases h; exact ⟨Nat.le_refl _,fun e=>(by cases e),.inl h3⟩
      · cases h
    · rw [if_neg h3] at h
      split at h
      · rename_i h4; cases h; exact ⟨Nc n s,fun e=>(by cases e),.inr h4⟩
      · cases h
theorem T.gY {B D E:Nat} {n v:af} (s:aA) (hB:B<lim) (h:Fine B D n) (hv:Fine B E v):Ev (fun f=>G.gY f n s v) (qx (addN n s v)):=by
  have hl:=h.kids
  have hn:=h.names
  have hB2:=hB
  unfold lim at hB2
  refine Ev.up ?_
  simp only [G.gY]
  refine Ev.bind (T.fP s (by omega) h hB) ?_
  rw [zy]
  cases hq:wH n s with
  | none=>exact Ev.ct rfl (Ev.ret _)
  | some q =>
    obtain ⟨q1,q2⟩:=q
    obtain ⟨hq1,hq2,hk⟩:=Fh hq
    simp only at hq1 hq2
    refine Ev.cf (decide_eq_false (by simp only [Jq]; omega)) ?_
    refine Ev.ite (fun e => ?_) (fun e => ?_)
    · have e:q2=true:=e
      subst e
      exact Ev.bind (T.iC (by omega) h hv (hq2 rfl)) (Ev.ret _)
    · have e:q2=false:=e
      subst e
      simp only [Jq,Int.toNat_natCast]
      have ht:(n.Kids.take q1).length=q1:=by rw [List.length_take]; omega
      have hd:(n.Kids.drop q1).length=n.Kids.length-q1:=List.length_drop
      refine Ev.bind (T.ay (by omega) h) (Ev.chk (by omega) (Ev.chk (by omega) (Ev.bind (T.ay (by omega) hv) (Ev.chk (by omega) (Ev.chk (by omega) (Ev.chk (by omega) ?_))))))
      refine Ev.ite (fun e3=>Ev.ret' ?_) (fun e3 => ?_)
      · have e3':n.Kind=3:=by simpa using e3
        simp only [Option.map_some,if_pos e3']
        rfl
      · have e3':¬ n.Kind=3:=by simpa using e3
        have h4:n.Kind=4:=by omega
        have hm:=h.map h4
        have ht2:(n.Names.take q1).length=q1:=by rw [List.length_take]; omega
        have hd2:(n.Names.drop q1).length=n.Names.length-q1:=List.length_drop
        refine Ev.chk (by omega) (Ev.chk (by omega) (Ev.chk (by omega) (Ev.chk (by omega) (Ev.chk (by omega) (Ev.ret' ?_)))))
        simp only [Option.map_some,if_neg e3']
        rfl
theorem Iq {B D E:Nat} {n v m:af} {s:aA} (h:Fine B D n) (hv:Fine B E v) (hs:s.length<=B) (hm:addN n s v=some m):Fine (B+1) (D+E) m:=by
  rw [zy] at hm
  cases hq:wH n s with
  | none=>rw [hq] at hm; cases hm
  | some q =>
    obtain ⟨q1,q2⟩:=q
    obtain ⟨hq1,hq2,hk⟩:=Fh hq
    simp only at hq1 hq2
    rw [hq] at hm
    cases D with
    | zero=>exact h.elim
    | succ D =>
    cases hm
    have NV:∀ k,k∈insL n.Kids q1 v->Fine (B+1) (D+E) k:=by
      intro k hk
      unfold insL at hk
      simp only [List.mem_append,List.mem_singleton] at hk
      rcases hk with (hk | rfl) | hk
      · exact (h.2.2.2.2.2 k (List.mem_of_mem_take hk)).mono (by omega) (by omega)
      · exact hv.mono (by omega) (by omega)
      · exact (h.2.2.2.2.2 k (List.mem_of_mem_drop hk)).mono (by omega) (by omega)
    have hlen:(insL n.Kids q1 v).length=n.Kids.length+1:=by unfold insL; simp; omega
    have hl:=h.kids
    have hn:=h.names
    have hb:1<=B+1:=by omega
    cases q2 with
    | true=>exact (Ir (j:=q1) h hv).mono (by omega) (by omega)
    | false =>
      simp only [Bool.false_eq_true,if_false]
      rw [show D+1+E=(D+E)+1 by omega]
      by_cases h3:n.Kind=3
      · rw [if_pos h3]
        exact ⟨by simp,by simp,by simp,by show (insL n.Kids q1 v).length<=_; omega,fun h4=>by simp only at h4; omega,NV⟩
      · rw [if_neg h3]
        have h4:n.Kind=4:=by omega
        have hm:=h.map h4
        have hlen2:(insL n.Names q1 s).length=n.Names.length+1:=by unfold insL; simp; omega
        refine ⟨by simp,by show (insL n.Names q1 s).length<=_; omega,fun x hx => ?_,by show (insL n.Kids q1 v).length<=_; omega,fun _=>by show (insL n.Kids q1 v).length<=(insL n.Names q1 s).length; omega,NV⟩
        have hx:x∈insL n.Names q1 s:=hx
        unfold insL at hx
        simp only [List.mem_append,List.mem_singleton] at hx
        rcases hx with (hx | rfl) | hx
        · have:=h.2.2.1 x (List.mem_of_mem_take hx); omega
        · omega
        · have:=h.2.2.1 x (List.mem_of_mem_drop hx); omega
end Go.Ab
end
section
namespace Go.Ab
open Go
theorem nV {d:Nat} {n:af} (h:Shape d n=true) (hk:n.Kind=4):n.Names.length=n.Kids.length:=by
 cases d with
 | zero=>cases h
 | succ d=>exact (nJ (iq h) hk).2.2.2.2.symm
end Go.Ab
end
section
namespace Go.Ab
open Go
theorem Rf:∀ {d e:Nat} {n:af},d<=e->Shape d n=true->Shape e n=true
  | 0,_,_,_,h=>by cases h
  | d+1,0,_,hd,_=>by omega
  | d+1,e+1,n,hd,h=>by
    unfold Shape
    rw [iq h,Bool.true_and,List.all_eq_true]
    exact fun k hk=>Rf (by omega) (kN h k hk)
theorem Q5 {α:Type} {f g:α->Nat} : ∀ {l:List α},(∀ x,x∈l->f x=g x)->(l.map f).sum=(l.map g).sum
  | [],_=>rfl
  | x::l,h=>by
    simp only [List.map_cons,List.sum_cons]
    rw [h x (by simp),Q5 (fun y hy=>h y (by simp [hy]))]
theorem cnt_mono:∀ {d e:Nat} {n:af},d<=e->Shape d n=true->Cnt d n=Cnt e n
  | 0,_,_,_,h=>by cases h
  | d+1,0,_,hd,_=>by omega
  | d+1,e+1,n,hd,h=>by
    unfold Cnt
    rw [Q5 (f:=Cnt d) (g:=Cnt e) (fun k hk=>cnt_mono (by omega) (kN h k hk))]
theorem jP {n:af} (h:Val n=true):Shape 5 n=true:=by unfold Val at h; simp only [Bool.and_eq_true] at h; exact h.1
theorem RH {n:af} (h:Val n=true):Cnt 5 n<=40:=by unfold Val at h; simp only [Bool.and_eq_true,decide_eq_true_eq] at h; exact h.2
theorem mD {n:af} (h:Val n=true):Fine 12 5 n:=tZ (jP h)
theorem RJ {d:Nat} {n:af} (hd:d<=5) (h:Shape d n=true) (hc:Cnt d n<=40):Val n=true:=by
 unfold Val
 rw [Rf hd h,Bool.true_and,decide_eq_true_eq,<- cnt_mono hd h]
 exact hc
theorem Ru {α:Type} (f:α->Nat) {c:α} : ∀ {l:List α} {j:Nat} (d:α),f c<=f (l.getD j d)->((l.set j c).map f).sum<=(l.map f).sum
  | [],_,_,_=>by simp
  | x::l,0,d,h=>by
    rw [List.getD_cons_zero] at h
    simp only [List.set_cons_zero,List.map_cons,List.sum_cons]
    omega
  | x::l,j+1,d,h=>by
    rw [List.getD_cons_succ] at h
    have:=Ru f (l:=l) (j:=j) d h
    simp only [List.set_cons_succ,List.map_cons,List.sum_cons]
    omega
theorem Rw {n c:af} {j:Nat} (h:Parts n=true):Parts (GG n j c)=true:=by
 unfold Parts GG at *
 simpa using h
theorem Ri {f:af->Option af} (hf:∀ d k k',Shape d k=true->f k=some k'->Shape d k'=true/\Cnt d k'<=Cnt d k) :
    ∀ (p:List aA) {d:Nat} {n m:af},Shape d n=true->Q7 f n p=some m->Shape d m=true/\Cnt d m<=Cnt d n
  | [],d,n,m,h,e=>hf d n m h (by rw [Q7] at e; exact e)
  | s::p,d,n,m,h,e=>by
    rw [Q7] at e
    cases hj:Gx n s with
    | none=>rw [hj] at e; cases e
    | some j =>
      rw [hj] at e
      simp only at e
      cases d with
      | zero=>cases h
      | succ d =>
      have hjl:=Ej hj
      cases hc:Q7 f (n.Kids.getD j default) p with
      | none=>rw [hc] at e; cases e
      | some c =>
        rw [hc] at e
        cases e
        obtain ⟨h1,h2⟩:=Ri hf p (pz h hjl) hc
        constructor
        · unfold Shape
          rw [Rw (iq h),Bool.true_and,List.all_eq_true]
          intro k hk
          rcases List.mem_or_eq_of_mem_set hk with hk | rfl
          · exact kN h k hk
          · exact h1
        · show 1+((n.Kids.set j c).map (Cnt d)).sum<=1+(n.Kids.map (Cnt d)).sum
          have:=Ru (Cnt d) (l:=n.Kids) (j:=j) default h2
          omega
def QX {α:Type} (l:List α) (k:Nat):List α:=l.take k++l.drop (k+1)
def Rh (n:af) (s:aA):Option af:=match Gx n s with
 | some k=>some (af.mk n.Kind 0 [] (if n.Kind=4 then QX n.Names k else []) (QX n.Kids k))
 | none=>none
theorem pW:∀ {l:List aA},Asc l=true<->l.Pairwise (fun x y=>bl x y=true)
  | []=>by simp [Asc]
  | x::l=>by
    rw [List.pairwise_cons,<- pW (l:=l)]
    constructor
    · intro h; exact ⟨um h,uo h⟩
    · rintro ⟨h1,h2⟩
      cases l with
      | nil=>rfl
      | cons y r=>rw [Asc,h2,Bool.and_true]; exact h1 y (by simp)
theorem QZ {α:Type} (l:List α) (k:Nat):(QX l k).Sublist l:=by
 unfold QX
 conv=>rhs; rw [<- List.take_append_drop k l]
 refine List.Sublist.append (List.Sublist.refl _) ?_
 rw [<- List.drop_drop]
 exact List.drop_sublist 1 _
theorem Q4 {α:Type} {l:List α} {k:Nat} (h:k<l.length):(QX l k).length=l.length-1:=by unfold QX; simp; omega
theorem RG {α:Type} (f:α->Nat):∀ {l m:List α},l.Sublist m->(l.map f).sum<=(m.map f).sum:=by
 intro l m h
 induction h with
 | slnil=>simp
 | cons a h ih=>simp only [List.map_cons,List.sum_cons]; omega
 | cons_cons a h ih=>simp only [List.map_cons,List.sum_cons]; omega
theorem Rx (s:aA):∀ d k k',Shape d k=true->Rh k s=some k'->Shape d k'=true/\Cnt d k'<=Cnt d k:=by
  intro d n m h e
  unfold Rh at e
  cases hj:Gx n s with
  | none=>rw [hj] at e; cases e
  | some j =>
    rw [hj] at e
    cases e
    have hjl:=Ej hj
    cases d with
    | zero=>cases h
    | succ d =>
    have hp:=iq h
    have hsub:=QZ n.Kids j
    have hlen:=Q4 hjl
    have hl:=Gw hp
    constructor
    · unfold Shape
      rw [Bool.and_eq_true,List.all_eq_true]
      refine ⟨?_,fun k hk=>kN h k (hsub.subset hk)⟩
      by_cases h4:n.Kind=4
      · obtain ⟨_,_,hN,hnl,hkl⟩:=nJ hp h4
        have hNM:NM (QX n.Names j)=true:=by
          unfold NM
          rw [Bool.and_eq_true]
          refine ⟨List.all_eq_true.2 fun x hx=>I5 hN x ((QZ _ _).subset hx),pW.2 ((pW.1 (Rz hN)).sublist (QZ _ _))⟩
        have hl2:=Q4 (l:=n.Names) (k:=j) (by omega)
        unfold Parts
        simp [h4,hNM]
        omega
      · by_cases h3:n.Kind=3
        · unfold Parts
          simp [h3]
          omega
        · have:=Fe hj; rw [CG h4 h3] at this; cases this
    · show 1+((QX n.Kids j).map (Cnt d)).sum<=1+(n.Kids.map (Cnt d)).sum
      have:=RG (Cnt d) hsub
      omega
def Q3 (p:List aA):aA:=p.getD (p.length-1) default
def QY (p:List aA):List aA:=p.take (p.length-1)
def Rk (n:af) (p:List aA) (v:af):Option af:=if p=[] then some v else Q7 (fun m=>addN m (Q3 p) v) n (QY p)
def Rn (n:af) (p:List aA):Option af:=if p=[] then none else Q7 (fun m=>Rh m (Q3 p)) n (QY p)
theorem T.jy {B D:Nat} {o:Option af} (hB:B<=lim) (h:∀ m,o=some m->Fine B D m):Ev (fun f=>G.jy f (qx o).1 (qx o).2) (qx (o.filter Val)):=by
  refine Ev.up ?_
  simp only [G.jy]
  cases o with
  | none=>exact Ev.cf rfl (Ev.ret _)
  | some m =>
    refine Ev.ct rfl (Ev.bind (T.cZ hB (h m rfl)) (Ev.ite (fun e=>Ev.ret' ?_) (fun e=>Ev.ret' ?_)))
    · have e:Val m=true:=e
      simp [Option.filter,e,qx]
    · have e:Val m=false:=e
      simp [Option.filter,e,qx,rD]
theorem Q9 {p:List aA} (hp:p ≠ []) (hl:p.length<big):IntKind.wrap .i64 (((p.length:Nat):Int)-1)=((p.length-1:Nat):Int):=by
 have:0<p.length:=List.length_pos_iff.2 hp
 unfold big at hl
 exact wrapN (by omega) (by omega)
theorem Rt {B D E:Nat} {n v m:af} {p:List aA} (h:Fine B D n) (hv:Fine B E v) (hs:∀ s,s∈p->s.length<=B) (hm:Rk n p v=some m):Fine (B+1) (D+(D+E)) m:=by
  unfold Rk at hm
  split at hm
  · cases hm; exact hv.mono (by omega) (by omega)
  · rename_i hp
    have hlast:(Q3 p).length<=B:=by
      unfold Q3
      have:0<p.length:=List.length_pos_iff.2 hp
      rw [dI _ (by omega:p.length-1<p.length)]
      exact hs _ (List.getElem_mem _)
    rw [Rl] at hm
    cases ha:Mc n (QY p) with
    | none=>rw [ha] at hm; cases hm
    | some inner =>
      rw [ha,Option.bind_some] at hm
      cases hn:addN inner (Q3 p) v with
      | none=>rw [hn] at hm; cases hm
      | some next =>
        rw [hn,Option.bind_some] at hm
        have hi:=ES _ h ha
        have hnx:=Iq hi hv hlast hn
        exact Q8 (B:=B+1) (E:=D+E) (QY p) (f:=fun _=>some next) (D:=D) (n:=n) (m:=m) (fun D' k k' _ e=>by cases e; exact hnx.mono (Nat.le_refl _) (by omega)) (h.mono (by omega) (Nat.le_refl _)) hm
theorem T.kX {B D E:Nat} {n v:af} (p:List aA) (hB:B+1<lim) (hp:p.length<big) (hs:∀ s,s∈p->s.length<=B) (h:Fine B D n) (hv:Fine B E v):Ev (fun f=>G.kX f n p v) (qx (Rk n p v)):=by
  refine Ev.up ?_
  simp only [G.kX]
  by_cases hp0:p=[]
  · subst hp0
    exact Ev.ct rfl (Ev.bind (T.ay (by omega) hv) (Ev.ret _))
  · have hpos:0<p.length:=List.length_pos_iff.2 hp0
    have hlast:(Q3 p).length<=B:=by
      unfold Q3
      rw [dI _ (by omega:p.length-1<p.length)]
      exact hs _ (List.getElem_mem _)
    rw [Q9 hp0 hp,Int.toNat_natCast]
    unfold Rk
    rw [if_neg hp0,Rl]
    have hil:(QY p).length<big:=by unfold QY; rw [List.length_take]; omega
    refine Ev.cf (by simpa using hp0) (Ev.chk (by omega) (Ev.bind (T.jD (QY p) (by omega) hil h) ?_))
    cases ha:Mc n (QY p) with
    | none=>exact Ev.cf rfl (Ev.ret _)
    | some inner =>
      have hi:=ES _ h ha
      have hA:=T.gY (n:=inner) (Q3 p) (by omega) hi hv
      refine Ev.ct rfl (Ev.chk (by omega) (Ev.bind hA ?_))
      rw [Option.bind_some]
      cases hn:addN inner (Q3 p) v with
      | none=>exact Ev.cf rfl (Ev.ret _)
      | some next =>
        have hnx:=Iq hi hv hlast hn
        refine Ev.ct rfl (Ev.chk (by omega) (Ev.bind (T.jM (by omega) hnx (QY p) hil (h.mono (by omega) (Nat.le_refl _))) (Ev.ret _)))
theorem Ry {B D:Nat} {n m:af} {s:aA} (h:Fine B D n) (e:Rh n s=some m):Fine B D m:=by
  unfold Rh at e
  cases hj:Gx n s with
  | none=>rw [hj] at e; cases e
  | some j =>
    rw [hj] at e
    cases e
    cases D with
    | zero=>exact h.elim
    | succ D =>
    have hjl:=Ej hj
    have hk:=h.kids
    have hn:=h.names
    have h1:=Q4 hjl
    refine ⟨by simp,?_,fun x hx => ?_,by show (QX n.Kids j).length<=B; omega,fun h4 => ?_,fun k hk'=>h.2.2.2.2.2 k ((QZ _ _).subset hk')⟩
    · show (if n.Kind=4 then QX n.Names j else []).length<=B
      split
      · have:=(QZ n.Names j).length_le; omega
      · simp
    · have hx:x∈(if n.Kind=4 then QX n.Names j else []):=hx
      split at hx
      · exact h.2.2.1 x ((QZ _ _).subset hx)
      · cases hx
    · have h4:n.Kind=4:=h4
      have hm:=h.map h4
      have h2:=Q4 (l:=n.Names) (k:=j) (by omega)
      show (QX n.Kids j).length<=(if n.Kind=4 then QX n.Names j else []).length
      rw [if_pos h4]
      omega
theorem T.iO {B D:Nat} {n:af} (p:List aA) (hB:B+1<lim) (hp:p.length<big) (h:Fine B D n):Ev (fun f=>G.iO f n p) (qx (Rn n p)):=by
  have hB2:=hB
  unfold lim at hB2
  refine Ev.up ?_
  simp only [G.iO]
  by_cases hp0:p=[]
  · subst hp0
    exact Ev.ct (by rfl) (Ev.ret _)
  · have hpos:0<p.length:=List.length_pos_iff.2 hp0
    rw [Q9 hp0 hp,Int.toNat_natCast]
    unfold Rn
    rw [if_neg hp0,Rl]
    have hil:(QY p).length<big:=by unfold QY; rw [List.length_take]; omega
    refine Ev.cf (by simp) (Ev.chk (by omega) (Ev.bind (T.jD (QY p) (by omega) hil h) ?_))
    cases ha:Mc n (QY p) with
    | none=>exact Ev.cf rfl (Ev.ret _)
    | some inner =>
      have hi:=ES _ h ha
      have hk:=hi.kids
      have hnm:=hi.names
      have hP:=T.dU (n:=inner) (Q3 p) (by omega) hi
      refine Ev.ct rfl (Ev.chk (by omega) (Ev.bind hP ?_))
      rw [Option.bind_some]
      cases hj:Gx inner (Q3 p) with
      | none =>
        unfold Rh
        rw [hj]
        exact Ev.ct rfl (Ev.ret _)
      | some j =>
        have hjl:=Ej hj
        simp only [uU,qx,Int.toNat_natCast,bu (show j+1<9223372036854775808 by omega)]
        have ht:(inner.Kids.take j).length=j:=by rw [List.length_take]; omega
        have hd:(inner.Kids.drop (j+1)).length=inner.Kids.length-(j+1):=List.length_drop
        refine Ev.cf (decide_eq_false (by omega)) (Ev.chk (by omega) (Ev.chk (by omega) (Ev.chk (by omega) (Ev.chk (by omega) ?_))))
        have key:∀ (b:Bool) (nm:List aA),Rh inner (Q3 p)=some (af.mk inner.Kind 0 [] nm (QX inner.Kids j))->Ev (fun f=>G.iO.K1 f n p (inner,b) (QX inner.Kids j) nm) (qx ((Rh inner (Q3 p)).bind fun m'=>Rq n (QY p) m')):=by
          intro b nm e
          refine Ev.up ?_
          simp only [G.iO.K1]
          rw [Q9 hp0 hp,Int.toNat_natCast,e,Option.bind_some]
          exact Ev.chk (by omega) (Ev.bind (T.jM (by omega) (Ry hi e) (QY p) hil h) (Ev.ret _))
        refine Ev.ite (fun e4 => ?_) (fun e4 => ?_)
        · have h4:inner.Kind=4:=by simpa using e4
          have hm:=hi.map h4
          have ht2:(inner.Names.take j).length=j:=by rw [List.length_take]; omega
          have hd2:(inner.Names.drop (j+1)).length=inner.Names.length-(j+1):=List.length_drop
          refine Ev.chk (by omega) (Ev.chk (by omega) (Ev.chk (by omega) (Ev.chk (by omega) ?_)))
          exact key true (QX inner.Names j) (by unfold Rh; rw [hj]; simp [h4])
        · have h4:¬ inner.Kind=4:=by simpa using e4
          exact key true [] (by unfold Rh; rw [hj]; simp [h4])
end Go.Ab
end
section
namespace Go.Ab
open Go
theorem CY {B:Nat} (hB:B<=lim) {p:List aA} (hl:p.length<=B) (hs:∀ s,s∈p->s.length<=B):Sm p:=by
 unfold lim at hB
 exact ⟨by unfold big; omega,fun s h=>by have:=hs s h; unfold big; omega⟩
def ji (B:Nat) (p:List aA):Prop:=p.length<=B/\∀ s,s∈p->s.length<=B
theorem ji.sm {B:Nat} (hB:B<=lim) {p:List aA} (h:ji B p):Sm p:=CY hB h.1 h.2
theorem qh {p:List aA} (h:PP p=true):ji 12 p:=by
 unfold PP at h
 simp only [Bool.and_eq_true,decide_eq_true_eq] at h
 exact ⟨by omega,fun s hs=>Be (List.all_eq_true.1 h.1 s hs)⟩
theorem RF {n m:af} {p:List aA} (h:Val n=true) (e:Rn n p=some m):Val m=true:=by
 unfold Rn at e
 split at e
 ·cases e
 ·obtain ⟨h1,h2⟩:=Ri (Rx (Q3 p)) (QY p) (jP h) e
  exact RJ (Nat.le_refl _) h1 (Nat.le_trans h2 (RH h))
theorem T.slices_Equal_string.L1 {a b:List aA} (hl:a.length=b.length) (hb:a.length<big):∀ (k i:Nat),i+k=a.length->Ev (fun f=>G.slices_Equal_string.L1 f a b i) (decide (a.drop i=b.drop i)):=by
  unfold big at hb
  intro k
  induction k with
  | zero =>
    intro i hi
    refine Ev.up ?_
    simp only [G.slices_Equal_string.L1]
    refine Ev.cf (by simp; omega) (Ev.ret' ?_)
    rw [List.drop_of_length_le (by omega),List.drop_of_length_le (by omega)]; rfl
  | succ k ih =>
    intro i hi
    refine Ev.up ?_
    simp only [G.slices_Equal_string.L1,Int.toNat_natCast,bu (show i+1<9223372036854775808 by omega)]
    refine Ev.ct (by simp; omega) (Ev.chk (by omega) (Ev.chk (by omega) ?_))
    rw [aY (default:aA) (by omega:i<a.length),aY (default:aA) (by omega:i<b.length)]
    refine Ev.ite (fun e=>(ih (i+1) (by omega)).eq ?_) (fun e=>Ev.ret' ?_)
    · rw [beq_iff_eq] at e
      apply decide_eq_decide.2
      rw [List.cons.injEq]
      exact ⟨fun h=>⟨e,h⟩,fun h=>h.2⟩
    · have e:a.getD i default ≠ b.getD i default:=by simpa using e
      symm
      apply decide_eq_false
      rw [List.cons.injEq]
      exact fun h=>e h.1
theorem T.slices_Equal_string {a b:List aA} (hb:a.length<big):Ev (fun f=>G.slices_Equal_string f a b) (decide (a=b)):=by
 refine Ev.up ?_
 simp only [G.slices_Equal_string]
 by_cases h:a.length=b.length
 ·exact Ev.cf (by simp; omega) (T.slices_Equal_string.L1 h hb a.length 0 (by omega))
 ·refine Ev.ct (by simp; omega) (Ev.ret' ?_)
  symm
  exact decide_eq_false (fun e=>h (by rw [e]))
end Go.Ab
end
section
namespace Go.Ab
open Go
def vK (o:iI):Bool:=(decide (1<=o.Kind)&&decide (o.Kind<=6))&&PP o.Path&&PP o.From&&Val o.Value
structure ED (o:iI):Prop where
 k1:1<=o.Kind
 k6:o.Kind<=6
 path:PP o.Path=true
 from_:PP o.From=true
 val:Val o.Value=true
theorem kD {o:iI} (h:vK o=true):ED o:=by
 unfold vK at h
 simp only [Bool.and_eq_true,decide_eq_true_eq] at h
 exact ⟨h.1.1.1.1,h.1.1.1.2,h.1.1.2,h.1.2,h.2⟩
theorem RN:(12:Nat)+1<lim:=by decide
structure zo (B D:Nat) (o:iI):Prop where
 path:ji B o.Path
 from_:ji B o.From
 val:Fine B D o.Value
theorem T.ig {B D:Nat} {o:iI} (hB:B<=lim) (h:zo B D o):Ev (fun f=>G.ig f o) (vK o):=by
 refine Ev.up ?_
 simp only [G.ig]
 unfold vK
 refine Ev.bind (T.bG _ _ _) (Ev.ite (fun e1 => ?_) (fun e1=>Ev.ret' (by rw [e1]; rfl)))
 refine Ev.bind (T.dM _ (h.path.sm hB)) (Ev.ite (fun e2 => ?_) (fun e2=>Ev.ret' (by rw [e1,e2]; rfl)))
 refine Ev.bind (T.dM _ (h.from_.sm hB)) (Ev.ite (fun e3 => ?_) (fun e3=>Ev.ret' (by rw [e1,e2,e3]; rfl)))
 exact Ev.bind (T.aT hB h.val) (Ev.ret' (by rw [e1,e2,e3]; rfl))
theorem T.jo {B D:Nat} {o:iI} (hB:B<=lim) (h:zo B D o):Ev (fun f=>G.jo f o) (vK o):=by
 refine Ev.up ?_
 simp only [G.jo]
 unfold vK
 refine Ev.ite (fun e0 => ?_) (fun e0=>Ev.ret' (by rw [e0]; rfl))
 refine Ev.ite (fun e1 => ?_) (fun e1=>Ev.ret' (by rw [e0,e1]; rfl))
 refine Ev.bind (T.fA _ (h.path.sm hB)) (Ev.ite (fun e2 => ?_) (fun e2=>Ev.ret' (by rw [e0,e1,e2]; rfl)))
 refine Ev.bind (T.fA _ (h.from_.sm hB)) (Ev.ite (fun e3 => ?_) (fun e3=>Ev.ret' (by rw [e0,e1,e2,e3]; rfl)))
 exact Ev.bind (T.cZ hB h.val) (Ev.ret' (by rw [e0,e1,e2,e3]; rfl))
end Go.Ab
end
section
namespace Go.Ab
open Go
structure jO (K:Nat) (r:ReaderT):Prop where
 len:r.b.length<=2000
 bytes:∀ x,x∈r.b->0<=x/\x<256
 lo:0<=r.p
 hi:r.p<=(K:Int)
theorem jO.mono {K L:Nat} {r:ReaderT} (h:jO K r) (hk:K<=L):jO L r:=⟨h.len,h.bytes,h.lo,by have:=h.hi; omega⟩
theorem ReaderT.eta (r:ReaderT):ReaderT.mk r.b r.p=r:=rfl
theorem Ns {X Y:Nat} (hX:X<4611686018427387904) (hY:Y<4611686018427387904) :
  ∃ z:Nat,IntKind.wrap .i64 (((BitVec.ofInt (IntKind.bits .i64) (X:Int) ^^^ BitVec.ofInt (IntKind.bits .i64) (Y:Int)).toNat:Nat):Int)=(z:Int):=by
 have e:((BitVec.ofInt (IntKind.bits .i64) (X:Int) ^^^ BitVec.ofInt (IntKind.bits .i64) (Y:Int)).toNat)=X ^^^ Y:=by
  rw [BitVec.toNat_xor]
  show (BitVec.ofInt 64 (X:Int)).toNat ^^^ (BitVec.ofInt 64 (Y:Int)).toNat=_
  rw [BitVec.toNat_ofInt,BitVec.toNat_ofInt]
  congr 1<;>omega
 have hlt:X ^^^ Y<2^62:=Nat.xor_lt_two_pow (by omega) (by omega)
 exact ⟨X ^^^ Y,by rw [e]; exact wrapN rfl (by omega)⟩
theorem pK (a b:Nat):Int.tmod (a:Int) (b:Int)=((a%b:Nat):Int):=by
 rw [Int.tmod_eq_emod_of_nonneg (by omega)]; exact (Int.natCast_emod a b).symm
theorem rM (a b:Nat):Int.tdiv (a:Int) (b:Int)=((a/b:Nat):Int):=by
 rw [Int.tdiv_eq_ediv_of_nonneg (by omega)]; exact (Int.natCast_ediv a b).symm
theorem T.pick {K m:Nat} {r:ReaderT} (hr:jO K r) (hK:K<=1000000000) (hm:0<m) (hm2:m<=1000000000) :
  ∃ (v:Nat) (r':ReaderT),Ev (fun f=>G.aj f r (m:Int)) ((v:Int),r')/\v<m/\jO (K+1) r':=by
 obtain ⟨b,p⟩:=r
 obtain ⟨h1,h2,h3,h4⟩:=hr
 simp only at h1 h2 h3 h4
 obtain ⟨k,rfl⟩:∃ k:Nat,p=k:=⟨p.toNat,by omega⟩
 have hr':jO (K+1) (ReaderT.mk b ((k+1:Nat):Int)):=⟨h1,h2,by show (0:Int)<=((k+1:Nat):Int); omega,by show ((k+1:Nat):Int)<=_; omega⟩
 have w1:IntKind.wrap .i64 ((k:Int)+1)=((k+1:Nat):Int):=bu (by omega)
 have w2:IntKind.wrap .i64 (((k+1:Nat):Int)-1)=(k:Int):=wrapN (by omega) (by omega)
 by_cases hb:b.length=0
 ·refine ⟨0,_,Ev.up ?_,hm,hr'⟩
  simp only [G.aj,w1]
  exact Ev.cf (by simp; omega) (Ev.ct (by simpa using hb) (Ev.ret _))
 have byte:∀ i:Nat,i<b.length->∃ c:Nat,b.getD i default=(c:Int)/\c<256:=fun i hi=>by
  rw [dI _ hi]
  have:=h2 _ (List.getElem_mem hi)
  exact ⟨b[i].toNat,by omega,by omega⟩
 by_cases hk:k<b.length
 ·obtain ⟨c,hc,hc2⟩:=byte k hk
  refine ⟨c%m,_,Ev.up ?_,Nat.mod_lt _ hm,hr'⟩
  simp only [G.aj,w1,w2,Int.toNat_natCast,hc,wrapN (x:=(c:Int)) (m:=c) rfl (by omega),pK]
  exact Ev.cf (by simp; omega) (Ev.cf (by simpa using hb) (Ev.ct (by simpa using hk) (Ev.chk (by omega) (Ev.chk (by omega) (Ev.ret _)))))
 ·have hlt:k%b.length<b.length:=Nat.mod_lt _ (by omega)
  have hlt2:(k*7+3)%b.length<b.length:=Nat.mod_lt _ (by omega)
  obtain ⟨c,hc,hc2⟩:=byte _ hlt
  obtain ⟨d,hd,hd2⟩:=byte _ hlt2
  have hdiv:k/b.length<=k:=Nat.div_le_self _ _
  have w3:IntKind.wrap .i64 ((k:Int)*7)=((k*7:Nat):Int):=wrapN (by omega) (by omega)
  have w4:IntKind.wrap .i64 (((k*7:Nat):Int)+3)=((k*7+3:Nat):Int):=wrapN (by omega) (by omega)
  have w5:IntKind.wrap .i64 (c:Int)=c:=wrapN rfl (by omega)
  have w6:IntKind.wrap .i64 (d:Int)=d:=wrapN rfl (by omega)
  have w7:IntKind.wrap .i64 ((c:Int)*131)=((c*131:Nat):Int):=wrapN (by omega) (by omega)
  have w8:IntKind.wrap .i64 ((d:Int)*1117)=((d*1117:Nat):Int):=wrapN (by omega) (by omega)
  have w9:IntKind.wrap .i64 (((c*131:Nat):Int)+((d*1117:Nat):Int))=((c*131+d*1117:Nat):Int):=wrapN (by omega) (by omega)
  have w10:IntKind.wrap .i64 ((k:Int)*29)=((k*29:Nat):Int):=wrapN (by omega) (by omega)
  have QC:IntKind.wrap .i64 (((c*131+d*1117:Nat):Int)+((k*29:Nat):Int))=((c*131+d*1117+k*29:Nat):Int):=wrapN (by omega) (by omega)
  have w12:IntKind.wrap .i64 ((k/b.length:Nat):Int)=((k/b.length:Nat):Int):=wrapN rfl (by omega)
  have QD:IntKind.wrap .i64 (((k/b.length:Nat):Int)*53)=((k/b.length*53:Nat):Int):=wrapN (by omega) (by omega)
  have QE:IntKind.wrap .i64 (((c*131+d*1117+k*29:Nat):Int)+((k/b.length*53:Nat):Int))=((c*131+d*1117+k*29+k/b.length*53:Nat):Int):=wrapN (by omega) (by omega)
  have e64:(64:Int)=((64:Nat):Int):=rfl
  have QG:IntKind.wrap .i64 (Int.tdiv ((c*131+d*1117+k*29+k/b.length*53:Nat):Int) 64)=(((c*131+d*1117+k*29+k/b.length*53)/64:Nat):Int):=by
   rw [e64,rM]; exact wrapN rfl (by omega)
  obtain ⟨z,hz⟩:=Ns (X:=c*131+d*1117+k*29+k/b.length*53) (Y:=(c*131+d*1117+k*29+k/b.length*53)/64) (by omega) (by omega)
  refine ⟨z%m,_,Ev.up ?_,Nat.mod_lt _ hm,hr'⟩
  simp only [G.aj,w1,w2,w3,w4,pK,rM,Int.toNat_natCast,hc,hd,w5,w6,w7,w8,w9,w10,QC,w12,QD,QE,QG,hz]
  exact Ev.cf (by simp; omega) (Ev.cf (by simpa using hb) (Ev.cf (by simp; omega) (Ev.chk (by omega) (Ev.chk (by omega) (Ev.chk (by omega) (Ev.chk (by omega) (Ev.chk (by omega) (Ev.chk (by omega) (Ev.ret _)))))))))
end Go.Ab
end
section
namespace Go.Ab
open Go
theorem T.one {K:Nat} {r:ReaderT} (hr:jO K r) (hK:K<=1000000000) (l:List Int) (h0:0<l.length) (h1:l.length<=1000) :
  ∃ x r',Ev (fun f=>G.dH f r l) (x,r')/\x∈l/\jO (K+1) r':=by
 obtain ⟨v,r',g,hv,hr'⟩:=T.pick (m:=l.length) hr hK h0 (by omega)
 refine ⟨l.getD v default,r',Ev.up ?_,by rw [dI _ hv]; exact List.getElem_mem _,hr'⟩
 simp only [G.dH]
 refine Ev.bind g (Ev.chk (by simp only; omega) (Ev.ret' ?_))
 rw [Int.toNat_natCast]
theorem T.of {K:Nat} {r:ReaderT} (hr:jO K r) (hK:K<=1000000000) (l:List aA) (h0:0<l.length) (h1:l.length<=1000) :
  ∃ x r',Ev (fun f=>G.dA f r l) (x,r')/\x∈l/\jO (K+1) r':=by
 obtain ⟨v,r',g,hv,hr'⟩:=T.pick (m:=l.length) hr hK h0 (by omega)
 refine ⟨l.getD v default,r',Ev.up ?_,by rw [dI _ hv]; exact List.getElem_mem _,hr'⟩
 simp only [G.dA]
 refine Ev.bind g (Ev.chk (by simp only; omega) (Ev.ret' ?_))
 rw [Int.toNat_natCast]
theorem Aj {l:List aA} {x:aA} {m:Nat} (h:l.all (fun s=>decide (s.length<=m))=true) (hx:x∈l):x.length<=m:=by
 have:=List.all_eq_true.1 h x hx
 simpa using this
theorem T.Js {K:Nat} {r:ReaderT} (hr:jO K r) (hK:K<=1000000000):∃ x r',Ev (fun f=>G.jr f r) (x,r')/\x.length<=12/\jO (K+1) r':=by
 obtain ⟨x,r',g,hx,hr'⟩:=T.of hr hK [[97],[98],[],[97,98,99],[97,47,98],[126],[120,32,121],[34,113,34],[98,97,99,107,92,115],[48],[49],[97,98,99,100,101,102,103,104,105,106,107,108]] (by decide) (by decide)
 refine ⟨x,r',Ev.up ?_,Aj (by decide) hx,hr'⟩
 simp only [G.jr]
 exact Ev.bind g (Ev.ret _)
theorem T.Jr {K:Nat} {r:ReaderT} (hr:jO K r) (hK:K<=1000000000):∃ x r',Ev (fun f=>G.jq f r) (x,r')/\x.length<=12/\jO (K+1) r':=by
 obtain ⟨x,r',g,hx,hr'⟩:=T.of hr hK [[97],[98],[99],[100],[97,47,98],[126,120],[],[107]] (by decide) (by decide)
 refine ⟨x,r',Ev.up ?_,Aj (by decide) hx,hr'⟩
 simp only [G.jq]
 exact Ev.bind g (Ev.ret _)
def sO:Nat->Nat
 | 0=>4
 | d+1=>20+6*sO d
theorem oG {B:Nat} {n:af} (ht:n.Text.length<=B) (hn:n.Names=[]) (hk:n.Kids=[]):Fine B 1 n :=
 ⟨ht,by rw [hn]; simp,by rw [hn]; simp,by rw [hk]; simp,by rw [hk]; simp,by rw [hk]; simp⟩
def EC (d:Nat) (K:Nat) (F:Nat->Option (af × ReaderT)):Prop:=∃ m r' D,Ev F (m,r')/\Fine (20+20*d) D m/\jO (K+sO d) r'
theorem T.rW.L1 {d M:Nat} (hM:M<=900000000) (hd:d<=10) (hrec:∀ K r,jO K r->K<=M->EC d K (fun f=>G.aO f r ((d+1:Nat):Int))) :
    ∀ (j K B D:Nat) (r:ReaderT) (out:af),jO K r->K+j*(1+sO d)<=M->20+20*d<=B->B+j<=1000->Fine B D out ->
      ∃ m r' D',Ev (fun f=>G.dh.L1 f ((d+2:Nat):Int) (j:Int) r.b r.p out.Kind out.Num out.Text out.Names out.Kids) (m,r')/\Fine (B+j) D' m/\jO (K+j*(1+sO d)) r':=by
  intro j
  induction j with
  | zero =>
    intro K B D r out hr hK hB hB2 hf
    refine ⟨out,r,D,Ev.up ?_,hf,hr.mono (by omega)⟩
    simp only [G.dh.L1,af.eta]
    exact Ev.cf (by simp) (Ev.ret _)
  | succ j ih =>
    intro K B D r out hr hK hB hB2 hf
    rw [Nat.add_mul] at hK
    obtain ⟨nm,r1,g1,hn,hr1⟩:=T.Jr hr (by omega)
    obtain ⟨kid,r2,E,g2,hk,hr2⟩:=hrec (K+1) r1 hr1 (by omega)
    have w:IntKind.wrap .i64 (((d+2:Nat):Int)-1)=((d+1:Nat):Int):=wrapN (by omega) (by omega)
    have w2:IntKind.wrap .i64 (((j+1:Nat):Int)-1)=(j:Int):=wrapN (by omega) (by omega)
    have hP:=T.dU nm (show B<=lim by unfold lim; omega) hf
    have hA:=T.gY (v:=kid) (E:=E) nm (show B<lim by unfold lim; omega) hf (hk.mono (by omega) (Nat.le_refl _))
    have next:∃ MZ D2,Ev (fun f=>cond (decide (uU (Gx out nm)<0)) (Option.bind (G.gY f out nm kid) fun v13=>G.dh.L1 f ((d+2:Nat):Int) (j:Int) r2.b r2.p v13.1.Kind v13.1.Num v13.1.Text v13.1.Names v13.1.Kids) (G.dh.L1 f ((d+2:Nat):Int) (j:Int) r2.b r2.p out.Kind out.Num out.Text out.Names out.Kids)) MZ
        /\ Fine (B+1+j) D2 MZ.1/\jO (K+1+sO d+j*(1+sO d)) MZ.2:=by
      refine Classical.byCases (fun e:decide (uU (Gx out nm)<0)=true => ?_) (fun e => ?_)
      · have hfx:∃ D3,Fine (B+1) D3 (qx (addN out nm kid)).1:=by
          cases ha:addN out nm kid with
          | none=>exact ⟨1,oG (by simp [qx,rD]) rfl rfl⟩
          | some m=>exact ⟨_,Iq hf (hk.mono (by omega) (Nat.le_refl _)) (by omega) ha⟩
        obtain ⟨D3,hfx⟩:=hfx
        obtain ⟨m,r',D',g,hm,hr'⟩:=ih (K+1+sO d) (B+1) D3 r2 _ hr2 (by omega) (by omega) (by omega) hfx
        exact ⟨(m,r'),D',Ev.ct e (Ev.bind hA g),hm,hr'⟩
      · obtain ⟨m,r',D',g,hm,hr'⟩:=ih (K+1+sO d) (B+1) D r2 out hr2 (by omega) (by omega) (by omega) (hf.mono (by omega) (Nat.le_refl _))
        exact ⟨(m,r'),D',Ev.cf (by simpa using e) g,hm,hr'⟩
    obtain ⟨⟨m,r'⟩,D2,g,hm,hr'⟩:=next
    refine ⟨m,r',D2,Ev.up ?_,hm.mono (by omega) (Nat.le_refl _),hr'.mono (by rw [Nat.add_mul]; omega)⟩
    simp only [G.dh.L1,af.eta,w,w2]
    refine Ev.ct (by simp) (Ev.bind g1 (Ev.bind g2 (Ev.bind hP g)))
end Go.Ab
end
section
namespace Go.Ab
open Go
def Tot {α:Type} (Q:α->Prop) (F:Nat->Option α):Prop:=∃ x,Ev F x/\Q x
section
variable {α β:Type} {Q:α->Prop} {F F':Nat->Option α}
theorem Tot.up (h:Tot Q (fun n=>F (n+1))):Tot Q F:=let ⟨x,g,q⟩:=h; ⟨x,Ev.up g,q⟩
theorem Tot.ret {x:α} (h:Q x):Tot Q (fun _=>some x):=⟨x,Ev.ret x,h⟩
theorem Tot.bind {P:β->Prop} {h:Nat->Option β} {k:Nat->β->Option α} (h1:Tot P h) (h2:∀ x,P x->Tot Q (fun n=>k n x)):Tot Q (fun n=>Option.bind (h n) (k n)):=by
 obtain ⟨x,g,p⟩:=h1
 obtain ⟨y,g',q⟩:=h2 x p
 exact ⟨y,Ev.bind g g',q⟩
theorem Tot.iy {a:β} {h:Nat->Option β} {k:Nat->β->Option α} (h1:Ev h a) (h2:Tot Q (fun n=>k n a)):Tot Q (fun n=>Option.bind (h n) (k n)):=by
 obtain ⟨y,g',q⟩:=h2
 exact ⟨y,Ev.bind h1 g',q⟩
theorem Tot.chk {p:Prop} [Decidable p] (hp:p) (h:Tot Q F):Tot Q (fun n=>Ab.chk p (F n)):=let ⟨x,g,q⟩:=h; ⟨x,Ev.chk hp g,q⟩
theorem Tot.ite {c:Bool} (h:c=true->Tot Q F) (h':c=false->Tot Q F'):Tot Q (fun n=>cond c (F n) (F' n)):=by
 cases c
 ·exact h' rfl
 ·exact h rfl
theorem Tot.mono {P:α->Prop} (h:Tot P F) (hq:∀ x,P x->Q x):Tot Q F:=let ⟨x,g,q⟩:=h; ⟨x,g,hq x q⟩
end
abbrev Dr {α:Type} (L:Nat) (Q:α->Prop) (F:Nat->Option (α × ReaderT)):Prop:=Tot (fun x=>Q x.1/\jO L x.2) F
theorem D.pick {K:Nat} {r:ReaderT} (hr:jO K r) (hK:K<=1000000000) {M:Int} {m:Nat} (hM:M=(m:Int)) (h0:0<m) (h1:m<=1000000000) :
  Dr (K+1) (fun x:Int=>∃ v:Nat,x=(v:Int)/\v<m) (fun f=>G.aj f r M):=by
 subst hM
 obtain ⟨v,r',g,hv,hr'⟩:=T.pick hr hK h0 h1
 exact ⟨_,g,⟨v,rfl,hv⟩,hr'⟩
theorem D.one {K:Nat} {r:ReaderT} (hr:jO K r) (hK:K<=1000000000) (l:List Int) (h0:0<l.length) (h1:l.length<=1000):Dr (K+1) (fun x:Int=>x∈l) (fun f=>G.dH f r l):=by
 obtain ⟨v,r',g,hv,hr'⟩:=T.one hr hK l h0 h1
 exact ⟨_,g,hv,hr'⟩
theorem D.of {K m:Nat} {r:ReaderT} (hr:jO K r) (hK:K<=1000000000) (l:List aA) (h0:0<l.length) (h1:l.length<=1000) (hm:l.all (fun s=>decide (s.length<=m))=true) :
  Dr (K+1) (fun x:aA=>x.length<=m) (fun f=>G.dA f r l):=by
 obtain ⟨v,r',g,hv,hr'⟩:=T.of hr hK l h0 h1
 exact ⟨_,g,Aj hm hv,hr'⟩
abbrev nC (B:Nat) (n:af):Prop:=∃ D,Fine B D n
theorem D.rW {d M:Nat} (hM:M<=900000000) (hd:d<=10) (hrec:∀ K r,jO K r->K<=M->EC d K (fun f=>G.aO f r ((d+1:Nat):Int)))
  {K:Nat} {r:ReaderT} (hr:jO K r) (hK:K+1+4*(1+sO d)<=M):Dr (K+1+4*(1+sO d)) (nC (24+20*d)) (fun f=>G.dh f r ((d+2:Nat):Int)):=by
 refine Tot.up ?_
 simp only [G.dh]
 refine Tot.bind (D.one hr (by omega) [2,3,1,0,4] (by decide) (by decide)) ?_
 rintro ⟨x,r'⟩ ⟨hx,hr'⟩
 obtain ⟨j,rfl,hj⟩:∃ j:Nat,x=(j:Int)/\j<=4:=⟨x.toNat,by simp at hx; omega⟩
 have hm:j*(1+sO d)<=4*(1+sO d):=Nat.mul_le_mul_right _ hj
 obtain ⟨m,r2,D',g,hm',hr2⟩:=T.rW.L1 hM hd hrec j (K+1) (20+20*d) 1 r' (af.mk 4 0 [] [] []) hr' (by omega) (Nat.le_refl _) (by omega) (oG (by simp) rfl rfl)
 exact ⟨(m,r2),g,⟨D',hm'.mono (by omega) (Nat.le_refl _)⟩,hr2.mono (by omega)⟩
theorem rU {B D:Nat} {k:Int} {l:List af} (hk:k ≠ 4) (hl:l.length<=B) (h:∀ x,x∈l->Fine B D x):Fine B (D+1) (af.mk k 0 [] [] l) :=
 ⟨by simp,by simp,by simp,hl,fun e=>absurd e hk,h⟩
theorem D.lQ.L2 {d M:Nat} (hd:d<=10) (hrec:∀ K r,jO K r->K<=M->EC d K (fun f=>G.aO f r ((d+1:Nat):Int))) :
    ∀ (j K D:Nat) (r:ReaderT) (z:List af),jO K r->K+j*sO d<=M->z.length+j<=10->(∀ x,x∈z->Fine (20+20*d) D x) ->
      Dr (K+j*sO d) (nC (20+20*d)) (fun f=>G.aO.L2 f ((d+2:Nat):Int) 3 (j:Int) r.b r.p z):=by
  intro j
  induction j with
  | zero =>
    intro K D r z hr hK hz hf
    refine Tot.up ?_
    simp only [G.aO.L2]
    exact ⟨_,Ev.cf (by simp) (Ev.ret _),⟨D+1,rU (by decide) (by omega) hf⟩,hr.mono (by omega)⟩
  | succ j ih =>
    intro K D r z hr hK hz hf
    rw [Nat.add_mul] at hK
    have w:IntKind.wrap .i64 (((d+2:Nat):Int)-1)=((d+1:Nat):Int):=wrapN (by omega) (by omega)
    have w2:IntKind.wrap .i64 (((j+1:Nat):Int)-1)=(j:Int):=wrapN (by omega) (by omega)
    obtain ⟨kid,r2,E,g2,hk,hr2⟩:=hrec K r hr (by omega)
    refine Tot.up ?_
    simp only [G.aO.L2,w,w2]
    obtain ⟨x,g,hx,hr'⟩:=ih (K+sO d) (max D E) r2 (z++[kid]) hr2 (by omega) (by simp; omega) (fun x hx=>by
      rcases List.mem_append.1 hx with h | h
      · exact (hf x h).mono (Nat.le_refl _) (Nat.le_max_left _ _)
      · simp only [List.mem_singleton] at h; subst h; exact hk.mono (Nat.le_refl _) (Nat.le_max_right _ _))
    exact ⟨x,Ev.ct (by simp) (Ev.bind g2 (Ev.chk (by omega) g)),hx,hr'.mono (by rw [Nat.add_mul]; omega)⟩
theorem D.lQ.K1 {d k:Nat} (hd:d<=10) (hk:k<3\/(k<5/\∃ e,d=e+1/\∀ K r,jO K r->K<=900000000-sO e->EC e K (fun f=>G.aO f r ((e+1:Nat):Int))))
    {K:Nat} {r:ReaderT} (hr:jO K r) (hK:K+sO d<=900000002):Dr (K+sO d-2) (nC (20+20*d)) (fun f=>G.aO.K1 f ((d+1:Nat):Int) (k:Int) r.b r.p):=by
  have h2:4<=sO d:=by cases d<;>simp only [sO]<;>omega
  refine Tot.up ?_
  simp only [G.aO.K1]
  refine Tot.ite (fun e => ?_) (fun e1=>Tot.ite (fun e => ?_) (fun e2=>Tot.ite (fun e => ?_) (fun e3=>Tot.ite (fun e => ?_) (fun e4 => ?_))))
  · refine Tot.bind (D.pick (m:=250) hr (by omega) rfl (by decide) (by decide)) ?_
    rintro ⟨x,r1⟩ ⟨_,hr1⟩
    refine Tot.bind (D.one hr1 (by omega) _ (by simp) (by simp)) ?_
    rintro ⟨y,r2⟩ ⟨_,hr2⟩
    exact Tot.ret ⟨⟨1,oG (by simp) rfl rfl⟩,hr2.mono (by omega)⟩
  · obtain ⟨x,r1,g,hx,hr1⟩:=T.Js hr (by omega)
    exact Tot.iy g (Tot.ret ⟨⟨1,oG (by show x.length<=_; omega) rfl rfl⟩,hr1.mono (by omega)⟩)
  · rcases hk with hk | ⟨hk,e',rfl,hrec⟩
    · have:(k:Int)=3:=by simpa using e
      omega
    · have hk3 : k = 3 := by have:(k:Int)=3:=by simpa using e
                             omega
      subst hk3
      refine Tot.bind (D.pick (m:=4) hr (by omega) rfl (by decide) (by decide)) ?_
      rintro ⟨x,r1⟩ ⟨⟨j,rfl,hj⟩,hr1⟩
      have hm:j*sO e'<=3*sO e':=Nat.mul_le_mul_right _ (by omega)
      simp only [sO] at hK h2 ⊢
      refine (D.lQ.L2 (by omega) hrec j (K+1) 0 r1 [] hr1 (by omega) (by simp; omega) (fun x h=>by cases h)).mono ?_
      rintro ⟨n,r2⟩ ⟨⟨D,hn⟩,hr2⟩
      exact ⟨⟨D,hn.mono (by omega) (Nat.le_refl _)⟩,hr2.mono (by omega)⟩
  · rcases hk with hk | ⟨hk,e',rfl,hrec⟩
    · have:(k:Int)=4:=by simpa using e
      omega
    · simp only [sO] at hK h2 ⊢
      refine Tot.bind (D.rW (Nat.sub_le _ _) (by omega) hrec hr (by omega)) ?_
      rintro ⟨n,r2⟩ ⟨⟨D,hn⟩,hr2⟩
      exact Tot.ret ⟨⟨D,hn.mono (by omega) (Nat.le_refl _)⟩,hr2.mono (by omega)⟩
  · exact Tot.ret ⟨⟨1,oG (by simp) rfl rfl⟩,hr.mono (by omega)⟩
theorem D.lQ:∀ (d:Nat),d<=10->∀ K r,jO K r->K+sO d<=900000000->Dr (K+sO d) (nC (20+20*d)) (fun f=>G.aO f r ((d+1:Nat):Int))
  | 0,hd,K,r,hr,hK=>by
    refine Tot.up ?_
    simp only [G.aO]
    refine Tot.bind (D.pick (m:=5) hr (by omega) rfl (by decide) (by decide)) ?_
    rintro ⟨x,r1⟩ ⟨_,hr1⟩
    refine Tot.ite (fun _ => ?_) (fun e=>by simp at e)
    refine Tot.bind (D.pick (m:=3) hr1 (by omega) rfl (by decide) (by decide)) ?_
    rintro ⟨y,r2⟩ ⟨⟨k,rfl,hk⟩,hr2⟩
    refine (D.lQ.K1 (d:=0) (by omega) (.inl hk) (K:=K+2) hr2 (by omega)).mono ?_
    rintro ⟨n,r3⟩ ⟨hn,hr3⟩
    exact ⟨hn,hr3.mono (by omega)⟩
  | d+1,hd,K,r,hr,hK=>by
    refine Tot.up ?_
    simp only [G.aO]
    refine Tot.bind (D.pick (m:=5) hr (by omega) rfl (by decide) (by decide)) ?_
    rintro ⟨x,r1⟩ ⟨⟨k,rfl,hk⟩,hr1⟩
    refine Tot.ite (fun e=>by simp at e; omega) (fun _ => ?_)
    refine (D.lQ.K1 (d:=d+1) (by omega) (.inr ⟨hk,d,rfl,fun K' r' hr' hK' => ?_⟩) (K:=K+1) hr1 (by omega)).mono ?_
    · have hs:sO d<=900000000:=by simp only [sO] at hK; omega
      obtain ⟨⟨n,r2⟩,g,⟨D,hn⟩,hr2⟩:=D.lQ d (by omega) K' r' hr' (by omega)
      exact ⟨n,r2,D,g,hn,hr2⟩
    · rintro ⟨n,r3⟩ ⟨hn,hr3⟩
      exact ⟨hn,hr3.mono (by omega)⟩
theorem D.node (d:Nat) (hd:d<=2) {M:Int} (hM:M=((d+1:Nat):Int)) {K:Nat} {r:ReaderT} (hr:jO K r) (hK:K<=800000000):Dr (K+300) (nC 60) (fun f=>G.aO f r M):=by
 subst hM
 have h:sO d<=284:=by
  match d,hd with
  | 0,_=>decide
  | 1,_=>decide
  | 2,_=>decide
 refine (D.lQ d (by omega) K r hr (by omega)).mono ?_
 rintro ⟨n,r'⟩ ⟨⟨D,hn⟩,hr'⟩
 exact ⟨⟨D,hn.mono (by omega) (Nat.le_refl _)⟩,hr'.mono (by omega)⟩
theorem D.O4 {K:Nat} {r:ReaderT} (hr:jO K r) (hK:K<=800000000):Dr (K+300) (nC 60) (fun f=>G.dh f r 3):=by
 have h1:sO 1=44:=by decide
 refine (D.rW (d:=1) (M:=800001000) (by omega) (by decide) (fun K' r' hr' hK' => ?_) hr (by omega)).mono ?_
 ·obtain ⟨⟨n,r2⟩,g,⟨D,hn⟩,hr2⟩:=D.lQ 1 (by omega) K' r' hr' (by omega)
  exact ⟨n,r2,D,g,hn,hr2⟩
 ·rintro ⟨n,r'⟩ ⟨⟨D,hn⟩,hr'⟩
  exact ⟨⟨D,hn.mono (by omega) (Nat.le_refl _)⟩,hr'.mono (by omega)⟩
theorem l7:60<=lim:=by decide
theorem vZ:Val rD=true:=by decide
theorem D.pF.K1 {K:Nat} {r:ReaderT} {n:af} (hr:jO K r) (hn:nC 60 n):Dr K (fun x=>Val x=true) (fun f=>G.dK.K1 f r.b r.p n.Kind n.Num n.Text n.Names n.Kids):=by
 obtain ⟨D,hn⟩:=hn
 refine Tot.up ?_
 simp only [G.dK.K1,af.eta]
 refine Tot.iy (T.aT l7 hn) (Tot.ite (fun e=>Tot.ret ⟨e,hr⟩) (fun _=>Tot.ret ⟨vZ,hr⟩))
theorem D.pF {K:Nat} {r:ReaderT} (hr:jO K r) (hK:K<=700000000):Dr (K+601) (fun x=>Val x=true) (fun f=>G.dK f r):=by
 refine Tot.up ?_
 simp only [G.dK]
 refine Tot.bind (D.node 2 (by decide) rfl hr (by omega)) ?_
 rintro ⟨n,r1⟩ ⟨hn,hr1⟩
 refine Tot.bind (D.pick (m:=3) hr1 (by omega) rfl (by decide) (by decide)) ?_
 rintro ⟨x,r2⟩ ⟨_,hr2⟩
 refine Tot.ite (fun _ => ?_) (fun _ => ?_)
 ·refine Tot.bind (D.O4 hr2 (by omega)) ?_
  rintro ⟨m,r3⟩ ⟨hm,hr3⟩
  exact (D.pF.K1 hr3 hm).mono (fun x h=>⟨h.1,h.2.mono (by omega)⟩)
 ·exact (D.pF.K1 hr2 hn).mono (fun x h=>⟨h.1,h.2.mono (by omega)⟩)
theorem D.Ak.L1 {v:af × ReaderT} (hv:Val v.1=true):∀ (k i K:Nat) (r:ReaderT) (z:List af),i+k=7->jO K r->K+k+1<=900000000->z.length=i->(∀ x,x∈z->Fine 14 5 x) ->
    Dr (K+k+1) (nC 14) (fun f=>G.gZ.L1 f v (i:Int) r.b r.p z):=by
  intro k
  induction k with
  | zero =>
    intro i K r z hi hr hK hz hf
    refine Tot.up ?_
    simp only [G.gZ.L1]
    refine Tot.bind (D.pick (m:=2) hr (by omega) rfl (by decide) (by decide)) ?_
    rintro ⟨x,r1⟩ ⟨⟨q,rfl,hq⟩,hr1⟩
    have w:IntKind.wrap .i64 (6+((q:Nat):Int))=((6+q:Nat):Int):=wrapN (by omega) (by omega)
    simp only [w]
    refine Tot.ite (fun e=>by simp at e; omega) (fun _=>Tot.ret ⟨⟨6,rU (by decide) (by omega) hf⟩,hr1⟩)
  | succ k ih =>
    intro i K r z hi hr hK hz hf
    refine Tot.up ?_
    simp only [G.gZ.L1,bu (show i+1<9223372036854775808 by omega)]
    refine Tot.bind (D.pick (m:=2) hr (by omega) rfl (by decide) (by decide)) ?_
    rintro ⟨x,r1⟩ ⟨_,hr1⟩
    refine Tot.ite (fun _ => ?_) (fun _=>Tot.ret ⟨⟨6,rU (by decide) (by omega) hf⟩,hr1.mono (by omega)⟩)
    refine Tot.iy (T.ay CV (mD hv)) (Tot.chk (by omega) ?_)
    refine (ih (i+1) (K+1) r1 (z++[v.1]) (by omega) hr1 (by omega) (by simp; omega) (fun x hx => ?_)).mono (fun x h=>⟨h.1,h.2.mono (by omega)⟩)
    rcases List.mem_append.1 hx with h | h
    · exact hf x h
    · simp only [List.mem_singleton] at h; subst h; exact (mD hv).mono (by omega) (Nat.le_refl _)
theorem D.Ak {K:Nat} {r:ReaderT} (hr:jO K r) (hK:K<=600000000):Dr (K+620) (nC 14) (fun f=>G.gZ f r):=by
 refine Tot.up ?_
 simp only [G.gZ]
 refine Tot.bind (D.pF hr (by omega)) ?_
 rintro ⟨n,r1⟩ ⟨hn,hr1⟩
 replace hn:Val n=true:=hn
 have hf:=mD hn
 obtain ⟨f1,f2,f3,f4,f5,f6⟩:=hf
 have hks:∀ k,k∈n.Kids->Fine 14 4 k:=fun k hk=>(f6 k hk).mono (by omega) (Nat.le_refl _)
 have hns:∀ s,s∈n.Names->s.length<=14:=fun s hs=>Nat.le_trans (f3 s hs) (by omega)
 refine Tot.bind (D.pick (m:=40) hr1 (by omega) rfl (by decide) (by decide)) ?_
 rintro ⟨x,r2⟩ ⟨_,hr2⟩
 refine Tot.ite (fun _ => ?_) (fun _=>Tot.ite (fun _ => ?_) (fun _=>Tot.ite (fun _ => ?_) (fun _=>Tot.ite (fun _ => ?_) (fun _=>Tot.ite (fun _ => ?_) (fun _=>Tot.ite (fun _ => ?_) (fun _ => ?_))))))
 ·refine Tot.bind (D.one hr2 (by omega) _ (by decide) (by decide)) ?_
  rintro ⟨y,r3⟩ ⟨hy,hr3⟩
  refine Tot.ret ⟨⟨5,by show n.Text.length<=14; omega,by show n.Names.length<=14; omega,hns,by show n.Kids.length<=14; omega,fun e => ?_,hks⟩,hr3.mono (by omega)⟩
  have e:y=4:=e
  subst e
  simp at hy
 ·refine Tot.bind (D.one hr2 (by omega) _ (by decide) (by decide)) ?_
  rintro ⟨y,r3⟩ ⟨hy,hr3⟩
  exact Tot.ret ⟨⟨5,by show n.Text.length<=14; omega,by show n.Names.length<=14; omega,hns,by show n.Kids.length<=14; omega,f5,hks⟩,hr3.mono (by omega)⟩
 ·exact Tot.ret ⟨⟨5,by simp,by show n.Names.length<=14; omega,hns,by show n.Kids.length<=14; omega,f5,hks⟩,hr2.mono (by omega)⟩
 ·refine Tot.chk (by simp only; omega) (Tot.ret ⟨⟨5,by show n.Text.length<=14; omega,by show (n.Names++[[]]).length<=14; simp; omega,fun s hs => ?_,by show n.Kids.length<=14; omega,fun e => ?_,hks⟩,hr2.mono (by omega)⟩)
  ·rcases List.mem_append.1 hs with h | h
   ·exact hns s h
   ·simp only [List.mem_singleton] at h; subst h; simp
  ·have:=f5 e
   show n.Kids.length<=(n.Names++[[]]).length
   simp; omega
 ·have h0:Fine 14 5 n:=(mD hn).mono (by omega) (Nat.le_refl _)
  have up:∀ {D m},Fine 14 D m->Fine 14 (D+1) (af.mk 3 0 [] [] [m]):=fun hm=>rU (by decide) (by simp) (fun x hx=>by simp only [List.mem_singleton] at hx; subst hx; exact hm)
  exact Tot.ret ⟨⟨9,up (up (up (up h0)))⟩,hr2.mono (by omega)⟩
 ·exact (D.Ak.L1 (v:=(n,r1)) hn 7 0 (K+601+1) r2 [] (by omega) hr2 (by omega) rfl (fun x h=>by cases h)).mono (fun x h=>⟨h.1,h.2.mono (by omega)⟩)
 ·exact Tot.ret ⟨⟨5,(mD hn).mono (by omega) (Nat.le_refl _)⟩,hr2.mono (by omega)⟩
end Go.Ab
end
section
namespace Go.Ab
open Go
theorem D.wX.L1:∀ (j K:Nat) (r:ReaderT) (z:List aA),jO K r->K+j+2<=900000000->z.length+j<=6->(∀ s,s∈z->s.length<=13) ->
    Dr (K+j+2) (ji 13) (fun f=>G.gQ.L1 f (j:Int) r.b r.p z):=by
  intro j
  induction j with
  | zero =>
    intro K r z hr hK hz hs
    refine Tot.up ?_
    simp only [G.gQ.L1]
    refine Tot.ite (fun e=>by simp at e) (fun _=>Tot.ite (fun e => ?_) (fun _=>Tot.ret ⟨⟨by show z.length<=13; omega,hs⟩,hr.mono (by omega)⟩))
    refine Tot.bind (D.pick (m:=20) hr (by omega) rfl (by decide) (by decide)) ?_
    rintro ⟨x,r1⟩ ⟨_,hr1⟩
    refine Tot.ite (fun _ => ?_) (fun _=>Tot.ret ⟨⟨by show z.length<=13; omega,hs⟩,hr1.mono (by omega)⟩)
    refine Tot.bind (D.of (m:=13) hr1 (by omega) _ (by decide) (by decide) (by decide)) ?_
    rintro ⟨y,r2⟩ ⟨hy,hr2⟩
    refine Tot.chk (by simp at e; omega) (Tot.ret ⟨⟨by show (z.set 0 y).length<=13; simp; omega,fun s h => ?_⟩,hr2.mono (by omega)⟩)
    rcases List.mem_or_eq_of_mem_set h with h | rfl
    · exact hs s h
    · exact hy
  | succ j ih =>
    intro K r z hr hK hz hs
    have w2:IntKind.wrap .i64 (((j+1:Nat):Int)-1)=(j:Int):=wrapN (by omega) (by omega)
    refine Tot.up ?_
    simp only [G.gQ.L1,w2]
    refine Tot.ite (fun _ => ?_) (fun e=>by simp at e)
    refine Tot.bind (D.of (m:=13) hr (by omega) _ (by decide) (by decide) (by decide)) ?_
    rintro ⟨y,r1⟩ ⟨hy,hr1⟩
    refine Tot.chk (by omega) ?_
    refine (ih (K+1) r1 (z++[y]) hr1 (by omega) (by simp; omega) (fun s h => ?_)).mono (fun x h=>⟨h.1,h.2.mono (by omega)⟩)
    rcases List.mem_append.1 h with h | h
    · exact hs s h
    · simp only [List.mem_singleton] at h; subst h; exact hy
theorem D.wX {K:Nat} {r:ReaderT} (hr:jO K r) (hK:K<=800000000):Dr (K+9) (ji 13) (fun f=>G.gQ f r):=by
 refine Tot.up ?_
 simp only [G.gQ]
 refine Tot.bind (D.one hr (by omega) [1,2,1,0,3,5,6] (by decide) (by decide)) ?_
 rintro ⟨x,r'⟩ ⟨hx,hr'⟩
 obtain ⟨j,rfl,hj⟩:∃ j:Nat,x=(j:Int)/\j<=6:=⟨x.toNat,by simp at hx; omega⟩
 exact (D.wX.L1 j (K+1) r' [] hr' (by omega) (by simp; omega) (fun s h=>by cases h)).mono (fun x h=>⟨h.1,h.2.mono (by omega)⟩)
def JS (m d:Nat) (l:List (List aA)):Prop:=l.length<=m/\∀ p,p∈l->p.length<=d/\∀ s,s∈p->s.length<=12
theorem KE {m d k:Nat} {l:List (List aA)} {s:aA} {p:List aA} (h:JS (m+k) (d+1) l) (hl:l.length<m+k) (hs:s.length<=12) (hp:p.length<=d/\∀ s,s∈p->s.length<=12):JS (m+k) (d+1) (l++[[s]++p]):=by
 refine ⟨by simp; omega,fun q hq => ?_⟩
 rcases List.mem_append.1 hq with h' | h'
 ·exact h.2 q h'
 ·simp only [List.mem_singleton] at h'
  subst h'
  refine ⟨by simp; omega,fun t ht => ?_⟩
  rcases List.mem_append.1 ht with h' | h'
  ·simp only [List.mem_singleton] at h'; subst h'; exact hs
  ·exact hp.2 t h'
theorem D.all.L7 {n:af} {i M d:Nat} {s:aA} {v:List (List aA)} {Q:List (List aA)->Prop} (hv:JS M d v) (hM:M<=20000) (hd:d<=5) (hs:s.length<=12) (C:Nat) (hC:C<=900000)
    (next:∀ z,JS (C+M) (d+1) z->Tot Q (fun f=>G.fQ.L5 f n (IntKind.wrap .i64 ((i:Int)+1)) z)) :
    ∀ (k j:Nat) (z:List (List aA)),j+k=v.length->JS (C+j) (d+1) z->Tot Q (fun f=>G.fQ.L7 f n (i:Int) s v (j:Int) z):=by
  have hl:=hv.1
  intro k
  induction k with
  | zero =>
    intro j z hj hz
    refine Tot.up ?_
    simp only [G.fQ.L7]
    refine Tot.ite (fun e=>by simp at e; omega) (fun _=>next z ⟨by have:=hz.1; omega,hz.2⟩)
  | succ k ih =>
    intro j z hj hz
    have PK:j<v.length:=by omega
    have hp:=hv.2 _ (List.getElem_mem PK)
    have hz1:=hz.1
    refine Tot.up ?_
    simp only [G.fQ.L7,Int.toNat_natCast,bu (show j+1<9223372036854775808 by omega),dI _ PK]
    refine Tot.ite (fun _ => ?_) (fun e=>by simp at e; omega)
    refine Tot.chk (by omega) (Tot.chk (by omega) (Tot.chk (by omega) ?_))
    refine ih (j+1) _ (by omega) ?_
    exact KE (m:=C) (k:=j+1) ⟨by omega,hz.2⟩ (by omega) hs hp
theorem D.all:∀ (d:Nat) {n:af},d<=5->Shape d n=true->Tot (JS (7^d) d) (fun f=>G.fQ f n)
  | 0,_,_,h=>by cases h
  | d+1,n,hd,h=>by
    have hk:=nK h
    have hf:=tZ h
    have h7:=rE (show d<=5 by omega)
    have hns:∀ i,i<n.Names.length->(n.Names.getD i default).length<=12:=fun i hi=>by
      rw [dI _ hi]; exact hf.2.2.1 _ (List.getElem_mem hi)
    have L5:∀ (k i:Nat) (z:List (List aA)),i+k=n.Kids.length->JS (1+i*7^d) (d+1) z->Tot (JS (7^(d+1)) (d+1)) (fun f=>G.fQ.L5 f n (i:Int) z):=by
      intro k
      induction k with
      | zero =>
        intro i z hi hz
        have hm:i*7^d<=6*7^d:=Nat.mul_le_mul_right _ (by omega)
        have h1:0<7^d:=Nat.pow_pos (by omega)
        refine Tot.up ?_
        simp only [G.fQ.L5]
        refine Tot.ite (fun e=>by simp at e; omega) (fun _=>Tot.ret ⟨?_,hz.2⟩)
        have:=hz.1
        rw [Nat.pow_succ]; omega
      | succ k ih =>
        intro i z hi hz
        have hm:i*7^d<=6*7^d:=Nat.mul_le_mul_right _ (by omega)
        have K6:∀ s:aA,s.length<=12->Tot (JS (7^(d+1)) (d+1)) (fun f=>G.fQ.K6 f n (i:Int) z s):=fun s hs=>by
          refine Tot.up ?_
          simp only [G.fQ.K6,Int.toNat_natCast]
          refine Tot.chk (by omega) (Tot.bind (D.all d (by omega) (pz h (j:=i) (by omega))) ?_)
          intro v hv
          refine D.all.L7 hv (by omega) (by omega) hs (1+i*7^d) (by omega) (fun z' hz' => ?_) v.length 0 z (by omega) hz
          rw [bu (by omega)]
          exact ih (i+1) z' (by omega) ⟨by have:=hz'.1; rw [Nat.add_mul]; omega,hz'.2⟩
        refine Tot.up ?_
        simp only [G.fQ.L5,Int.toNat_natCast]
        refine Tot.ite (fun _ => ?_) (fun e=>by simp at e; omega)
        refine Tot.iy (T.decimal (i:=i) (by unfold lim; omega)) (Tot.ite (fun e => ?_) (fun _ => ?_))
        · have h4:n.Kind=4:=by simpa using e
          have hnl:=nV h h4
          exact Tot.chk (by omega) (K6 _ (hns i (by omega)))
        · exact K6 _ (by unfold kT; rw [if_pos (by omega)]; simp)
    refine Tot.up ?_
    simp only [G.fQ]
    exact L5 n.Kids.length 0 [[]] (by omega) ⟨by simp,fun p hp=>by simp only [List.mem_singleton] at hp; subst hp; exact ⟨by simp,fun s hs=>by cases hs⟩⟩
theorem D.Hq {B E:Nat} {n:af} (hB:B<=lim) (h:Fine B E n):Tot (JS (7^5) 5) (fun f=>G.jH f n):=by
 refine Tot.up ?_
 simp only [G.jH]
 refine Tot.iy (T.aT hB h) (Tot.ite (fun e => ?_) (fun _=>Tot.ret ⟨by simp,fun p hp=>by cases hp⟩))
 exact Tot.bind (D.all 5 (by omega) (jP e)) (fun v hv=>Tot.ret hv)
theorem D.pathIn {K B E:Nat} {r:ReaderT} {n:af} (hB:B<=lim) (h:Fine B E n) (hr:jO K r) (hK:K<=700000000):Dr (K+10) (ji 13) (fun f=>G.jS f r n):=by
 refine Tot.up ?_
 simp only [G.jS]
 refine Tot.bind (D.Hq hB h) ?_
 intro l hl
 have h7:(7:Nat)^5=16807:=by decide
 have hl1:=hl.1
 refine Tot.ite (fun e => ?_) (fun _ => ?_)
 ·have hl0:0<l.length:=by simpa using e
  refine Tot.bind (D.pick (m:=4) hr (by omega) rfl (by decide) (by decide)) ?_
  rintro ⟨x,r1⟩ ⟨_,hr1⟩
  refine Tot.ite (fun _ => ?_) (fun _ => ?_)
  ·refine Tot.bind (D.pick (m:=l.length) hr1 (by omega) rfl hl0 (by omega)) ?_
   rintro ⟨y,r2⟩ ⟨⟨q,rfl,hq⟩,hr2⟩
   have hp:=hl.2 _ (List.getElem_mem hq)
   refine Tot.chk (by simp only; omega) (Tot.ret ⟨?_,hr2.mono (by omega)⟩)
   simp only [Int.toNat_natCast,dI _ hq]
   exact ⟨by omega,fun s hs=>Nat.le_trans (hp.2 s hs) (by omega)⟩
  ·exact Tot.bind (D.wX hr1 (by omega)) (fun x h=>Tot.ret ⟨h.1,h.2.mono (by omega)⟩)
 ·exact Tot.bind (D.wX hr (by omega)) (fun x h=>Tot.ret ⟨h.1,h.2.mono (by omega)⟩)
end Go.Ab
end
section
namespace Go.Ab
open Go
abbrev pR (o:iI):Prop:=∃ E,zo 60 E o
theorem ji.mono {B C:Nat} {p:List aA} (h:ji B p) (hB:B<=C):ji C p:=⟨Nat.le_trans h.1 hB,fun s hs=>Nat.le_trans (h.2 s hs) hB⟩
theorem rQ:ji 13 []:=⟨by simp,fun s h=>by cases h⟩
theorem AP:Fine 60 1 (af.mk 0 0 [] [] []):=oG (by simp) rfl rfl
section
variable {v1:Int × ReaderT} {v2:List aA × ReaderT} {K:Nat} {r:ReaderT} {fr:List aA} {m:af}
theorem D.someOp.K4 (hp:ji 13 v2.1) (hf:ji 13 fr) (hm:nC 60 m) (hr:jO K r) (hK:K<=900000000) (t:Bool) (ht:t=true->v2.1.length<4) :
  Dr (K+1) pR (fun f=>G.aZ.K4 f v1 v2 fr m.Kind m.Num m.Text m.Names m.Kids t r.b r.p):=by
 obtain ⟨E,hm⟩:=hm
 have hl:=hp.1
 refine Tot.up ?_
 simp only [G.aZ.K4,af.eta]
 refine Tot.ite (fun e => ?_) (fun _=>Tot.ret ⟨⟨E,hp.mono (by omega),hf.mono (by omega),hm⟩,hr.mono (by omega)⟩)
 have h4:=ht e
 refine Tot.chk (by omega) (Tot.bind (D.of (m:=13) hr (by omega) _ (by decide) (by decide) (by decide)) ?_)
 rintro ⟨y,r1⟩ ⟨hy,hr1⟩
 refine Tot.chk (by omega) (Tot.ret ⟨⟨E,⟨by show (v2.1++[y]).length<=60; simp; omega,fun s hs => ?_⟩,hf.mono (by omega),hm⟩,hr1⟩)
 rcases List.mem_append.1 hs with h | h
 ·exact Nat.le_trans (hp.2 s h) (by omega)
 ·simp only [List.mem_singleton] at h; subst h; exact Nat.le_trans hy (by omega)
theorem D.someOp.K3 (hp:ji 13 v2.1) (hf:ji 13 fr) (hm:nC 60 m) (hr:jO K r) (hK:K<=800000000) :
  Dr (K+2) pR (fun f=>G.aZ.K3 f v1 v2 r.b r.p fr m.Kind m.Num m.Text m.Names m.Kids):=by
 refine Tot.up ?_
 simp only [G.aZ.K3]
 have go:∀ {g:Nat->Option (iI × ReaderT)},v2.1.length<4->Dr (K+2) pR (fun f=>Option.bind (G.aj f r 2) fun v=>G.aZ.K4 f v1 v2 fr m.Kind m.Num m.Text m.Names m.Kids (v.1==0) v.2.b v.2.p):=fun {g} h4=>by
  refine Tot.bind (D.pick (m:=2) hr (by omega) rfl (by decide) (by decide)) ?_
  rintro ⟨x,r1⟩ ⟨_,hr1⟩
  exact D.someOp.K4 hp hf hm hr1 (by omega) _ (fun _=>h4)
 have no:Dr (K+2) pR (fun f=>G.aZ.K4 f v1 v2 fr m.Kind m.Num m.Text m.Names m.Kids false r.b r.p) :=
  (D.someOp.K4 hp hf hm hr (by omega) false (fun h=>by cases h)).mono (fun x h=>⟨h.1,h.2.mono (by omega)⟩)
 refine Tot.ite (fun e => ?_) (fun _=>no)
 have h4:v2.1.length<4:=by simp at e; omega
 exact Tot.ite (fun _=>go (g:=fun _=>none) h4) (fun _=>Tot.ite (fun _=>go (g:=fun _=>none) h4) (fun _=>Tot.ite (fun _=>go (g:=fun _=>none) h4) (fun _=>no)))
theorem D.someOp.K6 {B E:Nat} {n:af} (hB:B<=lim) (hn:Fine B E n) (hp:ji 13 v2.1) (hr:jO K v2.2) (hK:K<=700000000) (t:Bool) :
  Dr (K+12) pR (fun f=>G.aZ.K6 f n v1 v2 t):=by
 refine Tot.up ?_
 simp only [G.aZ.K6]
 refine Tot.ite (fun _ => ?_) (fun _=>(D.someOp.K3 (m:=af.mk 0 0 [] [] []) hp rQ ⟨1,AP⟩ hr (by omega)).mono (fun x h=>⟨h.1,h.2.mono (by omega)⟩))
 refine Tot.bind (D.pathIn hB hn hr (by omega)) ?_
 rintro ⟨p,r1⟩ ⟨hq,hr1⟩
 exact D.someOp.K3 (m:=af.mk 0 0 [] [] []) hp hq ⟨1,AP⟩ hr1 (by omega)
theorem D.someOp.K5 {E:Nat} {n:af} (hn:Fine 60 E n) (hp:ji 13 v2.1) (hr:jO K v2.2) (hK:K<=700000000) (t:Bool) :
    Dr (K+302) pR (fun f=>G.aZ.K5 f n v1 v2 t):=by
  refine Tot.up ?_
  simp only [G.aZ.K5]
  have no:∀ {r K'},jO K' r->K'<=K+1->Dr (K+302) pR (fun f=>G.aZ.K3 f v1 v2 r.b r.p [] 0 0 [] [] []):=fun {r K'} h h' =>
    (D.someOp.K3 (m:=af.mk 0 0 [] [] []) hp rQ ⟨1,AP⟩ h (by omega)).mono (fun x h=>⟨h.1,h.2.mono (by omega)⟩)
  refine Tot.ite (fun _ => ?_) (fun _=>Tot.ite (fun _ => ?_) (fun _ => ?_))
  · refine Tot.bind (D.node 1 (by decide) rfl hr (by omega)) ?_
    rintro ⟨m,r1⟩ ⟨hm,hr1⟩
    exact D.someOp.K3 hp rQ hm hr1 (by omega)
  · refine Tot.iy (T.jD v2.1 l7 (by have:=hp.1; unfold big; omega) hn) ?_
    cases ha:Mc n v2.1 with
    | none=>exact no hr (by omega)
    | some t =>
      refine Tot.bind (D.pick (m:=3) hr (by omega) rfl (by decide) (by decide)) ?_
      rintro ⟨x,r1⟩ ⟨_,hr1⟩
      refine Tot.ite (fun _ => ?_) (fun _=>no hr1 (by omega))
      exact (D.someOp.K3 hp rQ ⟨E,ES _ hn ha⟩ hr1 (by omega)).mono (fun x h=>⟨h.1,h.2.mono (by omega)⟩)
  · refine Tot.ite (fun _ => ?_) (fun _ => ?_)
    · exact (D.someOp.K6 l7 hn hp hr hK true).mono (fun x h=>⟨h.1,h.2.mono (by omega)⟩)
    · exact (D.someOp.K6 l7 hn hp hr hK _).mono (fun x h=>⟨h.1,h.2.mono (by omega)⟩)
end
theorem D.someOp {K E:Nat} {r:ReaderT} {n:af} (hn:Fine 60 E n) (hr:jO K r) (hK:K<=600000000):Dr (K+320) pR (fun f=>G.aZ f r n):=by
 refine Tot.up ?_
 simp only [G.aZ]
 refine Tot.bind (D.pick (m:=6) hr (by omega) rfl (by decide) (by decide)) ?_
 rintro ⟨x,r1⟩ ⟨_,hr1⟩
 refine Tot.bind (D.pathIn l7 hn hr1 (by omega)) ?_
 rintro ⟨p,r2⟩ ⟨hp,hr2⟩
 exact Tot.ite (fun _=>(D.someOp.K5 (v2:=(p,r2)) hn hp hr2 (by omega) true).mono (fun x h=>⟨h.1,h.2.mono (by omega)⟩)) (fun _=>(D.someOp.K5 (v2:=(p,r2)) hn hp hr2 (by omega) _).mono (fun x h=>⟨h.1,h.2.mono (by omega)⟩))
def Bytes (l:List Int):Prop:=∀ z,z∈l->0<=z/\z<256
theorem D.zU {c:List Int} (hc:Bytes c) (hl:c.length<=1048576):Tot (jO 0) (fun f=>G.iV f c):=by
 refine Tot.up ?_
 simp only [G.iV]
 refine Tot.ite (fun e => ?_) (fun e => ?_)
 ·have h:2000<c.length:=by simp at e; omega
  exact Tot.chk (by omega) (Tot.ret ⟨by show (c.take 2000).length<=2000; simp; omega,fun z hz=>hc z (List.mem_of_mem_take hz),Int.le_refl _,Int.le_refl _⟩)
 ·have h:c.length<=2000:=by simp at e; omega
  exact Tot.ret ⟨h,hc,Int.le_refl _,Int.le_refl _⟩
structure NO (n:af) (o:iI):Prop where
 node:∃ E,Fine 60 E n
 op:∃ E,zo 60 E o
theorem T.bU.L1 {a b:List aA} (hl:a.length=b.length) (hb:a.length<big):∀ (k i:Nat),i+k=a.length->Ev (fun f=>G.bU.L1 f a b i) (decide (a.drop i=b.drop i)):=by
  unfold big at hb
  intro k
  induction k with
  | zero =>
    intro i hi
    refine Ev.up ?_
    simp only [G.bU.L1]
    refine Ev.cf (by simp; omega) (Ev.ret' ?_)
    rw [List.drop_of_length_le (by omega),List.drop_of_length_le (by omega)]
    simp
  | succ k ih =>
    intro i hi
    refine Ev.up ?_
    simp only [G.bU.L1,Int.toNat_natCast,bu (show i+1<9223372036854775808 by omega)]
    refine Ev.ct (by simp; omega) (Ev.chk (by omega) (Ev.chk (by omega) ?_))
    rw [aY (default:aA) (by omega:i<a.length),aY (default:aA) (by omega:i<b.length)]
    refine Ev.ite (fun e=>(ih (i+1) (by omega)).eq ?_) (fun e=>Ev.ret' ?_)
    · have e:a.getD i default=b.getD i default:=by simpa using e
      rw [e]; simp
    · have e:a.getD i default ≠ b.getD i default:=by simpa using e
      symm
      exact decide_eq_false (fun h=>e (List.cons.inj h).1)
theorem T.bU {a b:List aA} (hb:a.length<big):Ev (fun f=>G.bU f a b) (decide (a=b)):=by
 refine Ev.up ?_
 simp only [G.bU]
 refine Ev.ite (fun e=>Ev.ret' ?_) (fun e => ?_)
 ·have e:a.length ≠ b.length:=fun h=>by rw [h] at e; simp at e
  symm
  exact decide_eq_false (fun h=>e (by rw [h]))
 ·have e:((a.length:Nat):Int)=((b.length:Nat):Int):=by simpa using e
  exact T.bU.L1 (by omega) hb a.length 0 (by omega)
open Classical in
theorem T.eu.L1 {a b:List af} (hl:a.length=b.length) (hb:a.length<big) (hs:∀ x y,x∈a->y∈b->Ev (fun f=>G.fG f x y) (decide (x=y))) :
    ∀ (k i:Nat),i+k=a.length->Ev (fun f=>G.eu.L1 f a b i) (decide (a.drop i=b.drop i)):=by
  unfold big at hb
  intro k
  induction k with
  | zero =>
    intro i hi
    refine Ev.up ?_
    simp only [G.eu.L1]
    refine Ev.cf (by simp; omega) (Ev.ret' ?_)
    rw [List.drop_of_length_le (by omega),List.drop_of_length_le (by omega)]
    simp
  | succ k ih =>
    intro i hi
    refine Ev.up ?_
    simp only [G.eu.L1,Int.toNat_natCast,bu (show i+1<9223372036854775808 by omega)]
    refine Ev.ct (by simp; omega) (Ev.chk (by omega) (Ev.chk (by omega) ?_))
    have ha:a.getD i default∈a:=by rw [dI _ (by omega:i<a.length)]; exact List.getElem_mem _
    have hb':b.getD i default∈b:=by rw [dI _ (by omega:i<b.length)]; exact List.getElem_mem _
    refine Ev.bind (hs _ _ ha hb') ?_
    rw [aY (default:af) (by omega:i<a.length),aY (default:af) (by omega:i<b.length)]
    refine Ev.ite (fun e=>(ih (i+1) (by omega)).eq ?_) (fun e=>Ev.ret' ?_)
    · have e:a.getD i default=b.getD i default:=by simpa using e
      rw [e]; simp
    · have e:a.getD i default ≠ b.getD i default:=by simpa using e
      symm
      exact decide_eq_false (fun h=>e (List.cons.inj h).1)
open Classical in
theorem T.fG {B C:Nat} (hB:B<=lim) (hC:C<=lim):∀ {D E:Nat} {a b:af},Fine B D a->Fine C E b->Ev (fun f=>G.fG f a b) (decide (a=b))
  | 0,_,_,_,h,_=>h.elim
  | _+1,0,_,_,_,h=>h.elim
  | D+1,E+1,a,b,ha,hb=>by
    have hka:=ha.kids
    have hna:=ha.names
    have hl:lim<big:=by decide
    refine Ev.up ?_
    simp only [G.fG]
    by_cases h1:a.Kind=b.Kind
    · refine Ev.ct (by simpa using h1) ?_
      by_cases h2:a.Num=b.Num
      · refine Ev.ct (by simpa using h2) ?_
        by_cases h3:a.Text=b.Text
        · refine Ev.ct (by simpa using h3) (Ev.bind (T.bU (by omega)) ?_)
          by_cases h4:a.Names=b.Names
          · refine Ev.ct (by simpa using h4) ?_
            by_cases h5:a.Kids.length=b.Kids.length
            · have hk:Ev (fun f=>G.eu f a.Kids b.Kids) (decide (a.Kids=b.Kids)):=by
                refine Ev.up ?_
                simp only [G.eu]
                refine Ev.cf (by rw [h5]; simp) ?_
                exact T.eu.L1 h5 (by omega) (fun x y hx hy=>T.fG hB hC (ha.2.2.2.2.2 x hx) (hb.2.2.2.2.2 y hy)) a.Kids.length 0 (by omega)
              refine Ev.bind hk (Ev.ret' ?_)
              apply decide_eq_decide.2
              constructor
              · intro h
                cases a; cases b
                simp only at h h1 h2 h3 h4
                rw [h,h1,h2,h3,h4]
              · intro h; rw [h]
            · have hk:Ev (fun f=>G.eu f a.Kids b.Kids) false:=by
                refine Ev.up ?_
                simp only [G.eu]
                exact Ev.ct (by simp; omega) (Ev.ret _)
              exact Ev.bind hk (Ev.ret' (decide_eq_false (fun h=>h5 (by rw [h]))).symm)
          · exact Ev.cf (by simpa using h4) (Ev.ret' (decide_eq_false (fun h=>h4 (by rw [h]))).symm)
        · exact Ev.cf (by simpa using h3) (Ev.ret' (decide_eq_false (fun h=>h3 (by rw [h]))).symm)
      · exact Ev.cf (by simpa using h2) (Ev.ret' (decide_eq_false (fun h=>h2 (by rw [h]))).symm)
    · exact Ev.cf (by simpa using h1) (Ev.ret' (decide_eq_false (fun h=>h1 (by rw [h]))).symm)
theorem T.Ec {B D:Nat} (hB:B<=lim) {a:af} (h:Fine B D a):Ev (fun f=>G.fG f a a) true:=(T.fG hB hB h h).eq (by simp)
end Go.Ab
end
section
namespace Go.Ab
open Go
theorem NO.fine {n:af} {o:iI} (h:NO n o):∃ E,Fine 60 E n/\zo 60 E o:=by
 obtain ⟨⟨E,hn⟩,⟨F,ho⟩⟩:=h
 exact ⟨max E F,hn.mono (Nat.le_refl _) (Nat.le_max_left _ _),ho.path,ho.from_,ho.val.mono (Nat.le_refl _) (Nat.le_max_right _ _)⟩
theorem kZ {n:af} (h:Val n=true):Fine 60 5 n:=(mD h).mono (by omega) (Nat.le_refl _)
theorem NS {p:Prop} (x:p:=by
 repeat' first
 | assumption
 | exact Ev.ret _
 | refine Ev.ct rfl ?_
 | refine Ev.cf rfl ?_
 | refine Ev.bind (by assumption) ?_
 | refine Ev.ite (fun _ => ?_) (fun _ => ?_)):p:=x
theorem iI.eta (o:iI):iI.mk o.Kind o.Path o.From o.Value=o:=rfl
def o6 (l:List iI):Bool:=l.all vK&&decide (l.length<=12)
theorem Jf {l:List iI} (h:o6 l=true):(∀ o,o∈l->vK o=true)/\l.length<=12:=by
 unfold o6 at h
 simp only [Bool.and_eq_true,decide_eq_true_eq,List.all_eq_true] at h
 exact h
def oK (l:List iI):Prop:=l.length<=1000/\∀ o,o∈l->pR o
theorem Gh {l:List iI} (h:o6 l=true):oK l:=by
 obtain ⟨h1,h2⟩:=Jf h
 exact ⟨by omega,fun o ho=>⟨5,(qh (kD (h1 o ho)).path).mono (by omega),(qh (kD (h1 o ho)).from_).mono (by omega),(mD (kD (h1 o ho)).val).mono (by omega) (Nat.le_refl _)⟩⟩
theorem getD_mem {α:Type} {l:List α} {i:Nat} (d:α) (h:i<l.length):l.getD i d∈l:=by rw [dI d h]; exact List.getElem_mem h
theorem T.bP.L1 {l:List iI} (h:oK l):∀ (k i:Nat),i+k=l.length->Ev (fun f=>G.bP.L1 f l i) ((l.drop i).all vK):=by
  obtain ⟨hl,ho⟩:=h
  intro k
  induction k with
  | zero =>
    intro i hi
    refine Ev.up ?_
    simp only [G.bP.L1]
    refine Ev.cf (by simp; omega) (Ev.ret' ?_)
    rw [List.drop_of_length_le (by omega)]; rfl
  | succ k ih =>
    intro i hi
    have hlt:i<l.length:=by omega
    refine Ev.up ?_
    simp only [G.bP.L1,Int.toNat_natCast,iI.eta,bu (show i+1<9223372036854775808 by omega)]
    obtain ⟨E,hf⟩:=ho _ (getD_mem default hlt)
    refine Ev.ct (by simpa using hlt) (Ev.chk (by omega) (Ev.bind (T.jo l7 hf) ?_))
    rw [aY (default:iI) hlt,List.all_cons]
    refine Ev.ite (fun e => ?_) (fun e => ?_)
    · rw [e,Bool.true_and]; exact ih (i+1) (by omega)
    · rw [e,Bool.false_and]; exact Ev.ret _
theorem T.bP {l:List iI} (h:oK l):Ev (fun f=>G.bP f l) (o6 l):=by
 refine Ev.up ?_
 simp only [G.bP]
 have hL:=T.bP.L1 h l.length 0 (by omega)
 unfold o6
 refine Ev.ite (fun e=>Ev.ret' ?_) (fun e => ?_)
 ·have:¬ l.length<=12:=by simp at e; omega
  simp [this]
 ·have:l.length<=12:=by simp at e; omega
  simp only [this,decide_true,Bool.and_true]
  exact hL
theorem T.bY.L1 {l:List iI} (h:oK l):∀ (k i:Nat),i+k=l.length->Ev (fun f=>G.bY.L1 f l i) ((l.drop i).all vK&&decide (l.length<=12)):=by
  obtain ⟨hl,ho⟩:=h
  intro k
  induction k with
  | zero =>
    intro i hi
    refine Ev.up ?_
    simp only [G.bY.L1]
    refine Ev.cf (by simp; omega) (Ev.ret' ?_)
    rw [List.drop_of_length_le (by omega),List.all_nil,Bool.true_and]
    simp; omega
  | succ k ih =>
    intro i hi
    have hlt:i<l.length:=by omega
    refine Ev.up ?_
    simp only [G.bY.L1,Int.toNat_natCast,iI.eta,bu (show i+1<9223372036854775808 by omega)]
    obtain ⟨E,hf⟩:=ho _ (getD_mem default hlt)
    refine Ev.ct (by simpa using hlt) (Ev.chk (by omega) (Ev.bind (T.ig l7 hf) ?_))
    rw [aY (default:iI) hlt,List.all_cons]
    refine Ev.ite (fun e => ?_) (fun e => ?_)
    · rw [e,Bool.true_and]; exact ih (i+1) (by omega)
    · rw [e,Bool.false_and]; exact Ev.ret _
theorem T.bY {l:List iI} (h:oK l):Ev (fun f=>G.bY f l) (o6 l):=by
 refine Ev.up ?_
 simp only [G.bY]
 exact T.bY.L1 h l.length 0 (by omega)
end Go.Ab
end
section
namespace Go.Ab
open Go
set_option maxRecDepth 100000
theorem rP:oK []:=⟨by simp,fun o h=>by cases h⟩
end Go.Ab
end
section
namespace Go.Ab
open Go
set_option maxRecDepth 100000
theorem MX {a b:iI} (h1:a.Kind=b.Kind) (h2:a.Path=b.Path) (h3:a.From=b.From) (h4:a.Value=b.Value):a=b:=by
 cases a; cases b; simp only at h1 h2 h3 h4; rw [h1,h2,h3,h4]
theorem ji.big {B:Nat} {p:List aA} (hB:B<=1000) (h:ji B p):p.length<Ab.big:=by have:=h.1; unfold Ab.big; omega
open Classical in
theorem T.fB.L1 {a b:List iI} (hl:a.length=b.length) (ha:oK a) (hb:oK b):∀ (k i:Nat),i+k=a.length->Ev (fun f=>G.fB.L1 f a b i) (decide (a.drop i=b.drop i)):=by
  have ha1:a.length<=1000:=ha.1
  intro k
  induction k with
  | zero =>
    intro i hi
    refine Ev.up ?_
    simp only [G.fB.L1]
    refine Ev.cf (by simp; omega) (Ev.ret' ?_)
    rw [List.drop_of_length_le (by omega),List.drop_of_length_le (by omega)]
    simp
  | succ k ih =>
    intro i hi
    refine Ev.up ?_
    simp only [G.fB.L1,Int.toNat_natCast,bu (show i+1<9223372036854775808 by omega)]
    obtain ⟨E,hx⟩:=ha.2 _ (getD_mem default (by omega:i<a.length))
    obtain ⟨F,hy⟩:=hb.2 _ (getD_mem default (by omega:i<b.length))
    rw [aY (default:iI) (by omega:i<a.length),aY (default:iI) (by omega:i<b.length)]
    refine Ev.ct (by simp; omega) (Ev.chk (by omega) (Ev.chk (by omega) ?_))
    have no:a.getD i default ≠ b.getD i default->(decide (a.getD i default::a.drop (i+1)=b.getD i default::b.drop (i+1)))=false:=fun h=>decide_eq_false (fun e=>h (List.cons.inj e).1)
    by_cases h1:(a.getD i default).Kind=(b.getD i default).Kind
    · refine Ev.cf (by simpa using h1) (Ev.chk (by omega) (Ev.chk (by omega) (Ev.bind (T.bU (hx.path.big (by omega))) ?_)))
      by_cases h2:(a.getD i default).Path=(b.getD i default).Path
      · refine Ev.ct (by simpa using h2) (Ev.chk (by omega) (Ev.chk (by omega) (Ev.bind (T.bU (hx.from_.big (by omega))) ?_)))
        by_cases h3:(a.getD i default).From=(b.getD i default).From
        · refine Ev.ct (by simpa using h3) (Ev.chk (by omega) (Ev.chk (by omega) (Ev.bind (T.fG l7 l7 hx.val hy.val) ?_)))
          by_cases h4:(a.getD i default).Value=(b.getD i default).Value
          · refine Ev.ct (by simpa using h4) ((ih (i+1) (by omega)).eq ?_)
            rw [MX h1 h2 h3 h4]
            simp
          · exact Ev.cf (by simpa using h4) (Ev.ret' (no (fun e=>h4 (by rw [e]))).symm)
        · exact Ev.cf (by simpa using h3) (Ev.ret' (no (fun e=>h3 (by rw [e]))).symm)
      · exact Ev.cf (by simpa using h2) (Ev.ret' (no (fun e=>h2 (by rw [e]))).symm)
    · exact Ev.ct (by simpa using h1) (Ev.ret' (no (fun e=>h1 (by rw [e]))).symm)
open Classical in
theorem T.fB {a b:List iI} (ha:oK a) (hb:oK b):Ev (fun f=>G.fB f a b) (decide (a=b)):=by
 refine Ev.up ?_
 simp only [G.fB]
 by_cases hl:a.length=b.length
 ·exact Ev.cf (by rw [hl]; simp) (T.fB.L1 hl ha hb a.length 0 (by omega))
 ·exact Ev.ct (by simp; omega) (Ev.ret' (decide_eq_false (fun h=>hl (by rw [h]))).symm)
theorem yR {a:List iI} (ha:oK a):Ev (fun f=>G.fB f a a) true:=(T.fB ha ha).eq (by simp)
end Go.Ab
end
section
namespace Go.Ab
open Go
set_option maxRecDepth 100000
def lk (n:af) (s:aA):Option af:=(Gx n s).map fun j=>n.Kids.getD j default
structure RI (n:af):Prop where
 kind:n.Kind=4
 NK:Asc n.Names=true
 len:n.Kids.length=n.Names.length
theorem EZ {n:af} (h:Parts n=true) (hk:n.Kind=4):RI n/\n.Names.length<=6/\∀ s,s∈n.Names->s.length<=12:=by
 obtain ⟨_,_,hN,hl,hkl⟩:=nJ h hk
 exact ⟨⟨hk,Rz hN,hkl⟩,hl,fun s hs=>Be (I5 hN s hs)⟩
structure Acc (n:af) (m:Nat):Prop where
 map:RI n
 num:n.Num=0
 text:n.Text=[]
 len:n.Names.length<=m
 small:∀ s,s∈n.Names->s.length<=12
theorem Acc.eq {n:af} {m:Nat} (h:Acc n m):n=af.mk 4 0 [] n.Names n.Kids:=by
 obtain ⟨⟨h1,_,_⟩,h2,h3,_,_⟩:=h
 cases n
 simp only at h1 h2 h3
 subst h1; subst h2; subst h3; rfl
open Classical in
noncomputable def mn (F:af->af->af->Option af) (o a b:af) (s:aA):Option (Option af) :=
 match lk a s,lk b s,lk o s with
 | some x,some y,some z=>(F z x y).map some
 | some x,some y,none=>if x=y then some (some x) else none
 | some x,none,none=>some (some x)
 | none,some y,none=>some (some y)
 | some x,none,some z=>if x=z then some none else none
 | none,some y,some z=>if y=z then some none else none
 | none,none,_=>some none
end Go.Ab
end
section
namespace Go.Ab
open Go
set_option maxRecDepth 100000
theorem Ro:∀ f:Nat,(∀ n i z l,G.fQ.L5 f n i z=some l->z.length<=l.length)/\(∀ n i z s l,G.fQ.K6 f n i z s=some l->z.length<=l.length) /\
    (∀ n i s v k z l,G.fQ.L7 f n i s v k z=some l->z.length<=l.length)
  | 0=>⟨fun n i z l h=>(by simp only [G.fQ.L5,reduceCtorEq] at h),fun n i z s l h=>(by simp only [G.fQ.K6,reduceCtorEq] at h),fun n i s v k z l h=>(by simp only [G.fQ.L7,reduceCtorEq] at h)⟩
  | f+1=>by
    obtain ⟨h5,h6,h7⟩:=Ro f
    refine ⟨fun n i z l h => ?_,fun n i z s l h => ?_,fun n i s v k z l h => ?_⟩
    · simp only [G.fQ.L5] at h
      rcases zH.1 h with ⟨_,h⟩ | ⟨_,h⟩
      · obtain ⟨v,_,h⟩:=Option.bind_eq_some_iff.1 h
        rcases zH.1 h with ⟨_,h⟩ | ⟨_,h⟩
        · exact h6 _ _ _ _ _ (lF.1 h).2
        · exact h6 _ _ _ _ _ h
      · cases h; exact Nat.le_refl _
    · simp only [G.fQ.K6] at h
      obtain ⟨v,_,h⟩:=Option.bind_eq_some_iff.1 (lF.1 h).2
      exact h7 _ _ _ _ _ _ _ h
    · simp only [G.fQ.L7] at h
      rcases zH.1 h with ⟨_,h⟩ | ⟨_,h⟩
      · have:=h7 _ _ _ _ _ _ _ (lF.1 (lF.1 (lF.1 h).2).2).2
        simp at this; omega
      · exact h5 _ _ _ _ h
theorem RD {f:Nat} {n:af} {l:List (List aA)} (h:G.fQ f n=some l):0<l.length:=by
  cases f with
  | zero=>simp only [G.fQ,reduceCtorEq] at h
  | succ f =>
    simp only [G.fQ] at h
    have:=(Ro f).1 _ _ _ _ h
    simp at this; omega
theorem D.all1 {n:af} (h:Val n=true):Tot (fun l=>JS 16807 5 l/\0<l.length) (fun f=>G.fQ f n):=by
 obtain ⟨l,g,hl⟩:=D.all 5 (Nat.le_refl _) (jP h)
 obtain ⟨m,hm⟩:=g.val
 exact ⟨l,g,hl,RD hm⟩
theorem D.near.K1 {K:Nat} {r:ReaderT} {n:af} {o:Option af} (hn:Val n=true) (ho:∀ m,o=some m->nC 61 m) (hr:jO K r) :
    Dr K (fun x=>Val x=true) (fun f=>G.iD.K1 f n (qx o).2 r.b r.p (qx o).1.Kind (qx o).1.Num (qx o).1.Text (qx o).1.Names (qx o).1.Kids):=by
  refine Tot.up ?_
  simp only [G.iD.K1,af.eta,ReaderT.eta]
  have cp:=T.ay CV (mD hn)
  cases o with
  | none=>exact Tot.ite (fun e=>by cases e) (fun _=>Tot.iy cp (Tot.ret ⟨hn,hr⟩))
  | some m =>
    obtain ⟨E,hm⟩:=ho m rfl
    refine Tot.ite (fun _=>Tot.iy (T.aT (by decide:61<=lim) hm) (Tot.ite (fun e=>Tot.ret ⟨e,hr⟩) (fun _=>Tot.iy cp (Tot.ret ⟨hn,hr⟩)))) (fun e=>by cases e)
theorem D.Og {K:Nat} {r:ReaderT} {n:af} (hn:Val n=true) (hr:jO K r) (hK:K<=600000000):Dr (K+2000) (fun x=>Val x=true) (fun f=>G.iD f r n):=by
 have h12:=mD hn
 have h60:=kZ hn
 refine Tot.up ?_
 simp only [G.iD]
 refine Tot.bind (D.all1 hn) ?_
 rintro l ⟨⟨hl1,hl2⟩,hl3⟩
 refine Tot.bind (D.pick (m:=l.length) hr (by omega) rfl hl3 (by omega)) ?_
 rintro ⟨x,r1⟩ ⟨⟨w,rfl,hw⟩,hr1⟩
 have hp:=hl2 _ (getD_mem default hw)
 simp only [Int.toNat_natCast]
 have hpb:(l.getD w default).length<big:=by unfold big; have:=hp.1; omega
 refine Tot.chk (by show 0<=(w:Int)/\(w:Int)<_; omega) (Tot.iy (T.ay CV h12) (Tot.bind (D.pick (m:=5) hr1 (by omega) rfl (by decide) (by decide)) ?_))
 rintro ⟨y,r2⟩ ⟨_,hr2⟩
 have hr2':jO (K+2) r2:=hr2
 refine Tot.ite (fun _ => ?_) (fun _=>Tot.ite (fun _ => ?_) (fun _=>Tot.ite (fun _ => ?_) (fun _=>Tot.ite (fun _ => ?_) (fun _ => ?_))))
 ·refine Tot.iy (T.iO (l.getD w default) RN hpb h12) ?_
  exact (D.near.K1 hn (fun m hm=>⟨5,(mD (RF hn hm)).mono (by omega) (Nat.le_refl _)⟩) hr2').mono (fun x h=>⟨h.1,h.2.mono (by omega)⟩)
 ·have hpl:=hp.1
  refine Tot.chk (by omega) (Tot.bind (D.of (m:=1) hr2' (by omega) _ (by decide) (by decide) (by decide)) ?_)
  rintro ⟨s,r3⟩ ⟨hs,hr3⟩
  refine Tot.chk (by omega) (Tot.bind (D.node 1 (by decide) (by rfl) hr3 (by omega)) ?_)
  rintro ⟨v,r4⟩ ⟨⟨E,hv⟩,hr4⟩
  have hps:∀ t,t∈l.getD w default++[s]->t.length<=60:=fun t ht=>by
   rcases List.mem_append.1 ht with ht | ht
   ·have:=hp.2 t ht; omega
   ·rw [List.mem_singleton] at ht; subst ht; have:t.length<=1:=hs; omega
  refine Tot.iy (T.kX (l.getD w default++[s]) (by decide:60+1<lim) (by unfold big; rw [List.length_append,List.length_singleton]; omega) hps h60 hv) ?_
  exact (D.near.K1 hn (fun m hm=>⟨_,Rt h60 hv hps hm⟩) hr4).mono (fun x h=>⟨h.1,h.2.mono (by omega)⟩)
 ·refine Tot.bind (D.node 1 (by decide) (by rfl) hr2' (by omega)) ?_
  rintro ⟨v,r4⟩ ⟨⟨E,hv⟩,hr4⟩
  refine Tot.iy (T.jM l7 hv (l.getD w default) hpb h60) ?_
  exact (D.near.K1 hn (fun m hm=>⟨_,(Rj h60 hv hm).mono (by omega) (Nat.le_refl _)⟩) hr4).mono (fun x h=>⟨h.1,h.2.mono (by omega)⟩)
 ·refine Tot.bind (D.pF hr2' (by omega)) ?_
  rintro ⟨v,r4⟩ ⟨hv,hr4⟩
  exact Tot.ret ⟨hv,hr4.mono (by omega)⟩
 ·exact (D.near.K1 (o:=some n) hn (fun m hm=>by cases hm; exact ⟨5,h12.mono (by omega) (Nat.le_refl _)⟩) hr2').mono (fun x h=>⟨h.1,h.2.mono (by omega)⟩)
end Go.Ab
end
section
namespace Go.Ab
open Go
set_option maxRecDepth 100000
structure Mp (m:af):Prop where
 map:RI m
 num:m.Num=0
 text:m.Text=[]
end Go.Ab
end
section
namespace Go.Ab
open Go
set_option maxRecDepth 100000
set_option linter.unusedSectionVars false
structure QV (D c:Nat) (m:af):Prop where
 mp:Mp m
 cnt:m.Names.length<=c
 sh:∀ s,s∈m.Names->s.length<=12
 kid:∀ k,k∈m.Kids->Fine 12 D k
theorem QV.fine {D c:Nat} {m:af} (h:QV D c m) (hc:c<=12):Fine 12 (D+1) m:=by
 have h1:=h.cnt
 have h2:=h.mp.map.len
 exact ⟨by rw [h.mp.text]; simp,by omega,h.sh,by omega,fun _=>by omega,h.kid⟩
structure QW (d:Nat) (a:af):Prop where
 mp:Mp a
 sh:Shape (d+1) a=true
 len:a.Names.length<=6
 txt:∀ s,s∈a.Names->s.length<=12
theorem QW.name {d:Nat} {a:af} (h:QW d a) {i:Nat} (hi:i<a.Kids.length):(a.Names.getD i default).length<=12:=h.txt _ (getD_mem default (by rw [<- h.mp.map.len]; exact hi))
end Go.Ab
end
section
namespace Go.Ab
open Go
set_option maxRecDepth 100000
set_option linter.unusedSectionVars false
abbrev ShN (E:Nat) (n:af):Prop:=Shape E n=true\/n=rD
end Go.Ab
end
section
namespace Go.Ab
open Go
set_option maxRecDepth 100000
def E8 (b:UInt8):Bool:=(decide (97<=b.toNat)&&decide (b.toNat<=122))||(decide (48<=b.toNat)&&decide (b.toNat<=57))
def BD (s:aA):Bool:=s.all E8&&(decide (1<=s.length)&&decide (s.length<=8))
def JU (c:Int) (it:dN):Bool:=BD it.Name&&(Val it.Node&&(decide (1<=it.Version)&&decide (it.Version<=c)))
def uO (l:List dN):List aA:=l.map fun it=>it.Name
def wz (s:StoreT):Bool:=(s.Items.all (JU s.Clock)&&Asc (uO s.Items))&&(decide (s.Items.length<=10)&&(decide (0<=s.Clock)&&decide (s.Clock<=999)))
structure o5 (B:Nat) (s:StoreT):Prop where
 len:s.Items.length<=B
 tJ:∀ it,it∈s.Items->it.Name.length<=B
 KU:∀ it,it∈s.Items->nC B it.Node
theorem rV {l:List dN} : (uO l).length=l.length:=by unfold uO; rw [List.length_map]
theorem vW {l:List dN} {i:Nat} (h:i<l.length):(uO l).getD i default=(l.getD i default).Name:=by
 rw [dI _ (by rw [rV]; exact h),dI _ h]
 unfold uO
 rw [List.getElem_map]
theorem BL {l:List aA} {i:Nat} (h0:0<i) (h:i<l.length):Asc (l.drop (i-1))=(bl (l.getD (i-1) default) (l.getD i default)&&Asc (l.drop i)):=by
 rw [drop_pred h0 h,Asc,aY (default:aA) h]
theorem EG {l:List aA} {i:Nat} (h:l.length<=i):Asc (l.drop (i-1))=true:=by
 by_cases h0:l.length<=i-1
 ·rw [List.drop_of_length_le h0]; rfl
 ·rw [aY (default:aA) (by omega:i-1<l.length),List.drop_of_length_le (by omega)]; rfl
theorem T.di.L1 (s:aA) (hs:s.length<big):∀ (k i:Nat),i+k=s.length->Ev (fun f=>G.di.L1 f s i) ((s.drop i).all E8&&(decide (1<=s.length)&&decide (s.length<=8))):=by
  unfold big at hs
  intro k
  induction k with
  | zero =>
    intro i hi
    refine Ev.up ?_
    simp only [G.di.L1]
    refine Ev.cf (decide_eq_false (by omega)) (Ev.bind (T.bG _ _ _) (Ev.ret' ?_))
    rw [List.drop_of_length_le (by omega),List.all_nil,Bool.true_and]
    congr 1<;>(apply decide_eq_decide.2; omega)
  | succ k ih =>
    intro i hi
    refine Ev.up ?_
    simp only [G.di.L1,Int.toNat_natCast,rO,bu (show i+1<9223372036854775808 by omega)]
    rw [aY (0:UInt8) (by omega:i<s.length),List.all_cons]
    have e1:(decide ((97:Int)<=((s.getD i 0).toNat:Int))&&decide (((s.getD i 0).toNat:Int)<=122))=(decide (97<=(s.getD i 0).toNat)&&decide ((s.getD i 0).toNat<=122)):=by congr 1<;>(apply decide_eq_decide.2; omega)
    have e2:(decide ((48:Int)<=((s.getD i 0).toNat:Int))&&decide (((s.getD i 0).toNat:Int)<=57))=(decide (48<=(s.getD i 0).toNat)&&decide ((s.getD i 0).toNat<=57)):=by congr 1<;>(apply decide_eq_decide.2; omega)
    refine Ev.ct (decide_eq_true (by omega)) (Ev.chk (by omega) (Ev.bind (T.bG _ _ _) ?_))
    rw [e1]
    refine Ev.ite (fun h => ?_) (fun h => ?_)
    · refine (ih (i+1) (by omega)).eq ?_
      unfold E8
      rw [show (decide (97<=(s.getD i 0).toNat)&&decide ((s.getD i 0).toNat<=122))=true from h,Bool.true_or,Bool.true_and]
    · refine Ev.chk (by omega) (Ev.bind (T.bG _ _ _) ?_)
      rw [e2]
      refine Ev.ite (fun h2 => ?_) (fun h2=>Ev.ret' ?_)
      · refine (ih (i+1) (by omega)).eq ?_
        unfold E8
        rw [show (decide (48<=(s.getD i 0).toNat)&&decide ((s.getD i 0).toNat<=57))=true from h2,Bool.or_true,Bool.true_and]
      · unfold E8
        rw [show (decide (97<=(s.getD i 0).toNat)&&decide ((s.getD i 0).toNat<=122))=false from h,show (decide (48<=(s.getD i 0).toNat)&&decide ((s.getD i 0).toNat<=57))=false from h2]
        rfl
theorem T.di (s:aA) (hs:s.length<big):Ev (fun f=>G.di f s) (BD s):=by
 refine Ev.up ?_
 simp only [G.di]
 exact T.di.L1 s hs s.length 0 (by omega)
theorem T.fM.L1 (s:aA) (hs:s.length<big):∀ (k i:Nat),i+k=s.length->Ev (fun f=>G.fM.L1 f s i) ((s.drop i).all E8):=by
  unfold big at hs
  intro k
  induction k with
  | zero =>
    intro i hi
    refine Ev.up ?_
    simp only [G.fM.L1]
    refine Ev.cf (decide_eq_false (by omega)) (Ev.ret' ?_)
    rw [List.drop_of_length_le (by omega)]; rfl
  | succ k ih =>
    intro i hi
    refine Ev.up ?_
    simp only [G.fM.L1,Int.toNat_natCast,bu (show i+1<9223372036854775808 by omega)]
    rw [aY (0:UInt8) (by omega:i<s.length),List.all_cons]
    have yes:E8 (s.getD i 0)=true->Ev (fun f=>G.fM.L1 f s ((i+1:Nat):Int)) (E8 (s.getD i 0)&&(s.drop (i+1)).all E8):=fun h=>(ih (i+1) (by omega)).eq (by rw [h]; rfl)
    have no:E8 (s.getD i 0)=false->Ev (fun _=>some false) (E8 (s.getD i 0)&&(s.drop (i+1)).all E8):=fun h=>Ev.ret' (by rw [h]; rfl)
    have ok:E8 (s.getD i 0)=decide ((97<=(s.getD i 0).toNat/\(s.getD i 0).toNat<=122)\/(48<=(s.getD i 0).toNat/\(s.getD i 0).toNat<=57)):=by unfold E8; simp
    refine Ev.ct (decide_eq_true (by omega)) (Ev.chk (by omega) ?_)
    refine Ev.ite (fun h => ?_) (fun h => ?_)
    · simp only [decide_eq_true_eq] at h
      refine Ev.chk (by omega) (Ev.ite (fun h2 => ?_) (fun h2 => ?_))
      · simp only [decide_eq_true_eq] at h2
        exact no (by rw [ok]; exact decide_eq_false (by omega))
      · simp only [decide_eq_false_iff_not] at h2
        refine Ev.chk (by omega) (Ev.ite (fun h3 => ?_) (fun h3 => ?_))
        · simp only [decide_eq_true_eq] at h3
          exact no (by rw [ok]; exact decide_eq_false (by omega))
        · simp only [decide_eq_false_iff_not] at h3
          exact yes (by rw [ok]; exact decide_eq_true (by omega))
    · simp only [decide_eq_false_iff_not] at h
      refine Ev.chk (by omega) (Ev.ite (fun h2 => ?_) (fun h2 => ?_))
      · simp only [decide_eq_true_eq] at h2
        refine Ev.chk (by omega) (Ev.cf (decide_eq_false (by omega)) (Ev.chk (by omega) (Ev.ct (decide_eq_true (by omega)) ?_)))
        exact no (by rw [ok]; exact decide_eq_false (by omega))
      · simp only [decide_eq_false_iff_not] at h2
        exact yes (by rw [ok]; exact decide_eq_true (by omega))
theorem T.fM (s:aA) (hs:s.length<big):Ev (fun f=>G.fM f s) (BD s):=by
 refine Ev.up ?_
 simp only [G.fM]
 unfold BD
 refine Ev.ite (fun h=>Ev.ret' ?_) (fun h=>Ev.ite (fun h2=>Ev.ret' ?_) (fun h2 => ?_))
 ·have:s=[]:=by simpa using h
  subst this; rfl
 ·simp only [decide_eq_true_eq] at h2
  rw [decide_eq_false (show ¬ s.length<=8 by omega),Bool.and_false,Bool.and_false]
 ·simp only [decide_eq_false_iff_not] at h2
  have hne:s ≠ []:=by simpa using h
  have hl:1<=s.length:=by cases s with
   | nil=>exact absurd rfl hne
   | cons _ _=>simp
  refine (T.fM.L1 s hs s.length 0 (by omega)).eq ?_
  rw [decide_eq_true hl,decide_eq_true (show s.length<=8 by omega),List.drop_zero]
  simp
theorem o5.at_ {B:Nat} {s:StoreT} (h:o5 B s) {i:Nat} (hi:i<s.Items.length):(s.Items.getD i default).Name.length<=B/\nC B (s.Items.getD i default).Node :=
 ⟨h.tJ _ (getD_mem default hi),h.KU _ (getD_mem default hi)⟩
section
variable {B:Nat} {s:StoreT} (hB:B<=lim) (h:o5 B s)
include hB h
theorem T.bg.L1:∀ (k i:Nat),i+k=s.Items.length->Ev (fun f=>G.bg.L1 f s i) (((s.Items.drop i).all (JU s.Clock)&&Asc ((uO s.Items).drop (i-1)))&&(decide (s.Items.length<=10)&&(decide (0<=s.Clock)&&decide (s.Clock<=999)))):=by
  have hl:=h.len
  unfold lim at hB
  intro k
  induction k with
  | zero =>
    intro i hi
    refine Ev.up ?_
    simp only [G.bg.L1]
    rw [List.drop_of_length_le (by omega),EG (by rw [rV]; omega)]
    refine Ev.cf (decide_eq_false (by omega)) (Ev.ite (fun e => ?_) (fun e=>Ev.ret' ?_))
    · refine Ev.bind (T.bG _ _ _) (Ev.ret' ?_)
      rw [decide_eq_true (show s.Items.length<=10 by simp only [decide_eq_true_eq] at e; omega)]
      simp
    · rw [decide_eq_false (show ¬ s.Items.length<=10 by simp only [decide_eq_false_iff_not] at e; omega)]
      simp
  | succ k ih =>
    intro i hi
    have hil:i<s.Items.length:=by omega
    obtain ⟨hn,⟨D,hd⟩⟩:=h.at_ hil
    refine Ev.up ?_
    simp only [G.bg.L1,Int.toNat_natCast,bu (show i+1<9223372036854775808 by omega)]
    rw [aY (default:dN) hil,List.all_cons]
    refine Ev.ct (decide_eq_true (by omega)) (Ev.chk (by omega) ?_)
    unfold JU
    refine Ev.bind (T.di _ (by unfold big; omega)) (Ev.ite (fun e1 => ?_) (fun e1=>Ev.ret' (by rw [e1]; simp)))
    refine Ev.bind (T.aT (by unfold lim; omega) hd) (Ev.ite (fun e2 => ?_) (fun e2=>Ev.ret' (by rw [e2]; simp)))
    refine Ev.bind (T.bG _ _ _) (Ev.ite (fun e3 => ?_) (fun e3=>Ev.ret' (by rw [e3]; simp)))
    rw [e1,e2,e3]
    have ih':=ih (i+1) (by omega)
    unfold JU at ih'
    rw [Nat.add_sub_cancel] at ih'
    by_cases h0:0<i
    · have e:IntKind.wrap .i64 ((i:Int)-1)=((i-1:Nat):Int):=wrapN (by omega) (by omega)
      rw [e,Int.toNat_natCast]
      rw [BL h0 (by rw [rV]; exact hil),vW hil,vW (by omega:i-1<s.Items.length)]
      refine Ev.ct (decide_eq_true (by omega)) (Ev.chk (by omega) (Ev.ite (fun h1=>Ev.ret' ?_) (fun h1=>Ev.ite (fun h2=>Ev.ret' ?_) (fun h2 => ?_))))
      · rw [show bl (s.Items.getD (i-1) default).Name (s.Items.getD i default).Name=false from xG h1]; simp
      · rw [beq_iff_eq] at h2
        rw [show bl (s.Items.getD (i-1) default).Name (s.Items.getD i default).Name=false by rw [h2]; exact vO _]; simp
      · have hb:bl (s.Items.getD (i-1) default).Name (s.Items.getD i default).Name=true:=by
          cases hb:bl (s.Items.getD (i-1) default).Name (s.Items.getD i default).Name with
          | true=>rfl
          | false=>rw [vP h1 hb] at h2; simp at h2
        rw [hb]
        exact ih'.eq (by simp)
    · have:i=0:=by omega
      subst this
      exact Ev.cf (by decide) (ih'.eq (by simp))
theorem T.bg:Ev (fun f=>G.bg f s) (wz s):=by
 refine Ev.up ?_
 simp only [G.bg]
 exact T.bg.L1 hB h s.Items.length 0 (by omega)
theorem T.dL:Ev (fun f=>G.dL f s) s:=by
  have hl:=h.len
  unfold lim at hB
  have L:∀ (k i:Nat),i+k=s.Items.length->Ev (fun f=>G.dL.L1 f s i (s.Items.take i)) s:=by
    intro k
    induction k with
    | zero =>
      intro i hi
      refine Ev.up ?_
      simp only [G.dL.L1]
      refine Ev.cf (decide_eq_false (by omega)) (Ev.ret' ?_)
      rw [List.take_of_length_le (by omega)]
    | succ k ih =>
      intro i hi
      have hil:i<s.Items.length:=by omega
      obtain ⟨hn,⟨D,hd⟩⟩:=h.at_ hil
      refine Ev.up ?_
      simp only [G.dL.L1,Int.toNat_natCast,bu (show i+1<9223372036854775808 by omega)]
      refine Ev.ct (decide_eq_true (by omega)) (Ev.chk (by omega) (Ev.chk (by omega) (Ev.chk (by omega) (Ev.bind (T.ay (by unfold lim; omega) hd) (Ev.chk (by simp; omega) ?_)))))
      have:=ih (i+1) (by omega)
      rw [List.take_succ_eq_append_getElem hil,<- dI (default:dN) hil] at this
      exact this
  refine Ev.up ?_
  simp only [G.dL]
  exact L s.Items.length 0 (by omega)
end
structure J9 (s:StoreT):Prop where
 Ob:∀ it,it∈s.Items->JU s.Clock it=true
 NK:Asc (uO s.Items)=true
 len:s.Items.length<=10
 lo:0<=s.Clock
 hi:s.Clock<=999
theorem ug {s:StoreT} : wz s=true<->J9 s:=by
 unfold wz
 simp only [Bool.and_eq_true,decide_eq_true_eq,List.all_eq_true]
 exact ⟨fun ⟨⟨h1,h2⟩,h3,h4,h5⟩=>⟨h1,h2,h3,h4,h5⟩,fun h=>⟨⟨h.Ob,h.NK⟩,h.len,h.lo,h.hi⟩⟩
structure Po (c:Int) (it:dN):Prop where
 tJ:BD it.Name=true
 KU:Val it.Node=true
 lo:1<=it.Version
 hi:it.Version<=c
theorem xZ {c:Int} {it:dN} : JU c it=true<->Po c it:=by
 unfold JU
 simp only [Bool.and_eq_true,decide_eq_true_eq]
 exact ⟨fun ⟨h1,h2,h3,h4⟩=>⟨h1,h2,h3,h4⟩,fun h=>⟨h.tJ,h.KU,h.lo,h.hi⟩⟩
theorem rC {s:aA} (h:BD s=true):1<=s.length/\s.length<=8:=by
 unfold BD at h
 simp only [Bool.and_eq_true,decide_eq_true_eq] at h
 exact h.2
theorem J9.it {s:StoreT} (h:J9 s) {i:Nat} (hi:i<s.Items.length):Po s.Clock (s.Items.getD i default):=xZ.1 (h.Ob _ (getD_mem default hi))
theorem J9.fine {s:StoreT} (h:J9 s):o5 60 s :=
 ⟨by have:=h.len; omega,fun it hi=>by have:=(rC (xZ.1 (h.Ob it hi)).tJ).2; omega,fun it hi=>⟨5,kZ (xZ.1 (h.Ob it hi)).KU⟩⟩
def KT:StoreT:=StoreT.mk [] 0
end Go.Ab
end
section
namespace Go.Ab
open Go
set_option maxRecDepth 100000
set_option linter.unusedSectionVars false
def yj (x:dN):List dN->List dN
 | []=>[x]
 | y::r=>if bl y.Name x.Name then y::yj x r else if y.Name=x.Name then x::r else x::y::r
def Gz (s:StoreT) (t:aA) (n:af):StoreT:=StoreT.mk (yj (dN.mk t (s.Clock+1) n) s.Items) (s.Clock+1)
def DL (s:StoreT) (t:aA) (n:af):Option StoreT:=if wz s&&BD t&&Val n then (some (Gz s t n)).filter wz else none
def uS:Option StoreT->StoreT × Bool
 | some s=>(s,true)
 | none=>(KT,false)
theorem Bc {s:StoreT} : uS ((some s).filter wz)=if wz s then (s,true) else (KT,false):=by
 cases h:wz s<;>simp [Option.filter,h,uS]
theorem I7 {y:dN} {r:List dN} : uO (y::r)=y.Name::uO r:=rfl
theorem BK {y:dN} {r:List dN} (h:Asc (uO (y::r))=true):Asc (uO r)=true/\∀ z,z∈r->bl y.Name z.Name=true:=by
 rw [I7] at h
 exact ⟨uo h,fun z hz=>um h _ (List.mem_map.2 ⟨z,hz,rfl⟩)⟩
theorem yl {x:dN} : ∀ {l:List dN} {it:dN},Asc (uO l)=true->(it∈yj x l<->it=x\/(it∈l/\it.Name ≠ x.Name))
  | [],it,_=>by simp [yj]
  | y::r,it,h=>by
    obtain ⟨h1,h2⟩:=BK h
    rw [yj]
    cases hb:bl y.Name x.Name with
    | true =>
      have hne:=zB hb
      rw [if_pos rfl,List.mem_cons,yl h1,List.mem_cons]
      constructor
      · rintro (e | e | ⟨e,e2⟩)
        · exact .inr ⟨.inl e,e ▸ hne⟩
        · exact .inl e
        · exact .inr ⟨.inr e,e2⟩
      · rintro (e | ⟨e | e,e2⟩)
        · exact .inr (.inl e)
        · exact .inl e
        · exact .inr (.inr ⟨e,e2⟩)
    | false =>
      rw [if_neg (by simp)]
      by_cases e:y.Name=x.Name
      · rw [if_pos e,List.mem_cons,List.mem_cons]
        constructor
        · rintro (q | q)
          · exact .inl q
          · exact .inr ⟨.inr q,fun w=>by have:=zB (h2 it q); rw [e,w] at this; exact this rfl⟩
        · rintro (q | ⟨q | q,w⟩)
          · exact .inl q
          · exact absurd (q ▸ e) w
          · exact .inr q
      · rw [if_neg e,List.mem_cons,List.mem_cons]
        have hx:bl x.Name y.Name=true:=by
          cases k:bl x.Name y.Name with
          | true=>rfl
          | false=>exact absurd (vP hb k) e
        constructor
        · rintro (q | q | q)
          · exact .inl q
          · exact .inr ⟨.inl q,q ▸ e⟩
          · exact .inr ⟨.inr q,fun w=>by have:=zB (qM hx (h2 it q)); rw [w] at this; exact this rfl⟩
        · rintro (q | ⟨q,_⟩)
          · exact .inl q
          · exact .inr q
theorem CZ {x:dN} : ∀ {l:List dN},(yj x l).length<=l.length+1
  | []=>by simp [yj]
  | y::r=>by
    have:=CZ (x:=x) (l:=r)
    rw [yj]
    split
    · simp only [List.length_cons]; omega
    · split<;>simp
section
variable {s:StoreT} {t:aA} {n:af}
theorem T.fV.done (hl:s.Items.length<=1000):∀ (k i:Nat) (z:List dN),i+k=s.Items.length->z.length<=i+1->(∀ it,it∈s.Items.drop i->it.Name ≠ t) ->
    Ev (fun f=>G.fV.L3 f s t n s true i z) (StoreT.mk (z++s.Items.drop i) (IntKind.wrap .i64 (s.Clock+1))):=by
  intro k
  induction k with
  | zero =>
    intro i z hi hz _
    refine Ev.up ?_
    simp only [G.fV.L3]
    refine Ev.cf (decide_eq_false (by omega)) (Ev.ct rfl (Ev.ret' ?_))
    rw [List.drop_of_length_le (by omega),List.append_nil]
  | succ k ih =>
    intro i z hi hz hne
    have hil:i<s.Items.length:=by omega
    have hd:=aY (default:dN) hil
    rw [hd] at hne
    have h1:=hne (s.Items.getD i default) (by simp)
    refine Ev.up ?_
    simp only [G.fV.L3]
    refine Ev.ct (decide_eq_true (by omega)) (Ev.ct rfl (Ev.up ?_))
    simp only [G.fV.K4,Int.toNat_natCast,bu (show i+1<9223372036854775808 by omega)]
    refine Ev.chk (by omega) (Ev.cf (by simpa using h1) (Ev.chk (by omega) (Ev.chk (by omega) ?_)))
    refine (ih (i+1) _ (by omega) (by simp; omega) (fun it hit=>hne it (by simp [hit]))).eq ?_
    rw [hd]
    simp
theorem T.fV.more (hl:s.Items.length<=1000) (hA:Asc (uO s.Items)=true):∀ (k i:Nat) (z:List dN),i+k=s.Items.length->z.length<=i ->
    Ev (fun f=>G.fV.L3 f s t n s false i z) (StoreT.mk (z++yj (dN.mk t (IntKind.wrap .i64 (s.Clock+1)) n) (s.Items.drop i)) (IntKind.wrap .i64 (s.Clock+1))):=by
  intro k
  induction k with
  | zero =>
    intro i z hi hz
    refine Ev.up ?_
    simp only [G.fV.L3]
    refine Ev.cf (decide_eq_false (by omega)) (Ev.cf rfl (Ev.chk (by omega) (Ev.ret' ?_)))
    rw [List.drop_of_length_le (by omega)]
    rfl
  | succ k ih =>
    intro i z hi hz
    have hil:i<s.Items.length:=by omega
    have hd:=aY (default:dN) hil
    have later:∀ it,it∈s.Items.drop (i+1)->bl (s.Items.getD i default).Name it.Name=true:=fun it hit=>by
      obtain ⟨j,hj,e⟩:=List.mem_drop_iff_getElem.1 hit
      have hj':i+1+j<s.Items.length:=by omega
      have:=Hr hA i (i+1+j) (by omega) (by rw [rV]; exact hj')
      rw [vW hil,vW hj',dI _ hj',e] at this
      exact this
    refine Ev.up ?_
    simp only [G.fV.L3,Int.toNat_natCast]
    rw [hd,yj]
    refine Ev.ct (decide_eq_true (by omega)) (Ev.cf rfl (Ev.chk (by omega) ?_))
    refine Ev.ite (fun e => ?_) (fun e => ?_)
    · have e:bl (s.Items.getD i default).Name t=true:=e
      rw [if_pos e]
      refine Ev.up ?_
      simp only [G.fV.K4,Int.toNat_natCast,bu (show i+1<9223372036854775808 by omega)]
      refine Ev.chk (by omega) (Ev.cf (by simpa using zB e) (Ev.chk (by omega) (Ev.chk (by omega) ?_)))
      refine (ih (i+1) _ (by omega) (by simp; omega)).eq ?_
      simp
    · have e:bl (s.Items.getD i default).Name t=false:=e
      rw [if_neg (by simp only [e]; simp)]
      refine Ev.chk (by omega) (Ev.up ?_)
      simp only [G.fV.K4,Int.toNat_natCast,bu (show i+1<9223372036854775808 by omega)]
      refine Ev.chk (by omega) (Ev.ite (fun e2 => ?_) (fun e2 => ?_))
      · have e2:(s.Items.getD i default).Name=t:=by simpa using e2
        rw [if_pos e2]
        refine (T.fV.done hl k (i+1) _ (by omega) (by simp; omega) (fun it hit w=>by have:=zB (later it hit); rw [e2,w] at this; exact this rfl)).eq ?_
        simp
      · have e2:(s.Items.getD i default).Name ≠ t:=by simpa using e2
        rw [if_neg e2]
        have hx:bl t (s.Items.getD i default).Name=true:=by
          cases q:bl t (s.Items.getD i default).Name with
          | true=>rfl
          | false=>exact absurd (vP e q) e2
        refine Ev.chk (by omega) (Ev.chk (by simp; omega) ?_)
        refine (T.fV.done hl k (i+1) _ (by omega) (by simp; omega) (fun it hit w=>by have:=zB (qM hx (later it hit)); rw [w] at this; exact this rfl)).eq ?_
        simp
end
section
variable {B D:Nat} {s:StoreT} {t:aA} {n:af} (hB:B<=lim) (h:o5 B s)
include hB h
theorem T.fV (hn:Fine B D n) (hs:J9 s):Ev (fun f=>G.fV f s t n) (Gz s t n):=by
 have hl:=hs.len
 have hlo:=hs.lo
 have hhi:=hs.hi
 refine Ev.up ?_
 simp only [G.fV]
 refine Ev.bind (T.ay hB hn) (Ev.bind (T.dL hB h) ?_)
 refine (T.fV.more (by omega) hs.NK s.Items.length 0 [] (by omega) (by simp)).eq ?_
 rw [xk (by omega) (by omega)]
 rfl
theorem Jm (hs:J9 s) (ht:BD t=true) (hn:Val n=true):o5 60 (Gz s t n):=by
 have:=CZ (x:=dN.mk t (s.Clock+1) n) (l:=s.Items)
 have:=hs.len
 refine ⟨by show (yj _ _).length<=_; omega,fun it hi => ?_,fun it hi => ?_⟩
 ·rcases (yl hs.NK).1 hi with e | ⟨e,_⟩
  ·rw [e]; show t.length<=60; have:=(rC ht).2; omega
  ·exact hs.fine.tJ it e
 ·rcases (yl hs.NK).1 hi with e | ⟨e,_⟩
  ·rw [e]; exact ⟨5,kZ hn⟩
  ·exact hs.fine.KU it e
theorem T.jC (ht:t.length<=B) (hn:Fine B D n):Ev (fun f=>G.jC f s t n) (uS (DL s t n)):=by
 refine Ev.up ?_
 simp only [G.jC]
 unfold DL
 refine Ev.bind (T.bg hB h) (Ev.ite (fun e1 => ?_) (fun e1=>Ev.ret' (by rw [e1]; rfl)))
 refine Ev.bind (T.di _ (by unfold big; unfold lim at hB; omega)) (Ev.ite (fun e2 => ?_) (fun e2=>Ev.ret' (by rw [e1,e2]; rfl)))
 refine Ev.bind (T.aT hB hn) (Ev.ite (fun e3 => ?_) (fun e3=>Ev.ret' (by rw [e1,e2,e3]; rfl)))
 have hs:=ug.1 e1
 rw [e1,e2,e3]
 refine Ev.bind (T.fV hB h hn hs) (Ev.bind (T.bg l7 (Jm hB h hs e2 e3)) ?_)
 show Ev _ (uS ((some (Gz s t n)).filter wz))
 rw [Bc]
 cases hv:wz (Gz s t n) with
 | true=>exact Ev.ct rfl (Ev.ret _)
 | false=>exact Ev.cf rfl (Ev.ret _)
end
theorem Jl {s m:StoreT} {t:aA} {n:af} (h:DL s t n=some m):wz s=true/\BD t=true/\Val n=true/\m=Gz s t n/\wz m=true:=by
 unfold DL at h
 split at h
 ·rename_i c
  obtain ⟨⟨c1,c2⟩,c3⟩:(wz s=true/\BD t=true)/\Val n=true:=by simpa using c
  obtain ⟨h1,h2⟩:=Option.filter_eq_some_iff.1 h
  cases h1
  exact ⟨c1,c2,c3,rfl,h2⟩
 ·cases h
def KF (l:List dN) (t:aA):Option Nat:=(List.range' 0 l.length).find? fun i=>(l.getD i default).Name==t
theorem Ce {l:List dN} {t:aA} {j:Nat} : KF l t=some j<->(j<l.length/\(l.getD j default).Name=t/\∀ q,q<j->(l.getD q default).Name ≠ t):=by
 unfold KF
 rw [zJ]
 constructor
 ·rintro ⟨_,h2,h3,h4⟩
  exact ⟨by omega,by simpa using h3,fun q hq=>by simpa using h4 q (by omega) hq⟩
 ·rintro ⟨h2,h3,h4⟩
  exact ⟨by omega,by omega,by simpa using h3,fun q _ hq=>by simpa using h4 q hq⟩
theorem T.iK {s:StoreT} (t:aA) (hl:s.Items.length<=lim):Ev (fun f=>G.iK f s t) (uU (KF s.Items t)):=by
  unfold lim at hl
  have L:∀ (k i:Nat),i+k=s.Items.length->Ev (fun f=>G.iK.L1 f s t i) (uU ((List.range' i k).find? fun i=>(s.Items.getD i default).Name==t)):=by
    intro k
    induction k with
    | zero =>
      intro i hi
      refine Ev.up ?_
      simp only [G.iK.L1]
      exact Ev.cf (decide_eq_false (by omega)) (Ev.ret _)
    | succ k ih =>
      intro i hi
      refine Ev.up ?_
      simp only [G.iK.L1,Int.toNat_natCast,bu (show i+1<9223372036854775808 by omega)]
      rw [List.range'_succ,List.find?_cons]
      refine Ev.ct (decide_eq_true (by omega)) (Ev.chk (by omega) (Ev.ite (fun e=>Ev.ret' ?_) (fun e => ?_)))
      · simp only [show ((s.Items.getD i default).Name==t)=true from e]; rfl
      · simp only [show ((s.Items.getD i default).Name==t)=false from e]
        exact ih (i+1) (by omega)
  refine Ev.up ?_
  simp only [G.iK]
  exact L s.Items.length 0 (by omega)
def Io (s:StoreT) (t:aA):StoreT:=StoreT.mk (s.Items.filter fun it => !(it.Name==t)) (s.Clock+1)
def xw (s:StoreT) (t:aA):Option StoreT:=if wz s&&(KF s.Items t).isSome && !(s.Clock==999) then some (Io s t) else none
theorem T.iY {B:Nat} {s:StoreT} {t:aA} (hB:B<=lim) (h:o5 B s) (hs:J9 s):Ev (fun f=>G.iY f s t) (Io s t):=by
  have hl:=hs.len
  have hlo:=hs.lo
  have hhi:=hs.hi
  have L:∀ (k i:Nat) (z:List dN),i+k=s.Items.length->z.length<=i->Ev (fun f=>G.iY.L1 f s t s i z) (StoreT.mk (z++(s.Items.drop i).filter fun it => !(it.Name==t)) (IntKind.wrap .i64 (s.Clock+1))):=by
    intro k
    induction k with
    | zero =>
      intro i z hi hz
      refine Ev.up ?_
      simp only [G.iY.L1]
      refine Ev.cf (decide_eq_false (by omega)) (Ev.ret' ?_)
      rw [List.drop_of_length_le (by omega)]; simp
    | succ k ih =>
      intro i z hi hz
      have hil:i<s.Items.length:=by omega
      refine Ev.up ?_
      simp only [G.iY.L1,Int.toNat_natCast,bu (show i+1<9223372036854775808 by omega)]
      rw [aY (default:dN) hil,List.filter_cons]
      refine Ev.ct (decide_eq_true (by omega)) (Ev.chk (by omega) (Ev.ite (fun e => ?_) (fun e => ?_)))
      · rw [show ((s.Items.getD i default).Name==t)=true from e]
        exact (ih (i+1) z (by omega) (by omega)).eq (by simp)
      · rw [show ((s.Items.getD i default).Name==t)=false from e]
        refine Ev.chk (by omega) (Ev.chk (by omega) ?_)
        exact (ih (i+1) _ (by omega) (by simp; omega)).eq (by simp)
  refine Ev.up ?_
  simp only [G.iY]
  refine Ev.bind (T.dL hB h) ((L s.Items.length 0 [] (by omega) (by simp)).eq ?_)
  rw [xk (by omega) (by omega)]
  rfl
theorem T.jh {B:Nat} {s:StoreT} {t:aA} (hB:B<=lim) (h:o5 B s):Ev (fun f=>G.jh f s t) (uS (xw s t)):=by
  have hl:=h.len
  refine Ev.up ?_
  simp only [G.jh]
  unfold xw
  refine Ev.bind (T.bg hB h) (Ev.ite (fun e1 => ?_) (fun e1=>Ev.ret' (by rw [e1]; rfl)))
  refine Ev.bind (T.iK t (Nat.le_trans hl hB)) ?_
  cases hf:KF s.Items t with
  | none=>exact Ev.ct (by decide) (Ev.ret' (by rw [e1]; rfl))
  | some j =>
    refine Ev.cf (decide_eq_false (by simp only [uU]; omega)) (Ev.ite (fun e2=>Ev.ret' (by rw [e1,e2]; rfl)) (fun e2 => ?_))
    refine Ev.bind (T.iY hB h (ug.1 e1)) (Ev.ret' (by rw [e1,e2]; rfl))
theorem Kv {l m:List aA} (h:l.Sublist m) (hm:Asc m=true):Asc l=true:=pW.2 ((pW.1 hm).sublist h)
theorem Ip {s m:StoreT} {t:aA} (h:xw s t=some m):wz s=true/\(KF s.Items t).isSome=true/\s.Clock ≠ 999/\m=Io s t/\wz m=true:=by
 unfold xw at h
 split at h
 ·rename_i c
  obtain ⟨⟨c1,c2⟩,c3⟩:(wz s=true/\(KF s.Items t).isSome=true)/\s.Clock ≠ 999:=by simpa using c
  cases h
  have hs:=ug.1 c1
  refine ⟨c1,c2,c3,rfl,ug.2 ⟨fun it hit => ?_,?_,?_,?_,?_⟩⟩
  ·have:=xZ.1 (hs.Ob it (List.mem_filter.1 hit).1)
   have hhi:=this.hi
   exact xZ.2 ⟨this.tJ,this.KU,this.lo,by show it.Version<=s.Clock+1; omega⟩
  ·exact Kv (List.Sublist.map _ List.filter_sublist) hs.NK
  ·show (s.Items.filter _).length<=10
   exact Nat.le_trans (List.length_filter_le _ _) hs.len
  ·show 0<=s.Clock+1
   have:=hs.lo
   omega
  ·show s.Clock+1<=999
   have:=hs.hi
   omega
 ·cases h
end Go.Ab
end
section
namespace Go.Ab
open Go
set_option maxRecDepth 100000
theorem D.x8 {K:Nat} {r:ReaderT} (hr:jO K r) (hK:K<=1000000000):Dr (K+1) (fun x=>BD x=true) (fun f=>G.iJ f r):=by
 refine Tot.up ?_
 simp only [G.iJ]
 obtain ⟨x,r',g,hx,hr'⟩:=T.of hr hK [[97],[98],[100,111,99],[122,122],[97,49],[109],[120,57],[98,111,111,107],[97,98,99,100,101,102,103,104],[113]] (by decide) (by decide)
 exact Tot.iy g (Tot.ret ⟨List.all_eq_true.1 (by decide:List.all [[97],[98],[100,111,99],[122,122],[97,49],[109],[120,57],[98,111,111,107],[97,98,99,100,101,102,103,104],[113]] BD=true) x hx,hr'⟩)
theorem D.EH {K:Nat} {r:ReaderT} (hr:jO K r) (hK:K<=1000000000):Dr (K+1) (fun x:aA=>x.length<=12) (fun f=>G.iZ f r):=by
 refine Tot.up ?_
 simp only [G.iZ]
 refine Tot.bind (D.of (m:=12) hr hK _ (by decide) (by decide) (by decide)) ?_
 rintro ⟨x,r'⟩ ⟨hx,hr'⟩
 exact Tot.ret ⟨hx,hr'⟩
theorem Nh:wz KT=true:=by decide
theorem D.oH.K4 {K:Nat} {Q:StoreT->Prop} {s m:StoreT} {j:Nat} {r:ReaderT} {ok:Bool} (hj:j+1<=1000)
  (h1:ok=true->Dr K Q (fun f=>G.dB.L3 f (j:Int) r.b r.p m.Items m.Clock)) (h2:Dr K Q (fun f=>G.dB.L3 f (j:Int) r.b r.p s.Items s.Clock)) :
  Dr K Q (fun f=>G.dB.K4 f ((j+1:Nat):Int) s.Items s.Clock ok r.b r.p m.Items m.Clock):=by
 have w:IntKind.wrap .i64 (((j+1:Nat):Int)-1)=(j:Int):=wrapN (by omega) (by omega)
 refine Tot.up ?_
 simp only [G.dB.K4,w]
 exact Tot.ite (fun e=>h1 e) (fun _=>h2)
theorem D.oH.L3:∀ (j K:Nat) (r:ReaderT) (s:StoreT),j<=12->jO K r->K+700*j<=500000000->wz s=true ->
    Dr (K+700*j) (fun s=>wz s=true) (fun f=>G.dB.L3 f (j:Int) r.b r.p s.Items s.Clock):=by
  intro j
  induction j with
  | zero =>
    intro K r s _ hr _ hs
    refine Tot.up ?_
    simp only [G.dB.L3]
    exact Tot.ite (fun e=>by simp at e) (fun _=>Tot.ret ⟨hs,hr.mono (by omega)⟩)
  | succ j ih =>
    intro K r s hj hr hK hs
    refine Tot.up ?_
    simp only [G.dB.L3]
    refine Tot.ite (fun _ => ?_) (fun e=>absurd e (by simp))
    refine Tot.bind (D.x8 hr (by omega)) ?_
    rintro ⟨nm,r1⟩ ⟨hnm,hr1⟩
    refine Tot.bind (D.pF hr1 (by omega)) ?_
    rintro ⟨v,r2⟩ ⟨hv,hr2⟩
    have hfs:=(ug.1 hs).fine
    refine Tot.iy (T.jC l7 hfs (by have:=(rC hnm).2; omega) (kZ hv)) ?_
    refine Tot.bind (D.pick (m:=8) hr2 (by omega) rfl (by decide) (by decide)) ?_
    rintro ⟨x,r3⟩ ⟨_,hr3⟩
    refine Tot.ite (fun _ => ?_) (fun _ => ?_)
    · refine Tot.bind (D.x8 hr3 (by omega)) ?_
      rintro ⟨O5,r4⟩ ⟨Ql,hr4⟩
      refine Tot.iy (T.jh l7 hfs) ?_
      refine D.oH.K4 (K:=K+700*(j+1)) (Q:=fun s=>wz s=true) (s:=s) (m:=(uS (xw s O5)).1) (r:=r4) (ok:=(uS (xw s O5)).2) (j:=j) (by omega) (fun e => ?_) ?_
      · cases hd:xw s O5 with
        | none=>rw [hd] at e; cases e
        | some m =>
          have:=(ih (K+700) r4 m (by omega) (hr4.mono (by omega)) (by omega) (Ip hd).2.2.2.2)
          refine Tot.mono this (fun x hx=>⟨hx.1,hx.2.mono (by omega)⟩)
      · exact Tot.mono (ih (K+700) r4 s (by omega) (hr4.mono (by omega)) (by omega) hs) (fun x hx=>⟨hx.1,hx.2.mono (by omega)⟩)
    · refine D.oH.K4 (K:=K+700*(j+1)) (Q:=fun s=>wz s=true) (s:=s) (m:=(uS (DL s nm v)).1) (r:=r3) (ok:=(uS (DL s nm v)).2) (j:=j) (by omega) (fun e => ?_) ?_
      · cases hd:DL s nm v with
        | none=>rw [hd] at e; cases e
        | some m =>
          exact Tot.mono (ih (K+700) r3 m (by omega) (hr3.mono (by omega)) (by omega) (Jl hd).2.2.2.2) (fun x hx=>⟨hx.1,hx.2.mono (by omega)⟩)
      · exact Tot.mono (ih (K+700) r3 s (by omega) (hr3.mono (by omega)) (by omega) hs) (fun x hx=>⟨hx.1,hx.2.mono (by omega)⟩)
theorem D.oH {K:Nat} {r:ReaderT} (hr:jO K r) (hK:K<=400000000):Dr (K+9000) (fun s=>wz s=true) (fun f=>G.dB f r):=by
 refine Tot.up ?_
 simp only [G.dB]
 obtain ⟨x,r1,g,hx,hr1⟩:=T.one hr (by omega) [3,4,2,5,0,12] (by decide) (by decide)
 refine Tot.iy g ?_
 obtain ⟨j,hj,rfl⟩:∃ j:Nat,j<=12/\x=(j:Int):=by
  simp only [List.mem_cons,List.not_mem_nil,or_false] at hx
  rcases hx with rfl | rfl | rfl | rfl | rfl | rfl
  ·exact ⟨3,by omega,rfl⟩
  ·exact ⟨4,by omega,rfl⟩
  ·exact ⟨2,by omega,rfl⟩
  ·exact ⟨5,by omega,rfl⟩
  ·exact ⟨0,by omega,rfl⟩
  ·exact ⟨12,by omega,rfl⟩
 exact Tot.mono (D.oH.L3 j (K+1) r1 KT hj hr1 (by omega) Nh) (fun x hx=>⟨hx.1,hx.2.mono (by omega)⟩)
end Go.Ab
end
section
namespace Go.Ab
open Go
set_option maxRecDepth 100000
def I9 (b:UInt8):Bool:=(decide (48<=b.toNat)&&decide (b.toNat<=57))||(decide (97<=b.toNat)&&decide (b.toNat<=102))
def uy (s:aA):Bool:=s.all I9&&decide (s.length=4)
def qG (s:aA):Bool:=s==[42]||uy s
def lY (l:List aA):Bool:=l.all qG&&decide (l.length<=4)
def hexD:aA:=[48,49,50,51,52,53,54,55,56,57,97,98,99,100,101,102]
theorem KJ:∀ n:Nat,n<256->decide (Go.Lib.indexByte hexD (UInt8.ofNat n)<0) = !I9 (UInt8.ofNat n):=by decide +kernel
theorem MO (b:UInt8):decide (Go.Lib.indexByte hexD b<0) = !I9 b:=by
 have:=KJ b.toNat b.toNat_lt
 rwa [UInt8.ofNat_toNat] at this
theorem T.fJ (s:aA) (hs:s.length<big):Ev (fun f=>G.fJ f s) (uy s):=by
  unfold big at hs
  have L:∀ (k i:Nat),i+k=s.length->Ev (fun f=>G.fJ.L1 f s i) ((s.drop i).all I9&&decide (s.length=4)):=by
    intro k
    induction k with
    | zero =>
      intro i hi
      refine Ev.up ?_
      simp only [G.fJ.L1]
      refine Ev.cf (decide_eq_false (by omega)) (Ev.ret' ?_)
      rw [List.drop_of_length_le (by omega),List.all_nil,Bool.true_and,Bool.eq_iff_iff,beq_iff_eq,decide_eq_true_eq]
      omega
    | succ k ih =>
      intro i hi
      refine Ev.up ?_
      simp only [G.fJ.L1,Int.toNat_natCast,rO,bu (show i+1<9223372036854775808 by omega)]
      rw [aY (0:UInt8) (by omega:i<s.length),List.all_cons]
      have e1:(decide ((48:Int)<=((s.getD i 0).toNat:Int))&&decide (((s.getD i 0).toNat:Int)<=57))=(decide (48<=(s.getD i 0).toNat)&&decide ((s.getD i 0).toNat<=57)):=by congr 1<;>(apply decide_eq_decide.2; omega)
      have e2:(decide ((97:Int)<=((s.getD i 0).toNat:Int))&&decide (((s.getD i 0).toNat:Int)<=102))=(decide (97<=(s.getD i 0).toNat)&&decide ((s.getD i 0).toNat<=102)):=by congr 1<;>(apply decide_eq_decide.2; omega)
      refine Ev.ct (decide_eq_true (by omega)) (Ev.chk (by omega) (Ev.bind (T.bG _ _ _) ?_))
      rw [e1]
      refine Ev.ite (fun h => ?_) (fun h => ?_)
      · refine (ih (i+1) (by omega)).eq ?_
        unfold I9
        rw [show (decide (48<=(s.getD i 0).toNat)&&decide ((s.getD i 0).toNat<=57))=true from h,Bool.true_or,Bool.true_and]
      · refine Ev.chk (by omega) (Ev.bind (T.bG _ _ _) ?_)
        rw [e2]
        refine Ev.ite (fun h2 => ?_) (fun h2=>Ev.ret' ?_)
        · refine (ih (i+1) (by omega)).eq ?_
          unfold I9
          rw [show (decide (97<=(s.getD i 0).toNat)&&decide ((s.getD i 0).toNat<=102))=true from h2,Bool.or_true,Bool.true_and]
        · unfold I9
          rw [show (decide (48<=(s.getD i 0).toNat)&&decide ((s.getD i 0).toNat<=57))=false from h,show (decide (97<=(s.getD i 0).toNat)&&decide ((s.getD i 0).toNat<=102))=false from h2]
          rfl
  refine Ev.up ?_
  simp only [G.fJ]
  exact L s.length 0 (by omega)
theorem T.iF (s:aA) (hs:s.length<big):Ev (fun f=>G.iF f s) (uy s):=by
  unfold big at hs
  have hI:∀ b:UInt8,Ev (fun f=>G.strings_IndexByte f [48,49,50,51,52,53,54,55,56,57,97,98,99,100,101,102] ((b.toNat:Nat):Int)) (Go.Lib.indexByte hexD b):=fun b=>by
    refine Ev.up ?_
    simp only [G.strings_IndexByte]
    refine Ev.bind (Ev.up ?_) (Ev.ret _)
    simp only [G.dS]
    refine Ev.ret' ?_
    rw [Int.toNat_natCast,show b.toNat.toUInt8=b from UInt8.ofNat_toNat]
    rfl
  have L:∀ (k i:Nat),i+k=s.length->Ev (fun f=>G.iF.L1 f s i) ((s.drop i).all I9):=by
    intro k
    induction k with
    | zero =>
      intro i hi
      refine Ev.up ?_
      simp only [G.iF.L1]
      refine Ev.cf (decide_eq_false (by omega)) (Ev.ret' ?_)
      rw [List.drop_of_length_le (by omega)]; rfl
    | succ k ih =>
      intro i hi
      refine Ev.up ?_
      simp only [G.iF.L1,Int.toNat_natCast,bu (show i+1<9223372036854775808 by omega)]
      rw [aY (0:UInt8) (by omega:i<s.length),List.all_cons]
      refine Ev.ct (decide_eq_true (by omega)) (Ev.chk (by omega) (Ev.bind (hI _) ?_))
      rw [MO]
      refine Ev.ite (fun h=>Ev.ret' ?_) (fun h=>(ih (i+1) (by omega)).eq ?_)
      · have:I9 (s.getD i 0)=false:=by simpa using h
        rw [this]; rfl
      · have:I9 (s.getD i 0)=true:=by simpa using h
        rw [this]; rfl
  refine Ev.up ?_
  simp only [G.iF]
  unfold uy
  refine Ev.ite (fun e=>Ev.ret' ?_) (fun e => ?_)
  · have:¬ s.length=4:=by
      have:((s.length:Nat):Int) ≠ 4:=by simpa using e
      omega
    rw [decide_eq_false this,Bool.and_false]
  · have:s.length=4:=by
      have:((s.length:Nat):Int)=4:=by simpa using e
      omega
    exact (L s.length 0 (by omega)).eq (by rw [decide_eq_true this,Bool.and_true,List.drop_zero])
theorem T.bZ {l:List aA} (h:Sm l):Ev (fun f=>G.bZ f l) (lY l):=by
  have hl:=h.1
  unfold big at hl
  have L:∀ (k i:Nat),i+k=l.length->Ev (fun f=>G.bZ.L1 f l i) ((l.drop i).all qG&&decide (l.length<=4)):=by
    intro k
    induction k with
    | zero =>
      intro i hi
      refine Ev.up ?_
      simp only [G.bZ.L1]
      refine Ev.cf (decide_eq_false (by omega)) (Ev.ret' ?_)
      rw [List.drop_of_length_le (by omega),List.all_nil,Bool.true_and]
      apply decide_eq_decide.2; omega
    | succ k ih =>
      intro i hi
      refine Ev.up ?_
      simp only [G.bZ.L1,Int.toNat_natCast,bu (show i+1<9223372036854775808 by omega)]
      rw [aY (default:aA) (by omega:i<l.length),List.all_cons]
      unfold qG
      refine Ev.ct (decide_eq_true (by omega)) (Ev.chk (by omega) (Ev.ite (fun e=>(ih (i+1) (by omega)).eq (by rw [e]; rfl)) (fun e=>Ev.chk (by omega) (Ev.bind (T.fJ _ (h.get (by omega))) ?_))))
      exact Ev.ite (fun e2=>(ih (i+1) (by omega)).eq (by rw [e,e2]; rfl)) (fun e2=>Ev.ret' (by rw [e,e2]; rfl))
  refine Ev.up ?_
  simp only [G.bZ]
  exact L l.length 0 (by omega)
theorem T.dX {l:List aA} (h:Sm l):Ev (fun f=>G.dX f l) (lY l):=by
  have hl:=h.1
  unfold big at hl
  have L:∀ (k i:Nat),i+k=l.length->Ev (fun f=>G.dX.L1 f l i) ((l.drop i).all qG):=by
    intro k
    induction k with
    | zero =>
      intro i hi
      refine Ev.up ?_
      simp only [G.dX.L1]
      refine Ev.cf (decide_eq_false (by omega)) (Ev.ret' ?_)
      rw [List.drop_of_length_le (by omega)]; rfl
    | succ k ih =>
      intro i hi
      refine Ev.up ?_
      simp only [G.dX.L1,Int.toNat_natCast,bu (show i+1<9223372036854775808 by omega)]
      rw [aY (default:aA) (by omega:i<l.length),List.all_cons]
      unfold qG
      refine Ev.ct (decide_eq_true (by omega)) (Ev.chk (by omega) (Ev.ite (fun e=>(ih (i+1) (by omega)).eq (by rw [e]; rfl)) (fun e=>Ev.bind (T.iF _ (h.get (by omega))) ?_)))
      exact Ev.ite (fun e2=>(ih (i+1) (by omega)).eq (by rw [e,e2]; rfl)) (fun e2=>Ev.ret' (by rw [e,e2]; rfl))
  refine Ev.up ?_
  simp only [G.dX]
  unfold lY
  refine Ev.ite (fun e=>Ev.ret' ?_) (fun e=>(L l.length 0 (by omega)).eq ?_)
  · rw [decide_eq_false (show ¬ l.length<=4 by simp only [decide_eq_true_eq] at e; omega),Bool.and_false]
  · rw [decide_eq_true (show l.length<=4 by simp only [decide_eq_false_iff_not] at e; omega),Bool.and_true,List.drop_zero]
structure oL (B:Nat) (q:RequestT):Prop where
 tJ:q.Name.length<=B
 want:ji B q.Want
 avoid:ji B q.jk
 body:nC B q.Body
 ops:oK q.Ops
def BG (q:RequestT):Bool:=(decide (1<=q.Method)&&decide (q.Method<=5))&&(BD q.Name&&(lY q.Want&&(lY q.jk&&(Val q.Body&&o6 q.Ops))))
section
variable {B:Nat} {q:RequestT} (hB:B<=lim) (h:oL B q)
include hB h
theorem T.fD:Ev (fun f=>G.fD f q) (BG q):=by
 obtain ⟨E,hb⟩:=h.body
 have hn:=h.tJ
 unfold lim at hB
 refine Ev.up ?_
 simp only [G.fD]
 unfold BG
 refine Ev.bind (T.bG _ _ _) (Ev.ite (fun e1 => ?_) (fun e1=>Ev.ret' (by rw [e1]; rfl)))
 refine Ev.bind (T.di _ (by unfold big; omega)) (Ev.ite (fun e2 => ?_) (fun e2=>Ev.ret' (by rw [e1,e2]; rfl)))
 refine Ev.bind (T.bZ (h.want.sm (by unfold lim; omega))) (Ev.ite (fun e3 => ?_) (fun e3=>Ev.ret' (by rw [e1,e2,e3]; rfl)))
 refine Ev.bind (T.bZ (h.avoid.sm (by unfold lim; omega))) (Ev.ite (fun e4 => ?_) (fun e4=>Ev.ret' (by rw [e1,e2,e3,e4]; rfl)))
 refine Ev.bind (T.aT (by unfold lim; omega) hb) (Ev.ite (fun e5 => ?_) (fun e5=>Ev.ret' (by rw [e1,e2,e3,e4,e5]; rfl)))
 exact Ev.bind (T.bY h.ops) (Ev.ret' (by rw [e1,e2,e3,e4,e5]; rfl))
theorem T.gV:Ev (fun f=>G.gV f q) (BG q):=by
 obtain ⟨E,hb⟩:=h.body
 have hn:=h.tJ
 unfold lim at hB
 refine Ev.up ?_
 simp only [G.gV]
 unfold BG
 refine Ev.ite (fun e0 => ?_) (fun e0=>Ev.ret' (by rw [e0]; rfl))
 refine Ev.ite (fun e1 => ?_) (fun e1=>Ev.ret' (by rw [e0,e1]; rfl))
 refine Ev.bind (T.fM _ (by unfold big; omega)) (Ev.ite (fun e2 => ?_) (fun e2=>Ev.ret' (by rw [e0,e1,e2]; rfl)))
 refine Ev.bind (T.dX (h.want.sm (by unfold lim; omega))) (Ev.ite (fun e3 => ?_) (fun e3=>Ev.ret' (by rw [e0,e1,e2,e3]; rfl)))
 refine Ev.bind (T.dX (h.avoid.sm (by unfold lim; omega))) (Ev.ite (fun e4 => ?_) (fun e4=>Ev.ret' (by rw [e0,e1,e2,e3,e4]; rfl)))
 refine Ev.bind (T.cZ (by unfold lim; omega) hb) (Ev.ite (fun e5 => ?_) (fun e5=>Ev.ret' (by rw [e0,e1,e2,e3,e4,e5]; rfl)))
 exact Ev.bind (T.bP h.ops) (Ev.ret' (by rw [e0,e1,e2,e3,e4,e5]; rfl))
end
structure Ll (l:List RequestT):Prop where
 len:l.length<=1000
 req:∀ q,q∈l->oL 60 q
theorem Ll.at_ {l:List RequestT} (h:Ll l) {i:Nat} (hi:i<l.length):oL 60 (l.getD i default):=h.req _ (getD_mem default hi)
end Go.Ab
end
section
namespace Go.Ab
open Go
set_option maxRecDepth 100000
def mM (z:Int):aA:=if z<0 then 45::kT (-z).toNat else kT z.toNat
def mg (b:UInt8):aA:=if b=34\/b=92 then [92,b] else [b]
def ny (s:aA):aA:=34::(s.flatMap mg++[34])
def mX (F:af->aA) (n:af) (i:Nat):aA:=((if 0<i then [44] else [])++(if n.Kind=4 then ny (n.Names.getD i default)++[58] else []))++F (n.Kids.getD i default)
def iH:Nat->af->aA
  | 0,_=>[]
  | d+1,n=>if n.Kind=1 then mM n.Num else if n.Kind=2 then ny n.Text else if n.Kind=0 then [110,117,108,108] else
    if n.Kind=4 then ([123]++(List.range' 0 n.Kids.length).flatMap (mX (iH d) n))++[125] else ([91]++(List.range' 0 n.Kids.length).flatMap (mX (iH d) n))++[93]
theorem jd {d:Nat} {n:af} : iH (d+1) n=if n.Kind=1 then mM n.Num else if n.Kind=2 then ny n.Text else if n.Kind=0 then [110,117,108,108] else
  if n.Kind=4 then ([123]++(List.range' 0 n.Kids.length).flatMap (mX (iH d) n))++[125] else ([91]++(List.range' 0 n.Kids.length).flatMap (mX (iH d) n))++[93]:=by rw [iH]
theorem maxL:4000000000<=maxLen:=by decide
theorem Bf (s:aA):(ny s).length<=2*s.length+2:=by
  have:(s.flatMap mg).length<=2*s.length:=by
    induction s with
    | nil=>simp
    | cons b s ih =>
      rw [List.flatMap_cons,List.length_append,List.length_cons]
      have:(mg b).length<=2:=by unfold mg; split<;>simp
      omega
  unfold ny
  simp only [List.length_cons,List.length_append,List.length_nil]
  omega
theorem zf {s:aA} {i:Nat} (h:i<s.length):(s.take (i+1)).drop i=[s.getD i 0]:=by
 rw [List.take_succ_eq_append_getElem h,List.drop_append_of_le_length (by simp; omega),List.drop_of_length_le (by rw [List.length_take]; omega),List.nil_append,dI _ h]
theorem T.gK (s:aA) (hs:s.length<=1000000):Ev (fun f=>G.gK f s) (ny s):=by
  have hM:=maxL
  have L:∀ (k i:Nat) (z:aA),i+k=s.length->z.length<=2*i+1->Ev (fun f=>G.gK.L1 f s z i) (z++((s.drop i).flatMap mg++[34])):=by
    intro k
    induction k with
    | zero =>
      intro i z hi hz
      refine Ev.up ?_
      simp only [G.gK.L1]
      refine Ev.cf (decide_eq_false (by omega)) (Ev.chk (by omega) (Ev.ret' ?_))
      rw [List.drop_of_length_le (by omega)]; rfl
    | succ k ih =>
      intro i z hi hz
      have hil:i<s.length:=by omega
      have e1:=zf hil
      have two:s.getD i 0=34\/s.getD i 0=92->Ev (fun f=>G.gK.L1 f s ((z++[92])++[s.getD i 0]) ((i+1:Nat):Int)) (z++((s.drop i).flatMap mg++[34])):=fun hq=>by
        refine (ih (i+1) _ (by omega) (by simp; omega)).eq ?_
        rw [aY (0:UInt8) hil,List.flatMap_cons]
        have:mg (s.getD i 0)=[92,s.getD i 0]:=if_pos hq
        rw [this]
        simp
      have Oz:∀ c:UInt8,((((s.getD i 0).toNat:Nat):Int)==((c.toNat:Nat):Int))=(s.getD i 0==c):=fun c=>by
        rw [Bool.eq_iff_iff,beq_iff_eq,beq_iff_eq]
        exact ⟨fun h=>UInt8.toNat_inj.1 (by omega),fun h=>by rw [h]⟩
      refine Ev.up ?_
      simp only [G.gK.L1,Int.toNat_natCast,bu (show i+1<9223372036854775808 by omega),e1]
      refine Ev.ct (decide_eq_true (by omega)) (Ev.chk (by omega) (Ev.ite (fun h => ?_) (fun h => ?_)))
      · have h:s.getD i 0=34:=by rw [show ((34:Int))=(((34:UInt8).toNat:Nat):Int) from rfl,Oz] at h; simpa using h
        exact Ev.chk (by omega) (Ev.chk (by omega) (Ev.chk (by simp only [List.length_singleton]; omega) (two (.inl h))))
      · have h:s.getD i 0 ≠ 34:=by rw [show ((34:Int))=(((34:UInt8).toNat:Nat):Int) from rfl,Oz] at h; simpa using h
        refine Ev.chk (by omega) (Ev.ite (fun h2 => ?_) (fun h2 => ?_))
        · have h2:s.getD i 0=92:=by rw [show ((92:Int))=(((92:UInt8).toNat:Nat):Int) from rfl,Oz] at h2; simpa using h2
          exact Ev.chk (by omega) (Ev.chk (by omega) (Ev.chk (by simp only [List.length_singleton]; omega) (two (.inr h2))))
        · have h2:s.getD i 0 ≠ 92:=by rw [show ((92:Int))=(((92:UInt8).toNat:Nat):Int) from rfl,Oz] at h2; simpa using h2
          refine Ev.chk (by omega) (Ev.chk (by simp only [List.length_singleton]; omega) ?_)
          refine (ih (i+1) _ (by omega) (by simp; omega)).eq ?_
          rw [aY (0:UInt8) hil,List.flatMap_cons]
          have:mg (s.getD i 0)=[s.getD i 0]:=if_neg (fun q=>q.elim h h2)
          rw [this]
          simp
  refine Ev.up ?_
  simp only [G.gK]
  exact (L s.length 0 [34] (by omega) (by simp)).eq (by rw [List.drop_zero]; rfl)
theorem nS:∀ {i:Nat},i<=999999->(kT i).length<=6:=by
 have step:∀ {i m:Nat},(kT (i/10)).length<=m->(kT i).length<=m+1:=fun {i m} h=>by
  rw [kT]
  split
  ·simp
  ·simp; omega
 intro i h
 have h1:(kT (i/10/10/10/10/10)).length<=1:=by rw [kV (by omega)]; simp
 exact step (step (step (step (step h1))))
theorem Ii {z:Int} (h1 : -999999<=z) (h2:z<=999999):(mM z).length<=7:=by
 unfold mM
 split
 ·have:=nS (i:=(-z).toNat) (by omega)
  simp; omega
 ·have:=nS (i:=z.toNat) (by omega)
  omega
theorem T.GH {z:Int} (h1 : -999999<=z) (h2:z<=999999):Ev (fun f=>G.fC f z) (mM z):=by
 have hM:=maxL
 unfold mM
 by_cases h:z<0
 ·rw [if_pos h]
  have w:IntKind.wrap .i64 (0-z)=(((-z).toNat:Nat):Int):=wrapN (by omega) (by omega)
  have hl:=nS (i:=(-z).toNat) (by omega)
  refine Ev.up ?_
  simp only [G.fC,w]
  exact Ev.ct (decide_eq_true h) (Ev.cf (by simp only [beq_eq_false_iff_ne]; omega) (Ev.bind (T.decimal (by unfold lim; omega)) (Ev.chk (by omega) (Ev.ret' rfl))))
 ·rw [if_neg h]
  obtain ⟨k,rfl⟩:∃ k:Nat,z=k:=⟨z.toNat,by omega⟩
  rw [Int.toNat_natCast]
  exact T.decimal (by unfold lim; omega)
theorem pg {n:af} (h:Parts n=true) (hk:n.Kind=1) : -999999<=n.Num/\n.Num<=999999:=by
 unfold Parts at h
 simp [hk] at h
 omega
theorem tV {n:af} (h:Parts n=true):n.Text.length<=12:=by
 by_cases hk:n.Kind=2
 ·unfold Parts at h
  simp [hk] at h
  exact Be h.2.1
 ·unfold Parts at h
  simp only [Bool.and_eq_true,Bool.or_eq_true,beq_iff_eq] at h
  have:=h.1.1.2.resolve_left hk
  rw [this]; simp
theorem ET {α:Type} {g:Nat->List α} {m:Nat} : ∀ (k i:Nat),(∀ j,i<=j->j<i+k->(g j).length<=m)->((List.range' i k).flatMap g).length<=k*m:=by
  intro k
  induction k with
  | zero=>intro i _; simp
  | succ k ih =>
    intro i h
    have h1:=h i (by omega) (by omega)
    have h2:=ih (i+1) (fun j h1 h2=>h j (by omega) (by omega))
    rw [List.range'_succ,List.flatMap_cons,List.length_append,Nat.add_mul]
    omega
theorem wZ:∀ (d:Nat) {n:af},Shape d n=true->(iH d n).length<=200*7^d
  | 0,_,h=>by cases h
  | d+1,n,h=>by
    have hp:=iq h
    have h6:=nK h
    have NZ:1<=7^d:=Nat.one_le_pow _ _ (by omega)
    rw [jd,Nat.pow_succ]
    have hb:((List.range' 0 n.Kids.length).flatMap (mX (iH d) n)).length<=6*(28+200*7^d):=by
      refine Nat.le_trans (ET (m:=28+200*7^d) _ _ (fun j _ hj => ?_)) (Nat.mul_le_mul_right _ h6)
      have hj':j<n.Kids.length:=by omega
      have hk:=wZ d (pz h hj')
      unfold mX
      rw [List.length_append,List.length_append]
      have a1:(if 0<j then ([44]:aA) else []).length<=1:=by split<;>simp
      have a2:(if n.Kind=4 then ny (n.Names.getD j default)++[58] else []).length<=27:=by
        split
        · rename_i h4
          obtain ⟨mn,_,hn⟩:=EZ hp h4
          have:=hn _ (getD_mem default (show j<n.Names.length by rw [<- mn.len]; exact hj'))
          have:=Bf (n.Names.getD j default)
          simp only [List.length_append,List.length_singleton]
          omega
        · simp
      omega
    split
    · rename_i h1
      obtain ⟨b1,b2⟩:=pg hp h1
      have:=Ii b1 b2
      omega
    · split
      · have:=tV hp
        have:=Bf n.Text
        omega
      · split
        · simp only [List.length_cons,List.length_nil]; omega
        · split
          · simp only [List.length_append,List.length_singleton]; omega
          · simp only [List.length_append,List.length_singleton]; omega
theorem T.bI:∀ (d:Nat) {n:af},d<=5->Shape d n=true->Ev (fun f=>G.bI f n) (iH d n)
  | 0,_,_,h=>by cases h
  | d+1,n,hd,h=>by
    have hM:=maxL
    have hp:=iq h
    have h6:=nK h
    have NZ:=rE hd
    rw [Nat.pow_succ] at NZ
    have L:∀ (k i:Nat) (z:aA),i+k=n.Kids.length->z.length<=i*1000000->Ev (fun f=>G.bI.L5 f n z i)
        (if n.Kind=4 then ([123]++(z++(List.range' i k).flatMap (mX (iH d) n)))++[125] else ([91]++(z++(List.range' i k).flatMap (mX (iH d) n)))++[93]):=by
      intro k
      induction k with
      | zero =>
        intro i z hi hz
        refine Ev.up ?_
        simp only [G.bI.L5]
        refine Ev.cf (decide_eq_false (by omega)) (Ev.ite (fun e=>Ev.chk (by omega) (Ev.chk (by omega) (Ev.ret' ?_))) (fun e=>Ev.chk (by omega) (Ev.chk (by omega) (Ev.ret' ?_))))
        · rw [if_pos (by simpa using e)]; simp
        · rw [if_neg (by simpa using e)]; simp
      | succ k ih =>
        intro i z hi hz
        have hil:i<n.Kids.length:=by omega
        have hk:=pz h hil
        have hkl:=wZ d hk
        have K7:∀ z':aA,z'.length<=i*1000000+28->z'++iH d (n.Kids.getD i default)=z++mX (iH d) n i->Ev (fun f=>G.bI.K7 f n (i:Int) z')
            (if n.Kind=4 then ([123]++(z++(List.range' i (k+1)).flatMap (mX (iH d) n)))++[125] else ([91]++(z++(List.range' i (k+1)).flatMap (mX (iH d) n)))++[93]):=fun z' hz' he=>by
          refine Ev.up ?_
          simp only [G.bI.K7,Int.toNat_natCast,bu (show i+1<9223372036854775808 by omega)]
          refine Ev.chk (by omega) (Ev.bind (T.bI d (by omega) hk) (Ev.chk (by omega) ?_))
          refine (ih (i+1) _ (by omega) (by rw [List.length_append]; omega)).eq ?_
          rw [List.range'_succ,List.flatMap_cons,<- List.append_assoc z,<- he]
        have K6:∀ z':aA,z'=z++(if 0<i then [44] else [])->Ev (fun f=>G.bI.K6 f n (i:Int) z')
            (if n.Kind=4 then ([123]++(z++(List.range' i (k+1)).flatMap (mX (iH d) n)))++[125] else ([91]++(z++(List.range' i (k+1)).flatMap (mX (iH d) n)))++[93]):=fun z' he=>by
          have hz':z'.length<=i*1000000+1:=by
            rw [he,List.length_append]
            have:(if 0<i then ([44]:aA) else []).length<=1:=by split<;>simp
            omega
          refine Ev.up ?_
          simp only [G.bI.K6,Int.toNat_natCast]
          by_cases h4:n.Kind=4
          · obtain ⟨mn,_,hn⟩:=EZ hp h4
            have hin:i<n.Names.length:=by rw [<- mn.len]; exact hil
            have h12:=hn _ (getD_mem default hin)
            have hq:=Bf (n.Names.getD i default)
            refine Ev.ct (by simpa using h4) (Ev.chk (by omega) (Ev.bind (T.gK _ (by omega)) (Ev.chk (by omega) (Ev.chk (by omega) (K7 _ (by simp only [List.length_append,List.length_singleton]; omega) ?_)))))
            rw [he]
            unfold mX
            rw [if_pos h4]
            simp
          · refine Ev.cf (by simpa using h4) (K7 z' (Nat.le_trans hz' (Nat.add_le_add_left (by decide) _)) ?_)
            rw [he]
            unfold mX
            rw [if_neg h4]
            simp
        refine Ev.up ?_
        simp only [G.bI.L5]
        refine Ev.ct (decide_eq_true (by omega)) ?_
        by_cases h0:0<i
        · exact Ev.ct (decide_eq_true (by omega)) (Ev.chk (by omega) (K6 _ (by rw [if_pos h0])))
        · exact Ev.cf (decide_eq_false (by omega)) (K6 _ (by rw [if_neg h0,List.append_nil]))
    refine Ev.up ?_
    simp only [G.bI]
    rw [jd]
    refine Ev.ite (fun e => ?_) (fun e1 => ?_)
    · have e:n.Kind=1:=by simpa using e
      rw [if_pos e]
      obtain ⟨b1,b2⟩:=pg hp e
      exact Ev.bind (T.GH b1 b2) (Ev.ret _)
    rw [if_neg (by simpa using e1)]
    refine Ev.ite (fun e => ?_) (fun e2 => ?_)
    · rw [if_pos (by simpa using e)]
      have:=tV hp
      exact Ev.bind (T.gK _ (by omega)) (Ev.ret _)
    rw [if_neg (by simpa using e2)]
    refine Ev.ite (fun e => ?_) (fun e3 => ?_)
    · rw [if_pos (by simpa using e)]
      exact Ev.ret _
    rw [if_neg (by simpa using e3)]
    exact (L n.Kids.length 0 [] (by omega) (by simp)).eq (by simp)
def La (s:aA):Nat:=s.foldl (fun n b=>(131*n+b.toNat)%65521) 17
def KI (k:Nat):UInt8:=hexD.getD k 0
def MN (n:Nat):aA:=[KI (n/4096),KI (n/256%16),KI (n/16%16),KI (n%16)]
def Kq (n:af):aA:=if Val n then MN (La (iH 5 n)) else []
theorem T.iL (s:aA) (hs:s.length<big):Ev (fun f=>G.iL f s) ((La s:Nat):Int):=by
  unfold big at hs
  have L:∀ (k i m:Nat),i+k=s.length->m<65521->Ev (fun f=>G.iL.L1 f s (m:Int) i) (((s.drop i).foldl (fun n b=>(131*n+b.toNat)%65521) m:Nat):Int):=by
    intro k
    induction k with
    | zero =>
      intro i m hi _
      refine Ev.up ?_
      simp only [G.iL.L1]
      refine Ev.cf (decide_eq_false (by omega)) (Ev.ret' ?_)
      rw [List.drop_of_length_le (by omega)]; rfl
    | succ k ih =>
      intro i m hi hm
      have hb:=(s.getD i 0).toNat_lt
      refine Ev.up ?_
      simp only [G.iL.L1,Int.toNat_natCast,rO,bu (show i+1<9223372036854775808 by omega),wrapN (x:=131*(m:Int)) (m:=131*m) (by omega) (by omega)]
      rw [wrapN (x:=((131*m:Nat):Int)+(((s.getD i 0).toNat:Nat):Int)) (m:=131*m+(s.getD i 0).toNat) (by omega) (by omega),show (65521:Int)=((65521:Nat):Int) from rfl,pK]
      rw [aY (0:UInt8) (by omega:i<s.length),List.foldl_cons]
      exact Ev.ct (decide_eq_true (by omega)) (Ev.chk (by omega) (ih (i+1) _ (by omega) (Nat.mod_lt _ (by omega))))
  refine Ev.up ?_
  simp only [G.iL]
  exact L s.length 0 17 (by omega) (by omega)
theorem sum_lt (s:aA):La s<65521:=by
 unfold La
 have:∀ (s:aA) (m:Nat),m<65521->s.foldl (fun n b=>(131*n+b.toNat)%65521) m<65521:=by
  intro s
  induction s with
  | nil=>intro m hm; exact hm
  | cons b s ih=>intro m hm; exact ih _ (Nat.mod_lt _ (by omega))
 exact this s 17 (by omega)
theorem T.kU {n:Nat} (h:n<65536):Ev (fun f=>G.kU f (n:Int)) (MN n):=by
 have hM:=maxL
 have w1:IntKind.wrap .i64 (Int.tdiv (n:Int) 4096)=((n/4096:Nat):Int):=by rw [show (4096:Int)=((4096:Nat):Int) from rfl,rM]; exact wrapN rfl (by omega)
 have w2:IntKind.wrap .i64 (Int.tdiv (n:Int) 256)=((n/256:Nat):Int):=by rw [show (256:Int)=((256:Nat):Int) from rfl,rM]; exact wrapN rfl (by omega)
 have w3:IntKind.wrap .i64 (Int.tdiv (n:Int) 16)=((n/16:Nat):Int):=by rw [show (16:Int)=((16:Nat):Int) from rfl,rM]; exact wrapN rfl (by omega)
 have t2:Int.tmod ((n/256:Nat):Int) 16=((n/256%16:Nat):Int):=by rw [show (16:Int)=((16:Nat):Int) from rfl,pK]
 have t3:Int.tmod ((n/16:Nat):Int) 16=((n/16%16:Nat):Int):=by rw [show (16:Int)=((16:Nat):Int) from rfl,pK]
 have t4:Int.tmod (n:Int) 16=((n%16:Nat):Int):=by rw [show (16:Int)=((16:Nat):Int) from rfl,pK]
 refine Ev.up ?_
 simp only [G.kU,w1,w2,w3,t2,t3,t4,Int.toNat_natCast,UInt8.ofNat_toNat]
 exact Ev.chk (by omega) (Ev.chk (by omega) (Ev.chk (by omega) (Ev.chk (by omega) (Ev.chk (by omega) (Ev.ret' rfl)))))
theorem T.jL {B D:Nat} {n:af} (hB:B<=lim) (h:Fine B D n):Ev (fun f=>G.jL f n) (Kq n):=by
 refine Ev.up ?_
 simp only [G.jL]
 unfold Kq
 refine Ev.bind (T.aT hB h) (Ev.ite (fun e => ?_) (fun e=>Ev.ret' (by rw [e]; rfl)))
 rw [e]
 have hl:=wZ 5 (jP e)
 have hp:=rE (Nat.le_refl 5)
 have:=sum_lt (iH 5 n)
 exact Ev.bind (T.bI 5 (by omega) (jP e)) (Ev.bind (T.iL _ (by unfold big; omega)) (Ev.bind (T.kU (by omega)) (Ev.ret _)))
theorem Fp (n:af):(Kq n).length<=4:=by
 unfold Kq
 split
 ·simp [MN]
 ·simp
theorem D.MV {K:Nat} {r:ReaderT} {s:StoreT} (hs:o5 60 s) (hr:jO K r) (hK:K<=900000000):Dr (K+3) (fun x:aA=>x.length<=60) (fun f=>G.jY f r s):=by
 have hl:=hs.len
 have w:∀ {K':Nat} {r':ReaderT},jO K' r'->K'+2<=K+3->Dr (K+3) (fun x:aA=>x.length<=60) (fun f=>Option.bind (G.aj f r' 12) fun v=>cond (v.1==0) (Option.bind (G.iZ f v.2) fun v4=>some (v4.1,v4.2)) (Option.bind (G.iJ f v.2) fun v5=>some (v5.1,v5.2))):=fun hr' h=>by
  refine Tot.bind (D.pick (m:=12) hr' (by omega) rfl (by decide) (by decide)) ?_
  rintro ⟨x,r1⟩ ⟨_,hr1⟩
  refine Tot.ite (fun _ => ?_) (fun _ => ?_)
  ·refine Tot.bind (D.EH hr1 (by omega)) ?_
   rintro ⟨b,r2⟩ ⟨hb,hr2⟩
   have hb:b.length<=12:=hb
   exact Tot.ret ⟨by show b.length<=60; omega,hr2.mono (by omega)⟩
  ·refine Tot.bind (D.x8 hr1 (by omega)) ?_
   rintro ⟨b,r2⟩ ⟨hb,hr2⟩
   have:=(rC hb).2
   exact Tot.ret ⟨by show b.length<=60; simp only at this; omega,hr2.mono (by omega)⟩
 refine Tot.up ?_
 simp only [G.jY]
 refine Tot.ite (fun e => ?_) (fun _=>w hr (by omega))
 have e':0<s.Items.length:=by simp only [decide_eq_true_eq] at e; omega
 refine Tot.bind (D.pick (m:=4) hr (by omega) rfl (by decide) (by decide)) ?_
 rintro ⟨x,r1⟩ ⟨_,hr1⟩
 refine Tot.ite (fun _ => ?_) (fun _=>w hr1 (by omega))
 refine Tot.bind (D.pick (m:=s.Items.length) hr1 (by omega) rfl e' (by omega)) ?_
 rintro ⟨y,r2⟩ ⟨⟨j,rfl,hj⟩,hr2⟩
 refine Tot.chk (by omega) ?_
 simp only [Int.toNat_natCast]
 exact Tot.ret ⟨(hs.at_ hj).1,hr2.mono (by omega)⟩
def O6:dN:=dN.mk [] 0 rD
def Jd:Option dN->dN × Bool
 | some it=>(it,true)
 | none=>(O6,false)
def DK (s:StoreT) (t:aA):Option dN:=if wz s then (KF s.Items t).map fun j=>s.Items.getD j default else none
theorem T.jB {B:Nat} {s:StoreT} (t:aA) (hB:B<=lim) (h:o5 B s):Ev (fun f=>G.jB f s t) (Jd (DK s t)):=by
  have hl:=h.len
  have hf:=T.iK (s:=s) t (Nat.le_trans hl hB)
  refine Ev.up ?_
  simp only [G.jB]
  unfold DK
  refine Ev.bind (T.bg hB h) (Ev.ite (fun e => ?_) (fun e=>Ev.ret' (by rw [e]; rfl)))
  rw [e]
  refine Ev.bind hf ?_
  cases hj:KF s.Items t with
  | none=>exact Ev.ct (by decide) (Ev.ret' rfl)
  | some j =>
    have hjl:=(Ce.1 hj).1
    rw [hj] at hf
    refine Ev.cf (decide_eq_false (by simp only [uU]; omega)) (Ev.bind (T.dL hB h) (Ev.bind hf (Ev.chk (by simp only [uU]; omega) (Ev.ret' ?_))))
    simp only [uU,Int.toNat_natCast]
    rfl
theorem Gl {s:StoreT} {t:aA} {it:dN} (h:DK s t=some it):J9 s/\it∈s.Items/\it.Name=t/\Val it.Node=true:=by
 unfold DK at h
 split at h
 ·rename_i hs
  obtain ⟨j,hj,rfl⟩:=Option.map_eq_some_iff.1 h
  obtain ⟨h1,h2,_⟩:=Ce.1 hj
  have:=ug.1 hs
  exact ⟨this,getD_mem default h1,h2,(this.it h1).KU⟩
 ·cases h
theorem Iw (s:StoreT) (t:aA):Val (Jd (DK s t)).1.Node=true:=by
 cases h:DK s t with
 | none=>exact vZ
 | some it=>exact (Gl h).2.2.2
theorem D.EF {K:Nat} {r:ReaderT} {tag:aA} (ht:tag.length<=4) (hr:jO K r) (hK:K<=900000000):Dr (K+20) (ji 60) (fun f=>G.gU f r tag):=by
  have L:∀ (j K:Nat) (r:ReaderT) (z:List aA),j<=5->z.length+j<=5->jO K r->K+j+2<=990000000->(∀ s,s∈z->s.length<=60)->Dr (K+j+2) (ji 60) (fun f=>G.gU.L1 f tag (j:Int) r.b r.p z):=by
    intro j
    induction j with
    | zero =>
      intro K r z _ hz hr hK hs
      refine Tot.up ?_
      simp only [G.gU.L1]
      refine Tot.ite (fun e=>by simp at e) (fun _=>Tot.ite (fun e => ?_) (fun _=>Tot.ret ⟨⟨by show z.length<=60; omega,hs⟩,hr.mono (by omega)⟩))
      refine Tot.bind (D.pick (m:=20) hr (by omega) rfl (by decide) (by decide)) ?_
      rintro ⟨x,r1⟩ ⟨_,hr1⟩
      refine Tot.ite (fun _ => ?_) (fun _=>Tot.ret ⟨⟨by show z.length<=60; omega,hs⟩,hr1.mono (by omega)⟩)
      refine Tot.bind (D.of (m:=12) hr1 (by omega) _ (by decide) (by decide) (by decide)) ?_
      rintro ⟨y,r2⟩ ⟨hy,hr2⟩
      have hy:y.length<=12:=hy
      refine Tot.chk (by simp only [decide_eq_true_eq] at e; omega) (Tot.ret ⟨⟨by show (z.set 0 y).length<=60; rw [List.length_set]; omega,fun s hs' => ?_⟩,hr2.mono (by omega)⟩)
      rcases List.mem_or_eq_of_mem_set hs' with q | q
      · exact hs s q
      · rw [q]; omega
    | succ j ih =>
      intro K r z hj hz hr hK hs
      have w:IntKind.wrap .i64 (((j+1:Nat):Int)-1)=(j:Int):=wrapN (by omega) (by omega)
      refine Tot.up ?_
      simp only [G.gU.L1,w]
      refine Tot.ite (fun _ => ?_) (fun e=>absurd e (by simp))
      obtain ⟨x,r1,g,hx,hr1⟩:=T.of hr (by omega) [[42],[48,48,48,48],[49,50,97,98],[102,102,102,102],tag,tag] (by simp) (by simp)
      refine Tot.iy g ?_
      have hxl:x.length<=60:=by
        simp only [List.mem_cons,List.not_mem_nil,or_false] at hx
        rcases hx with rfl | rfl | rfl | rfl | rfl | rfl<;>first | decide | omega
      refine Tot.chk (by omega) (Tot.mono (ih (K+1) r1 (z++[x]) (by omega) (by simp; omega) hr1 (by omega) (fun s hs' => ?_)) (fun y hy=>⟨hy.1,hy.2.mono (by omega)⟩))
      rcases List.mem_append.1 hs' with q | q
      · exact hs s q
      · rw [List.mem_singleton.1 q]; exact hxl
  refine Tot.up ?_
  simp only [G.gU]
  obtain ⟨x,r1,g,hx,hr1⟩:=T.one hr (by omega) [0,1,0,2,0,4,5] (by decide) (by decide)
  refine Tot.iy g ?_
  obtain ⟨j,hj,rfl⟩:∃ j:Nat,j<=5/\x=(j:Int):=by
    simp only [List.mem_cons,List.not_mem_nil,or_false] at hx
    rcases hx with rfl | rfl | rfl | rfl | rfl | rfl | rfl
    · exact ⟨0,by omega,rfl⟩
    · exact ⟨1,by omega,rfl⟩
    · exact ⟨0,by omega,rfl⟩
    · exact ⟨2,by omega,rfl⟩
    · exact ⟨0,by omega,rfl⟩
    · exact ⟨4,by omega,rfl⟩
    · exact ⟨5,by omega,rfl⟩
  exact Tot.mono (L j (K+1) r1 [] hj (by simp; omega) hr1 (by omega) (fun s hs=>by cases hs)) (fun y hy=>⟨hy.1,hy.2.mono (by omega)⟩)
theorem uG:ji 60 []:=⟨by simp,fun s h=>by cases h⟩
abbrev SS (x:RequestT):Prop:=oL 60 x
section
variable {K:Nat} {v1:aA × ReaderT} {v2:dN × Bool} {v3:Int × ReaderT} (h1:v1.1.length<=60) (h2:Val v2.1.Node=true)
include h1
theorem D.jW.K4 {r:ReaderT} {b:af} {w a:List aA} {z:List iI} (hw:ji 60 w) (ha:ji 60 a) (hb:nC 60 b) (hz:oK z) (hr:jO K r) (hK:K<=900000000) :
  Dr (K+1) SS (fun f=>G.aG.K4 f v1 v2 v3 w a r.b r.p b.Kind b.Num b.Text b.Names b.Kids z):=by
 have hb:nC 60 (af.mk b.Kind b.Num b.Text b.Names b.Kids):=by rw [af.eta]; exact hb
 refine Tot.up ?_
 simp only [G.aG.K4]
 refine Tot.ite (fun _=>Tot.ret ⟨⟨h1,hw,ha,hb,hz⟩,hr.mono (by omega)⟩) (fun _ => ?_)
 refine Tot.bind (D.pick (m:=2) hr (by omega) rfl (by decide) (by decide)) ?_
 rintro ⟨x,r1⟩ ⟨_,hr1⟩
 exact Tot.ite (fun _=>Tot.ret ⟨⟨h1,hw,ha,hb,hz⟩,hr1.mono (by omega)⟩) (fun _=>Tot.ret ⟨⟨h1,hw,ha,hb,hz⟩,hr1.mono (by omega)⟩)
include h2
theorem D.jW.L5 {w a:List aA} (hw:ji 60 w) (ha:ji 60 a):∀ (j K:Nat) (r:ReaderT) (z:List iI),z.length+j<=3->oK z->jO K r->K+400*j+1<=500000000 ->
    Dr (K+400*j+1) SS (fun f=>G.aG.L5 f v1 v2 v3 w a (j:Int) r.b r.p z):=by
  intro j
  induction j with
  | zero =>
    intro K r z _ hz hr hK
    refine Tot.up ?_
    simp only [G.aG.L5]
    exact Tot.ite (fun e=>by simp at e) (fun _=>Tot.mono (D.jW.K4 h1 (b:=rD) hw ha ⟨5,kZ vZ⟩ hz hr (by omega)) (fun x hx=>⟨hx.1,hx.2.mono (by omega)⟩))
  | succ j ih =>
    intro K r z hl hz hr hK
    have w':IntKind.wrap .i64 (((j+1:Nat):Int)-1)=(j:Int):=wrapN (by omega) (by omega)
    refine Tot.up ?_
    simp only [G.aG.L5,w']
    refine Tot.ite (fun _ => ?_) (fun e=>absurd e (by simp))
    refine Tot.bind (D.someOp (kZ h2) hr (by omega)) ?_
    rintro ⟨o,r1⟩ ⟨ho,hr1⟩
    refine Tot.chk (by omega) (Tot.mono (ih (K+400) r1 (z++[o]) (by simp; omega) ⟨by simp; omega,fun x hx => ?_⟩ (hr1.mono (by omega)) (by omega)) (fun x hx=>⟨hx.1,hx.2.mono (by omega)⟩))
    rcases List.mem_append.1 hx with q | q
    · exact hz.2 x q
    · rw [List.mem_singleton.1 q]; exact ho
theorem D.jW.K2 {r:ReaderT} {w a:List aA} (hw:ji 60 w) (ha:ji 60 a) (hr:jO K r) (hK:K<=300000000) :
  Dr (K+3000) SS (fun f=>G.aG.K2 f v1 v2 v3 w r.b r.p a):=by
 have fin:∀ {K':Nat} {r':ReaderT} {b:af},nC 60 b->jO K' r'->K'+1<=K+3000->Dr (K+3000) SS (fun f=>G.aG.K4 f v1 v2 v3 w a r'.b r'.p b.Kind b.Num b.Text b.Names b.Kids []):=fun hb hr' h=>by
  exact Tot.mono (D.jW.K4 h1 hw ha hb (rP) hr' (by omega)) (fun x hx=>⟨hx.1,hx.2.mono (by omega)⟩)
 refine Tot.up ?_
 simp only [G.aG.K2]
 refine Tot.ite (fun _ => ?_) (fun _=>Tot.ite (fun _ => ?_) (fun _=>Tot.ite (fun _ => ?_) (fun _=>fin (b:=rD) ⟨5,kZ vZ⟩ hr (by omega))))
 ·refine Tot.bind (D.pF hr (by omega)) ?_
  rintro ⟨b,r1⟩ ⟨hb,hr1⟩
  exact fin ⟨5,kZ hb⟩ hr1 (by omega)
 ·refine Tot.bind (D.Og h2 hr (by omega)) ?_
  rintro ⟨b,r1⟩ ⟨hb,hr1⟩
  exact fin ⟨5,kZ hb⟩ hr1 (by omega)
 ·refine Tot.bind (D.pick (m:=3) hr (by omega) rfl (by decide) (by decide)) ?_
  rintro ⟨x,r1⟩ ⟨⟨j,rfl,hj⟩,hr1⟩
  exact Tot.mono (D.jW.L5 h1 h2 hw ha j (K+1) r1 [] (by simp; omega) rP hr1 (by omega)) (fun x hx=>⟨hx.1,hx.2.mono (by omega)⟩)
theorem D.jW.K1 {r:ReaderT} {w:List aA} (hw:ji 60 w) (hr:jO K r) (hK:K<=200000000) :
  Dr (K+3100) SS (fun f=>G.aG.K1 f v1 v2 v3 r.b r.p w):=by
 refine Tot.up ?_
 simp only [G.aG.K1]
 refine Tot.bind (D.pick (m:=4) hr (by omega) rfl (by decide) (by decide)) ?_
 rintro ⟨x,r1⟩ ⟨_,hr1⟩
 refine Tot.ite (fun _ => ?_) (fun _=>Tot.mono (D.jW.K2 h1 h2 hw uG hr1 (by omega)) (fun x hx=>⟨hx.1,hx.2.mono (by omega)⟩))
 refine Tot.iy (T.jL l7 (kZ h2)) (Tot.bind (D.EF (Fp _) hr1 (by omega)) ?_)
 rintro ⟨t,r2⟩ ⟨ht,hr2⟩
 exact Tot.mono (D.jW.K2 h1 h2 hw ht hr2 (by omega)) (fun x hx=>⟨hx.1,hx.2.mono (by omega)⟩)
end
theorem D.jW {K:Nat} {r:ReaderT} {s:StoreT} (hs:o5 60 s) (hr:jO K r) (hK:K<=100000000):Dr (K+3200) SS (fun f=>G.aG f r s):=by
 refine Tot.up ?_
 simp only [G.aG]
 refine Tot.bind (D.MV hs hr (by omega)) ?_
 rintro ⟨nm,r1⟩ ⟨hnm,hr1⟩
 refine Tot.iy (T.jB nm l7 hs) ?_
 have hv:=Iw s nm
 generalize Jd (DK s nm)=v2 at hv
 refine Tot.bind (D.pick (m:=5) hr1 (by omega) rfl (by decide) (by decide)) ?_
 rintro ⟨m,r2⟩ ⟨_,hr2⟩
 refine Tot.bind (D.pick (m:=3) hr2 (by omega) rfl (by decide) (by decide)) ?_
 rintro ⟨x,r3⟩ ⟨_,hr3⟩
 refine Tot.ite (fun _ => ?_) (fun _=>Tot.mono (D.jW.K1 hnm hv uG hr3 (by omega)) (fun x hx=>⟨hx.1,hx.2.mono (by omega)⟩))
 refine Tot.iy (T.jL l7 (kZ hv)) (Tot.bind (D.EF (Fp _) hr3 (by omega)) ?_)
 rintro ⟨t,r4⟩ ⟨ht,hr4⟩
 exact Tot.mono (D.jW.K1 hnm hv ht hr4 (by omega)) (fun x hx=>⟨hx.1,hx.2.mono (by omega)⟩)
theorem D.DV {K:Nat} {r:ReaderT} {s:StoreT} (hs:o5 60 s) (hr:jO K r) (hK:K<=90000000):Dr (K+4000) SS (fun f=>G.ja f r s):=by
 refine Tot.up ?_
 simp only [G.ja]
 refine Tot.bind (D.jW hs hr (by omega)) ?_
 rintro ⟨q,r1⟩ ⟨hq,hr1⟩
 have hq:oL 60 q:=hq
 refine Tot.bind (D.pick (m:=30) hr1 (by omega) rfl (by decide) (by decide)) ?_
 rintro ⟨x,r2⟩ ⟨_,hr2⟩
 refine Tot.ite (fun _ => ?_) (fun _=>Tot.ite (fun _ => ?_) (fun _=>Tot.ite (fun _ => ?_) (fun _=>Tot.ret ⟨hq,hr2.mono (by omega)⟩)))
 ·refine Tot.bind (D.one hr2 (by omega) _ (by decide) (by decide)) ?_
  rintro ⟨c,r3⟩ ⟨_,hr3⟩
  exact Tot.ret ⟨⟨hq.tJ,hq.want,hq.avoid,hq.body,hq.ops⟩,hr3.mono (by omega)⟩
 ·refine Tot.bind (D.EH hr2 (by omega)) ?_
  rintro ⟨b,r3⟩ ⟨hb,hr3⟩
  have hb:b.length<=12:=hb
  exact Tot.ret ⟨⟨by show b.length<=60; omega,hq.want,hq.avoid,hq.body,hq.ops⟩,hr3.mono (by omega)⟩
 ·refine Tot.bind (D.Ak hr2 (by omega)) ?_
  rintro ⟨v,r3⟩ ⟨⟨E,hv⟩,hr3⟩
  exact Tot.ret ⟨⟨hq.tJ,hq.want,hq.avoid,⟨E,hv.mono (by omega) (Nat.le_refl _)⟩,hq.ops⟩,hr3.mono (by omega)⟩
end Go.Ab
end
section
namespace Go.Ab
open Go
set_option maxRecDepth 100000
theorem T.wb {b:dF} {c:Int} (hc:0<=c/\c<256) (hl:b.buf.length+1<=140737488355328):Ev (fun f=>G.ax f b c) ((),dF.mk (b.buf++[UInt8.ofNat c.toNat])):=by
 refine Ev.up ?_
 simp only [G.ax]
 exact Ev.chk ⟨hc,hl⟩ (Ev.ret _)
theorem T.ws {b:dF} {s:aA} (hl:b.buf.length+s.length<=140737488355328):Ev (fun f=>G.eX f b s) (((s.length:Nat):Int),(),dF.mk (b.buf++s)):=by
 refine Ev.up ?_
 simp only [G.eX]
 exact Ev.chk hl (Ev.ret _)
theorem T.bs' {b:dF} (hl:b.buf.length<=140737488355328):Ev (fun f=>G.fF f b) b.buf:=by
 refine Ev.up ?_
 simp only [G.fF]
 exact Ev.chk hl (Ev.ret _)
theorem Fq (b:UInt8):UInt8.ofNat ((b.toNat:Nat):Int).toNat=b:=by simp
theorem T.bT {s z:aA} (h:z.length+2*s.length+2<=4000000000):Ev (fun f=>G.bT f (dF.mk z) s) (dF.mk (z++ny s)):=by
  have oq:∀ (z:aA) (b:UInt8),z.length<5000000000->Ev (fun f=>G.ax f (dF.mk z) ((b.toNat:Nat):Int)) ((),dF.mk (z++[b])):=fun z b hz=>by
    have:=T.wb (b:=dF.mk z) (c:=((b.toNat:Nat):Int)) (by have:=b.toNat_lt; omega) (by show z.length+1<=_; omega)
    rwa [Fq] at this
  have L:∀ (k i:Nat) (z:aA),i+k=s.length->z.length+2*k+1<=4000000001->Ev (fun f=>G.bT.L3 f s (i:Int) z) (dF.mk (z++((s.drop i).flatMap mg++[34]))):=by
    intro k
    induction k with
    | zero =>
      intro i z hi hz
      rw [List.drop_eq_nil_of_le (by omega)]
      refine Ev.up ?_
      simp only [G.bT.L3]
      exact Ev.cf (decide_eq_false (by omega)) (Ev.bind (oq z 34 (by omega)) (Ev.ret' rfl))
    | succ k ih =>
      intro i z hi hz
      have hlt:i<s.length:=by omega
      have hd:s.drop i=s.getD i 0::s.drop (i+1):=by rw [List.drop_eq_getElem_cons hlt]; simp [List.getD,hlt]
      have hK:∀ z:aA,z.length+2*k+2<=4000000001->Ev (fun f=>G.bT.K4 f s (i:Int) z) (dF.mk (z++(s.getD i 0::((s.drop (i+1)).flatMap mg++[34])))):=fun z hz=>by
        refine Ev.up ?_
        simp only [G.bT.K4]
        rw [Int.toNat_natCast]
        refine Ev.chk (by omega) (Ev.bind (oq z (s.getD i 0) (by omega)) ?_)
        rw [bu (by omega)]
        have:=ih (i+1) (z++[s.getD i 0]) (by omega) (by simp; omega)
        simpa using this
      rw [hd]
      refine Ev.up ?_
      simp only [G.bT.L3]
      rw [Int.toNat_natCast]
      refine Ev.ct (decide_eq_true (by omega)) (Ev.chk (by omega) (Ev.ite (fun e => ?_) (fun e=>Ev.chk (by omega) (Ev.ite (fun e2 => ?_) (fun e2 => ?_)))))
      · have hb:s.getD i 0=34:=UInt8.toNat_inj.1 (by have:=beq_iff_eq.1 e; show (s.getD i 0).toNat=34; omega)
        refine Ev.bind (oq z 92 (by omega)) ?_
        have:=hK (z++[92]) (by simp; omega)
        rw [hb] at this ⊢
        simpa [mg] using this
      · have hb:s.getD i 0=92:=UInt8.toNat_inj.1 (by have:=beq_iff_eq.1 e2; show (s.getD i 0).toNat=92; omega)
        refine Ev.bind (oq z 92 (by omega)) ?_
        have:=hK (z++[92]) (by simp; omega)
        rw [hb] at this ⊢
        simpa [mg] using this
      · have:=hK z (by omega)
        have hq:mg (s.getD i 0)=[s.getD i 0]:=by
          unfold mg
          rw [if_neg]
          rintro (h | h)
          · rw [h] at e; simp at e
          · rw [h] at e2; simp at e2
        rw [List.flatMap_cons,hq]
        simpa using this
  refine Ev.up ?_
  simp only [G.bT]
  refine Ev.bind (oq z 34 (by omega)) ?_
  have:=L s.length 0 (z++[34]) (by omega) (by simp; omega)
  simpa [ny] using this
end Go.Ab
end
section
namespace Go.Ab
open Go
set_option maxRecDepth 100000
theorem CS (z:Int):Lib.itoa z=mM z:=by
 unfold Lib.itoa mM
 split
 ·rw [Ij (z.natAbs+1) z.natAbs (by omega),show z.natAbs=(-z).toNat from by omega]
 ·rw [Ij (z.toNat+1) z.toNat (by omega)]
theorem T.itoa {z:Int} (h : -900000000000000<=z/\z<=900000000000000):Ev (fun f=>G.strconv_Itoa f z) (mM z):=by
 rw [<- CS]; exact T.Itoa h
theorem qf {n:af} (h:Parts n=true):n.Kind=0\/n.Kind=1\/n.Kind=2\/n.Kind=3\/n.Kind=4:=by
 by_cases h0:n.Kind=0\/n.Kind=1\/n.Kind=2\/n.Kind=3\/n.Kind=4
 ·exact h0
 ·simp only [not_or] at h0
  obtain ⟨a,b,c,d,e⟩:=h0
  unfold Parts at h
  rw [if_neg a,if_neg b,if_neg c,if_neg d,if_neg e] at h
  simp at h
theorem oq {z:aA} (b:UInt8) (hz:z.length<5000000000):Ev (fun f=>G.ax f (dF.mk z) ((b.toNat:Nat):Int)) ((),dF.mk (z++[b])):=by
 have:=T.wb (b:=dF.mk z) (c:=((b.toNat:Nat):Int)) (by have:=b.toNat_lt; omega) (by show z.length+1<=_; omega)
 rwa [Fq] at this
theorem uH (F:af->aA) (n:af) (i:Nat):mX F n i=(if 0<i then [44] else [])++((if n.Kind=4 then ny (n.Names.getD i default)++[58] else [])++F (n.Kids.getD i default)):=by
 unfold mX; rw [List.append_assoc]
theorem T.aN:∀ (d:Nat) {n:af} {z:aA},Shape d n=true->z.length+(iH d n).length<=2000000000->Ev (fun f=>G.aN f (dF.mk z) n) (dF.mk (z++iH d n))
  | 0,_,_,h,_=>by cases h
  | d+1,n,z,h,hz=>by
    have hp:=iq h
    have h6:=nK h
    rw [jd] at hz ⊢
    have L3:n.Kind=3->∀ (k i:Nat) (z:aA),i+k=n.Kids.length->z.length+((List.range' i k).flatMap (mX (iH d) n)++[93]).length<=2000000000 ->
        Ev (fun f=>G.aN.L3 f n (i:Int) z) (dF.mk (z++((List.range' i k).flatMap (mX (iH d) n)++[93]))):=by
      intro hk3 k
      induction k with
      | zero =>
        intro i z hi hz
        refine Ev.up ?_
        simp only [G.aN.L3]
        refine Ev.cf (decide_eq_false (by omega)) (Ev.bind (oq 93 (by omega)) (Ev.ret' ?_))
        simp
      | succ k ih =>
        intro i z hi hz
        have hil:i<n.Kids.length:=by omega
        rw [List.range'_succ,List.flatMap_cons] at hz ⊢
        simp only [List.length_append] at hz
        have ez:mX (iH d) n i=(if 0<i then [44] else [])++iH d (n.Kids.getD i default):=by rw [uH,if_neg (by omega:¬ n.Kind=4),List.nil_append]
        have hK:∀ z':aA,z'=z++(if 0<i then [44] else [])->Ev (fun f=>G.aN.K4 f n (i:Int) z') (dF.mk (z++((mX (iH d) n i++(List.range' (i+1) k).flatMap (mX (iH d) n))++[93]))):=fun z' he=>by
          have e2:z'++iH d (n.Kids.getD i default)=z++mX (iH d) n i:=by rw [he,ez,List.append_assoc]
          have e3:=congrArg List.length e2
          simp only [List.length_append] at e3
          refine Ev.up ?_
          simp only [G.aN.K4,Int.toNat_natCast,bu (show i+1<9223372036854775808 by omega)]
          refine Ev.bind (T.aN d (pz h hil) (by omega)) ?_
          refine (ih (i+1) _ (by omega) (by simp only [List.length_append]; omega)).eq ?_
          rw [e2]; simp only [List.append_assoc]
        refine Ev.up ?_
        simp only [G.aN.L3]
        refine Ev.ct (decide_eq_true (by omega)) (Ev.chk (by omega) ?_)
        by_cases h0:0<i
        · exact Ev.ct (decide_eq_true (by omega)) (Ev.bind (oq 44 (by omega)) (hK _ (by rw [if_pos h0])))
        · exact Ev.cf (decide_eq_false (by omega)) (hK _ (by rw [if_neg h0,List.append_nil]))
    have L7:n.Kind=4->∀ (k i:Nat) (z:aA),i+k=n.Kids.length->z.length+((List.range' i k).flatMap (mX (iH d) n)++[125]).length<=2000000000 ->
        Ev (fun f=>G.aN.L7 f n (i:Int) z) (dF.mk (z++((List.range' i k).flatMap (mX (iH d) n)++[125]))):=by
      intro hk4 k
      obtain ⟨mn,_,hn⟩:=EZ hp hk4
      induction k with
      | zero =>
        intro i z hi hz
        refine Ev.up ?_
        simp only [G.aN.L7]
        refine Ev.cf (decide_eq_false (by omega)) (Ev.bind (oq 125 (by omega)) (Ev.ret' ?_))
        simp
      | succ k ih =>
        intro i z hi hz
        have hil:i<n.Kids.length:=by omega
        have hin:i<n.Names.length:=by rw [<- mn.len]; exact hil
        have h12:=hn _ (getD_mem default hin)
        rw [List.range'_succ,List.flatMap_cons] at hz ⊢
        simp only [List.length_append] at hz
        have ez:mX (iH d) n i=(if 0<i then [44] else [])++((ny (n.Names.getD i default)++[58])++iH d (n.Kids.getD i default)):=by rw [uH,if_pos hk4]
        have hK:∀ z':aA,z'=z++(if 0<i then [44] else [])->Ev (fun f=>G.aN.K8 f n (i:Int) z') (dF.mk (z++((mX (iH d) n i++(List.range' (i+1) k).flatMap (mX (iH d) n))++[125]))):=fun z' he=>by
          have e2:((z'++ny (n.Names.getD i default))++[58])++iH d (n.Kids.getD i default)=z++mX (iH d) n i:=by rw [he,ez]; simp only [List.append_assoc]
          have e3:=congrArg List.length e2
          simp only [List.length_append] at e3
          refine Ev.up ?_
          simp only [G.aN.K8,Int.toNat_natCast,bu (show i+1<9223372036854775808 by omega)]
          refine Ev.chk (by omega) (Ev.bind (T.bT (by omega)) (Ev.bind (oq 58 (by simp only [List.length_append]; omega)) ?_))
          refine Ev.bind (T.aN d (pz h hil) (by simp only [List.length_append]; omega)) ?_
          refine (ih (i+1) _ (by omega) (by simp only [List.length_append]; omega)).eq ?_
          rw [e2]; simp only [List.append_assoc]
        refine Ev.up ?_
        simp only [G.aN.L7]
        refine Ev.ct (decide_eq_true (by omega)) (Ev.chk (by omega) ?_)
        by_cases h0:0<i
        · exact Ev.ct (decide_eq_true (by omega)) (Ev.bind (oq 44 (by omega)) (hK _ (by rw [if_pos h0])))
        · exact Ev.cf (decide_eq_false (by omega)) (hK _ (by rw [if_neg h0,List.append_nil]))
    refine Ev.up ?_
    simp only [G.aN]
    rcases qf hp with e | e | e | e | e<;>simp only [e,reduceIte,Int.reduceEq] at hz ⊢
    · exact Ev.ct rfl (Ev.bind (T.ws (by simp only [List.length_cons,List.length_nil] at hz ⊢; omega)) (Ev.ret _))
    · obtain ⟨b1,b2⟩:=pg hp e
      exact Ev.cf rfl (Ev.ct rfl (Ev.bind (T.itoa (by omega)) (Ev.bind (T.ws (by show z.length+_<=_; omega)) (Ev.ret _))))
    · have:=tV hp
      exact Ev.cf rfl (Ev.cf rfl (Ev.ct rfl (Ev.bind (T.bT (by omega)) (Ev.ret _))))
    · refine Ev.cf rfl (Ev.cf rfl (Ev.cf rfl (Ev.ct rfl (Ev.bind (oq 91 (by omega)) ?_))))
      refine (L3 e n.Kids.length 0 (z++[91]) (by omega) (by simp only [List.length_append,List.length_cons,List.length_nil] at hz ⊢; omega)).eq ?_
      simp only [List.append_assoc]
    · refine Ev.cf rfl (Ev.cf rfl (Ev.cf rfl (Ev.cf rfl (Ev.ct rfl (Ev.bind (oq 123 (by omega)) ?_)))))
      refine (L7 e n.Kids.length 0 (z++[123]) (by omega) (by simp only [List.length_append,List.length_cons,List.length_nil] at hz ⊢; omega)).eq ?_
      simp only [List.append_assoc]
theorem fmt5 {n:af} (h:Val n=true):(iH 5 n).length<=4000000:=by
 have:=wZ 5 (jP h)
 have:=rE (Nat.le_refl 5)
 omega
def JZ (n:af):aA:=if Val n then iH 5 n else []
theorem T.iE {B D:Nat} {n:af} (hB:B<=lim) (h:Fine B D n):Ev (fun f=>G.iE f n) (JZ n):=by
 refine Ev.up ?_
 simp only [G.iE]
 unfold JZ
 refine Ev.bind (T.cZ hB h) (Ev.ite (fun e => ?_) (fun e=>Ev.ret' (by rw [e]; rfl)))
 have hl:=fmt5 e
 rw [e]
 exact Ev.bind (T.aN 5 (jP e) (by simp only [List.length_nil]; omega)) (Ev.bind (T.bs' (by show (_:aA).length<=_; simp only [List.nil_append]; omega)) (Ev.ret _))
end Go.Ab
end
section
namespace Go.Ab
open Go
set_option maxRecDepth 100000
theorem su {t:aA} (h:uy t=true):t.length=4:=by
 unfold uy at h
 simp only [Bool.and_eq_true,decide_eq_true_eq] at h
 exact h.2
theorem pI {t:aA} (h:qG t=true):t.length<=4:=by
 unfold qG at h
 simp only [Bool.or_eq_true,beq_iff_eq] at h
 rcases h with h | h
 ·rw [h]; simp
 ·rw [su h]; exact Nat.le_refl _
theorem lq {l:List aA} (h:lY l=true):l.length<=4/\∀ t,t∈l->qG t=true:=by
 unfold lY at h
 simp only [Bool.and_eq_true,decide_eq_true_eq,List.all_eq_true] at h
 exact ⟨h.2,h.1⟩
theorem KX {t:aA} (h:uy t=true):ny t=34::(t++[34]):=by
  unfold uy at h
  simp only [Bool.and_eq_true,List.all_eq_true] at h
  have:∀ l:aA,(∀ b,b∈l->I9 b=true)->l.flatMap mg=l:=by
    intro l
    induction l with
    | nil=>intro _; rfl
    | cons b l ih =>
      intro hb
      have h1:=hb b (List.mem_cons_self ..)
      have:mg b=[b]:=by
        unfold mg
        rw [if_neg]
        rintro (e | e)<;>(rw [e] at h1; exact absurd h1 (by decide))
      rw [List.flatMap_cons,this,ih (fun c hc=>hb c (List.mem_cons_of_mem _ hc))]
      rfl
  unfold ny
  rw [this t h.1]
def oI (t:aA):aA:=if t=[42] then [42] else 34::(t++[34])
def Bl (l:List aA) (i:Nat):aA:=(if 0<i then [44] else [])++oI (l.getD i default)
def nG (l:List aA):aA:=if lY l then (List.range' 0 l.length).flatMap (Bl l) else []
theorem Bo {l:List aA} (h:lY l=true) (i:Nat):(Bl l i).length<=7:=by
 have h1:(if 0<i then ([44]:aA) else []).length<=1:=by split<;>simp
 have h2:(l.getD i default).length<=4:=by
  by_cases hi:i<l.length
  ·exact pI ((lq h).2 _ (getD_mem default hi))
  ·rw [List.getD,List.getElem?_eq_none (by omega)]; simp; decide
 have h3:(oI (l.getD i default)).length<=6:=by
  unfold oI
  split
  ·simp
  ·simp only [List.length_cons,List.length_append,List.length_nil]; omega
 unfold Bl
 rw [List.length_append]
 omega
theorem sH (l:List aA):(nG l).length<=28:=by
 unfold nG
 split
 ·rename_i h
  have:=ET (g:=Bl l) (m:=7) l.length 0 (fun j _ _=>Bo h j)
  have:=(lq h).1
  omega
 ·simp
theorem T.bQ {l:List aA} (hs:Sm l):Ev (fun f=>G.bQ f l) (nG l):=by
  refine Ev.up ?_
  simp only [G.bQ]
  unfold nG
  refine Ev.bind (T.dX hs) (Ev.ite (fun e => ?_) (fun e=>Ev.ret' (by rw [e]; rfl)))
  obtain ⟨h4,ht⟩:=lq e
  rw [e]
  have L:∀ (k i:Nat) (z:aA),i+k=l.length->z.length+7*k<=1000->Ev (fun f=>G.bQ.L3 f l i z) (z++(List.range' i k).flatMap (Bl l)):=by
    intro k
    induction k with
    | zero =>
      intro i z hi hz
      refine Ev.up ?_
      simp only [G.bQ.L3]
      exact Ev.cf (decide_eq_false (by omega)) (Ev.bind (T.bs' (by show z.length<=_; omega)) (Ev.ret' (by simp)))
    | succ k ih =>
      intro i z hi hz
      have hil:i<l.length:=by omega
      have hl:=Bo e i
      have hv:=ht _ (getD_mem default hil)
      have h4:=pI hv
      have ez:Bl l i=(if 0<i then [44] else [])++oI (l.getD i default):=rfl
      have K:∀ z':aA,z'=z++(if 0<i then [44] else [])->Ev (fun f=>G.bQ.K4 f l i z') (z++(List.range' i (k+1)).flatMap (Bl l)):=fun z' he=>by
        have e2:z'++oI (l.getD i default)=z++Bl l i:=by rw [he,ez,List.append_assoc]
        have e3:=congrArg List.length e2
        simp only [List.length_append] at e3
        have hn:=ih (i+1) (z'++oI (l.getD i default)) (by omega) (by rw [e2,List.length_append]; omega)
        refine Ev.up ?_
        simp only [G.bQ.K4,Int.toNat_natCast,bu (show i+1<9223372036854775808 by omega)]
        have fin:(z'++oI (l.getD i default))++(List.range' (i+1) k).flatMap (Bl l)=z++(List.range' i (k+1)).flatMap (Bl l):=by
          rw [e2,List.range'_succ,List.flatMap_cons,List.append_assoc]
        rw [<- fin]
        refine Ev.ite (fun c => ?_) (fun c => ?_)
        · have c':l.getD i default=[42]:=by simpa using c
          have:oI (l.getD i default)=l.getD i default:=by unfold oI; rw [if_pos c',c']
          rw [this] at hn e3 ⊢
          exact Ev.bind (T.ws (by show z'.length+_<=_; omega)) hn
        · have c':¬ l.getD i default=[42]:=by simpa using c
          have hsv:uy (l.getD i default)=true:=by
            unfold qG at hv
            simp only [Bool.or_eq_true,beq_iff_eq] at hv
            exact hv.resolve_left c'
          have:oI (l.getD i default)=ny (l.getD i default):=by unfold oI; rw [if_neg c',KX hsv]
          rw [this] at hn e3 ⊢
          exact Ev.bind (T.bT (by omega)) hn
      refine Ev.up ?_
      simp only [G.bQ.L3]
      refine Ev.ct (decide_eq_true (by omega)) (Ev.chk (by omega) ?_)
      by_cases h0:0<i
      · exact Ev.ct (decide_eq_true (by omega)) (Ev.bind (oq 44 (by omega)) (K _ (by rw [if_pos h0])))
      · exact Ev.cf (decide_eq_false (by omega)) (K _ (by rw [if_neg h0,List.append_nil]))
  exact (L l.length 0 [] (by omega) (by simp; omega)).eq (by simp)
theorem T.bF {l:List aA} (hs:Sm l):Ev (fun f=>G.bF f l) (nG l):=by
  have hM:=maxL
  refine Ev.up ?_
  simp only [G.bF]
  unfold nG
  refine Ev.bind (T.bZ hs) (Ev.ite (fun e => ?_) (fun e=>Ev.ret' (by rw [e]; rfl)))
  obtain ⟨h4,ht⟩:=lq e
  rw [e]
  have L:∀ (k i:Nat) (z:aA),i+k=l.length->z.length+7*k<=1000->Ev (fun f=>G.bF.L3 f l z i) (z++(List.range' i k).flatMap (Bl l)):=by
    intro k
    induction k with
    | zero =>
      intro i z hi hz
      refine Ev.up ?_
      simp only [G.bF.L3]
      exact Ev.cf (decide_eq_false (by omega)) (Ev.ret' (by simp))
    | succ k ih =>
      intro i z hi hz
      have hil:i<l.length:=by omega
      have hl:=Bo e i
      have h4:=pI (ht _ (getD_mem default hil))
      have ez:Bl l i=(if 0<i then [44] else [])++oI (l.getD i default):=rfl
      have K:∀ z':aA,z'=z++(if 0<i then [44] else [])->Ev (fun f=>G.bF.K4 f l i z') (z++(List.range' i (k+1)).flatMap (Bl l)):=fun z' he=>by
        have e2:z'++oI (l.getD i default)=z++Bl l i:=by rw [he,ez,List.append_assoc]
        have e3:=congrArg List.length e2
        simp only [List.length_append] at e3
        have hn:=ih (i+1) (z'++oI (l.getD i default)) (by omega) (by rw [e2,List.length_append]; omega)
        refine Ev.up ?_
        simp only [G.bF.K4,Int.toNat_natCast,bu (show i+1<9223372036854775808 by omega)]
        have fin:(z'++oI (l.getD i default))++(List.range' (i+1) k).flatMap (Bl l)=z++(List.range' i (k+1)).flatMap (Bl l):=by
          rw [e2,List.range'_succ,List.flatMap_cons,List.append_assoc]
        rw [<- fin]
        refine Ev.chk (by omega) (Ev.ite (fun c => ?_) (fun c => ?_))
        · have c':l.getD i default=[42]:=by simpa using c
          have:oI (l.getD i default)=[42]:=by unfold oI; rw [if_pos c']
          rw [this] at hn e3 ⊢
          simp only [List.length_singleton] at e3
          exact Ev.chk (by omega) hn
        · have c':¬ l.getD i default=[42]:=by simpa using c
          have:oI (l.getD i default)=34::(l.getD i default++[34]):=by unfold oI; rw [if_neg c']
          rw [this] at hn e3 ⊢
          simp only [List.length_cons,List.length_append,List.length_nil] at e3
          refine Ev.chk (by omega) (Ev.chk (by omega) (Ev.chk (by omega) (Ev.chk (by omega) ?_)))
          simpa using hn
      refine Ev.up ?_
      simp only [G.bF.L3]
      refine Ev.ct (decide_eq_true (by omega)) ?_
      by_cases h0:0<i
      · exact Ev.ct (decide_eq_true (by omega)) (Ev.chk (by omega) (K _ (by rw [if_pos h0])))
      · exact Ev.cf (decide_eq_false (by omega)) (K _ (by rw [if_neg h0,List.append_nil]))
  exact (L l.length 0 [] (by omega) (by simp; omega)).eq (by simp)
def oZ (s:aA):af:=af.mk 2 0 s [] []
def nX (p:List aA):af:=af.mk 3 0 [] [] (p.map oZ)
def oW:List aA:=[[],[97,100,100],[114,101,109,111,118,101],[114,101,112,108,97,99,101],[109,111,118,101],[99,111,112,121],[116,101,115,116]]
def yc:List aA:=[[102,114,111,109],[111,112],[112,97,116,104],[118,97,108,117,101]]
def qc (o:iI):af:=af.mk 4 0 [] yc [nX o.From,oZ (oW.getD o.Kind.toNat default),nX o.Path,o.Value]
theorem Dw {s:aA} (h:s.length<=12):Fine 12 2 (oZ s):=⟨h,Nat.zero_le _,(fun s h=>by cases h),Nat.zero_le _,(fun h=>by cases h),(fun k h=>by cases h)⟩
theorem Di {p:List aA} (h:PP p=true):Fine 12 3 (nX p):=by
 have hp:=qh h
 refine ⟨by simp [nX],by simp [nX],(fun s h=>by cases h),?_,(fun h=>by cases h),fun k hk => ?_⟩
 ·show (p.map oZ).length<=12
  rw [List.length_map]; exact hp.1
 ·obtain ⟨s,hs,rfl⟩:=List.mem_map.1 (show k∈p.map oZ from hk)
  exact Dw (hp.2 s hs)
theorem A8 {o:iI} (h:ED o):o.Kind=1\/o.Kind=2\/o.Kind=3\/o.Kind=4\/o.Kind=5\/o.Kind=6:=by
 have:=h.k1; have:=h.k6; omega
theorem CW {o:iI} (h:vK o=true):Fine 12 6 (qc o):=by
 have hf:=kD h
 refine ⟨by simp [qc],by simp [qc,yc],?_,by simp [qc],fun _=>by simp [qc,yc],fun k hk => ?_⟩
 ·intro s hs
  simp [qc,yc] at hs
  rcases hs with rfl | rfl | rfl | rfl<;>simp
 ·have hk:k∈[nX o.From,oZ (oW.getD o.Kind.toNat default),nX o.Path,o.Value]:=hk
  simp only [List.mem_cons,List.not_mem_nil,or_false] at hk
  rcases hk with rfl | rfl | rfl | rfl
  ·exact (Di hf.from_).mono (Nat.le_refl _) (by decide)
  ·refine (Dw ?_).mono (Nat.le_refl _) (by decide)
   rcases A8 hf with e | e | e | e | e | e<;>rw [e]<;>decide
  ·exact (Di hf.path).mono (Nat.le_refl _) (by decide)
  ·exact mD hf.val
theorem T.Om {p:List aA} (h:p.length<=1000):Ev (fun f=>G.eY f p) (nX p):=by
  have L:∀ (k i:Nat) (z:List af),i+k=p.length->z.length<=i->Ev (fun f=>G.eY.L1 f p i z) (af.mk 3 0 [] [] (z++(p.drop i).map oZ)):=by
    intro k
    induction k with
    | zero =>
      intro i z hi hz
      refine Ev.up ?_
      simp only [G.eY.L1]
      exact Ev.cf (decide_eq_false (by omega)) (Ev.ret' (by rw [List.drop_of_length_le (by omega)]; simp))
    | succ k ih =>
      intro i z hi hz
      have hn:=ih (i+1) (z++[oZ (p.getD i default)]) (by omega) (by simp; omega)
      refine Ev.up ?_
      simp only [G.eY.L1,Int.toNat_natCast,bu (show i+1<9223372036854775808 by omega)]
      refine Ev.ct (decide_eq_true (by omega)) (Ev.chk (by omega) (Ev.chk (by omega) (hn.eq ?_)))
      rw [aY default (by omega:i<p.length),List.append_assoc]; rfl
  refine Ev.up ?_
  simp only [G.eY]
  exact (L p.length 0 [] (by omega) (by simp)).eq (by simp [nX])
theorem T.Oo {p:List aA} (h:p.length<=1000):Ev (fun f=>G.iQ f p) (nX p):=by
  have W:∀ s:aA,Ev (fun f=>G.kE f s) (oZ s):=fun s=>by
    refine Ev.up ?_
    simp only [G.kE]
    exact Ev.ret _
  have L:∀ (k i:Nat) (z:List af),i+k=p.length->z.length<=i->Ev (fun f=>G.iQ.L1 f p i z) (af.mk 3 0 [] [] (z++(p.drop i).map oZ)):=by
    intro k
    induction k with
    | zero =>
      intro i z hi hz
      refine Ev.up ?_
      simp only [G.iQ.L1]
      exact Ev.cf (decide_eq_false (by omega)) (Ev.ret' (by rw [List.drop_of_length_le (by omega)]; simp))
    | succ k ih =>
      intro i z hi hz
      have hn:=ih (i+1) (z++[oZ (p.getD i default)]) (by omega) (by simp; omega)
      refine Ev.up ?_
      simp only [G.iQ.L1,Int.toNat_natCast,bu (show i+1<9223372036854775808 by omega)]
      refine Ev.ct (decide_eq_true (by omega)) (Ev.chk (by omega) (Ev.bind (W _) (Ev.chk (by omega) (hn.eq ?_))))
      rw [aY default (by omega:i<p.length),List.append_assoc]; rfl
  refine Ev.up ?_
  simp only [G.iQ]
  exact (L p.length 0 [] (by omega) (by simp)).eq (by simp [nX])
theorem T.iM {o:iI} (h:vK o=true):Ev (fun f=>G.iM f o) (qc o):=by
 have hf:=kD h
 have h1:=(qh hf.from_).1
 have h2:=(qh hf.path).1
 have k1:=hf.k1
 have k6:=hf.k6
 refine Ev.up ?_
 simp only [G.iM]
 refine Ev.bind (T.Oo (by omega)) (Ev.bind (a:=oW) (Ev.up ?_) (Ev.chk (by show 0<=o.Kind/\o.Kind<((7:Nat):Int); omega) (Ev.bind (a:=oZ (oW.getD o.Kind.toNat default)) (Ev.up ?_) (Ev.bind (T.Oo (by omega)) (Ev.bind (T.ay CV (mD hf.val)) (Ev.ret _))))))
 ·simp only [G.jE]; exact Ev.ret _
 ·simp only [G.kE]; exact Ev.ret _
theorem T.jf {o:iI} (hfo:∃ D,zo 60 D o):Ev (fun f=>G.jf f o) (qx (if vK o then (some (qc o)).filter Val else none)):=by
 obtain ⟨D,hD⟩:=hfo
 refine Ev.up ?_
 simp only [G.jf]
 refine Ev.bind (T.jo l7 hD) (Ev.ite (fun e => ?_) (fun e=>Ev.ret' (by rw [e]; rfl)))
 have hf:=kD e
 have h1:=(qh hf.from_).1
 have h2:=(qh hf.path).1
 have hw:Ev (fun f=>G.jv f o.Kind) (oW.getD o.Kind.toNat default):=by
  refine Ev.up ?_
  simp only [G.jv]
  rcases A8 hf with e | e | e | e | e | e<;>rw [e]<;>exact NS
 have gc:=T.jy (o:=some (qc o)) CV (fun m hm=>by cases hm; exact CW e)
 rw [e]
 exact Ev.bind (T.Om (by omega)) (Ev.bind hw (Ev.bind (T.Om (by omega)) (Ev.bind (T.aX CV (mD hf.val)) (Ev.bind gc (Ev.ret _)))))
end Go.Ab
end
section
namespace Go.Ab
open Go
set_option maxRecDepth 100000
def Ja (o:iI):aA:=iH 5 (qc o)++[59]
def okO (l:List iI):Bool:=l.all fun o=>Val (qc o)
def opsT (l:List iI):aA:=l.flatMap Ja
theorem KW {o:iI} (h:Val (qc o)=true):(Ja o).length<=4000001:=by
 unfold Ja
 have:=fmt5 h
 rw [List.length_append,List.length_singleton]; omega
theorem wF {l:List iI} (h:o6 l=true):l.length<=12/\∀ o,o∈l->vK o=true:=by
 unfold o6 at h
 simp only [Bool.and_eq_true,decide_eq_true_eq,List.all_eq_true] at h
 exact ⟨h.2,h.1⟩
theorem T.eU {l:List iI} (hl:oK l) (h:o6 l=true):Ev (fun f=>G.eU f l) (if okO l then (opsT l,true) else ([],false)):=by
  obtain ⟨h12,hv⟩:=wF h
  have L:∀ (k i:Nat) (z:aA),i+k=l.length->z.length+4000001*k<=60000000->Ev (fun f=>G.eU.L1 f l i z) (if okO (l.drop i) then (z++opsT (l.drop i),true) else ([],false)):=by
    intro k
    induction k with
    | zero =>
      intro i z hi hz
      refine Ev.up ?_
      simp only [G.eU.L1]
      rw [List.drop_of_length_le (by omega)]
      exact Ev.cf (decide_eq_false (by omega)) (Ev.bind (T.bs' (by show z.length<=_; omega)) (Ev.ret' (by simp [okO,opsT])))
    | succ k ih =>
      intro i z hi hz
      have hil:i<l.length:=by omega
      have hm:=getD_mem default hil
      have hov:=hv _ hm
      have hO:=T.jf (o:=l.getD i default) (hl.2 _ hm)
      rw [hov] at hO
      rw [aY default hil]
      refine Ev.up ?_
      simp only [G.eU.L1,Int.toNat_natCast,iI.eta,bu (show i+1<9223372036854775808 by omega)]
      refine Ev.ct (decide_eq_true (by omega)) (Ev.chk (by omega) (Ev.bind hO ?_))
      cases hn:Val (qc (l.getD i default)) with
      | false =>
        have e:okO (l.getD i default::l.drop (i+1))=false:=by unfold okO; rw [List.all_cons,hn]; rfl
        rw [e]
        simp only [Option.filter,hn,if_true,if_false,Bool.false_eq_true]
        exact Ev.cf rfl (Ev.ret _)
      | true =>
        have e:okO (l.getD i default::l.drop (i+1))=okO (l.drop (i+1)):=by unfold okO; rw [List.all_cons,hn]; rfl
        have hf:=fmt5 hn
        rw [e]
        simp only [Option.filter,hn,if_true,qx]
        refine Ev.ct rfl (Ev.bind (T.aN 5 (jP hn) (by omega)) (Ev.bind (oq 59 (by rw [List.length_append]; omega)) ?_))
        refine (ih (i+1) _ (by omega) (by rw [List.length_append,List.length_append,List.length_singleton]; omega)).eq ?_
        have:opsT (l.getD i default::l.drop (i+1))=Ja (l.getD i default)++opsT (l.drop (i+1)):=by unfold opsT; rw [List.flatMap_cons]
        rw [this]
        unfold Ja
        simp only [List.append_assoc]
  refine Ev.up ?_
  simp only [G.eU]
  exact (L l.length 0 [] (by omega) (by simp; omega)).eq (by rw [List.drop_zero,List.nil_append])
def pO:List aA:=[[],[103,101,116],[112,117,116],[100,101,108,101,116,101],[112,97,116,99,104],[109,101,114,103,101]]
def IB (q:RequestT):aA:=pO.getD q.Method.toNat default++[32]++q.Name++[32]++nG q.Want++[32]++nG q.jk++[32]
def qJ (q:RequestT):aA:=IB q++(if q.Method=4 then opsT q.Ops else iH 5 q.Body)
def lean (q:RequestT):Bool:=(q.Body.Kind==0||q.Method==2||q.Method==5)&&(q.Ops.isEmpty||q.Method==4)
def jZ (q:RequestT):aA:=if BG q&&(lean q&&okO q.Ops) then qJ q else []
structure Ox (q:RequestT):Prop where
 lo:1<=q.Method
 hi:q.Method<=5
 tJ:BD q.Name=true
 want:lY q.Want=true
 avoid:lY q.jk=true
 body:Val q.Body=true
 ops:o6 q.Ops=true
theorem zX {q:RequestT} (h:BG q=true):Ox q:=by
 unfold BG at h
 simp only [Bool.and_eq_true,decide_eq_true_eq] at h
 obtain ⟨⟨a,b⟩,c,d,e,f,g⟩:=h
 exact ⟨a,b,c,d,e,f,g⟩
theorem meth {q:RequestT} (h:Ox q):q.Method=1\/q.Method=2\/q.Method=3\/q.Method=4\/q.Method=5:=by
 have:=h.lo; have:=h.hi; omega
theorem Bv {q:RequestT} (h:Ox q):(pO.getD q.Method.toNat default).length<=6:=by
 rcases meth h with e | e | e | e | e<;>rw [e]<;>decide
theorem vw {l:List aA} (h:lY l=true):Sm l:=by
 obtain ⟨h1,h2⟩:=lq h
 refine ⟨by unfold big; omega,fun t ht => ?_⟩
 have:=pI (h2 t ht)
 unfold big; omega
theorem Fb {l:List iI} (h:okO l=true):(opsT l).length<=l.length*4000001:=by
  unfold okO at h
  induction l with
  | nil=>simp [opsT]
  | cons o l ih =>
    rw [List.all_cons,Bool.and_eq_true] at h
    have h1:=KW h.1
    have h2:=ih h.2
    unfold opsT at *
    rw [List.flatMap_cons,List.length_append,List.length_cons,Nat.add_mul]
    omega
theorem Oc (a b c d e:aA):Lib.join [a,b,c,d,e] [32]=a++[32]++b++[32]++c++[32]++d++[32]++e:=by
 simp [Lib.join,List.intercalate,List.intersperse,List.flatten]
section
variable {q:RequestT} (hq:oL 60 q)
include hq
theorem T.ah:Ev (fun f=>G.ah f q) (jZ q):=by
  refine Ev.up ?_
  simp only [G.ah]
  unfold jZ
  refine Ev.bind (T.gV l7 hq) (Ev.ite (fun e => ?_) (fun e=>Ev.ret' (by rw [e]; rfl)))
  have hr:=zX e
  obtain ⟨D,hD⟩:=hq.body
  have hF:=T.iE l7 hD
  have eF:JZ q.Body=iH 5 q.Body:=by unfold JZ; rw [if_pos hr.body]
  rw [eF] at hF
  have h5:=fmt5 hr.body
  have hn:=(rC hr.tJ).2
  have hv:=Bv hr
  have t1:=sH q.Want
  have t2:=sH q.jk
  have hm:Ev (fun f=>G.gI f q.Method) (pO.getD q.Method.toNat default):=by
    refine Ev.up ?_
    simp only [G.gI]
    rcases meth hr with e | e | e | e | e<;>rw [e]<;>exact NS
  have hT1:=T.bQ (vw hr.want)
  have hT2:=T.bQ (vw hr.avoid)
  have hJ:∀ c:aA,c.length<=60000000->Ev (fun f=>G.strings_Join f [pO.getD q.Method.toNat default,q.Name,nG q.Want,nG q.jk,c] [32]) (IB q++c):=fun c hc=>by
    refine Ev.up ?_
    simp only [G.strings_Join]
    rw [Oc]
    refine Ev.chk ⟨by simp,?_⟩ (Ev.ret' rfl)
    simp only [List.length_append,List.length_singleton]
    omega
  have K2:∀ c:aA,c.length<=60000000->Ev (fun f=>G.ah.K2 f q c) (IB q++c)/\Ev (fun f=>G.ah.K4 f q c) (IB q++c):=fun c hc=>by
    constructor<;>refine Ev.up ?_
    · simp only [G.ah.K2]
      exact Ev.bind hm (Ev.bind hT1 (Ev.bind hT2 (Ev.bind (hJ c hc) (Ev.ret _))))
    · simp only [G.ah.K4]
      exact Ev.bind hm (Ev.bind hT1 (Ev.bind hT2 (Ev.bind (hJ c hc) (Ev.ret _))))
  have hO:=T.eU hq.ops hr.ops
  have hol:=(wF hr.ops).1
  have K1:(q.Ops.isEmpty||q.Method==4)=true->Ev (fun f=>G.ah.K1 f q) (if okO q.Ops then qJ q else [])/\Ev (fun f=>G.ah.K3 f q) (if okO q.Ops then qJ q else []):=fun hc=>by
    unfold qJ
    by_cases c4:q.Method=4
    · rw [if_pos c4]
      cases ho:okO q.Ops with
      | true =>
        rw [ho] at hO
        have:=Fb ho
        have hlen:(opsT q.Ops).length<=60000000:=by
          have:q.Ops.length*4000001<=12*4000001:=Nat.mul_le_mul_right _ hol
          omega
        constructor<;>refine Ev.up ?_
        · simp only [G.ah.K1]
          exact Ev.bind hF (Ev.ct (by simpa using c4) (Ev.bind hO (Ev.ct rfl (K2 _ hlen).1)))
        · simp only [G.ah.K3]
          exact Ev.bind hF (Ev.ct (by simpa using c4) (Ev.bind hO (Ev.ct rfl (K2 _ hlen).2)))
      | false =>
        rw [ho] at hO
        constructor<;>refine Ev.up ?_
        · simp only [G.ah.K1]
          exact Ev.bind hF (Ev.ct (by simpa using c4) (Ev.bind hO (Ev.cf rfl (Ev.ret _))))
        · simp only [G.ah.K3]
          exact Ev.bind hF (Ev.ct (by simpa using c4) (Ev.bind hO (Ev.cf rfl (Ev.ret _))))
    · rw [if_neg c4]
      have he:q.Ops=[]:=by
        have:q.Ops.isEmpty=true:=by simpa [c4] using hc
        simpa using this
      have ho:okO q.Ops=true:=by rw [he]; rfl
      rw [ho]
      constructor<;>refine Ev.up ?_
      · simp only [G.ah.K1]
        exact Ev.bind hF (Ev.cf (by simpa using c4) (K2 _ (by omega)).1)
      · simp only [G.ah.K3]
        exact Ev.bind hF (Ev.cf (by simpa using c4) (K2 _ (by omega)).2)
  have eo:decide ((0:Int)<((q.Ops.length:Nat):Int)) = !q.Ops.isEmpty:=by cases q.Ops<;>simp
  rw [e]
  unfold lean
  simp only [eo]
  have fin:∀ b:Bool,(b&&(q.Ops.isEmpty||q.Method==4))=true->((if (true&&((b&&(q.Ops.isEmpty||q.Method==4))&&okO q.Ops))=true then qJ q else [])=if okO q.Ops then qJ q else []):=fun b hb=>by rw [hb]; simp
  have g:∀ (b:Bool) (g:Nat->Option aA),b=true->((q.Ops.isEmpty||q.Method==4)=true->Ev g (if okO q.Ops then qJ q else [])) ->
      Ev (fun f=>cond (q.Method != 4) (cond (!q.Ops.isEmpty) (some []) (g f)) (g f)) (if (true&&((b&&(q.Ops.isEmpty||q.Method==4))&&okO q.Ops))=true then qJ q else []):=fun b g hb hg=>by
    subst hb
    refine Ev.ite (fun c4=>Ev.ite (fun co=>Ev.ret' ?_) (fun co => ?_)) (fun c4 => ?_)
    · have h1:q.Ops.isEmpty=false:=by simpa using co
      have h2:(q.Method==4)=false:=by simpa using c4
      rw [h1,h2]; rfl
    · have h1:q.Ops.isEmpty=true:=by simpa using co
      have h2:(q.Ops.isEmpty||q.Method==4)=true:=by rw [h1]; rfl
      rw [fin true (by rw [h2]; rfl)]
      exact hg h2
    · have h1:(q.Method==4)=true:=by simpa using c4
      have h2:(q.Ops.isEmpty||q.Method==4)=true:=by rw [h1]; simp
      rw [fin true (by rw [h2]; rfl)]
      exact hg h2
  refine Ev.ite (fun c2=>g _ _ (by rw [c2]; simp) (fun h=>(K1 h).1)) (fun c2=>Ev.ite (fun c5=>g _ _ (by rw [c5]; simp) (fun h=>(K1 h).2)) (fun c5=>Ev.ite (fun c0=>Ev.ret' ?_) (fun c0 => ?_)))
  · have h0:(q.Body.Kind==0)=false:=by simpa using c0
    rw [h0,c2,c5]; rfl
  · have h0:(q.Body.Kind==0)=true:=by simpa using c0
    exact g _ _ (by rw [h0]; rfl) (fun h=>(K1 h).2)
theorem T.aF:Ev (fun f=>G.aF f q) (jZ q):=by
  have hM:=maxL
  refine Ev.up ?_
  simp only [G.aF]
  unfold jZ
  refine Ev.bind (T.fD l7 hq) (Ev.ite (fun e => ?_) (fun e=>Ev.ret' (by rw [e]; rfl)))
  have hr:=zX e
  have h5:=fmt5 hr.body
  have hn:=(rC hr.tJ).2
  have hv:=Bv hr
  have t1:=sH q.Want
  have t2:=sH q.jk
  obtain ⟨h12,hov⟩:=wF hr.ops
  have hT1:=T.bF (vw hr.want)
  have hT2:=T.bF (vw hr.avoid)
  have lo:=hr.lo
  have hi:=hr.hi
  have hd:(IB q).length<=100:=by
    unfold IB
    simp only [List.length_append,List.length_singleton]
    omega
  have L1:okO q.Ops=true->∀ (k i:Nat) (z:aA),i+k=q.Ops.length->z.length+4000001*k<=60000000->Ev (fun f=>G.dO.L1 f q z i) (z++opsT (q.Ops.drop i)):=by
    intro ho k
    induction k with
    | zero =>
      intro i z hi hz
      refine Ev.up ?_
      simp only [G.dO.L1]
      rw [List.drop_of_length_le (by omega)]
      exact Ev.cf (decide_eq_false (by omega)) (Ev.ret' (by simp [opsT]))
    | succ k ih =>
      intro i z hi hz
      have hil:i<q.Ops.length:=by omega
      have hm:=getD_mem default hil
      have hn:Val (qc (q.Ops.getD i default))=true:=by
        unfold okO at ho
        exact List.all_eq_true.1 ho _ hm
      have hf:=fmt5 hn
      rw [aY default hil]
      refine Ev.up ?_
      simp only [G.dO.L1,Int.toNat_natCast,iI.eta,bu (show i+1<9223372036854775808 by omega)]
      refine Ev.ct (decide_eq_true (by omega)) (Ev.chk (by omega) (Ev.bind (T.iM (hov _ hm)) (Ev.bind (T.bI 5 (by omega) (jP hn)) (Ev.chk (by omega) (Ev.chk (by omega) ?_)))))
      refine (ih (i+1) _ (by omega) (by rw [List.length_append,List.length_append,List.length_singleton]; omega)).eq ?_
      have:opsT (q.Ops.getD i default::q.Ops.drop (i+1))=Ja (q.Ops.getD i default)++opsT (q.Ops.drop (i+1)):=by unfold opsT; rw [List.flatMap_cons]
      rw [this]
      unfold Ja
      simp only [List.append_assoc]
  have F:okO q.Ops=true->Ev (fun f=>G.dO f q) (qJ q):=fun ho=>by
    refine Ev.up ?_
    simp only [G.dO]
    have hmn:((q.Method.toNat:Nat):Int)=q.Method:=by omega
    refine Ev.bind (a:=pO) (Ev.up ?_) (Ev.chk (by show 0<=q.Method/\q.Method<((6:Nat):Int); omega) (Ev.chk (by omega) (Ev.chk (by omega) (Ev.chk (by omega) (Ev.bind hT1 (Ev.chk (by omega) (Ev.chk (by omega) (Ev.bind hT2 (Ev.chk (by omega) (Ev.chk (by omega) (Ev.ite (fun c4 => ?_) (fun c4 => ?_))))))))))))
    · simp only [G.jV]; exact Ev.ret _
    · unfold qJ
      rw [if_pos (by simpa using c4)]
      have:=Nat.mul_le_mul_right 4000001 h12
      exact (L1 ho q.Ops.length 0 (IB q) (by omega) (by omega)).eq (by rw [List.drop_zero])
    · unfold qJ
      rw [if_neg (by simpa using c4)]
      exact Ev.bind (T.bI 5 (by omega) (jP hr.body)) (Ev.chk (by omega) (Ev.ret' rfl))
  have L2:∀ (k i:Nat),i+k=q.Ops.length->okO q.Ops=okO (q.Ops.drop i)->Ev (fun f=>G.aF.L2 f q i) (if okO q.Ops then qJ q else []):=by
    intro k
    induction k with
    | zero =>
      intro i hi ho
      rw [List.drop_of_length_le (by omega)] at ho
      have ho:okO q.Ops=true:=ho
      refine Ev.up ?_
      simp only [G.aF.L2]
      rw [ho]
      exact Ev.cf (decide_eq_false (by omega)) (Ev.bind (F ho) (Ev.ret _))
    | succ k ih =>
      intro i hi ho
      have hil:i<q.Ops.length:=by omega
      have hm:=getD_mem default hil
      rw [aY default hil] at ho
      refine Ev.up ?_
      simp only [G.aF.L2,Int.toNat_natCast,iI.eta,bu (show i+1<9223372036854775808 by omega)]
      refine Ev.ct (decide_eq_true (by omega)) (Ev.chk (by omega) (Ev.bind (T.iM (hov _ hm)) (Ev.bind (T.aT CV (CW (hov _ hm))) (Ev.ite (fun hn => ?_) (fun hn=>Ev.ret' ?_)))))
      · refine ih (i+1) (by omega) ?_
        rw [ho]; unfold okO; rw [List.all_cons,hn]; rfl
      · have:okO q.Ops=false:=by rw [ho]; unfold okO; rw [List.all_cons,hn]; rfl
        rw [this]; rfl
  have K1:Ev (fun f=>G.aF.K1 f q) (if okO q.Ops then qJ q else []):=by
    refine Ev.up ?_
    simp only [G.aF.K1]
    exact L2 q.Ops.length 0 (by omega) (by rw [List.drop_zero])
  have eo:decide ((0:Int)<((q.Ops.length:Nat):Int)) = !q.Ops.isEmpty:=by cases q.Ops<;>simp
  have e2:(q.Method != 2) = !(q.Method==2):=rfl
  have e5:(q.Method != 5) = !(q.Method==5):=rfl
  have e4:(q.Method != 4) = !(q.Method==4):=rfl
  have e0:(q.Body.Kind != 0) = !(q.Body.Kind==0):=rfl
  rw [e]
  unfold lean
  simp only [eo,e2,e5,e4,e0]
  clear L1 F L2 eo e2 e5 e4 e0
  generalize (q.Body.Kind==0)=b0
  generalize (q.Method==2)=b2
  generalize (q.Method==5)=b5
  generalize (q.Method==4)=b4
  generalize q.Ops.isEmpty=bo
  cases b0<;>cases b2<;>cases b5<;>cases b4<;>cases bo<;>exact NS
end
end Go.Ab
end
section
namespace Go.Ab
open Go
set_option maxRecDepth 100000
theorem ReaderT.eta' (r:ReaderT):ReaderT.mk r.b r.p=r:=rfl
theorem D.wL {r:ReaderT} (hr:jO 0 r):Dr 20000 (oL 60) (fun f=>G.dP f r):=by
 refine Tot.up ?_
 simp only [G.dP]
 refine Tot.bind (D.oH hr (by omega)) ?_
 rintro ⟨s,r1⟩ ⟨hs,hr1⟩
 have hs:wz s=true:=hs
 refine Tot.bind (D.DV (ug.1 hs).fine hr1 (by omega)) ?_
 rintro ⟨q,r2⟩ ⟨hq,hr2⟩
 have hq:oL 60 q:=hq
 have K:∀ (n:af) (r:ReaderT) (K:Nat),nC 60 n->jO K r->K<=19000->Dr 20000 (oL 60) (fun f=>G.dP.K1 f (q,r2) r.b r.p n.Kind n.Num n.Text n.Names n.Kids):=fun n r K hn hr hK=>by
  refine Tot.up ?_
  simp only [G.dP.K1,ReaderT.eta',af.eta]
  refine Tot.ite (fun _ => ?_) (fun _=>Tot.ret ⟨⟨hq.tJ,hq.want,hq.avoid,hn,hq.ops⟩,hr.mono (by omega)⟩)
  refine Tot.bind (D.pick (m:=8) hr (by omega) rfl (by decide) (by decide)) ?_
  rintro ⟨x,r3⟩ ⟨_,hr3⟩
  exact Tot.ite (fun _=>Tot.ret ⟨⟨hq.tJ,hq.want,hq.avoid,hn,rP⟩,hr3.mono (by omega)⟩) (fun _=>Tot.ret ⟨⟨hq.tJ,hq.want,hq.avoid,hn,hq.ops⟩,hr3.mono (by omega)⟩)
 have hr2:jO (0+9000+4000) r2:=hr2
 refine Tot.ite (fun _=>Tot.ite (fun _ => ?_) (fun _=>K q.Body r2 _ hq.body hr2 (by omega))) (fun _=>K q.Body r2 _ hq.body hr2 (by omega))
 refine Tot.bind (D.pick (m:=8) hr2 (by omega) rfl (by decide) (by decide)) ?_
 rintro ⟨x,r3⟩ ⟨_,hr3⟩
 exact Tot.ite (fun _=>K rD r3 _ ⟨5,kZ vZ⟩ hr3 (by omega)) (fun _=>K q.Body r3 _ hq.body hr3 (by omega))
end Go.Ab
end
section
namespace Go.Ab
open Go
def jT (B:Nat):Nat->af->Prop
 | 0,_=>False
 | d+1,n=>n.Text.length<=B/\n.Names.length<=B/\(∀ s,s∈n.Names->s.length<=B)/\n.Kids.length<=B/\True/\∀ k,k∈n.Kids->jT B d k
theorem jT.mono {B C:Nat} (hB:B<=C):∀ {d e:Nat} {n:af},d<=e->jT B d n->jT C e n
  | 0,_,_,_,h=>h.elim
  | d+1,0,_,hd,_=>by omega
  | d+1,e+1,n,hd,h=>by
    obtain ⟨h1,h2,h3,h4,h5,h6⟩:=h
    exact ⟨by omega,by omega,fun s hs=>Nat.le_trans (h3 s hs) hB,by omega,h5,fun k hk=>(h6 k hk).mono hB (by omega)⟩
theorem jT.sm {B d:Nat} {n:af} (hB:B<=lim) (h:jT B d n):Sm n.Names:=by
  cases d with
  | zero=>exact h.elim
  | succ d =>
    obtain ⟨h1,h2,h3,h4,h5,h6⟩:=h
    unfold lim at hB
    exact ⟨by unfold big; omega,fun s hs=>by have:=h3 s hs; unfold big; omega⟩
theorem jT.text {B d:Nat} {n:af} (hB:B<=lim) (h:jT B d n):n.Text.length<big:=by
 cases d with
 | zero=>exact h.elim
 | succ d=>obtain ⟨h1,_⟩:=h; unfold lim at hB; unfold big; omega
theorem jT.kids {B d:Nat} {n:af} (h:jT B d n):n.Kids.length<=B:=by
 cases d with
 | zero=>exact h.elim
 | succ d=>exact h.2.2.2.1
theorem jT.names {B d:Nat} {n:af} (h:jT B d n):n.Names.length<=B:=by
 cases d with
 | zero=>exact h.elim
 | succ d=>exact h.2.1
theorem jT.kid {B d:Nat} {n:af} (h:jT B (d+1) n) {i:Nat} (hi:i<n.Kids.length):jT B d (n.Kids.getD i default):=by
 rw [dI _ hi]
 exact h.2.2.2.2.2 _ (List.getElem_mem hi)
theorem T0.aS.K1 {B d:Nat} {n:af} (hB:B<=lim) (h:jT B d n):Ev (fun f=>G.aS.K1 f n) (nZ n):=by
 refine Ev.up ?_
 simp only [G.aS.K1]
 have ht:=T.bJ _ (h.text hB)
 have hn:=T.dQ _ (h.sm hB)
 have h0:decide ((0:Int)<((n.Names.length:Nat):Int)) = !(n.Names.length==0):=by
  cases hq:n.Names.length<;>simp
 have h6:decide (((n.Kids.length:Nat):Int)<=6)=decide (n.Kids.length<=6):=by rw [Bool.eq_iff_iff]; simp; omega
 rw [h0]
 have tail:Ev (fun f=>cond (n.Kind==0) (some (((n.Kids.length:Nat):Int)==0)) (cond (n.Kind==1) (cond (decide ((-999999)<=n.Num)) (cond (decide (n.Num<=999999)) (some (((n.Kids.length:Nat):Int)==0)) (some false)) (some false))
   (cond (n.Kind==2) (Option.bind (G.bJ f n.Text) fun v3=>cond v3 (some (((n.Kids.length:Nat):Int)==0)) (some false))
   (cond (n.Kind==3) (some (decide (((n.Kids.length:Nat):Int)<=6))) (cond (n.Kind==4) (Option.bind (G.dQ f n.Names) fun v4=>cond v4 (some (((n.Kids.length:Nat):Int)==((n.Names.length:Nat):Int))) (some false)) (some false))))))
   (if n.Kind=0 then n.Kids.length==0 else if n.Kind=1 then (decide (-999999<=n.Num)&&decide (n.Num<=999999))&&n.Kids.length==0 else if n.Kind=2 then PT n.Text&&n.Kids.length==0
    else if n.Kind=3 then decide (n.Kids.length<=6) else if n.Kind=4 then NM n.Names&&decide (n.Names.length<=6)&&n.Kids.length==n.Names.length else false):=by
  rw [LJ,ilen,h6]
  refine Ev.ite (fun e=>Ev.ret' ?_) (fun e0 => ?_)
  ·rw [if_pos (by simpa using e)]
  rw [if_neg (by simpa using e0)]
  refine Ev.ite (fun e => ?_) (fun e1 => ?_)
  ·rw [if_pos (by simpa using e)]
   refine Ev.ite (fun k=>Ev.ite (fun k2=>Ev.ret' ?_) (fun k2=>Ev.ret' ?_)) (fun k=>Ev.ret' ?_)
   ·rw [k,k2]; simp
   ·rw [k2]; simp
   ·rw [k]; simp
  rw [if_neg (by simpa using e1)]
  refine Ev.ite (fun e => ?_) (fun e2 => ?_)
  ·rw [if_pos (by simpa using e)]
   refine Ev.bind ht (Ev.ite (fun k=>Ev.ret' ?_) (fun k=>Ev.ret' ?_))
   ·rw [k,Bool.true_and]
   ·rw [k,Bool.false_and]
  rw [if_neg (by simpa using e2)]
  refine Ev.ite (fun e=>Ev.ret' ?_) (fun e3 => ?_)
  ·rw [if_pos (by simpa using e)]
  rw [if_neg (by simpa using e3)]
  refine Ev.ite (fun e => ?_) (fun e4=>Ev.ret' ?_)
  ·rw [if_pos (by simpa using e)]
   refine Ev.bind hn (Ev.ite (fun k=>Ev.ret' ?_) (fun k=>Ev.ret' ?_))
   ·rw [k,Bool.true_and]
   ·rw [k,Bool.false_and]
  ·rw [if_neg (by simpa using e4)]
 refine Ev.ite (fun e => ?_) (fun e => ?_)
 ·have e':(n.Kind==4)=false:=by simpa using e
  refine Ev.ite (fun k=>Ev.ret' ?_) (fun k => ?_)
  ·rw [Bool.not_eq_true'] at k; rw [nZ,e',k]; rfl
  ·rw [Bool.not_eq_false'] at k; exact tail.eq (by rw [nZ,k,Bool.or_true,Bool.true_and])
 ·have e':(n.Kind==4)=true:=by simpa using e
  exact tail.eq (by rw [nZ,e',Bool.true_or,Bool.true_and])
theorem T0.aS {B d:Nat} {n:af} (hB:B<=lim) (h:jT B d n):Ev (fun f=>G.aS f n) (Parts n):=by
 refine Ev.up ?_
 simp only [G.aS]
 have hk:=T0.aS.K1 hB h
 rw [BF]
 have tail:Ev (fun f=>cond (n.Kind != 2) (cond (n.Text==[]) (G.aS.K1 f n) (some false)) (G.aS.K1 f n)) ((n.Kind==2||n.Text==[])&&nZ n):=by
  refine Ev.ite (fun e => ?_) (fun e => ?_)
  ·have e':(n.Kind==2)=false:=by simpa using e
   refine Ev.ite (fun k => ?_) (fun k=>Ev.ret' ?_)
   ·exact hk.eq (by rw [k,Bool.or_true,Bool.true_and])
   ·rw [e',k]; rfl
  ·have e':(n.Kind==2)=true:=by simpa using e
   exact hk.eq (by rw [e',Bool.true_or,Bool.true_and])
 refine Ev.ite (fun e => ?_) (fun e => ?_)
 ·have e':(n.Kind==1)=false:=by simpa using e
  refine Ev.ite (fun k=>Ev.ret' ?_) (fun k => ?_)
  ·have:(n.Num==0)=false:=by simpa using k
   rw [e',this]; rfl
  ·have:(n.Num==0)=true:=by simpa using k
   exact tail.eq (by rw [this,Bool.or_true,Bool.true_and])
 ·have e':(n.Kind==1)=true:=by simpa using e
  exact tail.eq (by rw [e',Bool.true_or,Bool.true_and])
theorem T0.gB.L1 {B D d:Nat} {n:af} (hB:B<=lim) (h:jT B (D+1) n) (hd:d<1000) (hs:∀ k,k∈n.Kids->Ev (fun f=>G.bW f k d) (Shape d k)) :
    ∀ (k i:Nat),i+k=n.Kids.length->Ev (fun f=>G.gB.L1 f n ((d+1:Nat):Int) i) ((n.Kids.drop i).all (Shape d)):=by
  have hl:=h.kids
  unfold lim at hB
  intro k
  induction k with
  | zero =>
    intro i hi
    refine Ev.up ?_
    simp only [G.gB.L1]
    refine Ev.cf (by simp; omega) (Ev.ret' ?_)
    rw [List.drop_of_length_le (by omega)]
    rfl
  | succ k ih =>
    intro i hi
    refine Ev.up ?_
    simp only [G.gB.L1]
    refine Ev.ct (by simp; omega) (Ev.chk (by omega) ?_)
    rw [aY (default:af) (by omega:i<n.Kids.length),List.all_cons,Int.toNat_natCast]
    have e:IntKind.wrap .i64 (((d+1:Nat):Int)-1)=(d:Int):=wrapN (by omega) (by omega)
    rw [e]
    refine Ev.bind (hs _ (by rw [dI _ (by omega:i<n.Kids.length)]; exact List.getElem_mem _)) ?_
    refine Ev.ite (fun h => ?_) (fun h => ?_)
    · rw [bu (by omega),h,Bool.true_and]
      exact ih (i+1) (by omega)
    · exact Ev.ret' (by rw [h]; rfl)
theorem T0.gB {B D d:Nat} {n:af} (hB:B<=lim) (h:jT B (D+1) n) (hd:d<1000) (hs:∀ k,k∈n.Kids->Ev (fun f=>G.bW f k d) (Shape d k)) :
  Ev (fun f=>G.gB f n ((d+1:Nat):Int)) (n.Kids.all (Shape d)):=by
 refine Ev.up ?_
 simp only [G.gB]
 exact T0.gB.L1 hB h hd hs n.Kids.length 0 (by omega)
theorem T0.bW.K1 {B D d:Nat} {n:af} (hB:B<=lim) (h:jT B (D+1) n) (hd:d<1000) (hs:∀ k,k∈n.Kids->Ev (fun f=>G.bW f k d) (Shape d k)) :
  Ev (fun f=>G.bW.K1 f n ((d+1:Nat):Int)) (Nv d n):=by
 refine Ev.up ?_
 simp only [G.bW.K1]
 have hk:=T0.gB hB h hd hs
 unfold Nv
 refine Ev.ite (fun e => ?_) (fun e1 => ?_)
 ·rw [if_pos (by simpa using e)]
  exact Ev.bind (T.bG _ _ _) (Ev.ret _)
 rw [if_neg (by simpa using e1)]
 refine Ev.ite (fun e => ?_) (fun e2 => ?_)
 ·rw [if_pos (by simpa using e)]
  exact Ev.bind (T.dD _ (h.text hB)) (Ev.ret _)
 rw [if_neg (by simpa using e2)]
 refine Ev.ite (fun e => ?_) (fun e3 => ?_)
 ·rw [if_pos (by simpa using e)]
  exact Ev.bind hk (Ev.ret _)
 rw [if_neg (by simpa using e3)]
 refine Ev.ite (fun e => ?_) (fun e4 => ?_)
 ·rw [if_pos (by simpa using e),ilen]
  refine Ev.ite (fun k => ?_) (fun k=>Ev.ret' (by rw [k]; rfl))
  refine Ev.bind (T.gX _ (h.sm hB)) ?_
  refine Ev.ite (fun k2 => ?_) (fun k2=>Ev.ret' (by rw [k2]; simp))
  exact Ev.bind hk (Ev.ret' (by rw [k,k2]; rfl))
 ·exact Ev.ret' (by rw [if_neg (by simpa using e4)])
theorem T0.bW {B:Nat} (hB:B<=lim):∀ (d D:Nat) (n:af),d<1000->jT B D n->Ev (fun f=>G.bW f n (d:Int)) (Shape d n):=by
  intro d
  induction d with
  | zero =>
    intro D n _ h
    refine Ev.up ?_
    simp only [G.bW]
    exact Ev.ct (by simp) (Ev.ret _)
  | succ d ih =>
    intro D n hd h
    cases D with
    | zero=>exact h.elim
    | succ D =>
    have hK:=T0.bW.K1 (d:=d) hB h (by omega) (fun k hk=>ih D k (by omega) (h.2.2.2.2.2 k hk))
    refine Ev.up ?_
    simp only [G.bW]
    rw [KO,KO]
    have t1:=vS (c:=decide (n.Kind<3)) (a := !(n.Kids.length==0)) hK
    have t2:=vS (c:=n.Kind != 4) (a := !(n.Names.length==0)) t1
    have t3:=EK (c:=n.Kind != 2) (a:=n.Text==[]) t2
    have t4:=vS (c:=n.Kind != 1) (a:=n.Num != 0) t3
    refine Ev.cf (by simp; omega) ?_
    refine Ev.ite (fun e=>Ev.ret' ?_) (fun e=>t4.eq ?_)
    · simp only [decide_eq_true_eq] at e
      rw [Shape,qi (by omega)]; rfl
    · simp only [decide_eq_false_iff_not] at e
      exact Dh (by omega)
theorem T0.eG.L1 {B D d:Nat} {n:af} (hB:B<=lim) (h:jT B (D+1) n) (hs:∀ k,k∈n.Kids->Ev (fun f=>G.eG f k) ((Cnt d k:Nat):Int)) :
    ∀ (k i c:Nat),i+k=n.Kids.length->c+((n.Kids.drop i).map (Cnt d)).sum<big->Ev (fun f=>G.eG.L1 f n (c:Int) i) ((c+((n.Kids.drop i).map (Cnt d)).sum:Nat):Int):=by
  have hl:=h.kids
  unfold lim at hB
  unfold big
  intro k
  induction k with
  | zero =>
    intro i c hi hc
    refine Ev.up ?_
    simp only [G.eG.L1]
    refine Ev.cf (by simp; omega) (Ev.ret' ?_)
    rw [List.drop_of_length_le (by omega)]
    rfl
  | succ k ih =>
    intro i c hi
    rw [aY (default:af) (by omega:i<n.Kids.length),List.map_cons,List.sum_cons]
    intro hc
    refine Ev.up ?_
    simp only [G.eG.L1]
    refine Ev.ct (by simp; omega) (Ev.chk (by omega) ?_)
    rw [Int.toNat_natCast]
    refine Ev.bind (hs _ (by rw [dI _ (by omega:i<n.Kids.length)]; exact List.getElem_mem _)) ?_
    rw [bu (by omega),wrapN (m:=c+Cnt d (n.Kids.getD i default)) (by omega) (by omega)]
    exact (ih (i+1) (c+Cnt d (n.Kids.getD i default)) (by omega) (by omega)).eq (by congr 1; omega)
theorem T0.eG {B:Nat} (hB:B<=lim):∀ (d D:Nat) (n:af),d<=5->jT B D n->Shape d n=true->Ev (fun f=>G.eG f n) ((Cnt d n:Nat):Int):=by
  intro d
  induction d with
  | zero=>intro D n _ _ h; cases h
  | succ d ih =>
    intro D n hd h hS
    cases D with
    | zero=>exact h.elim
    | succ D =>
    have hS':=kN hS
    refine Ev.up ?_
    simp only [G.eG]
    have:=cnt_le (d:=d+1) (n:=n) hS
    have hp:=rE hd
    refine (T0.eG.L1 hB h (fun k hk=>ih D k (by omega) (h.2.2.2.2.2 k hk) (hS' k hk)) n.Kids.length 0 1 (by omega) ?_).eq rfl
    rw [List.drop_zero]
    show Cnt (d+1) n<big
    unfold big
    omega
theorem T0.aT {B D:Nat} {n:af} (hB:B<=lim) (h:jT B D n):Ev (fun f=>G.aT f n) (Val n):=by
 refine Ev.up ?_
 simp only [G.aT]
 refine Ev.bind (T0.bW hB 5 D n (by omega) h) (Ev.ite (fun e => ?_) (fun e=>Ev.ret' (by rw [Val,e]; rfl)))
 refine Ev.bind (T0.eG hB 5 D n (by omega) h e) (Ev.ret' ?_)
 rw [Val,e,Bool.true_and]
 apply decide_eq_decide.2
 omega
theorem T0.aJ.L1 {B D d l:Nat} {n:af} (hB:B<=lim) (h:jT B (D+1) n) (hl:l<1000)
    (hs:∀ k,k∈n.Kids->∃ c dp,Ev (fun f=>G.aJ f k ((l+1:Nat):Int)) (c,dp,Shape d k)/\(Shape d k=true->c=((Cnt d k:Nat):Int))) :
    ∀ (k i c:Nat) (dp:Int),i+k=n.Kids.length->(n.Kids.drop i).all (Shape d)=true->c+((n.Kids.drop i).map (Cnt d)).sum<big ->
      ∃ Il,Ev (fun f=>G.aJ.L1 f n (l:Int) (c:Int) dp i) (((c+((n.Kids.drop i).map (Cnt d)).sum:Nat):Int),Il,true):=by
  have hk:=h.kids
  unfold lim at hB
  unfold big
  intro k
  induction k with
  | zero =>
    intro i c dp hi _ hc
    refine ⟨dp,Ev.up ?_⟩
    simp only [G.aJ.L1]
    refine Ev.cf (by simp; omega) (Ev.ret' ?_)
    rw [List.drop_of_length_le (by omega)]
    rfl
  | succ k ih =>
    intro i c dp hi
    rw [aY (default:af) (by omega:i<n.Kids.length),List.map_cons,List.sum_cons,List.all_cons,Bool.and_eq_true]
    intro ⟨hS,hA⟩ hc
    obtain ⟨c1,d1,h1,h2⟩:=hs (n.Kids.getD i default) (by rw [dI _ (by omega:i<n.Kids.length)]; exact List.getElem_mem _)
    have e:=h2 hS
    subst e
    obtain ⟨Il,g1⟩:=ih (i+1) (c+Cnt d (n.Kids.getD i default)) (if IntKind.wrap .i64 (d1+1)>dp then IntKind.wrap .i64 (d1+1) else dp) (by omega) hA (by omega)
    refine ⟨Il,Ev.up ?_⟩
    simp only [G.aJ.L1]
    refine Ev.ct (by simp; omega) (Ev.chk (by omega) ?_)
    rw [Int.toNat_natCast,bu (by omega)]
    refine Ev.bind h1 ?_
    refine Ev.ct hS ?_
    rw [bu (by omega),wrapN (m:=c+Cnt d (n.Kids.getD i default)) (by omega) (by omega)]
    exact g1.eq (by rw [Nat.add_assoc])
theorem T0.aJ.OC {B D d l:Nat} {n:af} (hB:B<=lim) (h:jT B (D+1) n) (hl:l<1000)
    (hs:∀ k,k∈n.Kids->∃ c dp,Ev (fun f=>G.aJ f k ((l+1:Nat):Int)) (c,dp,Shape d k)) :
    ∀ (k i:Nat) (c dp:Int),i+k=n.Kids.length->(n.Kids.drop i).all (Shape d)=false->Ev (fun f=>G.aJ.L1 f n (l:Int) c dp i) (0,0,false):=by
  have hk:=h.kids
  unfold lim at hB
  intro k
  induction k with
  | zero =>
    intro i c dp hi hA
    rw [List.drop_of_length_le (by omega)] at hA
    cases hA
  | succ k ih =>
    intro i c dp hi
    rw [aY (default:af) (by omega:i<n.Kids.length),List.all_cons]
    intro hA
    obtain ⟨c1,d1,h1⟩:=hs (n.Kids.getD i default) (by rw [dI _ (by omega:i<n.Kids.length)]; exact List.getElem_mem _)
    refine Ev.up ?_
    simp only [G.aJ.L1]
    refine Ev.ct (by simp; omega) (Ev.chk (by omega) ?_)
    rw [Int.toNat_natCast,bu (by omega)]
    refine Ev.bind h1 ?_
    refine Ev.ite (fun hS => ?_) (fun hS=>Ev.ret _)
    have hS:Shape d (n.Kids.getD i default)=true:=hS
    rw [hS,Bool.true_and] at hA
    rw [bu (by omega)]
    exact ih (i+1) _ _ (by omega) hA
theorem T0.aJ {B:Nat} (hB:B<=lim):∀ (d l D:Nat) (n:af),d+l=6->1<=l->jT B D n ->
    ∃ c dp,Ev (fun f=>G.aJ f n (l:Int)) (c,dp,Shape d n)/\(Shape d n=true->c=((Cnt d n:Nat):Int)):=by
  intro d
  induction d with
  | zero =>
    intro l D n hl h1 h
    refine ⟨0,0,Ev.up ?_,fun e=>by cases e⟩
    simp only [G.aJ]
    exact Ev.ct (by simp; omega) (Ev.ret _)
  | succ d ih =>
    intro l D n hl h1 h
    cases D with
    | zero=>exact h.elim
    | succ D =>
    have hs:=fun k (hk:k∈n.Kids)=>ih (l+1) D k (by omega) (by omega) (h.2.2.2.2.2 k hk)
    have hp:=T0.aS hB h
    cases hS:Shape (d+1) n with
    | true =>
      have hk:=kN hS
      have hc:=cnt_le hS
      have hpw:=rE (d:=d+1) (by omega)
      obtain ⟨Il,g⟩:=T0.aJ.L1 hB h (by omega) hs n.Kids.length 0 1 1 (by omega) (by rw [List.drop_zero]; exact List.all_eq_true.2 hk) (by rw [List.drop_zero]; unfold big; show Cnt (d+1) n<_; omega)
      rw [List.drop_zero] at g
      refine ⟨((Cnt (d+1) n:Nat):Int),Il,Ev.up ?_,fun _=>rfl⟩
      simp only [G.aJ]
      exact Ev.cf (by simp; omega) (Ev.bind hp (Ev.ct (iq hS) g))
    | false =>
      refine ⟨0,0,Ev.up ?_,fun e=>by cases e⟩
      simp only [G.aJ]
      refine Ev.cf (by simp; omega) (Ev.bind hp (Ev.ite (fun e => ?_) (fun e=>Ev.ret _)))
      refine T0.aJ.OC (d:=d) hB h (by omega) (fun k hk => ?_) n.Kids.length 0 1 1 (by omega) ?_
      · obtain ⟨c,dp,g,_⟩:=hs k hk; exact ⟨c,dp,g⟩
      · rw [List.drop_zero]; unfold Shape at hS; rw [e,Bool.true_and] at hS; exact hS
theorem T0.cZ {B D:Nat} {n:af} (hB:B<=lim) (h:jT B D n):Ev (fun f=>G.cZ f n) (Val n):=by
 obtain ⟨c,dp,g,hc⟩:=T0.aJ hB 5 1 D n rfl (by omega) h
 refine Ev.up ?_
 simp only [G.cZ]
 refine Ev.bind g (Ev.ite (fun e=>Ev.ret' ?_) (fun e=>Ev.ret' ?_))
 ·have e:Shape 5 n=true:=e
  show decide (c<=40)=_
  rw [hc e,Val,e,Bool.true_and]
  apply decide_eq_decide.2
  omega
 ·have e:Shape 5 n=false:=e
  rw [Val,e]; rfl
theorem T0.ay.L1 {B D:Nat} {n:af} (hB:B<=lim) (h:jT B (D+1) n) (hs:∀ k,k∈n.Kids->Ev (fun f=>G.ay f k) k) :
    ∀ (k i:Nat),i+k=n.Kids.length->Ev (fun f=>G.ay.L1 f n i (n.Kids.take i)) n:=by
  have hl:=h.kids
  have hn:=h.names
  unfold lim at hB
  intro k
  induction k with
  | zero =>
    intro i hi
    refine Ev.up ?_
    simp only [G.ay.L1]
    refine Ev.cf (by simp; omega) (Ev.chk (by omega) (Ev.ret' ?_))
    rw [List.take_of_length_le (by omega)]
    cases n; rfl
  | succ k ih =>
    intro i hi
    refine Ev.up ?_
    simp only [G.ay.L1]
    refine Ev.ct (by simp; omega) (Ev.chk (by omega) ?_)
    rw [Int.toNat_natCast]
    refine Ev.bind (hs _ (by rw [dI _ (by omega:i<n.Kids.length)]; exact List.getElem_mem _)) ?_
    refine Ev.chk (by rw [List.length_take]; omega) ?_
    have e:n.Kids.take i++[n.Kids.getD i default]=n.Kids.take (i+1):=by rw [dI _ (by omega:i<n.Kids.length),List.take_succ_eq_append_getElem (by omega)]
    rw [bu (by omega),e]
    exact ih (i+1) (by omega)
theorem T0.ay {B:Nat} (hB:B<=lim):∀ {D:Nat} {n:af},jT B D n->Ev (fun f=>G.ay f n) n:=by
  intro D
  induction D with
  | zero=>intro n h; exact h.elim
  | succ D ih =>
    intro n h
    refine Ev.up ?_
    simp only [G.ay]
    exact T0.ay.L1 hB h (fun k hk=>ih (h.2.2.2.2.2 k hk)) n.Kids.length 0 (by omega)
theorem T0.aX.L2 {B D:Nat} {n:af} (zs:List aA) (hB:B<=lim) (h:jT B (D+1) n) (hs:∀ k,k∈n.Kids->Ev (fun f=>G.aX f k) k) :
    ∀ (k i:Nat) (z:List af),i+k=n.Kids.length->z.length=n.Kids.length->z.take i=n.Kids.take i->Ev (fun f=>G.aX.L2 f n zs i z) (af.mk n.Kind n.Num n.Text zs n.Kids):=by
  have hl:=h.kids
  unfold lim at hB
  intro k
  induction k with
  | zero =>
    intro i z hi hz ht
    refine Ev.up ?_
    simp only [G.aX.L2]
    refine Ev.cf (by simp; omega) (Ev.ret' ?_)
    rw [List.take_of_length_le (by omega),List.take_of_length_le (by omega)] at ht
    rw [ht]
  | succ k ih =>
    intro i z hi hz ht
    refine Ev.up ?_
    simp only [G.aX.L2]
    refine Ev.ct (by simp; omega) (Ev.chk (by omega) ?_)
    rw [Int.toNat_natCast]
    refine Ev.bind (hs _ (by rw [dI _ (by omega:i<n.Kids.length)]; exact List.getElem_mem _)) ?_
    refine Ev.chk (by omega) ?_
    rw [bu (by omega)]
    refine ih (i+1) _ (by omega) (by rw [List.length_set]; exact hz) ?_
    rw [dI _ (by omega:i<n.Kids.length),List.take_succ_eq_append_getElem (by rw [List.length_set]; omega),List.take_succ_eq_append_getElem (by omega:i<n.Kids.length),List.getElem_set_self,List.take_set_of_le (Nat.le_refl i),ht]
theorem T0.aX {B:Nat} (hB:B<=lim):∀ {D:Nat} {n:af},jT B D n->Ev (fun f=>G.aX f n) n:=by
  intro D
  induction D with
  | zero=>intro n h; exact h.elim
  | succ D ih =>
    intro n h
    have hl:=h.kids
    have hn:=h.names
    have hB':=hB
    unfold lim at hB'
    have hK:Ev (fun f=>G.aX.K1 f n n.Names) n:=by
      refine Ev.up ?_
      simp only [G.aX.K1]
      refine Ev.ite (fun e => ?_) (fun e=>Ev.ret' ?_)
      · refine Ev.chk (by omega) ?_
        refine (T0.aX.L2 n.Names hB h (fun k hk=>ih (h.2.2.2.2.2 k hk)) n.Kids.length 0 (List.replicate n.Kids.length (af.mk 0 0 [] [] [])) (by omega) (by simp) rfl).eq ?_
        cases n; rfl
      · have:n.Kids=[]:=by
          apply List.eq_nil_of_length_eq_zero
          simp only [decide_eq_false_iff_not] at e; omega
        cases n; simp only at this; subst this; rfl
    refine Ev.up ?_
    simp only [G.aX]
    refine Ev.ite (fun e => ?_) (fun e => ?_)
    · exact Ev.chk (by omega) hK
    · have:n.Names=[]:=by
        apply List.eq_nil_of_length_eq_zero
        simp only [decide_eq_false_iff_not] at e; omega
      rw [this] at hK
      exact hK
end Go.Ab
end
section
namespace Go.Ab
open Go
set_option maxRecDepth 100000
def mx:Nat:=9223372036854775807
end Go.Ab
end
section
namespace Go.Ab
open Go
set_option maxRecDepth 100000
structure qC (B D:Nat) (o:iI):Prop where
 path:o.Path.length<=B/\∀ s,s∈o.Path->s.length<=B
 from_:o.From.length<=B/\∀ s,s∈o.From->s.length<=B
 val:jT B D o.Value
theorem qC.mono {B D D':Nat} {o:iI} (h:qC B D o) (hD:D<=D'):qC B D' o:=⟨h.path,h.from_,h.val.mono (Nat.le_refl _) hD⟩
theorem qC.all {B:Nat} : ∀ {l:List iI} (D:Nat),(∀ o,o∈l->∃ D,qC B D o)->∃ D',D<=D'/\∀ o,o∈l->qC B D' o
  | [],D,_=>⟨D,Nat.le_refl _,fun o h=>by cases h⟩
  | o::l,D,h=>by
    obtain ⟨d,hd⟩:=h o (List.mem_cons_self ..)
    obtain ⟨D',h1,h2⟩:=qC.all (l:=l) (max D d) (fun o ho=>h o (List.mem_cons_of_mem _ ho))
    refine ⟨D',by omega,fun x hx => ?_⟩
    rcases List.mem_cons.1 hx with e | e
    · rw [e]; exact hd.mono (by omega)
    · exact h2 x e
end Go.Ab
end
section
namespace Go.Ab
open Go
set_option maxRecDepth 100000
theorem KQ:1048576<=lim:=by decide
def uw (l:List iI):Prop:=l.length<=1048576/\∀ o,o∈l->∃ D,qC 1048576 D o
theorem T0.ig {B D:Nat} {o:iI} (hB:B<=lim) (h:qC B D o):Ev (fun f=>G.ig f o) (vK o):=by
 refine Ev.up ?_
 simp only [G.ig]
 unfold vK
 refine Ev.bind (T.bG _ _ _) (Ev.ite (fun e1 => ?_) (fun e1=>Ev.ret' (by rw [e1]; rfl)))
 refine Ev.bind (T.dM _ (CY hB h.path.1 h.path.2)) (Ev.ite (fun e2 => ?_) (fun e2=>Ev.ret' (by rw [e1,e2]; rfl)))
 refine Ev.bind (T.dM _ (CY hB h.from_.1 h.from_.2)) (Ev.ite (fun e3 => ?_) (fun e3=>Ev.ret' (by rw [e1,e2,e3]; rfl)))
 exact Ev.bind (T0.aT hB h.val) (Ev.ret' (by rw [e1,e2,e3]; rfl))
theorem T0.jo {B D:Nat} {o:iI} (hB:B<=lim) (h:qC B D o):Ev (fun f=>G.jo f o) (vK o):=by
 refine Ev.up ?_
 simp only [G.jo]
 unfold vK
 refine Ev.ite (fun e0 => ?_) (fun e0=>Ev.ret' (by rw [e0]; rfl))
 refine Ev.ite (fun e1 => ?_) (fun e1=>Ev.ret' (by rw [e0,e1]; rfl))
 refine Ev.bind (T.fA _ (CY hB h.path.1 h.path.2)) (Ev.ite (fun e2 => ?_) (fun e2=>Ev.ret' (by rw [e0,e1,e2]; rfl)))
 refine Ev.bind (T.fA _ (CY hB h.from_.1 h.from_.2)) (Ev.ite (fun e3 => ?_) (fun e3=>Ev.ret' (by rw [e0,e1,e2,e3]; rfl)))
 exact Ev.bind (T0.cZ hB h.val) (Ev.ret' (by rw [e0,e1,e2,e3]; rfl))
theorem T0.bP.L1 {l:List iI} (h:uw l):∀ (k i:Nat),i+k=l.length->Ev (fun f=>G.bP.L1 f l i) ((l.drop i).all vK):=by
  obtain ⟨hl,ho⟩:=h
  intro k
  induction k with
  | zero =>
    intro i hi
    refine Ev.up ?_
    simp only [G.bP.L1]
    refine Ev.cf (by simp; omega) (Ev.ret' ?_)
    rw [List.drop_of_length_le (by omega)]; rfl
  | succ k ih =>
    intro i hi
    have hlt:i<l.length:=by omega
    refine Ev.up ?_
    simp only [G.bP.L1,Int.toNat_natCast,iI.eta,bu (show i+1<9223372036854775808 by omega)]
    obtain ⟨E,hf⟩:=ho _ (getD_mem default hlt)
    refine Ev.ct (by simpa using hlt) (Ev.chk (by omega) (Ev.bind (T0.jo KQ hf) ?_))
    rw [aY (default:iI) hlt,List.all_cons]
    refine Ev.ite (fun e => ?_) (fun e => ?_)
    · rw [e,Bool.true_and]; exact ih (i+1) (by omega)
    · rw [e,Bool.false_and]; exact Ev.ret _
theorem T0.bP {l:List iI} (h:uw l):Ev (fun f=>G.bP f l) (o6 l):=by
 refine Ev.up ?_
 simp only [G.bP]
 have hL:=T0.bP.L1 h l.length 0 (by omega)
 unfold o6
 refine Ev.ite (fun e=>Ev.ret' ?_) (fun e => ?_)
 ·have:¬ l.length<=12:=by simp at e; omega
  simp [this]
 ·have:l.length<=12:=by simp at e; omega
  simp only [this,decide_true,Bool.and_true]
  exact hL
theorem T0.bY.L1 {l:List iI} (h:uw l):∀ (k i:Nat),i+k=l.length->Ev (fun f=>G.bY.L1 f l i) ((l.drop i).all vK&&decide (l.length<=12)):=by
  obtain ⟨hl,ho⟩:=h
  intro k
  induction k with
  | zero =>
    intro i hi
    refine Ev.up ?_
    simp only [G.bY.L1]
    refine Ev.cf (by simp; omega) (Ev.ret' ?_)
    rw [List.drop_of_length_le (by omega),List.all_nil,Bool.true_and]
    simp; omega
  | succ k ih =>
    intro i hi
    have hlt:i<l.length:=by omega
    refine Ev.up ?_
    simp only [G.bY.L1,Int.toNat_natCast,iI.eta,bu (show i+1<9223372036854775808 by omega)]
    obtain ⟨E,hf⟩:=ho _ (getD_mem default hlt)
    refine Ev.ct (by simpa using hlt) (Ev.chk (by omega) (Ev.bind (T0.ig KQ hf) ?_))
    rw [aY (default:iI) hlt,List.all_cons]
    refine Ev.ite (fun e => ?_) (fun e => ?_)
    · rw [e,Bool.true_and]; exact ih (i+1) (by omega)
    · rw [e,Bool.false_and]; exact Ev.ret _
theorem T0.bY {l:List iI} (h:uw l):Ev (fun f=>G.bY f l) (o6 l):=by
 refine Ev.up ?_
 simp only [G.bY]
 exact T0.bY.L1 h l.length 0 (by omega)
end Go.Ab
end
section
namespace Go.Ab
open Go
set_option maxRecDepth 100000
def LW (B:Nat) (n:af):Prop:=∃ D,jT B D n
structure LX (B:Nat) (s:StoreT):Prop where
 len:s.Items.length<=B
 tJ:∀ it,it∈s.Items->it.Name.length<=B
 KU:∀ it,it∈s.Items->LW B it.Node
structure Ht (B:Nat) (q:RequestT):Prop where
 tJ:q.Name.length<=B
 want:ji B q.Want
 avoid:ji B q.jk
 body:LW B q.Body
 ops:uw q.Ops
theorem LX.at_ {B:Nat} {s:StoreT} (h:LX B s) {i:Nat} (hi:i<s.Items.length):(s.Items.getD i default).Name.length<=B/\LW B (s.Items.getD i default).Node :=
 ⟨h.tJ _ (getD_mem default hi),h.KU _ (getD_mem default hi)⟩
section
variable {B:Nat} {s:StoreT} (hB:B<=lim) (h:LX B s)
include hB h
theorem T0.bg.L1:∀ (k i:Nat),i+k=s.Items.length->Ev (fun f=>G.bg.L1 f s i) (((s.Items.drop i).all (JU s.Clock)&&Asc ((uO s.Items).drop (i-1)))&&(decide (s.Items.length<=10)&&(decide (0<=s.Clock)&&decide (s.Clock<=999)))):=by
  have hl:=h.len
  unfold lim at hB
  intro k
  induction k with
  | zero =>
    intro i hi
    refine Ev.up ?_
    simp only [G.bg.L1]
    rw [List.drop_of_length_le (by omega),EG (by rw [rV]; omega)]
    refine Ev.cf (decide_eq_false (by omega)) (Ev.ite (fun e => ?_) (fun e=>Ev.ret' ?_))
    · refine Ev.bind (T.bG _ _ _) (Ev.ret' ?_)
      rw [decide_eq_true (show s.Items.length<=10 by simp only [decide_eq_true_eq] at e; omega)]
      simp
    · rw [decide_eq_false (show ¬ s.Items.length<=10 by simp only [decide_eq_false_iff_not] at e; omega)]
      simp
  | succ k ih =>
    intro i hi
    have hil:i<s.Items.length:=by omega
    obtain ⟨hn,⟨D,hd⟩⟩:=h.at_ hil
    refine Ev.up ?_
    simp only [G.bg.L1,Int.toNat_natCast,bu (show i+1<9223372036854775808 by omega)]
    rw [aY (default:dN) hil,List.all_cons]
    refine Ev.ct (decide_eq_true (by omega)) (Ev.chk (by omega) ?_)
    unfold JU
    refine Ev.bind (T.di _ (by unfold big; omega)) (Ev.ite (fun e1 => ?_) (fun e1=>Ev.ret' (by rw [e1]; simp)))
    refine Ev.bind (T0.aT (by unfold lim; omega) hd) (Ev.ite (fun e2 => ?_) (fun e2=>Ev.ret' (by rw [e2]; simp)))
    refine Ev.bind (T.bG _ _ _) (Ev.ite (fun e3 => ?_) (fun e3=>Ev.ret' (by rw [e3]; simp)))
    rw [e1,e2,e3]
    have ih':=ih (i+1) (by omega)
    unfold JU at ih'
    rw [Nat.add_sub_cancel] at ih'
    by_cases h0:0<i
    · have e:IntKind.wrap .i64 ((i:Int)-1)=((i-1:Nat):Int):=wrapN (by omega) (by omega)
      rw [e,Int.toNat_natCast]
      rw [BL h0 (by rw [rV]; exact hil),vW hil,vW (by omega:i-1<s.Items.length)]
      refine Ev.ct (decide_eq_true (by omega)) (Ev.chk (by omega) (Ev.ite (fun h1=>Ev.ret' ?_) (fun h1=>Ev.ite (fun h2=>Ev.ret' ?_) (fun h2 => ?_))))
      · rw [show bl (s.Items.getD (i-1) default).Name (s.Items.getD i default).Name=false from xG h1]; simp
      · rw [beq_iff_eq] at h2
        rw [show bl (s.Items.getD (i-1) default).Name (s.Items.getD i default).Name=false by rw [h2]; exact vO _]; simp
      · have hb:bl (s.Items.getD (i-1) default).Name (s.Items.getD i default).Name=true:=by
          cases hb:bl (s.Items.getD (i-1) default).Name (s.Items.getD i default).Name with
          | true=>rfl
          | false=>rw [vP h1 hb] at h2; simp at h2
        rw [hb]
        exact ih'.eq (by simp)
    · have:i=0:=by omega
      subst this
      exact Ev.cf (by decide) (ih'.eq (by simp))
theorem T0.bg:Ev (fun f=>G.bg f s) (wz s):=by
 refine Ev.up ?_
 simp only [G.bg]
 exact T0.bg.L1 hB h s.Items.length 0 (by omega)
end
section
variable {B:Nat} {q:RequestT} (hB:B<=lim) (h:Ht B q)
include hB h
theorem T0.fD:Ev (fun f=>G.fD f q) (BG q):=by
 obtain ⟨E,hb⟩:=h.body
 have hn:=h.tJ
 unfold lim at hB
 refine Ev.up ?_
 simp only [G.fD]
 unfold BG
 refine Ev.bind (T.bG _ _ _) (Ev.ite (fun e1 => ?_) (fun e1=>Ev.ret' (by rw [e1]; rfl)))
 refine Ev.bind (T.di _ (by unfold big; omega)) (Ev.ite (fun e2 => ?_) (fun e2=>Ev.ret' (by rw [e1,e2]; rfl)))
 refine Ev.bind (T.bZ (h.want.sm (by unfold lim; omega))) (Ev.ite (fun e3 => ?_) (fun e3=>Ev.ret' (by rw [e1,e2,e3]; rfl)))
 refine Ev.bind (T.bZ (h.avoid.sm (by unfold lim; omega))) (Ev.ite (fun e4 => ?_) (fun e4=>Ev.ret' (by rw [e1,e2,e3,e4]; rfl)))
 refine Ev.bind (T0.aT (by unfold lim; omega) hb) (Ev.ite (fun e5 => ?_) (fun e5=>Ev.ret' (by rw [e1,e2,e3,e4,e5]; rfl)))
 exact Ev.bind (T0.bY h.ops) (Ev.ret' (by rw [e1,e2,e3,e4,e5]; rfl))
theorem T0.gV:Ev (fun f=>G.gV f q) (BG q):=by
 obtain ⟨E,hb⟩:=h.body
 have hn:=h.tJ
 unfold lim at hB
 refine Ev.up ?_
 simp only [G.gV]
 unfold BG
 refine Ev.ite (fun e0 => ?_) (fun e0=>Ev.ret' (by rw [e0]; rfl))
 refine Ev.ite (fun e1 => ?_) (fun e1=>Ev.ret' (by rw [e0,e1]; rfl))
 refine Ev.bind (T.fM _ (by unfold big; omega)) (Ev.ite (fun e2 => ?_) (fun e2=>Ev.ret' (by rw [e0,e1,e2]; rfl)))
 refine Ev.bind (T.dX (h.want.sm (by unfold lim; omega))) (Ev.ite (fun e3 => ?_) (fun e3=>Ev.ret' (by rw [e0,e1,e2,e3]; rfl)))
 refine Ev.bind (T.dX (h.avoid.sm (by unfold lim; omega))) (Ev.ite (fun e4 => ?_) (fun e4=>Ev.ret' (by rw [e0,e1,e2,e3,e4]; rfl)))
 refine Ev.bind (T0.cZ (by unfold lim; omega) hb) (Ev.ite (fun e5 => ?_) (fun e5=>Ev.ret' (by rw [e0,e1,e2,e3,e4,e5]; rfl)))
 exact Ev.bind (T0.bP h.ops) (Ev.ret' (by rw [e0,e1,e2,e3,e4,e5]; rfl))
end
end Go.Ab
end
