/- The law FnExactApplyPatch of the package laws answers true for all arguments and leaves them as they are (part 1). Conditions: none but what the row lists. -/
import Derived.Test.YtjfeblenfiiofaaGreatDoorD2
set_option linter.unusedVariables false
set_option linter.unusedSimpArgs false
set_option maxRecDepth 100000
set_option maxHeartbeats 4000000
open Go.IntKind renaming wrap->ah
open Go.Lib renaming pow10Tab->pG
open Go.OpenSpec renaming ofChange->oU
open Go.Proofs.Tryz renaming f5->afl
open Int renaming toNat_natCast->ak
open List renaming mem_cons->aB,drop_of_length_le->aI,map->aT,take_of_length_le->aW,drop_zero->dI,not_mem_nil->gU,append_nil->pI
open Nat renaming zero_le->jq
open Option renaming isSome_iff_exists->nM
open Option.some renaming inj->yO
open Prod.mk renaming injEq->bV
namespace Go.Ab
open Go
def G.nU (f:Nat)(bD:ai)(wB:Int):Option (Int):=match f with
|0=>none
|n+1=>((G.fE n bD.Names wB).bind λv1=>(cond (decide (v1<0))
(some ((-1)))
((G.fV n bD.Kids v1).bind λv2=>(cond (decide (v2<0))
(some ((-1)))
(some (v2))))))
def G.adt.L1 (f:Nat)(bD:List tC)(Fp:Int)(di:Int):Option (Int):=match f with
|0=>none
|n+1=>(cond (decide (di<(bD.length:Int)))
(chk (0<=di/\di<(bD.length:Int))
((G.oM n (tC.mk ((bD.getD di.toNat default).Kind) ((bD.getD di.toNat default).Path) ((bD.getD di.toNat default).From) ((bD.getD di.toNat default).Value)) Fp).bind λv3=>(cond (decide (v3<0))
(some ((-1)))
(G.adt.L1 n bD v3 (ah .i64 (di+1))))))
(some (Fp)))
def G.adt (f:Nat)(bD:List tC)(ni:Int):Option (Int):=match f with
|0=>none
|n+1=>(cond (decide ((ah .i64 (ni-(bD.length:Int)))<0))
(some ((-1)))
(G.adt.L1 n bD (ah .i64 (ni-(bD.length:Int))) 0))
def G.adv.L1 (f:Nat)(bD:List tC)(di:Int)(z3:List tC):Option (List tC):=match f with
|0=>none
|n+1=>(cond (decide (di<(bD.length:Int)))
(chk (0<=di/\di<(bD.length:Int))
((G.ry n (tC.mk ((bD.getD di.toNat default).Kind) ((bD.getD di.toNat default).Path) ((bD.getD di.toNat default).From) ((bD.getD di.toNat default).Value))).bind λv3=>(chk (0<=di/\di<(z3.length:Int))
(G.adv.L1 n bD (ah .i64 (di+1)) (z3.set di.toNat v3)))))
(some (z3)))
def G.adv (f:Nat)(bD:List tC):Option (List tC):=match f with
|0=>none
|n+1=>(chk (0<=(bD.length:Int)/\(bD.length:Int)<=(bD.length:Int)/\136*(bD.length:Int)<=2^47/\(bD.length:Int)<=2^47)
(G.adv.L1 n bD 0 (List.replicate bD.length (tC.mk 0 [] [] (ai.mk 0 0 [] [] [])))))
def C.nU : dD:=(qs [qX 2 10 0,qI 4 0] [1,2] (qs [qA 5 3 2,qF 6 1 5,zM 7 1,q2 8 48 6 7,zM 1 8] [1,2] (.seq (qs [zM 9 1,qk 10 .lss 9 0] [1,2,10] (qc 10 (qr [qI 4 (-1)] [4]) .skip)) (qs [qA 11 4 2,qF 12 1 11,zM 13 1,q2 14 49 12 13,zM 1 14] [1] (.seq (qs [zM 15 1,qk 16 .lss 15 0] [1,16] (qc 16 (qr [qI 4 (-1)] [4]) .skip)) (qr [zM 17 1,zM 4 17] [4]))))))
theorem K.nU : lK pZ 17 2 0 C.nU [.tmp 4]=true:=by kernel_rfl
def C.adt : dD:=(qs [qI 4 0] [0,1] (qs [zM 6 1,zM 7 0,qL 8 7,qb 9 .sub 6 8,zM 1 9] [0,1] (.seq (qs [zM 10 1,qk 11 .lss 10 0] [0,1,11] (qc 11 (qr [qI 4 (-1)] [4]) .skip)) (.seq (qs [qI 5 0] [0,1,5] (.block 0 (.loop (.seq (qs [zM 12 5,zM 13 0,qL 14 13,qb 15 .lss 12 14] [0,1,5,15] (qc 15 .skip (.exit 0))) (.seq (.block 1 (qs [zM 18 0,zM 19 5,qD 20 8 18 19,qT 21 8 20,zM 22 1,q2 23 8 21 22,zM 1 23] [0,1,5] (qs [zM 24 1,qk 25 .lss 24 0] [0,1,5,25] (qc 25 (qr [qI 4 (-1)] [4]) .skip)))) (.reg [zM 16 5,qk 17 .add 16 1,zM 5 17] [0,1,5])))))) (qr [zM 26 1,zM 4 26] [4])))))
theorem K.adt : lK pZ 23 2 0 C.adt [.tmp 4]=true:=by kernel_rfl
def C.adv : dD:=(qs [zA 2 (.mv (.k (.xh 8)))] [0] (qs [zM 5 0,qL 6 5,zA 7 (.makes 10 8 136 [.lit (.int .i64 0),.sl 1 [],.sl 1 [],.lit (.int .i64 0),.lit (.int .i64 0),.str [],.sl 1 [],.sl 5 []] (.t 6) (.t 6)),zM 3 7] [0,3] (.seq (qs [qI 4 0] [0,3,4] (.block 0 (.loop (.seq (qs [zM 8 4,zM 9 0,qL 10 9,qb 11 .lss 8 10] [0,3,4,11] (qc 11 .skip (.exit 0))) (.seq (.block 1 (.reg [zM 14 3,zM 15 4,zM 16 0,zM 17 4,qD 18 8 16 17,qT 19 8 18,q1 20 11 19,qD 21 8 14 15,qS 8 21 20] [0,3,4])) (.reg [zM 12 4,qk 13 .add 12 1,zM 4 13] [0,3,4])))))) (qr [zM 22 3,zM 2 22] [2]))))
theorem K.adv : lK pZ 25 1 0 C.adv [.tmp 2]=true:=by kernel_rfl
theorem T.ajm {D:Nat}{l:List tC}{left:Int}(h1:l.length<=mx)(hO:∀o,o∈l->DF mx D o)(h0:0<=left)(hl:left<=1048576) :
 ∃r,Ev (λf=>G.adt f l left) r/\r<=left/\(0<=r->(l.length:Int)<=left/\(∀o,o∈l->DF 1048576 D o)/\(aea l:Int)<=4*left):=by
 unfold mx at h1;have w0:ah .i64 (left-(l.length:Int))=left-(l.length:Int):=Io (by omega) (by omega);by_cases c:left-(l.length:Int)<0
 ·refine⟨-1,Ev.up ?_,by omega,λh=>by omega⟩;simp only[G.adt,w0];exact Ev.ct (decide_eq_true c) (Ev.ret _)
 ·have L:∀(k i:Nat) (a:Int),i+k=l.length->0<=a->a<=1048576->∃r,Ev (λf=>G.adt.L1 f l a i) r/\r<=a/\(0<=r->(∀o,o∈l.drop i->DF 1048576 D o)/\(aea (l.drop i):Int)<=3*(a-r)+4*k):=by
   intro k
   induction k with
   | zero=>
     intro i a hi ha ha2;refine⟨a,Ev.up ?_,by omega,λ_=>⟨λs hs=>?_,by rw[aI (by omega)];simp[aea]⟩⟩
     ·simp only[G.adt.L1];exact Ev.cf (decide_eq_false (by omega)) (Ev.ret _)
     ·rw[aI (by omega)]at hs;cases hs
   | succ k ih=>
     intro i a hi ha ha2;have hil:i<l.length:=(by omega);obtain⟨q,gq,q1,q2⟩:=T.afk (hO _ (Me default hil)) ha ha2;by_cases c1:q<0
     ·refine⟨-1,Ev.up ?_,by omega,λh=>by omega⟩;simp only[G.adt.L1,ak];exact Ev.ct (decide_eq_true (by omega)) (Ev.chk (by omega) (Ev.bind gq (Ev.ct (decide_eq_true c1) (Ev.ret _))))
     ·obtain⟨r,g,g1,g2⟩:=ih (i+1) q (by omega) (by omega) (by omega);refine⟨r,Ev.up ?_,by omega,λh=>⟨λs hs=>?_,?_⟩⟩
      ·simp only[G.adt.L1,ak,iP (show i+1<9223372036854775808 by omega)];exact Ev.ct (decide_eq_true (by omega)) (Ev.chk (by omega) (Ev.bind gq (Ev.cf (decide_eq_false c1) g)))
      ·rw[iJ default hil]at hs;rcases aB.1 hs with e|e
       ·rw[e];exact(q2 (by omega)).1
       ·exact(g2 h).1 s e
      ·have h1:=(q2 (by omega)).2;have h2:=(g2 h).2;rw[iJ default hil];simp only[aea];omega
  obtain⟨r,g,g1,g2⟩:=L l.length 0 (left-(l.length:Int)) (by omega) (by omega) (by omega);refine⟨r,Ev.up ?_,by omega,λh=>⟨by omega,λs hs=>(g2 h).1 s (by rw[dI];exact hs),by have:=(g2 h).2;rw[dI]at this;omega⟩⟩;simp only[G.adt,w0];exact Ev.cf (decide_eq_false c) g
theorem T.ajY {B D:Nat}{l:List tC}(hB:B<=lim)(hl:l.length<=lim)(h:∀o,o∈l->DF B D o):Ev (λf=>G.adv f l) l:=by
 unfold lim at hl;have L:∀(k i:Nat) (z:List tC),i+k=l.length->z.length=l.length->z.take i=l.take i->Ev (λf=>G.adv.L1 f l i z) l:=by
  intro k
  induction k with
  | zero=>intro i z hi hz ht;refine Ev.up ?_;simp only[G.adv.L1];rw[aW (by omega),aW (by omega)]at ht;exact Ev.cf (decide_eq_false (by omega)) (Ev.ret' ht)
  | succ k ih=>intro i z hi hz ht;have hil:i<l.length:=(by omega);refine Ev.up ?_;simp only[G.adv.L1,ak,iP (show i+1<9223372036854775808 by omega)];refine Ev.ct (decide_eq_true (by omega)) (Ev.chk (by omega) (Ev.bind (T.agy hB (h _ (Me default hil))) (Ev.chk (by omega) (ih (i+1) _ (by omega) (by rw[List.length_set];exact hz) ?_))));rw[jC _ hil];exact TL hil hz ht
 refine Ev.up ?_;simp only[G.adv];exact Ev.chk (by omega) (L l.length 0 _ (by omega) (by simp) rfl)
theorem T.Zz (n:ai){k:Int}(h0:0<=k)(h1:k+NW n<4611686018427387904):Ev (λf=>G.nU f (mkRoot n k) k) (k+NW n):=by unfold NW at *;have e1:=T.Sz (l:=n.Names) (k:=k) h0 (by omega);have e2:=T.XO n.Kids (k:=k+n.Names.length) (by omega) (by omega);refine Ev.up ?_;simp only[G.nU,mkRoot];exact Ev.bind e1 (Ev.cf (decide_eq_false (by omega)) (Ev.bind e2 (Ev.cf (decide_eq_false (by omega)) (Ev.ret' (by omega)))))
structure Rts (p:ai):Prop where
 f:tu 12 5 p
 k:NW p<=400
theorem Vo : Rts Gn:=⟨⟨jq _,jq _,(λ_ h=>by cases h),jq _,trivial,λ_ h=>by cases h⟩,by decide⟩
theorem ack {p:ai}(h:Val p=true):Rts p:=⟨(lg h).fin0,acj h⟩
theorem Yd {o:Option ai}(h:∀m,o=some m->Val m=true):Rts (mM o).1:=by
 cases o with
 |none=>exact Vo
 |some m=>exact ack (h m rfl)
theorem ah7 {n m:ai}{l:List tC}(h:aeg n l=some m):Val m=true:=by
 unfold aeg at h;split at h
 ·rename_i hv;simp only[Bool.and_eq_true]at hv;exact ahJ hv.1 h
 ·cases h
theorem F.nU {n:Nat} : ∀{bD wB r},G.nU n bD wB=some r->fD pZ 17 [.agg (wN bD),.one (wI wB)] (.one (wI r)):=by
 intro bD wB r h;refine dB K.nU (tJ ?_);unfold C.nU;rcases n with _|n<;>simp only[G.nU,reduceCtorEq]at h;have z:=pp (pp @F.fE <|pp @F.fV ()) <|pp () <|pp () <|pp () <|pp () <|pp () <|()
 exact uG
theorem F.adt {n:Nat} : ∀{bD ni r},G.adt n bD ni=some r->fD pZ 23 [.one (.c (.sl 8 (aT tC.cells bD))),.one (wI ni)] (.one (wI r)):=by
 intro bD ni r h;refine dB K.adt (tJ ?_);unfold C.adt;rcases n with _|n<;>simp only[G.adt,reduceCtorEq]at h;have z:=pp (pp @F.oM ()) <|pp () <|pp (pp (@wX (Int×Int) _ (λn x=>G.adt.L1 n bD x.1 x.2) r (λx=>dP.of [(0,.v true (.one (.c (.sl 8 (aT tC.cells bD))))),eI 1 x.1,eI 5 x.2] [])) ()) <|pp () <|pp (pp (aS @G.adt.L1.eq_1 <|@G.adt.L1.eq_2) ()) <|pp (pp (@kQ [] [] []) ()) <|()
 exact uG
theorem F.adv {n:Nat} : ∀{bD r},G.adv n bD=some r->fD pZ 25 [.one (.c (.sl 8 (aT tC.cells bD)))] (.one (.c (.sl 8 (aT tC.cells r)))):=by
 intro bD r h;refine dB K.adv (tJ ?_);unfold C.adv;rcases n with _|n<;>simp only[G.adv,reduceCtorEq]at h;have z:=pp (pp @F.ry ()) <|pp () <|pp (pp (@wX (Int×List tC) _ (λn x=>G.adv.L1 n bD x.1 x.2) r (λx=>dP.of [(0,.v true (.one (.c (.sl 8 (aT tC.cells bD))))),(3,.v true (.one (.own 103 x.2.length 8))),eI 4 x.1] [(103,.dat 8 (aT tC.cells x.2))])) ()) <|pp () <|pp (pp (aS @G.adv.L1.eq_1 <|@G.adv.L1.eq_2) ()) <|pp (pp (@kQ [] [(103,10)] []) <|pp (@kQ [] [(103,103)] []) ()) <|()
 exact uG
end Go.Ab
section
namespace Go.Ab
open Go Go.ChangeShapes Go.WideShapes Go.ChangeAt Go.RowKit
theorem ajU {I:IH}{ρ:Ren}{v:Value}{x:Cell}(h:Rd I v x):GV I ρ v (.one (.c x)):=h
end Go.Ab
end
namespace Go.Ab
open Go
section
variable {P:Program} {W:World} {H:Type} {enc:TypeId×Value->H}
theorem aiv {tI tS tL tN tK tO tP:TypeId}(T:acs P tI tS tL tN tK tO tP){fuel:Nat}{cs:List Value}{d:DataW H}{ps:List MemPlace}(h:NK enc P W fuel tP cs=some (d,ps)):∃(l:List tC) (v:Value),cs=[v]/\Rd (I0 W) v (.sl 8 (l.map tC.cells))/\l.length<=maxLen/\∀o,o∈l->∃D,DF mx D o:=
 Nc (cells:=tC.cells) (Q:=λo=>∃D,DF mx D o) T.p T.co (λf ecs d p _ hh=>(ab3 T hh).imp λn hn=>⟨hn.1,f,hn.2.2⟩) h
end
end Go.Ab
section
namespace Go.Ab
open Go
def C.ady : dD:=(.seq (.reg [ ⟨none,some 2,.op (.box 10 (.t 0))⟩,⟨none,some 4,.op (.mv (.k (.c (.lit (.bool false)))))⟩] [1,2]) (.seq (.reg [ ⟨none,some 5,.op (.mv (.k (.c (.lit (.int .i64 1048576)))))⟩] [1,2,5]) (.seq (.reg [ ⟨none,some 17,.op (.load true 5 (.t 2))⟩,⟨none,some 18,.op (.mv (.t 5))⟩,⟨none,some 19,.call 7 [.t 17,.t 18]⟩,⟨none,some 5,.op (.mv (.t 19))⟩] [1,2,5]) (.seq (.seq (.reg [ ⟨none,some 20,.op (.mv (.t 5))⟩,⟨none,some 21,.op (.bin .lss (.t 20) (.k (.c (.lit (.int .i64 0)))))⟩] [1,2,5,21]) (.cond (.t 21) (.seq (.reg [ ⟨none,some 4,.op (.mv (.k (.c (.lit (.bool true)))))⟩] [4]) .ret) .skip)) (.seq (.reg [ ⟨none,some 22,.op (.mv (.t 1))⟩,⟨none,some 23,.op (.mv (.t 5))⟩,⟨none,some 24,.call 23 [.t 22,.t 23]⟩,⟨none,some 5,.op (.mv (.t 24))⟩] [1,2,5]) (.seq (.seq (.reg [ ⟨none,some 25,.op (.mv (.t 5))⟩,⟨none,some 26,.op (.bin .lss (.t 25) (.k (.c (.lit (.int .i64 0)))))⟩] [1,2,26]) (.cond (.t 26) (.seq (.reg [ ⟨none,some 4,.op (.mv (.k (.c (.lit (.bool true)))))⟩] [4]) .ret) .skip)) (.seq (.reg [ ⟨none,some 28,.op (.load true 5 (.t 2))⟩,⟨none,some 29,.call 10 [.t 28]⟩,⟨none,some 30,.op (.mv (.t 1))⟩,⟨none,some 31,.call 25 [.t 30]⟩,⟨none,some 32,.call 24 [.t 29,.t 31]⟩,⟨none,some 27,.op (.mv (.t 32))⟩,⟨none,some 33,.op (.extract (.t 27) 0)⟩,⟨none,some 34,.op (.extract (.t 27) 1)⟩,⟨none,some 6,.op (.alloc 11 [.c (.lit (.int .i64 0)),.c (.lit (.int .i64 0)),.c (.str []),.xh 1,.xh 5])⟩,⟨none,none,.op (.store true 5 (.t 6) (.t 33))⟩,⟨none,some 7,.op (.mv (.t 34))⟩] [1,2,6,7]) (.seq (.reg [ ⟨none,some 35,.op (.load true 5 (.t 2))⟩,⟨none,some 36,.call 10 [.t 35]⟩,⟨none,some 8,.op (.alloc 12 [.c (.lit (.int .i64 0)),.c (.lit (.int .i64 0)),.c (.str []),.xh 1,.xh 5])⟩,⟨none,none,.op (.store true 5 (.t 8) (.t 36))⟩] [1,2,6,7,8]) (.seq (.reg [ ⟨none,some 37,.op (.mv (.t 1))⟩,⟨none,some 38,.call 25 [.t 37]⟩,⟨none,some 9,.op (.mv (.t 38))⟩] [1,2,6,7,8,9]) (.seq (.reg [ ⟨none,some 40,.op (.load true 5 (.t 8))⟩,⟨none,some 41,.op (.mv (.t 9))⟩,⟨none,some 42,.call 26 [.t 40,.t 41]⟩,⟨none,some 39,.op (.mv (.t 42))⟩,⟨none,some 43,.op (.extract (.t 39) 0)⟩,⟨none,some 44,.op (.extract (.t 39) 1)⟩,⟨none,some 10,.op (.alloc 13 [.c (.lit (.int .i64 0)),.c (.lit (.int .i64 0)),.c (.str []),.xh 1,.xh 5])⟩,⟨none,none,.op (.store true 5 (.t 10) (.t 43))⟩,⟨none,some 11,.op (.mv (.t 44))⟩] [1,2,6,7,8,9,10,11]) (.seq (.seq (.reg [ ⟨none,some 45,.op (.load true 5 (.t 10))⟩,⟨none,some 46,.op (.load true 5 (.t 6))⟩,⟨none,some 47,.call 13 [.t 45,.t 46]⟩,⟨none,some 48,.op (.not (.t 47))⟩,⟨none,some 49,.op (.mv (.t 48))⟩,⟨(some (49,false)),some 50,.op (.mv (.t 11))⟩,⟨(some (49,false)),some 51,.op (.mv (.t 7))⟩,⟨(some (49,false)),some 52,.op (.beq true (.t 50) (.t 51))⟩,⟨none,some 53,.op (.pick (.t 49) (.k (.c (.lit (.bool true)))) (.t 52))⟩] [1,2,6,7,8,9,10,11,53]) (.cond (.t 53) (.seq (.reg [ ⟨none,some 4,.op (.mv (.k (.c (.lit (.bool false)))))⟩] [4]) .ret) .skip)) (.seq (.seq (.qp [ (⟨none,some 54,.op (.load true 5 (.t 8))⟩,[]),(⟨none,some 55,.op (.load true 5 (.t 2))⟩,[]),(⟨none,some 56,.call 10 [.t 55]⟩,[1]),(⟨none,some 57,.call 13 [.t 54,.t 56]⟩,[0,1,2]),(⟨none,some 58,.op (.not (.t 57))⟩,[0,1,2,3])] [1,2,6,7,8,9,10,11,58]) (.cond (.t 58) (.seq (.reg [ ⟨none,some 4,.op (.mv (.k (.c (.lit (.bool false)))))⟩] [4]) .ret) .skip)) (.seq (.seq (.reg [ ⟨none,some 59,.op (.mv (.t 9))⟩,⟨none,some 60,.op (.mv (.t 1))⟩,⟨none,some 61,.call 25 [.t 60]⟩,⟨none,some 62,.call 20 [.t 59,.t 61]⟩,⟨none,some 63,.op (.not (.t 62))⟩] [1,2,6,7,8,9,10,11,63]) (.cond (.t 63) (.seq (.reg [ ⟨none,some 4,.op (.mv (.k (.c (.lit (.bool false)))))⟩] [4]) .ret) .skip)) (.seq (.reg [ ⟨none,some 12,.op (.mv (.k (.c (.lit (.int .i64 1)))))⟩] [1,2,6,7,8,9,10,11,12]) (.seq (.reg [ ⟨none,some 64,.op (.load true 5 (.t 8))⟩,⟨none,some 65,.op (.mv (.t 12))⟩,⟨none,some 66,.call 15 [.t 64,.t 65]⟩,⟨none,some 12,.op (.mv (.t 66))⟩] [1,2,6,7,9,10,11,12]) (.seq (.reg [ ⟨none,some 67,.op (.mv (.t 9))⟩,⟨none,some 68,.op (.mv (.t 12))⟩,⟨none,some 69,.call 21 [.t 67,.t 68]⟩,⟨none,some 12,.op (.mv (.t 69))⟩] [1,2,6,7,10,11,12]) (.seq (.seq (.reg [ ⟨none,some 70,.op (.mv (.t 12))⟩,⟨none,some 71,.op (.bin .lss (.t 70) (.k (.c (.lit (.int .i64 0)))))⟩,⟨none,some 72,.op (.mv (.t 71))⟩,⟨(some (72,false)),some 73,.op (.load true 5 (.t 10))⟩,⟨(some (72,false)),some 74,.op (.load true 5 (.t 6))⟩,⟨(some (72,false)),some 75,.call 13 [.t 73,.t 74]⟩,⟨(some (72,false)),some 76,.op (.not (.t 75))⟩,⟨none,some 77,.op (.pick (.t 72) (.k (.c (.lit (.bool true)))) (.t 76))⟩,⟨none,some 78,.op (.mv (.t 77))⟩,⟨(some (78,false)),some 79,.op (.mv (.t 11))⟩,⟨(some (78,false)),some 80,.op (.mv (.t 7))⟩,⟨(some (78,false)),some 81,.op (.beq true (.t 79) (.t 80))⟩,⟨none,some 82,.op (.pick (.t 78) (.k (.c (.lit (.bool true)))) (.t 81))⟩] [1,2,6,7,10,82]) (.cond (.t 82) (.seq (.reg [ ⟨none,some 4,.op (.mv (.k (.c (.lit (.bool false)))))⟩] [4]) .ret) .skip)) (.seq (.reg [ ⟨none,some 13,.op (.mv (.k (.c (.lit (.int .i64 1)))))⟩] [1,2,6,7,10,13]) (.seq (.reg [ ⟨none,some 83,.op (.load true 5 (.t 10))⟩,⟨none,some 84,.op (.mv (.t 13))⟩,⟨none,some 85,.call 15 [.t 83,.t 84]⟩,⟨none,some 13,.op (.mv (.t 85))⟩] [1,2,6,7,10,13]) (.seq (.reg [ ⟨none,some 14,.op (.mv (.k (.c (.lit (.int .i64 1)))))⟩] [1,2,6,7,10,13,14]) (.seq (.reg [ ⟨none,some 86,.op (.load true 5 (.t 10))⟩,⟨none,some 87,.op (.mv (.t 14))⟩,⟨none,some 88,.call 17 [.t 86,.t 87]⟩,⟨none,some 14,.op (.mv (.t 88))⟩] [1,2,6,7,10,13,14]) (.seq (.seq (.reg [ ⟨none,some 89,.op (.mv (.t 14))⟩,⟨none,some 90,.op (.bin .lss (.t 89) (.k (.c (.lit (.int .i64 0)))))⟩] [1,2,6,7,10,13,14,90]) (.cond (.t 90) (.seq (.reg [ ⟨none,some 4,.op (.mv (.k (.c (.lit (.bool false)))))⟩] [4]) .ret) .skip)) (.seq (.seq (.reg [ ⟨none,some 91,.op (.mv (.t 14))⟩,⟨none,some 92,.op (.mv (.t 13))⟩,⟨none,some 93,.op (.bin .neq (.t 91) (.t 92))⟩] [1,2,6,7,10,13,93]) (.cond (.t 93) (.seq (.reg [ ⟨none,some 4,.op (.mv (.k (.c (.lit (.bool false)))))⟩] [4]) .ret) .skip)) (.seq (.reg [ ⟨none,some 95,.op (.load true 5 (.t 2))⟩,⟨none,some 96,.call 10 [.t 95]⟩,⟨none,some 97,.op (.mv (.t 1))⟩,⟨none,some 98,.call 25 [.t 97]⟩,⟨none,some 99,.call 26 [.t 96,.t 98]⟩,⟨none,some 94,.op (.mv (.t 99))⟩,⟨none,some 100,.op (.extract (.t 94) 0)⟩,⟨none,some 101,.op (.extract (.t 94) 1)⟩,⟨none,some 15,.op (.alloc 14 [.c (.lit (.int .i64 0)),.c (.lit (.int .i64 0)),.c (.str []),.xh 1,.xh 5])⟩,⟨none,none,.op (.store true 5 (.t 15) (.t 100))⟩,⟨none,some 16,.op (.mv (.t 101))⟩] [6,7,10,13,15,16]) (.seq (.seq (.reg [ ⟨none,some 102,.op (.load true 5 (.t 15))⟩,⟨none,some 103,.op (.load true 5 (.t 6))⟩,⟨none,some 104,.call 13 [.t 102,.t 103]⟩,⟨none,some 105,.op (.not (.t 104))⟩,⟨none,some 106,.op (.mv (.t 105))⟩,⟨(some (106,false)),some 107,.op (.mv (.t 16))⟩,⟨(some (106,false)),some 108,.op (.mv (.t 7))⟩,⟨(some (106,false)),some 109,.op (.beq true (.t 107) (.t 108))⟩,⟨none,some 110,.op (.pick (.t 106) (.k (.c (.lit (.bool true)))) (.t 109))⟩] [10,13,110]) (.cond (.t 110) (.seq (.reg [ ⟨none,some 4,.op (.mv (.k (.c (.lit (.bool false)))))⟩] [4]) .ret) .skip)) (.seq (.reg [ ⟨none,some 14,.op (.mv (.k (.c (.lit (.int .i64 1)))))⟩] [10,13,14]) (.seq (.reg [ ⟨none,some 111,.op (.load true 5 (.t 10))⟩,⟨none,some 112,.op (.mv (.t 14))⟩,⟨none,some 113,.call 17 [.t 111,.t 112]⟩,⟨none,some 14,.op (.mv (.t 113))⟩] [13,14]) (.seq (.seq (.reg [ ⟨none,some 114,.op (.mv (.t 14))⟩,⟨none,some 115,.op (.bin .lss (.t 114) (.k (.c (.lit (.int .i64 0)))))⟩] [13,14,115]) (.cond (.t 115) (.seq (.reg [ ⟨none,some 4,.op (.mv (.k (.c (.lit (.bool false)))))⟩] [4]) .ret) .skip)) (.seq (.seq (.reg [ ⟨none,some 116,.op (.mv (.t 14))⟩,⟨none,some 117,.op (.mv (.t 13))⟩,⟨none,some 118,.op (.bin .neq (.t 116) (.t 117))⟩] [118]) (.cond (.t 118) (.seq (.reg [ ⟨none,some 4,.op (.mv (.k (.c (.lit (.bool false)))))⟩] [4]) .ret) .skip)) (.seq (.reg [ ⟨none,some 4,.op (.mv (.k (.c (.lit (.bool true)))))⟩] [4]) .ret))))))))))))))))))))))))))))))
noncomputable abbrev xM : Program:=Go.Proofs.Tryz.prog
noncomputable abbrev Bo : Func:=afl
noncomputable abbrev acB : Code:=(afl.body).getD .skip
theorem Lh : afl.body=some acB:=by kernel_rfl
theorem ZT : oK xM 119 0 acB C.ady=true:=by kernel_rfl
def Qz : Fq
 |46=>some (22,1,[.str 0])
 |47=>some (30,5,[.int 0,.int 1,.str 2,.sub 3 46,.sub 4 47])
 |21=>some (44,8,[.int 0,.sub 1 46,.sub 2 46,.int 3,.int 4,.str 5,.sub 6 46,.sub 7 47])
 |_=>none
def Q5 : Xg
 |15=>some (5,[.sl 3 46,.sl 4 47])
 |_=>none
theorem MO (f:Nat)(h:(Qz f).isSome=true):Xx xM 54 Qz f=true:=by
 unfold Qz at h;split at h
 ·kernel_rfl
 ·kernel_rfl
 ·kernel_rfl
 ·cases h
theorem Ci (f:Nat)(h:(Q5 f).isSome=true):aby xM Q5 f=true:=by
 unfold Q5 at h;split at h
 ·kernel_rfl
 ·cases h
theorem Q9 : DR xM 54 tx:=λk h0 h1=>by obtain⟨n,hn⟩:=(aaS ⟨h0,h1⟩).val;exact F.gu hn
theorem Vh : MT Qz 46 47 22 30:=⟨rfl,rfl⟩
theorem ad2 : qJ xM 22=1:=by kernel_rfl
theorem ad3 : qJ xM 30=5:=by kernel_rfl
theorem ad4 : kP xM 30=[(3,22),(4,30)]:=by kernel_rfl
theorem aiA : qJ xM 44=8:=by kernel_rfl
theorem aiB : kP xM 44=[(1,22),(2,22),(6,22),(7,30)]:=by kernel_rfl
noncomputable abbrev Y7 : Code:=Ea 7 acB
noncomputable abbrev acC : Code:=Ea 7 Y7
noncomputable abbrev acD : Code:=Ea 1 acC
noncomputable abbrev Y8 : Code:=Ea 1 acD
noncomputable abbrev acE : Code:=Ea 2 Y8
noncomputable abbrev aey : Code:=Ea 1 acE
abbrev Bi : dD:=C.ady
abbrev La : dD:=He 7 Bi
abbrev Om : dD:=He 2 (He 7 La)
abbrev YX : dD:=He 1 (He 2 Om)
theorem agk : oK xM 119 0 Y7 La=true:=by kernel_rfl
theorem agl : oK xM 119 0 Y8 Om=true:=by kernel_rfl
theorem agm : oK xM 119 0 aey YX=true:=by kernel_rfl
def Ec : List OF:=[.vp 8 8 0,.row 8 ⟨3,22,100803⟩,.row 8 ⟨4,30,100804⟩,.ref 9 ⟨0,44,200900⟩,.vp 10 10 0,.row 10 ⟨3,22,101003⟩,.row 10 ⟨4,30,101004⟩]
theorem afb : (AU xM [] 7 acB Bi []).isSome=true:=by kernel_rfl
theorem agr : (match AU xM [1,2,6,7] 7 Y7 La []with|some Γ =>Ec.all Γ.contains|none=>false)=true:=by kernel_rfl
theorem ags : (AU xM [1,2,6,7,10,11] 2 Y8 Om []).isSome=true:=by kernel_rfl
theorem agn : MK xM 119 acC=some (some 5,8,12,15,[64,65,66,12]):=by kernel_rfl
theorem agp : MK xM 119 acD=some (none,9,12,21,[67,68,69,12]):=by kernel_rfl
theorem agq : MK xM 119 acE=some (some 5,10,13,15,[83,84,85,13]):=by kernel_rfl
structure GI (n:ai)(o:List tC)(p:ai)(l1 l2:Int)(b:Bool):Prop where
 s1:∃m,G.jE m n 1048576=some l1
 c1:decide (l1<0)=false
 s2:∃m,G.adt m o l1=some l2
 c2:decide (l2<0)=false
 t1:∃m,G.kW m n=some n
 t2:∃m,G.adv m o=some o
 w:∃m,G.aba m n o=some (p,b)
 g:∃m,G.acr m n o=some (p,b)
 e1:∃m,G.kE m p p=some true
 e2:∃m,G.kE m n n=some true
 e3:∃m,G.acO m o o=some true
 h:∃m,G.nU m (mkRoot p 1) 1=some (1+(NW p:Int))
 k1:NW n<1000000000
 k2:aea o<1000000000
 k3:NW p<1000000000
abbrev vg (n:ai):List AC:=[.c (.lit (.int .i64 n.Kind)),.c (.lit (.int .i64 n.Num)),.c (.str n.Text),.c (.sl 1 (aT cS n.Names)),.c (.sl 5 (aT ai.cells n.Kids))]
abbrev oH (n:ai):Slot:=.v true (.one (.zC (AB n)))
abbrev wU (b:Bool):Slot:=.v true (.one (.c (.lit (.bool b))))
abbrev Ja (k:Int):Slot:=.v true (.one (.c (.lit (.int .i64 k))))
abbrev adk (o:List tC):Slot:=.v true (.one (.c (.sl 8 (aT tC.cells o))))
theorem afm {n:ai}{o:List tC}{p:ai}{l1 l2:Int}{b:Bool}(F0:GI n o p l1 l2 b){K:dP->Prop}(zf:YP K (dP.of [(1,adk o),(2,.v true (.one (.ptr 10 0))),(6,.v true (.one (.ptr 11 0))),(7,wU b)] [(10,.var (vg n)),(11,.var (vg p))])):wpC xM (takeA 7 Bi) (QA K RL) (st0 [.agg (vg n),.one (.c (.sl 8 (aT tC.cells o)))] []):=by
 obtain⟨_,h1⟩:=F0.s1;obtain⟨_,h2⟩:=F0.s2;obtain⟨_,h3⟩:=F0.t1;obtain⟨_,h4⟩:=F0.t2;obtain⟨_,h5⟩:=F0.w;have zc:=pp (F.jE h1) <|pp (F.adt h2) <|pp (F.kW h3) <|pp (F.adv h4) <|pp (F.aba h5) <|()
 have c1:=F0.c1;have c2:=F0.c2;clear F0;refine tJ ?_;unfold Bi C.ady;simp only[takeA];exact XH
theorem afn {n:ai}{o:List tC}{p:ai}{l1 l2:Int}{b:Bool}(F0:GI n o p l1 l2 b){K:dP->Prop}(zf:YP K (dP.of [(1,adk o),(2,oH n),(6,oH p),(7,wU b),(8,.v true (.one (.ptr 12 0))),(9,adk o),(10,.v true (.one (.ptr 13 0))),(11,wU b),(12,Ja 1)] [(12,.var (vg n)),(13,.var (vg p))])):wpC xM (takeA 7 La) (QA K RL) (dP.of [(1,adk o),(2,oH n),(6,oH p),(7,wU b)] []):=by
 obtain⟨_,h1⟩:=F0.t1;obtain⟨_,h2⟩:=F0.t2;obtain⟨_,h3⟩:=F0.g;obtain⟨_,h4⟩:=F0.e1;obtain⟨_,h5⟩:=F0.e2;obtain⟨_,h6⟩:=F0.e3;have zc:=pp (F.kW h1) <|pp (F.adv h2) <|pp (F.acr h3) <|pp (F.kE h4) <|pp (F.kE h5) <|pp (F.acO h6) <|()
 clear F0;refine tJ ?_;unfold La Bi C.ady;simp only[takeA,He];exact XH
theorem afo {n:ai}{o:List tC}{p:ai}{l1 l2:Int}{b:Bool}{k:Int}(F0:GI n o p l1 l2 b)(hk:decide (k<0)=false){K:dP->Prop}(zf:YP K (dP.of [(1,adk o),(2,oH n),(6,oH p),(7,wU b),(10,oH p),(13,Ja 1)] [])):wpC xM (takeA 2 Om) (QA K RL) (dP.of [(1,adk o),(2,oH n),(6,oH p),(7,wU b),(10,oH p),(11,wU b),(12,Ja k)] []):=by
 obtain⟨_,h1⟩:=F0.e1;have zc:=pp (F.kE h1) <|()
 clear F0;refine tJ ?_;unfold Om La Bi C.ady;simp only[takeA,He];exact XH
theorem afp {n:ai}{o:List tC}{p:ai}{l1 l2:Int}{b:Bool}(F0:GI n o p l1 l2 b):wpC xM YX (QF [.tmp 4] 0 (λr bs=>r=pq true/\bs=[])) (dP.of [(1,adk o),(2,oH n),(6,oH p),(7,wU b),(10,oH (mkRoot p 1)),(13,Ja (1+(NW p:Int)))] []):=by
 obtain⟨_,h1⟩:=F0.t1;obtain⟨_,h2⟩:=F0.t2;obtain⟨_,h3⟩:=F0.g;obtain⟨_,h4⟩:=F0.e1;obtain⟨_,h5⟩:=F0.h;have zc:=pp (F.kW h1) <|pp (F.adv h2) <|pp (F.acr h3) <|pp (F.kE h4) <|pp (F.nU h5) <|()
 have hk:decide (1+(NW p:Int)<0)=false:=decide_eq_false (by omega);clear F0;refine tJ ?_;unfold YX Om La Bi C.ady;simp only[He];exact XH
theorem afq {n:ai}{o:List tC}{l1:Int}{K:dP->Prop}(h:∃m,G.jE m n 1048576=some l1)(hk:decide (l1<0)=true):wpC xM (takeA 7 Bi) (QA K RL) (st0 [.agg (vg n),.one (.c (.sl 8 (aT tC.cells o)))] []):=by
 obtain⟨_,h1⟩:=h;have zc:=pp (F.jE h1) <|()
 have zf:=();refine tJ ?_;unfold Bi C.ady;simp only[takeA];exact XH
theorem afr {n:ai}{o:List tC}{l1 l2:Int}{K:dP->Prop}(h:∃m,G.jE m n 1048576=some l1)(hk:decide (l1<0)=false)(h':∃m,G.adt m o l1=some l2)(hk':decide (l2<0)=true):wpC xM (takeA 7 Bi) (QA K RL) (st0 [.agg (vg n),.one (.c (.sl 8 (aT tC.cells o)))] []):=by
 obtain⟨_,h1⟩:=h;obtain⟨_,h2⟩:=h';have zc:=pp (F.jE h1) <|pp (F.adt h2) <|()
 have zf:=();refine tJ ?_;unfold Bi C.ady;simp only[takeA];exact XH
theorem Q8 {S:Slot}{I:IH}{ρ:Ren}{v:Value}{x:Value}(h:Uh I ρ v S)(e:S = .v true (.one (.c (.lit x)))):v=x:=by subst e;have h1:=h.1 rfl;cases h1;rfl
theorem adD {n:ai}{o:List tC}{p:ai}{l1 l2:Int}{b:Bool}(F0:GI n o p l1 l2 b):fD xM 5 [.agg (vg n),.one (.c (.sl 8 (aT tC.cells o)))] (pq true):=by
 have hcr:xO xM Bo.ntmps Bo.results.toList [.tmp 4]=true:=by kernel_rfl
 obtain⟨Γ0,oA'⟩:=nM.1 afb;refine XV (fn:=Bo) (ac:=Bi) (by kernel_rfl) Lh (by kernel_rfl) (by show 2<=Bo.ntmps;exact(by kernel_rfl:decide (2<=Bo.ntmps)=true) |> of_decide_eq_true) hcr ZT oA' (λK zf=>afm F0 zf) ?_;intro w0 wA JA I ρ g a w A;obtain⟨hT,hG⟩:=A.gx;have hJ:=KN (V:=ad1 ρ (dP.of [(1,adk o),(2,.v true (.one (.ptr 10 0))),(6,.v true (.one (.ptr 11 0))),(7,wU b)] [(10,.var (vg n)),(11,.var (vg p))])) hG.agree;have s1:=adU (x:=1) (c:=.sl 8 (aT tC.cells o)) hG (by decide) rfl hJ;have s2:=Nu (x:=2) (b:=10) (cs:=AB n) hG (by decide) rfl rfl rfl;have s6:=Nu (x:=6) (b:=11) (cs:=AB p) hG (by decide) rfl rfl rfl;have s7:=adU (x:=7) (c:=.lit (.bool b)) hG (by decide) rfl hJ;have hA:=GG (V:=ad1 ρ (dP.of [(1,adk o),(2,.v true (.one (.ptr 10 0))),(6,.v true (.one (.ptr 11 0))),(7,wU b)] [(10,.var (vg n)),(11,.var (vg p))])) hG.agree;generalize I.with w _=JB at hJ s1 s2 s6 s7 hA;have hM:Mid xM Bo.ntmps w0 JB [(1,adk o),(2,oH n),(6,oH p),(7,wU b)] a w:=⟨A.tabs.mono (IH.le_trans A.Ei hJ),hA,λt s hs=>by
  simp only[aB,bV,gU,or_false]at hs;rcases hs with⟨rfl,rfl⟩|⟨rfl,rfl⟩|⟨rfl,rfl⟩|⟨rfl,rfl⟩
  ·exact s1
  ·exact s2
  ·exact s6
  ·exact s7,hG.size,hG.defers,A.wu⟩
 clear A hG s1 s2 s6 s7 hJ hA;have hsz:=hM.wu.size;have hB:=agr;split at hB
 case h_2=>cases hB
 rename_i ΓB oB';refine OJ hcr (pa:=[(1,a.tmps.getD 1 undef),(2,a.tmps.getD 2 undef),(6,a.tmps.getD 6 undef),(7,a.tmps.getD 7 undef)]) (pl:=[1,2,6,7]) hM (by simp) (by intro e he;simp only[aB,gU,or_false]at he;rcases he with rfl|rfl|rfl|rfl<;>rfl) agk oB' (λK zf=>afn F0 zf) ?_
 intro I1 ρ1 g1 a1 w1 A;have hmem:∀f,f∈Ec->f ∈ ΓB:=λf hf=>by have:=List.all_eq_true.1 hB f hf;simpa using this
 obtain⟨hT1,hG⟩:=A.gx;obtain⟨k8,v8,e8,p8,q8,n8,r8,⟨_,_,_,u8⟩,g8⟩:=Jy (x:=8) (b:=12) (cs:=AB n) (rows:=[(3,22,100803),(4,30,100804)]) hG A.ow (by decide) rfl rfl rfl (hmem _ (by simp[Ec])) (λr hr=>hmem _ (by revert r;decide));obtain⟨r9,g9⟩:=agT (x:=9) (T:=44) (m:=200900) (c:=.sl 8 (aT tC.cells o)) hG A.ow (by decide) rfl (hmem _ (by simp[Ec]));obtain⟨v9,p9⟩:∃v,a1.tmps.getD 9 undef=v:=⟨_,rfl⟩;rw[p9]at r9 g9;obtain⟨k10,v10,e10,p10,q10,n10,r10,⟨_,_,_,u10⟩,g10⟩:=Jy (x:=10) (b:=13) (cs:=AB p) (rows:=[(3,22,101003),(4,30,101004)]) hG A.ow (by decide) rfl rfl rfl (hmem _ (by simp[Ec])) (λr hr=>hmem _ (by revert r;decide));have S8:=aaN A.ow.good A.tabs A.Iy A.old A.ag n8 r8 (by decide) g8 (RQ ad2 ad3 ad4 n _ _);have S9:=aaN (vs:=[v9]) (cs:=[Cell.sl 8 (aT tC.cells o)]) (rows:=[(0,44,200900)]) A.ow.good A.tabs A.Iy A.old A.ag rfl (ahR r9) (by decide) (ahM g9) (ahr ad2 ad3 ad4 aiA aiB o _);have S10:=aaN A.ow.good A.tabs A.Iy A.old A.ag n10 r10 (by decide) g10 (RQ ad2 ad3 ad4 p _ _);have K:Mks xM Bo.ntmps w0 w JB I1 g1 a1 w1:=⟨A.new,A.Zk.size,A.old,A.Ei,A.ag,hG.size,hG.defers,A.wu,hsz⟩;have t11:=Q8 (hG.tm 11 (by decide)) rfl;have t12:=Q8 (hG.tm 12 (by decide)) rfl;refine MG K S8 agn (Qm p8 q8 n8) t12 (KX.any (CU (Ci 15 rfl) rfl (Nz MO Ci Q9 (Q3 Vh rfl rfl n (by decide) (by have:=F0.k1;omega))))) ?_;intro a2 w2 J2 K2 _ c2 tk2 fr2 kp2;have S9:=kp2 S9 (apart (by decide) (by decide) (by decide));have S10:=kp2 S10 (apart (by decide) (by decide) (by decide));refine MG K2 S9 agp (ahs ((tk2 9 (by decide)).trans p9)) c2 (aha MO Q9 (ahN Vh rfl o (by omega) (by have:=F0.k1;have:=F0.k2;omega)) ⟨_,_,rfl⟩) ?_;intro a3 w3 J3 K3 _ c3 tk3 fr3 kp3;have S10:=kp3 S10 (apart (by decide) (by decide) (by decide));have q10:=(fr3 _ _ _ _ u10).trans ((fr2 _ _ _ _ u10).trans q10);have tk:∀t,t ∉ [64,65,66,67,68,69,12]->a3.tmps.getD t undef=a1.tmps.getD t undef:=λt ht=>by simp only[aB,gU,or_false,not_or]at ht;rw[tk3 t (by simp;omega),tk2 t (by simp;omega)]
 have hJ:=KN (V:=λk=>k=k10) K3.ag;have hA:=GG (V:=λk=>k=k10) K3.ag;have h10:=NP (I:=J3) (V:=λk=>k=k10) rfl q10;generalize J3.with w3 _=JC at hJ hA h10;have hJ':=IH.le_trans K3.Ei hJ;have hM3:Mid xM Bo.ntmps w0 JC [(1,adk o),(2,oH n),(6,oH p),(7,wU b),(10,oH p),(11,wU b),(12,Ja (1+NW n+aea o))] a3 w3:=⟨hM.tabs.mono hJ',hA,λt s hs=>by
  simp only[aB,bV,gU,or_false]at hs;have base:∀t s,(t,s)∈[(1,adk o),(2,oH n),(6,oH p),(7,wU b)]->t ∉ [64,65,66,67,68,69,12]->(t,a.tmps.getD t undef)∈[(1,a.tmps.getD 1 undef),(2,a.tmps.getD 2 undef),(6,a.tmps.getD 6 undef),(7,a.tmps.getD 7 undef)]->Uh JC Rj (a3.tmps.getD t undef) s:=λt s h1 h2 h3=>by rw[tk t h2,A.pa _ h3];exact(hM.sl t s h1).mono hJ' (λ_ _ h=>h)
  rcases hs with⟨rfl,rfl⟩|⟨rfl,rfl⟩|⟨rfl,rfl⟩|⟨rfl,rfl⟩|⟨rfl,rfl⟩|⟨rfl,rfl⟩|⟨rfl,rfl⟩
  ·exact base _ _ (by simp) (by decide) (by simp)
  ·exact base _ _ (by simp) (by decide) (by simp)
  ·exact base _ _ (by simp) (by decide) (by simp)
  ·exact base _ _ (by simp) (by decide) (by simp)
  ·rw[tk 10 (by decide)];exact Ju p10 h10 n10 λj v c hv hc=>(S10.rd j v c hv hc).mono hJ
  ·rw[tk 11 (by decide)];rw[t11];exact⟨λ_=>.lit _ rfl,λe=>by cases e⟩
  ·rw[c3];exact⟨λ_=>.lit _ rfl,λe=>by cases e⟩,K3.size,K3.defers,K3.wu⟩
 obtain⟨ΓE,oE'⟩:=nM.1 ags;refine OJ hcr (pa:=[(1,a3.tmps.getD 1 undef),(2,a3.tmps.getD 2 undef),(6,a3.tmps.getD 6 undef),(7,a3.tmps.getD 7 undef),(10,a3.tmps.getD 10 undef)]) (pl:=[1,2,6,7,10,11]) hM3 (by simp) (by intro e he;simp only[aB,gU,or_false]at he;rcases he with rfl|rfl|rfl|rfl|rfl<;>rfl) agl oE' (λK zf=>afo F0 (decide_eq_false (by omega)) zf) ?_
 intro I4 ρ4 g4 a4 w4 A4;obtain⟨hT4,hG4⟩:=A4.gx;have S10:=S10.quiet A4.Zk;have q10:=(A4.Zk.block _ (uk q10) λh=>h).trans q10;have t13:=Q8 (hG4.tm 13 (by decide)) rfl;have K4:Mks xM Bo.ntmps w0 w JB J3 g1 a4 w4:=⟨K3.new,Nat.le_trans K3.sz A4.Zk.size,K3.old,K3.Ei,K3.ag.quiet A4.Zk,hG4.size,hG4.defers,A4.wu,K3.sz0⟩;refine MG K4 S10 agq (Qm ((A4.pa (10,a3.tmps.getD 10 undef) (by simp)).trans ((tk 10 (by decide)).trans p10)) q10 n10) t13 (KX.any (CU (Ci 15 rfl) rfl (Nz MO Ci Q9 (Q3 Vh rfl rfl p (by decide) (by have:=F0.k3;omega))))) ?_;intro a5 w5 J5 K5 S10 c5 tk5 fr5 kp5;have q10:=(fr5 _ _ _ _ u10).trans q10;have hJ5:=KN (V:=λk=>k=k10) K5.ag;have hA5:=GG (V:=λk=>k=k10) K5.ag;have aeF:=NP (I:=J5) (V:=λk=>k=k10) rfl q10;generalize J5.with w5 _=JD at hJ5 hA5 aeF;have aeI:=IH.le_trans K5.Ei hJ5;refine ZY hcr (ts:=[(1,adk o),(2,oH n),(6,oH p),(7,wU b),(10,oH (mkRoot p 1)),(13,Ja (1+(NW p:Int)))]) ⟨hM.tabs.mono aeI,hA5,λt s hs=>?_,K5.size,K5.defers,K5.wu⟩ agm (afp F0);simp only[aB,bV,gU,or_false]at hs;have base:∀t s,(t,s)∈[(1,adk o),(2,oH n),(6,oH p),(7,wU b)]->t ∉ [64,65,66,67,68,69,12]->t ∉ [83,84,85,13]->(t,a3.tmps.getD t undef)∈[(1,a3.tmps.getD 1 undef),(2,a3.tmps.getD 2 undef),(6,a3.tmps.getD 6 undef),(7,a3.tmps.getD 7 undef),(10,a3.tmps.getD 10 undef)]->(t,a.tmps.getD t undef)∈[(1,a.tmps.getD 1 undef),(2,a.tmps.getD 2 undef),(6,a.tmps.getD 6 undef),(7,a.tmps.getD 7 undef)]->Uh JD Rj (a5.tmps.getD t undef) s:=λt s h1 h2 h3 h4 h5=>by
  rw[tk5 t h3,A4.pa _ h4]
  dsimp only
  rw[tk t h2,A.pa _ h5];exact(hM.sl t s h1).mono aeI (λ_ _ h=>h)
 rcases hs with⟨rfl,rfl⟩|⟨rfl,rfl⟩|⟨rfl,rfl⟩|⟨rfl,rfl⟩|⟨rfl,rfl⟩|⟨rfl,rfl⟩
 ·exact base _ _ (by simp) (by decide) (by decide) (by simp) (by simp)
 ·exact base _ _ (by simp) (by decide) (by decide) (by simp) (by simp)
 ·exact base _ _ (by simp) (by decide) (by decide) (by simp) (by simp)
 ·exact base _ _ (by simp) (by decide) (by decide) (by simp) (by simp)
 ·rw[tk5 10 (by decide),A4.pa (10,a3.tmps.getD 10 undef) (by simp)]
  dsimp only
  rw[tk 10 (by decide)];exact Ju p10 aeF n10 λj v c hv hc=>(S10.rd j v c hv hc).mono hJ5
 ·rw[c5];exact⟨λ_=>.lit _ rfl,λe=>by cases e⟩
theorem V8 {n:ai}{o:List tC}(hw:wpC xM (takeA 7 Bi) (QA (λ_=>False) RL) (st0 [.agg (vg n),.one (.c (.sl 8 (aT tC.cells o)))] [])):fD xM 5 [.agg (vg n),.one (.c (.sl 8 (aT tC.cells o)))] (pq true):=by
 have hcr:xO xM Bo.ntmps Bo.results.toList [.tmp 4]=true:=by kernel_rfl
 obtain⟨Γ0,oA'⟩:=nM.1 afb;exact XU (fn:=Bo) (ac:=Bi) (by kernel_rfl) Lh (by kernel_rfl) (by show 2<=Bo.ntmps;exact(by kernel_rfl:decide (2<=Bo.ntmps)=true) |> of_decide_eq_true) hcr ZT oA' hw
theorem ae4 {n:ai}{o:List tC}{D:Nat}(hn:tu mx D n)(ho1:o.length<=mx)(ho2:∀x,x∈o->∃D,DF mx D x):fD xM 5 [.agg (vg n),.one (.c (.sl 8 (aT tC.cells o)))] (pq true):=by
 obtain⟨E,_,akk⟩:=DF.all 0 ho2;obtain⟨l1,h1,b1,f1⟩:=T.Q7 D hn (left:=1048576) (by decide) (by decide);by_cases c1:l1<0
 ·exact V8 (afq h1.val (decide_eq_true c1))
 obtain⟨l2,h2,b2,f2⟩:=T.ajm ho1 akk (left:=l1) (by omega) (by omega);by_cases c2:l2<0
 ·exact V8 (afr h1.val (decide_eq_false c1) h2.val (decide_eq_true c2))
 obtain⟨f1,k1⟩:=f1 (by omega);obtain⟨fl2,f2,k2⟩:=f2 (by omega);have hL:(1048576:Nat)<=lim:=by decide
 have hL':lim=4294967296:=rfl;have hp:=Yd (o:=aeg n o) (λm h=>ah7 h);have m1:=WQ n;have m2:=trivial;have m3:=hp.k;exact adD (p:=(mM (aeg n o)).1) (b:=(mM (aeg n o)).2) {
  s1:=h1.val,c1:=decide_eq_false c1,s2:=h2.val,c2:=decide_eq_false c2
  t1:=(T.VI hL f1).val,t2:=(T.ajY hL (by omega) f2).val
  w:=(T0.aba hL f1 ⟨by omega,λx hx=>⟨_,f2 x hx⟩⟩).val,g:=(T0.acr hL f1 ⟨by omega,λx hx=>⟨_,f2 x hx⟩⟩).val
  e1:=(T.Qb (by decide) hp.f).val,e2:=(T.Qb hL f1).val,e3:=(T.aik hL (by omega) f2).val
  h:=(T.Zz _ (by decide) (by omega)).val
  k1:=by omega,k2:=by omega,k3:=by omega }
end Go.Ab
namespace Go.Proofs.YtjfeblenfiiofaaGreatDoor.fnExactApplyPatch
open Go Go.ChangeShapes Go.WideShapes Go.ChangeAt Go.RowKit Go.Ab
theorem own : ownKnob Tryz.prog.godebug=none:=by kernel_rfl
theorem laidOut : laidOutB Tryz.prog=true:=by kernel_rfl
theorem tyN : Po Tryz.prog 3 9 22 25 23:=⟨by kernel_rfl,by kernel_rfl,by kernel_rfl,by kernel_rfl,⟨_,Tryz.underlying25,by kernel_rfl⟩,by kernel_rfl,by kernel_rfl,by kernel_rfl,by kernel_rfl,by kernel_rfl⟩
theorem tyO : acs Tryz.prog 3 9 22 25 23 27 49:=⟨tyN,by kernel_rfl,⟨_,Tryz.underlying27,by kernel_rfl⟩,by kernel_rfl,by kernel_rfl⟩
theorem met {W:World}(h:laidMetH Tryz.prog Rows.fnExactApplyPatchRow.laid W):laidMet Tryz.prog Rows.fnExactApplyPatchRow.laid W:=by unfold laidMetH at h;rw[show(Rows.fnExactApplyPatchRow.laid.filter λx=>x.2.handleName?.isSome)=[]from by kernel_rfl]at h;exact h
theorem agw {W:World} (hL:laidMetH Tryz.prog Rows.fnExactApplyPatchRow.laid W):∀g,Tryz.prog.globalNamed "internal/strconv.uint64pow10" = some g->I0 W g=some (pG.map λz=>Go.Value.int .u64 z).toArray:=by
 have h:=OI 2 (met hL);rw[show Rows.fnExactApplyPatchRow.laid.drop 2=("internal/strconv.uint64pow10",Go.Lib.tabData .u64 pG)::Rows.fnExactApplyPatchRow.laid.drop 3 from by kernel_rfl]at h
 exact adN (g:=1) (t:=124) (e:=116) (by kernel_rfl) (by kernel_rfl) (by kernel_rfl) (by kernel_rfl) (by kernel_rfl) (by kernel_rfl) h
theorem agx {W:World} (hS:W.ShapedOpen Tryz.prog):∀g,Tryz.prog.globalNamed "internal/bytealg.MaxLen" = some g->∃m,(I0 W).cell ⟨g,0,none⟩=some (.int .i64 m):=
 adE (g:=0) (t:=3) hS (by kernel_rfl) (of_decide_eq_true (by kernel_rfl)) (by kernel_rfl) (by kernel_rfl) (by kernel_rfl) (by kernel_rfl)
theorem tabs {W:World} (hS:W.ShapedOpen Tryz.prog) (hL:laidMetH Tryz.prog Rows.fnExactApplyPatchRow.laid W):Tabs Tryz.prog (I0 W):=⟨agw hL,agx hS,(λg hg=>by cases hg.symm.trans (show Tryz.prog.globalNamed "strconv.ErrSyntax" = none by kernel_rfl)),(λg hg=>by cases hg.symm.trans (show Tryz.prog.globalNamed "strconv.ErrRange" = none by kernel_rfl))⟩
theorem contract (H:Type)(enc:TypeId×Value->H)(W:World)(base:Nat)(args:Array Value)(ds gs:List (DataW H))(before:List MemPlace)
 (hval:∀(j:Nat) t v,Tryz.f5.params[j]? = some t->args[j]? = some v->Go.Value.okWide Tryz.prog W .any base t v)
 (hW:DataW.Whole enc Tryz.prog Tryz.f5.params.toList Rows.fnExactApplyPatchSpec.vars false W args.toList ds gs before)
 (hS:W.ShapedOpen Tryz.prog) (hL:laidMetH Tryz.prog Rows.fnExactApplyPatchRow.laid W) :
 Calls Tryz.prog 5 args W λe W'=>∃v,e = .returned v/\Rows.fnExactApplyPatchSpec.post enc Tryz.prog Tryz.f5 false true false false W args v W':=by
 have hW':=hW;obtain⟨p,q,hA0,hV,rfl,hfz,hnd⟩:=hW;have hA:DataW.TrodAll enc Tryz.prog W 0 (λ_=>true) true Tryz.f5.params.toList args.toList ds p:=hA0;rw[Tryz.params5]at hA hval;obtain⟨v0,vs0,d0,ds0,p0,q0,hargs,rfl,rfl,h0,r0⟩:=trodAll_cons hA;obtain⟨v1,vs1,d1,ds1,p1,q1,rfl,rfl,rfl,h1,r1⟩:=trodAll_cons r0;obtain⟨rfl,rfl,rfl⟩:=trodAll_nil r1;obtain rfl:args = #[v0,v1]:=by cases args;simp_all
 obtain⟨rfl,rfl⟩:=trodVars_none hV;clear hA0;simp only[pI]at hW';have hlt:∀x∈(p0++p1),x.block<W.heap.size:=λx hx=>hW'.lt x (by simpa using hx);obtain⟨c0,rfl,_⟩:=okWide_struct Tryz.underlying25 (hval 0 25 v0 rfl rfl);have hk0:=h0;obtain⟨f0,g0⟩:=h0;obtain⟨x0,e0,_,m0⟩:=O4 tyN f0 g0;rw[ai.kU]at e0;obtain⟨a1,len1,cap1,rfl⟩:=okWide_slice Tryz.underlying49 (hval 1 49 v1 rfl rfl);have hk1:=h1;obtain⟨f1,g1⟩:=h1;obtain⟨x1,w1,e1,u1,m1,n1⟩:=aiv tyO g1;obtain rfl:_=w1:=by simpa[Go.Value.cells]using e1
 have key:=adB (tabs hS hL) (abM (WN e0) (ajU u1)) (ae4 m0 m1 n1);refine Go.Calls.mono key λe W' ⟨he,hb⟩=>?_;subst he;have ht:DataW.TrodAll enc Tryz.prog W' 0 (λb=>decide (b<W.heap.size)) true [25,49] [_,_] [d0,d1] (p0++(p1++[])):=trodAll_cons_mk (Below.trod laidOut (by kernel_rfl) (of_decide_eq_true (by kernel_rfl)) hk0 hb (λx hx=>hlt x (List.mem_append_left _ hx))) (trodAll_cons_mk (Below.trod laidOut (by kernel_rfl) (of_decide_eq_true (by kernel_rfl)) hk1 hb (λx hx=>hlt x (List.mem_append_right _ hx))) (trodAll_mk0));simp only[pI]at ht;exact⟨_,rfl,_,_,_,[],_,[],hW',trodAll_cons_mk (shut_bool Tryz.underlying4 _) trodAll_mk0,
  ht,rfl,hb.frame _,λh=>by cases h⟩
noncomputable def laidWorld (os:Os):World:=Go.World.laidAll Tryz.prog os Rows.fnExactApplyPatchRow.laid
theorem laid_met (os:Os):laidMet Tryz.prog Rows.fnExactApplyPatchRow.laid ((laidWorld os).forCall (λ_ _=>0) ⟨#[],#[.agg #[.int .i64 0,.int .i64 0,.string ⟨#[]⟩,.slice none 0 0,.slice none 0 0],.slice none 0 0],[]⟩).memory:=
 laidMet_laidAll _ (by kernel_rfl) (by kernel_rfl)
theorem reads (os:Os){H:Type}(enc:TypeId×Value->H):∃places,Go.DataW.whole enc Tryz.prog ((laidWorld os).forCall (λ_ _=>0) ⟨#[],#[.agg #[.int .i64 0,.int .i64 0,.string ⟨#[]⟩,.slice none 0 0,.slice none 0 0],.slice none 0 0],[]⟩).memory Tryz.f5.params.toList Rows.fnExactApplyPatchSpec.vars false #[.agg #[.int .i64 0,.int .i64 0,.string ⟨#[]⟩,.slice none 0 0,.slice none 0 0],.slice none 0 0].toList 8=some ([.agg [.lit (.int .i64 0),.lit (.int .i64 0),.lit (.string []),.nil,.nil],.nil],[],places):=
 ⟨[],by kernel_rfl⟩
theorem lifted (os:Os)(started:os.Started)(H:Type)(enc:TypeId×Value->H)(F:Stop.Interp) :
 ReturnsInHanded {} Tryz.checked os 5 .any ((oU Rows.fnExactApplyPatchSpec).preRow enc Tryz.prog Tryz.f5 Rows.fnExactApplyPatchRow.domain false Rows.fnExactApplyPatchRow.laid) (((oU Rows.fnExactApplyPatchSpec).at F).post enc Tryz.prog Tryz.f5 false true false false):=by
 obtain⟨places,hx⟩:=reads os enc;refine returnsInHanded_of_row (C:=Tryz.checked) (s:=oU Rows.fnExactApplyPatchSpec) own started (by kernel_rfl) Tryz.func5
  (witness_row_atRef (enc:=enc) (C:=Tryz.checked) false (laidWorld os) #[.agg #[.int .i64 0,.int .i64 0,.string ⟨#[]⟩,.slice none 0 0,.slice none 0 0],.slice none 0 0] (Go.World.laidAll_os _ _ _) (by kernel_rfl) (by kernel_rfl) (by kernel_rfl)
   (Go.OpenSpec.preRow_of_cond 8 hx (by kernel_rfl) (λk hk=>by cases hk) (by kernel_rfl) (laid_met os))) ?_
 intro W base args ds gs before hval hW _ _ _ hL hS _;exact contract H enc W base args ds gs before hval hW hS hL
theorem j1 : (Rows.fnExactApplyPatchRow.inPlace==Tryz.prog.inPlace 5)=true:=by kernel_rfl
theorem j2 : (Rows.fnExactApplyPatchRow.unfollowed==Tryz.prog.unfollowed 5)=true:=by kernel_rfl
theorem j3 : (Rows.fnExactApplyPatchRow.recurses==Tryz.prog.recurses 5)=true:=by kernel_rfl
theorem j4 : (Rows.fnExactApplyPatchRow.named==Tryz.prog.varsNamed 5)=true:=by kernel_rfl
theorem j5 : joinedFacts Tryz.prog 5 Tryz.f5 (oU Rows.fnExactApplyPatchSpec).bare Rows.fnExactApplyPatchRow=true:=by
 unfold joinedFacts;rw[j1,j2,j3,j4]
 kernel_rfl
theorem j6 : Tryz.prog.funcNamed Rows.fnExactApplyPatchRow.func=some 5:=by kernel_rfl
theorem said : Rows.FnExactApplyPatchSaid:=
 Go.OpenClaim.holds_of_cond 5 Tryz.f5 rfl rfl rfl rfl rfl rfl rfl ⟨rfl,rfl,rfl,rfl,rfl⟩ rfl rfl rfl rfl rfl j6 Tryz.func5 j5
  (of_decide_eq_true (by kernel_rfl)) (by unfold Go.Func.isWrapper;first|(rw[if_pos (by decide +kernel)];kernel_rfl)|(rw[if_neg (by decide +kernel)];exact⟨rfl,rfl⟩))
  (λos started H enc _ F=>by rw[Go.OpenClaim.pre_eq_preRow];exact lifted os started H enc F)
theorem jw : Rows.fnExactApplyPatchRow.wfByText (oU Rows.fnExactApplyPatchSpec)=true:=by kernel_rfl
theorem jm : Tryz.pinned.checked.prog.mainIs=some (Rows.fnExactApplyPatchCard.stood.harness.1,Rows.fnExactApplyPatchCard.stood.harness.2.toList):=by kernel_rfl
theorem jg : false=Rows.fnExactApplyPatchRow.goesBy Tryz.pinned.checked.prog:=by kernel_rfl
theorem plain (f:FuncId)(fn:Func)(hf:Tryz.pinned.checked.prog.funcNamed Rows.fnExactApplyPatchRow.func=some f)(hfn:Tryz.pinned.checked.prog.funcs[f]? = some fn) :
 false=Tryz.pinned.checked.prog.looks []/\∀(j:Nat) t,fn.params[j]? = some t->Tryz.pinned.checked.prog.wantsStandIn t=false:=by
 obtain rfl:f=5:=yO ((show Tryz.prog.funcNamed Rows.fnExactApplyPatchRow.func=some 5 by kernel_rfl).symm.trans hf) |>.symm;obtain rfl:fn=Tryz.f5:=(yO (Tryz.func5.symm.trans hfn)).symm;refine⟨by kernel_rfl,λj t ht=>?_⟩;rw[Tryz.params5]at ht;have ht':t=25\/t=49:=by simpa using Array.mem_of_getElem? ht
 rcases ht' with rfl|rfl
 ·exact(show Tryz.prog.wantsStandIn 25=false by kernel_rfl)
 ·exact(show Tryz.prog.wantsStandIn 49=false by kernel_rfl)
theorem card : Rows.FnExactApplyPatchCardSaid:=
 Claim7.holds_tied_plain_at .later [] _ _ _ _ said (λ_ h=>by cases h) jw (λ_ h=>by cases h) fnExactApplyPatch_row_tie rfl ⟨rfl,rfl⟩ jm rfl plain jg
end Go.Proofs.YtjfeblenfiiofaaGreatDoor.fnExactApplyPatch
end
