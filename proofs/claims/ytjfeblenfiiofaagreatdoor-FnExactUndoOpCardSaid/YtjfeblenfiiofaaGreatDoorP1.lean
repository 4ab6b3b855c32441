/- The law FnExactUndoOp of the package laws answers true for all arguments and leaves them as they are (part 1). Conditions: none but what the row lists. -/
import Derived.Test.YtjfeblenfiiofaaGreatDoorD2
set_option linter.unusedVariables false
set_option linter.unusedSimpArgs false
set_option maxRecDepth 100000
set_option maxHeartbeats 4000000
open Go.Lib renaming pow10Tab->pG
open Go.OpenSpec renaming ofChange->oU
open Go.Proofs.Tryz renaming f4->ae5
open List renaming mem_cons->aB,map->aT,not_mem_nil->gU,append_nil->pI
open Option renaming isSome_iff_exists->nM
open Option.some renaming inj->yO
open Prod.mk renaming injEq->bV
namespace Go.Ab
open Go
def G.ad6 (f:Nat)(ay:ai)(iE:tC):Option (List tC×Bool):=match f with
|0=>none
|n+1=>((G.jX n ay iE).bind λv1=>(cond v1.2
((G.lW n v1.1 ay).bind λv2=>(cond v2
(some ([],true))
((G.aO n ay).bind λv3=>(some ([(tC.mk 3 [] [] v3)],true)))))
(some ([],false))))
def G.kJ (f:Nat)(ay:ai)(iE:tC):Option (ai×Bool):=match f with
|0=>none
|n+1=>((G.fZ n ay).bind λv1=>(cond v1
((G.jO n iE).bind λv2=>(cond v2
((G.kY n ay iE).bind λv3=>(some (v3.1,v3.2)))
(some ((ai.mk 0 0 [] [] []),false))))
(some ((ai.mk 0 0 [] [] []),false))))
def G.ad9 (f:Nat)(ay:ai)(iE:tC):Option (List tC×Bool):=match f with
|0=>none
|n+1=>((G.kJ n ay iE).bind λv1=>(cond v1.2
((G.rD n v1.1 ay).bind λv2=>(cond v2
(some ([],true))
((G.bC n ay).bind λv3=>(some ([(tC.mk 3 [] [] v3)],true)))))
(some ([],false))))
def C.ad6 : dD:=(qs [qX 2 10 0,qX 3 11 1,zA 4 (.mv (.k (.xh 8))),qB 5 false] [2,3] (qs [qT 9 5 2,qT 10 8 3,q2 11 12 9 10,zM 8 11,qE 12 8 0,qE 13 8 1,qZ 6 12,qS 5 6 12,zM 7 13] [2,6,7] (.seq (qs [zM 14 7,qO 15 14] [2,6,15] (qc 15 (qr [zA 4 (.mv (.k (.xh 8))),qB 5 false] [4,5]) .skip)) (.seq (qs [qT 16 5 6,qT 17 5 2,q2 18 52 16 17] [2,18] (qc 18 (qr [zA 4 (.mv (.k (.xh 8))),qB 5 true] [4,5]) .skip)) (qr [qT 19 5 2,q1 20 53 19,zA 21 (.build [cI' 0,.xh 1,.xh 1,cI' 0,cI' 0,.c (.str []),.xh 1,.xh 5] [(0,1,kI 3),(3,5,.t 20)]),zA 22 (.rH 13 8 1 [.lit (.int .i64 0),.sl 1 [],.sl 1 [],.lit (.int .i64 0),.lit (.int .i64 0),.str [],.sl 1 [],.sl 5 []] [(0,.t 21)]),zM 4 22,qB 5 true] [4,5])))))
theorem K.ad6 : lK pZ 19 2 0 C.ad6 [.tmp 4,.tmp 5]=true:=by kernel_rfl
def C.kJ : dD:=(qs [qX 2 10 0,qX 3 11 1,qZ 4 12,qB 5 false] [2,3,4] (.seq (qs [qT 6 5 2,q1 7 31 6,qO 8 7,zM 9 8,zG 9 false 10 (.load true 8 (.t 3)),⟨(some (9,false)),some 11,.call 32 [.t 10]⟩,zG 9 false 12 (.not (.t 11)),qQ 13 9 12] [2,3,4,13] (qc 13 (qr [zA 14 (.build zN []),qS 5 4 14,qB 5 false] [4,5]) .skip)) (qr [qT 15 5 2,qT 16 8 3,q2 17 33 15 16,qE 18 17 0,qE 19 17 1,qS 5 4 18,zM 5 19] [4,5])))
theorem K.kJ : lK pZ 9 2 0 C.kJ [.cell 4 true 5,.tmp 5]=true:=by kernel_rfl
def C.ad9 : dD:=(qs [qX 2 10 0,qX 3 11 1,zA 4 (.mv (.k (.xh 8))),qB 5 false] [2,3] (qs [qT 9 5 2,qT 10 8 3,q2 11 9 9 10,zM 8 11,qE 12 8 0,qE 13 8 1,qZ 6 12,qS 5 6 12,zM 7 13] [2,6,7] (.seq (qs [zM 14 7,qO 15 14] [2,6,15] (qc 15 (qr [zA 4 (.mv (.k (.xh 8))),qB 5 false] [4,5]) .skip)) (.seq (qs [qT 16 5 6,qT 17 5 2,q2 18 50 16 17] [2,18] (qc 18 (qr [zA 19 (.rH 13 8 0 [.lit (.int .i64 0),.sl 1 [],.sl 1 [],.lit (.int .i64 0),.lit (.int .i64 0),.str [],.sl 1 [],.sl 5 []] []),zM 4 19,qB 5 true] [4,5]) .skip)) (qr [zA 20 (.rH 14 1 0 [.str []] []),zA 21 (.rH 15 1 0 [.str []] []),qT 22 5 2,q1 23 51 22,zA 24 (.build [cI' 0,.xh 1,.xh 1,cI' 0,cI' 0,.c (.str []),.xh 1,.xh 5] [(0,1,kI 3),(1,1,.t 20),(2,1,.t 21),(3,5,.t 23)]),zA 25 (.rH 16 8 1 [.lit (.int .i64 0),.sl 1 [],.sl 1 [],.lit (.int .i64 0),.lit (.int .i64 0),.str [],.sl 1 [],.sl 5 []] [(0,.t 24)]),zM 4 25,qB 5 true] [4,5])))))
theorem K.ad9 : lK pZ 18 2 0 C.ad9 [.tmp 4,.tmp 5]=true:=by kernel_rfl
theorem T.kJ {B D:Nat}{n:ai}{o:tC}(hB:B<=lim)(h:Fine B D n)(ho:VT B D o):Ev (λf=>G.kJ f n o) (mM (yX n o)):=by refine Ev.up ?_;simp only[G.kJ];unfold yX;refine Ev.bind (T.fZ hB h) (Ev.ite (λe1=>?_) (λe1=>Ev.ret' (by rw[e1];rfl)));refine Ev.bind (T.jO hB ho) (Ev.ite (λe2=>?_) (λe2=>Ev.ret' (by rw[e1,e2];rfl)));rw[e1,e2,if_pos (by rfl)];exact Ev.bind (T.kY e1 (E5 e2)) (Ev.ret _)
def aix (n:ai):tC:=tC.mk 3 [] [] n
open Classical in
noncomputable def agV (n:ai)(o:tC):List tC×Bool:=
 match yX n o with
 |some m=>(if m=n then []else [aix n],true)
 |none=>([],false)
section
def rtO (o:tC):Nat:=o.Path.length+o.From.length+NW o.Value
section
variable {mt:Fq} {sb:Xg} {fS fN tS tN fM:Nat} {ty:Nat->Nat}
theorem afj (M:MT mt fS fN tS tN)(hs:sb fM=some (5,[.sl 3 fS,.sl 4 fN]))(h1:ty 1=tS)(h2:ty 2=tS)(h6:ty 6=tS)(h7:ty 7=tN)(o:tC){k:Int}(h0:0<=k)(hk:k+rtO o<4611686018427387904):∃cs',SR mt sb tx ty [.sl 1 fS,.sl 2 fS,.st 3 5 fM] (WH o) k cs' (k+rtO o):=by
 unfold rtO at *;have e1:=KH M o.Path (k:=k) h0 (by omega);have e2:=KH M o.From (k:=k+o.Path.length) (by omega) (by omega);have e3:=Q3 (sb:=sb) (ty:=λj=>ty (3+j)) M (by simpa using h6) (by simpa using h7) o.Value (k:=k+o.Path.length+o.From.length) (by omega) (by omega);have e:k+((o.Path.length+o.From.length+NW o.Value:Nat):Int)=k+o.Path.length+o.From.length+NW o.Value:=by omega
 rw[e];refine⟨_,.sl (c:=.sl 1 (o.Path.map cS)) rfl ⟨_,_,by rw[h1];exact M.s⟩ e1 (.sl (c:=.sl 1 (o.From.map cS)) rfl ⟨_,_,by rw[h2];exact M.s⟩ e2 (.st hs (by simp) e3 rfl .nil))⟩
end
end
theorem T0.kJ {B D E:Nat}{n:ai}{o:tC}(hB:B<=lim)(h:tu B D n)(ho:DF B E o):Ev (λf=>G.kJ f n o) (mM (yX n o)):=by
 by_cases hv:(Val n&&Rn o)=true
 ·have hv':=hv;simp only[Bool.and_eq_true]at hv';have fo:=E5 hv'.2;exact T.kJ (B:=12) (D:=5) (by decide) (lg hv'.1) ⟨rC fo.path,rC fo.from_,lg fo.val⟩
 refine Ev.up ?_;simp only[G.kJ];unfold yX;rw[if_neg hv];refine Ev.bind (T0.fZ hB h) (Ev.ite (λe1=>?_) (λe1=>Ev.ret' rfl));refine Ev.bind (T0.jO hB ho) (Ev.ite (λe2=>?_) (λe2=>Ev.ret' rfl));exact absurd (by rw[e1,e2];rfl) hv
theorem ab7 (o:tC):rtO o<=mkO o:=by have:=WQ o.Value;unfold rtO mkO;omega
theorem aiy (n:ai)(o:tC):aiH (agV n o).1:=by
 unfold agV;cases h:yX n o with
 |none=>exact ag9
 | some m=>
   have hv:=(applied h).vn;have hr:=acj hv;have hm:=Jk n;by_cases e:m=n
   ·simp only[e,if_true];exact ag9
   ·simp only[e,if_false];refine⟨by unfold lim;simp,λx hx=>?_,by unfold NW at hr;simp[aea,mkO,aix];omega⟩;obtain rfl:=List.mem_singleton.1 hx;exact⟨⟨Nat.zero_le _,λs hs=>(by cases hs)⟩,⟨Nat.zero_le _,λs hs=>(by cases hs)⟩,(lg hv).fin0⟩
theorem T0.ad6 {B D E:Nat}{n:ai}{o:tC}(hB:B<=lim)(hn:tu B D n)(ho:DF B E o):Ev (λf=>G.ad6 f n o) (agV n o):=by
 refine Ev.up ?_;simp only[G.ad6];refine Ev.bind (T0.jX hB hn ho) ?_;unfold agV;cases h:yX n o with
 |none=>exact Ev.cf rfl (Ev.ret _)
 | some m=>
   have ha:=applied h;obtain⟨v,gs,hv⟩:=T.lW (uf ha.vm) (uf ha.vn);refine Ev.ct rfl (Ev.bind gs ?_);by_cases e:m=n
   ·rw[hv.2 e];simp only[e,if_true];exact Ev.ct rfl (Ev.ret _)
   ·have:v=false:=by cases v with
     |false=>rfl
     |true=>exact absurd (hv.1 rfl) e
    rw[this];simp only[e,if_false];exact Ev.cf rfl (Ev.bind (T.aO MH (lg ha.vn)) (Ev.ret _))
theorem T0.ad9 {B D E:Nat}{n:ai}{o:tC}(hB:B<=lim)(hn:tu B D n)(ho:DF B E o):Ev (λf=>G.ad9 f n o) (agV n o):=by
 refine Ev.up ?_;simp only[G.ad9];refine Ev.bind (T0.kJ hB hn ho) ?_;unfold agV;cases h:yX n o with
 |none=>exact Ev.cf rfl (Ev.ret _)
 | some m=>
   have ha:=applied h;obtain⟨v,gs,hv⟩:=T.rD (uf ha.vm) (uf ha.vn);refine Ev.ct rfl (Ev.bind gs ?_);by_cases e:m=n
   ·rw[hv.2 e];simp only[e,if_true];exact Ev.ct rfl (Ev.ret _)
   ·have:v=false:=by cases v with
     |false=>rfl
     |true=>exact absurd (hv.1 rfl) e
    rw[this];simp only[e,if_false];exact Ev.cf rfl (Ev.bind (T.bC MH (lg ha.vn)) (Ev.ret _))
theorem F.ad6 {n:Nat} : ∀{ay iE r},G.ad6 n ay iE=some r->fD pZ 19 [.agg (wN ay),.agg [wI iE.Kind,wT iE.Path,wT iE.From,wI iE.Value.Kind,wI iE.Value.Num,wS iE.Value.Text,wT iE.Value.Names,wK iE.Value.Kids]] (.wF [(false,[.c (.sl 8 (aT tC.cells r.1))]),(false,[.c (.lit (.bool r.2))])]):=by
 intro ay iE r h;refine dB K.ad6 (tJ ?_);unfold C.ad6;rcases n with _|n<;>simp only[G.ad6,reduceCtorEq]at h;have z:=pp (pp @F.jX <|pp @F.lW <|pp @F.aO ()) <|pp () <|pp () <|pp () <|pp () <|pp () <|()
 exact uG
theorem F.kJ {n:Nat} : ∀{ay iE r},G.kJ n ay iE=some r->fD pZ 9 [.agg (wN ay),.agg [wI iE.Kind,wT iE.Path,wT iE.From,wI iE.Value.Kind,wI iE.Value.Num,wS iE.Value.Text,wT iE.Value.Names,wK iE.Value.Kids]] (.wF [(true,(wN r.1)),(false,[.c (.lit (.bool r.2))])]):=by
 intro ay iE r h;refine dB K.kJ (tJ ?_);unfold C.kJ;rcases n with _|n<;>simp only[G.kJ,reduceCtorEq]at h;have z:=pp (pp @F.fZ <|pp @F.jO <|pp @F.kY ()) <|pp () <|pp () <|pp () <|pp () <|pp () <|()
 exact uG
theorem F.ad9 {n:Nat} : ∀{ay iE r},G.ad9 n ay iE=some r->fD pZ 18 [.agg (wN ay),.agg [wI iE.Kind,wT iE.Path,wT iE.From,wI iE.Value.Kind,wI iE.Value.Num,wS iE.Value.Text,wT iE.Value.Names,wK iE.Value.Kids]] (.wF [(false,[.c (.sl 8 (aT tC.cells r.1))]),(false,[.c (.lit (.bool r.2))])]):=by
 intro ay iE r h;refine dB K.ad9 (tJ ?_);unfold C.ad9;rcases n with _|n<;>simp only[G.ad9,reduceCtorEq]at h;have z:=pp (pp @F.kJ <|pp @F.rD <|pp @F.bC ()) <|pp () <|pp () <|pp () <|pp () <|pp () <|()
 exact uG
end Go.Ab
section
namespace Go.Ab
open Go
def C.ad7 : dD:=(.seq (.reg [ ⟨none,some 2,.op (.box 10 (.t 0))⟩,⟨none,some 3,.op (.box 11 (.t 1))⟩,⟨none,some 4,.op (.mv (.k (.c (.lit (.bool false)))))⟩] [2,3]) (.seq (.reg [ ⟨none,some 5,.op (.mv (.k (.c (.lit (.int .i64 1048576)))))⟩] [2,3,5]) (.seq (.reg [ ⟨none,some 17,.op (.load true 5 (.t 2))⟩,⟨none,some 18,.op (.mv (.t 5))⟩,⟨none,some 19,.call 7 [.t 17,.t 18]⟩,⟨none,some 5,.op (.mv (.t 19))⟩] [2,3,5]) (.seq (.seq (.reg [ ⟨none,some 20,.op (.mv (.t 5))⟩,⟨none,some 21,.op (.bin .lss (.t 20) (.k (.c (.lit (.int .i64 0)))))⟩] [2,3,5,21]) (.cond (.t 21) (.seq (.reg [ ⟨none,some 4,.op (.mv (.k (.c (.lit (.bool true)))))⟩] [4]) .ret) .skip)) (.seq (.reg [ ⟨none,some 22,.op (.load true 8 (.t 3))⟩,⟨none,some 23,.op (.mv (.t 5))⟩,⟨none,some 24,.call 8 [.t 22,.t 23]⟩,⟨none,some 5,.op (.mv (.t 24))⟩] [2,3,5]) (.seq (.seq (.reg [ ⟨none,some 25,.op (.mv (.t 5))⟩,⟨none,some 26,.op (.bin .lss (.t 25) (.k (.c (.lit (.int .i64 0)))))⟩] [2,3,26]) (.cond (.t 26) (.seq (.reg [ ⟨none,some 4,.op (.mv (.k (.c (.lit (.bool true)))))⟩] [4]) .ret) .skip)) (.seq (.qp [ (⟨none,some 28,.op (.load true 5 (.t 2))⟩,[]),(⟨none,some 29,.call 10 [.t 28]⟩,[0]),(⟨none,some 30,.op (.load true 8 (.t 3))⟩,[]),(⟨none,some 31,.call 11 [.t 30]⟩,[0,1,2]),(⟨none,some 32,.call 18 [.t 29,.t 31]⟩,[0,1,2,3]),(⟨none,some 27,.op (.mv (.t 32))⟩,[0,1,2,3,4]),(⟨none,some 33,.op (.extract (.t 27) 0)⟩,[0,1,2,3,4,5]),(⟨none,some 34,.op (.extract (.t 27) 1)⟩,[0,1,2,3,4,5]),(⟨none,some 6,.op (.mv (.t 33))⟩,[0,1,2,3,4,5,6]),(⟨none,some 7,.op (.mv (.t 34))⟩,[0,1,2,3,4,5,6,7,8])] [2,3,6,7]) (.seq (.reg [ ⟨none,some 35,.op (.load true 5 (.t 2))⟩,⟨none,some 36,.call 10 [.t 35]⟩,⟨none,some 8,.op (.alloc 12 [.c (.lit (.int .i64 0)),.c (.lit (.int .i64 0)),.c (.str []),.xh 1,.xh 5])⟩,⟨none,none,.op (.store true 5 (.t 8) (.t 36))⟩] [2,3,6,7,8]) (.seq (.reg [ ⟨none,some 37,.op (.load true 8 (.t 3))⟩,⟨none,some 38,.call 11 [.t 37]⟩,⟨none,some 9,.op (.alloc 13 [.c (.lit (.int .i64 0)),.xh 1,.xh 1,.c (.lit (.int .i64 0)),.c (.lit (.int .i64 0)),.c (.str []),.xh 1,.xh 5])⟩,⟨none,none,.op (.store true 8 (.t 9) (.t 38))⟩] [2,3,6,7,8,9]) (.seq (.reg [ ⟨none,some 40,.op (.load true 5 (.t 8))⟩,⟨none,some 41,.op (.load true 8 (.t 9))⟩,⟨none,some 42,.call 19 [.t 40,.t 41]⟩,⟨none,some 39,.op (.mv (.t 42))⟩,⟨none,some 43,.op (.extract (.t 39) 0)⟩,⟨none,some 44,.op (.extract (.t 39) 1)⟩,⟨none,some 10,.op (.mv (.t 43))⟩,⟨none,some 11,.op (.mv (.t 44))⟩] [2,3,6,7,8,9,10,11]) (.seq (.seq (.reg [ ⟨none,some 45,.op (.mv (.t 10))⟩,⟨none,some 46,.op (.mv (.t 6))⟩,⟨none,some 47,.call 20 [.t 45,.t 46]⟩,⟨none,some 48,.op (.not (.t 47))⟩,⟨none,some 49,.op (.mv (.t 48))⟩,⟨(some (49,false)),some 50,.op (.mv (.t 11))⟩,⟨(some (49,false)),some 51,.op (.mv (.t 7))⟩,⟨(some (49,false)),some 52,.op (.beq true (.t 50) (.t 51))⟩,⟨none,some 53,.op (.pick (.t 49) (.k (.c (.lit (.bool true)))) (.t 52))⟩] [2,3,6,7,8,9,10,11,53]) (.cond (.t 53) (.seq (.reg [ ⟨none,some 4,.op (.mv (.k (.c (.lit (.bool false)))))⟩] [4]) .ret) .skip)) (.seq (.seq (.qp [ (⟨none,some 54,.op (.load true 5 (.t 8))⟩,[]),(⟨none,some 55,.op (.load true 5 (.t 2))⟩,[]),(⟨none,some 56,.call 10 [.t 55]⟩,[1]),(⟨none,some 57,.call 13 [.t 54,.t 56]⟩,[0,1,2]),(⟨none,some 58,.op (.not (.t 57))⟩,[0,1,2,3])] [2,3,6,7,8,9,10,11,58]) (.cond (.t 58) (.seq (.reg [ ⟨none,some 4,.op (.mv (.k (.c (.lit (.bool false)))))⟩] [4]) .ret) .skip)) (.seq (.seq (.qp [ (⟨none,some 59,.op (.load true 8 (.t 9))⟩,[]),(⟨none,some 60,.op (.load true 8 (.t 3))⟩,[]),(⟨none,some 61,.call 11 [.t 60]⟩,[1]),(⟨none,some 62,.call 14 [.t 59,.t 61]⟩,[0,1,2]),(⟨none,some 63,.op (.not (.t 62))⟩,[0,1,2,3])] [2,3,6,7,8,9,10,11,63]) (.cond (.t 63) (.seq (.reg [ ⟨none,some 4,.op (.mv (.k (.c (.lit (.bool false)))))⟩] [4]) .ret) .skip)) (.seq (.reg [ ⟨none,some 12,.op (.mv (.k (.c (.lit (.int .i64 1)))))⟩] [2,3,6,7,8,9,10,11,12]) (.seq (.reg [ ⟨none,some 64,.op (.load true 5 (.t 8))⟩,⟨none,some 65,.op (.mv (.t 12))⟩,⟨none,some 66,.call 15 [.t 64,.t 65]⟩,⟨none,some 12,.op (.mv (.t 66))⟩] [2,3,6,7,9,10,11,12]) (.seq (.reg [ ⟨none,some 67,.op (.load true 8 (.t 9))⟩,⟨none,some 68,.op (.mv (.t 12))⟩,⟨none,some 69,.call 16 [.t 67,.t 68]⟩,⟨none,some 12,.op (.mv (.t 69))⟩] [2,3,6,7,10,11,12]) (.seq (.seq (.reg [ ⟨none,some 70,.op (.mv (.t 12))⟩,⟨none,some 71,.op (.bin .lss (.t 70) (.k (.c (.lit (.int .i64 0)))))⟩,⟨none,some 72,.op (.mv (.t 71))⟩,⟨(some (72,false)),some 73,.op (.mv (.t 10))⟩,⟨(some (72,false)),some 74,.op (.mv (.t 6))⟩,⟨(some (72,false)),some 75,.call 20 [.t 73,.t 74]⟩,⟨(some (72,false)),some 76,.op (.not (.t 75))⟩,⟨none,some 77,.op (.pick (.t 72) (.k (.c (.lit (.bool true)))) (.t 76))⟩,⟨none,some 78,.op (.mv (.t 77))⟩,⟨(some (78,false)),some 79,.op (.mv (.t 11))⟩,⟨(some (78,false)),some 80,.op (.mv (.t 7))⟩,⟨(some (78,false)),some 81,.op (.beq true (.t 79) (.t 80))⟩,⟨none,some 82,.op (.pick (.t 78) (.k (.c (.lit (.bool true)))) (.t 81))⟩] [2,3,6,7,10,82]) (.cond (.t 82) (.seq (.reg [ ⟨none,some 4,.op (.mv (.k (.c (.lit (.bool false)))))⟩] [4]) .ret) .skip)) (.seq (.reg [ ⟨none,some 13,.op (.mv (.k (.c (.lit (.int .i64 1)))))⟩] [2,3,6,7,10,13]) (.seq (.reg [ ⟨none,some 83,.op (.mv (.t 10))⟩,⟨none,some 84,.op (.mv (.t 13))⟩,⟨none,some 85,.call 21 [.t 83,.t 84]⟩,⟨none,some 13,.op (.mv (.t 85))⟩] [2,3,6,7,10,13]) (.seq (.reg [ ⟨none,some 14,.op (.mv (.k (.c (.lit (.int .i64 1)))))⟩] [2,3,6,7,10,13,14]) (.seq (.reg [ ⟨none,some 86,.op (.mv (.t 10))⟩,⟨none,some 87,.op (.mv (.t 14))⟩,⟨none,some 88,.call 22 [.t 86,.t 87]⟩,⟨none,some 14,.op (.mv (.t 88))⟩] [2,3,6,7,10,13,14]) (.seq (.seq (.reg [ ⟨none,some 89,.op (.mv (.t 14))⟩,⟨none,some 90,.op (.bin .lss (.t 89) (.k (.c (.lit (.int .i64 0)))))⟩] [2,3,6,7,10,13,14,90]) (.cond (.t 90) (.seq (.reg [ ⟨none,some 4,.op (.mv (.k (.c (.lit (.bool false)))))⟩] [4]) .ret) .skip)) (.seq (.seq (.reg [ ⟨none,some 91,.op (.mv (.t 14))⟩,⟨none,some 92,.op (.mv (.t 13))⟩,⟨none,some 93,.op (.bin .neq (.t 91) (.t 92))⟩] [2,3,6,7,10,13,93]) (.cond (.t 93) (.seq (.reg [ ⟨none,some 4,.op (.mv (.k (.c (.lit (.bool false)))))⟩] [4]) .ret) .skip)) (.seq (.qp [ (⟨none,some 95,.op (.load true 5 (.t 2))⟩,[]),(⟨none,some 96,.call 10 [.t 95]⟩,[0]),(⟨none,some 97,.op (.load true 8 (.t 3))⟩,[]),(⟨none,some 98,.call 11 [.t 97]⟩,[0,1,2]),(⟨none,some 99,.call 19 [.t 96,.t 98]⟩,[0,1,2,3]),(⟨none,some 94,.op (.mv (.t 99))⟩,[0,1,2,3,4]),(⟨none,some 100,.op (.extract (.t 94) 0)⟩,[0,1,2,3,4,5]),(⟨none,some 101,.op (.extract (.t 94) 1)⟩,[0,1,2,3,4,5]),(⟨none,some 15,.op (.mv (.t 100))⟩,[0,1,2,3,4,5,6]),(⟨none,some 16,.op (.mv (.t 101))⟩,[0,1,2,3,4,5,6,7,8])] [6,7,10,13,15,16]) (.seq (.seq (.reg [ ⟨none,some 102,.op (.mv (.t 15))⟩,⟨none,some 103,.op (.mv (.t 6))⟩,⟨none,some 104,.call 20 [.t 102,.t 103]⟩,⟨none,some 105,.op (.not (.t 104))⟩,⟨none,some 106,.op (.mv (.t 105))⟩,⟨(some (106,false)),some 107,.op (.mv (.t 16))⟩,⟨(some (106,false)),some 108,.op (.mv (.t 7))⟩,⟨(some (106,false)),some 109,.op (.beq true (.t 107) (.t 108))⟩,⟨none,some 110,.op (.pick (.t 106) (.k (.c (.lit (.bool true)))) (.t 109))⟩] [10,13,110]) (.cond (.t 110) (.seq (.reg [ ⟨none,some 4,.op (.mv (.k (.c (.lit (.bool false)))))⟩] [4]) .ret) .skip)) (.seq (.reg [ ⟨none,some 14,.op (.mv (.k (.c (.lit (.int .i64 1)))))⟩] [10,13,14]) (.seq (.reg [ ⟨none,some 111,.op (.mv (.t 10))⟩,⟨none,some 112,.op (.mv (.t 14))⟩,⟨none,some 113,.call 22 [.t 111,.t 112]⟩,⟨none,some 14,.op (.mv (.t 113))⟩] [13,14]) (.seq (.seq (.reg [ ⟨none,some 114,.op (.mv (.t 14))⟩,⟨none,some 115,.op (.bin .lss (.t 114) (.k (.c (.lit (.int .i64 0)))))⟩] [13,14,115]) (.cond (.t 115) (.seq (.reg [ ⟨none,some 4,.op (.mv (.k (.c (.lit (.bool false)))))⟩] [4]) .ret) .skip)) (.seq (.seq (.reg [ ⟨none,some 116,.op (.mv (.t 14))⟩,⟨none,some 117,.op (.mv (.t 13))⟩,⟨none,some 118,.op (.bin .neq (.t 116) (.t 117))⟩] [118]) (.cond (.t 118) (.seq (.reg [ ⟨none,some 4,.op (.mv (.k (.c (.lit (.bool false)))))⟩] [4]) .ret) .skip)) (.seq (.reg [ ⟨none,some 4,.op (.mv (.k (.c (.lit (.bool true)))))⟩] [4]) .ret))))))))))))))))))))))))))))))
noncomputable abbrev xM : Program:=Go.Proofs.Tryz.prog
noncomputable abbrev Bo : Func:=ae5
noncomputable abbrev acB : Code:=(ae5.body).getD .skip
theorem Lh : ae5.body=some acB:=by kernel_rfl
theorem ZT : oK xM 119 0 acB C.ad7=true:=by kernel_rfl
def Qz : Fq
 |46=>some (22,1,[.str 0])
 |47=>some (30,5,[.int 0,.int 1,.str 2,.sub 3 46,.sub 4 47])
 |21=>some (44,8,[.int 0,.sub 1 46,.sub 2 46,.int 3,.int 4,.str 5,.sub 6 46,.sub 7 47])
 |_=>none
def Q5 : Xg
 |15=>some (5,[.sl 3 46,.sl 4 47])
 |16=>some (8,[.sl 1 46,.sl 2 46,.st 3 5 15])
 |_=>none
theorem MO (f:Nat)(h:(Qz f).isSome=true):Xx xM 54 Qz f=true:=by
 unfold Qz at h;split at h
 ·kernel_rfl
 ·kernel_rfl
 ·kernel_rfl
 ·cases h
theorem Ci (f:Nat)(h:(Q5 f).isSome=true):aby xM Q5 f=true:=by
 unfold Q5 at h;split at h
 ·kernel_rfl
 ·kernel_rfl
 ·cases h
theorem Q9 : DR xM 54 tx:=λk h0 h1=>by obtain⟨n,hn⟩:=(aaS ⟨h0,h1⟩).val;exact F.gu hn
theorem Vh : MT Qz 46 47 22 30:=⟨rfl,rfl⟩
theorem ad2 : qJ xM 22=1:=by kernel_rfl
theorem ad3 : qJ xM 30=5:=by kernel_rfl
theorem ad4 : kP xM 30=[(3,22),(4,30)]:=by kernel_rfl
theorem aiA : qJ xM 44=8:=by kernel_rfl
theorem aiB : kP xM 44=[(1,22),(2,22),(6,22),(7,30)]:=by kernel_rfl
noncomputable abbrev Y7 : Code:=Ea 7 acB
noncomputable abbrev acC : Code:=Ea 7 Y7
noncomputable abbrev acD : Code:=Ea 1 acC
noncomputable abbrev Y8 : Code:=Ea 1 acD
noncomputable abbrev acE : Code:=Ea 2 Y8
noncomputable abbrev aey : Code:=Ea 1 acE
abbrev Bi : dD:=C.ad7
abbrev La : dD:=He 7 Bi
abbrev Om : dD:=He 2 (He 7 La)
abbrev YX : dD:=He 1 (He 2 Om)
theorem agk : oK xM 119 0 Y7 La=true:=by kernel_rfl
theorem agl : oK xM 119 0 Y8 Om=true:=by kernel_rfl
theorem agm : oK xM 119 0 aey YX=true:=by kernel_rfl
def Ec : List OF:=[.vp 8 8 0,.row 8 ⟨3,22,100803⟩,.row 8 ⟨4,30,100804⟩,.vp 9 9 0,.row 9 ⟨1,22,100901⟩,.row 9 ⟨2,22,100902⟩,.row 9 ⟨6,22,100906⟩,.row 9 ⟨7,30,100907⟩,.ref 10 ⟨0,44,201000⟩]
theorem afb : (AU xM [] 7 acB Bi []).isSome=true:=by kernel_rfl
theorem agr : (match AU xM [2,3,6,7] 7 Y7 La []with|some Γ =>Ec.all Γ.contains|none=>false)=true:=by kernel_rfl
theorem ags : (AU xM [2,3,6,7,10,11] 2 Y8 Om []).isSome=true:=by kernel_rfl
theorem agn : MK xM 119 acC=some (some 5,8,12,15,[64,65,66,12]):=by kernel_rfl
theorem agp : MK xM 119 acD=some (some 8,9,12,16,[67,68,69,12]):=by kernel_rfl
theorem agq : MK xM 119 acE=some (none,10,13,21,[83,84,85,13]):=by kernel_rfl
structure GI (n:ai)(o:tC)(p:List tC)(l1 l2:Int)(b:Bool):Prop where
 s1:∃m,G.jE m n 1048576=some l1
 c1:decide (l1<0)=false
 s2:∃m,G.oM m o l1=some l2
 c2:decide (l2<0)=false
 t1:∃m,G.kW m n=some n
 t2:∃m,G.ry m o=some o
 w:∃m,G.ad9 m n o=some (p,b)
 g:∃m,G.ad6 m n o=some (p,b)
 e1:∃m,G.acO m p p=some true
 e2:∃m,G.kE m n n=some true
 e3:∃m,G.tZ m o o=some true
 h:∃m,G.acS m (afB p 1) 1=some (1+(aea p:Int))
 k1:NW n<1000000000
 k2:rtO o<1000000000
 k3:aea p<1000000000
abbrev vg (n:ai):List AC:=[.c (.lit (.int .i64 n.Kind)),.c (.lit (.int .i64 n.Num)),.c (.str n.Text),.c (.sl 1 (aT cS n.Names)),.c (.sl 5 (aT ai.cells n.Kids))]
abbrev Ey (o:tC):List AC:=[.c (.lit (.int .i64 o.Kind)),.c (.sl 1 (aT cS o.Path)),.c (.sl 1 (aT cS o.From)),.c (.lit (.int .i64 o.Value.Kind)),.c (.lit (.int .i64 o.Value.Num)),.c (.str o.Value.Text),.c (.sl 1 (aT cS o.Value.Names)),.c (.sl 5 (aT ai.cells o.Value.Kids))]
abbrev FQ (o:tC):Slot:=.v true (.one (.zC (WH o)))
abbrev oH (n:ai):Slot:=.v true (.one (.zC (AB n)))
abbrev wU (b:Bool):Slot:=.v true (.one (.c (.lit (.bool b))))
abbrev Ja (k:Int):Slot:=.v true (.one (.c (.lit (.int .i64 k))))
abbrev adk (o:List tC):Slot:=.v true (.one (.c (.sl 8 (aT tC.cells o))))
theorem afm {n:ai}{o:tC}{p:List tC}{l1 l2:Int}{b:Bool}(F0:GI n o p l1 l2 b){K:dP->Prop}(zf:YP K (dP.of [(2,.v true (.one (.ptr 10 0))),(3,.v true (.one (.ptr 11 0))),(6,adk p),(7,wU b)] [(10,.var (vg n)),(11,.var (Ey o))])):wpC xM (takeA 7 Bi) (QA K RL) (st0 [.agg (vg n),.agg (Ey o)] []):=by
 obtain⟨_,h1⟩:=F0.s1;obtain⟨_,h2⟩:=F0.s2;obtain⟨_,h3⟩:=F0.t1;obtain⟨_,h4⟩:=F0.t2;obtain⟨_,h5⟩:=F0.w;have zc:=pp (F.jE h1) <|pp (F.oM h2) <|pp (F.kW h3) <|pp (F.ry h4) <|pp (F.ad9 h5) <|()
 have c1:=F0.c1;have c2:=F0.c2;clear F0;refine tJ ?_;unfold Bi C.ad7;simp only[takeA];exact XH
theorem afn {n:ai}{o:tC}{p:List tC}{l1 l2:Int}{b:Bool}(F0:GI n o p l1 l2 b){K:dP->Prop}(zf:YP K (dP.of [(2,oH n),(3,FQ o),(6,adk p),(7,wU b),(8,.v true (.one (.ptr 12 0))),(9,.v true (.one (.ptr 13 0))),(10,adk p),(11,wU b),(12,Ja 1)] [(12,.var (vg n)),(13,.var (Ey o))])):wpC xM (takeA 7 La) (QA K RL) (dP.of [(2,oH n),(3,FQ o),(6,adk p),(7,wU b)] []):=by
 obtain⟨_,h1⟩:=F0.t1;obtain⟨_,h2⟩:=F0.t2;obtain⟨_,h3⟩:=F0.g;obtain⟨_,h4⟩:=F0.e1;obtain⟨_,h5⟩:=F0.e2;obtain⟨_,h6⟩:=F0.e3;have zc:=pp (F.kW h1) <|pp (F.ry h2) <|pp (F.ad6 h3) <|pp (F.acO h4) <|pp (F.kE h5) <|pp (F.tZ h6) <|()
 clear F0;refine tJ ?_;unfold La Bi C.ad7;simp only[takeA,He];exact XH
theorem afo {n:ai}{o:tC}{p:List tC}{l1 l2:Int}{b:Bool}{k:Int}(F0:GI n o p l1 l2 b)(hk:decide (k<0)=false){K:dP->Prop}(zf:YP K (dP.of [(2,oH n),(3,FQ o),(6,adk p),(7,wU b),(10,adk p),(13,Ja 1)] [])):wpC xM (takeA 2 Om) (QA K RL) (dP.of [(2,oH n),(3,FQ o),(6,adk p),(7,wU b),(10,adk p),(11,wU b),(12,Ja k)] []):=by
 obtain⟨_,h1⟩:=F0.e1;have zc:=pp (F.acO h1) <|()
 clear F0;refine tJ ?_;unfold Om La Bi C.ad7;simp only[takeA,He];exact XH
theorem afp {n:ai}{o:tC}{p:List tC}{l1 l2:Int}{b:Bool}(F0:GI n o p l1 l2 b):wpC xM YX (QF [.tmp 4] 0 (λr bs=>r=pq true/\bs=[])) (dP.of [(2,oH n),(3,FQ o),(6,adk p),(7,wU b),(10,adk (afB p 1)),(13,Ja (1+(aea p:Int)))] []):=by
 obtain⟨_,h1⟩:=F0.t1;obtain⟨_,h2⟩:=F0.t2;obtain⟨_,h3⟩:=F0.g;obtain⟨_,h4⟩:=F0.e1;obtain⟨_,h5⟩:=F0.h;have zc:=pp (F.kW h1) <|pp (F.ry h2) <|pp (F.ad6 h3) <|pp (F.acO h4) <|pp (F.acS h5) <|()
 have hk:decide (1+(aea p:Int)<0)=false:=decide_eq_false (by omega);clear F0;refine tJ ?_;unfold YX Om La Bi C.ad7;simp only[He];exact XH
theorem afq {n:ai}{o:tC}{l1:Int}{K:dP->Prop}(h:∃m,G.jE m n 1048576=some l1)(hk:decide (l1<0)=true):wpC xM (takeA 7 Bi) (QA K RL) (st0 [.agg (vg n),.agg (Ey o)] []):=by
 obtain⟨_,h1⟩:=h;have zc:=pp (F.jE h1) <|()
 have zf:=();refine tJ ?_;unfold Bi C.ad7;simp only[takeA];exact XH
theorem afr {n:ai}{o:tC}{l1 l2:Int}{K:dP->Prop}(h:∃m,G.jE m n 1048576=some l1)(hk:decide (l1<0)=false)(h':∃m,G.oM m o l1=some l2)(hk':decide (l2<0)=true):wpC xM (takeA 7 Bi) (QA K RL) (st0 [.agg (vg n),.agg (Ey o)] []):=by
 obtain⟨_,h1⟩:=h;obtain⟨_,h2⟩:=h';have zc:=pp (F.jE h1) <|pp (F.oM h2) <|()
 have zf:=();refine tJ ?_;unfold Bi C.ad7;simp only[takeA];exact XH
theorem Q8 {S:Slot}{I:IH}{ρ:Ren}{v:Value}{x:Value}(h:Uh I ρ v S)(e:S = .v true (.one (.c (.lit x)))):v=x:=by subst e;have h1:=h.1 rfl;cases h1;rfl
theorem adD {n:ai}{o:tC}{p:List tC}{l1 l2:Int}{b:Bool}(F0:GI n o p l1 l2 b):fD xM 4 [.agg (vg n),.agg (Ey o)] (pq true):=by
 have hcr:xO xM Bo.ntmps Bo.results.toList [.tmp 4]=true:=by kernel_rfl
 obtain⟨Γ0,oA'⟩:=nM.1 afb;refine XV (fn:=Bo) (ac:=Bi) (by kernel_rfl) Lh (by kernel_rfl) (by show 2<=Bo.ntmps;exact(by kernel_rfl:decide (2<=Bo.ntmps)=true) |> of_decide_eq_true) hcr ZT oA' (λK zf=>afm F0 zf) ?_;intro w0 wA JA I ρ g a w A;obtain⟨hT,hG⟩:=A.gx;have hJ:=KN (V:=ad1 ρ (dP.of [(2,.v true (.one (.ptr 10 0))),(3,.v true (.one (.ptr 11 0))),(6,adk p),(7,wU b)] [(10,.var (vg n)),(11,.var (Ey o))])) hG.agree;have s2:=Nu (x:=2) (b:=10) (cs:=AB n) hG (by decide) rfl rfl rfl;have s3:=Nu (x:=3) (b:=11) (cs:=WH o) hG (by decide) rfl rfl rfl;have s6:=adU (x:=6) (c:=.sl 8 (aT tC.cells p)) hG (by decide) rfl hJ;have s7:=adU (x:=7) (c:=.lit (.bool b)) hG (by decide) rfl hJ;have hA:=GG (V:=ad1 ρ (dP.of [(2,.v true (.one (.ptr 10 0))),(3,.v true (.one (.ptr 11 0))),(6,adk p),(7,wU b)] [(10,.var (vg n)),(11,.var (Ey o))])) hG.agree;generalize I.with w _=JB at hJ s2 s3 s6 s7 hA;have hM:Mid xM Bo.ntmps w0 JB [(2,oH n),(3,FQ o),(6,adk p),(7,wU b)] a w:=⟨A.tabs.mono (IH.le_trans A.Ei hJ),hA,λt s hs=>by
  simp only[aB,bV,gU,or_false]at hs;rcases hs with⟨rfl,rfl⟩|⟨rfl,rfl⟩|⟨rfl,rfl⟩|⟨rfl,rfl⟩
  ·exact s2
  ·exact s3
  ·exact s6
  ·exact s7,hG.size,hG.defers,A.wu⟩
 clear A hG s2 s3 s6 s7 hJ hA;have hsz:=hM.wu.size;have hB:=agr;split at hB
 case h_2=>cases hB
 rename_i ΓB oB';refine OJ hcr (pa:=[(2,a.tmps.getD 2 undef),(3,a.tmps.getD 3 undef),(6,a.tmps.getD 6 undef),(7,a.tmps.getD 7 undef)]) (pl:=[2,3,6,7]) hM (by simp) (by intro e he;simp only[aB,gU,or_false]at he;rcases he with rfl|rfl|rfl|rfl<;>rfl) agk oB' (λK zf=>afn F0 zf) ?_
 intro I1 ρ1 g1 a1 w1 A;have hmem:∀f,f∈Ec->f ∈ ΓB:=λf hf=>by have:=List.all_eq_true.1 hB f hf;simpa using this
 obtain⟨hT1,hG⟩:=A.gx;obtain⟨k8,v8,e8,p8,q8,n8,r8,⟨_,_,_,u8⟩,g8⟩:=Jy (x:=8) (b:=12) (cs:=AB n) (rows:=[(3,22,100803),(4,30,100804)]) hG A.ow (by decide) rfl rfl rfl (hmem _ (by simp[Ec])) (λr hr=>hmem _ (by revert r;decide));obtain⟨k9,v9,e9,p9,q9,n9,r9,⟨_,_,_,u9⟩,g9⟩:=Jy (x:=9) (b:=13) (cs:=WH o) (rows:=[(1,22,100901),(2,22,100902),(6,22,100906),(7,30,100907)]) hG A.ow (by decide) rfl rfl rfl (hmem _ (by simp[Ec])) (λr hr=>hmem _ (by revert r;decide));obtain⟨r10,g10⟩:=agT (x:=10) (T:=44) (m:=201000) (c:=.sl 8 (aT tC.cells p)) hG A.ow (by decide) rfl (hmem _ (by simp[Ec]));obtain⟨v10,p10⟩:∃v,a1.tmps.getD 10 undef=v:=⟨_,rfl⟩;rw[p10]at r10 g10;have S8:=aaN A.ow.good A.tabs A.Iy A.old A.ag n8 r8 (by decide) g8 (RQ ad2 ad3 ad4 n _ _);have S9:=aaN A.ow.good A.tabs A.Iy A.old A.ag n9 r9 (by decide) g9 (ac2 ad2 ad3 ad4 o _ _ _ _);have S10:=aaN (vs:=[v10]) (cs:=[Cell.sl 8 (aT tC.cells p)]) (rows:=[(0,44,201000)]) A.ow.good A.tabs A.Iy A.old A.ag rfl (ahR r10) (by decide) (ahM g10) (ahr ad2 ad3 ad4 aiA aiB p _);have K:Mks xM Bo.ntmps w0 w JB I1 g1 a1 w1:=⟨A.new,A.Zk.size,A.old,A.Ei,A.ag,hG.size,hG.defers,A.wu,hsz⟩;have t11:=Q8 (hG.tm 11 (by decide)) rfl;have t12:=Q8 (hG.tm 12 (by decide)) rfl;refine MG K S8 agn (Qm p8 q8 n8) t12 (KX.any (CU (Ci 15 rfl) rfl (Nz MO Ci Q9 (Q3 Vh rfl rfl n (by decide) (by have:=F0.k1;omega))))) ?_;intro a2 w2 J2 K2 _ c2 tk2 fr2 kp2;have S9:=kp2 S9 (apart (by decide) (by decide) (by decide));have S10:=kp2 S10 (apart (by decide) (by decide) (by decide));obtain⟨cs',hsr⟩:=afj (sb:=Q5) (ty:=tyR [(1,22,100901),(2,22,100902),(6,22,100906),(7,30,100907)]) (fM:=15) Vh rfl rfl rfl rfl rfl o (k:=1+NW n) (by omega) (by have:=F0.k1;have:=F0.k2;omega);refine MG K2 S9 agp (Qm ((tk2 9 (by decide)).trans p9) ((fr2 _ _ _ _ u9).trans q9) n9) c2 (KX.any (CU (Ci 16 rfl) rfl (Nz MO Ci Q9 hsr))) ?_;intro a3 w3 J3 K3 _ c3 tk3 fr3 kp3;have S10:=kp3 S10 (apart (by decide) (by decide) (by decide));have tk:∀t,t ∉ [64,65,66,67,68,69,12]->a3.tmps.getD t undef=a1.tmps.getD t undef:=λt ht=>by simp only[aB,gU,or_false,not_or]at ht;rw[tk3 t (by simp;omega),tk2 t (by simp;omega)]
 have hJ:=KN (V:=λ_=>False) K3.ag;have hA:=GG (V:=λ_=>False) K3.ag;generalize J3.with w3 _=JC at hJ hA;have hJ':=IH.le_trans K3.Ei hJ;have hM3:Mid xM Bo.ntmps w0 JC [(2,oH n),(3,FQ o),(6,adk p),(7,wU b),(10,adk p),(11,wU b),(12,Ja (1+NW n+rtO o))] a3 w3:=⟨hM.tabs.mono hJ',hA,λt s hs=>by
  simp only[aB,bV,gU,or_false]at hs;have base:∀t s,(t,s)∈[(2,oH n),(3,FQ o),(6,adk p),(7,wU b)]->t ∉ [64,65,66,67,68,69,12]->(t,a.tmps.getD t undef)∈[(2,a.tmps.getD 2 undef),(3,a.tmps.getD 3 undef),(6,a.tmps.getD 6 undef),(7,a.tmps.getD 7 undef)]->Uh JC Rj (a3.tmps.getD t undef) s:=λt s h1 h2 h3=>by rw[tk t h2,A.pa _ h3];exact(hM.sl t s h1).mono hJ' (λ_ _ h=>h)
  rcases hs with⟨rfl,rfl⟩|⟨rfl,rfl⟩|⟨rfl,rfl⟩|⟨rfl,rfl⟩|⟨rfl,rfl⟩|⟨rfl,rfl⟩|⟨rfl,rfl⟩
  ·exact base _ _ (by simp) (by decide) (by simp)
  ·exact base _ _ (by simp) (by decide) (by simp)
  ·exact base _ _ (by simp) (by decide) (by simp)
  ·exact base _ _ (by simp) (by decide) (by simp)
  ·rw[tk 10 (by decide)];exact agY ((S10.rd 0 _ _ rfl rfl).mono hJ) p10
  ·rw[tk 11 (by decide)];rw[t11];exact⟨λ_=>.lit _ rfl,λe=>by cases e⟩
  ·rw[c3];exact⟨λ_=>.lit _ rfl,λe=>by cases e⟩,K3.size,K3.defers,K3.wu⟩
 obtain⟨ΓE,oE'⟩:=nM.1 ags;refine OJ hcr (pa:=[(2,a3.tmps.getD 2 undef),(3,a3.tmps.getD 3 undef),(6,a3.tmps.getD 6 undef),(7,a3.tmps.getD 7 undef),(10,a3.tmps.getD 10 undef)]) (pl:=[2,3,6,7,10,11]) hM3 (by simp) (by intro e he;simp only[aB,gU,or_false]at he;rcases he with rfl|rfl|rfl|rfl|rfl<;>rfl) agl oE' (λK zf=>afo F0 (decide_eq_false (by omega)) zf) ?_
 intro I4 ρ4 g4 a4 w4 A4;obtain⟨hT4,hG4⟩:=A4.gx;have S10:=S10.quiet A4.Zk;have t13:=Q8 (hG4.tm 13 (by decide)) rfl;have K4:Mks xM Bo.ntmps w0 w JB J3 g1 a4 w4:=⟨K3.new,Nat.le_trans K3.sz A4.Zk.size,K3.old,K3.Ei,K3.ag.quiet A4.Zk,hG4.size,hG4.defers,A4.wu,K3.sz0⟩;refine MG K4 S10 agq (ahs ((A4.pa (10,a3.tmps.getD 10 undef) (by simp)).trans ((tk 10 (by decide)).trans p10))) t13 (aha MO Q9 (ahN Vh rfl p (by decide) (by have:=F0.k3;omega)) ⟨_,_,rfl⟩) ?_;intro a5 w5 J5 K5 S10 c5 tk5 fr5 kp5;have hJ5:=KN (V:=λ_=>False) K5.ag;have hA5:=GG (V:=λ_=>False) K5.ag;generalize J5.with w5 _=JD at hJ5 hA5;have aeI:=IH.le_trans K5.Ei hJ5;refine ZY hcr (ts:=[(2,oH n),(3,FQ o),(6,adk p),(7,wU b),(10,adk (afB p 1)),(13,Ja (1+(aea p:Int)))]) ⟨hM.tabs.mono aeI,hA5,λt s hs=>?_,K5.size,K5.defers,K5.wu⟩ agm (afp F0);simp only[aB,bV,gU,or_false]at hs;have base:∀t s,(t,s)∈[(2,oH n),(3,FQ o),(6,adk p),(7,wU b)]->t ∉ [64,65,66,67,68,69,12]->t ∉ [83,84,85,13]->(t,a3.tmps.getD t undef)∈[(2,a3.tmps.getD 2 undef),(3,a3.tmps.getD 3 undef),(6,a3.tmps.getD 6 undef),(7,a3.tmps.getD 7 undef),(10,a3.tmps.getD 10 undef)]->(t,a.tmps.getD t undef)∈[(2,a.tmps.getD 2 undef),(3,a.tmps.getD 3 undef),(6,a.tmps.getD 6 undef),(7,a.tmps.getD 7 undef)]->Uh JD Rj (a5.tmps.getD t undef) s:=λt s h1 h2 h3 h4 h5=>by
  rw[tk5 t h3,A4.pa _ h4]
  dsimp only
  rw[tk t h2,A.pa _ h5];exact(hM.sl t s h1).mono aeI (λ_ _ h=>h)
 rcases hs with⟨rfl,rfl⟩|⟨rfl,rfl⟩|⟨rfl,rfl⟩|⟨rfl,rfl⟩|⟨rfl,rfl⟩|⟨rfl,rfl⟩
 ·exact base _ _ (by simp) (by decide) (by decide) (by simp) (by simp)
 ·exact base _ _ (by simp) (by decide) (by decide) (by simp) (by simp)
 ·exact base _ _ (by simp) (by decide) (by decide) (by simp) (by simp)
 ·exact base _ _ (by simp) (by decide) (by decide) (by simp) (by simp)
 ·rw[tk5 10 (by decide),A4.pa (10,a3.tmps.getD 10 undef) (by simp)]
  dsimp only
  rw[tk 10 (by decide)];exact agY ((S10.rd 0 _ _ rfl rfl).mono hJ5) p10
 ·rw[c5];exact⟨λ_=>.lit _ rfl,λe=>by cases e⟩
theorem V8 {n:ai}{o:tC}(hw:wpC xM (takeA 7 Bi) (QA (λ_=>False) RL) (st0 [.agg (vg n),.agg (Ey o)] [])):fD xM 4 [.agg (vg n),.agg (Ey o)] (pq true):=by
 have hcr:xO xM Bo.ntmps Bo.results.toList [.tmp 4]=true:=by kernel_rfl
 obtain⟨Γ0,oA'⟩:=nM.1 afb;exact XU (fn:=Bo) (ac:=Bi) (by kernel_rfl) Lh (by kernel_rfl) (by show 2<=Bo.ntmps;exact(by kernel_rfl:decide (2<=Bo.ntmps)=true) |> of_decide_eq_true) hcr ZT oA' hw
theorem ae4 {n:ai}{o:tC}{D:Nat}(hn:tu mx D n){E:Nat}(ho:DF mx E o):fD xM 4 [.agg (vg n),.agg (Ey o)] (pq true):=by
 obtain⟨l1,h1,b1,f1⟩:=T.Q7 D hn (left:=1048576) (by decide) (by decide);by_cases c1:l1<0
 ·exact V8 (afq h1.val (decide_eq_true c1))
 obtain⟨l2,h2,b2,f2⟩:=T.afk ho (left:=l1) (by omega) (by omega);by_cases c2:l2<0
 ·exact V8 (afr h1.val (decide_eq_false c1) h2.val (decide_eq_true c2))
 obtain⟨f1,k1⟩:=f1 (by omega);obtain⟨f2,k2⟩:=f2 (by omega);have hL:(1048576:Nat)<=lim:=by decide
 have hL':lim=4294967296:=rfl;have hp:=aiy n o;have m1:=WQ n;have m2:=ab7 o;have m3:=hp.k;exact adD (p:=(agV n o).1) (b:=(agV n o).2) {
  s1:=h1.val,c1:=decide_eq_false c1,s2:=h2.val,c2:=decide_eq_false c2
  t1:=(T.VI hL f1).val,t2:=(T.agy hL f2).val
  w:=(T0.ad9 hL f1 f2).val,g:=(T0.ad6 hL f1 f2).val
  e1:=(T.aik (B:=12) (D:=5) (by decide) hp.l hp.f).val,e2:=(T.Qb hL f1).val,e3:=(T.afK hL f2).val
  h:=(T.ahW _ (by decide) (by omega)).val
  k1:=by omega,k2:=by omega,k3:=by omega }
end Go.Ab
namespace Go.Proofs.YtjfeblenfiiofaaGreatDoor.fnExactUndoOp
open Go Go.ChangeShapes Go.WideShapes Go.ChangeAt Go.RowKit Go.Ab
theorem own : ownKnob Tryz.prog.godebug=none:=by kernel_rfl
theorem laidOut : laidOutB Tryz.prog=true:=by kernel_rfl
theorem tyN : Po Tryz.prog 3 9 22 25 23:=⟨by kernel_rfl,by kernel_rfl,by kernel_rfl,by kernel_rfl,⟨_,Tryz.underlying25,by kernel_rfl⟩,by kernel_rfl,by kernel_rfl,by kernel_rfl,by kernel_rfl,by kernel_rfl⟩
theorem tyO : acs Tryz.prog 3 9 22 25 23 27 49:=⟨tyN,by kernel_rfl,⟨_,Tryz.underlying27,by kernel_rfl⟩,by kernel_rfl,by kernel_rfl⟩
theorem met {W:World}(h:laidMetH Tryz.prog Rows.fnExactUndoOpRow.laid W):laidMet Tryz.prog Rows.fnExactUndoOpRow.laid W:=by unfold laidMetH at h;rw[show(Rows.fnExactUndoOpRow.laid.filter λx=>x.2.handleName?.isSome)=[]from by kernel_rfl]at h;exact h
theorem agw {W:World} (hL:laidMetH Tryz.prog Rows.fnExactUndoOpRow.laid W):∀g,Tryz.prog.globalNamed "internal/strconv.uint64pow10" = some g->I0 W g=some (pG.map λz=>Go.Value.int .u64 z).toArray:=by
 have h:=OI 2 (met hL);rw[show Rows.fnExactUndoOpRow.laid.drop 2=("internal/strconv.uint64pow10",Go.Lib.tabData .u64 pG)::Rows.fnExactUndoOpRow.laid.drop 3 from by kernel_rfl]at h
 exact adN (g:=1) (t:=124) (e:=116) (by kernel_rfl) (by kernel_rfl) (by kernel_rfl) (by kernel_rfl) (by kernel_rfl) (by kernel_rfl) h
theorem agx {W:World} (hS:W.ShapedOpen Tryz.prog):∀g,Tryz.prog.globalNamed "internal/bytealg.MaxLen" = some g->∃m,(I0 W).cell ⟨g,0,none⟩=some (.int .i64 m):=
 adE (g:=0) (t:=3) hS (by kernel_rfl) (of_decide_eq_true (by kernel_rfl)) (by kernel_rfl) (by kernel_rfl) (by kernel_rfl) (by kernel_rfl)
theorem tabs {W:World} (hS:W.ShapedOpen Tryz.prog) (hL:laidMetH Tryz.prog Rows.fnExactUndoOpRow.laid W):Tabs Tryz.prog (I0 W):=⟨agw hL,agx hS,(λg hg=>by cases hg.symm.trans (show Tryz.prog.globalNamed "strconv.ErrSyntax" = none by kernel_rfl)),(λg hg=>by cases hg.symm.trans (show Tryz.prog.globalNamed "strconv.ErrRange" = none by kernel_rfl))⟩
theorem contract (H:Type)(enc:TypeId×Value->H)(W:World)(base:Nat)(args:Array Value)(ds gs:List (DataW H))(before:List MemPlace)
 (hval:∀(j:Nat) t v,Tryz.f4.params[j]? = some t->args[j]? = some v->Go.Value.okWide Tryz.prog W .any base t v)
 (hW:DataW.Whole enc Tryz.prog Tryz.f4.params.toList Rows.fnExactUndoOpSpec.vars false W args.toList ds gs before)
 (hS:W.ShapedOpen Tryz.prog) (hL:laidMetH Tryz.prog Rows.fnExactUndoOpRow.laid W) :
 Calls Tryz.prog 4 args W λe W'=>∃v,e = .returned v/\Rows.fnExactUndoOpSpec.post enc Tryz.prog Tryz.f4 false true false false W args v W':=by
 have hW':=hW;obtain⟨p,q,hA0,hV,rfl,hfz,hnd⟩:=hW;have hA:DataW.TrodAll enc Tryz.prog W 0 (λ_=>true) true Tryz.f4.params.toList args.toList ds p:=hA0;rw[Tryz.params4]at hA hval;obtain⟨v0,vs0,d0,ds0,p0,q0,hargs,rfl,rfl,h0,r0⟩:=trodAll_cons hA;obtain⟨v1,vs1,d1,ds1,p1,q1,rfl,rfl,rfl,h1,r1⟩:=trodAll_cons r0;obtain⟨rfl,rfl,rfl⟩:=trodAll_nil r1;obtain rfl:args = #[v0,v1]:=by cases args;simp_all
 obtain⟨rfl,rfl⟩:=trodVars_none hV;clear hA0;simp only[pI]at hW';have hlt:∀x∈(p0++p1),x.block<W.heap.size:=λx hx=>hW'.lt x (by simpa using hx);obtain⟨c0,rfl,_⟩:=okWide_struct Tryz.underlying25 (hval 0 25 v0 rfl rfl);have hk0:=h0;obtain⟨f0,g0⟩:=h0;obtain⟨x0,e0,_,m0⟩:=O4 tyN f0 g0;rw[ai.kU]at e0;obtain⟨c1,rfl,_⟩:=okWide_struct Tryz.underlying27 (hval 1 27 v1 rfl rfl);have hk1:=h1;obtain⟨f1,g1⟩:=h1;obtain⟨x1,e1,_,m1⟩:=ab3 tyO g1;have key:=adB (tabs hS hL) (abM (WN e0) (WN e1)) (ae4 m0 m1);refine Go.Calls.mono key λe W' ⟨he,hb⟩=>?_;subst he;have ht:DataW.TrodAll enc Tryz.prog W' 0 (λb=>decide (b<W.heap.size)) true [25,27] [_,_] [d0,d1] (p0++(p1++[])):=trodAll_cons_mk (Below.trod laidOut (by kernel_rfl) (of_decide_eq_true (by kernel_rfl)) hk0 hb (λx hx=>hlt x (List.mem_append_left _ hx))) (trodAll_cons_mk (Below.trod laidOut (by kernel_rfl) (of_decide_eq_true (by kernel_rfl)) hk1 hb (λx hx=>hlt x (List.mem_append_right _ hx))) (trodAll_mk0));simp only[pI]at ht;exact⟨_,rfl,_,_,_,[],_,[],hW',trodAll_cons_mk (shut_bool Tryz.underlying4 _) trodAll_mk0,
  ht,rfl,hb.frame _,λh=>by cases h⟩
noncomputable def laidWorld (os:Os):World:=Go.World.laidAll Tryz.prog os Rows.fnExactUndoOpRow.laid
theorem laid_met (os:Os):laidMet Tryz.prog Rows.fnExactUndoOpRow.laid ((laidWorld os).forCall (λ_ _=>0) ⟨#[],#[.agg #[.int .i64 0,.int .i64 0,.string ⟨#[]⟩,.slice none 0 0,.slice none 0 0],.agg #[.int .i64 0,.slice none 0 0,.slice none 0 0,.int .i64 0,.int .i64 0,.string ⟨#[]⟩,.slice none 0 0,.slice none 0 0]],[]⟩).memory:=
 laidMet_laidAll _ (by kernel_rfl) (by kernel_rfl)
theorem reads (os:Os){H:Type}(enc:TypeId×Value->H):∃places,Go.DataW.whole enc Tryz.prog ((laidWorld os).forCall (λ_ _=>0) ⟨#[],#[.agg #[.int .i64 0,.int .i64 0,.string ⟨#[]⟩,.slice none 0 0,.slice none 0 0],.agg #[.int .i64 0,.slice none 0 0,.slice none 0 0,.int .i64 0,.int .i64 0,.string ⟨#[]⟩,.slice none 0 0,.slice none 0 0]],[]⟩).memory Tryz.f4.params.toList Rows.fnExactUndoOpSpec.vars false #[.agg #[.int .i64 0,.int .i64 0,.string ⟨#[]⟩,.slice none 0 0,.slice none 0 0],.agg #[.int .i64 0,.slice none 0 0,.slice none 0 0,.int .i64 0,.int .i64 0,.string ⟨#[]⟩,.slice none 0 0,.slice none 0 0]].toList 8=some ([.agg [.lit (.int .i64 0),.lit (.int .i64 0),.lit (.string []),.nil,.nil],.agg [.lit (.int .i64 0),.nil,.nil,.agg [.lit (.int .i64 0),.lit (.int .i64 0),.lit (.string []),.nil,.nil]]],[],places):=
 ⟨[],by kernel_rfl⟩
theorem lifted (os:Os)(started:os.Started)(H:Type)(enc:TypeId×Value->H)(F:Stop.Interp) :
 ReturnsInHanded {} Tryz.checked os 4 .any ((oU Rows.fnExactUndoOpSpec).preRow enc Tryz.prog Tryz.f4 Rows.fnExactUndoOpRow.domain false Rows.fnExactUndoOpRow.laid) (((oU Rows.fnExactUndoOpSpec).at F).post enc Tryz.prog Tryz.f4 false true false false):=by
 obtain⟨places,hx⟩:=reads os enc;refine returnsInHanded_of_row (C:=Tryz.checked) (s:=oU Rows.fnExactUndoOpSpec) own started (by kernel_rfl) Tryz.func4
  (witness_row_atRef (enc:=enc) (C:=Tryz.checked) false (laidWorld os) #[.agg #[.int .i64 0,.int .i64 0,.string ⟨#[]⟩,.slice none 0 0,.slice none 0 0],.agg #[.int .i64 0,.slice none 0 0,.slice none 0 0,.int .i64 0,.int .i64 0,.string ⟨#[]⟩,.slice none 0 0,.slice none 0 0]] (Go.World.laidAll_os _ _ _) (by kernel_rfl) (by kernel_rfl) (by kernel_rfl)
   (Go.OpenSpec.preRow_of_cond 8 hx (by kernel_rfl) (λk hk=>by cases hk) (by kernel_rfl) (laid_met os))) ?_
 intro W base args ds gs before hval hW _ _ _ hL hS _;exact contract H enc W base args ds gs before hval hW hS hL
theorem j1 : (Rows.fnExactUndoOpRow.inPlace==Tryz.prog.inPlace 4)=true:=by kernel_rfl
theorem j2 : (Rows.fnExactUndoOpRow.unfollowed==Tryz.prog.unfollowed 4)=true:=by kernel_rfl
theorem j3 : (Rows.fnExactUndoOpRow.recurses==Tryz.prog.recurses 4)=true:=by kernel_rfl
theorem j4 : (Rows.fnExactUndoOpRow.named==Tryz.prog.varsNamed 4)=true:=by kernel_rfl
theorem j5 : joinedFacts Tryz.prog 4 Tryz.f4 (oU Rows.fnExactUndoOpSpec).bare Rows.fnExactUndoOpRow=true:=by
 unfold joinedFacts;rw[j1,j2,j3,j4]
 kernel_rfl
theorem j6 : Tryz.prog.funcNamed Rows.fnExactUndoOpRow.func=some 4:=by kernel_rfl
theorem said : Rows.FnExactUndoOpSaid:=
 Go.OpenClaim.holds_of_cond 4 Tryz.f4 rfl rfl rfl rfl rfl rfl rfl ⟨rfl,rfl,rfl,rfl,rfl⟩ rfl rfl rfl rfl rfl j6 Tryz.func4 j5
  (of_decide_eq_true (by kernel_rfl)) (by unfold Go.Func.isWrapper;first|(rw[if_pos (by decide +kernel)];kernel_rfl)|(rw[if_neg (by decide +kernel)];exact⟨rfl,rfl⟩))
  (λos started H enc _ F=>by rw[Go.OpenClaim.pre_eq_preRow];exact lifted os started H enc F)
theorem jw : Rows.fnExactUndoOpRow.wfByText (oU Rows.fnExactUndoOpSpec)=true:=by kernel_rfl
theorem jm : Tryz.pinned.checked.prog.mainIs=some (Rows.fnExactUndoOpCard.stood.harness.1,Rows.fnExactUndoOpCard.stood.harness.2.toList):=by kernel_rfl
theorem jg : false=Rows.fnExactUndoOpRow.goesBy Tryz.pinned.checked.prog:=by kernel_rfl
theorem plain (f:FuncId)(fn:Func)(hf:Tryz.pinned.checked.prog.funcNamed Rows.fnExactUndoOpRow.func=some f)(hfn:Tryz.pinned.checked.prog.funcs[f]? = some fn) :
 false=Tryz.pinned.checked.prog.looks []/\∀(j:Nat) t,fn.params[j]? = some t->Tryz.pinned.checked.prog.wantsStandIn t=false:=by
 obtain rfl:f=4:=yO ((show Tryz.prog.funcNamed Rows.fnExactUndoOpRow.func=some 4 by kernel_rfl).symm.trans hf) |>.symm;obtain rfl:fn=Tryz.f4:=(yO (Tryz.func4.symm.trans hfn)).symm;refine⟨by kernel_rfl,λj t ht=>?_⟩;rw[Tryz.params4]at ht;have ht':t=25\/t=27:=by simpa using Array.mem_of_getElem? ht
 rcases ht' with rfl|rfl
 ·exact(show Tryz.prog.wantsStandIn 25=false by kernel_rfl)
 ·exact(show Tryz.prog.wantsStandIn 27=false by kernel_rfl)
theorem card : Rows.FnExactUndoOpCardSaid:=
 Claim7.holds_tied_plain_at .later [] _ _ _ _ said (λ_ h=>by cases h) jw (λ_ h=>by cases h) fnExactUndoOp_row_tie rfl ⟨rfl,rfl⟩ jm rfl plain jg
end Go.Proofs.YtjfeblenfiiofaaGreatDoor.fnExactUndoOp
end
