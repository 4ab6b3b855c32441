/- The law FnExactRunRequests of the package laws answers true for all arguments and leaves them as they are (part 1). Conditions: none but what the row lists. -/
import Derived.Test.YtfengbmckcgbiaaGreatDoorC3
set_option linter.unusedVariables false
set_option linter.unusedSimpArgs false
set_option maxRecDepth 100000
set_option maxHeartbeats 4000000
open Go.Lib renaming pow10Tab->xY
open Go.OpenSpec renaming ofChange->xG
open Go.Proofs.Tryz renaming f4->ED
open List renaming mem_cons->aK,map->ax,not_mem_nil->iW,append_nil->mM
open Option renaming isSome_iff_exists->qx
open Option.some renaming inj->CP
open Prod.mk renaming injEq->dF
section
namespace Go.Ab
open Go
def C.rV : dK:=qs [qX 2 10 0,qB 4 false] [1,2]<|qs [qI 5 1048576] [1,2,5]<|qs [qT 17 2 2,zM 18 5,q2 19 6 17 18,zM 5 19] [1,2,5]<|.seq (qs [zM 20 5,qk 21 .lss 20 0] [1,2,5,21]<|qc 21 (qr [qB 4 true] [4]) .skip)<|qs [zM 22 1,zM 23 5,q2 24 20 22 23,zM 5 24] [1,2,5]<|.seq (qs [zM 25 5,qk 26 .lss 25 0] [1,2,26]<|qc 26 (qr [qB 4 true] [4]) .skip)<|qs [qT 28 2 2,q1 29 9 28,zM 30 1,q1 31 22 30,q2 32 21 29 31,zM 27 32,qE 33 27 0,qE 34 27 1,zA 6 (.alloc 11 [.og 7,qy 0]),qS 2 6 33,zM 7 34] [1,2,6,7]<|qs [qT 35 2 2,q1 36 9 35,zA 8 (.alloc 12 [.og 7,qy 0]),qS 2 8 36] [1,2,6,7,8]<|qs [zM 37 1,q1 38 22 37,zM 9 38] [1,2,6,7,8,9]<|qs [qT 40 2 8,zM 41 9,q2 42 23 40 41,zM 39 42,qE 43 39 0,qE 44 39 1,zA 10 (.alloc 13 [.og 7,qy 0]),qS 2 10 43,zM 11 44] [1,2,6,7,8,9,10,11]<|.seq (qs [qT 45 2 10,qT 46 2 6,q2 47 12 45 46,qO 48 47,zM 49 48,qm 49 false 50 11,qm 49 false 51 7,⟨(some (49,false)),some 52,.call 24 [.t 50,.t 51]⟩,zG 49 false 53 (.not<|.t 52),qQ 54 49 53] [1,2,6,7,8,9,10,11,54]<|qc 54 (qr [qB 4 false] [4]) .skip)<|.seq (.seq (.uC [(qT 55 2 8,[]),(qT 56 2 2,[]),(q1 57 9 56,[1]),(q2 58 12 55 57,[0,1,2]),(qO 59 58,PO)] [1,2,6,7,8,9,10,11,59])<|qc 59 (qr [qB 4 false] [4]) .skip)<|.seq (qs [zM 60 9,zM 61 1,q1 62 22 61,q2 63 25 60 62,qO 64 63] [1,2,6,7,8,9,10,11,64]<|qc 64 (qr [qB 4 false] [4]) .skip)<|qs [qI 12 1] [1,2,6,7,8,9,10,11,12]<|qs [qT 65 2 8,zM 66 12,q2 67 15 65 66,zM 12 67] [1,2,6,7,9,10,11,12]<|qs [zM 68 9,zM 69 12,q2 70 26 68 69,zM 12 70] [1,2,6,7,10,11,12]<|.seq (qs [zM 71 12,qk 72 .lss 71 0,zM 73 72,zG 73 false 74 (.load true 2<|.t 10),zG 73 false 75 (.load true 2<|.t 6),⟨(some (73,false)),some 76,.call 12 [.t 74,.t 75]⟩,zG 73 false 77 (.not<|.t 76),qQ 78 73 77,zM 79 78,qm 79 false 80 11,qm 79 false 81 7,⟨(some (79,false)),some 82,.call 24 [.t 80,.t 81]⟩,zG 79 false 83 (.not<|.t 82),qQ 84 79 83] [1,2,6,7,10,11,84]<|qc 84 (qr [qB 4 false] [4]) .skip)<|qs [qI 13 1] [1,2,6,7,10,11,13]<|qs [qT 85 2 10,zM 86 13,q2 87 15 85 86,zM 13 87] [1,2,6,7,10,11,13]<|qs [zM 88 11,zM 89 13,q2 90 27 88 89,zM 13 90] [1,2,6,7,10,11,13]<|qs [qI 14 1] [1,2,6,7,10,11,13,14]<|qs [qT 91 2 10,zM 92 14,q2 93 18 91 92,zM 14 93] [1,2,6,7,10,11,13,14]<|.seq (qs [zM 94 14,qk 95 .lss 94 0] [1,2,6,7,10,11,13,14,95]<|qc 95 (qr [qB 4 false] [4]) .skip)<|qs [zM 96 11,zM 97 14,q2 98 28 96 97,zM 14 98] [1,2,6,7,10,11,13,14]<|.seq (qs [zM 99 14,qk 100 .lss 99 0] [1,2,6,7,10,11,13,14,100]<|qc 100 (qr [qB 4 false] [4]) .skip)<|.seq (qs [zM 101 14,zM 102 13,qb 103 .neq 101 102] [1,2,6,7,10,11,13,103]<|qc 103 (qr [qB 4 false] [4]) .skip)<|qs [qT 105 2 2,q1 106 9 105,zM 107 1,q1 108 22 107,q2 109 23 106 108,zM 104 109,qE 110 104 0,qE 111 104 1,zA 15 (.alloc 14 [.og 7,qy 0]),qS 2 15 110,zM 16 111] [6,7,10,11,13,15,16]<|.seq (qs [qT 112 2 15,qT 113 2 6,q2 114 12 112 113,qO 115 114,zM 116 115,qm 116 false 117 16,qm 116 false 118 7,⟨(some (116,false)),some 119,.call 24 [.t 117,.t 118]⟩,zG 116 false 120 (.not<|.t 119),qQ 121 116 120] [10,11,13,121]<|qc 121 (qr [qB 4 false] [4]) .skip)<|qs [qI 14 1] [10,11,13,14]<|qs [qT 122 2 10,zM 123 14,q2 124 18 122 123,zM 14 124] [11,13,14]<|.seq (qs [zM 125 14,qk 126 .lss 125 0] [11,13,14,126]<|qc 126 (qr [qB 4 false] [4]) .skip)<|qs [zM 127 11,zM 128 14,q2 129 28 127 128,zM 14 129] [13,14]<|.seq (qs [zM 130 14,qk 131 .lss 130 0] [13,14,131]<|qc 131 (qr [qB 4 false] [4]) .skip)<|.seq (qs [zM 132 14,zM 133 13,qb 134 .neq 132 133] [134]<|qc 134 (qr [qB 4 false] [4]) .skip)<|qr [qB 4 true] [4]
noncomputable abbrev BD : Program:=Go.Proofs.Tryz.prog
noncomputable abbrev Jp : Func:=ED
noncomputable abbrev aee : Code:=(ED.body).getD .skip
theorem U4 : ED.body=some aee:=lT
theorem aiu : xx BD 135 0 aee C.rV=true:=lT
def Y8 : FI
 |56=>some (25,1,[.str 0])
 |67=>some (37,5,[.int 0,.int 1,.str 2,.sub 3 56,.sub 4 67])
 |58=>some (45,8,[.int 0,.sub 1 56,.sub 2 56,.int 3,.int 4,.str 5,.sub 6 56,.sub 7 67])
 |55=>some (34,7,P6 56 67)
 |27=>some (58,8,KP 56 67)
 |26=>some (61,10,MJ 56 67 58)
 |_=>none
def Wu : ab5
 |15=>some (2,[.sl 0 55])
 |_=>none
theorem QH (f:Nat)(h:(Y8 f).isSome=true):acz BD 66 Y8 f=true:=by
 unfold Y8 at h;split at h
 ·kernel_rfl
 ·kernel_rfl
 ·kernel_rfl
 ·kernel_rfl
 ·kernel_rfl
 ·kernel_rfl
 ·cases h
theorem QZ (f:Nat)(h:(Wu f).isSome=true):akt BD Wu f=true:=by
 unfold Wu at h;split at h
 ·kernel_rfl
 ·cases h
theorem UK : LP BD 66 tx:=λk h0 h1=>by obtain⟨n,hn⟩:=(WI ⟨h0,h1⟩).val;exact F.jh hn
theorem Y7 : MT Y8 56 67 25 37:=⟨rfl,rfl⟩
theorem aqk : xO BD 25=1:=lT
theorem aql : xO BD 37=5:=lT
theorem aqm : oD BD 37=[(3,25),(4,37)]:=lT
theorem aqn : xO BD 45=8:=lT
theorem aqo : oD BD 45=[(1,25),(2,25),(6,25),(7,37)]:=lT
theorem als : TyH BD 25 37 45:=⟨aqk,aql,aqm,aqn,aqo⟩
theorem abQ : xO BD 34=7:=lT
theorem Ye : oD BD 34=[(5,25),(6,37)]:=lT
theorem abR : xO BD 61=10:=lT
theorem ZL : oD BD 61=[(2,25),(3,25),(7,25),(8,37),(9,45)]:=lT
theorem ZK : xO BD 58=8:=lT
theorem Xn : oD BD 58=[(6,25),(7,37)]:=lT
noncomputable abbrev ahG : Code:=LW 7 aee
abbrev Jl : dK:=C.rV
abbrev UY : dK:=Qg 7 Jl
noncomputable abbrev alE : Code:=LW 7 ahG
noncomputable abbrev alF : Code:=LW 1 alE
noncomputable abbrev ahF : Code:=LW 1 alF
noncomputable abbrev alG : Code:=LW 2 ahF
noncomputable abbrev alH : Code:=LW 1 alG
noncomputable abbrev anS : Code:=LW 1 alH
abbrev Xp : dK:=Qg 2 (Qg 7 UY)
abbrev ahp : dK:=Qg 2 (Qg 2 Xp)
theorem apW : xx BD 135 0 ahG UY=true:=lT
theorem apY : xx BD 135 0 ahF Xp=true:=lT
theorem apZ : xx BD 135 0 anS ahp=true:=lT
def Kq : List OF:=[.vp 8 8 0,.row 8 ⟨0,34,100800⟩,.ref 9 ⟨0,61,200900⟩,.vp 10 10 0,.row 10 ⟨0,34,101000⟩,.ref 11 ⟨0,58,201100⟩]
theorem aoG : (I7 BD [] 7 aee Jl []).isSome=true:=lT
theorem ap2 : (match I7 BD [1,2,6,7] 7 ahG UY []with|some Γ =>Kq.all Γ.contains|none=>false)=true:=lT
theorem ap3 : (I7 BD [1,2,6,7,10,11] 2 ahF Xp []).isSome=true:=lT
theorem aoE : Sv BD 135 alE=some (some 2,8,12,15,[65,66,67,12]):=lT
theorem aoF : Sv BD 135 alF=some (none,9,12,26,[68,69,70,12]):=lT
theorem aoy : Sv BD 135 alG=some (some 2,10,13,15,[85,86,87,13]):=lT
theorem aoz : Sv BD 135 alH=some (none,11,13,27,[88,89,90,13]):=lT
structure PS (n:bU)(o:List bn)(p0:bU)(p1:List bP)(l1 l2:Int):Prop where
 s0:∃m,G.sW m n 1048576=some l1
 c0:decide (l1<0)=false
 t0:∃m,G.vT m n=some n
 a0:∃m,G.uy m n n=some true
 k0:yU n.bH<1000000000
 s1:∃m,G.jQ m o l1=some l2
 c1:decide (l2<0)=false
 t1:∃m,G.kS m o=some o
 a1:∃m,G.lH m o o=some true
 k1:DW o<1000000000
 w:∃m,G.iQ m n o=some (p0,p1)
 g:∃m,G.lF m n o=some (p0,p1)
 e0:∃m,G.uy m p0 p0=some true
 h0:∃m,G.vH m (adl p0 1) 1=some (1+(yU p0.bH:Int))
 q0:yU p0.bH<1000000000
 e1:∃m,G.jS m p1 p1=some true
 h1:∃m,G.jE m (Js p1 (1+(yU p0.bH:Int))) (1+(yU p0.bH:Int))=some (1+(yU p0.bH:Int)+(Aj p1:Int))
 q1:Aj p1<1000000000
abbrev OZ (n:bU):List AC:=[.c (.sl 7 (ax fA.cells n.bH)),.c (.lit (.int .i64 n.kY))]
abbrev ahk (n:bU):List Cell:=[.sl 7 (ax fA.cells n.bH),.lit (.int .i64 n.kY)]
abbrev Hf (n:bU):Slot:=.v true (.one (.Ik (ahk n)))
abbrev Jj (n:List bn):Slot:=.v true (.one (.c (.sl 10 (ax bn.cells n))))
abbrev FK (n:List bP):Slot:=.v true (.one (.c (.sl 8 (ax bP.cells n))))
abbrev apc (b:Bool):Slot:=.v true (.one (.c (.lit (.bool b))))
abbrev RY (k:Int):Slot:=.v true (.one (.c (.lit (.int .i64 k))))
theorem aoZ {n:bU}{o:List bn}{p0:bU}{p1:List bP}{l1 l2:Int}(F0:PS n o p0 p1 l1 l2){K:gZ->Prop}(zf:ahg K (gZ.of [(1,Jj o),(2,.v true (.one (.ptr 10 0))),(6,.v true (.one (.ptr 11 0))),(7,FK p1)] [(10,.var (OZ n)),(11,.var (OZ p0))])):wpC BD (takeA 7 Jl) (QA K RL) (st0 [.agg (OZ n),.one (.c (.sl 10 (ax bn.cells o)))] []):=by
 obtain⟨_,h1⟩:=F0.s0;obtain⟨_,h2⟩:=F0.s1;obtain⟨_,h3⟩:=F0.t0;obtain⟨_,h4⟩:=F0.t1;obtain⟨_,h5⟩:=F0.w;have zc:=pp (F.sW h1) <|pp (F.jQ h2) <|pp (F.vT h3) <|pp (F.kS h4) <|pp (F.iQ h5) <|()
 have c0:=F0.c0;have c1:=F0.c1;clear F0;refine ug ?_;unfold Jl C.rV;simp only[takeA];exact afJ
theorem ao0 {n:bU}{o:List bn}{p0:bU}{p1:List bP}{l1 l2:Int}(F0:PS n o p0 p1 l1 l2){K:gZ->Prop}(zf:ahg K (gZ.of [(1,Jj o),(2,Hf n),(6,Hf p0),(7,FK p1),(8,.v true (.one (.ptr 12 0))),(9,Jj o),(10,.v true (.one (.ptr 13 0))),(11,FK p1),(12,RY 1)] [(12,.var (OZ n)),(13,.var (OZ p0))])):wpC BD (takeA 7 UY) (QA K RL) (gZ.of [(1,Jj o),(2,Hf n),(6,Hf p0),(7,FK p1)] []):=by
 obtain⟨_,h1⟩:=F0.t0;obtain⟨_,h2⟩:=F0.t1;obtain⟨_,h3⟩:=F0.g;obtain⟨_,h4⟩:=F0.e0;obtain⟨_,h5⟩:=F0.e1;obtain⟨_,h6⟩:=F0.a0;obtain⟨_,h7⟩:=F0.a1;have zc:=pp (F.vT h1) <|pp (F.kS h2) <|pp (F.lF h3) <|pp (F.uy h4) <|pp (F.jS h5) <|pp (F.uy h6) <|pp (F.lH h7) <|()
 clear F0;refine ug ?_;unfold UY Jl C.rV;simp only[takeA,Qg];exact afJ
theorem ao1 {n:bU}{o:List bn}{p0:bU}{p1:List bP}{l1 l2:Int}{k:Int}(F0:PS n o p0 p1 l1 l2)(hk:decide (k<0)=false){K:gZ->Prop}(zf:ahg K (gZ.of [(1,Jj o),(2,Hf n),(6,Hf p0),(7,FK p1),(10,Hf p0),(11,FK p1),(13,RY 1)] [])):wpC BD (takeA 2 Xp) (QA K RL) (gZ.of [(1,Jj o),(2,Hf n),(6,Hf p0),(7,FK p1),(10,Hf p0),(11,FK p1),(12,RY k)] []):=by
 obtain⟨_,h1⟩:=F0.e0;obtain⟨_,h2⟩:=F0.e1;have zc:=pp (F.uy h1) <|pp (F.jS h2) <|()
 clear F0;refine ug ?_;unfold Xp UY Jl C.rV;simp only[takeA,Qg];exact afJ
theorem ao2 {n:bU}{o:List bn}{p0:bU}{p1:List bP}{l1 l2:Int}(F0:PS n o p0 p1 l1 l2):wpC BD ahp (QF [.tmp 4] 0 (λr bs=>r=xW true/\bs=[])) (gZ.of [(1,Jj o),(2,Hf n),(6,Hf p0),(7,FK p1),(10,Hf (adl p0 1)),(11,FK (Js p1 (1+(yU p0.bH:Int)))),(13,RY (1+(yU p0.bH:Int)+(Aj p1:Int)))] []):=by
 obtain⟨_,h1⟩:=F0.t0;obtain⟨_,h2⟩:=F0.t1;obtain⟨_,h3⟩:=F0.g;obtain⟨_,h4⟩:=F0.e0;obtain⟨_,h5⟩:=F0.e1;obtain⟨_,h6⟩:=F0.h0;obtain⟨_,h7⟩:=F0.h1;have zc:=pp (F.vT h1) <|pp (F.kS h2) <|pp (F.lF h3) <|pp (F.uy h4) <|pp (F.jS h5) <|pp (F.vH h6) <|pp (F.jE h7) <|()
 have hk0:decide (1+(yU p0.bH:Int)<0)=false:=bg aI;have hk1:decide (1+(yU p0.bH:Int)+(Aj p1:Int)<0)=false:=bg aI;clear F0;refine ug ?_;unfold ahp Xp UY Jl C.rV;simp only[Qg];exact afJ
theorem ao3 {n:bU}{o:List bn}{l1:Int}{K:gZ->Prop}(h0:∃m,G.sW m n 1048576=some l1)(hk0:decide (l1<0)=true):wpC BD (takeA 7 Jl) (QA K RL) (st0 [.agg (OZ n),.one (.c (.sl 10 (ax bn.cells o)))] []):=by
 obtain⟨_,j0⟩:=h0;have zc:=pp (F.sW j0) <|()
 have zf:=();refine ug ?_;unfold Jl C.rV;simp only[takeA];exact afJ
theorem ao4 {n:bU}{o:List bn}{l1 l2:Int}{K:gZ->Prop}(h0:∃m,G.sW m n 1048576=some l1)(hk0:decide (l1<0)=false)(h1:∃m,G.jQ m o l1=some l2)(hk1:decide (l2<0)=true):wpC BD (takeA 7 Jl) (QA K RL) (st0 [.agg (OZ n),.one (.c (.sl 10 (ax bn.cells o)))] []):=by
 obtain⟨_,j0⟩:=h0;obtain⟨_,j1⟩:=h1;have zc:=pp (F.sW j0) <|pp (F.jQ j1) <|()
 have zf:=();refine ug ?_;unfold Jl C.rV;simp only[takeA];exact afJ
theorem aeX {S:Slot}{I:IH}{ρ:Ren}{v:Value}{x:Value}(h:GSl I ρ v S)(e:S = .v true (.one (.c (.lit x)))):v=x:=by subst e;have h1:=h.1 rfl;cases h1;rfl
theorem amQ {n:bU}{o:List bn}{p0:bU}{p1:List bP}{l1 l2:Int}(F0:PS n o p0 p1 l1 l2):fE BD 4 [.agg (OZ n),.one (.c (.sl 10 (ax bn.cells o)))] (xW true):=by
 have hcr:EP BD Jp.ntmps Jp.results.toList [.tmp 4]=true:=by kernel_rfl
 obtain⟨Γ0,oA'⟩:=qx.1 aoG;refine af6 (fn:=Jp) (ac:=Jl) lT U4 lT (by show 2<=Jp.ntmps;exact(by kernel_rfl:decide (2<=Jp.ntmps)=true) |> of_decide_eq_true) hcr aiu oA' (λK zf=>aoZ F0 zf) ?_;intro w0 wA JA I ρ g a w A;obtain⟨hT,hG⟩:=A.gx;have hJ:=UL (V:=ank ρ (gZ.of [(1,Jj o),(2,.v true (.one (.ptr 10 0))),(6,.v true (.one (.ptr 11 0))),(7,FK p1)] [(10,.var (OZ n)),(11,.var (OZ p0))])) hG.agree;have s1:=ajq (x:=1) (c:=.sl 10 (ax bn.cells o)) hG xM rfl hJ;have s2:=abw (x:=2) (b:=10) (cs:=ahk n) hG xM rfl rfl rfl;have s6:=abw (x:=6) (b:=11) (cs:=ahk p0) hG xM rfl rfl rfl;have s7:=ajq (x:=7) (c:=.sl 8 (ax bP.cells p1)) hG xM rfl hJ;have hA:=PL (V:=ank ρ (gZ.of [(1,Jj o),(2,.v true (.one (.ptr 10 0))),(6,.v true (.one (.ptr 11 0))),(7,FK p1)] [(10,.var (OZ n)),(11,.var (OZ p0))])) hG.agree;generalize I.with w _=JB at hJ s1 s2 s6 s7 hA;have hM:Mid BD Jp.ntmps w0 JB [(1,Jj o),(2,Hf n),(6,Hf p0),(7,FK p1)] a w:=⟨A.tabs.mono (IH.le_trans A.Nh hJ),hA,λt s hs=>by
  simp only[aK,dF,iW,or_false]at hs;rcases hs with⟨rfl,rfl⟩|⟨rfl,rfl⟩|⟨rfl,rfl⟩|⟨rfl,rfl⟩
  ·exact s1
  ·exact s2
  ·exact s6
  ·exact s7,hG.size,hG.defers,A.DK⟩
 clear A hG s1 s2 s6 s7 hJ hA;have hsz:=hM.DK.size;have hB:=ap2;split at hB
 case h_2=>cases hB
 rename_i ΓB oB';refine XM hcr (pa:=[(1,a.tmps.getD 1 undef),(2,a.tmps.getD 2 undef),(6,a.tmps.getD 6 undef),(7,a.tmps.getD 7 undef)]) (pl:=[1,2,6,7]) hM mD (by intro e he;simp only[aK,iW,or_false]at he;rcases he with rfl|rfl|rfl|rfl<;>rfl) apW oB' (λK zf=>ao0 F0 zf) ?_
 intro I1 ρ1 g1 a1 w1 A;have hmem:∀f,f∈Kq->f ∈ ΓB:=λf hf=>by have:=List.all_eq_true.1 hB f hf;simpa using this
 obtain⟨hT1,hG⟩:=A.gx;obtain⟨k8,v8,e8,p8,q8,n8,r8,⟨_,_,_,u8⟩,g8⟩:=Yb (x:=8) (b:=12) (cs:=ahk n) (rows:=[(0,34,100800)]) hG A.ow xM rfl rfl rfl (hmem _ (by simp[Kq])) (λr hr=>hmem _ (by revert r;decide));obtain⟨r9,g9⟩:=Ya (x:=9) (T:=61) (m:=200900) (c:=.sl 10 (ax bn.cells o)) hG A.ow xM rfl (hmem _ (by simp[Kq]));obtain⟨v9,p9⟩:∃v,a1.tmps.getD 9 undef=v:=⟨_,rfl⟩;rw[p9]at r9 g9;obtain⟨k10,v10,e10,p10,q10,n10,r10,⟨_,_,_,u10⟩,g10⟩:=Yb (x:=10) (b:=13) (cs:=ahk p0) (rows:=[(0,34,101000)]) hG A.ow xM rfl rfl rfl (hmem _ (by simp[Kq])) (λr hr=>hmem _ (by revert r;decide));obtain⟨r11,g11⟩:=Ya (x:=11) (T:=58) (m:=201100) (c:=.sl 8 (ax bP.cells p1)) hG A.ow xM rfl (hmem _ (by simp[Kq]));obtain⟨v11,p11⟩:∃v,a1.tmps.getD 11 undef=v:=⟨_,rfl⟩;rw[p11]at r11 g11;have S8:=aeV A.ow.good A.tabs A.PN A.old A.ag n8 r8 xM g8 (aan als abQ Ye n _);have S9:=aeV (vs:=[v9]) (cs:=[Cell.sl 10 (ax bn.cells o)]) (rows:=[(0,61,200900)]) A.ow.good A.tabs A.PN A.old A.ag rfl (ajd r9) xM (ah5 g9) (aef (ZF als abR ZL o));have S10:=aeV A.ow.good A.tabs A.PN A.old A.ag n10 r10 xM g10 (aan als abQ Ye p0 _);have S11:=aeV (vs:=[v11]) (cs:=[Cell.sl 8 (ax bP.cells p1)]) (rows:=[(0,58,201100)]) A.ow.good A.tabs A.PN A.old A.ag rfl (ajd r11) xM (ah5 g11) (aef (Xk als ZK Xn p1));have K0:Mks BD Jp.ntmps w0 w JB I1 g1 a1 w1:=⟨A.new,A.afQ.size,A.old,A.Nh,A.ag,hG.size,hG.defers,A.DK,hsz⟩;have c0:=aeX (hG.tm 12 xM) rfl;refine Qx K0 S8 aoE (aeq (p8) q8 n8) c0 (Xo.any (Pe (QZ 15 rfl) rfl (aby QH QZ UK (abz (sb:=Wu) (ty:=tyR [(0,34,100800)]) (fI:=55) (tI:=34) Y7 rfl rfl n aI (by have:=F0.k0;have:=F0.k1;have:=F0.q0;have:=F0.q1;omega))))) ?_;intro b1 y1 J1 K1 S8 c1 tk1 fr1 kp1;have S9:=kp1 S9 (apart xM xM xM);have S10:=kp1 S10 (apart xM xM xM);have S11:=kp1 S11 (apart xM xM xM);have q8:=(fr1 _ _ _ _ u8).trans q8;have q10:=(fr1 _ _ _ _ u10).trans q10;refine Qx K1 S9 aoF (aep ((tk1 9 xM).trans (p9))) c1 (abx QH UK (adi Y7 rfl rfl o aI (by have:=F0.k0;have:=F0.k1;have:=F0.q0;have:=F0.q1;omega)) ⟨_,_,rfl⟩) ?_;intro b2 y2 J2 K2 S9 c2 tk2 fr2 kp2;have S10:=kp2 S10 (apart xM xM xM);have S11:=kp2 S11 (apart xM xM xM);have q10:=(fr2 _ _ _ _ u10).trans q10;have tk:∀t,t ∉ [65,66,67,12,68,69,70]->b2.tmps.getD t undef=a1.tmps.getD t undef:=λt ht=>by simp only[aK,iW,or_false,not_or]at ht;rw[tk2 t (by simp;omega),tk1 t (by simp;omega)]
 have hJ:=UL (V:=λk=>k=k10) K2.ag;have hA:=PL (V:=λk=>k=k10) K2.ag;have aok:=WL (I:=J2) (V:=λk=>k=k10) rfl q10;generalize J2.with y2 _=JC at hJ hA aok;have hJ':=IH.le_trans K2.Nh hJ;have hM3:Mid BD Jp.ntmps w0 JC [(1,Jj o),(2,Hf n),(6,Hf p0),(7,FK p1),(10,Hf p0),(11,FK p1),(12,RY (1+yU n.bH+DW o))] b2 y2:=⟨hM.tabs.mono hJ',hA,λt s hs=>by
  simp only[aK,dF,iW,or_false]at hs;have base:∀t s,(t,s)∈[(1,Jj o),(2,Hf n),(6,Hf p0),(7,FK p1)]->t ∉ [65,66,67,12,68,69,70]->(t,a.tmps.getD t undef)∈[(1,a.tmps.getD 1 undef),(2,a.tmps.getD 2 undef),(6,a.tmps.getD 6 undef),(7,a.tmps.getD 7 undef)]->GSl JC Yi (b2.tmps.getD t undef) s:=λt s h1 h2 h3=>by rw[tk t h2,A.pa _ h3];exact(hM.sl t s h1).mono hJ' (λ_ _ h=>h)
  rcases hs with⟨rfl,rfl⟩|⟨rfl,rfl⟩|⟨rfl,rfl⟩|⟨rfl,rfl⟩|⟨rfl,rfl⟩|⟨rfl,rfl⟩|⟨rfl,rfl⟩
  iterate 4 exact base _ _ mD xM mD
  ·rw[tk 10 xM];exact Td (p10) aok n10 λj v c hv hc=>(S10.rd j v c hv hc).mono hJ
  ·rw[tk 11 xM];exact aeR ((S11.rd 0 _ _ rfl rfl).mono hJ) (p11)
  ·rw[c2];exact⟨λ_=>.lit _ rfl,λe=>by cases e⟩,K2.size,K2.defers,K2.DK⟩
 obtain⟨ΓE,oE'⟩:=qx.1 ap3;refine XM hcr (pa:=[(1,b2.tmps.getD 1 undef),(2,b2.tmps.getD 2 undef),(6,b2.tmps.getD 6 undef),(7,b2.tmps.getD 7 undef),(10,b2.tmps.getD 10 undef),(11,b2.tmps.getD 11 undef)]) (pl:=[1,2,6,7,10,11]) hM3 mD (by intro e he;simp only[aK,iW,or_false]at he;rcases he with rfl|rfl|rfl|rfl|rfl|rfl<;>rfl) apY oE' (λK zf=>ao1 F0 (bg aI) zf) ?_
 intro I4 ρ4 g4 a4 w4 A4;obtain⟨hT4,hG4⟩:=A4.gx;have S10:=S10.quiet A4.afQ;have q10:=(A4.afQ.block _ (Aa q10) λh=>h).trans q10;have z10:=(A4.pa (10,b2.tmps.getD 10 undef) mD).trans ((tk 10 xM).trans p10);have S11:=S11.quiet A4.afQ;have z11:=(A4.pa (11,b2.tmps.getD 11 undef) mD).trans ((tk 11 xM).trans p11);have c3:=aeX (hG4.tm 13 xM) rfl;have K3:Mks BD Jp.ntmps w0 w JB J2 g1 a4 w4:=⟨K2.new,Nat.le_trans K2.sz A4.afQ.size,K2.old,K2.Nh,K2.ag.quiet A4.afQ,hG4.size,hG4.defers,A4.DK,K2.sz0⟩;refine Qx K3 S10 aoy (aeq (z10) q10 n10) c3 (Xo.any (Pe (QZ 15 rfl) rfl (aby QH QZ UK (abz (sb:=Wu) (ty:=tyR [(0,34,101000)]) (fI:=55) (tI:=34) Y7 rfl rfl p0 aI (by have:=F0.k0;have:=F0.k1;have:=F0.q0;have:=F0.q1;omega))))) ?_;intro b4 y4 J4 K4 S10 c4 tk4 fr4 kp4;have S11:=kp4 S11 (apart xM xM xM);have q10:=(fr4 _ _ _ _ u10).trans q10;refine Qx K4 S11 aoz (aep ((tk4 11 xM).trans (z11))) c4 (abx QH UK (aaV Y7 rfl p1 aI (by have:=F0.k0;have:=F0.k1;have:=F0.q0;have:=F0.q1;omega)) ⟨_,_,rfl⟩) ?_;intro b5 y5 J5 K5 S11 c5 tk5 fr5 kp5;have S10:=kp5 S10 (apart xM xM xM);have q10:=(fr5 _ _ _ _ u10).trans q10;have tg:∀t,t ∉ [85,86,87,13,88,89,90]->b5.tmps.getD t undef=a4.tmps.getD t undef:=λt ht=>by simp only[aK,iW,or_false,not_or]at ht;rw[tk5 t (by simp;omega),tk4 t (by simp;omega)]
 have hJ5:=UL (V:=λk=>k=k10) K5.ag;have hA5:=PL (V:=λk=>k=k10) K5.ag;have aom:=WL (I:=J5) (V:=λk=>k=k10) rfl q10;generalize J5.with y5 _=JD at hJ5 hA5 aom;have an3:=IH.le_trans K5.Nh hJ5;refine aiA hcr (ts:=[(1,Jj o),(2,Hf n),(6,Hf p0),(7,FK p1),(10,Hf (adl p0 1)),(11,FK (Js p1 (1+(yU p0.bH:Int)))),(13,RY (1+(yU p0.bH:Int)+(Aj p1:Int)))]) ⟨hM.tabs.mono an3,hA5,λt s hs=>?_,K5.size,K5.defers,K5.DK⟩ apZ (ao2 F0);simp only[aK,dF,iW,or_false]at hs;have base:∀t s,(t,s)∈[(1,Jj o),(2,Hf n),(6,Hf p0),(7,FK p1)]->t ∉ [65,66,67,12,68,69,70]->t ∉ [85,86,87,13,88,89,90]->(t,b2.tmps.getD t undef)∈[(1,b2.tmps.getD 1 undef),(2,b2.tmps.getD 2 undef),(6,b2.tmps.getD 6 undef),(7,b2.tmps.getD 7 undef),(10,b2.tmps.getD 10 undef),(11,b2.tmps.getD 11 undef)]->(t,a.tmps.getD t undef)∈[(1,a.tmps.getD 1 undef),(2,a.tmps.getD 2 undef),(6,a.tmps.getD 6 undef),(7,a.tmps.getD 7 undef)]->GSl JD Yi (b5.tmps.getD t undef) s:=λt s h1 h2 h3 h4 h5=>by
  rw[tg t h3,A4.pa _ h4]
  dsimp only
  rw[tk t h2,A.pa _ h5];exact(hM.sl t s h1).mono an3 (λ_ _ h=>h)
 rcases hs with⟨rfl,rfl⟩|⟨rfl,rfl⟩|⟨rfl,rfl⟩|⟨rfl,rfl⟩|⟨rfl,rfl⟩|⟨rfl,rfl⟩|⟨rfl,rfl⟩
 iterate 4 exact base _ _ mD xM xM mD mD
 ·rw[tg 10 xM];exact Td (z10) aom n10 λj v c hv hc=>(S10.rd j v c hv hc).mono hJ5
 ·rw[tg 11 xM];exact aeR ((S11.rd 0 _ _ rfl rfl).mono hJ5) (z11)
 ·rw[c5];exact⟨λ_=>.lit _ rfl,λe=>by cases e⟩
theorem aeh {n:bU}{o:List bn}(hw:wpC BD (takeA 7 Jl) (QA (λ_=>False) RL) (st0 [.agg (OZ n),.one (.c (.sl 10 (ax bn.cells o)))] [])):fE BD 4 [.agg (OZ n),.one (.c (.sl 10 (ax bn.cells o)))] (xW true):=by
 have hcr:EP BD Jp.ntmps Jp.results.toList [.tmp 4]=true:=by kernel_rfl
 obtain⟨Γ0,oA'⟩:=qx.1 aoG;exact af5 (fn:=Jp) (ac:=Jl) lT U4 lT (by show 2<=Jp.ntmps;exact(by kernel_rfl:decide (2<=Jp.ntmps)=true) |> of_decide_eq_true) hcr aiu oA' hw
theorem aot {n:bU}{o:List bn}{D:Nat}(hn1:n.bH.length<=mx)(hn2:∀x,x∈n.bH->Yl mx D x)(ho1:o.length<=mx)(ho2:∀x,x∈o->∃E,ae8 E x):fE BD 4 [.agg (OZ n),.one (.c (.sl 10 (ax bn.cells o)))] (xW true):=by
 obtain⟨l1,h1,b1,f1⟩:=T.ajw hn1 hn2 (left:=1048576) xM xM;by_cases c1:l1<0
 ·exact aeh (ao3 h1.val (dW c1))
 obtain⟨l2,h2,b2,f2⟩:=T.abD ho1 ho2 (left:=l1) aI aI;by_cases c2:l2<0
 ·exact aeh (ao4 h1.val (bg c1) h2.val (dW c2))
 obtain⟨f1,k1⟩:=f1 aI;obtain⟨f2,k2⟩:=f2 aI;obtain⟨r1,r2⟩:=ajh n o;have r3:=ZR.k r2.r;have r3':JH uX _<=_:=r3;have r4:=r2.len;have m1:=Nv n.bH;have m3:=Nv (Ot n o).1.bH;have r5:=r1.k;have r6:=r1.l;exact amQ (p0:=(Ot n o).1) (p1:=(Ot n o).2) {
  s0:=h1.val,c0:=bg c1,t0:=(T.aln f1).val,a0:=(T.aei f1).val,k0:=by omega
  s1:=h2.val,c1:=bg c2,t1:=(T.adP f2).val,a1:=(T.acL f2).val,k1:=by omega
  w:=(T0.iQ f1 f2).val,g:=(T0.lF f1 f2).val
  e0:=(T.aei r1.f).val,h0:=(T.afX _ aI aI aI).val,q0:=by omega
  e1:=(T.aap r2).val,h1:=(T.WY _ aI aI aI).val,q1:=by omega }
end Go.Ab
namespace Go.Proofs.YtfengbmckcgbiaaGreatDoor.fnExactRunRequests
open Go Go.ChangeShapes Go.WideShapes Go.ChangeAt Go.RowKit Go.Ab
theorem own : ownKnob Tryz.prog.godebug=none:=lT
theorem laidOut : laidOutB Tryz.prog=true:=lT
theorem tyN : Uz Tryz.prog 3 9 25 28 26:=⟨lT,lT,lT,lT,⟨_,Tryz.underlying28,lT⟩,lT,lT,lT,lT,lT⟩
theorem tyO : ad4 Tryz.prog 3 9 25 28 26 107 29:=⟨tyN,lT,⟨_,Tryz.underlying107,lT⟩,lT,lT⟩
theorem tyT : ab6 Tryz.prog 3 9 25 28 26 103 22 24:=⟨tyN,⟨_,Tryz.underlying103,lT⟩,lT,⟨_,Tryz.underlying24,lT⟩,lT,lT,lT⟩
theorem tyR : ab4 Tryz.prog 3 9 25 28 26 107 29 31:=⟨tyO,⟨_,Tryz.underlying31,lT⟩,lT⟩
theorem met {W:World}(h:laidMetH Tryz.prog Rows.fnExactRunRequestsRow.laid W):laidMet Tryz.prog Rows.fnExactRunRequestsRow.laid W:=by unfold laidMetH at h;rw[show(Rows.fnExactRunRequestsRow.laid.filter λx=>x.2.handleName?.isSome)=[]from by kernel_rfl]at h;exact h
theorem aqb {W:World} (hL:laidMetH Tryz.prog Rows.fnExactRunRequestsRow.laid W):∀g,Tryz.prog.globalNamed "internal/strconv.uint64pow10" = some g->I0 W g=some (xY.map λz=>Go.Value.int .u64 z).toArray:=by
 have h:=XL 2 (met hL);rw[show Rows.fnExactRunRequestsRow.laid.drop 2=("internal/strconv.uint64pow10",Lib.tabData .u64 xY)::Rows.fnExactRunRequestsRow.laid.drop 3 from by kernel_rfl]at h
 exact am5 (g:=1) (t:=208) (e:=196) lT lT lT lT lT lT h
theorem aqc {W:World} (hS:W.ShapedOpen Tryz.prog):∀g,Tryz.prog.globalNamed "internal/bytealg.MaxLen" = some g->∃m,(I0 W).cell ⟨g,0,none⟩=some (.int .i64 m):=
 amX (g:=0) (t:=3) hS lT (of_decide_eq_true lT) lT lT lT lT
theorem tabs {W:World} (hS:W.ShapedOpen Tryz.prog) (hL:laidMetH Tryz.prog Rows.fnExactRunRequestsRow.laid W):Tabs Tryz.prog (I0 W):=⟨aqb hL,aqc hS,(λg hg=>by cases hg.symm.trans (show Tryz.prog.globalNamed "strconv.ErrSyntax" = none by kernel_rfl)),(λg hg=>by cases hg.symm.trans (show Tryz.prog.globalNamed "strconv.ErrRange" = none by kernel_rfl))⟩
theorem contract (H:Type)(enc:TypeId×Value->H)(W:World)(base:Nat)(args:Array Value)(ds gs:List (DataW H))(before:List MemPlace)
 (hval:∀(j:Nat) t v,Tryz.f4.params[j]? = some t->args[j]? = some v->Value.okWide Tryz.prog W .any base t v)
 (hW:DataW.Whole enc Tryz.prog Tryz.f4.params.toList Rows.fnExactRunRequestsSpec.vars false W args.toList ds gs before)
 (hS:W.ShapedOpen Tryz.prog) (hL:laidMetH Tryz.prog Rows.fnExactRunRequestsRow.laid W) :
 Calls Tryz.prog 4 args W λe W'=>∃v,e = .returned v/\Rows.fnExactRunRequestsSpec.post enc Tryz.prog Tryz.f4 false true false false W args v W':=by
 have hW':=hW;obtain⟨p,q,hA0,hV,rfl,hfz,hnd⟩:=hW;have hA:DataW.TrodAll enc Tryz.prog W 0 (λ_=>true) true Tryz.f4.params.toList args.toList ds p:=hA0;rw[Tryz.params4]at hA hval;obtain⟨v0,vs0,d0,ds0,p0,q0,hargs,rfl,rfl,h0,r0⟩:=trodAll_cons hA;obtain⟨v1,vs1,d1,ds1,p1,q1,rfl,rfl,rfl,h1,r1⟩:=trodAll_cons r0;obtain⟨rfl,rfl,rfl⟩:=trodAll_nil r1;obtain rfl:args = #[v0,v1]:=by cases args;simp_all
 obtain⟨rfl,rfl⟩:=trodVars_none hV;clear hA0;simp only[mM]at hW';have hlt:∀x∈(p0++p1),x.block<W.heap.size:=λx hx=>hW'.lt x (by simpa using hx);obtain⟨c0,rfl,_⟩:=okWide_struct Tryz.underlying24 (hval 0 24 v0 rfl rfl);have hk0:=h0;obtain⟨f0,g0⟩:=h0;obtain⟨x0,e0,_,m0,D0,n0⟩:=adz tyT g0;obtain⟨a1,len1,cap1,rfl⟩:=okWide_slice Tryz.underlying56 (hval 1 56 v1 rfl rfl);have hk1:=h1;obtain⟨f1,g1⟩:=h1;obtain⟨x1,w1,e1,u1,m1,n1⟩:=Xd tyR lT g1;obtain rfl:_=w1:=by simpa[Go.Value.cells]using e1
 have key:=amN (tabs hS hL) (akJ (ak5 e0) (aoO u1)) (aot m0 n0 m1 n1);refine Calls.mono key λe W' ⟨he,hb⟩=>?_;subst he;have ht:DataW.TrodAll enc Tryz.prog W' 0 (λb=>decide (b<W.heap.size)) true [24,56] [_,_] [d0,d1] (p0++(p1++[])):=trodAll_cons_mk (Below.trod laidOut lT (of_decide_eq_true lT) hk0 hb (λx hx=>hlt x (List.mem_append_left _ hx))) (trodAll_cons_mk (Below.trod laidOut lT (of_decide_eq_true lT) hk1 hb (λx hx=>hlt x (List.mem_append_right _ hx))) (trodAll_mk0));simp only[mM]at ht;exact⟨_,rfl,_,_,_,[],_,[],hW',trodAll_cons_mk (shut_bool Tryz.underlying4 _) trodAll_mk0,
  ht,rfl,hb.frame _,λh=>by cases h⟩
noncomputable def laidWorld (os:Os):World:=World.laidAll Tryz.prog os Rows.fnExactRunRequestsRow.laid
theorem laid_met (os:Os):laidMet Tryz.prog Rows.fnExactRunRequestsRow.laid ((laidWorld os).forCall (λ_ _=>0) ⟨#[],#[.agg #[.slice none 0 0,.int .i64 0],.slice none 0 0],[]⟩).memory:=
 laidMet_laidAll _ lT lT
theorem reads (os:Os){H:Type}(enc:TypeId×Value->H):∃places,DataW.whole enc Tryz.prog ((laidWorld os).forCall (λ_ _=>0) ⟨#[],#[.agg #[.slice none 0 0,.int .i64 0],.slice none 0 0],[]⟩).memory Tryz.f4.params.toList Rows.fnExactRunRequestsSpec.vars false #[.agg #[.slice none 0 0,.int .i64 0],.slice none 0 0].toList 8=some ([.agg [.nil,.lit (.int .i64 0)],.nil],[],places):=
 ⟨[],lT⟩
theorem lifted (os:Os)(started:os.Started)(H:Type)(enc:TypeId×Value->H)(F:Stop.Interp) :
 ReturnsInHanded {} Tryz.checked os 4 .any ((xG Rows.fnExactRunRequestsSpec).preRow enc Tryz.prog Tryz.f4 Rows.fnExactRunRequestsRow.domain false Rows.fnExactRunRequestsRow.laid) (((xG Rows.fnExactRunRequestsSpec).at F).post enc Tryz.prog Tryz.f4 false true false false):=by
 obtain⟨places,hx⟩:=reads os enc;refine returnsInHanded_of_row (C:=Tryz.checked) (s:=xG Rows.fnExactRunRequestsSpec) own started lT Tryz.func4
  (witness_row_atRef (enc:=enc) (C:=Tryz.checked) false (laidWorld os) #[.agg #[.slice none 0 0,.int .i64 0],.slice none 0 0] (World.laidAll_os _ _ _) lT lT lT
   (OpenSpec.preRow_of_cond 8 hx lT (λk hk=>by cases hk) lT (laid_met os))) ?_
 intro W base args ds gs before hval hW _ _ _ hL hS _;exact contract H enc W base args ds gs before hval hW hS hL
theorem j1 : (Rows.fnExactRunRequestsRow.inPlace==Tryz.prog.inPlace 4)=true:=lT
theorem j2 : (Rows.fnExactRunRequestsRow.unfollowed==Tryz.prog.unfollowed 4)=true:=lT
theorem j3 : (Rows.fnExactRunRequestsRow.recurses==Tryz.prog.recurses 4)=true:=lT
theorem j4 : (Rows.fnExactRunRequestsRow.named==Tryz.prog.varsNamed 4)=true:=lT
theorem j5 : joinedFacts Tryz.prog 4 Tryz.f4 (xG Rows.fnExactRunRequestsSpec).bare Rows.fnExactRunRequestsRow=true:=by
 unfold joinedFacts;rw[j1,j2,j3,j4]
 kernel_rfl
theorem j6 : Tryz.prog.funcNamed Rows.fnExactRunRequestsRow.func=some 4:=lT
theorem said : Rows.FnExactRunRequestsSaid:=
 OpenClaim.holds_of_cond 4 Tryz.f4 rfl rfl rfl rfl rfl rfl rfl ⟨rfl,rfl,rfl,rfl,rfl⟩ rfl rfl rfl rfl rfl j6 Tryz.func4 j5
  (of_decide_eq_true lT) (by unfold Func.isWrapper;first|(rw[aA (by decide +kernel)];kernel_rfl)|(rw[au (by decide +kernel)];exact⟨rfl,rfl⟩))
  (λos started H enc _ F=>by rw[OpenClaim.pre_eq_preRow];exact lifted os started H enc F)
theorem jw : Rows.fnExactRunRequestsRow.wfByText (xG Rows.fnExactRunRequestsSpec)=true:=lT
theorem jm : Tryz.pinned.checked.prog.mainIs=some (Rows.fnExactRunRequestsCard.stood.harness.1,Rows.fnExactRunRequestsCard.stood.harness.2.toList):=lT
theorem jg : false=Rows.fnExactRunRequestsRow.goesBy Tryz.pinned.checked.prog:=lT
theorem plain (f:FuncId)(fn:Func)(hf:Tryz.pinned.checked.prog.funcNamed Rows.fnExactRunRequestsRow.func=some f)(hfn:Tryz.pinned.checked.prog.funcs[f]? = some fn) :
 false=Tryz.pinned.checked.prog.looks []/\∀(j:Nat) t,fn.params[j]? = some t->Tryz.pinned.checked.prog.wantsStandIn t=false:=by
 obtain rfl:f=4:=CP ((show Tryz.prog.funcNamed Rows.fnExactRunRequestsRow.func=some 4 by kernel_rfl).symm.trans hf) |>.symm;obtain rfl:fn=Tryz.f4:=(CP (Tryz.func4.symm.trans hfn)).symm;refine⟨lT,λj t ht=>?_⟩;rw[Tryz.params4]at ht;have ht':t=24\/t=56:=by simpa using Array.mem_of_getElem? ht
 rcases ht' with rfl|rfl
 ·exact(show Tryz.prog.wantsStandIn 24=false by kernel_rfl)
 ·exact(show Tryz.prog.wantsStandIn 56=false by kernel_rfl)
theorem card : Rows.FnExactRunRequestsCardSaid:=
 Claim7.holds_tied_plain_at .later [] _ _ _ _ said (λ_ h=>by cases h) jw (λ_ h=>by cases h) fnExactRunRequests_row_tie rfl ⟨rfl,rfl⟩ jm rfl plain jg
end Go.Proofs.YtfengbmckcgbiaaGreatDoor.fnExactRunRequests
end
