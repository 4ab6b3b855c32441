/- The law FnExactRunBatch of the package laws answers true for all arguments and leaves them as they are (part 1). Conditions: none but what the row lists. -/
import Derived.Test.YtfengbmckcgbiaaGreatDoorD3
set_option linter.unusedVariables false
set_option linter.unusedSimpArgs false
set_option maxRecDepth 100000
set_option maxHeartbeats 4000000
open Go.Lib renaming pow10Tab->xZ
open Go.OpenSpec renaming ofChange->xI
open Go.Proofs.Tryz renaming f5->EG
open List renaming mem_cons->aK,map->ax,not_mem_nil->iV,append_nil->mM
open Option renaming isSome_iff_exists->qy
open Option.some renaming inj->CW
open Prod.mk renaming injEq->dF
section
namespace Go.Ab
open Go
def C.uQ : dI:=qs [qX 2 10 0,qB 4 false] [1,2]<|qs [qI 5 1048576] [1,2,5]<|qs [qT 20 2 2,zM 21 5,q2 22 6 20 21,zM 5 22] [1,2,5]<|.seq (qs [zM 23 5,qk 24 .lss 23 0] [1,2,5,24]<|qc 24 (qr [qB 4 true] [4]) .skip)<|qs [zM 25 1,zM 26 5,q2 27 20 25 26,zM 5 27] [1,2,5]<|.seq (qs [zM 28 5,qk 29 .lss 28 0] [1,2,29]<|qc 29 (qr [qB 4 true] [4]) .skip)<|qs [qT 31 2 2,q1 32 9 31,zM 33 1,q1 34 22 33,q2 35 29 32 34,zM 30 35,qE 36 30 0,qE 37 30 1,qE 38 30 2,zA 6 (.alloc 11 [.nS 7,qx 0]),qS 2 6 36,zM 7 37,zM 8 38] [1,2,6,7,8]<|qs [qT 39 2 2,q1 40 9 39,zA 9 (.alloc 12 [.nS 7,qx 0]),qS 2 9 40] [1,2,6,7,8,9]<|qs [zM 41 1,q1 42 22 41,zM 10 42] [1,2,6,7,8,9,10]<|qs [qT 44 2 9,zM 45 10,q2 46 30 44 45,zM 43 46,qE 47 43 0,qE 48 43 1,qE 49 43 2,zA 11 (.alloc 13 [.nS 7,qx 0]),qS 2 11 47,zM 12 48,zM 13 49] [1,2,6,7,8,9,10,11,12,13]<|.seq (qs [qT 50 2 11,qT 51 2 6,q2 52 12 50 51,qO 53 52,zM 54 53,qm 54 false 55 12,qm 54 false 56 7,⟨(some (54,false)),some 57,.call 24 [.t 55,.t 56]⟩,zG 54 false 58 (.not<|.t 57),qQ 59 54 58,zM 60 59,qm 60 false 61 13,qm 60 false 62 8,zG 60 false 63 (.beq true (.t 61)<|.t 62),qQ 64 60 63] [1,2,6,7,8,9,10,11,12,13,64]<|qc 64 (qr [qB 4 false] [4]) .skip)<|.seq (.seq (.uC [(qT 65 2 9,[]),(qT 66 2 2,[]),(q1 67 9 66,[1]),(q2 68 12 65 67,[0,1,2]),(qO 69 68,PV)] [1,2,6,7,8,9,10,11,12,13,69])<|qc 69 (qr [qB 4 false] [4]) .skip)<|.seq (qs [zM 70 10,zM 71 1,q1 72 22 71,q2 73 25 70 72,qO 74 73] [1,2,6,7,8,9,10,11,12,13,74]<|qc 74 (qr [qB 4 false] [4]) .skip)<|qs [qI 14 1] [1,2,6,7,8,9,10,11,12,13,14]<|qs [qT 75 2 9,zM 76 14,q2 77 15 75 76,zM 14 77] [1,2,6,7,8,10,11,12,13,14]<|qs [zM 78 10,zM 79 14,q2 80 26 78 79,zM 14 80] [1,2,6,7,8,11,12,13,14]<|.seq (qs [zM 81 14,qk 82 .lss 81 0,zM 83 82,zG 83 false 84 (.load true 2<|.t 11),zG 83 false 85 (.load true 2<|.t 6),⟨(some (83,false)),some 86,.call 12 [.t 84,.t 85]⟩,zG 83 false 87 (.not<|.t 86),qQ 88 83 87,zM 89 88,qm 89 false 90 12,qm 89 false 91 7,⟨(some (89,false)),some 92,.call 24 [.t 90,.t 91]⟩,zG 89 false 93 (.not<|.t 92),qQ 94 89 93,zM 95 94,qm 95 false 96 13,qm 95 false 97 8,zG 95 false 98 (.beq true (.t 96)<|.t 97),qQ 99 95 98] [1,2,6,7,8,11,12,99]<|qc 99 (qr [qB 4 false] [4]) .skip)<|qs [qI 15 1] [1,2,6,7,8,11,12,15]<|qs [qT 100 2 11,zM 101 15,q2 102 15 100 101,zM 15 102] [1,2,6,7,8,11,12,15]<|qs [zM 103 12,zM 104 15,q2 105 27 103 104,zM 15 105] [1,2,6,7,8,11,12,15]<|qs [qI 16 1] [1,2,6,7,8,11,12,15,16]<|qs [qT 106 2 11,zM 107 16,q2 108 18 106 107,zM 16 108] [1,2,6,7,8,11,12,15,16]<|.seq (qs [zM 109 16,qk 110 .lss 109 0] [1,2,6,7,8,11,12,15,16,110]<|qc 110 (qr [qB 4 false] [4]) .skip)<|qs [zM 111 12,zM 112 16,q2 113 28 111 112,zM 16 113] [1,2,6,7,8,11,12,15,16]<|.seq (qs [zM 114 16,qk 115 .lss 114 0] [1,2,6,7,8,11,12,15,16,115]<|qc 115 (qr [qB 4 false] [4]) .skip)<|.seq (qs [zM 116 16,zM 117 15,qb 118 .neq 116 117] [1,2,6,7,8,11,12,15,118]<|qc 118 (qr [qB 4 false] [4]) .skip)<|qs [qT 120 2 2,q1 121 9 120,zM 122 1,q1 123 22 122,q2 124 30 121 123,zM 119 124,qE 125 119 0,qE 126 119 1,qE 127 119 2,zA 17 (.alloc 14 [.nS 7,qx 0]),qS 2 17 125,zM 18 126,zM 19 127] [6,7,8,11,12,15,17,18,19]<|.seq (qs [qT 128 2 17,qT 129 2 6,q2 130 12 128 129,qO 131 130,zM 132 131,qm 132 false 133 18,qm 132 false 134 7,⟨(some (132,false)),some 135,.call 24 [.t 133,.t 134]⟩,zG 132 false 136 (.not<|.t 135),qQ 137 132 136,zM 138 137,qm 138 false 139 19,qm 138 false 140 8,zG 138 false 141 (.beq true (.t 139)<|.t 140),qQ 142 138 141] [11,12,15,142]<|qc 142 (qr [qB 4 false] [4]) .skip)<|qs [qI 16 1] [11,12,15,16]<|qs [qT 143 2 11,zM 144 16,q2 145 18 143 144,zM 16 145] [12,15,16]<|.seq (qs [zM 146 16,qk 147 .lss 146 0] [12,15,16,147]<|qc 147 (qr [qB 4 false] [4]) .skip)<|qs [zM 148 12,zM 149 16,q2 150 28 148 149,zM 16 150] [15,16]<|.seq (qs [zM 151 16,qk 152 .lss 151 0] [15,16,152]<|qc 152 (qr [qB 4 false] [4]) .skip)<|.seq (qs [zM 153 16,zM 154 15,qb 155 .neq 153 154] [155]<|qc 155 (qr [qB 4 false] [4]) .skip)<|qr [qB 4 true] [4]
noncomputable abbrev BG : Program:=Go.Proofs.Tryz.prog
noncomputable abbrev Ju : Func:=EG
noncomputable abbrev aem : Code:=(EG.body).getD .skip
theorem U8 : EG.body=some aem:=lS
theorem aiB : xy BG 156 0 aem C.uQ=true:=lS
def Zd : FP
 |56=>some (25,1,[.str 0])
 |67=>some (37,5,[.int 0,.int 1,.str 2,.sub 3 56,.sub 4 67])
 |58=>some (45,8,[.int 0,.sub 1 56,.sub 2 56,.int 3,.int 4,.str 5,.sub 6 56,.sub 7 67])
 |55=>some (34,7,Qa 56 67)
 |27=>some (58,8,KU 56 67)
 |26=>some (61,10,MO 56 67 58)
 |_=>none
def WB : acf
 |15=>some (2,[.sl 0 55])
 |_=>none
theorem QM (f:Nat)(h:(Zd f).isSome=true):acG BG 66 Zd f=true:=by
 unfold Zd at h;split at h
 ·kernel_rfl
 ·kernel_rfl
 ·kernel_rfl
 ·kernel_rfl
 ·kernel_rfl
 ·kernel_rfl
 ·cases h
theorem Q7 (f:Nat)(h:(WB f).isSome=true):aky BG WB f=true:=by
 unfold WB at h;split at h
 ·kernel_rfl
 ·cases h
theorem UO : LW BG 66 tx:=λk h0 h1=>by obtain⟨n,hn⟩:=(WO ⟨h0,h1⟩).val;exact F.jf hn
theorem Zc : MT Zd 56 67 25 37:=⟨rfl,rfl⟩
theorem aqp : xP BG 25=1:=lS
theorem aqr : xP BG 37=5:=lS
theorem aqs : oD BG 37=[(3,25),(4,37)]:=lS
theorem aqt : xP BG 45=8:=lS
theorem aqu : oD BG 45=[(1,25),(2,25),(6,25),(7,37)]:=lS
theorem alz : TyH BG 25 37 45:=⟨aqp,aqr,aqs,aqt,aqu⟩
theorem abX : xP BG 34=7:=lS
theorem Yj : oD BG 34=[(5,25),(6,37)]:=lS
theorem abY : xP BG 61=10:=lS
theorem ZT : oD BG 61=[(2,25),(3,25),(7,25),(8,37),(9,45)]:=lS
theorem ZR : xP BG 58=8:=lS
theorem Xt : oD BG 58=[(6,25),(7,37)]:=lS
noncomputable abbrev ahN : Code:=L8 7 aem
abbrev Jq : dI:=C.uQ
abbrev U2 : dI:=Qk 7 Jq
noncomputable abbrev alJ : Code:=L8 7 ahN
noncomputable abbrev alK : Code:=L8 1 alJ
noncomputable abbrev ahM : Code:=L8 1 alK
noncomputable abbrev alL : Code:=L8 2 ahM
noncomputable abbrev alM : Code:=L8 1 alL
noncomputable abbrev anX : Code:=L8 1 alM
abbrev Xv : dI:=Qk 2 (Qk 7 U2)
abbrev ahw : dI:=Qk 2 (Qk 2 Xv)
theorem ap2 : xy BG 156 0 ahN U2=true:=lS
theorem ap3 : xy BG 156 0 ahM Xv=true:=lS
theorem ap4 : xy BG 156 0 anX ahw=true:=lS
def Kv : List OF:=[.vp 9 9 0,.row 9 ⟨0,34,100900⟩,.ref 10 ⟨0,61,201000⟩,.vp 11 11 0,.row 11 ⟨0,34,101100⟩,.ref 12 ⟨0,58,201200⟩]
theorem aoL : (Jd BG [] 7 aem Jq []).isSome=true:=lS
theorem ap7 : (match Jd BG [1,2,6,7,8] 7 ahN U2 []with|some Γ =>Kv.all Γ.contains|none=>false)=true:=lS
theorem ap8 : (Jd BG [1,2,6,7,8,11,12,13] 2 ahM Xv []).isSome=true:=lS
theorem aoJ : SC BG 156 alJ=some (some 2,9,14,15,[75,76,77,14]):=lS
theorem aoK : SC BG 156 alK=some (none,10,14,26,[78,79,80,14]):=lS
theorem aoD : SC BG 156 alL=some (some 2,11,15,15,[100,101,102,15]):=lS
theorem aoE : SC BG 156 alM=some (none,12,15,27,[103,104,105,15]):=lS
structure PX (n:bP)(o:List bn)(p0:bP)(p1:List bJ)(p2:Bool)(l1 l2:Int):Prop where
 s0:∃m,G.sW m n 1048576=some l1
 c0:decide (l1<0)=false
 t0:∃m,G.vT m n=some n
 a0:∃m,G.uy m n n=some true
 k0:yV n.bH<1000000000
 s1:∃m,G.jQ m o l1=some l2
 c1:decide (l2<0)=false
 t1:∃m,G.kT m o=some o
 a1:∃m,G.lH m o o=some true
 k1:DZ o<1000000000
 w:∃m,G.kP m n o=some (p0,p1,p2)
 g:∃m,G.kD m n o=some (p0,p1,p2)
 e0:∃m,G.uy m p0 p0=some true
 h0:∃m,G.vH m (ads p0 1) 1=some (1+(yV p0.bH:Int))
 q0:yV p0.bH<1000000000
 e1:∃m,G.jS m p1 p1=some true
 h1:∃m,G.jD m (Jz p1 (1+(yV p0.bH:Int))) (1+(yV p0.bH:Int))=some (1+(yV p0.bH:Int)+(Ak p1:Int))
 q1:Ak p1<1000000000
abbrev O4 (n:bP):List AC:=[.c (.sl 7 (ax fB.cells n.bH)),.c (.lit (.int .i64 n.kZ))]
abbrev ahr (n:bP):List Cell:=[.sl 7 (ax fB.cells n.bH),.lit (.int .i64 n.kZ)]
abbrev Hq (n:bP):Slot:=.v true (.one (.Iq (ahr n)))
abbrev Jo (n:List bn):Slot:=.v true (.one (.c (.sl 10 (ax bn.cells n))))
abbrev FQ (n:List bJ):Slot:=.v true (.one (.c (.sl 8 (ax bJ.cells n))))
abbrev BI (b:Bool):Slot:=.v true (.one (.c (.lit (.bool b))))
abbrev Sl (k:Int):Slot:=.v true (.one (.c (.lit (.int .i64 k))))
theorem ao4 {n:bP}{o:List bn}{p0:bP}{p1:List bJ}{p2:Bool}{l1 l2:Int}(F0:PX n o p0 p1 p2 l1 l2){K:gY->Prop}(zf:ahn K (gY.of [(1,Jo o),(2,.v true (.one (.ptr 10 0))),(6,.v true (.one (.ptr 11 0))),(7,FQ p1),(8,BI p2)] [(10,.var (O4 n)),(11,.var (O4 p0))])):wpC BG (takeA 7 Jq) (QA K RL) (st0 [.agg (O4 n),.one (.c (.sl 10 (ax bn.cells o)))] []):=by
 obtain⟨_,h1⟩:=F0.s0;obtain⟨_,h2⟩:=F0.s1;obtain⟨_,h3⟩:=F0.t0;obtain⟨_,h4⟩:=F0.t1;obtain⟨_,h5⟩:=F0.w;have zc:=pp (F.sW h1) <|pp (F.jQ h2) <|pp (F.vT h3) <|pp (F.kT h4) <|pp (F.kP h5) <|()
 have c0:=F0.c0;have c1:=F0.c1;clear F0;refine tq ?_;unfold Jq C.uQ;simp only[takeA];exact afP
theorem ao5 {n:bP}{o:List bn}{p0:bP}{p1:List bJ}{p2:Bool}{l1 l2:Int}(F0:PX n o p0 p1 p2 l1 l2){K:gY->Prop}(zf:ahn K (gY.of [(1,Jo o),(2,Hq n),(6,Hq p0),(7,FQ p1),(8,BI p2),(9,.v true (.one (.ptr 12 0))),(10,Jo o),(11,.v true (.one (.ptr 13 0))),(12,FQ p1),(13,BI p2),(14,Sl 1)] [(12,.var (O4 n)),(13,.var (O4 p0))])):wpC BG (takeA 7 U2) (QA K RL) (gY.of [(1,Jo o),(2,Hq n),(6,Hq p0),(7,FQ p1),(8,BI p2)] []):=by
 obtain⟨_,h1⟩:=F0.t0;obtain⟨_,h2⟩:=F0.t1;obtain⟨_,h3⟩:=F0.g;obtain⟨_,h4⟩:=F0.e0;obtain⟨_,h5⟩:=F0.e1;obtain⟨_,h6⟩:=F0.a0;obtain⟨_,h7⟩:=F0.a1;have zc:=pp (F.vT h1) <|pp (F.kT h2) <|pp (F.kD h3) <|pp (F.uy h4) <|pp (F.jS h5) <|pp (F.uy h6) <|pp (F.lH h7) <|()
 clear F0;refine tq ?_;unfold U2 Jq C.uQ;simp only[takeA,Qk];exact afP
theorem ao6 {n:bP}{o:List bn}{p0:bP}{p1:List bJ}{p2:Bool}{l1 l2:Int}{k:Int}(F0:PX n o p0 p1 p2 l1 l2)(hk:decide (k<0)=false){K:gY->Prop}(zf:ahn K (gY.of [(1,Jo o),(2,Hq n),(6,Hq p0),(7,FQ p1),(8,BI p2),(11,Hq p0),(12,FQ p1),(15,Sl 1)] [])):wpC BG (takeA 2 Xv) (QA K RL) (gY.of [(1,Jo o),(2,Hq n),(6,Hq p0),(7,FQ p1),(8,BI p2),(11,Hq p0),(12,FQ p1),(13,BI p2),(14,Sl k)] []):=by
 obtain⟨_,h1⟩:=F0.e0;obtain⟨_,h2⟩:=F0.e1;have zc:=pp (F.uy h1) <|pp (F.jS h2) <|()
 clear F0;refine tq ?_;unfold Xv U2 Jq C.uQ;simp only[takeA,Qk];exact afP
theorem ao7 {n:bP}{o:List bn}{p0:bP}{p1:List bJ}{p2:Bool}{l1 l2:Int}(F0:PX n o p0 p1 p2 l1 l2):wpC BG ahw (QF [.tmp 4] 0 (λr bs=>r=xX true/\bs=[])) (gY.of [(1,Jo o),(2,Hq n),(6,Hq p0),(7,FQ p1),(8,BI p2),(11,Hq (ads p0 1)),(12,FQ (Jz p1 (1+(yV p0.bH:Int)))),(15,Sl (1+(yV p0.bH:Int)+(Ak p1:Int)))] []):=by
 obtain⟨_,h1⟩:=F0.t0;obtain⟨_,h2⟩:=F0.t1;obtain⟨_,h3⟩:=F0.g;obtain⟨_,h4⟩:=F0.e0;obtain⟨_,h5⟩:=F0.e1;obtain⟨_,h6⟩:=F0.h0;obtain⟨_,h7⟩:=F0.h1;have zc:=pp (F.vT h1) <|pp (F.kT h2) <|pp (F.kD h3) <|pp (F.uy h4) <|pp (F.jS h5) <|pp (F.vH h6) <|pp (F.jD h7) <|()
 have hk0:decide (1+(yV p0.bH:Int)<0)=false:=bg aI;have hk1:decide (1+(yV p0.bH:Int)+(Ak p1:Int)<0)=false:=bg aI;clear F0;refine tq ?_;unfold ahw Xv U2 Jq C.uQ;simp only[Qk];exact afP
theorem ao8 {n:bP}{o:List bn}{l1:Int}{K:gY->Prop}(h0:∃m,G.sW m n 1048576=some l1)(hk0:decide (l1<0)=true):wpC BG (takeA 7 Jq) (QA K RL) (st0 [.agg (O4 n),.one (.c (.sl 10 (ax bn.cells o)))] []):=by
 obtain⟨_,j0⟩:=h0;have zc:=pp (F.sW j0) <|()
 have zf:=();refine tq ?_;unfold Jq C.uQ;simp only[takeA];exact afP
theorem ao9 {n:bP}{o:List bn}{l1 l2:Int}{K:gY->Prop}(h0:∃m,G.sW m n 1048576=some l1)(hk0:decide (l1<0)=false)(h1:∃m,G.jQ m o l1=some l2)(hk1:decide (l2<0)=true):wpC BG (takeA 7 Jq) (QA K RL) (st0 [.agg (O4 n),.one (.c (.sl 10 (ax bn.cells o)))] []):=by
 obtain⟨_,j0⟩:=h0;obtain⟨_,j1⟩:=h1;have zc:=pp (F.sW j0) <|pp (F.jQ j1) <|()
 have zf:=();refine tq ?_;unfold Jq C.uQ;simp only[takeA];exact afP
theorem ZK {S:Slot}{I:IH}{ρ:Ren}{v:Value}{x:Value}(h:GSl I ρ v S)(e:S = .v true (.one (.c (.lit x)))):v=x:=by subst e;have h1:=h.1 rfl;cases h1;rfl
theorem amV {n:bP}{o:List bn}{p0:bP}{p1:List bJ}{p2:Bool}{l1 l2:Int}(F0:PX n o p0 p1 p2 l1 l2):fF BG 5 [.agg (O4 n),.one (.c (.sl 10 (ax bn.cells o)))] (xX true):=by
 have hcr:EW BG Ju.ntmps Ju.results.toList [.tmp 4]=true:=by kernel_rfl
 obtain⟨Γ0,oA'⟩:=qy.1 aoL;refine agc (fn:=Ju) (ac:=Jq) lS U8 lS (by show 2<=Ju.ntmps;exact(by kernel_rfl:decide (2<=Ju.ntmps)=true) |> of_decide_eq_true) hcr aiB oA' (λK zf=>ao4 F0 zf) ?_;intro w0 wA JA I ρ g a w A;obtain⟨hT,hG⟩:=A.gx;have hJ:=UQ (V:=anp ρ (gY.of [(1,Jo o),(2,.v true (.one (.ptr 10 0))),(6,.v true (.one (.ptr 11 0))),(7,FQ p1),(8,BI p2)] [(10,.var (O4 n)),(11,.var (O4 p0))])) hG.agree;have s1:=adP (x:=1) (c:=.sl 10 (ax bn.cells o)) hG xB rfl hJ;have s2:=abC (x:=2) (b:=10) (cs:=ahr n) hG xB rfl rfl rfl;have s6:=abC (x:=6) (b:=11) (cs:=ahr p0) hG xB rfl rfl rfl;have s7:=adP (x:=7) (c:=.sl 8 (ax bJ.cells p1)) hG xB rfl hJ;have s8:=adP (x:=8) (c:=.lit (.bool p2)) hG xB rfl hJ;have hA:=PR (V:=anp ρ (gY.of [(1,Jo o),(2,.v true (.one (.ptr 10 0))),(6,.v true (.one (.ptr 11 0))),(7,FQ p1),(8,BI p2)] [(10,.var (O4 n)),(11,.var (O4 p0))])) hG.agree;generalize I.with w _=JB at hJ s1 s2 s6 s7 s8 hA;have hM:Mid BG Ju.ntmps w0 JB [(1,Jo o),(2,Hq n),(6,Hq p0),(7,FQ p1),(8,BI p2)] a w:=⟨A.tabs.mono (IH.le_trans A.Nq hJ),hA,λt s hs=>by
  simp only[aK,dF,iV,or_false]at hs;rcases hs with⟨rfl,rfl⟩|⟨rfl,rfl⟩|⟨rfl,rfl⟩|⟨rfl,rfl⟩|⟨rfl,rfl⟩
  ·exact s1
  ·exact s2
  ·exact s6
  ·exact s7
  ·exact s8,hG.size,hG.defers,A.DT⟩
 clear A hG s1 s2 s6 s7 s8 hJ hA;have hsz:=hM.DT.size;have hB:=ap7;split at hB
 case h_2=>cases hB
 rename_i ΓB oB';refine XR hcr (pa:=[(1,a.tmps.getD 1 undef),(2,a.tmps.getD 2 undef),(6,a.tmps.getD 6 undef),(7,a.tmps.getD 7 undef),(8,a.tmps.getD 8 undef)]) (pl:=[1,2,6,7,8]) hM mg (by intro e he;simp only[aK,iV,or_false]at he;rcases he with rfl|rfl|rfl|rfl|rfl<;>rfl) ap2 oB' (λK zf=>ao5 F0 zf) ?_
 intro I1 ρ1 g1 a1 w1 A;have hmem:∀f,f∈Kv->f ∈ ΓB:=λf hf=>by have:=List.all_eq_true.1 hB f hf;simpa using this
 obtain⟨hT1,hG⟩:=A.gx;obtain⟨k9,v9,e9,p9,q9,n9,r9,⟨_,_,_,u9⟩,g9⟩:=Yg (x:=9) (b:=12) (cs:=ahr n) (rows:=[(0,34,100900)]) hG A.ow xB rfl rfl rfl (hmem _ (by simp[Kv])) (λr hr=>hmem _ (by revert r;decide));obtain⟨r10,g10⟩:=Yf (x:=10) (T:=61) (m:=201000) (c:=.sl 10 (ax bn.cells o)) hG A.ow xB rfl (hmem _ (by simp[Kv]));obtain⟨v10,p10⟩:∃v,a1.tmps.getD 10 undef=v:=⟨_,rfl⟩;rw[p10]at r10 g10;obtain⟨k11,v11,e11,p11,q11,n11,r11,⟨_,_,_,u11⟩,g11⟩:=Yg (x:=11) (b:=13) (cs:=ahr p0) (rows:=[(0,34,101100)]) hG A.ow xB rfl rfl rfl (hmem _ (by simp[Kv])) (λr hr=>hmem _ (by revert r;decide));obtain⟨r12,g12⟩:=Yf (x:=12) (T:=58) (m:=201200) (c:=.sl 8 (ax bJ.cells p1)) hG A.ow xB rfl (hmem _ (by simp[Kv]));obtain⟨v12,p12⟩:∃v,a1.tmps.getD 12 undef=v:=⟨_,rfl⟩;rw[p12]at r12 g12;have S9:=ae2 A.ow.good A.tabs A.PU A.old A.ag n9 r9 xB g9 (aau alz abX Yj n _);have S10:=ae2 (vs:=[v10]) (cs:=[Cell.sl 10 (ax bn.cells o)]) (rows:=[(0,61,201000)]) A.ow.good A.tabs A.PU A.old A.ag rfl (ajk r10) xB (aic g10) (aen (ZM alz abY ZT o));have S11:=ae2 A.ow.good A.tabs A.PU A.old A.ag n11 r11 xB g11 (aau alz abX Yj p0 _);have S12:=ae2 (vs:=[v12]) (cs:=[Cell.sl 8 (ax bJ.cells p1)]) (rows:=[(0,58,201200)]) A.ow.good A.tabs A.PU A.old A.ag rfl (ajk r12) xB (aic g12) (aen (Xp alz ZR Xt p1));have K0:Mks BG Ju.ntmps w0 w JB I1 g1 a1 w1:=⟨A.new,A.afW.size,A.old,A.Nq,A.ag,hG.size,hG.defers,A.DT,hsz⟩;have t13:=ZK (hG.tm 13 xB) rfl;have c0:=ZK (hG.tm 14 xB) rfl;refine QC K0 S9 aoJ (aey (p9) q9 n9) c0 (Xu.any (Pm (Q7 15 rfl) rfl (abE QM Q7 UO (abG (sb:=WB) (ty:=tyR [(0,34,100900)]) (fI:=55) (tI:=34) Zc rfl rfl n aI (by have:=F0.k0;have:=F0.k1;have:=F0.q0;have:=F0.q1;omega))))) ?_;intro b1 y1 J1 K1 S9 c1 tk1 fr1 kp1;have S10:=kp1 S10 (apart xB xB xB);have S11:=kp1 S11 (apart xB xB xB);have S12:=kp1 S12 (apart xB xB xB);have q9:=(fr1 _ _ _ _ u9).trans q9;have q11:=(fr1 _ _ _ _ u11).trans q11;refine QC K1 S10 aoK (aex ((tk1 10 xB).trans (p10))) c1 (abD QM UO (adq Zc rfl rfl o aI (by have:=F0.k0;have:=F0.k1;have:=F0.q0;have:=F0.q1;omega)) ⟨_,_,rfl⟩) ?_;intro b2 y2 J2 K2 S10 c2 tk2 fr2 kp2;have S11:=kp2 S11 (apart xB xB xB);have S12:=kp2 S12 (apart xB xB xB);have q11:=(fr2 _ _ _ _ u11).trans q11;have tk:∀t,t ∉ [75,76,77,14,78,79,80]->b2.tmps.getD t undef=a1.tmps.getD t undef:=λt ht=>by simp only[aK,iV,or_false,not_or]at ht;rw[tk2 t (by simp;omega),tk1 t (by simp;omega)]
 have hJ:=UQ (V:=λk=>k=k11) K2.ag;have hA:=PR (V:=λk=>k=k11) K2.ag;have aop:=WR (I:=J2) (V:=λk=>k=k11) rfl q11;generalize J2.with y2 _=JC at hJ hA aop;have hJ':=IH.le_trans K2.Nq hJ;have hM3:Mid BG Ju.ntmps w0 JC [(1,Jo o),(2,Hq n),(6,Hq p0),(7,FQ p1),(8,BI p2),(11,Hq p0),(12,FQ p1),(13,BI p2),(14,Sl (1+yV n.bH+DZ o))] b2 y2:=⟨hM.tabs.mono hJ',hA,λt s hs=>by
  simp only[aK,dF,iV,or_false]at hs;have base:∀t s,(t,s)∈[(1,Jo o),(2,Hq n),(6,Hq p0),(7,FQ p1),(8,BI p2)]->t ∉ [75,76,77,14,78,79,80]->(t,a.tmps.getD t undef)∈[(1,a.tmps.getD 1 undef),(2,a.tmps.getD 2 undef),(6,a.tmps.getD 6 undef),(7,a.tmps.getD 7 undef),(8,a.tmps.getD 8 undef)]->GSl JC Yn (b2.tmps.getD t undef) s:=λt s h1 h2 h3=>by rw[tk t h2,A.pa _ h3];exact(hM.sl t s h1).mono hJ' (λ_ _ h=>h)
  rcases hs with⟨rfl,rfl⟩|⟨rfl,rfl⟩|⟨rfl,rfl⟩|⟨rfl,rfl⟩|⟨rfl,rfl⟩|⟨rfl,rfl⟩|⟨rfl,rfl⟩|⟨rfl,rfl⟩|⟨rfl,rfl⟩
  iterate 5 exact base _ _ mg xB mg
  ·rw[tk 11 xB];exact Tm (p11) aop n11 λj v c hv hc=>(S11.rd j v c hv hc).mono hJ
  ·rw[tk 12 xB];exact aeZ ((S12.rd 0 _ _ rfl rfl).mono hJ) (p12)
  ·rw[tk 13 xB,t13];exact⟨λ_=>.lit _ rfl,λe=>by cases e⟩
  ·rw[c2];exact⟨λ_=>.lit _ rfl,λe=>by cases e⟩,K2.size,K2.defers,K2.DT⟩
 obtain⟨ΓE,oE'⟩:=qy.1 ap8;refine XR hcr (pa:=[(1,b2.tmps.getD 1 undef),(2,b2.tmps.getD 2 undef),(6,b2.tmps.getD 6 undef),(7,b2.tmps.getD 7 undef),(8,b2.tmps.getD 8 undef),(11,b2.tmps.getD 11 undef),(12,b2.tmps.getD 12 undef)]) (pl:=[1,2,6,7,8,11,12,13]) hM3 mg (by intro e he;simp only[aK,iV,or_false]at he;rcases he with rfl|rfl|rfl|rfl|rfl|rfl|rfl<;>rfl) ap3 oE' (λK zf=>ao6 F0 (bg aI) zf) ?_
 intro I4 ρ4 g4 a4 w4 A4;obtain⟨hT4,hG4⟩:=A4.gx;have S11:=S11.quiet A4.afW;have q11:=(A4.afW.block _ (Ac q11) λh=>h).trans q11;have z11:=(A4.pa (11,b2.tmps.getD 11 undef) mg).trans ((tk 11 xB).trans p11);have S12:=S12.quiet A4.afW;have z12:=(A4.pa (12,b2.tmps.getD 12 undef) mg).trans ((tk 12 xB).trans p12);have c3:=ZK (hG4.tm 15 xB) rfl;have K3:Mks BG Ju.ntmps w0 w JB J2 g1 a4 w4:=⟨K2.new,Nat.le_trans K2.sz A4.afW.size,K2.old,K2.Nq,K2.ag.quiet A4.afW,hG4.size,hG4.defers,A4.DT,K2.sz0⟩;refine QC K3 S11 aoD (aey (z11) q11 n11) c3 (Xu.any (Pm (Q7 15 rfl) rfl (abE QM Q7 UO (abG (sb:=WB) (ty:=tyR [(0,34,101100)]) (fI:=55) (tI:=34) Zc rfl rfl p0 aI (by have:=F0.k0;have:=F0.k1;have:=F0.q0;have:=F0.q1;omega))))) ?_;intro b4 y4 J4 K4 S11 c4 tk4 fr4 kp4;have S12:=kp4 S12 (apart xB xB xB);have q11:=(fr4 _ _ _ _ u11).trans q11;refine QC K4 S12 aoE (aex ((tk4 12 xB).trans (z12))) c4 (abD QM UO (aa2 Zc rfl p1 aI (by have:=F0.k0;have:=F0.k1;have:=F0.q0;have:=F0.q1;omega)) ⟨_,_,rfl⟩) ?_;intro b5 y5 J5 K5 S12 c5 tk5 fr5 kp5;have S11:=kp5 S11 (apart xB xB xB);have q11:=(fr5 _ _ _ _ u11).trans q11;have tg:∀t,t ∉ [100,101,102,15,103,104,105]->b5.tmps.getD t undef=a4.tmps.getD t undef:=λt ht=>by simp only[aK,iV,or_false,not_or]at ht;rw[tk5 t (by simp;omega),tk4 t (by simp;omega)]
 have hJ5:=UQ (V:=λk=>k=k11) K5.ag;have hA5:=PR (V:=λk=>k=k11) K5.ag;have aor:=WR (I:=J5) (V:=λk=>k=k11) rfl q11;generalize J5.with y5 _=JD at hJ5 hA5 aor;have an8:=IH.le_trans K5.Nq hJ5;refine aiH hcr (ts:=[(1,Jo o),(2,Hq n),(6,Hq p0),(7,FQ p1),(8,BI p2),(11,Hq (ads p0 1)),(12,FQ (Jz p1 (1+(yV p0.bH:Int)))),(15,Sl (1+(yV p0.bH:Int)+(Ak p1:Int)))]) ⟨hM.tabs.mono an8,hA5,λt s hs=>?_,K5.size,K5.defers,K5.DT⟩ ap4 (ao7 F0);simp only[aK,dF,iV,or_false]at hs;have base:∀t s,(t,s)∈[(1,Jo o),(2,Hq n),(6,Hq p0),(7,FQ p1),(8,BI p2)]->t ∉ [75,76,77,14,78,79,80]->t ∉ [100,101,102,15,103,104,105]->(t,b2.tmps.getD t undef)∈[(1,b2.tmps.getD 1 undef),(2,b2.tmps.getD 2 undef),(6,b2.tmps.getD 6 undef),(7,b2.tmps.getD 7 undef),(8,b2.tmps.getD 8 undef),(11,b2.tmps.getD 11 undef),(12,b2.tmps.getD 12 undef)]->(t,a.tmps.getD t undef)∈[(1,a.tmps.getD 1 undef),(2,a.tmps.getD 2 undef),(6,a.tmps.getD 6 undef),(7,a.tmps.getD 7 undef),(8,a.tmps.getD 8 undef)]->GSl JD Yn (b5.tmps.getD t undef) s:=λt s h1 h2 h3 h4 h5=>by
  rw[tg t h3,A4.pa _ h4]
  dsimp only
  rw[tk t h2,A.pa _ h5];exact(hM.sl t s h1).mono an8 (λ_ _ h=>h)
 rcases hs with⟨rfl,rfl⟩|⟨rfl,rfl⟩|⟨rfl,rfl⟩|⟨rfl,rfl⟩|⟨rfl,rfl⟩|⟨rfl,rfl⟩|⟨rfl,rfl⟩|⟨rfl,rfl⟩
 iterate 5 exact base _ _ mg xB xB mg mg
 ·rw[tg 11 xB];exact Tm (z11) aor n11 λj v c hv hc=>(S11.rd j v c hv hc).mono hJ5
 ·rw[tg 12 xB];exact aeZ ((S12.rd 0 _ _ rfl rfl).mono hJ5) (z12)
 ·rw[c5];exact⟨λ_=>.lit _ rfl,λe=>by cases e⟩
theorem aep {n:bP}{o:List bn}(hw:wpC BG (takeA 7 Jq) (QA (λ_=>False) RL) (st0 [.agg (O4 n),.one (.c (.sl 10 (ax bn.cells o)))] [])):fF BG 5 [.agg (O4 n),.one (.c (.sl 10 (ax bn.cells o)))] (xX true):=by
 have hcr:EW BG Ju.ntmps Ju.results.toList [.tmp 4]=true:=by kernel_rfl
 obtain⟨Γ0,oA'⟩:=qy.1 aoL;exact agb (fn:=Ju) (ac:=Jq) lS U8 lS (by show 2<=Ju.ntmps;exact(by kernel_rfl:decide (2<=Ju.ntmps)=true) |> of_decide_eq_true) hcr aiB oA' hw
theorem aoy {n:bP}{o:List bn}{D:Nat}(hn1:n.bH.length<=mx)(hn2:∀x,x∈n.bH->Yq mx D x)(ho1:o.length<=mx)(ho2:∀x,x∈o->∃E,afe E x):fF BG 5 [.agg (O4 n),.one (.c (.sl 10 (ax bn.cells o)))] (xX true):=by
 obtain⟨l1,h1,b1,f1⟩:=T.ajC hn1 hn2 (left:=1048576) xB xB;by_cases c1:l1<0
 ·exact aep (ao8 h1.val (dW c1))
 obtain⟨l2,h2,b2,f2⟩:=T.abK ho1 ho2 (left:=l1) aI aI;by_cases c2:l2<0
 ·exact aep (ao9 h1.val (bg c1) h2.val (dW c2))
 obtain⟨f1,k1⟩:=f1 aI;obtain⟨f2,k2⟩:=f2 aI;obtain⟨r1,r2⟩:=ajo n o;have r3:=ZZ.k r2.r;have r3':JM uX _<=_:=r3;have r4:=r2.len;have m1:=ND n.bH;have m3:=ND (ML n o).1.bH;have r5:=r1.k;have r6:=r1.l;exact amV (p0:=(ML n o).1) (p1:=(ML n o).2.1) (p2:=(ML n o).2.2) {
  s0:=h1.val,c0:=bg c1,t0:=(T.als f1).val,a0:=(T.aeq f1).val,k0:=by omega
  s1:=h2.val,c1:=bg c2,t1:=(T.adX f2).val,a1:=(T.acS f2).val,k1:=by omega
  w:=(T0.kP f1 f2).val,g:=(T0.kD f1 f2).val
  e0:=(T.aeq r1.f).val,h0:=(T.af4 _ aI aI aI).val,q0:=by omega
  e1:=(T.aaw r2).val,h1:=(T.Xc _ aI aI aI).val,q1:=by omega }
end Go.Ab
namespace Go.Proofs.YtfengbmckcgbiaaGreatDoor.fnExactRunBatch
open Go Go.ChangeShapes Go.WideShapes Go.ChangeAt Go.RowKit Go.Ab
theorem own : ownKnob Tryz.prog.godebug=none:=lS
theorem laidOut : laidOutB Tryz.prog=true:=lS
theorem tyN : UD Tryz.prog 3 9 25 28 26:=⟨lS,lS,lS,lS,⟨_,Tryz.underlying28,lS⟩,lS,lS,lS,lS,lS⟩
theorem tyO : aec Tryz.prog 3 9 25 28 26 107 29:=⟨tyN,lS,⟨_,Tryz.underlying107,lS⟩,lS,lS⟩
theorem tyT : acg Tryz.prog 3 9 25 28 26 103 22 24:=⟨tyN,⟨_,Tryz.underlying103,lS⟩,lS,⟨_,Tryz.underlying24,lS⟩,lS,lS,lS⟩
theorem tyR : ace Tryz.prog 3 9 25 28 26 107 29 31:=⟨tyO,⟨_,Tryz.underlying31,lS⟩,lS⟩
theorem met {W:World}(h:laidMetH Tryz.prog Rows.fnExactRunBatchRow.laid W):laidMet Tryz.prog Rows.fnExactRunBatchRow.laid W:=by unfold laidMetH at h;rw[show(Rows.fnExactRunBatchRow.laid.filter λx=>x.2.handleName?.isSome)=[]from by kernel_rfl]at h;exact h
theorem aqg {W:World} (hL:laidMetH Tryz.prog Rows.fnExactRunBatchRow.laid W):∀g,Tryz.prog.globalNamed "internal/strconv.uint64pow10" = some g->I0 W g=some (xZ.map λz=>Go.Value.int .u64 z).toArray:=by
 have h:=XQ 2 (met hL);rw[show Rows.fnExactRunBatchRow.laid.drop 2=("internal/strconv.uint64pow10",Lib.tabData .u64 xZ)::Rows.fnExactRunBatchRow.laid.drop 3 from by kernel_rfl]at h
 exact ana (g:=1) (t:=208) (e:=196) lS lS lS lS lS lS h
theorem aqh {W:World} (hS:W.ShapedOpen Tryz.prog):∀g,Tryz.prog.globalNamed "internal/bytealg.MaxLen" = some g->∃m,(I0 W).cell ⟨g,0,none⟩=some (.int .i64 m):=
 am2 (g:=0) (t:=3) hS lS (of_decide_eq_true lS) lS lS lS lS
theorem tabs {W:World} (hS:W.ShapedOpen Tryz.prog) (hL:laidMetH Tryz.prog Rows.fnExactRunBatchRow.laid W):Tabs Tryz.prog (I0 W):=⟨aqg hL,aqh hS,(λg hg=>by cases hg.symm.trans (show Tryz.prog.globalNamed "strconv.ErrSyntax" = none by kernel_rfl)),(λg hg=>by cases hg.symm.trans (show Tryz.prog.globalNamed "strconv.ErrRange" = none by kernel_rfl))⟩
theorem contract (H:Type)(enc:TypeId×Value->H)(W:World)(base:Nat)(args:Array Value)(ds gs:List (DataW H))(before:List MemPlace)
 (hval:∀(j:Nat) t v,Tryz.f5.params[j]? = some t->args[j]? = some v->Value.okWide Tryz.prog W .any base t v)
 (hW:DataW.Whole enc Tryz.prog Tryz.f5.params.toList Rows.fnExactRunBatchSpec.vars false W args.toList ds gs before)
 (hS:W.ShapedOpen Tryz.prog) (hL:laidMetH Tryz.prog Rows.fnExactRunBatchRow.laid W) :
 Calls Tryz.prog 5 args W λe W'=>∃v,e = .returned v/\Rows.fnExactRunBatchSpec.post enc Tryz.prog Tryz.f5 false true false false W args v W':=by
 have hW':=hW;obtain⟨p,q,hA0,hV,rfl,hfz,hnd⟩:=hW;have hA:DataW.TrodAll enc Tryz.prog W 0 (λ_=>true) true Tryz.f5.params.toList args.toList ds p:=hA0;rw[Tryz.params5]at hA hval;obtain⟨v0,vs0,d0,ds0,p0,q0,hargs,rfl,rfl,h0,r0⟩:=trodAll_cons hA;obtain⟨v1,vs1,d1,ds1,p1,q1,rfl,rfl,rfl,h1,r1⟩:=trodAll_cons r0;obtain⟨rfl,rfl,rfl⟩:=trodAll_nil r1;obtain rfl:args = #[v0,v1]:=by cases args;simp_all
 obtain⟨rfl,rfl⟩:=trodVars_none hV;clear hA0;simp only[mM]at hW';have hlt:∀x∈(p0++p1),x.block<W.heap.size:=λx hx=>hW'.lt x (by simpa using hx);obtain⟨c0,rfl,_⟩:=okWide_struct Tryz.underlying24 (hval 0 24 v0 rfl rfl);have hk0:=h0;obtain⟨f0,g0⟩:=h0;obtain⟨x0,e0,_,m0,D0,n0⟩:=adG tyT g0;obtain⟨a1,len1,cap1,rfl⟩:=okWide_slice Tryz.underlying56 (hval 1 56 v1 rfl rfl);have hk1:=h1;obtain⟨f1,g1⟩:=h1;obtain⟨x1,w1,e1,u1,m1,n1⟩:=Xi tyR lS g1;obtain rfl:_=w1:=by simpa[Go.Value.cells]using e1
 have key:=amS (tabs hS hL) (akO (ala e0) (aoT u1)) (aoy m0 n0 m1 n1);refine Calls.mono key λe W' ⟨he,hb⟩=>?_;subst he;have ht:DataW.TrodAll enc Tryz.prog W' 0 (λb=>decide (b<W.heap.size)) true [24,56] [_,_] [d0,d1] (p0++(p1++[])):=trodAll_cons_mk (Below.trod laidOut lS (of_decide_eq_true lS) hk0 hb (λx hx=>hlt x (List.mem_append_left _ hx))) (trodAll_cons_mk (Below.trod laidOut lS (of_decide_eq_true lS) hk1 hb (λx hx=>hlt x (List.mem_append_right _ hx))) (trodAll_mk0));simp only[mM]at ht;exact⟨_,rfl,_,_,_,[],_,[],hW',trodAll_cons_mk (shut_bool Tryz.underlying4 _) trodAll_mk0,
  ht,rfl,hb.frame _,λh=>by cases h⟩
noncomputable def laidWorld (os:Os):World:=World.laidAll Tryz.prog os Rows.fnExactRunBatchRow.laid
theorem laid_met (os:Os):laidMet Tryz.prog Rows.fnExactRunBatchRow.laid ((laidWorld os).forCall (λ_ _=>0) ⟨#[],#[.agg #[.slice none 0 0,.int .i64 0],.slice none 0 0],[]⟩).memory:=
 laidMet_laidAll _ lS lS
theorem reads (os:Os){H:Type}(enc:TypeId×Value->H):∃places,DataW.whole enc Tryz.prog ((laidWorld os).forCall (λ_ _=>0) ⟨#[],#[.agg #[.slice none 0 0,.int .i64 0],.slice none 0 0],[]⟩).memory Tryz.f5.params.toList Rows.fnExactRunBatchSpec.vars false #[.agg #[.slice none 0 0,.int .i64 0],.slice none 0 0].toList 8=some ([.agg [.nil,.lit (.int .i64 0)],.nil],[],places):=
 ⟨[],lS⟩
theorem lifted (os:Os)(started:os.Started)(H:Type)(enc:TypeId×Value->H)(F:Stop.Interp) :
 ReturnsInHanded {} Tryz.checked os 5 .any ((xI Rows.fnExactRunBatchSpec).preRow enc Tryz.prog Tryz.f5 Rows.fnExactRunBatchRow.domain false Rows.fnExactRunBatchRow.laid) (((xI Rows.fnExactRunBatchSpec).at F).post enc Tryz.prog Tryz.f5 false true false false):=by
 obtain⟨places,hx⟩:=reads os enc;refine returnsInHanded_of_row (C:=Tryz.checked) (s:=xI Rows.fnExactRunBatchSpec) own started lS Tryz.func5
  (witness_row_atRef (enc:=enc) (C:=Tryz.checked) false (laidWorld os) #[.agg #[.slice none 0 0,.int .i64 0],.slice none 0 0] (World.laidAll_os _ _ _) lS lS lS
   (OpenSpec.preRow_of_cond 8 hx lS (λk hk=>by cases hk) lS (laid_met os))) ?_
 intro W base args ds gs before hval hW _ _ _ hL hS _;exact contract H enc W base args ds gs before hval hW hS hL
theorem j1 : (Rows.fnExactRunBatchRow.inPlace==Tryz.prog.inPlace 5)=true:=lS
theorem j2 : (Rows.fnExactRunBatchRow.unfollowed==Tryz.prog.unfollowed 5)=true:=lS
theorem j3 : (Rows.fnExactRunBatchRow.recurses==Tryz.prog.recurses 5)=true:=lS
theorem j4 : (Rows.fnExactRunBatchRow.named==Tryz.prog.varsNamed 5)=true:=lS
theorem j5 : joinedFacts Tryz.prog 5 Tryz.f5 (xI Rows.fnExactRunBatchSpec).bare Rows.fnExactRunBatchRow=true:=by
 unfold joinedFacts;rw[j1,j2,j3,j4]
 kernel_rfl
theorem j6 : Tryz.prog.funcNamed Rows.fnExactRunBatchRow.func=some 5:=lS
theorem said : Rows.FnExactRunBatchSaid:=
 OpenClaim.holds_of_cond 5 Tryz.f5 rfl rfl rfl rfl rfl rfl rfl ⟨rfl,rfl,rfl,rfl,rfl⟩ rfl rfl rfl rfl rfl j6 Tryz.func5 j5
  (of_decide_eq_true lS) (by unfold Func.isWrapper;first|(rw[aA (by decide +kernel)];kernel_rfl)|(rw[au (by decide +kernel)];exact⟨rfl,rfl⟩))
  (λos started H enc _ F=>by rw[OpenClaim.pre_eq_preRow];exact lifted os started H enc F)
theorem jw : Rows.fnExactRunBatchRow.wfByText (xI Rows.fnExactRunBatchSpec)=true:=lS
theorem jm : Tryz.pinned.checked.prog.mainIs=some (Rows.fnExactRunBatchCard.stood.harness.1,Rows.fnExactRunBatchCard.stood.harness.2.toList):=lS
theorem jg : false=Rows.fnExactRunBatchRow.goesBy Tryz.pinned.checked.prog:=lS
theorem plain (f:FuncId)(fn:Func)(hf:Tryz.pinned.checked.prog.funcNamed Rows.fnExactRunBatchRow.func=some f)(hfn:Tryz.pinned.checked.prog.funcs[f]? = some fn) :
 false=Tryz.pinned.checked.prog.looks []/\∀(j:Nat) t,fn.params[j]? = some t->Tryz.pinned.checked.prog.wantsStandIn t=false:=by
 obtain rfl:f=5:=CW ((show Tryz.prog.funcNamed Rows.fnExactRunBatchRow.func=some 5 by kernel_rfl).symm.trans hf) |>.symm;obtain rfl:fn=Tryz.f5:=(CW (Tryz.func5.symm.trans hfn)).symm;refine⟨lS,λj t ht=>?_⟩;rw[Tryz.params5]at ht;have ht':t=24\/t=56:=by simpa using Array.mem_of_getElem? ht
 rcases ht' with rfl|rfl
 ·exact(show Tryz.prog.wantsStandIn 24=false by kernel_rfl)
 ·exact(show Tryz.prog.wantsStandIn 56=false by kernel_rfl)
theorem card : Rows.FnExactRunBatchCardSaid:=
 Claim7.holds_tied_plain_at .later [] _ _ _ _ said (λ_ h=>by cases h) jw (λ_ h=>by cases h) fnExactRunBatch_row_tie rfl ⟨rfl,rfl⟩ jm rfl plain jg
end Go.Proofs.YtfengbmckcgbiaaGreatDoor.fnExactRunBatch
end
