/- The law FnExactHandleRequest of the package laws answers true for all arguments and leaves them as they are (part 1). Conditions: none but what the row lists. -/
import Derived.Test.YtfengbmckcgbiaaGreatDoorB3
set_option linter.unusedVariables false
set_option linter.unusedSimpArgs false
set_option maxRecDepth 100000
set_option maxHeartbeats 4000000
open Go.Lib renaming pow10Tab->qo
open Go.OpenSpec renaming ofChange->iZ
open Go.Proofs.Tryz renaming f3->Ew
open List renaming map->ai,mem_cons->ay,not_mem_nil->dn,append_nil->iQ
open Option renaming isSome_iff_exists->iW
open Option.some renaming inj->uH
open Prod.mk renaming injEq->bI
section
namespace Go.Ab
open Go
def C.pM : bU:=qs [qX 2 10 0,qX 3 11 1,qB 4 false] [2,3]<|qs [qI 5 1048576] [2,3,5]<|qs [qT 17 2 2,zM 18 5,q2 19 6 17 18,zM 5 19] [2,3,5]<|.seq (qs [zM 20 5,qk 21 .lss 20 0] [2,3,5,21]<|qc 21 (qr [qB 4 true] [4]) .skip)<|qs [qT 22 10 3,zM 23 5,q2 24 7 22 23,zM 5 24] [2,3,5]<|.seq (qs [zM 25 5,qk 26 .lss 25 0] [2,3,26]<|qc 26 (qr [qB 4 true] [4]) .skip)<|.seq (.sH [(qT 28 2 2,[]),(q1 29 9 28,[0]),(qT 30 10 3,[]),(q1 31 10 30,[0,1,2]),(q2 32 8 29 31,rr4),(zM 27 32,rr5),(qE 33 27 0,rr6),(qE 34 27 1,rr6),(zA 6 (.alloc 12 [.lF 7,oJ 0]),[]),(zA 7 (.alloc 13 [oJ 0,.c (.str []),oJ 0,oJ 0,oJ 0,.c (.str []),.lF 1,.lF 5]),[]),(qS 2 6 33,[0,1,2,3,4,5,6,8,9]),(qS 8 7 34,ahj)] [2,3,6,7])<|qs [qT 35 2 2,q1 36 9 35,zA 8 (.alloc 14 [.lF 7,oJ 0]),qS 2 8 36] [2,3,6,7,8]<|qs [qT 37 10 3,q1 38 10 37,zA 9 (.alloc 15 [oJ 0,.c (.str []),.lF 1,.lF 1,oJ 0,oJ 0,.c (.str []),.lF 1,.lF 5,.lF 8]),qS 10 9 38] [2,3,6,7,8,9]<|qs [qT 40 2 8,qT 41 10 9,q2 42 11 40 41,zM 39 42,qE 43 39 0,qE 44 39 1,zA 10 (.alloc 16 [.lF 7,oJ 0]),zA 11 (.alloc 17 [oJ 0,.c (.str []),oJ 0,oJ 0,oJ 0,.c (.str []),.lF 1,.lF 5]),qS 2 10 43,qS 8 11 44] [2,3,6,7,8,9,10,11]<|.seq (qs [qT 45 2 10,qT 46 2 6,q2 47 12 45 46,qO 48 47,zM 49 48,zG 49 false 50 (.load true 8<|.t 11),zG 49 false 51 (.load true 8<|.t 7),⟨(some (49,false)),some 52,.call 13 [.t 50,.t 51]⟩,zG 49 false 53 (.not<|.t 52),qQ 54 49 53] [2,3,6,7,8,9,10,11,54]<|qc 54 (qr [qB 4 false] [4]) .skip)<|.seq (.seq (.sH [(qT 55 2 8,[]),(qT 56 2 2,[]),(q1 57 9 56,[1]),(q2 58 12 55 57,[0,1,2]),(qO 59 58,rr4)] [2,3,6,7,8,9,10,11,59])<|qc 59 (qr [qB 4 false] [4]) .skip)<|.seq (.seq (.sH [(qT 60 10 9,[]),(qT 61 10 3,[]),(q1 62 10 61,[1]),(q2 63 14 60 62,[0,1,2]),(qO 64 63,rr4)] [2,3,6,7,8,9,10,11,64])<|qc 64 (qr [qB 4 false] [4]) .skip)<|qs [qI 12 1] [2,3,6,7,8,9,10,11,12]<|qs [qT 65 2 8,zM 66 12,q2 67 15 65 66,zM 12 67] [2,3,6,7,9,10,11,12]<|qs [qT 68 10 9,zM 69 12,q2 70 16 68 69,zM 12 70] [2,3,6,7,10,11,12]<|.seq (qs [zM 71 12,qk 72 .lss 71 0,zM 73 72,zG 73 false 74 (.load true 2<|.t 10),zG 73 false 75 (.load true 2<|.t 6),⟨(some (73,false)),some 76,.call 12 [.t 74,.t 75]⟩,zG 73 false 77 (.not<|.t 76),qQ 78 73 77,zM 79 78,zG 79 false 80 (.load true 8<|.t 11),zG 79 false 81 (.load true 8<|.t 7),⟨(some (79,false)),some 82,.call 13 [.t 80,.t 81]⟩,zG 79 false 83 (.not<|.t 82),qQ 84 79 83] [2,3,6,7,10,11,84]<|qc 84 (qr [qB 4 false] [4]) .skip)<|qs [qI 13 1] [2,3,6,7,10,11,13]<|qs [qT 85 2 10,zM 86 13,q2 87 15 85 86,zM 13 87] [2,3,6,7,10,11,13]<|qs [qT 88 8 11,zM 89 13,q2 90 17 88 89,zM 13 90] [2,3,6,7,10,11,13]<|qs [qI 14 1] [2,3,6,7,10,11,13,14]<|qs [qT 91 2 10,zM 92 14,q2 93 18 91 92,zM 14 93] [2,3,6,7,10,11,13,14]<|.seq (qs [zM 94 14,qk 95 .lss 94 0] [2,3,6,7,10,11,13,14,95]<|qc 95 (qr [qB 4 false] [4]) .skip)<|qs [qT 96 8 11,zM 97 14,q2 98 19 96 97,zM 14 98] [2,3,6,7,10,11,13,14]<|.seq (qs [zM 99 14,qk 100 .lss 99 0] [2,3,6,7,10,11,13,14,100]<|qc 100 (qr [qB 4 false] [4]) .skip)<|.seq (qs [zM 101 14,zM 102 13,qb 103 .neq 101 102] [2,3,6,7,10,11,13,103]<|qc 103 (qr [qB 4 false] [4]) .skip)<|.seq (.sH [(qT 105 2 2,[]),(q1 106 9 105,[0]),(qT 107 10 3,[]),(q1 108 10 107,[0,1,2]),(q2 109 11 106 108,rr4),(zM 104 109,rr5),(qE 110 104 0,rr6),(qE 111 104 1,rr6),(zA 15 (.alloc 18 [.lF 7,oJ 0]),[]),(zA 16 (.alloc 19 [oJ 0,.c (.str []),oJ 0,oJ 0,oJ 0,.c (.str []),.lF 1,.lF 5]),[]),(qS 2 15 110,[0,1,2,3,4,5,6,8,9]),(qS 8 16 111,ahj)] [6,7,10,11,13,15,16])<|.seq (qs [qT 112 2 15,qT 113 2 6,q2 114 12 112 113,qO 115 114,zM 116 115,zG 116 false 117 (.load true 8<|.t 16),zG 116 false 118 (.load true 8<|.t 7),⟨(some (116,false)),some 119,.call 13 [.t 117,.t 118]⟩,zG 116 false 120 (.not<|.t 119),qQ 121 116 120] [10,11,13,121]<|qc 121 (qr [qB 4 false] [4]) .skip)<|qs [qI 14 1] [10,11,13,14]<|qs [qT 122 2 10,zM 123 14,q2 124 18 122 123,zM 14 124] [11,13,14]<|.seq (qs [zM 125 14,qk 126 .lss 125 0] [11,13,14,126]<|qc 126 (qr [qB 4 false] [4]) .skip)<|qs [qT 127 8 11,zM 128 14,q2 129 19 127 128,zM 14 129] [13,14]<|.seq (qs [zM 130 14,qk 131 .lss 130 0] [13,14,131]<|qc 131 (qr [qB 4 false] [4]) .skip)<|.seq (qs [zM 132 14,zM 133 13,qb 134 .neq 132 133] [134]<|qc 134 (qr [qB 4 false] [4]) .skip)<|qr [qB 4 true] [4]
noncomputable abbrev mJ : Program:=Go.Proofs.Tryz.prog
noncomputable abbrev vW : Func:=Ew
noncomputable abbrev JK : Code:=(Ew.body).getD .skip
theorem Du : Ew.body=some JK:=by kernel_rfl
theorem NW : uO mJ 135 0 JK C.pM=true:=by kernel_rfl
def F5 : D6
 |56=>some (25,1,[.str 0])
 |67=>some (37,5,[.int 0,.int 1,.str 2,.sub 3 56,.sub 4 67])
 |58=>some (45,8,[.int 0,.sub 1 56,.sub 2 56,.int 3,.int 4,.str 5,.sub 6 56,.sub 7 67])
 |55=>some (34,7,I8 56 67)
 |_=>none
def BO : Y5
 |57=>some (5,[.sl 3 56,.sl 4 67])
 |15=>some (2,[.sl 0 55])
 |16=>some (10,[.sl 2 56,.sl 3 56,.st 4 5 57,.sl 9 58])
 |17=>some (8,[.st 3 5 57])
 |_=>none
theorem AA (f:Nat)(h:(F5 f).isSome=true):Zn mJ 66 F5 f=true:=by
 unfold F5 at h;split at h
 ·kernel_rfl
 ·kernel_rfl
 ·kernel_rfl
 ·kernel_rfl
 ·cases h
theorem xU (f:Nat)(h:(BO f).isSome=true):afV mJ BO f=true:=by
 unfold BO at h;split at h
 ·kernel_rfl
 ·kernel_rfl
 ·kernel_rfl
 ·kernel_rfl
 ·cases h
theorem Dk : JF mJ 66 tx:=λk h0 h1=>by obtain⟨n,hn⟩:=(Sj ⟨h0,h1⟩).val;exact F.iE hn
theorem FY : MT F5 56 67 25 37:=⟨rfl,rfl⟩
theorem aj6 : wz mJ 25=1:=by kernel_rfl
theorem aj7 : wz mJ 37=5:=by kernel_rfl
theorem aj8 : lZ mJ 37=[(3,25),(4,37)]:=by kernel_rfl
theorem aj9 : wz mJ 45=8:=by kernel_rfl
theorem aka : lZ mJ 45=[(1,25),(2,25),(6,25),(7,37)]:=by kernel_rfl
theorem Su : TyH mJ 25 37 45:=⟨aj6,aj7,aj8,aj9,aka⟩
theorem Hz : wz mJ 34=7:=by kernel_rfl
theorem FC : lZ mJ 34=[(5,25),(6,37)]:=by kernel_rfl
noncomputable abbrev NI : Code:=BC 7 JK
abbrev vV : bU:=C.pM
abbrev Dq : bU:=Ce 7 vV
noncomputable abbrev Uw : Code:=BC 7 NI
noncomputable abbrev Ux : Code:=BC 1 Uw
noncomputable abbrev NH : Code:=BC 1 Ux
noncomputable abbrev Uy : Code:=BC 2 NH
noncomputable abbrev Uz : Code:=BC 1 Uy
noncomputable abbrev aa1 : Code:=BC 1 Uz
abbrev E8 : bU:=Ce 2 (Ce 7 Dq)
abbrev Nu : bU:=Ce 2 (Ce 2 E8)
theorem aiB : uO mJ 135 0 NI Dq=true:=by kernel_rfl
theorem aiC : uO mJ 135 0 NH E8=true:=by kernel_rfl
theorem aiD : uO mJ 135 0 aa1 Nu=true:=by kernel_rfl
def wL : List OF:=[.vp 8 8 0,.row 8 ⟨0,34,100800⟩,.vp 9 9 0,.row 9 ⟨2,25,100902⟩,.row 9 ⟨3,25,100903⟩,.row 9 ⟨7,25,100907⟩,.row 9 ⟨8,37,100908⟩,.row 9 ⟨9,45,100909⟩,.vp 10 10 0,.row 10 ⟨0,34,101000⟩,.vp 11 11 0,.row 11 ⟨6,25,101106⟩,.row 11 ⟨7,37,101107⟩]
theorem abP : (DD mJ [] 7 JK vV []).isSome=true:=by kernel_rfl
theorem ajb : (match DD mJ [2,3,6,7] 7 NI Dq []with|some Γ =>wL.all Γ.contains|none=>false)=true:=by kernel_rfl
theorem ajc : (DD mJ [2,3,6,7,10,11] 2 NH E8 []).isSome=true:=by kernel_rfl
theorem abL : FW mJ 135 Uw=some (some 2,8,12,15,[65,66,67,12]):=by kernel_rfl
theorem abM : FW mJ 135 Ux=some (some 10,9,12,16,[68,69,70,12]):=by kernel_rfl
theorem abD : FW mJ 135 Uy=some (some 2,10,13,15,[85,86,87,13]):=by kernel_rfl
theorem abE : FW mJ 135 Uz=some (some 8,11,13,17,[88,89,90,13]):=by kernel_rfl
structure Ar (n:alG)(o:akh)(p0:alG)(p1:aI)(l1 l2:Int):Prop where
 s0:∃m,G.kL m n 1048576=some l1
 c0:decide (l1<0)=false
 t0:∃m,G.nR m n=some n
 a0:∃m,G.kS m n n=some true
 k0:iY n.akj<1000000000
 s1:∃m,G.lN m o l1=some l2
 c1:decide (l2<0)=false
 t1:∃m,G.pV m o=some o
 a1:∃m,G.sF m o o=some true
 k1:rqc o<1000000000
 w:∃m,G.jY m n o=some (p0,p1)
 g:∃m,G.dB m n o=some (p0,p1)
 e0:∃m,G.kS m p0 p0=some true
 h0:∃m,G.pU m (TU p0 1) 1=some (1+(iY p0.akj:Int))
 q0:iY p0.akj<1000000000
 e1:∃m,G.nZ m p1 p1=some true
 h1:∃m,G.qR m (adT p1 (1+(iY p0.akj:Int))) (1+(iY p0.akj:Int))=some (1+(iY p0.akj:Int)+(Uf p1.Body:Int))
 q1:Uf p1.Body<1000000000
abbrev aaA (n:akh):List AC:=[.c (.lit (.int .i64 n.amI)),.c (.str n.al9),.c (.sl 1 (ai cS n.anx)),.c (.sl 1 (ai cS n.lY)),.c (.lit (.int .i64 n.Body.alC)),.c (.lit (.int .i64 n.Body.Num)),.c (.str n.Body.amV),.c (.sl 1 (ai cS n.Body.aiJ)),.c (.sl 5 (ai ak.cells n.Body.ajX)),.c (.sl 8 (ai pW.cells n.Ops))]
abbrev al4 (n:akh):List Cell:=[.lit (.int .i64 n.amI),.str n.al9,.sl 1 (ai cS n.anx),.sl 1 (ai cS n.lY),.lit (.int .i64 n.Body.alC),.lit (.int .i64 n.Body.Num),.str n.Body.amV,.sl 1 (ai cS n.Body.aiJ),.sl 5 (ai ak.cells n.Body.ajX),.sl 8 (ai pW.cells n.Ops)]
abbrev acu (n:akh):Slot:=.v true (.one (.Gu (al4 n)))
abbrev akf (n:aI):List AC:=[.c (.lit (.int .i64 n.anA)),.c (.str n.Tag),.c (.lit (.int .i64 n.amX)),.c (.lit (.int .i64 n.Body.alC)),.c (.lit (.int .i64 n.Body.Num)),.c (.str n.Body.amV),.c (.sl 1 (ai cS n.Body.aiJ)),.c (.sl 5 (ai ak.cells n.Body.ajX))]
abbrev al5 (n:aI):List Cell:=[.lit (.int .i64 n.anA),.str n.Tag,.lit (.int .i64 n.amX),.lit (.int .i64 n.Body.alC),.lit (.int .i64 n.Body.Num),.str n.Body.amV,.sl 1 (ai cS n.Body.aiJ),.sl 5 (ai ak.cells n.Body.ajX)]
abbrev o5 (n:aI):Slot:=.v true (.one (.Gu (al5 n)))
abbrev zK (n:alG):List AC:=[.c (.sl 7 (ai bg.cells n.akj)),.c (.lit (.int .i64 n.amJ))]
abbrev Nq (n:alG):List Cell:=[.sl 7 (ai bg.cells n.akj),.lit (.int .i64 n.amJ)]
abbrev uJ (n:alG):Slot:=.v true (.one (.Gu (Nq n)))
abbrev zX (b:Bool):Slot:=.v true (.one (.c (.lit (.bool b))))
abbrev Bg (k:Int):Slot:=.v true (.one (.c (.lit (.int .i64 k))))
theorem acv {n:alG}{o:akh}{p0:alG}{p1:aI}{l1 l2:Int}(F0:Ar n o p0 p1 l1 l2){K:fH->Prop}(zf:VI K (fH.of [(2,.v true (.one (.ptr 10 0))),(3,.v true (.one (.ptr 11 0))),(6,.v true (.one (.ptr 12 0))),(7,.v true (.one (.ptr 13 0)))] [(10,.var (zK n)),(11,.var (aaA o)),(12,.var (zK p0)),(13,.var (akf p1))])):wpC mJ (takeA 7 vV) (QA K RL) (st0 [.agg (zK n),.agg (aaA o)] []):=by
 obtain⟨_,h1⟩:=F0.s0;obtain⟨_,h2⟩:=F0.s1;obtain⟨_,h3⟩:=F0.t0;obtain⟨_,h4⟩:=F0.t1;obtain⟨_,h5⟩:=F0.w;have zc:=pp (F.kL h1) <|pp (F.lN h2) <|pp (F.nR h3) <|pp (F.pV h4) <|pp (F.jY h5) <|()
 have c0:=F0.c0;have c1:=F0.c1;clear F0;refine qw ?_;unfold vV C.pM;simp only[takeA];exact Na
theorem acw {n:alG}{o:akh}{p0:alG}{p1:aI}{l1 l2:Int}(F0:Ar n o p0 p1 l1 l2){K:fH->Prop}(zf:VI K (fH.of [(2,uJ n),(3,acu o),(6,uJ p0),(7,o5 p1),(8,.v true (.one (.ptr 14 0))),(9,.v true (.one (.ptr 15 0))),(10,.v true (.one (.ptr 16 0))),(11,.v true (.one (.ptr 17 0))),(12,Bg 1)] [(14,.var (zK n)),(15,.var (aaA o)),(16,.var (zK p0)),(17,.var (akf p1))])):wpC mJ (takeA 7 Dq) (QA K RL) (fH.of [(2,uJ n),(3,acu o),(6,uJ p0),(7,o5 p1)] []):=by
 obtain⟨_,h1⟩:=F0.t0;obtain⟨_,h2⟩:=F0.t1;obtain⟨_,h3⟩:=F0.g;obtain⟨_,h4⟩:=F0.e0;obtain⟨_,h5⟩:=F0.e1;obtain⟨_,h6⟩:=F0.a0;obtain⟨_,h7⟩:=F0.a1;have zc:=pp (F.nR h1) <|pp (F.pV h2) <|pp (F.dB h3) <|pp (F.kS h4) <|pp (F.nZ h5) <|pp (F.kS h6) <|pp (F.sF h7) <|()
 clear F0;refine qw ?_;unfold Dq vV C.pM;simp only[takeA,Ce];exact Na
theorem acy {n:alG}{o:akh}{p0:alG}{p1:aI}{l1 l2:Int}{k:Int}(F0:Ar n o p0 p1 l1 l2)(hk:decide (k<0)=false){K:fH->Prop}(zf:VI K (fH.of [(2,uJ n),(3,acu o),(6,uJ p0),(7,o5 p1),(10,uJ p0),(11,o5 p1),(13,Bg 1)] [])):wpC mJ (takeA 2 E8) (QA K RL) (fH.of [(2,uJ n),(3,acu o),(6,uJ p0),(7,o5 p1),(10,uJ p0),(11,o5 p1),(12,Bg k)] []):=by
 obtain⟨_,h1⟩:=F0.e0;obtain⟨_,h2⟩:=F0.e1;have zc:=pp (F.kS h1) <|pp (F.nZ h2) <|()
 clear F0;refine qw ?_;unfold E8 Dq vV C.pM;simp only[takeA,Ce];exact Na
theorem acz {n:alG}{o:akh}{p0:alG}{p1:aI}{l1 l2:Int}(F0:Ar n o p0 p1 l1 l2):wpC mJ Nu (QF [.tmp 4] 0 (λr bs=>r=vz true/\bs=[])) (fH.of [(2,uJ n),(3,acu o),(6,uJ p0),(7,o5 p1),(10,uJ (TU p0 1)),(11,o5 (adT p1 (1+(iY p0.akj:Int)))),(13,Bg (1+(iY p0.akj:Int)+(Uf p1.Body:Int)))] []):=by
 obtain⟨_,h1⟩:=F0.t0;obtain⟨_,h2⟩:=F0.t1;obtain⟨_,h3⟩:=F0.g;obtain⟨_,h4⟩:=F0.e0;obtain⟨_,h5⟩:=F0.e1;obtain⟨_,h6⟩:=F0.h0;obtain⟨_,h7⟩:=F0.h1;have zc:=pp (F.nR h1) <|pp (F.pV h2) <|pp (F.dB h3) <|pp (F.kS h4) <|pp (F.nZ h5) <|pp (F.pU h6) <|pp (F.qR h7) <|()
 have hk0:decide (1+(iY p0.akj:Int)<0)=false:=aki (by omega);have hk1:decide (1+(iY p0.akj:Int)+(Uf p1.Body:Int)<0)=false:=aki (by omega);clear F0;refine qw ?_;unfold Nu E8 Dq vV C.pM;simp only[Ce];exact Na
theorem acG {n:alG}{o:akh}{l1:Int}{K:fH->Prop}(h0:∃m,G.kL m n 1048576=some l1)(hk0:decide (l1<0)=true):wpC mJ (takeA 7 vV) (QA K RL) (st0 [.agg (zK n),.agg (aaA o)] []):=by
 obtain⟨_,j0⟩:=h0;have zc:=pp (F.kL j0) <|()
 have zf:=();refine qw ?_;unfold vV C.pM;simp only[takeA];exact Na
theorem acH {n:alG}{o:akh}{l1 l2:Int}{K:fH->Prop}(h0:∃m,G.kL m n 1048576=some l1)(hk0:decide (l1<0)=false)(h1:∃m,G.lN m o l1=some l2)(hk1:decide (l2<0)=true):wpC mJ (takeA 7 vV) (QA K RL) (st0 [.agg (zK n),.agg (aaA o)] []):=by
 obtain⟨_,j0⟩:=h0;obtain⟨_,j1⟩:=h1;have zc:=pp (F.kL j0) <|pp (F.lN j1) <|()
 have zf:=();refine qw ?_;unfold vV C.pM;simp only[takeA];exact Na
theorem IP {S:Slot}{I:IH}{ρ:Ren}{v:Value}{x:Value}(h:XV I ρ v S)(e:S = .v true (.one (.c (.lit x)))):v=x:=by subst e;have h1:=h.1 rfl;cases h1;rfl
theorem WV {n:alG}{o:akh}{p0:alG}{p1:aI}{l1 l2:Int}(F0:Ar n o p0 p1 l1 l2):dI mJ 3 [.agg (zK n),.agg (aaA o)] (vz true):=by
 have hcr:Dv mJ vW.ntmps vW.results.toList [.tmp 4]=true:=by kernel_rfl
 obtain⟨Γ0,oA'⟩:=iW.1 abP;refine TM (fn:=vW) (ac:=vV) (by kernel_rfl) Du (by kernel_rfl) (by show 2<=vW.ntmps;exact(by kernel_rfl:decide (2<=vW.ntmps)=true) |> of_decide_eq_true) hcr NW oA' (λK zf=>acv F0 zf) ?_;intro w0 wA JA I ρ g a w A;obtain⟨hT,hG⟩:=A.gx;have hJ:=Hg (V:=aer ρ (fH.of [(2,.v true (.one (.ptr 10 0))),(3,.v true (.one (.ptr 11 0))),(6,.v true (.one (.ptr 12 0))),(7,.v true (.one (.ptr 13 0)))] [(10,.var (zK n)),(11,.var (aaA o)),(12,.var (zK p0)),(13,.var (akf p1))])) hG.agree;have s2:=Hw (x:=2) (b:=10) (cs:=Nq n) hG (by decide) rfl rfl rfl;have s3:=Hw (x:=3) (b:=11) (cs:=al4 o) hG (by decide) rfl rfl rfl;have s6:=Hw (x:=6) (b:=12) (cs:=Nq p0) hG (by decide) rfl rfl rfl;have s7:=Hw (x:=7) (b:=13) (cs:=al5 p1) hG (by decide) rfl rfl rfl;have hA:=BP (V:=aer ρ (fH.of [(2,.v true (.one (.ptr 10 0))),(3,.v true (.one (.ptr 11 0))),(6,.v true (.one (.ptr 12 0))),(7,.v true (.one (.ptr 13 0)))] [(10,.var (zK n)),(11,.var (aaA o)),(12,.var (zK p0)),(13,.var (akf p1))])) hG.agree;generalize I.with w _=JB at hJ s2 s3 s6 s7 hA;have hM:Mid mJ vW.ntmps w0 JB [(2,uJ n),(3,acu o),(6,uJ p0),(7,o5 p1)] a w:=⟨A.tabs.mono (IH.le_trans A.Jw hJ),hA,λt s hs=>by
  simp only[ay,bI,dn,or_false]at hs;rcases hs with⟨rfl,rfl⟩|⟨rfl,rfl⟩|⟨rfl,rfl⟩|⟨rfl,rfl⟩
  ·exact s2
  ·exact s3
  ·exact s6
  ·exact s7,hG.size,hG.defers,A.Be⟩
 clear A hG s2 s3 s6 s7 hJ hA;have hsz:=hM.Be.size;have hB:=ajb;split at hB
 case h_2=>cases hB
 rename_i ΓB oB';refine IW hcr (pa:=[(2,a.tmps.getD 2 undef),(3,a.tmps.getD 3 undef),(6,a.tmps.getD 6 undef),(7,a.tmps.getD 7 undef)]) (pl:=[2,3,6,7]) hM (by simp) (by intro e he;simp only[ay,dn,or_false]at he;rcases he with rfl|rfl|rfl|rfl<;>rfl) aiB oB' (λK zf=>acw F0 zf) ?_
 intro I1 ρ1 g1 a1 w1 A;have hmem:∀f,f∈wL->f ∈ ΓB:=λf hf=>by have:=List.all_eq_true.1 hB f hf;simpa using this
 obtain⟨hT1,hG⟩:=A.gx;obtain⟨k8,v8,e8,p8,q8,n8,r8,⟨_,_,_,u8⟩,g8⟩:=Fp (x:=8) (b:=14) (cs:=Nq n) (rows:=[(0,34,100800)]) hG A.ow (by decide) rfl rfl rfl (hmem _ (by simp[wL])) (λr hr=>hmem _ (by revert r;decide));obtain⟨k9,v9,e9,p9,q9,n9,r9,⟨_,_,_,u9⟩,g9⟩:=Fp (x:=9) (b:=15) (cs:=al4 o) (rows:=[(2,25,100902),(3,25,100903),(7,25,100907),(8,37,100908),(9,45,100909)]) hG A.ow (by decide) rfl rfl rfl (hmem _ (by simp[wL])) (λr hr=>hmem _ (by revert r;decide));obtain⟨k10,v10,e10,p10,q10,n10,r10,⟨_,_,_,u10⟩,g10⟩:=Fp (x:=10) (b:=16) (cs:=Nq p0) (rows:=[(0,34,101000)]) hG A.ow (by decide) rfl rfl rfl (hmem _ (by simp[wL])) (λr hr=>hmem _ (by revert r;decide));obtain⟨k11,v11,e11,p11,q11,n11,r11,⟨_,_,_,u11⟩,g11⟩:=Fp (x:=11) (b:=17) (cs:=al5 p1) (rows:=[(6,25,101106),(7,37,101107)]) hG A.ow (by decide) rfl rfl rfl (hmem _ (by simp[wL])) (λr hr=>hmem _ (by revert r;decide));have S8:=MW A.ow.good A.tabs A.MO A.old A.ag n8 r8 (by decide) g8 (KH Su Hz FC n _);have S9:=MW A.ow.good A.tabs A.MO A.old A.ag n9 r9 (by decide) g9 (Wl Su o _ _ _ _ _);have Qv:=MW A.ow.good A.tabs A.MO A.old A.ag n10 r10 (by decide) g10 (KH Su Hz FC p0 _);have MK:=MW A.ow.good A.tabs A.MO A.old A.ag n11 r11 (by decide) g11 (UA Su p1 _ _);have K0:Mks mJ vW.ntmps w0 w JB I1 g1 a1 w1:=⟨A.new,A.LD.size,A.old,A.Jw,A.ag,hG.size,hG.defers,A.Be,hsz⟩;have c0:=IP (hG.tm 12 (by decide)) rfl;refine Cf K0 S8 abL (JO (p8) q8 n8) c0 (ML.any (BL (xU 15 rfl) rfl (Hy AA xU Dk (La (sb:=BO) (ty:=tyR [(0,34,100800)]) (fI:=55) (tI:=34) FY rfl rfl n (by omega) (by have:=F0.k0;have:=F0.k1;have:=F0.q0;have:=F0.q1;omega))))) ?_;intro b1 y1 J1 K1 S8 c1 tk1 fr1 kp1;have S9:=kp1 S9 (apart (by decide) (by decide) (by decide));have Qv:=kp1 Qv (apart (by decide) (by decide) (by decide));have MK:=kp1 MK (apart (by decide) (by decide) (by decide));have q8:=(fr1 _ _ _ _ u8).trans q8;have q9:=(fr1 _ _ _ _ u9).trans q9;have q10:=(fr1 _ _ _ _ u10).trans q10;have q11:=(fr1 _ _ _ _ u11).trans q11;refine Cf K1 S9 abM (JO ((tk1 9 (by decide)).trans (p9)) q9 n9) c1 (ML.any (BL (xU 16 rfl) rfl (Hy AA xU Dk (ael (sb:=BO) (ty:=tyR [(2,25,100902),(3,25,100903),(7,25,100907),(8,37,100908),(9,45,100909)]) (fP:=58) (tP:=45) (fM:=57) FY rfl rfl rfl rfl rfl rfl rfl o (by omega) (by have:=F0.k0;have:=F0.k1;have:=F0.q0;have:=F0.q1;omega))))) ?_;intro b2 y2 J2 K2 S9 c2 tk2 fr2 kp2;have Qv:=kp2 Qv (apart (by decide) (by decide) (by decide));have MK:=kp2 MK (apart (by decide) (by decide) (by decide));have q9:=(fr2 _ _ _ _ u9).trans q9;have q10:=(fr2 _ _ _ _ u10).trans q10;have q11:=(fr2 _ _ _ _ u11).trans q11;have tk:∀t,t ∉ [65,66,67,12,68,69,70]->b2.tmps.getD t undef=a1.tmps.getD t undef:=λt ht=>by simp only[ay,dn,or_false,not_or]at ht;rw[tk2 t (by simp;omega),tk1 t (by simp;omega)]
 have hJ:=Hg (V:=λk=>k=k10\/k=k11) K2.ag;have hA:=BP (V:=λk=>k=k10\/k=k11) K2.ag;have aio:=Gi (I:=J2) (V:=λk=>k=k10\/k=k11) (.inl rfl) q10;have aip:=Gi (I:=J2) (V:=λk=>k=k10\/k=k11) (.inr rfl) q11;generalize J2.with y2 _=JC at hJ hA aio aip;have hJ':=IH.le_trans K2.Jw hJ;have hM3:Mid mJ vW.ntmps w0 JC [(2,uJ n),(3,acu o),(6,uJ p0),(7,o5 p1),(10,uJ p0),(11,o5 p1),(12,Bg (1+iY n.akj+rqc o))] b2 y2:=⟨hM.tabs.mono hJ',hA,λt s hs=>by
  simp only[ay,bI,dn,or_false]at hs;have base:∀t s,(t,s)∈[(2,uJ n),(3,acu o),(6,uJ p0),(7,o5 p1)]->t ∉ [65,66,67,12,68,69,70]->(t,a.tmps.getD t undef)∈[(2,a.tmps.getD 2 undef),(3,a.tmps.getD 3 undef),(6,a.tmps.getD 6 undef),(7,a.tmps.getD 7 undef)]->XV JC VE (b2.tmps.getD t undef) s:=λt s h1 h2 h3=>by rw[tk t h2,A.pa _ h3];exact(hM.sl t s h1).mono hJ' (λ_ _ h=>h)
  rcases hs with⟨rfl,rfl⟩|⟨rfl,rfl⟩|⟨rfl,rfl⟩|⟨rfl,rfl⟩|⟨rfl,rfl⟩|⟨rfl,rfl⟩|⟨rfl,rfl⟩
  ·exact base _ _ (by simp) (by decide) (by simp)
  ·exact base _ _ (by simp) (by decide) (by simp)
  ·exact base _ _ (by simp) (by decide) (by simp)
  ·exact base _ _ (by simp) (by decide) (by simp)
  ·rw[tk 10 (by decide)];exact D5 (p10) aio n10 λj v c hv hc=>(Qv.rd j v c hv hc).mono hJ
  ·rw[tk 11 (by decide)];exact D5 (p11) aip n11 λj v c hv hc=>(MK.rd j v c hv hc).mono hJ
  ·rw[c2];exact⟨λ_=>.lit _ rfl,λe=>by cases e⟩,K2.size,K2.defers,K2.Be⟩
 obtain⟨ΓE,oE'⟩:=iW.1 ajc;refine IW hcr (pa:=[(2,b2.tmps.getD 2 undef),(3,b2.tmps.getD 3 undef),(6,b2.tmps.getD 6 undef),(7,b2.tmps.getD 7 undef),(10,b2.tmps.getD 10 undef),(11,b2.tmps.getD 11 undef)]) (pl:=[2,3,6,7,10,11]) hM3 (by simp) (by intro e he;simp only[ay,dn,or_false]at he;rcases he with rfl|rfl|rfl|rfl|rfl|rfl<;>rfl) aiC oE' (λK zf=>acy F0 (aki (by omega)) zf) ?_
 intro I4 ρ4 g4 a4 w4 A4;obtain⟨hT4,hG4⟩:=A4.gx;have Qv:=Qv.quiet A4.LD;have q10:=(A4.LD.block _ (xN q10) λh=>h).trans q10;have z10:=(A4.pa (10,b2.tmps.getD 10 undef) (by simp)).trans ((tk 10 (by decide)).trans p10);have MK:=MK.quiet A4.LD;have q11:=(A4.LD.block _ (xN q11) λh=>h).trans q11;have z11:=(A4.pa (11,b2.tmps.getD 11 undef) (by simp)).trans ((tk 11 (by decide)).trans p11);have c3:=IP (hG4.tm 13 (by decide)) rfl;have K3:Mks mJ vW.ntmps w0 w JB J2 g1 a4 w4:=⟨K2.new,Nat.le_trans K2.sz A4.LD.size,K2.old,K2.Jw,K2.ag.quiet A4.LD,hG4.size,hG4.defers,A4.Be,K2.sz0⟩;refine Cf K3 Qv abD (JO (z10) q10 n10) c3 (ML.any (BL (xU 15 rfl) rfl (Hy AA xU Dk (La (sb:=BO) (ty:=tyR [(0,34,101000)]) (fI:=55) (tI:=34) FY rfl rfl p0 (by omega) (by have:=F0.k0;have:=F0.k1;have:=F0.q0;have:=F0.q1;omega))))) ?_;intro b4 y4 J4 K4 Qv c4 tk4 fr4 kp4;have MK:=kp4 MK (apart (by decide) (by decide) (by decide));have q10:=(fr4 _ _ _ _ u10).trans q10;have q11:=(fr4 _ _ _ _ u11).trans q11;refine Cf K4 MK abE (JO ((tk4 11 (by decide)).trans (z11)) q11 n11) c4 (ML.any (BL (xU 17 rfl) rfl (Hy AA xU Dk (ack (sb:=BO) (ty:=tyR [(6,25,101106),(7,37,101107)]) (fM:=57) FY rfl rfl rfl p1 (by omega) (by have:=F0.k0;have:=F0.k1;have:=F0.q0;have:=F0.q1;omega))))) ?_;intro b5 y5 J5 K5 MK c5 tk5 fr5 kp5;have Qv:=kp5 Qv (apart (by decide) (by decide) (by decide));have q10:=(fr5 _ _ _ _ u10).trans q10;have q11:=(fr5 _ _ _ _ u11).trans q11;have tg:∀t,t ∉ [85,86,87,13,88,89,90]->b5.tmps.getD t undef=a4.tmps.getD t undef:=λt ht=>by simp only[ay,dn,or_false,not_or]at ht;rw[tk5 t (by simp;omega),tk4 t (by simp;omega)]
 have hJ5:=Hg (V:=λk=>k=k10\/k=k11) K5.ag;have hA5:=BP (V:=λk=>k=k10\/k=k11) K5.ag;have aiq:=Gi (I:=J5) (V:=λk=>k=k10\/k=k11) (.inl rfl) q10;have air:=Gi (I:=J5) (V:=λk=>k=k10\/k=k11) (.inr rfl) q11;generalize J5.with y5 _=JD at hJ5 hA5 aiq air;have abl:=IH.le_trans K5.Jw hJ5;refine WS hcr (ts:=[(2,uJ n),(3,acu o),(6,uJ p0),(7,o5 p1),(10,uJ (TU p0 1)),(11,o5 (adT p1 (1+(iY p0.akj:Int)))),(13,Bg (1+(iY p0.akj:Int)+(Uf p1.Body:Int)))]) ⟨hM.tabs.mono abl,hA5,λt s hs=>?_,K5.size,K5.defers,K5.Be⟩ aiD (acz F0);simp only[ay,bI,dn,or_false]at hs;have base:∀t s,(t,s)∈[(2,uJ n),(3,acu o),(6,uJ p0),(7,o5 p1)]->t ∉ [65,66,67,12,68,69,70]->t ∉ [85,86,87,13,88,89,90]->(t,b2.tmps.getD t undef)∈[(2,b2.tmps.getD 2 undef),(3,b2.tmps.getD 3 undef),(6,b2.tmps.getD 6 undef),(7,b2.tmps.getD 7 undef),(10,b2.tmps.getD 10 undef),(11,b2.tmps.getD 11 undef)]->(t,a.tmps.getD t undef)∈[(2,a.tmps.getD 2 undef),(3,a.tmps.getD 3 undef),(6,a.tmps.getD 6 undef),(7,a.tmps.getD 7 undef)]->XV JD VE (b5.tmps.getD t undef) s:=λt s h1 h2 h3 h4 h5=>by
  rw[tg t h3,A4.pa _ h4]
  dsimp only
  rw[tk t h2,A.pa _ h5];exact(hM.sl t s h1).mono abl (λ_ _ h=>h)
 rcases hs with⟨rfl,rfl⟩|⟨rfl,rfl⟩|⟨rfl,rfl⟩|⟨rfl,rfl⟩|⟨rfl,rfl⟩|⟨rfl,rfl⟩|⟨rfl,rfl⟩
 ·exact base _ _ (by simp) (by decide) (by decide) (by simp) (by simp)
 ·exact base _ _ (by simp) (by decide) (by decide) (by simp) (by simp)
 ·exact base _ _ (by simp) (by decide) (by decide) (by simp) (by simp)
 ·exact base _ _ (by simp) (by decide) (by decide) (by simp) (by simp)
 ·rw[tg 10 (by decide)];exact D5 (z10) aiq n10 λj v c hv hc=>(Qv.rd j v c hv hc).mono hJ5
 ·rw[tg 11 (by decide)];exact D5 (z11) air n11 λj v c hv hc=>(MK.rd j v c hv hc).mono hJ5
 ·rw[c5];exact⟨λ_=>.lit _ rfl,λe=>by cases e⟩
theorem JL {n:alG}{o:akh}(hw:wpC mJ (takeA 7 vV) (QA (λ_=>False) RL) (st0 [.agg (zK n),.agg (aaA o)] [])):dI mJ 3 [.agg (zK n),.agg (aaA o)] (vz true):=by
 have hcr:Dv mJ vW.ntmps vW.results.toList [.tmp 4]=true:=by kernel_rfl
 obtain⟨Γ0,oA'⟩:=iW.1 abP;exact TL (fn:=vW) (ac:=vV) (by kernel_rfl) Du (by kernel_rfl) (by show 2<=vW.ntmps;exact(by kernel_rfl:decide (2<=vW.ntmps)=true) |> of_decide_eq_true) hcr NW oA' hw
theorem aby {n:alG}{o:akh}{D:Nat}(hn1:n.akj.length<=mx)(hn2:∀x,x∈n.akj->VJ mx D x){E:Nat}(ho:aaD E o):dI mJ 3 [.agg (zK n),.agg (aaA o)] (vz true):=by
 obtain⟨l1,h1,b1,f1⟩:=T.XH hn1 hn2 (left:=1048576) (by decide) (by decide);by_cases c1:l1<0
 ·exact JL (acG h1.val (al6 c1))
 obtain⟨l2,h2,b2,f2⟩:=T.XG ho (left:=l1) (by omega) (by omega);by_cases c2:l2<0
 ·exact JL (acH h1.val (aki c1) h2.val (al6 c2))
 obtain⟨f1,k1⟩:=f1 (by omega);obtain⟨f2,k2⟩:=f2 (by omega);obtain⟨v1,v2⟩:=Jf n o;have r1:=O4 v1;have r2:=Sr v2;have r3:=r2.k;have m2:=ank o;have m1:=Dz n.akj;have m3:=Dz (yz n o).1.akj;have r5:=r1.k;have r6:=r1.l;exact WV (p0:=(yz n o).1) (p1:=(yz n o).2) {
  s0:=h1.val,c0:=aki c1,t0:=(T.aav f1).val,a0:=(T.OL f1).val,k0:=by omega
  s1:=h2.val,c1:=aki c2,t1:=(T.YY f2).val,a1:=(T.Yy f2).val,k1:=by omega
  w:=(T0.jY f1 f2).val,g:=(T0.dB f1 f2).val
  e0:=(T.OL r1.f).val,h0:=(T.TA _ (by omega) (by omega) (by omega)).val,q0:=by omega
  e1:=(T.Wy r2).val,h1:=(T.ZJ _ (by omega) (by omega)).val,q1:=by omega }
end Go.Ab
namespace Go.Proofs.YtfengbmckcgbiaaGreatDoor.fnExactHandleRequest
open Go Go.ChangeShapes Go.WideShapes Go.ChangeAt Go.RowKit Go.Ab
theorem own : ownKnob Tryz.prog.godebug=none:=by kernel_rfl
theorem laidOut : laidOutB Tryz.prog=true:=by kernel_rfl
theorem tyN : OC Tryz.prog 3 9 25 28 26:=⟨by kernel_rfl,by kernel_rfl,by kernel_rfl,by kernel_rfl,⟨_,Tryz.underlying28,by kernel_rfl⟩,by kernel_rfl,by kernel_rfl,by kernel_rfl,by kernel_rfl,by kernel_rfl⟩
theorem tyO : Yk Tryz.prog 3 9 25 28 26 107 29:=⟨tyN,by kernel_rfl,⟨_,Tryz.underlying107,by kernel_rfl⟩,by kernel_rfl,by kernel_rfl⟩
theorem tyT : VQ Tryz.prog 3 9 25 28 26 103 22 24:=⟨tyN,⟨_,Tryz.underlying103,by kernel_rfl⟩,by kernel_rfl,⟨_,Tryz.underlying24,by kernel_rfl⟩,by kernel_rfl,by kernel_rfl,by kernel_rfl⟩
theorem tyR : VN Tryz.prog 3 9 25 28 26 107 29 31:=⟨tyO,⟨_,Tryz.underlying31,by kernel_rfl⟩,by kernel_rfl⟩
theorem met {W:World}(h:laidMetH Tryz.prog Rows.fnExactHandleRequestRow.laid W):laidMet Tryz.prog Rows.fnExactHandleRequestRow.laid W:=by unfold laidMetH at h;rw[show(Rows.fnExactHandleRequestRow.laid.filter λx=>x.2.handleName?.isSome)=[]from by kernel_rfl]at h;exact h
theorem ajG {W:World} (hL:laidMetH Tryz.prog Rows.fnExactHandleRequestRow.laid W):∀g,Tryz.prog.globalNamed "internal/strconv.uint64pow10" = some g->I0 W g=some (qo.map λz=>Go.Value.int .u64 z).toArray:=by
 have h:=OQ 2 (met hL);rw[show Rows.fnExactHandleRequestRow.laid.drop 2=("internal/strconv.uint64pow10",Lib.tabData .u64 qo)::Rows.fnExactHandleRequestRow.laid.drop 3 from by kernel_rfl]at h
 exact ad7 (g:=1) (t:=208) (e:=196) (by kernel_rfl) (by kernel_rfl) (by kernel_rfl) (by kernel_rfl) (by kernel_rfl) (by kernel_rfl) h
theorem ajH {W:World} (hS:W.ShapedOpen Tryz.prog):∀g,Tryz.prog.globalNamed "internal/bytealg.MaxLen" = some g->∃m,(I0 W).cell ⟨g,0,none⟩=some (.int .i64 m):=
 adW (g:=0) (t:=3) hS (by kernel_rfl) (of_decide_eq_true (by kernel_rfl)) (by kernel_rfl) (by kernel_rfl) (by kernel_rfl) (by kernel_rfl)
theorem tabs {W:World} (hS:W.ShapedOpen Tryz.prog) (hL:laidMetH Tryz.prog Rows.fnExactHandleRequestRow.laid W):Tabs Tryz.prog (I0 W):=⟨ajG hL,ajH hS,(λg hg=>by cases hg.symm.trans (show Tryz.prog.globalNamed "strconv.ErrSyntax" = none by kernel_rfl)),(λg hg=>by cases hg.symm.trans (show Tryz.prog.globalNamed "strconv.ErrRange" = none by kernel_rfl))⟩
theorem contract (H:Type)(enc:TypeId×Value->H)(W:World)(base:Nat)(args:Array Value)(ds gs:List (DataW H))(before:List MemPlace)
 (hval:∀(j:Nat) t v,Tryz.f3.params[j]? = some t->args[j]? = some v->Value.okWide Tryz.prog W .any base t v)
 (hW:DataW.Whole enc Tryz.prog Tryz.f3.params.toList Rows.fnExactHandleRequestSpec.vars false W args.toList ds gs before)
 (hS:W.ShapedOpen Tryz.prog) (hL:laidMetH Tryz.prog Rows.fnExactHandleRequestRow.laid W) :
 Calls Tryz.prog 3 args W λe W'=>∃v,e = .returned v/\Rows.fnExactHandleRequestSpec.post enc Tryz.prog Tryz.f3 false true false false W args v W':=by
 have hW':=hW;obtain⟨p,q,hA0,hV,rfl,hfz,hnd⟩:=hW;have hA:DataW.TrodAll enc Tryz.prog W 0 (λ_=>true) true Tryz.f3.params.toList args.toList ds p:=hA0;rw[Tryz.params3]at hA hval;obtain⟨v0,vs0,d0,ds0,p0,q0,hargs,rfl,rfl,h0,r0⟩:=trodAll_cons hA;obtain⟨v1,vs1,d1,ds1,p1,q1,rfl,rfl,rfl,h1,r1⟩:=trodAll_cons r0;obtain⟨rfl,rfl,rfl⟩:=trodAll_nil r1;obtain rfl:args = #[v0,v1]:=by cases args;simp_all
 obtain⟨rfl,rfl⟩:=trodVars_none hV;clear hA0;simp only[iQ]at hW';have hlt:∀x∈(p0++p1),x.block<W.heap.size:=λx hx=>hW'.lt x (by simpa using hx);obtain⟨c0,rfl,_⟩:=okWide_struct Tryz.underlying24 (hval 0 24 v0 rfl rfl);have hk0:=h0;obtain⟨f0,g0⟩:=h0;obtain⟨x0,e0,_,m0,D0,n0⟩:=Qn tyT g0;obtain⟨c1,rfl,_⟩:=okWide_struct Tryz.underlying31 (hval 1 31 v1 rfl rfl);have hk1:=h1;obtain⟨f1,g1⟩:=h1;obtain⟨x1,e1,_,D1,m1⟩:=RJ tyR g1;have key:=adO (tabs hS hL) (ZI (Vz e0) (Vz e1)) (aby m0 n0 m1);refine Calls.mono key λe W' ⟨he,hb⟩=>?_;subst he;have ht:DataW.TrodAll enc Tryz.prog W' 0 (λb=>decide (b<W.heap.size)) true [24,31] [_,_] [d0,d1] (p0++(p1++[])):=trodAll_cons_mk (Below.trod laidOut (by kernel_rfl) (of_decide_eq_true (by kernel_rfl)) hk0 hb (λx hx=>hlt x (List.mem_append_left _ hx))) (trodAll_cons_mk (Below.trod laidOut (by kernel_rfl) (of_decide_eq_true (by kernel_rfl)) hk1 hb (λx hx=>hlt x (List.mem_append_right _ hx))) (trodAll_mk0));simp only[iQ]at ht;exact⟨_,rfl,_,_,_,[],_,[],hW',trodAll_cons_mk (shut_bool Tryz.underlying4 _) trodAll_mk0,
  ht,rfl,hb.frame _,λh=>by cases h⟩
noncomputable def laidWorld (os:Os):World:=World.laidAll Tryz.prog os Rows.fnExactHandleRequestRow.laid
theorem laid_met (os:Os):laidMet Tryz.prog Rows.fnExactHandleRequestRow.laid ((laidWorld os).forCall (λ_ _=>0) ⟨#[],#[.agg #[.slice none 0 0,.int .i64 0],.agg #[.int .i64 0,.string ⟨#[]⟩,.slice none 0 0,.slice none 0 0,.int .i64 0,.int .i64 0,.string ⟨#[]⟩,.slice none 0 0,.slice none 0 0,.slice none 0 0]],[]⟩).memory:=
 laidMet_laidAll _ (by kernel_rfl) (by kernel_rfl)
theorem reads (os:Os){H:Type}(enc:TypeId×Value->H):∃places,DataW.whole enc Tryz.prog ((laidWorld os).forCall (λ_ _=>0) ⟨#[],#[.agg #[.slice none 0 0,.int .i64 0],.agg #[.int .i64 0,.string ⟨#[]⟩,.slice none 0 0,.slice none 0 0,.int .i64 0,.int .i64 0,.string ⟨#[]⟩,.slice none 0 0,.slice none 0 0,.slice none 0 0]],[]⟩).memory Tryz.f3.params.toList Rows.fnExactHandleRequestSpec.vars false #[.agg #[.slice none 0 0,.int .i64 0],.agg #[.int .i64 0,.string ⟨#[]⟩,.slice none 0 0,.slice none 0 0,.int .i64 0,.int .i64 0,.string ⟨#[]⟩,.slice none 0 0,.slice none 0 0,.slice none 0 0]].toList 8=some ([.agg [.nil,.lit (.int .i64 0)],.agg [.lit (.int .i64 0),.lit (.string []),.nil,.nil,.agg [.lit (.int .i64 0),.lit (.int .i64 0),.lit (.string []),.nil,.nil],.nil]],[],places):=
 ⟨[],by kernel_rfl⟩
theorem lifted (os:Os)(started:os.Started)(H:Type)(enc:TypeId×Value->H)(F:Stop.Interp) :
 ReturnsInHanded {} Tryz.checked os 3 .any ((iZ Rows.fnExactHandleRequestSpec).preRow enc Tryz.prog Tryz.f3 Rows.fnExactHandleRequestRow.domain false Rows.fnExactHandleRequestRow.laid) (((iZ Rows.fnExactHandleRequestSpec).at F).post enc Tryz.prog Tryz.f3 false true false false):=by
 obtain⟨places,hx⟩:=reads os enc;refine returnsInHanded_of_row (C:=Tryz.checked) (s:=iZ Rows.fnExactHandleRequestSpec) own started (by kernel_rfl) Tryz.func3
  (witness_row_atRef (enc:=enc) (C:=Tryz.checked) false (laidWorld os) #[.agg #[.slice none 0 0,.int .i64 0],.agg #[.int .i64 0,.string ⟨#[]⟩,.slice none 0 0,.slice none 0 0,.int .i64 0,.int .i64 0,.string ⟨#[]⟩,.slice none 0 0,.slice none 0 0,.slice none 0 0]] (World.laidAll_os _ _ _) (by kernel_rfl) (by kernel_rfl) (by kernel_rfl)
   (OpenSpec.preRow_of_cond 8 hx (by kernel_rfl) (λk hk=>by cases hk) (by kernel_rfl) (laid_met os))) ?_
 intro W base args ds gs before hval hW _ _ _ hL hS _;exact contract H enc W base args ds gs before hval hW hS hL
theorem j1 : (Rows.fnExactHandleRequestRow.inPlace==Tryz.prog.inPlace 3)=true:=by kernel_rfl
theorem j2 : (Rows.fnExactHandleRequestRow.unfollowed==Tryz.prog.unfollowed 3)=true:=by kernel_rfl
theorem j3 : (Rows.fnExactHandleRequestRow.recurses==Tryz.prog.recurses 3)=true:=by kernel_rfl
theorem j4 : (Rows.fnExactHandleRequestRow.named==Tryz.prog.varsNamed 3)=true:=by kernel_rfl
theorem j5 : joinedFacts Tryz.prog 3 Tryz.f3 (iZ Rows.fnExactHandleRequestSpec).bare Rows.fnExactHandleRequestRow=true:=by
 unfold joinedFacts;rw[j1,j2,j3,j4]
 kernel_rfl
theorem j6 : Tryz.prog.funcNamed Rows.fnExactHandleRequestRow.func=some 3:=by kernel_rfl
theorem said : Rows.FnExactHandleRequestSaid:=
 OpenClaim.holds_of_cond 3 Tryz.f3 rfl rfl rfl rfl rfl rfl rfl ⟨rfl,rfl,rfl,rfl,rfl⟩ rfl rfl rfl rfl rfl j6 Tryz.func3 j5
  (of_decide_eq_true (by kernel_rfl)) (by unfold Func.isWrapper;first|(rw[ahl (by decide +kernel)];kernel_rfl)|(rw[ahk (by decide +kernel)];exact⟨rfl,rfl⟩))
  (λos started H enc _ F=>by rw[OpenClaim.pre_eq_preRow];exact lifted os started H enc F)
theorem jw : Rows.fnExactHandleRequestRow.wfByText (iZ Rows.fnExactHandleRequestSpec)=true:=by kernel_rfl
theorem jm : Tryz.pinned.checked.prog.mainIs=some (Rows.fnExactHandleRequestCard.stood.harness.1,Rows.fnExactHandleRequestCard.stood.harness.2.toList):=by kernel_rfl
theorem jg : false=Rows.fnExactHandleRequestRow.goesBy Tryz.pinned.checked.prog:=by kernel_rfl
theorem plain (f:FuncId)(fn:Func)(hf:Tryz.pinned.checked.prog.funcNamed Rows.fnExactHandleRequestRow.func=some f)(hfn:Tryz.pinned.checked.prog.funcs[f]? = some fn) :
 false=Tryz.pinned.checked.prog.looks []/\∀(j:Nat) t,fn.params[j]? = some t->Tryz.pinned.checked.prog.wantsStandIn t=false:=by
 obtain rfl:f=3:=uH ((show Tryz.prog.funcNamed Rows.fnExactHandleRequestRow.func=some 3 by kernel_rfl).symm.trans hf) |>.symm;obtain rfl:fn=Tryz.f3:=(uH (Tryz.func3.symm.trans hfn)).symm;refine⟨by kernel_rfl,λj t ht=>?_⟩;rw[Tryz.params3]at ht;have ht':t=24\/t=31:=by simpa using Array.mem_of_getElem? ht
 rcases ht' with rfl|rfl
 ·exact(show Tryz.prog.wantsStandIn 24=false by kernel_rfl)
 ·exact(show Tryz.prog.wantsStandIn 31=false by kernel_rfl)
theorem card : Rows.FnExactHandleRequestCardSaid:=
 Claim7.holds_tied_plain_at .later [] _ _ _ _ said (λ_ h=>by cases h) jw (λ_ h=>by cases h) fnExactHandleRequest_row_tie rfl ⟨rfl,rfl⟩ jm rfl plain jg
end Go.Proofs.YtfengbmckcgbiaaGreatDoor.fnExactHandleRequest
end
