/- The functions of the program that the laws reach: what they compute, the proofs that they do, the laws of the data (part 4). No conditions. -/
import Derived.Test.YtcoolhkhnglfgaaGreatDoorC3
set_option linter.unusedVariables false
set_option linter.unusedSimpArgs false
set_option maxRecDepth 100000
set_option maxHeartbeats 4000000
set_option linter.defProp false
set_option linter.unusedSectionVars false
open Go.DataW renaming trod->vC
open Go.IntKind renaming wrap->af
open Go.Lib renaming pow10Tab->vW
open List renaming getElem?_cons_zero->Aa,range->Bl,getElem?_eq_getElem->aB,map->ag,length_append->ay,getElem?_eq_some_iff->bn,getElem?_append_left->dU,getElem?_append_right->fF,mem_iff_getElem->jM
open Nat renaming zero_le->aN,strongRecOn->dw
open Option.some renaming injEq->aJ
namespace Go.Ab
open Go
theorem F.cZ {n:Nat} : ∀{aA r},G.cZ n aA=some r->dS pZ 39 [.agg [.c (.sl 7 (ag bG.cells aA.Items)),wI aA.Clock]] (.one (.c (.lit (.bool r)))):=by
 intro aA r h;refine aZ K.cZ (qi ?_);unfold C.cZ;rcases n with _|n<;>simp only[G.cZ,reduceCtorEq]at h;have z:=pp (pp @F.jJ <|pp @F.aX ()) <|pp () <|pp (pp (@qY (Int) _ (λn x=>G.cZ.L1 n aA x) r (λx=>iy.of [eP 1 103,(20,.v true (.one (.c (.sl 7 (ag bG.cells aA.Items))))),eI 21 (aA.Items.length:Int),eI 22 x] [(103,.var [.c (.sl 7 (ag bG.cells aA.Items)),wI aA.Clock])])) ()) <|pp () <|pp (pp (aV @G.cZ.L1.eq_1 <|@G.cZ.L1.eq_2) ()) <|pp (pp (@dH [] [(103,10)] []) <|pp (@dH [] [(103,103)] []) ()) <|()
 exact rf
theorem F.qf {n:Nat} : ∀{lG r},G.qf n lG=some r->dS pZ 41 [.agg [wS lG.Name,wI lG.Version,wI lG.Node.Kind,wI lG.Node.Num,wS lG.Node.Text,wT lG.Node.Names,wK lG.Node.Kids]] (.agg [wS r.Name,wI r.Version,wI r.Node.Kind,wI r.Node.Num,wS r.Node.Text,wT r.Node.Names,wK r.Node.Kids]):=by
 intro lG r h;refine aZ K.qf (qi ?_);unfold C.qf;rcases n with _|n<;>simp only[G.qf,reduceCtorEq]at h;have z:=pp (pp @F.aP ()) <|pp () <|pp () <|pp () <|pp () <|pp () <|()
 exact rf
theorem F.dP {n:Nat} : ∀{aA r},G.dP n aA=some r->dS pZ 24 [.agg [.c (.sl 7 (ag bG.cells aA.Items)),wI aA.Clock]] (.agg [.c (.sl 7 (ag bG.cells r.Items)),wI r.Clock]):=by
 intro aA r h;refine aZ K.dP (qi ?_);unfold C.dP;rcases n with _|n<;>simp only[G.dP,reduceCtorEq]at h;have z:=pp (pp @F.qf ()) <|pp () <|pp (pp (@qY (Int×List bG) _ (λn x=>G.dP.L1 n aA x.1 x.2) r (λx=>iy.of [eP 2 107,eP 3 108,(19,.v true (.one (.c (.sl 7 (ag bG.cells aA.Items))))),eI 20 (aA.Items.length:Int),eI 21 x.1] [(107,.var [.jC 7,wI 0]),(108,.var [.own 109 x.2.length 7,wI aA.Clock]),(109,.dat 7 (ag bG.cells x.2))])) ()) <|pp () <|pp (pp (aV @G.dP.L1.eq_1 <|@G.dP.L1.eq_2) ()) <|pp (pp (@dH [] [(107,11),(108,12),(109,13)] []) <|pp (@dH [] [(107,107),(108,108),(109,109)] []) ()) <|()
 exact rf
theorem F.GM {n:Nat} : ∀{aA r},G.dP n aA=some r->lD pZ 24 [.agg [.c (.sl 7 (ag bG.cells aA.Items)),wI aA.Clock]] [] (λr1 b1=>r1 = .agg [.own 0 r.Items.length 7,wI r.Clock]/\b1=[.dat 7 (ag bG.cells r.Items)]):=by
 intro aA r h;refine mV K.dP (qi ?_);unfold C.dP;rcases n with _|n<;>simp only[G.dP,reduceCtorEq]at h;have z:=pp (pp @F.qf ()) <|pp () <|pp (pp (@qY (Int×List bG) _ (λn x=>G.dP.L1 n aA x.1 x.2) r (λx=>iy.of [eP 2 107,eP 3 108,(19,.v true (.one (.c (.sl 7 (ag bG.cells aA.Items))))),eI 20 (aA.Items.length:Int),eI 21 x.1] [(107,.var [.jC 7,wI 0]),(108,.var [.own 109 x.2.length 7,wI aA.Clock]),(109,.dat 7 (ag bG.cells x.2))])) ()) <|pp () <|pp (pp (aV @G.dP.L1.eq_1 <|@G.dP.L1.eq_2) ()) <|pp (pp (@dH [] [(107,11),(108,12),(109,13)] []) <|pp (@dH [] [(107,107),(108,108),(109,109)] []) ()) <|(pp (@yc [] [(0,109)] []) <|pp (@yc [] [] [0]) ())
 exact rf
theorem F.qw {n:Nat} : ∀{lG eY r},G.qw n lG eY=some r->dS pZ 172 [.agg [wS lG.Name,wI lG.Version,wI lG.Node.Kind,wI lG.Node.Num,wS lG.Node.Text,wT lG.Node.Names,wK lG.Node.Kids],.one (wS eY)] (.one (wI r)):=by
 intro lG eY r h;refine aZ K.qw (qi ?_);unfold C.qw;rcases n with _|n<;>simp only[G.qw,reduceCtorEq]at h;have z:=pp (pp @F.strings_Compare ()) <|pp () <|pp () <|pp () <|pp () <|pp () <|()
 exact rf
theorem F.aH {n:Nat} : ∀{sN pV r},G.aH n sN pV=some r->dS pZ 171 [.one (.c (.sl 7 (ag bG.cells sN))),.one (wS pV),.one (.fn 172 [])] (.wu [(false,[wI r.1]),(false,[.c (.lit (.bool r.2))])]):=by
 intro sN pV r h;refine aZ K.aH (qi ?_);unfold C.wP;rcases n with _|n<;>simp only[G.aH,reduceCtorEq]at h;have z:=pp (pp @F.qw ()) <|pp () <|pp (pp (@qY (Int×Int) _ (λn x=>G.aH.L1 n sN pV x.1 x.2) r (λx=>iy.of [(0,.v true (.one (.c (.sl 7 (ag bG.cells sN))))),eS 1 pV,(2,.v true (.one (.fn 172 []))),eI 8 (sN.length:Int),eI 9 x.1,eI 10 x.2] [])) ()) <|pp () <|pp (pp (aV @G.aH.L1.eq_1 <|@G.aH.L1.eq_2) ()) <|pp (pp (@dH [] [] []) ()) <|()
 exact rf
theorem F.nN {n:Nat} : ∀{yw eY r},G.nN n yw eY=some r->dS pZ 135 [.one (.c (.sl 7 (ag bG.cells yw))),.one (wS eY)] (.wu [(false,[wI r.1]),(false,[.c (.lit (.bool r.2))])]):=by
 intro yw eY r h;refine aZ K.nN (qi ?_);unfold C.nN;rcases n with _|n<;>simp only[G.nN,reduceCtorEq]at h;have z:=pp () <|pp (pp (pp @F.aH (@cG [] [])) ()) <|pp () <|pp () <|pp () <|pp () <|()
 exact rf
theorem F.nO {n:Nat} : ∀{aA:List bG} {Gt:Int} {UU:Int} {r:List bG},G.nO n aA Gt UU=some r ->
 lD pZ 175 [.one (.own 0 aA.length 7),.one (wI Gt),.one (wI UU)] [.dat 7 (ag bG.cells aA)]
  (λr1 b1=>r1 = .one (.own 1 r.length 7)/\b1=[.dead,.dat 7 (ag bG.cells r)]):=by
 intro s i j r h;rcases n with _|n<;>simp only[G.nO,reduceCtorEq]at h;exact FG.del _ (cb:=104) (by decide) K.nO h
theorem F.rQ {n:Nat} : ∀{aA eY r},G.rQ n aA eY=some r->dS pZ 138 [.agg [.c (.sl 7 (ag bG.cells aA.Items)),wI aA.Clock],.one (wS eY)] (.wu [(true,[.c (.sl 7 (ag bG.cells r.1.Items)),wI r.1.Clock]),(false,[.c (.lit (.bool r.2))])]):=by
 intro aA eY r h;refine aZ K.rQ (qi ?_);unfold C.rQ;rcases n with _|n<;>simp only[G.rQ,reduceCtorEq]at h;have z:=pp (pp @F.cZ <|pp @F.nN ()) <|pp (pp (pp @F.GM (@cG [] [101])) <|pp (pp @F.nO (@cG [101] [102])) ()) <|pp () <|pp () <|pp () <|pp () <|()
 exact rf
theorem B.lays167 : Go.Proofs.Lays.n167 pZ B.ren:=by constructor<;>first|kernel_rfl|(intro w;kernel_rfl)
theorem F.aS {n:Nat} : ∀{BO:iC} {Gs:Int} {r:Unit×iC},G.aS n BO Gs=some r->lD pZ 12 [.one (.ptr 0 0),.one (.c (.lit (.int .u8 Gs)))] [.var [.opt 40 0,.vS 1 BO.buf.length],.row 5 BO.buf] (λr1 b1=>r1 = .one (.c (.lit .nilIface))/\b1=[.var [.opt 40 0,.vS 2 r.2.buf.length],.dead,.row 5 r.2.buf]):=by intro b c r h;rcases n with _|n<;>simp only[G.aS,reduceCtorEq]at h;obtain⟨⟨hc,hl⟩,h⟩:=yP.1 h;cases h;exact SI B.lays167 B.x hc hl
theorem F.gU {n:Nat} : ∀{BO aA r},G.gU n BO aA=some r->lD pZ 134 [.one (.ptr 0 0),.one (wS aA)] [.var [.opt 40 0,.vS 1 BO.buf.length],.row 5 BO.buf] (λr1 b1=>r1 = .wu []/\b1=[.var [.opt 40 0,.vS 2 r.buf.length],.dead,.row 5 r.buf]):=by
 intro BO aA r h;refine mV K.gU (qi ?_);unfold C.gU;rcases n with _|n<;>simp only[G.gU,reduceCtorEq]at h;have z:=pp () <|pp (pp (pp @F.aS (@cG [0,1] [101])) <|pp (pp @F.aS (@cG [0,116] [121])) <|pp (pp @F.aS (@cG [0,116] [122])) <|pp (pp @F.aS (@cG [0,119] [120])) <|pp (pp @F.aS (@cG [0,116] [123])) ()) <|pp (pp (@qY (Int×aO) _ (λn x=>G.gU.L3 n aA x.1 x.2) r (λx=>iy.of [eP 0 0,eS 1 aA,eI 4 x.1] [(0,.var [.opt 40 0,.vS 116 x.2.length]),(1,.dead),(116,.row 5 x.2)])) ()) <|pp (pp (@zh (Int×aO) _ (λn x=>G.gU.K4 n aA x.1 x.2) r (λx=>iy.of [eP 0 0,eS 1 aA,eI 4 x.1] [(0,.var [.opt 40 0,.vS 119 x.2.length]),(1,.dead),(119,.row 5 x.2)])) ()) <|pp (pp (aV @G.gU.L3.eq_1 <|aV @G.gU.L3.eq_2 <|aV @G.gU.K4.eq_1 <|@G.gU.K4.eq_2) ()) <|pp (pp (@dH [] [(0,0),(1,1),(116,101)] []) <|pp (@dH [] [(0,0),(1,1),(119,121)] []) <|pp (@dH [] [(0,0),(1,1),(119,122)] []) <|pp (@dH [] [(0,0),(1,1),(119,116)] []) <|pp (@dH [] [(0,0),(1,1),(116,120)] []) ()) <|(pp (@yc [] [(0,0),(1,1),(2,123)] []) <|pp (@yc [] [(0,0),(1,1),(2,121)] []) ())
 exact rf
theorem B.lays166 : Go.Proofs.Lays.n166 pZ B.ren:=by constructor<;>first|kernel_rfl|(intro w;kernel_rfl)
theorem F.fV {n:Nat} : ∀{BO:iC} {aA:aO} {r:Int×Unit×iC},G.fV n BO aA=some r->lD pZ 10 [.one (.ptr 0 0),.one (wS aA)] [.var [.opt 40 0,.vS 1 BO.buf.length],.row 5 BO.buf] (λr1 b1=>r1 = .wu [(false,[wI r.1]),(false,[.c (.lit .nilIface)])]/\b1=[.var [.opt 40 0,.vS 2 r.2.2.buf.length],.dead,.row 5 r.2.2.buf]):=by intro b s r h;rcases n with _|n<;>simp only[G.fV,reduceCtorEq]at h;obtain⟨hl,h⟩:=yP.1 h;cases h;exact Po B.lays166 B.x hl
theorem F.NL : ∀(n:Nat),∀{BO ax r},G.bP n BO ax=some r->lD pZ 89 [.one (.ptr 0 0),.agg (wN ax)] [.var [.opt 40 0,.vS 1 BO.buf.length],.row 5 BO.buf] (λr1 b1=>r1 = .wu []/\b1=[.var [.opt 40 0,.vS 2 r.buf.length],.dead,.row 5 r.buf]):=by
 intro n
 induction n using dw with|_ n ih=>
 intro BO ax r h;refine mV K.bP (qi ?_);unfold C.bP;rcases n with _|n<;>simp only[G.bP,reduceCtorEq]at h;have:=Mk.mk 1;have:=Mk.mk 2;have z:=pp (pp @F.strconv_Itoa ()) <|pp (pp (pp ih (@cG [0,118] [119])) <|pp (pp ih (@cG [0,148] [149])) <|pp (pp @F.fV (@cG [0,1] [101])) <|pp (pp @F.fV (@cG [0,1] [102])) <|pp (pp @F.gU (@cG [0,1] [103])) <|pp (pp @F.aS (@cG [0,1] [104])) <|pp (pp @F.aS (@cG [0,115] [120])) <|pp (pp @F.aS (@cG [0,115] [121])) <|pp (pp @F.aS (@cG [0,1] [122])) <|pp (pp @F.aS (@cG [0,142] [150])) <|pp (pp @F.gU (@cG [0,146] [147])) <|pp (pp @F.aS (@cG [0,147] [148])) <|pp (pp @F.aS (@cG [0,142] [151])) ()) <|pp (pp (@qY (Int×aO) _ (λn x=>G.bP.L3 n ax x.1 x.2) r (λx=>iy.of [eP 0 0,(32,.v true (.one (wK ax.Kids))),eI 33 (ax.Kids.length:Int),eI 34 x.1] [(0,.var [.opt 40 0,.vS 115 x.2.length]),(1,.dead),(115,.row 5 x.2)])) <|pp (@qY (Int×aO) _ (λn x=>G.bP.L7 n ax x.1 x.2) r (λx=>iy.of [eP 0 0,eP 3 141,(54,.v true (.one (wK ax.Kids))),eI 55 (ax.Kids.length:Int),eI 56 x.1] [(0,.var [.opt 40 0,.vS 142 x.2.length]),(1,.dead),(141,.var (wN ax)),(142,.row 5 x.2)])) ()) <|pp (pp (@zh (Int×aO) _ (λn x=>G.bP.K4 n ax x.1 x.2) r (λx=>iy.of [eP 0 0,eP 5 117,(32,.v true (.one (wK ax.Kids))),eI 33 (ax.Kids.length:Int),eI 34 x.1] [(0,.var [.opt 40 0,.vS 118 x.2.length]),(1,.dead),(117,.var [wI ((ax.Kids.getD x.1.toNat default).Kind),wI ((ax.Kids.getD x.1.toNat default).Num),wS ((ax.Kids.getD x.1.toNat default).Text),wT ((ax.Kids.getD x.1.toNat default).Names),wK ((ax.Kids.getD x.1.toNat default).Kids)]),(118,.row 5 x.2)])) <|pp (@zh (Int×aO) _ (λn x=>G.bP.K8 n ax x.1 x.2) r (λx=>iy.of [eP 0 0,eP 3 144,eI 6 x.1,eP 7 145,(54,.v true (.one (wK ax.Kids))),eI 55 (ax.Kids.length:Int),eI 56 x.1] [(0,.var [.opt 40 0,.vS 146 x.2.length]),(1,.dead),(144,.var (wN ax)),(145,.var [wI ((ax.Kids.getD x.1.toNat default).Kind),wI ((ax.Kids.getD x.1.toNat default).Num),wS ((ax.Kids.getD x.1.toNat default).Text),wT ((ax.Kids.getD x.1.toNat default).Names),wK ((ax.Kids.getD x.1.toNat default).Kids)]),(146,.row 5 x.2)])) ()) <|pp (pp (aV @G.bP.L3.eq_1 <|aV @G.bP.L3.eq_2 <|aV @G.bP.K4.eq_1 <|aV @G.bP.K4.eq_2 <|aV @G.bP.L7.eq_1 <|aV @G.bP.L7.eq_2 <|aV @G.bP.K8.eq_1 <|@G.bP.K8.eq_2) ()) <|pp (pp (@dH [] [(0,0),(1,1),(115,104)] []) <|pp (@dH [] [(0,0),(1,1),(117,11),(118,120)] []) <|pp (@dH [] [(0,0),(1,1),(117,11),(118,115)] []) <|pp (@dH [] [(0,0),(1,1),(115,119)] []) <|pp (@dH [] [(0,0),(1,1),(141,10),(142,122)] []) <|pp (@dH [] [(0,0),(1,1),(144,141),(145,12),(146,150)] []) <|pp (@dH [] [(0,0),(1,1),(144,141),(145,12),(146,142)] []) <|pp (@dH [] [(0,0),(1,1),(141,144),(142,149)] []) <|pp (@dH [] [(0,0),(1,1),(141,10),(142,104)] []) ()) <|pp (pp (@yc [] [(0,0),(1,1),(2,101)] []) <|pp (@yc [] [(0,0),(1,1),(2,102)] []) <|pp (@yc [] [(0,0),(1,1),(2,103)] []) <|pp (@yc [] [(0,0),(1,1),(2,121)] []) <|pp (@yc [] [(0,0),(1,1),(2,151)] []) <|pp (@yc [] [(0,0),(1,1),(2,1)] []) <|pp (@yc [] [(0,0),(1,1),(2,120)] []) <|pp (@yc [] [(0,0),(1,1),(2,150)] []) ()) <|(pp (pp (rfl : @G.bP.K4=_) <|pp (rfl : @G.bP.L3=_) ()) <|pp (pp (rfl : @G.bP.K8=_) <|pp (rfl : @G.bP.L7=_) ()) ())
 exact Vl
theorem F.bP {n:Nat} : ∀{BO:iC} {ax:aj} {r:iC},G.bP n BO ax=some r->lD pZ 89 [.one (.ptr 0 0),.agg (wN ax)] [.var [.opt 40 0,.vS 1 BO.buf.length],.row 5 BO.buf] (λr1 b1=>r1 = .wu []/\b1=[.var [.opt 40 0,.vS 2 r.buf.length],.dead,.row 5 r.buf]):=F.NL n
theorem B.lays169 : Go.Proofs.Lays.n169 pZ B.ren:=by constructor<;>first|kernel_rfl|(intro w;kernel_rfl)
theorem F.jl {n:Nat} : ∀{BO:iC} {r:aO},G.jl n BO=some r->lD pZ 13 [.one (.ptr 0 0)] [.var [.opt 40 0,.vS 1 BO.buf.length],.row 5 BO.buf] (λr1 b1=>r1 = .one (wS r)/\b1=[.dead,.dead]):=by intro b r h;rcases n with _|n<;>simp only[G.jl,reduceCtorEq]at h;obtain⟨hl,h⟩:=yP.1 h;cases h;exact Y0 B.lays169 B.x (Nat.le_trans hl (by decide))
theorem F.jL {n:Nat} : ∀{ax r},G.jL n ax=some r->dS pZ 50 [.agg (wN ax)] (.one (wS r)):=by
 intro ax r h;refine aZ K.jL (qi ?_);unfold C.jL;rcases n with _|n<;>simp only[G.jL,reduceCtorEq]at h;have z:=pp (pp @F.aX ()) <|pp (pp (pp @F.bP (@cG [12,11] [101])) <|pp (pp @F.jl (@cG [12,101] [])) ()) <|pp () <|pp () <|pp () <|pp () <|()
 exact rf
theorem F.gB {n:Nat} : ∀{aK r},G.gB n aK=some r->dS pZ 83 [.one (wT aK)] (.one (wS r)):=by
 intro aK r h;refine aZ K.gB (qi ?_);unfold C.gB;rcases n with _|n<;>simp only[G.gB,reduceCtorEq]at h;have z:=pp (pp @F.iZ ()) <|pp (pp (pp @F.aS (@cG [115,116] [122])) <|pp (pp @F.fV (@cG [118,119] [120])) <|pp (pp @F.gU (@cG [118,119] [121])) <|pp (pp @F.jl (@cG [115,116] [])) ()) <|pp (pp (@qY (Int×aO) _ (λn x=>G.gB.L3 n aK x.1 x.2) r (λx=>iy.of [eP 3 115,eT 9 aK,eI 10 (aK.length:Int),eI 11 x.1] [(115,.var [.opt 40 115,.vS 116 x.2.length]),(116,.row 5 x.2)])) ()) <|pp (pp (@zh (Int×aO) _ (λn x=>G.gB.K4 n aK x.1 x.2) r (λx=>iy.of [eP 3 118,eS 5 (aK.getD x.1.toNat default),eT 9 aK,eI 10 (aK.length:Int),eI 11 x.1] [(118,.var [.opt 40 118,.vS 119 x.2.length]),(119,.row 5 x.2)])) ()) <|pp (pp (aV @G.gB.L3.eq_1 <|aV @G.gB.L3.eq_2 <|aV @G.gB.K4.eq_1 <|@G.gB.K4.eq_2) ()) <|pp (pp (@dH [] [(115,11),(116,10)] []) <|pp (@dH [] [(118,115),(119,122)] []) <|pp (@dH [] [(118,115),(119,116)] []) <|pp (@dH [] [(115,118),(116,120)] []) <|pp (@dH [] [(115,118),(116,121)] []) ()) <|()
 exact rf
theorem F.tH {n:Nat} : ∀{sW r},G.tH n sW=some r->dS pZ 130 [.one (wI sW)] (.one (wS r)):=by
 intro sW r h;refine aZ K.tH (qi ?_);unfold C.tH;rcases n with _|n<;>simp only[G.tH,reduceCtorEq]at h;have z:=pp () <|pp () <|pp () <|pp () <|pp () <|pp () <|()
 exact rf
theorem F.kK {n:Nat} : ∀{aC r},G.kK n aC=some r->dS pZ 170 [.one (wT aC)] (.agg (wN r)):=by
 intro aC r h;refine aZ K.kK (qi ?_);unfold C.kK;rcases n with _|n<;>simp only[G.kK,reduceCtorEq]at h;have z:=pp () <|pp () <|pp (pp (@qY (Int×List aj) _ (λn x=>G.kK.L1 n aC x.1 x.2) r (λx=>iy.of [eP 2 106,eP 3 107,eT 7 aC,eI 8 (aC.length:Int),eI 9 x.1] [(106,.var zN),(107,.var [wI 3,wI 0,.c (.str []),.jC 1,.own 108 x.2.length 5]),(108,.dat 5 (ag aj.cells x.2))])) ()) <|pp () <|pp (pp (aV @G.kK.L1.eq_1 <|@G.kK.L1.eq_2) ()) <|pp (pp (@dH [] [(106,10),(107,11)] [108]) <|pp (@dH [] [(106,106),(107,107),(108,13)] []) ()) <|()
 exact rf
theorem F.rV {n:Nat} : ∀{jY r},G.rV n jY=some r->dS pZ 133 [.agg [wI jY.Kind,wT jY.Path,wT jY.From,wI jY.Value.Kind,wI jY.Value.Num,wS jY.Value.Text,wT jY.Value.Names,wK jY.Value.Kids]] (.wu [(true,(wN r.1)),(false,[.c (.lit (.bool r.2))])]):=by
 intro jY r h;refine aZ K.rV (qi ?_);unfold C.rV;rcases n with _|n<;>simp only[G.rV,reduceCtorEq]at h;have z:=pp (pp @F.rq <|pp @F.kK <|pp @F.tH <|pp @F.aP <|pp @F.mX ()) <|pp () <|pp () <|pp () <|pp () <|pp () <|()
 exact rf
theorem F.kG {n:Nat} : ∀{aK r},G.kG n aK=some r->dS pZ 82 [.one (.c (.sl 8 (ag oh.cells aK)))] (.wu [(false,[wS r.1]),(false,[.c (.lit (.bool r.2))])]):=by
 intro aK r h;refine aZ K.kG (qi ?_);unfold C.kG;rcases n with _|n<;>simp only[G.kG,reduceCtorEq]at h;have z:=pp (pp @F.rV ()) <|pp (pp (pp @F.bP (@cG [109,110] [111])) <|pp (pp @F.aS (@cG [109,111] [112])) <|pp (pp @F.jl (@cG [109,110] [])) ()) <|pp (pp (@qY (Int×aO) _ (λn x=>G.kG.L1 n aK x.1 x.2) r (λx=>iy.of [eP 4 109,(9,.v true (.one (.c (.sl 8 (ag oh.cells aK))))),eI 10 (aK.length:Int),eI 11 x.1] [(109,.var [.opt 40 109,.vS 110 x.2.length]),(110,.row 5 x.2)])) ()) <|pp () <|pp (pp (aV @G.kG.L1.eq_1 <|@G.kG.L1.eq_2) ()) <|pp (pp (@dH [] [(109,11),(110,10)] []) <|pp (@dH [] [(109,109),(110,112)] []) ()) <|()
 exact rf
theorem F.lI {n:Nat} : ∀{aU r},G.lI n aU=some r->dS pZ 81 [.agg [wI aU.Method,wS aU.Name,wT aU.Want,wT aU.oJ,wI aU.Body.Kind,wI aU.Body.Num,wS aU.Body.Text,wT aU.Body.Names,wK aU.Body.Kids,.c (.sl 8 (ag oh.cells aU.Ops))]] (.one (.c (.lit (.bool r)))):=by
 intro aU r h;refine aZ K.lI (qi ?_);unfold C.lI;rcases n with _|n<;>simp only[G.lI,reduceCtorEq]at h;have z:=pp (pp @F.jJ <|pp @F.iZ <|pp @F.aX <|pp @F.fB ()) <|pp () <|pp () <|pp () <|pp () <|pp () <|()
 exact rf
theorem F.ny {n:Nat} : ∀{BM r},G.ny n BM=some r->dS pZ 44 [.one (wI BM)] (.one (wS r)):=by
 intro BM r h;refine aZ K.ny (qi ?_);unfold C.ny;rcases n with _|n<;>simp only[G.ny,reduceCtorEq]at h;have z:=pp () <|pp () <|pp () <|pp () <|pp () <|pp () <|()
 exact rf
theorem B.lays156 : Go.Proofs.Lays.n156 pZ B.ren:=by constructor<;>first|kernel_rfl|(intro w;kernel_rfl)
theorem F.strings_Join {n:Nat} : ∀{UT:List aO} {Pn:aO} {r:aO},G.strings_Join n UT Pn=some r->dS pZ 37 [.one (wT UT),.one (wS Pn)] (.one (wS r)):=by intro l s r h;rcases n with _|n<;>simp only[G.strings_Join,reduceCtorEq]at h;obtain⟨⟨h0,hl⟩,h⟩:=yP.1 h;exact adC B.lays156 B.x h0 hl (by cases h;rfl)
theorem F.aT {n:Nat} : ∀{aU r},G.aT n aU=some r->dS pZ 48 [.agg [wI aU.Method,wS aU.Name,wT aU.Want,wT aU.oJ,wI aU.Body.Kind,wI aU.Body.Num,wS aU.Body.Text,wT aU.Body.Names,wK aU.Body.Kids,.c (.sl 8 (ag oh.cells aU.Ops))]] (.one (wS r)):=by
 intro aU r h;refine aZ K.aT (qi ?_);unfold C.aT;rcases n with _|n<;>simp only[G.aT,reduceCtorEq]at h;have:=Mk.mk 1;have:=Mk.mk 2;have:=Mk.mk 3;have:=Mk.mk 4;have z:=pp (pp @F.lI <|pp @F.jL <|pp @F.kG <|pp @F.ny <|pp @F.gB <|pp @F.strings_Join ()) <|pp () <|pp () <|pp (pp (@zh (Unit) _ (λn x=>G.aT.K1 n aU) r (λx=>iy.of [eP 1 101,(36,.v true (.one (.c (.lit (.bool false)))))] [(101,.var [wI aU.Method,wS aU.Name,wT aU.Want,wT aU.oJ,wI aU.Body.Kind,wI aU.Body.Num,wS aU.Body.Text,wT aU.Body.Names,wK aU.Body.Kids,.c (.sl 8 (ag oh.cells aU.Ops))])])) <|pp (@zh (aO) _ (λn x=>G.aT.K2 n aU x) r (λx=>iy.of [eP 1 102,eS 4 x] [(102,.var [wI aU.Method,wS aU.Name,wT aU.Want,wT aU.oJ,wI aU.Body.Kind,wI aU.Body.Num,wS aU.Body.Text,wT aU.Body.Names,wK aU.Body.Kids,.c (.sl 8 (ag oh.cells aU.Ops))])])) <|pp (@zh (Unit) _ (λn x=>G.aT.K3 n aU) r (λx=>iy.of [eP 1 103,(36,.v true (.one (.c (.lit (.bool false)))))] [(103,.var [wI aU.Method,wS aU.Name,wT aU.Want,wT aU.oJ,wI aU.Body.Kind,wI aU.Body.Num,wS aU.Body.Text,wT aU.Body.Names,wK aU.Body.Kids,.c (.sl 8 (ag oh.cells aU.Ops))])])) <|pp (@zh (aO) _ (λn x=>G.aT.K4 n aU x) r (λx=>iy.of [eP 1 104,eS 4 x] [(104,.var [wI aU.Method,wS aU.Name,wT aU.Want,wT aU.oJ,wI aU.Body.Kind,wI aU.Body.Num,wS aU.Body.Text,wT aU.Body.Names,wK aU.Body.Kids,.c (.sl 8 (ag oh.cells aU.Ops))])])) ()) <|pp (pp (aV @G.aT.K1.eq_1 <|aV @G.aT.K1.eq_2 <|aV @G.aT.K2.eq_1 <|aV @G.aT.K2.eq_2 <|aV @G.aT.K3.eq_1 <|aV @G.aT.K3.eq_2 <|aV @G.aT.K4.eq_1 <|@G.aT.K4.eq_2) ()) <|pp (pp (@dH [] [(101,10)] []) <|pp (@dH [] [(102,101)] []) <|pp (@dH [] [(103,10)] []) <|pp (@dH [] [(104,103)] []) ()) <|pp () <|(pp (pp (rfl : @G.aT.K1=_) ()) <|pp (pp (rfl : @G.aT.K2=_) <|pp (rfl : @G.aT.K1=_) ()) <|pp (pp (rfl : @G.aT.K3=_) ()) <|pp (pp (rfl : @G.aT.K4=_) <|pp (rfl : @G.aT.K3=_) ()) ())
 exact Vl
theorem F.tV {n:Nat} : ∀{aA eY r},G.tV n aA eY=some r->dS pZ 84 [.agg [.c (.sl 7 (ag bG.cells aA.Items)),wI aA.Clock],.one (wS eY)] (.wu [(true,[wS r.1.Name,wI r.1.Version,wI r.1.Node.Kind,wI r.1.Node.Num,wS r.1.Node.Text,wT r.1.Node.Names,wK r.1.Node.Kids]),(false,[.c (.lit (.bool r.2))])]):=by
 intro aA eY r h;refine aZ K.tV (qi ?_);unfold C.tV;rcases n with _|n<;>simp only[G.tV,reduceCtorEq]at h;have z:=pp (pp @F.cZ <|pp @F.nN <|pp @F.qf ()) <|pp () <|pp () <|pp () <|pp () <|pp () <|()
 exact rf
theorem F.jh {n:Nat} : ∀{aA r},G.jh n aA=some r->dS pZ 136 [.one (wS aA)] (.one (wS r)):=by
 intro aA r h;refine aZ K.jh (qi ?_);unfold C.jh;rcases n with _|n<;>simp only[G.jh,reduceCtorEq]at h;have z:=pp () <|pp () <|pp (pp (@qY (Int×Int) _ (λn x=>G.jh.L1 n aA x.1 x.2) r (λx=>iy.of [eS 0 aA,eI 3 x.1,eI 4 x.2] [])) <|pp (@qY (Int×Int×List Int) _ (λn x=>G.jh.L2 n x.1 x.2.1 x.2.2) r (λx=>iy.of [eI 3 x.1,(5,.v true (.one (.zI 103 0 1 0))),eI 6 x.2.1] [(103,.dat 1 (ag cU x.2.2))])) ()) <|pp () <|pp (pp (aV @G.jh.L1.eq_1 <|aV @G.jh.L1.eq_2 <|aV @G.jh.L2.eq_1 <|@G.jh.L2.eq_2) ()) <|pp (pp (@dH [] [] []) <|pp (@dH [] [(103,10)] []) <|pp (@dH [] [(103,103)] []) ()) <|()
 exact rf
theorem F.uq {n:Nat} : ∀{ax r},G.uq n ax=some r->dS pZ 85 [.agg (wN ax)] (.one (wS r)):=by
 intro ax r h;refine aZ K.uq (qi ?_);unfold C.uq;rcases n with _|n<;>simp only[G.uq,reduceCtorEq]at h;have z:=pp (pp @F.aX <|pp @F.jL <|pp @F.jh ()) <|pp () <|pp () <|pp () <|pp () <|pp () <|()
 exact rf
theorem F.pG {n:Nat} : ∀{aA aU r},G.pG n aA aU=some r->dS pZ 87 [.agg [.c (.sl 7 (ag bG.cells aA.Items)),wI aA.Clock],.agg [wI aU.Method,wS aU.Name,wT aU.Want,wT aU.oJ,wI aU.Body.Kind,wI aU.Body.Num,wS aU.Body.Text,wT aU.Body.Names,wK aU.Body.Kids,.c (.sl 8 (ag oh.cells aU.Ops))]] (.wu [(true,[.c (.sl 7 (ag bG.cells r.1.Items)),wI r.1.Clock]),(true,[wI r.2.Status,wS r.2.Tag,wI r.2.Version,wI r.2.Body.Kind,wI r.2.Body.Num,wS r.2.Body.Text,wT r.2.Body.Names,wK r.2.Body.Kids])]):=by
 intro aA aU r h;refine aZ K.pG (qi ?_);unfold C.pG;rcases n with _|n<;>simp only[G.pG,reduceCtorEq]at h;have z:=pp (pp @F.rQ <|pp @F.dP ()) <|pp () <|pp () <|pp () <|pp () <|pp () <|()
 exact rf
theorem F.nP {n:Nat} : ∀{aA:List bG} {Gt:Int} {CY:List bG} {r:List bG},G.nP n aA Gt CY=some r ->
 lD pZ 201 [.one (.own 0 aA.length 7),.one (wI Gt),.one (.own 1 CY.length 7)] [.dat 7 (ag bG.cells aA),.dat 7 (ag bG.cells CY)]
  (λr1 b1=>r1 = .one (.own 2 r.length 7)/\b1=[.dead,.dat 7 (ag bG.cells CY),.dat 7 (ag bG.cells r)]):=by
 intro s i v r h;rcases n with _|n<;>simp only[G.nP,reduceCtorEq]at h;exact FG.ins _ (cb:=104) (by decide) K.nP h
theorem F.vT {n:Nat} : ∀{yw lG r},G.vT n yw lG=some r->lD pZ 178 [.one (.own 0 yw.length 7),.agg [wS lG.Name,wI lG.Version,wI lG.Node.Kind,wI lG.Node.Num,wS lG.Node.Text,wT lG.Node.Names,wK lG.Node.Kids]] [.dat 7 (ag bG.cells yw)] (λr1 b1=>r1 = .one (.own 1 r.length 7)/\b1=[.dead,.dat 7 (ag bG.cells r)]):=by
 intro yw lG r h;refine mV K.vT (qi ?_);unfold C.vT;rcases n with _|n<;>simp only[G.vT,reduceCtorEq]at h;have z:=pp (pp @F.nN ()) <|pp (pp (pp @F.nP (@cG [0,11] [101])) ()) <|pp () <|pp () <|pp () <|pp () <|(pp (@yc [] [(0,0),(1,0)] []) <|pp (@yc [] [(0,0),(1,101)] []) ())
 exact rf
theorem F.tX {n:Nat} : ∀{aA eY ax r},G.tX n aA eY ax=some r->dS pZ 140 [.agg [.c (.sl 7 (ag bG.cells aA.Items)),wI aA.Clock],.one (wS eY),.agg (wN ax)] (.wu [(true,[.c (.sl 7 (ag bG.cells r.1.Items)),wI r.1.Clock]),(false,[.c (.lit (.bool r.2))])]):=by
 intro aA eY ax r h;refine aZ K.tX (qi ?_);unfold C.tX;rcases n with _|n<;>simp only[G.tX,reduceCtorEq]at h;have z:=pp (pp @F.cZ <|pp @F.jJ <|pp @F.aX <|pp @F.aP ()) <|pp (pp (pp @F.GM (@cG [] [101])) <|pp (pp @F.vT (@cG [101] [102])) ()) <|pp () <|pp () <|pp () <|pp () <|()
 exact rf
theorem F.uA {n:Nat} : ∀{Ai eY r},G.uA n Ai eY=some r->lD pZ 211 [.one (.ptr 0 0),.one (wS eY)] [.var [wI Ai.Kind,wI Ai.Num,wS Ai.Text,.own 1 Ai.Names.length 1,.own 2 Ai.Kids.length 5],.dat 1 (ag cS Ai.Names),.dat 5 (ag aj.cells Ai.Kids)] (λr1 b1=>r1 = .wu []/\b1=[.var [wI r.Kind,wI r.Num,wS r.Text,.own 3 r.Names.length 1,.own 4 r.Kids.length 5],.dead,.dead,.dat 1 (ag cS r.Names),.dat 5 (ag aj.cells r.Kids)]):=by
 intro Ai eY r h;refine mV K.uA (qi ?_);unfold C.uA;rcases n with _|n<;>simp only[G.uA,reduceCtorEq]at h;have z:=pp (pp @F.slices_BinarySearch_string ()) <|pp (pp (pp @F.slices_Delete_string (@cG [1] [101])) <|pp (pp @F.jH (@cG [2] [102])) ()) <|pp () <|pp () <|pp () <|pp () <|(pp (@yc [] [(0,0),(1,1),(2,2),(3,101),(4,102)] []) <|pp (@yc [] [(0,0),(1,1),(2,2),(3,1),(4,2)] []) ())
 exact rf
theorem F.LY : ∀(n:Nat),∀{ax dK r},G.dM n ax dK=some r->dS pZ 200 [.agg (wN ax),.agg (wN dK)] (.agg (wN r)):=by
 intro n
 induction n using dw with|_ n ih=>
 intro ax dK r h;refine aZ K.dM (qi ?_);unfold C.dM;rcases n with _|n<;>simp only[G.dM,reduceCtorEq]at h;have:=Mk.mk 1;have:=Mk.mk 2;have z:=pp (pp ih <|pp @F.slices_BinarySearch_string ()) <|pp (pp (pp @F.uT (@cG [] [101,102])) <|pp (pp @F.uT (@cG [] [155,156])) <|pp (pp @F.uA (@cG [142,143,144] [145,146])) <|pp (pp @F.oL (@cG [149,151,152] [153,154])) ()) <|pp (pp (@qY (Int×Int×Int×aO×List aO×List aj) _ (λn x=>G.dM.L4 n dK x.1 x.2.1 x.2.2.1 x.2.2.2.1 x.2.2.2.2.1 x.2.2.2.2.2) r (λx=>iy.of [eP 3 140,eP 4 141,eP 5 142,eT 23 dK.Names,eI 24 (dK.Names.length:Int),eI 25 x.1] [(140,.var (wN dK)),(141,.var zN),(142,.var [wI x.2.1,wI x.2.2.1,wS x.2.2.2.1,.own 143 x.2.2.2.2.1.length 1,.own 144 x.2.2.2.2.2.length 5]),(143,.dat 1 (ag cS x.2.2.2.2.1)),(144,.dat 5 (ag aj.cells x.2.2.2.2.2))])) ()) <|pp (pp (@zh (Int×Int×aO×List aO×List aj) _ (λn x=>G.dM.K1 n dK x.1 x.2.1 x.2.2.1 x.2.2.2.1 x.2.2.2.2) r (λx=>iy.of [eP 3 105,eP 4 106,eP 5 107] [(105,.var (wN dK)),(106,.var zN),(107,.var [wI x.1,wI x.2.1,wS x.2.2.1,.own 108 x.2.2.2.1.length 1,.own 109 x.2.2.2.2.length 5]),(108,.dat 1 (ag cS x.2.2.2.1)),(109,.dat 5 (ag aj.cells x.2.2.2.2))])) <|pp (@zh (Int×Int×Int×aO×List aO×List aj×Int×Int×aO×List aO×List aj) _ (λn x=>G.dM.K5 n dK x.1 x.2.1 x.2.2.1 x.2.2.2.1 x.2.2.2.2.1 x.2.2.2.2.2.1 x.2.2.2.2.2.2.1 x.2.2.2.2.2.2.2.1 x.2.2.2.2.2.2.2.2.1 x.2.2.2.2.2.2.2.2.2.1 x.2.2.2.2.2.2.2.2.2.2) r (λx=>iy.of [eP 3 147,eP 4 148,eP 5 149,eI 6 x.1,eS 7 (dK.Names.getD x.1.toNat default),eP 8 150,eT 23 dK.Names,eI 24 (dK.Names.length:Int),eI 25 x.1] [(147,.var (wN dK)),(148,.var zN),(149,.var [wI x.2.1,wI x.2.2.1,wS x.2.2.2.1,.own 151 x.2.2.2.2.1.length 1,.own 152 x.2.2.2.2.2.1.length 5]),(150,.var [wI x.2.2.2.2.2.2.1,wI x.2.2.2.2.2.2.2.1,wS x.2.2.2.2.2.2.2.2.1,wT x.2.2.2.2.2.2.2.2.2.1,wK x.2.2.2.2.2.2.2.2.2.2]),(151,.dat 1 (ag cS x.2.2.2.2.1)),(152,.dat 5 (ag aj.cells x.2.2.2.2.2.1))])) ()) <|pp (pp (aV @G.dM.K1.eq_1 <|aV @G.dM.K1.eq_2 <|aV @G.dM.L4.eq_1 <|aV @G.dM.L4.eq_2 <|aV @G.dM.K5.eq_1 <|@G.dM.K5.eq_2) ()) <|pp (pp (@dH [] [(105,11),(106,12),(107,13),(108,155),(109,156)] []) <|pp (@dH [] [(105,11),(106,12),(107,13)] [108,109]) <|pp (@dH [] [(140,105),(141,106),(142,107),(143,108),(144,109)] []) <|pp (@dH [] [(140,140),(141,141),(142,142),(143,145),(144,146)] []) <|pp (@dH [] [(147,140),(148,141),(149,142),(150,14),(151,143),(152,144)] []) <|pp (@dH [] [(140,147),(141,148),(142,149),(143,153),(144,154)] []) <|pp (@dH [] [(105,11),(106,12),(107,13),(108,101),(109,102)] []) ()) <|pp () <|(pp (pp (rfl : @G.dM.K1=_) ()) <|pp (pp (rfl : @G.dM.K5=_) <|pp (rfl : @G.dM.L4=_) <|pp (rfl : @G.dM.K1=_) ()) ())
 exact Vl
theorem F.dM {n:Nat} : ∀{ax:aj} {dK:aj} {r:aj},G.dM n ax dK=some r->dS pZ 200 [.agg (wN ax),.agg (wN dK)] (.agg (wN r)):=F.LY n
theorem F.qC {n:Nat} : ∀{ax dK r},G.qC n ax dK=some r->dS pZ 177 [.agg (wN ax),.agg (wN dK)] (.wu [(true,(wN r.1)),(false,[.c (.lit (.bool r.2))])]):=by
 intro ax dK r h;refine aZ K.qC (qi ?_);unfold C.qC;rcases n with _|n<;>simp only[G.qC,reduceCtorEq]at h;have z:=pp (pp @F.aX <|pp @F.dM <|pp @F.mX ()) <|pp () <|pp () <|pp () <|pp () <|pp () <|()
 exact rf
theorem F.tZ {n:Nat} : ∀{EI aU r},G.tZ n EI aU=some r->dS pZ 139 [.agg (wN EI),.agg [wI aU.Method,wS aU.Name,wT aU.Want,wT aU.oJ,wI aU.Body.Kind,wI aU.Body.Num,wS aU.Body.Text,wT aU.Body.Names,wK aU.Body.Kids,.c (.sl 8 (ag oh.cells aU.Ops))]] (.wu [(true,(wN r.1)),(false,[.c (.lit (.bool r.2))])]):=by
 intro EI aU r h;refine aZ K.tZ (qi ?_);unfold C.tZ;rcases n with _|n<;>simp only[G.tZ,reduceCtorEq]at h;have z:=pp (pp @F.pF <|pp @F.qC ()) <|pp () <|pp () <|pp () <|pp () <|pp () <|()
 exact rf
theorem F.ni {n:Nat} : ∀{aA aU EI II r},G.ni n aA aU EI II=some r->dS pZ 88 [.agg [.c (.sl 7 (ag bG.cells aA.Items)),wI aA.Clock],.agg [wI aU.Method,wS aU.Name,wT aU.Want,wT aU.oJ,wI aU.Body.Kind,wI aU.Body.Num,wS aU.Body.Text,wT aU.Body.Names,wK aU.Body.Kids,.c (.sl 8 (ag oh.cells aU.Ops))],.agg (wN EI),.one (.c (.lit (.bool II)))] (.wu [(true,[.c (.sl 7 (ag bG.cells r.1.Items)),wI r.1.Clock]),(true,[wI r.2.Status,wS r.2.Tag,wI r.2.Version,wI r.2.Body.Kind,wI r.2.Body.Num,wS r.2.Body.Text,wT r.2.Body.Names,wK r.2.Body.Kids])]):=by
 intro aA aU EI II r h;refine aZ K.ni (qi ?_);unfold C.ni;rcases n with _|n<;>simp only[G.ni,reduceCtorEq]at h;have z:=pp (pp @F.tZ <|pp @F.tX <|pp @F.uq <|pp @F.dP ()) <|pp () <|pp () <|pp () <|pp () <|pp () <|()
 exact rf
theorem F.gV {n:Nat} : ∀{aA aU r},G.gV n aA aU=some r->dS pZ 49 [.agg [.c (.sl 7 (ag bG.cells aA.Items)),wI aA.Clock],.agg [wI aU.Method,wS aU.Name,wT aU.Want,wT aU.oJ,wI aU.Body.Kind,wI aU.Body.Num,wS aU.Body.Text,wT aU.Body.Names,wK aU.Body.Kids,.c (.sl 8 (ag oh.cells aU.Ops))]] (.wu [(true,[.c (.sl 7 (ag bG.cells r.1.Items)),wI r.1.Clock]),(true,[wI r.2.Status,wS r.2.Tag,wI r.2.Version,wI r.2.Body.Kind,wI r.2.Body.Num,wS r.2.Body.Text,wT r.2.Body.Names,wK r.2.Body.Kids])]):=by
 intro aA aU r h;refine aZ K.gV (qi ?_);unfold C.gV;rcases n with _|n<;>simp only[G.gV,reduceCtorEq]at h;have:=Mk.mk 1;have:=Mk.mk 2;have z:=pp (pp @F.cZ <|pp @F.lI <|pp @F.tV <|pp @F.uq <|pp @F.kF <|pp @F.dP <|pp @F.pG <|pp @F.ni ()) <|pp () <|pp () <|pp (pp (@zh ((bG×Bool)×aO) _ (λn x=>G.gV.K1 n aA aU x.1 x.2) r (λx=>iy.of [eP 2 101,eP 3 102,eP 4 103,eP 5 104,eP 6 105,(7,.v true (.one (.c (.lit (.bool true))))),eS 8 x.2] [(101,.var [.c (.sl 7 (ag bG.cells aA.Items)),wI aA.Clock]),(102,.var [wI aU.Method,wS aU.Name,wT aU.Want,wT aU.oJ,wI aU.Body.Kind,wI aU.Body.Num,wS aU.Body.Text,wT aU.Body.Names,wK aU.Body.Kids,.c (.sl 8 (ag oh.cells aU.Ops))]),(103,.var [.jC 7,wI 0]),(104,.var [wI 0,.c (.str []),wI 0,wI 0,wI 0,.c (.str []),.jC 1,.jC 5]),(105,.var [wS x.1.1.Name,wI x.1.1.Version,wI x.1.1.Node.Kind,wI x.1.1.Node.Num,wS x.1.1.Node.Text,wT x.1.1.Node.Names,wK x.1.1.Node.Kids])])) <|pp (@zh ((bG×Bool)) _ (λn x=>G.gV.K2 n aA aU x) r (λx=>iy.of [eP 2 106,eP 3 107,eP 4 108,eP 5 109,eP 6 110,(7,.v true (.one (.c (.lit (.bool false))))),(8,.v true (.one (.c (.str [])))),(37,.v true (.one (.c (.lit (.bool false)))))] [(106,.var [.c (.sl 7 (ag bG.cells aA.Items)),wI aA.Clock]),(107,.var [wI aU.Method,wS aU.Name,wT aU.Want,wT aU.oJ,wI aU.Body.Kind,wI aU.Body.Num,wS aU.Body.Text,wT aU.Body.Names,wK aU.Body.Kids,.c (.sl 8 (ag oh.cells aU.Ops))]),(108,.var [.jC 7,wI 0]),(109,.var [wI 0,.c (.str []),wI 0,wI 0,wI 0,.c (.str []),.jC 1,.jC 5]),(110,.var [wS x.1.Name,wI x.1.Version,wI x.1.Node.Kind,wI x.1.Node.Num,wS x.1.Node.Text,wT x.1.Node.Names,wK x.1.Node.Kids])])) ()) <|pp (pp (aV @G.gV.K1.eq_1 <|aV @G.gV.K1.eq_2 <|aV @G.gV.K2.eq_1 <|@G.gV.K2.eq_2) ()) <|pp (pp (@dH [] [(101,10),(102,11),(103,12),(104,13),(105,14)] []) <|pp (@dH [] [(106,10),(107,11),(108,12),(109,13),(110,14)] []) ()) <|pp () <|(pp (pp (rfl : @G.gV.K1=_) ()) <|pp (pp (rfl : @G.gV.K2=_) ()) ())
 exact Vl
theorem F.jF {n:Nat} : ∀{ax r},G.jF n ax=some r->dS pZ 129 [.agg (wN ax)] (.wu [(false,[wT r.1]),(false,[.c (.lit (.bool r.2))])]):=by
 intro ax r h;refine aZ K.jF (qi ?_);unfold C.jF;rcases n with _|n<;>simp only[G.jF,reduceCtorEq]at h;have z:=pp (pp @F.iI ()) <|pp () <|pp (pp (@qY (Int×List aO) _ (λn x=>G.jF.L1 n ax x.1 x.2) r (λx=>iy.of [(4,.v true (.one (.own 102 x.2.length 1))),(11,.v true (.one (wK ax.Kids))),eI 12 (ax.Kids.length:Int),eI 13 x.1] [(102,.dat 1 (ag cS x.2))])) ()) <|pp () <|pp (pp (aV @G.jF.L1.eq_1 <|@G.jF.L1.eq_2) ()) <|pp (pp (@dH [] [] [102]) <|pp (@dH [] [(102,13)] []) ()) <|()
 exact rf
theorem F.gX {n:Nat} : ∀{xg Bq wZ r},G.gX n xg Bq wZ=some r->dS pZ 43 [.one (wS xg),.one (wI Bq),.one (wI wZ),.one (.fn 130 [])] (.wu [(false,[wI r.1]),(false,[.c (.lit (.bool r.2))])]):=by
 intro xg Bq wZ r h;refine aZ K.gX (qi ?_);unfold C.Es;rcases n with _|n<;>simp only[G.gX,reduceCtorEq]at h;have z:=pp (pp @F.tH ()) <|pp () <|pp (pp (@qY (Int) _ (λn x=>G.gX.L1 n xg wZ x) r (λx=>iy.of [eS 0 xg,eI 2 wZ,(3,.v true (.one (.fn 130 []))),eI 10 x] [])) ()) <|pp () <|pp (pp (aV @G.gX.L1.eq_1 <|@G.gX.L1.eq_2) ()) <|pp (pp (@dH [] [] []) ()) <|()
 exact rf
theorem F.rU {n:Nat} : ∀{ax r},G.rU n ax=some r->dS pZ 80 [.agg (wN ax)] (.wu [(true,[wI r.1.Kind,wT r.1.Path,wT r.1.From,wI r.1.Value.Kind,wI r.1.Value.Num,wS r.1.Value.Text,wT r.1.Value.Names,wK r.1.Value.Kids]),(false,[.c (.lit (.bool r.2))])]):=by
 intro ax r h;refine aZ K.rU (qi ?_);unfold C.rU;rcases n with _|n<;>simp only[G.rU,reduceCtorEq]at h;have z:=pp (pp @F.aX <|pp @F.slices_Equal_string <|pp @F.jF <|pp @F.aP ()) <|pp (pp (pp @F.gX (@cG [] [])) ()) <|pp () <|pp () <|pp () <|pp () <|()
 exact rf
theorem B.lays172 : Go.Proofs.Lays.n172 pZ B.ren:=by constructor<;>first|kernel_rfl|(intro w;kernel_rfl)
theorem B.abL : Go.Proofs.LaysM.n172 pZ B.ren:=by constructor<;>first|exact B.lays172|kernel_rfl|(intro w;kernel_rfl)
theorem B.laysC172 : Go.Proofs.LaysC.n172 pZ B.ren:=by constructor<;>first|exact B.abL|kernel_rfl|(intro w;kernel_rfl)
theorem F.strconv_Atoi {n:Nat} : ∀{aA:aO} {r:Int×Bool},G.strconv_Atoi n aA=some r->dS pZ 165 [.one (wS aA)] (.wu [(false,[wI r.1]),(false,[.err r.2])]):=by intro s r h;rcases n with _|n<;>simp only[G.strconv_Atoi,reduceCtorEq]at h;obtain⟨hl,h⟩:=yP.1 h;exact adA B.laysC172 hl (by cases h;rfl)
theorem F.dL {n:Nat} : ∀{jd r},G.dL n jd=some r->lD pZ 126 [.one (.ptr 0 0)] [.var [wS jd.text,wI jd.at_]] (λr1 b1=>r1 = .wu [(true,(wN r.1)),(false,[.c (.lit (.bool r.2.1))])]/\b1=[.var [wS r.2.2.text,wI r.2.2.at_]]):=by
 intro jd r h;refine mV K.dL (qi ?_);unfold C.dL;rcases n with _|n<;>simp only[G.dL,reduceCtorEq]at h;have z:=pp (pp @F.strconv_Atoi <|pp @F.strconv_Itoa ()) <|pp () <|pp (pp (@qY (Int) _ (λn x=>G.dL.L1 n jd x) r (λx=>iy.of [eP 0 0,eP 2 103,eI 4 x] [(0,.var [wS jd.text,wI jd.at_]),(103,.var zN)])) ()) <|pp () <|pp (pp (aV @G.dL.L1.eq_1 <|@G.dL.L1.eq_2) ()) <|pp (pp (@dH [] [(0,0),(103,10)] []) <|pp (@dH [] [(0,0),(103,103)] []) ()) <|(pp (@yc [] [(0,0)] []) ())
 exact rf
theorem B.lays99 : Go.Proofs.Lays.n99 pZ B.ren:=by constructor<;>first|kernel_rfl|(intro w;kernel_rfl)
theorem F.strings_HasPrefix {n:Nat} : ∀{aA:aO} {Rx:aO} {r:Bool},G.strings_HasPrefix n aA Rx=some r->dS pZ 127 [.one (wS aA),.one (wS Rx)] (.one (.c (.lit (.bool r)))):=by intro s p r h;rcases n with _|n<;>simp only[G.strings_HasPrefix,reduceCtorEq]at h;exact SG B.lays99 (by cases h;rfl)
theorem F.iE {n:Nat} : ∀{jd aA r},G.iE n jd aA=some r->lD pZ 79 [.one (.ptr 0 0),.one (wS aA)] [.var [wS jd.text,wI jd.at_]] (λr1 b1=>r1 = .one (.c (.lit (.bool r.1)))/\b1=[.var [wS r.2.text,wI r.2.at_]]):=by
 intro jd aA r h;refine mV K.iE (qi ?_);unfold C.iE;rcases n with _|n<;>simp only[G.iE,reduceCtorEq]at h;have z:=pp (pp @F.strings_HasPrefix ()) <|pp () <|pp () <|pp () <|pp () <|pp () <|(pp (@yc [] [(0,0)] []) ())
 exact rf
theorem F.bI {n:Nat} : ∀{jd r},G.bI n jd=some r->lD pZ 124 [.one (.ptr 0 0)] [.var [wS jd.text,wI jd.at_]] (λr1 b1=>r1 = .wu [(false,[wS r.1]),(false,[.c (.lit (.bool r.2.1))])]/\b1=[.var [wS r.2.2.text,wI r.2.2.at_]]):=by
 intro jd r h;refine mV K.bI (qi ?_);unfold C.bI;rcases n with _|n<;>simp only[G.bI,reduceCtorEq]at h;have z:=pp () <|pp (pp (pp @F.iE (@cG [0] [])) <|pp (pp @F.jl (@cG [111,112] [])) <|pp (pp @F.aS (@cG [113,114] [115])) ()) <|pp (pp (@qY ((Bool×bf)×Int×aO) _ (λn x=>G.bI.L3 n x.1 x.2.1 x.2.2) r (λx=>iy.of [eP 0 0,eP 4 111] [(0,.var [wS x.1.2.text,wI x.2.1]),(111,.var [.opt 40 111,.vS 112 x.2.2.length]),(112,.row 5 x.2.2)])) ()) <|pp (pp (@zh ((Bool×bf)×aO×Int×Int) _ (λn x=>G.bI.K4 n x.1 x.2.1 x.2.2.1 x.2.2.2) r (λx=>iy.of [eP 0 0,eP 4 113,(5,.v true (.one (.c (.lit (.int .u8 x.2.2.1)))))] [(0,.var [wS x.1.2.text,wI x.2.2.2]),(113,.var [.opt 40 113,.vS 114 x.2.1.length]),(114,.row 5 x.2.1)])) ()) <|pp (pp (aV @G.bI.L3.eq_1 <|aV @G.bI.L3.eq_2 <|aV @G.bI.K4.eq_1 <|@G.bI.K4.eq_2) ()) <|pp (pp (@dH [] [(0,0),(111,11),(112,10)] []) <|pp (@dH [] [(0,0),(113,111),(114,112)] []) <|pp (@dH [] [(0,0),(111,113),(112,115)] []) ()) <|(pp (@yc [] [(0,0)] []) ())
 exact rf
theorem F.EE : ∀(n:Nat),(∀{jd mD r},G.iw n jd mD=some r->lD pZ 78 [.one (.ptr 0 0),.one (wI mD)] [.var [wS jd.text,wI jd.at_]] (λr1 b1=>r1 = .wu [(true,(wN r.1)),(false,[.c (.lit (.bool r.2.1))])]/\b1=[.var [wS r.2.2.text,wI r.2.2.at_]]))/\(∀{jd sW mD uH r},G.cu n jd sW mD uH=some r->lD pZ 125 [.one (.ptr 0 0),.one (wI sW),.one (wI mD),.one (wS uH)] [.var [wS jd.text,wI jd.at_]] (λr1 b1=>r1 = .wu [(true,(wN r.1)),(false,[.c (.lit (.bool r.2.1))])]/\b1=[.var [wS r.2.2.text,wI r.2.2.at_]])):=by
 intro n
 induction n using dw with|_ n ih=>
 refine⟨?_,?_⟩
 ·intro jd mD r h;refine mV K.iw (qi ?_);unfold C.iw;rcases n with _|n<;>simp only[G.iw,reduceCtorEq]at h;have z:=pp () <|pp (pp (pp (ihR ih) (@cG [0] [])) <|pp (pp @F.iE (@cG [0] [])) <|pp (pp @F.bI (@cG [0] [])) <|pp (pp @F.dL (@cG [0] [])) ()) <|pp () <|pp () <|pp () <|pp () <|(pp (@yc [] [(0,0)] []) ())
  exact rf
 ·intro jd sW mD uH r h;refine mV K.cu (qi ?_);unfold C.cu;rcases n with _|n<;>simp only[G.cu,reduceCtorEq]at h;have z:=pp () <|pp (pp (pp (ihL ih) (@cG [0] [])) <|pp (pp @F.iE (@cG [0] [])) <|pp (pp @F.bI (@cG [0] [])) ()) <|pp (pp (@qY (aO×Int×List aO×List aj) _ (λn x=>G.cu.L3 n sW mD uH x.1 x.2.1 x.2.2.1 x.2.2.2) r (λx=>iy.of [eP 0 0,eI 1 sW,eI 2 mD,eS 3 uH,eP 8 114,eP 10 115] [(0,.var [wS x.1,wI x.2.1]),(114,.var zN),(115,.var [wI sW,wI 0,.c (.str []),.own 116 x.2.2.1.length 1,.own 117 x.2.2.2.length 5]),(116,.dat 1 (ag cS x.2.2.1)),(117,.dat 5 (ag aj.cells x.2.2.2))])) ()) <|pp (pp (@zh (List aj×aO×Int×List aO) _ (λn x=>G.cu.K4 n sW mD uH x.1 x.2.1 x.2.2.1 x.2.2.2) r (λx=>iy.of [eP 0 0,eI 1 sW,eI 2 mD,eS 3 uH,eP 8 118,eP 10 119] [(0,.var [wS x.2.1,wI x.2.2.1]),(118,.var zN),(119,.var [wI sW,wI 0,.c (.str []),.own 120 x.2.2.2.length 1,.own 121 x.1.length 5]),(120,.dat 1 (ag cS x.2.2.2)),(121,.dat 5 (ag aj.cells x.1))])) ()) <|pp (pp (aV @G.cu.L3.eq_1 <|aV @G.cu.L3.eq_2 <|aV @G.cu.K4.eq_1 <|@G.cu.K4.eq_2) ()) <|pp (pp (@dH [] [(0,0),(114,10),(115,11)] [116,117]) <|pp (@dH [] [(0,0),(118,114),(119,115),(120,13),(121,117)] []) <|pp (@dH [] [(0,0),(118,114),(119,115),(120,116),(121,117)] []) <|pp (@dH [] [(0,0),(114,118),(115,119),(116,120),(117,16)] []) ()) <|(pp (@yc [] [(0,0)] []) <|pp (@yc [16,120] [(0,0)] []) ())
  exact rf
theorem F.iw {n:Nat} : ∀{jd:bf} {mD:Int} {r:aj×Bool×bf},G.iw n jd mD=some r->lD pZ 78 [.one (.ptr 0 0),.one (wI mD)] [.var [wS jd.text,wI jd.at_]] (λr1 b1=>r1 = .wu [(true,(wN r.1)),(false,[.c (.lit (.bool r.2.1))])]/\b1=[.var [wS r.2.2.text,wI r.2.2.at_]]):=(F.EE n).1
theorem F.qG {n:Nat} : ∀{aA r},G.qG n aA=some r->dS pZ 47 [.one (wS aA)] (.wu [(true,(wN r.1)),(false,[.c (.lit (.bool r.2))])]):=by
 intro aA r h;refine aZ K.qG (qi ?_);unfold C.qG;rcases n with _|n<;>simp only[G.qG,reduceCtorEq]at h;have z:=pp (pp @F.aX <|pp @F.aP ()) <|pp (pp (pp @F.iw (@cG [11] [])) ()) <|pp () <|pp () <|pp () <|pp () <|()
 exact rf
theorem B.lays143 : Go.Proofs.Lays.n143 pZ B.ren:=by constructor<;>first|kernel_rfl|(intro w;kernel_rfl)
theorem F.uo {n:Nat} : ∀{aA:aO} {r:List aO×Bool},G.uo n aA=some r->dS pZ 45 [.one (wS aA)] (.wu [(false,[wT r.1]),(false,[.c (.lit (.bool r.2))])]):=by intro s r h;rcases n with _|n<;>simp only[G.uo,reduceCtorEq]at h;obtain⟨hl,h⟩:=yP.1 h;exact Go.Proofs.SH B.lays143 (by kernel_rfl) (λy hy=>(T.nJ y (by unfold big;omega)).val.elim λm hm=>F.nJ hm) hl (by cases h;rfl)
theorem F.fC {n:Nat} : ∀{xg Bq wZ r},G.fC n xg Bq wZ=some r->dS pZ 43 [.one (wS xg),.one (wI Bq),.one (wI wZ),.one (.fn 44 [])] (.wu [(false,[wI r.1]),(false,[.c (.lit (.bool r.2))])]):=by
 intro xg Bq wZ r h;refine aZ K.fC (qi ?_);unfold C.Es;rcases n with _|n<;>simp only[G.fC,reduceCtorEq]at h;have z:=pp (pp @F.ny ()) <|pp () <|pp (pp (@qY (Int) _ (λn x=>G.fC.L1 n xg wZ x) r (λx=>iy.of [eS 0 xg,eI 2 wZ,(3,.v true (.one (.fn 44 []))),eI 10 x] [])) ()) <|pp () <|pp (pp (aV @G.fC.L1.eq_1 <|@G.fC.L1.eq_2) ()) <|pp (pp (@dH [] [] []) ()) <|()
 exact rf
theorem F.l7 {n:Nat} : ∀{aA r},G.l7 n aA=some r->dS pZ 46 [.one (wS aA)] (.wu [(false,[.c (.sl 8 (ag oh.cells r.1))]),(false,[.c (.lit (.bool r.2))])]):=by
 intro aA r h;refine aZ K.l7 (qi ?_);unfold C.l7;rcases n with _|n<;>simp only[G.l7,reduceCtorEq]at h;have z:=pp (pp @F.rU ()) <|pp (pp (pp @F.iw (@cG [105] [])) <|pp (pp @F.iE (@cG [105] [])) ()) <|pp (pp (@qY (List oh×aO×Int) _ (λn x=>G.l7.L1 n aA x.1 x.2.1 x.2.2) r (λx=>iy.of [eS 0 aA,(4,.v true (.one (.own 104 x.1.length 8))),eP 5 105] [(104,.dat 8 (ag oh.cells x.1)),(105,.var [wS x.2.1,wI x.2.2])])) ()) <|pp () <|pp (pp (aV @G.l7.L1.eq_1 <|@G.l7.L1.eq_2) ()) <|pp (pp (@dH [] [(105,10)] [104]) <|pp (@dH [] [(104,14),(105,105)] []) ()) <|()
 exact rf
theorem B.lays147 : Go.Proofs.Lays.n147 pZ B.ren:=by constructor<;>first|kernel_rfl|(intro w;kernel_rfl)
theorem F.strings_SplitN {n:Nat} : ∀{aA Pn:aO} {ax:Int} {r:List aO},G.strings_SplitN n aA Pn ax=some r->dS pZ 42 [.one (wS aA),.one (wS Pn),.one (wI ax)] (.one (wT r)):=by intro s sep k r h;rcases n with _|n<;>simp only[G.strings_SplitN,reduceCtorEq]at h;obtain⟨⟨h1,h2,h3,h4⟩,h⟩:=yP.1 h;exact YZ B.lays147 (by kernel_rfl) h1 h2 h3 h4 (by kernel_rfl) (by cases h;rfl)
theorem F.je {n:Nat} : ∀{aA r},G.je n aA=some r->dS pZ 25 [.one (wS aA)] (.wu [(true,[wI r.1.Method,wS r.1.Name,wT r.1.Want,wT r.1.oJ,wI r.1.Body.Kind,wI r.1.Body.Num,wS r.1.Body.Text,wT r.1.Body.Names,wK r.1.Body.Kids,.c (.sl 8 (ag oh.cells r.1.Ops))]),(false,[.c (.lit (.bool r.2))])]):=by
 intro aA r h;refine aZ K.je (qi ?_);unfold C.je;rcases n with _|n<;>simp only[G.je,reduceCtorEq]at h;have z:=pp (pp @F.strings_SplitN <|pp @F.uo <|pp @F.l7 <|pp @F.qG <|pp @F.aT ()) <|pp (pp (pp @F.fC (@cG [] [])) ()) <|pp () <|pp (pp (@zh (List aO×(Int×Bool)×(List aO×Bool)×(List aO×Bool)×Bool×Int×Int×aO×List aO×List aj×List oh) _ (λn x=>G.je.K1 n aA x.1 x.2.1 x.2.2.1 x.2.2.2.1 x.2.2.2.2.1 x.2.2.2.2.2.1 x.2.2.2.2.2.2.1 x.2.2.2.2.2.2.2.1 x.2.2.2.2.2.2.2.2.1 x.2.2.2.2.2.2.2.2.2.1 x.2.2.2.2.2.2.2.2.2.2) r (λx=>iy.of [eS 0 aA,eP 2 101,eP 11 102,(12,.v true (.one (.c (.lit (.bool x.2.2.2.2.1)))))] [(101,.var [wI 0,.c (.str []),.jC 1,.jC 1,wI 0,wI 0,.c (.str []),.jC 1,.jC 5,.jC 8]),(102,.var [wI x.2.1.1,wS (x.1.getD 1 default),wT x.2.2.1.1,wT x.2.2.2.1.1,wI x.2.2.2.2.2.1,wI x.2.2.2.2.2.2.1,wS x.2.2.2.2.2.2.2.1,wT x.2.2.2.2.2.2.2.2.1,wK x.2.2.2.2.2.2.2.2.2.1,.c (.sl 8 (ag oh.cells x.2.2.2.2.2.2.2.2.2.2))])])) ()) <|pp (pp (aV @G.je.K1.eq_1 <|@G.je.K1.eq_2) ()) <|pp (pp (@dH [] [(101,10),(102,11)] []) ()) <|()
 exact rf
theorem F.uP {n:Nat} : ∀{ax r},G.uP n ax=some r->dS pZ 73 [.agg (wN ax)] (.one (wI r)):=by
 intro ax r h;refine aZ K.uP (qi ?_);unfold C.uP;rcases n with _|n<;>simp only[G.uP,reduceCtorEq]at h;have z:=pp (pp @F.aX <|pp @F.jL ()) <|pp () <|pp () <|pp () <|pp () <|pp () <|()
 exact rf
theorem F.uB {n:Nat} : ∀{lG r},G.uB n lG=some r->dS pZ 40 [.agg [wS lG.Name,wI lG.Version,wI lG.Node.Kind,wI lG.Node.Num,wS lG.Node.Text,wT lG.Node.Names,wK lG.Node.Kids]] (.one (wI r)):=by
 intro lG r h;refine aZ K.uB (qi ?_);unfold C.uB;rcases n with _|n<;>simp only[G.uB,reduceCtorEq]at h;have z:=pp (pp @F.uP ()) <|pp () <|pp () <|pp () <|pp () <|pp () <|()
 exact rf
theorem F.lH {n:Nat} : ∀{aA r},G.lH n aA=some r->dS pZ 23 [.agg [.c (.sl 7 (ag bG.cells aA.Items)),wI aA.Clock]] (.one (wI r)):=by
 intro aA r h;refine aZ K.lH (qi ?_);unfold C.lH;rcases n with _|n<;>simp only[G.lH,reduceCtorEq]at h;have z:=pp (pp @F.cZ <|pp @F.uB ()) <|pp () <|pp (pp (@qY (Int×Int) _ (λn x=>G.lH.L1 n aA x.1 x.2) r (λx=>iy.of [eI 3 x.1,(10,.v true (.one (.c (.sl 7 (ag bG.cells aA.Items))))),eI 11 (aA.Items.length:Int),eI 12 x.2] [])) ()) <|pp () <|pp (pp (aV @G.lH.L1.eq_1 <|@G.lH.L1.eq_2) ()) <|pp (pp (@dH [] [] []) ()) <|()
 exact rf
theorem F.jo {n:Nat} : ∀{ve r},G.jo n ve=some r->lD pZ 21 [.one (.ptr 0 0)] [.var [.c (.sl 7 (ag bG.cells ve.now.Items)),wI ve.now.Clock,.c (.sl 7 (ag bG.cells ve.kept.Items)),wI ve.kept.Clock]] (λr1 b1=>r1 = .one (wS r.1)/\b1=[.var [.c (.sl 7 (ag bG.cells r.2.now.Items)),wI r.2.now.Clock,.c (.sl 7 (ag bG.cells r.2.kept.Items)),wI r.2.kept.Clock]]):=by
 intro ve r h;refine mV K.jo (qi ?_);unfold C.jo;rcases n with _|n<;>simp only[G.jo,reduceCtorEq]at h;have z:=pp (pp @F.strings_Join ()) <|pp () <|pp (pp (@qY (Int×List aO) _ (λn x=>G.jo.L1 n ve x.1 x.2) r (λx=>iy.of [(3,.v true (.one (.own 102 x.2.length 1))),(10,.v true (.one (.c (.sl 7 (ag bG.cells ve.now.Items))))),eI 11 (ve.now.Items.length:Int),eI 12 x.1] [(0,.var [.c (.sl 7 (ag bG.cells ve.now.Items)),wI ve.now.Clock,.c (.sl 7 (ag bG.cells ve.kept.Items)),wI ve.kept.Clock]),(102,.dat 1 (ag cS x.2))])) ()) <|pp () <|pp (pp (aV @G.jo.L1.eq_1 <|@G.jo.L1.eq_2) ()) <|pp (pp (@dH [] [(0,0)] [102]) <|pp (@dH [] [(0,0),(102,12)] []) ()) <|(pp (@yc [] [(0,0)] []) ())
 exact rf
theorem F.dN {n:Nat} : ∀{ve aU r},G.dN n ve aU=some r->lD pZ 26 [.one (.ptr 0 0),.agg [wI aU.Method,wS aU.Name,wT aU.Want,wT aU.oJ,wI aU.Body.Kind,wI aU.Body.Num,wS aU.Body.Text,wT aU.Body.Names,wK aU.Body.Kids,.c (.sl 8 (ag oh.cells aU.Ops))]] [.var [.c (.sl 7 (ag bG.cells ve.now.Items)),wI ve.now.Clock,.c (.sl 7 (ag bG.cells ve.kept.Items)),wI ve.kept.Clock]] (λr1 b1=>r1 = .one (wS r.1)/\b1=[.var [.c (.sl 7 (ag bG.cells r.2.now.Items)),wI r.2.now.Clock,.c (.sl 7 (ag bG.cells r.2.kept.Items)),wI r.2.kept.Clock]]):=by
 intro ve aU r h;refine mV K.dN (qi ?_);unfold C.dN;rcases n with _|n<;>simp only[G.dN,reduceCtorEq]at h;have:=Mk.mk 1;have:=Mk.mk 2;have z:=pp (pp @F.gV <|pp @F.strconv_Itoa <|pp @F.jL ()) <|pp (pp (pp @F.fV (@cG [14,13] [101])) <|pp (pp @F.aS (@cG [14,101] [114])) <|pp (pp @F.fV (@cG [14,114] [115])) <|pp (pp @F.aS (@cG [106,107] [112])) <|pp (pp @F.fV (@cG [106,112] [113])) <|pp (pp @F.jl (@cG [110,111] [])) ()) <|pp () <|pp (pp (@zh ((StoreT×gy)×aO) _ (λn x=>G.dN.K1 n ve aU x.1 x.2) r (λx=>iy.of [eP 3 104,eP 6 105,eP 7 106] [(0,.var [.c (.sl 7 (ag bG.cells x.1.1.Items)),wI x.1.1.Clock,.c (.sl 7 (ag bG.cells ve.kept.Items)),wI ve.kept.Clock]),(104,.var [wI aU.Method,wS aU.Name,wT aU.Want,wT aU.oJ,wI aU.Body.Kind,wI aU.Body.Num,wS aU.Body.Text,wT aU.Body.Names,wK aU.Body.Kids,.c (.sl 8 (ag oh.cells aU.Ops))]),(105,.var [wI x.1.2.Status,wS x.1.2.Tag,wI x.1.2.Version,wI x.1.2.Body.Kind,wI x.1.2.Body.Num,wS x.1.2.Body.Text,wT x.1.2.Body.Names,wK x.1.2.Body.Kids]),(106,.var [.opt 40 106,.vS 107 x.2.length]),(107,.row 5 x.2)])) <|pp (@zh ((StoreT×gy)×aO) _ (λn x=>G.dN.K2 n ve x.1 x.2) r (λx=>iy.of [eP 7 110] [(0,.var [.c (.sl 7 (ag bG.cells x.1.1.Items)),wI x.1.1.Clock,.c (.sl 7 (ag bG.cells ve.kept.Items)),wI ve.kept.Clock]),(110,.var [.opt 40 110,.vS 111 x.2.length]),(111,.row 5 x.2)])) ()) <|pp (pp (aV @G.dN.K1.eq_1 <|aV @G.dN.K1.eq_2 <|aV @G.dN.K2.eq_1 <|@G.dN.K2.eq_2) ()) <|pp (pp (@dH [] [(0,0),(104,10),(105,12),(106,14),(107,101)] []) <|pp (@dH [] [(0,0),(104,10),(105,12),(106,14),(107,115)] []) <|pp (@dH [] [(0,0),(110,106),(111,113)] []) <|pp (@dH [] [(0,0),(110,106),(111,107)] []) ()) <|pp (pp (@yc [] [(0,0)] []) ()) <|(pp (pp (rfl : @G.dN.K1=_) ()) <|pp (pp (rfl : @G.dN.K2=_) <|pp (rfl : @G.dN.K1=_) ()) ())
 exact Vl
theorem F.mF {n:Nat} : ∀{ve xe r},G.mF n ve xe=some r->lD pZ 11 [.one (.ptr 0 0),.one (wS xe)] [.var [.c (.sl 7 (ag bG.cells ve.now.Items)),wI ve.now.Clock,.c (.sl 7 (ag bG.cells ve.kept.Items)),wI ve.kept.Clock]] (λr1 b1=>r1 = .one (wS r.1)/\b1=[.var [.c (.sl 7 (ag bG.cells r.2.now.Items)),wI r.2.now.Clock,.c (.sl 7 (ag bG.cells r.2.kept.Items)),wI r.2.kept.Clock]]):=by
 intro ve xe r h;refine mV K.mF (qi ?_);unfold C.mF;rcases n with _|n<;>simp only[G.mF,reduceCtorEq]at h;have z:=pp (pp @F.strconv_Itoa <|pp @F.lH <|pp @F.dP <|pp @F.je ()) <|pp (pp (pp @F.jo (@cG [0] [])) <|pp (pp @F.dN (@cG [0] [])) ()) <|pp () <|pp () <|pp () <|pp () <|(pp (@yc [] [(0,0)] []) ())
 exact rf
theorem F.iF {n:Nat} : ∀{rC r},G.iF n rC=some r->dS pZ 7 [.one (wT rC)] (.one (wS r)):=by
 intro rC r h;refine aZ K.iF (qi ?_);unfold C.iF;rcases n with _|n<;>simp only[G.iF,reduceCtorEq]at h;have z:=pp () <|pp (pp (pp @F.mF (@cG [129] [])) <|pp (pp @F.fV (@cG [130,131] [132])) <|pp (pp @F.aS (@cG [130,132] [133])) <|pp (pp @F.jl (@cG [117,118] [])) ()) <|pp (pp (@qY (Int×List bG×Int×List bG×Int×aO) _ (λn x=>G.iF.L3 n rC x.1 x.2.1 x.2.2.1 x.2.2.2.1 x.2.2.2.2.1 x.2.2.2.2.2) r (λx=>iy.of [eP 3 129,eP 4 130,eT 7 rC,eI 8 (rC.length:Int),eI 9 x.1] [(129,.var [.c (.sl 7 (ag bG.cells x.2.1)),wI x.2.2.1,.c (.sl 7 (ag bG.cells x.2.2.2.1)),wI x.2.2.2.2.1]),(130,.var [.opt 40 130,.vS 131 x.2.2.2.2.2.length]),(131,.row 5 x.2.2.2.2.2)])) ()) <|pp (pp (@zh (Int×List bG×Int×List bG×Int×aO) _ (λn x=>G.iF.K2 n x.1 x.2.1 x.2.2.1 x.2.2.2.1 x.2.2.2.2.1 x.2.2.2.2.2) r (λx=>iy.of [eP 3 116,eP 4 117,eT 7 rC,eI 8 (rC.length:Int),eI 9 x.1] [(116,.var [.c (.sl 7 (ag bG.cells x.2.1)),wI x.2.2.1,.c (.sl 7 (ag bG.cells x.2.2.2.1)),wI x.2.2.2.2.1]),(117,.var [.opt 40 117,.vS 118 x.2.2.2.2.2.length]),(118,.row 5 x.2.2.2.2.2)])) ()) <|pp (pp (aV @G.iF.K2.eq_1 <|aV @G.iF.K2.eq_2 <|aV @G.iF.L3.eq_1 <|@G.iF.L3.eq_2) ()) <|pp (pp (@dH [] [(129,10),(130,12),(131,11)] []) <|pp (@dH [] [(116,129),(117,130),(118,131)] []) <|pp (@dH [] [(129,129),(130,130),(131,133)] []) ()) <|()
 exact rf
theorem F.lJ {n:Nat} : ∀{kC nI r},G.lJ n kC nI=some r->dS pZ 8 [.one (wT kC),.one (wT nI)] (.one (.c (.lit (.bool r)))):=by
 intro kC nI r h;refine aZ K.lJ (qi ?_);unfold C.lJ;rcases n with _|n<;>simp only[G.lJ,reduceCtorEq]at h;have z:=pp () <|pp () <|pp (pp (@qY (Int) _ (λn x=>G.lJ.L1 n kC nI x) r (λx=>iy.of [eT 0 kC,eT 1 nI,eI 5 x] [])) ()) <|pp () <|pp (pp (aV @G.lJ.L1.eq_1 <|@G.lJ.L1.eq_2) ()) <|pp (pp (@dH [] [] []) ()) <|()
 exact rf
theorem F.kN {n:Nat} : ∀{kC Jq r},G.kN n kC Jq=some r->dS pZ 4 [.one (wT kC),.one (wI Jq)] (.one (wI r)):=by
 intro kC Jq r h;refine aZ K.kN (qi ?_);unfold C.kN;rcases n with _|n<;>simp only[G.kN,reduceCtorEq]at h;have z:=pp () <|pp () <|pp (pp (@qY (Int×Int) _ (λn x=>G.kN.L1 n kC x.1 x.2) r (λx=>iy.of [eT 0 kC,eI 1 x.1,eI 5 x.2] [])) ()) <|pp () <|pp (pp (aV @G.kN.L1.eq_1 <|@G.kN.L1.eq_2) ()) <|pp (pp (@dH [] [] []) ()) <|()
 exact rf
theorem F.kP {n:Nat} : ∀{kC r},G.kP n kC=some r->dS pZ 6 [.one (wT kC)] (.one (wT r)):=by
 intro kC r h;refine aZ K.kP (qi ?_);unfold C.kP;rcases n with _|n<;>simp only[G.kP,reduceCtorEq]at h;have z:=pp () <|pp () <|pp (pp (@qY (Int×List aO) _ (λn x=>G.kP.L1 n kC x.1 x.2) r (λx=>iy.of [eT 0 kC,(3,.v true (.one (.own 103 x.2.length 1))),eI 4 x.1] [(103,.dat 1 (ag cS x.2))])) ()) <|pp () <|pp (pp (aV @G.kP.L1.eq_1 <|@G.kP.L1.eq_2) ()) <|pp (pp (@dH [] [(103,10)] []) <|pp (@dH [] [(103,103)] []) ()) <|()
 exact rf
theorem F.fP {n:Nat} : ∀{ax Pm Ld r},G.fP n ax Pm Ld=some r->dS pZ 93 [.one (wI ax),.one (wI Pm),.one (wI Ld)] (.one (.c (.lit (.bool r)))):=by
 intro ax Pm Ld r h;refine aZ K.fP (qi ?_);unfold C.fP;rcases n with _|n<;>simp only[G.fP,reduceCtorEq]at h;have z:=pp () <|pp () <|pp () <|pp () <|pp () <|pp () <|()
 exact rf
theorem F.lg {n:Nat} : ∀{aA r},G.lg n aA=some r->dS pZ 90 [.one (wS aA)] (.one (.c (.lit (.bool r)))):=by
 intro aA r h;refine aZ K.lg (qi ?_);unfold C.lg;rcases n with _|n<;>simp only[G.lg,reduceCtorEq]at h;have z:=pp (pp @F.fP ()) <|pp () <|pp (pp (@qY (Int) _ (λn x=>G.lg.L1 n aA x) r (λx=>iy.of [eS 0 aA,eI 3 x] [])) ()) <|pp () <|pp (pp (aV @G.lg.L1.eq_1 <|@G.lg.L1.eq_2) ()) <|pp (pp (@dH [] [] []) ()) <|()
 exact rf
theorem F.gZ {n:Nat} : ∀{aK r},G.gZ n aK=some r->dS pZ 53 [.one (wT aK)] (.one (.c (.lit (.bool r)))):=by
 intro aK r h;refine aZ K.gZ (qi ?_);unfold C.gZ;rcases n with _|n<;>simp only[G.gZ,reduceCtorEq]at h;have z:=pp (pp @F.lg ()) <|pp () <|pp (pp (@qY (Int) _ (λn x=>G.gZ.L1 n aK x) r (λx=>iy.of [eT 0 aK,eI 3 x] [])) ()) <|pp () <|pp (pp (aV @G.gZ.L1.eq_1 <|@G.gZ.L1.eq_2) ()) <|pp (pp (@dH [] [] []) ()) <|()
 exact rf
theorem F.fK {n:Nat} : ∀{aK r},G.fK n aK=some r->dS pZ 52 [.one (wT aK)] (.one (wS r)):=by
 intro aK r h;refine aZ K.fK (qi ?_);unfold C.fK;rcases n with _|n<;>simp only[G.fK,reduceCtorEq]at h;have z:=pp (pp @F.gZ ()) <|pp () <|pp (pp (@qY (aO×Int) _ (λn x=>G.fK.L3 n aK x.1 x.2) r (λx=>iy.of [eT 0 aK,eS 3 x.1,eI 4 x.2] [])) ()) <|pp (pp (@zh (Int×aO) _ (λn x=>G.fK.K4 n aK x.1 x.2) r (λx=>iy.of [eT 0 aK,eS 3 x.2,eI 4 x.1] [])) ()) <|pp (pp (aV @G.fK.L3.eq_1 <|aV @G.fK.L3.eq_2 <|aV @G.fK.K4.eq_1 <|@G.fK.K4.eq_2) ()) <|pp (pp (@dH [] [] []) ()) <|()
 exact rf
theorem F.QG : ∀(n:Nat),∀{ax r},G.jP n ax=some r->dS pZ 15 [.one (wI ax)] (.one (wS r)):=by
 intro n
 induction n using dw with|_ n ih=>
 intro ax r h;refine aZ K.jP (qi ?_);unfold C.jP;rcases n with _|n<;>simp only[G.jP,reduceCtorEq]at h;have z:=pp (pp ih ()) <|pp () <|pp () <|pp () <|pp () <|pp () <|()
 exact rf
theorem F.jP {n:Nat} : ∀{ax:Int} {r:aO},G.jP n ax=some r->dS pZ 15 [.one (wI ax)] (.one (wS r)):=F.QG n
theorem F.nM {n:Nat} : ∀{aA r},G.nM n aA=some r->dS pZ 51 [.one (wS aA)] (.one (wS r)):=by
 intro aA r h;refine aZ K.nM (qi ?_);unfold C.nM;rcases n with _|n<;>simp only[G.nM,reduceCtorEq]at h;have z:=pp () <|pp () <|pp (pp (@qY (aO×Int) _ (λn x=>G.nM.L1 n aA x.1 x.2) r (λx=>iy.of [eS 0 aA,eS 3 x.1,eI 4 x.2] [])) ()) <|pp () <|pp (pp (aV @G.nM.L1.eq_1 <|@G.nM.L1.eq_2) ()) <|pp (pp (@dH [] [] []) ()) <|()
 exact rf
theorem F.Ro : ∀(n:Nat),∀{ax r},G.dW n ax=some r->dS pZ 27 [.agg (wN ax)] (.one (wS r)):=by
 intro n
 induction n using dw with|_ n ih=>
 intro ax r h;refine aZ K.dW (qi ?_);unfold C.dW;rcases n with _|n<;>simp only[G.dW,reduceCtorEq]at h;have:=Mk.mk 1;have:=Mk.mk 2;have z:=pp (pp ih <|pp @F.jP <|pp @F.nM ()) <|pp () <|pp (pp (@qY (aO×Int) _ (λn x=>G.dW.L5 n ax x.1 x.2) r (λx=>iy.of [eP 1 107,eS 3 x.1,eI 4 x.2] [(107,.var (wN ax))])) ()) <|pp (pp (@zh (Int×aO) _ (λn x=>G.dW.K6 n ax x.1 x.2) r (λx=>iy.of [eP 1 108,eS 3 x.2,eI 4 x.1] [(108,.var (wN ax))])) <|pp (@zh (Int×aO) _ (λn x=>G.dW.K7 n ax x.1 x.2) r (λx=>iy.of [eP 1 109,eS 3 x.2,eI 4 x.1] [(109,.var (wN ax))])) ()) <|pp (pp (aV @G.dW.L5.eq_1 <|aV @G.dW.L5.eq_2 <|aV @G.dW.K6.eq_1 <|aV @G.dW.K6.eq_2 <|aV @G.dW.K7.eq_1 <|@G.dW.K7.eq_2) ()) <|pp (pp (@dH [] [(107,10)] []) <|pp (@dH [] [(108,107)] []) <|pp (@dH [] [(109,108)] []) <|pp (@dH [] [(107,109)] []) ()) <|pp () <|(pp (pp (rfl : @G.dW.K6=_) <|pp (rfl : @G.dW.L5=_) <|pp (rfl : @G.dW.K7=_) ()) <|pp (pp (rfl : @G.dW.K7=_) <|pp (rfl : @G.dW.K6=_) <|pp (rfl : @G.dW.L5=_) ()) ())
 exact Vl
theorem F.dW {n:Nat} : ∀{ax:aj} {r:aO},G.dW n ax=some r->dS pZ 27 [.agg (wN ax)] (.one (wS r)):=F.Ro n
theorem F.OO : ∀(n:Nat),∀{ax r},G.aY n ax=some r->dS pZ 28 [.agg (wN ax)] (.agg (wN r)):=by
 intro n
 induction n using dw with|_ n ih=>
 intro ax r h;refine aZ K.aY (qi ?_);unfold C.aY;rcases n with _|n<;>simp only[G.aY,reduceCtorEq]at h;have z:=pp (pp ih ()) <|pp () <|pp (pp (@qY (Int×List aj) _ (λn x=>G.aY.L1 n ax x.1 x.2) r (λx=>iy.of [eP 1 107,eP 2 108,(3,.v true (.one (.own 109 x.2.length 5))),eI 4 x.1] [(107,.var (wN ax)),(108,.var zN),(109,.dat 5 (ag aj.cells x.2))])) ()) <|pp () <|pp (pp (aV @G.aY.L1.eq_1 <|@G.aY.L1.eq_2) ()) <|pp (pp (@dH [] [(107,10),(108,11),(109,12)] []) <|pp (@dH [] [(107,107),(108,108),(109,14)] []) ()) <|()
 exact rf
theorem F.aY {n:Nat} : ∀{ax:aj} {r:aj},G.aY n ax=some r->dS pZ 28 [.agg (wN ax)] (.agg (wN r)):=F.OO n
theorem F.Iu {n:Nat} : ∀{ax r},G.aY n ax=some r->lD pZ 28 [.agg (wN ax)] [] (λr1 b1=>r1 = .agg [wI r.Kind,wI r.Num,wS r.Text,.own 0 r.Names.length 1,.own 1 r.Kids.length 5]/\b1=[.dat 1 (ag cS r.Names),.dat 5 (ag aj.cells r.Kids)]):=by
 intro ax r h;refine mV K.aY (qi ?_);unfold C.aY;rcases n with _|n<;>simp only[G.aY,reduceCtorEq]at h;have z:=pp (pp @F.aY ()) <|pp () <|pp (pp (@qY (Int×List aj) _ (λn x=>G.aY.L1 n ax x.1 x.2) r (λx=>iy.of [eP 1 107,eP 2 108,(3,.v true (.one (.own 109 x.2.length 5))),eI 4 x.1] [(107,.var (wN ax)),(108,.var zN),(109,.dat 5 (ag aj.cells x.2))])) ()) <|pp () <|pp (pp (aV @G.aY.L1.eq_1 <|@G.aY.L1.eq_2) ()) <|pp (pp (@dH [] [(107,10),(108,11),(109,12)] []) <|pp (@dH [] [(107,107),(108,108),(109,14)] []) ()) <|(pp (@yc [] [(0,16),(1,109)] []) ())
 exact rf
theorem F.uf {n:Nat} : ∀{r},G.uf n=some r->dS pZ 95 [] (.one (wT r)):=by
 intro r h;refine aZ K.uf (qi ?_);unfold C.uf;rcases n with _|n<;>simp only[G.uf,reduceCtorEq]at h;have z:=pp () <|pp () <|pp () <|pp () <|pp () <|pp () <|()
 exact rf
theorem F.wX {n:Nat} : ∀{aA r},G.wX n aA=some r->dS pZ 104 [.one (wS aA)] (.agg (wN r)):=by
 intro aA r h;refine aZ K.wX (qi ?_);unfold C.wX;rcases n with _|n<;>simp only[G.wX,reduceCtorEq]at h;have z:=pp () <|pp () <|pp () <|pp () <|pp () <|pp () <|()
 exact rf
theorem F.qp {n:Nat} : ∀{aC r},G.qp n aC=some r->dS pZ 103 [.one (wT aC)] (.agg (wN r)):=by
 intro aC r h;refine aZ K.qp (qi ?_);unfold C.qp;rcases n with _|n<;>simp only[G.qp,reduceCtorEq]at h;have z:=pp (pp @F.wX ()) <|pp () <|pp (pp (@qY (Int×List aj) _ (λn x=>G.qp.L1 n aC x.1 x.2) r (λx=>iy.of [eT 0 aC,eP 2 105,(3,.v true (.one (.own 106 x.2.length 5))),eI 4 x.1] [(105,.var zN),(106,.dat 5 (ag aj.cells x.2))])) ()) <|pp () <|pp (pp (aV @G.qp.L1.eq_1 <|@G.qp.L1.eq_2) ()) <|pp (pp (@dH [] [(105,10),(106,11)] []) <|pp (@dH [] [(105,105),(106,13)] []) ()) <|()
 exact rf
theorem F.pW {n:Nat} : ∀{jY r},G.pW n jY=some r->dS pZ 59 [.agg [wI jY.Kind,wT jY.Path,wT jY.From,wI jY.Value.Kind,wI jY.Value.Num,wS jY.Value.Text,wT jY.Value.Names,wK jY.Value.Kids]] (.agg (wN r)):=by
 intro jY r h;refine aZ K.pW (qi ?_);unfold C.pW;rcases n with _|n<;>simp only[G.pW,reduceCtorEq]at h;have z:=pp (pp @F.qp <|pp @F.uf <|pp @F.wX <|pp @F.aY ()) <|pp () <|pp () <|pp () <|pp () <|pp () <|()
 exact rf
theorem F.vU {n:Nat} : ∀{r},G.vU n=some r->dS pZ 30 [] (.one (wT r)):=by
 intro r h;refine aZ K.vU (qi ?_);unfold C.vU;rcases n with _|n<;>simp only[G.vU,reduceCtorEq]at h;have z:=pp () <|pp () <|pp () <|pp () <|pp () <|pp () <|()
 exact rf
theorem F.jq {n:Nat} : ∀{aU r},G.jq n aU=some r->dS pZ 60 [.agg [wI aU.Method,wS aU.Name,wT aU.Want,wT aU.oJ,wI aU.Body.Kind,wI aU.Body.Num,wS aU.Body.Text,wT aU.Body.Names,wK aU.Body.Kids,.c (.sl 8 (ag oh.cells aU.Ops))]] (.one (wS r)):=by
 intro aU r h;refine aZ K.jq (qi ?_);unfold C.jq;rcases n with _|n<;>simp only[G.jq,reduceCtorEq]at h;have z:=pp (pp @F.vU <|pp @F.fK <|pp @F.pW <|pp @F.dW ()) <|pp () <|pp (pp (@qY (aO×Int) _ (λn x=>G.jq.L1 n aU x.1 x.2) r (λx=>iy.of [eP 1 103,eS 3 x.1,eI 4 x.2] [(103,.var [wI aU.Method,wS aU.Name,wT aU.Want,wT aU.oJ,wI aU.Body.Kind,wI aU.Body.Num,wS aU.Body.Text,wT aU.Body.Names,wK aU.Body.Kids,.c (.sl 8 (ag oh.cells aU.Ops))])])) ()) <|pp () <|pp (pp (aV @G.jq.L1.eq_1 <|@G.jq.L1.eq_2) ()) <|pp (pp (@dH [] [(103,10)] []) <|pp (@dH [] [(103,103)] []) ()) <|()
 exact rf
theorem F.UA : ∀(n:Nat),∀{ax r},G.nK n ax=some r->dS pZ 100 [.agg (wN ax)] (.one (wI r)):=by
 intro n
 induction n using dw with|_ n ih=>
 intro ax r h;refine aZ K.nK (qi ?_);unfold C.nK;rcases n with _|n<;>simp only[G.nK,reduceCtorEq]at h;have z:=pp (pp ih ()) <|pp () <|pp (pp (@qY (Int×Int) _ (λn x=>G.nK.L1 n ax x.1 x.2) r (λx=>iy.of [eP 1 103,eI 3 x.1,eI 4 x.2] [(103,.var (wN ax))])) ()) <|pp () <|pp (pp (aV @G.nK.L1.eq_1 <|@G.nK.L1.eq_2) ()) <|pp (pp (@dH [] [(103,10)] []) <|pp (@dH [] [(103,103)] []) ()) <|()
 exact rf
theorem F.nK {n:Nat} : ∀{ax:aj} {r:Int},G.nK n ax=some r->dS pZ 100 [.agg (wN ax)] (.one (wI r)):=F.UA n
theorem F.iV {n:Nat} : ∀{aA r},G.iV n aA=some r->dS pZ 144 [.one (wS aA)] (.one (.c (.lit (.bool r)))):=by
 intro aA r h;refine aZ K.iV (qi ?_);unfold C.iV;rcases n with _|n<;>simp only[G.iV,reduceCtorEq]at h;have z:=pp (pp @F.fP ()) <|pp () <|pp (pp (@qY (Int) _ (λn x=>G.iV.L1 n aA x) r (λx=>iy.of [eS 0 aA,eI 3 x] [])) ()) <|pp () <|pp (pp (aV @G.iV.L1.eq_1 <|@G.iV.L1.eq_2) ()) <|pp (pp (@dH [] [] []) ()) <|()
 exact rf
theorem F.oC {n:Nat} : ∀{aK r},G.oC n aK=some r->dS pZ 146 [.one (wT aK)] (.one (.c (.lit (.bool r)))):=by
 intro aK r h;refine aZ K.oC (qi ?_);unfold C.oC;rcases n with _|n<;>simp only[G.oC,reduceCtorEq]at h;have z:=pp (pp @F.iV ()) <|pp () <|pp (pp (@qY (Int) _ (λn x=>G.oC.L1 n aK x) r (λx=>iy.of [eT 0 aK,eI 3 x] [])) ()) <|pp () <|pp (pp (aV @G.oC.L1.eq_1 <|@G.oC.L1.eq_2) ()) <|pp (pp (@dH [] [] []) ()) <|()
 exact rf
theorem F.Rl : ∀(n:Nat),(∀{ax iq r},G.ru n ax iq=some r->dS pZ 145 [.agg (wN ax),.one (wI iq)] (.one (.c (.lit (.bool r)))))/\(∀{ax iq r},G.ji n ax iq=some r->dS pZ 99 [.agg (wN ax),.one (wI iq)] (.one (.c (.lit (.bool r))))):=by
 intro n
 induction n using dw with|_ n ih=>
 refine⟨?_,?_⟩
 ·intro ax iq r h;refine aZ K.ru (qi ?_);unfold C.ru;rcases n with _|n<;>simp only[G.ru,reduceCtorEq]at h;have z:=pp (pp ((ihR ih)) ()) <|pp () <|pp (pp (@qY (Int) _ (λn x=>G.ru.L1 n ax iq x) r (λx=>iy.of [eI 1 iq,eP 2 103,eI 5 x] [(103,.var (wN ax))])) ()) <|pp () <|pp (pp (aV @G.ru.L1.eq_1 <|@G.ru.L1.eq_2) ()) <|pp (pp (@dH [] [(103,10)] []) <|pp (@dH [] [(103,103)] []) ()) <|()
  exact rf
 ·intro ax iq r h;refine aZ K.ji (qi ?_);unfold C.ji;rcases n with _|n<;>simp only[G.ji,reduceCtorEq]at h;have z:=pp (pp ((ihL ih)) <|pp @F.fP <|pp @F.iV <|pp @F.oC ()) <|pp () <|pp () <|pp (pp (@zh (Unit) _ (λn x=>G.ji.K1 n ax iq) r (λx=>iy.of [eI 1 iq,eP 2 101,(54,.v true (.one (.c (.lit (.bool false)))))] [(101,.var (wN ax))])) ()) <|pp (pp (aV @G.ji.K1.eq_1 <|@G.ji.K1.eq_2) ()) <|pp (pp (@dH [] [(101,10)] []) ()) <|()
  exact rf
theorem F.ji {n:Nat} : ∀{ax:aj} {iq:Int} {r:Bool},G.ji n ax iq=some r->dS pZ 99 [.agg (wN ax),.one (wI iq)] (.one (.c (.lit (.bool r)))):=(F.Rl n).2
theorem F.eG {n:Nat} : ∀{ax r},G.eG n ax=some r->dS pZ 57 [.agg (wN ax)] (.one (.c (.lit (.bool r)))):=by
 intro ax r h;refine aZ K.eG (qi ?_);unfold C.eG;rcases n with _|n<;>simp only[G.eG,reduceCtorEq]at h;have z:=pp (pp @F.ji <|pp @F.nK ()) <|pp () <|pp () <|pp () <|pp () <|pp () <|()
 exact rf
theorem F.iU {n:Nat} : ∀{aA r},G.iU n aA=some r->dS pZ 101 [.one (wS aA)] (.one (.c (.lit (.bool r)))):=by
 intro aA r h;refine aZ K.iU (qi ?_);unfold C.iU;rcases n with _|n<;>simp only[G.iU,reduceCtorEq]at h;have z:=pp (pp @F.fP ()) <|pp () <|pp (pp (@qY (Int) _ (λn x=>G.iU.L1 n aA x) r (λx=>iy.of [eS 0 aA,eI 3 x] [])) ()) <|pp () <|pp (pp (aV @G.iU.L1.eq_1 <|@G.iU.L1.eq_2) ()) <|pp (pp (@dH [] [] []) ()) <|()
 exact rf
theorem F.jk {n:Nat} : ∀{aC r},G.jk n aC=some r->dS pZ 142 [.one (wT aC)] (.one (.c (.lit (.bool r)))):=by
 intro aC r h;refine aZ K.jk (qi ?_);unfold C.jk;rcases n with _|n<;>simp only[G.jk,reduceCtorEq]at h;have z:=pp (pp @F.iV ()) <|pp () <|pp (pp (@qY (Int) _ (λn x=>G.jk.L1 n aC x) r (λx=>iy.of [eT 0 aC,eI 3 x] [])) ()) <|pp () <|pp (pp (aV @G.jk.L1.eq_1 <|@G.jk.L1.eq_2) ()) <|pp (pp (@dH [] [] []) ()) <|()
 exact rf
theorem F.nY {n:Nat} : ∀{jY r},G.nY n jY=some r->dS pZ 97 [.agg [wI jY.Kind,wT jY.Path,wT jY.From,wI jY.Value.Kind,wI jY.Value.Num,wS jY.Value.Text,wT jY.Value.Names,wK jY.Value.Kids]] (.one (.c (.lit (.bool r)))):=by
 intro jY r h;refine aZ K.nY (qi ?_);unfold C.nY;rcases n with _|n<;>simp only[G.nY,reduceCtorEq]at h;have z:=pp (pp @F.fP <|pp @F.jk <|pp @F.eG ()) <|pp () <|pp () <|pp () <|pp () <|pp () <|()
 exact rf
theorem F.gu {n:Nat} : ∀{aK r},G.gu n aK=some r->dS pZ 102 [.one (.c (.sl 8 (ag oh.cells aK)))] (.one (.c (.lit (.bool r)))):=by
 intro aK r h;refine aZ K.gu (qi ?_);unfold C.gu;rcases n with _|n<;>simp only[G.gu,reduceCtorEq]at h;have z:=pp (pp @F.nY ()) <|pp () <|pp (pp (@qY (Int) _ (λn x=>G.gu.L1 n aK x) r (λx=>iy.of [(0,.v true (.one (.c (.sl 8 (ag oh.cells aK))))),eI 3 x] [])) ()) <|pp () <|pp (pp (aV @G.gu.L1.eq_1 <|@G.gu.L1.eq_2) ()) <|pp (pp (@dH [] [] []) ()) <|()
 exact rf
theorem F.kS {n:Nat} : ∀{aU r},G.kS n aU=some r->dS pZ 58 [.agg [wI aU.Method,wS aU.Name,wT aU.Want,wT aU.oJ,wI aU.Body.Kind,wI aU.Body.Num,wS aU.Body.Text,wT aU.Body.Names,wK aU.Body.Kids,.c (.sl 8 (ag oh.cells aU.Ops))]] (.one (.c (.lit (.bool r)))):=by
 intro aU r h;refine aZ K.kS (qi ?_);unfold C.kS;rcases n with _|n<;>simp only[G.kS,reduceCtorEq]at h;have z:=pp (pp @F.fP <|pp @F.iU <|pp @F.gZ <|pp @F.eG <|pp @F.gu ()) <|pp () <|pp () <|pp () <|pp () <|pp () <|()
 exact rf
theorem F.dm {n:Nat} : ∀{aU r},G.dm n aU=some r->dS pZ 34 [.agg [wI aU.Method,wS aU.Name,wT aU.Want,wT aU.oJ,wI aU.Body.Kind,wI aU.Body.Num,wS aU.Body.Text,wT aU.Body.Names,wK aU.Body.Kids,.c (.sl 8 (ag oh.cells aU.Ops))]] (.one (wS r)):=by
 intro aU r h;refine aZ K.dm (qi ?_);unfold C.dm;rcases n with _|n<;>simp only[G.dm,reduceCtorEq]at h;have z:=pp (pp @F.kS <|pp @F.pW <|pp @F.eG <|pp @F.jq ()) <|pp () <|pp (pp (@qY (Int) _ (λn x=>G.dm.L2 n aU x) r (λx=>iy.of [eP 1 104,eI 3 x] [(104,.var [wI aU.Method,wS aU.Name,wT aU.Want,wT aU.oJ,wI aU.Body.Kind,wI aU.Body.Num,wS aU.Body.Text,wT aU.Body.Names,wK aU.Body.Kids,.c (.sl 8 (ag oh.cells aU.Ops))])])) ()) <|pp (pp (@zh (Unit) _ (λn x=>G.dm.K1 n aU) r (λx=>iy.of [eP 1 101,(33,.v true (.one (.c (.lit (.bool false)))))] [(101,.var [wI aU.Method,wS aU.Name,wT aU.Want,wT aU.oJ,wI aU.Body.Kind,wI aU.Body.Num,wS aU.Body.Text,wT aU.Body.Names,wK aU.Body.Kids,.c (.sl 8 (ag oh.cells aU.Ops))])])) ()) <|pp (pp (aV @G.dm.K1.eq_1 <|aV @G.dm.K1.eq_2 <|aV @G.dm.L2.eq_1 <|@G.dm.L2.eq_2) ()) <|pp (pp (@dH [] [(101,10)] []) <|pp (@dH [] [(104,101)] []) <|pp (@dH [] [(104,104)] []) ()) <|()
 exact rf
theorem F.gm {n:Nat} : ∀{jd r},G.gm n jd=some r->lD pZ 56 [.one (.ptr 0 0)] [.var [wS jd.text,wI jd.at_,.c (.lit (.bool jd.bad))]] (λr1 b1=>r1 = .one (.c (.lit (.int .u8 r.1)))/\b1=[.var [wS r.2.text,wI r.2.at_,.c (.lit (.bool r.2.bad))]]):=by
 intro jd r h;refine mV K.gm (qi ?_);unfold C.gm;rcases n with _|n<;>simp only[G.gm,reduceCtorEq]at h;have z:=pp () <|pp () <|pp () <|pp () <|pp () <|pp () <|(pp (@yc [] [(0,0)] []) ())
 exact rf
theorem F.jU {n:Nat} : ∀{jd Gs r},G.jU n jd Gs=some r->lD pZ 141 [.one (.ptr 0 0),.one (.c (.lit (.int .u8 Gs)))] [.var [wS jd.text,wI jd.at_,.c (.lit (.bool jd.bad))]] (λr1 b1=>r1 = .wu []/\b1=[.var [wS r.text,wI r.at_,.c (.lit (.bool r.bad))]]):=by
 intro jd Gs r h;refine mV K.jU (qi ?_);unfold C.jU;rcases n with _|n<;>simp only[G.jU,reduceCtorEq]at h;have z:=pp () <|pp (pp (pp @F.gm (@cG [0] [])) ()) <|pp () <|pp () <|pp () <|pp () <|(pp (@yc [] [(0,0)] []) ())
 exact rf
theorem F.eU {n:Nat} : ∀{jd r},G.eU n jd=some r->lD pZ 91 [.one (.ptr 0 0)] [.var [wS jd.text,wI jd.at_,.c (.lit (.bool jd.bad))]] (λr1 b1=>r1 = .one (wS r.1)/\b1=[.var [wS r.2.text,wI r.2.at_,.c (.lit (.bool r.2.bad))]]):=by
 intro jd r h;refine mV K.eU (qi ?_);unfold C.eU;rcases n with _|n<;>simp only[G.eU,reduceCtorEq]at h;have z:=pp () <|pp (pp (pp @F.jU (@cG [0] [])) <|pp (pp @F.gm (@cG [0] [])) ()) <|pp (pp (@qY (aO×Int×Bool×List Int) _ (λn x=>G.eU.L3 n x.1 x.2.1 x.2.2.1 x.2.2.2) r (λx=>iy.of [eP 0 0,(3,.v true (.one (.own 105 x.2.2.2.length 1)))] [(0,.var [wS x.1,wI x.2.1,.c (.lit (.bool x.2.2.1))]),(105,.dat 1 (ag cU x.2.2.2))])) ()) <|pp (pp (@zh (List Int×aO×Int×Bool) _ (λn x=>G.eU.K4 n x.1 x.2.1 x.2.2.1 x.2.2.2) r (λx=>iy.of [eP 0 0,(3,.v true (.one (.own 106 x.1.length 1)))] [(0,.var [wS x.2.1,wI x.2.2.1,.c (.lit (.bool x.2.2.2))]),(106,.dat 1 (ag cU x.1))])) ()) <|pp (pp (aV @G.eU.L3.eq_1 <|aV @G.eU.L3.eq_2 <|aV @G.eU.K4.eq_1 <|@G.eU.K4.eq_2) ()) <|pp (pp (@dH [] [(0,0),(105,10)] []) <|pp (@dH [] [(0,0),(106,105)] []) <|pp (@dH [] [(0,0),(105,12)] []) ()) <|(pp (@yc [] [(0,0)] []) ())
 exact rf
theorem F.fA {n:Nat} : ∀{jd r},G.fA n jd=some r->lD pZ 94 [.one (.ptr 0 0)] [.var [wS jd.text,wI jd.at_,.c (.lit (.bool jd.bad))]] (λr1 b1=>r1 = .one (wI r.1)/\b1=[.var [wS r.2.text,wI r.2.at_,.c (.lit (.bool r.2.bad))]]):=by
 intro jd r h;refine mV K.fA (qi ?_);unfold C.fA;rcases n with _|n<;>simp only[G.fA,reduceCtorEq]at h;have z:=pp (pp @F.fP ()) <|pp (pp (pp @F.gm (@cG [0] [])) ()) <|pp (pp (@qY (Int×Int×Int×aO×Int×Bool) _ (λn x=>G.fA.L2 n x.1 x.2.1 x.2.2.1 x.2.2.2.1 x.2.2.2.2.1 x.2.2.2.2.2) r (λx=>iy.of [eP 0 0,eI 3 x.2.1,eI 4 x.1,eI 5 x.2.2.1] [(0,.var [wS x.2.2.2.1,wI x.2.2.2.2.1,.c (.lit (.bool x.2.2.2.2.2))])])) ()) <|pp (pp (@zh (Int×aO×Int×Bool) _ (λn x=>G.fA.K1 n x.1 x.2.1 x.2.2.1 x.2.2.2) r (λx=>iy.of [eP 0 0,eI 3 0,eI 4 x.1] [(0,.var [wS x.2.1,wI x.2.2.1,.c (.lit (.bool x.2.2.2))])])) ()) <|pp (pp (aV @G.fA.K1.eq_1 <|aV @G.fA.K1.eq_2 <|aV @G.fA.L2.eq_1 <|@G.fA.L2.eq_2) ()) <|pp (pp (@dH [] [(0,0)] []) ()) <|(pp (@yc [] [(0,0)] []) ())
 exact rf
theorem F.G6 : ∀(n:Nat),(∀{jd:dG} {ax:aj} {yK:Int} {iq:Int} {r:aj×dG},G.bK n jd ax yK iq=some r->lD pZ 92 [.one (.ptr 0 0),.agg [.c (.lit (.int .i64 ax.Kind)),.c (.lit (.int .i64 ax.Num)),.c (.str ax.Text),.c (.sl 1 (ag cS ax.Names)),.c (.sl 5 (ag aj.cells ax.Kids))],.one (.c (.lit (.int .u8 yK))),.one (.c (.lit (.int .i64 iq)))] [.var [.c (.str jd.text),.c (.lit (.int .i64 jd.at_)),.c (.lit (.bool jd.bad))]] (λr1 b1=>r1 = .agg [.c (.lit (.int .i64 r.1.Kind)),.c (.lit (.int .i64 r.1.Num)),.c (.str r.1.Text),.c (.sl 1 (ag cS r.1.Names)),.c (.sl 5 (ag aj.cells r.1.Kids))]/\b1=[.var [.c (.str r.2.text),.c (.lit (.int .i64 r.2.at_)),.c (.lit (.bool r.2.bad))]]))/\(∀{jd:dG} {iq:Int} {r:aj×dG},G.jT n jd iq=some r->lD pZ 54 [.one (.ptr 0 0),.one (.c (.lit (.int .i64 iq)))] [.var [.c (.str jd.text),.c (.lit (.int .i64 jd.at_)),.c (.lit (.bool jd.bad))]] (λr1 b1=>r1 = .agg [.c (.lit (.int .i64 r.1.Kind)),.c (.lit (.int .i64 r.1.Num)),.c (.str r.1.Text),.c (.sl 1 (ag cS r.1.Names)),.c (.sl 5 (ag aj.cells r.1.Kids))]/\b1=[.var [.c (.str r.2.text),.c (.lit (.int .i64 r.2.at_)),.c (.lit (.bool r.2.bad))]])):=by
 intro n
 induction n using dw with|_ n ih=>
 refine⟨?_,?_⟩
 ·intro jd ax yK iq r h;refine mV K.bK (qi ?_);unfold C.bK;rcases n with _|n<;>simp only[G.bK,reduceCtorEq]at h;have:=Mk.mk 1;have:=Mk.mk 2;have z:=pp () <|pp (pp (pp (ihR ih) (@cG [0] [])) <|pp (pp @F.jU (@cG [0] [])) <|pp (pp @F.gm (@cG [0] [])) <|pp (pp @F.eU (@cG [0] [])) ()) <|pp (pp (@qY (aO×Int×Bool×List aO×List aj) _ (λn x=>G.bK.L5 n ax yK iq x.1 x.2.1 x.2.2.1 x.2.2.2.1 x.2.2.2.2) r (λx=>iy.of [(0,.v true (.one (.ptr 0 0))),(2,.v true (.one (.c (.lit (.int .u8 yK))))),(3,.v true (.one (.c (.lit (.int .i64 iq))))),(5,.v true (.one (.ptr 125 0))),(8,.v true (.one (.ptr 126 0))),(9,.v true (.one (.own 127 x.2.2.2.1.length 1))),(10,.v true (.one (.own 128 x.2.2.2.2.length 5)))] [(0,.var [.c (.str x.1),.c (.lit (.int .i64 x.2.1)),.c (.lit (.bool x.2.2.1))]),(125,.var [.c (.lit (.int .i64 ax.Kind)),.c (.lit (.int .i64 ax.Num)),.c (.str ax.Text),.c (.sl 1 (ag cS ax.Names)),.c (.sl 5 (ag aj.cells ax.Kids))]),(126,.var [.c (.lit (.int .i64 0)),.c (.lit (.int .i64 0)),.c (.str []),.jC 1,.jC 5]),(127,.dat 1 (ag cS x.2.2.2.1)),(128,.dat 5 (ag aj.cells x.2.2.2.2))])) ()) <|pp (pp (@zh (List aO×List aj×aO×Int×Bool) _ (λn x=>G.bK.K6 n ax yK iq x.1 x.2.1 x.2.2.1 x.2.2.2.1 x.2.2.2.2) r (λx=>iy.of [(0,.v true (.one (.ptr 0 0))),(2,.v true (.one (.c (.lit (.int .u8 yK))))),(3,.v true (.one (.c (.lit (.int .i64 iq))))),(5,.v true (.one (.ptr 129 0))),(8,.v true (.one (.ptr 130 0))),(9,.v true (.one (.own 131 x.1.length 1))),(10,.v true (.one (.own 132 x.2.1.length 5)))] [(0,.var [.c (.str x.2.2.1),.c (.lit (.int .i64 x.2.2.2.1)),.c (.lit (.bool x.2.2.2.2))]),(129,.var [.c (.lit (.int .i64 ax.Kind)),.c (.lit (.int .i64 ax.Num)),.c (.str ax.Text),.c (.sl 1 (ag cS ax.Names)),.c (.sl 5 (ag aj.cells ax.Kids))]),(130,.var [.c (.lit (.int .i64 0)),.c (.lit (.int .i64 0)),.c (.str []),.jC 1,.jC 5]),(131,.dat 1 (ag cS x.1)),(132,.dat 5 (ag aj.cells x.2.1))])) <|pp (@zh (List aj×aO×Int×Bool×List aO) _ (λn x=>G.bK.K7 n ax yK iq x.1 x.2.1 x.2.2.1 x.2.2.2.1 x.2.2.2.2) r (λx=>iy.of [(0,.v true (.one (.ptr 0 0))),(2,.v true (.one (.c (.lit (.int .u8 yK))))),(3,.v true (.one (.c (.lit (.int .i64 iq))))),(5,.v true (.one (.ptr 133 0))),(8,.v true (.one (.ptr 134 0))),(9,.v true (.one (.own 135 x.2.2.2.2.length 1))),(10,.v true (.one (.own 136 x.1.length 5)))] [(0,.var [.c (.str x.2.1),.c (.lit (.int .i64 x.2.2.1)),.c (.lit (.bool x.2.2.2.1))]),(133,.var [.c (.lit (.int .i64 ax.Kind)),.c (.lit (.int .i64 ax.Num)),.c (.str ax.Text),.c (.sl 1 (ag cS ax.Names)),.c (.sl 5 (ag aj.cells ax.Kids))]),(134,.var [.c (.lit (.int .i64 0)),.c (.lit (.int .i64 0)),.c (.str []),.jC 1,.jC 5]),(135,.dat 1 (ag cS x.2.2.2.2)),(136,.dat 5 (ag aj.cells x.1))])) ()) <|pp (pp (aV @G.bK.L5.eq_1 <|aV @G.bK.L5.eq_2 <|aV @G.bK.K6.eq_1 <|aV @G.bK.K6.eq_2 <|aV @G.bK.K7.eq_1 <|@G.bK.K7.eq_2) ()) <|pp (pp (@dH [] [(0,0),(125,10),(126,11),(127,12),(128,13)] []) <|pp (@dH [] [(0,0),(129,125),(130,126),(131,127),(132,128)] []) <|pp (@dH [] [(0,0),(133,129),(134,130),(135,15),(136,132)] []) <|pp (@dH [] [(0,0),(133,129),(134,130),(135,131),(136,132)] []) <|pp (@dH [] [(0,0),(125,133),(126,134),(127,135),(128,17)] []) ()) <|pp (pp (@yc [127,128] [(0,0)] []) ()) <|(pp (pp (rfl : @G.bK.K6=_) <|pp (rfl : @G.bK.L5=_) <|pp (rfl : @G.bK.K7=_) ()) <|pp (pp (rfl : @G.bK.K7=_) <|pp (rfl : @G.bK.K6=_) <|pp (rfl : @G.bK.L5=_) ()) ())
  exact Vl
 ·intro jd iq r h;refine mV K.jT (qi ?_);unfold C.jT;rcases n with _|n<;>simp only[G.jT,reduceCtorEq]at h;have z:=pp (pp @F.fP ()) <|pp (pp (pp (ihL ih) (@cH [0] [])) <|pp (pp @F.gm (@cG [0] [])) <|pp (pp @F.eU (@cG [0] [])) <|pp (pp @F.fA (@cG [0] [])) ()) <|pp () <|pp () <|pp () <|pp () <|(pp (@yc [] [(0,0)] []) ())
  exact rf
theorem F.jT {n:Nat} : ∀{jd:dG} {iq:Int} {r:aj×dG},G.jT n jd iq=some r->lD pZ 54 [.one (.ptr 0 0),.one (wI iq)] [.var [wS jd.text,wI jd.at_,.c (.lit (.bool jd.bad))]] (λr1 b1=>r1 = .agg (wN r.1)/\b1=[.var [wS r.2.text,wI r.2.at_,.c (.lit (.bool r.2.bad))]]):=(F.G6 n).2
theorem F.qJ {n:Nat} : ∀{aA r},G.qJ n aA=some r->dS pZ 33 [.one (wS aA)] (.wu [(true,(wN r.1)),(false,[.c (.lit (.bool r.2))])]):=by
 intro aA r h;refine aZ K.qJ (qi ?_);unfold C.qJ;rcases n with _|n<;>simp only[G.qJ,reduceCtorEq]at h;have z:=pp (pp @F.eG <|pp @F.dW ()) <|pp (pp (pp @F.jT (@cG [11] [])) ()) <|pp () <|pp () <|pp () <|pp () <|()
 exact rf
theorem F.iY {n:Nat} : ∀{aA r},G.iY n aA=some r->dS pZ 31 [.one (wS aA)] (.wu [(false,[wT r.1]),(false,[.c (.lit (.bool r.2))])]):=by
 intro aA r h;refine aZ K.iY (qi ?_);unfold C.iY;rcases n with _|n<;>simp only[G.iY,reduceCtorEq]at h;have z:=pp (pp @F.fK <|pp @F.gZ ()) <|pp () <|pp (pp (@qY (Int×List aO) _ (λn x=>G.iY.L1 n aA x.1 x.2) r (λx=>iy.of [eS 0 aA,(4,.v true (.one (.own 103 x.2.length 1))),eI 5 x.1] [(103,.dat 1 (ag cS x.2))])) ()) <|pp () <|pp (pp (aV @G.iY.L1.eq_1 <|@G.iY.L1.eq_2) ()) <|pp (pp (@dH [] [(103,10)] []) <|pp (@dH [] [(103,103)] []) <|pp (@dH [] [(103,12)] []) <|pp (@dH [] [(103,14)] []) ()) <|()
 exact rf
theorem F.qK {n:Nat} : ∀{aA r},G.qK n aA=some r->dS pZ 29 [.one (wS aA)] (.wu [(false,[wS r.1]),(false,[wS r.2])]):=by
 intro aA r h;refine aZ K.qK (qi ?_);unfold C.qK;rcases n with _|n<;>simp only[G.qK,reduceCtorEq]at h;have z:=pp () <|pp () <|pp (pp (@qY (Int) _ (λn x=>G.qK.L1 n aA x) r (λx=>iy.of [eS 0 aA,eI 4 x] [])) ()) <|pp () <|pp (pp (aV @G.qK.L1.eq_1 <|@G.qK.L1.eq_2) ()) <|pp (pp (@dH [] [] []) ()) <|()
 exact rf
theorem F.nD {n:Nat} : ∀{ax r},G.nD n ax=some r->dS pZ 96 [.agg (wN ax)] (.one (wT r)):=by
 intro ax r h;refine aZ K.nD (qi ?_);unfold C.nD;rcases n with _|n<;>simp only[G.nD,reduceCtorEq]at h;have z:=pp () <|pp () <|pp (pp (@qY (Int×List aO) _ (λn x=>G.nD.L1 n ax x.1 x.2) r (λx=>iy.of [eP 1 105,(3,.v true (.one (.own 106 x.2.length 1))),eI 4 x.1] [(105,.var (wN ax)),(106,.dat 1 (ag cS x.2))])) ()) <|pp () <|pp (pp (aV @G.nD.L1.eq_1 <|@G.nD.L1.eq_2) ()) <|pp (pp (@dH [] [(105,10),(106,11)] []) <|pp (@dH [] [(105,105),(106,13)] []) ()) <|()
 exact rf
theorem F.lX {n:Nat} : ∀{nI r},G.lX n nI=some r->dS pZ 202 [.one (.c (.lit (.bool nI)))] (.one (wI r)):=by
 intro nI r h;refine aZ K.lX (qi ?_);unfold C.lX;rcases n with _|n<;>simp only[G.lX,reduceCtorEq]at h;have z:=pp () <|pp () <|pp () <|pp () <|pp () <|pp () <|()
 exact rf
theorem F.qo {n:Nat} : ∀{kC nI r},G.qo n kC nI=some r->dS pZ 179 [.one (wI kC),.one (wI nI)] (.one (wI r)):=by
 intro kC nI r h;refine aZ K.qo (qi ?_);unfold C.qo;rcases n with _|n<;>simp only[G.qo,reduceCtorEq]at h;have z:=pp (pp @F.lX ()) <|pp () <|pp () <|pp () <|pp () <|pp () <|()
 exact rf
theorem F.oD {n:Nat} : ∀{kC nI r},G.oD n kC nI=some r->dS pZ 180 [.one (wS kC),.one (wS nI)] (.one (wI r)):=by
 intro kC nI r h;refine aZ K.oD (qi ?_);unfold C.oD;rcases n with _|n<;>simp only[G.oD,reduceCtorEq]at h;have z:=pp (pp @F.lX ()) <|pp () <|pp () <|pp () <|pp () <|pp () <|()
 exact rf
theorem F.QE : ∀(n:Nat),∀{kC nI r},G.iG n kC nI=some r->dS pZ 143 [.agg (wN kC),.agg (wN nI)] (.one (wI r)):=by
 intro n
 induction n using dw with|_ n ih=>
 intro kC nI r h;refine aZ K.iG (qi ?_);unfold C.iG;rcases n with _|n<;>simp only[G.iG,reduceCtorEq]at h;have z:=pp (pp ih <|pp @F.qo <|pp @F.oD ()) <|pp () <|pp (pp (@qY (Int) _ (λn x=>G.iG.L1 n kC nI x) r (λx=>iy.of [eP 2 105,eP 3 106,eI 5 x] [(105,.var (wN kC)),(106,.var (wN nI))])) ()) <|pp () <|pp (pp (aV @G.iG.L1.eq_1 <|@G.iG.L1.eq_2) ()) <|pp (pp (@dH [] [(105,10),(106,11)] []) <|pp (@dH [] [(105,105),(106,106)] []) ()) <|()
 exact rf
theorem F.iG {n:Nat} : ∀{kC:aj} {nI:aj} {r:Int},G.iG n kC nI=some r->dS pZ 143 [.agg (wN kC),.agg (wN nI)] (.one (wI r)):=F.QE n
theorem F.vz {n:Nat} : ∀{kC nI r},G.vz n kC nI=some r->dS pZ 98 [.agg (wN kC),.agg (wN nI)] (.one (.c (.lit (.bool r)))):=by
 intro kC nI r h;refine aZ K.vz (qi ?_);unfold C.vz;rcases n with _|n<;>simp only[G.vz,reduceCtorEq]at h;have z:=pp (pp @F.iG ()) <|pp () <|pp () <|pp () <|pp () <|pp () <|()
 exact rf
theorem F.kZ {n:Nat} : ∀{ax r},G.kZ n ax=some r->dS pZ 55 [.agg (wN ax)] (.wu [(true,[wI r.1.Kind,wT r.1.Path,wT r.1.From,wI r.1.Value.Kind,wI r.1.Value.Num,wS r.1.Value.Text,wT r.1.Value.Names,wK r.1.Value.Kids]),(false,[.c (.lit (.bool r.2))])]):=by
 intro ax r h;refine aZ K.kZ (qi ?_);unfold C.kZ;rcases n with _|n<;>simp only[G.kZ,reduceCtorEq]at h;have z:=pp (pp @F.eG <|pp @F.uf <|pp @F.nD <|pp @F.aY <|pp @F.nY <|pp @F.pW <|pp @F.vz ()) <|pp () <|pp (pp (@qY (List aO×Int×Int) _ (λn x=>G.kZ.L1 n ax x.1 x.2.1 x.2.2) r (λx=>iy.of [eP 1 105,eP 2 106,eT 4 x.1,eI 5 x.2.1,eI 6 x.2.2] [(105,.var (wN ax)),(106,.var [wI 0,.jC 1,.jC 1,wI 0,wI 0,.c (.str []),.jC 1,.jC 5])])) ()) <|pp () <|pp (pp (aV @G.kZ.L1.eq_1 <|@G.kZ.L1.eq_2) ()) <|pp (pp (@dH [] [(105,10),(106,11)] []) <|pp (@dH [] [(105,105),(106,106)] []) ()) <|()
 exact rf
theorem F.l9 {n:Nat} : ∀{aA r},G.l9 n aA=some r->dS pZ 32 [.one (wS aA)] (.wu [(false,[.c (.sl 8 (ag oh.cells r.1))]),(false,[.c (.lit (.bool r.2))])]):=by
 intro aA r h;refine aZ K.l9 (qi ?_);unfold C.l9;rcases n with _|n<;>simp only[G.l9,reduceCtorEq]at h;have z:=pp (pp @F.kZ ()) <|pp (pp (pp @F.jT (@cG [11] [])) <|pp (pp @F.gm (@cG [11] [])) ()) <|pp (pp (@qY (aO×List oh) _ (λn x=>G.l9.L1 n x.1 x.2) r (λx=>iy.of [eS 0 x.1,(4,.v true (.one (.own 103 x.2.length 8)))] [(103,.dat 8 (ag oh.cells x.2))])) ()) <|pp () <|pp (pp (aV @G.l9.L1.eq_1 <|@G.l9.L1.eq_2) ()) <|pp (pp (@dH [] [(103,10)] []) <|pp (@dH [] [(103,15)] []) ()) <|()
 exact rf
theorem F.fG {n:Nat} : ∀{aA r},G.fG n aA=some r->dS pZ 18 [.one (wS aA)] (.wu [(true,[wI r.1.Method,wS r.1.Name,wT r.1.Want,wT r.1.oJ,wI r.1.Body.Kind,wI r.1.Body.Num,wS r.1.Body.Text,wT r.1.Body.Names,wK r.1.Body.Kids,.c (.sl 8 (ag oh.cells r.1.Ops))]),(false,[.c (.lit (.bool r.2))])]):=by
 intro aA r h;refine aZ K.fG (qi ?_);unfold C.fG;rcases n with _|n<;>simp only[G.fG,reduceCtorEq]at h;have z:=pp (pp @F.qK <|pp @F.vU <|pp @F.iY <|pp @F.l9 <|pp @F.qJ <|pp @F.dm ()) <|pp () <|pp (pp (@qY ((aO×aO)×(aO×aO)×(aO×aO)×(aO×aO)×List aO×Int×Int) _ (λn x=>G.fG.L1 n aA x.1 x.2.1 x.2.2.1 x.2.2.2.1 x.2.2.2.2.1 x.2.2.2.2.2.1 x.2.2.2.2.2.2) r (λx=>iy.of [eS 0 aA,eP 2 111,eS 4 x.1.1,eS 8 x.2.2.1.1,eS 10 x.2.2.2.1.1,eS 11 x.2.2.2.1.2,eP 12 112,eT 13 x.2.2.2.2.1,eI 14 x.2.2.2.2.2.1] [(111,.var [wI 0,.c (.str []),.jC 1,.jC 1,wI 0,wI 0,.c (.str []),.jC 1,.jC 5,.jC 8]),(112,.var [wI x.2.2.2.2.2.2,wS x.2.1.1,.own 113 0 1,.own 114 0 1,wI 0,wI 0,.c (.str []),.jC 1,.jC 5,.own 115 0 8]),(113,.dat 1 (ag cS [])),(114,.dat 1 (ag cS [])),(115,.dat 8 (ag oh.cells []))])) ()) <|pp (pp (@zh ((aO×aO)×Int×(List aO×Bool)×(List aO×Bool)×Bool×Int×Int×aO×List aO×List aj×List oh) _ (λn x=>G.fG.K2 n aA x.1 x.2.1 x.2.2.1 x.2.2.2.1 x.2.2.2.2.1 x.2.2.2.2.2.1 x.2.2.2.2.2.2.1 x.2.2.2.2.2.2.2.1 x.2.2.2.2.2.2.2.2.1 x.2.2.2.2.2.2.2.2.2.1 x.2.2.2.2.2.2.2.2.2.2) r (λx=>iy.of [eS 0 aA,eP 2 116,eP 12 117,eT 15 x.2.2.1.1,(16,.v true (.one (.c (.lit (.bool x.2.2.1.2))))),eT 17 x.2.2.2.1.1,(18,.v true (.one (.c (.lit (.bool x.2.2.2.1.2))))),(19,.v true (.one (.c (.lit (.bool x.2.2.2.2.1)))))] [(116,.var [wI 0,.c (.str []),.jC 1,.jC 1,wI 0,wI 0,.c (.str []),.jC 1,.jC 5,.jC 8]),(117,.var [wI x.2.1,wS x.1.1,.own 118 0 1,.own 119 0 1,wI x.2.2.2.2.2.1,wI x.2.2.2.2.2.2.1,wS x.2.2.2.2.2.2.2.1,wT x.2.2.2.2.2.2.2.2.1,wK x.2.2.2.2.2.2.2.2.2.1,.c (.sl 8 (ag oh.cells x.2.2.2.2.2.2.2.2.2.2))]),(118,.dat 1 (ag cS [])),(119,.dat 1 (ag cS []))])) ()) <|pp (pp (aV @G.fG.L1.eq_1 <|aV @G.fG.L1.eq_2 <|aV @G.fG.K2.eq_1 <|@G.fG.K2.eq_2) ()) <|pp (pp (@dH [] [(111,10),(112,14),(113,11),(114,12),(115,13)] []) <|pp (@dH [] [(111,111),(112,112),(113,113),(114,114),(115,115)] []) <|pp (@dH [] [(116,111),(117,112),(118,113),(119,114)] []) <|pp (@dH [115] [(116,111),(117,112),(118,113),(119,114)] []) ()) <|()
 exact rf
theorem F.fE {n:Nat} : ∀{aA r},G.fE n aA=some r->dS pZ 17 [.agg [.c (.sl 7 (ag bG.cells aA.Items)),wI aA.Clock]] (.agg [.c (.sl 7 (ag bG.cells r.Items)),wI r.Clock]):=by
 intro aA r h;refine aZ K.fE (qi ?_);unfold C.fE;rcases n with _|n<;>simp only[G.fE,reduceCtorEq]at h;have z:=pp (pp @F.aY ()) <|pp () <|pp (pp (@qY (Int×List bG) _ (λn x=>G.fE.L1 n aA x.1 x.2) r (λx=>iy.of [eP 1 107,eP 2 108,(3,.v true (.one (.own 109 x.2.length 7))),eI 4 x.1] [(107,.var [.c (.sl 7 (ag bG.cells aA.Items)),wI aA.Clock]),(108,.var [.jC 7,wI 0]),(109,.dat 7 (ag bG.cells x.2))])) ()) <|pp () <|pp (pp (aV @G.fE.L1.eq_1 <|@G.fE.L1.eq_2) ()) <|pp (pp (@dH [] [(107,10),(108,11),(109,12)] []) <|pp (@dH [] [(107,107),(108,108),(109,14)] []) ()) <|()
 exact rf
theorem F.jE {n:Nat} : ∀{ax jO r},G.jE n ax jO=some r->dS pZ 148 [.agg (wN ax),.one (wS jO)] (.one (wI r)):=by
 intro ax jO r h;refine aZ K.jE (qi ?_);unfold C.jE;rcases n with _|n<;>simp only[G.jE,reduceCtorEq]at h;have z:=pp (pp @F.jP ()) <|pp () <|pp (pp (@qY (Int) _ (λn x=>G.jE.L1 n ax jO x) r (λx=>iy.of [eS 1 jO,eP 2 103,eI 5 x] [(103,.var (wN ax))])) ()) <|pp () <|pp (pp (aV @G.jE.L1.eq_1 <|@G.jE.L1.eq_2) ()) <|pp (pp (@dH [] [(103,10)] []) <|pp (@dH [] [(103,103)] []) ()) <|()
 exact rf
theorem F.lV {n:Nat} : ∀{ax jO r},G.lV n ax jO=some r->dS pZ 185 [.agg (wN ax),.one (wS jO)] (.wu [(false,[wI r.1]),(false,[.c (.lit (.bool r.2))])]):=by
 intro ax jO r h;refine aZ K.lV (qi ?_);unfold C.lV;rcases n with _|n<;>simp only[G.lV,reduceCtorEq]at h;have z:=pp (pp @F.jE <|pp @F.jP ()) <|pp () <|pp (pp (@qY (Int) _ (λn x=>G.lV.L1 n ax jO x) r (λx=>iy.of [eS 1 jO,eP 2 103,eI 7 x] [(103,.var (wN ax))])) <|pp (@qY (Int) _ (λn x=>G.lV.L2 n ax jO x) r (λx=>iy.of [eS 1 jO,eP 2 106,eI 7 x] [(106,.var (wN ax))])) ()) <|pp () <|pp (pp (aV @G.lV.L1.eq_1 <|aV @G.lV.L1.eq_2 <|aV @G.lV.L2.eq_1 <|@G.lV.L2.eq_2) ()) <|pp (pp (@dH [] [(103,10)] []) <|pp (@dH [] [(103,103)] []) <|pp (@dH [] [(106,10)] []) <|pp (@dH [] [(106,106)] []) ()) <|()
 exact rf
theorem F.oN {n:Nat} : ∀{ax WL Pj r},G.oN n ax WL Pj=some r->dS pZ 150 [.agg (wN ax),.one (wI WL),.agg (wN Pj)] (.agg (wN r)):=by
 intro ax WL Pj r h;refine aZ K.oN (qi ?_);unfold C.oN;rcases n with _|n<;>simp only[G.oN,reduceCtorEq]at h;have z:=pp () <|pp (pp (pp @F.Iu (@cG [] [101,102])) <|pp (pp @F.Iu (@cG [] [103,104])) ()) <|pp () <|pp () <|pp () <|pp () <|()
 exact rf
theorem F.pR {n:Nat} : ∀{ax jO iP r},G.pR n ax jO iP=some r->dS pZ 151 [.agg (wN ax),.one (wS jO),.agg (wN iP)] (.wu [(true,(wN r.1)),(false,[.c (.lit (.bool r.2))])]):=by
 intro ax jO iP r h;refine aZ K.pR (qi ?_);unfold C.pR;rcases n with _|n<;>simp only[G.pR,reduceCtorEq]at h;have z:=pp (pp @F.lV <|pp @F.oN <|pp @F.aY ()) <|pp () <|pp () <|pp () <|pp () <|pp () <|()
 exact rf
theorem F.sG {n:Nat} : ∀{ax aC r},G.sG n ax aC=some r->dS pZ 183 [.agg (wN ax),.one (wT aC)] (.wu [(true,(wN r.1)),(false,[.c (.lit (.bool r.2))])]):=by
 intro ax aC r h;refine aZ K.sG (qi ?_);unfold C.sG;rcases n with _|n<;>simp only[G.sG,reduceCtorEq]at h;have z:=pp (pp @F.jE <|pp @F.aY ()) <|pp () <|pp (pp (@qY (Int×Int×Int×aO×List aO×List aj) _ (λn x=>G.sG.L1 n aC x.1 x.2.1 x.2.2.1 x.2.2.2.1 x.2.2.2.2.1 x.2.2.2.2.2) r (λx=>iy.of [eT 1 aC,eP 2 105,eP 4 106,eI 6 x.1] [(105,.var [wI x.2.1,wI x.2.2.1,wS x.2.2.2.1,wT x.2.2.2.2.1,wK x.2.2.2.2.2]),(106,.var zN)])) ()) <|pp () <|pp (pp (aV @G.sG.L1.eq_1 <|@G.sG.L1.eq_2) ()) <|pp (pp (@dH [] [(105,10),(106,11)] []) <|pp (@dH [] [(105,105),(106,106)] []) ()) <|()
 exact rf
theorem F.UC : ∀(n:Nat),∀{ax aC iP r},G.oU n ax aC iP=some r->dS pZ 182 [.agg (wN ax),.one (wT aC),.agg (wN iP)] (.wu [(true,(wN r.1)),(false,[.c (.lit (.bool r.2))])]):=by
 intro n
 induction n using dw with|_ n ih=>
 intro ax aC iP r h;refine aZ K.oU (qi ?_);unfold C.oU;rcases n with _|n<;>simp only[G.oU,reduceCtorEq]at h;have z:=pp (pp ih <|pp @F.aY <|pp @F.jE <|pp @F.oN ()) <|pp () <|pp () <|pp () <|pp () <|pp () <|()
 exact rf
theorem F.oU {n:Nat} : ∀{ax:aj} {aC:List aO} {iP:aj} {r:aj×Bool},G.oU n ax aC iP=some r->dS pZ 182 [.agg (wN ax),.one (wT aC),.agg (wN iP)] (.wu [(true,(wN r.1)),(false,[.c (.lit (.bool r.2))])]):=F.UC n
theorem F.tK {n:Nat} : ∀{ax aC iP r},G.tK n ax aC iP=some r->dS pZ 181 [.agg (wN ax),.one (wT aC),.agg (wN iP)] (.wu [(true,(wN r.1)),(false,[.c (.lit (.bool r.2))])]):=by
 intro ax aC iP r h;refine aZ K.tK (qi ?_);unfold C.tK;rcases n with _|n<;>simp only[G.tK,reduceCtorEq]at h;have z:=pp (pp @F.aY <|pp @F.sG <|pp @F.pR <|pp @F.oU ()) <|pp () <|pp () <|pp () <|pp () <|pp () <|()
 exact rf
theorem F.nC {n:Nat} : ∀{aC CU r},G.nC n aC CU=some r->dS pZ 184 [.one (wT aC),.one (wT CU)] (.one (.c (.lit (.bool r)))):=by
 intro aC CU r h;refine aZ K.nC (qi ?_);unfold C.nC;rcases n with _|n<;>simp only[G.nC,reduceCtorEq]at h;have z:=pp () <|pp () <|pp (pp (@qY (Int) _ (λn x=>G.nC.L1 n aC CU x) r (λx=>iy.of [eT 0 aC,eT 1 CU,eI 5 x] [])) ()) <|pp () <|pp (pp (aV @G.nC.L1.eq_1 <|@G.nC.L1.eq_2) ()) <|pp (pp (@dH [] [] []) ()) <|()
 exact rf
theorem F.kz {n:Nat} : ∀{ax aC r},G.kz n ax aC=some r->dS pZ 149 [.agg (wN ax),.one (wT aC)] (.wu [(true,(wN r.1)),(false,[.c (.lit (.bool r.2))])]):=by
 intro ax aC r h;refine aZ K.kz (qi ?_);unfold C.kz;rcases n with _|n<;>simp only[G.kz,reduceCtorEq]at h;have z:=pp (pp @F.sG <|pp @F.jE <|pp @F.oU ()) <|pp () <|pp () <|pp (pp (@zh ((aj×Bool)×List aj×List aO) _ (λn x=>G.kz.K1 n ax aC x.1 x.2.1 x.2.2) r (λx=>iy.of [eT 1 aC,eP 2 101,eP 4 102,eI 6 (af .i64 ((aC.length:Int)-1)),eP 7 103,(10,.v true (.one (.own 104 x.2.1.length 5))),(11,.v true (.one (.own 105 x.2.2.length 1)))] [(101,.var (wN ax)),(102,.var zN),(103,.var (wN x.1.1)),(104,.dat 5 (ag aj.cells x.2.1)),(105,.dat 1 (ag cS x.2.2))])) ()) <|pp (pp (aV @G.kz.K1.eq_1 <|@G.kz.K1.eq_2) ()) <|pp (pp (@dH [] [(101,10),(102,11),(103,12),(104,15),(105,19)] []) <|pp (@dH [] [(101,10),(102,11),(103,12),(104,15),(105,16)] []) ()) <|()
 exact rf
theorem F.kV {n:Nat} : ∀{ax jY r},G.kV n ax jY=some r->dS pZ 147 [.agg (wN ax),.agg [wI jY.Kind,wT jY.Path,wT jY.From,wI jY.Value.Kind,wI jY.Value.Num,wS jY.Value.Text,wT jY.Value.Names,wK jY.Value.Kids]] (.wu [(true,(wN r.1)),(false,[.c (.lit (.bool r.2))])]):=by
 intro ax jY r h;refine aZ K.kV (qi ?_);unfold C.kV;rcases n with _|n<;>simp only[G.kV,reduceCtorEq]at h;have z:=pp (pp @F.tK <|pp @F.kz <|pp @F.oU <|pp @F.sG <|pp @F.vz <|pp @F.nC <|pp @F.aY ()) <|pp () <|pp () <|pp (pp (@zh (List aO) _ (λn x=>G.kV.K1 n ax jY x) r (λx=>iy.of [eP 2 101,eP 3 102,eP 4 103,eT 6 x] [(101,.var (wN ax)),(102,.var [wI jY.Kind,wT jY.Path,wT jY.From,wI jY.Value.Kind,wI jY.Value.Num,wS jY.Value.Text,wT jY.Value.Names,wK jY.Value.Kids]),(103,.var zN)])) ()) <|pp (pp (aV @G.kV.K1.eq_1 <|@G.kV.K1.eq_2) ()) <|pp (pp (@dH [] [(101,10),(102,11),(103,12)] []) ()) <|()
 exact rf
theorem F.o9 {n:Nat} : ∀{ax IG r},G.o9 n ax IG=some r->dS pZ 111 [.agg (wN ax),.one (.c (.lit (.bool IG)))] (.wu [(true,(wN r.1)),(false,[.c (.lit (.bool r.2))])]):=by
 intro ax IG r h;refine aZ K.o9 (qi ?_);unfold C.o9;rcases n with _|n<;>simp only[G.o9,reduceCtorEq]at h;have z:=pp (pp @F.eG ()) <|pp () <|pp () <|pp () <|pp () <|pp () <|()
 exact rf
theorem F.pJ {n:Nat} : ∀{ax jY r},G.pJ n ax jY=some r->dS pZ 110 [.agg (wN ax),.agg [wI jY.Kind,wT jY.Path,wT jY.From,wI jY.Value.Kind,wI jY.Value.Num,wS jY.Value.Text,wT jY.Value.Names,wK jY.Value.Kids]] (.wu [(true,(wN r.1)),(false,[.c (.lit (.bool r.2))])]):=by
 intro ax jY r h;refine aZ K.pJ (qi ?_);unfold C.pJ;rcases n with _|n<;>simp only[G.pJ,reduceCtorEq]at h;have z:=pp (pp @F.kV <|pp @F.o9 <|pp @F.aY ()) <|pp () <|pp () <|pp () <|pp () <|pp () <|()
 exact rf
theorem F.jA {n:Nat} : ∀{ax aK r},G.jA n ax aK=some r->dS pZ 67 [.agg (wN ax),.one (.c (.sl 8 (ag oh.cells aK)))] (.wu [(true,(wN r.1)),(false,[.c (.lit (.bool r.2))])]):=by
 intro ax aK r h;refine aZ K.jA (qi ?_);unfold C.jA;rcases n with _|n<;>simp only[G.jA,reduceCtorEq]at h;have z:=pp (pp @F.eG <|pp @F.gu <|pp @F.aY <|pp @F.pJ ()) <|pp () <|pp (pp (@qY (Int×Int×Int×aO×List aO×List aj) _ (λn x=>G.jA.L1 n aK x.1 x.2.1 x.2.2.1 x.2.2.2.1 x.2.2.2.2.1 x.2.2.2.2.2) r (λx=>iy.of [(1,.v true (.one (.c (.sl 8 (ag oh.cells aK))))),eP 4 105,eP 6 106,eI 7 x.1] [(105,.var zN),(106,.var [wI x.2.1,wI x.2.2.1,wS x.2.2.2.1,wT x.2.2.2.2.1,wK x.2.2.2.2.2])])) ()) <|pp () <|pp (pp (aV @G.jA.L1.eq_1 <|@G.jA.L1.eq_2) ()) <|pp (pp (@dH [] [(105,11),(106,12)] []) <|pp (@dH [] [(105,105),(106,106)] []) ()) <|()
 exact rf
theorem F.UB : ∀(n:Nat),∀{ax dK r},G.jD n ax dK=some r->dS pZ 112 [.agg (wN ax),.agg (wN dK)] (.agg (wN r)):=by
 intro n
 induction n using dw with|_ n ih=>
 intro ax dK r h;refine aZ K.jD (qi ?_);unfold C.jD;rcases n with _|n<;>simp only[G.jD,reduceCtorEq]at h;have z:=pp (pp ih <|pp @F.aY <|pp @F.jE <|pp @F.kz <|pp @F.pR <|pp @F.oN ()) <|pp () <|pp (pp (@qY (Int×Int×Int×aO×List aO×List aj) _ (λn x=>G.jD.L2 n dK x.1 x.2.1 x.2.2.1 x.2.2.2.1 x.2.2.2.2.1 x.2.2.2.2.2) r (λx=>iy.of [eP 3 110,eP 4 111,eP 5 112,eI 6 x.1] [(110,.var (wN dK)),(111,.var zN),(112,.var [wI x.2.1,wI x.2.2.1,wS x.2.2.2.1,wT x.2.2.2.2.1,wK x.2.2.2.2.2])])) ()) <|pp (pp (@zh (Int×Int×aO×List aO×List aj) _ (λn x=>G.jD.K1 n dK x.1 x.2.1 x.2.2.1 x.2.2.2.1 x.2.2.2.2) r (λx=>iy.of [eP 3 101,eP 4 102,eP 5 103] [(101,.var (wN dK)),(102,.var zN),(103,.var [wI x.1,wI x.2.1,wS x.2.2.1,wT x.2.2.2.1,wK x.2.2.2.2])])) ()) <|pp (pp (aV @G.jD.K1.eq_1 <|aV @G.jD.K1.eq_2 <|aV @G.jD.L2.eq_1 <|@G.jD.L2.eq_2) ()) <|pp (pp (@dH [] [(101,11),(102,12),(103,15)] []) <|pp (@dH [13,14] [(101,11),(102,12),(103,15)] []) <|pp (@dH [] [(110,101),(111,102),(112,103)] []) <|pp (@dH [] [(110,110),(111,111),(112,112)] []) ()) <|()
 exact rf
theorem F.jD {n:Nat} : ∀{ax:aj} {dK:aj} {r:aj},G.jD n ax dK=some r->dS pZ 112 [.agg (wN ax),.agg (wN dK)] (.agg (wN r)):=F.UB n
theorem F.pI {n:Nat} : ∀{ax dK r},G.pI n ax dK=some r->dS pZ 68 [.agg (wN ax),.agg (wN dK)] (.wu [(true,(wN r.1)),(false,[.c (.lit (.bool r.2))])]):=by
 intro ax dK r h;refine aZ K.pI (qi ?_);unfold C.pI;rcases n with _|n<;>simp only[G.pI,reduceCtorEq]at h;have z:=pp (pp @F.eG <|pp @F.jD <|pp @F.o9 ()) <|pp () <|pp () <|pp () <|pp () <|pp () <|()
 exact rf
theorem F.oz {n:Nat} : ∀{Gu r},G.oz n Gu=some r->dS pZ 62 [.one (wI Gu)] (.agg [wI r.Status,wS r.Tag,wI r.Version,wI r.Body.Kind,wI r.Body.Num,wS r.Body.Text,wT r.Body.Names,wK r.Body.Kids]):=by
 intro Gu r h;refine aZ K.oz (qi ?_);unfold C.oz;rcases n with _|n<;>simp only[G.oz,reduceCtorEq]at h;have z:=pp () <|pp () <|pp () <|pp () <|pp () <|pp () <|()
 exact rf
theorem F.mW {n:Nat} : ∀{aK qW r},G.mW n aK qW=some r->dS pZ 105 [.one (wT aK),.one (wS qW)] (.one (.c (.lit (.bool r)))):=by
 intro aK qW r h;refine aZ K.mW (qi ?_);unfold C.mW;rcases n with _|n<;>simp only[G.mW,reduceCtorEq]at h;have z:=pp () <|pp () <|pp (pp (@qY (Int) _ (λn x=>G.mW.L1 n aK qW x) r (λx=>iy.of [eT 0 aK,eS 1 qW,eI 5 x] [])) ()) <|pp () <|pp (pp (aV @G.mW.L1.eq_1 <|@G.mW.L1.eq_2) ()) <|pp (pp (@dH [] [] []) ()) <|()
 exact rf
theorem F.uJ {n:Nat} : ∀{xZ um qW wO r},G.uJ n xZ um qW wO=some r->dS pZ 63 [.one (wT xZ),.one (wT um),.one (wS qW),.one (.c (.lit (.bool wO)))] (.one (wI r)):=by
 intro xZ um qW wO r h;refine aZ K.uJ (qi ?_);unfold C.uJ;rcases n with _|n<;>simp only[G.uJ,reduceCtorEq]at h;have z:=pp (pp @F.mW ()) <|pp () <|pp () <|pp () <|pp () <|pp () <|()
 exact rf
theorem F.qx {n:Nat} : ∀{aA eY r},G.qx n aA eY=some r->dS pZ 66 [.agg [.c (.sl 7 (ag bG.cells aA.Items)),wI aA.Clock],.one (wS eY)] (.agg [.c (.sl 7 (ag bG.cells r.Items)),wI r.Clock]):=by
 intro aA eY r h;refine aZ K.qx (qi ?_);unfold C.qx;rcases n with _|n<;>simp only[G.qx,reduceCtorEq]at h;have z:=pp (pp @F.fE ()) <|pp () <|pp (pp (@qY (StoreT×Int×List bG) _ (λn x=>G.qx.L1 n aA eY x.1 x.2.1 x.2.2) r (λx=>iy.of [eS 1 eY,eP 2 107,eP 4 108,(5,.v true (.one (.own 109 x.2.2.length 7))),(6,.v true (.one (.c (.sl 7 (ag bG.cells x.1.Items))))),eI 7 x.2.1] [(107,.var [.c (.sl 7 (ag bG.cells aA.Items)),wI aA.Clock]),(108,.var [.jC 7,wI 0]),(109,.dat 7 (ag bG.cells x.2.2))])) ()) <|pp () <|pp (pp (aV @G.qx.L1.eq_1 <|@G.qx.L1.eq_2) ()) <|pp (pp (@dH [] [(107,10),(108,11),(109,12)] []) <|pp (@dH [] [(107,107),(108,108),(109,109)] []) <|pp (@dH [] [(107,107),(108,108),(109,14)] []) ()) <|()
 exact rf
theorem F.oM {n:Nat} : ∀{aA eY r},G.oM n aA eY=some r->dS pZ 61 [.agg [.c (.sl 7 (ag bG.cells aA.Items)),wI aA.Clock],.one (wS eY)] (.one (wI r)):=by
 intro aA eY r h;refine aZ K.oM (qi ?_);unfold C.oM;rcases n with _|n<;>simp only[G.oM,reduceCtorEq]at h;have z:=pp () <|pp () <|pp (pp (@qY (Int) _ (λn x=>G.oM.L1 n aA eY x) r (λx=>iy.of [eS 1 eY,eP 2 103,eI 5 x] [(103,.var [.c (.sl 7 (ag bG.cells aA.Items)),wI aA.Clock])])) ()) <|pp () <|pp (pp (aV @G.oM.L1.eq_1 <|@G.oM.L1.eq_2) ()) <|pp (pp (@dH [] [(103,10)] []) <|pp (@dH [] [(103,103)] []) ()) <|()
 exact rf
theorem F.yT {n:Nat} : ∀{ax r},G.yT n ax=some r->dS pZ 106 [.one (wI ax)] (.one (wS r)):=by
 intro ax r h;refine aZ K.yT (qi ?_);unfold C.yT;rcases n with _|n<;>simp only[G.yT,reduceCtorEq]at h;have z:=pp () <|pp () <|pp () <|pp () <|pp () <|pp () <|()
 exact rf
theorem F.pK {n:Nat} : ∀{aA r},G.pK n aA=some r->dS pZ 107 [.one (wS aA)] (.one (wI r)):=by
 intro aA r h;refine aZ K.pK (qi ?_);unfold C.pK;rcases n with _|n<;>simp only[G.pK,reduceCtorEq]at h;have z:=pp () <|pp () <|pp (pp (@qY (Int×Int) _ (λn x=>G.pK.L1 n aA x.1 x.2) r (λx=>iy.of [eS 0 aA,eI 3 x.1,eI 4 x.2] [])) ()) <|pp () <|pp (pp (aV @G.pK.L1.eq_1 <|@G.pK.L1.eq_2) ()) <|pp (pp (@dH [] [] []) ()) <|()
 exact rf
theorem F.rM {n:Nat} : ∀{aA eY r},G.rM n aA eY=some r->dS pZ 64 [.agg [.c (.sl 7 (ag bG.cells aA.Items)),wI aA.Clock],.one (wS eY)] (.one (wS r)):=by
 intro aA eY r h;refine aZ K.rM (qi ?_);unfold C.rM;rcases n with _|n<;>simp only[G.rM,reduceCtorEq]at h;have z:=pp (pp @F.oM <|pp @F.dW <|pp @F.pK <|pp @F.yT ()) <|pp () <|pp () <|pp () <|pp () <|pp () <|()
 exact rf
theorem F.lW {n:Nat} : ∀{aA eY ax r},G.lW n aA eY ax=some r->dS pZ 108 [.agg [.c (.sl 7 (ag bG.cells aA.Items)),wI aA.Clock],.one (wS eY),.agg (wN ax)] (.agg [.c (.sl 7 (ag bG.cells r.Items)),wI r.Clock]):=by
 intro aA eY ax r h;refine aZ K.lW (qi ?_);unfold C.lW;rcases n with _|n<;>simp only[G.lW,reduceCtorEq]at h;have z:=pp (pp @F.aY <|pp @F.fE ()) <|pp () <|pp (pp (@qY (aj×StoreT×Bool×Int×List bG) _ (λn x=>G.lW.L3 n aA eY x.1 x.2.1 x.2.2.1 x.2.2.2.1 x.2.2.2.2) r (λx=>iy.of [eS 1 eY,eP 3 117,eP 6 118,(7,.v true (.one (.own 119 x.2.2.2.2.length 7))),eP 8 120,(9,.v true (.one (.c (.sl 7 (ag bG.cells x.2.1.Items))))),(10,.v true (.one (.c (.lit (.bool x.2.2.1))))),eI 11 x.2.2.2.1] [(117,.var [.c (.sl 7 (ag bG.cells aA.Items)),wI aA.Clock]),(118,.var [.jC 7,wI 0]),(119,.dat 7 (ag bG.cells x.2.2.2.2)),(120,.var [wS eY,wI (af .i64 (aA.Clock+1)),wI x.1.Kind,wI x.1.Num,wS x.1.Text,wT x.1.Names,wK x.1.Kids])])) ()) <|pp (pp (@zh (aj×StoreT×Int×Bool×List bG) _ (λn x=>G.lW.K4 n aA eY x.1 x.2.1 x.2.2.1 x.2.2.2.1 x.2.2.2.2) r (λx=>iy.of [eS 1 eY,eP 3 121,eP 6 122,(7,.v true (.one (.own 123 x.2.2.2.2.length 7))),eP 8 124,(9,.v true (.one (.c (.sl 7 (ag bG.cells x.2.1.Items))))),(10,.v true (.one (.c (.lit (.bool x.2.2.2.1))))),eI 11 x.2.2.1] [(121,.var [.c (.sl 7 (ag bG.cells aA.Items)),wI aA.Clock]),(122,.var [.jC 7,wI 0]),(123,.dat 7 (ag bG.cells x.2.2.2.2)),(124,.var [wS eY,wI (af .i64 (aA.Clock+1)),wI x.1.Kind,wI x.1.Num,wS x.1.Text,wT x.1.Names,wK x.1.Kids])])) ()) <|pp (pp (aV @G.lW.L3.eq_1 <|aV @G.lW.L3.eq_2 <|aV @G.lW.K4.eq_1 <|@G.lW.K4.eq_2) ()) <|pp (pp (@dH [] [(117,10),(118,12),(119,13),(120,14)] []) <|pp (@dH [] [(121,117),(122,118),(123,119),(124,120)] []) <|pp (@dH [] [(121,117),(122,118),(123,16),(124,120)] []) <|pp (@dH [] [(117,121),(118,122),(119,123),(120,124)] []) <|pp (@dH [] [(117,121),(118,122),(119,18),(120,124)] []) ()) <|()
 exact rf
theorem F.gY {n:Nat} : ∀{aA r},G.gY n aA=some r->dS pZ 109 [.agg [.c (.sl 7 (ag bG.cells aA.Items)),wI aA.Clock]] (.one (.c (.lit (.bool r)))):=by
 intro aA r h;refine aZ K.gY (qi ?_);unfold C.gY;rcases n with _|n<;>simp only[G.gY,reduceCtorEq]at h;have z:=pp (pp @F.iU <|pp @F.eG <|pp @F.fP ()) <|pp () <|pp (pp (@qY (Int) _ (λn x=>G.gY.L1 n aA x) r (λx=>iy.of [eP 1 103,eI 3 x] [(103,.var [.c (.sl 7 (ag bG.cells aA.Items)),wI aA.Clock])])) ()) <|pp () <|pp (pp (aV @G.gY.L1.eq_1 <|@G.gY.L1.eq_2) ()) <|pp (pp (@dH [] [(103,10)] []) <|pp (@dH [] [(103,103)] []) ()) <|()
 exact rf
theorem F.lS {n:Nat} : ∀{aA eY ax r},G.lS n aA eY ax=some r->dS pZ 65 [.agg [.c (.sl 7 (ag bG.cells aA.Items)),wI aA.Clock],.one (wS eY),.agg (wN ax)] (.wu [(true,[.c (.sl 7 (ag bG.cells r.1.Items)),wI r.1.Clock]),(true,[wI r.2.Status,wS r.2.Tag,wI r.2.Version,wI r.2.Body.Kind,wI r.2.Body.Num,wS r.2.Body.Text,wT r.2.Body.Names,wK r.2.Body.Kids])]):=by
 intro aA eY ax r h;refine aZ K.lS (qi ?_);unfold C.lS;rcases n with _|n<;>simp only[G.lS,reduceCtorEq]at h;have z:=pp (pp @F.oM <|pp @F.lW <|pp @F.gY <|pp @F.rM <|pp @F.fE <|pp @F.oz ()) <|pp () <|pp () <|pp (pp (@zh (Int) _ (λn x=>G.lS.K1 n aA eY ax x) r (λx=>iy.of [eS 1 eY,eP 3 101,eP 5 102,eP 6 103,eP 7 104,eI 8 x] [(101,.var [.c (.sl 7 (ag bG.cells aA.Items)),wI aA.Clock]),(102,.var (wN ax)),(103,.var [.jC 7,wI 0]),(104,.var [wI 0,.c (.str []),wI 0,wI 0,wI 0,.c (.str []),.jC 1,.jC 5])])) ()) <|pp (pp (aV @G.lS.K1.eq_1 <|@G.lS.K1.eq_2) ()) <|pp (pp (@dH [] [(101,10),(102,11),(103,12),(104,13)] []) ()) <|()
 exact rf
theorem F.jS {n:Nat} : ∀{aA aU r},G.jS n aA aU=some r->dS pZ 35 [.agg [.c (.sl 7 (ag bG.cells aA.Items)),wI aA.Clock],.agg [wI aU.Method,wS aU.Name,wT aU.Want,wT aU.oJ,wI aU.Body.Kind,wI aU.Body.Num,wS aU.Body.Text,wT aU.Body.Names,wK aU.Body.Kids,.c (.sl 8 (ag oh.cells aU.Ops))]] (.wu [(true,[.c (.sl 7 (ag bG.cells r.1.Items)),wI r.1.Clock]),(true,[wI r.2.Status,wS r.2.Tag,wI r.2.Version,wI r.2.Body.Kind,wI r.2.Body.Num,wS r.2.Body.Text,wT r.2.Body.Names,wK r.2.Body.Kids])]):=by
 intro aA aU r h;refine aZ K.jS (qi ?_);unfold C.jS;rcases n with _|n<;>simp only[G.jS,reduceCtorEq]at h;have:=Mk.mk 1;have:=Mk.mk 2;have z:=pp (pp @F.oM <|pp @F.fE <|pp @F.oz <|pp @F.rM <|pp @F.uJ <|pp @F.aY <|pp @F.lS <|pp @F.qx <|pp @F.jA <|pp @F.pI ()) <|pp () <|pp () <|pp (pp (@zh (Bool×Int×Int×aO×List aO×List aj) _ (λn x=>G.jS.K1 n aA aU x.1 x.2.1 x.2.2.1 x.2.2.2.1 x.2.2.2.2.1 x.2.2.2.2.2) r (λx=>iy.of [eP 2 101,eP 3 102,eP 4 103,eP 5 104,eP 8 105,(9,.v true (.one (.c (.lit (.bool x.1)))))] [(101,.var [.c (.sl 7 (ag bG.cells aA.Items)),wI aA.Clock]),(102,.var [wI aU.Method,wS aU.Name,wT aU.Want,wT aU.oJ,wI aU.Body.Kind,wI aU.Body.Num,wS aU.Body.Text,wT aU.Body.Names,wK aU.Body.Kids,.c (.sl 8 (ag oh.cells aU.Ops))]),(103,.var [.jC 7,wI 0]),(104,.var [wI 0,.c (.str []),wI 0,wI 0,wI 0,.c (.str []),.jC 1,.jC 5]),(105,.var [wI x.2.1,wI x.2.2.1,wS x.2.2.2.1,wT x.2.2.2.2.1,wK x.2.2.2.2.2])])) <|pp (@zh (Bool×Int×Int×aO×List aO×List aj) _ (λn x=>G.jS.K2 n aA aU x.1 x.2.1 x.2.2.1 x.2.2.2.1 x.2.2.2.2.1 x.2.2.2.2.2) r (λx=>iy.of [eP 2 106,eP 3 107,eP 4 108,eP 5 109,eP 8 110,(9,.v true (.one (.c (.lit (.bool x.1)))))] [(106,.var [.c (.sl 7 (ag bG.cells aA.Items)),wI aA.Clock]),(107,.var [wI aU.Method,wS aU.Name,wT aU.Want,wT aU.oJ,wI aU.Body.Kind,wI aU.Body.Num,wS aU.Body.Text,wT aU.Body.Names,wK aU.Body.Kids,.c (.sl 8 (ag oh.cells aU.Ops))]),(108,.var [.jC 7,wI 0]),(109,.var [wI 0,.c (.str []),wI 0,wI 0,wI 0,.c (.str []),.jC 1,.jC 5]),(110,.var [wI x.2.1,wI x.2.2.1,wS x.2.2.2.1,wT x.2.2.2.2.1,wK x.2.2.2.2.2])])) ()) <|pp (pp (aV @G.jS.K1.eq_1 <|aV @G.jS.K1.eq_2 <|aV @G.jS.K2.eq_1 <|@G.jS.K2.eq_2) ()) <|pp (pp (@dH [] [(101,10),(102,11),(103,12),(104,13),(105,14)] []) <|pp (@dH [] [(106,10),(107,11),(108,12),(109,13),(110,14)] []) ()) <|pp () <|(pp (pp (rfl : @G.jS.K1=_) ()) <|pp (pp (rfl : @G.jS.K2=_) ()) ())
 exact Vl
theorem F.nR {n:Nat} : ∀{vK aU r},G.nR n vK aU=some r->lD pZ 19 [.one (.ptr 0 0),.agg [wI aU.Method,wS aU.Name,wT aU.Want,wT aU.oJ,wI aU.Body.Kind,wI aU.Body.Num,wS aU.Body.Text,wT aU.Body.Names,wK aU.Body.Kids,.c (.sl 8 (ag oh.cells aU.Ops))]] [.var [.c (.sl 7 (ag bG.cells vK.store.Items)),wI vK.store.Clock,.c (.sl 7 (ag bG.cells vK.mark.Items)),wI vK.mark.Clock]] (λr1 b1=>r1 = .one (wS r.1)/\b1=[.var [.c (.sl 7 (ag bG.cells r.2.store.Items)),wI r.2.store.Clock,.c (.sl 7 (ag bG.cells r.2.mark.Items)),wI r.2.mark.Clock]]):=by
 intro vK aU r h;refine mV K.nR (qi ?_);unfold C.nR;rcases n with _|n<;>simp only[G.nR,reduceCtorEq]at h;have z:=pp (pp @F.jS <|pp @F.jP <|pp @F.dW ()) <|pp () <|pp () <|pp (pp (@zh ((StoreT×gy)×aO) _ (λn x=>G.nR.K1 n vK aU x.1 x.2) r (λx=>iy.of [eP 3 101,eP 6 102,eS 7 x.2] [(0,.var [.c (.sl 7 (ag bG.cells x.1.1.Items)),wI x.1.1.Clock,.c (.sl 7 (ag bG.cells vK.mark.Items)),wI vK.mark.Clock]),(101,.var [wI aU.Method,wS aU.Name,wT aU.Want,wT aU.oJ,wI aU.Body.Kind,wI aU.Body.Num,wS aU.Body.Text,wT aU.Body.Names,wK aU.Body.Kids,.c (.sl 8 (ag oh.cells aU.Ops))]),(102,.var [wI x.1.2.Status,wS x.1.2.Tag,wI x.1.2.Version,wI x.1.2.Body.Kind,wI x.1.2.Body.Num,wS x.1.2.Body.Text,wT x.1.2.Body.Names,wK x.1.2.Body.Kids])])) ()) <|pp (pp (aV @G.nR.K1.eq_1 <|@G.nR.K1.eq_2) ()) <|pp (pp (@dH [] [(0,0),(101,10),(102,12)] []) ()) <|(pp (@yc [] [(0,0)] []) ())
 exact rf
theorem F.kY {n:Nat} : ∀{vK r},G.kY n vK=some r->lD pZ 14 [.one (.ptr 0 0)] [.var [.c (.sl 7 (ag bG.cells vK.store.Items)),wI vK.store.Clock,.c (.sl 7 (ag bG.cells vK.mark.Items)),wI vK.mark.Clock]] (λr1 b1=>r1 = .one (wS r.1)/\b1=[.var [.c (.sl 7 (ag bG.cells r.2.store.Items)),wI r.2.store.Clock,.c (.sl 7 (ag bG.cells r.2.mark.Items)),wI r.2.mark.Clock]]):=by
 intro vK r h;refine mV K.kY (qi ?_);unfold C.kY;rcases n with _|n<;>simp only[G.kY,reduceCtorEq]at h;have z:=pp () <|pp () <|pp (pp (@qY (aO×Int) _ (λn x=>G.kY.L1 n vK x.1 x.2) r (λx=>iy.of [eP 0 0,eS 3 x.1,eI 4 x.2] [(0,.var [.c (.sl 7 (ag bG.cells vK.store.Items)),wI vK.store.Clock,.c (.sl 7 (ag bG.cells vK.mark.Items)),wI vK.mark.Clock])])) ()) <|pp () <|pp (pp (aV @G.kY.L1.eq_1 <|@G.kY.L1.eq_2) ()) <|pp (pp (@dH [] [(0,0)] []) ()) <|(pp (@yc [] [(0,0)] []) ())
 exact rf
theorem F.tq {n:Nat} : ∀{aA r},G.tq n aA=some r->dS pZ 16 [.agg [.c (.sl 7 (ag bG.cells aA.Items)),wI aA.Clock]] (.one (wI r)):=by
 intro aA r h;refine aZ K.tq (qi ?_);unfold C.tq;rcases n with _|n<;>simp only[G.tq,reduceCtorEq]at h;have z:=pp (pp @F.dW ()) <|pp () <|pp (pp (@qY (Int×Int) _ (λn x=>G.tq.L1 n aA x.1 x.2) r (λx=>iy.of [eP 1 103,eI 3 x.1,eI 4 x.2] [(103,.var [.c (.sl 7 (ag bG.cells aA.Items)),wI aA.Clock])])) ()) <|pp () <|pp (pp (aV @G.tq.L1.eq_1 <|@G.tq.L1.eq_2) ()) <|pp (pp (@dH [] [(103,10)] []) <|pp (@dH [] [(103,103)] []) ()) <|()
 exact rf
theorem F.rJ {n:Nat} : ∀{vK xe r},G.rJ n vK xe=some r->lD pZ 9 [.one (.ptr 0 0),.one (wS xe)] [.var [.c (.sl 7 (ag bG.cells vK.store.Items)),wI vK.store.Clock,.c (.sl 7 (ag bG.cells vK.mark.Items)),wI vK.mark.Clock]] (λr1 b1=>r1 = .one (wS r.1)/\b1=[.var [.c (.sl 7 (ag bG.cells r.2.store.Items)),wI r.2.store.Clock,.c (.sl 7 (ag bG.cells r.2.mark.Items)),wI r.2.mark.Clock]]):=by
 intro vK xe r h;refine mV K.rJ (qi ?_);unfold C.rJ;rcases n with _|n<;>simp only[G.rJ,reduceCtorEq]at h;have z:=pp (pp @F.jP <|pp @F.tq <|pp @F.fE <|pp @F.fG ()) <|pp (pp (pp @F.kY (@cG [0] [])) <|pp (pp @F.nR (@cG [0] [])) ()) <|pp () <|pp () <|pp () <|pp () <|(pp (@yc [] [(0,0)] []) ())
 exact rf
theorem F.jW {n:Nat} : ∀{rC r},G.jW n rC=some r->dS pZ 5 [.one (wT rC)] (.one (wS r)):=by
 intro rC r h;refine aZ K.jW (qi ?_);unfold C.jW;rcases n with _|n<;>simp only[G.jW,reduceCtorEq]at h;have z:=pp () <|pp (pp (pp @F.rJ (@cG [103] [])) ()) <|pp (pp (@qY (aO×Int×List bG×Int×List bG×Int) _ (λn x=>G.jW.L1 n rC x.1 x.2.1 x.2.2.1 x.2.2.2.1 x.2.2.2.2.1 x.2.2.2.2.2) r (λx=>iy.of [eT 0 rC,eP 3 103,eS 4 x.1,eI 5 x.2.1] [(103,.var [.c (.sl 7 (ag bG.cells x.2.2.1)),wI x.2.2.2.1,.c (.sl 7 (ag bG.cells x.2.2.2.2.1)),wI x.2.2.2.2.2])])) ()) <|pp () <|pp (pp (aV @G.jW.L1.eq_1 <|@G.jW.L1.eq_2) ()) <|pp (pp (@dH [] [(103,10)] []) <|pp (@dH [] [(103,103)] []) ()) <|()
 exact rf
theorem F.mY {n:Nat} : ∀{Dn r},G.mY n Dn=some r->dS pZ 3 [.one (wT Dn)] (.one (.c (.lit (.bool r)))):=by
 intro Dn r h;refine aZ K.mY (qi ?_);unfold C.mY;rcases n with _|n<;>simp only[G.mY,reduceCtorEq]at h;have z:=pp (pp @F.kN <|pp @F.kP <|pp @F.jW <|pp @F.iF <|pp @F.lJ ()) <|pp () <|pp () <|pp () <|pp () <|pp () <|()
 exact rf
end Go.Ab
section
namespace Go.Ab
open Go Go.ChangeShapes Go.WideShapes Go.ChangeAt Go.RowKit
def I0 (W:World):IH:=λb=>match W.heap[b]? with
 |some (.cells c _ _)=>some c
 |_=>none
theorem aaP (W:World):Agree (I0 W) W:=by
 intro b c h;unfold I0 at h;split at h
 ·rename_i c' e fr hb;cases h;exact⟨e,fr,hb⟩
 ·cases h
theorem SE (W:World){a:Addr}{v:Value}(h:W.cell? a=some v):(I0 W).cell a=some v:=by
 unfold Go.World.cell? at h;unfold IH.cell I0;split at h
 ·rename_i c e fr hb;split at h
  ·cases h
  ·rename_i hs;rw[if_neg hs,hb];exact h
 ·cases h
theorem SN {W W':World}{M:Nat->Prop}(h:KR W W' M)(hM:∀k,¬M k):Below W.heap.size W W':=
 ⟨h.os,h.tape,h.output,h.size,λk hk=>h.block k hk (hM k)⟩
theorem NV (ρ:Ren)(k:Nat):¬ ∃b,(DN [] b).uses (ρ b) k:=λ⟨b,h⟩=>by simp only[DN,List.getD_nil]at h;exact h
theorem ZB {P:Program}{W:World}{x:String×DataW Unit}{rest:List (String×DataW Unit)}(h:laidMet P (x::rest) W):laidMet P rest W:=by obtain⟨ps,hv,hn,hc⟩:=h;obtain⟨g,t,cs,fuel,p,q,h1,h2,h3,h4,h5,rfl⟩:=hv;exact⟨q,h5,(List.nodup_append.1 hn).2.1,λb off hp=>hc b off (List.mem_append_right _ hp)⟩
theorem Jw {P:Program}{W:World} : ∀(k:Nat) {l:List (String×DataW Unit)},laidMet P l W->laidMet P (l.drop k) W
 |0,l,h=>h
 |k+1,[],h=>h
 |k+1,x::l,h=>Jw k (l:=l) (ZB h)
theorem afC {P:Program}{W:World}{rest:List (String×DataW Unit)}{g:Nat}{t e:TypeId}
 (hg:P.globalNamed "internal/strconv.uint64pow10" = some g) (hty:(P.globals[g]?).map (·.type)=some t) (ht:P.underlying t=some (.array 20 e)) (he:P.underlying e=some (.int .u64)) (hce:P.cellsOf e=1) (hct:P.cellsOf t=20)
 (h:laidMet P (("internal/strconv.uint64pow10",Lib.tabData .u64 vW)::rest) W):∀g',P.globalNamed "internal/strconv.uint64pow10" = some g'->I0 W g'=some (vW.map λz=>Go.Value.int .u64 z).toArray:=by
 have h1:=Lib.tabIs_of_head hg hty ht he hce hct h;intro g' hg';rw[hg]at hg';simp only[aJ]at hg';subst hg';unfold Lib.TabIs World.var? at h1;simp only[hg]at h1;unfold I0
 revert h1
 split<;>simp_all
theorem afy {P:Program}{W:World}{n:String}{g:Nat}{t:TypeId}(h:W.ShapedOpen P)(hn:P.globalNamed n=some g)(hg:g<P.globals.size)
 (h0:((begin P (λ_ _=>0) default).world.heap[g]?).bind Obj.row? = some (#[.int .i64 0],t)) (hb:P.buildable t=true) (hc:P.cellTypes P.depth t=some [t]) (hu:P.underlying t=some (.int .i64)) :
 ∀g',P.globalNamed n=some g'->∃m,(I0 W).cell ⟨g',0,none⟩=some (.int .i64 m):=by
 intro g' hg';cases hn.symm.trans hg';obtain⟨m,hm⟩:=Go.Proofs.cell_of_shapedOpen_int h hg h0 rfl hb hc hu;exact⟨m,SE W hm⟩
theorem abf {P:Program}{n nm:String}{text:List UInt8}{r:List (String×DataW Unit)}{W:World}{g:Nat}{ti tp te ts:TypeId}{ms:Array (String×TypeId)}{f:Field}
 (h:laidMet P ((n,.iface nm (.ptr (.agg [.lit (.string text)])))::r) W)
 (hg:P.globalNamed n=some g) (ht:(P.globals[g]?).map (·.type)=some ti) (hi:P.underlying ti=some (.interface ms)) (hrow:∀u,P.typeName? 3 u=some nm->u=tp)
 (hp:P.underlying tp=some (.pointer te)) (he:P.underlying te=some (.struct #[f])) (hft:f.type=ts) (hfo:f.offset=0) (hs:P.underlying ts=some .string) (hc:P.cellsOf te=1) (hcs:P.cellsOf ts=1) :
 ∀g',P.globalNamed n=some g'->∃v,(I0 W).cell ⟨g',0,none⟩=some v/\(v = .nilIface\/∃t p,v = .iface t p):=by
 intro g' hg';cases hg.symm.trans hg';obtain⟨a,s,hv,_⟩:=laid_sentinel h hg ht hi hrow hp he hft hfo hs hc hcs;exact⟨_,SE W (by rw[World.var?_cell hg hv 0];rfl),.inr ⟨_,_,rfl⟩⟩
end Go.Ab
end
namespace Go.Ab
open Go
section
variable {P:Program} {W:World} {H:Type} {enc:TypeId×Value->H}
def UN (I:IH)(cs:List Value)(xs:List Cell):Prop:=xs.length=cs.length/\∀(i:Nat) v c,cs[i]? = some v->xs[i]? = some c->Rd I v c
theorem UN.nil {I:IH} : UN I [] []:=⟨rfl,λi v c h=>by simp at h⟩
theorem UN.app {I:IH}{a b:List Value}{x y:List Cell}(h:UN I a x)(k:UN I b y):UN I (a++b) (x++y):=by
 refine⟨by rw[ay,ay,h.1,k.1],λi v c hv hc=>?_⟩;have hl:=h.1;by_cases hi:i<a.length
 ·rw[dU hi]at hv;rw[dU (by omega)]at hc;exact h.2 i v c hv hc
 ·rw[fF (by omega)]at hv;rw[fF (by omega),hl]at hc;exact k.2 _ v c hv hc
theorem UN.one {I:IH}{v:Value}{c:Cell}(h:Rd I v c):UN I [v] [c]:=by
 refine⟨rfl,λi v' c' hv hc=>?_⟩
 match i with
 | 0=>simp only[Aa,aJ]at hv hc;subst hv hc;exact h
 |i+1=>simp at hv
theorem UN.fst {I:IH}{v:Value}{c:Cell}(h:UN I [v] [c]):Rd I v c:=h.2 0 v c rfl rfl
section
variable {fuel:Nat} {t:TypeId} {cs:List Value} {d:DataW H} {ps:List MemPlace}
theorem acP (ht:P.underlying t=some .string)(h:vC enc P W 0 (λ_=>true) true fuel t cs=some (d,ps)):∃s:ByteArray,cs=[.string s]/\s.size<=maxLen:=by
 cases fuel with
 |zero=>cases h
 | succ fuel=>unfold vC at h;rw[ht]at h;split at h<;>simp_all
end
theorem mapM_at {α β:Type}{f:α->Option β} : ∀{l:List α} {ys:List β},l.mapM f=some ys->ys.length=l.length/\∀(i:Nat) x,l[i]? = some x->f x=ys[i]?
 | [],ys,h=>by simp at h;subst h;exact⟨rfl,λi x hx=>by simp at hx⟩
 | a::l,ys,h=>by
   rw[List.mapM_cons]at h;cases ha:f a with
   |none=>rw[ha]at h;cases h
   | some y=>
     cases hl:l.mapM f with
     |none=>rw[ha,hl]at h;cases h
     | some r=>
       rw[ha,hl]at h;have:ys=y::r:=(by simpa using h.symm);subst this;obtain⟨h1,h2⟩:=mapM_at hl;refine⟨by simp[h1],λi x hx=>?_⟩
       match i with
       |0=>simp at hx;subst hx;simpa using ha
       |i+1=>simp at hx;simpa using h2 i x hx
theorem VZ {β:Type}{f:Nat->Option β}{n:Nat}{ys:List β}(h:(Bl n).mapM f=some ys):ys.length=n/\∀i,i<n->f i=ys[i]?:=by obtain⟨h1,h2⟩:=mapM_at h;rw[List.length_range]at h1;exact⟨h1,λi hi=>h2 i i (by simp[hi])⟩
theorem cells_at {a:Addr}{n:Nat}{ecs:List Value}(h:W.cells? 0 a n=some ecs):ecs.length=n/\∀j v,ecs[j]? = some v->(I0 W).cell (a.add j)=some v:=by
 unfold World.cells? at h;rw[if_pos (aN _)]at h;obtain⟨h1,h2⟩:=VZ h;refine⟨h1,λj v hv=>?_⟩;have hj:j<n:=by have:=(bn.1 hv).1;omega
 have:=h2 j hj;rw[hv]at this;exact SE W this
theorem add_add (a:Addr)(x y:Nat):(a.add x).add y=a.add (x+y):=by
 unfold Go.Addr.add;by_cases hx:x=0
 ·subst hx;simp
 ·by_cases hy:y=0
  ·subst hy;simp
  ·have:¬x+y=0:=(by omega);simp[hx,hy,Nat.add_assoc]
theorem XM {X:Type}{cells:X->List Cell}{Q:X->Prop}{sz:Nat}{t e:TypeId}{fuel:Nat}{cs:List Value}{d:DataW H}{ps:List MemPlace}(ht:P.underlying t=some (.slice e))(hce:P.cellsOf e=sz)
 (hX:∀f ecs d p,f<fuel->vC enc P W 0 (λ_=>true) true f e ecs=some (d,p)->∃x,UN (I0 W) ecs (cells x)/\Q x)
 (h:vC enc P W 0 (λ_=>true) true fuel t cs=some (d,ps)):∃(l:List X) (v:Value),cs=[v]/\Rd (I0 W) v (.sl sz (l.map cells))/\l.length<=maxLen/\∀x,x∈l->Q x:=by
 subst hce;cases fuel with
 |zero=>cases h
 | succ fuel=>
   unfold vC at h;rw[ht]at h;split at h<;>(try(simp at *;done))<;>(try contradiction)
   ·refine⟨[],_,rfl,.sl none 0 0 _ [] (λ_ _=>undef) rfl (Nat.le_refl _) (aN _) (λe h=>by cases h) (λh=>by omega) (λad h=>by cases h) (λi j c h=>by simp at h),aN _,λx h=>by cases h⟩
   ·rename_i e' a len cap heq;have:e'=e:=(by simpa using heq.symm);subst this;simp only at h;split at h
    ·rename_i hc;obtain⟨_,hlc,hcm⟩:=hc;cases hm:(Bl len).mapM (λi=>(W.cells? 0 (a.add (i*P.cellsOf e')) (P.cellsOf e')).bind (vC enc P W 0 (λ_=>true) true fuel e'))with
     |none=>rw[hm]at h;cases h
     | some ys=>
       obtain⟨h1,h2⟩:=VZ hm;have elem:∀i,i<len->∃x ecs,W.cells? 0 (a.add (i*P.cellsOf e')) (P.cellsOf e')=some ecs/\UN (I0 W) ecs (cells x)/\Q x:=λi hi=>by
        have:=h2 i hi;rw[aB (by omega)]at this;cases hw:W.cells? 0 (a.add (i*P.cellsOf e')) (P.cellsOf e')with
        |none=>rw[hw]at this;cases this
        | some ecs=>rw[hw]at this;obtain⟨x,hx⟩:=hX fuel ecs _ _ (Nat.lt_succ_self _) this;exact⟨x,ecs,rfl,hx⟩
       have pick:∃l:List X,l.length=len/\∀i (hi:i<l.length),∃ecs,W.cells? 0 (a.add (i*P.cellsOf e')) (P.cellsOf e')=some ecs/\UN (I0 W) ecs (cells l[i])/\Q l[i]:=by refine⟨(Bl len).attach.map λi=>(elem i.1 (by simpa using i.2)).choose,by simp,λi hi=>?_⟩;have hi':i<len:=(by simpa using hi);obtain⟨ecs,h3⟩:=(elem i hi').choose_spec;refine⟨ecs,h3.1,?_⟩;simpa using h3.2
       obtain⟨l,hl,hp'⟩:=pick;have hp:=λi hi=>(hp' i hi).imp λ_ h=>(⟨h.1,h.2.1⟩:_/\_);refine⟨l,_,rfl,.sl (some a) len cap _ _ (λi j=>((I0 W).cell ((a.add (i*P.cellsOf e'+j)))).getD undef) (by rw[List.length_map,hl]) hlc hcm (λx hx=>?_) (λ_ h=>by cases h) (λad hd i j hi hj=>?_) (λi j c hc=>?_),by omega,λx hx=>?_⟩
       ·obtain⟨y,hy,rfl⟩:=List.mem_map.1 hx;obtain⟨i,hi,rfl⟩:=jM.1 hy;obtain⟨ecs,g1,g2⟩:=hp i hi;rw[g2.1,(cells_at g1).1]
       ·cases hd;obtain⟨ecs,g1,g2⟩:=hp i (by omega);obtain⟨q1,q2⟩:=cells_at g1;have:=q2 j ecs[j] (aB (by omega));have ea:(a.add (i*P.cellsOf e')).add j=a.add (i*P.cellsOf e'+j):=add_add _ _ _;rw[ea]at this;rw[this];rfl
       ·by_cases hi:i<l.length
        ·obtain⟨ecs,g1,g2⟩:=hp i hi;have e1:(l.map cells).getD i []=cells l[i]:=(by simp[List.getD,hi]);rw[e1]at hc;obtain⟨q1,q2⟩:=cells_at g1;have hj:j<ecs.length:=by
          have:=(bn.1 hc).1;have:=g2.1;omega
         have q3:=q2 j ecs[j] (aB hj);have ea:(a.add (i*P.cellsOf e')).add j=a.add (i*P.cellsOf e'+j):=add_add _ _ _;rw[ea]at q3;rw[q3];exact g2.2 j _ c (aB hj) hc
        ·have:(l.map cells).getD i []=[]:=(by simp[List.getD,List.getElem?_eq_none (by simpa using hi:(l.map cells).length<=i)]);rw[this]at hc;simp at hc
       ·obtain⟨i,hi,rfl⟩:=jM.1 hx;exact(hp' i hi).choose_spec.2.2
    ·cases h
end
end Go.Ab
section
namespace Go.Ab
open Go Go.ChangeShapes Go.WideShapes Go.ChangeAt Go.RowKit
theorem agy {I:IH}{ρ:Ren}{v:Value}{x:Cell}(h:Rd I v x):GV I ρ v (.one (.c x)):=h
theorem adU {I:IH}{ρ:Ren}{v:Value}{x:AV}(h:GV I ρ v x):UQ I ρ [v] [x]:=by
 refine⟨rfl,λj v' x' hv hx=>?_⟩
 match j with
 | 0=>simp only[Aa,aJ]at hv hx;subst hv hx;exact h
 |j+1=>simp at hv
theorem afq {P:Program}{f:FuncId}{W:World}{vs:List Value}{as_:List AV}(hT:Tabs P (I0 W))(hg:UQ (I0 W) (λ_=>none) vs as_)(hp:dS P f as_ (yz true)) :
 Calls P f vs.toArray W λe W'=>e = .returned (.bool true)/\Below W.heap.size W W':=by
 refine(hp (I0 W) (λ_=>none) W vs hT (aaP W) ⟨λb=>by simp only[DN,List.getD_nil];exact rfl,λb b' k h=>(NV (λ_=>none) k ⟨b,h⟩).elim,λb k h=>(NV (λ_=>none) k ⟨b,h⟩).elim⟩ hg).mono ?_;rintro e W' ⟨v,J,σ,r,bs,rfl,⟨rfl,rfl⟩,hg,_,_,_,hfr,_⟩;refine⟨?_,SN hfr (NV (λ_=>none))⟩;cases hg;rfl
end Go.Ab
end
namespace Go.Ab
open Go
section
variable {P:Program} {W:World} {H:Type} {enc:TypeId×Value->H}
abbrev aeQ (enc:TypeId×Value->H)(P:Program)(W:World):=vC enc P W 0 (λ_=>true) true
theorem acr {fuel:Nat}{t:TypeId}{cs:List Value}{d:DataW H}{ps:List MemPlace}(ht:P.underlying t=some .string)(h:aeQ enc P W fuel t cs=some (d,ps)):∃s:aO,UN (I0 W) cs (cS s)/\s.length<=maxLen:=by
 obtain⟨s,rfl,hl⟩:=acP ht h;refine⟨s.data.toList,UN.one ?_,hl⟩;have:s=⟨⟨s.data.toList⟩⟩:=by cases s;rfl
 rw[this];exact Rd.str _ hl
theorem Z5 {fuel:Nat}{t tS:TypeId}{cs:List Value}{d:DataW H}{ps:List MemPlace}(ht:P.underlying t=some (.slice tS))(hS:P.underlying tS=some .string)(hc:P.cellsOf tS=1)(h:aeQ enc P W fuel t cs=some (d,ps)):∃l:List aO,UN (I0 W) cs [.sl 1 (l.map cS)]/\l.length<=maxLen/\∀s,s∈l->s.length<=maxLen:=by obtain⟨l,v,rfl,hr,hm,hq⟩:=XM (cells:=cS) (Q:=λs=>s.length<=maxLen) ht hc (λf ecs d p _ h=>acr hS h) h;exact⟨l,UN.one hr,hm,hq⟩
theorem ags : maxLen<=mx:=by decide
theorem part {cs:List Value}{k:Nat}(h:k<cs.length):(cs.drop k).take 1=[cs[k]]:=by rw[List.drop_eq_getElem_cons h];rfl
end
end Go.Ab
