/- The functions of the program that the laws reach: what they compute, the proofs that they do, the laws of the data (part 4). No conditions. -/
import Derived.Test.YtghoohcdipegcaaGreatDoorC3
set_option linter.unusedVariables false
set_option linter.unusedSimpArgs false
set_option maxRecDepth 100000
set_option maxHeartbeats 4000000
set_option linter.defProp false
set_option linter.unusedSectionVars false
open Go.IntKind renaming wrap->af
open Go.Lib renaming pow10Tab->pV
open Go.Value renaming cells->zo
open List renaming map->ag,getElem?_take->bQ,getElem?_map->fD,getElem?_cons_zero->sU
open Nat renaming strongRecOn->dH,le_trans->iP
open Option.some renaming injEq->aH
namespace Go.Ab
open Go
def B.ren : Go.Shelf.Ren:=⟨λn=>match n with|138=>102|143=>103|147=>38|172=>159|195=>153|197=>154|205=>223|217=>158|218=>155|219=>156|221=>62|224=>190|225=>189|244=>193|245=>194|247=>208|260=>188|266=>192|267=>191|268=>101|279=>209|280=>210|281=>211|282=>212|287=>221|314=>207|316=>222|321=>237|322=>238|99=>109|129=>148|156=>33|165=>56|166=>14|167=>16|169=>17|171=>21|206=>160|240=>19|241=>95|243=>34|246=>57|276=>32|277=>146|283=>96|284=>97|285=>98|286=>99|317=>147|318=>149|319=>150|320=>151|337=>184|338=>185|_=>0,λn=>match n with|21=>21|85=>212|105=>181|119=>205|138=>207|139=>208|143=>234|145=>236|146=>209|167=>211|168=>214|175=>223|210=>226|0=>0|2=>2|3=>3|4=>4|5=>5|9=>9|20=>20|31=>23|37=>22|46=>179|51=>176|53=>132|70=>38|72=>40|75=>42|76=>43|80=>47|127=>66|164=>67|171=>131|173=>135|212=>175|213=>177|232=>203|233=>204|_=>0,λn=>match n with|1=>1|3=>4|4=>5|15=>6|16=>7|17=>0|18=>2|19=>3|_=>0⟩
theorem B.x72 : Go.Proofs.Builder.X72 pZ B.ren:=by constructor<;>kernel_rfl
theorem B.x : Go.Proofs.Builder.Extra pZ B.ren:=by constructor<;>first|exact B.x72|kernel_rfl|(intro w;kernel_rfl)|decide
theorem B.lays171 : Go.Proofs.Lays.n171 pZ B.ren:=by constructor<;>first|kernel_rfl|(intro w;kernel_rfl)
theorem B.laysM171 : Go.Proofs.LaysM.n171 pZ B.ren:=by constructor<;>first|exact B.lays171|kernel_rfl|(intro w;kernel_rfl)
theorem F.strconv_Itoa {n:Nat} : ∀{Hy:Int} {r:aK},G.strconv_Itoa n Hy=some r->dY pZ 21 [.one (wI Hy)] (.one (wS r)):=by intro i r h;rcases n with _|n<;>simp only[G.strconv_Itoa,reduceCtorEq]at h;obtain⟨⟨h0,hl⟩,h⟩:=zK.1 h;exact aej B.laysM171 h0 (iP hl (by decide)) (by cases h;rfl)
theorem F.gV {n:Nat} : ∀{ay jZ r},G.gV n ay jZ=some r->dY pZ 243 [.agg (wN ay),.one (wS jZ)] (.xg [(false,[wI r.1]),(false,[.c (.lit (.bool r.2))])]):=by
 intro ay jZ r h;refine bg K.gV (qx ?_);unfold C.gV;rcases n with _|n<;>simp only[G.gV,reduceCtorEq]at h;have z:=pp (pp @F.slices_BinarySearch_string <|pp @F.strconv_Itoa ()) <|pp () <|pp (pp (@su (Int) _ (λn x=>G.gV.L1 n ay jZ x) r (λx=>iH.of [eS 1 jZ,eI 21 (ay.Kids.length:Int),eI 22 x] [])) ()) <|pp () <|pp (pp (aW @G.gV.L1.eq_1 <|@G.gV.L1.eq_2) ()) <|pp (pp (@dO [] [] []) ()) <|()
 exact rF
theorem F.jf {n:Nat} : ∀{aA:List aj} {Hy:Int} {DW:List aj} {r:List aj},G.jf n aA Hy DW=some r ->
 kV pZ 235 [.one (.own 0 aA.length 5),.one (wI Hy),.one (.own 1 DW.length 5)] [.dat 5 (ag aj.cells aA),.dat 5 (ag aj.cells DW)]
  (λr1 b1=>r1 = .one (.own 2 r.length 5)/\b1=[.dead,.dat 5 (ag aj.cells DW),.dat 5 (ag aj.cells r)]):=by
 intro s i v r h;rcases n with _|n<;>simp only[G.jf,reduceCtorEq]at h;exact FG.ins _ (cb:=80) (by decide) K.jf h
theorem F.mQ {n:Nat} : ∀{aA:List aK} {Hy:Int} {DW:List aK} {r:List aK},G.mQ n aA Hy DW=some r ->
 kV pZ 234 [.one (.own 0 aA.length 1),.one (wI Hy),.one (.own 1 DW.length 1)] [.dat 1 (ag cS aA),.dat 1 (ag cS DW)]
  (λr1 b1=>r1 = .one (.own 2 r.length 1)/\b1=[.dead,.dat 1 (ag cS DW),.dat 1 (ag cS r)]):=by
 intro s i v r h;rcases n with _|n<;>simp only[G.mQ,reduceCtorEq]at h;exact FG.ins _ (cb:=16) (by decide) K.mQ h
theorem F.oU {n:Nat} : ∀{Bc fF iY r},G.oU n Bc fF iY=some r->kV pZ 217 [.one (.ptr 0 0),.one (wS fF),.agg (wN iY)] [.var [wI Bc.Kind,wI Bc.Num,wS Bc.Text,.own 1 Bc.Names.length 1,.own 2 Bc.Kids.length 5],.dat 1 (ag cS Bc.Names),.dat 5 (ag aj.cells Bc.Kids)] (λr1 b1=>r1 = .xg []/\b1=[.var [wI r.Kind,wI r.Num,wS r.Text,.own 3 r.Names.length 1,.own 4 r.Kids.length 5],.dead,.dead,.dat 1 (ag cS r.Names),.dat 5 (ag aj.cells r.Kids)]):=by
 intro Bc fF iY r h;refine lg K.oU (qx ?_);unfold C.oU;rcases n with _|n<;>simp only[G.oU,reduceCtorEq]at h;have z:=pp (pp @F.slices_BinarySearch_string ()) <|pp (pp (pp @F.mQ (@cG [1,11] [101])) <|pp (pp @F.jf (@cG [2,12] [102])) ()) <|pp () <|pp () <|pp () <|pp () <|(pp (@xX [] [(0,0),(1,1),(2,2),(3,1),(4,2)] []) <|pp (@xX [] [(0,0),(1,1),(2,2),(3,101),(4,102)] []) ())
 exact rF
theorem F.lK {n:Nat} : ∀{ay jZ iY r},G.lK n ay jZ iY=some r->dY pZ 241 [.agg (wN ay),.one (wS jZ),.agg (wN iY)] (.xg [(true,(wN r.1)),(false,[.c (.lit (.bool r.2))])]):=by
 intro ay jZ iY r h;refine bg K.lK (qx ?_);unfold C.lK;rcases n with _|n<;>simp only[G.lK,reduceCtorEq]at h;have z:=pp (pp @F.gV <|pp @F.strconv_Itoa ()) <|pp (pp (pp @F.vU (@cG [] [101,102])) <|pp (pp @F.vU (@cG [] [103,104])) <|pp (pp @F.oU (@cH [13,101,102] [105,106])) <|pp (pp @F.vU (@cG [] [112,113])) <|pp (pp @F.jf (@cG [111,14] [114])) ()) <|pp () <|pp (pp (@zZ (aj×Int×Bool) _ (λn x=>G.lK.K1 n iY x.1 x.2.1 x.2.2) r (λx=>iH.of [eP 5 107,eP 6 108,eP 8 109,eI 9 x.2.1,(10,.v true (.one (.c (.lit (.bool x.2.2)))))] [(107,.var (wN iY)),(108,.var zN),(109,.var [wI x.1.Kind,wI x.1.Num,wS x.1.Text,.own 110 x.1.Names.length 1,.own 111 x.1.Kids.length 5]),(110,.dat 1 (ag cS x.1.Names)),(111,.dat 5 (ag aj.cells x.1.Kids))])) ()) <|pp (pp (aW @G.lK.K1.eq_1 <|@G.lK.K1.eq_2) ()) <|pp (pp (@dO [] [(107,11),(108,12),(109,13),(110,101),(111,102)] []) ()) <|()
 exact rF
theorem F.uj {n:Nat} : ∀{yS kR oO zl r},G.uj n yS kR oO zl=some r->kV pZ 240 [.agg (wN yS),.one (.ptr 0 0),.one (.ptr 1 0),.one (.ptr 2 0)] [.var [wT kR],.var [wI oO],.var (wN zl)] (λr1 b1=>r1 = .xg [(true,(wN r.1)),(false,[.c (.lit (.bool r.2))])]/\b1=[.var [wT kR],.var [wI oO],.var (wN zl)]):=by
 intro yS kR oO zl r h;refine lg K.uj (qx ?_);unfold C.uj;rcases n with _|n<;>simp only[G.uj,reduceCtorEq]at h;have z:=pp (pp @F.lK ()) <|pp () <|pp () <|pp () <|pp () <|pp () <|(pp (@xX [] [(0,0),(1,1),(2,2)] []) ())
 exact rF
theorem F.gU {n:Nat} : ∀{aA r},G.gU n aA=some r->dY pZ 186 [.one (wS aA)] (.one (.c (.lit (.bool r)))):=by
 intro aA r h;refine bg K.gU (qx ?_);unfold C.gU;rcases n with _|n<;>simp only[G.gU,reduceCtorEq]at h;have z:=pp () <|pp () <|pp (pp (@su (Int) _ (λn x=>G.gU.L1 n aA x) r (λx=>iH.of [eS 0 aA,eI 3 x] [])) ()) <|pp () <|pp (pp (aW @G.gU.L1.eq_1 <|@G.gU.L1.eq_2) ()) <|pp (pp (@dO [] [] []) ()) <|()
 exact rF
theorem F.kC {n:Nat} : ∀{wM r},G.kC n wM=some r->dY pZ 187 [.one (wT wM)] (.one (.c (.lit (.bool r)))):=by
 intro wM r h;refine bg K.kC (qx ?_);unfold C.kC;rcases n with _|n<;>simp only[G.kC,reduceCtorEq]at h;have z:=pp (pp @F.gU ()) <|pp () <|pp (pp (@su (Int) _ (λn x=>G.kC.L1 n wM x) r (λx=>iH.of [eT 0 wM,eT 8 wM,eI 9 (wM.length:Int),eI 10 x] [])) ()) <|pp () <|pp (pp (aW @G.kC.L1.eq_1 <|@G.kC.L1.eq_2) ()) <|pp (pp (@dO [] [] []) ()) <|()
 exact rF
theorem F.gZ {n:Nat} : ∀{ay r},G.gZ n ay=some r->dY pZ 152 [.agg (wN ay)] (.one (.c (.lit (.bool r)))):=by
 intro ay r h;refine bg K.gZ (qx ?_);unfold C.gZ;rcases n with _|n<;>simp only[G.gZ,reduceCtorEq]at h;have z:=pp (pp @F.gU <|pp @F.kC ()) <|pp () <|pp () <|pp (pp (@zZ (Unit) _ (λn x=>G.gZ.K1 n ay) r (λx=>iH.of [eP 1 101,(20,.v true (.one (.c (.lit (.bool false)))))] [(101,.var (wN ay))])) ()) <|pp (pp (aW @G.gZ.K1.eq_1 <|@G.gZ.K1.eq_2) ()) <|pp (pp (@dO [] [(101,10)] []) ()) <|()
 exact rF
theorem F.Lj : ∀(n:Nat),∀{ay mO r},G.gy n ay mO=some r->dY pZ 100 [.agg (wN ay),.one (wI mO)] (.xg [(false,[wI r.1]),(false,[wI r.2.1]),(false,[.c (.lit (.bool r.2.2))])]):=by
 intro n
 induction n using dH with|_ n ih=>
 intro ay mO r h;refine bg K.gy (qx ?_);unfold C.gy;rcases n with _|n<;>simp only[G.gy,reduceCtorEq]at h;have z:=pp (pp ih <|pp @F.gZ ()) <|pp () <|pp (pp (@su (Int×Int×Int) _ (λn x=>G.gy.L1 n ay mO x.1 x.2.1 x.2.2) r (λx=>iH.of [eI 1 mO,eI 4 x.1,eI 5 x.2.1,(20,.v true (.one (wK ay.Kids))),eI 21 (ay.Kids.length:Int),eI 22 x.2.2] [])) ()) <|pp () <|pp (pp (aW @G.gy.L1.eq_1 <|@G.gy.L1.eq_2) ()) <|pp (pp (@dO [] [] []) ()) <|()
 exact rF
theorem F.gy {n:Nat} : ∀{ay:aj} {mO:Int} {r:Int×Int×Bool},G.gy n ay mO=some r->dY pZ 100 [.agg (wN ay),.one (wI mO)] (.xg [(false,[wI r.1]),(false,[wI r.2.1]),(false,[.c (.lit (.bool r.2.2))])]):=F.Lj n
theorem F.aX {n:Nat} : ∀{ay r},G.aX n ay=some r->dY pZ 59 [.agg (wN ay)] (.one (.c (.lit (.bool r)))):=by
 intro ay r h;refine bg K.aX (qx ?_);unfold C.aX;rcases n with _|n<;>simp only[G.aX,reduceCtorEq]at h;have z:=pp (pp @F.gy ()) <|pp () <|pp () <|pp () <|pp () <|pp () <|()
 exact rF
theorem F.EN : ∀(n:Nat),∀{ay aB kR oO zl r},G.jF n ay aB kR oO zl=some r->kV pZ 239 [.agg (wN ay),.one (wT aB),.one (.fn 240 [0,1,2])] [.var [wT kR],.var [wI oO],.var (wN zl)] (λr1 b1=>r1 = .xg [(true,(wN r.1)),(false,[.c (.lit (.bool r.2))])]/\b1=[.var [wT kR],.var [wI oO],.var (wN zl)]):=by
 intro n
 induction n using dH with|_ n ih=>
 intro ay aB kR oO zl r h;refine lg K.jF (qx ?_);unfold C.BI;rcases n with _|n<;>simp only[G.jF,reduceCtorEq]at h;have z:=pp (pp @F.gV ()) <|pp (pp (pp ih (@cG [0,1,2] [])) <|pp (pp @F.uj (@cG [0,1,2] [])) <|pp (pp @F.vU (@cG [] [101,102])) ()) <|pp () <|pp () <|pp () <|pp () <|(pp (@xX [] [(0,0),(1,1),(2,2)] []) <|pp (@xX [101,102] [(0,0),(1,1),(2,2)] []) ())
 exact rF
theorem F.jF {n:Nat} : ∀{ay:aj} {aB:List aK} {kR:List aK} {oO:Int} {zl:aj} {r:aj×Bool},G.jF n ay aB kR oO zl=some r->kV pZ 239 [.agg (wN ay),.one (wT aB),.one (.fn 240 [0,1,2])] [.var [wT kR],.var [wI oO],.var (wN zl)] (λr1 b1=>r1 = .xg [(true,(wN r.1)),(false,[.c (.lit (.bool r.2))])]/\b1=[.var [wT kR],.var [wI oO],.var (wN zl)]):=F.EN n
theorem F.ni {n:Nat} : ∀{ay Jo r},G.ni n ay Jo=some r->dY pZ 163 [.agg (wN ay),.one (.c (.lit (.bool Jo)))] (.xg [(true,(wN r.1)),(false,[.c (.lit (.bool r.2))])]):=by
 intro ay Jo r h;refine bg K.ni (qx ?_);unfold C.ni;rcases n with _|n<;>simp only[G.ni,reduceCtorEq]at h;have z:=pp (pp @F.aX ()) <|pp () <|pp () <|pp () <|pp () <|pp () <|()
 exact rF
theorem F.iQ {n:Nat} : ∀{aB r},G.iQ n aB=some r->dY pZ 161 [.one (wT aB)] (.one (.c (.lit (.bool r)))):=by
 intro aB r h;refine bg K.iQ (qx ?_);unfold C.iQ;rcases n with _|n<;>simp only[G.iQ,reduceCtorEq]at h;have z:=pp (pp @F.gU ()) <|pp () <|pp (pp (@su (Int) _ (λn x=>G.iQ.L1 n aB x) r (λx=>iH.of [eT 8 aB,eI 9 (aB.length:Int),eI 10 x] [])) ()) <|pp () <|pp (pp (aW @G.iQ.L1.eq_1 <|@G.iQ.L1.eq_2) ()) <|pp (pp (@dO [] [] []) ()) <|()
 exact rF
theorem F.og {n:Nat} : ∀{ay aB iY r},G.og n ay aB iY=some r->dY pZ 224 [.agg (wN ay),.one (wT aB),.agg (wN iY)] (.xg [(true,(wN r.1)),(false,[.c (.lit (.bool r.2))])]):=by
 intro ay aB iY r h;refine bg K.og (qx ?_);unfold C.og;rcases n with _|n<;>simp only[G.og,reduceCtorEq]at h;have z:=pp (pp @F.aX <|pp @F.iQ <|pp @F.aP <|pp @F.ni ()) <|pp (pp (pp @F.jF (@cG [11,14,12] [])) ()) <|pp () <|pp () <|pp () <|pp () <|()
 exact rF
theorem F.kD {n:Nat} : ∀{ay aB r},G.kD n ay aB=some r->dY pZ 245 [.agg (wN ay),.one (wT aB)] (.xg [(true,(wN r.1)),(false,[.c (.lit (.bool r.2))])]):=by
 intro ay aB r h;refine bg K.kD (qx ?_);unfold C.kD;rcases n with _|n<;>simp only[G.kD,reduceCtorEq]at h;have z:=pp (pp @F.gV ()) <|pp () <|pp (pp (@su (Int×Int×Int×aK×List aK×List aj) _ (λn x=>G.kD.L1 n aB x.1 x.2.1 x.2.2.1 x.2.2.2.1 x.2.2.2.2.1 x.2.2.2.2.2) r (λx=>iH.of [eP 2 105,eP 4 106,eT 10 aB,eI 11 (aB.length:Int),eI 12 x.1] [(105,.var [wI x.2.1,wI x.2.2.1,wS x.2.2.2.1,wT x.2.2.2.2.1,wK x.2.2.2.2.2]),(106,.var zN)])) ()) <|pp () <|pp (pp (aW @G.kD.L1.eq_1 <|@G.kD.L1.eq_2) ()) <|pp (pp (@dO [] [(105,10),(106,11)] []) <|pp (@dO [] [(105,105),(106,106)] []) ()) <|()
 exact rF
theorem F.tN {n:Nat} : ∀{ay aB r},G.tN n ay aB=some r->dY pZ 228 [.agg (wN ay),.one (wT aB)] (.xg [(true,(wN r.1)),(false,[.c (.lit (.bool r.2))])]):=by
 intro ay aB r h;refine bg K.tN (qx ?_);unfold C.tN;rcases n with _|n<;>simp only[G.tN,reduceCtorEq]at h;have z:=pp (pp @F.aX <|pp @F.iQ <|pp @F.kD <|pp @F.aP ()) <|pp () <|pp () <|pp () <|pp () <|pp () <|()
 exact rF
theorem F.jR {n:Nat} : ∀{aA:List aj} {Hy:Int} {Vx:Int} {r:List aj},G.jR n aA Hy Vx=some r ->
 kV pZ 231 [.one (.own 0 aA.length 5),.one (wI Hy),.one (wI Vx)] [.dat 5 (ag aj.cells aA)]
  (λr1 b1=>r1 = .one (.own 1 r.length 5)/\b1=[.dead,.dat 5 (ag aj.cells r)]):=by
 intro s i j r h;rcases n with _|n<;>simp only[G.jR,reduceCtorEq]at h;exact FG.del _ (cb:=80) (by decide) K.jR h
theorem F.slices_Delete_string {n:Nat} : ∀{aA:List aK} {Hy:Int} {Vx:Int} {r:List aK},G.slices_Delete_string n aA Hy Vx=some r ->
 kV pZ 230 [.one (.own 0 aA.length 1),.one (wI Hy),.one (wI Vx)] [.dat 1 (ag cS aA)]
  (λr1 b1=>r1 = .one (.own 1 r.length 1)/\b1=[.dead,.dat 1 (ag cS r)]):=by
 intro s i j r h;rcases n with _|n<;>simp only[G.slices_Delete_string,reduceCtorEq]at h;exact FG.del _ (cb:=16) (by decide) K.slices_Delete_string h
theorem F.jv {n:Nat} : ∀{yS kR oO r},G.jv n yS kR oO=some r->kV pZ 242 [.agg (wN yS),.one (.ptr 0 0),.one (.ptr 1 0)] [.var [wT kR],.var [wI oO]] (λr1 b1=>r1 = .xg [(true,(wN r.1)),(false,[.c (.lit (.bool r.2))])]/\b1=[.var [wT kR],.var [wI oO]]):=by
 intro yS kR oO r h;refine lg K.jv (qx ?_);unfold C.jv;rcases n with _|n<;>simp only[G.jv,reduceCtorEq]at h;have z:=pp (pp @F.gV ()) <|pp (pp (pp @F.vU (@cG [] [101,102])) <|pp (pp @F.slices_Delete_string (@cG [101] [109])) <|pp (pp @F.jR (@cG [107] [108])) ()) <|pp () <|pp (pp (@zZ ((Int×Bool)×aj×List aK) _ (λn x=>G.jv.K1 n x.1 x.2.1 x.2.2) r (λx=>iH.of [eP 4 104,eI 6 x.1.1,eP 8 105] [(0,.var [wT kR]),(1,.var [wI oO]),(104,.var zN),(105,.var [wI x.2.1.Kind,wI x.2.1.Num,wS x.2.1.Text,.own 106 x.2.2.length 1,.own 107 x.2.1.Kids.length 5]),(106,.dat 1 (ag cS x.2.2)),(107,.dat 5 (ag aj.cells x.2.1.Kids))])) ()) <|pp (pp (aW @G.jv.K1.eq_1 <|@G.jv.K1.eq_2) ()) <|pp (pp (@dO [] [(0,0),(1,1),(104,11),(105,12),(106,109),(107,102)] []) <|pp (@dO [] [(0,0),(1,1),(104,11),(105,12),(106,101),(107,102)] []) ()) <|(pp (@xX [106,108] [(0,0),(1,1)] []) <|pp (@xX [] [(0,0),(1,1)] []) ())
 exact rF
theorem F.DY : ∀(n:Nat),∀{ay aB kR oO r},G.ja n ay aB kR oO=some r->kV pZ 239 [.agg (wN ay),.one (wT aB),.one (.fn 242 [0,1])] [.var [wT kR],.var [wI oO]] (λr1 b1=>r1 = .xg [(true,(wN r.1)),(false,[.c (.lit (.bool r.2))])]/\b1=[.var [wT kR],.var [wI oO]]):=by
 intro n
 induction n using dH with|_ n ih=>
 intro ay aB kR oO r h;refine lg K.ja (qx ?_);unfold C.BI;rcases n with _|n<;>simp only[G.ja,reduceCtorEq]at h;have z:=pp (pp @F.gV ()) <|pp (pp (pp ih (@cG [0,1] [])) <|pp (pp @F.jv (@cG [0,1] [])) <|pp (pp @F.vU (@cG [] [101,102])) ()) <|pp () <|pp () <|pp () <|pp () <|(pp (@xX [] [(0,0),(1,1)] []) <|pp (@xX [101,102] [(0,0),(1,1)] []) ())
 exact rF
theorem F.ja {n:Nat} : ∀{ay:aj} {aB:List aK} {kR:List aK} {oO:Int} {r:aj×Bool},G.ja n ay aB kR oO=some r->kV pZ 239 [.agg (wN ay),.one (wT aB),.one (.fn 242 [0,1])] [.var [wT kR],.var [wI oO]] (λr1 b1=>r1 = .xg [(true,(wN r.1)),(false,[.c (.lit (.bool r.2))])]/\b1=[.var [wT kR],.var [wI oO]]):=F.DY n
theorem F.lX {n:Nat} : ∀{ay aB r},G.lX n ay aB=some r->dY pZ 225 [.agg (wN ay),.one (wT aB)] (.xg [(true,(wN r.1)),(false,[.c (.lit (.bool r.2))])]):=by
 intro ay aB r h;refine bg K.lX (qx ?_);unfold C.lX;rcases n with _|n<;>simp only[G.lX,reduceCtorEq]at h;have z:=pp (pp @F.aX <|pp @F.iQ ()) <|pp (pp (pp @F.ja (@cG [11,13] [])) ()) <|pp () <|pp () <|pp () <|pp () <|()
 exact rF
theorem F.uk {n:Nat} : ∀{o8 kR r},G.uk n o8 kR=some r->kV pZ 244 [.agg (wN o8),.one (.ptr 0 0)] [.var (wN kR)] (λr1 b1=>r1 = .xg [(true,(wN r.1)),(false,[.c (.lit (.bool r.2))])]/\b1=[.var (wN kR)]):=by
 intro o8 kR r h;refine lg K.uk (qx ?_);unfold C.uk;rcases n with _|n<;>simp only[G.uk,reduceCtorEq]at h;have z:=pp (pp @F.aP ()) <|pp () <|pp () <|pp () <|pp () <|pp () <|(pp (@xX [] [(0,0)] []) ())
 exact rF
theorem F.EO : ∀(n:Nat),∀{ay aB kR r},G.jG n ay aB kR=some r->kV pZ 239 [.agg (wN ay),.one (wT aB),.one (.fn 244 [0])] [.var (wN kR)] (λr1 b1=>r1 = .xg [(true,(wN r.1)),(false,[.c (.lit (.bool r.2))])]/\b1=[.var (wN kR)]):=by
 intro n
 induction n using dH with|_ n ih=>
 intro ay aB kR r h;refine lg K.jG (qx ?_);unfold C.BI;rcases n with _|n<;>simp only[G.jG,reduceCtorEq]at h;have z:=pp (pp @F.gV ()) <|pp (pp (pp ih (@cG [0] [])) <|pp (pp @F.uk (@cG [0] [])) <|pp (pp @F.vU (@cG [] [101,102])) ()) <|pp () <|pp () <|pp () <|pp () <|(pp (@xX [] [(0,0)] []) <|pp (@xX [101,102] [(0,0)] []) ())
 exact rF
theorem F.jG {n:Nat} : ∀{ay:aj} {aB:List aK} {kR:aj} {r:aj×Bool},G.jG n ay aB kR=some r->kV pZ 239 [.agg (wN ay),.one (wT aB),.one (.fn 244 [0])] [.var (wN kR)] (λr1 b1=>r1 = .xg [(true,(wN r.1)),(false,[.c (.lit (.bool r.2))])]/\b1=[.var (wN kR)]):=F.EO n
theorem F.uM {n:Nat} : ∀{ay aB iY r},G.uM n ay aB iY=some r->dY pZ 226 [.agg (wN ay),.one (wT aB),.agg (wN iY)] (.xg [(true,(wN r.1)),(false,[.c (.lit (.bool r.2))])]):=by
 intro ay aB iY r h;refine bg K.uM (qx ?_);unfold C.uM;rcases n with _|n<;>simp only[G.uM,reduceCtorEq]at h;have z:=pp (pp @F.aX <|pp @F.iQ <|pp @F.ni ()) <|pp (pp (pp @F.jG (@cG [11] [])) ()) <|pp () <|pp () <|pp () <|pp () <|()
 exact rF
theorem F.rW {n:Nat} : ∀{kL r},G.rW n kL=some r->dY pZ 162 [.agg [wI kL.Kind,wT kL.Path,wT kL.From,wI kL.Value.Kind,wI kL.Value.Num,wS kL.Value.Text,wT kL.Value.Names,wK kL.Value.Kids]] (.one (.c (.lit (.bool r)))):=by
 intro kL r h;refine bg K.rW (qx ?_);unfold C.rW;rcases n with _|n<;>simp only[G.rW,reduceCtorEq]at h;have z:=pp (pp @F.iQ <|pp @F.aX ()) <|pp () <|pp () <|pp () <|pp () <|pp () <|()
 exact rF
theorem F.slices_Equal_string {n:Nat} : ∀{GL I8 r},G.slices_Equal_string n GL I8=some r->dY pZ 110 [.one (wT GL),.one (wT I8)] (.one (.c (.lit (.bool r)))):=by
 intro GL I8 r h;refine bg K.slices_Equal_string (qx ?_);unfold C.slices_Equal_string;rcases n with _|n<;>simp only[G.slices_Equal_string,reduceCtorEq]at h;have z:=pp () <|pp () <|pp (pp (@su (Int) _ (λn x=>G.slices_Equal_string.L1 n GL I8 x) r (λx=>iH.of [eT 0 GL,eT 1 I8,eI 12 (GL.length:Int),eI 13 x] [])) ()) <|pp () <|pp (pp (aW @G.slices_Equal_string.L1.eq_1 <|@G.slices_Equal_string.L1.eq_2) ()) <|pp (pp (@dO [] [] []) ()) <|()
 exact rF
theorem F.tu {n:Nat} : ∀{ay CY aB r},G.tu n ay CY aB=some r->dY pZ 227 [.agg (wN ay),.one (wT CY),.one (wT aB)] (.xg [(true,(wN r.1)),(false,[.c (.lit (.bool r.2))])]):=by
 intro ay CY aB r h;refine bg K.tu (qx ?_);unfold C.tu;rcases n with _|n<;>simp only[G.tu,reduceCtorEq]at h;have z:=pp (pp @F.tN <|pp @F.slices_Equal_string <|pp @F.aP <|pp @F.lX <|pp @F.og ()) <|pp () <|pp () <|pp () <|pp () <|pp () <|()
 exact rF
theorem F.iK {n:Nat} : ∀{o8 pq r},G.iK n o8 pq=some r->dY pZ 195 [.one (wS o8),.one (wS pq)] (.one (wI r)):=by
 intro o8 pq r h;refine bg K.iK (qx ?_);unfold C.iK;rcases n with _|n<;>simp only[G.iK,reduceCtorEq]at h;have z:=pp () <|pp () <|pp () <|pp () <|pp () <|pp () <|()
 exact rF
theorem F.strings_Compare {n:Nat} : ∀{o8 pq r},G.strings_Compare n o8 pq=some r->dY pZ 167 [.one (wS o8),.one (wS pq)] (.one (wI r)):=by
 intro o8 pq r h;refine bg K.strings_Compare (qx ?_);unfold C.strings_Compare;rcases n with _|n<;>simp only[G.strings_Compare,reduceCtorEq]at h;have z:=pp (pp @F.iK ()) <|pp () <|pp () <|pp () <|pp () <|pp () <|()
 exact rF
theorem F.KC : ∀(n:Nat),∀{o8 pq r},G.cZ n o8 pq=some r->dY pZ 253 [.agg (wN o8),.agg (wN pq)] (.one (wI r)):=by
 intro n
 induction n using dH with|_ n ih=>
 intro o8 pq r h;refine bg K.cZ (qx ?_);unfold C.cZ;rcases n with _|n<;>simp only[G.cZ,reduceCtorEq]at h;have z:=pp (pp ih <|pp @F.cmp_Compare_int <|pp @F.strings_Compare ()) <|pp () <|pp (pp (@su (Int) _ (λn x=>G.cZ.L3 n o8 pq x) r (λx=>iH.of [eP 2 109,eP 3 110,eI 8 x] [(109,.var (wN o8)),(110,.var (wN pq))])) ()) <|pp (pp (@zZ (Int) _ (λn x=>G.cZ.K4 n o8 pq x) r (λx=>iH.of [eP 2 111,eP 3 112,eI 8 x] [(111,.var (wN o8)),(112,.var (wN pq))])) ()) <|pp (pp (aW @G.cZ.L3.eq_1 <|aW @G.cZ.L3.eq_2 <|aW @G.cZ.K4.eq_1 <|@G.cZ.K4.eq_2) ()) <|pp (pp (@dO [] [(109,10),(110,11)] []) <|pp (@dO [] [(111,109),(112,110)] []) <|pp (@dO [] [(109,111),(110,112)] []) ()) <|()
 exact rF
theorem F.cZ {n:Nat} : ∀{o8:aj} {pq:aj} {r:Int},G.cZ n o8 pq=some r->dY pZ 253 [.agg (wN o8),.agg (wN pq)] (.one (wI r)):=F.KC n
theorem F.tC {n:Nat} : ∀{o8 pq r},G.tC n o8 pq=some r->dY pZ 246 [.agg (wN o8),.agg (wN pq)] (.one (.c (.lit (.bool r)))):=by
 intro o8 pq r h;refine bg K.tC (qx ?_);unfold C.tC;rcases n with _|n<;>simp only[G.tC,reduceCtorEq]at h;have z:=pp (pp @F.cZ ()) <|pp () <|pp () <|pp () <|pp () <|pp () <|()
 exact rF
theorem F.qV {n:Nat} : ∀{ay aB iY r},G.qV n ay aB iY=some r->dY pZ 229 [.agg (wN ay),.one (wT aB),.agg (wN iY)] (.xg [(true,(wN r.1)),(false,[.c (.lit (.bool r.2))])]):=by
 intro ay aB iY r h;refine bg K.qV (qx ?_);unfold C.qV;rcases n with _|n<;>simp only[G.qV,reduceCtorEq]at h;have z:=pp (pp @F.kD <|pp @F.tC <|pp @F.aP ()) <|pp () <|pp () <|pp () <|pp () <|pp () <|()
 exact rF
theorem F.uI {n:Nat} : ∀{ay kL r},G.uI n ay kL=some r->dY pZ 214 [.agg (wN ay),.agg [wI kL.Kind,wT kL.Path,wT kL.From,wI kL.Value.Kind,wI kL.Value.Num,wS kL.Value.Text,wT kL.Value.Names,wK kL.Value.Kids]] (.xg [(true,(wN r.1)),(false,[.c (.lit (.bool r.2))])]):=by
 intro ay kL r h;refine bg K.uI (qx ?_);unfold C.uI;rcases n with _|n<;>simp only[G.uI,reduceCtorEq]at h;have z:=pp (pp @F.aX <|pp @F.rW <|pp @F.og <|pp @F.lX <|pp @F.uM <|pp @F.tu <|pp @F.tN <|pp @F.qV ()) <|pp () <|pp () <|pp () <|pp () <|pp () <|()
 exact rF
theorem F.fH {n:Nat} : ∀{aG r},G.fH n aG=some r->dY pZ 114 [.one (.c (.sl 8 (ag oz.cells aG)))] (.one (.c (.lit (.bool r)))):=by
 intro aG r h;refine bg K.fH (qx ?_);unfold C.fH;rcases n with _|n<;>simp only[G.fH,reduceCtorEq]at h;have z:=pp (pp @F.rW ()) <|pp () <|pp (pp (@su (Int) _ (λn x=>G.fH.L1 n aG x) r (λx=>iH.of [(8,.v true (.one (.c (.sl 8 (ag oz.cells aG))))),eI 9 (aG.length:Int),eI 10 x] [])) ()) <|pp () <|pp (pp (aW @G.fH.L1.eq_1 <|@G.fH.L1.eq_2) ()) <|pp (pp (@dO [] [] []) ()) <|()
 exact rF
theorem F.kX {n:Nat} : ∀{ay aG r},G.kX n ay aG=some r->dY pZ 197 [.agg (wN ay),.one (.c (.sl 8 (ag oz.cells aG)))] (.xg [(true,(wN r.1)),(false,[wI r.2])]):=by
 intro ay aG r h;refine bg K.kX (qx ?_);unfold C.kX;rcases n with _|n<;>simp only[G.kX,reduceCtorEq]at h;have z:=pp (pp @F.aP <|pp @F.uI ()) <|pp () <|pp (pp (@su (Int×Int×Int×aK×List aK×List aj) _ (λn x=>G.kX.L1 n aG x.1 x.2.1 x.2.2.1 x.2.2.2.1 x.2.2.2.2.1 x.2.2.2.2.2) r (λx=>iH.of [(1,.v true (.one (.c (.sl 8 (ag oz.cells aG))))),eP 4 105,eP 6 106,(13,.v true (.one (.c (.sl 8 (ag oz.cells aG))))),eI 14 (aG.length:Int),eI 15 x.1] [(105,.var zN),(106,.var [wI x.2.1,wI x.2.2.1,wS x.2.2.2.1,wT x.2.2.2.2.1,wK x.2.2.2.2.2])])) ()) <|pp () <|pp (pp (aW @G.kX.L1.eq_1 <|@G.kX.L1.eq_2) ()) <|pp (pp (@dO [] [(105,11),(106,12)] []) <|pp (@dO [] [(105,105),(106,106)] []) ()) <|()
 exact rF
theorem F.pY {n:Nat} : ∀{ay aG r},G.pY n ay aG=some r->dY pZ 170 [.agg (wN ay),.one (.c (.sl 8 (ag oz.cells aG)))] (.xg [(true,(wN r.1)),(false,[.c (.lit (.bool r.2))])]):=by
 intro ay aG r h;refine bg K.pY (qx ?_);unfold C.pY;rcases n with _|n<;>simp only[G.pY,reduceCtorEq]at h;have z:=pp (pp @F.aX <|pp @F.fH <|pp @F.kX ()) <|pp () <|pp () <|pp () <|pp () <|pp () <|()
 exact rF
theorem F.jQ {n:Nat} : ∀{aA Hw r},G.jQ n aA Hw=some r->dY pZ 158 [.one (wS aA),.one (.c (.lit (.int .u8 Hw)))] (.one (wI r)):=by
 intro aA Hw r h;refine bg K.jQ (qx ?_);unfold C.jQ;rcases n with _|n<;>simp only[G.jQ,reduceCtorEq]at h;have z:=pp () <|pp () <|pp () <|pp () <|pp () <|pp () <|()
 exact rF
theorem F.strings_IndexByte {n:Nat} : ∀{aA Hw r},G.strings_IndexByte n aA Hw=some r->dY pZ 105 [.one (wS aA),.one (.c (.lit (.int .u8 Hw)))] (.one (wI r)):=by
 intro aA Hw r h;refine bg K.strings_IndexByte (qx ?_);unfold C.strings_IndexByte;rcases n with _|n<;>simp only[G.strings_IndexByte,reduceCtorEq]at h;have z:=pp (pp @F.jQ ()) <|pp () <|pp () <|pp () <|pp () <|pp () <|()
 exact rF
theorem F.nN {n:Nat} : ∀{aA r},G.nN n aA=some r->dY pZ 64 [.one (wS aA)] (.one (.c (.lit (.bool r)))):=by
 intro aA r h;refine bg K.nN (qx ?_);unfold C.nN;rcases n with _|n<;>simp only[G.nN,reduceCtorEq]at h;have z:=pp (pp @F.strings_IndexByte ()) <|pp () <|pp (pp (@su (Int) _ (λn x=>G.nN.L1 n aA x) r (λx=>iH.of [eS 0 aA,eI 3 x] [])) ()) <|pp () <|pp (pp (aW @G.nN.L1.eq_1 <|@G.nN.L1.eq_2) ()) <|pp (pp (@dO [] [] []) ()) <|()
 exact rF
theorem F.jk {n:Nat} : ∀{aG r},G.jk n aG=some r->dY pZ 113 [.one (wT aG)] (.one (.c (.lit (.bool r)))):=by
 intro aG r h;refine bg K.jk (qx ?_);unfold C.jk;rcases n with _|n<;>simp only[G.jk,reduceCtorEq]at h;have z:=pp (pp @F.nN ()) <|pp () <|pp (pp (@su (Int) _ (λn x=>G.jk.L1 n aG x) r (λx=>iH.of [eT 8 aG,eI 9 (aG.length:Int),eI 10 x] [])) ()) <|pp () <|pp (pp (aW @G.jk.L1.eq_1 <|@G.jk.L1.eq_2) ()) <|pp (pp (@dO [] [] []) ()) <|()
 exact rF
theorem F.slices_Index_string {n:Nat} : ∀{aA DW r},G.slices_Index_string n aA DW=some r->dY pZ 196 [.one (wT aA),.one (wS DW)] (.one (wI r)):=by
 intro aA DW r h;refine bg K.slices_Index_string (qx ?_);unfold C.slices_Index_string;rcases n with _|n<;>simp only[G.slices_Index_string,reduceCtorEq]at h;have z:=pp () <|pp () <|pp (pp (@su (Int) _ (λn x=>G.slices_Index_string.L1 n aA DW x) r (λx=>iH.of [eT 0 aA,eS 1 DW,eI 7 (aA.length:Int),eI 8 x] [])) ()) <|pp () <|pp (pp (aW @G.slices_Index_string.L1.eq_1 <|@G.slices_Index_string.L1.eq_2) ()) <|pp (pp (@dO [] [] []) ()) <|()
 exact rF
theorem F.slices_Contains_string {n:Nat} : ∀{aA DW r},G.slices_Contains_string n aA DW=some r->dY pZ 168 [.one (wT aA),.one (wS DW)] (.one (.c (.lit (.bool r)))):=by
 intro aA DW r h;refine bg K.slices_Contains_string (qx ?_);unfold C.slices_Contains_string;rcases n with _|n<;>simp only[G.slices_Contains_string,reduceCtorEq]at h;have z:=pp (pp @F.slices_Index_string ()) <|pp () <|pp () <|pp () <|pp () <|pp () <|()
 exact rF
theorem F.pX {n:Nat} : ∀{aG rV r},G.pX n aG rV=some r->dY pZ 119 [.one (wT aG),.one (wS rV)] (.one (.c (.lit (.bool r)))):=by
 intro aG rV r h;refine bg K.pX (qx ?_);unfold C.pX;rcases n with _|n<;>simp only[G.pX,reduceCtorEq]at h;have z:=pp (pp @F.slices_Contains_string ()) <|pp () <|pp () <|pp () <|pp () <|pp () <|()
 exact rF
theorem F.kP {n:Nat} : ∀{yL uV rV xE r},G.kP n yL uV rV xE=some r->dY pZ 73 [.one (wT yL),.one (wT uV),.one (wS rV),.one (.c (.lit (.bool xE)))] (.one (wI r)):=by
 intro yL uV rV xE r h;refine bg K.kP (qx ?_);unfold C.kP;rcases n with _|n<;>simp only[G.kP,reduceCtorEq]at h;have z:=pp (pp @F.jk <|pp @F.nN <|pp @F.pX ()) <|pp () <|pp () <|pp (pp (@zZ (Unit) _ (λn x=>G.kP.K1 n yL uV rV xE) r (λx=>iH.of [eT 0 yL,eT 1 uV,eS 2 rV,(3,.v true (.one (.c (.lit (.bool xE))))),(25,.v true (.one (.c (.lit (.bool false)))))] [])) ()) <|pp (pp (aW @G.kP.K1.eq_1 <|@G.kP.K1.eq_2) ()) <|pp (pp (@dO [] [] []) ()) <|()
 exact rF
theorem F.jV {n:Nat} : ∀{aA r},G.jV n aA=some r->dY pZ 58 [.one (wS aA)] (.one (.c (.lit (.bool r)))):=by
 intro aA r h;refine bg K.jV (qx ?_);unfold C.jV;rcases n with _|n<;>simp only[G.jV,reduceCtorEq]at h;have z:=pp () <|pp () <|pp (pp (@su (Int) _ (λn x=>G.jV.L1 n aA x) r (λx=>iH.of [eS 0 aA,eI 3 x] [])) ()) <|pp () <|pp (pp (aW @G.jV.L1.eq_1 <|@G.jV.L1.eq_2) ()) <|pp (pp (@dO [] [] []) ()) <|()
 exact rF
theorem F.dw {n:Nat} : ∀{aA r},G.dw n aA=some r->dY pZ 35 [.agg [.c (.sl 7 (ag bI.cells aA.Items)),wI aA.Clock]] (.one (.c (.lit (.bool r)))):=by
 intro aA r h;refine bg K.dw (qx ?_);unfold C.dw;rcases n with _|n<;>simp only[G.dw,reduceCtorEq]at h;have z:=pp (pp @F.jV <|pp @F.aX ()) <|pp () <|pp (pp (@su (Int) _ (λn x=>G.dw.L1 n aA x) r (λx=>iH.of [eP 1 103,(20,.v true (.one (.c (.sl 7 (ag bI.cells aA.Items))))),eI 21 (aA.Items.length:Int),eI 22 x] [(103,.var [.c (.sl 7 (ag bI.cells aA.Items)),wI aA.Clock])])) ()) <|pp () <|pp (pp (aW @G.dw.L1.eq_1 <|@G.dw.L1.eq_2) ()) <|pp (pp (@dO [] [(103,10)] []) <|pp (@dO [] [(103,103)] []) ()) <|()
 exact rF
theorem F.qR {n:Nat} : ∀{lQ r},G.qR n lQ=some r->dY pZ 37 [.agg [wS lQ.Name,wI lQ.Version,wI lQ.Node.Kind,wI lQ.Node.Num,wS lQ.Node.Text,wT lQ.Node.Names,wK lQ.Node.Kids]] (.agg [wS r.Name,wI r.Version,wI r.Node.Kind,wI r.Node.Num,wS r.Node.Text,wT r.Node.Names,wK r.Node.Kids]):=by
 intro lQ r h;refine bg K.qR (qx ?_);unfold C.qR;rcases n with _|n<;>simp only[G.qR,reduceCtorEq]at h;have z:=pp (pp @F.aP ()) <|pp () <|pp () <|pp () <|pp () <|pp () <|()
 exact rF
theorem F.eu {n:Nat} : ∀{aA r},G.eu n aA=some r->dY pZ 23 [.agg [.c (.sl 7 (ag bI.cells aA.Items)),wI aA.Clock]] (.agg [.c (.sl 7 (ag bI.cells r.Items)),wI r.Clock]):=by
 intro aA r h;refine bg K.eu (qx ?_);unfold C.eu;rcases n with _|n<;>simp only[G.eu,reduceCtorEq]at h;have z:=pp (pp @F.qR ()) <|pp () <|pp (pp (@su (Int×List bI) _ (λn x=>G.eu.L1 n aA x.1 x.2) r (λx=>iH.of [eP 2 107,eP 3 108,(19,.v true (.one (.c (.sl 7 (ag bI.cells aA.Items))))),eI 20 (aA.Items.length:Int),eI 21 x.1] [(107,.var [.jI 7,wI 0]),(108,.var [.own 109 x.2.length 7,wI aA.Clock]),(109,.dat 7 (ag bI.cells x.2))])) ()) <|pp () <|pp (pp (aW @G.eu.L1.eq_1 <|@G.eu.L1.eq_2) ()) <|pp (pp (@dO [] [(107,11),(108,12),(109,13)] []) <|pp (@dO [] [(107,107),(108,108),(109,109)] []) ()) <|()
 exact rF
theorem F.Ig {n:Nat} : ∀{aA r},G.eu n aA=some r->kV pZ 23 [.agg [.c (.sl 7 (ag bI.cells aA.Items)),wI aA.Clock]] [] (λr1 b1=>r1 = .agg [.own 0 r.Items.length 7,wI r.Clock]/\b1=[.dat 7 (ag bI.cells r.Items)]):=by
 intro aA r h;refine lg K.eu (qx ?_);unfold C.eu;rcases n with _|n<;>simp only[G.eu,reduceCtorEq]at h;have z:=pp (pp @F.qR ()) <|pp () <|pp (pp (@su (Int×List bI) _ (λn x=>G.eu.L1 n aA x.1 x.2) r (λx=>iH.of [eP 2 107,eP 3 108,(19,.v true (.one (.c (.sl 7 (ag bI.cells aA.Items))))),eI 20 (aA.Items.length:Int),eI 21 x.1] [(107,.var [.jI 7,wI 0]),(108,.var [.own 109 x.2.length 7,wI aA.Clock]),(109,.dat 7 (ag bI.cells x.2))])) ()) <|pp () <|pp (pp (aW @G.eu.L1.eq_1 <|@G.eu.L1.eq_2) ()) <|pp (pp (@dO [] [(107,11),(108,12),(109,13)] []) <|pp (@dO [] [(107,107),(108,108),(109,109)] []) ()) <|(pp (@xX [] [(0,109)] []) <|pp (@xX [] [] [0]) ())
 exact rF
theorem F.ru {n:Nat} : ∀{lQ fF r},G.ru n lQ fF=some r->dY pZ 166 [.agg [wS lQ.Name,wI lQ.Version,wI lQ.Node.Kind,wI lQ.Node.Num,wS lQ.Node.Text,wT lQ.Node.Names,wK lQ.Node.Kids],.one (wS fF)] (.one (wI r)):=by
 intro lQ fF r h;refine bg K.ru (qx ?_);unfold C.ru;rcases n with _|n<;>simp only[G.ru,reduceCtorEq]at h;have z:=pp (pp @F.strings_Compare ()) <|pp () <|pp () <|pp () <|pp () <|pp () <|()
 exact rF
theorem F.aI {n:Nat} : ∀{uh qH r},G.aI n uh qH=some r->dY pZ 165 [.one (.c (.sl 7 (ag bI.cells uh))),.one (wS qH),.one (.fn 166 [])] (.xg [(false,[wI r.1]),(false,[.c (.lit (.bool r.2))])]):=by
 intro uh qH r h;refine bg K.aI (qx ?_);unfold C.xG;rcases n with _|n<;>simp only[G.aI,reduceCtorEq]at h;have z:=pp (pp @F.ru ()) <|pp () <|pp (pp (@su (Int×Int) _ (λn x=>G.aI.L1 n uh qH x.1 x.2) r (λx=>iH.of [(0,.v true (.one (.c (.sl 7 (ag bI.cells uh))))),eS 1 qH,(2,.v true (.one (.fn 166 []))),eI 8 (uh.length:Int),eI 9 x.1,eI 10 x.2] [])) ()) <|pp () <|pp (pp (aW @G.aI.L1.eq_1 <|@G.aI.L1.eq_2) ()) <|pp (pp (@dO [] [] []) ()) <|()
 exact rF
theorem F.nR {n:Nat} : ∀{yT fF r},G.nR n yT fF=some r->dY pZ 117 [.one (.c (.sl 7 (ag bI.cells yT))),.one (wS fF)] (.xg [(false,[wI r.1]),(false,[.c (.lit (.bool r.2))])]):=by
 intro yT fF r h;refine bg K.nR (qx ?_);unfold C.nR;rcases n with _|n<;>simp only[G.nR,reduceCtorEq]at h;have z:=pp () <|pp (pp (pp @F.aI (@cG [] [])) ()) <|pp () <|pp () <|pp () <|pp () <|()
 exact rF
theorem F.nS {n:Nat} : ∀{aA:List bI} {Hy:Int} {Vx:Int} {r:List bI},G.nS n aA Hy Vx=some r ->
 kV pZ 169 [.one (.own 0 aA.length 7),.one (wI Hy),.one (wI Vx)] [.dat 7 (ag bI.cells aA)]
  (λr1 b1=>r1 = .one (.own 1 r.length 7)/\b1=[.dead,.dat 7 (ag bI.cells r)]):=by
 intro s i j r h;rcases n with _|n<;>simp only[G.nS,reduceCtorEq]at h;exact FG.del _ (cb:=104) (by decide) K.nS h
theorem F.sW {n:Nat} : ∀{aA fF r},G.sW n aA fF=some r->dY pZ 120 [.agg [.c (.sl 7 (ag bI.cells aA.Items)),wI aA.Clock],.one (wS fF)] (.xg [(true,[.c (.sl 7 (ag bI.cells r.1.Items)),wI r.1.Clock]),(false,[.c (.lit (.bool r.2))])]):=by
 intro aA fF r h;refine bg K.sW (qx ?_);unfold C.sW;rcases n with _|n<;>simp only[G.sW,reduceCtorEq]at h;have z:=pp (pp @F.dw <|pp @F.nR ()) <|pp (pp (pp @F.Ig (@cG [] [101])) <|pp (pp @F.nS (@cG [101] [102])) ()) <|pp () <|pp () <|pp () <|pp () <|()
 exact rF
theorem B.lays167 : Go.Proofs.Lays.n167 pZ B.ren:=by constructor<;>first|kernel_rfl|(intro w;kernel_rfl)
theorem F.aS {n:Nat} : ∀{Dh:iJ} {Hw:Int} {r:Unit×iJ},G.aS n Dh Hw=some r->kV pZ 16 [.one (.ptr 0 0),.one (.c (.lit (.int .u8 Hw)))] [.var [.opt 40 0,.wO 1 Dh.buf.length],.row 5 Dh.buf] (λr1 b1=>r1 = .one (.c (.lit .nilIface))/\b1=[.var [.opt 40 0,.wO 2 r.2.buf.length],.dead,.row 5 r.2.buf]):=by intro b c r h;rcases n with _|n<;>simp only[G.aS,reduceCtorEq]at h;obtain⟨⟨hc,hl⟩,h⟩:=zK.1 h;cases h;exact TU B.lays167 B.x hc hl
theorem F.gW {n:Nat} : ∀{Dh aA r},G.gW n Dh aA=some r->kV pZ 116 [.one (.ptr 0 0),.one (wS aA)] [.var [.opt 40 0,.wO 1 Dh.buf.length],.row 5 Dh.buf] (λr1 b1=>r1 = .xg []/\b1=[.var [.opt 40 0,.wO 2 r.buf.length],.dead,.row 5 r.buf]):=by
 intro Dh aA r h;refine lg K.gW (qx ?_);unfold C.gW;rcases n with _|n<;>simp only[G.gW,reduceCtorEq]at h;have z:=pp () <|pp (pp (pp @F.aS (@cG [0,1] [101])) <|pp (pp @F.aS (@cG [0,116] [121])) <|pp (pp @F.aS (@cG [0,116] [122])) <|pp (pp @F.aS (@cG [0,119] [120])) <|pp (pp @F.aS (@cG [0,116] [123])) ()) <|pp (pp (@su (Int×aK) _ (λn x=>G.gW.L3 n aA x.1 x.2) r (λx=>iH.of [eP 0 0,eS 1 aA,eI 4 x.1] [(0,.var [.opt 40 0,.wO 116 x.2.length]),(1,.dead),(116,.row 5 x.2)])) ()) <|pp (pp (@zZ (Int×aK) _ (λn x=>G.gW.K4 n aA x.1 x.2) r (λx=>iH.of [eP 0 0,eS 1 aA,eI 4 x.1] [(0,.var [.opt 40 0,.wO 119 x.2.length]),(1,.dead),(119,.row 5 x.2)])) ()) <|pp (pp (aW @G.gW.L3.eq_1 <|aW @G.gW.L3.eq_2 <|aW @G.gW.K4.eq_1 <|@G.gW.K4.eq_2) ()) <|pp (pp (@dO [] [(0,0),(1,1),(116,101)] []) <|pp (@dO [] [(0,0),(1,1),(119,121)] []) <|pp (@dO [] [(0,0),(1,1),(119,122)] []) <|pp (@dO [] [(0,0),(1,1),(119,116)] []) <|pp (@dO [] [(0,0),(1,1),(116,120)] []) ()) <|(pp (@xX [] [(0,0),(1,1),(2,123)] []) <|pp (@xX [] [(0,0),(1,1),(2,121)] []) ())
 exact rF
theorem B.lays166 : Go.Proofs.Lays.n166 pZ B.ren:=by constructor<;>first|kernel_rfl|(intro w;kernel_rfl)
theorem F.gz {n:Nat} : ∀{Dh:iJ} {aA:aK} {r:Int×Unit×iJ},G.gz n Dh aA=some r->kV pZ 14 [.one (.ptr 0 0),.one (wS aA)] [.var [.opt 40 0,.wO 1 Dh.buf.length],.row 5 Dh.buf] (λr1 b1=>r1 = .xg [(false,[wI r.1]),(false,[.c (.lit .nilIface)])]/\b1=[.var [.opt 40 0,.wO 2 r.2.2.buf.length],.dead,.row 5 r.2.2.buf]):=by intro b s r h;rcases n with _|n<;>simp only[G.gz,reduceCtorEq]at h;obtain⟨hl,h⟩:=zK.1 h;cases h;exact Qi B.lays166 B.x hl
theorem F.OA : ∀(n:Nat),∀{Dh ay r},G.bV n Dh ay=some r->kV pZ 76 [.one (.ptr 0 0),.agg (wN ay)] [.var [.opt 40 0,.wO 1 Dh.buf.length],.row 5 Dh.buf] (λr1 b1=>r1 = .xg []/\b1=[.var [.opt 40 0,.wO 2 r.buf.length],.dead,.row 5 r.buf]):=by
 intro n
 induction n using dH with|_ n ih=>
 intro Dh ay r h;refine lg K.bV (qx ?_);unfold C.bV;rcases n with _|n<;>simp only[G.bV,reduceCtorEq]at h;have:=Mk.mk 1;have:=Mk.mk 2;have z:=pp (pp @F.strconv_Itoa ()) <|pp (pp (pp ih (@cG [0,118] [119])) <|pp (pp ih (@cG [0,148] [149])) <|pp (pp @F.gz (@cG [0,1] [101])) <|pp (pp @F.gz (@cG [0,1] [102])) <|pp (pp @F.gW (@cG [0,1] [103])) <|pp (pp @F.aS (@cG [0,1] [104])) <|pp (pp @F.aS (@cG [0,115] [120])) <|pp (pp @F.aS (@cG [0,115] [121])) <|pp (pp @F.aS (@cG [0,1] [122])) <|pp (pp @F.aS (@cG [0,142] [150])) <|pp (pp @F.gW (@cG [0,146] [147])) <|pp (pp @F.aS (@cG [0,147] [148])) <|pp (pp @F.aS (@cG [0,142] [151])) ()) <|pp (pp (@su (Int×aK) _ (λn x=>G.bV.L3 n ay x.1 x.2) r (λx=>iH.of [eP 0 0,(32,.v true (.one (wK ay.Kids))),eI 33 (ay.Kids.length:Int),eI 34 x.1] [(0,.var [.opt 40 0,.wO 115 x.2.length]),(1,.dead),(115,.row 5 x.2)])) <|pp (@su (Int×aK) _ (λn x=>G.bV.L7 n ay x.1 x.2) r (λx=>iH.of [eP 0 0,eP 3 141,(54,.v true (.one (wK ay.Kids))),eI 55 (ay.Kids.length:Int),eI 56 x.1] [(0,.var [.opt 40 0,.wO 142 x.2.length]),(1,.dead),(141,.var (wN ay)),(142,.row 5 x.2)])) ()) <|pp (pp (@zZ (Int×aK) _ (λn x=>G.bV.K4 n ay x.1 x.2) r (λx=>iH.of [eP 0 0,eP 5 117,(32,.v true (.one (wK ay.Kids))),eI 33 (ay.Kids.length:Int),eI 34 x.1] [(0,.var [.opt 40 0,.wO 118 x.2.length]),(1,.dead),(117,.var [wI ((ay.Kids.getD x.1.toNat default).Kind),wI ((ay.Kids.getD x.1.toNat default).Num),wS ((ay.Kids.getD x.1.toNat default).Text),wT ((ay.Kids.getD x.1.toNat default).Names),wK ((ay.Kids.getD x.1.toNat default).Kids)]),(118,.row 5 x.2)])) <|pp (@zZ (Int×aK) _ (λn x=>G.bV.K8 n ay x.1 x.2) r (λx=>iH.of [eP 0 0,eP 3 144,eI 6 x.1,eP 7 145,(54,.v true (.one (wK ay.Kids))),eI 55 (ay.Kids.length:Int),eI 56 x.1] [(0,.var [.opt 40 0,.wO 146 x.2.length]),(1,.dead),(144,.var (wN ay)),(145,.var [wI ((ay.Kids.getD x.1.toNat default).Kind),wI ((ay.Kids.getD x.1.toNat default).Num),wS ((ay.Kids.getD x.1.toNat default).Text),wT ((ay.Kids.getD x.1.toNat default).Names),wK ((ay.Kids.getD x.1.toNat default).Kids)]),(146,.row 5 x.2)])) ()) <|pp (pp (aW @G.bV.L3.eq_1 <|aW @G.bV.L3.eq_2 <|aW @G.bV.K4.eq_1 <|aW @G.bV.K4.eq_2 <|aW @G.bV.L7.eq_1 <|aW @G.bV.L7.eq_2 <|aW @G.bV.K8.eq_1 <|@G.bV.K8.eq_2) ()) <|pp (pp (@dO [] [(0,0),(1,1),(115,104)] []) <|pp (@dO [] [(0,0),(1,1),(117,11),(118,120)] []) <|pp (@dO [] [(0,0),(1,1),(117,11),(118,115)] []) <|pp (@dO [] [(0,0),(1,1),(115,119)] []) <|pp (@dO [] [(0,0),(1,1),(141,10),(142,122)] []) <|pp (@dO [] [(0,0),(1,1),(144,141),(145,12),(146,150)] []) <|pp (@dO [] [(0,0),(1,1),(144,141),(145,12),(146,142)] []) <|pp (@dO [] [(0,0),(1,1),(141,144),(142,149)] []) <|pp (@dO [] [(0,0),(1,1),(141,10),(142,104)] []) ()) <|pp (pp (@xX [] [(0,0),(1,1),(2,101)] []) <|pp (@xX [] [(0,0),(1,1),(2,102)] []) <|pp (@xX [] [(0,0),(1,1),(2,103)] []) <|pp (@xX [] [(0,0),(1,1),(2,121)] []) <|pp (@xX [] [(0,0),(1,1),(2,151)] []) <|pp (@xX [] [(0,0),(1,1),(2,1)] []) <|pp (@xX [] [(0,0),(1,1),(2,120)] []) <|pp (@xX [] [(0,0),(1,1),(2,150)] []) ()) <|(pp (pp (rfl : @G.bV.K4=_) <|pp (rfl : @G.bV.L3=_) ()) <|pp (pp (rfl : @G.bV.K8=_) <|pp (rfl : @G.bV.L7=_) ()) ())
 exact VV
theorem F.bV {n:Nat} : ∀{Dh:iJ} {ay:aj} {r:iJ},G.bV n Dh ay=some r->kV pZ 76 [.one (.ptr 0 0),.agg (wN ay)] [.var [.opt 40 0,.wO 1 Dh.buf.length],.row 5 Dh.buf] (λr1 b1=>r1 = .xg []/\b1=[.var [.opt 40 0,.wO 2 r.buf.length],.dead,.row 5 r.buf]):=F.OA n
theorem B.lays169 : Go.Proofs.Lays.n169 pZ B.ren:=by constructor<;>first|kernel_rfl|(intro w;kernel_rfl)
theorem F.jC {n:Nat} : ∀{Dh:iJ} {r:aK},G.jC n Dh=some r->kV pZ 17 [.one (.ptr 0 0)] [.var [.opt 40 0,.wO 1 Dh.buf.length],.row 5 Dh.buf] (λr1 b1=>r1 = .one (wS r)/\b1=[.dead,.dead]):=by intro b r h;rcases n with _|n<;>simp only[G.jC,reduceCtorEq]at h;obtain⟨hl,h⟩:=zK.1 h;cases h;exact ZG B.lays169 B.x (iP hl (by decide))
theorem F.jY {n:Nat} : ∀{ay r},G.jY n ay=some r->dY pZ 46 [.agg (wN ay)] (.one (wS r)):=by
 intro ay r h;refine bg K.jY (qx ?_);unfold C.jY;rcases n with _|n<;>simp only[G.jY,reduceCtorEq]at h;have z:=pp (pp @F.aX ()) <|pp (pp (pp @F.bV (@cG [12,11] [101])) <|pp (pp @F.jC (@cG [12,101] [])) ()) <|pp () <|pp () <|pp () <|pp () <|()
 exact rF
theorem F.gK {n:Nat} : ∀{aG r},G.gK n aG=some r->dY pZ 70 [.one (wT aG)] (.one (wS r)):=by
 intro aG r h;refine bg K.gK (qx ?_);unfold C.gK;rcases n with _|n<;>simp only[G.gK,reduceCtorEq]at h;have z:=pp (pp @F.jk ()) <|pp (pp (pp @F.aS (@cG [115,116] [122])) <|pp (pp @F.gz (@cG [118,119] [120])) <|pp (pp @F.gW (@cG [118,119] [121])) <|pp (pp @F.jC (@cG [115,116] [])) ()) <|pp (pp (@su (Int×aK) _ (λn x=>G.gK.L3 n aG x.1 x.2) r (λx=>iH.of [eP 3 115,eT 9 aG,eI 10 (aG.length:Int),eI 11 x.1] [(115,.var [.opt 40 115,.wO 116 x.2.length]),(116,.row 5 x.2)])) ()) <|pp (pp (@zZ (Int×aK) _ (λn x=>G.gK.K4 n aG x.1 x.2) r (λx=>iH.of [eP 3 118,eS 5 (aG.getD x.1.toNat default),eT 9 aG,eI 10 (aG.length:Int),eI 11 x.1] [(118,.var [.opt 40 118,.wO 119 x.2.length]),(119,.row 5 x.2)])) ()) <|pp (pp (aW @G.gK.L3.eq_1 <|aW @G.gK.L3.eq_2 <|aW @G.gK.K4.eq_1 <|@G.gK.K4.eq_2) ()) <|pp (pp (@dO [] [(115,11),(116,10)] []) <|pp (@dO [] [(118,115),(119,122)] []) <|pp (@dO [] [(118,115),(119,116)] []) <|pp (@dO [] [(115,118),(116,120)] []) <|pp (@dO [] [(115,118),(116,121)] []) ()) <|()
 exact rF
theorem F.uD {n:Nat} : ∀{uy r},G.uD n uy=some r->dY pZ 112 [.one (wI uy)] (.one (wS r)):=by
 intro uy r h;refine bg K.uD (qx ?_);unfold C.uD;rcases n with _|n<;>simp only[G.uD,reduceCtorEq]at h;have z:=pp () <|pp () <|pp () <|pp () <|pp () <|pp () <|()
 exact rF
theorem F.kS {n:Nat} : ∀{aB r},G.kS n aB=some r->dY pZ 164 [.one (wT aB)] (.agg (wN r)):=by
 intro aB r h;refine bg K.kS (qx ?_);unfold C.kS;rcases n with _|n<;>simp only[G.kS,reduceCtorEq]at h;have z:=pp () <|pp () <|pp (pp (@su (Int×List aj) _ (λn x=>G.kS.L1 n aB x.1 x.2) r (λx=>iH.of [eP 2 106,eP 3 107,eT 7 aB,eI 8 (aB.length:Int),eI 9 x.1] [(106,.var zN),(107,.var [wI 3,wI 0,.c (.str []),.jI 1,.own 108 x.2.length 5]),(108,.dat 5 (ag aj.cells x.2))])) ()) <|pp () <|pp (pp (aW @G.kS.L1.eq_1 <|@G.kS.L1.eq_2) ()) <|pp (pp (@dO [] [(106,10),(107,11)] [108]) <|pp (@dO [] [(106,106),(107,107),(108,13)] []) ()) <|()
 exact rF
theorem F.tq {n:Nat} : ∀{kL r},G.tq n kL=some r->dY pZ 115 [.agg [wI kL.Kind,wT kL.Path,wT kL.From,wI kL.Value.Kind,wI kL.Value.Num,wS kL.Value.Text,wT kL.Value.Names,wK kL.Value.Kids]] (.xg [(true,(wN r.1)),(false,[.c (.lit (.bool r.2))])]):=by
 intro kL r h;refine bg K.tq (qx ?_);unfold C.tq;rcases n with _|n<;>simp only[G.tq,reduceCtorEq]at h;have z:=pp (pp @F.rW <|pp @F.kS <|pp @F.uD <|pp @F.aP <|pp @F.ni ()) <|pp () <|pp () <|pp () <|pp () <|pp () <|()
 exact rF
theorem F.kQ {n:Nat} : ∀{aG r},G.kQ n aG=some r->dY pZ 69 [.one (.c (.sl 8 (ag oz.cells aG)))] (.xg [(false,[wS r.1]),(false,[.c (.lit (.bool r.2))])]):=by
 intro aG r h;refine bg K.kQ (qx ?_);unfold C.kQ;rcases n with _|n<;>simp only[G.kQ,reduceCtorEq]at h;have z:=pp (pp @F.tq ()) <|pp (pp (pp @F.bV (@cG [109,110] [111])) <|pp (pp @F.aS (@cG [109,111] [112])) <|pp (pp @F.jC (@cG [109,110] [])) ()) <|pp (pp (@su (Int×aK) _ (λn x=>G.kQ.L1 n aG x.1 x.2) r (λx=>iH.of [eP 4 109,(9,.v true (.one (.c (.sl 8 (ag oz.cells aG))))),eI 10 (aG.length:Int),eI 11 x.1] [(109,.var [.opt 40 109,.wO 110 x.2.length]),(110,.row 5 x.2)])) ()) <|pp () <|pp (pp (aW @G.kQ.L1.eq_1 <|@G.kQ.L1.eq_2) ()) <|pp (pp (@dO [] [(109,11),(110,10)] []) <|pp (@dO [] [(109,109),(110,112)] []) ()) <|()
 exact rF
theorem F.lT {n:Nat} : ∀{aU r},G.lT n aU=some r->dY pZ 68 [.agg [wI aU.Method,wS aU.Name,wT aU.Want,wT aU.oP,wI aU.Body.Kind,wI aU.Body.Num,wS aU.Body.Text,wT aU.Body.Names,wK aU.Body.Kids,.c (.sl 8 (ag oz.cells aU.Ops))]] (.one (.c (.lit (.bool r)))):=by
 intro aU r h;refine bg K.lT (qx ?_);unfold C.lT;rcases n with _|n<;>simp only[G.lT,reduceCtorEq]at h;have z:=pp (pp @F.jV <|pp @F.jk <|pp @F.aX <|pp @F.fH ()) <|pp () <|pp () <|pp () <|pp () <|pp () <|()
 exact rF
theorem F.nH {n:Nat} : ∀{CZ r},G.nH n CZ=some r->dY pZ 40 [.one (wI CZ)] (.one (wS r)):=by
 intro CZ r h;refine bg K.nH (qx ?_);unfold C.nH;rcases n with _|n<;>simp only[G.nH,reduceCtorEq]at h;have z:=pp () <|pp () <|pp () <|pp () <|pp () <|pp () <|()
 exact rF
theorem B.lays156 : Go.Proofs.Lays.n156 pZ B.ren:=by constructor<;>first|kernel_rfl|(intro w;kernel_rfl)
theorem F.strings_Join {n:Nat} : ∀{Vw:List aK} {Qh:aK} {r:aK},G.strings_Join n Vw Qh=some r->dY pZ 33 [.one (wT Vw),.one (wS Qh)] (.one (wS r)):=by intro l s r h;rcases n with _|n<;>simp only[G.strings_Join,reduceCtorEq]at h;obtain⟨⟨h0,hl⟩,h⟩:=zK.1 h;exact aek B.lays156 B.x h0 hl (by cases h;rfl)
theorem F.aT {n:Nat} : ∀{aU r},G.aT n aU=some r->dY pZ 44 [.agg [wI aU.Method,wS aU.Name,wT aU.Want,wT aU.oP,wI aU.Body.Kind,wI aU.Body.Num,wS aU.Body.Text,wT aU.Body.Names,wK aU.Body.Kids,.c (.sl 8 (ag oz.cells aU.Ops))]] (.one (wS r)):=by
 intro aU r h;refine bg K.aT (qx ?_);unfold C.aT;rcases n with _|n<;>simp only[G.aT,reduceCtorEq]at h;have:=Mk.mk 1;have:=Mk.mk 2;have:=Mk.mk 3;have:=Mk.mk 4;have z:=pp (pp @F.lT <|pp @F.jY <|pp @F.kQ <|pp @F.nH <|pp @F.gK <|pp @F.strings_Join ()) <|pp () <|pp () <|pp (pp (@zZ (Unit) _ (λn x=>G.aT.K1 n aU) r (λx=>iH.of [eP 1 101,(36,.v true (.one (.c (.lit (.bool false)))))] [(101,.var [wI aU.Method,wS aU.Name,wT aU.Want,wT aU.oP,wI aU.Body.Kind,wI aU.Body.Num,wS aU.Body.Text,wT aU.Body.Names,wK aU.Body.Kids,.c (.sl 8 (ag oz.cells aU.Ops))])])) <|pp (@zZ (aK) _ (λn x=>G.aT.K2 n aU x) r (λx=>iH.of [eP 1 102,eS 4 x] [(102,.var [wI aU.Method,wS aU.Name,wT aU.Want,wT aU.oP,wI aU.Body.Kind,wI aU.Body.Num,wS aU.Body.Text,wT aU.Body.Names,wK aU.Body.Kids,.c (.sl 8 (ag oz.cells aU.Ops))])])) <|pp (@zZ (Unit) _ (λn x=>G.aT.K3 n aU) r (λx=>iH.of [eP 1 103,(36,.v true (.one (.c (.lit (.bool false)))))] [(103,.var [wI aU.Method,wS aU.Name,wT aU.Want,wT aU.oP,wI aU.Body.Kind,wI aU.Body.Num,wS aU.Body.Text,wT aU.Body.Names,wK aU.Body.Kids,.c (.sl 8 (ag oz.cells aU.Ops))])])) <|pp (@zZ (aK) _ (λn x=>G.aT.K4 n aU x) r (λx=>iH.of [eP 1 104,eS 4 x] [(104,.var [wI aU.Method,wS aU.Name,wT aU.Want,wT aU.oP,wI aU.Body.Kind,wI aU.Body.Num,wS aU.Body.Text,wT aU.Body.Names,wK aU.Body.Kids,.c (.sl 8 (ag oz.cells aU.Ops))])])) ()) <|pp (pp (aW @G.aT.K1.eq_1 <|aW @G.aT.K1.eq_2 <|aW @G.aT.K2.eq_1 <|aW @G.aT.K2.eq_2 <|aW @G.aT.K3.eq_1 <|aW @G.aT.K3.eq_2 <|aW @G.aT.K4.eq_1 <|@G.aT.K4.eq_2) ()) <|pp (pp (@dO [] [(101,10)] []) <|pp (@dO [] [(102,101)] []) <|pp (@dO [] [(103,10)] []) <|pp (@dO [] [(104,103)] []) ()) <|pp () <|(pp (pp (rfl : @G.aT.K1=_) ()) <|pp (pp (rfl : @G.aT.K2=_) <|pp (rfl : @G.aT.K1=_) ()) <|pp (pp (rfl : @G.aT.K3=_) ()) <|pp (pp (rfl : @G.aT.K4=_) <|pp (rfl : @G.aT.K3=_) ()) ())
 exact VV
theorem F.uJ {n:Nat} : ∀{aA fF r},G.uJ n aA fF=some r->dY pZ 71 [.agg [.c (.sl 7 (ag bI.cells aA.Items)),wI aA.Clock],.one (wS fF)] (.xg [(true,[wS r.1.Name,wI r.1.Version,wI r.1.Node.Kind,wI r.1.Node.Num,wS r.1.Node.Text,wT r.1.Node.Names,wK r.1.Node.Kids]),(false,[.c (.lit (.bool r.2))])]):=by
 intro aA fF r h;refine bg K.uJ (qx ?_);unfold C.uJ;rcases n with _|n<;>simp only[G.uJ,reduceCtorEq]at h;have z:=pp (pp @F.dw <|pp @F.nR <|pp @F.qR ()) <|pp () <|pp () <|pp () <|pp () <|pp () <|()
 exact rF
theorem F.jy {n:Nat} : ∀{aA r},G.jy n aA=some r->dY pZ 118 [.one (wS aA)] (.one (wS r)):=by
 intro aA r h;refine bg K.jy (qx ?_);unfold C.jy;rcases n with _|n<;>simp only[G.jy,reduceCtorEq]at h;have z:=pp () <|pp () <|pp (pp (@su (Int×Int) _ (λn x=>G.jy.L1 n aA x.1 x.2) r (λx=>iH.of [eS 0 aA,eI 3 x.1,eI 4 x.2] [])) <|pp (@su (Int×Int×List Int) _ (λn x=>G.jy.L2 n x.1 x.2.1 x.2.2) r (λx=>iH.of [eI 3 x.1,(5,.v true (.one (.Aq 103 0 1 0))),eI 6 x.2.1] [(103,.dat 1 (ag cU x.2.2))])) ()) <|pp () <|pp (pp (aW @G.jy.L1.eq_1 <|aW @G.jy.L1.eq_2 <|aW @G.jy.L2.eq_1 <|@G.jy.L2.eq_2) ()) <|pp (pp (@dO [] [] []) <|pp (@dO [] [(103,10)] []) <|pp (@dO [] [(103,103)] []) ()) <|()
 exact rF
theorem F.uY {n:Nat} : ∀{ay r},G.uY n ay=some r->dY pZ 72 [.agg (wN ay)] (.one (wS r)):=by
 intro ay r h;refine bg K.uY (qx ?_);unfold C.uY;rcases n with _|n<;>simp only[G.uY,reduceCtorEq]at h;have z:=pp (pp @F.aX <|pp @F.jY <|pp @F.jy ()) <|pp () <|pp () <|pp () <|pp () <|pp () <|()
 exact rF
theorem F.qf {n:Nat} : ∀{aA aU r},G.qf n aA aU=some r->dY pZ 74 [.agg [.c (.sl 7 (ag bI.cells aA.Items)),wI aA.Clock],.agg [wI aU.Method,wS aU.Name,wT aU.Want,wT aU.oP,wI aU.Body.Kind,wI aU.Body.Num,wS aU.Body.Text,wT aU.Body.Names,wK aU.Body.Kids,.c (.sl 8 (ag oz.cells aU.Ops))]] (.xg [(true,[.c (.sl 7 (ag bI.cells r.1.Items)),wI r.1.Clock]),(true,[wI r.2.Status,wS r.2.Tag,wI r.2.Version,wI r.2.Body.Kind,wI r.2.Body.Num,wS r.2.Body.Text,wT r.2.Body.Names,wK r.2.Body.Kids])]):=by
 intro aA aU r h;refine bg K.qf (qx ?_);unfold C.qf;rcases n with _|n<;>simp only[G.qf,reduceCtorEq]at h;have z:=pp (pp @F.sW <|pp @F.eu ()) <|pp () <|pp () <|pp () <|pp () <|pp () <|()
 exact rF
theorem F.nT {n:Nat} : ∀{aA:List bI} {Hy:Int} {DW:List bI} {r:List bI},G.nT n aA Hy DW=some r ->
 kV pZ 199 [.one (.own 0 aA.length 7),.one (wI Hy),.one (.own 1 DW.length 7)] [.dat 7 (ag bI.cells aA),.dat 7 (ag bI.cells DW)]
  (λr1 b1=>r1 = .one (.own 2 r.length 7)/\b1=[.dead,.dat 7 (ag bI.cells DW),.dat 7 (ag bI.cells r)]):=by
 intro s i v r h;rcases n with _|n<;>simp only[G.nT,reduceCtorEq]at h;exact FG.ins _ (cb:=104) (by decide) K.nT h
theorem F.wP {n:Nat} : ∀{yT lQ r},G.wP n yT lQ=some r->kV pZ 172 [.one (.own 0 yT.length 7),.agg [wS lQ.Name,wI lQ.Version,wI lQ.Node.Kind,wI lQ.Node.Num,wS lQ.Node.Text,wT lQ.Node.Names,wK lQ.Node.Kids]] [.dat 7 (ag bI.cells yT)] (λr1 b1=>r1 = .one (.own 1 r.length 7)/\b1=[.dead,.dat 7 (ag bI.cells r)]):=by
 intro yT lQ r h;refine lg K.wP (qx ?_);unfold C.wP;rcases n with _|n<;>simp only[G.wP,reduceCtorEq]at h;have z:=pp (pp @F.nR ()) <|pp (pp (pp @F.nT (@cG [0,11] [101])) ()) <|pp () <|pp () <|pp () <|pp () <|(pp (@xX [] [(0,0),(1,0)] []) <|pp (@xX [] [(0,0),(1,101)] []) ())
 exact rF
theorem F.uK {n:Nat} : ∀{aA fF ay r},G.uK n aA fF ay=some r->dY pZ 122 [.agg [.c (.sl 7 (ag bI.cells aA.Items)),wI aA.Clock],.one (wS fF),.agg (wN ay)] (.xg [(true,[.c (.sl 7 (ag bI.cells r.1.Items)),wI r.1.Clock]),(false,[.c (.lit (.bool r.2))])]):=by
 intro aA fF ay r h;refine bg K.uK (qx ?_);unfold C.uK;rcases n with _|n<;>simp only[G.uK,reduceCtorEq]at h;have z:=pp (pp @F.dw <|pp @F.jV <|pp @F.aX <|pp @F.aP ()) <|pp (pp (pp @F.Ig (@cG [] [101])) <|pp (pp @F.wP (@cG [101] [102])) ()) <|pp () <|pp () <|pp () <|pp () <|()
 exact rF
theorem F.vz {n:Nat} : ∀{Bc fF r},G.vz n Bc fF=some r->kV pZ 215 [.one (.ptr 0 0),.one (wS fF)] [.var [wI Bc.Kind,wI Bc.Num,wS Bc.Text,.own 1 Bc.Names.length 1,.own 2 Bc.Kids.length 5],.dat 1 (ag cS Bc.Names),.dat 5 (ag aj.cells Bc.Kids)] (λr1 b1=>r1 = .xg []/\b1=[.var [wI r.Kind,wI r.Num,wS r.Text,.own 3 r.Names.length 1,.own 4 r.Kids.length 5],.dead,.dead,.dat 1 (ag cS r.Names),.dat 5 (ag aj.cells r.Kids)]):=by
 intro Bc fF r h;refine lg K.vz (qx ?_);unfold C.vz;rcases n with _|n<;>simp only[G.vz,reduceCtorEq]at h;have z:=pp (pp @F.slices_BinarySearch_string ()) <|pp (pp (pp @F.slices_Delete_string (@cG [1] [101])) <|pp (pp @F.jR (@cG [2] [102])) ()) <|pp () <|pp () <|pp () <|pp () <|(pp (@xX [] [(0,0),(1,1),(2,2),(3,101),(4,102)] []) <|pp (@xX [] [(0,0),(1,1),(2,2),(3,1),(4,2)] []) ())
 exact rF
theorem F.Nj : ∀(n:Nat),∀{ay dQ r},G.dW n ay dQ=some r->dY pZ 198 [.agg (wN ay),.agg (wN dQ)] (.agg (wN r)):=by
 intro n
 induction n using dH with|_ n ih=>
 intro ay dQ r h;refine bg K.dW (qx ?_);unfold C.dW;rcases n with _|n<;>simp only[G.dW,reduceCtorEq]at h;have:=Mk.mk 1;have:=Mk.mk 2;have z:=pp (pp ih <|pp @F.slices_BinarySearch_string ()) <|pp (pp (pp @F.vU (@cG [] [101,102])) <|pp (pp @F.vU (@cG [] [155,156])) <|pp (pp @F.vz (@cG [142,143,144] [145,146])) <|pp (pp @F.oU (@cG [149,151,152] [153,154])) ()) <|pp (pp (@su (Int×Int×Int×aK×List aK×List aj) _ (λn x=>G.dW.L4 n dQ x.1 x.2.1 x.2.2.1 x.2.2.2.1 x.2.2.2.2.1 x.2.2.2.2.2) r (λx=>iH.of [eP 3 140,eP 4 141,eP 5 142,eT 23 dQ.Names,eI 24 (dQ.Names.length:Int),eI 25 x.1] [(140,.var (wN dQ)),(141,.var zN),(142,.var [wI x.2.1,wI x.2.2.1,wS x.2.2.2.1,.own 143 x.2.2.2.2.1.length 1,.own 144 x.2.2.2.2.2.length 5]),(143,.dat 1 (ag cS x.2.2.2.2.1)),(144,.dat 5 (ag aj.cells x.2.2.2.2.2))])) ()) <|pp (pp (@zZ (Int×Int×aK×List aK×List aj) _ (λn x=>G.dW.K1 n dQ x.1 x.2.1 x.2.2.1 x.2.2.2.1 x.2.2.2.2) r (λx=>iH.of [eP 3 105,eP 4 106,eP 5 107] [(105,.var (wN dQ)),(106,.var zN),(107,.var [wI x.1,wI x.2.1,wS x.2.2.1,.own 108 x.2.2.2.1.length 1,.own 109 x.2.2.2.2.length 5]),(108,.dat 1 (ag cS x.2.2.2.1)),(109,.dat 5 (ag aj.cells x.2.2.2.2))])) <|pp (@zZ (Int×Int×Int×aK×List aK×List aj×Int×Int×aK×List aK×List aj) _ (λn x=>G.dW.K5 n dQ x.1 x.2.1 x.2.2.1 x.2.2.2.1 x.2.2.2.2.1 x.2.2.2.2.2.1 x.2.2.2.2.2.2.1 x.2.2.2.2.2.2.2.1 x.2.2.2.2.2.2.2.2.1 x.2.2.2.2.2.2.2.2.2.1 x.2.2.2.2.2.2.2.2.2.2) r (λx=>iH.of [eP 3 147,eP 4 148,eP 5 149,eI 6 x.1,eS 7 (dQ.Names.getD x.1.toNat default),eP 8 150,eT 23 dQ.Names,eI 24 (dQ.Names.length:Int),eI 25 x.1] [(147,.var (wN dQ)),(148,.var zN),(149,.var [wI x.2.1,wI x.2.2.1,wS x.2.2.2.1,.own 151 x.2.2.2.2.1.length 1,.own 152 x.2.2.2.2.2.1.length 5]),(150,.var [wI x.2.2.2.2.2.2.1,wI x.2.2.2.2.2.2.2.1,wS x.2.2.2.2.2.2.2.2.1,wT x.2.2.2.2.2.2.2.2.2.1,wK x.2.2.2.2.2.2.2.2.2.2]),(151,.dat 1 (ag cS x.2.2.2.2.1)),(152,.dat 5 (ag aj.cells x.2.2.2.2.2.1))])) ()) <|pp (pp (aW @G.dW.K1.eq_1 <|aW @G.dW.K1.eq_2 <|aW @G.dW.L4.eq_1 <|aW @G.dW.L4.eq_2 <|aW @G.dW.K5.eq_1 <|@G.dW.K5.eq_2) ()) <|pp (pp (@dO [] [(105,11),(106,12),(107,13),(108,155),(109,156)] []) <|pp (@dO [] [(105,11),(106,12),(107,13)] [108,109]) <|pp (@dO [] [(140,105),(141,106),(142,107),(143,108),(144,109)] []) <|pp (@dO [] [(140,140),(141,141),(142,142),(143,145),(144,146)] []) <|pp (@dO [] [(147,140),(148,141),(149,142),(150,14),(151,143),(152,144)] []) <|pp (@dO [] [(140,147),(141,148),(142,149),(143,153),(144,154)] []) <|pp (@dO [] [(105,11),(106,12),(107,13),(108,101),(109,102)] []) ()) <|pp () <|(pp (pp (rfl : @G.dW.K1=_) ()) <|pp (pp (rfl : @G.dW.K5=_) <|pp (rfl : @G.dW.L4=_) <|pp (rfl : @G.dW.K1=_) ()) ())
 exact VV
theorem F.dW {n:Nat} : ∀{ay:aj} {dQ:aj} {r:aj},G.dW n ay dQ=some r->dY pZ 198 [.agg (wN ay),.agg (wN dQ)] (.agg (wN r)):=F.Nj n
theorem F.rG {n:Nat} : ∀{ay dQ r},G.rG n ay dQ=some r->dY pZ 171 [.agg (wN ay),.agg (wN dQ)] (.xg [(true,(wN r.1)),(false,[.c (.lit (.bool r.2))])]):=by
 intro ay dQ r h;refine bg K.rG (qx ?_);unfold C.rG;rcases n with _|n<;>simp only[G.rG,reduceCtorEq]at h;have z:=pp (pp @F.aX <|pp @F.dW <|pp @F.ni ()) <|pp () <|pp () <|pp () <|pp () <|pp () <|()
 exact rF
theorem F.uN {n:Nat} : ∀{FN aU r},G.uN n FN aU=some r->dY pZ 121 [.agg (wN FN),.agg [wI aU.Method,wS aU.Name,wT aU.Want,wT aU.oP,wI aU.Body.Kind,wI aU.Body.Num,wS aU.Body.Text,wT aU.Body.Names,wK aU.Body.Kids,.c (.sl 8 (ag oz.cells aU.Ops))]] (.xg [(true,(wN r.1)),(false,[.c (.lit (.bool r.2))])]):=by
 intro FN aU r h;refine bg K.uN (qx ?_);unfold C.uN;rcases n with _|n<;>simp only[G.uN,reduceCtorEq]at h;have z:=pp (pp @F.pY <|pp @F.rG ()) <|pp () <|pp () <|pp () <|pp () <|pp () <|()
 exact rF
theorem F.nD {n:Nat} : ∀{aA aU FN Jp r},G.nD n aA aU FN Jp=some r->dY pZ 75 [.agg [.c (.sl 7 (ag bI.cells aA.Items)),wI aA.Clock],.agg [wI aU.Method,wS aU.Name,wT aU.Want,wT aU.oP,wI aU.Body.Kind,wI aU.Body.Num,wS aU.Body.Text,wT aU.Body.Names,wK aU.Body.Kids,.c (.sl 8 (ag oz.cells aU.Ops))],.agg (wN FN),.one (.c (.lit (.bool Jp)))] (.xg [(true,[.c (.sl 7 (ag bI.cells r.1.Items)),wI r.1.Clock]),(true,[wI r.2.Status,wS r.2.Tag,wI r.2.Version,wI r.2.Body.Kind,wI r.2.Body.Num,wS r.2.Body.Text,wT r.2.Body.Names,wK r.2.Body.Kids])]):=by
 intro aA aU FN Jp r h;refine bg K.nD (qx ?_);unfold C.nD;rcases n with _|n<;>simp only[G.nD,reduceCtorEq]at h;have z:=pp (pp @F.uN <|pp @F.uK <|pp @F.uY <|pp @F.eu ()) <|pp () <|pp () <|pp () <|pp () <|pp () <|()
 exact rF
theorem F.gY {n:Nat} : ∀{aA aU r},G.gY n aA aU=some r->dY pZ 45 [.agg [.c (.sl 7 (ag bI.cells aA.Items)),wI aA.Clock],.agg [wI aU.Method,wS aU.Name,wT aU.Want,wT aU.oP,wI aU.Body.Kind,wI aU.Body.Num,wS aU.Body.Text,wT aU.Body.Names,wK aU.Body.Kids,.c (.sl 8 (ag oz.cells aU.Ops))]] (.xg [(true,[.c (.sl 7 (ag bI.cells r.1.Items)),wI r.1.Clock]),(true,[wI r.2.Status,wS r.2.Tag,wI r.2.Version,wI r.2.Body.Kind,wI r.2.Body.Num,wS r.2.Body.Text,wT r.2.Body.Names,wK r.2.Body.Kids])]):=by
 intro aA aU r h;refine bg K.gY (qx ?_);unfold C.gY;rcases n with _|n<;>simp only[G.gY,reduceCtorEq]at h;have:=Mk.mk 1;have:=Mk.mk 2;have z:=pp (pp @F.dw <|pp @F.lT <|pp @F.uJ <|pp @F.uY <|pp @F.kP <|pp @F.eu <|pp @F.qf <|pp @F.nD ()) <|pp () <|pp () <|pp (pp (@zZ ((bI×Bool)×aK) _ (λn x=>G.gY.K1 n aA aU x.1 x.2) r (λx=>iH.of [eP 2 101,eP 3 102,eP 4 103,eP 5 104,eP 6 105,(7,.v true (.one (.c (.lit (.bool true))))),eS 8 x.2] [(101,.var [.c (.sl 7 (ag bI.cells aA.Items)),wI aA.Clock]),(102,.var [wI aU.Method,wS aU.Name,wT aU.Want,wT aU.oP,wI aU.Body.Kind,wI aU.Body.Num,wS aU.Body.Text,wT aU.Body.Names,wK aU.Body.Kids,.c (.sl 8 (ag oz.cells aU.Ops))]),(103,.var [.jI 7,wI 0]),(104,.var [wI 0,.c (.str []),wI 0,wI 0,wI 0,.c (.str []),.jI 1,.jI 5]),(105,.var [wS x.1.1.Name,wI x.1.1.Version,wI x.1.1.Node.Kind,wI x.1.1.Node.Num,wS x.1.1.Node.Text,wT x.1.1.Node.Names,wK x.1.1.Node.Kids])])) <|pp (@zZ ((bI×Bool)) _ (λn x=>G.gY.K2 n aA aU x) r (λx=>iH.of [eP 2 106,eP 3 107,eP 4 108,eP 5 109,eP 6 110,(7,.v true (.one (.c (.lit (.bool false))))),(8,.v true (.one (.c (.str [])))),(37,.v true (.one (.c (.lit (.bool false)))))] [(106,.var [.c (.sl 7 (ag bI.cells aA.Items)),wI aA.Clock]),(107,.var [wI aU.Method,wS aU.Name,wT aU.Want,wT aU.oP,wI aU.Body.Kind,wI aU.Body.Num,wS aU.Body.Text,wT aU.Body.Names,wK aU.Body.Kids,.c (.sl 8 (ag oz.cells aU.Ops))]),(108,.var [.jI 7,wI 0]),(109,.var [wI 0,.c (.str []),wI 0,wI 0,wI 0,.c (.str []),.jI 1,.jI 5]),(110,.var [wS x.1.Name,wI x.1.Version,wI x.1.Node.Kind,wI x.1.Node.Num,wS x.1.Node.Text,wT x.1.Node.Names,wK x.1.Node.Kids])])) ()) <|pp (pp (aW @G.gY.K1.eq_1 <|aW @G.gY.K1.eq_2 <|aW @G.gY.K2.eq_1 <|@G.gY.K2.eq_2) ()) <|pp (pp (@dO [] [(101,10),(102,11),(103,12),(104,13),(105,14)] []) <|pp (@dO [] [(106,10),(107,11),(108,12),(109,13),(110,14)] []) ()) <|pp () <|(pp (pp (rfl : @G.gY.K1=_) ()) <|pp (pp (rfl : @G.gY.K2=_) ()) ())
 exact VV
theorem F.jP {n:Nat} : ∀{ay r},G.jP n ay=some r->dY pZ 111 [.agg (wN ay)] (.xg [(false,[wT r.1]),(false,[.c (.lit (.bool r.2))])]):=by
 intro ay r h;refine bg K.jP (qx ?_);unfold C.jP;rcases n with _|n<;>simp only[G.jP,reduceCtorEq]at h;have z:=pp (pp @F.iQ ()) <|pp () <|pp (pp (@su (Int×List aK) _ (λn x=>G.jP.L1 n ay x.1 x.2) r (λx=>iH.of [(4,.v true (.one (.own 102 x.2.length 1))),(11,.v true (.one (wK ay.Kids))),eI 12 (ay.Kids.length:Int),eI 13 x.1] [(102,.dat 1 (ag cS x.2))])) ()) <|pp () <|pp (pp (aW @G.jP.L1.eq_1 <|@G.jP.L1.eq_2) ()) <|pp (pp (@dO [] [] [102]) <|pp (@dO [] [(102,13)] []) ()) <|()
 exact rF
theorem F.ig {n:Nat} : ∀{xU Ce xQ r},G.ig n xU Ce xQ=some r->dY pZ 39 [.one (wS xU),.one (wI Ce),.one (wI xQ),.one (.fn 112 [])] (.xg [(false,[wI r.1]),(false,[.c (.lit (.bool r.2))])]):=by
 intro xU Ce xQ r h;refine bg K.ig (qx ?_);unfold C.Fe;rcases n with _|n<;>simp only[G.ig,reduceCtorEq]at h;have z:=pp (pp @F.uD ()) <|pp () <|pp (pp (@su (Int) _ (λn x=>G.ig.L1 n xU xQ x) r (λx=>iH.of [eS 0 xU,eI 2 xQ,(3,.v true (.one (.fn 112 []))),eI 10 x] [])) ()) <|pp () <|pp (pp (aW @G.ig.L1.eq_1 <|@G.ig.L1.eq_2) ()) <|pp (pp (@dO [] [] []) ()) <|()
 exact rF
theorem F.sZ {n:Nat} : ∀{ay r},G.sZ n ay=some r->dY pZ 67 [.agg (wN ay)] (.xg [(true,[wI r.1.Kind,wT r.1.Path,wT r.1.From,wI r.1.Value.Kind,wI r.1.Value.Num,wS r.1.Value.Text,wT r.1.Value.Names,wK r.1.Value.Kids]),(false,[.c (.lit (.bool r.2))])]):=by
 intro ay r h;refine bg K.sZ (qx ?_);unfold C.sZ;rcases n with _|n<;>simp only[G.sZ,reduceCtorEq]at h;have z:=pp (pp @F.aX <|pp @F.slices_Equal_string <|pp @F.jP <|pp @F.aP ()) <|pp (pp (pp @F.ig (@cG [] [])) ()) <|pp () <|pp () <|pp () <|pp () <|()
 exact rF
theorem B.lays172 : Go.Proofs.Lays.n172 pZ B.ren:=by constructor<;>first|kernel_rfl|(intro w;kernel_rfl)
theorem B.acC : Go.Proofs.LaysM.n172 pZ B.ren:=by constructor<;>first|exact B.lays172|kernel_rfl|(intro w;kernel_rfl)
theorem B.laysC172 : Go.Proofs.LaysC.n172 pZ B.ren:=by constructor<;>first|exact B.acC|kernel_rfl|(intro w;kernel_rfl)
theorem F.strconv_Atoi {n:Nat} : ∀{aA:aK} {r:Int×Bool},G.strconv_Atoi n aA=some r->dY pZ 159 [.one (wS aA)] (.xg [(false,[wI r.1]),(false,[.err r.2])]):=by intro s r h;rcases n with _|n<;>simp only[G.strconv_Atoi,reduceCtorEq]at h;obtain⟨hl,h⟩:=zK.1 h;exact aei B.laysC172 hl (by cases h;rfl)
theorem F.dR {n:Nat} : ∀{fV r},G.dR n fV=some r->kV pZ 108 [.one (.ptr 0 0)] [.var [wS fV.text,wI fV.at_]] (λr1 b1=>r1 = .xg [(true,(wN r.1)),(false,[.c (.lit (.bool r.2.1))])]/\b1=[.var [wS r.2.2.text,wI r.2.2.at_]]):=by
 intro fV r h;refine lg K.dR (qx ?_);unfold C.dR;rcases n with _|n<;>simp only[G.dR,reduceCtorEq]at h;have z:=pp (pp @F.strconv_Atoi <|pp @F.strconv_Itoa ()) <|pp () <|pp (pp (@su (Int) _ (λn x=>G.dR.L1 n fV x) r (λx=>iH.of [eP 0 0,eP 2 103,eI 4 x] [(0,.var [wS fV.text,wI fV.at_]),(103,.var zN)])) ()) <|pp () <|pp (pp (aW @G.dR.L1.eq_1 <|@G.dR.L1.eq_2) ()) <|pp (pp (@dO [] [(0,0),(103,10)] []) <|pp (@dO [] [(0,0),(103,103)] []) ()) <|(pp (@xX [] [(0,0)] []) ())
 exact rF
theorem B.lays99 : Go.Proofs.Lays.n99 pZ B.ren:=by constructor<;>first|kernel_rfl|(intro w;kernel_rfl)
theorem F.strings_HasPrefix {n:Nat} : ∀{aA:aK} {SY:aK} {r:Bool},G.strings_HasPrefix n aA SY=some r->dY pZ 109 [.one (wS aA),.one (wS SY)] (.one (.c (.lit (.bool r)))):=by intro s p r h;rcases n with _|n<;>simp only[G.strings_HasPrefix,reduceCtorEq]at h;exact TS B.lays99 (by cases h;rfl)
theorem F.iL {n:Nat} : ∀{fV aA r},G.iL n fV aA=some r->kV pZ 66 [.one (.ptr 0 0),.one (wS aA)] [.var [wS fV.text,wI fV.at_]] (λr1 b1=>r1 = .one (.c (.lit (.bool r.1)))/\b1=[.var [wS r.2.text,wI r.2.at_]]):=by
 intro fV aA r h;refine lg K.iL (qx ?_);unfold C.iL;rcases n with _|n<;>simp only[G.iL,reduceCtorEq]at h;have z:=pp (pp @F.strings_HasPrefix ()) <|pp () <|pp () <|pp () <|pp () <|pp () <|(pp (@xX [] [(0,0)] []) ())
 exact rF
theorem F.bP {n:Nat} : ∀{fV r},G.bP n fV=some r->kV pZ 106 [.one (.ptr 0 0)] [.var [wS fV.text,wI fV.at_]] (λr1 b1=>r1 = .xg [(false,[wS r.1]),(false,[.c (.lit (.bool r.2.1))])]/\b1=[.var [wS r.2.2.text,wI r.2.2.at_]]):=by
 intro fV r h;refine lg K.bP (qx ?_);unfold C.bP;rcases n with _|n<;>simp only[G.bP,reduceCtorEq]at h;have z:=pp () <|pp (pp (pp @F.iL (@cG [0] [])) <|pp (pp @F.jC (@cG [111,112] [])) <|pp (pp @F.aS (@cG [113,114] [115])) ()) <|pp (pp (@su ((Bool×bn)×Int×aK) _ (λn x=>G.bP.L3 n x.1 x.2.1 x.2.2) r (λx=>iH.of [eP 0 0,eP 4 111] [(0,.var [wS x.1.2.text,wI x.2.1]),(111,.var [.opt 40 111,.wO 112 x.2.2.length]),(112,.row 5 x.2.2)])) ()) <|pp (pp (@zZ ((Bool×bn)×aK×Int×Int) _ (λn x=>G.bP.K4 n x.1 x.2.1 x.2.2.1 x.2.2.2) r (λx=>iH.of [eP 0 0,eP 4 113,(5,.v true (.one (.c (.lit (.int .u8 x.2.2.1)))))] [(0,.var [wS x.1.2.text,wI x.2.2.2]),(113,.var [.opt 40 113,.wO 114 x.2.1.length]),(114,.row 5 x.2.1)])) ()) <|pp (pp (aW @G.bP.L3.eq_1 <|aW @G.bP.L3.eq_2 <|aW @G.bP.K4.eq_1 <|@G.bP.K4.eq_2) ()) <|pp (pp (@dO [] [(0,0),(111,11),(112,10)] []) <|pp (@dO [] [(0,0),(113,111),(114,112)] []) <|pp (@dO [] [(0,0),(111,113),(112,115)] []) ()) <|(pp (@xX [] [(0,0)] []) ())
 exact rF
theorem F.FB : ∀(n:Nat),(∀{fV mO r},G.iG n fV mO=some r->kV pZ 65 [.one (.ptr 0 0),.one (wI mO)] [.var [wS fV.text,wI fV.at_]] (λr1 b1=>r1 = .xg [(true,(wN r.1)),(false,[.c (.lit (.bool r.2.1))])]/\b1=[.var [wS r.2.2.text,wI r.2.2.at_]]))/\(∀{fV uy mO vH r},G.di n fV uy mO vH=some r->kV pZ 107 [.one (.ptr 0 0),.one (wI uy),.one (wI mO),.one (wS vH)] [.var [wS fV.text,wI fV.at_]] (λr1 b1=>r1 = .xg [(true,(wN r.1)),(false,[.c (.lit (.bool r.2.1))])]/\b1=[.var [wS r.2.2.text,wI r.2.2.at_]])):=by
 intro n
 induction n using dH with|_ n ih=>
 refine⟨?_,?_⟩
 ·intro fV mO r h;refine lg K.iG (qx ?_);unfold C.iG;rcases n with _|n<;>simp only[G.iG,reduceCtorEq]at h;have z:=pp () <|pp (pp (pp (ihR ih) (@cG [0] [])) <|pp (pp @F.iL (@cG [0] [])) <|pp (pp @F.bP (@cG [0] [])) <|pp (pp @F.dR (@cG [0] [])) ()) <|pp () <|pp () <|pp () <|pp () <|(pp (@xX [] [(0,0)] []) ())
  exact rF
 ·intro fV uy mO vH r h;refine lg K.di (qx ?_);unfold C.di;rcases n with _|n<;>simp only[G.di,reduceCtorEq]at h;have z:=pp () <|pp (pp (pp (ihL ih) (@cG [0] [])) <|pp (pp @F.iL (@cG [0] [])) <|pp (pp @F.bP (@cG [0] [])) ()) <|pp (pp (@su (aK×Int×List aK×List aj) _ (λn x=>G.di.L3 n uy mO vH x.1 x.2.1 x.2.2.1 x.2.2.2) r (λx=>iH.of [eP 0 0,eI 1 uy,eI 2 mO,eS 3 vH,eP 8 114,eP 10 115] [(0,.var [wS x.1,wI x.2.1]),(114,.var zN),(115,.var [wI uy,wI 0,.c (.str []),.own 116 x.2.2.1.length 1,.own 117 x.2.2.2.length 5]),(116,.dat 1 (ag cS x.2.2.1)),(117,.dat 5 (ag aj.cells x.2.2.2))])) ()) <|pp (pp (@zZ (List aj×aK×Int×List aK) _ (λn x=>G.di.K4 n uy mO vH x.1 x.2.1 x.2.2.1 x.2.2.2) r (λx=>iH.of [eP 0 0,eI 1 uy,eI 2 mO,eS 3 vH,eP 8 118,eP 10 119] [(0,.var [wS x.2.1,wI x.2.2.1]),(118,.var zN),(119,.var [wI uy,wI 0,.c (.str []),.own 120 x.2.2.2.length 1,.own 121 x.1.length 5]),(120,.dat 1 (ag cS x.2.2.2)),(121,.dat 5 (ag aj.cells x.1))])) ()) <|pp (pp (aW @G.di.L3.eq_1 <|aW @G.di.L3.eq_2 <|aW @G.di.K4.eq_1 <|@G.di.K4.eq_2) ()) <|pp (pp (@dO [] [(0,0),(114,10),(115,11)] [116,117]) <|pp (@dO [] [(0,0),(118,114),(119,115),(120,13),(121,117)] []) <|pp (@dO [] [(0,0),(118,114),(119,115),(120,116),(121,117)] []) <|pp (@dO [] [(0,0),(114,118),(115,119),(116,120),(117,16)] []) ()) <|(pp (@xX [] [(0,0)] []) <|pp (@xX [16,120] [(0,0)] []) ())
  exact rF
theorem F.iG {n:Nat} : ∀{fV:bn} {mO:Int} {r:aj×Bool×bn},G.iG n fV mO=some r->kV pZ 65 [.one (.ptr 0 0),.one (wI mO)] [.var [wS fV.text,wI fV.at_]] (λr1 b1=>r1 = .xg [(true,(wN r.1)),(false,[.c (.lit (.bool r.2.1))])]/\b1=[.var [wS r.2.2.text,wI r.2.2.at_]]):=(F.FB n).1
theorem F.rH {n:Nat} : ∀{aA r},G.rH n aA=some r->dY pZ 43 [.one (wS aA)] (.xg [(true,(wN r.1)),(false,[.c (.lit (.bool r.2))])]):=by
 intro aA r h;refine bg K.rH (qx ?_);unfold C.rH;rcases n with _|n<;>simp only[G.rH,reduceCtorEq]at h;have z:=pp (pp @F.aX <|pp @F.aP ()) <|pp (pp (pp @F.iG (@cG [11] [])) ()) <|pp () <|pp () <|pp () <|pp () <|()
 exact rF
theorem B.lays143 : Go.Proofs.Lays.n143 pZ B.ren:=by constructor<;>first|kernel_rfl|(intro w;kernel_rfl)
theorem F.uX {n:Nat} : ∀{aA:aK} {r:List aK×Bool},G.uX n aA=some r->dY pZ 41 [.one (wS aA)] (.xg [(false,[wT r.1]),(false,[.c (.lit (.bool r.2))])]):=by intro s r h;rcases n with _|n<;>simp only[G.uX,reduceCtorEq]at h;obtain⟨hl,h⟩:=zK.1 h;exact Go.Proofs.TT B.lays143 (by kernel_rfl) (λy hy=>(T.nN y (by unfold big;omega)).val.elim λm hm=>F.nN hm) hl (by cases h;rfl)
theorem F.fJ {n:Nat} : ∀{xU Ce xQ r},G.fJ n xU Ce xQ=some r->dY pZ 39 [.one (wS xU),.one (wI Ce),.one (wI xQ),.one (.fn 40 [])] (.xg [(false,[wI r.1]),(false,[.c (.lit (.bool r.2))])]):=by
 intro xU Ce xQ r h;refine bg K.fJ (qx ?_);unfold C.Fe;rcases n with _|n<;>simp only[G.fJ,reduceCtorEq]at h;have z:=pp (pp @F.nH ()) <|pp () <|pp (pp (@su (Int) _ (λn x=>G.fJ.L1 n xU xQ x) r (λx=>iH.of [eS 0 xU,eI 2 xQ,(3,.v true (.one (.fn 40 []))),eI 10 x] [])) ()) <|pp () <|pp (pp (aW @G.fJ.L1.eq_1 <|@G.fJ.L1.eq_2) ()) <|pp (pp (@dO [] [] []) ()) <|()
 exact rF
theorem F.mG {n:Nat} : ∀{aA r},G.mG n aA=some r->dY pZ 42 [.one (wS aA)] (.xg [(false,[.c (.sl 8 (ag oz.cells r.1))]),(false,[.c (.lit (.bool r.2))])]):=by
 intro aA r h;refine bg K.mG (qx ?_);unfold C.mG;rcases n with _|n<;>simp only[G.mG,reduceCtorEq]at h;have z:=pp (pp @F.sZ ()) <|pp (pp (pp @F.iG (@cG [105] [])) <|pp (pp @F.iL (@cG [105] [])) ()) <|pp (pp (@su (List oz×aK×Int) _ (λn x=>G.mG.L1 n aA x.1 x.2.1 x.2.2) r (λx=>iH.of [eS 0 aA,(4,.v true (.one (.own 104 x.1.length 8))),eP 5 105] [(104,.dat 8 (ag oz.cells x.1)),(105,.var [wS x.2.1,wI x.2.2])])) ()) <|pp () <|pp (pp (aW @G.mG.L1.eq_1 <|@G.mG.L1.eq_2) ()) <|pp (pp (@dO [] [(105,10)] [104]) <|pp (@dO [] [(104,14),(105,105)] []) ()) <|()
 exact rF
theorem B.lays147 : Go.Proofs.Lays.n147 pZ B.ren:=by constructor<;>first|kernel_rfl|(intro w;kernel_rfl)
theorem F.strings_SplitN {n:Nat} : ∀{aA Qh:aK} {ay:Int} {r:List aK},G.strings_SplitN n aA Qh ay=some r->dY pZ 38 [.one (wS aA),.one (wS Qh),.one (wI ay)] (.one (wT r)):=by intro s sep k r h;rcases n with _|n<;>simp only[G.strings_SplitN,reduceCtorEq]at h;obtain⟨⟨h1,h2,h3,h4⟩,h⟩:=zK.1 h;exact ZF B.lays147 (by kernel_rfl) h1 h2 h3 h4 (by kernel_rfl) (by cases h;rfl)
theorem F.jq {n:Nat} : ∀{aA r},G.jq n aA=some r->dY pZ 24 [.one (wS aA)] (.xg [(true,[wI r.1.Method,wS r.1.Name,wT r.1.Want,wT r.1.oP,wI r.1.Body.Kind,wI r.1.Body.Num,wS r.1.Body.Text,wT r.1.Body.Names,wK r.1.Body.Kids,.c (.sl 8 (ag oz.cells r.1.Ops))]),(false,[.c (.lit (.bool r.2))])]):=by
 intro aA r h;refine bg K.jq (qx ?_);unfold C.jq;rcases n with _|n<;>simp only[G.jq,reduceCtorEq]at h;have z:=pp (pp @F.strings_SplitN <|pp @F.uX <|pp @F.mG <|pp @F.rH <|pp @F.aT ()) <|pp (pp (pp @F.fJ (@cG [] [])) ()) <|pp () <|pp (pp (@zZ (List aK×(Int×Bool)×(List aK×Bool)×(List aK×Bool)×Bool×Int×Int×aK×List aK×List aj×List oz) _ (λn x=>G.jq.K1 n aA x.1 x.2.1 x.2.2.1 x.2.2.2.1 x.2.2.2.2.1 x.2.2.2.2.2.1 x.2.2.2.2.2.2.1 x.2.2.2.2.2.2.2.1 x.2.2.2.2.2.2.2.2.1 x.2.2.2.2.2.2.2.2.2.1 x.2.2.2.2.2.2.2.2.2.2) r (λx=>iH.of [eS 0 aA,eP 2 101,eP 11 102,(12,.v true (.one (.c (.lit (.bool x.2.2.2.2.1)))))] [(101,.var [wI 0,.c (.str []),.jI 1,.jI 1,wI 0,wI 0,.c (.str []),.jI 1,.jI 5,.jI 8]),(102,.var [wI x.2.1.1,wS (x.1.getD 1 default),wT x.2.2.1.1,wT x.2.2.2.1.1,wI x.2.2.2.2.2.1,wI x.2.2.2.2.2.2.1,wS x.2.2.2.2.2.2.2.1,wT x.2.2.2.2.2.2.2.2.1,wK x.2.2.2.2.2.2.2.2.2.1,.c (.sl 8 (ag oz.cells x.2.2.2.2.2.2.2.2.2.2))])])) ()) <|pp (pp (aW @G.jq.K1.eq_1 <|@G.jq.K1.eq_2) ()) <|pp (pp (@dO [] [(101,10),(102,11)] []) ()) <|()
 exact rF
theorem F.vP {n:Nat} : ∀{ay r},G.vP n ay=some r->dY pZ 60 [.agg (wN ay)] (.one (wI r)):=by
 intro ay r h;refine bg K.vP (qx ?_);unfold C.vP;rcases n with _|n<;>simp only[G.vP,reduceCtorEq]at h;have z:=pp (pp @F.aX <|pp @F.jY ()) <|pp () <|pp () <|pp () <|pp () <|pp () <|()
 exact rF
theorem F.vC {n:Nat} : ∀{lQ r},G.vC n lQ=some r->dY pZ 36 [.agg [wS lQ.Name,wI lQ.Version,wI lQ.Node.Kind,wI lQ.Node.Num,wS lQ.Node.Text,wT lQ.Node.Names,wK lQ.Node.Kids]] (.one (wI r)):=by
 intro lQ r h;refine bg K.vC (qx ?_);unfold C.vC;rcases n with _|n<;>simp only[G.vC,reduceCtorEq]at h;have z:=pp (pp @F.vP ()) <|pp () <|pp () <|pp () <|pp () <|pp () <|()
 exact rF
theorem F.lS {n:Nat} : ∀{aA r},G.lS n aA=some r->dY pZ 22 [.agg [.c (.sl 7 (ag bI.cells aA.Items)),wI aA.Clock]] (.one (wI r)):=by
 intro aA r h;refine bg K.lS (qx ?_);unfold C.lS;rcases n with _|n<;>simp only[G.lS,reduceCtorEq]at h;have z:=pp (pp @F.dw <|pp @F.vC ()) <|pp () <|pp (pp (@su (Int×Int) _ (λn x=>G.lS.L1 n aA x.1 x.2) r (λx=>iH.of [eI 3 x.1,(10,.v true (.one (.c (.sl 7 (ag bI.cells aA.Items))))),eI 11 (aA.Items.length:Int),eI 12 x.2] [])) ()) <|pp () <|pp (pp (aW @G.lS.L1.eq_1 <|@G.lS.L1.eq_2) ()) <|pp (pp (@dO [] [] []) ()) <|()
 exact rF
theorem F.jD {n:Nat} : ∀{wu r},G.jD n wu=some r->kV pZ 20 [.one (.ptr 0 0)] [.var [.c (.sl 7 (ag bI.cells wu.now.Items)),wI wu.now.Clock,.c (.sl 7 (ag bI.cells wu.kept.Items)),wI wu.kept.Clock]] (λr1 b1=>r1 = .one (wS r.1)/\b1=[.var [.c (.sl 7 (ag bI.cells r.2.now.Items)),wI r.2.now.Clock,.c (.sl 7 (ag bI.cells r.2.kept.Items)),wI r.2.kept.Clock]]):=by
 intro wu r h;refine lg K.jD (qx ?_);unfold C.jD;rcases n with _|n<;>simp only[G.jD,reduceCtorEq]at h;have z:=pp (pp @F.strings_Join ()) <|pp () <|pp (pp (@su (Int×List aK) _ (λn x=>G.jD.L1 n wu x.1 x.2) r (λx=>iH.of [(3,.v true (.one (.own 102 x.2.length 1))),(10,.v true (.one (.c (.sl 7 (ag bI.cells wu.now.Items))))),eI 11 (wu.now.Items.length:Int),eI 12 x.1] [(0,.var [.c (.sl 7 (ag bI.cells wu.now.Items)),wI wu.now.Clock,.c (.sl 7 (ag bI.cells wu.kept.Items)),wI wu.kept.Clock]),(102,.dat 1 (ag cS x.2))])) ()) <|pp () <|pp (pp (aW @G.jD.L1.eq_1 <|@G.jD.L1.eq_2) ()) <|pp (pp (@dO [] [(0,0)] [102]) <|pp (@dO [] [(0,0),(102,12)] []) ()) <|(pp (@xX [] [(0,0)] []) ())
 exact rF
theorem F.dX {n:Nat} : ∀{wu aU r},G.dX n wu aU=some r->kV pZ 25 [.one (.ptr 0 0),.agg [wI aU.Method,wS aU.Name,wT aU.Want,wT aU.oP,wI aU.Body.Kind,wI aU.Body.Num,wS aU.Body.Text,wT aU.Body.Names,wK aU.Body.Kids,.c (.sl 8 (ag oz.cells aU.Ops))]] [.var [.c (.sl 7 (ag bI.cells wu.now.Items)),wI wu.now.Clock,.c (.sl 7 (ag bI.cells wu.kept.Items)),wI wu.kept.Clock]] (λr1 b1=>r1 = .one (wS r.1)/\b1=[.var [.c (.sl 7 (ag bI.cells r.2.now.Items)),wI r.2.now.Clock,.c (.sl 7 (ag bI.cells r.2.kept.Items)),wI r.2.kept.Clock]]):=by
 intro wu aU r h;refine lg K.dX (qx ?_);unfold C.dX;rcases n with _|n<;>simp only[G.dX,reduceCtorEq]at h;have:=Mk.mk 1;have:=Mk.mk 2;have z:=pp (pp @F.gY <|pp @F.strconv_Itoa <|pp @F.jY ()) <|pp (pp (pp @F.gz (@cG [14,13] [101])) <|pp (pp @F.aS (@cG [14,101] [114])) <|pp (pp @F.gz (@cG [14,114] [115])) <|pp (pp @F.aS (@cG [106,107] [112])) <|pp (pp @F.gz (@cG [106,112] [113])) <|pp (pp @F.jC (@cG [110,111] [])) ()) <|pp () <|pp (pp (@zZ ((StoreT×gI)×aK) _ (λn x=>G.dX.K1 n wu aU x.1 x.2) r (λx=>iH.of [eP 3 104,eP 6 105,eP 7 106] [(0,.var [.c (.sl 7 (ag bI.cells x.1.1.Items)),wI x.1.1.Clock,.c (.sl 7 (ag bI.cells wu.kept.Items)),wI wu.kept.Clock]),(104,.var [wI aU.Method,wS aU.Name,wT aU.Want,wT aU.oP,wI aU.Body.Kind,wI aU.Body.Num,wS aU.Body.Text,wT aU.Body.Names,wK aU.Body.Kids,.c (.sl 8 (ag oz.cells aU.Ops))]),(105,.var [wI x.1.2.Status,wS x.1.2.Tag,wI x.1.2.Version,wI x.1.2.Body.Kind,wI x.1.2.Body.Num,wS x.1.2.Body.Text,wT x.1.2.Body.Names,wK x.1.2.Body.Kids]),(106,.var [.opt 40 106,.wO 107 x.2.length]),(107,.row 5 x.2)])) <|pp (@zZ ((StoreT×gI)×aK) _ (λn x=>G.dX.K2 n wu x.1 x.2) r (λx=>iH.of [eP 7 110] [(0,.var [.c (.sl 7 (ag bI.cells x.1.1.Items)),wI x.1.1.Clock,.c (.sl 7 (ag bI.cells wu.kept.Items)),wI wu.kept.Clock]),(110,.var [.opt 40 110,.wO 111 x.2.length]),(111,.row 5 x.2)])) ()) <|pp (pp (aW @G.dX.K1.eq_1 <|aW @G.dX.K1.eq_2 <|aW @G.dX.K2.eq_1 <|@G.dX.K2.eq_2) ()) <|pp (pp (@dO [] [(0,0),(104,10),(105,12),(106,14),(107,101)] []) <|pp (@dO [] [(0,0),(104,10),(105,12),(106,14),(107,115)] []) <|pp (@dO [] [(0,0),(110,106),(111,113)] []) <|pp (@dO [] [(0,0),(110,106),(111,107)] []) ()) <|pp (pp (@xX [] [(0,0)] []) ()) <|(pp (pp (rfl : @G.dX.K1=_) ()) <|pp (pp (rfl : @G.dX.K2=_) <|pp (rfl : @G.dX.K1=_) ()) ())
 exact VV
theorem F.mP {n:Nat} : ∀{wu xR r},G.mP n wu xR=some r->kV pZ 15 [.one (.ptr 0 0),.one (wS xR)] [.var [.c (.sl 7 (ag bI.cells wu.now.Items)),wI wu.now.Clock,.c (.sl 7 (ag bI.cells wu.kept.Items)),wI wu.kept.Clock]] (λr1 b1=>r1 = .one (wS r.1)/\b1=[.var [.c (.sl 7 (ag bI.cells r.2.now.Items)),wI r.2.now.Clock,.c (.sl 7 (ag bI.cells r.2.kept.Items)),wI r.2.kept.Clock]]):=by
 intro wu xR r h;refine lg K.mP (qx ?_);unfold C.mP;rcases n with _|n<;>simp only[G.mP,reduceCtorEq]at h;have z:=pp (pp @F.strconv_Itoa <|pp @F.lS <|pp @F.eu <|pp @F.jq ()) <|pp (pp (pp @F.jD (@cG [0] [])) <|pp (pp @F.dX (@cG [0] [])) ()) <|pp () <|pp () <|pp () <|pp () <|(pp (@xX [] [(0,0)] []) ())
 exact rF
theorem F.dU {n:Nat} : ∀{rZ r},G.dU n rZ=some r->dY pZ 7 [.one (wT rZ)] (.one (wS r)):=by
 intro rZ r h;refine bg K.dU (qx ?_);unfold C.dU;rcases n with _|n<;>simp only[G.dU,reduceCtorEq]at h;have z:=pp () <|pp (pp (pp @F.mP (@cG [129] [])) <|pp (pp @F.gz (@cG [130,131] [132])) <|pp (pp @F.aS (@cG [130,132] [133])) <|pp (pp @F.jC (@cG [117,118] [])) ()) <|pp (pp (@su (Int×List bI×Int×List bI×Int×aK) _ (λn x=>G.dU.L3 n rZ x.1 x.2.1 x.2.2.1 x.2.2.2.1 x.2.2.2.2.1 x.2.2.2.2.2) r (λx=>iH.of [eP 3 129,eP 4 130,eT 7 rZ,eI 8 (rZ.length:Int),eI 9 x.1] [(129,.var [.c (.sl 7 (ag bI.cells x.2.1)),wI x.2.2.1,.c (.sl 7 (ag bI.cells x.2.2.2.1)),wI x.2.2.2.2.1]),(130,.var [.opt 40 130,.wO 131 x.2.2.2.2.2.length]),(131,.row 5 x.2.2.2.2.2)])) ()) <|pp (pp (@zZ (Int×List bI×Int×List bI×Int×aK) _ (λn x=>G.dU.K2 n x.1 x.2.1 x.2.2.1 x.2.2.2.1 x.2.2.2.2.1 x.2.2.2.2.2) r (λx=>iH.of [eP 3 116,eP 4 117,eT 7 rZ,eI 8 (rZ.length:Int),eI 9 x.1] [(116,.var [.c (.sl 7 (ag bI.cells x.2.1)),wI x.2.2.1,.c (.sl 7 (ag bI.cells x.2.2.2.1)),wI x.2.2.2.2.1]),(117,.var [.opt 40 117,.wO 118 x.2.2.2.2.2.length]),(118,.row 5 x.2.2.2.2.2)])) ()) <|pp (pp (aW @G.dU.K2.eq_1 <|aW @G.dU.K2.eq_2 <|aW @G.dU.L3.eq_1 <|@G.dU.L3.eq_2) ()) <|pp (pp (@dO [] [(129,10),(130,12),(131,11)] []) <|pp (@dO [] [(116,129),(117,130),(118,131)] []) <|pp (@dO [] [(129,129),(130,130),(131,133)] []) ()) <|()
 exact rF
theorem F.jS {n:Nat} : ∀{fV ay r},G.jS n fV ay=some r->kV pZ 12 [.one (.ptr 0 0),.one (wI ay)] [.var [.c (.sl 1 (ag cU fV.b)),wI fV.p]] (λr1 b1=>r1 = .one (wI r.1)/\b1=[.var [.c (.sl 1 (ag cU r.2.b)),wI r.2.p]]):=by
 intro fV ay r h;refine lg K.jS (qx ?_);unfold C.jS;rcases n with _|n<;>simp only[G.jS,reduceCtorEq]at h;have z:=pp () <|pp () <|pp () <|pp () <|pp () <|pp () <|(pp (@xX [] [(0,0)] []) ())
 exact rF
theorem F.nY {n:Nat} : ∀{fV aG r},G.nY n fV aG=some r->kV pZ 10 [.one (.ptr 0 0),.one (wT aG)] [.var [.c (.sl 1 (ag cU fV.b)),wI fV.p]] (λr1 b1=>r1 = .one (wS r.1)/\b1=[.var [.c (.sl 1 (ag cU r.2.b)),wI r.2.p]]):=by
 intro fV aG r h;refine lg K.nY (qx ?_);unfold C.nY;rcases n with _|n<;>simp only[G.nY,reduceCtorEq]at h;have z:=pp () <|pp (pp (pp @F.jS (@cG [0] [])) ()) <|pp () <|pp () <|pp () <|pp () <|(pp (@xX [] [(0,0)] []) ())
 exact rF
theorem F.xm {n:Nat} : ∀{fV aA r},G.xm n fV aA=some r->kV pZ 13 [.one (.ptr 0 0),.one (wS aA)] [.var [.c (.sl 1 (ag cU fV.b)),wI fV.p]] (λr1 b1=>r1 = .one (wS r.1)/\b1=[.var [.c (.sl 1 (ag cU r.2.b)),wI r.2.p]]):=by
 intro fV aA r h;refine lg K.xm (qx ?_);unfold C.xm;rcases n with _|n<;>simp only[G.xm,reduceCtorEq]at h;have z:=pp () <|pp (pp (pp @F.jS (@cG [0] [])) <|pp (pp @F.nY (@cH [0] [])) ()) <|pp () <|pp () <|pp () <|pp () <|(pp (@xX [] [(0,0)] []) ())
 exact rF
theorem F.uo {n:Nat} : ∀{rE r},G.uo n rE=some r->kV pZ 9 [.one (.c (.sl 1 (ag cU rE)))] [] (λr1 b1=>r1 = .one (.ptr 0 0)/\b1=[.var [.c (.sl 1 (ag cU r.b)),wI r.p]]):=by
 intro rE r h;refine lg K.uo (qx ?_);unfold C.uo;rcases n with _|n<;>simp only[G.uo,reduceCtorEq]at h;have z:=pp () <|pp () <|pp () <|pp () <|pp () <|pp () <|(pp (@xX [] [(0,10)] []) ())
 exact rF
theorem F.rC {n:Nat} : ∀{fV aG r},G.rC n fV aG=some r->kV pZ 11 [.one (.ptr 0 0),.one (.c (.sl 1 (ag cI aG)))] [.var [.c (.sl 1 (ag cU fV.b)),wI fV.p]] (λr1 b1=>r1 = .one (wI r.1)/\b1=[.var [.c (.sl 1 (ag cU r.2.b)),wI r.2.p]]):=by
 intro fV aG r h;refine lg K.rC (qx ?_);unfold C.rC;rcases n with _|n<;>simp only[G.rC,reduceCtorEq]at h;have z:=pp () <|pp (pp (pp @F.jS (@cG [0] [])) ()) <|pp () <|pp () <|pp () <|pp () <|(pp (@xX [] [(0,0)] []) ())
 exact rF
theorem F.iC {n:Nat} : ∀{rE r},G.iC n rE=some r->dY pZ 6 [.one (.c (.sl 1 (ag cU rE)))] (.one (wT r)):=by
 intro rE r h;refine bg K.iC (qx ?_);unfold C.iC;rcases n with _|n<;>simp only[G.iC,reduceCtorEq]at h;have z:=pp () <|pp (pp (pp @F.uo (@cG [] [101])) <|pp (pp @F.nY (@cH [101] [])) <|pp (pp @F.rC (@cH [101] [])) <|pp (pp @F.nY (@cH [106] [])) <|pp (pp @F.jS (@cG [106] [])) <|pp (pp @F.xm (@cG [106] [])) ()) <|pp (pp (@su (Int×List Int×Int×List aK) _ (λn x=>G.iC.L1 n x.1 x.2.1 x.2.2.1 x.2.2.2) r (λx=>iH.of [eP 3 106,(4,.v true (.one (.own 107 x.2.2.2.length 1))),eI 5 x.1] [(106,.var [.c (.sl 1 (ag cU x.2.1)),wI x.2.2.1]),(107,.dat 1 (ag cS x.2.2.2))])) ()) <|pp () <|pp (pp (aW @G.iC.L1.eq_1 <|@G.iC.L1.eq_2) ()) <|pp (pp (@dO [] [(106,101),(107,11)] []) <|pp (@dO [] [(106,106),(107,15)] []) ()) <|()
 exact rF
theorem F.fZ {n:Nat} : ∀{ay Qg Mc r},G.fZ n ay Qg Mc=some r->dY pZ 126 [.one (wI ay),.one (wI Qg),.one (wI Mc)] (.one (.c (.lit (.bool r)))):=by
 intro ay Qg Mc r h;refine bg K.fZ (qx ?_);unfold C.fZ;rcases n with _|n<;>simp only[G.fZ,reduceCtorEq]at h;have z:=pp () <|pp () <|pp () <|pp () <|pp () <|pp () <|()
 exact rF
theorem F.lH {n:Nat} : ∀{aA r},G.lH n aA=some r->dY pZ 123 [.one (wS aA)] (.one (.c (.lit (.bool r)))):=by
 intro aA r h;refine bg K.lH (qx ?_);unfold C.lH;rcases n with _|n<;>simp only[G.lH,reduceCtorEq]at h;have z:=pp (pp @F.fZ ()) <|pp () <|pp (pp (@su (Int) _ (λn x=>G.lH.L1 n aA x) r (λx=>iH.of [eS 0 aA,eI 3 x] [])) ()) <|pp () <|pp (pp (aW @G.lH.L1.eq_1 <|@G.lH.L1.eq_2) ()) <|pp (pp (@dO [] [] []) ()) <|()
 exact rF
theorem F.iy {n:Nat} : ∀{aG r},G.iy n aG=some r->dY pZ 79 [.one (wT aG)] (.one (.c (.lit (.bool r)))):=by
 intro aG r h;refine bg K.iy (qx ?_);unfold C.iy;rcases n with _|n<;>simp only[G.iy,reduceCtorEq]at h;have z:=pp (pp @F.lH ()) <|pp () <|pp (pp (@su (Int) _ (λn x=>G.iy.L1 n aG x) r (λx=>iH.of [eT 0 aG,eI 3 x] [])) ()) <|pp () <|pp (pp (aW @G.iy.L1.eq_1 <|@G.iy.L1.eq_2) ()) <|pp (pp (@dO [] [] []) ()) <|()
 exact rF
theorem F.fO {n:Nat} : ∀{aG r},G.fO n aG=some r->dY pZ 78 [.one (wT aG)] (.one (wS r)):=by
 intro aG r h;refine bg K.fO (qx ?_);unfold C.fO;rcases n with _|n<;>simp only[G.fO,reduceCtorEq]at h;have z:=pp (pp @F.iy ()) <|pp () <|pp (pp (@su (aK×Int) _ (λn x=>G.fO.L3 n aG x.1 x.2) r (λx=>iH.of [eT 0 aG,eS 3 x.1,eI 4 x.2] [])) ()) <|pp (pp (@zZ (Int×aK) _ (λn x=>G.fO.K4 n aG x.1 x.2) r (λx=>iH.of [eT 0 aG,eS 3 x.2,eI 4 x.1] [])) ()) <|pp (pp (aW @G.fO.L3.eq_1 <|aW @G.fO.L3.eq_2 <|aW @G.fO.K4.eq_1 <|@G.fO.K4.eq_2) ()) <|pp (pp (@dO [] [] []) ()) <|()
 exact rF
theorem F.Rz : ∀(n:Nat),∀{ay r},G.kz n ay=some r->dY pZ 27 [.one (wI ay)] (.one (wS r)):=by
 intro n
 induction n using dH with|_ n ih=>
 intro ay r h;refine bg K.kz (qx ?_);unfold C.kz;rcases n with _|n<;>simp only[G.kz,reduceCtorEq]at h;have z:=pp (pp ih ()) <|pp () <|pp () <|pp () <|pp () <|pp () <|()
 exact rF
theorem F.kz {n:Nat} : ∀{ay:Int} {r:aK},G.kz n ay=some r->dY pZ 27 [.one (wI ay)] (.one (wS r)):=F.Rz n
theorem F.nP {n:Nat} : ∀{aA r},G.nP n aA=some r->dY pZ 77 [.one (wS aA)] (.one (wS r)):=by
 intro aA r h;refine bg K.nP (qx ?_);unfold C.nP;rcases n with _|n<;>simp only[G.nP,reduceCtorEq]at h;have z:=pp () <|pp () <|pp (pp (@su (aK×Int) _ (λn x=>G.nP.L1 n aA x.1 x.2) r (λx=>iH.of [eS 0 aA,eS 3 x.1,eI 4 x.2] [])) ()) <|pp () <|pp (pp (aW @G.nP.L1.eq_1 <|@G.nP.L1.eq_2) ()) <|pp (pp (@dO [] [] []) ()) <|()
 exact rF
theorem F.SK : ∀(n:Nat),∀{ay r},G.eX n ay=some r->dY pZ 47 [.agg (wN ay)] (.one (wS r)):=by
 intro n
 induction n using dH with|_ n ih=>
 intro ay r h;refine bg K.eX (qx ?_);unfold C.eX;rcases n with _|n<;>simp only[G.eX,reduceCtorEq]at h;have:=Mk.mk 1;have:=Mk.mk 2;have z:=pp (pp ih <|pp @F.kz <|pp @F.nP ()) <|pp () <|pp (pp (@su (aK×Int) _ (λn x=>G.eX.L5 n ay x.1 x.2) r (λx=>iH.of [eP 1 107,eS 3 x.1,eI 4 x.2] [(107,.var (wN ay))])) ()) <|pp (pp (@zZ (Int×aK) _ (λn x=>G.eX.K6 n ay x.1 x.2) r (λx=>iH.of [eP 1 108,eS 3 x.2,eI 4 x.1] [(108,.var (wN ay))])) <|pp (@zZ (Int×aK) _ (λn x=>G.eX.K7 n ay x.1 x.2) r (λx=>iH.of [eP 1 109,eS 3 x.2,eI 4 x.1] [(109,.var (wN ay))])) ()) <|pp (pp (aW @G.eX.L5.eq_1 <|aW @G.eX.L5.eq_2 <|aW @G.eX.K6.eq_1 <|aW @G.eX.K6.eq_2 <|aW @G.eX.K7.eq_1 <|@G.eX.K7.eq_2) ()) <|pp (pp (@dO [] [(107,10)] []) <|pp (@dO [] [(108,107)] []) <|pp (@dO [] [(109,108)] []) <|pp (@dO [] [(107,109)] []) ()) <|pp () <|(pp (pp (rfl : @G.eX.K6=_) <|pp (rfl : @G.eX.L5=_) <|pp (rfl : @G.eX.K7=_) ()) <|pp (pp (rfl : @G.eX.K7=_) <|pp (rfl : @G.eX.K6=_) <|pp (rfl : @G.eX.L5=_) ()) ())
 exact VV
theorem F.eX {n:Nat} : ∀{ay:aj} {r:aK},G.eX n ay=some r->dY pZ 47 [.agg (wN ay)] (.one (wS r)):=F.SK n
theorem F.PL : ∀(n:Nat),∀{ay r},G.aY n ay=some r->dY pZ 48 [.agg (wN ay)] (.agg (wN r)):=by
 intro n
 induction n using dH with|_ n ih=>
 intro ay r h;refine bg K.aY (qx ?_);unfold C.aY;rcases n with _|n<;>simp only[G.aY,reduceCtorEq]at h;have z:=pp (pp ih ()) <|pp () <|pp (pp (@su (Int×List aj) _ (λn x=>G.aY.L1 n ay x.1 x.2) r (λx=>iH.of [eP 1 107,eP 2 108,(3,.v true (.one (.own 109 x.2.length 5))),eI 4 x.1] [(107,.var (wN ay)),(108,.var zN),(109,.dat 5 (ag aj.cells x.2))])) ()) <|pp () <|pp (pp (aW @G.aY.L1.eq_1 <|@G.aY.L1.eq_2) ()) <|pp (pp (@dO [] [(107,10),(108,11),(109,12)] []) <|pp (@dO [] [(107,107),(108,108),(109,14)] []) ()) <|()
 exact rF
theorem F.aY {n:Nat} : ∀{ay:aj} {r:aj},G.aY n ay=some r->dY pZ 48 [.agg (wN ay)] (.agg (wN r)):=F.PL n
theorem F.Je {n:Nat} : ∀{ay r},G.aY n ay=some r->kV pZ 48 [.agg (wN ay)] [] (λr1 b1=>r1 = .agg [wI r.Kind,wI r.Num,wS r.Text,.own 0 r.Names.length 1,.own 1 r.Kids.length 5]/\b1=[.dat 1 (ag cS r.Names),.dat 5 (ag aj.cells r.Kids)]):=by
 intro ay r h;refine lg K.aY (qx ?_);unfold C.aY;rcases n with _|n<;>simp only[G.aY,reduceCtorEq]at h;have z:=pp (pp @F.aY ()) <|pp () <|pp (pp (@su (Int×List aj) _ (λn x=>G.aY.L1 n ay x.1 x.2) r (λx=>iH.of [eP 1 107,eP 2 108,(3,.v true (.one (.own 109 x.2.length 5))),eI 4 x.1] [(107,.var (wN ay)),(108,.var zN),(109,.dat 5 (ag aj.cells x.2))])) ()) <|pp () <|pp (pp (aW @G.aY.L1.eq_1 <|@G.aY.L1.eq_2) ()) <|pp (pp (@dO [] [(107,10),(108,11),(109,12)] []) <|pp (@dO [] [(107,107),(108,108),(109,14)] []) ()) <|(pp (@xX [] [(0,16),(1,109)] []) ())
 exact rF
theorem F.uO {n:Nat} : ∀{r},G.uO n=some r->dY pZ 128 [] (.one (wT r)):=by
 intro r h;refine bg K.uO (qx ?_);unfold C.uO;rcases n with _|n<;>simp only[G.uO,reduceCtorEq]at h;have z:=pp () <|pp () <|pp () <|pp () <|pp () <|pp () <|()
 exact rF
theorem F.xM {n:Nat} : ∀{aA r},G.xM n aA=some r->dY pZ 137 [.one (wS aA)] (.agg (wN r)):=by
 intro aA r h;refine bg K.xM (qx ?_);unfold C.xM;rcases n with _|n<;>simp only[G.xM,reduceCtorEq]at h;have z:=pp () <|pp () <|pp () <|pp () <|pp () <|pp () <|()
 exact rF
theorem F.rq {n:Nat} : ∀{aB r},G.rq n aB=some r->dY pZ 136 [.one (wT aB)] (.agg (wN r)):=by
 intro aB r h;refine bg K.rq (qx ?_);unfold C.rq;rcases n with _|n<;>simp only[G.rq,reduceCtorEq]at h;have z:=pp (pp @F.xM ()) <|pp () <|pp (pp (@su (Int×List aj) _ (λn x=>G.rq.L1 n aB x.1 x.2) r (λx=>iH.of [eT 0 aB,eP 2 105,(3,.v true (.one (.own 106 x.2.length 5))),eI 4 x.1] [(105,.var zN),(106,.dat 5 (ag aj.cells x.2))])) ()) <|pp () <|pp (pp (aW @G.rq.L1.eq_1 <|@G.rq.L1.eq_2) ()) <|pp (pp (@dO [] [(105,10),(106,11)] []) <|pp (@dO [] [(105,105),(106,13)] []) ()) <|()
 exact rF
theorem F.qJ {n:Nat} : ∀{kL r},G.qJ n kL=some r->dY pZ 85 [.agg [wI kL.Kind,wT kL.Path,wT kL.From,wI kL.Value.Kind,wI kL.Value.Num,wS kL.Value.Text,wT kL.Value.Names,wK kL.Value.Kids]] (.agg (wN r)):=by
 intro kL r h;refine bg K.qJ (qx ?_);unfold C.qJ;rcases n with _|n<;>simp only[G.qJ,reduceCtorEq]at h;have z:=pp (pp @F.rq <|pp @F.uO <|pp @F.xM <|pp @F.aY ()) <|pp () <|pp () <|pp () <|pp () <|pp () <|()
 exact rF
theorem F.wQ {n:Nat} : ∀{r},G.wQ n=some r->dY pZ 50 [] (.one (wT r)):=by
 intro r h;refine bg K.wQ (qx ?_);unfold C.wQ;rcases n with _|n<;>simp only[G.wQ,reduceCtorEq]at h;have z:=pp () <|pp () <|pp () <|pp () <|pp () <|pp () <|()
 exact rF
theorem F.jE {n:Nat} : ∀{aU r},G.jE n aU=some r->dY pZ 86 [.agg [wI aU.Method,wS aU.Name,wT aU.Want,wT aU.oP,wI aU.Body.Kind,wI aU.Body.Num,wS aU.Body.Text,wT aU.Body.Names,wK aU.Body.Kids,.c (.sl 8 (ag oz.cells aU.Ops))]] (.one (wS r)):=by
 intro aU r h;refine bg K.jE (qx ?_);unfold C.jE;rcases n with _|n<;>simp only[G.jE,reduceCtorEq]at h;have z:=pp (pp @F.wQ <|pp @F.fO <|pp @F.qJ <|pp @F.eX ()) <|pp () <|pp (pp (@su (aK×Int) _ (λn x=>G.jE.L1 n aU x.1 x.2) r (λx=>iH.of [eP 1 103,eS 3 x.1,eI 4 x.2] [(103,.var [wI aU.Method,wS aU.Name,wT aU.Want,wT aU.oP,wI aU.Body.Kind,wI aU.Body.Num,wS aU.Body.Text,wT aU.Body.Names,wK aU.Body.Kids,.c (.sl 8 (ag oz.cells aU.Ops))])])) ()) <|pp () <|pp (pp (aW @G.jE.L1.eq_1 <|@G.jE.L1.eq_2) ()) <|pp (pp (@dO [] [(103,10)] []) <|pp (@dO [] [(103,103)] []) ()) <|()
 exact rF
theorem F.Vf : ∀(n:Nat),∀{ay r},G.nO n ay=some r->dY pZ 133 [.agg (wN ay)] (.one (wI r)):=by
 intro n
 induction n using dH with|_ n ih=>
 intro ay r h;refine bg K.nO (qx ?_);unfold C.nO;rcases n with _|n<;>simp only[G.nO,reduceCtorEq]at h;have z:=pp (pp ih ()) <|pp () <|pp (pp (@su (Int×Int) _ (λn x=>G.nO.L1 n ay x.1 x.2) r (λx=>iH.of [eP 1 103,eI 3 x.1,eI 4 x.2] [(103,.var (wN ay))])) ()) <|pp () <|pp (pp (aW @G.nO.L1.eq_1 <|@G.nO.L1.eq_2) ()) <|pp (pp (@dO [] [(103,10)] []) <|pp (@dO [] [(103,103)] []) ()) <|()
 exact rF
theorem F.nO {n:Nat} : ∀{ay:aj} {r:Int},G.nO n ay=some r->dY pZ 133 [.agg (wN ay)] (.one (wI r)):=F.Vf n
theorem F.jd {n:Nat} : ∀{aA r},G.jd n aA=some r->dY pZ 176 [.one (wS aA)] (.one (.c (.lit (.bool r)))):=by
 intro aA r h;refine bg K.jd (qx ?_);unfold C.jd;rcases n with _|n<;>simp only[G.jd,reduceCtorEq]at h;have z:=pp (pp @F.fZ ()) <|pp () <|pp (pp (@su (Int) _ (λn x=>G.jd.L1 n aA x) r (λx=>iH.of [eS 0 aA,eI 3 x] [])) ()) <|pp () <|pp (pp (aW @G.jd.L1.eq_1 <|@G.jd.L1.eq_2) ()) <|pp (pp (@dO [] [] []) ()) <|()
 exact rF
theorem F.oH {n:Nat} : ∀{aG r},G.oH n aG=some r->dY pZ 178 [.one (wT aG)] (.one (.c (.lit (.bool r)))):=by
 intro aG r h;refine bg K.oH (qx ?_);unfold C.oH;rcases n with _|n<;>simp only[G.oH,reduceCtorEq]at h;have z:=pp (pp @F.jd ()) <|pp () <|pp (pp (@su (Int) _ (λn x=>G.oH.L1 n aG x) r (λx=>iH.of [eT 0 aG,eI 3 x] [])) ()) <|pp () <|pp (pp (aW @G.oH.L1.eq_1 <|@G.oH.L1.eq_2) ()) <|pp (pp (@dO [] [] []) ()) <|()
 exact rF
theorem F.SH : ∀(n:Nat),(∀{ay iF r},G.rX n ay iF=some r->dY pZ 177 [.agg (wN ay),.one (wI iF)] (.one (.c (.lit (.bool r)))))/\(∀{ay iF r},G.jA n ay iF=some r->dY pZ 132 [.agg (wN ay),.one (wI iF)] (.one (.c (.lit (.bool r))))):=by
 intro n
 induction n using dH with|_ n ih=>
 refine⟨?_,?_⟩
 ·intro ay iF r h;refine bg K.rX (qx ?_);unfold C.rX;rcases n with _|n<;>simp only[G.rX,reduceCtorEq]at h;have z:=pp (pp ((ihR ih)) ()) <|pp () <|pp (pp (@su (Int) _ (λn x=>G.rX.L1 n ay iF x) r (λx=>iH.of [eI 1 iF,eP 2 103,eI 5 x] [(103,.var (wN ay))])) ()) <|pp () <|pp (pp (aW @G.rX.L1.eq_1 <|@G.rX.L1.eq_2) ()) <|pp (pp (@dO [] [(103,10)] []) <|pp (@dO [] [(103,103)] []) ()) <|()
  exact rF
 ·intro ay iF r h;refine bg K.jA (qx ?_);unfold C.jA;rcases n with _|n<;>simp only[G.jA,reduceCtorEq]at h;have z:=pp (pp ((ihL ih)) <|pp @F.fZ <|pp @F.jd <|pp @F.oH ()) <|pp () <|pp () <|pp (pp (@zZ (Unit) _ (λn x=>G.jA.K1 n ay iF) r (λx=>iH.of [eI 1 iF,eP 2 101,(54,.v true (.one (.c (.lit (.bool false)))))] [(101,.var (wN ay))])) ()) <|pp (pp (aW @G.jA.K1.eq_1 <|@G.jA.K1.eq_2) ()) <|pp (pp (@dO [] [(101,10)] []) ()) <|()
  exact rF
theorem F.jA {n:Nat} : ∀{ay:aj} {iF:Int} {r:Bool},G.jA n ay iF=some r->dY pZ 132 [.agg (wN ay),.one (wI iF)] (.one (.c (.lit (.bool r)))):=(F.SH n).2
theorem F.fB {n:Nat} : ∀{ay r},G.fB n ay=some r->dY pZ 83 [.agg (wN ay)] (.one (.c (.lit (.bool r)))):=by
 intro ay r h;refine bg K.fB (qx ?_);unfold C.fB;rcases n with _|n<;>simp only[G.fB,reduceCtorEq]at h;have z:=pp (pp @F.jA <|pp @F.nO ()) <|pp () <|pp () <|pp () <|pp () <|pp () <|()
 exact rF
theorem F.jc {n:Nat} : ∀{aA r},G.jc n aA=some r->dY pZ 134 [.one (wS aA)] (.one (.c (.lit (.bool r)))):=by
 intro aA r h;refine bg K.jc (qx ?_);unfold C.jc;rcases n with _|n<;>simp only[G.jc,reduceCtorEq]at h;have z:=pp (pp @F.fZ ()) <|pp () <|pp (pp (@su (Int) _ (λn x=>G.jc.L1 n aA x) r (λx=>iH.of [eS 0 aA,eI 3 x] [])) ()) <|pp () <|pp (pp (aW @G.jc.L1.eq_1 <|@G.jc.L1.eq_2) ()) <|pp (pp (@dO [] [] []) ()) <|()
 exact rF
theorem F.jB {n:Nat} : ∀{aB r},G.jB n aB=some r->dY pZ 174 [.one (wT aB)] (.one (.c (.lit (.bool r)))):=by
 intro aB r h;refine bg K.jB (qx ?_);unfold C.jB;rcases n with _|n<;>simp only[G.jB,reduceCtorEq]at h;have z:=pp (pp @F.jd ()) <|pp () <|pp (pp (@su (Int) _ (λn x=>G.jB.L1 n aB x) r (λx=>iH.of [eT 0 aB,eI 3 x] [])) ()) <|pp () <|pp (pp (aW @G.jB.L1.eq_1 <|@G.jB.L1.eq_2) ()) <|pp (pp (@dO [] [] []) ()) <|()
 exact rF
theorem F.oh {n:Nat} : ∀{kL r},G.oh n kL=some r->dY pZ 130 [.agg [wI kL.Kind,wT kL.Path,wT kL.From,wI kL.Value.Kind,wI kL.Value.Num,wS kL.Value.Text,wT kL.Value.Names,wK kL.Value.Kids]] (.one (.c (.lit (.bool r)))):=by
 intro kL r h;refine bg K.oh (qx ?_);unfold C.oh;rcases n with _|n<;>simp only[G.oh,reduceCtorEq]at h;have z:=pp (pp @F.fZ <|pp @F.jB <|pp @F.fB ()) <|pp () <|pp () <|pp () <|pp () <|pp () <|()
 exact rF
theorem F.gG {n:Nat} : ∀{aG r},G.gG n aG=some r->dY pZ 135 [.one (.c (.sl 8 (ag oz.cells aG)))] (.one (.c (.lit (.bool r)))):=by
 intro aG r h;refine bg K.gG (qx ?_);unfold C.gG;rcases n with _|n<;>simp only[G.gG,reduceCtorEq]at h;have z:=pp (pp @F.oh ()) <|pp () <|pp (pp (@su (Int) _ (λn x=>G.gG.L1 n aG x) r (λx=>iH.of [(0,.v true (.one (.c (.sl 8 (ag oz.cells aG))))),eI 3 x] [])) ()) <|pp () <|pp (pp (aW @G.gG.L1.eq_1 <|@G.gG.L1.eq_2) ()) <|pp (pp (@dO [] [] []) ()) <|()
 exact rF
theorem F.kY {n:Nat} : ∀{aU r},G.kY n aU=some r->dY pZ 84 [.agg [wI aU.Method,wS aU.Name,wT aU.Want,wT aU.oP,wI aU.Body.Kind,wI aU.Body.Num,wS aU.Body.Text,wT aU.Body.Names,wK aU.Body.Kids,.c (.sl 8 (ag oz.cells aU.Ops))]] (.one (.c (.lit (.bool r)))):=by
 intro aU r h;refine bg K.kY (qx ?_);unfold C.kY;rcases n with _|n<;>simp only[G.kY,reduceCtorEq]at h;have z:=pp (pp @F.fZ <|pp @F.jc <|pp @F.iy <|pp @F.fB <|pp @F.gG ()) <|pp () <|pp () <|pp () <|pp () <|pp () <|()
 exact rF
theorem F.dG {n:Nat} : ∀{aU r},G.dG n aU=some r->dY pZ 54 [.agg [wI aU.Method,wS aU.Name,wT aU.Want,wT aU.oP,wI aU.Body.Kind,wI aU.Body.Num,wS aU.Body.Text,wT aU.Body.Names,wK aU.Body.Kids,.c (.sl 8 (ag oz.cells aU.Ops))]] (.one (wS r)):=by
 intro aU r h;refine bg K.dG (qx ?_);unfold C.dG;rcases n with _|n<;>simp only[G.dG,reduceCtorEq]at h;have z:=pp (pp @F.kY <|pp @F.qJ <|pp @F.fB <|pp @F.jE ()) <|pp () <|pp (pp (@su (Int) _ (λn x=>G.dG.L2 n aU x) r (λx=>iH.of [eP 1 104,eI 3 x] [(104,.var [wI aU.Method,wS aU.Name,wT aU.Want,wT aU.oP,wI aU.Body.Kind,wI aU.Body.Num,wS aU.Body.Text,wT aU.Body.Names,wK aU.Body.Kids,.c (.sl 8 (ag oz.cells aU.Ops))])])) ()) <|pp (pp (@zZ (Unit) _ (λn x=>G.dG.K1 n aU) r (λx=>iH.of [eP 1 101,(33,.v true (.one (.c (.lit (.bool false)))))] [(101,.var [wI aU.Method,wS aU.Name,wT aU.Want,wT aU.oP,wI aU.Body.Kind,wI aU.Body.Num,wS aU.Body.Text,wT aU.Body.Names,wK aU.Body.Kids,.c (.sl 8 (ag oz.cells aU.Ops))])])) ()) <|pp (pp (aW @G.dG.K1.eq_1 <|aW @G.dG.K1.eq_2 <|aW @G.dG.L2.eq_1 <|@G.dG.L2.eq_2) ()) <|pp (pp (@dO [] [(101,10)] []) <|pp (@dO [] [(104,101)] []) <|pp (@dO [] [(104,104)] []) ()) <|()
 exact rF
theorem F.gB {n:Nat} : ∀{fV r},G.gB n fV=some r->kV pZ 82 [.one (.ptr 0 0)] [.var [wS fV.text,wI fV.at_,.c (.lit (.bool fV.bad))]] (λr1 b1=>r1 = .one (.c (.lit (.int .u8 r.1)))/\b1=[.var [wS r.2.text,wI r.2.at_,.c (.lit (.bool r.2.bad))]]):=by
 intro fV r h;refine lg K.gB (qx ?_);unfold C.gB;rcases n with _|n<;>simp only[G.gB,reduceCtorEq]at h;have z:=pp () <|pp () <|pp () <|pp () <|pp () <|pp () <|(pp (@xX [] [(0,0)] []) ())
 exact rF
theorem F.kG {n:Nat} : ∀{fV Hw r},G.kG n fV Hw=some r->kV pZ 173 [.one (.ptr 0 0),.one (.c (.lit (.int .u8 Hw)))] [.var [wS fV.text,wI fV.at_,.c (.lit (.bool fV.bad))]] (λr1 b1=>r1 = .xg []/\b1=[.var [wS r.text,wI r.at_,.c (.lit (.bool r.bad))]]):=by
 intro fV Hw r h;refine lg K.kG (qx ?_);unfold C.kG;rcases n with _|n<;>simp only[G.kG,reduceCtorEq]at h;have z:=pp () <|pp (pp (pp @F.gB (@cG [0] [])) ()) <|pp () <|pp () <|pp () <|pp () <|(pp (@xX [] [(0,0)] []) ())
 exact rF
theorem F.fC {n:Nat} : ∀{fV r},G.fC n fV=some r->kV pZ 124 [.one (.ptr 0 0)] [.var [wS fV.text,wI fV.at_,.c (.lit (.bool fV.bad))]] (λr1 b1=>r1 = .one (wS r.1)/\b1=[.var [wS r.2.text,wI r.2.at_,.c (.lit (.bool r.2.bad))]]):=by
 intro fV r h;refine lg K.fC (qx ?_);unfold C.fC;rcases n with _|n<;>simp only[G.fC,reduceCtorEq]at h;have z:=pp () <|pp (pp (pp @F.kG (@cG [0] [])) <|pp (pp @F.gB (@cG [0] [])) ()) <|pp (pp (@su (aK×Int×Bool×List Int) _ (λn x=>G.fC.L3 n x.1 x.2.1 x.2.2.1 x.2.2.2) r (λx=>iH.of [eP 0 0,(3,.v true (.one (.own 105 x.2.2.2.length 1)))] [(0,.var [wS x.1,wI x.2.1,.c (.lit (.bool x.2.2.1))]),(105,.dat 1 (ag cU x.2.2.2))])) ()) <|pp (pp (@zZ (List Int×aK×Int×Bool) _ (λn x=>G.fC.K4 n x.1 x.2.1 x.2.2.1 x.2.2.2) r (λx=>iH.of [eP 0 0,(3,.v true (.one (.own 106 x.1.length 1)))] [(0,.var [wS x.2.1,wI x.2.2.1,.c (.lit (.bool x.2.2.2))]),(106,.dat 1 (ag cU x.1))])) ()) <|pp (pp (aW @G.fC.L3.eq_1 <|aW @G.fC.L3.eq_2 <|aW @G.fC.K4.eq_1 <|@G.fC.K4.eq_2) ()) <|pp (pp (@dO [] [(0,0),(105,10)] []) <|pp (@dO [] [(0,0),(106,105)] []) <|pp (@dO [] [(0,0),(105,12)] []) ()) <|(pp (@xX [] [(0,0)] []) ())
 exact rF
theorem F.fG {n:Nat} : ∀{fV r},G.fG n fV=some r->kV pZ 127 [.one (.ptr 0 0)] [.var [wS fV.text,wI fV.at_,.c (.lit (.bool fV.bad))]] (λr1 b1=>r1 = .one (wI r.1)/\b1=[.var [wS r.2.text,wI r.2.at_,.c (.lit (.bool r.2.bad))]]):=by
 intro fV r h;refine lg K.fG (qx ?_);unfold C.fG;rcases n with _|n<;>simp only[G.fG,reduceCtorEq]at h;have z:=pp (pp @F.fZ ()) <|pp (pp (pp @F.gB (@cG [0] [])) ()) <|pp (pp (@su (Int×Int×Int×aK×Int×Bool) _ (λn x=>G.fG.L2 n x.1 x.2.1 x.2.2.1 x.2.2.2.1 x.2.2.2.2.1 x.2.2.2.2.2) r (λx=>iH.of [eP 0 0,eI 3 x.2.1,eI 4 x.1,eI 5 x.2.2.1] [(0,.var [wS x.2.2.2.1,wI x.2.2.2.2.1,.c (.lit (.bool x.2.2.2.2.2))])])) ()) <|pp (pp (@zZ (Int×aK×Int×Bool) _ (λn x=>G.fG.K1 n x.1 x.2.1 x.2.2.1 x.2.2.2) r (λx=>iH.of [eP 0 0,eI 3 0,eI 4 x.1] [(0,.var [wS x.2.1,wI x.2.2.1,.c (.lit (.bool x.2.2.2))])])) ()) <|pp (pp (aW @G.fG.K1.eq_1 <|aW @G.fG.K1.eq_2 <|aW @G.fG.L2.eq_1 <|@G.fG.L2.eq_2) ()) <|pp (pp (@dO [] [(0,0)] []) ()) <|(pp (@xX [] [(0,0)] []) ())
 exact rF
theorem F.Ip : ∀(n:Nat),(∀{fV:dM} {ay:aj} {zD:Int} {iF:Int} {r:aj×dM},G.bT n fV ay zD iF=some r->kV pZ 125 [.one (.ptr 0 0),.agg [.c (.lit (.int .i64 ay.Kind)),.c (.lit (.int .i64 ay.Num)),.c (.str ay.Text),.c (.sl 1 (ag cS ay.Names)),.c (.sl 5 (ag aj.cells ay.Kids))],.one (.c (.lit (.int .u8 zD))),.one (.c (.lit (.int .i64 iF)))] [.var [.c (.str fV.text),.c (.lit (.int .i64 fV.at_)),.c (.lit (.bool fV.bad))]] (λr1 b1=>r1 = .agg [.c (.lit (.int .i64 r.1.Kind)),.c (.lit (.int .i64 r.1.Num)),.c (.str r.1.Text),.c (.sl 1 (ag cS r.1.Names)),.c (.sl 5 (ag aj.cells r.1.Kids))]/\b1=[.var [.c (.str r.2.text),.c (.lit (.int .i64 r.2.at_)),.c (.lit (.bool r.2.bad))]]))/\(∀{fV:dM} {iF:Int} {r:aj×dM},G.kF n fV iF=some r->kV pZ 80 [.one (.ptr 0 0),.one (.c (.lit (.int .i64 iF)))] [.var [.c (.str fV.text),.c (.lit (.int .i64 fV.at_)),.c (.lit (.bool fV.bad))]] (λr1 b1=>r1 = .agg [.c (.lit (.int .i64 r.1.Kind)),.c (.lit (.int .i64 r.1.Num)),.c (.str r.1.Text),.c (.sl 1 (ag cS r.1.Names)),.c (.sl 5 (ag aj.cells r.1.Kids))]/\b1=[.var [.c (.str r.2.text),.c (.lit (.int .i64 r.2.at_)),.c (.lit (.bool r.2.bad))]])):=by
 intro n
 induction n using dH with|_ n ih=>
 refine⟨?_,?_⟩
 ·intro fV ay zD iF r h;refine lg K.bT (qx ?_);unfold C.bT;rcases n with _|n<;>simp only[G.bT,reduceCtorEq]at h;have:=Mk.mk 1;have:=Mk.mk 2;have z:=pp () <|pp (pp (pp (ihR ih) (@cG [0] [])) <|pp (pp @F.kG (@cG [0] [])) <|pp (pp @F.gB (@cG [0] [])) <|pp (pp @F.fC (@cG [0] [])) ()) <|pp (pp (@su (aK×Int×Bool×List aK×List aj) _ (λn x=>G.bT.L5 n ay zD iF x.1 x.2.1 x.2.2.1 x.2.2.2.1 x.2.2.2.2) r (λx=>iH.of [(0,.v true (.one (.ptr 0 0))),(2,.v true (.one (.c (.lit (.int .u8 zD))))),(3,.v true (.one (.c (.lit (.int .i64 iF))))),(5,.v true (.one (.ptr 125 0))),(8,.v true (.one (.ptr 126 0))),(9,.v true (.one (.own 127 x.2.2.2.1.length 1))),(10,.v true (.one (.own 128 x.2.2.2.2.length 5)))] [(0,.var [.c (.str x.1),.c (.lit (.int .i64 x.2.1)),.c (.lit (.bool x.2.2.1))]),(125,.var [.c (.lit (.int .i64 ay.Kind)),.c (.lit (.int .i64 ay.Num)),.c (.str ay.Text),.c (.sl 1 (ag cS ay.Names)),.c (.sl 5 (ag aj.cells ay.Kids))]),(126,.var [.c (.lit (.int .i64 0)),.c (.lit (.int .i64 0)),.c (.str []),.jI 1,.jI 5]),(127,.dat 1 (ag cS x.2.2.2.1)),(128,.dat 5 (ag aj.cells x.2.2.2.2))])) ()) <|pp (pp (@zZ (List aK×List aj×aK×Int×Bool) _ (λn x=>G.bT.K6 n ay zD iF x.1 x.2.1 x.2.2.1 x.2.2.2.1 x.2.2.2.2) r (λx=>iH.of [(0,.v true (.one (.ptr 0 0))),(2,.v true (.one (.c (.lit (.int .u8 zD))))),(3,.v true (.one (.c (.lit (.int .i64 iF))))),(5,.v true (.one (.ptr 129 0))),(8,.v true (.one (.ptr 130 0))),(9,.v true (.one (.own 131 x.1.length 1))),(10,.v true (.one (.own 132 x.2.1.length 5)))] [(0,.var [.c (.str x.2.2.1),.c (.lit (.int .i64 x.2.2.2.1)),.c (.lit (.bool x.2.2.2.2))]),(129,.var [.c (.lit (.int .i64 ay.Kind)),.c (.lit (.int .i64 ay.Num)),.c (.str ay.Text),.c (.sl 1 (ag cS ay.Names)),.c (.sl 5 (ag aj.cells ay.Kids))]),(130,.var [.c (.lit (.int .i64 0)),.c (.lit (.int .i64 0)),.c (.str []),.jI 1,.jI 5]),(131,.dat 1 (ag cS x.1)),(132,.dat 5 (ag aj.cells x.2.1))])) <|pp (@zZ (List aj×aK×Int×Bool×List aK) _ (λn x=>G.bT.K7 n ay zD iF x.1 x.2.1 x.2.2.1 x.2.2.2.1 x.2.2.2.2) r (λx=>iH.of [(0,.v true (.one (.ptr 0 0))),(2,.v true (.one (.c (.lit (.int .u8 zD))))),(3,.v true (.one (.c (.lit (.int .i64 iF))))),(5,.v true (.one (.ptr 133 0))),(8,.v true (.one (.ptr 134 0))),(9,.v true (.one (.own 135 x.2.2.2.2.length 1))),(10,.v true (.one (.own 136 x.1.length 5)))] [(0,.var [.c (.str x.2.1),.c (.lit (.int .i64 x.2.2.1)),.c (.lit (.bool x.2.2.2.1))]),(133,.var [.c (.lit (.int .i64 ay.Kind)),.c (.lit (.int .i64 ay.Num)),.c (.str ay.Text),.c (.sl 1 (ag cS ay.Names)),.c (.sl 5 (ag aj.cells ay.Kids))]),(134,.var [.c (.lit (.int .i64 0)),.c (.lit (.int .i64 0)),.c (.str []),.jI 1,.jI 5]),(135,.dat 1 (ag cS x.2.2.2.2)),(136,.dat 5 (ag aj.cells x.1))])) ()) <|pp (pp (aW @G.bT.L5.eq_1 <|aW @G.bT.L5.eq_2 <|aW @G.bT.K6.eq_1 <|aW @G.bT.K6.eq_2 <|aW @G.bT.K7.eq_1 <|@G.bT.K7.eq_2) ()) <|pp (pp (@dO [] [(0,0),(125,10),(126,11),(127,12),(128,13)] []) <|pp (@dO [] [(0,0),(129,125),(130,126),(131,127),(132,128)] []) <|pp (@dO [] [(0,0),(133,129),(134,130),(135,15),(136,132)] []) <|pp (@dO [] [(0,0),(133,129),(134,130),(135,131),(136,132)] []) <|pp (@dO [] [(0,0),(125,133),(126,134),(127,135),(128,17)] []) ()) <|pp (pp (@xX [127,128] [(0,0)] []) ()) <|(pp (pp (rfl : @G.bT.K6=_) <|pp (rfl : @G.bT.L5=_) <|pp (rfl : @G.bT.K7=_) ()) <|pp (pp (rfl : @G.bT.K7=_) <|pp (rfl : @G.bT.K6=_) <|pp (rfl : @G.bT.L5=_) ()) ())
  exact VV
 ·intro fV iF r h;refine lg K.kF (qx ?_);unfold C.kF;rcases n with _|n<;>simp only[G.kF,reduceCtorEq]at h;have z:=pp (pp @F.fZ ()) <|pp (pp (pp (ihL ih) (@cH [0] [])) <|pp (pp @F.gB (@cG [0] [])) <|pp (pp @F.fC (@cG [0] [])) <|pp (pp @F.fG (@cG [0] [])) ()) <|pp () <|pp () <|pp () <|pp () <|(pp (@xX [] [(0,0)] []) ())
  exact rF
theorem F.kF {n:Nat} : ∀{fV:dM} {iF:Int} {r:aj×dM},G.kF n fV iF=some r->kV pZ 80 [.one (.ptr 0 0),.one (wI iF)] [.var [wS fV.text,wI fV.at_,.c (.lit (.bool fV.bad))]] (λr1 b1=>r1 = .agg (wN r.1)/\b1=[.var [wS r.2.text,wI r.2.at_,.c (.lit (.bool r.2.bad))]]):=(F.Ip n).2
theorem F.rO {n:Nat} : ∀{aA r},G.rO n aA=some r->dY pZ 53 [.one (wS aA)] (.xg [(true,(wN r.1)),(false,[.c (.lit (.bool r.2))])]):=by
 intro aA r h;refine bg K.rO (qx ?_);unfold C.rO;rcases n with _|n<;>simp only[G.rO,reduceCtorEq]at h;have z:=pp (pp @F.fB <|pp @F.eX ()) <|pp (pp (pp @F.kF (@cG [11] [])) ()) <|pp () <|pp () <|pp () <|pp () <|()
 exact rF
theorem F.ji {n:Nat} : ∀{aA r},G.ji n aA=some r->dY pZ 51 [.one (wS aA)] (.xg [(false,[wT r.1]),(false,[.c (.lit (.bool r.2))])]):=by
 intro aA r h;refine bg K.ji (qx ?_);unfold C.ji;rcases n with _|n<;>simp only[G.ji,reduceCtorEq]at h;have z:=pp (pp @F.fO <|pp @F.iy ()) <|pp () <|pp (pp (@su (Int×List aK) _ (λn x=>G.ji.L1 n aA x.1 x.2) r (λx=>iH.of [eS 0 aA,(4,.v true (.one (.own 103 x.2.length 1))),eI 5 x.1] [(103,.dat 1 (ag cS x.2))])) ()) <|pp () <|pp (pp (aW @G.ji.L1.eq_1 <|@G.ji.L1.eq_2) ()) <|pp (pp (@dO [] [(103,10)] []) <|pp (@dO [] [(103,103)] []) <|pp (@dO [] [(103,12)] []) <|pp (@dO [] [(103,14)] []) ()) <|()
 exact rF
theorem F.rP {n:Nat} : ∀{aA r},G.rP n aA=some r->dY pZ 49 [.one (wS aA)] (.xg [(false,[wS r.1]),(false,[wS r.2])]):=by
 intro aA r h;refine bg K.rP (qx ?_);unfold C.rP;rcases n with _|n<;>simp only[G.rP,reduceCtorEq]at h;have z:=pp () <|pp () <|pp (pp (@su (Int) _ (λn x=>G.rP.L1 n aA x) r (λx=>iH.of [eS 0 aA,eI 4 x] [])) ()) <|pp () <|pp (pp (aW @G.rP.L1.eq_1 <|@G.rP.L1.eq_2) ()) <|pp (pp (@dO [] [] []) ()) <|()
 exact rF
theorem F.nJ {n:Nat} : ∀{ay r},G.nJ n ay=some r->dY pZ 129 [.agg (wN ay)] (.one (wT r)):=by
 intro ay r h;refine bg K.nJ (qx ?_);unfold C.nJ;rcases n with _|n<;>simp only[G.nJ,reduceCtorEq]at h;have z:=pp () <|pp () <|pp (pp (@su (Int×List aK) _ (λn x=>G.nJ.L1 n ay x.1 x.2) r (λx=>iH.of [eP 1 105,(3,.v true (.one (.own 106 x.2.length 1))),eI 4 x.1] [(105,.var (wN ay)),(106,.dat 1 (ag cS x.2))])) ()) <|pp () <|pp (pp (aW @G.nJ.L1.eq_1 <|@G.nJ.L1.eq_2) ()) <|pp (pp (@dO [] [(105,10),(106,11)] []) <|pp (@dO [] [(105,105),(106,13)] []) ()) <|()
 exact rF
theorem F.mD {n:Nat} : ∀{pq r},G.mD n pq=some r->dY pZ 220 [.one (.c (.lit (.bool pq)))] (.one (wI r)):=by
 intro pq r h;refine bg K.mD (qx ?_);unfold C.mD;rcases n with _|n<;>simp only[G.mD,reduceCtorEq]at h;have z:=pp () <|pp () <|pp () <|pp () <|pp () <|pp () <|()
 exact rF
theorem F.rf {n:Nat} : ∀{o8 pq r},G.rf n o8 pq=some r->dY pZ 200 [.one (wI o8),.one (wI pq)] (.one (wI r)):=by
 intro o8 pq r h;refine bg K.rf (qx ?_);unfold C.rf;rcases n with _|n<;>simp only[G.rf,reduceCtorEq]at h;have z:=pp (pp @F.mD ()) <|pp () <|pp () <|pp () <|pp () <|pp () <|()
 exact rF
theorem F.oI {n:Nat} : ∀{o8 pq r},G.oI n o8 pq=some r->dY pZ 201 [.one (wS o8),.one (wS pq)] (.one (wI r)):=by
 intro o8 pq r h;refine bg K.oI (qx ?_);unfold C.oI;rcases n with _|n<;>simp only[G.oI,reduceCtorEq]at h;have z:=pp (pp @F.mD ()) <|pp () <|pp () <|pp () <|pp () <|pp () <|()
 exact rF
theorem F.Ry : ∀(n:Nat),∀{o8 pq r},G.iO n o8 pq=some r->dY pZ 175 [.agg (wN o8),.agg (wN pq)] (.one (wI r)):=by
 intro n
 induction n using dH with|_ n ih=>
 intro o8 pq r h;refine bg K.iO (qx ?_);unfold C.iO;rcases n with _|n<;>simp only[G.iO,reduceCtorEq]at h;have z:=pp (pp ih <|pp @F.rf <|pp @F.oI ()) <|pp () <|pp (pp (@su (Int) _ (λn x=>G.iO.L1 n o8 pq x) r (λx=>iH.of [eP 2 105,eP 3 106,eI 5 x] [(105,.var (wN o8)),(106,.var (wN pq))])) ()) <|pp () <|pp (pp (aW @G.iO.L1.eq_1 <|@G.iO.L1.eq_2) ()) <|pp (pp (@dO [] [(105,10),(106,11)] []) <|pp (@dO [] [(105,105),(106,106)] []) ()) <|()
 exact rF
theorem F.iO {n:Nat} : ∀{o8:aj} {pq:aj} {r:Int},G.iO n o8 pq=some r->dY pZ 175 [.agg (wN o8),.agg (wN pq)] (.one (wI r)):=F.Ry n
theorem F.wC {n:Nat} : ∀{o8 pq r},G.wC n o8 pq=some r->dY pZ 131 [.agg (wN o8),.agg (wN pq)] (.one (.c (.lit (.bool r)))):=by
 intro o8 pq r h;refine bg K.wC (qx ?_);unfold C.wC;rcases n with _|n<;>simp only[G.wC,reduceCtorEq]at h;have z:=pp (pp @F.iO ()) <|pp () <|pp () <|pp () <|pp () <|pp () <|()
 exact rF
theorem F.lG {n:Nat} : ∀{ay r},G.lG n ay=some r->dY pZ 81 [.agg (wN ay)] (.xg [(true,[wI r.1.Kind,wT r.1.Path,wT r.1.From,wI r.1.Value.Kind,wI r.1.Value.Num,wS r.1.Value.Text,wT r.1.Value.Names,wK r.1.Value.Kids]),(false,[.c (.lit (.bool r.2))])]):=by
 intro ay r h;refine bg K.lG (qx ?_);unfold C.lG;rcases n with _|n<;>simp only[G.lG,reduceCtorEq]at h;have z:=pp (pp @F.fB <|pp @F.uO <|pp @F.nJ <|pp @F.aY <|pp @F.oh <|pp @F.qJ <|pp @F.wC ()) <|pp () <|pp (pp (@su (List aK×Int×Int) _ (λn x=>G.lG.L1 n ay x.1 x.2.1 x.2.2) r (λx=>iH.of [eP 1 105,eP 2 106,eT 4 x.1,eI 5 x.2.1,eI 6 x.2.2] [(105,.var (wN ay)),(106,.var [wI 0,.jI 1,.jI 1,wI 0,wI 0,.c (.str []),.jI 1,.jI 5])])) ()) <|pp () <|pp (pp (aW @G.lG.L1.eq_1 <|@G.lG.L1.eq_2) ()) <|pp (pp (@dO [] [(105,10),(106,11)] []) <|pp (@dO [] [(105,105),(106,106)] []) ()) <|()
 exact rF
theorem F.mJ {n:Nat} : ∀{aA r},G.mJ n aA=some r->dY pZ 52 [.one (wS aA)] (.xg [(false,[.c (.sl 8 (ag oz.cells r.1))]),(false,[.c (.lit (.bool r.2))])]):=by
 intro aA r h;refine bg K.mJ (qx ?_);unfold C.mJ;rcases n with _|n<;>simp only[G.mJ,reduceCtorEq]at h;have z:=pp (pp @F.lG ()) <|pp (pp (pp @F.kF (@cG [11] [])) <|pp (pp @F.gB (@cG [11] [])) ()) <|pp (pp (@su (aK×List oz) _ (λn x=>G.mJ.L1 n x.1 x.2) r (λx=>iH.of [eS 0 x.1,(4,.v true (.one (.own 103 x.2.length 8)))] [(103,.dat 8 (ag oz.cells x.2))])) ()) <|pp () <|pp (pp (aW @G.mJ.L1.eq_1 <|@G.mJ.L1.eq_2) ()) <|pp (pp (@dO [] [(103,10)] []) <|pp (@dO [] [(103,15)] []) ()) <|()
 exact rF
theorem F.fM {n:Nat} : ∀{aA r},G.fM n aA=some r->dY pZ 30 [.one (wS aA)] (.xg [(true,[wI r.1.Method,wS r.1.Name,wT r.1.Want,wT r.1.oP,wI r.1.Body.Kind,wI r.1.Body.Num,wS r.1.Body.Text,wT r.1.Body.Names,wK r.1.Body.Kids,.c (.sl 8 (ag oz.cells r.1.Ops))]),(false,[.c (.lit (.bool r.2))])]):=by
 intro aA r h;refine bg K.fM (qx ?_);unfold C.fM;rcases n with _|n<;>simp only[G.fM,reduceCtorEq]at h;have z:=pp (pp @F.rP <|pp @F.wQ <|pp @F.ji <|pp @F.mJ <|pp @F.rO <|pp @F.dG ()) <|pp () <|pp (pp (@su ((aK×aK)×(aK×aK)×(aK×aK)×(aK×aK)×List aK×Int×Int) _ (λn x=>G.fM.L1 n aA x.1 x.2.1 x.2.2.1 x.2.2.2.1 x.2.2.2.2.1 x.2.2.2.2.2.1 x.2.2.2.2.2.2) r (λx=>iH.of [eS 0 aA,eP 2 111,eS 4 x.1.1,eS 8 x.2.2.1.1,eS 10 x.2.2.2.1.1,eS 11 x.2.2.2.1.2,eP 12 112,eT 13 x.2.2.2.2.1,eI 14 x.2.2.2.2.2.1] [(111,.var [wI 0,.c (.str []),.jI 1,.jI 1,wI 0,wI 0,.c (.str []),.jI 1,.jI 5,.jI 8]),(112,.var [wI x.2.2.2.2.2.2,wS x.2.1.1,.own 113 0 1,.own 114 0 1,wI 0,wI 0,.c (.str []),.jI 1,.jI 5,.own 115 0 8]),(113,.dat 1 (ag cS [])),(114,.dat 1 (ag cS [])),(115,.dat 8 (ag oz.cells []))])) ()) <|pp (pp (@zZ ((aK×aK)×Int×(List aK×Bool)×(List aK×Bool)×Bool×Int×Int×aK×List aK×List aj×List oz) _ (λn x=>G.fM.K2 n aA x.1 x.2.1 x.2.2.1 x.2.2.2.1 x.2.2.2.2.1 x.2.2.2.2.2.1 x.2.2.2.2.2.2.1 x.2.2.2.2.2.2.2.1 x.2.2.2.2.2.2.2.2.1 x.2.2.2.2.2.2.2.2.2.1 x.2.2.2.2.2.2.2.2.2.2) r (λx=>iH.of [eS 0 aA,eP 2 116,eP 12 117,eT 15 x.2.2.1.1,(16,.v true (.one (.c (.lit (.bool x.2.2.1.2))))),eT 17 x.2.2.2.1.1,(18,.v true (.one (.c (.lit (.bool x.2.2.2.1.2))))),(19,.v true (.one (.c (.lit (.bool x.2.2.2.2.1)))))] [(116,.var [wI 0,.c (.str []),.jI 1,.jI 1,wI 0,wI 0,.c (.str []),.jI 1,.jI 5,.jI 8]),(117,.var [wI x.2.1,wS x.1.1,.own 118 0 1,.own 119 0 1,wI x.2.2.2.2.2.1,wI x.2.2.2.2.2.2.1,wS x.2.2.2.2.2.2.2.1,wT x.2.2.2.2.2.2.2.2.1,wK x.2.2.2.2.2.2.2.2.2.1,.c (.sl 8 (ag oz.cells x.2.2.2.2.2.2.2.2.2.2))]),(118,.dat 1 (ag cS [])),(119,.dat 1 (ag cS []))])) ()) <|pp (pp (aW @G.fM.L1.eq_1 <|aW @G.fM.L1.eq_2 <|aW @G.fM.K2.eq_1 <|@G.fM.K2.eq_2) ()) <|pp (pp (@dO [] [(111,10),(112,14),(113,11),(114,12),(115,13)] []) <|pp (@dO [] [(111,111),(112,112),(113,113),(114,114),(115,115)] []) <|pp (@dO [] [(116,111),(117,112),(118,113),(119,114)] []) <|pp (@dO [115] [(116,111),(117,112),(118,113),(119,114)] []) ()) <|()
 exact rF
theorem F.fK {n:Nat} : ∀{aA r},G.fK n aA=some r->dY pZ 29 [.agg [.c (.sl 7 (ag bI.cells aA.Items)),wI aA.Clock]] (.agg [.c (.sl 7 (ag bI.cells r.Items)),wI r.Clock]):=by
 intro aA r h;refine bg K.fK (qx ?_);unfold C.fK;rcases n with _|n<;>simp only[G.fK,reduceCtorEq]at h;have z:=pp (pp @F.aY ()) <|pp () <|pp (pp (@su (Int×List bI) _ (λn x=>G.fK.L1 n aA x.1 x.2) r (λx=>iH.of [eP 1 107,eP 2 108,(3,.v true (.one (.own 109 x.2.length 7))),eI 4 x.1] [(107,.var [.c (.sl 7 (ag bI.cells aA.Items)),wI aA.Clock]),(108,.var [.jI 7,wI 0]),(109,.dat 7 (ag bI.cells x.2))])) ()) <|pp () <|pp (pp (aW @G.fK.L1.eq_1 <|@G.fK.L1.eq_2) ()) <|pp (pp (@dO [] [(107,10),(108,11),(109,12)] []) <|pp (@dO [] [(107,107),(108,108),(109,14)] []) ()) <|()
 exact rF
theorem F.jM {n:Nat} : ∀{ay jZ r},G.jM n ay jZ=some r->dY pZ 180 [.agg (wN ay),.one (wS jZ)] (.one (wI r)):=by
 intro ay jZ r h;refine bg K.jM (qx ?_);unfold C.jM;rcases n with _|n<;>simp only[G.jM,reduceCtorEq]at h;have z:=pp (pp @F.kz ()) <|pp () <|pp (pp (@su (Int) _ (λn x=>G.jM.L1 n ay jZ x) r (λx=>iH.of [eS 1 jZ,eP 2 103,eI 5 x] [(103,.var (wN ay))])) ()) <|pp () <|pp (pp (aW @G.jM.L1.eq_1 <|@G.jM.L1.eq_2) ()) <|pp (pp (@dO [] [(103,10)] []) <|pp (@dO [] [(103,103)] []) ()) <|()
 exact rF
theorem F.l9 {n:Nat} : ∀{ay jZ r},G.l9 n ay jZ=some r->dY pZ 206 [.agg (wN ay),.one (wS jZ)] (.xg [(false,[wI r.1]),(false,[.c (.lit (.bool r.2))])]):=by
 intro ay jZ r h;refine bg K.l9 (qx ?_);unfold C.l9;rcases n with _|n<;>simp only[G.l9,reduceCtorEq]at h;have z:=pp (pp @F.jM <|pp @F.kz ()) <|pp () <|pp (pp (@su (Int) _ (λn x=>G.l9.L1 n ay jZ x) r (λx=>iH.of [eS 1 jZ,eP 2 103,eI 7 x] [(103,.var (wN ay))])) <|pp (@su (Int) _ (λn x=>G.l9.L2 n ay jZ x) r (λx=>iH.of [eS 1 jZ,eP 2 106,eI 7 x] [(106,.var (wN ay))])) ()) <|pp () <|pp (pp (aW @G.l9.L1.eq_1 <|aW @G.l9.L1.eq_2 <|aW @G.l9.L2.eq_1 <|@G.l9.L2.eq_2) ()) <|pp (pp (@dO [] [(103,10)] []) <|pp (@dO [] [(103,103)] []) <|pp (@dO [] [(106,10)] []) <|pp (@dO [] [(106,106)] []) ()) <|()
 exact rF
theorem F.oW {n:Nat} : ∀{ay Xv Qe r},G.oW n ay Xv Qe=some r->dY pZ 182 [.agg (wN ay),.one (wI Xv),.agg (wN Qe)] (.agg (wN r)):=by
 intro ay Xv Qe r h;refine bg K.oW (qx ?_);unfold C.oW;rcases n with _|n<;>simp only[G.oW,reduceCtorEq]at h;have z:=pp () <|pp (pp (pp @F.Je (@cG [] [101,102])) <|pp (pp @F.Je (@cG [] [103,104])) ()) <|pp () <|pp () <|pp () <|pp () <|()
 exact rF
theorem F.qy {n:Nat} : ∀{ay jZ iY r},G.qy n ay jZ iY=some r->dY pZ 183 [.agg (wN ay),.one (wS jZ),.agg (wN iY)] (.xg [(true,(wN r.1)),(false,[.c (.lit (.bool r.2))])]):=by
 intro ay jZ iY r h;refine bg K.qy (qx ?_);unfold C.qy;rcases n with _|n<;>simp only[G.qy,reduceCtorEq]at h;have z:=pp (pp @F.l9 <|pp @F.oW <|pp @F.aY ()) <|pp () <|pp () <|pp () <|pp () <|pp () <|()
 exact rF
theorem F.tZ {n:Nat} : ∀{ay aB r},G.tZ n ay aB=some r->dY pZ 204 [.agg (wN ay),.one (wT aB)] (.xg [(true,(wN r.1)),(false,[.c (.lit (.bool r.2))])]):=by
 intro ay aB r h;refine bg K.tZ (qx ?_);unfold C.tZ;rcases n with _|n<;>simp only[G.tZ,reduceCtorEq]at h;have z:=pp (pp @F.jM <|pp @F.aY ()) <|pp () <|pp (pp (@su (Int×Int×Int×aK×List aK×List aj) _ (λn x=>G.tZ.L1 n aB x.1 x.2.1 x.2.2.1 x.2.2.2.1 x.2.2.2.2.1 x.2.2.2.2.2) r (λx=>iH.of [eT 1 aB,eP 2 105,eP 4 106,eI 6 x.1] [(105,.var [wI x.2.1,wI x.2.2.1,wS x.2.2.2.1,wT x.2.2.2.2.1,wK x.2.2.2.2.2]),(106,.var zN)])) ()) <|pp () <|pp (pp (aW @G.tZ.L1.eq_1 <|@G.tZ.L1.eq_2) ()) <|pp (pp (@dO [] [(105,10),(106,11)] []) <|pp (@dO [] [(105,105),(106,106)] []) ()) <|()
 exact rF
theorem F.Vh : ∀(n:Nat),∀{ay aB iY r},G.o9 n ay aB iY=some r->dY pZ 203 [.agg (wN ay),.one (wT aB),.agg (wN iY)] (.xg [(true,(wN r.1)),(false,[.c (.lit (.bool r.2))])]):=by
 intro n
 induction n using dH with|_ n ih=>
 intro ay aB iY r h;refine bg K.o9 (qx ?_);unfold C.o9;rcases n with _|n<;>simp only[G.o9,reduceCtorEq]at h;have z:=pp (pp ih <|pp @F.aY <|pp @F.jM <|pp @F.oW ()) <|pp () <|pp () <|pp () <|pp () <|pp () <|()
 exact rF
theorem F.o9 {n:Nat} : ∀{ay:aj} {aB:List aK} {iY:aj} {r:aj×Bool},G.o9 n ay aB iY=some r->dY pZ 203 [.agg (wN ay),.one (wT aB),.agg (wN iY)] (.xg [(true,(wN r.1)),(false,[.c (.lit (.bool r.2))])]):=F.Vh n
theorem F.uG {n:Nat} : ∀{ay aB iY r},G.uG n ay aB iY=some r->dY pZ 202 [.agg (wN ay),.one (wT aB),.agg (wN iY)] (.xg [(true,(wN r.1)),(false,[.c (.lit (.bool r.2))])]):=by
 intro ay aB iY r h;refine bg K.uG (qx ?_);unfold C.uG;rcases n with _|n<;>simp only[G.uG,reduceCtorEq]at h;have z:=pp (pp @F.aY <|pp @F.tZ <|pp @F.qy <|pp @F.o9 ()) <|pp () <|pp () <|pp () <|pp () <|pp () <|()
 exact rF
theorem F.nI {n:Nat} : ∀{aB DN r},G.nI n aB DN=some r->dY pZ 205 [.one (wT aB),.one (wT DN)] (.one (.c (.lit (.bool r)))):=by
 intro aB DN r h;refine bg K.nI (qx ?_);unfold C.nI;rcases n with _|n<;>simp only[G.nI,reduceCtorEq]at h;have z:=pp () <|pp () <|pp (pp (@su (Int) _ (λn x=>G.nI.L1 n aB DN x) r (λx=>iH.of [eT 0 aB,eT 1 DN,eI 5 x] [])) ()) <|pp () <|pp (pp (aW @G.nI.L1.eq_1 <|@G.nI.L1.eq_2) ()) <|pp (pp (@dO [] [] []) ()) <|()
 exact rF
theorem F.kM {n:Nat} : ∀{ay aB r},G.kM n ay aB=some r->dY pZ 181 [.agg (wN ay),.one (wT aB)] (.xg [(true,(wN r.1)),(false,[.c (.lit (.bool r.2))])]):=by
 intro ay aB r h;refine bg K.kM (qx ?_);unfold C.kM;rcases n with _|n<;>simp only[G.kM,reduceCtorEq]at h;have z:=pp (pp @F.tZ <|pp @F.jM <|pp @F.o9 ()) <|pp () <|pp () <|pp (pp (@zZ ((aj×Bool)×List aj×List aK) _ (λn x=>G.kM.K1 n ay aB x.1 x.2.1 x.2.2) r (λx=>iH.of [eT 1 aB,eP 2 101,eP 4 102,eI 6 (af .i64 ((aB.length:Int)-1)),eP 7 103,(10,.v true (.one (.own 104 x.2.1.length 5))),(11,.v true (.one (.own 105 x.2.2.length 1)))] [(101,.var (wN ay)),(102,.var zN),(103,.var (wN x.1.1)),(104,.dat 5 (ag aj.cells x.2.1)),(105,.dat 1 (ag cS x.2.2))])) ()) <|pp (pp (aW @G.kM.K1.eq_1 <|@G.kM.K1.eq_2) ()) <|pp (pp (@dO [] [(101,10),(102,11),(103,12),(104,15),(105,19)] []) <|pp (@dO [] [(101,10),(102,11),(103,12),(104,15),(105,16)] []) ()) <|()
 exact rF
theorem F.lq {n:Nat} : ∀{ay kL r},G.lq n ay kL=some r->dY pZ 179 [.agg (wN ay),.agg [wI kL.Kind,wT kL.Path,wT kL.From,wI kL.Value.Kind,wI kL.Value.Num,wS kL.Value.Text,wT kL.Value.Names,wK kL.Value.Kids]] (.xg [(true,(wN r.1)),(false,[.c (.lit (.bool r.2))])]):=by
 intro ay kL r h;refine bg K.lq (qx ?_);unfold C.lq;rcases n with _|n<;>simp only[G.lq,reduceCtorEq]at h;have z:=pp (pp @F.uG <|pp @F.kM <|pp @F.o9 <|pp @F.tZ <|pp @F.wC <|pp @F.nI <|pp @F.aY ()) <|pp () <|pp () <|pp (pp (@zZ (List aK) _ (λn x=>G.lq.K1 n ay kL x) r (λx=>iH.of [eP 2 101,eP 3 102,eP 4 103,eT 6 x] [(101,.var (wN ay)),(102,.var [wI kL.Kind,wT kL.Path,wT kL.From,wI kL.Value.Kind,wI kL.Value.Num,wS kL.Value.Text,wT kL.Value.Names,wK kL.Value.Kids]),(103,.var zN)])) ()) <|pp (pp (aW @G.lq.K1.eq_1 <|@G.lq.K1.eq_2) ()) <|pp (pp (@dO [] [(101,10),(102,11),(103,12)] []) ()) <|()
 exact rF
theorem F.pR {n:Nat} : ∀{ay Jo r},G.pR n ay Jo=some r->dY pZ 144 [.agg (wN ay),.one (.c (.lit (.bool Jo)))] (.xg [(true,(wN r.1)),(false,[.c (.lit (.bool r.2))])]):=by
 intro ay Jo r h;refine bg K.pR (qx ?_);unfold C.pR;rcases n with _|n<;>simp only[G.pR,reduceCtorEq]at h;have z:=pp (pp @F.fB ()) <|pp () <|pp () <|pp () <|pp () <|pp () <|()
 exact rF
theorem F.qi {n:Nat} : ∀{ay kL r},G.qi n ay kL=some r->dY pZ 143 [.agg (wN ay),.agg [wI kL.Kind,wT kL.Path,wT kL.From,wI kL.Value.Kind,wI kL.Value.Num,wS kL.Value.Text,wT kL.Value.Names,wK kL.Value.Kids]] (.xg [(true,(wN r.1)),(false,[.c (.lit (.bool r.2))])]):=by
 intro ay kL r h;refine bg K.qi (qx ?_);unfold C.qi;rcases n with _|n<;>simp only[G.qi,reduceCtorEq]at h;have z:=pp (pp @F.lq <|pp @F.pR <|pp @F.aY ()) <|pp () <|pp () <|pp () <|pp () <|pp () <|()
 exact rF
theorem F.jH {n:Nat} : ∀{ay aG r},G.jH n ay aG=some r->dY pZ 93 [.agg (wN ay),.one (.c (.sl 8 (ag oz.cells aG)))] (.xg [(true,(wN r.1)),(false,[.c (.lit (.bool r.2))])]):=by
 intro ay aG r h;refine bg K.jH (qx ?_);unfold C.jH;rcases n with _|n<;>simp only[G.jH,reduceCtorEq]at h;have z:=pp (pp @F.fB <|pp @F.gG <|pp @F.aY <|pp @F.qi ()) <|pp () <|pp (pp (@su (Int×Int×Int×aK×List aK×List aj) _ (λn x=>G.jH.L1 n aG x.1 x.2.1 x.2.2.1 x.2.2.2.1 x.2.2.2.2.1 x.2.2.2.2.2) r (λx=>iH.of [(1,.v true (.one (.c (.sl 8 (ag oz.cells aG))))),eP 4 105,eP 6 106,eI 7 x.1] [(105,.var zN),(106,.var [wI x.2.1,wI x.2.2.1,wS x.2.2.2.1,wT x.2.2.2.2.1,wK x.2.2.2.2.2])])) ()) <|pp () <|pp (pp (aW @G.jH.L1.eq_1 <|@G.jH.L1.eq_2) ()) <|pp (pp (@dO [] [(105,11),(106,12)] []) <|pp (@dO [] [(105,105),(106,106)] []) ()) <|()
 exact rF
theorem F.Vg : ∀(n:Nat),∀{ay dQ r},G.jL n ay dQ=some r->dY pZ 145 [.agg (wN ay),.agg (wN dQ)] (.agg (wN r)):=by
 intro n
 induction n using dH with|_ n ih=>
 intro ay dQ r h;refine bg K.jL (qx ?_);unfold C.jL;rcases n with _|n<;>simp only[G.jL,reduceCtorEq]at h;have z:=pp (pp ih <|pp @F.aY <|pp @F.jM <|pp @F.kM <|pp @F.qy <|pp @F.oW ()) <|pp () <|pp (pp (@su (Int×Int×Int×aK×List aK×List aj) _ (λn x=>G.jL.L2 n dQ x.1 x.2.1 x.2.2.1 x.2.2.2.1 x.2.2.2.2.1 x.2.2.2.2.2) r (λx=>iH.of [eP 3 110,eP 4 111,eP 5 112,eI 6 x.1] [(110,.var (wN dQ)),(111,.var zN),(112,.var [wI x.2.1,wI x.2.2.1,wS x.2.2.2.1,wT x.2.2.2.2.1,wK x.2.2.2.2.2])])) ()) <|pp (pp (@zZ (Int×Int×aK×List aK×List aj) _ (λn x=>G.jL.K1 n dQ x.1 x.2.1 x.2.2.1 x.2.2.2.1 x.2.2.2.2) r (λx=>iH.of [eP 3 101,eP 4 102,eP 5 103] [(101,.var (wN dQ)),(102,.var zN),(103,.var [wI x.1,wI x.2.1,wS x.2.2.1,wT x.2.2.2.1,wK x.2.2.2.2])])) ()) <|pp (pp (aW @G.jL.K1.eq_1 <|aW @G.jL.K1.eq_2 <|aW @G.jL.L2.eq_1 <|@G.jL.L2.eq_2) ()) <|pp (pp (@dO [] [(101,11),(102,12),(103,15)] []) <|pp (@dO [13,14] [(101,11),(102,12),(103,15)] []) <|pp (@dO [] [(110,101),(111,102),(112,103)] []) <|pp (@dO [] [(110,110),(111,111),(112,112)] []) ()) <|()
 exact rF
theorem F.jL {n:Nat} : ∀{ay:aj} {dQ:aj} {r:aj},G.jL n ay dQ=some r->dY pZ 145 [.agg (wN ay),.agg (wN dQ)] (.agg (wN r)):=F.Vg n
theorem F.qh {n:Nat} : ∀{ay dQ r},G.qh n ay dQ=some r->dY pZ 94 [.agg (wN ay),.agg (wN dQ)] (.xg [(true,(wN r.1)),(false,[.c (.lit (.bool r.2))])]):=by
 intro ay dQ r h;refine bg K.qh (qx ?_);unfold C.qh;rcases n with _|n<;>simp only[G.qh,reduceCtorEq]at h;have z:=pp (pp @F.fB <|pp @F.jL <|pp @F.pR ()) <|pp () <|pp () <|pp () <|pp () <|pp () <|()
 exact rF
theorem F.oG {n:Nat} : ∀{Hz r},G.oG n Hz=some r->dY pZ 88 [.one (wI Hz)] (.agg [wI r.Status,wS r.Tag,wI r.Version,wI r.Body.Kind,wI r.Body.Num,wS r.Body.Text,wT r.Body.Names,wK r.Body.Kids]):=by
 intro Hz r h;refine bg K.oG (qx ?_);unfold C.oG;rcases n with _|n<;>simp only[G.oG,reduceCtorEq]at h;have z:=pp () <|pp () <|pp () <|pp () <|pp () <|pp () <|()
 exact rF
theorem F.mZ {n:Nat} : ∀{aG rV r},G.mZ n aG rV=some r->dY pZ 138 [.one (wT aG),.one (wS rV)] (.one (.c (.lit (.bool r)))):=by
 intro aG rV r h;refine bg K.mZ (qx ?_);unfold C.mZ;rcases n with _|n<;>simp only[G.mZ,reduceCtorEq]at h;have z:=pp () <|pp () <|pp (pp (@su (Int) _ (λn x=>G.mZ.L1 n aG rV x) r (λx=>iH.of [eT 0 aG,eS 1 rV,eI 5 x] [])) ()) <|pp () <|pp (pp (aW @G.mZ.L1.eq_1 <|@G.mZ.L1.eq_2) ()) <|pp (pp (@dO [] [] []) ()) <|()
 exact rF
theorem F.vJ {n:Nat} : ∀{yL uV rV xE r},G.vJ n yL uV rV xE=some r->dY pZ 89 [.one (wT yL),.one (wT uV),.one (wS rV),.one (.c (.lit (.bool xE)))] (.one (wI r)):=by
 intro yL uV rV xE r h;refine bg K.vJ (qx ?_);unfold C.vJ;rcases n with _|n<;>simp only[G.vJ,reduceCtorEq]at h;have z:=pp (pp @F.mZ ()) <|pp () <|pp () <|pp () <|pp () <|pp () <|()
 exact rF
theorem F.ry {n:Nat} : ∀{aA fF r},G.ry n aA fF=some r->dY pZ 92 [.agg [.c (.sl 7 (ag bI.cells aA.Items)),wI aA.Clock],.one (wS fF)] (.agg [.c (.sl 7 (ag bI.cells r.Items)),wI r.Clock]):=by
 intro aA fF r h;refine bg K.ry (qx ?_);unfold C.ry;rcases n with _|n<;>simp only[G.ry,reduceCtorEq]at h;have z:=pp (pp @F.fK ()) <|pp () <|pp (pp (@su (StoreT×Int×List bI) _ (λn x=>G.ry.L1 n aA fF x.1 x.2.1 x.2.2) r (λx=>iH.of [eS 1 fF,eP 2 107,eP 4 108,(5,.v true (.one (.own 109 x.2.2.length 7))),(6,.v true (.one (.c (.sl 7 (ag bI.cells x.1.Items))))),eI 7 x.2.1] [(107,.var [.c (.sl 7 (ag bI.cells aA.Items)),wI aA.Clock]),(108,.var [.jI 7,wI 0]),(109,.dat 7 (ag bI.cells x.2.2))])) ()) <|pp () <|pp (pp (aW @G.ry.L1.eq_1 <|@G.ry.L1.eq_2) ()) <|pp (pp (@dO [] [(107,10),(108,11),(109,12)] []) <|pp (@dO [] [(107,107),(108,108),(109,109)] []) <|pp (@dO [] [(107,107),(108,108),(109,14)] []) ()) <|()
 exact rF
theorem F.oV {n:Nat} : ∀{aA fF r},G.oV n aA fF=some r->dY pZ 87 [.agg [.c (.sl 7 (ag bI.cells aA.Items)),wI aA.Clock],.one (wS fF)] (.one (wI r)):=by
 intro aA fF r h;refine bg K.oV (qx ?_);unfold C.oV;rcases n with _|n<;>simp only[G.oV,reduceCtorEq]at h;have z:=pp () <|pp () <|pp (pp (@su (Int) _ (λn x=>G.oV.L1 n aA fF x) r (λx=>iH.of [eS 1 fF,eP 2 103,eI 5 x] [(103,.var [.c (.sl 7 (ag bI.cells aA.Items)),wI aA.Clock])])) ()) <|pp () <|pp (pp (aW @G.oV.L1.eq_1 <|@G.oV.L1.eq_2) ()) <|pp (pp (@dO [] [(103,10)] []) <|pp (@dO [] [(103,103)] []) ()) <|()
 exact rF
theorem F.zT {n:Nat} : ∀{ay r},G.zT n ay=some r->dY pZ 139 [.one (wI ay)] (.one (wS r)):=by
 intro ay r h;refine bg K.zT (qx ?_);unfold C.zT;rcases n with _|n<;>simp only[G.zT,reduceCtorEq]at h;have z:=pp () <|pp () <|pp () <|pp () <|pp () <|pp () <|()
 exact rF
theorem F.qj {n:Nat} : ∀{aA r},G.qj n aA=some r->dY pZ 140 [.one (wS aA)] (.one (wI r)):=by
 intro aA r h;refine bg K.qj (qx ?_);unfold C.qj;rcases n with _|n<;>simp only[G.qj,reduceCtorEq]at h;have z:=pp () <|pp () <|pp (pp (@su (Int×Int) _ (λn x=>G.qj.L1 n aA x.1 x.2) r (λx=>iH.of [eS 0 aA,eI 3 x.1,eI 4 x.2] [])) ()) <|pp () <|pp (pp (aW @G.qj.L1.eq_1 <|@G.qj.L1.eq_2) ()) <|pp (pp (@dO [] [] []) ()) <|()
 exact rF
theorem F.sN {n:Nat} : ∀{aA fF r},G.sN n aA fF=some r->dY pZ 90 [.agg [.c (.sl 7 (ag bI.cells aA.Items)),wI aA.Clock],.one (wS fF)] (.one (wS r)):=by
 intro aA fF r h;refine bg K.sN (qx ?_);unfold C.sN;rcases n with _|n<;>simp only[G.sN,reduceCtorEq]at h;have z:=pp (pp @F.oV <|pp @F.eX <|pp @F.qj <|pp @F.zT ()) <|pp () <|pp () <|pp () <|pp () <|pp () <|()
 exact rF
theorem F.mg {n:Nat} : ∀{aA fF ay r},G.mg n aA fF ay=some r->dY pZ 141 [.agg [.c (.sl 7 (ag bI.cells aA.Items)),wI aA.Clock],.one (wS fF),.agg (wN ay)] (.agg [.c (.sl 7 (ag bI.cells r.Items)),wI r.Clock]):=by
 intro aA fF ay r h;refine bg K.mg (qx ?_);unfold C.mg;rcases n with _|n<;>simp only[G.mg,reduceCtorEq]at h;have z:=pp (pp @F.aY <|pp @F.fK ()) <|pp () <|pp (pp (@su (aj×StoreT×Bool×Int×List bI) _ (λn x=>G.mg.L3 n aA fF x.1 x.2.1 x.2.2.1 x.2.2.2.1 x.2.2.2.2) r (λx=>iH.of [eS 1 fF,eP 3 117,eP 6 118,(7,.v true (.one (.own 119 x.2.2.2.2.length 7))),eP 8 120,(9,.v true (.one (.c (.sl 7 (ag bI.cells x.2.1.Items))))),(10,.v true (.one (.c (.lit (.bool x.2.2.1))))),eI 11 x.2.2.2.1] [(117,.var [.c (.sl 7 (ag bI.cells aA.Items)),wI aA.Clock]),(118,.var [.jI 7,wI 0]),(119,.dat 7 (ag bI.cells x.2.2.2.2)),(120,.var [wS fF,wI (af .i64 (aA.Clock+1)),wI x.1.Kind,wI x.1.Num,wS x.1.Text,wT x.1.Names,wK x.1.Kids])])) ()) <|pp (pp (@zZ (aj×StoreT×Int×Bool×List bI) _ (λn x=>G.mg.K4 n aA fF x.1 x.2.1 x.2.2.1 x.2.2.2.1 x.2.2.2.2) r (λx=>iH.of [eS 1 fF,eP 3 121,eP 6 122,(7,.v true (.one (.own 123 x.2.2.2.2.length 7))),eP 8 124,(9,.v true (.one (.c (.sl 7 (ag bI.cells x.2.1.Items))))),(10,.v true (.one (.c (.lit (.bool x.2.2.2.1))))),eI 11 x.2.2.1] [(121,.var [.c (.sl 7 (ag bI.cells aA.Items)),wI aA.Clock]),(122,.var [.jI 7,wI 0]),(123,.dat 7 (ag bI.cells x.2.2.2.2)),(124,.var [wS fF,wI (af .i64 (aA.Clock+1)),wI x.1.Kind,wI x.1.Num,wS x.1.Text,wT x.1.Names,wK x.1.Kids])])) ()) <|pp (pp (aW @G.mg.L3.eq_1 <|aW @G.mg.L3.eq_2 <|aW @G.mg.K4.eq_1 <|@G.mg.K4.eq_2) ()) <|pp (pp (@dO [] [(117,10),(118,12),(119,13),(120,14)] []) <|pp (@dO [] [(121,117),(122,118),(123,119),(124,120)] []) <|pp (@dO [] [(121,117),(122,118),(123,16),(124,120)] []) <|pp (@dO [] [(117,121),(118,122),(119,123),(120,124)] []) <|pp (@dO [] [(117,121),(118,122),(119,18),(120,124)] []) ()) <|()
 exact rF
theorem F.iw {n:Nat} : ∀{aA r},G.iw n aA=some r->dY pZ 142 [.agg [.c (.sl 7 (ag bI.cells aA.Items)),wI aA.Clock]] (.one (.c (.lit (.bool r)))):=by
 intro aA r h;refine bg K.iw (qx ?_);unfold C.iw;rcases n with _|n<;>simp only[G.iw,reduceCtorEq]at h;have z:=pp (pp @F.jc <|pp @F.fB <|pp @F.fZ ()) <|pp () <|pp (pp (@su (Int) _ (λn x=>G.iw.L1 n aA x) r (λx=>iH.of [eP 1 103,eI 3 x] [(103,.var [.c (.sl 7 (ag bI.cells aA.Items)),wI aA.Clock])])) ()) <|pp () <|pp (pp (aW @G.iw.L1.eq_1 <|@G.iw.L1.eq_2) ()) <|pp (pp (@dO [] [(103,10)] []) <|pp (@dO [] [(103,103)] []) ()) <|()
 exact rF
theorem F.lY {n:Nat} : ∀{aA fF ay r},G.lY n aA fF ay=some r->dY pZ 91 [.agg [.c (.sl 7 (ag bI.cells aA.Items)),wI aA.Clock],.one (wS fF),.agg (wN ay)] (.xg [(true,[.c (.sl 7 (ag bI.cells r.1.Items)),wI r.1.Clock]),(true,[wI r.2.Status,wS r.2.Tag,wI r.2.Version,wI r.2.Body.Kind,wI r.2.Body.Num,wS r.2.Body.Text,wT r.2.Body.Names,wK r.2.Body.Kids])]):=by
 intro aA fF ay r h;refine bg K.lY (qx ?_);unfold C.lY;rcases n with _|n<;>simp only[G.lY,reduceCtorEq]at h;have z:=pp (pp @F.oV <|pp @F.mg <|pp @F.iw <|pp @F.sN <|pp @F.fK <|pp @F.oG ()) <|pp () <|pp () <|pp (pp (@zZ (Int) _ (λn x=>G.lY.K1 n aA fF ay x) r (λx=>iH.of [eS 1 fF,eP 3 101,eP 5 102,eP 6 103,eP 7 104,eI 8 x] [(101,.var [.c (.sl 7 (ag bI.cells aA.Items)),wI aA.Clock]),(102,.var (wN ay)),(103,.var [.jI 7,wI 0]),(104,.var [wI 0,.c (.str []),wI 0,wI 0,wI 0,.c (.str []),.jI 1,.jI 5])])) ()) <|pp (pp (aW @G.lY.K1.eq_1 <|@G.lY.K1.eq_2) ()) <|pp (pp (@dO [] [(101,10),(102,11),(103,12),(104,13)] []) ()) <|()
 exact rF
theorem F.kE {n:Nat} : ∀{aA aU r},G.kE n aA aU=some r->dY pZ 55 [.agg [.c (.sl 7 (ag bI.cells aA.Items)),wI aA.Clock],.agg [wI aU.Method,wS aU.Name,wT aU.Want,wT aU.oP,wI aU.Body.Kind,wI aU.Body.Num,wS aU.Body.Text,wT aU.Body.Names,wK aU.Body.Kids,.c (.sl 8 (ag oz.cells aU.Ops))]] (.xg [(true,[.c (.sl 7 (ag bI.cells r.1.Items)),wI r.1.Clock]),(true,[wI r.2.Status,wS r.2.Tag,wI r.2.Version,wI r.2.Body.Kind,wI r.2.Body.Num,wS r.2.Body.Text,wT r.2.Body.Names,wK r.2.Body.Kids])]):=by
 intro aA aU r h;refine bg K.kE (qx ?_);unfold C.kE;rcases n with _|n<;>simp only[G.kE,reduceCtorEq]at h;have:=Mk.mk 1;have:=Mk.mk 2;have z:=pp (pp @F.oV <|pp @F.fK <|pp @F.oG <|pp @F.sN <|pp @F.vJ <|pp @F.aY <|pp @F.lY <|pp @F.ry <|pp @F.jH <|pp @F.qh ()) <|pp () <|pp () <|pp (pp (@zZ (Bool×Int×Int×aK×List aK×List aj) _ (λn x=>G.kE.K1 n aA aU x.1 x.2.1 x.2.2.1 x.2.2.2.1 x.2.2.2.2.1 x.2.2.2.2.2) r (λx=>iH.of [eP 2 101,eP 3 102,eP 4 103,eP 5 104,eP 8 105,(9,.v true (.one (.c (.lit (.bool x.1)))))] [(101,.var [.c (.sl 7 (ag bI.cells aA.Items)),wI aA.Clock]),(102,.var [wI aU.Method,wS aU.Name,wT aU.Want,wT aU.oP,wI aU.Body.Kind,wI aU.Body.Num,wS aU.Body.Text,wT aU.Body.Names,wK aU.Body.Kids,.c (.sl 8 (ag oz.cells aU.Ops))]),(103,.var [.jI 7,wI 0]),(104,.var [wI 0,.c (.str []),wI 0,wI 0,wI 0,.c (.str []),.jI 1,.jI 5]),(105,.var [wI x.2.1,wI x.2.2.1,wS x.2.2.2.1,wT x.2.2.2.2.1,wK x.2.2.2.2.2])])) <|pp (@zZ (Bool×Int×Int×aK×List aK×List aj) _ (λn x=>G.kE.K2 n aA aU x.1 x.2.1 x.2.2.1 x.2.2.2.1 x.2.2.2.2.1 x.2.2.2.2.2) r (λx=>iH.of [eP 2 106,eP 3 107,eP 4 108,eP 5 109,eP 8 110,(9,.v true (.one (.c (.lit (.bool x.1)))))] [(106,.var [.c (.sl 7 (ag bI.cells aA.Items)),wI aA.Clock]),(107,.var [wI aU.Method,wS aU.Name,wT aU.Want,wT aU.oP,wI aU.Body.Kind,wI aU.Body.Num,wS aU.Body.Text,wT aU.Body.Names,wK aU.Body.Kids,.c (.sl 8 (ag oz.cells aU.Ops))]),(108,.var [.jI 7,wI 0]),(109,.var [wI 0,.c (.str []),wI 0,wI 0,wI 0,.c (.str []),.jI 1,.jI 5]),(110,.var [wI x.2.1,wI x.2.2.1,wS x.2.2.2.1,wT x.2.2.2.2.1,wK x.2.2.2.2.2])])) ()) <|pp (pp (aW @G.kE.K1.eq_1 <|aW @G.kE.K1.eq_2 <|aW @G.kE.K2.eq_1 <|@G.kE.K2.eq_2) ()) <|pp (pp (@dO [] [(101,10),(102,11),(103,12),(104,13),(105,14)] []) <|pp (@dO [] [(106,10),(107,11),(108,12),(109,13),(110,14)] []) ()) <|pp () <|(pp (pp (rfl : @G.kE.K1=_) ()) <|pp (pp (rfl : @G.kE.K2=_) ()) ())
 exact VV
theorem F.nU {n:Nat} : ∀{wG aU r},G.nU n wG aU=some r->kV pZ 31 [.one (.ptr 0 0),.agg [wI aU.Method,wS aU.Name,wT aU.Want,wT aU.oP,wI aU.Body.Kind,wI aU.Body.Num,wS aU.Body.Text,wT aU.Body.Names,wK aU.Body.Kids,.c (.sl 8 (ag oz.cells aU.Ops))]] [.var [.c (.sl 7 (ag bI.cells wG.store.Items)),wI wG.store.Clock,.c (.sl 7 (ag bI.cells wG.mark.Items)),wI wG.mark.Clock]] (λr1 b1=>r1 = .one (wS r.1)/\b1=[.var [.c (.sl 7 (ag bI.cells r.2.store.Items)),wI r.2.store.Clock,.c (.sl 7 (ag bI.cells r.2.mark.Items)),wI r.2.mark.Clock]]):=by
 intro wG aU r h;refine lg K.nU (qx ?_);unfold C.nU;rcases n with _|n<;>simp only[G.nU,reduceCtorEq]at h;have z:=pp (pp @F.kE <|pp @F.kz <|pp @F.eX ()) <|pp () <|pp () <|pp (pp (@zZ ((StoreT×gI)×aK) _ (λn x=>G.nU.K1 n wG aU x.1 x.2) r (λx=>iH.of [eP 3 101,eP 6 102,eS 7 x.2] [(0,.var [.c (.sl 7 (ag bI.cells x.1.1.Items)),wI x.1.1.Clock,.c (.sl 7 (ag bI.cells wG.mark.Items)),wI wG.mark.Clock]),(101,.var [wI aU.Method,wS aU.Name,wT aU.Want,wT aU.oP,wI aU.Body.Kind,wI aU.Body.Num,wS aU.Body.Text,wT aU.Body.Names,wK aU.Body.Kids,.c (.sl 8 (ag oz.cells aU.Ops))]),(102,.var [wI x.1.2.Status,wS x.1.2.Tag,wI x.1.2.Version,wI x.1.2.Body.Kind,wI x.1.2.Body.Num,wS x.1.2.Body.Text,wT x.1.2.Body.Names,wK x.1.2.Body.Kids])])) ()) <|pp (pp (aW @G.nU.K1.eq_1 <|@G.nU.K1.eq_2) ()) <|pp (pp (@dO [] [(0,0),(101,10),(102,12)] []) ()) <|(pp (@xX [] [(0,0)] []) ())
 exact rF
theorem F.lF {n:Nat} : ∀{wG r},G.lF n wG=some r->kV pZ 26 [.one (.ptr 0 0)] [.var [.c (.sl 7 (ag bI.cells wG.store.Items)),wI wG.store.Clock,.c (.sl 7 (ag bI.cells wG.mark.Items)),wI wG.mark.Clock]] (λr1 b1=>r1 = .one (wS r.1)/\b1=[.var [.c (.sl 7 (ag bI.cells r.2.store.Items)),wI r.2.store.Clock,.c (.sl 7 (ag bI.cells r.2.mark.Items)),wI r.2.mark.Clock]]):=by
 intro wG r h;refine lg K.lF (qx ?_);unfold C.lF;rcases n with _|n<;>simp only[G.lF,reduceCtorEq]at h;have z:=pp () <|pp () <|pp (pp (@su (aK×Int) _ (λn x=>G.lF.L1 n wG x.1 x.2) r (λx=>iH.of [eP 0 0,eS 3 x.1,eI 4 x.2] [(0,.var [.c (.sl 7 (ag bI.cells wG.store.Items)),wI wG.store.Clock,.c (.sl 7 (ag bI.cells wG.mark.Items)),wI wG.mark.Clock])])) ()) <|pp () <|pp (pp (aW @G.lF.L1.eq_1 <|@G.lF.L1.eq_2) ()) <|pp (pp (@dO [] [(0,0)] []) ()) <|(pp (@xX [] [(0,0)] []) ())
 exact rF
theorem F.uA {n:Nat} : ∀{aA r},G.uA n aA=some r->dY pZ 28 [.agg [.c (.sl 7 (ag bI.cells aA.Items)),wI aA.Clock]] (.one (wI r)):=by
 intro aA r h;refine bg K.uA (qx ?_);unfold C.uA;rcases n with _|n<;>simp only[G.uA,reduceCtorEq]at h;have z:=pp (pp @F.eX ()) <|pp () <|pp (pp (@su (Int×Int) _ (λn x=>G.uA.L1 n aA x.1 x.2) r (λx=>iH.of [eP 1 103,eI 3 x.1,eI 4 x.2] [(103,.var [.c (.sl 7 (ag bI.cells aA.Items)),wI aA.Clock])])) ()) <|pp () <|pp (pp (aW @G.uA.L1.eq_1 <|@G.uA.L1.eq_2) ()) <|pp (pp (@dO [] [(103,10)] []) <|pp (@dO [] [(103,103)] []) ()) <|()
 exact rF
theorem F.sK {n:Nat} : ∀{wG xR r},G.sK n wG xR=some r->kV pZ 18 [.one (.ptr 0 0),.one (wS xR)] [.var [.c (.sl 7 (ag bI.cells wG.store.Items)),wI wG.store.Clock,.c (.sl 7 (ag bI.cells wG.mark.Items)),wI wG.mark.Clock]] (λr1 b1=>r1 = .one (wS r.1)/\b1=[.var [.c (.sl 7 (ag bI.cells r.2.store.Items)),wI r.2.store.Clock,.c (.sl 7 (ag bI.cells r.2.mark.Items)),wI r.2.mark.Clock]]):=by
 intro wG xR r h;refine lg K.sK (qx ?_);unfold C.sK;rcases n with _|n<;>simp only[G.sK,reduceCtorEq]at h;have z:=pp (pp @F.kz <|pp @F.uA <|pp @F.fK <|pp @F.fM ()) <|pp (pp (pp @F.lF (@cG [0] [])) <|pp (pp @F.nU (@cG [0] [])) ()) <|pp () <|pp () <|pp () <|pp () <|(pp (@xX [] [(0,0)] []) ())
 exact rF
theorem F.iq {n:Nat} : ∀{rZ r},G.iq n rZ=some r->dY pZ 8 [.one (wT rZ)] (.one (wS r)):=by
 intro rZ r h;refine bg K.iq (qx ?_);unfold C.iq;rcases n with _|n<;>simp only[G.iq,reduceCtorEq]at h;have z:=pp () <|pp (pp (pp @F.sK (@cG [103] [])) ()) <|pp (pp (@su (aK×Int×List bI×Int×List bI×Int) _ (λn x=>G.iq.L1 n rZ x.1 x.2.1 x.2.2.1 x.2.2.2.1 x.2.2.2.2.1 x.2.2.2.2.2) r (λx=>iH.of [eT 0 rZ,eP 3 103,eS 4 x.1,eI 5 x.2.1] [(103,.var [.c (.sl 7 (ag bI.cells x.2.2.1)),wI x.2.2.2.1,.c (.sl 7 (ag bI.cells x.2.2.2.2.1)),wI x.2.2.2.2.2])])) ()) <|pp () <|pp (pp (aW @G.iq.L1.eq_1 <|@G.iq.L1.eq_2) ()) <|pp (pp (@dO [] [(103,10)] []) <|pp (@dO [] [(103,103)] []) ()) <|()
 exact rF
end Go.Ab
section
namespace Go.Ab
open Go Go.ChangeShapes Go.WideShapes Go.ChangeAt Go.RowKit
def I0 (W:World):IH:=λb=>match W.heap[b]? with
 |some (.cells c _ _)=>some c
 |_=>none
theorem abx (W:World):Agree (I0 W) W:=by
 intro b c h;unfold I0 at h;split at h
 ·rename_i c' e fr hb;cases h;exact⟨e,fr,hb⟩
 ·cases h
theorem TR (W:World){a:Addr}{v:Value}(h:W.cell? a=some v):(I0 W).cell a=some v:=by
 unfold Go.World.cell? at h;unfold IH.cell I0;split at h
 ·rename_i c e fr hb;split at h
  ·cases h
  ·rename_i hs;rw[if_neg hs,hb];exact h
 ·cases h
theorem TY {W W':World}{M:Nat->Prop}(h:LU W W' M)(hM:∀k,¬M k):Below W.heap.size W W':=
 ⟨h.os,h.tape,h.output,h.size,λk hk=>h.block k hk (hM k)⟩
theorem OJ (ρ:Ren)(k:Nat):¬ ∃b,(Ew [] b).uses (ρ b) k:=λ⟨b,h⟩=>by simp only[Ew,List.getD_nil]at h;exact h
abbrev O4 (z:Int):List Cell:=[.lit (.int .u8 z)]
theorem aan {P:Program}{W:World}{x:String×DataW Unit}{rest:List (String×DataW Unit)}(h:laidMet P (x::rest) W):laidMet P rest W:=by obtain⟨ps,hv,hn,hc⟩:=h;obtain⟨g,t,cs,fuel,p,q,h1,h2,h3,h4,h5,rfl⟩:=hv;exact⟨q,h5,(List.nodup_append.1 hn).2.1,λb off hp=>hc b off (List.mem_append_right _ hp)⟩
theorem BJ {P:Program}{W:World} : ∀(k:Nat) {l:List (String×DataW Unit)},laidMet P l W->laidMet P (l.drop k) W
 |0,l,h=>h
 |k+1,[],h=>h
 |k+1,x::l,h=>BJ k (l:=l) (aan h)
theorem Yn {P:Program}{W:World}{rest:List (String×DataW Unit)}{g:Nat}{t e:TypeId}
 (hg:P.globalNamed "internal/strconv.uint64pow10" = some g) (hty:(P.globals[g]?).map (·.type)=some t) (ht:P.underlying t=some (.array 20 e)) (he:P.underlying e=some (.int .u64)) (hce:P.cellsOf e=1) (hct:P.cellsOf t=20)
 (h:laidMet P (("internal/strconv.uint64pow10",Go.Lib.tabData .u64 pV)::rest) W):∀g',P.globalNamed "internal/strconv.uint64pow10" = some g'->I0 W g'=some (pV.map λz=>Go.Value.int .u64 z).toArray:=by
 have h1:=Lib.tabIs_of_head hg hty ht he hce hct h;intro g' hg';rw[hg]at hg';simp only[aH]at hg';subst hg';unfold Lib.TabIs World.var? at h1;simp only[hg]at h1;unfold I0
 revert h1
 split<;>simp_all
theorem Yj {P:Program}{W:World}{n:String}{g:Nat}{t:TypeId}(h:W.ShapedOpen P)(hn:P.globalNamed n=some g)(hg:g<P.globals.size)
 (h0:((begin P (λ_ _=>0) default).world.heap[g]?).bind Obj.row? = some (#[.int .i64 0],t)) (hb:P.buildable t=true) (hc:P.cellTypes P.depth t=some [t]) (hu:P.underlying t=some (.int .i64)) :
 ∀g',P.globalNamed n=some g'->∃m,(I0 W).cell ⟨g',0,none⟩=some (.int .i64 m):=by
 intro g' hg';cases hn.symm.trans hg';obtain⟨m,hm⟩:=Go.Proofs.cell_of_shapedOpen_int h hg h0 rfl hb hc hu;exact⟨m,TR W hm⟩
theorem Oq {P:Program}{n nm:String}{text:List UInt8}{r:List (String×DataW Unit)}{W:World}{g:Nat}{ti tp te ts:TypeId}{ms:Array (String×TypeId)}{f:Field}
 (h:laidMet P ((n,.iface nm (.ptr (.agg [.lit (.string text)])))::r) W)
 (hg:P.globalNamed n=some g) (ht:(P.globals[g]?).map (·.type)=some ti) (hi:P.underlying ti=some (.interface ms)) (hrow:∀u,P.typeName? 3 u=some nm->u=tp)
 (hp:P.underlying tp=some (.pointer te)) (he:P.underlying te=some (.struct #[f])) (hft:f.type=ts) (hfo:f.offset=0) (hs:P.underlying ts=some .string) (hc:P.cellsOf te=1) (hcs:P.cellsOf ts=1) :
 ∀g',P.globalNamed n=some g'->∃v,(I0 W).cell ⟨g',0,none⟩=some v/\(v = .nilIface\/∃t p,v = .iface t p):=by
 intro g' hg';cases hg.symm.trans hg';obtain⟨a,s,hv,_⟩:=laid_sentinel h hg ht hi hrow hp he hft hfo hs hc hcs;exact⟨_,TR W (by rw[World.var?_cell hg hv 0];rfl),.inr ⟨_,_,rfl⟩⟩
theorem OE {P:Program}{f:FuncId}{H:Type}{enc:TypeId×Value->H}{W:World}{tb eb:TypeId}{v0:Value}{d0:DataW H}{p0:List MemPlace}{base:Nat}
 (hT:Tabs P (I0 W)) (ht:P.underlying tb=some (.slice eb)) (he:P.underlying eb=some (.int .u8)) (hc:P.cellsOf eb=1)
 (hval:Go.Value.okWide P W .any base tb v0) (h0:DataW.Trod enc P W 0 (λ_=>true) true tb v0 d0 p0)
 (hp:∀zs:List Int,zs.length<=maxLen->(∀z,z∈zs->0<=z/\z<256)->dY P f [vSl 1 (zs.map O4)] (yx true)) :
 Calls P f #[v0] W λe W'=>e = .returned (.bool true)/\Below W.heap.size W W':=by
 obtain⟨a0,len,cap,rfl⟩:=okWide_slice ht hval;obtain⟨fuel,hf⟩:=h0;have go:∀zs:List Int,zs.length<=maxLen->(∀z,z∈zs->0<=z/\z<256)->Rd (I0 W) (.slice a0 len cap) (.sl 1 (zs.map O4)) ->
  Calls P f #[.slice a0 len cap] W λe W'=>e = .returned (.bool true)/\Below W.heap.size W W':=by
  intro zs hl hz hr;refine(hp zs hl hz (I0 W) (λ_=>none) W [.slice a0 len cap] hT (abx W) ⟨λb=>by simp only[Ew,List.getD_nil];exact rfl,λb b' k h=>(OJ (λ_=>none) k ⟨b,h⟩).elim,λb k h=>(OJ (λ_=>none) k ⟨b,h⟩).elim⟩ ⟨rfl,?_⟩).mono ?_
  ·intro j v x hv hx
   match j with
   | 0=>simp only[sU,aH]at hv hx;subst hv hx;exact hr
   |j+1=>simp at hv
  ·rintro e W' ⟨v,J,σ,r,bs,rfl,⟨rfl,rfl⟩,hg,_,_,_,hfr,_⟩;refine⟨?_,TY hfr (OJ (λ_=>none))⟩;cases hg;rfl
 rcases open_ints ht he hc hf with⟨hcs,hx⟩|⟨a,len',cap',zs,hcs,_,hl,hm,hz,hx,hcell,hwz⟩
 ·simp[zo]at hcs;obtain⟨rfl,rfl,rfl⟩:=hcs;exact go [] (Nat.zero_le _) (λz h=>by cases h) (.sl none 0 0 1 [] (λ_ _=>undef) rfl (Nat.le_refl _) (Nat.zero_le _) (λe h=>by cases h) (λh=>by omega) (λad h=>by cases h) (λi j c h=>by simp at h))
 ·simp[zo]at hcs;obtain⟨rfl,rfl,rfl⟩:=hcs;simp only[if_true]at hz;have hb:∀z,z∈zs.take len->0<=z/\z<256:=λz hz'=>by
   have h5:=hwz z (List.mem_of_mem_take hz');have e1:IntKind.u8.min=0:=rfl;have e2:IntKind.u8.max=255:=rfl;have:0<=z/\z<=255:=(by simpa[Lit.wf,e1,e2]using h5);omega
  have hlen:(zs.take len).length=len:=by rw[List.length_take];omega
  refine go (zs.take len) (by omega) hb (.sl (some a) len cap 1 _ (λi _=>.int .u8 (zs.getD i 0)) (by rw[List.length_map,hlen]) hl hm (λe h=>?_) (λ_ h=>by cases h) (λad hd i j hi hj=>?_) (λi j c h=>?_))
  ·obtain⟨z,_,rfl⟩:=List.mem_map.1 h;rfl
  ·cases hd;have e:i*1+j=i:=(by omega);rw[e];exact TR W (hcell i (by omega))
  ·by_cases hi:i<len
   ·have hi':i<zs.length:=(by omega);have e:((zs.take len).map O4).getD i []=O4 (zs.getD i 0):=(by simp[List.getD,fD,bQ,hi,hi']);rw[e]at h
    match j with
    | 0=>simp only[sU,aH]at h;subst h;exact .lit _ rfl
    |j+1=>simp at h
   ·have e:((zs.take len).map O4).getD i []=[]:=by
     simp[List.getD,fD,bQ,hi]
    rw[e]at h;simp at h
end Go.Ab
end
