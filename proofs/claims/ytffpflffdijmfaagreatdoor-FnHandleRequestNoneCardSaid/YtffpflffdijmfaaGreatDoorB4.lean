/- The functions of the program that the laws reach: what they compute, the proofs that they do, the laws of the data (part 4). No conditions. -/
import Derived.Test.YtffpflffdijmfaaGreatDoorB3
set_option linter.unusedVariables false
set_option linter.unusedSimpArgs false
section
namespace Go.Ab
open Go
set_option maxRecDepth 100000
set_option maxHeartbeats 4000000
set_option linter.unusedVariables false
set_option linter.unusedSimpArgs false
theorem F.dw {n:Nat} : ∀ {ah:aC} {r:Bool},G.dw n ah=some r->bG pZ 126 [.one (wS ah)] (.one (.c (.lit (.bool r)))):=by
  intro ah r h
  refine aG K.dw (kF ?_)
  unfold C.dw
  rcases n with _ | n<;>simp only [G.dw,reduceCtorEq] at h
  obtain ⟨zc,zg,zk,zu,ze,zj,zt⟩:=pp (pp @F.cZ ()) <| pp () <| pp (pp (@lS (Int) _ (fun n x=>G.dw.L1 n ah x) r (fun x=>cu.of [eS 0 ah,eI 3 x] [])) ()) <| pp () <| pp (pp (And.intro @G.dw.L1.eq_1 <| @G.dw.L1.eq_2) ()) <| pp (pp (@bg [] [] []) ()) <| ()
  exact kN
theorem F.jq {n:Nat} : ∀ {aA:List aC} {r:Bool},G.jq n aA=some r->bG pZ 128 [.one (wT aA)] (.one (.c (.lit (.bool r)))):=by
  intro aA r h
  refine aG K.jq (kF ?_)
  unfold C.jq
  rcases n with _ | n<;>simp only [G.jq,reduceCtorEq] at h
  obtain ⟨zc,zg,zk,zu,ze,zj,zt⟩:=pp (pp @F.dw ()) <| pp () <| pp (pp (@lS (Int) _ (fun n x=>G.jq.L1 n aA x) r (fun x=>cu.of [eT 0 aA,eI 3 x] [])) ()) <| pp () <| pp (pp (And.intro @G.jq.L1.eq_1 <| @G.jq.L1.eq_2) ()) <| pp (pp (@bg [] [] []) ()) <| ()
  exact kN
theorem F.Gu:∀ (n:Nat),(∀ {ag:af} {aY:Int} {r:Bool},G.kJ n ag aY=some r->bG pZ 127 [.agg (wN ag),.one (wI aY)] (.one (.c (.lit (.bool r)))))/\(∀ {ag:af} {aY:Int} {r:Bool},G.dO n ag aY=some r->bG pZ 92 [.agg (wN ag),.one (wI aY)] (.one (.c (.lit (.bool r))))):=by
  intro n
  induction n using Nat.strongRecOn with | _ n ih =>
  refine ⟨?_,?_⟩
  · intro ag aY r h
    refine aG K.kJ (kF ?_)
    unfold C.kJ
    rcases n with _ | n<;>simp only [G.kJ,reduceCtorEq] at h
    obtain ⟨zc,zg,zk,zu,ze,zj,zt⟩:=pp (pp ((ihR ih)) ()) <| pp () <| pp (pp (@lS (Int) _ (fun n x=>G.kJ.L1 n ag aY x) r (fun x=>cu.of [eI 1 aY,eP 2 103,eI 5 x] [(103,.var (wN ag))])) ()) <| pp () <| pp (pp (And.intro @G.kJ.L1.eq_1 <| @G.kJ.L1.eq_2) ()) <| pp (pp (@bg [] [(103,10)] []) <| pp (@bg [] [(103,103)] []) ()) <| ()
    exact kN
  · intro ag aY r h
    refine aG K.dO (kF ?_)
    unfold C.dO
    rcases n with _ | n<;>simp only [G.dO,reduceCtorEq] at h
    obtain ⟨zc,zg,zk,zu,ze,zj,zt⟩:=pp (pp ((ihL ih)) <| pp @F.cZ <| pp @F.dw <| pp @F.jq ()) <| pp () <| pp () <| pp (pp (@pO (Unit) _ (fun n x=>G.dO.K1 n ag aY) r (fun x=>cu.of [eI 1 aY,eP 2 101,(54,.v true (.one (.c (.lit (.bool false)))))] [(101,.var (wN ag))])) ()) <| pp (pp (And.intro @G.dO.K1.eq_1 <| @G.dO.K1.eq_2) ()) <| pp (pp (@bg [] [(101,10)] []) ()) <| ()
    exact kN
theorem F.dO {n:Nat} : ∀ {ag:af} {aY:Int} {r:Bool},G.dO n ag aY=some r->bG pZ 92 [.agg (wN ag),.one (wI aY)] (.one (.c (.lit (.bool r)))):=(F.Gu n).2
theorem F.aV {n:Nat} : ∀ {ag:af} {r:Bool},G.aV n ag=some r->bG pZ 57 [.agg (wN ag)] (.one (.c (.lit (.bool r)))):=by
  intro ag r h
  refine aG K.aV (kF ?_)
  unfold C.aV
  rcases n with _ | n<;>simp only [G.aV,reduceCtorEq] at h
  obtain ⟨zc,zg,zk,zu,ze,zj,zt⟩:=pp (pp @F.dO <| pp @F.iV ()) <| pp () <| pp () <| pp () <| pp () <| pp () <| ()
  exact kN
theorem F.dJ {n:Nat} : ∀ {bQ:ReaderT} {r:af × ReaderT},G.dJ n bQ=some r->eF pZ 86 [.one (.ptr 0 0)] [.var [.c (.sl 1 (List.map cU bQ.b)),wI bQ.p]] (fun r1 b1=>r1 = .agg (wN r.1)/\b1=[.var [.c (.sl 1 (List.map cU r.2.b)),wI r.2.p]]):=by
  intro bQ r h
  refine dA K.dJ (kF ?_)
  unfold C.dJ
  rcases n with _ | n<;>simp only [G.dJ,reduceCtorEq] at h
  obtain ⟨zc,zg,zk,zu,ze,zj,zt⟩:=pp (pp @F.aV ()) <| pp (pp (pp @F.aK (@cG [0] [])) <| pp (pp @F.ay (@cG [0] [])) <| pp (pp @F.bY (@cG [0] [])) ()) <| pp () <| pp (pp (@pO (List Int × Int × Int × Int × aC × List aC × List af) _ (fun n x=>G.dJ.K1 n x.1 x.2.1 x.2.2.1 x.2.2.2.1 x.2.2.2.2.1 x.2.2.2.2.2.1 x.2.2.2.2.2.2) r (fun x=>cu.of [eP 2 101,eP 3 102] [(0,.var [.c (.sl 1 (List.map cU x.1)),wI x.2.1]),(101,.var zN),(102,.var [wI x.2.2.1,wI x.2.2.2.1,wS x.2.2.2.2.1,wT x.2.2.2.2.2.1,wK x.2.2.2.2.2.2])])) ()) <| pp (pp (And.intro @G.dJ.K1.eq_1 <| @G.dJ.K1.eq_2) ()) <| pp (pp (@bg [] [(0,0),(101,10),(102,11)] []) ()) <| (pp (@lT [] [(0,0)] []) ())
  exact kN
theorem F.D8 {n:Nat} : ∀ {bQ:ReaderT} {r:af × ReaderT},G.dJ n bQ=some r->eF pZ 86 [.one (.ptr 0 0)] [.var [.c (.sl 1 (List.map cU bQ.b)),wI bQ.p]] (fun r1 b1=>r1 = .agg [wI r.1.Kind,wI r.1.Num,wS r.1.Text,.own 1 r.1.Names.length 1,.own 2 r.1.Kids.length 5]/\b1=[.var [.c (.sl 1 (List.map cU r.2.b)),wI r.2.p],.dat 1 (List.map cS r.1.Names),.dat 5 (List.map af.cells r.1.Kids)]):=by
  intro bQ r h
  refine dA K.dJ (kF ?_)
  unfold C.dJ
  rcases n with _ | n<;>simp only [G.dJ,reduceCtorEq] at h
  obtain ⟨zc,zg,zk,zu,ze,zj,zt⟩:=pp (pp @F.aV ()) <| pp (pp (pp @F.BG (@cG [0] [101,102])) <| pp (pp @F.ay (@cG [0] [])) <| pp (pp @F.wF (@cG [0] [109,110])) ()) <| pp () <| pp (pp (@pO (List Int × Int × Int × Int × aC × List aC × List af) _ (fun n x=>G.dJ.K1 n x.1 x.2.1 x.2.2.1 x.2.2.2.1 x.2.2.2.2.1 x.2.2.2.2.2.1 x.2.2.2.2.2.2) r (fun x=>cu.of [eP 2 105,eP 3 106] [(0,.var [.c (.sl 1 (List.map cU x.1)),wI x.2.1]),(105,.var zN),(106,.var [wI x.2.2.1,wI x.2.2.2.1,wS x.2.2.2.2.1,.own 107 x.2.2.2.2.2.1.length 1,.own 108 x.2.2.2.2.2.2.length 5]),(107,.dat 1 (List.map cS x.2.2.2.2.2.1)),(108,.dat 5 (List.map af.cells x.2.2.2.2.2.2))])) ()) <| pp (pp (And.intro @G.dJ.K1.eq_1 <| @G.dJ.K1.eq_2) ()) <| pp (pp (@bg [] [(0,0),(105,10),(106,11),(107,109),(108,110)] []) <| pp (@bg [] [(0,0),(105,10),(106,11),(107,101),(108,102)] []) ()) <| (pp (@lT [] [(0,0),(1,107),(2,108)] []) <| pp (@lT [] [(0,0)] [1,2]) ())
  exact kN
theorem F.iR {n:Nat} : ∀ {bQ:ReaderT} {r:af × ReaderT},G.iR n bQ=some r->eF pZ 51 [.one (.ptr 0 0)] [.var [.c (.sl 1 (List.map cU bQ.b)),wI bQ.p]] (fun r1 b1=>r1 = .agg (wN r.1)/\b1=[.var [.c (.sl 1 (List.map cU r.2.b)),wI r.2.p]]):=by
  intro bQ r h
  refine dA K.iR (kF ?_)
  unfold C.iR
  rcases n with _ | n<;>simp only [G.iR,reduceCtorEq] at h
  obtain ⟨zc,zg,zk,zu,ze,zj,zt⟩:=pp (pp @F.au ()) <| pp (pp (pp @F.D8 (@cG [0] [101,102])) <| pp (pp @F.ay (@cG [0] [])) <| pp (pp @F.bZ (@cH [0] [])) ()) <| pp (pp (@lS ((af × ReaderT) × Int × List Int × Int × List af) _ (fun n x=>G.iR.L1 n x.1 x.2.1 x.2.2.1 x.2.2.2.1 x.2.2.2.2) r (fun x=>cu.of [eP 0 0,eP 2 113,eP 3 114,(4,.v true (.one (.own 115 x.2.2.2.2.length 5))),eI 5 x.2.1] [(0,.var [.c (.sl 1 (List.map cU x.2.2.1)),wI x.2.2.2.1]),(113,.var zN),(114,.var [wI x.1.1.Kind,wI x.1.1.Num,wS x.1.1.Text,.own 116 x.1.1.Names.length 1,.own 117 x.1.1.Kids.length 5]),(115,.dat 5 (List.map af.cells x.2.2.2.2)),(116,.sW 1 (List.map cS x.1.1.Names)),(117,.sW 5 (List.map af.cells x.1.1.Kids))])) ()) <| pp () <| pp (pp (And.intro @G.iR.L1.eq_1 <| @G.iR.L1.eq_2) ()) <| pp (pp (@bg [101,102] [(0,0),(113,10),(114,11),(115,20),(116,101),(117,102)] []) <| pp (@bg [] [(0,0),(113,113),(114,114),(115,22),(116,116),(117,117)] []) ()) <| (pp (@lT [101,102] [(0,0)] []) <| pp (@lT [15,102] [(0,0)] []) <| pp (@lT [19] [(0,0)] []) <| pp (@lT [115] [(0,0)] []) ())
  exact kN
theorem F.jS {n:Nat} : ∀ {bQ:ReaderT} {r:aC × ReaderT},G.jS n bQ=some r->eF pZ 50 [.one (.ptr 0 0)] [.var [.c (.sl 1 (List.map cU bQ.b)),wI bQ.p]] (fun r1 b1=>r1 = .one (wS r.1)/\b1=[.var [.c (.sl 1 (List.map cU r.2.b)),wI r.2.p]]):=by
  intro bQ r h
  refine dA K.jS (kF ?_)
  unfold C.jS
  rcases n with _ | n<;>simp only [G.jS,reduceCtorEq] at h
  obtain ⟨zc,zg,zk,zu,ze,zj,zt⟩:=pp () <| pp (pp (pp @F.dN (@cH [0] [])) ()) <| pp () <| pp () <| pp () <| pp () <| (pp (@lT [] [(0,0)] []) ())
  exact kN
theorem F.aQ {n:Nat} : ∀ {ah:StoreT} {r:StoreT},G.aQ n ah=some r->bG pZ 68 [.agg [.c (.sl 7 (List.map aB.cells ah.Items)),wI ah.Clock]] (.agg [.c (.sl 7 (List.map aB.cells r.Items)),wI r.Clock]):=by
  intro ah r h
  refine aG K.aQ (kF ?_)
  unfold C.aQ
  rcases n with _ | n<;>simp only [G.aQ,reduceCtorEq] at h
  obtain ⟨zc,zg,zk,zu,ze,zj,zt⟩:=pp (pp @F.au ()) <| pp () <| pp (pp (@lS (Int × List aB) _ (fun n x=>G.aQ.L1 n ah x.1 x.2) r (fun x=>cu.of [eP 1 107,eP 2 108,(3,.v true (.one (.own 109 x.2.length 7))),eI 4 x.1] [(107,.var [.c (.sl 7 (List.map aB.cells ah.Items)),wI ah.Clock]),(108,.var [.fU 7,wI 0]),(109,.dat 7 (List.map aB.cells x.2))])) ()) <| pp () <| pp (pp (And.intro @G.aQ.L1.eq_1 <| @G.aQ.L1.eq_2) ()) <| pp (pp (@bg [] [(107,10),(108,11),(109,12)] []) <| pp (@bg [] [(107,107),(108,108),(109,14)] []) ()) <| ()
  exact kN
theorem F.qC {n:Nat} : ∀ {ah:StoreT} {r:StoreT},G.aQ n ah=some r->eF pZ 68 [.agg [.own 0 ah.Items.length 7,wI ah.Clock]] [.dat 7 (List.map aB.cells ah.Items)] (fun r1 b1=>r1 = .agg [.own 1 r.Items.length 7,wI r.Clock]/\b1=[.dat 7 (List.map aB.cells ah.Items),.dat 7 (List.map aB.cells r.Items)]):=by
  intro ah r h
  refine dA K.qC (kF ?_)
  unfold C.aQ
  rcases n with _ | n<;>simp only [G.aQ,reduceCtorEq] at h
  obtain ⟨zc,zg,zk,zu,ze,zj,zt⟩:=pp (pp @F.au ()) <| pp () <| pp (pp (@lS (Int × List aB) _ (fun n x=>G.aQ.L1 n ah x.1 x.2) r (fun x=>cu.of [eP 1 107,eP 2 108,(3,.v true (.one (.own 109 x.2.length 7))),eI 4 x.1] [(0,.dat 7 (List.map aB.cells ah.Items)),(107,.var [.own 0 ah.Items.length 7,wI ah.Clock]),(108,.var [.fU 7,wI 0]),(109,.dat 7 (List.map aB.cells x.2))])) ()) <| pp () <| pp (pp (And.intro @G.aQ.L1.eq_1 <| @G.aQ.L1.eq_2) ()) <| pp (pp (@bg [] [(0,0),(107,10),(108,11),(109,12)] []) <| pp (@bg [] [(0,0),(107,107),(108,108),(109,14)] []) ()) <| (pp (@lT [] [(0,0),(1,109)] []) ())
  exact kN
theorem F.iE {n:Nat} : ∀ {ah:StoreT} {aJ:aC} {r:Int},G.iE n ah aJ=some r->bG pZ 67 [.agg [.c (.sl 7 (List.map aB.cells ah.Items)),wI ah.Clock],.one (wS aJ)] (.one (wI r)):=by
  intro ah aJ r h
  refine aG K.iE (kF ?_)
  unfold C.iE
  rcases n with _ | n<;>simp only [G.iE,reduceCtorEq] at h
  obtain ⟨zc,zg,zk,zu,ze,zj,zt⟩:=pp () <| pp () <| pp (pp (@lS (Int) _ (fun n x=>G.iE.L1 n ah aJ x) r (fun x=>cu.of [eS 1 aJ,eP 2 103,eI 5 x] [(103,.var [.c (.sl 7 (List.map aB.cells ah.Items)),wI ah.Clock])])) ()) <| pp () <| pp (pp (And.intro @G.iE.L1.eq_1 <| @G.iE.L1.eq_2) ()) <| pp (pp (@bg [] [(103,10)] []) <| pp (@bg [] [(103,103)] []) ()) <| ()
  exact kN
theorem F.dm {n:Nat} : ∀ {ah:aC} {r:Bool},G.dm n ah=some r->bG pZ 55 [.one (wS ah)] (.one (.c (.lit (.bool r)))):=by
  intro ah r h
  refine aG K.dm (kF ?_)
  unfold C.dm
  rcases n with _ | n<;>simp only [G.dm,reduceCtorEq] at h
  obtain ⟨zc,zg,zk,zu,ze,zj,zt⟩:=pp (pp @F.cZ ()) <| pp () <| pp (pp (@lS (Int) _ (fun n x=>G.dm.L1 n ah x) r (fun x=>cu.of [eS 0 ah,eI 3 x] [])) ()) <| pp () <| pp (pp (And.intro @G.dm.L1.eq_1 <| @G.dm.L1.eq_2) ()) <| pp (pp (@bg [] [] []) ()) <| ()
  exact kN
theorem F.aZ {n:Nat} : ∀ {ah:StoreT} {r:Bool},G.aZ n ah=some r->bG pZ 40 [.agg [.c (.sl 7 (List.map aB.cells ah.Items)),wI ah.Clock]] (.one (.c (.lit (.bool r)))):=by
  intro ah r h
  refine aG K.aZ (kF ?_)
  unfold C.aZ
  rcases n with _ | n<;>simp only [G.aZ,reduceCtorEq] at h
  obtain ⟨zc,zg,zk,zu,ze,zj,zt⟩:=pp (pp @F.dm <| pp @F.aV <| pp @F.cZ ()) <| pp () <| pp (pp (@lS (Int) _ (fun n x=>G.aZ.L1 n ah x) r (fun x=>cu.of [eP 1 103,eI 3 x] [(103,.var [.c (.sl 7 (List.map aB.cells ah.Items)),wI ah.Clock])])) ()) <| pp () <| pp (pp (And.intro @G.aZ.L1.eq_1 <| @G.aZ.L1.eq_2) ()) <| pp (pp (@bg [] [(103,10)] []) <| pp (@bg [] [(103,103)] []) ()) <| ()
  exact kN
theorem F.lH {n:Nat} : ∀ {ah:StoreT} {aJ:aC} {r:aB × Bool},G.lH n ah aJ=some r->bG pZ 83 [.agg [.c (.sl 7 (List.map aB.cells ah.Items)),wI ah.Clock],.one (wS aJ)] (.oq [(true,[wS r.1.Name,wI r.1.Version,wI r.1.Node.Kind,wI r.1.Node.Num,wS r.1.Node.Text,wT r.1.Node.Names,wK r.1.Node.Kids]),(false,[.c (.lit (.bool r.2))])]):=by
  intro ah aJ r h
  refine aG K.lH (kF ?_)
  unfold C.lH
  rcases n with _ | n<;>simp only [G.lH,reduceCtorEq] at h
  obtain ⟨zc,zg,zk,zu,ze,zj,zt⟩:=pp (pp @F.aZ <| pp @F.iE <| pp @F.aQ ()) <| pp () <| pp () <| pp () <| pp () <| pp () <| ()
  exact kN
theorem F.iW {n:Nat} : ∀ {ah:aC} {r:aC},G.iW n ah=some r->bG pZ 143 [.one (wS ah)] (.one (wS r)):=by
  intro ah r h
  refine aG K.iW (kF ?_)
  unfold C.iW
  rcases n with _ | n<;>simp only [G.iW,reduceCtorEq] at h
  obtain ⟨zc,zg,zk,zu,ze,zj,zt⟩:=pp () <| pp () <| pp (pp (@lS (aC × Int) _ (fun n x=>G.iW.L1 n ah x.1 x.2) r (fun x=>cu.of [eS 0 ah,eS 3 x.1,eI 4 x.2] [])) ()) <| pp () <| pp (pp (And.intro @G.iW.L1.eq_1 <| @G.iW.L1.eq_2) ()) <| pp (pp (@bg [] [] []) ()) <| ()
  exact kN
theorem F.Gw:∀ (n:Nat),∀ {ag:af} {r:aC},G.bH n ag=some r->bG pZ 108 [.agg (wN ag)] (.one (wS r)):=by
  intro n
  induction n using Nat.strongRecOn with | _ n ih =>
  intro ag r h
  refine aG K.bH (kF ?_)
  unfold C.bH
  rcases n with _ | n<;>simp only [G.bH,reduceCtorEq] at h
  have:=Mk.mk 1; have:=Mk.mk 2
  obtain ⟨zc,zg,zk,zu,ze,zj,zt,zq⟩:=pp (pp ih <| pp @F.gB <| pp @F.iW ()) <| pp () <| pp (pp (@lS (aC × Int) _ (fun n x=>G.bH.L5 n ag x.1 x.2) r (fun x=>cu.of [eP 1 107,eS 3 x.1,eI 4 x.2] [(107,.var (wN ag))])) ()) <| pp (pp (@pO (Int × aC) _ (fun n x=>G.bH.K6 n ag x.1 x.2) r (fun x=>cu.of [eP 1 108,eS 3 x.2,eI 4 x.1] [(108,.var (wN ag))])) <| pp (@pO (Int × aC) _ (fun n x=>G.bH.K7 n ag x.1 x.2) r (fun x=>cu.of [eP 1 109,eS 3 x.2,eI 4 x.1] [(109,.var (wN ag))])) ()) <| pp (pp (And.intro @G.bH.L5.eq_1 <| And.intro @G.bH.L5.eq_2 <| And.intro @G.bH.K6.eq_1 <| And.intro @G.bH.K6.eq_2 <| And.intro @G.bH.K7.eq_1 <| @G.bH.K7.eq_2) ()) <| pp (pp (@bg [] [(107,10)] []) <| pp (@bg [] [(108,107)] []) <| pp (@bg [] [(109,108)] []) <| pp (@bg [] [(107,109)] []) ()) <| pp () <| (pp (pp (rfl : @G.bH.K6=_) <| pp (rfl : @G.bH.L5=_) <| pp (rfl : @G.bH.K7=_) ()) <| pp (pp (rfl : @G.bH.K7=_) <| pp (rfl : @G.bH.K6=_) <| pp (rfl : @G.bH.L5=_) ()) ())
  exact OZ
theorem F.bH {n:Nat} : ∀ {ag:af} {r:aC},G.bH n ag=some r->bG pZ 108 [.agg (wN ag)] (.one (wS r)):=F.Gw n
theorem F.nP {n:Nat} : ∀ {ag:Int} {r:aC},G.nP n ag=some r->bG pZ 106 [.one (wI ag)] (.one (wS r)):=by
  intro ag r h
  refine aG K.nP (kF ?_)
  unfold C.nP
  rcases n with _ | n<;>simp only [G.nP,reduceCtorEq] at h
  obtain ⟨zc,zg,zk,zu,ze,zj,zt⟩:=pp () <| pp () <| pp () <| pp () <| pp () <| pp () <| ()
  exact kN
theorem F.jy {n:Nat} : ∀ {ah:aC} {r:Int},G.jy n ah=some r->bG pZ 107 [.one (wS ah)] (.one (wI r)):=by
  intro ah r h
  refine aG K.jy (kF ?_)
  unfold C.jy
  rcases n with _ | n<;>simp only [G.jy,reduceCtorEq] at h
  obtain ⟨zc,zg,zk,zu,ze,zj,zt⟩:=pp () <| pp () <| pp (pp (@lS (Int × Int) _ (fun n x=>G.jy.L1 n ah x.1 x.2) r (fun x=>cu.of [eS 0 ah,eI 3 x.1,eI 4 x.2] [])) ()) <| pp () <| pp (pp (And.intro @G.jy.L1.eq_1 <| @G.jy.L1.eq_2) ()) <| pp (pp (@bg [] [] []) ()) <| ()
  exact kN
theorem F.lY {n:Nat} : ∀ {ag:af} {r:aC},G.lY n ag=some r->bG pZ 85 [.agg (wN ag)] (.one (wS r)):=by
  intro ag r h
  refine aG K.lY (kF ?_)
  unfold C.lY
  rcases n with _ | n<;>simp only [G.lY,reduceCtorEq] at h
  obtain ⟨zc,zg,zk,zu,ze,zj,zt⟩:=pp (pp @F.aV <| pp @F.bH <| pp @F.jy <| pp @F.nP ()) <| pp () <| pp () <| pp () <| pp () <| pp () <| ()
  exact kN
theorem F.jd {n:Nat} : ∀ {bQ:ReaderT} {jh:aC} {r:List aC × ReaderT},G.jd n bQ jh=some r->eF pZ 84 [.one (.ptr 0 0),.one (wS jh)] [.var [.c (.sl 1 (List.map cU bQ.b)),wI bQ.p]] (fun r1 b1=>r1 = .one (wT r.1)/\b1=[.var [.c (.sl 1 (List.map cU r.2.b)),wI r.2.p]]):=by
  intro bQ jh r h
  refine dA K.jd (kF ?_)
  unfold C.jd
  rcases n with _ | n<;>simp only [G.jd,reduceCtorEq] at h
  obtain ⟨zc,zg,zk,zu,ze,zj,zt⟩:=pp () <| pp (pp (pp @F.bZ (@cH [0] [])) <| pp (pp @F.dN (@cH [0] [])) <| pp (pp @F.ay (@cG [0] [])) ()) <| pp (pp (@lS (Int × List Int × Int × List aC) _ (fun n x=>G.jd.L1 n jh x.1 x.2.1 x.2.2.1 x.2.2.2) r (fun x=>cu.of [eP 0 0,eS 1 jh,(5,.v true (.one (.own 103 x.2.2.2.length 1))),eI 6 x.1] [(0,.var [.c (.sl 1 (List.map cU x.2.1)),wI x.2.2.1]),(103,.dat 1 (List.map cS x.2.2.2))])) ()) <| pp () <| pp (pp (And.intro @G.jd.L1.eq_1 <| @G.jd.L1.eq_2) ()) <| pp (pp (@bg [] [(0,0),(103,10)] []) <| pp (@bg [] [(0,0),(103,14)] []) ()) <| (pp (@lT [103] [(0,0)] []) ())
  exact kN
theorem F.jJ {n:Nat} : ∀ {bQ:ReaderT} {r:aC × ReaderT},G.jJ n bQ=some r->eF pZ 115 [.one (.ptr 0 0)] [.var [.c (.sl 1 (List.map cU bQ.b)),wI bQ.p]] (fun r1 b1=>r1 = .one (wS r.1)/\b1=[.var [.c (.sl 1 (List.map cU r.2.b)),wI r.2.p]]):=by
  intro bQ r h
  refine dA K.jJ (kF ?_)
  unfold C.jJ
  rcases n with _ | n<;>simp only [G.jJ,reduceCtorEq] at h
  obtain ⟨zc,zg,zk,zu,ze,zj,zt⟩:=pp () <| pp (pp (pp @F.dN (@cH [0] [])) ()) <| pp () <| pp () <| pp () <| pp () <| (pp (@lT [] [(0,0)] []) ())
  exact kN
theorem F.ny {n:Nat} : ∀ {bQ:ReaderT} {ah:StoreT} {r:aC × ReaderT},G.ny n bQ ah=some r->eF pZ 82 [.one (.ptr 0 0),.agg [.c (.sl 7 (List.map aB.cells ah.Items)),wI ah.Clock]] [.var [.c (.sl 1 (List.map cU bQ.b)),wI bQ.p]] (fun r1 b1=>r1 = .one (wS r.1)/\b1=[.var [.c (.sl 1 (List.map cU r.2.b)),wI r.2.p]]):=by
  intro bQ ah r h
  refine dA K.ny (kF ?_)
  unfold C.ny
  rcases n with _ | n<;>simp only [G.ny,reduceCtorEq] at h
  obtain ⟨zc,zg,zk,zu,ze,zj,zt⟩:=pp () <| pp (pp (pp @F.ay (@cG [0] [])) <| pp (pp @F.jS (@cG [0] [])) <| pp (pp @F.jJ (@cG [0] [])) ()) <| pp () <| pp () <| pp () <| pp () <| (pp (@lT [] [(0,0)] []) ())
  exact kN
theorem F.kH {n:Nat} : ∀ {ag:af} {ai:List aC} {r:af × Bool},G.kH n ag ai=some r->bG pZ 124 [.agg (wN ag),.one (wT ai)] (.oq [(true,(wN r.1)),(false,[.c (.lit (.bool r.2))])]):=by
  intro ag ai r h
  refine aG K.kH (kF ?_)
  unfold C.kH
  rcases n with _ | n<;>simp only [G.kH,reduceCtorEq] at h
  obtain ⟨zc,zg,zk,zu,ze,zj,zt⟩:=pp (pp @F.dD <| pp @F.au ()) <| pp () <| pp (pp (@lS (Int × Int × Int × aC × List aC × List af) _ (fun n x=>G.kH.L1 n ai x.1 x.2.1 x.2.2.1 x.2.2.2.1 x.2.2.2.2.1 x.2.2.2.2.2) r (fun x=>cu.of [eT 1 ai,eP 2 105,eP 4 106,eI 6 x.1] [(105,.var [wI x.2.1,wI x.2.2.1,wS x.2.2.2.1,wT x.2.2.2.2.1,wK x.2.2.2.2.2]),(106,.var zN)])) ()) <| pp () <| pp (pp (And.intro @G.kH.L1.eq_1 <| @G.kH.L1.eq_2) ()) <| pp (pp (@bg [] [(105,10),(106,11)] []) <| pp (@bg [] [(105,105),(106,106)] []) ()) <| ()
  exact kN
theorem F.Ji:∀ (n:Nat),∀ {ag:af} {ai:List aC} {bU:af} {r:af × Bool},G.iY n ag ai bU=some r->bG pZ 122 [.agg (wN ag),.one (wT ai),.agg (wN bU)] (.oq [(true,(wN r.1)),(false,[.c (.lit (.bool r.2))])]):=by
  intro n
  induction n using Nat.strongRecOn with | _ n ih =>
  intro ag ai bU r h
  refine aG K.iY (kF ?_)
  unfold C.iY
  rcases n with _ | n<;>simp only [G.iY,reduceCtorEq] at h
  obtain ⟨zc,zg,zk,zu,ze,zj,zt⟩:=pp (pp ih <| pp @F.au <| pp @F.dD <| pp @F.iL ()) <| pp () <| pp () <| pp () <| pp () <| pp () <| ()
  exact kN
theorem F.iY {n:Nat} : ∀ {ag:af} {ai:List aC} {bU:af} {r:af × Bool},G.iY n ag ai bU=some r->bG pZ 122 [.agg (wN ag),.one (wT ai),.agg (wN bU)] (.oq [(true,(wN r.1)),(false,[.c (.lit (.bool r.2))])]):=F.Ji n
theorem F.kG {n:Nat} : ∀ {ag:af} {ai:List aC} {bU:af} {r:af × Bool},G.kG n ag ai bU=some r->bG pZ 121 [.agg (wN ag),.one (wT ai),.agg (wN bU)] (.oq [(true,(wN r.1)),(false,[.c (.lit (.bool r.2))])]):=by
  intro ag ai bU r h
  refine aG K.kG (kF ?_)
  unfold C.kG
  rcases n with _ | n<;>simp only [G.kG,reduceCtorEq] at h
  obtain ⟨zc,zg,zk,zu,ze,zj,zt⟩:=pp (pp @F.au <| pp @F.kH <| pp @F.gZ <| pp @F.iY ()) <| pp () <| pp () <| pp () <| pp () <| pp () <| ()
  exact kN
theorem F.Nr:∀ (n:Nat),∀ {ag:af} {r:List (List aC)},G.dX n ag=some r->bG pZ 119 [.agg (wN ag)] (.one (.c (.sl 1 (List.map (cL 1 cS) r)))):=by
  intro n
  induction n using Nat.strongRecOn with | _ n ih =>
  intro ag r h
  refine aG K.dX (kF ?_)
  unfold C.dX
  rcases n with _ | n<;>simp only [G.dX,reduceCtorEq] at h
  obtain ⟨zc,zg,zk,zu,ze,zj,zt⟩:=pp (pp ih <| pp @F.gB ()) <| pp () <| pp (pp (@lS (Int × List (List aC)) _ (fun n x=>G.dX.L5 n ag x.1 x.2) r (fun x=>cu.of [eP 1 121,(3,.v true (.one (.own 122 x.2.length 1))),eI 4 x.1] [(121,.var (wN ag)),(122,.dat 1 (List.map (cL 1 cS) x.2))])) <| pp (@lS (Int × aC × List (List aC) × Int × List (List aC)) _ (fun n x=>G.dX.L7 n ag x.1 x.2.1 x.2.2.1 x.2.2.2.1 x.2.2.2.2) r (fun x=>cu.of [eP 1 129,(3,.v true (.one (.own 130 x.2.2.2.2.length 1))),eI 4 x.1,eS 5 x.2.1,(6,.v true (.one (.c (.sl 1 (List.map (cL 1 cS) x.2.2.1))))),eI 7 x.2.2.2.1] [(129,.var (wN ag)),(130,.dat 1 (List.map (cL 1 cS) x.2.2.2.2))])) ()) <| pp (pp (@pO (Int × List (List aC) × aC) _ (fun n x=>G.dX.K6 n ag x.1 x.2.1 x.2.2) r (fun x=>cu.of [eP 1 123,(3,.v true (.one (.own 124 x.2.1.length 1))),eI 4 x.1,eS 5 x.2.2] [(123,.var (wN ag)),(124,.dat 1 (List.map (cL 1 cS) x.2.1))])) ()) <| pp (pp (And.intro @G.dX.L5.eq_1 <| And.intro @G.dX.L5.eq_2 <| And.intro @G.dX.K6.eq_1 <| And.intro @G.dX.K6.eq_2 <| And.intro @G.dX.L7.eq_1 <| @G.dX.L7.eq_2) ()) <| pp (pp (@bg [] [(121,10),(122,12)] []) <| pp (@bg [] [(123,121),(124,122)] []) <| pp (@bg [] [(129,123),(130,124)] []) <| pp (@bg [] [(129,129),(130,16)] []) <| pp (@bg [] [(121,129),(122,130)] []) ()) <| ()
  exact kN
theorem F.dX {n:Nat} : ∀ {ag:af} {r:List (List aC)},G.dX n ag=some r->bG pZ 119 [.agg (wN ag)] (.one (.c (.sl 1 (List.map (cL 1 cS) r)))):=F.Nr n
theorem F.dY {n:Nat} : ∀ {ag:af} {ai:List aC} {r:af × Bool},G.dY n ag ai=some r->bG pZ 120 [.agg (wN ag),.one (wT ai)] (.oq [(true,(wN r.1)),(false,[.c (.lit (.bool r.2))])]):=by
  intro ag ai r h
  refine aG K.dY (kF ?_)
  unfold C.dY
  rcases n with _ | n<;>simp only [G.dY,reduceCtorEq] at h
  obtain ⟨zc,zg,zk,zu,ze,zj,zt⟩:=pp (pp @F.kH <| pp @F.dD <| pp @F.iY ()) <| pp () <| pp () <| pp (pp (@pO ((af × Bool) × List af × List aC) _ (fun n x=>G.dY.K1 n ag ai x.1 x.2.1 x.2.2) r (fun x=>cu.of [eT 1 ai,eP 2 101,eP 4 102,eI 6 (IntKind.wrap .i64 (((ai.length:Nat):Int)-1)),eP 7 103,(10,.v true (.one (.own 104 x.2.1.length 5))),(11,.v true (.one (.own 105 x.2.2.length 1)))] [(101,.var (wN ag)),(102,.var zN),(103,.var (wN x.1.1)),(104,.dat 5 (List.map af.cells x.2.1)),(105,.dat 1 (List.map cS x.2.2))])) ()) <| pp (pp (And.intro @G.dY.K1.eq_1 <| @G.dY.K1.eq_2) ()) <| pp (pp (@bg [] [(101,10),(102,11),(103,12),(104,15),(105,19)] []) <| pp (@bg [] [(101,10),(102,11),(103,12),(104,15),(105,16)] []) ()) <| ()
  exact kN
theorem F.iI {n:Nat} : ∀ {bQ:ReaderT} {ag:af} {r:af × ReaderT},G.iI n bQ ag=some r->eF pZ 87 [.one (.ptr 0 0),.agg (wN ag)] [.var [.c (.sl 1 (List.map cU bQ.b)),wI bQ.p]] (fun r1 b1=>r1 = .agg (wN r.1)/\b1=[.var [.c (.sl 1 (List.map cU r.2.b)),wI r.2.p]]):=by
  intro bQ ag r h
  refine dA K.iI (kF ?_)
  unfold C.iI
  rcases n with _ | n<;>simp only [G.iI,reduceCtorEq] at h
  obtain ⟨zc,zg,zk,zu,ze,zj,zt⟩:=pp (pp @F.dX <| pp @F.au <| pp @F.dY <| pp @F.kG <| pp @F.iY <| pp @F.aV ()) <| pp (pp (pp @F.ay (@cG [0] [])) <| pp (pp @F.dN (@cH [0] [])) <| pp (pp @F.aK (@cG [0] [])) <| pp (pp @F.dJ (@cG [0] [])) ()) <| pp () <| pp (pp (@pO (Bool × List Int × Int × Int × Int × aC × List aC × List af) _ (fun n x=>G.iI.K1 n ag x.1 x.2.1 x.2.2.1 x.2.2.2.1 x.2.2.2.2.1 x.2.2.2.2.2.1 x.2.2.2.2.2.2.1 x.2.2.2.2.2.2.2) r (fun x=>cu.of [eP 3 101,eP 4 102,eP 7 103,(8,.v true (.one (.c (.lit (.bool x.1)))))] [(0,.var [.c (.sl 1 (List.map cU x.2.1)),wI x.2.2.1]),(101,.var (wN ag)),(102,.var zN),(103,.var [wI x.2.2.2.1,wI x.2.2.2.2.1,wS x.2.2.2.2.2.1,wT x.2.2.2.2.2.2.1,wK x.2.2.2.2.2.2.2])])) ()) <| pp (pp (And.intro @G.iI.K1.eq_1 <| @G.iI.K1.eq_2) ()) <| pp (pp (@bg [] [(0,0),(101,10),(102,11),(103,12)] []) ()) <| (pp (@lT [] [(0,0)] []) ())
  exact kN
theorem F.lN {n:Nat} : ∀ {ag:af} {r:List (List aC)},G.lN n ag=some r->bG pZ 151 [.agg (wN ag)] (.one (.c (.sl 1 (List.map (cL 1 cS) r)))):=by
  intro ag r h
  refine aG K.lN (kF ?_)
  unfold C.lN
  rcases n with _ | n<;>simp only [G.lN,reduceCtorEq] at h
  obtain ⟨zc,zg,zk,zu,ze,zj,zt⟩:=pp (pp @F.aV <| pp @F.dX ()) <| pp () <| pp () <| pp () <| pp () <| pp () <| ()
  exact kN
theorem F.jc {n:Nat} : ∀ {bQ:ReaderT} {r:List aC × ReaderT},G.jc n bQ=some r->eF pZ 152 [.one (.ptr 0 0)] [.var [.c (.sl 1 (List.map cU bQ.b)),wI bQ.p]] (fun r1 b1=>r1 = .one (wT r.1)/\b1=[.var [.c (.sl 1 (List.map cU r.2.b)),wI r.2.p]]):=by
  intro bQ r h
  refine dA K.jc (kF ?_)
  unfold C.jc
  rcases n with _ | n<;>simp only [G.jc,reduceCtorEq] at h
  obtain ⟨zc,zg,zk,zu,ze,zj,zt⟩:=pp () <| pp (pp (pp @F.bZ (@cH [0] [])) <| pp (pp @F.dN (@cH [0] [])) <| pp (pp @F.ay (@cG [0] [])) ()) <| pp (pp (@lS (Int × List Int × Int × List aC) _ (fun n x=>G.jc.L1 n x.1 x.2.1 x.2.2.1 x.2.2.2) r (fun x=>cu.of [eP 0 0,(3,.v true (.one (.own 103 x.2.2.2.length 1))),eI 4 x.1] [(0,.var [.c (.sl 1 (List.map cU x.2.1)),wI x.2.2.1]),(103,.dat 1 (List.map cS x.2.2.2))])) ()) <| pp () <| pp (pp (And.intro @G.jc.L1.eq_1 <| @G.jc.L1.eq_2) ()) <| pp (pp (@bg [] [(0,0),(103,10)] []) <| pp (@bg [] [(0,0),(103,14)] []) ()) <| (pp (@lT [103] [(0,0)] []) ())
  exact kN
theorem F.mM {n:Nat} : ∀ {bQ:ReaderT} {ag:af} {r:List aC × ReaderT},G.mM n bQ ag=some r->eF pZ 123 [.one (.ptr 0 0),.agg (wN ag)] [.var [.c (.sl 1 (List.map cU bQ.b)),wI bQ.p]] (fun r1 b1=>r1 = .one (wT r.1)/\b1=[.var [.c (.sl 1 (List.map cU r.2.b)),wI r.2.p]]):=by
  intro bQ ag r h
  refine dA K.mM (kF ?_)
  unfold C.mM
  rcases n with _ | n<;>simp only [G.mM,reduceCtorEq] at h
  obtain ⟨zc,zg,zk,zu,ze,zj,zt⟩:=pp (pp @F.lN ()) <| pp (pp (pp @F.ay (@cG [0] [])) <| pp (pp @F.jc (@cG [0] [])) ()) <| pp () <| pp () <| pp () <| pp () <| (pp (@lT [] [(0,0)] []) ())
  exact kN
theorem F.aU {n:Nat} : ∀ {bQ:ReaderT} {ag:af} {r:lU × ReaderT},G.aU n bQ ag=some r->eF pZ 88 [.one (.ptr 0 0),.agg (wN ag)] [.var [.c (.sl 1 (List.map cU bQ.b)),wI bQ.p]] (fun r1 b1=>r1 = .agg [wI r.1.Kind,wT r.1.Path,wT r.1.From,wI r.1.Value.Kind,wI r.1.Value.Num,wS r.1.Value.Text,wT r.1.Value.Names,wK r.1.Value.Kids]/\b1=[.var [.c (.sl 1 (List.map cU r.2.b)),wI r.2.p]]):=by
  intro bQ ag r h
  refine dA K.aU (kF ?_)
  unfold C.aU
  rcases n with _ | n<;>simp only [G.aU,reduceCtorEq] at h
  have:=Mk.mk 1; have:=Mk.mk 2; have:=Mk.mk 3; have:=Mk.mk 4
  obtain ⟨zc,zg,zk,zu,ze,zj,zt,zq⟩:=pp (pp @F.kH ()) <| pp (pp (pp @F.ay (@cG [0] [])) <| pp (pp @F.mM (@cG [0] [])) <| pp (pp @F.aK (@cG [0] [])) <| pp (pp @F.dN (@cH [0] [])) ()) <| pp () <| pp (pp (@pO ((Int × ReaderT) × (List aC × ReaderT) × List Int × Int × List aC × Int × Int × aC × List aC × List af) _ (fun n x=>G.aU.K3 n x.1 x.2.1 x.2.2.1 x.2.2.2.1 x.2.2.2.2.1 x.2.2.2.2.2.1 x.2.2.2.2.2.2.1 x.2.2.2.2.2.2.2.1 x.2.2.2.2.2.2.2.2.1 x.2.2.2.2.2.2.2.2.2) r (fun x=>cu.of [eP 0 0,eP 4 109,eP 5 110] [(0,.var [.c (.sl 1 (List.map cU x.2.2.1)),wI x.2.2.2.1]),(109,.var [wI 0,.fU 1,.fU 1,wI 0,wI 0,.c (.str []),.fU 1,.fU 5]),(110,.var [wI (IntKind.wrap .i64 (1+x.1.1)),wT x.2.1.1,wT x.2.2.2.2.1,wI x.2.2.2.2.2.1,wI x.2.2.2.2.2.2.1,wS x.2.2.2.2.2.2.2.1,wT x.2.2.2.2.2.2.2.2.1,wK x.2.2.2.2.2.2.2.2.2])])) <| pp (@pO ((Int × ReaderT) × (List aC × ReaderT) × Bool) _ (fun n x=>G.aU.K5 n ag x.1 x.2.1 x.2.2) r (fun x=>cu.of [eP 0 0,eP 3 113,eP 4 114,eP 5 115,eI 18 (IntKind.wrap .i64 (1+x.1.1)),(19,.v true (.one (.c (.lit (.bool x.2.2)))))] [(0,.var [.c (.sl 1 (List.map cU x.2.1.2.b)),wI x.2.1.2.p]),(113,.var (wN ag)),(114,.var [wI 0,.fU 1,.fU 1,wI 0,wI 0,.c (.str []),.fU 1,.fU 5]),(115,.var [wI (IntKind.wrap .i64 (1+x.1.1)),wT x.2.1.1,.own 116 0 1,wI 0,wI 0,.c (.str []),.fU 1,.fU 5]),(116,.dat 1 (List.map cS []))])) <| pp (@pO ((Int × ReaderT) × (List aC × ReaderT) × Bool) _ (fun n x=>G.aU.K6 n ag x.1 x.2.1 x.2.2) r (fun x=>cu.of [eP 0 0,eP 3 117,eP 4 118,eP 5 119,(42,.v true (.one (.c (.lit (.bool x.2.2)))))] [(0,.var [.c (.sl 1 (List.map cU x.2.1.2.b)),wI x.2.1.2.p]),(117,.var (wN ag)),(118,.var [wI 0,.fU 1,.fU 1,wI 0,wI 0,.c (.str []),.fU 1,.fU 5]),(119,.var [wI (IntKind.wrap .i64 (1+x.1.1)),wT x.2.1.1,.own 120 0 1,wI 0,wI 0,.c (.str []),.fU 1,.fU 5]),(120,.dat 1 (List.map cS []))])) <| pp (@pO ((Int × ReaderT) × (List aC × ReaderT) × List aC × Int × Int × aC × List aC × List af × Bool × List Int × Int) _ (fun n x=>G.aU.K4 n x.1 x.2.1 x.2.2.1 x.2.2.2.1 x.2.2.2.2.1 x.2.2.2.2.2.1 x.2.2.2.2.2.2.1 x.2.2.2.2.2.2.2.1 x.2.2.2.2.2.2.2.2.1 x.2.2.2.2.2.2.2.2.2.1 x.2.2.2.2.2.2.2.2.2.2) r (fun x=>cu.of [eP 0 0,eP 4 111,eP 5 112,(72,.v true (.one (.c (.lit (.bool x.2.2.2.2.2.2.2.2.1)))))] [(0,.var [.c (.sl 1 (List.map cU x.2.2.2.2.2.2.2.2.2.1)),wI x.2.2.2.2.2.2.2.2.2.2]),(111,.var [wI 0,.fU 1,.fU 1,wI 0,wI 0,.c (.str []),.fU 1,.fU 5]),(112,.var [wI (IntKind.wrap .i64 (1+x.1.1)),wT x.2.1.1,wT x.2.2.1,wI x.2.2.2.1,wI x.2.2.2.2.1,wS x.2.2.2.2.2.1,wT x.2.2.2.2.2.2.1,wK x.2.2.2.2.2.2.2.1])])) ()) <| pp (pp (And.intro @G.aU.K3.eq_1 <| And.intro @G.aU.K3.eq_2 <| And.intro @G.aU.K5.eq_1 <| And.intro @G.aU.K5.eq_2 <| And.intro @G.aU.K6.eq_1 <| And.intro @G.aU.K6.eq_2 <| And.intro @G.aU.K4.eq_1 <| @G.aU.K4.eq_2) ()) <| pp (pp (@bg [] [(0,0),(113,10),(114,11),(115,13),(116,12)] []) <| pp (@bg [116] [(0,0),(109,114),(110,115)] []) <| pp (@bg [] [(0,0),(117,113),(118,114),(119,115),(120,116)] []) <| pp (@bg [] [(0,0),(109,118),(110,119)] []) <| pp (@bg [120] [(0,0),(109,118),(110,119)] []) <| pp (@bg [] [(0,0),(111,109),(112,110)] []) ()) <| pp (pp (@lT [19] [(0,0)] []) <| pp (@lT [] [(0,0)] []) ()) <| (pp (pp (rfl : @G.aU.K3=_) <| pp (rfl : @G.aU.K6=_) <| pp (rfl : @G.aU.K5=_) ()) <| pp (pp (rfl : @G.aU.K5=_) ()) <| pp (pp (rfl : @G.aU.K6=_) <| pp (rfl : @G.aU.K5=_) ()) <| pp (pp (rfl : @G.aU.K4=_) <| pp (rfl : @G.aU.K3=_) <| pp (rfl : @G.aU.K6=_) <| pp (rfl : @G.aU.K5=_) ()) ())
  exact OZ
theorem F.aF {n:Nat} : ∀ {bQ:ReaderT} {ah:StoreT} {r:RequestT × ReaderT},G.aF n bQ ah=some r->eF pZ 47 [.one (.ptr 0 0),.agg [.c (.sl 7 (List.map aB.cells ah.Items)),wI ah.Clock]] [.var [.c (.sl 1 (List.map cU bQ.b)),wI bQ.p]] (fun r1 b1=>r1 = .agg [wI r.1.Method,wS r.1.Name,wT r.1.Want,wT r.1.l7,wI r.1.Body.Kind,wI r.1.Body.Num,wS r.1.Body.Text,wT r.1.Body.Names,wK r.1.Body.Kids,.c (.sl 8 (List.map lU.cells r.1.Ops))]/\b1=[.var [.c (.sl 1 (List.map cU r.2.b)),wI r.2.p]]):=by
  intro bQ ah r h
  refine dA K.aF (kF ?_)
  unfold C.aF
  rcases n with _ | n<;>simp only [G.aF,reduceCtorEq] at h
  have:=Mk.mk 1; have:=Mk.mk 2; have:=Mk.mk 3
  obtain ⟨zc,zg,zk,zu,ze,zj,zt,zq⟩:=pp (pp @F.lH <| pp @F.lY ()) <| pp (pp (pp @F.ny (@cG [0] [])) <| pp (pp @F.ay (@cG [0] [])) <| pp (pp @F.jd (@cG [0] [])) <| pp (pp @F.dJ (@cG [0] [])) <| pp (pp @F.iI (@cG [0] [])) <| pp (pp @F.aU (@cG [0] [])) ()) <| pp (pp (@lS ((aC × ReaderT) × (aB × Bool) × (Int × ReaderT) × List aC × List aC × Int × List Int × Int × List lU) _ (fun n x=>G.aF.L5 n x.1 x.2.1 x.2.2.1 x.2.2.2.1 x.2.2.2.2.1 x.2.2.2.2.2.1 x.2.2.2.2.2.2.1 x.2.2.2.2.2.2.2.1 x.2.2.2.2.2.2.2.2) r (fun x=>cu.of [eP 0 0,eP 4 133,eP 6 134,(7,.v true (.one (.c (.lit (.bool x.2.1.2))))),eP 8 135,eI 9 x.2.2.2.2.2.1] [(0,.var [.c (.sl 1 (List.map cU x.2.2.2.2.2.2.1)),wI x.2.2.2.2.2.2.2.1]),(133,.var [wI 0,.c (.str []),.fU 1,.fU 1,wI 0,wI 0,.c (.str []),.fU 1,.fU 5,.fU 8]),(134,.var [wS x.2.1.1.Name,wI x.2.1.1.Version,wI x.2.1.1.Node.Kind,wI x.2.1.1.Node.Num,wS x.2.1.1.Node.Text,wT x.2.1.1.Node.Names,wK x.2.1.1.Node.Kids]),(135,.var [wI (IntKind.wrap .i64 (1+x.2.2.1.1)),wS x.1.1,wT x.2.2.2.1,wT x.2.2.2.2.1,wI 0,wI 0,.c (.str []),.fU 1,.fU 5,.own 136 x.2.2.2.2.2.2.2.2.length 8]),(136,.dat 8 (List.map lU.cells x.2.2.2.2.2.2.2.2))])) ()) <| pp (pp (@pO ((aC × ReaderT) × (aB × Bool) × (Int × ReaderT) × List Int × Int × List aC) _ (fun n x=>G.aF.K1 n x.1 x.2.1 x.2.2.1 x.2.2.2.1 x.2.2.2.2.1 x.2.2.2.2.2) r (fun x=>cu.of [eP 0 0,eP 4 101,eP 6 102,(7,.v true (.one (.c (.lit (.bool x.2.1.2))))),eP 8 103] [(0,.var [.c (.sl 1 (List.map cU x.2.2.2.1)),wI x.2.2.2.2.1]),(101,.var [wI 0,.c (.str []),.fU 1,.fU 1,wI 0,wI 0,.c (.str []),.fU 1,.fU 5,.fU 8]),(102,.var [wS x.2.1.1.Name,wI x.2.1.1.Version,wI x.2.1.1.Node.Kind,wI x.2.1.1.Node.Num,wS x.2.1.1.Node.Text,wT x.2.1.1.Node.Names,wK x.2.1.1.Node.Kids]),(103,.var [wI (IntKind.wrap .i64 (1+x.2.2.1.1)),wS x.1.1,wT x.2.2.2.2.2,.own 104 0 1,wI 0,wI 0,.c (.str []),.fU 1,.fU 5,.own 105 0 8]),(104,.dat 1 (List.map cS [])),(105,.dat 8 (List.map lU.cells []))])) <| pp (@pO ((aC × ReaderT) × (aB × Bool) × (Int × ReaderT) × List aC × List Int × Int × List aC) _ (fun n x=>G.aF.K2 n x.1 x.2.1 x.2.2.1 x.2.2.2.1 x.2.2.2.2.1 x.2.2.2.2.2.1 x.2.2.2.2.2.2) r (fun x=>cu.of [eP 0 0,eP 4 106,eP 6 107,(7,.v true (.one (.c (.lit (.bool x.2.1.2))))),eP 8 108] [(0,.var [.c (.sl 1 (List.map cU x.2.2.2.2.1)),wI x.2.2.2.2.2.1]),(106,.var [wI 0,.c (.str []),.fU 1,.fU 1,wI 0,wI 0,.c (.str []),.fU 1,.fU 5,.fU 8]),(107,.var [wS x.2.1.1.Name,wI x.2.1.1.Version,wI x.2.1.1.Node.Kind,wI x.2.1.1.Node.Num,wS x.2.1.1.Node.Text,wT x.2.1.1.Node.Names,wK x.2.1.1.Node.Kids]),(108,.var [wI (IntKind.wrap .i64 (1+x.2.2.1.1)),wS x.1.1,wT x.2.2.2.1,wT x.2.2.2.2.2.2,wI 0,wI 0,.c (.str []),.fU 1,.fU 5,.own 109 0 8]),(109,.dat 8 (List.map lU.cells []))])) <| pp (@pO ((aC × ReaderT) × (aB × Bool) × (Int × ReaderT) × List aC × List aC × List Int × Int × Int × Int × aC × List aC × List af × List lU) _ (fun n x=>G.aF.K4 n x.1 x.2.1 x.2.2.1 x.2.2.2.1 x.2.2.2.2.1 x.2.2.2.2.2.1 x.2.2.2.2.2.2.1 x.2.2.2.2.2.2.2.1 x.2.2.2.2.2.2.2.2.1 x.2.2.2.2.2.2.2.2.2.1 x.2.2.2.2.2.2.2.2.2.2.1 x.2.2.2.2.2.2.2.2.2.2.2.1 x.2.2.2.2.2.2.2.2.2.2.2.2) r (fun x=>cu.of [eP 0 0,eP 4 122,(7,.v true (.one (.c (.lit (.bool x.2.1.2))))),eP 8 123] [(0,.var [.c (.sl 1 (List.map cU x.2.2.2.2.2.1)),wI x.2.2.2.2.2.2.1]),(122,.var [wI 0,.c (.str []),.fU 1,.fU 1,wI 0,wI 0,.c (.str []),.fU 1,.fU 5,.fU 8]),(123,.var [wI (IntKind.wrap .i64 (1+x.2.2.1.1)),wS x.1.1,wT x.2.2.2.1,wT x.2.2.2.2.1,wI x.2.2.2.2.2.2.2.1,wI x.2.2.2.2.2.2.2.2.1,wS x.2.2.2.2.2.2.2.2.2.1,wT x.2.2.2.2.2.2.2.2.2.2.1,wK x.2.2.2.2.2.2.2.2.2.2.2.1,.own 124 x.2.2.2.2.2.2.2.2.2.2.2.2.length 8]),(124,.dat 8 (List.map lU.cells x.2.2.2.2.2.2.2.2.2.2.2.2))])) ()) <| pp (pp (And.intro @G.aF.K1.eq_1 <| And.intro @G.aF.K1.eq_2 <| And.intro @G.aF.K2.eq_1 <| And.intro @G.aF.K2.eq_2 <| And.intro @G.aF.K4.eq_1 <| And.intro @G.aF.K4.eq_2 <| And.intro @G.aF.L5.eq_1 <| @G.aF.L5.eq_2) ()) <| pp (pp (@bg [] [(0,0),(101,11),(102,12),(103,16),(104,14),(105,15)] []) <| pp (@bg [13] [(0,0),(101,11),(102,12),(103,16),(104,14),(105,15)] []) <| pp (@bg [] [(0,0),(106,101),(107,102),(108,103),(109,105)] []) <| pp (@bg [104] [(0,0),(106,101),(107,102),(108,103),(109,105)] []) <| pp (@bg [] [(0,0),(122,106),(123,108),(124,109)] []) <| pp (@bg [] [(0,0),(133,106),(134,107),(135,108),(136,109)] []) <| pp (@bg [] [(0,0),(133,133),(134,134),(135,135),(136,18)] []) <| pp (@bg [] [(0,0),(122,133),(123,135),(124,136)] []) ()) <| pp (pp (@lT [124] [(0,0)] []) ()) <| (pp (pp (rfl : @G.aF.K1=_) ()) <| pp (pp (rfl : @G.aF.K2=_) <| pp (rfl : @G.aF.K1=_) ()) <| pp (pp (rfl : @G.aF.K4=_) <| pp (rfl : @G.aF.L5=_) <| pp (rfl : @G.aF.K2=_) <| pp (rfl : @G.aF.K1=_) ()) ())
  exact OZ
theorem F.kL {n:Nat} : ∀ {bQ:ReaderT} {ah:StoreT} {r:RequestT × ReaderT},G.kL n bQ ah=some r->eF pZ 26 [.one (.ptr 0 0),.agg [.c (.sl 7 (List.map aB.cells ah.Items)),wI ah.Clock]] [.var [.c (.sl 1 (List.map cU bQ.b)),wI bQ.p]] (fun r1 b1=>r1 = .agg [wI r.1.Method,wS r.1.Name,wT r.1.Want,wT r.1.l7,wI r.1.Body.Kind,wI r.1.Body.Num,wS r.1.Body.Text,wT r.1.Body.Names,wK r.1.Body.Kids,.c (.sl 8 (List.map lU.cells r.1.Ops))]/\b1=[.var [.c (.sl 1 (List.map cU r.2.b)),wI r.2.p]]):=by
  intro bQ ah r h
  refine dA K.kL (kF ?_)
  unfold C.kL
  rcases n with _ | n<;>simp only [G.kL,reduceCtorEq] at h
  obtain ⟨zc,zg,zk,zu,ze,zj,zt⟩:=pp () <| pp (pp (pp @F.aF (@cG [0] [])) <| pp (pp @F.ay (@cG [0] [])) <| pp (pp @F.bZ (@cH [0] [])) <| pp (pp @F.jS (@cG [0] [])) <| pp (pp @F.iR (@cG [0] [])) ()) <| pp () <| pp () <| pp () <| pp () <| (pp (@lT [] [(0,0)] []) ())
  exact kN
theorem F.iO {n:Nat} : ∀ {ah:StoreT} {aJ:aC} {r:StoreT},G.iO n ah aJ=some r->bG pZ 73 [.agg [.c (.sl 7 (List.map aB.cells ah.Items)),wI ah.Clock],.one (wS aJ)] (.agg [.c (.sl 7 (List.map aB.cells r.Items)),wI r.Clock]):=by
  intro ah aJ r h
  refine aG K.iO (kF ?_)
  unfold C.iO
  rcases n with _ | n<;>simp only [G.iO,reduceCtorEq] at h
  obtain ⟨zc,zg,zk,zu,ze,zj,zt⟩:=pp (pp @F.aQ ()) <| pp () <| pp (pp (@lS (StoreT × Int × List aB) _ (fun n x=>G.iO.L1 n ah aJ x.1 x.2.1 x.2.2) r (fun x=>cu.of [eS 1 aJ,eP 2 107,eP 4 108,(5,.v true (.one (.own 109 x.2.2.length 7))),(6,.v true (.one (.c (.sl 7 (List.map aB.cells x.1.Items))))),eI 7 x.2.1] [(107,.var [.c (.sl 7 (List.map aB.cells ah.Items)),wI ah.Clock]),(108,.var [.fU 7,wI 0]),(109,.dat 7 (List.map aB.cells x.2.2))])) ()) <| pp () <| pp (pp (And.intro @G.iO.L1.eq_1 <| @G.iO.L1.eq_2) ()) <| pp (pp (@bg [] [(107,10),(108,11),(109,12)] []) <| pp (@bg [] [(107,107),(108,108),(109,109)] []) <| pp (@bg [] [(107,107),(108,108),(109,14)] []) ()) <| ()
  exact kN
theorem F.yj {n:Nat} : ∀ {ah:StoreT} {aJ:aC} {r:StoreT},G.iO n ah aJ=some r->eF pZ 73 [.agg [.own 0 ah.Items.length 7,wI ah.Clock],.one (wS aJ)] [.dat 7 (List.map aB.cells ah.Items)] (fun r1 b1=>r1 = .agg [.own 1 r.Items.length 7,wI r.Clock]/\b1=[.dat 7 (List.map aB.cells ah.Items),.dat 7 (List.map aB.cells r.Items)]):=by
  intro ah aJ r h
  refine dA K.yj (kF ?_)
  unfold C.iO
  rcases n with _ | n<;>simp only [G.iO,reduceCtorEq] at h
  obtain ⟨zc,zg,zk,zu,ze,zj,zt⟩:=pp () <| pp (pp (pp @F.qC (@cG [0] [101])) ()) <| pp (pp (@lS (StoreT × Int × List aB) _ (fun n x=>G.iO.L1 n ah aJ x.1 x.2.1 x.2.2) r (fun x=>cu.of [eS 1 aJ,eP 2 110,eP 4 111,(5,.v true (.one (.own 112 x.2.2.length 7))),(6,.v true (.one (.own 113 x.1.Items.length 7))),eI 7 x.2.1] [(0,.dat 7 (List.map aB.cells ah.Items)),(110,.var [.own 0 ah.Items.length 7,wI ah.Clock]),(111,.var [.fU 7,wI 0]),(112,.dat 7 (List.map aB.cells x.2.2)),(113,.dat 7 (List.map aB.cells x.1.Items))])) ()) <| pp () <| pp (pp (And.intro @G.iO.L1.eq_1 <| @G.iO.L1.eq_2) ()) <| pp (pp (@bg [] [(0,0),(110,10),(111,11),(112,12),(113,101)] []) <| pp (@bg [] [(0,0),(110,110),(111,111),(112,112),(113,113)] []) <| pp (@bg [] [(0,0),(110,110),(111,111),(112,14),(113,113)] []) ()) <| (pp (@lT [] [(0,0),(1,112)] []) ())
  exact kN
theorem F.tK {n:Nat} : ∀ {ah:StoreT} {aJ:aC} {r:StoreT × Bool},G.mQ n ah aJ=some r->eF pZ 116 [.agg [.own 0 ah.Items.length 7,wI ah.Clock],.one (wS aJ)] [.dat 7 (List.map aB.cells ah.Items)] (fun r1 b1=>r1 = .oq [(true,[.own 1 r.1.Items.length 7,wI r.1.Clock]),(false,[.c (.lit (.bool r.2))])]/\b1=[.dat 7 (List.map aB.cells ah.Items),.dat 7 (List.map aB.cells r.1.Items)]):=by
  intro ah aJ r h
  refine dA K.tK (kF ?_)
  unfold C.mQ
  rcases n with _ | n<;>simp only [G.mQ,reduceCtorEq] at h
  obtain ⟨zc,zg,zk,zu,ze,zj,zt⟩:=pp (pp @F.aZ <| pp @F.iE ()) <| pp (pp (pp @F.yj (@cG [0] [101])) ()) <| pp () <| pp () <| pp () <| pp () <| (pp (@lT [] [(0,0)] [1]) <| pp (@lT [] [(0,0),(1,101)] []) ())
  exact kN
theorem F.eX {n:Nat} : ∀ {ah:StoreT} {aJ:aC} {ag:af} {r:StoreT},G.eX n ah aJ ag=some r->bG pZ 109 [.agg [.c (.sl 7 (List.map aB.cells ah.Items)),wI ah.Clock],.one (wS aJ),.agg (wN ag)] (.agg [.c (.sl 7 (List.map aB.cells r.Items)),wI r.Clock]):=by
  intro ah aJ ag r h
  refine aG K.eX (kF ?_)
  unfold C.eX
  rcases n with _ | n<;>simp only [G.eX,reduceCtorEq] at h
  obtain ⟨zc,zg,zk,zu,ze,zj,zt⟩:=pp (pp @F.au <| pp @F.aQ ()) <| pp () <| pp (pp (@lS (af × StoreT × Bool × Int × List aB) _ (fun n x=>G.eX.L3 n ah aJ x.1 x.2.1 x.2.2.1 x.2.2.2.1 x.2.2.2.2) r (fun x=>cu.of [eS 1 aJ,eP 3 117,eP 6 118,(7,.v true (.one (.own 119 x.2.2.2.2.length 7))),eP 8 120,(9,.v true (.one (.c (.sl 7 (List.map aB.cells x.2.1.Items))))),(10,.v true (.one (.c (.lit (.bool x.2.2.1))))),eI 11 x.2.2.2.1] [(117,.var [.c (.sl 7 (List.map aB.cells ah.Items)),wI ah.Clock]),(118,.var [.fU 7,wI 0]),(119,.dat 7 (List.map aB.cells x.2.2.2.2)),(120,.var [wS aJ,wI (IntKind.wrap .i64 (ah.Clock+1)),wI x.1.Kind,wI x.1.Num,wS x.1.Text,wT x.1.Names,wK x.1.Kids])])) ()) <| pp (pp (@pO (af × StoreT × Int × Bool × List aB) _ (fun n x=>G.eX.K4 n ah aJ x.1 x.2.1 x.2.2.1 x.2.2.2.1 x.2.2.2.2) r (fun x=>cu.of [eS 1 aJ,eP 3 121,eP 6 122,(7,.v true (.one (.own 123 x.2.2.2.2.length 7))),eP 8 124,(9,.v true (.one (.c (.sl 7 (List.map aB.cells x.2.1.Items))))),(10,.v true (.one (.c (.lit (.bool x.2.2.2.1))))),eI 11 x.2.2.1] [(121,.var [.c (.sl 7 (List.map aB.cells ah.Items)),wI ah.Clock]),(122,.var [.fU 7,wI 0]),(123,.dat 7 (List.map aB.cells x.2.2.2.2)),(124,.var [wS aJ,wI (IntKind.wrap .i64 (ah.Clock+1)),wI x.1.Kind,wI x.1.Num,wS x.1.Text,wT x.1.Names,wK x.1.Kids])])) ()) <| pp (pp (And.intro @G.eX.L3.eq_1 <| And.intro @G.eX.L3.eq_2 <| And.intro @G.eX.K4.eq_1 <| @G.eX.K4.eq_2) ()) <| pp (pp (@bg [] [(117,10),(118,12),(119,13),(120,14)] []) <| pp (@bg [] [(121,117),(122,118),(123,119),(124,120)] []) <| pp (@bg [] [(121,117),(122,118),(123,16),(124,120)] []) <| pp (@bg [] [(117,121),(118,122),(119,123),(120,124)] []) <| pp (@bg [] [(117,121),(118,122),(119,18),(120,124)] []) ()) <| ()
  exact kN
theorem F.Ah {n:Nat} : ∀ {ah:StoreT} {aJ:aC} {ag:af} {r:StoreT},G.eX n ah aJ ag=some r->eF pZ 109 [.agg [.own 0 ah.Items.length 7,wI ah.Clock],.one (wS aJ),.agg (wN ag)] [.dat 7 (List.map aB.cells ah.Items)] (fun r1 b1=>r1 = .agg [.own 1 r.Items.length 7,wI r.Clock]/\b1=[.dat 7 (List.map aB.cells ah.Items),.dat 7 (List.map aB.cells r.Items)]):=by
  intro ah aJ ag r h
  refine dA K.Ah (kF ?_)
  unfold C.eX
  rcases n with _ | n<;>simp only [G.eX,reduceCtorEq] at h
  obtain ⟨zc,zg,zk,zu,ze,zj,zt⟩:=pp (pp @F.au ()) <| pp (pp (pp @F.qC (@cG [0] [101])) ()) <| pp (pp (@lS (af × StoreT × Bool × Int × List aB) _ (fun n x=>G.eX.L3 n ah aJ x.1 x.2.1 x.2.2.1 x.2.2.2.1 x.2.2.2.2) r (fun x=>cu.of [eS 1 aJ,eP 3 122,eP 6 123,(7,.v true (.one (.own 124 x.2.2.2.2.length 7))),eP 8 125,(9,.v true (.one (.own 126 x.2.1.Items.length 7))),(10,.v true (.one (.c (.lit (.bool x.2.2.1))))),eI 11 x.2.2.2.1] [(0,.dat 7 (List.map aB.cells ah.Items)),(122,.var [.own 0 ah.Items.length 7,wI ah.Clock]),(123,.var [.fU 7,wI 0]),(124,.dat 7 (List.map aB.cells x.2.2.2.2)),(125,.var [wS aJ,wI (IntKind.wrap .i64 (ah.Clock+1)),wI x.1.Kind,wI x.1.Num,wS x.1.Text,wT x.1.Names,wK x.1.Kids]),(126,.dat 7 (List.map aB.cells x.2.1.Items))])) ()) <| pp (pp (@pO (af × StoreT × Int × Bool × List aB) _ (fun n x=>G.eX.K4 n ah aJ x.1 x.2.1 x.2.2.1 x.2.2.2.1 x.2.2.2.2) r (fun x=>cu.of [eS 1 aJ,eP 3 127,eP 6 128,(7,.v true (.one (.own 129 x.2.2.2.2.length 7))),eP 8 130,(9,.v true (.one (.own 131 x.2.1.Items.length 7))),(10,.v true (.one (.c (.lit (.bool x.2.2.2.1))))),eI 11 x.2.2.1] [(0,.dat 7 (List.map aB.cells ah.Items)),(127,.var [.own 0 ah.Items.length 7,wI ah.Clock]),(128,.var [.fU 7,wI 0]),(129,.dat 7 (List.map aB.cells x.2.2.2.2)),(130,.var [wS aJ,wI (IntKind.wrap .i64 (ah.Clock+1)),wI x.1.Kind,wI x.1.Num,wS x.1.Text,wT x.1.Names,wK x.1.Kids]),(131,.dat 7 (List.map aB.cells x.2.1.Items))])) ()) <| pp (pp (And.intro @G.eX.L3.eq_1 <| And.intro @G.eX.L3.eq_2 <| And.intro @G.eX.K4.eq_1 <| @G.eX.K4.eq_2) ()) <| pp (pp (@bg [] [(0,0),(122,10),(123,12),(124,13),(125,14),(126,101)] []) <| pp (@bg [] [(0,0),(127,122),(128,123),(129,124),(130,125),(131,126)] []) <| pp (@bg [] [(0,0),(127,122),(128,123),(129,16),(130,125),(131,126)] []) <| pp (@bg [] [(0,0),(122,127),(123,128),(124,129),(125,130),(126,131)] []) <| pp (@bg [] [(0,0),(122,127),(123,128),(124,18),(125,130),(126,131)] []) ()) <| (pp (@lT [] [(0,0),(1,124)] []) <| pp (@lT [] [(0,0),(1,20)] []) ())
  exact kN
theorem F.uM {n:Nat} : ∀ {ah:StoreT} {aJ:aC} {ag:af} {r:StoreT × Bool},G.nN n ah aJ ag=some r->eF pZ 114 [.agg [.own 0 ah.Items.length 7,wI ah.Clock],.one (wS aJ),.agg (wN ag)] [.dat 7 (List.map aB.cells ah.Items)] (fun r1 b1=>r1 = .oq [(true,[.own 1 r.1.Items.length 7,wI r.1.Clock]),(false,[.c (.lit (.bool r.2))])]/\b1=[.dat 7 (List.map aB.cells ah.Items),.dat 7 (List.map aB.cells r.1.Items)]):=by
  intro ah aJ ag r h
  refine dA K.uM (kF ?_)
  unfold C.nN
  rcases n with _ | n<;>simp only [G.nN,reduceCtorEq] at h
  obtain ⟨zc,zg,zk,zu,ze,zj,zt⟩:=pp (pp @F.aZ <| pp @F.dm <| pp @F.aV ()) <| pp (pp (pp @F.Ah (@cG [0] [101])) ()) <| pp () <| pp () <| pp () <| pp () <| (pp (@lT [] [(0,0),(1,101)] []) <| pp (@lT [] [(0,0)] [1]) ())
  exact kN
theorem F.Dl {n:Nat} : ∀ {bQ:ReaderT} {r:StoreT × ReaderT},G.dG n bQ=some r->eF pZ 79 [.one (.ptr 0 0)] [.var [.c (.sl 1 (List.map cU bQ.b)),wI bQ.p]] (fun r1 b1=>r1 = .agg [.own 1 r.1.Items.length 7,wI r.1.Clock]/\b1=[.var [.c (.sl 1 (List.map cU r.2.b)),wI r.2.p],.dat 7 (List.map aB.cells r.1.Items)]):=by
  intro bQ r h
  refine dA K.dG (kF ?_)
  unfold C.dG
  rcases n with _ | n<;>simp only [G.dG,reduceCtorEq] at h
  obtain ⟨zc,zg,zk,zu,ze,zj,zt⟩:=pp () <| pp (pp (pp @F.bZ (@cH [0] [])) <| pp (pp @F.jJ (@cG [0] [])) <| pp (pp @F.dJ (@cG [0] [])) <| pp (pp @F.uM (@cG [125] [126])) <| pp (pp @F.ay (@cG [0] [])) <| pp (pp @F.tK (@cG [125] [133])) ()) <| pp (pp (@lS (Int × List Int × Int × List aB × Int) _ (fun n x=>G.dG.L3 n x.1 x.2.1 x.2.2.1 x.2.2.2.1 x.2.2.2.2) r (fun x=>cu.of [eP 0 0,eP 2 123,eP 3 124,eI 4 x.1] [(0,.var [.c (.sl 1 (List.map cU x.2.1)),wI x.2.2.1]),(123,.var [.fU 7,wI 0]),(124,.var [.own 125 x.2.2.2.1.length 7,wI x.2.2.2.2]),(125,.dat 7 (List.map aB.cells x.2.2.2.1))])) ()) <| pp (pp (@pO (Int × List aB × Int × Bool × List Int × Int × List aB × Int) _ (fun n x=>G.dG.K4 n x.1 x.2.1 x.2.2.1 x.2.2.2.1 x.2.2.2.2.1 x.2.2.2.2.2.1 x.2.2.2.2.2.2.1 x.2.2.2.2.2.2.2) r (fun x=>cu.of [eP 0 0,eP 2 128,eP 3 129,eI 4 x.1,eP 5 130,(6,.v true (.one (.c (.lit (.bool x.2.2.2.1)))))] [(0,.var [.c (.sl 1 (List.map cU x.2.2.2.2.1)),wI x.2.2.2.2.2.1]),(128,.var [.fU 7,wI 0]),(129,.var [.own 131 x.2.1.length 7,wI x.2.2.1]),(130,.var [.own 132 x.2.2.2.2.2.2.1.length 7,wI x.2.2.2.2.2.2.2]),(131,.dat 7 (List.map aB.cells x.2.1)),(132,.dat 7 (List.map aB.cells x.2.2.2.2.2.2.1))])) ()) <| pp (pp (And.intro @G.dG.L3.eq_1 <| And.intro @G.dG.L3.eq_2 <| And.intro @G.dG.K4.eq_1 <| @G.dG.K4.eq_2) ()) <| pp (pp (@bg [] [(0,0),(123,10),(124,12),(125,11)] []) <| pp (@bg [] [(0,0),(128,123),(129,124),(130,14),(131,125),(132,133)] []) <| pp (@bg [] [(0,0),(128,123),(129,124),(130,14),(131,125),(132,126)] []) <| pp (@bg [] [(0,0),(123,128),(124,129),(125,132)] []) <| pp (@bg [] [(0,0),(123,128),(124,129),(125,131)] []) ()) <| (pp (@lT [] [(0,0),(1,125)] []) ())
  exact kN
theorem F.lQ {n:Nat} : ∀ {bQ:ReaderT} {r:StoreT × ReaderT},G.lQ n bQ=some r->eF pZ 44 [.one (.ptr 0 0)] [.var [.c (.sl 1 (List.map cU bQ.b)),wI bQ.p]] (fun r1 b1=>r1 = .agg [.c (.sl 7 (List.map aB.cells r.1.Items)),wI r.1.Clock]/\b1=[.var [.c (.sl 1 (List.map cU r.2.b)),wI r.2.p]]):=by
  intro bQ r h
  refine dA K.lQ (kF ?_)
  unfold C.lQ
  rcases n with _ | n<;>simp only [G.lQ,reduceCtorEq] at h
  obtain ⟨zc,zg,zk,zu,ze,zj,zt⟩:=pp () <| pp (pp (pp @F.Dl (@cG [0] [101])) <| pp (pp @F.ay (@cG [0] [])) <| pp (pp @F.bZ (@cH [0] [])) <| pp (pp @F.jS (@cG [0] [])) <| pp (pp @F.iR (@cG [0] [])) ()) <| pp () <| pp () <| pp () <| pp () <| (pp (@lT [101] [(0,0)] []) <| pp (@lT [14] [(0,0)] []) ())
  exact kN
theorem F.kZ {n:Nat} : ∀ {nM:List Int} {r:ReaderT},G.kZ n nM=some r->eF pZ 25 [.one (.c (.sl 1 (List.map cU nM)))] [] (fun r1 b1=>r1 = .one (.ptr 0 0)/\b1=[.var [.c (.sl 1 (List.map cU r.b)),wI r.p]]):=by
  intro nM r h
  refine dA K.kZ (kF ?_)
  unfold C.kZ
  rcases n with _ | n<;>simp only [G.kZ,reduceCtorEq] at h
  obtain ⟨zc,zg,zk,zu,ze,zj,zt⟩:=pp () <| pp () <| pp () <| pp () <| pp () <| pp () <| (pp (@lT [] [(0,10)] []) ())
  exact kN
theorem F.iC {n:Nat} : ∀ {nM:List Int} {r:StoreT × RequestT},G.iC n nM=some r->bG pZ 21 [.one (.c (.sl 1 (List.map cU nM)))] (.oq [(true,[.c (.sl 7 (List.map aB.cells r.1.Items)),wI r.1.Clock]),(true,[wI r.2.Method,wS r.2.Name,wT r.2.Want,wT r.2.l7,wI r.2.Body.Kind,wI r.2.Body.Num,wS r.2.Body.Text,wT r.2.Body.Names,wK r.2.Body.Kids,.c (.sl 8 (List.map lU.cells r.2.Ops))])]):=by
  intro nM r h
  refine aG K.iC (kF ?_)
  unfold C.iC
  rcases n with _ | n<;>simp only [G.iC,reduceCtorEq] at h
  obtain ⟨zc,zg,zk,zu,ze,zj,zt⟩:=pp () <| pp (pp (pp @F.kZ (@cG [] [101])) <| pp (pp @F.lQ (@cG [101] [])) <| pp (pp @F.kL (@cG [101] [])) ()) <| pp () <| pp () <| pp () <| pp () <| ()
  exact kN
theorem F.iq {n:Nat} : ∀ {vO:Int} {r:bn},G.iq n vO=some r->bG pZ 45 [.one (wI vO)] (.agg [wI r.Status,wS r.Tag,wI r.Version,wI r.Body.Kind,wI r.Body.Num,wS r.Body.Text,wT r.Body.Names,wK r.Body.Kids]):=by
  intro vO r h
  refine aG K.iq (kF ?_)
  unfold C.iq
  rcases n with _ | n<;>simp only [G.iq,reduceCtorEq] at h
  obtain ⟨zc,zg,zk,zu,ze,zj,zt⟩:=pp () <| pp () <| pp () <| pp () <| pp () <| pp () <| ()
  exact kN
theorem F.iU {n:Nat} : ∀ {ai:List aC} {qY:List aC} {r:Bool},G.iU n ai qY=some r->bG pZ 162 [.one (wT ai),.one (wT qY)] (.one (.c (.lit (.bool r)))):=by
  intro ai qY r h
  refine aG K.iU (kF ?_)
  unfold C.iU
  rcases n with _ | n<;>simp only [G.iU,reduceCtorEq] at h
  obtain ⟨zc,zg,zk,zu,ze,zj,zt⟩:=pp () <| pp () <| pp (pp (@lS (Int) _ (fun n x=>G.iU.L1 n ai qY x) r (fun x=>cu.of [eT 0 ai,eT 1 qY,eI 5 x] [])) ()) <| pp () <| pp (pp (And.intro @G.iU.L1.eq_1 <| @G.iU.L1.eq_2) ()) <| pp (pp (@bg [] [] []) ()) <| ()
  exact kN
theorem F.iG {n:Nat} : ∀ {dI:Bool} {r:Int},G.iG n dI=some r->bG pZ 207 [.one (.c (.lit (.bool dI)))] (.one (wI r)):=by
  intro dI r h
  refine aG K.iG (kF ?_)
  unfold C.iG
  rcases n with _ | n<;>simp only [G.iG,reduceCtorEq] at h
  obtain ⟨zc,zg,zk,zu,ze,zj,zt⟩:=pp () <| pp () <| pp () <| pp () <| pp () <| pp () <| ()
  exact kN
theorem F.jX {n:Nat} : ∀ {dF:Int} {dI:Int} {r:Int},G.jX n dF dI=some r->bG pZ 197 [.one (wI dF),.one (wI dI)] (.one (wI r)):=by
  intro dF dI r h
  refine aG K.jX (kF ?_)
  unfold C.jX
  rcases n with _ | n<;>simp only [G.jX,reduceCtorEq] at h
  obtain ⟨zc,zg,zk,zu,ze,zj,zt⟩:=pp (pp @F.iG ()) <| pp () <| pp () <| pp () <| pp () <| pp () <| ()
  exact kN
theorem F.jv {n:Nat} : ∀ {dF:aC} {dI:aC} {r:Int},G.jv n dF dI=some r->bG pZ 198 [.one (wS dF),.one (wS dI)] (.one (wI r)):=by
  intro dF dI r h
  refine aG K.jv (kF ?_)
  unfold C.jv
  rcases n with _ | n<;>simp only [G.jv,reduceCtorEq] at h
  obtain ⟨zc,zg,zk,zu,ze,zj,zt⟩:=pp (pp @F.iG ()) <| pp () <| pp () <| pp () <| pp () <| pp () <| ()
  exact kN
theorem F.FT:∀ (n:Nat),∀ {dF:af} {dI:af} {r:Int},G.cO n dF dI=some r->bG pZ 178 [.agg (wN dF),.agg (wN dI)] (.one (wI r)):=by
  intro n
  induction n using Nat.strongRecOn with | _ n ih =>
  intro dF dI r h
  refine aG K.cO (kF ?_)
  unfold C.cO
  rcases n with _ | n<;>simp only [G.cO,reduceCtorEq] at h
  obtain ⟨zc,zg,zk,zu,ze,zj,zt⟩:=pp (pp ih <| pp @F.jX <| pp @F.jv ()) <| pp () <| pp (pp (@lS (Int) _ (fun n x=>G.cO.L1 n dF dI x) r (fun x=>cu.of [eP 2 105,eP 3 106,eI 5 x] [(105,.var (wN dF)),(106,.var (wN dI))])) ()) <| pp () <| pp (pp (And.intro @G.cO.L1.eq_1 <| @G.cO.L1.eq_2) ()) <| pp (pp (@bg [] [(105,10),(106,11)] []) <| pp (@bg [] [(105,105),(106,106)] []) ()) <| ()
  exact kN
theorem F.cO {n:Nat} : ∀ {dF:af} {dI:af} {r:Int},G.cO n dF dI=some r->bG pZ 178 [.agg (wN dF),.agg (wN dI)] (.one (wI r)):=F.FT n
theorem F.nT {n:Nat} : ∀ {dF:af} {dI:af} {r:Bool},G.nT n dF dI=some r->bG pZ 161 [.agg (wN dF),.agg (wN dI)] (.one (.c (.lit (.bool r)))):=by
  intro dF dI r h
  refine aG K.nT (kF ?_)
  unfold C.nT
  rcases n with _ | n<;>simp only [G.nT,reduceCtorEq] at h
  obtain ⟨zc,zg,zk,zu,ze,zj,zt⟩:=pp (pp @F.cO ()) <| pp () <| pp () <| pp () <| pp () <| pp () <| ()
  exact kN
theorem F.gK {n:Nat} : ∀ {ag:af} {iQ:lU} {r:af × Bool},G.gK n ag iQ=some r->bG pZ 144 [.agg (wN ag),.agg [wI iQ.Kind,wT iQ.Path,wT iQ.From,wI iQ.Value.Kind,wI iQ.Value.Num,wS iQ.Value.Text,wT iQ.Value.Names,wK iQ.Value.Kids]] (.oq [(true,(wN r.1)),(false,[.c (.lit (.bool r.2))])]):=by
  intro ag iQ r h
  refine aG K.gK (kF ?_)
  unfold C.gK
  rcases n with _ | n<;>simp only [G.gK,reduceCtorEq] at h
  obtain ⟨zc,zg,zk,zu,ze,zj,zt⟩:=pp (pp @F.kG <| pp @F.dY <| pp @F.iY <| pp @F.kH <| pp @F.nT <| pp @F.iU <| pp @F.au ()) <| pp () <| pp () <| pp (pp (@pO (List aC) _ (fun n x=>G.gK.K1 n ag iQ x) r (fun x=>cu.of [eP 2 101,eP 3 102,eP 4 103,eT 6 x] [(101,.var (wN ag)),(102,.var [wI iQ.Kind,wT iQ.Path,wT iQ.From,wI iQ.Value.Kind,wI iQ.Value.Num,wS iQ.Value.Text,wT iQ.Value.Names,wK iQ.Value.Kids]),(103,.var zN)])) ()) <| pp (pp (And.intro @G.gK.K1.eq_1 <| @G.gK.K1.eq_2) ()) <| pp (pp (@bg [] [(101,10),(102,11),(103,12)] []) ()) <| ()
  exact kN
theorem F.jH {n:Nat} : ∀ {ag:af} {xM:Bool} {r:af × Bool},G.jH n ag xM=some r->bG pZ 111 [.agg (wN ag),.one (.c (.lit (.bool xM)))] (.oq [(true,(wN r.1)),(false,[.c (.lit (.bool r.2))])]):=by
  intro ag xM r h
  refine aG K.jH (kF ?_)
  unfold C.jH
  rcases n with _ | n<;>simp only [G.jH,reduceCtorEq] at h
  obtain ⟨zc,zg,zk,zu,ze,zj,zt⟩:=pp (pp @F.aV ()) <| pp () <| pp () <| pp () <| pp () <| pp () <| ()
  exact kN
theorem F.jR {n:Nat} : ∀ {ag:af} {iQ:lU} {r:af × Bool},G.jR n ag iQ=some r->bG pZ 110 [.agg (wN ag),.agg [wI iQ.Kind,wT iQ.Path,wT iQ.From,wI iQ.Value.Kind,wI iQ.Value.Num,wS iQ.Value.Text,wT iQ.Value.Names,wK iQ.Value.Kids]] (.oq [(true,(wN r.1)),(false,[.c (.lit (.bool r.2))])]):=by
  intro ag iQ r h
  refine aG K.jR (kF ?_)
  unfold C.jR
  rcases n with _ | n<;>simp only [G.jR,reduceCtorEq] at h
  obtain ⟨zc,zg,zk,zu,ze,zj,zt⟩:=pp (pp @F.gK <| pp @F.jH <| pp @F.au ()) <| pp () <| pp () <| pp () <| pp () <| pp () <| ()
  exact kN
theorem F.eU {n:Nat} : ∀ {ai:List aC} {r:Bool},G.eU n ai=some r->bG pZ 129 [.one (wT ai)] (.one (.c (.lit (.bool r)))):=by
  intro ai r h
  refine aG K.eU (kF ?_)
  unfold C.eU
  rcases n with _ | n<;>simp only [G.eU,reduceCtorEq] at h
  obtain ⟨zc,zg,zk,zu,ze,zj,zt⟩:=pp (pp @F.dw ()) <| pp () <| pp (pp (@lS (Int) _ (fun n x=>G.eU.L1 n ai x) r (fun x=>cu.of [eT 0 ai,eI 3 x] [])) ()) <| pp () <| pp (pp (And.intro @G.eU.L1.eq_1 <| @G.eU.L1.eq_2) ()) <| pp (pp (@bg [] [] []) ()) <| ()
  exact kN
theorem F.lI {n:Nat} : ∀ {iQ:lU} {r:Bool},G.lI n iQ=some r->bG pZ 94 [.agg [wI iQ.Kind,wT iQ.Path,wT iQ.From,wI iQ.Value.Kind,wI iQ.Value.Num,wS iQ.Value.Text,wT iQ.Value.Names,wK iQ.Value.Kids]] (.one (.c (.lit (.bool r)))):=by
  intro iQ r h
  refine aG K.lI (kF ?_)
  unfold C.lI
  rcases n with _ | n<;>simp only [G.lI,reduceCtorEq] at h
  obtain ⟨zc,zg,zk,zu,ze,zj,zt⟩:=pp (pp @F.cZ <| pp @F.eU <| pp @F.aV ()) <| pp () <| pp () <| pp () <| pp () <| pp () <| ()
  exact kN
theorem F.dB {n:Nat} : ∀ {aA:List lU} {r:Bool},G.dB n aA=some r->bG pZ 58 [.one (.c (.sl 8 (List.map lU.cells aA)))] (.one (.c (.lit (.bool r)))):=by
  intro aA r h
  refine aG K.dB (kF ?_)
  unfold C.dB
  rcases n with _ | n<;>simp only [G.dB,reduceCtorEq] at h
  obtain ⟨zc,zg,zk,zu,ze,zj,zt⟩:=pp (pp @F.lI ()) <| pp () <| pp (pp (@lS (Int) _ (fun n x=>G.dB.L1 n aA x) r (fun x=>cu.of [(0,.v true (.one (.c (.sl 8 (List.map lU.cells aA))))),eI 3 x] [])) ()) <| pp () <| pp (pp (And.intro @G.dB.L1.eq_1 <| @G.dB.L1.eq_2) ()) <| pp (pp (@bg [] [] []) ()) <| ()
  exact kN
theorem F.dS {n:Nat} : ∀ {ag:af} {aA:List lU} {r:af × Bool},G.dS n ag aA=some r->bG pZ 74 [.agg (wN ag),.one (.c (.sl 8 (List.map lU.cells aA)))] (.oq [(true,(wN r.1)),(false,[.c (.lit (.bool r.2))])]):=by
  intro ag aA r h
  refine aG K.dS (kF ?_)
  unfold C.dS
  rcases n with _ | n<;>simp only [G.dS,reduceCtorEq] at h
  obtain ⟨zc,zg,zk,zu,ze,zj,zt⟩:=pp (pp @F.aV <| pp @F.dB <| pp @F.au <| pp @F.jR ()) <| pp () <| pp (pp (@lS (Int × Int × Int × aC × List aC × List af) _ (fun n x=>G.dS.L1 n aA x.1 x.2.1 x.2.2.1 x.2.2.2.1 x.2.2.2.2.1 x.2.2.2.2.2) r (fun x=>cu.of [(1,.v true (.one (.c (.sl 8 (List.map lU.cells aA))))),eP 4 105,eP 6 106,eI 7 x.1] [(105,.var zN),(106,.var [wI x.2.1,wI x.2.2.1,wS x.2.2.2.1,wT x.2.2.2.2.1,wK x.2.2.2.2.2])])) ()) <| pp () <| pp (pp (And.intro @G.dS.L1.eq_1 <| @G.dS.L1.eq_2) ()) <| pp (pp (@bg [] [(105,11),(106,12)] []) <| pp (@bg [] [(105,105),(106,106)] []) ()) <| ()
  exact kN
theorem F.Jh:∀ (n:Nat),∀ {ag:af} {aS:af} {r:af},G.dW n ag aS=some r->bG pZ 112 [.agg (wN ag),.agg (wN aS)] (.agg (wN r)):=by
  intro n
  induction n using Nat.strongRecOn with | _ n ih =>
  intro ag aS r h
  refine aG K.dW (kF ?_)
  unfold C.dW
  rcases n with _ | n<;>simp only [G.dW,reduceCtorEq] at h
  obtain ⟨zc,zg,zk,zu,ze,zj,zt⟩:=pp (pp ih <| pp @F.au <| pp @F.dD <| pp @F.dY <| pp @F.gZ <| pp @F.iL ()) <| pp () <| pp (pp (@lS (Int × Int × Int × aC × List aC × List af) _ (fun n x=>G.dW.L2 n aS x.1 x.2.1 x.2.2.1 x.2.2.2.1 x.2.2.2.2.1 x.2.2.2.2.2) r (fun x=>cu.of [eP 3 110,eP 4 111,eP 5 112,eI 6 x.1] [(110,.var (wN aS)),(111,.var zN),(112,.var [wI x.2.1,wI x.2.2.1,wS x.2.2.2.1,wT x.2.2.2.2.1,wK x.2.2.2.2.2])])) ()) <| pp (pp (@pO (Int × Int × aC × List aC × List af) _ (fun n x=>G.dW.K1 n aS x.1 x.2.1 x.2.2.1 x.2.2.2.1 x.2.2.2.2) r (fun x=>cu.of [eP 3 101,eP 4 102,eP 5 103] [(101,.var (wN aS)),(102,.var zN),(103,.var [wI x.1,wI x.2.1,wS x.2.2.1,wT x.2.2.2.1,wK x.2.2.2.2])])) ()) <| pp (pp (And.intro @G.dW.K1.eq_1 <| And.intro @G.dW.K1.eq_2 <| And.intro @G.dW.L2.eq_1 <| @G.dW.L2.eq_2) ()) <| pp (pp (@bg [] [(101,11),(102,12),(103,15)] []) <| pp (@bg [13,14] [(101,11),(102,12),(103,15)] []) <| pp (@bg [] [(110,101),(111,102),(112,103)] []) <| pp (@bg [] [(110,110),(111,111),(112,112)] []) ()) <| ()
  simp only [wN,wI,wS,wT,wK,zN,eP,eI,eS,eT] at zc zk zu zt zj ⊢
  exact kN
theorem F.dW {n:Nat} : ∀ {ag:af} {aS:af} {r:af},G.dW n ag aS=some r->bG pZ 112 [.agg (wN ag),.agg (wN aS)] (.agg (wN r)):=F.Jh n
theorem F.jQ {n:Nat} : ∀ {ag:af} {aS:af} {r:af × Bool},G.jQ n ag aS=some r->bG pZ 75 [.agg (wN ag),.agg (wN aS)] (.oq [(true,(wN r.1)),(false,[.c (.lit (.bool r.2))])]):=by
  intro ag aS r h
  refine aG K.jQ (kF ?_)
  unfold C.jQ
  rcases n with _ | n<;>simp only [G.jQ,reduceCtorEq] at h
  obtain ⟨zc,zg,zk,zu,ze,zj,zt⟩:=pp (pp @F.aV <| pp @F.dW <| pp @F.jH ()) <| pp () <| pp () <| pp () <| pp () <| pp () <| ()
  exact kN
theorem F.iP {n:Nat} : ∀ {aA:List aC} {jh:aC} {r:Bool},G.iP n aA jh=some r->bG pZ 105 [.one (wT aA),.one (wS jh)] (.one (.c (.lit (.bool r)))):=by
  intro aA jh r h
  refine aG K.iP (kF ?_)
  unfold C.iP
  rcases n with _ | n<;>simp only [G.iP,reduceCtorEq] at h
  obtain ⟨zc,zg,zk,zu,ze,zj,zt⟩:=pp () <| pp () <| pp (pp (@lS (Int) _ (fun n x=>G.iP.L1 n aA jh x) r (fun x=>cu.of [eT 0 aA,eS 1 jh,eI 5 x] [])) ()) <| pp () <| pp (pp (And.intro @G.iP.L1.eq_1 <| @G.iP.L1.eq_2) ()) <| pp (pp (@bg [] [] []) ()) <| ()
  exact kN
theorem F.lZ {n:Nat} : ∀ {og:List aC} {lJ:List aC} {jh:aC} {nC:Bool} {r:Int},G.lZ n og lJ jh nC=some r->bG pZ 69 [.one (wT og),.one (wT lJ),.one (wS jh),.one (.c (.lit (.bool nC)))] (.one (wI r)):=by
  intro og lJ jh nC r h
  refine aG K.lZ (kF ?_)
  unfold C.lZ
  rcases n with _ | n<;>simp only [G.lZ,reduceCtorEq] at h
  obtain ⟨zc,zg,zk,zu,ze,zj,zt⟩:=pp (pp @F.iP ()) <| pp () <| pp () <| pp () <| pp () <| pp () <| ()
  exact kN
theorem F.kM {n:Nat} : ∀ {ah:StoreT} {aJ:aC} {r:aC},G.kM n ah aJ=some r->bG pZ 70 [.agg [.c (.sl 7 (List.map aB.cells ah.Items)),wI ah.Clock],.one (wS aJ)] (.one (wS r)):=by
  intro ah aJ r h
  refine aG K.kM (kF ?_)
  unfold C.kM
  rcases n with _ | n<;>simp only [G.kM,reduceCtorEq] at h
  obtain ⟨zc,zg,zk,zu,ze,zj,zt⟩:=pp (pp @F.iE <| pp @F.bH <| pp @F.jy <| pp @F.nP ()) <| pp () <| pp () <| pp () <| pp () <| pp () <| ()
  exact kN
theorem F.iD {n:Nat} : ∀ {ah:StoreT} {aJ:aC} {ag:af} {r:StoreT × bn},G.iD n ah aJ ag=some r->bG pZ 72 [.agg [.c (.sl 7 (List.map aB.cells ah.Items)),wI ah.Clock],.one (wS aJ),.agg (wN ag)] (.oq [(true,[.c (.sl 7 (List.map aB.cells r.1.Items)),wI r.1.Clock]),(true,[wI r.2.Status,wS r.2.Tag,wI r.2.Version,wI r.2.Body.Kind,wI r.2.Body.Num,wS r.2.Body.Text,wT r.2.Body.Names,wK r.2.Body.Kids])]):=by
  intro ah aJ ag r h
  refine aG K.iD (kF ?_)
  unfold C.iD
  rcases n with _ | n<;>simp only [G.iD,reduceCtorEq] at h
  obtain ⟨zc,zg,zk,zu,ze,zj,zt⟩:=pp (pp @F.iE <| pp @F.eX <| pp @F.aZ <| pp @F.kM <| pp @F.aQ <| pp @F.iq ()) <| pp () <| pp () <| pp (pp (@pO (Int) _ (fun n x=>G.iD.K1 n ah aJ ag x) r (fun x=>cu.of [eS 1 aJ,eP 3 101,eP 5 102,eP 6 103,eP 7 104,eI 8 x] [(101,.var [.c (.sl 7 (List.map aB.cells ah.Items)),wI ah.Clock]),(102,.var (wN ag)),(103,.var [.fU 7,wI 0]),(104,.var [wI 0,.c (.str []),wI 0,wI 0,wI 0,.c (.str []),.fU 1,.fU 5])])) ()) <| pp (pp (And.intro @G.iD.K1.eq_1 <| @G.iD.K1.eq_2) ()) <| pp (pp (@bg [] [(101,10),(102,11),(103,12),(104,13)] []) ()) <| ()
  exact kN
theorem F.fP {n:Nat} : ∀ {ah:StoreT} {bC:RequestT} {r:StoreT × bn},G.fP n ah bC=some r->bG pZ 41 [.agg [.c (.sl 7 (List.map aB.cells ah.Items)),wI ah.Clock],.agg [wI bC.Method,wS bC.Name,wT bC.Want,wT bC.l7,wI bC.Body.Kind,wI bC.Body.Num,wS bC.Body.Text,wT bC.Body.Names,wK bC.Body.Kids,.c (.sl 8 (List.map lU.cells bC.Ops))]] (.oq [(true,[.c (.sl 7 (List.map aB.cells r.1.Items)),wI r.1.Clock]),(true,[wI r.2.Status,wS r.2.Tag,wI r.2.Version,wI r.2.Body.Kind,wI r.2.Body.Num,wS r.2.Body.Text,wT r.2.Body.Names,wK r.2.Body.Kids])]):=by
  intro ah bC r h
  refine aG K.fP (kF ?_)
  unfold C.fP
  rcases n with _ | n<;>simp only [G.fP,reduceCtorEq] at h
  have:=Mk.mk 1; have:=Mk.mk 2
  obtain ⟨zc,zg,zk,zu,ze,zj,zt,zq⟩:=pp (pp @F.iE <| pp @F.aQ <| pp @F.iq <| pp @F.kM <| pp @F.lZ <| pp @F.au <| pp @F.iD <| pp @F.iO <| pp @F.dS <| pp @F.jQ ()) <| pp () <| pp () <| pp (pp (@pO (Bool × Int × Int × aC × List aC × List af) _ (fun n x=>G.fP.K1 n ah bC x.1 x.2.1 x.2.2.1 x.2.2.2.1 x.2.2.2.2.1 x.2.2.2.2.2) r (fun x=>cu.of [eP 2 101,eP 3 102,eP 4 103,eP 5 104,eP 8 105,(9,.v true (.one (.c (.lit (.bool x.1)))))] [(101,.var [.c (.sl 7 (List.map aB.cells ah.Items)),wI ah.Clock]),(102,.var [wI bC.Method,wS bC.Name,wT bC.Want,wT bC.l7,wI bC.Body.Kind,wI bC.Body.Num,wS bC.Body.Text,wT bC.Body.Names,wK bC.Body.Kids,.c (.sl 8 (List.map lU.cells bC.Ops))]),(103,.var [.fU 7,wI 0]),(104,.var [wI 0,.c (.str []),wI 0,wI 0,wI 0,.c (.str []),.fU 1,.fU 5]),(105,.var [wI x.2.1,wI x.2.2.1,wS x.2.2.2.1,wT x.2.2.2.2.1,wK x.2.2.2.2.2])])) <| pp (@pO (Bool × Int × Int × aC × List aC × List af) _ (fun n x=>G.fP.K2 n ah bC x.1 x.2.1 x.2.2.1 x.2.2.2.1 x.2.2.2.2.1 x.2.2.2.2.2) r (fun x=>cu.of [eP 2 106,eP 3 107,eP 4 108,eP 5 109,eP 8 110,(9,.v true (.one (.c (.lit (.bool x.1)))))] [(106,.var [.c (.sl 7 (List.map aB.cells ah.Items)),wI ah.Clock]),(107,.var [wI bC.Method,wS bC.Name,wT bC.Want,wT bC.l7,wI bC.Body.Kind,wI bC.Body.Num,wS bC.Body.Text,wT bC.Body.Names,wK bC.Body.Kids,.c (.sl 8 (List.map lU.cells bC.Ops))]),(108,.var [.fU 7,wI 0]),(109,.var [wI 0,.c (.str []),wI 0,wI 0,wI 0,.c (.str []),.fU 1,.fU 5]),(110,.var [wI x.2.1,wI x.2.2.1,wS x.2.2.2.1,wT x.2.2.2.2.1,wK x.2.2.2.2.2])])) ()) <| pp (pp (And.intro @G.fP.K1.eq_1 <| And.intro @G.fP.K1.eq_2 <| And.intro @G.fP.K2.eq_1 <| @G.fP.K2.eq_2) ()) <| pp (pp (@bg [] [(101,10),(102,11),(103,12),(104,13),(105,14)] []) <| pp (@bg [] [(106,10),(107,11),(108,12),(109,13),(110,14)] []) ()) <| pp () <| (pp (pp (rfl : @G.fP.K1=_) ()) <| pp (pp (rfl : @G.fP.K2=_) ()) ())
  exact OZ
theorem F.gV {n:Nat} : ∀ {ah:aC} {r:Bool},G.gV n ah=some r->bG pZ 91 [.one (wS ah)] (.one (.c (.lit (.bool r)))):=by
  intro ah r h
  refine aG K.gV (kF ?_)
  unfold C.gV
  rcases n with _ | n<;>simp only [G.gV,reduceCtorEq] at h
  obtain ⟨zc,zg,zk,zu,ze,zj,zt⟩:=pp (pp @F.cZ ()) <| pp () <| pp (pp (@lS (Int) _ (fun n x=>G.gV.L1 n ah x) r (fun x=>cu.of [eS 0 ah,eI 3 x] [])) ()) <| pp () <| pp (pp (And.intro @G.gV.L1.eq_1 <| @G.gV.L1.eq_2) ()) <| pp (pp (@bg [] [] []) ()) <| ()
  exact kN
theorem F.fC {n:Nat} : ∀ {aA:List aC} {r:Bool},G.fC n aA=some r->bG pZ 56 [.one (wT aA)] (.one (.c (.lit (.bool r)))):=by
  intro aA r h
  refine aG K.fC (kF ?_)
  unfold C.fC
  rcases n with _ | n<;>simp only [G.fC,reduceCtorEq] at h
  obtain ⟨zc,zg,zk,zu,ze,zj,zt⟩:=pp (pp @F.gV ()) <| pp () <| pp (pp (@lS (Int) _ (fun n x=>G.fC.L1 n aA x) r (fun x=>cu.of [eT 0 aA,eI 3 x] [])) ()) <| pp () <| pp (pp (And.intro @G.fC.L1.eq_1 <| @G.fC.L1.eq_2) ()) <| pp (pp (@bg [] [] []) ()) <| ()
  exact kN
theorem F.jf {n:Nat} : ∀ {bC:RequestT} {r:Bool},G.jf n bC=some r->bG pZ 28 [.agg [wI bC.Method,wS bC.Name,wT bC.Want,wT bC.l7,wI bC.Body.Kind,wI bC.Body.Num,wS bC.Body.Text,wT bC.Body.Names,wK bC.Body.Kids,.c (.sl 8 (List.map lU.cells bC.Ops))]] (.one (.c (.lit (.bool r)))):=by
  intro bC r h
  refine aG K.jf (kF ?_)
  unfold C.jf
  rcases n with _ | n<;>simp only [G.jf,reduceCtorEq] at h
  obtain ⟨zc,zg,zk,zu,ze,zj,zt⟩:=pp (pp @F.cZ <| pp @F.dm <| pp @F.fC <| pp @F.aV <| pp @F.dB ()) <| pp () <| pp () <| pp () <| pp () <| pp () <| ()
  exact kN
theorem F.gW {n:Nat} : ∀ {ah:StoreT} {bC:RequestT} {r:StoreT × bn},G.gW n ah bC=some r->bG pZ 22 [.agg [.c (.sl 7 (List.map aB.cells ah.Items)),wI ah.Clock],.agg [wI bC.Method,wS bC.Name,wT bC.Want,wT bC.l7,wI bC.Body.Kind,wI bC.Body.Num,wS bC.Body.Text,wT bC.Body.Names,wK bC.Body.Kids,.c (.sl 8 (List.map lU.cells bC.Ops))]] (.oq [(true,[.c (.sl 7 (List.map aB.cells r.1.Items)),wI r.1.Clock]),(true,[wI r.2.Status,wS r.2.Tag,wI r.2.Version,wI r.2.Body.Kind,wI r.2.Body.Num,wS r.2.Body.Text,wT r.2.Body.Names,wK r.2.Body.Kids])]):=by
  intro ah bC r h
  refine aG K.gW (kF ?_)
  unfold C.gW
  rcases n with _ | n<;>simp only [G.gW,reduceCtorEq] at h
  obtain ⟨zc,zg,zk,zu,ze,zj,zt⟩:=pp (pp @F.aZ <| pp @F.jf <| pp @F.fP <| pp @F.iq ()) <| pp () <| pp () <| pp () <| pp () <| pp () <| ()
  exact kN
theorem F.YQ {n:Nat} : ∀ {nM:List Int} {r:StoreT × RequestT},G.YQ n nM=some r->bG pZ 17 [.one (.c (.sl 1 (List.map cU nM)))] (.oq [(true,[.c (.sl 7 (List.map aB.cells r.1.Items)),wI r.1.Clock]),(true,[wI r.2.Method,wS r.2.Name,wT r.2.Want,wT r.2.l7,wI r.2.Body.Kind,wI r.2.Body.Num,wS r.2.Body.Text,wT r.2.Body.Names,wK r.2.Body.Kids,.c (.sl 8 (List.map lU.cells r.2.Ops))])]):=by
  intro nM r h
  refine aG K.YQ (kF ?_)
  unfold C.YQ
  rcases n with _ | n<;>simp only [G.YQ,reduceCtorEq] at h
  obtain ⟨zc,zg,zk,zu,ze,zj,zt⟩:=pp (pp @F.iC ()) <| pp () <| pp () <| pp () <| pp () <| pp () <| ()
  exact kN
theorem F.YR {n:Nat} : ∀ {ah:StoreT} {bC:RequestT} {r:Bool},G.YR n ah bC=some r->bG pZ 19 [.agg [.c (.sl 7 (List.map aB.cells ah.Items)),wI ah.Clock],.agg [wI bC.Method,wS bC.Name,wT bC.Want,wT bC.l7,wI bC.Body.Kind,wI bC.Body.Num,wS bC.Body.Text,wT bC.Body.Names,wK bC.Body.Kids,.c (.sl 8 (List.map lU.cells bC.Ops))]] (.one (.c (.lit (.bool r)))):=by
  intro ah bC r h
  refine aG K.YR (kF ?_)
  unfold C.YR
  rcases n with _ | n<;>simp only [G.YR,reduceCtorEq] at h
  obtain ⟨zc,zg,zk,zu,ze,zj,zt⟩:=pp (pp @F.aZ <| pp @F.jf <| pp @F.fP ()) <| pp () <| pp () <| pp () <| pp () <| pp () <| ()
  exact kN
end Go.Ab
end
section
namespace Go.Ab
open Go Go.ChangeShapes Go.WideShapes Go.ChangeAt Go.RowKit
def I0 (W:World):IH:=fun b=>match W.heap[b]? with
  | some (.cells c _ _)=>some c
  | _=>none
theorem Qy (W:World):Agree (I0 W) W:=by
  intro b c h
  unfold I0 at h
  split at h
  · rename_i c' e fr hb
    cases h
    exact ⟨e,fr,hb⟩
  · cases h
theorem Ui (W:World) {a:Addr} {v:Value} (h:W.cell? a=some v):(I0 W).cell a=some v:=by
  unfold World.cell? at h
  unfold IH.cell I0
  split at h
  · rename_i c e fr hb
    split at h
    · cases h
    · rename_i hs
      rw [if_neg hs,hb]
      exact h
  · cases h
theorem H6 {W W':World} {M:Nat->Prop} (h:BK W W' M) (hM:∀ k,¬ M k):Below W.heap.size W W' :=
  ⟨h.os,h.tape,h.output,h.size,fun k hk=>h.block k hk (hM k)⟩
theorem CW (ρ:Ren) (k:Nat):¬ ∃ b,(um [] b).uses (ρ b) k:=fun ⟨b,h⟩=>by
  simp only [um,List.getD_nil] at h
  exact h
abbrev GK (z:Int):List Cell:=[.lit (.int .u8 z)]
theorem Pj {P:Program} {W:World} {x:String × DataW Unit} {rest:List (String × DataW Unit)} (h:laidMet P (x::rest) W):laidMet P rest W:=by
  obtain ⟨ps,hv,hn,hc⟩:=h
  obtain ⟨g,t,cs,fuel,p,q,h1,h2,h3,h4,h5,rfl⟩:=hv
  exact ⟨q,h5,(List.nodup_append.1 hn).2.1,fun b off hp=>hc b off (List.mem_append_right _ hp)⟩
theorem G7 {P:Program} {W:World} : ∀ (k:Nat) {l:List (String × DataW Unit)},laidMet P l W->laidMet P (l.drop k) W
  | 0,l,h=>h
  | k+1,[],h=>h
  | k+1,x::l,h=>G7 k (l:=l) (Pj h)
theorem U5 {P:Program} {W:World} {rest:List (String × DataW Unit)} {g:Nat} {t e:TypeId}
    (hg:P.globalNamed "internal/strconv.uint64pow10" = some g) (hty:(P.globals[g]?).map (·.type)=some t) (ht:P.underlying t=some (.array 20 e)) (he:P.underlying e=some (.int .u64)) (hce:P.cellsOf e=1) (hct:P.cellsOf t=20)
    (h:laidMet P (("internal/strconv.uint64pow10",Lib.tabData .u64 Lib.pow10Tab)::rest) W):Tabs P (I0 W):=by
  have h1:=Lib.tabIs_of_head hg hty ht he hce hct h
  intro g' hg'
  rw [hg] at hg'
  simp only [Option.some.injEq] at hg'
  subst hg'
  unfold Lib.TabIs World.var? at h1
  simp only [hg] at h1
  unfold I0
  revert h1
  split<;>simp_all
theorem Pm {P:Program} {f:FuncId} {H:Type} {enc:TypeId × Value->H} {W:World} {tb eb:TypeId} {v0:Value} {d0:DataW H} {p0:List MemPlace} {base:Nat}
    (hT:Tabs P (I0 W)) (ht:P.underlying tb=some (.slice eb)) (he:P.underlying eb=some (.int .u8)) (hc:P.cellsOf eb=1)
    (hval:Value.okWide P W .any base tb v0) (h0:DataW.Trod enc P W 0 (fun _=>true) true tb v0 d0 p0)
    (hp:∀ zs:List Int,zs.length<=maxLen->(∀ z,z∈zs->0<=z/\z<256)->bG P f [TF 1 (zs.map GK)] (oL true)) :
    Calls P f #[v0] W fun e W'=>e = .returned (.bool true)/\Below W.heap.size W W':=by
  obtain ⟨a0,len,cap,rfl⟩:=okWide_slice ht hval
  obtain ⟨fuel,hf⟩:=h0
  have go:∀ zs:List Int,zs.length<=maxLen->(∀ z,z∈zs->0<=z/\z<256)->Rd (I0 W) (.slice a0 len cap) (.sl 1 (zs.map GK)) ->
      Calls P f #[.slice a0 len cap] W fun e W'=>e = .returned (.bool true)/\Below W.heap.size W W':=by
    intro zs hl hz hr
    refine (hp zs hl hz (I0 W) (fun _=>none) W [.slice a0 len cap] hT (Qy W) ⟨fun b=>by simp only [um,List.getD_nil]; exact rfl,fun b b' k h=>(CW (fun _=>none) k ⟨b,h⟩).elim,fun b k h=>(CW (fun _=>none) k ⟨b,h⟩).elim⟩ ⟨rfl,?_⟩).mono ?_
    · intro j v x hv hx
      match j with
      | 0 =>
        simp only [List.getElem?_cons_zero,Option.some.injEq] at hv hx
        subst hv hx
        exact hr
      | j+1=>simp at hv
    · rintro e W' ⟨v,J,σ,r,bs,rfl,⟨rfl,rfl⟩,hg,_,_,_,hfr,_⟩
      refine ⟨?_,H6 hfr (CW (fun _=>none))⟩
      cases hg
      rfl
  rcases open_ints ht he hc hf with ⟨hcs,hx⟩ | ⟨a,len',cap',zs,hcs,_,hl,hm,hz,hx,hcell,hwz⟩
  · simp [Value.cells] at hcs
    obtain ⟨rfl,rfl,rfl⟩:=hcs
    exact go [] (Nat.zero_le _) (fun z h=>by cases h) (.sl none 0 0 1 [] (fun _ _=>undef) rfl (Nat.le_refl _) (Nat.zero_le _) (fun e h=>by cases h) (fun h=>by omega) (fun ad h=>by cases h) (fun i j c h=>by simp at h))
  · simp [Value.cells] at hcs
    obtain ⟨rfl,rfl,rfl⟩:=hcs
    simp only [if_true] at hz
    have hb:∀ z,z∈zs.take len->0<=z/\z<256:=fun z hz'=>by
      have h5:=hwz z (List.mem_of_mem_take hz')
      have e1:IntKind.u8.min=0:=rfl
      have e2:IntKind.u8.max=255:=rfl
      have:0<=z/\z<=255:=by simpa [Lit.wf,e1,e2] using h5
      omega
    have hlen:(zs.take len).length=len:=by rw [List.length_take]; omega
    refine go (zs.take len) (by omega) hb (.sl (some a) len cap 1 _ (fun i _ => .int .u8 (zs.getD i 0)) (by rw [List.length_map,hlen]) hl hm (fun e h => ?_) (fun _ h=>by cases h) (fun ad hd i j hi hj => ?_) (fun i j c h => ?_))
    · obtain ⟨z,_,rfl⟩:=List.mem_map.1 h
      rfl
    · cases hd
      have e:i*1+j=i:=by omega
      rw [e]
      exact Ui W (hcell i (by omega))
    · by_cases hi:i<len
      · have hi':i<zs.length:=by omega
        have e:((zs.take len).map GK).getD i []=GK (zs.getD i 0):=by
          simp [List.getD,List.getElem?_map,List.getElem?_take,hi,hi']
        rw [e] at h
        match j with
        | 0 =>
          simp only [List.getElem?_cons_zero,Option.some.injEq] at h
          subst h
          exact .lit _ rfl
        | j+1=>simp at h
      · have e:((zs.take len).map GK).getD i []=[]:=by
          simp [List.getD,List.getElem?_map,List.getElem?_take,hi]
        rw [e] at h
        simp at h
end Go.Ab
end
