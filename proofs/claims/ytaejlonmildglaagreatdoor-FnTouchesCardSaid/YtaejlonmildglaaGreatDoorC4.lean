/- The functions of the program that the laws reach: what they compute, the proofs that they do, the laws of the data (part 4). No conditions. -/
import Derived.Test.YtaejlonmildglaaGreatDoorC3
set_option linter.unusedVariables false
set_option linter.unusedSimpArgs false
section
namespace Go.Ab
open Go
set_option maxRecDepth 100000
set_option maxHeartbeats 4000000
set_option linter.unusedVariables false
set_option linter.unusedSimpArgs false
theorem FZ.iI {es:List (List Cell)} {v:List Cell} {c i:Nat} (hc:es.length<=c) (hi:i<=es.length) (hb:(es.length+1)*112<=2^46) :
  fF pZ 174 [.one (.sub 0 0 es.length (some c) 7),.one (wI (i:Int)),.one (.own 1 1 7)] [.dat 7 es,.dat 7 [v]]
   (fun r1 b1=>r1 = .one (.own 2 (es.length+1) 7)/\b1=[.dead,.dat 7 [v],.dat 7 (es.take i++v::es.drop i)]):=by
 have hw:IntKind.wrap .i64 ((es.length:Int)+((1:Nat):Int))=((es.length+1:Nat):Int):=by rw [rQ]<;>omega
 have hw2:IntKind.wrap .i64 ((i:Int)+((1:Nat):Int))=((i+1:Nat):Int):=by rw [rQ]<;>omega
 have hw3:IntKind.wrap .i64 (((es.length+1:Nat):Int)-i)=((es.length+1-i:Nat):Int):=by rw [rQ]<;>omega
 refine dQ K.iI (kK ?_)
 unfold C.iI
 have h10:(((1:Nat):Int)==0)=false:=rfl
 by_cases h1:i=es.length
 ·subst h1
  have he:(((es.length:Nat):Int)==((es.length:Nat):Int))=true:=by simp
  simp -dsimp only [sK,dS.iq,dS.f,dS.rd,iL,ig,lvl,iV,reduceIte,Nat.reduceEqDiff,Nat.reduceAdd,Nat.reduceLeDiff,Nat.reduceBEq,reduceCtorEq,Int.reduceBNe,Int.reduceBEq,Int.reduceLT,Int.reduceLE,Int.reduceNeg,Nat.reduceLT,iM,Int.reduceToNat,jC,lC,rZ,oW,o5,oV,oZ,truncS,Option.map_none,Int.sub_zero,Nat.sub_zero,Int.toNat_sub,Int.ofNat_zero,List.drop_zero,List.take_length,Nat.add_sub_cancel,h10]
  repeat refine And.intro (by first | (show ja _ _ _ _=true; kernel_rfl) | (show gX _ _=true; kernel_rfl) | omega | assumption) ?_
  have e:es++[v]++List.drop (es.length+1) es=es++v::List.drop es.length es:=by simp
  have e2:es++[v]=es++v::List.drop es.length es:=by simp
  by_cases hr:es.length+1<=c
  ·simp -dsimp only [sK,dS.iq,dS.f,dS.rd,iL,ig,lvl,iV,reduceIte,Nat.reduceEqDiff,Nat.reduceAdd,Nat.reduceLeDiff,Nat.reduceBEq,reduceCtorEq,Int.reduceBNe,Int.reduceBEq,Int.reduceLT,Int.reduceLE,Int.reduceNeg,Nat.reduceLT,iM,Int.reduceToNat,jC,lC,rZ,oW,o5,oV,oZ,truncS,Option.map_none,Int.sub_zero,Nat.sub_zero,Int.toNat_sub,Int.ofNat_zero,List.drop_zero,List.take_length,Nat.add_sub_cancel,hr]
   repeat refine And.intro (by first | (show ja _ _ _ _=true; kernel_rfl) | (show gX _ _=true; kernel_rfl) | omega | assumption) ?_
   rw [e]
   refine qw [] [(0,0),(1,1),(2,0)] [] (by rfl) ?_ ?_ ?_<;>(simp -dsimp only [I4,wJ,tK,reduceIte,Nat.reduceEqDiff,reduceCtorEq,Nat.reduceAdd,Nat.reduceLeDiff]<;>first | (simp [List.take_of_length_le]; done) | ((try simp only [List.map_take,List.map_drop,List.map_append,List.map_cons,List.map_nil])<;>(repeat' apply And.intro)<;>first | rfl | (simp; done) | (simp<;>omega; done) | (congr 1; exact (List.take_of_length_le (by simp<;>omega)).symm)))
  ·simp -dsimp only [sK,dS.iq,dS.f,dS.rd,iL,ig,lvl,iV,reduceIte,Nat.reduceEqDiff,Nat.reduceAdd,Nat.reduceLeDiff,Nat.reduceBEq,reduceCtorEq,Int.reduceBNe,Int.reduceBEq,Int.reduceLT,Int.reduceLE,Int.reduceNeg,Nat.reduceLT,iM,Int.reduceToNat,jC,lC,rZ,oW,o5,oV,oZ,truncS,Option.map_none,Int.sub_zero,Nat.sub_zero,Int.toNat_sub,Int.ofNat_zero,List.drop_zero,List.take_length,Nat.add_sub_cancel,hr]
   repeat refine And.intro (by first | (show ja _ _ _ _=true; kernel_rfl) | (show gX _ _=true; kernel_rfl) | omega | assumption) ?_
   rw [e2]
   refine qw [] [(0,0),(1,1),(2,10)] [] (by rfl) ?_ ?_ ?_<;>(simp -dsimp only [I4,wJ,tK,reduceIte,Nat.reduceEqDiff,reduceCtorEq,Nat.reduceAdd,Nat.reduceLeDiff]<;>first | (simp [List.take_of_length_le]; done) | ((try simp only [List.map_take,List.map_drop,List.map_append,List.map_cons,List.map_nil])<;>(repeat' apply And.intro)<;>first | rfl | (simp; done) | (simp<;>omega; done) | (congr 1; exact (List.take_of_length_le (by simp<;>omega)).symm)))
 ·have he:(((i:Nat):Int)==((es.length:Nat):Int))=false:=by simp; omega
  simp -dsimp only [sK,dS.iq,dS.f,dS.rd,iL,ig,lvl,iV,reduceIte,Nat.reduceEqDiff,Nat.reduceAdd,Nat.reduceLeDiff,Nat.reduceBEq,reduceCtorEq,Int.reduceBNe,Int.reduceBEq,Int.reduceLT,Int.reduceLE,Int.reduceNeg,Nat.reduceLT,iM,Int.reduceToNat,jC,lC,rZ,oW,o5,oV,oZ,truncS,Option.map_none,Int.sub_zero,Nat.sub_zero,Int.toNat_sub,Int.ofNat_zero,List.drop_zero,List.take_length,Nat.add_sub_cancel,h10]
  repeat refine And.intro (by first | (show ja _ _ _ _=true; kernel_rfl) | (show gX _ _=true; kernel_rfl) | omega | assumption) ?_
  simp -dsimp only [sK,dS.iq,dS.f,dS.rd,iL,ig,lvl,iV,reduceIte,Nat.reduceEqDiff,Nat.reduceAdd,Nat.reduceLeDiff,Nat.reduceBEq,reduceCtorEq,Int.reduceBNe,Int.reduceBEq,Int.reduceLT,Int.reduceLE,Int.reduceNeg,Nat.reduceLT,iM,Int.reduceToNat,jC,lC,rZ,oW,o5,oV,oZ,truncS,Option.map_none,Int.sub_zero,Nat.sub_zero,Int.toNat_sub,Int.ofNat_zero,List.drop_zero,List.take_length,Nat.add_sub_cancel,he]
  by_cases hr:es.length+1<=c
  ·have hd:decide ((c:Int)<((es.length+1:Nat):Int))=false:=by simp; omega
   simp -dsimp only [sK,dS.iq,dS.f,dS.rd,iL,ig,lvl,iV,reduceIte,Nat.reduceEqDiff,Nat.reduceAdd,Nat.reduceLeDiff,Nat.reduceBEq,reduceCtorEq,Int.reduceBNe,Int.reduceBEq,Int.reduceLT,Int.reduceLE,Int.reduceNeg,Nat.reduceLT,iM,Int.reduceToNat,jC,lC,rZ,oW,o5,oV,oZ,truncS,Option.map_none,Int.sub_zero,Nat.sub_zero,Int.toNat_sub,Int.ofNat_zero,List.drop_zero,List.take_length,Nat.add_sub_cancel,hw,hd]
   repeat refine And.intro (by first | (show ja _ _ _ _=true; kernel_rfl) | (show gX _ _=true; kernel_rfl) | omega | assumption) ?_
   simp -dsimp only [sK,dS.iq,dS.f,dS.rd,iL,ig,lvl,iV,reduceIte,Nat.reduceEqDiff,Nat.reduceAdd,Nat.reduceLeDiff,Nat.reduceBEq,reduceCtorEq,Int.reduceBNe,Int.reduceBEq,Int.reduceLT,Int.reduceLE,Int.reduceNeg,Nat.reduceLT,iM,Int.reduceToNat,jC,lC,rZ,oW,o5,oV,oZ,truncS,Option.map_none,Int.sub_zero,Nat.sub_zero,Int.toNat_sub,Int.ofNat_zero,List.drop_zero,List.take_length,Nat.add_sub_cancel,hw2]
   repeat refine And.intro (by first | (show ja _ _ _ _=true; kernel_rfl) | (show gX _ _=true; kernel_rfl) | omega | assumption) ?_
   refine And.intro (by simp; omega) ?_
   have e:=X6 es v i (by omega)
   simp only [splice] at e
   rw [e]
   refine qw [] [(0,0),(1,1),(2,0)] [] (by rfl) ?_ ?_ ?_<;>(simp -dsimp only [I4,wJ,tK,reduceIte,Nat.reduceEqDiff,reduceCtorEq,Nat.reduceAdd,Nat.reduceLeDiff]<;>first | (simp [List.take_of_length_le]; done) | ((try simp only [List.map_take,List.map_drop,List.map_append,List.map_cons,List.map_nil])<;>(repeat' apply And.intro)<;>first | rfl | (simp; done) | (simp<;>omega; done) | (congr 1; exact (List.take_of_length_le (by simp<;>omega)).symm)))
  ·have hd:decide ((c:Int)<((es.length+1:Nat):Int))=true:=by simp; omega
   have hx:c<i+(es.length+1-i):=by omega
   simp -dsimp only [sK,dS.iq,dS.f,dS.rd,iL,ig,lvl,iV,reduceIte,Nat.reduceEqDiff,Nat.reduceAdd,Nat.reduceLeDiff,Nat.reduceBEq,reduceCtorEq,Int.reduceBNe,Int.reduceBEq,Int.reduceLT,Int.reduceLE,Int.reduceNeg,Nat.reduceLT,iM,Int.reduceToNat,jC,lC,rZ,oW,o5,oV,oZ,truncS,Option.map_none,Int.sub_zero,Nat.sub_zero,Int.toNat_sub,Int.ofNat_zero,List.drop_zero,List.take_length,Nat.add_sub_cancel,hw,hd,hw2,hw3]
   repeat refine And.intro (by first | (show ja _ _ _ _=true; kernel_rfl) | (show gX _ _=true; kernel_rfl) | omega | assumption) ?_
   refine And.intro (by simp; omega) ?_
   repeat refine And.intro (by first | (show ja _ _ _ _=true; kernel_rfl) | (show gX _ _=true; kernel_rfl) | omega | assumption) ?_
   refine And.intro ⟨by omega,by simp; omega⟩ ?_
   repeat refine And.intro (by first | (show ja _ _ _ _=true; kernel_rfl) | (show gX _ _=true; kernel_rfl) | omega | assumption) ?_
   have e:=X7 es v [.str [],.lit (.int .i64 0),.lit (.int .i64 0),.lit (.int .i64 0),.str [],.sl 1 [],.sl 5 []] i _ (by omega) rfl
   simp only [splice] at e
   have e0:i+(es.length+1-i)=es.length+1:=by omega
   rw [e,e0]
   refine qw [] [(0,0),(1,1),(2,11)] [] (by rfl) ?_ ?_ ?_<;>(simp -dsimp only [I4,wJ,tK,reduceIte,Nat.reduceEqDiff,reduceCtorEq,Nat.reduceAdd,Nat.reduceLeDiff]<;>first | (simp [List.take_of_length_le]; done) | ((try simp only [List.map_take,List.map_drop,List.map_append,List.map_cons,List.map_nil])<;>(repeat' apply And.intro)<;>first | rfl | (simp; done) | (simp<;>omega; done) | (congr 1; exact (List.take_of_length_le (by simp<;>omega)).symm)))
theorem F.iI {n:Nat} : ∀ {ai:List aA} {yf:Int} {uk:List aA} {r:List aA},G.iI n ai yf uk=some r ->
    fF pZ 174 [.one (.own 0 ai.length 7),.one (wI yf),.one (.own 1 uk.length 7)] [.dat 7 (List.map aA.cells ai),.dat 7 (List.map aA.cells uk)]
      (fun r1 b1=>r1 = .one (.own 2 r.length 7)/\b1=[.dead,.dat 7 (List.map aA.cells uk),.dat 7 (List.map aA.cells r)]):=by
  intro s i v r h
  cases n with
  | zero=>simp only [G.iI,reduceCtorEq] at h
  | succ n =>
    simp only [G.iI] at h
    obtain ⟨⟨q1,q2,q3,q4⟩,h⟩:=oh.1 h
    cases h
    obtain ⟨x,rfl⟩:=List.length_eq_one_iff.1 q3
    obtain ⟨k,rfl⟩:∃ k:Nat,i=k:=⟨i.toNat,by omega⟩
    refine yQ (fun c hc => ?_)
    have hf:=FZ.iI (es:=List.map aA.cells s) (v:=aA.cells x) (c:=c) (i:=k) (by simpa using hc) (by rw [List.length_map]; omega) (by rw [List.length_map]; exact q4)
    have e1:(List.take k s++[x]++List.drop k s).length=s.length+1:=by simp; omega
    rw [Int.toNat_natCast,e1]
    simpa using hf
theorem F.oN {n:Nat} : ∀ {qh kT r},G.oN n qh kT=some r->fF pZ 122 [.one (.own 0 qh.length 7),.agg [wS kT.Name,wI kT.Version,wI kT.Node.Kind,wI kT.Node.Num,wS kT.Node.Text,wT kT.Node.Names,wK kT.Node.Kids]] [.dat 7 (List.map aA.cells qh)] (fun r1 b1=>r1 = .one (.own 1 r.length 7)/\b1=[.dead,.dat 7 (List.map aA.cells r)]):=by
 intro qh kT r h
 refine dQ K.oN (kK ?_)
 unfold C.oN
 rcases n with _ | n<;>simp only [G.oN,reduceCtorEq] at h
 have z:=pp (pp @F.jS ()) <| pp (pp (pp @F.iI (@cG [0,11] [101])) ()) <| pp () <| pp () <| pp () <| pp () <| (pp (@ni [] [(0,0),(1,0)] []) <| pp (@ni [] [(0,0),(1,101)] []) ())
 exact lD
theorem F.nH {n:Nat} : ∀ {ai aQ ag r},G.nH n ai aQ ag=some r->bF pZ 80 [.agg [.c (.sl 7 (List.map aA.cells ai.Items)),wI ai.Clock],.one (wS aQ),.agg (wN ag)] (.o8 [(true,[.c (.sl 7 (List.map aA.cells r.1.Items)),wI r.1.Clock]),(false,[.c (.lit (.bool r.2))])]):=by
 intro ai aQ ag r h
 refine aH K.nH (kK ?_)
 unfold C.nH
 rcases n with _ | n<;>simp only [G.nH,reduceCtorEq] at h
 have z:=pp (pp @F.bg <| pp @F.iG <| pp @F.aO <| pp @F.aF ()) <| pp (pp (pp @F.yz (@cG [] [101])) <| pp (pp @F.oN (@cG [101] [102])) ()) <| pp () <| pp () <| pp () <| pp () <| ()
 exact lD
theorem F.nR {n:Nat} : ∀ {rE aQ r},G.nR n rE aQ=some r->fF pZ 103 [.one (.ptr 0 0),.one (wS aQ)] [.var [wI rE.Kind,wI rE.Num,wS rE.Text,.own 1 rE.Names.length 1,.own 2 rE.Kids.length 5],.dat 1 (List.map cS rE.Names),.dat 5 (List.map af.cells rE.Kids)] (fun r1 b1=>r1 = .o8 []/\b1=[.var [wI r.Kind,wI r.Num,wS r.Text,.own 3 r.Names.length 1,.own 4 r.Kids.length 5],.dead,.dead,.dat 1 (List.map cS r.Names),.dat 5 (List.map af.cells r.Kids)]):=by
 intro rE aQ r h
 refine dQ K.nR (kK ?_)
 unfold C.nR
 rcases n with _ | n<;>simp only [G.nR,reduceCtorEq] at h
 have z:=pp (pp @F.slices_BinarySearch_string ()) <| pp (pp (pp @F.slices_Delete_string (@cG [1] [101])) <| pp (pp @F.dN (@cG [2] [102])) ()) <| pp () <| pp () <| pp () <| pp () <| (pp (@ni [] [(0,0),(1,1),(2,2),(3,101),(4,102)] []) <| pp (@ni [] [(0,0),(1,1),(2,2),(3,1),(4,2)] []) ())
 exact lD
theorem F.DX:∀ (n:Nat),∀ {ag bz r},G.bC n ag bz=some r->bF pZ 55 [.agg (wN ag),.agg (wN bz)] (.agg (wN r)):=by
 intro n
 induction n using Nat.strongRecOn with | _ n ih =>
 intro ag bz r h
 refine aH K.bC (kK ?_)
 unfold C.bC
 rcases n with _ | n<;>simp only [G.bC,reduceCtorEq] at h
 have:=Mk.mk 1; have:=Mk.mk 2
 have z:=pp (pp ih <| pp @F.slices_BinarySearch_string ()) <| pp (pp (pp @F.oz (@cG [] [101,102])) <| pp (pp @F.oz (@cG [] [155,156])) <| pp (pp @F.nR (@cG [142,143,144] [145,146])) <| pp (pp @F.kM (@cG [149,151,152] [153,154])) ()) <| pp (pp (@lS (Int × Int × Int × aG × List aG × List af) _ (fun n x=>G.bC.L4 n bz x.1 x.2.1 x.2.2.1 x.2.2.2.1 x.2.2.2.2.1 x.2.2.2.2.2) r (fun x=>dB.of [eP 3 140,eP 4 141,eP 5 142,eT 23 bz.Names,eI 24 ((bz.Names.length:Nat):Int),eI 25 x.1] [(140,.var (wN bz)),(141,.var zN),(142,.var [wI x.2.1,wI x.2.2.1,wS x.2.2.2.1,.own 143 x.2.2.2.2.1.length 1,.own 144 x.2.2.2.2.2.length 5]),(143,.dat 1 (List.map cS x.2.2.2.2.1)),(144,.dat 5 (List.map af.cells x.2.2.2.2.2))])) ()) <| pp (pp (@pq (Int × Int × aG × List aG × List af) _ (fun n x=>G.bC.K1 n bz x.1 x.2.1 x.2.2.1 x.2.2.2.1 x.2.2.2.2) r (fun x=>dB.of [eP 3 105,eP 4 106,eP 5 107] [(105,.var (wN bz)),(106,.var zN),(107,.var [wI x.1,wI x.2.1,wS x.2.2.1,.own 108 x.2.2.2.1.length 1,.own 109 x.2.2.2.2.length 5]),(108,.dat 1 (List.map cS x.2.2.2.1)),(109,.dat 5 (List.map af.cells x.2.2.2.2))])) <| pp (@pq (Int × Int × Int × aG × List aG × List af × Int × Int × aG × List aG × List af) _ (fun n x=>G.bC.K5 n bz x.1 x.2.1 x.2.2.1 x.2.2.2.1 x.2.2.2.2.1 x.2.2.2.2.2.1 x.2.2.2.2.2.2.1 x.2.2.2.2.2.2.2.1 x.2.2.2.2.2.2.2.2.1 x.2.2.2.2.2.2.2.2.2.1 x.2.2.2.2.2.2.2.2.2.2) r (fun x=>dB.of [eP 3 147,eP 4 148,eP 5 149,eI 6 x.1,eS 7 (bz.Names.getD x.1.toNat default),eP 8 150,eT 23 bz.Names,eI 24 ((bz.Names.length:Nat):Int),eI 25 x.1] [(147,.var (wN bz)),(148,.var zN),(149,.var [wI x.2.1,wI x.2.2.1,wS x.2.2.2.1,.own 151 x.2.2.2.2.1.length 1,.own 152 x.2.2.2.2.2.1.length 5]),(150,.var [wI x.2.2.2.2.2.2.1,wI x.2.2.2.2.2.2.2.1,wS x.2.2.2.2.2.2.2.2.1,wT x.2.2.2.2.2.2.2.2.2.1,wK x.2.2.2.2.2.2.2.2.2.2]),(151,.dat 1 (List.map cS x.2.2.2.2.1)),(152,.dat 5 (List.map af.cells x.2.2.2.2.2.1))])) ()) <| pp (pp (And.intro @G.bC.K1.eq_1 <| And.intro @G.bC.K1.eq_2 <| And.intro @G.bC.L4.eq_1 <| And.intro @G.bC.L4.eq_2 <| And.intro @G.bC.K5.eq_1 <| @G.bC.K5.eq_2) ()) <| pp (pp (@bf [] [(105,11),(106,12),(107,13),(108,155),(109,156)] []) <| pp (@bf [] [(105,11),(106,12),(107,13)] [108,109]) <| pp (@bf [] [(140,105),(141,106),(142,107),(143,108),(144,109)] []) <| pp (@bf [] [(140,140),(141,141),(142,142),(143,145),(144,146)] []) <| pp (@bf [] [(147,140),(148,141),(149,142),(150,14),(151,143),(152,144)] []) <| pp (@bf [] [(140,147),(141,148),(142,149),(143,153),(144,154)] []) <| pp (@bf [] [(105,11),(106,12),(107,13),(108,101),(109,102)] []) ()) <| pp () <| (pp (pp (rfl : @G.bC.K1=_) ()) <| pp (pp (rfl : @G.bC.K5=_) <| pp (rfl : @G.bC.L4=_) <| pp (rfl : @G.bC.K1=_) ()) ())
 exact Ht
theorem F.bC {n:Nat} : ∀ {ag:af} {bz:af} {r:af},G.bC n ag bz=some r->bF pZ 55 [.agg (wN ag),.agg (wN bz)] (.agg (wN r)):=F.DX n
theorem F.jZ {n:Nat} : ∀ {ag bz r},G.jZ n ag bz=some r->bF pZ 21 [.agg (wN ag),.agg (wN bz)] (.o8 [(true,(wN r.1)),(false,[.c (.lit (.bool r.2))])]):=by
 intro ag bz r h
 refine aH K.jZ (kK ?_)
 unfold C.jZ
 rcases n with _ | n<;>simp only [G.jZ,reduceCtorEq] at h
 have z:=pp (pp @F.aO <| pp @F.bC <| pp @F.kL ()) <| pp () <| pp () <| pp () <| pp () <| pp () <| ()
 exact lD
theorem F.nJ {n:Nat} : ∀ {vS bQ r},G.nJ n vS bQ=some r->bF pZ 79 [.agg (wN vS),.agg [wI bQ.Method,wS bQ.Name,wT bQ.Want,wT bQ.lT,wI bQ.Body.Kind,wI bQ.Body.Num,wS bQ.Body.Text,wT bQ.Body.Names,wK bQ.Body.Kids,.c (.sl 8 (List.map nO.cells bQ.Ops))]] (.o8 [(true,(wN r.1)),(false,[.c (.lit (.bool r.2))])]):=by
 intro vS bQ r h
 refine aH K.nJ (kK ?_)
 unfold C.nJ
 rcases n with _ | n<;>simp only [G.nJ,reduceCtorEq] at h
 have z:=pp (pp @F.jK <| pp @F.jZ ()) <| pp () <| pp () <| pp () <| pp () <| pp () <| ()
 exact lD
theorem F.jJ {n:Nat} : ∀ {ai bQ vS zW r},G.jJ n ai bQ vS zW=some r->bF pZ 39 [.agg [.c (.sl 7 (List.map aA.cells ai.Items)),wI ai.Clock],.agg [wI bQ.Method,wS bQ.Name,wT bQ.Want,wT bQ.lT,wI bQ.Body.Kind,wI bQ.Body.Num,wS bQ.Body.Text,wT bQ.Body.Names,wK bQ.Body.Kids,.c (.sl 8 (List.map nO.cells bQ.Ops))],.agg (wN vS),.one (.c (.lit (.bool zW)))] (.o8 [(true,[.c (.sl 7 (List.map aA.cells r.1.Items)),wI r.1.Clock]),(true,[wI r.2.Status,wS r.2.Tag,wI r.2.Version,wI r.2.Body.Kind,wI r.2.Body.Num,wS r.2.Body.Text,wT r.2.Body.Names,wK r.2.Body.Kids])]):=by
 intro ai bQ vS zW r h
 refine aH K.jJ (kK ?_)
 unfold C.jJ
 rcases n with _ | n<;>simp only [G.jJ,reduceCtorEq] at h
 have z:=pp (pp @F.nJ <| pp @F.nH <| pp @F.lF <| pp @F.bn ()) <| pp () <| pp () <| pp () <| pp () <| pp () <| ()
 exact lD
theorem F.jB {n:Nat} : ∀ {bQ r},G.jB n bQ=some r->bF pZ 35 [.agg [wI bQ.Method,wS bQ.Name,wT bQ.Want,wT bQ.lT,wI bQ.Body.Kind,wI bQ.Body.Num,wS bQ.Body.Text,wT bQ.Body.Names,wK bQ.Body.Kids,.c (.sl 8 (List.map nO.cells bQ.Ops))]] (.one (.c (.lit (.bool r)))):=by
 intro bQ r h
 refine aH K.jB (kK ?_)
 unfold C.jB
 rcases n with _ | n<;>simp only [G.jB,reduceCtorEq] at h
 have z:=pp (pp @F.iG <| pp @F.iD <| pp @F.aO <| pp @F.dX ()) <| pp () <| pp () <| pp () <| pp () <| pp () <| ()
 exact lD
theorem F.aW {n:Nat} : ∀ {ai bQ r},G.aW n ai bQ=some r->bF pZ 13 [.agg [.c (.sl 7 (List.map aA.cells ai.Items)),wI ai.Clock],.agg [wI bQ.Method,wS bQ.Name,wT bQ.Want,wT bQ.lT,wI bQ.Body.Kind,wI bQ.Body.Num,wS bQ.Body.Text,wT bQ.Body.Names,wK bQ.Body.Kids,.c (.sl 8 (List.map nO.cells bQ.Ops))]] (.o8 [(true,[.c (.sl 7 (List.map aA.cells r.1.Items)),wI r.1.Clock]),(true,[wI r.2.Status,wS r.2.Tag,wI r.2.Version,wI r.2.Body.Kind,wI r.2.Body.Num,wS r.2.Body.Text,wT r.2.Body.Names,wK r.2.Body.Kids])]):=by
 intro ai bQ r h
 refine aH K.aW (kK ?_)
 unfold C.aW
 rcases n with _ | n<;>simp only [G.aW,reduceCtorEq] at h
 have:=Mk.mk 1; have:=Mk.mk 2
 have z:=pp (pp @F.bg <| pp @F.jB <| pp @F.ji <| pp @F.lF <| pp @F.iO <| pp @F.bn <| pp @F.lq <| pp @F.jJ ()) <| pp () <| pp () <| pp (pp (@pq ((aA × Bool) × aG) _ (fun n x=>G.aW.K1 n ai bQ x.1 x.2) r (fun x=>dB.of [eP 2 101,eP 3 102,eP 4 103,eP 5 104,eP 6 105,(7,.v true (.one (.c (.lit (.bool true))))),eS 8 x.2] [(101,.var [.c (.sl 7 (List.map aA.cells ai.Items)),wI ai.Clock]),(102,.var [wI bQ.Method,wS bQ.Name,wT bQ.Want,wT bQ.lT,wI bQ.Body.Kind,wI bQ.Body.Num,wS bQ.Body.Text,wT bQ.Body.Names,wK bQ.Body.Kids,.c (.sl 8 (List.map nO.cells bQ.Ops))]),(103,.var [.cO 7,wI 0]),(104,.var [wI 0,.c (.str []),wI 0,wI 0,wI 0,.c (.str []),.cO 1,.cO 5]),(105,.var [wS x.1.1.Name,wI x.1.1.Version,wI x.1.1.Node.Kind,wI x.1.1.Node.Num,wS x.1.1.Node.Text,wT x.1.1.Node.Names,wK x.1.1.Node.Kids])])) <| pp (@pq ((aA × Bool)) _ (fun n x=>G.aW.K2 n ai bQ x) r (fun x=>dB.of [eP 2 106,eP 3 107,eP 4 108,eP 5 109,eP 6 110,(7,.v true (.one (.c (.lit (.bool false))))),(8,.v true (.one (.c (.str [])))),(37,.v true (.one (.c (.lit (.bool false)))))] [(106,.var [.c (.sl 7 (List.map aA.cells ai.Items)),wI ai.Clock]),(107,.var [wI bQ.Method,wS bQ.Name,wT bQ.Want,wT bQ.lT,wI bQ.Body.Kind,wI bQ.Body.Num,wS bQ.Body.Text,wT bQ.Body.Names,wK bQ.Body.Kids,.c (.sl 8 (List.map nO.cells bQ.Ops))]),(108,.var [.cO 7,wI 0]),(109,.var [wI 0,.c (.str []),wI 0,wI 0,wI 0,.c (.str []),.cO 1,.cO 5]),(110,.var [wS x.1.Name,wI x.1.Version,wI x.1.Node.Kind,wI x.1.Node.Num,wS x.1.Node.Text,wT x.1.Node.Names,wK x.1.Node.Kids])])) ()) <| pp (pp (And.intro @G.aW.K1.eq_1 <| And.intro @G.aW.K1.eq_2 <| And.intro @G.aW.K2.eq_1 <| @G.aW.K2.eq_2) ()) <| pp (pp (@bf [] [(101,10),(102,11),(103,12),(104,13),(105,14)] []) <| pp (@bf [] [(106,10),(107,11),(108,12),(109,13),(110,14)] []) ()) <| pp () <| (pp (pp (rfl : @G.aW.K1=_) ()) <| pp (pp (rfl : @G.aW.K2=_) ()) ())
 exact Ht
theorem F.og {n:Nat} : ∀ {bQ r},G.og n bQ=some r->bF pZ 67 [.agg [wI bQ.Method,wS bQ.Name,wT bQ.Want,wT bQ.lT,wI bQ.Body.Kind,wI bQ.Body.Num,wS bQ.Body.Text,wT bQ.Body.Names,wK bQ.Body.Kids,.c (.sl 8 (List.map nO.cells bQ.Ops))]] (.one (.c (.lit (.bool r)))):=by
 intro bQ r h
 refine aH K.og (kK ?_)
 unfold C.og
 rcases n with _ | n<;>simp only [G.og,reduceCtorEq] at h
 have z:=pp (pp @F.jB ()) <| pp () <| pp () <| pp () <| pp () <| pp () <| ()
 exact lD
theorem F.dK {n:Nat} : ∀ {ah r},G.dK n ah=some r->bF pZ 56 [.one (.c (.sl 10 (List.map RequestT.cells ah)))] (.one (.c (.lit (.bool r)))):=by
 intro ah r h
 refine aH K.dK (kK ?_)
 unfold C.dK
 rcases n with _ | n<;>simp only [G.dK,reduceCtorEq] at h
 have z:=pp (pp @F.jB ()) <| pp () <| pp (pp (@lS (Int) _ (fun n x=>G.dK.L1 n ah x) r (fun x=>dB.of [(8,.v true (.one (.c (.sl 10 (List.map RequestT.cells ah))))),eI 9 ((ah.length:Nat):Int),eI 10 x] [])) ()) <| pp () <| pp (pp (And.intro @G.dK.L1.eq_1 <| @G.dK.L1.eq_2) ()) <| pp (pp (@bf [] [] []) ()) <| ()
 exact lD
theorem F.kP {n:Nat} : ∀ {bW r},G.kP n bW=some r->bF pZ 58 [.one (wI bW)] (.one (.c (.lit (.bool r)))):=by
 intro bW r h
 refine aH K.kP (kK ?_)
 unfold C.kP
 rcases n with _ | n<;>simp only [G.kP,reduceCtorEq] at h
 have z:=pp () <| pp () <| pp () <| pp () <| pp () <| pp () <| ()
 exact lD
theorem F.bJ {n:Nat} : ∀ {ai ah r},G.bJ n ai ah=some r->bF pZ 57 [.agg [.c (.sl 7 (List.map aA.cells ai.Items)),wI ai.Clock],.one (.c (.sl 10 (List.map RequestT.cells ah))),.one (.fn 58 [])] (.o8 [(true,[.c (.sl 7 (List.map aA.cells r.1.Items)),wI r.1.Clock]),(false,[.c (.sl 8 (List.map aj.cells r.2))])]):=by
 intro ai ah r h
 refine aH K.bJ (kK ?_)
 unfold C.vF
 rcases n with _ | n<;>simp only [G.bJ,reduceCtorEq] at h
 have z:=pp (pp @F.bn <| pp @F.aW <| pp @F.kP ()) <| pp () <| pp (pp (@lS (Int × List aA × Int × List aj) _ (fun n x=>G.bJ.L1 n ah x.1 x.2.1 x.2.2.1 x.2.2.2) r (fun x=>dB.of [(2,.v true (.one (.fn 58 []))),eP 6 106,eP 8 107,(9,.v true (.one (.own 108 x.2.2.2.length 8))),(16,.v true (.one (.c (.sl 10 (List.map RequestT.cells ah))))),eI 17 ((ah.length:Nat):Int),eI 18 x.1] [(106,.var [.cO 7,wI 0]),(107,.var [.c (.sl 7 (List.map aA.cells x.2.1)),wI x.2.2.1]),(108,.dat 8 (List.map aj.cells x.2.2.2))])) ()) <| pp () <| pp (pp (And.intro @G.bJ.L1.eq_1 <| @G.bJ.L1.eq_2) ()) <| pp (pp (@bf [] [(106,11),(107,12)] [108]) <| pp (@bf [] [(106,106),(107,107),(108,17)] []) ()) <| ()
 exact lD
theorem F.dF {n:Nat} : ∀ {ai ah r},G.dF n ai ah=some r->bF pZ 22 [.agg [.c (.sl 7 (List.map aA.cells ai.Items)),wI ai.Clock],.one (.c (.sl 10 (List.map RequestT.cells ah)))] (.o8 [(true,[.c (.sl 7 (List.map aA.cells r.1.Items)),wI r.1.Clock]),(false,[.c (.sl 8 (List.map aj.cells r.2))])]):=by
 intro ai ah r h
 refine aH K.dF (kK ?_)
 unfold C.dF
 rcases n with _ | n<;>simp only [G.dF,reduceCtorEq] at h
 have z:=pp (pp @F.bg <| pp @F.dK ()) <| pp (pp (pp @F.bJ (@cG [] [])) ()) <| pp () <| pp () <| pp () <| pp () <| ()
 exact lD
theorem FZ.slices_Compact_string {n c:Nat} {s r:List aG} (hc:s.length<=c) (h:G.slices_Compact_string n s=some r) :
  fF pZ 69 [.one (.sub 0 0 s.length (some c) 1)] [.dat 1 (List.map cS s)]
   (fun r1 b1=>r1 = .one (.own 1 r.length 1)/\b1=[.dead,.dat 1 (List.map cS r)]):=by
 refine dQ K.slices_Compact_string (kK ?_)
 unfold C.slices_Compact_string
 rcases n with _ | n<;>simp only [G.slices_Compact_string,reduceCtorEq] at h
 have z:=pp () <| pp () <| pp (pp (@lS Nat _ (fun n x=>G.slices_Compact_string.L1 n s x) r (fun x=>dB.of [(0,.v true (.one (.sub 0 0 s.length (some c) 1))),eI 3 (x:Int)] [(0,.dat 1 (List.map cS s))])) <|
  pp (@lS (Nat × Nat × Nat × List aG) _ (fun n x=>G.slices_Compact_string.L2 n s.length x.1 x.2.1 x.2.2.1 x.2.2.2) r (fun x=>dB.of [(0,.v true (.one (.sub 0 0 s.length (some c) 1))),eI 3 (x.2.1:Int),(4,.v true (.one (.sub 0 x.1 (s.length-x.1) (some (c-x.1)) 1))),eI 5 (x.2.2.1:Int)] [(0,.dat 1 (List.map cS x.2.2.2))])) ()) <|
  pp () <| pp (pp (And.intro @G.slices_Compact_string.L1.eq_1 <| And.intro @G.slices_Compact_string.L1.eq_2 <| And.intro @G.slices_Compact_string.L2.eq_1 @G.slices_Compact_string.L2.eq_2) ()) <| pp (pp (@bf [] [(0,0)] []) ()) <| pp (@ni [] [(0,0),(1,0)] []) ()
 exact Zb
theorem F.slices_Compact_string {n:Nat} : ∀ {ai:List aG} {r:List aG},G.slices_Compact_string n ai=some r ->
  fF pZ 69 [.one (.own 0 ai.length 1)] [.dat 1 (List.map cS ai)]
   (fun r1 b1=>r1 = .one (.own 1 r.length 1)/\b1=[.dead,.dat 1 (List.map cS r)]):=by
 intro s r h
 exact yQ (fun c hc=>FZ.slices_Compact_string (by simpa using hc) h)
theorem F.mZ {n:Nat} : ∀ {kQ r},G.mZ n kQ=some r->bF pZ 107 [.one (.c (.lit (.int .u64 kQ)))] (.one (wI r)):=by
 intro kQ r h
 refine aH K.mZ (kK ?_)
 unfold C.mZ
 rcases n with _ | n<;>simp only [G.mZ,reduceCtorEq] at h
 have z:=pp (pp @F.gK ()) <| pp () <| pp () <| pp () <| pp () <| pp () <| ()
 exact lD
theorem F.ay {n:Nat} : ∀ {ou bW cZ r},G.ay n ou bW cZ=some r->fF pZ 154 [.one (.own 0 ou.length 1),.one (wI bW),.one (wI cZ)] [.dat 1 (List.map cS ou)] (fun r1 b1=>r1 = .o8 []/\b1=[.dat 1 (List.map cS r)]):=by
 intro ou bW cZ r h
 refine dQ K.ay (kK ?_)
 unfold C.ay
 rcases n with _ | n<;>simp only [G.ay,reduceCtorEq] at h
 have z:=pp (pp @F.cmp_Less_string ()) <| pp () <| pp (pp (@lS (Int × List aG) _ (fun n x=>G.ay.L3 n bW cZ x.1 x.2) r (fun x=>dB.of [(0,.v true (.one (.own 0 x.2.length 1))),eI 1 bW,eI 2 cZ,eI 6 x.1] [(0,.dat 1 (List.map cS x.2))])) <| pp (@lS (Int × Int × List aG) _ (fun n x=>G.ay.L4 n bW cZ x.1 x.2.1 x.2.2) r (fun x=>dB.of [(0,.v true (.one (.own 0 x.2.2.length 1))),eI 1 bW,eI 2 cZ,eI 6 x.1,eI 7 x.2.1] [(0,.dat 1 (List.map cS x.2.2))])) ()) <| pp () <| pp (pp (And.intro @G.ay.L3.eq_1 <| And.intro @G.ay.L3.eq_2 <| And.intro @G.ay.L4.eq_1 <| @G.ay.L4.eq_2) ()) <| pp (pp (@bf [] [(0,0)] []) ()) <| (pp (@ni [] [(0,0)] []) ())
 exact lD
theorem F.vw:∀ (n:Nat),∀ {ou bW cZ rf r},G.bu n ou bW cZ rf=some r->fF pZ 106 [.one (.own 0 ou.length 1),.one (wI bW),.one (wI cZ),.one (wI rf)] [.dat 1 (List.map cS ou)] (fun r1 b1=>r1 = .o8 []/\b1=[.dat 1 (List.map cS r)]):=by
 intro n
 induction n using Nat.strongRecOn with | _ n ih =>
 intro ou bW cZ rf r h
 refine dQ K.bu (kK ?_)
 unfold C.bu
 rcases n with _ | n<;>simp only [G.bu,reduceCtorEq] at h
 have z:=pp () <| pp (pp (pp @F.ay (@cG [0] [])) ()) <| pp (pp (@lS (Unit) _ (fun n x=>G.bu.L2 n ou bW cZ rf) r (fun x=>dB.of [(0,.v true (.one (.own 0 ou.length 1))),eI 1 bW,eI 2 cZ,eI 3 rf,(8,.v true (.one (.c (.lit (.bool true))))),(9,.v true (.one (.c (.lit (.bool true)))))] [(0,.dat 1 (List.map cS ou))])) ()) <| pp (pp (@pq (Unit) _ (fun n x=>G.bu.K3 n) r (fun x=>dB.of [(0,.v true (.one (.own 0 ou.length 1))),eI 1 bW,eI 2 cZ,eI 3 rf,(8,.v true (.one (.c (.lit (.bool true))))),(9,.v true (.one (.c (.lit (.bool true))))),eI 10 (IntKind.wrap .i64 (cZ-bW)),(35,.v true (.one (.c (.lit (.bool false)))))] [(0,.dat 1 (List.map cS ou))])) ()) <| pp (pp (And.intro @G.bu.L2.eq_1 <| And.intro @G.bu.L2.eq_2 <| And.intro @G.bu.K3.eq_1 <| @G.bu.K3.eq_2) ()) <| pp (pp (@bf [] [(0,0)] []) ()) <| (pp (@ni [] [(0,0)] []) ())
 exact lD
theorem F.bu {n:Nat} : ∀ {ou:List aG} {bW:Int} {cZ:Int} {rf:Int} {r:List aG},G.bu n ou bW cZ rf=some r->fF pZ 106 [.one (.own 0 ou.length 1),.one (wI bW),.one (wI cZ),.one (wI rf)] [.dat 1 (List.map cS ou)] (fun r1 b1=>r1 = .o8 []/\b1=[.dat 1 (List.map cS r)]):=F.vw n
theorem F.slices_Sort_string {n:Nat} : ∀ {kQ r},G.slices_Sort_string n kQ=some r->fF pZ 68 [.one (.own 0 kQ.length 1)] [.dat 1 (List.map cS kQ)] (fun r1 b1=>r1 = .o8 []/\b1=[.dat 1 (List.map cS r)]):=by
 intro kQ r h
 refine dQ K.slices_Sort_string (kK ?_)
 unfold C.slices_Sort_string
 rcases n with _ | n<;>simp only [G.slices_Sort_string,reduceCtorEq] at h
 have z:=pp (pp @F.mZ ()) <| pp (pp (pp @F.bu (@cG [0] [])) ()) <| pp () <| pp () <| pp () <| pp () <| (pp (@ni [] [(0,0)] []) ())
 exact lD
theorem F.jl {n:Nat} : ∀ {ah r},G.jl n ah=some r->bF pZ 30 [.one (.c (.sl 10 (List.map RequestT.cells ah)))] (.one (wT r)):=by
 intro ah r h
 refine aH K.jl (kK ?_)
 unfold C.jl
 rcases n with _ | n<;>simp only [G.jl,reduceCtorEq] at h
 have z:=pp (pp @F.dK <| pp @F.og ()) <| pp (pp (pp @F.slices_Sort_string (@cG [102] [])) <| pp (pp @F.slices_Compact_string (@cG [102] [103])) ()) <| pp (pp (@lS (Int × List aG) _ (fun n x=>G.jl.L1 n ah x.1 x.2) r (fun x=>dB.of [(3,.v true (.one (.own 102 x.2.length 1))),(9,.v true (.one (.c (.sl 10 (List.map RequestT.cells ah))))),eI 10 ((ah.length:Nat):Int),eI 11 x.1] [(102,.dat 1 (List.map cS x.2))])) ()) <| pp () <| pp (pp (And.intro @G.jl.L1.eq_1 <| @G.jl.L1.eq_2) ()) <| pp (pp (@bf [] [] [102]) <| pp (@bf [] [(102,102)] []) <| pp (@bf [] [(102,12)] []) ()) <| ()
 exact lD
theorem F.gJ {n:Nat} : ∀ {bW cZ r},G.gJ n bW cZ=some r->bF pZ 45 [.one (wT bW),.one (wT cZ)] (.one (.c (.lit (.bool r)))):=by
 intro bW cZ r h
 refine aH K.gJ (kK ?_)
 unfold C.gJ
 rcases n with _ | n<;>simp only [G.gJ,reduceCtorEq] at h
 have z:=pp () <| pp () <| pp (pp (@lS (Int) _ (fun n x=>G.gJ.L1 n bW cZ x) r (fun x=>dB.of [eT 0 bW,eT 1 cZ,eI 5 x] [])) ()) <| pp () <| pp (pp (And.intro @G.gJ.L1.eq_1 <| @G.gJ.L1.eq_2) ()) <| pp (pp (@bf [] [] []) ()) <| ()
 exact lD
theorem F.Dc:∀ (n:Nat),(∀ {bW cZ r},G.gu n bW cZ=some r->bF pZ 17 [.agg (wN bW),.agg (wN cZ)] (.one (.c (.lit (.bool r)))))/\(∀ {bW cZ r},G.iK n bW cZ=some r->bF pZ 46 [.one (wK bW),.one (wK cZ)] (.one (.c (.lit (.bool r))))):=by
 intro n
 induction n using Nat.strongRecOn with | _ n ih =>
 refine ⟨?_,?_⟩
 ·intro bW cZ r h
  refine aH K.gu (kK ?_)
  unfold C.gu
  rcases n with _ | n<;>simp only [G.gu,reduceCtorEq] at h
  have z:=pp (pp ((ihR ih)) <| pp @F.gJ ()) <| pp () <| pp () <| pp () <| pp () <| pp () <| ()
  exact lD
 ·intro bW cZ r h
  refine aH K.iK (kK ?_)
  unfold C.iK
  rcases n with _ | n<;>simp only [G.iK,reduceCtorEq] at h
  have z:=pp (pp ((ihL ih)) ()) <| pp () <| pp (pp (@lS (Int) _ (fun n x=>G.iK.L1 n bW cZ x) r (fun x=>dB.of [(0,.v true (.one (wK bW))),(1,.v true (.one (wK cZ))),eI 5 x] [])) ()) <| pp () <| pp (pp (And.intro @G.iK.L1.eq_1 <| @G.iK.L1.eq_2) ()) <| pp (pp (@bf [] [] []) ()) <| ()
  exact lD
theorem F.gu {n:Nat} : ∀ {bW:af} {cZ:af} {r:Bool},G.gu n bW cZ=some r->bF pZ 17 [.agg (wN bW),.agg (wN cZ)] (.one (.c (.lit (.bool r)))):=(F.Dc n).1
theorem F.bG {n:Nat} : ∀ {bW cZ r},G.bG n bW cZ=some r->bF pZ 16 [.agg [wI bW.Status,wS bW.Tag,wI bW.Version,wI bW.Body.Kind,wI bW.Body.Num,wS bW.Body.Text,wT bW.Body.Names,wK bW.Body.Kids],.agg [wI cZ.Status,wS cZ.Tag,wI cZ.Version,wI cZ.Body.Kind,wI cZ.Body.Num,wS cZ.Body.Text,wT cZ.Body.Names,wK cZ.Body.Kids]] (.one (.c (.lit (.bool r)))):=by
 intro bW cZ r h
 refine aH K.bG (kK ?_)
 unfold C.bG
 rcases n with _ | n<;>simp only [G.bG,reduceCtorEq] at h
 have z:=pp (pp @F.gu ()) <| pp () <| pp () <| pp () <| pp () <| pp () <| ()
 exact lD
theorem F.iU {n:Nat} : ∀ {bW cZ r},G.iU n bW cZ=some r->bF pZ 44 [.one (.c (.sl 7 (List.map aA.cells bW))),.one (.c (.sl 7 (List.map aA.cells cZ)))] (.one (.c (.lit (.bool r)))):=by
 intro bW cZ r h
 refine aH K.iU (kK ?_)
 unfold C.iU
 rcases n with _ | n<;>simp only [G.iU,reduceCtorEq] at h
 have z:=pp (pp @F.gu ()) <| pp () <| pp (pp (@lS (Int) _ (fun n x=>G.iU.L1 n bW cZ x) r (fun x=>dB.of [(0,.v true (.one (.c (.sl 7 (List.map aA.cells bW))))),(1,.v true (.one (.c (.sl 7 (List.map aA.cells cZ))))),eI 5 x] [])) ()) <| pp () <| pp (pp (And.intro @G.iU.L1.eq_1 <| @G.iU.L1.eq_2) ()) <| pp (pp (@bf [] [] []) ()) <| ()
 exact lD
theorem F.aK {n:Nat} : ∀ {bW cZ r},G.aK n bW cZ=some r->bF pZ 15 [.agg [.c (.sl 7 (List.map aA.cells bW.Items)),wI bW.Clock],.agg [.c (.sl 7 (List.map aA.cells cZ.Items)),wI cZ.Clock]] (.one (.c (.lit (.bool r)))):=by
 intro bW cZ r h
 refine aH K.aK (kK ?_)
 unfold C.aK
 rcases n with _ | n<;>simp only [G.aK,reduceCtorEq] at h
 have z:=pp (pp @F.iU ()) <| pp () <| pp () <| pp () <| pp () <| pp () <| ()
 exact lD
theorem F.F8:∀ (n:Nat),∀ {ag r},G.aB n ag=some r->bF pZ 89 [.agg (wN ag)] (.agg (wN r)):=by
 intro n
 induction n using Nat.strongRecOn with | _ n ih =>
 intro ag r h
 refine aH K.aB (kK ?_)
 unfold C.aB
 rcases n with _ | n<;>simp only [G.aB,reduceCtorEq] at h
 have z:=pp (pp ih ()) <| pp () <| pp (pp (@lS (Int × List af) _ (fun n x=>G.aB.L1 n ag x.1 x.2) r (fun x=>dB.of [eP 1 107,eP 2 108,(3,.v true (.one (.own 109 x.2.length 5))),eI 4 x.1] [(107,.var (wN ag)),(108,.var zN),(109,.dat 5 (List.map af.cells x.2))])) ()) <| pp () <| pp (pp (And.intro @G.aB.L1.eq_1 <| @G.aB.L1.eq_2) ()) <| pp (pp (@bf [] [(107,10),(108,11),(109,12)] []) <| pp (@bf [] [(107,107),(108,108),(109,14)] []) ()) <| ()
 exact lD
theorem F.aB {n:Nat} : ∀ {ag:af} {r:af},G.aB n ag=some r->bF pZ 89 [.agg (wN ag)] (.agg (wN r)):=F.F8 n
theorem F.ug {n:Nat} : ∀ {ag r},G.aB n ag=some r->fF pZ 89 [.agg (wN ag)] [] (fun r1 b1=>r1 = .agg [wI r.Kind,wI r.Num,wS r.Text,.own 0 r.Names.length 1,.own 1 r.Kids.length 5]/\b1=[.dat 1 (List.map cS r.Names),.dat 5 (List.map af.cells r.Kids)]):=by
 intro ag r h
 refine dQ K.aB (kK ?_)
 unfold C.aB
 rcases n with _ | n<;>simp only [G.aB,reduceCtorEq] at h
 have z:=pp (pp @F.aB ()) <| pp () <| pp (pp (@lS (Int × List af) _ (fun n x=>G.aB.L1 n ag x.1 x.2) r (fun x=>dB.of [eP 1 107,eP 2 108,(3,.v true (.one (.own 109 x.2.length 5))),eI 4 x.1] [(107,.var (wN ag)),(108,.var zN),(109,.dat 5 (List.map af.cells x.2))])) ()) <| pp () <| pp (pp (And.intro @G.aB.L1.eq_1 <| @G.aB.L1.eq_2) ()) <| pp (pp (@bf [] [(107,10),(108,11),(109,12)] []) <| pp (@bf [] [(107,107),(108,108),(109,14)] []) ()) <| (pp (@ni [] [(0,16),(1,109)] []) ())
 exact lD
theorem F.aC {n:Nat} : ∀ {dA ag r},G.aC n dA ag=some r->fF pZ 62 [.one (.ptr 0 0),.one (wI ag)] [.var [.c (.sl 1 (List.map cU dA.b)),wI dA.p]] (fun r1 b1=>r1 = .one (wI r.1)/\b1=[.var [.c (.sl 1 (List.map cU r.2.b)),wI r.2.p]]):=by
 intro dA ag r h
 refine dQ K.aC (kK ?_)
 unfold C.aC
 rcases n with _ | n<;>simp only [G.aC,reduceCtorEq] at h
 have z:=pp () <| pp () <| pp () <| pp () <| pp () <| pp () <| (pp (@ni [] [(0,0)] []) ())
 exact lD
theorem F.dD {n:Nat} : ∀ {dA ah r},G.dD n dA ah=some r->fF pZ 71 [.one (.ptr 0 0),.one (.c (.sl 1 (List.map cI ah)))] [.var [.c (.sl 1 (List.map cU dA.b)),wI dA.p]] (fun r1 b1=>r1 = .one (wI r.1)/\b1=[.var [.c (.sl 1 (List.map cU r.2.b)),wI r.2.p]]):=by
 intro dA ah r h
 refine dQ K.dD (kK ?_)
 unfold C.dD
 rcases n with _ | n<;>simp only [G.dD,reduceCtorEq] at h
 have z:=pp () <| pp (pp (pp @F.aC (@cG [0] [])) ()) <| pp () <| pp () <| pp () <| pp () <| (pp (@ni [] [(0,0)] []) ())
 exact lD
theorem F.II:∀ (n:Nat),∀ {ag r},G.iQ n ag=some r->bF pZ 179 [.one (wI ag)] (.one (wS r)):=by
 intro n
 induction n using Nat.strongRecOn with | _ n ih =>
 intro ag r h
 refine aH K.iQ (kK ?_)
 unfold C.iQ
 rcases n with _ | n<;>simp only [G.iQ,reduceCtorEq] at h
 have z:=pp (pp ih ()) <| pp () <| pp () <| pp () <| pp () <| pp () <| ()
 exact lD
theorem F.iQ {n:Nat} : ∀ {ag:Int} {r:aG},G.iQ n ag=some r->bF pZ 179 [.one (wI ag)] (.one (wS r)):=F.II n
theorem F.fB {n:Nat} : ∀ {ag gI r},G.fB n ag gI=some r->bF pZ 182 [.agg (wN ag),.one (wS gI)] (.one (wI r)):=by
 intro ag gI r h
 refine aH K.fB (kK ?_)
 unfold C.fB
 rcases n with _ | n<;>simp only [G.fB,reduceCtorEq] at h
 have z:=pp (pp @F.iQ ()) <| pp () <| pp (pp (@lS (Int) _ (fun n x=>G.fB.L1 n ag gI x) r (fun x=>dB.of [eS 1 gI,eP 2 103,eI 5 x] [(103,.var (wN ag))])) ()) <| pp () <| pp (pp (And.intro @G.fB.L1.eq_1 <| @G.fB.L1.eq_2) ()) <| pp (pp (@bf [] [(103,10)] []) <| pp (@bf [] [(103,103)] []) ()) <| ()
 exact lD
theorem F.je {n:Nat} : ∀ {ag gI r},G.je n ag gI=some r->bF pZ 218 [.agg (wN ag),.one (wS gI)] (.o8 [(false,[wI r.1]),(false,[.c (.lit (.bool r.2))])]):=by
 intro ag gI r h
 refine aH K.je (kK ?_)
 unfold C.je
 rcases n with _ | n<;>simp only [G.je,reduceCtorEq] at h
 have z:=pp (pp @F.fB <| pp @F.iQ ()) <| pp () <| pp (pp (@lS (Int) _ (fun n x=>G.je.L1 n ag gI x) r (fun x=>dB.of [eS 1 gI,eP 2 103,eI 7 x] [(103,.var (wN ag))])) <| pp (@lS (Int) _ (fun n x=>G.je.L2 n ag gI x) r (fun x=>dB.of [eS 1 gI,eP 2 106,eI 7 x] [(106,.var (wN ag))])) ()) <| pp () <| pp (pp (And.intro @G.je.L1.eq_1 <| And.intro @G.je.L1.eq_2 <| And.intro @G.je.L2.eq_1 <| @G.je.L2.eq_2) ()) <| pp (pp (@bf [] [(103,10)] []) <| pp (@bf [] [(103,103)] []) <| pp (@bf [] [(106,10)] []) <| pp (@bf [] [(106,106)] []) ()) <| ()
 exact lD
theorem F.jD {n:Nat} : ∀ {ag GK yO r},G.jD n ag GK yO=some r->bF pZ 183 [.agg (wN ag),.one (wI GK),.agg (wN yO)] (.agg (wN r)):=by
 intro ag GK yO r h
 refine aH K.jD (kK ?_)
 unfold C.jD
 rcases n with _ | n<;>simp only [G.jD,reduceCtorEq] at h
 have z:=pp () <| pp (pp (pp @F.ug (@cG [] [101,102])) <| pp (pp @F.ug (@cG [] [103,104])) ()) <| pp () <| pp () <| pp () <| pp () <| ()
 exact lD
theorem F.IJ {n:Nat} : ∀ {ag GK yO r},G.jD n ag GK yO=some r->fF pZ 183 [.agg (wN ag),.one (wI GK),.agg (wN yO)] [] (fun r1 b1=>r1 = .agg [wI r.Kind,wI r.Num,wS r.Text,.own 0 r.Names.length 1,.own 1 r.Kids.length 5]/\b1=[.dat 1 (List.map cS r.Names),.dat 5 (List.map af.cells r.Kids)]):=by
 intro ag GK yO r h
 refine dQ K.jD (kK ?_)
 unfold C.jD
 rcases n with _ | n<;>simp only [G.jD,reduceCtorEq] at h
 have z:=pp () <| pp (pp (pp @F.ug (@cG [] [101,102])) <| pp (pp @F.ug (@cG [] [103,104])) ()) <| pp () <| pp () <| pp () <| pp () <| (pp (@ni [] [(0,101),(1,102)] []) ())
 exact lD
theorem F.jd {n:Nat} : ∀ {ag gI dI r},G.jd n ag gI dI=some r->bF pZ 184 [.agg (wN ag),.one (wS gI),.agg (wN dI)] (.o8 [(true,(wN r.1)),(false,[.c (.lit (.bool r.2))])]):=by
 intro ag gI dI r h
 refine aH K.jd (kK ?_)
 unfold C.jd
 rcases n with _ | n<;>simp only [G.jd,reduceCtorEq] at h
 have z:=pp (pp @F.je <| pp @F.jD <| pp @F.aB ()) <| pp () <| pp () <| pp () <| pp () <| pp () <| ()
 exact lD
theorem F.IC {n:Nat} : ∀ {ag gI dI r},G.jd n ag gI dI=some r->fF pZ 184 [.agg (wN ag),.one (wS gI),.agg (wN dI)] [] (fun r1 b1=>r1 = .o8 [(true,[wI r.1.Kind,wI r.1.Num,wS r.1.Text,.own 0 r.1.Names.length 1,.own 1 r.1.Kids.length 5]),(false,[.c (.lit (.bool r.2))])]/\b1=[.dat 1 (List.map cS r.1.Names),.dat 5 (List.map af.cells r.1.Kids)]):=by
 intro ag gI dI r h
 refine dQ K.jd (kK ?_)
 unfold C.jd
 rcases n with _ | n<;>simp only [G.jd,reduceCtorEq] at h
 have z:=pp (pp @F.je <| pp @F.aB ()) <| pp (pp (pp @F.IJ (@cG [] [101,102])) ()) <| pp () <| pp () <| pp () <| pp () <| (pp (@ni [] [] [0,1]) <| pp (@ni [] [(0,101),(1,102)] []) <| pp (@ni [] [(0,19),(1,18)] []) <| pp (@ni [] [(0,24),(1,18)] []) ())
 exact lD
theorem F.fO {n:Nat} : ∀ {dA ah r},G.fO n dA ah=some r->fF pZ 112 [.one (.ptr 0 0),.one (wT ah)] [.var [.c (.sl 1 (List.map cU dA.b)),wI dA.p]] (fun r1 b1=>r1 = .one (wS r.1)/\b1=[.var [.c (.sl 1 (List.map cU r.2.b)),wI r.2.p]]):=by
 intro dA ah r h
 refine dQ K.fO (kK ?_)
 unfold C.fO
 rcases n with _ | n<;>simp only [G.fO,reduceCtorEq] at h
 have z:=pp () <| pp (pp (pp @F.aC (@cG [0] [])) ()) <| pp () <| pp () <| pp () <| pp () <| (pp (@ni [] [(0,0)] []) ())
 exact lD
theorem F.nC {n:Nat} : ∀ {dA r},G.nC n dA=some r->fF pZ 209 [.one (.ptr 0 0)] [.var [.c (.sl 1 (List.map cU dA.b)),wI dA.p]] (fun r1 b1=>r1 = .one (wS r.1)/\b1=[.var [.c (.sl 1 (List.map cU r.2.b)),wI r.2.p]]):=by
 intro dA r h
 refine dQ K.nC (kK ?_)
 unfold C.nC
 rcases n with _ | n<;>simp only [G.nC,reduceCtorEq] at h
 have z:=pp () <| pp (pp (pp @F.fO (@cH [0] [])) ()) <| pp () <| pp () <| pp () <| pp () <| (pp (@ni [] [(0,0)] []) ())
 exact lD
theorem F.ny {n:Nat} : ∀ {dA r},G.ny n dA=some r->fF pZ 210 [.one (.ptr 0 0)] [.var [.c (.sl 1 (List.map cU dA.b)),wI dA.p]] (fun r1 b1=>r1 = .one (wS r.1)/\b1=[.var [.c (.sl 1 (List.map cU r.2.b)),wI r.2.p]]):=by
 intro dA r h
 refine dQ K.ny (kK ?_)
 unfold C.ny
 rcases n with _ | n<;>simp only [G.ny,reduceCtorEq] at h
 have z:=pp () <| pp (pp (pp @F.fO (@cH [0] [])) ()) <| pp () <| pp () <| pp () <| pp () <| (pp (@ni [] [(0,0)] []) ())
 exact lD
theorem F.xm:∀ (n:Nat),(∀ {dA bM r},G.dO n dA bM=some r->fF pZ 165 [.one (.ptr 0 0),.one (wI bM)] [.var [.c (.sl 1 (List.map cU dA.b)),wI dA.p]] (fun r1 b1=>r1 = .agg (wN r.1)/\b1=[.var [.c (.sl 1 (List.map cU r.2.b)),wI r.2.p]]))/\(∀ {dA bM r},G.aS n dA bM=some r->fF pZ 164 [.one (.ptr 0 0),.one (wI bM)] [.var [.c (.sl 1 (List.map cU dA.b)),wI dA.p]] (fun r1 b1=>r1 = .agg (wN r.1)/\b1=[.var [.c (.sl 1 (List.map cU r.2.b)),wI r.2.p]])):=by
 intro n
 induction n using Nat.strongRecOn with | _ n ih =>
 refine ⟨?_,?_⟩
 ·intro dA bM r h
  refine dQ K.dO (kK ?_)
  unfold C.dO
  rcases n with _ | n<;>simp only [G.dO,reduceCtorEq] at h
  have z:=pp (pp @F.fB <| pp @F.jd ()) <| pp (pp (pp (ihR ih) (@cG [0] [])) <| pp (pp @F.dD (@cH [0] [])) <| pp (pp @F.ny (@cG [0] [])) ()) <| pp (pp (@lS (Int × List Int × Int × Int × Int × aG × List aG × List af) _ (fun n x=>G.dO.L1 n bM x.1 x.2.1 x.2.2.1 x.2.2.2.1 x.2.2.2.2.1 x.2.2.2.2.2.1 x.2.2.2.2.2.2.1 x.2.2.2.2.2.2.2) r (fun x=>dB.of [eP 0 0,eI 1 bM,eP 4 107,eP 5 108,eI 6 x.1] [(0,.var [.c (.sl 1 (List.map cU x.2.1)),wI x.2.2.1]),(107,.var zN),(108,.var [wI x.2.2.2.1,wI x.2.2.2.2.1,wS x.2.2.2.2.2.1,wT x.2.2.2.2.2.2.1,wK x.2.2.2.2.2.2.2])])) ()) <| pp () <| pp (pp (And.intro @G.dO.L1.eq_1 <| @G.dO.L1.eq_2) ()) <| pp (pp (@bf [11,12] [(0,0),(107,10),(108,13)] []) <| pp (@bf [] [(0,0),(107,107),(108,108)] []) ()) <| (pp (@ni [] [(0,0)] []) ())
  exact lD
 ·intro dA bM r h
  refine dQ K.aS (kK ?_)
  unfold C.aS
  rcases n with _ | n<;>simp only [G.aS,reduceCtorEq] at h
  have z:=pp () <| pp (pp (pp (ihR ih) (@cG [0] [])) <| pp (pp (ihL ih) (@cG [0] [])) <| pp (pp @F.aC (@cG [0] [])) <| pp (pp @F.dD (@cH [0] [])) <| pp (pp @F.nC (@cG [0] [])) ()) <| pp (pp (@lS (Int × Int × List Int × Int × List af) _ (fun n x=>G.aS.L2 n bM x.1 x.2.1 x.2.2.1 x.2.2.2.1 x.2.2.2.2) r (fun x=>dB.of [eP 0 0,eI 1 bM,eP 4 106,eI 5 x.1,(6,.v true (.one (.own 107 x.2.2.2.2.length 5))),eI 7 x.2.1] [(0,.var [.c (.sl 1 (List.map cU x.2.2.1)),wI x.2.2.2.1]),(106,.var zN),(107,.dat 5 (List.map af.cells x.2.2.2.2))])) ()) <| pp (pp (@pq (Int × List Int × Int) _ (fun n x=>G.aS.K1 n bM x.1 x.2.1 x.2.2) r (fun x=>dB.of [eP 0 0,eI 1 bM,eP 4 101,eI 5 x.1] [(0,.var [.c (.sl 1 (List.map cU x.2.1)),wI x.2.2]),(101,.var zN)])) ()) <| pp (pp (And.intro @G.aS.K1.eq_1 <| And.intro @G.aS.K1.eq_2 <| And.intro @G.aS.L2.eq_1 <| @G.aS.L2.eq_2) ()) <| pp (pp (@bf [] [(0,0),(101,10)] []) <| pp (@bf [] [(0,0),(106,101),(107,12)] []) <| pp (@bf [] [(0,0),(106,106),(107,14)] []) ()) <| (pp (@ni [] [(0,0)] []) <| pp (@ni [15,107] [(0,0)] []) ())
  exact lD
theorem F.dO {n:Nat} : ∀ {dA:ReaderT} {bM:Int} {r:af × ReaderT},G.dO n dA bM=some r->fF pZ 165 [.one (.ptr 0 0),.one (wI bM)] [.var [.c (.sl 1 (List.map cU dA.b)),wI dA.p]] (fun r1 b1=>r1 = .agg (wN r.1)/\b1=[.var [.c (.sl 1 (List.map cU r.2.b)),wI r.2.p]]):=(F.xm n).1
theorem F.aS {n:Nat} : ∀ {dA:ReaderT} {bM:Int} {r:af × ReaderT},G.aS n dA bM=some r->fF pZ 164 [.one (.ptr 0 0),.one (wI bM)] [.var [.c (.sl 1 (List.map cU dA.b)),wI dA.p]] (fun r1 b1=>r1 = .agg (wN r.1)/\b1=[.var [.c (.sl 1 (List.map cU r.2.b)),wI r.2.p]]):=(F.xm n).2
theorem F.yG {n:Nat} : ∀ {dA bM r},G.dO n dA bM=some r->fF pZ 165 [.one (.ptr 0 0),.one (wI bM)] [.var [.c (.sl 1 (List.map cU dA.b)),wI dA.p]] (fun r1 b1=>r1 = .agg [wI r.1.Kind,wI r.1.Num,wS r.1.Text,.own 1 r.1.Names.length 1,.own 2 r.1.Kids.length 5]/\b1=[.var [.c (.sl 1 (List.map cU r.2.b)),wI r.2.p],.dat 1 (List.map cS r.1.Names),.dat 5 (List.map af.cells r.1.Kids)]):=by
 intro dA bM r h
 refine dQ K.dO (kK ?_)
 unfold C.dO
 rcases n with _ | n<;>simp only [G.dO,reduceCtorEq] at h
 have z:=pp (pp @F.fB ()) <| pp (pp (pp @F.dD (@cH [0] [])) <| pp (pp @F.ny (@cG [0] [])) <| pp (pp @F.aS (@cG [0] [])) <| pp (pp @F.IC (@cH [] [117,118])) ()) <| pp (pp (@lS (Int × List Int × Int × Int × Int × aG × List aG × List af) _ (fun n x=>G.dO.L1 n bM x.1 x.2.1 x.2.2.1 x.2.2.2.1 x.2.2.2.2.1 x.2.2.2.2.2.1 x.2.2.2.2.2.2.1 x.2.2.2.2.2.2.2) r (fun x=>dB.of [eP 0 0,eI 1 bM,eP 4 113,eP 5 114,eI 6 x.1] [(0,.var [.c (.sl 1 (List.map cU x.2.1)),wI x.2.2.1]),(113,.var zN),(114,.var [wI x.2.2.2.1,wI x.2.2.2.2.1,wS x.2.2.2.2.2.1,.own 115 x.2.2.2.2.2.2.1.length 1,.own 116 x.2.2.2.2.2.2.2.length 5]),(115,.dat 1 (List.map cS x.2.2.2.2.2.2.1)),(116,.dat 5 (List.map af.cells x.2.2.2.2.2.2.2))])) ()) <| pp () <| pp (pp (And.intro @G.dO.L1.eq_1 <| @G.dO.L1.eq_2) ()) <| pp (pp (@bf [] [(0,0),(113,10),(114,13),(115,11),(116,12)] []) <| pp (@bf [] [(0,0),(113,113),(114,114),(115,117),(116,118)] []) <| pp (@bf [] [(0,0),(113,113),(114,114),(115,115),(116,116)] []) ()) <| (pp (@ni [] [(0,0),(1,115),(2,116)] []) ())
 exact lD
theorem F.Eh {n:Nat} : ∀ {dA bM r},G.aS n dA bM=some r->fF pZ 164 [.one (.ptr 0 0),.one (wI bM)] [.var [.c (.sl 1 (List.map cU dA.b)),wI dA.p]] (fun r1 b1=>r1 = .agg [wI r.1.Kind,wI r.1.Num,wS r.1.Text,.own 1 r.1.Names.length 1,.own 2 r.1.Kids.length 5]/\b1=[.var [.c (.sl 1 (List.map cU r.2.b)),wI r.2.p],.dat 1 (List.map cS r.1.Names),.dat 5 (List.map af.cells r.1.Kids)]):=by
 intro dA bM r h
 refine dQ K.aS (kK ?_)
 unfold C.aS
 rcases n with _ | n<;>simp only [G.aS,reduceCtorEq] at h
 have z:=pp () <| pp (pp (pp @F.aC (@cG [0] [])) <| pp (pp @F.dD (@cH [0] [])) <| pp (pp @F.nC (@cG [0] [])) <| pp (pp @F.aS (@cG [0] [])) <| pp (pp @F.yG (@cG [0] [108,109])) ()) <| pp (pp (@lS (Int × Int × List Int × Int × List af) _ (fun n x=>G.aS.L2 n bM x.1 x.2.1 x.2.2.1 x.2.2.2.1 x.2.2.2.2) r (fun x=>dB.of [eP 0 0,eI 1 bM,eP 4 106,eI 5 x.1,(6,.v true (.one (.own 107 x.2.2.2.2.length 5))),eI 7 x.2.1] [(0,.var [.c (.sl 1 (List.map cU x.2.2.1)),wI x.2.2.2.1]),(106,.var zN),(107,.dat 5 (List.map af.cells x.2.2.2.2))])) ()) <| pp (pp (@pq (Int × List Int × Int) _ (fun n x=>G.aS.K1 n bM x.1 x.2.1 x.2.2) r (fun x=>dB.of [eP 0 0,eI 1 bM,eP 4 101,eI 5 x.1] [(0,.var [.c (.sl 1 (List.map cU x.2.1)),wI x.2.2]),(101,.var zN)])) ()) <| pp (pp (And.intro @G.aS.K1.eq_1 <| And.intro @G.aS.K1.eq_2 <| And.intro @G.aS.L2.eq_1 <| @G.aS.L2.eq_2) ()) <| pp (pp (@bf [] [(0,0),(101,10)] []) <| pp (@bf [] [(0,0),(106,101),(107,12)] []) <| pp (@bf [] [(0,0),(106,106),(107,14)] []) ()) <| (pp (@ni [] [(0,0)] [1,2]) <| pp (@ni [] [(0,0),(1,15),(2,107)] []) <| pp (@ni [] [(0,0),(1,108),(2,109)] []) ())
 exact lD
theorem F.Lm:∀ (n:Nat),∀ {ag r},G.jO n ag=some r->bF pZ 124 [.agg (wN ag)] (.one (wI r)):=by
 intro n
 induction n using Nat.strongRecOn with | _ n ih =>
 intro ag r h
 refine aH K.jO (kK ?_)
 unfold C.jO
 rcases n with _ | n<;>simp only [G.jO,reduceCtorEq] at h
 have z:=pp (pp ih ()) <| pp () <| pp (pp (@lS (Int × Int) _ (fun n x=>G.jO.L1 n ag x.1 x.2) r (fun x=>dB.of [eP 1 103,eI 3 x.1,eI 4 x.2] [(103,.var (wN ag))])) ()) <| pp () <| pp (pp (And.intro @G.jO.L1.eq_1 <| @G.jO.L1.eq_2) ()) <| pp (pp (@bf [] [(103,10)] []) <| pp (@bf [] [(103,103)] []) ()) <| ()
 exact lD
theorem F.jO {n:Nat} : ∀ {ag:af} {r:Int},G.jO n ag=some r->bF pZ 124 [.agg (wN ag)] (.one (wI r)):=F.Lm n
theorem F.dW {n:Nat} : ∀ {ag GL Du r},G.dW n ag GL Du=some r->bF pZ 83 [.one (wI ag),.one (wI GL),.one (wI Du)] (.one (.c (.lit (.bool r)))):=by
 intro ag GL Du r h
 refine aH K.dW (kK ?_)
 unfold C.dW
 rcases n with _ | n<;>simp only [G.dW,reduceCtorEq] at h
 have z:=pp () <| pp () <| pp () <| pp () <| pp () <| pp () <| ()
 exact lD
theorem F.eU {n:Nat} : ∀ {ai r},G.eU n ai=some r->bF pZ 175 [.one (wS ai)] (.one (.c (.lit (.bool r)))):=by
 intro ai r h
 refine aH K.eU (kK ?_)
 unfold C.eU
 rcases n with _ | n<;>simp only [G.eU,reduceCtorEq] at h
 have z:=pp (pp @F.dW ()) <| pp () <| pp (pp (@lS (Int) _ (fun n x=>G.eU.L1 n ai x) r (fun x=>dB.of [eS 0 ai,eI 3 x] [])) ()) <| pp () <| pp (pp (And.intro @G.eU.L1.eq_1 <| @G.eU.L1.eq_2) ()) <| pp (pp (@bf [] [] []) ()) <| ()
 exact lD
theorem F.kF {n:Nat} : ∀ {ah r},G.kF n ah=some r->bF pZ 177 [.one (wT ah)] (.one (.c (.lit (.bool r)))):=by
 intro ah r h
 refine aH K.kF (kK ?_)
 unfold C.kF
 rcases n with _ | n<;>simp only [G.kF,reduceCtorEq] at h
 have z:=pp (pp @F.eU ()) <| pp () <| pp (pp (@lS (Int) _ (fun n x=>G.kF.L1 n ah x) r (fun x=>dB.of [eT 0 ah,eI 3 x] [])) ()) <| pp () <| pp (pp (And.intro @G.kF.L1.eq_1 <| @G.kF.L1.eq_2) ()) <| pp (pp (@bf [] [] []) ()) <| ()
 exact lD
theorem F.Jf:∀ (n:Nat),(∀ {ag bM r},G.lZ n ag bM=some r->bF pZ 176 [.agg (wN ag),.one (wI bM)] (.one (.c (.lit (.bool r)))))/\(∀ {ag bM r},G.fP n ag bM=some r->bF pZ 123 [.agg (wN ag),.one (wI bM)] (.one (.c (.lit (.bool r))))):=by
 intro n
 induction n using Nat.strongRecOn with | _ n ih =>
 refine ⟨?_,?_⟩
 ·intro ag bM r h
  refine aH K.lZ (kK ?_)
  unfold C.lZ
  rcases n with _ | n<;>simp only [G.lZ,reduceCtorEq] at h
  have z:=pp (pp ((ihR ih)) ()) <| pp () <| pp (pp (@lS (Int) _ (fun n x=>G.lZ.L1 n ag bM x) r (fun x=>dB.of [eI 1 bM,eP 2 103,eI 5 x] [(103,.var (wN ag))])) ()) <| pp () <| pp (pp (And.intro @G.lZ.L1.eq_1 <| @G.lZ.L1.eq_2) ()) <| pp (pp (@bf [] [(103,10)] []) <| pp (@bf [] [(103,103)] []) ()) <| ()
  exact lD
 ·intro ag bM r h
  refine aH K.fP (kK ?_)
  unfold C.fP
  rcases n with _ | n<;>simp only [G.fP,reduceCtorEq] at h
  have z:=pp (pp ((ihL ih)) <| pp @F.dW <| pp @F.eU <| pp @F.kF ()) <| pp () <| pp () <| pp (pp (@pq (Unit) _ (fun n x=>G.fP.K1 n ag bM) r (fun x=>dB.of [eI 1 bM,eP 2 101,(54,.v true (.one (.c (.lit (.bool false)))))] [(101,.var (wN ag))])) ()) <| pp (pp (And.intro @G.fP.K1.eq_1 <| @G.fP.K1.eq_2) ()) <| pp (pp (@bf [] [(101,10)] []) ()) <| ()
  exact lD
theorem F.fP {n:Nat} : ∀ {ag:af} {bM:Int} {r:Bool},G.fP n ag bM=some r->bF pZ 123 [.agg (wN ag),.one (wI bM)] (.one (.c (.lit (.bool r)))):=(F.Jf n).2
theorem F.bH {n:Nat} : ∀ {ag r},G.bH n ag=some r->bF pZ 82 [.agg (wN ag)] (.one (.c (.lit (.bool r)))):=by
 intro ag r h
 refine aH K.bH (kK ?_)
 unfold C.bH
 rcases n with _ | n<;>simp only [G.bH,reduceCtorEq] at h
 have z:=pp (pp @F.fP <| pp @F.jO ()) <| pp () <| pp () <| pp () <| pp () <| pp () <| ()
 exact lD
theorem F.fH {n:Nat} : ∀ {dA r},G.fH n dA=some r->fF pZ 110 [.one (.ptr 0 0)] [.var [.c (.sl 1 (List.map cU dA.b)),wI dA.p]] (fun r1 b1=>r1 = .agg (wN r.1)/\b1=[.var [.c (.sl 1 (List.map cU r.2.b)),wI r.2.p]]):=by
 intro dA r h
 refine dQ K.fH (kK ?_)
 unfold C.fH
 rcases n with _ | n<;>simp only [G.fH,reduceCtorEq] at h
 have z:=pp (pp @F.bH ()) <| pp (pp (pp @F.aS (@cG [0] [])) <| pp (pp @F.aC (@cG [0] [])) <| pp (pp @F.dO (@cG [0] [])) ()) <| pp () <| pp (pp (@pq (List Int × Int × Int × Int × aG × List aG × List af) _ (fun n x=>G.fH.K1 n x.1 x.2.1 x.2.2.1 x.2.2.2.1 x.2.2.2.2.1 x.2.2.2.2.2.1 x.2.2.2.2.2.2) r (fun x=>dB.of [eP 2 101,eP 3 102] [(0,.var [.c (.sl 1 (List.map cU x.1)),wI x.2.1]),(101,.var zN),(102,.var [wI x.2.2.1,wI x.2.2.2.1,wS x.2.2.2.2.1,wT x.2.2.2.2.2.1,wK x.2.2.2.2.2.2])])) ()) <| pp (pp (And.intro @G.fH.K1.eq_1 <| @G.fH.K1.eq_2) ()) <| pp (pp (@bf [] [(0,0),(101,10),(102,11)] []) ()) <| (pp (@ni [] [(0,0)] []) ())
 exact lD
theorem F.F9 {n:Nat} : ∀ {dA r},G.fH n dA=some r->fF pZ 110 [.one (.ptr 0 0)] [.var [.c (.sl 1 (List.map cU dA.b)),wI dA.p]] (fun r1 b1=>r1 = .agg [wI r.1.Kind,wI r.1.Num,wS r.1.Text,.own 1 r.1.Names.length 1,.own 2 r.1.Kids.length 5]/\b1=[.var [.c (.sl 1 (List.map cU r.2.b)),wI r.2.p],.dat 1 (List.map cS r.1.Names),.dat 5 (List.map af.cells r.1.Kids)]):=by
 intro dA r h
 refine dQ K.fH (kK ?_)
 unfold C.fH
 rcases n with _ | n<;>simp only [G.fH,reduceCtorEq] at h
 have z:=pp (pp @F.bH ()) <| pp (pp (pp @F.Eh (@cG [0] [101,102])) <| pp (pp @F.aC (@cG [0] [])) <| pp (pp @F.yG (@cG [0] [109,110])) ()) <| pp () <| pp (pp (@pq (List Int × Int × Int × Int × aG × List aG × List af) _ (fun n x=>G.fH.K1 n x.1 x.2.1 x.2.2.1 x.2.2.2.1 x.2.2.2.2.1 x.2.2.2.2.2.1 x.2.2.2.2.2.2) r (fun x=>dB.of [eP 2 105,eP 3 106] [(0,.var [.c (.sl 1 (List.map cU x.1)),wI x.2.1]),(105,.var zN),(106,.var [wI x.2.2.1,wI x.2.2.2.1,wS x.2.2.2.2.1,.own 107 x.2.2.2.2.2.1.length 1,.own 108 x.2.2.2.2.2.2.length 5]),(107,.dat 1 (List.map cS x.2.2.2.2.2.1)),(108,.dat 5 (List.map af.cells x.2.2.2.2.2.2))])) ()) <| pp (pp (And.intro @G.fH.K1.eq_1 <| @G.fH.K1.eq_2) ()) <| pp (pp (@bf [] [(0,0),(105,10),(106,11),(107,109),(108,110)] []) <| pp (@bf [] [(0,0),(105,10),(106,11),(107,101),(108,102)] []) ()) <| (pp (@ni [] [(0,0),(1,107),(2,108)] []) <| pp (@ni [] [(0,0)] [1,2]) ())
 exact lD
theorem F.jI {n:Nat} : ∀ {dA r},G.jI n dA=some r->fF pZ 73 [.one (.ptr 0 0)] [.var [.c (.sl 1 (List.map cU dA.b)),wI dA.p]] (fun r1 b1=>r1 = .agg (wN r.1)/\b1=[.var [.c (.sl 1 (List.map cU r.2.b)),wI r.2.p]]):=by
 intro dA r h
 refine dQ K.jI (kK ?_)
 unfold C.jI
 rcases n with _ | n<;>simp only [G.jI,reduceCtorEq] at h
 have z:=pp (pp @F.aB ()) <| pp (pp (pp @F.F9 (@cG [0] [101,102])) <| pp (pp @F.aC (@cG [0] [])) <| pp (pp @F.dD (@cH [0] [])) ()) <| pp (pp (@lS ((af × ReaderT) × Int × List Int × Int × List af) _ (fun n x=>G.jI.L1 n x.1 x.2.1 x.2.2.1 x.2.2.2.1 x.2.2.2.2) r (fun x=>dB.of [eP 0 0,eP 2 113,eP 3 114,(4,.v true (.one (.own 115 x.2.2.2.2.length 5))),eI 5 x.2.1] [(0,.var [.c (.sl 1 (List.map cU x.2.2.1)),wI x.2.2.2.1]),(113,.var zN),(114,.var [wI x.1.1.Kind,wI x.1.1.Num,wS x.1.1.Text,.own 116 x.1.1.Names.length 1,.own 117 x.1.1.Kids.length 5]),(115,.dat 5 (List.map af.cells x.2.2.2.2)),(116,.vO 1 (List.map cS x.1.1.Names)),(117,.vO 5 (List.map af.cells x.1.1.Kids))])) ()) <| pp () <| pp (pp (And.intro @G.jI.L1.eq_1 <| @G.jI.L1.eq_2) ()) <| pp (pp (@bf [101,102] [(0,0),(113,10),(114,11),(115,20),(116,101),(117,102)] []) <| pp (@bf [] [(0,0),(113,113),(114,114),(115,22),(116,116),(117,117)] []) ()) <| (pp (@ni [101,102] [(0,0)] []) <| pp (@ni [15,102] [(0,0)] []) <| pp (@ni [19] [(0,0)] []) <| pp (@ni [115] [(0,0)] []) ())
 exact lD
theorem F.lI {n:Nat} : ∀ {dA r},G.lI n dA=some r->fF pZ 72 [.one (.ptr 0 0)] [.var [.c (.sl 1 (List.map cU dA.b)),wI dA.p]] (fun r1 b1=>r1 = .one (wS r.1)/\b1=[.var [.c (.sl 1 (List.map cU r.2.b)),wI r.2.p]]):=by
 intro dA r h
 refine dQ K.lI (kK ?_)
 unfold C.lI
 rcases n with _ | n<;>simp only [G.lI,reduceCtorEq] at h
 have z:=pp () <| pp (pp (pp @F.fO (@cH [0] [])) ()) <| pp () <| pp () <| pp () <| pp () <| (pp (@ni [] [(0,0)] []) ())
 exact lD
theorem F.aU {n:Nat} : ∀ {ai r},G.aU n ai=some r->bF pZ 61 [.agg [.c (.sl 7 (List.map aA.cells ai.Items)),wI ai.Clock]] (.agg [.c (.sl 7 (List.map aA.cells r.Items)),wI r.Clock]):=by
 intro ai r h
 refine aH K.aU (kK ?_)
 unfold C.aU
 rcases n with _ | n<;>simp only [G.aU,reduceCtorEq] at h
 have z:=pp (pp @F.aB ()) <| pp () <| pp (pp (@lS (Int × List aA) _ (fun n x=>G.aU.L1 n ai x.1 x.2) r (fun x=>dB.of [eP 1 107,eP 2 108,(3,.v true (.one (.own 109 x.2.length 7))),eI 4 x.1] [(107,.var [.c (.sl 7 (List.map aA.cells ai.Items)),wI ai.Clock]),(108,.var [.cO 7,wI 0]),(109,.dat 7 (List.map aA.cells x.2))])) ()) <| pp () <| pp (pp (And.intro @G.aU.L1.eq_1 <| @G.aU.L1.eq_2) ()) <| pp (pp (@bf [] [(107,10),(108,11),(109,12)] []) <| pp (@bf [] [(107,107),(108,108),(109,14)] []) ()) <| ()
 exact lD
theorem F.tu {n:Nat} : ∀ {ai r},G.aU n ai=some r->fF pZ 61 [.agg [.own 0 ai.Items.length 7,wI ai.Clock]] [.dat 7 (List.map aA.cells ai.Items)] (fun r1 b1=>r1 = .agg [.own 1 r.Items.length 7,wI r.Clock]/\b1=[.dat 7 (List.map aA.cells ai.Items),.dat 7 (List.map aA.cells r.Items)]):=by
 intro ai r h
 refine dQ K.tu (kK ?_)
 unfold C.aU
 rcases n with _ | n<;>simp only [G.aU,reduceCtorEq] at h
 have z:=pp (pp @F.aB ()) <| pp () <| pp (pp (@lS (Int × List aA) _ (fun n x=>G.aU.L1 n ai x.1 x.2) r (fun x=>dB.of [eP 1 107,eP 2 108,(3,.v true (.one (.own 109 x.2.length 7))),eI 4 x.1] [(0,.dat 7 (List.map aA.cells ai.Items)),(107,.var [.own 0 ai.Items.length 7,wI ai.Clock]),(108,.var [.cO 7,wI 0]),(109,.dat 7 (List.map aA.cells x.2))])) ()) <| pp () <| pp (pp (And.intro @G.aU.L1.eq_1 <| @G.aU.L1.eq_2) ()) <| pp (pp (@bf [] [(0,0),(107,10),(108,11),(109,12)] []) <| pp (@bf [] [(0,0),(107,107),(108,108),(109,14)] []) ()) <| (pp (@ni [] [(0,0),(1,109)] []) ())
 exact lD
theorem F.jq {n:Nat} : ∀ {ai aQ r},G.jq n ai aQ=some r->bF pZ 86 [.agg [.c (.sl 7 (List.map aA.cells ai.Items)),wI ai.Clock],.one (wS aQ)] (.one (wI r)):=by
 intro ai aQ r h
 refine aH K.jq (kK ?_)
 unfold C.jq
 rcases n with _ | n<;>simp only [G.jq,reduceCtorEq] at h
 have z:=pp () <| pp () <| pp (pp (@lS (Int) _ (fun n x=>G.jq.L1 n ai aQ x) r (fun x=>dB.of [eS 1 aQ,eP 2 103,eI 5 x] [(103,.var [.c (.sl 7 (List.map aA.cells ai.Items)),wI ai.Clock])])) ()) <| pp () <| pp (pp (And.intro @G.jq.L1.eq_1 <| @G.jq.L1.eq_2) ()) <| pp (pp (@bf [] [(103,10)] []) <| pp (@bf [] [(103,103)] []) ()) <| ()
 exact lD
theorem F.eF {n:Nat} : ∀ {ai r},G.eF n ai=some r->bF pZ 81 [.one (wS ai)] (.one (.c (.lit (.bool r)))):=by
 intro ai r h
 refine aH K.eF (kK ?_)
 unfold C.eF
 rcases n with _ | n<;>simp only [G.eF,reduceCtorEq] at h
 have z:=pp (pp @F.dW ()) <| pp () <| pp (pp (@lS (Int) _ (fun n x=>G.eF.L1 n ai x) r (fun x=>dB.of [eS 0 ai,eI 3 x] [])) ()) <| pp () <| pp (pp (And.intro @G.eF.L1.eq_1 <| @G.eF.L1.eq_2) ()) <| pp (pp (@bf [] [] []) ()) <| ()
 exact lD
theorem F.aY {n:Nat} : ∀ {ai r},G.aY n ai=some r->bF pZ 40 [.agg [.c (.sl 7 (List.map aA.cells ai.Items)),wI ai.Clock]] (.one (.c (.lit (.bool r)))):=by
 intro ai r h
 refine aH K.aY (kK ?_)
 unfold C.aY
 rcases n with _ | n<;>simp only [G.aY,reduceCtorEq] at h
 have z:=pp (pp @F.eF <| pp @F.bH <| pp @F.dW ()) <| pp () <| pp (pp (@lS (Int) _ (fun n x=>G.aY.L1 n ai x) r (fun x=>dB.of [eP 1 103,eI 3 x] [(103,.var [.c (.sl 7 (List.map aA.cells ai.Items)),wI ai.Clock])])) ()) <| pp () <| pp (pp (And.intro @G.aY.L1.eq_1 <| @G.aY.L1.eq_2) ()) <| pp (pp (@bf [] [(103,10)] []) <| pp (@bf [] [(103,103)] []) ()) <| ()
 exact lD
theorem F.nK {n:Nat} : ∀ {ai aQ r},G.nK n ai aQ=some r->bF pZ 114 [.agg [.c (.sl 7 (List.map aA.cells ai.Items)),wI ai.Clock],.one (wS aQ)] (.o8 [(true,[wS r.1.Name,wI r.1.Version,wI r.1.Node.Kind,wI r.1.Node.Num,wS r.1.Node.Text,wT r.1.Node.Names,wK r.1.Node.Kids]),(false,[.c (.lit (.bool r.2))])]):=by
 intro ai aQ r h
 refine aH K.nK (kK ?_)
 unfold C.nK
 rcases n with _ | n<;>simp only [G.nK,reduceCtorEq] at h
 have z:=pp (pp @F.aY <| pp @F.jq <| pp @F.aU ()) <| pp () <| pp () <| pp () <| pp () <| pp () <| ()
 exact lD
theorem F.jP {n:Nat} : ∀ {ai r},G.jP n ai=some r->bF pZ 180 [.one (wS ai)] (.one (wS r)):=by
 intro ai r h
 refine aH K.jP (kK ?_)
 unfold C.jP
 rcases n with _ | n<;>simp only [G.jP,reduceCtorEq] at h
 have z:=pp () <| pp () <| pp (pp (@lS (aG × Int) _ (fun n x=>G.jP.L1 n ai x.1 x.2) r (fun x=>dB.of [eS 0 ai,eS 3 x.1,eI 4 x.2] [])) ()) <| pp () <| pp (pp (And.intro @G.jP.L1.eq_1 <| @G.jP.L1.eq_2) ()) <| pp (pp (@bf [] [] []) ()) <| ()
 exact lD
theorem F.Ji:∀ (n:Nat),∀ {ag r},G.cu n ag=some r->bF pZ 130 [.agg (wN ag)] (.one (wS r)):=by
 intro n
 induction n using Nat.strongRecOn with | _ n ih =>
 intro ag r h
 refine aH K.cu (kK ?_)
 unfold C.cu
 rcases n with _ | n<;>simp only [G.cu,reduceCtorEq] at h
 have:=Mk.mk 1; have:=Mk.mk 2
 have z:=pp (pp ih <| pp @F.iQ <| pp @F.jP ()) <| pp () <| pp (pp (@lS (aG × Int) _ (fun n x=>G.cu.L5 n ag x.1 x.2) r (fun x=>dB.of [eP 1 107,eS 3 x.1,eI 4 x.2] [(107,.var (wN ag))])) ()) <| pp (pp (@pq (Int × aG) _ (fun n x=>G.cu.K6 n ag x.1 x.2) r (fun x=>dB.of [eP 1 108,eS 3 x.2,eI 4 x.1] [(108,.var (wN ag))])) <| pp (@pq (Int × aG) _ (fun n x=>G.cu.K7 n ag x.1 x.2) r (fun x=>dB.of [eP 1 109,eS 3 x.2,eI 4 x.1] [(109,.var (wN ag))])) ()) <| pp (pp (And.intro @G.cu.L5.eq_1 <| And.intro @G.cu.L5.eq_2 <| And.intro @G.cu.K6.eq_1 <| And.intro @G.cu.K6.eq_2 <| And.intro @G.cu.K7.eq_1 <| @G.cu.K7.eq_2) ()) <| pp (pp (@bf [] [(107,10)] []) <| pp (@bf [] [(108,107)] []) <| pp (@bf [] [(109,108)] []) <| pp (@bf [] [(107,109)] []) ()) <| pp () <| (pp (pp (rfl : @G.cu.K6=_) <| pp (rfl : @G.cu.L5=_) <| pp (rfl : @G.cu.K7=_) ()) <| pp (pp (rfl : @G.cu.K7=_) <| pp (rfl : @G.cu.K6=_) <| pp (rfl : @G.cu.L5=_) ()) ())
 exact Ht
theorem F.cu {n:Nat} : ∀ {ag:af} {r:aG},G.cu n ag=some r->bF pZ 130 [.agg (wN ag)] (.one (wS r)):=F.Ji n
theorem F.pF {n:Nat} : ∀ {ag r},G.pF n ag=some r->bF pZ 128 [.one (wI ag)] (.one (wS r)):=by
 intro ag r h
 refine aH K.pF (kK ?_)
 unfold C.pF
 rcases n with _ | n<;>simp only [G.pF,reduceCtorEq] at h
 have z:=pp () <| pp () <| pp () <| pp () <| pp () <| pp () <| ()
 exact lD
theorem F.kH {n:Nat} : ∀ {ai r},G.kH n ai=some r->bF pZ 129 [.one (wS ai)] (.one (wI r)):=by
 intro ai r h
 refine aH K.kH (kK ?_)
 unfold C.kH
 rcases n with _ | n<;>simp only [G.kH,reduceCtorEq] at h
 have z:=pp () <| pp () <| pp (pp (@lS (Int × Int) _ (fun n x=>G.kH.L1 n ai x.1 x.2) r (fun x=>dB.of [eS 0 ai,eI 3 x.1,eI 4 x.2] [])) ()) <| pp () <| pp (pp (And.intro @G.kH.L1.eq_1 <| @G.kH.L1.eq_2) ()) <| pp (pp (@bf [] [] []) ()) <| ()
 exact lD
theorem F.nY {n:Nat} : ∀ {ag r},G.nY n ag=some r->bF pZ 116 [.agg (wN ag)] (.one (wS r)):=by
 intro ag r h
 refine aH K.nY (kK ?_)
 unfold C.nY
 rcases n with _ | n<;>simp only [G.nY,reduceCtorEq] at h
 have z:=pp (pp @F.bH <| pp @F.cu <| pp @F.kH <| pp @F.pF ()) <| pp () <| pp () <| pp () <| pp () <| pp () <| ()
 exact lD
theorem F.jV {n:Nat} : ∀ {dA jW r},G.jV n dA jW=some r->fF pZ 115 [.one (.ptr 0 0),.one (wS jW)] [.var [.c (.sl 1 (List.map cU dA.b)),wI dA.p]] (fun r1 b1=>r1 = .one (wT r.1)/\b1=[.var [.c (.sl 1 (List.map cU r.2.b)),wI r.2.p]]):=by
 intro dA jW r h
 refine dQ K.jV (kK ?_)
 unfold C.jV
 rcases n with _ | n<;>simp only [G.jV,reduceCtorEq] at h
 have z:=pp () <| pp (pp (pp @F.dD (@cH [0] [])) <| pp (pp @F.fO (@cH [0] [])) <| pp (pp @F.aC (@cG [0] [])) ()) <| pp (pp (@lS (Int × List Int × Int × List aG) _ (fun n x=>G.jV.L1 n jW x.1 x.2.1 x.2.2.1 x.2.2.2) r (fun x=>dB.of [eP 0 0,eS 1 jW,(5,.v true (.one (.own 103 x.2.2.2.length 1))),eI 6 x.1] [(0,.var [.c (.sl 1 (List.map cU x.2.1)),wI x.2.2.1]),(103,.dat 1 (List.map cS x.2.2.2))])) ()) <| pp () <| pp (pp (And.intro @G.jV.L1.eq_1 <| @G.jV.L1.eq_2) ()) <| pp (pp (@bf [] [(0,0),(103,10)] []) <| pp (@bf [] [(0,0),(103,14)] []) ()) <| (pp (@ni [103] [(0,0)] []) ())
 exact lD
theorem F.kX {n:Nat} : ∀ {dA r},G.kX n dA=some r->fF pZ 109 [.one (.ptr 0 0)] [.var [.c (.sl 1 (List.map cU dA.b)),wI dA.p]] (fun r1 b1=>r1 = .one (wS r.1)/\b1=[.var [.c (.sl 1 (List.map cU r.2.b)),wI r.2.p]]):=by
 intro dA r h
 refine dQ K.kX (kK ?_)
 unfold C.kX
 rcases n with _ | n<;>simp only [G.kX,reduceCtorEq] at h
 have z:=pp () <| pp (pp (pp @F.fO (@cH [0] [])) ()) <| pp () <| pp () <| pp () <| pp () <| (pp (@ni [] [(0,0)] []) ())
 exact lD
theorem F.oP {n:Nat} : ∀ {dA ai r},G.oP n dA ai=some r->fF pZ 113 [.one (.ptr 0 0),.agg [.c (.sl 7 (List.map aA.cells ai.Items)),wI ai.Clock]] [.var [.c (.sl 1 (List.map cU dA.b)),wI dA.p]] (fun r1 b1=>r1 = .one (wS r.1)/\b1=[.var [.c (.sl 1 (List.map cU r.2.b)),wI r.2.p]]):=by
 intro dA ai r h
 refine dQ K.oP (kK ?_)
 unfold C.oP
 rcases n with _ | n<;>simp only [G.oP,reduceCtorEq] at h
 have z:=pp () <| pp (pp (pp @F.aC (@cG [0] [])) <| pp (pp @F.lI (@cG [0] [])) <| pp (pp @F.kX (@cG [0] [])) ()) <| pp () <| pp () <| pp () <| pp () <| (pp (@ni [] [(0,0)] []) ())
 exact lD
theorem F.lY {n:Nat} : ∀ {ag au r},G.lY n ag au=some r->bF pZ 171 [.agg (wN ag),.one (wT au)] (.o8 [(true,(wN r.1)),(false,[.c (.lit (.bool r.2))])]):=by
 intro ag au r h
 refine aH K.lY (kK ?_)
 unfold C.lY
 rcases n with _ | n<;>simp only [G.lY,reduceCtorEq] at h
 have z:=pp (pp @F.fB <| pp @F.aB ()) <| pp () <| pp (pp (@lS (Int × Int × Int × aG × List aG × List af) _ (fun n x=>G.lY.L1 n au x.1 x.2.1 x.2.2.1 x.2.2.2.1 x.2.2.2.2.1 x.2.2.2.2.2) r (fun x=>dB.of [eT 1 au,eP 2 105,eP 4 106,eI 6 x.1] [(105,.var [wI x.2.1,wI x.2.2.1,wS x.2.2.2.1,wT x.2.2.2.2.1,wK x.2.2.2.2.2]),(106,.var zN)])) ()) <| pp () <| pp (pp (And.intro @G.lY.L1.eq_1 <| @G.lY.L1.eq_2) ()) <| pp (pp (@bf [] [(105,10),(106,11)] []) <| pp (@bf [] [(105,105),(106,106)] []) ()) <| ()
 exact lD
theorem F.Lr:∀ (n:Nat),∀ {ag au dI r},G.jQ n ag au dI=some r->bF pZ 169 [.agg (wN ag),.one (wT au),.agg (wN dI)] (.o8 [(true,(wN r.1)),(false,[.c (.lit (.bool r.2))])]):=by
 intro n
 induction n using Nat.strongRecOn with | _ n ih =>
 intro ag au dI r h
 refine aH K.jQ (kK ?_)
 unfold C.jQ
 rcases n with _ | n<;>simp only [G.jQ,reduceCtorEq] at h
 have z:=pp (pp ih <| pp @F.aB <| pp @F.fB <| pp @F.jD ()) <| pp () <| pp () <| pp () <| pp () <| pp () <| ()
 exact lD
theorem F.jQ {n:Nat} : ∀ {ag:af} {au:List aG} {dI:af} {r:af × Bool},G.jQ n ag au dI=some r->bF pZ 169 [.agg (wN ag),.one (wT au),.agg (wN dI)] (.o8 [(true,(wN r.1)),(false,[.c (.lit (.bool r.2))])]):=F.Lr n
theorem F.lX {n:Nat} : ∀ {ag au dI r},G.lX n ag au dI=some r->bF pZ 168 [.agg (wN ag),.one (wT au),.agg (wN dI)] (.o8 [(true,(wN r.1)),(false,[.c (.lit (.bool r.2))])]):=by
 intro ag au dI r h
 refine aH K.lX (kK ?_)
 unfold C.lX
 rcases n with _ | n<;>simp only [G.lX,reduceCtorEq] at h
 have z:=pp (pp @F.aB <| pp @F.lY <| pp @F.jd <| pp @F.jQ ()) <| pp () <| pp () <| pp () <| pp () <| pp () <| ()
 exact lD
theorem F.PR:∀ (n:Nat),∀ {ag r},G.gB n ag=some r->bF pZ 166 [.agg (wN ag)] (.one (.c (.sl 1 (List.map (cL 1 cS) r)))):=by
 intro n
 induction n using Nat.strongRecOn with | _ n ih =>
 intro ag r h
 refine aH K.gB (kK ?_)
 unfold C.gB
 rcases n with _ | n<;>simp only [G.gB,reduceCtorEq] at h
 have z:=pp (pp ih <| pp @F.iQ ()) <| pp () <| pp (pp (@lS (Int × List (List aG)) _ (fun n x=>G.gB.L5 n ag x.1 x.2) r (fun x=>dB.of [eP 1 121,(3,.v true (.one (.own 122 x.2.length 1))),eI 4 x.1] [(121,.var (wN ag)),(122,.dat 1 (List.map (cL 1 cS) x.2))])) <| pp (@lS (Int × aG × List (List aG) × Int × List (List aG)) _ (fun n x=>G.gB.L7 n ag x.1 x.2.1 x.2.2.1 x.2.2.2.1 x.2.2.2.2) r (fun x=>dB.of [eP 1 129,(3,.v true (.one (.own 130 x.2.2.2.2.length 1))),eI 4 x.1,eS 5 x.2.1,(6,.v true (.one (.c (.sl 1 (List.map (cL 1 cS) x.2.2.1))))),eI 7 x.2.2.2.1] [(129,.var (wN ag)),(130,.dat 1 (List.map (cL 1 cS) x.2.2.2.2))])) ()) <| pp (pp (@pq (Int × List (List aG) × aG) _ (fun n x=>G.gB.K6 n ag x.1 x.2.1 x.2.2) r (fun x=>dB.of [eP 1 123,(3,.v true (.one (.own 124 x.2.1.length 1))),eI 4 x.1,eS 5 x.2.2] [(123,.var (wN ag)),(124,.dat 1 (List.map (cL 1 cS) x.2.1))])) ()) <| pp (pp (And.intro @G.gB.L5.eq_1 <| And.intro @G.gB.L5.eq_2 <| And.intro @G.gB.K6.eq_1 <| And.intro @G.gB.K6.eq_2 <| And.intro @G.gB.L7.eq_1 <| @G.gB.L7.eq_2) ()) <| pp (pp (@bf [] [(121,10),(122,12)] []) <| pp (@bf [] [(123,121),(124,122)] []) <| pp (@bf [] [(129,123),(130,124)] []) <| pp (@bf [] [(129,129),(130,16)] []) <| pp (@bf [] [(121,129),(122,130)] []) ()) <| ()
 exact lD
theorem F.gB {n:Nat} : ∀ {ag:af} {r:List (List aG)},G.gB n ag=some r->bF pZ 166 [.agg (wN ag)] (.one (.c (.sl 1 (List.map (cL 1 cS) r)))):=F.PR n
theorem F.gG {n:Nat} : ∀ {ag au r},G.gG n ag au=some r->bF pZ 167 [.agg (wN ag),.one (wT au)] (.o8 [(true,(wN r.1)),(false,[.c (.lit (.bool r.2))])]):=by
 intro ag au r h
 refine aH K.gG (kK ?_)
 unfold C.gG
 rcases n with _ | n<;>simp only [G.gG,reduceCtorEq] at h
 have z:=pp (pp @F.lY <| pp @F.fB <| pp @F.jQ ()) <| pp () <| pp () <| pp (pp (@pq ((af × Bool) × List af × List aG) _ (fun n x=>G.gG.K1 n ag au x.1 x.2.1 x.2.2) r (fun x=>dB.of [eT 1 au,eP 2 101,eP 4 102,eI 6 (IntKind.wrap .i64 (((au.length:Nat):Int)-1)),eP 7 103,(10,.v true (.one (.own 104 x.2.1.length 5))),(11,.v true (.one (.own 105 x.2.2.length 1)))] [(101,.var (wN ag)),(102,.var zN),(103,.var (wN x.1.1)),(104,.dat 5 (List.map af.cells x.2.1)),(105,.dat 1 (List.map cS x.2.2))])) ()) <| pp (pp (And.intro @G.gG.K1.eq_1 <| @G.gG.K1.eq_2) ()) <| pp (pp (@bf [] [(101,10),(102,11),(103,12),(104,15),(105,19)] []) <| pp (@bf [] [(101,10),(102,11),(103,12),(104,15),(105,16)] []) ()) <| ()
 exact lD
theorem F.jA {n:Nat} : ∀ {dA ag r},G.jA n dA ag=some r->fF pZ 117 [.one (.ptr 0 0),.agg (wN ag)] [.var [.c (.sl 1 (List.map cU dA.b)),wI dA.p]] (fun r1 b1=>r1 = .agg (wN r.1)/\b1=[.var [.c (.sl 1 (List.map cU r.2.b)),wI r.2.p]]):=by
 intro dA ag r h
 refine dQ K.jA (kK ?_)
 unfold C.jA
 rcases n with _ | n<;>simp only [G.jA,reduceCtorEq] at h
 have z:=pp (pp @F.gB <| pp @F.aB <| pp @F.gG <| pp @F.lX <| pp @F.jQ <| pp @F.bH ()) <| pp (pp (pp @F.aC (@cG [0] [])) <| pp (pp @F.fO (@cH [0] [])) <| pp (pp @F.aS (@cG [0] [])) <| pp (pp @F.fH (@cG [0] [])) ()) <| pp () <| pp (pp (@pq (Bool × List Int × Int × Int × Int × aG × List aG × List af) _ (fun n x=>G.jA.K1 n ag x.1 x.2.1 x.2.2.1 x.2.2.2.1 x.2.2.2.2.1 x.2.2.2.2.2.1 x.2.2.2.2.2.2.1 x.2.2.2.2.2.2.2) r (fun x=>dB.of [eP 3 101,eP 4 102,eP 7 103,(8,.v true (.one (.c (.lit (.bool x.1)))))] [(0,.var [.c (.sl 1 (List.map cU x.2.1)),wI x.2.2.1]),(101,.var (wN ag)),(102,.var zN),(103,.var [wI x.2.2.2.1,wI x.2.2.2.2.1,wS x.2.2.2.2.2.1,wT x.2.2.2.2.2.2.1,wK x.2.2.2.2.2.2.2])])) ()) <| pp (pp (And.intro @G.jA.K1.eq_1 <| @G.jA.K1.eq_2) ()) <| pp (pp (@bf [] [(0,0),(101,10),(102,11),(103,12)] []) ()) <| (pp (@ni [] [(0,0)] []) ())
 exact lD
theorem F.nS {n:Nat} : ∀ {ag r},G.nS n ag=some r->bF pZ 211 [.agg (wN ag)] (.one (.c (.sl 1 (List.map (cL 1 cS) r)))):=by
 intro ag r h
 refine aH K.nS (kK ?_)
 unfold C.nS
 rcases n with _ | n<;>simp only [G.nS,reduceCtorEq] at h
 have z:=pp (pp @F.bH <| pp @F.gB ()) <| pp () <| pp () <| pp () <| pp () <| pp () <| ()
 exact lD
theorem F.jU {n:Nat} : ∀ {dA r},G.jU n dA=some r->fF pZ 212 [.one (.ptr 0 0)] [.var [.c (.sl 1 (List.map cU dA.b)),wI dA.p]] (fun r1 b1=>r1 = .one (wT r.1)/\b1=[.var [.c (.sl 1 (List.map cU r.2.b)),wI r.2.p]]):=by
 intro dA r h
 refine dQ K.jU (kK ?_)
 unfold C.jU
 rcases n with _ | n<;>simp only [G.jU,reduceCtorEq] at h
 have z:=pp () <| pp (pp (pp @F.dD (@cH [0] [])) <| pp (pp @F.fO (@cH [0] [])) <| pp (pp @F.aC (@cG [0] [])) ()) <| pp (pp (@lS (Int × List Int × Int × List aG) _ (fun n x=>G.jU.L1 n x.1 x.2.1 x.2.2.1 x.2.2.2) r (fun x=>dB.of [eP 0 0,(3,.v true (.one (.own 103 x.2.2.2.length 1))),eI 4 x.1] [(0,.var [.c (.sl 1 (List.map cU x.2.1)),wI x.2.2.1]),(103,.dat 1 (List.map cS x.2.2.2))])) ()) <| pp () <| pp (pp (And.intro @G.jU.L1.eq_1 <| @G.jU.L1.eq_2) ()) <| pp (pp (@bf [] [(0,0),(103,10)] []) <| pp (@bf [] [(0,0),(103,14)] []) ()) <| (pp (@ni [103] [(0,0)] []) ())
 exact lD
theorem F.oI {n:Nat} : ∀ {dA ag r},G.oI n dA ag=some r->fF pZ 170 [.one (.ptr 0 0),.agg (wN ag)] [.var [.c (.sl 1 (List.map cU dA.b)),wI dA.p]] (fun r1 b1=>r1 = .one (wT r.1)/\b1=[.var [.c (.sl 1 (List.map cU r.2.b)),wI r.2.p]]):=by
 intro dA ag r h
 refine dQ K.oI (kK ?_)
 unfold C.oI
 rcases n with _ | n<;>simp only [G.oI,reduceCtorEq] at h
 have z:=pp (pp @F.nS ()) <| pp (pp (pp @F.aC (@cG [0] [])) <| pp (pp @F.jU (@cG [0] [])) ()) <| pp () <| pp () <| pp () <| pp () <| (pp (@ni [] [(0,0)] []) ())
 exact lD
theorem F.bD {n:Nat} : ∀ {dA ag r},G.bD n dA ag=some r->fF pZ 118 [.one (.ptr 0 0),.agg (wN ag)] [.var [.c (.sl 1 (List.map cU dA.b)),wI dA.p]] (fun r1 b1=>r1 = .agg [wI r.1.Kind,wT r.1.Path,wT r.1.From,wI r.1.Value.Kind,wI r.1.Value.Num,wS r.1.Value.Text,wT r.1.Value.Names,wK r.1.Value.Kids]/\b1=[.var [.c (.sl 1 (List.map cU r.2.b)),wI r.2.p]]):=by
 intro dA ag r h
 refine dQ K.bD (kK ?_)
 unfold C.bD
 rcases n with _ | n<;>simp only [G.bD,reduceCtorEq] at h
 have:=Mk.mk 1; have:=Mk.mk 2; have:=Mk.mk 3; have:=Mk.mk 4
 have z:=pp (pp @F.lY ()) <| pp (pp (pp @F.aC (@cG [0] [])) <| pp (pp @F.oI (@cG [0] [])) <| pp (pp @F.aS (@cG [0] [])) <| pp (pp @F.fO (@cH [0] [])) ()) <| pp () <| pp (pp (@pq ((Int × ReaderT) × (List aG × ReaderT) × List Int × Int × List aG × Int × Int × aG × List aG × List af) _ (fun n x=>G.bD.K3 n x.1 x.2.1 x.2.2.1 x.2.2.2.1 x.2.2.2.2.1 x.2.2.2.2.2.1 x.2.2.2.2.2.2.1 x.2.2.2.2.2.2.2.1 x.2.2.2.2.2.2.2.2.1 x.2.2.2.2.2.2.2.2.2) r (fun x=>dB.of [eP 0 0,eP 4 109,eP 5 110] [(0,.var [.c (.sl 1 (List.map cU x.2.2.1)),wI x.2.2.2.1]),(109,.var [wI 0,.cO 1,.cO 1,wI 0,wI 0,.c (.str []),.cO 1,.cO 5]),(110,.var [wI (IntKind.wrap .i64 (1+x.1.1)),wT x.2.1.1,wT x.2.2.2.2.1,wI x.2.2.2.2.2.1,wI x.2.2.2.2.2.2.1,wS x.2.2.2.2.2.2.2.1,wT x.2.2.2.2.2.2.2.2.1,wK x.2.2.2.2.2.2.2.2.2])])) <| pp (@pq ((Int × ReaderT) × (List aG × ReaderT) × Bool) _ (fun n x=>G.bD.K5 n ag x.1 x.2.1 x.2.2) r (fun x=>dB.of [eP 0 0,eP 3 113,eP 4 114,eP 5 115,eI 18 (IntKind.wrap .i64 (1+x.1.1)),(19,.v true (.one (.c (.lit (.bool x.2.2)))))] [(0,.var [.c (.sl 1 (List.map cU x.2.1.2.b)),wI x.2.1.2.p]),(113,.var (wN ag)),(114,.var [wI 0,.cO 1,.cO 1,wI 0,wI 0,.c (.str []),.cO 1,.cO 5]),(115,.var [wI (IntKind.wrap .i64 (1+x.1.1)),wT x.2.1.1,.own 116 0 1,wI 0,wI 0,.c (.str []),.cO 1,.cO 5]),(116,.dat 1 (List.map cS []))])) <| pp (@pq ((Int × ReaderT) × (List aG × ReaderT) × Bool) _ (fun n x=>G.bD.K6 n ag x.1 x.2.1 x.2.2) r (fun x=>dB.of [eP 0 0,eP 3 117,eP 4 118,eP 5 119,(42,.v true (.one (.c (.lit (.bool x.2.2)))))] [(0,.var [.c (.sl 1 (List.map cU x.2.1.2.b)),wI x.2.1.2.p]),(117,.var (wN ag)),(118,.var [wI 0,.cO 1,.cO 1,wI 0,wI 0,.c (.str []),.cO 1,.cO 5]),(119,.var [wI (IntKind.wrap .i64 (1+x.1.1)),wT x.2.1.1,.own 120 0 1,wI 0,wI 0,.c (.str []),.cO 1,.cO 5]),(120,.dat 1 (List.map cS []))])) <| pp (@pq ((Int × ReaderT) × (List aG × ReaderT) × List aG × Int × Int × aG × List aG × List af × Bool × List Int × Int) _ (fun n x=>G.bD.K4 n x.1 x.2.1 x.2.2.1 x.2.2.2.1 x.2.2.2.2.1 x.2.2.2.2.2.1 x.2.2.2.2.2.2.1 x.2.2.2.2.2.2.2.1 x.2.2.2.2.2.2.2.2.1 x.2.2.2.2.2.2.2.2.2.1 x.2.2.2.2.2.2.2.2.2.2) r (fun x=>dB.of [eP 0 0,eP 4 111,eP 5 112,(72,.v true (.one (.c (.lit (.bool x.2.2.2.2.2.2.2.2.1)))))] [(0,.var [.c (.sl 1 (List.map cU x.2.2.2.2.2.2.2.2.2.1)),wI x.2.2.2.2.2.2.2.2.2.2]),(111,.var [wI 0,.cO 1,.cO 1,wI 0,wI 0,.c (.str []),.cO 1,.cO 5]),(112,.var [wI (IntKind.wrap .i64 (1+x.1.1)),wT x.2.1.1,wT x.2.2.1,wI x.2.2.2.1,wI x.2.2.2.2.1,wS x.2.2.2.2.2.1,wT x.2.2.2.2.2.2.1,wK x.2.2.2.2.2.2.2.1])])) ()) <| pp (pp (And.intro @G.bD.K3.eq_1 <| And.intro @G.bD.K3.eq_2 <| And.intro @G.bD.K5.eq_1 <| And.intro @G.bD.K5.eq_2 <| And.intro @G.bD.K6.eq_1 <| And.intro @G.bD.K6.eq_2 <| And.intro @G.bD.K4.eq_1 <| @G.bD.K4.eq_2) ()) <| pp (pp (@bf [] [(0,0),(113,10),(114,11),(115,13),(116,12)] []) <| pp (@bf [116] [(0,0),(109,114),(110,115)] []) <| pp (@bf [] [(0,0),(117,113),(118,114),(119,115),(120,116)] []) <| pp (@bf [] [(0,0),(109,118),(110,119)] []) <| pp (@bf [120] [(0,0),(109,118),(110,119)] []) <| pp (@bf [] [(0,0),(111,109),(112,110)] []) ()) <| pp (pp (@ni [19] [(0,0)] []) <| pp (@ni [] [(0,0)] []) ()) <| (pp (pp (rfl : @G.bD.K3=_) <| pp (rfl : @G.bD.K6=_) <| pp (rfl : @G.bD.K5=_) ()) <| pp (pp (rfl : @G.bD.K5=_) ()) <| pp (pp (rfl : @G.bD.K6=_) <| pp (rfl : @G.bD.K5=_) ()) <| pp (pp (rfl : @G.bD.K4=_) <| pp (rfl : @G.bD.K3=_) <| pp (rfl : @G.bD.K6=_) <| pp (rfl : @G.bD.K5=_) ()) ())
 exact Ht
theorem F.aI {n:Nat} : ∀ {dA ai r},G.aI n dA ai=some r->fF pZ 74 [.one (.ptr 0 0),.agg [.c (.sl 7 (List.map aA.cells ai.Items)),wI ai.Clock]] [.var [.c (.sl 1 (List.map cU dA.b)),wI dA.p]] (fun r1 b1=>r1 = .agg [wI r.1.Method,wS r.1.Name,wT r.1.Want,wT r.1.lT,wI r.1.Body.Kind,wI r.1.Body.Num,wS r.1.Body.Text,wT r.1.Body.Names,wK r.1.Body.Kids,.c (.sl 8 (List.map nO.cells r.1.Ops))]/\b1=[.var [.c (.sl 1 (List.map cU r.2.b)),wI r.2.p]]):=by
 intro dA ai r h
 refine dQ K.aI (kK ?_)
 unfold C.aI
 rcases n with _ | n<;>simp only [G.aI,reduceCtorEq] at h
 have:=Mk.mk 1; have:=Mk.mk 2; have:=Mk.mk 3
 have z:=pp (pp @F.nK <| pp @F.nY ()) <| pp (pp (pp @F.oP (@cG [0] [])) <| pp (pp @F.aC (@cG [0] [])) <| pp (pp @F.jV (@cG [0] [])) <| pp (pp @F.fH (@cG [0] [])) <| pp (pp @F.jA (@cG [0] [])) <| pp (pp @F.bD (@cG [0] [])) ()) <| pp (pp (@lS ((aG × ReaderT) × (aA × Bool) × (Int × ReaderT) × List aG × List aG × Int × List Int × Int × List nO) _ (fun n x=>G.aI.L5 n x.1 x.2.1 x.2.2.1 x.2.2.2.1 x.2.2.2.2.1 x.2.2.2.2.2.1 x.2.2.2.2.2.2.1 x.2.2.2.2.2.2.2.1 x.2.2.2.2.2.2.2.2) r (fun x=>dB.of [eP 0 0,eP 4 133,eP 6 134,(7,.v true (.one (.c (.lit (.bool x.2.1.2))))),eP 8 135,eI 9 x.2.2.2.2.2.1] [(0,.var [.c (.sl 1 (List.map cU x.2.2.2.2.2.2.1)),wI x.2.2.2.2.2.2.2.1]),(133,.var [wI 0,.c (.str []),.cO 1,.cO 1,wI 0,wI 0,.c (.str []),.cO 1,.cO 5,.cO 8]),(134,.var [wS x.2.1.1.Name,wI x.2.1.1.Version,wI x.2.1.1.Node.Kind,wI x.2.1.1.Node.Num,wS x.2.1.1.Node.Text,wT x.2.1.1.Node.Names,wK x.2.1.1.Node.Kids]),(135,.var [wI (IntKind.wrap .i64 (1+x.2.2.1.1)),wS x.1.1,wT x.2.2.2.1,wT x.2.2.2.2.1,wI 0,wI 0,.c (.str []),.cO 1,.cO 5,.own 136 x.2.2.2.2.2.2.2.2.length 8]),(136,.dat 8 (List.map nO.cells x.2.2.2.2.2.2.2.2))])) ()) <| pp (pp (@pq ((aG × ReaderT) × (aA × Bool) × (Int × ReaderT) × List Int × Int × List aG) _ (fun n x=>G.aI.K1 n x.1 x.2.1 x.2.2.1 x.2.2.2.1 x.2.2.2.2.1 x.2.2.2.2.2) r (fun x=>dB.of [eP 0 0,eP 4 101,eP 6 102,(7,.v true (.one (.c (.lit (.bool x.2.1.2))))),eP 8 103] [(0,.var [.c (.sl 1 (List.map cU x.2.2.2.1)),wI x.2.2.2.2.1]),(101,.var [wI 0,.c (.str []),.cO 1,.cO 1,wI 0,wI 0,.c (.str []),.cO 1,.cO 5,.cO 8]),(102,.var [wS x.2.1.1.Name,wI x.2.1.1.Version,wI x.2.1.1.Node.Kind,wI x.2.1.1.Node.Num,wS x.2.1.1.Node.Text,wT x.2.1.1.Node.Names,wK x.2.1.1.Node.Kids]),(103,.var [wI (IntKind.wrap .i64 (1+x.2.2.1.1)),wS x.1.1,wT x.2.2.2.2.2,.own 104 0 1,wI 0,wI 0,.c (.str []),.cO 1,.cO 5,.own 105 0 8]),(104,.dat 1 (List.map cS [])),(105,.dat 8 (List.map nO.cells []))])) <| pp (@pq ((aG × ReaderT) × (aA × Bool) × (Int × ReaderT) × List aG × List Int × Int × List aG) _ (fun n x=>G.aI.K2 n x.1 x.2.1 x.2.2.1 x.2.2.2.1 x.2.2.2.2.1 x.2.2.2.2.2.1 x.2.2.2.2.2.2) r (fun x=>dB.of [eP 0 0,eP 4 106,eP 6 107,(7,.v true (.one (.c (.lit (.bool x.2.1.2))))),eP 8 108] [(0,.var [.c (.sl 1 (List.map cU x.2.2.2.2.1)),wI x.2.2.2.2.2.1]),(106,.var [wI 0,.c (.str []),.cO 1,.cO 1,wI 0,wI 0,.c (.str []),.cO 1,.cO 5,.cO 8]),(107,.var [wS x.2.1.1.Name,wI x.2.1.1.Version,wI x.2.1.1.Node.Kind,wI x.2.1.1.Node.Num,wS x.2.1.1.Node.Text,wT x.2.1.1.Node.Names,wK x.2.1.1.Node.Kids]),(108,.var [wI (IntKind.wrap .i64 (1+x.2.2.1.1)),wS x.1.1,wT x.2.2.2.1,wT x.2.2.2.2.2.2,wI 0,wI 0,.c (.str []),.cO 1,.cO 5,.own 109 0 8]),(109,.dat 8 (List.map nO.cells []))])) <| pp (@pq ((aG × ReaderT) × (aA × Bool) × (Int × ReaderT) × List aG × List aG × List Int × Int × Int × Int × aG × List aG × List af × List nO) _ (fun n x=>G.aI.K4 n x.1 x.2.1 x.2.2.1 x.2.2.2.1 x.2.2.2.2.1 x.2.2.2.2.2.1 x.2.2.2.2.2.2.1 x.2.2.2.2.2.2.2.1 x.2.2.2.2.2.2.2.2.1 x.2.2.2.2.2.2.2.2.2.1 x.2.2.2.2.2.2.2.2.2.2.1 x.2.2.2.2.2.2.2.2.2.2.2.1 x.2.2.2.2.2.2.2.2.2.2.2.2) r (fun x=>dB.of [eP 0 0,eP 4 122,(7,.v true (.one (.c (.lit (.bool x.2.1.2))))),eP 8 123] [(0,.var [.c (.sl 1 (List.map cU x.2.2.2.2.2.1)),wI x.2.2.2.2.2.2.1]),(122,.var [wI 0,.c (.str []),.cO 1,.cO 1,wI 0,wI 0,.c (.str []),.cO 1,.cO 5,.cO 8]),(123,.var [wI (IntKind.wrap .i64 (1+x.2.2.1.1)),wS x.1.1,wT x.2.2.2.1,wT x.2.2.2.2.1,wI x.2.2.2.2.2.2.2.1,wI x.2.2.2.2.2.2.2.2.1,wS x.2.2.2.2.2.2.2.2.2.1,wT x.2.2.2.2.2.2.2.2.2.2.1,wK x.2.2.2.2.2.2.2.2.2.2.2.1,.own 124 x.2.2.2.2.2.2.2.2.2.2.2.2.length 8]),(124,.dat 8 (List.map nO.cells x.2.2.2.2.2.2.2.2.2.2.2.2))])) ()) <| pp (pp (And.intro @G.aI.K1.eq_1 <| And.intro @G.aI.K1.eq_2 <| And.intro @G.aI.K2.eq_1 <| And.intro @G.aI.K2.eq_2 <| And.intro @G.aI.K4.eq_1 <| And.intro @G.aI.K4.eq_2 <| And.intro @G.aI.L5.eq_1 <| @G.aI.L5.eq_2) ()) <| pp (pp (@bf [] [(0,0),(101,11),(102,12),(103,16),(104,14),(105,15)] []) <| pp (@bf [13] [(0,0),(101,11),(102,12),(103,16),(104,14),(105,15)] []) <| pp (@bf [] [(0,0),(106,101),(107,102),(108,103),(109,105)] []) <| pp (@bf [104] [(0,0),(106,101),(107,102),(108,103),(109,105)] []) <| pp (@bf [] [(0,0),(122,106),(123,108),(124,109)] []) <| pp (@bf [] [(0,0),(133,106),(134,107),(135,108),(136,109)] []) <| pp (@bf [] [(0,0),(133,133),(134,134),(135,135),(136,18)] []) <| pp (@bf [] [(0,0),(122,133),(123,135),(124,136)] []) ()) <| pp (pp (@ni [124] [(0,0)] []) ()) <| (pp (pp (rfl : @G.aI.K1=_) ()) <| pp (pp (rfl : @G.aI.K2=_) <| pp (rfl : @G.aI.K1=_) ()) <| pp (pp (rfl : @G.aI.K4=_) <| pp (rfl : @G.aI.L5=_) <| pp (rfl : @G.aI.K2=_) <| pp (rfl : @G.aI.K1=_) ()) ())
 exact Ht
theorem F.lu {n:Nat} : ∀ {dA ai r},G.lu n dA ai=some r->fF pZ 34 [.one (.ptr 0 0),.agg [.c (.sl 7 (List.map aA.cells ai.Items)),wI ai.Clock]] [.var [.c (.sl 1 (List.map cU dA.b)),wI dA.p]] (fun r1 b1=>r1 = .agg [wI r.1.Method,wS r.1.Name,wT r.1.Want,wT r.1.lT,wI r.1.Body.Kind,wI r.1.Body.Num,wS r.1.Body.Text,wT r.1.Body.Names,wK r.1.Body.Kids,.c (.sl 8 (List.map nO.cells r.1.Ops))]/\b1=[.var [.c (.sl 1 (List.map cU r.2.b)),wI r.2.p]]):=by
 intro dA ai r h
 refine dQ K.lu (kK ?_)
 unfold C.lu
 rcases n with _ | n<;>simp only [G.lu,reduceCtorEq] at h
 have z:=pp () <| pp (pp (pp @F.aI (@cG [0] [])) <| pp (pp @F.aC (@cG [0] [])) <| pp (pp @F.dD (@cH [0] [])) <| pp (pp @F.lI (@cG [0] [])) <| pp (pp @F.jI (@cG [0] [])) ()) <| pp () <| pp () <| pp () <| pp () <| (pp (@ni [] [(0,0)] []) ())
 exact lD
theorem F.jF {n:Nat} : ∀ {ai aQ r},G.jF n ai aQ=some r->bF pZ 91 [.agg [.c (.sl 7 (List.map aA.cells ai.Items)),wI ai.Clock],.one (wS aQ)] (.agg [.c (.sl 7 (List.map aA.cells r.Items)),wI r.Clock]):=by
 intro ai aQ r h
 refine aH K.jF (kK ?_)
 unfold C.jF
 rcases n with _ | n<;>simp only [G.jF,reduceCtorEq] at h
 have z:=pp (pp @F.aU ()) <| pp () <| pp (pp (@lS (StoreT × Int × List aA) _ (fun n x=>G.jF.L1 n ai aQ x.1 x.2.1 x.2.2) r (fun x=>dB.of [eS 1 aQ,eP 2 107,eP 4 108,(5,.v true (.one (.own 109 x.2.2.length 7))),(6,.v true (.one (.c (.sl 7 (List.map aA.cells x.1.Items))))),eI 7 x.2.1] [(107,.var [.c (.sl 7 (List.map aA.cells ai.Items)),wI ai.Clock]),(108,.var [.cO 7,wI 0]),(109,.dat 7 (List.map aA.cells x.2.2))])) ()) <| pp () <| pp (pp (And.intro @G.jF.L1.eq_1 <| @G.jF.L1.eq_2) ()) <| pp (pp (@bf [] [(107,10),(108,11),(109,12)] []) <| pp (@bf [] [(107,107),(108,108),(109,109)] []) <| pp (@bf [] [(107,107),(108,108),(109,14)] []) ()) <| ()
 exact lD
theorem F.Au {n:Nat} : ∀ {ai aQ r},G.jF n ai aQ=some r->fF pZ 91 [.agg [.own 0 ai.Items.length 7,wI ai.Clock],.one (wS aQ)] [.dat 7 (List.map aA.cells ai.Items)] (fun r1 b1=>r1 = .agg [.own 1 r.Items.length 7,wI r.Clock]/\b1=[.dat 7 (List.map aA.cells ai.Items),.dat 7 (List.map aA.cells r.Items)]):=by
 intro ai aQ r h
 refine dQ K.Au (kK ?_)
 unfold C.jF
 rcases n with _ | n<;>simp only [G.jF,reduceCtorEq] at h
 have z:=pp () <| pp (pp (pp @F.tu (@cG [0] [101])) ()) <| pp (pp (@lS (StoreT × Int × List aA) _ (fun n x=>G.jF.L1 n ai aQ x.1 x.2.1 x.2.2) r (fun x=>dB.of [eS 1 aQ,eP 2 110,eP 4 111,(5,.v true (.one (.own 112 x.2.2.length 7))),(6,.v true (.one (.own 113 x.1.Items.length 7))),eI 7 x.2.1] [(0,.dat 7 (List.map aA.cells ai.Items)),(110,.var [.own 0 ai.Items.length 7,wI ai.Clock]),(111,.var [.cO 7,wI 0]),(112,.dat 7 (List.map aA.cells x.2.2)),(113,.dat 7 (List.map aA.cells x.1.Items))])) ()) <| pp () <| pp (pp (And.intro @G.jF.L1.eq_1 <| @G.jF.L1.eq_2) ()) <| pp (pp (@bf [] [(0,0),(110,10),(111,11),(112,12),(113,101)] []) <| pp (@bf [] [(0,0),(110,110),(111,111),(112,112),(113,113)] []) <| pp (@bf [] [(0,0),(110,110),(111,111),(112,14),(113,113)] []) ()) <| (pp (@ni [] [(0,0),(1,112)] []) ())
 exact lD
theorem F.vX {n:Nat} : ∀ {ai aQ r},G.oL n ai aQ=some r->fF pZ 111 [.agg [.own 0 ai.Items.length 7,wI ai.Clock],.one (wS aQ)] [.dat 7 (List.map aA.cells ai.Items)] (fun r1 b1=>r1 = .o8 [(true,[.own 1 r.1.Items.length 7,wI r.1.Clock]),(false,[.c (.lit (.bool r.2))])]/\b1=[.dat 7 (List.map aA.cells ai.Items),.dat 7 (List.map aA.cells r.1.Items)]):=by
 intro ai aQ r h
 refine dQ K.vX (kK ?_)
 unfold C.oL
 rcases n with _ | n<;>simp only [G.oL,reduceCtorEq] at h
 have z:=pp (pp @F.aY <| pp @F.jq ()) <| pp (pp (pp @F.Au (@cG [0] [101])) ()) <| pp () <| pp () <| pp () <| pp () <| (pp (@ni [] [(0,0)] [1]) <| pp (@ni [] [(0,0),(1,101)] []) ())
 exact lD
theorem F.gZ {n:Nat} : ∀ {ai aQ ag r},G.gZ n ai aQ ag=some r->bF pZ 131 [.agg [.c (.sl 7 (List.map aA.cells ai.Items)),wI ai.Clock],.one (wS aQ),.agg (wN ag)] (.agg [.c (.sl 7 (List.map aA.cells r.Items)),wI r.Clock]):=by
 intro ai aQ ag r h
 refine aH K.gZ (kK ?_)
 unfold C.gZ
 rcases n with _ | n<;>simp only [G.gZ,reduceCtorEq] at h
 have z:=pp (pp @F.aB <| pp @F.aU ()) <| pp () <| pp (pp (@lS (af × StoreT × Bool × Int × List aA) _ (fun n x=>G.gZ.L3 n ai aQ x.1 x.2.1 x.2.2.1 x.2.2.2.1 x.2.2.2.2) r (fun x=>dB.of [eS 1 aQ,eP 3 117,eP 6 118,(7,.v true (.one (.own 119 x.2.2.2.2.length 7))),eP 8 120,(9,.v true (.one (.c (.sl 7 (List.map aA.cells x.2.1.Items))))),(10,.v true (.one (.c (.lit (.bool x.2.2.1))))),eI 11 x.2.2.2.1] [(117,.var [.c (.sl 7 (List.map aA.cells ai.Items)),wI ai.Clock]),(118,.var [.cO 7,wI 0]),(119,.dat 7 (List.map aA.cells x.2.2.2.2)),(120,.var [wS aQ,wI (IntKind.wrap .i64 (ai.Clock+1)),wI x.1.Kind,wI x.1.Num,wS x.1.Text,wT x.1.Names,wK x.1.Kids])])) ()) <| pp (pp (@pq (af × StoreT × Int × Bool × List aA) _ (fun n x=>G.gZ.K4 n ai aQ x.1 x.2.1 x.2.2.1 x.2.2.2.1 x.2.2.2.2) r (fun x=>dB.of [eS 1 aQ,eP 3 121,eP 6 122,(7,.v true (.one (.own 123 x.2.2.2.2.length 7))),eP 8 124,(9,.v true (.one (.c (.sl 7 (List.map aA.cells x.2.1.Items))))),(10,.v true (.one (.c (.lit (.bool x.2.2.2.1))))),eI 11 x.2.2.1] [(121,.var [.c (.sl 7 (List.map aA.cells ai.Items)),wI ai.Clock]),(122,.var [.cO 7,wI 0]),(123,.dat 7 (List.map aA.cells x.2.2.2.2)),(124,.var [wS aQ,wI (IntKind.wrap .i64 (ai.Clock+1)),wI x.1.Kind,wI x.1.Num,wS x.1.Text,wT x.1.Names,wK x.1.Kids])])) ()) <| pp (pp (And.intro @G.gZ.L3.eq_1 <| And.intro @G.gZ.L3.eq_2 <| And.intro @G.gZ.K4.eq_1 <| @G.gZ.K4.eq_2) ()) <| pp (pp (@bf [] [(117,10),(118,12),(119,13),(120,14)] []) <| pp (@bf [] [(121,117),(122,118),(123,119),(124,120)] []) <| pp (@bf [] [(121,117),(122,118),(123,16),(124,120)] []) <| pp (@bf [] [(117,121),(118,122),(119,123),(120,124)] []) <| pp (@bf [] [(117,121),(118,122),(119,18),(120,124)] []) ()) <| ()
 exact lD
theorem F.Dj {n:Nat} : ∀ {ai aQ ag r},G.gZ n ai aQ ag=some r->fF pZ 131 [.agg [.own 0 ai.Items.length 7,wI ai.Clock],.one (wS aQ),.agg (wN ag)] [.dat 7 (List.map aA.cells ai.Items)] (fun r1 b1=>r1 = .agg [.own 1 r.Items.length 7,wI r.Clock]/\b1=[.dat 7 (List.map aA.cells ai.Items),.dat 7 (List.map aA.cells r.Items)]):=by
 intro ai aQ ag r h
 refine dQ K.Dj (kK ?_)
 unfold C.gZ
 rcases n with _ | n<;>simp only [G.gZ,reduceCtorEq] at h
 have z:=pp (pp @F.aB ()) <| pp (pp (pp @F.tu (@cG [0] [101])) ()) <| pp (pp (@lS (af × StoreT × Bool × Int × List aA) _ (fun n x=>G.gZ.L3 n ai aQ x.1 x.2.1 x.2.2.1 x.2.2.2.1 x.2.2.2.2) r (fun x=>dB.of [eS 1 aQ,eP 3 122,eP 6 123,(7,.v true (.one (.own 124 x.2.2.2.2.length 7))),eP 8 125,(9,.v true (.one (.own 126 x.2.1.Items.length 7))),(10,.v true (.one (.c (.lit (.bool x.2.2.1))))),eI 11 x.2.2.2.1] [(0,.dat 7 (List.map aA.cells ai.Items)),(122,.var [.own 0 ai.Items.length 7,wI ai.Clock]),(123,.var [.cO 7,wI 0]),(124,.dat 7 (List.map aA.cells x.2.2.2.2)),(125,.var [wS aQ,wI (IntKind.wrap .i64 (ai.Clock+1)),wI x.1.Kind,wI x.1.Num,wS x.1.Text,wT x.1.Names,wK x.1.Kids]),(126,.dat 7 (List.map aA.cells x.2.1.Items))])) ()) <| pp (pp (@pq (af × StoreT × Int × Bool × List aA) _ (fun n x=>G.gZ.K4 n ai aQ x.1 x.2.1 x.2.2.1 x.2.2.2.1 x.2.2.2.2) r (fun x=>dB.of [eS 1 aQ,eP 3 127,eP 6 128,(7,.v true (.one (.own 129 x.2.2.2.2.length 7))),eP 8 130,(9,.v true (.one (.own 131 x.2.1.Items.length 7))),(10,.v true (.one (.c (.lit (.bool x.2.2.2.1))))),eI 11 x.2.2.1] [(0,.dat 7 (List.map aA.cells ai.Items)),(127,.var [.own 0 ai.Items.length 7,wI ai.Clock]),(128,.var [.cO 7,wI 0]),(129,.dat 7 (List.map aA.cells x.2.2.2.2)),(130,.var [wS aQ,wI (IntKind.wrap .i64 (ai.Clock+1)),wI x.1.Kind,wI x.1.Num,wS x.1.Text,wT x.1.Names,wK x.1.Kids]),(131,.dat 7 (List.map aA.cells x.2.1.Items))])) ()) <| pp (pp (And.intro @G.gZ.L3.eq_1 <| And.intro @G.gZ.L3.eq_2 <| And.intro @G.gZ.K4.eq_1 <| @G.gZ.K4.eq_2) ()) <| pp (pp (@bf [] [(0,0),(122,10),(123,12),(124,13),(125,14),(126,101)] []) <| pp (@bf [] [(0,0),(127,122),(128,123),(129,124),(130,125),(131,126)] []) <| pp (@bf [] [(0,0),(127,122),(128,123),(129,16),(130,125),(131,126)] []) <| pp (@bf [] [(0,0),(122,127),(123,128),(124,129),(125,130),(126,131)] []) <| pp (@bf [] [(0,0),(122,127),(123,128),(124,18),(125,130),(126,131)] []) ()) <| (pp (@ni [] [(0,0),(1,124)] []) <| pp (@ni [] [(0,0),(1,20)] []) ())
 exact lD
theorem F.xw {n:Nat} : ∀ {ai aQ ag r},G.o9 n ai aQ ag=some r->fF pZ 108 [.agg [.own 0 ai.Items.length 7,wI ai.Clock],.one (wS aQ),.agg (wN ag)] [.dat 7 (List.map aA.cells ai.Items)] (fun r1 b1=>r1 = .o8 [(true,[.own 1 r.1.Items.length 7,wI r.1.Clock]),(false,[.c (.lit (.bool r.2))])]/\b1=[.dat 7 (List.map aA.cells ai.Items),.dat 7 (List.map aA.cells r.1.Items)]):=by
 intro ai aQ ag r h
 refine dQ K.xw (kK ?_)
 unfold C.o9
 rcases n with _ | n<;>simp only [G.o9,reduceCtorEq] at h
 have z:=pp (pp @F.aY <| pp @F.eF <| pp @F.bH ()) <| pp (pp (pp @F.Dj (@cG [0] [101])) ()) <| pp () <| pp () <| pp () <| pp () <| (pp (@ni [] [(0,0),(1,101)] []) <| pp (@ni [] [(0,0)] [1]) ())
 exact lD
theorem F.Fg {n:Nat} : ∀ {dA r},G.fC n dA=some r->fF pZ 70 [.one (.ptr 0 0)] [.var [.c (.sl 1 (List.map cU dA.b)),wI dA.p]] (fun r1 b1=>r1 = .agg [.own 1 r.1.Items.length 7,wI r.1.Clock]/\b1=[.var [.c (.sl 1 (List.map cU r.2.b)),wI r.2.p],.dat 7 (List.map aA.cells r.1.Items)]):=by
 intro dA r h
 refine dQ K.fC (kK ?_)
 unfold C.fC
 rcases n with _ | n<;>simp only [G.fC,reduceCtorEq] at h
 have z:=pp () <| pp (pp (pp @F.dD (@cH [0] [])) <| pp (pp @F.kX (@cG [0] [])) <| pp (pp @F.fH (@cG [0] [])) <| pp (pp @F.xw (@cG [125] [126])) <| pp (pp @F.aC (@cG [0] [])) <| pp (pp @F.vX (@cG [125] [133])) ()) <| pp (pp (@lS (Int × List Int × Int × List aA × Int) _ (fun n x=>G.fC.L3 n x.1 x.2.1 x.2.2.1 x.2.2.2.1 x.2.2.2.2) r (fun x=>dB.of [eP 0 0,eP 2 123,eP 3 124,eI 4 x.1] [(0,.var [.c (.sl 1 (List.map cU x.2.1)),wI x.2.2.1]),(123,.var [.cO 7,wI 0]),(124,.var [.own 125 x.2.2.2.1.length 7,wI x.2.2.2.2]),(125,.dat 7 (List.map aA.cells x.2.2.2.1))])) ()) <| pp (pp (@pq (Int × List aA × Int × Bool × List Int × Int × List aA × Int) _ (fun n x=>G.fC.K4 n x.1 x.2.1 x.2.2.1 x.2.2.2.1 x.2.2.2.2.1 x.2.2.2.2.2.1 x.2.2.2.2.2.2.1 x.2.2.2.2.2.2.2) r (fun x=>dB.of [eP 0 0,eP 2 128,eP 3 129,eI 4 x.1,eP 5 130,(6,.v true (.one (.c (.lit (.bool x.2.2.2.1)))))] [(0,.var [.c (.sl 1 (List.map cU x.2.2.2.2.1)),wI x.2.2.2.2.2.1]),(128,.var [.cO 7,wI 0]),(129,.var [.own 131 x.2.1.length 7,wI x.2.2.1]),(130,.var [.own 132 x.2.2.2.2.2.2.1.length 7,wI x.2.2.2.2.2.2.2]),(131,.dat 7 (List.map aA.cells x.2.1)),(132,.dat 7 (List.map aA.cells x.2.2.2.2.2.2.1))])) ()) <| pp (pp (And.intro @G.fC.L3.eq_1 <| And.intro @G.fC.L3.eq_2 <| And.intro @G.fC.K4.eq_1 <| @G.fC.K4.eq_2) ()) <| pp (pp (@bf [] [(0,0),(123,10),(124,12),(125,11)] []) <| pp (@bf [] [(0,0),(128,123),(129,124),(130,14),(131,125),(132,133)] []) <| pp (@bf [] [(0,0),(128,123),(129,124),(130,14),(131,125),(132,126)] []) <| pp (@bf [] [(0,0),(123,128),(124,129),(125,132)] []) <| pp (@bf [] [(0,0),(123,128),(124,129),(125,131)] []) ()) <| (pp (@ni [] [(0,0),(1,125)] []) ())
 exact lD
theorem F.mM {n:Nat} : ∀ {dA r},G.mM n dA=some r->fF pZ 33 [.one (.ptr 0 0)] [.var [.c (.sl 1 (List.map cU dA.b)),wI dA.p]] (fun r1 b1=>r1 = .agg [.c (.sl 7 (List.map aA.cells r.1.Items)),wI r.1.Clock]/\b1=[.var [.c (.sl 1 (List.map cU r.2.b)),wI r.2.p]]):=by
 intro dA r h
 refine dQ K.mM (kK ?_)
 unfold C.mM
 rcases n with _ | n<;>simp only [G.mM,reduceCtorEq] at h
 have z:=pp () <| pp (pp (pp @F.Fg (@cG [0] [101])) <| pp (pp @F.aC (@cG [0] [])) <| pp (pp @F.dD (@cH [0] [])) <| pp (pp @F.lI (@cG [0] [])) <| pp (pp @F.jI (@cG [0] [])) ()) <| pp () <| pp () <| pp () <| pp () <| (pp (@ni [101] [(0,0)] []) <| pp (@ni [14] [(0,0)] []) ())
 exact lD
theorem F.kR {n:Nat} : ∀ {dw r},G.kR n dw=some r->fF pZ 32 [.one (.c (.sl 1 (List.map cU dw)))] [] (fun r1 b1=>r1 = .one (.ptr 0 0)/\b1=[.var [.c (.sl 1 (List.map cU r.b)),wI r.p]]):=by
 intro dw r h
 refine dQ K.kR (kK ?_)
 unfold C.kR
 rcases n with _ | n<;>simp only [G.kR,reduceCtorEq] at h
 have z:=pp () <| pp () <| pp () <| pp () <| pp () <| pp () <| (pp (@ni [] [(0,10)] []) ())
 exact lD
theorem F.jh {n:Nat} : ∀ {nT r},G.jh n nT=some r->bF pZ 42 [.one (wI nT)] (.agg [wI r.Status,wS r.Tag,wI r.Version,wI r.Body.Kind,wI r.Body.Num,wS r.Body.Text,wT r.Body.Names,wK r.Body.Kids]):=by
 intro nT r h
 refine aH K.jh (kK ?_)
 unfold C.jh
 rcases n with _ | n<;>simp only [G.jh,reduceCtorEq] at h
 have z:=pp () <| pp () <| pp () <| pp () <| pp () <| pp () <| ()
 exact lD
theorem F.jM {n:Nat} : ∀ {au tY r},G.jM n au tY=some r->bF pZ 217 [.one (wT au),.one (wT tY)] (.one (.c (.lit (.bool r)))):=by
 intro au tY r h
 refine aH K.jM (kK ?_)
 unfold C.jM
 rcases n with _ | n<;>simp only [G.jM,reduceCtorEq] at h
 have z:=pp () <| pp () <| pp (pp (@lS (Int) _ (fun n x=>G.jM.L1 n au tY x) r (fun x=>dB.of [eT 0 au,eT 1 tY,eI 5 x] [])) ()) <| pp () <| pp (pp (And.intro @G.jM.L1.eq_1 <| @G.jM.L1.eq_2) ()) <| pp (pp (@bf [] [] []) ()) <| ()
 exact lD
theorem F.jv {n:Nat} : ∀ {cZ r},G.jv n cZ=some r->bF pZ 242 [.one (.c (.lit (.bool cZ)))] (.one (wI r)):=by
 intro cZ r h
 refine aH K.jv (kK ?_)
 unfold C.jv
 rcases n with _ | n<;>simp only [G.jv,reduceCtorEq] at h
 have z:=pp () <| pp () <| pp () <| pp () <| pp () <| pp () <| ()
 exact lD
theorem F.lN {n:Nat} : ∀ {bW cZ r},G.lN n bW cZ=some r->bF pZ 235 [.one (wI bW),.one (wI cZ)] (.one (wI r)):=by
 intro bW cZ r h
 refine aH K.lN (kK ?_)
 unfold C.lN
 rcases n with _ | n<;>simp only [G.lN,reduceCtorEq] at h
 have z:=pp (pp @F.jv ()) <| pp () <| pp () <| pp () <| pp () <| pp () <| ()
 exact lD
theorem F.kG {n:Nat} : ∀ {bW cZ r},G.kG n bW cZ=some r->bF pZ 236 [.one (wS bW),.one (wS cZ)] (.one (wI r)):=by
 intro bW cZ r h
 refine aH K.kG (kK ?_)
 unfold C.kG
 rcases n with _ | n<;>simp only [G.kG,reduceCtorEq] at h
 have z:=pp (pp @F.jv ()) <| pp () <| pp () <| pp () <| pp () <| pp () <| ()
 exact lD
theorem F.IG:∀ (n:Nat),∀ {bW cZ r},G.dU n bW cZ=some r->bF pZ 226 [.agg (wN bW),.agg (wN cZ)] (.one (wI r)):=by
 intro n
 induction n using Nat.strongRecOn with | _ n ih =>
 intro bW cZ r h
 refine aH K.dU (kK ?_)
 unfold C.dU
 rcases n with _ | n<;>simp only [G.dU,reduceCtorEq] at h
 have z:=pp (pp ih <| pp @F.lN <| pp @F.kG ()) <| pp () <| pp (pp (@lS (Int) _ (fun n x=>G.dU.L1 n bW cZ x) r (fun x=>dB.of [eP 2 105,eP 3 106,eI 5 x] [(105,.var (wN bW)),(106,.var (wN cZ))])) ()) <| pp () <| pp (pp (And.intro @G.dU.L1.eq_1 <| @G.dU.L1.eq_2) ()) <| pp (pp (@bf [] [(105,10),(106,11)] []) <| pp (@bf [] [(105,105),(106,106)] []) ()) <| ()
 exact lD
theorem F.dU {n:Nat} : ∀ {bW:af} {cZ:af} {r:Int},G.dU n bW cZ=some r->bF pZ 226 [.agg (wN bW),.agg (wN cZ)] (.one (wI r)):=F.IG n
theorem F.pJ {n:Nat} : ∀ {bW cZ r},G.pJ n bW cZ=some r->bF pZ 216 [.agg (wN bW),.agg (wN cZ)] (.one (.c (.lit (.bool r)))):=by
 intro bW cZ r h
 refine aH K.pJ (kK ?_)
 unfold C.pJ
 rcases n with _ | n<;>simp only [G.pJ,reduceCtorEq] at h
 have z:=pp (pp @F.dU ()) <| pp () <| pp () <| pp () <| pp () <| pp () <| ()
 exact lD
theorem F.iY {n:Nat} : ∀ {ag jH r},G.iY n ag jH=some r->bF pZ 181 [.agg (wN ag),.agg [wI jH.Kind,wT jH.Path,wT jH.From,wI jH.Value.Kind,wI jH.Value.Num,wS jH.Value.Text,wT jH.Value.Names,wK jH.Value.Kids]] (.o8 [(true,(wN r.1)),(false,[.c (.lit (.bool r.2))])]):=by
 intro ag jH r h
 refine aH K.iY (kK ?_)
 unfold C.iY
 rcases n with _ | n<;>simp only [G.iY,reduceCtorEq] at h
 have z:=pp (pp @F.lX <| pp @F.gG <| pp @F.jQ <| pp @F.lY <| pp @F.pJ <| pp @F.jM <| pp @F.aB ()) <| pp () <| pp () <| pp (pp (@pq (List aG) _ (fun n x=>G.iY.K1 n ag jH x) r (fun x=>dB.of [eP 2 101,eP 3 102,eP 4 103,eT 6 x] [(101,.var (wN ag)),(102,.var [wI jH.Kind,wT jH.Path,wT jH.From,wI jH.Value.Kind,wI jH.Value.Num,wS jH.Value.Text,wT jH.Value.Names,wK jH.Value.Kids]),(103,.var zN)])) ()) <| pp (pp (And.intro @G.iY.K1.eq_1 <| @G.iY.K1.eq_2) ()) <| pp (pp (@bf [] [(101,10),(102,11),(103,12)] []) ()) <| ()
 exact lD
theorem F.kV {n:Nat} : ∀ {ag zV r},G.kV n ag zV=some r->bF pZ 133 [.agg (wN ag),.one (.c (.lit (.bool zV)))] (.o8 [(true,(wN r.1)),(false,[.c (.lit (.bool r.2))])]):=by
 intro ag zV r h
 refine aH K.kV (kK ?_)
 unfold C.kV
 rcases n with _ | n<;>simp only [G.kV,reduceCtorEq] at h
 have z:=pp (pp @F.bH ()) <| pp () <| pp () <| pp () <| pp () <| pp () <| ()
 exact lD
theorem F.lH {n:Nat} : ∀ {ag jH r},G.lH n ag jH=some r->bF pZ 132 [.agg (wN ag),.agg [wI jH.Kind,wT jH.Path,wT jH.From,wI jH.Value.Kind,wI jH.Value.Num,wS jH.Value.Text,wT jH.Value.Names,wK jH.Value.Kids]] (.o8 [(true,(wN r.1)),(false,[.c (.lit (.bool r.2))])]):=by
 intro ag jH r h
 refine aH K.lH (kK ?_)
 unfold C.lH
 rcases n with _ | n<;>simp only [G.lH,reduceCtorEq] at h
 have z:=pp (pp @F.iY <| pp @F.kV <| pp @F.aB ()) <| pp () <| pp () <| pp () <| pp () <| pp () <| ()
 exact lD
theorem F.gW {n:Nat} : ∀ {au r},G.gW n au=some r->bF pZ 178 [.one (wT au)] (.one (.c (.lit (.bool r)))):=by
 intro au r h
 refine aH K.gW (kK ?_)
 unfold C.gW
 rcases n with _ | n<;>simp only [G.gW,reduceCtorEq] at h
 have z:=pp (pp @F.eU ()) <| pp () <| pp (pp (@lS (Int) _ (fun n x=>G.gW.L1 n au x) r (fun x=>dB.of [eT 0 au,eI 3 x] [])) ()) <| pp () <| pp (pp (And.intro @G.gW.L1.eq_1 <| @G.gW.L1.eq_2) ()) <| pp (pp (@bf [] [] []) ()) <| ()
 exact lD
theorem F.nM {n:Nat} : ∀ {jH r},G.nM n jH=some r->bF pZ 126 [.agg [wI jH.Kind,wT jH.Path,wT jH.From,wI jH.Value.Kind,wI jH.Value.Num,wS jH.Value.Text,wT jH.Value.Names,wK jH.Value.Kids]] (.one (.c (.lit (.bool r)))):=by
 intro jH r h
 refine aH K.nM (kK ?_)
 unfold C.nM
 rcases n with _ | n<;>simp only [G.nM,reduceCtorEq] at h
 have z:=pp (pp @F.dW <| pp @F.gW <| pp @F.bH ()) <| pp () <| pp () <| pp () <| pp () <| pp () <| ()
 exact lD
theorem F.fA {n:Nat} : ∀ {ah r},G.fA n ah=some r->bF pZ 85 [.one (.c (.sl 8 (List.map nO.cells ah)))] (.one (.c (.lit (.bool r)))):=by
 intro ah r h
 refine aH K.fA (kK ?_)
 unfold C.fA
 rcases n with _ | n<;>simp only [G.fA,reduceCtorEq] at h
 have z:=pp (pp @F.nM ()) <| pp () <| pp (pp (@lS (Int) _ (fun n x=>G.fA.L1 n ah x) r (fun x=>dB.of [(0,.v true (.one (.c (.sl 8 (List.map nO.cells ah))))),eI 3 x] [])) ()) <| pp () <| pp (pp (And.intro @G.fA.L1.eq_1 <| @G.fA.L1.eq_2) ()) <| pp (pp (@bf [] [] []) ()) <| ()
 exact lD
theorem F.fZ {n:Nat} : ∀ {ag ah r},G.fZ n ag ah=some r->bF pZ 92 [.agg (wN ag),.one (.c (.sl 8 (List.map nO.cells ah)))] (.o8 [(true,(wN r.1)),(false,[.c (.lit (.bool r.2))])]):=by
 intro ag ah r h
 refine aH K.fZ (kK ?_)
 unfold C.fZ
 rcases n with _ | n<;>simp only [G.fZ,reduceCtorEq] at h
 have z:=pp (pp @F.bH <| pp @F.fA <| pp @F.aB <| pp @F.lH ()) <| pp () <| pp (pp (@lS (Int × Int × Int × aG × List aG × List af) _ (fun n x=>G.fZ.L1 n ah x.1 x.2.1 x.2.2.1 x.2.2.2.1 x.2.2.2.2.1 x.2.2.2.2.2) r (fun x=>dB.of [(1,.v true (.one (.c (.sl 8 (List.map nO.cells ah))))),eP 4 105,eP 6 106,eI 7 x.1] [(105,.var zN),(106,.var [wI x.2.1,wI x.2.2.1,wS x.2.2.2.1,wT x.2.2.2.2.1,wK x.2.2.2.2.2])])) ()) <| pp () <| pp (pp (And.intro @G.fZ.L1.eq_1 <| @G.fZ.L1.eq_2) ()) <| pp (pp (@bf [] [(105,11),(106,12)] []) <| pp (@bf [] [(105,105),(106,106)] []) ()) <| ()
 exact lD
theorem F.Lp:∀ (n:Nat),∀ {ag bz r},G.gy n ag bz=some r->bF pZ 134 [.agg (wN ag),.agg (wN bz)] (.agg (wN r)):=by
 intro n
 induction n using Nat.strongRecOn with | _ n ih =>
 intro ag bz r h
 refine aH K.gy (kK ?_)
 unfold C.gy
 rcases n with _ | n<;>simp only [G.gy,reduceCtorEq] at h
 have z:=pp (pp ih <| pp @F.aB <| pp @F.fB <| pp @F.gG <| pp @F.jd <| pp @F.jD ()) <| pp () <| pp (pp (@lS (Int × Int × Int × aG × List aG × List af) _ (fun n x=>G.gy.L2 n bz x.1 x.2.1 x.2.2.1 x.2.2.2.1 x.2.2.2.2.1 x.2.2.2.2.2) r (fun x=>dB.of [eP 3 110,eP 4 111,eP 5 112,eI 6 x.1] [(110,.var (wN bz)),(111,.var zN),(112,.var [wI x.2.1,wI x.2.2.1,wS x.2.2.2.1,wT x.2.2.2.2.1,wK x.2.2.2.2.2])])) ()) <| pp (pp (@pq (Int × Int × aG × List aG × List af) _ (fun n x=>G.gy.K1 n bz x.1 x.2.1 x.2.2.1 x.2.2.2.1 x.2.2.2.2) r (fun x=>dB.of [eP 3 101,eP 4 102,eP 5 103] [(101,.var (wN bz)),(102,.var zN),(103,.var [wI x.1,wI x.2.1,wS x.2.2.1,wT x.2.2.2.1,wK x.2.2.2.2])])) ()) <| pp (pp (And.intro @G.gy.K1.eq_1 <| And.intro @G.gy.K1.eq_2 <| And.intro @G.gy.L2.eq_1 <| @G.gy.L2.eq_2) ()) <| pp (pp (@bf [] [(101,11),(102,12),(103,15)] []) <| pp (@bf [13,14] [(101,11),(102,12),(103,15)] []) <| pp (@bf [] [(110,101),(111,102),(112,103)] []) <| pp (@bf [] [(110,110),(111,111),(112,112)] []) ()) <| ()
 exact lD
theorem F.gy {n:Nat} : ∀ {ag:af} {bz:af} {r:af},G.gy n ag bz=some r->bF pZ 134 [.agg (wN ag),.agg (wN bz)] (.agg (wN r)):=F.Lp n
theorem F.lG {n:Nat} : ∀ {ag bz r},G.lG n ag bz=some r->bF pZ 93 [.agg (wN ag),.agg (wN bz)] (.o8 [(true,(wN r.1)),(false,[.c (.lit (.bool r.2))])]):=by
 intro ag bz r h
 refine aH K.lG (kK ?_)
 unfold C.lG
 rcases n with _ | n<;>simp only [G.lG,reduceCtorEq] at h
 have z:=pp (pp @F.bH <| pp @F.gy <| pp @F.kV ()) <| pp () <| pp () <| pp () <| pp () <| pp () <| ()
 exact lD
theorem F.jG {n:Nat} : ∀ {ah jW r},G.jG n ah jW=some r->bF pZ 127 [.one (wT ah),.one (wS jW)] (.one (.c (.lit (.bool r)))):=by
 intro ah jW r h
 refine aH K.jG (kK ?_)
 unfold C.jG
 rcases n with _ | n<;>simp only [G.jG,reduceCtorEq] at h
 have z:=pp () <| pp () <| pp (pp (@lS (Int) _ (fun n x=>G.jG.L1 n ah jW x) r (fun x=>dB.of [eT 0 ah,eS 1 jW,eI 5 x] [])) ()) <| pp () <| pp (pp (And.intro @G.jG.L1.eq_1 <| @G.jG.L1.eq_2) ()) <| pp (pp (@bf [] [] []) ()) <| ()
 exact lD
theorem F.nZ {n:Nat} : ∀ {pV nP jW oU r},G.nZ n pV nP jW oU=some r->bF pZ 87 [.one (wT pV),.one (wT nP),.one (wS jW),.one (.c (.lit (.bool oU)))] (.one (wI r)):=by
 intro pV nP jW oU r h
 refine aH K.nZ (kK ?_)
 unfold C.nZ
 rcases n with _ | n<;>simp only [G.nZ,reduceCtorEq] at h
 have z:=pp (pp @F.jG ()) <| pp () <| pp () <| pp () <| pp () <| pp () <| ()
 exact lD
theorem F.mg {n:Nat} : ∀ {ai aQ r},G.mg n ai aQ=some r->bF pZ 88 [.agg [.c (.sl 7 (List.map aA.cells ai.Items)),wI ai.Clock],.one (wS aQ)] (.one (wS r)):=by
 intro ai aQ r h
 refine aH K.mg (kK ?_)
 unfold C.mg
 rcases n with _ | n<;>simp only [G.mg,reduceCtorEq] at h
 have z:=pp (pp @F.jq <| pp @F.cu <| pp @F.kH <| pp @F.pF ()) <| pp () <| pp () <| pp () <| pp () <| pp () <| ()
 exact lD
theorem F.jo {n:Nat} : ∀ {ai aQ ag r},G.jo n ai aQ ag=some r->bF pZ 90 [.agg [.c (.sl 7 (List.map aA.cells ai.Items)),wI ai.Clock],.one (wS aQ),.agg (wN ag)] (.o8 [(true,[.c (.sl 7 (List.map aA.cells r.1.Items)),wI r.1.Clock]),(true,[wI r.2.Status,wS r.2.Tag,wI r.2.Version,wI r.2.Body.Kind,wI r.2.Body.Num,wS r.2.Body.Text,wT r.2.Body.Names,wK r.2.Body.Kids])]):=by
 intro ai aQ ag r h
 refine aH K.jo (kK ?_)
 unfold C.jo
 rcases n with _ | n<;>simp only [G.jo,reduceCtorEq] at h
 have z:=pp (pp @F.jq <| pp @F.gZ <| pp @F.aY <| pp @F.mg <| pp @F.aU <| pp @F.jh ()) <| pp () <| pp () <| pp (pp (@pq (Int) _ (fun n x=>G.jo.K1 n ai aQ ag x) r (fun x=>dB.of [eS 1 aQ,eP 3 101,eP 5 102,eP 6 103,eP 7 104,eI 8 x] [(101,.var [.c (.sl 7 (List.map aA.cells ai.Items)),wI ai.Clock]),(102,.var (wN ag)),(103,.var [.cO 7,wI 0]),(104,.var [wI 0,.c (.str []),wI 0,wI 0,wI 0,.c (.str []),.cO 1,.cO 5])])) ()) <| pp (pp (And.intro @G.jo.K1.eq_1 <| @G.jo.K1.eq_2) ()) <| pp (pp (@bf [] [(101,10),(102,11),(103,12),(104,13)] []) ()) <| ()
 exact lD
theorem F.eu {n:Nat} : ∀ {ai bQ r},G.eu n ai bQ=some r->bF pZ 43 [.agg [.c (.sl 7 (List.map aA.cells ai.Items)),wI ai.Clock],.agg [wI bQ.Method,wS bQ.Name,wT bQ.Want,wT bQ.lT,wI bQ.Body.Kind,wI bQ.Body.Num,wS bQ.Body.Text,wT bQ.Body.Names,wK bQ.Body.Kids,.c (.sl 8 (List.map nO.cells bQ.Ops))]] (.o8 [(true,[.c (.sl 7 (List.map aA.cells r.1.Items)),wI r.1.Clock]),(true,[wI r.2.Status,wS r.2.Tag,wI r.2.Version,wI r.2.Body.Kind,wI r.2.Body.Num,wS r.2.Body.Text,wT r.2.Body.Names,wK r.2.Body.Kids])]):=by
 intro ai bQ r h
 refine aH K.eu (kK ?_)
 unfold C.eu
 rcases n with _ | n<;>simp only [G.eu,reduceCtorEq] at h
 have:=Mk.mk 1; have:=Mk.mk 2
 have z:=pp (pp @F.jq <| pp @F.aU <| pp @F.jh <| pp @F.mg <| pp @F.nZ <| pp @F.aB <| pp @F.jo <| pp @F.jF <| pp @F.fZ <| pp @F.lG ()) <| pp () <| pp () <| pp (pp (@pq (Bool × Int × Int × aG × List aG × List af) _ (fun n x=>G.eu.K1 n ai bQ x.1 x.2.1 x.2.2.1 x.2.2.2.1 x.2.2.2.2.1 x.2.2.2.2.2) r (fun x=>dB.of [eP 2 101,eP 3 102,eP 4 103,eP 5 104,eP 8 105,(9,.v true (.one (.c (.lit (.bool x.1)))))] [(101,.var [.c (.sl 7 (List.map aA.cells ai.Items)),wI ai.Clock]),(102,.var [wI bQ.Method,wS bQ.Name,wT bQ.Want,wT bQ.lT,wI bQ.Body.Kind,wI bQ.Body.Num,wS bQ.Body.Text,wT bQ.Body.Names,wK bQ.Body.Kids,.c (.sl 8 (List.map nO.cells bQ.Ops))]),(103,.var [.cO 7,wI 0]),(104,.var [wI 0,.c (.str []),wI 0,wI 0,wI 0,.c (.str []),.cO 1,.cO 5]),(105,.var [wI x.2.1,wI x.2.2.1,wS x.2.2.2.1,wT x.2.2.2.2.1,wK x.2.2.2.2.2])])) <| pp (@pq (Bool × Int × Int × aG × List aG × List af) _ (fun n x=>G.eu.K2 n ai bQ x.1 x.2.1 x.2.2.1 x.2.2.2.1 x.2.2.2.2.1 x.2.2.2.2.2) r (fun x=>dB.of [eP 2 106,eP 3 107,eP 4 108,eP 5 109,eP 8 110,(9,.v true (.one (.c (.lit (.bool x.1)))))] [(106,.var [.c (.sl 7 (List.map aA.cells ai.Items)),wI ai.Clock]),(107,.var [wI bQ.Method,wS bQ.Name,wT bQ.Want,wT bQ.lT,wI bQ.Body.Kind,wI bQ.Body.Num,wS bQ.Body.Text,wT bQ.Body.Names,wK bQ.Body.Kids,.c (.sl 8 (List.map nO.cells bQ.Ops))]),(108,.var [.cO 7,wI 0]),(109,.var [wI 0,.c (.str []),wI 0,wI 0,wI 0,.c (.str []),.cO 1,.cO 5]),(110,.var [wI x.2.1,wI x.2.2.1,wS x.2.2.2.1,wT x.2.2.2.2.1,wK x.2.2.2.2.2])])) ()) <| pp (pp (And.intro @G.eu.K1.eq_1 <| And.intro @G.eu.K1.eq_2 <| And.intro @G.eu.K2.eq_1 <| @G.eu.K2.eq_2) ()) <| pp (pp (@bf [] [(101,10),(102,11),(103,12),(104,13),(105,14)] []) <| pp (@bf [] [(106,10),(107,11),(108,12),(109,13),(110,14)] []) ()) <| pp () <| (pp (pp (rfl : @G.eu.K1=_) ()) <| pp (pp (rfl : @G.eu.K2=_) ()) ())
 exact Ht
theorem F.iZ {n:Nat} : ∀ {ai r},G.iZ n ai=some r->bF pZ 125 [.one (wS ai)] (.one (.c (.lit (.bool r)))):=by
 intro ai r h
 refine aH K.iZ (kK ?_)
 unfold C.iZ
 rcases n with _ | n<;>simp only [G.iZ,reduceCtorEq] at h
 have z:=pp (pp @F.dW ()) <| pp () <| pp (pp (@lS (Int) _ (fun n x=>G.iZ.L1 n ai x) r (fun x=>dB.of [eS 0 ai,eI 3 x] [])) ()) <| pp () <| pp (pp (And.intro @G.iZ.L1.eq_1 <| @G.iZ.L1.eq_2) ()) <| pp (pp (@bf [] [] []) ()) <| ()
 exact lD
theorem F.iy {n:Nat} : ∀ {ah r},G.iy n ah=some r->bF pZ 84 [.one (wT ah)] (.one (.c (.lit (.bool r)))):=by
 intro ah r h
 refine aH K.iy (kK ?_)
 unfold C.iy
 rcases n with _ | n<;>simp only [G.iy,reduceCtorEq] at h
 have z:=pp (pp @F.iZ ()) <| pp () <| pp (pp (@lS (Int) _ (fun n x=>G.iy.L1 n ah x) r (fun x=>dB.of [eT 0 ah,eI 3 x] [])) ()) <| pp () <| pp (pp (And.intro @G.iy.L1.eq_1 <| @G.iy.L1.eq_2) ()) <| pp (pp (@bf [] [] []) ()) <| ()
 exact lD
theorem F.iJ {n:Nat} : ∀ {bQ r},G.iJ n bQ=some r->bF pZ 41 [.agg [wI bQ.Method,wS bQ.Name,wT bQ.Want,wT bQ.lT,wI bQ.Body.Kind,wI bQ.Body.Num,wS bQ.Body.Text,wT bQ.Body.Names,wK bQ.Body.Kids,.c (.sl 8 (List.map nO.cells bQ.Ops))]] (.one (.c (.lit (.bool r)))):=by
 intro bQ r h
 refine aH K.iJ (kK ?_)
 unfold C.iJ
 rcases n with _ | n<;>simp only [G.iJ,reduceCtorEq] at h
 have z:=pp (pp @F.dW <| pp @F.eF <| pp @F.iy <| pp @F.bH <| pp @F.fA ()) <| pp () <| pp () <| pp () <| pp () <| pp () <| ()
 exact lD
theorem F.aN {n:Nat} : ∀ {bW cZ r},G.aN n bW cZ=some r->bF pZ 23 [.one (.c (.sl 8 (List.map aj.cells bW))),.one (.c (.sl 8 (List.map aj.cells cZ)))] (.one (.c (.lit (.bool r)))):=by
 intro bW cZ r h
 refine aH K.aN (kK ?_)
 unfold C.aN
 rcases n with _ | n<;>simp only [G.aN,reduceCtorEq] at h
 have z:=pp (pp @F.bG ()) <| pp () <| pp (pp (@lS (Int) _ (fun n x=>G.aN.L1 n bW cZ x) r (fun x=>dB.of [(0,.v true (.one (.c (.sl 8 (List.map aj.cells bW))))),(1,.v true (.one (.c (.sl 8 (List.map aj.cells cZ))))),eI 5 x] [])) ()) <| pp () <| pp (pp (And.intro @G.aN.L1.eq_1 <| @G.aN.L1.eq_2) ()) <| pp (pp (@bf [] [] []) ()) <| ()
 exact lD
theorem F.fG {n:Nat} : ∀ {dA r},G.fG n dA=some r->fF pZ 59 [.one (.ptr 0 0)] [.var [.c (.sl 1 (List.map cU dA.b)),wI dA.p]] (fun r1 b1=>r1 = .o8 [(true,[.c (.sl 7 (List.map aA.cells r.1.Items)),wI r.1.Clock]),(false,[.c (.sl 10 (List.map RequestT.cells r.2.1))])]/\b1=[.var [.c (.sl 1 (List.map cU r.2.2.b)),wI r.2.2.p]]):=by
 intro dA r h
 refine dQ K.fG (kK ?_)
 unfold C.fG
 rcases n with _ | n<;>simp only [G.fG,reduceCtorEq] at h
 have z:=pp () <| pp (pp (pp @F.mM (@cG [0] [])) <| pp (pp @F.dD (@cH [0] [])) <| pp (pp @F.lu (@cG [0] [])) <| pp (pp @F.aC (@cG [0] [])) <| pp (pp @F.aI (@cG [0] [])) ()) <| pp (pp (@lS ((StoreT × ReaderT) × Int × List Int × Int × List RequestT) _ (fun n x=>G.fG.L1 n x.1 x.2.1 x.2.2.1 x.2.2.2.1 x.2.2.2.2) r (fun x=>dB.of [eP 0 0,eP 2 107,eP 4 108,(5,.v true (.one (.own 109 x.2.2.2.2.length 10))),eI 6 x.2.1] [(0,.var [.c (.sl 1 (List.map cU x.2.2.1)),wI x.2.2.2.1]),(107,.var [.cO 7,wI 0]),(108,.var [.c (.sl 7 (List.map aA.cells x.1.1.Items)),wI x.1.1.Clock]),(109,.dat 10 (List.map RequestT.cells x.2.2.2.2))])) <| pp (@lS ((StoreT × ReaderT) × List Int × Int × List RequestT) _ (fun n x=>G.fG.L2 n x.1 x.2.1 x.2.2.1 x.2.2.2) r (fun x=>dB.of [eP 0 0,eP 2 116,eP 4 117,(5,.v true (.one (.own 118 x.2.2.2.length 10)))] [(0,.var [.c (.sl 1 (List.map cU x.2.1)),wI x.2.2.1]),(116,.var [.cO 7,wI 0]),(117,.var [.c (.sl 7 (List.map aA.cells x.1.1.Items)),wI x.1.1.Clock]),(118,.dat 10 (List.map RequestT.cells x.2.2.2))])) ()) <| pp () <| pp (pp (And.intro @G.fG.L1.eq_1 <| And.intro @G.fG.L1.eq_2 <| And.intro @G.fG.L2.eq_1 <| @G.fG.L2.eq_2) ()) <| pp (pp (@bf [] [(0,0),(107,10),(108,11),(109,12)] []) <| pp (@bf [] [(0,0),(107,107),(108,108),(109,15)] []) <| pp (@bf [] [(0,0),(116,107),(117,108),(118,109)] []) <| pp (@bf [] [(0,0),(116,116),(117,117),(118,17)] []) ()) <| (pp (@ni [118] [(0,0)] []) <| pp (@ni [109] [(0,0)] []) ())
 exact lD
theorem F.gm {n:Nat} : ∀ {ah r},G.gm n ah=some r->bF pZ 60 [.one (.c (.sl 10 (List.map RequestT.cells ah)))] (.one (.c (.lit (.bool r)))):=by
 intro ah r h
 refine aH K.gm (kK ?_)
 unfold C.gm
 rcases n with _ | n<;>simp only [G.gm,reduceCtorEq] at h
 have z:=pp (pp @F.iJ ()) <| pp () <| pp (pp (@lS (Int) _ (fun n x=>G.gm.L1 n ah x) r (fun x=>dB.of [(0,.v true (.one (.c (.sl 10 (List.map RequestT.cells ah))))),eI 3 x] [])) ()) <| pp () <| pp (pp (And.intro @G.gm.L1.eq_1 <| @G.gm.L1.eq_2) ()) <| pp (pp (@bf [] [] []) ()) <| ()
 exact lD
theorem F.jc {n:Nat} : ∀ {dw r},G.jc n dw=some r->bF pZ 24 [.one (.c (.sl 1 (List.map cU dw)))] (.o8 [(true,[.c (.sl 7 (List.map aA.cells r.1.Items)),wI r.1.Clock]),(false,[.c (.sl 10 (List.map RequestT.cells r.2))])]):=by
 intro dw r h
 refine aH K.jc (kK ?_)
 unfold C.jc
 rcases n with _ | n<;>simp only [G.jc,reduceCtorEq] at h
 have z:=pp () <| pp (pp (pp @F.kR (@cG [] [101])) <| pp (pp @F.fG (@cG [101] [])) ()) <| pp () <| pp () <| pp () <| pp () <| ()
 exact lD
theorem F.eY {n:Nat} : ∀ {ai ah r},G.eY n ai ah=some r->bF pZ 25 [.agg [.c (.sl 7 (List.map aA.cells ai.Items)),wI ai.Clock],.one (.c (.sl 10 (List.map RequestT.cells ah)))] (.o8 [(true,[.c (.sl 7 (List.map aA.cells r.1.Items)),wI r.1.Clock]),(false,[.c (.sl 8 (List.map aj.cells r.2))])]):=by
 intro ai ah r h
 refine aH K.eY (kK ?_)
 unfold C.eY
 rcases n with _ | n<;>simp only [G.eY,reduceCtorEq] at h
 have z:=pp (pp @F.aY <| pp @F.gm <| pp @F.aU <| pp @F.eu ()) <| pp () <| pp (pp (@lS (Int × List aj × List aA × Int) _ (fun n x=>G.eY.L1 n ah x.1 x.2.1 x.2.2.1 x.2.2.2) r (fun x=>dB.of [(1,.v true (.one (.c (.sl 10 (List.map RequestT.cells ah))))),eP 4 107,(6,.v true (.one (.own 108 x.2.1.length 8))),eP 7 109,eI 8 x.1] [(107,.var [.cO 7,wI 0]),(108,.dat 8 (List.map aj.cells x.2.1)),(109,.var [.c (.sl 7 (List.map aA.cells x.2.2.1)),wI x.2.2.2])])) ()) <| pp () <| pp (pp (And.intro @G.eY.L1.eq_1 <| @G.eY.L1.eq_2) ()) <| pp (pp (@bf [] [(107,11),(108,12),(109,13)] []) <| pp (@bf [] [(107,107),(108,17),(109,109)] []) ()) <| ()
 exact lD
theorem F.jL {n:Nat} : ∀ {ah ai r},G.jL n ah ai=some r->bF pZ 31 [.one (wT ah),.one (wS ai)] (.one (.c (.lit (.bool r)))):=by
 intro ah ai r h
 refine aH K.jL (kK ?_)
 unfold C.jL
 rcases n with _ | n<;>simp only [G.jL,reduceCtorEq] at h
 have z:=pp () <| pp () <| pp (pp (@lS (Int) _ (fun n x=>G.jL.L1 n ah ai x) r (fun x=>dB.of [eT 0 ah,eS 1 ai,eI 5 x] [])) ()) <| pp () <| pp (pp (And.intro @G.jL.L1.eq_1 <| @G.jL.L1.eq_2) ()) <| pp (pp (@bf [] [] []) ()) <| ()
 exact lD
theorem F.gV {n:Nat} : ∀ {dw r},G.gV n dw=some r->bF pZ 11 [.one (.c (.sl 1 (List.map cU dw)))] (.one (.c (.lit (.bool r)))):=by
 intro dw r h
 refine aH K.gV (kK ?_)
 unfold C.gV
 rcases n with _ | n<;>simp only [G.gV,reduceCtorEq] at h
 have z:=pp (pp @F.jc <| pp @F.dF <| pp @F.eY <| pp @F.aK <| pp @F.aN <| pp @F.jl <| pp @F.ji <| pp @F.jL <| pp @F.gu ()) <| pp () <| pp (pp (@lS ((StoreT × List RequestT) × (StoreT × List aj) × List aG × Int) _ (fun n x=>G.gV.L2 n x.1 x.2.1 x.2.2.1 x.2.2.2) r (fun x=>dB.of [eP 3 108,eP 5 109,eT 9 x.2.2.1,eI 10 x.2.2.2] [(108,.var [.c (.sl 7 (List.map aA.cells x.1.1.Items)),wI x.1.1.Clock]),(109,.var [.c (.sl 7 (List.map aA.cells x.2.1.1.Items)),wI x.2.1.1.Clock])])) ()) <| pp (pp (@pq ((StoreT × List RequestT) × (StoreT × List aj)) _ (fun n x=>G.gV.K1 n x.1 x.2) r (fun x=>dB.of [eP 3 101,(4,.v true (.one (.c (.sl 10 (List.map RequestT.cells x.1.2))))),eP 5 102,(6,.v true (.one (.c (.sl 8 (List.map aj.cells x.2.2))))),(47,.v true (.one (.c (.lit (.bool false)))))] [(101,.var [.c (.sl 7 (List.map aA.cells x.1.1.Items)),wI x.1.1.Clock]),(102,.var [.c (.sl 7 (List.map aA.cells x.2.1.Items)),wI x.2.1.Clock])])) ()) <| pp (pp (And.intro @G.gV.K1.eq_1 <| And.intro @G.gV.K1.eq_2 <| And.intro @G.gV.L2.eq_1 <| @G.gV.L2.eq_2) ()) <| pp (pp (@bf [] [(101,10),(102,11)] []) <| pp (@bf [] [(108,101),(109,102)] []) <| pp (@bf [] [(108,108),(109,109)] []) ()) <| ()
 exact lD
end Go.Ab
end
section
namespace Go.Ab
open Go Go.ChangeShapes Go.WideShapes Go.ChangeAt Go.RowKit
def I0 (W:World):IH:=fun b=>match W.heap[b]? with
 | some (.cells c _ _)=>some c
 | _=>none
theorem TJ (W:World):Agree (I0 W) W:=by
 intro b c h
 unfold I0 at h
 split at h
 ·rename_i c' e fr hb
  cases h
  exact ⟨e,fr,hb⟩
 ·cases h
theorem V7 (W:World) {a:Addr} {v:Value} (h:W.cell? a=some v):(I0 W).cell a=some v:=by
 unfold World.cell? at h
 unfold IH.cell I0
 split at h
 ·rename_i c e fr hb
  split at h
  ·cases h
  ·rename_i hs
   rw [if_neg hs,hb]
   exact h
 ·cases h
theorem JR {W W':World} {M:Nat->Prop} (h:Em W W' M) (hM:∀ k,¬ M k):Below W.heap.size W W' :=
 ⟨h.os,h.tape,h.output,h.size,fun k hk=>h.block k hk (hM k)⟩
theorem EW (ρ:Ren) (k:Nat):¬ ∃ b,(wO [] b).uses (ρ b) k:=fun ⟨b,h⟩=>by
 simp only [wO,List.getD_nil] at h
 exact h
abbrev xH (z:Int):List Cell:=[.lit (.int .u8 z)]
theorem RN {P:Program} {W:World} {x:String × DataW Unit} {rest:List (String × DataW Unit)} (h:laidMet P (x::rest) W):laidMet P rest W:=by
 obtain ⟨ps,hv,hn,hc⟩:=h
 obtain ⟨g,t,cs,fuel,p,q,h1,h2,h3,h4,h5,rfl⟩:=hv
 exact ⟨q,h5,(List.nodup_append.1 hn).2.1,fun b off hp=>hc b off (List.mem_append_right _ hp)⟩
theorem sD {P:Program} {W:World} : ∀ (k:Nat) {l:List (String × DataW Unit)},laidMet P l W->laidMet P (l.drop k) W
 | 0,l,h=>h
 | k+1,[],h=>h
 | k+1,x::l,h=>sD k (l:=l) (RN h)
theorem wG {P:Program} {W:World} {rest:List (String × DataW Unit)} {g:Nat} {t e:TypeId}
  (hg:P.globalNamed "internal/strconv.uint64pow10" = some g) (hty:(P.globals[g]?).map (·.type)=some t) (ht:P.underlying t=some (.array 20 e)) (he:P.underlying e=some (.int .u64)) (hce:P.cellsOf e=1) (hct:P.cellsOf t=20)
  (h:laidMet P (("internal/strconv.uint64pow10",Lib.tabData .u64 Lib.pow10Tab)::rest) W):Tabs P (I0 W):=by
 have h1:=Lib.tabIs_of_head hg hty ht he hce hct h
 intro g' hg'
 rw [hg] at hg'
 simp only [Option.some.injEq] at hg'
 subst hg'
 unfold Lib.TabIs World.var? at h1
 simp only [hg] at h1
 unfold I0
 revert h1
 split<;>simp_all
theorem sW {P:Program} {f:FuncId} {H:Type} {enc:TypeId × Value->H} {W:World} {tb eb:TypeId} {v0:Value} {d0:DataW H} {p0:List MemPlace} {base:Nat}
    (hT:Tabs P (I0 W)) (ht:P.underlying tb=some (.slice eb)) (he:P.underlying eb=some (.int .u8)) (hc:P.cellsOf eb=1)
    (hval:Value.okWide P W .any base tb v0) (h0:DataW.Trod enc P W 0 (fun _=>true) true tb v0 d0 p0)
    (hp:∀ zs:List Int,zs.length<=maxLen->(∀ z,z∈zs->0<=z/\z<256)->bF P f [Lt 1 (zs.map xH)] (oQ true)) :
    Calls P f #[v0] W fun e W'=>e = .returned (.bool true)/\Below W.heap.size W W':=by
  obtain ⟨a0,len,cap,rfl⟩:=okWide_slice ht hval
  obtain ⟨fuel,hf⟩:=h0
  have go:∀ zs:List Int,zs.length<=maxLen->(∀ z,z∈zs->0<=z/\z<256)->Rd (I0 W) (.slice a0 len cap) (.sl 1 (zs.map xH)) ->
      Calls P f #[.slice a0 len cap] W fun e W'=>e = .returned (.bool true)/\Below W.heap.size W W':=by
    intro zs hl hz hr
    refine (hp zs hl hz (I0 W) (fun _=>none) W [.slice a0 len cap] hT (TJ W) ⟨fun b=>by simp only [wO,List.getD_nil]; exact rfl,fun b b' k h=>(EW (fun _=>none) k ⟨b,h⟩).elim,fun b k h=>(EW (fun _=>none) k ⟨b,h⟩).elim⟩ ⟨rfl,?_⟩).mono ?_
    · intro j v x hv hx
      match j with
      | 0 =>
        simp only [List.getElem?_cons_zero,Option.some.injEq] at hv hx
        subst hv hx
        exact hr
      | j+1=>simp at hv
    · rintro e W' ⟨v,J,σ,r,bs,rfl,⟨rfl,rfl⟩,hg,_,_,_,hfr,_⟩
      refine ⟨?_,JR hfr (EW (fun _=>none))⟩
      cases hg
      rfl
  rcases open_ints ht he hc hf with ⟨hcs,hx⟩ | ⟨a,len',cap',zs,hcs,_,hl,hm,hz,hx,hcell,hwz⟩
  · simp [Value.cells] at hcs
    obtain ⟨rfl,rfl,rfl⟩:=hcs
    exact go [] (Nat.zero_le _) (fun z h=>by cases h) (.sl none 0 0 1 [] (fun _ _=>undef) rfl (Nat.le_refl _) (Nat.zero_le _) (fun e h=>by cases h) (fun h=>by omega) (fun ad h=>by cases h) (fun i j c h=>by simp at h))
  · simp [Value.cells] at hcs
    obtain ⟨rfl,rfl,rfl⟩:=hcs
    simp only [if_true] at hz
    have hb:∀ z,z∈zs.take len->0<=z/\z<256:=fun z hz'=>by
      have h5:=hwz z (List.mem_of_mem_take hz')
      have e1:IntKind.u8.min=0:=rfl
      have e2:IntKind.u8.max=255:=rfl
      have:0<=z/\z<=255:=by simpa [Lit.wf,e1,e2] using h5
      omega
    have hlen:(zs.take len).length=len:=by rw [List.length_take]; omega
    refine go (zs.take len) (by omega) hb (.sl (some a) len cap 1 _ (fun i _ => .int .u8 (zs.getD i 0)) (by rw [List.length_map,hlen]) hl hm (fun e h => ?_) (fun _ h=>by cases h) (fun ad hd i j hi hj => ?_) (fun i j c h => ?_))
    · obtain ⟨z,_,rfl⟩:=List.mem_map.1 h
      rfl
    · cases hd
      have e:i*1+j=i:=by omega
      rw [e]
      exact V7 W (hcell i (by omega))
    · by_cases hi:i<len
      · have hi':i<zs.length:=by omega
        have e:((zs.take len).map xH).getD i []=xH (zs.getD i 0):=by
          simp [List.getD,List.getElem?_map,List.getElem?_take,hi,hi']
        rw [e] at h
        match j with
        | 0 =>
          simp only [List.getElem?_cons_zero,Option.some.injEq] at h
          subst h
          exact .lit _ rfl
        | j+1=>simp at h
      · have e:((zs.take len).map xH).getD i []=[]:=by
          simp [List.getD,List.getElem?_map,List.getElem?_take,hi]
        rw [e] at h
        simp at h
end Go.Ab
end
