/- The law FnExactSucceeds of the package laws answers true for all arguments and leaves them as they are (part 2). Conditions: none but what the row lists. -/
import Derived.Test.YtoijiephcflchaaGreatDoorQ1
set_option linter.unusedVariables false
set_option linter.unusedSimpArgs false
section
namespace Go.Ab
open Go
set_option maxRecDepth 100000
set_option maxHeartbeats 4000000
set_option linter.unusedVariables false
set_option linter.unusedSimpArgs false
theorem FZ.eu {es:List (List Cell)} {c i j:Nat} (hc:es.length<=c) (hi:i<j) (hj:j<=es.length) (hb:es.length*112<=2^46) :
  iZ pZ 207 [.one (.sub 0 0 es.length (some c) 7),.one (wI (i:Int)),.one (wI (j:Int))] [.dat 7 es]
   (fun r1 b1=>r1 = .one (.own 1 (i+(es.length-j)) 7)/\b1=[.dead,.dat 7 (es.take i++es.drop j)]):=by
 refine kU K.eu (jZ ?_)
 unfold C.eu
 have he:(((i:Nat):Int)==((j:Nat):Int))=false:=by simp; omega
 have ht:List.take (es.length-j) (List.drop j es)=List.drop j es:=List.take_of_length_le (by simp)
 have hr:i+(es.length-j)<=c:=by omega
 simp -dsimp only [yF,fA.gm,fA.f,fA.rd,lH,jX,lvl,kK,reduceIte,Nat.reduceEqDiff,Nat.reduceAdd,Nat.reduceLeDiff,Nat.reduceBEq,reduceCtorEq,Int.reduceBNe,Int.reduceBEq,Int.reduceLT,Int.reduceLE,Int.reduceNeg,Nat.reduceLT,lI,Int.reduceToNat,nU,jE,pz,mV,mX,mQ,mW,truncS,Option.map_none,Int.sub_zero,Nat.sub_zero,Int.toNat_sub,Int.ofNat_zero,List.drop_zero,List.take_length,Nat.add_sub_cancel,he]
 repeat refine And.intro (by first | (show kW _ _ _ _=true; kernel_rfl) | (show jT _ _=true; kernel_rfl) | omega | assumption) ?_
 simp -dsimp only [yF,fA.gm,fA.f,fA.rd,lH,jX,lvl,kK,reduceIte,Nat.reduceEqDiff,Nat.reduceAdd,Nat.reduceLeDiff,Nat.reduceBEq,reduceCtorEq,Int.reduceBNe,Int.reduceBEq,Int.reduceLT,Int.reduceLE,Int.reduceNeg,Nat.reduceLT,lI,Int.reduceToNat,nU,jE,pz,mV,mX,mQ,mW,truncS,Option.map_none,Int.sub_zero,Nat.sub_zero,Int.toNat_sub,Int.ofNat_zero,List.drop_zero,List.take_length,Nat.add_sub_cancel,ht,List.length_drop,hr]
 repeat refine And.intro (by first | (show kW _ _ _ _=true; kernel_rfl) | (show jT _ _=true; kernel_rfl) | omega | assumption) ?_
 refine And.intro (by simp; omega) ?_
 have e4:(List.take i es).length=i:=by simp; omega
 have e:List.take (i+(es.length-j)) (List.take i es++List.drop j es++List.drop (i+(es.length-j)) es)=List.take i es++List.drop j es:=by
  have e5:(List.take i es++List.drop j es).length=i+(es.length-j):=by rw [List.length_append,e4,List.length_drop]
  rw [List.take_append_of_le_length (by omega),List.take_of_length_le (by omega)]
 rw [e,List.append_assoc]
 generalize List.replicate (es.length-(i+(es.length-j))) [.str [],.lit (.int .i64 0),.lit (.int .i64 0),.lit (.int .i64 0),.str [],.sl 1 [],.sl 5 []]++List.drop (i+(es.length-j)+(es.length-(i+(es.length-j)))) (List.take i es++List.drop j es++List.drop (i+(es.length-j)) es)=T
 generalize List.take i es++List.drop j es=A
 refine pX [] [(0,0),(1,0)] [] (by rfl) ?_ ?_ ?_<;>(simp -dsimp only [KI,Cm,uB,reduceIte,Nat.reduceEqDiff,reduceCtorEq,Nat.reduceAdd,Nat.reduceLeDiff]<;>first | (simp [List.take_of_length_le]; done) | ((try simp only [List.map_take,List.map_drop,List.map_append,List.map_cons,List.map_nil])<;>(repeat' apply And.intro)<;>first | rfl | (simp; done) | (simp<;>omega; done) | (congr 1; exact (List.take_of_length_le (by simp<;>omega)).symm)))
theorem F.eu {n:Nat} : ∀ {ai:List aH} {uT:Int} {Jd:Int} {r:List aH},G.eu n ai uT Jd=some r ->
    iZ pZ 207 [.one (.own 0 ai.length 7),.one (wI uT),.one (wI Jd)] [.dat 7 (List.map aH.cells ai)]
      (fun r1 b1=>r1 = .one (.own 1 r.length 7)/\b1=[.dead,.dat 7 (List.map aH.cells r)]):=by
  intro s i j r h
  cases n with
  | zero=>simp only [G.eu,reduceCtorEq] at h
  | succ n =>
    simp only [G.eu] at h
    obtain ⟨⟨q1,q2,q3,q4⟩,h⟩:=oJ.1 h
    cases h
    obtain ⟨k,rfl⟩:∃ k:Nat,i=k:=⟨i.toNat,by omega⟩
    obtain ⟨l,rfl⟩:∃ l:Nat,j=l:=⟨j.toNat,by omega⟩
    refine xX (fun c hc => ?_)
    have hf:=FZ.eu (es:=List.map aH.cells s) (c:=c) (i:=k) (j:=l) (by simpa using hc) (by omega) (by rw [List.length_map]; omega) (by rw [List.length_map]; exact q4)
    have e1:(List.take k s++List.drop l s).length=k+(s.length-l):=by simp; omega
    rw [Int.toNat_natCast,Int.toNat_natCast,e1]
    simpa using hf
theorem F.kC {n:Nat} : ∀ {ai aW r},G.kC n ai aW=some r->aZ pZ 171 [.agg [.c (.sl 7 (List.map aH.cells ai.Items)),wI ai.Clock],.one (wS aW)] (.nV [(true,[.c (.sl 7 (List.map aH.cells r.1.Items)),wI r.1.Clock]),(false,[.c (.lit (.bool r.2))])]):=by
 intro ai aW r h
 refine aB K.kC (jZ ?_)
 unfold C.kC
 rcases n with _ | n<;>simp only [G.kC,reduceCtorEq] at h
 have z:=pp (pp @F.aK <| pp @F.gQ ()) <| pp (pp (pp @F.vC (@cG [] [101])) <| pp (pp @F.eu (@cG [101] [102])) ()) <| pp () <| pp () <| pp () <| pp () <| ()
 exact kQ
theorem B.lays167:Go.Proofs.Lays.n167 pZ B.ren:=by constructor<;>first | kernel_rfl | (intro w; kernel_rfl)
theorem F.aG {n:Nat} : ∀ {pU:dI} {zI:Int} {r:Unit × dI},G.aG n pU zI=some r->iZ pZ 225 [.one (.ptr 0 0),.one (.c (.lit (.int .u8 zI)))] [.var [.opt 199 0,.nH 1 pU.buf.length],.row 5 pU.buf] (fun r1 b1=>r1 = .one (.c (.lit .nilIface))/\b1=[.var [.opt 199 0,.nH 2 r.2.buf.length],.dead,.row 5 r.2.buf]):=by
 intro b c r h
 rcases n with _ | n<;>simp only [G.aG,reduceCtorEq] at h
 obtain ⟨⟨hc,hl⟩,h⟩:=oJ.1 h
 cases h
 exact GK B.lays167 B.x hc hl
theorem F.bP {n:Nat} : ∀ {pU ai r},G.bP n pU ai=some r->iZ pZ 224 [.one (.ptr 0 0),.one (wS ai)] [.var [.opt 199 0,.nH 1 pU.buf.length],.row 5 pU.buf] (fun r1 b1=>r1 = .nV []/\b1=[.var [.opt 199 0,.nH 2 r.buf.length],.dead,.row 5 r.buf]):=by
 intro pU ai r h
 refine kU K.bP (jZ ?_)
 unfold C.bP
 rcases n with _ | n<;>simp only [G.bP,reduceCtorEq] at h
 have z:=pp () <| pp (pp (pp @F.aG (@cG [0,1] [101])) <| pp (pp @F.aG (@cG [0,116] [121])) <| pp (pp @F.aG (@cG [0,116] [122])) <| pp (pp @F.aG (@cG [0,119] [120])) <| pp (pp @F.aG (@cG [0,116] [123])) ()) <| pp (pp (@lQ (Int × aS) _ (fun n x=>G.bP.L3 n ai x.1 x.2) r (fun x=>bZ.of [eP 0 0,eS 1 ai,eI 4 x.1] [(0,.var [.opt 199 0,.nH 116 x.2.length]),(1,.dead),(116,.row 5 x.2)])) ()) <| pp (pp (@sQ (Int × aS) _ (fun n x=>G.bP.K4 n ai x.1 x.2) r (fun x=>bZ.of [eP 0 0,eS 1 ai,eI 4 x.1] [(0,.var [.opt 199 0,.nH 119 x.2.length]),(1,.dead),(119,.row 5 x.2)])) ()) <| pp (pp (And.intro @G.bP.L3.eq_1 <| And.intro @G.bP.L3.eq_2 <| And.intro @G.bP.K4.eq_1 <| @G.bP.K4.eq_2) ()) <| pp (pp (@bQ [] [(0,0),(1,1),(116,101)] []) <| pp (@bQ [] [(0,0),(1,1),(119,121)] []) <| pp (@bQ [] [(0,0),(1,1),(119,122)] []) <| pp (@bQ [] [(0,0),(1,1),(119,116)] []) <| pp (@bQ [] [(0,0),(1,1),(116,120)] []) ()) <| (pp (@qx [] [(0,0),(1,1),(2,123)] []) <| pp (@qx [] [(0,0),(1,1),(2,121)] []) ())
 exact kQ
theorem B.lays166:Go.Proofs.Lays.n166 pZ B.ren:=by constructor<;>first | kernel_rfl | (intro w; kernel_rfl)
theorem F.fV {n:Nat} : ∀ {pU:dI} {ai:aS} {r:Int × Unit × dI},G.fV n pU ai=some r->iZ pZ 223 [.one (.ptr 0 0),.one (wS ai)] [.var [.opt 199 0,.nH 1 pU.buf.length],.row 5 pU.buf] (fun r1 b1=>r1 = .nV [(false,[wI r.1]),(false,[.c (.lit .nilIface)])]/\b1=[.var [.opt 199 0,.nH 2 r.2.2.buf.length],.dead,.row 5 r.2.2.buf]):=by
 intro b s r h
 rcases n with _ | n<;>simp only [G.fV,reduceCtorEq] at h
 obtain ⟨hl,h⟩:=oJ.1 h
 cases h
 exact D9 B.lays166 B.x hl
theorem F.BL:∀ (n:Nat),∀ {pU ag r},G.aI n pU ag=some r->iZ pZ 203 [.one (.ptr 0 0),.agg (wN ag)] [.var [.opt 199 0,.nH 1 pU.buf.length],.row 5 pU.buf] (fun r1 b1=>r1 = .nV []/\b1=[.var [.opt 199 0,.nH 2 r.buf.length],.dead,.row 5 r.buf]):=by
 intro n
 induction n using Nat.strongRecOn with | _ n ih =>
 intro pU ag r h
 refine kU K.aI (jZ ?_)
 unfold C.aI
 rcases n with _ | n<;>simp only [G.aI,reduceCtorEq] at h
 have:=Mk.mk 1; have:=Mk.mk 2
 have z:=pp (pp @F.strconv_Itoa ()) <| pp (pp (pp ih (@cG [0,118] [119])) <| pp (pp ih (@cG [0,148] [149])) <| pp (pp @F.fV (@cG [0,1] [101])) <| pp (pp @F.fV (@cG [0,1] [102])) <| pp (pp @F.bP (@cG [0,1] [103])) <| pp (pp @F.aG (@cG [0,1] [104])) <| pp (pp @F.aG (@cG [0,115] [120])) <| pp (pp @F.aG (@cG [0,115] [121])) <| pp (pp @F.aG (@cG [0,1] [122])) <| pp (pp @F.aG (@cG [0,142] [150])) <| pp (pp @F.bP (@cG [0,146] [147])) <| pp (pp @F.aG (@cG [0,147] [148])) <| pp (pp @F.aG (@cG [0,142] [151])) ()) <| pp (pp (@lQ (Int × aS) _ (fun n x=>G.aI.L3 n ag x.1 x.2) r (fun x=>bZ.of [eP 0 0,(32,.v true (.one (wK ag.Kids))),eI 33 ((ag.Kids.length:Nat):Int),eI 34 x.1] [(0,.var [.opt 199 0,.nH 115 x.2.length]),(1,.dead),(115,.row 5 x.2)])) <| pp (@lQ (Int × aS) _ (fun n x=>G.aI.L7 n ag x.1 x.2) r (fun x=>bZ.of [eP 0 0,eP 3 141,(54,.v true (.one (wK ag.Kids))),eI 55 ((ag.Kids.length:Nat):Int),eI 56 x.1] [(0,.var [.opt 199 0,.nH 142 x.2.length]),(1,.dead),(141,.var (wN ag)),(142,.row 5 x.2)])) ()) <| pp (pp (@sQ (Int × aS) _ (fun n x=>G.aI.K4 n ag x.1 x.2) r (fun x=>bZ.of [eP 0 0,eP 5 117,(32,.v true (.one (wK ag.Kids))),eI 33 ((ag.Kids.length:Nat):Int),eI 34 x.1] [(0,.var [.opt 199 0,.nH 118 x.2.length]),(1,.dead),(117,.var [wI ((ag.Kids.getD x.1.toNat default).Kind),wI ((ag.Kids.getD x.1.toNat default).Num),wS ((ag.Kids.getD x.1.toNat default).Text),wT ((ag.Kids.getD x.1.toNat default).Names),wK ((ag.Kids.getD x.1.toNat default).Kids)]),(118,.row 5 x.2)])) <| pp (@sQ (Int × aS) _ (fun n x=>G.aI.K8 n ag x.1 x.2) r (fun x=>bZ.of [eP 0 0,eP 3 144,eI 6 x.1,eP 7 145,(54,.v true (.one (wK ag.Kids))),eI 55 ((ag.Kids.length:Nat):Int),eI 56 x.1] [(0,.var [.opt 199 0,.nH 146 x.2.length]),(1,.dead),(144,.var (wN ag)),(145,.var [wI ((ag.Kids.getD x.1.toNat default).Kind),wI ((ag.Kids.getD x.1.toNat default).Num),wS ((ag.Kids.getD x.1.toNat default).Text),wT ((ag.Kids.getD x.1.toNat default).Names),wK ((ag.Kids.getD x.1.toNat default).Kids)]),(146,.row 5 x.2)])) ()) <| pp (pp (And.intro @G.aI.L3.eq_1 <| And.intro @G.aI.L3.eq_2 <| And.intro @G.aI.K4.eq_1 <| And.intro @G.aI.K4.eq_2 <| And.intro @G.aI.L7.eq_1 <| And.intro @G.aI.L7.eq_2 <| And.intro @G.aI.K8.eq_1 <| @G.aI.K8.eq_2) ()) <| pp (pp (@bQ [] [(0,0),(1,1),(115,104)] []) <| pp (@bQ [] [(0,0),(1,1),(117,11),(118,120)] []) <| pp (@bQ [] [(0,0),(1,1),(117,11),(118,115)] []) <| pp (@bQ [] [(0,0),(1,1),(115,119)] []) <| pp (@bQ [] [(0,0),(1,1),(141,10),(142,122)] []) <| pp (@bQ [] [(0,0),(1,1),(144,141),(145,12),(146,150)] []) <| pp (@bQ [] [(0,0),(1,1),(144,141),(145,12),(146,142)] []) <| pp (@bQ [] [(0,0),(1,1),(141,144),(142,149)] []) <| pp (@bQ [] [(0,0),(1,1),(141,10),(142,104)] []) ()) <| pp (pp (@qx [] [(0,0),(1,1),(2,101)] []) <| pp (@qx [] [(0,0),(1,1),(2,102)] []) <| pp (@qx [] [(0,0),(1,1),(2,103)] []) <| pp (@qx [] [(0,0),(1,1),(2,121)] []) <| pp (@qx [] [(0,0),(1,1),(2,151)] []) <| pp (@qx [] [(0,0),(1,1),(2,1)] []) <| pp (@qx [] [(0,0),(1,1),(2,120)] []) <| pp (@qx [] [(0,0),(1,1),(2,150)] []) ()) <| (pp (pp (rfl : @G.aI.K4=_) <| pp (rfl : @G.aI.L3=_) ()) <| pp (pp (rfl : @G.aI.K8=_) <| pp (rfl : @G.aI.L7=_) ()) ())
 exact Qw
theorem F.aI {n:Nat} : ∀ {pU:dI} {ag:af} {r:dI},G.aI n pU ag=some r->iZ pZ 203 [.one (.ptr 0 0),.agg (wN ag)] [.var [.opt 199 0,.nH 1 pU.buf.length],.row 5 pU.buf] (fun r1 b1=>r1 = .nV []/\b1=[.var [.opt 199 0,.nH 2 r.buf.length],.dead,.row 5 r.buf]):=F.BL n
theorem B.lays169:Go.Proofs.Lays.n169 pZ B.ren:=by constructor<;>first | kernel_rfl | (intro w; kernel_rfl)
theorem F.kN {n:Nat} : ∀ {pU:dI} {r:aS},G.kN n pU=some r->iZ pZ 204 [.one (.ptr 0 0)] [.var [.opt 199 0,.nH 1 pU.buf.length],.row 5 pU.buf] (fun r1 b1=>r1 = .one (wS r)/\b1=[.dead,.dead]):=by
 intro b r h
 rcases n with _ | n<;>simp only [G.kN,reduceCtorEq] at h
 obtain ⟨hl,h⟩:=oJ.1 h
 cases h
 exact Ob B.lays169 B.x (Nat.le_trans hl (by decide))
theorem F.jl {n:Nat} : ∀ {ag r},G.jl n ag=some r->aZ pZ 168 [.agg (wN ag)] (.one (wS r)):=by
 intro ag r h
 refine aB K.jl (jZ ?_)
 unfold C.jl
 rcases n with _ | n<;>simp only [G.jl,reduceCtorEq] at h
 have z:=pp (pp @F.aC ()) <| pp (pp (pp @F.aI (@cG [12,11] [101])) <| pp (pp @F.kN (@cG [12,101] [])) ()) <| pp () <| pp () <| pp () <| pp () <| ()
 exact kQ
theorem F.lq {n:Nat} : ∀ {ai aW r},G.lq n ai aW=some r->aZ pZ 118 [.agg [.c (.sl 7 (List.map aH.cells ai.Items)),wI ai.Clock],.one (wS aW)] (.nV [(true,[wS r.1.Name,wI r.1.Version,wI r.1.Node.Kind,wI r.1.Node.Num,wS r.1.Node.Text,wT r.1.Node.Names,wK r.1.Node.Kids]),(false,[.c (.lit (.bool r.2))])]):=by
 intro ai aW r h
 refine aB K.lq (jZ ?_)
 unfold C.lq
 rcases n with _ | n<;>simp only [G.lq,reduceCtorEq] at h
 have z:=pp (pp @F.aK <| pp @F.gQ <| pp @F.jI ()) <| pp () <| pp () <| pp () <| pp () <| pp () <| ()
 exact kQ
theorem F.di {n:Nat} : ∀ {ai r},G.di n ai=some r->aZ pZ 167 [.one (wS ai)] (.one (wS r)):=by
 intro ai r h
 refine aB K.di (jZ ?_)
 unfold C.di
 rcases n with _ | n<;>simp only [G.di,reduceCtorEq] at h
 have z:=pp () <| pp () <| pp (pp (@lQ (Int × Int) _ (fun n x=>G.di.L1 n ai x.1 x.2) r (fun x=>bZ.of [eS 0 ai,eI 3 x.1,eI 4 x.2] [])) <| pp (@lQ (Int × Int × List Int) _ (fun n x=>G.di.L2 n x.1 x.2.1 x.2.2) r (fun x=>bZ.of [eI 3 x.1,(5,.v true (.one (.oI 103 0 1 0))),eI 6 x.2.1] [(103,.dat 1 (List.map cU x.2.2))])) ()) <| pp () <| pp (pp (And.intro @G.di.L1.eq_1 <| And.intro @G.di.L1.eq_2 <| And.intro @G.di.L2.eq_1 <| @G.di.L2.eq_2) ()) <| pp (pp (@bQ [] [] []) <| pp (@bQ [] [(103,10)] []) <| pp (@bQ [] [(103,103)] []) ()) <| ()
 exact kQ
theorem F.lG {n:Nat} : ∀ {ag r},G.lG n ag=some r->aZ pZ 120 [.agg (wN ag)] (.one (wS r)):=by
 intro ag r h
 refine aB K.lG (jZ ?_)
 unfold C.lG
 rcases n with _ | n<;>simp only [G.lG,reduceCtorEq] at h
 have z:=pp (pp @F.aC <| pp @F.jl <| pp @F.di ()) <| pp () <| pp () <| pp () <| pp () <| pp () <| ()
 exact kQ
theorem F.jo {n:Nat} : ∀ {ai bn r},G.jo n ai bn=some r->aZ pZ 122 [.agg [.c (.sl 7 (List.map aH.cells ai.Items)),wI ai.Clock],.agg [wI bn.Method,wS bn.Name,wT bn.Want,wT bn.lK,wI bn.Body.Kind,wI bn.Body.Num,wS bn.Body.Text,wT bn.Body.Names,wK bn.Body.Kids,.c (.sl 8 (List.map jq.cells bn.Ops))]] (.nV [(true,[.c (.sl 7 (List.map aH.cells r.1.Items)),wI r.1.Clock]),(true,[wI r.2.Status,wS r.2.Tag,wI r.2.Version,wI r.2.Body.Kind,wI r.2.Body.Num,wS r.2.Body.Text,wT r.2.Body.Names,wK r.2.Body.Kids])]):=by
 intro ai bn r h
 refine aB K.jo (jZ ?_)
 unfold C.jo
 rcases n with _ | n<;>simp only [G.jo,reduceCtorEq] at h
 have z:=pp (pp @F.kC <| pp @F.aY ()) <| pp () <| pp () <| pp () <| pp () <| pp () <| ()
 exact kQ
theorem FZ.eF {es:List (List Cell)} {v:List Cell} {c i:Nat} (hc:es.length<=c) (hi:i<=es.length) (hb:(es.length+1)*112<=2^46) :
  iZ pZ 229 [.one (.sub 0 0 es.length (some c) 7),.one (wI (i:Int)),.one (.own 1 1 7)] [.dat 7 es,.dat 7 [v]]
   (fun r1 b1=>r1 = .one (.own 2 (es.length+1) 7)/\b1=[.dead,.dat 7 [v],.dat 7 (es.take i++v::es.drop i)]):=by
 have hw:IntKind.wrap .i64 ((es.length:Int)+((1:Nat):Int))=((es.length+1:Nat):Int):=by rw [o5]<;>omega
 have hw2:IntKind.wrap .i64 ((i:Int)+((1:Nat):Int))=((i+1:Nat):Int):=by rw [o5]<;>omega
 have hw3:IntKind.wrap .i64 (((es.length+1:Nat):Int)-i)=((es.length+1-i:Nat):Int):=by rw [o5]<;>omega
 refine kU K.eF (jZ ?_)
 unfold C.eF
 have h10:(((1:Nat):Int)==0)=false:=rfl
 by_cases h1:i=es.length
 ·subst h1
  have he:(((es.length:Nat):Int)==((es.length:Nat):Int))=true:=by simp
  simp -dsimp only [yF,fA.gm,fA.f,fA.rd,lH,jX,lvl,kK,reduceIte,Nat.reduceEqDiff,Nat.reduceAdd,Nat.reduceLeDiff,Nat.reduceBEq,reduceCtorEq,Int.reduceBNe,Int.reduceBEq,Int.reduceLT,Int.reduceLE,Int.reduceNeg,Nat.reduceLT,lI,Int.reduceToNat,nU,jE,pz,mV,mX,mQ,mW,truncS,Option.map_none,Int.sub_zero,Nat.sub_zero,Int.toNat_sub,Int.ofNat_zero,List.drop_zero,List.take_length,Nat.add_sub_cancel,h10]
  repeat refine And.intro (by first | (show kW _ _ _ _=true; kernel_rfl) | (show jT _ _=true; kernel_rfl) | omega | assumption) ?_
  have e:es++[v]++List.drop (es.length+1) es=es++v::List.drop es.length es:=by simp
  have e2:es++[v]=es++v::List.drop es.length es:=by simp
  by_cases hr:es.length+1<=c
  ·simp -dsimp only [yF,fA.gm,fA.f,fA.rd,lH,jX,lvl,kK,reduceIte,Nat.reduceEqDiff,Nat.reduceAdd,Nat.reduceLeDiff,Nat.reduceBEq,reduceCtorEq,Int.reduceBNe,Int.reduceBEq,Int.reduceLT,Int.reduceLE,Int.reduceNeg,Nat.reduceLT,lI,Int.reduceToNat,nU,jE,pz,mV,mX,mQ,mW,truncS,Option.map_none,Int.sub_zero,Nat.sub_zero,Int.toNat_sub,Int.ofNat_zero,List.drop_zero,List.take_length,Nat.add_sub_cancel,hr]
   repeat refine And.intro (by first | (show kW _ _ _ _=true; kernel_rfl) | (show jT _ _=true; kernel_rfl) | omega | assumption) ?_
   rw [e]
   refine pX [] [(0,0),(1,1),(2,0)] [] (by rfl) ?_ ?_ ?_<;>(simp -dsimp only [KI,Cm,uB,reduceIte,Nat.reduceEqDiff,reduceCtorEq,Nat.reduceAdd,Nat.reduceLeDiff]<;>first | (simp [List.take_of_length_le]; done) | ((try simp only [List.map_take,List.map_drop,List.map_append,List.map_cons,List.map_nil])<;>(repeat' apply And.intro)<;>first | rfl | (simp; done) | (simp<;>omega; done) | (congr 1; exact (List.take_of_length_le (by simp<;>omega)).symm)))
  ·simp -dsimp only [yF,fA.gm,fA.f,fA.rd,lH,jX,lvl,kK,reduceIte,Nat.reduceEqDiff,Nat.reduceAdd,Nat.reduceLeDiff,Nat.reduceBEq,reduceCtorEq,Int.reduceBNe,Int.reduceBEq,Int.reduceLT,Int.reduceLE,Int.reduceNeg,Nat.reduceLT,lI,Int.reduceToNat,nU,jE,pz,mV,mX,mQ,mW,truncS,Option.map_none,Int.sub_zero,Nat.sub_zero,Int.toNat_sub,Int.ofNat_zero,List.drop_zero,List.take_length,Nat.add_sub_cancel,hr]
   repeat refine And.intro (by first | (show kW _ _ _ _=true; kernel_rfl) | (show jT _ _=true; kernel_rfl) | omega | assumption) ?_
   rw [e2]
   refine pX [] [(0,0),(1,1),(2,10)] [] (by rfl) ?_ ?_ ?_<;>(simp -dsimp only [KI,Cm,uB,reduceIte,Nat.reduceEqDiff,reduceCtorEq,Nat.reduceAdd,Nat.reduceLeDiff]<;>first | (simp [List.take_of_length_le]; done) | ((try simp only [List.map_take,List.map_drop,List.map_append,List.map_cons,List.map_nil])<;>(repeat' apply And.intro)<;>first | rfl | (simp; done) | (simp<;>omega; done) | (congr 1; exact (List.take_of_length_le (by simp<;>omega)).symm)))
 ·have he:(((i:Nat):Int)==((es.length:Nat):Int))=false:=by simp; omega
  simp -dsimp only [yF,fA.gm,fA.f,fA.rd,lH,jX,lvl,kK,reduceIte,Nat.reduceEqDiff,Nat.reduceAdd,Nat.reduceLeDiff,Nat.reduceBEq,reduceCtorEq,Int.reduceBNe,Int.reduceBEq,Int.reduceLT,Int.reduceLE,Int.reduceNeg,Nat.reduceLT,lI,Int.reduceToNat,nU,jE,pz,mV,mX,mQ,mW,truncS,Option.map_none,Int.sub_zero,Nat.sub_zero,Int.toNat_sub,Int.ofNat_zero,List.drop_zero,List.take_length,Nat.add_sub_cancel,h10]
  repeat refine And.intro (by first | (show kW _ _ _ _=true; kernel_rfl) | (show jT _ _=true; kernel_rfl) | omega | assumption) ?_
  simp -dsimp only [yF,fA.gm,fA.f,fA.rd,lH,jX,lvl,kK,reduceIte,Nat.reduceEqDiff,Nat.reduceAdd,Nat.reduceLeDiff,Nat.reduceBEq,reduceCtorEq,Int.reduceBNe,Int.reduceBEq,Int.reduceLT,Int.reduceLE,Int.reduceNeg,Nat.reduceLT,lI,Int.reduceToNat,nU,jE,pz,mV,mX,mQ,mW,truncS,Option.map_none,Int.sub_zero,Nat.sub_zero,Int.toNat_sub,Int.ofNat_zero,List.drop_zero,List.take_length,Nat.add_sub_cancel,he]
  by_cases hr:es.length+1<=c
  ·have hd:decide ((c:Int)<((es.length+1:Nat):Int))=false:=by simp; omega
   simp -dsimp only [yF,fA.gm,fA.f,fA.rd,lH,jX,lvl,kK,reduceIte,Nat.reduceEqDiff,Nat.reduceAdd,Nat.reduceLeDiff,Nat.reduceBEq,reduceCtorEq,Int.reduceBNe,Int.reduceBEq,Int.reduceLT,Int.reduceLE,Int.reduceNeg,Nat.reduceLT,lI,Int.reduceToNat,nU,jE,pz,mV,mX,mQ,mW,truncS,Option.map_none,Int.sub_zero,Nat.sub_zero,Int.toNat_sub,Int.ofNat_zero,List.drop_zero,List.take_length,Nat.add_sub_cancel,hw,hd]
   repeat refine And.intro (by first | (show kW _ _ _ _=true; kernel_rfl) | (show jT _ _=true; kernel_rfl) | omega | assumption) ?_
   simp -dsimp only [yF,fA.gm,fA.f,fA.rd,lH,jX,lvl,kK,reduceIte,Nat.reduceEqDiff,Nat.reduceAdd,Nat.reduceLeDiff,Nat.reduceBEq,reduceCtorEq,Int.reduceBNe,Int.reduceBEq,Int.reduceLT,Int.reduceLE,Int.reduceNeg,Nat.reduceLT,lI,Int.reduceToNat,nU,jE,pz,mV,mX,mQ,mW,truncS,Option.map_none,Int.sub_zero,Nat.sub_zero,Int.toNat_sub,Int.ofNat_zero,List.drop_zero,List.take_length,Nat.add_sub_cancel,hw2]
   repeat refine And.intro (by first | (show kW _ _ _ _=true; kernel_rfl) | (show jT _ _=true; kernel_rfl) | omega | assumption) ?_
   refine And.intro (by simp; omega) ?_
   have e:=VD es v i (by omega)
   simp only [splice] at e
   rw [e]
   refine pX [] [(0,0),(1,1),(2,0)] [] (by rfl) ?_ ?_ ?_<;>(simp -dsimp only [KI,Cm,uB,reduceIte,Nat.reduceEqDiff,reduceCtorEq,Nat.reduceAdd,Nat.reduceLeDiff]<;>first | (simp [List.take_of_length_le]; done) | ((try simp only [List.map_take,List.map_drop,List.map_append,List.map_cons,List.map_nil])<;>(repeat' apply And.intro)<;>first | rfl | (simp; done) | (simp<;>omega; done) | (congr 1; exact (List.take_of_length_le (by simp<;>omega)).symm)))
  ·have hd:decide ((c:Int)<((es.length+1:Nat):Int))=true:=by simp; omega
   have hx:c<i+(es.length+1-i):=by omega
   simp -dsimp only [yF,fA.gm,fA.f,fA.rd,lH,jX,lvl,kK,reduceIte,Nat.reduceEqDiff,Nat.reduceAdd,Nat.reduceLeDiff,Nat.reduceBEq,reduceCtorEq,Int.reduceBNe,Int.reduceBEq,Int.reduceLT,Int.reduceLE,Int.reduceNeg,Nat.reduceLT,lI,Int.reduceToNat,nU,jE,pz,mV,mX,mQ,mW,truncS,Option.map_none,Int.sub_zero,Nat.sub_zero,Int.toNat_sub,Int.ofNat_zero,List.drop_zero,List.take_length,Nat.add_sub_cancel,hw,hd,hw2,hw3]
   repeat refine And.intro (by first | (show kW _ _ _ _=true; kernel_rfl) | (show jT _ _=true; kernel_rfl) | omega | assumption) ?_
   refine And.intro (by simp; omega) ?_
   repeat refine And.intro (by first | (show kW _ _ _ _=true; kernel_rfl) | (show jT _ _=true; kernel_rfl) | omega | assumption) ?_
   refine And.intro ⟨by omega,by simp; omega⟩ ?_
   repeat refine And.intro (by first | (show kW _ _ _ _=true; kernel_rfl) | (show jT _ _=true; kernel_rfl) | omega | assumption) ?_
   have e:=VE es v [.str [],.lit (.int .i64 0),.lit (.int .i64 0),.lit (.int .i64 0),.str [],.sl 1 [],.sl 5 []] i _ (by omega) rfl
   simp only [splice] at e
   have e0:i+(es.length+1-i)=es.length+1:=by omega
   rw [e,e0]
   refine pX [] [(0,0),(1,1),(2,11)] [] (by rfl) ?_ ?_ ?_<;>(simp -dsimp only [KI,Cm,uB,reduceIte,Nat.reduceEqDiff,reduceCtorEq,Nat.reduceAdd,Nat.reduceLeDiff]<;>first | (simp [List.take_of_length_le]; done) | ((try simp only [List.map_take,List.map_drop,List.map_append,List.map_cons,List.map_nil])<;>(repeat' apply And.intro)<;>first | rfl | (simp; done) | (simp<;>omega; done) | (congr 1; exact (List.take_of_length_le (by simp<;>omega)).symm)))
theorem F.eF {n:Nat} : ∀ {ai:List aH} {uT:Int} {qm:List aH} {r:List aH},G.eF n ai uT qm=some r ->
    iZ pZ 229 [.one (.own 0 ai.length 7),.one (wI uT),.one (.own 1 qm.length 7)] [.dat 7 (List.map aH.cells ai),.dat 7 (List.map aH.cells qm)]
      (fun r1 b1=>r1 = .one (.own 2 r.length 7)/\b1=[.dead,.dat 7 (List.map aH.cells qm),.dat 7 (List.map aH.cells r)]):=by
  intro s i v r h
  cases n with
  | zero=>simp only [G.eF,reduceCtorEq] at h
  | succ n =>
    simp only [G.eF] at h
    obtain ⟨⟨q1,q2,q3,q4⟩,h⟩:=oJ.1 h
    cases h
    obtain ⟨x,rfl⟩:=List.length_eq_one_iff.1 q3
    obtain ⟨k,rfl⟩:∃ k:Nat,i=k:=⟨i.toNat,by omega⟩
    refine xX (fun c hc => ?_)
    have hf:=FZ.eF (es:=List.map aH.cells s) (v:=aH.cells x) (c:=c) (i:=k) (by simpa using hc) (by rw [List.length_map]; omega) (by rw [List.length_map]; exact q4)
    have e1:(List.take k s++[x]++List.drop k s).length=s.length+1:=by simp; omega
    rw [Int.toNat_natCast,e1]
    simpa using hf
theorem F.l9 {n:Nat} : ∀ {nP ja r},G.l9 n nP ja=some r->iZ pZ 209 [.one (.own 0 nP.length 7),.agg [wS ja.Name,wI ja.Version,wI ja.Node.Kind,wI ja.Node.Num,wS ja.Node.Text,wT ja.Node.Names,wK ja.Node.Kids]] [.dat 7 (List.map aH.cells nP)] (fun r1 b1=>r1 = .one (.own 1 r.length 7)/\b1=[.dead,.dat 7 (List.map aH.cells r)]):=by
 intro nP ja r h
 refine kU K.l9 (jZ ?_)
 unfold C.l9
 rcases n with _ | n<;>simp only [G.l9,reduceCtorEq] at h
 have z:=pp (pp @F.gQ ()) <| pp (pp (pp @F.eF (@cG [0,11] [101])) ()) <| pp () <| pp () <| pp () <| pp () <| (pp (@qx [] [(0,0),(1,0)] []) <| pp (@qx [] [(0,0),(1,101)] []) ())
 exact kQ
theorem F.lu {n:Nat} : ∀ {ai aW ag r},G.lu n ai aW ag=some r->aZ pZ 173 [.agg [.c (.sl 7 (List.map aH.cells ai.Items)),wI ai.Clock],.one (wS aW),.agg (wN ag)] (.nV [(true,[.c (.sl 7 (List.map aH.cells r.1.Items)),wI r.1.Clock]),(false,[.c (.lit (.bool r.2))])]):=by
 intro ai aW ag r h
 refine aB K.lu (jZ ?_)
 unfold C.lu
 rcases n with _ | n<;>simp only [G.lu,reduceCtorEq] at h
 have z:=pp (pp @F.aK <| pp @F.dP <| pp @F.aC <| pp @F.au ()) <| pp (pp (pp @F.vC (@cG [] [101])) <| pp (pp @F.l9 (@cG [101] [102])) ()) <| pp () <| pp () <| pp () <| pp () <| ()
 exact kQ
theorem F.lJ {n:Nat} : ∀ {oP aW r},G.lJ n oP aW=some r->iZ pZ 238 [.one (.ptr 0 0),.one (wS aW)] [.var [wI oP.Kind,wI oP.Num,wS oP.Text,.own 1 oP.Names.length 1,.own 2 oP.Kids.length 5],.dat 1 (List.map cS oP.Names),.dat 5 (List.map af.cells oP.Kids)] (fun r1 b1=>r1 = .nV []/\b1=[.var [wI r.Kind,wI r.Num,wS r.Text,.own 3 r.Names.length 1,.own 4 r.Kids.length 5],.dead,.dead,.dat 1 (List.map cS r.Names),.dat 5 (List.map af.cells r.Kids)]):=by
 intro oP aW r h
 refine kU K.lJ (jZ ?_)
 unfold C.lJ
 rcases n with _ | n<;>simp only [G.lJ,reduceCtorEq] at h
 have z:=pp (pp @F.slices_BinarySearch_string ()) <| pp (pp (pp @F.slices_Delete_string (@cG [1] [101])) <| pp (pp @F.bU (@cG [2] [102])) ()) <| pp () <| pp () <| pp () <| pp () <| (pp (@qx [] [(0,0),(1,1),(2,2),(3,101),(4,102)] []) <| pp (@qx [] [(0,0),(1,1),(2,2),(3,1),(4,2)] []) ())
 exact kQ
theorem F.Af:∀ (n:Nat),∀ {ag aP r},G.aQ n ag aP=some r->aZ pZ 228 [.agg (wN ag),.agg (wN aP)] (.agg (wN r)):=by
 intro n
 induction n using Nat.strongRecOn with | _ n ih =>
 intro ag aP r h
 refine aB K.aQ (jZ ?_)
 unfold C.aQ
 rcases n with _ | n<;>simp only [G.aQ,reduceCtorEq] at h
 have:=Mk.mk 1; have:=Mk.mk 2
 have z:=pp (pp ih <| pp @F.slices_BinarySearch_string ()) <| pp (pp (pp @F.lW (@cG [] [101,102])) <| pp (pp @F.lW (@cG [] [155,156])) <| pp (pp @F.lJ (@cG [142,143,144] [145,146])) <| pp (pp @F.iO (@cG [149,151,152] [153,154])) ()) <| pp (pp (@lQ (Int × Int × Int × aS × List aS × List af) _ (fun n x=>G.aQ.L4 n aP x.1 x.2.1 x.2.2.1 x.2.2.2.1 x.2.2.2.2.1 x.2.2.2.2.2) r (fun x=>bZ.of [eP 3 140,eP 4 141,eP 5 142,eT 23 aP.Names,eI 24 ((aP.Names.length:Nat):Int),eI 25 x.1] [(140,.var (wN aP)),(141,.var zN),(142,.var [wI x.2.1,wI x.2.2.1,wS x.2.2.2.1,.own 143 x.2.2.2.2.1.length 1,.own 144 x.2.2.2.2.2.length 5]),(143,.dat 1 (List.map cS x.2.2.2.2.1)),(144,.dat 5 (List.map af.cells x.2.2.2.2.2))])) ()) <| pp (pp (@sQ (Int × Int × aS × List aS × List af) _ (fun n x=>G.aQ.K1 n aP x.1 x.2.1 x.2.2.1 x.2.2.2.1 x.2.2.2.2) r (fun x=>bZ.of [eP 3 105,eP 4 106,eP 5 107] [(105,.var (wN aP)),(106,.var zN),(107,.var [wI x.1,wI x.2.1,wS x.2.2.1,.own 108 x.2.2.2.1.length 1,.own 109 x.2.2.2.2.length 5]),(108,.dat 1 (List.map cS x.2.2.2.1)),(109,.dat 5 (List.map af.cells x.2.2.2.2))])) <| pp (@sQ (Int × Int × Int × aS × List aS × List af × Int × Int × aS × List aS × List af) _ (fun n x=>G.aQ.K5 n aP x.1 x.2.1 x.2.2.1 x.2.2.2.1 x.2.2.2.2.1 x.2.2.2.2.2.1 x.2.2.2.2.2.2.1 x.2.2.2.2.2.2.2.1 x.2.2.2.2.2.2.2.2.1 x.2.2.2.2.2.2.2.2.2.1 x.2.2.2.2.2.2.2.2.2.2) r (fun x=>bZ.of [eP 3 147,eP 4 148,eP 5 149,eI 6 x.1,eS 7 (aP.Names.getD x.1.toNat default),eP 8 150,eT 23 aP.Names,eI 24 ((aP.Names.length:Nat):Int),eI 25 x.1] [(147,.var (wN aP)),(148,.var zN),(149,.var [wI x.2.1,wI x.2.2.1,wS x.2.2.2.1,.own 151 x.2.2.2.2.1.length 1,.own 152 x.2.2.2.2.2.1.length 5]),(150,.var [wI x.2.2.2.2.2.2.1,wI x.2.2.2.2.2.2.2.1,wS x.2.2.2.2.2.2.2.2.1,wT x.2.2.2.2.2.2.2.2.2.1,wK x.2.2.2.2.2.2.2.2.2.2]),(151,.dat 1 (List.map cS x.2.2.2.2.1)),(152,.dat 5 (List.map af.cells x.2.2.2.2.2.1))])) ()) <| pp (pp (And.intro @G.aQ.K1.eq_1 <| And.intro @G.aQ.K1.eq_2 <| And.intro @G.aQ.L4.eq_1 <| And.intro @G.aQ.L4.eq_2 <| And.intro @G.aQ.K5.eq_1 <| @G.aQ.K5.eq_2) ()) <| pp (pp (@bQ [] [(105,11),(106,12),(107,13),(108,155),(109,156)] []) <| pp (@bQ [] [(105,11),(106,12),(107,13)] [108,109]) <| pp (@bQ [] [(140,105),(141,106),(142,107),(143,108),(144,109)] []) <| pp (@bQ [] [(140,140),(141,141),(142,142),(143,145),(144,146)] []) <| pp (@bQ [] [(147,140),(148,141),(149,142),(150,14),(151,143),(152,144)] []) <| pp (@bQ [] [(140,147),(141,148),(142,149),(143,153),(144,154)] []) <| pp (@bQ [] [(105,11),(106,12),(107,13),(108,101),(109,102)] []) ()) <| pp () <| (pp (pp (rfl : @G.aQ.K1=_) ()) <| pp (pp (rfl : @G.aQ.K5=_) <| pp (rfl : @G.aQ.L4=_) <| pp (rfl : @G.aQ.K1=_) ()) ())
 exact Qw
theorem F.aQ {n:Nat} : ∀ {ag:af} {aP:af} {r:af},G.aQ n ag aP=some r->aZ pZ 228 [.agg (wN ag),.agg (wN aP)] (.agg (wN r)):=F.Af n
theorem F.jP {n:Nat} : ∀ {ag aP r},G.jP n ag aP=some r->aZ pZ 208 [.agg (wN ag),.agg (wN aP)] (.nV [(true,(wN r.1)),(false,[.c (.lit (.bool r.2))])]):=by
 intro ag aP r h
 refine aB K.jP (jZ ?_)
 unfold C.jP
 rcases n with _ | n<;>simp only [G.jP,reduceCtorEq] at h
 have z:=pp (pp @F.aC <| pp @F.aQ <| pp @F.iM ()) <| pp () <| pp () <| pp () <| pp () <| pp () <| ()
 exact kQ
theorem F.lD {n:Nat} : ∀ {sD bn r},G.lD n sD bn=some r->aZ pZ 172 [.agg (wN sD),.agg [wI bn.Method,wS bn.Name,wT bn.Want,wT bn.lK,wI bn.Body.Kind,wI bn.Body.Num,wS bn.Body.Text,wT bn.Body.Names,wK bn.Body.Kids,.c (.sl 8 (List.map jq.cells bn.Ops))]] (.nV [(true,(wN r.1)),(false,[.c (.lit (.bool r.2))])]):=by
 intro sD bn r h
 refine aB K.lD (jZ ?_)
 unfold C.lD
 rcases n with _ | n<;>simp only [G.lD,reduceCtorEq] at h
 have z:=pp (pp @F.jk <| pp @F.jP ()) <| pp () <| pp () <| pp () <| pp () <| pp () <| ()
 exact kQ
theorem F.gB {n:Nat} : ∀ {ai bn sD xg r},G.gB n ai bn sD xg=some r->aZ pZ 123 [.agg [.c (.sl 7 (List.map aH.cells ai.Items)),wI ai.Clock],.agg [wI bn.Method,wS bn.Name,wT bn.Want,wT bn.lK,wI bn.Body.Kind,wI bn.Body.Num,wS bn.Body.Text,wT bn.Body.Names,wK bn.Body.Kids,.c (.sl 8 (List.map jq.cells bn.Ops))],.agg (wN sD),.one (.c (.lit (.bool xg)))] (.nV [(true,[.c (.sl 7 (List.map aH.cells r.1.Items)),wI r.1.Clock]),(true,[wI r.2.Status,wS r.2.Tag,wI r.2.Version,wI r.2.Body.Kind,wI r.2.Body.Num,wS r.2.Body.Text,wT r.2.Body.Names,wK r.2.Body.Kids])]):=by
 intro ai bn sD xg r h
 refine aB K.gB (jZ ?_)
 unfold C.gB
 rcases n with _ | n<;>simp only [G.gB,reduceCtorEq] at h
 have z:=pp (pp @F.lD <| pp @F.lu <| pp @F.lG <| pp @F.aY ()) <| pp () <| pp () <| pp () <| pp () <| pp () <| ()
 exact kQ
theorem F.gU {n:Nat} : ∀ {bn r},G.gU n bn=some r->aZ pZ 117 [.agg [wI bn.Method,wS bn.Name,wT bn.Want,wT bn.lK,wI bn.Body.Kind,wI bn.Body.Num,wS bn.Body.Text,wT bn.Body.Names,wK bn.Body.Kids,.c (.sl 8 (List.map jq.cells bn.Ops))]] (.one (.c (.lit (.bool r)))):=by
 intro bn r h
 refine aB K.gU (jZ ?_)
 unfold C.gU
 rcases n with _ | n<;>simp only [G.gU,reduceCtorEq] at h
 have z:=pp (pp @F.dP <| pp @F.dK <| pp @F.aC <| pp @F.aT ()) <| pp () <| pp () <| pp () <| pp () <| pp () <| ()
 exact kQ
theorem F.aX {n:Nat} : ∀ {ai bn r},G.aX n ai bn=some r->aZ pZ 66 [.agg [.c (.sl 7 (List.map aH.cells ai.Items)),wI ai.Clock],.agg [wI bn.Method,wS bn.Name,wT bn.Want,wT bn.lK,wI bn.Body.Kind,wI bn.Body.Num,wS bn.Body.Text,wT bn.Body.Names,wK bn.Body.Kids,.c (.sl 8 (List.map jq.cells bn.Ops))]] (.nV [(true,[.c (.sl 7 (List.map aH.cells r.1.Items)),wI r.1.Clock]),(true,[wI r.2.Status,wS r.2.Tag,wI r.2.Version,wI r.2.Body.Kind,wI r.2.Body.Num,wS r.2.Body.Text,wT r.2.Body.Names,wK r.2.Body.Kids])]):=by
 intro ai bn r h
 refine aB K.aX (jZ ?_)
 unfold C.aX
 rcases n with _ | n<;>simp only [G.aX,reduceCtorEq] at h
 have:=Mk.mk 1; have:=Mk.mk 2
 have z:=pp (pp @F.aK <| pp @F.gU <| pp @F.lq <| pp @F.lG <| pp @F.eX <| pp @F.aY <| pp @F.jo <| pp @F.gB ()) <| pp () <| pp () <| pp (pp (@sQ ((aH × Bool) × aS) _ (fun n x=>G.aX.K1 n ai bn x.1 x.2) r (fun x=>bZ.of [eP 2 101,eP 3 102,eP 4 103,eP 5 104,eP 6 105,(7,.v true (.one (.c (.lit (.bool true))))),eS 8 x.2] [(101,.var [.c (.sl 7 (List.map aH.cells ai.Items)),wI ai.Clock]),(102,.var [wI bn.Method,wS bn.Name,wT bn.Want,wT bn.lK,wI bn.Body.Kind,wI bn.Body.Num,wS bn.Body.Text,wT bn.Body.Names,wK bn.Body.Kids,.c (.sl 8 (List.map jq.cells bn.Ops))]),(103,.var [.iL 7,wI 0]),(104,.var [wI 0,.c (.str []),wI 0,wI 0,wI 0,.c (.str []),.iL 1,.iL 5]),(105,.var [wS x.1.1.Name,wI x.1.1.Version,wI x.1.1.Node.Kind,wI x.1.1.Node.Num,wS x.1.1.Node.Text,wT x.1.1.Node.Names,wK x.1.1.Node.Kids])])) <| pp (@sQ ((aH × Bool)) _ (fun n x=>G.aX.K2 n ai bn x) r (fun x=>bZ.of [eP 2 106,eP 3 107,eP 4 108,eP 5 109,eP 6 110,(7,.v true (.one (.c (.lit (.bool false))))),(8,.v true (.one (.c (.str [])))),(37,.v true (.one (.c (.lit (.bool false)))))] [(106,.var [.c (.sl 7 (List.map aH.cells ai.Items)),wI ai.Clock]),(107,.var [wI bn.Method,wS bn.Name,wT bn.Want,wT bn.lK,wI bn.Body.Kind,wI bn.Body.Num,wS bn.Body.Text,wT bn.Body.Names,wK bn.Body.Kids,.c (.sl 8 (List.map jq.cells bn.Ops))]),(108,.var [.iL 7,wI 0]),(109,.var [wI 0,.c (.str []),wI 0,wI 0,wI 0,.c (.str []),.iL 1,.iL 5]),(110,.var [wS x.1.Name,wI x.1.Version,wI x.1.Node.Kind,wI x.1.Node.Num,wS x.1.Node.Text,wT x.1.Node.Names,wK x.1.Node.Kids])])) ()) <| pp (pp (And.intro @G.aX.K1.eq_1 <| And.intro @G.aX.K1.eq_2 <| And.intro @G.aX.K2.eq_1 <| @G.aX.K2.eq_2) ()) <| pp (pp (@bQ [] [(101,10),(102,11),(103,12),(104,13),(105,14)] []) <| pp (@bQ [] [(106,10),(107,11),(108,12),(109,13),(110,14)] []) ()) <| pp () <| (pp (pp (rfl : @G.aX.K1=_) ()) <| pp (pp (rfl : @G.aX.K2=_) ()) ())
 exact Qw
theorem F.jQ {n:Nat} : ∀ {nY r},G.jQ n nY=some r->aZ pZ 67 [.one (wI nY)] (.one (.c (.lit (.bool r)))):=by
 intro nY r h
 refine aB K.jQ (jZ ?_)
 unfold C.jQ
 rcases n with _ | n<;>simp only [G.jQ,reduceCtorEq] at h
 have z:=pp () <| pp () <| pp () <| pp () <| pp () <| pp () <| ()
 exact kQ
theorem F.kD {n:Nat} : ∀ {ai bn r},G.kD n ai bn=some r->aZ pZ 23 [.agg [.c (.sl 7 (List.map aH.cells ai.Items)),wI ai.Clock],.agg [wI bn.Method,wS bn.Name,wT bn.Want,wT bn.lK,wI bn.Body.Kind,wI bn.Body.Num,wS bn.Body.Text,wT bn.Body.Names,wK bn.Body.Kids,.c (.sl 8 (List.map jq.cells bn.Ops))]] (.one (.c (.lit (.bool r)))):=by
 intro ai bn r h
 refine aB K.kD (jZ ?_)
 unfold C.kD
 rcases n with _ | n<;>simp only [G.kD,reduceCtorEq] at h
 have z:=pp (pp @F.aX <| pp @F.jQ ()) <| pp () <| pp () <| pp () <| pp () <| pp () <| ()
 exact kQ
theorem F.jV {n:Nat} : ∀ {ax bH r},G.jV n ax bH=some r->aZ pZ 25 [.agg [wI ax.Method,wS ax.Name,wT ax.Want,wT ax.lK,wI ax.Body.Kind,wI ax.Body.Num,wS ax.Body.Text,wT ax.Body.Names,wK ax.Body.Kids,.c (.sl 8 (List.map jq.cells ax.Ops))],.agg [wI bH.Method,wS bH.Name,wT bH.Want,wT bH.lK,wI bH.Body.Kind,wI bH.Body.Num,wS bH.Body.Text,wT bH.Body.Names,wK bH.Body.Kids,.c (.sl 8 (List.map jq.cells bH.Ops))]] (.one (.c (.lit (.bool r)))):=by
 intro ax bH r h
 refine aB K.jV (jZ ?_)
 unfold C.jV
 rcases n with _ | n<;>simp only [G.jV,reduceCtorEq] at h
 have z:=pp (pp @F.dM <| pp @F.jh <| pp @F.jv ()) <| pp () <| pp () <| pp () <| pp () <| pp () <| ()
 exact kQ
theorem F.mD {n:Nat} : ∀ {ax bH r},G.mD n ax bH=some r->aZ pZ 124 [.agg [wS ax.Name,wI ax.Version,wI ax.Node.Kind,wI ax.Node.Num,wS ax.Node.Text,wT ax.Node.Names,wK ax.Node.Kids],.agg [wS bH.Name,wI bH.Version,wI bH.Node.Kind,wI bH.Node.Num,wS bH.Node.Text,wT bH.Node.Names,wK bH.Node.Kids]] (.one (.c (.lit (.bool r)))):=by
 intro ax bH r h
 refine aB K.mD (jZ ?_)
 unfold C.mD
 rcases n with _ | n<;>simp only [G.mD,reduceCtorEq] at h
 have z:=pp (pp @F.jh ()) <| pp () <| pp () <| pp () <| pp () <| pp () <| ()
 exact kQ
theorem F.gZ {n:Nat} : ∀ {ax bH r},G.gZ n ax bH=some r->aZ pZ 68 [.one (.c (.sl 7 (List.map aH.cells ax))),.one (.c (.sl 7 (List.map aH.cells bH)))] (.one (.c (.lit (.bool r)))):=by
 intro ax bH r h
 refine aB K.gZ (jZ ?_)
 unfold C.gZ
 rcases n with _ | n<;>simp only [G.gZ,reduceCtorEq] at h
 have z:=pp (pp @F.mD ()) <| pp () <| pp (pp (@lQ (Int) _ (fun n x=>G.gZ.L1 n ax bH x) r (fun x=>bZ.of [(0,.v true (.one (.c (.sl 7 (List.map aH.cells ax))))),(1,.v true (.one (.c (.sl 7 (List.map aH.cells bH))))),eI 5 x] [])) ()) <| pp () <| pp (pp (And.intro @G.gZ.L1.eq_1 <| @G.gZ.L1.eq_2) ()) <| pp (pp (@bQ [] [] []) ()) <| ()
 exact kQ
theorem F.lM {n:Nat} : ∀ {ax bH r},G.lM n ax bH=some r->aZ pZ 24 [.agg [.c (.sl 7 (List.map aH.cells ax.Items)),wI ax.Clock],.agg [.c (.sl 7 (List.map aH.cells bH.Items)),wI bH.Clock]] (.one (.c (.lit (.bool r)))):=by
 intro ax bH r h
 refine aB K.lM (jZ ?_)
 unfold C.lM
 rcases n with _ | n<;>simp only [G.lM,reduceCtorEq] at h
 have z:=pp (pp @F.gZ ()) <| pp () <| pp () <| pp () <| pp () <| pp () <| ()
 exact kQ
theorem F.iC {n:Nat} : ∀ {ax dS r},G.iC n ax dS=some r->aZ pZ 19 [.agg [wI ax.Method,wS ax.Name,wT ax.Want,wT ax.lK,wI ax.Body.Kind,wI ax.Body.Num,wS ax.Body.Text,wT ax.Body.Names,wK ax.Body.Kids,.c (.sl 8 (List.map jq.cells ax.Ops))],.one (wI dS)] (.one (wI r)):=by
 intro ax dS r h
 refine aB K.iC (jZ ?_)
 unfold C.iC
 rcases n with _ | n<;>simp only [G.iC,reduceCtorEq] at h
 have z:=pp (pp @F.dm <| pp @F.iy <| pp @F.iR ()) <| pp () <| pp () <| pp () <| pp () <| pp () <| ()
 exact kQ
theorem F.lU {n:Nat} : ∀ {ax dS r},G.lU n ax dS=some r->aZ pZ 104 [.agg [wS ax.Name,wI ax.Version,wI ax.Node.Kind,wI ax.Node.Num,wS ax.Node.Text,wT ax.Node.Names,wK ax.Node.Kids],.one (wI dS)] (.one (wI r)):=by
 intro ax dS r h
 refine aB K.lU (jZ ?_)
 unfold C.lU
 rcases n with _ | n<;>simp only [G.lU,reduceCtorEq] at h
 have z:=pp (pp @F.iy ()) <| pp () <| pp () <| pp () <| pp () <| pp () <| ()
 exact kQ
theorem F.gz {n:Nat} : ∀ {ax dS r},G.gz n ax dS=some r->aZ pZ 61 [.one (.c (.sl 7 (List.map aH.cells ax))),.one (wI dS)] (.one (wI r)):=by
 intro ax dS r h
 refine aB K.gz (jZ ?_)
 unfold C.gz
 rcases n with _ | n<;>simp only [G.gz,reduceCtorEq] at h
 have z:=pp (pp @F.lU ()) <| pp () <| pp (pp (@lQ (Int × Int) _ (fun n x=>G.gz.L1 n ax x.1 x.2) r (fun x=>bZ.of [(0,.v true (.one (.c (.sl 7 (List.map aH.cells ax))))),eI 1 x.1,eI 5 x.2] [])) ()) <| pp () <| pp (pp (And.intro @G.gz.L1.eq_1 <| @G.gz.L1.eq_2) ()) <| pp (pp (@bQ [] [] []) ()) <| ()
 exact kQ
theorem F.lN {n:Nat} : ∀ {ax dS r},G.lN n ax dS=some r->aZ pZ 18 [.agg [.c (.sl 7 (List.map aH.cells ax.Items)),wI ax.Clock],.one (wI dS)] (.one (wI r)):=by
 intro ax dS r h
 refine aB K.lN (jZ ?_)
 unfold C.lN
 rcases n with _ | n<;>simp only [G.lN,reduceCtorEq] at h
 have z:=pp (pp @F.gz ()) <| pp () <| pp () <| pp () <| pp () <| pp () <| ()
 exact kQ
theorem F.jy {n:Nat} : ∀ {ax r},G.jy n ax=some r->aZ pZ 22 [.agg [wI ax.Method,wS ax.Name,wT ax.Want,wT ax.lK,wI ax.Body.Kind,wI ax.Body.Num,wS ax.Body.Text,wT ax.Body.Names,wK ax.Body.Kids,.c (.sl 8 (List.map jq.cells ax.Ops))]] (.agg [wI r.Method,wS r.Name,wT r.Want,wT r.lK,wI r.Body.Kind,wI r.Body.Num,wS r.Body.Text,wT r.Body.Names,wK r.Body.Kids,.c (.sl 8 (List.map jq.cells r.Ops))]):=by
 intro ax r h
 refine aB K.jy (jZ ?_)
 unfold C.jy
 rcases n with _ | n<;>simp only [G.jy,reduceCtorEq] at h
 have z:=pp (pp @F.dN <| pp @F.iD <| pp @F.iT ()) <| pp () <| pp () <| pp () <| pp () <| pp () <| ()
 exact kQ
theorem F.mF {n:Nat} : ∀ {ax r},G.mF n ax=some r->aZ pZ 116 [.agg [wS ax.Name,wI ax.Version,wI ax.Node.Kind,wI ax.Node.Num,wS ax.Node.Text,wT ax.Node.Names,wK ax.Node.Kids]] (.agg [wS r.Name,wI r.Version,wI r.Node.Kind,wI r.Node.Num,wS r.Node.Text,wT r.Node.Names,wK r.Node.Kids]):=by
 intro ax r h
 refine aB K.mF (jZ ?_)
 unfold C.mF
 rcases n with _ | n<;>simp only [G.mF,reduceCtorEq] at h
 have z:=pp (pp @F.iD ()) <| pp () <| pp () <| pp () <| pp () <| pp () <| ()
 exact kQ
theorem F.iq {n:Nat} : ∀ {ax r},G.iq n ax=some r->aZ pZ 65 [.one (.c (.sl 7 (List.map aH.cells ax)))] (.one (.c (.sl 7 (List.map aH.cells r)))):=by
 intro ax r h
 refine aB K.iq (jZ ?_)
 unfold C.iq
 rcases n with _ | n<;>simp only [G.iq,reduceCtorEq] at h
 have z:=pp (pp @F.mF ()) <| pp () <| pp (pp (@lQ (Int × List aH) _ (fun n x=>G.iq.L1 n ax x.1 x.2) r (fun x=>bZ.of [(0,.v true (.one (.c (.sl 7 (List.map aH.cells ax))))),(3,.v true (.one (.own 103 x.2.length 7))),eI 4 x.1] [(103,.dat 7 (List.map aH.cells x.2))])) ()) <| pp () <| pp (pp (And.intro @G.iq.L1.eq_1 <| @G.iq.L1.eq_2) ()) <| pp (pp (@bQ [] [(103,10)] []) <| pp (@bQ [] [(103,103)] []) ()) <| ()
 exact kQ
theorem F.kL {n:Nat} : ∀ {ax r},G.kL n ax=some r->aZ pZ 21 [.agg [.c (.sl 7 (List.map aH.cells ax.Items)),wI ax.Clock]] (.agg [.c (.sl 7 (List.map aH.cells r.Items)),wI r.Clock]):=by
 intro ax r h
 refine aB K.kL (jZ ?_)
 unfold C.kL
 rcases n with _ | n<;>simp only [G.kL,reduceCtorEq] at h
 have z:=pp (pp @F.iq ()) <| pp () <| pp () <| pp () <| pp () <| pp () <| ()
 exact kQ
theorem F.dF {n:Nat} : ∀ {ag aA r},G.dF n ag aA=some r->aZ pZ 38 [.agg (wN ag),.one (.c (.sl 8 (List.map jq.cells aA)))] (.nV [(true,(wN r.1)),(false,[.c (.lit (.bool r.2))])]):=by
 intro ag aA r h
 refine aB K.dF (jZ ?_)
 unfold C.dF
 rcases n with _ | n<;>simp only [G.dF,reduceCtorEq] at h
 have z:=pp (pp @F.bD <| pp @F.bf <| pp @F.ay <| pp @F.iH ()) <| pp () <| pp (pp (@lQ (Int × Int × Int × aS × List aS × List af) _ (fun n x=>G.dF.L1 n aA x.1 x.2.1 x.2.2.1 x.2.2.2.1 x.2.2.2.2.1 x.2.2.2.2.2) r (fun x=>bZ.of [(1,.v true (.one (.c (.sl 8 (List.map jq.cells aA))))),eP 4 105,eP 6 106,eI 7 x.1] [(105,.var zN),(106,.var [wI x.2.1,wI x.2.2.1,wS x.2.2.2.1,wT x.2.2.2.2.1,wK x.2.2.2.2.2])])) ()) <| pp () <| pp (pp (And.intro @G.dF.L1.eq_1 <| @G.dF.L1.eq_2) ()) <| pp (pp (@bQ [] [(105,11),(106,12)] []) <| pp (@bQ [] [(105,105),(106,106)] []) ()) <| ()
 exact kQ
theorem F.IU:∀ (n:Nat),∀ {ag aP r},G.dG n ag aP=some r->aZ pZ 163 [.agg (wN ag),.agg (wN aP)] (.agg (wN r)):=by
 intro n
 induction n using Nat.strongRecOn with | _ n ih =>
 intro ag aP r h
 refine aB K.dG (jZ ?_)
 unfold C.dG
 rcases n with _ | n<;>simp only [G.dG,reduceCtorEq] at h
 have z:=pp (pp ih <| pp @F.ay <| pp @F.dH <| pp @F.eU <| pp @F.jC <| pp @F.iQ ()) <| pp () <| pp (pp (@lQ (Int × Int × Int × aS × List aS × List af) _ (fun n x=>G.dG.L2 n aP x.1 x.2.1 x.2.2.1 x.2.2.2.1 x.2.2.2.2.1 x.2.2.2.2.2) r (fun x=>bZ.of [eP 3 110,eP 4 111,eP 5 112,eI 6 x.1] [(110,.var (wN aP)),(111,.var zN),(112,.var [wI x.2.1,wI x.2.2.1,wS x.2.2.2.1,wT x.2.2.2.2.1,wK x.2.2.2.2.2])])) ()) <| pp (pp (@sQ (Int × Int × aS × List aS × List af) _ (fun n x=>G.dG.K1 n aP x.1 x.2.1 x.2.2.1 x.2.2.2.1 x.2.2.2.2) r (fun x=>bZ.of [eP 3 101,eP 4 102,eP 5 103] [(101,.var (wN aP)),(102,.var zN),(103,.var [wI x.1,wI x.2.1,wS x.2.2.1,wT x.2.2.2.1,wK x.2.2.2.2])])) ()) <| pp (pp (And.intro @G.dG.K1.eq_1 <| And.intro @G.dG.K1.eq_2 <| And.intro @G.dG.L2.eq_1 <| @G.dG.L2.eq_2) ()) <| pp (pp (@bQ [] [(101,11),(102,12),(103,15)] []) <| pp (@bQ [13,14] [(101,11),(102,12),(103,15)] []) <| pp (@bQ [] [(110,101),(111,102),(112,103)] []) <| pp (@bQ [] [(110,110),(111,111),(112,112)] []) ()) <| ()
 exact kQ
theorem F.dG {n:Nat} : ∀ {ag:af} {aP:af} {r:af},G.dG n ag aP=some r->aZ pZ 163 [.agg (wN ag),.agg (wN aP)] (.agg (wN r)):=F.IU n
theorem F.jA {n:Nat} : ∀ {ag aP r},G.jA n ag aP=some r->aZ pZ 115 [.agg (wN ag),.agg (wN aP)] (.nV [(true,(wN r.1)),(false,[.c (.lit (.bool r.2))])]):=by
 intro ag aP r h
 refine aB K.jA (jZ ?_)
 unfold C.jA
 rcases n with _ | n<;>simp only [G.jA,reduceCtorEq] at h
 have z:=pp (pp @F.bD <| pp @F.dG <| pp @F.je ()) <| pp () <| pp () <| pp () <| pp () <| pp () <| ()
 exact kQ
theorem F.iG {n:Nat} : ∀ {nY r},G.iG n nY=some r->aZ pZ 110 [.one (wI nY)] (.agg [wI r.Status,wS r.Tag,wI r.Version,wI r.Body.Kind,wI r.Body.Num,wS r.Body.Text,wT r.Body.Names,wK r.Body.Kids]):=by
 intro nY r h
 refine aB K.iG (jZ ?_)
 unfold C.iG
 rcases n with _ | n<;>simp only [G.iG,reduceCtorEq] at h
 have z:=pp () <| pp () <| pp () <| pp () <| pp () <| pp () <| ()
 exact kQ
theorem F.gu {n:Nat} : ∀ {aA jS r},G.gu n aA jS=some r->aZ pZ 158 [.one (wT aA),.one (wS jS)] (.one (.c (.lit (.bool r)))):=by
 intro aA jS r h
 refine aB K.gu (jZ ?_)
 unfold C.gu
 rcases n with _ | n<;>simp only [G.gu,reduceCtorEq] at h
 have z:=pp () <| pp () <| pp (pp (@lQ (Int) _ (fun n x=>G.gu.L1 n aA jS x) r (fun x=>bZ.of [eT 0 aA,eS 1 jS,eI 5 x] [])) ()) <| pp () <| pp (pp (And.intro @G.gu.L1.eq_1 <| @G.gu.L1.eq_2) ()) <| pp (pp (@bQ [] [] []) ()) <| ()
 exact kQ
theorem F.lT {n:Nat} : ∀ {nI lF jS mG r},G.lT n nI lF jS mG=some r->aZ pZ 111 [.one (wT nI),.one (wT lF),.one (wS jS),.one (.c (.lit (.bool mG)))] (.one (wI r)):=by
 intro nI lF jS mG r h
 refine aB K.lT (jZ ?_)
 unfold C.lT
 rcases n with _ | n<;>simp only [G.lT,reduceCtorEq] at h
 have z:=pp (pp @F.gu ()) <| pp () <| pp () <| pp () <| pp () <| pp () <| ()
 exact kQ
theorem F.bC {n:Nat} : ∀ {ai r},G.bC n ai=some r->aZ pZ 109 [.agg [.c (.sl 7 (List.map aH.cells ai.Items)),wI ai.Clock]] (.agg [.c (.sl 7 (List.map aH.cells r.Items)),wI r.Clock]):=by
 intro ai r h
 refine aB K.bC (jZ ?_)
 unfold C.bC
 rcases n with _ | n<;>simp only [G.bC,reduceCtorEq] at h
 have z:=pp (pp @F.ay ()) <| pp () <| pp (pp (@lQ (Int × List aH) _ (fun n x=>G.bC.L1 n ai x.1 x.2) r (fun x=>bZ.of [eP 1 107,eP 2 108,(3,.v true (.one (.own 109 x.2.length 7))),eI 4 x.1] [(107,.var [.c (.sl 7 (List.map aH.cells ai.Items)),wI ai.Clock]),(108,.var [.iL 7,wI 0]),(109,.dat 7 (List.map aH.cells x.2))])) ()) <| pp () <| pp (pp (And.intro @G.bC.L1.eq_1 <| @G.bC.L1.eq_2) ()) <| pp (pp (@bQ [] [(107,10),(108,11),(109,12)] []) <| pp (@bQ [] [(107,107),(108,108),(109,14)] []) ()) <| ()
 exact kQ
theorem F.jM {n:Nat} : ∀ {ai aW r},G.jM n ai aW=some r->aZ pZ 114 [.agg [.c (.sl 7 (List.map aH.cells ai.Items)),wI ai.Clock],.one (wS aW)] (.agg [.c (.sl 7 (List.map aH.cells r.Items)),wI r.Clock]):=by
 intro ai aW r h
 refine aB K.jM (jZ ?_)
 unfold C.jM
 rcases n with _ | n<;>simp only [G.jM,reduceCtorEq] at h
 have z:=pp (pp @F.bC ()) <| pp () <| pp (pp (@lQ (StoreT × Int × List aH) _ (fun n x=>G.jM.L1 n ai aW x.1 x.2.1 x.2.2) r (fun x=>bZ.of [eS 1 aW,eP 2 107,eP 4 108,(5,.v true (.one (.own 109 x.2.2.length 7))),(6,.v true (.one (.c (.sl 7 (List.map aH.cells x.1.Items))))),eI 7 x.2.1] [(107,.var [.c (.sl 7 (List.map aH.cells ai.Items)),wI ai.Clock]),(108,.var [.iL 7,wI 0]),(109,.dat 7 (List.map aH.cells x.2.2))])) ()) <| pp () <| pp (pp (And.intro @G.jM.L1.eq_1 <| @G.jM.L1.eq_2) ()) <| pp (pp (@bQ [] [(107,10),(108,11),(109,12)] []) <| pp (@bQ [] [(107,107),(108,108),(109,109)] []) <| pp (@bQ [] [(107,107),(108,108),(109,14)] []) ()) <| ()
 exact kQ
theorem F.iP {n:Nat} : ∀ {ai aW r},G.iP n ai aW=some r->aZ pZ 108 [.agg [.c (.sl 7 (List.map aH.cells ai.Items)),wI ai.Clock],.one (wS aW)] (.one (wI r)):=by
 intro ai aW r h
 refine aB K.iP (jZ ?_)
 unfold C.iP
 rcases n with _ | n<;>simp only [G.iP,reduceCtorEq] at h
 have z:=pp () <| pp () <| pp (pp (@lQ (Int) _ (fun n x=>G.iP.L1 n ai aW x) r (fun x=>bZ.of [eS 1 aW,eP 2 103,eI 5 x] [(103,.var [.c (.sl 7 (List.map aH.cells ai.Items)),wI ai.Clock])])) ()) <| pp () <| pp (pp (And.intro @G.iP.L1.eq_1 <| @G.iP.L1.eq_2) ()) <| pp (pp (@bQ [] [(103,10)] []) <| pp (@bQ [] [(103,103)] []) ()) <| ()
 exact kQ
theorem F.gJ {n:Nat} : ∀ {ai r},G.gJ n ai=some r->aZ pZ 200 [.one (wS ai)] (.one (wS r)):=by
 intro ai r h
 refine aB K.gJ (jZ ?_)
 unfold C.gJ
 rcases n with _ | n<;>simp only [G.gJ,reduceCtorEq] at h
 have z:=pp () <| pp () <| pp (pp (@lQ (aS × Int) _ (fun n x=>G.gJ.L1 n ai x.1 x.2) r (fun x=>bZ.of [eS 0 ai,eS 3 x.1,eI 4 x.2] [])) ()) <| pp () <| pp (pp (And.intro @G.gJ.L1.eq_1 <| @G.gJ.L1.eq_2) ()) <| pp (pp (@bQ [] [] []) ()) <| ()
 exact kQ
theorem F.FX:∀ (n:Nat),∀ {ag r},G.bM n ag=some r->aZ pZ 161 [.agg (wN ag)] (.one (wS r)):=by
 intro n
 induction n using Nat.strongRecOn with | _ n ih =>
 intro ag r h
 refine aB K.bM (jZ ?_)
 unfold C.bM
 rcases n with _ | n<;>simp only [G.bM,reduceCtorEq] at h
 have:=Mk.mk 1; have:=Mk.mk 2
 have z:=pp (pp ih <| pp @F.fG <| pp @F.gJ ()) <| pp () <| pp (pp (@lQ (aS × Int) _ (fun n x=>G.bM.L5 n ag x.1 x.2) r (fun x=>bZ.of [eP 1 107,eS 3 x.1,eI 4 x.2] [(107,.var (wN ag))])) ()) <| pp (pp (@sQ (Int × aS) _ (fun n x=>G.bM.K6 n ag x.1 x.2) r (fun x=>bZ.of [eP 1 108,eS 3 x.2,eI 4 x.1] [(108,.var (wN ag))])) <| pp (@sQ (Int × aS) _ (fun n x=>G.bM.K7 n ag x.1 x.2) r (fun x=>bZ.of [eP 1 109,eS 3 x.2,eI 4 x.1] [(109,.var (wN ag))])) ()) <| pp (pp (And.intro @G.bM.L5.eq_1 <| And.intro @G.bM.L5.eq_2 <| And.intro @G.bM.K6.eq_1 <| And.intro @G.bM.K6.eq_2 <| And.intro @G.bM.K7.eq_1 <| @G.bM.K7.eq_2) ()) <| pp (pp (@bQ [] [(107,10)] []) <| pp (@bQ [] [(108,107)] []) <| pp (@bQ [] [(109,108)] []) <| pp (@bQ [] [(107,109)] []) ()) <| pp () <| (pp (pp (rfl : @G.bM.K6=_) <| pp (rfl : @G.bM.L5=_) <| pp (rfl : @G.bM.K7=_) ()) <| pp (pp (rfl : @G.bM.K7=_) <| pp (rfl : @G.bM.K6=_) <| pp (rfl : @G.bM.L5=_) ()) ())
 exact Qw
theorem F.bM {n:Nat} : ∀ {ag:af} {r:aS},G.bM n ag=some r->aZ pZ 161 [.agg (wN ag)] (.one (wS r)):=F.FX n
theorem F.ou {n:Nat} : ∀ {ag r},G.ou n ag=some r->aZ pZ 159 [.one (wI ag)] (.one (wS r)):=by
 intro ag r h
 refine aB K.ou (jZ ?_)
 unfold C.ou
 rcases n with _ | n<;>simp only [G.ou,reduceCtorEq] at h
 have z:=pp () <| pp () <| pp () <| pp () <| pp () <| pp () <| ()
 exact kQ
theorem F.jB {n:Nat} : ∀ {ai r},G.jB n ai=some r->aZ pZ 160 [.one (wS ai)] (.one (wI r)):=by
 intro ai r h
 refine aB K.jB (jZ ?_)
 unfold C.jB
 rcases n with _ | n<;>simp only [G.jB,reduceCtorEq] at h
 have z:=pp () <| pp () <| pp (pp (@lQ (Int × Int) _ (fun n x=>G.jB.L1 n ai x.1 x.2) r (fun x=>bZ.of [eS 0 ai,eI 3 x.1,eI 4 x.2] [])) ()) <| pp () <| pp (pp (And.intro @G.jB.L1.eq_1 <| @G.jB.L1.eq_2) ()) <| pp (pp (@bQ [] [] []) ()) <| ()
 exact kQ
theorem F.jW {n:Nat} : ∀ {ai aW r},G.jW n ai aW=some r->aZ pZ 112 [.agg [.c (.sl 7 (List.map aH.cells ai.Items)),wI ai.Clock],.one (wS aW)] (.one (wS r)):=by
 intro ai aW r h
 refine aB K.jW (jZ ?_)
 unfold C.jW
 rcases n with _ | n<;>simp only [G.jW,reduceCtorEq] at h
 have z:=pp (pp @F.iP <| pp @F.bM <| pp @F.jB <| pp @F.ou ()) <| pp () <| pp () <| pp () <| pp () <| pp () <| ()
 exact kQ
theorem F.fO {n:Nat} : ∀ {ai aW ag r},G.fO n ai aW ag=some r->aZ pZ 162 [.agg [.c (.sl 7 (List.map aH.cells ai.Items)),wI ai.Clock],.one (wS aW),.agg (wN ag)] (.agg [.c (.sl 7 (List.map aH.cells r.Items)),wI r.Clock]):=by
 intro ai aW ag r h
 refine aB K.fO (jZ ?_)
 unfold C.fO
 rcases n with _ | n<;>simp only [G.fO,reduceCtorEq] at h
 have z:=pp (pp @F.ay <| pp @F.bC ()) <| pp () <| pp (pp (@lQ (af × StoreT × Bool × Int × List aH) _ (fun n x=>G.fO.L3 n ai aW x.1 x.2.1 x.2.2.1 x.2.2.2.1 x.2.2.2.2) r (fun x=>bZ.of [eS 1 aW,eP 3 117,eP 6 118,(7,.v true (.one (.own 119 x.2.2.2.2.length 7))),eP 8 120,(9,.v true (.one (.c (.sl 7 (List.map aH.cells x.2.1.Items))))),(10,.v true (.one (.c (.lit (.bool x.2.2.1))))),eI 11 x.2.2.2.1] [(117,.var [.c (.sl 7 (List.map aH.cells ai.Items)),wI ai.Clock]),(118,.var [.iL 7,wI 0]),(119,.dat 7 (List.map aH.cells x.2.2.2.2)),(120,.var [wS aW,wI (IntKind.wrap .i64 (ai.Clock+1)),wI x.1.Kind,wI x.1.Num,wS x.1.Text,wT x.1.Names,wK x.1.Kids])])) ()) <| pp (pp (@sQ (af × StoreT × Int × Bool × List aH) _ (fun n x=>G.fO.K4 n ai aW x.1 x.2.1 x.2.2.1 x.2.2.2.1 x.2.2.2.2) r (fun x=>bZ.of [eS 1 aW,eP 3 121,eP 6 122,(7,.v true (.one (.own 123 x.2.2.2.2.length 7))),eP 8 124,(9,.v true (.one (.c (.sl 7 (List.map aH.cells x.2.1.Items))))),(10,.v true (.one (.c (.lit (.bool x.2.2.2.1))))),eI 11 x.2.2.1] [(121,.var [.c (.sl 7 (List.map aH.cells ai.Items)),wI ai.Clock]),(122,.var [.iL 7,wI 0]),(123,.dat 7 (List.map aH.cells x.2.2.2.2)),(124,.var [wS aW,wI (IntKind.wrap .i64 (ai.Clock+1)),wI x.1.Kind,wI x.1.Num,wS x.1.Text,wT x.1.Names,wK x.1.Kids])])) ()) <| pp (pp (And.intro @G.fO.L3.eq_1 <| And.intro @G.fO.L3.eq_2 <| And.intro @G.fO.K4.eq_1 <| @G.fO.K4.eq_2) ()) <| pp (pp (@bQ [] [(117,10),(118,12),(119,13),(120,14)] []) <| pp (@bQ [] [(121,117),(122,118),(123,119),(124,120)] []) <| pp (@bQ [] [(121,117),(122,118),(123,16),(124,120)] []) <| pp (@bQ [] [(117,121),(118,122),(119,123),(120,124)] []) <| pp (@bQ [] [(117,121),(118,122),(119,18),(120,124)] []) ()) <| ()
 exact kQ
theorem F.cZ {n:Nat} : ∀ {ai r},G.cZ n ai=some r->aZ pZ 105 [.one (wS ai)] (.one (.c (.lit (.bool r)))):=by
 intro ai r h
 refine aB K.cZ (jZ ?_)
 unfold C.cZ
 rcases n with _ | n<;>simp only [G.cZ,reduceCtorEq] at h
 have z:=pp (pp @F.bK ()) <| pp () <| pp (pp (@lQ (Int) _ (fun n x=>G.cZ.L1 n ai x) r (fun x=>bZ.of [eS 0 ai,eI 3 x] [])) ()) <| pp () <| pp (pp (And.intro @G.cZ.L1.eq_1 <| @G.cZ.L1.eq_2) ()) <| pp (pp (@bQ [] [] []) ()) <| ()
 exact kQ
theorem F.bz {n:Nat} : ∀ {ai r},G.bz n ai=some r->aZ pZ 62 [.agg [.c (.sl 7 (List.map aH.cells ai.Items)),wI ai.Clock]] (.one (.c (.lit (.bool r)))):=by
 intro ai r h
 refine aB K.bz (jZ ?_)
 unfold C.bz
 rcases n with _ | n<;>simp only [G.bz,reduceCtorEq] at h
 have z:=pp (pp @F.cZ <| pp @F.bD <| pp @F.bK ()) <| pp () <| pp (pp (@lQ (Int) _ (fun n x=>G.bz.L1 n ai x) r (fun x=>bZ.of [eP 1 103,eI 3 x] [(103,.var [.c (.sl 7 (List.map aH.cells ai.Items)),wI ai.Clock])])) ()) <| pp () <| pp (pp (And.intro @G.bz.L1.eq_1 <| @G.bz.L1.eq_2) ()) <| pp (pp (@bQ [] [(103,10)] []) <| pp (@bQ [] [(103,103)] []) ()) <| ()
 exact kQ
theorem F.fK {n:Nat} : ∀ {ai aW ag r},G.fK n ai aW ag=some r->aZ pZ 113 [.agg [.c (.sl 7 (List.map aH.cells ai.Items)),wI ai.Clock],.one (wS aW),.agg (wN ag)] (.nV [(true,[.c (.sl 7 (List.map aH.cells r.1.Items)),wI r.1.Clock]),(true,[wI r.2.Status,wS r.2.Tag,wI r.2.Version,wI r.2.Body.Kind,wI r.2.Body.Num,wS r.2.Body.Text,wT r.2.Body.Names,wK r.2.Body.Kids])]):=by
 intro ai aW ag r h
 refine aB K.fK (jZ ?_)
 unfold C.fK
 rcases n with _ | n<;>simp only [G.fK,reduceCtorEq] at h
 have z:=pp (pp @F.iP <| pp @F.fO <| pp @F.bz <| pp @F.jW <| pp @F.bC <| pp @F.iG ()) <| pp () <| pp () <| pp (pp (@sQ (Int) _ (fun n x=>G.fK.K1 n ai aW ag x) r (fun x=>bZ.of [eS 1 aW,eP 3 101,eP 5 102,eP 6 103,eP 7 104,eI 8 x] [(101,.var [.c (.sl 7 (List.map aH.cells ai.Items)),wI ai.Clock]),(102,.var (wN ag)),(103,.var [.iL 7,wI 0]),(104,.var [wI 0,.c (.str []),wI 0,wI 0,wI 0,.c (.str []),.iL 1,.iL 5])])) ()) <| pp (pp (And.intro @G.fK.K1.eq_1 <| @G.fK.K1.eq_2) ()) <| pp (pp (@bQ [] [(101,10),(102,11),(103,12),(104,13)] []) ()) <| ()
 exact kQ
theorem F.eG {n:Nat} : ∀ {ai bn r},G.eG n ai bn=some r->aZ pZ 64 [.agg [.c (.sl 7 (List.map aH.cells ai.Items)),wI ai.Clock],.agg [wI bn.Method,wS bn.Name,wT bn.Want,wT bn.lK,wI bn.Body.Kind,wI bn.Body.Num,wS bn.Body.Text,wT bn.Body.Names,wK bn.Body.Kids,.c (.sl 8 (List.map jq.cells bn.Ops))]] (.nV [(true,[.c (.sl 7 (List.map aH.cells r.1.Items)),wI r.1.Clock]),(true,[wI r.2.Status,wS r.2.Tag,wI r.2.Version,wI r.2.Body.Kind,wI r.2.Body.Num,wS r.2.Body.Text,wT r.2.Body.Names,wK r.2.Body.Kids])]):=by
 intro ai bn r h
 refine aB K.eG (jZ ?_)
 unfold C.eG
 rcases n with _ | n<;>simp only [G.eG,reduceCtorEq] at h
 have:=Mk.mk 1; have:=Mk.mk 2
 have z:=pp (pp @F.iP <| pp @F.bC <| pp @F.iG <| pp @F.jW <| pp @F.lT <| pp @F.ay <| pp @F.fK <| pp @F.jM <| pp @F.dF <| pp @F.jA ()) <| pp () <| pp () <| pp (pp (@sQ (Bool × Int × Int × aS × List aS × List af) _ (fun n x=>G.eG.K1 n ai bn x.1 x.2.1 x.2.2.1 x.2.2.2.1 x.2.2.2.2.1 x.2.2.2.2.2) r (fun x=>bZ.of [eP 2 101,eP 3 102,eP 4 103,eP 5 104,eP 8 105,(9,.v true (.one (.c (.lit (.bool x.1)))))] [(101,.var [.c (.sl 7 (List.map aH.cells ai.Items)),wI ai.Clock]),(102,.var [wI bn.Method,wS bn.Name,wT bn.Want,wT bn.lK,wI bn.Body.Kind,wI bn.Body.Num,wS bn.Body.Text,wT bn.Body.Names,wK bn.Body.Kids,.c (.sl 8 (List.map jq.cells bn.Ops))]),(103,.var [.iL 7,wI 0]),(104,.var [wI 0,.c (.str []),wI 0,wI 0,wI 0,.c (.str []),.iL 1,.iL 5]),(105,.var [wI x.2.1,wI x.2.2.1,wS x.2.2.2.1,wT x.2.2.2.2.1,wK x.2.2.2.2.2])])) <| pp (@sQ (Bool × Int × Int × aS × List aS × List af) _ (fun n x=>G.eG.K2 n ai bn x.1 x.2.1 x.2.2.1 x.2.2.2.1 x.2.2.2.2.1 x.2.2.2.2.2) r (fun x=>bZ.of [eP 2 106,eP 3 107,eP 4 108,eP 5 109,eP 8 110,(9,.v true (.one (.c (.lit (.bool x.1)))))] [(106,.var [.c (.sl 7 (List.map aH.cells ai.Items)),wI ai.Clock]),(107,.var [wI bn.Method,wS bn.Name,wT bn.Want,wT bn.lK,wI bn.Body.Kind,wI bn.Body.Num,wS bn.Body.Text,wT bn.Body.Names,wK bn.Body.Kids,.c (.sl 8 (List.map jq.cells bn.Ops))]),(108,.var [.iL 7,wI 0]),(109,.var [wI 0,.c (.str []),wI 0,wI 0,wI 0,.c (.str []),.iL 1,.iL 5]),(110,.var [wI x.2.1,wI x.2.2.1,wS x.2.2.2.1,wT x.2.2.2.2.1,wK x.2.2.2.2.2])])) ()) <| pp (pp (And.intro @G.eG.K1.eq_1 <| And.intro @G.eG.K1.eq_2 <| And.intro @G.eG.K2.eq_1 <| @G.eG.K2.eq_2) ()) <| pp (pp (@bQ [] [(101,10),(102,11),(103,12),(104,13),(105,14)] []) <| pp (@bQ [] [(106,10),(107,11),(108,12),(109,13),(110,14)] []) ()) <| pp () <| (pp (pp (rfl : @G.eG.K1=_) ()) <| pp (pp (rfl : @G.eG.K2=_) ()) ())
 exact Qw
theorem F.fE {n:Nat} : ∀ {ai r},G.fE n ai=some r->aZ pZ 157 [.one (wS ai)] (.one (.c (.lit (.bool r)))):=by
 intro ai r h
 refine aB K.fE (jZ ?_)
 unfold C.fE
 rcases n with _ | n<;>simp only [G.fE,reduceCtorEq] at h
 have z:=pp (pp @F.bK ()) <| pp () <| pp (pp (@lQ (Int) _ (fun n x=>G.fE.L1 n ai x) r (fun x=>bZ.of [eS 0 ai,eI 3 x] [])) ()) <| pp () <| pp (pp (And.intro @G.fE.L1.eq_1 <| @G.fE.L1.eq_2) ()) <| pp (pp (@bQ [] [] []) ()) <| ()
 exact kQ
theorem F.dR {n:Nat} : ∀ {aA r},G.dR n aA=some r->aZ pZ 107 [.one (wT aA)] (.one (.c (.lit (.bool r)))):=by
 intro aA r h
 refine aB K.dR (jZ ?_)
 unfold C.dR
 rcases n with _ | n<;>simp only [G.dR,reduceCtorEq] at h
 have z:=pp (pp @F.fE ()) <| pp () <| pp (pp (@lQ (Int) _ (fun n x=>G.dR.L1 n aA x) r (fun x=>bZ.of [eT 0 aA,eI 3 x] [])) ()) <| pp () <| pp (pp (And.intro @G.dR.L1.eq_1 <| @G.dR.L1.eq_2) ()) <| pp (pp (@bQ [] [] []) ()) <| ()
 exact kQ
theorem F.gV {n:Nat} : ∀ {bn r},G.gV n bn=some r->aZ pZ 63 [.agg [wI bn.Method,wS bn.Name,wT bn.Want,wT bn.lK,wI bn.Body.Kind,wI bn.Body.Num,wS bn.Body.Text,wT bn.Body.Names,wK bn.Body.Kids,.c (.sl 8 (List.map jq.cells bn.Ops))]] (.one (.c (.lit (.bool r)))):=by
 intro bn r h
 refine aB K.gV (jZ ?_)
 unfold C.gV
 rcases n with _ | n<;>simp only [G.gV,reduceCtorEq] at h
 have z:=pp (pp @F.bK <| pp @F.cZ <| pp @F.dR <| pp @F.bD <| pp @F.bf ()) <| pp () <| pp () <| pp () <| pp () <| pp () <| ()
 exact kQ
theorem F.kG {n:Nat} : ∀ {ai bn r},G.kG n ai bn=some r->aZ pZ 20 [.agg [.c (.sl 7 (List.map aH.cells ai.Items)),wI ai.Clock],.agg [wI bn.Method,wS bn.Name,wT bn.Want,wT bn.lK,wI bn.Body.Kind,wI bn.Body.Num,wS bn.Body.Text,wT bn.Body.Names,wK bn.Body.Kids,.c (.sl 8 (List.map jq.cells bn.Ops))]] (.one (.c (.lit (.bool r)))):=by
 intro ai bn r h
 refine aB K.kG (jZ ?_)
 unfold C.kG
 rcases n with _ | n<;>simp only [G.kG,reduceCtorEq] at h
 have z:=pp (pp @F.bz <| pp @F.gV <| pp @F.eG ()) <| pp () <| pp () <| pp () <| pp () <| pp () <| ()
 exact kQ
theorem F.fU {n:Nat} : ∀ {yE rO r},G.fU n yE rO=some r->aZ pZ 4 [.agg [.c (.sl 7 (List.map aH.cells yE.Items)),wI yE.Clock],.agg [wI rO.Method,wS rO.Name,wT rO.Want,wT rO.lK,wI rO.Body.Kind,wI rO.Body.Num,wS rO.Body.Text,wT rO.Body.Names,wK rO.Body.Kids,.c (.sl 8 (List.map jq.cells rO.Ops))]] (.one (.c (.lit (.bool r)))):=by
 intro yE rO r h
 refine aB K.fU (jZ ?_)
 unfold C.fU
 rcases n with _ | n<;>simp only [G.fU,reduceCtorEq] at h
 have z:=pp (pp @F.lN <| pp @F.iC <| pp @F.kL <| pp @F.jy <| pp @F.kG <| pp @F.kD <| pp @F.lM <| pp @F.jV ()) <| pp () <| pp () <| pp () <| pp () <| pp () <| ()
 exact kQ
end Go.Ab
end
section
namespace Go.Ab
open Go
set_option maxRecDepth 100000
variable {P:Program} {W:World} {H:Type} {enc:TypeId × Value->H}
structure KR (P:Program) (tI tS tL tN tK tD tE tT:TypeId):Prop where
 nt:zC P tI tS tL tN tK
 d:∃ fs,P.underlying tD=some (.struct fs)/\fs.toList.map (fun f=>(f.type,f.offset))=[(tS,0),(tI,1),(tN,2)]
 e:P.underlying tE=some (.slice tD)
 t:∃ fs,P.underlying tT=some (.struct fs)/\fs.toList.map (fun f=>(f.type,f.offset))=[(tE,0),(tI,1)]
 cd:P.cellsOf tD=7
 ce:P.cellsOf tE=1
 ct:P.cellsOf tT=2
theorem Qg {f:Nat} {cs:List Value} {fs:Array Field} {l:List (TypeId × Nat)} (hl:fs.toList.map (fun f=>(f.type,f.offset))=l)
  (hx:∀ (k:Nat) x,fs.toList[k]? = some x->∃ d' p',DataW.trod enc P W 0 (fun _=>true) true f x.type ((cs.drop x.offset).take (P.cellsOf x.type))=some (d',p')) :
  ∀ (k:Nat) (ty:TypeId) (off:Nat),l[k]? = some (ty,off)->∃ d' p',wV enc P W f ty ((cs.drop off).take (P.cellsOf ty))=some (d',p'):=fun k ty off hk=>by
 rw [<- hl,List.getElem?_map] at hk
 obtain ⟨x,hx1,hx2⟩:=Option.map_eq_some_iff.1 hk
 cases hx2
 exact hx k x hx1
theorem Pe {tI tS tL tN tK tD tE tT:TypeId} (T:KR P tI tS tL tN tK tD tE tT) {fuel:Nat} {cs:List Value} {d:DataW H} {ps:List MemPlace} (h:wV enc P W fuel tD cs=some (d,ps)):∃ o:aH,Bd (I0 W) cs (aH.cells o)/\cs.length=7/\GH mx fuel o:=by
 obtain ⟨fs,hfs,hl⟩:=T.d
 obtain ⟨f,rfl,h7,hx⟩:=trod_struct hfs h
 rw [T.cd] at h7
 have at_:=Qg hl hx
 obtain ⟨d0,p0,h0⟩:=at_ 0 tS 0 rfl
 obtain ⟨d1,p1,h1⟩:=at_ 1 tI 1 rfl
 obtain ⟨d2,p2,h2⟩:=at_ 2 tN 2 rfl
 rw [T.nt.cs,part (by omega)] at h0
 rw [T.nt.ci,part (by omega)] at h1
 obtain ⟨z0,r0,m0⟩:=AB T.nt.s h0
 obtain ⟨z1,r1,_⟩:=vI T.nt.i h1
 obtain ⟨n,r2,_,q2⟩:=yj T.nt f h2
 have hM:=Rq
 rw [af.dZ,T.nt.cn] at r2
 refine ⟨aH.mk z0 z1 n,?_,h7,Nat.le_trans m0 hM,q2.mono (Nat.le_refl _) (by omega)⟩
 have ec:cs=[cs[0]]++([cs[1]]++(cs.drop 2).take 5):=by
  match cs,h7 with
  | [a,b,c,d,e,f,g],_=>rfl
 rw [ec]
 exact r0.app (r1.app r2)
theorem MI {tI tS tL tN tK tD tE tT:TypeId} (T:KR P tI tS tL tN tK tD tE tT) {fuel:Nat} {cs:List Value} {d:DataW H} {ps:List MemPlace} (h:wV enc P W fuel tT cs=some (d,ps)) :
  ∃ s:StoreT,Bd (I0 W) cs [.sl 7 (s.Items.map aH.cells),.lit (.int .i64 s.Clock)]/\cs.length=2/\s.Items.length<=mx/\∃ D,∀ o,o∈s.Items->GH mx D o:=by
 obtain ⟨fs,hfs,hl⟩:=T.t
 obtain ⟨f,rfl,h2,hx⟩:=trod_struct hfs h
 rw [T.ct] at h2
 have at_:=Qg hl hx
 obtain ⟨d0,p0,h0⟩:=at_ 0 tE 0 rfl
 obtain ⟨d1,p1,h1⟩:=at_ 1 tI 1 rfl
 rw [T.ce,part (by omega)] at h0
 rw [T.nt.ci,part (by omega)] at h1
 obtain ⟨z0,v0,e0,r0,m0,q0⟩:=wo (cells:=aH.cells) (Q:=fun n=>GH mx f n) T.e T.cd (fun f' ecs d p _ hh=>(Pe T hh).imp fun n hn=>⟨hn.1,hn.2.2.1,hn.2.2.2.mono (Nat.le_refl _) (by omega)⟩) h0
 obtain ⟨z1,r1,_⟩:=vI T.nt.i h1
 refine ⟨StoreT.mk z0 z1,?_,h2,Nat.le_trans m0 Rq,f,q0⟩
 have ec:cs=[cs[0]]++[cs[1]]:=by
  match cs,h2 with
  | [a,b],_=>rfl
 rw [ec]
 have e0':cs[0]=v0:=by simpa using e0
 exact (e0' ▸ Bd.one r0).app r1
structure P9 (P:Program) (tI tS tL tN tK tO tP tR:TypeId):Prop where
 ot:Ja P tI tS tL tN tK tO tP
 r:∃ fs,P.underlying tR=some (.struct fs)/\fs.toList.map (fun f=>(f.type,f.offset))=[(tI,0),(tS,1),(tL,2),(tL,3),(tN,4),(tP,9)]
 cr:P.cellsOf tR=10
theorem IC {tI tS tL tN tK tO tP tR:TypeId} (T:P9 P tI tS tL tN tK tO tP tR) {fuel:Nat} {cs:List Value} {d:DataW H} {ps:List MemPlace} (h:wV enc P W fuel tR cs=some (d,ps)) :
  ∃ q:RequestT,Bd (I0 W) cs [.lit (.int .i64 q.Method),.str q.Name,.sl 1 (q.Want.map cS),.sl 1 (q.lK.map cS),.lit (.int .i64 q.Body.Kind),.lit (.int .i64 q.Body.Num),.str q.Body.Text,.sl 1 (q.Body.Names.map cS),.sl 5 (q.Body.Kids.map af.cells),.sl 8 (q.Ops.map jq.cells)]/\cs.length=10/\∃ D,U7 D q:=by
 obtain ⟨fs,hfs,hl⟩:=T.r
 obtain ⟨f,rfl,h10,hx⟩:=trod_struct hfs h
 rw [T.cr] at h10
 have N:=T.ot.nt
 have at_:=Qg hl hx
 obtain ⟨d0,p0,h0⟩:=at_ 0 tI 0 rfl
 obtain ⟨d1,p1,h1⟩:=at_ 1 tS 1 rfl
 obtain ⟨d2,p2,h2⟩:=at_ 2 tL 2 rfl
 obtain ⟨d3,p3,h3⟩:=at_ 3 tL 3 rfl
 obtain ⟨d4,p4,h4⟩:=at_ 4 tN 4 rfl
 obtain ⟨d5,p5,h5⟩:=at_ 5 tP 9 rfl
 rw [N.ci,part (by omega)] at h0
 rw [N.cs,part (by omega)] at h1
 rw [N.cl,part (by omega)] at h2 h3
 rw [T.ot.cp,part (by omega)] at h5
 obtain ⟨z0,r0,_⟩:=vI N.i h0
 obtain ⟨z1,r1,m1⟩:=AB N.s h1
 obtain ⟨z2,r2,m2,q2⟩:=vJ N.l N.s N.cs h2
 obtain ⟨z3,r3,m3,q3⟩:=vJ N.l N.s N.cs h3
 obtain ⟨n,r4,_,q4⟩:=yj N f h4
 obtain ⟨z5,v5,e5,r5,m5,q5⟩:=J7 T.ot h5
 have hM:=Rq
 obtain ⟨D,hD,hO⟩:=rH.all f q5
 rw [af.dZ,N.cn] at r4
 refine ⟨RequestT.mk z0 z1 z2 z3 n z5,?_,h10,D,Nat.le_trans m1 hM,⟨Nat.le_trans m2 hM,fun s hs=>Nat.le_trans (q2 s hs) hM⟩,⟨Nat.le_trans m3 hM,fun s hs=>Nat.le_trans (q3 s hs) hM⟩,q4.mono (Nat.le_refl _) hD,Nat.le_trans m5 hM,hO⟩
 have ec:cs=[cs[0]]++([cs[1]]++([cs[2]]++([cs[3]]++((cs.drop 4).take 5++[cs[9]])))):=by
  match cs,h10 with
  | [a,b,c,d,e,f,g,h,i,j],_=>rfl
 rw [ec]
 have e5':cs[9]=v5:=by simpa using e5
 exact r0.app (r1.app (r2.app (r3.app (r4.app (e5' ▸ Bd.one r5)))))
end Go.Ab
end
section
namespace Go.Proofs.YtoijiephcflchaaGreatDoor.fnExactSucceeds
open Go Go.ChangeShapes Go.WideShapes Go.ChangeAt Go.RowKit Go.Ab
set_option maxRecDepth 100000
theorem own:ownKnob Tryz.prog.godebug=none:=by kernel_rfl
theorem laidOut:laidOutB Tryz.prog=true:=by kernel_rfl
theorem WM:zC Tryz.prog 3 9 22 25 23:=⟨by kernel_rfl,by kernel_rfl,by kernel_rfl,by kernel_rfl,⟨_,Tryz.underlying25,by kernel_rfl⟩,by kernel_rfl,by kernel_rfl,by kernel_rfl,by kernel_rfl,by kernel_rfl⟩
theorem Xv:Ja Tryz.prog 3 9 22 25 23 58 26:=⟨WM,by kernel_rfl,⟨_,Tryz.underlying58,by kernel_rfl⟩,by kernel_rfl,by kernel_rfl⟩
theorem Ye:KR Tryz.prog 3 9 22 25 23 131 39 41:=⟨WM,⟨_,Tryz.underlying131,by kernel_rfl⟩,by kernel_rfl,⟨_,Tryz.underlying41,by kernel_rfl⟩,by kernel_rfl,by kernel_rfl,by kernel_rfl⟩
theorem Yd:P9 Tryz.prog 3 9 22 25 23 58 26 43:=⟨Xv,⟨_,Tryz.underlying43,by kernel_rfl⟩,by kernel_rfl⟩
theorem met {W:World} (h:laidMetH Tryz.prog Rows.fnExactSucceedsRow.laid W):laidMet Tryz.prog Rows.fnExactSucceedsRow.laid W:=by
 unfold laidMetH at h
 rw [show (Rows.fnExactSucceedsRow.laid.filter fun x=>x.2.handleName?.isSome)=[] from by kernel_rfl] at h
 exact h
theorem tabs {W:World} (hL:laidMetH Tryz.prog Rows.fnExactSucceedsRow.laid W):Tabs Tryz.prog (I0 W):=by
 have h:=BP 2 (met hL)
 rw [show Rows.fnExactSucceedsRow.laid.drop 2=("internal/strconv.uint64pow10",Lib.tabData .u64 Lib.pow10Tab)::Rows.fnExactSucceedsRow.laid.drop 3 from by kernel_rfl] at h
 exact NI (g:=1) (t:=240) (e:=192) (by kernel_rfl) (by kernel_rfl) (by kernel_rfl) (by kernel_rfl) (by kernel_rfl) (by kernel_rfl) h
theorem contract (H:Type) (enc:TypeId × Value->H) (W:World) (base:Nat) (args:Array Value) (ds gs:List (DataW H)) (before:List MemPlace)
  (hval:∀ (j:Nat) t v,Tryz.f4.params[j]? = some t->args[j]? = some v->Value.okWide Tryz.prog W .any base t v)
  (hW:DataW.Whole enc Tryz.prog Tryz.f4.params.toList Rows.fnExactSucceedsSpec.vars false W args.toList ds gs before)
  (hL:laidMetH Tryz.prog Rows.fnExactSucceedsRow.laid W) :
  Calls Tryz.prog 4 args W fun e W'=>∃ v,e = .returned v/\Rows.fnExactSucceedsSpec.post enc Tryz.prog Tryz.f4 false true false false W args v W':=by
 have hW':=hW
 obtain ⟨p,q,hA0,hV,rfl,hfz,hnd⟩:=hW
 have hA:DataW.TrodAll enc Tryz.prog W 0 (fun _=>true) true Tryz.f4.params.toList args.toList ds p:=hA0
 rw [Tryz.params4] at hA hval
 obtain ⟨v0,Yf,d0,ds0,p0,q0,hargs,rfl,rfl,h0,r0⟩:=trodAll_cons hA
 obtain ⟨v1,vs1,d1,ds1,p1,q1,rfl,rfl,rfl,h1,r1⟩:=trodAll_cons r0
 obtain ⟨rfl,rfl,rfl⟩:=trodAll_nil r1
 obtain rfl:args = #[v0,v1]:=by cases args; simp_all
 obtain ⟨rfl,rfl⟩:=trodVars_none hV
 clear hA0
 simp only [List.append_nil] at hW'
 have hlt:∀ x∈(p0++p1),x.block<W.heap.size:=fun x hx=>hW'.lt x (by simpa using hx)
 obtain ⟨c0,rfl,_⟩:=okWide_struct Tryz.underlying41 (hval 0 41 v0 rfl rfl)
 have hk0:=h0
 obtain ⟨f0,g0⟩:=h0
 obtain ⟨x0,e0,_,m0,D0,n0⟩:=MI Ye g0
 obtain ⟨c1,rfl,_⟩:=okWide_struct Tryz.underlying43 (hval 1 43 v1 rfl rfl)
 have hk1:=h1
 obtain ⟨f1,g1⟩:=h1
 obtain ⟨x1,e1,_,D1,m1⟩:=IC Yd g1
 obtain ⟨n,hn⟩:=(T.Ah m0 n0 m1).val
 have key:=Q4 (tabs hL) (Nu (IB e0) (IB e1)) (F.fU hn)
 refine Calls.mono key fun e W' ⟨he,hb⟩ => ?_
 subst he
 have ht:DataW.TrodAll enc Tryz.prog W' 0 (fun b=>decide (b<W.heap.size)) true [41,43] [_,_] [d0,d1] (p0++(p1++[])):=trodAll_cons_mk (Below.trod laidOut (by kernel_rfl) (of_decide_eq_true (by kernel_rfl)) hk0 hb (fun x hx=>hlt x (List.mem_append_left _ hx))) (trodAll_cons_mk (Below.trod laidOut (by kernel_rfl) (of_decide_eq_true (by kernel_rfl)) hk1 hb (fun x hx=>hlt x (List.mem_append_right _ hx))) (trodAll_mk0))
 simp only [List.append_nil] at ht
 exact ⟨_,rfl,_,_,_,[],_,[],hW',trodAll_cons_mk (shut_bool Tryz.underlying4 _) trodAll_mk0,
  ht,rfl,hb.frame _,fun h=>by cases h⟩
def tab (k:IntKind) (l:List Int):Obj->Obj
 | .cells _ t frozen => .cells (l.map fun n=>Value.int k n).toArray t frozen
 | o=>o
noncomputable def laidWorld (os:Os):World :=
 { World.holding Tryz.prog os ⟨#[],#[],[]⟩ with heap:=((((World.holding Tryz.prog os ⟨#[],#[],[]⟩).heap).modify 2 (tab .u8 [0,1,28,2,29,14,24,3,30,22,20,15,25,17,4,8,31,27,13,23,21,19,16,7,26,12,18,6,11,5,10,9])).modify 3 (tab .u8 [0,1,56,2,57,49,28,3,61,58,42,50,38,29,17,4,62,47,59,36,45,43,51,22,53,39,33,30,24,18,12,5,63,55,48,27,60,41,37,16,46,35,44,21,52,32,23,11,54,26,40,15,34,20,31,10,25,14,19,9,13,8,7,6])).modify 1 (tab .u64 [1,10,100,1000,10000,100000,1000000,10000000,100000000,1000000000,10000000000,100000000000,1000000000000,10000000000000,100000000000000,1000000000000000,10000000000000000,100000000000000000,1000000000000000000,10000000000000000000]) }
theorem laid_met (os:Os):laidMet Tryz.prog Rows.fnExactSucceedsRow.laid ((laidWorld os).forCall (fun _ _=>0) ⟨#[],#[.agg #[.slice none 0 0,.int .i64 0],.agg #[.int .i64 0,.string ⟨#[]⟩,.slice none 0 0,.slice none 0 0,.int .i64 0,.int .i64 0,.string ⟨#[]⟩,.slice none 0 0,.slice none 0 0,.slice none 0 0]],[]⟩).memory :=
 laidMet_of_run' 80 (by kernel_rfl) (by kernel_rfl)
theorem reads (os:Os) {H:Type} (enc:TypeId × Value->H):∃ places,DataW.whole enc Tryz.prog ((laidWorld os).forCall (fun _ _=>0) ⟨#[],#[.agg #[.slice none 0 0,.int .i64 0],.agg #[.int .i64 0,.string ⟨#[]⟩,.slice none 0 0,.slice none 0 0,.int .i64 0,.int .i64 0,.string ⟨#[]⟩,.slice none 0 0,.slice none 0 0,.slice none 0 0]],[]⟩).memory Tryz.f4.params.toList Rows.fnExactSucceedsSpec.vars false #[.agg #[.slice none 0 0,.int .i64 0],.agg #[.int .i64 0,.string ⟨#[]⟩,.slice none 0 0,.slice none 0 0,.int .i64 0,.int .i64 0,.string ⟨#[]⟩,.slice none 0 0,.slice none 0 0,.slice none 0 0]].toList 8=some ([.agg [.nil,.lit (.int .i64 0)],.agg [.lit (.int .i64 0),.lit (.string []),.nil,.nil,.agg [.lit (.int .i64 0),.lit (.int .i64 0),.lit (.string []),.nil,.nil],.nil]],[],places) :=
 ⟨[],by kernel_rfl⟩
theorem lifted (os:Os) (started:os.Started) (H:Type) (enc:TypeId × Value->H) (F:Stop.Interp) :
  ReturnsInHanded {} Tryz.checked os 4 .any ((OpenSpec.ofChange Rows.fnExactSucceedsSpec).preRow enc Tryz.prog Tryz.f4 Rows.fnExactSucceedsRow.domain false Rows.fnExactSucceedsRow.laid) (((OpenSpec.ofChange Rows.fnExactSucceedsSpec).at F).post enc Tryz.prog Tryz.f4 false true false false):=by
 obtain ⟨places,hx⟩:=reads os enc
 refine returnsInHanded_of_row (C:=Tryz.checked) (s:=OpenSpec.ofChange Rows.fnExactSucceedsSpec) own started (by kernel_rfl) Tryz.func4
  (witness_row_at (enc:=enc) (C:=Tryz.checked) false (laidWorld os) #[.agg #[.slice none 0 0,.int .i64 0],.agg #[.int .i64 0,.string ⟨#[]⟩,.slice none 0 0,.slice none 0 0,.int .i64 0,.int .i64 0,.string ⟨#[]⟩,.slice none 0 0,.slice none 0 0,.slice none 0 0]] rfl (by kernel_rfl) (by kernel_rfl) (by kernel_rfl)
   (OpenSpec.preRow_of_cond 8 hx (by kernel_rfl) (fun k hk=>by cases hk) (by kernel_rfl) (laid_met os))) ?_
 intro W base args ds gs before hval hW _ _ _ hL _ _
 exact contract H enc W base args ds gs before hval hW hL
theorem j1:(Rows.fnExactSucceedsRow.inPlace==Tryz.prog.inPlace 4)=true:=by kernel_rfl
theorem j2:(Rows.fnExactSucceedsRow.unfollowed==Tryz.prog.unfollowed 4)=true:=by kernel_rfl
theorem j3:(Rows.fnExactSucceedsRow.recurses==Tryz.prog.recurses 4)=true:=by kernel_rfl
theorem j4:(Rows.fnExactSucceedsRow.named==Tryz.prog.varsNamed 4)=true:=by kernel_rfl
theorem j5:joinedFacts Tryz.prog 4 Tryz.f4 (OpenSpec.ofChange Rows.fnExactSucceedsSpec).bare Rows.fnExactSucceedsRow=true:=by
 unfold joinedFacts
 rw [j1,j2,j3,j4]
 kernel_rfl
theorem j6:Tryz.prog.funcNamed Rows.fnExactSucceedsRow.func=some 4:=by kernel_rfl
theorem said:Rows.FnExactSucceedsSaid :=
 OpenClaim.holds_of_cond 4 Tryz.f4 rfl rfl rfl rfl rfl rfl rfl ⟨rfl,rfl,rfl,rfl,rfl⟩ rfl rfl rfl rfl rfl j6 Tryz.func4 j5
  (of_decide_eq_true (by kernel_rfl)) (by unfold Func.isWrapper; first | (rw [if_pos (by decide +kernel)]; kernel_rfl) | (rw [if_neg (by decide +kernel)]; exact ⟨rfl,rfl⟩))
  (fun os started H enc _ F=>by rw [OpenClaim.pre_eq_preRow]; exact lifted os started H enc F)
theorem jw:Rows.fnExactSucceedsRow.wfByText (OpenSpec.ofChange Rows.fnExactSucceedsSpec)=true:=by kernel_rfl
theorem jm:Tryz.pinned.checked.prog.mainIs=some (Rows.fnExactSucceedsCard.stood.harness.1,Rows.fnExactSucceedsCard.stood.harness.2.toList):=by kernel_rfl
theorem jg:false=Rows.fnExactSucceedsRow.goesBy Tryz.pinned.checked.prog:=by kernel_rfl
theorem plain (f:FuncId) (fn:Func) (hf:Tryz.pinned.checked.prog.funcNamed Rows.fnExactSucceedsRow.func=some f) (hfn:Tryz.pinned.checked.prog.funcs[f]? = some fn) :
  false=Tryz.pinned.checked.prog.looks []/\∀ (j:Nat) t,fn.params[j]? = some t->Tryz.pinned.checked.prog.wantsStandIn t=false:=by
 obtain rfl:f=4:=Option.some.inj ((show Tryz.prog.funcNamed Rows.fnExactSucceedsRow.func=some 4 by kernel_rfl).symm.trans hf) |>.symm
 obtain rfl:fn=Tryz.f4:=(Option.some.inj (Tryz.func4.symm.trans hfn)).symm
 refine ⟨by kernel_rfl,fun j t ht => ?_⟩
 rw [Tryz.params4] at ht
 have ht':t=41\/t=43:=by simpa using Array.mem_of_getElem? ht
 rcases ht' with rfl | rfl
 ·exact (show Tryz.prog.wantsStandIn 41=false by kernel_rfl)
 ·exact (show Tryz.prog.wantsStandIn 43=false by kernel_rfl)
theorem card:Rows.FnExactSucceedsCardSaid :=
 Claim7.holds_tied_plain_at .later [] _ _ _ _ said (fun _ h=>by cases h) jw (fun _ h=>by cases h) fnExactSucceeds_row_tie rfl ⟨rfl,rfl⟩ jm rfl plain jg
end Go.Proofs.YtoijiephcflchaaGreatDoor.fnExactSucceeds
end
