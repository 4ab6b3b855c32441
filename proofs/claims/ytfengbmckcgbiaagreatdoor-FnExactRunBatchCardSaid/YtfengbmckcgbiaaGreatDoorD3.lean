/- What the functions of the program compute (part 3). No conditions. -/
import Derived.Test.YtfengbmckcgbiaaGreatDoorD2
set_option linter.unusedVariables false
set_option linter.unusedSimpArgs false
set_option maxRecDepth 100000
set_option maxHeartbeats 4000000
set_option linter.defProp false
set_option linter.unusedSectionVars false
open Bool renaming and_eq_true_iff->DN,and_eq_true->ah
open Go.DataW renaming trod->ny
open Go.IntKind renaming wrap->af,i64->yK
open Go.Lib renaming pow10Tab->xZ
open Int renaming toNat_natCast->ai
open List renaming getElem?_eq_getElem->aB,mem_cons->aK,getElem?_eq_some_iff->aT,map->ax,drop_of_length_le->ay,mem_cons_self->bD,length_append->bZ,all_eq_true->bf,take_of_length_le->bz,getElem?_append_left->cu,getElem?_map->dG,drop_zero->dM,getElem?_append_right->dU,getElem?_cons_zero->eY,mem_cons_of_mem->fJ,all_cons->fZ,length_cons->iU,append_assoc->jh,mem_iff_getElem->kG,nil_append->lC,append_nil->mM,length_set->qR,range->tY,length_map->vg,filter_eq_self->x9
open Nat renaming le_refl->aC,le_trans->bM,strongRecOn->iw,zero_le->oN
open Option renaming map_eq_some_iff->dD,filter->ug
open Option.some renaming injEq->aH
namespace Go.Ab
open Go
section
theorem aaA {l:List fB}{t:fD}{p:Nat}(hA:Asc (Dw l)=true)(hp:LB (Dw l) t p):WX l t=if decide (p<l.length)&&(l.getD p default).iC==t then some p else none:=by
 have at_:∀q,q<l.length->(Dw l).getD q default=(l.getD q default).iC:=λq h=>JP h
 by_cases c:p<l.length/\(l.getD p default).iC=t
 ·rw[aA (by simpa using c)];refine Kw.2 ⟨c.1,c.2,λq hq=>?_⟩;have:=hp.lo q hq;rw[at_ q aI]at this;exact Jr this
 ·rw[au (by simpa using c)];refine aaF.2 λit hit e=>?_;obtain⟨q,hq,rfl⟩:=kG.1 hit;have e:(l.getD q default).iC=t:=by rw[iD _ hq];exact e
  by_cases h1:q<p
  ·have:=hp.lo q h1;rw[at_ q hq,e,RD]at this;cases this
  ·by_cases h2:q=p
   ·subst h2;exact c ⟨hq,e⟩
   ·have h3:=Ho hA p q aI (by rw[CB];exact hq);have h4:=hp.hi p (aC _) (by rw[CB];omega);rw[at_ q hq,e]at h3;rw[h3]at h4;cases h4
theorem aaz {l:List fB}{t:fD}{j:Nat}(hA:Asc (Dw l)=true)(h:WX l t=some j):(l.filter λit=> !(it.iC==t))=l.take j++l.drop (j+1):=by
 obtain⟨h1,h2,h3⟩:=Kw.1 h;have e:l=l.take j++l.getD j default::l.drop (j+1):=by rw[<- gm default h1,List.take_append_drop]
 have a1:(l.take j).filter (λit=> !(it.iC==t))=l.take j:=x9.2 λit hit=>by obtain⟨q,hq,rfl⟩:=kG.1 hit;rw[List.length_take]at hq;have:=h3 q aI;rw[iD _ aI]at this;rw[List.getElem_take];simpa using this
 have a2:(l.drop (j+1)).filter (λit=> !(it.iC==t))=l.drop (j+1):=x9.2 λit hit=>by obtain⟨q,hq,rfl⟩:=kG.1 hit;rw[List.length_drop]at hq;have:=Ho hA j (j+1+q) aI (by rw[CB];omega);rw[JP h1,JP aI,h2]at this;have:=Jr this;rw[iD _ aI]at this;rw[List.getElem_drop];simpa using λe=>this e.symm
 conv=>lhs;rw[e]
 rw[List.filter_append,List.filter_cons,a1,a2,h2];simp
section
variable {B:Nat} {s:bP} (t:fD) (hB:B<=lim) (h:Hz B s)
include hB h
theorem T.vN : Ev (λf=>G.vN f s t) (aoQ (PY s t)):=by
 have hl:=h.len;unfold lim at hB;refine aN ?_;simp only[G.vN];unfold PY;refine ak (T.dY hB h) (dh (λe=>?_) (λe=>aQ (by rw[e];rfl)));have hs:=CE.1 e;obtain⟨p,g,hp⟩:=T.og t (by unfold big;omega) hs.Qb;rw[aA e,aaA hs.Qb hp];refine ak g (dh (λc=>?_) (λc=>?_))
 ·have c:decide (p<s.bH.length)&&(s.bH.getD p default).iC==t:=c;rw[aA c];have c1:p<s.bH.length:=by simp only[ah,aF]at c;exact c.1
  obtain⟨D,hD⟩:=(h.at_ c1).2;refine um (by show(0:Int)<=(p:Int)/\(p:Int)<_;omega) (ak (aN ?_) (bK _));simp only[G.sD,ai];exact ak (T.bC hB hD) (bK _)
 ·have c:(decide (p<s.bH.length)&&(s.bH.getD p default).iC==t)=false:=c;rw[au (by rw[c];simp)];exact bK _
theorem T.uI : Ev (λf=>G.uI f s t) (abj (PW s t)):=by
 have hl:=h.len;unfold lim at hB;refine aN ?_;simp only[G.uI];unfold PW;refine ak (T.dY hB h) (dh (λe=>?_) (λe=>aQ (by rw[e];rfl)));have hs:=CE.1 e;have hsl:=hs.len;have hlo:=hs.lo;have hhi:=hs.hi;obtain⟨p,g,hp⟩:=T.og t (by unfold big;omega) hs.Qb;have hf:=aaA hs.Qb hp;refine dh (λe2=>aQ (by rw[e2];simp;rfl)) (λe2=>?_);refine ak g (dh (λc=>?_) (λc=>?_))
 ·have c:(decide (p<s.bH.length)&&(s.bH.getD p default).iC==t)=true:=c;rw[aA c]at hf;have c1:p<s.bH.length:=by simp only[ah,aF]at c;exact c.1
  have w:af .i64 (s.kZ+1)=s.kZ+1:=by rw[G8 aI aI]
  refine ak (T.fA hB h) (ak (a:=s.bH.take p++s.bH.drop (p+1)) (aN ?_) (aQ ?_))
  ·simp only[G.oh,FC p,ai];exact dw (bK _)
  ·rw[w,<- aaz hs.Qb hf,e,e2,hf];rfl
 ·have c:(decide (p<s.bH.length)&&(s.bH.getD p default).iC==t)=false:=c;rw[au (by rw[c];simp)]at hf;exact aQ (by rw[e,e2,hf];rfl)
end
structure RqF (q:bn):Prop where
 lo:1<=q.kQ
 hi:q.kQ<=5
 TQ:NmV q.iC=true
 want:JY q.yL=true
 avoid:JY q.uN=true
 body:Val q.Body=true
 ops:P5 q.MH=true
theorem NH {q:bn} : ZU q=true<->RqF q:=by unfold ZU;simp only[ah,aF];exact⟨λ⟨⟨a,b⟩,c,d,e,f,g⟩=>⟨a,b,c,d,e,f,g⟩,λ⟨a,b,c,d,e,f,g⟩=>⟨⟨a,b⟩,c,d,e,f,g⟩⟩
theorem ajA {t:fD}(h:W9 t=true):t.length=4:=by unfold W9 at h;simp only[ah,aF]at h;exact h.2
theorem abM {t:fD}(h:Z7 t=true):t.length<=4:=by
 unfold Z7 at h;simp only[Bool.or_eq_true,aZ]at h;rcases h with h|h
 ·rw[h];simp
 ·rw[ajA h];exact aC _
theorem KL {l:List fD}(h:JY l=true):l.length<=4/\∀t,t∈l->Z7 t=true:=by unfold JY at h;simp only[ah,aF,bf]at h;exact⟨h.2,h.1⟩
theorem UN {l:List fD}(h:JY l=true):Sm l:=by obtain⟨h1,h2⟩:=KL h;refine⟨by unfold big;omega,λt ht=>?_⟩;have:=abM (h2 t ht);unfold big;omega
theorem UK : ∀k:Nat,k<16->okH (af5 k)=true:=xB
theorem aij {n:Nat}(h:n<65521):W9 (Xd n)=true:=by unfold W9 Xd;simp only[fZ,List.all_nil,Bool.and_true,ah,iU,List.length_nil,decide_true];exact⟨UK _ aI,UK _ aI,UK _ aI,UK _ aI⟩
theorem ajE {n:aj}(h:Val n=true):W9 (He n)=true:=by unfold He;rw[aA h];exact aij (sum_lt _)
def ans (c:Int):bJ:=bJ.mk c [] 0 xM
def UA (s:bP)(t:fD)(n:aj)(c:Int):bP×bJ:=match P6 s t n with
 |some m=>(m,bJ.mk c (He n) m.kZ xM)
 |none=>(s,ans 422)
noncomputable def SK (old:aj)(q:bn):Option aj:=if q.kQ=4 then MK old q.MH else if q.kQ=5 then afg old q.Body else some q.Body
noncomputable def aif (s:bP)(q:bn)(it:fB):bP×bJ:=
 if q.kQ=1 then(s,bJ.mk 200 (He it.pR) it.mW it.pR)else if q.kQ=3 then(match PW s q.iC with
  |some m=>(m,bJ.mk 200 [] m.kZ xM)
  |none=>(s,ans 422))else match SK it.pR q with
  |some n=>UA s q.iC n 200
  |none=>(s,ans 422)
noncomputable def aaN (s:bP)(q:bn):bP×bJ:=match PY s q.iC with
 |none=>if q.kQ=2 then(if JW q.yL q.uN [] false=200 then UA s q.iC q.Body 201 else(s,ans (JW q.yL q.uN [] false)))else(s,ans 404)
 |some it=>if JW q.yL q.uN (He it.pR) (q.kQ==1)=200 then aif s q it else(s,ans (JW q.yL q.uN (He it.pR) (q.kQ==1)))
noncomputable def ER (s:bP)(q:bn):bP×bJ:=if JU s&&ZU q then aaN s q else(agv,ans 400)
theorem adU {j:Nat} : decide (KF (some j)<0)=false:=bg (by show ¬(j:Int)<0;omega)
theorem akL {s:bP}{t:fD}(hs:JU s=true):PY s t=(WX s.bH t).map λj=>s.bH.getD j default:=by unfold PY;rw[aA hs]
theorem abm {n m:aj}{l:List uO}(h:MK n l=some m):Val m=true:=by
 unfold MK at h;split at h
 ·rename_i c;exact ajp (by simp at c;exact c.1) h
 ·cases h
theorem aa6 {n p m:aj}(h:afg n p=some m):Val m=true:=by
 unfold afg at h;split at h
 ·exact(Option.filter_eq_some_iff.1 h).2
 ·cases h
theorem ai4 {q:bn}{old n:aj}(hr:ZU q=true)(h:SK old q=some n):Val n=true:=by
 unfold SK at h;split at h
 ·exact abm h
 ·split at h
  ·exact aa6 h
  ·cases h;exact(NH.1 hr).body
theorem T.vS {q:bn}{old:aj}(hq:OI 60 q)(ho:Val old=true):Ev (λf=>G.vS f old q) (pX (SK old q)):=by
 refine aN ?_;simp only[G.vS];unfold SK;have hp:=T.ry CY (Et ho) hq.ops;obtain⟨D,hD⟩:=hq.body;have hm:=T.sV (Et ho) hD;refine dh (λe=>?_) (λe=>dh (λe2=>?_) (λe2=>?_))
 ·rw[aA (by simpa using e)];exact ak hp (bK _)
 ·rw[au (by simpa using e),aA (by simpa using e2)];exact ak hm (bK _)
 ·rw[au (by simpa using e),au (by simpa using e2)];exact bK _
section
variable {s:bP} {q:bn} (hs:StF s) (hq:OI 60 q)
theorem T.pG (c:Int):Ev (λf=>G.pG f c) (ans c):=by refine aN ?_;simp only[G.pG];exact bK _
theorem copyS (s:bP)(hs:StF s):Ev (λf=>G.fA f s) s/\Ev (λf=>G.fO f s) s:=⟨T.fA CY hs.fine,T.fO CY hs.fine⟩
include hs hq
theorem T.nP {old:aj}{b:Bool}(hr:RqF q)(ho:Val old=true):Ev (λf=>G.nP f s q old b) (match SK old q with
 |some n=>UA s q.iC n (if b then 200 else 201)
 |none=>(s,ans 422)):=by
 obtain⟨c1,_⟩:=copyS s hs;refine aN ?_;simp only[G.nP];refine ak (T.vS hq ho) ?_;cases hn:SK old q with
 |none=>exact dB rfl (ak c1 (bK _))
 | some n=>
   have hv:=ai4 (NH.2 hr) hn;refine dR rfl (ak (T.vO CY hs.fine hq.TQ (Et hv)) ?_);show Ev _ (UA s q.iC n (if b then 200 else 201));unfold UA;simp only[pX];cases P6 s q.iC n with
   |none=>exact dB rfl (ak c1 (bK _))
   | some m=>refine dR rfl (ak (T.wo Fp (oG hv)) ?_);cases b<;>exact evd
theorem T.fG : Ev (λf=>G.fG f s q) (ER s q):=by
 obtain⟨c1,_⟩:=copyS s hs;have hsv:=CE.2 hs;refine aN ?_;simp only[G.fG];unfold ER;refine ak (T.dY CY hs.fine) (dh (λ_=>?_) (λe=>by rw[hsv]at e;cases e));refine ak (T.l7 CY hq) (dh (λe=>?_) (λe=>aQ (by rw[e,Bool.and_false];rfl)));have hr:=NH.1 e;have hw:=KL hr.want;have ha:=KL hr.avoid;rw[hsv,e];show Ev _ (aaN s q);unfold aaN;refine ak (T.vN q.iC CY hs.fine) ?_;cases hg:PY s q.iC with
 | none=>
   refine dB rfl (dh (λe2=>?_) (λe2=>?_))
   ·exact ak c1 (aQ (by show _=if q.kQ=2 then _ else _;rw[au (by simpa using e2)];rfl))
   have e2:q.kQ=2:=(by simpa using e2);show Ev _ (if q.kQ=2 then _ else _);rw[aA e2];refine aN ?_;simp only[G.fG.K2,e2];refine ak (T.lg hr.want hr.avoid (UN hr.want) (UN hr.avoid) (.inl rfl) aI aI) (dh (λe3=>?_) (λe3=>?_))
   ·exact ak c1 (aQ (by rw[au (by simpa using e3)];rfl))
   ·have e3:JW q.yL q.uN [] false=200:=(by simpa using e3);rw[aA e3];have:=T.nP (old:=xM) (b:=false) hs hq hr Tu;have hn:SK xM q=some q.Body:=(by unfold SK;rw[au aI,au aI]);rw[hn]at this;exact dB rfl (dB rfl (ak this (bK _)))
 | some it=>
   obtain⟨_,_,_,hv⟩:=XK hg;have hct:=T.lg (t:=He it.pR) (rd:=q.kQ==1) hr.want hr.avoid (UN hr.want) (UN hr.avoid) (.inr ⟨ajE hv,by have:=alq it.pR;unfold big;omega⟩) aI aI;refine dR rfl (ak (T.wo Fp (oG hv)) (aN ?_));simp only[G.fG.K1];refine ak hct (dh (λe3=>?_) (λe3=>?_))
   ·exact ak c1 (aQ (by show _=if _=_ then _ else _;rw[au (by simpa using e3)];rfl))
   show Ev _ (if _=_ then _ else _);rw[aA (by simpa using e3)];unfold aif;refine dh (λe4=>?_) (λe4=>?_)
   ·rw[aA (by simpa using e4)];exact ak c1 (bK _)
   rw[au (by simpa using e4)];refine dh (λe5=>?_) (λe5=>?_)
   ·rw[aA (by simpa using e5)];refine ak (aN ?_) (bK _);simp only[G.rD];refine ak (T.uI q.iC CY hs.fine) ?_;cases PW s q.iC with
    |none=>exact dB rfl (ak c1 (bK _))
    |some m=>exact dR rfl (bK _)
   ·rw[au (by simpa using e5)];exact ak (T.nP hs hq hr hv) (bK _)
omit hq
theorem T.uD (t:fD):Ev (λf=>G.uD f s t) (match WX s.bH t with
 |some j=>He (s.bH.getD j default).pR
 |none=>[]):=by
 have hl:=hs.len;refine aN ?_;simp only[G.uD];refine ak (T.pY t (by unfold lim;omega)) ?_;cases hj:WX s.bH t with
 |none=>exact dR xB (bK _)
 | some j=>have hjl:=(Kw.1 hj).1;have hv:=(hs.it hjl).X6;have h5:=fmt5 hv;have:=sum_lt (BJ 5 (s.bH.getD j default).pR);have e:He (s.bH.getD j default).pR=Xd (agU (BJ 5 (s.bH.getD j default).pR)):=(by unfold He;rw[aA hv]);refine dB adU (um (by show(0:Int)<=(j:Int)/\(j:Int)<_;omega) ?_);rw[show(KF (some j)).toNat=j from ai j];show Ev _ (He _);rw[e];exact ak (T.ig 5 aI (uF hv)) (ak (T.rH _ (by unfold big;omega)) (ak (T.Bo aI) (bK _)))
theorem ajg {x:fB} : ∃j,WX (Ls x s.bH) x.iC=some j/\(Ls x s.bH).getD j default=x:=by
 cases hj:WX (Ls x s.bH) x.iC with
 |none=>exact eF rfl (aaF.1 hj x ((Jf hs.Qb).2 (.inl rfl)))
 | some j=>
   obtain⟨h1,h2,_⟩:=Kw.1 hj;refine⟨j,rfl,?_⟩;rcases(Jf hs.Qb).1 (getD_mem default h1)with e|⟨_,e⟩
   ·exact e
   ·exact eF h2 e
theorem T.mG {t:fD}{n:aj}(ht:NmV t=true)(hn:Val n=true):Ev (λf=>G.mG f s t n) (UA s t n (if(WX s.bH t).isSome then 200 else 201)):=by
 obtain⟨_,c2⟩:=copyS s hs;have hl:=hs.len;have K:∀c:Int,Ev (λf=>G.mG.K1 f s t n c) (UA s t n c):=λc=>by
  have e:P6 s t n=(some (V7 s t n)).filter JU:=by unfold P6;rw[CE.2 hs,ht,hn];rfl
  refine aN ?_;simp only[G.mG.K1];unfold UA;rw[e];refine ak (T.mP CY hs.fine (Et hn) hs) (ak (T.gX CY (ajh CY hs.fine hs ht hn)) (dh (λe1=>?_) (λe1=>?_)))
  ·obtain⟨j,hj,hx⟩:=ajg (x:=fB.mk t (s.kZ+1) n) hs;have ht:=T.uD (s:=V7 s t n) (CE.1 e1) t;have hj:WX (V7 s t n).bH t=some j:=hj;have hx:(V7 s t n).bH.getD j default=fB.mk t (s.kZ+1) n:=hx;rw[hj]at ht;simp only[hx]at ht;refine ak ht (aQ ?_);simp[ug,e1];rfl
  ·refine ak c2 (ak (T.pG 422) (aQ ?_));simp[ug,e1]
 refine aN ?_;simp only[G.mG];refine ak (T.pY t (by unfold lim;omega)) ?_;cases WX s.bH t with
 |none=>exact dR xB (K _)
 |some j=>exact dB adU (K _)
include hq
theorem T.kS (hr:RqF q):Ev (λf=>G.kS f s q) (aaN s q):=by
 obtain⟨_,c2⟩:=copyS s hs;have hl:=hs.len;have hf:=T.pY (s:=s) q.iC (by unfold lim;omega);have htag:=T.uD hs q.iC;have hw:=KL hr.want;have ha:=KL hr.avoid;have chk:∀t,Ev (λf=>G.wW f q.yL q.uN t (q.kQ==1)) (JW q.yL q.uN t (q.kQ==1)):=λt=>T.wW aI aI;have an:=T.pG;obtain⟨D,hD⟩:=hq.body;have hwr:=λ{n:aj} (hn:Val n=true)=>T.mG hs hr.TQ hn;have K:∀(o:Option aj),(∀n,o=some n->Val n=true)->Ev (λf=>G.kS.K1 f s q (pX o).2 (pX o).1.bQ (pX o).1.wL (pX o).1.lI (pX o).1.aO (pX o).1.aP) (match o with
  |some n=>UA s q.iC n (if(WX s.bH q.iC).isSome then 200 else 201)
  |none=>(s,ans 422))/\Ev (λf=>G.kS.K2 f s q (pX o).2 (pX o).1.bQ (pX o).1.wL (pX o).1.lI (pX o).1.aO (pX o).1.aP) (match o with
  |some n=>UA s q.iC n (if(WX s.bH q.iC).isSome then 200 else 201)
  |none=>(s,ans 422)):=λo ho=>by
  cases o with
  | none=>
    constructor<;>refine aN ?_
    ·simp only[G.kS.K1];exact dB rfl (ak c2 (ak (an _) (bK _)))
    ·simp only[G.kS.K2];exact dB rfl (ak c2 (ak (an _) (bK _)))
  | some n=>
    constructor<;>refine aN ?_
    ·simp only[G.kS.K1,aj.eta];exact dR rfl (ak (hwr (ho n rfl)) (bK _))
    ·simp only[G.kS.K2,aj.eta];exact dR rfl (ak (hwr (ho n rfl)) (bK _))
 refine aN ?_;simp only[G.kS];unfold aaN;rw[akL (CE.2 hs)];refine ak hf ?_;cases hj:WX s.bH q.iC with
 | none=>
   rw[hj]at htag hwr;refine dR xB (dh (λe=>?_) (λe=>?_))
   ·refine ak c2 (ak (an _) (aQ ?_));show _=if q.kQ=2 then _ else _
    rw[au (by simpa using e)]
   have e:q.kQ=2:=(by simpa using e);show Ev _ (if q.kQ=2 then _ else _);rw[aA e];have hc:=chk [];simp only[e]at hc⊢;refine ak htag (ak hc (dh (λe3=>?_) (λe3=>?_)))
   ·exact ak c2 (ak (an _) (aQ (by rw[au (by simpa using e3)];rfl)))
   ·rw[aA (by simpa using e3)];exact dB rfl (dR rfl (ak (hwr hr.body) (bK _)))
 | some j=>
   rw[hj]at htag hwr K;have hjl:=(Kw.1 hj).1;have hit:=hs.it hjl;have hv:=hit.X6;have jn:(KF (some j)).toNat=j:=ai j;have jr:0<=KF (some j)/\KF (some j)<(s.bH.length:Int):=(by show(0:Int)<=(j:Int)/\(j:Int)<_;omega);have hap:=T.jG CY (Et hv) hq.ops;have hmg:=T.rF (Et hv) hD;have k1:=K (MK (s.bH.getD j default).pR q.MH) (λn h=>abm h);have k2:=K (afg (s.bH.getD j default).pR q.Body) (λn h=>aa6 h);refine dB adU (ak htag (ak (chk _) (dh (λe3=>?_) (λe3=>?_))))
   ·refine ak c2 (ak (an _) (aQ ?_));show _=if _=_ then _ else _
    rw[au (by simpa using e3)]
   have e3:JW q.yL q.uN (He (s.bH.getD j default).pR) (q.kQ==1)=200:=(by simpa using e3);show Ev _ (if _=_ then _ else _);rw[aA e3];unfold aif;simp only[jn,e3];refine dh (λe4=>?_) (λe4=>?_)
   ·rw[aA (by simpa using e4)];exact ak c2 (ak htag (um jr (um jr (ak (T.cO Fp (oG hv)) (bK _)))))
   have e4:¬q.kQ=1:=(by simpa using e4);rw[au e4];refine dh (λe5=>?_) (λe5=>?_)
   ·have e5:q.kQ=2:=(by simpa using e5);rw[au aI];unfold SK;rw[au aI,au aI];exact ak (hwr hr.body) (bK _)
   refine dh (λe6=>?_) (λe6=>?_)
   ·rw[aA (by simpa using e6)];unfold PW;rw[CE.2 hs,hj];refine dh (λe7=>?_) (λe7=>?_)
    ·exact ak c2 (ak (an _) (aQ (by rw[e7];rfl)))
    ·have hlo:=hs.lo;have hhi:=hs.hi;have w:af .i64 (s.kZ+1)=s.kZ+1:=(by rw[G8 aI aI]);rw[w,e7];exact ak (T.sS CY hs.fine hs) (bK _)
   rw[au (by simpa using e6)];unfold SK;refine um jr (ak hap (dh (λe7=>?_) (λe7=>?_)))
   ·have e7:q.kQ=5:=(by simpa using e7);rw[au aI,aA e7];refine um jr (ak hmg ?_)
    first|exact k2.1|exact k2.2
   ·have e7:¬q.kQ=5:=(by simpa using e7);have e5:¬q.kQ=2:=(by simpa using e5);have e6:¬q.kQ=3:=(by simpa using e6);have:=hr.lo;have:=hr.hi;rw[aA aI]
    first|exact k1.1|exact k1.2
end
end
structure Yq (B D:Nat)(it:fB):Prop where
 TQ:it.iC.length<=B
 X6:Ar B D it.pR
theorem T.aln {D:Nat}{it:fB}{left:Int}(h:Yq mx D it)(h0:0<=left)(hl:left<=1048576):∃r,Ev (λf=>G.wZ f it left) r/\r<=left/\(0<=r->Yq 1048576 D it/\(TP it.pR:Int)<=3*(left-r)+3):=by
 have hn:it.iC.length<=9223372036854775807:=h.TQ;have w0:af .i64 (left-(it.iC.length:Int))=left-(it.iC.length:Int):=C9 aI aI;by_cases c:left-(it.iC.length:Int)<0
 ·refine⟨-1,aN ?_,aI,λh=>by omega⟩;simp only[G.wZ,w0];exact dR (dW c) (bK _)
 obtain⟨v1,g1,a1,b1⟩:=T.UM D h.X6 (left:=left-(it.iC.length:Int)) aI aI;by_cases c1:v1<0
 ·refine⟨-1,aN ?_,aI,λh=>by omega⟩;simp only[G.wZ,w0];exact dB (bg c) (ak g1 (dR (dW c1) (bK _)))
 refine⟨v1,aN ?_,aI,λh=>⟨⟨aI,(b1 h).1⟩,by have:=(b1 h).2;omega⟩⟩;simp only[G.wZ,w0];exact dB (bg c) (ak g1 (dB (bg c1) (bK _)))
def mkI : List fB->Nat
 |[]=>0
 |it::r=>TP it.pR+2+mkI r
theorem T.ajC {D:Nat}{s:bP}{left:Int}(h1:s.bH.length<=mx)(hO:∀o,o∈s.bH->Yq mx D o)(h0:0<=left)(hl:left<=1048576) :
 ∃r,Ev (λf=>G.sW f s left) r/\r<=left/\(0<=r->WZ 1048576 s/\(mkI s.bH:Int)<=5*(left-r)):=by
 obtain⟨l,ck⟩:=s;have S:∃r,Ev (λf=>G.nM f l left) r/\r<=left/\(0<=r->(l.length:Int)<=left/\(∀o,o∈l->Yq 1048576 D o)/\(mkI l:Int)<=5*(left-r)):=by
  unfold mx at h1;simp only at h1 hO;have w0:af .i64 (left-(l.length:Int))=left-(l.length:Int):=C9 aI aI;by_cases c:left-(l.length:Int)<0
  ·refine⟨-1,aN ?_,aI,λh=>by omega⟩;simp only[G.nM,w0];exact dR (dW c) (bK _)
  ·have L:∀(k i:Nat) (a:Int),i+k=l.length->0<=a->a<=1048576->∃r,Ev (λf=>G.nM.L1 f l a i) r/\r<=a/\(0<=r->(∀o,o∈l.drop i->Yq 1048576 D o)/\(mkI (l.drop i):Int)<=3*(a-r)+5*k):=by
    intro k
    induction k with
    | zero=>
      intro i a hi ha ha2;refine⟨a,aN ?_,aI,λ_=>⟨λs hs=>?_,by rw[ay aI];simp[mkI]⟩⟩
      ·simp only[G.nM.L1];exact rX (bK _)
      ·rw[ay aI]at hs;cases hs
    | succ k ih=>
      intro i a hi ha ha2;have hil:i<l.length:=(by omega);obtain⟨q,gq,q1,q2⟩:=T.aln (hO _ (EZ default hil)) ha ha2;by_cases c1:q<0
      ·refine⟨-1,aN ?_,aI,λh=>by omega⟩;simp only[G.nM.L1,ai];exact rW (dw (ak gq (dR (dW c1) (bK _))))
      ·obtain⟨r,g,g1,g2⟩:=ih (i+1) q aI aI aI;refine⟨r,aN ?_,aI,λh=>⟨λs hs=>?_,?_⟩⟩
       ·simp only[G.nM.L1,ai,FC i];exact rW (dw (ak gq (dB (bg c1) g)))
       ·rw[gm default hil]at hs;rcases aK.1 hs with e|e
        ·rw[e];exact(q2 aI).1
        ·exact(g2 h).1 s e
       ·have h1:=(q2 aI).2;have h2:=(g2 h).2;rw[gm default hil];simp only[mkI];omega
   obtain⟨r,g,g1,g2⟩:=L l.length 0 (left-(l.length:Int)) aI aI aI;refine⟨r,aN ?_,aI,λh=>⟨aI,λs hs=>(g2 h).1 s (by rw[dM];exact hs),by have:=(g2 h).2;rw[dM]at this;omega⟩⟩;simp only[G.nM,w0];exact dB (bg c) g
 obtain⟨r,g,g1,g2⟩:=S;by_cases c:r<0
 ·refine⟨-1,aN ?_,aI,λh=>by omega⟩;simp only[G.sW];exact ak g (dR (dW c) (bK _))
 ·refine⟨r,aN ?_,aI,λh=>?_⟩
  ·simp only[G.sW];exact ak g (dB (bg c) (bK _))
  ·obtain⟨e1,e2,e3⟩:=g2 h;exact⟨⟨by show l.length<=_;omega,λit hi=>(e2 it hi).TQ,λit hi=>⟨D,(e2 it hi).X6⟩⟩,e3⟩
structure afe (D:Nat)(q:bn):Prop where
 TQ:q.iC.length<=mx
 want:q.yL.length<=mx/\∀s,s∈q.yL->s.length<=mx
 avoid:q.uN.length<=mx/\∀s,s∈q.uN->s.length<=mx
 body:Ar mx D q.Body
 ops:q.MH.length<=mx/\∀o,o∈q.MH->Gp mx D o
theorem T.adW {D:Nat}{q:bn}{left:Int}(h:afe D q)(h0:0<=left)(hl:left<=1048576):∃r,Ev (λf=>G.pq f q left) r/\r<=left/\(0<=r->Ud 1048576 q/\((q.yL.length+q.uN.length+TP q.Body+MB q.MH:Nat):Int)<=4*(left-r)+3):=by
 have hn:q.iC.length<=9223372036854775807:=h.TQ;have w0:af .i64 (left-(q.iC.length:Int))=left-(q.iC.length:Int):=C9 aI aI;by_cases c:left-(q.iC.length:Int)<0
 ·refine⟨-1,aN ?_,aI,λh=>by omega⟩;simp only[G.pq,w0];exact dR (dW c) (bK _)
 obtain⟨v1,g1,a1,b1⟩:=T.WH h.want.1 h.want.2 (left:=left-(q.iC.length:Int)) aI aI;by_cases c1:v1<0
 ·refine⟨-1,aN ?_,aI,λh=>by omega⟩;simp only[G.pq,w0];exact dB (bg c) (ak g1 (dR (dW c1) (bK _)))
 obtain⟨v2,g2,a2,b2⟩:=T.WH h.avoid.1 h.avoid.2 (left:=v1) aI aI;by_cases c2:v2<0
 ·refine⟨-1,aN ?_,aI,λh=>by omega⟩;simp only[G.pq,w0];exact dB (bg c) (ak g1 (dB (bg c1) (ak g2 (dR (dW c2) (bK _)))))
 obtain⟨v3,g3,a3,b3⟩:=T.UM D h.body (left:=v2) aI aI;by_cases c3:v3<0
 ·refine⟨-1,aN ?_,aI,λh=>by omega⟩;simp only[G.pq,w0];exact dB (bg c) (ak g1 (dB (bg c1) (ak g2 (dB (bg c2) (ak g3 (dR (dW c3) (bK _)))))))
 obtain⟨v4,g4,a4,b4⟩:=T.ank h.ops.1 h.ops.2 (left:=v3) aI aI;by_cases c4:v4<0
 ·refine⟨-1,aN ?_,aI,λh=>by omega⟩;simp only[G.pq,w0];exact dB (bg c) (ak g1 (dB (bg c1) (ak g2 (dB (bg c2) (ak g3 (dB (bg c3) (ak g4 (dR (dW c4) (bK _)))))))))
 refine⟨v4,aN ?_,aI,λh=>?_⟩
 ·simp only[G.pq,w0];exact dB (bg c) (ak g1 (dB (bg c1) (ak g2 (dB (bg c2) (ak g3 (dB (bg c3) (ak g4 (dB (bg c4) (bK _)))))))))
 ·obtain⟨e1,e2⟩:=b1 aI;obtain⟨e3,e4⟩:=b2 aI;obtain⟨e5,e6,e7⟩:=b4 aI;obtain⟨e8,e9⟩:=b3 aI;exact⟨⟨aI,⟨aI,λs hs=>by have:=e2 s hs;omega⟩,⟨aI,λs hs=>by have:=e4 s hs;omega⟩,⟨D,e8⟩,aI,λo ho=>⟨D,e6 o ho⟩⟩,aI⟩
theorem T.als {s:bP}(h:WZ 1048576 s):Ev (λf=>G.vT f s) s:=by
 obtain⟨l,ck⟩:=s;have hl:l.length<=1048576:=h.len;have I:∀it,it∈l->Ev (λf=>G.yz f it) it:=λit hi=>by obtain⟨D,hd⟩:=h.X6 it hi;refine aN ?_;simp only[G.yz];exact ak (T.ZL I8 hd) (bK _)
 have L:∀(k i:Nat) (z:List fB),i+k=l.length->z.length=l.length->z.take i=l.take i->Ev (λf=>G.oW.L1 f l i z) l:=by
  intro k
  induction k with
  | zero=>intro i z hi hz ht;refine aN ?_;simp only[G.oW.L1];rw[bz aI,bz aI]at ht;exact rX (aQ ht)
  | succ k ih=>intro i z hi hz ht;have hil:i<l.length:=(by omega);refine aN ?_;simp only[G.oW.L1,ai,FC i];refine rW (dw (ak (I _ (EZ default hil)) (dw (ih (i+1) _ aI (by rw[qR];exact hz) ?_))));rw[iD _ hil];exact NI hil hz ht
 have S:Ev (λf=>G.oW f l) l:=by refine aN ?_;simp only[G.oW];exact dw (L l.length 0 _ aI mg rfl)
 refine aN ?_;simp only[G.vT];exact ak S (bK _)
theorem T.aeq {s:bP}(h:WZ 1048576 s):Ev (λf=>G.uy f s s) true:=by
 obtain⟨l,ck⟩:=s;have hl:l.length<=1048576:=h.len;have I:∀it,it∈l->Ev (λf=>G.yx f it it) true:=λit hi=>by obtain⟨D,hd⟩:=h.X6 it hi;refine aN ?_;simp only[G.yx];exact dR mg (dB mg (ak (T.Vw I8 hd) (dR rfl (bK _))))
 have L:∀(k i:Nat),i+k=l.length->Ev (λf=>G.oU.L1 f l l i) true:=by
  intro k
  induction k with
  | zero=>intro i hi;refine aN ?_;simp only[G.oU.L1];exact rX (bK _)
  | succ k ih=>intro i hi;refine aN ?_;simp only[G.oU.L1,ai,FC i];exact rW (dw (dw (ak (I _ (EZ default aI)) (dR rfl (ih (i+1) aI)))))
 have S:Ev (λf=>G.oU f l l) true:=by refine aN ?_;simp only[G.oU];exact dB mg (L l.length 0 aI)
 refine aN ?_;simp only[G.uy];exact ak S (dR rfl (dB mg (bK _)))
theorem T.agV {q:bn}(h:Ud 1048576 q):Ev (λf=>G.vI f q) q:=by obtain⟨D,hd⟩:=h.body;obtain⟨D',_,ho⟩:=Gp.all 0 h.ops.2;refine aN ?_;simp only[G.vI];exact ak (T.WN (bM h.want.1 I8)) (ak (T.WN (bM h.avoid.1 I8)) (ak (T.ZL I8 hd) (ak (T.ao3 I8 (bM h.ops.1 I8) ho) (bK _))))
theorem T.afR {q:bn}(h:Ud 1048576 q):Ev (λf=>G.vG f q q) true:=by obtain⟨D,hd⟩:=h.body;obtain⟨D',_,ho⟩:=Gp.all 0 h.ops.2;refine aN ?_;simp only[G.vG];exact dB mg (dR mg (ak (T.Vx (bM h.want.1 I8)) (dR rfl (ak (T.Vx (bM h.avoid.1 I8)) (dR rfl (ak (T.Vw I8 hd) (dR rfl (ak (T.an5 I8 (bM h.ops.1 I8) ho) (dR rfl (bK _))))))))))
theorem abz {q:bn}(h:RqF q):OI 60 q:=by
 have P:∀{l:List fD},JY l=true->FO 60 l:=λ{l} hl=>by obtain⟨h1,h2⟩:=KL hl;exact⟨aI,λs hs=>by have:=abM (h2 s hs);omega⟩
 exact⟨by have:=VV h.TQ;omega,P h.want,P h.avoid,⟨5,Et h.body⟩,afT h.ops⟩
theorem T0.fG {s:bP}{q:bn}(hs:WZ 1048576 s)(hq:Ud 1048576 q):Ev (λf=>G.fG f s q) (ER s q):=by
 cases h1:JU s with
 | true=>
   cases h2:ZU q with
   |true=>exact T.fG (CE.1 h1) (abz (NH.1 h2))
   | false=>refine aN ?_;simp only[G.fG];unfold ER;rw[h1,h2];exact ak (T0.dY I8 hs) (dR h1 (ak (T0.l7 I8 hq) (dB h2 (bK _))))
 | false=>refine aN ?_;simp only[G.fG];unfold ER;rw[h1];exact ak (T0.dY I8 hs) (dB h1 (bK _))
section
section
variable {s:bP} {q:bn} (hs:Hz 60 s) (hq:OI 60 q)
include hs hq
theorem T.aiu : Ev (λf=>G.fG f s q) (ER s q):=by
 cases hv:JU s with
 |true=>exact T.fG (CE.1 hv) hq
 | false=>refine aN ?_;simp only[G.fG];exact ak (T.dY CY hs) (dB hv (aQ (by unfold ER;rw[hv];rfl)))
end
theorem XF (w a:List fD)(t:fD)(b:Bool):JW w a t b=200\/JW w a t b=304\/JW w a t b=412:=by
 unfold JW;split
 ·exact .inr (.inr rfl)
 ·split
  ·split
   ·exact .inr (.inl rfl)
   ·exact .inr (.inr rfl)
  ·exact .inl rfl
inductive Han (s:bP)(q:bn):bP×bJ->Prop
 |no (c:Int) (h1:c≠200) (h2:c≠201) (h3:c≠400) (h4:c=404<->(PY s q.iC=none/\q.kQ≠2)):Han s q (s,ans c)
 |get (it:fB) (h1:q.kQ=1) (h2:PY s q.iC=some it) (h3:JW q.yL q.uN (He it.pR) true=200):Han s q (s,bJ.mk 200 (He it.pR) it.mW it.pR)
 |drop (it:fB) (m:bP) (h1:q.kQ=3) (h2:PY s q.iC=some it) (h3:PW s q.iC=some m):Han s q (m,bJ.mk 200 [] m.kZ xM)
 |made (m:bP) (h1:q.kQ=2) (h2:PY s q.iC=none) (h3:P6 s q.iC q.Body=some m):Han s q (m,bJ.mk 201 (He q.Body) m.kZ xM)
 |put (it:fB) (n:aj) (m:bP) (h1:q.kQ=2\/q.kQ=4\/q.kQ=5) (h2:PY s q.iC=some it) (h3:SK it.pR q=some n) (h4:P6 s q.iC n=some m) (h5:JW q.yL q.uN (He it.pR) false=200):Han s q (m,bJ.mk 200 (He n) m.kZ xM)
theorem afZ {s:bP}{q:bn}(hr:RqF q):Han s q (aaN s q):=by
 have h1:=hr.lo;have h5:=hr.hi;unfold aaN;cases hg:PY s q.iC with
 | none=>
   show Han s q (if q.kQ=2 then _ else _);split
   ·rename_i e;rcases XF q.yL q.uN [] false with h|h|h
    ·rw[aA h];unfold UA;cases hp:P6 s q.iC q.Body with
     |none=>exact .no _ xB xB xB ⟨λh=>by omega,λh=>eF e h.2⟩
     |some m=>exact .made m e hg hp
    ·rw[au aI,h];exact .no _ xB xB xB ⟨λh=>by omega,λh=>eF e h.2⟩
    ·rw[au aI,h];exact .no _ xB xB xB ⟨λh=>by omega,λh=>eF e h.2⟩
   ·rename_i e;exact .no _ xB xB xB ⟨λ_=>⟨hg,e⟩,λ_=>rfl⟩
 | some it=>
   have no:∀c:Int,c≠200->c≠201->c≠400->c≠404->Han s q (s,ans c):=λc a b d e=>.no c a b d ⟨λh=>eF h e,λh=>by rw[hg]at h;cases h.1⟩;show Han s q (if JW q.yL q.uN (He it.pR) (q.kQ==1)=200 then aif s q it else(s,ans (JW q.yL q.uN (He it.pR) (q.kQ==1))));rcases XF q.yL q.uN (He it.pR) (q.kQ==1)with h|h|h
   ·rw[aA h];unfold aif;split
    ·rename_i e;rw[show(q.kQ==1)=true by simpa using e]at h;exact .get it e hg h
    ·split
     ·rename_i e;cases hd:PW s q.iC with
      |none=>exact no _ xB xB xB xB
      |some m=>exact .drop it m e hg hd
     ·rename_i e1 e3;rw[show(q.kQ==1)=false by simpa using e1]at h;cases hn:SK it.pR q with
      |none=>exact no _ xB xB xB xB
      | some n=>
        unfold UA;cases hp:P6 s q.iC n with
        | none=>
          show Han s q (match P6 s q.iC n with
           |some m=>(m,bJ.mk 200 (He n) m.kZ xM)
           |none=>(s,ans 422))
          rw[hp];exact no _ xB xB xB xB
        | some m=>
          show Han s q (match P6 s q.iC n with
           |some m=>(m,bJ.mk 200 (He n) m.kZ xM)
           |none=>(s,ans 422))
          rw[hp];exact .put it n m aI hg hn hp h
   ·rw[au aI,h];exact no _ xB xB xB xB
   ·rw[au aI,h];exact no _ xB xB xB xB
theorem amD {s:bP}{q:bn} : (ER s q=(agv,ans 400)/\(JU s&&ZU q)=false)\/(StF s/\RqF q/\Han s q (ER s q)):=by
 unfold ER;cases h:JU s&&ZU q with
 |false=>exact .inl ⟨rfl,rfl⟩
 | true=>obtain⟨h1,h2⟩:=DN.1 h;exact .inr ⟨CE.1 h1,NH.1 h2,afZ (NH.1 h2)⟩
theorem akQ {s:bP}{q:bn}{p:bP×bJ}(hs:StF s)(h:Han s q p):JU p.1=true/\Val p.2.Body=true:=by
 cases h with
 |no c=>exact⟨CE.2 hs,Tu⟩
 |get it h1 h2=>exact⟨CE.2 hs,(XK h2).2.2.2⟩
 |drop it m h1 h2 h3=>exact⟨(ahX h3).2.2.2.2,Tu⟩
 |made m h1 h2 h3=>exact⟨(abq h3).2.2.2.2,Tu⟩
 |put it n m h1 h2 h3 h4=>exact⟨(abq h4).2.2.2.2,Tu⟩
theorem VH (s:bP)(q:bn):JU (ER s q).1=true/\Val (ER s q).2.Body=true:=by
 rcases amD (s:=s) (q:=q)with⟨h,_⟩|⟨hs,hr,h⟩
 ·rw[h];exact⟨ajz,Tu⟩
 ·exact akQ hs h
theorem ZJ {s:bP}(h:JU s=true):Hz 60 s:=(CE.1 h).fine
end
theorem ND : ∀(l:List fB),yV l=mkI l
 |[]=>rfl
 |it::r=>by have:=ND r;simp only[yV,JM,Dv,mkI]at *;omega
theorem XW {K:Nat} : ∀{l:List fB},(∀it,it∈l->TP it.pR+2<=K)->mkI l<=K*l.length
 |[],_=>by simp[mkI]
 | o::r,h=>by have h1:=h o (bD ..);have h2:=XW (l:=r) λx hx=>h x (fJ _ hx);simp only[mkI,iU,Nat.mul_succ];omega
structure anP (s:bP):Prop where
 f:WZ 1048576 s
 l:s.bH.length<=1048576
 k:mkI s.bH<=900000000
theorem ZI {s:bP}(h:JU s=true):anP s:=by
 have hf:=CE.1 h;have hl:=hf.len;have hn:∀it,it∈s.bH->ItF s.kZ it:=λit hi=>Sz.1 (hf.itm it hi);have hb:=XW (K:=500) (l:=s.bH) λit hi=>by have:=ae7 (hn it hi).X6;have:=GL it.pR;unfold rtc at *;omega
 exact⟨⟨aI,λit hi=>by have:=VV (hn it hi).TQ;omega,λit hi=>⟨5,(oG (hn it hi).X6).fin0.mono aI (aC _)⟩⟩,aI,aI⟩
structure akk (r:bJ):Prop where
 f:Ar 12 5 r.Body
 k:rtc r.Body<=400
theorem abO {r:bJ}(h:Val r.Body=true):akk r:=⟨(oG h).fin0,ae7 h⟩
theorem T.acT {r:bJ}(h:akk r):Ev (λf=>G.uA f r r) true:=by refine aN ?_;simp only[G.uA,aj.eta];exact dB mg (dR mg (dB mg (ak (T.Vw xB h.f) (dR rfl (bK _)))))
section
def good (c:Int):Bool:=c==200||c==201
section
variable {s:bP} {q:bn} (hs:Hz 60 s) (hq:OI 60 q)
include hs hq
omit hs hq in
theorem T.o8 (c:Int):Ev (λf=>G.o8 f c) (good c):=by refine aN ?_;simp only[G.o8];unfold good;exact dh (λe=>aQ (by rw[e];rfl)) (λe=>aQ (by rw[e];rfl))
end
end
noncomputable def Fe : bP->List bn->bP×List bJ
 |s,[]=>(s,[])
 |s,q::l=>if good (ER s q).2.GG then((Fe (ER s q).1 l).1,(ER s q).2::(Fe (ER s q).1 l).2)else((ER s q).1,[(ER s q).2])
def Jv (l:List bJ):Bool:=l.all λr=>good r.GG
theorem Wl : ∀{l:List bn} {s:bP},JU s=true->JU (Fe s l).1=true/\(∀r,r∈(Fe s l).2->Val r.Body=true)/\(Fe s l).2.length<=l.length
 |[],s,h=>⟨h,(λr hr=>by cases hr),aC _⟩
 | q::l,s,h=>by
   obtain⟨v1,v2⟩:=VH s q;obtain⟨h1,h2,h3⟩:=Wl (l:=l) v1;rw[Fe];split
   ·refine⟨h1,λr hr=>?_,by show(_::_).length<=_;simp[h3]⟩;rcases aK.1 hr with e|e
    ·rw[e];exact v2
    ·exact h2 r e
   ·refine⟨v1,λr hr=>?_,mg⟩;rw[List.mem_singleton.1 hr];exact v2
noncomputable def ML (s:bP)(l:List bn):bP×List bJ×Bool:=
 if JU s&&Uc l then(if Jv (Fe s l).2 then((Fe s l).1,(Fe s l).2,true)else(s,(Fe s l).2,false))else(agv,[],false)
theorem Rz {l:List bn}(h:Uc l=true):(∀q,q∈l->ZU q=true)/\l.length<=8:=by unfold Uc at h;simp only[ah,aF,bf]at h;exact h
section
theorem akP {s:bP}{q:bn}(hs:JU s=true)(hq:ZU q=true):ER s q=aaN s q:=by unfold ER;rw[hs,hq];rfl
theorem ami {l:List bn}(h:Uc l=true){i:Nat}(hi:i<l.length):ZU (l.getD i default)=true:=(Rz h).1 _ (getD_mem default hi)
theorem bP.eta (s:bP):bP.mk s.bH s.kZ=s:=rfl
section
variable {s:bP} {l:List bn} (hs:Hz 60 s) (hl:TB l)
include hs hl
theorem T.kD : Ev (λf=>G.kD f s l) (ML s l):=by
 have hll:=hl.len;have L:∀(k i:Nat) (t:bP) (z:List bJ),i+k=l.length->z.length<=i->JU t=true ->
  Ev (λf=>G.gy.L1 f l i t.bH t.kZ z) ((Fe t (l.drop i)).1,z++(Fe t (l.drop i)).2):=by
  intro k
  induction k with
  | zero=>intro i t z hi hz ht;refine aN ?_;simp only[G.gy.L1];rw[ay aI];exact rX (aQ (by show(t,z)=(t,z++[]);rw[mM]))
  | succ k ih=>
    intro i t z hi hz ht;have hil:i<l.length:=(by omega);have v1:=(VH t (l.getD i default)).1;have hH:=T.aiu (ZJ ht) (hl.at_ hil);have hn:=ih (i+1) (ER t (l.getD i default)).1 (z++[(ER t (l.getD i default)).2]) aI (by simp;omega) v1;rw[gm default hil,Fe];refine aN ?_;simp only[G.gy.L1,ai,FC i];refine rW (dw (ak hH (dw (ak (T.o8 _) (dh (λe=>?_) (λe=>?_))))))
    ·rw[aA e];refine hn.eq ?_;rw[jh];rfl
    ·rw[au (by rw[e];simp)];exact bK _
 refine aN ?_;simp only[G.kD];unfold ML;refine ak (T.dY CY hs) (dh (λe1=>?_) (λe1=>aQ (by rw[e1];rfl)));refine ak (T.iZ hl) (dh (λe2=>?_) (λe2=>aQ (by rw[e1,e2];rfl)));rw[e1,e2];have hw:Ev (λf=>G.gy f s l) (Fe s l):=by refine aN ?_;simp only[G.gy];exact ak (T.fA CY hs) ((L l.length 0 s [] aI mg e1).eq (by rw[dM,lC]))
 refine ak hw ?_;have hbl:=(Wl (l:=l) (s:=s) e1).2.2;show Ev _ (if Jv (Fe s l).2 then((Fe s l).1,(Fe s l).2,true)else(s,(Fe s l).2,false));generalize Fe s l=p at hbl;have M:∀(k i:Nat),i+k=p.2.length->Ev (λf=>G.kD.L1 f s p i) (if Jv (p.2.drop i)then(p.1,p.2,true)else(s,p.2,false)):=by
  intro k
  induction k with
  | zero=>intro i hi;refine aN ?_;simp only[G.kD.L1];rw[ay aI];exact rX (bK _)
  | succ k ih=>
    intro i hi;have hil:i<p.2.length:=(by omega);rw[gm default hil];refine aN ?_;simp only[G.kD.L1,ai,FC i];refine rW (dw (ak (T.o8 _) (dh (λe=>?_) (λe=>?_))))
    ·refine(ih (i+1) aI).eq ?_;have:Jv (p.2.getD i default::p.2.drop (i+1))=Jv (p.2.drop (i+1)):=(by unfold Jv;rw[fZ,e];rfl);rw[this]
    ·have:Jv (p.2.getD i default::p.2.drop (i+1))=false:=(by unfold Jv;rw[fZ,e];rfl);rw[this];exact ak (T.fA CY hs) (bK _)
 exact M p.2.length 0 aI
theorem T.kP : Ev (λf=>G.kP f s l) (ML s l):=by
 have hll:=hl.len;refine aN ?_;simp only[G.kP];unfold ML;refine ak (T.gX CY hs) (dh (λe1=>?_) (λe1=>aQ (by rw[e1];rfl)));refine ak (T.jl hl) (dh (λe2=>?_) (λe2=>aQ (by rw[e1,e2];rfl)));have sg:∀c:Int,Ev (λf=>G.Bi f c) (good c):=λc=>by refine aN ?_;simp only[G.Bi];unfold good;exact dh (λe=>aQ (by rw[e];rfl)) (λe=>aQ (by rw[e];rfl))
 have L:∀(k i:Nat) (t:bP) (z:List bJ),i+k=l.length->z.length<=i->JU t=true ->
  Ev (λf=>G.kP.L1 f s l i z t.bH t.kZ) (if Jv (Fe t (l.drop i)).2 then((Fe t (l.drop i)).1,z++(Fe t (l.drop i)).2,true)else(s,z++(Fe t (l.drop i)).2,false)):=by
  intro k
  induction k with
  | zero=>intro i t z hi hz ht;refine aN ?_;simp only[G.kP.L1];rw[ay aI];refine rX (aQ ?_);show(t,z,true)=(t,z++[],true);rw[mM]
  | succ k ih=>
    intro i t z hi hz ht;have hil:i<l.length:=(by omega);have v1:=(VH t (l.getD i default)).1;have hq:=ami e2 hil;have hH:=T.kS (CE.1 ht) (hl.at_ hil) (NH.1 hq);rw[<- akP ht hq]at hH;have hn:=ih (i+1) (ER t (l.getD i default)).1 (z++[(ER t (l.getD i default)).2]) aI (by simp;omega) v1;rw[gm default hil];refine aN ?_;simp only[G.kP.L1,ai,FC i];refine rW (dw (ak hH (dw (ak (sg _) (dh (λe=>?_) (λe=>?_))))))
    ·have eb:Fe t (l.getD i default::l.drop (i+1))=((Fe (ER t (l.getD i default)).1 (l.drop (i+1))).1,(ER t (l.getD i default)).2::(Fe (ER t (l.getD i default)).1 (l.drop (i+1))).2):=(by rw[Fe,aA e]);refine hn.eq ?_;have:∀x,Jv ((ER t (l.getD i default)).2::x)=Jv x:=λx=>(by unfold Jv;rw[fZ,e];rfl);rw[eb,this];simp only[jh,List.singleton_append]
    ·have eb:Fe t (l.getD i default::l.drop (i+1))=((ER t (l.getD i default)).1,[(ER t (l.getD i default)).2]):=(by rw[Fe,au (by rw[e];simp)]);have:Jv [(ER t (l.getD i default)).2]=false:=(by unfold Jv;rw[fZ,e];rfl);rw[eb,this];exact ak (T.fO CY hs) (bK _)
 rw[e1,e2];exact ak (T.fO CY hs) ((L l.length 0 s [] aI mg e1).eq (by rw[dM,lC];rfl))
end
end
section
theorem Xz {l:List bn}(h:Uc l=true):TB l:=by obtain⟨h1,h2⟩:=Rz h;exact⟨aI,λq hq=>abz (NH.1 (h1 q hq))⟩
theorem T.abK {l:List bn}{left:Int}(h1:l.length<=mx)(hO:∀o,o∈l->∃D,afe D o)(h0:0<=left)(hl:left<=1048576) :
 ∃r,Ev (λf=>G.jQ f l left) r/\r<=left/\(0<=r->Yp l/\(DZ l:Int)<=9*(left-r)):=by
 unfold mx at h1;have w0:af .i64 (left-(l.length:Int))=left-(l.length:Int):=C9 aI aI;by_cases c:left-(l.length:Int)<0
 ·refine⟨-1,aN ?_,aI,λh=>by omega⟩;simp only[G.jQ,w0];exact dR (dW c) (bK _)
 ·have L:∀(k i:Nat) (a:Int),i+k=l.length->0<=a->a<=1048576->∃r,Ev (λf=>G.jQ.L1 f l a i) r/\r<=a/\(0<=r->(∀o,o∈l.drop i->Ud 1048576 o)/\(DZ (l.drop i):Int)<=4*(a-r)+5*k):=by
   intro k
   induction k with
   | zero=>
     intro i a hi ha ha2;refine⟨a,aN ?_,aI,λ_=>⟨λs hs=>?_,by rw[ay aI];simp[DZ,JM]⟩⟩
     ·simp only[G.jQ.L1];exact rX (bK _)
     ·rw[ay aI]at hs;cases hs
   | succ k ih=>
     intro i a hi ha ha2;have hil:i<l.length:=(by omega);obtain⟨D,hD⟩:=hO _ (EZ default hil);obtain⟨q,gq,q1,q2⟩:=T.adW hD ha ha2;by_cases c1:q<0
     ·refine⟨-1,aN ?_,aI,λh=>by omega⟩;simp only[G.jQ.L1,ai];exact rW (dw (ak gq (dR (dW c1) (bK _))))
     ·obtain⟨r,g,g1,g2⟩:=ih (i+1) q aI aI aI;refine⟨r,aN ?_,aI,λh=>⟨λs hs=>?_,?_⟩⟩
      ·simp only[G.jQ.L1,ai,FC i];exact rW (dw (ak gq (dB (bg c1) g)))
      ·rw[gm default hil]at hs;rcases aK.1 hs with e|e
       ·rw[e];exact(q2 aI).1
       ·exact(g2 h).1 s e
      ·have h1:=(q2 aI).2;have h2:=(g2 h).2;rw[gm default hil];simp only[DZ,JM,II]at h2⊢;omega
  obtain⟨r,g,g1,g2⟩:=L l.length 0 (left-(l.length:Int)) aI aI aI;refine⟨r,aN ?_,aI,λh=>⟨⟨aI,λs hs=>(g2 h).1 s (by rw[dM];exact hs)⟩,by have:=(g2 h).2;rw[dM]at this;omega⟩⟩;simp only[G.jQ,w0];exact dB (bg c) g
theorem T.adX {l:List bn}(h:Yp l):Ev (λf=>G.kT f l) l:=by
 have hl:=h.len;have L:∀(k i:Nat) (z:List bn),i+k=l.length->z.length=l.length->z.take i=l.take i->Ev (λf=>G.kT.L1 f l i z) l:=by
  intro k
  induction k with
  | zero=>intro i z hi hz ht;refine aN ?_;simp only[G.kT.L1];rw[bz aI,bz aI]at ht;exact rX (aQ ht)
  | succ k ih=>intro i z hi hz ht;have hil:i<l.length:=(by omega);refine aN ?_;simp only[G.kT.L1,ai,FC i];refine rW (dw (ak (T.agV (h.req _ (EZ default hil))) (dw (ih (i+1) _ aI (by rw[qR];exact hz) ?_))));rw[iD _ hil];exact NI hil hz ht
 refine aN ?_;simp only[G.kT];exact dw (L l.length 0 _ aI mg rfl)
theorem T.acS {l:List bn}(h:Yp l):Ev (λf=>G.lH f l l) true:=by
 have hl:=h.len;have L:∀(k i:Nat),i+k=l.length->Ev (λf=>G.lH.L1 f l l i) true:=by
  intro k
  induction k with
  | zero=>intro i hi;refine aN ?_;simp only[G.lH.L1];exact rX (bK _)
  | succ k ih=>intro i hi;refine aN ?_;simp only[G.lH.L1,ai,FC i];exact rW (dw (dw (ak (T.afR (h.req _ (EZ default aI))) (dR rfl (ih (i+1) aI)))))
 refine aN ?_;simp only[G.lH];exact dB mg (L l.length 0 aI)
structure ZZ (l:List bJ):Prop where
 len:l.length<=1000
 r:∀r,r∈l->akk r
theorem ZZ.k : ∀{l:List bJ},(∀r,r∈l->akk r)->Ak l<=500*l.length
 |[],_=>by simp[Ak,JM]
 | o::r,h=>by have h1:=(h o (bD ..)).k;have h2:=ZZ.k (l:=r) λx hx=>h x (fJ _ hx);have h3:=GL o.Body;unfold rtc at h1;simp only[Ak,JM,uX,iU,Nat.mul_succ]at h2⊢;omega
theorem T.aaw {l:List bJ}(h:ZZ l):Ev (λf=>G.jS f l l) true:=by
 have hl:=h.len;have L:∀(k i:Nat),i+k=l.length->Ev (λf=>G.jS.L1 f l l i) true:=by
  intro k
  induction k with
  | zero=>intro i hi;refine aN ?_;simp only[G.jS.L1];exact rX (bK _)
  | succ k ih=>intro i hi;refine aN ?_;simp only[G.jS.L1,ai,FC i];exact rW (dw (dw (ak (T.acT (h.r _ (EZ default aI))) (dR rfl (ih (i+1) aI)))))
 refine aN ?_;simp only[G.jS];exact dB mg (L l.length 0 aI)
section
variable {s:bP} {l:List bn} (hs:WZ 1048576 s) (hl:Yp l)
include hs hl
theorem T0.kD : Ev (λf=>G.kD f s l) (ML s l):=by
 cases h1:JU s with
 | true=>
   cases h2:Uc l with
   |true=>exact T.kD (ZJ h1) (Xz h2)
   | false=>refine aN ?_;simp only[G.kD];unfold ML;rw[h1,h2];exact ak (T0.dY I8 hs) (dR h1 (ak (T0.iZ hl) (dB h2 (bK _))))
 | false=>refine aN ?_;simp only[G.kD];unfold ML;rw[h1];exact ak (T0.dY I8 hs) (dB h1 (bK _))
theorem T0.kP : Ev (λf=>G.kP f s l) (ML s l):=by
 cases h1:JU s with
 | true=>
   cases h2:Uc l with
   |true=>exact T.kP (ZJ h1) (Xz h2)
   | false=>refine aN ?_;simp only[G.kP];unfold ML;rw[h1,h2];exact ak (T0.gX I8 hs) (dR h1 (ak (T0.jl hl) (dB h2 (bK _))))
 | false=>refine aN ?_;simp only[G.kP];unfold ML;rw[h1];exact ak (T0.gX I8 hs) (dB h1 (bK _))
end
theorem ajo (s:bP)(l:List bn):anP (ML s l).1/\ZZ (ML s l).2.1:=by
 unfold ML;split
 ·rename_i c;obtain⟨c1,c2⟩:=DN.1 c;obtain⟨h1,h2,h3⟩:=Wl (l:=l) (s:=s) c1;have:=(Rz c2).2;split
  ·exact⟨ZI h1,by show(Fe s l).2.length<=_;omega,λr hr=>abO (h2 r hr)⟩
  ·exact⟨ZI c1,by show(Fe s l).2.length<=_;omega,λr hr=>abO (h2 r hr)⟩
 ·exact⟨ZI ajz,mg,λr hr=>by cases hr⟩
end
theorem F.cmp_isNaN_int {n:Nat} : ∀{vw r},G.cmp_isNaN_int n vw=some r->fF pZ 226 [oI vw] (oB r):=by intro vw r h;refine bI K.cmp_isNaN_int (tq ?_);unfold C.cmp_isNaN_int;rcases n with _|n<;>simp only[G.cmp_isNaN_int,reduceCtorEq]at h;have z:=BU;exact uH
theorem F.cmp_Compare_int {n:Nat} : ∀{vw O5 r},G.cmp_Compare_int n vw O5=some r->fF pZ 223 [oI vw,oI O5] (oI r):=by intro vw O5 r h;refine bI K.cmp_Compare_int (tq ?_);unfold C.cmp_Compare_int;cases n;cases h;simp only[G.cmp_Compare_int]at h;have z:=iW (pp @F.cmp_isNaN_int ());exact uH
theorem F.cmp_isNaN_string {n:Nat} : ∀{vw r},G.cmp_isNaN_string n vw=some r->fF pZ 206 [oS vw] (oB r):=by intro vw r h;refine bI K.cmp_isNaN_string (tq ?_);unfold C.cmp_isNaN_string;rcases n with _|n<;>simp only[G.cmp_isNaN_string,reduceCtorEq]at h;have z:=BU;exact uH
theorem F.cmp_Less_string {n:Nat} : ∀{vw O5 r},G.cmp_Less_string n vw O5=some r->fF pZ 186 [oS vw,oS O5] (oB r):=by intro vw O5 r h;refine bI K.cmp_Less_string (tq ?_);unfold C.cmp_Less_string;cases n;cases h;simp only[G.cmp_Less_string]at h;have z:=iW (pp @F.cmp_isNaN_string ());exact uH
theorem F.Uk : ∀(n:Nat),∀{aG r},G.bC n aG=some r->fF pZ 124 [.agg (wN aG)] (.agg (wN r)):=by
 intro n
 induction n using iw with|_ n ih=>
 intro aG r h;refine bI K.bC (tq ?_);unfold C.bC;rcases n with _|n<;>simp only[G.bC,reduceCtorEq]at h;have z:=Oy (pp ih ()) (pp (@uM (List fD×Int×List aj) _ (λn x=>G.bC.L2 n aG x.1 x.2.1 x.2.2) r (λx=>gY.of [eP 2 113,eP 3 114,(37,.v true (.one (wK aG.aP))),eI 38 (aG.aP.length:Int),eI 39 x.2.1] [(113,.var zN),(114,.var [wI aG.bQ,wI aG.wL,wS aG.lI,.own 115 x.1.length 1,.own 116 x.2.2.length 5]),(115,.dat 1 (ax cS x.1)),(116,.dat 5 (ax aj.cells x.2.2))])) ()) (pp (@Io (List fD) _ (λn x=>G.bC.K1 n aG x) r (λx=>gY.of [eP 1 101,eP 2 102,eP 3 103] [(101,.var (wN aG)),(102,.var zN),(103,.var [wI aG.bQ,wI aG.wL,wS aG.lI,.own 104 x.length 1,.nS 5]),(104,.dat 1 (ax cS x))])) ()) (pp (bW @G.bC.K1.eq_1 <|bW @G.bC.K1.eq_2 <|bW @G.bC.L2.eq_1 <|@G.bC.L2.eq_2) ()) (pp (@gJ [] [(101,10),(102,11),(103,12),(104,13)] []) <|pp (@gJ [] [(101,10),(102,11),(103,12)] [104]) <|pp (@gJ [] [(113,102),(114,103),(115,104),(116,14)] []) <|pp (@gJ [] [(113,113),(114,114),(115,115),(116,116)] []) ());exact uH
theorem F.bC {n:Nat} : ∀{aG:aj} {r:aj},G.bC n aG=some r->fF pZ 124 [.agg (wN aG)] (.agg (wN r)):=F.Uk n
theorem F.xu {n:Nat} : ∀{aG r},G.bC n aG=some r->pO pZ 124 [.agg (wN aG)] [] (λr1 b1=>r1 = .agg [wI r.bQ,wI r.wL,wS r.lI,.own 0 r.aO.length 1,.own 1 r.aP.length 5]/\b1=[.dat 1 (ax cS r.aO),.dat 5 (ax aj.cells r.aP)]):=by intro aG r h;refine yM K.bC (tq ?_);unfold C.bC;rcases n with _|n<;>simp only[G.bC,reduceCtorEq]at h;have z:=ahc (pp @F.bC ()) (pp (@uM (List fD×Int×List aj) _ (λn x=>G.bC.L2 n aG x.1 x.2.1 x.2.2) r (λx=>gY.of [eP 2 113,eP 3 114,(37,.v true (.one (wK aG.aP))),eI 38 (aG.aP.length:Int),eI 39 x.2.1] [(113,.var zN),(114,.var [wI aG.bQ,wI aG.wL,wS aG.lI,.own 115 x.1.length 1,.own 116 x.2.2.length 5]),(115,.dat 1 (ax cS x.1)),(116,.dat 5 (ax aj.cells x.2.2))])) ()) (pp (@Io (List fD) _ (λn x=>G.bC.K1 n aG x) r (λx=>gY.of [eP 1 101,eP 2 102,eP 3 103] [(101,.var (wN aG)),(102,.var zN),(103,.var [wI aG.bQ,wI aG.wL,wS aG.lI,.own 104 x.length 1,.nS 5]),(104,.dat 1 (ax cS x))])) ()) (pp (bW @G.bC.K1.eq_1 <|bW @G.bC.K1.eq_2 <|bW @G.bC.L2.eq_1 <|@G.bC.L2.eq_2) ()) (pp (@gJ [] [(101,10),(102,11),(103,12),(104,13)] []) <|pp (@gJ [] [(101,10),(102,11),(103,12)] [104]) <|pp (@gJ [] [(113,102),(114,103),(115,104),(116,14)] []) <|pp (@gJ [] [(113,113),(114,114),(115,115),(116,116)] []) ()) (pp (@EC [] [(0,115),(1,116)] []) <|pp (@EC [] [(0,104)] [1]) ());exact uH
theorem F.slices_isNaN_string {n:Nat} : ∀{vw r},G.slices_isNaN_string n vw=some r->fF pZ 187 [oS vw] (oB r):=by intro vw r h;refine bI K.slices_isNaN_string (tq ?_);unfold C.slices_isNaN_string;rcases n with _|n<;>simp only[G.slices_isNaN_string,reduceCtorEq]at h;have z:=BU;exact uH
theorem F.slices_BinarySearch_string {n:Nat} : ∀{vw rU r},G.slices_BinarySearch_string n vw rU=some r->fF pZ 171 [oT vw,oS rU] (.AB [(false,[wI r.1]),(false,[wB r.2])]):=by intro vw rU r h;refine bI K.slices_BinarySearch_string (tq ?_);unfold C.slices_BinarySearch_string;rcases n with _|n<;>simp only[G.slices_BinarySearch_string,reduceCtorEq]at h;have z:=ji (pp @F.cmp_Less_string <|pp @F.slices_isNaN_string ()) (pp (@uM (Int×Int) _ (λn x=>G.slices_BinarySearch_string.L1 n vw rU x.1 x.2) r (λx=>gY.of [eT 0 vw,eS 1 rU,eI 6 (vw.length:Int),eI 7 x.1,eI 8 x.2] [])) ()) (pp (bW @G.slices_BinarySearch_string.L1.eq_1 <|@G.slices_BinarySearch_string.L1.eq_2) ()) (pp (@gJ [] [] []) ());exact uH
def B.ren : Go.Shelf.Ren:=⟨λn=>match n with|217=>151|266=>168|129=>214|166=>147|167=>150|169=>126|171=>148|240=>166|243=>167|246=>177|276=>176|283=>193|284=>194|285=>195|286=>196|317=>213|318=>215|319=>216|320=>217|337=>221|338=>222|_=>0,λn=>match n with|21=>21|0=>0|2=>2|3=>3|4=>4|5=>5|9=>9|20=>20|31=>25|37=>138|46=>165|51=>209|53=>196|70=>153|72=>155|75=>167|76=>168|80=>157|127=>172|164=>185|171=>195|173=>199|212=>208|213=>210|232=>215|233=>216|_=>0,λn=>match n with|1=>0|17=>1|18=>2|19=>3|_=>0⟩
theorem B.x72 : Go.Proofs.Builder.X72 pZ B.ren:=by constructor<;>kernel_rfl
theorem B.x : Go.Proofs.Builder.Extra pZ B.ren:=by constructor<;>first|exact B.x72|kernel_rfl|(intro w;kernel_rfl)|decide
theorem B.lays171 : Go.Proofs.Lays.n171 pZ B.ren:=by constructor<;>first|kernel_rfl|(intro w;kernel_rfl)
theorem B.laysM171 : Go.Proofs.LaysM.n171 pZ B.ren:=by constructor<;>first|exact B.lays171|kernel_rfl|(intro w;kernel_rfl)
theorem F.strconv_Itoa {n:Nat} : ∀{JZ:Int} {r:fD},G.strconv_Itoa n JZ=some r->fF pZ 148 [oI JZ] (oS r):=by intro i r h;rcases n with _|n<;>simp only[G.strconv_Itoa,reduceCtorEq]at h;obtain⟨⟨h0,hl⟩,h⟩:=Es.1 h;exact akn B.laysM171 h0 (bM hl xB) (by cases h;rfl)
theorem F.gU {n:Nat} : ∀{aG kJ r},G.gU n aG kJ=some r->fF pZ 201 [.agg (wN aG),oS kJ] (.AB [(false,[wI r.1]),(false,[wB r.2])]):=by intro aG kJ r h;refine bI K.gU (tq ?_);unfold C.gU;rcases n with _|n<;>simp only[G.gU,reduceCtorEq]at h;have z:=ji (pp @F.slices_BinarySearch_string <|pp @F.strconv_Itoa ()) (pp (@uM (Int) _ (λn x=>G.gU.L1 n aG kJ x) r (λx=>gY.of [eS 1 kJ,eI 21 (aG.aP.length:Int),eI 22 x] [])) ()) (pp (bW @G.gU.L1.eq_1 <|@G.gU.L1.eq_2) ()) (pp (@gJ [] [] []) ());exact uH
theorem F.je {n:Nat} : ∀{aX:List aj} {JZ:Int} {EU:List aj} {r:List aj},G.je n aX JZ EU=some r ->
 pO pZ 189 [.one (.own 0 aX.length 5),oI JZ,.one (.own 1 EU.length 5)] [.dat 5 (ax aj.cells aX),.dat 5 (ax aj.cells EU)]
  (λr1 b1=>r1 = .one (.own 2 r.length 5)/\b1=[.dead,.dat 5 (ax aj.cells EU),.dat 5 (ax aj.cells r)]):=by
 intro s i v r h;rcases n with _|n<;>simp only[G.je,reduceCtorEq]at h;exact FG.ins _ (cb:=80) xB K.je h
theorem F.mZ {n:Nat} : ∀{aX:List fD} {JZ:Int} {EU:List fD} {r:List fD},G.mZ n aX JZ EU=some r ->
 pO pZ 188 [.one (.own 0 aX.length 1),oI JZ,.one (.own 1 EU.length 1)] [.dat 1 (ax cS aX),.dat 1 (ax cS EU)]
  (λr1 b1=>r1 = .one (.own 2 r.length 1)/\b1=[.dead,.dat 1 (ax cS EU),.dat 1 (ax cS r)]):=by
 intro s i v r h;rcases n with _|n<;>simp only[G.mZ,reduceCtorEq]at h;exact FG.ins _ (cb:=16) xB K.mZ h
theorem F.pW {n:Nat} : ∀{BV fU iY r},G.pW n BV fU iY=some r->pO pZ 172 [.one (.ptr 0 0),oS fU,.agg (wN iY)] [.var [wI BV.bQ,wI BV.wL,wS BV.lI,.own 1 BV.aO.length 1,.own 2 BV.aP.length 5],.dat 1 (ax cS BV.aO),.dat 5 (ax aj.cells BV.aP)] (λr1 b1=>r1 = .AB []/\b1=[.var [wI r.bQ,wI r.wL,wS r.lI,.own 3 r.aO.length 1,.own 4 r.aP.length 5],.dead,.dead,.dat 1 (ax cS r.aO),.dat 5 (ax aj.cells r.aP)]):=by intro BV fU iY r h;refine yM K.pW (tq ?_);unfold C.pW;rcases n with _|n<;>simp only[G.pW,reduceCtorEq]at h;have z:=IQ (pp @F.slices_BinarySearch_string ()) (pp (pp @F.mZ (@cG [1,11] [101])) <|pp (pp @F.je (@cG [2,12] [102])) ()) (pp (@EC [] [(0,0),(1,1),(2,2),(3,1),(4,2)] []) <|pp (@EC [] [(0,0),(1,1),(2,2),(3,101),(4,102)] []) ());exact uH
theorem F.lX {n:Nat} : ∀{aG kJ iY r},G.lX n aG kJ iY=some r->fF pZ 199 [.agg (wN aG),oS kJ,.agg (wN iY)] (.AB [(true,(wN r.1)),(false,[wB r.2])]):=by intro aG kJ iY r h;refine bI K.lX (tq ?_);unfold C.lX;rcases n with _|n<;>simp only[G.lX,reduceCtorEq]at h;have z:=ahd (pp @F.gU <|pp @F.strconv_Itoa ()) (pp (pp @F.xu (@cG [] [101,102])) <|pp (pp @F.xu (@cG [] [103,104])) <|pp (pp @F.pW (@cH [13,101,102] [105,106])) <|pp (pp @F.xu (@cG [] [112,113])) <|pp (pp @F.je (@cG [111,14] [114])) ()) (pp (@Io (aj×Int×Bool) _ (λn x=>G.lX.K1 n iY x.1 x.2.1 x.2.2) r (λx=>gY.of [eP 5 107,eP 6 108,eP 8 109,eI 9 x.2.1,eB 10 x.2.2] [(107,.var (wN iY)),(108,.var zN),(109,.var [wI x.1.bQ,wI x.1.wL,wS x.1.lI,.own 110 x.1.aO.length 1,.own 111 x.1.aP.length 5]),(110,.dat 1 (ax cS x.1.aO)),(111,.dat 5 (ax aj.cells x.1.aP))])) ()) (pp (bW @G.lX.K1.eq_1 <|@G.lX.K1.eq_2) ()) (pp (@gJ [] [(107,11),(108,12),(109,13),(110,101),(111,102)] []) ());exact uH
theorem F.vC {n:Nat} : ∀{Am lq pM AY r},G.vC n Am lq pM AY=some r->pO pZ 198 [.agg (wN Am),.one (.ptr 0 0),.one (.ptr 1 0),.one (.ptr 2 0)] [.var [wT lq],.var [wI pM],.var (wN AY)] (λr1 b1=>r1 = .AB [(true,(wN r.1)),(false,[wB r.2])]/\b1=[.var [wT lq],.var [wI pM],.var (wN AY)]):=by intro Am lq pM AY r h;refine yM K.vC (tq ?_);unfold C.vC;rcases n with _|n<;>simp only[G.vC,reduceCtorEq]at h;have z:=Yl (pp @F.lX ()) (pp (@EC [] [(0,0),(1,1),(2,2)] []) ());exact uH
theorem F.gK {n:Nat} : ∀{aX r},G.gK n aX=some r->fF pZ 163 [oS aX] (oB r):=by intro aX r h;refine bI K.gK (tq ?_);unfold C.gK;rcases n with _|n<;>simp only[G.gK,reduceCtorEq]at h;have z:=zK (pp (@uM (Int) _ (λn x=>G.gK.L1 n aX x) r (λx=>gY.of [eS 0 aX,eI 3 x] [])) ()) (pp (bW @G.gK.L1.eq_1 <|@G.gK.L1.eq_2) ()) (pp (@gJ [] [] []) ());exact uH
theorem F.kM {n:Nat} : ∀{xU r},G.kM n xU=some r->fF pZ 164 [oT xU] (oB r):=by intro xU r h;refine bI K.kM (tq ?_);unfold C.kM;rcases n with _|n<;>simp only[G.kM,reduceCtorEq]at h;have z:=ji (pp @F.gK ()) (pp (@uM (Int) _ (λn x=>G.kM.L1 n xU x) r (λx=>gY.of [eT 0 xU,eT 8 xU,eI 9 (xU.length:Int),eI 10 x] [])) ()) (pp (bW @G.kM.L1.eq_1 <|@G.kM.L1.eq_2) ()) (pp (@gJ [] [] []) ());exact uH
theorem F.gV {n:Nat} : ∀{aG r},G.gV n aG=some r->fF pZ 144 [.agg (wN aG)] (oB r):=by intro aG r h;refine bI K.gV (tq ?_);unfold C.gV;rcases n with _|n<;>simp only[G.gV,reduceCtorEq]at h;have z:=IM (pp @F.gK <|pp @F.kM ()) (pp (@Io (Unit) _ (λn x=>G.gV.K1 n aG) r (λx=>gY.of [eP 1 101,eB 20 false] [(101,.var (wN aG))])) ()) (pp (bW @G.gV.K1.eq_1 <|@G.gV.K1.eq_2) ()) (pp (@gJ [] [(101,10)] []) ());exact uH
theorem F.Po : ∀(n:Nat),∀{aG Bj r},G.gB n aG Bj=some r->fF pZ 119 [.agg (wN aG),oI Bj] (.AB [(false,[wI r.1]),(false,[wI r.2.1]),(false,[wB r.2.2])]):=by
 intro n
 induction n using iw with|_ n ih=>
 intro aG Bj r h;refine bI K.gB (tq ?_);unfold C.gB;rcases n with _|n<;>simp only[G.gB,reduceCtorEq]at h;have z:=ji (pp ih <|pp @F.gV ()) (pp (@uM (Int×Int×Int) _ (λn x=>G.gB.L1 n aG Bj x.1 x.2.1 x.2.2) r (λx=>gY.of [eI 1 Bj,eI 4 x.1,eI 5 x.2.1,(20,.v true (.one (wK aG.aP))),eI 21 (aG.aP.length:Int),eI 22 x.2.2] [])) ()) (pp (bW @G.gB.L1.eq_1 <|@G.gB.L1.eq_2) ()) (pp (@gJ [] [] []) ());exact uH
theorem F.gB {n:Nat} : ∀{aG:aj} {Bj:Int} {r:Int×Int×Bool},G.gB n aG Bj=some r->fF pZ 119 [.agg (wN aG),oI Bj] (.AB [(false,[wI r.1]),(false,[wI r.2.1]),(false,[wB r.2.2])]):=F.Po n
theorem F.dm {n:Nat} : ∀{aG r},G.dm n aG=some r->fF pZ 92 [.agg (wN aG)] (oB r):=by intro aG r h;refine bI K.dm (tq ?_);unfold C.dm;cases n;cases h;simp only[G.dm]at h;have z:=iW (pp @F.gB ());exact uH
theorem F.Gq : ∀(n:Nat),∀{aG aV lq pM AY r},G.jE n aG aV lq pM AY=some r->pO pZ 197 [.agg (wN aG),oT aV,.one (.fn 198 [0,1,2])] [.var [wT lq],.var [wI pM],.var (wN AY)] (λr1 b1=>r1 = .AB [(true,(wN r.1)),(false,[wB r.2])]/\b1=[.var [wT lq],.var [wI pM],.var (wN AY)]):=by
 intro n
 induction n using iw with|_ n ih=>
 intro aG aV lq pM AY r h;refine yM K.jE (tq ?_);unfold C.Dk;rcases n with _|n<;>simp only[G.jE,reduceCtorEq]at h;have z:=IQ (pp @F.gU ()) (pp (pp ih (@cG [0,1,2] [])) <|pp (pp @F.vC (@cG [0,1,2] [])) <|pp (pp @F.xu (@cG [] [101,102])) ()) (pp (@EC [] [(0,0),(1,1),(2,2)] []) <|pp (@EC [101,102] [(0,0),(1,1),(2,2)] []) ());exact uH
theorem F.jE {n:Nat} : ∀{aG:aj} {aV:List fD} {lq:List fD} {pM:Int} {AY:aj} {r:aj×Bool},G.jE n aG aV lq pM AY=some r->pO pZ 197 [.agg (wN aG),oT aV,.one (.fn 198 [0,1,2])] [.var [wT lq],.var [wI pM],.var (wN AY)] (λr1 b1=>r1 = .AB [(true,(wN r.1)),(false,[wB r.2])]/\b1=[.var [wT lq],.var [wI pM],.var (wN AY)]):=F.Gq n
theorem F.pV {n:Nat} : ∀{aG MM r},G.pV n aG MM=some r->fF pZ 154 [.agg (wN aG),oB MM] (.AB [(true,(wN r.1)),(false,[wB r.2])]):=by intro aG MM r h;refine bI K.pV (tq ?_);unfold C.pV;cases n;cases h;simp only[G.pV]at h;have z:=iW (pp @F.dm ());exact uH
theorem F.jq {n:Nat} : ∀{aV r},G.jq n aV=some r->fF pZ 145 [oT aV] (oB r):=by intro aV r h;refine bI K.jq (tq ?_);unfold C.jq;rcases n with _|n<;>simp only[G.jq,reduceCtorEq]at h;have z:=ji (pp @F.gK ()) (pp (@uM (Int) _ (λn x=>G.jq.L1 n aV x) r (λx=>gY.of [eT 8 aV,eI 9 (aV.length:Int),eI 10 x] [])) ()) (pp (bW @G.jq.L1.eq_1 <|@G.jq.L1.eq_2) ()) (pp (@gJ [] [] []) ());exact uH
theorem F.oQ {n:Nat} : ∀{aG aV iY r},G.oQ n aG aV iY=some r->fF pZ 178 [.agg (wN aG),oT aV,.agg (wN iY)] (.AB [(true,(wN r.1)),(false,[wB r.2])]):=by intro aG aV iY r h;refine bI K.oQ (tq ?_);unfold C.oQ;rcases n with _|n<;>simp only[G.oQ,reduceCtorEq]at h;have z:=IP (pp @F.dm <|pp @F.jq <|pp @F.bC <|pp @F.pV ()) (pp (pp @F.jE (@cG [11,14,12] [])) ());exact uH
theorem F.kN {n:Nat} : ∀{aG aV r},G.kN n aG aV=some r->fF pZ 204 [.agg (wN aG),oT aV] (.AB [(true,(wN r.1)),(false,[wB r.2])]):=by intro aG aV r h;refine bI K.kN (tq ?_);unfold C.kN;rcases n with _|n<;>simp only[G.kN,reduceCtorEq]at h;have z:=ji (pp @F.gU ()) (pp (@uM (Int×Int×Int×fD×List fD×List aj) _ (λn x=>G.kN.L1 n aV x.1 x.2.1 x.2.2.1 x.2.2.2.1 x.2.2.2.2.1 x.2.2.2.2.2) r (λx=>gY.of [eP 2 105,eP 4 106,eT 10 aV,eI 11 (aV.length:Int),eI 12 x.1] [(105,.var [wI x.2.1,wI x.2.2.1,wS x.2.2.2.1,wT x.2.2.2.2.1,wK x.2.2.2.2.2]),(106,.var zN)])) ()) (pp (bW @G.kN.L1.eq_1 <|@G.kN.L1.eq_2) ()) (pp (@gJ [] [(105,10),(106,11)] []) <|pp (@gJ [] [(105,105),(106,106)] []) ());exact uH
theorem F.uP {n:Nat} : ∀{aG aV r},G.uP n aG aV=some r->fF pZ 182 [.agg (wN aG),oT aV] (.AB [(true,(wN r.1)),(false,[wB r.2])]):=by intro aG aV r h;refine bI K.uP (tq ?_);unfold C.uP;cases n;cases h;simp only[G.uP]at h;have z:=iW (pp @F.dm <|pp @F.jq <|pp @F.kN <|pp @F.bC ());exact uH
theorem F.jW {n:Nat} : ∀{aX:List aj} {JZ:Int} {Z8:Int} {r:List aj},G.jW n aX JZ Z8=some r ->
 pO pZ 185 [.one (.own 0 aX.length 5),oI JZ,oI Z8] [.dat 5 (ax aj.cells aX)]
  (λr1 b1=>r1 = .one (.own 1 r.length 5)/\b1=[.dead,.dat 5 (ax aj.cells r)]):=by
 intro s i j r h;rcases n with _|n<;>simp only[G.jW,reduceCtorEq]at h;exact FG.del _ (cb:=80) xB K.jW h
theorem F.slices_Delete_string {n:Nat} : ∀{aX:List fD} {JZ:Int} {Z8:Int} {r:List fD},G.slices_Delete_string n aX JZ Z8=some r ->
 pO pZ 184 [.one (.own 0 aX.length 1),oI JZ,oI Z8] [.dat 1 (ax cS aX)]
  (λr1 b1=>r1 = .one (.own 1 r.length 1)/\b1=[.dead,.dat 1 (ax cS r)]):=by
 intro s i j r h;rcases n with _|n<;>simp only[G.slices_Delete_string,reduceCtorEq]at h;exact FG.del _ (cb:=16) xB K.slices_Delete_string h
theorem F.jo {n:Nat} : ∀{Am lq pM r},G.jo n Am lq pM=some r->pO pZ 200 [.agg (wN Am),.one (.ptr 0 0),.one (.ptr 1 0)] [.var [wT lq],.var [wI pM]] (λr1 b1=>r1 = .AB [(true,(wN r.1)),(false,[wB r.2])]/\b1=[.var [wT lq],.var [wI pM]]):=by intro Am lq pM r h;refine yM K.jo (tq ?_);unfold C.jo;rcases n with _|n<;>simp only[G.jo,reduceCtorEq]at h;have z:=ahe (pp @F.gU ()) (pp (pp @F.xu (@cG [] [101,102])) <|pp (pp @F.slices_Delete_string (@cG [101] [109])) <|pp (pp @F.jW (@cG [107] [108])) ()) (pp (@Io ((Int×Bool)×aj×List fD) _ (λn x=>G.jo.K1 n x.1 x.2.1 x.2.2) r (λx=>gY.of [eP 4 104,eI 6 x.1.1,eP 8 105] [(0,.var [wT lq]),(1,.var [wI pM]),(104,.var zN),(105,.var [wI x.2.1.bQ,wI x.2.1.wL,wS x.2.1.lI,.own 106 x.2.2.length 1,.own 107 x.2.1.aP.length 5]),(106,.dat 1 (ax cS x.2.2)),(107,.dat 5 (ax aj.cells x.2.1.aP))])) ()) (pp (bW @G.jo.K1.eq_1 <|@G.jo.K1.eq_2) ()) (pp (@gJ [] [(0,0),(1,1),(104,11),(105,12),(106,109),(107,102)] []) <|pp (@gJ [] [(0,0),(1,1),(104,11),(105,12),(106,101),(107,102)] []) ()) (pp (@EC [106,108] [(0,0),(1,1)] []) <|pp (@EC [] [(0,0),(1,1)] []) ());exact uH
theorem F.E5 : ∀(n:Nat),∀{aG aV lq pM r},G.ja n aG aV lq pM=some r->pO pZ 197 [.agg (wN aG),oT aV,.one (.fn 200 [0,1])] [.var [wT lq],.var [wI pM]] (λr1 b1=>r1 = .AB [(true,(wN r.1)),(false,[wB r.2])]/\b1=[.var [wT lq],.var [wI pM]]):=by
 intro n
 induction n using iw with|_ n ih=>
 intro aG aV lq pM r h;refine yM K.ja (tq ?_);unfold C.Dk;rcases n with _|n<;>simp only[G.ja,reduceCtorEq]at h;have z:=IQ (pp @F.gU ()) (pp (pp ih (@cG [0,1] [])) <|pp (pp @F.jo (@cG [0,1] [])) <|pp (pp @F.xu (@cG [] [101,102])) ()) (pp (@EC [] [(0,0),(1,1)] []) <|pp (@EC [101,102] [(0,0),(1,1)] []) ());exact uH
theorem F.ja {n:Nat} : ∀{aG:aj} {aV:List fD} {lq:List fD} {pM:Int} {r:aj×Bool},G.ja n aG aV lq pM=some r->pO pZ 197 [.agg (wN aG),oT aV,.one (.fn 200 [0,1])] [.var [wT lq],.var [wI pM]] (λr1 b1=>r1 = .AB [(true,(wN r.1)),(false,[wB r.2])]/\b1=[.var [wT lq],.var [wI pM]]):=F.E5 n
theorem F.mF {n:Nat} : ∀{aG aV r},G.mF n aG aV=some r->fF pZ 179 [.agg (wN aG),oT aV] (.AB [(true,(wN r.1)),(false,[wB r.2])]):=by intro aG aV r h;refine bI K.mF (tq ?_);unfold C.mF;rcases n with _|n<;>simp only[G.mF,reduceCtorEq]at h;have z:=IP (pp @F.dm <|pp @F.jq ()) (pp (pp @F.ja (@cG [11,13] [])) ());exact uH
theorem F.vF {n:Nat} : ∀{aS lq r},G.vF n aS lq=some r->pO pZ 202 [.agg (wN aS),.one (.ptr 0 0)] [.var (wN lq)] (λr1 b1=>r1 = .AB [(true,(wN r.1)),(false,[wB r.2])]/\b1=[.var (wN lq)]):=by intro aS lq r h;refine yM K.vF (tq ?_);unfold C.vF;rcases n with _|n<;>simp only[G.vF,reduceCtorEq]at h;have z:=Yl (pp @F.bC ()) (pp (@EC [] [(0,0)] []) ());exact uH
theorem F.Gt : ∀(n:Nat),∀{aG aV lq r},G.jF n aG aV lq=some r->pO pZ 197 [.agg (wN aG),oT aV,.one (.fn 202 [0])] [.var (wN lq)] (λr1 b1=>r1 = .AB [(true,(wN r.1)),(false,[wB r.2])]/\b1=[.var (wN lq)]):=by
 intro n
 induction n using iw with|_ n ih=>
 intro aG aV lq r h;refine yM K.jF (tq ?_);unfold C.Dk;rcases n with _|n<;>simp only[G.jF,reduceCtorEq]at h;have z:=IQ (pp @F.gU ()) (pp (pp ih (@cG [0] [])) <|pp (pp @F.vF (@cG [0] [])) <|pp (pp @F.xu (@cG [] [101,102])) ()) (pp (@EC [] [(0,0)] []) <|pp (@EC [101,102] [(0,0)] []) ());exact uH
theorem F.jF {n:Nat} : ∀{aG:aj} {aV:List fD} {lq:aj} {r:aj×Bool},G.jF n aG aV lq=some r->pO pZ 197 [.agg (wN aG),oT aV,.one (.fn 202 [0])] [.var (wN lq)] (λr1 b1=>r1 = .AB [(true,(wN r.1)),(false,[wB r.2])]/\b1=[.var (wN lq)]):=F.Gt n
theorem F.vP {n:Nat} : ∀{aG aV iY r},G.vP n aG aV iY=some r->fF pZ 180 [.agg (wN aG),oT aV,.agg (wN iY)] (.AB [(true,(wN r.1)),(false,[wB r.2])]):=by intro aG aV iY r h;refine bI K.vP (tq ?_);unfold C.vP;rcases n with _|n<;>simp only[G.vP,reduceCtorEq]at h;have z:=IP (pp @F.dm <|pp @F.jq <|pp @F.pV ()) (pp (pp @F.jF (@cG [11] [])) ());exact uH
theorem F.vK {n:Nat} : ∀{vz r},G.vK n vz=some r->fF pZ 120 [.agg (wO vz)] (oB r):=by intro vz r h;refine bI K.vK (tq ?_);unfold C.vK;cases n;cases h;simp only[G.vK]at h;have z:=iW (pp @F.jq <|pp @F.dm ());exact uH
theorem F.slices_Equal_string {n:Nat} : ∀{Jp LX r},G.slices_Equal_string n Jp LX=some r->fF pZ 203 [oT Jp,oT LX] (oB r):=by intro Jp LX r h;refine bI K.slices_Equal_string (tq ?_);unfold C.slices_Equal_string;rcases n with _|n<;>simp only[G.slices_Equal_string,reduceCtorEq]at h;have z:=zK (pp (@uM (Int) _ (λn x=>G.slices_Equal_string.L1 n Jp LX x) r (λx=>gY.of [eT 0 Jp,eT 1 LX,eI 12 (Jp.length:Int),eI 13 x] [])) ()) (pp (bW @G.slices_Equal_string.L1.eq_1 <|@G.slices_Equal_string.L1.eq_2) ()) (pp (@gJ [] [] []) ());exact uH
theorem F.uJ {n:Nat} : ∀{aG Ec aV r},G.uJ n aG Ec aV=some r->fF pZ 181 [.agg (wN aG),oT Ec,oT aV] (.AB [(true,(wN r.1)),(false,[wB r.2])]):=by intro aG Ec aV r h;refine bI K.uJ (tq ?_);unfold C.uJ;cases n;cases h;simp only[G.uJ]at h;have z:=iW (pp @F.uP <|pp @F.slices_Equal_string <|pp @F.bC <|pp @F.mF <|pp @F.oQ ());exact uH
theorem F.iH {n:Nat} : ∀{aS gG r},G.iH n aS gG=some r->fF pZ 146 [oS aS,oS gG] (oI r):=by intro aS gG r h;refine bI K.iH (tq ?_);unfold C.iH;rcases n with _|n<;>simp only[G.iH,reduceCtorEq]at h;have z:=BU;exact uH
theorem F.strings_Compare {n:Nat} : ∀{aS gG r},G.strings_Compare n aS gG=some r->fF pZ 123 [oS aS,oS gG] (oI r):=by intro aS gG r h;refine bI K.strings_Compare (tq ?_);unfold C.strings_Compare;cases n;cases h;simp only[G.strings_Compare]at h;have z:=iW (pp @F.iH ());exact uH
theorem F.OA : ∀(n:Nat),∀{aS gG r},G.dQ n aS gG=some r->fF pZ 218 [.agg (wN aS),.agg (wN gG)] (oI r):=by
 intro n
 induction n using iw with|_ n ih=>
 intro aS gG r h;refine bI K.dQ (tq ?_);unfold C.dQ;rcases n with _|n<;>simp only[G.dQ,reduceCtorEq]at h;have z:=Oy (pp ih <|pp @F.cmp_Compare_int <|pp @F.strings_Compare ()) (pp (@uM (Int) _ (λn x=>G.dQ.L3 n aS gG x) r (λx=>gY.of [eP 2 109,eP 3 110,eI 8 x] [(109,.var (wN aS)),(110,.var (wN gG))])) ()) (pp (@Io (Int) _ (λn x=>G.dQ.K4 n aS gG x) r (λx=>gY.of [eP 2 111,eP 3 112,eI 8 x] [(111,.var (wN aS)),(112,.var (wN gG))])) ()) (pp (bW @G.dQ.L3.eq_1 <|bW @G.dQ.L3.eq_2 <|bW @G.dQ.K4.eq_1 <|@G.dQ.K4.eq_2) ()) (pp (@gJ [] [(109,10),(110,11)] []) <|pp (@gJ [] [(111,109),(112,110)] []) <|pp (@gJ [] [(109,111),(110,112)] []) ());exact uH
theorem F.dQ {n:Nat} : ∀{aS:aj} {gG:aj} {r:Int},G.dQ n aS gG=some r->fF pZ 218 [.agg (wN aS),.agg (wN gG)] (oI r):=F.OA n
theorem F.uK {n:Nat} : ∀{aS gG r},G.uK n aS gG=some r->fF pZ 205 [.agg (wN aS),.agg (wN gG)] (oB r):=by intro aS gG r h;refine bI K.uK (tq ?_);unfold C.uK;cases n;cases h;simp only[G.uK]at h;have z:=iW (pp @F.dQ ());exact uH
theorem F.sF {n:Nat} : ∀{aG aV iY r},G.sF n aG aV iY=some r->fF pZ 183 [.agg (wN aG),oT aV,.agg (wN iY)] (.AB [(true,(wN r.1)),(false,[wB r.2])]):=by intro aG aV iY r h;refine bI K.sF (tq ?_);unfold C.sF;cases n;cases h;simp only[G.sF]at h;have z:=iW (pp @F.kN <|pp @F.uK <|pp @F.bC ());exact uH
theorem F.rM {n:Nat} : ∀{aG vz r},G.rM n aG vz=some r->fF pZ 169 [.agg (wN aG),.agg (wO vz)] (.AB [(true,(wN r.1)),(false,[wB r.2])]):=by intro aG vz r h;refine bI K.rM (tq ?_);unfold C.rM;cases n;cases h;simp only[G.rM]at h;have z:=iW (pp @F.dm <|pp @F.vK <|pp @F.oQ <|pp @F.mF <|pp @F.vP <|pp @F.uJ <|pp @F.uP <|pp @F.sF ());exact uH
theorem F.gZ {n:Nat} : ∀{aU r},G.gZ n aU=some r->fF pZ 94 [.one (w8 aU)] (oB r):=by intro aU r h;refine bI K.gZ (tq ?_);unfold C.gZ;rcases n with _|n<;>simp only[G.gZ,reduceCtorEq]at h;have z:=ji (pp @F.vK ()) (pp (@uM (Int) _ (λn x=>G.gZ.L1 n aU x) r (λx=>gY.of [(8,.v true (.one (w8 aU))),eI 9 (aU.length:Int),eI 10 x] [])) ()) (pp (bW @G.gZ.L1.eq_1 <|@G.gZ.L1.eq_2) ()) (pp (@gJ [] [] []) ());exact uH
theorem F.lG {n:Nat} : ∀{aG aU r},G.lG n aG aU=some r->fF pZ 153 [.agg (wN aG),.one (w8 aU)] (.AB [(true,(wN r.1)),(false,[wI r.2])]):=by intro aG aU r h;refine bI K.lG (tq ?_);unfold C.lG;rcases n with _|n<;>simp only[G.lG,reduceCtorEq]at h;have z:=ji (pp @F.bC <|pp @F.rM ()) (pp (@uM (Int×Int×Int×fD×List fD×List aj) _ (λn x=>G.lG.L1 n aU x.1 x.2.1 x.2.2.1 x.2.2.2.1 x.2.2.2.2.1 x.2.2.2.2.2) r (λx=>gY.of [(1,.v true (.one (w8 aU))),eP 4 105,eP 6 106,(13,.v true (.one (w8 aU))),eI 14 (aU.length:Int),eI 15 x.1] [(105,.var zN),(106,.var [wI x.2.1,wI x.2.2.1,wS x.2.2.2.1,wT x.2.2.2.2.1,wK x.2.2.2.2.2])])) ()) (pp (bW @G.lG.L1.eq_1 <|@G.lG.L1.eq_2) ()) (pp (@gJ [] [(105,11),(106,12)] []) <|pp (@gJ [] [(105,105),(106,106)] []) ());exact uH
theorem F.ry {n:Nat} : ∀{aG aU r},G.ry n aG aU=some r->fF pZ 130 [.agg (wN aG),.one (w8 aU)] (.AB [(true,(wN r.1)),(false,[wB r.2])]):=by intro aG aU r h;refine bI K.ry (tq ?_);unfold C.ry;cases n;cases h;simp only[G.ry]at h;have z:=iW (pp @F.dm <|pp @F.gZ <|pp @F.lG ());exact uH
theorem F.jR {n:Nat} : ∀{aX P8 r},G.jR n aX P8=some r->fF pZ 151 [oS aX,.one (.c (.lit (.int .u8 P8)))] (oI r):=by intro aX P8 r h;refine bI K.jR (tq ?_);unfold C.jR;rcases n with _|n<;>simp only[G.jR,reduceCtorEq]at h;have z:=BU;exact uH
theorem F.strings_IndexByte {n:Nat} : ∀{aX P8 r},G.strings_IndexByte n aX P8=some r->fF pZ 127 [oS aX,.one (.c (.lit (.int .u8 P8)))] (oI r):=by intro aX P8 r h;refine bI K.strings_IndexByte (tq ?_);unfold C.strings_IndexByte;cases n;cases h;simp only[G.strings_IndexByte]at h;have z:=iW (pp @F.jR ());exact uH
theorem F.o9 {n:Nat} : ∀{aX r},G.o9 n aX=some r->fF pZ 99 [oS aX] (oB r):=by intro aX r h;refine bI K.o9 (tq ?_);unfold C.o9;rcases n with _|n<;>simp only[G.o9,reduceCtorEq]at h;have z:=ji (pp @F.strings_IndexByte ()) (pp (@uM (Int) _ (λn x=>G.o9.L1 n aX x) r (λx=>gY.of [eS 0 aX,eI 3 x] [])) ()) (pp (bW @G.o9.L1.eq_1 <|@G.o9.L1.eq_2) ()) (pp (@gJ [] [] []) ());exact uH
theorem F.kK {n:Nat} : ∀{aU r},G.kK n aU=some r->fF pZ 93 [oT aU] (oB r):=by intro aU r h;refine bI K.kK (tq ?_);unfold C.kK;rcases n with _|n<;>simp only[G.kK,reduceCtorEq]at h;have z:=ji (pp @F.o9 ()) (pp (@uM (Int) _ (λn x=>G.kK.L1 n aU x) r (λx=>gY.of [eT 8 aU,eI 9 (aU.length:Int),eI 10 x] [])) ()) (pp (bW @G.kK.L1.eq_1 <|@G.kK.L1.eq_2) ()) (pp (@gJ [] [] []) ());exact uH
theorem F.slices_Index_string {n:Nat} : ∀{aX EU r},G.slices_Index_string n aX EU=some r->fF pZ 152 [oT aX,oS EU] (oI r):=by intro aX EU r h;refine bI K.slices_Index_string (tq ?_);unfold C.slices_Index_string;rcases n with _|n<;>simp only[G.slices_Index_string,reduceCtorEq]at h;have z:=zK (pp (@uM (Int) _ (λn x=>G.slices_Index_string.L1 n aX EU x) r (λx=>gY.of [eT 0 aX,eS 1 EU,eI 7 (aX.length:Int),eI 8 x] [])) ()) (pp (bW @G.slices_Index_string.L1.eq_1 <|@G.slices_Index_string.L1.eq_2) ()) (pp (@gJ [] [] []) ());exact uH
theorem F.slices_Contains_string {n:Nat} : ∀{aX EU r},G.slices_Contains_string n aX EU=some r->fF pZ 128 [oT aX,oS EU] (oB r):=by intro aX EU r h;refine bI K.slices_Contains_string (tq ?_);unfold C.slices_Contains_string;cases n;cases h;simp only[G.slices_Contains_string]at h;have z:=iW (pp @F.slices_Index_string ());exact uH
theorem F.qV {n:Nat} : ∀{aU uh r},G.qV n aU uh=some r->fF pZ 100 [oT aU,oS uh] (oB r):=by intro aU uh r h;refine bI K.qV (tq ?_);unfold C.qV;cases n;cases h;simp only[G.qV]at h;have z:=iW (pp @F.slices_Contains_string ());exact uH
theorem F.lg {n:Nat} : ∀{Aa vZ uh yF r},G.lg n Aa vZ uh yF=some r->fF pZ 48 [oT Aa,oT vZ,oS uh,oB yF] (oI r):=by intro Aa vZ uh yF r h;refine bI K.lg (tq ?_);unfold C.lg;rcases n with _|n<;>simp only[G.lg,reduceCtorEq]at h;have z:=IM (pp @F.kK <|pp @F.o9 <|pp @F.qV ()) (pp (@Io (Unit) _ (λn x=>G.lg.K1 n Aa vZ uh yF) r (λx=>gY.of [eT 0 Aa,eT 1 vZ,eS 2 uh,eB 3 yF,eB 25 false] [])) ()) (pp (bW @G.lg.K1.eq_1 <|@G.lg.K1.eq_2) ()) (pp (@gJ [] [] []) ());exact uH
theorem F.kR {n:Nat} : ∀{aX r},G.kR n aX=some r->fF pZ 91 [oS aX] (oB r):=by intro aX r h;refine bI K.kR (tq ?_);unfold C.kR;rcases n with _|n<;>simp only[G.kR,reduceCtorEq]at h;have z:=zK (pp (@uM (Int) _ (λn x=>G.kR.L1 n aX x) r (λx=>gY.of [eS 0 aX,eI 3 x] [])) ()) (pp (bW @G.kR.L1.eq_1 <|@G.kR.L1.eq_2) ()) (pp (@gJ [] [] []) ());exact uH
theorem F.dY {n:Nat} : ∀{aX r},G.dY n aX=some r->fF pZ 43 [.agg (wU aX)] (oB r):=by intro aX r h;refine bI K.dY (tq ?_);unfold C.dY;rcases n with _|n<;>simp only[G.dY,reduceCtorEq]at h;have z:=ji (pp @F.kR <|pp @F.dm ()) (pp (@uM (Int) _ (λn x=>G.dY.L1 n aX x) r (λx=>gY.of [eP 1 103,(20,.v true (.one (w7 aX.bH))),eI 21 (aX.bH.length:Int),eI 22 x] [(103,.var (wU aX))])) ()) (pp (bW @G.dY.L1.eq_1 <|@G.dY.L1.eq_2) ()) (pp (@gJ [] [(103,10)] []) <|pp (@gJ [] [(103,103)] []) ());exact uH
theorem F.sD {n:Nat} : ∀{yU r},G.sD n yU=some r->fF pZ 96 [.agg (wM yU)] (.agg (wM r)):=by intro yU r h;refine bI K.sD (tq ?_);unfold C.sD;cases n;cases h;simp only[G.sD]at h;have z:=iW (pp @F.bC ());exact uH
theorem F.fA {n:Nat} : ∀{aX r},G.fA n aX=some r->fF pZ 46 [.agg (wU aX)] (.agg (wU r)):=by intro aX r h;refine bI K.fA (tq ?_);unfold C.fA;rcases n with _|n<;>simp only[G.fA,reduceCtorEq]at h;have z:=ji (pp @F.sD ()) (pp (@uM (Int×List fB) _ (λn x=>G.fA.L1 n aX x.1 x.2) r (λx=>gY.of [eP 2 107,eP 3 108,(19,.v true (.one (w7 aX.bH))),eI 20 (aX.bH.length:Int),eI 21 x.1] [(107,.var [.nS 7,wI 0]),(108,.var [.own 109 x.2.length 7,wI aX.kZ]),(109,.dat 7 (ax fB.cells x.2))])) ()) (pp (bW @G.fA.L1.eq_1 <|@G.fA.L1.eq_2) ()) (pp (@gJ [] [(107,11),(108,12),(109,13)] []) <|pp (@gJ [] [(107,107),(108,108),(109,109)] []) ());exact uH
theorem F.Kz {n:Nat} : ∀{aX r},G.fA n aX=some r->pO pZ 46 [.agg (wU aX)] [] (λr1 b1=>r1 = .agg [.own 0 r.bH.length 7,wI r.kZ]/\b1=[.dat 7 (ax fB.cells r.bH)]):=by intro aX r h;refine yM K.fA (tq ?_);unfold C.fA;rcases n with _|n<;>simp only[G.fA,reduceCtorEq]at h;have z:=Ym (pp @F.sD ()) (pp (@uM (Int×List fB) _ (λn x=>G.fA.L1 n aX x.1 x.2) r (λx=>gY.of [eP 2 107,eP 3 108,(19,.v true (.one (w7 aX.bH))),eI 20 (aX.bH.length:Int),eI 21 x.1] [(107,.var [.nS 7,wI 0]),(108,.var [.own 109 x.2.length 7,wI aX.kZ]),(109,.dat 7 (ax fB.cells x.2))])) ()) (pp (bW @G.fA.L1.eq_1 <|@G.fA.L1.eq_2) ()) (pp (@gJ [] [(107,11),(108,12),(109,13)] []) <|pp (@gJ [] [(107,107),(108,108),(109,109)] []) ()) (pp (@EC [] [(0,109)] []) <|pp (@EC [] [] [0]) ());exact uH
theorem F.sQ {n:Nat} : ∀{yU fU r},G.sQ n yU fU=some r->fF pZ 122 [.agg (wM yU),oS fU] (oI r):=by intro yU fU r h;refine bI K.sQ (tq ?_);unfold C.sQ;cases n;cases h;simp only[G.sQ]at h;have z:=iW (pp @F.strings_Compare ());exact uH
theorem F.aW {n:Nat} : ∀{vw rU r},G.aW n vw rU=some r->fF pZ 121 [.one (w7 vw),oS rU,.one (.fn 122 [])] (.AB [(false,[wI r.1]),(false,[wB r.2])]):=by intro vw rU r h;refine bI K.aW (tq ?_);unfold C.yG;rcases n with _|n<;>simp only[G.aW,reduceCtorEq]at h;have z:=ji (pp @F.sQ ()) (pp (@uM (Int×Int) _ (λn x=>G.aW.L1 n vw rU x.1 x.2) r (λx=>gY.of [(0,.v true (.one (w7 vw))),eS 1 rU,(2,.v true (.one (.fn 122 []))),eI 8 (vw.length:Int),eI 9 x.1,eI 10 x.2] [])) ()) (pp (bW @G.aW.L1.eq_1 <|@G.aW.L1.eq_2) ()) (pp (@gJ [] [] []) ());exact uH
theorem F.og {n:Nat} : ∀{Au fU r},G.og n Au fU=some r->fF pZ 95 [.one (w7 Au),oS fU] (.AB [(false,[wI r.1]),(false,[wB r.2])]):=by intro Au fU r h;refine bI K.og (tq ?_);unfold C.og;rcases n with _|n<;>simp only[G.og,reduceCtorEq]at h;have z:=Yk (pp (pp @F.aW (@cG [] [])) ());exact uH
theorem F.oh {n:Nat} : ∀{aX:List fB} {JZ:Int} {Z8:Int} {r:List fB},G.oh n aX JZ Z8=some r ->
 pO pZ 129 [.one (.own 0 aX.length 7),oI JZ,oI Z8] [.dat 7 (ax fB.cells aX)]
  (λr1 b1=>r1 = .one (.own 1 r.length 7)/\b1=[.dead,.dat 7 (ax fB.cells r)]):=by
 intro s i j r h;rcases n with _|n<;>simp only[G.oh,reduceCtorEq]at h;exact FG.del _ (cb:=104) xB K.oh h
theorem F.uI {n:Nat} : ∀{aX fU r},G.uI n aX fU=some r->fF pZ 101 [.agg (wU aX),oS fU] (.AB [(true,(wU r.1)),(false,[wB r.2])]):=by intro aX fU r h;refine bI K.uI (tq ?_);unfold C.uI;rcases n with _|n<;>simp only[G.uI,reduceCtorEq]at h;have z:=IP (pp @F.dY <|pp @F.og ()) (pp (pp @F.Kz (@cG [] [101])) <|pp (pp @F.oh (@cG [101] [102])) ());exact uH
theorem B.lays167 : Go.Proofs.Lays.n167 pZ B.ren:=by constructor<;>first|kernel_rfl|(intro w;kernel_rfl)
theorem F.dH {n:Nat} : ∀{Ee:jO} {P8:Int} {r:Unit×jO},G.dH n Ee P8=some r->pO pZ 150 [.one (.ptr 0 0),.one (.c (.lit (.int .u8 P8)))] [.var [.opt 155 0,.zW 1 Ee.buf.length],.row 5 Ee.buf] (λr1 b1=>r1 = .one (.c (.lit .nilIface))/\b1=[.var [.opt 155 0,.zW 2 r.2.buf.length],.dead,.row 5 r.2.buf]):=by intro b c r h;rcases n with _|n<;>simp only[G.dH,reduceCtorEq]at h;obtain⟨⟨hc,hl⟩,h⟩:=Es.1 h;cases h;exact Yt B.lays167 B.x hc hl
theorem F.iE {n:Nat} : ∀{Ee aX r},G.iE n Ee aX=some r->pO pZ 149 [.one (.ptr 0 0),oS aX] [.var [.opt 155 0,.zW 1 Ee.buf.length],.row 5 Ee.buf] (λr1 b1=>r1 = .AB []/\b1=[.var [.opt 155 0,.zW 2 r.buf.length],.dead,.row 5 r.buf]):=by intro Ee aX r h;refine yM K.iE (tq ?_);unfold C.iE;rcases n with _|n<;>simp only[G.iE,reduceCtorEq]at h;have z:=ahb (pp (pp @F.dH (@cG [0,1] [101])) <|pp (pp @F.dH (@cG [0,116] [121])) <|pp (pp @F.dH (@cG [0,116] [122])) <|pp (pp @F.dH (@cG [0,119] [120])) <|pp (pp @F.dH (@cG [0,116] [123])) ()) (pp (@uM (Int×fD) _ (λn x=>G.iE.L3 n aX x.1 x.2) r (λx=>gY.of [eP 0 0,eS 1 aX,eI 4 x.1] [(0,.var [.opt 155 0,.zW 116 x.2.length]),(1,.dead),(116,.row 5 x.2)])) ()) (pp (@Io (Int×fD) _ (λn x=>G.iE.K4 n aX x.1 x.2) r (λx=>gY.of [eP 0 0,eS 1 aX,eI 4 x.1] [(0,.var [.opt 155 0,.zW 119 x.2.length]),(1,.dead),(119,.row 5 x.2)])) ()) (pp (bW @G.iE.L3.eq_1 <|bW @G.iE.L3.eq_2 <|bW @G.iE.K4.eq_1 <|@G.iE.K4.eq_2) ()) (pp (@gJ [] [(0,0),(1,1),(116,101)] []) <|pp (@gJ [] [(0,0),(1,1),(119,121)] []) <|pp (@gJ [] [(0,0),(1,1),(119,122)] []) <|pp (@gJ [] [(0,0),(1,1),(119,116)] []) <|pp (@gJ [] [(0,0),(1,1),(116,120)] []) ()) (pp (@EC [] [(0,0),(1,1),(2,123)] []) <|pp (@EC [] [(0,0),(1,1),(2,121)] []) ());exact uH
theorem B.lays166 : Go.Proofs.Lays.n166 pZ B.ren:=by constructor<;>first|kernel_rfl|(intro w;kernel_rfl)
theorem F.nG {n:Nat} : ∀{Ee:jO} {aX:fD} {r:Int×Unit×jO},G.nG n Ee aX=some r->pO pZ 147 [.one (.ptr 0 0),oS aX] [.var [.opt 155 0,.zW 1 Ee.buf.length],.row 5 Ee.buf] (λr1 b1=>r1 = .AB [(false,[wI r.1]),(false,[.c (.lit .nilIface)])]/\b1=[.var [.opt 155 0,.zW 2 r.2.2.buf.length],.dead,.row 5 r.2.2.buf]):=by intro b s r h;rcases n with _|n<;>simp only[G.nG,reduceCtorEq]at h;obtain⟨hl,h⟩:=Es.1 h;cases h;exact U3 B.lays166 B.x hl
theorem F.Sj : ∀(n:Nat),∀{Ee aG r},G.dO n Ee aG=some r->pO pZ 125 [.one (.ptr 0 0),.agg (wN aG)] [.var [.opt 155 0,.zW 1 Ee.buf.length],.row 5 Ee.buf] (λr1 b1=>r1 = .AB []/\b1=[.var [.opt 155 0,.zW 2 r.buf.length],.dead,.row 5 r.buf]):=by
 intro n
 induction n using iw with|_ n ih=>
 intro Ee aG r h;refine yM K.dO (tq ?_);unfold C.dO;rcases n with _|n<;>simp only[G.dO,reduceCtorEq]at h;have:=Mk.mk 1;have:=Mk.mk 2;have z:=ad8 (pp @F.strconv_Itoa ()) (pp (pp ih (@cG [0,118] [119])) <|pp (pp ih (@cG [0,148] [149])) <|pp (pp @F.nG (@cG [0,1] [101])) <|pp (pp @F.nG (@cG [0,1] [102])) <|pp (pp @F.iE (@cG [0,1] [103])) <|pp (pp @F.dH (@cG [0,1] [104])) <|pp (pp @F.dH (@cG [0,115] [120])) <|pp (pp @F.dH (@cG [0,115] [121])) <|pp (pp @F.dH (@cG [0,1] [122])) <|pp (pp @F.dH (@cG [0,142] [150])) <|pp (pp @F.iE (@cG [0,146] [147])) <|pp (pp @F.dH (@cG [0,147] [148])) <|pp (pp @F.dH (@cG [0,142] [151])) ()) (pp (@uM (Int×fD) _ (λn x=>G.dO.L3 n aG x.1 x.2) r (λx=>gY.of [eP 0 0,(32,.v true (.one (wK aG.aP))),eI 33 (aG.aP.length:Int),eI 34 x.1] [(0,.var [.opt 155 0,.zW 115 x.2.length]),(1,.dead),(115,.row 5 x.2)])) <|pp (@uM (Int×fD) _ (λn x=>G.dO.L7 n aG x.1 x.2) r (λx=>gY.of [eP 0 0,eP 3 141,(54,.v true (.one (wK aG.aP))),eI 55 (aG.aP.length:Int),eI 56 x.1] [(0,.var [.opt 155 0,.zW 142 x.2.length]),(1,.dead),(141,.var (wN aG)),(142,.row 5 x.2)])) ()) (pp (@Io (Int×fD) _ (λn x=>G.dO.K4 n aG x.1 x.2) r (λx=>gY.of [eP 0 0,eP 5 117,(32,.v true (.one (wK aG.aP))),eI 33 (aG.aP.length:Int),eI 34 x.1] [(0,.var [.opt 155 0,.zW 118 x.2.length]),(1,.dead),(117,.var [wI ((aG.aP.getD x.1.toNat default).bQ),wI ((aG.aP.getD x.1.toNat default).wL),wS ((aG.aP.getD x.1.toNat default).lI),wT ((aG.aP.getD x.1.toNat default).aO),wK ((aG.aP.getD x.1.toNat default).aP)]),(118,.row 5 x.2)])) <|pp (@Io (Int×fD) _ (λn x=>G.dO.K8 n aG x.1 x.2) r (λx=>gY.of [eP 0 0,eP 3 144,eI 6 x.1,eP 7 145,(54,.v true (.one (wK aG.aP))),eI 55 (aG.aP.length:Int),eI 56 x.1] [(0,.var [.opt 155 0,.zW 146 x.2.length]),(1,.dead),(144,.var (wN aG)),(145,.var [wI ((aG.aP.getD x.1.toNat default).bQ),wI ((aG.aP.getD x.1.toNat default).wL),wS ((aG.aP.getD x.1.toNat default).lI),wT ((aG.aP.getD x.1.toNat default).aO),wK ((aG.aP.getD x.1.toNat default).aP)]),(146,.row 5 x.2)])) ()) (pp (bW @G.dO.L3.eq_1 <|bW @G.dO.L3.eq_2 <|bW @G.dO.K4.eq_1 <|bW @G.dO.K4.eq_2 <|bW @G.dO.L7.eq_1 <|bW @G.dO.L7.eq_2 <|bW @G.dO.K8.eq_1 <|@G.dO.K8.eq_2) ()) (pp (@gJ [] [(0,0),(1,1),(115,104)] []) <|pp (@gJ [] [(0,0),(1,1),(117,11),(118,120)] []) <|pp (@gJ [] [(0,0),(1,1),(117,11),(118,115)] []) <|pp (@gJ [] [(0,0),(1,1),(115,119)] []) <|pp (@gJ [] [(0,0),(1,1),(141,10),(142,122)] []) <|pp (@gJ [] [(0,0),(1,1),(144,141),(145,12),(146,150)] []) <|pp (@gJ [] [(0,0),(1,1),(144,141),(145,12),(146,142)] []) <|pp (@gJ [] [(0,0),(1,1),(141,144),(142,149)] []) <|pp (@gJ [] [(0,0),(1,1),(141,10),(142,104)] []) ()) (pp (@EC [] [(0,0),(1,1),(2,101)] []) <|pp (@EC [] [(0,0),(1,1),(2,102)] []) <|pp (@EC [] [(0,0),(1,1),(2,103)] []) <|pp (@EC [] [(0,0),(1,1),(2,121)] []) <|pp (@EC [] [(0,0),(1,1),(2,151)] []) <|pp (@EC [] [(0,0),(1,1),(2,1)] []) <|pp (@EC [] [(0,0),(1,1),(2,120)] []) <|pp (@EC [] [(0,0),(1,1),(2,150)] []) ()) (pp (pp (rfl : @G.dO.K4=_) <|pp (rfl : @G.dO.L3=_) ()) <|pp (pp (rfl : @G.dO.K8=_) <|pp (rfl : @G.dO.L7=_) ()) ());exact ahY
theorem F.dO {n:Nat} : ∀{Ee:jO} {aG:aj} {r:jO},G.dO n Ee aG=some r->pO pZ 125 [.one (.ptr 0 0),.agg (wN aG)] [.var [.opt 155 0,.zW 1 Ee.buf.length],.row 5 Ee.buf] (λr1 b1=>r1 = .AB []/\b1=[.var [.opt 155 0,.zW 2 r.buf.length],.dead,.row 5 r.buf]):=F.Sj n
theorem B.lays169 : Go.Proofs.Lays.n169 pZ B.ren:=by constructor<;>first|kernel_rfl|(intro w;kernel_rfl)
theorem F.uZ {n:Nat} : ∀{Ee:jO} {r:fD},G.uZ n Ee=some r->pO pZ 126 [.one (.ptr 0 0)] [.var [.opt 155 0,.zW 1 Ee.buf.length],.row 5 Ee.buf] (λr1 b1=>r1=oS r/\b1=[.dead,.dead]):=by intro b r h;rcases n with _|n<;>simp only[G.uZ,reduceCtorEq]at h;obtain⟨hl,h⟩:=Es.1 h;cases h;exact afs B.lays169 B.x (bM hl xB)
theorem F.rC {n:Nat} : ∀{aG r},G.rC n aG=some r->fF pZ 98 [.agg (wN aG)] (oS r):=by intro aG r h;refine bI K.rC (tq ?_);unfold C.rC;rcases n with _|n<;>simp only[G.rC,reduceCtorEq]at h;have z:=IP (pp @F.dm ()) (pp (pp @F.dO (@cG [12,11] [101])) <|pp (pp @F.uZ (@cG [12,101] [])) ());exact uH
theorem F.vN {n:Nat} : ∀{aX fU r},G.vN n aX fU=some r->fF pZ 45 [.agg (wU aX),oS fU] (.AB [(true,(wM r.1)),(false,[wB r.2])]):=by intro aX fU r h;refine bI K.vN (tq ?_);unfold C.vN;cases n;cases h;simp only[G.vN]at h;have z:=iW (pp @F.dY <|pp @F.og <|pp @F.sD ());exact uH
theorem F.jv {n:Nat} : ∀{aX r},G.jv n aX=some r->fF pZ 97 [oS aX] (oS r):=by intro aX r h;refine bI K.jv (tq ?_);unfold C.jv;rcases n with _|n<;>simp only[G.jv,reduceCtorEq]at h;have z:=zK (pp (@uM (Int×Int) _ (λn x=>G.jv.L1 n aX x.1 x.2) r (λx=>gY.of [eS 0 aX,eI 3 x.1,eI 4 x.2] [])) <|pp (@uM (Int×Int×List Int) _ (λn x=>G.jv.L2 n x.1 x.2.1 x.2.2) r (λx=>gY.of [eI 3 x.1,(5,.v true (.one (.BH 103 0 1 0))),eI 6 x.2.1] [(103,.dat 1 (ax cU x.2.2))])) ()) (pp (bW @G.jv.L1.eq_1 <|bW @G.jv.L1.eq_2 <|bW @G.jv.L2.eq_1 <|@G.jv.L2.eq_2) ()) (pp (@gJ [] [] []) <|pp (@gJ [] [(103,10)] []) <|pp (@gJ [] [(103,103)] []) ());exact uH
theorem F.wo {n:Nat} : ∀{aG r},G.wo n aG=some r->fF pZ 47 [.agg (wN aG)] (oS r):=by intro aG r h;refine bI K.wo (tq ?_);unfold C.wo;cases n;cases h;simp only[G.wo]at h;have z:=iW (pp @F.dm <|pp @F.rC <|pp @F.jv ());exact uH
theorem F.rD {n:Nat} : ∀{aX nI r},G.rD n aX nI=some r->fF pZ 49 [.agg (wU aX),.agg (wQ nI)] (.AB [(true,(wU r.1)),(true,(wR r.2))]):=by intro aX nI r h;refine bI K.rD (tq ?_);unfold C.rD;cases n;cases h;simp only[G.rD]at h;have z:=iW (pp @F.uI <|pp @F.fA ());exact uH
theorem F.ou {n:Nat} : ∀{aX:List fB} {JZ:Int} {EU:List fB} {r:List fB},G.ou n aX JZ EU=some r ->
 pO pZ 156 [.one (.own 0 aX.length 7),oI JZ,.one (.own 1 EU.length 7)] [.dat 7 (ax fB.cells aX),.dat 7 (ax fB.cells EU)]
  (λr1 b1=>r1 = .one (.own 2 r.length 7)/\b1=[.dead,.dat 7 (ax fB.cells EU),.dat 7 (ax fB.cells r)]):=by
 intro s i v r h;rcases n with _|n<;>simp only[G.ou,reduceCtorEq]at h;exact FG.ins _ (cb:=104) xB K.ou h
theorem F.xW {n:Nat} : ∀{Au yU r},G.xW n Au yU=some r->pO pZ 132 [.one (.own 0 Au.length 7),.agg (wM yU)] [.dat 7 (ax fB.cells Au)] (λr1 b1=>r1 = .one (.own 1 r.length 7)/\b1=[.dead,.dat 7 (ax fB.cells r)]):=by intro Au yU r h;refine yM K.xW (tq ?_);unfold C.xW;rcases n with _|n<;>simp only[G.xW,reduceCtorEq]at h;have z:=IQ (pp @F.og ()) (pp (pp @F.ou (@cG [0,11] [101])) ()) (pp (@EC [] [(0,0),(1,0)] []) <|pp (@EC [] [(0,0),(1,101)] []) ());exact uH
theorem F.vO {n:Nat} : ∀{aX fU aG r},G.vO n aX fU aG=some r->fF pZ 103 [.agg (wU aX),oS fU,.agg (wN aG)] (.AB [(true,(wU r.1)),(false,[wB r.2])]):=by intro aX fU aG r h;refine bI K.vO (tq ?_);unfold C.vO;rcases n with _|n<;>simp only[G.vO,reduceCtorEq]at h;have z:=IP (pp @F.dY <|pp @F.kR <|pp @F.dm <|pp @F.bC ()) (pp (pp @F.Kz (@cG [] [101])) <|pp (pp @F.xW (@cG [101] [102])) ());exact uH
theorem F.wF {n:Nat} : ∀{BV fU r},G.wF n BV fU=some r->pO pZ 170 [.one (.ptr 0 0),oS fU] [.var [wI BV.bQ,wI BV.wL,wS BV.lI,.own 1 BV.aO.length 1,.own 2 BV.aP.length 5],.dat 1 (ax cS BV.aO),.dat 5 (ax aj.cells BV.aP)] (λr1 b1=>r1 = .AB []/\b1=[.var [wI r.bQ,wI r.wL,wS r.lI,.own 3 r.aO.length 1,.own 4 r.aP.length 5],.dead,.dead,.dat 1 (ax cS r.aO),.dat 5 (ax aj.cells r.aP)]):=by intro BV fU r h;refine yM K.wF (tq ?_);unfold C.wF;rcases n with _|n<;>simp only[G.wF,reduceCtorEq]at h;have z:=IQ (pp @F.slices_BinarySearch_string ()) (pp (pp @F.slices_Delete_string (@cG [1] [101])) <|pp (pp @F.jW (@cG [2] [102])) ()) (pp (@EC [] [(0,0),(1,1),(2,2),(3,101),(4,102)] []) <|pp (@EC [] [(0,0),(1,1),(2,2),(3,1),(4,2)] []) ());exact uH
theorem F.Qy : ∀(n:Nat),∀{aG fC r},G.fE n aG fC=some r->fF pZ 155 [.agg (wN aG),.agg (wN fC)] (.agg (wN r)):=by
 intro n
 induction n using iw with|_ n ih=>
 intro aG fC r h;refine bI K.fE (tq ?_);unfold C.fE;rcases n with _|n<;>simp only[G.fE,reduceCtorEq]at h;have:=Mk.mk 1;have:=Mk.mk 2;have z:=ad7 (pp ih <|pp @F.slices_BinarySearch_string ()) (pp (pp @F.xu (@cG [] [101,102])) <|pp (pp @F.xu (@cG [] [155,156])) <|pp (pp @F.wF (@cG [142,143,144] [145,146])) <|pp (pp @F.pW (@cG [149,151,152] [153,154])) ()) (pp (@uM (Int×Int×Int×fD×List fD×List aj) _ (λn x=>G.fE.L4 n fC x.1 x.2.1 x.2.2.1 x.2.2.2.1 x.2.2.2.2.1 x.2.2.2.2.2) r (λx=>gY.of [eP 3 140,eP 4 141,eP 5 142,eT 23 fC.aO,eI 24 (fC.aO.length:Int),eI 25 x.1] [(140,.var (wN fC)),(141,.var zN),(142,.var [wI x.2.1,wI x.2.2.1,wS x.2.2.2.1,.own 143 x.2.2.2.2.1.length 1,.own 144 x.2.2.2.2.2.length 5]),(143,.dat 1 (ax cS x.2.2.2.2.1)),(144,.dat 5 (ax aj.cells x.2.2.2.2.2))])) ()) (pp (@Io (Int×Int×fD×List fD×List aj) _ (λn x=>G.fE.K1 n fC x.1 x.2.1 x.2.2.1 x.2.2.2.1 x.2.2.2.2) r (λx=>gY.of [eP 3 105,eP 4 106,eP 5 107] [(105,.var (wN fC)),(106,.var zN),(107,.var [wI x.1,wI x.2.1,wS x.2.2.1,.own 108 x.2.2.2.1.length 1,.own 109 x.2.2.2.2.length 5]),(108,.dat 1 (ax cS x.2.2.2.1)),(109,.dat 5 (ax aj.cells x.2.2.2.2))])) <|pp (@Io (Int×Int×Int×fD×List fD×List aj×Int×Int×fD×List fD×List aj) _ (λn x=>G.fE.K5 n fC x.1 x.2.1 x.2.2.1 x.2.2.2.1 x.2.2.2.2.1 x.2.2.2.2.2.1 x.2.2.2.2.2.2.1 x.2.2.2.2.2.2.2.1 x.2.2.2.2.2.2.2.2.1 x.2.2.2.2.2.2.2.2.2.1 x.2.2.2.2.2.2.2.2.2.2) r (λx=>gY.of [eP 3 147,eP 4 148,eP 5 149,eI 6 x.1,eS 7 (fC.aO.getD x.1.toNat default),eP 8 150,eT 23 fC.aO,eI 24 (fC.aO.length:Int),eI 25 x.1] [(147,.var (wN fC)),(148,.var zN),(149,.var [wI x.2.1,wI x.2.2.1,wS x.2.2.2.1,.own 151 x.2.2.2.2.1.length 1,.own 152 x.2.2.2.2.2.1.length 5]),(150,.var [wI x.2.2.2.2.2.2.1,wI x.2.2.2.2.2.2.2.1,wS x.2.2.2.2.2.2.2.2.1,wT x.2.2.2.2.2.2.2.2.2.1,wK x.2.2.2.2.2.2.2.2.2.2]),(151,.dat 1 (ax cS x.2.2.2.2.1)),(152,.dat 5 (ax aj.cells x.2.2.2.2.2.1))])) ()) (pp (bW @G.fE.K1.eq_1 <|bW @G.fE.K1.eq_2 <|bW @G.fE.L4.eq_1 <|bW @G.fE.L4.eq_2 <|bW @G.fE.K5.eq_1 <|@G.fE.K5.eq_2) ()) (pp (@gJ [] [(105,11),(106,12),(107,13),(108,155),(109,156)] []) <|pp (@gJ [] [(105,11),(106,12),(107,13)] [108,109]) <|pp (@gJ [] [(140,105),(141,106),(142,107),(143,108),(144,109)] []) <|pp (@gJ [] [(140,140),(141,141),(142,142),(143,145),(144,146)] []) <|pp (@gJ [] [(147,140),(148,141),(149,142),(150,14),(151,143),(152,144)] []) <|pp (@gJ [] [(140,147),(141,148),(142,149),(143,153),(144,154)] []) <|pp (@gJ [] [(105,11),(106,12),(107,13),(108,101),(109,102)] []) ()) (pp (pp (rfl : @G.fE.K1=_) ()) <|pp (pp (rfl : @G.fE.K5=_) <|pp (rfl : @G.fE.L4=_) <|pp (rfl : @G.fE.K1=_) ()) ());exact ahY
theorem F.fE {n:Nat} : ∀{aG:aj} {fC:aj} {r:aj},G.fE n aG fC=some r->fF pZ 155 [.agg (wN aG),.agg (wN fC)] (.agg (wN r)):=F.Qy n
theorem F.sV {n:Nat} : ∀{aG fC r},G.sV n aG fC=some r->fF pZ 131 [.agg (wN aG),.agg (wN fC)] (.AB [(true,(wN r.1)),(false,[wB r.2])]):=by intro aG fC r h;refine bI K.sV (tq ?_);unfold C.sV;cases n;cases h;simp only[G.sV]at h;have z:=iW (pp @F.dm <|pp @F.fE <|pp @F.pV ());exact uH
theorem F.vS {n:Nat} : ∀{Hr nI r},G.vS n Hr nI=some r->fF pZ 102 [.agg (wN Hr),.agg (wQ nI)] (.AB [(true,(wN r.1)),(false,[wB r.2])]):=by intro Hr nI r h;refine bI K.vS (tq ?_);unfold C.vS;cases n;cases h;simp only[G.vS]at h;have z:=iW (pp @F.ry <|pp @F.sV ());exact uH
theorem F.nP {n:Nat} : ∀{aX nI Hr MN r},G.nP n aX nI Hr MN=some r->fF pZ 50 [.agg (wU aX),.agg (wQ nI),.agg (wN Hr),oB MN] (.AB [(true,(wU r.1)),(true,(wR r.2))]):=by intro aX nI Hr MN r h;refine bI K.nP (tq ?_);unfold C.nP;cases n;cases h;simp only[G.nP]at h;have z:=iW (pp @F.vS <|pp @F.vO <|pp @F.wo <|pp @F.fA ());exact uH
theorem F.l7 {n:Nat} : ∀{nI r},G.l7 n nI=some r->fF pZ 44 [.agg (wQ nI)] (oB r):=by intro nI r h;refine bI K.l7 (tq ?_);unfold C.l7;cases n;cases h;simp only[G.l7]at h;have z:=iW (pp @F.kR <|pp @F.kK <|pp @F.dm <|pp @F.gZ ());exact uH
theorem F.fG {n:Nat} : ∀{aX nI r},G.fG n aX nI=some r->fF pZ 11 [.agg (wU aX),.agg (wQ nI)] (.AB [(true,(wU r.1)),(true,(wR r.2))]):=by intro aX nI r h;refine bI K.fG (tq ?_);unfold C.fG;rcases n with _|n<;>simp only[G.fG,reduceCtorEq]at h;have:=Mk.mk 1;have:=Mk.mk 2;have z:=WW (pp @F.dY <|pp @F.l7 <|pp @F.vN <|pp @F.wo <|pp @F.lg <|pp @F.fA <|pp @F.rD <|pp @F.nP ()) (pp (@Io ((fB×Bool)×fD) _ (λn x=>G.fG.K1 n aX nI x.1 x.2) r (λx=>gY.of [eP 2 101,eP 3 102,eP 4 103,eP 5 104,eP 6 105,eB 7 true,eS 8 x.2] [(101,.var (wU aX)),(102,.var (wQ nI)),(103,.var [.nS 7,wI 0]),(104,.var [wI 0,.c (.str []),wI 0,wI 0,wI 0,.c (.str []),.nS 1,.nS 5]),(105,.var (wM x.1.1))])) <|pp (@Io ((fB×Bool)) _ (λn x=>G.fG.K2 n aX nI x) r (λx=>gY.of [eP 2 106,eP 3 107,eP 4 108,eP 5 109,eP 6 110,eB 7 false,(8,.v true (.one (.c (.str [])))),eB 37 false] [(106,.var (wU aX)),(107,.var (wQ nI)),(108,.var [.nS 7,wI 0]),(109,.var [wI 0,.c (.str []),wI 0,wI 0,wI 0,.c (.str []),.nS 1,.nS 5]),(110,.var (wM x.1))])) ()) (pp (bW @G.fG.K1.eq_1 <|bW @G.fG.K1.eq_2 <|bW @G.fG.K2.eq_1 <|@G.fG.K2.eq_2) ()) (pp (@gJ [] [(101,10),(102,11),(103,12),(104,13),(105,14)] []) <|pp (@gJ [] [(106,10),(107,11),(108,12),(109,13),(110,14)] []) ()) (pp (pp (rfl : @G.fG.K1=_) ()) <|pp (pp (rfl : @G.fG.K2=_) ()) ());exact ahY
theorem F.iZ {n:Nat} : ∀{aU r},G.iZ n aU=some r->fF pZ 63 [.one (.c (.sl 10 (ax bn.cells aU)))] (oB r):=by intro aU r h;refine bI K.iZ (tq ?_);unfold C.iZ;rcases n with _|n<;>simp only[G.iZ,reduceCtorEq]at h;have z:=ji (pp @F.l7 ()) (pp (@uM (Int) _ (λn x=>G.iZ.L1 n aU x) r (λx=>gY.of [(8,.v true (.one (.c (.sl 10 (ax bn.cells aU))))),eI 9 (aU.length:Int),eI 10 x] [])) ()) (pp (bW @G.iZ.L1.eq_1 <|@G.iZ.L1.eq_2) ()) (pp (@gJ [] [] []) ());exact uH
theorem F.o8 {n:Nat} : ∀{wG r},G.o8 n wG=some r->fF pZ 71 [oI wG] (oB r):=by intro wG r h;refine bI K.o8 (tq ?_);unfold C.o8;rcases n with _|n<;>simp only[G.o8,reduceCtorEq]at h;have z:=BU;exact uH
theorem F.gy {n:Nat} : ∀{aX aU r},G.gy n aX aU=some r->fF pZ 64 [.agg (wU aX),.one (.c (.sl 10 (ax bn.cells aU))),.one (.fn 71 [])] (.AB [(true,(wU r.1)),(false,[.c (.sl 8 (ax bJ.cells r.2))])]):=by intro aX aU r h;refine bI K.gy (tq ?_);unfold C.OM;rcases n with _|n<;>simp only[G.gy,reduceCtorEq]at h;have z:=ji (pp @F.fA <|pp @F.fG <|pp @F.o8 ()) (pp (@uM (Int×List fB×Int×List bJ) _ (λn x=>G.gy.L1 n aU x.1 x.2.1 x.2.2.1 x.2.2.2) r (λx=>gY.of [(2,.v true (.one (.fn 71 []))),eP 6 106,eP 8 107,(9,.v true (.one (.own 108 x.2.2.2.length 8))),(16,.v true (.one (.c (.sl 10 (ax bn.cells aU))))),eI 17 (aU.length:Int),eI 18 x.1] [(106,.var [.nS 7,wI 0]),(107,.var [w7 x.2.1,wI x.2.2.1]),(108,.dat 8 (ax bJ.cells x.2.2.2))])) ()) (pp (bW @G.gy.L1.eq_1 <|@G.gy.L1.eq_2) ()) (pp (@gJ [] [(106,11),(107,12)] [108]) <|pp (@gJ [] [(106,106),(107,107),(108,17)] []) ());exact uH
theorem F.kD {n:Nat} : ∀{aX aU r},G.kD n aX aU=some r->fF pZ 30 [.agg (wU aX),.one (.c (.sl 10 (ax bn.cells aU)))] (.AB [(true,(wU r.1)),(false,[.c (.sl 8 (ax bJ.cells r.2.1))]),(false,[wB r.2.2])]):=by intro aX aU r h;refine bI K.kD (tq ?_);unfold C.kD;rcases n with _|n<;>simp only[G.kD,reduceCtorEq]at h;have z:=ahf (pp @F.dY <|pp @F.iZ <|pp @F.o8 <|pp @F.fA ()) (pp (pp @F.gy (@cG [] [])) ()) (pp (@uM ((bP×List bJ)×Int) _ (λn x=>G.kD.L1 n aX x.1 x.2) r (λx=>gY.of [eP 2 107,eP 4 108,eP 7 109,(8,.v true (.one (.c (.sl 8 (ax bJ.cells x.1.2))))),(26,.v true (.one (.c (.sl 8 (ax bJ.cells x.1.2))))),eI 27 (x.1.2.length:Int),eI 28 x.2] [(107,.var (wU aX)),(108,.var [.nS 7,wI 0]),(109,.var (wU x.1.1))])) ()) (pp (bW @G.kD.L1.eq_1 <|@G.kD.L1.eq_2) ()) (pp (@gJ [] [(107,10),(108,11),(109,12)] []) <|pp (@gJ [] [(107,107),(108,108),(109,109)] []) ());exact uH
theorem F.jT {n:Nat} : ∀{aS gG r},G.jT n aS gG=some r->fF pZ 53 [oT aS,oT gG] (oB r):=by intro aS gG r h;refine bI K.jT (tq ?_);unfold C.jT;rcases n with _|n<;>simp only[G.jT,reduceCtorEq]at h;have z:=zK (pp (@uM (Int) _ (λn x=>G.jT.L1 n aS gG x) r (λx=>gY.of [eT 0 aS,eT 1 gG,eI 5 x] [])) ()) (pp (bW @G.jT.L1.eq_1 <|@G.jT.L1.eq_2) ()) (pp (@gJ [] [] []) ());exact uH
theorem F.Ut : ∀(n:Nat),(∀{aS gG r},G.qW n aS gG=some r->fF pZ 52 [.agg (wN aS),.agg (wN gG)] (oB r))/\(∀{aS gG r},G.qC n aS gG=some r->fF pZ 105 [.one (wK aS),.one (wK gG)] (oB r)):=by
 intro n
 induction n using iw with|_ n ih=>
 refine⟨?_,?_⟩
 ·intro aS gG r h;refine bI K.qW (tq ?_);unfold C.qW;cases n;cases h;simp only[G.qW]at h;have z:=iW (pp ((ihR ih)) <|pp @F.jT ());exact uH
 ·intro aS gG r h;refine bI K.qC (tq ?_);unfold C.qC;rcases n with _|n<;>simp only[G.qC,reduceCtorEq]at h;have z:=ji (pp ((ihL ih)) ()) (pp (@uM (Int) _ (λn x=>G.qC.L1 n aS gG x) r (λx=>gY.of [(0,.v true (.one (wK aS))),(1,.v true (.one (wK gG))),eI 5 x] [])) ()) (pp (bW @G.qC.L1.eq_1 <|@G.qC.L1.eq_2) ()) (pp (@gJ [] [] []) ());exact uH
theorem F.qW {n:Nat} : ∀{aS:aj} {gG:aj} {r:Bool},G.qW n aS gG=some r->fF pZ 52 [.agg (wN aS),.agg (wN gG)] (oB r):=(F.Ut n).1
theorem F.yx {n:Nat} : ∀{aS gG r},G.yx n aS gG=some r->fF pZ 104 [.agg (wM aS),.agg (wM gG)] (oB r):=by intro aS gG r h;refine bI K.yx (tq ?_);unfold C.yx;cases n;cases h;simp only[G.yx]at h;have z:=iW (pp @F.qW ());exact uH
theorem F.oU {n:Nat} : ∀{aS gG r},G.oU n aS gG=some r->fF pZ 51 [.one (w7 aS),.one (w7 gG)] (oB r):=by intro aS gG r h;refine bI K.oU (tq ?_);unfold C.oU;rcases n with _|n<;>simp only[G.oU,reduceCtorEq]at h;have z:=ji (pp @F.yx ()) (pp (@uM (Int) _ (λn x=>G.oU.L1 n aS gG x) r (λx=>gY.of [(0,.v true (.one (w7 aS))),(1,.v true (.one (w7 gG))),eI 5 x] [])) ()) (pp (bW @G.oU.L1.eq_1 <|@G.oU.L1.eq_2) ()) (pp (@gJ [] [] []) ());exact uH
theorem F.Bg {n:Nat} : ∀{aS gG r},G.Bg n aS gG=some r->fF pZ 106 [.agg (wO aS),.agg (wO gG)] (oB r):=by intro aS gG r h;refine bI K.Bg (tq ?_);unfold C.Bg;cases n;cases h;simp only[G.Bg]at h;have z:=iW (pp @F.jT <|pp @F.qW ());exact uH
theorem F.uj {n:Nat} : ∀{aS gG r},G.uj n aS gG=some r->fF pZ 54 [.one (w8 aS),.one (w8 gG)] (oB r):=by intro aS gG r h;refine bI K.uj (tq ?_);unfold C.uj;rcases n with _|n<;>simp only[G.uj,reduceCtorEq]at h;have z:=ji (pp @F.Bg ()) (pp (@uM (Int) _ (λn x=>G.uj.L1 n aS gG x) r (λx=>gY.of [(0,.v true (.one (w8 aS))),(1,.v true (.one (w8 gG))),eI 5 x] [])) ()) (pp (bW @G.uj.L1.eq_1 <|@G.uj.L1.eq_2) ()) (pp (@gJ [] [] []) ());exact uH
theorem F.vG {n:Nat} : ∀{aS gG r},G.vG n aS gG=some r->fF pZ 14 [.agg (wQ aS),.agg (wQ gG)] (oB r):=by intro aS gG r h;refine bI K.vG (tq ?_);unfold C.vG;cases n;cases h;simp only[G.vG]at h;have z:=iW (pp @F.jT <|pp @F.qW <|pp @F.uj ());exact uH
theorem F.lH {n:Nat} : ∀{aS gG r},G.lH n aS gG=some r->fF pZ 25 [.one (.c (.sl 10 (ax bn.cells aS))),.one (.c (.sl 10 (ax bn.cells gG)))] (oB r):=by intro aS gG r h;refine bI K.lH (tq ?_);unfold C.lH;rcases n with _|n<;>simp only[G.lH,reduceCtorEq]at h;have z:=ji (pp @F.vG ()) (pp (@uM (Int) _ (λn x=>G.lH.L1 n aS gG x) r (λx=>gY.of [(0,.v true (.one (.c (.sl 10 (ax bn.cells aS))))),(1,.v true (.one (.c (.sl 10 (ax bn.cells gG))))),eI 5 x] [])) ()) (pp (bW @G.lH.L1.eq_1 <|@G.lH.L1.eq_2) ()) (pp (@gJ [] [] []) ());exact uH
theorem F.uA {n:Nat} : ∀{aS gG r},G.uA n aS gG=some r->fF pZ 13 [.agg (wR aS),.agg (wR gG)] (oB r):=by intro aS gG r h;refine bI K.uA (tq ?_);unfold C.uA;cases n;cases h;simp only[G.uA]at h;have z:=iW (pp @F.qW ());exact uH
theorem F.jS {n:Nat} : ∀{aS gG r},G.jS n aS gG=some r->fF pZ 24 [.one (.c (.sl 8 (ax bJ.cells aS))),.one (.c (.sl 8 (ax bJ.cells gG)))] (oB r):=by intro aS gG r h;refine bI K.jS (tq ?_);unfold C.jS;rcases n with _|n<;>simp only[G.jS,reduceCtorEq]at h;have z:=ji (pp @F.uA ()) (pp (@uM (Int) _ (λn x=>G.jS.L1 n aS gG x) r (λx=>gY.of [(0,.v true (.one (.c (.sl 8 (ax bJ.cells aS))))),(1,.v true (.one (.c (.sl 8 (ax bJ.cells gG))))),eI 5 x] [])) ()) (pp (bW @G.jS.L1.eq_1 <|@G.jS.L1.eq_2) ()) (pp (@gJ [] [] []) ());exact uH
theorem F.uy {n:Nat} : ∀{aS gG r},G.uy n aS gG=some r->fF pZ 12 [.agg (wU aS),.agg (wU gG)] (oB r):=by intro aS gG r h;refine bI K.uy (tq ?_);unfold C.uy;cases n;cases h;simp only[G.uy]at h;have z:=iW (pp @F.oU ());exact uH
theorem F.jf {n:Nat} : ∀{Aw r},G.jf n Aw=some r->fF pZ 66 [oI Aw] (oS r):=by intro Aw r h;refine bI K.jf (tq ?_);unfold C.jf;rcases n with _|n<;>simp only[G.jf,reduceCtorEq]at h;have z:=zK (pp (@uM (Int×fD) _ (λn x=>G.jf.L1 n x.1 x.2) r (λx=>gY.of [eI 0 x.1,eS 3 x.2] [])) ()) (pp (bW @G.jf.L1.eq_1 <|@G.jf.L1.eq_2) ()) (pp (@gJ [] [] []) ());exact uH
theorem F.jk {n:Nat} : ∀{aS Aw r},G.jk n aS Aw=some r->fF pZ 68 [oT aS,oI Aw] (oI r):=by intro aS Aw r h;refine bI K.jk (tq ?_);unfold C.jk;rcases n with _|n<;>simp only[G.jk,reduceCtorEq]at h;have z:=ji (pp @F.jf ()) (pp (@uM (Int×Int) _ (λn x=>G.jk.L1 n aS x.1 x.2) r (λx=>gY.of [eT 0 aS,eI 1 x.1,eI 5 x.2] [])) ()) (pp (bW @G.jk.L1.eq_1 <|@G.jk.L1.eq_2) ()) (pp (@gJ [] [] []) ());exact uH
theorem F.SB : ∀(n:Nat),∀{aS Aw r},G.jU n aS Aw=some r->fF pZ 69 [.one (wK aS),oI Aw] (oI r):=by
 intro n
 induction n using iw with|_ n ih=>
 intro aS Aw r h;refine bI K.jU (tq ?_);unfold C.jU;rcases n with _|n<;>simp only[G.jU,reduceCtorEq]at h;have z:=ji (pp ih <|pp @F.jf <|pp @F.jk ()) (pp (@uM (Int×Int) _ (λn x=>G.jU.L1 n aS x.1 x.2) r (λx=>gY.of [(0,.v true (.one (wK aS))),eI 1 x.1,eI 5 x.2] [])) ()) (pp (bW @G.jU.L1.eq_1 <|@G.jU.L1.eq_2) ()) (pp (@gJ [] [] []) ());exact uH
theorem F.jU {n:Nat} : ∀{aS:List aj} {Aw:Int} {r:Int},G.jU n aS Aw=some r->fF pZ 69 [.one (wK aS),oI Aw] (oI r):=F.SB n
theorem F.l9 {n:Nat} : ∀{aS Aw r},G.l9 n aS Aw=some r->fF pZ 59 [.one (w7 aS),oI Aw] (oI r):=by intro aS Aw r h;refine bI K.l9 (tq ?_);unfold C.l9;rcases n with _|n<;>simp only[G.l9,reduceCtorEq]at h;have z:=ji (pp @F.jf <|pp @F.jk <|pp @F.jU ()) (pp (@uM (Int×Int) _ (λn x=>G.l9.L1 n aS x.1 x.2) r (λx=>gY.of [(0,.v true (.one (w7 aS))),eI 1 x.1,eI 5 x.2] [])) ()) (pp (bW @G.l9.L1.eq_1 <|@G.l9.L1.eq_2) ()) (pp (@gJ [] [] []) ());exact uH
theorem F.jD {n:Nat} : ∀{aS Aw r},G.jD n aS Aw=some r->fF pZ 28 [.one (.c (.sl 8 (ax bJ.cells aS))),oI Aw] (oI r):=by intro aS Aw r h;refine bI K.jD (tq ?_);unfold C.jD;rcases n with _|n<;>simp only[G.jD,reduceCtorEq]at h;have z:=ji (pp @F.jf <|pp @F.jk <|pp @F.jU ()) (pp (@uM (Int×Int) _ (λn x=>G.jD.L1 n aS x.1 x.2) r (λx=>gY.of [(0,.v true (.one (.c (.sl 8 (ax bJ.cells aS))))),eI 1 x.1,eI 5 x.2] [])) ()) (pp (bW @G.jD.L1.eq_1 <|@G.jD.L1.eq_2) ()) (pp (@gJ [] [] []) ());exact uH
theorem F.vH {n:Nat} : ∀{aS Aw r},G.vH n aS Aw=some r->fF pZ 18 [.agg (wU aS),oI Aw] (oI r):=by intro aS Aw r h;refine bI K.vH (tq ?_);unfold C.vH;cases n;cases h;simp only[G.vH]at h;have z:=iW (pp @F.l9 ());exact uH
theorem F.jy {n:Nat} : ∀{aS jC r},G.jy n aS jC=some r->fF pZ 32 [oT aS,oI jC] (oI r):=by intro aS jC r h;refine bI K.jy (tq ?_);unfold C.jy;rcases n with _|n<;>simp only[G.jy,reduceCtorEq]at h;have z:=zK (pp (@uM (Int×Int) _ (λn x=>G.jy.L1 n aS x.1 x.2) r (λx=>gY.of [eT 0 aS,eI 1 x.1,eI 5 x.2] [])) ()) (pp (bW @G.jy.L1.eq_1 <|@G.jy.L1.eq_2) ()) (pp (@gJ [] [] []) ());exact uH
theorem F.Uu : ∀(n:Nat),(∀{aS jC r},G.qY n aS jC=some r->fF pZ 33 [.agg (wN aS),oI jC] (oI r))/\(∀{aS jC r},G.oV n aS jC=some r->fF pZ 73 [.one (wK aS),oI jC] (oI r)):=by
 intro n
 induction n using iw with|_ n ih=>
 refine⟨?_,?_⟩
 ·intro aS jC r h;refine bI K.qY (tq ?_);unfold C.qY;cases n;cases h;simp only[G.qY]at h;have z:=iW (pp ((ihR ih)) <|pp @F.jy ());exact uH
 ·intro aS jC r h;refine bI K.oV (tq ?_);unfold C.oV;rcases n with _|n<;>simp only[G.oV,reduceCtorEq]at h;have z:=ji (pp ((ihL ih)) ()) (pp (@uM (Int×Int) _ (λn x=>G.oV.L1 n aS x.1 x.2) r (λx=>gY.of [(0,.v true (.one (wK aS))),eI 1 x.1,eI 5 x.2] [])) ()) (pp (bW @G.oV.L1.eq_1 <|@G.oV.L1.eq_2) ()) (pp (@gJ [] [] []) ());exact uH
theorem F.qY {n:Nat} : ∀{aS:aj} {jC:Int} {r:Int},G.qY n aS jC=some r->fF pZ 33 [.agg (wN aS),oI jC] (oI r):=(F.Uu n).1
theorem F.wZ {n:Nat} : ∀{aS jC r},G.wZ n aS jC=some r->fF pZ 72 [.agg (wM aS),oI jC] (oI r):=by intro aS jC r h;refine bI K.wZ (tq ?_);unfold C.wZ;cases n;cases h;simp only[G.wZ]at h;have z:=iW (pp @F.qY ());exact uH
theorem F.nM {n:Nat} : ∀{aS jC r},G.nM n aS jC=some r->fF pZ 31 [.one (w7 aS),oI jC] (oI r):=by intro aS jC r h;refine bI K.nM (tq ?_);unfold C.nM;rcases n with _|n<;>simp only[G.nM,reduceCtorEq]at h;have z:=ji (pp @F.wZ ()) (pp (@uM (Int×Int) _ (λn x=>G.nM.L1 n aS x.1 x.2) r (λx=>gY.of [(0,.v true (.one (w7 aS))),eI 1 x.1,eI 5 x.2] [])) ()) (pp (bW @G.nM.L1.eq_1 <|@G.nM.L1.eq_2) ()) (pp (@gJ [] [] []) ());exact uH
theorem F.yN {n:Nat} : ∀{aS jC r},G.yN n aS jC=some r->fF pZ 74 [.agg (wO aS),oI jC] (oI r):=by intro aS jC r h;refine bI K.yN (tq ?_);unfold C.yN;cases n;cases h;simp only[G.yN]at h;have z:=iW (pp @F.jy <|pp @F.qY ());exact uH
theorem F.rE {n:Nat} : ∀{aS jC r},G.rE n aS jC=some r->fF pZ 34 [.one (w8 aS),oI jC] (oI r):=by intro aS jC r h;refine bI K.rE (tq ?_);unfold C.rE;rcases n with _|n<;>simp only[G.rE,reduceCtorEq]at h;have z:=ji (pp @F.yN ()) (pp (@uM (Int×Int) _ (λn x=>G.rE.L1 n aS x.1 x.2) r (λx=>gY.of [(0,.v true (.one (w8 aS))),eI 1 x.1,eI 5 x.2] [])) ()) (pp (bW @G.rE.L1.eq_1 <|@G.rE.L1.eq_2) ()) (pp (@gJ [] [] []) ());exact uH
theorem F.pq {n:Nat} : ∀{aS jC r},G.pq n aS jC=some r->fF pZ 7 [.agg (wQ aS),oI jC] (oI r):=by intro aS jC r h;refine bI K.pq (tq ?_);unfold C.pq;cases n;cases h;simp only[G.pq]at h;have z:=iW (pp @F.jy <|pp @F.qY <|pp @F.rE ());exact uH
theorem F.jQ {n:Nat} : ∀{aS jC r},G.jQ n aS jC=some r->fF pZ 20 [.one (.c (.sl 10 (ax bn.cells aS))),oI jC] (oI r):=by intro aS jC r h;refine bI K.jQ (tq ?_);unfold C.jQ;rcases n with _|n<;>simp only[G.jQ,reduceCtorEq]at h;have z:=ji (pp @F.pq ()) (pp (@uM (Int×Int) _ (λn x=>G.jQ.L1 n aS x.1 x.2) r (λx=>gY.of [(0,.v true (.one (.c (.sl 10 (ax bn.cells aS))))),eI 1 x.1,eI 5 x.2] [])) ()) (pp (bW @G.jQ.L1.eq_1 <|@G.jQ.L1.eq_2) ()) (pp (@gJ [] [] []) ());exact uH
theorem F.sW {n:Nat} : ∀{aS jC r},G.sW n aS jC=some r->fF pZ 6 [.agg (wU aS),oI jC] (oI r):=by intro aS jC r h;refine bI K.sW (tq ?_);unfold C.sW;cases n;cases h;simp only[G.sW]at h;have z:=iW (pp @F.nM ());exact uH
theorem F.jV {n:Nat} : ∀{aS r},G.jV n aS=some r->fF pZ 40 [oT aS] (oT r):=by intro aS r h;refine bI K.jV (tq ?_);unfold C.jV;rcases n with _|n<;>simp only[G.jV,reduceCtorEq]at h;have z:=zK (pp (@uM (Int×List fD) _ (λn x=>G.jV.L1 n aS x.1 x.2) r (λx=>gY.of [eT 0 aS,(3,.v true (.one (.own 103 x.2.length 1))),eI 4 x.1] [(103,.dat 1 (ax cS x.2))])) ()) (pp (bW @G.jV.L1.eq_1 <|@G.jV.L1.eq_2) ()) (pp (@gJ [] [(103,10)] []) <|pp (@gJ [] [(103,103)] []) ());exact uH
theorem F.Uw : ∀(n:Nat),(∀{aS r},G.sZ n aS=some r->fF pZ 41 [.agg (wN aS)] (.agg (wN r)))/\(∀{aS r},G.qG n aS=some r->fF pZ 89 [.one (wK aS)] (.one (wK r))):=by
 intro n
 induction n using iw with|_ n ih=>
 refine⟨?_,?_⟩
 ·intro aS r h;refine bI K.sZ (tq ?_);unfold C.sZ;cases n;cases h;simp only[G.sZ]at h;have z:=iW (pp ((ihR ih)) <|pp @F.jV ());exact uH
 ·intro aS r h;refine bI K.qG (tq ?_);unfold C.qG;rcases n with _|n<;>simp only[G.qG,reduceCtorEq]at h;have z:=ji (pp ((ihL ih)) ()) (pp (@uM (Int×List aj) _ (λn x=>G.qG.L1 n aS x.1 x.2) r (λx=>gY.of [(0,.v true (.one (wK aS))),(3,.v true (.one (.own 103 x.2.length 5))),eI 4 x.1] [(103,.dat 5 (ax aj.cells x.2))])) ()) (pp (bW @G.qG.L1.eq_1 <|@G.qG.L1.eq_2) ()) (pp (@gJ [] [(103,10)] []) <|pp (@gJ [] [(103,103)] []) ());exact uH
theorem F.sZ {n:Nat} : ∀{aS:aj} {r:aj},G.sZ n aS=some r->fF pZ 41 [.agg (wN aS)] (.agg (wN r)):=(F.Uw n).1
theorem F.yz {n:Nat} : ∀{aS r},G.yz n aS=some r->fF pZ 88 [.agg (wM aS)] (.agg (wM r)):=by intro aS r h;refine bI K.yz (tq ?_);unfold C.yz;cases n;cases h;simp only[G.yz]at h;have z:=iW (pp @F.sZ ());exact uH
theorem F.oW {n:Nat} : ∀{aS r},G.oW n aS=some r->fF pZ 39 [.one (w7 aS)] (.one (w7 r)):=by intro aS r h;refine bI K.oW (tq ?_);unfold C.oW;rcases n with _|n<;>simp only[G.oW,reduceCtorEq]at h;have z:=ji (pp @F.yz ()) (pp (@uM (Int×List fB) _ (λn x=>G.oW.L1 n aS x.1 x.2) r (λx=>gY.of [(0,.v true (.one (w7 aS))),(3,.v true (.one (.own 103 x.2.length 7))),eI 4 x.1] [(103,.dat 7 (ax fB.cells x.2))])) ()) (pp (bW @G.oW.L1.eq_1 <|@G.oW.L1.eq_2) ()) (pp (@gJ [] [(103,10)] []) <|pp (@gJ [] [(103,103)] []) ());exact uH
theorem F.Bh {n:Nat} : ∀{aS r},G.Bh n aS=some r->fF pZ 90 [.agg (wO aS)] (.agg (wO r)):=by intro aS r h;refine bI K.Bh (tq ?_);unfold C.Bh;cases n;cases h;simp only[G.Bh]at h;have z:=iW (pp @F.jV <|pp @F.sZ ());exact uH
theorem F.uk {n:Nat} : ∀{aS r},G.uk n aS=some r->fF pZ 42 [.one (w8 aS)] (.one (w8 r)):=by intro aS r h;refine bI K.uk (tq ?_);unfold C.uk;rcases n with _|n<;>simp only[G.uk,reduceCtorEq]at h;have z:=ji (pp @F.Bh ()) (pp (@uM (Int×List uO) _ (λn x=>G.uk.L1 n aS x.1 x.2) r (λx=>gY.of [(0,.v true (.one (w8 aS))),(3,.v true (.one (.own 103 x.2.length 8))),eI 4 x.1] [(103,.dat 8 (ax uO.cells x.2))])) ()) (pp (bW @G.uk.L1.eq_1 <|@G.uk.L1.eq_2) ()) (pp (@gJ [] [(103,10)] []) <|pp (@gJ [] [(103,103)] []) ());exact uH
theorem F.vI {n:Nat} : ∀{aS r},G.vI n aS=some r->fF pZ 10 [.agg (wQ aS)] (.agg (wQ r)):=by intro aS r h;refine bI K.vI (tq ?_);unfold C.vI;cases n;cases h;simp only[G.vI]at h;have z:=iW (pp @F.jV <|pp @F.sZ <|pp @F.uk ());exact uH
theorem F.kT {n:Nat} : ∀{aS r},G.kT n aS=some r->fF pZ 22 [.one (.c (.sl 10 (ax bn.cells aS)))] (.one (.c (.sl 10 (ax bn.cells r)))):=by intro aS r h;refine bI K.kT (tq ?_);unfold C.kT;rcases n with _|n<;>simp only[G.kT,reduceCtorEq]at h;have z:=ji (pp @F.vI ()) (pp (@uM (Int×List bn) _ (λn x=>G.kT.L1 n aS x.1 x.2) r (λx=>gY.of [(0,.v true (.one (.c (.sl 10 (ax bn.cells aS))))),(3,.v true (.one (.own 103 x.2.length 10))),eI 4 x.1] [(103,.dat 10 (ax bn.cells x.2))])) ()) (pp (bW @G.kT.L1.eq_1 <|@G.kT.L1.eq_2) ()) (pp (@gJ [] [(103,10)] []) <|pp (@gJ [] [(103,103)] []) ());exact uH
theorem F.vT {n:Nat} : ∀{aS r},G.vT n aS=some r->fF pZ 9 [.agg (wU aS)] (.agg (wU r)):=by intro aS r h;refine bI K.vT (tq ?_);unfold C.vT;cases n;cases h;simp only[G.vT]at h;have z:=iW (pp @F.oW ());exact uH
theorem F.Uy : ∀(n:Nat),∀{aG r},G.cO n aG=some r->fF pZ 83 [.agg (wN aG)] (.agg (wN r)):=by
 intro n
 induction n using iw with|_ n ih=>
 intro aG r h;refine bI K.cO (tq ?_);unfold C.cO;rcases n with _|n<;>simp only[G.cO,reduceCtorEq]at h;have z:=ji (pp ih ()) (pp (@uM (Int×List aj) _ (λn x=>G.cO.L1 n aG x.1 x.2) r (λx=>gY.of [eP 1 107,eP 2 108,(3,.v true (.one (.own 109 x.2.length 5))),eI 4 x.1] [(107,.var (wN aG)),(108,.var zN),(109,.dat 5 (ax aj.cells x.2))])) ()) (pp (bW @G.cO.L1.eq_1 <|@G.cO.L1.eq_2) ()) (pp (@gJ [] [(107,10),(108,11),(109,12)] []) <|pp (@gJ [] [(107,107),(108,108),(109,14)] []) ());exact uH
theorem F.cO {n:Nat} : ∀{aG:aj} {r:aj},G.cO n aG=some r->fF pZ 83 [.agg (wN aG)] (.agg (wN r)):=F.Uy n
theorem F.L9 {n:Nat} : ∀{aG r},G.cO n aG=some r->pO pZ 83 [.agg (wN aG)] [] (λr1 b1=>r1 = .agg [wI r.bQ,wI r.wL,wS r.lI,.own 0 r.aO.length 1,.own 1 r.aP.length 5]/\b1=[.dat 1 (ax cS r.aO),.dat 5 (ax aj.cells r.aP)]):=by intro aG r h;refine yM K.cO (tq ?_);unfold C.cO;rcases n with _|n<;>simp only[G.cO,reduceCtorEq]at h;have z:=Ym (pp @F.cO ()) (pp (@uM (Int×List aj) _ (λn x=>G.cO.L1 n aG x.1 x.2) r (λx=>gY.of [eP 1 107,eP 2 108,(3,.v true (.one (.own 109 x.2.length 5))),eI 4 x.1] [(107,.var (wN aG)),(108,.var zN),(109,.dat 5 (ax aj.cells x.2))])) ()) (pp (bW @G.cO.L1.eq_1 <|@G.cO.L1.eq_2) ()) (pp (@gJ [] [(107,10),(108,11),(109,12)] []) <|pp (@gJ [] [(107,107),(108,108),(109,14)] []) ()) (pp (@EC [] [(0,16),(1,109)] []) ());exact uH
theorem F.WA : ∀(n:Nat),∀{aG r},G.lY n aG=some r->fF pZ 137 [oI aG] (oS r):=by
 intro n
 induction n using iw with|_ n ih=>
 intro aG r h;refine bI K.lY (tq ?_);unfold C.lY;cases n;cases h;simp only[G.lY]at h;have z:=iW (pp ih ());exact uH
theorem F.lY {n:Nat} : ∀{aG:Int} {r:fD},G.lY n aG=some r->fF pZ 137 [oI aG] (oS r):=F.WA n
theorem F.jL {n:Nat} : ∀{aG kJ r},G.jL n aG kJ=some r->fF pZ 140 [.agg (wN aG),oS kJ] (oI r):=by intro aG kJ r h;refine bI K.jL (tq ?_);unfold C.jL;rcases n with _|n<;>simp only[G.jL,reduceCtorEq]at h;have z:=ji (pp @F.lY ()) (pp (@uM (Int) _ (λn x=>G.jL.L1 n aG kJ x) r (λx=>gY.of [eS 1 kJ,eP 2 103,eI 5 x] [(103,.var (wN aG))])) ()) (pp (bW @G.jL.L1.eq_1 <|@G.jL.L1.eq_2) ()) (pp (@gJ [] [(103,10)] []) <|pp (@gJ [] [(103,103)] []) ());exact uH
theorem F.mO {n:Nat} : ∀{aG kJ r},G.mO n aG kJ=some r->fF pZ 162 [.agg (wN aG),oS kJ] (.AB [(false,[wI r.1]),(false,[wB r.2])]):=by intro aG kJ r h;refine bI K.mO (tq ?_);unfold C.mO;rcases n with _|n<;>simp only[G.mO,reduceCtorEq]at h;have z:=ji (pp @F.jL <|pp @F.lY ()) (pp (@uM (Int) _ (λn x=>G.mO.L1 n aG kJ x) r (λx=>gY.of [eS 1 kJ,eP 2 103,eI 7 x] [(103,.var (wN aG))])) <|pp (@uM (Int) _ (λn x=>G.mO.L2 n aG kJ x) r (λx=>gY.of [eS 1 kJ,eP 2 106,eI 7 x] [(106,.var (wN aG))])) ()) (pp (bW @G.mO.L1.eq_1 <|bW @G.mO.L1.eq_2 <|bW @G.mO.L2.eq_1 <|@G.mO.L2.eq_2) ()) (pp (@gJ [] [(103,10)] []) <|pp (@gJ [] [(103,103)] []) <|pp (@gJ [] [(106,10)] []) <|pp (@gJ [] [(106,106)] []) ());exact uH
theorem F.qf {n:Nat} : ∀{aG Aw U0 r},G.qf n aG Aw U0=some r->fF pZ 142 [.agg (wN aG),oI Aw,.agg (wN U0)] (.agg (wN r)):=by intro aG Aw U0 r h;refine bI K.qf (tq ?_);unfold C.qf;rcases n with _|n<;>simp only[G.qf,reduceCtorEq]at h;have z:=Yk (pp (pp @F.L9 (@cG [] [101,102])) <|pp (pp @F.L9 (@cG [] [103,104])) ());exact uH
theorem F.rO {n:Nat} : ∀{aG kJ iY r},G.rO n aG kJ iY=some r->fF pZ 143 [.agg (wN aG),oS kJ,.agg (wN iY)] (.AB [(true,(wN r.1)),(false,[wB r.2])]):=by intro aG kJ iY r h;refine bI K.rO (tq ?_);unfold C.rO;cases n;cases h;simp only[G.rO]at h;have z:=iW (pp @F.mO <|pp @F.qf <|pp @F.cO ());exact uH
theorem F.uY {n:Nat} : ∀{aG aV r},G.uY n aG aV=some r->fF pZ 159 [.agg (wN aG),oT aV] (.AB [(true,(wN r.1)),(false,[wB r.2])]):=by intro aG aV r h;refine bI K.uY (tq ?_);unfold C.uY;rcases n with _|n<;>simp only[G.uY,reduceCtorEq]at h;have z:=ji (pp @F.jL <|pp @F.cO ()) (pp (@uM (Int×Int×Int×fD×List fD×List aj) _ (λn x=>G.uY.L1 n aV x.1 x.2.1 x.2.2.1 x.2.2.2.1 x.2.2.2.2.1 x.2.2.2.2.2) r (λx=>gY.of [eT 1 aV,eP 2 105,eP 4 106,eI 6 x.1] [(105,.var [wI x.2.1,wI x.2.2.1,wS x.2.2.2.1,wT x.2.2.2.2.1,wK x.2.2.2.2.2]),(106,.var zN)])) ()) (pp (bW @G.uY.L1.eq_1 <|@G.uY.L1.eq_2) ()) (pp (@gJ [] [(105,10),(106,11)] []) <|pp (@gJ [] [(105,105),(106,106)] []) ());exact uH
theorem F.ZG : ∀(n:Nat),∀{aG aV iY r},G.qj n aG aV iY=some r->fF pZ 158 [.agg (wN aG),oT aV,.agg (wN iY)] (.AB [(true,(wN r.1)),(false,[wB r.2])]):=by
 intro n
 induction n using iw with|_ n ih=>
 intro aG aV iY r h;refine bI K.qj (tq ?_);unfold C.qj;cases n;cases h;simp only[G.qj]at h;have z:=iW (pp ih <|pp @F.cO <|pp @F.jL <|pp @F.qf ());exact uH
theorem F.qj {n:Nat} : ∀{aG:aj} {aV:List fD} {iY:aj} {r:aj×Bool},G.qj n aG aV iY=some r->fF pZ 158 [.agg (wN aG),oT aV,.agg (wN iY)] (.AB [(true,(wN r.1)),(false,[wB r.2])]):=F.ZG n
theorem F.vM {n:Nat} : ∀{aG aV iY r},G.vM n aG aV iY=some r->fF pZ 157 [.agg (wN aG),oT aV,.agg (wN iY)] (.AB [(true,(wN r.1)),(false,[wB r.2])]):=by intro aG aV iY r h;refine bI K.vM (tq ?_);unfold C.vM;cases n;cases h;simp only[G.vM]at h;have z:=iW (pp @F.cO <|pp @F.uY <|pp @F.rO <|pp @F.qj ());exact uH
theorem F.nT {n:Nat} : ∀{aV EL r},G.nT n aV EL=some r->fF pZ 161 [oT aV,oT EL] (oB r):=by intro aV EL r h;refine bI K.nT (tq ?_);unfold C.nT;rcases n with _|n<;>simp only[G.nT,reduceCtorEq]at h;have z:=zK (pp (@uM (Int) _ (λn x=>G.nT.L1 n aV EL x) r (λx=>gY.of [eT 0 aV,eT 1 EL,eI 5 x] [])) ()) (pp (bW @G.nT.L1.eq_1 <|@G.nT.L1.eq_2) ()) (pp (@gJ [] [] []) ());exact uH
theorem F.kW {n:Nat} : ∀{aG aV r},G.kW n aG aV=some r->fF pZ 141 [.agg (wN aG),oT aV] (.AB [(true,(wN r.1)),(false,[wB r.2])]):=by intro aG aV r h;refine bI K.kW (tq ?_);unfold C.kW;rcases n with _|n<;>simp only[G.kW,reduceCtorEq]at h;have z:=IM (pp @F.uY <|pp @F.jL <|pp @F.qj ()) (pp (@Io ((aj×Bool)×List aj×List fD) _ (λn x=>G.kW.K1 n aG aV x.1 x.2.1 x.2.2) r (λx=>gY.of [eT 1 aV,eP 2 101,eP 4 102,eI 6 (af .i64 ((aV.length:Int)-1)),eP 7 103,(10,.v true (.one (.own 104 x.2.1.length 5))),(11,.v true (.one (.own 105 x.2.2.length 1)))] [(101,.var (wN aG)),(102,.var zN),(103,.var (wN x.1.1)),(104,.dat 5 (ax aj.cells x.2.1)),(105,.dat 1 (ax cS x.2.2))])) ()) (pp (bW @G.kW.K1.eq_1 <|@G.kW.K1.eq_2) ()) (pp (@gJ [] [(101,10),(102,11),(103,12),(104,15),(105,19)] []) <|pp (@gJ [] [(101,10),(102,11),(103,12),(104,15),(105,16)] []) ());exact uH
theorem F.mQ {n:Nat} : ∀{gG r},G.mQ n gG=some r->fF pZ 212 [oB gG] (oI r):=by intro gG r h;refine bI K.mQ (tq ?_);unfold C.mQ;rcases n with _|n<;>simp only[G.mQ,reduceCtorEq]at h;have z:=BU;exact uH
theorem F.sJ {n:Nat} : ∀{aS gG r},G.sJ n aS gG=some r->fF pZ 191 [oI aS,oI gG] (oI r):=by intro aS gG r h;refine bI K.sJ (tq ?_);unfold C.sJ;cases n;cases h;simp only[G.sJ]at h;have z:=iW (pp @F.mQ ());exact uH
theorem F.pJ {n:Nat} : ∀{aS gG r},G.pJ n aS gG=some r->fF pZ 192 [oS aS,oS gG] (oI r):=by intro aS gG r h;refine bI K.pJ (tq ?_);unfold C.pJ;cases n;cases h;simp only[G.pJ]at h;have z:=iW (pp @F.mQ ());exact uH
theorem F.Wy : ∀(n:Nat),∀{aS gG r},G.iO n aS gG=some r->fF pZ 175 [.agg (wN aS),.agg (wN gG)] (oI r):=by
 intro n
 induction n using iw with|_ n ih=>
 intro aS gG r h;refine bI K.iO (tq ?_);unfold C.iO;rcases n with _|n<;>simp only[G.iO,reduceCtorEq]at h;have z:=ji (pp ih <|pp @F.sJ <|pp @F.pJ ()) (pp (@uM (Int) _ (λn x=>G.iO.L1 n aS gG x) r (λx=>gY.of [eP 2 105,eP 3 106,eI 5 x] [(105,.var (wN aS)),(106,.var (wN gG))])) ()) (pp (bW @G.iO.L1.eq_1 <|@G.iO.L1.eq_2) ()) (pp (@gJ [] [(105,10),(106,11)] []) <|pp (@gJ [] [(105,105),(106,106)] []) ());exact uH
theorem F.iO {n:Nat} : ∀{aS:aj} {gG:aj} {r:Int},G.iO n aS gG=some r->fF pZ 175 [.agg (wN aS),.agg (wN gG)] (oI r):=F.Wy n
theorem F.zy {n:Nat} : ∀{aS gG r},G.zy n aS gG=some r->fF pZ 160 [.agg (wN aS),.agg (wN gG)] (oB r):=by intro aS gG r h;refine bI K.zy (tq ?_);unfold C.zy;cases n;cases h;simp only[G.zy]at h;have z:=iW (pp @F.iO ());exact uH
theorem F.lM {n:Nat} : ∀{aG vz r},G.lM n aG vz=some r->fF pZ 139 [.agg (wN aG),.agg (wO vz)] (.AB [(true,(wN r.1)),(false,[wB r.2])]):=by intro aG vz r h;refine bI K.lM (tq ?_);unfold C.lM;rcases n with _|n<;>simp only[G.lM,reduceCtorEq]at h;have z:=IM (pp @F.vM <|pp @F.kW <|pp @F.qj <|pp @F.uY <|pp @F.zy <|pp @F.nT <|pp @F.cO ()) (pp (@Io (List fD) _ (λn x=>G.lM.K1 n aG vz x) r (λx=>gY.of [eP 2 101,eP 3 102,eP 4 103,eT 6 x] [(101,.var (wN aG)),(102,.var (wO vz)),(103,.var zN)])) ()) (pp (bW @G.lM.K1.eq_1 <|@G.lM.K1.eq_2) ()) (pp (@gJ [] [(101,10),(102,11),(103,12)] []) ());exact uH
theorem F.ZE : ∀(n:Nat),∀{aG r},G.nY n aG=some r->fF pZ 108 [.agg (wN aG)] (oI r):=by
 intro n
 induction n using iw with|_ n ih=>
 intro aG r h;refine bI K.nY (tq ?_);unfold C.nY;rcases n with _|n<;>simp only[G.nY,reduceCtorEq]at h;have z:=ji (pp ih ()) (pp (@uM (Int×Int) _ (λn x=>G.nY.L1 n aG x.1 x.2) r (λx=>gY.of [eP 1 103,eI 3 x.1,eI 4 x.2] [(103,.var (wN aG))])) ()) (pp (bW @G.nY.L1.eq_1 <|@G.nY.L1.eq_2) ()) (pp (@gJ [] [(103,10)] []) <|pp (@gJ [] [(103,103)] []) ());exact uH
theorem F.nY {n:Nat} : ∀{aG:aj} {r:Int},G.nY n aG=some r->fF pZ 108 [.agg (wN aG)] (oI r):=F.ZE n
theorem F.iP {n:Nat} : ∀{aG U1 P9 r},G.iP n aG U1 P9=some r->fF pZ 77 [oI aG,oI U1,oI P9] (oB r):=by intro aG U1 P9 r h;refine bI K.iP (tq ?_);unfold C.iP;rcases n with _|n<;>simp only[G.iP,reduceCtorEq]at h;have z:=BU;exact uH
theorem F.jc {n:Nat} : ∀{aX r},G.jc n aX=some r->fF pZ 133 [oS aX] (oB r):=by intro aX r h;refine bI K.jc (tq ?_);unfold C.jc;rcases n with _|n<;>simp only[G.jc,reduceCtorEq]at h;have z:=ji (pp @F.iP ()) (pp (@uM (Int) _ (λn x=>G.jc.L1 n aX x) r (λx=>gY.of [eS 0 aX,eI 3 x] [])) ()) (pp (bW @G.jc.L1.eq_1 <|@G.jc.L1.eq_2) ()) (pp (@gJ [] [] []) ());exact uH
theorem F.pI {n:Nat} : ∀{aU r},G.pI n aU=some r->fF pZ 135 [oT aU] (oB r):=by intro aU r h;refine bI K.pI (tq ?_);unfold C.pI;rcases n with _|n<;>simp only[G.pI,reduceCtorEq]at h;have z:=ji (pp @F.jc ()) (pp (@uM (Int) _ (λn x=>G.pI.L1 n aU x) r (λx=>gY.of [eT 0 aU,eI 3 x] [])) ()) (pp (bW @G.pI.L1.eq_1 <|@G.pI.L1.eq_2) ()) (pp (@gJ [] [] []) ());exact uH
theorem F.Xl : ∀(n:Nat),(∀{aG nH r},G.uo n aG nH=some r->fF pZ 134 [.agg (wN aG),oI nH] (oB r))/\(∀{aG nH r},G.jA n aG nH=some r->fF pZ 107 [.agg (wN aG),oI nH] (oB r)):=by
 intro n
 induction n using iw with|_ n ih=>
 refine⟨?_,?_⟩
 ·intro aG nH r h;refine bI K.uo (tq ?_);unfold C.uo;rcases n with _|n<;>simp only[G.uo,reduceCtorEq]at h;have z:=ji (pp ((ihR ih)) ()) (pp (@uM (Int) _ (λn x=>G.uo.L1 n aG nH x) r (λx=>gY.of [eI 1 nH,eP 2 103,eI 5 x] [(103,.var (wN aG))])) ()) (pp (bW @G.uo.L1.eq_1 <|@G.uo.L1.eq_2) ()) (pp (@gJ [] [(103,10)] []) <|pp (@gJ [] [(103,103)] []) ());exact uH
 ·intro aG nH r h;refine bI K.jA (tq ?_);unfold C.jA;rcases n with _|n<;>simp only[G.jA,reduceCtorEq]at h;have z:=IM (pp ((ihL ih)) <|pp @F.iP <|pp @F.jc <|pp @F.pI ()) (pp (@Io (Unit) _ (λn x=>G.jA.K1 n aG nH) r (λx=>gY.of [eI 1 nH,eP 2 101,eB 54 false] [(101,.var (wN aG))])) ()) (pp (bW @G.jA.K1.eq_1 <|@G.jA.K1.eq_2) ()) (pp (@gJ [] [(101,10)] []) ());exact uH
theorem F.jA {n:Nat} : ∀{aG:aj} {nH:Int} {r:Bool},G.jA n aG nH=some r->fF pZ 107 [.agg (wN aG),oI nH] (oB r):=(F.Xl n).2
theorem F.iI {n:Nat} : ∀{aG r},G.iI n aG=some r->fF pZ 76 [.agg (wN aG)] (oB r):=by intro aG r h;refine bI K.iI (tq ?_);unfold C.iI;cases n;cases h;simp only[G.iI]at h;have z:=iW (pp @F.jA <|pp @F.nY ());exact uH
theorem F.qJ {n:Nat} : ∀{aG MM r},G.qJ n aG MM=some r->fF pZ 117 [.agg (wN aG),oB MM] (.AB [(true,(wN r.1)),(false,[wB r.2])]):=by intro aG MM r h;refine bI K.qJ (tq ?_);unfold C.qJ;cases n;cases h;simp only[G.qJ]at h;have z:=iW (pp @F.iI ());exact uH
theorem F.rG {n:Nat} : ∀{aG vz r},G.rG n aG vz=some r->fF pZ 116 [.agg (wN aG),.agg (wO vz)] (.AB [(true,(wN r.1)),(false,[wB r.2])]):=by intro aG vz r h;refine bI K.rG (tq ?_);unfold C.rG;cases n;cases h;simp only[G.rG]at h;have z:=iW (pp @F.lM <|pp @F.qJ <|pp @F.cO ());exact uH
theorem F.jX {n:Nat} : ∀{aV r},G.jX n aV=some r->fF pZ 136 [oT aV] (oB r):=by intro aV r h;refine bI K.jX (tq ?_);unfold C.jX;rcases n with _|n<;>simp only[G.jX,reduceCtorEq]at h;have z:=ji (pp @F.jc ()) (pp (@uM (Int) _ (λn x=>G.jX.L1 n aV x) r (λx=>gY.of [eT 0 aV,eI 3 x] [])) ()) (pp (bW @G.jX.L1.eq_1 <|@G.jX.L1.eq_2) ()) (pp (@gJ [] [] []) ());exact uH
theorem F.vU {n:Nat} : ∀{vz r},G.vU n vz=some r->fF pZ 110 [.agg (wO vz)] (oB r):=by intro vz r h;refine bI K.vU (tq ?_);unfold C.vU;cases n;cases h;simp only[G.vU]at h;have z:=iW (pp @F.iP <|pp @F.jX <|pp @F.iI ());exact uH
theorem F.iL {n:Nat} : ∀{aU r},G.iL n aU=some r->fF pZ 79 [.one (w8 aU)] (oB r):=by intro aU r h;refine bI K.iL (tq ?_);unfold C.iL;rcases n with _|n<;>simp only[G.iL,reduceCtorEq]at h;have z:=ji (pp @F.vU ()) (pp (@uM (Int) _ (λn x=>G.iL.L1 n aU x) r (λx=>gY.of [(0,.v true (.one (w8 aU))),eI 3 x] [])) ()) (pp (bW @G.iL.L1.eq_1 <|@G.iL.L1.eq_2) ()) (pp (@gJ [] [] []) ());exact uH
theorem F.jG {n:Nat} : ∀{aG aU r},G.jG n aG aU=some r->fF pZ 86 [.agg (wN aG),.one (w8 aU)] (.AB [(true,(wN r.1)),(false,[wB r.2])]):=by intro aG aU r h;refine bI K.jG (tq ?_);unfold C.jG;rcases n with _|n<;>simp only[G.jG,reduceCtorEq]at h;have z:=ji (pp @F.iI <|pp @F.iL <|pp @F.cO <|pp @F.rG ()) (pp (@uM (Int×Int×Int×fD×List fD×List aj) _ (λn x=>G.jG.L1 n aU x.1 x.2.1 x.2.2.1 x.2.2.2.1 x.2.2.2.2.1 x.2.2.2.2.2) r (λx=>gY.of [(1,.v true (.one (w8 aU))),eP 4 105,eP 6 106,eI 7 x.1] [(105,.var zN),(106,.var [wI x.2.1,wI x.2.2.1,wS x.2.2.2.1,wT x.2.2.2.2.1,wK x.2.2.2.2.2])])) ()) (pp (bW @G.jG.L1.eq_1 <|@G.jG.L1.eq_2) ()) (pp (@gJ [] [(105,11),(106,12)] []) <|pp (@gJ [] [(105,105),(106,106)] []) ());exact uH
theorem F.pG {n:Nat} : ∀{wG r},G.pG n wG=some r->fF pZ 37 [oI wG] (.agg (wR r)):=by intro wG r h;refine bI K.pG (tq ?_);unfold C.pG;rcases n with _|n<;>simp only[G.pG,reduceCtorEq]at h;have z:=BU;exact uH
theorem F.ZF : ∀(n:Nat),∀{aG fC r},G.jK n aG fC=some r->fF pZ 118 [.agg (wN aG),.agg (wN fC)] (.agg (wN r)):=by
 intro n
 induction n using iw with|_ n ih=>
 intro aG fC r h;refine bI K.jK (tq ?_);unfold C.jK;rcases n with _|n<;>simp only[G.jK,reduceCtorEq]at h;have z:=Oy (pp ih <|pp @F.cO <|pp @F.jL <|pp @F.kW <|pp @F.rO <|pp @F.qf ()) (pp (@uM (Int×Int×Int×fD×List fD×List aj) _ (λn x=>G.jK.L2 n fC x.1 x.2.1 x.2.2.1 x.2.2.2.1 x.2.2.2.2.1 x.2.2.2.2.2) r (λx=>gY.of [eP 3 110,eP 4 111,eP 5 112,eI 6 x.1] [(110,.var (wN fC)),(111,.var zN),(112,.var [wI x.2.1,wI x.2.2.1,wS x.2.2.2.1,wT x.2.2.2.2.1,wK x.2.2.2.2.2])])) ()) (pp (@Io (Int×Int×fD×List fD×List aj) _ (λn x=>G.jK.K1 n fC x.1 x.2.1 x.2.2.1 x.2.2.2.1 x.2.2.2.2) r (λx=>gY.of [eP 3 101,eP 4 102,eP 5 103] [(101,.var (wN fC)),(102,.var zN),(103,.var [wI x.1,wI x.2.1,wS x.2.2.1,wT x.2.2.2.1,wK x.2.2.2.2])])) ()) (pp (bW @G.jK.K1.eq_1 <|bW @G.jK.K1.eq_2 <|bW @G.jK.L2.eq_1 <|@G.jK.L2.eq_2) ()) (pp (@gJ [] [(101,11),(102,12),(103,15)] []) <|pp (@gJ [13,14] [(101,11),(102,12),(103,15)] []) <|pp (@gJ [] [(110,101),(111,102),(112,103)] []) <|pp (@gJ [] [(110,110),(111,111),(112,112)] []) ());exact uH
theorem F.jK {n:Nat} : ∀{aG:aj} {fC:aj} {r:aj},G.jK n aG fC=some r->fF pZ 118 [.agg (wN aG),.agg (wN fC)] (.agg (wN r)):=F.ZF n
theorem F.rF {n:Nat} : ∀{aG fC r},G.rF n aG fC=some r->fF pZ 87 [.agg (wN aG),.agg (wN fC)] (.AB [(true,(wN r.1)),(false,[wB r.2])]):=by intro aG fC r h;refine bI K.rF (tq ?_);unfold C.rF;cases n;cases h;simp only[G.rF]at h;have z:=iW (pp @F.iI <|pp @F.jK <|pp @F.qJ ());exact uH
theorem F.nJ {n:Nat} : ∀{aU uh r},G.nJ n aU uh=some r->fF pZ 111 [oT aU,oS uh] (oB r):=by intro aU uh r h;refine bI K.nJ (tq ?_);unfold C.nJ;rcases n with _|n<;>simp only[G.nJ,reduceCtorEq]at h;have z:=zK (pp (@uM (Int) _ (λn x=>G.nJ.L1 n aU uh x) r (λx=>gY.of [eT 0 aU,eS 1 uh,eI 5 x] [])) ()) (pp (bW @G.nJ.L1.eq_1 <|@G.nJ.L1.eq_2) ()) (pp (@gJ [] [] []) ());exact uH
theorem F.wW {n:Nat} : ∀{Aa vZ uh yF r},G.wW n Aa vZ uh yF=some r->fF pZ 81 [oT Aa,oT vZ,oS uh,oB yF] (oI r):=by intro Aa vZ uh yF r h;refine bI K.wW (tq ?_);unfold C.wW;cases n;cases h;simp only[G.wW]at h;have z:=iW (pp @F.nJ ());exact uH
theorem F.fO {n:Nat} : ∀{aX r},G.fO n aX=some r->fF pZ 62 [.agg (wU aX)] (.agg (wU r)):=by intro aX r h;refine bI K.fO (tq ?_);unfold C.fO;rcases n with _|n<;>simp only[G.fO,reduceCtorEq]at h;have z:=ji (pp @F.cO ()) (pp (@uM (Int×List fB) _ (λn x=>G.fO.L1 n aX x.1 x.2) r (λx=>gY.of [eP 1 107,eP 2 108,(3,.v true (.one (.own 109 x.2.length 7))),eI 4 x.1] [(107,.var (wU aX)),(108,.var [.nS 7,wI 0]),(109,.dat 7 (ax fB.cells x.2))])) ()) (pp (bW @G.fO.L1.eq_1 <|@G.fO.L1.eq_2) ()) (pp (@gJ [] [(107,10),(108,11),(109,12)] []) <|pp (@gJ [] [(107,107),(108,108),(109,14)] []) ());exact uH
theorem F.sS {n:Nat} : ∀{aX fU r},G.sS n aX fU=some r->fF pZ 85 [.agg (wU aX),oS fU] (.agg (wU r)):=by intro aX fU r h;refine bI K.sS (tq ?_);unfold C.sS;rcases n with _|n<;>simp only[G.sS,reduceCtorEq]at h;have z:=ji (pp @F.fO ()) (pp (@uM (bP×Int×List fB) _ (λn x=>G.sS.L1 n aX fU x.1 x.2.1 x.2.2) r (λx=>gY.of [eS 1 fU,eP 2 107,eP 4 108,(5,.v true (.one (.own 109 x.2.2.length 7))),(6,.v true (.one (w7 x.1.bH))),eI 7 x.2.1] [(107,.var (wU aX)),(108,.var [.nS 7,wI 0]),(109,.dat 7 (ax fB.cells x.2.2))])) ()) (pp (bW @G.sS.L1.eq_1 <|@G.sS.L1.eq_2) ()) (pp (@gJ [] [(107,10),(108,11),(109,12)] []) <|pp (@gJ [] [(107,107),(108,108),(109,109)] []) <|pp (@gJ [] [(107,107),(108,108),(109,14)] []) ());exact uH
theorem F.pY {n:Nat} : ∀{aX fU r},G.pY n aX fU=some r->fF pZ 80 [.agg (wU aX),oS fU] (oI r):=by intro aX fU r h;refine bI K.pY (tq ?_);unfold C.pY;rcases n with _|n<;>simp only[G.pY,reduceCtorEq]at h;have z:=zK (pp (@uM (Int) _ (λn x=>G.pY.L1 n aX fU x) r (λx=>gY.of [eS 1 fU,eP 2 103,eI 5 x] [(103,.var (wU aX))])) ()) (pp (bW @G.pY.L1.eq_1 <|@G.pY.L1.eq_2) ()) (pp (@gJ [] [(103,10)] []) <|pp (@gJ [] [(103,103)] []) ());exact uH
theorem F.nZ {n:Nat} : ∀{aX r},G.nZ n aX=some r->fF pZ 138 [oS aX] (oS r):=by intro aX r h;refine bI K.nZ (tq ?_);unfold C.nZ;rcases n with _|n<;>simp only[G.nZ,reduceCtorEq]at h;have z:=zK (pp (@uM (fD×Int) _ (λn x=>G.nZ.L1 n aX x.1 x.2) r (λx=>gY.of [eS 0 aX,eS 3 x.1,eI 4 x.2] [])) ()) (pp (bW @G.nZ.L1.eq_1 <|@G.nZ.L1.eq_2) ()) (pp (@gJ [] [] []) ());exact uH
theorem F.Xn : ∀(n:Nat),∀{aG r},G.ig n aG=some r->fF pZ 114 [.agg (wN aG)] (oS r):=by
 intro n
 induction n using iw with|_ n ih=>
 intro aG r h;refine bI K.ig (tq ?_);unfold C.ig;rcases n with _|n<;>simp only[G.ig,reduceCtorEq]at h;have:=Mk.mk 1;have:=Mk.mk 2;have z:=ad6 (pp ih <|pp @F.lY <|pp @F.nZ ()) (pp (@uM (fD×Int) _ (λn x=>G.ig.L5 n aG x.1 x.2) r (λx=>gY.of [eP 1 107,eS 3 x.1,eI 4 x.2] [(107,.var (wN aG))])) ()) (pp (@Io (Int×fD) _ (λn x=>G.ig.K6 n aG x.1 x.2) r (λx=>gY.of [eP 1 108,eS 3 x.2,eI 4 x.1] [(108,.var (wN aG))])) <|pp (@Io (Int×fD) _ (λn x=>G.ig.K7 n aG x.1 x.2) r (λx=>gY.of [eP 1 109,eS 3 x.2,eI 4 x.1] [(109,.var (wN aG))])) ()) (pp (bW @G.ig.L5.eq_1 <|bW @G.ig.L5.eq_2 <|bW @G.ig.K6.eq_1 <|bW @G.ig.K6.eq_2 <|bW @G.ig.K7.eq_1 <|@G.ig.K7.eq_2) ()) (pp (@gJ [] [(107,10)] []) <|pp (@gJ [] [(108,107)] []) <|pp (@gJ [] [(109,108)] []) <|pp (@gJ [] [(107,109)] []) ()) (pp (pp (rfl : @G.ig.K6=_) <|pp (rfl : @G.ig.L5=_) <|pp (rfl : @G.ig.K7=_) ()) <|pp (pp (rfl : @G.ig.K7=_) <|pp (rfl : @G.ig.K6=_) <|pp (rfl : @G.ig.L5=_) ()) ());exact ahY
theorem F.ig {n:Nat} : ∀{aG:aj} {r:fD},G.ig n aG=some r->fF pZ 114 [.agg (wN aG)] (oS r):=F.Xn n
theorem F.Bo {n:Nat} : ∀{aG r},G.Bo n aG=some r->fF pZ 112 [oI aG] (oS r):=by intro aG r h;refine bI K.Bo (tq ?_);unfold C.Bo;rcases n with _|n<;>simp only[G.Bo,reduceCtorEq]at h;have z:=BU;exact uH
theorem F.rH {n:Nat} : ∀{aX r},G.rH n aX=some r->fF pZ 113 [oS aX] (oI r):=by intro aX r h;refine bI K.rH (tq ?_);unfold C.rH;rcases n with _|n<;>simp only[G.rH,reduceCtorEq]at h;have z:=zK (pp (@uM (Int×Int) _ (λn x=>G.rH.L1 n aX x.1 x.2) r (λx=>gY.of [eS 0 aX,eI 3 x.1,eI 4 x.2] [])) ()) (pp (bW @G.rH.L1.eq_1 <|@G.rH.L1.eq_2) ()) (pp (@gJ [] [] []) ());exact uH
theorem F.uD {n:Nat} : ∀{aX fU r},G.uD n aX fU=some r->fF pZ 82 [.agg (wU aX),oS fU] (oS r):=by intro aX fU r h;refine bI K.uD (tq ?_);unfold C.uD;cases n;cases h;simp only[G.uD]at h;have z:=iW (pp @F.pY <|pp @F.ig <|pp @F.rH <|pp @F.Bo ());exact uH
theorem F.mP {n:Nat} : ∀{aX fU aG r},G.mP n aX fU aG=some r->fF pZ 115 [.agg (wU aX),oS fU,.agg (wN aG)] (.agg (wU r)):=by intro aX fU aG r h;refine bI K.mP (tq ?_);unfold C.mP;rcases n with _|n<;>simp only[G.mP,reduceCtorEq]at h;have z:=Oy (pp @F.cO <|pp @F.fO ()) (pp (@uM (aj×bP×Bool×Int×List fB) _ (λn x=>G.mP.L3 n aX fU x.1 x.2.1 x.2.2.1 x.2.2.2.1 x.2.2.2.2) r (λx=>gY.of [eS 1 fU,eP 3 117,eP 6 118,(7,.v true (.one (.own 119 x.2.2.2.2.length 7))),eP 8 120,(9,.v true (.one (w7 x.2.1.bH))),eB 10 x.2.2.1,eI 11 x.2.2.2.1] [(117,.var (wU aX)),(118,.var [.nS 7,wI 0]),(119,.dat 7 (ax fB.cells x.2.2.2.2)),(120,.var [wS fU,wI (af .i64 (aX.kZ+1)),wI x.1.bQ,wI x.1.wL,wS x.1.lI,wT x.1.aO,wK x.1.aP])])) ()) (pp (@Io (aj×bP×Int×Bool×List fB) _ (λn x=>G.mP.K4 n aX fU x.1 x.2.1 x.2.2.1 x.2.2.2.1 x.2.2.2.2) r (λx=>gY.of [eS 1 fU,eP 3 121,eP 6 122,(7,.v true (.one (.own 123 x.2.2.2.2.length 7))),eP 8 124,(9,.v true (.one (w7 x.2.1.bH))),eB 10 x.2.2.2.1,eI 11 x.2.2.1] [(121,.var (wU aX)),(122,.var [.nS 7,wI 0]),(123,.dat 7 (ax fB.cells x.2.2.2.2)),(124,.var [wS fU,wI (af .i64 (aX.kZ+1)),wI x.1.bQ,wI x.1.wL,wS x.1.lI,wT x.1.aO,wK x.1.aP])])) ()) (pp (bW @G.mP.L3.eq_1 <|bW @G.mP.L3.eq_2 <|bW @G.mP.K4.eq_1 <|@G.mP.K4.eq_2) ()) (pp (@gJ [] [(117,10),(118,12),(119,13),(120,14)] []) <|pp (@gJ [] [(121,117),(122,118),(123,119),(124,120)] []) <|pp (@gJ [] [(121,117),(122,118),(123,16),(124,120)] []) <|pp (@gJ [] [(117,121),(118,122),(119,123),(120,124)] []) <|pp (@gJ [] [(117,121),(118,122),(119,18),(120,124)] []) ());exact uH
theorem F.jB {n:Nat} : ∀{aX r},G.jB n aX=some r->fF pZ 75 [oS aX] (oB r):=by intro aX r h;refine bI K.jB (tq ?_);unfold C.jB;rcases n with _|n<;>simp only[G.jB,reduceCtorEq]at h;have z:=ji (pp @F.iP ()) (pp (@uM (Int) _ (λn x=>G.jB.L1 n aX x) r (λx=>gY.of [eS 0 aX,eI 3 x] [])) ()) (pp (bW @G.jB.L1.eq_1 <|@G.jB.L1.eq_2) ()) (pp (@gJ [] [] []) ());exact uH
theorem F.gX {n:Nat} : ∀{aX r},G.gX n aX=some r->fF pZ 35 [.agg (wU aX)] (oB r):=by intro aX r h;refine bI K.gX (tq ?_);unfold C.gX;rcases n with _|n<;>simp only[G.gX,reduceCtorEq]at h;have z:=ji (pp @F.jB <|pp @F.iI <|pp @F.iP ()) (pp (@uM (Int) _ (λn x=>G.gX.L1 n aX x) r (λx=>gY.of [eP 1 103,eI 3 x] [(103,.var (wU aX))])) ()) (pp (bW @G.gX.L1.eq_1 <|@G.gX.L1.eq_2) ()) (pp (@gJ [] [(103,10)] []) <|pp (@gJ [] [(103,103)] []) ());exact uH
theorem F.mG {n:Nat} : ∀{aX fU aG r},G.mG n aX fU aG=some r->fF pZ 84 [.agg (wU aX),oS fU,.agg (wN aG)] (.AB [(true,(wU r.1)),(true,(wR r.2))]):=by intro aX fU aG r h;refine bI K.mG (tq ?_);unfold C.mG;rcases n with _|n<;>simp only[G.mG,reduceCtorEq]at h;have z:=IM (pp @F.pY <|pp @F.mP <|pp @F.gX <|pp @F.uD <|pp @F.fO <|pp @F.pG ()) (pp (@Io (Int) _ (λn x=>G.mG.K1 n aX fU aG x) r (λx=>gY.of [eS 1 fU,eP 3 101,eP 5 102,eP 6 103,eP 7 104,eI 8 x] [(101,.var (wU aX)),(102,.var (wN aG)),(103,.var [.nS 7,wI 0]),(104,.var [wI 0,.c (.str []),wI 0,wI 0,wI 0,.c (.str []),.nS 1,.nS 5])])) ()) (pp (bW @G.mG.K1.eq_1 <|@G.mG.K1.eq_2) ()) (pp (@gJ [] [(101,10),(102,11),(103,12),(104,13)] []) ());exact uH
theorem F.kS {n:Nat} : ∀{aX nI r},G.kS n aX nI=some r->fF pZ 38 [.agg (wU aX),.agg (wQ nI)] (.AB [(true,(wU r.1)),(true,(wR r.2))]):=by intro aX nI r h;refine bI K.kS (tq ?_);unfold C.kS;rcases n with _|n<;>simp only[G.kS,reduceCtorEq]at h;have:=Mk.mk 1;have:=Mk.mk 2;have z:=WW (pp @F.pY <|pp @F.fO <|pp @F.pG <|pp @F.uD <|pp @F.wW <|pp @F.cO <|pp @F.mG <|pp @F.sS <|pp @F.jG <|pp @F.rF ()) (pp (@Io (Bool×Int×Int×fD×List fD×List aj) _ (λn x=>G.kS.K1 n aX nI x.1 x.2.1 x.2.2.1 x.2.2.2.1 x.2.2.2.2.1 x.2.2.2.2.2) r (λx=>gY.of [eP 2 101,eP 3 102,eP 4 103,eP 5 104,eP 8 105,eB 9 x.1] [(101,.var (wU aX)),(102,.var (wQ nI)),(103,.var [.nS 7,wI 0]),(104,.var [wI 0,.c (.str []),wI 0,wI 0,wI 0,.c (.str []),.nS 1,.nS 5]),(105,.var [wI x.2.1,wI x.2.2.1,wS x.2.2.2.1,wT x.2.2.2.2.1,wK x.2.2.2.2.2])])) <|pp (@Io (Bool×Int×Int×fD×List fD×List aj) _ (λn x=>G.kS.K2 n aX nI x.1 x.2.1 x.2.2.1 x.2.2.2.1 x.2.2.2.2.1 x.2.2.2.2.2) r (λx=>gY.of [eP 2 106,eP 3 107,eP 4 108,eP 5 109,eP 8 110,eB 9 x.1] [(106,.var (wU aX)),(107,.var (wQ nI)),(108,.var [.nS 7,wI 0]),(109,.var [wI 0,.c (.str []),wI 0,wI 0,wI 0,.c (.str []),.nS 1,.nS 5]),(110,.var [wI x.2.1,wI x.2.2.1,wS x.2.2.2.1,wT x.2.2.2.2.1,wK x.2.2.2.2.2])])) ()) (pp (bW @G.kS.K1.eq_1 <|bW @G.kS.K1.eq_2 <|bW @G.kS.K2.eq_1 <|@G.kS.K2.eq_2) ()) (pp (@gJ [] [(101,10),(102,11),(103,12),(104,13),(105,14)] []) <|pp (@gJ [] [(106,10),(107,11),(108,12),(109,13),(110,14)] []) ()) (pp (pp (rfl : @G.kS.K1=_) ()) <|pp (pp (rfl : @G.kS.K2=_) ()) ());exact ahY
theorem F.lT {n:Nat} : ∀{aX r},G.lT n aX=some r->fF pZ 109 [oS aX] (oB r):=by intro aX r h;refine bI K.lT (tq ?_);unfold C.lT;rcases n with _|n<;>simp only[G.lT,reduceCtorEq]at h;have z:=ji (pp @F.iP ()) (pp (@uM (Int) _ (λn x=>G.lT.L1 n aX x) r (λx=>gY.of [eS 0 aX,eI 3 x] [])) ()) (pp (bW @G.lT.L1.eq_1 <|@G.lT.L1.eq_2) ()) (pp (@gJ [] [] []) ());exact uH
theorem F.kH {n:Nat} : ∀{aU r},G.kH n aU=some r->fF pZ 78 [oT aU] (oB r):=by intro aU r h;refine bI K.kH (tq ?_);unfold C.kH;rcases n with _|n<;>simp only[G.kH,reduceCtorEq]at h;have z:=ji (pp @F.lT ()) (pp (@uM (Int) _ (λn x=>G.kH.L1 n aU x) r (λx=>gY.of [eT 0 aU,eI 3 x] [])) ()) (pp (bW @G.kH.L1.eq_1 <|@G.kH.L1.eq_2) ()) (pp (@gJ [] [] []) ());exact uH
theorem F.oL {n:Nat} : ∀{nI r},G.oL n nI=some r->fF pZ 36 [.agg (wQ nI)] (oB r):=by intro nI r h;refine bI K.oL (tq ?_);unfold C.oL;cases n;cases h;simp only[G.oL]at h;have z:=iW (pp @F.iP <|pp @F.jB <|pp @F.kH <|pp @F.iI <|pp @F.iL ());exact uH
theorem F.Bi {n:Nat} : ∀{wG r},G.Bi n wG=some r->fF pZ 70 [oI wG] (oB r):=by intro wG r h;refine bI K.Bi (tq ?_);unfold C.Bi;rcases n with _|n<;>simp only[G.Bi,reduceCtorEq]at h;have z:=BU;exact uH
theorem F.jl {n:Nat} : ∀{aU r},G.jl n aU=some r->fF pZ 61 [.one (.c (.sl 10 (ax bn.cells aU)))] (oB r):=by intro aU r h;refine bI K.jl (tq ?_);unfold C.jl;rcases n with _|n<;>simp only[G.jl,reduceCtorEq]at h;have z:=ji (pp @F.oL ()) (pp (@uM (Int) _ (λn x=>G.jl.L1 n aU x) r (λx=>gY.of [(0,.v true (.one (.c (.sl 10 (ax bn.cells aU))))),eI 3 x] [])) ()) (pp (bW @G.jl.L1.eq_1 <|@G.jl.L1.eq_2) ()) (pp (@gJ [] [] []) ());exact uH
theorem F.kP {n:Nat} : ∀{aX aU r},G.kP n aX aU=some r->fF pZ 29 [.agg (wU aX),.one (.c (.sl 10 (ax bn.cells aU)))] (.AB [(true,(wU r.1)),(false,[.c (.sl 8 (ax bJ.cells r.2.1))]),(false,[wB r.2.2])]):=by intro aX aU r h;refine bI K.kP (tq ?_);unfold C.kP;rcases n with _|n<;>simp only[G.kP,reduceCtorEq]at h;have z:=ji (pp @F.gX <|pp @F.jl <|pp @F.fO <|pp @F.kS <|pp @F.Bi ()) (pp (@uM (Int×List bJ×List fB×Int) _ (λn x=>G.kP.L1 n aX aU x.1 x.2.1 x.2.2.1 x.2.2.2) r (λx=>gY.of [(1,.v true (.one (.c (.sl 10 (ax bn.cells aU))))),eP 2 109,eP 4 110,(7,.v true (.one (.own 111 x.2.1.length 8))),eP 8 112,eI 9 x.1] [(109,.var (wU aX)),(110,.var [.nS 7,wI 0]),(111,.dat 8 (ax bJ.cells x.2.1)),(112,.var [w7 x.2.2.1,wI x.2.2.2])])) ()) (pp (bW @G.kP.L1.eq_1 <|@G.kP.L1.eq_2) ()) (pp (@gJ [] [(109,10),(110,11),(111,12),(112,13)] []) <|pp (@gJ [] [(109,109),(110,110),(111,17),(112,112)] []) ());exact uH
end Go.Ab
section
namespace Go.Ab
open Go Go.ChangeShapes Go.WideShapes Go.ChangeAt Go.RowKit
def I0 (W:World):IH:=λb=>match W.heap[b]? with
 |some (.cells c _ _)=>some c
 |_=>none
theorem aho (W:World):Agree (I0 W) W:=by
 intro b c h;unfold I0 at h;split at h
 ·rename_i c' e fr hb;cases h;exact⟨e,fr,hb⟩
 ·cases h
theorem aea (W:World){a:Addr}{v:Value}(h:W.cell? a=some v):(I0 W).cell a=some v:=by
 unfold Go.World.cell? at h;unfold IH.cell I0;split at h
 ·rename_i c e fr hb;split at h
  ·cases h
  ·rename_i hs;rw[au hs,hb];exact h
 ·cases h
theorem Yx {W W':World}{M:Nat->Prop}(h:DW W W' M)(hM:∀k,¬M k):Below W.heap.size W W':=
 ⟨h.os,h.tape,h.output,h.size,λk hk=>h.block k hk (hM k)⟩
theorem SN (ρ:Ren)(k:Nat):¬ ∃b,(Dj [] b).uses (ρ b) k:=λ⟨b,h⟩=>by simp only[Dj,List.getD_nil]at h;exact h
theorem aga {P:Program}{W:World}{x:String×DataW Unit}{rest:List (String×DataW Unit)}(h:laidMet P (x::rest) W):laidMet P rest W:=by obtain⟨ps,hv,hn,hc⟩:=h;obtain⟨g,t,cs,fuel,p,q,h1,h2,h3,h4,h5,rfl⟩:=hv;exact⟨q,h5,(List.nodup_append.1 hn).2.1,λb off hp=>hc b off (List.mem_append_right _ hp)⟩
theorem XQ {P:Program}{W:World} : ∀(k:Nat) {l:List (String×DataW Unit)},laidMet P l W->laidMet P (l.drop k) W
 |0,l,h=>h
 |k+1,[],h=>h
 |k+1,x::l,h=>XQ k (l:=l) (aga h)
theorem ana {P:Program}{W:World}{rest:List (String×DataW Unit)}{g:Nat}{t e:TypeId}
 (hg:P.globalNamed "internal/strconv.uint64pow10" = some g) (hty:(P.globals[g]?).map (·.type)=some t) (ht:P.underlying t=some (.array 20 e)) (he:P.underlying e=some (.int .u64)) (hce:P.cellsOf e=1) (hct:P.cellsOf t=20)
 (h:laidMet P (("internal/strconv.uint64pow10",Lib.tabData .u64 xZ)::rest) W):∀g',P.globalNamed "internal/strconv.uint64pow10" = some g'->I0 W g'=some (xZ.map λz=>Go.Value.int .u64 z).toArray:=by
 have h1:=Lib.tabIs_of_head hg hty ht he hce hct h;intro g' hg';rw[hg]at hg';simp only[aH]at hg';subst hg';unfold Lib.TabIs World.var? at h1;simp only[hg]at h1;unfold I0
 revert h1
 split<;>simp_all
theorem am2 {P:Program}{W:World}{n:String}{g:Nat}{t:TypeId}(h:W.ShapedOpen P)(hn:P.globalNamed n=some g)(hg:g<P.globals.size)
 (h0:((begin P (λ_ _=>0) default).world.heap[g]?).bind Obj.row? = some (#[.int .i64 0],t)) (hb:P.buildable t=true) (hc:P.cellTypes P.depth t=some [t]) (hu:P.underlying t=some (.int .i64)) :
 ∀g',P.globalNamed n=some g'->∃m,(I0 W).cell ⟨g',0,none⟩=some (.int .i64 m):=by
 intro g' hg';cases hn.symm.trans hg';obtain⟨m,hm⟩:=Go.Proofs.cell_of_shapedOpen_int h hg h0 rfl hb hc hu;exact⟨m,aea W hm⟩
end Go.Ab
end
namespace Go.Ab
open Go
section
variable {P:Program} {W:World} {H:Type} {enc:TypeId×Value->H}
def Rn (I:IH)(cs:List Value)(xs:List Cell):Prop:=xs.length=cs.length/\∀(i:Nat) v c,cs[i]? = some v->xs[i]? = some c->Rd I v c
theorem Rn.nil {I:IH} : Rn I [] []:=⟨rfl,λi v c h=>by simp at h⟩
theorem Rn.app {I:IH}{a b:List Value}{x y:List Cell}(h:Rn I a x)(k:Rn I b y):Rn I (a++b) (x++y):=by
 refine⟨by rw[bZ,bZ,h.1,k.1],λi v c hv hc=>?_⟩;have hl:=h.1;by_cases hi:i<a.length
 ·rw[cu hi]at hv;rw[cu aI]at hc;exact h.2 i v c hv hc
 ·rw[dU aI]at hv;rw[dU aI,hl]at hc;exact k.2 _ v c hv hc
theorem Rn.one {I:IH}{v:Value}{c:Cell}(h:Rd I v c):Rn I [v] [c]:=by
 refine⟨rfl,λi v' c' hv hc=>?_⟩
 match i with
 | 0=>simp only[eY,aH]at hv hc;subst hv hc;exact h
 |i+1=>simp at hv
theorem Rn.fst {I:IH}{v:Value}{c:Cell}(h:Rn I [v] [c]):Rd I v c:=h.2 0 v c rfl rfl
section
variable {fuel:Nat} {t:TypeId} {cs:List Value} {d:DataW H} {ps:List MemPlace}
theorem trod_int {k:IntKind}(ht:P.underlying t=some (.int k))(h:ny enc P W 0 (λ_=>true) true fuel t cs=some (d,ps)):∃n,cs=[.int k n]/\(Lit.int k n).wf=true:=by
 cases fuel with
 |zero=>cases h
 | succ fuel=>unfold ny at h;rw[ht]at h;split at h<;>simp_all
theorem ajG (ht:P.underlying t=some .string)(h:ny enc P W 0 (λ_=>true) true fuel t cs=some (d,ps)):∃s:ByteArray,cs=[.string s]/\s.size<=maxLen:=by
 cases fuel with
 |zero=>cases h
 | succ fuel=>unfold ny at h;rw[ht]at h;split at h<;>simp_all
end
theorem mapM_at {α β:Type}{f:α->Option β} : ∀{l:List α} {ys:List β},l.mapM f=some ys->ys.length=l.length/\∀(i:Nat) x,l[i]? = some x->f x=ys[i]?
 | [],ys,h=>by simp at h;subst h;exact⟨rfl,λi x hx=>by simp at hx⟩
 | a::l,ys,h=>by
   rw[List.mapM_cons]at h;cases ha:f a with
   |none=>rw[ha]at h;cases h
   | some y=>
     cases hl:l.mapM f with
     |none=>rw[ha,hl]at h;cases h
     | some r=>
       rw[ha,hl]at h;have:ys=y::r:=(by simpa using h.symm);subst this;obtain⟨h1,h2⟩:=mapM_at hl;refine⟨by simp[h1],λi x hx=>?_⟩
       match i with
       |0=>simp at hx;subst hx;simpa using ha
       |i+1=>simp at hx;simpa using h2 i x hx
theorem abu {β:Type}{f:Nat->Option β}{n:Nat}{ys:List β}(h:(tY n).mapM f=some ys):ys.length=n/\∀i,i<n->f i=ys[i]?:=by obtain⟨h1,h2⟩:=mapM_at h;rw[List.length_range]at h1;exact⟨h1,λi hi=>h2 i i (by simp[hi])⟩
theorem cells_at {a:Addr}{n:Nat}{ecs:List Value}(h:W.cells? 0 a n=some ecs):ecs.length=n/\∀j v,ecs[j]? = some v->(I0 W).cell (a.add j)=some v:=by
 unfold World.cells? at h;rw[aA (oN _)]at h;obtain⟨h1,h2⟩:=abu h;refine⟨h1,λj v hv=>?_⟩;have hj:j<n:=by have:=(aT.1 hv).1;omega
 have:=h2 j hj;rw[hv]at this;exact aea W this
theorem add_add (a:Addr)(x y:Nat):(a.add x).add y=a.add (x+y):=by
 unfold Go.Addr.add;by_cases hx:x=0
 ·subst hx;simp
 ·by_cases hy:y=0
  ·subst hy;simp
  ·have:¬x+y=0:=(by omega);simp[hx,hy,Nat.add_assoc]
theorem Jg {X:Type}{cells:X->List Cell}{Q:X->Prop}{sz:Nat}{t e:TypeId}{fuel:Nat}{cs:List Value}{d:DataW H}{ps:List MemPlace}(ht:P.underlying t=some (.slice e))(hce:P.cellsOf e=sz)
 (hX:∀f ecs d p,f<fuel->ny enc P W 0 (λ_=>true) true f e ecs=some (d,p)->∃x,Rn (I0 W) ecs (cells x)/\Q x)
 (h:ny enc P W 0 (λ_=>true) true fuel t cs=some (d,ps)):∃(l:List X) (v:Value),cs=[v]/\Rd (I0 W) v (.sl sz (l.map cells))/\l.length<=maxLen/\∀x,x∈l->Q x:=by
 subst hce;cases fuel with
 |zero=>cases h
 | succ fuel=>
   unfold ny at h;rw[ht]at h;split at h<;>(try(simp at *;done))<;>(try contradiction)
   ·refine⟨[],_,rfl,.sl none 0 0 _ [] (λ_ _=>undef) rfl (aC _) (oN _) (λe h=>by cases h) (λh=>by omega) (λad h=>by cases h) (λi j c h=>by simp at h),oN _,λx h=>by cases h⟩
   ·rename_i e' a len cap heq;have:e'=e:=(by simpa using heq.symm);subst this;simp only at h;split at h
    ·rename_i hc;obtain⟨_,hlc,hcm⟩:=hc;cases hm:(tY len).mapM (λi=>(W.cells? 0 (a.add (i*P.cellsOf e')) (P.cellsOf e')).bind (ny enc P W 0 (λ_=>true) true fuel e'))with
     |none=>rw[hm]at h;cases h
     | some ys=>
       obtain⟨h1,h2⟩:=abu hm;have elem:∀i,i<len->∃x ecs,W.cells? 0 (a.add (i*P.cellsOf e')) (P.cellsOf e')=some ecs/\Rn (I0 W) ecs (cells x)/\Q x:=λi hi=>by
        have:=h2 i hi;rw[aB aI]at this;cases hw:W.cells? 0 (a.add (i*P.cellsOf e')) (P.cellsOf e')with
        |none=>rw[hw]at this;cases this
        | some ecs=>rw[hw]at this;obtain⟨x,hx⟩:=hX fuel ecs _ _ (Nat.lt_succ_self _) this;exact⟨x,ecs,rfl,hx⟩
       have pick:∃l:List X,l.length=len/\∀i (hi:i<l.length),∃ecs,W.cells? 0 (a.add (i*P.cellsOf e')) (P.cellsOf e')=some ecs/\Rn (I0 W) ecs (cells l[i])/\Q l[i]:=by refine⟨(tY len).attach.map λi=>(elem i.1 (by simpa using i.2)).choose,mg,λi hi=>?_⟩;have hi':i<len:=(by simpa using hi);obtain⟨ecs,h3⟩:=(elem i hi').choose_spec;refine⟨ecs,h3.1,?_⟩;simpa using h3.2
       obtain⟨l,hl,hp'⟩:=pick;have hp:=λi hi=>(hp' i hi).imp λ_ h=>(⟨h.1,h.2.1⟩:_/\_);refine⟨l,_,rfl,.sl (some a) len cap _ _ (λi j=>((I0 W).cell ((a.add (i*P.cellsOf e'+j)))).getD undef) (by rw[vg,hl]) hlc hcm (λx hx=>?_) (λ_ h=>by cases h) (λad hd i j hi hj=>?_) (λi j c hc=>?_),aI,λx hx=>?_⟩
       ·obtain⟨y,hy,rfl⟩:=List.mem_map.1 hx;obtain⟨i,hi,rfl⟩:=kG.1 hy;obtain⟨ecs,g1,g2⟩:=hp i hi;rw[g2.1,(cells_at g1).1]
       ·cases hd;obtain⟨ecs,g1,g2⟩:=hp i aI;obtain⟨q1,q2⟩:=cells_at g1;have:=q2 j ecs[j] (aB aI);have ea:(a.add (i*P.cellsOf e')).add j=a.add (i*P.cellsOf e'+j):=add_add _ _ _;rw[ea]at this;rw[this];rfl
       ·by_cases hi:i<l.length
        ·obtain⟨ecs,g1,g2⟩:=hp i hi;have e1:(l.map cells).getD i []=cells l[i]:=(by simp[List.getD,hi]);rw[e1]at hc;obtain⟨q1,q2⟩:=cells_at g1;have hj:j<ecs.length:=by
          have:=(aT.1 hc).1;have:=g2.1;omega
         have q3:=q2 j ecs[j] (aB hj);have ea:(a.add (i*P.cellsOf e')).add j=a.add (i*P.cellsOf e'+j):=add_add _ _ _;rw[ea]at q3;rw[q3];exact g2.2 j _ c (aB hj) hc
        ·have:(l.map cells).getD i []=[]:=(by simp[List.getD,List.getElem?_eq_none (by simpa using hi:(l.map cells).length<=i)]);rw[this]at hc;simp at hc
       ·obtain⟨i,hi,rfl⟩:=kG.1 hx;exact(hp' i hi).choose_spec.2.2
    ·cases h
theorem trod_struct {t:TypeId}{fs:Array Field}{fuel:Nat}{cs:List Value}{d:DataW H}{ps:List MemPlace}(ht:P.underlying t=some (.struct fs))
 (h:ny enc P W 0 (λ_=>true) true fuel t cs=some (d,ps)):∃f,fuel=f+1/\cs.length=P.cellsOf t/\∀(k:Nat) x,fs.toList[k]? = some x->∃d' p',ny enc P W 0 (λ_=>true) true f x.type ((cs.drop x.offset).take (P.cellsOf x.type))=some (d',p'):=by
 cases fuel with
 |zero=>cases h
 | succ fuel=>
   refine⟨fuel,rfl,?_⟩;unfold ny at h;rw[ht]at h;split at h<;>(try(simp at *;done))<;>(try contradiction);rename_i cs0 x0 cs1 fs' heq;have:fs'=fs:=(by simpa using heq.symm);subst this;split at h
   ·rename_i hl;refine⟨hl,λk x hx=>?_⟩;cases hm:fs'.toList.mapM (λf=>ny enc P W 0 (λ_=>true) true fuel f.type ((cs0.drop f.offset).take (P.cellsOf f.type)))with
    |none=>rw[hm]at h;cases h
    | some ys=>
      obtain⟨h1,h2⟩:=mapM_at hm;have h3:=h2 k x hx;have hk:k<ys.length:=by have:=(aT.1 hx).1;omega
      rw[aB hk]at h3;exact⟨_,_,h3⟩
   ·cases h
end
end Go.Ab
section
namespace Go.Ab
open Go Go.ChangeShapes Go.WideShapes Go.ChangeAt Go.RowKit
theorem ala {I:IH}{ρ:Ren}{cs:Array Value}{xs:List Cell}(h:Rn I cs.toList xs):GV I ρ (.agg cs) (.agg (xs.map .c)):=by refine⟨cs,rfl,by rw[vg];exact h.1.symm,λj v x hv hx=>?_⟩;rw[dG]at hx;obtain⟨c,hc,rfl⟩:=dD.1 hx;exact h.2 j v c hv hc
theorem aoT {I:IH}{ρ:Ren}{v:Value}{x:Cell}(h:Rd I v x):GV I ρ v (.one (.c x)):=h
theorem akO {I:IH}{ρ:Ren}{v u:Value}{x y:AV}(h:GV I ρ v x)(k:GV I ρ u y):UX I ρ [v,u] [x,y]:=by
 refine⟨rfl,λj v' x' hv hx=>?_⟩
 match j with
 | 0=>simp only[eY,aH]at hv hx;subst hv hx;exact h
 | 1=>simp only[List.getElem?_cons_succ,eY,aH]at hv hx;subst hv hx;exact k
 |j+2=>simp at hv
theorem amS {P:Program}{f:FuncId}{W:World}{vs:List Value}{as_:List AV}(hT:Tabs P (I0 W))(hg:UX (I0 W) (λ_=>none) vs as_)(hp:fF P f as_ (xX true)) :
 Calls P f vs.toArray W λe W'=>e = .returned (.bool true)/\Below W.heap.size W W':=by
 refine(hp (I0 W) (λ_=>none) W vs hT (aho W) ⟨λb=>by simp only[Dj,List.getD_nil];exact rfl,λb b' k h=>(SN (λ_=>none) k ⟨b,h⟩).elim,λb k h=>(SN (λ_=>none) k ⟨b,h⟩).elim⟩ hg (λ_ _=>True) .abN).mono ?_;rintro e W' ⟨⟨v,J,σ,r,bs,rfl,⟨rfl,rfl⟩,hg,_,_,_,hfr,_⟩,_⟩;refine⟨?_,Yx hfr (SN (λ_=>none))⟩;cases hg;rfl
end Go.Ab
end
namespace Go.Ab
open Go
section
variable {P:Program} {W:World} {H:Type} {enc:TypeId×Value->H}
structure UD (P:Program)(tI tS tL tN tK:TypeId):Prop where
 i:P.underlying tI=some (.int .i64)
 s:P.underlying tS=some .string
 l:P.underlying tL=some (.slice tS)
 k:P.underlying tK=some (.slice tN)
 n:∃fs,P.underlying tN=some (.struct fs)/\fs.toList.map (λf=>(f.type,f.offset))=[(tI,0),(tI,1),(tS,2),(tL,3),(tK,4)]
 ci:P.cellsOf tI=1
 cs:P.cellsOf tS=1
 cl:P.cellsOf tL=1
 ck:P.cellsOf tK=1
 cn:P.cellsOf tN=5
abbrev KO (enc:TypeId×Value->H)(P:Program)(W:World):=ny enc P W 0 (λ_=>true) true
theorem QY {fuel:Nat}{t:TypeId}{cs:List Value}{d:DataW H}{ps:List MemPlace}(ht:P.underlying t=some .string)(h:KO enc P W fuel t cs=some (d,ps)):∃s:fD,Rn (I0 W) cs (cS s)/\s.length<=maxLen:=by
 obtain⟨s,rfl,hl⟩:=ajG ht h;refine⟨s.data.toList,Rn.one ?_,hl⟩;have:s=⟨⟨s.data.toList⟩⟩:=by cases s;rfl
 rw[this];exact Rd.str _ hl
theorem KG {fuel:Nat}{t:TypeId}{cs:List Value}{d:DataW H}{ps:List MemPlace}(ht:P.underlying t=some (.int .i64))(h:KO enc P W fuel t cs=some (d,ps)):∃n:Int,Rn (I0 W) cs [.lit (.int .i64 n)] /\ -9223372036854775808<=n/\n<=9223372036854775807:=by obtain⟨n,rfl,hw⟩:=trod_int ht h;refine⟨n,Rn.one (Rd.lit _ rfl),?_⟩;have hw:(decide (yK.min<=n)&&decide (n<=yK.max))=true:=hw;obtain⟨h1,h2⟩:=DN.1 hw;exact⟨of_decide_eq_true h1,of_decide_eq_true h2⟩
theorem KH {fuel:Nat}{t tS:TypeId}{cs:List Value}{d:DataW H}{ps:List MemPlace}(ht:P.underlying t=some (.slice tS))(hS:P.underlying tS=some .string)(hc:P.cellsOf tS=1)(h:KO enc P W fuel t cs=some (d,ps)):∃l:List fD,Rn (I0 W) cs [.sl 1 (l.map cS)]/\l.length<=maxLen/\∀s,s∈l->s.length<=maxLen:=by obtain⟨l,v,rfl,hr,hm,hq⟩:=Jg (cells:=cS) (Q:=λs=>s.length<=maxLen) ht hc (λf ecs d p _ h=>QY hS h) h;exact⟨l,Rn.one hr,hm,hq⟩
theorem ags : maxLen<=mx:=xB
theorem part {cs:List Value}{k:Nat}(h:k<cs.length):(cs.drop k).take 1=[cs[k]]:=by rw[List.drop_eq_getElem_cons h];rfl
theorem Tc {tI tS tL tN tK:TypeId}(T:UD P tI tS tL tN tK):∀(fuel:Nat) {cs:List Value} {d:DataW H} {ps:List MemPlace},KO enc P W fuel tN cs=some (d,ps)->∃n:aj,Rn (I0 W) cs (aj.cells n)/\cs.length=5/\Ar mx fuel n:=by
 intro fuel
 induction fuel using iw with|_ fuel ih=>
 intro cs d ps h;obtain⟨fs,hfs,hl⟩:=T.n;obtain⟨f,rfl,h5,hx⟩:=trod_struct hfs h;rw[T.cn]at h5;have at_:∀k ty off,[(tI,0),(tI,1),(tS,2),(tL,3),(tK,4)][k]? = some (ty,off)->∃d' p',KO enc P W f ty ((cs.drop off).take (P.cellsOf ty))=some (d',p'):=λk ty off hk=>by rw[<- hl,dG]at hk;obtain⟨x,hx1,hx2⟩:=dD.1 hk;cases hx2;exact hx k x hx1
 obtain⟨d0,p0,h0⟩:=at_ 0 tI 0 rfl
 obtain⟨d1,p1,h1⟩:=at_ 1 tI 1 rfl
 obtain⟨d2,p2,h2⟩:=at_ 2 tS 2 rfl
 obtain⟨d3,p3,h3⟩:=at_ 3 tL 3 rfl
 obtain⟨d4,p4,h4⟩:=at_ 4 tK 4 rfl
 rw[T.ci,part aI]at h0 h1;rw[T.cs,part aI]at h2;rw[T.cl,part aI]at h3;rw[T.ck,part aI]at h4;obtain⟨z0,r0,_⟩:=KG T.i h0;obtain⟨z1,r1,_⟩:=KG T.i h1;obtain⟨z2,r2,m2⟩:=QY T.s h2;obtain⟨z3,r3,m3,q3⟩:=KH T.l T.s T.cs h3;obtain⟨z4,v4,e4,r4,m4,q4⟩:=Jg (cells:=aj.cells) (Q:=λn=>Ar mx f n) T.k T.cn (λf' ecs d p hf hh=>(ih f' aI hh).imp λn hn=>⟨hn.1,hn.2.2.mono (aC _) aI⟩) h4;have hM:=ags;refine⟨aj.mk z0 z1 z2 z3 z4,?_,h5,bM m2 hM,bM m3 hM,λs hs=>bM (q3 s hs) hM,bM m4 hM,trivial,q4⟩;rw[aj.iG];have ec:cs=[cs[0]]++([cs[1]]++([cs[2]]++([cs[3]]++[cs[4]]))):=by
  match cs,h5 with
  |[a,b,c,d,e],_=>rfl
 rw[ec];have e4':cs[4]=v4:=by simpa using e4
 exact r0.app (r1.app (r2.app (r3.app (e4'▸Rn.one r4))))
structure aec (P:Program)(tI tS tL tN tK tO tP:TypeId):Prop where
 nt:UD P tI tS tL tN tK
 p:P.underlying tP=some (.slice tO)
 o:∃fs,P.underlying tO=some (.struct fs)/\fs.toList.map (λf=>(f.type,f.offset))=[(tI,0),(tL,1),(tL,2),(tN,3)]
 co:P.cellsOf tO=8
 cp:P.cellsOf tP=1
theorem alb {tI tS tL tN tK tO tP:TypeId}(T:aec P tI tS tL tN tK tO tP){fuel:Nat}{cs:List Value}{d:DataW H}{ps:List MemPlace}(h:KO enc P W fuel tO cs=some (d,ps)):∃o:uO,Rn (I0 W) cs (uO.cells o)/\cs.length=8/\Gp mx fuel o:=by
 obtain⟨fs,hfs,hl⟩:=T.o;obtain⟨f,rfl,h8,hx⟩:=trod_struct hfs h;rw[T.co]at h8;have at_:∀k ty off,[(tI,0),(tL,1),(tL,2),(tN,3)][k]? = some (ty,off)->∃d' p',KO enc P W f ty ((cs.drop off).take (P.cellsOf ty))=some (d',p'):=λk ty off hk=>by rw[<- hl,dG]at hk;obtain⟨x,hx1,hx2⟩:=dD.1 hk;cases hx2;exact hx k x hx1
 obtain⟨d0,p0,h0⟩:=at_ 0 tI 0 rfl
 obtain⟨d1,p1,h1⟩:=at_ 1 tL 1 rfl
 obtain⟨d2,p2,h2⟩:=at_ 2 tL 2 rfl
 obtain⟨d3,p3,h3⟩:=at_ 3 tN 3 rfl
 rw[T.nt.ci,part aI]at h0;rw[T.nt.cl,part aI]at h1 h2;obtain⟨z0,r0,_⟩:=KG T.nt.i h0;obtain⟨z1,r1,m1,q1⟩:=KH T.nt.l T.nt.s T.nt.cs h1;obtain⟨z2,r2,m2,q2⟩:=KH T.nt.l T.nt.s T.nt.cs h2;obtain⟨n,r3,_,q3⟩:=Tc T.nt f h3;have hM:=ags;rw[aj.iG,T.nt.cn]at r3;refine⟨uO.mk z0 z1 z2 n,?_,h8,⟨bM m1 hM,λs hs=>bM (q1 s hs) hM⟩,⟨bM m2 hM,λs hs=>bM (q2 s hs) hM⟩,q3.mono (aC _) aI⟩;have ec:cs=[cs[0]]++([cs[1]]++([cs[2]]++(cs.drop 3).take 5)):=by
  match cs,h8 with
  |[a,b,c,d,e,f,g,h],_=>rfl
 rw[ec];exact r0.app (r1.app (r2.app r3))
theorem ajl {tI tS tL tN tK tO tP:TypeId}(T:aec P tI tS tL tN tK tO tP){fuel:Nat}{cs:List Value}{d:DataW H}{ps:List MemPlace}(h:KO enc P W fuel tP cs=some (d,ps)):∃(l:List uO) (v:Value),cs=[v]/\Rd (I0 W) v (.sl 8 (l.map uO.cells))/\l.length<=maxLen/\∀o,o∈l->∃D,Gp mx D o:=
 Jg (cells:=uO.cells) (Q:=λo=>∃D,Gp mx D o) T.p T.co (λf ecs d p _ hh=>(alb T hh).imp λn hn=>⟨hn.1,f,hn.2.2⟩) h
end
section
variable {P:Program} {W:World} {H:Type} {enc:TypeId×Value->H}
structure acg (P:Program)(tI tS tL tN tK tD tE tT:TypeId):Prop where
 nt:UD P tI tS tL tN tK
 d:∃fs,P.underlying tD=some (.struct fs)/\fs.toList.map (λf=>(f.type,f.offset))=[(tS,0),(tI,1),(tN,2)]
 e:P.underlying tE=some (.slice tD)
 t:∃fs,P.underlying tT=some (.struct fs)/\fs.toList.map (λf=>(f.type,f.offset))=[(tE,0),(tI,1)]
 cd:P.cellsOf tD=7
 ce:P.cellsOf tE=1
 ct:P.cellsOf tT=2
theorem ahz {f:Nat}{cs:List Value}{fs:Array Field}{l:List (TypeId×Nat)}(hl:fs.toList.map (λf=>(f.type,f.offset))=l)
 (hx:∀(k:Nat) x,fs.toList[k]? = some x->∃d' p',ny enc P W 0 (λ_=>true) true f x.type ((cs.drop x.offset).take (P.cellsOf x.type))=some (d',p')) :
 ∀(k:Nat) (ty:TypeId) (off:Nat),l[k]? = some (ty,off)->∃d' p',KO enc P W f ty ((cs.drop off).take (P.cellsOf ty))=some (d',p'):=λk ty off hk=>by
 rw[<- hl,dG]at hk;obtain⟨x,hx1,hx2⟩:=dD.1 hk;cases hx2;exact hx k x hx1
theorem agB {tI tS tL tN tK tD tE tT:TypeId}(T:acg P tI tS tL tN tK tD tE tT){fuel:Nat}{cs:List Value}{d:DataW H}{ps:List MemPlace}(h:KO enc P W fuel tD cs=some (d,ps)):∃o:fB,Rn (I0 W) cs (fB.cells o)/\cs.length=7/\Yq mx fuel o:=by
 obtain⟨fs,hfs,hl⟩:=T.d;obtain⟨f,rfl,h7,hx⟩:=trod_struct hfs h;rw[T.cd]at h7;have at_:=ahz hl hx
 obtain⟨d0,p0,h0⟩:=at_ 0 tS 0 rfl
 obtain⟨d1,p1,h1⟩:=at_ 1 tI 1 rfl
 obtain⟨d2,p2,h2⟩:=at_ 2 tN 2 rfl
 rw[T.nt.cs,part aI]at h0;rw[T.nt.ci,part aI]at h1;obtain⟨z0,r0,m0⟩:=QY T.nt.s h0;obtain⟨z1,r1,_⟩:=KG T.nt.i h1;obtain⟨n,r2,_,q2⟩:=Tc T.nt f h2;have hM:=ags;rw[aj.iG,T.nt.cn]at r2;refine⟨fB.mk z0 z1 n,?_,h7,bM m0 hM,q2.mono (aC _) aI⟩;have ec:cs=[cs[0]]++([cs[1]]++(cs.drop 2).take 5):=by
  match cs,h7 with
  |[a,b,c,d,e,f,g],_=>rfl
 rw[ec];exact r0.app (r1.app r2)
theorem adG {tI tS tL tN tK tD tE tT:TypeId}(T:acg P tI tS tL tN tK tD tE tT){fuel:Nat}{cs:List Value}{d:DataW H}{ps:List MemPlace}(h:KO enc P W fuel tT cs=some (d,ps)) :
 ∃s:bP,Rn (I0 W) cs [.sl 7 (s.bH.map fB.cells),.lit (.int .i64 s.kZ)]/\cs.length=2/\s.bH.length<=mx/\∃D,∀o,o∈s.bH->Yq mx D o:=by
 obtain⟨fs,hfs,hl⟩:=T.t;obtain⟨f,rfl,h2,hx⟩:=trod_struct hfs h;rw[T.ct]at h2;have at_:=ahz hl hx
 obtain⟨d0,p0,h0⟩:=at_ 0 tE 0 rfl
 obtain⟨d1,p1,h1⟩:=at_ 1 tI 1 rfl
 rw[T.ce,part aI]at h0;rw[T.nt.ci,part aI]at h1;obtain⟨z0,v0,e0,r0,m0,q0⟩:=Jg (cells:=fB.cells) (Q:=λn=>Yq mx f n) T.e T.cd (λf' ecs d p _ hh=>(agB T hh).imp λn hn=>⟨hn.1,hn.2.2.1,hn.2.2.2.mono (aC _) aI⟩) h0;obtain⟨z1,r1,_⟩:=KG T.nt.i h1;refine⟨bP.mk z0 z1,?_,h2,bM m0 ags,f,q0⟩;have ec:cs=[cs[0]]++[cs[1]]:=by
  match cs,h2 with
  |[a,b],_=>rfl
 rw[ec];have e0':cs[0]=v0:=by simpa using e0
 exact(e0'▸Rn.one r0).app r1
structure ace (P:Program)(tI tS tL tN tK tO tP tR:TypeId):Prop where
 ot:aec P tI tS tL tN tK tO tP
 r:∃fs,P.underlying tR=some (.struct fs)/\fs.toList.map (λf=>(f.type,f.offset))=[(tI,0),(tS,1),(tL,2),(tL,3),(tN,4),(tP,9)]
 cr:P.cellsOf tR=10
theorem Zv {tI tS tL tN tK tO tP tR:TypeId}(T:ace P tI tS tL tN tK tO tP tR){fuel:Nat}{cs:List Value}{d:DataW H}{ps:List MemPlace}(h:KO enc P W fuel tR cs=some (d,ps)) :
 ∃q:bn,Rn (I0 W) cs [.lit (.int .i64 q.kQ),.str q.iC,.sl 1 (q.yL.map cS),.sl 1 (q.uN.map cS),.lit (.int .i64 q.Body.bQ),.lit (.int .i64 q.Body.wL),.str q.Body.lI,.sl 1 (q.Body.aO.map cS),.sl 5 (q.Body.aP.map aj.cells),.sl 8 (q.MH.map uO.cells)]/\cs.length=10/\∃D,afe D q:=by
 obtain⟨fs,hfs,hl⟩:=T.r;obtain⟨f,rfl,h10,hx⟩:=trod_struct hfs h;rw[T.cr]at h10;have N:=T.ot.nt;have at_:=ahz hl hx
 obtain⟨d0,p0,h0⟩:=at_ 0 tI 0 rfl
 obtain⟨d1,p1,h1⟩:=at_ 1 tS 1 rfl
 obtain⟨d2,p2,h2⟩:=at_ 2 tL 2 rfl
 obtain⟨d3,p3,h3⟩:=at_ 3 tL 3 rfl
 obtain⟨d4,p4,h4⟩:=at_ 4 tN 4 rfl
 obtain⟨d5,p5,h5⟩:=at_ 5 tP 9 rfl
 rw[N.ci,part aI]at h0;rw[N.cs,part aI]at h1;rw[N.cl,part aI]at h2 h3;rw[T.ot.cp,part aI]at h5;obtain⟨z0,r0,_⟩:=KG N.i h0;obtain⟨z1,r1,m1⟩:=QY N.s h1;obtain⟨z2,r2,m2,q2⟩:=KH N.l N.s N.cs h2;obtain⟨z3,r3,m3,q3⟩:=KH N.l N.s N.cs h3;obtain⟨n,r4,_,q4⟩:=Tc N f h4;obtain⟨z5,v5,e5,r5,m5,q5⟩:=ajl T.ot h5;have hM:=ags;obtain⟨D,hD,hO⟩:=Gp.all f q5;rw[aj.iG,N.cn]at r4;refine⟨bn.mk z0 z1 z2 z3 n z5,?_,h10,D,bM m1 hM,⟨bM m2 hM,λs hs=>bM (q2 s hs) hM⟩,⟨bM m3 hM,λs hs=>bM (q3 s hs) hM⟩,q4.mono (aC _) hD,bM m5 hM,hO⟩;have ec:cs=[cs[0]]++([cs[1]]++([cs[2]]++([cs[3]]++((cs.drop 4).take 5++[cs[9]])))):=by
  match cs,h10 with
  |[a,b,c,d,e,f,g,h,i,j],_=>rfl
 rw[ec];have e5':cs[9]=v5:=by simpa using e5
 exact r0.app (r1.app (r2.app (r3.app (r4.app (e5'▸Rn.one r5)))))
theorem Xi {tI tS tL tN tK tO tP tR tQ:TypeId}(T:ace P tI tS tL tN tK tO tP tR)(hQ:P.underlying tQ=some (.slice tR)){fuel:Nat}{cs:List Value}{d:DataW H}{ps:List MemPlace}(h:KO enc P W fuel tQ cs=some (d,ps)) :
 ∃(l:List bn) (v:Value),cs=[v]/\Rd (I0 W) v (.sl 10 (l.map bn.cells))/\l.length<=mx/\∀x,x∈l->∃D,afe D x:=by
 obtain⟨l,v,e,r,m,q⟩:=Jg (cells:=bn.cells) (Q:=λn=>∃D,afe D n) hQ T.cr (λf' ecs d p _ hh=>(Zv T hh).imp λn hn=>⟨by rw[bn.iG];exact hn.1,hn.2.2⟩) h;exact⟨l,v,e,r,bM m ags,q⟩
end
end Go.Ab
